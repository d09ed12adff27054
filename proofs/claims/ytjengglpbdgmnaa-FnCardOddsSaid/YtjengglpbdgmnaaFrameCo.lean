/- The frame of a law's proof: what a law's row asks behind a call that returned true and only made memory. No condition. -/
import Derived.Test.YtjengglpbdgmnaaEng5Co
import Derived.Test.YtjengglpbdgmnaaRows
import Derived.ProofKit
import Derived.OpenShut
import Derived.Lib.SmallJoins
namespace Go.Proofs.Ytjengglpbdgmnaa
open Go Go.RowKit V Go.ChangeShapes Go.WideShapes Go.ChangeAt
set_option linter.unusedVariables false
set_option linter.unusedSimpArgs false
theorem own : ownKnob Try.prog.godebug = none := by kernel_rfl
theorem laidOut : laidOutB Try.prog = true := by kernel_rfl
/-- A slice of integers that came in. -/
theorem open_slice_ints {H : Type} {enc : TypeId × Value → H} {P : Program} {W : World} {base : Nat} {t e : TypeId} {k : IntKind} {v : Value} {d : DataW H} {p : List MemPlace} (ht : P.underlying t = some (.slice e)) (he : P.underlying e = some (.int k)) (hc : P.cellsOf e = 1)
    (hval : Value.okWide P W .any base t v) (h : DataW.Trod enc P W 0 (fun _ => true) true t v d p) :
    ∃ (ca : Option Addr) (zs : List Int) (cc : Nat), v = .slice ca zs.length cc ∧ (∀ n ∈ zs, (Lit.int k n).wf = true) ∧ zs.length ≤ maxLen ∧ CellsAt ca (zs.map (Value.int k)) W := by
  obtain ⟨a1, len, cap, rfl⟩ := okWide_slice ht hval
  obtain ⟨fuel, hf⟩ := h
  rcases open_ints ht he hc hf with ⟨hcs, hx⟩ | ⟨a, len', cap', zs, hcs, _, hl, hm, hz, hx, hcell, hwz⟩
  · simp [Value.cells] at hcs
    obtain ⟨rfl, rfl, rfl⟩ := hcs
    exact ⟨none, [], 0, rfl, (fun _ h => nomatch h), Nat.zero_le _, (fun i v hi => by cases i <;> cases hi)⟩
  · simp [Value.cells] at hcs
    obtain ⟨rfl, rfl, rfl⟩ := hcs
    simp only [if_true] at hz
    have hlen : (zs.take len).length = len := by simp; omega
    refine ⟨some a, zs.take len, cap, by rw [hlen], fun n hn => hwz n (List.mem_of_mem_take hn), by omega, fun i v hi => ?_⟩
    have hi' : i < len := by have := (List.getElem?_eq_some_iff.1 hi).1; simp at this; omega
    have hz' : i < zs.length := by omega
    have hcj := hcell i hz'
    rw [List.getElem?_map, List.getElem?_take_of_lt hi', List.getElem?_eq_getElem hz'] at hi
    obtain rfl : Value.int k zs[i] = v := by simpa using hi
    obtain ⟨ab, ao, spot⟩ := a
    have hspot : spot = none := by simpa [Addr.add] using World.cell?_spot (hcell 0 (by omega))
    subst hspot
    refine ⟨ab, ao, rfl, ?_⟩
    rw [Addr.add_lit] at hcj
    simpa [List.getD, List.getElem?_eq_getElem hz'] using hcj
def canRead (P : Program) (ts : List TypeId) : Bool := ts.all fun t => P.readableRec t && decide (t < P.types.size)
/-- Arguments read as they did. -/
theorem trodAll_stays {H : Type} {enc : TypeId × Value → H} {P : Program} (hl : laidOutB P = true) {W W' : World} (hb : Below W.heap.size W W') :
    ∀ (ts : List TypeId) (vs : List Value) (ds : List (DataW H)) (ps : List MemPlace), canRead P ts = true → DataW.TrodAll enc P W 0 (fun _ => true) true ts vs ds ps → (∀ x ∈ ps, x.block < W.heap.size) →
      DataW.TrodAll enc P W' 0 (fun b => decide (b < W.heap.size)) true ts vs ds ps := by
  intro ts
  induction ts with
  | nil => intro vs ds ps _ h _; cases vs <;> cases ds <;> exact h
  | cons t ts ih =>
    intro vs ds ps hc h hlt
    cases vs with
    | nil => cases ds <;> exact h.elim
    | cons v vs =>
      cases ds with
      | nil => exact h.elim
      | cons d ds =>
        obtain ⟨p, q, h1, h2, rfl⟩ := h
        simp only [canRead, List.all_cons, Bool.and_eq_true, decide_eq_true_eq] at hc
        exact ⟨p, q, Below.trod hl hc.1.1 hc.1.2 h1 hb (fun x hx => hlt x (List.mem_append_left _ hx)), ih vs ds q hc.2 h2 (fun x hx => hlt x (List.mem_append_right _ hx)), rfl⟩
/-- What a law's row asks. -/
theorem law_post {H : Type} {enc : TypeId × Value → H} {f : Func} {s : ChangeSpec} {W W' : World} {args : Array Value} {ds : List (DataW H)} {before : List MemPlace} {tb : TypeId}
    (hW : DataW.Whole enc Try.prog f.params.toList s.vars false W args.toList ds [] before) (hv : s.vars = []) (ht : f.resultTypes = #[tb]) (hb : Try.prog.underlying tb = some .bool)
    (hr : (s.fn H (ds ++ [])).results = [.lit (.bool true)]) (ha : (s.fn H (ds ++ [])).args = ds) (hs : (s.fn H (ds ++ [])).vars = []) (hc : canRead Try.prog f.params.toList = true) (hx : Ext W W') :
    s.post enc Try.prog f false true false false W args (.bool true) W' := by
  have hW' := hW
  obtain ⟨p, q, h1, h2, hp, hfz, hnd⟩ := hW
  have hlt := hW'.lt
  rw [hv] at h2
  obtain ⟨_, hq⟩ := trodVars_none h2
  subst hq
  have hp' : before = p := by simpa using hp
  subst hp'
  refine ⟨ds, [], before, [], before, [], hW', ?_, ?_, ?_, ?_, fun h => by cases h⟩
  · rw [hr, ht]
    exact trodAll_cons_mk (shut_bool hb true) trodAll_mk0
  · rw [ha]
    exact trodAll_stays laidOut hx.below _ _ _ _ hc h1 hlt
  · rw [hv, hs]; exact rfl
  · exact hx.below.frame _
end Go.Proofs.Ytjengglpbdgmnaa
