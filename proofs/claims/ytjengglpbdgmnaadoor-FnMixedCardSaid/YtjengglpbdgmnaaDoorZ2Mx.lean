/- The frame of a law's proof: what a law's row asks behind a call that returned true and only made memory. No condition. -/
import Derived.Test.YtjengglpbdgmnaaDoorZ1Mx
import Derived.Test.YtjengglpbdgmnaaDoorRows
import Derived.ProofKit
import Derived.OpenShut
import Derived.Lib.SmallJoins
import Derived.Deep.Slices
namespace Go.Proofs.YtjengglpbdgmnaaDoor
open Go Go.RowKit V Go.ChangeShapes Go.WideShapes Go.ChangeAt
set_option linter.unusedVariables false
set_option linter.unusedSimpArgs false
theorem own : ownKnob Tryd.prog.godebug = none := by kernel_rfl
theorem laidOut : laidOutB Tryd.prog = true := by kernel_rfl
/-- A slice of integers that came in. -/
theorem open_slice_ints {H : Type} {enc : TypeId × Value → H} {P : Program} {W : World} {base : Nat} {t e : TypeId} {k : IntKind} {v : Value} {d : DataW H} {p : List MemPlace} (ht : P.underlying t = some (.slice e)) (he : P.underlying e = some (.int k)) (hc : P.cellsOf e = 1)
    (hval : Value.okWide P W .any base t v) (h : DataW.Trod enc P W 0 (fun _ => true) true t v d p) :
    ∃ (ca : Option Addr) (zs : List Int) (cc : Nat), v = .slice ca zs.length cc ∧ (∀ n ∈ zs, (Lit.int k n).wf = true) ∧ zs.length ≤ maxLen ∧ CellsAt ca (zs.map (Value.int k)) W := by
  obtain ⟨a1, len, cap, rfl⟩ := okWide_slice ht hval
  obtain ⟨fuel, hf⟩ := h
  rcases open_ints ht he hc hf with ⟨hcs, hx⟩ | ⟨a, len', cap', zs, hcs, _, hl, hm, hz, hx, hcell, hwz⟩
  · simp [Value.cells] at hcs
    obtain ⟨rfl, rfl, rfl⟩ := hcs
    exact ⟨none, [], 0, rfl, (fun _ h => nomatch h), Nat.zero_le _, (fun i v hi => by cases i <;> cases hi)⟩
  · simp [Value.cells] at hcs
    obtain ⟨rfl, rfl, rfl⟩ := hcs
    simp only [if_true] at hz
    have hlen : (zs.take len).length = len := by simp; omega
    refine ⟨some a, zs.take len, cap, by rw [hlen], fun n hn => hwz n (List.mem_of_mem_take hn), by omega, fun i v hi => ?_⟩
    have hi' : i < len := by have := (List.getElem?_eq_some_iff.1 hi).1; simp at this; omega
    have hz' : i < zs.length := by omega
    have hcj := hcell i hz'
    rw [List.getElem?_map, List.getElem?_take_of_lt hi', List.getElem?_eq_getElem hz'] at hi
    obtain rfl : Value.int k zs[i] = v := by simpa using hi
    obtain ⟨ab, ao, spot⟩ := a
    have hspot : spot = none := by simpa [Addr.add] using World.cell?_spot (hcell 0 (by omega))
    subst hspot
    refine ⟨ab, ao, rfl, ?_⟩
    rw [Addr.add_lit] at hcj
    simpa [List.getD, List.getElem?_eq_getElem hz'] using hcj
def canRead (P : Program) (ts : List TypeId) : Bool := ts.all fun t => P.readableRec t && decide (t < P.types.size)
/-- Arguments read as they did. -/
theorem trodAll_stays {H : Type} {enc : TypeId × Value → H} {P : Program} (hl : laidOutB P = true) {W W' : World} (hb : Below W.heap.size W W') :
    ∀ (ts : List TypeId) (vs : List Value) (ds : List (DataW H)) (ps : List MemPlace), canRead P ts = true → DataW.TrodAll enc P W 0 (fun _ => true) true ts vs ds ps → (∀ x ∈ ps, x.block < W.heap.size) →
      DataW.TrodAll enc P W' 0 (fun b => decide (b < W.heap.size)) true ts vs ds ps := by
  intro ts
  induction ts with
  | nil => intro vs ds ps _ h _; cases vs <;> cases ds <;> exact h
  | cons t ts ih =>
    intro vs ds ps hc h hlt
    cases vs with
    | nil => cases ds <;> exact h.elim
    | cons v vs =>
      cases ds with
      | nil => exact h.elim
      | cons d ds =>
        obtain ⟨p, q, h1, h2, rfl⟩ := h
        simp only [canRead, List.all_cons, Bool.and_eq_true, decide_eq_true_eq] at hc
        exact ⟨p, q, Below.trod hl hc.1.1 hc.1.2 h1 hb (fun x hx => hlt x (List.mem_append_left _ hx)), ih vs ds q hc.2 h2 (fun x hx => hlt x (List.mem_append_right _ hx)), rfl⟩
/-- What a law's row asks. -/
theorem law_post {H : Type} {enc : TypeId × Value → H} {f : Func} {s : ChangeSpec} {W W' : World} {args : Array Value} {ds : List (DataW H)} {before : List MemPlace} {tb : TypeId}
    (hW : DataW.Whole enc Tryd.prog f.params.toList s.vars false W args.toList ds [] before) (hv : s.vars = []) (ht : f.resultTypes = #[tb]) (hb : Tryd.prog.underlying tb = some .bool)
    (hr : (s.fn H (ds ++ [])).results = [.lit (.bool true)]) (ha : (s.fn H (ds ++ [])).args = ds) (hs : (s.fn H (ds ++ [])).vars = []) (hc : canRead Tryd.prog f.params.toList = true) (hx : Ext W W') :
    s.post enc Tryd.prog f false true false false W args (.bool true) W' := by
  have hW' := hW
  obtain ⟨p, q, h1, h2, hp, hfz, hnd⟩ := hW
  have hlt := hW'.lt
  rw [hv] at h2
  obtain ⟨_, hq⟩ := trodVars_none h2
  subst hq
  have hp' : before = p := by simpa using hp
  subst hp'
  refine ⟨ds, [], before, [], before, [], hW', ?_, ?_, ?_, ?_, fun h => by cases h⟩
  · rw [hr, ht]
    exact trodAll_cons_mk (shut_bool hb true) trodAll_mk0
  · rw [ha]
    exact trodAll_stays laidOut hx.below _ _ _ _ hc h1 hlt
  · rw [hv, hs]; exact rfl
  · exact hx.below.frame _
end Go.Proofs.YtjengglpbdgmnaaDoor
/- The frame of a law's proof, part 2: slices, rows, trees and other structs that came in are known as the walks ask it. No condition. -/
namespace Go.Proofs.YtjengglpbdgmnaaDoor
open Go Go.RowKit V Go.ChangeShapes Go.WideShapes Go.ChangeAt Go.Deep
set_option linter.unusedVariables false
set_option linter.unusedSimpArgs false
section
variable {H : Type} {enc : TypeId × Value → H} {P : Program} {W : World} {fuel : Nat}
abbrev trd (enc : TypeId × Value → H) (P : Program) (W : World) (fuel : Nat) (t : TypeId) (cs : List Value) : Option (DataW H × List MemPlace) := DataW.trod enc P W 0 (fun _ => true) true fuel t cs
instance : Inhabited Nd := ⟨dN⟩
end
end Go.Proofs.YtjengglpbdgmnaaDoor
/- Plain facts on trees of games: when a list of nodes is a tree, its depth, its ends. No condition. -/
namespace Go.Proofs.YtjengglpbdgmnaaDoor.Math
open Go.Proofs.YtjengglpbdgmnaaDoor.V
set_option linter.unusedVariables false
set_option linter.unusedSimpArgs false
/-! ### Lists by their places -/
section
variable {α : Type}
theorem take_step {l : List α} {i : Nat} (d : α) (h : i < l.length) : l.take (i + 1) = l.take i ++ [l.getD i d] := by
  rw [List.take_add_one]; simp [List.getD, List.getElem?_eq_getElem h]
theorem getD_mem {l : List α} {i : Nat} (d : α) (h : i < l.length) : l.getD i d ∈ l := by
  simp [List.getD, List.getElem?_eq_getElem h]
theorem mem_getD {l : List α} {x : α} (d : α) (h : x ∈ l) : ∃ i, i < l.length ∧ l.getD i d = x := by
  obtain ⟨i, hi, rfl⟩ := List.getElem_of_mem h
  exact ⟨i, hi, by simp [List.getD, List.getElem?_eq_getElem hi]⟩
theorem all_getD {l : List α} {p : α → Bool} (d : α) : l.all p = true ↔ ∀ i, i < l.length → p (l.getD i d) = true := by
  rw [List.all_eq_true]
  exact ⟨fun h i hi => h _ (getD_mem d hi), fun h x hx => by obtain ⟨i, hi, rfl⟩ := mem_getD d hx; exact h i hi⟩
theorem all_no {l : List α} {p : α → Bool} (d : α) {i : Nat} (hi : i < l.length) (h : p (l.getD i d) = false) : l.all p = false := by
  rw [Bool.eq_false_iff]; intro h'
  have := (all_getD d).1 h' i hi
  rw [h] at this; cases this
end
def inB (lo hi z : Int) : Bool := decide (lo ≤ z ∧ z ≤ hi)
/-- Strictly increasing. -/
def risingB : List Int → Bool
  | a :: b :: r => decide (a < b) && risingB (b :: r)
  | _ => true
theorem rising_iff : ∀ {l : List Int}, risingB l = true ↔ ∀ i, i + 1 < l.length → l.getD i 0 < l.getD (i + 1) 0
  | [] => by simp [risingB]
  | [a] => by simp [risingB]
  | a :: b :: r => by
    simp only [risingB, Bool.and_eq_true, decide_eq_true_eq]
    rw [rising_iff (l := b :: r)]
    constructor
    · rintro ⟨h1, h2⟩ i hi
      cases i with
      | zero => simpa using h1
      | succ i => simpa using h2 i (by simpa using hi)
    · intro h
      exact ⟨by simpa using h 0 (by simp), fun i hi => by simpa using h (i + 1) (by simpa using hi)⟩
theorem rising_lt {l : List Int} (h : risingB l = true) : ∀ {i j : Nat}, i < j → j < l.length → l.getD i 0 < l.getD j 0 := by
  intro i j hij hj
  induction j with
  | zero => omega
  | succ j ih =>
    have h1 := rising_iff.1 h j hj
    rcases Nat.lt_or_ge i j with h2 | h2
    · exact Int.lt_trans (ih h2 (by omega)) h1
    · obtain rfl : i = j := by omega
      exact h1
theorem rising_no {l : List Int} {i : Nat} (hi : i + 1 < l.length) (h : ¬ l.getD i 0 < l.getD (i + 1) 0) : risingB l = false := by
  rw [Bool.eq_false_iff]; intro h'; exact h (rising_iff.1 h' i hi)
/-- Strictly increasing within 0 to n - 1. -/
def risesB (n : Int) (l : List Int) : Bool := l.all (inB 0 (n - 1)) && risingB l
/-! ### A slice that is filled from the left -/
theorem fill_step {α : Type} (d z : α) {l : List α} {n i : Nat} (hl : l.length = n) (h : i < n) : (l.take i ++ List.replicate (n - i) z).set i (l.getD i d) = l.take (i + 1) ++ List.replicate (n - (i + 1)) z := by
  rw [take_step d (by omega), List.set_append_right _ _ (by simp; omega)]
  simp only [List.length_take, List.append_assoc]
  rw [show i - min i l.length = 0 from by omega, show n - i = (n - (i + 1)) + 1 from by omega, List.replicate_succ]
  rfl
theorem fill_end {α : Type} (z : α) {l : List α} {n i : Nat} (hl : l.length = n) (h : n ≤ i) : l.take i ++ List.replicate (n - i) z = l := by
  rw [show n - i = 0 from by omega, List.take_of_length_le (by omega)]; simp
/-- A node is as it should, apart from the others. -/
def okB (n i : Nat) (x : Nd) : Bool :=
  inB 0 2 x.pl && (inB 0 100 x.p0 && (inB 0 100 x.p1 &&
    cond (decide (x.pl = 2)) (decide (x.ch.length = 0) && (inB (-1) 1 x.fo && (decide (x.fo ≠ -1) || decide (x.p0 = x.p1))))
      (decide (x.fo = -1) && (inB 1 4 x.ch.length && (x.ch.all (inB ((i : Int) + 1) ((n : Int) - 1)) && risingB x.ch)))))
theorem ok_kid {n i : Nat} {x : Nd} (h : okB n i x = true) {z : Int} (hz : z ∈ x.ch) : (i : Int) + 1 ≤ z ∧ z ≤ (n : Int) - 1 := by
  simp only [okB, Bool.and_eq_true] at h
  obtain ⟨_, _, _, h⟩ := h
  by_cases hp : x.pl = 2
  · simp [hp] at h
    rw [h.1] at hz; cases hz
  · simp only [hp, decide_false, cond_false, Bool.and_eq_true] at h
    have := List.all_eq_true.1 h.2.2.1 z hz
    simpa [inB] using this
theorem ok_pl {n i : Nat} {x : Nd} (h : okB n i x = true) : (0 ≤ x.pl ∧ x.pl ≤ 2) ∧ (0 ≤ x.p0 ∧ x.p0 ≤ 100) ∧ (0 ≤ x.p1 ∧ x.p1 ≤ 100) ∧ (-1 ≤ x.fo ∧ x.fo ≤ 1) ∧ x.ch.length ≤ 4 ∧ (x.pl = 2 ↔ x.ch.length = 0) := by
  simp only [okB, Bool.and_eq_true, inB, decide_eq_true_eq] at h
  obtain ⟨h1, h2, h3, h⟩ := h
  refine ⟨h1, h2, h3, ?_⟩
  by_cases hp : x.pl = 2
  · simp [hp, inB] at h
    refine ⟨h.2.1, by simp [h.1], by simp [hp, h.1]⟩
  · simp [hp, inB] at h
    obtain ⟨hf, ⟨hl1, hl2⟩, _⟩ := h
    exact ⟨by omega, by omega, ⟨fun h => absurd h hp, fun h => by omega⟩⟩
/-- The first numbers of 'l', as counts of 0, 1, .., n - 1. -/
def cntL (n : Nat) (l : List Int) : List Int := (List.range n).map fun (c : Nat) => (l.count (c : Int) : Int)
theorem cntL_len (n : Nat) (l : List Int) : (cntL n l).length = n := by simp [cntL]
theorem cntL_get {n : Nat} {l : List Int} {c : Nat} (h : c < n) : (cntL n l).getD c 0 = (l.count (c : Int) : Int) := by simp [cntL, List.getD, h]
theorem cntL_nil (n : Nat) : List.replicate n 0 = cntL n [] := by
  apply List.ext_getElem? ; intro i; by_cases h : i < n <;> simp [cntL, h]
theorem cntL_step {n : Nat} {l : List Int} {z : Int} (h0 : 0 ≤ z) (h1 : z < n) : (cntL n l).set z.toNat ((cntL n l).getD z.toNat 0 + 1) = cntL n (l ++ [z]) := by
  apply List.ext_getElem?
  intro i
  rw [List.getElem?_set, cntL_len]
  by_cases hi : z.toNat = i
  · subst hi
    rw [if_pos rfl, if_pos (by omega), cntL_get (by omega)]
    have hz : ((z.toNat : Nat) : Int) = z := by omega
    simp [cntL, show z.toNat < n from by omega, hz, List.count_append]
  · rw [if_neg hi]
    by_cases hn : i < n
    · have : ¬ z = (i : Int) := by omega
      simp [cntL, hn, List.count_append, List.count_singleton, this]
    · simp [cntL, hn]
theorem count_le {l : List Int} (c : Int) : (l.count c : Int) ≤ l.length := by exact_mod_cast List.count_le_length
/-- All that the nodes lead to. -/
def kids (ns : List Nd) : List Int := ns.flatMap Nd.ch
theorem kids_step {ns : List Nd} {i : Nat} (h : i < ns.length) : kids (ns.take (i + 1)) = kids (ns.take i) ++ (ns.getD i dN).ch := by
  rw [take_step dN h]; simp [kids]
def allOk (ns : List Nd) : Bool := (List.range ns.length).all fun i => okB ns.length i (ns.getD i dN)
theorem allOk_iff {ns : List Nd} : allOk ns = true ↔ ∀ i, i < ns.length → okB ns.length i (ns.getD i dN) = true := by
  simp [allOk, List.all_eq_true]
theorem allOk_no {ns : List Nd} {i : Nat} (hi : i < ns.length) (h : okB ns.length i (ns.getD i dN) = false) : allOk ns = false := by
  rw [Bool.eq_false_iff]; intro h'; have := allOk_iff.1 h' i hi; rw [h] at this; cases this
def oneEach (ns : List Nd) : Bool := (List.range (ns.length - 1)).all fun i => decide ((kids ns).count ((i + 1 : Nat) : Int) = 1)
theorem oneEach_iff {ns : List Nd} : oneEach ns = true ↔ ∀ i, 1 ≤ i → i < ns.length → (kids ns).count (i : Int) = 1 := by
  simp only [oneEach, List.all_eq_true, List.mem_range, decide_eq_true_eq]
  constructor
  · intro h i h1 h2
    have := h (i - 1) (by omega)
    rwa [show i - 1 + 1 = i from by omega] at this
  · intro h i hi; exact h (i + 1) (by omega) (by omega)
theorem oneEach_no {ns : List Nd} {i : Nat} (h1 : 1 ≤ i) (hi : i < ns.length) (h : ¬ (kids ns).count (i : Int) = 1) : oneEach ns = false := by
  rw [Bool.eq_false_iff]; intro h'; exact h (oneEach_iff.1 h' i h1 hi)
/-- The depth below a node. -/
def depthF (ns : List Nd) : Nat → Nat → Int
  | 0, _ => 0
  | k + 1, i => if (ns.getD i dN).pl = 2 then 0 else (ns.getD i dN).ch.foldl (fun m c => max m (depthF ns k c.toNat)) 0 + 1
def depth (ns : List Nd) (i : Nat) : Int := depthF ns ns.length i
theorem foldl_congr {α β : Type} {f g : α → β → α} {l : List β} (h : ∀ a, ∀ b ∈ l, f a b = g a b) (a : α) : l.foldl f a = l.foldl g a := by
  induction l generalizing a with
  | nil => rfl
  | cons b l ih =>
    simp only [List.foldl_cons, h a b List.mem_cons_self]
    exact ih (fun a b hb => h a b (List.mem_cons_of_mem _ hb)) _
theorem depthF_same {ns : List Nd} (hok : allOk ns = true) : ∀ k k' i, i < ns.length → ns.length - i ≤ k → ns.length - i ≤ k' → depthF ns k i = depthF ns k' i := by
  intro k
  induction k with
  | zero => intro k' i hi h; omega
  | succ k ih =>
    intro k' i hi h h'
    cases k' with
    | zero => omega
    | succ k' =>
      simp only [depthF]
      split
      · rfl
      · congr 1
        refine foldl_congr (fun m c hc => ?_) 0
        have := ok_kid (allOk_iff.1 hok i hi) hc
        rw [ih k' c.toNat (by omega) (by omega) (by omega)]
theorem depth_end {ns : List Nd} {i : Nat} (hi : i < ns.length) (h : (ns.getD i dN).pl = 2) : depth ns i = 0 := by
  unfold depth
  cases hn : ns.length with
  | zero => rfl
  | succ k => simp only [depthF, h, if_pos]
def dmax (ns : List Nd) (l : List Int) : Int := l.foldl (fun m c => max m (depth ns c.toNat)) 0
theorem depth_step {ns : List Nd} (hok : allOk ns = true) {i : Nat} (hi : i < ns.length) (h : ¬ (ns.getD i dN).pl = 2) : depth ns i = dmax ns (ns.getD i dN).ch + 1 := by
  have h1 : depth ns i = depthF ns (ns.length + 1) i := depthF_same hok _ _ i hi (by omega) (by omega)
  rw [h1]; simp only [depthF, if_neg h]; rfl
theorem dmax_snoc (ns : List Nd) (l : List Int) (c : Int) : dmax ns (l ++ [c]) = max (dmax ns l) (depth ns c.toNat) := by simp [dmax]
theorem dmax_le {ns : List Nd} {B : Int} (hB : 0 ≤ B) : ∀ {l : List Int}, (∀ c ∈ l, depth ns c.toNat ≤ B) → 0 ≤ dmax ns l ∧ dmax ns l ≤ B := by
  intro l
  have key : ∀ (l : List Int) (a : Int), 0 ≤ a → a ≤ B → (∀ c ∈ l, depth ns c.toNat ≤ B) → 0 ≤ l.foldl (fun m c => max m (depth ns c.toNat)) a ∧ l.foldl (fun m c => max m (depth ns c.toNat)) a ≤ B := by
    intro l
    induction l with
    | nil => intro a h1 h2 _; exact ⟨h1, h2⟩
    | cons c l ih =>
      intro a h1 h2 h
      have := h c List.mem_cons_self
      simp only [List.foldl_cons]
      exact ih (max a (depth ns c.toNat)) (by omega) (by omega) fun c hc => h c (List.mem_cons_of_mem _ hc)
  exact key l 0 (by omega) hB
theorem depth_bd {ns : List Nd} (hok : allOk ns = true) : ∀ k i, ns.length - i ≤ k → i < ns.length → 0 ≤ depth ns i ∧ depth ns i ≤ k := by
  intro k
  induction k with
  | zero => intro i h hi; omega
  | succ k ih =>
    intro i h hi
    by_cases hp : (ns.getD i dN).pl = 2
    · rw [depth_end hi hp]; omega
    · rw [depth_step hok hi hp]
      have := dmax_le (ns := ns) (B := k) (by omega) (l := (ns.getD i dN).ch) fun c hc => by
        have := ok_kid (allOk_iff.1 hok i hi) hc
        exact (ih c.toNat (by omega) (by omega)).2
      omega
/-- A tree. -/
def isTree (ns : List Nd) : Bool := decide (1 ≤ ns.length ∧ ns.length ≤ 60) && (allOk ns && (oneEach ns && decide (depth ns 0 ≤ 5)))
theorem isTree_ok {ns : List Nd} (h : isTree ns = true) : (1 ≤ ns.length ∧ ns.length ≤ 60) ∧ allOk ns = true ∧ oneEach ns = true ∧ (0 ≤ depth ns 0 ∧ depth ns 0 ≤ 5) := by
  simp only [isTree, Bool.and_eq_true, decide_eq_true_eq] at h
  exact ⟨h.1, h.2.1, h.2.2.1, (depth_bd h.2.1 ns.length 0 (by omega) (by omega)).1, h.2.2.2⟩
theorem isTree_no1 {ns : List Nd} (h : ¬ (1 ≤ ns.length ∧ ns.length ≤ 60)) : isTree ns = false := by simp only [isTree, decide_eq_false h, Bool.false_and]
theorem isTree_no2 {ns : List Nd} (h : allOk ns = false) : isTree ns = false := by simp [isTree, h]
theorem isTree_no3 {ns : List Nd} (h : oneEach ns = false) : isTree ns = false := by simp [isTree, h]
theorem isTree_yes {ns : List Nd} (h1 : 1 ≤ ns.length ∧ ns.length ≤ 60) (h2 : allOk ns = true) (h3 : oneEach ns = true) : isTree ns = decide (depth ns 0 ≤ 5) := by simp [isTree, h1, h2, h3]
/-! ### How much of a budget is left -/
def cut (left s : Int) : Int := if s ≤ left then left - s else -1
/-- All that elements lead to, and themselves. -/
def sumK {α : Type} (f : α → Nat) (l : List α) : Nat := (l.map f).sum
def szK {α : Type} (f : α → Nat) (l : List α) : Nat := l.length + sumK f l
/-- The lengths of what nodes, and rows, lead to. -/
def chl (x : Nd) : Nat := x.ch.length
def rwl (x : List Int) : Nat := x.length
theorem upto {p : Nat → Prop} {i : Nat} (h : ∀ j, j < i → p j) (hi : p i) : ∀ j, j < i + 1 → p j := fun j hj => by
  rcases Nat.lt_or_ge j i with h' | h'
  · exact h j h'
  · obtain rfl : j = i := by omega
    exact hi
def risesTo (n : Int) (z : List Int) (i : Nat) : Prop := (∀ j, j < i → inB 0 (n - 1) (z.getD j 0) = true) ∧ ∀ j, j + 1 < i → z.getD j 0 < z.getD (j + 1) 0
theorem risesTo_zero {n : Int} {z : List Int} : risesTo n z 0 := ⟨fun j h => by omega, fun j h => by omega⟩
theorem risesTo_step {n : Int} {z : List Int} {i : Nat} (h : risesTo n z i) (h1 : inB 0 (n - 1) (z.getD i 0) = true) (h2 : 0 < i → z.getD (i - 1) 0 < z.getD i 0) : risesTo n z (i + 1) := by
  refine ⟨upto h.1 h1, fun j hj => ?_⟩
  rcases Nat.lt_or_ge (j + 1) i with h' | h'
  · exact h.2 j h'
  · obtain rfl : i = j + 1 := by omega
    exact h2 (by omega)
theorem rises_yes {n : Int} {z : List Int} {i : Nat} (h : risesTo n z i) (hi : z.length ≤ i) : risesB n z = true := by
  simp only [risesB, Bool.and_eq_true]
  exact ⟨(all_getD 0).2 fun j hj => h.1 j (by omega), rising_iff.2 fun j hj => h.2 j (by omega)⟩
theorem rises_no1 {n : Int} {z : List Int} {i : Nat} (hi : i < z.length) (h : inB 0 (n - 1) (z.getD i 0) = false) : risesB n z = false := by
  simp only [risesB, all_no 0 hi h, Bool.false_and]
theorem rises_no2 {n : Int} {z : List Int} {i : Nat} (h0 : 0 < i) (hi : i < z.length) (h : ¬ z.getD (i - 1) 0 < z.getD i 0) : risesB n z = false := by
  obtain ⟨j, rfl⟩ : ∃ j, i = j + 1 := ⟨i - 1, by omega⟩
  simp only [risesB, rising_no hi h, Bool.and_false]
theorem allOk_iff' {ns : List Nd} {n : Nat} (hn : ns.length = n) : allOk ns = true ↔ ∀ i, i < n → okB n i (ns.getD i dN) = true := by subst hn; exact allOk_iff
theorem allOk_no' {ns : List Nd} {n i : Nat} (hn : ns.length = n) (hi : i < n) (h : okB n i (ns.getD i dN) = false) : allOk ns = false := by subst hn; exact allOk_no hi h
theorem depth_bd' {ns : List Nd} {n : Nat} (hn : ns.length = n) (hok : allOk ns = true) {i : Nat} (hi : i < n) : 0 ≤ depth ns i ∧ depth ns i ≤ n := by
  subst hn; exact depth_bd hok ns.length i (by omega) hi
/-- Bound of a count. -/
theorem cnt_bd (n : Nat) (l : List Int) (c : Nat) : 0 ≤ (cntL n l).getD c 0 ∧ (cntL n l).getD c 0 ≤ l.length := by
  by_cases h : c < n
  · rw [cntL_get h]; have := count_le (l := l) (c : Int); omega
  · have : (cntL n l).getD c 0 = 0 := by simp [List.getD, List.getElem?_eq_none (show (cntL n l).length ≤ c by rw [cntL_len]; omega)]
    omega
theorem kids_len2 {ns : List Nd} {n i : Nat} (hn : ns.length = n) (hi : i ≤ n) (hal : ∀ j, j < i → okB n j (ns.getD j dN) = true) : (kids (ns.take i)).length ≤ 4 * i := by
  induction i with
  | zero => simp [kids]
  | succ i ih =>
    rw [kids_step (by omega), List.length_append]
    have := ih (by omega) fun j hj => hal j (by omega)
    have := (ok_pl (hal i (by omega))).2.2.2.2.1
    omega
/-- Bound of a count on the way. -/
theorem cnt_way {ns : List Nd} {n i k c : Nat} (hn : ns.length = n) (h60 : n ≤ 60) (hi : i < n) (hal : ∀ j, j < i → okB n j (ns.getD j dN) = true) (hk : okB n i (ns.getD i dN) = true) :
    0 ≤ (cntL n (kids (ns.take i) ++ (ns.getD i dN).ch.take k)).getD c 0 ∧ (cntL n (kids (ns.take i) ++ (ns.getD i dN).ch.take k)).getD c 0 ≤ 1000 := by
  have h1 := cnt_bd n (kids (ns.take i) ++ (ns.getD i dN).ch.take k) c
  have h2 := kids_len2 hn (Nat.le_of_lt hi) hal
  have h3 := (ok_pl hk).2.2.2.2.1
  rw [List.length_append, List.length_take] at h1
  omega
theorem oneEach_no' {ns : List Nd} {n i : Nat} (hn : ns.length = n) (h1 : 1 ≤ i) (hi : i < n) (h : ¬ (kids ns).count (i : Int) = 1) : oneEach ns = false := by subst hn; exact oneEach_no h1 hi h
theorem oneEach_to {ns : List Nd} {n j : Nat} (hn : ns.length = n) (h : ∀ q, q < j → (kids ns).count ((q + 1 : Nat) : Int) = 1) (hj : n - 1 ≤ j) : oneEach ns = true := by
  subst hn
  refine oneEach_iff.2 fun i h1 h2 => ?_
  have := h (i - 1) (by omega)
  rwa [show i - 1 + 1 = i from by omega] at this
theorem cntL_start (n : Nat) (ns : List Nd) : List.replicate n 0 = cntL n (kids (ns.take 0)) := by rw [cntL_nil]; rfl
theorem cnt_drop {n : Nat} {l : List Int} {j : Nat} (h : j + 1 < n) : ((cntL n l).drop 1).getD j 0 = (l.count ((j + 1 : Nat) : Int) : Int) := by
  have := cntL_get (n := n) (l := l) (c := j + 1) h
  rw [← this]; simp [List.getD, List.getElem?_drop, Nat.add_comm]
/-! ### Why a node is not as it should -/
section
variable {n i : Nat} {x : Nd}
theorem no1 (h : inB 0 2 x.pl = false) : okB n i x = false := by simp [okB, h]
theorem no2 (h : inB 0 100 x.p0 = false) : okB n i x = false := by simp [okB, h]
theorem no3 (h : inB 0 100 x.p1 = false) : okB n i x = false := by simp [okB, h]
theorem no4 (h0 : x.pl = 2) (h : (0 : Int) < (x.ch.length : Int)) : okB n i x = false := by
  have : ¬ x.ch.length = 0 := by omega
  unfold okB; rw [decide_eq_true h0, decide_eq_false this]; simp
theorem no4' (h0 : x.pl = 2) (h : ¬ (x.ch.length : Int) = 0) : okB n i x = false := no4 h0 (by omega)
theorem no5 (h0 : x.pl = 2) (h : inB (-1) 1 x.fo = false) : okB n i x = false := by simp [okB, h0, h]
theorem no6 (h0 : x.pl = 2) (h : x.fo = -1) (h' : x.p0 ≠ x.p1) : okB n i x = false := by simp [okB, h0, h, h']
theorem no5' (h : inB (-1) 1 x.fo = false) : okB n i x = false := by
  have : ¬ x.fo = -1 := by
    intro e; rw [e] at h; simp [inB] at h
  simp [okB, h, this]
theorem no6' (h0 : x.pl = 2) (h1 : inB (-1) 1 x.fo = true) (h : ¬ 0 ≤ x.fo) (h' : ¬ x.p0 = x.p1) : okB n i x = false := by
  simp only [inB, decide_eq_true_eq] at h1
  exact no6 h0 (by omega) h'
theorem no7 (h0 : ¬ x.pl = 2) (h : x.fo ≠ -1) : okB n i x = false := by simp [okB, h0, h]
theorem no8 (h0 : ¬ x.pl = 2) (h : inB 1 4 (x.ch.length : Int) = false) : okB n i x = false := by simp [okB, h0, h]
theorem no9 (h0 : ¬ x.pl = 2) (h : x.ch.all (inB ((i : Int) + 1) ((n : Int) - 1)) = false) : okB n i x = false := by unfold okB; rw [decide_eq_false h0, h]; simp
theorem no10 (h0 : ¬ x.pl = 2) (h : risingB x.ch = false) : okB n i x = false := by unfold okB; rw [decide_eq_false h0, h]; simp
theorem no11 (h0 : ¬ x.pl = 2) (h : risesB n x.ch = false) : okB n i x = false := by
  simp only [risesB, Bool.and_eq_false_iff] at h
  rcases h with h | h
  · refine no9 h0 ?_
    rw [Bool.eq_false_iff] at h ⊢
    intro h'; apply h
    rw [List.all_eq_true] at h' ⊢
    intro z hz
    have := h' z hz
    simp only [inB, decide_eq_true_eq] at this ⊢
    omega
  · exact no10 h0 h
theorem no12 (h0 : ¬ x.pl = 2) (hl : inB 1 4 (x.ch.length : Int) = true) (h : ¬ (i : Int) < x.ch.getD 0 0) : okB n i x = false := by
  refine no9 h0 ?_
  simp only [inB, decide_eq_true_eq] at hl
  refine all_no 0 (i := 0) (by omega) ?_
  unfold inB; exact decide_eq_false (by omega)
theorem yes1 (h1 : inB 0 2 x.pl = true) (h2 : inB 0 100 x.p0 = true) (h3 : inB 0 100 x.p1 = true) (h0 : x.pl = 2) (hl : ¬ (0 : Int) < (x.ch.length : Int)) (h5 : inB (-1) 1 x.fo = true) (h6 : x.fo = -1 → x.p0 = x.p1) : okB n i x = true := by
  have : x.ch.length = 0 := by omega
  unfold okB; rw [h1, h2, h3, h5, decide_eq_true h0, decide_eq_true this]
  by_cases hf : x.fo = -1
  · simp [h6 hf]
  · simp [hf]
theorem yes2 (h1 : inB 0 2 x.pl = true) (h2 : inB 0 100 x.p0 = true) (h3 : inB 0 100 x.p1 = true) (h0 : ¬ x.pl = 2) (hf : ¬ x.fo ≠ -1) (hl : inB 1 4 (x.ch.length : Int) = true) (ha : x.ch.all (inB ((i : Int) + 1) ((n : Int) - 1)) = true) (hr : risingB x.ch = true) : okB n i x = true := by
  have hf : x.fo = -1 := by omega
  unfold okB; rw [h1, h2, h3, hl, ha, hr, decide_eq_false h0, decide_eq_true hf]; rfl
theorem yes3 (hl : inB 1 4 (x.ch.length : Int) = true) (hr : risesB n x.ch = true) (h : (i : Int) < x.ch.getD 0 0) : x.ch.all (inB ((i : Int) + 1) ((n : Int) - 1)) = true ∧ risingB x.ch = true := by
  simp only [risesB, Bool.and_eq_true] at hr
  refine ⟨?_, hr.2⟩
  rw [all_getD 0]
  intro j hj
  have h1 := (all_getD 0).1 hr.1 j hj
  simp only [inB, decide_eq_true_eq] at h1 ⊢
  rcases Nat.eq_zero_or_pos j with h2 | h2
  · subst h2; omega
  · have := rising_lt hr.2 h2 hj; omega
theorem end1 (h1 : inB 0 2 x.pl = true) (h2 : inB 0 100 x.p0 = true) (h3 : inB 0 100 x.p1 = true) (h5 : inB (-1) 1 x.fo = true) (h0 : x.pl = 2) (hl : (x.ch.length : Int) = 0) (hf : 0 ≤ x.fo) : okB n i x = true :=
  yes1 h1 h2 h3 h0 (by omega) h5 (fun h => by omega)
theorem end2 (h1 : inB 0 2 x.pl = true) (h2 : inB 0 100 x.p0 = true) (h3 : inB 0 100 x.p1 = true) (h5 : inB (-1) 1 x.fo = true) (h0 : x.pl = 2) (hl : (x.ch.length : Int) = 0) (hf : ¬ 0 ≤ x.fo) : okB n i x = decide (x.p0 = x.p1) := by
  by_cases h : x.p0 = x.p1
  · rw [yes1 h1 h2 h3 h0 (by omega) h5 (fun _ => h), decide_eq_true h]
  · rw [no6' h0 h5 hf h, decide_eq_false h]
theorem dec1 (h1 : inB 0 2 x.pl = true) (h2 : inB 0 100 x.p0 = true) (h3 : inB 0 100 x.p1 = true) (h0 : ¬ x.pl = 2) (hf : ¬ x.fo ≠ -1) (hl : inB 1 4 (x.ch.length : Int) = true) (hr : risesB n x.ch = true) : okB n i x = decide ((i : Int) < x.ch.getD 0 0) := by
  by_cases h : (i : Int) < x.ch.getD 0 0
  · rw [decide_eq_true h]; have := yes3 hl hr h; exact yes2 h1 h2 h3 h0 hf hl this.1 this.2
  · rw [decide_eq_false h]; exact no12 h0 hl h
theorem ok_empty (h : okB n i x = true) (h0 : x.pl = 2) : x.ch = [] := by
  have := (ok_pl h).2.2.2.2.2.1 h0
  exact List.eq_nil_of_length_eq_zero this
end
theorem sum_step {z : List Int} {i : Nat} (h : i < z.length) : (z.take (i + 1)).sum = (z.take i).sum + z.getD i 0 := by
  rw [take_step 0 h]; simp
theorem sum_bd {z : List Int} {B : Int} (h : ∀ x ∈ z, 0 ≤ x ∧ x ≤ B) : ∀ i, i ≤ z.length → 0 ≤ (z.take i).sum ∧ (z.take i).sum ≤ B * i := by
  intro i
  induction i with
  | zero => intro _; simp
  | succ i ih =>
    intro hi
    have h1 := ih (by omega)
    have h2 := h _ (getD_mem 0 (show i < z.length by omega))
    rw [sum_step (by omega)]
    have : B * ((i + 1 : Nat) : Int) = B * i + B := by rw [Int.natCast_succ, Int.mul_add, Int.mul_one]
    omega
theorem cnt_kid {ns : List Nd} {i k n : Nat} (hn : ns.length = n) (hok : okB n i (ns.getD i dN) = true) (hi : i < n) (hk : k < (ns.getD i dN).ch.length) :
    (0 ≤ (ns.getD i dN).ch.getD k 0 ∧ (ns.getD i dN).ch.getD k 0 < n) ∧
    (cntL n (kids (ns.take i) ++ (ns.getD i dN).ch.take k)).set ((ns.getD i dN).ch.getD k 0).toNat ((cntL n (kids (ns.take i) ++ (ns.getD i dN).ch.take k)).getD ((ns.getD i dN).ch.getD k 0).toNat 0 + 1) = cntL n (kids (ns.take i) ++ (ns.getD i dN).ch.take (k + 1)) := by
  have := ok_kid hok (getD_mem 0 hk)
  refine ⟨by omega, ?_⟩
  rw [cntL_step (by omega) (by omega), take_step 0 hk, List.append_assoc]
/-- The nodes of a player. -/
def nodesOf (ns : List Nd) (p : Int) : List Int := ((List.range ns.length).filter fun i => decide ((ns.getD i dN).pl = p)).map fun (i : Nat) => (i : Int)
def nodesTo (ns : List Nd) (p : Int) (k : Nat) : List Int := ((List.range k).filter fun i => decide ((ns.getD i dN).pl = p)).map fun (i : Nat) => (i : Int)
theorem nodesTo_yes {ns : List Nd} {p : Int} {k : Nat} (h : (ns.getD k dN).pl = p) : nodesTo ns p (k + 1) = nodesTo ns p k ++ [(k : Int)] := by
  unfold nodesTo; rw [List.range_succ, List.filter_append, List.map_append]; simp only [List.filter_cons, List.filter_nil, decide_eq_true h, if_true, List.map_cons, List.map_nil]
theorem nodesTo_no {ns : List Nd} {p : Int} {k : Nat} (h : ¬ (ns.getD k dN).pl = p) : nodesTo ns p (k + 1) = nodesTo ns p k := by
  unfold nodesTo; rw [List.range_succ, List.filter_append, List.map_append]; simp only [List.filter_cons, List.filter_nil, decide_eq_false h]; simp
theorem nodesTo_all {ns : List Nd} {p : Int} {k n : Nat} (hn : ns.length = n) (h : k = n) : nodesTo ns p k = nodesOf ns p := by subst hn; subst h; rfl
def endsOf (ns : List Nd) : List Int × Int := if isTree ns = true then (nodesOf ns 2, 0) else ([], 1)
def decsOf (ns : List Nd) (p : Int) : List Int × Int := if isTree ns = true then (if 0 ≤ p ∧ p ≤ 1 then (nodesOf ns p, 0) else ([], 2)) else ([], 1)
theorem nodesOf_len (ns : List Nd) (p : Int) : (nodesOf ns p).length ≤ ns.length := by
  unfold nodesOf; rw [List.length_map]; exact Nat.le_trans (List.length_filter_le _ _) (by rw [List.length_range]; exact Nat.le_refl _)
def depthOf (ns : List Nd) : Int × Int := if isTree ns = true then (depth ns 0, 0) else (0, 1)
/-- Where places lead. -/
def walk (ns : List Nd) : List Int → Int → Option Int
  | [], at_ => some at_
  | p :: r, at_ => if 0 ≤ p ∧ p ≤ ((ns.getD at_.toNat dN).ch.length : Int) - 1 then walk ns r ((ns.getD at_.toNat dN).ch.getD p.toNat 0) else none
def nodeBy (ns : List Nd) (way : List Int) : Int × Int := if isTree ns = true then (match walk ns way 0 with | some x => (x, 0) | none => (0, 4)) else (0, 1)
/-! ### Marks -/
def seqL (k : Int) (n : Nat) : List Int := (List.range n).map fun (i : Nat) => k + (i : Int)
def f4 (x : Nd) : Nat := 4 + x.ch.length
def markN (k : Int) (x : Nd) : Nd := ⟨k, k + 1, k + 1 + 1, k + 1 + 1 + 1, seqL (k + 1 + 1 + 1 + 1) x.ch.length⟩
def marksN (k : Int) (ys : List Nd) : List Nd := ys.mapIdx fun i x => markN (k + (sumK f4 (ys.take i) : Int)) x
def marksM (k : Int) (ys : List (List Int)) : List (List Int) := ys.mapIdx fun i x => seqL (k + (sumK rwl (ys.take i) : Int)) x.length
end Go.Proofs.YtjengglpbdgmnaaDoor.Math
/- Plain facts on games: matrices, weights, powers, units. No condition. -/
namespace Go.Proofs.YtjengglpbdgmnaaDoor.Math
open Go.Proofs.YtjengglpbdgmnaaDoor.V
set_option linter.unusedVariables false
set_option linter.unusedSimpArgs false
/-- A list of k numbers in a range. -/
def rowB (k : Nat) (lo hi : Int) (r : List Int) : Bool := decide (r.length = k) && r.all (inB lo hi)
def matB (k : Nat) (lo hi : Int) (m : List (List Int)) : Bool := decide (m.length = k) && m.all (rowB k lo hi)
section
variable {k : Nat} {lo hi : Int} {r : List Int} {m : List (List Int)}
theorem row_no1 (h : (r.length : Int) ≠ (k : Int)) : rowB k lo hi r = false := by
 have : ¬ r.length = k := by omega
 simp [rowB, this]
theorem row_no2 (h : r.all (inB lo hi) = false) : rowB k lo hi r = false := by unfold rowB; rw [h, Bool.and_false]
theorem row_yes (h1 : (r.length : Int) = (k : Int)) (h2 : r.all (inB lo hi) = true) : rowB k lo hi r = true := by
 have : r.length = k := by omega
 unfold rowB; rw [h2, decide_eq_true this]; rfl
theorem row_len (h : rowB k lo hi r = true) : r.length = k := by simp only [rowB, Bool.and_eq_true, decide_eq_true_eq] at h; exact h.1
theorem row_in (h : rowB k lo hi r = true) : ∀ x ∈ r, lo ≤ x ∧ x ≤ hi := by
 simp only [rowB, Bool.and_eq_true] at h
 intro x hx
 have := List.all_eq_true.1 h.2 x hx
 simpa [inB] using this
theorem mat_no {i : Nat} (hi' : i < m.length) (h : rowB k lo hi (m.getD i []) = false) : matB k lo hi m = false := by unfold matB; rw [all_no [] hi' h, Bool.and_false]
theorem mat_no0 (h : ¬ m.length = k) : matB k lo hi m = false := by simp [matB, h]
theorem mat_yes (h : m.length = k) (h2 : ∀ i, i < k → rowB k lo hi (m.getD i []) = true) : matB k lo hi m = true := by
 unfold matB; rw [decide_eq_true h, (all_getD []).2 fun i hi => h2 i (by omega)]; rfl
theorem mat_len (h : matB k lo hi m = true) : m.length = k := by simp only [matB, Bool.and_eq_true, decide_eq_true_eq] at h; exact h.1
theorem mat_row (h : matB k lo hi m = true) {i : Nat} (hi' : i < k) : rowB k lo hi (m.getD i []) = true := by
 have hl := mat_len h
 simp only [matB, Bool.and_eq_true] at h
 exact (all_getD []).1 h.2 i (by omega)
theorem mat_if (h2 : ∀ i, i < m.length → rowB k lo hi (m.getD i []) = true) : matB k lo hi m = decide (m.length = k) := by
 unfold matB; rw [(all_getD []).2 h2, Bool.and_true]
end
/-- The total of weights. -/
def total (ws : List (List Int)) : Int := (ws.map List.sum).sum
theorem total_step {ws : List (List Int)} {i : Nat} (h : i < ws.length) : total (ws.take (i + 1)) = total (ws.take i) + (ws.getD i []).sum := by
 rw [take_step [] h]; simp [total]
theorem total_all {ws : List (List Int)} {i : Nat} (h : ws.length ≤ i) : total (ws.take i) = total ws := by rw [List.take_of_length_le h]
theorem sum_all {z : List Int} {B : Int} (h : ∀ x ∈ z, 0 ≤ x ∧ x ≤ B) : 0 ≤ z.sum ∧ z.sum ≤ B * z.length := by
 have := sum_bd h z.length (Nat.le_refl _)
 rwa [List.take_of_length_le (Nat.le_refl _)] at this
theorem rowsum {k : Nat} {r : List Int} (hk : k ≤ 6) (h : rowB k 0 9 r = true) : 0 ≤ r.sum ∧ r.sum ≤ 54 := by
 have h1 := sum_all (row_in h)
 have := row_len h
 omega
theorem total_bd {k : Nat} {ws : List (List Int)} (hk : k ≤ 6) (h : matB k 0 9 ws = true) : ∀ i, i ≤ k → 0 ≤ total (ws.take i) ∧ total (ws.take i) ≤ 54 * i := by
 intro i
 induction i with
 | zero => intro _; simp [total]
 | succ i ih =>
  intro hi
  have hl := mat_len h
  rw [total_step (by omega)]
  have := ih (by omega)
  have := rowsum hk (mat_row h (show i < k by omega))
  omega
theorem row_big {k : Nat} {r : List Int} (h : rowB k 0 9 r = true) : ∀ x ∈ r, 0 ≤ x ∧ x ≤ 1000000000 := fun x hx => by have := row_in h x hx; omega
/-- A game. -/
def isGame (ns : List Nd) (ws vs : List (List Int)) : Bool := isTree ns && (inB 1 6 ws.length && (matB ws.length 0 9 ws && (matB ws.length (-1) 1 vs && decide (0 < total ws))))
theorem isGame_ok {ns : List Nd} {ws vs : List (List Int)} (h : isGame ns ws vs = true) : isTree ns = true ∧ (1 ≤ ws.length ∧ ws.length ≤ 6) ∧ matB ws.length 0 9 ws = true ∧ matB ws.length (-1) 1 vs = true ∧ 0 < total ws := by
 simp only [isGame, Bool.and_eq_true, inB, decide_eq_true_eq] at h
 obtain ⟨h1, h2, h3, h4, h5⟩ := h
 exact ⟨h1, by omega, h3, h4, h5⟩
/-- Powers of 60. -/
def p60 (k : Nat) : Int := 60 ^ k
theorem mul_bd {a b A B : Int} (h0 : 0 ≤ a) (h1 : a ≤ A) (h2 : 0 ≤ b) (h3 : b ≤ B) : 0 ≤ a * b ∧ a * b ≤ A * B :=
 ⟨Int.mul_nonneg h0 h2, Int.mul_le_mul h1 h3 h2 (by omega)⟩
/-- The unit. -/
def unit (ns : List Nd) (ws : List (List Int)) : Int := total ws * p60 (depth ns 0).toNat
def totalOf (ns : List Nd) (ws vs : List (List Int)) : Int × Int := if isGame ns ws vs = true then (total ws, 0) else (0, 1)
def unitOf (ns : List Nd) (ws vs : List (List Int)) : Int × Int := if isGame ns ws vs = true then (unit ns ws, 0) else (0, 1)
end Go.Proofs.YtjengglpbdgmnaaDoor.Math
/- Plain facts on payoffs, information sets, strategies. No condition. -/
namespace Go.Proofs.YtjengglpbdgmnaaDoor.Math
open Go.Proofs.YtjengglpbdgmnaaDoor.V
set_option linter.unusedVariables false
set_option linter.unusedSimpArgs false
/-- What player 0 gets at an end. -/
def payoffX (x : Nd) (w : Int) : Int :=
 if x.fo = 0 then -x.p0 else if x.fo = 1 then x.p1 else if w = 1 then x.p1 else if w = -1 then -x.p0 else 0
def payoffOf (z : List Nd) (ws vs : List (List Int)) (node a b : Int) : Int × Int :=
 if isGame z ws vs = true then
  if (0 ≤ node ∧ node ≤ (z.length : Int) - 1) ∧ (0 ≤ a ∧ a ≤ (ws.length : Int) - 1) ∧ (0 ≤ b ∧ b ≤ (ws.length : Int) - 1) then
   if (z.getD node.toNat dN).pl = 2 then (payoffX (z.getD node.toNat dN) ((vs.getD a.toNat []).getD b.toNat 0), 0) else (0, 5)
  else (0, 2)
 else (0, 1)
/-- Information sets: nodes and cards. -/
def setsOf (xs : List Int) (k : Nat) : List (List Int) := xs.flatMap fun n => (List.range k).map fun (c : Nat) => [n, (c : Int)]
def setsTo (xs : List Int) (k i j : Nat) : List (List Int) := setsOf (xs.take i) k ++ (List.range j).map fun (c : Nat) => [xs.getD i 0, (c : Int)]
theorem setsTo_cell {xs : List Int} {k i j : Nat} : setsTo xs k i (j + 1) = setsTo xs k i j ++ [[xs.getD i 0, (j : Int)]] := by
 unfold setsTo; rw [List.range_succ, List.map_append, ← List.append_assoc]; rfl
theorem setsTo_row {xs : List Int} {k i j : Nat} (h : i < xs.length) (hj : j = k) : setsTo xs k i j = setsTo xs k (i + 1) 0 := by
 subst hj; unfold setsTo; rw [take_step 0 h]; simp [setsOf, List.flatMap_append]
theorem setsTo_end {xs : List Int} {k i : Nat} (h : xs.length ≤ i) : setsTo xs k i 0 = setsOf xs k := by
 unfold setsTo; rw [List.take_of_length_le h]; simp
theorem setsOf_len (xs : List Int) (k : Nat) : (setsOf xs k).length = xs.length * k := by
 induction xs with
 | nil => simp [setsOf]
 | cons x xs ih =>
  have h : setsOf (x :: xs) k = ((List.range k).map fun (c : Nat) => [x, (c : Int)]) ++ setsOf xs k := rfl
  rw [h, List.length_append, ih, List.length_map, List.length_range, List.length_cons, Nat.succ_mul, Nat.add_comm]
theorem setsOf_at {xs : List Int} {k i : Nat} (h : i < (setsOf xs k).length) : ∃ n c : Int, n ∈ xs ∧ (0 ≤ c ∧ c < k) ∧ (setsOf xs k).getD i [] = [n, c] := by
 have hm := getD_mem [] h
 generalize (setsOf xs k).getD i [] = s at hm
 simp only [setsOf, List.mem_flatMap, List.mem_map, List.mem_range] at hm
 obtain ⟨n, hn, c, hc, rfl⟩ := hm
 exact ⟨n, c, hn, by omega, rfl⟩
theorem nodesOf_mem {z : List Nd} {p n : Int} (h : n ∈ nodesOf z p) : (0 ≤ n ∧ n < z.length) ∧ (z.getD n.toNat dN).pl = p := by
 simp only [nodesOf, List.mem_map, List.mem_filter, List.mem_range, decide_eq_true_eq] at h
 obtain ⟨i, ⟨hi, hp⟩, rfl⟩ := h
 exact ⟨by omega, by simpa using hp⟩
/-- The sets of a player. -/
def sets (z : List Nd) (k : Nat) (p : Int) : List (List Int) := setsOf (nodesOf z p) k
theorem sets_at {z : List Nd} {k : Nat} {p : Int} {i : Nat} (h : i < (sets z k p).length) : ((sets z k p).getD i []).length = 2 ∧ (0 ≤ ((sets z k p).getD i []).getD 0 0 ∧ ((sets z k p).getD i []).getD 0 0 < z.length) ∧ (z.getD (((sets z k p).getD i []).getD 0 0).toNat dN).pl = p := by
 obtain ⟨n, c, hn, hc, hs⟩ := setsOf_at h
 have he : (sets z k p).getD i [] = [n, c] := hs
 rw [he]
 exact ⟨rfl, (nodesOf_mem hn).1, (nodesOf_mem hn).2⟩
theorem sets_len {z : List Nd} {k : Nat} {p : Int} (hk : k ≤ 6) : (sets z k p).length ≤ 6 * z.length := by
 unfold sets; rw [setsOf_len]
 have := nodesOf_len z p
 calc (nodesOf z p).length * k ≤ z.length * 6 := Nat.mul_le_mul this hk
  _ = 6 * z.length := Nat.mul_comm _ _
def setsAt (z : List Nd) (ws vs : List (List Int)) (p : Int) : List (List Int) × Int :=
 if isGame z ws vs = true then if 0 ≤ p ∧ p ≤ 1 then (sets z ws.length p, 0) else ([], 2) else ([], 1)
/-- The children of the node of a set. -/
def wide (z : List Nd) (s : List Int) : Nat := (z.getD (s.getD 0 0).toNat dN).ch.length
/-- Parts of one set. -/
def partB (z : List Nd) (s r : List Int) : Bool := rowB (wide z s) 0 60 r && decide (r.sum = 60)
def partsB (z : List Nd) (ss ps : List (List Int)) : Bool := decide (ps.length = ss.length) && (List.range ss.length).all fun i => partB z (ss.getD i []) (ps.getD i [])
section
variable {z : List Nd} {s r : List Int} {ss ps : List (List Int)} {i : Nat}
theorem part_no1 (h : (r.length : Int) ≠ (wide z s : Int)) : partB z s r = false := by unfold partB; rw [row_no1 h, Bool.false_and]
theorem part_no2 (h : r.all (inB 0 60) = false) : partB z s r = false := by unfold partB; rw [row_no2 h, Bool.false_and]
theorem part_no3 (h : r.sum ≠ 60) : partB z s r = false := by unfold partB; rw [decide_eq_false h, Bool.and_false]
theorem part_yes (h1 : (r.length : Int) = (wide z s : Int)) (h2 : r.all (inB 0 60) = true) (h3 : r.sum = 60) : partB z s r = true := by
 unfold partB; rw [row_yes h1 h2, decide_eq_true h3]; rfl
theorem part_row (h : partB z s r = true) : rowB (wide z s) 0 60 r = true ∧ r.sum = 60 := by simpa [partB] using h
theorem parts_no0 (h : (ps.length : Int) ≠ (ss.length : Int)) : partsB z ss ps = false := by
 have : ¬ ps.length = ss.length := by omega
 simp [partsB, this]
theorem parts_no (hi : i < ss.length) (h : partB z (ss.getD i []) (ps.getD i []) = false) : partsB z ss ps = false := by
 unfold partsB
 rw [Bool.eq_false_iff]; intro h'
 rw [Bool.and_eq_true] at h'
 have := List.all_eq_true.1 h'.2 i (List.mem_range.2 hi)
 rw [h] at this; cases this
theorem parts_yes (h : ps.length = ss.length) (h2 : ∀ i, i < ss.length → partB z (ss.getD i []) (ps.getD i []) = true) : partsB z ss ps = true := by
 unfold partsB; rw [decide_eq_true h, Bool.true_and]
 exact List.all_eq_true.2 fun i hi => h2 i (List.mem_range.1 hi)
theorem parts_len (h : partsB z ss ps = true) : ps.length = ss.length := by simp only [partsB, Bool.and_eq_true, decide_eq_true_eq] at h; exact h.1
theorem parts_at (h : partsB z ss ps = true) (hi : i < ss.length) : partB z (ss.getD i []) (ps.getD i []) = true := by
 simp only [partsB, Bool.and_eq_true] at h
 exact List.all_eq_true.1 h.2 i (List.mem_range.2 hi)
theorem all60 (h : r.all (inB 0 60) = true) : ∀ x ∈ r, 0 ≤ x ∧ x ≤ 1000000000 := fun x hx => by
 have := List.all_eq_true.1 h x hx
 simp only [inB, decide_eq_true_eq] at this
 omega
end
def isStrat (z : List Nd) (ws vs : List (List Int)) (pl : Int) (ps : List (List Int)) : Bool :=
 isGame z ws vs && (decide (0 ≤ pl ∧ pl ≤ 1) && partsB z (sets z ws.length pl) ps)
theorem isStrat_ok {z : List Nd} {ws vs : List (List Int)} {pl : Int} {ps : List (List Int)} (h : isStrat z ws vs pl ps = true) : isGame z ws vs = true ∧ (0 ≤ pl ∧ pl ≤ 1) ∧ partsB z (sets z ws.length pl) ps = true := by
 simp only [isStrat, Bool.and_eq_true, decide_eq_true_eq] at h; exact h
/-- The number of pure strategies. -/
def countL : List Int → Int → Option Int
 | [], n => some n
 | x :: l, n => if n * x > 1000000000 then none else countL l (n * x)
def sizes (z : List Nd) (ss : List (List Int)) : List Int := ss.map fun s => (wide z s : Int)
theorem sizes_at {z : List Nd} {ss : List (List Int)} {i : Nat} (h : i < ss.length) : (sizes z ss).getD i 0 = (wide z (ss.getD i []) : Int) := by
 simp [sizes, List.getD, List.getElem?_eq_getElem h]
theorem sizes_len {z : List Nd} {ss : List (List Int)} : (sizes z ss).length = ss.length := by simp [sizes]
theorem sizes_step {z : List Nd} {ss : List (List Int)} {i : Nat} (h : i < ss.length) : sizes z (ss.take (i + 1)) = sizes z (ss.take i) ++ [((z.getD ((ss.getD i []).getD 0 0).toNat dN).ch.length : Int)] := by
 unfold sizes; rw [take_step [] h, List.map_append]; rfl
def countOf (z : List Nd) (ws vs : List (List Int)) (p : Int) : Int × Int :=
 if isGame z ws vs = true then
  if 0 ≤ p ∧ p ≤ 1 then
   match countL (sizes z (sets z ws.length p)) 1 with
   | some n => (n, 0)
   | none => (0, 3)
  else (0, 2)
 else (0, 1)
def codeOf (z : List Nd) (ws vs : List (List Int)) (p : Int) : Int := if isGame z ws vs = true then if 0 ≤ p ∧ p ≤ 1 then 0 else 2 else 1
theorem wide_le {z : List Nd} {ws vs : List (List Int)} {s : List Int} (hg : isGame z ws vs = true) (h : 0 ≤ s.getD 0 0 ∧ s.getD 0 0 < z.length) : wide z s ≤ 4 :=
 (ok_pl (allOk_iff.1 (isTree_ok (isGame_ok hg).1).2.1 (s.getD 0 0).toNat (by omega))).2.2.2.2.1
theorem strat_no1 {z : List Nd} {ws vs : List (List Int)} {pl : Int} {ps : List (List Int)} (h : isGame z ws vs = false) : isStrat z ws vs pl ps = false := by unfold isStrat; rw [h, Bool.false_and]
theorem strat_no2 {z : List Nd} {ws vs : List (List Int)} {pl : Int} {ps : List (List Int)} (h : ¬ (0 ≤ pl ∧ pl ≤ 1)) : isStrat z ws vs pl ps = false := by unfold isStrat; rw [decide_eq_false h, Bool.false_and, Bool.and_false]
theorem strat_in {z : List Nd} {ws vs : List (List Int)} {pl : Int} {ps : List (List Int)} {k : Nat} (hk : ws.length = k) (hg : isGame z ws vs = true) (h : 0 ≤ pl ∧ pl ≤ 1) : isStrat z ws vs pl ps = partsB z (sets z k pl) ps := by subst hk; unfold isStrat; rw [hg, decide_eq_true h, Bool.true_and, Bool.true_and]
theorem sumK_bd {α : Type} (f : α → Nat) (B : Nat) : ∀ l : List α, (∀ x ∈ l, f x ≤ B) → sumK f l ≤ B * l.length
 | [], _ => by simp [sumK]
 | x :: l, h => by
  have h1 := sumK_bd f B l fun y hy => h y (List.mem_cons_of_mem _ hy)
  have h2 := h x (List.mem_cons_self ..)
  have h3 : sumK f (x :: l) = f x + sumK f l := rfl
  rw [h3, List.length_cons, Nat.mul_succ]; omega
end Go.Proofs.YtjengglpbdgmnaaDoor.Math
/- Plain facts on games with high cards and mirrored games. No condition. -/
namespace Go.Proofs.YtjengglpbdgmnaaDoor.Math
open Go.Proofs.YtjengglpbdgmnaaDoor.V
set_option linter.unusedVariables false
set_option linter.unusedSimpArgs false
def mapR {α : Type} (f : Nat → α) (k : Nat) : List α := (List.range k).map f
theorem mapR_snoc {α : Type} (f : Nat → α) (k : Nat) : mapR f k ++ [f k] = mapR f (k + 1) := by unfold mapR; rw [List.range_succ, List.map_append]; rfl
theorem mapR_len {α : Type} (f : Nat → α) (k : Nat) : (mapR f k).length = k := by simp [mapR]
theorem mapR_get {α : Type} (f : Nat → α) {k i : Nat} (d : α) (h : i < k) : (mapR f k).getD i d = f i := by simp [mapR, List.getD, h]
theorem take_snoc {α : Type} {l : List α} {i : Nat} (d : α) (h : i < l.length) : l.take i ++ [l.getD i d] = l.take (i + 1) := (take_step d h).symm
def order (a b : Int) : Int := if a < b then -1 else if b < a then 1 else 0
def hcCell (ag : Bool) (a b : Nat) : Int := if a = b ∧ ag = false then 0 else 1
def hcRow (k : Nat) (ag : Bool) (a : Nat) : List Int := mapR (hcCell ag a) k
def hcWin (k : Nat) (a : Nat) : List Int := mapR (fun b => order (a : Int) (b : Int)) k
def hcW (k : Nat) (ag : Bool) (i : Nat) : List (List Int) := mapR (hcRow k ag) i
def hcV (k : Nat) (i : Nat) : List (List Int) := mapR (hcWin k) i
theorem hcCell_0 {ag : Bool} {a b : Nat} (h : (a : Int) = (b : Int)) (h2 : ag = false) : hcCell ag a b = 0 := by unfold hcCell; rw [if_pos ⟨by omega, h2⟩]
theorem hcCell_1 {ag : Bool} {a b : Nat} (h : ¬ ((a : Int) = (b : Int))) : hcCell ag a b = 1 := by unfold hcCell; rw [if_neg fun h' => h (by rw [h'.1])]
theorem hcCell_2 {ag : Bool} {a b : Nat} (h2 : ag = true) : hcCell ag a b = 1 := by unfold hcCell; rw [if_neg fun h' => by rw [h2] at h'; cases h'.2]
theorem hcRow_add0 {ag : Bool} {a b : Nat} (h : (a : Int) = (b : Int)) (h2 : ag = false) : mapR (hcCell ag a) b ++ [0] = mapR (hcCell ag a) (b + 1) := by rw [← mapR_snoc, hcCell_0 h h2]
theorem hcRow_add1 {ag : Bool} {a b : Nat} (h : ¬ ((a : Int) = (b : Int))) : mapR (hcCell ag a) b ++ [1] = mapR (hcCell ag a) (b + 1) := by rw [← mapR_snoc, hcCell_1 h]
theorem hcRow_add2 {ag : Bool} {a b : Nat} (h2 : ag = true) : mapR (hcCell ag a) b ++ [1] = mapR (hcCell ag a) (b + 1) := by rw [← mapR_snoc, hcCell_2 h2]
theorem fill_put {α : Type} (d z v : α) {l : List α} {n i : Nat} (hl : l.length = n) (h : i < n) (hv : l.getD i d = v) : (l.take i ++ List.replicate (n - i) z).set i v = l.take (i + 1) ++ List.replicate (n - (i + 1)) z := by
 rw [← hv]; exact fill_step d z hl h
theorem hcRow_len (k : Nat) (ag : Bool) (a : Nat) : (hcRow k ag a).length = k := mapR_len _ _
theorem hcWin_len (k : Nat) (a : Nat) : (hcWin k a).length = k := mapR_len _ _
abbrev G3 := List Nd × List (List Int) × List (List Int)
def highAt (z : List Nd) (kk : Int) (ag : Bool) : G3 × Int :=
 if isTree z = true then if (1 ≤ kk ∧ kk ≤ 6) ∧ ¬ (kk = 1 ∧ ag = false) then ((z, hcW kk.toNat ag kk.toNat, hcV kk.toNat kk.toNat), 0) else (([], [], []), 2) else (([], [], []), 1)
theorem mapR_mem {α : Type} {f : Nat → α} {k : Nat} {x : α} (h : x ∈ mapR f k) : ∃ i, i < k ∧ x = f i := by
 simp only [mapR, List.mem_map, List.mem_range] at h
 obtain ⟨i, hi, rfl⟩ := h; exact ⟨i, hi, rfl⟩
end Go.Proofs.YtjengglpbdgmnaaDoor.Math
/- A slice put into an owned row; plain facts on bet trees. No condition. -/
namespace Go.Proofs.YtjengglpbdgmnaaDoor.V
open Go Go.RowKit
set_option linter.unusedVariables false
set_option linter.unusedSimpArgs false
theorem mid_set (A o C : List Value) (f : Nat) (v : Value) (hf : f < o.length) : A ++ o.set f v ++ C = (A ++ o ++ C).take (A.length + f) ++ [v] ++ (A ++ o ++ C).drop (A.length + f + 1) := by
  have h1 : (A ++ o ++ C).take (A.length + f) = A ++ o.take f := by
    rw [List.append_assoc, List.take_length_add_append, List.take_append_of_le_length (by omega)]
  have h2 : (A ++ o ++ C).drop (A.length + f + 1) = o.drop (f + 1) ++ C := by
    rw [List.append_assoc, Nat.add_assoc, List.drop_length_add_append, List.drop_append_of_le_length (by omega)]
  rw [h1, h2, List.set_eq_take_append_cons_drop, if_pos hf]
  simp
theorem one_cell {cur o : List Value} {p m f : Nat} {v : Value} (h : ∀ j u, o[j]? = some u → cur[p + j]? = some u) (hl : o.length = m) (hm : p + m ≤ cur.length) (hf : f < m) :
    cur.take p ++ o.set f v ++ cur.drop (p + m) = cur.take (p + f) ++ [v] ++ cur.drop (p + f + 1) := by
  have hA : (cur.take p).length = p := by rw [List.length_take]; omega
  have hcur : cur.take p ++ o ++ cur.drop (p + m) = cur := by
    have : (cur.drop p).take m = o := by
      refine List.ext_getElem? fun j => ?_
      by_cases hj : j < m
      · rw [List.getElem?_take_of_lt hj, List.getElem?_drop]
        have ho : o[j]? = some (o[j]'(by omega)) := List.getElem?_eq_getElem (by omega)
        rw [h j _ ho, ho]
      · rw [List.getElem?_eq_none (by rw [List.length_take]; omega), List.getElem?_eq_none (by omega)]
    rw [← this, List.append_assoc, ← List.drop_drop, List.take_append_drop, List.take_append_drop]
  have := mid_set (cur.take p) o (cur.drop (p + m)) f v (by omega)
  rw [hcur, hA] at this
  exact this
section
variable {P : Program} {n : Nat} {w0 : World} {M : Nat → Prop} {L L' : List (World → Prop)} {σ : Fr} {K K' : Ko} {c x y : Code} {ops : Array Oper} {S : World → Prop} {r : Sch} {i : Nat}
variable {d : Nat} {t : TypeId} {p : String} {af : Array Edge} {g : Option (Nat × Bool)} {a b : Operand}
variable {α : Type} {k : RK α} {ty e e1 by_ N C : Nat} {ao : Option Addr} {hs : Nat → Hd} {xs : List α} {zc : List Value}
/-- A store of a slice into one cell of an owned row, with what it leads to. -/
theorem stRk_opw {gk off nn f : Nat} {hd : Hd} {x x' : α} {ro j q : Nat} {v : Value} {w : World} (hk : k.Ok) (hj : L[j]? = some (OwnR k e e1 ao N C hs xs)) (hq : (L.eraseIdx j)[q]? = some (OwnI e1 hd.1 nn hd.2 (k.kid x'))) (hao : ao = some ⟨gk, 0, none⟩) (hx : xs[ro]? = some x) (hz : Size P ty 1) (hsep : Sep w0 M L w) (ha : ev σ a = .pointer (some ⟨gk, off, none⟩)) (hoff : off = ro * k.m + f) (hb : ev σ b = v) (hv : nn = (k.kid x').length → k.cells x' hd = (k.cells x (hs ro)).set f v) (hv1 : v.oneCell' = true) (hf : f < k.m) :
    opw P ⟨none, .store ty a b, t, p, af, g⟩ σ w fun σ' w' => Sep w0 M (OwnR k e e1 ao N C (hset hs ro hd) (xs.set ro x') :: (L.eraseIdx j).eraseIdx q) w' ∧ σ' = σ := by
  subst hao
  subst hoff
  have hrow : OwnR k e e1 (some ⟨gk, 0, none⟩) N C hs xs w := hsep.at_ j hj
  have hlt : ro < N := by rw [← hrow.1]; exact (List.getElem?_eq_some_iff.1 hx).1
  have hnn : OwnI e1 hd.1 nn hd.2 (k.kid x') w := ((hsep.perm (pull hj)).tail).at_ q hq
  have hnn := hnn.lenz
  subst hnn
  have hv := hv rfl
  have hp := (hsep.perm (pull hj)).perm ((pull hq).cons _)
  have core : ∀ f0 g', St f0 (OwnR k e e1 (some ⟨gk, 0, none⟩) N C hs xs) w → St g' (OwnI e1 hd.1 (k.kid x').length hd.2 (k.kid x')) w → (∀ q, f0 q → ¬ g' q) →
      ∃ cur : Array Value, w.heap[gk]? = some (.cells cur e (0, 0)) ∧ ro * k.m + (k.cells x' hd).length ≤ cur.size ∧ OwnR k e e1 (some ⟨gk, 0, none⟩) N C (hset hs ro hd) (xs.set ro x') (w.setRow gk (cur.toList.take (ro * k.m) ++ k.cells x' hd ++ cur.toList.drop (ro * k.m + (k.cells x' hd).length)).toArray) := fun f0 g' hf hg' hfg =>
    OwnR.setRow_ hk hf.out hg'.out hlt (OwnR.mem hf) (fun q hq => Own.mem hg' q hq) hfg
  obtain ⟨_, fs, h2⟩ := id hp
  match fs, h2 with
  | f0 :: g' :: fs, ⟨k1, k2, k3, k4, k5, k6, k7⟩ =>
    obtain ⟨cur, hc, hsz, _⟩ := core f0 g' k3 k6 fun q hq hq' => k2 g' List.mem_cons_self q hq hq'
    have hlen := hk.len x' hd
    have hsame : cur.toList.take (ro * k.m) ++ k.cells x' hd ++ cur.toList.drop (ro * k.m + (k.cells x' hd).length) = cur.toList.take (ro * k.m + f) ++ [v] ++ cur.toList.drop (ro * k.m + f + 1) := by
      rw [hlen, hv]
      refine one_cell (fun j u hu => ?_) (hk.len x (hs ro)) (by rw [Array.length_toList]; omega) hf
      obtain ⟨b', hb', hcell⟩ := hrow.cell hk hx hu
      cases hb'
      unfold World.cell? at hcell
      simp only [hc] at hcell
      simpa using hcell
    have hc1 : v.cells = #[v] := by cases v <;> first | rfl | cases hv1
    have hst := run_storeCells_at P gk (ro * k.m + f) e [v] 0 cur w hc (by simp; omega) (by simpa using hv1)
    have hr : (Instr.storeAt ty (.pointer (some ⟨gk, ro * k.m + f, none⟩)) v).run P w = .ok () (w.setRow gk (cur.toList.take (ro * k.m + f) ++ [v] ++ cur.toList.drop (ro * k.m + f + 1)).toArray) := by
      simp only [Instr.storeAt, Instr.sureAddr, storeVar, hz w, hc1, Sem.run_bind, Sem.run_pure, Result.andThen_ok]
      simpa using hst
    unfold opw
    simp only [execOp, ha, hb, Sem.run_bind, hr, Result.andThen_ok, Sem.run_pure]
    refine ⟨hp.fuse fun f1 g1 hf1 hg1 hfg => ?_, by first | trivial | rfl⟩
    obtain ⟨cur', hc', _, ho'⟩ := core f1 g1 hf1 hg1 hfg
    rw [hc] at hc'; cases hc'
    rw [hsame] at ho'
    refine ⟨fun q => f1 q ∨ g1 q, fun q hq => hq.elim .inl (.inr ∘ .inl), ho'.St fun q hq => ?_, ⟨rfl, rfl, rfl, by simp, fun q _ hn => setRow_other w gk q _ fun e => hn (e ▸ .inl (OwnR.mem hf1 gk (.inl rfl)))⟩⟩
    rcases hq with hq | ⟨i', hi', hq⟩
    · exact .inl (OwnR.mem hf1 q (.inl hq))
    · by_cases h5 : i' = ro
      · subst h5; rw [hset_same] at hq; exact .inr (Own.mem hg1 q hq)
      · rw [hset_other hs hd h5] at hq; exact .inl (OwnR.mem hf1 q (.inr ⟨i', hi', hq⟩))
  | [_], ⟨_, _, _, h⟩ => exact h.elim
  | [], h => exact h.elim
theorem stRk {gk off nn f : Nat} {hd : Hd} (x x' : α) (ro j q : Nat) (hk : k.Ok) (hj : L[j]? = some (OwnR k e e1 ao N C hs xs)) (hq : (L.eraseIdx j)[q]? = some (OwnI e1 hd.1 nn hd.2 (k.kid x'))) (hao : ao = some ⟨gk, 0, none⟩) (hx : xs[ro]? = some x) (hz : Size P ty 1) (hS : ∀ w, Sep w0 M (OwnR k e e1 ao N C (hset hs ro hd) (xs.set ro x') :: (L.eraseIdx j).eraseIdx q) w → S w) (ho : ops[i]? = some ⟨none, .store ty a b, t, p, af, g⟩) (hg : go ops σ g) (ha : ev σ a = .pointer (some ⟨gk, off, none⟩)) (hoff : off = ro * k.m + f) {v : Value} (hb : ev σ b = v) (hv : nn = (k.kid x').length → k.cells x' hd = (k.cells x (hs ro)).set f v) (hv1 : v.oneCell' = true) (hf : f < k.m)
    (h : RG P n w0 M ops S (OwnR k e e1 ao N C (hset hs ro hd) (xs.set ro x') :: (L.eraseIdx j).eraseIdx q) r σ K) : RG P n w0 M ops S L (.op .l i r) σ K :=
  rL1 (v := undef) hS ho hg (fun _ hs => stRk_opw hk hj hq hao hx hz hs ha hoff hb hv hv1 hf) h
end
end Go.Proofs.YtjengglpbdgmnaaDoor.V
namespace Go.Proofs.YtjengglpbdgmnaaDoor.Math
open Go.Proofs.YtjengglpbdgmnaaDoor.V
/-- How often a tree may grow on. -/
def ckN (ck : Bool) : Int := if ck then 2 else 3
def p2 : Nat → Nat
  | 0 => 1
  | f + 1 => p2 f + p2 f
theorem p2_pos : ∀ f, 1 ≤ p2 f
  | 0 => Nat.le_refl _
  | f + 1 => by have := p2_pos f; unfold p2; omega
/-- A bet tree: the nodes that are added. -/
def growF : Nat → Int → Int → Int → Int → Int → Bool → Nat → List Nd
  | 0, _, _, _, _, _, _, _ => []
  | f + 1, pl, p0, p1, bet, r, ck, b =>
    if p0 = p1 then
      ⟨pl, p0, p1, -1, [((b + 1 : Nat) : Int), ((b + 1 + (if ck then [(⟨2, p0, p1, -1, []⟩ : Nd)] else growF f (1 - pl) p0 p1 bet r true (b + 1)).length : Nat) : Int)]⟩ ::
        ((if ck then [(⟨2, p0, p1, -1, []⟩ : Nd)] else growF f (1 - pl) p0 p1 bet r true (b + 1)) ++
          growF f (1 - pl) (if pl = 0 then p1 + bet else p0) (if pl = 0 then p1 else p0 + bet) bet r false (b + 1 + (if ck then [(⟨2, p0, p1, -1, []⟩ : Nd)] else growF f (1 - pl) p0 p1 bet r true (b + 1)).length))
    else if r = 0 then [⟨pl, p0, p1, -1, [((b + 1 : Nat) : Int), ((b + 1 + 1 : Nat) : Int)]⟩, ⟨2, p0, p1, pl, []⟩, ⟨2, if pl = 0 then p1 else p0, if pl = 0 then p1 else p0, -1, []⟩]
    else ⟨pl, p0, p1, -1, [((b + 1 : Nat) : Int), ((b + 1 + 1 : Nat) : Int), ((b + 1 + 1 + 1 : Nat) : Int)]⟩ :: ⟨2, p0, p1, pl, []⟩ :: ⟨2, if pl = 0 then p1 else p0, if pl = 0 then p1 else p0, -1, []⟩ ::
      growF f (1 - pl) (if pl = 0 then p1 + bet else p0) (if pl = 0 then p1 else p0 + bet) bet (r - 1) false (b + 1 + 1 + 1)
theorem growF_len : ∀ (f : Nat) (pl p0 p1 bet r : Int) (ck : Bool) (b : Nat), (growF f pl p0 p1 bet r ck b).length + 3 ≤ 4 * p2 f
  | 0, _, _, _, _, _, _, _ => by show 0 + 3 ≤ 4 * 1; omega
  | f + 1, pl, p0, p1, bet, r, ck, b => by
    have h2 : p2 (f + 1) = p2 f + p2 f := rfl
    have hp := p2_pos f
    unfold growF
    split
    · rw [List.length_cons, List.length_append]
      have h1 : (if ck then [(⟨2, p0, p1, -1, []⟩ : Nd)] else growF f (1 - pl) p0 p1 bet r true (b + 1)).length + 3 ≤ 4 * p2 f := by
        split
        · show 1 + 3 ≤ _; omega
        · exact growF_len f _ _ _ _ _ _ _
      generalize (if ck then [(⟨2, p0, p1, -1, []⟩ : Nd)] else growF f (1 - pl) p0 p1 bet r true (b + 1)).length = u at h1 ⊢
      have := growF_len f (1 - pl) (if pl = 0 then p1 + bet else p0) (if pl = 0 then p1 else p0 + bet) bet r false (b + 1 + u)
      omega
    · split
      · show 3 + 3 ≤ _; omega
      · have := growF_len f (1 - pl) (if pl = 0 then p1 + bet else p0) (if pl = 0 then p1 else p0 + bet) bet (r - 1) false (b + 1 + 1 + 1)
        simp only [List.length_cons]; omega
theorem set_mid {z rest : List Nd} {x y : Nd} {n : Nat} (h : z.length = n) : (z ++ x :: rest).set n y = z ++ y :: rest := by
  subst h
  rw [List.set_append_right _ _ (Nat.le_refl _), Nat.sub_self]; rfl
section
variable {z : List Nd} {f n n1 n2 : Nat} {pl p0 p1 q0 q1 o bet r r1 pm : Int} {ck : Bool} {ch : List Int} {A B : List Nd}
theorem grow_1 (hz : z.length = n) (he : ¬ p0 = p1) (hr : r = 0) (ho : o = if pl = 0 then p1 else p0) (hch : ch = [((n + 1 : Nat) : Int), ((n + 1 + 1 : Nat) : Int)]) :
    (((z ++ [(⟨pl, p0, p1, -1, []⟩ : Nd)]) ++ [(⟨2, p0, p1, pl, []⟩ : Nd)]) ++ [(⟨2, o, o, -1, []⟩ : Nd)]).set n ⟨pl, p0, p1, -1, ch⟩ = z ++ growF (f + 1) pl p0 p1 bet r ck n := by
  subst ho; subst hch; subst hr
  rw [growF, if_neg he, if_pos rfl, List.append_assoc, List.append_assoc]
  exact set_mid hz
theorem grow_2 (hz : z.length = n) (he : ¬ p0 = p1) (hr : r ≠ 0) (hr1 : r1 = r - 1) (hm : pm = 1 - pl) (ho : o = if pl = 0 then p1 else p0) (h0 : q0 = if pl = 0 then p1 + bet else p0) (h1 : q1 = if pl = 0 then p1 else p0 + bet) (hch : ch = [((n + 1 : Nat) : Int), ((n + 1 + 1 : Nat) : Int), ((n + 1 + 1 + 1 : Nat) : Int)]) :
    ((((z ++ [(⟨pl, p0, p1, -1, []⟩ : Nd)]) ++ [(⟨2, p0, p1, pl, []⟩ : Nd)]) ++ [(⟨2, o, o, -1, []⟩ : Nd)]) ++ growF f pm q0 q1 bet r1 false (n + 1 + 1 + 1)).set n ⟨pl, p0, p1, -1, ch⟩ = z ++ growF (f + 1) pl p0 p1 bet r ck n := by
  subst ho; subst hch; subst h0; subst h1; subst hm; subst hr1
  rw [growF, if_neg he, if_neg hr, List.append_assoc, List.append_assoc, List.append_assoc]
  exact set_mid hz
theorem grow_3 (hz : z.length = n) (he : p0 = p1) (hck : ck = true) (hm : pm = 1 - pl) (h0 : q0 = if pl = 0 then p1 + bet else p0) (h1 : q1 = if pl = 0 then p1 else p0 + bet) (hch : ch = [((n + 1 : Nat) : Int), ((n + 1 + 1 : Nat) : Int)]) :
    (((z ++ [(⟨pl, p0, p1, -1, []⟩ : Nd)]) ++ [(⟨2, p0, p1, -1, []⟩ : Nd)]) ++ growF f pm q0 q1 bet r false (n + 1 + 1)).set n ⟨pl, p0, p1, -1, ch⟩ = z ++ growF (f + 1) pl p0 p1 bet r ck n := by
  subst hch; subst h0; subst h1; subst hm; subst hck
  rw [growF, if_pos he, List.append_assoc, List.append_assoc]
  exact set_mid hz
theorem grow_4 (hz : z.length = n) (he : p0 = p1) (hck : ck = false) (hm : pm = 1 - pl) (h0 : q0 = if pl = 0 then p1 + bet else p0) (h1 : q1 = if pl = 0 then p1 else p0 + bet) (hn : n1 = n + 1 + (growF f pm p0 p1 bet r true (n + 1)).length) (hch : ch = [((n + 1 : Nat) : Int), (n1 : Int)]) :
    (((z ++ [(⟨pl, p0, p1, -1, []⟩ : Nd)]) ++ growF f pm p0 p1 bet r true (n + 1)) ++ growF f pm q0 q1 bet r false n1).set n ⟨pl, p0, p1, -1, ch⟩ = z ++ growF (f + 1) pl p0 p1 bet r ck n := by
  subst hch; subst h0; subst h1; subst hck; subst hn; subst hm
  rw [growF, if_pos he, List.append_assoc, List.append_assoc]
  exact set_mid hz
theorem at_mid {rest : List Nd} {x : Nd} (h : z.length = n) : (z ++ x :: rest)[n]? = some x := by subst h; simp
end
def betAt (ante bet r : Int) : List Nd × Int := if (0 ≤ ante ∧ ante ≤ 100) ∧ (1 ≤ bet ∧ bet ≤ 100) ∧ (0 ≤ r ∧ r ≤ 2) ∧ ante + bet * (r + 1) ≤ 100 then (growF 5 0 ante ante bet r false 0, 0) else ([], 2)
theorem betAt_2 {ante bet r : Int} (h : ¬ ((0 ≤ ante ∧ ante ≤ 100) ∧ (1 ≤ bet ∧ bet ≤ 100) ∧ (0 ≤ r ∧ r ≤ 2) ∧ ante + bet * (r + 1) ≤ 100)) : betAt ante bet r = ([], 2) := if_neg h
theorem betAt_0 {ante bet r : Int} (h : (0 ≤ ante ∧ ante ≤ 100) ∧ (1 ≤ bet ∧ bet ≤ 100) ∧ (0 ≤ r ∧ r ≤ 2) ∧ ante + bet * (r + 1) ≤ 100) : betAt ante bet r = (growF 5 0 ante ante bet r false 0, 0) := if_pos h
end Go.Proofs.YtjengglpbdgmnaaDoor.Math
/- Plain facts on the sizes of bet trees. No condition. -/
namespace Go.Proofs.YtjengglpbdgmnaaDoor.Math
open Go.Proofs.YtjengglpbdgmnaaDoor.V
set_option linter.unusedVariables false
set_option linter.unusedSimpArgs false
theorem growF_kids : ∀ (f : Nat) (pl p0 p1 bet r : Int) (ck : Bool) (b : Nat), ∀ x ∈ growF f pl p0 p1 bet r ck b, x.ch.length ≤ 3
  | 0, _, _, _, _, _, _, _, x, hx => by cases hx
  | f + 1, pl, p0, p1, bet, r, ck, b, x, hx => by
    unfold growF at hx
    split at hx
    · rcases List.mem_cons.1 hx with rfl | hx
      · exact Nat.le_succ 2
      · rcases List.mem_append.1 hx with hx | hx
        · split at hx
          · rcases List.mem_cons.1 hx with rfl | hx
            · exact Nat.zero_le _
            · cases hx
          · exact growF_kids f _ _ _ _ _ _ _ x hx
        · exact growF_kids f _ _ _ _ _ _ _ x hx
    · split at hx
      · rcases List.mem_cons.1 hx with rfl | hx
        · exact Nat.le_succ 2
        · rcases List.mem_cons.1 hx with rfl | hx
          · exact Nat.zero_le _
          · rcases List.mem_cons.1 hx with rfl | hx
            · exact Nat.zero_le _
            · cases hx
      · rcases List.mem_cons.1 hx with rfl | hx
        · exact Nat.le_refl 3
        · rcases List.mem_cons.1 hx with rfl | hx
          · exact Nat.zero_le _
          · rcases List.mem_cons.1 hx with rfl | hx
            · exact Nat.zero_le _
            · exact growF_kids f _ _ _ _ _ _ _ x hx
theorem betAt_bd (ante bet r : Int) : (betAt ante bet r).1.length ≤ 125 ∧ sumK f4 (betAt ante bet r).1 ≤ 875 ∧ sumK chl (betAt ante bet r).1 ≤ 375 := by
  have h0 : sumK f4 ([] : List Nd) = 0 := rfl
  have h1 : sumK chl ([] : List Nd) = 0 := rfl
  unfold betAt; split
  · have hl := growF_len 5 0 ante ante bet r false 0
    have hp : p2 5 = 32 := rfl
    have h2 := sumK_bd f4 7 (growF 5 0 ante ante bet r false 0) fun x hx => by have := growF_kids 5 0 ante ante bet r false 0 x hx; unfold f4; omega
    have h3 := sumK_bd chl 3 (growF 5 0 ante ante bet r false 0) fun x hx => by have := growF_kids 5 0 ante ante bet r false 0 x hx; unfold chl; omega
    dsimp only; omega
  · dsimp only; rw [h0, h1]; exact ⟨Nat.zero_le _, Nat.zero_le _, Nat.zero_le _⟩
def kuhnT : List Nd := (betAt 1 1 0).1
end Go.Proofs.YtjengglpbdgmnaaDoor.Math
/- Plain facts on trees that are drawn. No condition. -/
namespace Go.Proofs.YtjengglpbdgmnaaDoor.Math
open Go.Proofs.YtjengglpbdgmnaaDoor.V
set_option linter.unusedVariables false
def p4 : Nat → Nat
  | 0 => 1
  | f + 1 => 4 * p4 f
theorem p4_pos : ∀ f, 1 ≤ p4 f
  | 0 => Nat.le_refl _
  | f + 1 => by have := p4_pos f; unfold p4; omega
theorem p4_s {d : Int} (h : 1 ≤ d) : p4 d.toNat = 4 * p4 (d - 1).toNat := by
  rw [show d.toNat = (d - 1).toNat + 1 from by omega]; rfl
theorem growF_pos (f : Nat) (pl p0 p1 bet r : Int) (ck : Bool) (b : Nat) : 1 ≤ (growF (f + 1) pl p0 p1 bet r ck b).length := by
  unfold growF
  split
  · rw [List.length_cons]; omega
  · split
    · exact Nat.le_add_left 1 2
    · rw [List.length_cons]; omega
theorem betAt_pos {ante bet r : Int} (h : (0 ≤ ante ∧ ante ≤ 100) ∧ (1 ≤ bet ∧ bet ≤ 100) ∧ (0 ≤ r ∧ r ≤ 2) ∧ ante + bet * (r + 1) ≤ 100) : 1 ≤ (betAt ante bet r).1.length := by
  rw [betAt_0 h]; exact growF_pos 4 0 ante ante bet r false 0
def kidsB (z : List Nd) : Prop := ∀ x ∈ z, x.ch.length ≤ 4
theorem kidsB_nil : kidsB [] := fun x hx => by cases hx
theorem kidsB_app {z : List Nd} {x : Nd} (h : kidsB z) (hx : x.ch.length ≤ 4) : kidsB (z ++ [x]) := fun y hy => by
  rcases List.mem_append.1 hy with hy | hy
  · exact h y hy
  · rw [List.mem_singleton.1 hy]; exact hx
theorem kidsB_set {z : List Nd} {x : Nd} {i : Nat} (h : kidsB z) (hx : x.ch.length ≤ 4) : kidsB (z.set i x) := fun y hy => by
  rcases List.mem_or_eq_of_mem_set hy with hy | rfl
  · exact h y hy
  · exact hx
theorem kidsB_at {z : List Nd} (h : kidsB z) (i : Nat) : (z.getD i dN).ch.length ≤ 4 := by
  by_cases hi : i < z.length
  · exact h _ (getD_mem dN hi)
  · rw [List.getD_eq_getElem?_getD, List.getElem?_eq_none (by omega)]; exact Nat.zero_le _
theorem betAt_kids (ante bet r : Int) : kidsB (betAt ante bet r).1 := fun x hx => by
  unfold betAt at hx; split at hx
  · have := growF_kids 5 0 ante ante bet r false 0 x hx; omega
  · cases hx
theorem tree_kids {z : List Nd} (h : isTree z = true) : kidsB z := fun x hx => by
  obtain ⟨i, hi, rfl⟩ := List.getElem_of_mem hx
  have := (ok_pl (allOk_iff.1 (isTree_ok h).2.1 i hi)).2.2.2.2.1
  rw [List.getD_eq_getElem?_getD, List.getElem?_eq_getElem hi] at this
  exact this
theorem tree_len {z : List Nd} (h : isTree z = true) : z.length ≤ 1000 := by
  have := (isTree_ok h).1; omega
def rect (u : List (List Int)) (n : Nat) : Prop := u.length = n ∧ ∀ i, i < n → (u.getD i []).length = n
theorem rect_set {u : List (List Int)} {n i j : Nat} {v : Int} (h : rect u n) (hi : i < n) : rect (u.set i ((u.getD i []).set j v)) n := by
  refine ⟨by rw [List.length_set]; exact h.1, fun k hk => ?_⟩
  rw [List.getD_eq_getElem?_getD, List.getElem?_set]
  split
  · rename_i e; subst e
    rw [if_pos (by rw [h.1]; exact hi)]
    show ((u.getD i []).set j v).length = n
    rw [List.length_set]; exact h.2 i hi
  · rw [← List.getD_eq_getElem?_getD]; exact h.2 k hk
theorem rect_hcW (n : Nat) (ag : Bool) : rect (hcW n ag n) n := ⟨mapR_len _ _, fun i hi => by
  unfold hcW; rw [mapR_get _ _ hi]; exact hcRow_len n ag i⟩
theorem rect_hcV (n : Nat) : rect (hcV n n) n := ⟨mapR_len _ _, fun i hi => by
  unfold hcV; rw [mapR_get _ _ hi]; exact hcWin_len n i⟩
theorem rect_to {u : List (List Int)} {k n : Nat} (h : rect u k) (e : u.length = n) : rect u n := by
  have h1 := h.1; rw [e] at h1; subst h1; exact h
end Go.Proofs.YtjengglpbdgmnaaDoor.Math
/- Rows copied with what they lead to; rows that are read. No condition. -/
namespace Go.Proofs.YtjengglpbdgmnaaDoor.V
open Go Go.RowKit
set_option linter.unusedVariables false
set_option linter.unusedSimpArgs false
section
variable {P : Program} {ty e m by_ : Nat} {zc : List Value}
theorem run_append_listM {w : World} (hM : Mk P ty e m by_ zc) {n c k cq : Nat} {ao q : Option Addr} {xs news : List Value} (hown : Own e m ao n c xs w) (tyr : TypeId) (hlen : news.length = k * m) (hc : CellsAt q news w) (h1 : ∀ u ∈ news, u.oneCell' = true) (hN : (n + k) * by_ ≤ 140737488355328) :
    ∃ a' c' w', (Builtin.append_ #[ty, ty] tyr #[.slice ao n c, .slice q k cq]).run P w = .ok (.slice a' (n + k) c') w' ∧ Own e m a' (n + k) c' (xs ++ news) w' ∧ Upd (fpO ao) w w' ∧ (∀ g', fpO a' g' → fpO ao g' ∨ New w w' g') := by
  obtain ⟨hu, inf, zv, hi, hz0, hs, hby, hzc, hm, hm0, hb0⟩ := hM
  have hN63 : n + k ≤ maxLen := by
    have : n + k ≤ (n + k) * by_ := Nat.le_mul_of_pos_right _ hb0
    simp only [maxLen]; omega
  have hzs : zv.cells.size = m := by rw [hzc]; simpa using hm
  cases q with
  | none =>
    have hn0 : news = [] := by
      cases news with
      | nil => rfl
      | cons x l => obtain ⟨b, off, h, _⟩ := hc 0 x rfl; cases h
    subst hn0
    have hk0 : k = 0 := by
      have h5 : k * m = 0 := by simpa using hlen.symm
      exact (Nat.mul_eq_zero.1 h5).resolve_right (by omega)
    subst hk0
    have hr := run_append_none_any (P := P) w ty tyr e inf 0 m hu hi (.slice ao n c) n xs hown cq
    exact ⟨ao, c, w, hr, by rw [List.append_nil]; exact hown, Upd.refl _ _, fun g' h => .inl h⟩
  | some ad =>
    have hnews : ∀ j u, news[j]? = some u → w.cell? (ad.add j) = some u := fun j u hj => by
      obtain ⟨b, off, h, hc'⟩ := hc j u hj
      cases h
      rw [Addr.add_lit]; exact hc'
    have fin : ∀ (v' : Value) (w' : World), (Builtin.append_ #[ty, ty] tyr #[.slice ao n c, .slice (some ad) k cq]).run P w = .ok v' w' → w'.ownsRow w.heap.size e m v' (n + k) (xs ++ news) → Upd (fpO ao) w w' →
        ∃ a' c' w', (Builtin.append_ #[ty, ty] tyr #[.slice ao n c, .slice (some ad) k cq]).run P w = .ok (.slice a' (n + k) c') w' ∧ Own e m a' (n + k) c' (xs ++ news) w' ∧ Upd (fpO ao) w w' ∧ (∀ g', fpO a' g' → fpO ao g' ∨ New w w' g') := by
      intro v' w' hr ho hup
      obtain ⟨hl', h2⟩ := ho
      rcases h2 with ⟨hv, h0⟩ | ⟨g', cap, cur, rfl, hb, hg, hnc, hcm, hcs, ht⟩
      · subst hv
        rw [h0] at hl' ⊢
        exact ⟨none, 0, w', hr, ⟨hl', .inl ⟨rfl, rfl⟩⟩, hup, fun g' h => by cases h⟩
      · exact ⟨some ⟨g', 0, none⟩, cap, w', hr, ⟨hl', .inr ⟨g', cap, cur, rfl, Nat.zero_le _, hg, hnc, hcm, hcs, ht⟩⟩, hup, fun g2 h => by
          unfold fpO at h; cases h
          exact .inr ⟨hb, (Array.getElem?_eq_some_iff.1 hg).1⟩⟩
    have up : ∀ {w' : World} {row : Option Nat}, w.grownBy w' row → (∀ k, row = some k → fpO ao k) → Upd (fpO ao) w w' := fun hgr hrow =>
      ⟨hgr.os, hgr.tape, hgr.output, hgr.size, fun q hq hn => hgr.block q hq (fun e => hn (hrow q e.symm))⟩
    rcases hown.2 with ⟨hv, h0⟩ | ⟨g0, cap, cur, hv, hb, hg, hnc, hcm, hcs, ht⟩
    · obtain ⟨rfl, hc0⟩ : ao = none ∧ c = 0 := by cases hv; exact ⟨rfl, rfl⟩
      subst h0; subst hc0
      obtain ⟨v', w', hr, ho, hgr, _⟩ := run_append_own (P := P) w w.heap.size ty tyr e inf zv m by_ hu hi hz0 hs hby hzs hm0 (.slice none 0 0) 0 xs ⟨hown.1, .inl ⟨rfl, rfl⟩⟩ ad k cq news hlen hnews h1 hN63 hN (Nat.le_refl _)
      exact fin v' w' hr ho (up hgr fun k hk => by simp [Value.ownBlock] at hk)
    · obtain ⟨rfl, rfl⟩ : ao = some ⟨g0, 0, none⟩ ∧ c = cap := by cases hv; exact ⟨rfl, rfl⟩
      by_cases hroom : n + k ≤ c
      · obtain ⟨w', hr, ho, hgr⟩ := run_append_fits (P := P) w 0 ty tyr e inf m hu hi hs g0 n c xs hown ad k cq news hlen hnews h1 hroom
        exact ⟨some ⟨g0, 0, none⟩, c, w', hr, ho, up hgr fun k hk => by cases hk; rfl, fun g' h => .inl h⟩
      · have holds : ∀ j u, xs[j]? = some u → w.cell? ((⟨g0, 0, none⟩ : Addr).add j) = some u := by
          have h3 : w.ownsRow 0 e m (.slice (some ⟨g0, 0, none⟩) n c) n xs := hown
          exact h3.cells (g := g0) rfl
        obtain ⟨v', w', hr, ho, hgr⟩ := run_append_arg_grows (P := P) w ty tyr e inf zv m by_ hu hi hz0 hs hby hzs hm0 ⟨g0, 0, none⟩ n c xs hown.1 holds ad k cq news hlen hnews (by omega) hN63 hN
        exact fin v' w' hr ho (up hgr fun k hk => by simp at hk)
end
section
variable {P : Program} {n : Nat} {w0 : World} {M : Nat → Prop} {L L' Lf Lr : List (World → Prop)} {σ : Fr} {K K' : Ko} {c x y : Code} {ops : Array Oper} {S : World → Prop} {r : Sch} {i : Nat}
variable {d : Nat} {t : TypeId} {p : String} {af : Array Edge} {g : Option (Nat × Bool)} {a b : Operand}
variable {ty e m by_ N C : Nat} {ao : Option Addr} {xs : List Value} {zc : List Value}
/-- 'append' of a list of cells to nothing. -/
theorem aplX {k lc : Nat} {q : Option Addr} {news : List Value} (j : Nat) (hj : L[j]? = some (Own e m ao 0 C [])) (hC : Kn w0 M L (CellsAt q news)) (hl : news.length = k * m) (h1 : ∀ u ∈ news, u.oneCell' = true) (hM : Mk P ty e m by_ zc) (hS : ∀ (x : Option Addr × Nat) w, Sep w0 M (L.set j (Own e m x.1 k x.2 news)) w → S w) (ho : ops[i]? = some ⟨some d, .call ⟨.builtin .append, #[a, b], #[ty, ty]⟩, t, p, af, g⟩) (hg : go ops σ g) (ha : ev σ a = .slice ao 0 C) (hb : ev σ b = .slice q k lc) (hN : (0 + k) * by_ ≤ 140737488355328)
    (h : ∀ a' c', RG P n w0 M ops S (L.set j (Own e m a' k c' news)) r (upd σ d (.slice a' k c')) K) : RG P n w0 M ops S L (.op .l i r) σ K :=
  rL (α := Option Addr × Nat) (good := fun _ => True) (Lx := fun x => L.set j (Own e m x.1 k x.2 news)) (v := fun x => .slice x.1 k x.2) hS ho hg (fun w hs => by
    have hown : Own e m ao 0 C [] w := hs.at_ j hj
    obtain ⟨a', c', w', hr, ho', hup, hg'⟩ := run_append_listM (cq := lc) hM hown t hl (hC w hs) h1 hN
    rw [Nat.zero_add, List.nil_append] at ho'
    rw [Nat.zero_add] at hr
    unfold opw
    simp only [execOp, resolve, invoke, builtin, Sem.run_bind, Sem.run_pure, Result.andThen_ok, List.map_toArray, List.map_cons, List.map_nil, ha, hb, hr]
    refine ⟨(a', c'), trivial, hs.change j hj fun f hf => ⟨fun k => f k ∨ fpO a' k, fun k hk => ?_, ?_, hup.mono fun k _ hk => Own.mem hf k hk⟩, rfl⟩
    · rcases hk with hk | hk
      · exact .inl hk
      · rcases hg' k hk with hg' | hg'
        · exact .inl (Own.mem hf _ hg')
        · exact .inr hg'
    · exact Own.St ho' fun q hq => .inr hq) (fun q _ => h q.1 q.2)
end
section
variable {α : Type} {k : RK α} {e e1 e2 : Nat} {a a2 : Option Addr} {n c c2 q : Nat} {hs : Nat → Hd} {xs : List α} {x : α} {w : World}
theorem OwnR.cellsAt (h : OwnR k e e1 a n c hs xs w) : CellsAt a (rowsV k hs xs).flatten w := fun i v hi => by
  obtain ⟨b, hb, hc⟩ := h.2.1.cell hi
  exact ⟨b, 0, hb, by rw [Nat.zero_add]; exact hc⟩
theorem OwnR.flat_len (h : OwnR k e e1 a n c hs xs w) : (rowsV k hs xs).flatten.length = n * k.m := h.2.1.1
theorem slHiR {P : Program} {nn : Nat} {w0 : World} {M : Nat → Prop} {L : List (World → Prop)} {σ : Fr} {K : Ko} {ops : Array Oper} {S : World → Prop} {r : Sch} {i : Nat} {d : Nat} {t : TypeId} {p : String} {af : Array Edge} {g : Option (Nat × Bool)} {ao bo : Operand} {ty N C : Nat} {z : Int} {kk : IntKind} (j : Nat) (hj : L[j]? = some (OwnR k e e1 a N C hs xs)) (hE : Elt P ty k.m) (ho : ops[i]? = some ⟨some d, .slice ty ao none (some bo) none, t, p, af, g⟩) (hg : go ops σ g) (ha : ev σ ao = .slice a N C) (hb : ev σ bo = .int kk z) (h0 : 0 ≤ z) (h1 : z ≤ N) {zn : Nat} (hzn : z.toNat = zn)
    (h : RG P nn w0 M ops S L r (upd σ d (.slice a zn C)) K) : RG P nn w0 M ops S L (.op .q i r) σ K := fun w hw => by
  have hown : Own e k.m a N C (rowsV k hs xs).flatten w := (show OwnR k e e1 a N C hs xs w from hw.at_ j hj).2.1
  subst hzn
  obtain ⟨e', he, hs'⟩ := hE
  have hNC : N ≤ C := by
    rcases hown.2 with ⟨hv, h0'⟩ | ⟨g', cap, cur, hv, _, _, hnc, _⟩
    · omega
    · cases hv; exact hnc
  refine rQ (v := .slice a z.toNat C) ho hg (fun w' hw' => ?_) h w hw
  have hzc : z ≤ C := by omega
  have hadd : a.map (fun x => x.add 0) = a := by cases a <;> simp [Addr.add]
  simp [execOp, ha, hb, Instr.sliceAt, Instr.slice, Instr.sliceBounds, Instr.sliceBound, asIntOf, he w', hs' w', h0, h1, hzc, hadd]
/-- Rows, copied, and one of them once more: read. -/
theorem RdR.copy (hk : k.Ok) (hc : Own e2 k.m a2 (n + 1) c2 ((rowsV k hs xs).flatten ++ k.cells x (hs q)) w) (ho : OwnR k e e1 a n c hs xs w) (hx : xs[q]? = some x) : RdR k a2 (n + 1) (hset hs n (hs q)) (xs ++ [x]) w := by
  have hl := ho.1
  have hrows : rowsV k (hset hs n (hs q)) (xs ++ [x]) = rowsV k hs xs ++ [k.cells x (hs q)] := by rw [← hl]; exact rowsV_app _
  have hcc : Own e2 k.m a2 (n + 1) c2 (rowsV k (hset hs n (hs q)) (xs ++ [x])).flatten w := by
    rw [hrows, List.flatten_append]; simpa using hc
  refine ⟨by simp [hl], hc.max, fun i y hy => ⟨?_, ?_⟩⟩
  · have hpos := hk.pos
    have hlen := hk.len y (hset hs n (hs q) i)
    have key : ∀ j v, (k.cells y (hset hs n (hs q) i))[j]? = some v → ∃ b, a2 = some ⟨b, 0, none⟩ ∧ w.cell? ⟨b, i * k.m + j, none⟩ = some v := fun j v hj => hcc.cell (flat_get (rowsV_all hk) (rowsV_get hy) hj)
    obtain ⟨b, hb, _⟩ := key 0 ((k.cells y (hset hs n (hs q) i))[0]'(by omega)) (List.getElem?_eq_getElem (by omega))
    refine ⟨b, 0, hb, fun j v hj => ?_⟩
    obtain ⟨b', hb', hcell⟩ := key j v hj
    rw [hb] at hb'; cases hb'
    rw [Nat.zero_add]; exact hcell
  · rcases Nat.lt_or_ge i xs.length with hi | hi
    · rw [List.getElem?_append_left hi] at hy
      rw [hset_other hs (hs q) (show i ≠ n by omega)]
      exact (ho.2.2.1 i y hy).rd
    · have hix : i = n := by
        have := (List.getElem?_eq_some_iff.1 hy).1
        simp at this; omega
      subst hix
      rw [List.getElem?_append_right (by omega)] at hy
      simp [hl] at hy; subst hy
      rw [hset_same]
      exact (ho.2.2.1 q x hx).rd
theorem rowsV_one (hk : k.Ok) : ∀ u ∈ (rowsV k hs xs).flatten, u.oneCell' = true := fun u hu => by
  obtain ⟨cs, hcs, hu⟩ := List.mem_flatten.1 hu
  unfold rowsV at hcs
  obtain ⟨i, hi, rfl⟩ := List.mem_mapIdx.1 hcs
  exact hk.one _ _ _ hu
theorem Sep.copyRd {w0 : World} {M : Nat → Prop} {L : List (World → Prop)} (hk : k.Ok) (h : Sep w0 M (Own e2 k.m a2 (n + 1) c2 ((rowsV k hs xs).flatten ++ k.cells x (hs q)) :: OwnR k e e1 a n c hs xs :: L) w) (hx : xs[q]? = some x) : Sep w0 M (RdR k a2 (n + 1) (hset hs n (hs q)) (xs ++ [x]) :: L) w :=
  h.fuse fun f g hf hg _ => ⟨fun b => f b ∨ g b, fun b hb => hb.elim .inl (.inr ∘ .inl), fun w' ha => RdR.copy hk (hf w' fun b hb => ha b (.inl hb)) (hg w' fun b hb => ha b (.inr hb)) hx, .refl _ _⟩
theorem litX {e m bk : Nat} {w : World} (hb : blk bk e [] w) : Own e m (some ⟨bk, 0, none⟩) 0 0 [] w := ⟨by simp, .inr ⟨bk, 0, #[], rfl, Nat.zero_le _, hb, Nat.le_refl _, Nat.zero_le _, by simp, by simp⟩⟩
theorem RdR.take {hs : Nat → Hd} (h : RdR k a n hs xs w) {j : Nat} (hj : j ≤ n) : RdR k a j hs (xs.take j) w :=
  ⟨by rw [List.length_take, h.1]; omega, by have := h.2.1; omega, fun i y hy => h.2.2 i y (by
    have := (List.getElem?_eq_some_iff.1 hy).1
    rw [List.length_take] at this
    rwa [List.getElem?_take_of_lt (by omega)] at hy)⟩
/-- The end of rows, to be read. -/
theorem slLoR {P : Program} {nn : Nat} {w0 : World} {M : Nat → Prop} {L : List (World → Prop)} {σ : Fr} {K : Ko} {ops : Array Oper} {S : World → Prop} {r : Sch} {i : Nat} {d : Nat} {t : TypeId} {p : String} {af : Array Edge} {g : Option (Nat × Bool)} {ao bo : Operand} {ty N C : Nat} {z : Int} {kk : IntKind} (j : Nat) (hk : k.Ok) (hj : L[j]? = some (OwnR k e e1 a N C hs xs)) (hE : Elt P ty k.m) (ho : ops[i]? = some ⟨some d, .slice ty ao (some bo) none none, t, p, af, g⟩) (hg : go ops σ g) (ha : ev σ ao = .slice a N C) (hb : ev σ bo = .int kk z) (h0 : 0 ≤ z) (h1 : z ≤ N) {zn : Nat} (hzn : z.toNat = zn)
    (h : ∀ q', (∀ w, OwnR k e e1 a N C hs xs w → RdR k q' (N - zn) (fun i => hs (i + zn)) (xs.drop zn) w) → RG P nn w0 M ops S L r (upd σ d (.slice q' (N - zn) (C - zn))) K) : RG P nn w0 M ops S L (.op .q i r) σ K := by
  subst hzn
  obtain ⟨e', he, hs'⟩ := hE
  refine rQ (v := .slice (if C = z.toNat then a else a.map (·.add (z.toNat * k.m))) (N - z.toNat) (C - z.toNat)) ho hg (fun w hw => ?_) (h _ fun w hw => ?_)
  · simp [execOp, ha, hb, Instr.sliceAt, Instr.slice, Instr.sliceBounds, Instr.sliceBound, asIntOf, he w, hs' w, h0, h1]
  · have hown : Own e k.m a N C (rowsV k hs xs).flatten w := hw.2.1
    have hrd := OwnR.rd hw hk
    obtain ⟨hl, hm, hc⟩ := hrd
    refine ⟨by rw [List.length_drop, hl], by omega, fun q x hx => ?_⟩
    rw [List.getElem?_drop] at hx
    have hlt := (List.getElem?_eq_some_iff.1 hx).1
    have hNC : N ≤ C := by
      rcases hown.2 with ⟨hv, h0'⟩ | ⟨g', cap, cur, hv, _, _, hnc, _⟩
      · omega
      · cases hv; exact hnc
    obtain ⟨⟨b, off, hq, hcell⟩, hkid⟩ := hc _ x hx
    rw [Nat.add_comm] at hkid hcell
    refine ⟨⟨b, off + z.toNat * k.m, ?_, fun j v hv => ?_⟩, hkid⟩
    · rw [if_neg (by omega), hq]; simp [add_addr]
    · have := hcell j v hv
      rw [Nat.add_mul] at this
      rwa [show off + z.toNat * k.m + q * k.m + j = off + (q * k.m + z.toNat * k.m) + j from by omega]
end
end Go.Proofs.YtjengglpbdgmnaaDoor.V
/- Sources of draws: what a function that draws is handed. No condition. -/
namespace Go.Proofs.YtjengglpbdgmnaaDoor
open Go Go.RowKit V
set_option linter.unusedVariables false
set_option linter.unusedSimpArgs false
def okBytes (bs : List Int) : Prop := (∀ x ∈ bs, 0 ≤ x ∧ x ≤ 255) ∧ bs.length ≤ 1000000000000000
/-- A source at block 'bk' over the bytes 'bs'. -/
def srcP (bk : Nat) (ca : Option Addr) (bs : List Int) (cc : Nat) : World → Prop := fun w =>
  ∃ p s : Int, blk bk 90 [.slice ca bs.length cc, .int .i64 p, .int .i64 s] w ∧ 0 ≤ p ∧ p ≤ bs.length ∧ 0 ≤ s ∧ s ≤ 2147483646
/-- The bytes, whatever becomes of block 'bk'. -/
def Code_ (bk : Nat) (ca : Option Addr) (bs : List Int) (w : World) : Prop := ∀ w', Upd (fun k => k = bk) w w' → CellsAt ca (bs.map (Value.int .u8)) w'
def SrcIn (bk : Nat) (ca : Option Addr) (bs : List Int) (cc : Nat) (w : World) : Prop := srcP bk ca bs cc w ∧ Code_ bk ca bs w ∧ okBytes bs
theorem srcP_mem {bk : Nat} {ca : Option Addr} {bs : List Int} {cc : Nat} : ∀ (f : Nat → Prop) (w : World), St f (srcP bk ca bs cc) w → f bk := by
  intro f w h
  refine Classical.byContradiction fun hn => ?_
  obtain ⟨p, s, h1, _⟩ := h.out
  have hlt : bk < w.heap.size := (Array.getElem?_eq_some_iff.1 h1).1
  obtain ⟨p', s', h2, _⟩ := h { w with heap := w.heap.setIfInBounds bk (.map #[] 0) } fun k hk => by
    have : bk ≠ k := fun e => hn (e ▸ hk)
    show (w.heap.setIfInBounds bk (.map #[] 0))[k]? = _
    rw [Array.getElem?_setIfInBounds_ne this]
  unfold blk at h2
  simp [hlt] at h2
theorem srcP_st {bk : Nat} {ca : Option Addr} {bs : List Int} {cc : Nat} : ∀ (f : Nat → Prop) (w : World), srcP bk ca bs cc w → f bk → St f (srcP bk ca bs cc) w := by
  rintro f w ⟨p, s, h1, h2⟩ hf w' ha
  exact ⟨p, s, (blk.St _ _ _ h1 hf) w' ha, h2⟩
theorem Code_.upd {bk : Nat} {ca : Option Addr} {bs : List Int} {w w' : World} (h : Code_ bk ca bs w) (hu : Upd (fun k => k = bk) w w') : Code_ bk ca bs w' := fun w'' hu' => h w'' (hu.trans hu')
theorem Sep.startS {w0 : World} {bk : Nat} {ca : Option Addr} {bs : List Int} {cc : Nat} (h : srcP bk ca bs cc w0) : V.Sep w0 (fun k => k = bk) [srcP bk ca bs cc] w0 :=
  ⟨.refl _ _, [fun k => k = bk], fun k hk => ⟨.inr hk, by subst hk; obtain ⟨_, _, h, _⟩ := h; exact (Array.getElem?_eq_some_iff.1 h).1⟩, by simp, srcP_st _ _ h rfl, trivial⟩
/-- Two pieces lie apart. -/
theorem SepL_ne {M : Nat → Prop} {B T : Nat} {w : World} : ∀ {fs : List (Nat → Prop)} {L : List (World → Prop)}, SepL M B T fs L w → ∀ {i j : Nat} {φ ψ : World → Prop}, L[i]? = some φ → L[j]? = some ψ → i ≠ j →
    ∃ f f', St f φ w ∧ St f' ψ w ∧ ∀ k, f k → ¬ f' k := by
  intro fs
  induction fs with
  | nil => intro L h i j φ ψ hi; cases L with | nil => simp at hi | cons _ _ => exact h.elim
  | cons f fs ih =>
    intro L h i j φ ψ hi hj hne
    cases L with
    | nil => exact h.elim
    | cons χ L =>
      obtain ⟨h1, h2, h3, h4⟩ := h
      cases i with
      | zero =>
        cases j with
        | zero => exact absurd rfl hne
        | succ j =>
          simp at hi; subst hi
          obtain ⟨f', hf', hst⟩ := h4.at_ (by simpa using hj)
          exact ⟨f, f', h3, hst, fun k hk hk' => h2 f' (List.mem_of_getElem? hf') k hk hk'⟩
      | succ i =>
        cases j with
        | zero =>
          simp at hj; subst hj
          obtain ⟨f', hf', hst⟩ := h4.at_ (by simpa using hi)
          exact ⟨f', f, hst, h3, fun k hk hk' => h2 f' (List.mem_of_getElem? hf') k hk' hk⟩
        | succ j => exact ih h4 (by simpa using hi) (by simpa using hj) (by omega)
/-- The list of a draw's choices, whatever becomes of the source. -/
def Lst (bk : Nat) (a : Option Addr) (xs : List Int) (w : World) : Prop := ∀ w', Upd (fun k => k = bk) w w' → CellsAt a (xs.map (Value.int .i64)) w'
theorem Lst.of {w0 : World} {M : Nat → Prop} {L : List (World → Prop)} {w : World} (hs : Sep w0 M L w) (i j : Nat) {lb e bk : Nat} {ca : Option Addr} {bs : List Int} {cc : Nat} {xs : List Int} {vs : List Value}
    (hi : L[i]? = some (blk lb e vs)) (hj : L[j]? = some (srcP bk ca bs cc)) (hne : i ≠ j) (hv : vs = xs.map (Value.int .i64)) : Lst bk (some ⟨lb, 0, none⟩) xs w := by
  subst hv
  intro w' hu
  obtain ⟨_, fs, h⟩ := hs
  obtain ⟨f, f', h1, h2, h3⟩ := SepL_ne h hi hj hne
  have hl := blk.mem h1
  have hb := srcP_mem f' w h2
  have hlt : lb < w.heap.size := (Array.getElem?_eq_some_iff.1 h1.out).1
  refine CellsAt.blk (e := e) ?_
  have hne' : ¬ lb = bk := fun h => h3 lb hl (h ▸ hb)
  unfold blk
  rw [hu.block lb hlt hne']
  exact h1.out
def toI : Value → Int
  | .int _ z => z
  | _ => 0
theorem Lst.of' {w0 : World} {M : Nat → Prop} {L : List (World → Prop)} {w : World} (hs : Sep w0 M L w) (i j : Nat) {lb e bk : Nat} {ca : Option Addr} {bs : List Int} {cc : Nat} {vs : List Value}
    (hi : L[i]? = some (blk lb e vs)) (hj : L[j]? = some (srcP bk ca bs cc)) (hne : i ≠ j) (hv : vs = (vs.map toI).map (Value.int .i64)) : Lst bk (some ⟨lb, 0, none⟩) (vs.map toI) w := Lst.of hs i j hi hj hne hv
theorem map_get {f : Int → Value} {l : List Int} {k : Nat} (h : k < l.length) : (l.map f)[k]? = some (f (l.getD k 0)) := by
  simp [List.getD, List.getElem?_eq_getElem h]
theorem okBytes.at_ {bs : List Int} (h : okBytes bs) (k : Nat) : 0 ≤ bs.getD k 0 ∧ bs.getD k 0 ≤ 255 := by
  by_cases hk : k < bs.length
  · have := h.1 _ (List.getElem_mem hk)
    simp [List.getD, List.getElem?_eq_getElem hk]; exact this
  · simp [List.getD, List.getElem?_eq_none (Nat.le_of_not_lt hk)]
theorem emod_bd (a : Int) {n : Int} (h : 1 < n) : 0 ≤ a % n ∧ (a % n < n ∨ a % n = 0) := ⟨Int.emod_nonneg _ (by omega), .inl (Int.emod_lt_of_pos _ (by omega))⟩
theorem getD_mem {l : List Int} {k : Nat} (h : k < l.length) : l.getD k 0 ∈ l := by
  simp [List.getD, List.getElem?_eq_getElem h]
end Go.Proofs.YtjengglpbdgmnaaDoor
