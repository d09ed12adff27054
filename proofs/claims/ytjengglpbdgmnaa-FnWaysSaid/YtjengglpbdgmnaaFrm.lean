/- The frame of a law's proof, part 2: slices, rows, trees and other structs that came in are known as the walks ask it. No condition. -/
import Derived.Test.YtjengglpbdgmnaaEngA
import Derived.Test.YtjengglpbdgmnaaFrame
import Derived.Deep.Slices
namespace Go.Proofs.Ytjengglpbdgmnaa
open Go Go.RowKit V Go.ChangeShapes Go.WideShapes Go.ChangeAt Go.Deep
set_option linter.unusedVariables false
set_option linter.unusedSimpArgs false

section
variable {H : Type} {enc : TypeId × Value → H} {P : Program} {W : World} {fuel : Nat}
abbrev trd (enc : TypeId × Value → H) (P : Program) (W : World) (fuel : Nat) (t : TypeId) (cs : List Value) : Option (DataW H × List MemPlace) := DataW.trod enc P W 0 (fun _ => true) true fuel t cs
theorem cell_spot {w : World} {a : Addr} {v : Value} (h : w.cell? a = some v) : a.spot = none := World.cell?_spot h
theorem in_int {t : TypeId} {k : IntKind} (ht : P.underlying t = some (.int k)) {cs : List Value} {x : DataW H × List MemPlace} (h : trd enc P W fuel t cs = some x) : ∃ n, cs = [.int k n] := by
  obtain ⟨n, rfl, _⟩ := DataW.trod_int ht h; exact ⟨n, rfl⟩
/-- A slice of numbers. -/
theorem in_ints {t e : TypeId} (ht : P.underlying t = some (.slice e)) (he : P.underlying e = some (.int .i64)) (hc : P.cellsOf e = 1) {cs : List Value} {x : DataW H × List MemPlace} (h : trd enc P W fuel t cs = some x) :
    ∃ a n c zs, cs = [.slice a n c] ∧ RdI a n zs W := by
  rcases open_ints ht he hc h with ⟨rfl, _⟩ | ⟨a, len, cap, zs, rfl, _, hl, hm, hz, _, hcell, _⟩
  · exact ⟨none, 0, 0, [], rfl, RdI.nil _ _⟩
  · simp only [if_true] at hz
    refine ⟨some a, len, cap, zs.take len, rfl, by simp; omega, by simp only [maxLen] at hm; omega, fun i v hi => ?_⟩
    have hlt := (List.getElem?_eq_some_iff.1 hi).1
    rw [iv_len, List.length_take] at hlt
    have hcj := hcell i (by omega)
    obtain ⟨ab, ao, spot⟩ := a
    have hspot : spot = none := by simpa [Addr.add] using cell_spot (hcell 0 (by omega))
    subst hspot
    rw [iv_get (by rw [List.length_take]; omega)] at hi
    cases hi
    refine ⟨ab, ao, rfl, ?_⟩
    rw [Addr.add_lit] at hcj
    rw [hcj]
    simp only [List.getD, List.getElem?_take_of_lt (show i < len by omega)]
theorem mapM_all {α β : Type} {g : α → Option β} : ∀ {l : List α} {ys : List β}, l.mapM g = some ys → ∀ a ∈ l, ∃ y, g a = some y
  | [], _, _, a, ha => by cases ha
  | b :: l, ys, h, a, ha => by
    rw [List.mapM_cons] at h
    simp only [Option.bind_eq_bind, Option.bind_eq_some_iff] at h
    obtain ⟨y, hy, ys', hys, _⟩ := h
    rcases List.mem_cons.1 ha with rfl | ha
    · exact ⟨y, hy⟩
    · exact mapM_all hys a ha
/-- A struct: each field. -/
theorem in_struct {e : TypeId} {fs : Array Field} (he : P.underlying e = some (.struct fs)) {cs : List Value} {x : DataW H × List MemPlace} (h : trd enc P W fuel e cs = some x) :
    cs.length = P.cellsOf e ∧ ∃ fu, ∀ f ∈ fs.toList, ∃ y, trd enc P W fu f.type ((cs.drop f.offset).take (P.cellsOf f.type)) = some y := by
  cases fuel with
  | zero => simp [trd, DataW.trod] at h
  | succ fuel =>
    simp only [trd, DataW.trod, he] at h
    split at h
    · rename_i hl
      rw [Option.map_eq_some_iff] at h
      obtain ⟨ys, hys, _⟩ := h
      exact ⟨hl, fuel, fun f hf => mapM_all hys f hf⟩
    · cases h
theorem in_fields {e : TypeId} {fs : Array Field} {l : List (TypeId × Nat)} (he : P.underlying e = some (.struct fs)) (hl : fs.toList.map (fun f => (f.type, f.offset)) = l) {cs : List Value} {x : DataW H × List MemPlace} (h : trd enc P W fuel e cs = some x) :
    cs.length = P.cellsOf e ∧ ∃ fu, ∀ p ∈ l, ∃ y, trd enc P W fu p.1 ((cs.drop p.2).take (P.cellsOf p.1)) = some y := by
  obtain ⟨h1, fu, h2⟩ := in_struct he h
  refine ⟨h1, fu, fun p hp => ?_⟩
  subst hl
  obtain ⟨f, hf, rfl⟩ := List.mem_map.1 hp
  exact h2 f hf
theorem in_bool {t : TypeId} (ht : P.underlying t = some .bool) {cs : List Value} {x : DataW H × List MemPlace} (h : trd enc P W fuel t cs = some x) : ∃ b, cs = [.bool b] := by
  cases fuel with
  | zero => simp [trd, DataW.trod] at h
  | succ fuel =>
    unfold trd DataW.trod at h
    rw [ht] at h
    split at h <;> first | exact ⟨_, rfl⟩ | (rename_i heq; cases heq) | (rename_i heq _; cases heq) | cases h
/-- Rows: each element. -/
theorem in_rows {α : Type} [Inhabited α] {k : RK α} {t e : TypeId} (hk : k.m = P.cellsOf e) (ht : P.underlying t = some (.slice e)) {cs : List Value} {x : DataW H × List MemPlace} (h : trd enc P W fuel t cs = some x)
    (elem : ∀ {fu : Nat} {cs : List Value} {y : DataW H × List MemPlace}, trd enc P W fu e cs = some y → ∃ x hd, cs = k.cells x hd ∧ RdI hd.1 (k.kid x).length (k.kid x) W) (hpos : 0 < k.m) (hlen : ∀ x hd, (k.cells x hd).length = k.m) :
    ∃ a n c hs xs, cs = [.slice a n c] ∧ RdR k a n hs xs W := by
  rcases open_slice ht h with ⟨rfl, _⟩ | ⟨a, len, cap, m, n, Dd, Pl, rfl, _, hl, hm, hmm, _, hx⟩
  · exact ⟨none, 0, 0, fun _ => (none, 0), [], rfl, RdR.nil _ _ _ _⟩
  · simp only [if_true] at hmm
    subst hmm
    have each : ∀ i, i < m → ∃ y : α × Hd, W.cells? 0 (a.add (i * P.cellsOf e)) (P.cellsOf e) = some (k.cells y.1 y.2) ∧ RdI y.2.1 (k.kid y.1).length (k.kid y.1) W := fun i hi => by
      obtain ⟨cs', h1, h2⟩ := hx i hi
      obtain ⟨y, hd, rfl, hr⟩ := elem h2
      exact ⟨(y, hd), h1, hr⟩
    haveI : Inhabited (α × Hd) := ⟨(default, (none, 0))⟩
    obtain ⟨f, hf⟩ := choose_lt each
    refine ⟨some a, len, m, fun i => (f i).2, (List.range len).map fun i => (f i).1, rfl, by simp, by simp only [maxLen] at hm; omega, fun i y hy => ?_⟩
    have hi : i < len := by have := (List.getElem?_eq_some_iff.1 hy).1; simpa using this
    simp [hi] at hy
    subst hy
    obtain ⟨h1, h2⟩ := hf i (by omega)
    refine ⟨?_, h2⟩
    obtain ⟨_, hlen', hcells⟩ := World.cells?_some h1
    have hc0 : 0 < P.cellsOf e := by omega
    obtain ⟨ab, ao, spot⟩ := a
    have hspot : spot = none := by
      obtain ⟨h10, _⟩ := hf 0 (by omega)
      obtain ⟨_, _, hc00⟩ := World.cells?_some h10
      have := hc00 0 hc0
      rw [List.getElem?_eq_getElem (by rw [hlen]; omega)] at this
      have := cell_spot this
      simpa [Addr.add] using this
    subst hspot
    refine ⟨ab, ao, rfl, fun j v hj => ?_⟩
    have := hcells j (by have := (List.getElem?_eq_some_iff.1 hj).1; rw [hlen] at this; omega)
    rw [add_addr, add_addr, hj] at this
    rw [hk]
    exact this
theorem in_row {q t : TypeId} (ht : P.underlying t = some (.slice q)) (hq : P.underlying q = some (.int .i64)) (hc : P.cellsOf q = 1) {fu : Nat} {cs : List Value} {y : DataW H × List MemPlace} (h : trd enc P W fu t cs = some y) :
    ∃ x hd, cs = maK.cells x hd ∧ RdI hd.1 (maK.kid x).length (maK.kid x) W := by
  obtain ⟨a, n, c, zs, rfl, hr⟩ := in_ints ht hq hc h
  obtain rfl := hr.1
  exact ⟨zs, (a, c), rfl, hr⟩
theorem in_node {e q t : TypeId} {fs : Array Field} (he : P.underlying e = some (.struct fs)) (hf : fs.toList.map (fun f => (f.type, f.offset)) = [(q, 0), (q, 1), (q, 2), (q, 3), (t, 4)]) (hq : P.underlying q = some (.int .i64)) (cq : P.cellsOf q = 1) (ht : P.underlying t = some (.slice q)) (ct : P.cellsOf t = 1) (ce : P.cellsOf e = 5)
    {fu : Nat} {cs : List Value} {y : DataW H × List MemPlace} (h : trd enc P W fu e cs = some y) : ∃ x hd, cs = ndK.cells x hd ∧ RdI hd.1 (ndK.kid x).length (ndK.kid x) W := by
  obtain ⟨hl, fu, hfs⟩ := in_struct he h
  rw [ce] at hl
  generalize fs.toList = l at hf hfs
  obtain ⟨f0, f1, f2, f3, f4, rfl⟩ : ∃ f0 f1 f2 f3 f4, l = [f0, f1, f2, f3, f4] := by
    match l, congrArg List.length hf with
    | [f0, f1, f2, f3, f4], _ => exact ⟨f0, f1, f2, f3, f4, rfl⟩
  simp only [List.map_cons, List.map_nil, List.cons.injEq, Prod.mk.injEq, and_true] at hf
  obtain ⟨⟨t0, o0⟩, ⟨t1, o1⟩, ⟨t2, o2⟩, ⟨t3, o3⟩, t4, o4⟩ := hf
  match cs, hl with
  | [a, b, c, d, f], _ =>
    obtain ⟨_, h0⟩ := hfs f0 (by simp)
    obtain ⟨_, h1⟩ := hfs f1 (by simp)
    obtain ⟨_, h2⟩ := hfs f2 (by simp)
    obtain ⟨_, h3⟩ := hfs f3 (by simp)
    obtain ⟨_, h4⟩ := hfs f4 (by simp)
    rw [t0, o0, cq] at h0
    rw [t1, o1, cq] at h1
    rw [t2, o2, cq] at h2
    rw [t3, o3, cq] at h3
    rw [t4, o4, ct] at h4
    obtain ⟨n0, e0⟩ := in_int hq h0
    obtain ⟨n1, e1⟩ := in_int hq h1
    obtain ⟨n2, e2⟩ := in_int hq h2
    obtain ⟨n3, e3⟩ := in_int hq h3
    obtain ⟨aa, n, cc, zs, e4, hr⟩ := in_ints ht hq cq h4
    simp at e0 e1 e2 e3 e4
    obtain rfl := hr.1
    refine ⟨⟨n0, n1, n2, n3, zs⟩, (aa, cc), ?_, hr⟩
    simp [ndK, ndC, e0, e1, e2, e3, e4]
instance : Inhabited Nd := ⟨dN⟩
end
end Go.Proofs.Ytjengglpbdgmnaa
