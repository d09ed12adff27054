/- The engine, part 5: slices that are read, literals of slices, conversions, sources of draws. No condition. -/
import Derived.Test.YteaahdakammffaaZ0Ut
import Derived.Laws.OwnMore
import Derived.ArgAppend
import Derived.Lib.SliceRun
import Derived.Test.YteaahdakammffaaRows
import Derived.ProofKit
import Derived.OpenShut
import Derived.Lib.SmallJoins
import Derived.Deep.Slices
namespace Go.Proofs.Yteaahdakammffaa.V
open Go Go.RowKit
set_option linter.unusedVariables false
set_option linter.unusedSimpArgs false
theorem set_self {α : Type} {l : List α} {j : Nat} {x : α} (h : l[j]? = some x) : l.set j x = l := by
  induction l generalizing j with
  | nil => rfl
  | cons a l ih =>
    cases j with
    | zero => simp at h; simp [h]
    | succ j => simp at h; simp [ih h]
/-- A slice of one-cell elements, read. -/
def CellsAt (a : Option Addr) (vs : List Value) (w : World) : Prop := ∀ i v, vs[i]? = some v → ∃ b off, a = some ⟨b, off, none⟩ ∧ w.cell? ⟨b, off + i, none⟩ = some v
/-- A slice of elements of 'm' cells, read. -/
def RowsAt (a : Option Addr) (m : Nat) (css : List (List Value)) (w : World) : Prop := ∀ i cs, css[i]? = some cs → ∃ b off, a = some ⟨b, off, none⟩ ∧ ∀ j v, cs[j]? = some v → w.cell? ⟨b, off + i * m + j, none⟩ = some v
theorem CellsAt.ext {a : Option Addr} {vs : List Value} {w w' : World} (h : CellsAt a vs w) (he : Ext w w') : CellsAt a vs w' := fun i v hi => by
  obtain ⟨b, off, ha, hc⟩ := h i v hi
  exact ⟨b, off, ha, he.cell hc⟩
theorem RowsAt.ext {a : Option Addr} {m : Nat} {css : List (List Value)} {w w' : World} (h : RowsAt a m css w) (he : Ext w w') : RowsAt a m css w' := fun i v hi => by
  obtain ⟨b, off, ha, hc⟩ := h i v hi
  exact ⟨b, off, ha, fun j v hj => he.cell (hc j v hj)⟩
theorem CellsAt.nil (a : Option Addr) (w : World) : CellsAt a [] w := fun i v h => by simp at h
theorem CellsAt.blk {b e : Nat} {vs : List Value} {w : World} (h : V.blk b e vs w) : CellsAt (some ⟨b, 0, none⟩) vs w := fun i v hi => ⟨b, 0, rfl, by rw [Nat.zero_add]; exact h.cell hi⟩
section
variable {P : Program} {n : Cx} {w0 : World} {M : Nat → Prop} {L L' : List (World → Prop)} {σ : Fr} {K K' : Ko} {c x y : Code} {ops : Array Oper} {S : World → Prop} {r : Sch} {i : Nat}
variable {d : Nat} {t : TypeId} {p : String} {af : Array Edge} {g : Option (Nat × Bool)} {a b : Operand}
theorem rQw {v : World → Value} {o : Oper} (ho : ops[i]? = some o) (hg : go ops σ o.guard) (good : Value → Prop) (hv : ∀ w, Sep w0 M L w → ∃ v, good v ∧ ∀ w', S w' → (execOp (ev σ) o).run P w' = .ok (.value v) w') (h : ∀ v, good v → RG P n w0 M ops S L r (put σ o.dst v) K) :
    RG P n w0 M ops S L (.op .q i r) σ K := fun w hs => by
  obtain ⟨v, hgv, hv⟩ := hv w hs
  exact ⟨o, v, ho, .inl ⟨hg.wanted, hv⟩, h v hgv w hs⟩
/-- An element's address, in a region whose order is open. -/
theorem ixq {ty len cap : Nat} {k : IntKind} {z : Int} {q : Option Addr} {vs : List Value} {v : Value} (hE : Elt P ty 1) (hC : ∀ w, S w → CellsAt q vs w) (hS : ∀ w, Sep w0 M L w → S w) (ho : ops[i]? = some ⟨some d, .indexAddr ty a b, t, p, af, g⟩) (hg : go ops σ g) (ha : ev σ a = .slice q len cap) (hb : ev σ b = .int k z) (h0 : 0 ≤ z) (h1 : z < len) (hi : vs[z.toNat]? = some v)
    (h : ∀ ad, (∀ w, S w → w.cell? ad = some v) → RG P n w0 M ops S L r (upd σ d (.pointer (some ad))) K) : RG P n w0 M ops S L (.op .q i r) σ K := by
  refine rQw (v := fun _ => undef) ho hg (fun u => ∃ ad, u = .pointer (some ad) ∧ ∀ w, S w → w.cell? ad = some v) (fun w hs => ?_) ?_
  · obtain ⟨bk, off, hq, hc⟩ := hC w (hS w hs) _ v hi
    refine ⟨_, ⟨⟨bk, off + z.toNat, none⟩, rfl, fun w' hS' => ?_⟩, fun w' hS' => ?_⟩
    · obtain ⟨bk', off', hq', hc'⟩ := hC w' hS' _ v hi
      rw [hq] at hq'; cases hq'; exact hc'
    · subst hq
      have := run_indexAt (k := k) (bk := bk) (off := off) (cap := cap) hE h0 h1 w'
      rw [Nat.mul_one] at this
      simp [execOp, ha, hb, this]
  · rintro v ⟨ad, rfl, hc⟩; exact h ad hc
/-- An element's address. -/
theorem ixl {ty len cap : Nat} {k : IntKind} {z : Int} {q : Option Addr} {vs : List Value} {v : Value} (hE : Elt P ty 1) (hC : Kn w0 M L (CellsAt q vs)) (ho : ops[i]? = some ⟨some d, .indexAddr ty a b, t, p, af, g⟩) (hg : go ops σ g) (ha : ev σ a = .slice q len cap) (hb : ev σ b = .int k z) (h0 : 0 ≤ z) (h1 : z < len) (hi : vs[z.toNat]? = some v)
    (h : ∀ ad, (Kn w0 M L fun w => w.cell? ad = some v) → RG P n w0 M ops S L r (upd σ d (.pointer (some ad))) K) : RG P n w0 M ops S L (.op .q i r) σ K := by
  refine rQw (v := fun _ => undef) ho hg (fun u => ∃ ad, u = .pointer (some ad) ∧ Kn w0 M L fun w => w.cell? ad = some v) (fun w hs => ?_) ?_
  · obtain ⟨bk, off, hq, hc⟩ := hC w hs _ v hi
    refine ⟨_, ⟨⟨bk, off + z.toNat, none⟩, rfl, fun w' hS' => ?_⟩, fun w' hS' => ?_⟩
    · obtain ⟨bk', off', hq', hc'⟩ := hC w' hS' _ v hi
      rw [hq] at hq'; cases hq'; exact hc'
    · subst hq
      have := run_indexAt (k := k) (bk := bk) (off := off) (cap := cap) hE h0 h1 w'
      rw [Nat.mul_one] at this
      simp [execOp, ha, hb, this]
  · rintro v ⟨ad, rfl, hc⟩; exact h ad hc
theorem Kn.fld {cs : List Value} {bk off : Nat} (h : Kn w0 M L fun w => ∀ j v, cs[j]? = some v → w.cell? ⟨bk, off + j, none⟩ = some v) (j : Nat) {v : Value} (hj : cs[j]? = some v) : Kn w0 M L fun w => w.cell? ⟨bk, off + j, none⟩ = some v := fun w hs => h w hs j v hj
/-! ### Conversions between integers; literals of slices -/
theorem cnv {src dst : TypeId} {sd : TypeDesc} {k k' : IntKind} {z : Int} (hs : ∀ w, (underlying src).run P w = .ok sd w) (hd : ∀ w, (underlying dst).run P w = .ok (.int k') w) (ho : ops[i]? = some ⟨some d, .convert src dst a, t, p, af, g⟩) (hg : go ops σ g) (ha : ev σ a = .int k z) (h : RG P n w0 M ops S L r (upd σ d (.int k' (k'.wrap z))) K) : RG P n w0 M ops S L (.op .q i r) σ K :=
  rQ ho hg (fun w _ => by simp [execOp, ha, convert, hs w, hd w, Conv.intToInt]) h
theorem cnvI {src dst : TypeId} {sd : TypeDesc} {k : IntKind} {z : Int} (hs : ∀ w, (underlying src).run P w = .ok sd w) (hd : ∀ w, (underlying dst).run P w = .ok (.int .i64) w) (ho : ops[i]? = some ⟨some d, .convert src dst a, t, p, af, g⟩) (hg : go ops σ g) (ha : ev σ a = .int k z) (hr : -9223372036854775808 ≤ z ∧ z ≤ 9223372036854775807) (h : RG P n w0 M ops S L r (upd σ d (.int .i64 z)) K) : RG P n w0 M ops S L (.op .q i r) σ K :=
  cnv hs hd ho hg ha (by rw [wrapI hr]; exact h)
/-- A literal of a slice. -/
theorem bsl {ty e len : Nat} {ps : Array (Nat × Operand)} {l : List (Nat × Value)} {vs : List Value} (hS : ∀ bk w, Sep w0 M (blk bk e vs :: L) w → S w) (ho : ops[i]? = some ⟨some d, .buildSlice ty len ps, t, p, af, g⟩) (hg : go ops σ g) (hp : ps.toList.map (fun q => (q.1, ev σ q.2)) = l) (hb : ∀ w, (Instr.buildSlice ty len l.toArray).run P w = .ok (.slice (some ⟨w.heap.size, 0, none⟩) len len) (w.alloc (.cells vs.toArray e)))
    (h : ∀ bk, w0.heap.size ≤ bk → RG P n w0 M ops S (blk bk e vs :: L) r (upd σ d (.slice (some ⟨bk, 0, none⟩) len len)) K) : RG P n w0 M ops S L (.op .l i r) σ K :=
  rL (good := fun bk => w0.heap.size ≤ bk) (Lx := fun bk => blk bk e vs :: L) (v := fun bk => .slice (some ⟨bk, 0, none⟩) len len) hS ho hg (fun w hs => by
    have he : (ps.map fun (j, x) => (j, ev σ x)) = l.toArray := by rw [← hp, ← Array.toList_map, Array.toArray_toList]
    unfold opw
    simp only [execOp, he, Sem.run_bind, hb w, Result.andThen_ok, Sem.run_pure]
    exact ⟨_, hs.base_le, hs.alloc e vs, rfl⟩) h
/-- A call that keeps piece 'j' as it is said, whatever it writes there. -/
theorem callK {α : Type} {f : FuncId} {args : Array Operand} {tys : Array TypeId} {val : α → Value} {good : α → Prop} {φ : World → Prop} {bk : Nat} (j : Nat) (hj : L[j]? = some φ) (hφ : ∀ f w, St f φ w → f bk) (hφ' : ∀ f w, φ w → f bk → St f φ w) (hf : ∀ args w, (callFunc f args).run P w = .ok (.enter f args) w) (hS : ∀ w, Sep w0 M L w → S w) (ho : ops[i]? = some ⟨some d, .call ⟨.value (.func f), args, tys⟩, t, p, af, g⟩) (hg : go ops σ g)
    (hc : ∀ w, Sep w0 M L w → Calls P f (args.toList.map (ev σ)).toArray w (Ret fun v' w' => ∃ x, v' = val x ∧ good x ∧ Upd (fun k => k = bk) w w' ∧ φ w')) (h : ∀ x, good x → RG P n w0 M ops S L r (upd σ d (val x)) K) : RG P n w0 M ops S L (.op .l i r) σ K :=
  rL (Lx := fun _ => L) (v := val) (fun _ => hS) ho hg (fun w hs => call_opw hf (hc w hs) fun v' w' ⟨x, he, hx, hu, hb⟩ => by
    subst he
    have := hs.change (φ' := φ) j hj fun f hf => ⟨f, fun _ h => .inl h, hφ' f w' hb (hφ f w hf), hu.mono fun k _ hk => by subst hk; exact hφ f w hf⟩
    rw [set_self hj] at this
    exact ⟨x, hx, this, rfl⟩) h
end
end Go.Proofs.Yteaahdakammffaa.V
/- Rules for equality of Bools and of structs of two integers. No condition. -/
namespace Go.Proofs.Yteaahdakammffaa.V
open Go Go.RowKit
set_option linter.unusedVariables false
set_option linter.unusedSimpArgs false
section
variable {P : Program} {n : Cx} {w0 : World} {M : Nat → Prop} {ops : Array Oper} {S : World → Prop} {L : List (World → Prop)} {i : Nat} {r : Sch} {σ : Fr} {K : Ko}
variable {d : Nat} {t : TypeId} {p : String} {af : Array Edge} {g : Option (Nat × Bool)} {a b : Operand} {ty yt : TypeId}
theorem eqlB {u z : Bool} (hu : P.underlying ty = some .bool) (ho : ops[i]? = some ⟨some d, .binOp .eql ty a b yt, t, p, af, g⟩) (hg : go ops σ g) (ha : ev σ a = .bool u) (hb : ev σ b = .bool z) (h : RG P n w0 M ops S L r (upd σ d (.bool (decide (u = z)))) K) : RG P n w0 M ops S L (.op .q i r) σ K :=
 rQ ho hg (fun w _ => by
  have hq := run_equalIn_bool' (P := P) w 9999 ty u z hu
  simp [execOp, ha, hb, eqGuard, binOp, Op.equal, show Op.maxDepth = 9999 + 1 from rfl, hq]; try (cases u <;> cases z <;> rfl)) h
/-- Structs of two integers are compared as they should. -/
def Eq2 (P : Program) (ty : TypeId) : Prop := P.eqGuardType P.depth ty = false ∧ ∀ (w : World) (x1 x2 y1 y2 : Int), (Op.equalIn 10000 ty (.agg #[.int .i64 x1, .int .i64 x2]) (.agg #[.int .i64 y1, .int .i64 y2])).run P w = .ok (decide (x1 = y1 ∧ x2 = y2)) w
end
end Go.Proofs.Yteaahdakammffaa.V
/- The engine, part 7: slices that the call owns: made, read, stored into, appended to. No condition. -/
namespace Go.Proofs.Yteaahdakammffaa.V
open Go Go.RowKit
set_option linter.unusedVariables false
set_option linter.unusedSimpArgs false
/-- A slice that is owned: 'n' elements of 'm' cells, 'xs' all their cells. -/
def Own (e m : Nat) (a : Option Addr) (n c : Nat) (xs : List Value) : World → Prop := fun w => w.ownsRow 0 e m (.slice a n c) n xs
/-- The blocks of an owned slice. -/
def fpO (a : Option Addr) : Nat → Prop := fun b => a = some ⟨b, 0, none⟩
section
variable {e m n c : Nat} {a : Option Addr} {xs : List Value} {w : World} {f : Nat → Prop}
theorem Own.St (h : Own e m a n c xs w) (hf : ∀ b, fpO a b → f b) : V.St f (Own e m a n c xs) w := by
  intro w' ha
  obtain ⟨h1, h2⟩ := h
  refine ⟨h1, ?_⟩
  rcases h2 with h2 | ⟨g, cap, cur, hv, hb, hg, r⟩
  · exact .inl h2
  · have hag : a = some ⟨g, 0, none⟩ := by cases hv; rfl
    exact .inr ⟨g, cap, cur, hv, hb, by rw [ha g (hf g hag)]; exact hg, r⟩
theorem Own.mem (h : V.St f (Own e m a n c xs) w) : ∀ b, fpO a b → f b := by
  intro b hb
  unfold fpO at hb
  subst hb
  refine Classical.byContradiction fun hn => ?_
  obtain ⟨_, h1⟩ := h.out
  rcases h1 with ⟨h1, _⟩ | ⟨g, cap, cur, hv, _, hg, _⟩
  · cases h1
  · cases hv
    have hlt : b < w.heap.size := (Array.getElem?_eq_some_iff.1 hg).1
    obtain ⟨_, h2⟩ := h { w with heap := w.heap.setIfInBounds b (.map #[] 0) } fun k hk => by
      have : b ≠ k := fun e => hn (e ▸ hk)
      show (w.heap.setIfInBounds b (.map #[] 0))[k]? = _
      rw [Array.getElem?_setIfInBounds_ne this]
    rcases h2 with ⟨h2, _⟩ | ⟨g', cap', cur', hv', _, hg', _⟩
    · cases h2
    · cases hv'
      simp [hlt] at hg'
theorem Own.len (h : Own e m a n c xs w) : xs.length = n * m := h.1
theorem Own.max (h : Own e m a n c xs w) : n ≤ 9223372036854775807 := by
  rcases h.2 with ⟨_, h0⟩ | ⟨g, cap, cur, hv, _, _, hnc, hcm, _⟩
  · omega
  · simp only [maxLen] at hcm; omega
theorem Own.some_ (h : Own e m a n c xs w) (hn : 0 < n) : ∃ b, a = some ⟨b, 0, none⟩ := by
  rcases h.2 with ⟨_, h0⟩ | ⟨g, cap, cur, hv, _⟩
  · omega
  · exact ⟨g, by cases hv; rfl⟩
theorem Own.lt (h : Own e m a n c xs w) : ∀ b, fpO a b → b < w.heap.size := by
  intro b hb
  unfold fpO at hb
  subst hb
  rcases h.2 with ⟨h1, _⟩ | ⟨g, cap, cur, hv, _, hg, _⟩
  · cases h1
  · cases hv; exact (Array.getElem?_eq_some_iff.1 hg).1
theorem Own.cell (h : Own e m a n c xs w) {k : Nat} {v : Value} (hk : xs[k]? = some v) : ∃ b, a = some ⟨b, 0, none⟩ ∧ w.cell? ⟨b, k, none⟩ = some v := by
  have hn : 0 < n := by
    have h1 := (List.getElem?_eq_some_iff.1 hk).1
    have h2 := h.1
    rcases Nat.eq_zero_or_pos n with h0 | h0
    · subst h0; simp at h2; simp [h2] at h1
    · exact h0
  obtain ⟨b, hb⟩ := h.some_ hn
  subst hb
  refine ⟨b, rfl, ?_⟩
  have h3 : w.ownsRow 0 e m (.slice (some ⟨b, 0, none⟩) n c) n xs := h
  have := h3.cells (g := b) rfl k v hk
  rwa [add_addr, Nat.zero_add] at this
theorem Own.cellsAt (h : Own e 1 a n c xs w) : CellsAt a xs w := fun i v hi => by
  obtain ⟨b, hb, hc⟩ := h.cell hi
  exact ⟨b, 0, hb, by rw [Nat.zero_add]; exact hc⟩
theorem flat_get {css : List (List Value)} {m : Nat} (hm : ∀ cs ∈ css, cs.length = m) {i j : Nat} {cs : List Value} {v : Value} (hi : css[i]? = some cs) (hj : cs[j]? = some v) : css.flatten[i * m + j]? = some v := by
  induction css generalizing i with
  | nil => simp at hi
  | cons x css ih =>
    have hx := hm x List.mem_cons_self
    rw [List.flatten_cons]
    cases i with
    | zero =>
      simp at hi; subst hi
      rw [Nat.zero_mul, Nat.zero_add, List.getElem?_append_left (List.getElem?_eq_some_iff.1 hj).1]
      exact hj
    | succ i =>
      simp at hi
      have := ih (fun cs hcs => hm cs (List.mem_cons_of_mem _ hcs)) hi
      rw [List.getElem?_append_right (by rw [hx, Nat.succ_mul]; omega), hx, show (i + 1) * m + j - m = i * m + j from by rw [Nat.succ_mul]; omega]
      exact this
theorem Own.set {k : Nat} {v : Value} {b : Nat} {w' : World} (h : Own e m (some ⟨b, 0, none⟩) n c xs w) (hk : k < xs.length) (hw : ∃ cur : Array Value, w.heap[b]? = some (.cells cur e (0, 0)) ∧ w' = w.setRow b (cur.toList.take k ++ [v] ++ cur.toList.drop (k + 1)).toArray) : Own e m (some ⟨b, 0, none⟩) n c (xs.set k v) w' := by
  obtain ⟨cur, hc, rfl⟩ := hw
  obtain ⟨hl, h1⟩ := h
  rcases h1 with ⟨h1, _⟩ | ⟨g, cap, cur', hv, hb, hg, hnc, hcm, hcs, ht⟩
  · cases h1
  · cases hv
    rw [hc] at hg
    cases hg
    have hsz : cur.toList.length = c * m := by simp [hcs]
    have hle : n * m ≤ c * m := Nat.mul_le_mul_right m hnc
    have hset : cur.toList.take k ++ [v] ++ cur.toList.drop (k + 1) = cur.toList.set k v := by
      rw [List.set_eq_take_append_cons_drop, if_pos (by omega)]; simp
    refine ⟨by simp [hl], .inr ⟨b, c, _, rfl, Nat.zero_le _, setRow_heap w b cur _ e _ hc, hnc, hcm, ?_, ?_⟩⟩
    · rw [hset]; simp [hcs]
    · rw [hset, ← ht, List.take_set]
end
section
variable {P : Program} {n : Cx} {w0 : World} {M : Nat → Prop} {L L' : List (World → Prop)} {σ : Fr} {K K' : Ko} {c x y : Code} {ops : Array Oper} {S : World → Prop} {r : Sch} {i : Nat}
variable {d : Nat} {t : TypeId} {p : String} {af : Array Edge} {g : Option (Nat × Bool)} {a b : Operand}
variable {ty e m by_ N C : Nat} {ao : Option Addr} {xs : List Value} {zc : List Value}
/-- What 'make' and 'append' ask of the type of the elements: cells, bytes, zero value. -/
def Mk (P : Program) (ty e m by_ : Nat) (zc : List Value) : Prop :=
  P.underlying ty = some (.slice e) ∧ ∃ (i : TypeInfo) (z : Value), P.info? e = some i ∧ i.zero = some z ∧ i.size = m ∧ i.bytes = by_ ∧ z.cells = zc.toArray ∧ zc.length = m ∧ 0 < m ∧ 0 < by_
theorem made_flat {z : Array Value} {zc : List Value} {m : Nat} (hz : z = zc.toArray) (hm : zc.length = m) (h0 : 0 < m) (N : Nat) : (madeCells z (N * m)).toList = (List.replicate N zc).flatten := by
  subst hz
  apply List.ext_getElem?
  intro k
  unfold madeCells
  by_cases hk : k < N * m
  · have hd : k / m < N := (Nat.div_lt_iff_lt_mul h0).2 hk
    have hmod : k % m < m := Nat.mod_lt _ h0
    have hget : (List.replicate N zc)[k / m]? = some zc := by rw [List.getElem?_replicate, if_pos hd]
    have hz : zc[k % m]? = some (zc[k % m]'(by omega)) := List.getElem?_eq_getElem (by omega)
    have := flat_get (css := List.replicate N zc) (m := m) (fun cs hcs => by rw [(List.mem_replicate.1 hcs).2]; exact hm) hget hz
    rw [Nat.mul_comm, Nat.div_add_mod] at this
    rw [this]
    simp [hk, hm]
    rw [hz]; rfl
  · rw [List.getElem?_eq_none (by simp; omega), List.getElem?_eq_none]
    rw [List.length_flatten]; simp [hm]; omega
/-- 'make' of a slice. -/
theorem mks {k : IntKind} {z : Int} (N : Nat) (hM : Mk P ty e m by_ zc) (hS : ∀ bk w, Sep w0 M (Own e m (some ⟨bk, 0, none⟩) N N (List.replicate N zc).flatten :: L) w → S w) (ho : ops[i]? = some ⟨some d, .makeSlice ty a b, t, p, af, g⟩) (hg : go ops σ g) (ha : ev σ a = .int k z) (hb : ev σ b = .int k z) (hz : z = (N : Int)) (hN : by_ * N ≤ 140737488355328)
    (h : ∀ bk, w0.heap.size ≤ bk → RG P n w0 M ops S (Own e m (some ⟨bk, 0, none⟩) N N (List.replicate N zc).flatten :: L) r (upd σ d (.slice (some ⟨bk, 0, none⟩) N N)) K) : RG P n w0 M ops S L (.op .l i r) σ K := by
  obtain ⟨hu, inf, zv, hi, hz0, hs, hby, hzc, hm, hm0, hb0⟩ := hM
  subst hz
  have hN63 : N ≤ maxLen := by
    have : N ≤ by_ * N := Nat.le_mul_of_pos_left N hb0
    simp only [maxLen]; omega
  refine rL (good := fun bk => w0.heap.size ≤ bk) (Lx := fun bk => Own e m (some ⟨bk, 0, none⟩) N N (List.replicate N zc).flatten :: L) (v := fun bk => .slice (some ⟨bk, 0, none⟩) N N) hS ho hg (fun w hsep => ?_) h
  obtain ⟨w', hr, hown, hgr⟩ := run_make_full (P := P) w 0 ty e inf zv m hu hi hz0 hs k k N (by rw [hby]; omega) hN63 (Nat.zero_le _)
  have hex : Ext w w' := ⟨hgr.os, hgr.tape, hgr.output, hgr.size, fun q hq _ => hgr.block q hq (by simp)⟩
  have hlt : w.heap.size < w'.heap.size := by
    rcases hown.2 with ⟨h1, _⟩ | ⟨g', _, _, hv, _, hg', _⟩
    · cases h1
    · cases hv; exact (Array.getElem?_eq_some_iff.1 hg').1
  rw [made_flat hzc hm hm0] at hown
  have hown' : Own e m (some ⟨w.heap.size, 0, none⟩) N N (List.replicate N zc).flatten w' := hown
  unfold opw
  simp only [execOp, ha, hb, Sem.run_bind, hr, Result.andThen_ok, Sem.run_pure]
  exact ⟨w.heap.size, hsep.base_le, hsep.push hex (hown'.St fun q hq => by unfold fpO at hq; cases hq; exact ⟨Nat.le_refl _, hlt⟩), rfl⟩
/-- 'append', told of the block. -/
theorem run_append_fp {w : World} (hM : Mk P ty e m by_ zc) {n c : Nat} (hown : Own e m ao n c xs w) {ad : Addr} {c' : Nat} {news : List Value} (tyr : TypeId) (hl : news.length = m) (hnews : ∀ j u, news[j]? = some u → w.cell? (ad.add j) = some u) (h1 : ∀ u ∈ news, u.oneCell' = true) (hN : (n + 1) * by_ ≤ 140737488355328) :
    ∃ g' cap w', (Builtin.append_ #[ty, ty] tyr #[.slice ao n c, .slice (some ad) 1 c']).run P w = .ok (.slice (some ⟨g', 0, none⟩) (n + 1) cap) w' ∧ Own e m (some ⟨g', 0, none⟩) (n + 1) cap (xs ++ news) w' ∧ Upd (fpO ao) w w' ∧ (fpO ao g' ∨ New w w' g') := by
  obtain ⟨hu, inf, zv, hi, hz0, hs, hby, hzc, hm, hm0, hb0⟩ := hM
  have hN63 : n + 1 ≤ maxLen := by
    have : n + 1 ≤ (n + 1) * by_ := Nat.le_mul_of_pos_right _ hb0
    simp only [maxLen]; omega
  have hzs : zv.cells.size = m := by rw [hzc]; simpa using hm
  have fin : ∀ (v' : Value) (w' : World), (Builtin.append_ #[ty, ty] tyr #[.slice ao n c, .slice (some ad) 1 c']).run P w = .ok v' w' → w'.ownsRow w.heap.size e m v' (n + 1) (xs ++ news) → Upd (fpO ao) w w' →
      ∃ g' cap w', (Builtin.append_ #[ty, ty] tyr #[.slice ao n c, .slice (some ad) 1 c']).run P w = .ok (.slice (some ⟨g', 0, none⟩) (n + 1) cap) w' ∧ Own e m (some ⟨g', 0, none⟩) (n + 1) cap (xs ++ news) w' ∧ Upd (fpO ao) w w' ∧ (fpO ao g' ∨ New w w' g') := by
    intro v' w' hr ho hup
    obtain ⟨hl', h2⟩ := ho
    rcases h2 with ⟨_, h0⟩ | ⟨g', cap, cur, rfl, hb, hg, hnc, hcm, hcs, ht⟩
    · omega
    · exact ⟨g', cap, w', hr, ⟨hl', .inr ⟨g', cap, cur, rfl, Nat.zero_le _, hg, hnc, hcm, hcs, ht⟩⟩, hup, .inr ⟨hb, (Array.getElem?_eq_some_iff.1 hg).1⟩⟩
  have up : ∀ {w' : World} {row : Option Nat}, w.grownBy w' row → (∀ k, row = some k → fpO ao k) → Upd (fpO ao) w w' := fun hgr hrow =>
    ⟨hgr.os, hgr.tape, hgr.output, hgr.size, fun q hq hn => hgr.block q hq (fun e => hn (hrow q e.symm))⟩
  rcases hown.2 with ⟨hv, h0⟩ | ⟨g0, cap, cur, hv, hb, hg, hnc, hcm, hcs, ht⟩
  · obtain ⟨rfl, hc0⟩ : ao = none ∧ c = 0 := by cases hv; exact ⟨rfl, rfl⟩
    subst h0; subst hc0
    obtain ⟨v', w', hr, ho, hgr, _⟩ := run_append_own (P := P) w w.heap.size ty tyr e inf zv m by_ hu hi hz0 hs hby hzs hm0 (.slice none 0 0) 0 xs ⟨hown.1, .inl ⟨rfl, rfl⟩⟩ ad 1 c' news (by rw [hl]; omega) hnews h1 hN63 (by omega) (Nat.le_refl _)
    exact fin v' w' hr ho (up hgr fun k hk => by simp [Value.ownBlock] at hk)
  · obtain ⟨rfl, rfl⟩ : ao = some ⟨g0, 0, none⟩ ∧ c = cap := by cases hv; exact ⟨rfl, rfl⟩
    by_cases hroom : n + 1 ≤ c
    · have hfit : n * inf.size + news.length ≤ cur.size := by
        have := Nat.mul_le_mul_right m hroom
        rw [Nat.succ_mul] at this
        rw [hl, hcs, hs]; exact this
      have hr := run_append_room (P := P) w ty tyr e inf hu hi g0 n c cur hg ad 1 c' news (by rw [hl, hs]; omega) hnews h1 hroom hfit
      refine ⟨g0, c, _, hr, ⟨by rw [List.length_append, hown.1, hl, Nat.succ_mul], .inr ⟨g0, c, _, rfl, Nat.zero_le _, setRow_heap w g0 cur _ e _ hg, hroom, hcm, ?_, ?_⟩⟩, ⟨rfl, rfl, rfl, by simp, fun k _ hk => setRow_other w g0 k _ (fun e => hk (by unfold fpO; rw [e]))⟩, .inl rfl⟩
      · rw [hs]
        have := Nat.mul_le_mul_right m hnc
        simp only [List.size_toArray, List.length_append, List.length_take, List.length_drop, Array.length_toList]
        rw [hs] at hfit
        omega
      · rw [hs, ht]
        have hlen : (xs ++ news).length = (n + 1) * m := by rw [List.length_append, hown.1, hl, Nat.succ_mul]
        show List.take ((n + 1) * m) (xs ++ news ++ _) = _
        rw [← hlen]; exact List.take_left
    · have holds : ∀ j u, xs[j]? = some u → w.cell? ((⟨g0, 0, none⟩ : Addr).add j) = some u := by
        have h3 : w.ownsRow 0 e m (.slice (some ⟨g0, 0, none⟩) n c) n xs := hown
        exact h3.cells (g := g0) rfl
      obtain ⟨v', w', hr, ho, hgr⟩ := run_append_arg_grows (P := P) w ty tyr e inf zv m by_ hu hi hz0 hs hby hzs hm0 ⟨g0, 0, none⟩ n c xs hown.1 holds ad 1 c' news (by rw [hl]; omega) hnews (by omega) hN63 hN
      exact fin v' w' hr ho (up hgr fun k hk => by simp at hk)
/-- 'append' of one element that lies in a literal. -/
theorem apl {N C lb le lc : Nat} {news : List Value} (j i' : Nat) (hj : L[j]? = some (Own e m ao N C xs)) (hi : L[i']? = some (blk lb le news)) (hM : Mk P ty e m by_ zc) (hS : ∀ (q : Option Addr × Nat) w, Sep w0 M (L.set j (Own e m q.1 (N + 1) q.2 (xs ++ news))) w → S w) (ho : ops[i]? = some ⟨some d, .call ⟨.builtin .append, #[a, b], #[ty, ty]⟩, t, p, af, g⟩) (hg : go ops σ g) (ha : ev σ a = .slice ao N C) (hb : ev σ b = .slice (some ⟨lb, 0, none⟩) 1 lc) (hl : news.length = m) (h1 : ∀ u ∈ news, u.oneCell' = true) (hN : (N + 1) * by_ ≤ 140737488355328)
    (h : ∀ a' c', RG P n w0 M ops S (L.set j (Own e m a' (N + 1) c' (xs ++ news))) r (upd σ d (.slice a' (N + 1) c')) K) : RG P n w0 M ops S L (.op .l i r) σ K :=
  rL (α := Option Addr × Nat) (good := fun _ => True) (Lx := fun q => L.set j (Own e m q.1 (N + 1) q.2 (xs ++ news))) (v := fun q => .slice q.1 (N + 1) q.2) hS ho hg (fun w hs => by
    have hown := hs.at_ j hj
    have hlit := hs.at_ i' hi
    obtain ⟨g', cap, w', hr, ho', hup, hg'⟩ := run_append_fp hM hown (ad := ⟨lb, 0, none⟩) (c' := lc) (news := news) t hl (fun q u hq => by rw [add_addr, Nat.zero_add]; exact hlit.cell hq) h1 hN
    unfold opw
    simp only [execOp, resolve, invoke, builtin, Sem.run_bind, Sem.run_pure, Result.andThen_ok, List.map_toArray, List.map_cons, List.map_nil, ha, hb, hr]
    refine ⟨(some ⟨g', 0, none⟩, cap), trivial, hs.change j hj fun f hf => ⟨fun k => f k ∨ k = g', fun k hk => ?_, ho'.St fun q hq => ?_, hup.mono fun k _ hk => Own.mem hf k hk⟩, rfl⟩
    · rcases hk with hk | rfl
      · exact .inl hk
      · rcases hg' with hg' | hg'
        · exact .inl (Own.mem hf _ hg')
        · exact .inr hg'
    · unfold fpO at hq; cases hq; exact .inr rfl) (fun q _ => h q.1 q.2)
/-- The address of an element of an owned slice. -/
theorem oxa {C cap : Nat} {k : IntKind} {z : Int} (j : Nat) (hj : L[j]? = some (Own e m ao N C xs)) (hE : Elt P ty m) (ho : ops[i]? = some ⟨some d, .indexAddr ty a b, t, p, af, g⟩) (hg : go ops σ g) (ha : ev σ a = .slice ao N cap) (hb : ev σ b = .int k z) (h0 : 0 ≤ z) (h1 : z < N)
    (h : ∀ gk, ao = some ⟨gk, 0, none⟩ → RG P n w0 M ops S L r (upd σ d (.pointer (some ⟨gk, z.toNat * m, none⟩))) K) : RG P n w0 M ops S L (.op .q i r) σ K := fun w hs => by
  obtain ⟨gk, hgk⟩ := (hs.at_ j hj).some_ (by omega)
  exact rQ ho hg (fun w _ => by rw [hgk] at ha; simp [execOp, ha, hb, run_indexAt (k := k) (bk := gk) (off := 0) (cap := cap) hE h0 h1 w]) (h gk hgk) w hs
theorem oxa1 {C cap : Nat} {k : IntKind} {z : Int} (j : Nat) (hj : L[j]? = some (Own e 1 ao N C xs)) (hE : Elt P ty 1) (ho : ops[i]? = some ⟨some d, .indexAddr ty a b, t, p, af, g⟩) (hg : go ops σ g) (ha : ev σ a = .slice ao N cap) (hb : ev σ b = .int k z) (h0 : 0 ≤ z) (h1 : z < N)
    (h : ∀ gk, ao = some ⟨gk, 0, none⟩ → RG P n w0 M ops S L r (upd σ d (.pointer (some ⟨gk, z.toNat, none⟩))) K) : RG P n w0 M ops S L (.op .q i r) σ K :=
  oxa j hj hE ho hg ha hb h0 h1 fun gk hgk => by rw [Nat.mul_one]; exact h gk hgk
theorem sto_opw {v : Value} {gk off : Nat} {w : World} (j : Nat) (hj : L[j]? = some (Own e m ao N C xs)) (hao : ao = some ⟨gk, 0, none⟩) (hz : Size P ty 1) (hv : v.oneCell' = true) (hlt : off < xs.length) (hs : Sep w0 M L w) (ha : ev σ a = .pointer (some ⟨gk, off, none⟩)) (hb : ev σ b = v) :
    opw P ⟨none, .store ty a b, t, p, af, g⟩ σ w fun σ' w' => Sep w0 M (L.set j (Own e m ao N C (xs.set off v))) w' ∧ σ' = σ := by
  subst hao
  have hown := hs.at_ j hj
  obtain ⟨cur, hcur⟩ : ∃ cur : Array Value, w.heap[gk]? = some (.cells cur e (0, 0)) ∧ off < cur.size := by
    rcases hown.2 with ⟨h1, _⟩ | ⟨g', cap, cur, hv', _, hg', hnc, _, hcs, ht⟩
    · cases h1
    · cases hv'
      refine ⟨cur, hg', ?_⟩
      have := hown.1
      have := Nat.mul_le_mul_right m hnc
      omega
  have hc : v.cells = #[v] := by cases v <;> first | rfl | cases hv
  have hst := run_storeCells_at P gk off e [v] 0 cur w hcur.1 (by simp; omega) (by simpa using hv)
  have hst' : (storeCells ⟨gk, off, none⟩ [v] 0).run P w = .ok () (w.setRow gk (cur.toList.take off ++ [v] ++ cur.toList.drop (off + 1)).toArray) := by simpa using hst
  unfold opw
  have hr : (Instr.storeAt ty (.pointer (some ⟨gk, off, none⟩)) v).run P w = .ok () (w.setRow gk (cur.toList.take off ++ [v] ++ cur.toList.drop (off + 1)).toArray) := by
    simp only [Instr.storeAt, Instr.sureAddr, storeVar, hz w, hc, Sem.run_bind, Sem.run_pure, Result.andThen_ok]
    simpa using hst'
  simp only [execOp, ha, hb, Sem.run_bind, hr, Result.andThen_ok, Sem.run_pure]
  refine ⟨hs.change j hj fun f hf => ⟨f, fun _ h => .inl h, (hown.set hlt ⟨cur, hcur.1, rfl⟩).St fun q hq => Own.mem hf q hq, ⟨rfl, rfl, rfl, by simp, fun k hk hn => setRow_other w gk k _ fun e => hn (e ▸ Own.mem hf gk rfl)⟩⟩, rfl⟩
/-- A store of one cell into an owned slice. -/
theorem sto {v : Value} {gk off : Nat} (j : Nat) (hj : L[j]? = some (Own e m ao N C xs)) (hao : ao = some ⟨gk, 0, none⟩) (hz : Size P ty 1) (hS : ∀ w, Sep w0 M (L.set j (Own e m ao N C (xs.set off v))) w → S w) (ho : ops[i]? = some ⟨none, .store ty a b, t, p, af, g⟩) (hg : go ops σ g) (ha : ev σ a = .pointer (some ⟨gk, off, none⟩)) (hb : ev σ b = v) (hv : v.oneCell' = true) (hlt : off < xs.length)
    (h : RG P n w0 M ops S (L.set j (Own e m ao N C (xs.set off v))) r σ K) : RG P n w0 M ops S L (.op .l i r) σ K :=
  rL1 (v := undef) hS ho hg (fun _ hs => sto_opw j hj hao hz hv hlt hs ha hb) h
theorem stoF {v : Value} {gk off : Nat} (j : Nat) (hj : L[j]? = some (Own e m ao N C xs)) (hao : ao = some ⟨gk, 0, none⟩) (hz : Size P ty 1) (ho : ops[i]? = some ⟨none, .store ty a b, t, p, af, g⟩) (hg : go ops σ g) (ha : ev σ a = .pointer (some ⟨gk, off, none⟩)) (hb : ev σ b = v) (hv : v.oneCell' = true) (hlt : off < xs.length)
    (h : RG P n w0 M ops S (L.set j (Own e m ao N C (xs.set off v))) r σ K) : RG P n w0 M ops S L (.op .f i r) σ K :=
  rF1 (v := undef) ho hg (fun _ hs => sto_opw j hj hao hz hv hlt hs ha hb) h
/-- A literal's block is an owned slice. -/
theorem Own.ofBlk {bk e : Nat} {vs : List Value} {w : World} (h : blk bk e vs w) (hl : vs.length ≤ maxLen) : Own e 1 (some ⟨bk, 0, none⟩) vs.length vs.length vs w :=
  ⟨by simp, .inr ⟨bk, vs.length, vs.toArray, rfl, Nat.zero_le _, h, Nat.le_refl _, hl, by simp, by simp⟩⟩
/-- The nil slice is owned, with no block. -/
theorem Own.nil (e m : Nat) (w : World) : Own e m none 0 0 [] w := World.ownsRow_nil w 0 e m
end
end Go.Proofs.Yteaahdakammffaa.V
/- The engine, part 8: pieces in whatever order, joined and fused; numbers, rows and nodes in slices, read and owned. No condition. -/
namespace Go.Proofs.Yteaahdakammffaa.V
open Go Go.RowKit
set_option linter.unusedVariables false
set_option linter.unusedSimpArgs false
section
variable {w0 : World} {M : Nat → Prop} {L L' : List (World → Prop)} {w w' : World} {B T : Nat} {φ ψ χ : World → Prop}
theorem SepL.perm (hp : L.Perm L') : ∀ {fs : List (Nat → Prop)}, SepL M B T fs L w → ∃ fs', (∀ g, g ∈ fs' ↔ g ∈ fs) ∧ SepL M B T fs' L' w := by
  induction hp with
  | nil => intro fs h; exact ⟨fs, fun _ => Iff.rfl, h⟩
  | cons a _ ih =>
    intro fs h
    cases fs with
    | nil => exact h.elim
    | cons f fs =>
      obtain ⟨h1, h2, h3, h4⟩ := h
      obtain ⟨fs', hm, h4'⟩ := ih h4
      exact ⟨f :: fs', fun g => by simp [hm], h1, fun g hg => h2 g ((hm g).1 hg), h3, h4'⟩
  | swap a b l =>
    intro fs h
    match fs, h with
    | f :: g :: fs, ⟨h1, h2, h3, h4, h5, h6, h7⟩ =>
      refine ⟨g :: f :: fs, fun q => by simp only [List.mem_cons]; exact ⟨fun h => by rcases h with h | h | h <;> simp [h], fun h => by rcases h with h | h | h <;> simp [h]⟩, h4, fun q hq k hk hqk => ?_, h6, h1, fun q hq => h2 q (List.mem_cons_of_mem _ hq), h3, h7⟩
      rcases List.mem_cons.1 hq with rfl | hq
      · exact h2 g List.mem_cons_self k hqk hk
      · exact h5 q hq k hk hqk
    | [_], ⟨_, _, _, h⟩ => exact h.elim
    | [], h => exact h.elim
  | trans _ _ ih1 ih2 =>
    intro fs h
    obtain ⟨fs1, hm1, h1⟩ := ih1 h
    obtain ⟨fs2, hm2, h2⟩ := ih2 h1
    exact ⟨fs2, fun g => (hm2 g).trans (hm1 g), h2⟩
theorem Sep.perm (h : Sep w0 M L w) (hp : L.Perm L') : Sep w0 M L' w := by
  obtain ⟨h1, fs, h2⟩ := h
  obtain ⟨fs', _, h3⟩ := h2.perm hp
  exact ⟨h1, fs', h3⟩
theorem pull : ∀ {L : List (World → Prop)} {i : Nat}, L[i]? = some φ → L.Perm (φ :: L.eraseIdx i)
  | [], _, h => by simp at h
  | a :: L, 0, h => by simp at h; subst h; exact .refl _
  | a :: L, i + 1, h => by
    simp at h
    exact ((pull h).cons a).trans (.swap _ _ _)
/-- Pieces, each by its place among those that are left. -/
def pickL : List Nat → List (World → Prop) → List (World → Prop)
  | [], _ => []
  | i :: is, L => match L[i]? with
    | some φ => φ :: pickL is (L.eraseIdx i)
    | none => pickL is L
theorem Sep.pick (is : List Nat) (h : Sep w0 M L w) : Sep w0 M (pickL is L) w := by
  have key : ∀ (is : List Nat) (L : List (World → Prop)), ∃ R, L.Perm (pickL is L ++ R) := by
    intro is
    induction is with
    | nil => intro L; exact ⟨L, .refl _⟩
    | cons i is ih =>
      intro L
      unfold pickL
      cases hi : L[i]? with
      | none => exact ih L
      | some φ =>
        obtain ⟨R, hR⟩ := ih (L.eraseIdx i)
        exact ⟨R, (pull hi).trans (hR.cons φ)⟩
  obtain ⟨R, hR⟩ := key is L
  exact (h.perm hR).sub (List.sublist_append_left _ _)
/-- A piece says less, or otherwise. -/
theorem Sep.imp (h : Sep w0 M L w) (j : Nat) (hj : L[j]? = some φ) (hi : ∀ w, φ w → ψ w) : Sep w0 M (L.set j ψ) w :=
  h.change j hj fun f hf => ⟨f, fun _ h => .inl h, hf.imp hi, Upd.refl _ _⟩
/-- A piece that needs no memory. -/
theorem Sep.bare (h : Sep w0 M L w) (hφ : ∀ f, St f φ w) : Sep w0 M (φ :: L) w := h.push (Upd.refl _ _) (hφ _)
theorem Sep.pure (h : Sep w0 M L w) {q : Prop} (hq : q) : Sep w0 M ((fun _ => q) :: L) w := h.bare fun _ _ _ => hq
/-- Two pieces become one. -/
theorem Sep.fuse (h : Sep w0 M (φ :: ψ :: L) w) (hs : ∀ f g, St f φ w → St g ψ w → (∀ k, f k → ¬ g k) → ∃ f' : Nat → Prop, (∀ k, f' k → f k ∨ g k ∨ New w w' k) ∧ St f' χ w' ∧ Upd (fun k => f k ∨ g k) w w') : Sep w0 M (χ :: L) w' := by
  obtain ⟨h1, fs, h2⟩ := h
  match fs, h2 with
  | f :: g :: fs, ⟨k1, k2, k3, k4, k5, k6, k7⟩ =>
    obtain ⟨f', hf', hχ, hu⟩ := hs f g k3 k6 (fun k hk hg => k2 g List.mem_cons_self k hk hg)
    refine ⟨⟨hu.os.trans h1.os, hu.tape.trans h1.tape, hu.output.trans h1.output, Nat.le_trans h1.size hu.size, fun k hk hm => ?_⟩, f' :: fs, fun k hk => ?_, fun q hq k hk hqk => ?_, hχ, ?_⟩
    · rw [hu.block k (Nat.lt_of_lt_of_le hk h1.size) fun hfk => ?_]
      · exact h1.block k hk hm
      · rcases hfk with hfk | hfk
        · rcases (k1 k hfk).1 with h | h
          · exact Nat.not_le_of_lt hk h
          · exact hm h
        · rcases (k4 k hfk).1 with h | h
          · exact Nat.not_le_of_lt hk h
          · exact hm h
    · rcases hf' k hk with h | h | h
      · exact ⟨(k1 k h).1, Nat.lt_of_lt_of_le (k1 k h).2 hu.size⟩
      · exact ⟨(k4 k h).1, Nat.lt_of_lt_of_le (k4 k h).2 hu.size⟩
      · exact ⟨.inl (Nat.le_trans h1.size h.1), h.2⟩
    · rcases hf' k hk with h | h | h
      · exact k2 q (List.mem_cons_of_mem _ hq) k h hqk
      · exact k5 q hq k h hqk
      · have := (k7.fp_lt q hq k hqk).2; have := h.1; omega
    · exact k7.keep hu.size fun q hq k hk => hu.block k (k7.fp_lt q hq k hk).2 fun hfg => by
        rcases hfg with hfg | hfg
        · exact k2 q (List.mem_cons_of_mem _ hq) k hfg hk
        · exact k5 q hq k hfg hk
  | [_], ⟨_, _, _, h⟩ => exact h.elim
  | [], h => exact h.elim
/-- What a call made stands beside what there was. -/
theorem Sep.join (h : Sep w0 M L w) (h' : Sep w none_ L' w') : Sep w0 M (L' ++ L) w' := by
  have he : Ext w w' := h'.1
  have hL := h.ext he
  obtain ⟨h1, fs, h2⟩ := h
  obtain ⟨_, fs', h3⟩ := h'
  refine ⟨hL.1, ?_⟩
  have base := h2.keep (T' := w'.heap.size) he.size (w' := w') fun g hg k hk => he.block k (h2.fp_lt g hg k hk).2 fun h => h
  have key : ∀ (fs' : List (Nat → Prop)) (L' : List (World → Prop)), SepL none_ w.heap.size w'.heap.size fs' L' w' → SepL M w0.heap.size w'.heap.size (fs' ++ fs) (L' ++ L) w' := by
    intro fs' 
    induction fs' with
    | nil => intro L' h; cases L' with | nil => exact base | cons _ _ => exact h.elim
    | cons f fs' ih =>
      intro L' h
      cases L' with
      | nil => exact h.elim
      | cons φ L' =>
        obtain ⟨a1, a2, a3, a4⟩ := h
        refine ⟨fun k hk => ⟨.inl (Nat.le_trans h1.size ((a1 k hk).1.resolve_right fun h => h)), (a1 k hk).2⟩, fun g hg k hk hgk => ?_, a3, ih L' a4⟩
        rcases List.mem_append.1 hg with hg | hg
        · exact a2 g hg k hk hgk
        · have := (h2.fp_lt g hg k hgk).2
          have := (a1 k hk).1.resolve_right fun h => h
          omega
  exact ⟨fs' ++ fs, key fs' L' h3⟩
end
section
variable {P : Program} {n : Cx} {w0 : World} {M : Nat → Prop} {L L' : List (World → Prop)} {σ : Fr} {K K' : Ko} {c x y : Code} {ops : Array Oper} {S : World → Prop} {r : Sch} {i : Nat}
variable {d : Nat} {t : TypeId} {p : String} {af : Array Edge} {g : Option (Nat × Bool)} {a b : Operand}
/-- A call that hands back pieces. -/
theorem callS {α : Type} {f : FuncId} {args : Array Operand} {tys : Array TypeId} {val : α → Value} {good : α → Prop} {φs : α → List (World → Prop)} (hf : ∀ args w, (callFunc f args).run P w = .ok (.enter f args) w) (hS : ∀ x w, Sep w0 M (φs x ++ L) w → S w) (ho : ops[i]? = some ⟨some d, .call ⟨.value (.func f), args, tys⟩, t, p, af, g⟩) (hg : go ops σ g)
    (hc : ∀ w, Sep w0 M L w → Calls P f (args.toList.map (ev σ)).toArray w (Ret fun v' w' => ∃ x, v' = val x ∧ good x ∧ Sep w none_ (φs x) w')) (h : ∀ x, good x → RG P n w0 M ops S (φs x ++ L) r (upd σ d (val x)) K) : RG P n w0 M ops S L (.op .l i r) σ K :=
  rL (Lx := fun x => φs x ++ L) (v := val) hS ho hg (fun w hs => call_opw hf (hc w hs) fun v' w' ⟨x, he, hx, hsep⟩ => by subst he; exact ⟨x, hx, hs.join hsep, rfl⟩) h
end
/-! ### Numbers in slices -/
def iv (zs : List Int) : List Value := zs.map (Value.int .i64)
theorem iv_get {zs : List Int} {k : Nat} (h : k < zs.length) : (iv zs)[k]? = some (.int .i64 (zs.getD k 0)) := by
  simp [iv, List.getD, List.getElem?_eq_getElem h]
theorem iv_len (zs : List Int) : (iv zs).length = zs.length := by simp [iv]
theorem iv_app (zs : List Int) (x : Int) : iv zs ++ [.int .i64 x] = iv (zs ++ [x]) := by simp [iv]
theorem iv_set (zs : List Int) (k : Nat) (x : Int) : (iv zs).set k (.int .i64 x) = iv (zs.set k x) := by simp [iv, List.map_set]
theorem iv_rep (N : Nat) : (List.replicate N [Value.int .i64 0]).flatten = iv (List.replicate N 0) := by
  induction N with
  | zero => rfl
  | succ N ih => simp [List.replicate_succ, iv] at ih ⊢
/-- A slice of numbers, read. -/
def RdI (a : Option Addr) (n : Nat) (zs : List Int) : World → Prop := fun w => zs.length = n ∧ n ≤ 9223372036854775807 ∧ CellsAt a (iv zs) w
theorem RdI.ext {a : Option Addr} {n : Nat} {zs : List Int} {w w' : World} (h : RdI a n zs w) (he : Ext w w') : RdI a n zs w' := ⟨h.1, h.2.1, h.2.2.ext he⟩
theorem RdI.nil (a : Option Addr) (w : World) : RdI a 0 [] w := ⟨rfl, by decide, CellsAt.nil _ _⟩
/-- A slice of numbers, owned. -/
def OwnI (e : Nat) (a : Option Addr) (n c : Nat) (zs : List Int) : World → Prop := Own e 1 a n c (iv zs)
theorem OwnI.rd {e : Nat} {a : Option Addr} {n c : Nat} {zs : List Int} {w : World} (h : OwnI e a n c zs w) : RdI a n zs w := ⟨by have := h.len; rw [iv_len] at this; omega, Own.max h, Own.cellsAt h⟩
theorem OwnI.lenz {e : Nat} {a : Option Addr} {n c : Nat} {zs : List Int} {w : World} (h : OwnI e a n c zs w) : zs.length = n := h.rd.1
theorem OwnI.nil (e : Nat) (w : World) : OwnI e none 0 0 [] w := Own.nil e 1 w
section
variable {P : Program} {n : Cx} {w0 : World} {M : Nat → Prop} {L L' : List (World → Prop)} {σ : Fr} {K K' : Ko} {c x y : Code} {ops : Array Oper} {S : World → Prop} {r : Sch} {i : Nat}
variable {d : Nat} {t : TypeId} {p : String} {af : Array Edge} {g : Option (Nat × Bool)} {a b : Operand}
variable {ty e m by_ N C : Nat} {ao : Option Addr} {zs : List Int} {zc : List Value}
theorem ixIq {len cap : Nat} {k : IntKind} {z : Int} {q : Option Addr} (hE : Elt P ty 1) (hC : ∀ w, S w → RdI q len zs w) (hS : ∀ w, Sep w0 M L w → S w) (ho : ops[i]? = some ⟨some d, .indexAddr ty a b, t, p, af, g⟩) (hg : go ops σ g) (ha : ev σ a = .slice q len cap) (hb : ev σ b = .int k z) (h0 : 0 ≤ z) (h1 : z < len) {zn : Nat} (hzn : z.toNat = zn)
    (h : ∀ ad, (∀ w, S w → w.cell? ad = some (.int .i64 (zs.getD zn 0))) → RG P n w0 M ops S L r (upd σ d (.pointer (some ad))) K) : RG P n w0 M ops S L (.op .q i r) σ K := fun w hs => by
  subst hzn
  exact ixq hE (fun w hw => (hC w hw).2.2) hS ho hg ha hb h0 h1 (iv_get (by have := (hC w (hS w hs)).1; omega)) h w hs
theorem ixIl {len cap : Nat} {k : IntKind} {z : Int} {q : Option Addr} (hE : Elt P ty 1) (hC : Kn w0 M L (RdI q len zs)) (ho : ops[i]? = some ⟨some d, .indexAddr ty a b, t, p, af, g⟩) (hg : go ops σ g) (ha : ev σ a = .slice q len cap) (hb : ev σ b = .int k z) (h0 : 0 ≤ z) (h1 : z < len) {zn : Nat} (hzn : z.toNat = zn)
    (h : ∀ ad, (Kn w0 M L fun w => w.cell? ad = some (.int .i64 (zs.getD zn 0))) → RG P n w0 M ops S L r (upd σ d (.pointer (some ad))) K) : RG P n w0 M ops S L (.op .q i r) σ K := fun w hs => by
  subst hzn
  exact ixl hE (hC.imp fun _ h => h.2.2) ho hg ha hb h0 h1 (iv_get (by have := (hC w hs).1; omega)) h w hs
theorem mksI {k : IntKind} {z : Int} (N : Nat) (hM : Mk P ty e 1 by_ [.int .i64 0]) (hS : ∀ bk w, Sep w0 M (OwnI e (some ⟨bk, 0, none⟩) N N (List.replicate N 0) :: L) w → S w) (ho : ops[i]? = some ⟨some d, .makeSlice ty a b, t, p, af, g⟩) (hg : go ops σ g) (ha : ev σ a = .int k z) (hb : ev σ b = .int k z) (hz : z = (N : Int)) (hN : by_ * N ≤ 140737488355328)
    (h : ∀ bk, w0.heap.size ≤ bk → RG P n w0 M ops S (OwnI e (some ⟨bk, 0, none⟩) N N (List.replicate N 0) :: L) r (upd σ d (.slice (some ⟨bk, 0, none⟩) N N)) K) : RG P n w0 M ops S L (.op .l i r) σ K := by
  unfold OwnI at hS h
  rw [← iv_rep] at hS h
  exact mks N hM hS ho hg ha hb hz hN h
theorem aplI {lb le lc : Nat} {x : Int} (j i' : Nat) (hj : L[j]? = some (OwnI e ao N C zs)) (hi : L[i']? = some (blk lb le [.int .i64 x])) (hM : Mk P ty e 1 by_ zc) (hS : ∀ (q : Option Addr × Nat) w, Sep w0 M (L.set j (OwnI e q.1 (N + 1) q.2 (zs ++ [x]))) w → S w) (ho : ops[i]? = some ⟨some d, .call ⟨.builtin .append, #[a, b], #[ty, ty]⟩, t, p, af, g⟩) (hg : go ops σ g) (ha : ev σ a = .slice ao N C) (hb : ev σ b = .slice (some ⟨lb, 0, none⟩) 1 lc) (hN : (N + 1) * by_ ≤ 140737488355328)
    (h : ∀ a' c', RG P n w0 M ops S (L.set j (OwnI e a' (N + 1) c' (zs ++ [x]))) r (upd σ d (.slice a' (N + 1) c')) K) : RG P n w0 M ops S L (.op .l i r) σ K := by
  unfold OwnI at hS h hj
  rw [← iv_app] at hS h
  exact apl j i' hj hi hM hS ho hg ha hb rfl (by simp [Value.oneCell']) hN h
theorem oxI {cap : Nat} {k : IntKind} {z : Int} (j : Nat) (hj : L[j]? = some (OwnI e ao N C zs)) (hE : Elt P ty 1) (ho : ops[i]? = some ⟨some d, .indexAddr ty a b, t, p, af, g⟩) (hg : go ops σ g) (ha : ev σ a = .slice ao N cap) (hb : ev σ b = .int k z) (h0 : 0 ≤ z) (h1 : z < N) {zn : Nat} (hzn : z.toNat = zn)
    (h : ∀ gk, ao = some ⟨gk, 0, none⟩ → RG P n w0 M ops S L r (upd σ d (.pointer (some ⟨gk, zn, none⟩))) K) : RG P n w0 M ops S L (.op .q i r) σ K := by
  subst hzn
  exact oxa1 j hj hE ho hg ha hb h0 h1 h
theorem stoI {x : Int} {gk off : Nat} (j : Nat) (hj : L[j]? = some (OwnI e ao N C zs)) (hao : ao = some ⟨gk, 0, none⟩) (hz : Size P ty 1) (hS : ∀ w, Sep w0 M (L.set j (OwnI e ao N C (zs.set off x))) w → S w) (ho : ops[i]? = some ⟨none, .store ty a b, t, p, af, g⟩) (hg : go ops σ g) (ha : ev σ a = .pointer (some ⟨gk, off, none⟩)) (hb : ev σ b = .int .i64 x) (hlt : off < N)
    (h : RG P n w0 M ops S (L.set j (OwnI e ao N C (zs.set off x))) r σ K) : RG P n w0 M ops S L (.op .l i r) σ K := fun w hs => by
  have hlen := (show OwnI e ao N C zs w from hs.at_ j hj).lenz
  unfold OwnI at hS h hj
  rw [← iv_set] at hS h
  exact sto j hj hao hz hS ho hg ha hb rfl (by rw [iv_len]; omega) h w hs
theorem stoIF {x : Int} {gk off : Nat} (j : Nat) (hj : L[j]? = some (OwnI e ao N C zs)) (hao : ao = some ⟨gk, 0, none⟩) (hz : Size P ty 1) (ho : ops[i]? = some ⟨none, .store ty a b, t, p, af, g⟩) (hg : go ops σ g) (ha : ev σ a = .pointer (some ⟨gk, off, none⟩)) (hb : ev σ b = .int .i64 x) (hlt : off < N)
    (h : RG P n w0 M ops S (L.set j (OwnI e ao N C (zs.set off x))) r σ K) : RG P n w0 M ops S L (.op .f i r) σ K := fun w hs => by
  have hlen := (show OwnI e ao N C zs w from hs.at_ j hj).lenz
  unfold OwnI at h hj
  rw [← iv_set] at h
  exact stoF j hj hao hz ho hg ha hb rfl (by rw [iv_len]; omega) h w hs
/-- A literal of numbers is an owned slice. -/
theorem Sep.litI {bk e : Nat} {vs : List Value} {w : World} (h : Sep w0 M L w) (j : Nat) (zs : List Int) (hj : L[j]? = some (blk bk e vs)) (hv : vs = iv zs) (hl : Nat.ble zs.length 1000 = true) : Sep w0 M (L.set j (OwnI e (some ⟨bk, 0, none⟩) zs.length zs.length zs)) w :=
  h.imp j hj fun w hb => by
    subst hv
    have hl := Nat.le_of_ble_eq_true hl
    have := Own.ofBlk hb (by rw [iv_len]; simp only [maxLen]; omega)
    rwa [iv_len] at this
theorem Sep.nilI {w : World} (e : Nat) (h : Sep w0 M L w) : Sep w0 M (OwnI e none 0 0 [] :: L) w := h.bare fun f => (OwnI.nil e w).St fun _ hb => by cases hb
end
end Go.Proofs.Yteaahdakammffaa.V
/- The engine, part 9: slices of rows, each of which leads to a slice of numbers: read and owned. No condition. -/
namespace Go.Proofs.Yteaahdakammffaa.V
open Go Go.RowKit
set_option linter.unusedVariables false
set_option linter.unusedSimpArgs false
/-- A slice's address and capacity. -/
abbrev Hd := Option Addr × Nat
/-- How an element lies: its cells, the numbers that it leads to, how many cells. -/
structure RK (α : Type) where
  cells : α → Hd → List Value
  kid : α → List Int
  m : Nat
structure RK.Ok {α : Type} (k : RK α) : Prop where
  len : ∀ x h, (k.cells x h).length = k.m
  one : ∀ x h, ∀ v ∈ k.cells x h, v.oneCell' = true
  pos : 0 < k.m
/-- A node of a tree. -/
structure Nd where
  pl : Int
  p0 : Int
  p1 : Int
  fo : Int
  ch : List Int
def dN : Nd := ⟨0, 0, 0, 0, []⟩
def ndC (x : Nd) (h : Hd) : List Value := [.int .i64 x.pl, .int .i64 x.p0, .int .i64 x.p1, .int .i64 x.fo, .slice h.1 x.ch.length h.2]
def ndK : RK Nd := ⟨ndC, Nd.ch, 5⟩
def maK : RK (List Int) := ⟨fun zs h => [.slice h.1 zs.length h.2], fun zs => zs, 1⟩
theorem ndK.ok : ndK.Ok := ⟨fun _ _ => rfl, fun x h v hv => by simp [ndK, ndC] at hv; rcases hv with rfl | rfl | rfl | rfl | rfl <;> rfl, by decide⟩
theorem maK.ok : maK.Ok := ⟨fun _ _ => rfl, fun x h v hv => by simp [maK] at hv; subst hv; rfl, by decide⟩
def hset (hs : Nat → Hd) (i : Nat) (h : Hd) : Nat → Hd := fun j => if j = i then h else hs j
theorem hset_same (hs : Nat → Hd) (i : Nat) (h : Hd) : hset hs i h i = h := by simp [hset]
theorem hset_other (hs : Nat → Hd) {i j : Nat} (h : Hd) (hne : j ≠ i) : hset hs i h j = hs j := by simp [hset, hne]
/-- The cells of all rows. -/
def rowsV {α : Type} (k : RK α) (hs : Nat → Hd) (xs : List α) : List (List Value) := xs.mapIdx fun i x => k.cells x (hs i)
theorem nth {α : Type} {xs : List α} {k : Nat} (d : α) (h : k < xs.length) : xs[k]? = some (xs.getD k d) := by simp [List.getD, List.getElem?_eq_getElem h]
section
variable {α : Type} {k : RK α} {hs : Nat → Hd} {xs : List α} {x : α} {i : Nat}
theorem rowsV_len : (rowsV k hs xs).length = xs.length := by simp [rowsV]
theorem rowsV_get (h : xs[i]? = some x) : (rowsV k hs xs)[i]? = some (k.cells x (hs i)) := by simp [rowsV, h]
theorem rowsV_all (hk : k.Ok) : ∀ cs ∈ rowsV k hs xs, cs.length = k.m := by
  intro cs hcs
  obtain ⟨i, hi⟩ := List.mem_iff_getElem?.1 hcs
  simp only [rowsV, List.getElem?_mapIdx] at hi
  cases hx : xs[i]? with
  | none => rw [hx] at hi; simp at hi
  | some y => rw [hx] at hi; simp at hi; subst hi; exact hk.len _ _
theorem rowsV_set (h : i < xs.length) (hd : Hd) : rowsV k (hset hs i hd) (xs.set i x) = (rowsV k hs xs).set i (k.cells x hd) := by
  apply List.ext_getElem?
  intro j
  simp only [rowsV, List.getElem?_mapIdx, List.getElem?_set, List.length_mapIdx]
  by_cases hj : i = j
  · subst hj; simp [h, hset_same]
  · simp only [if_neg hj]
    cases hx : xs[j]? with
    | none => rfl
    | some y => simp [hset_other hs hd (Ne.symm hj)]
theorem rowsV_same (h : i < xs.length) : rowsV k hs (xs.set i x) = (rowsV k hs xs).set i (k.cells x (hs i)) := by
  have : hset hs i (hs i) = hs := by funext j; unfold hset; split <;> simp_all
  have h2 := rowsV_set (k := k) (hs := hs) (x := x) h (hs i)
  rwa [this] at h2
theorem rowsV_app (hd : Hd) : rowsV k (hset hs xs.length hd) (xs ++ [x]) = rowsV k hs xs ++ [k.cells x hd] := by
  simp only [rowsV, List.mapIdx_append, List.mapIdx_cons, List.mapIdx_nil, Nat.zero_add, hset_same]
  congr 1
  apply List.ext_getElem?
  intro j
  simp only [List.getElem?_mapIdx]
  cases hx : xs[j]? with
  | none => rfl
  | some y =>
    have := (List.getElem?_eq_some_iff.1 hx).1
    simp [hset_other hs hd (show j ≠ xs.length by omega)]
theorem flat_set {css : List (List Value)} {m i : Nat} {cs : List Value} (hm : ∀ cs ∈ css, cs.length = m) (hc : cs.length = m) (hi : i < css.length) : (css.set i cs).flatten = css.flatten.take (i * m) ++ cs ++ css.flatten.drop (i * m + m) := by
  induction css generalizing i with
  | nil => simp at hi
  | cons y css ih =>
    have hy := hm y List.mem_cons_self
    cases i with
    | zero => simp [List.drop_append, hy]
    | succ i =>
      have := ih (i := i) (fun c hc => hm c (List.mem_cons_of_mem _ hc)) (by simpa using hi)
      have e1 : (y ++ css.flatten).take (i * m + m) = y ++ css.flatten.take (i * m) := by
        rw [List.take_append, List.take_of_length_le (by omega), show i * m + m - y.length = i * m from by omega]
      have e2 : (y ++ css.flatten).drop (i * m + m + m) = css.flatten.drop (i * m + m) := by
        rw [List.drop_append, List.drop_of_length_le (by omega), show i * m + m + m - y.length = i * m + m from by omega, List.nil_append]
      simp only [List.set_cons_succ, List.flatten_cons, this, Nat.succ_mul, e1, e2]
      simp [List.append_assoc]
theorem flat_len {css : List (List Value)} {m : Nat} (hm : ∀ cs ∈ css, cs.length = m) : css.flatten.length = css.length * m := by
  induction css with
  | nil => simp
  | cons y css ih =>
    rw [List.flatten_cons, List.length_append, hm y List.mem_cons_self, ih fun c hc => hm c (List.mem_cons_of_mem _ hc), List.length_cons, Nat.succ_mul, Nat.add_comm]
end
/-- Rows, read. -/
def RdR {α : Type} (k : RK α) (a : Option Addr) (n : Nat) (hs : Nat → Hd) (xs : List α) : World → Prop := fun w =>
  xs.length = n ∧ n ≤ 9223372036854775807 ∧ ∀ i x, xs[i]? = some x → (∃ b off, a = some ⟨b, off, none⟩ ∧ ∀ j v, (k.cells x (hs i))[j]? = some v → w.cell? ⟨b, off + i * k.m + j, none⟩ = some v) ∧ RdI (hs i).1 (k.kid x).length (k.kid x) w
theorem RdR.ext {α : Type} {k : RK α} {a : Option Addr} {n : Nat} {hs : Nat → Hd} {xs : List α} {w w' : World} (h : RdR k a n hs xs w) (he : Ext w w') : RdR k a n hs xs w' :=
  ⟨h.1, h.2.1, fun i x hx => by
    obtain ⟨⟨b, off, ha, hc⟩, hk⟩ := h.2.2 i x hx
    exact ⟨⟨b, off, ha, fun j v hj => he.cell (hc j v hj)⟩, hk.ext he⟩⟩
theorem RdR.kid {α : Type} {k : RK α} {a : Option Addr} {n : Nat} {hs : Nat → Hd} {xs : List α} {w : World} {i : Nat} {x : α} (h : RdR k a n hs xs w) (hx : xs[i]? = some x) : RdI (hs i).1 (k.kid x).length (k.kid x) w := (h.2.2 i x hx).2
theorem RdR.kidM {a : Option Addr} {n : Nat} {hs : Nat → Hd} {xs : List (List Int)} {w : World} {i : Nat} {x : List Int} (h : RdR maK a n hs xs w) (hx : xs[i]? = some x) : RdI (hs i).1 x.length x w := (h.2.2 i x hx).2
/-- Rows, owned. -/
def OwnR {α : Type} (k : RK α) (e e1 : Nat) (a : Option Addr) (n c : Nat) (hs : Nat → Hd) (xs : List α) : World → Prop := fun w =>
  xs.length = n ∧ Own e k.m a n c (rowsV k hs xs).flatten w ∧ (∀ i x, xs[i]? = some x → OwnI e1 (hs i).1 (k.kid x).length (hs i).2 (k.kid x) w) ∧
  (∀ i j b, i < n → j < n → fpO (hs i).1 b → fpO (hs j).1 b → i = j) ∧ (∀ i b, i < n → fpO (hs i).1 b → ¬ fpO a b)
def fpR (a : Option Addr) (hs : Nat → Hd) (n : Nat) : Nat → Prop := fun b => fpO a b ∨ ∃ i, i < n ∧ fpO (hs i).1 b
section
variable {α : Type} {k : RK α} {e e1 : Nat} {a : Option Addr} {n c : Nat} {hs : Nat → Hd} {xs : List α} {w w' : World} {f : Nat → Prop}
theorem OwnR.St (h : OwnR k e e1 a n c hs xs w) (hf : ∀ b, fpR a hs n b → f b) : V.St f (OwnR k e e1 a n c hs xs) w := by
  intro w' ha
  obtain ⟨h0, h1, h2, h3, h4⟩ := h
  refine ⟨h0, (h1.St fun b hb => hf b (.inl hb)) w' ha, fun i x hx => ?_, h3, h4⟩
  have hi : i < n := by rw [← h0]; exact (List.getElem?_eq_some_iff.1 hx).1
  exact (Own.St (h2 i x hx) fun b hb => hf b (.inr ⟨i, hi, hb⟩)) w' ha
theorem OwnR.mem (h : V.St f (OwnR k e e1 a n c hs xs) w) : ∀ b, fpR a hs n b → f b := by
  intro b hb
  rcases hb with hb | ⟨i, hi, hb⟩
  · exact Own.mem (h.imp fun w h => h.2.1) b hb
  · have h0 := h.out.1
    have hx : xs[i]? = some (xs[i]'(by omega)) := List.getElem?_eq_getElem (by omega)
    exact Own.mem (show V.St f (OwnI e1 (hs i).1 (k.kid _).length (hs i).2 (k.kid _)) w from h.imp fun w h => h.2.2.1 i _ hx) b hb
theorem OwnR.cell (h : OwnR k e e1 a n c hs xs w) (hk : k.Ok) {i j : Nat} {x : α} {v : Value} (hx : xs[i]? = some x) (hj : (k.cells x (hs i))[j]? = some v) : ∃ b, a = some ⟨b, 0, none⟩ ∧ w.cell? ⟨b, i * k.m + j, none⟩ = some v :=
  h.2.1.cell (flat_get (rowsV_all hk) (rowsV_get hx) hj)
theorem OwnR.rd (h : OwnR k e e1 a n c hs xs w) (hk : k.Ok) : RdR k a n hs xs w := by
  refine ⟨h.1, h.2.1.max, fun i x hx => ⟨?_, (h.2.2.1 i x hx).rd⟩⟩
  have hpos := hk.pos
  have hlen := hk.len x (hs i)
  obtain ⟨b, hb, _⟩ := h.cell hk hx (j := 0) (v := (k.cells x (hs i))[0]'(by omega)) (List.getElem?_eq_getElem (by omega))
  refine ⟨b, 0, hb, fun j v hj => ?_⟩
  obtain ⟨b', hb', hc⟩ := h.cell hk hx hj
  rw [hb] at hb'; cases hb'
  rw [Nat.zero_add]; exact hc
theorem OwnR.lenx (h : OwnR k e e1 a n c hs xs w) : xs.length = n := h.1
theorem OwnR.nil (k : RK α) (e e1 : Nat) (hs : Nat → Hd) (w : World) : OwnR k e e1 none 0 0 hs [] w := ⟨rfl, Own.nil e k.m w, fun _ _ h => by simp at h, fun _ _ _ h => by omega, fun _ _ h => by omega⟩
/-- Rows whose kids are nil. -/
theorem OwnR.ofZero (hk : k.Ok) {z : α} {zc : List Value} (hz : k.cells z (none, 0) = zc) (hkid : k.kid z = []) {b N : Nat} (h : Own e k.m (some ⟨b, 0, none⟩) N N (List.replicate N zc).flatten w) :
    OwnR k e e1 (some ⟨b, 0, none⟩) N N (fun _ => (none, 0)) (List.replicate N z) w := by
  refine ⟨by simp, ?_, fun i x hx => ?_, (fun i j b hi hj hb => by cases hb), (fun i b hi hb => by cases hb)⟩
  · have : rowsV k (fun _ => (none, 0)) (List.replicate N z) = List.replicate N zc := by
      subst hz
      apply List.ext_getElem?
      intro j
      simp only [rowsV, List.getElem?_mapIdx, List.getElem?_replicate]
      by_cases hj : j < N <;> simp [hj]
    rw [this]; exact h
  · have : x = z := (List.mem_replicate.1 (List.mem_of_getElem? hx)).2
    subst this
    rw [hkid]; exact OwnI.nil e1 w
theorem Own.setN {m k : Nat} {cs news : List Value} {b : Nat} (h : Own e m (some ⟨b, 0, none⟩) n c cs w) (hk : k + news.length ≤ cs.length) :
    ∃ cur : Array Value, w.heap[b]? = some (.cells cur e (0, 0)) ∧ k + news.length ≤ cur.size ∧ Own e m (some ⟨b, 0, none⟩) n c (cs.take k ++ news ++ cs.drop (k + news.length)) (w.setRow b (cur.toList.take k ++ news ++ cur.toList.drop (k + news.length)).toArray) := by
  obtain ⟨hl, h1⟩ := h
  rcases h1 with ⟨h1, _⟩ | ⟨g, cap, cur, hv, hb, hg, hnc, hcm, hcs, ht⟩
  · cases h1
  · cases hv
    have hle : n * m ≤ c * m := Nat.mul_le_mul_right m hnc
    have hsz : cur.toList.length = c * m := by simp [hcs]
    refine ⟨cur, hg, by omega, by simp; omega, .inr ⟨b, c, _, rfl, Nat.zero_le _, setRow_heap w b cur _ e _ hg, hnc, hcm, ?_, ?_⟩⟩
    · simp; omega
    · show List.take (n * m) (cur.toList.take k ++ news ++ cur.toList.drop (k + news.length)) = _
      rw [← ht, List.take_append, List.take_append, List.length_append, List.length_take, List.take_take, List.take_take, List.drop_take]
      rw [show min k cur.toList.length = k from by omega, show min (n * m) k = k from by omega, show min k (n * m) = k from by omega, List.take_of_length_le (l := news) (by omega), show n * m - (k + news.length) = n * m - (k + news.length) from rfl]
end
section
variable {P : Program} {n : Cx} {w0 : World} {M : Nat → Prop} {L L' : List (World → Prop)} {σ : Fr} {K K' : Ko} {c x y : Code} {ops : Array Oper} {S : World → Prop} {r : Sch} {i : Nat}
variable {d : Nat} {t : TypeId} {p : String} {af : Array Edge} {g : Option (Nat × Bool)} {a b : Operand}
variable {α : Type} {k : RK α} {ty e e1 by_ N C : Nat} {ao : Option Addr} {hs : Nat → Hd} {xs : List α} {zc : List Value}
/-- The address of a row, read. -/
theorem ixRq {len cap : Nat} {kk : IntKind} {z : Int} {q : Option Addr} (x : α) (hE : Elt P ty k.m) (hC : ∀ w, S w → RdR k q len hs xs w) (hS : ∀ w, Sep w0 M L w → S w) (ho : ops[i]? = some ⟨some d, .indexAddr ty a b, t, p, af, g⟩) (hg : go ops σ g) (ha : ev σ a = .slice q len cap) (hb : ev σ b = .int kk z) (h0 : 0 ≤ z) (h1 : z < len) {zn : Nat} (hzn : z.toNat = zn) (hx : xs[zn]? = some x)
    (h : ∀ bk off, (∀ w, S w → ∀ j v, (k.cells x (hs zn))[j]? = some v → w.cell? ⟨bk, off + j, none⟩ = some v) → RG P n w0 M ops S L r (upd σ d (.pointer (some ⟨bk, off, none⟩))) K) : RG P n w0 M ops S L (.op .q i r) σ K := by
  subst hzn
  refine rQw (v := fun _ => undef) ho hg (fun u => ∃ bk off, u = .pointer (some ⟨bk, off, none⟩) ∧ ∀ w, S w → ∀ j v, (k.cells x (hs z.toNat))[j]? = some v → w.cell? ⟨bk, off + j, none⟩ = some v) (fun w hw => ?_) ?_
  · obtain ⟨⟨bk, off, hq, hc⟩, _⟩ := (hC w (hS w hw)).2.2 _ x hx
    refine ⟨_, ⟨bk, off + z.toNat * k.m, rfl, fun w' hS' => ?_⟩, fun w' hS' => ?_⟩
    · obtain ⟨⟨bk', off', hq', hc'⟩, _⟩ := (hC w' hS').2.2 _ x hx
      rw [hq] at hq'; cases hq'; exact hc'
    · subst hq
      simp [execOp, ha, hb, run_indexAt (k := kk) (bk := bk) (off := off) (cap := cap) hE h0 h1 w']
  · rintro v ⟨bk, off, rfl, hc⟩; exact h bk off hc
theorem ixRl {len cap : Nat} {kk : IntKind} {z : Int} {q : Option Addr} (x : α) (hE : Elt P ty k.m) (hC : Kn w0 M L (RdR k q len hs xs)) (ho : ops[i]? = some ⟨some d, .indexAddr ty a b, t, p, af, g⟩) (hg : go ops σ g) (ha : ev σ a = .slice q len cap) (hb : ev σ b = .int kk z) (h0 : 0 ≤ z) (h1 : z < len) {zn : Nat} (hzn : z.toNat = zn) (hx : xs[zn]? = some x)
    (h : ∀ bk off, (Kn w0 M L fun w => ∀ j v, (k.cells x (hs zn))[j]? = some v → w.cell? ⟨bk, off + j, none⟩ = some v) → RG P n w0 M ops S L r (upd σ d (.pointer (some ⟨bk, off, none⟩))) K) : RG P n w0 M ops S L (.op .q i r) σ K := by
  subst hzn
  refine rQw (v := fun _ => undef) ho hg (fun u => ∃ bk off, u = .pointer (some ⟨bk, off, none⟩) ∧ Kn w0 M L fun w => ∀ j v, (k.cells x (hs z.toNat))[j]? = some v → w.cell? ⟨bk, off + j, none⟩ = some v) (fun w hw => ?_) ?_
  · obtain ⟨⟨bk, off, hq, hc⟩, _⟩ := (hC w hw).2.2 _ x hx
    refine ⟨_, ⟨bk, off + z.toNat * k.m, rfl, fun w' hS' => ?_⟩, fun w' hS' => ?_⟩
    · obtain ⟨⟨bk', off', hq', hc'⟩, _⟩ := (hC w' hS').2.2 _ x hx
      rw [hq] at hq'; cases hq'; exact hc'
    · subst hq
      simp [execOp, ha, hb, run_indexAt (k := kk) (bk := bk) (off := off) (cap := cap) hE h0 h1 w']
  · rintro v ⟨bk, off, rfl, hc⟩; exact h bk off hc
/-- The address of a row of an owned slice. -/
theorem oxR {cap : Nat} {kk : IntKind} {z : Int} (j : Nat) (hj : L[j]? = some (OwnR k e e1 ao N C hs xs)) (hE : Elt P ty k.m) (ho : ops[i]? = some ⟨some d, .indexAddr ty a b, t, p, af, g⟩) (hg : go ops σ g) (ha : ev σ a = .slice ao N cap) (hb : ev σ b = .int kk z) (h0 : 0 ≤ z) (h1 : z < N) {zn : Nat} (hzn : z.toNat = zn)
    (h : ∀ gk, ao = some ⟨gk, 0, none⟩ → RG P n w0 M ops S L r (upd σ d (.pointer (some ⟨gk, zn * k.m, none⟩))) K) : RG P n w0 M ops S L (.op .q i r) σ K := fun w hs => by
  subst hzn
  obtain ⟨gk, hgk⟩ := (show OwnR k e e1 ao N C _ xs w from hs.at_ j hj).2.1.some_ (by omega)
  exact rQ ho hg (fun w _ => by rw [hgk] at ha; simp [execOp, ha, hb, run_indexAt (k := kk) (bk := gk) (off := 0) (cap := cap) hE h0 h1 w]) (h gk hgk) w hs
/-- 'make' of rows. -/
theorem mksR {kk : IntKind} {z : Int} (N : Nat) (x : α) (hk : k.Ok) (hx : k.cells x (none, 0) = zc) (hkid : k.kid x = []) (hM : Mk P ty e k.m by_ zc) (hS : ∀ bk w, Sep w0 M (OwnR k e e1 (some ⟨bk, 0, none⟩) N N (fun _ => (none, 0)) (List.replicate N x) :: L) w → S w) (ho : ops[i]? = some ⟨some d, .makeSlice ty a b, t, p, af, g⟩) (hg : go ops σ g) (ha : ev σ a = .int kk z) (hb : ev σ b = .int kk z) (hz : z = (N : Int)) (hN : by_ * N ≤ 140737488355328)
    (h : ∀ bk, w0.heap.size ≤ bk → RG P n w0 M ops S (OwnR k e e1 (some ⟨bk, 0, none⟩) N N (fun _ => (none, 0)) (List.replicate N x) :: L) r (upd σ d (.slice (some ⟨bk, 0, none⟩) N N)) K) : RG P n w0 M ops S L (.op .l i r) σ K := by
  have conv : ∀ {bk : Nat} {w : World}, Sep w0 M (Own e k.m (some ⟨bk, 0, none⟩) N N (List.replicate N zc).flatten :: L) w → Sep w0 M (OwnR k e e1 (some ⟨bk, 0, none⟩) N N (fun _ => (none, 0)) (List.replicate N x) :: L) w := fun hs =>
    hs.imp 0 rfl fun w ho => OwnR.ofZero hk hx hkid ho
  exact mks N hM (fun bk w hw => hS bk w (conv hw)) ho hg ha hb hz hN fun bk hbk w hw => h bk hbk w (conv hw)
end
end Go.Proofs.Yteaahdakammffaa.V
/- The engine, part 10: rows appended; parts of slices; arrays behind pointers; odds and ends. No condition. -/
namespace Go.Proofs.Yteaahdakammffaa.V
open Go Go.RowKit
set_option linter.unusedVariables false
set_option linter.unusedSimpArgs false
theorem knP {w0 : World} {M : Nat → Prop} {L L' : List (World → Prop)} {φ : World → Prop} (hL : ∀ w, Sep w0 M L w → Sep w0 M L' w) (h : Kn w0 M L' φ) : Kn w0 M L φ := fun w hs => h w (hL w hs)
section
variable {w0 : World} {M : Nat → Prop} {L : List (World → Prop)}
theorem Sep.litR {α : Type} (k : RK α) (e e1 : Nat) (hs : Nat → Hd) {bk : Nat} {w : World} (h : Sep w0 M L w) (j : Nat) (hj : L[j]? = some (blk bk e [])) : Sep w0 M (L.set j (OwnR k e e1 (some ⟨bk, 0, none⟩) 0 0 hs [])) w :=
  h.imp j hj fun w hb => ⟨rfl, ⟨by simp [rowsV], .inr ⟨bk, 0, #[], rfl, Nat.zero_le _, hb, Nat.le_refl _, Nat.zero_le _, by simp, by simp [rowsV]⟩⟩, fun _ _ h => by simp at h, fun _ _ _ h => by omega, fun _ _ h => by omega⟩
theorem RdI.lit {bk e n : Nat} {vs : List Value} {zs : List Int} {w : World} (h : blk bk e vs w) (hv : vs = iv zs) (hn : zs.length = n) (hb : Nat.ble n 1000 = true) : RdI (some ⟨bk, 0, none⟩) n zs w := by subst hv; exact ⟨hn, by have := Nat.le_of_ble_eq_true hb; omega, CellsAt.blk h⟩
theorem RdR.nil {α : Type} (k : RK α) (a : Option Addr) (hs : Nat → Hd) (w : World) : RdR k a 0 hs [] w := ⟨rfl, by decide, fun i x h => by simp at h⟩
/-- Some cells of a block known whole. -/
theorem cBp (j : Nat) {bk e o m : Nat} {cs vs : List Value} (hj : L[j]? = some (blk bk e cs)) (hv : (cs.drop o).take m = vs) : Kn w0 M L fun w => ∀ k v, vs[k]? = some v → w.cell? ⟨bk, o + k, none⟩ = some v := fun w hs k v hk => by
  subst hv
  refine (hs.at_ j hj).cell ?_
  have hlt := (List.getElem?_eq_some_iff.1 hk).1
  rw [List.getElem?_take_of_lt (by simp at hlt; omega), List.getElem?_drop] at hk
  exact hk
end
/-- An array type. -/
def Arr (P : Program) (ty n m : Nat) : Prop := ∃ e, (∀ w, (underlying ty).run P w = .ok (.array n e) w) ∧ ∀ w, (sizeOf e).run P w = .ok m w
section
variable {P : Program} {n : Cx} {w0 : World} {M : Nat → Prop} {L L' : List (World → Prop)} {σ : Fr} {K K' : Ko} {c x y : Code} {ops : Array Oper} {S : World → Prop} {r : Sch} {i : Nat}
variable {d : Nat} {t : TypeId} {p : String} {af : Array Edge} {g : Option (Nat × Bool)} {a b : Operand}
variable {α : Type} {k : RK α} {ty e e1 by_ N C : Nat} {ao : Option Addr} {hs : Nat → Hd} {xs : List α} {zc : List Value} {zs : List Int}
/-- The end of an owned slice, to be read. -/
theorem slLol {z : Int} {kk : IntKind} (j : Nat) (hj : L[j]? = some (OwnI e ao N C zs)) (hE : Elt P ty 1) (ho : ops[i]? = some ⟨some d, .slice ty a (some b) none none, t, p, af, g⟩) (hg : go ops σ g) (ha : ev σ a = .slice ao N C) (hb : ev σ b = .int kk z) (h0 : 0 ≤ z) (h1 : z ≤ N) {zn : Nat} (hzn : z.toNat = zn)
    (h : ∀ q', (Kn w0 M L (RdI q' (N - zn) (zs.drop zn))) → RG P n w0 M ops S L r (upd σ d (.slice q' (N - zn) (C - zn))) K) : RG P n w0 M ops S L (.op .q i r) σ K := by
  subst hzn
  obtain ⟨e', he, hs⟩ := hE
  refine rQ (v := .slice (if C = z.toNat then ao else ao.map (·.add (z.toNat * 1))) (N - z.toNat) (C - z.toNat)) ho hg (fun w hw => ?_) (h _ fun w hw => ?_)
  · simp [execOp, ha, hb, Instr.sliceAt, Instr.slice, Instr.sliceBounds, Instr.sliceBound, asIntOf, he w, hs w, h0, h1]
  · have hown : OwnI e ao N C zs w := hw.at_ j hj
    obtain ⟨hl, hm, hc⟩ := hown.rd
    refine ⟨by rw [List.length_drop, hl], by omega, fun k v hk => ?_⟩
    rw [show iv (zs.drop z.toNat) = (iv zs).drop z.toNat from by simp [iv, List.map_drop], List.getElem?_drop] at hk
    obtain ⟨bk, off, hq, hcell⟩ := hc _ v hk
    have hlt := (List.getElem?_eq_some_iff.1 hk).1
    rw [iv_len, hl] at hlt
    have hNC : N ≤ C := by
      rcases hown.2 with ⟨hv, h0'⟩ | ⟨g', cap, cur, hv, _, _, hnc, _⟩
      · omega
      · cases hv; exact hnc
    rw [if_neg (by omega), hq]
    exact ⟨bk, off + z.toNat, by simp [add_addr], by rw [Nat.add_assoc]; exact hcell⟩
/-- 'append' of one row that lies in a literal, with what it leads to. -/
theorem apR {hd : Hd} {x : α} {lb le lc nn : Nat} {cs : List Value} (j q i' : Nat) (hk : k.Ok) (hj : L[j]? = some (OwnR k e e1 ao N C hs xs)) (hq : (L.eraseIdx j)[q]? = some (OwnI e1 hd.1 nn hd.2 (k.kid x))) (hi : L[i']? = some (blk lb le cs)) (hcs : nn = (k.kid x).length → cs = k.cells x hd) (hM : Mk P ty e k.m by_ zc) (hS : ∀ (u : Option Addr × Nat) w, Sep w0 M (OwnR k e e1 u.1 (N + 1) u.2 (hset hs xs.length hd) (xs ++ [x]) :: (L.eraseIdx j).eraseIdx q) w → S w)
    (ho : ops[i]? = some ⟨some d, .call ⟨.builtin .append, #[a, b], #[ty, ty]⟩, t, p, af, g⟩) (hg : go ops σ g) (ha : ev σ a = .slice ao N C) (hb : ev σ b = .slice (some ⟨lb, 0, none⟩) 1 lc) (hN : (N + 1) * by_ ≤ 140737488355328)
    (h : ∀ a' c', RG P n w0 M ops S (OwnR k e e1 a' (N + 1) c' (hset hs xs.length hd) (xs ++ [x]) :: (L.eraseIdx j).eraseIdx q) r (upd σ d (.slice a' (N + 1) c')) K) : RG P n w0 M ops S L (.op .l i r) σ K :=
  rL (α := Option Addr × Nat) (good := fun _ => True) (Lx := fun u => OwnR k e e1 u.1 (N + 1) u.2 (hset hs xs.length hd) (xs ++ [x]) :: (L.eraseIdx j).eraseIdx q) (v := fun u => .slice u.1 (N + 1) u.2) hS ho hg (fun w hsep => by
    have hrow : OwnR k e e1 ao N C hs xs w := hsep.at_ j hj
    have hnn : OwnI e1 hd.1 nn hd.2 (k.kid x) w := ((hsep.perm (pull hj)).tail).at_ q hq
    have hnn := hnn.lenz
    subst hnn
    obtain rfl := hcs rfl
    have hlit := hsep.at_ i' hi
    have hp := (hsep.perm (pull hj)).perm ((pull hq).cons _)
    have hlen := hrow.lenx
    obtain ⟨g', cap, w', hr, ho', hup, hg'⟩ := run_append_fp hM hrow.2.1 (ad := ⟨lb, 0, none⟩) (c' := lc) (news := k.cells x hd) t (hk.len x hd) (fun q u hq => by rw [add_addr, Nat.zero_add]; exact hlit.cell hq) (hk.one x hd) hN
    unfold opw
    simp only [execOp, resolve, invoke, builtin, Sem.run_bind, Sem.run_pure, Result.andThen_ok, List.map_toArray, List.map_cons, List.map_nil, ha, hb, hr]
    refine ⟨(some ⟨g', 0, none⟩, cap), trivial, hp.fuse fun f g2 hf hg2 hfg => ?_, rfl⟩
    obtain ⟨h0, h1, h2, h3, h4⟩ := hf.out
    have hkid := hg2.out
    have mf := OwnR.mem hf
    have mg := Own.mem hg2
    -- the blocks of the kids, old and new, are not the rows' block
    have far : ∀ b, (b < w.heap.size) → ¬ fpO ao b → b ≠ g' := fun b hb hn e => by
      subst e
      rcases hg' with h | h
      · exact hn h
      · exact absurd hb (Nat.not_lt_of_le h.1)
    have keep : ∀ {hd' : Hd} {zs : List Int} {nn : Nat}, OwnI e1 hd'.1 nn hd'.2 zs w → (∀ q, fpO hd'.1 q → ¬ fpO ao q) → OwnI e1 hd'.1 nn hd'.2 zs w' := fun ho hq =>
      (Own.St (f := fpO _) ho fun _ h => h) _ fun q hq' => hup.block q (Own.lt ho q hq') (hq q hq')
    refine ⟨fun q => f q ∨ g2 q ∨ q = g', fun q hq => ?_, OwnR.St ⟨by simp [hlen], ?_, fun i y hy => ?_, fun i i' b hi hi' hb hb' => ?_, fun i b hi hb hab => ?_⟩ fun b hb => ?_, hup.mono fun q _ hq => .inl (mf q (.inl hq))⟩
    · rcases hq with hq | hq | rfl
      · exact .inl hq
      · exact .inr (.inl hq)
      · rcases hg' with h | h
        · exact .inl (mf _ (.inl h))
        · exact .inr (.inr h)
    · rw [rowsV_app, List.flatten_append]
      simpa using ho'
    · rcases Nat.lt_or_ge i xs.length with hi | hi
      · rw [List.getElem?_append_left hi] at hy
        rw [hset_other hs hd (show i ≠ xs.length by omega)]
        exact keep (h2 i y hy) fun q hq hqa => h4 i q (by omega) hq hqa
      · have hix : i = xs.length := by
          have := (List.getElem?_eq_some_iff.1 hy).1
          simp at this; omega
        subst hix
        rw [List.getElem?_append_right (Nat.le_refl _)] at hy
        simp at hy; subst hy
        rw [hset_same]
        exact keep hkid fun q hq hqa => hfg q (mf q (.inl hqa)) (mg q hq)
    · by_cases h5 : i = xs.length <;> by_cases h6 : i' = xs.length
      · omega
      · subst h5; rw [hset_same] at hb; rw [hset_other hs hd h6] at hb'
        exact absurd (mg b hb) (hfg b (mf b (.inr ⟨i', by omega, hb'⟩)))
      · subst h6; rw [hset_same] at hb'; rw [hset_other hs hd h5] at hb
        exact absurd (mg b hb') (hfg b (mf b (.inr ⟨i, by omega, hb⟩)))
      · rw [hset_other hs hd h5] at hb; rw [hset_other hs hd h6] at hb'; exact h3 i i' b (by omega) (by omega) hb hb'
    · have hbg : b = g' := by unfold fpO at hab; cases hab; rfl
      by_cases h5 : i = xs.length
      · subst h5; rw [hset_same] at hb
        exact far b (Own.lt hkid b hb) (fun hba => hfg b (mf b (.inl hba)) (mg b hb)) hbg
      · rw [hset_other hs hd h5] at hb
        have hx : xs[i]? = some (xs[i]'(by omega)) := List.getElem?_eq_getElem (by omega)
        exact far b (Own.lt (h2 i _ hx) b hb) (h4 i b (by omega) hb) hbg
    · rcases hb with hb | ⟨i, hi, hb⟩
      · unfold fpO at hb; cases hb; exact .inr (.inr rfl)
      · by_cases h5 : i = xs.length
        · subst h5; rw [hset_same] at hb; exact .inr (.inl (mg b hb))
        · rw [hset_other hs hd h5] at hb; exact .inl (mf b (.inr ⟨i, by omega, hb⟩))) (fun u _ => h u.1 u.2)
end
end Go.Proofs.Yteaahdakammffaa.V
/- The engine, part 11: pieces that are handed over to be turned; rows turned in part. No condition. -/
namespace Go.Proofs.Yteaahdakammffaa.V
open Go Go.RowKit
set_option linter.unusedVariables false
set_option linter.unusedSimpArgs false
section
variable {w0 : World} {M : Nat → Prop} {L Lf Lr : List (World → Prop)} {w w' : World} {B T : Nat}
theorem SepL.split : ∀ {Lf : List (World → Prop)} {fs : List (Nat → Prop)}, SepL M B T fs (Lf ++ Lr) w → ∃ fsf fsr, fs = fsf ++ fsr ∧ SepL M B T fsf Lf w ∧ SepL M B T fsr Lr w ∧ ∀ f ∈ fsf, ∀ g ∈ fsr, ∀ k, f k → ¬ g k
  | [], fs, h => ⟨[], fs, rfl, trivial, h, fun _ hf => by cases hf⟩
  | φ :: Lf, [], h => h.elim
  | φ :: Lf, f :: fs, h => by
    obtain ⟨h1, h2, h3, h4⟩ := h
    obtain ⟨fsf, fsr, rfl, a, b, c⟩ := SepL.split h4
    refine ⟨f :: fsf, fsr, rfl, ⟨h1, fun g hg => h2 g (List.mem_append_left _ hg), h3, a⟩, b, fun q hq g hg k hk => ?_⟩
    rcases List.mem_cons.1 hq with rfl | hq
    · exact h2 g (List.mem_append_right _ hg) k hk
    · exact c q hq g hg k hk
theorem SepL.glue : ∀ {Lf : List (World → Prop)} {fsf fsr : List (Nat → Prop)}, SepL M B T fsf Lf w → SepL M B T fsr Lr w → (∀ f ∈ fsf, ∀ g ∈ fsr, ∀ k, f k → ¬ g k) → SepL M B T (fsf ++ fsr) (Lf ++ Lr) w
  | [], [], _, _, h, _ => h
  | [], _ :: _, _, h, _, _ => h.elim
  | _ :: _, [], _, h, _, _ => h.elim
  | φ :: Lf, f :: fsf, fsr, h, h', hd => by
    obtain ⟨h1, h2, h3, h4⟩ := h
    refine ⟨h1, fun g hg k hk => ?_, h3, SepL.glue h4 h' fun f hf => hd f (List.mem_cons_of_mem _ hf)⟩
    rcases List.mem_append.1 hg with hg | hg
    · exact h2 g hg k hk
    · exact hd f List.mem_cons_self g hg k hk
theorem SepL.bounds {M' : Nat → Prop} {B' T' : Nat} : ∀ {L : List (World → Prop)} {fs : List (Nat → Prop)}, SepL M B T fs L w → (∀ f ∈ fs, ∀ k, f k → (B' ≤ k ∨ M' k) ∧ k < T') → SepL M' B' T' fs L w
  | [], [], _, _ => trivial
  | [], _ :: _, h, _ => h.elim
  | _ :: _, [], h, _ => h.elim
  | φ :: L, f :: fs, h, hb => ⟨fun k hk => hb f List.mem_cons_self k hk, h.2.1, h.2.2.1, SepL.bounds h.2.2.2 fun g hg => hb g (List.mem_cons_of_mem _ hg)⟩
/-- The first pieces by themselves: whoever turns them, and makes memory, leaves the rest. -/
theorem Sep.focus (h : Sep w0 M (Lf ++ Lr) w) : ∃ M0, Sep w M0 Lf w ∧ ∀ (L' : List (World → Prop)) (w' : World), Sep w M0 L' w' → Sep w0 M (L' ++ Lr) w' := by
  obtain ⟨h1, fs, h2⟩ := h
  obtain ⟨fsf, fsr, rfl, ha, hb, hd⟩ := h2.split
  refine ⟨fun k => ∃ f ∈ fsf, f k, ⟨.refl _ _, fsf, ha.bounds fun f hf k hk => ⟨.inr ⟨f, hf, hk⟩, (ha.fp_lt f hf k hk).2⟩⟩, fun L' w' h' => ?_⟩
  obtain ⟨hu, fs', h3⟩ := h'
  refine ⟨⟨hu.os.trans h1.os, hu.tape.trans h1.tape, hu.output.trans h1.output, Nat.le_trans h1.size hu.size, fun k hk hm => ?_⟩, fs' ++ fsr, SepL.glue (h3.bounds fun f hf k hk => ?_) ?_ fun f hf g hg k hk hgk => ?_⟩
  · rw [hu.block k (Nat.lt_of_lt_of_le hk h1.size) fun ⟨f, hf, hfk⟩ => ?_]
    · exact h1.block k hk hm
    · rcases (ha.fp_lt f hf k hfk).1 with h | h
      · exact Nat.not_le_of_lt hk h
      · exact hm h
  · obtain ⟨h4, h5⟩ := h3.fp_lt f hf k hk
    refine ⟨?_, h5⟩
    rcases h4 with h4 | ⟨q, hq, hqk⟩
    · exact .inl (Nat.le_trans h1.size h4)
    · exact (ha.fp_lt q hq k hqk).1
  · exact (hb.keep (T' := w'.heap.size) hu.size fun g hg k hk => hu.block k (hb.fp_lt g hg k hk).2 fun ⟨f, hf, hfk⟩ => hd f hf g hg k hfk hk)
  · rcases (h3.fp_lt f hf k hk).1 with h4 | ⟨q, hq, hqk⟩
    · exact Nat.not_le_of_lt (hb.fp_lt g hg k hgk).2 h4
    · exact hd q hq g hg k hqk hgk
end
/-- Rows of which one is lent out. -/
def OwnH {α : Type} (k : RK α) (e e1 : Nat) (a : Option Addr) (n c : Nat) (hs : Nat → Hd) (xs : List α) (q : Nat) : World → Prop := fun w =>
  xs.length = n ∧ Own e k.m a n c (rowsV k hs xs).flatten w ∧ (∀ i x, i ≠ q → xs[i]? = some x → OwnI e1 (hs i).1 (k.kid x).length (hs i).2 (k.kid x) w) ∧
  (∀ i j b, i < n → j < n → fpO (hs i).1 b → fpO (hs j).1 b → i = j) ∧ (∀ i b, i < n → fpO (hs i).1 b → ¬ fpO a b)
section
variable {α : Type} {k : RK α} {e e1 : Nat} {a : Option Addr} {n c q : Nat} {hs : Nat → Hd} {xs : List α} {x : α} {w0 w w' : World} {M : Nat → Prop} {L : List (World → Prop)}
theorem OwnH.St {f : Nat → Prop} (h : OwnH k e e1 a n c hs xs q w) (hf : ∀ b, fpR a hs n b → (q < n → ¬ fpO (hs q).1 b) → f b) : V.St f (OwnH k e e1 a n c hs xs q) w := by
  intro w' ha
  obtain ⟨h0, h1, h2, h3, h4⟩ := h
  refine ⟨h0, (h1.St fun b hb => hf b (.inl hb) fun hq hb' => h4 q b hq hb' hb) w' ha, fun i x hi hx => ?_, h3, h4⟩
  have hin : i < n := by rw [← h0]; exact (List.getElem?_eq_some_iff.1 hx).1
  exact (Own.St (h2 i x hi hx) fun b hb => hf b (.inr ⟨i, hin, hb⟩) fun hq hb' => hi (h3 i q b hin hq hb hb')) w' ha
theorem OwnH.mem {f : Nat → Prop} (h : V.St f (OwnH k e e1 a n c hs xs q) w) : ∀ b, fpR a hs n b → (q < n → ¬ fpO (hs q).1 b) → f b := by
  intro b hb hn
  rcases hb with hb | ⟨i, hi, hb⟩
  · exact Own.mem (h.imp fun w h => h.2.1) b hb
  · have h0 := h.out.1
    have hiq : i ≠ q := fun e => by subst e; exact hn hi hb
    have hx : xs[i]? = some (xs[i]'(by omega)) := List.getElem?_eq_getElem (by omega)
    exact Own.mem (show V.St f (OwnI e1 (hs i).1 (k.kid _).length (hs i).2 (k.kid _)) w from h.imp fun w h => h.2.2.1 i _ hiq hx) b hb
/-- .. and handed back, turned. -/
theorem Sep.back {nn : Nat} {zs' : List Int} (x' : α) (hk : k.Ok) (h : Sep w0 M (OwnI e1 (hs q).1 nn (hs q).2 zs' :: OwnH k e e1 a n c hs xs q :: L) w) (hx : xs[q]? = some x) (hc : zs'.length = nn → nn = (k.kid x).length → k.cells x' (hs q) = k.cells x (hs q)) (hkid : k.kid x' = zs') (hnn : nn = (k.kid x).length) : Sep w0 M (OwnR k e e1 a n c hs (xs.set q x') :: L) w := by
  refine h.fuse fun f g hf hg hfg => ?_
  obtain ⟨h0, h1, h2, h3, h4⟩ := hg.out
  have hq : q < n := by rw [← h0]; exact (List.getElem?_eq_some_iff.1 hx).1
  have hlen := (show OwnI e1 (hs q).1 nn (hs q).2 zs' w from hf.out).lenz
  have mf := Own.mem hf
  have mg := OwnH.mem hg
  refine ⟨fun b => f b ∨ g b, fun b hb => hb.elim .inl (.inr ∘ .inl), OwnR.St ⟨by simpa using h0, ?_, fun i y hy => ?_, h3, h4⟩ fun b hb => ?_, .refl _ _⟩
  · rw [rowsV_same (by omega), hc hlen hnn]
    have : (rowsV k hs xs).set q (k.cells x (hs q)) = rowsV k hs xs := by
      apply List.ext_getElem?
      intro j
      by_cases hj : q = j
      · subst hj; rw [List.getElem?_set_self (by rw [rowsV_len]; omega), rowsV_get hx]
      · rw [List.getElem?_set_ne hj]
    rw [this]; exact h1
  · by_cases hi : i = q
    · subst hi
      rw [List.getElem?_set_self (by omega)] at hy
      cases hy
      rw [hkid, hlen]; exact hf.out
    · rw [List.getElem?_set_ne (Ne.symm hi)] at hy
      exact h2 i y hi hy
  · by_cases hb' : fpO (hs q).1 b
    · exact .inl (mf b hb')
    · exact .inr (mg b hb fun _ => hb')
/-- A row's own cell is turned. -/
theorem OwnR.setCell (hk : k.Ok) {b f : Nat} {x' : α} {v : Value} (h : OwnR k e e1 (some ⟨b, 0, none⟩) n c hs xs w) (hx : xs[q]? = some x) (hc : k.cells x' (hs q) = (k.cells x (hs q)).set f v) (hf : f < k.m) (hkid : k.kid x' = k.kid x) :
    ∃ cur : Array Value, w.heap[b]? = some (.cells cur e (0, 0)) ∧ q * k.m + f + 1 ≤ cur.size ∧ OwnR k e e1 (some ⟨b, 0, none⟩) n c hs (xs.set q x') (w.setRow b (cur.toList.take (q * k.m + f) ++ [v] ++ cur.toList.drop (q * k.m + f + 1)).toArray) := by
  obtain ⟨h0, h1, h2, h3, h4⟩ := h
  have hq : q < n := by rw [← h0]; exact (List.getElem?_eq_some_iff.1 hx).1
  have hfl : (rowsV k hs xs).flatten.length = n * k.m := h1.len
  have hle := Nat.mul_le_mul_right k.m (show q + 1 ≤ n from hq)
  rw [Nat.succ_mul] at hle
  obtain ⟨cur, hc1, hsz, hown⟩ := h1.setN (k := q * k.m + f) (news := [v]) (by simp only [hfl, List.length_cons, List.length_nil]; omega)
  simp only [List.length_cons, List.length_nil, Nat.zero_add] at hsz hown
  refine ⟨cur, hc1, hsz, by simpa using h0, ?_, fun i y hy => ?_, h3, h4⟩
  · have hset : (rowsV k hs (xs.set q x')).flatten = (rowsV k hs xs).flatten.set (q * k.m + f) v := by
      have hall := rowsV_all (hs := hs) (xs := xs) hk
      have hrow := flat_set hall (hk.len x (hs q)) (i := q) (by rw [rowsV_len]; omega)
      have hsame : (rowsV k hs xs).set q (k.cells x (hs q)) = rowsV k hs xs := by
        apply List.ext_getElem?
        intro j
        by_cases hj : q = j
        · subst hj; rw [List.getElem?_set_self (by rw [rowsV_len]; omega), rowsV_get hx]
        · rw [List.getElem?_set_ne hj]
      rw [hsame] at hrow
      have hl1 : (List.take (q * k.m) (rowsV k hs xs).flatten).length = q * k.m := by rw [List.length_take, hfl]; omega
      have key : ∀ (A B C : List Value), A.length = q * k.m → f < B.length → (A ++ B ++ C).set (q * k.m + f) v = A ++ B.set f v ++ C := by
        intro A B C hA hB
        rw [List.append_assoc, List.set_append_right _ _ (by omega), show q * k.m + f - A.length = f from by omega, List.set_append_left _ _ hB, List.append_assoc]
      rw [rowsV_same (by omega), hc, flat_set hall (by rw [List.length_set, hk.len]) (by rw [rowsV_len]; omega)]
      conv => rhs; rw [hrow]
      rw [key _ _ _ hl1 (by rw [hk.len]; exact hf)]
    rw [hset, List.set_eq_take_append_cons_drop, if_pos (by omega)]
    simpa using hown
  · have keep : ∀ {hd' : Hd} {zs : List Int} {nn : Nat}, OwnI e1 hd'.1 nn hd'.2 zs w → (∀ q, fpO hd'.1 q → ¬ q = b) → OwnI e1 hd'.1 nn hd'.2 zs (w.setRow b (cur.toList.take (q * k.m + f) ++ [v] ++ cur.toList.drop (q * k.m + f + 1)).toArray) := fun ho hq =>
      (Own.St (f := fpO _) ho fun _ h => h) _ fun r hr => setRow_other w b r _ (hq r hr)
    by_cases hi : i = q
    · subst hi
      rw [List.getElem?_set_self (by omega)] at hy
      cases hy
      rw [hkid]
      exact keep (h2 i x hx) fun r hr hrb => h4 i r hq hr (by rw [hrb]; rfl)
    · rw [List.getElem?_set_ne (Ne.symm hi)] at hy
      have hin : i < n := by rw [← h0]; exact (List.getElem?_eq_some_iff.1 hy).1
      exact keep (h2 i y hy) fun r hr hrb => h4 i r hin hr (by rw [hrb]; rfl)
end
section
variable {P : Program} {n : Cx} {w0 : World} {M : Nat → Prop} {L L' Lf Lr : List (World → Prop)} {σ : Fr} {K K' : Ko} {c x y : Code} {ops : Array Oper} {S : World → Prop} {r : Sch} {i : Nat}
variable {d : Nat} {t : TypeId} {p : String} {af : Array Edge} {g : Option (Nat × Bool)} {a b : Operand}
/-- One cell of a row is stored. -/
theorem stRc {α : Type} {k : RK α} {ty e e1 N C gk off f : Nat} {ao : Option Addr} {hs : Nat → Hd} {xs : List α} {v : Value} (x x' : α) (ro j : Nat) (hk : k.Ok) (hj : L[j]? = some (OwnR k e e1 ao N C hs xs)) (hao : ao = some ⟨gk, 0, none⟩) (hx : xs[ro]? = some x) (hc : k.cells x' (hs ro) = (k.cells x (hs ro)).set f v) (hkid : k.kid x' = k.kid x) (hz : Size P ty 1) (hS : ∀ w, Sep w0 M (L.set j (OwnR k e e1 ao N C hs (xs.set ro x'))) w → S w)
    (ho : ops[i]? = some ⟨none, .store ty a b, t, p, af, g⟩) (hg : go ops σ g) (ha : ev σ a = .pointer (some ⟨gk, off, none⟩)) (hoff : off = ro * k.m + f) (hf : f < k.m) (hb : ev σ b = v) (hv : v.oneCell' = true)
    (h : RG P n w0 M ops S (L.set j (OwnR k e e1 ao N C hs (xs.set ro x'))) r σ K) : RG P n w0 M ops S L (.op .l i r) σ K :=
  rL1 (v := undef) hS ho hg (fun w hsep => by
    subst hao
    subst hoff
    have hrow : OwnR k e e1 (some ⟨gk, 0, none⟩) N C hs xs w := hsep.at_ j hj
    obtain ⟨cur, hcur, hsz, hnew⟩ := hrow.setCell hk hx hc hf hkid
    have hc1 : v.cells = #[v] := by cases v <;> first | rfl | cases hv
    have hst := run_storeCells_at P gk (ro * k.m + f) e [v] 0 cur w hcur (by simpa using hsz) (by simpa using hv)
    have hr : (Instr.storeAt ty (.pointer (some ⟨gk, ro * k.m + f, none⟩)) v).run P w = .ok () (w.setRow gk (cur.toList.take (ro * k.m + f) ++ [v] ++ cur.toList.drop (ro * k.m + f + 1)).toArray) := by
      simp only [Instr.storeAt, Instr.sureAddr, storeVar, hz w, hc1, Sem.run_bind, Sem.run_pure, Result.andThen_ok]
      simpa using hst
    unfold opw
    simp only [execOp, ha, hb, Sem.run_bind, hr, Result.andThen_ok, Sem.run_pure]
    refine ⟨hsep.change j hj fun f' hf' => ⟨f', fun _ h => .inl h, ?_, ⟨rfl, rfl, rfl, by simp, fun q _ hn => setRow_other w gk q _ fun e => hn (e ▸ OwnR.mem hf' gk (.inl rfl))⟩⟩, by first | trivial | rfl⟩
    exact OwnR.St hnew fun b hb => OwnR.mem hf' b hb) h
theorem rKnow {φ : Prop} (hk : ∀ w, Sep w0 M L w → φ) (h : φ → RG P n w0 M ops S L r σ K) : RG P n w0 M ops S L r σ K := fun w hs => h (hk w hs) w hs
end
end Go.Proofs.Yteaahdakammffaa.V
/- The engine, part 12: a list appended whole; a slice compared with nil. No condition. -/
namespace Go.Proofs.Yteaahdakammffaa.V
open Go Go.RowKit
set_option linter.unusedVariables false
set_option linter.unusedSimpArgs false
section
variable {P : Program} {ty e by_ : Nat} {zc : List Value}
theorem run_append_none_any (w : World) (t tyr e : TypeId) (i : TypeInfo) (base size : Nat) (ht : P.underlying t = some (.slice e)) (hi : P.info? e = some i) (v : Value) (n : Nat) (xs : List Value) (hown : w.ownsRow base e size v n xs) (cq : Nat) :
    (Builtin.append_ #[t, t] tyr #[v, .slice none 0 cq]).run P w = .ok v w := by
  rcases hown.2 with ⟨rfl, rfl⟩ | ⟨g, cap, cur, rfl, _, _, hnc, _⟩
  · simp [Builtin.append_, run_underlying ht, sizeOf, typeInfo, hi, Builtin.lenOf, Builtin.firstCells]
  · simp [Builtin.append_, run_underlying ht, sizeOf, typeInfo, hi, Builtin.lenOf, Builtin.firstCells, hnc, storeCells]
theorem run_append_list {w : World} (hM : Mk P ty e 1 by_ zc) {n c k cq : Nat} {ao q : Option Addr} {xs news : List Value} (hown : Own e 1 ao n c xs w) (tyr : TypeId) (hlen : news.length = k) (hc : CellsAt q news w) (h1 : ∀ u ∈ news, u.oneCell' = true) (hN : (n + k) * by_ ≤ 140737488355328) :
    ∃ a' c' w', (Builtin.append_ #[ty, ty] tyr #[.slice ao n c, .slice q k cq]).run P w = .ok (.slice a' (n + k) c') w' ∧ Own e 1 a' (n + k) c' (xs ++ news) w' ∧ Upd (fpO ao) w w' ∧ (∀ g', fpO a' g' → fpO ao g' ∨ New w w' g') := by
  obtain ⟨hu, inf, zv, hi, hz0, hs, hby, hzc, hm, hm0, hb0⟩ := hM
  have hN63 : n + k ≤ maxLen := by
    have : n + k ≤ (n + k) * by_ := Nat.le_mul_of_pos_right _ hb0
    simp only [maxLen]; omega
  have hzs : zv.cells.size = 1 := by rw [hzc]; simpa using hm
  have hl : news.length = k * 1 := by omega
  cases q with
  | none =>
    have hn0 : news = [] := by
      cases news with
      | nil => rfl
      | cons x l => obtain ⟨b, off, h, _⟩ := hc 0 x rfl; cases h
    subst hn0
    have hk0 : k = 0 := by simpa using hlen.symm
    subst hk0
    have hr := run_append_none_any (P := P) w ty tyr e inf 0 1 hu hi (.slice ao n c) n xs hown cq
    exact ⟨ao, c, w, hr, by rw [List.append_nil]; exact hown, Upd.refl _ _, fun g' h => .inl h⟩
  | some ad =>
    have hnews : ∀ j u, news[j]? = some u → w.cell? (ad.add j) = some u := fun j u hj => by
      obtain ⟨b, off, h, hc'⟩ := hc j u hj
      cases h
      rw [Addr.add_lit]; exact hc'
    have fin : ∀ (v' : Value) (w' : World), (Builtin.append_ #[ty, ty] tyr #[.slice ao n c, .slice (some ad) k cq]).run P w = .ok v' w' → w'.ownsRow w.heap.size e 1 v' (n + k) (xs ++ news) → Upd (fpO ao) w w' →
        ∃ a' c' w', (Builtin.append_ #[ty, ty] tyr #[.slice ao n c, .slice (some ad) k cq]).run P w = .ok (.slice a' (n + k) c') w' ∧ Own e 1 a' (n + k) c' (xs ++ news) w' ∧ Upd (fpO ao) w w' ∧ (∀ g', fpO a' g' → fpO ao g' ∨ New w w' g') := by
      intro v' w' hr ho hup
      obtain ⟨hl', h2⟩ := ho
      rcases h2 with ⟨hv, h0⟩ | ⟨g', cap, cur, rfl, hb, hg, hnc, hcm, hcs, ht⟩
      · subst hv
        rw [h0] at hl' ⊢
        exact ⟨none, 0, w', hr, ⟨hl', .inl ⟨rfl, rfl⟩⟩, hup, fun g' h => by cases h⟩
      · exact ⟨some ⟨g', 0, none⟩, cap, w', hr, ⟨hl', .inr ⟨g', cap, cur, rfl, Nat.zero_le _, hg, hnc, hcm, hcs, ht⟩⟩, hup, fun g2 h => by
          unfold fpO at h; cases h
          exact .inr ⟨hb, (Array.getElem?_eq_some_iff.1 hg).1⟩⟩
    have up : ∀ {w' : World} {row : Option Nat}, w.grownBy w' row → (∀ k, row = some k → fpO ao k) → Upd (fpO ao) w w' := fun hgr hrow =>
      ⟨hgr.os, hgr.tape, hgr.output, hgr.size, fun q hq hn => hgr.block q hq (fun e => hn (hrow q e.symm))⟩
    rcases hown.2 with ⟨hv, h0⟩ | ⟨g0, cap, cur, hv, hb, hg, hnc, hcm, hcs, ht⟩
    · obtain ⟨rfl, hc0⟩ : ao = none ∧ c = 0 := by cases hv; exact ⟨rfl, rfl⟩
      subst h0; subst hc0
      obtain ⟨v', w', hr, ho, hgr, _⟩ := run_append_own (P := P) w w.heap.size ty tyr e inf zv 1 by_ hu hi hz0 hs hby hzs (by decide) (.slice none 0 0) 0 xs ⟨hown.1, .inl ⟨rfl, rfl⟩⟩ ad k cq news hl hnews h1 hN63 hN (Nat.le_refl _)
      exact fin v' w' hr ho (up hgr fun k hk => by simp [Value.ownBlock] at hk)
    · obtain ⟨rfl, rfl⟩ : ao = some ⟨g0, 0, none⟩ ∧ c = cap := by cases hv; exact ⟨rfl, rfl⟩
      by_cases hroom : n + k ≤ c
      · obtain ⟨w', hr, ho, hgr⟩ := run_append_fits (P := P) w 0 ty tyr e inf 1 hu hi hs g0 n c xs hown ad k cq news hl hnews h1 hroom
        exact ⟨some ⟨g0, 0, none⟩, c, w', hr, ho, up hgr fun k hk => by cases hk; rfl, fun g' h => .inl h⟩
      · have holds : ∀ j u, xs[j]? = some u → w.cell? ((⟨g0, 0, none⟩ : Addr).add j) = some u := by
          have h3 : w.ownsRow 0 e 1 (.slice (some ⟨g0, 0, none⟩) n c) n xs := hown
          exact h3.cells (g := g0) rfl
        obtain ⟨v', w', hr, ho, hgr⟩ := run_append_arg_grows (P := P) w ty tyr e inf zv 1 by_ hu hi hz0 hs hby hzs (by decide) ⟨g0, 0, none⟩ n c xs hown.1 holds ad k cq news hl hnews (by omega) hN63 hN
        exact fin v' w' hr ho (up hgr fun k hk => by simp at hk)
end
theorem iv_cat (zs ys : List Int) : iv zs ++ iv ys = iv (zs ++ ys) := by simp [iv]
section
variable {P : Program} {n : Cx} {w0 : World} {M : Nat → Prop} {L L' Lf Lr : List (World → Prop)} {σ : Fr} {K K' : Ko} {c x y : Code} {ops : Array Oper} {S : World → Prop} {r : Sch} {i : Nat}
variable {d : Nat} {t : TypeId} {p : String} {af : Array Edge} {g : Option (Nat × Bool)} {a b : Operand}
variable {ty e by_ N C : Nat} {ao : Option Addr} {zs : List Int} {zc : List Value}
/-- 'append' of a list, whole. -/
theorem aplL {k lc : Nat} {q : Option Addr} {ys : List Int} (j : Nat) (hj : L[j]? = some (OwnI e ao N C zs)) (hC : Kn w0 M L (RdI q k ys)) (hM : Mk P ty e 1 by_ zc) (hS : ∀ (x : Option Addr × Nat) w, Sep w0 M (L.set j (OwnI e x.1 (N + k) x.2 (zs ++ ys))) w → S w) (ho : ops[i]? = some ⟨some d, .call ⟨.builtin .append, #[a, b], #[ty, ty]⟩, t, p, af, g⟩) (hg : go ops σ g) (ha : ev σ a = .slice ao N C) (hb : ev σ b = .slice q k lc) (hN : (N + k) * by_ ≤ 140737488355328)
    (h : ∀ a' c', RG P n w0 M ops S (L.set j (OwnI e a' (N + k) c' (zs ++ ys))) r (upd σ d (.slice a' (N + k) c')) K) : RG P n w0 M ops S L (.op .l i r) σ K :=
  rL (α := Option Addr × Nat) (good := fun _ => True) (Lx := fun x => L.set j (OwnI e x.1 (N + k) x.2 (zs ++ ys))) (v := fun x => .slice x.1 (N + k) x.2) hS ho hg (fun w hs => by
    have hown : OwnI e ao N C zs w := hs.at_ j hj
    have hrd := hC w hs
    obtain ⟨a', c', w', hr, ho', hup, hg'⟩ := run_append_list (cq := lc) hM hown t (by rw [iv_len]; exact hrd.1) hrd.2.2 (fun u hu => by obtain ⟨z, _, rfl⟩ := List.mem_map.1 hu; rfl) hN
    unfold opw
    simp only [execOp, resolve, invoke, builtin, Sem.run_bind, Sem.run_pure, Result.andThen_ok, List.map_toArray, List.map_cons, List.map_nil, ha, hb, hr]
    refine ⟨(a', c'), trivial, hs.change j hj fun f hf => ⟨fun k => f k ∨ fpO a' k, fun k hk => ?_, ?_, hup.mono fun k _ hk => Own.mem hf k hk⟩, rfl⟩
    · rcases hk with hk | hk
      · exact .inl hk
      · rcases hg' k hk with hg' | hg'
        · exact .inl (Own.mem hf _ hg')
        · exact .inr hg'
    · have ho2 : OwnI e a' (N + k) c' (zs ++ ys) w' := by unfold OwnI; rw [← iv_cat]; exact ho'
      exact Own.St ho2 fun q hq => .inr hq) (fun q _ => h q.1 q.2)
/-- A block, read. -/
def RdB (bk : Nat) (cs : List Value) : World → Prop := fun w => ∀ j v, cs[j]? = some v → w.cell? ⟨bk, j, none⟩ = some v
theorem RdB.ext {bk : Nat} {cs : List Value} {w w' : World} (h : RdB bk cs w) (he : Ext w w') : RdB bk cs w' := fun j v hj => he.cell (h j v hj)
theorem RdB.of {bk e : Nat} {cs : List Value} {w : World} (h : blk bk e cs w) : RdB bk cs w := fun j v hj => h.cell hj
theorem cD {bk o : Nat} {cs : List Value} {v : Value} (h : Kn w0 M L (RdB bk cs)) (hv : cs[o]? = some v) : Kn w0 M L fun w => w.cell? ⟨bk, o, none⟩ = some v := fun w hs => h w hs o v hv
theorem cDp {bk o m : Nat} {cs vs : List Value} (h : Kn w0 M L (RdB bk cs)) (hv : (cs.drop o).take m = vs) : Kn w0 M L fun w => ∀ k v, vs[k]? = some v → w.cell? ⟨bk, o + k, none⟩ = some v := fun w hs k v hk => by
  subst hv
  refine h w hs _ v ?_
  have hlt := (List.getElem?_eq_some_iff.1 hk).1
  rw [List.getElem?_take_of_lt (by simp at hlt; omega), List.getElem?_drop] at hk
  exact hk
theorem RdI.none {q : Option Addr} {k : Nat} {zs : List Int} {w : World} (h : RdI q k zs w) (hq : q.isNone = true) : zs = [] := by
  cases zs with
  | nil => rfl
  | cons x l =>
    obtain ⟨b, off, e, _⟩ := h.2.2 0 (.int .i64 x) rfl
    subst e; cases hq
end
end Go.Proofs.Yteaahdakammffaa.V
/- The frame of a law's proof: what a law's row asks behind a call that returned true and only made memory. No condition. -/
namespace Go.Proofs.Yteaahdakammffaa
open Go Go.RowKit V Go.ChangeShapes Go.WideShapes Go.ChangeAt
set_option linter.unusedVariables false
set_option linter.unusedSimpArgs false
theorem own : ownKnob Try.prog.godebug = none := by kernel_rfl
theorem laidOut : laidOutB Try.prog = true := by kernel_rfl
/-- A slice of integers that came in. -/
theorem open_slice_ints {H : Type} {enc : TypeId × Value → H} {P : Program} {W : World} {base : Nat} {t e : TypeId} {k : IntKind} {v : Value} {d : DataW H} {p : List MemPlace} (ht : P.underlying t = some (.slice e)) (he : P.underlying e = some (.int k)) (hc : P.cellsOf e = 1)
    (hval : Value.okWide P W .any base t v) (h : DataW.Trod enc P W 0 (fun _ => true) true t v d p) :
    ∃ (ca : Option Addr) (zs : List Int) (cc : Nat), v = .slice ca zs.length cc ∧ (∀ n ∈ zs, (Lit.int k n).wf = true) ∧ zs.length ≤ maxLen ∧ CellsAt ca (zs.map (Value.int k)) W := by
  obtain ⟨a1, len, cap, rfl⟩ := okWide_slice ht hval
  obtain ⟨fuel, hf⟩ := h
  rcases open_ints ht he hc hf with ⟨hcs, hx⟩ | ⟨a, len', cap', zs, hcs, _, hl, hm, hz, hx, hcell, hwz⟩
  · simp [Value.cells] at hcs
    obtain ⟨rfl, rfl, rfl⟩ := hcs
    exact ⟨none, [], 0, rfl, (fun _ h => nomatch h), Nat.zero_le _, (fun i v hi => by cases i <;> cases hi)⟩
  · simp [Value.cells] at hcs
    obtain ⟨rfl, rfl, rfl⟩ := hcs
    simp only [if_true] at hz
    have hlen : (zs.take len).length = len := by simp; omega
    refine ⟨some a, zs.take len, cap, by rw [hlen], fun n hn => hwz n (List.mem_of_mem_take hn), by omega, fun i v hi => ?_⟩
    have hi' : i < len := by have := (List.getElem?_eq_some_iff.1 hi).1; simp at this; omega
    have hz' : i < zs.length := by omega
    have hcj := hcell i hz'
    rw [List.getElem?_map, List.getElem?_take_of_lt hi', List.getElem?_eq_getElem hz'] at hi
    obtain rfl : Value.int k zs[i] = v := by simpa using hi
    obtain ⟨ab, ao, spot⟩ := a
    have hspot : spot = none := by simpa [Addr.add] using World.cell?_spot (hcell 0 (by omega))
    subst hspot
    refine ⟨ab, ao, rfl, ?_⟩
    rw [Addr.add_lit] at hcj
    simpa [List.getD, List.getElem?_eq_getElem hz'] using hcj
def canRead (P : Program) (ts : List TypeId) : Bool := ts.all fun t => P.readableRec t && decide (t < P.types.size)
/-- Arguments read as they did. -/
theorem trodAll_stays {H : Type} {enc : TypeId × Value → H} {P : Program} (hl : laidOutB P = true) {W W' : World} (hb : Below W.heap.size W W') :
    ∀ (ts : List TypeId) (vs : List Value) (ds : List (DataW H)) (ps : List MemPlace), canRead P ts = true → DataW.TrodAll enc P W 0 (fun _ => true) true ts vs ds ps → (∀ x ∈ ps, x.block < W.heap.size) →
      DataW.TrodAll enc P W' 0 (fun b => decide (b < W.heap.size)) true ts vs ds ps := by
  intro ts
  induction ts with
  | nil => intro vs ds ps _ h _; cases vs <;> cases ds <;> exact h
  | cons t ts ih =>
    intro vs ds ps hc h hlt
    cases vs with
    | nil => cases ds <;> exact h.elim
    | cons v vs =>
      cases ds with
      | nil => exact h.elim
      | cons d ds =>
        obtain ⟨p, q, h1, h2, rfl⟩ := h
        simp only [canRead, List.all_cons, Bool.and_eq_true, decide_eq_true_eq] at hc
        exact ⟨p, q, Below.trod hl hc.1.1 hc.1.2 h1 hb (fun x hx => hlt x (List.mem_append_left _ hx)), ih vs ds q hc.2 h2 (fun x hx => hlt x (List.mem_append_right _ hx)), rfl⟩
/-- What a law's row asks. -/
theorem law_post {H : Type} {enc : TypeId × Value → H} {f : Func} {s : ChangeSpec} {W W' : World} {args : Array Value} {ds : List (DataW H)} {before : List MemPlace} {tb : TypeId}
    (hW : DataW.Whole enc Try.prog f.params.toList s.vars false W args.toList ds [] before) (hv : s.vars = []) (ht : f.resultTypes = #[tb]) (hb : Try.prog.underlying tb = some .bool)
    (hr : (s.fn H (ds ++ [])).results = [.lit (.bool true)]) (ha : (s.fn H (ds ++ [])).args = ds) (hs : (s.fn H (ds ++ [])).vars = []) (hc : canRead Try.prog f.params.toList = true) (hx : Ext W W') :
    s.post enc Try.prog f false true false false W args (.bool true) W' := by
  have hW' := hW
  obtain ⟨p, q, h1, h2, hp, hfz, hnd⟩ := hW
  have hlt := hW'.lt
  rw [hv] at h2
  obtain ⟨_, hq⟩ := trodVars_none h2
  subst hq
  have hp' : before = p := by simpa using hp
  subst hp'
  refine ⟨ds, [], before, [], before, [], hW', ?_, ?_, ?_, ?_, fun h => by cases h⟩
  · rw [hr, ht]
    exact trodAll_cons_mk (shut_bool hb true) trodAll_mk0
  · rw [ha]
    exact trodAll_stays laidOut hx.below _ _ _ _ hc h1 hlt
  · rw [hv, hs]; exact rfl
  · exact hx.below.frame _
end Go.Proofs.Yteaahdakammffaa
/- The frame of a law's proof, part 2: slices, rows, trees and other structs that came in are known as the walks ask it. No condition. -/
namespace Go.Proofs.Yteaahdakammffaa
open Go Go.RowKit V Go.ChangeShapes Go.WideShapes Go.ChangeAt Go.Deep
set_option linter.unusedVariables false
set_option linter.unusedSimpArgs false
section
variable {H : Type} {enc : TypeId × Value → H} {P : Program} {W : World} {fuel : Nat}
abbrev trd (enc : TypeId × Value → H) (P : Program) (W : World) (fuel : Nat) (t : TypeId) (cs : List Value) : Option (DataW H × List MemPlace) := DataW.trod enc P W 0 (fun _ => true) true fuel t cs
instance : Inhabited Nd := ⟨dN⟩
end
end Go.Proofs.Yteaahdakammffaa
