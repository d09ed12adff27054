/- The engine, part 5: slices that are read, literals of slices, conversions, sources of draws. No condition. -/
import Derived.Test.YtjengglpbdgmnaaEng4Co
namespace Go.Proofs.Ytjengglpbdgmnaa.V
open Go Go.RowKit
set_option linter.unusedVariables false
set_option linter.unusedSimpArgs false
theorem set_self {α : Type} {l : List α} {j : Nat} {x : α} (h : l[j]? = some x) : l.set j x = l := by
  induction l generalizing j with
  | nil => rfl
  | cons a l ih =>
    cases j with
    | zero => simp at h; simp [h]
    | succ j => simp at h; simp [ih h]
/-- A slice of one-cell elements, read. -/
def CellsAt (a : Option Addr) (vs : List Value) (w : World) : Prop := ∀ i v, vs[i]? = some v → ∃ b off, a = some ⟨b, off, none⟩ ∧ w.cell? ⟨b, off + i, none⟩ = some v
/-- A slice of elements of 'm' cells, read. -/
def RowsAt (a : Option Addr) (m : Nat) (css : List (List Value)) (w : World) : Prop := ∀ i cs, css[i]? = some cs → ∃ b off, a = some ⟨b, off, none⟩ ∧ ∀ j v, cs[j]? = some v → w.cell? ⟨b, off + i * m + j, none⟩ = some v
theorem CellsAt.ext {a : Option Addr} {vs : List Value} {w w' : World} (h : CellsAt a vs w) (he : Ext w w') : CellsAt a vs w' := fun i v hi => by
  obtain ⟨b, off, ha, hc⟩ := h i v hi
  exact ⟨b, off, ha, he.cell hc⟩
theorem RowsAt.ext {a : Option Addr} {m : Nat} {css : List (List Value)} {w w' : World} (h : RowsAt a m css w) (he : Ext w w') : RowsAt a m css w' := fun i v hi => by
  obtain ⟨b, off, ha, hc⟩ := h i v hi
  exact ⟨b, off, ha, fun j v hj => he.cell (hc j v hj)⟩
theorem CellsAt.nil (a : Option Addr) (w : World) : CellsAt a [] w := fun i v h => by simp at h
theorem CellsAt.blk {b e : Nat} {vs : List Value} {w : World} (h : V.blk b e vs w) : CellsAt (some ⟨b, 0, none⟩) vs w := fun i v hi => ⟨b, 0, rfl, by rw [Nat.zero_add]; exact h.cell hi⟩
section
variable {P : Program} {n : Nat} {w0 : World} {M : Nat → Prop} {L L' : List (World → Prop)} {σ : Fr} {K K' : Ko} {c x y : Code} {ops : Array Oper} {S : World → Prop} {r : Sch} {i : Nat}
variable {d : Nat} {t : TypeId} {p : String} {af : Array Edge} {g : Option (Nat × Bool)} {a b : Operand}
theorem rQw {v : World → Value} {o : Oper} (ho : ops[i]? = some o) (hg : go ops σ o.guard) (good : Value → Prop) (hv : ∀ w, Sep w0 M L w → ∃ v, good v ∧ ∀ w', S w' → (execOp (ev σ) o).run P w' = .ok (.value v) w') (h : ∀ v, good v → RG P n w0 M ops S L r (put σ o.dst v) K) :
    RG P n w0 M ops S L (.op .q i r) σ K := fun w hs => by
  obtain ⟨v, hgv, hv⟩ := hv w hs
  exact ⟨o, v, ho, .inl ⟨hg.wanted, hv⟩, h v hgv w hs⟩
/-- An element's address, in a region whose order is open. -/
theorem ixq {ty len cap : Nat} {k : IntKind} {z : Int} {q : Option Addr} {vs : List Value} {v : Value} (hE : Elt P ty 1) (hC : ∀ w, S w → CellsAt q vs w) (hS : ∀ w, Sep w0 M L w → S w) (ho : ops[i]? = some ⟨some d, .indexAddr ty a b, t, p, af, g⟩) (hg : go ops σ g) (ha : ev σ a = .slice q len cap) (hb : ev σ b = .int k z) (h0 : 0 ≤ z) (h1 : z < len) (hi : vs[z.toNat]? = some v)
    (h : ∀ ad, (∀ w, S w → w.cell? ad = some v) → RG P n w0 M ops S L r (upd σ d (.pointer (some ad))) K) : RG P n w0 M ops S L (.op .q i r) σ K := by
  refine rQw (v := fun _ => undef) ho hg (fun u => ∃ ad, u = .pointer (some ad) ∧ ∀ w, S w → w.cell? ad = some v) (fun w hs => ?_) ?_
  · obtain ⟨bk, off, hq, hc⟩ := hC w (hS w hs) _ v hi
    refine ⟨_, ⟨⟨bk, off + z.toNat, none⟩, rfl, fun w' hS' => ?_⟩, fun w' hS' => ?_⟩
    · obtain ⟨bk', off', hq', hc'⟩ := hC w' hS' _ v hi
      rw [hq] at hq'; cases hq'; exact hc'
    · subst hq
      have := run_indexAt (k := k) (bk := bk) (off := off) (cap := cap) hE h0 h1 w'
      rw [Nat.mul_one] at this
      simp [execOp, ha, hb, this]
  · rintro v ⟨ad, rfl, hc⟩; exact h ad hc
/-- An element's address. -/
theorem ixl {ty len cap : Nat} {k : IntKind} {z : Int} {q : Option Addr} {vs : List Value} {v : Value} (hE : Elt P ty 1) (hC : Kn w0 M L (CellsAt q vs)) (ho : ops[i]? = some ⟨some d, .indexAddr ty a b, t, p, af, g⟩) (hg : go ops σ g) (ha : ev σ a = .slice q len cap) (hb : ev σ b = .int k z) (h0 : 0 ≤ z) (h1 : z < len) (hi : vs[z.toNat]? = some v)
    (h : ∀ ad, (Kn w0 M L fun w => w.cell? ad = some v) → RG P n w0 M ops S L r (upd σ d (.pointer (some ad))) K) : RG P n w0 M ops S L (.op .q i r) σ K := by
  refine rQw (v := fun _ => undef) ho hg (fun u => ∃ ad, u = .pointer (some ad) ∧ Kn w0 M L fun w => w.cell? ad = some v) (fun w hs => ?_) ?_
  · obtain ⟨bk, off, hq, hc⟩ := hC w hs _ v hi
    refine ⟨_, ⟨⟨bk, off + z.toNat, none⟩, rfl, fun w' hS' => ?_⟩, fun w' hS' => ?_⟩
    · obtain ⟨bk', off', hq', hc'⟩ := hC w' hS' _ v hi
      rw [hq] at hq'; cases hq'; exact hc'
    · subst hq
      have := run_indexAt (k := k) (bk := bk) (off := off) (cap := cap) hE h0 h1 w'
      rw [Nat.mul_one] at this
      simp [execOp, ha, hb, this]
  · rintro v ⟨ad, rfl, hc⟩; exact h ad hc
theorem Kn.fld {cs : List Value} {bk off : Nat} (h : Kn w0 M L fun w => ∀ j v, cs[j]? = some v → w.cell? ⟨bk, off + j, none⟩ = some v) (j : Nat) {v : Value} (hj : cs[j]? = some v) : Kn w0 M L fun w => w.cell? ⟨bk, off + j, none⟩ = some v := fun w hs => h w hs j v hj
/-! ### Conversions between integers; literals of slices -/
theorem cnv {src dst : TypeId} {sd : TypeDesc} {k k' : IntKind} {z : Int} (hs : ∀ w, (underlying src).run P w = .ok sd w) (hd : ∀ w, (underlying dst).run P w = .ok (.int k') w) (ho : ops[i]? = some ⟨some d, .convert src dst a, t, p, af, g⟩) (hg : go ops σ g) (ha : ev σ a = .int k z) (h : RG P n w0 M ops S L r (upd σ d (.int k' (k'.wrap z))) K) : RG P n w0 M ops S L (.op .q i r) σ K :=
  rQ ho hg (fun w _ => by simp [execOp, ha, convert, hs w, hd w, Conv.intToInt]) h
theorem cnvI {src dst : TypeId} {sd : TypeDesc} {k : IntKind} {z : Int} (hs : ∀ w, (underlying src).run P w = .ok sd w) (hd : ∀ w, (underlying dst).run P w = .ok (.int .i64) w) (ho : ops[i]? = some ⟨some d, .convert src dst a, t, p, af, g⟩) (hg : go ops σ g) (ha : ev σ a = .int k z) (hr : -9223372036854775808 ≤ z ∧ z ≤ 9223372036854775807) (h : RG P n w0 M ops S L r (upd σ d (.int .i64 z)) K) : RG P n w0 M ops S L (.op .q i r) σ K :=
  cnv hs hd ho hg ha (by rw [wrapI hr]; exact h)
/-- A literal of a slice. -/
theorem bsl {ty e len : Nat} {ps : Array (Nat × Operand)} {l : List (Nat × Value)} {vs : List Value} (hS : ∀ bk w, Sep w0 M (blk bk e vs :: L) w → S w) (ho : ops[i]? = some ⟨some d, .buildSlice ty len ps, t, p, af, g⟩) (hg : go ops σ g) (hp : ps.toList.map (fun q => (q.1, ev σ q.2)) = l) (hb : ∀ w, (Instr.buildSlice ty len l.toArray).run P w = .ok (.slice (some ⟨w.heap.size, 0, none⟩) len len) (w.alloc (.cells vs.toArray e)))
    (h : ∀ bk, w0.heap.size ≤ bk → RG P n w0 M ops S (blk bk e vs :: L) r (upd σ d (.slice (some ⟨bk, 0, none⟩) len len)) K) : RG P n w0 M ops S L (.op .l i r) σ K :=
  rL (good := fun bk => w0.heap.size ≤ bk) (Lx := fun bk => blk bk e vs :: L) (v := fun bk => .slice (some ⟨bk, 0, none⟩) len len) hS ho hg (fun w hs => by
    have he : (ps.map fun (j, x) => (j, ev σ x)) = l.toArray := by rw [← hp, ← Array.toList_map, Array.toArray_toList]
    unfold opw
    simp only [execOp, he, Sem.run_bind, hb w, Result.andThen_ok, Sem.run_pure]
    exact ⟨_, hs.base_le, hs.alloc e vs, rfl⟩) h
/-- A call that keeps piece 'j' as it is said, whatever it writes there. -/
theorem callK {α : Type} {f : FuncId} {args : Array Operand} {tys : Array TypeId} {val : α → Value} {good : α → Prop} {φ : World → Prop} {bk : Nat} (j : Nat) (hj : L[j]? = some φ) (hφ : ∀ f w, St f φ w → f bk) (hφ' : ∀ f w, φ w → f bk → St f φ w) (hf : ∀ args w, (callFunc f args).run P w = .ok (.enter f args) w) (hS : ∀ w, Sep w0 M L w → S w) (ho : ops[i]? = some ⟨some d, .call ⟨.value (.func f), args, tys⟩, t, p, af, g⟩) (hg : go ops σ g)
    (hc : ∀ w, Sep w0 M L w → Calls P f (args.toList.map (ev σ)).toArray w (Ret fun v' w' => ∃ x, v' = val x ∧ good x ∧ Upd (fun k => k = bk) w w' ∧ φ w')) (h : ∀ x, good x → RG P n w0 M ops S L r (upd σ d (val x)) K) : RG P n w0 M ops S L (.op .l i r) σ K :=
  rL (Lx := fun _ => L) (v := val) (fun _ => hS) ho hg (fun w hs => call_opw hf (hc w hs) fun v' w' ⟨x, he, hx, hu, hb⟩ => by
    subst he
    have := hs.change (φ' := φ) j hj fun f hf => ⟨f, fun _ h => .inl h, hφ' f w' hb (hφ f w hf), hu.mono fun k _ hk => by subst hk; exact hφ f w hf⟩
    rw [set_self hj] at this
    exact ⟨x, hx, this, rfl⟩) h
end
end Go.Proofs.Ytjengglpbdgmnaa.V
