/- The engine, part 2: what a call knows of memory, as a list of separate pieces. No condition. -/
import Derived.Test.YtjengglpbdgmnaaEng1Co
namespace Go.Proofs.Ytjengglpbdgmnaa.V
open Go Go.RowKit
set_option linter.unusedVariables false
def Agree (f : Nat → Prop) (w w' : World) : Prop := ∀ k, f k → w'.heap[k]? = w.heap[k]?
/-- 'φ' holds, whatever becomes of blocks that 'f' does not name. -/
def St (f : Nat → Prop) (φ : World → Prop) (w : World) : Prop := ∀ w', Agree f w w' → φ w'
theorem St.out {f : Nat → Prop} {φ : World → Prop} {w : World} (h : St f φ w) : φ w := h w fun _ _ => rfl
theorem St.agree {f : Nat → Prop} {φ : World → Prop} {w w' : World} (h : St f φ w) (ha : Agree f w w') : St f φ w' :=
  fun w'' ha' => h w'' fun k hk => (ha' k hk).trans (ha k hk)
theorem St.mono {f g : Nat → Prop} {φ : World → Prop} {w : World} (h : St f φ w) (hfg : ∀ k, f k → g k) : St g φ w :=
  fun w' ha => h w' fun k hk => ha k (hfg k hk)
theorem St.imp {f : Nat → Prop} {φ ψ : World → Prop} {w : World} (h : St f φ w) (hi : ∀ w, φ w → ψ w) : St f ψ w := fun w' ha => hi _ (h w' ha)
theorem St.and {f : Nat → Prop} {φ ψ : World → Prop} {w : World} (h : St f φ w) (h' : St f ψ w) : St f (fun w => φ w ∧ ψ w) w := fun w' ha => ⟨h w' ha, h' w' ha⟩
/-- No block that was there has turned but for those that M names. -/
structure Upd (M : Nat → Prop) (w w' : World) : Prop where
  os : w'.os = w.os
  tape : w'.tape = w.tape
  output : w'.output = w.output
  size : w.heap.size ≤ w'.heap.size
  block : ∀ k, k < w.heap.size → ¬ M k → w'.heap[k]? = w.heap[k]?
abbrev none_ : Nat → Prop := fun _ => False
abbrev Ext (w w' : World) : Prop := Upd none_ w w'
theorem Upd.refl (M : Nat → Prop) (w : World) : Upd M w w := ⟨rfl, rfl, rfl, Nat.le_refl _, fun _ _ _ => rfl⟩
theorem Upd.trans {M : Nat → Prop} {a b c : World} (h : Upd M a b) (h' : Upd M b c) : Upd M a c :=
  ⟨h'.os.trans h.os, h'.tape.trans h.tape, h'.output.trans h.output, Nat.le_trans h.size h'.size, fun k hk hm => (h'.block k (Nat.lt_of_lt_of_le hk h.size) hm).trans (h.block k hk hm)⟩
theorem Upd.mono {M M' : Nat → Prop} {a b : World} (h : Upd M a b) (hm : ∀ k, k < a.heap.size → M k → M' k) : Upd M' a b :=
  ⟨h.os, h.tape, h.output, h.size, fun k hk hn => h.block k hk fun hk' => hn (hm k hk hk')⟩
theorem Ext.to {M : Nat → Prop} {a b : World} (h : Ext a b) : Upd M a b := h.mono fun _ _ h => h.elim
theorem Ext.below {a b : World} (h : Ext a b) : Below a.heap.size a b := ⟨h.os, h.tape, h.output, h.size, fun k hk => h.block k hk fun h => h⟩
theorem Ext.drew (w : World) : Ext w w.drew := ⟨rfl, rfl, rfl, Nat.le_refl _, fun _ _ _ => rfl⟩
theorem Ext.alloc (w : World) (o : Obj) : Ext w (w.alloc o) := ⟨rfl, rfl, rfl, by simp, fun k hk _ => Below.heap_alloc w o k hk⟩
theorem Ext.cell {a b : World} (h : Ext a b) {ad : Addr} {v : Value} (hc : a.cell? ad = some v) : b.cell? ad = some v := by
  have hb := World.block_lt_of_cell? a ad hc
  rw [World.cell?_of_block (w := a) (h.block ad.block hb fun h => h)]
  exact hc
/-- The blocks that are new. -/
def New (w w' : World) : Nat → Prop := fun k => w.heap.size ≤ k ∧ k < w'.heap.size
def SepL (M : Nat → Prop) (B T : Nat) : List (Nat → Prop) → List (World → Prop) → World → Prop
  | [], [], _ => True
  | f :: fs, φ :: L, w => (∀ k, f k → (B ≤ k ∨ M k) ∧ k < T) ∧ (∀ g ∈ fs, ∀ k, f k → ¬ g k) ∧ St f φ w ∧ SepL M B T fs L w
  | _, _, _ => False
/-- What is known: nothing that was there in w0 has turned but in M; and each of L holds on blocks of its own. -/
def Sep (w0 : World) (M : Nat → Prop) (L : List (World → Prop)) (w : World) : Prop :=
  Upd M w0 w ∧ ∃ fs, SepL M w0.heap.size w.heap.size fs L w
section
variable {w0 : World} {M : Nat → Prop} {L : List (World → Prop)} {w w' : World} {B T T' : Nat} {fs : List (Nat → Prop)} {φ ψ φ' : World → Prop}
theorem SepL.fp_lt (h : SepL M B T fs L w) : ∀ g ∈ fs, ∀ k, g k → (B ≤ k ∨ M k) ∧ k < T := by
  induction fs generalizing L with
  | nil => simp
  | cons f fs ih =>
    cases L with
    | nil => exact h.elim
    | cons φ L =>
      obtain ⟨h1, _, _, h4⟩ := h
      intro g hg k hk
      rcases List.mem_cons.1 hg with rfl | hg
      · exact h1 k hk
      · exact ih h4 g hg k hk
theorem SepL.keep (h : SepL M B T fs L w) (hT : T ≤ T') (ha : ∀ g ∈ fs, Agree g w w') : SepL M B T' fs L w' := by
  induction fs generalizing L with
  | nil => cases L with | nil => trivial | cons _ _ => exact h.elim
  | cons f fs ih =>
    cases L with
    | nil => exact h.elim
    | cons φ L =>
      obtain ⟨h1, h2, h3, h4⟩ := h
      exact ⟨fun k hk => ⟨(h1 k hk).1, Nat.lt_of_lt_of_le (h1 k hk).2 hT⟩, h2, h3.agree (ha f List.mem_cons_self), ih h4 fun g hg => ha g (List.mem_cons_of_mem _ hg)⟩
theorem Sep.upd (h : Sep w0 M L w) : Upd M w0 w := h.1
theorem Sep.start (w0 : World) (M : Nat → Prop) : Sep w0 M [] w0 := ⟨.refl _ _, [], trivial⟩
theorem Sep.ext (h : Sep w0 M L w) (he : Ext w w') : Sep w0 M L w' := by
  obtain ⟨h1, fs, h2⟩ := h
  exact ⟨h1.trans he.to, fs, h2.keep he.size fun g hg k hk => he.block k (h2.fp_lt g hg k hk).2 fun h => h⟩
theorem Sep.drew (h : Sep w0 M L w) : Sep w0 M L w.drew := h.ext (Ext.drew w)
theorem Sep.push (h : Sep w0 M L w) (he : Ext w w') (hφ : St (New w w') φ w') : Sep w0 M (φ :: L) w' := by
  have h' := h.ext he
  obtain ⟨h1, fs, h2⟩ := h
  obtain ⟨h1', _, _⟩ := h'
  refine ⟨h1', New w w' :: fs, fun k hk => ⟨.inl (Nat.le_trans h1.size hk.1), hk.2⟩, fun g hg k hk hgk => ?_, hφ, h2.keep he.size fun g hg k hk => he.block k (h2.fp_lt g hg k hk).2 fun h => h⟩
  have := (h2.fp_lt g hg k hgk).2
  have := hk.1
  omega
theorem SepL.at_ (h : SepL M B T fs L w) {i : Nat} (hi : L[i]? = some φ) : ∃ f, fs[i]? = some f ∧ St f φ w := by
  induction fs generalizing L i with
  | nil => cases L with | nil => simp at hi | cons _ _ => exact h.elim
  | cons f fs ih =>
    cases L with
    | nil => exact h.elim
    | cons φ L =>
      obtain ⟨_, _, h3, h4⟩ := h
      cases i with
      | zero => simp at hi; subst hi; exact ⟨f, rfl, h3⟩
      | succ i => simpa using ih h4 (by simpa using hi)
theorem Sep.at_ (h : Sep w0 M L w) (i : Nat) (hi : L[i]? = some φ) : φ w := by
  obtain ⟨_, fs, h2⟩ := h
  obtain ⟨f, _, hf⟩ := h2.at_ hi
  exact hf.out
theorem Sep.tail (h : Sep w0 M (φ :: L) w) : Sep w0 M L w := by
  obtain ⟨h1, fs, h2⟩ := h
  cases fs with
  | nil => exact h2.elim
  | cons f fs => exact ⟨h1, fs, h2.2.2.2⟩
theorem Sep.drop (h : Sep w0 M L w) (k : Nat) : Sep w0 M (L.drop k) w := by
  induction k generalizing L with
  | zero => exact h
  | succ k ih =>
    cases L with
    | nil => exact h
    | cons φ L => exact ih h.tail
theorem SepL.sub {L' : List (World → Prop)} (hl : L'.Sublist L) (h : SepL M B T fs L w) : ∃ fs', (∀ g ∈ fs', g ∈ fs) ∧ SepL M B T fs' L' w := by
  induction hl generalizing fs with
  | slnil => exact ⟨fs, fun _ h => h, h⟩
  | cons a _ ih =>
    cases fs with
    | nil => exact h.elim
    | cons f fs =>
      obtain ⟨fs', h1, h2⟩ := ih h.2.2.2
      exact ⟨fs', fun g hg => List.mem_cons_of_mem _ (h1 g hg), h2⟩
  | cons_cons a _ ih =>
    cases fs with
    | nil => exact h.elim
    | cons f fs =>
      obtain ⟨k1, k2, k3, k4⟩ := h
      obtain ⟨fs', h1, h2⟩ := ih k4
      refine ⟨f :: fs', fun g hg => ?_, k1, fun g hg => k2 g (h1 g hg), k3, h2⟩
      rcases List.mem_cons.1 hg with rfl | hg
      · exact List.mem_cons_self
      · exact List.mem_cons_of_mem _ (h1 g hg)
/-- Some of the pieces. -/
theorem Sep.sub {L' : List (World → Prop)} (h : Sep w0 M L w) (hl : L'.Sublist L) : Sep w0 M L' w := by
  obtain ⟨h1, fs, h2⟩ := h
  obtain ⟨fs', _, h3⟩ := h2.sub hl
  exact ⟨h1, fs', h3⟩
/-- One piece is changed, on its own blocks and new ones. -/
theorem SepL.change (h : SepL M B T fs L w) {i : Nat} (hi : L[i]? = some φ) {f : Nat → Prop} (hfi : fs[i]? = some f) (hB : B ≤ w.heap.size) (hT : T = w.heap.size) (hT' : T' = w'.heap.size) (hsz : w.heap.size ≤ w'.heap.size)
    {f' : Nat → Prop} (hf' : ∀ k, f' k → f k ∨ New w w' k) (hφ' : St f' φ' w') (hu : Upd f w w') : SepL M B T' (fs.set i f') (L.set i φ') w' := by
  subst hT hT'
  induction fs generalizing L i with
  | nil => simp at hfi
  | cons g fs ih =>
    cases L with
    | nil => exact h.elim
    | cons ψ L =>
      obtain ⟨h1, h2, h3, h4⟩ := h
      cases i with
      | zero =>
        simp only [List.getElem?_cons_zero, Option.some.injEq] at hi hfi
        subst hi hfi
        refine ⟨fun k hk => ?_, fun g' hg' k hk hgk => ?_, hφ', ?_⟩
        · rcases hf' k hk with h | h
          · exact ⟨(h1 k h).1, Nat.lt_of_lt_of_le (h1 k h).2 hsz⟩
          · exact ⟨.inl (Nat.le_trans hB h.1), h.2⟩
        · rcases hf' k hk with h | h
          · exact h2 g' hg' k h hgk
          · have := (h4.fp_lt g' hg' k hgk).2; have := h.1; omega
        · exact h4.keep hsz fun g' hg' k hk => hu.block k (h4.fp_lt g' hg' k hk).2 fun hg => h2 g' hg' k hg hk
      | succ i =>
        simp only [List.getElem?_cons_succ] at hi hfi
        have hmem : f ∈ fs := List.mem_of_getElem? hfi
        refine ⟨fun k hk => ⟨(h1 k hk).1, Nat.lt_of_lt_of_le (h1 k hk).2 hsz⟩, fun g' hg' k hk hgk => ?_, h3.agree fun k hk => hu.block k (h1 k hk).2 fun hf => h2 f hmem k hk hf, ih hi hfi h4⟩
        rcases List.mem_or_eq_of_mem_set hg' with hg' | rfl
        · exact h2 g' hg' k hk hgk
        · rcases hf' k hgk with h | h
          · exact h2 f hmem k hk h
          · have := (h1 k hk).2; have := h.1; omega
theorem Sep.change (h : Sep w0 M L w) (i : Nat) (hi : L[i]? = some φ)
    (hs : ∀ f, St f φ w → ∃ f' : Nat → Prop, (∀ k, f' k → f k ∨ New w w' k) ∧ St f' φ' w' ∧ Upd f w w') : Sep w0 M (L.set i φ') w' := by
  obtain ⟨h1, fs, h2⟩ := h
  obtain ⟨f, hfi, hf⟩ := h2.at_ hi
  obtain ⟨f', hf', hφ', hu⟩ := hs f hf
  have hb := h2.fp_lt f (List.mem_of_getElem? hfi)
  refine ⟨⟨hu.os.trans h1.os, hu.tape.trans h1.tape, hu.output.trans h1.output, Nat.le_trans h1.size hu.size, fun k hk hm => ?_⟩, fs.set i f', h2.change hi hfi h1.size rfl rfl hu.size hf' hφ' hu⟩
  rw [hu.block k (Nat.lt_of_lt_of_le hk h1.size) fun hfk => ?_]
  · exact h1.block k hk hm
  · rcases (hb k hfk).1 with h | h
    · exact Nat.not_le_of_lt hk h
    · exact hm h
/-- What is known of all worlds that meet L. -/
def Kn (w0 : World) (M : Nat → Prop) (L : List (World → Prop)) (φ : World → Prop) : Prop := ∀ w, Sep w0 M L w → φ w
theorem Kn.drop {k : Nat} (h : Kn w0 M (L.drop k) φ) : Kn w0 M L φ := fun w hs => h w (hs.drop k)
theorem Kn.at_ (i : Nat) (hi : L[i]? = some φ) : Kn w0 M L φ := fun w hs => hs.at_ i hi
theorem Kn.imp (h : Kn w0 M L φ) (hi : ∀ w, φ w → ψ w) : Kn w0 M L ψ := fun w hs => hi w (h w hs)
/-! ### A block known whole -/
def blk (b : Nat) (e : TypeId) (cs : List Value) : World → Prop := fun w => w.heap[b]? = some (.cells cs.toArray e (0, 0))
theorem blk.St (b : Nat) (e : TypeId) (cs : List Value) {w : World} (h : blk b e cs w) {f : Nat → Prop} (hf : f b) : V.St f (blk b e cs) w := fun w' ha => by
  unfold blk at *; rw [ha b hf]; exact h
/-- The piece that knows a block names it. -/
theorem blk.mem {b : Nat} {e : TypeId} {cs : List Value} {w : World} {f : Nat → Prop} (h : V.St f (blk b e cs) w) : f b := by
  refine Classical.byContradiction fun hn => ?_
  have h1 : blk b e cs w := h.out
  have hlt : b < w.heap.size := (Array.getElem?_eq_some_iff.1 h1).1
  have h2 := h { w with heap := w.heap.setIfInBounds b (.map #[] 0) } fun k hk => by
    have : b ≠ k := fun e => hn (e ▸ hk)
    show (w.heap.setIfInBounds b (.map #[] 0))[k]? = _
    rw [Array.getElem?_setIfInBounds_ne this]
  unfold blk at h2
  simp [hlt] at h2
theorem blk.cell {b : Nat} {e : TypeId} {cs : List Value} {w : World} (h : blk b e cs w) {o : Nat} {v : Value} (hc : cs[o]? = some v) : w.cell? ⟨b, o, none⟩ = some v := by
  unfold blk at h
  simp [World.cell?, h, hc]
theorem Sep.alloc (h : Sep w0 M L w) (e : TypeId) (cs : List Value) : Sep w0 M (blk w.heap.size e cs :: L) (w.alloc (.cells cs.toArray e)) :=
  h.push (Ext.alloc w _) (blk.St _ _ _ (heap_alloc_new w _) ⟨Nat.le_refl _, by simp⟩)
/-- At the entry: one block of the caller's is handed over. -/
theorem Sep.startB {b : Nat} {e : TypeId} {cs : List Value} (h : blk b e cs w0) : Sep w0 (fun k => k = b) [blk b e cs] w0 :=
  ⟨.refl _ _, [fun k => k = b], fun k hk => ⟨.inr hk, by subst hk; exact (Array.getElem?_eq_some_iff.1 h).1⟩, by simp, blk.St _ _ _ h rfl, trivial⟩
theorem Sep.base_le (h : Sep w0 M L w) : w0.heap.size ≤ w.heap.size := h.1.size
/-- The first piece lies in new blocks: for a result. -/
theorem Sep.fresh0 (h : Sep w0 none_ L w) (hi : L[0]? = some φ) : St (New w0 w) φ w := by
  obtain ⟨_, fs, h2⟩ := h
  obtain ⟨f, hf, hst⟩ := h2.at_ hi
  exact hst.mono fun k hk => by
    obtain ⟨h3, h4⟩ := h2.fp_lt f (List.mem_of_getElem? hf) k hk
    exact ⟨h3.resolve_right fun h => h, h4⟩
/-- A store into a block known whole. -/
theorem Sep.store (h : Sep w0 M L w) (i : Nat) {b : Nat} {e : TypeId} {cs cs' : List Value} (hi : L[i]? = some (blk b e cs)) (hw : w' = w.setRow b cs'.toArray) : Sep w0 M (L.set i (blk b e cs')) w' := by
  subst hw
  refine h.change i hi fun f hf => ⟨(· = b), fun k hk => .inl (hk ▸ blk.mem hf), ?_, ⟨rfl, rfl, rfl, by simp, fun k hk hn => setRow_other w b k _ fun e => hn (e ▸ blk.mem hf)⟩⟩
  exact blk.St _ _ _ (setRow_heap w b _ _ e _ hf.out) rfl
end
end Go.Proofs.Ytjengglpbdgmnaa.V
