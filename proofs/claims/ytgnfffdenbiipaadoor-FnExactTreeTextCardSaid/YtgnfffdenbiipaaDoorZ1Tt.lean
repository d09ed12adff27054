/- The engine, part 7: slices that the call owns: made, read, stored into, appended to. No condition. -/
import Derived.Test.YtgnfffdenbiipaaDoorZ0Tt
import Derived.Laws.OwnMore
import Derived.ArgAppend
import Derived.Lib.SliceRun
import Derived.Test.YtgnfffdenbiipaaDoorRows
import Derived.ProofKit
import Derived.OpenShut
import Derived.Lib.SmallJoins
import Derived.Deep.Slices
namespace Go.Proofs.YtgnfffdenbiipaaDoor.V
open Go Go.RowKit
set_option linter.unusedVariables false
set_option linter.unusedSimpArgs false
/-- A slice that is owned: 'n' elements of 'm' cells, 'xs' all their cells. -/
def Own (e m : Nat) (a : Option Addr) (n c : Nat) (xs : List Value) : World → Prop := fun w => w.ownsRow 0 e m (.slice a n c) n xs
/-- The blocks of an owned slice. -/
def fpO (a : Option Addr) : Nat → Prop := fun b => a = some ⟨b, 0, none⟩
section
variable {e m n c : Nat} {a : Option Addr} {xs : List Value} {w : World} {f : Nat → Prop}
theorem Own.St (h : Own e m a n c xs w) (hf : ∀ b, fpO a b → f b) : V.St f (Own e m a n c xs) w := by
  intro w' ha
  obtain ⟨h1, h2⟩ := h
  refine ⟨h1, ?_⟩
  rcases h2 with h2 | ⟨g, cap, cur, hv, hb, hg, r⟩
  · exact .inl h2
  · have hag : a = some ⟨g, 0, none⟩ := by cases hv; rfl
    exact .inr ⟨g, cap, cur, hv, hb, by rw [ha g (hf g hag)]; exact hg, r⟩
theorem Own.mem (h : V.St f (Own e m a n c xs) w) : ∀ b, fpO a b → f b := by
  intro b hb
  unfold fpO at hb
  subst hb
  refine Classical.byContradiction fun hn => ?_
  obtain ⟨_, h1⟩ := h.out
  rcases h1 with ⟨h1, _⟩ | ⟨g, cap, cur, hv, _, hg, _⟩
  · cases h1
  · cases hv
    have hlt : b < w.heap.size := (Array.getElem?_eq_some_iff.1 hg).1
    obtain ⟨_, h2⟩ := h { w with heap := w.heap.setIfInBounds b (.map #[] 0) } fun k hk => by
      have : b ≠ k := fun e => hn (e ▸ hk)
      show (w.heap.setIfInBounds b (.map #[] 0))[k]? = _
      rw [Array.getElem?_setIfInBounds_ne this]
    rcases h2 with ⟨h2, _⟩ | ⟨g', cap', cur', hv', _, hg', _⟩
    · cases h2
    · cases hv'
      simp [hlt] at hg'
theorem Own.len (h : Own e m a n c xs w) : xs.length = n * m := h.1
theorem Own.max (h : Own e m a n c xs w) : n ≤ 9223372036854775807 := by
  rcases h.2 with ⟨_, h0⟩ | ⟨g, cap, cur, hv, _, _, hnc, hcm, _⟩
  · omega
  · simp only [maxLen] at hcm; omega
theorem Own.some_ (h : Own e m a n c xs w) (hn : 0 < n) : ∃ b, a = some ⟨b, 0, none⟩ := by
  rcases h.2 with ⟨_, h0⟩ | ⟨g, cap, cur, hv, _⟩
  · omega
  · exact ⟨g, by cases hv; rfl⟩
theorem Own.lt (h : Own e m a n c xs w) : ∀ b, fpO a b → b < w.heap.size := by
  intro b hb
  unfold fpO at hb
  subst hb
  rcases h.2 with ⟨h1, _⟩ | ⟨g, cap, cur, hv, _, hg, _⟩
  · cases h1
  · cases hv; exact (Array.getElem?_eq_some_iff.1 hg).1
theorem Own.cell (h : Own e m a n c xs w) {k : Nat} {v : Value} (hk : xs[k]? = some v) : ∃ b, a = some ⟨b, 0, none⟩ ∧ w.cell? ⟨b, k, none⟩ = some v := by
  have hn : 0 < n := by
    have h1 := (List.getElem?_eq_some_iff.1 hk).1
    have h2 := h.1
    rcases Nat.eq_zero_or_pos n with h0 | h0
    · subst h0; simp at h2; simp [h2] at h1
    · exact h0
  obtain ⟨b, hb⟩ := h.some_ hn
  subst hb
  refine ⟨b, rfl, ?_⟩
  have h3 : w.ownsRow 0 e m (.slice (some ⟨b, 0, none⟩) n c) n xs := h
  have := h3.cells (g := b) rfl k v hk
  rwa [add_addr, Nat.zero_add] at this
theorem Own.cellsAt (h : Own e 1 a n c xs w) : CellsAt a xs w := fun i v hi => by
  obtain ⟨b, hb, hc⟩ := h.cell hi
  exact ⟨b, 0, hb, by rw [Nat.zero_add]; exact hc⟩
theorem flat_get {css : List (List Value)} {m : Nat} (hm : ∀ cs ∈ css, cs.length = m) {i j : Nat} {cs : List Value} {v : Value} (hi : css[i]? = some cs) (hj : cs[j]? = some v) : css.flatten[i * m + j]? = some v := by
  induction css generalizing i with
  | nil => simp at hi
  | cons x css ih =>
    have hx := hm x List.mem_cons_self
    rw [List.flatten_cons]
    cases i with
    | zero =>
      simp at hi; subst hi
      rw [Nat.zero_mul, Nat.zero_add, List.getElem?_append_left (List.getElem?_eq_some_iff.1 hj).1]
      exact hj
    | succ i =>
      simp at hi
      have := ih (fun cs hcs => hm cs (List.mem_cons_of_mem _ hcs)) hi
      rw [List.getElem?_append_right (by rw [hx, Nat.succ_mul]; omega), hx, show (i + 1) * m + j - m = i * m + j from by rw [Nat.succ_mul]; omega]
      exact this
theorem Own.set {k : Nat} {v : Value} {b : Nat} {w' : World} (h : Own e m (some ⟨b, 0, none⟩) n c xs w) (hk : k < xs.length) (hw : ∃ cur : Array Value, w.heap[b]? = some (.cells cur e (0, 0)) ∧ w' = w.setRow b (cur.toList.take k ++ [v] ++ cur.toList.drop (k + 1)).toArray) : Own e m (some ⟨b, 0, none⟩) n c (xs.set k v) w' := by
  obtain ⟨cur, hc, rfl⟩ := hw
  obtain ⟨hl, h1⟩ := h
  rcases h1 with ⟨h1, _⟩ | ⟨g, cap, cur', hv, hb, hg, hnc, hcm, hcs, ht⟩
  · cases h1
  · cases hv
    rw [hc] at hg
    cases hg
    have hsz : cur.toList.length = c * m := by simp [hcs]
    have hle : n * m ≤ c * m := Nat.mul_le_mul_right m hnc
    have hset : cur.toList.take k ++ [v] ++ cur.toList.drop (k + 1) = cur.toList.set k v := by
      rw [List.set_eq_take_append_cons_drop, if_pos (by omega)]; simp
    refine ⟨by simp [hl], .inr ⟨b, c, _, rfl, Nat.zero_le _, setRow_heap w b cur _ e _ hc, hnc, hcm, ?_, ?_⟩⟩
    · rw [hset]; simp [hcs]
    · rw [hset, ← ht, List.take_set]
end
section
variable {P : Program} {n : Nat} {w0 : World} {M : Nat → Prop} {L L' : List (World → Prop)} {σ : Fr} {K K' : Ko} {c x y : Code} {ops : Array Oper} {S : World → Prop} {r : Sch} {i : Nat}
variable {d : Nat} {t : TypeId} {p : String} {af : Array Edge} {g : Option (Nat × Bool)} {a b : Operand}
variable {ty e m by_ N C : Nat} {ao : Option Addr} {xs : List Value} {zc : List Value}
/-- What 'make' and 'append' ask of the type of the elements: cells, bytes, zero value. -/
def Mk (P : Program) (ty e m by_ : Nat) (zc : List Value) : Prop :=
  P.underlying ty = some (.slice e) ∧ ∃ (i : TypeInfo) (z : Value), P.info? e = some i ∧ i.zero = some z ∧ i.size = m ∧ i.bytes = by_ ∧ z.cells = zc.toArray ∧ zc.length = m ∧ 0 < m ∧ 0 < by_
theorem made_flat {z : Array Value} {zc : List Value} {m : Nat} (hz : z = zc.toArray) (hm : zc.length = m) (h0 : 0 < m) (N : Nat) : (madeCells z (N * m)).toList = (List.replicate N zc).flatten := by
  subst hz
  apply List.ext_getElem?
  intro k
  unfold madeCells
  by_cases hk : k < N * m
  · have hd : k / m < N := (Nat.div_lt_iff_lt_mul h0).2 hk
    have hmod : k % m < m := Nat.mod_lt _ h0
    have hget : (List.replicate N zc)[k / m]? = some zc := by rw [List.getElem?_replicate, if_pos hd]
    have hz : zc[k % m]? = some (zc[k % m]'(by omega)) := List.getElem?_eq_getElem (by omega)
    have := flat_get (css := List.replicate N zc) (m := m) (fun cs hcs => by rw [(List.mem_replicate.1 hcs).2]; exact hm) hget hz
    rw [Nat.mul_comm, Nat.div_add_mod] at this
    rw [this]
    simp [hk, hm]
    rw [hz]; rfl
  · rw [List.getElem?_eq_none (by simp; omega), List.getElem?_eq_none]
    rw [List.length_flatten]; simp [hm]; omega
/-- 'make' of a slice. -/
theorem mks {k : IntKind} {z : Int} (N : Nat) (hM : Mk P ty e m by_ zc) (hS : ∀ bk w, Sep w0 M (Own e m (some ⟨bk, 0, none⟩) N N (List.replicate N zc).flatten :: L) w → S w) (ho : ops[i]? = some ⟨some d, .makeSlice ty a b, t, p, af, g⟩) (hg : go ops σ g) (ha : ev σ a = .int k z) (hb : ev σ b = .int k z) (hz : z = (N : Int)) (hN : by_ * N ≤ 140737488355328)
    (h : ∀ bk, w0.heap.size ≤ bk → RG P n w0 M ops S (Own e m (some ⟨bk, 0, none⟩) N N (List.replicate N zc).flatten :: L) r (upd σ d (.slice (some ⟨bk, 0, none⟩) N N)) K) : RG P n w0 M ops S L (.op .l i r) σ K := by
  obtain ⟨hu, inf, zv, hi, hz0, hs, hby, hzc, hm, hm0, hb0⟩ := hM
  subst hz
  have hN63 : N ≤ maxLen := by
    have : N ≤ by_ * N := Nat.le_mul_of_pos_left N hb0
    simp only [maxLen]; omega
  refine rL (good := fun bk => w0.heap.size ≤ bk) (Lx := fun bk => Own e m (some ⟨bk, 0, none⟩) N N (List.replicate N zc).flatten :: L) (v := fun bk => .slice (some ⟨bk, 0, none⟩) N N) hS ho hg (fun w hsep => ?_) h
  obtain ⟨w', hr, hown, hgr⟩ := run_make_full (P := P) w 0 ty e inf zv m hu hi hz0 hs k k N (by rw [hby]; omega) hN63 (Nat.zero_le _)
  have hex : Ext w w' := ⟨hgr.os, hgr.tape, hgr.output, hgr.size, fun q hq _ => hgr.block q hq (by simp)⟩
  have hlt : w.heap.size < w'.heap.size := by
    rcases hown.2 with ⟨h1, _⟩ | ⟨g', _, _, hv, _, hg', _⟩
    · cases h1
    · cases hv; exact (Array.getElem?_eq_some_iff.1 hg').1
  rw [made_flat hzc hm hm0] at hown
  have hown' : Own e m (some ⟨w.heap.size, 0, none⟩) N N (List.replicate N zc).flatten w' := hown
  unfold opw
  simp only [execOp, ha, hb, Sem.run_bind, hr, Result.andThen_ok, Sem.run_pure]
  exact ⟨w.heap.size, hsep.base_le, hsep.push hex (hown'.St fun q hq => by unfold fpO at hq; cases hq; exact ⟨Nat.le_refl _, hlt⟩), rfl⟩
/-- The address of an element of an owned slice. -/
theorem oxa {C cap : Nat} {k : IntKind} {z : Int} (j : Nat) (hj : L[j]? = some (Own e m ao N C xs)) (hE : Elt P ty m) (ho : ops[i]? = some ⟨some d, .indexAddr ty a b, t, p, af, g⟩) (hg : go ops σ g) (ha : ev σ a = .slice ao N cap) (hb : ev σ b = .int k z) (h0 : 0 ≤ z) (h1 : z < N)
    (h : ∀ gk, ao = some ⟨gk, 0, none⟩ → RG P n w0 M ops S L r (upd σ d (.pointer (some ⟨gk, z.toNat * m, none⟩))) K) : RG P n w0 M ops S L (.op .q i r) σ K := fun w hs => by
  obtain ⟨gk, hgk⟩ := (hs.at_ j hj).some_ (by omega)
  exact rQ ho hg (fun w _ => by rw [hgk] at ha; simp [execOp, ha, hb, run_indexAt (k := k) (bk := gk) (off := 0) (cap := cap) hE h0 h1 w]) (h gk hgk) w hs
theorem oxa1 {C cap : Nat} {k : IntKind} {z : Int} (j : Nat) (hj : L[j]? = some (Own e 1 ao N C xs)) (hE : Elt P ty 1) (ho : ops[i]? = some ⟨some d, .indexAddr ty a b, t, p, af, g⟩) (hg : go ops σ g) (ha : ev σ a = .slice ao N cap) (hb : ev σ b = .int k z) (h0 : 0 ≤ z) (h1 : z < N)
    (h : ∀ gk, ao = some ⟨gk, 0, none⟩ → RG P n w0 M ops S L r (upd σ d (.pointer (some ⟨gk, z.toNat, none⟩))) K) : RG P n w0 M ops S L (.op .q i r) σ K :=
  oxa j hj hE ho hg ha hb h0 h1 fun gk hgk => by rw [Nat.mul_one]; exact h gk hgk
theorem sto_opw {v : Value} {gk off : Nat} {w : World} (j : Nat) (hj : L[j]? = some (Own e m ao N C xs)) (hao : ao = some ⟨gk, 0, none⟩) (hz : Size P ty 1) (hv : v.oneCell' = true) (hlt : off < xs.length) (hs : Sep w0 M L w) (ha : ev σ a = .pointer (some ⟨gk, off, none⟩)) (hb : ev σ b = v) :
    opw P ⟨none, .store ty a b, t, p, af, g⟩ σ w fun σ' w' => Sep w0 M (L.set j (Own e m ao N C (xs.set off v))) w' ∧ σ' = σ := by
  subst hao
  have hown := hs.at_ j hj
  obtain ⟨cur, hcur⟩ : ∃ cur : Array Value, w.heap[gk]? = some (.cells cur e (0, 0)) ∧ off < cur.size := by
    rcases hown.2 with ⟨h1, _⟩ | ⟨g', cap, cur, hv', _, hg', hnc, _, hcs, ht⟩
    · cases h1
    · cases hv'
      refine ⟨cur, hg', ?_⟩
      have := hown.1
      have := Nat.mul_le_mul_right m hnc
      omega
  have hc : v.cells = #[v] := by cases v <;> first | rfl | cases hv
  have hst := run_storeCells_at P gk off e [v] 0 cur w hcur.1 (by simp; omega) (by simpa using hv)
  have hst' : (storeCells ⟨gk, off, none⟩ [v] 0).run P w = .ok () (w.setRow gk (cur.toList.take off ++ [v] ++ cur.toList.drop (off + 1)).toArray) := by simpa using hst
  unfold opw
  have hr : (Instr.storeAt ty (.pointer (some ⟨gk, off, none⟩)) v).run P w = .ok () (w.setRow gk (cur.toList.take off ++ [v] ++ cur.toList.drop (off + 1)).toArray) := by
    simp only [Instr.storeAt, Instr.sureAddr, storeVar, hz w, hc, Sem.run_bind, Sem.run_pure, Result.andThen_ok]
    simpa using hst'
  simp only [execOp, ha, hb, Sem.run_bind, hr, Result.andThen_ok, Sem.run_pure]
  refine ⟨hs.change j hj fun f hf => ⟨f, fun _ h => .inl h, (hown.set hlt ⟨cur, hcur.1, rfl⟩).St fun q hq => Own.mem hf q hq, ⟨rfl, rfl, rfl, by simp, fun k hk hn => setRow_other w gk k _ fun e => hn (e ▸ Own.mem hf gk rfl)⟩⟩, rfl⟩
/-- A store of one cell into an owned slice. -/
theorem sto {v : Value} {gk off : Nat} (j : Nat) (hj : L[j]? = some (Own e m ao N C xs)) (hao : ao = some ⟨gk, 0, none⟩) (hz : Size P ty 1) (hS : ∀ w, Sep w0 M (L.set j (Own e m ao N C (xs.set off v))) w → S w) (ho : ops[i]? = some ⟨none, .store ty a b, t, p, af, g⟩) (hg : go ops σ g) (ha : ev σ a = .pointer (some ⟨gk, off, none⟩)) (hb : ev σ b = v) (hv : v.oneCell' = true) (hlt : off < xs.length)
    (h : RG P n w0 M ops S (L.set j (Own e m ao N C (xs.set off v))) r σ K) : RG P n w0 M ops S L (.op .l i r) σ K :=
  rL1 (v := undef) hS ho hg (fun _ hs => sto_opw j hj hao hz hv hlt hs ha hb) h
/-- The nil slice is owned, with no block. -/
theorem Own.nil (e m : Nat) (w : World) : Own e m none 0 0 [] w := World.ownsRow_nil w 0 e m
end
end Go.Proofs.YtgnfffdenbiipaaDoor.V
/- The engine, part 8: pieces in whatever order, joined and fused; numbers, rows and nodes in slices, read and owned. No condition. -/
namespace Go.Proofs.YtgnfffdenbiipaaDoor.V
open Go Go.RowKit
set_option linter.unusedVariables false
set_option linter.unusedSimpArgs false
section
variable {w0 : World} {M : Nat → Prop} {L L' : List (World → Prop)} {w w' : World} {B T : Nat} {φ ψ χ : World → Prop}
theorem SepL.perm (hp : L.Perm L') : ∀ {fs : List (Nat → Prop)}, SepL M B T fs L w → ∃ fs', (∀ g, g ∈ fs' ↔ g ∈ fs) ∧ SepL M B T fs' L' w := by
  induction hp with
  | nil => intro fs h; exact ⟨fs, fun _ => Iff.rfl, h⟩
  | cons a _ ih =>
    intro fs h
    cases fs with
    | nil => exact h.elim
    | cons f fs =>
      obtain ⟨h1, h2, h3, h4⟩ := h
      obtain ⟨fs', hm, h4'⟩ := ih h4
      exact ⟨f :: fs', fun g => by simp [hm], h1, fun g hg => h2 g ((hm g).1 hg), h3, h4'⟩
  | swap a b l =>
    intro fs h
    match fs, h with
    | f :: g :: fs, ⟨h1, h2, h3, h4, h5, h6, h7⟩ =>
      refine ⟨g :: f :: fs, fun q => by simp only [List.mem_cons]; exact ⟨fun h => by rcases h with h | h | h <;> simp [h], fun h => by rcases h with h | h | h <;> simp [h]⟩, h4, fun q hq k hk hqk => ?_, h6, h1, fun q hq => h2 q (List.mem_cons_of_mem _ hq), h3, h7⟩
      rcases List.mem_cons.1 hq with rfl | hq
      · exact h2 g List.mem_cons_self k hqk hk
      · exact h5 q hq k hk hqk
    | [_], ⟨_, _, _, h⟩ => exact h.elim
    | [], h => exact h.elim
  | trans _ _ ih1 ih2 =>
    intro fs h
    obtain ⟨fs1, hm1, h1⟩ := ih1 h
    obtain ⟨fs2, hm2, h2⟩ := ih2 h1
    exact ⟨fs2, fun g => (hm2 g).trans (hm1 g), h2⟩
theorem Sep.perm (h : Sep w0 M L w) (hp : L.Perm L') : Sep w0 M L' w := by
  obtain ⟨h1, fs, h2⟩ := h
  obtain ⟨fs', _, h3⟩ := h2.perm hp
  exact ⟨h1, fs', h3⟩
theorem pull : ∀ {L : List (World → Prop)} {i : Nat}, L[i]? = some φ → L.Perm (φ :: L.eraseIdx i)
  | [], _, h => by simp at h
  | a :: L, 0, h => by simp at h; subst h; exact .refl _
  | a :: L, i + 1, h => by
    simp at h
    exact ((pull h).cons a).trans (.swap _ _ _)
/-- Pieces, each by its place among those that are left. -/
def pickL : List Nat → List (World → Prop) → List (World → Prop)
  | [], _ => []
  | i :: is, L => match L[i]? with
    | some φ => φ :: pickL is (L.eraseIdx i)
    | none => pickL is L
theorem Sep.pick (is : List Nat) (h : Sep w0 M L w) : Sep w0 M (pickL is L) w := by
  have key : ∀ (is : List Nat) (L : List (World → Prop)), ∃ R, L.Perm (pickL is L ++ R) := by
    intro is
    induction is with
    | nil => intro L; exact ⟨L, .refl _⟩
    | cons i is ih =>
      intro L
      unfold pickL
      cases hi : L[i]? with
      | none => exact ih L
      | some φ =>
        obtain ⟨R, hR⟩ := ih (L.eraseIdx i)
        exact ⟨R, (pull hi).trans (hR.cons φ)⟩
  obtain ⟨R, hR⟩ := key is L
  exact (h.perm hR).sub (List.sublist_append_left _ _)
/-- A piece says less, or otherwise. -/
theorem Sep.imp (h : Sep w0 M L w) (j : Nat) (hj : L[j]? = some φ) (hi : ∀ w, φ w → ψ w) : Sep w0 M (L.set j ψ) w :=
  h.change j hj fun f hf => ⟨f, fun _ h => .inl h, hf.imp hi, Upd.refl _ _⟩
/-- A piece that needs no memory. -/
theorem Sep.bare (h : Sep w0 M L w) (hφ : ∀ f, St f φ w) : Sep w0 M (φ :: L) w := h.push (Upd.refl _ _) (hφ _)
theorem Sep.pure (h : Sep w0 M L w) {q : Prop} (hq : q) : Sep w0 M ((fun _ => q) :: L) w := h.bare fun _ _ _ => hq
/-- Two pieces become one. -/
theorem Sep.fuse (h : Sep w0 M (φ :: ψ :: L) w) (hs : ∀ f g, St f φ w → St g ψ w → (∀ k, f k → ¬ g k) → ∃ f' : Nat → Prop, (∀ k, f' k → f k ∨ g k ∨ New w w' k) ∧ St f' χ w' ∧ Upd (fun k => f k ∨ g k) w w') : Sep w0 M (χ :: L) w' := by
  obtain ⟨h1, fs, h2⟩ := h
  match fs, h2 with
  | f :: g :: fs, ⟨k1, k2, k3, k4, k5, k6, k7⟩ =>
    obtain ⟨f', hf', hχ, hu⟩ := hs f g k3 k6 (fun k hk hg => k2 g List.mem_cons_self k hk hg)
    refine ⟨⟨hu.os.trans h1.os, hu.tape.trans h1.tape, hu.output.trans h1.output, Nat.le_trans h1.size hu.size, fun k hk hm => ?_⟩, f' :: fs, fun k hk => ?_, fun q hq k hk hqk => ?_, hχ, ?_⟩
    · rw [hu.block k (Nat.lt_of_lt_of_le hk h1.size) fun hfk => ?_]
      · exact h1.block k hk hm
      · rcases hfk with hfk | hfk
        · rcases (k1 k hfk).1 with h | h
          · exact Nat.not_le_of_lt hk h
          · exact hm h
        · rcases (k4 k hfk).1 with h | h
          · exact Nat.not_le_of_lt hk h
          · exact hm h
    · rcases hf' k hk with h | h | h
      · exact ⟨(k1 k h).1, Nat.lt_of_lt_of_le (k1 k h).2 hu.size⟩
      · exact ⟨(k4 k h).1, Nat.lt_of_lt_of_le (k4 k h).2 hu.size⟩
      · exact ⟨.inl (Nat.le_trans h1.size h.1), h.2⟩
    · rcases hf' k hk with h | h | h
      · exact k2 q (List.mem_cons_of_mem _ hq) k h hqk
      · exact k5 q hq k h hqk
      · have := (k7.fp_lt q hq k hqk).2; have := h.1; omega
    · exact k7.keep hu.size fun q hq k hk => hu.block k (k7.fp_lt q hq k hk).2 fun hfg => by
        rcases hfg with hfg | hfg
        · exact k2 q (List.mem_cons_of_mem _ hq) k hfg hk
        · exact k5 q hq k hfg hk
  | [_], ⟨_, _, _, h⟩ => exact h.elim
  | [], h => exact h.elim
/-- What a call made stands beside what there was. -/
theorem Sep.join (h : Sep w0 M L w) (h' : Sep w none_ L' w') : Sep w0 M (L' ++ L) w' := by
  have he : Ext w w' := h'.1
  have hL := h.ext he
  obtain ⟨h1, fs, h2⟩ := h
  obtain ⟨_, fs', h3⟩ := h'
  refine ⟨hL.1, ?_⟩
  have base := h2.keep (T' := w'.heap.size) he.size (w' := w') fun g hg k hk => he.block k (h2.fp_lt g hg k hk).2 fun h => h
  have key : ∀ (fs' : List (Nat → Prop)) (L' : List (World → Prop)), SepL none_ w.heap.size w'.heap.size fs' L' w' → SepL M w0.heap.size w'.heap.size (fs' ++ fs) (L' ++ L) w' := by
    intro fs' 
    induction fs' with
    | nil => intro L' h; cases L' with | nil => exact base | cons _ _ => exact h.elim
    | cons f fs' ih =>
      intro L' h
      cases L' with
      | nil => exact h.elim
      | cons φ L' =>
        obtain ⟨a1, a2, a3, a4⟩ := h
        refine ⟨fun k hk => ⟨.inl (Nat.le_trans h1.size ((a1 k hk).1.resolve_right fun h => h)), (a1 k hk).2⟩, fun g hg k hk hgk => ?_, a3, ih L' a4⟩
        rcases List.mem_append.1 hg with hg | hg
        · exact a2 g hg k hk hgk
        · have := (h2.fp_lt g hg k hgk).2
          have := (a1 k hk).1.resolve_right fun h => h
          omega
  exact ⟨fs' ++ fs, key fs' L' h3⟩
end
section
variable {P : Program} {n : Nat} {w0 : World} {M : Nat → Prop} {L L' : List (World → Prop)} {σ : Fr} {K K' : Ko} {c x y : Code} {ops : Array Oper} {S : World → Prop} {r : Sch} {i : Nat}
variable {d : Nat} {t : TypeId} {p : String} {af : Array Edge} {g : Option (Nat × Bool)} {a b : Operand}
/-- A call that hands back pieces. -/
theorem callS {α : Type} {f : FuncId} {args : Array Operand} {tys : Array TypeId} {val : α → Value} {good : α → Prop} {φs : α → List (World → Prop)} (hf : ∀ args w, (callFunc f args).run P w = .ok (.enter f args) w) (hS : ∀ x w, Sep w0 M (φs x ++ L) w → S w) (ho : ops[i]? = some ⟨some d, .call ⟨.value (.func f), args, tys⟩, t, p, af, g⟩) (hg : go ops σ g)
    (hc : ∀ w, Sep w0 M L w → Calls P f (args.toList.map (ev σ)).toArray w (Ret fun v' w' => ∃ x, v' = val x ∧ good x ∧ Sep w none_ (φs x) w')) (h : ∀ x, good x → RG P n w0 M ops S (φs x ++ L) r (upd σ d (val x)) K) : RG P n w0 M ops S L (.op .l i r) σ K :=
  rL (Lx := fun x => φs x ++ L) (v := val) hS ho hg (fun w hs => call_opw hf (hc w hs) fun v' w' ⟨x, he, hx, hsep⟩ => by subst he; exact ⟨x, hx, hs.join hsep, rfl⟩) h
end
/-! ### Numbers in slices -/
def iv (zs : List Int) : List Value := zs.map (Value.int .i64)
theorem iv_get {zs : List Int} {k : Nat} (h : k < zs.length) : (iv zs)[k]? = some (.int .i64 (zs.getD k 0)) := by
  simp [iv, List.getD, List.getElem?_eq_getElem h]
theorem iv_len (zs : List Int) : (iv zs).length = zs.length := by simp [iv]
theorem iv_set (zs : List Int) (k : Nat) (x : Int) : (iv zs).set k (.int .i64 x) = iv (zs.set k x) := by simp [iv, List.map_set]
theorem iv_rep (N : Nat) : (List.replicate N [Value.int .i64 0]).flatten = iv (List.replicate N 0) := by
  induction N with
  | zero => rfl
  | succ N ih => simp [List.replicate_succ, iv] at ih ⊢
/-- A slice of numbers, read. -/
def RdI (a : Option Addr) (n : Nat) (zs : List Int) : World → Prop := fun w => zs.length = n ∧ n ≤ 9223372036854775807 ∧ CellsAt a (iv zs) w
theorem RdI.ext {a : Option Addr} {n : Nat} {zs : List Int} {w w' : World} (h : RdI a n zs w) (he : Ext w w') : RdI a n zs w' := ⟨h.1, h.2.1, h.2.2.ext he⟩
theorem RdI.nil (a : Option Addr) (w : World) : RdI a 0 [] w := ⟨rfl, by decide, CellsAt.nil _ _⟩
/-- A slice of numbers, owned. -/
def OwnI (e : Nat) (a : Option Addr) (n c : Nat) (zs : List Int) : World → Prop := Own e 1 a n c (iv zs)
theorem OwnI.rd {e : Nat} {a : Option Addr} {n c : Nat} {zs : List Int} {w : World} (h : OwnI e a n c zs w) : RdI a n zs w := ⟨by have := h.len; rw [iv_len] at this; omega, Own.max h, Own.cellsAt h⟩
theorem OwnI.lenz {e : Nat} {a : Option Addr} {n c : Nat} {zs : List Int} {w : World} (h : OwnI e a n c zs w) : zs.length = n := h.rd.1
theorem OwnI.nil (e : Nat) (w : World) : OwnI e none 0 0 [] w := Own.nil e 1 w
section
variable {P : Program} {n : Nat} {w0 : World} {M : Nat → Prop} {L L' : List (World → Prop)} {σ : Fr} {K K' : Ko} {c x y : Code} {ops : Array Oper} {S : World → Prop} {r : Sch} {i : Nat}
variable {d : Nat} {t : TypeId} {p : String} {af : Array Edge} {g : Option (Nat × Bool)} {a b : Operand}
variable {ty e m by_ N C : Nat} {ao : Option Addr} {zs : List Int} {zc : List Value}
theorem ixIq {len cap : Nat} {k : IntKind} {z : Int} {q : Option Addr} (hE : Elt P ty 1) (hC : ∀ w, S w → RdI q len zs w) (hS : ∀ w, Sep w0 M L w → S w) (ho : ops[i]? = some ⟨some d, .indexAddr ty a b, t, p, af, g⟩) (hg : go ops σ g) (ha : ev σ a = .slice q len cap) (hb : ev σ b = .int k z) (h0 : 0 ≤ z) (h1 : z < len) {zn : Nat} (hzn : z.toNat = zn)
    (h : ∀ ad, (∀ w, S w → w.cell? ad = some (.int .i64 (zs.getD zn 0))) → RG P n w0 M ops S L r (upd σ d (.pointer (some ad))) K) : RG P n w0 M ops S L (.op .q i r) σ K := fun w hs => by
  subst hzn
  exact ixq hE (fun w hw => (hC w hw).2.2) hS ho hg ha hb h0 h1 (iv_get (by have := (hC w (hS w hs)).1; omega)) h w hs
theorem ixIl {len cap : Nat} {k : IntKind} {z : Int} {q : Option Addr} (hE : Elt P ty 1) (hC : Kn w0 M L (RdI q len zs)) (ho : ops[i]? = some ⟨some d, .indexAddr ty a b, t, p, af, g⟩) (hg : go ops σ g) (ha : ev σ a = .slice q len cap) (hb : ev σ b = .int k z) (h0 : 0 ≤ z) (h1 : z < len) {zn : Nat} (hzn : z.toNat = zn)
    (h : ∀ ad, (Kn w0 M L fun w => w.cell? ad = some (.int .i64 (zs.getD zn 0))) → RG P n w0 M ops S L r (upd σ d (.pointer (some ad))) K) : RG P n w0 M ops S L (.op .q i r) σ K := fun w hs => by
  subst hzn
  exact ixl hE (hC.imp fun _ h => h.2.2) ho hg ha hb h0 h1 (iv_get (by have := (hC w hs).1; omega)) h w hs
theorem mksI {k : IntKind} {z : Int} (N : Nat) (hM : Mk P ty e 1 by_ [.int .i64 0]) (hS : ∀ bk w, Sep w0 M (OwnI e (some ⟨bk, 0, none⟩) N N (List.replicate N 0) :: L) w → S w) (ho : ops[i]? = some ⟨some d, .makeSlice ty a b, t, p, af, g⟩) (hg : go ops σ g) (ha : ev σ a = .int k z) (hb : ev σ b = .int k z) (hz : z = (N : Int)) (hN : by_ * N ≤ 140737488355328)
    (h : ∀ bk, w0.heap.size ≤ bk → RG P n w0 M ops S (OwnI e (some ⟨bk, 0, none⟩) N N (List.replicate N 0) :: L) r (upd σ d (.slice (some ⟨bk, 0, none⟩) N N)) K) : RG P n w0 M ops S L (.op .l i r) σ K := by
  unfold OwnI at hS h
  rw [← iv_rep] at hS h
  exact mks N hM hS ho hg ha hb hz hN h
theorem oxI {cap : Nat} {k : IntKind} {z : Int} (j : Nat) (hj : L[j]? = some (OwnI e ao N C zs)) (hE : Elt P ty 1) (ho : ops[i]? = some ⟨some d, .indexAddr ty a b, t, p, af, g⟩) (hg : go ops σ g) (ha : ev σ a = .slice ao N cap) (hb : ev σ b = .int k z) (h0 : 0 ≤ z) (h1 : z < N) {zn : Nat} (hzn : z.toNat = zn)
    (h : ∀ gk, ao = some ⟨gk, 0, none⟩ → RG P n w0 M ops S L r (upd σ d (.pointer (some ⟨gk, zn, none⟩))) K) : RG P n w0 M ops S L (.op .q i r) σ K := by
  subst hzn
  exact oxa1 j hj hE ho hg ha hb h0 h1 h
theorem stoI {x : Int} {gk off : Nat} (j : Nat) (hj : L[j]? = some (OwnI e ao N C zs)) (hao : ao = some ⟨gk, 0, none⟩) (hz : Size P ty 1) (hS : ∀ w, Sep w0 M (L.set j (OwnI e ao N C (zs.set off x))) w → S w) (ho : ops[i]? = some ⟨none, .store ty a b, t, p, af, g⟩) (hg : go ops σ g) (ha : ev σ a = .pointer (some ⟨gk, off, none⟩)) (hb : ev σ b = .int .i64 x) (hlt : off < N)
    (h : RG P n w0 M ops S (L.set j (OwnI e ao N C (zs.set off x))) r σ K) : RG P n w0 M ops S L (.op .l i r) σ K := fun w hs => by
  have hlen := (show OwnI e ao N C zs w from hs.at_ j hj).lenz
  unfold OwnI at hS h hj
  rw [← iv_set] at hS h
  exact sto j hj hao hz hS ho hg ha hb rfl (by rw [iv_len]; omega) h w hs
end
end Go.Proofs.YtgnfffdenbiipaaDoor.V
/- The engine, part 9: slices of rows, each of which leads to a slice of numbers: read and owned. No condition. -/
namespace Go.Proofs.YtgnfffdenbiipaaDoor.V
open Go Go.RowKit
set_option linter.unusedVariables false
set_option linter.unusedSimpArgs false
/-- A slice's address and capacity. -/
abbrev Hd := Option Addr × Nat
/-- How an element lies: its cells, the numbers that it leads to, how many cells. -/
structure RK (α : Type) where
  cells : α → Hd → List Value
  kid : α → List Int
  m : Nat
structure RK.Ok {α : Type} (k : RK α) : Prop where
  len : ∀ x h, (k.cells x h).length = k.m
  one : ∀ x h, ∀ v ∈ k.cells x h, v.oneCell' = true
  pos : 0 < k.m
/-- A node of a tree. -/
structure Nd where
  pl : Int
  p0 : Int
  p1 : Int
  fo : Int
  ch : List Int
def dN : Nd := ⟨0, 0, 0, 0, []⟩
def ndC (x : Nd) (h : Hd) : List Value := [.int .i64 x.pl, .int .i64 x.p0, .int .i64 x.p1, .int .i64 x.fo, .slice h.1 x.ch.length h.2]
def ndK : RK Nd := ⟨ndC, Nd.ch, 5⟩
def maK : RK (List Int) := ⟨fun zs h => [.slice h.1 zs.length h.2], fun zs => zs, 1⟩
theorem ndK.ok : ndK.Ok := ⟨fun _ _ => rfl, fun x h v hv => by simp [ndK, ndC] at hv; rcases hv with rfl | rfl | rfl | rfl | rfl <;> rfl, by decide⟩
theorem maK.ok : maK.Ok := ⟨fun _ _ => rfl, fun x h v hv => by simp [maK] at hv; subst hv; rfl, by decide⟩
def hset (hs : Nat → Hd) (i : Nat) (h : Hd) : Nat → Hd := fun j => if j = i then h else hs j
theorem hset_same (hs : Nat → Hd) (i : Nat) (h : Hd) : hset hs i h i = h := by simp [hset]
theorem hset_other (hs : Nat → Hd) {i j : Nat} (h : Hd) (hne : j ≠ i) : hset hs i h j = hs j := by simp [hset, hne]
/-- The cells of all rows. -/
def rowsV {α : Type} (k : RK α) (hs : Nat → Hd) (xs : List α) : List (List Value) := xs.mapIdx fun i x => k.cells x (hs i)
theorem nth {α : Type} {xs : List α} {k : Nat} (d : α) (h : k < xs.length) : xs[k]? = some (xs.getD k d) := by simp [List.getD, List.getElem?_eq_getElem h]
section
variable {α : Type} {k : RK α} {hs : Nat → Hd} {xs : List α} {x : α} {i : Nat}
theorem rowsV_len : (rowsV k hs xs).length = xs.length := by simp [rowsV]
theorem rowsV_get (h : xs[i]? = some x) : (rowsV k hs xs)[i]? = some (k.cells x (hs i)) := by simp [rowsV, h]
theorem rowsV_all (hk : k.Ok) : ∀ cs ∈ rowsV k hs xs, cs.length = k.m := by
  intro cs hcs
  obtain ⟨i, hi⟩ := List.mem_iff_getElem?.1 hcs
  simp only [rowsV, List.getElem?_mapIdx] at hi
  cases hx : xs[i]? with
  | none => rw [hx] at hi; simp at hi
  | some y => rw [hx] at hi; simp at hi; subst hi; exact hk.len _ _
theorem rowsV_set (h : i < xs.length) (hd : Hd) : rowsV k (hset hs i hd) (xs.set i x) = (rowsV k hs xs).set i (k.cells x hd) := by
  apply List.ext_getElem?
  intro j
  simp only [rowsV, List.getElem?_mapIdx, List.getElem?_set, List.length_mapIdx]
  by_cases hj : i = j
  · subst hj; simp [h, hset_same]
  · simp only [if_neg hj]
    cases hx : xs[j]? with
    | none => rfl
    | some y => simp [hset_other hs hd (Ne.symm hj)]
theorem rowsV_same (h : i < xs.length) : rowsV k hs (xs.set i x) = (rowsV k hs xs).set i (k.cells x (hs i)) := by
  have : hset hs i (hs i) = hs := by funext j; unfold hset; split <;> simp_all
  have h2 := rowsV_set (k := k) (hs := hs) (x := x) h (hs i)
  rwa [this] at h2
theorem flat_set {css : List (List Value)} {m i : Nat} {cs : List Value} (hm : ∀ cs ∈ css, cs.length = m) (hc : cs.length = m) (hi : i < css.length) : (css.set i cs).flatten = css.flatten.take (i * m) ++ cs ++ css.flatten.drop (i * m + m) := by
  induction css generalizing i with
  | nil => simp at hi
  | cons y css ih =>
    have hy := hm y List.mem_cons_self
    cases i with
    | zero => simp [List.drop_append, hy]
    | succ i =>
      have := ih (i := i) (fun c hc => hm c (List.mem_cons_of_mem _ hc)) (by simpa using hi)
      have e1 : (y ++ css.flatten).take (i * m + m) = y ++ css.flatten.take (i * m) := by
        rw [List.take_append, List.take_of_length_le (by omega), show i * m + m - y.length = i * m from by omega]
      have e2 : (y ++ css.flatten).drop (i * m + m + m) = css.flatten.drop (i * m + m) := by
        rw [List.drop_append, List.drop_of_length_le (by omega), show i * m + m + m - y.length = i * m + m from by omega, List.nil_append]
      simp only [List.set_cons_succ, List.flatten_cons, this, Nat.succ_mul, e1, e2]
      simp [List.append_assoc]
theorem flat_len {css : List (List Value)} {m : Nat} (hm : ∀ cs ∈ css, cs.length = m) : css.flatten.length = css.length * m := by
  induction css with
  | nil => simp
  | cons y css ih =>
    rw [List.flatten_cons, List.length_append, hm y List.mem_cons_self, ih fun c hc => hm c (List.mem_cons_of_mem _ hc), List.length_cons, Nat.succ_mul, Nat.add_comm]
end
/-- Rows, read. -/
def RdR {α : Type} (k : RK α) (a : Option Addr) (n : Nat) (hs : Nat → Hd) (xs : List α) : World → Prop := fun w =>
  xs.length = n ∧ n ≤ 9223372036854775807 ∧ ∀ i x, xs[i]? = some x → (∃ b off, a = some ⟨b, off, none⟩ ∧ ∀ j v, (k.cells x (hs i))[j]? = some v → w.cell? ⟨b, off + i * k.m + j, none⟩ = some v) ∧ RdI (hs i).1 (k.kid x).length (k.kid x) w
theorem RdR.ext {α : Type} {k : RK α} {a : Option Addr} {n : Nat} {hs : Nat → Hd} {xs : List α} {w w' : World} (h : RdR k a n hs xs w) (he : Ext w w') : RdR k a n hs xs w' :=
  ⟨h.1, h.2.1, fun i x hx => by
    obtain ⟨⟨b, off, ha, hc⟩, hk⟩ := h.2.2 i x hx
    exact ⟨⟨b, off, ha, fun j v hj => he.cell (hc j v hj)⟩, hk.ext he⟩⟩
theorem RdR.kid {α : Type} {k : RK α} {a : Option Addr} {n : Nat} {hs : Nat → Hd} {xs : List α} {w : World} {i : Nat} {x : α} (h : RdR k a n hs xs w) (hx : xs[i]? = some x) : RdI (hs i).1 (k.kid x).length (k.kid x) w := (h.2.2 i x hx).2
theorem RdR.kidN {a : Option Addr} {n : Nat} {hs : Nat → Hd} {xs : List Nd} {w : World} {i : Nat} {x : Nd} (h : RdR ndK a n hs xs w) (hx : xs[i]? = some x) : RdI (hs i).1 x.ch.length x.ch w := (h.2.2 i x hx).2
/-- Rows, owned. -/
def OwnR {α : Type} (k : RK α) (e e1 : Nat) (a : Option Addr) (n c : Nat) (hs : Nat → Hd) (xs : List α) : World → Prop := fun w =>
  xs.length = n ∧ Own e k.m a n c (rowsV k hs xs).flatten w ∧ (∀ i x, xs[i]? = some x → OwnI e1 (hs i).1 (k.kid x).length (hs i).2 (k.kid x) w) ∧
  (∀ i j b, i < n → j < n → fpO (hs i).1 b → fpO (hs j).1 b → i = j) ∧ (∀ i b, i < n → fpO (hs i).1 b → ¬ fpO a b)
def fpR (a : Option Addr) (hs : Nat → Hd) (n : Nat) : Nat → Prop := fun b => fpO a b ∨ ∃ i, i < n ∧ fpO (hs i).1 b
section
variable {α : Type} {k : RK α} {e e1 : Nat} {a : Option Addr} {n c : Nat} {hs : Nat → Hd} {xs : List α} {w w' : World} {f : Nat → Prop}
theorem OwnR.St (h : OwnR k e e1 a n c hs xs w) (hf : ∀ b, fpR a hs n b → f b) : V.St f (OwnR k e e1 a n c hs xs) w := by
  intro w' ha
  obtain ⟨h0, h1, h2, h3, h4⟩ := h
  refine ⟨h0, (h1.St fun b hb => hf b (.inl hb)) w' ha, fun i x hx => ?_, h3, h4⟩
  have hi : i < n := by rw [← h0]; exact (List.getElem?_eq_some_iff.1 hx).1
  exact (Own.St (h2 i x hx) fun b hb => hf b (.inr ⟨i, hi, hb⟩)) w' ha
theorem OwnR.mem (h : V.St f (OwnR k e e1 a n c hs xs) w) : ∀ b, fpR a hs n b → f b := by
  intro b hb
  rcases hb with hb | ⟨i, hi, hb⟩
  · exact Own.mem (h.imp fun w h => h.2.1) b hb
  · have h0 := h.out.1
    have hx : xs[i]? = some (xs[i]'(by omega)) := List.getElem?_eq_getElem (by omega)
    exact Own.mem (show V.St f (OwnI e1 (hs i).1 (k.kid _).length (hs i).2 (k.kid _)) w from h.imp fun w h => h.2.2.1 i _ hx) b hb
theorem OwnR.cell (h : OwnR k e e1 a n c hs xs w) (hk : k.Ok) {i j : Nat} {x : α} {v : Value} (hx : xs[i]? = some x) (hj : (k.cells x (hs i))[j]? = some v) : ∃ b, a = some ⟨b, 0, none⟩ ∧ w.cell? ⟨b, i * k.m + j, none⟩ = some v :=
  h.2.1.cell (flat_get (rowsV_all hk) (rowsV_get hx) hj)
theorem OwnR.rd (h : OwnR k e e1 a n c hs xs w) (hk : k.Ok) : RdR k a n hs xs w := by
  refine ⟨h.1, h.2.1.max, fun i x hx => ⟨?_, (h.2.2.1 i x hx).rd⟩⟩
  have hpos := hk.pos
  have hlen := hk.len x (hs i)
  obtain ⟨b, hb, _⟩ := h.cell hk hx (j := 0) (v := (k.cells x (hs i))[0]'(by omega)) (List.getElem?_eq_getElem (by omega))
  refine ⟨b, 0, hb, fun j v hj => ?_⟩
  obtain ⟨b', hb', hc⟩ := h.cell hk hx hj
  rw [hb] at hb'; cases hb'
  rw [Nat.zero_add]; exact hc
theorem OwnR.nil (k : RK α) (e e1 : Nat) (hs : Nat → Hd) (w : World) : OwnR k e e1 none 0 0 hs [] w := ⟨rfl, Own.nil e k.m w, fun _ _ h => by simp at h, fun _ _ _ h => by omega, fun _ _ h => by omega⟩
/-- Rows whose kids are nil. -/
theorem OwnR.ofZero (hk : k.Ok) {z : α} {zc : List Value} (hz : k.cells z (none, 0) = zc) (hkid : k.kid z = []) {b N : Nat} (h : Own e k.m (some ⟨b, 0, none⟩) N N (List.replicate N zc).flatten w) :
    OwnR k e e1 (some ⟨b, 0, none⟩) N N (fun _ => (none, 0)) (List.replicate N z) w := by
  refine ⟨by simp, ?_, fun i x hx => ?_, (fun i j b hi hj hb => by cases hb), (fun i b hi hb => by cases hb)⟩
  · have : rowsV k (fun _ => (none, 0)) (List.replicate N z) = List.replicate N zc := by
      subst hz
      apply List.ext_getElem?
      intro j
      simp only [rowsV, List.getElem?_mapIdx, List.getElem?_replicate]
      by_cases hj : j < N <;> simp [hj]
    rw [this]; exact h
  · have : x = z := (List.mem_replicate.1 (List.mem_of_getElem? hx)).2
    subst this
    rw [hkid]; exact OwnI.nil e1 w
theorem Own.setN {m k : Nat} {cs news : List Value} {b : Nat} (h : Own e m (some ⟨b, 0, none⟩) n c cs w) (hk : k + news.length ≤ cs.length) :
    ∃ cur : Array Value, w.heap[b]? = some (.cells cur e (0, 0)) ∧ k + news.length ≤ cur.size ∧ Own e m (some ⟨b, 0, none⟩) n c (cs.take k ++ news ++ cs.drop (k + news.length)) (w.setRow b (cur.toList.take k ++ news ++ cur.toList.drop (k + news.length)).toArray) := by
  obtain ⟨hl, h1⟩ := h
  rcases h1 with ⟨h1, _⟩ | ⟨g, cap, cur, hv, hb, hg, hnc, hcm, hcs, ht⟩
  · cases h1
  · cases hv
    have hle : n * m ≤ c * m := Nat.mul_le_mul_right m hnc
    have hsz : cur.toList.length = c * m := by simp [hcs]
    refine ⟨cur, hg, by omega, by simp; omega, .inr ⟨b, c, _, rfl, Nat.zero_le _, setRow_heap w b cur _ e _ hg, hnc, hcm, ?_, ?_⟩⟩
    · simp; omega
    · show List.take (n * m) (cur.toList.take k ++ news ++ cur.toList.drop (k + news.length)) = _
      rw [← ht, List.take_append, List.take_append, List.length_append, List.length_take, List.take_take, List.take_take, List.drop_take]
      rw [show min k cur.toList.length = k from by omega, show min (n * m) k = k from by omega, show min k (n * m) = k from by omega, List.take_of_length_le (l := news) (by omega), show n * m - (k + news.length) = n * m - (k + news.length) from rfl]
/-- A row is replaced, with what it leads to. -/
theorem OwnR.setRow_ (hk : k.Ok) {b i : Nat} {x : α} {hd : Hd} {f g : Nat → Prop} (h : OwnR k e e1 (some ⟨b, 0, none⟩) n c hs xs w) (hkid : OwnI e1 hd.1 (k.kid x).length hd.2 (k.kid x) w) (hi : i < n)
    (hf : ∀ q, fpR (some ⟨b, 0, none⟩) hs n q → f q) (hg : ∀ q, fpO hd.1 q → g q) (hfg : ∀ q, f q → ¬ g q) :
    ∃ cur : Array Value, w.heap[b]? = some (.cells cur e (0, 0)) ∧ i * k.m + (k.cells x hd).length ≤ cur.size ∧ OwnR k e e1 (some ⟨b, 0, none⟩) n c (hset hs i hd) (xs.set i x) (w.setRow b (cur.toList.take (i * k.m) ++ k.cells x hd ++ cur.toList.drop (i * k.m + (k.cells x hd).length)).toArray) := by
  obtain ⟨h0, h1, h2, h3, h4⟩ := h
  have hfl : (rowsV k hs xs).flatten.length = n * k.m := h1.len
  have hle := Nat.mul_le_mul_right k.m (show i + 1 ≤ n from hi)
  rw [Nat.succ_mul] at hle
  obtain ⟨cur, hc, hsz, hown⟩ := h1.setN (k := i * k.m) (news := k.cells x hd) (by rw [hfl, hk.len]; exact hle)
  refine ⟨cur, hc, hsz, by simpa using h0, ?_, fun j y hy => ?_, fun j j' q hj hj' hq hq' => ?_, fun j q hj hq => ?_⟩
  · rw [rowsV_set (by omega), flat_set (rowsV_all hk) (hk.len _ _) (by rw [rowsV_len]; omega)]
    rw [hk.len] at hown ⊢
    exact hown
  · have keep : ∀ {hd' : Hd} {zs : List Int} {nn : Nat}, OwnI e1 hd'.1 nn hd'.2 zs w → (∀ q, fpO hd'.1 q → ¬ q = b) → OwnI e1 hd'.1 nn hd'.2 zs (w.setRow b (cur.toList.take (i * k.m) ++ k.cells x hd ++ cur.toList.drop (i * k.m + (k.cells x hd).length)).toArray) := fun ho hq =>
      (Own.St (f := fpO _) ho fun _ h => h) _ fun q hq' => setRow_other w b q _ (hq q hq')
    by_cases hji : j = i
    · subst hji
      rw [List.getElem?_set_self (by omega)] at hy
      cases hy
      rw [hset_same]
      exact keep hkid fun q hq hqb => hfg q (hf q (.inl (by rw [hqb]; rfl))) (hg q hq)
    · rw [List.getElem?_set_ne (Ne.symm hji)] at hy
      rw [hset_other hs hd hji]
      have hjn : j < n := by rw [← h0]; exact (List.getElem?_eq_some_iff.1 hy).1
      exact keep (h2 j y hy) fun q hq hqb => h4 j q hjn hq (by rw [hqb]; rfl)
  · by_cases h5 : j = i <;> by_cases h6 : j' = i
    · omega
    · subst h5; rw [hset_same] at hq; rw [hset_other hs hd h6] at hq'
      exact absurd (hg q hq) (hfg q (hf q (.inr ⟨j', hj', hq'⟩)))
    · subst h6; rw [hset_same] at hq'; rw [hset_other hs hd h5] at hq
      exact absurd (hg q hq') (hfg q (hf q (.inr ⟨j, hj, hq⟩)))
    · rw [hset_other hs hd h5] at hq; rw [hset_other hs hd h6] at hq'; exact h3 j j' q hj hj' hq hq'
  · by_cases h5 : j = i
    · subst h5; rw [hset_same] at hq; intro hqa; exact hfg q (hf q (.inl hqa)) (hg q hq)
    · rw [hset_other hs hd h5] at hq; exact h4 j q hj hq
end
section
variable {P : Program} {n : Nat} {w0 : World} {M : Nat → Prop} {L L' : List (World → Prop)} {σ : Fr} {K K' : Ko} {c x y : Code} {ops : Array Oper} {S : World → Prop} {r : Sch} {i : Nat}
variable {d : Nat} {t : TypeId} {p : String} {af : Array Edge} {g : Option (Nat × Bool)} {a b : Operand}
variable {α : Type} {k : RK α} {ty e e1 by_ N C : Nat} {ao : Option Addr} {hs : Nat → Hd} {xs : List α} {zc : List Value}
/-- The address of a row, read. -/
theorem ixRq {len cap : Nat} {kk : IntKind} {z : Int} {q : Option Addr} (x : α) (hE : Elt P ty k.m) (hC : ∀ w, S w → RdR k q len hs xs w) (hS : ∀ w, Sep w0 M L w → S w) (ho : ops[i]? = some ⟨some d, .indexAddr ty a b, t, p, af, g⟩) (hg : go ops σ g) (ha : ev σ a = .slice q len cap) (hb : ev σ b = .int kk z) (h0 : 0 ≤ z) (h1 : z < len) {zn : Nat} (hzn : z.toNat = zn) (hx : xs[zn]? = some x)
    (h : ∀ bk off, (∀ w, S w → ∀ j v, (k.cells x (hs zn))[j]? = some v → w.cell? ⟨bk, off + j, none⟩ = some v) → RG P n w0 M ops S L r (upd σ d (.pointer (some ⟨bk, off, none⟩))) K) : RG P n w0 M ops S L (.op .q i r) σ K := by
  subst hzn
  refine rQw (v := fun _ => undef) ho hg (fun u => ∃ bk off, u = .pointer (some ⟨bk, off, none⟩) ∧ ∀ w, S w → ∀ j v, (k.cells x (hs z.toNat))[j]? = some v → w.cell? ⟨bk, off + j, none⟩ = some v) (fun w hw => ?_) ?_
  · obtain ⟨⟨bk, off, hq, hc⟩, _⟩ := (hC w (hS w hw)).2.2 _ x hx
    refine ⟨_, ⟨bk, off + z.toNat * k.m, rfl, fun w' hS' => ?_⟩, fun w' hS' => ?_⟩
    · obtain ⟨⟨bk', off', hq', hc'⟩, _⟩ := (hC w' hS').2.2 _ x hx
      rw [hq] at hq'; cases hq'; exact hc'
    · subst hq
      simp [execOp, ha, hb, run_indexAt (k := kk) (bk := bk) (off := off) (cap := cap) hE h0 h1 w']
  · rintro v ⟨bk, off, rfl, hc⟩; exact h bk off hc
theorem ixRl {len cap : Nat} {kk : IntKind} {z : Int} {q : Option Addr} (x : α) (hE : Elt P ty k.m) (hC : Kn w0 M L (RdR k q len hs xs)) (ho : ops[i]? = some ⟨some d, .indexAddr ty a b, t, p, af, g⟩) (hg : go ops σ g) (ha : ev σ a = .slice q len cap) (hb : ev σ b = .int kk z) (h0 : 0 ≤ z) (h1 : z < len) {zn : Nat} (hzn : z.toNat = zn) (hx : xs[zn]? = some x)
    (h : ∀ bk off, (Kn w0 M L fun w => ∀ j v, (k.cells x (hs zn))[j]? = some v → w.cell? ⟨bk, off + j, none⟩ = some v) → RG P n w0 M ops S L r (upd σ d (.pointer (some ⟨bk, off, none⟩))) K) : RG P n w0 M ops S L (.op .q i r) σ K := by
  subst hzn
  refine rQw (v := fun _ => undef) ho hg (fun u => ∃ bk off, u = .pointer (some ⟨bk, off, none⟩) ∧ Kn w0 M L fun w => ∀ j v, (k.cells x (hs z.toNat))[j]? = some v → w.cell? ⟨bk, off + j, none⟩ = some v) (fun w hw => ?_) ?_
  · obtain ⟨⟨bk, off, hq, hc⟩, _⟩ := (hC w hw).2.2 _ x hx
    refine ⟨_, ⟨bk, off + z.toNat * k.m, rfl, fun w' hS' => ?_⟩, fun w' hS' => ?_⟩
    · obtain ⟨⟨bk', off', hq', hc'⟩, _⟩ := (hC w' hS').2.2 _ x hx
      rw [hq] at hq'; cases hq'; exact hc'
    · subst hq
      simp [execOp, ha, hb, run_indexAt (k := kk) (bk := bk) (off := off) (cap := cap) hE h0 h1 w']
  · rintro v ⟨bk, off, rfl, hc⟩; exact h bk off hc
/-- The address of a row of an owned slice. -/
theorem oxR {cap : Nat} {kk : IntKind} {z : Int} (j : Nat) (hj : L[j]? = some (OwnR k e e1 ao N C hs xs)) (hE : Elt P ty k.m) (ho : ops[i]? = some ⟨some d, .indexAddr ty a b, t, p, af, g⟩) (hg : go ops σ g) (ha : ev σ a = .slice ao N cap) (hb : ev σ b = .int kk z) (h0 : 0 ≤ z) (h1 : z < N) {zn : Nat} (hzn : z.toNat = zn)
    (h : ∀ gk, ao = some ⟨gk, 0, none⟩ → RG P n w0 M ops S L r (upd σ d (.pointer (some ⟨gk, zn * k.m, none⟩))) K) : RG P n w0 M ops S L (.op .q i r) σ K := fun w hs => by
  subst hzn
  obtain ⟨gk, hgk⟩ := (show OwnR k e e1 ao N C _ xs w from hs.at_ j hj).2.1.some_ (by omega)
  exact rQ ho hg (fun w _ => by rw [hgk] at ha; simp [execOp, ha, hb, run_indexAt (k := kk) (bk := gk) (off := 0) (cap := cap) hE h0 h1 w]) (h gk hgk) w hs
/-- 'make' of rows. -/
theorem mksR {kk : IntKind} {z : Int} (N : Nat) (x : α) (hk : k.Ok) (hx : k.cells x (none, 0) = zc) (hkid : k.kid x = []) (hM : Mk P ty e k.m by_ zc) (hS : ∀ bk w, Sep w0 M (OwnR k e e1 (some ⟨bk, 0, none⟩) N N (fun _ => (none, 0)) (List.replicate N x) :: L) w → S w) (ho : ops[i]? = some ⟨some d, .makeSlice ty a b, t, p, af, g⟩) (hg : go ops σ g) (ha : ev σ a = .int kk z) (hb : ev σ b = .int kk z) (hz : z = (N : Int)) (hN : by_ * N ≤ 140737488355328)
    (h : ∀ bk, w0.heap.size ≤ bk → RG P n w0 M ops S (OwnR k e e1 (some ⟨bk, 0, none⟩) N N (fun _ => (none, 0)) (List.replicate N x) :: L) r (upd σ d (.slice (some ⟨bk, 0, none⟩) N N)) K) : RG P n w0 M ops S L (.op .l i r) σ K := by
  have conv : ∀ {bk : Nat} {w : World}, Sep w0 M (Own e k.m (some ⟨bk, 0, none⟩) N N (List.replicate N zc).flatten :: L) w → Sep w0 M (OwnR k e e1 (some ⟨bk, 0, none⟩) N N (fun _ => (none, 0)) (List.replicate N x) :: L) w := fun hs =>
    hs.imp 0 rfl fun w ho => OwnR.ofZero hk hx hkid ho
  exact mks N hM (fun bk w hw => hS bk w (conv hw)) ho hg ha hb hz hN fun bk hbk w hw => h bk hbk w (conv hw)
/-- A whole row is stored, with what it leads to: pieces j (the rows) and q of the rest (the kid) become one. -/
theorem stR_opw {gk off nn : Nat} {hd : Hd} {x : α} {R : List (World → Prop)} {ro : Nat} {w : World} (j q : Nat) (hk : k.Ok) (hj : L[j]? = some (OwnR k e e1 ao N C hs xs)) (hq : (L.eraseIdx j)[q]? = some (OwnI e1 hd.1 nn hd.2 (k.kid x))) (hao : ao = some ⟨gk, 0, none⟩) (hz : Size P ty k.m) (hsep : Sep w0 M L w) (ha : ev σ a = .pointer (some ⟨gk, off, none⟩)) (hoff : off = ro * k.m) {v : Value} (hb : ev σ b = v) (hv : nn = (k.kid x).length → v.cells = (k.cells x hd).toArray) (hlt : ro < N) :
    opw P ⟨none, .store ty a b, t, p, af, g⟩ σ w fun σ' w' => Sep w0 M (OwnR k e e1 ao N C (hset hs ro hd) (xs.set ro x) :: (L.eraseIdx j).eraseIdx q) w' ∧ σ' = σ := by
  subst hao
  subst hoff
  have hrow := hsep.at_ j hj
  have hnn : OwnI e1 hd.1 nn hd.2 (k.kid x) w := ((hsep.perm (pull hj)).tail).at_ q hq
  have hnn := hnn.lenz
  subst hnn
  have hv := hv rfl
  have hp := (hsep.perm (pull hj)).perm ((pull hq).cons _)
  -- the run, whatever the frame
  have core : ∀ f g', St f (OwnR k e e1 (some ⟨gk, 0, none⟩) N C hs xs) w → St g' (OwnI e1 hd.1 (k.kid x).length hd.2 (k.kid x)) w → (∀ q, f q → ¬ g' q) →
      ∃ cur : Array Value, w.heap[gk]? = some (.cells cur e (0, 0)) ∧ ro * k.m + (k.cells x hd).length ≤ cur.size ∧ OwnR k e e1 (some ⟨gk, 0, none⟩) N C (hset hs ro hd) (xs.set ro x) (w.setRow gk (cur.toList.take (ro * k.m) ++ k.cells x hd ++ cur.toList.drop (ro * k.m + (k.cells x hd).length)).toArray) := fun f g' hf hg' hfg =>
    OwnR.setRow_ hk hf.out hg'.out hlt (OwnR.mem hf) (fun q hq => Own.mem hg' q hq) hfg
  obtain ⟨_, fs, h2⟩ := id hp
  match fs, h2 with
  | f :: g' :: fs, ⟨k1, k2, k3, k4, k5, k6, k7⟩ =>
    obtain ⟨cur, hc, hsz, _⟩ := core f g' k3 k6 fun q hq hq' => k2 g' List.mem_cons_self q hq hq'
    have hst := run_storeCells_at P gk (ro * k.m) e (k.cells x hd) 0 cur w hc (by simpa using hsz) (hk.one x hd)
    have hr : (Instr.storeAt ty (.pointer (some ⟨gk, ro * k.m, none⟩)) v).run P w = .ok () (w.setRow gk (cur.toList.take (ro * k.m) ++ k.cells x hd ++ cur.toList.drop (ro * k.m + (k.cells x hd).length)).toArray) := by
      simp only [Instr.storeAt, Instr.sureAddr, storeVar, hz w, hv, Sem.run_bind, Sem.run_pure, Result.andThen_ok]
      simpa [hk.len] using hst
    unfold opw
    simp only [execOp, ha, hb, Sem.run_bind, hr, Result.andThen_ok, Sem.run_pure]
    refine ⟨hp.fuse fun f g' hf hg' hfg => ?_, rfl⟩
    obtain ⟨cur', hc', _, ho'⟩ := core f g' hf hg' hfg
    rw [hc] at hc'; cases hc'
    refine ⟨fun q => f q ∨ g' q, fun q hq => hq.elim .inl (.inr ∘ .inl), ho'.St fun q hq => ?_, ⟨rfl, rfl, rfl, by simp, fun q _ hn => setRow_other w gk q _ fun e => hn (e ▸ .inl (OwnR.mem hf gk (.inl rfl)))⟩⟩
    rcases hq with hq | ⟨i', hi', hq⟩
    · exact .inl (OwnR.mem hf q (.inl hq))
    · by_cases h5 : i' = ro
      · subst h5; rw [hset_same] at hq; exact .inr (Own.mem hg' q hq)
      · rw [hset_other hs hd h5] at hq; exact .inl (OwnR.mem hf q (.inr ⟨i', hi', hq⟩))
  | [_], ⟨_, _, _, h⟩ => exact h.elim
  | [], h => exact h.elim
theorem stR {gk off nn : Nat} {hd : Hd} {x : α} (ro j q : Nat) (hk : k.Ok) (hj : L[j]? = some (OwnR k e e1 ao N C hs xs)) (hq : (L.eraseIdx j)[q]? = some (OwnI e1 hd.1 nn hd.2 (k.kid x))) (hao : ao = some ⟨gk, 0, none⟩) (hz : Size P ty k.m) (hS : ∀ w, Sep w0 M (OwnR k e e1 ao N C (hset hs ro hd) (xs.set ro x) :: (L.eraseIdx j).eraseIdx q) w → S w) (ho : ops[i]? = some ⟨none, .store ty a b, t, p, af, g⟩) (hg : go ops σ g) (ha : ev σ a = .pointer (some ⟨gk, off, none⟩)) (hoff : off = ro * k.m) {v : Value} (hb : ev σ b = v) (hv : nn = (k.kid x).length → v.cells = (k.cells x hd).toArray) (hlt : ro < N)
    (h : RG P n w0 M ops S (OwnR k e e1 ao N C (hset hs ro hd) (xs.set ro x) :: (L.eraseIdx j).eraseIdx q) r σ K) : RG P n w0 M ops S L (.op .l i r) σ K :=
  rL1 (v := undef) hS ho hg (fun _ hs => stR_opw (R := []) j q hk hj hq hao hz hs ha hoff hb hv hlt) h
end
end Go.Proofs.YtgnfffdenbiipaaDoor.V
/- The engine, part 10: rows appended; parts of slices; arrays behind pointers; odds and ends. No condition. -/
namespace Go.Proofs.YtgnfffdenbiipaaDoor.V
open Go Go.RowKit
set_option linter.unusedVariables false
set_option linter.unusedSimpArgs false
section
variable {w0 : World} {M : Nat → Prop} {L : List (World → Prop)}
theorem RdI.lit {bk e n : Nat} {vs : List Value} {zs : List Int} {w : World} (h : blk bk e vs w) (hv : vs = iv zs) (hn : zs.length = n) (hb : Nat.ble n 1000 = true) : RdI (some ⟨bk, 0, none⟩) n zs w := by subst hv; exact ⟨hn, by have := Nat.le_of_ble_eq_true hb; omega, CellsAt.blk h⟩
theorem RdR.nil {α : Type} (k : RK α) (a : Option Addr) (hs : Nat → Hd) (w : World) : RdR k a 0 hs [] w := ⟨rfl, by decide, fun i x h => by simp at h⟩
end
/-- An array type. -/
def Arr (P : Program) (ty n m : Nat) : Prop := ∃ e, (∀ w, (underlying ty).run P w = .ok (.array n e) w) ∧ ∀ w, (sizeOf e).run P w = .ok m w
section
variable {P : Program} {n : Nat} {w0 : World} {M : Nat → Prop} {L L' : List (World → Prop)} {σ : Fr} {K K' : Ko} {c x y : Code} {ops : Array Oper} {S : World → Prop} {r : Sch} {i : Nat}
variable {d : Nat} {t : TypeId} {p : String} {af : Array Edge} {g : Option (Nat × Bool)} {a b : Operand}
variable {α : Type} {k : RK α} {ty e e1 by_ N C : Nat} {ao : Option Addr} {hs : Nat → Hd} {xs : List α} {zc : List Value} {zs : List Int}
/-- The end of an owned slice, to be read. -/
theorem slLol {z : Int} {kk : IntKind} (j : Nat) (hj : L[j]? = some (OwnI e ao N C zs)) (hE : Elt P ty 1) (ho : ops[i]? = some ⟨some d, .slice ty a (some b) none none, t, p, af, g⟩) (hg : go ops σ g) (ha : ev σ a = .slice ao N C) (hb : ev σ b = .int kk z) (h0 : 0 ≤ z) (h1 : z ≤ N) {zn : Nat} (hzn : z.toNat = zn)
    (h : ∀ q', (Kn w0 M L (RdI q' (N - zn) (zs.drop zn))) → RG P n w0 M ops S L r (upd σ d (.slice q' (N - zn) (C - zn))) K) : RG P n w0 M ops S L (.op .q i r) σ K := by
  subst hzn
  obtain ⟨e', he, hs⟩ := hE
  refine rQ (v := .slice (if C = z.toNat then ao else ao.map (·.add (z.toNat * 1))) (N - z.toNat) (C - z.toNat)) ho hg (fun w hw => ?_) (h _ fun w hw => ?_)
  · simp [execOp, ha, hb, Instr.sliceAt, Instr.slice, Instr.sliceBounds, Instr.sliceBound, asIntOf, he w, hs w, h0, h1]
  · have hown : OwnI e ao N C zs w := hw.at_ j hj
    obtain ⟨hl, hm, hc⟩ := hown.rd
    refine ⟨by rw [List.length_drop, hl], by omega, fun k v hk => ?_⟩
    rw [show iv (zs.drop z.toNat) = (iv zs).drop z.toNat from by simp [iv, List.map_drop], List.getElem?_drop] at hk
    obtain ⟨bk, off, hq, hcell⟩ := hc _ v hk
    have hlt := (List.getElem?_eq_some_iff.1 hk).1
    rw [iv_len, hl] at hlt
    have hNC : N ≤ C := by
      rcases hown.2 with ⟨hv, h0'⟩ | ⟨g', cap, cur, hv, _, _, hnc, _⟩
      · omega
      · cases hv; exact hnc
    rw [if_neg (by omega), hq]
    exact ⟨bk, off + z.toNat, by simp [add_addr], by rw [Nat.add_assoc]; exact hcell⟩
end
end Go.Proofs.YtgnfffdenbiipaaDoor.V
/- The engine, part 11: pieces that are handed over to be turned; rows turned in part. No condition. -/
namespace Go.Proofs.YtgnfffdenbiipaaDoor.V
open Go Go.RowKit
set_option linter.unusedVariables false
set_option linter.unusedSimpArgs false
section
variable {w0 : World} {M : Nat → Prop} {L Lf Lr : List (World → Prop)} {w w' : World} {B T : Nat}
theorem SepL.split : ∀ {Lf : List (World → Prop)} {fs : List (Nat → Prop)}, SepL M B T fs (Lf ++ Lr) w → ∃ fsf fsr, fs = fsf ++ fsr ∧ SepL M B T fsf Lf w ∧ SepL M B T fsr Lr w ∧ ∀ f ∈ fsf, ∀ g ∈ fsr, ∀ k, f k → ¬ g k
  | [], fs, h => ⟨[], fs, rfl, trivial, h, fun _ hf => by cases hf⟩
  | φ :: Lf, [], h => h.elim
  | φ :: Lf, f :: fs, h => by
    obtain ⟨h1, h2, h3, h4⟩ := h
    obtain ⟨fsf, fsr, rfl, a, b, c⟩ := SepL.split h4
    refine ⟨f :: fsf, fsr, rfl, ⟨h1, fun g hg => h2 g (List.mem_append_left _ hg), h3, a⟩, b, fun q hq g hg k hk => ?_⟩
    rcases List.mem_cons.1 hq with rfl | hq
    · exact h2 g (List.mem_append_right _ hg) k hk
    · exact c q hq g hg k hk
end
/-- Rows of which one is lent out. -/
def OwnH {α : Type} (k : RK α) (e e1 : Nat) (a : Option Addr) (n c : Nat) (hs : Nat → Hd) (xs : List α) (q : Nat) : World → Prop := fun w =>
  xs.length = n ∧ Own e k.m a n c (rowsV k hs xs).flatten w ∧ (∀ i x, i ≠ q → xs[i]? = some x → OwnI e1 (hs i).1 (k.kid x).length (hs i).2 (k.kid x) w) ∧
  (∀ i j b, i < n → j < n → fpO (hs i).1 b → fpO (hs j).1 b → i = j) ∧ (∀ i b, i < n → fpO (hs i).1 b → ¬ fpO a b)
section
variable {α : Type} {k : RK α} {e e1 : Nat} {a : Option Addr} {n c q : Nat} {hs : Nat → Hd} {xs : List α} {x : α} {w0 w w' : World} {M : Nat → Prop} {L : List (World → Prop)}
theorem OwnH.St {f : Nat → Prop} (h : OwnH k e e1 a n c hs xs q w) (hf : ∀ b, fpR a hs n b → (q < n → ¬ fpO (hs q).1 b) → f b) : V.St f (OwnH k e e1 a n c hs xs q) w := by
  intro w' ha
  obtain ⟨h0, h1, h2, h3, h4⟩ := h
  refine ⟨h0, (h1.St fun b hb => hf b (.inl hb) fun hq hb' => h4 q b hq hb' hb) w' ha, fun i x hi hx => ?_, h3, h4⟩
  have hin : i < n := by rw [← h0]; exact (List.getElem?_eq_some_iff.1 hx).1
  exact (Own.St (h2 i x hi hx) fun b hb => hf b (.inr ⟨i, hin, hb⟩) fun hq hb' => hi (h3 i q b hin hq hb hb')) w' ha
theorem OwnH.mem {f : Nat → Prop} (h : V.St f (OwnH k e e1 a n c hs xs q) w) : ∀ b, fpR a hs n b → (q < n → ¬ fpO (hs q).1 b) → f b := by
  intro b hb hn
  rcases hb with hb | ⟨i, hi, hb⟩
  · exact Own.mem (h.imp fun w h => h.2.1) b hb
  · have h0 := h.out.1
    have hiq : i ≠ q := fun e => by subst e; exact hn hi hb
    have hx : xs[i]? = some (xs[i]'(by omega)) := List.getElem?_eq_getElem (by omega)
    exact Own.mem (show V.St f (OwnI e1 (hs i).1 (k.kid _).length (hs i).2 (k.kid _)) w from h.imp fun w h => h.2.2.1 i _ hiq hx) b hb
/-- .. and handed back, turned. -/
theorem Sep.back {nn : Nat} {zs' : List Int} (x' : α) (hk : k.Ok) (h : Sep w0 M (OwnI e1 (hs q).1 nn (hs q).2 zs' :: OwnH k e e1 a n c hs xs q :: L) w) (hx : xs[q]? = some x) (hc : zs'.length = nn → nn = (k.kid x).length → k.cells x' (hs q) = k.cells x (hs q)) (hkid : k.kid x' = zs') (hnn : nn = (k.kid x).length) : Sep w0 M (OwnR k e e1 a n c hs (xs.set q x') :: L) w := by
  refine h.fuse fun f g hf hg hfg => ?_
  obtain ⟨h0, h1, h2, h3, h4⟩ := hg.out
  have hq : q < n := by rw [← h0]; exact (List.getElem?_eq_some_iff.1 hx).1
  have hlen := (show OwnI e1 (hs q).1 nn (hs q).2 zs' w from hf.out).lenz
  have mf := Own.mem hf
  have mg := OwnH.mem hg
  refine ⟨fun b => f b ∨ g b, fun b hb => hb.elim .inl (.inr ∘ .inl), OwnR.St ⟨by simpa using h0, ?_, fun i y hy => ?_, h3, h4⟩ fun b hb => ?_, .refl _ _⟩
  · rw [rowsV_same (by omega), hc hlen hnn]
    have : (rowsV k hs xs).set q (k.cells x (hs q)) = rowsV k hs xs := by
      apply List.ext_getElem?
      intro j
      by_cases hj : q = j
      · subst hj; rw [List.getElem?_set_self (by rw [rowsV_len]; omega), rowsV_get hx]
      · rw [List.getElem?_set_ne hj]
    rw [this]; exact h1
  · by_cases hi : i = q
    · subst hi
      rw [List.getElem?_set_self (by omega)] at hy
      cases hy
      rw [hkid, hlen]; exact hf.out
    · rw [List.getElem?_set_ne (Ne.symm hi)] at hy
      exact h2 i y hi hy
  · by_cases hb' : fpO (hs q).1 b
    · exact .inl (mf b hb')
    · exact .inr (mg b hb fun _ => hb')
end
section
variable {P : Program} {n : Nat} {w0 : World} {M : Nat → Prop} {L L' Lf Lr : List (World → Prop)} {σ : Fr} {K K' : Ko} {c x y : Code} {ops : Array Oper} {S : World → Prop} {r : Sch} {i : Nat}
variable {d : Nat} {t : TypeId} {p : String} {af : Array Edge} {g : Option (Nat × Bool)} {a b : Operand}
theorem rKnow {φ : Prop} (hk : ∀ w, Sep w0 M L w → φ) (h : φ → RG P n w0 M ops S L r σ K) : RG P n w0 M ops S L r σ K := fun w hs => h (hk w hs) w hs
end
end Go.Proofs.YtgnfffdenbiipaaDoor.V
/- The engine, part 12: a list appended whole; a slice compared with nil. No condition. -/
namespace Go.Proofs.YtgnfffdenbiipaaDoor.V
open Go Go.RowKit
set_option linter.unusedVariables false
set_option linter.unusedSimpArgs false
section
variable {P : Program} {ty e by_ : Nat} {zc : List Value}
end
section
variable {P : Program} {n : Nat} {w0 : World} {M : Nat → Prop} {L L' Lf Lr : List (World → Prop)} {σ : Fr} {K K' : Ko} {c x y : Code} {ops : Array Oper} {S : World → Prop} {r : Sch} {i : Nat}
variable {d : Nat} {t : TypeId} {p : String} {af : Array Edge} {g : Option (Nat × Bool)} {a b : Operand}
variable {ty e by_ N C : Nat} {ao : Option Addr} {zs : List Int} {zc : List Value}
/-- A block, read. -/
def RdB (bk : Nat) (cs : List Value) : World → Prop := fun w => ∀ j v, cs[j]? = some v → w.cell? ⟨bk, j, none⟩ = some v
theorem RdB.ext {bk : Nat} {cs : List Value} {w w' : World} (h : RdB bk cs w) (he : Ext w w') : RdB bk cs w' := fun j v hj => he.cell (h j v hj)
theorem RdB.of {bk e : Nat} {cs : List Value} {w : World} (h : blk bk e cs w) : RdB bk cs w := fun j v hj => h.cell hj
theorem RdI.none {q : Option Addr} {k : Nat} {zs : List Int} {w : World} (h : RdI q k zs w) (hq : q.isNone = true) : zs = [] := by
 cases zs with
 | nil => rfl
 | cons x l =>
  obtain ⟨b, off, e, _⟩ := h.2.2 0 (.int .i64 x) rfl
  subst e; cases hq
end
end Go.Proofs.YtgnfffdenbiipaaDoor.V
/- The frame of a law's proof: what a law's row asks behind a call that returned true and only made memory. No condition. -/
namespace Go.Proofs.YtgnfffdenbiipaaDoor
open Go Go.RowKit V Go.ChangeShapes Go.WideShapes Go.ChangeAt
set_option linter.unusedVariables false
set_option linter.unusedSimpArgs false
theorem own : ownKnob Tryd.prog.godebug = none := by kernel_rfl
theorem laidOut : laidOutB Tryd.prog = true := by kernel_rfl
def canRead (P : Program) (ts : List TypeId) : Bool := ts.all fun t => P.readableRec t && decide (t < P.types.size)
/-- Arguments read as they did. -/
theorem trodAll_stays {H : Type} {enc : TypeId × Value → H} {P : Program} (hl : laidOutB P = true) {W W' : World} (hb : Below W.heap.size W W') :
    ∀ (ts : List TypeId) (vs : List Value) (ds : List (DataW H)) (ps : List MemPlace), canRead P ts = true → DataW.TrodAll enc P W 0 (fun _ => true) true ts vs ds ps → (∀ x ∈ ps, x.block < W.heap.size) →
      DataW.TrodAll enc P W' 0 (fun b => decide (b < W.heap.size)) true ts vs ds ps := by
  intro ts
  induction ts with
  | nil => intro vs ds ps _ h _; cases vs <;> cases ds <;> exact h
  | cons t ts ih =>
    intro vs ds ps hc h hlt
    cases vs with
    | nil => cases ds <;> exact h.elim
    | cons v vs =>
      cases ds with
      | nil => exact h.elim
      | cons d ds =>
        obtain ⟨p, q, h1, h2, rfl⟩ := h
        simp only [canRead, List.all_cons, Bool.and_eq_true, decide_eq_true_eq] at hc
        exact ⟨p, q, Below.trod hl hc.1.1 hc.1.2 h1 hb (fun x hx => hlt x (List.mem_append_left _ hx)), ih vs ds q hc.2 h2 (fun x hx => hlt x (List.mem_append_right _ hx)), rfl⟩
/-- What a law's row asks. -/
theorem law_post {H : Type} {enc : TypeId × Value → H} {f : Func} {s : ChangeSpec} {W W' : World} {args : Array Value} {ds : List (DataW H)} {before : List MemPlace} {tb : TypeId}
    (hW : DataW.Whole enc Tryd.prog f.params.toList s.vars false W args.toList ds [] before) (hv : s.vars = []) (ht : f.resultTypes = #[tb]) (hb : Tryd.prog.underlying tb = some .bool)
    (hr : (s.fn H (ds ++ [])).results = [.lit (.bool true)]) (ha : (s.fn H (ds ++ [])).args = ds) (hs : (s.fn H (ds ++ [])).vars = []) (hc : canRead Tryd.prog f.params.toList = true) (hx : Ext W W') :
    s.post enc Tryd.prog f false true false false W args (.bool true) W' := by
  have hW' := hW
  obtain ⟨p, q, h1, h2, hp, hfz, hnd⟩ := hW
  have hlt := hW'.lt
  rw [hv] at h2
  obtain ⟨_, hq⟩ := trodVars_none h2
  subst hq
  have hp' : before = p := by simpa using hp
  subst hp'
  refine ⟨ds, [], before, [], before, [], hW', ?_, ?_, ?_, ?_, fun h => by cases h⟩
  · rw [hr, ht]
    exact trodAll_cons_mk (shut_bool hb true) trodAll_mk0
  · rw [ha]
    exact trodAll_stays laidOut hx.below _ _ _ _ hc h1 hlt
  · rw [hv, hs]; exact rfl
  · exact hx.below.frame _
end Go.Proofs.YtgnfffdenbiipaaDoor
/- The frame of a law's proof, part 2: slices, rows, trees and other structs that came in are known as the walks ask it. No condition. -/
namespace Go.Proofs.YtgnfffdenbiipaaDoor
open Go Go.RowKit V Go.ChangeShapes Go.WideShapes Go.ChangeAt Go.Deep
set_option linter.unusedVariables false
set_option linter.unusedSimpArgs false
section
variable {H : Type} {enc : TypeId × Value → H} {P : Program} {W : World} {fuel : Nat}
abbrev trd (enc : TypeId × Value → H) (P : Program) (W : World) (fuel : Nat) (t : TypeId) (cs : List Value) : Option (DataW H × List MemPlace) := DataW.trod enc P W 0 (fun _ => true) true fuel t cs
theorem cell_spot {w : World} {a : Addr} {v : Value} (h : w.cell? a = some v) : a.spot = none := World.cell?_spot h
theorem in_int {t : TypeId} {k : IntKind} (ht : P.underlying t = some (.int k)) {cs : List Value} {x : DataW H × List MemPlace} (h : trd enc P W fuel t cs = some x) : ∃ n, cs = [.int k n] := by
  obtain ⟨n, rfl, _⟩ := DataW.trod_int ht h; exact ⟨n, rfl⟩
/-- A slice of numbers. -/
theorem in_ints {t e : TypeId} (ht : P.underlying t = some (.slice e)) (he : P.underlying e = some (.int .i64)) (hc : P.cellsOf e = 1) {cs : List Value} {x : DataW H × List MemPlace} (h : trd enc P W fuel t cs = some x) :
    ∃ a n c zs, cs = [.slice a n c] ∧ RdI a n zs W := by
  rcases open_ints ht he hc h with ⟨rfl, _⟩ | ⟨a, len, cap, zs, rfl, _, hl, hm, hz, _, hcell, _⟩
  · exact ⟨none, 0, 0, [], rfl, RdI.nil _ _⟩
  · simp only [if_true] at hz
    refine ⟨some a, len, cap, zs.take len, rfl, by simp; omega, by simp only [maxLen] at hm; omega, fun i v hi => ?_⟩
    have hlt := (List.getElem?_eq_some_iff.1 hi).1
    rw [iv_len, List.length_take] at hlt
    have hcj := hcell i (by omega)
    obtain ⟨ab, ao, spot⟩ := a
    have hspot : spot = none := by simpa [Addr.add] using cell_spot (hcell 0 (by omega))
    subst hspot
    rw [iv_get (by rw [List.length_take]; omega)] at hi
    cases hi
    refine ⟨ab, ao, rfl, ?_⟩
    rw [Addr.add_lit] at hcj
    rw [hcj]
    simp only [List.getD, List.getElem?_take_of_lt (show i < len by omega)]
theorem mapM_all {α β : Type} {g : α → Option β} : ∀ {l : List α} {ys : List β}, l.mapM g = some ys → ∀ a ∈ l, ∃ y, g a = some y
  | [], _, _, a, ha => by cases ha
  | b :: l, ys, h, a, ha => by
    rw [List.mapM_cons] at h
    simp only [Option.bind_eq_bind, Option.bind_eq_some_iff] at h
    obtain ⟨y, hy, ys', hys, _⟩ := h
    rcases List.mem_cons.1 ha with rfl | ha
    · exact ⟨y, hy⟩
    · exact mapM_all hys a ha
/-- A struct: each field. -/
theorem in_struct {e : TypeId} {fs : Array Field} (he : P.underlying e = some (.struct fs)) {cs : List Value} {x : DataW H × List MemPlace} (h : trd enc P W fuel e cs = some x) :
    cs.length = P.cellsOf e ∧ ∃ fu, ∀ f ∈ fs.toList, ∃ y, trd enc P W fu f.type ((cs.drop f.offset).take (P.cellsOf f.type)) = some y := by
  cases fuel with
  | zero => simp [trd, DataW.trod] at h
  | succ fuel =>
    simp only [trd, DataW.trod, he] at h
    split at h
    · rename_i hl
      rw [Option.map_eq_some_iff] at h
      obtain ⟨ys, hys, _⟩ := h
      exact ⟨hl, fuel, fun f hf => mapM_all hys f hf⟩
    · cases h
theorem in_fields {e : TypeId} {fs : Array Field} {l : List (TypeId × Nat)} (he : P.underlying e = some (.struct fs)) (hl : fs.toList.map (fun f => (f.type, f.offset)) = l) {cs : List Value} {x : DataW H × List MemPlace} (h : trd enc P W fuel e cs = some x) :
    cs.length = P.cellsOf e ∧ ∃ fu, ∀ p ∈ l, ∃ y, trd enc P W fu p.1 ((cs.drop p.2).take (P.cellsOf p.1)) = some y := by
  obtain ⟨h1, fu, h2⟩ := in_struct he h
  refine ⟨h1, fu, fun p hp => ?_⟩
  subst hl
  obtain ⟨f, hf, rfl⟩ := List.mem_map.1 hp
  exact h2 f hf
/-- Rows: each element. -/
theorem in_rows {α : Type} [Inhabited α] {k : RK α} {t e : TypeId} (hk : k.m = P.cellsOf e) (ht : P.underlying t = some (.slice e)) {cs : List Value} {x : DataW H × List MemPlace} (h : trd enc P W fuel t cs = some x)
    (elem : ∀ {fu : Nat} {cs : List Value} {y : DataW H × List MemPlace}, trd enc P W fu e cs = some y → ∃ x hd, cs = k.cells x hd ∧ RdI hd.1 (k.kid x).length (k.kid x) W) (hpos : 0 < k.m) (hlen : ∀ x hd, (k.cells x hd).length = k.m) :
    ∃ a n c hs xs, cs = [.slice a n c] ∧ RdR k a n hs xs W := by
  rcases open_slice ht h with ⟨rfl, _⟩ | ⟨a, len, cap, m, n, Dd, Pl, rfl, _, hl, hm, hmm, _, hx⟩
  · exact ⟨none, 0, 0, fun _ => (none, 0), [], rfl, RdR.nil _ _ _ _⟩
  · simp only [if_true] at hmm
    subst hmm
    have each : ∀ i, i < m → ∃ y : α × Hd, W.cells? 0 (a.add (i * P.cellsOf e)) (P.cellsOf e) = some (k.cells y.1 y.2) ∧ RdI y.2.1 (k.kid y.1).length (k.kid y.1) W := fun i hi => by
      obtain ⟨cs', h1, h2⟩ := hx i hi
      obtain ⟨y, hd, rfl, hr⟩ := elem h2
      exact ⟨(y, hd), h1, hr⟩
    haveI : Inhabited (α × Hd) := ⟨(default, (none, 0))⟩
    obtain ⟨f, hf⟩ := choose_lt each
    refine ⟨some a, len, m, fun i => (f i).2, (List.range len).map fun i => (f i).1, rfl, by simp, by simp only [maxLen] at hm; omega, fun i y hy => ?_⟩
    have hi : i < len := by have := (List.getElem?_eq_some_iff.1 hy).1; simpa using this
    simp [hi] at hy
    subst hy
    obtain ⟨h1, h2⟩ := hf i (by omega)
    refine ⟨?_, h2⟩
    obtain ⟨_, hlen', hcells⟩ := World.cells?_some h1
    have hc0 : 0 < P.cellsOf e := by omega
    obtain ⟨ab, ao, spot⟩ := a
    have hspot : spot = none := by
      obtain ⟨h10, _⟩ := hf 0 (by omega)
      obtain ⟨_, _, hc00⟩ := World.cells?_some h10
      have := hc00 0 hc0
      rw [List.getElem?_eq_getElem (by rw [hlen]; omega)] at this
      have := cell_spot this
      simpa [Addr.add] using this
    subst hspot
    refine ⟨ab, ao, rfl, fun j v hj => ?_⟩
    have := hcells j (by have := (List.getElem?_eq_some_iff.1 hj).1; rw [hlen] at this; omega)
    rw [add_addr, add_addr, hj] at this
    rw [hk]
    exact this
theorem in_node {e q t : TypeId} {fs : Array Field} (he : P.underlying e = some (.struct fs)) (hf : fs.toList.map (fun f => (f.type, f.offset)) = [(q, 0), (q, 1), (q, 2), (q, 3), (t, 4)]) (hq : P.underlying q = some (.int .i64)) (cq : P.cellsOf q = 1) (ht : P.underlying t = some (.slice q)) (ct : P.cellsOf t = 1) (ce : P.cellsOf e = 5)
    {fu : Nat} {cs : List Value} {y : DataW H × List MemPlace} (h : trd enc P W fu e cs = some y) : ∃ x hd, cs = ndK.cells x hd ∧ RdI hd.1 (ndK.kid x).length (ndK.kid x) W := by
  obtain ⟨hl, fu, hfs⟩ := in_struct he h
  rw [ce] at hl
  generalize fs.toList = l at hf hfs
  obtain ⟨f0, f1, f2, f3, f4, rfl⟩ : ∃ f0 f1 f2 f3 f4, l = [f0, f1, f2, f3, f4] := by
    match l, congrArg List.length hf with
    | [f0, f1, f2, f3, f4], _ => exact ⟨f0, f1, f2, f3, f4, rfl⟩
  simp only [List.map_cons, List.map_nil, List.cons.injEq, Prod.mk.injEq, and_true] at hf
  obtain ⟨⟨t0, o0⟩, ⟨t1, o1⟩, ⟨t2, o2⟩, ⟨t3, o3⟩, t4, o4⟩ := hf
  match cs, hl with
  | [a, b, c, d, f], _ =>
    obtain ⟨_, h0⟩ := hfs f0 (by simp)
    obtain ⟨_, h1⟩ := hfs f1 (by simp)
    obtain ⟨_, h2⟩ := hfs f2 (by simp)
    obtain ⟨_, h3⟩ := hfs f3 (by simp)
    obtain ⟨_, h4⟩ := hfs f4 (by simp)
    rw [t0, o0, cq] at h0
    rw [t1, o1, cq] at h1
    rw [t2, o2, cq] at h2
    rw [t3, o3, cq] at h3
    rw [t4, o4, ct] at h4
    obtain ⟨n0, e0⟩ := in_int hq h0
    obtain ⟨n1, e1⟩ := in_int hq h1
    obtain ⟨n2, e2⟩ := in_int hq h2
    obtain ⟨n3, e3⟩ := in_int hq h3
    obtain ⟨aa, n, cc, zs, e4, hr⟩ := in_ints ht hq cq h4
    simp at e0 e1 e2 e3 e4
    obtain rfl := hr.1
    refine ⟨⟨n0, n1, n2, n3, zs⟩, (aa, cc), ?_, hr⟩
    simp [ndK, ndC, e0, e1, e2, e3, e4]
instance : Inhabited Nd := ⟨dN⟩
end
end Go.Proofs.YtgnfffdenbiipaaDoor
/- Plain facts on trees of games: when a list of nodes is a tree, its depth, its ends. No condition. -/
namespace Go.Proofs.YtgnfffdenbiipaaDoor.Math
open Go.Proofs.YtgnfffdenbiipaaDoor.V
set_option linter.unusedVariables false
set_option linter.unusedSimpArgs false
/-! ### Lists by their places -/
section
variable {α : Type}
theorem take_step {l : List α} {i : Nat} (d : α) (h : i < l.length) : l.take (i + 1) = l.take i ++ [l.getD i d] := by
  rw [List.take_add_one]; simp [List.getD, List.getElem?_eq_getElem h]
theorem getD_mem {l : List α} {i : Nat} (d : α) (h : i < l.length) : l.getD i d ∈ l := by
  simp [List.getD, List.getElem?_eq_getElem h]
theorem mem_getD {l : List α} {x : α} (d : α) (h : x ∈ l) : ∃ i, i < l.length ∧ l.getD i d = x := by
  obtain ⟨i, hi, rfl⟩ := List.getElem_of_mem h
  exact ⟨i, hi, by simp [List.getD, List.getElem?_eq_getElem hi]⟩
theorem all_getD {l : List α} {p : α → Bool} (d : α) : l.all p = true ↔ ∀ i, i < l.length → p (l.getD i d) = true := by
  rw [List.all_eq_true]
  exact ⟨fun h i hi => h _ (getD_mem d hi), fun h x hx => by obtain ⟨i, hi, rfl⟩ := mem_getD d hx; exact h i hi⟩
theorem all_no {l : List α} {p : α → Bool} (d : α) {i : Nat} (hi : i < l.length) (h : p (l.getD i d) = false) : l.all p = false := by
  rw [Bool.eq_false_iff]; intro h'
  have := (all_getD d).1 h' i hi
  rw [h] at this; cases this
end
def inB (lo hi z : Int) : Bool := decide (lo ≤ z ∧ z ≤ hi)
/-- Strictly increasing. -/
def risingB : List Int → Bool
  | a :: b :: r => decide (a < b) && risingB (b :: r)
  | _ => true
theorem rising_iff : ∀ {l : List Int}, risingB l = true ↔ ∀ i, i + 1 < l.length → l.getD i 0 < l.getD (i + 1) 0
  | [] => by simp [risingB]
  | [a] => by simp [risingB]
  | a :: b :: r => by
    simp only [risingB, Bool.and_eq_true, decide_eq_true_eq]
    rw [rising_iff (l := b :: r)]
    constructor
    · rintro ⟨h1, h2⟩ i hi
      cases i with
      | zero => simpa using h1
      | succ i => simpa using h2 i (by simpa using hi)
    · intro h
      exact ⟨by simpa using h 0 (by simp), fun i hi => by simpa using h (i + 1) (by simpa using hi)⟩
theorem rising_lt {l : List Int} (h : risingB l = true) : ∀ {i j : Nat}, i < j → j < l.length → l.getD i 0 < l.getD j 0 := by
  intro i j hij hj
  induction j with
  | zero => omega
  | succ j ih =>
    have h1 := rising_iff.1 h j hj
    rcases Nat.lt_or_ge i j with h2 | h2
    · exact Int.lt_trans (ih h2 (by omega)) h1
    · obtain rfl : i = j := by omega
      exact h1
theorem rising_no {l : List Int} {i : Nat} (hi : i + 1 < l.length) (h : ¬ l.getD i 0 < l.getD (i + 1) 0) : risingB l = false := by
  rw [Bool.eq_false_iff]; intro h'; exact h (rising_iff.1 h' i hi)
/-- Strictly increasing within 0 to n - 1. -/
def risesB (n : Int) (l : List Int) : Bool := l.all (inB 0 (n - 1)) && risingB l
/-! ### A slice that is filled from the left -/
theorem fill_step {α : Type} (d z : α) {l : List α} {n i : Nat} (hl : l.length = n) (h : i < n) : (l.take i ++ List.replicate (n - i) z).set i (l.getD i d) = l.take (i + 1) ++ List.replicate (n - (i + 1)) z := by
  rw [take_step d (by omega), List.set_append_right _ _ (by simp; omega)]
  simp only [List.length_take, List.append_assoc]
  rw [show i - min i l.length = 0 from by omega, show n - i = (n - (i + 1)) + 1 from by omega, List.replicate_succ]
  rfl
theorem fill_start {α : Type} (l : List α) (n : Nat) (z : α) : List.replicate n z = l.take 0 ++ List.replicate (n - 0) z := by simp
theorem fill_end {α : Type} (z : α) {l : List α} {n i : Nat} (hl : l.length = n) (h : n ≤ i) : l.take i ++ List.replicate (n - i) z = l := by
  rw [show n - i = 0 from by omega, List.take_of_length_le (by omega)]; simp
/-- A node is as it should, apart from the others. -/
def okB (n i : Nat) (x : Nd) : Bool :=
  inB 0 2 x.pl && (inB 0 100 x.p0 && (inB 0 100 x.p1 &&
    cond (decide (x.pl = 2)) (decide (x.ch.length = 0) && (inB (-1) 1 x.fo && (decide (x.fo ≠ -1) || decide (x.p0 = x.p1))))
      (decide (x.fo = -1) && (inB 1 4 x.ch.length && (x.ch.all (inB ((i : Int) + 1) ((n : Int) - 1)) && risingB x.ch)))))
theorem ok_kid {n i : Nat} {x : Nd} (h : okB n i x = true) {z : Int} (hz : z ∈ x.ch) : (i : Int) + 1 ≤ z ∧ z ≤ (n : Int) - 1 := by
  simp only [okB, Bool.and_eq_true] at h
  obtain ⟨_, _, _, h⟩ := h
  by_cases hp : x.pl = 2
  · simp [hp] at h
    rw [h.1] at hz; cases hz
  · simp only [hp, decide_false, cond_false, Bool.and_eq_true] at h
    have := List.all_eq_true.1 h.2.2.1 z hz
    simpa [inB] using this
theorem ok_pl {n i : Nat} {x : Nd} (h : okB n i x = true) : (0 ≤ x.pl ∧ x.pl ≤ 2) ∧ (0 ≤ x.p0 ∧ x.p0 ≤ 100) ∧ (0 ≤ x.p1 ∧ x.p1 ≤ 100) ∧ (-1 ≤ x.fo ∧ x.fo ≤ 1) ∧ x.ch.length ≤ 4 ∧ (x.pl = 2 ↔ x.ch.length = 0) := by
  simp only [okB, Bool.and_eq_true, inB, decide_eq_true_eq] at h
  obtain ⟨h1, h2, h3, h⟩ := h
  refine ⟨h1, h2, h3, ?_⟩
  by_cases hp : x.pl = 2
  · simp [hp, inB] at h
    refine ⟨h.2.1, by simp [h.1], by simp [hp, h.1]⟩
  · simp [hp, inB] at h
    obtain ⟨hf, ⟨hl1, hl2⟩, _⟩ := h
    exact ⟨by omega, by omega, ⟨fun h => absurd h hp, fun h => by omega⟩⟩
/-- The first numbers of 'l', as counts of 0, 1, .., n - 1. -/
def cntL (n : Nat) (l : List Int) : List Int := (List.range n).map fun (c : Nat) => (l.count (c : Int) : Int)
theorem cntL_len (n : Nat) (l : List Int) : (cntL n l).length = n := by simp [cntL]
theorem cntL_get {n : Nat} {l : List Int} {c : Nat} (h : c < n) : (cntL n l).getD c 0 = (l.count (c : Int) : Int) := by simp [cntL, List.getD, h]
theorem cntL_nil (n : Nat) : List.replicate n 0 = cntL n [] := by
  apply List.ext_getElem? ; intro i; by_cases h : i < n <;> simp [cntL, h]
theorem cntL_step {n : Nat} {l : List Int} {z : Int} (h0 : 0 ≤ z) (h1 : z < n) : (cntL n l).set z.toNat ((cntL n l).getD z.toNat 0 + 1) = cntL n (l ++ [z]) := by
  apply List.ext_getElem?
  intro i
  rw [List.getElem?_set, cntL_len]
  by_cases hi : z.toNat = i
  · subst hi
    rw [if_pos rfl, if_pos (by omega), cntL_get (by omega)]
    have hz : ((z.toNat : Nat) : Int) = z := by omega
    simp [cntL, show z.toNat < n from by omega, hz, List.count_append]
  · rw [if_neg hi]
    by_cases hn : i < n
    · have : ¬ z = (i : Int) := by omega
      simp [cntL, hn, List.count_append, List.count_singleton, this]
    · simp [cntL, hn]
theorem count_le {l : List Int} (c : Int) : (l.count c : Int) ≤ l.length := by exact_mod_cast List.count_le_length
/-- All that the nodes lead to. -/
def kids (ns : List Nd) : List Int := ns.flatMap Nd.ch
theorem kids_step {ns : List Nd} {i : Nat} (h : i < ns.length) : kids (ns.take (i + 1)) = kids (ns.take i) ++ (ns.getD i dN).ch := by
  rw [take_step dN h]; simp [kids]
def allOk (ns : List Nd) : Bool := (List.range ns.length).all fun i => okB ns.length i (ns.getD i dN)
theorem allOk_iff {ns : List Nd} : allOk ns = true ↔ ∀ i, i < ns.length → okB ns.length i (ns.getD i dN) = true := by
  simp [allOk, List.all_eq_true]
theorem allOk_no {ns : List Nd} {i : Nat} (hi : i < ns.length) (h : okB ns.length i (ns.getD i dN) = false) : allOk ns = false := by
  rw [Bool.eq_false_iff]; intro h'; have := allOk_iff.1 h' i hi; rw [h] at this; cases this
def oneEach (ns : List Nd) : Bool := (List.range (ns.length - 1)).all fun i => decide ((kids ns).count ((i + 1 : Nat) : Int) = 1)
theorem oneEach_iff {ns : List Nd} : oneEach ns = true ↔ ∀ i, 1 ≤ i → i < ns.length → (kids ns).count (i : Int) = 1 := by
  simp only [oneEach, List.all_eq_true, List.mem_range, decide_eq_true_eq]
  constructor
  · intro h i h1 h2
    have := h (i - 1) (by omega)
    rwa [show i - 1 + 1 = i from by omega] at this
  · intro h i hi; exact h (i + 1) (by omega) (by omega)
theorem oneEach_no {ns : List Nd} {i : Nat} (h1 : 1 ≤ i) (hi : i < ns.length) (h : ¬ (kids ns).count (i : Int) = 1) : oneEach ns = false := by
  rw [Bool.eq_false_iff]; intro h'; exact h (oneEach_iff.1 h' i h1 hi)
/-- The depth below a node. -/
def depthF (ns : List Nd) : Nat → Nat → Int
  | 0, _ => 0
  | k + 1, i => if (ns.getD i dN).pl = 2 then 0 else (ns.getD i dN).ch.foldl (fun m c => max m (depthF ns k c.toNat)) 0 + 1
def depth (ns : List Nd) (i : Nat) : Int := depthF ns ns.length i
theorem foldl_congr {α β : Type} {f g : α → β → α} {l : List β} (h : ∀ a, ∀ b ∈ l, f a b = g a b) (a : α) : l.foldl f a = l.foldl g a := by
  induction l generalizing a with
  | nil => rfl
  | cons b l ih =>
    simp only [List.foldl_cons, h a b List.mem_cons_self]
    exact ih (fun a b hb => h a b (List.mem_cons_of_mem _ hb)) _
theorem depthF_same {ns : List Nd} (hok : allOk ns = true) : ∀ k k' i, i < ns.length → ns.length - i ≤ k → ns.length - i ≤ k' → depthF ns k i = depthF ns k' i := by
  intro k
  induction k with
  | zero => intro k' i hi h; omega
  | succ k ih =>
    intro k' i hi h h'
    cases k' with
    | zero => omega
    | succ k' =>
      simp only [depthF]
      split
      · rfl
      · congr 1
        refine foldl_congr (fun m c hc => ?_) 0
        have := ok_kid (allOk_iff.1 hok i hi) hc
        rw [ih k' c.toNat (by omega) (by omega) (by omega)]
theorem depth_end {ns : List Nd} {i : Nat} (hi : i < ns.length) (h : (ns.getD i dN).pl = 2) : depth ns i = 0 := by
  unfold depth
  cases hn : ns.length with
  | zero => rfl
  | succ k => simp only [depthF, h, if_pos]
def dmax (ns : List Nd) (l : List Int) : Int := l.foldl (fun m c => max m (depth ns c.toNat)) 0
theorem depth_step {ns : List Nd} (hok : allOk ns = true) {i : Nat} (hi : i < ns.length) (h : ¬ (ns.getD i dN).pl = 2) : depth ns i = dmax ns (ns.getD i dN).ch + 1 := by
  have h1 : depth ns i = depthF ns (ns.length + 1) i := depthF_same hok _ _ i hi (by omega) (by omega)
  rw [h1]; simp only [depthF, if_neg h]; rfl
theorem dmax_snoc (ns : List Nd) (l : List Int) (c : Int) : dmax ns (l ++ [c]) = max (dmax ns l) (depth ns c.toNat) := by simp [dmax]
theorem dmax_le {ns : List Nd} {B : Int} (hB : 0 ≤ B) : ∀ {l : List Int}, (∀ c ∈ l, depth ns c.toNat ≤ B) → 0 ≤ dmax ns l ∧ dmax ns l ≤ B := by
  intro l
  have key : ∀ (l : List Int) (a : Int), 0 ≤ a → a ≤ B → (∀ c ∈ l, depth ns c.toNat ≤ B) → 0 ≤ l.foldl (fun m c => max m (depth ns c.toNat)) a ∧ l.foldl (fun m c => max m (depth ns c.toNat)) a ≤ B := by
    intro l
    induction l with
    | nil => intro a h1 h2 _; exact ⟨h1, h2⟩
    | cons c l ih =>
      intro a h1 h2 h
      have := h c List.mem_cons_self
      simp only [List.foldl_cons]
      exact ih (max a (depth ns c.toNat)) (by omega) (by omega) fun c hc => h c (List.mem_cons_of_mem _ hc)
  exact key l 0 (by omega) hB
theorem depth_bd {ns : List Nd} (hok : allOk ns = true) : ∀ k i, ns.length - i ≤ k → i < ns.length → 0 ≤ depth ns i ∧ depth ns i ≤ k := by
  intro k
  induction k with
  | zero => intro i h hi; omega
  | succ k ih =>
    intro i h hi
    by_cases hp : (ns.getD i dN).pl = 2
    · rw [depth_end hi hp]; omega
    · rw [depth_step hok hi hp]
      have := dmax_le (ns := ns) (B := k) (by omega) (l := (ns.getD i dN).ch) fun c hc => by
        have := ok_kid (allOk_iff.1 hok i hi) hc
        exact (ih c.toNat (by omega) (by omega)).2
      omega
/-- A tree. -/
def isTree (ns : List Nd) : Bool := decide (1 ≤ ns.length ∧ ns.length ≤ 60) && (allOk ns && (oneEach ns && decide (depth ns 0 ≤ 5)))
theorem isTree_ok {ns : List Nd} (h : isTree ns = true) : (1 ≤ ns.length ∧ ns.length ≤ 60) ∧ allOk ns = true ∧ oneEach ns = true ∧ (0 ≤ depth ns 0 ∧ depth ns 0 ≤ 5) := by
  simp only [isTree, Bool.and_eq_true, decide_eq_true_eq] at h
  exact ⟨h.1, h.2.1, h.2.2.1, (depth_bd h.2.1 ns.length 0 (by omega) (by omega)).1, h.2.2.2⟩
theorem isTree_no1 {ns : List Nd} (h : ¬ (1 ≤ ns.length ∧ ns.length ≤ 60)) : isTree ns = false := by simp only [isTree, decide_eq_false h, Bool.false_and]
theorem isTree_no2 {ns : List Nd} (h : allOk ns = false) : isTree ns = false := by simp [isTree, h]
theorem isTree_no3 {ns : List Nd} (h : oneEach ns = false) : isTree ns = false := by simp [isTree, h]
theorem isTree_yes {ns : List Nd} (h1 : 1 ≤ ns.length ∧ ns.length ≤ 60) (h2 : allOk ns = true) (h3 : oneEach ns = true) : isTree ns = decide (depth ns 0 ≤ 5) := by simp [isTree, h1, h2, h3]
/-! ### How much of a budget is left -/
def cut (left s : Int) : Int := if s ≤ left then left - s else -1
theorem cut_yes {l s : Int} (h : s ≤ l) : cut l s = l - s := if_pos h
theorem cut_no {l s : Int} (h : ¬ s ≤ l) : cut l s = -1 := if_neg h
theorem cut_neg {l s : Int} (h : cut l s < 0) (hs : 0 ≤ l) : ¬ s ≤ l := fun h' => by rw [cut_yes h'] at h; omega
theorem cut_pos {l s : Int} (h : ¬ cut l s < 0) : s ≤ l ∧ cut l s = l - s := by
  by_cases h' : s ≤ l
  · exact ⟨h', cut_yes h'⟩
  · rw [cut_no h'] at h; omega
/-- All that elements lead to, and themselves. -/
def sumK {α : Type} (f : α → Nat) (l : List α) : Nat := (l.map f).sum
def szK {α : Type} (f : α → Nat) (l : List α) : Nat := l.length + sumK f l
theorem sumK_step {α : Type} (f : α → Nat) {l : List α} {i : Nat} (d : α) (h : i < l.length) : sumK f (l.take (i + 1)) = sumK f (l.take i) + f (l.getD i d) := by
  rw [take_step d h]; simp [sumK]
theorem sumK_le {α : Type} (f : α → Nat) (l : List α) (i : Nat) : sumK f (l.take i) ≤ sumK f l := by
  have : sumK f l = sumK f (l.take i) + sumK f (l.drop i) := by
    conv => lhs; rw [← List.take_append_drop i l]
    simp [sumK, -List.take_append_drop]
  omega
theorem sumK_all {α : Type} (f : α → Nat) {l : List α} {i : Nat} (h : l.length ≤ i) : sumK f (l.take i) = sumK f l := by rw [List.take_of_length_le h]
theorem sumK_at {α : Type} (f : α → Nat) {l : List α} {i : Nat} (d : α) (h : i < l.length) : f (l.getD i d) ≤ sumK f l := by
  have := sumK_step f d h
  have := sumK_le f l (i + 1)
  omega
/-- The lengths of what nodes, and rows, lead to. -/
def chl (x : Nd) : Nat := x.ch.length
def rwl (x : List Int) : Nat := x.length
theorem szK_at {α : Type} {f : α → Nat} {l : List α} {i B : Nat} (d : α) (hB : szK f l ≤ B) (h : i < l.length) : f (l.getD i d) ≤ B := by
  have := sumK_at f d h; unfold szK at hB; omega
theorem szK_len {α : Type} {f : α → Nat} {l : List α} {B : Nat} (hB : szK f l ≤ B) : l.length ≤ B := by unfold szK at hB; omega
theorem upto {p : Nat → Prop} {i : Nat} (h : ∀ j, j < i → p j) (hi : p i) : ∀ j, j < i + 1 → p j := fun j hj => by
  rcases Nat.lt_or_ge j i with h' | h'
  · exact h j h'
  · obtain rfl : j = i := by omega
    exact hi
def risesTo (n : Int) (z : List Int) (i : Nat) : Prop := (∀ j, j < i → inB 0 (n - 1) (z.getD j 0) = true) ∧ ∀ j, j + 1 < i → z.getD j 0 < z.getD (j + 1) 0
theorem risesTo_zero {n : Int} {z : List Int} : risesTo n z 0 := ⟨fun j h => by omega, fun j h => by omega⟩
theorem risesTo_step {n : Int} {z : List Int} {i : Nat} (h : risesTo n z i) (h1 : inB 0 (n - 1) (z.getD i 0) = true) (h2 : 0 < i → z.getD (i - 1) 0 < z.getD i 0) : risesTo n z (i + 1) := by
  refine ⟨upto h.1 h1, fun j hj => ?_⟩
  rcases Nat.lt_or_ge (j + 1) i with h' | h'
  · exact h.2 j h'
  · obtain rfl : i = j + 1 := by omega
    exact h2 (by omega)
theorem rises_yes {n : Int} {z : List Int} {i : Nat} (h : risesTo n z i) (hi : z.length ≤ i) : risesB n z = true := by
  simp only [risesB, Bool.and_eq_true]
  exact ⟨(all_getD 0).2 fun j hj => h.1 j (by omega), rising_iff.2 fun j hj => h.2 j (by omega)⟩
theorem rises_no1 {n : Int} {z : List Int} {i : Nat} (hi : i < z.length) (h : inB 0 (n - 1) (z.getD i 0) = false) : risesB n z = false := by
  simp only [risesB, all_no 0 hi h, Bool.false_and]
theorem rises_no2 {n : Int} {z : List Int} {i : Nat} (h0 : 0 < i) (hi : i < z.length) (h : ¬ z.getD (i - 1) 0 < z.getD i 0) : risesB n z = false := by
  obtain ⟨j, rfl⟩ : ∃ j, i = j + 1 := ⟨i - 1, by omega⟩
  simp only [risesB, rising_no hi h, Bool.and_false]
theorem allOk_iff' {ns : List Nd} {n : Nat} (hn : ns.length = n) : allOk ns = true ↔ ∀ i, i < n → okB n i (ns.getD i dN) = true := by subst hn; exact allOk_iff
theorem allOk_no' {ns : List Nd} {n i : Nat} (hn : ns.length = n) (hi : i < n) (h : okB n i (ns.getD i dN) = false) : allOk ns = false := by subst hn; exact allOk_no hi h
theorem depth_bd' {ns : List Nd} {n : Nat} (hn : ns.length = n) (hok : allOk ns = true) {i : Nat} (hi : i < n) : 0 ≤ depth ns i ∧ depth ns i ≤ n := by
  subst hn; exact depth_bd hok ns.length i (by omega) hi
/-- Bound of a count. -/
theorem cnt_bd (n : Nat) (l : List Int) (c : Nat) : 0 ≤ (cntL n l).getD c 0 ∧ (cntL n l).getD c 0 ≤ l.length := by
  by_cases h : c < n
  · rw [cntL_get h]; have := count_le (l := l) (c : Int); omega
  · have : (cntL n l).getD c 0 = 0 := by simp [List.getD, List.getElem?_eq_none (show (cntL n l).length ≤ c by rw [cntL_len]; omega)]
    omega
theorem kids_len2 {ns : List Nd} {n i : Nat} (hn : ns.length = n) (hi : i ≤ n) (hal : ∀ j, j < i → okB n j (ns.getD j dN) = true) : (kids (ns.take i)).length ≤ 4 * i := by
  induction i with
  | zero => simp [kids]
  | succ i ih =>
    rw [kids_step (by omega), List.length_append]
    have := ih (by omega) fun j hj => hal j (by omega)
    have := (ok_pl (hal i (by omega))).2.2.2.2.1
    omega
/-- Bound of a count on the way. -/
theorem cnt_way {ns : List Nd} {n i k c : Nat} (hn : ns.length = n) (h60 : n ≤ 60) (hi : i < n) (hal : ∀ j, j < i → okB n j (ns.getD j dN) = true) (hk : okB n i (ns.getD i dN) = true) :
    0 ≤ (cntL n (kids (ns.take i) ++ (ns.getD i dN).ch.take k)).getD c 0 ∧ (cntL n (kids (ns.take i) ++ (ns.getD i dN).ch.take k)).getD c 0 ≤ 1000 := by
  have h1 := cnt_bd n (kids (ns.take i) ++ (ns.getD i dN).ch.take k) c
  have h2 := kids_len2 hn (Nat.le_of_lt hi) hal
  have h3 := (ok_pl hk).2.2.2.2.1
  rw [List.length_append, List.length_take] at h1
  omega
theorem oneEach_no' {ns : List Nd} {n i : Nat} (hn : ns.length = n) (h1 : 1 ≤ i) (hi : i < n) (h : ¬ (kids ns).count (i : Int) = 1) : oneEach ns = false := by subst hn; exact oneEach_no h1 hi h
theorem oneEach_to {ns : List Nd} {n j : Nat} (hn : ns.length = n) (h : ∀ q, q < j → (kids ns).count ((q + 1 : Nat) : Int) = 1) (hj : n - 1 ≤ j) : oneEach ns = true := by
  subst hn
  refine oneEach_iff.2 fun i h1 h2 => ?_
  have := h (i - 1) (by omega)
  rwa [show i - 1 + 1 = i from by omega] at this
theorem cntL_start (n : Nat) (ns : List Nd) : List.replicate n 0 = cntL n (kids (ns.take 0)) := by rw [cntL_nil]; rfl
theorem cnt_drop {n : Nat} {l : List Int} {j : Nat} (h : j + 1 < n) : ((cntL n l).drop 1).getD j 0 = (l.count ((j + 1 : Nat) : Int) : Int) := by
  have := cntL_get (n := n) (l := l) (c := j + 1) h
  rw [← this]; simp [List.getD, List.getElem?_drop, Nat.add_comm]
/-! ### Why a node is not as it should -/
section
variable {n i : Nat} {x : Nd}
theorem no1 (h : inB 0 2 x.pl = false) : okB n i x = false := by simp [okB, h]
theorem no2 (h : inB 0 100 x.p0 = false) : okB n i x = false := by simp [okB, h]
theorem no3 (h : inB 0 100 x.p1 = false) : okB n i x = false := by simp [okB, h]
theorem no4 (h0 : x.pl = 2) (h : (0 : Int) < (x.ch.length : Int)) : okB n i x = false := by
  have : ¬ x.ch.length = 0 := by omega
  unfold okB; rw [decide_eq_true h0, decide_eq_false this]; simp
theorem no4' (h0 : x.pl = 2) (h : ¬ (x.ch.length : Int) = 0) : okB n i x = false := no4 h0 (by omega)
theorem no5 (h0 : x.pl = 2) (h : inB (-1) 1 x.fo = false) : okB n i x = false := by simp [okB, h0, h]
theorem no6 (h0 : x.pl = 2) (h : x.fo = -1) (h' : x.p0 ≠ x.p1) : okB n i x = false := by simp [okB, h0, h, h']
theorem no5' (h : inB (-1) 1 x.fo = false) : okB n i x = false := by
  have : ¬ x.fo = -1 := by
    intro e; rw [e] at h; simp [inB] at h
  simp [okB, h, this]
theorem no6' (h0 : x.pl = 2) (h1 : inB (-1) 1 x.fo = true) (h : ¬ 0 ≤ x.fo) (h' : ¬ x.p0 = x.p1) : okB n i x = false := by
  simp only [inB, decide_eq_true_eq] at h1
  exact no6 h0 (by omega) h'
theorem no7 (h0 : ¬ x.pl = 2) (h : x.fo ≠ -1) : okB n i x = false := by simp [okB, h0, h]
theorem no8 (h0 : ¬ x.pl = 2) (h : inB 1 4 (x.ch.length : Int) = false) : okB n i x = false := by simp [okB, h0, h]
theorem no9 (h0 : ¬ x.pl = 2) (h : x.ch.all (inB ((i : Int) + 1) ((n : Int) - 1)) = false) : okB n i x = false := by unfold okB; rw [decide_eq_false h0, h]; simp
theorem no10 (h0 : ¬ x.pl = 2) (h : risingB x.ch = false) : okB n i x = false := by unfold okB; rw [decide_eq_false h0, h]; simp
theorem no11 (h0 : ¬ x.pl = 2) (h : risesB n x.ch = false) : okB n i x = false := by
  simp only [risesB, Bool.and_eq_false_iff] at h
  rcases h with h | h
  · refine no9 h0 ?_
    rw [Bool.eq_false_iff] at h ⊢
    intro h'; apply h
    rw [List.all_eq_true] at h' ⊢
    intro z hz
    have := h' z hz
    simp only [inB, decide_eq_true_eq] at this ⊢
    omega
  · exact no10 h0 h
theorem no12 (h0 : ¬ x.pl = 2) (hl : inB 1 4 (x.ch.length : Int) = true) (h : ¬ (i : Int) < x.ch.getD 0 0) : okB n i x = false := by
  refine no9 h0 ?_
  simp only [inB, decide_eq_true_eq] at hl
  refine all_no 0 (i := 0) (by omega) ?_
  unfold inB; exact decide_eq_false (by omega)
theorem yes1 (h1 : inB 0 2 x.pl = true) (h2 : inB 0 100 x.p0 = true) (h3 : inB 0 100 x.p1 = true) (h0 : x.pl = 2) (hl : ¬ (0 : Int) < (x.ch.length : Int)) (h5 : inB (-1) 1 x.fo = true) (h6 : x.fo = -1 → x.p0 = x.p1) : okB n i x = true := by
  have : x.ch.length = 0 := by omega
  unfold okB; rw [h1, h2, h3, h5, decide_eq_true h0, decide_eq_true this]
  by_cases hf : x.fo = -1
  · simp [h6 hf]
  · simp [hf]
theorem yes2 (h1 : inB 0 2 x.pl = true) (h2 : inB 0 100 x.p0 = true) (h3 : inB 0 100 x.p1 = true) (h0 : ¬ x.pl = 2) (hf : ¬ x.fo ≠ -1) (hl : inB 1 4 (x.ch.length : Int) = true) (ha : x.ch.all (inB ((i : Int) + 1) ((n : Int) - 1)) = true) (hr : risingB x.ch = true) : okB n i x = true := by
  have hf : x.fo = -1 := by omega
  unfold okB; rw [h1, h2, h3, hl, ha, hr, decide_eq_false h0, decide_eq_true hf]; rfl
theorem yes3 (hl : inB 1 4 (x.ch.length : Int) = true) (hr : risesB n x.ch = true) (h : (i : Int) < x.ch.getD 0 0) : x.ch.all (inB ((i : Int) + 1) ((n : Int) - 1)) = true ∧ risingB x.ch = true := by
  simp only [risesB, Bool.and_eq_true] at hr
  refine ⟨?_, hr.2⟩
  rw [all_getD 0]
  intro j hj
  have h1 := (all_getD 0).1 hr.1 j hj
  simp only [inB, decide_eq_true_eq] at h1 ⊢
  rcases Nat.eq_zero_or_pos j with h2 | h2
  · subst h2; omega
  · have := rising_lt hr.2 h2 hj; omega
theorem end1 (h1 : inB 0 2 x.pl = true) (h2 : inB 0 100 x.p0 = true) (h3 : inB 0 100 x.p1 = true) (h5 : inB (-1) 1 x.fo = true) (h0 : x.pl = 2) (hl : (x.ch.length : Int) = 0) (hf : 0 ≤ x.fo) : okB n i x = true :=
  yes1 h1 h2 h3 h0 (by omega) h5 (fun h => by omega)
theorem end2 (h1 : inB 0 2 x.pl = true) (h2 : inB 0 100 x.p0 = true) (h3 : inB 0 100 x.p1 = true) (h5 : inB (-1) 1 x.fo = true) (h0 : x.pl = 2) (hl : (x.ch.length : Int) = 0) (hf : ¬ 0 ≤ x.fo) : okB n i x = decide (x.p0 = x.p1) := by
  by_cases h : x.p0 = x.p1
  · rw [yes1 h1 h2 h3 h0 (by omega) h5 (fun _ => h), decide_eq_true h]
  · rw [no6' h0 h5 hf h, decide_eq_false h]
theorem dec1 (h1 : inB 0 2 x.pl = true) (h2 : inB 0 100 x.p0 = true) (h3 : inB 0 100 x.p1 = true) (h0 : ¬ x.pl = 2) (hf : ¬ x.fo ≠ -1) (hl : inB 1 4 (x.ch.length : Int) = true) (hr : risesB n x.ch = true) : okB n i x = decide ((i : Int) < x.ch.getD 0 0) := by
  by_cases h : (i : Int) < x.ch.getD 0 0
  · rw [decide_eq_true h]; have := yes3 hl hr h; exact yes2 h1 h2 h3 h0 hf hl this.1 this.2
  · rw [decide_eq_false h]; exact no12 h0 hl h
theorem ok_empty (h : okB n i x = true) (h0 : x.pl = 2) : x.ch = [] := by
  have := (ok_pl h).2.2.2.2.2.1 h0
  exact List.eq_nil_of_length_eq_zero this
end
theorem cnt_kid {ns : List Nd} {i k n : Nat} (hn : ns.length = n) (hok : okB n i (ns.getD i dN) = true) (hi : i < n) (hk : k < (ns.getD i dN).ch.length) :
    (0 ≤ (ns.getD i dN).ch.getD k 0 ∧ (ns.getD i dN).ch.getD k 0 < n) ∧
    (cntL n (kids (ns.take i) ++ (ns.getD i dN).ch.take k)).set ((ns.getD i dN).ch.getD k 0).toNat ((cntL n (kids (ns.take i) ++ (ns.getD i dN).ch.take k)).getD ((ns.getD i dN).ch.getD k 0).toNat 0 + 1) = cntL n (kids (ns.take i) ++ (ns.getD i dN).ch.take (k + 1)) := by
  have := ok_kid hok (getD_mem 0 hk)
  refine ⟨by omega, ?_⟩
  rw [cntL_step (by omega) (by omega), take_step 0 hk, List.append_assoc]
/-- The nodes of a player. -/
def nodesOf (ns : List Nd) (p : Int) : List Int := ((List.range ns.length).filter fun i => decide ((ns.getD i dN).pl = p)).map fun (i : Nat) => (i : Int)
def nodesTo (ns : List Nd) (p : Int) (k : Nat) : List Int := ((List.range k).filter fun i => decide ((ns.getD i dN).pl = p)).map fun (i : Nat) => (i : Int)
def endsOf (ns : List Nd) : List Int × Int := if isTree ns = true then (nodesOf ns 2, 0) else ([], 1)
def decsOf (ns : List Nd) (p : Int) : List Int × Int := if isTree ns = true then (if 0 ≤ p ∧ p ≤ 1 then (nodesOf ns p, 0) else ([], 2)) else ([], 1)
def depthOf (ns : List Nd) : Int × Int := if isTree ns = true then (depth ns 0, 0) else (0, 1)
/-- Where places lead. -/
def walk (ns : List Nd) : List Int → Int → Option Int
  | [], at_ => some at_
  | p :: r, at_ => if 0 ≤ p ∧ p ≤ ((ns.getD at_.toNat dN).ch.length : Int) - 1 then walk ns r ((ns.getD at_.toNat dN).ch.getD p.toNat 0) else none
def nodeBy (ns : List Nd) (way : List Int) : Int × Int := if isTree ns = true then (match walk ns way 0 with | some x => (x, 0) | none => (0, 4)) else (0, 1)
/-! ### Marks -/
def seqL (k : Int) (n : Nat) : List Int := (List.range n).map fun (i : Nat) => k + (i : Int)
def f4 (x : Nd) : Nat := 4 + x.ch.length
def markN (k : Int) (x : Nd) : Nd := ⟨k, k + 1, k + 1 + 1, k + 1 + 1 + 1, seqL (k + 1 + 1 + 1 + 1) x.ch.length⟩
def marksN (k : Int) (ys : List Nd) : List Nd := ys.mapIdx fun i x => markN (k + (sumK f4 (ys.take i) : Int)) x
def marksM (k : Int) (ys : List (List Int)) : List (List Int) := ys.mapIdx fun i x => seqL (k + (sumK rwl (ys.take i) : Int)) x.length
theorem sumK_f4 (ys : List Nd) : sumK f4 ys = 4 * ys.length + sumK chl ys := by
  induction ys with
  | nil => rfl
  | cons y ys ih => simp only [sumK, List.map_cons, List.sum_cons, List.length_cons] at ih ⊢; rw [ih]; simp only [f4, chl]; omega
end Go.Proofs.YtgnfffdenbiipaaDoor.Math
