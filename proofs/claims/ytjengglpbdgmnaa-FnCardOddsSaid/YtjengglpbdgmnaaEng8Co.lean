/- The engine, part 8: pieces in whatever order, joined and fused; numbers, rows and nodes in slices, read and owned. No condition. -/
import Derived.Test.YtjengglpbdgmnaaEng7Co
namespace Go.Proofs.Ytjengglpbdgmnaa.V
open Go Go.RowKit
set_option linter.unusedVariables false
set_option linter.unusedSimpArgs false
section
variable {w0 : World} {M : Nat → Prop} {L L' : List (World → Prop)} {w w' : World} {B T : Nat} {φ ψ χ : World → Prop}
theorem SepL.perm (hp : L.Perm L') : ∀ {fs : List (Nat → Prop)}, SepL M B T fs L w → ∃ fs', (∀ g, g ∈ fs' ↔ g ∈ fs) ∧ SepL M B T fs' L' w := by
  induction hp with
  | nil => intro fs h; exact ⟨fs, fun _ => Iff.rfl, h⟩
  | cons a _ ih =>
    intro fs h
    cases fs with
    | nil => exact h.elim
    | cons f fs =>
      obtain ⟨h1, h2, h3, h4⟩ := h
      obtain ⟨fs', hm, h4'⟩ := ih h4
      exact ⟨f :: fs', fun g => by simp [hm], h1, fun g hg => h2 g ((hm g).1 hg), h3, h4'⟩
  | swap a b l =>
    intro fs h
    match fs, h with
    | f :: g :: fs, ⟨h1, h2, h3, h4, h5, h6, h7⟩ =>
      refine ⟨g :: f :: fs, fun q => by simp only [List.mem_cons]; exact ⟨fun h => by rcases h with h | h | h <;> simp [h], fun h => by rcases h with h | h | h <;> simp [h]⟩, h4, fun q hq k hk hqk => ?_, h6, h1, fun q hq => h2 q (List.mem_cons_of_mem _ hq), h3, h7⟩
      rcases List.mem_cons.1 hq with rfl | hq
      · exact h2 g List.mem_cons_self k hqk hk
      · exact h5 q hq k hk hqk
    | [_], ⟨_, _, _, h⟩ => exact h.elim
    | [], h => exact h.elim
  | trans _ _ ih1 ih2 =>
    intro fs h
    obtain ⟨fs1, hm1, h1⟩ := ih1 h
    obtain ⟨fs2, hm2, h2⟩ := ih2 h1
    exact ⟨fs2, fun g => (hm2 g).trans (hm1 g), h2⟩
theorem Sep.perm (h : Sep w0 M L w) (hp : L.Perm L') : Sep w0 M L' w := by
  obtain ⟨h1, fs, h2⟩ := h
  obtain ⟨fs', _, h3⟩ := h2.perm hp
  exact ⟨h1, fs', h3⟩
theorem pull : ∀ {L : List (World → Prop)} {i : Nat}, L[i]? = some φ → L.Perm (φ :: L.eraseIdx i)
  | [], _, h => by simp at h
  | a :: L, 0, h => by simp at h; subst h; exact .refl _
  | a :: L, i + 1, h => by
    simp at h
    exact ((pull h).cons a).trans (.swap _ _ _)
/-- Pieces, each by its place among those that are left. -/
def pickL : List Nat → List (World → Prop) → List (World → Prop)
  | [], _ => []
  | i :: is, L => match L[i]? with
    | some φ => φ :: pickL is (L.eraseIdx i)
    | none => pickL is L
theorem Sep.pick (is : List Nat) (h : Sep w0 M L w) : Sep w0 M (pickL is L) w := by
  have key : ∀ (is : List Nat) (L : List (World → Prop)), ∃ R, L.Perm (pickL is L ++ R) := by
    intro is
    induction is with
    | nil => intro L; exact ⟨L, .refl _⟩
    | cons i is ih =>
      intro L
      unfold pickL
      cases hi : L[i]? with
      | none => exact ih L
      | some φ =>
        obtain ⟨R, hR⟩ := ih (L.eraseIdx i)
        exact ⟨R, (pull hi).trans (hR.cons φ)⟩
  obtain ⟨R, hR⟩ := key is L
  exact (h.perm hR).sub (List.sublist_append_left _ _)
/-- A piece says less, or otherwise. -/
theorem Sep.imp (h : Sep w0 M L w) (j : Nat) (hj : L[j]? = some φ) (hi : ∀ w, φ w → ψ w) : Sep w0 M (L.set j ψ) w :=
  h.change j hj fun f hf => ⟨f, fun _ h => .inl h, hf.imp hi, Upd.refl _ _⟩
/-- A piece that needs no memory. -/
theorem Sep.bare (h : Sep w0 M L w) (hφ : ∀ f, St f φ w) : Sep w0 M (φ :: L) w := h.push (Upd.refl _ _) (hφ _)
theorem Sep.pure (h : Sep w0 M L w) {q : Prop} (hq : q) : Sep w0 M ((fun _ => q) :: L) w := h.bare fun _ _ _ => hq
/-- Two pieces become one. -/
theorem Sep.fuse (h : Sep w0 M (φ :: ψ :: L) w) (hs : ∀ f g, St f φ w → St g ψ w → (∀ k, f k → ¬ g k) → ∃ f' : Nat → Prop, (∀ k, f' k → f k ∨ g k ∨ New w w' k) ∧ St f' χ w' ∧ Upd (fun k => f k ∨ g k) w w') : Sep w0 M (χ :: L) w' := by
  obtain ⟨h1, fs, h2⟩ := h
  match fs, h2 with
  | f :: g :: fs, ⟨k1, k2, k3, k4, k5, k6, k7⟩ =>
    obtain ⟨f', hf', hχ, hu⟩ := hs f g k3 k6 (fun k hk hg => k2 g List.mem_cons_self k hk hg)
    refine ⟨⟨hu.os.trans h1.os, hu.tape.trans h1.tape, hu.output.trans h1.output, Nat.le_trans h1.size hu.size, fun k hk hm => ?_⟩, f' :: fs, fun k hk => ?_, fun q hq k hk hqk => ?_, hχ, ?_⟩
    · rw [hu.block k (Nat.lt_of_lt_of_le hk h1.size) fun hfk => ?_]
      · exact h1.block k hk hm
      · rcases hfk with hfk | hfk
        · rcases (k1 k hfk).1 with h | h
          · exact Nat.not_le_of_lt hk h
          · exact hm h
        · rcases (k4 k hfk).1 with h | h
          · exact Nat.not_le_of_lt hk h
          · exact hm h
    · rcases hf' k hk with h | h | h
      · exact ⟨(k1 k h).1, Nat.lt_of_lt_of_le (k1 k h).2 hu.size⟩
      · exact ⟨(k4 k h).1, Nat.lt_of_lt_of_le (k4 k h).2 hu.size⟩
      · exact ⟨.inl (Nat.le_trans h1.size h.1), h.2⟩
    · rcases hf' k hk with h | h | h
      · exact k2 q (List.mem_cons_of_mem _ hq) k h hqk
      · exact k5 q hq k h hqk
      · have := (k7.fp_lt q hq k hqk).2; have := h.1; omega
    · exact k7.keep hu.size fun q hq k hk => hu.block k (k7.fp_lt q hq k hk).2 fun hfg => by
        rcases hfg with hfg | hfg
        · exact k2 q (List.mem_cons_of_mem _ hq) k hfg hk
        · exact k5 q hq k hfg hk
  | [_], ⟨_, _, _, h⟩ => exact h.elim
  | [], h => exact h.elim
/-- What a call made stands beside what there was. -/
theorem Sep.join (h : Sep w0 M L w) (h' : Sep w none_ L' w') : Sep w0 M (L' ++ L) w' := by
  have he : Ext w w' := h'.1
  have hL := h.ext he
  obtain ⟨h1, fs, h2⟩ := h
  obtain ⟨_, fs', h3⟩ := h'
  refine ⟨hL.1, ?_⟩
  have base := h2.keep (T' := w'.heap.size) he.size (w' := w') fun g hg k hk => he.block k (h2.fp_lt g hg k hk).2 fun h => h
  have key : ∀ (fs' : List (Nat → Prop)) (L' : List (World → Prop)), SepL none_ w.heap.size w'.heap.size fs' L' w' → SepL M w0.heap.size w'.heap.size (fs' ++ fs) (L' ++ L) w' := by
    intro fs' 
    induction fs' with
    | nil => intro L' h; cases L' with | nil => exact base | cons _ _ => exact h.elim
    | cons f fs' ih =>
      intro L' h
      cases L' with
      | nil => exact h.elim
      | cons φ L' =>
        obtain ⟨a1, a2, a3, a4⟩ := h
        refine ⟨fun k hk => ⟨.inl (Nat.le_trans h1.size ((a1 k hk).1.resolve_right fun h => h)), (a1 k hk).2⟩, fun g hg k hk hgk => ?_, a3, ih L' a4⟩
        rcases List.mem_append.1 hg with hg | hg
        · exact a2 g hg k hk hgk
        · have := (h2.fp_lt g hg k hgk).2
          have := (a1 k hk).1.resolve_right fun h => h
          omega
  exact ⟨fs' ++ fs, key fs' L' h3⟩
end
section
variable {P : Program} {n : Nat} {w0 : World} {M : Nat → Prop} {L L' : List (World → Prop)} {σ : Fr} {K K' : Ko} {c x y : Code} {ops : Array Oper} {S : World → Prop} {r : Sch} {i : Nat}
variable {d : Nat} {t : TypeId} {p : String} {af : Array Edge} {g : Option (Nat × Bool)} {a b : Operand}
/-- A call that hands back pieces. -/
theorem callS {α : Type} {f : FuncId} {args : Array Operand} {tys : Array TypeId} {val : α → Value} {good : α → Prop} {φs : α → List (World → Prop)} (hf : ∀ args w, (callFunc f args).run P w = .ok (.enter f args) w) (hS : ∀ x w, Sep w0 M (φs x ++ L) w → S w) (ho : ops[i]? = some ⟨some d, .call ⟨.value (.func f), args, tys⟩, t, p, af, g⟩) (hg : go ops σ g)
    (hc : ∀ w, Sep w0 M L w → Calls P f (args.toList.map (ev σ)).toArray w (Ret fun v' w' => ∃ x, v' = val x ∧ good x ∧ Sep w none_ (φs x) w')) (h : ∀ x, good x → RG P n w0 M ops S (φs x ++ L) r (upd σ d (val x)) K) : RG P n w0 M ops S L (.op .l i r) σ K :=
  rL (Lx := fun x => φs x ++ L) (v := val) hS ho hg (fun w hs => call_opw hf (hc w hs) fun v' w' ⟨x, he, hx, hsep⟩ => by subst he; exact ⟨x, hx, hs.join hsep, rfl⟩) h
end
/-! ### Numbers in slices -/
def iv (zs : List Int) : List Value := zs.map (Value.int .i64)
theorem iv_get {zs : List Int} {k : Nat} (h : k < zs.length) : (iv zs)[k]? = some (.int .i64 (zs.getD k 0)) := by
  simp [iv, List.getD, List.getElem?_eq_getElem h]
theorem iv_len (zs : List Int) : (iv zs).length = zs.length := by simp [iv]
theorem iv_app (zs : List Int) (x : Int) : iv zs ++ [.int .i64 x] = iv (zs ++ [x]) := by simp [iv]
theorem iv_set (zs : List Int) (k : Nat) (x : Int) : (iv zs).set k (.int .i64 x) = iv (zs.set k x) := by simp [iv, List.map_set]
theorem iv_rep (N : Nat) : (List.replicate N [Value.int .i64 0]).flatten = iv (List.replicate N 0) := by
  induction N with
  | zero => rfl
  | succ N ih => simp [List.replicate_succ, iv] at ih ⊢
/-- A slice of numbers, read. -/
def RdI (a : Option Addr) (n : Nat) (zs : List Int) : World → Prop := fun w => zs.length = n ∧ n ≤ 9223372036854775807 ∧ CellsAt a (iv zs) w
theorem RdI.ext {a : Option Addr} {n : Nat} {zs : List Int} {w w' : World} (h : RdI a n zs w) (he : Ext w w') : RdI a n zs w' := ⟨h.1, h.2.1, h.2.2.ext he⟩
theorem RdI.nil (a : Option Addr) (w : World) : RdI a 0 [] w := ⟨rfl, by decide, CellsAt.nil _ _⟩
/-- A slice of numbers, owned. -/
def OwnI (e : Nat) (a : Option Addr) (n c : Nat) (zs : List Int) : World → Prop := Own e 1 a n c (iv zs)
theorem OwnI.rd {e : Nat} {a : Option Addr} {n c : Nat} {zs : List Int} {w : World} (h : OwnI e a n c zs w) : RdI a n zs w := ⟨by have := h.len; rw [iv_len] at this; omega, Own.max h, Own.cellsAt h⟩
theorem OwnI.lenz {e : Nat} {a : Option Addr} {n c : Nat} {zs : List Int} {w : World} (h : OwnI e a n c zs w) : zs.length = n := h.rd.1
theorem OwnI.nil (e : Nat) (w : World) : OwnI e none 0 0 [] w := Own.nil e 1 w
section
variable {P : Program} {n : Nat} {w0 : World} {M : Nat → Prop} {L L' : List (World → Prop)} {σ : Fr} {K K' : Ko} {c x y : Code} {ops : Array Oper} {S : World → Prop} {r : Sch} {i : Nat}
variable {d : Nat} {t : TypeId} {p : String} {af : Array Edge} {g : Option (Nat × Bool)} {a b : Operand}
variable {ty e m by_ N C : Nat} {ao : Option Addr} {zs : List Int} {zc : List Value}
theorem ixIq {len cap : Nat} {k : IntKind} {z : Int} {q : Option Addr} (hE : Elt P ty 1) (hC : ∀ w, S w → RdI q len zs w) (hS : ∀ w, Sep w0 M L w → S w) (ho : ops[i]? = some ⟨some d, .indexAddr ty a b, t, p, af, g⟩) (hg : go ops σ g) (ha : ev σ a = .slice q len cap) (hb : ev σ b = .int k z) (h0 : 0 ≤ z) (h1 : z < len) {zn : Nat} (hzn : z.toNat = zn)
    (h : ∀ ad, (∀ w, S w → w.cell? ad = some (.int .i64 (zs.getD zn 0))) → RG P n w0 M ops S L r (upd σ d (.pointer (some ad))) K) : RG P n w0 M ops S L (.op .q i r) σ K := fun w hs => by
  subst hzn
  exact ixq hE (fun w hw => (hC w hw).2.2) hS ho hg ha hb h0 h1 (iv_get (by have := (hC w (hS w hs)).1; omega)) h w hs
theorem ixIl {len cap : Nat} {k : IntKind} {z : Int} {q : Option Addr} (hE : Elt P ty 1) (hC : Kn w0 M L (RdI q len zs)) (ho : ops[i]? = some ⟨some d, .indexAddr ty a b, t, p, af, g⟩) (hg : go ops σ g) (ha : ev σ a = .slice q len cap) (hb : ev σ b = .int k z) (h0 : 0 ≤ z) (h1 : z < len) {zn : Nat} (hzn : z.toNat = zn)
    (h : ∀ ad, (Kn w0 M L fun w => w.cell? ad = some (.int .i64 (zs.getD zn 0))) → RG P n w0 M ops S L r (upd σ d (.pointer (some ad))) K) : RG P n w0 M ops S L (.op .q i r) σ K := fun w hs => by
  subst hzn
  exact ixl hE (hC.imp fun _ h => h.2.2) ho hg ha hb h0 h1 (iv_get (by have := (hC w hs).1; omega)) h w hs
theorem mksI {k : IntKind} {z : Int} (N : Nat) (hM : Mk P ty e 1 by_ [.int .i64 0]) (hS : ∀ bk w, Sep w0 M (OwnI e (some ⟨bk, 0, none⟩) N N (List.replicate N 0) :: L) w → S w) (ho : ops[i]? = some ⟨some d, .makeSlice ty a b, t, p, af, g⟩) (hg : go ops σ g) (ha : ev σ a = .int k z) (hb : ev σ b = .int k z) (hz : z = (N : Int)) (hN : by_ * N ≤ 140737488355328)
    (h : ∀ bk, w0.heap.size ≤ bk → RG P n w0 M ops S (OwnI e (some ⟨bk, 0, none⟩) N N (List.replicate N 0) :: L) r (upd σ d (.slice (some ⟨bk, 0, none⟩) N N)) K) : RG P n w0 M ops S L (.op .l i r) σ K := by
  unfold OwnI at hS h
  rw [← iv_rep] at hS h
  exact mks N hM hS ho hg ha hb hz hN h
theorem aplI {lb le lc : Nat} {x : Int} (j i' : Nat) (hj : L[j]? = some (OwnI e ao N C zs)) (hi : L[i']? = some (blk lb le [.int .i64 x])) (hM : Mk P ty e 1 by_ zc) (hS : ∀ (q : Option Addr × Nat) w, Sep w0 M (L.set j (OwnI e q.1 (N + 1) q.2 (zs ++ [x]))) w → S w) (ho : ops[i]? = some ⟨some d, .call ⟨.builtin .append, #[a, b], #[ty, ty]⟩, t, p, af, g⟩) (hg : go ops σ g) (ha : ev σ a = .slice ao N C) (hb : ev σ b = .slice (some ⟨lb, 0, none⟩) 1 lc) (hN : (N + 1) * by_ ≤ 140737488355328)
    (h : ∀ a' c', RG P n w0 M ops S (L.set j (OwnI e a' (N + 1) c' (zs ++ [x]))) r (upd σ d (.slice a' (N + 1) c')) K) : RG P n w0 M ops S L (.op .l i r) σ K := by
  unfold OwnI at hS h hj
  rw [← iv_app] at hS h
  exact apl j i' hj hi hM hS ho hg ha hb rfl (by simp [Value.oneCell']) hN h
theorem oxI {cap : Nat} {k : IntKind} {z : Int} (j : Nat) (hj : L[j]? = some (OwnI e ao N C zs)) (hE : Elt P ty 1) (ho : ops[i]? = some ⟨some d, .indexAddr ty a b, t, p, af, g⟩) (hg : go ops σ g) (ha : ev σ a = .slice ao N cap) (hb : ev σ b = .int k z) (h0 : 0 ≤ z) (h1 : z < N) {zn : Nat} (hzn : z.toNat = zn)
    (h : ∀ gk, ao = some ⟨gk, 0, none⟩ → RG P n w0 M ops S L r (upd σ d (.pointer (some ⟨gk, zn, none⟩))) K) : RG P n w0 M ops S L (.op .q i r) σ K := by
  subst hzn
  exact oxa1 j hj hE ho hg ha hb h0 h1 h
theorem stoI {x : Int} {gk off : Nat} (j : Nat) (hj : L[j]? = some (OwnI e ao N C zs)) (hao : ao = some ⟨gk, 0, none⟩) (hz : Size P ty 1) (hS : ∀ w, Sep w0 M (L.set j (OwnI e ao N C (zs.set off x))) w → S w) (ho : ops[i]? = some ⟨none, .store ty a b, t, p, af, g⟩) (hg : go ops σ g) (ha : ev σ a = .pointer (some ⟨gk, off, none⟩)) (hb : ev σ b = .int .i64 x) (hlt : off < N)
    (h : RG P n w0 M ops S (L.set j (OwnI e ao N C (zs.set off x))) r σ K) : RG P n w0 M ops S L (.op .l i r) σ K := fun w hs => by
  have hlen := (show OwnI e ao N C zs w from hs.at_ j hj).lenz
  unfold OwnI at hS h hj
  rw [← iv_set] at hS h
  exact sto j hj hao hz hS ho hg ha hb rfl (by rw [iv_len]; omega) h w hs
/-- A literal of numbers is an owned slice. -/
theorem Sep.litI {bk e : Nat} {vs : List Value} {w : World} (h : Sep w0 M L w) (j : Nat) (zs : List Int) (hj : L[j]? = some (blk bk e vs)) (hv : vs = iv zs) (hl : Nat.ble zs.length 1000 = true) : Sep w0 M (L.set j (OwnI e (some ⟨bk, 0, none⟩) zs.length zs.length zs)) w :=
  h.imp j hj fun w hb => by
    subst hv
    have hl := Nat.le_of_ble_eq_true hl
    have := Own.ofBlk hb (by rw [iv_len]; simp only [maxLen]; omega)
    rwa [iv_len] at this
theorem Sep.nilI {w : World} (e : Nat) (h : Sep w0 M L w) : Sep w0 M (OwnI e none 0 0 [] :: L) w := h.bare fun f => (OwnI.nil e w).St fun _ hb => by cases hb
end
end Go.Proofs.Ytjengglpbdgmnaa.V
