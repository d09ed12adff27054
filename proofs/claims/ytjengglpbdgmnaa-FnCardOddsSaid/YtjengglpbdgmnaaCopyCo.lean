/- Rows copied with what they lead to; rows that are read. No condition. -/
import Derived.Test.YtjengglpbdgmnaaEngCCo
namespace Go.Proofs.Ytjengglpbdgmnaa.V
open Go Go.RowKit
set_option linter.unusedVariables false
set_option linter.unusedSimpArgs false
section
variable {P : Program} {ty e m by_ : Nat} {zc : List Value}
theorem run_append_listM {w : World} (hM : Mk P ty e m by_ zc) {n c k cq : Nat} {ao q : Option Addr} {xs news : List Value} (hown : Own e m ao n c xs w) (tyr : TypeId) (hlen : news.length = k * m) (hc : CellsAt q news w) (h1 : ∀ u ∈ news, u.oneCell' = true) (hN : (n + k) * by_ ≤ 140737488355328) :
    ∃ a' c' w', (Builtin.append_ #[ty, ty] tyr #[.slice ao n c, .slice q k cq]).run P w = .ok (.slice a' (n + k) c') w' ∧ Own e m a' (n + k) c' (xs ++ news) w' ∧ Upd (fpO ao) w w' ∧ (∀ g', fpO a' g' → fpO ao g' ∨ New w w' g') := by
  obtain ⟨hu, inf, zv, hi, hz0, hs, hby, hzc, hm, hm0, hb0⟩ := hM
  have hN63 : n + k ≤ maxLen := by
    have : n + k ≤ (n + k) * by_ := Nat.le_mul_of_pos_right _ hb0
    simp only [maxLen]; omega
  have hzs : zv.cells.size = m := by rw [hzc]; simpa using hm
  cases q with
  | none =>
    have hn0 : news = [] := by
      cases news with
      | nil => rfl
      | cons x l => obtain ⟨b, off, h, _⟩ := hc 0 x rfl; cases h
    subst hn0
    have hk0 : k = 0 := by
      have h5 : k * m = 0 := by simpa using hlen.symm
      exact (Nat.mul_eq_zero.1 h5).resolve_right (by omega)
    subst hk0
    have hr := run_append_none_any (P := P) w ty tyr e inf 0 m hu hi (.slice ao n c) n xs hown cq
    exact ⟨ao, c, w, hr, by rw [List.append_nil]; exact hown, Upd.refl _ _, fun g' h => .inl h⟩
  | some ad =>
    have hnews : ∀ j u, news[j]? = some u → w.cell? (ad.add j) = some u := fun j u hj => by
      obtain ⟨b, off, h, hc'⟩ := hc j u hj
      cases h
      rw [Addr.add_lit]; exact hc'
    have fin : ∀ (v' : Value) (w' : World), (Builtin.append_ #[ty, ty] tyr #[.slice ao n c, .slice (some ad) k cq]).run P w = .ok v' w' → w'.ownsRow w.heap.size e m v' (n + k) (xs ++ news) → Upd (fpO ao) w w' →
        ∃ a' c' w', (Builtin.append_ #[ty, ty] tyr #[.slice ao n c, .slice (some ad) k cq]).run P w = .ok (.slice a' (n + k) c') w' ∧ Own e m a' (n + k) c' (xs ++ news) w' ∧ Upd (fpO ao) w w' ∧ (∀ g', fpO a' g' → fpO ao g' ∨ New w w' g') := by
      intro v' w' hr ho hup
      obtain ⟨hl', h2⟩ := ho
      rcases h2 with ⟨hv, h0⟩ | ⟨g', cap, cur, rfl, hb, hg, hnc, hcm, hcs, ht⟩
      · subst hv
        rw [h0] at hl' ⊢
        exact ⟨none, 0, w', hr, ⟨hl', .inl ⟨rfl, rfl⟩⟩, hup, fun g' h => by cases h⟩
      · exact ⟨some ⟨g', 0, none⟩, cap, w', hr, ⟨hl', .inr ⟨g', cap, cur, rfl, Nat.zero_le _, hg, hnc, hcm, hcs, ht⟩⟩, hup, fun g2 h => by
          unfold fpO at h; cases h
          exact .inr ⟨hb, (Array.getElem?_eq_some_iff.1 hg).1⟩⟩
    have up : ∀ {w' : World} {row : Option Nat}, w.grownBy w' row → (∀ k, row = some k → fpO ao k) → Upd (fpO ao) w w' := fun hgr hrow =>
      ⟨hgr.os, hgr.tape, hgr.output, hgr.size, fun q hq hn => hgr.block q hq (fun e => hn (hrow q e.symm))⟩
    rcases hown.2 with ⟨hv, h0⟩ | ⟨g0, cap, cur, hv, hb, hg, hnc, hcm, hcs, ht⟩
    · obtain ⟨rfl, hc0⟩ : ao = none ∧ c = 0 := by cases hv; exact ⟨rfl, rfl⟩
      subst h0; subst hc0
      obtain ⟨v', w', hr, ho, hgr, _⟩ := run_append_own (P := P) w w.heap.size ty tyr e inf zv m by_ hu hi hz0 hs hby hzs hm0 (.slice none 0 0) 0 xs ⟨hown.1, .inl ⟨rfl, rfl⟩⟩ ad k cq news hlen hnews h1 hN63 hN (Nat.le_refl _)
      exact fin v' w' hr ho (up hgr fun k hk => by simp [Value.ownBlock] at hk)
    · obtain ⟨rfl, rfl⟩ : ao = some ⟨g0, 0, none⟩ ∧ c = cap := by cases hv; exact ⟨rfl, rfl⟩
      by_cases hroom : n + k ≤ c
      · obtain ⟨w', hr, ho, hgr⟩ := run_append_fits (P := P) w 0 ty tyr e inf m hu hi hs g0 n c xs hown ad k cq news hlen hnews h1 hroom
        exact ⟨some ⟨g0, 0, none⟩, c, w', hr, ho, up hgr fun k hk => by cases hk; rfl, fun g' h => .inl h⟩
      · have holds : ∀ j u, xs[j]? = some u → w.cell? ((⟨g0, 0, none⟩ : Addr).add j) = some u := by
          have h3 : w.ownsRow 0 e m (.slice (some ⟨g0, 0, none⟩) n c) n xs := hown
          exact h3.cells (g := g0) rfl
        obtain ⟨v', w', hr, ho, hgr⟩ := run_append_arg_grows (P := P) w ty tyr e inf zv m by_ hu hi hz0 hs hby hzs hm0 ⟨g0, 0, none⟩ n c xs hown.1 holds ad k cq news hlen hnews (by omega) hN63 hN
        exact fin v' w' hr ho (up hgr fun k hk => by simp at hk)
end
section
variable {P : Program} {n : Nat} {w0 : World} {M : Nat → Prop} {L L' Lf Lr : List (World → Prop)} {σ : Fr} {K K' : Ko} {c x y : Code} {ops : Array Oper} {S : World → Prop} {r : Sch} {i : Nat}
variable {d : Nat} {t : TypeId} {p : String} {af : Array Edge} {g : Option (Nat × Bool)} {a b : Operand}
variable {ty e m by_ N C : Nat} {ao : Option Addr} {xs : List Value} {zc : List Value}
/-- 'append' of a list of cells to nothing. -/
theorem aplX {k lc : Nat} {q : Option Addr} {news : List Value} (j : Nat) (hj : L[j]? = some (Own e m ao 0 C [])) (hC : Kn w0 M L (CellsAt q news)) (hl : news.length = k * m) (h1 : ∀ u ∈ news, u.oneCell' = true) (hM : Mk P ty e m by_ zc) (hS : ∀ (x : Option Addr × Nat) w, Sep w0 M (L.set j (Own e m x.1 k x.2 news)) w → S w) (ho : ops[i]? = some ⟨some d, .call ⟨.builtin .append, #[a, b], #[ty, ty]⟩, t, p, af, g⟩) (hg : go ops σ g) (ha : ev σ a = .slice ao 0 C) (hb : ev σ b = .slice q k lc) (hN : (0 + k) * by_ ≤ 140737488355328)
    (h : ∀ a' c', RG P n w0 M ops S (L.set j (Own e m a' k c' news)) r (upd σ d (.slice a' k c')) K) : RG P n w0 M ops S L (.op .l i r) σ K :=
  rL (α := Option Addr × Nat) (good := fun _ => True) (Lx := fun x => L.set j (Own e m x.1 k x.2 news)) (v := fun x => .slice x.1 k x.2) hS ho hg (fun w hs => by
    have hown : Own e m ao 0 C [] w := hs.at_ j hj
    obtain ⟨a', c', w', hr, ho', hup, hg'⟩ := run_append_listM (cq := lc) hM hown t hl (hC w hs) h1 hN
    rw [Nat.zero_add, List.nil_append] at ho'
    rw [Nat.zero_add] at hr
    unfold opw
    simp only [execOp, resolve, invoke, builtin, Sem.run_bind, Sem.run_pure, Result.andThen_ok, List.map_toArray, List.map_cons, List.map_nil, ha, hb, hr]
    refine ⟨(a', c'), trivial, hs.change j hj fun f hf => ⟨fun k => f k ∨ fpO a' k, fun k hk => ?_, ?_, hup.mono fun k _ hk => Own.mem hf k hk⟩, rfl⟩
    · rcases hk with hk | hk
      · exact .inl hk
      · rcases hg' k hk with hg' | hg'
        · exact .inl (Own.mem hf _ hg')
        · exact .inr hg'
    · exact Own.St ho' fun q hq => .inr hq) (fun q _ => h q.1 q.2)
end
section
variable {α : Type} {k : RK α} {e e1 e2 : Nat} {a a2 : Option Addr} {n c c2 q : Nat} {hs : Nat → Hd} {xs : List α} {x : α} {w : World}
theorem OwnR.cellsAt (h : OwnR k e e1 a n c hs xs w) : CellsAt a (rowsV k hs xs).flatten w := fun i v hi => by
  obtain ⟨b, hb, hc⟩ := h.2.1.cell hi
  exact ⟨b, 0, hb, by rw [Nat.zero_add]; exact hc⟩
theorem OwnR.flat_len (h : OwnR k e e1 a n c hs xs w) : (rowsV k hs xs).flatten.length = n * k.m := h.2.1.1
theorem slHiR {P : Program} {nn : Nat} {w0 : World} {M : Nat → Prop} {L : List (World → Prop)} {σ : Fr} {K : Ko} {ops : Array Oper} {S : World → Prop} {r : Sch} {i : Nat} {d : Nat} {t : TypeId} {p : String} {af : Array Edge} {g : Option (Nat × Bool)} {ao bo : Operand} {ty N C : Nat} {z : Int} {kk : IntKind} (j : Nat) (hj : L[j]? = some (OwnR k e e1 a N C hs xs)) (hE : Elt P ty k.m) (ho : ops[i]? = some ⟨some d, .slice ty ao none (some bo) none, t, p, af, g⟩) (hg : go ops σ g) (ha : ev σ ao = .slice a N C) (hb : ev σ bo = .int kk z) (h0 : 0 ≤ z) (h1 : z ≤ N) {zn : Nat} (hzn : z.toNat = zn)
    (h : RG P nn w0 M ops S L r (upd σ d (.slice a zn C)) K) : RG P nn w0 M ops S L (.op .q i r) σ K := fun w hw => by
  have hown : Own e k.m a N C (rowsV k hs xs).flatten w := (show OwnR k e e1 a N C hs xs w from hw.at_ j hj).2.1
  subst hzn
  obtain ⟨e', he, hs'⟩ := hE
  have hNC : N ≤ C := by
    rcases hown.2 with ⟨hv, h0'⟩ | ⟨g', cap, cur, hv, _, _, hnc, _⟩
    · omega
    · cases hv; exact hnc
  refine rQ (v := .slice a z.toNat C) ho hg (fun w' hw' => ?_) h w hw
  have hzc : z ≤ C := by omega
  have hadd : a.map (fun x => x.add 0) = a := by cases a <;> simp [Addr.add]
  simp [execOp, ha, hb, Instr.sliceAt, Instr.slice, Instr.sliceBounds, Instr.sliceBound, asIntOf, he w', hs' w', h0, h1, hzc, hadd]
/-- Rows, copied, and one of them once more: read. -/
theorem RdR.copy (hk : k.Ok) (hc : Own e2 k.m a2 (n + 1) c2 ((rowsV k hs xs).flatten ++ k.cells x (hs q)) w) (ho : OwnR k e e1 a n c hs xs w) (hx : xs[q]? = some x) : RdR k a2 (n + 1) (hset hs n (hs q)) (xs ++ [x]) w := by
  have hl := ho.1
  have hrows : rowsV k (hset hs n (hs q)) (xs ++ [x]) = rowsV k hs xs ++ [k.cells x (hs q)] := by rw [← hl]; exact rowsV_app _
  have hcc : Own e2 k.m a2 (n + 1) c2 (rowsV k (hset hs n (hs q)) (xs ++ [x])).flatten w := by
    rw [hrows, List.flatten_append]; simpa using hc
  refine ⟨by simp [hl], hc.max, fun i y hy => ⟨?_, ?_⟩⟩
  · have hpos := hk.pos
    have hlen := hk.len y (hset hs n (hs q) i)
    have key : ∀ j v, (k.cells y (hset hs n (hs q) i))[j]? = some v → ∃ b, a2 = some ⟨b, 0, none⟩ ∧ w.cell? ⟨b, i * k.m + j, none⟩ = some v := fun j v hj => hcc.cell (flat_get (rowsV_all hk) (rowsV_get hy) hj)
    obtain ⟨b, hb, _⟩ := key 0 ((k.cells y (hset hs n (hs q) i))[0]'(by omega)) (List.getElem?_eq_getElem (by omega))
    refine ⟨b, 0, hb, fun j v hj => ?_⟩
    obtain ⟨b', hb', hcell⟩ := key j v hj
    rw [hb] at hb'; cases hb'
    rw [Nat.zero_add]; exact hcell
  · rcases Nat.lt_or_ge i xs.length with hi | hi
    · rw [List.getElem?_append_left hi] at hy
      rw [hset_other hs (hs q) (show i ≠ n by omega)]
      exact (ho.2.2.1 i y hy).rd
    · have hix : i = n := by
        have := (List.getElem?_eq_some_iff.1 hy).1
        simp at this; omega
      subst hix
      rw [List.getElem?_append_right (by omega)] at hy
      simp [hl] at hy; subst hy
      rw [hset_same]
      exact (ho.2.2.1 q x hx).rd
theorem rowsV_one (hk : k.Ok) : ∀ u ∈ (rowsV k hs xs).flatten, u.oneCell' = true := fun u hu => by
  obtain ⟨cs, hcs, hu⟩ := List.mem_flatten.1 hu
  unfold rowsV at hcs
  obtain ⟨i, hi, rfl⟩ := List.mem_mapIdx.1 hcs
  exact hk.one _ _ _ hu
theorem Sep.copyRd {w0 : World} {M : Nat → Prop} {L : List (World → Prop)} (hk : k.Ok) (h : Sep w0 M (Own e2 k.m a2 (n + 1) c2 ((rowsV k hs xs).flatten ++ k.cells x (hs q)) :: OwnR k e e1 a n c hs xs :: L) w) (hx : xs[q]? = some x) : Sep w0 M (RdR k a2 (n + 1) (hset hs n (hs q)) (xs ++ [x]) :: L) w :=
  h.fuse fun f g hf hg _ => ⟨fun b => f b ∨ g b, fun b hb => hb.elim .inl (.inr ∘ .inl), fun w' ha => RdR.copy hk (hf w' fun b hb => ha b (.inl hb)) (hg w' fun b hb => ha b (.inr hb)) hx, .refl _ _⟩
theorem litX {e m bk : Nat} {w : World} (hb : blk bk e [] w) : Own e m (some ⟨bk, 0, none⟩) 0 0 [] w := ⟨by simp, .inr ⟨bk, 0, #[], rfl, Nat.zero_le _, hb, Nat.le_refl _, Nat.zero_le _, by simp, by simp⟩⟩
theorem RdR.take {hs : Nat → Hd} (h : RdR k a n hs xs w) {j : Nat} (hj : j ≤ n) : RdR k a j hs (xs.take j) w :=
  ⟨by rw [List.length_take, h.1]; omega, by have := h.2.1; omega, fun i y hy => h.2.2 i y (by
    have := (List.getElem?_eq_some_iff.1 hy).1
    rw [List.length_take] at this
    rwa [List.getElem?_take_of_lt (by omega)] at hy)⟩
/-- The end of rows, to be read. -/
theorem slLoR {P : Program} {nn : Nat} {w0 : World} {M : Nat → Prop} {L : List (World → Prop)} {σ : Fr} {K : Ko} {ops : Array Oper} {S : World → Prop} {r : Sch} {i : Nat} {d : Nat} {t : TypeId} {p : String} {af : Array Edge} {g : Option (Nat × Bool)} {ao bo : Operand} {ty N C : Nat} {z : Int} {kk : IntKind} (j : Nat) (hk : k.Ok) (hj : L[j]? = some (OwnR k e e1 a N C hs xs)) (hE : Elt P ty k.m) (ho : ops[i]? = some ⟨some d, .slice ty ao (some bo) none none, t, p, af, g⟩) (hg : go ops σ g) (ha : ev σ ao = .slice a N C) (hb : ev σ bo = .int kk z) (h0 : 0 ≤ z) (h1 : z ≤ N) {zn : Nat} (hzn : z.toNat = zn)
    (h : ∀ q', (∀ w, OwnR k e e1 a N C hs xs w → RdR k q' (N - zn) (fun i => hs (i + zn)) (xs.drop zn) w) → RG P nn w0 M ops S L r (upd σ d (.slice q' (N - zn) (C - zn))) K) : RG P nn w0 M ops S L (.op .q i r) σ K := by
  subst hzn
  obtain ⟨e', he, hs'⟩ := hE
  refine rQ (v := .slice (if C = z.toNat then a else a.map (·.add (z.toNat * k.m))) (N - z.toNat) (C - z.toNat)) ho hg (fun w hw => ?_) (h _ fun w hw => ?_)
  · simp [execOp, ha, hb, Instr.sliceAt, Instr.slice, Instr.sliceBounds, Instr.sliceBound, asIntOf, he w, hs' w, h0, h1]
  · have hown : Own e k.m a N C (rowsV k hs xs).flatten w := hw.2.1
    have hrd := OwnR.rd hw hk
    obtain ⟨hl, hm, hc⟩ := hrd
    refine ⟨by rw [List.length_drop, hl], by omega, fun q x hx => ?_⟩
    rw [List.getElem?_drop] at hx
    have hlt := (List.getElem?_eq_some_iff.1 hx).1
    have hNC : N ≤ C := by
      rcases hown.2 with ⟨hv, h0'⟩ | ⟨g', cap, cur, hv, _, _, hnc, _⟩
      · omega
      · cases hv; exact hnc
    obtain ⟨⟨b, off, hq, hcell⟩, hkid⟩ := hc _ x hx
    rw [Nat.add_comm] at hkid hcell
    refine ⟨⟨b, off + z.toNat * k.m, ?_, fun j v hv => ?_⟩, hkid⟩
    · rw [if_neg (by omega), hq]; simp [add_addr]
    · have := hcell j v hv
      rw [Nat.add_mul] at this
      rwa [show off + z.toNat * k.m + q * k.m + j = off + (q * k.m + z.toNat * k.m) + j from by omega]
end
end Go.Proofs.Ytjengglpbdgmnaa.V
