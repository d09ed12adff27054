/- The engine, part 12: a list appended whole; a slice compared with nil. No condition. -/
import Derived.Test.YtjengglpbdgmnaaEngBCo
import Derived.Lib.SliceRun
namespace Go.Proofs.Ytjengglpbdgmnaa.V
open Go Go.RowKit
set_option linter.unusedVariables false
set_option linter.unusedSimpArgs false
section
variable {P : Program} {ty e by_ : Nat} {zc : List Value}
theorem run_append_none_any (w : World) (t tyr e : TypeId) (i : TypeInfo) (base size : Nat) (ht : P.underlying t = some (.slice e)) (hi : P.info? e = some i) (v : Value) (n : Nat) (xs : List Value) (hown : w.ownsRow base e size v n xs) (cq : Nat) :
    (Builtin.append_ #[t, t] tyr #[v, .slice none 0 cq]).run P w = .ok v w := by
  rcases hown.2 with ⟨rfl, rfl⟩ | ⟨g, cap, cur, rfl, _, _, hnc, _⟩
  · simp [Builtin.append_, run_underlying ht, sizeOf, typeInfo, hi, Builtin.lenOf, Builtin.firstCells]
  · simp [Builtin.append_, run_underlying ht, sizeOf, typeInfo, hi, Builtin.lenOf, Builtin.firstCells, hnc, storeCells]
theorem run_append_list {w : World} (hM : Mk P ty e 1 by_ zc) {n c k cq : Nat} {ao q : Option Addr} {xs news : List Value} (hown : Own e 1 ao n c xs w) (tyr : TypeId) (hlen : news.length = k) (hc : CellsAt q news w) (h1 : ∀ u ∈ news, u.oneCell' = true) (hN : (n + k) * by_ ≤ 140737488355328) :
    ∃ a' c' w', (Builtin.append_ #[ty, ty] tyr #[.slice ao n c, .slice q k cq]).run P w = .ok (.slice a' (n + k) c') w' ∧ Own e 1 a' (n + k) c' (xs ++ news) w' ∧ Upd (fpO ao) w w' ∧ (∀ g', fpO a' g' → fpO ao g' ∨ New w w' g') := by
  obtain ⟨hu, inf, zv, hi, hz0, hs, hby, hzc, hm, hm0, hb0⟩ := hM
  have hN63 : n + k ≤ maxLen := by
    have : n + k ≤ (n + k) * by_ := Nat.le_mul_of_pos_right _ hb0
    simp only [maxLen]; omega
  have hzs : zv.cells.size = 1 := by rw [hzc]; simpa using hm
  have hl : news.length = k * 1 := by omega
  cases q with
  | none =>
    have hn0 : news = [] := by
      cases news with
      | nil => rfl
      | cons x l => obtain ⟨b, off, h, _⟩ := hc 0 x rfl; cases h
    subst hn0
    have hk0 : k = 0 := by simpa using hlen.symm
    subst hk0
    have hr := run_append_none_any (P := P) w ty tyr e inf 0 1 hu hi (.slice ao n c) n xs hown cq
    exact ⟨ao, c, w, hr, by rw [List.append_nil]; exact hown, Upd.refl _ _, fun g' h => .inl h⟩
  | some ad =>
    have hnews : ∀ j u, news[j]? = some u → w.cell? (ad.add j) = some u := fun j u hj => by
      obtain ⟨b, off, h, hc'⟩ := hc j u hj
      cases h
      rw [Addr.add_lit]; exact hc'
    have fin : ∀ (v' : Value) (w' : World), (Builtin.append_ #[ty, ty] tyr #[.slice ao n c, .slice (some ad) k cq]).run P w = .ok v' w' → w'.ownsRow w.heap.size e 1 v' (n + k) (xs ++ news) → Upd (fpO ao) w w' →
        ∃ a' c' w', (Builtin.append_ #[ty, ty] tyr #[.slice ao n c, .slice (some ad) k cq]).run P w = .ok (.slice a' (n + k) c') w' ∧ Own e 1 a' (n + k) c' (xs ++ news) w' ∧ Upd (fpO ao) w w' ∧ (∀ g', fpO a' g' → fpO ao g' ∨ New w w' g') := by
      intro v' w' hr ho hup
      obtain ⟨hl', h2⟩ := ho
      rcases h2 with ⟨hv, h0⟩ | ⟨g', cap, cur, rfl, hb, hg, hnc, hcm, hcs, ht⟩
      · subst hv
        rw [h0] at hl' ⊢
        exact ⟨none, 0, w', hr, ⟨hl', .inl ⟨rfl, rfl⟩⟩, hup, fun g' h => by cases h⟩
      · exact ⟨some ⟨g', 0, none⟩, cap, w', hr, ⟨hl', .inr ⟨g', cap, cur, rfl, Nat.zero_le _, hg, hnc, hcm, hcs, ht⟩⟩, hup, fun g2 h => by
          unfold fpO at h; cases h
          exact .inr ⟨hb, (Array.getElem?_eq_some_iff.1 hg).1⟩⟩
    have up : ∀ {w' : World} {row : Option Nat}, w.grownBy w' row → (∀ k, row = some k → fpO ao k) → Upd (fpO ao) w w' := fun hgr hrow =>
      ⟨hgr.os, hgr.tape, hgr.output, hgr.size, fun q hq hn => hgr.block q hq (fun e => hn (hrow q e.symm))⟩
    rcases hown.2 with ⟨hv, h0⟩ | ⟨g0, cap, cur, hv, hb, hg, hnc, hcm, hcs, ht⟩
    · obtain ⟨rfl, hc0⟩ : ao = none ∧ c = 0 := by cases hv; exact ⟨rfl, rfl⟩
      subst h0; subst hc0
      obtain ⟨v', w', hr, ho, hgr, _⟩ := run_append_own (P := P) w w.heap.size ty tyr e inf zv 1 by_ hu hi hz0 hs hby hzs (by decide) (.slice none 0 0) 0 xs ⟨hown.1, .inl ⟨rfl, rfl⟩⟩ ad k cq news hl hnews h1 hN63 hN (Nat.le_refl _)
      exact fin v' w' hr ho (up hgr fun k hk => by simp [Value.ownBlock] at hk)
    · obtain ⟨rfl, rfl⟩ : ao = some ⟨g0, 0, none⟩ ∧ c = cap := by cases hv; exact ⟨rfl, rfl⟩
      by_cases hroom : n + k ≤ c
      · obtain ⟨w', hr, ho, hgr⟩ := run_append_fits (P := P) w 0 ty tyr e inf 1 hu hi hs g0 n c xs hown ad k cq news hl hnews h1 hroom
        exact ⟨some ⟨g0, 0, none⟩, c, w', hr, ho, up hgr fun k hk => by cases hk; rfl, fun g' h => .inl h⟩
      · have holds : ∀ j u, xs[j]? = some u → w.cell? ((⟨g0, 0, none⟩ : Addr).add j) = some u := by
          have h3 : w.ownsRow 0 e 1 (.slice (some ⟨g0, 0, none⟩) n c) n xs := hown
          exact h3.cells (g := g0) rfl
        obtain ⟨v', w', hr, ho, hgr⟩ := run_append_arg_grows (P := P) w ty tyr e inf zv 1 by_ hu hi hz0 hs hby hzs (by decide) ⟨g0, 0, none⟩ n c xs hown.1 holds ad k cq news hl hnews (by omega) hN63 hN
        exact fin v' w' hr ho (up hgr fun k hk => by simp at hk)
end
theorem iv_cat (zs ys : List Int) : iv zs ++ iv ys = iv (zs ++ ys) := by simp [iv]
section
variable {P : Program} {n : Nat} {w0 : World} {M : Nat → Prop} {L L' Lf Lr : List (World → Prop)} {σ : Fr} {K K' : Ko} {c x y : Code} {ops : Array Oper} {S : World → Prop} {r : Sch} {i : Nat}
variable {d : Nat} {t : TypeId} {p : String} {af : Array Edge} {g : Option (Nat × Bool)} {a b : Operand}
variable {ty e by_ N C : Nat} {ao : Option Addr} {zs : List Int} {zc : List Value}
/-- 'append' of a list, whole. -/
theorem aplL {k lc : Nat} {q : Option Addr} {ys : List Int} (j : Nat) (hj : L[j]? = some (OwnI e ao N C zs)) (hC : Kn w0 M L (RdI q k ys)) (hM : Mk P ty e 1 by_ zc) (hS : ∀ (x : Option Addr × Nat) w, Sep w0 M (L.set j (OwnI e x.1 (N + k) x.2 (zs ++ ys))) w → S w) (ho : ops[i]? = some ⟨some d, .call ⟨.builtin .append, #[a, b], #[ty, ty]⟩, t, p, af, g⟩) (hg : go ops σ g) (ha : ev σ a = .slice ao N C) (hb : ev σ b = .slice q k lc) (hN : (N + k) * by_ ≤ 140737488355328)
    (h : ∀ a' c', RG P n w0 M ops S (L.set j (OwnI e a' (N + k) c' (zs ++ ys))) r (upd σ d (.slice a' (N + k) c')) K) : RG P n w0 M ops S L (.op .l i r) σ K :=
  rL (α := Option Addr × Nat) (good := fun _ => True) (Lx := fun x => L.set j (OwnI e x.1 (N + k) x.2 (zs ++ ys))) (v := fun x => .slice x.1 (N + k) x.2) hS ho hg (fun w hs => by
    have hown : OwnI e ao N C zs w := hs.at_ j hj
    have hrd := hC w hs
    obtain ⟨a', c', w', hr, ho', hup, hg'⟩ := run_append_list (cq := lc) hM hown t (by rw [iv_len]; exact hrd.1) hrd.2.2 (fun u hu => by obtain ⟨z, _, rfl⟩ := List.mem_map.1 hu; rfl) hN
    unfold opw
    simp only [execOp, resolve, invoke, builtin, Sem.run_bind, Sem.run_pure, Result.andThen_ok, List.map_toArray, List.map_cons, List.map_nil, ha, hb, hr]
    refine ⟨(a', c'), trivial, hs.change j hj fun f hf => ⟨fun k => f k ∨ fpO a' k, fun k hk => ?_, ?_, hup.mono fun k _ hk => Own.mem hf k hk⟩, rfl⟩
    · rcases hk with hk | hk
      · exact .inl hk
      · rcases hg' k hk with hg' | hg'
        · exact .inl (Own.mem hf _ hg')
        · exact .inr hg'
    · have ho2 : OwnI e a' (N + k) c' (zs ++ ys) w' := by unfold OwnI; rw [← iv_cat]; exact ho'
      exact Own.St ho2 fun q hq => .inr hq) (fun q _ => h q.1 q.2)
/-- A slice compared with nil. -/
theorem eqNil {q : Option Addr} {k cq n' c' yt : Nat} (hu : P.underlying ty = some (.slice e)) (ho : ops[i]? = some ⟨some d, .binOp .eql ty a b yt, t, p, af, g⟩) (hg : go ops σ g) (ha : ev σ a = .slice q k cq) (hb : ev σ b = .slice none n' c') (h : RG P n w0 M ops S L r (upd σ d (.bool q.isNone)) K) : RG P n w0 M ops S L (.op .q i r) σ K :=
  rQ ho hg (fun w _ => by simp [execOp, ha, hb, eqGuard, Lib.run_eql_slice_nil w _ _ q k cq n' c' hu]) h
/-- A block, read. -/
def RdB (bk : Nat) (cs : List Value) : World → Prop := fun w => ∀ j v, cs[j]? = some v → w.cell? ⟨bk, j, none⟩ = some v
theorem RdB.ext {bk : Nat} {cs : List Value} {w w' : World} (h : RdB bk cs w) (he : Ext w w') : RdB bk cs w' := fun j v hj => he.cell (h j v hj)
theorem RdB.of {bk e : Nat} {cs : List Value} {w : World} (h : blk bk e cs w) : RdB bk cs w := fun j v hj => h.cell hj
theorem RdI.none {q : Option Addr} {k : Nat} {zs : List Int} {w : World} (h : RdI q k zs w) (hq : q.isNone = true) : zs = [] := by
  cases zs with
  | nil => rfl
  | cons x l =>
    obtain ⟨b, off, e, _⟩ := h.2.2 0 (.int .i64 x) rfl
    subst e; cases hq
end
end Go.Proofs.Ytjengglpbdgmnaa.V
