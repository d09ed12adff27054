/- The engine, part 10: rows appended; parts of slices; arrays behind pointers; odds and ends. No condition. -/
import Derived.Test.YtjengglpbdgmnaaEng9Co
namespace Go.Proofs.Ytjengglpbdgmnaa.V
open Go Go.RowKit
set_option linter.unusedVariables false
set_option linter.unusedSimpArgs false
theorem knP {w0 : World} {M : Nat → Prop} {L L' : List (World → Prop)} {φ : World → Prop} (hL : ∀ w, Sep w0 M L w → Sep w0 M L' w) (h : Kn w0 M L' φ) : Kn w0 M L φ := fun w hs => h w (hL w hs)
section
variable {w0 : World} {M : Nat → Prop} {L : List (World → Prop)}
theorem Sep.nilR {α : Type} (k : RK α) (e e1 : Nat) (hs : Nat → Hd) {w : World} (h : Sep w0 M L w) : Sep w0 M (OwnR k e e1 none 0 0 hs [] :: L) w := h.bare fun f => (OwnR.nil k e e1 hs w).St fun _ hb => by
  rcases hb with hb | ⟨i, hi, _⟩
  · cases hb
  · omega
theorem Sep.litR {α : Type} (k : RK α) (e e1 : Nat) (hs : Nat → Hd) {bk : Nat} {w : World} (h : Sep w0 M L w) (j : Nat) (hj : L[j]? = some (blk bk e [])) : Sep w0 M (L.set j (OwnR k e e1 (some ⟨bk, 0, none⟩) 0 0 hs [])) w :=
  h.imp j hj fun w hb => ⟨rfl, ⟨by simp [rowsV], .inr ⟨bk, 0, #[], rfl, Nat.zero_le _, hb, Nat.le_refl _, Nat.zero_le _, by simp, by simp [rowsV]⟩⟩, fun _ _ h => by simp at h, fun _ _ _ h => by omega, fun _ _ h => by omega⟩
theorem RdI.lit {bk e n : Nat} {vs : List Value} {zs : List Int} {w : World} (h : blk bk e vs w) (hv : vs = iv zs) (hn : zs.length = n) (hb : Nat.ble n 1000 = true) : RdI (some ⟨bk, 0, none⟩) n zs w := by subst hv; exact ⟨hn, by have := Nat.le_of_ble_eq_true hb; omega, CellsAt.blk h⟩
theorem RdR.nil {α : Type} (k : RK α) (a : Option Addr) (hs : Nat → Hd) (w : World) : RdR k a 0 hs [] w := ⟨rfl, by decide, fun i x h => by simp at h⟩
/-- Some cells of a block known whole. -/
theorem cBp (j : Nat) {bk e o m : Nat} {cs vs : List Value} (hj : L[j]? = some (blk bk e cs)) (hv : (cs.drop o).take m = vs) : Kn w0 M L fun w => ∀ k v, vs[k]? = some v → w.cell? ⟨bk, o + k, none⟩ = some v := fun w hs k v hk => by
  subst hv
  refine (hs.at_ j hj).cell ?_
  have hlt := (List.getElem?_eq_some_iff.1 hk).1
  rw [List.getElem?_take_of_lt (by simp at hlt; omega), List.getElem?_drop] at hk
  exact hk
end
/-- An array type. -/
def Arr (P : Program) (ty n m : Nat) : Prop := ∃ e, (∀ w, (underlying ty).run P w = .ok (.array n e) w) ∧ ∀ w, (sizeOf e).run P w = .ok m w
section
variable {P : Program} {n : Nat} {w0 : World} {M : Nat → Prop} {L L' : List (World → Prop)} {σ : Fr} {K K' : Ko} {c x y : Code} {ops : Array Oper} {S : World → Prop} {r : Sch} {i : Nat}
variable {d : Nat} {t : TypeId} {p : String} {af : Array Edge} {g : Option (Nat × Bool)} {a b : Operand}
variable {α : Type} {k : RK α} {ty e e1 by_ N C : Nat} {ao : Option Addr} {hs : Nat → Hd} {xs : List α} {zc : List Value} {zs : List Int}
/-- The end of an owned slice, to be read. -/
theorem slLol {z : Int} {kk : IntKind} (j : Nat) (hj : L[j]? = some (OwnI e ao N C zs)) (hE : Elt P ty 1) (ho : ops[i]? = some ⟨some d, .slice ty a (some b) none none, t, p, af, g⟩) (hg : go ops σ g) (ha : ev σ a = .slice ao N C) (hb : ev σ b = .int kk z) (h0 : 0 ≤ z) (h1 : z ≤ N) {zn : Nat} (hzn : z.toNat = zn)
    (h : ∀ q', (Kn w0 M L (RdI q' (N - zn) (zs.drop zn))) → RG P n w0 M ops S L r (upd σ d (.slice q' (N - zn) (C - zn))) K) : RG P n w0 M ops S L (.op .q i r) σ K := by
  subst hzn
  obtain ⟨e', he, hs⟩ := hE
  refine rQ (v := .slice (if C = z.toNat then ao else ao.map (·.add (z.toNat * 1))) (N - z.toNat) (C - z.toNat)) ho hg (fun w hw => ?_) (h _ fun w hw => ?_)
  · simp [execOp, ha, hb, Instr.sliceAt, Instr.slice, Instr.sliceBounds, Instr.sliceBound, asIntOf, he w, hs w, h0, h1]
  · have hown : OwnI e ao N C zs w := hw.at_ j hj
    obtain ⟨hl, hm, hc⟩ := hown.rd
    refine ⟨by rw [List.length_drop, hl], by omega, fun k v hk => ?_⟩
    rw [show iv (zs.drop z.toNat) = (iv zs).drop z.toNat from by simp [iv, List.map_drop], List.getElem?_drop] at hk
    obtain ⟨bk, off, hq, hcell⟩ := hc _ v hk
    have hlt := (List.getElem?_eq_some_iff.1 hk).1
    rw [iv_len, hl] at hlt
    have hNC : N ≤ C := by
      rcases hown.2 with ⟨hv, h0'⟩ | ⟨g', cap, cur, hv, _, _, hnc, _⟩
      · omega
      · cases hv; exact hnc
    rw [if_neg (by omega), hq]
    exact ⟨bk, off + z.toNat, by simp [add_addr], by rw [Nat.add_assoc]; exact hcell⟩
/-- The address of an element of an array that lies in a block, at a known place. -/
theorem ixA {bk off m nn : Nat} {z : Nat} (hA : Arr P ty nn m) (ho : ops[i]? = some ⟨some d, .indexAddr ty a b, t, p, af, g⟩) (hg : go ops σ g) (ha : ev σ a = .pointer (some ⟨bk, off, none⟩)) (hb : ev σ b = .int .i64 (z : Int)) (h1 : z < nn)
    (h : RG P n w0 M ops S L r (upd σ d (.pointer (some ⟨bk, off + z * m, none⟩))) K) : RG P n w0 M ops S L (.op .q i r) σ K := by
  obtain ⟨e, he, hs⟩ := hA
  exact rQ ho hg (fun w _ => by simp [execOp, ha, hb, Instr.indexAt, Instr.sureAddr, asIntOf, he, hs, h1, add_addr]) h
/-- 'append' of one row that lies in a literal, with what it leads to. -/
theorem apR {hd : Hd} {x : α} {lb le lc nn : Nat} {cs : List Value} (j q i' : Nat) (hk : k.Ok) (hj : L[j]? = some (OwnR k e e1 ao N C hs xs)) (hq : (L.eraseIdx j)[q]? = some (OwnI e1 hd.1 nn hd.2 (k.kid x))) (hi : L[i']? = some (blk lb le cs)) (hcs : nn = (k.kid x).length → cs = k.cells x hd) (hM : Mk P ty e k.m by_ zc) (hS : ∀ (u : Option Addr × Nat) w, Sep w0 M (OwnR k e e1 u.1 (N + 1) u.2 (hset hs xs.length hd) (xs ++ [x]) :: (L.eraseIdx j).eraseIdx q) w → S w)
    (ho : ops[i]? = some ⟨some d, .call ⟨.builtin .append, #[a, b], #[ty, ty]⟩, t, p, af, g⟩) (hg : go ops σ g) (ha : ev σ a = .slice ao N C) (hb : ev σ b = .slice (some ⟨lb, 0, none⟩) 1 lc) (hN : (N + 1) * by_ ≤ 140737488355328)
    (h : ∀ a' c', RG P n w0 M ops S (OwnR k e e1 a' (N + 1) c' (hset hs xs.length hd) (xs ++ [x]) :: (L.eraseIdx j).eraseIdx q) r (upd σ d (.slice a' (N + 1) c')) K) : RG P n w0 M ops S L (.op .l i r) σ K :=
  rL (α := Option Addr × Nat) (good := fun _ => True) (Lx := fun u => OwnR k e e1 u.1 (N + 1) u.2 (hset hs xs.length hd) (xs ++ [x]) :: (L.eraseIdx j).eraseIdx q) (v := fun u => .slice u.1 (N + 1) u.2) hS ho hg (fun w hsep => by
    have hrow : OwnR k e e1 ao N C hs xs w := hsep.at_ j hj
    have hnn : OwnI e1 hd.1 nn hd.2 (k.kid x) w := ((hsep.perm (pull hj)).tail).at_ q hq
    have hnn := hnn.lenz
    subst hnn
    obtain rfl := hcs rfl
    have hlit := hsep.at_ i' hi
    have hp := (hsep.perm (pull hj)).perm ((pull hq).cons _)
    have hlen := hrow.lenx
    obtain ⟨g', cap, w', hr, ho', hup, hg'⟩ := run_append_fp hM hrow.2.1 (ad := ⟨lb, 0, none⟩) (c' := lc) (news := k.cells x hd) t (hk.len x hd) (fun q u hq => by rw [add_addr, Nat.zero_add]; exact hlit.cell hq) (hk.one x hd) hN
    unfold opw
    simp only [execOp, resolve, invoke, builtin, Sem.run_bind, Sem.run_pure, Result.andThen_ok, List.map_toArray, List.map_cons, List.map_nil, ha, hb, hr]
    refine ⟨(some ⟨g', 0, none⟩, cap), trivial, hp.fuse fun f g2 hf hg2 hfg => ?_, rfl⟩
    obtain ⟨h0, h1, h2, h3, h4⟩ := hf.out
    have hkid := hg2.out
    have mf := OwnR.mem hf
    have mg := Own.mem hg2
    -- the blocks of the kids, old and new, are not the rows' block
    have far : ∀ b, (b < w.heap.size) → ¬ fpO ao b → b ≠ g' := fun b hb hn e => by
      subst e
      rcases hg' with h | h
      · exact hn h
      · exact absurd hb (Nat.not_lt_of_le h.1)
    have keep : ∀ {hd' : Hd} {zs : List Int} {nn : Nat}, OwnI e1 hd'.1 nn hd'.2 zs w → (∀ q, fpO hd'.1 q → ¬ fpO ao q) → OwnI e1 hd'.1 nn hd'.2 zs w' := fun ho hq =>
      (Own.St (f := fpO _) ho fun _ h => h) _ fun q hq' => hup.block q (Own.lt ho q hq') (hq q hq')
    refine ⟨fun q => f q ∨ g2 q ∨ q = g', fun q hq => ?_, OwnR.St ⟨by simp [hlen], ?_, fun i y hy => ?_, fun i i' b hi hi' hb hb' => ?_, fun i b hi hb hab => ?_⟩ fun b hb => ?_, hup.mono fun q _ hq => .inl (mf q (.inl hq))⟩
    · rcases hq with hq | hq | rfl
      · exact .inl hq
      · exact .inr (.inl hq)
      · rcases hg' with h | h
        · exact .inl (mf _ (.inl h))
        · exact .inr (.inr h)
    · rw [rowsV_app, List.flatten_append]
      simpa using ho'
    · rcases Nat.lt_or_ge i xs.length with hi | hi
      · rw [List.getElem?_append_left hi] at hy
        rw [hset_other hs hd (show i ≠ xs.length by omega)]
        exact keep (h2 i y hy) fun q hq hqa => h4 i q (by omega) hq hqa
      · have hix : i = xs.length := by
          have := (List.getElem?_eq_some_iff.1 hy).1
          simp at this; omega
        subst hix
        rw [List.getElem?_append_right (Nat.le_refl _)] at hy
        simp at hy; subst hy
        rw [hset_same]
        exact keep hkid fun q hq hqa => hfg q (mf q (.inl hqa)) (mg q hq)
    · by_cases h5 : i = xs.length <;> by_cases h6 : i' = xs.length
      · omega
      · subst h5; rw [hset_same] at hb; rw [hset_other hs hd h6] at hb'
        exact absurd (mg b hb) (hfg b (mf b (.inr ⟨i', by omega, hb'⟩)))
      · subst h6; rw [hset_same] at hb'; rw [hset_other hs hd h5] at hb
        exact absurd (mg b hb') (hfg b (mf b (.inr ⟨i, by omega, hb⟩)))
      · rw [hset_other hs hd h5] at hb; rw [hset_other hs hd h6] at hb'; exact h3 i i' b (by omega) (by omega) hb hb'
    · have hbg : b = g' := by unfold fpO at hab; cases hab; rfl
      by_cases h5 : i = xs.length
      · subst h5; rw [hset_same] at hb
        exact far b (Own.lt hkid b hb) (fun hba => hfg b (mf b (.inl hba)) (mg b hb)) hbg
      · rw [hset_other hs hd h5] at hb
        have hx : xs[i]? = some (xs[i]'(by omega)) := List.getElem?_eq_getElem (by omega)
        exact far b (Own.lt (h2 i _ hx) b hb) (h4 i b (by omega) hb) hbg
    · rcases hb with hb | ⟨i, hi, hb⟩
      · unfold fpO at hb; cases hb; exact .inr (.inr rfl)
      · by_cases h5 : i = xs.length
        · subst h5; rw [hset_same] at hb; exact .inr (.inl (mg b hb))
        · rw [hset_other hs hd h5] at hb; exact .inl (mf b (.inr ⟨i, by omega, hb⟩))) (fun u _ => h u.1 u.2)
end
end Go.Proofs.Ytjengglpbdgmnaa.V
