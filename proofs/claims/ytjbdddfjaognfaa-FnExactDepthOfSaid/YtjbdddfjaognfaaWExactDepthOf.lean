/- The law FnExactDepthOf returns true for all arguments. No condition. -/
import Derived.Test.YtjbdddfjaognfaaEngA
import Derived.Test.YtjbdddfjaognfaaFrame
import Derived.Test.YtjbdddfjaognfaaFrm
import Derived.Test.YtjbdddfjaognfaaTree
import Derived.Test.YtjbdddfjaognfaaL1
import Derived.Test.YtjbdddfjaognfaaL2
import Derived.Test.YtjbdddfjaognfaaL3
import Derived.Test.YtjbdddfjaognfaaOpn
import Derived.Test.YtjbdddfjaognfaaRows
namespace Go.Proofs.Ytjbdddfjaognfaa
open Go Go.RowKit V Go.ChangeShapes Go.WideShapes Go.ChangeAt
set_option linter.unusedVariables false
set_option linter.unusedSimpArgs false
set_option maxRecDepth 100000



theorem laws_FnExactDepthOf_c (az : Option Addr) (nz : Nat) (cz : Nat) (Hz : Nat → Hd) (z : List Nd) (w : World) (rz : RdR ndK az nz Hz z w) :
    Calls Try.prog 6 #[.agg #[.slice az nz cz]] w (Ret fun v w' => v = .bool true ∧ Ext w w') := by
  have kz : Kn w none_ [] (RdR ndK az nz Hz z) := fun w' hs => rz.ext hs.upd
  have lz : z.length = nz := rz.1
  have mz : nz ≤ 9223372036854775807 := rz.2.1
  refine fn (M := none_) (rs := [.tmp 2]) Try.func6 rfl Try.ntmps6 rfl rfl (Sep.start _ _) ?_
  refine hSeq ?_
  refine hReg (sl 0 (sq 1 sz)) (by kernel_rfl) ?_
  refine box trv1 rfl rfl rfl rfl (fun bkb1 hbkb1 => ?_)
  refine asB rfl rfl rfl ?_
  refine rNil ?_
  refine qSeq rfl ?_
  refine hSeq ?_
  refine hReg (sq 0 sz) (by kernel_rfl) ?_
  refine asI rfl rfl rfl ?_
  refine rNil ?_
  refine qSeq rfl ?_
  refine hSeq ?_
  refine hReg (sl 0 (sq 1 (sl 2 (sq 3 sz)))) (by kernel_rfl) ?_
  refine ldAl Try.isAgg39 Try.sizeOf39 (cBs 0 rfl) trv rfl rfl rfl rfl ?_
  refine mvI rfl rfl rfl ?_
  refine callP Try.call26 trv rfl rfl (fun w hs => laws_szTree_c _ _ _ _ _ _ w (Kn.drop (k := 1) kz w hs) (by omega)) ?_
  refine asI rfl rfl rfl ?_
  refine rNil ?_
  refine qSeq rfl ?_
  refine hSeq ?_
  refine hSeq ?_
  refine hReg (sq 0 (sq 1 sz)) (by kernel_rfl) ?_
  refine mvI rfl rfl rfl ?_
  refine lss rfl rfl rfl rfl ?_
  refine rNil ?_
  refine qSeq rfl ?_
  refine hIfD rfl (fun c1 => ?_) (fun c1 => ?_)
  · -- c1T
    replace c1 : (Math.cut (1048576 : Int) (Math.szK Math.chl z : Int)) < 0 := c1
    refine hSeq ?_
    refine hReg (sq 0 sz) (by kernel_rfl) ?_
    refine asB rfl rfl rfl ?_
    refine rNil ?_
    refine qSeq rfl ?_
    refine hRet ?_
    exact fun w hs => ⟨[.bool true], ⟨rfl, trivial⟩, ⟨by first | rfl | exact bD (by omega) | exact bT (by omega) | exact bF (by omega) | exact vI (by omega), hs.upd⟩⟩
  · -- c1F
    replace c1 : ¬ ((Math.cut (1048576 : Int) (Math.szK Math.chl z : Int)) < 0) := c1
    have hb : Math.szK Math.chl z ≤ 1048576 := by have := Math.cut_pos c1; omega
    refine hSkip ?_
    refine qSeq rfl ?_
    refine hSeq ?_
    refine hReg (sl 0 (sl 1 (sl 2 (sq 3 (sq 4 (sq 5 (sq 6 (sq 7 sz)))))))) (by kernel_rfl) ?_
    refine ldAl Try.isAgg39 Try.sizeOf39 (cBs 0 rfl) trv rfl rfl rfl rfl ?_
    refine callS Try.call28 trv1 rfl rfl (fun w hs => laws_toTree_c _ _ _ _ _ w (Kn.drop (k := 1) kz w hs) (by assumption)) ?_
    rintro ⟨ay1, ny1, cy1, Hy1, y1⟩ hr1
    dsimp only at hr1
    subst y1
    refine callP Try.call30 trv rfl rfl (fun w hs => spec_DepthOf_c _ _ _ _ _ w (OwnR.rd (hs.at_ 0 rfl) ndK.ok)) ?_
    refine mv rfl rfl rfl ?_
    refine ext rfl rfl rfl rfl ?_
    refine ext rfl rfl rfl rfl ?_
    refine asI rfl rfl rfl ?_
    refine asI rfl rfl rfl ?_
    refine rNil ?_
    refine qSeq rfl ?_
    refine hSeq ?_
    refine hReg (sl 0 (sl 1 (sl 2 (sl 3 sz)))) (by kernel_rfl) ?_
    refine ldAl Try.isAgg39 Try.sizeOf39 (cBs 1 rfl) trv rfl rfl rfl rfl ?_
    refine callS Try.call28 trv1 rfl rfl (fun w hs => laws_toTree_c _ _ _ _ _ w (Kn.drop (k := 2) kz w hs) (by assumption)) ?_
    rintro ⟨ay2, ny2, cy2, Hy2, y2⟩ hr2
    dsimp only at hr2
    subst y2
    refine alc Try.zeroValue31 rfl trv1 rfl rfl (fun bka4 hbka4 => ?_)
    refine stAl (vs := [.slice ay2 ny2 cy2]) 0 rfl Try.sizeOf31 trv rfl rfl rfl rfl rfl (by simp [Value.oneCell']) rfl ?_
    refine rNil ?_
    refine qSeq rfl ?_
    refine hSeq ?_
    refine hReg (sl 0 (sl 1 (sq 2 (sq 3 (sq 4 (sq 5 (sq 6 sz))))))) (by kernel_rfl) ?_
    refine ldAl Try.isAgg31 Try.sizeOf31 (cBs 0 rfl) trv rfl rfl rfl rfl ?_
    refine callP Try.call31 trv rfl rfl (fun w hs => impl_DepthOf_c _ _ _ _ _ w (OwnR.rd (hs.at_ 1 rfl) ndK.ok)) ?_
    refine mv rfl rfl rfl ?_
    refine ext rfl rfl rfl rfl ?_
    refine ext rfl rfl rfl rfl ?_
    refine asI rfl rfl rfl ?_
    refine asI rfl rfl rfl ?_
    refine rNil ?_
    refine qSeq rfl ?_
    refine hSeq ?_
    refine hSeq ?_
    refine hReg (sq 0 (sq 1 (sq 2 (sq 3 (sq 4 (sq 5 (sq 6 (sq 7 sz)))))))) (by kernel_rfl) ?_
    refine mvI rfl rfl rfl ?_
    refine mvI rfl rfl rfl ?_
    refine neq rfl rfl rfl rfl ?_
    refine mvB rfl rfl rfl ?_
    refine rBoolD (d := 30) rfl (fun g2 => ?_) (fun g2 => ?_)
    · -- g2T
      replace g2 : (Math.depthOf z).1 ≠ (Math.depthOf z).1 := g2
      exact absurd rfl g2
    · -- g2F
      replace g2 : ¬ ((Math.depthOf z).1 ≠ (Math.depthOf z).1) := g2
      refine mvI rfl rfl rfl ?_
      refine mvI rfl rfl rfl ?_
      refine neq rfl rfl rfl rfl ?_
      refine pickB rfl rfl rfl rfl ?_
      refine rNil ?_
      refine qSeq rfl ?_
      refine hIfD rfl (fun c3 => ?_) (fun c3 => ?_)
      · -- c3T
        replace c3 : (Math.depthOf z).2 ≠ (Math.depthOf z).2 := c3
        exact absurd rfl c3
      · -- c3F
        replace c3 : ¬ ((Math.depthOf z).2 ≠ (Math.depthOf z).2) := c3
        refine hSkip ?_
        refine qSeq rfl ?_
        refine hSeq ?_
        refine hSeq ?_
        refine hDraw (Ls := [blk bka4 31 [.slice ay2 ny2 cy2], blk bkb1 39 [.slice az nz cz]]) (by kernel_rfl) (sq 0 (sq 1 (sl 2 (sl 3 (sq 4 sz))))) (by kernel_rfl) (.cons_cons _ (.cons _ (.cons _ (.cons_cons _ .slnil)))) ?_
        refine ldAq Try.isAgg31 Try.sizeOf31 (cBs 0 rfl) rfl rfl rfl rfl ?_
        refine ldAq Try.isAgg39 Try.sizeOf39 (cBs 1 rfl) rfl rfl rfl rfl ?_
        refine callS Try.call28 (by exact (fun _ _ h => h.pick [1, 3])) rfl rfl (fun w hs => laws_toTree_c _ _ _ _ _ w (Kn.drop (k := 4) kz w hs) (by assumption)) ?_
        rintro ⟨ay3, ny3, cy3, Hy3, y3⟩ hr3
        dsimp only at hr3
        subst y3
        refine callP Try.call23 (fun _ h => h.pick [1, 3]) rfl rfl (fun w hs => laws_eqTree_c _ _ _ _ _ _ _ _ _ _ w (OwnR.rd (hs.at_ 2 rfl) ndK.ok) (OwnR.rd (hs.at_ 0 rfl) ndK.ok) (by first | rfl | assumption | (rw [heq]) | (simp only [*]))) ?_
        refine not rfl rfl rfl ?_
        refine rNil ?_
        refine qSeq rfl ?_
        refine hIfF rfl ?_
        refine hSkip ?_
        refine qSeq rfl ?_
        refine hSeq ?_
        refine hReg (sq 0 sz) (by kernel_rfl) ?_
        refine asB rfl rfl rfl ?_
        refine rNil ?_
        refine qSeq rfl ?_
        refine hRet ?_
        exact fun w hs => ⟨[.bool true], ⟨rfl, trivial⟩, ⟨by first | rfl | exact bD (by omega) | exact bT (by omega) | exact bF (by omega) | exact vI (by omega), hs.upd⟩⟩

theorem fnExactDepthOf_lifted (os : Os) (started : os.Started) (H : Type) (enc : TypeId × Value → H) :
    ReturnsInHanded {} Try.checked os 6 .any (Rows.fnExactDepthOfSpec.pre6 enc Try.prog Try.f6 Rows.fnExactDepthOfRow.domain false) (Rows.fnExactDepthOfSpec.post enc Try.prog Try.f6 false true false false) := by
  refine returnsInHanded_of_change (C := Try.checked) own started (by kernel_rfl) Try.func6
    (ChangeSpec.witness6 (enc := enc) (C := Try.checked) false ⟨#[], #[.agg #[.slice none 0 0]], []⟩ 8 (by kernel_rfl) (by kernel_rfl) (by kernel_rfl) (by kernel_rfl)) ?_
  intro W base args ds gs before hval0 hW hcnd _
  have hval : ∀ (j : Nat) t v, Try.f6.params[j]? = some t → args[j]? = some v → Value.okWide Try.prog W .any base t v := hval0
  have hW' := hW
  obtain ⟨p, q, hA0, hV, rfl, hfz, hnd⟩ := hW
  have hA : DataW.TrodAll enc Try.prog W 0 (fun _ => true) true Try.f6.params.toList args.toList ds p := hA0
  rw [Try.params6] at hA hval
  obtain ⟨v0, vs0, d0, ds0, p0, q0, hargs, rfl, rfl, h0, r0⟩ := trodAll_cons hA
  obtain ⟨rfl, rfl, rfl⟩ := trodAll_nil r0
  obtain rfl : args = #[v0] := by cases args; simp_all
  obtain ⟨rfl, rfl⟩ := trodVars_none hV
  obtain ⟨f0, g0⟩ := h0
  obtain ⟨cs0, rfl, _⟩ := okWide_struct Try.underlying39 (hval 0 39 v0 rfl rfl)
  obtain ⟨aq0_0, nq0_0, cq0_0, hq0_0, zq0_0, e0, rq0_0⟩ := inT39 g0
  obtain rfl : cs0 = #[.slice aq0_0 nq0_0 cq0_0] := by apply Array.ext'; exact e0
  refine (laws_FnExactDepthOf_c aq0_0 nq0_0 cq0_0 hq0_0 zq0_0 W rq0_0).mono fun e W' ⟨v, he, hv, hx⟩ => ?_
  subst he; subst hv
  exact ⟨_, rfl, law_post (tb := 4) hW' rfl rfl Try.underlying4 rfl rfl rfl (by kernel_rfl) hx⟩
theorem fnExactDepthOf_holds : Rows.FnExactDepthOfSaid :=
  OpenClaim.holds_of_wide 6 Try.f6 rfl rfl rfl rfl rfl rfl rfl ⟨rfl, rfl, rfl, rfl, rfl⟩ rfl rfl rfl rfl rfl (by kernel_rfl) Try.func6 (by kernel_rfl)
    (of_decide_eq_true (by kernel_rfl)) (by unfold Func.isWrapper; first | (rw [if_pos (by decide +kernel)]; kernel_rfl) | (rw [if_neg (by decide +kernel)]; exact ⟨rfl, rfl⟩))
    (fun os started H enc _ => fnExactDepthOf_lifted os started H enc)
#print axioms fnExactDepthOf_holds

end Go.Proofs.Ytjbdddfjaognfaa
