/- The law FnExactNodeBy returns true for all arguments. No condition. -/
import Derived.Test.YtjbdddfjaognfaaEngA
import Derived.Test.YtjbdddfjaognfaaFrame
import Derived.Test.YtjbdddfjaognfaaFrm
import Derived.Test.YtjbdddfjaognfaaTree
import Derived.Test.YtjbdddfjaognfaaL1
import Derived.Test.YtjbdddfjaognfaaL2
import Derived.Test.YtjbdddfjaognfaaL3
import Derived.Test.YtjbdddfjaognfaaOpn
import Derived.Test.YtjbdddfjaognfaaRows
namespace Go.Proofs.Ytjbdddfjaognfaa
open Go Go.RowKit V Go.ChangeShapes Go.WideShapes Go.ChangeAt
set_option linter.unusedVariables false
set_option linter.unusedSimpArgs false
set_option maxRecDepth 100000



theorem laws_FnExactNodeBy_c (az : Option Addr) (nz : Nat) (cz : Nat) (Hz : Nat → Hd) (z : List Nd) (ay : Option Addr) (ny : Nat) (cy : Nat) (y : List Int) (w : World) (rz : RdR ndK az nz Hz z w) (ry : RdI ay ny y w) :
    Calls Try.prog 7 #[.agg #[.slice az nz cz], .slice ay ny cy] w (Ret fun v w' => v = .bool true ∧ Ext w w') := by
  have kz : Kn w none_ [] (RdR ndK az nz Hz z) := fun w' hs => rz.ext hs.upd
  have lz : z.length = nz := rz.1
  have mz : nz ≤ 9223372036854775807 := rz.2.1
  have ky : Kn w none_ [] (RdI ay ny y) := fun w' hs => ry.ext hs.upd
  have ly : y.length = ny := ry.1
  have my : ny ≤ 9223372036854775807 := ry.2.1
  refine fn (M := none_) (rs := [.tmp 4]) Try.func7 rfl Try.ntmps7 rfl rfl (Sep.start _ _) ?_
  refine hSeq ?_
  refine hReg (sl 0 (sq 1 sz)) (by kernel_rfl) ?_
  refine box trv1 rfl rfl rfl rfl (fun bkb1 hbkb1 => ?_)
  refine asB rfl rfl rfl ?_
  refine rNil ?_
  refine qSeq rfl ?_
  refine hSeq ?_
  refine hSeq ?_
  refine hReg (sq 0 (sq 1 (sq 2 sz))) (by kernel_rfl) ?_
  refine mvS rfl rfl rfl ?_
  refine lenS Try.runUnderlying22 rfl rfl rfl ?_
  refine gtr rfl rfl rfl rfl ?_
  refine rNil ?_
  refine qSeq rfl ?_
  refine hIfD rfl (fun c1 => ?_) (fun c1 => ?_)
  · -- c1T
    replace c1 : 1048576 < (ny : Int) := c1
    refine hSeq ?_
    refine hReg (sq 0 sz) (by kernel_rfl) ?_
    refine asB rfl rfl rfl ?_
    refine rNil ?_
    refine qSeq rfl ?_
    refine hRet ?_
    exact fun w hs => ⟨[.bool true], ⟨rfl, trivial⟩, ⟨by first | rfl | exact bD (by omega) | exact bT (by omega) | exact bF (by omega) | exact vI (by omega), hs.upd⟩⟩
  · -- c1F
    replace c1 : ¬ (1048576 < (ny : Int)) := c1
    
    refine hSkip ?_
    refine qSeq rfl ?_
    refine hSeq ?_
    refine hReg (sq 0 sz) (by kernel_rfl) ?_
    refine asI rfl rfl rfl ?_
    refine rNil ?_
    refine qSeq rfl ?_
    refine hSeq ?_
    refine hReg (sl 0 (sq 1 (sl 2 (sq 3 sz)))) (by kernel_rfl) ?_
    refine ldAl Try.isAgg39 Try.sizeOf39 (cBs 0 rfl) trv rfl rfl rfl rfl ?_
    refine mvI rfl rfl rfl ?_
    refine callP Try.call26 trv rfl rfl (fun w hs => laws_szTree_c _ _ _ _ _ _ w (Kn.drop (k := 1) kz w hs) (by omega)) ?_
    refine asI rfl rfl rfl ?_
    refine rNil ?_
    refine qSeq rfl ?_
    refine hSeq ?_
    refine hSeq ?_
    refine hReg (sq 0 (sq 1 sz)) (by kernel_rfl) ?_
    refine mvI rfl rfl rfl ?_
    refine lss rfl rfl rfl rfl ?_
    refine rNil ?_
    refine qSeq rfl ?_
    refine hIfD rfl (fun c2 => ?_) (fun c2 => ?_)
    · -- c2T
      replace c2 : (Math.cut (1048576 : Int) (Math.szK Math.chl z : Int)) < 0 := c2
      refine hSeq ?_
      refine hReg (sq 0 sz) (by kernel_rfl) ?_
      refine asB rfl rfl rfl ?_
      refine rNil ?_
      refine qSeq rfl ?_
      refine hRet ?_
      exact fun w hs => ⟨[.bool true], ⟨rfl, trivial⟩, ⟨by first | rfl | exact bD (by omega) | exact bT (by omega) | exact bF (by omega) | exact vI (by omega), hs.upd⟩⟩
    · -- c2F
      replace c2 : ¬ ((Math.cut (1048576 : Int) (Math.szK Math.chl z : Int)) < 0) := c2
      have hb : Math.szK Math.chl z ≤ 1048576 := by have := Math.cut_pos c2; omega
      refine hSkip ?_
      refine qSeq rfl ?_
      refine hSeq ?_
      refine hReg (sl 0 (sl 1 (sq 2 (sl 3 (sl 4 (sq 5 (sq 6 (sq 7 (sq 8 (sq 9 sz)))))))))) (by kernel_rfl) ?_
      refine ldAl Try.isAgg39 Try.sizeOf39 (cBs 0 rfl) trv rfl rfl rfl rfl ?_
      refine callS Try.call28 trv1 rfl rfl (fun w hs => laws_toTree_c _ _ _ _ _ w (Kn.drop (k := 1) kz w hs) (by assumption)) ?_
      rintro ⟨ay1, ny1, cy1, Hy1, y1⟩ hr1
      dsimp only at hr1
      subst y1
      refine mvS rfl rfl rfl ?_
      refine callS Try.call16 trv1 rfl rfl (fun w hs => laws_toInt64S_c _ _ _ _ w (Kn.drop (k := 2) ky w hs) (by omega)) ?_
      rintro ⟨ay2, ny2, cy2, y2⟩ hr2
      dsimp only at hr2
      subst y2
      refine callP Try.call32 trv rfl rfl (fun w hs => spec_NodeBy_c _ _ _ _ _ _ _ _ _ w (OwnR.rd (hs.at_ 1 rfl) ndK.ok) (OwnI.rd (hs.at_ 0 rfl))) ?_
      refine mv rfl rfl rfl ?_
      refine ext rfl rfl rfl rfl ?_
      refine ext rfl rfl rfl rfl ?_
      refine asI rfl rfl rfl ?_
      refine asI rfl rfl rfl ?_
      refine rNil ?_
      refine qSeq rfl ?_
      refine hSeq ?_
      refine hReg (sl 0 (sl 1 (sl 2 (sl 3 sz)))) (by kernel_rfl) ?_
      refine ldAl Try.isAgg39 Try.sizeOf39 (cBs 2 rfl) trv rfl rfl rfl rfl ?_
      refine callS Try.call28 trv1 rfl rfl (fun w hs => laws_toTree_c _ _ _ _ _ w (Kn.drop (k := 3) kz w hs) (by assumption)) ?_
      rintro ⟨ay3, ny3, cy3, Hy3, y3⟩ hr3
      dsimp only at hr3
      subst y3
      refine alc Try.zeroValue31 rfl trv1 rfl rfl (fun bka5 hbka5 => ?_)
      refine stAl (vs := [.slice ay3 ny3 cy3]) 0 rfl Try.sizeOf31 trv rfl rfl rfl rfl rfl (by simp [Value.oneCell']) rfl ?_
      refine rNil ?_
      refine qSeq rfl ?_
      refine hSeq ?_
      refine hReg (sq 0 (sl 1 (sq 2 sz))) (by kernel_rfl) ?_
      refine mvS rfl rfl rfl ?_
      refine callS Try.call16 trv1 rfl rfl (fun w hs => laws_toInt64S_c _ _ _ _ w (Kn.drop (k := 5) ky w hs) (by omega)) ?_
      rintro ⟨ay4, ny4, cy4, y4⟩ hr4
      dsimp only at hr4
      subst y4
      refine asS rfl rfl rfl ?_
      refine rNil ?_
      refine qSeq rfl ?_
      refine hSeq ?_
      refine hReg (sl 0 (sq 1 (sl 2 (sq 3 (sq 4 (sq 5 (sq 6 (sq 7 sz)))))))) (by kernel_rfl) ?_
      refine ldAl Try.isAgg31 Try.sizeOf31 (cBs 1 rfl) trv rfl rfl rfl rfl ?_
      refine mvS rfl rfl rfl ?_
      refine callP Try.call33 trv rfl rfl (fun w hs => impl_NodeBy_c _ _ _ _ _ _ _ _ _ w (OwnR.rd (hs.at_ 2 rfl) ndK.ok) (OwnI.rd (hs.at_ 0 rfl))) ?_
      refine mv rfl rfl rfl ?_
      refine ext rfl rfl rfl rfl ?_
      refine ext rfl rfl rfl rfl ?_
      refine asI rfl rfl rfl ?_
      refine asI rfl rfl rfl ?_
      refine rNil ?_
      refine qSeq rfl ?_
      refine hSeq ?_
      refine hSeq ?_
      refine hReg (sq 0 (sq 1 (sq 2 (sq 3 (sq 4 (sq 5 (sq 6 (sq 7 sz)))))))) (by kernel_rfl) ?_
      refine mvI rfl rfl rfl ?_
      refine mvI rfl rfl rfl ?_
      refine neq rfl rfl rfl rfl ?_
      refine mvB rfl rfl rfl ?_
      refine rBoolD (d := 41) rfl (fun g3 => ?_) (fun g3 => ?_)
      · -- g3T
        replace g3 : (Math.nodeBy z y).1 ≠ (Math.nodeBy z y).1 := g3
        exact absurd rfl g3
      · -- g3F
        replace g3 : ¬ ((Math.nodeBy z y).1 ≠ (Math.nodeBy z y).1) := g3
        refine mvI rfl rfl rfl ?_
        refine mvI rfl rfl rfl ?_
        refine neq rfl rfl rfl rfl ?_
        refine pickB rfl rfl rfl rfl ?_
        refine rNil ?_
        refine qSeq rfl ?_
        refine hIfD rfl (fun c4 => ?_) (fun c4 => ?_)
        · -- c4T
          replace c4 : (Math.nodeBy z y).2 ≠ (Math.nodeBy z y).2 := c4
          exact absurd rfl c4
        · -- c4F
          replace c4 : ¬ ((Math.nodeBy z y).2 ≠ (Math.nodeBy z y).2) := c4
          refine hSkip ?_
          refine qSeq rfl ?_
          refine hSeq ?_
          refine hSeq ?_
          refine hDraw (Ls := [blk bka5 31 [.slice ay3 ny3 cy3], blk bkb1 39 [.slice az nz cz]]) (by kernel_rfl) (sq 0 (sq 1 (sl 2 (sl 3 (sq 4 sz))))) (by kernel_rfl) (.cons _ (.cons_cons _ (.cons _ (.cons _ (.cons _ (.cons_cons _ .slnil)))))) ?_
          refine ldAq Try.isAgg31 Try.sizeOf31 (cBs 0 rfl) rfl rfl rfl rfl ?_
          refine ldAq Try.isAgg39 Try.sizeOf39 (cBs 1 rfl) rfl rfl rfl rfl ?_
          refine callS Try.call28 (by exact (fun _ _ h => h.pick [2, 5])) rfl rfl (fun w hs => laws_toTree_c _ _ _ _ _ w (Kn.drop (k := 6) kz w hs) (by assumption)) ?_
          rintro ⟨ay5, ny5, cy5, Hy5, y5⟩ hr5
          dsimp only at hr5
          subst y5
          refine callP Try.call23 (fun _ h => h.pick [2, 5]) rfl rfl (fun w hs => laws_eqTree_c _ _ _ _ _ _ _ _ _ _ w (OwnR.rd (hs.at_ 3 rfl) ndK.ok) (OwnR.rd (hs.at_ 0 rfl) ndK.ok) (by first | rfl | assumption | (rw [heq]) | (simp only [*]))) ?_
          refine not rfl rfl rfl ?_
          refine rNil ?_
          refine qSeq rfl ?_
          refine hIfF rfl ?_
          refine hSkip ?_
          refine qSeq rfl ?_
          refine hSeq ?_
          refine hSeq ?_
          refine hReg (sq 0 (sq 1 (sl 2 (sl 3 (sq 4 sz))))) (by kernel_rfl) ?_
          refine mvS rfl rfl rfl ?_
          refine mvS rfl rfl rfl ?_
          refine callS Try.call16 trv1 rfl rfl (fun w hs => laws_toInt64S_c _ _ _ _ w (Kn.drop (k := 7) ky w hs) (by omega)) ?_
          rintro ⟨ay6, ny6, cy6, y6⟩ hr6
          dsimp only at hr6
          subst y6
          refine callP Try.call18 trv rfl rfl (fun w hs => laws_eqInt64S_c _ _ _ _ _ _ _ _ w (OwnI.rd (hs.at_ 2 rfl)) (OwnI.rd (hs.at_ 0 rfl)) (by first | rfl | assumption | (rw [heq]) | (simp only [*]))) ?_
          refine not rfl rfl rfl ?_
          refine rNil ?_
          refine qSeq rfl ?_
          refine hIfF rfl ?_
          refine hSkip ?_
          refine qSeq rfl ?_
          refine hSeq ?_
          refine hReg (sq 0 sz) (by kernel_rfl) ?_
          refine asB rfl rfl rfl ?_
          refine rNil ?_
          refine qSeq rfl ?_
          refine hRet ?_
          exact fun w hs => ⟨[.bool true], ⟨rfl, trivial⟩, ⟨by first | rfl | exact bD (by omega) | exact bT (by omega) | exact bF (by omega) | exact vI (by omega), hs.upd⟩⟩

set_option maxHeartbeats 2000000 in
theorem fnExactNodeBy_lifted (os : Os) (started : os.Started) (H : Type) (enc : TypeId × Value → H) :
    ReturnsInHanded {} Try.checked os 7 .any (Rows.fnExactNodeBySpec.pre6 enc Try.prog Try.f7 Rows.fnExactNodeByRow.domain false) (Rows.fnExactNodeBySpec.post enc Try.prog Try.f7 false true false false) := by
  refine returnsInHanded_of_change (C := Try.checked) own started (by kernel_rfl) Try.func7
    (ChangeSpec.witness6 (enc := enc) (C := Try.checked) false ⟨#[], #[.agg #[.slice none 0 0], .slice none 0 0], []⟩ 8 (by kernel_rfl) (by kernel_rfl) (by kernel_rfl) (by kernel_rfl)) ?_
  intro W base args ds gs before hval0 hW hcnd _
  have hval : ∀ (j : Nat) t v, Try.f7.params[j]? = some t → args[j]? = some v → Value.okWide Try.prog W .any base t v := hval0
  have hW' := hW
  obtain ⟨p, q, hA0, hV, rfl, hfz, hnd⟩ := hW
  have hA : DataW.TrodAll enc Try.prog W 0 (fun _ => true) true Try.f7.params.toList args.toList ds p := hA0
  rw [Try.params7] at hA hval
  obtain ⟨v0, vs0, d0, ds0, p0, q0, hargs, rfl, rfl, h0, r0⟩ := trodAll_cons hA
  obtain ⟨v1, vs1, d1, ds1, p1, q1, rfl, rfl, rfl, h1, r1⟩ := trodAll_cons r0
  obtain ⟨rfl, rfl, rfl⟩ := trodAll_nil r1
  obtain rfl : args = #[v0, v1] := by cases args; simp_all
  obtain ⟨rfl, rfl⟩ := trodVars_none hV
  obtain ⟨f0, g0⟩ := h0
  obtain ⟨cs0, rfl, _⟩ := okWide_struct Try.underlying39 (hval 0 39 v0 rfl rfl)
  obtain ⟨aq0_0, nq0_0, cq0_0, hq0_0, zq0_0, e0, rq0_0⟩ := inT39 g0
  obtain rfl : cs0 = #[.slice aq0_0 nq0_0 cq0_0] := by apply Array.ext'; exact e0
  obtain ⟨f1, g1⟩ := h1
  obtain ⟨a1_, n1_, c1_, rfl⟩ := okWide_slice Try.underlying22 (hval 1 22 v1 rfl rfl)
  obtain ⟨aq1_0, nq1_0, cq1_0, zq1_0, e1, rq1_0⟩ := inT22 g1
  simp only [Value.cells, List.cons.injEq, Value.slice.injEq, and_true, true_and] at e1
  obtain ⟨ea, en, ec⟩ := e1
  subst a1_; subst n1_; subst c1_
  refine (laws_FnExactNodeBy_c aq0_0 nq0_0 cq0_0 hq0_0 zq0_0 aq1_0 nq1_0 cq1_0 zq1_0 W rq0_0 rq1_0).mono fun e W' ⟨v, he, hv, hx⟩ => ?_
  subst he; subst hv
  exact ⟨_, rfl, law_post (tb := 4) hW' rfl rfl Try.underlying4 rfl rfl rfl (by kernel_rfl) hx⟩
theorem fnExactNodeBy_holds : Rows.FnExactNodeBySaid :=
  OpenClaim.holds_of_wide 7 Try.f7 rfl rfl rfl rfl rfl rfl rfl ⟨rfl, rfl, rfl, rfl, rfl⟩ rfl rfl rfl rfl rfl (by kernel_rfl) Try.func7 (by kernel_rfl)
    (of_decide_eq_true (by kernel_rfl)) (by unfold Func.isWrapper; first | (rw [if_pos (by decide +kernel)]; kernel_rfl) | (rw [if_neg (by decide +kernel)]; exact ⟨rfl, rfl⟩))
    (fun os started H enc _ => fnExactNodeBy_lifted os started H enc)
#print axioms fnExactNodeBy_holds

end Go.Proofs.Ytjbdddfjaognfaa
