/- The law FnExactBetTree returns true for all arguments. No condition. -/
import Derived.Test.YtjbdddfjaognfaaEngC
import Derived.Test.YtjbdddfjaognfaaFrame
import Derived.Test.YtjbdddfjaognfaaFrm
import Derived.Test.YtjbdddfjaognfaaTree
import Derived.Test.YtjbdddfjaognfaaGame
import Derived.Test.YtjbdddfjaognfaaSets
import Derived.Test.YtjbdddfjaognfaaHigh
import Derived.Test.YtjbdddfjaognfaaGrow
import Derived.Test.YtjbdddfjaognfaaBet
import Derived.Test.YtjbdddfjaognfaaL1
import Derived.Test.YtjbdddfjaognfaaL2
import Derived.Test.YtjbdddfjaognfaaL2m
import Derived.Test.YtjbdddfjaognfaaL3
import Derived.Test.YtjbdddfjaognfaaL4
import Derived.Test.YtjbdddfjaognfaaLT
import Derived.Test.YtjbdddfjaognfaaLS
import Derived.Test.YtjbdddfjaognfaaOpn
import Derived.Test.YtjbdddfjaognfaaRows
namespace Go.Proofs.Ytjbdddfjaognfaa
open Go Go.RowKit V Go.ChangeShapes Go.WideShapes Go.ChangeAt
set_option linter.unusedVariables false
set_option linter.unusedSimpArgs false
set_option maxRecDepth 100000



set_option maxHeartbeats 4000000 in
theorem laws_FnExactBetTree_c (an : Int) (bt : Int) (ra : Int) (w : World) :
    Calls Try.prog 4 #[.int .i64 an, .int .i64 bt, .int .i64 ra] w (Ret fun v w' => v = .bool true ∧ Ext w w') := by
  have hbd := Math.betAt_bd an bt ra
  have hsz0 : Math.szK Math.chl (Math.betAt an bt ra).1 = (Math.betAt an bt ra).1.length + Math.sumK Math.chl (Math.betAt an bt ra).1 := rfl
  refine fn (M := none_) (rs := [.tmp 6]) Try.func4 rfl Try.ntmps4 rfl rfl (Sep.start _ _) ?_
  refine hSeq ?_
  refine hReg (sq 0 sz) (by kernel_rfl) ?_
  refine asB rfl rfl rfl ?_
  refine rNil ?_
  refine qSeq rfl ?_
  refine hSeq ?_
  refine hReg (sq 0 (sq 1 (sq 2 (sl 3 (sq 4 (sq 5 (sq 6 (sl 7 (sl 8 (sq 9 sz)))))))))) (by kernel_rfl) ?_
  refine mvI rfl rfl rfl ?_
  refine mvI rfl rfl rfl ?_
  refine mvI rfl rfl rfl ?_
  refine callS Try.call21 trv1 rfl rfl (fun w hs => spec_BetTree_c _ _ _ w ) ?_
  rintro ⟨ay1, ny1, cy1, Hy1, y1, q1⟩ ⟨hr1a, hr1b⟩
  dsimp only at hr1a hr1b
  subst y1
  subst q1
  refine rPieces (L' := [OwnR ndK 76 2 ay1 ny1 cy1 Hy1 ((((Math.betAt an bt ra).1)))]) (fun _ h => h) ?_
  refine rKnow (fun w hs => (show OwnR ndK 76 2 ay1 ny1 cy1 Hy1 ((((Math.betAt an bt ra).1))) w from hs.at_ 0 rfl).1) (fun lenn1 => ?_)
  refine mv rfl rfl rfl ?_
  refine ext rfl rfl rfl rfl ?_
  refine ext rfl rfl rfl rfl ?_
  refine alc Try.zeroValue31 rfl trv1 rfl rfl (fun bka2 hbka2 => ?_)
  refine stAl (vs := [.slice ay1 ny1 cy1]) 0 rfl Try.sizeOf31 trv rfl rfl rfl rfl rfl (by simp [Value.oneCell']) rfl ?_
  refine asI rfl rfl rfl ?_
  refine rNil ?_
  refine qSeq rfl ?_
  refine hSeq ?_
  refine hReg (sq 0 (sq 1 (sq 2 (sl 3 (sq 4 (sq 5 (sq 6 (sl 7 (sl 8 (sq 9 sz)))))))))) (by kernel_rfl) ?_
  refine mvI rfl rfl rfl ?_
  refine mvI rfl rfl rfl ?_
  refine mvI rfl rfl rfl ?_
  refine callS Try.call22 trv1 rfl rfl (fun w hs => impl_BetTree_c _ _ _ w ) ?_
  rintro ⟨ay2, ny2, cy2, Hy2, y2, q2⟩ ⟨hr2a, hr2b⟩
  dsimp only at hr2a hr2b
  subst y2
  subst q2
  refine rPieces (L' := [OwnR ndK 76 2 ay2 ny2 cy2 Hy2 ((((Math.betAt an bt ra).1))), blk bka2 31 [.slice ay1 ny1 cy1], OwnR ndK 76 2 ay1 ny1 cy1 Hy1 ((((Math.betAt an bt ra).1)))]) (fun _ h => h) ?_
  refine rKnow (fun w hs => (show OwnR ndK 76 2 ay2 ny2 cy2 Hy2 ((((Math.betAt an bt ra).1))) w from hs.at_ 0 rfl).1) (fun lenn3 => ?_)
  refine mv rfl rfl rfl ?_
  refine ext rfl rfl rfl rfl ?_
  refine ext rfl rfl rfl rfl ?_
  refine alc Try.zeroValue31 rfl trv1 rfl rfl (fun bka4 hbka4 => ?_)
  refine stAl (vs := [.slice ay2 ny2 cy2]) 0 rfl Try.sizeOf31 trv rfl rfl rfl rfl rfl (by simp [Value.oneCell']) rfl ?_
  refine asI rfl rfl rfl ?_
  refine rNil ?_
  refine qSeq rfl ?_
  refine hSeq ?_
  refine hSeq ?_
  refine hReg (sl 0 (sl 1 (sl 2 (sq 3 (sq 4 (sq 5 (sq 6 (sq 7 (sq 8 sz))))))))) (by kernel_rfl) ?_
  refine ldAl Try.isAgg31 Try.sizeOf31 (cBs 0 rfl) trv rfl rfl rfl rfl ?_
  refine ldAl Try.isAgg31 Try.sizeOf31 (cBs 2 rfl) trv rfl rfl rfl rfl ?_
  refine callP (v := .bool true) Try.call23 trv rfl rfl (fun w hs => laws_eqTree_c _ ny2 cy2 _ _ _ ny1 cy1 _ _ w (OwnR.rd (hs.at_ 1 rfl) ndK.ok) (OwnR.rd (hs.at_ 3 rfl) ndK.ok) (by first | rfl | assumption | (rw [heq]) | (simp only [*]))) ?_
  refine not rfl rfl rfl ?_
  refine mvB rfl rfl rfl ?_
  refine mvI rfl rfl rfl ?_
  refine mvI rfl rfl rfl ?_
  refine neq rfl rfl rfl rfl ?_
  refine pickB rfl rfl rfl rfl ?_
  refine rNil ?_
  refine qSeq rfl ?_
  refine hIfD rfl (fun c1 => ?_) (fun c1 => ?_)
  · -- c1T
    replace c1 : (((Math.betAt an bt ra).2)) ≠ (((Math.betAt an bt ra).2)) := c1
    exact absurd rfl c1
  · -- c1F
    replace c1 : ¬ ((((Math.betAt an bt ra).2)) ≠ (((Math.betAt an bt ra).2))) := c1
    refine hSkip ?_
    refine qSeq rfl ?_
    refine hSeq ?_
    refine hReg (sq 0 sz) (by kernel_rfl) ?_
    refine asI rfl rfl rfl ?_
    refine rNil ?_
    refine qSeq rfl ?_
    refine hSeq ?_
    refine hReg (sl 0 (sq 1 (sl 2 (sq 3 sz)))) (by kernel_rfl) ?_
    refine ldAl Try.isAgg31 Try.sizeOf31 (cBs 0 rfl) trv rfl rfl rfl rfl ?_
    refine mvI rfl rfl rfl ?_
    refine rPieces (L' := [OwnR ndK 76 2 ay2 ny2 cy2 Hy2 ((((Math.betAt an bt ra).1))), blk bka4 31 [.slice ay2 ny2 cy2], blk bka2 31 [.slice ay1 ny1 cy1], OwnR ndK 76 2 ay1 ny1 cy1 Hy1 ((((Math.betAt an bt ra).1)))]) (fun _ h => h.perm (pull (i := 1) rfl)) ?_
    refine callM (Lf := [OwnR ndK 76 2 ay2 ny2 cy2 Hy2 ((((Math.betAt an bt ra).1)))]) (Lr := [blk bka4 31 [.slice ay2 ny2 cy2], blk bka2 31 [.slice ay1 ny1 cy1], OwnR ndK 76 2 ay1 ny1 cy1 Hy1 ((((Math.betAt an bt ra).1)))]) (φs := fun _ => [OwnR ndK 76 2 ay2 ny2 cy2 Hy2 ((Math.marksN (1 : Int) ((((Math.betAt an bt ra).1)))))]) (val := fun _ => .int .i64 (((1 : Int) + (Math.sumK Math.f4 ((((Math.betAt an bt ra).1))) : Int)))) rfl Try.call24 trv1 rfl rfl (fun w M0 hs => laws_markTree_c ay2 ny2 cy2 Hy2 ((((Math.betAt an bt ra).1))) (1 : Int) w M0 hs (by omega)) ?_
    rintro _ -
    refine rPieces (L' := [OwnR ndK 76 2 ay2 ny2 cy2 Hy2 ((Math.marksN (1 : Int) ((((Math.betAt an bt ra).1))))), blk bka4 31 [.slice ay2 ny2 cy2], blk bka2 31 [.slice ay1 ny1 cy1], OwnR ndK 76 2 ay1 ny1 cy1 Hy1 ((((Math.betAt an bt ra).1)))]) (fun _ h => h) ?_
    refine asI rfl rfl rfl ?_
    refine rNil ?_
    refine qSeq rfl ?_
    refine hSeq ?_
    refine hReg (sq 0 sz) (by kernel_rfl) ?_
    refine asI rfl rfl rfl ?_
    refine rNil ?_
    refine qSeq rfl ?_
    refine hSeq ?_
    refine hReg (sl 0 (sq 1 (sl 2 (sq 3 sz)))) (by kernel_rfl) ?_
    refine ldAl Try.isAgg31 Try.sizeOf31 (cBs 1 rfl) trv rfl rfl rfl rfl ?_
    refine mvI rfl rfl rfl ?_
    refine callP (v := .int .i64 (((1 : Int) + (Math.sumK Math.f4 (((((Math.betAt an bt ra).1)))) : Int)))) Try.call25 trv rfl rfl (fun w hs => laws_heldTree_c _ ny2 cy2 _ _ _ _ w (OwnR.rd (hs.at_ 0 rfl) ndK.ok) (by omega) (by first | rfl | assumption)) ?_
    refine asI rfl rfl rfl ?_
    refine rNil ?_
    refine qSeq rfl ?_
    refine hSeq ?_
    refine hSeq ?_
    refine hReg (sq 0 (sq 1 sz)) (by kernel_rfl) ?_
    refine mvI rfl rfl rfl ?_
    refine lss rfl rfl rfl rfl ?_
    refine rNil ?_
    refine qSeq rfl ?_
    refine hIfD rfl (fun c2 => ?_) (fun c2 => ?_)
    · -- c2T
      replace c2 : ((1 : Int) + (Math.sumK Math.f4 (((((Math.betAt an bt ra).1)))) : Int)) < 0 := c2
      refine hSeq ?_
      refine hReg (sq 0 sz) (by kernel_rfl) ?_
      refine asB rfl rfl rfl ?_
      refine rNil ?_
      refine qSeq rfl ?_
      refine hRet ?_
      exact fun w hs => ⟨[.bool false], ⟨rfl, trivial⟩, ⟨by exfalso; omega, hs.upd⟩⟩
    · -- c2F
      replace c2 : ¬ (((1 : Int) + (Math.sumK Math.f4 (((((Math.betAt an bt ra).1)))) : Int)) < 0) := c2
      refine hSkip ?_
      refine qSeq rfl ?_
      refine hSeq ?_
      refine hSeq ?_
      refine hReg (sq 0 (sq 1 (sq 2 sz))) (by kernel_rfl) ?_
      refine mvI rfl rfl rfl ?_
      refine mvI rfl rfl rfl ?_
      refine neq rfl rfl rfl rfl ?_
      refine rNil ?_
      refine qSeq rfl ?_
      refine hIfD rfl (fun c3 => ?_) (fun c3 => ?_)
      · -- c3T
        replace c3 : ((1 : Int) + (Math.sumK Math.f4 (((((Math.betAt an bt ra).1)))) : Int)) ≠ ((1 : Int) + (Math.sumK Math.f4 ((((Math.betAt an bt ra).1))) : Int)) := c3
        refine hSeq ?_
        refine hReg (sq 0 sz) (by kernel_rfl) ?_
        refine asB rfl rfl rfl ?_
        refine rNil ?_
        refine qSeq rfl ?_
        refine hRet ?_
        exact fun w hs => ⟨[.bool false], ⟨rfl, trivial⟩, ⟨by exfalso; omega, hs.upd⟩⟩
      · -- c3F
        replace c3 : ¬ (((1 : Int) + (Math.sumK Math.f4 (((((Math.betAt an bt ra).1)))) : Int)) ≠ ((1 : Int) + (Math.sumK Math.f4 ((((Math.betAt an bt ra).1))) : Int))) := c3
        refine hSkip ?_
        refine qSeq rfl ?_
        refine hSeq ?_
        refine hReg (sq 0 (sq 1 (sq 2 (sl 3 (sq 4 (sq 5 (sq 6 (sl 7 (sl 8 (sq 9 sz)))))))))) (by kernel_rfl) ?_
        refine mvI rfl rfl rfl ?_
        refine mvI rfl rfl rfl ?_
        refine mvI rfl rfl rfl ?_
        refine callS Try.call22 trv1 rfl rfl (fun w hs => impl_BetTree_c _ _ _ w ) ?_
        rintro ⟨ay3, ny3, cy3, Hy3, y3, q3⟩ ⟨hr3a, hr3b⟩
        dsimp only at hr3a hr3b
        subst y3
        subst q3
        refine rPieces (L' := [OwnR ndK 76 2 ay3 ny3 cy3 Hy3 ((((Math.betAt an bt ra).1))), OwnR ndK 76 2 ay2 ny2 cy2 Hy2 ((Math.marksN (1 : Int) ((((Math.betAt an bt ra).1))))), blk bka4 31 [.slice ay2 ny2 cy2], blk bka2 31 [.slice ay1 ny1 cy1], OwnR ndK 76 2 ay1 ny1 cy1 Hy1 ((((Math.betAt an bt ra).1)))]) (fun _ h => h) ?_
        refine rKnow (fun w hs => (show OwnR ndK 76 2 ay3 ny3 cy3 Hy3 ((((Math.betAt an bt ra).1))) w from hs.at_ 0 rfl).1) (fun lenn5 => ?_)
        refine mv rfl rfl rfl ?_
        refine ext rfl rfl rfl rfl ?_
        refine ext rfl rfl rfl rfl ?_
        refine alc Try.zeroValue31 rfl trv1 rfl rfl (fun bka6 hbka6 => ?_)
        refine stAl (vs := [.slice ay3 ny3 cy3]) 0 rfl Try.sizeOf31 trv rfl rfl rfl rfl rfl (by simp [Value.oneCell']) rfl ?_
        refine asI rfl rfl rfl ?_
        refine rNil ?_
        refine qSeq rfl ?_
        refine hSeq ?_
        refine hSeq ?_
        refine hReg (sl 0 (sl 1 (sl 2 (sq 3 (sq 4 (sq 5 (sq 6 (sq 7 (sq 8 sz))))))))) (by kernel_rfl) ?_
        refine ldAl Try.isAgg31 Try.sizeOf31 (cBs 0 rfl) trv rfl rfl rfl rfl ?_
        refine ldAl Try.isAgg31 Try.sizeOf31 (cBs 4 rfl) trv rfl rfl rfl rfl ?_
        refine callP (v := .bool true) Try.call23 trv rfl rfl (fun w hs => laws_eqTree_c _ ny3 cy3 _ _ _ ny1 cy1 _ _ w (OwnR.rd (hs.at_ 1 rfl) ndK.ok) (OwnR.rd (hs.at_ 5 rfl) ndK.ok) (by first | rfl | assumption | (rw [heq]) | (simp only [*]))) ?_
        refine not rfl rfl rfl ?_
        refine mvB rfl rfl rfl ?_
        refine mvI rfl rfl rfl ?_
        refine mvI rfl rfl rfl ?_
        refine neq rfl rfl rfl rfl ?_
        refine pickB rfl rfl rfl rfl ?_
        refine rNil ?_
        refine qSeq rfl ?_
        refine hIfD rfl (fun c4 => ?_) (fun c4 => ?_)
        · -- c4T
          replace c4 : (((Math.betAt an bt ra).2)) ≠ (((Math.betAt an bt ra).2)) := c4
          exact absurd rfl c4
        · -- c4F
          replace c4 : ¬ ((((Math.betAt an bt ra).2)) ≠ (((Math.betAt an bt ra).2))) := c4
          refine hSkip ?_
          refine qSeq rfl ?_
          refine hSeq ?_
          refine hReg (sq 0 sz) (by kernel_rfl) ?_
          refine asI rfl rfl rfl ?_
          refine rNil ?_
          refine qSeq rfl ?_
          refine hSeq ?_
          refine hReg (sl 0 (sq 1 (sl 2 (sq 3 sz)))) (by kernel_rfl) ?_
          refine ldAl Try.isAgg31 Try.sizeOf31 (cBs 3 rfl) trv rfl rfl rfl rfl ?_
          refine mvI rfl rfl rfl ?_
          refine callP (v := .int .i64 (((1 : Int) + (Math.sumK Math.f4 (((((Math.betAt an bt ra).1)))) : Int)))) Try.call25 trv rfl rfl (fun w hs => laws_heldTree_c _ ny2 cy2 _ _ _ _ w (OwnR.rd (hs.at_ 2 rfl) ndK.ok) (by omega) (by first | rfl | assumption)) ?_
          refine asI rfl rfl rfl ?_
          refine rNil ?_
          refine qSeq rfl ?_
          refine hSeq ?_
          refine hSeq ?_
          refine hReg (sq 0 (sq 1 sz)) (by kernel_rfl) ?_
          refine mvI rfl rfl rfl ?_
          refine lss rfl rfl rfl rfl ?_
          refine rNil ?_
          refine qSeq rfl ?_
          refine hIfD rfl (fun c5 => ?_) (fun c5 => ?_)
          · -- c5T
            replace c5 : ((1 : Int) + (Math.sumK Math.f4 (((((Math.betAt an bt ra).1)))) : Int)) < 0 := c5
            refine hSeq ?_
            refine hReg (sq 0 sz) (by kernel_rfl) ?_
            refine asB rfl rfl rfl ?_
            refine rNil ?_
            refine qSeq rfl ?_
            refine hRet ?_
            exact fun w hs => ⟨[.bool false], ⟨rfl, trivial⟩, ⟨by exfalso; omega, hs.upd⟩⟩
          · -- c5F
            replace c5 : ¬ (((1 : Int) + (Math.sumK Math.f4 (((((Math.betAt an bt ra).1)))) : Int)) < 0) := c5
            refine hSkip ?_
            refine qSeq rfl ?_
            refine hSeq ?_
            refine hSeq ?_
            refine hReg (sq 0 (sq 1 (sq 2 sz))) (by kernel_rfl) ?_
            refine mvI rfl rfl rfl ?_
            refine mvI rfl rfl rfl ?_
            refine neq rfl rfl rfl rfl ?_
            refine rNil ?_
            refine qSeq rfl ?_
            refine hIfD rfl (fun c6 => ?_) (fun c6 => ?_)
            · -- c6T
              replace c6 : ((1 : Int) + (Math.sumK Math.f4 (((((Math.betAt an bt ra).1)))) : Int)) ≠ ((1 : Int) + (Math.sumK Math.f4 ((((Math.betAt an bt ra).1))) : Int)) := c6
              refine hSeq ?_
              refine hReg (sq 0 sz) (by kernel_rfl) ?_
              refine asB rfl rfl rfl ?_
              refine rNil ?_
              refine qSeq rfl ?_
              refine hRet ?_
              exact fun w hs => ⟨[.bool false], ⟨rfl, trivial⟩, ⟨by exfalso; omega, hs.upd⟩⟩
            · -- c6F
              replace c6 : ¬ (((1 : Int) + (Math.sumK Math.f4 (((((Math.betAt an bt ra).1)))) : Int)) ≠ ((1 : Int) + (Math.sumK Math.f4 ((((Math.betAt an bt ra).1))) : Int))) := c6
              refine hSkip ?_
              refine qSeq rfl ?_
              refine hSeq ?_
              refine hReg (sq 0 sz) (by kernel_rfl) ?_
              refine asB rfl rfl rfl ?_
              refine rNil ?_
              refine qSeq rfl ?_
              refine hRet ?_
              exact fun w hs => ⟨[.bool true], ⟨rfl, trivial⟩, ⟨by first | rfl | exact bD (by omega) | exact bT (by omega) | exact bF (by omega) | exact vI (by omega), hs.upd⟩⟩

set_option maxHeartbeats 2000000 in
theorem fnExactBetTree_lifted (os : Os) (started : os.Started) (H : Type) (enc : TypeId × Value → H) :
    ReturnsInHanded {} Try.checked os 4 .any (Rows.fnExactBetTreeSpec.pre6 enc Try.prog Try.f4 Rows.fnExactBetTreeRow.domain false) (Rows.fnExactBetTreeSpec.post enc Try.prog Try.f4 false true false false) := by
  refine returnsInHanded_of_change (C := Try.checked) own started (by kernel_rfl) Try.func4
    (ChangeSpec.witness6 (enc := enc) (C := Try.checked) false ⟨#[], #[.int .i64 0, .int .i64 0, .int .i64 0], []⟩ 8 (by kernel_rfl) (by kernel_rfl) (by kernel_rfl) (by kernel_rfl)) ?_
  intro W base args ds gs before hval0 hW hcnd _
  have hval : ∀ (j : Nat) t v, Try.f4.params[j]? = some t → args[j]? = some v → Value.okWide Try.prog W .any base t v := hval0
  have hW' := hW
  obtain ⟨p, q, hA0, hV, rfl, hfz, hnd⟩ := hW
  have hA : DataW.TrodAll enc Try.prog W 0 (fun _ => true) true Try.f4.params.toList args.toList ds p := hA0
  rw [Try.params4] at hA hval
  obtain ⟨v0, vs0, d0, ds0, p0, q0, hargs, rfl, rfl, h0, r0⟩ := trodAll_cons hA
  obtain ⟨v1, vs1, d1, ds1, p1, q1, rfl, rfl, rfl, h1, r1⟩ := trodAll_cons r0
  obtain ⟨v2, vs2, d2, ds2, p2, q2, rfl, rfl, rfl, h2, r2⟩ := trodAll_cons r1
  obtain ⟨rfl, rfl, rfl⟩ := trodAll_nil r2
  obtain rfl : args = #[v0, v1, v2] := by cases args; simp_all
  obtain ⟨rfl, rfl⟩ := trodVars_none hV
  obtain ⟨f0, g0⟩ := h0
  obtain ⟨z0_, rfl⟩ := okWide_int Try.underlying2 (hval 0 2 v0 rfl rfl)
  obtain ⟨zq0_0, e0⟩ := inT2 g0
  simp only [Value.cells, List.cons.injEq, Value.int.injEq, and_true, true_and] at e0
  subst z0_
  obtain ⟨f1, g1⟩ := h1
  obtain ⟨z1_, rfl⟩ := okWide_int Try.underlying2 (hval 1 2 v1 rfl rfl)
  obtain ⟨zq1_0, e1⟩ := inT2 g1
  simp only [Value.cells, List.cons.injEq, Value.int.injEq, and_true, true_and] at e1
  subst z1_
  obtain ⟨f2, g2⟩ := h2
  obtain ⟨z2_, rfl⟩ := okWide_int Try.underlying2 (hval 2 2 v2 rfl rfl)
  obtain ⟨zq2_0, e2⟩ := inT2 g2
  simp only [Value.cells, List.cons.injEq, Value.int.injEq, and_true, true_and] at e2
  subst z2_
  refine (laws_FnExactBetTree_c zq0_0 zq1_0 zq2_0 W ).mono fun e W' ⟨v, he, hv, hx⟩ => ?_
  subst he; subst hv
  exact ⟨_, rfl, law_post (tb := 4) hW' rfl rfl Try.underlying4 rfl rfl rfl (by kernel_rfl) hx⟩
theorem fnExactBetTree_holds : Rows.FnExactBetTreeSaid :=
  OpenClaim.holds_of_wide 4 Try.f4 rfl rfl rfl rfl rfl rfl rfl ⟨rfl, rfl, rfl, rfl, rfl⟩ rfl rfl rfl rfl rfl (by kernel_rfl) Try.func4 (by kernel_rfl)
    (of_decide_eq_true (by kernel_rfl)) (by unfold Func.isWrapper; first | (rw [if_pos (by decide +kernel)]; kernel_rfl) | (rw [if_neg (by decide +kernel)]; exact ⟨rfl, rfl⟩))
    (fun os started H enc _ => fnExactBetTree_lifted os started H enc)
#print axioms fnExactBetTree_holds

end Go.Proofs.Ytjbdddfjaognfaa
