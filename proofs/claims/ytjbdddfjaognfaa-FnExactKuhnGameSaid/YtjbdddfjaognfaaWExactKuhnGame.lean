/- The law FnExactKuhnGame returns true for all arguments. No condition. -/
import Derived.Test.YtjbdddfjaognfaaEngC
import Derived.Test.YtjbdddfjaognfaaFrame
import Derived.Test.YtjbdddfjaognfaaFrm
import Derived.Test.YtjbdddfjaognfaaTree
import Derived.Test.YtjbdddfjaognfaaGame
import Derived.Test.YtjbdddfjaognfaaSets
import Derived.Test.YtjbdddfjaognfaaHigh
import Derived.Test.YtjbdddfjaognfaaGrow
import Derived.Test.YtjbdddfjaognfaaBet
import Derived.Test.YtjbdddfjaognfaaL1
import Derived.Test.YtjbdddfjaognfaaL2
import Derived.Test.YtjbdddfjaognfaaL2m
import Derived.Test.YtjbdddfjaognfaaL3
import Derived.Test.YtjbdddfjaognfaaL4
import Derived.Test.YtjbdddfjaognfaaLC
import Derived.Test.YtjbdddfjaognfaaLT
import Derived.Test.YtjbdddfjaognfaaLS
import Derived.Test.YtjbdddfjaognfaaLZ
import Derived.Test.YtjbdddfjaognfaaOpn
import Derived.Test.YtjbdddfjaognfaaRows
namespace Go.Proofs.Ytjbdddfjaognfaa
open Go Go.RowKit V Go.ChangeShapes Go.WideShapes Go.ChangeAt
set_option linter.unusedVariables false
set_option linter.unusedSimpArgs false
set_option maxRecDepth 100000



set_option maxHeartbeats 4000000 in
theorem laws_FnExactKuhnGame_c (w : World) :
    Calls Try.prog 12 #[] w (Ret fun v w' => v = .bool true ∧ Ext w w') := by
  have hbd := Math.betAt_bd 1 1 0
  have hbw := Math.hcW_bd 3 false 3
  have hbv := Math.hcV_bd 3 3
  have hlw : (Math.hcW 3 false 3).length = 3 := Math.mapR_len _ _
  have hlv : (Math.hcV 3 3).length = 3 := Math.mapR_len _ _
  refine fn (M := none_) (rs := [.tmp 0]) Try.func12 rfl Try.ntmps12 rfl rfl (Sep.start _ _) ?_
  refine hSeq ?_
  refine hReg (sq 0 sz) (by kernel_rfl) ?_
  refine asB rfl rfl rfl ?_
  refine rNil ?_
  refine qSeq rfl ?_
  refine hSeq ?_
  refine hReg (sl 0 (sl 1 (sl 2 sz))) (by kernel_rfl) ?_
  refine callS Try.call45 trv1 rfl rfl (fun w hs => spec_KuhnGame_c  w ) ?_
  rintro ⟨ay1, ny1, cy1, Hy1, y1, ayw1, nyw1, cyw1, Hyw1, yw1, ayv1, nyv1, cyv1, Hyv1, yv1⟩ ⟨hr1a, hr1b, hr1c⟩
  dsimp only at hr1a hr1b hr1c
  subst y1
  subst yw1
  subst yv1
  refine rPieces (L' := [OwnR ndK 76 2 ay1 ny1 cy1 Hy1 ((((Math.betAt 1 1 0).1))), OwnR maK 22 2 ayw1 nyw1 cyw1 Hyw1 (Math.hcW 3 false 3), OwnR maK 22 2 ayv1 nyv1 cyv1 Hyv1 (Math.hcV 3 3)]) (fun _ h => h) ?_
  refine rKnow (fun w hs => (show OwnR ndK 76 2 ay1 ny1 cy1 Hy1 ((((Math.betAt 1 1 0).1))) w from hs.at_ 0 rfl).1) (fun lenn1 => ?_)
  refine rKnow (fun w hs => (show OwnR maK 22 2 ayw1 nyw1 cyw1 Hyw1 (Math.hcW 3 false 3) w from hs.at_ 1 rfl).1) (fun lenn2 => ?_)
  refine rKnow (fun w hs => (show OwnR maK 22 2 ayv1 nyv1 cyv1 Hyv1 (Math.hcV 3 3) w from hs.at_ 2 rfl).1) (fun lenn3 => ?_)
  refine alc Try.zeroValue57 rfl trv1 rfl rfl (fun bka4 hbka4 => ?_)
  refine stAl (vs := [.slice ay1 ny1 cy1, .slice ayw1 nyw1 cyw1, .slice ayv1 nyv1 cyv1]) 0 rfl Try.sizeOf57 trv rfl rfl rfl rfl rfl (by simp [Value.oneCell']) rfl ?_
  refine rNil ?_
  refine qSeq rfl ?_
  refine hSeq ?_
  refine hReg (sl 0 (sl 1 (sl 2 sz))) (by kernel_rfl) ?_
  refine callS Try.call46 trv1 rfl rfl (fun w hs => impl_KuhnGame_c  w ) ?_
  rintro ⟨ay2, ny2, cy2, Hy2, y2, ayw2, nyw2, cyw2, Hyw2, yw2, ayv2, nyv2, cyv2, Hyv2, yv2⟩ ⟨hr2a, hr2b, hr2c⟩
  dsimp only at hr2a hr2b hr2c
  subst y2
  subst yw2
  subst yv2
  refine rPieces (L' := [OwnR ndK 76 2 ay2 ny2 cy2 Hy2 ((((Math.betAt 1 1 0).1))), OwnR maK 22 2 ayw2 nyw2 cyw2 Hyw2 (Math.hcW 3 false 3), OwnR maK 22 2 ayv2 nyv2 cyv2 Hyv2 (Math.hcV 3 3), blk bka4 57 [.slice ay1 ny1 cy1, .slice ayw1 nyw1 cyw1, .slice ayv1 nyv1 cyv1], OwnR ndK 76 2 ay1 ny1 cy1 Hy1 ((((Math.betAt 1 1 0).1))), OwnR maK 22 2 ayw1 nyw1 cyw1 Hyw1 (Math.hcW 3 false 3), OwnR maK 22 2 ayv1 nyv1 cyv1 Hyv1 (Math.hcV 3 3)]) (fun _ h => h) ?_
  refine rKnow (fun w hs => (show OwnR ndK 76 2 ay2 ny2 cy2 Hy2 ((((Math.betAt 1 1 0).1))) w from hs.at_ 0 rfl).1) (fun lenn5 => ?_)
  refine rKnow (fun w hs => (show OwnR maK 22 2 ayw2 nyw2 cyw2 Hyw2 (Math.hcW 3 false 3) w from hs.at_ 1 rfl).1) (fun lenn6 => ?_)
  refine rKnow (fun w hs => (show OwnR maK 22 2 ayv2 nyv2 cyv2 Hyv2 (Math.hcV 3 3) w from hs.at_ 2 rfl).1) (fun lenn7 => ?_)
  refine alc Try.zeroValue57 rfl trv1 rfl rfl (fun bka8 hbka8 => ?_)
  refine stAl (vs := [.slice ay2 ny2 cy2, .slice ayw2 nyw2 cyw2, .slice ayv2 nyv2 cyv2]) 0 rfl Try.sizeOf57 trv rfl rfl rfl rfl rfl (by simp [Value.oneCell']) rfl ?_
  refine rNil ?_
  refine qSeq rfl ?_
  refine hSeq ?_
  refine hSeq ?_
  refine hReg (sl 0 (sl 1 (sl 2 (sq 3 sz)))) (by kernel_rfl) ?_
  refine ldAl Try.isAgg57 Try.sizeOf57 (cBs 0 rfl) trv rfl rfl rfl rfl ?_
  refine ldAl Try.isAgg57 Try.sizeOf57 (cBs 4 rfl) trv rfl rfl rfl rfl ?_
  refine callP (v := .bool true) Try.call44 trv rfl rfl (fun w hs => laws_eqGame_c _ ny2 cy2 _ _ _ nyw2 cyw2 _ _ _ nyv2 cyv2 _ _ _ ny1 cy1 _ _ _ nyw1 cyw1 _ _ _ nyv1 cyv1 _ _ w (OwnR.rd (hs.at_ 1 rfl) ndK.ok) (OwnR.rd (hs.at_ 2 rfl) maK.ok) (OwnR.rd (hs.at_ 3 rfl) maK.ok) (OwnR.rd (hs.at_ 5 rfl) ndK.ok) (OwnR.rd (hs.at_ 6 rfl) maK.ok) (OwnR.rd (hs.at_ 7 rfl) maK.ok) (by exact ⟨rfl, rfl, rfl⟩)) ?_
  refine not rfl rfl rfl ?_
  refine rNil ?_
  refine qSeq rfl ?_
  refine hIfF rfl ?_
  refine hSkip ?_
  refine qSeq rfl ?_
  refine hSeq ?_
  refine hReg (sq 0 sz) (by kernel_rfl) ?_
  refine asI rfl rfl rfl ?_
  refine rNil ?_
  refine qSeq rfl ?_
  refine hSeq ?_
  refine hReg (sl 0 (sq 1 (sl 2 (sq 3 sz)))) (by kernel_rfl) ?_
  refine ldAl Try.isAgg57 Try.sizeOf57 (cBs 0 rfl) trv rfl rfl rfl rfl ?_
  refine mvI rfl rfl rfl ?_
  refine rPieces (L' := [OwnR maK 22 2 ayv2 nyv2 cyv2 Hyv2 (Math.hcV 3 3), blk bka8 57 [.slice ay2 ny2 cy2, .slice ayw2 nyw2 cyw2, .slice ayv2 nyv2 cyv2], OwnR ndK 76 2 ay2 ny2 cy2 Hy2 ((((Math.betAt 1 1 0).1))), OwnR maK 22 2 ayw2 nyw2 cyw2 Hyw2 (Math.hcW 3 false 3), blk bka4 57 [.slice ay1 ny1 cy1, .slice ayw1 nyw1 cyw1, .slice ayv1 nyv1 cyv1], OwnR ndK 76 2 ay1 ny1 cy1 Hy1 ((((Math.betAt 1 1 0).1))), OwnR maK 22 2 ayw1 nyw1 cyw1 Hyw1 (Math.hcW 3 false 3), OwnR maK 22 2 ayv1 nyv1 cyv1 Hyv1 (Math.hcV 3 3)]) (fun _ h => h.perm (pull (i := 3) rfl)) ?_
  refine rPieces (L' := [OwnR maK 22 2 ayw2 nyw2 cyw2 Hyw2 (Math.hcW 3 false 3), OwnR maK 22 2 ayv2 nyv2 cyv2 Hyv2 (Math.hcV 3 3), blk bka8 57 [.slice ay2 ny2 cy2, .slice ayw2 nyw2 cyw2, .slice ayv2 nyv2 cyv2], OwnR ndK 76 2 ay2 ny2 cy2 Hy2 ((((Math.betAt 1 1 0).1))), blk bka4 57 [.slice ay1 ny1 cy1, .slice ayw1 nyw1 cyw1, .slice ayv1 nyv1 cyv1], OwnR ndK 76 2 ay1 ny1 cy1 Hy1 ((((Math.betAt 1 1 0).1))), OwnR maK 22 2 ayw1 nyw1 cyw1 Hyw1 (Math.hcW 3 false 3), OwnR maK 22 2 ayv1 nyv1 cyv1 Hyv1 (Math.hcV 3 3)]) (fun _ h => h.perm (pull (i := 3) rfl)) ?_
  refine rPieces (L' := [OwnR ndK 76 2 ay2 ny2 cy2 Hy2 ((((Math.betAt 1 1 0).1))), OwnR maK 22 2 ayw2 nyw2 cyw2 Hyw2 (Math.hcW 3 false 3), OwnR maK 22 2 ayv2 nyv2 cyv2 Hyv2 (Math.hcV 3 3), blk bka8 57 [.slice ay2 ny2 cy2, .slice ayw2 nyw2 cyw2, .slice ayv2 nyv2 cyv2], blk bka4 57 [.slice ay1 ny1 cy1, .slice ayw1 nyw1 cyw1, .slice ayv1 nyv1 cyv1], OwnR ndK 76 2 ay1 ny1 cy1 Hy1 ((((Math.betAt 1 1 0).1))), OwnR maK 22 2 ayw1 nyw1 cyw1 Hyw1 (Math.hcW 3 false 3), OwnR maK 22 2 ayv1 nyv1 cyv1 Hyv1 (Math.hcV 3 3)]) (fun _ h => h.perm (pull (i := 3) rfl)) ?_
  refine callM (Lf := [OwnR ndK 76 2 ay2 ny2 cy2 Hy2 ((((Math.betAt 1 1 0).1))), OwnR maK 22 2 ayw2 nyw2 cyw2 Hyw2 (Math.hcW 3 false 3), OwnR maK 22 2 ayv2 nyv2 cyv2 Hyv2 (Math.hcV 3 3)]) (Lr := [blk bka8 57 [.slice ay2 ny2 cy2, .slice ayw2 nyw2 cyw2, .slice ayv2 nyv2 cyv2], blk bka4 57 [.slice ay1 ny1 cy1, .slice ayw1 nyw1 cyw1, .slice ayv1 nyv1 cyv1], OwnR ndK 76 2 ay1 ny1 cy1 Hy1 ((((Math.betAt 1 1 0).1))), OwnR maK 22 2 ayw1 nyw1 cyw1 Hyw1 (Math.hcW 3 false 3), OwnR maK 22 2 ayv1 nyv1 cyv1 Hyv1 (Math.hcV 3 3)]) (φs := fun _ => [OwnR ndK 76 2 ay2 ny2 cy2 Hy2 ((Math.marksN (1 : Int) ((((Math.betAt 1 1 0).1))))), OwnR maK 22 2 ayw2 nyw2 cyw2 Hyw2 ((Math.marksM ((1 : Int) + (Math.sumK Math.f4 ((((Math.betAt 1 1 0).1))) : Int)) (Math.hcW 3 false 3))), OwnR maK 22 2 ayv2 nyv2 cyv2 Hyv2 ((Math.marksM (((1 : Int) + (Math.sumK Math.f4 ((((Math.betAt 1 1 0).1))) : Int)) + (Math.sumK Math.rwl (Math.hcW 3 false 3) : Int)) (Math.hcV 3 3)))]) (val := fun _ => .int .i64 (((((1 : Int) + (Math.sumK Math.f4 ((((Math.betAt 1 1 0).1))) : Int)) + (Math.sumK Math.rwl (Math.hcW 3 false 3) : Int)) + (Math.sumK Math.rwl (Math.hcV 3 3) : Int)))) rfl Try.call47 trv1 rfl rfl (fun w M0 hs => laws_markGame_c ay2 ny2 cy2 Hy2 ((((Math.betAt 1 1 0).1))) ayw2 nyw2 cyw2 Hyw2 (Math.hcW 3 false 3) ayv2 nyv2 cyv2 Hyv2 (Math.hcV 3 3) (1 : Int) w M0 hs (by omega)) ?_
  rintro _ -
  refine rPieces (L' := [OwnR ndK 76 2 ay2 ny2 cy2 Hy2 ((Math.marksN (1 : Int) ((((Math.betAt 1 1 0).1))))), OwnR maK 22 2 ayw2 nyw2 cyw2 Hyw2 ((Math.marksM ((1 : Int) + (Math.sumK Math.f4 ((((Math.betAt 1 1 0).1))) : Int)) (Math.hcW 3 false 3))), OwnR maK 22 2 ayv2 nyv2 cyv2 Hyv2 ((Math.marksM (((1 : Int) + (Math.sumK Math.f4 ((((Math.betAt 1 1 0).1))) : Int)) + (Math.sumK Math.rwl (Math.hcW 3 false 3) : Int)) (Math.hcV 3 3))), blk bka8 57 [.slice ay2 ny2 cy2, .slice ayw2 nyw2 cyw2, .slice ayv2 nyv2 cyv2], blk bka4 57 [.slice ay1 ny1 cy1, .slice ayw1 nyw1 cyw1, .slice ayv1 nyv1 cyv1], OwnR ndK 76 2 ay1 ny1 cy1 Hy1 ((((Math.betAt 1 1 0).1))), OwnR maK 22 2 ayw1 nyw1 cyw1 Hyw1 (Math.hcW 3 false 3), OwnR maK 22 2 ayv1 nyv1 cyv1 Hyv1 (Math.hcV 3 3)]) (fun _ h => h) ?_
  refine asI rfl rfl rfl ?_
  refine rNil ?_
  refine qSeq rfl ?_
  refine hSeq ?_
  refine hReg (sq 0 sz) (by kernel_rfl) ?_
  refine asI rfl rfl rfl ?_
  refine rNil ?_
  refine qSeq rfl ?_
  refine hSeq ?_
  refine hReg (sl 0 (sq 1 (sl 2 (sq 3 sz)))) (by kernel_rfl) ?_
  refine ldAl Try.isAgg57 Try.sizeOf57 (cBs 3 rfl) trv rfl rfl rfl rfl ?_
  refine mvI rfl rfl rfl ?_
  refine callP (v := .int .i64 (((((1 : Int) + (Math.sumK Math.f4 (((((Math.betAt 1 1 0).1)))) : Int)) + (Math.sumK Math.rwl (Math.hcW 3 false 3) : Int)) + (Math.sumK Math.rwl (Math.hcV 3 3) : Int)))) Try.call48 trv rfl rfl (fun w hs => laws_heldGame_c _ ny2 cy2 _ _ _ nyw2 cyw2 _ _ _ nyv2 cyv2 _ _ _ _ _ _ w (OwnR.rd (hs.at_ 0 rfl) ndK.ok) (OwnR.rd (hs.at_ 1 rfl) maK.ok) (OwnR.rd (hs.at_ 2 rfl) maK.ok) (by omega) (by first | rfl | assumption) (by first | rfl | assumption) (by first | rfl | assumption)) ?_
  refine asI rfl rfl rfl ?_
  refine rNil ?_
  refine qSeq rfl ?_
  refine hSeq ?_
  refine hSeq ?_
  refine hReg (sq 0 (sq 1 sz)) (by kernel_rfl) ?_
  refine mvI rfl rfl rfl ?_
  refine lss rfl rfl rfl rfl ?_
  refine rNil ?_
  refine qSeq rfl ?_
  refine hIfD rfl (fun c1 => ?_) (fun c1 => ?_)
  · -- c1T
    replace c1 : ((((1 : Int) + (Math.sumK Math.f4 (((((Math.betAt 1 1 0).1)))) : Int)) + (Math.sumK Math.rwl (Math.hcW 3 false 3) : Int)) + (Math.sumK Math.rwl (Math.hcV 3 3) : Int)) < 0 := c1
    refine hSeq ?_
    refine hReg (sq 0 sz) (by kernel_rfl) ?_
    refine asB rfl rfl rfl ?_
    refine rNil ?_
    refine qSeq rfl ?_
    refine hRet ?_
    exact fun w hs => ⟨[.bool false], ⟨rfl, trivial⟩, ⟨by exfalso; omega, hs.upd⟩⟩
  · -- c1F
    replace c1 : ¬ (((((1 : Int) + (Math.sumK Math.f4 (((((Math.betAt 1 1 0).1)))) : Int)) + (Math.sumK Math.rwl (Math.hcW 3 false 3) : Int)) + (Math.sumK Math.rwl (Math.hcV 3 3) : Int)) < 0) := c1
    refine hSkip ?_
    refine qSeq rfl ?_
    refine hSeq ?_
    refine hSeq ?_
    refine hReg (sq 0 (sq 1 (sq 2 sz))) (by kernel_rfl) ?_
    refine mvI rfl rfl rfl ?_
    refine mvI rfl rfl rfl ?_
    refine neq rfl rfl rfl rfl ?_
    refine rNil ?_
    refine qSeq rfl ?_
    refine hIfD rfl (fun c2 => ?_) (fun c2 => ?_)
    · -- c2T
      replace c2 : ((((1 : Int) + (Math.sumK Math.f4 (((((Math.betAt 1 1 0).1)))) : Int)) + (Math.sumK Math.rwl (Math.hcW 3 false 3) : Int)) + (Math.sumK Math.rwl (Math.hcV 3 3) : Int)) ≠ ((((1 : Int) + (Math.sumK Math.f4 ((((Math.betAt 1 1 0).1))) : Int)) + (Math.sumK Math.rwl (Math.hcW 3 false 3) : Int)) + (Math.sumK Math.rwl (Math.hcV 3 3) : Int)) := c2
      refine hSeq ?_
      refine hReg (sq 0 sz) (by kernel_rfl) ?_
      refine asB rfl rfl rfl ?_
      refine rNil ?_
      refine qSeq rfl ?_
      refine hRet ?_
      exact fun w hs => ⟨[.bool false], ⟨rfl, trivial⟩, ⟨by exfalso; omega, hs.upd⟩⟩
    · -- c2F
      replace c2 : ¬ (((((1 : Int) + (Math.sumK Math.f4 (((((Math.betAt 1 1 0).1)))) : Int)) + (Math.sumK Math.rwl (Math.hcW 3 false 3) : Int)) + (Math.sumK Math.rwl (Math.hcV 3 3) : Int)) ≠ ((((1 : Int) + (Math.sumK Math.f4 ((((Math.betAt 1 1 0).1))) : Int)) + (Math.sumK Math.rwl (Math.hcW 3 false 3) : Int)) + (Math.sumK Math.rwl (Math.hcV 3 3) : Int))) := c2
      refine hSkip ?_
      refine qSeq rfl ?_
      refine hSeq ?_
      refine hReg (sl 0 (sl 1 (sl 2 sz))) (by kernel_rfl) ?_
      refine callS Try.call46 trv1 rfl rfl (fun w hs => impl_KuhnGame_c  w ) ?_
      rintro ⟨ay3, ny3, cy3, Hy3, y3, ayw3, nyw3, cyw3, Hyw3, yw3, ayv3, nyv3, cyv3, Hyv3, yv3⟩ ⟨hr3a, hr3b, hr3c⟩
      dsimp only at hr3a hr3b hr3c
      subst y3
      subst yw3
      subst yv3
      refine rPieces (L' := [OwnR ndK 76 2 ay3 ny3 cy3 Hy3 ((((Math.betAt 1 1 0).1))), OwnR maK 22 2 ayw3 nyw3 cyw3 Hyw3 (Math.hcW 3 false 3), OwnR maK 22 2 ayv3 nyv3 cyv3 Hyv3 (Math.hcV 3 3), OwnR ndK 76 2 ay2 ny2 cy2 Hy2 ((Math.marksN (1 : Int) ((((Math.betAt 1 1 0).1))))), OwnR maK 22 2 ayw2 nyw2 cyw2 Hyw2 ((Math.marksM ((1 : Int) + (Math.sumK Math.f4 ((((Math.betAt 1 1 0).1))) : Int)) (Math.hcW 3 false 3))), OwnR maK 22 2 ayv2 nyv2 cyv2 Hyv2 ((Math.marksM (((1 : Int) + (Math.sumK Math.f4 ((((Math.betAt 1 1 0).1))) : Int)) + (Math.sumK Math.rwl (Math.hcW 3 false 3) : Int)) (Math.hcV 3 3))), blk bka8 57 [.slice ay2 ny2 cy2, .slice ayw2 nyw2 cyw2, .slice ayv2 nyv2 cyv2], blk bka4 57 [.slice ay1 ny1 cy1, .slice ayw1 nyw1 cyw1, .slice ayv1 nyv1 cyv1], OwnR ndK 76 2 ay1 ny1 cy1 Hy1 ((((Math.betAt 1 1 0).1))), OwnR maK 22 2 ayw1 nyw1 cyw1 Hyw1 (Math.hcW 3 false 3), OwnR maK 22 2 ayv1 nyv1 cyv1 Hyv1 (Math.hcV 3 3)]) (fun _ h => h) ?_
      refine rKnow (fun w hs => (show OwnR ndK 76 2 ay3 ny3 cy3 Hy3 ((((Math.betAt 1 1 0).1))) w from hs.at_ 0 rfl).1) (fun lenn9 => ?_)
      refine rKnow (fun w hs => (show OwnR maK 22 2 ayw3 nyw3 cyw3 Hyw3 (Math.hcW 3 false 3) w from hs.at_ 1 rfl).1) (fun lenn10 => ?_)
      refine rKnow (fun w hs => (show OwnR maK 22 2 ayv3 nyv3 cyv3 Hyv3 (Math.hcV 3 3) w from hs.at_ 2 rfl).1) (fun lenn11 => ?_)
      refine alc Try.zeroValue57 rfl trv1 rfl rfl (fun bka12 hbka12 => ?_)
      refine stAl (vs := [.slice ay3 ny3 cy3, .slice ayw3 nyw3 cyw3, .slice ayv3 nyv3 cyv3]) 0 rfl Try.sizeOf57 trv rfl rfl rfl rfl rfl (by simp [Value.oneCell']) rfl ?_
      refine rNil ?_
      refine qSeq rfl ?_
      refine hSeq ?_
      refine hSeq ?_
      refine hReg (sl 0 (sl 1 (sl 2 (sq 3 sz)))) (by kernel_rfl) ?_
      refine ldAl Try.isAgg57 Try.sizeOf57 (cBs 0 rfl) trv rfl rfl rfl rfl ?_
      refine ldAl Try.isAgg57 Try.sizeOf57 (cBs 8 rfl) trv rfl rfl rfl rfl ?_
      refine callP (v := .bool true) Try.call44 trv rfl rfl (fun w hs => laws_eqGame_c _ ny3 cy3 _ _ _ nyw3 cyw3 _ _ _ nyv3 cyv3 _ _ _ ny1 cy1 _ _ _ nyw1 cyw1 _ _ _ nyv1 cyv1 _ _ w (OwnR.rd (hs.at_ 1 rfl) ndK.ok) (OwnR.rd (hs.at_ 2 rfl) maK.ok) (OwnR.rd (hs.at_ 3 rfl) maK.ok) (OwnR.rd (hs.at_ 9 rfl) ndK.ok) (OwnR.rd (hs.at_ 10 rfl) maK.ok) (OwnR.rd (hs.at_ 11 rfl) maK.ok) (by exact ⟨rfl, rfl, rfl⟩)) ?_
      refine not rfl rfl rfl ?_
      refine rNil ?_
      refine qSeq rfl ?_
      refine hIfF rfl ?_
      refine hSkip ?_
      refine qSeq rfl ?_
      refine hSeq ?_
      refine hReg (sq 0 sz) (by kernel_rfl) ?_
      refine asI rfl rfl rfl ?_
      refine rNil ?_
      refine qSeq rfl ?_
      refine hSeq ?_
      refine hReg (sl 0 (sq 1 (sl 2 (sq 3 sz)))) (by kernel_rfl) ?_
      refine ldAl Try.isAgg57 Try.sizeOf57 (cBs 7 rfl) trv rfl rfl rfl rfl ?_
      refine mvI rfl rfl rfl ?_
      refine callP (v := .int .i64 (((((1 : Int) + (Math.sumK Math.f4 (((((Math.betAt 1 1 0).1)))) : Int)) + (Math.sumK Math.rwl (Math.hcW 3 false 3) : Int)) + (Math.sumK Math.rwl (Math.hcV 3 3) : Int)))) Try.call48 trv rfl rfl (fun w hs => laws_heldGame_c _ ny2 cy2 _ _ _ nyw2 cyw2 _ _ _ nyv2 cyv2 _ _ _ _ _ _ w (OwnR.rd (hs.at_ 4 rfl) ndK.ok) (OwnR.rd (hs.at_ 5 rfl) maK.ok) (OwnR.rd (hs.at_ 6 rfl) maK.ok) (by omega) (by first | rfl | assumption) (by first | rfl | assumption) (by first | rfl | assumption)) ?_
      refine asI rfl rfl rfl ?_
      refine rNil ?_
      refine qSeq rfl ?_
      refine hSeq ?_
      refine hSeq ?_
      refine hReg (sq 0 (sq 1 sz)) (by kernel_rfl) ?_
      refine mvI rfl rfl rfl ?_
      refine lss rfl rfl rfl rfl ?_
      refine rNil ?_
      refine qSeq rfl ?_
      refine hIfD rfl (fun c3 => ?_) (fun c3 => ?_)
      · -- c3T
        replace c3 : ((((1 : Int) + (Math.sumK Math.f4 (((((Math.betAt 1 1 0).1)))) : Int)) + (Math.sumK Math.rwl (Math.hcW 3 false 3) : Int)) + (Math.sumK Math.rwl (Math.hcV 3 3) : Int)) < 0 := c3
        refine hSeq ?_
        refine hReg (sq 0 sz) (by kernel_rfl) ?_
        refine asB rfl rfl rfl ?_
        refine rNil ?_
        refine qSeq rfl ?_
        refine hRet ?_
        exact fun w hs => ⟨[.bool false], ⟨rfl, trivial⟩, ⟨by exfalso; omega, hs.upd⟩⟩
      · -- c3F
        replace c3 : ¬ (((((1 : Int) + (Math.sumK Math.f4 (((((Math.betAt 1 1 0).1)))) : Int)) + (Math.sumK Math.rwl (Math.hcW 3 false 3) : Int)) + (Math.sumK Math.rwl (Math.hcV 3 3) : Int)) < 0) := c3
        refine hSkip ?_
        refine qSeq rfl ?_
        refine hSeq ?_
        refine hSeq ?_
        refine hReg (sq 0 (sq 1 (sq 2 sz))) (by kernel_rfl) ?_
        refine mvI rfl rfl rfl ?_
        refine mvI rfl rfl rfl ?_
        refine neq rfl rfl rfl rfl ?_
        refine rNil ?_
        refine qSeq rfl ?_
        refine hIfD rfl (fun c4 => ?_) (fun c4 => ?_)
        · -- c4T
          replace c4 : ((((1 : Int) + (Math.sumK Math.f4 (((((Math.betAt 1 1 0).1)))) : Int)) + (Math.sumK Math.rwl (Math.hcW 3 false 3) : Int)) + (Math.sumK Math.rwl (Math.hcV 3 3) : Int)) ≠ ((((1 : Int) + (Math.sumK Math.f4 ((((Math.betAt 1 1 0).1))) : Int)) + (Math.sumK Math.rwl (Math.hcW 3 false 3) : Int)) + (Math.sumK Math.rwl (Math.hcV 3 3) : Int)) := c4
          refine hSeq ?_
          refine hReg (sq 0 sz) (by kernel_rfl) ?_
          refine asB rfl rfl rfl ?_
          refine rNil ?_
          refine qSeq rfl ?_
          refine hRet ?_
          exact fun w hs => ⟨[.bool false], ⟨rfl, trivial⟩, ⟨by exfalso; omega, hs.upd⟩⟩
        · -- c4F
          replace c4 : ¬ (((((1 : Int) + (Math.sumK Math.f4 (((((Math.betAt 1 1 0).1)))) : Int)) + (Math.sumK Math.rwl (Math.hcW 3 false 3) : Int)) + (Math.sumK Math.rwl (Math.hcV 3 3) : Int)) ≠ ((((1 : Int) + (Math.sumK Math.f4 ((((Math.betAt 1 1 0).1))) : Int)) + (Math.sumK Math.rwl (Math.hcW 3 false 3) : Int)) + (Math.sumK Math.rwl (Math.hcV 3 3) : Int))) := c4
          refine hSkip ?_
          refine qSeq rfl ?_
          refine hSeq ?_
          refine hReg (sq 0 sz) (by kernel_rfl) ?_
          refine asB rfl rfl rfl ?_
          refine rNil ?_
          refine qSeq rfl ?_
          refine hRet ?_
          exact fun w hs => ⟨[.bool true], ⟨rfl, trivial⟩, ⟨by first | rfl | exact bD (by omega) | exact bT (by omega) | exact bF (by omega) | exact vI (by omega), hs.upd⟩⟩

set_option maxHeartbeats 2000000 in
theorem fnExactKuhnGame_lifted (os : Os) (started : os.Started) (H : Type) (enc : TypeId × Value → H) :
    ReturnsInHanded {} Try.checked os 12 .any (Rows.fnExactKuhnGameSpec.pre6 enc Try.prog Try.f12 Rows.fnExactKuhnGameRow.domain false) (Rows.fnExactKuhnGameSpec.post enc Try.prog Try.f12 false true false false) := by
  refine returnsInHanded_of_change (C := Try.checked) own started (by kernel_rfl) Try.func12
    (ChangeSpec.witness6 (enc := enc) (C := Try.checked) false ⟨#[], #[], []⟩ 8 (by kernel_rfl) (by kernel_rfl) (by kernel_rfl) (by kernel_rfl)) ?_
  intro W base args ds gs before hval0 hW hcnd _
  have hval : ∀ (j : Nat) t v, Try.f12.params[j]? = some t → args[j]? = some v → Value.okWide Try.prog W .any base t v := hval0
  have hW' := hW
  obtain ⟨p, q, hA0, hV, rfl, hfz, hnd⟩ := hW
  have hA : DataW.TrodAll enc Try.prog W 0 (fun _ => true) true Try.f12.params.toList args.toList ds p := hA0
  rw [Try.params12] at hA hval
  obtain ⟨ha0, rfl, rfl⟩ := trodAll_nil hA
  obtain rfl : args = #[] := by cases args; simp_all
  obtain ⟨rfl, rfl⟩ := trodVars_none hV
  refine (laws_FnExactKuhnGame_c  W ).mono fun e W' ⟨v, he, hv, hx⟩ => ?_
  subst he; subst hv
  exact ⟨_, rfl, law_post (tb := 4) hW' rfl rfl Try.underlying4 rfl rfl rfl (by kernel_rfl) hx⟩
theorem fnExactKuhnGame_holds : Rows.FnExactKuhnGameSaid :=
  OpenClaim.holds_of_wide 12 Try.f12 rfl rfl rfl rfl rfl rfl rfl ⟨rfl, rfl, rfl, rfl, rfl⟩ rfl rfl rfl rfl rfl (by kernel_rfl) Try.func12 (by kernel_rfl)
    (of_decide_eq_true (by kernel_rfl)) (by unfold Func.isWrapper; first | (rw [if_pos (by decide +kernel)]; kernel_rfl) | (rw [if_neg (by decide +kernel)]; exact ⟨rfl, rfl⟩))
    (fun os started H enc _ => fnExactKuhnGame_lifted os started H enc)
#print axioms fnExactKuhnGame_holds

end Go.Proofs.Ytjbdddfjaognfaa
