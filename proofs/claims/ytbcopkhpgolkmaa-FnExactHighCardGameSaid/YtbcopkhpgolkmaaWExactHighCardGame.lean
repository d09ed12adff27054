/- The law FnExactHighCardGame returns true for all arguments. No condition. -/
import Derived.Test.YtbcopkhpgolkmaaEngC
import Derived.Test.YtbcopkhpgolkmaaFrame
import Derived.Test.YtbcopkhpgolkmaaFrm
import Derived.Test.YtbcopkhpgolkmaaTree
import Derived.Test.YtbcopkhpgolkmaaL1
import Derived.Test.YtbcopkhpgolkmaaL2
import Derived.Test.YtbcopkhpgolkmaaL2m
import Derived.Test.YtbcopkhpgolkmaaL3
import Derived.Test.YtbcopkhpgolkmaaGame
import Derived.Test.YtbcopkhpgolkmaaSets
import Derived.Test.YtbcopkhpgolkmaaHigh
import Derived.Test.YtbcopkhpgolkmaaLC
import Derived.Test.YtbcopkhpgolkmaaLH
import Derived.Test.YtbcopkhpgolkmaaOpn
import Derived.Test.YtbcopkhpgolkmaaRows
namespace Go.Proofs.Ytbcopkhpgolkmaa
open Go Go.RowKit V Go.ChangeShapes Go.WideShapes Go.ChangeAt
set_option linter.unusedVariables false
set_option linter.unusedSimpArgs false
set_option maxRecDepth 100000



theorem laws_FnExactHighCardGame_c (az : Option Addr) (nz : Nat) (cz : Nat) (Hz : Nat → Hd) (z : List Nd) (kk : Int) (ag : Bool) (w : World) (rz : RdR ndK az nz Hz z w) :
    Calls Try.prog 8 #[.agg #[.slice az nz cz], .int .i64 kk, .bool ag] w (Ret fun v w' => v = .bool true ∧ Ext w w') := by
  have kz : Kn w none_ [] (RdR ndK az nz Hz z) := fun w' hs => rz.ext hs.upd
  have lz : z.length = nz := rz.1
  have mz : nz ≤ 9223372036854775807 := rz.2.1
  refine fn (M := none_) (rs := [.tmp 6]) Try.func8 rfl Try.ntmps8 rfl rfl (Sep.start _ _) ?_
  refine hSeq ?_
  refine hReg (sl 0 (sq 1 sz)) (by kernel_rfl) ?_
  refine box trv1 rfl rfl rfl rfl (fun bkb1 hbkb1 => ?_)
  refine asB rfl rfl rfl ?_
  refine rNil ?_
  refine qSeq rfl ?_
  refine hSeq ?_
  refine hReg (sq 0 sz) (by kernel_rfl) ?_
  refine asI rfl rfl rfl ?_
  refine rNil ?_
  refine qSeq rfl ?_
  refine hSeq ?_
  refine hReg (sl 0 (sq 1 (sl 2 (sq 3 sz)))) (by kernel_rfl) ?_
  refine ldAl Try.isAgg24 Try.sizeOf24 (cBs 0 rfl) trv rfl rfl rfl rfl ?_
  refine mvI rfl rfl rfl ?_
  refine callP (v := .int .i64 ((Math.cut (1048576 : Int) (Math.szK Math.chl z : Int)))) Try.call36 trv rfl rfl (fun w hs => laws_szTree_c _ nz cz _ _ _ w (Kn.drop (k := 1) kz w hs) (by omega)) ?_
  refine asI rfl rfl rfl ?_
  refine rNil ?_
  refine qSeq rfl ?_
  refine hSeq ?_
  refine hSeq ?_
  refine hReg (sq 0 (sq 1 sz)) (by kernel_rfl) ?_
  refine mvI rfl rfl rfl ?_
  refine lss rfl rfl rfl rfl ?_
  refine rNil ?_
  refine qSeq rfl ?_
  refine hIfD rfl (fun c1 => ?_) (fun c1 => ?_)
  · -- c1T
    replace c1 : (Math.cut (1048576 : Int) (Math.szK Math.chl z : Int)) < 0 := c1
    refine hSeq ?_
    refine hReg (sq 0 sz) (by kernel_rfl) ?_
    refine asB rfl rfl rfl ?_
    refine rNil ?_
    refine qSeq rfl ?_
    refine hRet ?_
    exact fun w hs => ⟨[.bool true], ⟨rfl, trivial⟩, ⟨by first | rfl | exact bD (by omega) | exact bT (by omega) | exact bF (by omega) | exact vI (by omega), hs.upd⟩⟩
  · -- c1F
    replace c1 : ¬ ((Math.cut (1048576 : Int) (Math.szK Math.chl z : Int)) < 0) := c1
    have hb : Math.szK Math.chl z ≤ 1048576 := by have := Math.cut_pos c1; omega
    have hf4 := Math.sumK_f4 z
    have hsz : Math.szK Math.chl z = z.length + Math.sumK Math.chl z := rfl
    have hbd := Math.highAt_bd z kk ag
    refine hSkip ?_
    refine qSeq rfl ?_
    refine hSeq ?_
    refine hReg (sl 0 (sl 1 (sq 2 (sq 3 (sl 4 (sq 5 (sq 6 (sq 7 (sl 8 (sl 9 (sq 10 sz))))))))))) (by kernel_rfl) ?_
    refine ldAl Try.isAgg24 Try.sizeOf24 (cBs 0 rfl) trv rfl rfl rfl rfl ?_
    refine callS Try.call38 trv1 rfl rfl (fun w hs => laws_toTree_c _ nz cz _ _ w (Kn.drop (k := 1) kz w hs) (by first | assumption | omega)) ?_
    rintro ⟨ay1, ny1, cy1, Hy1, y1⟩ hr1
    dsimp only at hr1
    subst y1
    refine rKnow (fun w hs => (show OwnR ndK 84 2 ay1 ny1 cy1 Hy1 z w from hs.at_ 0 rfl).1) (fun lenn2 => ?_)
    refine mvI rfl rfl rfl ?_
    refine mvB rfl rfl rfl ?_
    refine callS Try.call37 trv1 rfl rfl (fun w hs => spec_HighCardGame_c _ ny1 cy1 _ _ _ _ w (OwnR.rd (hs.at_ 0 rfl) ndK.ok)) ?_
    rintro ⟨ay2, ny2, cy2, Hy2, y2, ayw2, nyw2, cyw2, Hyw2, yw2, ayv2, nyv2, cyv2, Hyv2, yv2, q2⟩ ⟨hr2a, hr2b, hr2c, hr2d⟩
    dsimp only at hr2a hr2b hr2c hr2d
    subst y2
    subst yw2
    subst yv2
    subst q2
    refine rKnow (fun w hs => (show OwnR ndK 84 2 ay2 ny2 cy2 Hy2 ((((Math.highAt z kk ag).1.1))) w from hs.at_ 0 rfl).1) (fun lenn3 => ?_)
    refine rKnow (fun w hs => (show OwnR maK 82 2 ayw2 nyw2 cyw2 Hyw2 ((((Math.highAt z kk ag).1.2.1))) w from hs.at_ 1 rfl).1) (fun lenn4 => ?_)
    refine rKnow (fun w hs => (show OwnR maK 82 2 ayv2 nyv2 cyv2 Hyv2 ((((Math.highAt z kk ag).1.2.2))) w from hs.at_ 2 rfl).1) (fun lenn5 => ?_)
    refine mv rfl rfl rfl ?_
    refine ext rfl rfl rfl rfl ?_
    refine ext rfl rfl rfl rfl ?_
    refine alc Try.zeroValue35 rfl trv1 rfl rfl (fun bka6 hbka6 => ?_)
    refine stAl (vs := [.slice ay2 ny2 cy2, .slice ayw2 nyw2 cyw2, .slice ayv2 nyv2 cyv2]) 0 rfl Try.sizeOf35 trv rfl rfl rfl rfl rfl (by simp [Value.oneCell']) rfl ?_
    refine asI rfl rfl rfl ?_
    refine rNil ?_
    refine qSeq rfl ?_
    refine hSeq ?_
    refine hReg (sl 0 (sl 1 (sl 2 (sl 3 sz)))) (by kernel_rfl) ?_
    refine ldAl Try.isAgg24 Try.sizeOf24 (cBs 5 rfl) trv rfl rfl rfl rfl ?_
    refine callS Try.call38 trv1 rfl rfl (fun w hs => laws_toTree_c _ nz cz _ _ w (Kn.drop (k := 6) kz w hs) (by first | assumption | omega)) ?_
    rintro ⟨ay3, ny3, cy3, Hy3, y3⟩ hr3
    dsimp only at hr3
    subst y3
    refine rKnow (fun w hs => (show OwnR ndK 84 2 ay3 ny3 cy3 Hy3 z w from hs.at_ 0 rfl).1) (fun lenn7 => ?_)
    refine alc Try.zeroValue33 rfl trv1 rfl rfl (fun bka8 hbka8 => ?_)
    refine stAl (vs := [.slice ay3 ny3 cy3]) 0 rfl Try.sizeOf33 trv rfl rfl rfl rfl rfl (by simp [Value.oneCell']) rfl ?_
    refine rNil ?_
    refine qSeq rfl ?_
    refine hSeq ?_
    refine hReg (sl 0 (sq 1 (sq 2 (sl 3 (sq 4 (sq 5 (sq 6 (sl 7 (sl 8 (sq 9 sz)))))))))) (by kernel_rfl) ?_
    refine ldAl Try.isAgg33 Try.sizeOf33 (cBs 0 rfl) trv rfl rfl rfl rfl ?_
    refine mvI rfl rfl rfl ?_
    refine mvB rfl rfl rfl ?_
    refine callS Try.call39 trv1 rfl rfl (fun w hs => impl_HighCardGame_c _ ny3 cy3 _ _ _ _ w (OwnR.rd (hs.at_ 1 rfl) ndK.ok)) ?_
    rintro ⟨ay4, ny4, cy4, Hy4, y4, ayw4, nyw4, cyw4, Hyw4, yw4, ayv4, nyv4, cyv4, Hyv4, yv4, q4⟩ ⟨hr4a, hr4b, hr4c, hr4d⟩
    dsimp only at hr4a hr4b hr4c hr4d
    subst y4
    subst yw4
    subst yv4
    subst q4
    refine rKnow (fun w hs => (show OwnR ndK 84 2 ay4 ny4 cy4 Hy4 ((((Math.highAt z kk ag).1.1))) w from hs.at_ 0 rfl).1) (fun lenn9 => ?_)
    refine rKnow (fun w hs => (show OwnR maK 82 2 ayw4 nyw4 cyw4 Hyw4 ((((Math.highAt z kk ag).1.2.1))) w from hs.at_ 1 rfl).1) (fun lenn10 => ?_)
    refine rKnow (fun w hs => (show OwnR maK 82 2 ayv4 nyv4 cyv4 Hyv4 ((((Math.highAt z kk ag).1.2.2))) w from hs.at_ 2 rfl).1) (fun lenn11 => ?_)
    refine mv rfl rfl rfl ?_
    refine ext rfl rfl rfl rfl ?_
    refine ext rfl rfl rfl rfl ?_
    refine alc Try.zeroValue35 rfl trv1 rfl rfl (fun bka12 hbka12 => ?_)
    refine stAl (vs := [.slice ay4 ny4 cy4, .slice ayw4 nyw4 cyw4, .slice ayv4 nyv4 cyv4]) 0 rfl Try.sizeOf35 trv rfl rfl rfl rfl rfl (by simp [Value.oneCell']) rfl ?_
    refine asI rfl rfl rfl ?_
    refine rNil ?_
    refine qSeq rfl ?_
    refine hSeq ?_
    refine hSeq ?_
    refine hReg (sl 0 (sl 1 (sl 2 (sq 3 (sq 4 (sq 5 (sq 6 (sq 7 (sq 8 sz))))))))) (by kernel_rfl) ?_
    refine ldAl Try.isAgg35 Try.sizeOf35 (cBs 0 rfl) trv rfl rfl rfl rfl ?_
    refine ldAl Try.isAgg35 Try.sizeOf35 (cBs 6 rfl) trv rfl rfl rfl rfl ?_
    refine callP (v := .bool true) Try.call19 trv rfl rfl (fun w hs => laws_eqGame_c _ ny4 cy4 _ _ _ nyw4 cyw4 _ _ _ nyv4 cyv4 _ _ _ ny2 cy2 _ _ _ nyw2 cyw2 _ _ _ nyv2 cyv2 _ _ w (OwnR.rd (hs.at_ 1 rfl) ndK.ok) (OwnR.rd (hs.at_ 2 rfl) maK.ok) (OwnR.rd (hs.at_ 3 rfl) maK.ok) (OwnR.rd (hs.at_ 7 rfl) ndK.ok) (OwnR.rd (hs.at_ 8 rfl) maK.ok) (OwnR.rd (hs.at_ 9 rfl) maK.ok) (by exact ⟨rfl, rfl, rfl⟩)) ?_
    refine not rfl rfl rfl ?_
    refine mvB rfl rfl rfl ?_
    refine mvI rfl rfl rfl ?_
    refine mvI rfl rfl rfl ?_
    refine neq rfl rfl rfl rfl ?_
    refine pickB rfl rfl rfl rfl ?_
    refine rNil ?_
    refine qSeq rfl ?_
    refine hIfD rfl (fun c2 => ?_) (fun c2 => ?_)
    · -- c2T
      replace c2 : (((Math.highAt z kk ag).2)) ≠ (((Math.highAt z kk ag).2)) := c2
      exact absurd rfl c2
    · -- c2F
      replace c2 : ¬ ((((Math.highAt z kk ag).2)) ≠ (((Math.highAt z kk ag).2))) := c2
      refine hSkip ?_
      refine qSeq rfl ?_
      refine hSeq ?_
      refine hSeq ?_
      refine hDraw (Ls := [blk bka8 33 [.slice ay3 ny3 cy3], blk bkb1 24 [.slice az nz cz]]) (by kernel_rfl) (sq 0 (sq 1 (sl 2 (sl 3 (sq 4 sz))))) (by kernel_rfl) (.cons _ (.cons _ (.cons _ (.cons _ (.cons_cons _ (.cons _ (.cons _ (.cons _ (.cons _ (.cons _ (.cons _ (.cons_cons _ .slnil)))))))))))) ?_
      refine ldAq Try.isAgg33 Try.sizeOf33 (cBs 0 rfl) rfl rfl rfl rfl ?_
      refine ldAq Try.isAgg24 Try.sizeOf24 (cBs 1 rfl) rfl rfl rfl rfl ?_
      refine callS Try.call38 (by exact (fun _ _ h => h.pick [5, 11])) rfl rfl (fun w hs => laws_toTree_c _ nz cz _ _ w (Kn.drop (k := 12) kz w hs) (by first | assumption | omega)) ?_
      rintro ⟨ay5, ny5, cy5, Hy5, y5⟩ hr5
      dsimp only at hr5
      subst y5
      refine rKnow (fun w hs => (show OwnR ndK 84 2 ay5 ny5 cy5 Hy5 z w from hs.at_ 0 rfl).1) (fun lenn13 => ?_)
      refine callP (v := .bool true) Try.call40 (fun _ h => h.pick [5, 11]) rfl rfl (fun w hs => laws_eqTree_c _ ny3 cy3 _ _ _ ny5 cy5 _ _ w (OwnR.rd (hs.at_ 6 rfl) ndK.ok) (OwnR.rd (hs.at_ 0 rfl) ndK.ok) (by first | rfl | assumption | (rw [heq]) | (simp only [*]))) ?_
      refine not rfl rfl rfl ?_
      refine rNil ?_
      refine qSeq rfl ?_
      refine hIfF rfl ?_
      refine hSkip ?_
      refine qSeq rfl ?_
      refine hSeq ?_
      refine hReg (sq 0 sz) (by kernel_rfl) ?_
      refine asI rfl rfl rfl ?_
      refine rNil ?_
      refine qSeq rfl ?_
      refine hSeq ?_
      refine hReg (sl 0 (sq 1 (sl 2 (sq 3 sz)))) (by kernel_rfl) ?_
      refine ldAl Try.isAgg33 Try.sizeOf33 (cBs 5 rfl) trv rfl rfl rfl rfl ?_
      refine mvI rfl rfl rfl ?_
      refine rPieces (fun _ h => h.pick [6, 0, 0, 0, 0, 0, 0, 0, 0, 0, 0, 0, 0]) ?_
      refine callM (Lf := [OwnR ndK 84 2 ay3 ny3 cy3 Hy3 z]) (Lr := [OwnR ndK 84 2 ay5 ny5 cy5 Hy5 z, blk bka12 35 [.slice ay4 ny4 cy4, .slice ayw4 nyw4 cyw4, .slice ayv4 nyv4 cyv4], OwnR ndK 84 2 ay4 ny4 cy4 Hy4 ((((Math.highAt z kk ag).1.1))), OwnR maK 82 2 ayw4 nyw4 cyw4 Hyw4 ((((Math.highAt z kk ag).1.2.1))), OwnR maK 82 2 ayv4 nyv4 cyv4 Hyv4 ((((Math.highAt z kk ag).1.2.2))), blk bka8 33 [.slice ay3 ny3 cy3], blk bka6 35 [.slice ay2 ny2 cy2, .slice ayw2 nyw2 cyw2, .slice ayv2 nyv2 cyv2], OwnR ndK 84 2 ay2 ny2 cy2 Hy2 ((((Math.highAt z kk ag).1.1))), OwnR maK 82 2 ayw2 nyw2 cyw2 Hyw2 ((((Math.highAt z kk ag).1.2.1))), OwnR maK 82 2 ayv2 nyv2 cyv2 Hyv2 ((((Math.highAt z kk ag).1.2.2))), OwnR ndK 84 2 ay1 ny1 cy1 Hy1 z, blk bkb1 24 [.slice az nz cz]]) (φs := fun _ => [OwnR ndK 84 2 ay3 ny3 cy3 Hy3 ((Math.marksN (1 : Int) z))]) (val := fun _ => .int .i64 (((1 : Int) + (Math.sumK Math.f4 z : Int)))) rfl Try.call41 trv1 rfl rfl (fun w M0 hs => laws_markTree_c ay3 ny3 cy3 Hy3 z (1 : Int) w M0 hs (by omega)) ?_
      rintro _ -
      refine asI rfl rfl rfl ?_
      refine rNil ?_
      refine qSeq rfl ?_
      refine hSeq ?_
      refine hSeq ?_
      refine hReg (sq 0 (sq 1 (sq 2 (sl 3 (sl 4 (sl 5 (sq 6 (sq 7 (sq 8 (sq 9 (sq 10 (sq 11 (sq 12 sz))))))))))))) (by kernel_rfl) ?_
      refine mvI rfl rfl rfl ?_
      refine lss rfl rfl rfl rfl ?_
      refine mvB rfl rfl rfl ?_
      refine rBoolD (d := 59) rfl (fun g3 => ?_) (fun g3 => ?_)
      · -- g3T
        replace g3 : ((1 : Int) + (Math.sumK Math.f4 z : Int)) < 0 := g3
        refine rSkipL trv rfl rfl ?_
        refine rSkipL trv rfl rfl ?_
        refine rSkipL trv rfl rfl ?_
        refine rSkipQ rfl rfl ?_
        refine pickB rfl rfl rfl rfl ?_
        refine mvB rfl rfl rfl ?_
        refine rSkipQ rfl rfl ?_
        refine rSkipQ rfl rfl ?_
        refine rSkipQ rfl rfl ?_
        refine pickB rfl rfl rfl rfl ?_
        refine rNil ?_
        refine qSeq rfl ?_
        refine hIfT rfl ?_
        refine hSeq ?_
        refine hReg (sq 0 sz) (by kernel_rfl) ?_
        refine asB rfl rfl rfl ?_
        refine rNil ?_
        refine qSeq rfl ?_
        refine hRet ?_
        exact fun w hs => ⟨[.bool false], ⟨rfl, trivial⟩, ⟨by exfalso; omega, hs.upd⟩⟩
      · -- g3F
        replace g3 : ¬ (((1 : Int) + (Math.sumK Math.f4 z : Int)) < 0) := g3
        refine ldAl Try.isAgg35 Try.sizeOf35 (cBs 2 rfl) trv rfl rfl rfl rfl ?_
        refine ldAl Try.isAgg35 Try.sizeOf35 (cBs 7 rfl) trv rfl rfl rfl rfl ?_
        refine callP (v := .bool true) Try.call19 trv rfl rfl (fun w hs => laws_eqGame_c _ ny4 cy4 _ _ _ nyw4 cyw4 _ _ _ nyv4 cyv4 _ _ _ ny2 cy2 _ _ _ nyw2 cyw2 _ _ _ nyv2 cyv2 _ _ w (OwnR.rd (hs.at_ 3 rfl) ndK.ok) (OwnR.rd (hs.at_ 4 rfl) maK.ok) (OwnR.rd (hs.at_ 5 rfl) maK.ok) (OwnR.rd (hs.at_ 8 rfl) ndK.ok) (OwnR.rd (hs.at_ 9 rfl) maK.ok) (OwnR.rd (hs.at_ 10 rfl) maK.ok) (by exact ⟨rfl, rfl, rfl⟩)) ?_
        refine not rfl rfl rfl ?_
        refine pickB rfl rfl rfl rfl ?_
        refine mvB rfl rfl rfl ?_
        refine mvI rfl rfl rfl ?_
        refine mvI rfl rfl rfl ?_
        refine neq rfl rfl rfl rfl ?_
        refine pickB rfl rfl rfl rfl ?_
        refine rNil ?_
        refine qSeq rfl ?_
        refine hIfD rfl (fun c4 => ?_) (fun c4 => ?_)
        · -- c4T
          replace c4 : (((Math.highAt z kk ag).2)) ≠ (((Math.highAt z kk ag).2)) := c4
          exact absurd rfl c4
        · -- c4F
          replace c4 : ¬ ((((Math.highAt z kk ag).2)) ≠ (((Math.highAt z kk ag).2))) := c4
          refine hSkip ?_
          refine qSeq rfl ?_
          refine hSeq ?_
          refine hReg (sq 0 sz) (by kernel_rfl) ?_
          refine asI rfl rfl rfl ?_
          refine rNil ?_
          refine qSeq rfl ?_
          refine hSeq ?_
          refine hReg (sl 0 (sq 1 (sl 2 (sq 3 sz)))) (by kernel_rfl) ?_
          refine ldAl Try.isAgg35 Try.sizeOf35 (cBs 2 rfl) trv rfl rfl rfl rfl ?_
          refine mvI rfl rfl rfl ?_
          refine rPieces (fun _ h => h.pick [3, 3, 3, 0, 0, 0, 0, 0, 0, 0, 0, 0, 0]) ?_
          refine callM (Lf := [OwnR ndK 84 2 ay4 ny4 cy4 Hy4 ((((Math.highAt z kk ag).1.1))), OwnR maK 82 2 ayw4 nyw4 cyw4 Hyw4 ((((Math.highAt z kk ag).1.2.1))), OwnR maK 82 2 ayv4 nyv4 cyv4 Hyv4 ((((Math.highAt z kk ag).1.2.2)))]) (Lr := [OwnR ndK 84 2 ay3 ny3 cy3 Hy3 ((Math.marksN (1 : Int) z)), OwnR ndK 84 2 ay5 ny5 cy5 Hy5 z, blk bka12 35 [.slice ay4 ny4 cy4, .slice ayw4 nyw4 cyw4, .slice ayv4 nyv4 cyv4], blk bka8 33 [.slice ay3 ny3 cy3], blk bka6 35 [.slice ay2 ny2 cy2, .slice ayw2 nyw2 cyw2, .slice ayv2 nyv2 cyv2], OwnR ndK 84 2 ay2 ny2 cy2 Hy2 ((((Math.highAt z kk ag).1.1))), OwnR maK 82 2 ayw2 nyw2 cyw2 Hyw2 ((((Math.highAt z kk ag).1.2.1))), OwnR maK 82 2 ayv2 nyv2 cyv2 Hyv2 ((((Math.highAt z kk ag).1.2.2))), OwnR ndK 84 2 ay1 ny1 cy1 Hy1 z, blk bkb1 24 [.slice az nz cz]]) (φs := fun _ => [OwnR ndK 84 2 ay4 ny4 cy4 Hy4 ((Math.marksN (1 : Int) ((((Math.highAt z kk ag).1.1))))), OwnR maK 82 2 ayw4 nyw4 cyw4 Hyw4 ((Math.marksM ((1 : Int) + (Math.sumK Math.f4 ((((Math.highAt z kk ag).1.1))) : Int)) ((((Math.highAt z kk ag).1.2.1))))), OwnR maK 82 2 ayv4 nyv4 cyv4 Hyv4 ((Math.marksM (((1 : Int) + (Math.sumK Math.f4 ((((Math.highAt z kk ag).1.1))) : Int)) + (Math.sumK Math.rwl ((((Math.highAt z kk ag).1.2.1))) : Int)) ((((Math.highAt z kk ag).1.2.2)))))]) (val := fun _ => .int .i64 (((((1 : Int) + (Math.sumK Math.f4 ((((Math.highAt z kk ag).1.1))) : Int)) + (Math.sumK Math.rwl ((((Math.highAt z kk ag).1.2.1))) : Int)) + (Math.sumK Math.rwl ((((Math.highAt z kk ag).1.2.2))) : Int)))) rfl Try.call33 trv1 rfl rfl (fun w M0 hs => laws_markGame_c ay4 ny4 cy4 Hy4 ((((Math.highAt z kk ag).1.1))) ayw4 nyw4 cyw4 Hyw4 ((((Math.highAt z kk ag).1.2.1))) ayv4 nyv4 cyv4 Hyv4 ((((Math.highAt z kk ag).1.2.2))) (1 : Int) w M0 hs (by omega)) ?_
          rintro _ -
          refine asI rfl rfl rfl ?_
          refine rNil ?_
          refine qSeq rfl ?_
          refine hSeq ?_
          refine hReg (sq 0 sz) (by kernel_rfl) ?_
          refine asI rfl rfl rfl ?_
          refine rNil ?_
          refine qSeq rfl ?_
          refine hSeq ?_
          refine hReg (sl 0 (sq 1 (sl 2 (sq 3 sz)))) (by kernel_rfl) ?_
          refine ldAl Try.isAgg35 Try.sizeOf35 (cBs 5 rfl) trv rfl rfl rfl rfl ?_
          refine mvI rfl rfl rfl ?_
          refine callP (v := .int .i64 (((((1 : Int) + (Math.sumK Math.f4 (((((Math.highAt z kk ag).1.1)))) : Int)) + (Math.sumK Math.rwl (((((Math.highAt z kk ag).1.2.1)))) : Int)) + (Math.sumK Math.rwl (((((Math.highAt z kk ag).1.2.2)))) : Int)))) Try.call42 trv rfl rfl (fun w hs => laws_heldGame_c _ ny4 cy4 _ _ _ nyw4 cyw4 _ _ _ nyv4 cyv4 _ _ _ _ _ _ w (OwnR.rd (hs.at_ 0 rfl) ndK.ok) (OwnR.rd (hs.at_ 1 rfl) maK.ok) (OwnR.rd (hs.at_ 2 rfl) maK.ok) (by omega) (by first | rfl | assumption) (by first | rfl | assumption) (by first | rfl | assumption)) ?_
          refine asI rfl rfl rfl ?_
          refine rNil ?_
          refine qSeq rfl ?_
          refine hSeq ?_
          refine hSeq ?_
          refine hReg (sq 0 (sq 1 sz)) (by kernel_rfl) ?_
          refine mvI rfl rfl rfl ?_
          refine lss rfl rfl rfl rfl ?_
          refine rNil ?_
          refine qSeq rfl ?_
          refine hIfD rfl (fun c5 => ?_) (fun c5 => ?_)
          · -- c5T
            replace c5 : ((((1 : Int) + (Math.sumK Math.f4 (((((Math.highAt z kk ag).1.1)))) : Int)) + (Math.sumK Math.rwl (((((Math.highAt z kk ag).1.2.1)))) : Int)) + (Math.sumK Math.rwl (((((Math.highAt z kk ag).1.2.2)))) : Int)) < 0 := c5
            refine hSeq ?_
            refine hReg (sq 0 sz) (by kernel_rfl) ?_
            refine asB rfl rfl rfl ?_
            refine rNil ?_
            refine qSeq rfl ?_
            refine hRet ?_
            exact fun w hs => ⟨[.bool false], ⟨rfl, trivial⟩, ⟨by exfalso; omega, hs.upd⟩⟩
          · -- c5F
            replace c5 : ¬ (((((1 : Int) + (Math.sumK Math.f4 (((((Math.highAt z kk ag).1.1)))) : Int)) + (Math.sumK Math.rwl (((((Math.highAt z kk ag).1.2.1)))) : Int)) + (Math.sumK Math.rwl (((((Math.highAt z kk ag).1.2.2)))) : Int)) < 0) := c5
            refine hSkip ?_
            refine qSeq rfl ?_
            refine hSeq ?_
            refine hSeq ?_
            refine hReg (sq 0 (sq 1 (sq 2 sz))) (by kernel_rfl) ?_
            refine mvI rfl rfl rfl ?_
            refine mvI rfl rfl rfl ?_
            refine neq rfl rfl rfl rfl ?_
            refine rNil ?_
            refine qSeq rfl ?_
            refine hIfD rfl (fun c6 => ?_) (fun c6 => ?_)
            · -- c6T
              replace c6 : ((((1 : Int) + (Math.sumK Math.f4 (((((Math.highAt z kk ag).1.1)))) : Int)) + (Math.sumK Math.rwl (((((Math.highAt z kk ag).1.2.1)))) : Int)) + (Math.sumK Math.rwl (((((Math.highAt z kk ag).1.2.2)))) : Int)) ≠ ((((1 : Int) + (Math.sumK Math.f4 ((((Math.highAt z kk ag).1.1))) : Int)) + (Math.sumK Math.rwl ((((Math.highAt z kk ag).1.2.1))) : Int)) + (Math.sumK Math.rwl ((((Math.highAt z kk ag).1.2.2))) : Int)) := c6
              refine hSeq ?_
              refine hReg (sq 0 sz) (by kernel_rfl) ?_
              refine asB rfl rfl rfl ?_
              refine rNil ?_
              refine qSeq rfl ?_
              refine hRet ?_
              exact fun w hs => ⟨[.bool false], ⟨rfl, trivial⟩, ⟨by exfalso; omega, hs.upd⟩⟩
            · -- c6F
              replace c6 : ¬ (((((1 : Int) + (Math.sumK Math.f4 (((((Math.highAt z kk ag).1.1)))) : Int)) + (Math.sumK Math.rwl (((((Math.highAt z kk ag).1.2.1)))) : Int)) + (Math.sumK Math.rwl (((((Math.highAt z kk ag).1.2.2)))) : Int)) ≠ ((((1 : Int) + (Math.sumK Math.f4 ((((Math.highAt z kk ag).1.1))) : Int)) + (Math.sumK Math.rwl ((((Math.highAt z kk ag).1.2.1))) : Int)) + (Math.sumK Math.rwl ((((Math.highAt z kk ag).1.2.2))) : Int))) := c6
              refine hSkip ?_
              refine qSeq rfl ?_
              refine hSeq ?_
              refine hReg (sl 0 (sl 1 (sq 2 (sq 3 (sl 4 (sq 5 (sq 6 (sq 7 (sl 8 (sl 9 (sq 10 sz))))))))))) (by kernel_rfl) ?_
              refine ldAl Try.isAgg24 Try.sizeOf24 (cBs 12 rfl) trv rfl rfl rfl rfl ?_
              refine callS Try.call38 trv1 rfl rfl (fun w hs => laws_toTree_c _ nz cz _ _ w (Kn.drop (k := 13) kz w hs) (by first | assumption | omega)) ?_
              rintro ⟨ay6, ny6, cy6, Hy6, y6⟩ hr6
              dsimp only at hr6
              subst y6
              refine rKnow (fun w hs => (show OwnR ndK 84 2 ay6 ny6 cy6 Hy6 z w from hs.at_ 0 rfl).1) (fun lenn14 => ?_)
              refine mvI rfl rfl rfl ?_
              refine mvB rfl rfl rfl ?_
              refine callS Try.call39 trv1 rfl rfl (fun w hs => impl_HighCardGame_c _ ny6 cy6 _ _ _ _ w (OwnR.rd (hs.at_ 0 rfl) ndK.ok)) ?_
              rintro ⟨ay7, ny7, cy7, Hy7, y7, ayw7, nyw7, cyw7, Hyw7, yw7, ayv7, nyv7, cyv7, Hyv7, yv7, q7⟩ ⟨hr7a, hr7b, hr7c, hr7d⟩
              dsimp only at hr7a hr7b hr7c hr7d
              subst y7
              subst yw7
              subst yv7
              subst q7
              refine rKnow (fun w hs => (show OwnR ndK 84 2 ay7 ny7 cy7 Hy7 ((((Math.highAt z kk ag).1.1))) w from hs.at_ 0 rfl).1) (fun lenn15 => ?_)
              refine rKnow (fun w hs => (show OwnR maK 82 2 ayw7 nyw7 cyw7 Hyw7 ((((Math.highAt z kk ag).1.2.1))) w from hs.at_ 1 rfl).1) (fun lenn16 => ?_)
              refine rKnow (fun w hs => (show OwnR maK 82 2 ayv7 nyv7 cyv7 Hyv7 ((((Math.highAt z kk ag).1.2.2))) w from hs.at_ 2 rfl).1) (fun lenn17 => ?_)
              refine mv rfl rfl rfl ?_
              refine ext rfl rfl rfl rfl ?_
              refine ext rfl rfl rfl rfl ?_
              refine alc Try.zeroValue35 rfl trv1 rfl rfl (fun bka18 hbka18 => ?_)
              refine stAl (vs := [.slice ay7 ny7 cy7, .slice ayw7 nyw7 cyw7, .slice ayv7 nyv7 cyv7]) 0 rfl Try.sizeOf35 trv rfl rfl rfl rfl rfl (by simp [Value.oneCell']) rfl ?_
              refine asI rfl rfl rfl ?_
              refine rNil ?_
              refine qSeq rfl ?_
              refine hSeq ?_
              refine hSeq ?_
              refine hReg (sl 0 (sl 1 (sl 2 (sq 3 (sq 4 (sq 5 (sq 6 (sq 7 (sq 8 sz))))))))) (by kernel_rfl) ?_
              refine ldAl Try.isAgg35 Try.sizeOf35 (cBs 0 rfl) trv rfl rfl rfl rfl ?_
              refine ldAl Try.isAgg35 Try.sizeOf35 (cBs 12 rfl) trv rfl rfl rfl rfl ?_
              refine callP (v := .bool true) Try.call19 trv rfl rfl (fun w hs => laws_eqGame_c _ ny7 cy7 _ _ _ nyw7 cyw7 _ _ _ nyv7 cyv7 _ _ _ ny2 cy2 _ _ _ nyw2 cyw2 _ _ _ nyv2 cyv2 _ _ w (OwnR.rd (hs.at_ 1 rfl) ndK.ok) (OwnR.rd (hs.at_ 2 rfl) maK.ok) (OwnR.rd (hs.at_ 3 rfl) maK.ok) (OwnR.rd (hs.at_ 13 rfl) ndK.ok) (OwnR.rd (hs.at_ 14 rfl) maK.ok) (OwnR.rd (hs.at_ 15 rfl) maK.ok) (by exact ⟨rfl, rfl, rfl⟩)) ?_
              refine not rfl rfl rfl ?_
              refine mvB rfl rfl rfl ?_
              refine mvI rfl rfl rfl ?_
              refine mvI rfl rfl rfl ?_
              refine neq rfl rfl rfl rfl ?_
              refine pickB rfl rfl rfl rfl ?_
              refine rNil ?_
              refine qSeq rfl ?_
              refine hIfD rfl (fun c7 => ?_) (fun c7 => ?_)
              · -- c7T
                replace c7 : (((Math.highAt z kk ag).2)) ≠ (((Math.highAt z kk ag).2)) := c7
                exact absurd rfl c7
              · -- c7F
                replace c7 : ¬ ((((Math.highAt z kk ag).2)) ≠ (((Math.highAt z kk ag).2))) := c7
                refine hSkip ?_
                refine qSeq rfl ?_
                refine hSeq ?_
                refine hReg (sq 0 sz) (by kernel_rfl) ?_
                refine asI rfl rfl rfl ?_
                refine rNil ?_
                refine qSeq rfl ?_
                refine hSeq ?_
                refine hReg (sl 0 (sq 1 (sl 2 (sq 3 sz)))) (by kernel_rfl) ?_
                refine ldAl Try.isAgg35 Try.sizeOf35 (cBs 10 rfl) trv rfl rfl rfl rfl ?_
                refine mvI rfl rfl rfl ?_
                refine callP (v := .int .i64 (((((1 : Int) + (Math.sumK Math.f4 (((((Math.highAt z kk ag).1.1)))) : Int)) + (Math.sumK Math.rwl (((((Math.highAt z kk ag).1.2.1)))) : Int)) + (Math.sumK Math.rwl (((((Math.highAt z kk ag).1.2.2)))) : Int)))) Try.call42 trv rfl rfl (fun w hs => laws_heldGame_c _ ny4 cy4 _ _ _ nyw4 cyw4 _ _ _ nyv4 cyv4 _ _ _ _ _ _ w (OwnR.rd (hs.at_ 5 rfl) ndK.ok) (OwnR.rd (hs.at_ 6 rfl) maK.ok) (OwnR.rd (hs.at_ 7 rfl) maK.ok) (by omega) (by first | rfl | assumption) (by first | rfl | assumption) (by first | rfl | assumption)) ?_
                refine asI rfl rfl rfl ?_
                refine rNil ?_
                refine qSeq rfl ?_
                refine hSeq ?_
                refine hSeq ?_
                refine hReg (sq 0 (sq 1 sz)) (by kernel_rfl) ?_
                refine mvI rfl rfl rfl ?_
                refine lss rfl rfl rfl rfl ?_
                refine rNil ?_
                refine qSeq rfl ?_
                refine hIfD rfl (fun c8 => ?_) (fun c8 => ?_)
                · -- c8T
                  replace c8 : ((((1 : Int) + (Math.sumK Math.f4 (((((Math.highAt z kk ag).1.1)))) : Int)) + (Math.sumK Math.rwl (((((Math.highAt z kk ag).1.2.1)))) : Int)) + (Math.sumK Math.rwl (((((Math.highAt z kk ag).1.2.2)))) : Int)) < 0 := c8
                  refine hSeq ?_
                  refine hReg (sq 0 sz) (by kernel_rfl) ?_
                  refine asB rfl rfl rfl ?_
                  refine rNil ?_
                  refine qSeq rfl ?_
                  refine hRet ?_
                  exact fun w hs => ⟨[.bool false], ⟨rfl, trivial⟩, ⟨by exfalso; omega, hs.upd⟩⟩
                · -- c8F
                  replace c8 : ¬ (((((1 : Int) + (Math.sumK Math.f4 (((((Math.highAt z kk ag).1.1)))) : Int)) + (Math.sumK Math.rwl (((((Math.highAt z kk ag).1.2.1)))) : Int)) + (Math.sumK Math.rwl (((((Math.highAt z kk ag).1.2.2)))) : Int)) < 0) := c8
                  refine hSkip ?_
                  refine qSeq rfl ?_
                  refine hSeq ?_
                  refine hSeq ?_
                  refine hReg (sq 0 (sq 1 (sq 2 sz))) (by kernel_rfl) ?_
                  refine mvI rfl rfl rfl ?_
                  refine mvI rfl rfl rfl ?_
                  refine neq rfl rfl rfl rfl ?_
                  refine rNil ?_
                  refine qSeq rfl ?_
                  refine hIfD rfl (fun c9 => ?_) (fun c9 => ?_)
                  · -- c9T
                    replace c9 : ((((1 : Int) + (Math.sumK Math.f4 (((((Math.highAt z kk ag).1.1)))) : Int)) + (Math.sumK Math.rwl (((((Math.highAt z kk ag).1.2.1)))) : Int)) + (Math.sumK Math.rwl (((((Math.highAt z kk ag).1.2.2)))) : Int)) ≠ ((((1 : Int) + (Math.sumK Math.f4 ((((Math.highAt z kk ag).1.1))) : Int)) + (Math.sumK Math.rwl ((((Math.highAt z kk ag).1.2.1))) : Int)) + (Math.sumK Math.rwl ((((Math.highAt z kk ag).1.2.2))) : Int)) := c9
                    refine hSeq ?_
                    refine hReg (sq 0 sz) (by kernel_rfl) ?_
                    refine asB rfl rfl rfl ?_
                    refine rNil ?_
                    refine qSeq rfl ?_
                    refine hRet ?_
                    exact fun w hs => ⟨[.bool false], ⟨rfl, trivial⟩, ⟨by exfalso; omega, hs.upd⟩⟩
                  · -- c9F
                    replace c9 : ¬ (((((1 : Int) + (Math.sumK Math.f4 (((((Math.highAt z kk ag).1.1)))) : Int)) + (Math.sumK Math.rwl (((((Math.highAt z kk ag).1.2.1)))) : Int)) + (Math.sumK Math.rwl (((((Math.highAt z kk ag).1.2.2)))) : Int)) ≠ ((((1 : Int) + (Math.sumK Math.f4 ((((Math.highAt z kk ag).1.1))) : Int)) + (Math.sumK Math.rwl ((((Math.highAt z kk ag).1.2.1))) : Int)) + (Math.sumK Math.rwl ((((Math.highAt z kk ag).1.2.2))) : Int))) := c9
                    refine hSkip ?_
                    refine qSeq rfl ?_
                    refine hSeq ?_
                    refine hReg (sq 0 sz) (by kernel_rfl) ?_
                    refine asB rfl rfl rfl ?_
                    refine rNil ?_
                    refine qSeq rfl ?_
                    refine hRet ?_
                    exact fun w hs => ⟨[.bool true], ⟨rfl, trivial⟩, ⟨by first | rfl | exact bD (by omega) | exact bT (by omega) | exact bF (by omega) | exact vI (by omega), hs.upd⟩⟩

set_option maxHeartbeats 2000000 in
theorem fnExactHighCardGame_lifted (os : Os) (started : os.Started) (H : Type) (enc : TypeId × Value → H) :
    ReturnsInHanded {} Try.checked os 8 .any (Rows.fnExactHighCardGameSpec.pre6 enc Try.prog Try.f8 Rows.fnExactHighCardGameRow.domain false) (Rows.fnExactHighCardGameSpec.post enc Try.prog Try.f8 false true false false) := by
  refine returnsInHanded_of_change (C := Try.checked) own started (by kernel_rfl) Try.func8
    (ChangeSpec.witness6 (enc := enc) (C := Try.checked) false ⟨#[], #[.agg #[.slice none 0 0], .int .i64 0, .bool false], []⟩ 8 (by kernel_rfl) (by kernel_rfl) (by kernel_rfl) (by kernel_rfl)) ?_
  intro W base args ds gs before hval0 hW hcnd _
  have hval : ∀ (j : Nat) t v, Try.f8.params[j]? = some t → args[j]? = some v → Value.okWide Try.prog W .any base t v := hval0
  have hW' := hW
  obtain ⟨p, q, hA0, hV, rfl, hfz, hnd⟩ := hW
  have hA : DataW.TrodAll enc Try.prog W 0 (fun _ => true) true Try.f8.params.toList args.toList ds p := hA0
  rw [Try.params8] at hA hval
  obtain ⟨v0, vs0, d0, ds0, p0, q0, hargs, rfl, rfl, h0, r0⟩ := trodAll_cons hA
  obtain ⟨v1, vs1, d1, ds1, p1, q1, rfl, rfl, rfl, h1, r1⟩ := trodAll_cons r0
  obtain ⟨v2, vs2, d2, ds2, p2, q2, rfl, rfl, rfl, h2, r2⟩ := trodAll_cons r1
  obtain ⟨rfl, rfl, rfl⟩ := trodAll_nil r2
  obtain rfl : args = #[v0, v1, v2] := by cases args; simp_all
  obtain ⟨rfl, rfl⟩ := trodVars_none hV
  obtain ⟨f0, g0⟩ := h0
  obtain ⟨cs0, rfl, _⟩ := okWide_struct Try.underlying24 (hval 0 24 v0 rfl rfl)
  obtain ⟨aq0_0, nq0_0, cq0_0, hq0_0, zq0_0, e0, rq0_0⟩ := inT24 g0
  obtain rfl : cs0 = #[.slice aq0_0 nq0_0 cq0_0] := by apply Array.ext'; exact e0
  obtain ⟨f1, g1⟩ := h1
  obtain ⟨z1_, rfl⟩ := okWide_int Try.underlying2 (hval 1 2 v1 rfl rfl)
  obtain ⟨zq1_0, e1⟩ := inT2 g1
  simp only [Value.cells, List.cons.injEq, Value.int.injEq, and_true, true_and] at e1
  subst z1_
  obtain ⟨f2, g2⟩ := h2
  obtain ⟨b2_, rfl⟩ := okWide_bool Try.underlying4 (hval 2 4 v2 rfl rfl)
  obtain ⟨bq2_0, e2⟩ := inT4 g2
  simp only [Value.cells, List.cons.injEq, Value.bool.injEq, and_true, true_and] at e2
  subst b2_
  refine (laws_FnExactHighCardGame_c aq0_0 nq0_0 cq0_0 hq0_0 zq0_0 zq1_0 bq2_0 W rq0_0).mono fun e W' ⟨v, he, hv, hx⟩ => ?_
  subst he; subst hv
  exact ⟨_, rfl, law_post (tb := 4) hW' rfl rfl Try.underlying4 rfl rfl rfl (by kernel_rfl) hx⟩
theorem fnExactHighCardGame_holds : Rows.FnExactHighCardGameSaid :=
  OpenClaim.holds_of_wide 8 Try.f8 rfl rfl rfl rfl rfl rfl rfl ⟨rfl, rfl, rfl, rfl, rfl⟩ rfl rfl rfl rfl rfl (by kernel_rfl) Try.func8 (by kernel_rfl)
    (of_decide_eq_true (by kernel_rfl)) (by unfold Func.isWrapper; first | (rw [if_pos (by decide +kernel)]; kernel_rfl) | (rw [if_neg (by decide +kernel)]; exact ⟨rfl, rfl⟩))
    (fun os started H enc _ => fnExactHighCardGame_lifted os started H enc)
#print axioms fnExactHighCardGame_holds

end Go.Proofs.Ytbcopkhpgolkmaa
