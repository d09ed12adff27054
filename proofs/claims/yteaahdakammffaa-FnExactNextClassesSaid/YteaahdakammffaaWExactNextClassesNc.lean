/- The law FnExactNextClasses returns true for all arguments. No condition. -/
import Derived.Test.YteaahdakammffaaZ5Nc
import Derived.Test.YteaahdakammffaaZ1Nc
import Derived.Test.YteaahdakammffaaZ2Nc
import Derived.Test.YteaahdakammffaaZ3Nc
import Derived.Test.YteaahdakammffaaZ4Nc
import Derived.Test.YteaahdakammffaaRows
namespace Go.Proofs.Yteaahdakammffaa
open Go Go.RowKit V Go.ChangeShapes Go.WideShapes Go.ChangeAt
set_option linter.unusedVariables false
set_option linter.unusedSimpArgs false
set_option maxRecDepth 100000
set_option maxHeartbeats 4000000 in
theorem laws_FnExactNextClasses_c (az : Option Addr) (nz : Nat) (cz : Nat) (Hz : Nat → Hd) (z : List (List Int)) (w : World) (rz : RdR maK az nz Hz z w) :
  Calls Try.prog 7 #[.slice az nz cz] w (Ret fun v w' => v = .bool true ∧ Ext w w') := by
 have kz : Kn w none_ [] (RdR maK az nz Hz z) := fun w' hs => rz.ext hs.upd
 have lz : z.length = nz := rz.1
 have mz : nz ≤ 9223372036854775807 := rz.2.1
 refine fn (M := none_) (rs := [.tmp 2]) Try.func7 rfl Try.ntmps7 rfl rfl (Sep.start _ _) ?_
 refine hSeq ?_
 refine hReg (sq 0 sz) (by kernel_rfl) ?_
 refine asB rfl rfl rfl ?_
 refine rNil ?_
 refine qSeq rfl ?_
 refine hSeq ?_
 refine hReg (sq 0 sz) (by kernel_rfl) ?_
 refine asI rfl rfl rfl ?_
 refine rNil ?_
 refine qSeq rfl ?_
 refine hSeq ?_
 refine hReg (sq 0 (sq 1 (sl 2 (sq 3 sz)))) (by kernel_rfl) ?_
 refine mvS rfl rfl rfl ?_
 refine mvI rfl rfl rfl ?_
 refine callP (v := .int .i64 ((Math.cut (1048576 : Int) (Math.szK Math.rwl z : Int)))) Try.call12 trv rfl rfl (fun w hs => laws_szInt64SS_c _ nz cz _ _ _ w (kz w hs) (by omega)) ?_
 refine asI rfl rfl rfl ?_
 refine rNil ?_
 refine qSeq rfl ?_
 refine hSeq ?_
 refine hSeq ?_
 refine hReg (sq 0 (sq 1 sz)) (by kernel_rfl) ?_
 refine mvI rfl rfl rfl ?_
 refine lss rfl rfl rfl rfl ?_
 refine rNil ?_
 refine qSeq rfl ?_
 refine hIfD rfl (fun c1 => ?_) (fun c1 => ?_)
 ·
  replace c1 : (Math.cut (1048576 : Int) (Math.szK Math.rwl z : Int)) < 0 := c1
  refine hSeq ?_
  refine hReg (sq 0 sz) (by kernel_rfl) ?_
  refine asB rfl rfl rfl ?_
  refine rNil ?_
  refine qSeq rfl ?_
  refine hRet ?_
  exact fun w hs => ⟨[.bool true], ⟨rfl, trivial⟩, ⟨by first | rfl | exact bD (by omega) | exact bT (by omega) | exact bF (by omega) | exact vI (by omega), hs.upd⟩⟩
 ·
  replace c1 : ¬ ((Math.cut (1048576 : Int) (Math.szK Math.rwl z : Int)) < 0) := c1
  have hb : Math.szK Math.rwl z ≤ 1048576 := by have := Math.cut_pos c1; omega
  have hsz : Math.szK Math.rwl z = z.length + Math.sumK Math.rwl z := rfl
  have hly := Iso.nextY_len z
  have hlu := Iso.nextU_len z
  refine hSkip ?_
  refine qSeq rfl ?_
  refine hSeq ?_
  refine hReg (sq 0 (sl 1 (sl 2 (sq 3 (sq 4 (sq 5 (sq 6 (sq 7 (sq 8 (sq 9 sz)))))))))) (by kernel_rfl) ?_
  refine mvS rfl rfl rfl ?_
  refine callS Try.call14 trv1 rfl rfl (fun w hs => laws_toInt64SS_c _ nz cz _ _ w (kz w hs) (by first | assumption | omega)) ?_
  rintro ⟨ay1, ny1, cy1, Hy1, y1⟩ hr1
  dsimp only at hr1
  subst y1
  refine rKnow (fun w hs => (show OwnR maK 23 2 ay1 ny1 cy1 Hy1 z w from hs.at_ 0 rfl).1) (fun lenn1 => ?_)
  refine rVal (v' := .slice ay1 ny1 cy1) rfl ?_
  refine callS Try.call45 trv1 rfl rfl (fun w hs => spec_NextClasses_c _ ny1 cy1 _ _ w (OwnR.rd (hs.at_ 0 rfl) maK.ok)) ?_
  rintro ⟨ay2, ny2, cy2, y2, au2, nu2, cu2, u2, e2⟩ ⟨hr2a, hr2b, hr2c⟩
  dsimp only at hr2a hr2b hr2c
  subst y2
  subst u2
  subst e2
  refine rKnow (fun w hs => (show OwnI 2 ay2 ny2 cy2 (Iso.nextY z) w from hs.at_ 0 rfl).lenz) (fun lenn2 => ?_)
  refine rKnow (fun w hs => (show OwnI 2 au2 nu2 cu2 (Iso.nextU z) w from hs.at_ 1 rfl).lenz) (fun lenn3 => ?_)
  refine rVal (v' := .tuple #[.slice ay2 ny2 cy2, .slice au2 nu2 cu2, .int .i64 (Iso.codeS z)]) rfl ?_
  refine mv rfl rfl rfl ?_
  refine ext rfl rfl rfl rfl ?_
  refine ext rfl rfl rfl rfl ?_
  refine ext rfl rfl rfl rfl ?_
  refine asS rfl rfl rfl ?_
  refine asS rfl rfl rfl ?_
  refine asI rfl rfl rfl ?_
  refine rNil ?_
  refine qSeq rfl ?_
  refine hSeq ?_
  refine hReg (sq 0 (sl 1 (sq 2 sz))) (by kernel_rfl) ?_
  refine mvS rfl rfl rfl ?_
  refine callS Try.call14 trv1 rfl rfl (fun w hs => laws_toInt64SS_c _ nz cz _ _ w (Kn.drop (k := 3) kz w hs) (by first | assumption | omega)) ?_
  rintro ⟨ay3, ny3, cy3, Hy3, y3⟩ hr3
  dsimp only at hr3
  subst y3
  refine rKnow (fun w hs => (show OwnR maK 23 2 ay3 ny3 cy3 Hy3 z w from hs.at_ 0 rfl).1) (fun lenn4 => ?_)
  refine rVal (v' := .slice ay3 ny3 cy3) rfl ?_
  refine asS rfl rfl rfl ?_
  refine rNil ?_
  refine qSeq rfl ?_
  refine hSeq ?_
  refine hReg (sq 0 (sl 1 (sq 2 (sq 3 (sq 4 (sq 5 (sq 6 (sq 7 (sq 8 sz))))))))) (by kernel_rfl) ?_
  refine mvS rfl rfl rfl ?_
  refine callS Try.call46 trv1 rfl rfl (fun w hs => impl_NextClasses_c _ ny3 cy3 _ _ w (OwnR.rd (hs.at_ 0 rfl) maK.ok)) ?_
  rintro ⟨ay4, ny4, cy4, y4, au4, nu4, cu4, u4, e4⟩ ⟨hr4a, hr4b, hr4c⟩
  dsimp only at hr4a hr4b hr4c
  subst y4
  subst u4
  subst e4
  refine rKnow (fun w hs => (show OwnI 2 ay4 ny4 cy4 (Iso.nextY z) w from hs.at_ 0 rfl).lenz) (fun lenn5 => ?_)
  refine rKnow (fun w hs => (show OwnI 2 au4 nu4 cu4 (Iso.nextU z) w from hs.at_ 1 rfl).lenz) (fun lenn6 => ?_)
  refine rVal (v' := .tuple #[.slice ay4 ny4 cy4, .slice au4 nu4 cu4, .int .i64 (Iso.codeS z)]) rfl ?_
  refine mv rfl rfl rfl ?_
  refine ext rfl rfl rfl rfl ?_
  refine ext rfl rfl rfl rfl ?_
  refine ext rfl rfl rfl rfl ?_
  refine asS rfl rfl rfl ?_
  refine asS rfl rfl rfl ?_
  refine asI rfl rfl rfl ?_
  refine rNil ?_
  refine qSeq rfl ?_
  refine hSeq ?_
  refine hSeq ?_
  refine hReg (sq 0 (sq 1 (sl 2 (sq 3 (sq 4 (sq 5 (sq 6 (sl 7 (sq 8 (sq 9 (sq 10 (sq 11 (sq 12 (sq 13 (sq 14 sz))))))))))))))) (by kernel_rfl) ?_
  refine mvS rfl rfl rfl ?_
  refine mvS rfl rfl rfl ?_
  refine callP (v := .bool true) Try.call18 trv rfl rfl (fun w hs => laws_eqInt64S_c _ ny4 cy4 _ _ ny2 cy2 _ w (OwnI.rd (hs.at_ 0 rfl)) (OwnI.rd (hs.at_ 3 rfl)) (by first | rfl | assumption | (rw [heq]) | (simp only [*]))) ?_
  refine not rfl rfl rfl ?_
  refine mvB rfl rfl rfl ?_
  refine mvS rfl rfl rfl ?_
  refine mvS rfl rfl rfl ?_
  refine callP (v := .bool true) Try.call18 trv rfl rfl (fun w hs => laws_eqInt64S_c _ nu4 cu4 _ _ nu2 cu2 _ w (OwnI.rd (hs.at_ 1 rfl)) (OwnI.rd (hs.at_ 4 rfl)) (by first | rfl | assumption | (rw [heq]) | (simp only [*]))) ?_
  refine not rfl rfl rfl ?_
  refine pickB rfl rfl rfl rfl ?_
  refine mvB rfl rfl rfl ?_
  refine mvI rfl rfl rfl ?_
  refine mvI rfl rfl rfl ?_
  refine neq rfl rfl rfl rfl ?_
  refine pickB rfl rfl rfl rfl ?_
  refine rNil ?_
  refine qSeq rfl ?_
  refine hIfD rfl (fun c2 => ?_) (fun c2 => ?_)
  ·
   replace c2 : (Iso.codeS z) ≠ (Iso.codeS z) := c2
   exact absurd rfl c2
  ·
   replace c2 : ¬ ((Iso.codeS z) ≠ (Iso.codeS z)) := c2
   refine hSkip ?_
   refine qSeq rfl ?_
   refine hSeq ?_
   refine hSeq ?_
   refine hReg (sq 0 (sq 1 (sl 2 (sl 3 (sq 4 sz))))) (by kernel_rfl) ?_
   refine mvS rfl rfl rfl ?_
   refine mvS rfl rfl rfl ?_
   refine callS Try.call14 trv1 rfl rfl (fun w hs => laws_toInt64SS_c _ nz cz _ _ w (Kn.drop (k := 6) kz w hs) (by first | assumption | omega)) ?_
   rintro ⟨ay5, ny5, cy5, Hy5, y5⟩ hr5
   dsimp only at hr5
   subst y5
   refine rKnow (fun w hs => (show OwnR maK 23 2 ay5 ny5 cy5 Hy5 z w from hs.at_ 0 rfl).1) (fun lenn7 => ?_)
   refine rVal (v' := .slice ay5 ny5 cy5) rfl ?_
   refine callP (v := .bool true) Try.call17 trv rfl rfl (fun w hs => laws_eqInt64SS_c _ ny3 cy3 _ _ _ ny5 cy5 _ _ w (OwnR.rd (hs.at_ 3 rfl) maK.ok) (OwnR.rd (hs.at_ 0 rfl) maK.ok) (by first | rfl | assumption | (rw [heq]) | (simp only [*]))) ?_
   refine not rfl rfl rfl ?_
   refine rNil ?_
   refine qSeq rfl ?_
   refine hIfF rfl ?_
   refine hSkip ?_
   refine qSeq rfl ?_
   refine hSeq ?_
   refine hReg (sq 0 sz) (by kernel_rfl) ?_
   refine asI rfl rfl rfl ?_
   refine rNil ?_
   refine qSeq rfl ?_
   refine hSeq ?_
   refine hReg (sq 0 (sq 1 (sl 2 (sq 3 sz)))) (by kernel_rfl) ?_
   refine mvS rfl rfl rfl ?_
   refine mvI rfl rfl rfl ?_
   refine rPieces (fun _ h => h.pick [3, 0, 0, 0, 0, 0, 0]) ?_
   refine callM (Lf := [OwnR maK 23 2 ay3 ny3 cy3 Hy3 z]) (Lr := [OwnR maK 23 2 ay5 ny5 cy5 Hy5 z, OwnI 2 ay4 ny4 cy4 (Iso.nextY z), OwnI 2 au4 nu4 cu4 (Iso.nextU z), OwnI 2 ay2 ny2 cy2 (Iso.nextY z), OwnI 2 au2 nu2 cu2 (Iso.nextU z), OwnR maK 23 2 ay1 ny1 cy1 Hy1 z]) (φs := fun _ => [OwnR maK 23 2 ay3 ny3 cy3 Hy3 ((Math.marksM (1 : Int) z))]) (val := fun _ => .int .i64 (((1 : Int) + (Math.sumK Math.rwl z : Int)))) rfl Try.call47 trv1 rfl rfl (fun w M0 hs => laws_markInt64SS_c ay3 ny3 cy3 Hy3 z (1 : Int) w M0 hs (by omega)) ?_
   rintro _ -
   refine asI rfl rfl rfl ?_
   refine rNil ?_
   refine qSeq rfl ?_
   refine hSeq ?_
   refine hSeq ?_
   refine hReg (sq 0 (sq 1 (sq 2 (sq 3 (sq 4 (sl 5 (sq 6 (sq 7 (sq 8 (sq 9 (sq 10 (sl 11 (sq 12 (sq 13 (sq 14 (sq 15 (sq 16 (sq 17 (sq 18 sz))))))))))))))))))) (by kernel_rfl) ?_
   refine mvI rfl rfl rfl ?_
   refine lss rfl rfl rfl rfl ?_
   refine mvB rfl rfl rfl ?_
   refine rBoolD (d := 62) rfl (fun g3 => ?_) (fun g3 => ?_)
   ·
    replace g3 : ((1 : Int) + (Math.sumK Math.rwl z : Int)) < 0 := g3
    refine rSkipQ rfl rfl ?_
    refine rSkipQ rfl rfl ?_
    refine rSkipL trv rfl rfl ?_
    refine rSkipQ rfl rfl ?_
    refine pickB rfl rfl rfl rfl ?_
    refine mvB rfl rfl rfl ?_
    refine rSkipQ rfl rfl ?_
    refine rSkipQ rfl rfl ?_
    refine rSkipL trv rfl rfl ?_
    refine rSkipQ rfl rfl ?_
    refine pickB rfl rfl rfl rfl ?_
    refine mvB rfl rfl rfl ?_
    refine rSkipQ rfl rfl ?_
    refine rSkipQ rfl rfl ?_
    refine rSkipQ rfl rfl ?_
    refine pickB rfl rfl rfl rfl ?_
    refine rNil ?_
    refine qSeq rfl ?_
    refine hIfT rfl ?_
    refine hSeq ?_
    refine hReg (sq 0 sz) (by kernel_rfl) ?_
    refine asB rfl rfl rfl ?_
    refine rNil ?_
    refine qSeq rfl ?_
    refine hRet ?_
    exact fun w hs => ⟨[.bool false], ⟨rfl, trivial⟩, ⟨by exfalso; omega, hs.upd⟩⟩
   ·
    replace g3 : ¬ (((1 : Int) + (Math.sumK Math.rwl z : Int)) < 0) := g3
    refine mvS rfl rfl rfl ?_
    refine mvS rfl rfl rfl ?_
    refine callP (v := .bool true) Try.call18 trv rfl rfl (fun w hs => laws_eqInt64S_c _ ny4 cy4 _ _ ny2 cy2 _ w (OwnI.rd (hs.at_ 2 rfl)) (OwnI.rd (hs.at_ 4 rfl)) (by first | rfl | assumption | (rw [heq]) | (simp only [*]))) ?_
    refine not rfl rfl rfl ?_
    refine pickB rfl rfl rfl rfl ?_
    refine mvB rfl rfl rfl ?_
    refine mvS rfl rfl rfl ?_
    refine mvS rfl rfl rfl ?_
    refine callP (v := .bool true) Try.call18 trv rfl rfl (fun w hs => laws_eqInt64S_c _ nu4 cu4 _ _ nu2 cu2 _ w (OwnI.rd (hs.at_ 3 rfl)) (OwnI.rd (hs.at_ 5 rfl)) (by first | rfl | assumption | (rw [heq]) | (simp only [*]))) ?_
    refine not rfl rfl rfl ?_
    refine pickB rfl rfl rfl rfl ?_
    refine mvB rfl rfl rfl ?_
    refine mvI rfl rfl rfl ?_
    refine mvI rfl rfl rfl ?_
    refine neq rfl rfl rfl rfl ?_
    refine pickB rfl rfl rfl rfl ?_
    refine rNil ?_
    refine qSeq rfl ?_
    refine hIfD rfl (fun c4 => ?_) (fun c4 => ?_)
    ·
     replace c4 : (Iso.codeS z) ≠ (Iso.codeS z) := c4
     exact absurd rfl c4
    ·
     replace c4 : ¬ ((Iso.codeS z) ≠ (Iso.codeS z)) := c4
     refine hSkip ?_
     refine qSeq rfl ?_
     refine hSeq ?_
     refine hReg (sq 0 sz) (by kernel_rfl) ?_
     refine asI rfl rfl rfl ?_
     refine rNil ?_
     refine qSeq rfl ?_
     refine hSeq ?_
     refine hReg (sq 0 (sq 1 (sl 2 (sq 3 sz)))) (by kernel_rfl) ?_
     refine mvS rfl rfl rfl ?_
     refine mvI rfl rfl rfl ?_
     refine rPieces (fun _ h => h.pick [2, 0, 0, 0, 0, 0, 0]) ?_
     refine callM (Lf := [OwnI 2 ay4 ny4 cy4 (Iso.nextY z)]) (Lr := [OwnR maK 23 2 ay3 ny3 cy3 Hy3 ((Math.marksM (1 : Int) z)), OwnR maK 23 2 ay5 ny5 cy5 Hy5 z, OwnI 2 au4 nu4 cu4 (Iso.nextU z), OwnI 2 ay2 ny2 cy2 (Iso.nextY z), OwnI 2 au2 nu2 cu2 (Iso.nextU z), OwnR maK 23 2 ay1 ny1 cy1 Hy1 z]) (φs := fun _ => [OwnI 2 ay4 ny4 cy4 ((Math.seqL (1 : Int) ny4))]) (val := fun _ => .int .i64 (((1 : Int) + (ny4 : Int)))) rfl Try.call48 trv1 rfl rfl (fun w M0 hs => laws_markInt64S_c ay4 ny4 cy4 (Iso.nextY z) (1 : Int) w M0 hs (by omega)) ?_
     rintro _ -
     refine asI rfl rfl rfl ?_
     refine rNil ?_
     refine qSeq rfl ?_
     refine hSeq ?_
     refine hReg (sq 0 (sq 1 (sl 2 (sq 3 sz)))) (by kernel_rfl) ?_
     refine mvS rfl rfl rfl ?_
     refine mvI rfl rfl rfl ?_
     refine rPieces (fun _ h => h.pick [3, 0, 0, 0, 0, 0, 0]) ?_
     refine callM (Lf := [OwnI 2 au4 nu4 cu4 (Iso.nextU z)]) (Lr := [OwnI 2 ay4 ny4 cy4 ((Math.seqL (1 : Int) ny4)), OwnR maK 23 2 ay3 ny3 cy3 Hy3 ((Math.marksM (1 : Int) z)), OwnR maK 23 2 ay5 ny5 cy5 Hy5 z, OwnI 2 ay2 ny2 cy2 (Iso.nextY z), OwnI 2 au2 nu2 cu2 (Iso.nextU z), OwnR maK 23 2 ay1 ny1 cy1 Hy1 z]) (φs := fun _ => [OwnI 2 au4 nu4 cu4 ((Math.seqL (((1 : Int) + (ny4 : Int))) nu4))]) (val := fun _ => .int .i64 (((((1 : Int) + (ny4 : Int))) + (nu4 : Int)))) rfl Try.call48 trv1 rfl rfl (fun w M0 hs => laws_markInt64S_c au4 nu4 cu4 (Iso.nextU z) (((1 : Int) + (ny4 : Int))) w M0 hs (by omega)) ?_
     rintro _ -
     refine asI rfl rfl rfl ?_
     refine rNil ?_
     refine qSeq rfl ?_
     refine hSeq ?_
     refine hReg (sq 0 sz) (by kernel_rfl) ?_
     refine asI rfl rfl rfl ?_
     refine rNil ?_
     refine qSeq rfl ?_
     refine hSeq ?_
     refine hReg (sq 0 (sq 1 (sl 2 (sq 3 sz)))) (by kernel_rfl) ?_
     refine mvS rfl rfl rfl ?_
     refine mvI rfl rfl rfl ?_
     refine callP (v := .int .i64 (((1 : Int) + (ny4 : Int)))) Try.call49 trv rfl rfl (fun w hs => laws_heldInt64S_c _ ny4 cy4 _ _ w (OwnI.rd (hs.at_ 1 rfl)) (by omega) (by first | rfl | assumption | (simp only [*]))) ?_
     refine asI rfl rfl rfl ?_
     refine rNil ?_
     refine qSeq rfl ?_
     refine hSeq ?_
     refine hSeq ?_
     refine hReg (sq 0 (sq 1 sz)) (by kernel_rfl) ?_
     refine mvI rfl rfl rfl ?_
     refine lss rfl rfl rfl rfl ?_
     refine rNil ?_
     refine qSeq rfl ?_
     refine hIfD rfl (fun c5 => ?_) (fun c5 => ?_)
     ·
      replace c5 : ((1 : Int) + (ny4 : Int)) < 0 := c5
      refine hSeq ?_
      refine hReg (sq 0 sz) (by kernel_rfl) ?_
      refine asB rfl rfl rfl ?_
      refine rNil ?_
      refine qSeq rfl ?_
      refine hRet ?_
      exact fun w hs => ⟨[.bool false], ⟨rfl, trivial⟩, ⟨by exfalso; omega, hs.upd⟩⟩
     ·
      replace c5 : ¬ (((1 : Int) + (ny4 : Int)) < 0) := c5
      refine hSkip ?_
      refine qSeq rfl ?_
      refine hSeq ?_
      refine hReg (sq 0 (sq 1 (sl 2 (sq 3 sz)))) (by kernel_rfl) ?_
      refine mvS rfl rfl rfl ?_
      refine mvI rfl rfl rfl ?_
      refine callP (v := .int .i64 (((((1 : Int) + (ny4 : Int))) + (nu4 : Int)))) Try.call49 trv rfl rfl (fun w hs => laws_heldInt64S_c _ nu4 cu4 _ _ w (OwnI.rd (hs.at_ 0 rfl)) (by omega) (by first | rfl | assumption | (simp only [*]))) ?_
      refine asI rfl rfl rfl ?_
      refine rNil ?_
      refine qSeq rfl ?_
      refine hSeq ?_
      refine hSeq ?_
      refine hReg (sq 0 (sq 1 sz)) (by kernel_rfl) ?_
      refine mvI rfl rfl rfl ?_
      refine lss rfl rfl rfl rfl ?_
      refine rNil ?_
      refine qSeq rfl ?_
      refine hIfD rfl (fun c6 => ?_) (fun c6 => ?_)
      ·
       replace c6 : ((((1 : Int) + (ny4 : Int))) + (nu4 : Int)) < 0 := c6
       refine hSeq ?_
       refine hReg (sq 0 sz) (by kernel_rfl) ?_
       refine asB rfl rfl rfl ?_
       refine rNil ?_
       refine qSeq rfl ?_
       refine hRet ?_
       exact fun w hs => ⟨[.bool false], ⟨rfl, trivial⟩, ⟨by exfalso; omega, hs.upd⟩⟩
      ·
       replace c6 : ¬ (((((1 : Int) + (ny4 : Int))) + (nu4 : Int)) < 0) := c6
       refine hSkip ?_
       refine qSeq rfl ?_
       refine hSeq ?_
       refine hSeq ?_
       refine hReg (sq 0 (sq 1 (sq 2 sz))) (by kernel_rfl) ?_
       refine mvI rfl rfl rfl ?_
       refine mvI rfl rfl rfl ?_
       refine neq rfl rfl rfl rfl ?_
       refine rNil ?_
       refine qSeq rfl ?_
       refine hIfD rfl (fun c7 => ?_) (fun c7 => ?_)
       ·
        replace c7 : ((((1 : Int) + (ny4 : Int))) + (nu4 : Int)) ≠ ((((1 : Int) + (ny4 : Int))) + (nu4 : Int)) := c7
        exact absurd rfl c7
       ·
        replace c7 : ¬ (((((1 : Int) + (ny4 : Int))) + (nu4 : Int)) ≠ ((((1 : Int) + (ny4 : Int))) + (nu4 : Int))) := c7
        refine hSkip ?_
        refine qSeq rfl ?_
        refine hSeq ?_
        refine hReg (sq 0 (sl 1 (sl 2 (sq 3 (sq 4 (sq 5 (sq 6 (sq 7 (sq 8 (sq 9 sz)))))))))) (by kernel_rfl) ?_
        refine mvS rfl rfl rfl ?_
        refine callS Try.call14 trv1 rfl rfl (fun w hs => laws_toInt64SS_c _ nz cz _ _ w (Kn.drop (k := 7) kz w hs) (by first | assumption | omega)) ?_
        rintro ⟨ay6, ny6, cy6, Hy6, y6⟩ hr6
        dsimp only at hr6
        subst y6
        refine rKnow (fun w hs => (show OwnR maK 23 2 ay6 ny6 cy6 Hy6 z w from hs.at_ 0 rfl).1) (fun lenn8 => ?_)
        refine rVal (v' := .slice ay6 ny6 cy6) rfl ?_
        refine callS Try.call46 trv1 rfl rfl (fun w hs => impl_NextClasses_c _ ny6 cy6 _ _ w (OwnR.rd (hs.at_ 0 rfl) maK.ok)) ?_
        rintro ⟨ay7, ny7, cy7, y7, au7, nu7, cu7, u7, e7⟩ ⟨hr7a, hr7b, hr7c⟩
        dsimp only at hr7a hr7b hr7c
        subst y7
        subst u7
        subst e7
        refine rKnow (fun w hs => (show OwnI 2 ay7 ny7 cy7 (Iso.nextY z) w from hs.at_ 0 rfl).lenz) (fun lenn9 => ?_)
        refine rKnow (fun w hs => (show OwnI 2 au7 nu7 cu7 (Iso.nextU z) w from hs.at_ 1 rfl).lenz) (fun lenn10 => ?_)
        refine rVal (v' := .tuple #[.slice ay7 ny7 cy7, .slice au7 nu7 cu7, .int .i64 (Iso.codeS z)]) rfl ?_
        refine mv rfl rfl rfl ?_
        refine ext rfl rfl rfl rfl ?_
        refine ext rfl rfl rfl rfl ?_
        refine ext rfl rfl rfl rfl ?_
        refine asS rfl rfl rfl ?_
        refine asS rfl rfl rfl ?_
        refine asI rfl rfl rfl ?_
        refine rNil ?_
        refine qSeq rfl ?_
        refine hSeq ?_
        refine hSeq ?_
        refine hReg (sq 0 (sq 1 (sl 2 (sq 3 (sq 4 (sq 5 (sq 6 (sl 7 (sq 8 (sq 9 (sq 10 (sq 11 (sq 12 (sq 13 (sq 14 sz))))))))))))))) (by kernel_rfl) ?_
        refine mvS rfl rfl rfl ?_
        refine mvS rfl rfl rfl ?_
        refine callP (v := .bool true) Try.call18 trv rfl rfl (fun w hs => laws_eqInt64S_c _ ny7 cy7 _ _ ny2 cy2 _ w (OwnI.rd (hs.at_ 0 rfl)) (OwnI.rd (hs.at_ 7 rfl)) (by first | rfl | assumption | (rw [heq]) | (simp only [*]))) ?_
        refine not rfl rfl rfl ?_
        refine mvB rfl rfl rfl ?_
        refine mvS rfl rfl rfl ?_
        refine mvS rfl rfl rfl ?_
        refine callP (v := .bool true) Try.call18 trv rfl rfl (fun w hs => laws_eqInt64S_c _ nu7 cu7 _ _ nu2 cu2 _ w (OwnI.rd (hs.at_ 1 rfl)) (OwnI.rd (hs.at_ 8 rfl)) (by first | rfl | assumption | (rw [heq]) | (simp only [*]))) ?_
        refine not rfl rfl rfl ?_
        refine pickB rfl rfl rfl rfl ?_
        refine mvB rfl rfl rfl ?_
        refine mvI rfl rfl rfl ?_
        refine mvI rfl rfl rfl ?_
        refine neq rfl rfl rfl rfl ?_
        refine pickB rfl rfl rfl rfl ?_
        refine rNil ?_
        refine qSeq rfl ?_
        refine hIfD rfl (fun c8 => ?_) (fun c8 => ?_)
        ·
         replace c8 : (Iso.codeS z) ≠ (Iso.codeS z) := c8
         exact absurd rfl c8
        ·
         replace c8 : ¬ ((Iso.codeS z) ≠ (Iso.codeS z)) := c8
         refine hSkip ?_
         refine qSeq rfl ?_
         refine hSeq ?_
         refine hReg (sq 0 sz) (by kernel_rfl) ?_
         refine asI rfl rfl rfl ?_
         refine rNil ?_
         refine qSeq rfl ?_
         refine hSeq ?_
         refine hReg (sq 0 (sq 1 (sl 2 (sq 3 sz)))) (by kernel_rfl) ?_
         refine mvS rfl rfl rfl ?_
         refine mvI rfl rfl rfl ?_
         refine callP (v := .int .i64 (((1 : Int) + (ny4 : Int)))) Try.call49 trv rfl rfl (fun w hs => laws_heldInt64S_c _ ny4 cy4 _ _ w (OwnI.rd (hs.at_ 4 rfl)) (by omega) (by first | rfl | assumption | (simp only [*]))) ?_
         refine asI rfl rfl rfl ?_
         refine rNil ?_
         refine qSeq rfl ?_
         refine hSeq ?_
         refine hSeq ?_
         refine hReg (sq 0 (sq 1 sz)) (by kernel_rfl) ?_
         refine mvI rfl rfl rfl ?_
         refine lss rfl rfl rfl rfl ?_
         refine rNil ?_
         refine qSeq rfl ?_
         refine hIfD rfl (fun c9 => ?_) (fun c9 => ?_)
         ·
          replace c9 : ((1 : Int) + (ny4 : Int)) < 0 := c9
          refine hSeq ?_
          refine hReg (sq 0 sz) (by kernel_rfl) ?_
          refine asB rfl rfl rfl ?_
          refine rNil ?_
          refine qSeq rfl ?_
          refine hRet ?_
          exact fun w hs => ⟨[.bool false], ⟨rfl, trivial⟩, ⟨by exfalso; omega, hs.upd⟩⟩
         ·
          replace c9 : ¬ (((1 : Int) + (ny4 : Int)) < 0) := c9
          refine hSkip ?_
          refine qSeq rfl ?_
          refine hSeq ?_
          refine hReg (sq 0 (sq 1 (sl 2 (sq 3 sz)))) (by kernel_rfl) ?_
          refine mvS rfl rfl rfl ?_
          refine mvI rfl rfl rfl ?_
          refine callP (v := .int .i64 (((((1 : Int) + (ny4 : Int))) + (nu4 : Int)))) Try.call49 trv rfl rfl (fun w hs => laws_heldInt64S_c _ nu4 cu4 _ _ w (OwnI.rd (hs.at_ 3 rfl)) (by omega) (by first | rfl | assumption | (simp only [*]))) ?_
          refine asI rfl rfl rfl ?_
          refine rNil ?_
          refine qSeq rfl ?_
          refine hSeq ?_
          refine hSeq ?_
          refine hReg (sq 0 (sq 1 sz)) (by kernel_rfl) ?_
          refine mvI rfl rfl rfl ?_
          refine lss rfl rfl rfl rfl ?_
          refine rNil ?_
          refine qSeq rfl ?_
          refine hIfD rfl (fun c10 => ?_) (fun c10 => ?_)
          ·
           replace c10 : ((((1 : Int) + (ny4 : Int))) + (nu4 : Int)) < 0 := c10
           refine hSeq ?_
           refine hReg (sq 0 sz) (by kernel_rfl) ?_
           refine asB rfl rfl rfl ?_
           refine rNil ?_
           refine qSeq rfl ?_
           refine hRet ?_
           exact fun w hs => ⟨[.bool false], ⟨rfl, trivial⟩, ⟨by exfalso; omega, hs.upd⟩⟩
          ·
           replace c10 : ¬ (((((1 : Int) + (ny4 : Int))) + (nu4 : Int)) < 0) := c10
           refine hSkip ?_
           refine qSeq rfl ?_
           refine hSeq ?_
           refine hSeq ?_
           refine hReg (sq 0 (sq 1 (sq 2 sz))) (by kernel_rfl) ?_
           refine mvI rfl rfl rfl ?_
           refine mvI rfl rfl rfl ?_
           refine neq rfl rfl rfl rfl ?_
           refine rNil ?_
           refine qSeq rfl ?_
           refine hIfD rfl (fun c11 => ?_) (fun c11 => ?_)
           ·
            replace c11 : ((((1 : Int) + (ny4 : Int))) + (nu4 : Int)) ≠ ((((1 : Int) + (ny4 : Int))) + (nu4 : Int)) := c11
            exact absurd rfl c11
           ·
            replace c11 : ¬ (((((1 : Int) + (ny4 : Int))) + (nu4 : Int)) ≠ ((((1 : Int) + (ny4 : Int))) + (nu4 : Int))) := c11
            refine hSkip ?_
            refine qSeq rfl ?_
            refine hSeq ?_
            refine hReg (sq 0 sz) (by kernel_rfl) ?_
            refine asB rfl rfl rfl ?_
            refine rNil ?_
            refine qSeq rfl ?_
            refine hRet ?_
            exact fun w hs => ⟨[.bool true], ⟨rfl, trivial⟩, ⟨by first | rfl | exact bD (by omega) | exact bT (by omega) | exact bF (by omega) | exact vI (by omega), hs.upd⟩⟩
set_option maxHeartbeats 2000000 in
theorem fnExactNextClasses_lifted (os : Os) (started : os.Started) (H : Type) (enc : TypeId × Value → H) :
  ReturnsInHanded {} Try.checked os 7 .any (Rows.fnExactNextClassesSpec.pre6 enc Try.prog Try.f7 Rows.fnExactNextClassesRow.domain false) (Rows.fnExactNextClassesSpec.post enc Try.prog Try.f7 false true false false) := by
 refine returnsInHanded_of_change (C := Try.checked) own started (by kernel_rfl) Try.func7
  (ChangeSpec.witness6 (enc := enc) (C := Try.checked) false ⟨#[], #[.slice none 0 0], []⟩ 8 (by kernel_rfl) (by kernel_rfl) (by kernel_rfl) (by kernel_rfl)) ?_
 intro W base args ds gs before hval0 hW hcnd _
 have hval : ∀ (j : Nat) t v, Try.f7.params[j]? = some t → args[j]? = some v → Value.okWide Try.prog W .any base t v := hval0
 have hW' := hW
 obtain ⟨p, q, hA0, hV, rfl, hfz, hnd⟩ := hW
 have hA : DataW.TrodAll enc Try.prog W 0 (fun _ => true) true Try.f7.params.toList args.toList ds p := hA0
 rw [Try.params7] at hA hval
 obtain ⟨v0, vs0, d0, ds0, p0, q0, hargs, rfl, rfl, h0, r0⟩ := trodAll_cons hA
 obtain ⟨rfl, rfl, rfl⟩ := trodAll_nil r0
 obtain rfl : args = #[v0] := by cases args; simp_all
 obtain ⟨rfl, rfl⟩ := trodVars_none hV
 obtain ⟨f0, g0⟩ := h0
 obtain ⟨a0_, n0_, c0_, rfl⟩ := okWide_slice Try.underlying22 (hval 0 22 v0 rfl rfl)
 obtain ⟨aq0_0, nq0_0, cq0_0, hq0_0, zq0_0, e0, rq0_0⟩ := inT22 g0
 simp only [Value.cells, List.cons.injEq, Value.slice.injEq, and_true, true_and] at e0
 obtain ⟨ea, en, ec⟩ := e0
 subst a0_; subst n0_; subst c0_
 refine (laws_FnExactNextClasses_c aq0_0 nq0_0 cq0_0 hq0_0 zq0_0 W rq0_0).mono fun e W' ⟨v, he, hv, hx⟩ => ?_
 subst he; subst hv
 exact ⟨_, rfl, law_post (tb := 4) hW' rfl rfl Try.underlying4 rfl rfl rfl (by kernel_rfl) hx⟩
theorem fnExactNextClasses_holds : Rows.FnExactNextClassesSaid :=
 OpenClaim.holds_of_wide 7 Try.f7 rfl rfl rfl rfl rfl rfl rfl ⟨rfl, rfl, rfl, rfl, rfl⟩ rfl rfl rfl rfl rfl (by kernel_rfl) Try.func7 (by kernel_rfl)
  (of_decide_eq_true (by kernel_rfl)) (by unfold Func.isWrapper; first | (rw [if_pos (by decide +kernel)]; kernel_rfl) | (rw [if_neg (by decide +kernel)]; exact ⟨rfl, rfl⟩))
  (fun os started H enc _ => fnExactNextClasses_lifted os started H enc)
#print axioms fnExactNextClasses_holds
end Go.Proofs.Yteaahdakammffaa
