/- The law FnNumbers returns true for all arguments. No condition. -/
import Derived.Test.YtjengglpbdgmnaaZ15Nu
import Derived.Test.YtjengglpbdgmnaaZ2Nu
import Derived.Test.YtjengglpbdgmnaaZ3Nu
import Derived.Test.YtjengglpbdgmnaaZ4Nu
import Derived.Test.YtjengglpbdgmnaaZ5Nu
import Derived.Test.YtjengglpbdgmnaaZ6Nu
import Derived.Test.YtjengglpbdgmnaaZ7Nu
import Derived.Test.YtjengglpbdgmnaaZ8Nu
import Derived.Test.YtjengglpbdgmnaaZ9Nu
import Derived.Test.YtjengglpbdgmnaaZ10Nu
import Derived.Test.YtjengglpbdgmnaaZ11Nu
import Derived.Test.YtjengglpbdgmnaaZ12Nu
import Derived.Test.YtjengglpbdgmnaaZ13Nu
import Derived.Test.YtjengglpbdgmnaaZ14Nu
import Derived.Test.YtjengglpbdgmnaaRows
namespace Go.Proofs.Ytjengglpbdgmnaa
open Go Go.RowKit V Go.ChangeShapes Go.WideShapes Go.ChangeAt
set_option linter.unusedVariables false
set_option linter.unusedSimpArgs false
set_option maxRecDepth 100000
set_option maxHeartbeats 4000000 in
theorem laws_FnNumbers_c (ca : Option Addr) (bs : List Int) (cc : Nat) (w : World) (rcode : CellsAt ca (bs.map (Value.int .u8)) w) (hb : ∀ n ∈ bs, (Lit.int .u8 n).wf = true) :
  Calls Try.prog 10 #[.slice ca bs.length cc] w (Ret fun v w' => v = .bool true ∧ Ext w w') := by
 have kcode : Kn w none_ [] (CellsAt ca (bs.map (Value.int .u8))) := fun w' hs => rcode.ext hs.upd
 refine fn (M := none_) (rs := [.tmp 2]) Try.func10 rfl Try.ntmps10 rfl rfl (Sep.start _ _) ?_
 refine hSeq ?_
 refine hReg (sq 0 sz) (by kernel_rfl) ?_
 refine asB rfl rfl rfl ?_
 refine rNil ?_
 refine qSeq rfl ?_
 refine hSeq ?_
 refine hSeq ?_
 refine hReg (sq 0 (sl 1 sz)) (by kernel_rfl) ?_
 refine mvS rfl rfl rfl ?_
 refine callP (v := .bool (decide (4096 < ((bs.length : Nat) : Int)))) Try.call12 trv rfl rfl (fun w hs => laws_big_c _ _ cc w (kcode w hs)) ?_
 refine rNil ?_
 refine qSeq rfl ?_
 refine hIfD rfl (fun c1 => ?_) (fun c1 => ?_)
 ·
  replace c1 : 4096 < ((bs.length : Nat) : Int) := c1
  refine hSeq ?_
  refine hReg (sq 0 sz) (by kernel_rfl) ?_
  refine asB rfl rfl rfl ?_
  refine rNil ?_
  refine qSeq rfl ?_
  refine hRet ?_
  exact fun w hs => ⟨[.bool true], ⟨rfl, trivial⟩, ⟨by first | rfl | exact (bT hgm.2.1).symm, hs.upd⟩⟩
 ·
  replace c1 : ¬ (4096 < ((bs.length : Nat) : Int)) := c1
  have hok : okBytes bs := ⟨fun x hx => bounds_u8 (hb x hx), by omega⟩
  refine hSkip ?_
  refine qSeq rfl ?_
  refine hSeq ?_
  refine hReg (sq 0 (sl 1 (sq 2 (sq 3 (sq 4 (sq 5 (sl 6 (sl 7 (sl 8 (sl 9 (sl 10 (sl 11 sz)))))))))))) (by kernel_rfl) ?_
  refine mvS rfl rfl rfl ?_
  refine callS Try.call79 trv1 rfl rfl (fun w hs => spec_DrawGameNumber_c _ _ cc w (kcode w hs) (by assumption)) ?_
  rintro ⟨ay1, ny1, cy1, Hy1, y1, ayw1, nyw1, cyw1, Hyw1, yw1, ayv1, nyv1, cyv1, Hyv1, yv1, pl1, ayp1, nyp1, cyp1, Hyp1, yp1, ql1, ayq1, nyq1, cyq1, Hyq1, yq1⟩ hr1
  try dsimp only at hr1
  refine rPieces (L' := [RdR ndK ay1 ny1 Hy1 y1, RdR maK ayw1 nyw1 Hyw1 yw1, RdR maK ayv1 nyv1 Hyv1 yv1, OwnR maK 28 2 ayp1 nyp1 cyp1 Hyp1 yp1, OwnR maK 28 2 ayq1 nyq1 cyq1 Hyq1 yq1]) (fun _ h => h) ?_
  refine rKnow (fun w hs => (show RdR ndK ay1 ny1 Hy1 y1 w from hs.at_ 0 rfl).1) (fun lenn1 => ?_)
  refine rKnow (fun w hs => (show RdR maK ayw1 nyw1 Hyw1 yw1 w from hs.at_ 1 rfl).1) (fun lenn2 => ?_)
  refine rKnow (fun w hs => (show RdR maK ayv1 nyv1 Hyv1 yv1 w from hs.at_ 2 rfl).1) (fun lenn3 => ?_)
  refine rKnow (fun w hs => (show OwnR maK 28 2 ayp1 nyp1 cyp1 Hyp1 yp1 w from hs.at_ 3 rfl).1) (fun lenn4 => ?_)
  refine rKnow (fun w hs => (show OwnR maK 28 2 ayq1 nyq1 cyq1 Hyq1 yq1 w from hs.at_ 4 rfl).1) (fun lenn5 => ?_)
  refine rVal (v' := .tuple #[.agg #[.slice ay1 ny1 cy1, .slice ayw1 nyw1 cyw1, .slice ayv1 nyv1 cyv1], .agg #[.int .i64 pl1, .slice ayp1 nyp1 cyp1], .agg #[.int .i64 ql1, .slice ayq1 nyq1 cyq1]]) rfl ?_
  refine mv rfl rfl rfl ?_
  refine ext rfl rfl rfl rfl ?_
  refine ext rfl rfl rfl rfl ?_
  refine ext rfl rfl rfl rfl ?_
  refine alc Try.zeroValue43 rfl trv1 rfl rfl (fun bka6 hbka6 => ?_)
  refine alc Try.zeroValue56 rfl trv1 rfl rfl (fun bka7 hbka7 => ?_)
  refine alc Try.zeroValue56 rfl trv1 rfl rfl (fun bka8 hbka8 => ?_)
  refine stAl (vs := [.slice ay1 ny1 cy1, .slice ayw1 nyw1 cyw1, .slice ayv1 nyv1 cyv1]) 2 rfl Try.sizeOf43 trv rfl rfl rfl rfl rfl (by simp [Value.oneCell']) rfl ?_
  refine stAl (vs := [.int .i64 pl1, .slice ayp1 nyp1 cyp1]) 1 rfl Try.sizeOf56 trv rfl rfl rfl rfl rfl (by simp [Value.oneCell']) rfl ?_
  refine stAl (vs := [.int .i64 ql1, .slice ayq1 nyq1 cyq1]) 0 rfl Try.sizeOf56 trv rfl rfl rfl rfl rfl (by simp [Value.oneCell']) rfl ?_
  refine rNil ?_
  refine qSeq rfl ?_
  refine hSeq ?_
  refine hReg (sl 0 (sl 1 (sl 2 (sl 3 (sq 4 (sq 5 (sq 6 (sq 7 (sq 8 (sq 9 (sq 10 sz))))))))))) (by kernel_rfl) ?_
  refine ldAl Try.isAgg43 Try.sizeOf43 (cBs 2 rfl) trv rfl rfl rfl rfl ?_
  refine ldAl Try.isAgg56 Try.sizeOf56 (cBs 1 rfl) trv rfl rfl rfl rfl ?_
  refine ldAl Try.isAgg56 Try.sizeOf56 (cBs 0 rfl) trv rfl rfl rfl rfl ?_
  refine callP (v := .tuple #[.int .i64 ((Math.gameAt y1 yw1 yv1 pl1 yp1 ql1 yq1).1), .int .i64 ((Math.gameAt y1 yw1 yv1 pl1 yp1 ql1 yq1).2.1), .int .i64 ((Math.gameAt y1 yw1 yv1 pl1 yp1 ql1 yq1).2.2)]) Try.call80 trv rfl rfl (fun w hs => impl_GameNumber_c _ ny1 cy1 _ _ _ nyw1 cyw1 _ _ _ nyv1 cyv1 _ _ _ _ nyp1 cyp1 _ _ _ _ nyq1 cyq1 _ _ w (hs.at_ 3 rfl) (hs.at_ 4 rfl) (hs.at_ 5 rfl) (OwnR.rd (hs.at_ 6 rfl) maK.ok) (OwnR.rd (hs.at_ 7 rfl) maK.ok)) ?_
  refine mv rfl rfl rfl ?_
  refine ext rfl rfl rfl rfl ?_
  refine ext rfl rfl rfl rfl ?_
  refine ext rfl rfl rfl rfl ?_
  refine asI rfl rfl rfl ?_
  refine asI rfl rfl rfl ?_
  refine asI rfl rfl rfl ?_
  refine rNil ?_
  refine qSeq rfl ?_
  refine hSeq ?_
  refine hReg (sl 0 (sl 1 (sl 2 (sl 3 (sq 4 (sq 5 (sq 6 (sq 7 (sq 8 (sq 9 (sq 10 sz))))))))))) (by kernel_rfl) ?_
  refine ldAl Try.isAgg43 Try.sizeOf43 (cBs 2 rfl) trv rfl rfl rfl rfl ?_
  refine ldAl Try.isAgg56 Try.sizeOf56 (cBs 1 rfl) trv rfl rfl rfl rfl ?_
  refine ldAl Try.isAgg56 Try.sizeOf56 (cBs 0 rfl) trv rfl rfl rfl rfl ?_
  refine callP (v := .tuple #[.int .i64 ((Math.gameAt y1 yw1 yv1 pl1 yp1 ql1 yq1).1), .int .i64 ((Math.gameAt y1 yw1 yv1 pl1 yp1 ql1 yq1).2.1), .int .i64 ((Math.gameAt y1 yw1 yv1 pl1 yp1 ql1 yq1).2.2)]) Try.call81 trv rfl rfl (fun w hs => spec_GameNumber_c _ ny1 cy1 _ _ _ nyw1 cyw1 _ _ _ nyv1 cyv1 _ _ _ _ nyp1 cyp1 _ _ _ _ nyq1 cyq1 _ _ w (hs.at_ 3 rfl) (hs.at_ 4 rfl) (hs.at_ 5 rfl) (OwnR.rd (hs.at_ 6 rfl) maK.ok) (OwnR.rd (hs.at_ 7 rfl) maK.ok)) ?_
  refine mv rfl rfl rfl ?_
  refine ext rfl rfl rfl rfl ?_
  refine ext rfl rfl rfl rfl ?_
  refine ext rfl rfl rfl rfl ?_
  refine asI rfl rfl rfl ?_
  refine asI rfl rfl rfl ?_
  refine asI rfl rfl rfl ?_
  refine rNil ?_
  refine qSeq rfl ?_
  refine hSeq ?_
  refine hReg (sq 0 (sl 1 (sl 2 (sl 3 sz)))) (by kernel_rfl) ?_
  refine mvS rfl rfl rfl ?_
  refine callS Try.call82 trv1 rfl rfl (fun w hs => spec_DrawUnitOf_c _ _ cc w (Kn.drop (k := 8) kcode w hs) (by assumption)) ?_
  rintro ⟨ay2, ny2, cy2, Hy2, y2, ayw2, nyw2, cyw2, Hyw2, yw2, ayv2, nyv2, cyv2, Hyv2, yv2⟩ hr2
  try dsimp only at hr2
  refine rPieces (L' := [RdR ndK ay2 ny2 Hy2 y2, RdR maK ayw2 nyw2 Hyw2 yw2, RdR maK ayv2 nyv2 Hyv2 yv2, blk bka8 56 [.int .i64 ql1, .slice ayq1 nyq1 cyq1], blk bka7 56 [.int .i64 pl1, .slice ayp1 nyp1 cyp1], blk bka6 43 [.slice ay1 ny1 cy1, .slice ayw1 nyw1 cyw1, .slice ayv1 nyv1 cyv1], RdR ndK ay1 ny1 Hy1 y1, RdR maK ayw1 nyw1 Hyw1 yw1, RdR maK ayv1 nyv1 Hyv1 yv1, OwnR maK 28 2 ayp1 nyp1 cyp1 Hyp1 yp1, OwnR maK 28 2 ayq1 nyq1 cyq1 Hyq1 yq1]) (fun _ h => h) ?_
  refine rKnow (fun w hs => (show RdR ndK ay2 ny2 Hy2 y2 w from hs.at_ 0 rfl).1) (fun lenn9 => ?_)
  refine rKnow (fun w hs => (show RdR maK ayw2 nyw2 Hyw2 yw2 w from hs.at_ 1 rfl).1) (fun lenn10 => ?_)
  refine rKnow (fun w hs => (show RdR maK ayv2 nyv2 Hyv2 yv2 w from hs.at_ 2 rfl).1) (fun lenn11 => ?_)
  refine rVal (v' := .agg #[.slice ay2 ny2 cy2, .slice ayw2 nyw2 cyw2, .slice ayv2 nyv2 cyv2]) rfl ?_
  refine alc Try.zeroValue43 rfl trv1 rfl rfl (fun bka12 hbka12 => ?_)
  refine stAl (vs := [.slice ay2 ny2 cy2, .slice ayw2 nyw2 cyw2, .slice ayv2 nyv2 cyv2]) 0 rfl Try.sizeOf43 trv rfl rfl rfl rfl rfl (by simp [Value.oneCell']) rfl ?_
  refine rNil ?_
  refine qSeq rfl ?_
  refine hSeq ?_
  refine hReg (sl 0 (sl 1 (sq 2 (sq 3 (sq 4 (sq 5 (sq 6 sz))))))) (by kernel_rfl) ?_
  refine ldAl Try.isAgg43 Try.sizeOf43 (cBs 0 rfl) trv rfl rfl rfl rfl ?_
  refine callP (v := .tuple #[.int .i64 ((Math.unitOf y2 yw2 yv2).1), .int .i64 ((Math.unitOf y2 yw2 yv2).2)]) Try.call77 trv rfl rfl (fun w hs => impl_UnitOf_c _ ny2 cy2 _ _ _ nyw2 cyw2 _ _ _ nyv2 cyv2 _ _ w (hs.at_ 1 rfl) (hs.at_ 2 rfl) (hs.at_ 3 rfl)) ?_
  refine mv rfl rfl rfl ?_
  refine ext rfl rfl rfl rfl ?_
  refine ext rfl rfl rfl rfl ?_
  refine asI rfl rfl rfl ?_
  refine asI rfl rfl rfl ?_
  refine rNil ?_
  refine qSeq rfl ?_
  refine hSeq ?_
  refine hReg (sl 0 (sl 1 (sq 2 (sq 3 (sq 4 (sq 5 (sq 6 sz))))))) (by kernel_rfl) ?_
  refine ldAl Try.isAgg43 Try.sizeOf43 (cBs 0 rfl) trv rfl rfl rfl rfl ?_
  refine callP (v := .tuple #[.int .i64 ((Math.unitOf y2 yw2 yv2).1), .int .i64 ((Math.unitOf y2 yw2 yv2).2)]) Try.call83 trv rfl rfl (fun w hs => spec_UnitOf_c _ ny2 cy2 _ _ _ nyw2 cyw2 _ _ _ nyv2 cyv2 _ _ w (hs.at_ 1 rfl) (hs.at_ 2 rfl) (hs.at_ 3 rfl)) ?_
  refine mv rfl rfl rfl ?_
  refine ext rfl rfl rfl rfl ?_
  refine ext rfl rfl rfl rfl ?_
  refine asI rfl rfl rfl ?_
  refine asI rfl rfl rfl ?_
  refine rNil ?_
  refine qSeq rfl ?_
  refine hSeq ?_
  refine hSeq ?_
  refine hReg (sq 0 (sq 1 (sq 2 (sq 3 (sq 4 (sq 5 (sq 6 (sq 7 (sq 8 (sq 9 (sq 10 (sq 11 (sq 12 (sq 13 (sq 14 (sq 15 (sq 16 (sq 17 (sq 18 (sq 19 (sq 20 (sq 21 (sq 22 sz))))))))))))))))))))))) (by kernel_rfl) ?_
  refine mvI rfl rfl rfl ?_
  refine mvI rfl rfl rfl ?_
  refine neq rfl rfl rfl rfl ?_
  refine mvB rfl rfl rfl ?_
  refine rBoolD (d := 66) rfl (fun g2 => ?_) (fun g2 => ?_)
  ·
   replace g2 : (Math.gameAt y1 yw1 yv1 pl1 yp1 ql1 yq1).2.2 ≠ (Math.gameAt y1 yw1 yv1 pl1 yp1 ql1 yq1).2.2 := g2
   exact absurd rfl g2
  ·
   replace g2 : ¬ ((Math.gameAt y1 yw1 yv1 pl1 yp1 ql1 yq1).2.2 ≠ (Math.gameAt y1 yw1 yv1 pl1 yp1 ql1 yq1).2.2) := g2
   refine mvI rfl rfl rfl ?_
   refine mvI rfl rfl rfl ?_
   refine neq rfl rfl rfl rfl ?_
   refine pickB rfl rfl rfl rfl ?_
   refine mvB rfl rfl rfl ?_
   refine rBoolD (d := 71) rfl (fun g3 => ?_) (fun g3 => ?_)
   ·
    replace g3 : (Math.gameAt y1 yw1 yv1 pl1 yp1 ql1 yq1).1 ≠ (Math.gameAt y1 yw1 yv1 pl1 yp1 ql1 yq1).1 := g3
    exact absurd rfl g3
   ·
    replace g3 : ¬ ((Math.gameAt y1 yw1 yv1 pl1 yp1 ql1 yq1).1 ≠ (Math.gameAt y1 yw1 yv1 pl1 yp1 ql1 yq1).1) := g3
    refine mvI rfl rfl rfl ?_
    refine mvI rfl rfl rfl ?_
    refine neq rfl rfl rfl rfl ?_
    refine pickB rfl rfl rfl rfl ?_
    refine mvB rfl rfl rfl ?_
    refine rBoolD (d := 76) rfl (fun g4 => ?_) (fun g4 => ?_)
    ·
     replace g4 : (Math.gameAt y1 yw1 yv1 pl1 yp1 ql1 yq1).2.1 ≠ (Math.gameAt y1 yw1 yv1 pl1 yp1 ql1 yq1).2.1 := g4
     exact absurd rfl g4
    ·
     replace g4 : ¬ ((Math.gameAt y1 yw1 yv1 pl1 yp1 ql1 yq1).2.1 ≠ (Math.gameAt y1 yw1 yv1 pl1 yp1 ql1 yq1).2.1) := g4
     refine mvI rfl rfl rfl ?_
     refine mvI rfl rfl rfl ?_
     refine neq rfl rfl rfl rfl ?_
     refine pickB rfl rfl rfl rfl ?_
     refine mvB rfl rfl rfl ?_
     refine rBoolD (d := 81) rfl (fun g5 => ?_) (fun g5 => ?_)
     ·
      replace g5 : (Math.unitOf y2 yw2 yv2).2 ≠ (Math.unitOf y2 yw2 yv2).2 := g5
      exact absurd rfl g5
     ·
      replace g5 : ¬ ((Math.unitOf y2 yw2 yv2).2 ≠ (Math.unitOf y2 yw2 yv2).2) := g5
      refine mvI rfl rfl rfl ?_
      refine mvI rfl rfl rfl ?_
      refine neq rfl rfl rfl rfl ?_
      refine pickB rfl rfl rfl rfl ?_
      refine rNil ?_
      refine qSeq rfl ?_
      refine hIfD rfl (fun c6 => ?_) (fun c6 => ?_)
      ·
       replace c6 : (Math.unitOf y2 yw2 yv2).1 ≠ (Math.unitOf y2 yw2 yv2).1 := c6
       exact absurd rfl c6
      ·
       replace c6 : ¬ ((Math.unitOf y2 yw2 yv2).1 ≠ (Math.unitOf y2 yw2 yv2).1) := c6
       refine hSkip ?_
       refine qSeq rfl ?_
       refine hSeq ?_
       refine hSeq ?_
       refine hReg (sq 0 (sq 1 sz)) (by kernel_rfl) ?_
       refine mvI rfl rfl rfl ?_
       refine neq rfl rfl rfl rfl ?_
       refine rNil ?_
       refine qSeq rfl ?_
       refine hIfD rfl (fun c7 => ?_) (fun c7 => ?_)
       ·
        replace c7 : (Math.gameAt y1 yw1 yv1 pl1 yp1 ql1 yq1).2.2 ≠ 0 := c7
        refine hSeq ?_
        refine hReg (sq 0 sz) (by kernel_rfl) ?_
        refine asB rfl rfl rfl ?_
        refine rNil ?_
        refine qSeq rfl ?_
        refine hRet ?_
        exact fun w hs => ⟨[.bool true], ⟨rfl, trivial⟩, ⟨by first | rfl | exact (bT hgm.2.1).symm, hs.upd⟩⟩
       ·
        replace c7 : ¬ ((Math.gameAt y1 yw1 yv1 pl1 yp1 ql1 yq1).2.2 ≠ 0) := c7
        have hgz := Classical.not_not.1 c7
        have hgp := Math.gameAt_ok hgz
        have hP := (Math.isPair_ok hgp).2.2
        have hgm := Math.game_mir hgz
        have hG6 := (Math.isGame_ok hP.g).2.1
        have hgk := Math.gameAt_0 lenn2 hgp
        refine hSkip ?_
        refine qSeq rfl ?_
        refine hSeq ?_
        refine hReg (sq 0 sz) (by kernel_rfl) ?_
        refine asI rfl rfl rfl ?_
        refine rNil ?_
        refine qSeq rfl ?_
        refine hSeq ?_
        refine hSeq ?_
        refine hReg (sq 0 sz) (by kernel_rfl) ?_
        refine asI rfl rfl rfl ?_
        refine rNil ?_
        refine qSeq rfl ?_
        refine hBlk ?_
        refine hLoop (α := Nat × Int) (fun x => x.1 ≤ nyw1 ∧ x.2 = Math.numTo y1 yw1 yv1 nyw1 yp1 yq1 x.1) (fun x => nyw1 - x.1) (fun x => [blk bka12 43 [.slice ay2 ny2 cy2, .slice ayw2 nyw2 cyw2, .slice ayv2 nyv2 cyv2], RdR ndK ay2 ny2 Hy2 y2, RdR maK ayw2 nyw2 Hyw2 yw2, RdR maK ayv2 nyv2 Hyv2 yv2, blk bka8 56 [.int .i64 ql1, .slice ayq1 nyq1 cyq1], blk bka7 56 [.int .i64 pl1, .slice ayp1 nyp1 cyp1], blk bka6 43 [.slice ay1 ny1 cy1, .slice ayw1 nyw1 cyw1, .slice ayv1 nyv1 cyv1], RdR ndK ay1 ny1 Hy1 y1, RdR maK ayw1 nyw1 Hyw1 yw1, RdR maK ayv1 nyv1 Hyv1 yv1, OwnR maK 28 2 ayp1 nyp1 cyp1 Hyp1 yp1, OwnR maK 28 2 ayq1 nyq1 cyq1 Hyq1 yq1]) (fun x => [(3, .pointer (some ⟨bka6, 0, none⟩)), (4, .pointer (some ⟨bka7, 0, none⟩)), (5, .pointer (some ⟨bka8, 0, none⟩)), (6, .int .i64 ((Math.gameAt y1 yw1 yv1 pl1 yp1 ql1 yq1).1)), (17, .int .i64 x.2), (18, .int .i64 (x.1 : Int))]) (0, 0) ⟨Nat.zero_le _, rfl⟩ (fun _ h => h) ⟨rfl, rfl, rfl, rfl, rfl, rfl, trivial⟩ ?_
        rintro ⟨i, s⟩ τ1 ⟨hi, hsk⟩
        dsimp only at hi hsk
        refine hRe [(3, .pointer (some ⟨bka6, 0, none⟩)), (4, .pointer (some ⟨bka7, 0, none⟩)), (5, .pointer (some ⟨bka8, 0, none⟩)), (6, .int .i64 ((Math.gameAt y1 yw1 yv1 pl1 yp1 ql1 yq1).1)), (17, .int .i64 s), (18, .int .i64 (i : Int))] [blk bka12 43 [.slice ay2 ny2 cy2, .slice ayw2 nyw2 cyw2, .slice ayv2 nyv2 cyv2], RdR ndK ay2 ny2 Hy2 y2, RdR maK ayw2 nyw2 Hyw2 yw2, RdR maK ayv2 nyv2 Hyv2 yv2, blk bka8 56 [.int .i64 ql1, .slice ayq1 nyq1 cyq1], blk bka7 56 [.int .i64 pl1, .slice ayp1 nyp1 cyp1], blk bka6 43 [.slice ay1 ny1 cy1, .slice ayw1 nyw1 cyw1, .slice ayv1 nyv1 cyv1], RdR ndK ay1 ny1 Hy1 y1, RdR maK ayw1 nyw1 Hyw1 yw1, RdR maK ayv1 nyv1 Hyv1 yv1, OwnR maK 28 2 ayp1 nyp1 cyp1 Hyp1 yp1, OwnR maK 28 2 ayq1 nyq1 cyq1 Hyq1 yq1] rfl rfl ?_
        refine hSeq ?_
        refine hSeq ?_
        refine hReg (sq 0 (sq 1 (sl 2 (sq 3 (sq 4 sz))))) (by kernel_rfl) ?_
        refine mvI rfl rfl rfl ?_
        refine fld fl43_1 rfl rfl rfl ?_
        refine ldl Try.isAgg41 (cB 6 rfl rfl) trv rfl rfl rfl ?_
        refine lenS Try.runUnderlying41 rfl rfl rfl ?_
        refine lss rfl rfl rfl rfl ?_
        refine rNil ?_
        refine qSeq rfl ?_
        refine hIfD rfl (fun c8 => ?_) (fun c8 => ?_)
        ·
         replace c8 : (i : Int) < (nyw1 : Int) := c8
         refine hSkip ?_
         refine qSeq rfl ?_
         refine hSeq ?_
         refine hBlk ?_
         refine hSeq ?_
         refine hReg (sq 0 sz) (by kernel_rfl) ?_
         refine asI rfl rfl rfl ?_
         refine rNil ?_
         refine qSeq rfl ?_
         refine hBlk ?_
         refine hLoop (α := Nat × Int) (fun x => x.1 ≤ nyw1 ∧ x.2 = Math.numTo y1 yw1 yv1 nyw1 yp1 yq1 i + Math.numRow y1 yw1 yv1 nyw1 yp1 yq1 i x.1) (fun x => nyw1 - x.1) (fun x => [blk bka12 43 [.slice ay2 ny2 cy2, .slice ayw2 nyw2 cyw2, .slice ayv2 nyv2 cyv2], RdR ndK ay2 ny2 Hy2 y2, RdR maK ayw2 nyw2 Hyw2 yw2, RdR maK ayv2 nyv2 Hyv2 yv2, blk bka8 56 [.int .i64 ql1, .slice ayq1 nyq1 cyq1], blk bka7 56 [.int .i64 pl1, .slice ayp1 nyp1 cyp1], blk bka6 43 [.slice ay1 ny1 cy1, .slice ayw1 nyw1 cyw1, .slice ayv1 nyv1 cyv1], RdR ndK ay1 ny1 Hy1 y1, RdR maK ayw1 nyw1 Hyw1 yw1, RdR maK ayv1 nyv1 Hyv1 yv1, OwnR maK 28 2 ayp1 nyp1 cyp1 Hyp1 yp1, OwnR maK 28 2 ayq1 nyq1 cyq1 Hyq1 yq1]) (fun x => [(3, .pointer (some ⟨bka6, 0, none⟩)), (4, .pointer (some ⟨bka7, 0, none⟩)), (5, .pointer (some ⟨bka8, 0, none⟩)), (6, .int .i64 ((Math.gameAt y1 yw1 yv1 pl1 yp1 ql1 yq1).1)), (17, .int .i64 x.2), (18, .int .i64 (i : Int)), (19, .int .i64 (x.1 : Int))]) (0, s) ⟨Nat.zero_le _, by dsimp only; rw [hsk]; exact (Int.add_zero _).symm⟩ (fun _ h => h) ⟨rfl, rfl, rfl, rfl, rfl, rfl, rfl, trivial⟩ ?_
         rintro ⟨j, t⟩ τ2 ⟨hj, hst⟩
         dsimp only at hj hst
         refine hRe [(3, .pointer (some ⟨bka6, 0, none⟩)), (4, .pointer (some ⟨bka7, 0, none⟩)), (5, .pointer (some ⟨bka8, 0, none⟩)), (6, .int .i64 ((Math.gameAt y1 yw1 yv1 pl1 yp1 ql1 yq1).1)), (17, .int .i64 t), (18, .int .i64 (i : Int)), (19, .int .i64 (j : Int))] [blk bka12 43 [.slice ay2 ny2 cy2, .slice ayw2 nyw2 cyw2, .slice ayv2 nyv2 cyv2], RdR ndK ay2 ny2 Hy2 y2, RdR maK ayw2 nyw2 Hyw2 yw2, RdR maK ayv2 nyv2 Hyv2 yv2, blk bka8 56 [.int .i64 ql1, .slice ayq1 nyq1 cyq1], blk bka7 56 [.int .i64 pl1, .slice ayp1 nyp1 cyp1], blk bka6 43 [.slice ay1 ny1 cy1, .slice ayw1 nyw1 cyw1, .slice ayv1 nyv1 cyv1], RdR ndK ay1 ny1 Hy1 y1, RdR maK ayw1 nyw1 Hyw1 yw1, RdR maK ayv1 nyv1 Hyv1 yv1, OwnR maK 28 2 ayp1 nyp1 cyp1 Hyp1 yp1, OwnR maK 28 2 ayq1 nyq1 cyq1 Hyq1 yq1] rfl rfl ?_
         refine hSeq ?_
         refine hSeq ?_
         refine hReg (sq 0 (sq 1 (sl 2 (sq 3 (sq 4 sz))))) (by kernel_rfl) ?_
         refine mvI rfl rfl rfl ?_
         refine fld fl43_1 rfl rfl rfl ?_
         refine ldl Try.isAgg41 (cB 6 rfl rfl) trv rfl rfl rfl ?_
         refine lenS Try.runUnderlying41 rfl rfl rfl ?_
         refine lss rfl rfl rfl rfl ?_
         refine rNil ?_
         refine qSeq rfl ?_
         refine hIfD rfl (fun c9 => ?_) (fun c9 => ?_)
         ·
          replace c9 : (j : Int) < (nyw1 : Int) := c9
          have hdl := Math.deal_at lenn2 hgp (show i < nyw1 by omega) (show j < nyw1 by omega)
          have hb1 := Math.numTo_bd hP lenn2 i (by omega)
          have hb2 := Math.numRow_bd hP lenn2 (show i < nyw1 by omega) j (by omega)
          have hb3 := Math.dealN_bd hP lenn2 (show i < nyw1 by omega) (show j < nyw1 by omega)
          have hrl := Math.row_len (Math.mat_row (Math.isGame_ok hP.g).2.2.1 (show i < yw1.length by omega))
          refine hSkip ?_
          refine qSeq rfl ?_
          refine hSeq ?_
          refine hBlk ?_
          refine hSeq ?_
          refine hReg (sl 0 (sl 1 (sl 2 (sq 3 (sq 4 (sl 5 (sq 6 (sq 7 (sq 8 (sq 9 (sq 10 sz))))))))))) (by kernel_rfl) ?_
          refine ldAl Try.isAgg43 Try.sizeOf43 (cBs 6 rfl) trv rfl rfl rfl rfl ?_
          refine ldAl Try.isAgg56 Try.sizeOf56 (cBs 5 rfl) trv rfl rfl rfl rfl ?_
          refine ldAl Try.isAgg56 Try.sizeOf56 (cBs 4 rfl) trv rfl rfl rfl rfl ?_
          refine mvI rfl rfl rfl ?_
          refine mvI rfl rfl rfl ?_
          refine callP (v := .tuple #[.int .i64 ((Math.dealAt y1 yw1 yv1 pl1 yp1 ql1 yq1 (i : Int) (j : Int)).1), .int .i64 ((Math.dealAt y1 yw1 yv1 pl1 yp1 ql1 yq1 (i : Int) (j : Int)).2)]) Try.call84 trv rfl rfl (fun w hs => impl_DealNumber_c _ ny1 cy1 _ _ _ nyw1 cyw1 _ _ _ nyv1 cyv1 _ _ _ _ nyp1 cyp1 _ _ _ _ nyq1 cyq1 _ _ _ _ w (hs.at_ 7 rfl) (hs.at_ 8 rfl) (hs.at_ 9 rfl) (OwnR.rd (hs.at_ 10 rfl) maK.ok) (OwnR.rd (hs.at_ 11 rfl) maK.ok)) ?_
          refine mv rfl rfl rfl ?_
          refine ext rfl rfl rfl rfl ?_
          refine ext rfl rfl rfl rfl ?_
          refine asI rfl rfl rfl ?_
          refine asI rfl rfl rfl ?_
          refine rNil ?_
          refine qSeq rfl ?_
          refine hSeq ?_
          refine hSeq ?_
          refine hReg (sq 0 (sq 1 sz)) (by kernel_rfl) ?_
          refine mvI rfl rfl rfl ?_
          refine neq rfl rfl rfl rfl ?_
          refine rNil ?_
          refine qSeq rfl ?_
          refine hIfD rfl (fun c10 => ?_) (fun c10 => ?_)
          ·
           replace c10 : (Math.dealAt y1 yw1 yv1 pl1 yp1 ql1 yq1 (i : Int) (j : Int)).2 ≠ 0 := c10
           exact absurd hdl.1 c10
          ·
           replace c10 : ¬ ((Math.dealAt y1 yw1 yv1 pl1 yp1 ql1 yq1 (i : Int) (j : Int)).2 ≠ 0) := c10
           refine hSkip ?_
           refine qSeq rfl ?_
           refine hReg (sq 0 (sq 1 (sl 2 (sq 3 (sq 4 (sl 5 (sq 6 (sq 7 (sl 8 (sq 9 (sq 10 (sq 11 (sq 12 sz))))))))))))) (by kernel_rfl) ?_
           refine mvI rfl rfl rfl ?_
           refine fld fl43_1 rfl rfl rfl ?_
           refine ldl Try.isAgg41 (cB 6 rfl rfl) trv rfl rfl rfl ?_
           refine mvI rfl rfl rfl ?_
           refine ixRl (zn := i) (yw1.getD i []) el41 (Kn.at_ 8 rfl) rfl rfl rfl rfl (by omega) (by omega) rfl (nth [] (by omega)) ?_
           intro be3 oe3 e3
           refine ldl Try.isAgg28 (Kn.fld e3 0 rfl) trv rfl rfl rfl ?_
           refine mvI rfl rfl rfl ?_
           refine ixIl (zn := j) el28 ((Kn.imp (Kn.at_ 8 rfl) fun _ h => h.kidM (nth [] (by omega)))) rfl rfl rfl rfl (by omega) (by omega) rfl ?_
           intro ae4 e4
           refine ldl Try.isAgg2 (e4) trv rfl rfl rfl ?_
           refine mvI rfl rfl rfl ?_
           refine mul rfl rfl rfl rfl (by first | omega | (dsimp only; omega)) ?_
           refine add rfl rfl rfl rfl (by first | omega | (dsimp only; omega)) ?_
           refine asI rfl rfl rfl ?_
           refine rNil ?_
           refine qSeq rfl ?_
           refine hReg (sq 0 (sq 1 (sq 2 sz))) (by kernel_rfl) ?_
           refine mvI rfl rfl rfl ?_
           refine add rfl rfl rfl rfl (by first | omega | (dsimp only; omega)) ?_
           refine asI rfl rfl rfl ?_
           refine rNil ?_
           exact qNext rfl ((j + 1, (t + (((yw1.getD i []).getD j 0) * (Math.dealAt y1 yw1 yv1 pl1 yp1 ql1 yq1 (i : Int) (j : Int)).1)))) (by dsimp only; omega) ⟨by dsimp only; omega, by dsimp only; rw [hst, hdl.2, Math.numRow_s, Int.add_assoc]⟩ ⟨rfl, rfl, rfl, rfl, rfl, rfl, rfl, trivial⟩ (fun _ h => h)
         ·
          replace c9 : ¬ ((j : Int) < (nyw1 : Int)) := c9
          refine hExit rfl ?_
          refine qSeq rfl ?_
          refine hReg (sq 0 (sq 1 (sq 2 sz))) (by kernel_rfl) ?_
          refine mvI rfl rfl rfl ?_
          refine add rfl rfl rfl rfl (by first | omega | (dsimp only; omega)) ?_
          refine asI rfl rfl rfl ?_
          refine rNil ?_
          exact qNext rfl (i + 1, t) (by dsimp only; omega) ⟨by dsimp only; omega, by dsimp only; rw [hst, Math.numTo_s, show j = nyw1 from by omega]⟩ ⟨rfl, rfl, rfl, rfl, rfl, rfl, trivial⟩ (fun _ h => h)
        ·
         replace c8 : ¬ ((i : Int) < (nyw1 : Int)) := c8
         have hfin : s = (Math.gameAt y1 yw1 yv1 pl1 yp1 ql1 yq1).1 := by rw [hsk, hgk, show i = nyw1 from by omega]
         have hnb := Math.numTo_bd hP lenn2 nyw1 (Nat.le_refl _)
         have hgb : (Math.gameAt y1 yw1 yv1 pl1 yp1 ql1 yq1).1 = Math.numTo y1 yw1 yv1 nyw1 yp1 yq1 nyw1 := by rw [hgk]
         refine hExit rfl ?_
         refine qSeq rfl ?_
         refine hSeq ?_
         refine hReg (sl 0 (sl 1 (sq 2 (sq 3 (sq 4 (sl 5 (sl 6 (sq 7 sz)))))))) (by kernel_rfl) ?_
         refine ldAl Try.isAgg43 Try.sizeOf43 (cBs 6 rfl) trv rfl rfl rfl rfl ?_
         refine callS Try.call32 trv1 rfl rfl (fun w hs => impl_MirrorGame_c _ ny1 cy1 _ _ _ nyw1 cyw1 _ _ _ nyv1 cyv1 _ _ w (hs.at_ 7 rfl) (hs.at_ 8 rfl) (hs.at_ 9 rfl)) ?_
         rintro ⟨ay5, ny5, cy5, Hy5, y5, ayw5, nyw5, cyw5, Hyw5, yw5, ayv5, nyv5, cyv5, Hyv5, yv5, q5⟩ ⟨hr5a, hr5b, hr5c, hr5d⟩
         dsimp only at hr5a hr5b hr5c hr5d
         subst y5
         subst yw5
         subst yv5
         subst q5
         refine rPieces (L' := [OwnR ndK 88 2 ay5 ny5 cy5 Hy5 ((((Math.mirAt y1 yw1 yv1).1.1))), OwnR maK 28 2 ayw5 nyw5 cyw5 Hyw5 ((((Math.mirAt y1 yw1 yv1).1.2.1))), OwnR maK 28 2 ayv5 nyv5 cyv5 Hyv5 ((((Math.mirAt y1 yw1 yv1).1.2.2))), blk bka12 43 [.slice ay2 ny2 cy2, .slice ayw2 nyw2 cyw2, .slice ayv2 nyv2 cyv2], RdR ndK ay2 ny2 Hy2 y2, RdR maK ayw2 nyw2 Hyw2 yw2, RdR maK ayv2 nyv2 Hyv2 yv2, blk bka8 56 [.int .i64 ql1, .slice ayq1 nyq1 cyq1], blk bka7 56 [.int .i64 pl1, .slice ayp1 nyp1 cyp1], blk bka6 43 [.slice ay1 ny1 cy1, .slice ayw1 nyw1 cyw1, .slice ayv1 nyv1 cyv1], RdR ndK ay1 ny1 Hy1 y1, RdR maK ayw1 nyw1 Hyw1 yw1, RdR maK ayv1 nyv1 Hyv1 yv1, OwnR maK 28 2 ayp1 nyp1 cyp1 Hyp1 yp1, OwnR maK 28 2 ayq1 nyq1 cyq1 Hyq1 yq1]) (fun _ h => h) ?_
         refine rKnow (fun w hs => (show OwnR ndK 88 2 ay5 ny5 cy5 Hy5 ((((Math.mirAt y1 yw1 yv1).1.1))) w from hs.at_ 0 rfl).1) (fun lenn13 => ?_)
         refine rKnow (fun w hs => (show OwnR maK 28 2 ayw5 nyw5 cyw5 Hyw5 ((((Math.mirAt y1 yw1 yv1).1.2.1))) w from hs.at_ 1 rfl).1) (fun lenn14 => ?_)
         refine rKnow (fun w hs => (show OwnR maK 28 2 ayv5 nyv5 cyv5 Hyv5 ((((Math.mirAt y1 yw1 yv1).1.2.2))) w from hs.at_ 2 rfl).1) (fun lenn15 => ?_)
         refine rVal (v' := .tuple #[.agg #[.slice ay5 ny5 cy5, .slice ayw5 nyw5 cyw5, .slice ayv5 nyv5 cyv5], .int .i64 ((((Math.mirAt y1 yw1 yv1).2)))]) rfl ?_
         refine mv rfl rfl rfl ?_
         refine ext rfl rfl rfl rfl ?_
         refine ext rfl rfl rfl rfl ?_
         refine alc Try.zeroValue43 rfl trv1 rfl rfl (fun bka16 hbka16 => ?_)
         refine stAl (vs := [.slice ay5 ny5 cy5, .slice ayw5 nyw5 cyw5, .slice ayv5 nyv5 cyv5]) 0 rfl Try.sizeOf43 trv rfl rfl rfl rfl rfl (by simp [Value.oneCell']) rfl ?_
         refine asI rfl rfl rfl ?_
         refine rNil ?_
         refine qSeq rfl ?_
         refine hSeq ?_
         refine hReg (sl 0 (sq 1 (sl 2 (sq 3 (sq 4 (sl 5 (sq 6 (sl 7 (sq 8 (sq 9 (sq 10 (sq 11 (sq 12 (sq 13 (sq 14 sz))))))))))))))) (by kernel_rfl) ?_
         refine ldAl Try.isAgg43 Try.sizeOf43 (cBs 0 rfl) trv rfl rfl rfl rfl ?_
         refine fld fl56_1 rfl rfl rfl ?_
         refine ldl Try.isAgg41 (cB 8 rfl rfl) trv rfl rfl rfl ?_
         refine bld rfl rfl rfl (bld56_0_1 (.int .i64 _) (.slice _ _ _) rfl rfl) ?_
         refine fld fl56_1 rfl rfl rfl ?_
         refine ldl Try.isAgg41 (cB 9 rfl rfl) trv rfl rfl rfl ?_
         refine bld rfl rfl rfl (bld56_0_1 (.int .i64 _) (.slice _ _ _) rfl rfl) ?_
         refine callP (v := .tuple #[.int .i64 ((Math.gameAt ((((Math.mirAt y1 yw1 yv1).1.1))) ((((Math.mirAt y1 yw1 yv1).1.2.1))) ((((Math.mirAt y1 yw1 yv1).1.2.2))) (0 : Int) yq1 (1 : Int) yp1).1), .int .i64 ((Math.gameAt ((((Math.mirAt y1 yw1 yv1).1.1))) ((((Math.mirAt y1 yw1 yv1).1.2.1))) ((((Math.mirAt y1 yw1 yv1).1.2.2))) (0 : Int) yq1 (1 : Int) yp1).2.1), .int .i64 ((Math.gameAt ((((Math.mirAt y1 yw1 yv1).1.1))) ((((Math.mirAt y1 yw1 yv1).1.2.1))) ((((Math.mirAt y1 yw1 yv1).1.2.2))) (0 : Int) yq1 (1 : Int) yp1).2.2)]) Try.call80 trv rfl rfl (fun w hs => impl_GameNumber_c _ ny5 cy5 _ _ _ nyw5 cyw5 _ _ _ nyv5 cyv5 _ _ _ _ nyq1 cyq1 _ _ _ _ nyp1 cyp1 _ _ w (OwnR.rd (hs.at_ 1 rfl) ndK.ok) (OwnR.rd (hs.at_ 2 rfl) maK.ok) (OwnR.rd (hs.at_ 3 rfl) maK.ok) (OwnR.rd (hs.at_ 15 rfl) maK.ok) (OwnR.rd (hs.at_ 14 rfl) maK.ok)) ?_
         refine mv rfl rfl rfl ?_
         refine ext rfl rfl rfl rfl ?_
         refine ext rfl rfl rfl rfl ?_
         refine ext rfl rfl rfl rfl ?_
         refine asI rfl rfl rfl ?_
         refine asI rfl rfl rfl ?_
         refine asI rfl rfl rfl ?_
         refine rNil ?_
         refine qSeq rfl ?_
         refine hSeq ?_
         refine hReg (sq 0 (sq 1 (sq 2 (sq 3 (sq 4 (sq 5 (sq 6 (sq 7 (sq 8 (sq 9 (sq 10 (sq 11 (sq 12 (sq 13 (sq 14 (sq 15 (sq 16 (sq 17 sz)))))))))))))))))) (by kernel_rfl) ?_
         refine mvI rfl rfl rfl ?_
         refine mvI rfl rfl rfl ?_
         refine eql rfl rfl rfl rfl ?_
         refine mvB rfl rfl rfl ?_
         refine rBoolD (d := 145) rfl (fun g11 => ?_) (fun g11 => ?_)
         ·
          replace g11 : s = (Math.gameAt y1 yw1 yv1 pl1 yp1 ql1 yq1).1 := g11
          refine mvI rfl rfl rfl ?_
          refine eql rfl rfl rfl rfl ?_
          refine pickB rfl rfl rfl rfl ?_
          refine mvB rfl rfl rfl ?_
          refine rBoolD (d := 149) rfl (fun g12 => ?_) (fun g12 => ?_)
          ·
           replace g12 : (((Math.mirAt y1 yw1 yv1).2)) = 0 := g12
           refine mvI rfl rfl rfl ?_
           refine eql rfl rfl rfl rfl ?_
           refine pickB rfl rfl rfl rfl ?_
           refine mvB rfl rfl rfl ?_
           refine rBoolD (d := 153) rfl (fun g13 => ?_) (fun g13 => ?_)
           ·
            replace g13 : (Math.gameAt ((((Math.mirAt y1 yw1 yv1).1.1))) ((((Math.mirAt y1 yw1 yv1).1.2.1))) ((((Math.mirAt y1 yw1 yv1).1.2.2))) (0 : Int) yq1 (1 : Int) yp1).2.2 = 0 := g13
            refine mvI rfl rfl rfl ?_
            refine mvI rfl rfl rfl ?_
            refine neg rfl rfl rfl (by first | omega | (dsimp only; omega)) ?_
            refine eql rfl rfl rfl rfl ?_
            refine pickB rfl rfl rfl rfl ?_
            refine asB rfl rfl rfl ?_
            refine rNil ?_
            refine qSeq rfl ?_
            refine hRet ?_
            exact fun w hs => ⟨[.bool (decide ((Math.gameAt ((((Math.mirAt y1 yw1 yv1).1.1))) ((((Math.mirAt y1 yw1 yv1).1.2.1))) ((((Math.mirAt y1 yw1 yv1).1.2.2))) (0 : Int) yq1 (1 : Int) yp1).1 = (-(Math.gameAt y1 yw1 yv1 pl1 yp1 ql1 yq1).1)))], ⟨rfl, trivial⟩, ⟨by first | rfl | exact (bT hgm.2.1).symm, hs.upd⟩⟩
           ·
            replace g13 : ¬ ((Math.gameAt ((((Math.mirAt y1 yw1 yv1).1.1))) ((((Math.mirAt y1 yw1 yv1).1.2.1))) ((((Math.mirAt y1 yw1 yv1).1.2.2))) (0 : Int) yq1 (1 : Int) yp1).2.2 = 0) := g13
            exact absurd hgm.2.2 g13
          ·
           replace g12 : ¬ ((((Math.mirAt y1 yw1 yv1).2)) = 0) := g12
           exact absurd hgm.1 g12
         ·
          replace g11 : ¬ (s = (Math.gameAt y1 yw1 yv1 pl1 yp1 ql1 yq1).1) := g11
          exact absurd hfin g11
theorem cells5 : Try.prog.cellsOf 5 = 1 := by kernel_rfl
set_option maxHeartbeats 2000000 in
theorem fnNumbers_lifted (os : Os) (started : os.Started) (H : Type) (enc : TypeId × Value → H) :
  ReturnsInHanded {} Try.checked os 10 .any (Rows.fnNumbersSpec.pre6 enc Try.prog Try.f10 Rows.fnNumbersRow.domain false) (Rows.fnNumbersSpec.post enc Try.prog Try.f10 false true false false) := by
 refine returnsInHanded_of_change (C := Try.checked) own started (by kernel_rfl) Try.func10
  (ChangeSpec.witness6 (enc := enc) (C := Try.checked) false ⟨#[], #[.slice none 0 0], []⟩ 8 (by kernel_rfl) (by kernel_rfl) (by kernel_rfl) (by kernel_rfl)) ?_
 intro W base args ds gs before hval0 hW hcnd _
 have hval : ∀ (j : Nat) t v, Try.f10.params[j]? = some t → args[j]? = some v → Value.okWide Try.prog W .any base t v := hval0
 have hW' := hW
 obtain ⟨p, q, hA0, hV, rfl, hfz, hnd⟩ := hW
 have hA : DataW.TrodAll enc Try.prog W 0 (fun _ => true) true Try.f10.params.toList args.toList ds p := hA0
 rw [Try.params10] at hA hval
 obtain ⟨v0, vs0, d0, ds0, p0, q0, hargs, rfl, rfl, h0, r0⟩ := trodAll_cons hA
 obtain ⟨rfl, rfl, rfl⟩ := trodAll_nil r0
 obtain rfl : args = #[v0] := by cases args; simp_all
 obtain ⟨rfl, rfl⟩ := trodVars_none hV
 obtain ⟨ca, bs, cc, rfl, hwf, hmax, hca⟩ := open_slice_ints Try.underlying22 Try.underlying5 cells5 (hval 0 22 v0 rfl rfl) h0
 refine (laws_FnNumbers_c ca bs cc W hca hwf).mono fun e W' ⟨v, he, hv, hx⟩ => ?_
 subst he; subst hv
 exact ⟨_, rfl, law_post (tb := 4) hW' rfl rfl Try.underlying4 rfl rfl rfl (by kernel_rfl) hx⟩
theorem fnNumbers_holds : Rows.FnNumbersSaid :=
 OpenClaim.holds_of_wide 10 Try.f10 rfl rfl rfl rfl rfl rfl rfl ⟨rfl, rfl, rfl, rfl, rfl⟩ rfl rfl rfl rfl rfl (by kernel_rfl) Try.func10 (by kernel_rfl)
  (of_decide_eq_true (by kernel_rfl)) (by unfold Func.isWrapper; first | (rw [if_pos (by decide +kernel)]; kernel_rfl) | (rw [if_neg (by decide +kernel)]; exact ⟨rfl, rfl⟩))
  (fun os started H enc _ => fnNumbers_lifted os started H enc)
#print axioms fnNumbers_holds
end Go.Proofs.Ytjengglpbdgmnaa
