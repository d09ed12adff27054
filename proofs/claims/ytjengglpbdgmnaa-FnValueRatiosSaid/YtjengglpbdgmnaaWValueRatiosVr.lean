/- The law FnValueRatios returns true for all arguments. No condition. -/
import Derived.Test.YtjengglpbdgmnaaZ15Vr
import Derived.Test.YtjengglpbdgmnaaZ1Vr
import Derived.Test.YtjengglpbdgmnaaZ2Vr
import Derived.Test.YtjengglpbdgmnaaZ3Vr
import Derived.Test.YtjengglpbdgmnaaZ4Vr
import Derived.Test.YtjengglpbdgmnaaZ5Vr
import Derived.Test.YtjengglpbdgmnaaZ6Vr
import Derived.Test.YtjengglpbdgmnaaZ7Vr
import Derived.Test.YtjengglpbdgmnaaZ8Vr
import Derived.Test.YtjengglpbdgmnaaZ9Vr
import Derived.Test.YtjengglpbdgmnaaZ10Vr
import Derived.Test.YtjengglpbdgmnaaZ11Vr
import Derived.Test.YtjengglpbdgmnaaZ12Vr
import Derived.Test.YtjengglpbdgmnaaZ13Vr
import Derived.Test.YtjengglpbdgmnaaZ14Vr
import Derived.Test.YtjengglpbdgmnaaRows
namespace Go.Proofs.Ytjengglpbdgmnaa
open Go Go.RowKit V Go.ChangeShapes Go.WideShapes Go.ChangeAt
set_option linter.unusedVariables false
set_option linter.unusedSimpArgs false
set_option maxRecDepth 100000
set_option maxHeartbeats 4000000 in
theorem laws_FnValueRatios_c (ca : Option Addr) (bs : List Int) (cc : Nat) (w : World) (rcode : CellsAt ca (bs.map (Value.int .u8)) w) (hb : ∀ n ∈ bs, (Lit.int .u8 n).wf = true) :
  Calls Try.prog 11 #[.slice ca bs.length cc] w (Ret fun v w' => v = .bool true ∧ Ext w w') := by
 have kcode : Kn w none_ [] (CellsAt ca (bs.map (Value.int .u8))) := fun w' hs => rcode.ext hs.upd
 refine fn (M := none_) (rs := [.tmp 2]) Try.func11 rfl Try.ntmps11 rfl rfl (Sep.start _ _) ?_
 refine hSeq ?_
 refine hReg (sq 0 sz) (by kernel_rfl) ?_
 refine asB rfl rfl rfl ?_
 refine rNil ?_
 refine qSeq rfl ?_
 refine hSeq ?_
 refine hSeq ?_
 refine hReg (sq 0 (sl 1 sz)) (by kernel_rfl) ?_
 refine mvS rfl rfl rfl ?_
 refine callP (v := .bool (decide (4096 < ((bs.length : Nat) : Int)))) Try.call12 trv rfl rfl (fun w hs => laws_big_c _ _ cc w (kcode w hs)) ?_
 refine rNil ?_
 refine qSeq rfl ?_
 refine hIfD rfl (fun c1 => ?_) (fun c1 => ?_)
 ·
  replace c1 : 4096 < ((bs.length : Nat) : Int) := c1
  refine hSeq ?_
  refine hReg (sq 0 sz) (by kernel_rfl) ?_
  refine asB rfl rfl rfl ?_
  refine rNil ?_
  refine qSeq rfl ?_
  refine hRet ?_
  exact fun w hs => ⟨[.bool true], ⟨rfl, trivial⟩, ⟨by first | rfl | exact (bT hrd.2.2.1).symm, hs.upd⟩⟩
 ·
  replace c1 : ¬ (4096 < ((bs.length : Nat) : Int)) := c1
  have hok : okBytes bs := ⟨fun x hx => bounds_u8 (hb x hx), by omega⟩
  refine hSkip ?_
  refine qSeq rfl ?_
  refine hSeq ?_
  refine hReg (sq 0 (sl 1 (sq 2 (sq 3 (sq 4 (sq 5 (sl 6 (sl 7 (sl 8 (sl 9 (sl 10 (sl 11 sz)))))))))))) (by kernel_rfl) ?_
  refine mvS rfl rfl rfl ?_
  refine callS Try.call85 trv1 rfl rfl (fun w hs => spec_DrawValueRatio_c _ _ cc w (kcode w hs) (by assumption)) ?_
  rintro ⟨ay1, ny1, cy1, Hy1, y1, ayw1, nyw1, cyw1, Hyw1, yw1, ayv1, nyv1, cyv1, Hyv1, yv1, pl1, ayp1, nyp1, cyp1, Hyp1, yp1, ql1, ayq1, nyq1, cyq1, Hyq1, yq1⟩ hr1
  try dsimp only at hr1
  refine rPieces (L' := [RdR ndK ay1 ny1 Hy1 y1, RdR maK ayw1 nyw1 Hyw1 yw1, RdR maK ayv1 nyv1 Hyv1 yv1, OwnR maK 28 2 ayp1 nyp1 cyp1 Hyp1 yp1, OwnR maK 28 2 ayq1 nyq1 cyq1 Hyq1 yq1]) (fun _ h => h) ?_
  refine rKnow (fun w hs => (show RdR ndK ay1 ny1 Hy1 y1 w from hs.at_ 0 rfl).1) (fun lenn1 => ?_)
  refine rKnow (fun w hs => (show RdR maK ayw1 nyw1 Hyw1 yw1 w from hs.at_ 1 rfl).1) (fun lenn2 => ?_)
  refine rKnow (fun w hs => (show RdR maK ayv1 nyv1 Hyv1 yv1 w from hs.at_ 2 rfl).1) (fun lenn3 => ?_)
  refine rKnow (fun w hs => (show OwnR maK 28 2 ayp1 nyp1 cyp1 Hyp1 yp1 w from hs.at_ 3 rfl).1) (fun lenn4 => ?_)
  refine rKnow (fun w hs => (show OwnR maK 28 2 ayq1 nyq1 cyq1 Hyq1 yq1 w from hs.at_ 4 rfl).1) (fun lenn5 => ?_)
  refine rVal (v' := .tuple #[.agg #[.slice ay1 ny1 cy1, .slice ayw1 nyw1 cyw1, .slice ayv1 nyv1 cyv1], .agg #[.int .i64 pl1, .slice ayp1 nyp1 cyp1], .agg #[.int .i64 ql1, .slice ayq1 nyq1 cyq1]]) rfl ?_
  refine mv rfl rfl rfl ?_
  refine ext rfl rfl rfl rfl ?_
  refine ext rfl rfl rfl rfl ?_
  refine ext rfl rfl rfl rfl ?_
  refine alc Try.zeroValue43 rfl trv1 rfl rfl (fun bka6 hbka6 => ?_)
  refine alc Try.zeroValue56 rfl trv1 rfl rfl (fun bka7 hbka7 => ?_)
  refine alc Try.zeroValue56 rfl trv1 rfl rfl (fun bka8 hbka8 => ?_)
  refine stAl (vs := [.slice ay1 ny1 cy1, .slice ayw1 nyw1 cyw1, .slice ayv1 nyv1 cyv1]) 2 rfl Try.sizeOf43 trv rfl rfl rfl rfl rfl (by simp [Value.oneCell']) rfl ?_
  refine stAl (vs := [.int .i64 pl1, .slice ayp1 nyp1 cyp1]) 1 rfl Try.sizeOf56 trv rfl rfl rfl rfl rfl (by simp [Value.oneCell']) rfl ?_
  refine stAl (vs := [.int .i64 ql1, .slice ayq1 nyq1 cyq1]) 0 rfl Try.sizeOf56 trv rfl rfl rfl rfl rfl (by simp [Value.oneCell']) rfl ?_
  refine rNil ?_
  refine qSeq rfl ?_
  refine hSeq ?_
  refine hReg (sl 0 (sl 1 (sl 2 (sl 3 (sq 4 (sq 5 (sq 6 (sl 7 (sl 8 (sq 9 sz)))))))))) (by kernel_rfl) ?_
  refine ldAl Try.isAgg43 Try.sizeOf43 (cBs 2 rfl) trv rfl rfl rfl rfl ?_
  refine ldAl Try.isAgg56 Try.sizeOf56 (cBs 1 rfl) trv rfl rfl rfl rfl ?_
  refine ldAl Try.isAgg56 Try.sizeOf56 (cBs 0 rfl) trv rfl rfl rfl rfl ?_
  refine callP (v := .tuple #[.agg #[.int .i64 ((Math.ratioAt y1 yw1 yv1 pl1 yp1 ql1 yq1).1.1), .int .i64 ((Math.ratioAt y1 yw1 yv1 pl1 yp1 ql1 yq1).1.2)], .int .i64 ((Math.ratioAt y1 yw1 yv1 pl1 yp1 ql1 yq1).2)]) Try.call86 trv rfl rfl (fun w hs => impl_ValueRatio_c _ ny1 cy1 _ _ _ nyw1 cyw1 _ _ _ nyv1 cyv1 _ _ _ _ nyp1 cyp1 _ _ _ _ nyq1 cyq1 _ _ w (hs.at_ 3 rfl) (hs.at_ 4 rfl) (hs.at_ 5 rfl) (OwnR.rd (hs.at_ 6 rfl) maK.ok) (OwnR.rd (hs.at_ 7 rfl) maK.ok)) ?_
  refine mv rfl rfl rfl ?_
  refine ext rfl rfl rfl rfl ?_
  refine ext rfl rfl rfl rfl ?_
  refine alc Try.zeroValue65 rfl trv1 rfl rfl (fun bka9 hbka9 => ?_)
  refine stAl (vs := [.int .i64 ((Math.ratioAt y1 yw1 yv1 pl1 yp1 ql1 yq1).1.1), .int .i64 ((Math.ratioAt y1 yw1 yv1 pl1 yp1 ql1 yq1).1.2)]) 0 rfl Try.sizeOf65 trv rfl rfl rfl rfl rfl (by simp [Value.oneCell']) rfl ?_
  refine asI rfl rfl rfl ?_
  refine rNil ?_
  refine qSeq rfl ?_
  refine hSeq ?_
  refine hReg (sl 0 (sl 1 (sl 2 (sl 3 (sq 4 (sq 5 (sq 6 (sl 7 (sl 8 (sq 9 sz)))))))))) (by kernel_rfl) ?_
  refine ldAl Try.isAgg43 Try.sizeOf43 (cBs 3 rfl) trv rfl rfl rfl rfl ?_
  refine ldAl Try.isAgg56 Try.sizeOf56 (cBs 2 rfl) trv rfl rfl rfl rfl ?_
  refine ldAl Try.isAgg56 Try.sizeOf56 (cBs 1 rfl) trv rfl rfl rfl rfl ?_
  refine callP (v := .tuple #[.agg #[.int .i64 ((Math.ratioAt y1 yw1 yv1 pl1 yp1 ql1 yq1).1.1), .int .i64 ((Math.ratioAt y1 yw1 yv1 pl1 yp1 ql1 yq1).1.2)], .int .i64 ((Math.ratioAt y1 yw1 yv1 pl1 yp1 ql1 yq1).2)]) Try.call87 trv rfl rfl (fun w hs => spec_ValueRatio_c _ ny1 cy1 _ _ _ nyw1 cyw1 _ _ _ nyv1 cyv1 _ _ _ _ nyp1 cyp1 _ _ _ _ nyq1 cyq1 _ _ w (hs.at_ 4 rfl) (hs.at_ 5 rfl) (hs.at_ 6 rfl) (OwnR.rd (hs.at_ 7 rfl) maK.ok) (OwnR.rd (hs.at_ 8 rfl) maK.ok)) ?_
  refine mv rfl rfl rfl ?_
  refine ext rfl rfl rfl rfl ?_
  refine ext rfl rfl rfl rfl ?_
  refine alc Try.zeroValue65 rfl trv1 rfl rfl (fun bka10 hbka10 => ?_)
  refine stAl (vs := [.int .i64 ((Math.ratioAt y1 yw1 yv1 pl1 yp1 ql1 yq1).1.1), .int .i64 ((Math.ratioAt y1 yw1 yv1 pl1 yp1 ql1 yq1).1.2)]) 0 rfl Try.sizeOf65 trv rfl rfl rfl rfl rfl (by simp [Value.oneCell']) rfl ?_
  refine asI rfl rfl rfl ?_
  refine rNil ?_
  refine qSeq rfl ?_
  refine hSeq ?_
  refine hReg (sq 0 (sl 1 (sq 2 (sq 3 (sq 4 (sq 5 (sq 6 (sq 7 (sl 8 (sl 9 (sl 10 (sl 11 (sl 12 (sl 13 (sq 14 (sq 15 sz)))))))))))))))) (by kernel_rfl) ?_
  refine mvS rfl rfl rfl ?_
  refine callS Try.call88 trv1 rfl rfl (fun w hs => spec_DrawDealNumber_c _ _ cc w (Kn.drop (k := 10) kcode w hs) (by assumption)) ?_
  rintro ⟨ay2, ny2, cy2, Hy2, y2, ayw2, nyw2, cyw2, Hyw2, yw2, ayv2, nyv2, cyv2, Hyv2, yv2, pl2, ayp2, nyp2, cyp2, Hyp2, yp2, ql2, ayq2, nyq2, cyq2, Hyq2, yq2, qa2, qb2⟩ hr2
  try dsimp only at hr2
  refine rPieces (L' := [RdR ndK ay2 ny2 Hy2 y2, RdR maK ayw2 nyw2 Hyw2 yw2, RdR maK ayv2 nyv2 Hyv2 yv2, OwnR maK 28 2 ayp2 nyp2 cyp2 Hyp2 yp2, OwnR maK 28 2 ayq2 nyq2 cyq2 Hyq2 yq2, blk bka10 65 [.int .i64 ((Math.ratioAt y1 yw1 yv1 pl1 yp1 ql1 yq1).1.1), .int .i64 ((Math.ratioAt y1 yw1 yv1 pl1 yp1 ql1 yq1).1.2)], blk bka9 65 [.int .i64 ((Math.ratioAt y1 yw1 yv1 pl1 yp1 ql1 yq1).1.1), .int .i64 ((Math.ratioAt y1 yw1 yv1 pl1 yp1 ql1 yq1).1.2)], blk bka8 56 [.int .i64 ql1, .slice ayq1 nyq1 cyq1], blk bka7 56 [.int .i64 pl1, .slice ayp1 nyp1 cyp1], blk bka6 43 [.slice ay1 ny1 cy1, .slice ayw1 nyw1 cyw1, .slice ayv1 nyv1 cyv1], RdR ndK ay1 ny1 Hy1 y1, RdR maK ayw1 nyw1 Hyw1 yw1, RdR maK ayv1 nyv1 Hyv1 yv1, OwnR maK 28 2 ayp1 nyp1 cyp1 Hyp1 yp1, OwnR maK 28 2 ayq1 nyq1 cyq1 Hyq1 yq1]) (fun _ h => h) ?_
  refine rKnow (fun w hs => (show RdR ndK ay2 ny2 Hy2 y2 w from hs.at_ 0 rfl).1) (fun lenn11 => ?_)
  refine rKnow (fun w hs => (show RdR maK ayw2 nyw2 Hyw2 yw2 w from hs.at_ 1 rfl).1) (fun lenn12 => ?_)
  refine rKnow (fun w hs => (show RdR maK ayv2 nyv2 Hyv2 yv2 w from hs.at_ 2 rfl).1) (fun lenn13 => ?_)
  refine rKnow (fun w hs => (show OwnR maK 28 2 ayp2 nyp2 cyp2 Hyp2 yp2 w from hs.at_ 3 rfl).1) (fun lenn14 => ?_)
  refine rKnow (fun w hs => (show OwnR maK 28 2 ayq2 nyq2 cyq2 Hyq2 yq2 w from hs.at_ 4 rfl).1) (fun lenn15 => ?_)
  refine rVal (v' := .tuple #[.agg #[.slice ay2 ny2 cy2, .slice ayw2 nyw2 cyw2, .slice ayv2 nyv2 cyv2], .agg #[.int .i64 pl2, .slice ayp2 nyp2 cyp2], .agg #[.int .i64 ql2, .slice ayq2 nyq2 cyq2], .int .i64 qa2, .int .i64 qb2]) rfl ?_
  refine mv rfl rfl rfl ?_
  refine ext rfl rfl rfl rfl ?_
  refine ext rfl rfl rfl rfl ?_
  refine ext rfl rfl rfl rfl ?_
  refine ext rfl rfl rfl rfl ?_
  refine ext rfl rfl rfl rfl ?_
  refine alc Try.zeroValue43 rfl trv1 rfl rfl (fun bka16 hbka16 => ?_)
  refine alc Try.zeroValue56 rfl trv1 rfl rfl (fun bka17 hbka17 => ?_)
  refine alc Try.zeroValue56 rfl trv1 rfl rfl (fun bka18 hbka18 => ?_)
  refine stAl (vs := [.slice ay2 ny2 cy2, .slice ayw2 nyw2 cyw2, .slice ayv2 nyv2 cyv2]) 2 rfl Try.sizeOf43 trv rfl rfl rfl rfl rfl (by simp [Value.oneCell']) rfl ?_
  refine stAl (vs := [.int .i64 pl2, .slice ayp2 nyp2 cyp2]) 1 rfl Try.sizeOf56 trv rfl rfl rfl rfl rfl (by simp [Value.oneCell']) rfl ?_
  refine stAl (vs := [.int .i64 ql2, .slice ayq2 nyq2 cyq2]) 0 rfl Try.sizeOf56 trv rfl rfl rfl rfl rfl (by simp [Value.oneCell']) rfl ?_
  refine asI rfl rfl rfl ?_
  refine asI rfl rfl rfl ?_
  refine rNil ?_
  refine qSeq rfl ?_
  refine hSeq ?_
  refine hReg (sl 0 (sl 1 (sl 2 (sq 3 (sq 4 (sl 5 (sq 6 (sq 7 (sq 8 (sq 9 (sq 10 sz))))))))))) (by kernel_rfl) ?_
  refine ldAl Try.isAgg43 Try.sizeOf43 (cBs 2 rfl) trv rfl rfl rfl rfl ?_
  refine ldAl Try.isAgg56 Try.sizeOf56 (cBs 1 rfl) trv rfl rfl rfl rfl ?_
  refine ldAl Try.isAgg56 Try.sizeOf56 (cBs 0 rfl) trv rfl rfl rfl rfl ?_
  refine mvI rfl rfl rfl ?_
  refine mvI rfl rfl rfl ?_
  refine callP (v := .tuple #[.int .i64 ((Math.dealAt y2 yw2 yv2 pl2 yp2 ql2 yq2 qa2 qb2).1), .int .i64 ((Math.dealAt y2 yw2 yv2 pl2 yp2 ql2 yq2 qa2 qb2).2)]) Try.call84 trv rfl rfl (fun w hs => impl_DealNumber_c _ ny2 cy2 _ _ _ nyw2 cyw2 _ _ _ nyv2 cyv2 _ _ _ _ nyp2 cyp2 _ _ _ _ nyq2 cyq2 _ _ _ _ w (hs.at_ 3 rfl) (hs.at_ 4 rfl) (hs.at_ 5 rfl) (OwnR.rd (hs.at_ 6 rfl) maK.ok) (OwnR.rd (hs.at_ 7 rfl) maK.ok)) ?_
  refine mv rfl rfl rfl ?_
  refine ext rfl rfl rfl rfl ?_
  refine ext rfl rfl rfl rfl ?_
  refine asI rfl rfl rfl ?_
  refine asI rfl rfl rfl ?_
  refine rNil ?_
  refine qSeq rfl ?_
  refine hSeq ?_
  refine hReg (sl 0 (sl 1 (sl 2 (sq 3 (sq 4 (sl 5 (sq 6 (sq 7 (sq 8 (sq 9 (sq 10 sz))))))))))) (by kernel_rfl) ?_
  refine ldAl Try.isAgg43 Try.sizeOf43 (cBs 2 rfl) trv rfl rfl rfl rfl ?_
  refine ldAl Try.isAgg56 Try.sizeOf56 (cBs 1 rfl) trv rfl rfl rfl rfl ?_
  refine ldAl Try.isAgg56 Try.sizeOf56 (cBs 0 rfl) trv rfl rfl rfl rfl ?_
  refine mvI rfl rfl rfl ?_
  refine mvI rfl rfl rfl ?_
  refine callP (v := .tuple #[.int .i64 ((Math.dealAt y2 yw2 yv2 pl2 yp2 ql2 yq2 qa2 qb2).1), .int .i64 ((Math.dealAt y2 yw2 yv2 pl2 yp2 ql2 yq2 qa2 qb2).2)]) Try.call89 trv rfl rfl (fun w hs => spec_DealNumber_c _ ny2 cy2 _ _ _ nyw2 cyw2 _ _ _ nyv2 cyv2 _ _ _ _ nyp2 cyp2 _ _ _ _ nyq2 cyq2 _ _ _ _ w (hs.at_ 3 rfl) (hs.at_ 4 rfl) (hs.at_ 5 rfl) (OwnR.rd (hs.at_ 6 rfl) maK.ok) (OwnR.rd (hs.at_ 7 rfl) maK.ok)) ?_
  refine mv rfl rfl rfl ?_
  refine ext rfl rfl rfl rfl ?_
  refine ext rfl rfl rfl rfl ?_
  refine asI rfl rfl rfl ?_
  refine asI rfl rfl rfl ?_
  refine rNil ?_
  refine qSeq rfl ?_
  refine hSeq ?_
  refine hSeq ?_
  refine hReg (sq 0 (sq 1 (sq 2 (sq 3 (sl 4 (sl 5 (sq 6 (sq 7 (sq 8 (sq 9 (sq 10 (sq 11 (sq 12 (sq 13 (sq 14 (sq 15 (sq 16 (sq 17 sz)))))))))))))))))) (by kernel_rfl) ?_
  refine mvI rfl rfl rfl ?_
  refine mvI rfl rfl rfl ?_
  refine neq rfl rfl rfl rfl ?_
  refine mvB rfl rfl rfl ?_
  refine rBoolD (d := 77) rfl (fun g2 => ?_) (fun g2 => ?_)
  ·
   replace g2 : (Math.ratioAt y1 yw1 yv1 pl1 yp1 ql1 yq1).2 ≠ (Math.ratioAt y1 yw1 yv1 pl1 yp1 ql1 yq1).2 := g2
   exact absurd rfl g2
  ·
   replace g2 : ¬ ((Math.ratioAt y1 yw1 yv1 pl1 yp1 ql1 yq1).2 ≠ (Math.ratioAt y1 yw1 yv1 pl1 yp1 ql1 yq1).2) := g2
   refine ldAl Try.isAgg65 Try.sizeOf65 (cBs 9 rfl) trv rfl rfl rfl rfl ?_
   refine ldAl Try.isAgg65 Try.sizeOf65 (cBs 8 rfl) trv rfl rfl rfl rfl ?_
   refine neqR eq2R rfl rfl rfl rfl ?_
   refine pickB rfl rfl rfl rfl ?_
   refine mvB rfl rfl rfl ?_
   refine rBoolD (d := 82) rfl (fun g3 => ?_) (fun g3 => ?_)
   ·
    replace g3 : ¬ ((Math.ratioAt y1 yw1 yv1 pl1 yp1 ql1 yq1).1.1 = (Math.ratioAt y1 yw1 yv1 pl1 yp1 ql1 yq1).1.1 ∧ (Math.ratioAt y1 yw1 yv1 pl1 yp1 ql1 yq1).1.2 = (Math.ratioAt y1 yw1 yv1 pl1 yp1 ql1 yq1).1.2) := g3
    exact absurd ⟨rfl, rfl⟩ g3
   ·
    replace g3 : ¬ (¬ ((Math.ratioAt y1 yw1 yv1 pl1 yp1 ql1 yq1).1.1 = (Math.ratioAt y1 yw1 yv1 pl1 yp1 ql1 yq1).1.1 ∧ (Math.ratioAt y1 yw1 yv1 pl1 yp1 ql1 yq1).1.2 = (Math.ratioAt y1 yw1 yv1 pl1 yp1 ql1 yq1).1.2)) := g3
    refine mvI rfl rfl rfl ?_
    refine mvI rfl rfl rfl ?_
    refine neq rfl rfl rfl rfl ?_
    refine pickB rfl rfl rfl rfl ?_
    refine mvB rfl rfl rfl ?_
    refine rBoolD (d := 87) rfl (fun g4 => ?_) (fun g4 => ?_)
    ·
     replace g4 : (Math.dealAt y2 yw2 yv2 pl2 yp2 ql2 yq2 qa2 qb2).2 ≠ (Math.dealAt y2 yw2 yv2 pl2 yp2 ql2 yq2 qa2 qb2).2 := g4
     exact absurd rfl g4
    ·
     replace g4 : ¬ ((Math.dealAt y2 yw2 yv2 pl2 yp2 ql2 yq2 qa2 qb2).2 ≠ (Math.dealAt y2 yw2 yv2 pl2 yp2 ql2 yq2 qa2 qb2).2) := g4
     refine mvI rfl rfl rfl ?_
     refine mvI rfl rfl rfl ?_
     refine neq rfl rfl rfl rfl ?_
     refine pickB rfl rfl rfl rfl ?_
     refine rNil ?_
     refine qSeq rfl ?_
     refine hIfD rfl (fun c5 => ?_) (fun c5 => ?_)
     ·
      replace c5 : (Math.dealAt y2 yw2 yv2 pl2 yp2 ql2 yq2 qa2 qb2).1 ≠ (Math.dealAt y2 yw2 yv2 pl2 yp2 ql2 yq2 qa2 qb2).1 := c5
      exact absurd rfl c5
     ·
      replace c5 : ¬ ((Math.dealAt y2 yw2 yv2 pl2 yp2 ql2 yq2 qa2 qb2).1 ≠ (Math.dealAt y2 yw2 yv2 pl2 yp2 ql2 yq2 qa2 qb2).1) := c5
      refine hSkip ?_
      refine qSeq rfl ?_
      refine hSeq ?_
      refine hSeq ?_
      refine hReg (sq 0 (sq 1 sz)) (by kernel_rfl) ?_
      refine mvI rfl rfl rfl ?_
      refine neq rfl rfl rfl rfl ?_
      refine rNil ?_
      refine qSeq rfl ?_
      refine hIfD rfl (fun c6 => ?_) (fun c6 => ?_)
      ·
       replace c6 : (Math.ratioAt y1 yw1 yv1 pl1 yp1 ql1 yq1).2 ≠ 0 := c6
       refine hSeq ?_
       refine hReg (sq 0 sz) (by kernel_rfl) ?_
       refine asB rfl rfl rfl ?_
       refine rNil ?_
       refine qSeq rfl ?_
       refine hRet ?_
       exact fun w hs => ⟨[.bool true], ⟨rfl, trivial⟩, ⟨by first | rfl | exact (bT hrd.2.2.1).symm, hs.upd⟩⟩
      ·
       replace c6 : ¬ ((Math.ratioAt y1 yw1 yv1 pl1 yp1 ql1 yq1).2 ≠ 0) := c6
       have hrz := Classical.not_not.1 c6
       have hro := Math.ratio_ok hrz
       have hrc := Math.ratio_cmp hrz
       have hrd := Math.ratio_div hrz
       have hrb := Math.isRatio_bd hro.2.2.1
       refine hSkip ?_
       refine qSeq rfl ?_
       refine hSeq ?_
       refine hReg (sl 0 (sl 1 (sl 2 (sl 3 (sq 4 (sq 5 (sq 6 (sq 7 (sq 8 (sq 9 (sq 10 sz))))))))))) (by kernel_rfl) ?_
       refine ldAl Try.isAgg43 Try.sizeOf43 (cBs 12 rfl) trv rfl rfl rfl rfl ?_
       refine ldAl Try.isAgg56 Try.sizeOf56 (cBs 11 rfl) trv rfl rfl rfl rfl ?_
       refine ldAl Try.isAgg56 Try.sizeOf56 (cBs 10 rfl) trv rfl rfl rfl rfl ?_
       refine callP (v := .tuple #[.int .i64 ((Math.gameAt y1 yw1 yv1 pl1 yp1 ql1 yq1).1), .int .i64 ((Math.gameAt y1 yw1 yv1 pl1 yp1 ql1 yq1).2.1), .int .i64 ((Math.gameAt y1 yw1 yv1 pl1 yp1 ql1 yq1).2.2)]) Try.call80 trv rfl rfl (fun w hs => impl_GameNumber_c _ ny1 cy1 _ _ _ nyw1 cyw1 _ _ _ nyv1 cyv1 _ _ _ _ nyp1 cyp1 _ _ _ _ nyq1 cyq1 _ _ w (hs.at_ 13 rfl) (hs.at_ 14 rfl) (hs.at_ 15 rfl) (OwnR.rd (hs.at_ 16 rfl) maK.ok) (OwnR.rd (hs.at_ 17 rfl) maK.ok)) ?_
       refine mv rfl rfl rfl ?_
       refine ext rfl rfl rfl rfl ?_
       refine ext rfl rfl rfl rfl ?_
       refine ext rfl rfl rfl rfl ?_
       refine asI rfl rfl rfl ?_
       refine asI rfl rfl rfl ?_
       refine asI rfl rfl rfl ?_
       refine rNil ?_
       refine qSeq rfl ?_
       refine hSeq ?_
       refine hReg (sl 0 (sq 1 (sl 2 (sq 3 (sq 4 (sq 5 (sq 6 (sq 7 sz)))))))) (by kernel_rfl) ?_
       refine ldAl Try.isAgg65 Try.sizeOf65 (cBs 9 rfl) trv rfl rfl rfl rfl ?_
       refine bld rfl rfl rfl (bld65_0_1 (.int .i64 _) (.int .i64 _) rfl rfl) ?_
       refine callP (v := .tuple #[.int .i64 ((Math.cmpR (((Math.ratioAt y1 yw1 yv1 pl1 yp1 ql1 yq1).1.1), ((Math.ratioAt y1 yw1 yv1 pl1 yp1 ql1 yq1).1.2)) ((100 : Int), (1 : Int))).1), .int .i64 ((Math.cmpR (((Math.ratioAt y1 yw1 yv1 pl1 yp1 ql1 yq1).1.1), ((Math.ratioAt y1 yw1 yv1 pl1 yp1 ql1 yq1).1.2)) ((100 : Int), (1 : Int))).2)]) Try.call90 trv rfl rfl (fun w hs => impl_CompareRatios_c _ _ _ _ w ) ?_
       refine mv rfl rfl rfl ?_
       refine ext rfl rfl rfl rfl ?_
       refine ext rfl rfl rfl rfl ?_
       refine asI rfl rfl rfl ?_
       refine asI rfl rfl rfl ?_
       refine rNil ?_
       refine qSeq rfl ?_
       refine hSeq ?_
       refine hReg (sl 0 (sq 1 (sl 2 (sq 3 (sq 4 (sq 5 (sq 6 (sq 7 sz)))))))) (by kernel_rfl) ?_
       refine ldAl Try.isAgg65 Try.sizeOf65 (cBs 9 rfl) trv rfl rfl rfl rfl ?_
       refine bld rfl rfl rfl (bld65_0_1 (.int .i64 _) (.int .i64 _) rfl rfl) ?_
       refine callP (v := .tuple #[.int .i64 ((Math.cmpR (((Math.ratioAt y1 yw1 yv1 pl1 yp1 ql1 yq1).1.1), ((Math.ratioAt y1 yw1 yv1 pl1 yp1 ql1 yq1).1.2)) ((-100), (1 : Int))).1), .int .i64 ((Math.cmpR (((Math.ratioAt y1 yw1 yv1 pl1 yp1 ql1 yq1).1.1), ((Math.ratioAt y1 yw1 yv1 pl1 yp1 ql1 yq1).1.2)) ((-100), (1 : Int))).2)]) Try.call90 trv rfl rfl (fun w hs => impl_CompareRatios_c _ _ _ _ w ) ?_
       refine mv rfl rfl rfl ?_
       refine ext rfl rfl rfl rfl ?_
       refine ext rfl rfl rfl rfl ?_
       refine asI rfl rfl rfl ?_
       refine asI rfl rfl rfl ?_
       refine rNil ?_
       refine qSeq rfl ?_
       refine hSeq ?_
       refine hDraw (Ls := [blk bka9 65 [.int .i64 ((Math.ratioAt y1 yw1 yv1 pl1 yp1 ql1 yq1).1.1), .int .i64 ((Math.ratioAt y1 yw1 yv1 pl1 yp1 ql1 yq1).1.2)]]) (by kernel_rfl) (sq 0 (sq 1 (sq 2 (sq 3 (sq 4 (sq 5 (sq 6 (sq 7 (sq 8 (sq 9 (sq 10 (sq 11 (sq 12 (sq 13 (sq 14 (sq 15 (sq 16 (sq 17 (sq 18 (sq 19 (sq 20 (sq 21 (sq 22 (sq 23 (sq 24 (sq 25 (sq 26 (sq 27 (sq 28 (sq 29 (sq 30 (sq 31 (sq 32 (sq 33 (sq 34 (sq 35 (sq 36 sz))))))))))))))))))))))))))))))))))))) (by kernel_rfl) (.cons _ (.cons _ (.cons _ (.cons _ (.cons _ (.cons _ (.cons _ (.cons _ (.cons _ (.cons_cons _ (.cons _ (.cons _ (.cons _ (.cons _ (.cons _ (.cons _ (.cons _ (.cons _ .slnil)))))))))))))))))) ?_
       refine mvI rfl rfl rfl ?_
       refine eql rfl rfl rfl rfl ?_
       refine mvB rfl rfl rfl ?_
       refine rBoolD (d := 116) rfl (fun g7 => ?_) (fun g7 => ?_)
       ·
        replace g7 : (Math.gameAt y1 yw1 yv1 pl1 yp1 ql1 yq1).2.2 = 0 := g7
        refine mvI rfl rfl rfl ?_
        refine eql rfl rfl rfl rfl ?_
        refine pickB rfl rfl rfl rfl ?_
        refine mvB rfl rfl rfl ?_
        refine rBoolD (d := 120) rfl (fun g8 => ?_) (fun g8 => ?_)
        ·
         replace g8 : (Math.cmpR (((Math.ratioAt y1 yw1 yv1 pl1 yp1 ql1 yq1).1.1), ((Math.ratioAt y1 yw1 yv1 pl1 yp1 ql1 yq1).1.2)) ((100 : Int), (1 : Int))).2 = 0 := g8
         refine mvI rfl rfl rfl ?_
         refine eql rfl rfl rfl rfl ?_
         refine pickB rfl rfl rfl rfl ?_
         refine mvB rfl rfl rfl ?_
         refine rBoolD (d := 124) rfl (fun g9 => ?_) (fun g9 => ?_)
         ·
          replace g9 : (Math.cmpR (((Math.ratioAt y1 yw1 yv1 pl1 yp1 ql1 yq1).1.1), ((Math.ratioAt y1 yw1 yv1 pl1 yp1 ql1 yq1).1.2)) ((-100), (1 : Int))).2 = 0 := g9
          refine mvI rfl rfl rfl ?_
          refine leq rfl rfl rfl rfl ?_
          refine pickB rfl rfl rfl rfl ?_
          refine mvB rfl rfl rfl ?_
          refine rBoolD (d := 128) rfl (fun g10 => ?_) (fun g10 => ?_)
          ·
           replace g10 : (Math.cmpR (((Math.ratioAt y1 yw1 yv1 pl1 yp1 ql1 yq1).1.1), ((Math.ratioAt y1 yw1 yv1 pl1 yp1 ql1 yq1).1.2)) ((100 : Int), (1 : Int))).1 ≤ 0 := g10
           refine mvI rfl rfl rfl ?_
           refine geq rfl rfl rfl rfl ?_
           refine pickB rfl rfl rfl rfl ?_
           refine mvB rfl rfl rfl ?_
           refine rBoolD (d := 132) rfl (fun g11 => ?_) (fun g11 => ?_)
           ·
            replace g11 : 0 ≤ (Math.cmpR (((Math.ratioAt y1 yw1 yv1 pl1 yp1 ql1 yq1).1.1), ((Math.ratioAt y1 yw1 yv1 pl1 yp1 ql1 yq1).1.2)) ((-100), (1 : Int))).1 := g11
            refine mvI rfl rfl rfl ?_
            refine fld fl65_1 rfl rfl rfl ?_
            refine ldq Try.isAgg2 (cB 0 rfl rfl) rfl rfl rfl ?_
            refine rem rfl rfl rfl rfl (by first | omega | (dsimp only; omega)) ?_
            refine eql rfl rfl rfl rfl ?_
            refine pickB rfl rfl rfl rfl ?_
            refine mvB rfl rfl rfl ?_
            refine rBoolD (d := 139) rfl (fun g12 => ?_) (fun g12 => ?_)
            ·
             replace g12 : (((Math.gameAt y1 yw1 yv1 pl1 yp1 ql1 yq1).2.1) % ((Math.ratioAt y1 yw1 yv1 pl1 yp1 ql1 yq1).1.2)) = 0 := g12
             refine mvI rfl rfl rfl ?_
             refine fld fl65_1 rfl rfl rfl ?_
             refine ldq Try.isAgg2 (cB 0 rfl rfl) rfl rfl rfl ?_
             refine quo rfl rfl rfl rfl (by first | omega | (dsimp only; omega)) ?_
             refine fld fl65_0 rfl rfl rfl ?_
             refine ldq Try.isAgg2 (cB 0 rfl rfl) rfl rfl rfl ?_
             refine mul rfl rfl rfl rfl (by first | omega | (dsimp only; omega)) ?_
             refine mvI rfl rfl rfl ?_
             refine eql rfl rfl rfl rfl ?_
             refine pickB rfl rfl rfl rfl ?_
             refine asB rfl rfl rfl ?_
             refine rNil ?_
             refine qSeq rfl ?_
             refine hRet ?_
             exact fun w hs => ⟨[.bool (decide (((((Math.gameAt y1 yw1 yv1 pl1 yp1 ql1 yq1).2.1) / ((Math.ratioAt y1 yw1 yv1 pl1 yp1 ql1 yq1).1.2)) * (Math.ratioAt y1 yw1 yv1 pl1 yp1 ql1 yq1).1.1) = (Math.gameAt y1 yw1 yv1 pl1 yp1 ql1 yq1).1))], ⟨rfl, trivial⟩, ⟨by first | rfl | exact (bT hrd.2.2.1).symm, hs.upd⟩⟩
            ·
             replace g12 : ¬ ((((Math.gameAt y1 yw1 yv1 pl1 yp1 ql1 yq1).2.1) % ((Math.ratioAt y1 yw1 yv1 pl1 yp1 ql1 yq1).1.2)) = 0) := g12
             exact absurd hrd.2.1 g12
           ·
            replace g11 : ¬ (0 ≤ (Math.cmpR (((Math.ratioAt y1 yw1 yv1 pl1 yp1 ql1 yq1).1.1), ((Math.ratioAt y1 yw1 yv1 pl1 yp1 ql1 yq1).1.2)) ((-100), (1 : Int))).1) := g11
            exact absurd hrc.2.2 g11
          ·
           replace g10 : ¬ ((Math.cmpR (((Math.ratioAt y1 yw1 yv1 pl1 yp1 ql1 yq1).1.1), ((Math.ratioAt y1 yw1 yv1 pl1 yp1 ql1 yq1).1.2)) ((100 : Int), (1 : Int))).1 ≤ 0) := g10
           exact absurd hrc.1.2 g10
         ·
          replace g9 : ¬ ((Math.cmpR (((Math.ratioAt y1 yw1 yv1 pl1 yp1 ql1 yq1).1.1), ((Math.ratioAt y1 yw1 yv1 pl1 yp1 ql1 yq1).1.2)) ((-100), (1 : Int))).2 = 0) := g9
          exact absurd hrc.2.1 g9
        ·
         replace g8 : ¬ ((Math.cmpR (((Math.ratioAt y1 yw1 yv1 pl1 yp1 ql1 yq1).1.1), ((Math.ratioAt y1 yw1 yv1 pl1 yp1 ql1 yq1).1.2)) ((100 : Int), (1 : Int))).2 = 0) := g8
         exact absurd hrc.1.1 g8
       ·
        replace g7 : ¬ ((Math.gameAt y1 yw1 yv1 pl1 yp1 ql1 yq1).2.2 = 0) := g7
        exact absurd hro.2.1 g7
theorem cells5 : Try.prog.cellsOf 5 = 1 := by kernel_rfl
set_option maxHeartbeats 2000000 in
theorem fnValueRatios_lifted (os : Os) (started : os.Started) (H : Type) (enc : TypeId × Value → H) :
  ReturnsInHanded {} Try.checked os 11 .any (Rows.fnValueRatiosSpec.pre6 enc Try.prog Try.f11 Rows.fnValueRatiosRow.domain false) (Rows.fnValueRatiosSpec.post enc Try.prog Try.f11 false true false false) := by
 refine returnsInHanded_of_change (C := Try.checked) own started (by kernel_rfl) Try.func11
  (ChangeSpec.witness6 (enc := enc) (C := Try.checked) false ⟨#[], #[.slice none 0 0], []⟩ 8 (by kernel_rfl) (by kernel_rfl) (by kernel_rfl) (by kernel_rfl)) ?_
 intro W base args ds gs before hval0 hW hcnd _
 have hval : ∀ (j : Nat) t v, Try.f11.params[j]? = some t → args[j]? = some v → Value.okWide Try.prog W .any base t v := hval0
 have hW' := hW
 obtain ⟨p, q, hA0, hV, rfl, hfz, hnd⟩ := hW
 have hA : DataW.TrodAll enc Try.prog W 0 (fun _ => true) true Try.f11.params.toList args.toList ds p := hA0
 rw [Try.params11] at hA hval
 obtain ⟨v0, vs0, d0, ds0, p0, q0, hargs, rfl, rfl, h0, r0⟩ := trodAll_cons hA
 obtain ⟨rfl, rfl, rfl⟩ := trodAll_nil r0
 obtain rfl : args = #[v0] := by cases args; simp_all
 obtain ⟨rfl, rfl⟩ := trodVars_none hV
 obtain ⟨ca, bs, cc, rfl, hwf, hmax, hca⟩ := open_slice_ints Try.underlying22 Try.underlying5 cells5 (hval 0 22 v0 rfl rfl) h0
 refine (laws_FnValueRatios_c ca bs cc W hca hwf).mono fun e W' ⟨v, he, hv, hx⟩ => ?_
 subst he; subst hv
 exact ⟨_, rfl, law_post (tb := 4) hW' rfl rfl Try.underlying4 rfl rfl rfl (by kernel_rfl) hx⟩
theorem fnValueRatios_holds : Rows.FnValueRatiosSaid :=
 OpenClaim.holds_of_wide 11 Try.f11 rfl rfl rfl rfl rfl rfl rfl ⟨rfl, rfl, rfl, rfl, rfl⟩ rfl rfl rfl rfl rfl (by kernel_rfl) Try.func11 (by kernel_rfl)
  (of_decide_eq_true (by kernel_rfl)) (by unfold Func.isWrapper; first | (rw [if_pos (by decide +kernel)]; kernel_rfl) | (rw [if_neg (by decide +kernel)]; exact ⟨rfl, rfl⟩))
  (fun os started H enc _ => fnValueRatios_lifted os started H enc)
#print axioms fnValueRatios_holds
end Go.Proofs.Ytjengglpbdgmnaa
