/- The law FnPure returns true for all arguments. No condition. -/
import Derived.Test.YtjengglpbdgmnaaZ14Pu
import Derived.Test.YtjengglpbdgmnaaZ2Pu
import Derived.Test.YtjengglpbdgmnaaZ3Pu
import Derived.Test.YtjengglpbdgmnaaZ4Pu
import Derived.Test.YtjengglpbdgmnaaZ5Pu
import Derived.Test.YtjengglpbdgmnaaZ6Pu
import Derived.Test.YtjengglpbdgmnaaZ7Pu
import Derived.Test.YtjengglpbdgmnaaZ8Pu
import Derived.Test.YtjengglpbdgmnaaZ9Pu
import Derived.Test.YtjengglpbdgmnaaZ10Pu
import Derived.Test.YtjengglpbdgmnaaZ11Pu
import Derived.Test.YtjengglpbdgmnaaZ12Pu
import Derived.Test.YtjengglpbdgmnaaZ13Pu
import Derived.Test.YtjengglpbdgmnaaRows
namespace Go.Proofs.Ytjengglpbdgmnaa
open Go Go.RowKit V Go.ChangeShapes Go.WideShapes Go.ChangeAt
set_option linter.unusedVariables false
set_option linter.unusedSimpArgs false
set_option maxRecDepth 100000
set_option maxHeartbeats 4000000 in
theorem laws_FnPure_c (ca : Option Addr) (bs : List Int) (cc : Nat) (w : World) (rcode : CellsAt ca (bs.map (Value.int .u8)) w) (hb : ∀ n ∈ bs, (Lit.int .u8 n).wf = true) :
  Calls Try.prog 8 #[.slice ca bs.length cc] w (Ret fun v w' => v = .bool true ∧ Ext w w') := by
 have kcode : Kn w none_ [] (CellsAt ca (bs.map (Value.int .u8))) := fun w' hs => rcode.ext hs.upd
 refine fn (M := none_) (rs := [.tmp 2]) Try.func8 rfl Try.ntmps8 rfl rfl (Sep.start _ _) ?_
 refine hSeq ?_
 refine hReg (sq 0 sz) (by kernel_rfl) ?_
 refine asB rfl rfl rfl ?_
 refine rNil ?_
 refine qSeq rfl ?_
 refine hSeq ?_
 refine hSeq ?_
 refine hReg (sq 0 (sl 1 sz)) (by kernel_rfl) ?_
 refine mvS rfl rfl rfl ?_
 refine callP (v := .bool (decide (4096 < ((bs.length : Nat) : Int)))) Try.call12 trv rfl rfl (fun w hs => laws_big_c _ _ cc w (kcode w hs)) ?_
 refine rNil ?_
 refine qSeq rfl ?_
 refine hIfD rfl (fun c1 => ?_) (fun c1 => ?_)
 ·
  replace c1 : 4096 < ((bs.length : Nat) : Int) := c1
  refine hSeq ?_
  refine hReg (sq 0 sz) (by kernel_rfl) ?_
  refine asB rfl rfl rfl ?_
  refine rNil ?_
  refine qSeq rfl ?_
  refine hRet ?_
  exact fun w hs => ⟨[.bool true], ⟨rfl, trivial⟩, ⟨by rfl, hs.upd⟩⟩
 ·
  replace c1 : ¬ (4096 < ((bs.length : Nat) : Int)) := c1
  have hok : okBytes bs := ⟨fun x hx => bounds_u8 (hb x hx), by omega⟩
  refine hSkip ?_
  refine qSeq rfl ?_
  refine hSeq ?_
  refine hReg (sq 0 (sl 1 (sq 2 (sq 3 (sq 4 (sq 5 (sl 6 (sl 7 (sq 8 (sq 9 sz)))))))))) (by kernel_rfl) ?_
  refine mvS rfl rfl rfl ?_
  refine callS Try.call60 trv1 rfl rfl (fun w hs => spec_DrawPureStrategy_c _ _ cc w (kcode w hs) (by assumption)) ?_
  rintro ⟨ay1, ny1, cy1, Hy1, y1, ayw1, nyw1, cyw1, Hyw1, yw1, ayv1, nyv1, cyv1, Hyv1, yv1, q1, qa1⟩ hr1
  try dsimp only at hr1
  refine rPieces (L' := [RdR ndK ay1 ny1 Hy1 y1, RdR maK ayw1 nyw1 Hyw1 yw1, RdR maK ayv1 nyv1 Hyv1 yv1]) (fun _ h => h) ?_
  refine rKnow (fun w hs => (show RdR ndK ay1 ny1 Hy1 y1 w from hs.at_ 0 rfl).1) (fun lenn1 => ?_)
  refine rKnow (fun w hs => (show RdR maK ayw1 nyw1 Hyw1 yw1 w from hs.at_ 1 rfl).1) (fun lenn2 => ?_)
  refine rKnow (fun w hs => (show RdR maK ayv1 nyv1 Hyv1 yv1 w from hs.at_ 2 rfl).1) (fun lenn3 => ?_)
  refine rVal (v' := .tuple #[.agg #[.slice ay1 ny1 cy1, .slice ayw1 nyw1 cyw1, .slice ayv1 nyv1 cyv1], .int .i64 q1, .int .i64 qa1]) rfl ?_
  refine mv rfl rfl rfl ?_
  refine ext rfl rfl rfl rfl ?_
  refine ext rfl rfl rfl rfl ?_
  refine ext rfl rfl rfl rfl ?_
  refine alc Try.zeroValue43 rfl trv1 rfl rfl (fun bka4 hbka4 => ?_)
  refine stAl (vs := [.slice ay1 ny1 cy1, .slice ayw1 nyw1 cyw1, .slice ayv1 nyv1 cyv1]) 0 rfl Try.sizeOf43 trv rfl rfl rfl rfl rfl (by simp [Value.oneCell']) rfl ?_
  refine asI rfl rfl rfl ?_
  refine asI rfl rfl rfl ?_
  refine rNil ?_
  refine qSeq rfl ?_
  refine hSeq ?_
  refine hReg (sl 0 (sq 1 (sq 2 (sl 3 (sq 4 (sq 5 (sq 6 (sl 7 (sl 8 (sq 9 sz)))))))))) (by kernel_rfl) ?_
  refine ldAl Try.isAgg43 Try.sizeOf43 (cBs 0 rfl) trv rfl rfl rfl rfl ?_
  refine mvI rfl rfl rfl ?_
  refine mvI rfl rfl rfl ?_
  refine callS Try.call61 trv1 rfl rfl (fun w hs => impl_PureStrategy_c _ ny1 cy1 _ _ _ nyw1 cyw1 _ _ _ nyv1 cyv1 _ _ _ _ w (hs.at_ 1 rfl) (hs.at_ 2 rfl) (hs.at_ 3 rfl)) ?_
  rintro ⟨pl2, ay2, ny2, cy2, Hy2, y2, q2⟩ ⟨hr2a, hr2b, hr2c⟩
  dsimp only at hr2a hr2b hr2c
  subst pl2
  subst y2
  subst q2
  refine rPieces (L' := [OwnR maK 28 2 ay2 ny2 cy2 Hy2 ((((Math.pureAt y1 yw1 yv1 q1 qa1).1.2))), blk bka4 43 [.slice ay1 ny1 cy1, .slice ayw1 nyw1 cyw1, .slice ayv1 nyv1 cyv1], RdR ndK ay1 ny1 Hy1 y1, RdR maK ayw1 nyw1 Hyw1 yw1, RdR maK ayv1 nyv1 Hyv1 yv1]) (fun _ h => h) ?_
  refine rKnow (fun w hs => (show OwnR maK 28 2 ay2 ny2 cy2 Hy2 ((((Math.pureAt y1 yw1 yv1 q1 qa1).1.2))) w from hs.at_ 0 rfl).1) (fun lenn5 => ?_)
  refine rVal (v' := .tuple #[.agg #[.int .i64 ((((Math.pureAt y1 yw1 yv1 q1 qa1).1.1))), .slice ay2 ny2 cy2], .int .i64 ((((Math.pureAt y1 yw1 yv1 q1 qa1).2)))]) rfl ?_
  refine mv rfl rfl rfl ?_
  refine ext rfl rfl rfl rfl ?_
  refine ext rfl rfl rfl rfl ?_
  refine alc Try.zeroValue56 rfl trv1 rfl rfl (fun bka6 hbka6 => ?_)
  refine stAl (vs := [.int .i64 ((((Math.pureAt y1 yw1 yv1 q1 qa1).1.1))), .slice ay2 ny2 cy2]) 0 rfl Try.sizeOf56 trv rfl rfl rfl rfl rfl (by simp [Value.oneCell']) rfl ?_
  refine asI rfl rfl rfl ?_
  refine rNil ?_
  refine qSeq rfl ?_
  refine hSeq ?_
  refine hReg (sl 0 (sq 1 (sq 2 (sl 3 (sq 4 (sq 5 (sq 6 (sl 7 (sl 8 (sq 9 sz)))))))))) (by kernel_rfl) ?_
  refine ldAl Try.isAgg43 Try.sizeOf43 (cBs 2 rfl) trv rfl rfl rfl rfl ?_
  refine mvI rfl rfl rfl ?_
  refine mvI rfl rfl rfl ?_
  refine callS Try.call62 trv1 rfl rfl (fun w hs => spec_PureStrategy_c _ ny1 cy1 _ _ _ nyw1 cyw1 _ _ _ nyv1 cyv1 _ _ _ _ w (hs.at_ 3 rfl) (hs.at_ 4 rfl) (hs.at_ 5 rfl)) ?_
  rintro ⟨pl3, ay3, ny3, cy3, Hy3, y3, q3⟩ ⟨hr3a, hr3b, hr3c⟩
  dsimp only at hr3a hr3b hr3c
  subst pl3
  subst y3
  subst q3
  refine rPieces (L' := [OwnR maK 28 2 ay3 ny3 cy3 Hy3 ((((Math.pureAt y1 yw1 yv1 q1 qa1).1.2))), blk bka6 56 [.int .i64 ((((Math.pureAt y1 yw1 yv1 q1 qa1).1.1))), .slice ay2 ny2 cy2], OwnR maK 28 2 ay2 ny2 cy2 Hy2 ((((Math.pureAt y1 yw1 yv1 q1 qa1).1.2))), blk bka4 43 [.slice ay1 ny1 cy1, .slice ayw1 nyw1 cyw1, .slice ayv1 nyv1 cyv1], RdR ndK ay1 ny1 Hy1 y1, RdR maK ayw1 nyw1 Hyw1 yw1, RdR maK ayv1 nyv1 Hyv1 yv1]) (fun _ h => h) ?_
  refine rKnow (fun w hs => (show OwnR maK 28 2 ay3 ny3 cy3 Hy3 ((((Math.pureAt y1 yw1 yv1 q1 qa1).1.2))) w from hs.at_ 0 rfl).1) (fun lenn7 => ?_)
  refine rVal (v' := .tuple #[.agg #[.int .i64 ((((Math.pureAt y1 yw1 yv1 q1 qa1).1.1))), .slice ay3 ny3 cy3], .int .i64 ((((Math.pureAt y1 yw1 yv1 q1 qa1).2)))]) rfl ?_
  refine mv rfl rfl rfl ?_
  refine ext rfl rfl rfl rfl ?_
  refine ext rfl rfl rfl rfl ?_
  refine alc Try.zeroValue56 rfl trv1 rfl rfl (fun bka8 hbka8 => ?_)
  refine stAl (vs := [.int .i64 ((((Math.pureAt y1 yw1 yv1 q1 qa1).1.1))), .slice ay3 ny3 cy3]) 0 rfl Try.sizeOf56 trv rfl rfl rfl rfl rfl (by simp [Value.oneCell']) rfl ?_
  refine asI rfl rfl rfl ?_
  refine rNil ?_
  refine qSeq rfl ?_
  refine hSeq ?_
  refine hReg (sq 0 (sl 1 (sq 2 (sq 3 (sq 4 (sl 5 (sl 6 (sq 7 sz)))))))) (by kernel_rfl) ?_
  refine mvS rfl rfl rfl ?_
  refine callS Try.call63 trv1 rfl rfl (fun w hs => spec_DrawCountPure_c _ _ cc w (Kn.drop (k := 8) kcode w hs) (by assumption)) ?_
  rintro ⟨ay4, ny4, cy4, Hy4, y4, ayw4, nyw4, cyw4, Hyw4, yw4, ayv4, nyv4, cyv4, Hyv4, yv4, q4⟩ hr4
  try dsimp only at hr4
  refine rPieces (L' := [RdR ndK ay4 ny4 Hy4 y4, RdR maK ayw4 nyw4 Hyw4 yw4, RdR maK ayv4 nyv4 Hyv4 yv4, blk bka8 56 [.int .i64 ((((Math.pureAt y1 yw1 yv1 q1 qa1).1.1))), .slice ay3 ny3 cy3], OwnR maK 28 2 ay3 ny3 cy3 Hy3 ((((Math.pureAt y1 yw1 yv1 q1 qa1).1.2))), blk bka6 56 [.int .i64 ((((Math.pureAt y1 yw1 yv1 q1 qa1).1.1))), .slice ay2 ny2 cy2], OwnR maK 28 2 ay2 ny2 cy2 Hy2 ((((Math.pureAt y1 yw1 yv1 q1 qa1).1.2))), blk bka4 43 [.slice ay1 ny1 cy1, .slice ayw1 nyw1 cyw1, .slice ayv1 nyv1 cyv1], RdR ndK ay1 ny1 Hy1 y1, RdR maK ayw1 nyw1 Hyw1 yw1, RdR maK ayv1 nyv1 Hyv1 yv1]) (fun _ h => h) ?_
  refine rKnow (fun w hs => (show RdR ndK ay4 ny4 Hy4 y4 w from hs.at_ 0 rfl).1) (fun lenn9 => ?_)
  refine rKnow (fun w hs => (show RdR maK ayw4 nyw4 Hyw4 yw4 w from hs.at_ 1 rfl).1) (fun lenn10 => ?_)
  refine rKnow (fun w hs => (show RdR maK ayv4 nyv4 Hyv4 yv4 w from hs.at_ 2 rfl).1) (fun lenn11 => ?_)
  refine rVal (v' := .tuple #[.agg #[.slice ay4 ny4 cy4, .slice ayw4 nyw4 cyw4, .slice ayv4 nyv4 cyv4], .int .i64 q4]) rfl ?_
  refine mv rfl rfl rfl ?_
  refine ext rfl rfl rfl rfl ?_
  refine ext rfl rfl rfl rfl ?_
  refine alc Try.zeroValue43 rfl trv1 rfl rfl (fun bka12 hbka12 => ?_)
  refine stAl (vs := [.slice ay4 ny4 cy4, .slice ayw4 nyw4 cyw4, .slice ayv4 nyv4 cyv4]) 0 rfl Try.sizeOf43 trv rfl rfl rfl rfl rfl (by simp [Value.oneCell']) rfl ?_
  refine asI rfl rfl rfl ?_
  refine rNil ?_
  refine qSeq rfl ?_
  refine hSeq ?_
  refine hReg (sl 0 (sq 1 (sl 2 (sq 3 (sq 4 (sq 5 (sq 6 (sq 7 sz)))))))) (by kernel_rfl) ?_
  refine ldAl Try.isAgg43 Try.sizeOf43 (cBs 0 rfl) trv rfl rfl rfl rfl ?_
  refine mvI rfl rfl rfl ?_
  refine callP (v := .tuple #[.int .i64 ((Math.countOf y4 yw4 yv4 q4).1), .int .i64 ((Math.countOf y4 yw4 yv4 q4).2)]) Try.call64 trv rfl rfl (fun w hs => impl_CountPure_c _ ny4 cy4 _ _ _ nyw4 cyw4 _ _ _ nyv4 cyv4 _ _ _ w (hs.at_ 1 rfl) (hs.at_ 2 rfl) (hs.at_ 3 rfl)) ?_
  refine mv rfl rfl rfl ?_
  refine ext rfl rfl rfl rfl ?_
  refine ext rfl rfl rfl rfl ?_
  refine asI rfl rfl rfl ?_
  refine asI rfl rfl rfl ?_
  refine rNil ?_
  refine qSeq rfl ?_
  refine hSeq ?_
  refine hReg (sl 0 (sq 1 (sl 2 (sq 3 (sq 4 (sq 5 (sq 6 (sq 7 sz)))))))) (by kernel_rfl) ?_
  refine ldAl Try.isAgg43 Try.sizeOf43 (cBs 0 rfl) trv rfl rfl rfl rfl ?_
  refine mvI rfl rfl rfl ?_
  refine callP (v := .tuple #[.int .i64 ((Math.countOf y4 yw4 yv4 q4).1), .int .i64 ((Math.countOf y4 yw4 yv4 q4).2)]) Try.call65 trv rfl rfl (fun w hs => spec_CountPure_c _ ny4 cy4 _ _ _ nyw4 cyw4 _ _ _ nyv4 cyv4 _ _ _ w (hs.at_ 1 rfl) (hs.at_ 2 rfl) (hs.at_ 3 rfl)) ?_
  refine mv rfl rfl rfl ?_
  refine ext rfl rfl rfl rfl ?_
  refine ext rfl rfl rfl rfl ?_
  refine asI rfl rfl rfl ?_
  refine asI rfl rfl rfl ?_
  refine rNil ?_
  refine qSeq rfl ?_
  refine hSeq ?_
  refine hReg (sq 0 (sl 1 (sq 2 (sq 3 (sq 4 (sl 5 (sl 6 (sl 7 (sl 8 sz))))))))) (by kernel_rfl) ?_
  refine mvS rfl rfl rfl ?_
  refine callS Try.call66 trv1 rfl rfl (fun w hs => spec_DrawIsPure_c _ _ cc w (Kn.drop (k := 12) kcode w hs) (by assumption)) ?_
  rintro ⟨ay5, ny5, cy5, Hy5, y5, ayw5, nyw5, cyw5, Hyw5, yw5, ayv5, nyv5, cyv5, Hyv5, yv5, pl5, ayp5, nyp5, cyp5, Hyp5, yp5⟩ hr5
  try dsimp only at hr5
  refine rPieces (L' := [RdR ndK ay5 ny5 Hy5 y5, RdR maK ayw5 nyw5 Hyw5 yw5, RdR maK ayv5 nyv5 Hyv5 yv5, OwnR maK 28 2 ayp5 nyp5 cyp5 Hyp5 yp5, blk bka12 43 [.slice ay4 ny4 cy4, .slice ayw4 nyw4 cyw4, .slice ayv4 nyv4 cyv4], RdR ndK ay4 ny4 Hy4 y4, RdR maK ayw4 nyw4 Hyw4 yw4, RdR maK ayv4 nyv4 Hyv4 yv4, blk bka8 56 [.int .i64 ((((Math.pureAt y1 yw1 yv1 q1 qa1).1.1))), .slice ay3 ny3 cy3], OwnR maK 28 2 ay3 ny3 cy3 Hy3 ((((Math.pureAt y1 yw1 yv1 q1 qa1).1.2))), blk bka6 56 [.int .i64 ((((Math.pureAt y1 yw1 yv1 q1 qa1).1.1))), .slice ay2 ny2 cy2], OwnR maK 28 2 ay2 ny2 cy2 Hy2 ((((Math.pureAt y1 yw1 yv1 q1 qa1).1.2))), blk bka4 43 [.slice ay1 ny1 cy1, .slice ayw1 nyw1 cyw1, .slice ayv1 nyv1 cyv1], RdR ndK ay1 ny1 Hy1 y1, RdR maK ayw1 nyw1 Hyw1 yw1, RdR maK ayv1 nyv1 Hyv1 yv1]) (fun _ h => h) ?_
  refine rKnow (fun w hs => (show RdR ndK ay5 ny5 Hy5 y5 w from hs.at_ 0 rfl).1) (fun lenn13 => ?_)
  refine rKnow (fun w hs => (show RdR maK ayw5 nyw5 Hyw5 yw5 w from hs.at_ 1 rfl).1) (fun lenn14 => ?_)
  refine rKnow (fun w hs => (show RdR maK ayv5 nyv5 Hyv5 yv5 w from hs.at_ 2 rfl).1) (fun lenn15 => ?_)
  refine rKnow (fun w hs => (show OwnR maK 28 2 ayp5 nyp5 cyp5 Hyp5 yp5 w from hs.at_ 3 rfl).1) (fun lenn16 => ?_)
  refine rVal (v' := .tuple #[.agg #[.slice ay5 ny5 cy5, .slice ayw5 nyw5 cyw5, .slice ayv5 nyv5 cyv5], .agg #[.int .i64 pl5, .slice ayp5 nyp5 cyp5]]) rfl ?_
  refine mv rfl rfl rfl ?_
  refine ext rfl rfl rfl rfl ?_
  refine ext rfl rfl rfl rfl ?_
  refine alc Try.zeroValue43 rfl trv1 rfl rfl (fun bka17 hbka17 => ?_)
  refine alc Try.zeroValue56 rfl trv1 rfl rfl (fun bka18 hbka18 => ?_)
  refine stAl (vs := [.slice ay5 ny5 cy5, .slice ayw5 nyw5 cyw5, .slice ayv5 nyv5 cyv5]) 1 rfl Try.sizeOf43 trv rfl rfl rfl rfl rfl (by simp [Value.oneCell']) rfl ?_
  refine stAl (vs := [.int .i64 pl5, .slice ayp5 nyp5 cyp5]) 0 rfl Try.sizeOf56 trv rfl rfl rfl rfl rfl (by simp [Value.oneCell']) rfl ?_
  refine rNil ?_
  refine qSeq rfl ?_
  refine hSeq ?_
  refine hReg (sl 0 (sl 1 (sl 2 (sq 3 (sq 4 (sq 5 (sq 6 (sq 7 sz)))))))) (by kernel_rfl) ?_
  refine ldAl Try.isAgg43 Try.sizeOf43 (cBs 1 rfl) trv rfl rfl rfl rfl ?_
  refine ldAl Try.isAgg56 Try.sizeOf56 (cBs 0 rfl) trv rfl rfl rfl rfl ?_
  refine callP (v := .tuple #[.bool ((Math.isPureAt y5 yw5 yv5 pl5 yp5).1), .int .i64 ((Math.isPureAt y5 yw5 yv5 pl5 yp5).2)]) Try.call67 trv rfl rfl (fun w hs => impl_IsPure_c _ ny5 cy5 _ _ _ nyw5 cyw5 _ _ _ nyv5 cyv5 _ _ _ _ nyp5 cyp5 _ _ w (hs.at_ 2 rfl) (hs.at_ 3 rfl) (hs.at_ 4 rfl) (OwnR.rd (hs.at_ 5 rfl) maK.ok)) ?_
  refine mv rfl rfl rfl ?_
  refine ext rfl rfl rfl rfl ?_
  refine ext rfl rfl rfl rfl ?_
  refine asB rfl rfl rfl ?_
  refine asI rfl rfl rfl ?_
  refine rNil ?_
  refine qSeq rfl ?_
  refine hSeq ?_
  refine hReg (sl 0 (sl 1 (sl 2 (sq 3 (sq 4 (sq 5 (sq 6 (sq 7 sz)))))))) (by kernel_rfl) ?_
  refine ldAl Try.isAgg43 Try.sizeOf43 (cBs 1 rfl) trv rfl rfl rfl rfl ?_
  refine ldAl Try.isAgg56 Try.sizeOf56 (cBs 0 rfl) trv rfl rfl rfl rfl ?_
  refine callP (v := .tuple #[.bool ((Math.isPureAt y5 yw5 yv5 pl5 yp5).1), .int .i64 ((Math.isPureAt y5 yw5 yv5 pl5 yp5).2)]) Try.call68 trv rfl rfl (fun w hs => spec_IsPure_c _ ny5 cy5 _ _ _ nyw5 cyw5 _ _ _ nyv5 cyv5 _ _ _ _ nyp5 cyp5 _ _ w (hs.at_ 2 rfl) (hs.at_ 3 rfl) (hs.at_ 4 rfl) (OwnR.rd (hs.at_ 5 rfl) maK.ok)) ?_
  refine mv rfl rfl rfl ?_
  refine ext rfl rfl rfl rfl ?_
  refine ext rfl rfl rfl rfl ?_
  refine asB rfl rfl rfl ?_
  refine asI rfl rfl rfl ?_
  refine rNil ?_
  refine qSeq rfl ?_
  refine hSeq ?_
  refine hSeq ?_
  refine hReg (sq 0 (sq 1 (sq 2 (sq 3 (sl 4 (sl 5 (sl 6 (sq 7 (sq 8 (sq 9 (sq 10 (sq 11 (sq 12 (sq 13 (sq 14 (sq 15 (sq 16 (sq 17 (sq 18 (sq 19 (sq 20 (sq 21 (sq 22 (sq 23 (sq 24 (sq 25 (sq 26 (sq 27 (sq 28 (sq 29 (sl 30 (sl 31 (sl 32 (sq 33 (sq 34 (sq 35 (sq 36 sz))))))))))))))))))))))))))))))))))))) (by kernel_rfl) ?_
  refine mvI rfl rfl rfl ?_
  refine mvI rfl rfl rfl ?_
  refine neq rfl rfl rfl rfl ?_
  refine mvB rfl rfl rfl ?_
  refine rBoolD (d := 85) rfl (fun g2 => ?_) (fun g2 => ?_)
  ·
   replace g2 : (((Math.pureAt y1 yw1 yv1 q1 qa1).2)) ≠ (((Math.pureAt y1 yw1 yv1 q1 qa1).2)) := g2
   exact absurd rfl g2
  ·
   replace g2 : ¬ ((((Math.pureAt y1 yw1 yv1 q1 qa1).2)) ≠ (((Math.pureAt y1 yw1 yv1 q1 qa1).2))) := g2
   refine ldAl Try.isAgg56 Try.sizeOf56 (cBs 12 rfl) trv rfl rfl rfl rfl ?_
   refine ldAl Try.isAgg56 Try.sizeOf56 (cBs 10 rfl) trv rfl rfl rfl rfl ?_
   refine callP (v := .bool true) Try.call46 trv rfl rfl (fun w hs => laws_likeStrategies_c _ _ ny2 cy2 _ _ _ _ ny3 cy3 _ _ w (OwnR.rd (hs.at_ 13 rfl) maK.ok) (OwnR.rd (hs.at_ 11 rfl) maK.ok) (by exact ⟨rfl, rfl⟩)) ?_
   refine not rfl rfl rfl ?_
   refine pickB rfl rfl rfl rfl ?_
   refine mvB rfl rfl rfl ?_
   refine mvI rfl rfl rfl ?_
   refine mvI rfl rfl rfl ?_
   refine neq rfl rfl rfl rfl ?_
   refine pickB rfl rfl rfl rfl ?_
   refine mvB rfl rfl rfl ?_
   refine rBoolD (d := 96) rfl (fun g3 => ?_) (fun g3 => ?_)
   ·
    replace g3 : (Math.countOf y4 yw4 yv4 q4).2 ≠ (Math.countOf y4 yw4 yv4 q4).2 := g3
    exact absurd rfl g3
   ·
    replace g3 : ¬ ((Math.countOf y4 yw4 yv4 q4).2 ≠ (Math.countOf y4 yw4 yv4 q4).2) := g3
    refine mvI rfl rfl rfl ?_
    refine mvI rfl rfl rfl ?_
    refine neq rfl rfl rfl rfl ?_
    refine pickB rfl rfl rfl rfl ?_
    refine mvB rfl rfl rfl ?_
    refine rBoolD (d := 101) rfl (fun g4 => ?_) (fun g4 => ?_)
    ·
     replace g4 : (Math.countOf y4 yw4 yv4 q4).1 ≠ (Math.countOf y4 yw4 yv4 q4).1 := g4
     exact absurd rfl g4
    ·
     replace g4 : ¬ ((Math.countOf y4 yw4 yv4 q4).1 ≠ (Math.countOf y4 yw4 yv4 q4).1) := g4
     refine mvI rfl rfl rfl ?_
     refine mvI rfl rfl rfl ?_
     refine neq rfl rfl rfl rfl ?_
     refine pickB rfl rfl rfl rfl ?_
     refine mvB rfl rfl rfl ?_
     refine rBoolD (d := 106) rfl (fun g5 => ?_) (fun g5 => ?_)
     ·
      replace g5 : (Math.isPureAt y5 yw5 yv5 pl5 yp5).2 ≠ (Math.isPureAt y5 yw5 yv5 pl5 yp5).2 := g5
      exact absurd rfl g5
     ·
      replace g5 : ¬ ((Math.isPureAt y5 yw5 yv5 pl5 yp5).2 ≠ (Math.isPureAt y5 yw5 yv5 pl5 yp5).2) := g5
      refine mvB rfl rfl rfl ?_
      refine mvB rfl rfl rfl ?_
      refine neqB Try.underlying4 rfl rfl rfl rfl ?_
      refine pickB rfl rfl rfl rfl ?_
      refine mvB rfl rfl rfl ?_
      refine rBoolD (d := 111) rfl (fun g6 => ?_) (fun g6 => ?_)
      ·
       replace g6 : (Math.isPureAt y5 yw5 yv5 pl5 yp5).1 ≠ (Math.isPureAt y5 yw5 yv5 pl5 yp5).1 := g6
       exact absurd rfl g6
      ·
       replace g6 : ¬ ((Math.isPureAt y5 yw5 yv5 pl5 yp5).1 ≠ (Math.isPureAt y5 yw5 yv5 pl5 yp5).1) := g6
       refine ldAl Try.isAgg43 Try.sizeOf43 (cBs 1 rfl) trv rfl rfl rfl rfl ?_
       refine ldAl Try.isAgg56 Try.sizeOf56 (cBs 0 rfl) trv rfl rfl rfl rfl ?_
       refine callP (v := .bool (Math.isStrat y5 yw5 yv5 pl5 yp5)) Try.call47 trv rfl rfl (fun w hs => impl_IsStrategy_c _ ny5 cy5 _ _ _ nyw5 cyw5 _ _ _ nyv5 cyv5 _ _ _ _ nyp5 cyp5 _ _ w (hs.at_ 2 rfl) (hs.at_ 3 rfl) (hs.at_ 4 rfl) (OwnR.rd (hs.at_ 5 rfl) maK.ok)) ?_
       refine mvI rfl rfl rfl ?_
       refine eql rfl rfl rfl rfl ?_
       refine neqB Try.underlying4 rfl rfl rfl rfl ?_
       refine pickB rfl rfl rfl rfl ?_
       refine rNil ?_
       refine qSeq rfl ?_
       refine hIfD rfl (fun c7 => ?_) (fun c7 => ?_)
       ·
        replace c7 : (Math.isStrat y5 yw5 yv5 pl5 yp5) ≠ decide ((Math.isPureAt y5 yw5 yv5 pl5 yp5).2 = 0) := c7
        exact absurd (Math.isPureAt_iff y5 yw5 yv5 pl5 yp5) c7
       ·
        replace c7 : ¬ ((Math.isStrat y5 yw5 yv5 pl5 yp5) ≠ decide ((Math.isPureAt y5 yw5 yv5 pl5 yp5).2 = 0)) := c7
        refine hSkip ?_
        refine qSeq rfl ?_
        refine hSeq ?_
        refine hSeq ?_
        refine hReg (sq 0 (sq 1 sz)) (by kernel_rfl) ?_
        refine mvI rfl rfl rfl ?_
        refine neq rfl rfl rfl rfl ?_
        refine rNil ?_
        refine qSeq rfl ?_
        refine hIfD rfl (fun c8 => ?_) (fun c8 => ?_)
        ·
         replace c8 : (((Math.pureAt y1 yw1 yv1 q1 qa1).2)) ≠ 0 := c8
         refine hSeq ?_
         refine hReg (sq 0 sz) (by kernel_rfl) ?_
         refine asB rfl rfl rfl ?_
         refine rNil ?_
         refine qSeq rfl ?_
         refine hRet ?_
         exact fun w hs => ⟨[.bool true], ⟨rfl, trivial⟩, ⟨by rfl, hs.upd⟩⟩
        ·
         replace c8 : ¬ ((((Math.pureAt y1 yw1 yv1 q1 qa1).2)) ≠ 0) := c8
         have hps := Math.pure_strat (Classical.not_not.1 c8)
         refine hSkip ?_
         refine qSeq rfl ?_
         refine hSeq ?_
         refine hReg (sl 0 (sl 1 (sl 2 (sq 3 (sq 4 (sq 5 (sq 6 (sq 7 sz)))))))) (by kernel_rfl) ?_
         refine ldAl Try.isAgg43 Try.sizeOf43 (cBs 14 rfl) trv rfl rfl rfl rfl ?_
         refine ldAl Try.isAgg56 Try.sizeOf56 (cBs 12 rfl) trv rfl rfl rfl rfl ?_
         refine callP (v := .tuple #[.bool ((Math.isPureAt y1 yw1 yv1 ((((Math.pureAt y1 yw1 yv1 q1 qa1).1.1))) ((((Math.pureAt y1 yw1 yv1 q1 qa1).1.2)))).1), .int .i64 ((Math.isPureAt y1 yw1 yv1 ((((Math.pureAt y1 yw1 yv1 q1 qa1).1.1))) ((((Math.pureAt y1 yw1 yv1 q1 qa1).1.2)))).2)]) Try.call67 trv rfl rfl (fun w hs => impl_IsPure_c _ ny1 cy1 _ _ _ nyw1 cyw1 _ _ _ nyv1 cyv1 _ _ _ _ ny2 cy2 _ _ w (hs.at_ 15 rfl) (hs.at_ 16 rfl) (hs.at_ 17 rfl) (OwnR.rd (hs.at_ 13 rfl) maK.ok)) ?_
         refine mv rfl rfl rfl ?_
         refine ext rfl rfl rfl rfl ?_
         refine ext rfl rfl rfl rfl ?_
         refine asB rfl rfl rfl ?_
         refine asI rfl rfl rfl ?_
         refine rNil ?_
         refine qSeq rfl ?_
         refine hSeq ?_
         refine hSeq ?_
         refine hReg (sq 0 (sq 1 (sq 2 (sq 3 (sq 4 (sq 5 (sq 6 (sl 7 (sl 8 (sl 9 (sq 10 (sq 11 (sq 12 (sq 13 (sq 14 (sq 15 sz)))))))))))))))) (by kernel_rfl) ?_
         refine mvI rfl rfl rfl ?_
         refine neq rfl rfl rfl rfl ?_
         refine mvB rfl rfl rfl ?_
         refine rBoolD (d := 129) rfl (fun g9 => ?_) (fun g9 => ?_)
         ·
          replace g9 : (Math.isPureAt y1 yw1 yv1 ((((Math.pureAt y1 yw1 yv1 q1 qa1).1.1))) ((((Math.pureAt y1 yw1 yv1 q1 qa1).1.2)))).2 ≠ 0 := g9
          exact absurd (by rw [hps.2]) g9
         ·
          replace g9 : ¬ ((Math.isPureAt y1 yw1 yv1 ((((Math.pureAt y1 yw1 yv1 q1 qa1).1.1))) ((((Math.pureAt y1 yw1 yv1 q1 qa1).1.2)))).2 ≠ 0) := g9
          refine mvB rfl rfl rfl ?_
          refine not rfl rfl rfl ?_
          refine pickB rfl rfl rfl rfl ?_
          refine mvB rfl rfl rfl ?_
          refine rBoolN (d := 133) rfl (fun g10 => ?_) (fun g10 => ?_)
          ·
           replace g10 : (Math.isPureAt y1 yw1 yv1 ((((Math.pureAt y1 yw1 yv1 q1 qa1).1.1))) ((((Math.pureAt y1 yw1 yv1 q1 qa1).1.2)))).1 = false := g10
           exact absurd g10 (by rw [hps.2]; decide)
          ·
           replace g10 : (Math.isPureAt y1 yw1 yv1 ((((Math.pureAt y1 yw1 yv1 q1 qa1).1.1))) ((((Math.pureAt y1 yw1 yv1 q1 qa1).1.2)))).1 = true := g10
           refine ldAl Try.isAgg43 Try.sizeOf43 (cBs 14 rfl) trv rfl rfl rfl rfl ?_
           refine ldAl Try.isAgg56 Try.sizeOf56 (cBs 12 rfl) trv rfl rfl rfl rfl ?_
           refine callP (v := .bool ((Math.isStrat y1 yw1 yv1 ((((Math.pureAt y1 yw1 yv1 q1 qa1).1.1))) ((((Math.pureAt y1 yw1 yv1 q1 qa1).1.2)))))) Try.call47 trv rfl rfl (fun w hs => impl_IsStrategy_c _ ny1 cy1 _ _ _ nyw1 cyw1 _ _ _ nyv1 cyv1 _ _ _ _ ny2 cy2 _ _ w (hs.at_ 15 rfl) (hs.at_ 16 rfl) (hs.at_ 17 rfl) (OwnR.rd (hs.at_ 13 rfl) maK.ok)) ?_
           refine not rfl rfl rfl ?_
           refine pickB rfl rfl rfl rfl ?_
           refine mvB rfl rfl rfl ?_
           refine rBoolN (d := 139) rfl (fun g11 => ?_) (fun g11 => ?_)
           ·
            replace g11 : (Math.isStrat y1 yw1 yv1 ((((Math.pureAt y1 yw1 yv1 q1 qa1).1.1))) ((((Math.pureAt y1 yw1 yv1 q1 qa1).1.2)))) = false := g11
            exact absurd hps.1 (by rw [g11]; decide)
           ·
            replace g11 : (Math.isStrat y1 yw1 yv1 ((((Math.pureAt y1 yw1 yv1 q1 qa1).1.1))) ((((Math.pureAt y1 yw1 yv1 q1 qa1).1.2)))) = true := g11
            refine mvI rfl rfl rfl ?_
            refine eql rfl rfl rfl rfl ?_
            refine pickB rfl rfl rfl rfl ?_
            refine rNil ?_
            refine qSeq rfl ?_
            refine hIfD rfl (fun c12 => ?_) (fun c12 => ?_)
            ·
             replace c12 : qa1 = 0 := c12
             refine hSeq ?_
             refine hReg (sq 0 (sq 1 (sq 2 (sq 3 (sq 4 (sq 5 (sl 6 (sl 7 (sl 8 (sq 9 (sq 10 sz))))))))))) (by kernel_rfl) ?_
             refine mvI rfl rfl rfl ?_
             refine eql rfl rfl rfl rfl ?_
             refine mvB rfl rfl rfl ?_
             refine rBoolD (d := 145) rfl (fun g13 => ?_) (fun g13 => ?_)
             ·
              replace g13 : (Math.isPureAt y1 yw1 yv1 ((((Math.pureAt y1 yw1 yv1 q1 qa1).1.1))) ((((Math.pureAt y1 yw1 yv1 q1 qa1).1.2)))).2 = 0 := g13
              refine mvB rfl rfl rfl ?_
              refine pickB rfl rfl rfl rfl ?_
              refine mvB rfl rfl rfl ?_
              refine rBool (d := 148) rfl (fun g14 => ?_) (fun g14 => ?_)
              ·
               replace g14 : (Math.isPureAt y1 yw1 yv1 ((((Math.pureAt y1 yw1 yv1 q1 qa1).1.1))) ((((Math.pureAt y1 yw1 yv1 q1 qa1).1.2)))).1 = true := g14
               refine ldAl Try.isAgg43 Try.sizeOf43 (cBs 14 rfl) trv rfl rfl rfl rfl ?_
               refine ldAl Try.isAgg56 Try.sizeOf56 (cBs 12 rfl) trv rfl rfl rfl rfl ?_
               refine callP (v := .bool ((Math.isStrat y1 yw1 yv1 ((((Math.pureAt y1 yw1 yv1 q1 qa1).1.1))) ((((Math.pureAt y1 yw1 yv1 q1 qa1).1.2)))))) Try.call47 trv rfl rfl (fun w hs => impl_IsStrategy_c _ ny1 cy1 _ _ _ nyw1 cyw1 _ _ _ nyv1 cyv1 _ _ _ _ ny2 cy2 _ _ w (hs.at_ 15 rfl) (hs.at_ 16 rfl) (hs.at_ 17 rfl) (OwnR.rd (hs.at_ 13 rfl) maK.ok)) ?_
               refine pickB rfl rfl rfl rfl ?_
               refine asB rfl rfl rfl ?_
               refine rNil ?_
               refine qSeq rfl ?_
               refine hRet ?_
               exact fun w hs => ⟨[.bool ((Math.isStrat y1 yw1 yv1 ((((Math.pureAt y1 yw1 yv1 q1 qa1).1.1))) ((((Math.pureAt y1 yw1 yv1 q1 qa1).1.2)))))], ⟨rfl, trivial⟩, ⟨by exact bB hps.1, hs.upd⟩⟩
              ·
               replace g14 : (Math.isPureAt y1 yw1 yv1 ((((Math.pureAt y1 yw1 yv1 q1 qa1).1.1))) ((((Math.pureAt y1 yw1 yv1 q1 qa1).1.2)))).1 = false := g14
               exact absurd g14 (by rw [hps.2]; decide)
             ·
              replace g13 : ¬ ((Math.isPureAt y1 yw1 yv1 ((((Math.pureAt y1 yw1 yv1 q1 qa1).1.1))) ((((Math.pureAt y1 yw1 yv1 q1 qa1).1.2)))).2 = 0) := g13
              exact absurd (by rw [hps.2]) g13
            ·
             replace c12 : ¬ (qa1 = 0) := c12
             have hpv := Math.pure_prev (Classical.not_not.1 c8) c12
             refine hSkip ?_
             refine qSeq rfl ?_
             refine hSeq ?_
             refine hReg (sl 0 (sq 1 (sq 2 (sq 3 (sl 4 (sq 5 (sq 6 (sq 7 (sl 8 (sl 9 (sq 10 sz))))))))))) (by kernel_rfl) ?_
             refine ldAl Try.isAgg43 Try.sizeOf43 (cBs 14 rfl) trv rfl rfl rfl rfl ?_
             refine mvI rfl rfl rfl ?_
             refine mvI rfl rfl rfl ?_
             refine sub rfl rfl rfl rfl (by first | omega | (dsimp only; omega)) ?_
             refine callS Try.call61 trv1 rfl rfl (fun w hs => impl_PureStrategy_c _ ny1 cy1 _ _ _ nyw1 cyw1 _ _ _ nyv1 cyv1 _ _ _ _ w (hs.at_ 15 rfl) (hs.at_ 16 rfl) (hs.at_ 17 rfl)) ?_
             rintro ⟨pl6, ay6, ny6, cy6, Hy6, y6, q6⟩ ⟨hr6a, hr6b, hr6c⟩
             dsimp only at hr6a hr6b hr6c
             subst pl6
             subst y6
             subst q6
             refine rPieces (L' := [OwnR maK 28 2 ay6 ny6 cy6 Hy6 ((((Math.pureAt y1 yw1 yv1 q1 (qa1 - 1)).1.2))), blk bka18 56 [.int .i64 pl5, .slice ayp5 nyp5 cyp5], blk bka17 43 [.slice ay5 ny5 cy5, .slice ayw5 nyw5 cyw5, .slice ayv5 nyv5 cyv5], RdR ndK ay5 ny5 Hy5 y5, RdR maK ayw5 nyw5 Hyw5 yw5, RdR maK ayv5 nyv5 Hyv5 yv5, OwnR maK 28 2 ayp5 nyp5 cyp5 Hyp5 yp5, blk bka12 43 [.slice ay4 ny4 cy4, .slice ayw4 nyw4 cyw4, .slice ayv4 nyv4 cyv4], RdR ndK ay4 ny4 Hy4 y4, RdR maK ayw4 nyw4 Hyw4 yw4, RdR maK ayv4 nyv4 Hyv4 yv4, blk bka8 56 [.int .i64 ((((Math.pureAt y1 yw1 yv1 q1 qa1).1.1))), .slice ay3 ny3 cy3], OwnR maK 28 2 ay3 ny3 cy3 Hy3 ((((Math.pureAt y1 yw1 yv1 q1 qa1).1.2))), blk bka6 56 [.int .i64 ((((Math.pureAt y1 yw1 yv1 q1 qa1).1.1))), .slice ay2 ny2 cy2], OwnR maK 28 2 ay2 ny2 cy2 Hy2 ((((Math.pureAt y1 yw1 yv1 q1 qa1).1.2))), blk bka4 43 [.slice ay1 ny1 cy1, .slice ayw1 nyw1 cyw1, .slice ayv1 nyv1 cyv1], RdR ndK ay1 ny1 Hy1 y1, RdR maK ayw1 nyw1 Hyw1 yw1, RdR maK ayv1 nyv1 Hyv1 yv1]) (fun _ h => h) ?_
             refine rKnow (fun w hs => (show OwnR maK 28 2 ay6 ny6 cy6 Hy6 ((((Math.pureAt y1 yw1 yv1 q1 (qa1 - 1)).1.2))) w from hs.at_ 0 rfl).1) (fun lenn19 => ?_)
             refine rVal (v' := .tuple #[.agg #[.int .i64 ((((Math.pureAt y1 yw1 yv1 q1 (qa1 - 1)).1.1))), .slice ay6 ny6 cy6], .int .i64 ((((Math.pureAt y1 yw1 yv1 q1 (qa1 - 1)).2)))]) rfl ?_
             refine mv rfl rfl rfl ?_
             refine ext rfl rfl rfl rfl ?_
             refine ext rfl rfl rfl rfl ?_
             refine alc Try.zeroValue56 rfl trv1 rfl rfl (fun bka20 hbka20 => ?_)
             refine stAl (vs := [.int .i64 ((((Math.pureAt y1 yw1 yv1 q1 (qa1 - 1)).1.1))), .slice ay6 ny6 cy6]) 0 rfl Try.sizeOf56 trv rfl rfl rfl rfl rfl (by simp [Value.oneCell']) rfl ?_
             refine asI rfl rfl rfl ?_
             refine rNil ?_
             refine qSeq rfl ?_
             refine hSeq ?_
             refine hReg (sq 0 (sq 1 (sq 2 (sl 3 (sl 4 (sl 5 (sq 6 (sq 7 (sq 8 sz))))))))) (by kernel_rfl) ?_
             refine mvI rfl rfl rfl ?_
             refine eql rfl rfl rfl rfl ?_
             refine mvB rfl rfl rfl ?_
             refine rBoolD (d := 163) rfl (fun g15 => ?_) (fun g15 => ?_)
             ·
              replace g15 : (((Math.pureAt y1 yw1 yv1 q1 (qa1 - 1)).2)) = 0 := g15
              refine ldAl Try.isAgg56 Try.sizeOf56 (cBs 0 rfl) trv rfl rfl rfl rfl ?_
              refine ldAl Try.isAgg56 Try.sizeOf56 (cBs 14 rfl) trv rfl rfl rfl rfl ?_
              refine callP (v := .bool ((decide (((((Math.pureAt y1 yw1 yv1 q1 (qa1 - 1)).1.1))) = ((((Math.pureAt y1 yw1 yv1 q1 qa1).1.1)))) && Math.same ((((Math.pureAt y1 yw1 yv1 q1 (qa1 - 1)).1.2))) ((((Math.pureAt y1 yw1 yv1 q1 qa1).1.2)))))) Try.call46 trv rfl rfl (fun w hs => laws_likeStrategies_x _ _ ny6 cy6 _ _ _ _ ny2 cy2 _ _ w (OwnR.rd (hs.at_ 1 rfl) maK.ok) (OwnR.rd (hs.at_ 15 rfl) maK.ok)) ?_
              refine not rfl rfl rfl ?_
              refine pickB rfl rfl rfl rfl ?_
              refine asB rfl rfl rfl ?_
              refine rNil ?_
              refine qSeq rfl ?_
              refine hRet ?_
              exact fun w hs => ⟨[.bool ((!(decide (((((Math.pureAt y1 yw1 yv1 q1 (qa1 - 1)).1.1))) = ((((Math.pureAt y1 yw1 yv1 q1 qa1).1.1)))) && Math.same ((((Math.pureAt y1 yw1 yv1 q1 (qa1 - 1)).1.2))) ((((Math.pureAt y1 yw1 yv1 q1 qa1).1.2))))))], ⟨rfl, trivial⟩, ⟨by exact bB (by rw [show Math.same (Math.pureAt y1 yw1 yv1 q1 (qa1 - 1)).1.2 (Math.pureAt y1 yw1 yv1 q1 qa1).1.2 = false from decide_eq_false hpv.2.2.1, Bool.and_false]; rfl), hs.upd⟩⟩
             ·
              replace g15 : ¬ ((((Math.pureAt y1 yw1 yv1 q1 (qa1 - 1)).2)) = 0) := g15
              exact absurd hpv.1 g15
theorem cells5 : Try.prog.cellsOf 5 = 1 := by kernel_rfl
set_option maxHeartbeats 2000000 in
theorem fnPure_lifted (os : Os) (started : os.Started) (H : Type) (enc : TypeId × Value → H) :
  ReturnsInHanded {} Try.checked os 8 .any (Rows.fnPureSpec.pre6 enc Try.prog Try.f8 Rows.fnPureRow.domain false) (Rows.fnPureSpec.post enc Try.prog Try.f8 false true false false) := by
 refine returnsInHanded_of_change (C := Try.checked) own started (by kernel_rfl) Try.func8
  (ChangeSpec.witness6 (enc := enc) (C := Try.checked) false ⟨#[], #[.slice none 0 0], []⟩ 8 (by kernel_rfl) (by kernel_rfl) (by kernel_rfl) (by kernel_rfl)) ?_
 intro W base args ds gs before hval0 hW hcnd _
 have hval : ∀ (j : Nat) t v, Try.f8.params[j]? = some t → args[j]? = some v → Value.okWide Try.prog W .any base t v := hval0
 have hW' := hW
 obtain ⟨p, q, hA0, hV, rfl, hfz, hnd⟩ := hW
 have hA : DataW.TrodAll enc Try.prog W 0 (fun _ => true) true Try.f8.params.toList args.toList ds p := hA0
 rw [Try.params8] at hA hval
 obtain ⟨v0, vs0, d0, ds0, p0, q0, hargs, rfl, rfl, h0, r0⟩ := trodAll_cons hA
 obtain ⟨rfl, rfl, rfl⟩ := trodAll_nil r0
 obtain rfl : args = #[v0] := by cases args; simp_all
 obtain ⟨rfl, rfl⟩ := trodVars_none hV
 obtain ⟨ca, bs, cc, rfl, hwf, hmax, hca⟩ := open_slice_ints Try.underlying22 Try.underlying5 cells5 (hval 0 22 v0 rfl rfl) h0
 refine (laws_FnPure_c ca bs cc W hca hwf).mono fun e W' ⟨v, he, hv, hx⟩ => ?_
 subst he; subst hv
 exact ⟨_, rfl, law_post (tb := 4) hW' rfl rfl Try.underlying4 rfl rfl rfl (by kernel_rfl) hx⟩
theorem fnPure_holds : Rows.FnPureSaid :=
 OpenClaim.holds_of_wide 8 Try.f8 rfl rfl rfl rfl rfl rfl rfl ⟨rfl, rfl, rfl, rfl, rfl⟩ rfl rfl rfl rfl rfl (by kernel_rfl) Try.func8 (by kernel_rfl)
  (of_decide_eq_true (by kernel_rfl)) (by unfold Func.isWrapper; first | (rw [if_pos (by decide +kernel)]; kernel_rfl) | (rw [if_neg (by decide +kernel)]; exact ⟨rfl, rfl⟩))
  (fun os started H enc _ => fnPure_lifted os started H enc)
#print axioms fnPure_holds
end Go.Proofs.Ytjengglpbdgmnaa
