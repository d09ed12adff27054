/- The law FnEnds returns true for all arguments. No condition. -/
import Derived.Test.YtjengglpbdgmnaaZ15En
import Derived.Test.YtjengglpbdgmnaaZ1En
import Derived.Test.YtjengglpbdgmnaaZ2En
import Derived.Test.YtjengglpbdgmnaaZ3En
import Derived.Test.YtjengglpbdgmnaaZ4En
import Derived.Test.YtjengglpbdgmnaaZ5En
import Derived.Test.YtjengglpbdgmnaaZ6En
import Derived.Test.YtjengglpbdgmnaaZ7En
import Derived.Test.YtjengglpbdgmnaaZ8En
import Derived.Test.YtjengglpbdgmnaaZ9En
import Derived.Test.YtjengglpbdgmnaaZ10En
import Derived.Test.YtjengglpbdgmnaaZ11En
import Derived.Test.YtjengglpbdgmnaaZ12En
import Derived.Test.YtjengglpbdgmnaaZ13En
import Derived.Test.YtjengglpbdgmnaaZ14En
import Derived.Test.YtjengglpbdgmnaaRows
namespace Go.Proofs.Ytjengglpbdgmnaa
open Go Go.RowKit V Go.ChangeShapes Go.WideShapes Go.ChangeAt
set_option linter.unusedVariables false
set_option linter.unusedSimpArgs false
set_option maxRecDepth 100000
set_option maxHeartbeats 4000000 in
theorem laws_FnEnds_c (ca : Option Addr) (bs : List Int) (cc : Nat) (w : World) (rcode : CellsAt ca (bs.map (Value.int .u8)) w) (hb : ∀ n ∈ bs, (Lit.int .u8 n).wf = true) :
  Calls Try.prog 9 #[.slice ca bs.length cc] w (Ret fun v w' => v = .bool true ∧ Ext w w') := by
 have kcode : Kn w none_ [] (CellsAt ca (bs.map (Value.int .u8))) := fun w' hs => rcode.ext hs.upd
 refine fn (M := none_) (rs := [.tmp 2]) Try.func9 rfl Try.ntmps9 rfl rfl (Sep.start _ _) ?_
 refine hSeq ?_
 refine hReg (sq 0 sz) (by kernel_rfl) ?_
 refine asB rfl rfl rfl ?_
 refine rNil ?_
 refine qSeq rfl ?_
 refine hSeq ?_
 refine hSeq ?_
 refine hReg (sq 0 (sl 1 sz)) (by kernel_rfl) ?_
 refine mvS rfl rfl rfl ?_
 refine callP (v := .bool (decide (4096 < ((bs.length : Nat) : Int)))) Try.call12 trv rfl rfl (fun w hs => laws_big_c _ _ cc w (kcode w hs)) ?_
 refine rNil ?_
 refine qSeq rfl ?_
 refine hIfD rfl (fun c1 => ?_) (fun c1 => ?_)
 ·
  replace c1 : 4096 < ((bs.length : Nat) : Int) := c1
  refine hSeq ?_
  refine hReg (sq 0 sz) (by kernel_rfl) ?_
  refine asB rfl rfl rfl ?_
  refine rNil ?_
  refine qSeq rfl ?_
  refine hRet ?_
  exact fun w hs => ⟨[.bool true], ⟨rfl, trivial⟩, ⟨by first | rfl | exact (bT hso.1.1).symm, hs.upd⟩⟩
 ·
  replace c1 : ¬ (4096 < ((bs.length : Nat) : Int)) := c1
  have hok : okBytes bs := ⟨fun x hx => bounds_u8 (hb x hx), by omega⟩
  refine hSkip ?_
  refine qSeq rfl ?_
  refine hSeq ?_
  refine hReg (sq 0 (sl 1 (sq 2 (sq 3 (sq 4 (sq 5 (sl 6 (sl 7 (sl 8 (sl 9 (sl 10 (sl 11 sz)))))))))))) (by kernel_rfl) ?_
  refine mvS rfl rfl rfl ?_
  refine callS Try.call69 trv1 rfl rfl (fun w hs => spec_DrawEndNumbers_c _ _ cc w (kcode w hs) (by assumption)) ?_
  rintro ⟨ay1, ny1, cy1, Hy1, y1, ayw1, nyw1, cyw1, Hyw1, yw1, ayv1, nyv1, cyv1, Hyv1, yv1, pl1, ayp1, nyp1, cyp1, Hyp1, yp1, ql1, ayq1, nyq1, cyq1, Hyq1, yq1⟩ hr1
  try dsimp only at hr1
  refine rPieces (L' := [RdR ndK ay1 ny1 Hy1 y1, RdR maK ayw1 nyw1 Hyw1 yw1, RdR maK ayv1 nyv1 Hyv1 yv1, OwnR maK 28 2 ayp1 nyp1 cyp1 Hyp1 yp1, OwnR maK 28 2 ayq1 nyq1 cyq1 Hyq1 yq1]) (fun _ h => h) ?_
  refine rKnow (fun w hs => (show RdR ndK ay1 ny1 Hy1 y1 w from hs.at_ 0 rfl).1) (fun lenn1 => ?_)
  refine rKnow (fun w hs => (show RdR maK ayw1 nyw1 Hyw1 yw1 w from hs.at_ 1 rfl).1) (fun lenn2 => ?_)
  refine rKnow (fun w hs => (show RdR maK ayv1 nyv1 Hyv1 yv1 w from hs.at_ 2 rfl).1) (fun lenn3 => ?_)
  refine rKnow (fun w hs => (show OwnR maK 28 2 ayp1 nyp1 cyp1 Hyp1 yp1 w from hs.at_ 3 rfl).1) (fun lenn4 => ?_)
  refine rKnow (fun w hs => (show OwnR maK 28 2 ayq1 nyq1 cyq1 Hyq1 yq1 w from hs.at_ 4 rfl).1) (fun lenn5 => ?_)
  refine rVal (v' := .tuple #[.agg #[.slice ay1 ny1 cy1, .slice ayw1 nyw1 cyw1, .slice ayv1 nyv1 cyv1], .agg #[.int .i64 pl1, .slice ayp1 nyp1 cyp1], .agg #[.int .i64 ql1, .slice ayq1 nyq1 cyq1]]) rfl ?_
  refine mv rfl rfl rfl ?_
  refine ext rfl rfl rfl rfl ?_
  refine ext rfl rfl rfl rfl ?_
  refine ext rfl rfl rfl rfl ?_
  refine alc Try.zeroValue43 rfl trv1 rfl rfl (fun bka6 hbka6 => ?_)
  refine alc Try.zeroValue56 rfl trv1 rfl rfl (fun bka7 hbka7 => ?_)
  refine alc Try.zeroValue56 rfl trv1 rfl rfl (fun bka8 hbka8 => ?_)
  refine stAl (vs := [.slice ay1 ny1 cy1, .slice ayw1 nyw1 cyw1, .slice ayv1 nyv1 cyv1]) 2 rfl Try.sizeOf43 trv rfl rfl rfl rfl rfl (by simp [Value.oneCell']) rfl ?_
  refine stAl (vs := [.int .i64 pl1, .slice ayp1 nyp1 cyp1]) 1 rfl Try.sizeOf56 trv rfl rfl rfl rfl rfl (by simp [Value.oneCell']) rfl ?_
  refine stAl (vs := [.int .i64 ql1, .slice ayq1 nyq1 cyq1]) 0 rfl Try.sizeOf56 trv rfl rfl rfl rfl rfl (by simp [Value.oneCell']) rfl ?_
  refine rNil ?_
  refine qSeq rfl ?_
  refine hSeq ?_
  refine hReg (sl 0 (sl 1 (sl 2 (sl 3 (sq 4 (sq 5 (sq 6 (sq 7 (sq 8 sz))))))))) (by kernel_rfl) ?_
  refine ldAl Try.isAgg43 Try.sizeOf43 (cBs 2 rfl) trv rfl rfl rfl rfl ?_
  refine ldAl Try.isAgg56 Try.sizeOf56 (cBs 1 rfl) trv rfl rfl rfl rfl ?_
  refine ldAl Try.isAgg56 Try.sizeOf56 (cBs 0 rfl) trv rfl rfl rfl rfl ?_
  refine callS Try.call70 trv1 rfl rfl (fun w hs => impl_EndNumbers_c _ ny1 cy1 _ _ _ nyw1 cyw1 _ _ _ nyv1 cyv1 _ _ _ _ nyp1 cyp1 _ _ _ _ nyq1 cyq1 _ _ w (hs.at_ 3 rfl) (hs.at_ 4 rfl) (hs.at_ 5 rfl) (OwnR.rd (hs.at_ 6 rfl) maK.ok) (OwnR.rd (hs.at_ 7 rfl) maK.ok)) ?_
  rintro ⟨ay2, ny2, cy2, y2, q2⟩ ⟨hr2a, hr2b⟩
  dsimp only at hr2a hr2b
  subst y2
  subst q2
  refine rPieces (L' := [OwnI 2 ay2 ny2 cy2 ((((Math.endsAt y1 yw1 yv1 pl1 yp1 ql1 yq1).1))), blk bka8 56 [.int .i64 ql1, .slice ayq1 nyq1 cyq1], blk bka7 56 [.int .i64 pl1, .slice ayp1 nyp1 cyp1], blk bka6 43 [.slice ay1 ny1 cy1, .slice ayw1 nyw1 cyw1, .slice ayv1 nyv1 cyv1], RdR ndK ay1 ny1 Hy1 y1, RdR maK ayw1 nyw1 Hyw1 yw1, RdR maK ayv1 nyv1 Hyv1 yv1, OwnR maK 28 2 ayp1 nyp1 cyp1 Hyp1 yp1, OwnR maK 28 2 ayq1 nyq1 cyq1 Hyq1 yq1]) (fun _ h => h) ?_
  refine rKnow (fun w hs => (show OwnI 2 ay2 ny2 cy2 ((((Math.endsAt y1 yw1 yv1 pl1 yp1 ql1 yq1).1))) w from hs.at_ 0 rfl).lenz) (fun lenn9 => ?_)
  refine rVal (v' := .tuple #[.slice ay2 ny2 cy2, .int .i64 ((((Math.endsAt y1 yw1 yv1 pl1 yp1 ql1 yq1).2)))]) rfl ?_
  refine mv rfl rfl rfl ?_
  refine ext rfl rfl rfl rfl ?_
  refine ext rfl rfl rfl rfl ?_
  refine asS rfl rfl rfl ?_
  refine asI rfl rfl rfl ?_
  refine rNil ?_
  refine qSeq rfl ?_
  refine hSeq ?_
  refine hReg (sl 0 (sl 1 (sl 2 (sl 3 (sq 4 (sq 5 (sq 6 (sq 7 (sq 8 sz))))))))) (by kernel_rfl) ?_
  refine ldAl Try.isAgg43 Try.sizeOf43 (cBs 3 rfl) trv rfl rfl rfl rfl ?_
  refine ldAl Try.isAgg56 Try.sizeOf56 (cBs 2 rfl) trv rfl rfl rfl rfl ?_
  refine ldAl Try.isAgg56 Try.sizeOf56 (cBs 1 rfl) trv rfl rfl rfl rfl ?_
  refine callS Try.call71 trv1 rfl rfl (fun w hs => spec_EndNumbers_c _ ny1 cy1 _ _ _ nyw1 cyw1 _ _ _ nyv1 cyv1 _ _ _ _ nyp1 cyp1 _ _ _ _ nyq1 cyq1 _ _ w (hs.at_ 4 rfl) (hs.at_ 5 rfl) (hs.at_ 6 rfl) (OwnR.rd (hs.at_ 7 rfl) maK.ok) (OwnR.rd (hs.at_ 8 rfl) maK.ok)) ?_
  rintro ⟨ay3, ny3, cy3, y3, q3⟩ ⟨hr3a, hr3b⟩
  dsimp only at hr3a hr3b
  subst y3
  subst q3
  refine rPieces (L' := [OwnI 2 ay3 ny3 cy3 ((((Math.endsAt y1 yw1 yv1 pl1 yp1 ql1 yq1).1))), OwnI 2 ay2 ny2 cy2 ((((Math.endsAt y1 yw1 yv1 pl1 yp1 ql1 yq1).1))), blk bka8 56 [.int .i64 ql1, .slice ayq1 nyq1 cyq1], blk bka7 56 [.int .i64 pl1, .slice ayp1 nyp1 cyp1], blk bka6 43 [.slice ay1 ny1 cy1, .slice ayw1 nyw1 cyw1, .slice ayv1 nyv1 cyv1], RdR ndK ay1 ny1 Hy1 y1, RdR maK ayw1 nyw1 Hyw1 yw1, RdR maK ayv1 nyv1 Hyv1 yv1, OwnR maK 28 2 ayp1 nyp1 cyp1 Hyp1 yp1, OwnR maK 28 2 ayq1 nyq1 cyq1 Hyq1 yq1]) (fun _ h => h) ?_
  refine rKnow (fun w hs => (show OwnI 2 ay3 ny3 cy3 ((((Math.endsAt y1 yw1 yv1 pl1 yp1 ql1 yq1).1))) w from hs.at_ 0 rfl).lenz) (fun lenn10 => ?_)
  refine rVal (v' := .tuple #[.slice ay3 ny3 cy3, .int .i64 ((((Math.endsAt y1 yw1 yv1 pl1 yp1 ql1 yq1).2)))]) rfl ?_
  refine mv rfl rfl rfl ?_
  refine ext rfl rfl rfl rfl ?_
  refine ext rfl rfl rfl rfl ?_
  refine asS rfl rfl rfl ?_
  refine asI rfl rfl rfl ?_
  refine rNil ?_
  refine qSeq rfl ?_
  refine hSeq ?_
  refine hReg (sl 0 (sl 1 (sl 2 (sl 3 (sq 4 (sq 5 (sq 6 (sq 7 (sq 8 sz))))))))) (by kernel_rfl) ?_
  refine ldAl Try.isAgg43 Try.sizeOf43 (cBs 4 rfl) trv rfl rfl rfl rfl ?_
  refine ldAl Try.isAgg56 Try.sizeOf56 (cBs 3 rfl) trv rfl rfl rfl rfl ?_
  refine ldAl Try.isAgg56 Try.sizeOf56 (cBs 2 rfl) trv rfl rfl rfl rfl ?_
  refine callP (v := .tuple #[.int .i64 ((Math.showAt y1 yw1 yv1 pl1 yp1 ql1 yq1).1), .int .i64 ((Math.showAt y1 yw1 yv1 pl1 yp1 ql1 yq1).2)]) Try.call72 trv rfl rfl (fun w hs => impl_ShowdownNumber_c _ ny1 cy1 _ _ _ nyw1 cyw1 _ _ _ nyv1 cyv1 _ _ _ _ nyp1 cyp1 _ _ _ _ nyq1 cyq1 _ _ w (hs.at_ 5 rfl) (hs.at_ 6 rfl) (hs.at_ 7 rfl) (OwnR.rd (hs.at_ 8 rfl) maK.ok) (OwnR.rd (hs.at_ 9 rfl) maK.ok)) ?_
  refine mv rfl rfl rfl ?_
  refine ext rfl rfl rfl rfl ?_
  refine ext rfl rfl rfl rfl ?_
  refine asI rfl rfl rfl ?_
  refine asI rfl rfl rfl ?_
  refine rNil ?_
  refine qSeq rfl ?_
  refine hSeq ?_
  refine hReg (sl 0 (sl 1 (sl 2 (sl 3 (sq 4 (sq 5 (sq 6 (sq 7 (sq 8 sz))))))))) (by kernel_rfl) ?_
  refine ldAl Try.isAgg43 Try.sizeOf43 (cBs 4 rfl) trv rfl rfl rfl rfl ?_
  refine ldAl Try.isAgg56 Try.sizeOf56 (cBs 3 rfl) trv rfl rfl rfl rfl ?_
  refine ldAl Try.isAgg56 Try.sizeOf56 (cBs 2 rfl) trv rfl rfl rfl rfl ?_
  refine callP (v := .tuple #[.int .i64 ((Math.showAt y1 yw1 yv1 pl1 yp1 ql1 yq1).1), .int .i64 ((Math.showAt y1 yw1 yv1 pl1 yp1 ql1 yq1).2)]) Try.call73 trv rfl rfl (fun w hs => spec_ShowdownNumber_c _ ny1 cy1 _ _ _ nyw1 cyw1 _ _ _ nyv1 cyv1 _ _ _ _ nyp1 cyp1 _ _ _ _ nyq1 cyq1 _ _ w (hs.at_ 5 rfl) (hs.at_ 6 rfl) (hs.at_ 7 rfl) (OwnR.rd (hs.at_ 8 rfl) maK.ok) (OwnR.rd (hs.at_ 9 rfl) maK.ok)) ?_
  refine mv rfl rfl rfl ?_
  refine ext rfl rfl rfl rfl ?_
  refine ext rfl rfl rfl rfl ?_
  refine asI rfl rfl rfl ?_
  refine asI rfl rfl rfl ?_
  refine rNil ?_
  refine qSeq rfl ?_
  refine hSeq ?_
  refine hReg (sq 0 (sl 1 (sq 2 (sq 3 (sq 4 (sq 5 (sq 6 (sl 7 (sl 8 (sl 9 (sl 10 (sl 11 (sl 12 (sq 13 sz)))))))))))))) (by kernel_rfl) ?_
  refine mvS rfl rfl rfl ?_
  refine callS Try.call74 trv1 rfl rfl (fun w hs => spec_DrawReachNumber_c _ _ cc w (Kn.drop (k := 10) kcode w hs) (by assumption)) ?_
  rintro ⟨ay4, ny4, cy4, Hy4, y4, ayw4, nyw4, cyw4, Hyw4, yw4, ayv4, nyv4, cyv4, Hyv4, yv4, pl4, ayp4, nyp4, cyp4, Hyp4, yp4, ql4, ayq4, nyq4, cyq4, Hyq4, yq4, q4⟩ hr4
  try dsimp only at hr4
  refine rPieces (L' := [RdR ndK ay4 ny4 Hy4 y4, RdR maK ayw4 nyw4 Hyw4 yw4, RdR maK ayv4 nyv4 Hyv4 yv4, OwnR maK 28 2 ayp4 nyp4 cyp4 Hyp4 yp4, OwnR maK 28 2 ayq4 nyq4 cyq4 Hyq4 yq4, OwnI 2 ay3 ny3 cy3 ((((Math.endsAt y1 yw1 yv1 pl1 yp1 ql1 yq1).1))), OwnI 2 ay2 ny2 cy2 ((((Math.endsAt y1 yw1 yv1 pl1 yp1 ql1 yq1).1))), blk bka8 56 [.int .i64 ql1, .slice ayq1 nyq1 cyq1], blk bka7 56 [.int .i64 pl1, .slice ayp1 nyp1 cyp1], blk bka6 43 [.slice ay1 ny1 cy1, .slice ayw1 nyw1 cyw1, .slice ayv1 nyv1 cyv1], RdR ndK ay1 ny1 Hy1 y1, RdR maK ayw1 nyw1 Hyw1 yw1, RdR maK ayv1 nyv1 Hyv1 yv1, OwnR maK 28 2 ayp1 nyp1 cyp1 Hyp1 yp1, OwnR maK 28 2 ayq1 nyq1 cyq1 Hyq1 yq1]) (fun _ h => h) ?_
  refine rKnow (fun w hs => (show RdR ndK ay4 ny4 Hy4 y4 w from hs.at_ 0 rfl).1) (fun lenn11 => ?_)
  refine rKnow (fun w hs => (show RdR maK ayw4 nyw4 Hyw4 yw4 w from hs.at_ 1 rfl).1) (fun lenn12 => ?_)
  refine rKnow (fun w hs => (show RdR maK ayv4 nyv4 Hyv4 yv4 w from hs.at_ 2 rfl).1) (fun lenn13 => ?_)
  refine rKnow (fun w hs => (show OwnR maK 28 2 ayp4 nyp4 cyp4 Hyp4 yp4 w from hs.at_ 3 rfl).1) (fun lenn14 => ?_)
  refine rKnow (fun w hs => (show OwnR maK 28 2 ayq4 nyq4 cyq4 Hyq4 yq4 w from hs.at_ 4 rfl).1) (fun lenn15 => ?_)
  refine rVal (v' := .tuple #[.agg #[.slice ay4 ny4 cy4, .slice ayw4 nyw4 cyw4, .slice ayv4 nyv4 cyv4], .agg #[.int .i64 pl4, .slice ayp4 nyp4 cyp4], .agg #[.int .i64 ql4, .slice ayq4 nyq4 cyq4], .int .i64 q4]) rfl ?_
  refine mv rfl rfl rfl ?_
  refine ext rfl rfl rfl rfl ?_
  refine ext rfl rfl rfl rfl ?_
  refine ext rfl rfl rfl rfl ?_
  refine ext rfl rfl rfl rfl ?_
  refine alc Try.zeroValue43 rfl trv1 rfl rfl (fun bka16 hbka16 => ?_)
  refine alc Try.zeroValue56 rfl trv1 rfl rfl (fun bka17 hbka17 => ?_)
  refine alc Try.zeroValue56 rfl trv1 rfl rfl (fun bka18 hbka18 => ?_)
  refine stAl (vs := [.slice ay4 ny4 cy4, .slice ayw4 nyw4 cyw4, .slice ayv4 nyv4 cyv4]) 2 rfl Try.sizeOf43 trv rfl rfl rfl rfl rfl (by simp [Value.oneCell']) rfl ?_
  refine stAl (vs := [.int .i64 pl4, .slice ayp4 nyp4 cyp4]) 1 rfl Try.sizeOf56 trv rfl rfl rfl rfl rfl (by simp [Value.oneCell']) rfl ?_
  refine stAl (vs := [.int .i64 ql4, .slice ayq4 nyq4 cyq4]) 0 rfl Try.sizeOf56 trv rfl rfl rfl rfl rfl (by simp [Value.oneCell']) rfl ?_
  refine asI rfl rfl rfl ?_
  refine rNil ?_
  refine qSeq rfl ?_
  refine hSeq ?_
  refine hReg (sl 0 (sl 1 (sl 2 (sq 3 (sl 4 (sq 5 (sq 6 (sq 7 (sq 8 (sq 9 sz)))))))))) (by kernel_rfl) ?_
  refine ldAl Try.isAgg43 Try.sizeOf43 (cBs 2 rfl) trv rfl rfl rfl rfl ?_
  refine ldAl Try.isAgg56 Try.sizeOf56 (cBs 1 rfl) trv rfl rfl rfl rfl ?_
  refine ldAl Try.isAgg56 Try.sizeOf56 (cBs 0 rfl) trv rfl rfl rfl rfl ?_
  refine mvI rfl rfl rfl ?_
  refine callP (v := .tuple #[.int .i64 ((Math.reachAt y4 yw4 yv4 pl4 yp4 ql4 yq4 q4).1), .int .i64 ((Math.reachAt y4 yw4 yv4 pl4 yp4 ql4 yq4 q4).2)]) Try.call75 trv rfl rfl (fun w hs => impl_ReachNumber_c _ ny4 cy4 _ _ _ nyw4 cyw4 _ _ _ nyv4 cyv4 _ _ _ _ nyp4 cyp4 _ _ _ _ nyq4 cyq4 _ _ _ w (hs.at_ 3 rfl) (hs.at_ 4 rfl) (hs.at_ 5 rfl) (OwnR.rd (hs.at_ 6 rfl) maK.ok) (OwnR.rd (hs.at_ 7 rfl) maK.ok)) ?_
  refine mv rfl rfl rfl ?_
  refine ext rfl rfl rfl rfl ?_
  refine ext rfl rfl rfl rfl ?_
  refine asI rfl rfl rfl ?_
  refine asI rfl rfl rfl ?_
  refine rNil ?_
  refine qSeq rfl ?_
  refine hSeq ?_
  refine hReg (sl 0 (sl 1 (sl 2 (sq 3 (sl 4 (sq 5 (sq 6 (sq 7 (sq 8 (sq 9 sz)))))))))) (by kernel_rfl) ?_
  refine ldAl Try.isAgg43 Try.sizeOf43 (cBs 2 rfl) trv rfl rfl rfl rfl ?_
  refine ldAl Try.isAgg56 Try.sizeOf56 (cBs 1 rfl) trv rfl rfl rfl rfl ?_
  refine ldAl Try.isAgg56 Try.sizeOf56 (cBs 0 rfl) trv rfl rfl rfl rfl ?_
  refine mvI rfl rfl rfl ?_
  refine callP (v := .tuple #[.int .i64 ((Math.reachAt y4 yw4 yv4 pl4 yp4 ql4 yq4 q4).1), .int .i64 ((Math.reachAt y4 yw4 yv4 pl4 yp4 ql4 yq4 q4).2)]) Try.call76 trv rfl rfl (fun w hs => spec_ReachNumber_c _ ny4 cy4 _ _ _ nyw4 cyw4 _ _ _ nyv4 cyv4 _ _ _ _ nyp4 cyp4 _ _ _ _ nyq4 cyq4 _ _ _ w (hs.at_ 3 rfl) (hs.at_ 4 rfl) (hs.at_ 5 rfl) (OwnR.rd (hs.at_ 6 rfl) maK.ok) (OwnR.rd (hs.at_ 7 rfl) maK.ok)) ?_
  refine mv rfl rfl rfl ?_
  refine ext rfl rfl rfl rfl ?_
  refine ext rfl rfl rfl rfl ?_
  refine asI rfl rfl rfl ?_
  refine asI rfl rfl rfl ?_
  refine rNil ?_
  refine qSeq rfl ?_
  refine hSeq ?_
  refine hSeq ?_
  refine hReg (sq 0 (sq 1 (sq 2 (sq 3 (sq 4 (sq 5 (sl 6 (sq 7 (sq 8 (sq 9 (sq 10 (sq 11 (sq 12 (sq 13 (sq 14 (sq 15 (sq 16 (sq 17 (sq 18 (sq 19 (sq 20 (sq 21 (sq 22 (sq 23 (sq 24 (sq 25 (sq 26 (sq 27 (sq 28 sz))))))))))))))))))))))))))))) (by kernel_rfl) ?_
  refine mvI rfl rfl rfl ?_
  refine mvI rfl rfl rfl ?_
  refine neq rfl rfl rfl rfl ?_
  refine mvB rfl rfl rfl ?_
  refine rBoolD (d := 90) rfl (fun g2 => ?_) (fun g2 => ?_)
  ·
   replace g2 : (((Math.endsAt y1 yw1 yv1 pl1 yp1 ql1 yq1).2)) ≠ (((Math.endsAt y1 yw1 yv1 pl1 yp1 ql1 yq1).2)) := g2
   exact absurd rfl g2
  ·
   replace g2 : ¬ ((((Math.endsAt y1 yw1 yv1 pl1 yp1 ql1 yq1).2)) ≠ (((Math.endsAt y1 yw1 yv1 pl1 yp1 ql1 yq1).2))) := g2
   refine mvS rfl rfl rfl ?_
   refine mvS rfl rfl rfl ?_
   refine callP (v := .bool true) Try.call19 trv rfl rfl (fun w hs => laws_likeInts_c _ ny2 cy2 _ _ ny3 cy3 _ w (OwnI.rd (hs.at_ 9 rfl)) (OwnI.rd (hs.at_ 8 rfl)) (by first | rfl | assumption | (rw [heq]) | (simp only [*]))) ?_
   refine not rfl rfl rfl ?_
   refine pickB rfl rfl rfl rfl ?_
   refine mvB rfl rfl rfl ?_
   refine mvI rfl rfl rfl ?_
   refine mvI rfl rfl rfl ?_
   refine neq rfl rfl rfl rfl ?_
   refine pickB rfl rfl rfl rfl ?_
   refine mvB rfl rfl rfl ?_
   refine rBoolD (d := 101) rfl (fun g3 => ?_) (fun g3 => ?_)
   ·
    replace g3 : (Math.showAt y1 yw1 yv1 pl1 yp1 ql1 yq1).2 ≠ (Math.showAt y1 yw1 yv1 pl1 yp1 ql1 yq1).2 := g3
    exact absurd rfl g3
   ·
    replace g3 : ¬ ((Math.showAt y1 yw1 yv1 pl1 yp1 ql1 yq1).2 ≠ (Math.showAt y1 yw1 yv1 pl1 yp1 ql1 yq1).2) := g3
    refine mvI rfl rfl rfl ?_
    refine mvI rfl rfl rfl ?_
    refine neq rfl rfl rfl rfl ?_
    refine pickB rfl rfl rfl rfl ?_
    refine mvB rfl rfl rfl ?_
    refine rBoolD (d := 106) rfl (fun g4 => ?_) (fun g4 => ?_)
    ·
     replace g4 : (Math.showAt y1 yw1 yv1 pl1 yp1 ql1 yq1).1 ≠ (Math.showAt y1 yw1 yv1 pl1 yp1 ql1 yq1).1 := g4
     exact absurd rfl g4
    ·
     replace g4 : ¬ ((Math.showAt y1 yw1 yv1 pl1 yp1 ql1 yq1).1 ≠ (Math.showAt y1 yw1 yv1 pl1 yp1 ql1 yq1).1) := g4
     refine mvI rfl rfl rfl ?_
     refine mvI rfl rfl rfl ?_
     refine neq rfl rfl rfl rfl ?_
     refine pickB rfl rfl rfl rfl ?_
     refine mvB rfl rfl rfl ?_
     refine rBoolD (d := 111) rfl (fun g5 => ?_) (fun g5 => ?_)
     ·
      replace g5 : (Math.reachAt y4 yw4 yv4 pl4 yp4 ql4 yq4 q4).2 ≠ (Math.reachAt y4 yw4 yv4 pl4 yp4 ql4 yq4 q4).2 := g5
      exact absurd rfl g5
     ·
      replace g5 : ¬ ((Math.reachAt y4 yw4 yv4 pl4 yp4 ql4 yq4 q4).2 ≠ (Math.reachAt y4 yw4 yv4 pl4 yp4 ql4 yq4 q4).2) := g5
      refine mvI rfl rfl rfl ?_
      refine mvI rfl rfl rfl ?_
      refine neq rfl rfl rfl rfl ?_
      refine pickB rfl rfl rfl rfl ?_
      refine rNil ?_
      refine qSeq rfl ?_
      refine hIfD rfl (fun c6 => ?_) (fun c6 => ?_)
      ·
       replace c6 : (Math.reachAt y4 yw4 yv4 pl4 yp4 ql4 yq4 q4).1 ≠ (Math.reachAt y4 yw4 yv4 pl4 yp4 ql4 yq4 q4).1 := c6
       exact absurd rfl c6
      ·
       replace c6 : ¬ ((Math.reachAt y4 yw4 yv4 pl4 yp4 ql4 yq4 q4).1 ≠ (Math.reachAt y4 yw4 yv4 pl4 yp4 ql4 yq4 q4).1) := c6
       refine hSkip ?_
       refine qSeq rfl ?_
       refine hSeq ?_
       refine hSeq ?_
       refine hReg (sq 0 (sq 1 (sq 2 (sq 3 (sq 4 (sl 5 (sq 6 (sq 7 (sq 8 (sl 9 (sq 10 (sq 11 (sq 12 sz))))))))))))) (by kernel_rfl) ?_
       refine mvI rfl rfl rfl ?_
       refine eql rfl rfl rfl rfl ?_
       refine mvB rfl rfl rfl ?_
       refine rBoolD (d := 118) rfl (fun g7 => ?_) (fun g7 => ?_)
       ·
        replace g7 : (Math.reachAt y4 yw4 yv4 pl4 yp4 ql4 yq4 q4).2 = 0 := g7
        have hr7 := g7
        have hrq := (Math.reach_ok hr7).2
        refine fld fl43_0 rfl rfl rfl ?_
        refine fld fl26_0 rfl rfl rfl ?_
        refine ldl Try.isAgg24 (cB 2 rfl rfl) trv rfl rfl rfl ?_
        refine mvI rfl rfl rfl ?_
        refine ixRl (zn := (q4).toNat) (y4.getD ((q4).toNat) dN) el24 (Kn.at_ 3 rfl) rfl rfl rfl rfl (by omega) (by omega) rfl (nth dN (by omega)) ?_
        intro be5 oe5 e5
        refine fld fl88_4 rfl rfl rfl ?_
        refine ldl Try.isAgg28 (Kn.fld e5 4 rfl) trv rfl rfl rfl ?_
        refine lenS Try.runUnderlying28 rfl rfl rfl ?_
        refine gtr rfl rfl rfl rfl ?_
        refine pickB rfl rfl rfl rfl ?_
        refine rNil ?_
        refine qSeq rfl ?_
        refine hIfD rfl (fun c8 => ?_) (fun c8 => ?_)
        ·
         replace c8 : 0 < ((((y4.getD ((q4).toNat) dN).ch).length : Nat) : Int) := c8
         refine hSeq ?_
         refine hReg (sq 0 sz) (by kernel_rfl) ?_
         refine asI rfl rfl rfl ?_
         refine rNil ?_
         refine qSeq rfl ?_
         refine hSeq ?_
         refine hSeq ?_
         refine hReg (sq 0 sz) (by kernel_rfl) ?_
         refine asI rfl rfl rfl ?_
         refine rNil ?_
         refine qSeq rfl ?_
         refine hBlk ?_
         refine hLoop (α := Nat × Int) (fun x => x.1 ≤ (y4.getD (q4).toNat dN).ch.length ∧ x.2 = Math.kidTo y4 yw4 yw4.length yp4 yq4 q4 x.1) (fun x => (y4.getD (q4).toNat dN).ch.length - x.1) (fun x => [blk bka18 56 [.int .i64 ql4, .slice ayq4 nyq4 cyq4], blk bka17 56 [.int .i64 pl4, .slice ayp4 nyp4 cyp4], blk bka16 43 [.slice ay4 ny4 cy4, .slice ayw4 nyw4 cyw4, .slice ayv4 nyv4 cyv4], RdR ndK ay4 ny4 Hy4 y4, RdR maK ayw4 nyw4 Hyw4 yw4, RdR maK ayv4 nyv4 Hyv4 yv4, OwnR maK 28 2 ayp4 nyp4 cyp4 Hyp4 yp4, OwnR maK 28 2 ayq4 nyq4 cyq4 Hyq4 yq4, OwnI 2 ay3 ny3 cy3 ((((Math.endsAt y1 yw1 yv1 pl1 yp1 ql1 yq1).1))), OwnI 2 ay2 ny2 cy2 ((((Math.endsAt y1 yw1 yv1 pl1 yp1 ql1 yq1).1))), blk bka8 56 [.int .i64 ql1, .slice ayq1 nyq1 cyq1], blk bka7 56 [.int .i64 pl1, .slice ayp1 nyp1 cyp1], blk bka6 43 [.slice ay1 ny1 cy1, .slice ayw1 nyw1 cyw1, .slice ayv1 nyv1 cyv1], RdR ndK ay1 ny1 Hy1 y1, RdR maK ayw1 nyw1 Hyw1 yw1, RdR maK ayv1 nyv1 Hyv1 yv1, OwnR maK 28 2 ayp1 nyp1 cyp1 Hyp1 yp1, OwnR maK 28 2 ayq1 nyq1 cyq1 Hyq1 yq1]) (fun x => [(3, .pointer (some ⟨bka6, 0, none⟩)), (6, .slice ay2 ny2 cy2), (7, .int .i64 ((((Math.endsAt y1 yw1 yv1 pl1 yp1 ql1 yq1).2)))), (10, .int .i64 ((Math.showAt y1 yw1 yv1 pl1 yp1 ql1 yq1).1)), (14, .pointer (some ⟨bka16, 0, none⟩)), (15, .pointer (some ⟨bka17, 0, none⟩)), (16, .pointer (some ⟨bka18, 0, none⟩)), (17, .int .i64 q4), (18, .int .i64 ((Math.reachAt y4 yw4 yv4 pl4 yp4 ql4 yq4 q4).1)), (22, .int .i64 x.2), (23, .int .i64 (x.1 : Int))]) (0, 0) ⟨Nat.zero_le _, rfl⟩ (fun _ h => h) ⟨rfl, rfl, rfl, rfl, rfl, rfl, rfl, rfl, rfl, rfl, rfl, trivial⟩ ?_
         rintro ⟨i, s⟩ τ1 ⟨hi, hsk⟩
         dsimp only at hi hsk
         refine hRe [(3, .pointer (some ⟨bka6, 0, none⟩)), (6, .slice ay2 ny2 cy2), (7, .int .i64 ((((Math.endsAt y1 yw1 yv1 pl1 yp1 ql1 yq1).2)))), (10, .int .i64 ((Math.showAt y1 yw1 yv1 pl1 yp1 ql1 yq1).1)), (14, .pointer (some ⟨bka16, 0, none⟩)), (15, .pointer (some ⟨bka17, 0, none⟩)), (16, .pointer (some ⟨bka18, 0, none⟩)), (17, .int .i64 q4), (18, .int .i64 ((Math.reachAt y4 yw4 yv4 pl4 yp4 ql4 yq4 q4).1)), (22, .int .i64 s), (23, .int .i64 (i : Int))] [blk bka18 56 [.int .i64 ql4, .slice ayq4 nyq4 cyq4], blk bka17 56 [.int .i64 pl4, .slice ayp4 nyp4 cyp4], blk bka16 43 [.slice ay4 ny4 cy4, .slice ayw4 nyw4 cyw4, .slice ayv4 nyv4 cyv4], RdR ndK ay4 ny4 Hy4 y4, RdR maK ayw4 nyw4 Hyw4 yw4, RdR maK ayv4 nyv4 Hyv4 yv4, OwnR maK 28 2 ayp4 nyp4 cyp4 Hyp4 yp4, OwnR maK 28 2 ayq4 nyq4 cyq4 Hyq4 yq4, OwnI 2 ay3 ny3 cy3 ((((Math.endsAt y1 yw1 yv1 pl1 yp1 ql1 yq1).1))), OwnI 2 ay2 ny2 cy2 ((((Math.endsAt y1 yw1 yv1 pl1 yp1 ql1 yq1).1))), blk bka8 56 [.int .i64 ql1, .slice ayq1 nyq1 cyq1], blk bka7 56 [.int .i64 pl1, .slice ayp1 nyp1 cyp1], blk bka6 43 [.slice ay1 ny1 cy1, .slice ayw1 nyw1 cyw1, .slice ayv1 nyv1 cyv1], RdR ndK ay1 ny1 Hy1 y1, RdR maK ayw1 nyw1 Hyw1 yw1, RdR maK ayv1 nyv1 Hyv1 yv1, OwnR maK 28 2 ayp1 nyp1 cyp1 Hyp1 yp1, OwnR maK 28 2 ayq1 nyq1 cyq1 Hyq1 yq1] rfl rfl ?_
         refine hSeq ?_
         refine hSeq ?_
         refine hReg (sq 0 (sq 1 (sq 2 (sl 3 (sq 4 (sq 5 (sq 6 (sl 7 (sq 8 (sq 9 sz)))))))))) (by kernel_rfl) ?_
         refine mvI rfl rfl rfl ?_
         refine fld fl43_0 rfl rfl rfl ?_
         refine fld fl26_0 rfl rfl rfl ?_
         refine ldl Try.isAgg24 (cB 2 rfl rfl) trv rfl rfl rfl ?_
         refine mvI rfl rfl rfl ?_
         refine ixRl (zn := (q4).toNat) (y4.getD ((q4).toNat) dN) el24 (Kn.at_ 3 rfl) rfl rfl rfl rfl (by omega) (by omega) rfl (nth dN (by omega)) ?_
         intro be6 oe6 e6
         refine fld fl88_4 rfl rfl rfl ?_
         refine ldl Try.isAgg28 (Kn.fld e6 4 rfl) trv rfl rfl rfl ?_
         refine lenS Try.runUnderlying28 rfl rfl rfl ?_
         refine lss rfl rfl rfl rfl ?_
         refine rNil ?_
         refine qSeq rfl ?_
         refine hIfD rfl (fun c9 => ?_) (fun c9 => ?_)
         ·
          replace c9 : (i : Int) < ((((y4.getD ((q4).toNat) dN).ch).length : Nat) : Int) := c9
          have hrk := Math.reach_kid hr7 (i := i) (by omega)
          refine hSkip ?_
          refine qSeq rfl ?_
          refine hSeq ?_
          refine hBlk ?_
          refine hSeq ?_
          refine hDraw (Ls := [blk bka18 56 [.int .i64 ql4, .slice ayq4 nyq4 cyq4], blk bka17 56 [.int .i64 pl4, .slice ayp4 nyp4 cyp4], blk bka16 43 [.slice ay4 ny4 cy4, .slice ayw4 nyw4 cyw4, .slice ayv4 nyv4 cyv4], RdR ndK ay4 ny4 Hy4 y4]) (by kernel_rfl) (sq 0 (sq 1 (sq 2 (sq 3 (sq 4 (sq 5 (sq 6 (sq 7 (sq 8 (sq 9 (sq 10 (sq 11 (sq 12 (sl 13 (sq 14 (sq 15 (sq 16 (sq 17 (sq 18 sz))))))))))))))))))) (by kernel_rfl) (.cons_cons _ (.cons_cons _ (.cons_cons _ (.cons_cons _ (.cons _ (.cons _ (.cons _ (.cons _ (.cons _ (.cons _ (.cons _ (.cons _ (.cons _ (.cons _ (.cons _ (.cons _ (.cons _ (.cons _ .slnil)))))))))))))))))) ?_
          refine ldAq Try.isAgg43 Try.sizeOf43 (cBs 2 rfl) rfl rfl rfl rfl ?_
          refine ldAq Try.isAgg56 Try.sizeOf56 (cBs 1 rfl) rfl rfl rfl rfl ?_
          refine ldAq Try.isAgg56 Try.sizeOf56 (cBs 0 rfl) rfl rfl rfl rfl ?_
          refine fld fl43_0 rfl rfl rfl ?_
          refine fld fl26_0 rfl rfl rfl ?_
          refine ldq Try.isAgg24 (cB 2 rfl rfl) rfl rfl rfl ?_
          refine mvI rfl rfl rfl ?_
          refine ixRq (zn := (q4).toNat) (y4.getD ((q4).toNat) dN) el24 (Kn.at_ 3 rfl) (fun _ h => h.pick [0, 0, 0, 0]) rfl rfl rfl rfl (by omega) (by omega) rfl (nth dN (by omega)) ?_
          intro be7 oe7 e7
          refine fld fl88_4 rfl rfl rfl ?_
          refine ldq Try.isAgg28 (Kn.fld e7 4 rfl) rfl rfl rfl ?_
          refine mvI rfl rfl rfl ?_
          refine ixIq (zn := i) el28 ((Kn.imp (Kn.at_ 3 rfl) fun _ h => h.kidN (nth dN (by omega)))) (fun _ h => h.pick [0, 0, 0, 0]) rfl rfl rfl rfl (by omega) (by omega) rfl ?_
          intro ae8 e8
          refine ldq Try.isAgg2 (e8) rfl rfl rfl ?_
          refine callP (v := .tuple #[.int .i64 ((Math.reachAt y4 yw4 yv4 pl4 yp4 ql4 yq4 ((((y4.getD ((q4).toNat) dN).ch).getD i 0))).1), .int .i64 ((Math.reachAt y4 yw4 yv4 pl4 yp4 ql4 yq4 ((((y4.getD ((q4).toNat) dN).ch).getD i 0))).2)]) Try.call75 (fun _ h => h.pick [0, 0, 0, 0]) rfl rfl (fun w hs => impl_ReachNumber_c _ ny4 cy4 _ _ _ nyw4 cyw4 _ _ _ nyv4 cyv4 _ _ _ _ nyp4 cyp4 _ _ _ _ nyq4 cyq4 _ _ _ w (hs.at_ 3 rfl) (hs.at_ 4 rfl) (hs.at_ 5 rfl) (OwnR.rd (hs.at_ 6 rfl) maK.ok) (OwnR.rd (hs.at_ 7 rfl) maK.ok)) ?_
          refine mv rfl rfl rfl ?_
          refine ext rfl rfl rfl rfl ?_
          refine ext rfl rfl rfl rfl ?_
          refine asI rfl rfl rfl ?_
          refine asI rfl rfl rfl ?_
          refine rNil ?_
          refine qSeq rfl ?_
          refine hSeq ?_
          refine hSeq ?_
          refine hReg (sq 0 (sq 1 sz)) (by kernel_rfl) ?_
          refine mvI rfl rfl rfl ?_
          refine neq rfl rfl rfl rfl ?_
          refine rNil ?_
          refine qSeq rfl ?_
          refine hIfD rfl (fun c10 => ?_) (fun c10 => ?_)
          ·
           replace c10 : (Math.reachAt y4 yw4 yv4 pl4 yp4 ql4 yq4 ((((y4.getD ((q4).toNat) dN).ch).getD i 0))).2 ≠ 0 := c10
           exact absurd hrk.1 c10
          ·
           replace c10 : ¬ ((Math.reachAt y4 yw4 yv4 pl4 yp4 ql4 yq4 ((((y4.getD ((q4).toNat) dN).ch).getD i 0))).2 ≠ 0) := c10
           refine hSkip ?_
           refine qSeq rfl ?_
           refine hReg (sq 0 (sq 1 (sq 2 (sq 3 sz)))) (by kernel_rfl) ?_
           refine mvI rfl rfl rfl ?_
           refine mvI rfl rfl rfl ?_
           refine add rfl rfl rfl rfl (by first | omega | (dsimp only; omega)) ?_
           refine asI rfl rfl rfl ?_
           refine rNil ?_
           refine qSeq rfl ?_
           refine hReg (sq 0 (sq 1 (sq 2 sz))) (by kernel_rfl) ?_
           refine mvI rfl rfl rfl ?_
           refine add rfl rfl rfl rfl (by first | omega | (dsimp only; omega)) ?_
           refine asI rfl rfl rfl ?_
           refine rNil ?_
           exact qNext rfl ((i + 1, (s + (Math.reachAt y4 yw4 yv4 pl4 yp4 ql4 yq4 ((((y4.getD ((q4).toNat) dN).ch).getD i 0))).1))) (by dsimp only; omega) ⟨by dsimp only; omega, by dsimp only; rw [hsk]; exact hrk.2.1⟩ ⟨rfl, rfl, rfl, rfl, rfl, rfl, rfl, rfl, rfl, rfl, rfl, trivial⟩ (fun _ h => h)
         ·
          replace c9 : ¬ ((i : Int) < ((((y4.getD ((q4).toNat) dN).ch).length : Nat) : Int)) := c9
          have hra := Math.reach_all hr7 (by omega)
          have hie : i = ((y4.getD (q4).toNat dN).ch).length := by omega
          rw [← hie] at hra
          refine hExit rfl ?_
          refine qSeq rfl ?_
          refine hSeq ?_
          refine hReg (sq 0 (sq 1 (sq 2 sz))) (by kernel_rfl) ?_
          refine mvI rfl rfl rfl ?_
          refine mvI rfl rfl rfl ?_
          refine neq rfl rfl rfl rfl ?_
          refine rNil ?_
          refine qSeq rfl ?_
          refine hIfD rfl (fun c11 => ?_) (fun c11 => ?_)
          ·
           replace c11 : s ≠ (Math.reachAt y4 yw4 yv4 pl4 yp4 ql4 yq4 q4).1 := c11
           exact absurd (hsk.trans hra) c11
          ·
           replace c11 : ¬ (s ≠ (Math.reachAt y4 yw4 yv4 pl4 yp4 ql4 yq4 q4).1) := c11
           refine hSkip ?_
           refine qSeq rfl ?_
           refine hSeq ?_
           refine hSeq ?_
           refine hReg (sq 0 (sq 1 sz)) (by kernel_rfl) ?_
           refine mvI rfl rfl rfl ?_
           refine neq rfl rfl rfl rfl ?_
           refine rNil ?_
           refine qSeq rfl ?_
           refine hIfD rfl (fun c12 => ?_) (fun c12 => ?_)
           ·
            replace c12 : (((Math.endsAt y1 yw1 yv1 pl1 yp1 ql1 yq1).2)) ≠ 0 := c12
            refine hSeq ?_
            refine hReg (sq 0 sz) (by kernel_rfl) ?_
            refine asB rfl rfl rfl ?_
            refine rNil ?_
            refine qSeq rfl ?_
            refine hRet ?_
            exact fun w hs => ⟨[.bool true], ⟨rfl, trivial⟩, ⟨by first | rfl | exact (bT hso.1.1).symm, hs.upd⟩⟩
           ·
            replace c12 : ¬ ((((Math.endsAt y1 yw1 yv1 pl1 yp1 ql1 yq1).2)) ≠ 0) := c12
            have hen := Classical.not_not.1 c12
            have hsm := Math.ends_unit hen
            have hso := Math.show_ok hen
            have hub := Math.unit_bd hsm.2.2.1
            have hel := Math.endsAt_len y1 yw1 yv1 pl1 yp1 ql1 yq1
            have hu0 : (Math.unitOf y1 yw1 yv1).1 = Math.unit y1 yw1 := by rw [hso.2]
            refine hSkip ?_
            refine qSeq rfl ?_
            refine hSeq ?_
            refine hReg (sl 0 (sl 1 (sq 2 (sq 3 (sq 4 (sq 5 (sq 6 sz))))))) (by kernel_rfl) ?_
            refine ldAl Try.isAgg43 Try.sizeOf43 (cBs 12 rfl) trv rfl rfl rfl rfl ?_
            refine callP (v := .tuple #[.int .i64 ((Math.unitOf y1 yw1 yv1).1), .int .i64 ((Math.unitOf y1 yw1 yv1).2)]) Try.call77 trv rfl rfl (fun w hs => impl_UnitOf_c _ ny1 cy1 _ _ _ nyw1 cyw1 _ _ _ nyv1 cyv1 _ _ w (hs.at_ 13 rfl) (hs.at_ 14 rfl) (hs.at_ 15 rfl)) ?_
            refine mv rfl rfl rfl ?_
            refine ext rfl rfl rfl rfl ?_
            refine ext rfl rfl rfl rfl ?_
            refine asI rfl rfl rfl ?_
            refine asI rfl rfl rfl ?_
            refine rNil ?_
            refine qSeq rfl ?_
            refine hSeq ?_
            refine hReg (sq 0 (sq 1 (sq 2 (sq 3 (sl 4 (sq 5 (sq 6 (sq 7 (sq 8 (sq 9 (sq 10 (sq 11 (sq 12 (sq 13 (sq 14 (sq 15 (sq 16 (sq 17 sz)))))))))))))))))) (by kernel_rfl) ?_
            refine mvI rfl rfl rfl ?_
            refine eql rfl rfl rfl rfl ?_
            refine mvB rfl rfl rfl ?_
            refine rBoolD (d := 175) rfl (fun g13 => ?_) (fun g13 => ?_)
            ·
             replace g13 : (Math.unitOf y1 yw1 yv1).2 = 0 := g13
             refine mvS rfl rfl rfl ?_
             refine callP (v := .int .i64 (((((Math.endsAt y1 yw1 yv1 pl1 yp1 ql1 yq1).1))).sum)) Try.call78 trv rfl rfl (fun w hs => laws_sum_c _ ny2 cy2 _ w (OwnI.rd (hs.at_ 9 rfl)) hsm.2.2.2 (by omega)) ?_
             refine mvI rfl rfl rfl ?_
             refine eql rfl rfl rfl rfl ?_
             refine pickB rfl rfl rfl rfl ?_
             refine mvB rfl rfl rfl ?_
             refine rBoolD (d := 181) rfl (fun g14 => ?_) (fun g14 => ?_)
             ·
              replace g14 : ((((Math.endsAt y1 yw1 yv1 pl1 yp1 ql1 yq1).1))).sum = (Math.unitOf y1 yw1 yv1).1 := g14
              refine mvI rfl rfl rfl ?_
              refine mvI rfl rfl rfl ?_
              refine leq rfl rfl rfl rfl ?_
              refine pickB rfl rfl rfl rfl ?_
              refine mvB rfl rfl rfl ?_
              refine rBoolD (d := 186) rfl (fun g15 => ?_) (fun g15 => ?_)
              ·
               replace g15 : (Math.showAt y1 yw1 yv1 pl1 yp1 ql1 yq1).1 ≤ (Math.unitOf y1 yw1 yv1).1 := g15
               refine mvI rfl rfl rfl ?_
               refine geq rfl rfl rfl rfl ?_
               refine pickB rfl rfl rfl rfl ?_
               refine asB rfl rfl rfl ?_
               refine rNil ?_
               refine qSeq rfl ?_
               refine hRet ?_
               exact fun w hs => ⟨[.bool (decide (0 ≤ (Math.showAt y1 yw1 yv1 pl1 yp1 ql1 yq1).1))], ⟨rfl, trivial⟩, ⟨by first | rfl | exact (bT hso.1.1).symm, hs.upd⟩⟩
              ·
               replace g15 : ¬ ((Math.showAt y1 yw1 yv1 pl1 yp1 ql1 yq1).1 ≤ (Math.unitOf y1 yw1 yv1).1) := g15
               exact absurd (by rw [hu0]; exact hso.1.2) g15
             ·
              replace g14 : ¬ (((((Math.endsAt y1 yw1 yv1 pl1 yp1 ql1 yq1).1))).sum = (Math.unitOf y1 yw1 yv1).1) := g14
              exact absurd (by rw [hsm.2.1, hu0]) g14
            ·
             replace g13 : ¬ ((Math.unitOf y1 yw1 yv1).2 = 0) := g13
             exact absurd (by rw [hso.2]) g13
        ·
         replace c8 : ¬ (0 < ((((y4.getD ((q4).toNat) dN).ch).length : Nat) : Int)) := c8
         refine hSkip ?_
         refine qSeq rfl ?_
         refine hSeq ?_
         refine hSeq ?_
         refine hReg (sq 0 (sq 1 sz)) (by kernel_rfl) ?_
         refine mvI rfl rfl rfl ?_
         refine neq rfl rfl rfl rfl ?_
         refine rNil ?_
         refine qSeq rfl ?_
         refine hIfD rfl (fun c16 => ?_) (fun c16 => ?_)
         ·
          replace c16 : (((Math.endsAt y1 yw1 yv1 pl1 yp1 ql1 yq1).2)) ≠ 0 := c16
          refine hSeq ?_
          refine hReg (sq 0 sz) (by kernel_rfl) ?_
          refine asB rfl rfl rfl ?_
          refine rNil ?_
          refine qSeq rfl ?_
          refine hRet ?_
          exact fun w hs => ⟨[.bool true], ⟨rfl, trivial⟩, ⟨by first | rfl | exact (bT hso.1.1).symm, hs.upd⟩⟩
         ·
          replace c16 : ¬ ((((Math.endsAt y1 yw1 yv1 pl1 yp1 ql1 yq1).2)) ≠ 0) := c16
          have hen := Classical.not_not.1 c16
          have hsm := Math.ends_unit hen
          have hso := Math.show_ok hen
          have hub := Math.unit_bd hsm.2.2.1
          have hel := Math.endsAt_len y1 yw1 yv1 pl1 yp1 ql1 yq1
          have hu0 : (Math.unitOf y1 yw1 yv1).1 = Math.unit y1 yw1 := by rw [hso.2]
          refine hSkip ?_
          refine qSeq rfl ?_
          refine hSeq ?_
          refine hReg (sl 0 (sl 1 (sq 2 (sq 3 (sq 4 (sq 5 (sq 6 sz))))))) (by kernel_rfl) ?_
          refine ldAl Try.isAgg43 Try.sizeOf43 (cBs 12 rfl) trv rfl rfl rfl rfl ?_
          refine callP (v := .tuple #[.int .i64 ((Math.unitOf y1 yw1 yv1).1), .int .i64 ((Math.unitOf y1 yw1 yv1).2)]) Try.call77 trv rfl rfl (fun w hs => impl_UnitOf_c _ ny1 cy1 _ _ _ nyw1 cyw1 _ _ _ nyv1 cyv1 _ _ w (hs.at_ 13 rfl) (hs.at_ 14 rfl) (hs.at_ 15 rfl)) ?_
          refine mv rfl rfl rfl ?_
          refine ext rfl rfl rfl rfl ?_
          refine ext rfl rfl rfl rfl ?_
          refine asI rfl rfl rfl ?_
          refine asI rfl rfl rfl ?_
          refine rNil ?_
          refine qSeq rfl ?_
          refine hSeq ?_
          refine hReg (sq 0 (sq 1 (sq 2 (sq 3 (sl 4 (sq 5 (sq 6 (sq 7 (sq 8 (sq 9 (sq 10 (sq 11 (sq 12 (sq 13 (sq 14 (sq 15 (sq 16 (sq 17 sz)))))))))))))))))) (by kernel_rfl) ?_
          refine mvI rfl rfl rfl ?_
          refine eql rfl rfl rfl rfl ?_
          refine mvB rfl rfl rfl ?_
          refine rBoolD (d := 175) rfl (fun g17 => ?_) (fun g17 => ?_)
          ·
           replace g17 : (Math.unitOf y1 yw1 yv1).2 = 0 := g17
           refine mvS rfl rfl rfl ?_
           refine callP (v := .int .i64 (((((Math.endsAt y1 yw1 yv1 pl1 yp1 ql1 yq1).1))).sum)) Try.call78 trv rfl rfl (fun w hs => laws_sum_c _ ny2 cy2 _ w (OwnI.rd (hs.at_ 9 rfl)) hsm.2.2.2 (by omega)) ?_
           refine mvI rfl rfl rfl ?_
           refine eql rfl rfl rfl rfl ?_
           refine pickB rfl rfl rfl rfl ?_
           refine mvB rfl rfl rfl ?_
           refine rBoolD (d := 181) rfl (fun g18 => ?_) (fun g18 => ?_)
           ·
            replace g18 : ((((Math.endsAt y1 yw1 yv1 pl1 yp1 ql1 yq1).1))).sum = (Math.unitOf y1 yw1 yv1).1 := g18
            refine mvI rfl rfl rfl ?_
            refine mvI rfl rfl rfl ?_
            refine leq rfl rfl rfl rfl ?_
            refine pickB rfl rfl rfl rfl ?_
            refine mvB rfl rfl rfl ?_
            refine rBoolD (d := 186) rfl (fun g19 => ?_) (fun g19 => ?_)
            ·
             replace g19 : (Math.showAt y1 yw1 yv1 pl1 yp1 ql1 yq1).1 ≤ (Math.unitOf y1 yw1 yv1).1 := g19
             refine mvI rfl rfl rfl ?_
             refine geq rfl rfl rfl rfl ?_
             refine pickB rfl rfl rfl rfl ?_
             refine asB rfl rfl rfl ?_
             refine rNil ?_
             refine qSeq rfl ?_
             refine hRet ?_
             exact fun w hs => ⟨[.bool (decide (0 ≤ (Math.showAt y1 yw1 yv1 pl1 yp1 ql1 yq1).1))], ⟨rfl, trivial⟩, ⟨by first | rfl | exact (bT hso.1.1).symm, hs.upd⟩⟩
            ·
             replace g19 : ¬ ((Math.showAt y1 yw1 yv1 pl1 yp1 ql1 yq1).1 ≤ (Math.unitOf y1 yw1 yv1).1) := g19
             exact absurd (by rw [hu0]; exact hso.1.2) g19
           ·
            replace g18 : ¬ (((((Math.endsAt y1 yw1 yv1 pl1 yp1 ql1 yq1).1))).sum = (Math.unitOf y1 yw1 yv1).1) := g18
            exact absurd (by rw [hsm.2.1, hu0]) g18
          ·
           replace g17 : ¬ ((Math.unitOf y1 yw1 yv1).2 = 0) := g17
           exact absurd (by rw [hso.2]) g17
       ·
        replace g7 : ¬ ((Math.reachAt y4 yw4 yv4 pl4 yp4 ql4 yq4 q4).2 = 0) := g7
        refine rSkipQ rfl rfl ?_
        refine rSkipQ rfl rfl ?_
        refine rSkipL trv rfl rfl ?_
        refine rSkipQ rfl rfl ?_
        refine rSkipQ rfl rfl ?_
        refine rSkipQ rfl rfl ?_
        refine rSkipL trv rfl rfl ?_
        refine rSkipQ rfl rfl ?_
        refine rSkipQ rfl rfl ?_
        refine pickB rfl rfl rfl rfl ?_
        refine rNil ?_
        refine qSeq rfl ?_
        refine hIfF rfl ?_
        refine hSkip ?_
        refine qSeq rfl ?_
        refine hSeq ?_
        refine hSeq ?_
        refine hReg (sq 0 (sq 1 sz)) (by kernel_rfl) ?_
        refine mvI rfl rfl rfl ?_
        refine neq rfl rfl rfl rfl ?_
        refine rNil ?_
        refine qSeq rfl ?_
        refine hIfD rfl (fun c20 => ?_) (fun c20 => ?_)
        ·
         replace c20 : (((Math.endsAt y1 yw1 yv1 pl1 yp1 ql1 yq1).2)) ≠ 0 := c20
         refine hSeq ?_
         refine hReg (sq 0 sz) (by kernel_rfl) ?_
         refine asB rfl rfl rfl ?_
         refine rNil ?_
         refine qSeq rfl ?_
         refine hRet ?_
         exact fun w hs => ⟨[.bool true], ⟨rfl, trivial⟩, ⟨by first | rfl | exact (bT hso.1.1).symm, hs.upd⟩⟩
        ·
         replace c20 : ¬ ((((Math.endsAt y1 yw1 yv1 pl1 yp1 ql1 yq1).2)) ≠ 0) := c20
         have hen := Classical.not_not.1 c20
         have hsm := Math.ends_unit hen
         have hso := Math.show_ok hen
         have hub := Math.unit_bd hsm.2.2.1
         have hel := Math.endsAt_len y1 yw1 yv1 pl1 yp1 ql1 yq1
         have hu0 : (Math.unitOf y1 yw1 yv1).1 = Math.unit y1 yw1 := by rw [hso.2]
         refine hSkip ?_
         refine qSeq rfl ?_
         refine hSeq ?_
         refine hReg (sl 0 (sl 1 (sq 2 (sq 3 (sq 4 (sq 5 (sq 6 sz))))))) (by kernel_rfl) ?_
         refine ldAl Try.isAgg43 Try.sizeOf43 (cBs 12 rfl) trv rfl rfl rfl rfl ?_
         refine callP (v := .tuple #[.int .i64 ((Math.unitOf y1 yw1 yv1).1), .int .i64 ((Math.unitOf y1 yw1 yv1).2)]) Try.call77 trv rfl rfl (fun w hs => impl_UnitOf_c _ ny1 cy1 _ _ _ nyw1 cyw1 _ _ _ nyv1 cyv1 _ _ w (hs.at_ 13 rfl) (hs.at_ 14 rfl) (hs.at_ 15 rfl)) ?_
         refine mv rfl rfl rfl ?_
         refine ext rfl rfl rfl rfl ?_
         refine ext rfl rfl rfl rfl ?_
         refine asI rfl rfl rfl ?_
         refine asI rfl rfl rfl ?_
         refine rNil ?_
         refine qSeq rfl ?_
         refine hSeq ?_
         refine hReg (sq 0 (sq 1 (sq 2 (sq 3 (sl 4 (sq 5 (sq 6 (sq 7 (sq 8 (sq 9 (sq 10 (sq 11 (sq 12 (sq 13 (sq 14 (sq 15 (sq 16 (sq 17 sz)))))))))))))))))) (by kernel_rfl) ?_
         refine mvI rfl rfl rfl ?_
         refine eql rfl rfl rfl rfl ?_
         refine mvB rfl rfl rfl ?_
         refine rBoolD (d := 175) rfl (fun g21 => ?_) (fun g21 => ?_)
         ·
          replace g21 : (Math.unitOf y1 yw1 yv1).2 = 0 := g21
          refine mvS rfl rfl rfl ?_
          refine callP (v := .int .i64 (((((Math.endsAt y1 yw1 yv1 pl1 yp1 ql1 yq1).1))).sum)) Try.call78 trv rfl rfl (fun w hs => laws_sum_c _ ny2 cy2 _ w (OwnI.rd (hs.at_ 9 rfl)) hsm.2.2.2 (by omega)) ?_
          refine mvI rfl rfl rfl ?_
          refine eql rfl rfl rfl rfl ?_
          refine pickB rfl rfl rfl rfl ?_
          refine mvB rfl rfl rfl ?_
          refine rBoolD (d := 181) rfl (fun g22 => ?_) (fun g22 => ?_)
          ·
           replace g22 : ((((Math.endsAt y1 yw1 yv1 pl1 yp1 ql1 yq1).1))).sum = (Math.unitOf y1 yw1 yv1).1 := g22
           refine mvI rfl rfl rfl ?_
           refine mvI rfl rfl rfl ?_
           refine leq rfl rfl rfl rfl ?_
           refine pickB rfl rfl rfl rfl ?_
           refine mvB rfl rfl rfl ?_
           refine rBoolD (d := 186) rfl (fun g23 => ?_) (fun g23 => ?_)
           ·
            replace g23 : (Math.showAt y1 yw1 yv1 pl1 yp1 ql1 yq1).1 ≤ (Math.unitOf y1 yw1 yv1).1 := g23
            refine mvI rfl rfl rfl ?_
            refine geq rfl rfl rfl rfl ?_
            refine pickB rfl rfl rfl rfl ?_
            refine asB rfl rfl rfl ?_
            refine rNil ?_
            refine qSeq rfl ?_
            refine hRet ?_
            exact fun w hs => ⟨[.bool (decide (0 ≤ (Math.showAt y1 yw1 yv1 pl1 yp1 ql1 yq1).1))], ⟨rfl, trivial⟩, ⟨by first | rfl | exact (bT hso.1.1).symm, hs.upd⟩⟩
           ·
            replace g23 : ¬ ((Math.showAt y1 yw1 yv1 pl1 yp1 ql1 yq1).1 ≤ (Math.unitOf y1 yw1 yv1).1) := g23
            exact absurd (by rw [hu0]; exact hso.1.2) g23
          ·
           replace g22 : ¬ (((((Math.endsAt y1 yw1 yv1 pl1 yp1 ql1 yq1).1))).sum = (Math.unitOf y1 yw1 yv1).1) := g22
           exact absurd (by rw [hsm.2.1, hu0]) g22
         ·
          replace g21 : ¬ ((Math.unitOf y1 yw1 yv1).2 = 0) := g21
          exact absurd (by rw [hso.2]) g21
theorem cells5 : Try.prog.cellsOf 5 = 1 := by kernel_rfl
set_option maxHeartbeats 2000000 in
theorem fnEnds_lifted (os : Os) (started : os.Started) (H : Type) (enc : TypeId × Value → H) :
  ReturnsInHanded {} Try.checked os 9 .any (Rows.fnEndsSpec.pre6 enc Try.prog Try.f9 Rows.fnEndsRow.domain false) (Rows.fnEndsSpec.post enc Try.prog Try.f9 false true false false) := by
 refine returnsInHanded_of_change (C := Try.checked) own started (by kernel_rfl) Try.func9
  (ChangeSpec.witness6 (enc := enc) (C := Try.checked) false ⟨#[], #[.slice none 0 0], []⟩ 8 (by kernel_rfl) (by kernel_rfl) (by kernel_rfl) (by kernel_rfl)) ?_
 intro W base args ds gs before hval0 hW hcnd _
 have hval : ∀ (j : Nat) t v, Try.f9.params[j]? = some t → args[j]? = some v → Value.okWide Try.prog W .any base t v := hval0
 have hW' := hW
 obtain ⟨p, q, hA0, hV, rfl, hfz, hnd⟩ := hW
 have hA : DataW.TrodAll enc Try.prog W 0 (fun _ => true) true Try.f9.params.toList args.toList ds p := hA0
 rw [Try.params9] at hA hval
 obtain ⟨v0, vs0, d0, ds0, p0, q0, hargs, rfl, rfl, h0, r0⟩ := trodAll_cons hA
 obtain ⟨rfl, rfl, rfl⟩ := trodAll_nil r0
 obtain rfl : args = #[v0] := by cases args; simp_all
 obtain ⟨rfl, rfl⟩ := trodVars_none hV
 obtain ⟨ca, bs, cc, rfl, hwf, hmax, hca⟩ := open_slice_ints Try.underlying22 Try.underlying5 cells5 (hval 0 22 v0 rfl rfl) h0
 refine (laws_FnEnds_c ca bs cc W hca hwf).mono fun e W' ⟨v, he, hv, hx⟩ => ?_
 subst he; subst hv
 exact ⟨_, rfl, law_post (tb := 4) hW' rfl rfl Try.underlying4 rfl rfl rfl (by kernel_rfl) hx⟩
theorem fnEnds_holds : Rows.FnEndsSaid :=
 OpenClaim.holds_of_wide 9 Try.f9 rfl rfl rfl rfl rfl rfl rfl ⟨rfl, rfl, rfl, rfl, rfl⟩ rfl rfl rfl rfl rfl (by kernel_rfl) Try.func9 (by kernel_rfl)
  (of_decide_eq_true (by kernel_rfl)) (by unfold Func.isWrapper; first | (rw [if_pos (by decide +kernel)]; kernel_rfl) | (rw [if_neg (by decide +kernel)]; exact ⟨rfl, rfl⟩))
  (fun os started H enc _ => fnEnds_lifted os started H enc)
#print axioms fnEnds_holds
end Go.Proofs.Ytjengglpbdgmnaa
