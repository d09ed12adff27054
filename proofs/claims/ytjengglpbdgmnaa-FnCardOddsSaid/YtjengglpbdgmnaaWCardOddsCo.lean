/- The law FnCardOdds returns true for all arguments. No condition. -/
import Derived.Test.YtjengglpbdgmnaaEngCCo
import Derived.Test.YtjengglpbdgmnaaFrameCo
import Derived.Test.YtjengglpbdgmnaaFrmCo
import Derived.Test.YtjengglpbdgmnaaTreeCo
import Derived.Test.YtjengglpbdgmnaaGameCo
import Derived.Test.YtjengglpbdgmnaaSetsCo
import Derived.Test.YtjengglpbdgmnaaHighCo
import Derived.Test.YtjengglpbdgmnaaGrowCo
import Derived.Test.YtjengglpbdgmnaaBetCo
import Derived.Test.YtjengglpbdgmnaaDrawCo
import Derived.Test.YtjengglpbdgmnaaCopyCo
import Derived.Test.YtjengglpbdgmnaaSrc0Co
import Derived.Test.YtjengglpbdgmnaaSrcCo
import Derived.Test.YtjengglpbdgmnaaSrc2Co
import Derived.Test.YtjengglpbdgmnaaSrcWCo
import Derived.Test.YtjengglpbdgmnaaL1Co
import Derived.Test.YtjengglpbdgmnaaL2Co
import Derived.Test.YtjengglpbdgmnaaL3Co
import Derived.Test.YtjengglpbdgmnaaLTCo
import Derived.Test.YtjengglpbdgmnaaLICo
import Derived.Test.YtjengglpbdgmnaaLJCo
import Derived.Test.YtjengglpbdgmnaaL4Co
import Derived.Test.YtjengglpbdgmnaaL5Co
import Derived.Test.YtjengglpbdgmnaaL6Co
import Derived.Test.YtjengglpbdgmnaaLCCo
import Derived.Test.YtjengglpbdgmnaaLSCo
import Derived.Test.YtjengglpbdgmnaaLZCo
import Derived.Test.YtjengglpbdgmnaaLVCo
import Derived.Test.YtjengglpbdgmnaaLJ2Co
import Derived.Test.YtjengglpbdgmnaaMirrCo
import Derived.Test.YtjengglpbdgmnaaMathCo
import Derived.Test.YtjengglpbdgmnaaMath2Co
import Derived.Test.YtjengglpbdgmnaaCardCo
import Derived.Test.YtjengglpbdgmnaaCard2Co
import Derived.Test.YtjengglpbdgmnaaLHCo
import Derived.Test.YtjengglpbdgmnaaLMCo
import Derived.Test.YtjengglpbdgmnaaLRCo
import Derived.Test.YtjengglpbdgmnaaLOCo
import Derived.Test.YtjengglpbdgmnaaEqsCo
import Derived.Test.YtjengglpbdgmnaaRows
namespace Go.Proofs.Ytjengglpbdgmnaa
open Go Go.RowKit V Go.ChangeShapes Go.WideShapes Go.ChangeAt
set_option linter.unusedVariables false
set_option linter.unusedSimpArgs false
set_option maxRecDepth 100000
theorem bld65_1 (v1 : Value) (h1 : v1.cells = #[v1]) : ∀ w, (Instr.build 65 ([(1, v1)] : List (Nat × Value)).toArray).run Try.prog w = .ok (.agg ([.int .i64 0, v1] : List Value).toArray) w := by
 intro w; simp [Instr.build, Instr.fill, Try.zeroValue65, Try.runUnderlying65, aggCells, Try.sizeOf2, h1]
set_option maxHeartbeats 4000000 in
theorem laws_FnCardOdds_c (ca : Option Addr) (bs : List Int) (cc : Nat) (w : World) (rcode : CellsAt ca (bs.map (Value.int .u8)) w) (hb : ∀ n ∈ bs, (Lit.int .u8 n).wf = true) :
  Calls Try.prog 7 #[.slice ca bs.length cc] w (Ret fun v w' => v = .bool true ∧ Ext w w') := by
 have kcode : Kn w none_ [] (CellsAt ca (bs.map (Value.int .u8))) := fun w' hs => rcode.ext hs.upd
 refine fn (M := none_) (rs := [.tmp 2]) Try.func7 rfl Try.ntmps7 rfl rfl (Sep.start _ _) ?_
 refine hSeq ?_
 refine hReg (sq 0 sz) (by kernel_rfl) ?_
 refine asB rfl rfl rfl ?_
 refine rNil ?_
 refine qSeq rfl ?_
 refine hSeq ?_
 refine hSeq ?_
 refine hReg (sq 0 (sl 1 sz)) (by kernel_rfl) ?_
 refine mvS rfl rfl rfl ?_
 refine callP (v := .bool (decide (4096 < ((bs.length : Nat) : Int)))) Try.call12 trv rfl rfl (fun w hs => laws_big_c _ _ cc w (kcode w hs)) ?_
 refine rNil ?_
 refine qSeq rfl ?_
 refine hIfD rfl (fun c1 => ?_) (fun c1 => ?_)
 ·
  replace c1 : 4096 < ((bs.length : Nat) : Int) := c1
  refine hSeq ?_
  refine hReg (sq 0 sz) (by kernel_rfl) ?_
  refine asB rfl rfl rfl ?_
  refine rNil ?_
  refine qSeq rfl ?_
  refine hRet ?_
  exact fun w hs => ⟨[.bool true], ⟨rfl, trivial⟩, ⟨by first | rfl | exact (bT (by omega)).symm, hs.upd⟩⟩
 ·
  replace c1 : ¬ (4096 < ((bs.length : Nat) : Int)) := c1
  have hok : okBytes bs := ⟨fun x hx => bounds_u8 (hb x hx), by omega⟩
  refine hSkip ?_
  refine qSeq rfl ?_
  refine hSeq ?_
  refine hReg (sq 0 (sl 1 (sq 2 (sq 3 (sq 4 (sq 5 (sl 6 (sl 7 (sq 8 (sq 9 sz)))))))))) (by kernel_rfl) ?_
  refine mvS rfl rfl rfl ?_
  refine callS Try.call48 trv1 rfl rfl (fun w hs => spec_DrawCardOdds_c _ _ cc w (kcode w hs) (by assumption)) ?_
  rintro ⟨ay1, ny1, cy1, Hy1, y1, ayw1, nyw1, cyw1, Hyw1, yw1, ayv1, nyv1, cyv1, Hyv1, yv1, q1, qa1⟩ hr1
  try dsimp only at hr1
  refine rPieces (L' := [RdR ndK ay1 ny1 Hy1 y1, RdR maK ayw1 nyw1 Hyw1 yw1, RdR maK ayv1 nyv1 Hyv1 yv1]) (fun _ h => h) ?_
  refine rKnow (fun w hs => (show RdR ndK ay1 ny1 Hy1 y1 w from hs.at_ 0 rfl).1) (fun lenn1 => ?_)
  refine rKnow (fun w hs => (show RdR maK ayw1 nyw1 Hyw1 yw1 w from hs.at_ 1 rfl).1) (fun lenn2 => ?_)
  refine rKnow (fun w hs => (show RdR maK ayv1 nyv1 Hyv1 yv1 w from hs.at_ 2 rfl).1) (fun lenn3 => ?_)
  refine mv rfl rfl rfl ?_
  refine ext rfl rfl rfl rfl ?_
  refine ext rfl rfl rfl rfl ?_
  refine ext rfl rfl rfl rfl ?_
  refine alc Try.zeroValue43 rfl trv1 rfl rfl (fun bka4 hbka4 => ?_)
  refine stAl (vs := [.slice ay1 ny1 cy1, .slice ayw1 nyw1 cyw1, .slice ayv1 nyv1 cyv1]) 0 rfl Try.sizeOf43 trv rfl rfl rfl rfl rfl (by simp [Value.oneCell']) rfl ?_
  refine asI rfl rfl rfl ?_
  refine asI rfl rfl rfl ?_
  refine rNil ?_
  refine qSeq rfl ?_
  refine hSeq ?_
  refine hReg (sl 0 (sq 1 (sq 2 (sl 3 (sq 4 (sq 5 (sq 6 (sl 7 (sl 8 (sq 9 sz)))))))))) (by kernel_rfl) ?_
  refine ldAl Try.isAgg43 Try.sizeOf43 (cBs 0 rfl) trv rfl rfl rfl rfl ?_
  refine mvI rfl rfl rfl ?_
  refine mvI rfl rfl rfl ?_
  refine callP (v := .tuple #[.agg #[.int .i64 ((Math.cardAt y1 yw1 yv1 q1 qa1).1.1), .int .i64 ((Math.cardAt y1 yw1 yv1 q1 qa1).1.2)], .int .i64 ((Math.cardAt y1 yw1 yv1 q1 qa1).2)]) Try.call49 trv rfl rfl (fun w hs => impl_CardOdds_c _ ny1 cy1 _ _ _ nyw1 cyw1 _ _ _ nyv1 cyv1 _ _ _ _ w (hs.at_ 1 rfl) (hs.at_ 2 rfl) (hs.at_ 3 rfl)) ?_
  refine mv rfl rfl rfl ?_
  refine ext rfl rfl rfl rfl ?_
  refine ext rfl rfl rfl rfl ?_
  refine alc Try.zeroValue65 rfl trv1 rfl rfl (fun bka5 hbka5 => ?_)
  refine stAl (vs := [.int .i64 ((Math.cardAt y1 yw1 yv1 q1 qa1).1.1), .int .i64 ((Math.cardAt y1 yw1 yv1 q1 qa1).1.2)]) 0 rfl Try.sizeOf65 trv rfl rfl rfl rfl rfl (by simp [Value.oneCell']) rfl ?_
  refine asI rfl rfl rfl ?_
  refine rNil ?_
  refine qSeq rfl ?_
  refine hSeq ?_
  refine hReg (sl 0 (sq 1 (sq 2 (sl 3 (sq 4 (sq 5 (sq 6 (sl 7 (sl 8 (sq 9 sz)))))))))) (by kernel_rfl) ?_
  refine ldAl Try.isAgg43 Try.sizeOf43 (cBs 1 rfl) trv rfl rfl rfl rfl ?_
  refine mvI rfl rfl rfl ?_
  refine mvI rfl rfl rfl ?_
  refine callP (v := .tuple #[.agg #[.int .i64 ((Math.cardAt y1 yw1 yv1 q1 qa1).1.1), .int .i64 ((Math.cardAt y1 yw1 yv1 q1 qa1).1.2)], .int .i64 ((Math.cardAt y1 yw1 yv1 q1 qa1).2)]) Try.call50 trv rfl rfl (fun w hs => spec_CardOdds_c _ ny1 cy1 _ _ _ nyw1 cyw1 _ _ _ nyv1 cyv1 _ _ _ _ w (hs.at_ 2 rfl) (hs.at_ 3 rfl) (hs.at_ 4 rfl)) ?_
  refine mv rfl rfl rfl ?_
  refine ext rfl rfl rfl rfl ?_
  refine ext rfl rfl rfl rfl ?_
  refine alc Try.zeroValue65 rfl trv1 rfl rfl (fun bka6 hbka6 => ?_)
  refine stAl (vs := [.int .i64 ((Math.cardAt y1 yw1 yv1 q1 qa1).1.1), .int .i64 ((Math.cardAt y1 yw1 yv1 q1 qa1).1.2)]) 0 rfl Try.sizeOf65 trv rfl rfl rfl rfl rfl (by simp [Value.oneCell']) rfl ?_
  refine asI rfl rfl rfl ?_
  refine rNil ?_
  refine qSeq rfl ?_
  refine hSeq ?_
  refine hReg (sq 0 (sl 1 (sl 2 (sl 3 sz)))) (by kernel_rfl) ?_
  refine mvS rfl rfl rfl ?_
  refine callS Try.call51 trv1 rfl rfl (fun w hs => spec_DrawTotalWeight_c _ _ cc w (Kn.drop (k := 6) kcode w hs) (by assumption)) ?_
  rintro ⟨ay2, ny2, cy2, Hy2, y2, ayw2, nyw2, cyw2, Hyw2, yw2, ayv2, nyv2, cyv2, Hyv2, yv2⟩ hr2
  try dsimp only at hr2
  refine rPieces (L' := [RdR ndK ay2 ny2 Hy2 y2, RdR maK ayw2 nyw2 Hyw2 yw2, RdR maK ayv2 nyv2 Hyv2 yv2, blk bka6 65 [.int .i64 ((Math.cardAt y1 yw1 yv1 q1 qa1).1.1), .int .i64 ((Math.cardAt y1 yw1 yv1 q1 qa1).1.2)], blk bka5 65 [.int .i64 ((Math.cardAt y1 yw1 yv1 q1 qa1).1.1), .int .i64 ((Math.cardAt y1 yw1 yv1 q1 qa1).1.2)], blk bka4 43 [.slice ay1 ny1 cy1, .slice ayw1 nyw1 cyw1, .slice ayv1 nyv1 cyv1], RdR ndK ay1 ny1 Hy1 y1, RdR maK ayw1 nyw1 Hyw1 yw1, RdR maK ayv1 nyv1 Hyv1 yv1]) (fun _ h => h) ?_
  refine rKnow (fun w hs => (show RdR ndK ay2 ny2 Hy2 y2 w from hs.at_ 0 rfl).1) (fun lenn7 => ?_)
  refine rKnow (fun w hs => (show RdR maK ayw2 nyw2 Hyw2 yw2 w from hs.at_ 1 rfl).1) (fun lenn8 => ?_)
  refine rKnow (fun w hs => (show RdR maK ayv2 nyv2 Hyv2 yv2 w from hs.at_ 2 rfl).1) (fun lenn9 => ?_)
  refine alc Try.zeroValue43 rfl trv1 rfl rfl (fun bka10 hbka10 => ?_)
  refine stAl (vs := [.slice ay2 ny2 cy2, .slice ayw2 nyw2 cyw2, .slice ayv2 nyv2 cyv2]) 0 rfl Try.sizeOf43 trv rfl rfl rfl rfl rfl (by simp [Value.oneCell']) rfl ?_
  refine rNil ?_
  refine qSeq rfl ?_
  refine hSeq ?_
  refine hReg (sl 0 (sl 1 (sq 2 (sq 3 (sq 4 (sq 5 (sq 6 sz))))))) (by kernel_rfl) ?_
  refine ldAl Try.isAgg43 Try.sizeOf43 (cBs 0 rfl) trv rfl rfl rfl rfl ?_
  refine callP (v := .tuple #[.int .i64 ((Math.totalOf y2 yw2 yv2).1), .int .i64 ((Math.totalOf y2 yw2 yv2).2)]) Try.call52 trv rfl rfl (fun w hs => impl_TotalWeight_c _ ny2 cy2 _ _ _ nyw2 cyw2 _ _ _ nyv2 cyv2 _ _ w (hs.at_ 1 rfl) (hs.at_ 2 rfl) (hs.at_ 3 rfl)) ?_
  refine mv rfl rfl rfl ?_
  refine ext rfl rfl rfl rfl ?_
  refine ext rfl rfl rfl rfl ?_
  refine asI rfl rfl rfl ?_
  refine asI rfl rfl rfl ?_
  refine rNil ?_
  refine qSeq rfl ?_
  refine hSeq ?_
  refine hReg (sl 0 (sl 1 (sq 2 (sq 3 (sq 4 (sq 5 (sq 6 sz))))))) (by kernel_rfl) ?_
  refine ldAl Try.isAgg43 Try.sizeOf43 (cBs 0 rfl) trv rfl rfl rfl rfl ?_
  refine callP (v := .tuple #[.int .i64 ((Math.totalOf y2 yw2 yv2).1), .int .i64 ((Math.totalOf y2 yw2 yv2).2)]) Try.call53 trv rfl rfl (fun w hs => spec_TotalWeight_c _ ny2 cy2 _ _ _ nyw2 cyw2 _ _ _ nyv2 cyv2 _ _ w (hs.at_ 1 rfl) (hs.at_ 2 rfl) (hs.at_ 3 rfl)) ?_
  refine mv rfl rfl rfl ?_
  refine ext rfl rfl rfl rfl ?_
  refine ext rfl rfl rfl rfl ?_
  refine asI rfl rfl rfl ?_
  refine asI rfl rfl rfl ?_
  refine rNil ?_
  refine qSeq rfl ?_
  refine hSeq ?_
  refine hReg (sq 0 (sl 1 (sq 2 (sq 3 (sq 4 (sq 5 (sl 6 (sl 7 (sq 8 (sq 9 sz)))))))))) (by kernel_rfl) ?_
  refine mvS rfl rfl rfl ?_
  refine callS Try.call54 trv1 rfl rfl (fun w hs => spec_DrawHighCardGame_c _ _ cc w (Kn.drop (k := 10) kcode w hs) (by assumption)) ?_
  rintro ⟨ay3, ny3, cy3, Hy3, y3, q3, ag3⟩ hr3
  try dsimp only at hr3
  refine rPieces (L' := [RdR ndK ay3 ny3 Hy3 y3, blk bka10 43 [.slice ay2 ny2 cy2, .slice ayw2 nyw2 cyw2, .slice ayv2 nyv2 cyv2], RdR ndK ay2 ny2 Hy2 y2, RdR maK ayw2 nyw2 Hyw2 yw2, RdR maK ayv2 nyv2 Hyv2 yv2, blk bka6 65 [.int .i64 ((Math.cardAt y1 yw1 yv1 q1 qa1).1.1), .int .i64 ((Math.cardAt y1 yw1 yv1 q1 qa1).1.2)], blk bka5 65 [.int .i64 ((Math.cardAt y1 yw1 yv1 q1 qa1).1.1), .int .i64 ((Math.cardAt y1 yw1 yv1 q1 qa1).1.2)], blk bka4 43 [.slice ay1 ny1 cy1, .slice ayw1 nyw1 cyw1, .slice ayv1 nyv1 cyv1], RdR ndK ay1 ny1 Hy1 y1, RdR maK ayw1 nyw1 Hyw1 yw1, RdR maK ayv1 nyv1 Hyv1 yv1]) (fun _ h => h) ?_
  refine rKnow (fun w hs => (show RdR ndK ay3 ny3 Hy3 y3 w from hs.at_ 0 rfl).1) (fun lenn11 => ?_)
  refine mv rfl rfl rfl ?_
  refine ext rfl rfl rfl rfl ?_
  refine ext rfl rfl rfl rfl ?_
  refine ext rfl rfl rfl rfl ?_
  refine alc Try.zeroValue26 rfl trv1 rfl rfl (fun bka12 hbka12 => ?_)
  refine stAl (vs := [.slice ay3 ny3 cy3]) 0 rfl Try.sizeOf26 trv rfl rfl rfl rfl rfl (by simp [Value.oneCell']) rfl ?_
  refine asI rfl rfl rfl ?_
  refine asB rfl rfl rfl ?_
  refine rNil ?_
  refine qSeq rfl ?_
  refine hSeq ?_
  refine hReg (sl 0 (sq 1 (sq 2 (sl 3 (sq 4 (sq 5 (sq 6 (sl 7 (sl 8 (sq 9 sz)))))))))) (by kernel_rfl) ?_
  refine ldAl Try.isAgg26 Try.sizeOf26 (cBs 0 rfl) trv rfl rfl rfl rfl ?_
  refine mvI rfl rfl rfl ?_
  refine mvB rfl rfl rfl ?_
  refine callS Try.call55 trv1 rfl rfl (fun w hs => impl_HighCardGame_c _ ny3 cy3 _ _ _ _ w (hs.at_ 1 rfl)) ?_
  rintro ⟨ay4, ny4, cy4, Hy4, y4, ayw4, nyw4, cyw4, Hyw4, yw4, ayv4, nyv4, cyv4, Hyv4, yv4, q4⟩ ⟨hr4a, hr4b, hr4c, hr4d⟩
  dsimp only at hr4a hr4b hr4c hr4d
  subst y4
  subst yw4
  subst yv4
  subst q4
  refine rPieces (L' := [OwnR ndK 88 2 ay4 ny4 cy4 Hy4 ((((Math.highAt y3 q3 ag3).1.1))), OwnR maK 28 2 ayw4 nyw4 cyw4 Hyw4 ((((Math.highAt y3 q3 ag3).1.2.1))), OwnR maK 28 2 ayv4 nyv4 cyv4 Hyv4 ((((Math.highAt y3 q3 ag3).1.2.2))), blk bka12 26 [.slice ay3 ny3 cy3], RdR ndK ay3 ny3 Hy3 y3, blk bka10 43 [.slice ay2 ny2 cy2, .slice ayw2 nyw2 cyw2, .slice ayv2 nyv2 cyv2], RdR ndK ay2 ny2 Hy2 y2, RdR maK ayw2 nyw2 Hyw2 yw2, RdR maK ayv2 nyv2 Hyv2 yv2, blk bka6 65 [.int .i64 ((Math.cardAt y1 yw1 yv1 q1 qa1).1.1), .int .i64 ((Math.cardAt y1 yw1 yv1 q1 qa1).1.2)], blk bka5 65 [.int .i64 ((Math.cardAt y1 yw1 yv1 q1 qa1).1.1), .int .i64 ((Math.cardAt y1 yw1 yv1 q1 qa1).1.2)], blk bka4 43 [.slice ay1 ny1 cy1, .slice ayw1 nyw1 cyw1, .slice ayv1 nyv1 cyv1], RdR ndK ay1 ny1 Hy1 y1, RdR maK ayw1 nyw1 Hyw1 yw1, RdR maK ayv1 nyv1 Hyv1 yv1]) (fun _ h => h) ?_
  refine rKnow (fun w hs => (show OwnR ndK 88 2 ay4 ny4 cy4 Hy4 ((((Math.highAt y3 q3 ag3).1.1))) w from hs.at_ 0 rfl).1) (fun lenn13 => ?_)
  refine rKnow (fun w hs => (show OwnR maK 28 2 ayw4 nyw4 cyw4 Hyw4 ((((Math.highAt y3 q3 ag3).1.2.1))) w from hs.at_ 1 rfl).1) (fun lenn14 => ?_)
  refine rKnow (fun w hs => (show OwnR maK 28 2 ayv4 nyv4 cyv4 Hyv4 ((((Math.highAt y3 q3 ag3).1.2.2))) w from hs.at_ 2 rfl).1) (fun lenn15 => ?_)
  refine mv rfl rfl rfl ?_
  refine ext rfl rfl rfl rfl ?_
  refine ext rfl rfl rfl rfl ?_
  refine alc Try.zeroValue43 rfl trv1 rfl rfl (fun bka16 hbka16 => ?_)
  refine stAl (vs := [.slice ay4 ny4 cy4, .slice ayw4 nyw4 cyw4, .slice ayv4 nyv4 cyv4]) 0 rfl Try.sizeOf43 trv rfl rfl rfl rfl rfl (by simp [Value.oneCell']) rfl ?_
  refine asI rfl rfl rfl ?_
  refine rNil ?_
  refine qSeq rfl ?_
  refine hSeq ?_
  refine hReg (sl 0 (sq 1 (sq 2 (sl 3 (sq 4 (sq 5 (sq 6 (sl 7 (sl 8 (sq 9 sz)))))))))) (by kernel_rfl) ?_
  refine ldAl Try.isAgg26 Try.sizeOf26 (cBs 4 rfl) trv rfl rfl rfl rfl ?_
  refine mvI rfl rfl rfl ?_
  refine mvB rfl rfl rfl ?_
  refine callS Try.call56 trv1 rfl rfl (fun w hs => spec_HighCardGame_c _ ny3 cy3 _ _ _ _ w (hs.at_ 5 rfl)) ?_
  rintro ⟨ay5, ny5, cy5, Hy5, y5, ayw5, nyw5, cyw5, Hyw5, yw5, ayv5, nyv5, cyv5, Hyv5, yv5, q5⟩ ⟨hr5a, hr5b, hr5c, hr5d⟩
  dsimp only at hr5a hr5b hr5c hr5d
  subst y5
  subst yw5
  subst yv5
  subst q5
  refine rPieces (L' := [OwnR ndK 88 2 ay5 ny5 cy5 Hy5 ((((Math.highAt y3 q3 ag3).1.1))), OwnR maK 28 2 ayw5 nyw5 cyw5 Hyw5 ((((Math.highAt y3 q3 ag3).1.2.1))), OwnR maK 28 2 ayv5 nyv5 cyv5 Hyv5 ((((Math.highAt y3 q3 ag3).1.2.2))), blk bka16 43 [.slice ay4 ny4 cy4, .slice ayw4 nyw4 cyw4, .slice ayv4 nyv4 cyv4], OwnR ndK 88 2 ay4 ny4 cy4 Hy4 ((((Math.highAt y3 q3 ag3).1.1))), OwnR maK 28 2 ayw4 nyw4 cyw4 Hyw4 ((((Math.highAt y3 q3 ag3).1.2.1))), OwnR maK 28 2 ayv4 nyv4 cyv4 Hyv4 ((((Math.highAt y3 q3 ag3).1.2.2))), blk bka12 26 [.slice ay3 ny3 cy3], RdR ndK ay3 ny3 Hy3 y3, blk bka10 43 [.slice ay2 ny2 cy2, .slice ayw2 nyw2 cyw2, .slice ayv2 nyv2 cyv2], RdR ndK ay2 ny2 Hy2 y2, RdR maK ayw2 nyw2 Hyw2 yw2, RdR maK ayv2 nyv2 Hyv2 yv2, blk bka6 65 [.int .i64 ((Math.cardAt y1 yw1 yv1 q1 qa1).1.1), .int .i64 ((Math.cardAt y1 yw1 yv1 q1 qa1).1.2)], blk bka5 65 [.int .i64 ((Math.cardAt y1 yw1 yv1 q1 qa1).1.1), .int .i64 ((Math.cardAt y1 yw1 yv1 q1 qa1).1.2)], blk bka4 43 [.slice ay1 ny1 cy1, .slice ayw1 nyw1 cyw1, .slice ayv1 nyv1 cyv1], RdR ndK ay1 ny1 Hy1 y1, RdR maK ayw1 nyw1 Hyw1 yw1, RdR maK ayv1 nyv1 Hyv1 yv1]) (fun _ h => h) ?_
  refine rKnow (fun w hs => (show OwnR ndK 88 2 ay5 ny5 cy5 Hy5 ((((Math.highAt y3 q3 ag3).1.1))) w from hs.at_ 0 rfl).1) (fun lenn17 => ?_)
  refine rKnow (fun w hs => (show OwnR maK 28 2 ayw5 nyw5 cyw5 Hyw5 ((((Math.highAt y3 q3 ag3).1.2.1))) w from hs.at_ 1 rfl).1) (fun lenn18 => ?_)
  refine rKnow (fun w hs => (show OwnR maK 28 2 ayv5 nyv5 cyv5 Hyv5 ((((Math.highAt y3 q3 ag3).1.2.2))) w from hs.at_ 2 rfl).1) (fun lenn19 => ?_)
  refine mv rfl rfl rfl ?_
  refine ext rfl rfl rfl rfl ?_
  refine ext rfl rfl rfl rfl ?_
  refine alc Try.zeroValue43 rfl trv1 rfl rfl (fun bka20 hbka20 => ?_)
  refine stAl (vs := [.slice ay5 ny5 cy5, .slice ayw5 nyw5 cyw5, .slice ayv5 nyv5 cyv5]) 0 rfl Try.sizeOf43 trv rfl rfl rfl rfl rfl (by simp [Value.oneCell']) rfl ?_
  refine asI rfl rfl rfl ?_
  refine rNil ?_
  refine qSeq rfl ?_
  refine hSeq ?_
  refine hSeq ?_
  refine hReg (sq 0 (sq 1 (sq 2 (sq 3 (sl 4 (sl 5 (sq 6 (sq 7 (sq 8 (sq 9 (sq 10 (sq 11 (sq 12 (sq 13 (sq 14 (sq 15 (sq 16 (sq 17 (sq 18 (sq 19 (sq 20 (sq 21 (sq 22 (sq 23 (sl 24 (sl 25 (sl 26 (sq 27 (sq 28 (sq 29 (sq 30 (sq 31 (sq 32 (sl 33 (sl 34 (sq 35 (sq 36 (sq 37 sz)))))))))))))))))))))))))))))))))))))) (by kernel_rfl) ?_
  refine mvI rfl rfl rfl ?_
  refine mvI rfl rfl rfl ?_
  refine neq rfl rfl rfl rfl ?_
  refine mvB rfl rfl rfl ?_
  refine rBoolD (d := 85) rfl (fun g2 => ?_) (fun g2 => ?_)
  ·
   replace g2 : (Math.cardAt y1 yw1 yv1 q1 qa1).2 ≠ (Math.cardAt y1 yw1 yv1 q1 qa1).2 := g2
   exact absurd rfl g2
  ·
   replace g2 : ¬ ((Math.cardAt y1 yw1 yv1 q1 qa1).2 ≠ (Math.cardAt y1 yw1 yv1 q1 qa1).2) := g2
   refine ldAl Try.isAgg65 Try.sizeOf65 (cBs 15 rfl) trv rfl rfl rfl rfl ?_
   refine ldAl Try.isAgg65 Try.sizeOf65 (cBs 14 rfl) trv rfl rfl rfl rfl ?_
   refine neqR eq2R rfl rfl rfl rfl ?_
   refine pickB rfl rfl rfl rfl ?_
   refine mvB rfl rfl rfl ?_
   refine rBoolD (d := 90) rfl (fun g3 => ?_) (fun g3 => ?_)
   ·
    replace g3 : ¬ ((Math.cardAt y1 yw1 yv1 q1 qa1).1.1 = (Math.cardAt y1 yw1 yv1 q1 qa1).1.1 ∧ (Math.cardAt y1 yw1 yv1 q1 qa1).1.2 = (Math.cardAt y1 yw1 yv1 q1 qa1).1.2) := g3
    exact absurd ⟨rfl, rfl⟩ g3
   ·
    replace g3 : ¬ (¬ ((Math.cardAt y1 yw1 yv1 q1 qa1).1.1 = (Math.cardAt y1 yw1 yv1 q1 qa1).1.1 ∧ (Math.cardAt y1 yw1 yv1 q1 qa1).1.2 = (Math.cardAt y1 yw1 yv1 q1 qa1).1.2)) := g3
    refine mvI rfl rfl rfl ?_
    refine mvI rfl rfl rfl ?_
    refine neq rfl rfl rfl rfl ?_
    refine pickB rfl rfl rfl rfl ?_
    refine mvB rfl rfl rfl ?_
    refine rBoolD (d := 95) rfl (fun g4 => ?_) (fun g4 => ?_)
    ·
     replace g4 : (Math.totalOf y2 yw2 yv2).2 ≠ (Math.totalOf y2 yw2 yv2).2 := g4
     exact absurd rfl g4
    ·
     replace g4 : ¬ ((Math.totalOf y2 yw2 yv2).2 ≠ (Math.totalOf y2 yw2 yv2).2) := g4
     refine mvI rfl rfl rfl ?_
     refine mvI rfl rfl rfl ?_
     refine neq rfl rfl rfl rfl ?_
     refine pickB rfl rfl rfl rfl ?_
     refine mvB rfl rfl rfl ?_
     refine rBoolD (d := 100) rfl (fun g5 => ?_) (fun g5 => ?_)
     ·
      replace g5 : (Math.totalOf y2 yw2 yv2).1 ≠ (Math.totalOf y2 yw2 yv2).1 := g5
      exact absurd rfl g5
     ·
      replace g5 : ¬ ((Math.totalOf y2 yw2 yv2).1 ≠ (Math.totalOf y2 yw2 yv2).1) := g5
      refine mvI rfl rfl rfl ?_
      refine mvI rfl rfl rfl ?_
      refine neq rfl rfl rfl rfl ?_
      refine pickB rfl rfl rfl rfl ?_
      refine mvB rfl rfl rfl ?_
      refine rBoolD (d := 105) rfl (fun g6 => ?_) (fun g6 => ?_)
      ·
       replace g6 : (((Math.highAt y3 q3 ag3).2)) ≠ (((Math.highAt y3 q3 ag3).2)) := g6
       exact absurd rfl g6
      ·
       replace g6 : ¬ ((((Math.highAt y3 q3 ag3).2)) ≠ (((Math.highAt y3 q3 ag3).2))) := g6
       refine ldAl Try.isAgg43 Try.sizeOf43 (cBs 4 rfl) trv rfl rfl rfl rfl ?_
       refine ldAl Try.isAgg43 Try.sizeOf43 (cBs 0 rfl) trv rfl rfl rfl rfl ?_
       refine callP (v := .bool true) Try.call37 trv rfl rfl (fun w hs => laws_likeGames_c _ ny4 cy4 _ _ _ nyw4 cyw4 _ _ _ nyv4 cyv4 _ _ _ ny5 cy5 _ _ _ nyw5 cyw5 _ _ _ nyv5 cyv5 _ _ w (OwnR.rd (hs.at_ 5 rfl) ndK.ok) (OwnR.rd (hs.at_ 6 rfl) maK.ok) (OwnR.rd (hs.at_ 7 rfl) maK.ok) (OwnR.rd (hs.at_ 1 rfl) ndK.ok) (OwnR.rd (hs.at_ 2 rfl) maK.ok) (OwnR.rd (hs.at_ 3 rfl) maK.ok) (by exact ⟨rfl, rfl, rfl⟩)) ?_
       refine not rfl rfl rfl ?_
       refine pickB rfl rfl rfl rfl ?_
       refine mvB rfl rfl rfl ?_
       refine mvI rfl rfl rfl ?_
       refine eql rfl rfl rfl rfl ?_
       refine mvB rfl rfl rfl ?_
       refine rBoolD (d := 114) rfl (fun g7 => ?_) (fun g7 => ?_)
       ·
        replace g7 : (((Math.highAt y3 q3 ag3).2)) = 0 := g7
        refine ldAl Try.isAgg43 Try.sizeOf43 (cBs 4 rfl) trv rfl rfl rfl rfl ?_
        refine callP (v := .bool ((Math.isGame ((((Math.highAt y3 q3 ag3).1.1))) ((((Math.highAt y3 q3 ag3).1.2.1))) ((((Math.highAt y3 q3 ag3).1.2.2)))))) Try.call38 trv rfl rfl (fun w hs => impl_IsGame_c _ ny4 cy4 _ _ _ nyw4 cyw4 _ _ _ nyv4 cyv4 _ _ w (OwnR.rd (hs.at_ 5 rfl) ndK.ok) (OwnR.rd (hs.at_ 6 rfl) maK.ok) (OwnR.rd (hs.at_ 7 rfl) maK.ok)) ?_
        refine not rfl rfl rfl ?_
        refine pickB rfl rfl rfl rfl ?_
        refine pickB rfl rfl rfl rfl ?_
        refine rNil ?_
        refine qSeq rfl ?_
        refine hIfN rfl (fun c8 => ?_) (fun c8 => ?_)
        ·
         replace c8 : (Math.isGame ((((Math.highAt y3 q3 ag3).1.1))) ((((Math.highAt y3 q3 ag3).1.2.1))) ((((Math.highAt y3 q3 ag3).1.2.2)))) = false := c8
         exact absurd (Math.high_game g7) (by rw [c8]; decide)
        ·
         replace c8 : (Math.isGame ((((Math.highAt y3 q3 ag3).1.1))) ((((Math.highAt y3 q3 ag3).1.2.1))) ((((Math.highAt y3 q3 ag3).1.2.2)))) = true := c8
         refine hSkip ?_
         refine qSeq rfl ?_
         refine hSeq ?_
         refine hSeq ?_
         refine hReg (sq 0 (sq 1 sz)) (by kernel_rfl) ?_
         refine mvI rfl rfl rfl ?_
         refine neq rfl rfl rfl rfl ?_
         refine rNil ?_
         refine qSeq rfl ?_
         refine hIfD rfl (fun c9 => ?_) (fun c9 => ?_)
         ·
          replace c9 : (Math.cardAt y1 yw1 yv1 q1 qa1).2 ≠ 0 := c9
          refine hSeq ?_
          refine hReg (sq 0 sz) (by kernel_rfl) ?_
          refine asB rfl rfl rfl ?_
          refine rNil ?_
          refine qSeq rfl ?_
          refine hRet ?_
          exact fun w hs => ⟨[.bool true], ⟨rfl, trivial⟩, ⟨by first | rfl | exact (bT (by omega)).symm, hs.upd⟩⟩
         ·
          replace c9 : ¬ ((Math.cardAt y1 yw1 yv1 q1 qa1).2 ≠ 0) := c9
          have hcg := Math.cardAt_ok (Classical.not_not.1 c9)
          have hG := Math.isGame_ok hcg.1
          have hst : ((0 : Int), (1 : Int)) = (Math.reduced (Math.allSum yw1 q1 nyw1 0) (Math.total yw1)).1 := by rw [show Math.allSum yw1 q1 nyw1 0 = 0 from rfl, Math.cards_start (by omega)]
          refine hSkip ?_
          refine qSeq rfl ?_
          refine hSeq ?_
          refine hReg (sq 0 (sl 1 (sl 2 sz))) (by kernel_rfl) ?_
          refine bld rfl rfl rfl (bld65_1 (.int .i64 _) rfl) ?_
          refine alc Try.zeroValue65 rfl trv1 rfl rfl (fun bka21 hbka21 => ?_)
          refine stAl (vs := [.int .i64 0, .int .i64 1]) 0 rfl Try.sizeOf65 trv rfl rfl rfl rfl rfl (by simp [Value.oneCell']) rfl ?_
          refine rNil ?_
          refine qSeq rfl ?_
          refine hSeq ?_
          refine hSeq ?_
          refine hReg (sq 0 sz) (by kernel_rfl) ?_
          refine asI rfl rfl rfl ?_
          refine rNil ?_
          refine qSeq rfl ?_
          refine hBlk ?_
          refine hLoop (α := Nat × Int × Int) (fun x => x.1 ≤ nyw1 ∧ (x.2.1, x.2.2) = (Math.reduced (Math.allSum yw1 q1 nyw1 x.1) (Math.total yw1)).1) (fun x => nyw1 - x.1) (fun x => [blk bka21 65 [.int .i64 x.2.1, .int .i64 x.2.2], blk bka4 43 [.slice ay1 ny1 cy1, .slice ayw1 nyw1 cyw1, .slice ayv1 nyv1 cyv1], RdR ndK ay1 ny1 Hy1 y1, RdR maK ayw1 nyw1 Hyw1 yw1, RdR maK ayv1 nyv1 Hyv1 yv1]) (fun x => [(3, .pointer (some ⟨bka4, 0, none⟩)), (4, .int .i64 q1), (22, .pointer (some ⟨bka21, 0, none⟩)), (23, .int .i64 (x.1 : Int))]) (0, 0, 1) ⟨Nat.zero_le _, hst⟩ (fun _ h => h.pick [0, 16, 16, 16, 16]) ⟨rfl, rfl, rfl, rfl, trivial⟩ ?_
          rintro ⟨i, n, d⟩ τ1 ⟨hi, hnd⟩
          dsimp only at hi hnd
          refine hRe [(3, .pointer (some ⟨bka4, 0, none⟩)), (4, .int .i64 q1), (22, .pointer (some ⟨bka21, 0, none⟩)), (23, .int .i64 (i : Int))] [blk bka21 65 [.int .i64 n, .int .i64 d], blk bka4 43 [.slice ay1 ny1 cy1, .slice ayw1 nyw1 cyw1, .slice ayv1 nyv1 cyv1], RdR ndK ay1 ny1 Hy1 y1, RdR maK ayw1 nyw1 Hyw1 yw1, RdR maK ayv1 nyv1 Hyv1 yv1] rfl rfl ?_
          refine hSeq ?_
          refine hSeq ?_
          refine hReg (sq 0 (sq 1 (sl 2 (sq 3 (sq 4 sz))))) (by kernel_rfl) ?_
          refine mvI rfl rfl rfl ?_
          refine fld fl43_1 rfl rfl rfl ?_
          refine ldl Try.isAgg41 (cB 1 rfl rfl) trv rfl rfl rfl ?_
          refine lenS Try.runUnderlying41 rfl rfl rfl ?_
          refine lss rfl rfl rfl rfl ?_
          refine rNil ?_
          refine qSeq rfl ?_
          refine hIfD rfl (fun c10 => ?_) (fun c10 => ?_)
          ·
           replace c10 : (i : Int) < (nyw1 : Int) := c10
           have hcs := Math.cards_step lenn2 hcg.1 hcg.2 (show i < nyw1 by omega)
           have hadd : Math.addR (n, d) ((Math.cardAt y1 yw1 yv1 q1 (i : Int)).1.1, (Math.cardAt y1 yw1 yv1 q1 (i : Int)).1.2) = Math.reduced (Math.allSum yw1 q1 nyw1 (i + 1)) (Math.total yw1) := by rw [hnd]; exact hcs.2.1
           refine hSkip ?_
           refine qSeq rfl ?_
           refine hSeq ?_
           refine hBlk ?_
           refine hSeq ?_
           refine hReg (sl 0 (sq 1 (sq 2 (sl 3 (sq 4 (sq 5 (sq 6 (sl 7 (sl 8 (sq 9 sz)))))))))) (by kernel_rfl) ?_
           refine ldAl Try.isAgg43 Try.sizeOf43 (cBs 1 rfl) trv rfl rfl rfl rfl ?_
           refine mvI rfl rfl rfl ?_
           refine mvI rfl rfl rfl ?_
           refine callP (v := .tuple #[.agg #[.int .i64 ((Math.cardAt y1 yw1 yv1 q1 (i : Int)).1.1), .int .i64 ((Math.cardAt y1 yw1 yv1 q1 (i : Int)).1.2)], .int .i64 ((Math.cardAt y1 yw1 yv1 q1 (i : Int)).2)]) Try.call49 trv rfl rfl (fun w hs => impl_CardOdds_c _ ny1 cy1 _ _ _ nyw1 cyw1 _ _ _ nyv1 cyv1 _ _ _ _ w (hs.at_ 2 rfl) (hs.at_ 3 rfl) (hs.at_ 4 rfl)) ?_
           refine mv rfl rfl rfl ?_
           refine ext rfl rfl rfl rfl ?_
           refine ext rfl rfl rfl rfl ?_
           refine alc Try.zeroValue65 rfl trv1 rfl rfl (fun bka22 hbka22 => ?_)
           refine stAl (vs := [.int .i64 ((Math.cardAt y1 yw1 yv1 q1 (i : Int)).1.1), .int .i64 ((Math.cardAt y1 yw1 yv1 q1 (i : Int)).1.2)]) 0 rfl Try.sizeOf65 trv rfl rfl rfl rfl rfl (by simp [Value.oneCell']) rfl ?_
           refine asI rfl rfl rfl ?_
           refine rNil ?_
           refine qSeq rfl ?_
           refine hSeq ?_
           refine hReg (sl 0 (sl 1 (sl 2 (sq 3 (sq 4 (sq 5 (sl 6 (sl 7 (sq 8 sz))))))))) (by kernel_rfl) ?_
           refine ldAl Try.isAgg65 Try.sizeOf65 (cBs 1 rfl) trv rfl rfl rfl rfl ?_
           refine ldAl Try.isAgg65 Try.sizeOf65 (cBs 0 rfl) trv rfl rfl rfl rfl ?_
           refine callP (v := .tuple #[.agg #[.int .i64 ((Math.addR (n, d) (((Math.cardAt y1 yw1 yv1 q1 (i : Int)).1.1), ((Math.cardAt y1 yw1 yv1 q1 (i : Int)).1.2))).1.1), .int .i64 ((Math.addR (n, d) (((Math.cardAt y1 yw1 yv1 q1 (i : Int)).1.1), ((Math.cardAt y1 yw1 yv1 q1 (i : Int)).1.2))).1.2)], .int .i64 ((Math.addR (n, d) (((Math.cardAt y1 yw1 yv1 q1 (i : Int)).1.1), ((Math.cardAt y1 yw1 yv1 q1 (i : Int)).1.2))).2)]) Try.call57 trv rfl rfl (fun w hs => impl_AddRatios_c _ _ _ _ w ) ?_
           refine mv rfl rfl rfl ?_
           refine ext rfl rfl rfl rfl ?_
           refine ext rfl rfl rfl rfl ?_
           refine alc Try.zeroValue65 rfl trv1 rfl rfl (fun bka23 hbka23 => ?_)
           refine stAl (vs := [.int .i64 ((Math.addR (n, d) (((Math.cardAt y1 yw1 yv1 q1 (i : Int)).1.1), ((Math.cardAt y1 yw1 yv1 q1 (i : Int)).1.2))).1.1), .int .i64 ((Math.addR (n, d) (((Math.cardAt y1 yw1 yv1 q1 (i : Int)).1.1), ((Math.cardAt y1 yw1 yv1 q1 (i : Int)).1.2))).1.2)]) 0 rfl Try.sizeOf65 trv rfl rfl rfl rfl rfl (by simp [Value.oneCell']) rfl ?_
           refine asI rfl rfl rfl ?_
           refine rNil ?_
           refine qSeq rfl ?_
           refine hSeq ?_
           refine hSeq ?_
           refine hReg (sq 0 (sq 1 (sq 2 (sq 3 (sq 4 (sq 5 sz)))))) (by kernel_rfl) ?_
           refine mvI rfl rfl rfl ?_
           refine neq rfl rfl rfl rfl ?_
           refine mvB rfl rfl rfl ?_
           refine rBoolD (d := 145) rfl (fun g11 => ?_) (fun g11 => ?_)
           ·
            replace g11 : (Math.cardAt y1 yw1 yv1 q1 (i : Int)).2 ≠ 0 := g11
            exact absurd hcs.1 g11
           ·
            replace g11 : ¬ ((Math.cardAt y1 yw1 yv1 q1 (i : Int)).2 ≠ 0) := g11
            refine mvI rfl rfl rfl ?_
            refine neq rfl rfl rfl rfl ?_
            refine pickB rfl rfl rfl rfl ?_
            refine rNil ?_
            refine qSeq rfl ?_
            refine hIfD rfl (fun c12 => ?_) (fun c12 => ?_)
            ·
             replace c12 : (Math.addR (n, d) (((Math.cardAt y1 yw1 yv1 q1 (i : Int)).1.1), ((Math.cardAt y1 yw1 yv1 q1 (i : Int)).1.2))).2 ≠ 0 := c12
             exact absurd (by rw [hadd]; exact hcs.2.2) c12
            ·
             replace c12 : ¬ ((Math.addR (n, d) (((Math.cardAt y1 yw1 yv1 q1 (i : Int)).1.1), ((Math.cardAt y1 yw1 yv1 q1 (i : Int)).1.2))).2 ≠ 0) := c12
             refine hSkip ?_
             refine qSeq rfl ?_
             refine hReg (sl 0 (sl 1 sz)) (by kernel_rfl) ?_
             refine ldAl Try.isAgg65 Try.sizeOf65 (cBs 0 rfl) trv rfl rfl rfl rfl ?_
             refine stAl (vs := [.int .i64 ((Math.addR (n, d) (((Math.cardAt y1 yw1 yv1 q1 (i : Int)).1.1), ((Math.cardAt y1 yw1 yv1 q1 (i : Int)).1.2))).1.1), .int .i64 ((Math.addR (n, d) (((Math.cardAt y1 yw1 yv1 q1 (i : Int)).1.1), ((Math.cardAt y1 yw1 yv1 q1 (i : Int)).1.2))).1.2)]) 2 rfl Try.sizeOf65 trv rfl rfl rfl rfl rfl (by simp [Value.oneCell']) rfl ?_
             refine rNil ?_
             refine qSeq rfl ?_
             refine hReg (sq 0 (sq 1 (sq 2 sz))) (by kernel_rfl) ?_
             refine mvI rfl rfl rfl ?_
             refine add rfl rfl rfl rfl (by first | omega | (dsimp only; omega)) ?_
             refine asI rfl rfl rfl ?_
             refine rNil ?_
             exact qNext rfl ((i + 1, (Math.addR (n, d) (((Math.cardAt y1 yw1 yv1 q1 (i : Int)).1.1), ((Math.cardAt y1 yw1 yv1 q1 (i : Int)).1.2))).1.1, (Math.addR (n, d) (((Math.cardAt y1 yw1 yv1 q1 (i : Int)).1.1), ((Math.cardAt y1 yw1 yv1 q1 (i : Int)).1.2))).1.2)) (by dsimp only; omega) ⟨by dsimp only; omega, by dsimp only; rw [hadd]⟩ ⟨rfl, rfl, rfl, rfl, trivial⟩ (fun _ h => h.pick [2, 2, 2, 2, 2])
          ·
           replace c10 : ¬ ((i : Int) < (nyw1 : Int)) := c10
           have hfin : (n, d) = ((1 : Int), (1 : Int)) := by rw [hnd, show i = nyw1 by omega, Math.allSum_all (by rw [← lenn2]; exact hG.2.2.1) hcg.2, Math.cards_end (by omega)]
           have hn1 : n = 1 := congrArg Prod.fst hfin
           have hd1 : d = 1 := congrArg Prod.snd hfin
           refine hExit rfl ?_
           refine qSeq rfl ?_
           refine hSeq ?_
           refine hReg (sl 0 (sq 1 (sq 2 (sq 3 (sl 4 (sl 5 (sl 6 (sq 7 (sq 8 sz))))))))) (by kernel_rfl) ?_
           refine ldAl Try.isAgg65 Try.sizeOf65 (cBs 0 rfl) trv rfl rfl rfl rfl ?_
           refine bld rfl rfl rfl (bld65_0_1 (.int .i64 _) (.int .i64 _) rfl rfl) ?_
           refine eqlR eq2R rfl rfl rfl rfl ?_
           refine mvB rfl rfl rfl ?_
           refine rBoolD (d := 153) rfl (fun g13 => ?_) (fun g13 => ?_)
           ·
            replace g13 : n = 1 ∧ d = 1 := g13
            refine callS Try.call58 trv1 rfl rfl (fun w hs => impl_KuhnGame_c  w ) ?_
            rintro ⟨ay6, ny6, cy6, Hy6, y6, ayw6, nyw6, cyw6, Hyw6, yw6, ayv6, nyv6, cyv6, Hyv6, yv6⟩ ⟨hr6a, hr6b, hr6c⟩
            dsimp only at hr6a hr6b hr6c
            subst y6
            subst yw6
            subst yv6
            refine rPieces (L' := [OwnR ndK 88 2 ay6 ny6 cy6 Hy6 ((((Math.betAt 1 1 0).1))), OwnR maK 28 2 ayw6 nyw6 cyw6 Hyw6 (Math.hcW 3 false 3), OwnR maK 28 2 ayv6 nyv6 cyv6 Hyv6 (Math.hcV 3 3), blk bka21 65 [.int .i64 n, .int .i64 d], blk bka4 43 [.slice ay1 ny1 cy1, .slice ayw1 nyw1 cyw1, .slice ayv1 nyv1 cyv1], RdR ndK ay1 ny1 Hy1 y1, RdR maK ayw1 nyw1 Hyw1 yw1, RdR maK ayv1 nyv1 Hyv1 yv1]) (fun _ h => h) ?_
            refine rKnow (fun w hs => (show OwnR ndK 88 2 ay6 ny6 cy6 Hy6 ((((Math.betAt 1 1 0).1))) w from hs.at_ 0 rfl).1) (fun lenn24 => ?_)
            refine rKnow (fun w hs => (show OwnR maK 28 2 ayw6 nyw6 cyw6 Hyw6 (Math.hcW 3 false 3) w from hs.at_ 1 rfl).1) (fun lenn25 => ?_)
            refine rKnow (fun w hs => (show OwnR maK 28 2 ayv6 nyv6 cyv6 Hyv6 (Math.hcV 3 3) w from hs.at_ 2 rfl).1) (fun lenn26 => ?_)
            refine callS Try.call59 trv1 rfl rfl (fun w hs => spec_KuhnGame_c  w ) ?_
            rintro ⟨ay7, ny7, cy7, Hy7, y7, ayw7, nyw7, cyw7, Hyw7, yw7, ayv7, nyv7, cyv7, Hyv7, yv7⟩ ⟨hr7a, hr7b, hr7c⟩
            dsimp only at hr7a hr7b hr7c
            subst y7
            subst yw7
            subst yv7
            refine rPieces (L' := [OwnR ndK 88 2 ay7 ny7 cy7 Hy7 ((((Math.betAt 1 1 0).1))), OwnR maK 28 2 ayw7 nyw7 cyw7 Hyw7 (Math.hcW 3 false 3), OwnR maK 28 2 ayv7 nyv7 cyv7 Hyv7 (Math.hcV 3 3), OwnR ndK 88 2 ay6 ny6 cy6 Hy6 ((((Math.betAt 1 1 0).1))), OwnR maK 28 2 ayw6 nyw6 cyw6 Hyw6 (Math.hcW 3 false 3), OwnR maK 28 2 ayv6 nyv6 cyv6 Hyv6 (Math.hcV 3 3), blk bka21 65 [.int .i64 n, .int .i64 d], blk bka4 43 [.slice ay1 ny1 cy1, .slice ayw1 nyw1 cyw1, .slice ayv1 nyv1 cyv1], RdR ndK ay1 ny1 Hy1 y1, RdR maK ayw1 nyw1 Hyw1 yw1, RdR maK ayv1 nyv1 Hyv1 yv1]) (fun _ h => h) ?_
            refine rKnow (fun w hs => (show OwnR ndK 88 2 ay7 ny7 cy7 Hy7 ((((Math.betAt 1 1 0).1))) w from hs.at_ 0 rfl).1) (fun lenn27 => ?_)
            refine rKnow (fun w hs => (show OwnR maK 28 2 ayw7 nyw7 cyw7 Hyw7 (Math.hcW 3 false 3) w from hs.at_ 1 rfl).1) (fun lenn28 => ?_)
            refine rKnow (fun w hs => (show OwnR maK 28 2 ayv7 nyv7 cyv7 Hyv7 (Math.hcV 3 3) w from hs.at_ 2 rfl).1) (fun lenn29 => ?_)
            refine callP (v := .bool true) Try.call37 trv rfl rfl (fun w hs => laws_likeGames_c _ ny6 cy6 _ _ _ nyw6 cyw6 _ _ _ nyv6 cyv6 _ _ _ ny7 cy7 _ _ _ nyw7 cyw7 _ _ _ nyv7 cyv7 _ _ w (OwnR.rd (hs.at_ 3 rfl) ndK.ok) (OwnR.rd (hs.at_ 4 rfl) maK.ok) (OwnR.rd (hs.at_ 5 rfl) maK.ok) (OwnR.rd (hs.at_ 0 rfl) ndK.ok) (OwnR.rd (hs.at_ 1 rfl) maK.ok) (OwnR.rd (hs.at_ 2 rfl) maK.ok) (by exact ⟨rfl, rfl, rfl⟩)) ?_
            refine pickB rfl rfl rfl rfl ?_
            refine asB rfl rfl rfl ?_
            refine rNil ?_
            refine qSeq rfl ?_
            refine hRet ?_
            exact fun w hs => ⟨[.bool true], ⟨rfl, trivial⟩, ⟨by first | rfl | exact (bT (by omega)).symm, hs.upd⟩⟩
           ·
            replace g13 : ¬ (n = 1 ∧ d = 1) := g13
            exact absurd ⟨hn1, hd1⟩ g13
       ·
        replace g7 : ¬ ((((Math.highAt y3 q3 ag3).2)) = 0) := g7
        refine rSkipL trv rfl rfl ?_
        refine rSkipL trv rfl rfl ?_
        refine rSkipQ rfl rfl ?_
        refine pickB rfl rfl rfl rfl ?_
        refine pickB rfl rfl rfl rfl ?_
        refine rNil ?_
        refine qSeq rfl ?_
        refine hIfF rfl ?_
        refine hSkip ?_
        refine qSeq rfl ?_
        refine hSeq ?_
        refine hSeq ?_
        refine hReg (sq 0 (sq 1 sz)) (by kernel_rfl) ?_
        refine mvI rfl rfl rfl ?_
        refine neq rfl rfl rfl rfl ?_
        refine rNil ?_
        refine qSeq rfl ?_
        refine hIfD rfl (fun c14 => ?_) (fun c14 => ?_)
        ·
         replace c14 : (Math.cardAt y1 yw1 yv1 q1 qa1).2 ≠ 0 := c14
         refine hSeq ?_
         refine hReg (sq 0 sz) (by kernel_rfl) ?_
         refine asB rfl rfl rfl ?_
         refine rNil ?_
         refine qSeq rfl ?_
         refine hRet ?_
         exact fun w hs => ⟨[.bool true], ⟨rfl, trivial⟩, ⟨by first | rfl | exact (bT (by omega)).symm, hs.upd⟩⟩
        ·
         replace c14 : ¬ ((Math.cardAt y1 yw1 yv1 q1 qa1).2 ≠ 0) := c14
         have hcg := Math.cardAt_ok (Classical.not_not.1 c14)
         have hG := Math.isGame_ok hcg.1
         have hst : ((0 : Int), (1 : Int)) = (Math.reduced (Math.allSum yw1 q1 nyw1 0) (Math.total yw1)).1 := by rw [show Math.allSum yw1 q1 nyw1 0 = 0 from rfl, Math.cards_start (by omega)]
         refine hSkip ?_
         refine qSeq rfl ?_
         refine hSeq ?_
         refine hReg (sq 0 (sl 1 (sl 2 sz))) (by kernel_rfl) ?_
         refine bld rfl rfl rfl (bld65_1 (.int .i64 _) rfl) ?_
         refine alc Try.zeroValue65 rfl trv1 rfl rfl (fun bka30 hbka30 => ?_)
         refine stAl (vs := [.int .i64 0, .int .i64 1]) 0 rfl Try.sizeOf65 trv rfl rfl rfl rfl rfl (by simp [Value.oneCell']) rfl ?_
         refine rNil ?_
         refine qSeq rfl ?_
         refine hSeq ?_
         refine hSeq ?_
         refine hReg (sq 0 sz) (by kernel_rfl) ?_
         refine asI rfl rfl rfl ?_
         refine rNil ?_
         refine qSeq rfl ?_
         refine hBlk ?_
         refine hLoop (α := Nat × Int × Int) (fun x => x.1 ≤ nyw1 ∧ (x.2.1, x.2.2) = (Math.reduced (Math.allSum yw1 q1 nyw1 x.1) (Math.total yw1)).1) (fun x => nyw1 - x.1) (fun x => [blk bka30 65 [.int .i64 x.2.1, .int .i64 x.2.2], blk bka4 43 [.slice ay1 ny1 cy1, .slice ayw1 nyw1 cyw1, .slice ayv1 nyv1 cyv1], RdR ndK ay1 ny1 Hy1 y1, RdR maK ayw1 nyw1 Hyw1 yw1, RdR maK ayv1 nyv1 Hyv1 yv1]) (fun x => [(3, .pointer (some ⟨bka4, 0, none⟩)), (4, .int .i64 q1), (22, .pointer (some ⟨bka30, 0, none⟩)), (23, .int .i64 (x.1 : Int))]) (0, 0, 1) ⟨Nat.zero_le _, hst⟩ (fun _ h => h.pick [0, 16, 16, 16, 16]) ⟨rfl, rfl, rfl, rfl, trivial⟩ ?_
         rintro ⟨i, n, d⟩ τ2 ⟨hi, hnd⟩
         dsimp only at hi hnd
         refine hRe [(3, .pointer (some ⟨bka4, 0, none⟩)), (4, .int .i64 q1), (22, .pointer (some ⟨bka30, 0, none⟩)), (23, .int .i64 (i : Int))] [blk bka30 65 [.int .i64 n, .int .i64 d], blk bka4 43 [.slice ay1 ny1 cy1, .slice ayw1 nyw1 cyw1, .slice ayv1 nyv1 cyv1], RdR ndK ay1 ny1 Hy1 y1, RdR maK ayw1 nyw1 Hyw1 yw1, RdR maK ayv1 nyv1 Hyv1 yv1] rfl rfl ?_
         refine hSeq ?_
         refine hSeq ?_
         refine hReg (sq 0 (sq 1 (sl 2 (sq 3 (sq 4 sz))))) (by kernel_rfl) ?_
         refine mvI rfl rfl rfl ?_
         refine fld fl43_1 rfl rfl rfl ?_
         refine ldl Try.isAgg41 (cB 1 rfl rfl) trv rfl rfl rfl ?_
         refine lenS Try.runUnderlying41 rfl rfl rfl ?_
         refine lss rfl rfl rfl rfl ?_
         refine rNil ?_
         refine qSeq rfl ?_
         refine hIfD rfl (fun c15 => ?_) (fun c15 => ?_)
         ·
          replace c15 : (i : Int) < (nyw1 : Int) := c15
          have hcs := Math.cards_step lenn2 hcg.1 hcg.2 (show i < nyw1 by omega)
          have hadd : Math.addR (n, d) ((Math.cardAt y1 yw1 yv1 q1 (i : Int)).1.1, (Math.cardAt y1 yw1 yv1 q1 (i : Int)).1.2) = Math.reduced (Math.allSum yw1 q1 nyw1 (i + 1)) (Math.total yw1) := by rw [hnd]; exact hcs.2.1
          refine hSkip ?_
          refine qSeq rfl ?_
          refine hSeq ?_
          refine hBlk ?_
          refine hSeq ?_
          refine hReg (sl 0 (sq 1 (sq 2 (sl 3 (sq 4 (sq 5 (sq 6 (sl 7 (sl 8 (sq 9 sz)))))))))) (by kernel_rfl) ?_
          refine ldAl Try.isAgg43 Try.sizeOf43 (cBs 1 rfl) trv rfl rfl rfl rfl ?_
          refine mvI rfl rfl rfl ?_
          refine mvI rfl rfl rfl ?_
          refine callP (v := .tuple #[.agg #[.int .i64 ((Math.cardAt y1 yw1 yv1 q1 (i : Int)).1.1), .int .i64 ((Math.cardAt y1 yw1 yv1 q1 (i : Int)).1.2)], .int .i64 ((Math.cardAt y1 yw1 yv1 q1 (i : Int)).2)]) Try.call49 trv rfl rfl (fun w hs => impl_CardOdds_c _ ny1 cy1 _ _ _ nyw1 cyw1 _ _ _ nyv1 cyv1 _ _ _ _ w (hs.at_ 2 rfl) (hs.at_ 3 rfl) (hs.at_ 4 rfl)) ?_
          refine mv rfl rfl rfl ?_
          refine ext rfl rfl rfl rfl ?_
          refine ext rfl rfl rfl rfl ?_
          refine alc Try.zeroValue65 rfl trv1 rfl rfl (fun bka31 hbka31 => ?_)
          refine stAl (vs := [.int .i64 ((Math.cardAt y1 yw1 yv1 q1 (i : Int)).1.1), .int .i64 ((Math.cardAt y1 yw1 yv1 q1 (i : Int)).1.2)]) 0 rfl Try.sizeOf65 trv rfl rfl rfl rfl rfl (by simp [Value.oneCell']) rfl ?_
          refine asI rfl rfl rfl ?_
          refine rNil ?_
          refine qSeq rfl ?_
          refine hSeq ?_
          refine hReg (sl 0 (sl 1 (sl 2 (sq 3 (sq 4 (sq 5 (sl 6 (sl 7 (sq 8 sz))))))))) (by kernel_rfl) ?_
          refine ldAl Try.isAgg65 Try.sizeOf65 (cBs 1 rfl) trv rfl rfl rfl rfl ?_
          refine ldAl Try.isAgg65 Try.sizeOf65 (cBs 0 rfl) trv rfl rfl rfl rfl ?_
          refine callP (v := .tuple #[.agg #[.int .i64 ((Math.addR (n, d) (((Math.cardAt y1 yw1 yv1 q1 (i : Int)).1.1), ((Math.cardAt y1 yw1 yv1 q1 (i : Int)).1.2))).1.1), .int .i64 ((Math.addR (n, d) (((Math.cardAt y1 yw1 yv1 q1 (i : Int)).1.1), ((Math.cardAt y1 yw1 yv1 q1 (i : Int)).1.2))).1.2)], .int .i64 ((Math.addR (n, d) (((Math.cardAt y1 yw1 yv1 q1 (i : Int)).1.1), ((Math.cardAt y1 yw1 yv1 q1 (i : Int)).1.2))).2)]) Try.call57 trv rfl rfl (fun w hs => impl_AddRatios_c _ _ _ _ w ) ?_
          refine mv rfl rfl rfl ?_
          refine ext rfl rfl rfl rfl ?_
          refine ext rfl rfl rfl rfl ?_
          refine alc Try.zeroValue65 rfl trv1 rfl rfl (fun bka32 hbka32 => ?_)
          refine stAl (vs := [.int .i64 ((Math.addR (n, d) (((Math.cardAt y1 yw1 yv1 q1 (i : Int)).1.1), ((Math.cardAt y1 yw1 yv1 q1 (i : Int)).1.2))).1.1), .int .i64 ((Math.addR (n, d) (((Math.cardAt y1 yw1 yv1 q1 (i : Int)).1.1), ((Math.cardAt y1 yw1 yv1 q1 (i : Int)).1.2))).1.2)]) 0 rfl Try.sizeOf65 trv rfl rfl rfl rfl rfl (by simp [Value.oneCell']) rfl ?_
          refine asI rfl rfl rfl ?_
          refine rNil ?_
          refine qSeq rfl ?_
          refine hSeq ?_
          refine hSeq ?_
          refine hReg (sq 0 (sq 1 (sq 2 (sq 3 (sq 4 (sq 5 sz)))))) (by kernel_rfl) ?_
          refine mvI rfl rfl rfl ?_
          refine neq rfl rfl rfl rfl ?_
          refine mvB rfl rfl rfl ?_
          refine rBoolD (d := 145) rfl (fun g16 => ?_) (fun g16 => ?_)
          ·
           replace g16 : (Math.cardAt y1 yw1 yv1 q1 (i : Int)).2 ≠ 0 := g16
           exact absurd hcs.1 g16
          ·
           replace g16 : ¬ ((Math.cardAt y1 yw1 yv1 q1 (i : Int)).2 ≠ 0) := g16
           refine mvI rfl rfl rfl ?_
           refine neq rfl rfl rfl rfl ?_
           refine pickB rfl rfl rfl rfl ?_
           refine rNil ?_
           refine qSeq rfl ?_
           refine hIfD rfl (fun c17 => ?_) (fun c17 => ?_)
           ·
            replace c17 : (Math.addR (n, d) (((Math.cardAt y1 yw1 yv1 q1 (i : Int)).1.1), ((Math.cardAt y1 yw1 yv1 q1 (i : Int)).1.2))).2 ≠ 0 := c17
            exact absurd (by rw [hadd]; exact hcs.2.2) c17
           ·
            replace c17 : ¬ ((Math.addR (n, d) (((Math.cardAt y1 yw1 yv1 q1 (i : Int)).1.1), ((Math.cardAt y1 yw1 yv1 q1 (i : Int)).1.2))).2 ≠ 0) := c17
            refine hSkip ?_
            refine qSeq rfl ?_
            refine hReg (sl 0 (sl 1 sz)) (by kernel_rfl) ?_
            refine ldAl Try.isAgg65 Try.sizeOf65 (cBs 0 rfl) trv rfl rfl rfl rfl ?_
            refine stAl (vs := [.int .i64 ((Math.addR (n, d) (((Math.cardAt y1 yw1 yv1 q1 (i : Int)).1.1), ((Math.cardAt y1 yw1 yv1 q1 (i : Int)).1.2))).1.1), .int .i64 ((Math.addR (n, d) (((Math.cardAt y1 yw1 yv1 q1 (i : Int)).1.1), ((Math.cardAt y1 yw1 yv1 q1 (i : Int)).1.2))).1.2)]) 2 rfl Try.sizeOf65 trv rfl rfl rfl rfl rfl (by simp [Value.oneCell']) rfl ?_
            refine rNil ?_
            refine qSeq rfl ?_
            refine hReg (sq 0 (sq 1 (sq 2 sz))) (by kernel_rfl) ?_
            refine mvI rfl rfl rfl ?_
            refine add rfl rfl rfl rfl (by first | omega | (dsimp only; omega)) ?_
            refine asI rfl rfl rfl ?_
            refine rNil ?_
            exact qNext rfl ((i + 1, (Math.addR (n, d) (((Math.cardAt y1 yw1 yv1 q1 (i : Int)).1.1), ((Math.cardAt y1 yw1 yv1 q1 (i : Int)).1.2))).1.1, (Math.addR (n, d) (((Math.cardAt y1 yw1 yv1 q1 (i : Int)).1.1), ((Math.cardAt y1 yw1 yv1 q1 (i : Int)).1.2))).1.2)) (by dsimp only; omega) ⟨by dsimp only; omega, by dsimp only; rw [hadd]⟩ ⟨rfl, rfl, rfl, rfl, trivial⟩ (fun _ h => h.pick [2, 2, 2, 2, 2])
         ·
          replace c15 : ¬ ((i : Int) < (nyw1 : Int)) := c15
          have hfin : (n, d) = ((1 : Int), (1 : Int)) := by rw [hnd, show i = nyw1 by omega, Math.allSum_all (by rw [← lenn2]; exact hG.2.2.1) hcg.2, Math.cards_end (by omega)]
          have hn1 : n = 1 := congrArg Prod.fst hfin
          have hd1 : d = 1 := congrArg Prod.snd hfin
          refine hExit rfl ?_
          refine qSeq rfl ?_
          refine hSeq ?_
          refine hReg (sl 0 (sq 1 (sq 2 (sq 3 (sl 4 (sl 5 (sl 6 (sq 7 (sq 8 sz))))))))) (by kernel_rfl) ?_
          refine ldAl Try.isAgg65 Try.sizeOf65 (cBs 0 rfl) trv rfl rfl rfl rfl ?_
          refine bld rfl rfl rfl (bld65_0_1 (.int .i64 _) (.int .i64 _) rfl rfl) ?_
          refine eqlR eq2R rfl rfl rfl rfl ?_
          refine mvB rfl rfl rfl ?_
          refine rBoolD (d := 153) rfl (fun g18 => ?_) (fun g18 => ?_)
          ·
           replace g18 : n = 1 ∧ d = 1 := g18
           refine callS Try.call58 trv1 rfl rfl (fun w hs => impl_KuhnGame_c  w ) ?_
           rintro ⟨ay8, ny8, cy8, Hy8, y8, ayw8, nyw8, cyw8, Hyw8, yw8, ayv8, nyv8, cyv8, Hyv8, yv8⟩ ⟨hr8a, hr8b, hr8c⟩
           dsimp only at hr8a hr8b hr8c
           subst y8
           subst yw8
           subst yv8
           refine rPieces (L' := [OwnR ndK 88 2 ay8 ny8 cy8 Hy8 ((((Math.betAt 1 1 0).1))), OwnR maK 28 2 ayw8 nyw8 cyw8 Hyw8 (Math.hcW 3 false 3), OwnR maK 28 2 ayv8 nyv8 cyv8 Hyv8 (Math.hcV 3 3), blk bka30 65 [.int .i64 n, .int .i64 d], blk bka4 43 [.slice ay1 ny1 cy1, .slice ayw1 nyw1 cyw1, .slice ayv1 nyv1 cyv1], RdR ndK ay1 ny1 Hy1 y1, RdR maK ayw1 nyw1 Hyw1 yw1, RdR maK ayv1 nyv1 Hyv1 yv1]) (fun _ h => h) ?_
           refine rKnow (fun w hs => (show OwnR ndK 88 2 ay8 ny8 cy8 Hy8 ((((Math.betAt 1 1 0).1))) w from hs.at_ 0 rfl).1) (fun lenn33 => ?_)
           refine rKnow (fun w hs => (show OwnR maK 28 2 ayw8 nyw8 cyw8 Hyw8 (Math.hcW 3 false 3) w from hs.at_ 1 rfl).1) (fun lenn34 => ?_)
           refine rKnow (fun w hs => (show OwnR maK 28 2 ayv8 nyv8 cyv8 Hyv8 (Math.hcV 3 3) w from hs.at_ 2 rfl).1) (fun lenn35 => ?_)
           refine callS Try.call59 trv1 rfl rfl (fun w hs => spec_KuhnGame_c  w ) ?_
           rintro ⟨ay9, ny9, cy9, Hy9, y9, ayw9, nyw9, cyw9, Hyw9, yw9, ayv9, nyv9, cyv9, Hyv9, yv9⟩ ⟨hr9a, hr9b, hr9c⟩
           dsimp only at hr9a hr9b hr9c
           subst y9
           subst yw9
           subst yv9
           refine rPieces (L' := [OwnR ndK 88 2 ay9 ny9 cy9 Hy9 ((((Math.betAt 1 1 0).1))), OwnR maK 28 2 ayw9 nyw9 cyw9 Hyw9 (Math.hcW 3 false 3), OwnR maK 28 2 ayv9 nyv9 cyv9 Hyv9 (Math.hcV 3 3), OwnR ndK 88 2 ay8 ny8 cy8 Hy8 ((((Math.betAt 1 1 0).1))), OwnR maK 28 2 ayw8 nyw8 cyw8 Hyw8 (Math.hcW 3 false 3), OwnR maK 28 2 ayv8 nyv8 cyv8 Hyv8 (Math.hcV 3 3), blk bka30 65 [.int .i64 n, .int .i64 d], blk bka4 43 [.slice ay1 ny1 cy1, .slice ayw1 nyw1 cyw1, .slice ayv1 nyv1 cyv1], RdR ndK ay1 ny1 Hy1 y1, RdR maK ayw1 nyw1 Hyw1 yw1, RdR maK ayv1 nyv1 Hyv1 yv1]) (fun _ h => h) ?_
           refine rKnow (fun w hs => (show OwnR ndK 88 2 ay9 ny9 cy9 Hy9 ((((Math.betAt 1 1 0).1))) w from hs.at_ 0 rfl).1) (fun lenn36 => ?_)
           refine rKnow (fun w hs => (show OwnR maK 28 2 ayw9 nyw9 cyw9 Hyw9 (Math.hcW 3 false 3) w from hs.at_ 1 rfl).1) (fun lenn37 => ?_)
           refine rKnow (fun w hs => (show OwnR maK 28 2 ayv9 nyv9 cyv9 Hyv9 (Math.hcV 3 3) w from hs.at_ 2 rfl).1) (fun lenn38 => ?_)
           refine callP (v := .bool true) Try.call37 trv rfl rfl (fun w hs => laws_likeGames_c _ ny8 cy8 _ _ _ nyw8 cyw8 _ _ _ nyv8 cyv8 _ _ _ ny9 cy9 _ _ _ nyw9 cyw9 _ _ _ nyv9 cyv9 _ _ w (OwnR.rd (hs.at_ 3 rfl) ndK.ok) (OwnR.rd (hs.at_ 4 rfl) maK.ok) (OwnR.rd (hs.at_ 5 rfl) maK.ok) (OwnR.rd (hs.at_ 0 rfl) ndK.ok) (OwnR.rd (hs.at_ 1 rfl) maK.ok) (OwnR.rd (hs.at_ 2 rfl) maK.ok) (by exact ⟨rfl, rfl, rfl⟩)) ?_
           refine pickB rfl rfl rfl rfl ?_
           refine asB rfl rfl rfl ?_
           refine rNil ?_
           refine qSeq rfl ?_
           refine hRet ?_
           exact fun w hs => ⟨[.bool true], ⟨rfl, trivial⟩, ⟨by first | rfl | exact (bT (by omega)).symm, hs.upd⟩⟩
          ·
           replace g18 : ¬ (n = 1 ∧ d = 1) := g18
           exact absurd ⟨hn1, hd1⟩ g18
theorem cells5 : Try.prog.cellsOf 5 = 1 := by kernel_rfl
set_option maxHeartbeats 2000000 in
theorem fnCardOdds_lifted (os : Os) (started : os.Started) (H : Type) (enc : TypeId × Value → H) :
  ReturnsInHanded {} Try.checked os 7 .any (Rows.fnCardOddsSpec.pre6 enc Try.prog Try.f7 Rows.fnCardOddsRow.domain false) (Rows.fnCardOddsSpec.post enc Try.prog Try.f7 false true false false) := by
 refine returnsInHanded_of_change (C := Try.checked) own started (by kernel_rfl) Try.func7
  (ChangeSpec.witness6 (enc := enc) (C := Try.checked) false ⟨#[], #[.slice none 0 0], []⟩ 8 (by kernel_rfl) (by kernel_rfl) (by kernel_rfl) (by kernel_rfl)) ?_
 intro W base args ds gs before hval0 hW hcnd _
 have hval : ∀ (j : Nat) t v, Try.f7.params[j]? = some t → args[j]? = some v → Value.okWide Try.prog W .any base t v := hval0
 have hW' := hW
 obtain ⟨p, q, hA0, hV, rfl, hfz, hnd⟩ := hW
 have hA : DataW.TrodAll enc Try.prog W 0 (fun _ => true) true Try.f7.params.toList args.toList ds p := hA0
 rw [Try.params7] at hA hval
 obtain ⟨v0, vs0, d0, ds0, p0, q0, hargs, rfl, rfl, h0, r0⟩ := trodAll_cons hA
 obtain ⟨rfl, rfl, rfl⟩ := trodAll_nil r0
 obtain rfl : args = #[v0] := by cases args; simp_all
 obtain ⟨rfl, rfl⟩ := trodVars_none hV
 obtain ⟨ca, bs, cc, rfl, hwf, hmax, hca⟩ := open_slice_ints Try.underlying22 Try.underlying5 cells5 (hval 0 22 v0 rfl rfl) h0
 refine (laws_FnCardOdds_c ca bs cc W hca hwf).mono fun e W' ⟨v, he, hv, hx⟩ => ?_
 subst he; subst hv
 exact ⟨_, rfl, law_post (tb := 4) hW' rfl rfl Try.underlying4 rfl rfl rfl (by kernel_rfl) hx⟩
theorem fnCardOdds_holds : Rows.FnCardOddsSaid :=
 OpenClaim.holds_of_wide 7 Try.f7 rfl rfl rfl rfl rfl rfl rfl ⟨rfl, rfl, rfl, rfl, rfl⟩ rfl rfl rfl rfl rfl (by kernel_rfl) Try.func7 (by kernel_rfl)
  (of_decide_eq_true (by kernel_rfl)) (by unfold Func.isWrapper; first | (rw [if_pos (by decide +kernel)]; kernel_rfl) | (rw [if_neg (by decide +kernel)]; exact ⟨rfl, rfl⟩))
  (fun os started H enc _ => fnCardOdds_lifted os started H enc)
#print axioms fnCardOdds_holds
end Go.Proofs.Ytjengglpbdgmnaa
