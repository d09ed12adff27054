/- The law FnMixed returns true for all arguments. No condition but what the card ties. -/
import Derived.Test.YtjengglpbdgmnaaDoorZ14Mx
import Derived.Test.YtjengglpbdgmnaaDoorZ1Mx
import Derived.Test.YtjengglpbdgmnaaDoorZ2Mx
import Derived.Test.YtjengglpbdgmnaaDoorZ3Mx
import Derived.Test.YtjengglpbdgmnaaDoorZ4Mx
import Derived.Test.YtjengglpbdgmnaaDoorZ5Mx
import Derived.Test.YtjengglpbdgmnaaDoorZ6Mx
import Derived.Test.YtjengglpbdgmnaaDoorZ7Mx
import Derived.Test.YtjengglpbdgmnaaDoorZ8Mx
import Derived.Test.YtjengglpbdgmnaaDoorZ9Mx
import Derived.Test.YtjengglpbdgmnaaDoorZ10Mx
import Derived.Test.YtjengglpbdgmnaaDoorZ11Mx
import Derived.Test.YtjengglpbdgmnaaDoorZ12Mx
import Derived.Test.YtjengglpbdgmnaaDoorZ13Mx
import Derived.Test.YtjengglpbdgmnaaDoorRows
import Derived.Test.YtjengglpbdgmnaaDoorCards
import Derived.Test.YtjengglpbdgmnaaDoorTie
import Derived.SevenTiedAt
import Derived.LaidMore
import Derived.Lay
import Derived.Stop.Joined
namespace Go.Proofs.YtjengglpbdgmnaaDoor
open Go Go.RowKit V Go.ChangeShapes Go.WideShapes Go.ChangeAt
set_option linter.unusedVariables false
set_option linter.unusedSimpArgs false
set_option maxRecDepth 100000
set_option maxHeartbeats 4000000 in
theorem laws_FnMixed_c (ca : Option Addr) (bs : List Int) (cc : Nat) (w : World) (rcode : CellsAt ca (bs.map (Value.int .u8)) w) (rtab : TabP w) (hb : ∀ n ∈ bs, (Lit.int .u8 n).wf = true) :
  Calls Tryd.prog 3 #[.slice ca bs.length cc] w (Ret fun v w' => v = .bool true ∧ Ext w w') := by
 have kcode : Kn w none_ [] (CellsAt ca (bs.map (Value.int .u8))) := fun w' hs => rcode.ext hs.upd
 have ktab : Kn w none_ [] (TabP) := fun w' hs => rtab.ext hs.upd
 refine fn (M := none_) (rs := [.tmp 2]) Tryd.func3 rfl Tryd.ntmps3 rfl rfl (Sep.start _ _) ?_
 refine hSeq ?_
 refine hReg (sq 0 sz) (by kernel_rfl) ?_
 refine asB rfl rfl rfl ?_
 refine rNil ?_
 refine qSeq rfl ?_
 refine hSeq ?_
 refine hSeq ?_
 refine hReg (sq 0 (sl 1 sz)) (by kernel_rfl) ?_
 refine mvS rfl rfl rfl ?_
 refine callP (v := .bool (decide (4096 < ((bs.length : Nat) : Int)))) Tryd.call5 trv rfl rfl (fun w hs => laws_big_c _ _ cc w (kcode w hs)) ?_
 refine rNil ?_
 refine qSeq rfl ?_
 refine hIfD rfl (fun c1 => ?_) (fun c1 => ?_)
 ·
  replace c1 : 4096 < ((bs.length : Nat) : Int) := c1
  refine hSeq ?_
  refine hReg (sq 0 sz) (by kernel_rfl) ?_
  refine asB rfl rfl rfl ?_
  refine rNil ?_
  refine qSeq rfl ?_
  refine hRet ?_
  exact fun w hs => ⟨[.bool true], ⟨rfl, trivial⟩, ⟨by rfl, hs.upd⟩⟩
 ·
  replace c1 : ¬ (4096 < ((bs.length : Nat) : Int)) := c1
  have hok : okBytes bs := ⟨fun x hx => bounds_u8 (hb x hx), by omega⟩
  refine hSkip ?_
  refine qSeq rfl ?_
  refine hSeq ?_
  refine hReg (sq 0 (sl 1 (sq 2 (sq 3 (sq 4 (sq 5 (sq 6 (sl 7 (sl 8 (sl 9 (sl 10 (sl 11 (sl 12 (sq 13 sz)))))))))))))) (by kernel_rfl) ?_
  refine mvS rfl rfl rfl ?_
  refine callS Tryd.call6 trv1 rfl rfl (fun w hs => spec_DrawMixStrategies_c _ _ cc w (kcode w hs) (by assumption)) ?_
  rintro ⟨ay1, ny1, cy1, Hy1, y1, ayw1, nyw1, cyw1, Hyw1, yw1, ayv1, nyv1, cyv1, Hyv1, yv1, pl1, ayp1, nyp1, cyp1, Hyp1, yp1, ql1, ayq1, nyq1, cyq1, Hyq1, yq1, qa1⟩ hr1
  try dsimp only at hr1
  refine rPieces (L' := [RdR ndK ay1 ny1 Hy1 y1, RdR maK ayw1 nyw1 Hyw1 yw1, RdR maK ayv1 nyv1 Hyv1 yv1, OwnR maK 50 2 ayp1 nyp1 cyp1 Hyp1 yp1, RdR maK ayq1 nyq1 Hyq1 yq1]) (fun _ h => h) ?_
  refine rKnow (fun w hs => (show RdR ndK ay1 ny1 Hy1 y1 w from hs.at_ 0 rfl).1) (fun lenn1 => ?_)
  refine rKnow (fun w hs => (show RdR maK ayw1 nyw1 Hyw1 yw1 w from hs.at_ 1 rfl).1) (fun lenn2 => ?_)
  refine rKnow (fun w hs => (show RdR maK ayv1 nyv1 Hyv1 yv1 w from hs.at_ 2 rfl).1) (fun lenn3 => ?_)
  refine rKnow (fun w hs => (show OwnR maK 50 2 ayp1 nyp1 cyp1 Hyp1 yp1 w from hs.at_ 3 rfl).1) (fun lenn4 => ?_)
  refine rKnow (fun w hs => (show RdR maK ayq1 nyq1 Hyq1 yq1 w from hs.at_ 4 rfl).1) (fun lenn5 => ?_)
  refine rVal (v' := .tuple #[.agg #[.slice ay1 ny1 cy1, .slice ayw1 nyw1 cyw1, .slice ayv1 nyv1 cyv1], .agg #[.int .i64 pl1, .slice ayp1 nyp1 cyp1], .agg #[.int .i64 ql1, .slice ayq1 nyq1 cyq1], .int .i64 qa1]) rfl ?_
  refine mv rfl rfl rfl ?_
  refine ext rfl rfl rfl rfl ?_
  refine ext rfl rfl rfl rfl ?_
  refine ext rfl rfl rfl rfl ?_
  refine ext rfl rfl rfl rfl ?_
  refine alc Tryd.zeroValue29 rfl trv1 rfl rfl (fun bka6 hbka6 => ?_)
  refine alc Tryd.zeroValue31 rfl trv1 rfl rfl (fun bka7 hbka7 => ?_)
  refine alc Tryd.zeroValue31 rfl trv1 rfl rfl (fun bka8 hbka8 => ?_)
  refine stAl (vs := [.slice ay1 ny1 cy1, .slice ayw1 nyw1 cyw1, .slice ayv1 nyv1 cyv1]) 2 rfl Tryd.sizeOf29 trv rfl rfl rfl rfl rfl (by simp [Value.oneCell']) rfl ?_
  refine stAl (vs := [.int .i64 pl1, .slice ayp1 nyp1 cyp1]) 1 rfl Tryd.sizeOf31 trv rfl rfl rfl rfl rfl (by simp [Value.oneCell']) rfl ?_
  refine stAl (vs := [.int .i64 ql1, .slice ayq1 nyq1 cyq1]) 0 rfl Tryd.sizeOf31 trv rfl rfl rfl rfl rfl (by simp [Value.oneCell']) rfl ?_
  refine asI rfl rfl rfl ?_
  refine rNil ?_
  refine qSeq rfl ?_
  refine hSeq ?_
  refine hReg (sl 0 (sl 1 (sl 2 (sq 3 (sl 4 (sq 5 (sq 6 (sq 7 (sl 8 (sl 9 (sq 10 sz))))))))))) (by kernel_rfl) ?_
  refine ldAl Tryd.isAgg29 Tryd.sizeOf29 (cBs 2 rfl) trv rfl rfl rfl rfl ?_
  refine ldAl Tryd.isAgg31 Tryd.sizeOf31 (cBs 1 rfl) trv rfl rfl rfl rfl ?_
  refine ldAl Tryd.isAgg31 Tryd.sizeOf31 (cBs 0 rfl) trv rfl rfl rfl rfl ?_
  refine mvI rfl rfl rfl ?_
  refine callS Tryd.call7 trv1 rfl rfl (fun w hs => impl_MixStrategies_c _ ny1 cy1 _ _ _ nyw1 cyw1 _ _ _ nyv1 cyv1 _ _ _ _ nyp1 cyp1 _ _ _ _ nyq1 cyq1 _ _ _ w (hs.at_ 3 rfl) (hs.at_ 4 rfl) (hs.at_ 5 rfl) (OwnR.rd (hs.at_ 6 rfl) maK.ok) (hs.at_ 7 rfl)) ?_
  rintro ⟨y02, ay2, ny2, cy2, Hy2, y2, q2⟩ ⟨hr2a, hr2b, hr2c⟩
  dsimp only at hr2a hr2b hr2c
  subst y02
  subst y2
  subst q2
  refine rPieces (L' := [OwnR maK 50 2 ay2 ny2 cy2 Hy2 ((((Math.mixAt y1 yw1 yv1 pl1 yp1 ql1 yq1 qa1).1.2))), blk bka8 31 [.int .i64 ql1, .slice ayq1 nyq1 cyq1], blk bka7 31 [.int .i64 pl1, .slice ayp1 nyp1 cyp1], blk bka6 29 [.slice ay1 ny1 cy1, .slice ayw1 nyw1 cyw1, .slice ayv1 nyv1 cyv1], RdR ndK ay1 ny1 Hy1 y1, RdR maK ayw1 nyw1 Hyw1 yw1, RdR maK ayv1 nyv1 Hyv1 yv1, OwnR maK 50 2 ayp1 nyp1 cyp1 Hyp1 yp1, RdR maK ayq1 nyq1 Hyq1 yq1]) (fun _ h => h) ?_
  refine rKnow (fun w hs => (show OwnR maK 50 2 ay2 ny2 cy2 Hy2 ((((Math.mixAt y1 yw1 yv1 pl1 yp1 ql1 yq1 qa1).1.2))) w from hs.at_ 0 rfl).1) (fun lenn9 => ?_)
  refine rVal (v' := .tuple #[.agg #[.int .i64 ((((Math.mixAt y1 yw1 yv1 pl1 yp1 ql1 yq1 qa1).1.1))), .slice ay2 ny2 cy2], .int .i64 ((((Math.mixAt y1 yw1 yv1 pl1 yp1 ql1 yq1 qa1).2)))]) rfl ?_
  refine mv rfl rfl rfl ?_
  refine ext rfl rfl rfl rfl ?_
  refine ext rfl rfl rfl rfl ?_
  refine alc Tryd.zeroValue31 rfl trv1 rfl rfl (fun bka10 hbka10 => ?_)
  refine stAl (vs := [.int .i64 ((((Math.mixAt y1 yw1 yv1 pl1 yp1 ql1 yq1 qa1).1.1))), .slice ay2 ny2 cy2]) 0 rfl Tryd.sizeOf31 trv rfl rfl rfl rfl rfl (by simp [Value.oneCell']) rfl ?_
  refine asI rfl rfl rfl ?_
  refine rNil ?_
  refine qSeq rfl ?_
  refine hSeq ?_
  refine hReg (sl 0 (sl 1 (sl 2 (sq 3 (sl 4 (sq 5 (sq 6 (sq 7 (sl 8 (sl 9 (sq 10 sz))))))))))) (by kernel_rfl) ?_
  refine ldAl Tryd.isAgg29 Tryd.sizeOf29 (cBs 4 rfl) trv rfl rfl rfl rfl ?_
  refine ldAl Tryd.isAgg31 Tryd.sizeOf31 (cBs 3 rfl) trv rfl rfl rfl rfl ?_
  refine ldAl Tryd.isAgg31 Tryd.sizeOf31 (cBs 2 rfl) trv rfl rfl rfl rfl ?_
  refine mvI rfl rfl rfl ?_
  refine callS Tryd.call8 trv1 rfl rfl (fun w hs => spec_MixStrategies_c _ ny1 cy1 _ _ _ nyw1 cyw1 _ _ _ nyv1 cyv1 _ _ _ _ nyp1 cyp1 _ _ _ _ nyq1 cyq1 _ _ _ w (hs.at_ 5 rfl) (hs.at_ 6 rfl) (hs.at_ 7 rfl) (OwnR.rd (hs.at_ 8 rfl) maK.ok) (hs.at_ 9 rfl)) ?_
  rintro ⟨y03, ay3, ny3, cy3, Hy3, y3, q3⟩ ⟨hr3a, hr3b, hr3c⟩
  dsimp only at hr3a hr3b hr3c
  subst y03
  subst y3
  subst q3
  refine rPieces (L' := [OwnR maK 50 2 ay3 ny3 cy3 Hy3 ((((Math.mixAt y1 yw1 yv1 pl1 yp1 ql1 yq1 qa1).1.2))), blk bka10 31 [.int .i64 ((((Math.mixAt y1 yw1 yv1 pl1 yp1 ql1 yq1 qa1).1.1))), .slice ay2 ny2 cy2], OwnR maK 50 2 ay2 ny2 cy2 Hy2 ((((Math.mixAt y1 yw1 yv1 pl1 yp1 ql1 yq1 qa1).1.2))), blk bka8 31 [.int .i64 ql1, .slice ayq1 nyq1 cyq1], blk bka7 31 [.int .i64 pl1, .slice ayp1 nyp1 cyp1], blk bka6 29 [.slice ay1 ny1 cy1, .slice ayw1 nyw1 cyw1, .slice ayv1 nyv1 cyv1], RdR ndK ay1 ny1 Hy1 y1, RdR maK ayw1 nyw1 Hyw1 yw1, RdR maK ayv1 nyv1 Hyv1 yv1, OwnR maK 50 2 ayp1 nyp1 cyp1 Hyp1 yp1, RdR maK ayq1 nyq1 Hyq1 yq1]) (fun _ h => h) ?_
  refine rKnow (fun w hs => (show OwnR maK 50 2 ay3 ny3 cy3 Hy3 ((((Math.mixAt y1 yw1 yv1 pl1 yp1 ql1 yq1 qa1).1.2))) w from hs.at_ 0 rfl).1) (fun lenn11 => ?_)
  refine rVal (v' := .tuple #[.agg #[.int .i64 ((((Math.mixAt y1 yw1 yv1 pl1 yp1 ql1 yq1 qa1).1.1))), .slice ay3 ny3 cy3], .int .i64 ((((Math.mixAt y1 yw1 yv1 pl1 yp1 ql1 yq1 qa1).2)))]) rfl ?_
  refine mv rfl rfl rfl ?_
  refine ext rfl rfl rfl rfl ?_
  refine ext rfl rfl rfl rfl ?_
  refine alc Tryd.zeroValue31 rfl trv1 rfl rfl (fun bka12 hbka12 => ?_)
  refine stAl (vs := [.int .i64 ((((Math.mixAt y1 yw1 yv1 pl1 yp1 ql1 yq1 qa1).1.1))), .slice ay3 ny3 cy3]) 0 rfl Tryd.sizeOf31 trv rfl rfl rfl rfl rfl (by simp [Value.oneCell']) rfl ?_
  refine asI rfl rfl rfl ?_
  refine rNil ?_
  refine qSeq rfl ?_
  refine hSeq ?_
  refine hReg (sq 0 (sl 1 (sq 2 (sq 3 (sq 4 (sl 5 (sl 6 (sl 7 (sl 8 sz))))))))) (by kernel_rfl) ?_
  refine mvS rfl rfl rfl ?_
  refine callS Tryd.call9 trv1 rfl rfl (fun w hs => spec_DrawStrategyText_c _ _ cc w (Kn.drop (k := 12) kcode w hs) (by assumption)) ?_
  rintro ⟨ay4, ny4, cy4, Hy4, y4, ayw4, nyw4, cyw4, Hyw4, yw4, ayv4, nyv4, cyv4, Hyv4, yv4, pl4, ayp4, nyp4, cyp4, Hyp4, yp4⟩ hr4
  try dsimp only at hr4
  refine rPieces (L' := [RdR ndK ay4 ny4 Hy4 y4, RdR maK ayw4 nyw4 Hyw4 yw4, RdR maK ayv4 nyv4 Hyv4 yv4, OwnR maK 50 2 ayp4 nyp4 cyp4 Hyp4 yp4, blk bka12 31 [.int .i64 ((((Math.mixAt y1 yw1 yv1 pl1 yp1 ql1 yq1 qa1).1.1))), .slice ay3 ny3 cy3], OwnR maK 50 2 ay3 ny3 cy3 Hy3 ((((Math.mixAt y1 yw1 yv1 pl1 yp1 ql1 yq1 qa1).1.2))), blk bka10 31 [.int .i64 ((((Math.mixAt y1 yw1 yv1 pl1 yp1 ql1 yq1 qa1).1.1))), .slice ay2 ny2 cy2], OwnR maK 50 2 ay2 ny2 cy2 Hy2 ((((Math.mixAt y1 yw1 yv1 pl1 yp1 ql1 yq1 qa1).1.2))), blk bka8 31 [.int .i64 ql1, .slice ayq1 nyq1 cyq1], blk bka7 31 [.int .i64 pl1, .slice ayp1 nyp1 cyp1], blk bka6 29 [.slice ay1 ny1 cy1, .slice ayw1 nyw1 cyw1, .slice ayv1 nyv1 cyv1], RdR ndK ay1 ny1 Hy1 y1, RdR maK ayw1 nyw1 Hyw1 yw1, RdR maK ayv1 nyv1 Hyv1 yv1, OwnR maK 50 2 ayp1 nyp1 cyp1 Hyp1 yp1, RdR maK ayq1 nyq1 Hyq1 yq1]) (fun _ h => h) ?_
  refine rKnow (fun w hs => (show RdR ndK ay4 ny4 Hy4 y4 w from hs.at_ 0 rfl).1) (fun lenn13 => ?_)
  refine rKnow (fun w hs => (show RdR maK ayw4 nyw4 Hyw4 yw4 w from hs.at_ 1 rfl).1) (fun lenn14 => ?_)
  refine rKnow (fun w hs => (show RdR maK ayv4 nyv4 Hyv4 yv4 w from hs.at_ 2 rfl).1) (fun lenn15 => ?_)
  refine rKnow (fun w hs => (show OwnR maK 50 2 ayp4 nyp4 cyp4 Hyp4 yp4 w from hs.at_ 3 rfl).1) (fun lenn16 => ?_)
  refine rVal (v' := .tuple #[.agg #[.slice ay4 ny4 cy4, .slice ayw4 nyw4 cyw4, .slice ayv4 nyv4 cyv4], .agg #[.int .i64 pl4, .slice ayp4 nyp4 cyp4]]) rfl ?_
  refine mv rfl rfl rfl ?_
  refine ext rfl rfl rfl rfl ?_
  refine ext rfl rfl rfl rfl ?_
  refine alc Tryd.zeroValue29 rfl trv1 rfl rfl (fun bka17 hbka17 => ?_)
  refine alc Tryd.zeroValue31 rfl trv1 rfl rfl (fun bka18 hbka18 => ?_)
  refine stAl (vs := [.slice ay4 ny4 cy4, .slice ayw4 nyw4 cyw4, .slice ayv4 nyv4 cyv4]) 1 rfl Tryd.sizeOf29 trv rfl rfl rfl rfl rfl (by simp [Value.oneCell']) rfl ?_
  refine stAl (vs := [.int .i64 pl4, .slice ayp4 nyp4 cyp4]) 0 rfl Tryd.sizeOf31 trv rfl rfl rfl rfl rfl (by simp [Value.oneCell']) rfl ?_
  refine rNil ?_
  refine qSeq rfl ?_
  refine hSeq ?_
  refine hReg (sl 0 (sl 1 (sl 2 (sq 3 (sq 4 (sq 5 (sq 6 (sq 7 sz)))))))) (by kernel_rfl) ?_
  refine ldAl Tryd.isAgg29 Tryd.sizeOf29 (cBs 1 rfl) trv rfl rfl rfl rfl ?_
  refine ldAl Tryd.isAgg31 Tryd.sizeOf31 (cBs 0 rfl) trv rfl rfl rfl rfl ?_
  refine callP (v := .tuple #[sv ((Math.stText y4 yw4 yv4 pl4 yp4).1), .int .i64 ((Math.stText y4 yw4 yv4 pl4 yp4).2)]) Tryd.call10 trv rfl rfl (fun w hs => impl_StrategyText_c _ ny4 cy4 _ _ _ nyw4 cyw4 _ _ _ nyv4 cyv4 _ _ _ _ nyp4 cyp4 _ _ w (hs.at_ 2 rfl) (hs.at_ 3 rfl) (hs.at_ 4 rfl) (OwnR.rd (hs.at_ 5 rfl) maK.ok) (Kn.drop (k := 18) ktab w hs)) ?_
  refine mv rfl rfl rfl ?_
  refine ext rfl rfl rfl rfl ?_
  refine ext rfl rfl rfl rfl ?_
  refine asn (v := sv ((Math.stText y4 yw4 yv4 pl4 yp4).1)) rfl rfl rfl ?_
  refine asI rfl rfl rfl ?_
  refine rNil ?_
  refine qSeq rfl ?_
  refine hSeq ?_
  refine hReg (sl 0 (sl 1 (sl 2 (sq 3 (sq 4 (sq 5 (sq 6 (sq 7 sz)))))))) (by kernel_rfl) ?_
  refine ldAl Tryd.isAgg29 Tryd.sizeOf29 (cBs 1 rfl) trv rfl rfl rfl rfl ?_
  refine ldAl Tryd.isAgg31 Tryd.sizeOf31 (cBs 0 rfl) trv rfl rfl rfl rfl ?_
  refine callP (v := .tuple #[sv ((Math.stText y4 yw4 yv4 pl4 yp4).1), .int .i64 ((Math.stText y4 yw4 yv4 pl4 yp4).2)]) Tryd.call11 trv rfl rfl (fun w hs => spec_StrategyText_c _ ny4 cy4 _ _ _ nyw4 cyw4 _ _ _ nyv4 cyv4 _ _ _ _ nyp4 cyp4 _ _ w (hs.at_ 2 rfl) (hs.at_ 3 rfl) (hs.at_ 4 rfl) (OwnR.rd (hs.at_ 5 rfl) maK.ok)) ?_
  refine mv rfl rfl rfl ?_
  refine ext rfl rfl rfl rfl ?_
  refine ext rfl rfl rfl rfl ?_
  refine asn (v := sv ((Math.stText y4 yw4 yv4 pl4 yp4).1)) rfl rfl rfl ?_
  refine asI rfl rfl rfl ?_
  refine rNil ?_
  refine qSeq rfl ?_
  refine hSeq ?_
  refine hSeq ?_
  refine hReg (sq 0 (sq 1 (sq 2 (sq 3 (sl 4 (sl 5 (sl 6 (sq 7 (sq 8 (sq 9 (sq 10 (sq 11 (sq 12 (sq 13 (sq 14 (sq 15 (sq 16 (sq 17 (sq 18 sz))))))))))))))))))) (by kernel_rfl) ?_
  refine mvI rfl rfl rfl ?_
  refine mvI rfl rfl rfl ?_
  refine neq rfl rfl rfl rfl ?_
  refine mvB rfl rfl rfl ?_
  refine rBoolD (d := 68) rfl (fun g2 => ?_) (fun g2 => ?_)
  ·
   replace g2 : (((Math.mixAt y1 yw1 yv1 pl1 yp1 ql1 yq1 qa1).2)) ≠ (((Math.mixAt y1 yw1 yv1 pl1 yp1 ql1 yq1 qa1).2)) := g2
   exact absurd rfl g2
  ·
   replace g2 : ¬ ((((Math.mixAt y1 yw1 yv1 pl1 yp1 ql1 yq1 qa1).2)) ≠ (((Math.mixAt y1 yw1 yv1 pl1 yp1 ql1 yq1 qa1).2))) := g2
   refine ldAl Tryd.isAgg31 Tryd.sizeOf31 (cBs 8 rfl) trv rfl rfl rfl rfl ?_
   refine ldAl Tryd.isAgg31 Tryd.sizeOf31 (cBs 6 rfl) trv rfl rfl rfl rfl ?_
   refine callP (v := .bool true) Tryd.call12 trv rfl rfl (fun w hs => laws_likeStrategies_c _ _ ny2 cy2 _ _ _ _ ny3 cy3 _ _ w (OwnR.rd (hs.at_ 9 rfl) maK.ok) (OwnR.rd (hs.at_ 7 rfl) maK.ok) (by exact ⟨rfl, rfl⟩)) ?_
   refine not rfl rfl rfl ?_
   refine pickB rfl rfl rfl rfl ?_
   refine mvB rfl rfl rfl ?_
   refine mvI rfl rfl rfl ?_
   refine mvI rfl rfl rfl ?_
   refine neq rfl rfl rfl rfl ?_
   refine pickB rfl rfl rfl rfl ?_
   refine mvB rfl rfl rfl ?_
   refine rBoolD (d := 79) rfl (fun g3 => ?_) (fun g3 => ?_)
   ·
    replace g3 : (Math.stText y4 yw4 yv4 pl4 yp4).2 ≠ (Math.stText y4 yw4 yv4 pl4 yp4).2 := g3
    exact absurd rfl g3
   ·
    replace g3 : ¬ ((Math.stText y4 yw4 yv4 pl4 yp4).2 ≠ (Math.stText y4 yw4 yv4 pl4 yp4).2) := g3
    refine mv (v := sv ((Math.stText y4 yw4 yv4 pl4 yp4).1)) rfl rfl rfl ?_
    refine mv (v := sv ((Math.stText y4 yw4 yv4 pl4 yp4).1)) rfl rfl rfl ?_
    refine strNeq rfl rfl rfl rfl ?_
    refine pickB rfl rfl rfl rfl ?_
    refine rNil ?_
    refine qSeq rfl ?_
    refine hIfD rfl (fun c4 => ?_) (fun c4 => ?_)
    ·
     replace c4 : (Math.stText y4 yw4 yv4 pl4 yp4).1 ≠ (Math.stText y4 yw4 yv4 pl4 yp4).1 := c4
     exact absurd rfl c4
    ·
     replace c4 : ¬ ((Math.stText y4 yw4 yv4 pl4 yp4).1 ≠ (Math.stText y4 yw4 yv4 pl4 yp4).1) := c4
     refine hSkip ?_
     refine qSeq rfl ?_
     refine hSeq ?_
     refine hSeq ?_
     refine hReg (sq 0 (sq 1 sz)) (by kernel_rfl) ?_
     refine mvI rfl rfl rfl ?_
     refine neq rfl rfl rfl rfl ?_
     refine rNil ?_
     refine qSeq rfl ?_
     refine hIfD rfl (fun c5 => ?_) (fun c5 => ?_)
     ·
      replace c5 : (((Math.mixAt y1 yw1 yv1 pl1 yp1 ql1 yq1 qa1).2)) ≠ 0 := c5
      refine hSeq ?_
      refine hReg (sq 0 sz) (by kernel_rfl) ?_
      refine asB rfl rfl rfl ?_
      refine rNil ?_
      refine qSeq rfl ?_
      refine hRet ?_
      exact fun w hs => ⟨[.bool true], ⟨rfl, trivial⟩, ⟨by rfl, hs.upd⟩⟩
     ·
      replace c5 : ¬ ((((Math.mixAt y1 yw1 yv1 pl1 yp1 ql1 yq1 qa1).2)) ≠ 0) := c5
      have hma := Math.mix_all (Classical.not_not.1 c5)
      refine hSkip ?_
      refine qSeq rfl ?_
      refine hSeq ?_
      refine hReg (sl 0 (sl 1 (sl 2 (sq 3 (sl 4 (sq 5 (sq 6 (sq 7 (sl 8 (sl 9 (sq 10 sz))))))))))) (by kernel_rfl) ?_
      refine ldAl Tryd.isAgg29 Tryd.sizeOf29 (cBs 12 rfl) trv rfl rfl rfl rfl ?_
      refine ldAl Tryd.isAgg31 Tryd.sizeOf31 (cBs 11 rfl) trv rfl rfl rfl rfl ?_
      refine ldAl Tryd.isAgg31 Tryd.sizeOf31 (cBs 11 rfl) trv rfl rfl rfl rfl ?_
      refine mvI rfl rfl rfl ?_
      refine callS Tryd.call7 trv1 rfl rfl (fun w hs => impl_MixStrategies_c _ ny1 cy1 _ _ _ nyw1 cyw1 _ _ _ nyv1 cyv1 _ _ _ _ nyp1 cyp1 _ _ _ _ nyp1 cyp1 _ _ _ w (hs.at_ 13 rfl) (hs.at_ 14 rfl) (hs.at_ 15 rfl) (OwnR.rd (hs.at_ 16 rfl) maK.ok) (OwnR.rd (hs.at_ 16 rfl) maK.ok)) ?_
      rintro ⟨y05, ay5, ny5, cy5, Hy5, y5, q5⟩ ⟨hr5a, hr5b, hr5c⟩
      dsimp only at hr5a hr5b hr5c
      subst y05
      subst y5
      subst q5
      refine rPieces (L' := [OwnR maK 50 2 ay5 ny5 cy5 Hy5 ((((Math.mixAt y1 yw1 yv1 pl1 yp1 pl1 yp1 qa1).1.2))), blk bka18 31 [.int .i64 pl4, .slice ayp4 nyp4 cyp4], blk bka17 29 [.slice ay4 ny4 cy4, .slice ayw4 nyw4 cyw4, .slice ayv4 nyv4 cyv4], RdR ndK ay4 ny4 Hy4 y4, RdR maK ayw4 nyw4 Hyw4 yw4, RdR maK ayv4 nyv4 Hyv4 yv4, OwnR maK 50 2 ayp4 nyp4 cyp4 Hyp4 yp4, blk bka12 31 [.int .i64 ((((Math.mixAt y1 yw1 yv1 pl1 yp1 ql1 yq1 qa1).1.1))), .slice ay3 ny3 cy3], OwnR maK 50 2 ay3 ny3 cy3 Hy3 ((((Math.mixAt y1 yw1 yv1 pl1 yp1 ql1 yq1 qa1).1.2))), blk bka10 31 [.int .i64 ((((Math.mixAt y1 yw1 yv1 pl1 yp1 ql1 yq1 qa1).1.1))), .slice ay2 ny2 cy2], OwnR maK 50 2 ay2 ny2 cy2 Hy2 ((((Math.mixAt y1 yw1 yv1 pl1 yp1 ql1 yq1 qa1).1.2))), blk bka8 31 [.int .i64 ql1, .slice ayq1 nyq1 cyq1], blk bka7 31 [.int .i64 pl1, .slice ayp1 nyp1 cyp1], blk bka6 29 [.slice ay1 ny1 cy1, .slice ayw1 nyw1 cyw1, .slice ayv1 nyv1 cyv1], RdR ndK ay1 ny1 Hy1 y1, RdR maK ayw1 nyw1 Hyw1 yw1, RdR maK ayv1 nyv1 Hyv1 yv1, OwnR maK 50 2 ayp1 nyp1 cyp1 Hyp1 yp1, RdR maK ayq1 nyq1 Hyq1 yq1]) (fun _ h => h) ?_
      refine rKnow (fun w hs => (show OwnR maK 50 2 ay5 ny5 cy5 Hy5 ((((Math.mixAt y1 yw1 yv1 pl1 yp1 pl1 yp1 qa1).1.2))) w from hs.at_ 0 rfl).1) (fun lenn19 => ?_)
      refine rVal (v' := .tuple #[.agg #[.int .i64 ((((Math.mixAt y1 yw1 yv1 pl1 yp1 pl1 yp1 qa1).1.1))), .slice ay5 ny5 cy5], .int .i64 ((((Math.mixAt y1 yw1 yv1 pl1 yp1 pl1 yp1 qa1).2)))]) rfl ?_
      refine mv rfl rfl rfl ?_
      refine ext rfl rfl rfl rfl ?_
      refine ext rfl rfl rfl rfl ?_
      refine alc Tryd.zeroValue31 rfl trv1 rfl rfl (fun bka20 hbka20 => ?_)
      refine stAl (vs := [.int .i64 ((((Math.mixAt y1 yw1 yv1 pl1 yp1 pl1 yp1 qa1).1.1))), .slice ay5 ny5 cy5]) 0 rfl Tryd.sizeOf31 trv rfl rfl rfl rfl rfl (by simp [Value.oneCell']) rfl ?_
      refine asI rfl rfl rfl ?_
      refine rNil ?_
      refine qSeq rfl ?_
      refine hSeq ?_
      refine hReg (sl 0 (sl 1 (sl 2 (sl 3 (sq 4 (sq 5 (sq 6 (sl 7 (sl 8 (sq 9 sz)))))))))) (by kernel_rfl) ?_
      refine ldAl Tryd.isAgg29 Tryd.sizeOf29 (cBs 14 rfl) trv rfl rfl rfl rfl ?_
      refine ldAl Tryd.isAgg31 Tryd.sizeOf31 (cBs 13 rfl) trv rfl rfl rfl rfl ?_
      refine ldAl Tryd.isAgg31 Tryd.sizeOf31 (cBs 12 rfl) trv rfl rfl rfl rfl ?_
      refine callS Tryd.call7 trv1 rfl rfl (fun w hs => impl_MixStrategies_c _ ny1 cy1 _ _ _ nyw1 cyw1 _ _ _ nyv1 cyv1 _ _ _ _ nyp1 cyp1 _ _ _ _ nyq1 cyq1 _ _ _ w (hs.at_ 15 rfl) (hs.at_ 16 rfl) (hs.at_ 17 rfl) (OwnR.rd (hs.at_ 18 rfl) maK.ok) (hs.at_ 19 rfl)) ?_
      rintro ⟨y06, ay6, ny6, cy6, Hy6, y6, q6⟩ ⟨hr6a, hr6b, hr6c⟩
      dsimp only at hr6a hr6b hr6c
      subst y06
      subst y6
      subst q6
      refine rPieces (L' := [OwnR maK 50 2 ay6 ny6 cy6 Hy6 ((((Math.mixAt y1 yw1 yv1 pl1 yp1 ql1 yq1 (60 : Int)).1.2))), blk bka20 31 [.int .i64 ((((Math.mixAt y1 yw1 yv1 pl1 yp1 pl1 yp1 qa1).1.1))), .slice ay5 ny5 cy5], OwnR maK 50 2 ay5 ny5 cy5 Hy5 ((((Math.mixAt y1 yw1 yv1 pl1 yp1 pl1 yp1 qa1).1.2))), blk bka18 31 [.int .i64 pl4, .slice ayp4 nyp4 cyp4], blk bka17 29 [.slice ay4 ny4 cy4, .slice ayw4 nyw4 cyw4, .slice ayv4 nyv4 cyv4], RdR ndK ay4 ny4 Hy4 y4, RdR maK ayw4 nyw4 Hyw4 yw4, RdR maK ayv4 nyv4 Hyv4 yv4, OwnR maK 50 2 ayp4 nyp4 cyp4 Hyp4 yp4, blk bka12 31 [.int .i64 ((((Math.mixAt y1 yw1 yv1 pl1 yp1 ql1 yq1 qa1).1.1))), .slice ay3 ny3 cy3], OwnR maK 50 2 ay3 ny3 cy3 Hy3 ((((Math.mixAt y1 yw1 yv1 pl1 yp1 ql1 yq1 qa1).1.2))), blk bka10 31 [.int .i64 ((((Math.mixAt y1 yw1 yv1 pl1 yp1 ql1 yq1 qa1).1.1))), .slice ay2 ny2 cy2], OwnR maK 50 2 ay2 ny2 cy2 Hy2 ((((Math.mixAt y1 yw1 yv1 pl1 yp1 ql1 yq1 qa1).1.2))), blk bka8 31 [.int .i64 ql1, .slice ayq1 nyq1 cyq1], blk bka7 31 [.int .i64 pl1, .slice ayp1 nyp1 cyp1], blk bka6 29 [.slice ay1 ny1 cy1, .slice ayw1 nyw1 cyw1, .slice ayv1 nyv1 cyv1], RdR ndK ay1 ny1 Hy1 y1, RdR maK ayw1 nyw1 Hyw1 yw1, RdR maK ayv1 nyv1 Hyv1 yv1, OwnR maK 50 2 ayp1 nyp1 cyp1 Hyp1 yp1, RdR maK ayq1 nyq1 Hyq1 yq1]) (fun _ h => h) ?_
      refine rKnow (fun w hs => (show OwnR maK 50 2 ay6 ny6 cy6 Hy6 ((((Math.mixAt y1 yw1 yv1 pl1 yp1 ql1 yq1 (60 : Int)).1.2))) w from hs.at_ 0 rfl).1) (fun lenn21 => ?_)
      refine rVal (v' := .tuple #[.agg #[.int .i64 ((((Math.mixAt y1 yw1 yv1 pl1 yp1 ql1 yq1 (60 : Int)).1.1))), .slice ay6 ny6 cy6], .int .i64 ((((Math.mixAt y1 yw1 yv1 pl1 yp1 ql1 yq1 (60 : Int)).2)))]) rfl ?_
      refine mv rfl rfl rfl ?_
      refine ext rfl rfl rfl rfl ?_
      refine ext rfl rfl rfl rfl ?_
      refine alc Tryd.zeroValue31 rfl trv1 rfl rfl (fun bka22 hbka22 => ?_)
      refine stAl (vs := [.int .i64 ((((Math.mixAt y1 yw1 yv1 pl1 yp1 ql1 yq1 (60 : Int)).1.1))), .slice ay6 ny6 cy6]) 0 rfl Tryd.sizeOf31 trv rfl rfl rfl rfl rfl (by simp [Value.oneCell']) rfl ?_
      refine asI rfl rfl rfl ?_
      refine rNil ?_
      refine qSeq rfl ?_
      refine hSeq ?_
      refine hReg (sl 0 (sl 1 (sl 2 (sl 3 (sq 4 (sq 5 (sq 6 (sl 7 (sl 8 (sq 9 sz)))))))))) (by kernel_rfl) ?_
      refine ldAl Tryd.isAgg29 Tryd.sizeOf29 (cBs 16 rfl) trv rfl rfl rfl rfl ?_
      refine ldAl Tryd.isAgg31 Tryd.sizeOf31 (cBs 15 rfl) trv rfl rfl rfl rfl ?_
      refine ldAl Tryd.isAgg31 Tryd.sizeOf31 (cBs 14 rfl) trv rfl rfl rfl rfl ?_
      refine callS Tryd.call7 trv1 rfl rfl (fun w hs => impl_MixStrategies_c _ ny1 cy1 _ _ _ nyw1 cyw1 _ _ _ nyv1 cyv1 _ _ _ _ nyp1 cyp1 _ _ _ _ nyq1 cyq1 _ _ _ w (hs.at_ 17 rfl) (hs.at_ 18 rfl) (hs.at_ 19 rfl) (OwnR.rd (hs.at_ 20 rfl) maK.ok) (hs.at_ 21 rfl)) ?_
      rintro ⟨y07, ay7, ny7, cy7, Hy7, y7, q7⟩ ⟨hr7a, hr7b, hr7c⟩
      dsimp only at hr7a hr7b hr7c
      subst y07
      subst y7
      subst q7
      refine rPieces (L' := [OwnR maK 50 2 ay7 ny7 cy7 Hy7 ((((Math.mixAt y1 yw1 yv1 pl1 yp1 ql1 yq1 (0 : Int)).1.2))), blk bka22 31 [.int .i64 ((((Math.mixAt y1 yw1 yv1 pl1 yp1 ql1 yq1 (60 : Int)).1.1))), .slice ay6 ny6 cy6], OwnR maK 50 2 ay6 ny6 cy6 Hy6 ((((Math.mixAt y1 yw1 yv1 pl1 yp1 ql1 yq1 (60 : Int)).1.2))), blk bka20 31 [.int .i64 ((((Math.mixAt y1 yw1 yv1 pl1 yp1 pl1 yp1 qa1).1.1))), .slice ay5 ny5 cy5], OwnR maK 50 2 ay5 ny5 cy5 Hy5 ((((Math.mixAt y1 yw1 yv1 pl1 yp1 pl1 yp1 qa1).1.2))), blk bka18 31 [.int .i64 pl4, .slice ayp4 nyp4 cyp4], blk bka17 29 [.slice ay4 ny4 cy4, .slice ayw4 nyw4 cyw4, .slice ayv4 nyv4 cyv4], RdR ndK ay4 ny4 Hy4 y4, RdR maK ayw4 nyw4 Hyw4 yw4, RdR maK ayv4 nyv4 Hyv4 yv4, OwnR maK 50 2 ayp4 nyp4 cyp4 Hyp4 yp4, blk bka12 31 [.int .i64 ((((Math.mixAt y1 yw1 yv1 pl1 yp1 ql1 yq1 qa1).1.1))), .slice ay3 ny3 cy3], OwnR maK 50 2 ay3 ny3 cy3 Hy3 ((((Math.mixAt y1 yw1 yv1 pl1 yp1 ql1 yq1 qa1).1.2))), blk bka10 31 [.int .i64 ((((Math.mixAt y1 yw1 yv1 pl1 yp1 ql1 yq1 qa1).1.1))), .slice ay2 ny2 cy2], OwnR maK 50 2 ay2 ny2 cy2 Hy2 ((((Math.mixAt y1 yw1 yv1 pl1 yp1 ql1 yq1 qa1).1.2))), blk bka8 31 [.int .i64 ql1, .slice ayq1 nyq1 cyq1], blk bka7 31 [.int .i64 pl1, .slice ayp1 nyp1 cyp1], blk bka6 29 [.slice ay1 ny1 cy1, .slice ayw1 nyw1 cyw1, .slice ayv1 nyv1 cyv1], RdR ndK ay1 ny1 Hy1 y1, RdR maK ayw1 nyw1 Hyw1 yw1, RdR maK ayv1 nyv1 Hyv1 yv1, OwnR maK 50 2 ayp1 nyp1 cyp1 Hyp1 yp1, RdR maK ayq1 nyq1 Hyq1 yq1]) (fun _ h => h) ?_
      refine rKnow (fun w hs => (show OwnR maK 50 2 ay7 ny7 cy7 Hy7 ((((Math.mixAt y1 yw1 yv1 pl1 yp1 ql1 yq1 (0 : Int)).1.2))) w from hs.at_ 0 rfl).1) (fun lenn23 => ?_)
      refine rVal (v' := .tuple #[.agg #[.int .i64 ((((Math.mixAt y1 yw1 yv1 pl1 yp1 ql1 yq1 (0 : Int)).1.1))), .slice ay7 ny7 cy7], .int .i64 ((((Math.mixAt y1 yw1 yv1 pl1 yp1 ql1 yq1 (0 : Int)).2)))]) rfl ?_
      refine mv rfl rfl rfl ?_
      refine ext rfl rfl rfl rfl ?_
      refine ext rfl rfl rfl rfl ?_
      refine alc Tryd.zeroValue31 rfl trv1 rfl rfl (fun bka24 hbka24 => ?_)
      refine stAl (vs := [.int .i64 ((((Math.mixAt y1 yw1 yv1 pl1 yp1 ql1 yq1 (0 : Int)).1.1))), .slice ay7 ny7 cy7]) 0 rfl Tryd.sizeOf31 trv rfl rfl rfl rfl rfl (by simp [Value.oneCell']) rfl ?_
      refine asI rfl rfl rfl ?_
      refine rNil ?_
      refine qSeq rfl ?_
      refine hSeq ?_
      refine hReg (sq 0 (sq 1 (sq 2 (sq 3 (sq 4 (sq 5 (sq 6 (sq 7 (sq 8 (sq 9 (sq 10 (sl 11 (sl 12 (sl 13 (sq 14 (sq 15 (sl 16 (sl 17 (sl 18 (sq 19 (sq 20 (sl 21 (sl 22 (sl 23 (sq 24 (sq 25 (sl 26 (sl 27 (sl 28 (sq 29 (sq 30 sz))))))))))))))))))))))))))))))) (by kernel_rfl) ?_
      refine mvI rfl rfl rfl ?_
      refine eql rfl rfl rfl rfl ?_
      refine mvB rfl rfl rfl ?_
      refine rBoolD (d := 110) rfl (fun g6 => ?_) (fun g6 => ?_)
      ·
       replace g6 : (((Math.mixAt y1 yw1 yv1 pl1 yp1 pl1 yp1 qa1).2)) = 0 := g6
       refine mvI rfl rfl rfl ?_
       refine eql rfl rfl rfl rfl ?_
       refine pickB rfl rfl rfl rfl ?_
       refine mvB rfl rfl rfl ?_
       refine rBoolD (d := 114) rfl (fun g7 => ?_) (fun g7 => ?_)
       ·
        replace g7 : (((Math.mixAt y1 yw1 yv1 pl1 yp1 ql1 yq1 (60 : Int)).2)) = 0 := g7
        refine mvI rfl rfl rfl ?_
        refine eql rfl rfl rfl rfl ?_
        refine pickB rfl rfl rfl rfl ?_
        refine mvB rfl rfl rfl ?_
        refine rBoolD (d := 118) rfl (fun g8 => ?_) (fun g8 => ?_)
        ·
         replace g8 : (((Math.mixAt y1 yw1 yv1 pl1 yp1 ql1 yq1 (0 : Int)).2)) = 0 := g8
         refine ldAl Tryd.isAgg31 Tryd.sizeOf31 (cBs 4 rfl) trv rfl rfl rfl rfl ?_
         refine ldAl Tryd.isAgg31 Tryd.sizeOf31 (cBs 17 rfl) trv rfl rfl rfl rfl ?_
         refine callP (v := .bool ((decide (((((Math.mixAt y1 yw1 yv1 pl1 yp1 pl1 yp1 qa1).1.1))) = pl1) && Math.same ((((Math.mixAt y1 yw1 yv1 pl1 yp1 pl1 yp1 qa1).1.2))) yp1))) Tryd.call12 trv rfl rfl (fun w hs => laws_likeStrategies_x _ _ ny5 cy5 _ _ _ _ nyp1 cyp1 _ _ w (OwnR.rd (hs.at_ 5 rfl) maK.ok) (OwnR.rd (hs.at_ 22 rfl) maK.ok)) ?_
         refine pickB rfl rfl rfl rfl ?_
         refine mvB rfl rfl rfl ?_
         refine rBool (d := 123) rfl (fun g9 => ?_) (fun g9 => ?_)
         ·
          replace g9 : (decide (((((Math.mixAt y1 yw1 yv1 pl1 yp1 pl1 yp1 qa1).1.1))) = pl1) && Math.same ((((Math.mixAt y1 yw1 yv1 pl1 yp1 pl1 yp1 qa1).1.2))) yp1) = true := g9
          refine ldAl Tryd.isAgg31 Tryd.sizeOf31 (cBs 2 rfl) trv rfl rfl rfl rfl ?_
          refine ldAl Tryd.isAgg31 Tryd.sizeOf31 (cBs 17 rfl) trv rfl rfl rfl rfl ?_
          refine callP (v := .bool ((decide (((((Math.mixAt y1 yw1 yv1 pl1 yp1 ql1 yq1 (60 : Int)).1.1))) = pl1) && Math.same ((((Math.mixAt y1 yw1 yv1 pl1 yp1 ql1 yq1 (60 : Int)).1.2))) yp1))) Tryd.call12 trv rfl rfl (fun w hs => laws_likeStrategies_x _ _ ny6 cy6 _ _ _ _ nyp1 cyp1 _ _ w (OwnR.rd (hs.at_ 3 rfl) maK.ok) (OwnR.rd (hs.at_ 22 rfl) maK.ok)) ?_
          refine pickB rfl rfl rfl rfl ?_
          refine mvB rfl rfl rfl ?_
          refine rBool (d := 128) rfl (fun g10 => ?_) (fun g10 => ?_)
          ·
           replace g10 : (decide (((((Math.mixAt y1 yw1 yv1 pl1 yp1 ql1 yq1 (60 : Int)).1.1))) = pl1) && Math.same ((((Math.mixAt y1 yw1 yv1 pl1 yp1 ql1 yq1 (60 : Int)).1.2))) yp1) = true := g10
           refine ldAl Tryd.isAgg31 Tryd.sizeOf31 (cBs 0 rfl) trv rfl rfl rfl rfl ?_
           refine ldAl Tryd.isAgg31 Tryd.sizeOf31 (cBs 16 rfl) trv rfl rfl rfl rfl ?_
           refine callP (v := .bool ((decide (((((Math.mixAt y1 yw1 yv1 pl1 yp1 ql1 yq1 (0 : Int)).1.1))) = ql1) && Math.same ((((Math.mixAt y1 yw1 yv1 pl1 yp1 ql1 yq1 (0 : Int)).1.2))) yq1))) Tryd.call12 trv rfl rfl (fun w hs => laws_likeStrategies_x _ _ ny7 cy7 _ _ _ _ nyq1 cyq1 _ _ w (OwnR.rd (hs.at_ 1 rfl) maK.ok) (hs.at_ 23 rfl)) ?_
           refine pickB rfl rfl rfl rfl ?_
           refine mvB rfl rfl rfl ?_
           refine rBool (d := 133) rfl (fun g11 => ?_) (fun g11 => ?_)
           ·
            replace g11 : (decide (((((Math.mixAt y1 yw1 yv1 pl1 yp1 ql1 yq1 (0 : Int)).1.1))) = ql1) && Math.same ((((Math.mixAt y1 yw1 yv1 pl1 yp1 ql1 yq1 (0 : Int)).1.2))) yq1) = true := g11
            refine ldAl Tryd.isAgg29 Tryd.sizeOf29 (cBs 18 rfl) trv rfl rfl rfl rfl ?_
            refine ldAl Tryd.isAgg31 Tryd.sizeOf31 (cBs 14 rfl) trv rfl rfl rfl rfl ?_
            refine callP (v := .bool ((Math.isStrat y1 yw1 yv1 ((((Math.mixAt y1 yw1 yv1 pl1 yp1 ql1 yq1 qa1).1.1))) ((((Math.mixAt y1 yw1 yv1 pl1 yp1 ql1 yq1 qa1).1.2)))))) Tryd.call13 trv rfl rfl (fun w hs => impl_IsStrategy_c _ ny1 cy1 _ _ _ nyw1 cyw1 _ _ _ nyv1 cyv1 _ _ _ _ ny2 cy2 _ _ w (hs.at_ 19 rfl) (hs.at_ 20 rfl) (hs.at_ 21 rfl) (OwnR.rd (hs.at_ 15 rfl) maK.ok)) ?_
            refine pickB rfl rfl rfl rfl ?_
            refine asB rfl rfl rfl ?_
            refine rNil ?_
            refine qSeq rfl ?_
            refine hRet ?_
            exact fun w hs => ⟨[.bool ((Math.isStrat y1 yw1 yv1 ((((Math.mixAt y1 yw1 yv1 pl1 yp1 ql1 yq1 qa1).1.1))) ((((Math.mixAt y1 yw1 yv1 pl1 yp1 ql1 yq1 qa1).1.2)))))], ⟨rfl, trivial⟩, ⟨by exact bB hma.2.2.2, hs.upd⟩⟩
           ·
            replace g11 : (decide (((((Math.mixAt y1 yw1 yv1 pl1 yp1 ql1 yq1 (0 : Int)).1.1))) = ql1) && Math.same ((((Math.mixAt y1 yw1 yv1 pl1 yp1 ql1 yq1 (0 : Int)).1.2))) yq1) = false := g11
            exact absurd g11 (by rw [hma.2.2.1]; simp [Math.same])
          ·
           replace g10 : (decide (((((Math.mixAt y1 yw1 yv1 pl1 yp1 ql1 yq1 (60 : Int)).1.1))) = pl1) && Math.same ((((Math.mixAt y1 yw1 yv1 pl1 yp1 ql1 yq1 (60 : Int)).1.2))) yp1) = false := g10
           exact absurd g10 (by rw [hma.2.1]; simp [Math.same])
         ·
          replace g9 : (decide (((((Math.mixAt y1 yw1 yv1 pl1 yp1 pl1 yp1 qa1).1.1))) = pl1) && Math.same ((((Math.mixAt y1 yw1 yv1 pl1 yp1 pl1 yp1 qa1).1.2))) yp1) = false := g9
          exact absurd g9 (by rw [hma.1]; simp [Math.same])
        ·
         replace g8 : ¬ ((((Math.mixAt y1 yw1 yv1 pl1 yp1 ql1 yq1 (0 : Int)).2)) = 0) := g8
         exact absurd (by rw [hma.2.2.1]) g8
       ·
        replace g7 : ¬ ((((Math.mixAt y1 yw1 yv1 pl1 yp1 ql1 yq1 (60 : Int)).2)) = 0) := g7
        exact absurd (by rw [hma.2.1]) g7
      ·
       replace g6 : ¬ ((((Math.mixAt y1 yw1 yv1 pl1 yp1 pl1 yp1 qa1).2)) = 0) := g6
       exact absurd (by rw [hma.1]) g6
theorem cells5 : Tryd.prog.cellsOf 5 = 1 := by kernel_rfl
set_option maxHeartbeats 2000000 in
theorem fnMixed_lifted (os : Os) (started : os.Started) (H : Type) (enc : TypeId × Value → H) :
  ReturnsInHanded {} Tryd.checked os 3 .any (fun w args => (Rows.fnMixedSpec.pre enc Tryd.prog Tryd.f3 Rows.fnMixedRow.domain false w args ∧ laidMetH Tryd.prog Rows.fnMixedRow.laid w) ∧ sizedMet enc Tryd.prog Tryd.f3 (OpenSpec.ofChange Rows.fnMixedSpec) false w args) (Rows.fnMixedSpec.post enc Tryd.prog Tryd.f3 false true false false) := by
 refine returnsInHanded_of_change_and (C := Tryd.checked) (X := fun w _ => laidMetH Tryd.prog Rows.fnMixedRow.laid w) (fun _ _ _ hh h => h.of_heap hh) own started (by kernel_rfl) Tryd.func3
  (ChangeSpec.witness_shaped (enc := enc) (C := Tryd.checked) (os := os) (X := fun w _ => laidMetH Tryd.prog Rows.fnMixedRow.laid w) false (World.laidAll Tryd.prog os Rows.fnMixedRow.laid) #[.slice none 0 0] 8 (World.laidAll_os _ _ _)
   (World.shaped_of_ZipB (by kernel_rfl) (by kernel_rfl)) (by kernel_rfl) (by kernel_rfl) (by kernel_rfl)
   (by rw [MakeChecks.laidMetH_plain _ _ _ (by kernel_rfl)]; exact laidMet_laidAll _ (by kernel_rfl) (by kernel_rfl))) ?_
 intro W base args ds gs before hval0 hW hcnd _ hL _
 have hval : ∀ (j : Nat) t v, Tryd.f3.params[j]? = some t → args[j]? = some v → Value.okWide Tryd.prog W .any base t v := hval0
 have hW' := hW
 obtain ⟨p, q, hA0, hV, rfl, hfz, hnd⟩ := hW
 have hA : DataW.TrodAll enc Tryd.prog W 0 (fun _ => true) true Tryd.f3.params.toList args.toList ds p := hA0
 rw [Tryd.params3] at hA hval
 obtain ⟨v0, vs0, d0, ds0, p0, q0, hargs, rfl, rfl, h0, r0⟩ := trodAll_cons hA
 obtain ⟨rfl, rfl, rfl⟩ := trodAll_nil r0
 obtain rfl : args = #[v0] := by cases args; simp_all
 obtain ⟨rfl, rfl⟩ := trodVars_none hV
 obtain ⟨ca, bs, cc, rfl, hwf, hmax, hca⟩ := open_slice_ints Tryd.underlying22 Tryd.underlying5 cells5 (hval 0 22 v0 rfl rfl) h0
 rw [MakeChecks.laidMetH_plain _ _ _ (by kernel_rfl)] at hL
 have htab : TabP W := tab_of_laid hL
 refine (laws_FnMixed_c ca bs cc W hca htab hwf).mono fun e W' ⟨v, he, hv, hx⟩ => ?_
 subst he; subst hv
 exact ⟨_, rfl, law_post (tb := 4) hW' rfl rfl Tryd.underlying4 rfl rfl rfl (by kernel_rfl) hx⟩
theorem fnMixed_said : Rows.FnMixedSaid :=
 OpenClaim.holds_of_wide 3 Tryd.f3 rfl rfl rfl rfl rfl rfl rfl ⟨rfl, rfl, rfl, rfl, rfl⟩ rfl rfl rfl rfl rfl (by kernel_rfl) Tryd.func3 (by kernel_rfl)
  (of_decide_eq_true (by kernel_rfl)) (by unfold Func.isWrapper; first | (rw [if_pos (by decide +kernel)]; kernel_rfl) | (rw [if_neg (by decide +kernel)]; exact ⟨rfl, rfl⟩))
  (fun os started H enc _ => fnMixed_lifted os started H enc)
theorem fnMixed_holds : Rows.FnMixedCardSaid :=
 Claim7.holds_tied_plain_at .later [] [.data, .data, .data] true (true, "7a75c735fb0a2551848e1d757fef301137d27a755cc5cbdc4277a3f2da2f1ff4") false fnMixed_said (fun _ h => by cases h) (by kernel_rfl) (fun _ h => by cases h) fnMixed_row_tie rfl ⟨rfl, rfl⟩ (by kernel_rfl) rfl
  (fun f fn hf hfn => by
   obtain rfl : f = 3 := Option.some.inj ((show Tryd.prog.funcNamed "loop.example/g00910/laws.FnMixed" = some 3 by kernel_rfl).symm.trans hf) |>.symm
   obtain rfl : fn = Tryd.f3 := (Option.some.inj (Tryd.func3.symm.trans hfn)).symm
   exact ⟨by kernel_rfl, fun j t ht => by
    rw [Tryd.params3] at ht
    have hm : t ∈ [22] := by simpa using Array.mem_of_getElem? ht
    have hall : ([22].all fun u => !Tryd.prog.wantsStandIn u) = true := by kernel_rfl
    exact (show Tryd.prog.wantsStandIn t = false by simpa using List.all_eq_true.1 hall t hm)⟩)
  (by kernel_rfl)
#print axioms fnMixed_holds
end Go.Proofs.YtjengglpbdgmnaaDoor
