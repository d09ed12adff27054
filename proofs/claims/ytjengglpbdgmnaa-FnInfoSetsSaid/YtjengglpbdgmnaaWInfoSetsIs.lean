/- The law FnInfoSets returns true for all arguments. No condition. -/
import Derived.Test.YtjengglpbdgmnaaEngCIs
import Derived.Test.YtjengglpbdgmnaaFrameIs
import Derived.Test.YtjengglpbdgmnaaFrmIs
import Derived.Test.YtjengglpbdgmnaaTreeIs
import Derived.Test.YtjengglpbdgmnaaGameIs
import Derived.Test.YtjengglpbdgmnaaSetsIs
import Derived.Test.YtjengglpbdgmnaaHighIs
import Derived.Test.YtjengglpbdgmnaaGrowIs
import Derived.Test.YtjengglpbdgmnaaBetIs
import Derived.Test.YtjengglpbdgmnaaDrawIs
import Derived.Test.YtjengglpbdgmnaaCopyIs
import Derived.Test.YtjengglpbdgmnaaSrc0Is
import Derived.Test.YtjengglpbdgmnaaSrcIs
import Derived.Test.YtjengglpbdgmnaaSrc2Is
import Derived.Test.YtjengglpbdgmnaaSrcWIs
import Derived.Test.YtjengglpbdgmnaaL1Is
import Derived.Test.YtjengglpbdgmnaaL2Is
import Derived.Test.YtjengglpbdgmnaaL3Is
import Derived.Test.YtjengglpbdgmnaaLTIs
import Derived.Test.YtjengglpbdgmnaaLIIs
import Derived.Test.YtjengglpbdgmnaaLJIs
import Derived.Test.YtjengglpbdgmnaaL4Is
import Derived.Test.YtjengglpbdgmnaaL5Is
import Derived.Test.YtjengglpbdgmnaaL6Is
import Derived.Test.YtjengglpbdgmnaaLCIs
import Derived.Test.YtjengglpbdgmnaaLSIs
import Derived.Test.YtjengglpbdgmnaaLZIs
import Derived.Test.YtjengglpbdgmnaaLVIs
import Derived.Test.YtjengglpbdgmnaaLJ2Is
import Derived.Test.YtjengglpbdgmnaaPartsIs
import Derived.Test.YtjengglpbdgmnaaUniIs
import Derived.Test.YtjengglpbdgmnaaStrIs
import Derived.Test.YtjengglpbdgmnaaLPIs
import Derived.Test.YtjengglpbdgmnaaLUIs
import Derived.Test.YtjengglpbdgmnaaRows
namespace Go.Proofs.Ytjengglpbdgmnaa
open Go Go.RowKit V Go.ChangeShapes Go.WideShapes Go.ChangeAt
set_option linter.unusedVariables false
set_option linter.unusedSimpArgs false
set_option maxRecDepth 100000
set_option maxHeartbeats 4000000 in
theorem laws_FnInfoSets_c (ca : Option Addr) (bs : List Int) (cc : Nat) (w : World) (rcode : CellsAt ca (bs.map (Value.int .u8)) w) (hb : ∀ n ∈ bs, (Lit.int .u8 n).wf = true) :
  Calls Try.prog 6 #[.slice ca bs.length cc] w (Ret fun v w' => v = .bool true ∧ Ext w w') := by
 have kcode : Kn w none_ [] (CellsAt ca (bs.map (Value.int .u8))) := fun w' hs => rcode.ext hs.upd
 refine fn (M := none_) (rs := [.tmp 2]) Try.func6 rfl Try.ntmps6 rfl rfl (Sep.start _ _) ?_
 refine hSeq ?_
 refine hReg (sq 0 sz) (by kernel_rfl) ?_
 refine asB rfl rfl rfl ?_
 refine rNil ?_
 refine qSeq rfl ?_
 refine hSeq ?_
 refine hSeq ?_
 refine hReg (sq 0 (sl 1 sz)) (by kernel_rfl) ?_
 refine mvS rfl rfl rfl ?_
 refine callP (v := .bool (decide (4096 < ((bs.length : Nat) : Int)))) Try.call12 trv rfl rfl (fun w hs => laws_big_c _ _ cc w (kcode w hs)) ?_
 refine rNil ?_
 refine qSeq rfl ?_
 refine hIfD rfl (fun c1 => ?_) (fun c1 => ?_)
 ·
  replace c1 : 4096 < ((bs.length : Nat) : Int) := c1
  refine hSeq ?_
  refine hReg (sq 0 sz) (by kernel_rfl) ?_
  refine asB rfl rfl rfl ?_
  refine rNil ?_
  refine qSeq rfl ?_
  refine hRet ?_
  exact fun w hs => ⟨[.bool true], ⟨rfl, trivial⟩, ⟨by first | rfl | exact (bT hpr).symm, hs.upd⟩⟩
 ·
  replace c1 : ¬ (4096 < ((bs.length : Nat) : Int)) := c1
  have hok : okBytes bs := ⟨fun x hx => bounds_u8 (hb x hx), by omega⟩
  refine hSkip ?_
  refine qSeq rfl ?_
  refine hSeq ?_
  refine hReg (sq 0 (sl 1 (sq 2 (sq 3 (sq 4 (sl 5 (sl 6 (sq 7 sz)))))))) (by kernel_rfl) ?_
  refine mvS rfl rfl rfl ?_
  refine callS Try.call39 trv1 rfl rfl (fun w hs => spec_DrawInfoSets_c _ _ cc w (kcode w hs) (by assumption)) ?_
  rintro ⟨ay1, ny1, cy1, Hy1, y1, ayw1, nyw1, cyw1, Hyw1, yw1, ayv1, nyv1, cyv1, Hyv1, yv1, q1⟩ hr1
  try dsimp only at hr1
  refine rPieces (L' := [RdR ndK ay1 ny1 Hy1 y1, RdR maK ayw1 nyw1 Hyw1 yw1, RdR maK ayv1 nyv1 Hyv1 yv1]) (fun _ h => h) ?_
  refine rKnow (fun w hs => (show RdR ndK ay1 ny1 Hy1 y1 w from hs.at_ 0 rfl).1) (fun lenn1 => ?_)
  refine rKnow (fun w hs => (show RdR maK ayw1 nyw1 Hyw1 yw1 w from hs.at_ 1 rfl).1) (fun lenn2 => ?_)
  refine rKnow (fun w hs => (show RdR maK ayv1 nyv1 Hyv1 yv1 w from hs.at_ 2 rfl).1) (fun lenn3 => ?_)
  refine mv rfl rfl rfl ?_
  refine ext rfl rfl rfl rfl ?_
  refine ext rfl rfl rfl rfl ?_
  refine alc Try.zeroValue43 rfl trv1 rfl rfl (fun bka4 hbka4 => ?_)
  refine stAl (vs := [.slice ay1 ny1 cy1, .slice ayw1 nyw1 cyw1, .slice ayv1 nyv1 cyv1]) 0 rfl Try.sizeOf43 trv rfl rfl rfl rfl rfl (by simp [Value.oneCell']) rfl ?_
  refine asI rfl rfl rfl ?_
  refine rNil ?_
  refine qSeq rfl ?_
  refine hSeq ?_
  refine hReg (sl 0 (sq 1 (sl 2 (sq 3 (sq 4 (sq 5 (sq 6 (sq 7 sz)))))))) (by kernel_rfl) ?_
  refine ldAl Try.isAgg43 Try.sizeOf43 (cBs 0 rfl) trv rfl rfl rfl rfl ?_
  refine mvI rfl rfl rfl ?_
  refine callS Try.call40 trv1 rfl rfl (fun w hs => impl_InfoSets_c _ ny1 cy1 _ _ _ nyw1 cyw1 _ _ _ nyv1 cyv1 _ _ _ w (hs.at_ 1 rfl) (hs.at_ 2 rfl) (hs.at_ 3 rfl)) ?_
  rintro ⟨ay2, ny2, cy2, Hy2, y2, q2⟩ ⟨hr2a, hr2b⟩
  dsimp only at hr2a hr2b
  subst y2
  subst q2
  refine rPieces (L' := [OwnR maK 28 2 ay2 ny2 cy2 Hy2 ((((Math.setsAt y1 yw1 yv1 q1).1))), blk bka4 43 [.slice ay1 ny1 cy1, .slice ayw1 nyw1 cyw1, .slice ayv1 nyv1 cyv1], RdR ndK ay1 ny1 Hy1 y1, RdR maK ayw1 nyw1 Hyw1 yw1, RdR maK ayv1 nyv1 Hyv1 yv1]) (fun _ h => h) ?_
  refine rKnow (fun w hs => (show OwnR maK 28 2 ay2 ny2 cy2 Hy2 ((((Math.setsAt y1 yw1 yv1 q1).1))) w from hs.at_ 0 rfl).1) (fun lenn5 => ?_)
  refine mv rfl rfl rfl ?_
  refine ext rfl rfl rfl rfl ?_
  refine ext rfl rfl rfl rfl ?_
  refine asS rfl rfl rfl ?_
  refine asI rfl rfl rfl ?_
  refine rNil ?_
  refine qSeq rfl ?_
  refine hSeq ?_
  refine hReg (sl 0 (sq 1 (sl 2 (sq 3 (sq 4 (sq 5 (sq 6 (sq 7 sz)))))))) (by kernel_rfl) ?_
  refine ldAl Try.isAgg43 Try.sizeOf43 (cBs 1 rfl) trv rfl rfl rfl rfl ?_
  refine mvI rfl rfl rfl ?_
  refine callS Try.call41 trv1 rfl rfl (fun w hs => spec_InfoSets_c _ ny1 cy1 _ _ _ nyw1 cyw1 _ _ _ nyv1 cyv1 _ _ _ w (hs.at_ 2 rfl) (hs.at_ 3 rfl) (hs.at_ 4 rfl)) ?_
  rintro ⟨ay3, ny3, cy3, Hy3, y3, q3⟩ ⟨hr3a, hr3b⟩
  dsimp only at hr3a hr3b
  subst y3
  subst q3
  refine rPieces (L' := [OwnR maK 28 2 ay3 ny3 cy3 Hy3 ((((Math.setsAt y1 yw1 yv1 q1).1))), OwnR maK 28 2 ay2 ny2 cy2 Hy2 ((((Math.setsAt y1 yw1 yv1 q1).1))), blk bka4 43 [.slice ay1 ny1 cy1, .slice ayw1 nyw1 cyw1, .slice ayv1 nyv1 cyv1], RdR ndK ay1 ny1 Hy1 y1, RdR maK ayw1 nyw1 Hyw1 yw1, RdR maK ayv1 nyv1 Hyv1 yv1]) (fun _ h => h) ?_
  refine rKnow (fun w hs => (show OwnR maK 28 2 ay3 ny3 cy3 Hy3 ((((Math.setsAt y1 yw1 yv1 q1).1))) w from hs.at_ 0 rfl).1) (fun lenn6 => ?_)
  refine mv rfl rfl rfl ?_
  refine ext rfl rfl rfl rfl ?_
  refine ext rfl rfl rfl rfl ?_
  refine asS rfl rfl rfl ?_
  refine asI rfl rfl rfl ?_
  refine rNil ?_
  refine qSeq rfl ?_
  refine hSeq ?_
  refine hReg (sq 0 (sl 1 (sq 2 (sq 3 (sq 4 (sl 5 (sl 6 (sq 7 sz)))))))) (by kernel_rfl) ?_
  refine mvS rfl rfl rfl ?_
  refine callS Try.call42 trv1 rfl rfl (fun w hs => spec_DrawUniformStrategy_c _ _ cc w (Kn.drop (k := 6) kcode w hs) (by assumption)) ?_
  rintro ⟨ay4, ny4, cy4, Hy4, y4, ayw4, nyw4, cyw4, Hyw4, yw4, ayv4, nyv4, cyv4, Hyv4, yv4, q4⟩ hr4
  try dsimp only at hr4
  refine rPieces (L' := [RdR ndK ay4 ny4 Hy4 y4, RdR maK ayw4 nyw4 Hyw4 yw4, RdR maK ayv4 nyv4 Hyv4 yv4, OwnR maK 28 2 ay3 ny3 cy3 Hy3 ((((Math.setsAt y1 yw1 yv1 q1).1))), OwnR maK 28 2 ay2 ny2 cy2 Hy2 ((((Math.setsAt y1 yw1 yv1 q1).1))), blk bka4 43 [.slice ay1 ny1 cy1, .slice ayw1 nyw1 cyw1, .slice ayv1 nyv1 cyv1], RdR ndK ay1 ny1 Hy1 y1, RdR maK ayw1 nyw1 Hyw1 yw1, RdR maK ayv1 nyv1 Hyv1 yv1]) (fun _ h => h) ?_
  refine rKnow (fun w hs => (show RdR ndK ay4 ny4 Hy4 y4 w from hs.at_ 0 rfl).1) (fun lenn7 => ?_)
  refine rKnow (fun w hs => (show RdR maK ayw4 nyw4 Hyw4 yw4 w from hs.at_ 1 rfl).1) (fun lenn8 => ?_)
  refine rKnow (fun w hs => (show RdR maK ayv4 nyv4 Hyv4 yv4 w from hs.at_ 2 rfl).1) (fun lenn9 => ?_)
  refine mv rfl rfl rfl ?_
  refine ext rfl rfl rfl rfl ?_
  refine ext rfl rfl rfl rfl ?_
  refine alc Try.zeroValue43 rfl trv1 rfl rfl (fun bka10 hbka10 => ?_)
  refine stAl (vs := [.slice ay4 ny4 cy4, .slice ayw4 nyw4 cyw4, .slice ayv4 nyv4 cyv4]) 0 rfl Try.sizeOf43 trv rfl rfl rfl rfl rfl (by simp [Value.oneCell']) rfl ?_
  refine asI rfl rfl rfl ?_
  refine rNil ?_
  refine qSeq rfl ?_
  refine hSeq ?_
  refine hReg (sl 0 (sq 1 (sl 2 (sq 3 (sq 4 (sq 5 (sl 6 (sl 7 (sq 8 sz))))))))) (by kernel_rfl) ?_
  refine ldAl Try.isAgg43 Try.sizeOf43 (cBs 0 rfl) trv rfl rfl rfl rfl ?_
  refine mvI rfl rfl rfl ?_
  refine callS Try.call43 trv1 rfl rfl (fun w hs => impl_UniformStrategy_c _ ny4 cy4 _ _ _ nyw4 cyw4 _ _ _ nyv4 cyv4 _ _ _ w (hs.at_ 1 rfl) (hs.at_ 2 rfl) (hs.at_ 3 rfl)) ?_
  rintro ⟨pl5, ay5, ny5, cy5, Hy5, y5, q5⟩ ⟨hr5a, hr5b, hr5c⟩
  dsimp only at hr5a hr5b hr5c
  subst pl5
  subst y5
  subst q5
  refine rPieces (L' := [OwnR maK 28 2 ay5 ny5 cy5 Hy5 ((((Math.unifAt y4 yw4 yv4 q4).1.2))), blk bka10 43 [.slice ay4 ny4 cy4, .slice ayw4 nyw4 cyw4, .slice ayv4 nyv4 cyv4], RdR ndK ay4 ny4 Hy4 y4, RdR maK ayw4 nyw4 Hyw4 yw4, RdR maK ayv4 nyv4 Hyv4 yv4, OwnR maK 28 2 ay3 ny3 cy3 Hy3 ((((Math.setsAt y1 yw1 yv1 q1).1))), OwnR maK 28 2 ay2 ny2 cy2 Hy2 ((((Math.setsAt y1 yw1 yv1 q1).1))), blk bka4 43 [.slice ay1 ny1 cy1, .slice ayw1 nyw1 cyw1, .slice ayv1 nyv1 cyv1], RdR ndK ay1 ny1 Hy1 y1, RdR maK ayw1 nyw1 Hyw1 yw1, RdR maK ayv1 nyv1 Hyv1 yv1]) (fun _ h => h) ?_
  refine rKnow (fun w hs => (show OwnR maK 28 2 ay5 ny5 cy5 Hy5 ((((Math.unifAt y4 yw4 yv4 q4).1.2))) w from hs.at_ 0 rfl).1) (fun lenn11 => ?_)
  refine mv rfl rfl rfl ?_
  refine ext rfl rfl rfl rfl ?_
  refine ext rfl rfl rfl rfl ?_
  refine alc Try.zeroValue56 rfl trv1 rfl rfl (fun bka12 hbka12 => ?_)
  refine stAl (vs := [.int .i64 ((((Math.unifAt y4 yw4 yv4 q4).1.1))), .slice ay5 ny5 cy5]) 0 rfl Try.sizeOf56 trv rfl rfl rfl rfl rfl (by simp [Value.oneCell']) rfl ?_
  refine asI rfl rfl rfl ?_
  refine rNil ?_
  refine qSeq rfl ?_
  refine hSeq ?_
  refine hReg (sl 0 (sq 1 (sl 2 (sq 3 (sq 4 (sq 5 (sl 6 (sl 7 (sq 8 sz))))))))) (by kernel_rfl) ?_
  refine ldAl Try.isAgg43 Try.sizeOf43 (cBs 2 rfl) trv rfl rfl rfl rfl ?_
  refine mvI rfl rfl rfl ?_
  refine callS Try.call44 trv1 rfl rfl (fun w hs => spec_UniformStrategy_c _ ny4 cy4 _ _ _ nyw4 cyw4 _ _ _ nyv4 cyv4 _ _ _ w (hs.at_ 3 rfl) (hs.at_ 4 rfl) (hs.at_ 5 rfl)) ?_
  rintro ⟨pl6, ay6, ny6, cy6, Hy6, y6, q6⟩ ⟨hr6a, hr6b, hr6c⟩
  dsimp only at hr6a hr6b hr6c
  subst pl6
  subst y6
  subst q6
  refine rPieces (L' := [OwnR maK 28 2 ay6 ny6 cy6 Hy6 ((((Math.unifAt y4 yw4 yv4 q4).1.2))), blk bka12 56 [.int .i64 ((((Math.unifAt y4 yw4 yv4 q4).1.1))), .slice ay5 ny5 cy5], OwnR maK 28 2 ay5 ny5 cy5 Hy5 ((((Math.unifAt y4 yw4 yv4 q4).1.2))), blk bka10 43 [.slice ay4 ny4 cy4, .slice ayw4 nyw4 cyw4, .slice ayv4 nyv4 cyv4], RdR ndK ay4 ny4 Hy4 y4, RdR maK ayw4 nyw4 Hyw4 yw4, RdR maK ayv4 nyv4 Hyv4 yv4, OwnR maK 28 2 ay3 ny3 cy3 Hy3 ((((Math.setsAt y1 yw1 yv1 q1).1))), OwnR maK 28 2 ay2 ny2 cy2 Hy2 ((((Math.setsAt y1 yw1 yv1 q1).1))), blk bka4 43 [.slice ay1 ny1 cy1, .slice ayw1 nyw1 cyw1, .slice ayv1 nyv1 cyv1], RdR ndK ay1 ny1 Hy1 y1, RdR maK ayw1 nyw1 Hyw1 yw1, RdR maK ayv1 nyv1 Hyv1 yv1]) (fun _ h => h) ?_
  refine rKnow (fun w hs => (show OwnR maK 28 2 ay6 ny6 cy6 Hy6 ((((Math.unifAt y4 yw4 yv4 q4).1.2))) w from hs.at_ 0 rfl).1) (fun lenn13 => ?_)
  refine mv rfl rfl rfl ?_
  refine ext rfl rfl rfl rfl ?_
  refine ext rfl rfl rfl rfl ?_
  refine alc Try.zeroValue56 rfl trv1 rfl rfl (fun bka14 hbka14 => ?_)
  refine stAl (vs := [.int .i64 ((((Math.unifAt y4 yw4 yv4 q4).1.1))), .slice ay6 ny6 cy6]) 0 rfl Try.sizeOf56 trv rfl rfl rfl rfl rfl (by simp [Value.oneCell']) rfl ?_
  refine asI rfl rfl rfl ?_
  refine rNil ?_
  refine qSeq rfl ?_
  refine hSeq ?_
  refine hSeq ?_
  refine hReg (sq 0 (sq 1 (sq 2 (sq 3 (sq 4 (sq 5 (sl 6 (sq 7 (sq 8 (sq 9 (sq 10 (sq 11 (sq 12 (sq 13 (sq 14 (sl 15 (sl 16 (sl 17 (sq 18 (sq 19 (sq 20 (sq 21 (sq 22 (sq 23 (sl 24 (sl 25 (sl 26 (sq 27 (sq 28 (sq 29 sz)))))))))))))))))))))))))))))) (by kernel_rfl) ?_
  refine mvI rfl rfl rfl ?_
  refine mvI rfl rfl rfl ?_
  refine neq rfl rfl rfl rfl ?_
  refine mvB rfl rfl rfl ?_
  refine rBoolD (d := 56) rfl (fun g2 => ?_) (fun g2 => ?_)
  ·
   replace g2 : (((Math.setsAt y1 yw1 yv1 q1).2)) ≠ (((Math.setsAt y1 yw1 yv1 q1).2)) := g2
   exact absurd rfl g2
  ·
   replace g2 : ¬ ((((Math.setsAt y1 yw1 yv1 q1).2)) ≠ (((Math.setsAt y1 yw1 yv1 q1).2))) := g2
   refine mvS rfl rfl rfl ?_
   refine mvS rfl rfl rfl ?_
   refine callP (v := .bool true) Try.call45 trv rfl rfl (fun w hs => laws_likeLists_c _ ny2 cy2 _ _ _ ny3 cy3 _ _ w (OwnR.rd (hs.at_ 9 rfl) maK.ok) (OwnR.rd (hs.at_ 8 rfl) maK.ok) (by first | rfl | assumption | (rw [heq]) | (simp only [*]))) ?_
   refine not rfl rfl rfl ?_
   refine pickB rfl rfl rfl rfl ?_
   refine mvB rfl rfl rfl ?_
   refine mvI rfl rfl rfl ?_
   refine mvI rfl rfl rfl ?_
   refine neq rfl rfl rfl rfl ?_
   refine pickB rfl rfl rfl rfl ?_
   refine mvB rfl rfl rfl ?_
   refine rBoolD (d := 67) rfl (fun g3 => ?_) (fun g3 => ?_)
   ·
    replace g3 : (((Math.unifAt y4 yw4 yv4 q4).2)) ≠ (((Math.unifAt y4 yw4 yv4 q4).2)) := g3
    exact absurd rfl g3
   ·
    replace g3 : ¬ ((((Math.unifAt y4 yw4 yv4 q4).2)) ≠ (((Math.unifAt y4 yw4 yv4 q4).2))) := g3
    refine ldAl Try.isAgg56 Try.sizeOf56 (cBs 2 rfl) trv rfl rfl rfl rfl ?_
    refine ldAl Try.isAgg56 Try.sizeOf56 (cBs 0 rfl) trv rfl rfl rfl rfl ?_
    refine callP (v := .bool true) Try.call46 trv rfl rfl (fun w hs => laws_likeStrategies_c _ _ ny5 cy5 _ _ _ _ ny6 cy6 _ _ w (OwnR.rd (hs.at_ 3 rfl) maK.ok) (OwnR.rd (hs.at_ 1 rfl) maK.ok) (by exact ⟨rfl, rfl⟩)) ?_
    refine not rfl rfl rfl ?_
    refine pickB rfl rfl rfl rfl ?_
    refine mvB rfl rfl rfl ?_
    refine mvI rfl rfl rfl ?_
    refine eql rfl rfl rfl rfl ?_
    refine mvB rfl rfl rfl ?_
    refine rBoolD (d := 76) rfl (fun g4 => ?_) (fun g4 => ?_)
    ·
     replace g4 : (((Math.unifAt y4 yw4 yv4 q4).2)) = 0 := g4
     refine ldAl Try.isAgg43 Try.sizeOf43 (cBs 4 rfl) trv rfl rfl rfl rfl ?_
     refine ldAl Try.isAgg56 Try.sizeOf56 (cBs 2 rfl) trv rfl rfl rfl rfl ?_
     refine callP (v := .bool ((Math.isStrat y4 yw4 yv4 ((((Math.unifAt y4 yw4 yv4 q4).1.1))) ((((Math.unifAt y4 yw4 yv4 q4).1.2)))))) Try.call47 trv rfl rfl (fun w hs => impl_IsStrategy_c _ ny4 cy4 _ _ _ nyw4 cyw4 _ _ _ nyv4 cyv4 _ _ _ _ ny5 cy5 _ _ w (hs.at_ 5 rfl) (hs.at_ 6 rfl) (hs.at_ 7 rfl) (OwnR.rd (hs.at_ 3 rfl) maK.ok)) ?_
     refine not rfl rfl rfl ?_
     refine pickB rfl rfl rfl rfl ?_
     refine pickB rfl rfl rfl rfl ?_
     refine rNil ?_
     refine qSeq rfl ?_
     refine hIfN rfl (fun c5 => ?_) (fun c5 => ?_)
     ·
      replace c5 : (Math.isStrat y4 yw4 yv4 ((((Math.unifAt y4 yw4 yv4 q4).1.1))) ((((Math.unifAt y4 yw4 yv4 q4).1.2)))) = false := c5
      exact absurd (Math.unif_ok g4) (by rw [c5]; decide)
     ·
      replace c5 : (Math.isStrat y4 yw4 yv4 ((((Math.unifAt y4 yw4 yv4 q4).1.1))) ((((Math.unifAt y4 yw4 yv4 q4).1.2)))) = true := c5
      refine hSkip ?_
      refine qSeq rfl ?_
      refine hSeq ?_
      refine hSeq ?_
      refine hReg (sq 0 (sq 1 sz)) (by kernel_rfl) ?_
      refine mvI rfl rfl rfl ?_
      refine neq rfl rfl rfl rfl ?_
      refine rNil ?_
      refine qSeq rfl ?_
      refine hIfD rfl (fun c6 => ?_) (fun c6 => ?_)
      ·
       replace c6 : (((Math.setsAt y1 yw1 yv1 q1).2)) ≠ 0 := c6
       refine hSeq ?_
       refine hReg (sq 0 sz) (by kernel_rfl) ?_
       refine asB rfl rfl rfl ?_
       refine rNil ?_
       refine qSeq rfl ?_
       refine hRet ?_
       exact fun w hs => ⟨[.bool true], ⟨rfl, trivial⟩, ⟨by first | rfl | exact (bT hpr).symm, hs.upd⟩⟩
      ·
       replace c6 : ¬ ((((Math.setsAt y1 yw1 yv1 q1).2)) ≠ 0) := c6
       have hsc := Math.sets_count (Classical.not_not.1 c6)
       have hsb := Math.setsAt_bd y1 yw1 yv1 q1
       refine hSkip ?_
       refine qSeq rfl ?_
       refine hSeq ?_
       refine hReg (sq 0 (sl 1 (sq 2 (sl 3 (sq 4 (sq 5 (sq 6 (sq 7 (sq 8 sz))))))))) (by kernel_rfl) ?_
       refine fld fl43_0 rfl rfl rfl ?_
       refine ldAl Try.isAgg26 Try.sizeOf26 (cBp (m := 1) 10 rfl rfl) trv rfl rfl rfl rfl ?_
       refine mvI rfl rfl rfl ?_
       refine callS Try.call17 trv1 rfl rfl (fun w hs => impl_DecisionsOf_c _ ny1 cy1 _ _ _ w (hs.at_ 11 rfl)) ?_
       rintro ⟨ay7, ny7, cy7, y7, q7⟩ ⟨hr7a, hr7b⟩
       dsimp only at hr7a hr7b
       subst y7
       subst q7
       refine rPieces (L' := [OwnI 2 ay7 ny7 cy7 ((((Math.decsOf y1 q1).1))), blk bka14 56 [.int .i64 ((((Math.unifAt y4 yw4 yv4 q4).1.1))), .slice ay6 ny6 cy6], OwnR maK 28 2 ay6 ny6 cy6 Hy6 ((((Math.unifAt y4 yw4 yv4 q4).1.2))), blk bka12 56 [.int .i64 ((((Math.unifAt y4 yw4 yv4 q4).1.1))), .slice ay5 ny5 cy5], OwnR maK 28 2 ay5 ny5 cy5 Hy5 ((((Math.unifAt y4 yw4 yv4 q4).1.2))), blk bka10 43 [.slice ay4 ny4 cy4, .slice ayw4 nyw4 cyw4, .slice ayv4 nyv4 cyv4], RdR ndK ay4 ny4 Hy4 y4, RdR maK ayw4 nyw4 Hyw4 yw4, RdR maK ayv4 nyv4 Hyv4 yv4, OwnR maK 28 2 ay3 ny3 cy3 Hy3 ((((Math.setsAt y1 yw1 yv1 q1).1))), OwnR maK 28 2 ay2 ny2 cy2 Hy2 ((((Math.setsAt y1 yw1 yv1 q1).1))), blk bka4 43 [.slice ay1 ny1 cy1, .slice ayw1 nyw1 cyw1, .slice ayv1 nyv1 cyv1], RdR ndK ay1 ny1 Hy1 y1, RdR maK ayw1 nyw1 Hyw1 yw1, RdR maK ayv1 nyv1 Hyv1 yv1]) (fun _ h => h) ?_
       refine rKnow (fun w hs => (show OwnI 2 ay7 ny7 cy7 ((((Math.decsOf y1 q1).1))) w from hs.at_ 0 rfl).lenz) (fun lenn15 => ?_)
       refine mv rfl rfl rfl ?_
       refine ext rfl rfl rfl rfl ?_
       refine ext rfl rfl rfl rfl ?_
       refine asS rfl rfl rfl ?_
       refine asI rfl rfl rfl ?_
       refine rNil ?_
       refine qSeq rfl ?_
       refine hSeq ?_
       refine hReg (sq 0 (sq 1 (sq 2 (sq 3 (sq 4 (sq 5 (sq 6 (sq 7 (sl 8 (sq 9 (sq 10 (sq 11 (sq 12 (sq 13 sz)))))))))))))) (by kernel_rfl) ?_
       refine mvI rfl rfl rfl ?_
       refine eql rfl rfl rfl rfl ?_
       refine mvB rfl rfl rfl ?_
       refine rBoolD (d := 94) rfl (fun g7 => ?_) (fun g7 => ?_)
       ·
        replace g7 : (((Math.decsOf y1 q1).2)) = 0 := g7
        have hpr : ((ny2 : Nat) : Int) = ((ny7 : Nat) : Int) * ((nyw1 : Nat) : Int) := by rw [← lenn5, ← lenn15, ← lenn2, hsc.2.1]; exact Int.natCast_mul _ _
        refine mvS rfl rfl rfl ?_
        refine lenS Try.runUnderlying41 rfl rfl rfl ?_
        refine mvS rfl rfl rfl ?_
        refine lenS Try.runUnderlying28 rfl rfl rfl ?_
        refine fld fl43_1 rfl rfl rfl ?_
        refine ldl Try.isAgg41 (cB 11 rfl rfl) trv rfl rfl rfl ?_
        refine lenS Try.runUnderlying41 rfl rfl rfl ?_
        refine mul rfl rfl rfl rfl (by first | omega | (dsimp only; omega)) ?_
        refine eql rfl rfl rfl rfl ?_
        refine pickB rfl rfl rfl rfl ?_
        refine asB rfl rfl rfl ?_
        refine rNil ?_
        refine qSeq rfl ?_
        refine hRet ?_
        exact fun w hs => ⟨[.bool (decide ((ny2 : Int) = ((ny7 : Int) * (nyw1 : Int))))], ⟨rfl, trivial⟩, ⟨by first | rfl | exact (bT hpr).symm, hs.upd⟩⟩
       ·
        replace g7 : ¬ ((((Math.decsOf y1 q1).2)) = 0) := g7
        exact absurd hsc.1 g7
    ·
     replace g4 : ¬ ((((Math.unifAt y4 yw4 yv4 q4).2)) = 0) := g4
     refine rSkipL trv rfl rfl ?_
     refine rSkipL trv rfl rfl ?_
     refine rSkipL trv rfl rfl ?_
     refine rSkipQ rfl rfl ?_
     refine pickB rfl rfl rfl rfl ?_
     refine pickB rfl rfl rfl rfl ?_
     refine rNil ?_
     refine qSeq rfl ?_
     refine hIfF rfl ?_
     refine hSkip ?_
     refine qSeq rfl ?_
     refine hSeq ?_
     refine hSeq ?_
     refine hReg (sq 0 (sq 1 sz)) (by kernel_rfl) ?_
     refine mvI rfl rfl rfl ?_
     refine neq rfl rfl rfl rfl ?_
     refine rNil ?_
     refine qSeq rfl ?_
     refine hIfD rfl (fun c8 => ?_) (fun c8 => ?_)
     ·
      replace c8 : (((Math.setsAt y1 yw1 yv1 q1).2)) ≠ 0 := c8
      refine hSeq ?_
      refine hReg (sq 0 sz) (by kernel_rfl) ?_
      refine asB rfl rfl rfl ?_
      refine rNil ?_
      refine qSeq rfl ?_
      refine hRet ?_
      exact fun w hs => ⟨[.bool true], ⟨rfl, trivial⟩, ⟨by first | rfl | exact (bT hpr).symm, hs.upd⟩⟩
     ·
      replace c8 : ¬ ((((Math.setsAt y1 yw1 yv1 q1).2)) ≠ 0) := c8
      have hsc := Math.sets_count (Classical.not_not.1 c8)
      have hsb := Math.setsAt_bd y1 yw1 yv1 q1
      refine hSkip ?_
      refine qSeq rfl ?_
      refine hSeq ?_
      refine hReg (sq 0 (sl 1 (sq 2 (sl 3 (sq 4 (sq 5 (sq 6 (sq 7 (sq 8 sz))))))))) (by kernel_rfl) ?_
      refine fld fl43_0 rfl rfl rfl ?_
      refine ldAl Try.isAgg26 Try.sizeOf26 (cBp (m := 1) 10 rfl rfl) trv rfl rfl rfl rfl ?_
      refine mvI rfl rfl rfl ?_
      refine callS Try.call17 trv1 rfl rfl (fun w hs => impl_DecisionsOf_c _ ny1 cy1 _ _ _ w (hs.at_ 11 rfl)) ?_
      rintro ⟨ay8, ny8, cy8, y8, q8⟩ ⟨hr8a, hr8b⟩
      dsimp only at hr8a hr8b
      subst y8
      subst q8
      refine rPieces (L' := [OwnI 2 ay8 ny8 cy8 ((((Math.decsOf y1 q1).1))), blk bka14 56 [.int .i64 ((((Math.unifAt y4 yw4 yv4 q4).1.1))), .slice ay6 ny6 cy6], OwnR maK 28 2 ay6 ny6 cy6 Hy6 ((((Math.unifAt y4 yw4 yv4 q4).1.2))), blk bka12 56 [.int .i64 ((((Math.unifAt y4 yw4 yv4 q4).1.1))), .slice ay5 ny5 cy5], OwnR maK 28 2 ay5 ny5 cy5 Hy5 ((((Math.unifAt y4 yw4 yv4 q4).1.2))), blk bka10 43 [.slice ay4 ny4 cy4, .slice ayw4 nyw4 cyw4, .slice ayv4 nyv4 cyv4], RdR ndK ay4 ny4 Hy4 y4, RdR maK ayw4 nyw4 Hyw4 yw4, RdR maK ayv4 nyv4 Hyv4 yv4, OwnR maK 28 2 ay3 ny3 cy3 Hy3 ((((Math.setsAt y1 yw1 yv1 q1).1))), OwnR maK 28 2 ay2 ny2 cy2 Hy2 ((((Math.setsAt y1 yw1 yv1 q1).1))), blk bka4 43 [.slice ay1 ny1 cy1, .slice ayw1 nyw1 cyw1, .slice ayv1 nyv1 cyv1], RdR ndK ay1 ny1 Hy1 y1, RdR maK ayw1 nyw1 Hyw1 yw1, RdR maK ayv1 nyv1 Hyv1 yv1]) (fun _ h => h) ?_
      refine rKnow (fun w hs => (show OwnI 2 ay8 ny8 cy8 ((((Math.decsOf y1 q1).1))) w from hs.at_ 0 rfl).lenz) (fun lenn16 => ?_)
      refine mv rfl rfl rfl ?_
      refine ext rfl rfl rfl rfl ?_
      refine ext rfl rfl rfl rfl ?_
      refine asS rfl rfl rfl ?_
      refine asI rfl rfl rfl ?_
      refine rNil ?_
      refine qSeq rfl ?_
      refine hSeq ?_
      refine hReg (sq 0 (sq 1 (sq 2 (sq 3 (sq 4 (sq 5 (sq 6 (sq 7 (sl 8 (sq 9 (sq 10 (sq 11 (sq 12 (sq 13 sz)))))))))))))) (by kernel_rfl) ?_
      refine mvI rfl rfl rfl ?_
      refine eql rfl rfl rfl rfl ?_
      refine mvB rfl rfl rfl ?_
      refine rBoolD (d := 94) rfl (fun g9 => ?_) (fun g9 => ?_)
      ·
       replace g9 : (((Math.decsOf y1 q1).2)) = 0 := g9
       have hpr : ((ny2 : Nat) : Int) = ((ny8 : Nat) : Int) * ((nyw1 : Nat) : Int) := by rw [← lenn5, ← lenn16, ← lenn2, hsc.2.1]; exact Int.natCast_mul _ _
       refine mvS rfl rfl rfl ?_
       refine lenS Try.runUnderlying41 rfl rfl rfl ?_
       refine mvS rfl rfl rfl ?_
       refine lenS Try.runUnderlying28 rfl rfl rfl ?_
       refine fld fl43_1 rfl rfl rfl ?_
       refine ldl Try.isAgg41 (cB 11 rfl rfl) trv rfl rfl rfl ?_
       refine lenS Try.runUnderlying41 rfl rfl rfl ?_
       refine mul rfl rfl rfl rfl (by first | omega | (dsimp only; omega)) ?_
       refine eql rfl rfl rfl rfl ?_
       refine pickB rfl rfl rfl rfl ?_
       refine asB rfl rfl rfl ?_
       refine rNil ?_
       refine qSeq rfl ?_
       refine hRet ?_
       exact fun w hs => ⟨[.bool (decide ((ny2 : Int) = ((ny8 : Int) * (nyw1 : Int))))], ⟨rfl, trivial⟩, ⟨by first | rfl | exact (bT hpr).symm, hs.upd⟩⟩
      ·
       replace g9 : ¬ ((((Math.decsOf y1 q1).2)) = 0) := g9
       exact absurd hsc.1 g9
theorem cells5 : Try.prog.cellsOf 5 = 1 := by kernel_rfl
set_option maxHeartbeats 2000000 in
theorem fnInfoSets_lifted (os : Os) (started : os.Started) (H : Type) (enc : TypeId × Value → H) :
  ReturnsInHanded {} Try.checked os 6 .any (Rows.fnInfoSetsSpec.pre6 enc Try.prog Try.f6 Rows.fnInfoSetsRow.domain false) (Rows.fnInfoSetsSpec.post enc Try.prog Try.f6 false true false false) := by
 refine returnsInHanded_of_change (C := Try.checked) own started (by kernel_rfl) Try.func6
  (ChangeSpec.witness6 (enc := enc) (C := Try.checked) false ⟨#[], #[.slice none 0 0], []⟩ 8 (by kernel_rfl) (by kernel_rfl) (by kernel_rfl) (by kernel_rfl)) ?_
 intro W base args ds gs before hval0 hW hcnd _
 have hval : ∀ (j : Nat) t v, Try.f6.params[j]? = some t → args[j]? = some v → Value.okWide Try.prog W .any base t v := hval0
 have hW' := hW
 obtain ⟨p, q, hA0, hV, rfl, hfz, hnd⟩ := hW
 have hA : DataW.TrodAll enc Try.prog W 0 (fun _ => true) true Try.f6.params.toList args.toList ds p := hA0
 rw [Try.params6] at hA hval
 obtain ⟨v0, vs0, d0, ds0, p0, q0, hargs, rfl, rfl, h0, r0⟩ := trodAll_cons hA
 obtain ⟨rfl, rfl, rfl⟩ := trodAll_nil r0
 obtain rfl : args = #[v0] := by cases args; simp_all
 obtain ⟨rfl, rfl⟩ := trodVars_none hV
 obtain ⟨ca, bs, cc, rfl, hwf, hmax, hca⟩ := open_slice_ints Try.underlying22 Try.underlying5 cells5 (hval 0 22 v0 rfl rfl) h0
 refine (laws_FnInfoSets_c ca bs cc W hca hwf).mono fun e W' ⟨v, he, hv, hx⟩ => ?_
 subst he; subst hv
 exact ⟨_, rfl, law_post (tb := 4) hW' rfl rfl Try.underlying4 rfl rfl rfl (by kernel_rfl) hx⟩
theorem fnInfoSets_holds : Rows.FnInfoSetsSaid :=
 OpenClaim.holds_of_wide 6 Try.f6 rfl rfl rfl rfl rfl rfl rfl ⟨rfl, rfl, rfl, rfl, rfl⟩ rfl rfl rfl rfl rfl (by kernel_rfl) Try.func6 (by kernel_rfl)
  (of_decide_eq_true (by kernel_rfl)) (by unfold Func.isWrapper; first | (rw [if_pos (by decide +kernel)]; kernel_rfl) | (rw [if_neg (by decide +kernel)]; exact ⟨rfl, rfl⟩))
  (fun os started H enc _ => fnInfoSets_lifted os started H enc)
#print axioms fnInfoSets_holds
end Go.Proofs.Ytjengglpbdgmnaa
