/- The law FnWays returns true for all arguments. No condition. -/
import Derived.Test.YtjengglpbdgmnaaEngC
import Derived.Test.YtjengglpbdgmnaaFrame
import Derived.Test.YtjengglpbdgmnaaFrm
import Derived.Test.YtjengglpbdgmnaaTree
import Derived.Test.YtjengglpbdgmnaaGame
import Derived.Test.YtjengglpbdgmnaaSets
import Derived.Test.YtjengglpbdgmnaaHigh
import Derived.Test.YtjengglpbdgmnaaGrow
import Derived.Test.YtjengglpbdgmnaaBet
import Derived.Test.YtjengglpbdgmnaaDraw
import Derived.Test.YtjengglpbdgmnaaCopy
import Derived.Test.YtjengglpbdgmnaaSrc0
import Derived.Test.YtjengglpbdgmnaaSrc
import Derived.Test.YtjengglpbdgmnaaSrc2
import Derived.Test.YtjengglpbdgmnaaSrcW
import Derived.Test.YtjengglpbdgmnaaL1
import Derived.Test.YtjengglpbdgmnaaL2
import Derived.Test.YtjengglpbdgmnaaL3
import Derived.Test.YtjengglpbdgmnaaLT
import Derived.Test.YtjengglpbdgmnaaLI
import Derived.Test.YtjengglpbdgmnaaLJ
import Derived.Test.YtjengglpbdgmnaaParts
import Derived.Test.YtjengglpbdgmnaaWay
import Derived.Test.YtjengglpbdgmnaaVal
import Derived.Test.YtjengglpbdgmnaaDraw2
import Derived.Test.YtjengglpbdgmnaaLP
import Derived.Test.YtjengglpbdgmnaaLW
import Derived.Test.YtjengglpbdgmnaaRows
namespace Go.Proofs.Ytjengglpbdgmnaa
open Go Go.RowKit V Go.ChangeShapes Go.WideShapes Go.ChangeAt
set_option linter.unusedVariables false
set_option linter.unusedSimpArgs false
set_option maxRecDepth 100000



set_option maxHeartbeats 4000000 in
theorem laws_FnWays_c (ca : Option Addr) (bs : List Int) (cc : Nat) (w : World) (rcode : CellsAt ca (bs.map (Value.int .u8)) w) (hb : ∀ n ∈ bs, (Lit.int .u8 n).wf = true) :
    Calls Try.prog 4 #[.slice ca bs.length cc] w (Ret fun v w' => v = .bool true ∧ Ext w w') := by
  have kcode : Kn w none_ [] (CellsAt ca (bs.map (Value.int .u8))) := fun w' hs => rcode.ext hs.upd
  refine fn (M := none_) (rs := [.tmp 2]) Try.func4 rfl Try.ntmps4 rfl rfl (Sep.start _ _) ?_
  refine hSeq ?_
  refine hReg (sq 0 sz) (by kernel_rfl) ?_
  refine asB rfl rfl rfl ?_
  refine rNil ?_
  refine qSeq rfl ?_
  refine hSeq ?_
  refine hSeq ?_
  refine hReg (sq 0 (sl 1 sz)) (by kernel_rfl) ?_
  refine mvS rfl rfl rfl ?_
  refine callP (v := .bool (decide (4096 < ((bs.length : Nat) : Int)))) Try.call12 trv rfl rfl (fun w hs => laws_big_c _ _ cc w (kcode w hs)) ?_
  refine rNil ?_
  refine qSeq rfl ?_
  refine hIfD rfl (fun c1 => ?_) (fun c1 => ?_)
  · -- c1T
    replace c1 : 4096 < ((bs.length : Nat) : Int) := c1
    refine hSeq ?_
    refine hReg (sq 0 sz) (by kernel_rfl) ?_
    refine asB rfl rfl rfl ?_
    refine rNil ?_
    refine qSeq rfl ?_
    refine hRet ?_
    exact fun w hs => ⟨[.bool true], ⟨rfl, trivial⟩, ⟨by first | rfl | exact (bT (by omega)).symm, hs.upd⟩⟩
  · -- c1F
    replace c1 : ¬ (4096 < ((bs.length : Nat) : Int)) := c1
    have hok : okBytes bs := ⟨fun x hx => bounds_u8 (hb x hx), by omega⟩
    refine hSkip ?_
    refine qSeq rfl ?_
    refine hSeq ?_
    refine hReg (sq 0 (sl 1 (sq 2 (sq 3 (sq 4 (sl 5 (sl 6 (sq 7 sz)))))))) (by kernel_rfl) ?_
    refine mvS rfl rfl rfl ?_
    refine callS Try.call22 trv1 rfl rfl (fun w hs => spec_DrawWayTo_c _ _ cc w (kcode w hs) (by assumption)) ?_
    rintro ⟨ay1, ny1, cy1, Hy1, y1, q1⟩ hr1
    try dsimp only at hr1
    refine rPieces (L' := [RdR ndK ay1 ny1 Hy1 y1]) (fun _ h => h) ?_
    refine rKnow (fun w hs => (show RdR ndK ay1 ny1 Hy1 y1 w from hs.at_ 0 rfl).1) (fun lenn1 => ?_)
    refine mv rfl rfl rfl ?_
    refine ext rfl rfl rfl rfl ?_
    refine ext rfl rfl rfl rfl ?_
    refine alc Try.zeroValue26 rfl trv1 rfl rfl (fun bka2 hbka2 => ?_)
    refine stAl (vs := [.slice ay1 ny1 cy1]) 0 rfl Try.sizeOf26 trv rfl rfl rfl rfl rfl (by simp [Value.oneCell']) rfl ?_
    refine asI rfl rfl rfl ?_
    refine rNil ?_
    refine qSeq rfl ?_
    refine hSeq ?_
    refine hReg (sl 0 (sq 1 (sl 2 (sq 3 (sq 4 (sq 5 (sq 6 (sq 7 sz)))))))) (by kernel_rfl) ?_
    refine ldAl Try.isAgg26 Try.sizeOf26 (cBs 0 rfl) trv rfl rfl rfl rfl ?_
    refine mvI rfl rfl rfl ?_
    refine callS Try.call23 trv1 rfl rfl (fun w hs => impl_WayTo_c _ ny1 cy1 _ _ _ w (hs.at_ 1 rfl)) ?_
    rintro ⟨ay2, ny2, cy2, y2, q2⟩ ⟨hr2a, hr2b⟩
    dsimp only at hr2a hr2b
    subst y2
    subst q2
    refine rPieces (L' := [OwnI 2 ay2 ny2 cy2 ((((Math.wayAt y1 q1).1))), blk bka2 26 [.slice ay1 ny1 cy1], RdR ndK ay1 ny1 Hy1 y1]) (fun _ h => h) ?_
    refine rKnow (fun w hs => (show OwnI 2 ay2 ny2 cy2 ((((Math.wayAt y1 q1).1))) w from hs.at_ 0 rfl).lenz) (fun lenn3 => ?_)
    refine mv rfl rfl rfl ?_
    refine ext rfl rfl rfl rfl ?_
    refine ext rfl rfl rfl rfl ?_
    refine asS rfl rfl rfl ?_
    refine asI rfl rfl rfl ?_
    refine rNil ?_
    refine qSeq rfl ?_
    refine hSeq ?_
    refine hReg (sl 0 (sq 1 (sl 2 (sq 3 (sq 4 (sq 5 (sq 6 (sq 7 sz)))))))) (by kernel_rfl) ?_
    refine ldAl Try.isAgg26 Try.sizeOf26 (cBs 1 rfl) trv rfl rfl rfl rfl ?_
    refine mvI rfl rfl rfl ?_
    refine callS Try.call24 trv1 rfl rfl (fun w hs => spec_WayTo_c _ ny1 cy1 _ _ _ w (hs.at_ 2 rfl)) ?_
    rintro ⟨ay3, ny3, cy3, y3, q3⟩ ⟨hr3a, hr3b⟩
    dsimp only at hr3a hr3b
    subst y3
    subst q3
    refine rPieces (L' := [OwnI 2 ay3 ny3 cy3 ((((Math.wayAt y1 q1).1))), OwnI 2 ay2 ny2 cy2 ((((Math.wayAt y1 q1).1))), blk bka2 26 [.slice ay1 ny1 cy1], RdR ndK ay1 ny1 Hy1 y1]) (fun _ h => h) ?_
    refine rKnow (fun w hs => (show OwnI 2 ay3 ny3 cy3 ((((Math.wayAt y1 q1).1))) w from hs.at_ 0 rfl).lenz) (fun lenn4 => ?_)
    refine mv rfl rfl rfl ?_
    refine ext rfl rfl rfl rfl ?_
    refine ext rfl rfl rfl rfl ?_
    refine asS rfl rfl rfl ?_
    refine asI rfl rfl rfl ?_
    refine rNil ?_
    refine qSeq rfl ?_
    refine hSeq ?_
    refine hReg (sq 0 (sl 1 (sq 2 (sq 3 (sq 4 (sl 5 (sl 6 (sq 7 sz)))))))) (by kernel_rfl) ?_
    refine mvS rfl rfl rfl ?_
    refine callS Try.call25 trv1 rfl rfl (fun w hs => spec_DrawNodeBy_c _ _ cc w (Kn.drop (k := 4) kcode w hs) (by assumption)) ?_
    rintro ⟨ay4, ny4, cy4, Hy4, y4, ayw4, nyw4, cyw4, yw4⟩ hr4
    try dsimp only at hr4
    refine rPieces (L' := [RdR ndK ay4 ny4 Hy4 y4, OwnI 2 ayw4 nyw4 cyw4 yw4, OwnI 2 ay3 ny3 cy3 ((((Math.wayAt y1 q1).1))), OwnI 2 ay2 ny2 cy2 ((((Math.wayAt y1 q1).1))), blk bka2 26 [.slice ay1 ny1 cy1], RdR ndK ay1 ny1 Hy1 y1]) (fun _ h => h) ?_
    refine rKnow (fun w hs => (show RdR ndK ay4 ny4 Hy4 y4 w from hs.at_ 0 rfl).1) (fun lenn5 => ?_)
    refine rKnow (fun w hs => (show OwnI 2 ayw4 nyw4 cyw4 yw4 w from hs.at_ 1 rfl).lenz) (fun lenn6 => ?_)
    refine mv rfl rfl rfl ?_
    refine ext rfl rfl rfl rfl ?_
    refine ext rfl rfl rfl rfl ?_
    refine alc Try.zeroValue26 rfl trv1 rfl rfl (fun bka7 hbka7 => ?_)
    refine stAl (vs := [.slice ay4 ny4 cy4]) 0 rfl Try.sizeOf26 trv rfl rfl rfl rfl rfl (by simp [Value.oneCell']) rfl ?_
    refine asS rfl rfl rfl ?_
    refine rNil ?_
    refine qSeq rfl ?_
    refine hSeq ?_
    refine hReg (sl 0 (sq 1 (sl 2 (sq 3 (sq 4 (sq 5 (sq 6 (sq 7 sz)))))))) (by kernel_rfl) ?_
    refine ldAl Try.isAgg26 Try.sizeOf26 (cBs 0 rfl) trv rfl rfl rfl rfl ?_
    refine mvS rfl rfl rfl ?_
    refine callP (v := .tuple #[.int .i64 ((Math.nodeBy y4 yw4).1), .int .i64 ((Math.nodeBy y4 yw4).2)]) Try.call26 trv rfl rfl (fun w hs => impl_NodeBy_c _ ny4 cy4 _ _ _ nyw4 cyw4 _ w (hs.at_ 1 rfl) (OwnI.rd (hs.at_ 2 rfl))) ?_
    refine mv rfl rfl rfl ?_
    refine ext rfl rfl rfl rfl ?_
    refine ext rfl rfl rfl rfl ?_
    refine asI rfl rfl rfl ?_
    refine asI rfl rfl rfl ?_
    refine rNil ?_
    refine qSeq rfl ?_
    refine hSeq ?_
    refine hReg (sl 0 (sq 1 (sl 2 (sq 3 (sq 4 (sq 5 (sq 6 (sq 7 sz)))))))) (by kernel_rfl) ?_
    refine ldAl Try.isAgg26 Try.sizeOf26 (cBs 0 rfl) trv rfl rfl rfl rfl ?_
    refine mvS rfl rfl rfl ?_
    refine callP (v := .tuple #[.int .i64 ((Math.nodeBy y4 yw4).1), .int .i64 ((Math.nodeBy y4 yw4).2)]) Try.call27 trv rfl rfl (fun w hs => spec_NodeBy_c _ ny4 cy4 _ _ _ nyw4 cyw4 _ w (hs.at_ 1 rfl) (OwnI.rd (hs.at_ 2 rfl))) ?_
    refine mv rfl rfl rfl ?_
    refine ext rfl rfl rfl rfl ?_
    refine ext rfl rfl rfl rfl ?_
    refine asI rfl rfl rfl ?_
    refine asI rfl rfl rfl ?_
    refine rNil ?_
    refine qSeq rfl ?_
    refine hSeq ?_
    refine hReg (sq 0 (sl 1 (sl 2 (sl 3 sz)))) (by kernel_rfl) ?_
    refine mvS rfl rfl rfl ?_
    refine callS Try.call28 trv1 rfl rfl (fun w hs => spec_DrawDepthOf_c _ _ cc w (Kn.drop (k := 7) kcode w hs) (by assumption)) ?_
    rintro ⟨ay5, ny5, cy5, Hy5, y5⟩ hr5
    try dsimp only at hr5
    refine rPieces (L' := [RdR ndK ay5 ny5 Hy5 y5, blk bka7 26 [.slice ay4 ny4 cy4], RdR ndK ay4 ny4 Hy4 y4, OwnI 2 ayw4 nyw4 cyw4 yw4, OwnI 2 ay3 ny3 cy3 ((((Math.wayAt y1 q1).1))), OwnI 2 ay2 ny2 cy2 ((((Math.wayAt y1 q1).1))), blk bka2 26 [.slice ay1 ny1 cy1], RdR ndK ay1 ny1 Hy1 y1]) (fun _ h => h) ?_
    refine rKnow (fun w hs => (show RdR ndK ay5 ny5 Hy5 y5 w from hs.at_ 0 rfl).1) (fun lenn8 => ?_)
    refine alc Try.zeroValue26 rfl trv1 rfl rfl (fun bka9 hbka9 => ?_)
    refine stAl (vs := [.slice ay5 ny5 cy5]) 0 rfl Try.sizeOf26 trv rfl rfl rfl rfl rfl (by simp [Value.oneCell']) rfl ?_
    refine rNil ?_
    refine qSeq rfl ?_
    refine hSeq ?_
    refine hReg (sl 0 (sl 1 (sq 2 (sq 3 (sq 4 (sq 5 (sq 6 sz))))))) (by kernel_rfl) ?_
    refine ldAl Try.isAgg26 Try.sizeOf26 (cBs 0 rfl) trv rfl rfl rfl rfl ?_
    refine callP (v := .tuple #[.int .i64 ((Math.depthOf y5).1), .int .i64 ((Math.depthOf y5).2)]) Try.call29 trv rfl rfl (fun w hs => impl_DepthOf_c _ ny5 cy5 _ _ w (hs.at_ 1 rfl)) ?_
    refine mv rfl rfl rfl ?_
    refine ext rfl rfl rfl rfl ?_
    refine ext rfl rfl rfl rfl ?_
    refine asI rfl rfl rfl ?_
    refine asI rfl rfl rfl ?_
    refine rNil ?_
    refine qSeq rfl ?_
    refine hSeq ?_
    refine hReg (sl 0 (sl 1 (sq 2 (sq 3 (sq 4 (sq 5 (sq 6 sz))))))) (by kernel_rfl) ?_
    refine ldAl Try.isAgg26 Try.sizeOf26 (cBs 0 rfl) trv rfl rfl rfl rfl ?_
    refine callP (v := .tuple #[.int .i64 ((Math.depthOf y5).1), .int .i64 ((Math.depthOf y5).2)]) Try.call30 trv rfl rfl (fun w hs => spec_DepthOf_c _ ny5 cy5 _ _ w (hs.at_ 1 rfl)) ?_
    refine mv rfl rfl rfl ?_
    refine ext rfl rfl rfl rfl ?_
    refine ext rfl rfl rfl rfl ?_
    refine asI rfl rfl rfl ?_
    refine asI rfl rfl rfl ?_
    refine rNil ?_
    refine qSeq rfl ?_
    refine hSeq ?_
    refine hSeq ?_
    refine hReg (sq 0 (sq 1 (sq 2 (sq 3 (sq 4 (sq 5 (sl 6 (sq 7 (sq 8 (sq 9 (sq 10 (sq 11 (sq 12 (sq 13 (sq 14 (sq 15 (sq 16 (sq 17 (sq 18 (sq 19 (sq 20 (sq 21 (sq 22 (sq 23 (sq 24 (sq 25 (sq 26 (sq 27 (sq 28 sz))))))))))))))))))))))))))))) (by kernel_rfl) ?_
    refine mvI rfl rfl rfl ?_
    refine mvI rfl rfl rfl ?_
    refine neq rfl rfl rfl rfl ?_
    refine mvB rfl rfl rfl ?_
    refine rBoolD (d := 75) rfl (fun g2 => ?_) (fun g2 => ?_)
    · -- g2T
      replace g2 : (((Math.wayAt y1 q1).2)) ≠ (((Math.wayAt y1 q1).2)) := g2
      exact absurd rfl g2
    · -- g2F
      replace g2 : ¬ ((((Math.wayAt y1 q1).2)) ≠ (((Math.wayAt y1 q1).2))) := g2
      refine mvS rfl rfl rfl ?_
      refine mvS rfl rfl rfl ?_
      refine callP (v := .bool true) Try.call19 trv rfl rfl (fun w hs => laws_likeInts_c _ ny2 cy2 _ _ ny3 cy3 _ w (OwnI.rd (hs.at_ 6 rfl)) (OwnI.rd (hs.at_ 5 rfl)) (by first | rfl | assumption | (rw [heq]) | (simp only [*]))) ?_
      refine not rfl rfl rfl ?_
      refine pickB rfl rfl rfl rfl ?_
      refine mvB rfl rfl rfl ?_
      refine mvI rfl rfl rfl ?_
      refine mvI rfl rfl rfl ?_
      refine neq rfl rfl rfl rfl ?_
      refine pickB rfl rfl rfl rfl ?_
      refine mvB rfl rfl rfl ?_
      refine rBoolD (d := 86) rfl (fun g3 => ?_) (fun g3 => ?_)
      · -- g3T
        replace g3 : (Math.nodeBy y4 yw4).2 ≠ (Math.nodeBy y4 yw4).2 := g3
        exact absurd rfl g3
      · -- g3F
        replace g3 : ¬ ((Math.nodeBy y4 yw4).2 ≠ (Math.nodeBy y4 yw4).2) := g3
        refine mvI rfl rfl rfl ?_
        refine mvI rfl rfl rfl ?_
        refine neq rfl rfl rfl rfl ?_
        refine pickB rfl rfl rfl rfl ?_
        refine mvB rfl rfl rfl ?_
        refine rBoolD (d := 91) rfl (fun g4 => ?_) (fun g4 => ?_)
        · -- g4T
          replace g4 : (Math.nodeBy y4 yw4).1 ≠ (Math.nodeBy y4 yw4).1 := g4
          exact absurd rfl g4
        · -- g4F
          replace g4 : ¬ ((Math.nodeBy y4 yw4).1 ≠ (Math.nodeBy y4 yw4).1) := g4
          refine mvI rfl rfl rfl ?_
          refine mvI rfl rfl rfl ?_
          refine neq rfl rfl rfl rfl ?_
          refine pickB rfl rfl rfl rfl ?_
          refine mvB rfl rfl rfl ?_
          refine rBoolD (d := 96) rfl (fun g5 => ?_) (fun g5 => ?_)
          · -- g5T
            replace g5 : (Math.depthOf y5).2 ≠ (Math.depthOf y5).2 := g5
            exact absurd rfl g5
          · -- g5F
            replace g5 : ¬ ((Math.depthOf y5).2 ≠ (Math.depthOf y5).2) := g5
            refine mvI rfl rfl rfl ?_
            refine mvI rfl rfl rfl ?_
            refine neq rfl rfl rfl rfl ?_
            refine pickB rfl rfl rfl rfl ?_
            refine rNil ?_
            refine qSeq rfl ?_
            refine hIfD rfl (fun c6 => ?_) (fun c6 => ?_)
            · -- c6T
              replace c6 : (Math.depthOf y5).1 ≠ (Math.depthOf y5).1 := c6
              exact absurd rfl c6
            · -- c6F
              replace c6 : ¬ ((Math.depthOf y5).1 ≠ (Math.depthOf y5).1) := c6
              refine hSkip ?_
              refine qSeq rfl ?_
              refine hSeq ?_
              refine hSeq ?_
              refine hReg (sq 0 (sq 1 sz)) (by kernel_rfl) ?_
              refine mvI rfl rfl rfl ?_
              refine neq rfl rfl rfl rfl ?_
              refine rNil ?_
              refine qSeq rfl ?_
              refine hIfD rfl (fun c7 => ?_) (fun c7 => ?_)
              · -- c7T
                replace c7 : (((Math.wayAt y1 q1).2)) ≠ 0 := c7
                refine hSeq ?_
                refine hReg (sq 0 sz) (by kernel_rfl) ?_
                refine asB rfl rfl rfl ?_
                refine rNil ?_
                refine qSeq rfl ?_
                refine hRet ?_
                exact fun w hs => ⟨[.bool true], ⟨rfl, trivial⟩, ⟨by first | rfl | exact (bT (by omega)).symm, hs.upd⟩⟩
              · -- c7F
                replace c7 : ¬ ((((Math.wayAt y1 q1).2)) ≠ 0) := c7
                have hwb := Math.way_back2 (Classical.not_not.1 c7)
                have hwl := Math.wayAt_len y1 q1
                refine hSkip ?_
                refine qSeq rfl ?_
                refine hSeq ?_
                refine hReg (sl 0 (sq 1 (sl 2 (sq 3 (sq 4 (sq 5 (sq 6 (sq 7 sz)))))))) (by kernel_rfl) ?_
                refine ldAl Try.isAgg26 Try.sizeOf26 (cBs 7 rfl) trv rfl rfl rfl rfl ?_
                refine mvS rfl rfl rfl ?_
                refine callP (v := .tuple #[.int .i64 ((Math.nodeBy y1 ((((Math.wayAt y1 q1).1)))).1), .int .i64 ((Math.nodeBy y1 ((((Math.wayAt y1 q1).1)))).2)]) Try.call26 trv rfl rfl (fun w hs => impl_NodeBy_c _ ny1 cy1 _ _ _ ny2 cy2 _ w (hs.at_ 8 rfl) (OwnI.rd (hs.at_ 6 rfl))) ?_
                refine mv rfl rfl rfl ?_
                refine ext rfl rfl rfl rfl ?_
                refine ext rfl rfl rfl rfl ?_
                refine asI rfl rfl rfl ?_
                refine asI rfl rfl rfl ?_
                refine rNil ?_
                refine qSeq rfl ?_
                refine hSeq ?_
                refine hReg (sl 0 (sl 1 (sq 2 (sq 3 (sq 4 (sq 5 (sq 6 sz))))))) (by kernel_rfl) ?_
                refine ldAl Try.isAgg26 Try.sizeOf26 (cBs 7 rfl) trv rfl rfl rfl rfl ?_
                refine callP (v := .tuple #[.int .i64 ((Math.depthOf y1).1), .int .i64 ((Math.depthOf y1).2)]) Try.call29 trv rfl rfl (fun w hs => impl_DepthOf_c _ ny1 cy1 _ _ w (hs.at_ 8 rfl)) ?_
                refine mv rfl rfl rfl ?_
                refine ext rfl rfl rfl rfl ?_
                refine ext rfl rfl rfl rfl ?_
                refine asI rfl rfl rfl ?_
                refine asI rfl rfl rfl ?_
                refine rNil ?_
                refine qSeq rfl ?_
                refine hSeq ?_
                refine hReg (sq 0 (sq 1 (sq 2 (sq 3 (sq 4 (sq 5 (sq 6 (sq 7 (sq 8 (sq 9 (sq 10 (sq 11 (sq 12 (sq 13 (sq 14 (sq 15 (sq 16 (sq 17 sz)))))))))))))))))) (by kernel_rfl) ?_
                refine mvI rfl rfl rfl ?_
                refine eql rfl rfl rfl rfl ?_
                refine mvB rfl rfl rfl ?_
                refine rBoolD (d := 116) rfl (fun g8 => ?_) (fun g8 => ?_)
                · -- g8T
                  replace g8 : (Math.nodeBy y1 ((((Math.wayAt y1 q1).1)))).2 = 0 := g8
                  refine mvI rfl rfl rfl ?_
                  refine mvI rfl rfl rfl ?_
                  refine eql rfl rfl rfl rfl ?_
                  refine pickB rfl rfl rfl rfl ?_
                  refine mvB rfl rfl rfl ?_
                  refine rBoolD (d := 121) rfl (fun g9 => ?_) (fun g9 => ?_)
                  · -- g9T
                    replace g9 : (Math.nodeBy y1 ((((Math.wayAt y1 q1).1)))).1 = q1 := g9
                    refine mvI rfl rfl rfl ?_
                    refine eql rfl rfl rfl rfl ?_
                    refine pickB rfl rfl rfl rfl ?_
                    refine mvB rfl rfl rfl ?_
                    refine rBoolD (d := 125) rfl (fun g10 => ?_) (fun g10 => ?_)
                    · -- g10T
                      replace g10 : (Math.depthOf y1).2 = 0 := g10
                      refine mvS rfl rfl rfl ?_
                      refine lenS Try.runUnderlying28 rfl rfl rfl ?_
                      refine mvI rfl rfl rfl ?_
                      refine leq rfl rfl rfl rfl ?_
                      refine pickB rfl rfl rfl rfl ?_
                      refine asB rfl rfl rfl ?_
                      refine rNil ?_
                      refine qSeq rfl ?_
                      refine hRet ?_
                      exact fun w hs => ⟨[.bool (decide ((ny2 : Int) ≤ (Math.depthOf y1).1))], ⟨rfl, trivial⟩, ⟨by first | rfl | exact (bT (by omega)).symm, hs.upd⟩⟩
                    · -- g10F
                      replace g10 : ¬ ((Math.depthOf y1).2 = 0) := g10
                      exact absurd hwb.2.1 g10
                  · -- g9F
                    replace g9 : ¬ ((Math.nodeBy y1 ((((Math.wayAt y1 q1).1)))).1 = q1) := g9
                    exact absurd hwb.1.1 g9
                · -- g8F
                  replace g8 : ¬ ((Math.nodeBy y1 ((((Math.wayAt y1 q1).1)))).2 = 0) := g8
                  exact absurd hwb.1.2 g8

theorem cells5 : Try.prog.cellsOf 5 = 1 := by kernel_rfl

set_option maxHeartbeats 2000000 in
theorem fnWays_lifted (os : Os) (started : os.Started) (H : Type) (enc : TypeId × Value → H) :
    ReturnsInHanded {} Try.checked os 4 .any (Rows.fnWaysSpec.pre6 enc Try.prog Try.f4 Rows.fnWaysRow.domain false) (Rows.fnWaysSpec.post enc Try.prog Try.f4 false true false false) := by
  refine returnsInHanded_of_change (C := Try.checked) own started (by kernel_rfl) Try.func4
    (ChangeSpec.witness6 (enc := enc) (C := Try.checked) false ⟨#[], #[.slice none 0 0], []⟩ 8 (by kernel_rfl) (by kernel_rfl) (by kernel_rfl) (by kernel_rfl)) ?_
  intro W base args ds gs before hval0 hW hcnd _
  have hval : ∀ (j : Nat) t v, Try.f4.params[j]? = some t → args[j]? = some v → Value.okWide Try.prog W .any base t v := hval0
  have hW' := hW
  obtain ⟨p, q, hA0, hV, rfl, hfz, hnd⟩ := hW
  have hA : DataW.TrodAll enc Try.prog W 0 (fun _ => true) true Try.f4.params.toList args.toList ds p := hA0
  rw [Try.params4] at hA hval
  obtain ⟨v0, vs0, d0, ds0, p0, q0, hargs, rfl, rfl, h0, r0⟩ := trodAll_cons hA
  obtain ⟨rfl, rfl, rfl⟩ := trodAll_nil r0
  obtain rfl : args = #[v0] := by cases args; simp_all
  obtain ⟨rfl, rfl⟩ := trodVars_none hV
  obtain ⟨ca, bs, cc, rfl, hwf, hmax, hca⟩ := open_slice_ints Try.underlying22 Try.underlying5 cells5 (hval 0 22 v0 rfl rfl) h0
  refine (laws_FnWays_c ca bs cc W hca hwf).mono fun e W' ⟨v, he, hv, hx⟩ => ?_
  subst he; subst hv
  exact ⟨_, rfl, law_post (tb := 4) hW' rfl rfl Try.underlying4 rfl rfl rfl (by kernel_rfl) hx⟩
theorem fnWays_holds : Rows.FnWaysSaid :=
  OpenClaim.holds_of_wide 4 Try.f4 rfl rfl rfl rfl rfl rfl rfl ⟨rfl, rfl, rfl, rfl, rfl⟩ rfl rfl rfl rfl rfl (by kernel_rfl) Try.func4 (by kernel_rfl)
    (of_decide_eq_true (by kernel_rfl)) (by unfold Func.isWrapper; first | (rw [if_pos (by decide +kernel)]; kernel_rfl) | (rw [if_neg (by decide +kernel)]; exact ⟨rfl, rfl⟩))
    (fun os started H enc _ => fnWays_lifted os started H enc)
#print axioms fnWays_holds

end Go.Proofs.Ytjengglpbdgmnaa
