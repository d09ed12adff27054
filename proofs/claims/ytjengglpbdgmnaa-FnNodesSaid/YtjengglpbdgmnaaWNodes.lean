/- The law FnNodes returns true for all arguments. No condition. -/
import Derived.Test.YtjengglpbdgmnaaEngC
import Derived.Test.YtjengglpbdgmnaaFrame
import Derived.Test.YtjengglpbdgmnaaFrm
import Derived.Test.YtjengglpbdgmnaaTree
import Derived.Test.YtjengglpbdgmnaaGame
import Derived.Test.YtjengglpbdgmnaaSets
import Derived.Test.YtjengglpbdgmnaaHigh
import Derived.Test.YtjengglpbdgmnaaGrow
import Derived.Test.YtjengglpbdgmnaaBet
import Derived.Test.YtjengglpbdgmnaaDraw
import Derived.Test.YtjengglpbdgmnaaCopy
import Derived.Test.YtjengglpbdgmnaaSrc0
import Derived.Test.YtjengglpbdgmnaaSrc
import Derived.Test.YtjengglpbdgmnaaSrc2
import Derived.Test.YtjengglpbdgmnaaSrcW
import Derived.Test.YtjengglpbdgmnaaL1
import Derived.Test.YtjengglpbdgmnaaL2
import Derived.Test.YtjengglpbdgmnaaL3
import Derived.Test.YtjengglpbdgmnaaLT
import Derived.Test.YtjengglpbdgmnaaLI
import Derived.Test.YtjengglpbdgmnaaLJ
import Derived.Test.YtjengglpbdgmnaaRows
namespace Go.Proofs.Ytjengglpbdgmnaa
open Go Go.RowKit V Go.ChangeShapes Go.WideShapes Go.ChangeAt
set_option linter.unusedVariables false
set_option linter.unusedSimpArgs false
set_option maxRecDepth 100000



set_option maxHeartbeats 4000000 in
theorem laws_FnNodes_c (ca : Option Addr) (bs : List Int) (cc : Nat) (w : World) (rcode : CellsAt ca (bs.map (Value.int .u8)) w) (hb : ∀ n ∈ bs, (Lit.int .u8 n).wf = true) :
    Calls Try.prog 3 #[.slice ca bs.length cc] w (Ret fun v w' => v = .bool true ∧ Ext w w') := by
  have kcode : Kn w none_ [] (CellsAt ca (bs.map (Value.int .u8))) := fun w' hs => rcode.ext hs.upd
  refine fn (M := none_) (rs := [.tmp 2]) Try.func3 rfl Try.ntmps3 rfl rfl (Sep.start _ _) ?_
  refine hSeq ?_
  refine hReg (sq 0 sz) (by kernel_rfl) ?_
  refine asB rfl rfl rfl ?_
  refine rNil ?_
  refine qSeq rfl ?_
  refine hSeq ?_
  refine hSeq ?_
  refine hReg (sq 0 (sl 1 sz)) (by kernel_rfl) ?_
  refine mvS rfl rfl rfl ?_
  refine callP (v := .bool (decide (4096 < ((bs.length : Nat) : Int)))) Try.call12 trv rfl rfl (fun w hs => laws_big_c _ _ cc w (kcode w hs)) ?_
  refine rNil ?_
  refine qSeq rfl ?_
  refine hIfD rfl (fun c1 => ?_) (fun c1 => ?_)
  · -- c1T
    replace c1 : 4096 < ((bs.length : Nat) : Int) := c1
    refine hSeq ?_
    refine hReg (sq 0 sz) (by kernel_rfl) ?_
    refine asB rfl rfl rfl ?_
    refine rNil ?_
    refine qSeq rfl ?_
    refine hRet ?_
    exact fun w hs => ⟨[.bool true], ⟨rfl, trivial⟩, ⟨by first | rfl | exact (bT (by omega)).symm, hs.upd⟩⟩
  · -- c1F
    replace c1 : ¬ (4096 < ((bs.length : Nat) : Int)) := c1
    have hok : okBytes bs := ⟨fun x hx => bounds_u8 (hb x hx), by omega⟩
    refine hSkip ?_
    refine qSeq rfl ?_
    refine hSeq ?_
    refine hReg (sq 0 (sl 1 (sl 2 (sl 3 sz)))) (by kernel_rfl) ?_
    refine mvS rfl rfl rfl ?_
    refine callS Try.call13 trv1 rfl rfl (fun w hs => spec_DrawEndsOf_c _ _ cc w (kcode w hs) (by assumption)) ?_
    rintro ⟨ay1, ny1, cy1, Hy1, y1⟩ hr1
    try dsimp only at hr1
    refine rPieces (L' := [RdR ndK ay1 ny1 Hy1 y1]) (fun _ h => h) ?_
    refine rKnow (fun w hs => (show RdR ndK ay1 ny1 Hy1 y1 w from hs.at_ 0 rfl).1) (fun lenn1 => ?_)
    refine alc Try.zeroValue26 rfl trv1 rfl rfl (fun bka2 hbka2 => ?_)
    refine stAl (vs := [.slice ay1 ny1 cy1]) 0 rfl Try.sizeOf26 trv rfl rfl rfl rfl rfl (by simp [Value.oneCell']) rfl ?_
    refine rNil ?_
    refine qSeq rfl ?_
    refine hSeq ?_
    refine hReg (sl 0 (sl 1 (sq 2 (sq 3 (sq 4 (sq 5 (sq 6 sz))))))) (by kernel_rfl) ?_
    refine ldAl Try.isAgg26 Try.sizeOf26 (cBs 0 rfl) trv rfl rfl rfl rfl ?_
    refine callS Try.call14 trv1 rfl rfl (fun w hs => impl_EndsOf_c _ ny1 cy1 _ _ w (hs.at_ 1 rfl)) ?_
    rintro ⟨ay2, ny2, cy2, y2, q2⟩ ⟨hr2a, hr2b⟩
    dsimp only at hr2a hr2b
    subst y2
    subst q2
    refine rPieces (L' := [OwnI 2 ay2 ny2 cy2 ((((Math.endsOf y1).1))), blk bka2 26 [.slice ay1 ny1 cy1], RdR ndK ay1 ny1 Hy1 y1]) (fun _ h => h) ?_
    refine rKnow (fun w hs => (show OwnI 2 ay2 ny2 cy2 ((((Math.endsOf y1).1))) w from hs.at_ 0 rfl).lenz) (fun lenn3 => ?_)
    refine mv rfl rfl rfl ?_
    refine ext rfl rfl rfl rfl ?_
    refine ext rfl rfl rfl rfl ?_
    refine asS rfl rfl rfl ?_
    refine asI rfl rfl rfl ?_
    refine rNil ?_
    refine qSeq rfl ?_
    refine hSeq ?_
    refine hReg (sl 0 (sl 1 (sq 2 (sq 3 (sq 4 (sq 5 (sq 6 sz))))))) (by kernel_rfl) ?_
    refine ldAl Try.isAgg26 Try.sizeOf26 (cBs 1 rfl) trv rfl rfl rfl rfl ?_
    refine callS Try.call15 trv1 rfl rfl (fun w hs => spec_EndsOf_c _ ny1 cy1 _ _ w (hs.at_ 2 rfl)) ?_
    rintro ⟨ay3, ny3, cy3, y3, q3⟩ ⟨hr3a, hr3b⟩
    dsimp only at hr3a hr3b
    subst y3
    subst q3
    refine rPieces (L' := [OwnI 2 ay3 ny3 cy3 ((((Math.endsOf y1).1))), OwnI 2 ay2 ny2 cy2 ((((Math.endsOf y1).1))), blk bka2 26 [.slice ay1 ny1 cy1], RdR ndK ay1 ny1 Hy1 y1]) (fun _ h => h) ?_
    refine rKnow (fun w hs => (show OwnI 2 ay3 ny3 cy3 ((((Math.endsOf y1).1))) w from hs.at_ 0 rfl).lenz) (fun lenn4 => ?_)
    refine mv rfl rfl rfl ?_
    refine ext rfl rfl rfl rfl ?_
    refine ext rfl rfl rfl rfl ?_
    refine asS rfl rfl rfl ?_
    refine asI rfl rfl rfl ?_
    refine rNil ?_
    refine qSeq rfl ?_
    refine hSeq ?_
    refine hReg (sq 0 (sl 1 (sq 2 (sq 3 (sq 4 (sl 5 (sl 6 (sq 7 sz)))))))) (by kernel_rfl) ?_
    refine mvS rfl rfl rfl ?_
    refine callS Try.call16 trv1 rfl rfl (fun w hs => spec_DrawDecisionsOf_c _ _ cc w (Kn.drop (k := 4) kcode w hs) (by assumption)) ?_
    rintro ⟨ay4, ny4, cy4, Hy4, y4, q4⟩ hr4
    try dsimp only at hr4
    refine rPieces (L' := [RdR ndK ay4 ny4 Hy4 y4, OwnI 2 ay3 ny3 cy3 ((((Math.endsOf y1).1))), OwnI 2 ay2 ny2 cy2 ((((Math.endsOf y1).1))), blk bka2 26 [.slice ay1 ny1 cy1], RdR ndK ay1 ny1 Hy1 y1]) (fun _ h => h) ?_
    refine rKnow (fun w hs => (show RdR ndK ay4 ny4 Hy4 y4 w from hs.at_ 0 rfl).1) (fun lenn5 => ?_)
    refine mv rfl rfl rfl ?_
    refine ext rfl rfl rfl rfl ?_
    refine ext rfl rfl rfl rfl ?_
    refine alc Try.zeroValue26 rfl trv1 rfl rfl (fun bka6 hbka6 => ?_)
    refine stAl (vs := [.slice ay4 ny4 cy4]) 0 rfl Try.sizeOf26 trv rfl rfl rfl rfl rfl (by simp [Value.oneCell']) rfl ?_
    refine asI rfl rfl rfl ?_
    refine rNil ?_
    refine qSeq rfl ?_
    refine hSeq ?_
    refine hReg (sl 0 (sq 1 (sl 2 (sq 3 (sq 4 (sq 5 (sq 6 (sq 7 sz)))))))) (by kernel_rfl) ?_
    refine ldAl Try.isAgg26 Try.sizeOf26 (cBs 0 rfl) trv rfl rfl rfl rfl ?_
    refine mvI rfl rfl rfl ?_
    refine callS Try.call17 trv1 rfl rfl (fun w hs => impl_DecisionsOf_c _ ny4 cy4 _ _ _ w (hs.at_ 1 rfl)) ?_
    rintro ⟨ay5, ny5, cy5, y5, q5⟩ ⟨hr5a, hr5b⟩
    dsimp only at hr5a hr5b
    subst y5
    subst q5
    refine rPieces (L' := [OwnI 2 ay5 ny5 cy5 ((((Math.decsOf y4 q4).1))), blk bka6 26 [.slice ay4 ny4 cy4], RdR ndK ay4 ny4 Hy4 y4, OwnI 2 ay3 ny3 cy3 ((((Math.endsOf y1).1))), OwnI 2 ay2 ny2 cy2 ((((Math.endsOf y1).1))), blk bka2 26 [.slice ay1 ny1 cy1], RdR ndK ay1 ny1 Hy1 y1]) (fun _ h => h) ?_
    refine rKnow (fun w hs => (show OwnI 2 ay5 ny5 cy5 ((((Math.decsOf y4 q4).1))) w from hs.at_ 0 rfl).lenz) (fun lenn7 => ?_)
    refine mv rfl rfl rfl ?_
    refine ext rfl rfl rfl rfl ?_
    refine ext rfl rfl rfl rfl ?_
    refine asS rfl rfl rfl ?_
    refine asI rfl rfl rfl ?_
    refine rNil ?_
    refine qSeq rfl ?_
    refine hSeq ?_
    refine hReg (sl 0 (sq 1 (sl 2 (sq 3 (sq 4 (sq 5 (sq 6 (sq 7 sz)))))))) (by kernel_rfl) ?_
    refine ldAl Try.isAgg26 Try.sizeOf26 (cBs 1 rfl) trv rfl rfl rfl rfl ?_
    refine mvI rfl rfl rfl ?_
    refine callS Try.call18 trv1 rfl rfl (fun w hs => spec_DecisionsOf_c _ ny4 cy4 _ _ _ w (hs.at_ 2 rfl)) ?_
    rintro ⟨ay6, ny6, cy6, y6, q6⟩ ⟨hr6a, hr6b⟩
    dsimp only at hr6a hr6b
    subst y6
    subst q6
    refine rPieces (L' := [OwnI 2 ay6 ny6 cy6 ((((Math.decsOf y4 q4).1))), OwnI 2 ay5 ny5 cy5 ((((Math.decsOf y4 q4).1))), blk bka6 26 [.slice ay4 ny4 cy4], RdR ndK ay4 ny4 Hy4 y4, OwnI 2 ay3 ny3 cy3 ((((Math.endsOf y1).1))), OwnI 2 ay2 ny2 cy2 ((((Math.endsOf y1).1))), blk bka2 26 [.slice ay1 ny1 cy1], RdR ndK ay1 ny1 Hy1 y1]) (fun _ h => h) ?_
    refine rKnow (fun w hs => (show OwnI 2 ay6 ny6 cy6 ((((Math.decsOf y4 q4).1))) w from hs.at_ 0 rfl).lenz) (fun lenn8 => ?_)
    refine mv rfl rfl rfl ?_
    refine ext rfl rfl rfl rfl ?_
    refine ext rfl rfl rfl rfl ?_
    refine asS rfl rfl rfl ?_
    refine asI rfl rfl rfl ?_
    refine rNil ?_
    refine qSeq rfl ?_
    refine hSeq ?_
    refine hSeq ?_
    refine hDraw (Ls := [blk bka2 26 [.slice ay1 ny1 cy1]]) (by kernel_rfl) (sq 0 (sq 1 (sq 2 (sq 3 (sq 4 (sq 5 (sl 6 (sq 7 (sq 8 (sq 9 (sq 10 (sq 11 (sq 12 (sq 13 (sq 14 (sq 15 (sq 16 (sl 17 (sq 18 (sq 19 (sq 20 (sq 21 (sq 23 (sl 22 (sl 24 (sq 25 (sq 26 sz))))))))))))))))))))))))))) (by kernel_rfl) (.cons _ (.cons _ (.cons _ (.cons _ (.cons _ (.cons _ (.cons_cons _ (.cons _ .slnil)))))))) ?_
    refine mvI rfl rfl rfl ?_
    refine mvI rfl rfl rfl ?_
    refine neq rfl rfl rfl rfl ?_
    refine mvB rfl rfl rfl ?_
    refine rBoolD (d := 52) rfl (fun g2 => ?_) (fun g2 => ?_)
    · -- g2T
      replace g2 : (((Math.endsOf y1).2)) ≠ (((Math.endsOf y1).2)) := g2
      exact absurd rfl g2
    · -- g2F
      replace g2 : ¬ ((((Math.endsOf y1).2)) ≠ (((Math.endsOf y1).2))) := g2
      refine mvS rfl rfl rfl ?_
      refine mvS rfl rfl rfl ?_
      refine callP (v := .bool true) Try.call19 (fun _ h => h.pick [6]) rfl rfl (fun w hs => laws_likeInts_c _ ny2 cy2 _ _ ny3 cy3 _ w (OwnI.rd (hs.at_ 5 rfl)) (OwnI.rd (hs.at_ 4 rfl)) (by first | rfl | assumption | (rw [heq]) | (simp only [*]))) ?_
      refine not rfl rfl rfl ?_
      refine pickB rfl rfl rfl rfl ?_
      refine mvB rfl rfl rfl ?_
      refine mvI rfl rfl rfl ?_
      refine mvI rfl rfl rfl ?_
      refine neq rfl rfl rfl rfl ?_
      refine pickB rfl rfl rfl rfl ?_
      refine mvB rfl rfl rfl ?_
      refine rBoolD (d := 63) rfl (fun g3 => ?_) (fun g3 => ?_)
      · -- g3T
        replace g3 : (((Math.decsOf y4 q4).2)) ≠ (((Math.decsOf y4 q4).2)) := g3
        exact absurd rfl g3
      · -- g3F
        replace g3 : ¬ ((((Math.decsOf y4 q4).2)) ≠ (((Math.decsOf y4 q4).2))) := g3
        refine mvS rfl rfl rfl ?_
        refine mvS rfl rfl rfl ?_
        refine callP (v := .bool true) Try.call19 (fun _ h => h.pick [6]) rfl rfl (fun w hs => laws_likeInts_c _ ny5 cy5 _ _ ny6 cy6 _ w (OwnI.rd (hs.at_ 1 rfl)) (OwnI.rd (hs.at_ 0 rfl)) (by first | rfl | assumption | (rw [heq]) | (simp only [*]))) ?_
        refine not rfl rfl rfl ?_
        refine pickB rfl rfl rfl rfl ?_
        refine mvB rfl rfl rfl ?_
        refine ldAq Try.isAgg26 Try.sizeOf26 (cBs 0 rfl) rfl rfl rfl rfl ?_
        refine ldAq Try.isAgg26 Try.sizeOf26 (cBs 0 rfl) rfl rfl rfl rfl ?_
        refine callP (v := .bool (Math.isTree y1)) Try.call20 (fun _ h => h.pick [6]) rfl rfl (fun w hs => impl_IsTree_c _ ny1 cy1 _ _ w (hs.at_ 7 rfl)) ?_
        refine callP (v := .bool (Math.isTree y1)) Try.call21 (fun _ h => h.pick [6]) rfl rfl (fun w hs => spec_IsTree_c _ ny1 cy1 _ _ w (hs.at_ 7 rfl)) ?_
        refine neqB Try.underlying4 rfl rfl rfl rfl ?_
        refine pickB rfl rfl rfl rfl ?_
        refine rNil ?_
        refine qSeq rfl ?_
        refine hIfD rfl (fun c4 => ?_) (fun c4 => ?_)
        · -- c4T
          replace c4 : (Math.isTree y1) ≠ (Math.isTree y1) := c4
          exact absurd rfl c4
        · -- c4F
          replace c4 : ¬ ((Math.isTree y1) ≠ (Math.isTree y1)) := c4
          refine hSkip ?_
          refine qSeq rfl ?_
          refine hSeq ?_
          refine hSeq ?_
          refine hReg (sq 0 (sq 1 sz)) (by kernel_rfl) ?_
          refine mvI rfl rfl rfl ?_
          refine neq rfl rfl rfl rfl ?_
          refine rNil ?_
          refine qSeq rfl ?_
          refine hIfD rfl (fun c5 => ?_) (fun c5 => ?_)
          · -- c5T
            replace c5 : (((Math.endsOf y1).2)) ≠ 0 := c5
            refine hSeq ?_
            refine hReg (sq 0 sz) (by kernel_rfl) ?_
            refine asB rfl rfl rfl ?_
            refine rNil ?_
            refine qSeq rfl ?_
            refine hRet ?_
            exact fun w hs => ⟨[.bool true], ⟨rfl, trivial⟩, ⟨by first | rfl | exact (bT (by omega)).symm, hs.upd⟩⟩
          · -- c5F
            replace c5 : ¬ ((((Math.endsOf y1).2)) ≠ 0) := c5
            have hct := Math.nodes_count (Math.endsOf_ok (Classical.not_not.1 c5))
            refine hSkip ?_
            refine qSeq rfl ?_
            refine hSeq ?_
            refine hReg (sl 0 (sl 1 (sq 2 (sq 3 (sq 4 (sq 5 (sq 6 sz))))))) (by kernel_rfl) ?_
            refine ldAl Try.isAgg26 Try.sizeOf26 (cBs 6 rfl) trv rfl rfl rfl rfl ?_
            refine callS Try.call17 trv1 rfl rfl (fun w hs => impl_DecisionsOf_c _ ny1 cy1 _ _ _ w (hs.at_ 7 rfl)) ?_
            rintro ⟨ay7, ny7, cy7, y7, q7⟩ ⟨hr7a, hr7b⟩
            dsimp only at hr7a hr7b
            subst y7
            subst q7
            refine rPieces (L' := [OwnI 2 ay7 ny7 cy7 ((((Math.decsOf y1 (0 : Int)).1))), OwnI 2 ay6 ny6 cy6 ((((Math.decsOf y4 q4).1))), OwnI 2 ay5 ny5 cy5 ((((Math.decsOf y4 q4).1))), blk bka6 26 [.slice ay4 ny4 cy4], RdR ndK ay4 ny4 Hy4 y4, OwnI 2 ay3 ny3 cy3 ((((Math.endsOf y1).1))), OwnI 2 ay2 ny2 cy2 ((((Math.endsOf y1).1))), blk bka2 26 [.slice ay1 ny1 cy1], RdR ndK ay1 ny1 Hy1 y1]) (fun _ h => h) ?_
            refine rKnow (fun w hs => (show OwnI 2 ay7 ny7 cy7 ((((Math.decsOf y1 (0 : Int)).1))) w from hs.at_ 0 rfl).lenz) (fun lenn9 => ?_)
            refine mv rfl rfl rfl ?_
            refine ext rfl rfl rfl rfl ?_
            refine ext rfl rfl rfl rfl ?_
            refine asS rfl rfl rfl ?_
            refine asI rfl rfl rfl ?_
            refine rNil ?_
            refine qSeq rfl ?_
            refine hSeq ?_
            refine hReg (sl 0 (sl 1 (sq 2 (sq 3 (sq 4 (sq 5 (sq 6 sz))))))) (by kernel_rfl) ?_
            refine ldAl Try.isAgg26 Try.sizeOf26 (cBs 7 rfl) trv rfl rfl rfl rfl ?_
            refine callS Try.call17 trv1 rfl rfl (fun w hs => impl_DecisionsOf_c _ ny1 cy1 _ _ _ w (hs.at_ 8 rfl)) ?_
            rintro ⟨ay8, ny8, cy8, y8, q8⟩ ⟨hr8a, hr8b⟩
            dsimp only at hr8a hr8b
            subst y8
            subst q8
            refine rPieces (L' := [OwnI 2 ay8 ny8 cy8 ((((Math.decsOf y1 (1 : Int)).1))), OwnI 2 ay7 ny7 cy7 ((((Math.decsOf y1 (0 : Int)).1))), OwnI 2 ay6 ny6 cy6 ((((Math.decsOf y4 q4).1))), OwnI 2 ay5 ny5 cy5 ((((Math.decsOf y4 q4).1))), blk bka6 26 [.slice ay4 ny4 cy4], RdR ndK ay4 ny4 Hy4 y4, OwnI 2 ay3 ny3 cy3 ((((Math.endsOf y1).1))), OwnI 2 ay2 ny2 cy2 ((((Math.endsOf y1).1))), blk bka2 26 [.slice ay1 ny1 cy1], RdR ndK ay1 ny1 Hy1 y1]) (fun _ h => h) ?_
            refine rKnow (fun w hs => (show OwnI 2 ay8 ny8 cy8 ((((Math.decsOf y1 (1 : Int)).1))) w from hs.at_ 0 rfl).lenz) (fun lenn10 => ?_)
            refine mv rfl rfl rfl ?_
            refine ext rfl rfl rfl rfl ?_
            refine ext rfl rfl rfl rfl ?_
            refine asS rfl rfl rfl ?_
            refine asI rfl rfl rfl ?_
            refine rNil ?_
            refine qSeq rfl ?_
            refine hSeq ?_
            refine hReg (sq 0 (sq 1 (sq 2 (sq 3 (sq 4 (sq 5 (sq 6 (sq 7 (sq 8 (sq 9 (sq 10 (sq 11 (sq 12 (sq 13 (sq 14 (sq 15 (sl 16 (sq 17 (sq 18 (sq 19 (sq 20 (sq 21 (sq 22 (sq 23 (sq 24 (sq 25 sz)))))))))))))))))))))))))) (by kernel_rfl) ?_
            refine mvI rfl rfl rfl ?_
            refine eql rfl rfl rfl rfl ?_
            refine mvB rfl rfl rfl ?_
            refine rBoolD (d := 90) rfl (fun g6 => ?_) (fun g6 => ?_)
            · -- g6T
              replace g6 : (((Math.decsOf y1 (0 : Int)).2)) = 0 := g6
              refine mvI rfl rfl rfl ?_
              refine eql rfl rfl rfl rfl ?_
              refine pickB rfl rfl rfl rfl ?_
              refine mvB rfl rfl rfl ?_
              refine rBoolD (d := 94) rfl (fun g7 => ?_) (fun g7 => ?_)
              · -- g7T
                replace g7 : (((Math.decsOf y1 (1 : Int)).2)) = 0 := g7
                refine mvS rfl rfl rfl ?_
                refine lenS Try.runUnderlying28 rfl rfl rfl ?_
                refine mvS rfl rfl rfl ?_
                refine lenS Try.runUnderlying28 rfl rfl rfl ?_
                refine add rfl rfl rfl rfl (by first | omega | (dsimp only; omega)) ?_
                refine mvS rfl rfl rfl ?_
                refine lenS Try.runUnderlying28 rfl rfl rfl ?_
                refine add rfl rfl rfl rfl (by first | omega | (dsimp only; omega)) ?_
                refine fld fl26_0 rfl rfl rfl ?_
                refine ldl Try.isAgg24 (cB 8 rfl rfl) trv rfl rfl rfl ?_
                refine lenS Try.runUnderlying24 rfl rfl rfl ?_
                refine eql rfl rfl rfl rfl ?_
                refine pickB rfl rfl rfl rfl ?_
                refine mvB rfl rfl rfl ?_
                refine rBoolD (d := 108) rfl (fun g8 => ?_) (fun g8 => ?_)
                · -- g8T
                  replace g8 : (((ny7 : Int) + (ny8 : Int)) + (ny2 : Int)) = (ny1 : Int) := g8
                  refine mvS rfl rfl rfl ?_
                  refine lenS Try.runUnderlying28 rfl rfl rfl ?_
                  refine gtr rfl rfl rfl rfl ?_
                  refine pickB rfl rfl rfl rfl ?_
                  refine asB rfl rfl rfl ?_
                  refine rNil ?_
                  refine qSeq rfl ?_
                  refine hRet ?_
                  exact fun w hs => ⟨[.bool (decide (0 < (ny2 : Int)))], ⟨rfl, trivial⟩, ⟨by first | rfl | exact (bT (by omega)).symm, hs.upd⟩⟩
                · -- g8F
                  replace g8 : ¬ ((((ny7 : Int) + (ny8 : Int)) + (ny2 : Int)) = (ny1 : Int)) := g8
                  exact absurd (by omega) g8
              · -- g7F
                replace g7 : ¬ ((((Math.decsOf y1 (1 : Int)).2)) = 0) := g7
                exact absurd hct.2.2.2 g7
            · -- g6F
              replace g6 : ¬ ((((Math.decsOf y1 (0 : Int)).2)) = 0) := g6
              exact absurd hct.2.2.1 g6

theorem cells5 : Try.prog.cellsOf 5 = 1 := by kernel_rfl

set_option maxHeartbeats 2000000 in
theorem fnNodes_lifted (os : Os) (started : os.Started) (H : Type) (enc : TypeId × Value → H) :
    ReturnsInHanded {} Try.checked os 3 .any (Rows.fnNodesSpec.pre6 enc Try.prog Try.f3 Rows.fnNodesRow.domain false) (Rows.fnNodesSpec.post enc Try.prog Try.f3 false true false false) := by
  refine returnsInHanded_of_change (C := Try.checked) own started (by kernel_rfl) Try.func3
    (ChangeSpec.witness6 (enc := enc) (C := Try.checked) false ⟨#[], #[.slice none 0 0], []⟩ 8 (by kernel_rfl) (by kernel_rfl) (by kernel_rfl) (by kernel_rfl)) ?_
  intro W base args ds gs before hval0 hW hcnd _
  have hval : ∀ (j : Nat) t v, Try.f3.params[j]? = some t → args[j]? = some v → Value.okWide Try.prog W .any base t v := hval0
  have hW' := hW
  obtain ⟨p, q, hA0, hV, rfl, hfz, hnd⟩ := hW
  have hA : DataW.TrodAll enc Try.prog W 0 (fun _ => true) true Try.f3.params.toList args.toList ds p := hA0
  rw [Try.params3] at hA hval
  obtain ⟨v0, vs0, d0, ds0, p0, q0, hargs, rfl, rfl, h0, r0⟩ := trodAll_cons hA
  obtain ⟨rfl, rfl, rfl⟩ := trodAll_nil r0
  obtain rfl : args = #[v0] := by cases args; simp_all
  obtain ⟨rfl, rfl⟩ := trodVars_none hV
  obtain ⟨ca, bs, cc, rfl, hwf, hmax, hca⟩ := open_slice_ints Try.underlying22 Try.underlying5 cells5 (hval 0 22 v0 rfl rfl) h0
  refine (laws_FnNodes_c ca bs cc W hca hwf).mono fun e W' ⟨v, he, hv, hx⟩ => ?_
  subst he; subst hv
  exact ⟨_, rfl, law_post (tb := 4) hW' rfl rfl Try.underlying4 rfl rfl rfl (by kernel_rfl) hx⟩
theorem fnNodes_holds : Rows.FnNodesSaid :=
  OpenClaim.holds_of_wide 3 Try.f3 rfl rfl rfl rfl rfl rfl rfl ⟨rfl, rfl, rfl, rfl, rfl⟩ rfl rfl rfl rfl rfl (by kernel_rfl) Try.func3 (by kernel_rfl)
    (of_decide_eq_true (by kernel_rfl)) (by unfold Func.isWrapper; first | (rw [if_pos (by decide +kernel)]; kernel_rfl) | (rw [if_neg (by decide +kernel)]; exact ⟨rfl, rfl⟩))
    (fun os started H enc _ => fnNodes_lifted os started H enc)
#print axioms fnNodes_holds

end Go.Proofs.Ytjengglpbdgmnaa
