/- The law FnAlike returns true for all arguments. No condition. -/
import Derived.Test.YteaahdakammffaaZ6Al
import Derived.Test.YteaahdakammffaaZ1Al
import Derived.Test.YteaahdakammffaaZ2Al
import Derived.Test.YteaahdakammffaaZ3Al
import Derived.Test.YteaahdakammffaaZ4Al
import Derived.Test.YteaahdakammffaaZ5Al
import Derived.Test.YteaahdakammffaaRows
namespace Go.Proofs.Yteaahdakammffaa
open Go Go.RowKit V Go.ChangeShapes Go.WideShapes Go.ChangeAt
set_option linter.unusedVariables false
set_option linter.unusedSimpArgs false
set_option maxRecDepth 100000
set_option maxHeartbeats 4000000 in
theorem laws_FnAlike_c (ca : Option Addr) (bs : List Int) (cc : Nat) (w : World) (rcode : CellsAt ca (bs.map (Value.int .u8)) w) (hb : ∀ n ∈ bs, (Lit.int .u8 n).wf = true) :
  Calls Try.prog 9 #[.slice ca bs.length cc] w (Ret fun v w' => v = .bool true ∧ Ext w w') := by
 have kcode : Kn w none_ [] (CellsAt ca (bs.map (Value.int .u8))) := fun w' hs => rcode.ext hs.upd
 refine fn (M := none_) (rs := [.tmp 2]) Try.func9 rfl Try.ntmps9 rfl rfl (Sep.start _ _) ?_
 refine hSeq ?_
 refine hReg (sq 0 sz) (by kernel_rfl) ?_
 refine asB rfl rfl rfl ?_
 refine rNil ?_
 refine qSeq rfl ?_
 refine hSeq ?_
 refine hSeq ?_
 refine hReg (sq 0 (sl 1 sz)) (by kernel_rfl) ?_
 refine mvS rfl rfl rfl ?_
 refine callP (v := .bool (decide (4096 < ((bs.length : Nat) : Int)))) Try.call19 trv rfl rfl (fun w hs => laws_big_c _ _ cc w (kcode w hs)) ?_
 refine rNil ?_
 refine qSeq rfl ?_
 refine hIfD rfl (fun c1 => ?_) (fun c1 => ?_)
 ·
  replace c1 : 4096 < ((bs.length : Nat) : Int) := c1
  refine hSeq ?_
  refine hReg (sq 0 sz) (by kernel_rfl) ?_
  refine asB rfl rfl rfl ?_
  refine rNil ?_
  refine qSeq rfl ?_
  refine hRet ?_
  exact fun w hs => ⟨[.bool true], ⟨rfl, trivial⟩, ⟨by first | rfl | exact (bT (by omega)).symm, hs.upd⟩⟩
 ·
  replace c1 : ¬ (4096 < ((bs.length : Nat) : Int)) := c1
  have hok : okBytes bs := ⟨fun x hx => bounds_u8 (hb x hx), by omega⟩
  refine hSkip ?_
  refine qSeq rfl ?_
  refine hSeq ?_
  refine hReg (sq 0 (sl 1 (sq 2 (sq 3 (sq 4 (sq 5 (sq 6 sz))))))) (by kernel_rfl) ?_
  refine mvS rfl rfl rfl ?_
  refine callS Try.call51 trv1 rfl rfl (fun w hs => spec_DrawAlikeCards_c _ _ cc w (kcode w hs) (by assumption)) ?_
  rintro ⟨ay1, ny1, cy1, Hy1, y1, q1⟩ hr1
  try dsimp only at hr1
  refine rPieces (L' := [OwnR maK 23 2 ay1 ny1 cy1 Hy1 y1]) (fun _ h => h) ?_
  refine rKnow (fun w hs => (show OwnR maK 23 2 ay1 ny1 cy1 Hy1 y1 w from hs.at_ 0 rfl).1) (fun lenn1 => ?_)
  refine rVal (v' := .tuple #[.slice ay1 ny1 cy1, .int .i64 q1]) rfl ?_
  refine mv rfl rfl rfl ?_
  refine ext rfl rfl rfl rfl ?_
  refine ext rfl rfl rfl rfl ?_
  refine asS rfl rfl rfl ?_
  refine asI rfl rfl rfl ?_
  refine rNil ?_
  refine qSeq rfl ?_
  refine hSeq ?_
  refine hReg (sq 0 (sq 1 (sl 2 (sq 3 (sq 4 (sq 5 (sq 6 (sq 7 sz)))))))) (by kernel_rfl) ?_
  refine mvS rfl rfl rfl ?_
  refine mvI rfl rfl rfl ?_
  refine callS Try.call52 trv1 rfl rfl (fun w hs => impl_AlikeCards_c _ ny1 cy1 _ _ _ w (OwnR.rd (hs.at_ 0 rfl) maK.ok)) ?_
  rintro ⟨ay2, ny2, cy2, y2, q2⟩ ⟨hr2a, hr2b⟩
  dsimp only at hr2a hr2b
  subst y2
  subst q2
  refine rPieces (L' := [OwnI 2 ay2 ny2 cy2 (Iso.alY y1 q1), OwnR maK 23 2 ay1 ny1 cy1 Hy1 y1]) (fun _ h => h) ?_
  refine rKnow (fun w hs => (show OwnI 2 ay2 ny2 cy2 (Iso.alY y1 q1) w from hs.at_ 0 rfl).lenz) (fun lenn2 => ?_)
  refine rVal (v' := .tuple #[.slice ay2 ny2 cy2, .int .i64 (Iso.alE y1 q1)]) rfl ?_
  refine mv rfl rfl rfl ?_
  refine ext rfl rfl rfl rfl ?_
  refine ext rfl rfl rfl rfl ?_
  refine asS rfl rfl rfl ?_
  refine asI rfl rfl rfl ?_
  refine rNil ?_
  refine qSeq rfl ?_
  refine hSeq ?_
  refine hReg (sq 0 (sq 1 (sl 2 (sq 3 (sq 4 (sq 5 (sq 6 (sq 7 sz)))))))) (by kernel_rfl) ?_
  refine mvS rfl rfl rfl ?_
  refine mvI rfl rfl rfl ?_
  refine callS Try.call53 trv1 rfl rfl (fun w hs => spec_AlikeCards_c _ ny1 cy1 _ _ _ w (OwnR.rd (hs.at_ 1 rfl) maK.ok)) ?_
  rintro ⟨ay3, ny3, cy3, y3, q3⟩ ⟨hr3a, hr3b⟩
  dsimp only at hr3a hr3b
  subst y3
  subst q3
  refine rPieces (L' := [OwnI 2 ay3 ny3 cy3 (Iso.alY y1 q1), OwnI 2 ay2 ny2 cy2 (Iso.alY y1 q1), OwnR maK 23 2 ay1 ny1 cy1 Hy1 y1]) (fun _ h => h) ?_
  refine rKnow (fun w hs => (show OwnI 2 ay3 ny3 cy3 (Iso.alY y1 q1) w from hs.at_ 0 rfl).lenz) (fun lenn3 => ?_)
  refine rVal (v' := .tuple #[.slice ay3 ny3 cy3, .int .i64 (Iso.alE y1 q1)]) rfl ?_
  refine mv rfl rfl rfl ?_
  refine ext rfl rfl rfl rfl ?_
  refine ext rfl rfl rfl rfl ?_
  refine asS rfl rfl rfl ?_
  refine asI rfl rfl rfl ?_
  refine rNil ?_
  refine qSeq rfl ?_
  refine hSeq ?_
  refine hReg (sq 0 (sl 1 (sq 2 sz))) (by kernel_rfl) ?_
  refine mvS rfl rfl rfl ?_
  refine callS Try.call54 trv1 rfl rfl (fun w hs => spec_DrawNextClasses_c _ _ cc w (Kn.drop (k := 3) kcode w hs) (by assumption)) ?_
  rintro ⟨ay4, ny4, cy4, Hy4, y4⟩ hr4
  try dsimp only at hr4
  refine rPieces (L' := [OwnR maK 23 2 ay4 ny4 cy4 Hy4 y4, OwnI 2 ay3 ny3 cy3 (Iso.alY y1 q1), OwnI 2 ay2 ny2 cy2 (Iso.alY y1 q1), OwnR maK 23 2 ay1 ny1 cy1 Hy1 y1]) (fun _ h => h) ?_
  refine rKnow (fun w hs => (show OwnR maK 23 2 ay4 ny4 cy4 Hy4 y4 w from hs.at_ 0 rfl).1) (fun lenn4 => ?_)
  refine rVal (v' := .slice ay4 ny4 cy4) rfl ?_
  refine asS rfl rfl rfl ?_
  refine rNil ?_
  refine qSeq rfl ?_
  refine hSeq ?_
  refine hReg (sq 0 (sl 1 (sq 2 (sq 3 (sq 4 (sq 5 (sq 6 (sq 7 (sq 8 sz))))))))) (by kernel_rfl) ?_
  refine mvS rfl rfl rfl ?_
  refine callS Try.call46 trv1 rfl rfl (fun w hs => impl_NextClasses_c _ ny4 cy4 _ _ w (OwnR.rd (hs.at_ 0 rfl) maK.ok)) ?_
  rintro ⟨ay5, ny5, cy5, y5, au5, nu5, cu5, u5, e5⟩ ⟨hr5a, hr5b, hr5c⟩
  dsimp only at hr5a hr5b hr5c
  subst y5
  subst u5
  subst e5
  refine rPieces (L' := [OwnI 2 ay5 ny5 cy5 (Iso.nextY y4), OwnI 2 au5 nu5 cu5 (Iso.nextU y4), OwnR maK 23 2 ay4 ny4 cy4 Hy4 y4, OwnI 2 ay3 ny3 cy3 (Iso.alY y1 q1), OwnI 2 ay2 ny2 cy2 (Iso.alY y1 q1), OwnR maK 23 2 ay1 ny1 cy1 Hy1 y1]) (fun _ h => h) ?_
  refine rKnow (fun w hs => (show OwnI 2 ay5 ny5 cy5 (Iso.nextY y4) w from hs.at_ 0 rfl).lenz) (fun lenn5 => ?_)
  refine rKnow (fun w hs => (show OwnI 2 au5 nu5 cu5 (Iso.nextU y4) w from hs.at_ 1 rfl).lenz) (fun lenn6 => ?_)
  refine rVal (v' := .tuple #[.slice ay5 ny5 cy5, .slice au5 nu5 cu5, .int .i64 (Iso.codeS y4)]) rfl ?_
  refine mv rfl rfl rfl ?_
  refine ext rfl rfl rfl rfl ?_
  refine ext rfl rfl rfl rfl ?_
  refine ext rfl rfl rfl rfl ?_
  refine asS rfl rfl rfl ?_
  refine asS rfl rfl rfl ?_
  refine asI rfl rfl rfl ?_
  refine rNil ?_
  refine qSeq rfl ?_
  refine hSeq ?_
  refine hReg (sq 0 (sl 1 (sq 2 (sq 3 (sq 4 (sq 5 (sq 6 (sq 7 (sq 8 sz))))))))) (by kernel_rfl) ?_
  refine mvS rfl rfl rfl ?_
  refine callS Try.call45 trv1 rfl rfl (fun w hs => spec_NextClasses_c _ ny4 cy4 _ _ w (OwnR.rd (hs.at_ 2 rfl) maK.ok)) ?_
  rintro ⟨ay6, ny6, cy6, y6, au6, nu6, cu6, u6, e6⟩ ⟨hr6a, hr6b, hr6c⟩
  dsimp only at hr6a hr6b hr6c
  subst y6
  subst u6
  subst e6
  refine rPieces (L' := [OwnI 2 ay6 ny6 cy6 (Iso.nextY y4), OwnI 2 au6 nu6 cu6 (Iso.nextU y4), OwnI 2 ay5 ny5 cy5 (Iso.nextY y4), OwnI 2 au5 nu5 cu5 (Iso.nextU y4), OwnR maK 23 2 ay4 ny4 cy4 Hy4 y4, OwnI 2 ay3 ny3 cy3 (Iso.alY y1 q1), OwnI 2 ay2 ny2 cy2 (Iso.alY y1 q1), OwnR maK 23 2 ay1 ny1 cy1 Hy1 y1]) (fun _ h => h) ?_
  refine rKnow (fun w hs => (show OwnI 2 ay6 ny6 cy6 (Iso.nextY y4) w from hs.at_ 0 rfl).lenz) (fun lenn7 => ?_)
  refine rKnow (fun w hs => (show OwnI 2 au6 nu6 cu6 (Iso.nextU y4) w from hs.at_ 1 rfl).lenz) (fun lenn8 => ?_)
  refine rVal (v' := .tuple #[.slice ay6 ny6 cy6, .slice au6 nu6 cu6, .int .i64 (Iso.codeS y4)]) rfl ?_
  refine mv rfl rfl rfl ?_
  refine ext rfl rfl rfl rfl ?_
  refine ext rfl rfl rfl rfl ?_
  refine ext rfl rfl rfl rfl ?_
  refine asS rfl rfl rfl ?_
  refine asS rfl rfl rfl ?_
  refine asI rfl rfl rfl ?_
  refine rNil ?_
  refine qSeq rfl ?_
  refine hSeq ?_
  refine hSeq ?_
  refine hReg (sq 0 (sq 1 (sq 2 (sq 3 (sq 4 (sq 5 (sl 6 (sq 7 (sq 8 (sq 9 (sq 10 (sq 11 (sq 12 (sq 13 (sq 14 (sq 15 (sq 16 (sl 17 (sq 18 (sq 19 (sq 20 (sq 21 (sq 22 (sl 23 (sq 24 (sq 25 sz)))))))))))))))))))))))))) (by kernel_rfl) ?_
  refine mvI rfl rfl rfl ?_
  refine mvI rfl rfl rfl ?_
  refine neq rfl rfl rfl rfl ?_
  refine mvB rfl rfl rfl ?_
  refine rBoolD (d := 59) rfl (fun g2 => ?_) (fun g2 => ?_)
  ·
   replace g2 : (Iso.alE y1 q1) ≠ (Iso.alE y1 q1) := g2
   exact absurd rfl g2
  ·
   replace g2 : ¬ ((Iso.alE y1 q1) ≠ (Iso.alE y1 q1)) := g2
   refine mvS rfl rfl rfl ?_
   refine mvS rfl rfl rfl ?_
   refine callP (v := .bool true) Try.call23 trv rfl rfl (fun w hs => laws_likeInts_c _ ny2 cy2 _ _ ny3 cy3 _ w (OwnI.rd (hs.at_ 6 rfl)) (OwnI.rd (hs.at_ 5 rfl)) (by first | rfl | assumption | (rw [heq]) | (simp only [*]))) ?_
   refine not rfl rfl rfl ?_
   refine pickB rfl rfl rfl rfl ?_
   refine mvB rfl rfl rfl ?_
   refine mvI rfl rfl rfl ?_
   refine mvI rfl rfl rfl ?_
   refine neq rfl rfl rfl rfl ?_
   refine pickB rfl rfl rfl rfl ?_
   refine mvB rfl rfl rfl ?_
   refine rBoolD (d := 70) rfl (fun g3 => ?_) (fun g3 => ?_)
   ·
    replace g3 : (Iso.codeS y4) ≠ (Iso.codeS y4) := g3
    exact absurd rfl g3
   ·
    replace g3 : ¬ ((Iso.codeS y4) ≠ (Iso.codeS y4)) := g3
    refine mvS rfl rfl rfl ?_
    refine mvS rfl rfl rfl ?_
    refine callP (v := .bool true) Try.call23 trv rfl rfl (fun w hs => laws_likeInts_c _ ny5 cy5 _ _ ny6 cy6 _ w (OwnI.rd (hs.at_ 2 rfl)) (OwnI.rd (hs.at_ 0 rfl)) (by first | rfl | assumption | (rw [heq]) | (simp only [*]))) ?_
    refine not rfl rfl rfl ?_
    refine pickB rfl rfl rfl rfl ?_
    refine mvB rfl rfl rfl ?_
    refine mvS rfl rfl rfl ?_
    refine mvS rfl rfl rfl ?_
    refine callP (v := .bool true) Try.call23 trv rfl rfl (fun w hs => laws_likeInts_c _ nu5 cu5 _ _ nu6 cu6 _ w (OwnI.rd (hs.at_ 3 rfl)) (OwnI.rd (hs.at_ 1 rfl)) (by first | rfl | assumption | (rw [heq]) | (simp only [*]))) ?_
    refine not rfl rfl rfl ?_
    refine pickB rfl rfl rfl rfl ?_
    refine rNil ?_
    refine qSeq rfl ?_
    refine hIfF rfl ?_
    refine hSkip ?_
    refine qSeq rfl ?_
    refine hSeq ?_
    refine hSeq ?_
    refine hReg (sq 0 (sq 1 sz)) (by kernel_rfl) ?_
    refine mvI rfl rfl rfl ?_
    refine eql rfl rfl rfl rfl ?_
    refine rNil ?_
    refine qSeq rfl ?_
    refine hIfD rfl (fun c4 => ?_) (fun c4 => ?_)
    ·
     replace c4 : (Iso.codeS y4) = 0 := c4
     refine hSeq ?_
     refine hReg (sq 0 sz) (by kernel_rfl) ?_
     refine asI rfl rfl rfl ?_
     refine rNil ?_
     refine qSeq rfl ?_
     refine hSeq ?_
     refine hSeq ?_
     refine hReg (sq 0 sz) (by kernel_rfl) ?_
     refine asI rfl rfl rfl ?_
     refine rNil ?_
     refine qSeq rfl ?_
     refine hBlk ?_
     refine hLoop (α := Nat × Nat) (fun x => x.1 ≤ 52 ∧ x.2 + (Iso.unused y4 x.1).length = x.1) (fun x => 52 - x.1) (fun x => [OwnI 2 ay6 ny6 cy6 (Iso.nextY y4), OwnI 2 au6 nu6 cu6 (Iso.nextU y4), OwnI 2 ay5 ny5 cy5 (Iso.nextY y4), OwnI 2 au5 nu5 cu5 (Iso.nextU y4), OwnR maK 23 2 ay4 ny4 cy4 Hy4 y4, OwnI 2 ay3 ny3 cy3 (Iso.alY y1 q1), OwnI 2 ay2 ny2 cy2 (Iso.alY y1 q1), OwnR maK 23 2 ay1 ny1 cy1 Hy1 y1]) (fun x => [(3, .slice ay1 ny1 cy1), (4, .int .i64 q1), (5, .slice ay2 ny2 cy2), (6, .int .i64 (Iso.alE y1 q1)), (7, .slice ay3 ny3 cy3), (9, .slice ay4 ny4 cy4), (11, .slice au5 nu5 cu5), (16, .int .i64 (x.2 : Int)), (17, .int .i64 (x.1 : Int))]) (0, 0) ⟨Nat.zero_le _, rfl⟩ (fun _ h => h.pick [0, 0, 0, 0, 0, 0, 0, 0]) ⟨rfl, rfl, rfl, rfl, rfl, rfl, rfl, rfl, rfl, trivial⟩ ?_
     rintro ⟨k, u⟩ τ1 ⟨hk, hku⟩
     dsimp only at hk hku
     refine hRe [(3, .slice ay1 ny1 cy1), (4, .int .i64 q1), (5, .slice ay2 ny2 cy2), (6, .int .i64 (Iso.alE y1 q1)), (7, .slice ay3 ny3 cy3), (9, .slice ay4 ny4 cy4), (11, .slice au5 nu5 cu5), (16, .int .i64 (u : Int)), (17, .int .i64 (k : Int))] [OwnI 2 ay6 ny6 cy6 (Iso.nextY y4), OwnI 2 au6 nu6 cu6 (Iso.nextU y4), OwnI 2 ay5 ny5 cy5 (Iso.nextY y4), OwnI 2 au5 nu5 cu5 (Iso.nextU y4), OwnR maK 23 2 ay4 ny4 cy4 Hy4 y4, OwnI 2 ay3 ny3 cy3 (Iso.alY y1 q1), OwnI 2 ay2 ny2 cy2 (Iso.alY y1 q1), OwnR maK 23 2 ay1 ny1 cy1 Hy1 y1] rfl rfl ?_
     refine hSeq ?_
     refine hSeq ?_
     refine hReg (sq 0 (sq 1 sz)) (by kernel_rfl) ?_
     refine mvI rfl rfl rfl ?_
     refine lss rfl rfl rfl rfl ?_
     refine rNil ?_
     refine qSeq rfl ?_
     refine hIfD rfl (fun c5 => ?_) (fun c5 => ?_)
     ·
      replace c5 : (k : Int) < 52 := c5
      refine hSkip ?_
      refine qSeq rfl ?_
      refine hSeq ?_
      refine hBlk ?_
      refine hSeq ?_
      refine hReg (sq 0 sz) (by kernel_rfl) ?_
      refine asB rfl rfl rfl ?_
      refine rNil ?_
      refine qSeq rfl ?_
      refine hSeq ?_
      refine hSeq ?_
      refine hReg (sq 0 sz) (by kernel_rfl) ?_
      refine asI rfl rfl rfl ?_
      refine rNil ?_
      refine qSeq rfl ?_
      refine hBlk ?_
      refine hLoop (α := Nat × Bool) (fun x => x.1 ≤ ny4 ∧ x.2 = (y4.take x.1).any (fun s => s.contains (k : Int))) (fun x => ny4 - x.1) (fun x => [OwnI 2 ay6 ny6 cy6 (Iso.nextY y4), OwnI 2 au6 nu6 cu6 (Iso.nextU y4), OwnI 2 ay5 ny5 cy5 (Iso.nextY y4), OwnI 2 au5 nu5 cu5 (Iso.nextU y4), OwnR maK 23 2 ay4 ny4 cy4 Hy4 y4, OwnI 2 ay3 ny3 cy3 (Iso.alY y1 q1), OwnI 2 ay2 ny2 cy2 (Iso.alY y1 q1), OwnR maK 23 2 ay1 ny1 cy1 Hy1 y1]) (fun x => [(3, .slice ay1 ny1 cy1), (4, .int .i64 q1), (5, .slice ay2 ny2 cy2), (6, .int .i64 (Iso.alE y1 q1)), (7, .slice ay3 ny3 cy3), (9, .slice ay4 ny4 cy4), (11, .slice au5 nu5 cu5), (16, .int .i64 (u : Int)), (17, .int .i64 (k : Int)), (18, .bool x.2), (19, .int .i64 (x.1 : Int))]) (0, false) ⟨Nat.zero_le _, rfl⟩ (fun _ h => h.pick [0, 0, 0, 0, 0, 0, 0, 0]) ⟨rfl, rfl, rfl, rfl, rfl, rfl, rfl, rfl, rfl, rfl, rfl, trivial⟩ ?_
      rintro ⟨i, b⟩ τ2 ⟨hi, hb_⟩
      dsimp only at hi hb_
      refine hRe [(3, .slice ay1 ny1 cy1), (4, .int .i64 q1), (5, .slice ay2 ny2 cy2), (6, .int .i64 (Iso.alE y1 q1)), (7, .slice ay3 ny3 cy3), (9, .slice ay4 ny4 cy4), (11, .slice au5 nu5 cu5), (16, .int .i64 (u : Int)), (17, .int .i64 (k : Int)), (18, .bool b), (19, .int .i64 (i : Int))] [OwnI 2 ay6 ny6 cy6 (Iso.nextY y4), OwnI 2 au6 nu6 cu6 (Iso.nextU y4), OwnI 2 ay5 ny5 cy5 (Iso.nextY y4), OwnI 2 au5 nu5 cu5 (Iso.nextU y4), OwnR maK 23 2 ay4 ny4 cy4 Hy4 y4, OwnI 2 ay3 ny3 cy3 (Iso.alY y1 q1), OwnI 2 ay2 ny2 cy2 (Iso.alY y1 q1), OwnR maK 23 2 ay1 ny1 cy1 Hy1 y1] rfl rfl ?_
      refine hSeq ?_
      refine hSeq ?_
      refine hReg (sq 0 (sq 1 (sq 2 (sq 3 sz)))) (by kernel_rfl) ?_
      refine mvI rfl rfl rfl ?_
      refine mvS rfl rfl rfl ?_
      refine lenS Try.runUnderlying22 rfl rfl rfl ?_
      refine lss rfl rfl rfl rfl ?_
      refine rNil ?_
      refine qSeq rfl ?_
      refine hIfD rfl (fun c6 => ?_) (fun c6 => ?_)
      ·
       replace c6 : (i : Int) < (ny4 : Int) := c6
       refine hSkip ?_
       refine qSeq rfl ?_
       refine hSeq ?_
       refine hBlk ?_
       refine hReg (sq 0 (sq 1 (sq 2 (sq 3 (sq 4 (sl 5 (sq 6 (sl 7 (sq 8 (sq 9 sz)))))))))) (by kernel_rfl) ?_
       refine mvB rfl rfl rfl ?_
       refine mvB rfl rfl rfl ?_
       refine rBool (d := 95) rfl (fun g7 => ?_) (fun g7 => ?_)
       ·
        replace g7 : b = true := g7
        refine rSkipQ rfl rfl ?_
        refine rSkipQ rfl rfl ?_
        refine rSkipQ rfl rfl ?_
        refine rSkipL trv rfl rfl ?_
        refine rSkipQ rfl rfl ?_
        refine rSkipL trv rfl rfl ?_
        refine pickB rfl rfl rfl rfl ?_
        refine asB rfl rfl rfl ?_
        refine rNil ?_
        refine qSeq rfl ?_
        refine hReg (sq 0 (sq 1 (sq 2 sz))) (by kernel_rfl) ?_
        refine mvI rfl rfl rfl ?_
        refine add rfl rfl rfl rfl (by first | omega | (dsimp only; omega)) ?_
        refine asI rfl rfl rfl ?_
        refine rNil ?_
        exact qNext rfl (i + 1, true) (by dsimp only; omega) ⟨by dsimp only; omega, by dsimp only; rw [Iso.any_take _ (by omega), ← hb_, show b = true by assumption]; rfl⟩ ⟨rfl, rfl, rfl, rfl, rfl, rfl, rfl, rfl, rfl, rfl, rfl, trivial⟩ (fun _ h => h.pick [0, 0, 0, 0, 0, 0, 0, 0])
       ·
        replace g7 : b = false := g7
        refine mvS rfl rfl rfl ?_
        refine mvI rfl rfl rfl ?_
        refine ixRl (zn := i) (y4.getD i []) el22 ((Kn.at_ 4 rfl).imp fun _ h => OwnR.rd h maK.ok) rfl rfl rfl rfl (by omega) (by omega) rfl (nth [] (by omega)) ?_
        intro be7 oe7 e7
        refine ldl Try.isAgg23 (Kn.fld e7 0 rfl) trv rfl rfl rfl ?_
        refine mvI rfl rfl rfl ?_
        refine callP (v := .bool (((y4.getD i []).contains (k : Int)))) Try.call29 trv rfl rfl (fun w hs => laws_hasInt_c _ ((y4.getD i []).length) ((Hy4 i).2) _ _ w ((Kn.imp ((Kn.at_ (φ := OwnR maK 23 2 ay4 ny4 cy4 Hy4 y4) 4 rfl).imp fun _ h => OwnR.rd h maK.ok) fun _ h => h.kidM (nth [] (by omega))) w hs)) ?_
        refine pickB rfl rfl rfl rfl ?_
        refine asB rfl rfl rfl ?_
        refine rNil ?_
        refine qSeq rfl ?_
        refine hReg (sq 0 (sq 1 (sq 2 sz))) (by kernel_rfl) ?_
        refine mvI rfl rfl rfl ?_
        refine add rfl rfl rfl rfl (by first | omega | (dsimp only; omega)) ?_
        refine asI rfl rfl rfl ?_
        refine rNil ?_
        exact qNext rfl ((i + 1, ((y4.getD i []).contains (k : Int)))) (by dsimp only; omega) ⟨by dsimp only; omega, by dsimp only; rw [Iso.any_take _ (by omega), ← hb_, show b = false by assumption]; rfl⟩ ⟨rfl, rfl, rfl, rfl, rfl, rfl, rfl, rfl, rfl, rfl, rfl, trivial⟩ (fun _ h => h.pick [0, 0, 0, 0, 0, 0, 0, 0])
      ·
       replace c6 : ¬ ((i : Int) < (ny4 : Int)) := c6
       have hfa : y4.flatten.contains (k : Int) = b := by rw [hb_, Iso.flat_any, List.take_of_length_le (by omega)]
       refine hExit rfl ?_
       refine qSeq rfl ?_
       refine hSeq ?_
       refine hReg (sq 0 sz) (by kernel_rfl) ?_
       refine mvB rfl rfl rfl ?_
       refine rNil ?_
       refine qSeq rfl ?_
       refine hIf rfl (fun c8 => ?_) (fun c8 => ?_)
       ·
        replace c8 : b = true := c8
        have hth : y4.flatten.contains (k : Int) = true := by rw [hfa]; exact c8
        refine hReg (sq 0 (sq 1 (sq 2 sz))) (by kernel_rfl) ?_
        refine mvI rfl rfl rfl ?_
        refine add rfl rfl rfl rfl (by first | omega | (dsimp only; omega)) ?_
        refine asI rfl rfl rfl ?_
        refine rNil ?_
        refine qSeq rfl ?_
        refine hReg (sq 0 (sq 1 (sq 2 sz))) (by kernel_rfl) ?_
        refine mvI rfl rfl rfl ?_
        refine add rfl rfl rfl rfl (by first | omega | (dsimp only; omega)) ?_
        refine asI rfl rfl rfl ?_
        refine rNil ?_
        exact qNext rfl (k + 1, u + 1) (by dsimp only; omega) ⟨by dsimp only; omega, by dsimp only; rw [Iso.unused_yes hth]; omega⟩ ⟨rfl, rfl, rfl, rfl, rfl, rfl, rfl, rfl, rfl, trivial⟩ (fun _ h => h.pick [0, 0, 0, 0, 0, 0, 0, 0])
       ·
        replace c8 : b = false := c8
        have hth : y4.flatten.contains (k : Int) = false := by rw [hfa]; exact c8
        refine hSkip ?_
        refine qSeq rfl ?_
        refine hReg (sq 0 (sq 1 (sq 2 sz))) (by kernel_rfl) ?_
        refine mvI rfl rfl rfl ?_
        refine add rfl rfl rfl rfl (by first | omega | (dsimp only; omega)) ?_
        refine asI rfl rfl rfl ?_
        refine rNil ?_
        exact qNext rfl (k + 1, u) (by dsimp only; omega) ⟨by dsimp only; omega, by dsimp only; have := Iso.unused_no hth; omega⟩ ⟨rfl, rfl, rfl, rfl, rfl, rfl, rfl, rfl, rfl, trivial⟩ (fun _ h => h.pick [0, 0, 0, 0, 0, 0, 0, 0])
     ·
      replace c5 : ¬ ((k : Int) < 52) := c5
      have hku2 : u + (Iso.unused y4 52).length = 52 := by have := hku; rwa [show k = 52 by omega] at this
      have hsum : (Iso.nextU y4).sum = 52 - (u : Int) := by rw [Iso.nextU_yes c4, Iso.siz_sum]; omega
      refine hExit rfl ?_
      refine qSeq rfl ?_
      refine hSeq ?_
      refine hReg (sq 0 (sl 1 (sq 2 (sq 3 (sq 4 sz))))) (by kernel_rfl) ?_
      refine mvS rfl rfl rfl ?_
      refine callP (v := .int .i64 ((Iso.nextU y4).sum)) Try.call55 trv rfl rfl (fun w hs => laws_sum_c _ nu5 cu5 _ w (OwnI.rd (hs.at_ 3 rfl)) (fun x hx => by have := Iso.nextU_bd x hx; omega) (by have := Iso.nextU_len y4; omega)) ?_
      refine mvI rfl rfl rfl ?_
      refine sub rfl rfl rfl rfl (by first | omega | (dsimp only; omega)) ?_
      refine neq rfl rfl rfl rfl ?_
      refine rNil ?_
      refine qSeq rfl ?_
      refine hIfD rfl (fun c9 => ?_) (fun c9 => ?_)
      ·
       replace c9 : (Iso.nextU y4).sum ≠ (52 - (u : Int)) := c9
       exact absurd hsum c9
      ·
       replace c9 : ¬ ((Iso.nextU y4).sum ≠ (52 - (u : Int))) := c9
       refine hSkip ?_
       refine qSeq rfl ?_
       refine hSeq ?_
       refine hSeq ?_
       refine hReg (sq 0 (sq 1 sz)) (by kernel_rfl) ?_
       refine mvI rfl rfl rfl ?_
       refine neq rfl rfl rfl rfl ?_
       refine rNil ?_
       refine qSeq rfl ?_
       refine hIfD rfl (fun c10 => ?_) (fun c10 => ?_)
       ·
        replace c10 : (Iso.alE y1 q1) ≠ 0 := c10
        refine hSeq ?_
        refine hReg (sq 0 sz) (by kernel_rfl) ?_
        refine asB rfl rfl rfl ?_
        refine rNil ?_
        refine qSeq rfl ?_
        refine hRet ?_
        exact fun w hs => ⟨[.bool true], ⟨rfl, trivial⟩, ⟨by first | rfl | exact (bT (by omega)).symm, hs.upd⟩⟩
       ·
        replace c10 : ¬ ((Iso.alE y1 q1) ≠ 0) := c10
        have hal0 : Iso.alE y1 q1 = 0 := by simpa using c10
        have hal52 := Iso.alY_len y1 q1
        refine hSkip ?_
        refine qSeq rfl ?_
        refine hSeq ?_
        refine hSeq ?_
        refine hReg (sq 0 sz) (by kernel_rfl) ?_
        refine asI rfl rfl rfl ?_
        refine rNil ?_
        refine qSeq rfl ?_
        refine hBlk ?_
        refine hLoop (α := Nat) (fun j => j ≤ ny3) (fun j => ny3 - j) (fun j => [OwnI 2 ay6 ny6 cy6 (Iso.nextY y4), OwnI 2 au6 nu6 cu6 (Iso.nextU y4), OwnI 2 ay5 ny5 cy5 (Iso.nextY y4), OwnI 2 au5 nu5 cu5 (Iso.nextU y4), OwnR maK 23 2 ay4 ny4 cy4 Hy4 y4, OwnI 2 ay3 ny3 cy3 (Iso.alY y1 q1), OwnI 2 ay2 ny2 cy2 (Iso.alY y1 q1), OwnR maK 23 2 ay1 ny1 cy1 Hy1 y1]) (fun j => [(3, .slice ay1 ny1 cy1), (4, .int .i64 q1), (5, .slice ay2 ny2 cy2), (7, .slice ay3 ny3 cy3), (20, .int .i64 (j : Int))]) 0 (Nat.zero_le _) (fun _ h => h.pick [0, 0, 0, 0, 0, 0, 0, 0]) ⟨rfl, rfl, rfl, rfl, rfl, trivial⟩ ?_
        rintro j τ3 hj
        refine hSeq ?_
        refine hSeq ?_
        refine hReg (sq 0 (sq 1 (sq 2 (sq 3 sz)))) (by kernel_rfl) ?_
        refine mvI rfl rfl rfl ?_
        refine mvS rfl rfl rfl ?_
        refine lenS Try.runUnderlying23 rfl rfl rfl ?_
        refine lss rfl rfl rfl rfl ?_
        refine rNil ?_
        refine qSeq rfl ?_
        refine hIfD rfl (fun c11 => ?_) (fun c11 => ?_)
        ·
         replace c11 : (j : Int) < (ny3 : Int) := c11
         have has := Iso.alY_same (z := y1) (c := q1) (i := j) hal0 (by omega)
         refine hSkip ?_
         refine qSeq rfl ?_
         refine hSeq ?_
         refine hBlk ?_
         refine hSeq ?_
         refine hReg (sq 0 (sq 1 (sq 2 (sq 3 (sl 4 (sl 5 (sq 6 (sq 7 (sq 8 (sq 9 (sq 10 sz))))))))))) (by kernel_rfl) ?_
         refine mvS rfl rfl rfl ?_
         refine mvS rfl rfl rfl ?_
         refine mvI rfl rfl rfl ?_
         refine ixIl (zn := j) el23 ((Kn.at_ 5 rfl).imp fun _ h => OwnI.rd h) rfl rfl rfl rfl (by omega) (by omega) rfl ?_
         intro ae8 e8
         refine ldl Try.isAgg2 (e8) trv rfl rfl rfl ?_
         refine callS Try.call52 trv1 rfl rfl (fun w hs => impl_AlikeCards_c _ ny1 cy1 _ _ _ w (OwnR.rd (hs.at_ 7 rfl) maK.ok)) ?_
         rintro ⟨ay9, ny9, cy9, y9, q9⟩ ⟨hr9a, hr9b⟩
         dsimp only at hr9a hr9b
         subst y9
         subst q9
         refine rPieces (L' := [OwnI 2 ay9 ny9 cy9 (((Iso.alY y1 (((Iso.alY y1 q1).getD j 0))))), OwnI 2 ay6 ny6 cy6 (Iso.nextY y4), OwnI 2 au6 nu6 cu6 (Iso.nextU y4), OwnI 2 ay5 ny5 cy5 (Iso.nextY y4), OwnI 2 au5 nu5 cu5 (Iso.nextU y4), OwnR maK 23 2 ay4 ny4 cy4 Hy4 y4, OwnI 2 ay3 ny3 cy3 (Iso.alY y1 q1), OwnI 2 ay2 ny2 cy2 (Iso.alY y1 q1), OwnR maK 23 2 ay1 ny1 cy1 Hy1 y1]) (fun _ h => h) ?_
         refine rKnow (fun w hs => (show OwnI 2 ay9 ny9 cy9 (((Iso.alY y1 (((Iso.alY y1 q1).getD j 0))))) w from hs.at_ 0 rfl).lenz) (fun lenn9 => ?_)
         refine rVal (v' := .tuple #[.slice ay9 ny9 cy9, .int .i64 (((Iso.alE y1 (((Iso.alY y1 q1).getD j 0)))))]) rfl ?_
         refine mv rfl rfl rfl ?_
         refine ext rfl rfl rfl rfl ?_
         refine ext rfl rfl rfl rfl ?_
         refine asS rfl rfl rfl ?_
         refine asI rfl rfl rfl ?_
         refine rNil ?_
         refine qSeq rfl ?_
         refine hSeq ?_
         refine hReg (sq 0 (sq 1 (sq 2 (sq 3 (sq 4 (sl 5 (sq 6 (sq 7 sz)))))))) (by kernel_rfl) ?_
         refine mvI rfl rfl rfl ?_
         refine neq rfl rfl rfl rfl ?_
         refine mvB rfl rfl rfl ?_
         refine rBoolD (d := 130) rfl (fun g12 => ?_) (fun g12 => ?_)
         ·
          replace g12 : ((Iso.alE y1 (((Iso.alY y1 q1).getD j 0)))) ≠ 0 := g12
          exact absurd has.1 g12
         ·
          replace g12 : ¬ (((Iso.alE y1 (((Iso.alY y1 q1).getD j 0)))) ≠ 0) := g12
          refine mvS rfl rfl rfl ?_
          refine mvS rfl rfl rfl ?_
          refine callP (v := .bool true) Try.call23 trv rfl rfl (fun w hs => laws_likeInts_c _ ny9 cy9 _ _ ny2 cy2 _ w (OwnI.rd (hs.at_ 0 rfl)) (OwnI.rd (hs.at_ 7 rfl)) has.2) ?_
          refine not rfl rfl rfl ?_
          refine pickB rfl rfl rfl rfl ?_
          refine rNil ?_
          refine qSeq rfl ?_
          refine hIfF rfl ?_
          refine hSkip ?_
          refine qSeq rfl ?_
          refine hReg (sq 0 (sq 1 (sq 2 sz))) (by kernel_rfl) ?_
          refine mvI rfl rfl rfl ?_
          refine add rfl rfl rfl rfl (by first | omega | (dsimp only; omega)) ?_
          refine asI rfl rfl rfl ?_
          refine rNil ?_
          exact qNext rfl (j + 1) (by omega) (by omega) ⟨rfl, rfl, rfl, rfl, rfl, trivial⟩ (fun _ h => h.pick [1, 1, 1, 1, 1, 1, 1, 1])
        ·
         replace c11 : ¬ ((j : Int) < (ny3 : Int)) := c11
         refine hExit rfl ?_
         refine qSeq rfl ?_
         refine hSeq ?_
         refine hReg (sq 0 (sq 1 (sl 2 (sq 3 sz)))) (by kernel_rfl) ?_
         refine mvS rfl rfl rfl ?_
         refine mvI rfl rfl rfl ?_
         refine callP (v := .bool (((Iso.alY y1 q1).contains q1))) Try.call29 trv rfl rfl (fun w hs => laws_hasInt_c _ ny2 cy2 _ _ w (OwnI.rd (hs.at_ 6 rfl))) ?_
         refine asB rfl rfl rfl ?_
         refine rNil ?_
         refine qSeq rfl ?_
         refine hRet ?_
         exact fun w hs => ⟨[.bool (((Iso.alY y1 q1).contains q1))], ⟨rfl, trivial⟩, ⟨bB (Iso.alY_has hal0), hs.upd⟩⟩
    ·
     replace c4 : ¬ ((Iso.codeS y4) = 0) := c4
     refine hSkip ?_
     refine qSeq rfl ?_
     refine hSeq ?_
     refine hSeq ?_
     refine hReg (sq 0 (sq 1 sz)) (by kernel_rfl) ?_
     refine mvI rfl rfl rfl ?_
     refine neq rfl rfl rfl rfl ?_
     refine rNil ?_
     refine qSeq rfl ?_
     refine hIfD rfl (fun c13 => ?_) (fun c13 => ?_)
     ·
      replace c13 : (Iso.alE y1 q1) ≠ 0 := c13
      refine hSeq ?_
      refine hReg (sq 0 sz) (by kernel_rfl) ?_
      refine asB rfl rfl rfl ?_
      refine rNil ?_
      refine qSeq rfl ?_
      refine hRet ?_
      exact fun w hs => ⟨[.bool true], ⟨rfl, trivial⟩, ⟨by first | rfl | exact (bT (by omega)).symm, hs.upd⟩⟩
     ·
      replace c13 : ¬ ((Iso.alE y1 q1) ≠ 0) := c13
      have hal0 : Iso.alE y1 q1 = 0 := by simpa using c13
      have hal52 := Iso.alY_len y1 q1
      refine hSkip ?_
      refine qSeq rfl ?_
      refine hSeq ?_
      refine hSeq ?_
      refine hReg (sq 0 sz) (by kernel_rfl) ?_
      refine asI rfl rfl rfl ?_
      refine rNil ?_
      refine qSeq rfl ?_
      refine hBlk ?_
      refine hLoop (α := Nat) (fun j => j ≤ ny3) (fun j => ny3 - j) (fun j => [OwnI 2 ay6 ny6 cy6 (Iso.nextY y4), OwnI 2 au6 nu6 cu6 (Iso.nextU y4), OwnI 2 ay5 ny5 cy5 (Iso.nextY y4), OwnI 2 au5 nu5 cu5 (Iso.nextU y4), OwnR maK 23 2 ay4 ny4 cy4 Hy4 y4, OwnI 2 ay3 ny3 cy3 (Iso.alY y1 q1), OwnI 2 ay2 ny2 cy2 (Iso.alY y1 q1), OwnR maK 23 2 ay1 ny1 cy1 Hy1 y1]) (fun j => [(3, .slice ay1 ny1 cy1), (4, .int .i64 q1), (5, .slice ay2 ny2 cy2), (7, .slice ay3 ny3 cy3), (20, .int .i64 (j : Int))]) 0 (Nat.zero_le _) (fun _ h => h.pick [0, 0, 0, 0, 0, 0, 0, 0]) ⟨rfl, rfl, rfl, rfl, rfl, trivial⟩ ?_
      rintro j τ4 hj
      refine hSeq ?_
      refine hSeq ?_
      refine hReg (sq 0 (sq 1 (sq 2 (sq 3 sz)))) (by kernel_rfl) ?_
      refine mvI rfl rfl rfl ?_
      refine mvS rfl rfl rfl ?_
      refine lenS Try.runUnderlying23 rfl rfl rfl ?_
      refine lss rfl rfl rfl rfl ?_
      refine rNil ?_
      refine qSeq rfl ?_
      refine hIfD rfl (fun c14 => ?_) (fun c14 => ?_)
      ·
       replace c14 : (j : Int) < (ny3 : Int) := c14
       have has := Iso.alY_same (z := y1) (c := q1) (i := j) hal0 (by omega)
       refine hSkip ?_
       refine qSeq rfl ?_
       refine hSeq ?_
       refine hBlk ?_
       refine hSeq ?_
       refine hReg (sq 0 (sq 1 (sq 2 (sq 3 (sl 4 (sl 5 (sq 6 (sq 7 (sq 8 (sq 9 (sq 10 sz))))))))))) (by kernel_rfl) ?_
       refine mvS rfl rfl rfl ?_
       refine mvS rfl rfl rfl ?_
       refine mvI rfl rfl rfl ?_
       refine ixIl (zn := j) el23 ((Kn.at_ 5 rfl).imp fun _ h => OwnI.rd h) rfl rfl rfl rfl (by omega) (by omega) rfl ?_
       intro ae10 e10
       refine ldl Try.isAgg2 (e10) trv rfl rfl rfl ?_
       refine callS Try.call52 trv1 rfl rfl (fun w hs => impl_AlikeCards_c _ ny1 cy1 _ _ _ w (OwnR.rd (hs.at_ 7 rfl) maK.ok)) ?_
       rintro ⟨ay11, ny11, cy11, y11, q11⟩ ⟨hr11a, hr11b⟩
       dsimp only at hr11a hr11b
       subst y11
       subst q11
       refine rPieces (L' := [OwnI 2 ay11 ny11 cy11 (((Iso.alY y1 (((Iso.alY y1 q1).getD j 0))))), OwnI 2 ay6 ny6 cy6 (Iso.nextY y4), OwnI 2 au6 nu6 cu6 (Iso.nextU y4), OwnI 2 ay5 ny5 cy5 (Iso.nextY y4), OwnI 2 au5 nu5 cu5 (Iso.nextU y4), OwnR maK 23 2 ay4 ny4 cy4 Hy4 y4, OwnI 2 ay3 ny3 cy3 (Iso.alY y1 q1), OwnI 2 ay2 ny2 cy2 (Iso.alY y1 q1), OwnR maK 23 2 ay1 ny1 cy1 Hy1 y1]) (fun _ h => h) ?_
       refine rKnow (fun w hs => (show OwnI 2 ay11 ny11 cy11 (((Iso.alY y1 (((Iso.alY y1 q1).getD j 0))))) w from hs.at_ 0 rfl).lenz) (fun lenn10 => ?_)
       refine rVal (v' := .tuple #[.slice ay11 ny11 cy11, .int .i64 (((Iso.alE y1 (((Iso.alY y1 q1).getD j 0)))))]) rfl ?_
       refine mv rfl rfl rfl ?_
       refine ext rfl rfl rfl rfl ?_
       refine ext rfl rfl rfl rfl ?_
       refine asS rfl rfl rfl ?_
       refine asI rfl rfl rfl ?_
       refine rNil ?_
       refine qSeq rfl ?_
       refine hSeq ?_
       refine hReg (sq 0 (sq 1 (sq 2 (sq 3 (sq 4 (sl 5 (sq 6 (sq 7 sz)))))))) (by kernel_rfl) ?_
       refine mvI rfl rfl rfl ?_
       refine neq rfl rfl rfl rfl ?_
       refine mvB rfl rfl rfl ?_
       refine rBoolD (d := 130) rfl (fun g15 => ?_) (fun g15 => ?_)
       ·
        replace g15 : ((Iso.alE y1 (((Iso.alY y1 q1).getD j 0)))) ≠ 0 := g15
        exact absurd has.1 g15
       ·
        replace g15 : ¬ (((Iso.alE y1 (((Iso.alY y1 q1).getD j 0)))) ≠ 0) := g15
        refine mvS rfl rfl rfl ?_
        refine mvS rfl rfl rfl ?_
        refine callP (v := .bool true) Try.call23 trv rfl rfl (fun w hs => laws_likeInts_c _ ny11 cy11 _ _ ny2 cy2 _ w (OwnI.rd (hs.at_ 0 rfl)) (OwnI.rd (hs.at_ 7 rfl)) has.2) ?_
        refine not rfl rfl rfl ?_
        refine pickB rfl rfl rfl rfl ?_
        refine rNil ?_
        refine qSeq rfl ?_
        refine hIfF rfl ?_
        refine hSkip ?_
        refine qSeq rfl ?_
        refine hReg (sq 0 (sq 1 (sq 2 sz))) (by kernel_rfl) ?_
        refine mvI rfl rfl rfl ?_
        refine add rfl rfl rfl rfl (by first | omega | (dsimp only; omega)) ?_
        refine asI rfl rfl rfl ?_
        refine rNil ?_
        exact qNext rfl (j + 1) (by omega) (by omega) ⟨rfl, rfl, rfl, rfl, rfl, trivial⟩ (fun _ h => h.pick [1, 1, 1, 1, 1, 1, 1, 1])
      ·
       replace c14 : ¬ ((j : Int) < (ny3 : Int)) := c14
       refine hExit rfl ?_
       refine qSeq rfl ?_
       refine hSeq ?_
       refine hReg (sq 0 (sq 1 (sl 2 (sq 3 sz)))) (by kernel_rfl) ?_
       refine mvS rfl rfl rfl ?_
       refine mvI rfl rfl rfl ?_
       refine callP (v := .bool (((Iso.alY y1 q1).contains q1))) Try.call29 trv rfl rfl (fun w hs => laws_hasInt_c _ ny2 cy2 _ _ w (OwnI.rd (hs.at_ 6 rfl))) ?_
       refine asB rfl rfl rfl ?_
       refine rNil ?_
       refine qSeq rfl ?_
       refine hRet ?_
       exact fun w hs => ⟨[.bool (((Iso.alY y1 q1).contains q1))], ⟨rfl, trivial⟩, ⟨bB (Iso.alY_has hal0), hs.upd⟩⟩
theorem cells5 : Try.prog.cellsOf 5 = 1 := by kernel_rfl
set_option maxHeartbeats 2000000 in
theorem fnAlike_lifted (os : Os) (started : os.Started) (H : Type) (enc : TypeId × Value → H) :
  ReturnsInHanded {} Try.checked os 9 .any (Rows.fnAlikeSpec.pre6 enc Try.prog Try.f9 Rows.fnAlikeRow.domain false) (Rows.fnAlikeSpec.post enc Try.prog Try.f9 false true false false) := by
 refine returnsInHanded_of_change (C := Try.checked) own started (by kernel_rfl) Try.func9
  (ChangeSpec.witness6 (enc := enc) (C := Try.checked) false ⟨#[], #[.slice none 0 0], []⟩ 8 (by kernel_rfl) (by kernel_rfl) (by kernel_rfl) (by kernel_rfl)) ?_
 intro W base args ds gs before hval0 hW hcnd _
 have hval : ∀ (j : Nat) t v, Try.f9.params[j]? = some t → args[j]? = some v → Value.okWide Try.prog W .any base t v := hval0
 have hW' := hW
 obtain ⟨p, q, hA0, hV, rfl, hfz, hnd⟩ := hW
 have hA : DataW.TrodAll enc Try.prog W 0 (fun _ => true) true Try.f9.params.toList args.toList ds p := hA0
 rw [Try.params9] at hA hval
 obtain ⟨v0, vs0, d0, ds0, p0, q0, hargs, rfl, rfl, h0, r0⟩ := trodAll_cons hA
 obtain ⟨rfl, rfl, rfl⟩ := trodAll_nil r0
 obtain rfl : args = #[v0] := by cases args; simp_all
 obtain ⟨rfl, rfl⟩ := trodVars_none hV
 obtain ⟨ca, bs, cc, rfl, hwf, hmax, hca⟩ := open_slice_ints Try.underlying32 Try.underlying5 cells5 (hval 0 32 v0 rfl rfl) h0
 refine (laws_FnAlike_c ca bs cc W hca hwf).mono fun e W' ⟨v, he, hv, hx⟩ => ?_
 subst he; subst hv
 exact ⟨_, rfl, law_post (tb := 4) hW' rfl rfl Try.underlying4 rfl rfl rfl (by kernel_rfl) hx⟩
theorem fnAlike_holds : Rows.FnAlikeSaid :=
 OpenClaim.holds_of_wide 9 Try.f9 rfl rfl rfl rfl rfl rfl rfl ⟨rfl, rfl, rfl, rfl, rfl⟩ rfl rfl rfl rfl rfl (by kernel_rfl) Try.func9 (by kernel_rfl)
  (of_decide_eq_true (by kernel_rfl)) (by unfold Func.isWrapper; first | (rw [if_pos (by decide +kernel)]; kernel_rfl) | (rw [if_neg (by decide +kernel)]; exact ⟨rfl, rfl⟩))
  (fun os started H enc _ => fnAlike_lifted os started H enc)
#print axioms fnAlike_holds
end Go.Proofs.Yteaahdakammffaa
