/- The law FnSameDeals returns true for all arguments. No condition. -/
import Derived.Test.YteaahdakammffaaZ5Sd
import Derived.Test.YteaahdakammffaaZ1Sd
import Derived.Test.YteaahdakammffaaZ2Sd
import Derived.Test.YteaahdakammffaaZ3Sd
import Derived.Test.YteaahdakammffaaZ4Sd
import Derived.Test.YteaahdakammffaaRows
namespace Go.Proofs.Yteaahdakammffaa
open Go Go.RowKit V Go.ChangeShapes Go.WideShapes Go.ChangeAt
set_option linter.unusedVariables false
set_option linter.unusedSimpArgs false
set_option maxRecDepth 100000
set_option maxHeartbeats 4000000 in
theorem laws_FnSameDeals_c (ca : Option Addr) (bs : List Int) (cc : Nat) (w : World) (rcode : CellsAt ca (bs.map (Value.int .u8)) w) (hb : ∀ n ∈ bs, (Lit.int .u8 n).wf = true) :
  Calls Try.prog 5 #[.slice ca bs.length cc] w (Ret fun v w' => v = .bool true ∧ Ext w w') := by
 have kcode : Kn w none_ [] (CellsAt ca (bs.map (Value.int .u8))) := fun w' hs => rcode.ext hs.upd
 refine fn (M := none_) (rs := [.tmp 2]) Try.func5 rfl Try.ntmps5 rfl rfl (Sep.start _ _) ?_
 refine hSeq ?_
 refine hReg (sq 0 sz) (by kernel_rfl) ?_
 refine asB rfl rfl rfl ?_
 refine rNil ?_
 refine qSeq rfl ?_
 refine hSeq ?_
 refine hSeq ?_
 refine hReg (sq 0 (sl 1 sz)) (by kernel_rfl) ?_
 refine mvS rfl rfl rfl ?_
 refine callP (v := .bool (decide (4096 < ((bs.length : Nat) : Int)))) Try.call19 trv rfl rfl (fun w hs => laws_big_c _ _ cc w (kcode w hs)) ?_
 refine rNil ?_
 refine qSeq rfl ?_
 refine hIfD rfl (fun c1 => ?_) (fun c1 => ?_)
 ·
  replace c1 : 4096 < ((bs.length : Nat) : Int) := c1
  refine hSeq ?_
  refine hReg (sq 0 sz) (by kernel_rfl) ?_
  refine asB rfl rfl rfl ?_
  refine rNil ?_
  refine qSeq rfl ?_
  refine hRet ?_
  exact fun w hs => ⟨[.bool true], ⟨rfl, trivial⟩, ⟨by first | rfl | exact (bT (by omega)).symm, hs.upd⟩⟩
 ·
  replace c1 : ¬ (4096 < ((bs.length : Nat) : Int)) := c1
  have hok : okBytes bs := ⟨fun x hx => bounds_u8 (hb x hx), by omega⟩
  refine hSkip ?_
  refine qSeq rfl ?_
  refine hSeq ?_
  refine hReg (sq 0 (sl 1 (sq 2 (sq 3 (sq 4 (sq 5 (sq 6 sz))))))) (by kernel_rfl) ?_
  refine mvS rfl rfl rfl ?_
  refine callS Try.call30 trv1 rfl rfl (fun w hs => spec_DrawAreSameDeal_c _ _ cc w (kcode w hs) (by assumption)) ?_
  rintro ⟨ay1, ny1, cy1, Hy1, y1, au1, nu1, cu1, Hu1, u1⟩ hr1
  try dsimp only at hr1
  refine rPieces (L' := [RdR maK ay1 ny1 Hy1 y1, RdR maK au1 nu1 Hu1 u1]) (fun _ h => h) ?_
  refine rKnow (fun w hs => (show RdR maK ay1 ny1 Hy1 y1 w from hs.at_ 0 rfl).1) (fun lenn1 => ?_)
  refine rKnow (fun w hs => (show RdR maK au1 nu1 Hu1 u1 w from hs.at_ 1 rfl).1) (fun lenn2 => ?_)
  refine rVal (v' := .tuple #[.slice ay1 ny1 cy1, .slice au1 nu1 cu1]) rfl ?_
  refine mv rfl rfl rfl ?_
  refine ext rfl rfl rfl rfl ?_
  refine ext rfl rfl rfl rfl ?_
  refine asS rfl rfl rfl ?_
  refine asS rfl rfl rfl ?_
  refine rNil ?_
  refine qSeq rfl ?_
  refine hSeq ?_
  refine hReg (sq 0 (sq 1 (sl 2 (sq 3 (sq 4 (sq 5 (sq 6 (sq 7 sz)))))))) (by kernel_rfl) ?_
  refine mvS rfl rfl rfl ?_
  refine mvS rfl rfl rfl ?_
  refine callP (v := .tuple #[.bool (Iso.sdB y1 u1), .int .i64 (Iso.sdE y1 u1)]) Try.call31 trv rfl rfl (fun w hs => impl_AreSameDeal_c _ ny1 cy1 _ _ _ nu1 cu1 _ _ w (hs.at_ 0 rfl) (hs.at_ 1 rfl)) ?_
  refine mv rfl rfl rfl ?_
  refine ext rfl rfl rfl rfl ?_
  refine ext rfl rfl rfl rfl ?_
  refine asB rfl rfl rfl ?_
  refine asI rfl rfl rfl ?_
  refine rNil ?_
  refine qSeq rfl ?_
  refine hSeq ?_
  refine hReg (sq 0 (sq 1 (sl 2 (sq 3 (sq 4 (sq 5 (sq 6 (sq 7 sz)))))))) (by kernel_rfl) ?_
  refine mvS rfl rfl rfl ?_
  refine mvS rfl rfl rfl ?_
  refine callP (v := .tuple #[.bool (Iso.sdB y1 u1), .int .i64 (Iso.sdE y1 u1)]) Try.call32 trv rfl rfl (fun w hs => spec_AreSameDeal_c _ ny1 cy1 _ _ _ nu1 cu1 _ _ w (hs.at_ 0 rfl) (hs.at_ 1 rfl)) ?_
  refine mv rfl rfl rfl ?_
  refine ext rfl rfl rfl rfl ?_
  refine ext rfl rfl rfl rfl ?_
  refine asB rfl rfl rfl ?_
  refine asI rfl rfl rfl ?_
  refine rNil ?_
  refine qSeq rfl ?_
  refine hSeq ?_
  refine hReg (sq 0 (sl 1 (sq 2 sz))) (by kernel_rfl) ?_
  refine mvS rfl rfl rfl ?_
  refine callS Try.call33 trv1 rfl rfl (fun w hs => spec_DrawCountClassesOf_c _ _ cc w (Kn.drop (k := 2) kcode w hs) (by assumption)) ?_
  rintro q2 hr2
  try dsimp only at hr2
  refine rPieces (L' := [RdR maK ay1 ny1 Hy1 y1, RdR maK au1 nu1 Hu1 u1]) (fun _ h => h) ?_
  refine rVal (v' := .int .i64 q2) rfl ?_
  refine asI rfl rfl rfl ?_
  refine rNil ?_
  refine qSeq rfl ?_
  refine hSeq ?_
  refine hReg (sq 0 (sl 1 (sq 2 (sq 3 (sq 4 (sq 5 (sq 6 sz))))))) (by kernel_rfl) ?_
  refine mvI rfl rfl rfl ?_
  refine callP (v := .tuple #[.int .i64 (Iso.cntV q2), .int .i64 (Iso.cntE q2)]) Try.call34 trv rfl rfl (fun w hs => impl_CountClassesOf_c _ w ) ?_
  refine mv rfl rfl rfl ?_
  refine ext rfl rfl rfl rfl ?_
  refine ext rfl rfl rfl rfl ?_
  refine asI rfl rfl rfl ?_
  refine asI rfl rfl rfl ?_
  refine rNil ?_
  refine qSeq rfl ?_
  refine hSeq ?_
  refine hReg (sq 0 (sl 1 (sq 2 (sq 3 (sq 4 (sq 5 (sq 6 sz))))))) (by kernel_rfl) ?_
  refine mvI rfl rfl rfl ?_
  refine callP (v := .tuple #[.int .i64 (Iso.cntV q2), .int .i64 (Iso.cntE q2)]) Try.call35 trv rfl rfl (fun w hs => spec_CountClassesOf_c _ w (by omega)) ?_
  refine mv rfl rfl rfl ?_
  refine ext rfl rfl rfl rfl ?_
  refine ext rfl rfl rfl rfl ?_
  refine asI rfl rfl rfl ?_
  refine asI rfl rfl rfl ?_
  refine rNil ?_
  refine qSeq rfl ?_
  refine hSeq ?_
  refine hSeq ?_
  refine hReg (sq 0 (sq 1 (sq 2 (sq 3 (sq 4 (sq 5 (sq 6 (sq 7 (sq 8 (sq 9 (sq 10 (sq 11 (sq 12 (sq 13 (sq 14 (sq 15 (sq 16 (sq 17 (sq 18 (sl 19 (sl 20 (sq 21 (sq 22 sz))))))))))))))))))))))) (by kernel_rfl) ?_
  refine mvI rfl rfl rfl ?_
  refine mvI rfl rfl rfl ?_
  refine neq rfl rfl rfl rfl ?_
  refine mvB rfl rfl rfl ?_
  refine rBoolD (d := 56) rfl (fun g2 => ?_) (fun g2 => ?_)
  ·
   replace g2 : (Iso.sdE y1 u1) ≠ (Iso.sdE y1 u1) := g2
   exact absurd rfl g2
  ·
   replace g2 : ¬ ((Iso.sdE y1 u1) ≠ (Iso.sdE y1 u1)) := g2
   refine mvB rfl rfl rfl ?_
   refine mvB rfl rfl rfl ?_
   refine neqB Try.underlying4 rfl rfl rfl rfl ?_
   refine pickB rfl rfl rfl rfl ?_
   refine mvB rfl rfl rfl ?_
   refine rBoolD (d := 61) rfl (fun g3 => ?_) (fun g3 => ?_)
   ·
    replace g3 : (Iso.sdB y1 u1) ≠ (Iso.sdB y1 u1) := g3
    exact absurd rfl g3
   ·
    replace g3 : ¬ ((Iso.sdB y1 u1) ≠ (Iso.sdB y1 u1)) := g3
    refine mvI rfl rfl rfl ?_
    refine mvI rfl rfl rfl ?_
    refine neq rfl rfl rfl rfl ?_
    refine pickB rfl rfl rfl rfl ?_
    refine mvB rfl rfl rfl ?_
    refine rBoolD (d := 66) rfl (fun g4 => ?_) (fun g4 => ?_)
    ·
     replace g4 : (Iso.cntE q2) ≠ (Iso.cntE q2) := g4
     exact absurd rfl g4
    ·
     replace g4 : ¬ ((Iso.cntE q2) ≠ (Iso.cntE q2)) := g4
     refine mvI rfl rfl rfl ?_
     refine mvI rfl rfl rfl ?_
     refine neq rfl rfl rfl rfl ?_
     refine pickB rfl rfl rfl rfl ?_
     refine mvB rfl rfl rfl ?_
     refine rBoolD (d := 71) rfl (fun g5 => ?_) (fun g5 => ?_)
     ·
      replace g5 : (Iso.cntV q2) ≠ (Iso.cntV q2) := g5
      exact absurd rfl g5
     ·
      replace g5 : ¬ ((Iso.cntV q2) ≠ (Iso.cntV q2)) := g5
      refine callP (v := .int .i64 1755) Try.call36 trv rfl rfl (fun w hs => impl_CountFlops_c  w ) ?_
      refine callP (v := .int .i64 1755) Try.call37 trv rfl rfl (fun w hs => spec_CountFlops_c  w ) ?_
      refine neq rfl rfl rfl rfl ?_
      refine pickB rfl rfl rfl rfl ?_
      refine rNil ?_
      refine qSeq rfl ?_
      refine hIfF rfl ?_
      refine hSkip ?_
      refine qSeq rfl ?_
      refine hSeq ?_
      refine hSeq ?_
      refine hReg (sq 0 (sq 1 sz)) (by kernel_rfl) ?_
      refine mvI rfl rfl rfl ?_
      refine neq rfl rfl rfl rfl ?_
      refine rNil ?_
      refine qSeq rfl ?_
      refine hIfD rfl (fun c6 => ?_) (fun c6 => ?_)
      ·
       replace c6 : (Iso.sdE y1 u1) ≠ 0 := c6
       refine hSeq ?_
       refine hReg (sq 0 sz) (by kernel_rfl) ?_
       refine asB rfl rfl rfl ?_
       refine rNil ?_
       refine qSeq rfl ?_
       refine hRet ?_
       exact fun w hs => ⟨[.bool true], ⟨rfl, trivial⟩, ⟨by first | rfl | exact (bT (by omega)).symm, hs.upd⟩⟩
      ·
       replace c6 : ¬ ((Iso.sdE y1 u1) ≠ 0) := c6
       have hs0 : Iso.sdE y1 u1 = 0 := by simpa using c6
       have hsc := Iso.sdE_iff hs0
       have hsy := Iso.sd_sym hs0
       have hsi := Iso.sd_imgs Iso.turn_ord hsc.1
       refine hSkip ?_
       refine qSeq rfl ?_
       refine hSeq ?_
       refine hReg (sq 0 (sq 1 (sl 2 (sq 3 (sq 4 (sq 5 (sq 6 (sq 7 sz)))))))) (by kernel_rfl) ?_
       refine mvS rfl rfl rfl ?_
       refine mvS rfl rfl rfl ?_
       refine callP (v := .tuple #[.bool (Iso.sdB u1 y1), .int .i64 (Iso.sdE u1 y1)]) Try.call31 trv rfl rfl (fun w hs => impl_AreSameDeal_c _ nu1 cu1 _ _ _ ny1 cy1 _ _ w (hs.at_ 1 rfl) (hs.at_ 0 rfl)) ?_
       refine mv rfl rfl rfl ?_
       refine ext rfl rfl rfl rfl ?_
       refine ext rfl rfl rfl rfl ?_
       refine asB rfl rfl rfl ?_
       refine asI rfl rfl rfl ?_
       refine rNil ?_
       refine qSeq rfl ?_
       refine hSeq ?_
       refine hReg (sl 0 (sq 1 sz)) (by kernel_rfl) ?_
       refine bsl trv1 rfl rfl rfl (bsl22_0) (fun bkl3 hbkl3 => ?_)
       refine asS rfl rfl rfl ?_
       refine rNil ?_
       refine qSeq rfl ?_
       refine hSeq ?_
       refine hSeq ?_
       refine hReg (sq 0 sz) (by kernel_rfl) ?_
       refine asI rfl rfl rfl ?_
       refine rNil ?_
       refine qSeq rfl ?_
       refine hBlk ?_
       refine hPieces (fun _ h => Sep.litR maK 23 2 (fun _ => (none, 0)) h 0 rfl) ?_
       refine hLoop (α := Nat × Nat × (Hd × (Nat → Hd))) (fun x => x.1 ≤ ny1 ∧ x.2.1 = x.1) (fun x => ny1 - x.1) (fun x => [OwnR maK 23 2 x.2.2.1.1 x.2.1 x.2.2.1.2 x.2.2.2 ((Iso.imgs [3, 0, 1, 2] (y1.take x.1))), RdR maK ay1 ny1 Hy1 y1, RdR maK au1 nu1 Hu1 u1]) (fun x => [(3, .slice ay1 ny1 cy1), (5, .bool (Iso.sdB y1 u1)), (14, .bool (Iso.sdB u1 y1)), (15, .int .i64 (Iso.sdE u1 y1)), (16, .slice x.2.2.1.1 x.2.1 x.2.2.1.2), (17, .int .i64 (x.1 : Int))]) ((0, 0, (((some ⟨bkl3, 0, none⟩), 0), (fun _ => (none, 0))))) ⟨Nat.zero_le _, rfl⟩ (fun _ h => h.pick [0, 0, 0]) ⟨rfl, rfl, rfl, rfl, rfl, rfl, trivial⟩ ?_
       rintro ⟨i, q, hd⟩ τ1 ⟨hi, hq⟩
       dsimp only at hi hq
       refine hRe [(3, .slice ay1 ny1 cy1), (5, .bool (Iso.sdB y1 u1)), (14, .bool (Iso.sdB u1 y1)), (15, .int .i64 (Iso.sdE u1 y1)), (16, .slice hd.1.1 q hd.1.2), (17, .int .i64 (i : Int))] [OwnR maK 23 2 hd.1.1 q hd.1.2 hd.2 ((Iso.imgs [3, 0, 1, 2] (y1.take i))), RdR maK ay1 ny1 Hy1 y1, RdR maK au1 nu1 Hu1 u1] rfl rfl ?_
       refine hSeq ?_
       refine hSeq ?_
       refine hReg (sq 0 (sq 1 (sq 2 (sq 3 sz)))) (by kernel_rfl) ?_
       refine mvI rfl rfl rfl ?_
       refine mvS rfl rfl rfl ?_
       refine lenS Try.runUnderlying22 rfl rfl rfl ?_
       refine lss rfl rfl rfl rfl ?_
       refine rNil ?_
       refine qSeq rfl ?_
       refine hIfD rfl (fun c7 => ?_) (fun c7 => ?_)
       ·
        replace c7 : (i : Int) < (ny1 : Int) := c7
        have hay := Iso.codeS_at hsc.1 (show i < y1.length by omega)
        have hex0 := Iso.exE_0 (z := y1.getD i []) (decide_eq_true hay) Iso.turn_ord
        have hexy := Iso.exY_0 hex0
        refine hSkip ?_
        refine qSeq rfl ?_
        refine hSeq ?_
        refine hBlk ?_
        refine hSeq ?_
        refine hReg (sq 0 (sq 1 (sq 2 (sl 3 (sl 4 (sl 5 (sq 6 (sq 7 (sq 8 (sq 9 (sq 10 sz))))))))))) (by kernel_rfl) ?_
        refine mvS rfl rfl rfl ?_
        refine mvI rfl rfl rfl ?_
        refine ixRl (zn := i) (y1.getD i []) el22 (Kn.at_ 1 rfl) rfl rfl rfl rfl (by omega) (by omega) rfl (nth [] (by omega)) ?_
        intro be3 oe3 e3
        refine ldl Try.isAgg23 (Kn.fld e3 0 rfl) trv rfl rfl rfl ?_
        refine bsl trv1 rfl rfl rfl (bsl23_4 (.int .i64 _) (.int .i64 _) (.int .i64 _) (.int .i64 _) rfl rfl rfl rfl) (fun bkl4 hbkl4 => ?_)
        refine callS Try.call38 trv1 rfl rfl (fun w hs => impl_ExchangeCards_c _ ((y1.getD i []).length) ((Hy1 i).2) _ _ 4 4 _ w (Kn.drop (k := 1) ((Kn.imp (Kn.at_ 1 rfl) fun _ h => h.kidM (nth [] (by omega)))) w hs) (RdI.lit (zs := [3, 0, 1, 2]) (n := 4) (hs.at_ 0 rfl) rfl rfl rfl)) ?_
        rintro ⟨ay4, ny4, cy4, y4, q4⟩ ⟨hr4a, hr4b⟩
        dsimp only at hr4a hr4b
        subst y4
        subst q4
        refine rPieces (L' := [OwnI 2 ay4 ny4 cy4 (((Iso.exY (y1.getD i []) [3, 0, 1, 2]))), blk bkl4 2 [.int .i64 3, .int .i64 0, .int .i64 1, .int .i64 2], OwnR maK 23 2 hd.1.1 q hd.1.2 hd.2 ((Iso.imgs [3, 0, 1, 2] (y1.take i))), RdR maK ay1 ny1 Hy1 y1, RdR maK au1 nu1 Hu1 u1]) (fun _ h => h) ?_
        refine rKnow (fun w hs => (show OwnI 2 ay4 ny4 cy4 (((Iso.exY (y1.getD i []) [3, 0, 1, 2]))) w from hs.at_ 0 rfl).lenz) (fun lenn5 => ?_)
        refine rVal (v' := .tuple #[.slice ay4 ny4 cy4, .int .i64 (((Iso.exE (y1.getD i []) [3, 0, 1, 2])))]) rfl ?_
        refine mv rfl rfl rfl ?_
        refine ext rfl rfl rfl rfl ?_
        refine ext rfl rfl rfl rfl ?_
        refine asS rfl rfl rfl ?_
        refine asI rfl rfl rfl ?_
        refine rNil ?_
        refine qSeq rfl ?_
        refine hSeq ?_
        refine hSeq ?_
        refine hReg (sq 0 (sq 1 sz)) (by kernel_rfl) ?_
        refine mvI rfl rfl rfl ?_
        refine neq rfl rfl rfl rfl ?_
        refine rNil ?_
        refine qSeq rfl ?_
        refine hIfD rfl (fun c8 => ?_) (fun c8 => ?_)
        ·
         replace c8 : ((Iso.exE (y1.getD i []) [3, 0, 1, 2])) ≠ 0 := c8
         exact absurd hex0 c8
        ·
         replace c8 : ¬ (((Iso.exE (y1.getD i []) [3, 0, 1, 2])) ≠ 0) := c8
         refine hSkip ?_
         refine qSeq rfl ?_
         refine hReg (sq 0 (sq 1 (sl 2 (sl 3 (sq 4 sz))))) (by kernel_rfl) ?_
         refine mvS rfl rfl rfl ?_
         refine mvS rfl rfl rfl ?_
         refine bsl trv1 rfl rfl rfl (bsl22_1 (.slice _ _ _) rfl) (fun bkl6 hbkl6 => ?_)
         refine apR (hd := (ay4, cy4)) (x := ((Iso.exY (y1.getD i []) [3, 0, 1, 2]))) 3 1 0 maK.ok rfl rfl rfl (fun h => by first | rfl | (dsimp only at h; rw [h]; rfl) | (rw [h]; rfl) | exact congrArg (fun m => [Value.slice _ m _]) h) mk22 trv1 rfl rfl rfl rfl (by first | omega | (dsimp only; omega)) ?_
         intro aq5 cq5
         refine asS rfl rfl rfl ?_
         refine rNil ?_
         refine qSeq rfl ?_
         refine hReg (sq 0 (sq 1 (sq 2 sz))) (by kernel_rfl) ?_
         refine mvI rfl rfl rfl ?_
         refine add rfl rfl rfl rfl (by first | omega | (dsimp only; omega)) ?_
         refine asI rfl rfl rfl ?_
         refine rNil ?_
         rw [hexy, Iso.imgs_snoc (by omega)]
         exact qNext rfl ((i + 1, (q + 1), ((aq5, cq5), (hset hd.2 ((Iso.imgs [3, 0, 1, 2] (y1.take i))).length (ay4, cy4))))) (by dsimp only; omega) ⟨by dsimp only; omega, by dsimp only; omega⟩ ⟨rfl, rfl, rfl, rfl, rfl, rfl, trivial⟩ (fun _ h => h.pick [0, 2, 2])
       ·
        replace c7 : ¬ ((i : Int) < (ny1 : Int)) := c7
        rw [show y1.take i = y1 from List.take_of_length_le (by omega)]
        refine hExit rfl ?_
        refine qSeq rfl ?_
        refine hSeq ?_
        refine hReg (sq 0 (sq 1 (sl 2 (sq 3 (sq 4 (sq 5 (sq 6 (sq 7 sz)))))))) (by kernel_rfl) ?_
        refine mvS rfl rfl rfl ?_
        refine mvS rfl rfl rfl ?_
        refine callP (v := .tuple #[.bool ((Iso.sdB y1 (Iso.imgs [3, 0, 1, 2] y1))), .int .i64 ((Iso.sdE y1 (Iso.imgs [3, 0, 1, 2] y1)))]) Try.call31 trv rfl rfl (fun w hs => impl_AreSameDeal_c _ ny1 cy1 _ _ _ q hd.1.2 _ _ w (hs.at_ 1 rfl) (OwnR.rd (hs.at_ 0 rfl) maK.ok)) ?_
        refine mv rfl rfl rfl ?_
        refine ext rfl rfl rfl rfl ?_
        refine ext rfl rfl rfl rfl ?_
        refine asB rfl rfl rfl ?_
        refine asI rfl rfl rfl ?_
        refine rNil ?_
        refine qSeq rfl ?_
        refine hSeq ?_
        refine hReg (sq 0 (sq 1 (sq 2 (sq 3 (sq 4 (sq 5 (sq 6 (sq 7 (sq 8 (sq 9 (sq 10 (sq 11 (sq 12 (sq 13 (sq 14 sz))))))))))))))) (by kernel_rfl) ?_
        refine mvI rfl rfl rfl ?_
        refine eql rfl rfl rfl rfl ?_
        refine mvB rfl rfl rfl ?_
        refine rBoolD (d := 114) rfl (fun g9 => ?_) (fun g9 => ?_)
        ·
         replace g9 : (Iso.sdE u1 y1) = 0 := g9
         refine mvB rfl rfl rfl ?_
         refine mvB rfl rfl rfl ?_
         refine eqlB Try.underlying4 rfl rfl rfl rfl ?_
         refine pickB rfl rfl rfl rfl ?_
         refine mvB rfl rfl rfl ?_
         refine rBoolD (d := 119) rfl (fun g10 => ?_) (fun g10 => ?_)
         ·
          replace g10 : (Iso.sdB u1 y1) = (Iso.sdB y1 u1) := g10
          refine mvI rfl rfl rfl ?_
          refine eql rfl rfl rfl rfl ?_
          refine pickB rfl rfl rfl rfl ?_
          refine mvB rfl rfl rfl ?_
          refine rBoolD (d := 123) rfl (fun g11 => ?_) (fun g11 => ?_)
          ·
           replace g11 : (Iso.sdE y1 (Iso.imgs [3, 0, 1, 2] y1)) = 0 := g11
           refine mvB rfl rfl rfl ?_
           refine pickB rfl rfl rfl rfl ?_
           refine asB rfl rfl rfl ?_
           refine rNil ?_
           refine qSeq rfl ?_
           refine hRet ?_
           exact fun w hs => ⟨[.bool ((Iso.sdB y1 (Iso.imgs [3, 0, 1, 2] y1)))], ⟨rfl, trivial⟩, ⟨bB hsi.2, hs.upd⟩⟩
          ·
           replace g11 : ¬ ((Iso.sdE y1 (Iso.imgs [3, 0, 1, 2] y1)) = 0) := g11
           exact absurd hsi.1 g11
         ·
          replace g10 : ¬ ((Iso.sdB u1 y1) = (Iso.sdB y1 u1)) := g10
          exact absurd hsy.2 g10
        ·
         replace g9 : ¬ ((Iso.sdE u1 y1) = 0) := g9
         exact absurd hsy.1 g9
theorem cells5 : Try.prog.cellsOf 5 = 1 := by kernel_rfl
set_option maxHeartbeats 2000000 in
theorem fnSameDeals_lifted (os : Os) (started : os.Started) (H : Type) (enc : TypeId × Value → H) :
  ReturnsInHanded {} Try.checked os 5 .any (Rows.fnSameDealsSpec.pre6 enc Try.prog Try.f5 Rows.fnSameDealsRow.domain false) (Rows.fnSameDealsSpec.post enc Try.prog Try.f5 false true false false) := by
 refine returnsInHanded_of_change (C := Try.checked) own started (by kernel_rfl) Try.func5
  (ChangeSpec.witness6 (enc := enc) (C := Try.checked) false ⟨#[], #[.slice none 0 0], []⟩ 8 (by kernel_rfl) (by kernel_rfl) (by kernel_rfl) (by kernel_rfl)) ?_
 intro W base args ds gs before hval0 hW hcnd _
 have hval : ∀ (j : Nat) t v, Try.f5.params[j]? = some t → args[j]? = some v → Value.okWide Try.prog W .any base t v := hval0
 have hW' := hW
 obtain ⟨p, q, hA0, hV, rfl, hfz, hnd⟩ := hW
 have hA : DataW.TrodAll enc Try.prog W 0 (fun _ => true) true Try.f5.params.toList args.toList ds p := hA0
 rw [Try.params5] at hA hval
 obtain ⟨v0, vs0, d0, ds0, p0, q0, hargs, rfl, rfl, h0, r0⟩ := trodAll_cons hA
 obtain ⟨rfl, rfl, rfl⟩ := trodAll_nil r0
 obtain rfl : args = #[v0] := by cases args; simp_all
 obtain ⟨rfl, rfl⟩ := trodVars_none hV
 obtain ⟨ca, bs, cc, rfl, hwf, hmax, hca⟩ := open_slice_ints Try.underlying32 Try.underlying5 cells5 (hval 0 32 v0 rfl rfl) h0
 refine (laws_FnSameDeals_c ca bs cc W hca hwf).mono fun e W' ⟨v, he, hv, hx⟩ => ?_
 subst he; subst hv
 exact ⟨_, rfl, law_post (tb := 4) hW' rfl rfl Try.underlying4 rfl rfl rfl (by kernel_rfl) hx⟩
theorem fnSameDeals_holds : Rows.FnSameDealsSaid :=
 OpenClaim.holds_of_wide 5 Try.f5 rfl rfl rfl rfl rfl rfl rfl ⟨rfl, rfl, rfl, rfl, rfl⟩ rfl rfl rfl rfl rfl (by kernel_rfl) Try.func5 (by kernel_rfl)
  (of_decide_eq_true (by kernel_rfl)) (by unfold Func.isWrapper; first | (rw [if_pos (by decide +kernel)]; kernel_rfl) | (rw [if_neg (by decide +kernel)]; exact ⟨rfl, rfl⟩))
  (fun os started H enc _ => fnSameDeals_lifted os started H enc)
#print axioms fnSameDeals_holds
end Go.Proofs.Yteaahdakammffaa
