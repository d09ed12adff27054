/- The law FnOuts returns true for all arguments. No condition. -/
import Derived.Test.YteaahdakammffaaZ15Ut
import Derived.Test.YteaahdakammffaaZ1Ut
import Derived.Test.YteaahdakammffaaZ2Ut
import Derived.Test.YteaahdakammffaaZ3Ut
import Derived.Test.YteaahdakammffaaZ5Ut
import Derived.Test.YteaahdakammffaaZ6Ut
import Derived.Test.YteaahdakammffaaZ7Ut
import Derived.Test.YteaahdakammffaaZ8Ut
import Derived.Test.YteaahdakammffaaZ9Ut
import Derived.Test.YteaahdakammffaaZ10Ut
import Derived.Test.YteaahdakammffaaZ11Ut
import Derived.Test.YteaahdakammffaaZ14Ut
import Derived.Test.YteaahdakammffaaRows
namespace Go.Proofs.Yteaahdakammffaa
open Go Go.RowKit V Go.ChangeShapes Go.WideShapes Go.ChangeAt
set_option linter.unusedVariables false
set_option linter.unusedSimpArgs false
set_option maxRecDepth 100000
set_option maxHeartbeats 4000000 in
theorem laws_FnOuts_c (ca : Option Addr) (bs : List Int) (cc : Nat) (w : World) (rcode : CellsAt ca (bs.map (Value.int .u8)) w) (hb : ∀ n ∈ bs, (Lit.int .u8 n).wf = true) :
  Calls Try.prog 4 #[.slice ca bs.length cc] w (Ret fun v w' => v = .bool true ∧ Ext w w') := by
 have kcode : Kn w none_ [] (CellsAt ca (bs.map (Value.int .u8))) := fun w' hs => rcode.ext hs.upd
 refine fn (M := none_) (rs := [.tmp 2]) Try.func4 rfl Try.ntmps4 rfl rfl (Sep.start _ _) ?_
 refine hSeq ?_
 refine hReg (sq 0 sz) (by kernel_rfl) ?_
 refine asB rfl rfl rfl ?_
 refine rNil ?_
 refine qSeq rfl ?_
 refine hSeq ?_
 refine hSeq ?_
 refine hReg (sq 0 (sl 1 sz)) (by kernel_rfl) ?_
 refine mvS rfl rfl rfl ?_
 refine callP (v := .bool (decide (4096 < ((bs.length : Nat) : Int)))) Try.call19 trv rfl rfl (fun w hs => laws_big_c _ _ cc w (kcode w hs)) ?_
 refine rNil ?_
 refine qSeq rfl ?_
 refine hIfD rfl (fun c1 => ?_) (fun c1 => ?_)
 ·
  replace c1 : 4096 < ((bs.length : Nat) : Int) := c1
  refine hSeq ?_
  refine hReg (sq 0 sz) (by kernel_rfl) ?_
  refine asB rfl rfl rfl ?_
  refine rNil ?_
  refine qSeq rfl ?_
  refine hRet ?_
  exact fun w hs => ⟨[.bool true], ⟨rfl, trivial⟩, ⟨by first | rfl | exact (bT (by omega)).symm, hs.upd⟩⟩
 ·
  replace c1 : ¬ (4096 < ((bs.length : Nat) : Int)) := c1
  have hok : okBytes bs := ⟨fun x hx => bounds_u8 (hb x hx), by omega⟩
  refine hSkip ?_
  refine qSeq rfl ?_
  refine hSeq ?_
  refine hReg (sq 0 (sl 1 (sq 2 (sq 3 (sq 4 (sq 5 (sq 6 (sq 7 (sq 8 (sq 9 (sq 10 (sq 11 (sq 12 sz))))))))))))) (by kernel_rfl) ?_
  refine mvS rfl rfl rfl ?_
  refine callS Try.call20 trv1 rfl rfl (fun w hs => spec_DrawOutsOf_c _ _ cc w (kcode w hs) (by assumption)) ?_
  rintro ⟨v1, az1, nz1, cz1, Hz1, z1, aq1, nq1, cq1, q1, ad1, nd1, cd1, d1, p1⟩ hr1
  try dsimp only at hr1
  refine rPieces (L' := [RdR maK az1 nz1 Hz1 z1, OwnI 2 aq1 nq1 cq1 q1, OwnI 2 ad1 nd1 cd1 d1]) (fun _ h => h) ?_
  refine rKnow (fun w hs => (show RdR maK az1 nz1 Hz1 z1 w from hs.at_ 0 rfl).1) (fun lenn1 => ?_)
  refine rKnow (fun w hs => (show OwnI 2 aq1 nq1 cq1 q1 w from hs.at_ 1 rfl).lenz) (fun lenn2 => ?_)
  refine rKnow (fun w hs => (show OwnI 2 aq1 nq1 cq1 q1 w from hs.at_ 1 rfl).capz) (fun lcpn2 => ?_)
  refine rKnow (fun w hs => (show OwnI 2 ad1 nd1 cd1 d1 w from hs.at_ 2 rfl).lenz) (fun lenn3 => ?_)
  refine rKnow (fun w hs => (show OwnI 2 ad1 nd1 cd1 d1 w from hs.at_ 2 rfl).capz) (fun lcpn3 => ?_)
  refine rVal (v' := .tuple #[.int .i64 v1, .slice az1 nz1 cz1, .slice aq1 nq1 cq1, .slice ad1 nd1 cd1, .int .i64 p1]) rfl ?_
  refine mv rfl rfl rfl ?_
  refine ext rfl rfl rfl rfl ?_
  refine ext rfl rfl rfl rfl ?_
  refine ext rfl rfl rfl rfl ?_
  refine ext rfl rfl rfl rfl ?_
  refine ext rfl rfl rfl rfl ?_
  refine asI rfl rfl rfl ?_
  refine asS rfl rfl rfl ?_
  refine asS rfl rfl rfl ?_
  refine asS rfl rfl rfl ?_
  refine asI rfl rfl rfl ?_
  refine rNil ?_
  refine qSeq rfl ?_
  refine hSeq ?_
  have hrg := hr1
  have hrg1 := hrg.1.2
  have hflz := Hd.flat_four (fun i hi => (hrg1 i hi).1)
  have hcz2 : ∀ i, i < z1.length → (z1.getD i []).length ≤ (Hz1 i).2 := fun i hi => (hrg1 i hi).2
  refine hReg (sq 0 (sq 1 (sq 2 (sq 3 (sq 4 (sl 5 (sq 6 (sq 7 (sq 8 (sq 9 (sq 10 sz))))))))))) (by kernel_rfl) ?_
  refine mvI rfl rfl rfl ?_
  refine mvS rfl rfl rfl ?_
  refine mvS rfl rfl rfl ?_
  refine mvS rfl rfl rfl ?_
  refine mvI rfl rfl rfl ?_
  refine callS Try.call21 trv1 rfl rfl (fun w hs => impl_OutsOf_c _ _ nz1 cz1 _ _ _ nq1 cq1 _ _ nd1 cd1 _ _ w (hs.at_ 0 rfl) (OwnI.rd (hs.at_ 1 rfl)) (OwnI.rd (hs.at_ 2 rfl)) (by omega) (by first | omega | (simp only [List.length_nil]; omega)) (by omega) (by omega)) ?_
  rintro ⟨ay2, ny2, cy2, y2, e2⟩ ⟨hr2a, hr2b⟩
  dsimp only at hr2a hr2b
  subst y2
  subst e2
  refine rPieces (L' := [OwnI 2 ay2 ny2 cy2 (Hd.ouY v1 z1 q1 d1 p1), RdR maK az1 nz1 Hz1 z1, OwnI 2 aq1 nq1 cq1 q1, OwnI 2 ad1 nd1 cd1 d1]) (fun _ h => h) ?_
  refine rKnow (fun w hs => (show OwnI 2 ay2 ny2 cy2 (Hd.ouY v1 z1 q1 d1 p1) w from hs.at_ 0 rfl).lenz) (fun lenn4 => ?_)
  refine rKnow (fun w hs => (show OwnI 2 ay2 ny2 cy2 (Hd.ouY v1 z1 q1 d1 p1) w from hs.at_ 0 rfl).capz) (fun lcpn4 => ?_)
  refine rVal (v' := .tuple #[.slice ay2 ny2 cy2, .int .i64 (Hd.ouC v1 z1 q1 d1 p1)]) rfl ?_
  refine mv rfl rfl rfl ?_
  refine ext rfl rfl rfl rfl ?_
  refine ext rfl rfl rfl rfl ?_
  refine asS rfl rfl rfl ?_
  refine asI rfl rfl rfl ?_
  refine rNil ?_
  refine qSeq rfl ?_
  refine hSeq ?_
  refine hReg (sq 0 (sq 1 (sq 2 (sq 3 (sq 4 (sl 5 (sq 6 (sq 7 (sq 8 (sq 9 (sq 10 sz))))))))))) (by kernel_rfl) ?_
  refine mvI rfl rfl rfl ?_
  refine mvS rfl rfl rfl ?_
  refine mvS rfl rfl rfl ?_
  refine mvS rfl rfl rfl ?_
  refine mvI rfl rfl rfl ?_
  refine callS Try.call22 trv1 rfl rfl (fun w hs => spec_OutsOf_c _ _ nz1 cz1 _ _ _ nq1 cq1 _ _ nd1 cd1 _ _ w (hs.at_ 1 rfl) (OwnI.rd (hs.at_ 2 rfl)) (OwnI.rd (hs.at_ 3 rfl)) (by omega) (by first | omega | (simp only [List.length_nil]; omega)) (by omega) (by omega) (by assumption) (by first | assumption | omega)) ?_
  rintro ⟨ay3, ny3, cy3, y3, e3⟩ ⟨hr3a, hr3b⟩
  dsimp only at hr3a hr3b
  subst y3
  subst e3
  refine rPieces (L' := [OwnI 2 ay3 ny3 cy3 (Hd.ouY v1 z1 q1 d1 p1), OwnI 2 ay2 ny2 cy2 (Hd.ouY v1 z1 q1 d1 p1), RdR maK az1 nz1 Hz1 z1, OwnI 2 aq1 nq1 cq1 q1, OwnI 2 ad1 nd1 cd1 d1]) (fun _ h => h) ?_
  refine rKnow (fun w hs => (show OwnI 2 ay3 ny3 cy3 (Hd.ouY v1 z1 q1 d1 p1) w from hs.at_ 0 rfl).lenz) (fun lenn5 => ?_)
  refine rKnow (fun w hs => (show OwnI 2 ay3 ny3 cy3 (Hd.ouY v1 z1 q1 d1 p1) w from hs.at_ 0 rfl).capz) (fun lcpn5 => ?_)
  refine rVal (v' := .tuple #[.slice ay3 ny3 cy3, .int .i64 (Hd.ouC v1 z1 q1 d1 p1)]) rfl ?_
  refine mv rfl rfl rfl ?_
  refine ext rfl rfl rfl rfl ?_
  refine ext rfl rfl rfl rfl ?_
  refine asS rfl rfl rfl ?_
  refine asI rfl rfl rfl ?_
  refine rNil ?_
  refine qSeq rfl ?_
  refine hSeq ?_
  refine hSeq ?_
  refine hReg (sq 0 (sq 1 (sq 2 (sq 3 (sq 4 (sq 5 (sl 6 (sq 7 (sq 8 sz))))))))) (by kernel_rfl) ?_
  refine mvI rfl rfl rfl ?_
  refine mvI rfl rfl rfl ?_
  refine neq rfl rfl rfl rfl ?_
  refine mvB rfl rfl rfl ?_
  refine rBoolD (d := 54) rfl (fun g2 => ?_) (fun g2 => ?_)
  ·
   replace g2 : (Hd.ouC v1 z1 q1 d1 p1) ≠ (Hd.ouC v1 z1 q1 d1 p1) := g2
   exact absurd rfl g2
  ·
   replace g2 : ¬ ((Hd.ouC v1 z1 q1 d1 p1) ≠ (Hd.ouC v1 z1 q1 d1 p1)) := g2
   refine mvS rfl rfl rfl ?_
   refine mvS rfl rfl rfl ?_
   refine callP (v := .bool true) Try.call23 trv rfl rfl (fun w hs => laws_likeInts_c _ ny2 cy2 _ _ ny3 cy3 _ w (OwnI.rd (hs.at_ 1 rfl)) (OwnI.rd (hs.at_ 0 rfl)) (by first | rfl | assumption | (rw [heq]) | (simp only [*]))) ?_
   refine not rfl rfl rfl ?_
   refine pickB rfl rfl rfl rfl ?_
   refine rNil ?_
   refine qSeq rfl ?_
   refine hIfF rfl ?_
   refine hSkip ?_
   refine qSeq rfl ?_
   refine hSeq ?_
   refine hSeq ?_
   refine hReg (sq 0 (sq 1 sz)) (by kernel_rfl) ?_
   refine mvI rfl rfl rfl ?_
   refine neq rfl rfl rfl rfl ?_
   refine rNil ?_
   refine qSeq rfl ?_
   refine hIfD rfl (fun c3 => ?_) (fun c3 => ?_)
   ·
    replace c3 : (Hd.ouC v1 z1 q1 d1 p1) ≠ 0 := c3
    refine hSeq ?_
    refine hReg (sq 0 sz) (by kernel_rfl) ?_
    refine asB rfl rfl rfl ?_
    refine rNil ?_
    refine qSeq rfl ?_
    refine hRet ?_
    exact fun w hs => ⟨[.bool true], ⟨rfl, trivial⟩, ⟨by first | rfl | exact (bT (by omega)).symm, hs.upd⟩⟩
   ·
    replace c3 : ¬ ((Hd.ouC v1 z1 q1 d1 p1) ≠ 0) := c3
    have hou : Hd.ouC v1 z1 q1 d1 p1 = 0 := by simpa using c3
    obtain ⟨ho1, ho2, ho3, ho4, ho5, ho6⟩ := Hd.ou_ok hou
    have hab : Iso.areB (Hd.allC z1 q1 d1) = true := Hd.deal_all ho1
    have hale := Iso.areP_len (Iso.areB_P hab)
    have hoe := Hd.others_eq (Iso.areB_P hab)
    have hall : (Hd.allC z1 q1 d1).length = q1.length + d1.length + z1.flatten.length := by unfold Hd.allC; rw [List.length_append, List.length_append]
    refine hSkip ?_
    refine qSeq rfl ?_
    refine hSeq ?_
    refine hReg (sq 0 (sl 1 (sq 2 sz))) (by kernel_rfl) ?_
    refine mvS rfl rfl rfl ?_
    refine callN (α := Nat) (val := fun x => .pointer (some ⟨x, 0, none⟩)) (good := fun _ => True) (φ := fun x => dieP x ca bs cc) Try.call24 trv1 rfl rfl (fun w hs => (roll_c ca bs cc 1601 w (kcode w (hs.sub (List.nil_sublist _))) hok).mono fun e w1 ⟨v, h0, bk, h1, h2, h3, h4⟩ => ⟨v, h0, bk, h1, trivial, h3, h4⟩) ?_
    rintro bks6 -
    refine rPieces (L' := [dieP bks6 ca bs cc, OwnI 2 ay3 ny3 cy3 (Hd.ouY v1 z1 q1 d1 p1), OwnI 2 ay2 ny2 cy2 (Hd.ouY v1 z1 q1 d1 p1), RdR maK az1 nz1 Hz1 z1, OwnI 2 aq1 nq1 cq1 q1, OwnI 2 ad1 nd1 cd1 d1]) (fun _ h => h) ?_
    refine asn rfl rfl rfl ?_
    refine rNil ?_
    refine qSeq rfl ?_
    refine hSeq ?_
    refine hReg (sl 0 (sq 1 (sl 2 (sq 3 (sl 4 (sq 5 sz)))))) (by kernel_rfl) ?_
    refine bsl trv1 rfl rfl rfl (bsl23_0) (fun bkl7 hbkl7 => ?_)
    refine mvS rfl rfl rfl ?_
    refine rPieces (fun _ h => Sep.litI h 0 [] rfl rfl rfl) ?_
    refine aplL (N := 0) (ys := q1) 0 rfl ((Kn.at_ 5 rfl).imp fun _ h => OwnI.rd h) mk23 trv1 rfl rfl rfl rfl (by first | omega | (dsimp only; omega)) ?_
    intro aq4 cq4
    refine mvS rfl rfl rfl ?_
    refine aplL (N := (0 + nq1)) (ys := d1) 0 rfl ((Kn.at_ 6 rfl).imp fun _ h => OwnI.rd h) mk23 trv1 rfl rfl rfl rfl (by first | omega | (dsimp only; omega)) ?_
    intro aq5 cq5
    refine asS rfl rfl rfl ?_
    refine rNil ?_
    refine qSeq rfl ?_
    refine hSeq ?_
    refine hSeq ?_
    refine hReg (sq 0 sz) (by kernel_rfl) ?_
    refine asI rfl rfl rfl ?_
    refine rNil ?_
    refine qSeq rfl ?_
    refine hBlk ?_
    refine hLoop (α := Nat × Nat × Hd) (fun x => x.1 ≤ nz1 ∧ x.2.1 = ((([] ++ q1) ++ d1) ++ (z1.take x.1).flatten).length) (fun x => nz1 - x.1) (fun x => [OwnI 2 x.2.2.1 x.2.1 x.2.2.2 (((([] ++ q1) ++ d1) ++ (z1.take x.1).flatten)), dieP bks6 ca bs cc, OwnI 2 ay3 ny3 cy3 (Hd.ouY v1 z1 q1 d1 p1), OwnI 2 ay2 ny2 cy2 (Hd.ouY v1 z1 q1 d1 p1), RdR maK az1 nz1 Hz1 z1, OwnI 2 aq1 nq1 cq1 q1, OwnI 2 ad1 nd1 cd1 d1]) (fun x => [(3, .int .i64 v1), (4, .slice az1 nz1 cz1), (5, .slice aq1 nq1 cq1), (6, .slice ad1 nd1 cd1), (7, .int .i64 p1), (8, .slice ay2 ny2 cy2), (12, .pointer (some ⟨bks6, 0, none⟩)), (13, .slice x.2.2.1 x.2.1 x.2.2.2), (14, .int .i64 (x.1 : Int))]) ((0, ((0 + nq1) + nd1), (aq5, cq5))) ⟨Nat.zero_le _, by dsimp only; rw [List.take_zero, List.flatten_nil, List.append_nil, List.length_append, List.nil_append]; omega⟩ (fun _ h => by rw [List.take_zero, List.flatten_nil, List.append_nil]; exact h.pick [0, 0, 0, 0, 0, 0, 0]) ⟨rfl, rfl, rfl, rfl, rfl, rfl, rfl, rfl, rfl, trivial⟩ ?_
    rintro ⟨i, n, hd⟩ τ1 ⟨hi, hn⟩
    dsimp only at hi hn
    refine hRe [(3, .int .i64 v1), (4, .slice az1 nz1 cz1), (5, .slice aq1 nq1 cq1), (6, .slice ad1 nd1 cd1), (7, .int .i64 p1), (8, .slice ay2 ny2 cy2), (12, .pointer (some ⟨bks6, 0, none⟩)), (13, .slice hd.1 n hd.2), (14, .int .i64 (i : Int))] [OwnI 2 hd.1 n hd.2 (((([] ++ q1) ++ d1) ++ (z1.take i).flatten)), dieP bks6 ca bs cc, OwnI 2 ay3 ny3 cy3 (Hd.ouY v1 z1 q1 d1 p1), OwnI 2 ay2 ny2 cy2 (Hd.ouY v1 z1 q1 d1 p1), RdR maK az1 nz1 Hz1 z1, OwnI 2 aq1 nq1 cq1 q1, OwnI 2 ad1 nd1 cd1 d1] rfl rfl ?_
    refine hSeq ?_
    refine hSeq ?_
    refine hReg (sq 0 (sq 1 (sq 2 (sq 3 sz)))) (by kernel_rfl) ?_
    refine mvI rfl rfl rfl ?_
    refine mvS rfl rfl rfl ?_
    refine lenS Try.runUnderlying22 rfl rfl rfl ?_
    refine lss rfl rfl rfl rfl ?_
    refine rNil ?_
    refine qSeq rfl ?_
    refine hIfD rfl (fun c4 => ?_) (fun c4 => ?_)
    ·
     replace c4 : (i : Int) < (nz1 : Int) := c4
     have hflt := Iso.flat_le z1 i
     have hfl3 := Iso.flat_le z1 (i + 1)
     rw [Iso.flat_snoc (by omega), List.length_append] at hfl3
     have hlz : ((([] ++ q1) ++ d1) ++ (z1.take i).flatten).length = q1.length + d1.length + (z1.take i).flatten.length := by rw [List.length_append, List.length_append, List.nil_append]
     refine hSkip ?_
     refine qSeq rfl ?_
     refine hSeq ?_
     refine hBlk ?_
     refine hReg (sq 0 (sq 1 (sq 2 (sq 3 (sl 4 (sl 5 (sq 6 sz))))))) (by kernel_rfl) ?_
     refine mvS rfl rfl rfl ?_
     refine mvS rfl rfl rfl ?_
     refine mvI rfl rfl rfl ?_
     refine ixRl (zn := i) (z1.getD i []) el22 (Kn.at_ 4 rfl) rfl rfl rfl rfl (by omega) (by omega) rfl (nth [] (by omega)) ?_
     intro be6 oe6 e6
     refine ldl Try.isAgg23 (Kn.fld e6 0 rfl) trv rfl rfl rfl ?_
     refine aplL (N := n) (ys := (z1.getD i [])) 0 rfl ((Kn.imp (Kn.at_ 4 rfl) fun _ h => h.kidM (nth [] (by omega)))) mk23 trv1 rfl rfl rfl rfl (by first | omega | (dsimp only; omega)) ?_
     intro aq7 cq7
     refine asS rfl rfl rfl ?_
     refine rNil ?_
     refine qSeq rfl ?_
     refine hReg (sq 0 (sq 1 (sq 2 sz))) (by kernel_rfl) ?_
     refine mvI rfl rfl rfl ?_
     refine add rfl rfl rfl rfl (by first | omega | (dsimp only; omega)) ?_
     refine asI rfl rfl rfl ?_
     refine rNil ?_
     rw [show ((([] ++ q1) ++ d1) ++ (z1.take i).flatten) ++ z1.getD i [] = (([] ++ q1) ++ d1) ++ (z1.take (i + 1)).flatten from by rw [Iso.flat_snoc (by omega), List.append_assoc (([] ++ q1) ++ d1)]]
     exact qNext rfl ((i + 1, (n + (z1.getD i []).length), (aq7, cq7))) (by dsimp only; omega) ⟨by dsimp only; omega, by dsimp only; rw [Iso.flat_snoc (by omega), ← List.append_assoc, List.length_append, ← hn]⟩ ⟨rfl, rfl, rfl, rfl, rfl, rfl, rfl, rfl, rfl, trivial⟩ (fun _ h => h.pick [0, 0, 0, 0, 0, 0, 0])
    ·
     replace c4 : ¬ ((i : Int) < (nz1 : Int)) := c4
     rw [show (([] ++ q1) ++ d1) ++ (z1.take i).flatten = (Hd.allC z1 q1 d1) from by rw [List.take_of_length_le (by omega), List.nil_append]; rfl]
     rw [List.take_of_length_le (by omega)] at hn
     have hna : n = (Hd.allC z1 q1 d1).length := hn
     refine hExit rfl ?_
     refine qSeq rfl ?_
     refine hSeq ?_
     refine hReg (sq 0 (sl 1 (sq 2 (sq 3 (sq 4 (sq 5 (sq 6 sz))))))) (by kernel_rfl) ?_
     refine mvS rfl rfl rfl ?_
     refine callS Try.call25 trv1 rfl rfl (fun w hs => impl_OtherCards_c _ n hd.2 _ w (OwnI.rd (hs.at_ 0 rfl)) (by assumption) (by omega)) ?_
     rintro ⟨ay8, ny8, cy8, y8⟩ hr8
     dsimp only at hr8
     subst y8
     refine rPieces (L' := [OwnI 2 ay8 ny8 cy8 (((Iso.others (Hd.allC z1 q1 d1) 52))), OwnI 2 hd.1 n hd.2 (Hd.allC z1 q1 d1), dieP bks6 ca bs cc, OwnI 2 ay3 ny3 cy3 (Hd.ouY v1 z1 q1 d1 p1), OwnI 2 ay2 ny2 cy2 (Hd.ouY v1 z1 q1 d1 p1), RdR maK az1 nz1 Hz1 z1, OwnI 2 aq1 nq1 cq1 q1, OwnI 2 ad1 nd1 cd1 d1]) (fun _ h => h) ?_
     refine rKnow (fun w hs => (show OwnI 2 ay8 ny8 cy8 (((Iso.others (Hd.allC z1 q1 d1) 52))) w from hs.at_ 0 rfl).lenz) (fun lenn8 => ?_)
     refine rKnow (fun w hs => (show OwnI 2 ay8 ny8 cy8 (((Iso.others (Hd.allC z1 q1 d1) 52))) w from hs.at_ 0 rfl).capz) (fun lcpn8 => ?_)
     refine rVal (v' := .tuple #[.slice ay8 ny8 cy8, .int .i64 0]) rfl ?_
     refine mv rfl rfl rfl ?_
     refine ext rfl rfl rfl rfl ?_
     refine ext rfl rfl rfl rfl ?_
     refine asS rfl rfl rfl ?_
     refine asI rfl rfl rfl ?_
     refine rNil ?_
     refine qSeq rfl ?_
     refine hSeq ?_
     refine hSeq ?_
     refine hReg (sq 0 (sq 1 (sq 2 (sq 3 (sq 4 (sq 5 (sq 6 (sq 7 (sq 8 (sq 9 sz)))))))))) (by kernel_rfl) ?_
     refine mvI rfl rfl rfl ?_
     refine neq rfl rfl rfl rfl ?_
     refine mvB rfl rfl rfl ?_
     refine mvS rfl rfl rfl ?_
     refine lenS Try.runUnderlying23 rfl rfl rfl ?_
     refine mvS rfl rfl rfl ?_
     refine lenS Try.runUnderlying23 rfl rfl rfl ?_
     refine sub rfl rfl rfl rfl (by first | omega | (dsimp only; omega)) ?_
     refine neq rfl rfl rfl rfl ?_
     refine pickB rfl rfl rfl rfl ?_
     refine rNil ?_
     refine qSeq rfl ?_
     refine hIfD rfl (fun c5 => ?_) (fun c5 => ?_)
     ·
      replace c5 : (ny8 : Int) ≠ (52 - (n : Int)) := c5
      exfalso; omega
     ·
      replace c5 : ¬ ((ny8 : Int) ≠ (52 - (n : Int))) := c5
      refine hSkip ?_
      refine qSeq rfl ?_
      refine hSeq ?_
      refine hSeq ?_
      refine hReg (sq 0 (sq 1 (sq 2 sz))) (by kernel_rfl) ?_
      refine mvS rfl rfl rfl ?_
      refine lenS Try.runUnderlying23 rfl rfl rfl ?_
      refine eql rfl rfl rfl rfl ?_
      refine rNil ?_
      refine qSeq rfl ?_
      refine hIfD rfl (fun c6 => ?_) (fun c6 => ?_)
      ·
       replace c6 : (ny8 : Int) = 0 := c6
       have hbz := Hd.boards4_len (z := z1) (d := d1) ho3
       have hoz := Hd.outs_len v1 p1 z1 (Hd.boards z1 q1 d1)
       rw [← ho4] at hoz
       have hre : (Hd.restL z1 q1 d1).length = (Iso.others (Hd.allC z1 q1 d1) 52).length := rfl
       refine hSeq ?_
       refine hReg (sq 0 (sq 1 (sq 2 (sq 3 sz)))) (by kernel_rfl) ?_
       refine mvS rfl rfl rfl ?_
       refine lenS Try.runUnderlying23 rfl rfl rfl ?_
       refine eql rfl rfl rfl rfl ?_
       refine asB rfl rfl rfl ?_
       refine rNil ?_
       refine qSeq rfl ?_
       refine hRet ?_
       exact fun w hs => ⟨[.bool (decide ((ny2 : Int) = 0))], ⟨rfl, trivial⟩, ⟨by first | rfl | exact (bT (by omega)).symm, hs.upd⟩⟩
      ·
       replace c6 : ¬ ((ny8 : Int) = 0) := c6
       refine hSkip ?_
       refine qSeq rfl ?_
       refine hSeq ?_
       refine hReg (sq 0 (sq 1 (sq 2 (sq 3 (sl 4 (sq 5 (sl 6 (sq 7 sz)))))))) (by kernel_rfl) ?_
       refine mvS rfl rfl rfl ?_
       refine mvP rfl rfl rfl ?_
       refine mvS rfl rfl rfl ?_
       refine lenS Try.runUnderlying23 rfl rfl rfl ?_
       refine rPieces (L' := [dieP bks6 ca bs cc, OwnI 2 ay8 ny8 cy8 (((Iso.others (Hd.allC z1 q1 d1) 52))), OwnI 2 hd.1 n hd.2 (Hd.allC z1 q1 d1), OwnI 2 ay3 ny3 cy3 (Hd.ouY v1 z1 q1 d1 p1), OwnI 2 ay2 ny2 cy2 (Hd.ouY v1 z1 q1 d1 p1), RdR maK az1 nz1 Hz1 z1, OwnI 2 aq1 nq1 cq1 q1, OwnI 2 ad1 nd1 cd1 d1]) (fun _ h => h.perm (pull (i := 2) rfl)) ?_
       refine callMK (α := Int) (Lf := [dieP bks6 ca bs cc]) (Lr := [OwnI 2 ay8 ny8 cy8 (((Iso.others (Hd.allC z1 q1 d1) 52))), OwnI 2 hd.1 n hd.2 (Hd.allC z1 q1 d1), OwnI 2 ay3 ny3 cy3 (Hd.ouY v1 z1 q1 d1 p1), OwnI 2 ay2 ny2 cy2 (Hd.ouY v1 z1 q1 d1 p1), RdR maK az1 nz1 Hz1 z1, OwnI 2 aq1 nq1 cq1 q1, OwnI 2 ad1 nd1 cd1 d1]) (good := fun x => 0 ≤ x ∧ x < (ny8 : Int)) (φs := fun x => [dieP bks6 ca bs cc]) (val := fun x => .int .i64 x) rfl Try.call26 trv1 rfl rfl (fun w M1 hs hk => die_below bks6 ca bs cc (ny8 : Int) w M1 hs (hk _ kcode) hok (by omega)) ?_
       intro x9 hx9
       try dsimp only at hx9
       refine rPieces (L' := [dieP bks6 ca bs cc, OwnI 2 ay8 ny8 cy8 (((Iso.others (Hd.allC z1 q1 d1) 52))), OwnI 2 hd.1 n hd.2 (Hd.allC z1 q1 d1), OwnI 2 ay3 ny3 cy3 (Hd.ouY v1 z1 q1 d1 p1), OwnI 2 ay2 ny2 cy2 (Hd.ouY v1 z1 q1 d1 p1), RdR maK az1 nz1 Hz1 z1, OwnI 2 aq1 nq1 cq1 q1, OwnI 2 ad1 nd1 cd1 d1]) (fun _ h => h) ?_
       refine ixIl (zn := (x9).toNat) el23 ((Kn.at_ 1 rfl).imp fun _ h => OwnI.rd h) rfl rfl rfl rfl (by omega) (by omega) rfl ?_
       intro ae10 e10
       refine ldl Try.isAgg2 (e10) trv rfl rfl rfl ?_
       refine asI rfl rfl rfl ?_
       refine rNil ?_
       refine qSeq rfl ?_
       refine hSeq ?_
       have hre : (Hd.restL z1 q1 d1).length = (Iso.others (Hd.allC z1 q1 d1) 52).length := rfl
       have hcm : ((((Iso.others (Hd.allC z1 q1 d1) 52))).getD ((x9).toNat) 0) ∈ Hd.restL z1 q1 d1 := Math.getD_mem 0 (by omega)
       obtain ⟨hx1, hx2, hx3⟩ := Hd.ou_next hou hcm
       have hq5 : (([] ++ q1) ++ [((((Iso.others (Hd.allC z1 q1 d1) 52))).getD ((x9).toNat) 0)]).length = 5 := by rw [List.nil_append, List.length_append]; simp; omega
       have hx1b : Hd.paC v1 z1 (([] ++ q1) ++ [((((Iso.others (Hd.allC z1 q1 d1) 52))).getD ((x9).toNat) 0)]) = 0 := hx1
       have hx2b : (Hd.paY v1 z1 (([] ++ q1) ++ [((((Iso.others (Hd.allC z1 q1 d1) 52))).getD ((x9).toNat) 0)])).length = z1.length := hx2
       have hx3b : (Hd.ouY v1 z1 q1 d1 p1).contains ((((Iso.others (Hd.allC z1 q1 d1) 52))).getD ((x9).toNat) 0) = decide ((Hd.paY v1 z1 (([] ++ q1) ++ [((((Iso.others (Hd.allC z1 q1 d1) 52))).getD ((x9).toNat) 0)])).getD p1.toNat 0 = 24) := hx3
       refine hReg (sq 0 (sq 1 (sl 2 (sq 3 (sl 4 (sq 5 (sl 6 (sl 7 (sl 8 (sq 9 (sq 10 (sq 11 (sq 12 (sq 13 sz)))))))))))))) (by kernel_rfl) ?_
       refine mvI rfl rfl rfl ?_
       refine mvS rfl rfl rfl ?_
       refine bsl trv1 rfl rfl rfl (bsl23_0) (fun bkl9 hbkl9 => ?_)
       refine mvS rfl rfl rfl ?_
       refine rPieces (fun _ h => Sep.litI h 0 [] rfl rfl rfl) ?_
       refine aplL (N := 0) (ys := q1) 0 rfl ((Kn.at_ 7 rfl).imp fun _ h => OwnI.rd h) mk23 trv1 rfl rfl rfl rfl (by first | omega | (dsimp only; omega)) ?_
       intro aq11 cq11
       refine mvI rfl rfl rfl ?_
       refine bsl trv1 rfl rfl rfl (bsl23_1 (.int .i64 _) rfl) (fun bkl10 hbkl10 => ?_)
       refine aplI (N := (0 + nq1)) (x := ((((Iso.others (Hd.allC z1 q1 d1) 52))).getD ((x9).toNat) 0)) 1 0 rfl rfl mk23 trv1 rfl rfl rfl rfl (by first | omega | (dsimp only; omega)) ?_
       intro aq12 cq12
       refine rKnow (fun w hs => (show OwnI 2 aq12 (((0 + nq1) + 1)) cq12 ((([] ++ q1) ++ [((((Iso.others (Hd.allC z1 q1 d1) 52))).getD ((x9).toNat) 0)])) w from hs.at_ 1 rfl).capz) (fun lcaq12 => ?_)
       refine callS Try.call27 trv1 rfl rfl (fun w hs => impl_PartsAt_c _ _ nz1 cz1 _ _ _ (((0 + nq1) + 1)) cq12 _ w (hs.at_ 7 rfl) (OwnI.rd (hs.at_ 1 rfl)) (by omega) (by omega) (by omega)) ?_
       rintro ⟨ay13, ny13, cy13, y13, u13⟩ ⟨hr13a, hr13b⟩
       dsimp only at hr13a hr13b
       subst y13
       subst u13
       refine rPieces (L' := [OwnI 2 ay13 ny13 cy13 (((Hd.paY v1 z1 ((([] ++ q1) ++ [((((Iso.others (Hd.allC z1 q1 d1) 52))).getD ((x9).toNat) 0)]))))), blk bkl10 2 [.int .i64 (((((Iso.others (Hd.allC z1 q1 d1) 52))).getD ((x9).toNat) 0))], OwnI 2 aq12 (((0 + nq1) + 1)) cq12 ((([] ++ q1) ++ [((((Iso.others (Hd.allC z1 q1 d1) 52))).getD ((x9).toNat) 0)])), dieP bks6 ca bs cc, OwnI 2 ay8 ny8 cy8 (((Iso.others (Hd.allC z1 q1 d1) 52))), OwnI 2 hd.1 n hd.2 (Hd.allC z1 q1 d1), OwnI 2 ay3 ny3 cy3 (Hd.ouY v1 z1 q1 d1 p1), OwnI 2 ay2 ny2 cy2 (Hd.ouY v1 z1 q1 d1 p1), RdR maK az1 nz1 Hz1 z1, OwnI 2 aq1 nq1 cq1 q1, OwnI 2 ad1 nd1 cd1 d1]) (fun _ h => h) ?_
       refine rKnow (fun w hs => (show OwnI 2 ay13 ny13 cy13 (((Hd.paY v1 z1 ((([] ++ q1) ++ [((((Iso.others (Hd.allC z1 q1 d1) 52))).getD ((x9).toNat) 0)]))))) w from hs.at_ 0 rfl).lenz) (fun lenn11 => ?_)
       refine rKnow (fun w hs => (show OwnI 2 ay13 ny13 cy13 (((Hd.paY v1 z1 ((([] ++ q1) ++ [((((Iso.others (Hd.allC z1 q1 d1) 52))).getD ((x9).toNat) 0)]))))) w from hs.at_ 0 rfl).capz) (fun lcpn11 => ?_)
       refine rVal (v' := .tuple #[.slice ay13 ny13 cy13, .int .i64 (((Hd.paC v1 z1 ((([] ++ q1) ++ [((((Iso.others (Hd.allC z1 q1 d1) 52))).getD ((x9).toNat) 0)])))))]) rfl ?_
       refine mv rfl rfl rfl ?_
       refine ext rfl rfl rfl rfl ?_
       refine ext rfl rfl rfl rfl ?_
       refine asS rfl rfl rfl ?_
       refine asI rfl rfl rfl ?_
       refine rNil ?_
       refine qSeq rfl ?_
       refine hSeq ?_
       refine hReg (sq 0 (sq 1 (sq 2 (sq 3 (sq 4 (sl 5 (sq 6 (sq 7 (sq 8 (sq 9 (sq 10 (sq 11 (sq 12 sz))))))))))))) (by kernel_rfl) ?_
       refine mvI rfl rfl rfl ?_
       refine mvS rfl rfl rfl ?_
       refine mvS rfl rfl rfl ?_
       refine mvS rfl rfl rfl ?_
       refine mvI rfl rfl rfl ?_
       refine callS Try.call28 trv1 rfl rfl (fun w hs => impl_WinsOf_c _ _ nz1 cz1 _ _ _ nq1 cq1 _ _ nd1 cd1 _ _ w (hs.at_ 8 rfl) (OwnI.rd (hs.at_ 9 rfl)) (OwnI.rd (hs.at_ 10 rfl)) (by omega) (by first | omega | (simp only [List.length_nil]; omega)) (by omega) (by omega)) ?_
       rintro ⟨u14, t14, e14⟩ ⟨hr14a, hr14b, hr14c⟩
       dsimp only at hr14a hr14b hr14c
       subst u14
       subst t14
       subst e14
       refine rPieces (L' := [OwnI 2 ay13 ny13 cy13 (((Hd.paY v1 z1 ((([] ++ q1) ++ [((((Iso.others (Hd.allC z1 q1 d1) 52))).getD ((x9).toNat) 0)]))))), blk bkl10 2 [.int .i64 (((((Iso.others (Hd.allC z1 q1 d1) 52))).getD ((x9).toNat) 0))], OwnI 2 aq12 (((0 + nq1) + 1)) cq12 ((([] ++ q1) ++ [((((Iso.others (Hd.allC z1 q1 d1) 52))).getD ((x9).toNat) 0)])), dieP bks6 ca bs cc, OwnI 2 ay8 ny8 cy8 (((Iso.others (Hd.allC z1 q1 d1) 52))), OwnI 2 hd.1 n hd.2 (Hd.allC z1 q1 d1), OwnI 2 ay3 ny3 cy3 (Hd.ouY v1 z1 q1 d1 p1), OwnI 2 ay2 ny2 cy2 (Hd.ouY v1 z1 q1 d1 p1), RdR maK az1 nz1 Hz1 z1, OwnI 2 aq1 nq1 cq1 q1, OwnI 2 ad1 nd1 cd1 d1]) (fun _ h => h) ?_
       refine rVal (v' := .tuple #[.int .i64 (Hd.wiA v1 z1 q1 d1 p1), .int .i64 (Hd.wiB v1 z1 q1 d1 p1), .int .i64 (Hd.wiC v1 z1 q1 d1 p1)]) rfl ?_
       refine mv rfl rfl rfl ?_
       refine ext rfl rfl rfl rfl ?_
       refine ext rfl rfl rfl rfl ?_
       refine ext rfl rfl rfl rfl ?_
       refine asI rfl rfl rfl ?_
       refine asI rfl rfl rfl ?_
       refine asI rfl rfl rfl ?_
       refine rNil ?_
       refine qSeq rfl ?_
       refine hSeq ?_
       refine hDraw (Ls := [OwnI 2 ay13 ny13 cy13 (((Hd.paY v1 z1 ((([] ++ q1) ++ [((((Iso.others (Hd.allC z1 q1 d1) 52))).getD ((x9).toNat) 0)])))))]) (by kernel_rfl) (sq 0 (sq 1 (sq 2 (sq 3 (sq 4 (sq 5 (sq 6 (sq 7 (sq 8 (sq 9 (sq 10 (sq 11 (sq 13 (sq 14 (sq 15 (sq 16 (sq 17 (sl 12 (sq 18 (sq 19 (sq 20 (sq 21 (sq 22 (sq 23 (sq 24 (sq 25 (sq 26 (sq 27 (sq 28 (sq 29 (sq 30 sz))))))))))))))))))))))))))))))) (by kernel_rfl) (.cons_cons _ (.cons _ (.cons _ (.cons _ (.cons _ (.cons _ (.cons _ (.cons _ (.cons _ (.cons _ (.cons _ .slnil))))))))))) ?_
       refine mvI rfl rfl rfl ?_
       refine eql rfl rfl rfl rfl ?_
       refine mvB rfl rfl rfl ?_
       refine rBoolD (d := 133) rfl (fun g7 => ?_) (fun g7 => ?_)
       ·
        replace g7 : ((Hd.paC v1 z1 ((([] ++ q1) ++ [((((Iso.others (Hd.allC z1 q1 d1) 52))).getD ((x9).toNat) 0)])))) = 0 := g7
        refine mvS rfl rfl rfl ?_
        refine lenS Try.runUnderlying23 rfl rfl rfl ?_
        refine mvS rfl rfl rfl ?_
        refine lenS Try.runUnderlying22 rfl rfl rfl ?_
        refine eql rfl rfl rfl rfl ?_
        refine pickB rfl rfl rfl rfl ?_
        refine mvB rfl rfl rfl ?_
        refine rBoolD (d := 140) rfl (fun g8 => ?_) (fun g8 => ?_)
        ·
         replace g8 : (ny13 : Int) = (nz1 : Int) := g8
         refine mvS rfl rfl rfl ?_
         refine mvI rfl rfl rfl ?_
         refine mvS rfl rfl rfl ?_
         refine mvI rfl rfl rfl ?_
         refine ixIq (zn := (p1).toNat) el23 ((Kn.at_ 0 rfl).imp fun _ h => OwnI.rd h) (fun _ h => h.pick [0]) rfl rfl rfl rfl (by omega) (by omega) rfl ?_
         intro ae15 e15
         refine ldq Try.isAgg2 (e15) rfl rfl rfl ?_
         refine eql rfl rfl rfl rfl ?_
         refine callP (v := .bool (((Hd.ouY v1 z1 q1 d1 p1).contains (((((Iso.others (Hd.allC z1 q1 d1) 52))).getD ((x9).toNat) 0))))) Try.call29 (fun _ h => h.pick [0]) rfl rfl (fun w hs => laws_hasInt_c _ ny2 cy2 _ _ w (OwnI.rd (hs.at_ 7 rfl))) ?_
         refine eqlB Try.underlying4 rfl rfl rfl rfl ?_
         refine pickB rfl rfl rfl rfl ?_
         refine mvB rfl rfl rfl ?_
         refine rBoolD (d := 151) rfl (fun g9 => ?_) (fun g9 => ?_)
         ·
          replace g9 : ((Hd.ouY v1 z1 q1 d1 p1).contains (((((Iso.others (Hd.allC z1 q1 d1) 52))).getD ((x9).toNat) 0))) = decide (((((Hd.paY v1 z1 ((([] ++ q1) ++ [((((Iso.others (Hd.allC z1 q1 d1) 52))).getD ((x9).toNat) 0)]))))).getD ((p1).toNat) 0) = 24) := g9
          refine mvI rfl rfl rfl ?_
          refine eql rfl rfl rfl rfl ?_
          refine pickB rfl rfl rfl rfl ?_
          refine mvB rfl rfl rfl ?_
          refine rBoolD (d := 155) rfl (fun g10 => ?_) (fun g10 => ?_)
          ·
           replace g10 : (Hd.wiC v1 z1 q1 d1 p1) = 0 := g10
           refine mvI rfl rfl rfl ?_
           refine mvS rfl rfl rfl ?_
           refine lenS Try.runUnderlying23 rfl rfl rfl ?_
           refine eql rfl rfl rfl rfl ?_
           refine pickB rfl rfl rfl rfl ?_
           refine asB rfl rfl rfl ?_
           refine rNil ?_
           refine qSeq rfl ?_
           refine hRet ?_
           exact fun w hs => ⟨[.bool (decide ((Hd.wiA v1 z1 q1 d1 p1) = (ny2 : Int)))], ⟨rfl, trivial⟩, ⟨by first | rfl | exact (bT (by omega)).symm, hs.upd⟩⟩
          ·
           replace g10 : ¬ ((Hd.wiC v1 z1 q1 d1 p1) = 0) := g10
           exact absurd ho5 g10
         ·
          replace g9 : ¬ (((Hd.ouY v1 z1 q1 d1 p1).contains (((((Iso.others (Hd.allC z1 q1 d1) 52))).getD ((x9).toNat) 0))) = decide (((((Hd.paY v1 z1 ((([] ++ q1) ++ [((((Iso.others (Hd.allC z1 q1 d1) 52))).getD ((x9).toNat) 0)]))))).getD ((p1).toNat) 0) = 24)) := g9
          exact absurd hx3b g9
        ·
         replace g8 : ¬ ((ny13 : Int) = (nz1 : Int)) := g8
         exfalso; omega
       ·
        replace g7 : ¬ (((Hd.paC v1 z1 ((([] ++ q1) ++ [((((Iso.others (Hd.allC z1 q1 d1) 52))).getD ((x9).toNat) 0)])))) = 0) := g7
        exact absurd hx1b g7
theorem cells5 : Try.prog.cellsOf 5 = 1 := by kernel_rfl
set_option maxHeartbeats 2000000 in
theorem fnOuts_lifted (os : Os) (started : os.Started) (H : Type) (enc : TypeId × Value → H) :
  ReturnsInHanded {} Try.checked os 4 .any (Rows.fnOutsSpec.pre6 enc Try.prog Try.f4 Rows.fnOutsRow.domain false) (Rows.fnOutsSpec.post enc Try.prog Try.f4 false true false false) := by
 refine returnsInHanded_of_change (C := Try.checked) own started (by kernel_rfl) Try.func4
  (ChangeSpec.witness6 (enc := enc) (C := Try.checked) false ⟨#[], #[.slice none 0 0], []⟩ 8 (by kernel_rfl) (by kernel_rfl) (by kernel_rfl) (by kernel_rfl)) ?_
 intro W base args ds gs before hval0 hW hcnd _
 have hval : ∀ (j : Nat) t v, Try.f4.params[j]? = some t → args[j]? = some v → Value.okWide Try.prog W .any base t v := hval0
 have hW' := hW
 obtain ⟨p, q, hA0, hV, rfl, hfz, hnd⟩ := hW
 have hA : DataW.TrodAll enc Try.prog W 0 (fun _ => true) true Try.f4.params.toList args.toList ds p := hA0
 rw [Try.params4] at hA hval
 obtain ⟨v0, vs0, d0, ds0, p0, q0, hargs, rfl, rfl, h0, r0⟩ := trodAll_cons hA
 obtain ⟨rfl, rfl, rfl⟩ := trodAll_nil r0
 obtain rfl : args = #[v0] := by cases args; simp_all
 obtain ⟨rfl, rfl⟩ := trodVars_none hV
 obtain ⟨ca, bs, cc, rfl, hwf, hmax, hca⟩ := open_slice_ints Try.underlying32 Try.underlying5 cells5 (hval 0 32 v0 rfl rfl) h0
 refine (laws_FnOuts_c ca bs cc W hca hwf).mono fun e W' ⟨v, he, hv, hx⟩ => ?_
 subst he; subst hv
 exact ⟨_, rfl, law_post (tb := 4) hW' rfl rfl Try.underlying4 rfl rfl rfl (by kernel_rfl) hx⟩
theorem fnOuts_holds : Rows.FnOutsSaid :=
 OpenClaim.holds_of_wide 4 Try.f4 rfl rfl rfl rfl rfl rfl rfl ⟨rfl, rfl, rfl, rfl, rfl⟩ rfl rfl rfl rfl rfl (by kernel_rfl) Try.func4 (by kernel_rfl)
  (of_decide_eq_true (by kernel_rfl)) (by unfold Func.isWrapper; first | (rw [if_pos (by decide +kernel)]; kernel_rfl) | (rw [if_neg (by decide +kernel)]; exact ⟨rfl, rfl⟩))
  (fun os started H enc _ => fnOuts_lifted os started H enc)
#print axioms fnOuts_holds
end Go.Proofs.Yteaahdakammffaa
