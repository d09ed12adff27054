/- Contracts of parts, as the model finds them. Their conditions stand in each. -/
import Derived.Test.YteaahdakammffaaZ13Ut
import Derived.Test.YteaahdakammffaaZ1Ut
import Derived.Test.YteaahdakammffaaZ2Ut
import Derived.Test.YteaahdakammffaaZ3Ut
import Derived.Test.YteaahdakammffaaZ5Ut
import Derived.Test.YteaahdakammffaaZ6Ut
import Derived.Test.YteaahdakammffaaZ10Ut
import Derived.Test.YteaahdakammffaaZ11Ut
import Derived.Test.YteaahdakammffaaRows
import Derived.Test.YteaahdakammffaaZ7Ut
import Derived.Test.YteaahdakammffaaZ8Ut
import Derived.Test.YteaahdakammffaaZ0Ut
namespace Go.Proofs.Yteaahdakammffaa
open Go Go.RowKit V
set_option linter.unusedVariables false
set_option linter.unusedSimpArgs false
set_option maxRecDepth 100000
theorem spec_l16Parts_c (vn : Int) (az : Option Addr) (nz : Nat) (cz : Nat) (Hz : Nat → Hd) (z : List (List Int)) (aq : Option Addr) (nq : Nat) (cq : Nat) (q : List Int) (w : World) (rz : RdR maK az nz Hz z w) (rq : RdI aq nq q w) (hv : 0 ≤ vn ∧ vn ≤ 2) (hzn : 2 ≤ z.length ∧ z.length ≤ 4) (hq5 : q.length = 5) (hdl : Hd.dealP vn z q) (hcz : ∀ i, i < z.length → (z.getD i []).length ≤ (Hz i).2) (hcq : nq ≤ cq) :
  Calls Try.prog 70 #[.int .i64 vn, .slice az nz cz, .slice aq nq cq] w (Ret fun v w' => ∃ x : Option Addr × Nat × Nat × List Int, v = .slice x.1 x.2.1 x.2.2.1 ∧ (x.2.2.2 = Hd.parts vn z q) ∧ Sep w none_ [OwnI 2 x.1 x.2.1 x.2.2.1 x.2.2.2] w') := by
 have kz : Kn w none_ [] (RdR maK az nz Hz z) := fun w' hs => rz.ext hs.upd
 have lz : z.length = nz := rz.1
 have mz : nz ≤ 9223372036854775807 := rz.2.1
 have kq : Kn w none_ [] (RdI aq nq q) := fun w' hs => rq.ext hs.upd
 have lq : q.length = nq := rq.1
 have mq : nq ≤ 9223372036854775807 := rq.2.1
 refine fn (M := none_) (rs := [.tmp 6]) Try.func70 rfl Try.ntmps70 rfl rfl (Sep.start _ _) ?_
 refine hSeq ?_
 refine hReg (sq 0 sz) (by kernel_rfl) ?_
 refine asS rfl rfl rfl ?_
 refine rNil ?_
 refine qSeq rfl ?_
 refine hSeq ?_
 refine hReg (sl 0 (sq 1 (sq 2 (sl 3 (sl 4 (sl 5 sz)))))) (by kernel_rfl) ?_
 refine callS Try.call106 trv1 rfl rfl (fun w hs => spec_l06Standard_c  w ) ?_
 rintro bt1 hr1
 refine rVal (v' := .slice (some ⟨bt1, 0, none⟩) 8 8) rfl ?_
 refine mvI rfl rfl rfl ?_
 refine ixB el110 rfl rfl rfl rfl (by omega) (by omega) ?_
 refine ldAl Try.isAgg109 Try.sizeOf109 (cBp (m := 6) (vs := [.int .i64 (Hd.vHole vn), .int .i64 (Hd.vLeast vn), .int .i64 2, .int .i64 5, .bool true, .int .i64 (Hd.vLow vn)]) 0 rfl (by rcases (show vn = 0 ∨ vn = 1 ∨ vn = 2 by omega) with h | h | h <;> subst h <;> rfl)) trv rfl rfl rfl rfl ?_
 refine alc Try.zeroValue109 rfl trv1 rfl rfl (fun bka2 hbka2 => ?_)
 refine stAl (vs := [.int .i64 (Hd.vHole vn), .int .i64 (Hd.vLeast vn), .int .i64 2, .int .i64 5, .bool true, .int .i64 (Hd.vLow vn)]) 0 rfl Try.sizeOf109 trv rfl rfl rfl rfl rfl (by simp [Value.oneCell']) rfl ?_
 refine rNil ?_
 refine qSeq rfl ?_
 refine hSeq ?_
 refine hPieces (L' := [blk bka2 109 [.int .i64 (Hd.vHole vn), .int .i64 (Hd.vLeast vn), .int .i64 2, .int .i64 5, .bool true, .int .i64 (Hd.vLow vn)]]) (fun _ h => h.sub ((.cons_cons _ (.cons _ .slnil)))) ?_
 refine hReg (sl 0 (sl 1 (sl 2 (sq 3 (sq 4 (sq 5 sz)))))) (by kernel_rfl) ?_
 refine bsl trv1 rfl rfl rfl (bsl23_0) (fun bkl3 hbkl3 => ?_)
 refine bsl trv1 rfl rfl rfl (bsl23_0) (fun bkl4 hbkl4 => ?_)
 refine bsl trv1 rfl rfl rfl (bsl23_0) (fun bkl5 hbkl5 => ?_)
 refine asS rfl rfl rfl ?_
 refine asS rfl rfl rfl ?_
 refine asS rfl rfl rfl ?_
 refine rNil ?_
 refine qSeq rfl ?_
 refine hSeq ?_
 refine hSeq ?_
 refine hReg (sq 0 sz) (by kernel_rfl) ?_
 refine asI rfl rfl rfl ?_
 refine rNil ?_
 refine qSeq rfl ?_
 refine hBlk ?_
 refine hPieces (fun _ h => Sep.litI h 2 [] rfl rfl rfl) ?_
 refine hPieces (fun _ h => Sep.litI h 1 [] rfl rfl rfl) ?_
 refine hPieces (fun _ h => Sep.litI h 0 [] rfl rfl rfl) ?_
 refine hLoop (α := Nat × Nat × Hd × Nat × Hd × Nat × Hd) (fun x => x.1 ≤ nz ∧ (x.2.1 = x.1 ∧ x.2.2.2.1 = x.1 ∧ x.2.2.2.2.2.1 = x.1)) (fun x => nz - x.1) (fun x => [OwnI 2 x.2.2.2.2.2.2.1 x.2.2.2.2.2.1 x.2.2.2.2.2.2.2 (((Hd.nums z.length).take x.1)), OwnI 2 x.2.2.2.2.1.1 x.2.2.2.1 x.2.2.2.2.1.2 (((Hd.losL vn z q).take x.1)), OwnI 2 x.2.2.1.1 x.2.1 x.2.2.1.2 (((Hd.hisL vn z q).take x.1)), blk bka2 109 [.int .i64 (Hd.vHole vn), .int .i64 (Hd.vLeast vn), .int .i64 2, .int .i64 5, .bool true, .int .i64 (Hd.vLow vn)]]) (fun x => [(1, .slice az nz cz), (2, .slice aq nq cq), (7, .pointer (some ⟨bka2, 0, none⟩)), (8, .slice x.2.2.1.1 x.2.1 x.2.2.1.2), (9, .slice x.2.2.2.2.1.1 x.2.2.2.1 x.2.2.2.2.1.2), (10, .slice x.2.2.2.2.2.2.1 x.2.2.2.2.2.1 x.2.2.2.2.2.2.2), (11, .int .i64 (x.1 : Int))]) ((0, 0, ((some ⟨bkl3, 0, none⟩), 0), 0, ((some ⟨bkl4, 0, none⟩), 0), 0, ((some ⟨bkl5, 0, none⟩), 0))) ⟨Nat.zero_le _, rfl, rfl, rfl⟩ (fun _ h => h.pick [0, 0, 0, 0]) ⟨rfl, rfl, rfl, rfl, rfl, rfl, rfl, trivial⟩ ?_
 rintro ⟨i, n1, h1, n2, h2, n3, h3⟩ τ1 ⟨hi, hn1, hn2, hn3⟩
 dsimp only at hi hn1 hn2 hn3
 refine hRe [(1, .slice az nz cz), (2, .slice aq nq cq), (7, .pointer (some ⟨bka2, 0, none⟩)), (8, .slice h1.1 n1 h1.2), (9, .slice h2.1 n2 h2.2), (10, .slice h3.1 n3 h3.2), (11, .int .i64 (i : Int))] [OwnI 2 h3.1 n3 h3.2 (((Hd.nums z.length).take i)), OwnI 2 h2.1 n2 h2.2 (((Hd.losL vn z q).take i)), OwnI 2 h1.1 n1 h1.2 (((Hd.hisL vn z q).take i)), blk bka2 109 [.int .i64 (Hd.vHole vn), .int .i64 (Hd.vLeast vn), .int .i64 2, .int .i64 5, .bool true, .int .i64 (Hd.vLow vn)]] rfl rfl ?_
 refine hSeq ?_
 refine hSeq ?_
 refine hReg (sq 0 (sq 1 (sq 2 (sq 3 sz)))) (by kernel_rfl) ?_
 refine mvI rfl rfl rfl ?_
 refine mvS rfl rfl rfl ?_
 refine lenS Try.runUnderlying22 rfl rfl rfl ?_
 refine lss rfl rfl rfl rfl ?_
 refine rNil ?_
 refine qSeq rfl ?_
 refine hIfD rfl (fun c1 => ?_) (fun c1 => ?_)
 ·
  replace c1 : (i : Int) < (nz : Int) := c1
  have hiz : i < z.length := by omega
  obtain ⟨hl1, hl2⟩ := hdl _ (Cm.getD_mem' (d := []) hiz)
  have hlc := Hd.hole_cases hv hl1
  have hci := hcz i hiz
  have hhp := Hd.hands_P (v := vn) hv hl2
  rw [← Hd.vMany_eq] at hhp
  have hbs : Hd.bestS (Hd.handsV (Hd.vLeast vn) (z.getD i []) q (3 - Hd.vLeast vn).toNat) = Hd.hiN (Hd.vLeast vn) (z.getD i []) q := by rw [Hd.vMany_eq]; exact Hd.hi_eq hv hl1 hl2 hq5
  have hgh := Hd.hisL_get (v := vn) (q := q) hiz
  have hgl := Hd.losL_get (v := vn) (q := q) hiz
  have hh1 := Hd.hisL_len vn z q
  have hh2 := Hd.losL_len vn z q
  have hh3 := Hd.nums_len z.length
  have hgn := Hd.nums_get (n := z.length) hiz
  refine hSkip ?_
  refine qSeq rfl ?_
  refine hSeq ?_
  refine hBlk ?_
  refine hSeq ?_
  refine hDraw (Ls := [blk bka2 109 [.int .i64 (Hd.vHole vn), .int .i64 (Hd.vLeast vn), .int .i64 2, .int .i64 5, .bool true, .int .i64 (Hd.vLow vn)]]) (by kernel_rfl) (sq 0 (sq 1 (sq 2 (sq 3 (sq 4 (sq 5 (sl 6 (sq 7 sz)))))))) (by kernel_rfl) (.cons _ (.cons _ (.cons _ (.cons_cons _ .slnil)))) ?_
  refine ldAq Try.isAgg109 Try.sizeOf109 (cBs 0 rfl) rfl rfl rfl rfl ?_
  refine mvS rfl rfl rfl ?_
  refine mvI rfl rfl rfl ?_
  refine ixRq (zn := i) (z.getD i []) el22 (Kn.drop (k := 1) kz) (fun _ h => h.pick [3]) rfl rfl rfl rfl (by omega) (by omega) rfl (nth [] (by omega)) ?_
  intro be2 oe2 e2
  refine ldq Try.isAgg23 (Kn.fld e2 0 rfl) rfl rfl rfl ?_
  refine mvS rfl rfl rfl ?_
  refine callS Try.call117 (by exact (fun _ _ h => h.pick [4])) rfl rfl (fun w hs => spec_l06Hands_c _ _ _ _ _ _ _ ((z.getD i []).length) ((Hz i).2) _ _ nq cq _ w (Kn.drop (k := 4) ((Kn.imp kz fun _ h => h.kidM (nth [] (by omega)))) w hs) (Kn.drop (k := 4) kq w hs) (by first | rfl | assumption | omega) (by first | rfl | assumption | omega) (by first | assumption | omega) (by omega) (by omega) (by first | assumption | omega) (by first | assumption | omega)) ?_
  rintro ⟨ay3, ny3, cy3, Hy3, y3⟩ hr3
  dsimp only at hr3
  subst y3
  refine rPieces (L' := [OwnR maK 23 2 ay3 ny3 cy3 Hy3 (((Hd.handsV (Hd.vLeast vn) (z.getD i []) q (3 - (Hd.vLeast vn)).toNat))), OwnI 2 h3.1 n3 h3.2 (((Hd.nums z.length).take i)), OwnI 2 h2.1 n2 h2.2 (((Hd.losL vn z q).take i)), OwnI 2 h1.1 n1 h1.2 (((Hd.hisL vn z q).take i)), blk bka2 109 [.int .i64 (Hd.vHole vn), .int .i64 (Hd.vLeast vn), .int .i64 2, .int .i64 5, .bool true, .int .i64 (Hd.vLow vn)]]) (fun _ h => h) ?_
  refine rKnow (fun w hs => (show OwnR maK 23 2 ay3 ny3 cy3 Hy3 (((Hd.handsV (Hd.vLeast vn) (z.getD i []) q (3 - (Hd.vLeast vn)).toNat))) w from hs.at_ 0 rfl).1) (fun lenn6 => ?_)
  refine rVal (v' := .slice ay3 ny3 cy3) rfl ?_
  refine asS rfl rfl rfl ?_
  refine rNil ?_
  refine qSeq rfl ?_
  refine hSeq ?_
  refine hReg (sq 0 (sl 1 (sq 2 (sq 3 (sq 4 (sq 5 (sq 6 sz))))))) (by kernel_rfl) ?_
  refine mvS rfl rfl rfl ?_
  refine callS Try.call118 trv1 rfl rfl (fun w hs => spec_l06High_c _ ny3 cy3 _ _ w (OwnR.rd (hs.at_ 0 rfl) maK.ok) (by assumption)) ?_
  rintro ⟨u4, t4⟩ hr4
  dsimp only at hr4
  subst t4
  refine rPieces (L' := [OwnR maK 23 2 ay3 ny3 cy3 Hy3 (((Hd.handsV (Hd.vLeast vn) (z.getD i []) q (3 - (Hd.vLeast vn)).toNat))), OwnI 2 h3.1 n3 h3.2 (((Hd.nums z.length).take i)), OwnI 2 h2.1 n2 h2.2 (((Hd.losL vn z q).take i)), OwnI 2 h1.1 n1 h1.2 (((Hd.hisL vn z q).take i)), blk bka2 109 [.int .i64 (Hd.vHole vn), .int .i64 (Hd.vLeast vn), .int .i64 2, .int .i64 5, .bool true, .int .i64 (Hd.vLow vn)]]) (fun _ h => h) ?_
  refine rVal (v' := .tuple #[.int .i64 u4, .int .i64 (((Hd.bestS (((Hd.handsV (Hd.vLeast vn) (z.getD i []) q (3 - (Hd.vLeast vn)).toNat))))))]) rfl ?_
  refine mv rfl rfl rfl ?_
  refine ext rfl rfl rfl rfl ?_
  refine ext rfl rfl rfl rfl ?_
  refine asI rfl rfl rfl ?_
  refine asI rfl rfl rfl ?_
  refine rNil ?_
  refine qSeq rfl ?_
  refine hSeq ?_
  refine hReg (sq 0 sz) (by kernel_rfl) ?_
  refine asI rfl rfl rfl ?_
  refine rNil ?_
  refine qSeq rfl ?_
  refine hSeq ?_
  refine hSeq ?_
  refine hReg (sq 0 (sl 1 (sq 2 sz))) (by kernel_rfl) ?_
  refine fld fl109_5 rfl rfl rfl ?_
  refine ldl Try.isAgg2 (cB 4 rfl rfl) trv rfl rfl rfl ?_
  refine neq rfl rfl rfl rfl ?_
  refine rNil ?_
  refine qSeq rfl ?_
  refine hIfD rfl (fun c2 => ?_) (fun c2 => ?_)
  ·
   replace c2 : (Hd.vLow vn) ≠ 0 := c2
   have hlw := Hd.low_cases c2
   have hls : Hd.loN (Hd.vLow vn) (z.getD i []) q = Hd.eight (Hd.vLow vn) (Hd.lowS (Hd.handsV (Hd.vLeast vn) (z.getD i []) q (3 - Hd.vLeast vn).toNat)) := by unfold Hd.loN; rw [Hd.vMany_eq, Hd.lo_eq hv c2 hl2]
   rw [if_neg c2, hls] at hgl
   refine hSeq ?_
   refine hReg (sl 0 (sq 1 (sl 2 (sq 3 (sq 4 (sq 5 (sq 6 (sq 7 sz)))))))) (by kernel_rfl) ?_
   refine ldAl Try.isAgg109 Try.sizeOf109 (cBs 4 rfl) trv rfl rfl rfl rfl ?_
   refine mvS rfl rfl rfl ?_
   refine callS Try.call119 trv1 rfl rfl (fun w hs => spec_l06Low_c _ _ _ _ _ _ _ ny3 cy3 _ _ w (OwnR.rd (hs.at_ 0 rfl) maK.ok) (by first | assumption | omega) (by assumption)) ?_
   rintro ⟨u5, t5⟩ hr5
   dsimp only at hr5
   subst t5
   refine rPieces (L' := [OwnR maK 23 2 ay3 ny3 cy3 Hy3 (((Hd.handsV (Hd.vLeast vn) (z.getD i []) q (3 - (Hd.vLeast vn)).toNat))), OwnI 2 h3.1 n3 h3.2 (((Hd.nums z.length).take i)), OwnI 2 h2.1 n2 h2.2 (((Hd.losL vn z q).take i)), OwnI 2 h1.1 n1 h1.2 (((Hd.hisL vn z q).take i)), blk bka2 109 [.int .i64 (Hd.vHole vn), .int .i64 (Hd.vLeast vn), .int .i64 2, .int .i64 5, .bool true, .int .i64 (Hd.vLow vn)]]) (fun _ h => h) ?_
   refine rVal (v' := .tuple #[.int .i64 u5, .int .i64 (((Hd.lowS (((Hd.handsV (Hd.vLeast vn) (z.getD i []) q (3 - (Hd.vLeast vn)).toNat))))))]) rfl ?_
   refine mv rfl rfl rfl ?_
   refine ext rfl rfl rfl rfl ?_
   refine ext rfl rfl rfl rfl ?_
   refine asI rfl rfl rfl ?_
   refine asI rfl rfl rfl ?_
   refine rNil ?_
   refine qSeq rfl ?_
   refine hSeq ?_
   refine hReg (sl 0 (sq 1 (sl 2 sz))) (by kernel_rfl) ?_
   refine ldAl Try.isAgg109 Try.sizeOf109 (cBs 4 rfl) trv rfl rfl rfl rfl ?_
   refine mvI rfl rfl rfl ?_
   refine callP (v := .bool (decide ((Hd.vLow vn) ≠ 1 ∨ (0 ≤ (((Hd.lowS (((Hd.handsV (Hd.vLeast vn) (z.getD i []) q (3 - (Hd.vLeast vn)).toNat)))))) ∧ (((Hd.lowS (((Hd.handsV (Hd.vLeast vn) (z.getD i []) q (3 - (Hd.vLeast vn)).toNat)))))) ≤ 228487)))) Try.call120 trv rfl rfl (fun w hs => spec_l06Counts_c _ _ _ _ _ _ _ w ) ?_
   refine rNil ?_
   refine qSeq rfl ?_
   refine hIfD rfl (fun c3 => ?_) (fun c3 => ?_)
   ·
    replace c3 : (Hd.vLow vn) ≠ 1 ∨ (0 ≤ (((Hd.lowS (((Hd.handsV (Hd.vLeast vn) (z.getD i []) q (3 - (Hd.vLeast vn)).toNat)))))) ∧ (((Hd.lowS (((Hd.handsV (Hd.vLeast vn) (z.getD i []) q (3 - (Hd.vLeast vn)).toNat)))))) ≤ 228487) := c3
    have hlv := hlw.1
    rw [show Hd.eight (Hd.vLow vn) (Hd.lowS (Hd.handsV (Hd.vLeast vn) (z.getD i []) q (3 - Hd.vLeast vn).toNat)) = Hd.lowS (Hd.handsV (Hd.vLeast vn) (z.getD i []) q (3 - Hd.vLeast vn).toNat) from by unfold Hd.eight; rw [if_neg (by omega)]] at hgl
    refine hReg (sq 0 (sq 1 sz)) (by kernel_rfl) ?_
    refine mvI rfl rfl rfl ?_
    refine asI rfl rfl rfl ?_
    refine rNil ?_
    refine qSeq rfl ?_
    refine hSeq ?_
    refine hReg (sq 0 (sq 1 (sl 2 (sl 3 (sq 4 sz))))) (by kernel_rfl) ?_
    refine mvS rfl rfl rfl ?_
    refine mvI rfl rfl rfl ?_
    refine bsl trv1 rfl rfl rfl (bsl23_1 (.int .i64 _) rfl) (fun bkl7 hbkl7 => ?_)
    refine aplI (N := n1) (x := ((Hd.bestS (((Hd.handsV (Hd.vLeast vn) (z.getD i []) q (3 - (Hd.vLeast vn)).toNat)))))) 4 0 rfl rfl mk23 trv1 rfl rfl rfl rfl (by omega) ?_
    intro aq6 cq6
    refine asS rfl rfl rfl ?_
    refine rNil ?_
    refine qSeq rfl ?_
    refine hSeq ?_
    refine hReg (sq 0 (sq 1 (sl 2 (sl 3 (sq 4 sz))))) (by kernel_rfl) ?_
    refine mvS rfl rfl rfl ?_
    refine mvI rfl rfl rfl ?_
    refine bsl trv1 rfl rfl rfl (bsl23_1 (.int .i64 _) rfl) (fun bkl8 hbkl8 => ?_)
    refine aplI (N := n2) (x := ((Hd.lowS (((Hd.handsV (Hd.vLeast vn) (z.getD i []) q (3 - (Hd.vLeast vn)).toNat)))))) 4 0 rfl rfl mk23 trv1 rfl rfl rfl rfl (by omega) ?_
    intro aq7 cq7
    refine asS rfl rfl rfl ?_
    refine rNil ?_
    refine qSeq rfl ?_
    refine hReg (sq 0 (sq 1 (sl 2 (sl 3 (sq 4 sz))))) (by kernel_rfl) ?_
    refine mvS rfl rfl rfl ?_
    refine mvI rfl rfl rfl ?_
    refine bsl trv1 rfl rfl rfl (bsl23_1 (.int .i64 _) rfl) (fun bkl9 hbkl9 => ?_)
    refine aplI (N := n3) (x := (i : Int)) 4 0 rfl rfl mk23 trv1 rfl rfl rfl rfl (by omega) ?_
    intro aq8 cq8
    refine asS rfl rfl rfl ?_
    refine rNil ?_
    refine qSeq rfl ?_
    refine hReg (sq 0 (sq 1 (sq 2 sz))) (by kernel_rfl) ?_
    refine mvI rfl rfl rfl ?_
    refine add rfl rfl rfl rfl (by omega) ?_
    refine asI rfl rfl rfl ?_
    refine rNil ?_
    have e8 : (((Hd.hisL vn z q).take i) ++ [((Hd.bestS (((Hd.handsV (Hd.vLeast vn) (z.getD i []) q (3 - (Hd.vLeast vn)).toNat)))))]) = (Hd.hisL vn z q).take (i + 1) := by rw [Iso.take_snoc (show i < (Hd.hisL vn z q).length by omega), hgh, hbs]
    have e9 : (((Hd.losL vn z q).take i) ++ [((Hd.lowS (((Hd.handsV (Hd.vLeast vn) (z.getD i []) q (3 - (Hd.vLeast vn)).toNat)))))]) = (Hd.losL vn z q).take (i + 1) := by rw [Iso.take_snoc (show i < (Hd.losL vn z q).length by omega), hgl]
    have e10 : (((Hd.nums z.length).take i) ++ [(i : Int)]) = (Hd.nums z.length).take (i + 1) := by rw [Iso.take_snoc (show i < (Hd.nums z.length).length by omega), hgn]
    rw [e8, e9, e10]
    exact qNext rfl ((i + 1, (n1 + 1), (aq6, cq6), (n2 + 1), (aq7, cq7), (n3 + 1), (aq8, cq8))) (by omega) ⟨by dsimp only; omega, by dsimp only; omega, by dsimp only; omega, by dsimp only; omega⟩ ⟨rfl, rfl, rfl, rfl, rfl, rfl, rfl, trivial⟩ (fun _ h => h.pick [4, 4, 4, 4])
   ·
    replace c3 : ¬ ((Hd.vLow vn) ≠ 1 ∨ (0 ≤ (((Hd.lowS (((Hd.handsV (Hd.vLeast vn) (z.getD i []) q (3 - (Hd.vLeast vn)).toNat)))))) ∧ (((Hd.lowS (((Hd.handsV (Hd.vLeast vn) (z.getD i []) q (3 - (Hd.vLeast vn)).toNat)))))) ≤ 228487)) := c3
    have hlv := hlw.1
    rw [show Hd.eight (Hd.vLow vn) (Hd.lowS (Hd.handsV (Hd.vLeast vn) (z.getD i []) q (3 - Hd.vLeast vn).toNat)) = -1 from by unfold Hd.eight; rw [if_pos (by omega)]] at hgl
    refine hSkip ?_
    refine qSeq rfl ?_
    refine hSeq ?_
    refine hReg (sq 0 (sq 1 (sl 2 (sl 3 (sq 4 sz))))) (by kernel_rfl) ?_
    refine mvS rfl rfl rfl ?_
    refine mvI rfl rfl rfl ?_
    refine bsl trv1 rfl rfl rfl (bsl23_1 (.int .i64 _) rfl) (fun bkl10 hbkl10 => ?_)
    refine aplI (N := n1) (x := ((Hd.bestS (((Hd.handsV (Hd.vLeast vn) (z.getD i []) q (3 - (Hd.vLeast vn)).toNat)))))) 4 0 rfl rfl mk23 trv1 rfl rfl rfl rfl (by omega) ?_
    intro aq9 cq9
    refine asS rfl rfl rfl ?_
    refine rNil ?_
    refine qSeq rfl ?_
    refine hSeq ?_
    refine hReg (sq 0 (sq 1 (sl 2 (sl 3 (sq 4 sz))))) (by kernel_rfl) ?_
    refine mvS rfl rfl rfl ?_
    refine mvI rfl rfl rfl ?_
    refine bsl trv1 rfl rfl rfl (bsl23_1 (.int .i64 _) rfl) (fun bkl11 hbkl11 => ?_)
    refine aplI (N := n2) (x := (-1)) 4 0 rfl rfl mk23 trv1 rfl rfl rfl rfl (by omega) ?_
    intro aq10 cq10
    refine asS rfl rfl rfl ?_
    refine rNil ?_
    refine qSeq rfl ?_
    refine hReg (sq 0 (sq 1 (sl 2 (sl 3 (sq 4 sz))))) (by kernel_rfl) ?_
    refine mvS rfl rfl rfl ?_
    refine mvI rfl rfl rfl ?_
    refine bsl trv1 rfl rfl rfl (bsl23_1 (.int .i64 _) rfl) (fun bkl12 hbkl12 => ?_)
    refine aplI (N := n3) (x := (i : Int)) 4 0 rfl rfl mk23 trv1 rfl rfl rfl rfl (by omega) ?_
    intro aq11 cq11
    refine asS rfl rfl rfl ?_
    refine rNil ?_
    refine qSeq rfl ?_
    refine hReg (sq 0 (sq 1 (sq 2 sz))) (by kernel_rfl) ?_
    refine mvI rfl rfl rfl ?_
    refine add rfl rfl rfl rfl (by omega) ?_
    refine asI rfl rfl rfl ?_
    refine rNil ?_
    have e8 : (((Hd.hisL vn z q).take i) ++ [((Hd.bestS (((Hd.handsV (Hd.vLeast vn) (z.getD i []) q (3 - (Hd.vLeast vn)).toNat)))))]) = (Hd.hisL vn z q).take (i + 1) := by rw [Iso.take_snoc (show i < (Hd.hisL vn z q).length by omega), hgh, hbs]
    have e9 : (((Hd.losL vn z q).take i) ++ [(-1)]) = (Hd.losL vn z q).take (i + 1) := by rw [Iso.take_snoc (show i < (Hd.losL vn z q).length by omega), hgl]
    have e10 : (((Hd.nums z.length).take i) ++ [(i : Int)]) = (Hd.nums z.length).take (i + 1) := by rw [Iso.take_snoc (show i < (Hd.nums z.length).length by omega), hgn]
    rw [e8, e9, e10]
    exact qNext rfl ((i + 1, (n1 + 1), (aq9, cq9), (n2 + 1), (aq10, cq10), (n3 + 1), (aq11, cq11))) (by omega) ⟨by dsimp only; omega, by dsimp only; omega, by dsimp only; omega, by dsimp only; omega⟩ ⟨rfl, rfl, rfl, rfl, rfl, rfl, rfl, trivial⟩ (fun _ h => h.pick [4, 4, 4, 4])
  ·
   replace c2 : ¬ ((Hd.vLow vn) ≠ 0) := c2
   rw [if_pos (Classical.not_not.1 c2)] at hgl
   refine hSkip ?_
   refine qSeq rfl ?_
   refine hSeq ?_
   refine hReg (sq 0 (sq 1 (sl 2 (sl 3 (sq 4 sz))))) (by kernel_rfl) ?_
   refine mvS rfl rfl rfl ?_
   refine mvI rfl rfl rfl ?_
   refine bsl trv1 rfl rfl rfl (bsl23_1 (.int .i64 _) rfl) (fun bkl13 hbkl13 => ?_)
   refine aplI (N := n1) (x := ((Hd.bestS (((Hd.handsV (Hd.vLeast vn) (z.getD i []) q (3 - (Hd.vLeast vn)).toNat)))))) 4 0 rfl rfl mk23 trv1 rfl rfl rfl rfl (by omega) ?_
   intro aq12 cq12
   refine asS rfl rfl rfl ?_
   refine rNil ?_
   refine qSeq rfl ?_
   refine hSeq ?_
   refine hReg (sq 0 (sq 1 (sl 2 (sl 3 (sq 4 sz))))) (by kernel_rfl) ?_
   refine mvS rfl rfl rfl ?_
   refine mvI rfl rfl rfl ?_
   refine bsl trv1 rfl rfl rfl (bsl23_1 (.int .i64 _) rfl) (fun bkl14 hbkl14 => ?_)
   refine aplI (N := n2) (x := (-1)) 4 0 rfl rfl mk23 trv1 rfl rfl rfl rfl (by omega) ?_
   intro aq13 cq13
   refine asS rfl rfl rfl ?_
   refine rNil ?_
   refine qSeq rfl ?_
   refine hReg (sq 0 (sq 1 (sl 2 (sl 3 (sq 4 sz))))) (by kernel_rfl) ?_
   refine mvS rfl rfl rfl ?_
   refine mvI rfl rfl rfl ?_
   refine bsl trv1 rfl rfl rfl (bsl23_1 (.int .i64 _) rfl) (fun bkl15 hbkl15 => ?_)
   refine aplI (N := n3) (x := (i : Int)) 4 0 rfl rfl mk23 trv1 rfl rfl rfl rfl (by omega) ?_
   intro aq14 cq14
   refine asS rfl rfl rfl ?_
   refine rNil ?_
   refine qSeq rfl ?_
   refine hReg (sq 0 (sq 1 (sq 2 sz))) (by kernel_rfl) ?_
   refine mvI rfl rfl rfl ?_
   refine add rfl rfl rfl rfl (by omega) ?_
   refine asI rfl rfl rfl ?_
   refine rNil ?_
   have e8 : (((Hd.hisL vn z q).take i) ++ [((Hd.bestS (((Hd.handsV (Hd.vLeast vn) (z.getD i []) q (3 - (Hd.vLeast vn)).toNat)))))]) = (Hd.hisL vn z q).take (i + 1) := by rw [Iso.take_snoc (show i < (Hd.hisL vn z q).length by omega), hgh, hbs]
   have e9 : (((Hd.losL vn z q).take i) ++ [(-1)]) = (Hd.losL vn z q).take (i + 1) := by rw [Iso.take_snoc (show i < (Hd.losL vn z q).length by omega), hgl]
   have e10 : (((Hd.nums z.length).take i) ++ [(i : Int)]) = (Hd.nums z.length).take (i + 1) := by rw [Iso.take_snoc (show i < (Hd.nums z.length).length by omega), hgn]
   rw [e8, e9, e10]
   exact qNext rfl ((i + 1, (n1 + 1), (aq12, cq12), (n2 + 1), (aq13, cq13), (n3 + 1), (aq14, cq14))) (by omega) ⟨by dsimp only; omega, by dsimp only; omega, by dsimp only; omega, by dsimp only; omega⟩ ⟨rfl, rfl, rfl, rfl, rfl, rfl, rfl, trivial⟩ (fun _ h => h.pick [4, 4, 4, 4])
 ·
  replace c1 : ¬ ((i : Int) < (nz : Int)) := c1
  have hh1 := Hd.hisL_len vn z q
  have hh2 := Hd.losL_len vn z q
  have hh3 := Hd.nums_len z.length
  have hwn : ∀ x ∈ (Hd.nums z.length), 0 ≤ x ∧ x < ((Hd.hisL vn z q).length : Int) := fun x hx => by rw [hh1]; exact Hd.nums_bd hx
  have hwl : ∀ x ∈ (Hd.nums z.length), 0 ≤ x ∧ x < ((Hd.losL vn z q).length : Int) := fun x hx => by rw [hh2]; exact Hd.nums_bd hx
  have hTm : ∀ x ∈ (Hd.bst true (Hd.nums z.length) (Hd.hisL vn z q)).1, 0 ≤ x ∧ x < (nz : Int) := fun x hx => by rw [← lz]; exact Hd.bst_bd x hx
  have hFm : ∀ x ∈ (Hd.bst false (Hd.nums z.length) (Hd.losL vn z q)).1, 0 ≤ x ∧ x < (nz : Int) := fun x hx => by rw [← lz]; exact Hd.bst_bd x hx
  have hFn : (Hd.bst false (Hd.nums z.length) (Hd.losL vn z q)).1.Nodup := Hd.bst_nodup
  have hTl := (Hd.bst_inv true (Hd.hisL vn z q) (Hd.nums z.length)).2
  have hFl := (Hd.bst_inv false (Hd.losL vn z q) (Hd.nums z.length)).2
  rw [show (Hd.hisL vn z q).take i = (Hd.hisL vn z q) from List.take_of_length_le (by omega), show (Hd.losL vn z q).take i = (Hd.losL vn z q) from List.take_of_length_le (by omega), show (Hd.nums z.length).take i = (Hd.nums z.length) from List.take_of_length_le (by omega)]
  skip
  skip
  refine hExit rfl ?_
  refine qSeq rfl ?_
  refine hSeq ?_
  refine hReg (sq 0 (sq 1 (sl 2 (sq 3 sz)))) (by kernel_rfl) ?_
  refine mvS rfl rfl rfl ?_
  refine lenS Try.runUnderlying22 rfl rfl rfl ?_
  refine mksI nz mk23 trv1 rfl rfl rfl rfl (rfl) (by omega) (fun bkm16 hbkm16 => ?_)
  refine asS rfl rfl rfl ?_
  refine rNil ?_
  refine qSeq rfl ?_
  refine hSeq ?_
  refine hReg (sq 0 (sq 1 (sl 2 (sq 3 (sq 4 (sl 5 (sq 6 (sq 7 sz)))))))) (by kernel_rfl) ?_
  refine mvS rfl rfl rfl ?_
  refine mvS rfl rfl rfl ?_
  refine callS Try.call121 trv1 rfl rfl (fun w hs => spec_l13Best_true _ n3 h3.2 _ _ n1 h1.2 _ _ w (OwnI.rd (hs.at_ 1 rfl)) (OwnI.rd (hs.at_ 3 rfl)) (by assumption) (by omega) rfl) ?_
  rintro ⟨ay15, ny15, cy15, y15⟩ hr15
  dsimp only at hr15
  subst y15
  refine rPieces (L' := [OwnI 2 ay15 ny15 cy15 ((((Hd.bst true (Hd.nums z.length) (Hd.hisL vn z q)).1))), OwnI 2 (some ⟨bkm16, 0, none⟩) nz nz (List.replicate nz 0), OwnI 2 h3.1 n3 h3.2 (Hd.nums z.length), OwnI 2 h2.1 n2 h2.2 (Hd.losL vn z q), OwnI 2 h1.1 n1 h1.2 (Hd.hisL vn z q), blk bka2 109 [.int .i64 (Hd.vHole vn), .int .i64 (Hd.vLeast vn), .int .i64 2, .int .i64 5, .bool true, .int .i64 (Hd.vLow vn)]]) (fun _ h => h) ?_
  refine rKnow (fun w hs => (show OwnI 2 ay15 ny15 cy15 ((((Hd.bst true (Hd.nums z.length) (Hd.hisL vn z q)).1))) w from hs.at_ 0 rfl).lenz) (fun lenn17 => ?_)
  refine rVal (v' := .slice ay15 ny15 cy15) rfl ?_
  refine mvS rfl rfl rfl ?_
  refine mvS rfl rfl rfl ?_
  refine callS Try.call121 trv1 rfl rfl (fun w hs => spec_l13Best_false _ n3 h3.2 _ _ n2 h2.2 _ _ w (OwnI.rd (hs.at_ 2 rfl)) (OwnI.rd (hs.at_ 3 rfl)) (by assumption) (by omega) rfl) ?_
  rintro ⟨ay16, ny16, cy16, y16⟩ hr16
  dsimp only at hr16
  subst y16
  refine rPieces (L' := [OwnI 2 ay16 ny16 cy16 ((((Hd.bst false (Hd.nums z.length) (Hd.losL vn z q)).1))), OwnI 2 ay15 ny15 cy15 ((((Hd.bst true (Hd.nums z.length) (Hd.hisL vn z q)).1))), OwnI 2 (some ⟨bkm16, 0, none⟩) nz nz (List.replicate nz 0), OwnI 2 h3.1 n3 h3.2 (Hd.nums z.length), OwnI 2 h2.1 n2 h2.2 (Hd.losL vn z q), OwnI 2 h1.1 n1 h1.2 (Hd.hisL vn z q), blk bka2 109 [.int .i64 (Hd.vHole vn), .int .i64 (Hd.vLeast vn), .int .i64 2, .int .i64 5, .bool true, .int .i64 (Hd.vLow vn)]]) (fun _ h => h) ?_
  refine rKnow (fun w hs => (show OwnI 2 ay16 ny16 cy16 ((((Hd.bst false (Hd.nums z.length) (Hd.losL vn z q)).1))) w from hs.at_ 0 rfl).lenz) (fun lenn18 => ?_)
  refine rVal (v' := .slice ay16 ny16 cy16) rfl ?_
  refine asS rfl rfl rfl ?_
  refine asS rfl rfl rfl ?_
  refine rNil ?_
  refine qSeq rfl ?_
  refine hSeq ?_
  refine hReg (sq 0 sz) (by kernel_rfl) ?_
  refine asI rfl rfl rfl ?_
  refine rNil ?_
  refine qSeq rfl ?_
  refine hSeq ?_
  refine hSeq ?_
  refine hReg (sq 0 (sq 1 (sq 2 sz))) (by kernel_rfl) ?_
  refine mvS rfl rfl rfl ?_
  refine lenS Try.runUnderlying23 rfl rfl rfl ?_
  refine gtr rfl rfl rfl rfl ?_
  refine rNil ?_
  refine qSeq rfl ?_
  refine hIfD rfl (fun c4 => ?_) (fun c4 => ?_)
  ·
   replace c4 : 0 < (ny16 : Int) := c4
   refine hReg (sq 0 sz) (by kernel_rfl) ?_
   refine asI rfl rfl rfl ?_
   refine rNil ?_
   refine qSeq rfl ?_
   refine hSeq ?_
   refine hSeq ?_
   refine hReg (sq 0 sz) (by kernel_rfl) ?_
   refine asI rfl rfl rfl ?_
   refine rNil ?_
   refine qSeq rfl ?_
   refine hBlk ?_
   refine hLoop (α := Nat) (fun i => i ≤ (Hd.bst true (Hd.nums z.length) (Hd.hisL vn z q)).1.length) (fun i => (Hd.bst true (Hd.nums z.length) (Hd.hisL vn z q)).1.length - i) (fun i => [OwnI 2 ay16 ny16 cy16 ((((Hd.bst false (Hd.nums z.length) (Hd.losL vn z q)).1))), OwnI 2 ay15 ny15 cy15 ((((Hd.bst true (Hd.nums z.length) (Hd.hisL vn z q)).1))), OwnI 2 (some ⟨bkm16, 0, none⟩) nz nz ((Hd.put nz (12 / ((Hd.bst true (Hd.nums z.length) (Hd.hisL vn z q)).1.length : Int)) ((Hd.bst true (Hd.nums z.length) (Hd.hisL vn z q)).1.take i))), OwnI 2 h3.1 n3 h3.2 (Hd.nums z.length), OwnI 2 h2.1 n2 h2.2 (Hd.losL vn z q), OwnI 2 h1.1 n1 h1.2 (Hd.hisL vn z q), blk bka2 109 [.int .i64 (Hd.vHole vn), .int .i64 (Hd.vLeast vn), .int .i64 2, .int .i64 5, .bool true, .int .i64 (Hd.vLow vn)]]) (fun i => [(18, .slice (some ⟨bkm16, 0, none⟩) nz nz), (19, .slice ay15 ny15 cy15), (20, .slice ay16 ny16 cy16), (21, .int .i64 12), (22, .int .i64 (i : Int))]) 0 (Nat.zero_le _) (fun _ h => by rw [List.take_zero, Hd.put_nil]; exact h.pick [0, 0, 0, 0, 0, 0, 0]) ⟨rfl, rfl, rfl, rfl, rfl, trivial⟩ ?_
   rintro i τ2 hi
   refine hSeq ?_
   refine hSeq ?_
   refine hReg (sq 0 (sq 1 (sq 2 (sq 3 sz)))) (by kernel_rfl) ?_
   refine mvI rfl rfl rfl ?_
   refine mvS rfl rfl rfl ?_
   refine lenS Try.runUnderlying23 rfl rfl rfl ?_
   refine lss rfl rfl rfl rfl ?_
   refine rNil ?_
   refine qSeq rfl ?_
   refine hIfD rfl (fun c5 => ?_) (fun c5 => ?_)
   ·
    replace c5 : (i : Int) < (ny15 : Int) := c5
    have hix : i < (Hd.bst true (Hd.nums z.length) (Hd.hisL vn z q)).1.length := by omega
    have hxb := hTm _ (Math.getD_mem 0 hix)
    have hpl := Hd.put_len nz (12 / ((Hd.bst true (Hd.nums z.length) (Hd.hisL vn z q)).1.length : Int)) ((Hd.bst true (Hd.nums z.length) (Hd.hisL vn z q)).1.take i)
    refine hSkip ?_
    refine qSeq rfl ?_
    refine hSeq ?_
    refine hBlk ?_
    refine hDraw (Ls := [OwnI 2 ay15 ny15 cy15 ((((Hd.bst true (Hd.nums z.length) (Hd.hisL vn z q)).1)))]) (by kernel_rfl) (sq 0 (sq 1 (sq 2 (sq 3 (sq 4 (sq 5 (sq 6 (sq 7 (sq 8 (sq 9 (sf 10 sz))))))))))) (by kernel_rfl) (.cons _ (.cons_cons _ (.cons _ (.cons _ (.cons _ (.cons _ (.cons _ .slnil))))))) ?_
    refine mvS rfl rfl rfl ?_
    refine mvS rfl rfl rfl ?_
    refine mvI rfl rfl rfl ?_
    refine ixIq (zn := i) el23 ((Kn.at_ 0 rfl).imp fun _ h => OwnI.rd h) (fun _ h => h.pick [1]) rfl rfl rfl rfl (by omega) (by omega) rfl ?_
    intro ae17 e17
    refine ldq Try.isAgg2 (e17) rfl rfl rfl ?_
    refine mvI rfl rfl rfl ?_
    refine mvS rfl rfl rfl ?_
    refine lenS Try.runUnderlying23 rfl rfl rfl ?_
    refine quo rfl rfl rfl rfl (by omega) ?_
    refine oxI (zn := ((((((Hd.bst true (Hd.nums z.length) (Hd.hisL vn z q)).1))).getD i 0)).toNat) 2 rfl el23 rfl rfl rfl rfl (by omega) (by omega) rfl ?_
    intro gk18 hgk18
    refine stoIF (off := ((((((Hd.bst true (Hd.nums z.length) (Hd.hisL vn z q)).1))).getD i 0)).toNat) (x := (12 / (ny15 : Int))) 2 rfl hgk18 Try.sizeOf2 rfl rfl rfl rfl (by omega) ?_
    refine rNil ?_
    refine qSeq rfl ?_
    refine hReg (sq 0 (sq 1 (sq 2 sz))) (by kernel_rfl) ?_
    refine mvI rfl rfl rfl ?_
    refine add rfl rfl rfl rfl (by omega) ?_
    refine asI rfl rfl rfl ?_
    refine rNil ?_
    rw [show ((ny15 : Nat) : Int) = ((Hd.bst true (Hd.nums z.length) (Hd.hisL vn z q)).1.length : Int) from by omega, Hd.put_take hix hxb]
    exact qNext rfl (i + 1) (by omega) (by omega) ⟨rfl, rfl, rfl, rfl, rfl, trivial⟩ (fun _ h => h.pick [0, 0, 0, 0, 0, 0, 0])
   ·
    replace c5 : ¬ ((i : Int) < (ny15 : Int)) := c5
    rw [show (Hd.bst true (Hd.nums z.length) (Hd.hisL vn z q)).1.take i = (Hd.bst true (Hd.nums z.length) (Hd.hisL vn z q)).1 from List.take_of_length_le (by omega)]
    have hpq := Hd.put_len nz (12 / ((Hd.bst true (Hd.nums z.length) (Hd.hisL vn z q)).1.length : Int)) (Hd.bst true (Hd.nums z.length) (Hd.hisL vn z q)).1
    refine hExit rfl ?_
    refine qSeq rfl ?_
    refine hSeq ?_
    refine hSeq ?_
    refine hReg (sq 0 sz) (by kernel_rfl) ?_
    refine asI rfl rfl rfl ?_
    refine rNil ?_
    refine qSeq rfl ?_
    refine hBlk ?_
    refine hLoop (α := Nat) (fun i => i ≤ (Hd.bst false (Hd.nums z.length) (Hd.losL vn z q)).1.length) (fun i => (Hd.bst false (Hd.nums z.length) (Hd.losL vn z q)).1.length - i) (fun i => [OwnI 2 ay16 ny16 cy16 ((((Hd.bst false (Hd.nums z.length) (Hd.losL vn z q)).1))), OwnI 2 ay15 ny15 cy15 ((((Hd.bst true (Hd.nums z.length) (Hd.hisL vn z q)).1))), OwnI 2 (some ⟨bkm16, 0, none⟩) nz nz ((Hd.putA (Hd.put nz (12 / ((Hd.bst true (Hd.nums z.length) (Hd.hisL vn z q)).1.length : Int)) (Hd.bst true (Hd.nums z.length) (Hd.hisL vn z q)).1) (12 / ((Hd.bst false (Hd.nums z.length) (Hd.losL vn z q)).1.length : Int)) ((Hd.bst false (Hd.nums z.length) (Hd.losL vn z q)).1.take i))), OwnI 2 h3.1 n3 h3.2 (Hd.nums z.length), OwnI 2 h2.1 n2 h2.2 (Hd.losL vn z q), OwnI 2 h1.1 n1 h1.2 (Hd.hisL vn z q), blk bka2 109 [.int .i64 (Hd.vHole vn), .int .i64 (Hd.vLeast vn), .int .i64 2, .int .i64 5, .bool true, .int .i64 (Hd.vLow vn)]]) (fun i => [(18, .slice (some ⟨bkm16, 0, none⟩) nz nz), (20, .slice ay16 ny16 cy16), (21, .int .i64 12), (23, .int .i64 (i : Int))]) 0 (Nat.zero_le _) (fun _ h => by rw [List.take_zero, Hd.putA_nil]; exact h.pick [0, 0, 0, 0, 0, 0, 0]) ⟨rfl, rfl, rfl, rfl, trivial⟩ ?_
    rintro i τ3 hi
    refine hSeq ?_
    refine hSeq ?_
    refine hReg (sq 0 (sq 1 (sq 2 (sq 3 sz)))) (by kernel_rfl) ?_
    refine mvI rfl rfl rfl ?_
    refine mvS rfl rfl rfl ?_
    refine lenS Try.runUnderlying23 rfl rfl rfl ?_
    refine lss rfl rfl rfl rfl ?_
    refine rNil ?_
    refine qSeq rfl ?_
    refine hIfD rfl (fun c6 => ?_) (fun c6 => ?_)
    ·
     replace c6 : (i : Int) < (ny16 : Int) := c6
     have hix : i < (Hd.bst false (Hd.nums z.length) (Hd.losL vn z q)).1.length := by omega
     have hxb := hFm _ (Math.getD_mem 0 hix)
     have hpl := Hd.putA_len (Hd.put nz (12 / ((Hd.bst true (Hd.nums z.length) (Hd.hisL vn z q)).1.length : Int)) (Hd.bst true (Hd.nums z.length) (Hd.hisL vn z q)).1) (12 / ((Hd.bst false (Hd.nums z.length) (Hd.losL vn z q)).1.length : Int)) ((Hd.bst false (Hd.nums z.length) (Hd.losL vn z q)).1.take i)
     have hdv1 := Hd.dv_bd (am := 12) (n := (Hd.bst true (Hd.nums z.length) (Hd.hisL vn z q)).1.length) (by decide)
     have hdv2 := Hd.dv_bd (am := 12) (n := (Hd.bst false (Hd.nums z.length) (Hd.losL vn z q)).1.length) (by decide)
     have hpb := Hd.putA_bd (l := (Hd.bst false (Hd.nums z.length) (Hd.losL vn z q)).1.take i) ((Hd.bst false (Hd.nums z.length) (Hd.losL vn z q)).1.getD i 0).toNat (fun k => Hd.put_bd (n := nz) (l := (Hd.bst true (Hd.nums z.length) (Hd.hisL vn z q)).1) k hdv1) hdv2
     have hdv3 := Hd.dv_bd (am := 12) (n := ny16) (by decide)
     refine hSkip ?_
     refine qSeq rfl ?_
     refine hSeq ?_
     refine hBlk ?_
     refine hDraw (Ls := [OwnI 2 ay16 ny16 cy16 ((((Hd.bst false (Hd.nums z.length) (Hd.losL vn z q)).1))), OwnI 2 (some ⟨bkm16, 0, none⟩) nz nz ((Hd.putA (Hd.put nz (12 / ((Hd.bst true (Hd.nums z.length) (Hd.hisL vn z q)).1.length : Int)) (Hd.bst true (Hd.nums z.length) (Hd.hisL vn z q)).1) (12 / ((Hd.bst false (Hd.nums z.length) (Hd.losL vn z q)).1.length : Int)) ((Hd.bst false (Hd.nums z.length) (Hd.losL vn z q)).1.take i)))]) (by kernel_rfl) (sq 0 (sq 1 (sq 2 (sq 3 (sq 4 (sq 5 (sq 6 (sq 7 (sq 8 (sq 9 (sq 10 (sq 11 (sq 12 (sq 13 (sq 14 (sq 15 (sq 16 (sq 17 (sf 18 sz))))))))))))))))))) (by kernel_rfl) (.cons_cons _ (.cons _ (.cons_cons _ (.cons _ (.cons _ (.cons _ (.cons _ .slnil))))))) ?_
     refine mvS rfl rfl rfl ?_
     refine mvS rfl rfl rfl ?_
     refine mvI rfl rfl rfl ?_
     refine ixIq (zn := i) el23 ((Kn.at_ 0 rfl).imp fun _ h => OwnI.rd h) (fun _ h => h.pick [0, 1]) rfl rfl rfl rfl (by omega) (by omega) rfl ?_
     intro ae19 e19
     refine ldq Try.isAgg2 (e19) rfl rfl rfl ?_
     refine mvS rfl rfl rfl ?_
     refine mvS rfl rfl rfl ?_
     refine mvI rfl rfl rfl ?_
     refine ixIq (zn := i) el23 ((Kn.at_ 0 rfl).imp fun _ h => OwnI.rd h) (fun _ h => h.pick [0, 1]) rfl rfl rfl rfl (by omega) (by omega) rfl ?_
     intro ae20 e20
     refine ldq Try.isAgg2 (e20) rfl rfl rfl ?_
     refine ixIq (zn := ((((((Hd.bst false (Hd.nums z.length) (Hd.losL vn z q)).1))).getD i 0)).toNat) el23 ((Kn.at_ 1 rfl).imp fun _ h => OwnI.rd h) (fun _ h => h.pick [0, 1]) rfl rfl rfl rfl (by omega) (by omega) rfl ?_
     intro ae21 e21
     refine ldq Try.isAgg2 (e21) rfl rfl rfl ?_
     refine mvI rfl rfl rfl ?_
     refine mvS rfl rfl rfl ?_
     refine lenS Try.runUnderlying23 rfl rfl rfl ?_
     refine quo rfl rfl rfl rfl (by omega) ?_
     refine add rfl rfl rfl rfl (by omega) ?_
     refine oxI (zn := ((((((Hd.bst false (Hd.nums z.length) (Hd.losL vn z q)).1))).getD i 0)).toNat) 2 rfl el23 rfl rfl rfl rfl (by omega) (by omega) rfl ?_
     intro gk22 hgk22
     refine stoIF (off := ((((((Hd.bst false (Hd.nums z.length) (Hd.losL vn z q)).1))).getD i 0)).toNat) (x := ((((Hd.putA (Hd.put nz (12 / ((Hd.bst true (Hd.nums z.length) (Hd.hisL vn z q)).1.length : Int)) (Hd.bst true (Hd.nums z.length) (Hd.hisL vn z q)).1) (12 / ((Hd.bst false (Hd.nums z.length) (Hd.losL vn z q)).1.length : Int)) ((Hd.bst false (Hd.nums z.length) (Hd.losL vn z q)).1.take i))).getD (((((((Hd.bst false (Hd.nums z.length) (Hd.losL vn z q)).1))).getD i 0)).toNat) 0) + (12 / (ny16 : Int)))) 2 rfl hgk22 Try.sizeOf2 rfl rfl rfl rfl (by omega) ?_
     refine rNil ?_
     refine qSeq rfl ?_
     refine hReg (sq 0 (sq 1 (sq 2 sz))) (by kernel_rfl) ?_
     refine mvI rfl rfl rfl ?_
     refine add rfl rfl rfl rfl (by omega) ?_
     refine asI rfl rfl rfl ?_
     refine rNil ?_
     rw [show ((ny16 : Nat) : Int) = ((Hd.bst false (Hd.nums z.length) (Hd.losL vn z q)).1.length : Int) from by omega, Hd.putA_take hix hFn (by rw [hpq]; exact hxb)]
     exact qNext rfl (i + 1) (by omega) (by omega) ⟨rfl, rfl, rfl, rfl, trivial⟩ (fun _ h => h.pick [0, 0, 0, 0, 0, 0, 0])
    ·
     replace c6 : ¬ ((i : Int) < (ny16 : Int)) := c6
     rw [show (Hd.bst false (Hd.nums z.length) (Hd.losL vn z q)).1.take i = (Hd.bst false (Hd.nums z.length) (Hd.losL vn z q)).1 from List.take_of_length_le (by omega)]
     refine hExit rfl ?_
     refine qSeq rfl ?_
     refine hSeq ?_
     refine hReg (sq 0 (sq 1 sz)) (by kernel_rfl) ?_
     refine mvS rfl rfl rfl ?_
     refine asS rfl rfl rfl ?_
     refine rNil ?_
     refine qSeq rfl ?_
     refine hRet ?_
     exact fun w hs => ⟨[.slice (some ⟨bkm16, 0, none⟩) nz nz], ⟨rfl, trivial⟩, ⟨((some ⟨bkm16, 0, none⟩), nz, nz, (Hd.putA (Hd.put nz (12 / ((Hd.bst true (Hd.nums z.length) (Hd.hisL vn z q)).1.length : Int)) (Hd.bst true (Hd.nums z.length) (Hd.hisL vn z q)).1) (12 / ((Hd.bst false (Hd.nums z.length) (Hd.losL vn z q)).1.length : Int)) (Hd.bst false (Hd.nums z.length) (Hd.losL vn z q)).1)), rfl, by rw [← lz]; unfold Hd.parts; exact Hd.awd_put (w := 12) (by rw [if_neg (by omega)]), hs.pick [2]⟩⟩
  ·
   replace c4 : ¬ (0 < (ny16 : Int)) := c4
   refine hSkip ?_
   refine qSeq rfl ?_
   refine hSeq ?_
   refine hSeq ?_
   refine hReg (sq 0 sz) (by kernel_rfl) ?_
   refine asI rfl rfl rfl ?_
   refine rNil ?_
   refine qSeq rfl ?_
   refine hBlk ?_
   refine hLoop (α := Nat) (fun i => i ≤ (Hd.bst true (Hd.nums z.length) (Hd.hisL vn z q)).1.length) (fun i => (Hd.bst true (Hd.nums z.length) (Hd.hisL vn z q)).1.length - i) (fun i => [OwnI 2 ay16 ny16 cy16 ((((Hd.bst false (Hd.nums z.length) (Hd.losL vn z q)).1))), OwnI 2 ay15 ny15 cy15 ((((Hd.bst true (Hd.nums z.length) (Hd.hisL vn z q)).1))), OwnI 2 (some ⟨bkm16, 0, none⟩) nz nz ((Hd.put nz (24 / ((Hd.bst true (Hd.nums z.length) (Hd.hisL vn z q)).1.length : Int)) ((Hd.bst true (Hd.nums z.length) (Hd.hisL vn z q)).1.take i))), OwnI 2 h3.1 n3 h3.2 (Hd.nums z.length), OwnI 2 h2.1 n2 h2.2 (Hd.losL vn z q), OwnI 2 h1.1 n1 h1.2 (Hd.hisL vn z q), blk bka2 109 [.int .i64 (Hd.vHole vn), .int .i64 (Hd.vLeast vn), .int .i64 2, .int .i64 5, .bool true, .int .i64 (Hd.vLow vn)]]) (fun i => [(18, .slice (some ⟨bkm16, 0, none⟩) nz nz), (19, .slice ay15 ny15 cy15), (20, .slice ay16 ny16 cy16), (21, .int .i64 24), (22, .int .i64 (i : Int))]) 0 (Nat.zero_le _) (fun _ h => by rw [List.take_zero, Hd.put_nil]; exact h.pick [0, 0, 0, 0, 0, 0, 0]) ⟨rfl, rfl, rfl, rfl, rfl, trivial⟩ ?_
   rintro i τ4 hi
   refine hSeq ?_
   refine hSeq ?_
   refine hReg (sq 0 (sq 1 (sq 2 (sq 3 sz)))) (by kernel_rfl) ?_
   refine mvI rfl rfl rfl ?_
   refine mvS rfl rfl rfl ?_
   refine lenS Try.runUnderlying23 rfl rfl rfl ?_
   refine lss rfl rfl rfl rfl ?_
   refine rNil ?_
   refine qSeq rfl ?_
   refine hIfD rfl (fun c7 => ?_) (fun c7 => ?_)
   ·
    replace c7 : (i : Int) < (ny15 : Int) := c7
    have hix : i < (Hd.bst true (Hd.nums z.length) (Hd.hisL vn z q)).1.length := by omega
    have hxb := hTm _ (Math.getD_mem 0 hix)
    have hpl := Hd.put_len nz (24 / ((Hd.bst true (Hd.nums z.length) (Hd.hisL vn z q)).1.length : Int)) ((Hd.bst true (Hd.nums z.length) (Hd.hisL vn z q)).1.take i)
    refine hSkip ?_
    refine qSeq rfl ?_
    refine hSeq ?_
    refine hBlk ?_
    refine hDraw (Ls := [OwnI 2 ay15 ny15 cy15 ((((Hd.bst true (Hd.nums z.length) (Hd.hisL vn z q)).1)))]) (by kernel_rfl) (sq 0 (sq 1 (sq 2 (sq 3 (sq 4 (sq 5 (sq 6 (sq 7 (sq 8 (sq 9 (sf 10 sz))))))))))) (by kernel_rfl) (.cons _ (.cons_cons _ (.cons _ (.cons _ (.cons _ (.cons _ (.cons _ .slnil))))))) ?_
    refine mvS rfl rfl rfl ?_
    refine mvS rfl rfl rfl ?_
    refine mvI rfl rfl rfl ?_
    refine ixIq (zn := i) el23 ((Kn.at_ 0 rfl).imp fun _ h => OwnI.rd h) (fun _ h => h.pick [1]) rfl rfl rfl rfl (by omega) (by omega) rfl ?_
    intro ae23 e23
    refine ldq Try.isAgg2 (e23) rfl rfl rfl ?_
    refine mvI rfl rfl rfl ?_
    refine mvS rfl rfl rfl ?_
    refine lenS Try.runUnderlying23 rfl rfl rfl ?_
    refine quo rfl rfl rfl rfl (by omega) ?_
    refine oxI (zn := ((((((Hd.bst true (Hd.nums z.length) (Hd.hisL vn z q)).1))).getD i 0)).toNat) 2 rfl el23 rfl rfl rfl rfl (by omega) (by omega) rfl ?_
    intro gk24 hgk24
    refine stoIF (off := ((((((Hd.bst true (Hd.nums z.length) (Hd.hisL vn z q)).1))).getD i 0)).toNat) (x := (24 / (ny15 : Int))) 2 rfl hgk24 Try.sizeOf2 rfl rfl rfl rfl (by omega) ?_
    refine rNil ?_
    refine qSeq rfl ?_
    refine hReg (sq 0 (sq 1 (sq 2 sz))) (by kernel_rfl) ?_
    refine mvI rfl rfl rfl ?_
    refine add rfl rfl rfl rfl (by omega) ?_
    refine asI rfl rfl rfl ?_
    refine rNil ?_
    rw [show ((ny15 : Nat) : Int) = ((Hd.bst true (Hd.nums z.length) (Hd.hisL vn z q)).1.length : Int) from by omega, Hd.put_take hix hxb]
    exact qNext rfl (i + 1) (by omega) (by omega) ⟨rfl, rfl, rfl, rfl, rfl, trivial⟩ (fun _ h => h.pick [0, 0, 0, 0, 0, 0, 0])
   ·
    replace c7 : ¬ ((i : Int) < (ny15 : Int)) := c7
    rw [show (Hd.bst true (Hd.nums z.length) (Hd.hisL vn z q)).1.take i = (Hd.bst true (Hd.nums z.length) (Hd.hisL vn z q)).1 from List.take_of_length_le (by omega)]
    have hpq := Hd.put_len nz (24 / ((Hd.bst true (Hd.nums z.length) (Hd.hisL vn z q)).1.length : Int)) (Hd.bst true (Hd.nums z.length) (Hd.hisL vn z q)).1
    refine hExit rfl ?_
    refine qSeq rfl ?_
    refine hSeq ?_
    refine hSeq ?_
    refine hReg (sq 0 sz) (by kernel_rfl) ?_
    refine asI rfl rfl rfl ?_
    refine rNil ?_
    refine qSeq rfl ?_
    refine hBlk ?_
    refine hLoop (α := Nat) (fun i => i ≤ (Hd.bst false (Hd.nums z.length) (Hd.losL vn z q)).1.length) (fun i => (Hd.bst false (Hd.nums z.length) (Hd.losL vn z q)).1.length - i) (fun i => [OwnI 2 ay16 ny16 cy16 ((((Hd.bst false (Hd.nums z.length) (Hd.losL vn z q)).1))), OwnI 2 ay15 ny15 cy15 ((((Hd.bst true (Hd.nums z.length) (Hd.hisL vn z q)).1))), OwnI 2 (some ⟨bkm16, 0, none⟩) nz nz ((Hd.putA (Hd.put nz (24 / ((Hd.bst true (Hd.nums z.length) (Hd.hisL vn z q)).1.length : Int)) (Hd.bst true (Hd.nums z.length) (Hd.hisL vn z q)).1) (24 / ((Hd.bst false (Hd.nums z.length) (Hd.losL vn z q)).1.length : Int)) ((Hd.bst false (Hd.nums z.length) (Hd.losL vn z q)).1.take i))), OwnI 2 h3.1 n3 h3.2 (Hd.nums z.length), OwnI 2 h2.1 n2 h2.2 (Hd.losL vn z q), OwnI 2 h1.1 n1 h1.2 (Hd.hisL vn z q), blk bka2 109 [.int .i64 (Hd.vHole vn), .int .i64 (Hd.vLeast vn), .int .i64 2, .int .i64 5, .bool true, .int .i64 (Hd.vLow vn)]]) (fun i => [(18, .slice (some ⟨bkm16, 0, none⟩) nz nz), (20, .slice ay16 ny16 cy16), (21, .int .i64 24), (23, .int .i64 (i : Int))]) 0 (Nat.zero_le _) (fun _ h => by rw [List.take_zero, Hd.putA_nil]; exact h.pick [0, 0, 0, 0, 0, 0, 0]) ⟨rfl, rfl, rfl, rfl, trivial⟩ ?_
    rintro i τ5 hi
    refine hSeq ?_
    refine hSeq ?_
    refine hReg (sq 0 (sq 1 (sq 2 (sq 3 sz)))) (by kernel_rfl) ?_
    refine mvI rfl rfl rfl ?_
    refine mvS rfl rfl rfl ?_
    refine lenS Try.runUnderlying23 rfl rfl rfl ?_
    refine lss rfl rfl rfl rfl ?_
    refine rNil ?_
    refine qSeq rfl ?_
    refine hIfD rfl (fun c8 => ?_) (fun c8 => ?_)
    ·
     replace c8 : (i : Int) < (ny16 : Int) := c8
     have hix : i < (Hd.bst false (Hd.nums z.length) (Hd.losL vn z q)).1.length := by omega
     have hxb := hFm _ (Math.getD_mem 0 hix)
     have hpl := Hd.putA_len (Hd.put nz (24 / ((Hd.bst true (Hd.nums z.length) (Hd.hisL vn z q)).1.length : Int)) (Hd.bst true (Hd.nums z.length) (Hd.hisL vn z q)).1) (24 / ((Hd.bst false (Hd.nums z.length) (Hd.losL vn z q)).1.length : Int)) ((Hd.bst false (Hd.nums z.length) (Hd.losL vn z q)).1.take i)
     have hdv1 := Hd.dv_bd (am := 24) (n := (Hd.bst true (Hd.nums z.length) (Hd.hisL vn z q)).1.length) (by decide)
     have hdv2 := Hd.dv_bd (am := 24) (n := (Hd.bst false (Hd.nums z.length) (Hd.losL vn z q)).1.length) (by decide)
     have hpb := Hd.putA_bd (l := (Hd.bst false (Hd.nums z.length) (Hd.losL vn z q)).1.take i) ((Hd.bst false (Hd.nums z.length) (Hd.losL vn z q)).1.getD i 0).toNat (fun k => Hd.put_bd (n := nz) (l := (Hd.bst true (Hd.nums z.length) (Hd.hisL vn z q)).1) k hdv1) hdv2
     have hdv3 := Hd.dv_bd (am := 24) (n := ny16) (by decide)
     refine hSkip ?_
     refine qSeq rfl ?_
     refine hSeq ?_
     refine hBlk ?_
     refine hDraw (Ls := [OwnI 2 ay16 ny16 cy16 ((((Hd.bst false (Hd.nums z.length) (Hd.losL vn z q)).1))), OwnI 2 (some ⟨bkm16, 0, none⟩) nz nz ((Hd.putA (Hd.put nz (24 / ((Hd.bst true (Hd.nums z.length) (Hd.hisL vn z q)).1.length : Int)) (Hd.bst true (Hd.nums z.length) (Hd.hisL vn z q)).1) (24 / ((Hd.bst false (Hd.nums z.length) (Hd.losL vn z q)).1.length : Int)) ((Hd.bst false (Hd.nums z.length) (Hd.losL vn z q)).1.take i)))]) (by kernel_rfl) (sq 0 (sq 1 (sq 2 (sq 3 (sq 4 (sq 5 (sq 6 (sq 7 (sq 8 (sq 9 (sq 10 (sq 11 (sq 12 (sq 13 (sq 14 (sq 15 (sq 16 (sq 17 (sf 18 sz))))))))))))))))))) (by kernel_rfl) (.cons_cons _ (.cons _ (.cons_cons _ (.cons _ (.cons _ (.cons _ (.cons _ .slnil))))))) ?_
     refine mvS rfl rfl rfl ?_
     refine mvS rfl rfl rfl ?_
     refine mvI rfl rfl rfl ?_
     refine ixIq (zn := i) el23 ((Kn.at_ 0 rfl).imp fun _ h => OwnI.rd h) (fun _ h => h.pick [0, 1]) rfl rfl rfl rfl (by omega) (by omega) rfl ?_
     intro ae25 e25
     refine ldq Try.isAgg2 (e25) rfl rfl rfl ?_
     refine mvS rfl rfl rfl ?_
     refine mvS rfl rfl rfl ?_
     refine mvI rfl rfl rfl ?_
     refine ixIq (zn := i) el23 ((Kn.at_ 0 rfl).imp fun _ h => OwnI.rd h) (fun _ h => h.pick [0, 1]) rfl rfl rfl rfl (by omega) (by omega) rfl ?_
     intro ae26 e26
     refine ldq Try.isAgg2 (e26) rfl rfl rfl ?_
     refine ixIq (zn := ((((((Hd.bst false (Hd.nums z.length) (Hd.losL vn z q)).1))).getD i 0)).toNat) el23 ((Kn.at_ 1 rfl).imp fun _ h => OwnI.rd h) (fun _ h => h.pick [0, 1]) rfl rfl rfl rfl (by omega) (by omega) rfl ?_
     intro ae27 e27
     refine ldq Try.isAgg2 (e27) rfl rfl rfl ?_
     refine mvI rfl rfl rfl ?_
     refine mvS rfl rfl rfl ?_
     refine lenS Try.runUnderlying23 rfl rfl rfl ?_
     refine quo rfl rfl rfl rfl (by omega) ?_
     refine add rfl rfl rfl rfl (by omega) ?_
     refine oxI (zn := ((((((Hd.bst false (Hd.nums z.length) (Hd.losL vn z q)).1))).getD i 0)).toNat) 2 rfl el23 rfl rfl rfl rfl (by omega) (by omega) rfl ?_
     intro gk28 hgk28
     refine stoIF (off := ((((((Hd.bst false (Hd.nums z.length) (Hd.losL vn z q)).1))).getD i 0)).toNat) (x := ((((Hd.putA (Hd.put nz (24 / ((Hd.bst true (Hd.nums z.length) (Hd.hisL vn z q)).1.length : Int)) (Hd.bst true (Hd.nums z.length) (Hd.hisL vn z q)).1) (24 / ((Hd.bst false (Hd.nums z.length) (Hd.losL vn z q)).1.length : Int)) ((Hd.bst false (Hd.nums z.length) (Hd.losL vn z q)).1.take i))).getD (((((((Hd.bst false (Hd.nums z.length) (Hd.losL vn z q)).1))).getD i 0)).toNat) 0) + (24 / (ny16 : Int)))) 2 rfl hgk28 Try.sizeOf2 rfl rfl rfl rfl (by omega) ?_
     refine rNil ?_
     refine qSeq rfl ?_
     refine hReg (sq 0 (sq 1 (sq 2 sz))) (by kernel_rfl) ?_
     refine mvI rfl rfl rfl ?_
     refine add rfl rfl rfl rfl (by omega) ?_
     refine asI rfl rfl rfl ?_
     refine rNil ?_
     rw [show ((ny16 : Nat) : Int) = ((Hd.bst false (Hd.nums z.length) (Hd.losL vn z q)).1.length : Int) from by omega, Hd.putA_take hix hFn (by rw [hpq]; exact hxb)]
     exact qNext rfl (i + 1) (by omega) (by omega) ⟨rfl, rfl, rfl, rfl, trivial⟩ (fun _ h => h.pick [0, 0, 0, 0, 0, 0, 0])
    ·
     replace c8 : ¬ ((i : Int) < (ny16 : Int)) := c8
     rw [show (Hd.bst false (Hd.nums z.length) (Hd.losL vn z q)).1.take i = (Hd.bst false (Hd.nums z.length) (Hd.losL vn z q)).1 from List.take_of_length_le (by omega)]
     refine hExit rfl ?_
     refine qSeq rfl ?_
     refine hSeq ?_
     refine hReg (sq 0 (sq 1 sz)) (by kernel_rfl) ?_
     refine mvS rfl rfl rfl ?_
     refine asS rfl rfl rfl ?_
     refine rNil ?_
     refine qSeq rfl ?_
     refine hRet ?_
     exact fun w hs => ⟨[.slice (some ⟨bkm16, 0, none⟩) nz nz], ⟨rfl, trivial⟩, ⟨((some ⟨bkm16, 0, none⟩), nz, nz, (Hd.putA (Hd.put nz (24 / ((Hd.bst true (Hd.nums z.length) (Hd.hisL vn z q)).1.length : Int)) (Hd.bst true (Hd.nums z.length) (Hd.hisL vn z q)).1) (24 / ((Hd.bst false (Hd.nums z.length) (Hd.losL vn z q)).1.length : Int)) (Hd.bst false (Hd.nums z.length) (Hd.losL vn z q)).1)), rfl, by rw [← lz]; unfold Hd.parts; exact Hd.awd_put (w := 24) (by rw [if_pos (by omega)]), hs.pick [2]⟩⟩
end Go.Proofs.Yteaahdakammffaa
/- Contracts of sums and parts, as the model finds them. Their conditions stand in each. -/
namespace Go.Proofs.Yteaahdakammffaa
open Go Go.RowKit V
set_option linter.unusedVariables false
set_option linter.unusedSimpArgs false
set_option maxRecDepth 100000
theorem spec_l16Player_c (az : Option Addr) (nz : Nat) (cz : Nat) (Hz : Nat → Hd) (z : List (List Int)) (p : Int) (w : World) (rz : RdR maK az nz Hz z w) (hzl : z.length ≤ 1000) :
  Calls Try.prog 68 #[.slice az nz cz, .int .i64 p] w (Ret fun v w' => v = .bool (decide (0 ≤ p ∧ p ≤ (nz : Int) - 1)) ∧ Ext w w') := by
 have kz : Kn w none_ [] (RdR maK az nz Hz z) := fun w' hs => rz.ext hs.upd
 have lz : z.length = nz := rz.1
 have mz : nz ≤ 9223372036854775807 := rz.2.1
 refine fn (M := none_) (rs := [.tmp 4]) Try.func68 rfl Try.ntmps68 rfl rfl (Sep.start _ _) ?_
 refine hSeq ?_
 refine hReg (sq 0 sz) (by kernel_rfl) ?_
 refine asB rfl rfl rfl ?_
 refine rNil ?_
 refine qSeq rfl ?_
 refine hSeq ?_
 refine hReg (sq 0 (sq 1 (sq 2 (sq 3 (sl 4 (sq 5 sz)))))) (by kernel_rfl) ?_
 refine mvI rfl rfl rfl ?_
 refine mvS rfl rfl rfl ?_
 refine lenS Try.runUnderlying22 rfl rfl rfl ?_
 refine sub rfl rfl rfl rfl (by omega) ?_
 refine callP (v := .bool (decide ((0 : Int) ≤ p ∧ p ≤ (((nz : Int) - 1))))) Try.call88 trv rfl rfl (fun w hs => spec_l01In_c _ _ _ w ) ?_
 refine asB rfl rfl rfl ?_
 refine rNil ?_
 refine qSeq rfl ?_
 refine hRet ?_
 exact fun w hs => ⟨[.bool (decide ((0 : Int) ≤ p ∧ p ≤ (((nz : Int) - 1))))], ⟨rfl, trivial⟩, ⟨by first | rfl | exact bD (by omega) | exact bT (by omega) | exact bF (by omega) | exact vI (by omega), hs.upd⟩⟩
end Go.Proofs.Yteaahdakammffaa
/- Contracts of leaders, as the model finds them. Their conditions stand in each. -/
namespace Go.Proofs.Yteaahdakammffaa
open Go Go.RowKit V
set_option linter.unusedVariables false
set_option linter.unusedSimpArgs false
set_option maxRecDepth 100000
end Go.Proofs.Yteaahdakammffaa
/- Contracts of wins and outs, as the model finds them. Their conditions stand in each. -/
namespace Go.Proofs.Yteaahdakammffaa
open Go Go.RowKit V
set_option linter.unusedVariables false
set_option linter.unusedSimpArgs false
set_option maxRecDepth 100000
theorem spec_OutsOf_c (vn : Int) (az : Option Addr) (nz : Nat) (cz : Nat) (Hz : Nat → Hd) (z : List (List Int)) (aq : Option Addr) (nq : Nat) (cq : Nat) (q : List Int) (ad : Option Addr) (nd : Nat) (cd : Nat) (d : List Int) (p : Int) (w : World) (rz : RdR maK az nz Hz z w) (rq : RdI aq nq q w) (rd : RdI ad nd d w) (hql : q.length ≤ 1048576) (hdl : d.length ≤ 1048576) (hzf : z.flatten.length ≤ 1048576) (hzl : z.length ≤ 1048576) (hcz : ∀ i, i < z.length → (z.getD i []).length ≤ (Hz i).2) (hcq : nq ≤ cq) :
  Calls Try.prog 22 #[.int .i64 vn, .slice az nz cz, .slice aq nq cq, .slice ad nd cd, .int .i64 p] w (Ret fun v w' => ∃ x : Option Addr × Nat × Nat × List Int × Int, v = .tuple #[.slice x.1 x.2.1 x.2.2.1, .int .i64 x.2.2.2.2] ∧ (x.2.2.2.1 = Hd.ouY vn z q d p ∧ x.2.2.2.2 = Hd.ouC vn z q d p) ∧ Sep w none_ [OwnI 2 x.1 x.2.1 x.2.2.1 x.2.2.2.1] w') := by
 have kz : Kn w none_ [] (RdR maK az nz Hz z) := fun w' hs => rz.ext hs.upd
 have lz : z.length = nz := rz.1
 have mz : nz ≤ 9223372036854775807 := rz.2.1
 have kq : Kn w none_ [] (RdI aq nq q) := fun w' hs => rq.ext hs.upd
 have lq : q.length = nq := rq.1
 have mq : nq ≤ 9223372036854775807 := rq.2.1
 have kd : Kn w none_ [] (RdI ad nd d) := fun w' hs => rd.ext hs.upd
 have ld : d.length = nd := rd.1
 have md : nd ≤ 9223372036854775807 := rd.2.1
 refine fn (M := none_) (rs := [.tmp 10, .tmp 11]) Try.func22 rfl Try.ntmps22 rfl rfl (Sep.start _ _) ?_
 refine hSeq ?_
 refine hReg (sq 0 (sq 1 sz)) (by kernel_rfl) ?_
 refine asS rfl rfl rfl ?_
 refine asI rfl rfl rfl ?_
 refine rNil ?_
 refine qSeq rfl ?_
 refine hSeq ?_
 refine hSeq ?_
 refine hReg (sq 0 (sq 1 (sq 2 (sq 3 (sl 4 (sq 5 sz)))))) (by kernel_rfl) ?_
 refine mvI rfl rfl rfl ?_
 refine mvS rfl rfl rfl ?_
 refine mvS rfl rfl rfl ?_
 refine mvS rfl rfl rfl ?_
 refine callP (v := .bool (Hd.isDeal vn z q d)) Try.call58 trv rfl rfl (fun w hs => spec_IsDeal_c _ _ nz cz _ _ _ nq cq _ _ nd cd _ w (kz w hs) (kq w hs) (kd w hs) (by omega) (by first | omega | (simp only [List.length_nil]; omega)) (by omega)) ?_
 refine not rfl rfl rfl ?_
 refine rNil ?_
 refine qSeq rfl ?_
 refine hIfN rfl (fun c1 => ?_) (fun c1 => ?_)
 ·
  replace c1 : (Hd.isDeal vn z q d) = false := c1
  have hdeal : Hd.isDeal vn z q d = false := by simpa using c1
  have hC : Hd.ouC vn z q d p = 1 := by unfold Hd.ouC; rw [if_pos hdeal]
  have hY : Hd.ouY vn z q d p = [] := by unfold Hd.ouY; rw [hC]; rfl
  refine hSeq ?_
  refine hReg (sq 0 (sq 1 sz)) (by kernel_rfl) ?_
  refine asS rfl rfl rfl ?_
  refine asI rfl rfl rfl ?_
  refine rNil ?_
  refine qSeq rfl ?_
  refine hRet ?_
  refine knP (fun _ h => Sep.nilI 2 h) ?_
  exact fun w hs => ⟨[.slice none 0 0, .int .i64 1], ⟨rfl, ⟨rfl, trivial⟩⟩, ⟨(none, 0, 0, [], 1), rfl, ⟨by first | exact hY.symm | (rw [hY, hte]), hC.symm⟩, hs.pick [0]⟩⟩
 ·
  replace c1 : (Hd.isDeal vn z q d) = true := c1
  have hdeal : Hd.isDeal vn z q d = true := by simpa using c1
  have hdp := Hd.isDeal_P hdeal
  have hdv := hdp.1.1
  have hdz := hdp.1.2.1
  have hdq := hdp.1.2.2
  have hln := Hd.isDeal_len hdeal
  have hcc := Hd.isDeal_cards hdeal
  have hbl := Hd.boards_len hdeal
  refine hSkip ?_
  refine qSeq rfl ?_
  refine hSeq ?_
  refine hSeq ?_
  refine hReg (sq 0 (sq 1 (sl 2 (sq 3 (sq 4 (sq 5 (sq 6 (sq 7 (sq 8 sz))))))))) (by kernel_rfl) ?_
  refine mvS rfl rfl rfl ?_
  refine mvI rfl rfl rfl ?_
  refine callP (v := .bool (decide (0 ≤ p ∧ p ≤ (nz : Int) - 1))) Try.call68 trv rfl rfl (fun w hs => spec_l16Player_c _ nz cz _ _ _ w (kz w hs) (by omega)) ?_
  refine notD rfl rfl rfl ?_
  refine mvB rfl rfl rfl ?_
  refine rBoolD (d := 25) rfl (fun g2 => ?_) (fun g2 => ?_)
  ·
   replace g2 : ¬ (0 ≤ p ∧ p ≤ (nz : Int) - 1) := g2
   have hC : Hd.ouC vn z q d p = 2 := by unfold Hd.ouC; rw [if_neg (by rw [hdeal]; decide), if_pos (by omega)]
   have hY : Hd.ouY vn z q d p = [] := by unfold Hd.ouY; rw [hC]; rfl
   refine rSkipQ rfl rfl ?_
   refine rSkipQ rfl rfl ?_
   refine rSkipQ rfl rfl ?_
   refine pickB rfl rfl rfl rfl ?_
   refine rNil ?_
   refine qSeq rfl ?_
   refine hIfT rfl ?_
   refine hSeq ?_
   refine hReg (sq 0 (sq 1 sz)) (by kernel_rfl) ?_
   refine asS rfl rfl rfl ?_
   refine asI rfl rfl rfl ?_
   refine rNil ?_
   refine qSeq rfl ?_
   refine hRet ?_
   refine knP (fun _ h => Sep.nilI 2 h) ?_
   exact fun w hs => ⟨[.slice none 0 0, .int .i64 2], ⟨rfl, ⟨rfl, trivial⟩⟩, ⟨(none, 0, 0, [], 2), rfl, ⟨by first | exact hY.symm | (rw [hY, hte]), hC.symm⟩, hs.pick [0]⟩⟩
  ·
   replace g2 : ¬ (¬ (0 ≤ p ∧ p ≤ (nz : Int) - 1)) := g2
   refine mvS rfl rfl rfl ?_
   refine lenS Try.runUnderlying23 rfl rfl rfl ?_
   refine neq rfl rfl rfl rfl ?_
   refine pickB rfl rfl rfl rfl ?_
   refine rNil ?_
   refine qSeq rfl ?_
   refine hIfD rfl (fun c3 => ?_) (fun c3 => ?_)
   ·
    replace c3 : (nq : Int) ≠ 4 := c3
    have hC : Hd.ouC vn z q d p = 2 := by unfold Hd.ouC; rw [if_neg (by rw [hdeal]; decide), if_pos (by omega)]
    have hY : Hd.ouY vn z q d p = [] := by unfold Hd.ouY; rw [hC]; rfl
    refine hSeq ?_
    refine hReg (sq 0 (sq 1 sz)) (by kernel_rfl) ?_
    refine asS rfl rfl rfl ?_
    refine asI rfl rfl rfl ?_
    refine rNil ?_
    refine qSeq rfl ?_
    refine hRet ?_
    refine knP (fun _ h => Sep.nilI 2 h) ?_
    exact fun w hs => ⟨[.slice none 0 0, .int .i64 2], ⟨rfl, ⟨rfl, trivial⟩⟩, ⟨(none, 0, 0, [], 2), rfl, ⟨by first | exact hY.symm | (rw [hY, hte]), hC.symm⟩, hs.pick [0]⟩⟩
   ·
    replace c3 : ¬ ((nq : Int) ≠ 4) := c3
    have hC : Hd.ouC vn z q d p = 0 := by unfold Hd.ouC; rw [if_neg (by rw [hdeal]; decide), if_neg (by omega)]
    have hY : Hd.ouY vn z q d p = Hd.outs vn p z (Hd.boards z q d) := by unfold Hd.ouY; rw [if_pos hC]
    refine hSkip ?_
    refine qSeq rfl ?_
    refine hSeq ?_
    refine hReg (sq 0 (sq 1 (sq 2 (sl 3 (sq 4 sz))))) (by kernel_rfl) ?_
    refine mvS rfl rfl rfl ?_
    refine mvS rfl rfl rfl ?_
    refine mvS rfl rfl rfl ?_
    refine callS Try.call69 trv1 rfl rfl (fun w hs => spec_l16Rest_c _ nz cz _ _ _ nq cq _ _ nd cd _ w (kz w hs) (kq w hs) (kd w hs) (by first | assumption | omega) (by omega) (by first | assumption | omega | exact Nat.zero_le _)) ?_
    rintro ⟨ay1, ny1, cy1, y1⟩ hr1
    dsimp only at hr1
    subst y1
    refine rPieces (L' := [OwnI 2 ay1 ny1 cy1 (Hd.restL z q d)]) (fun _ h => h) ?_
    refine rKnow (fun w hs => (show OwnI 2 ay1 ny1 cy1 (Hd.restL z q d) w from hs.at_ 0 rfl).lenz) (fun lenn4 => ?_)
    refine rKnow (fun w hs => (show OwnI 2 ay1 ny1 cy1 (Hd.restL z q d) w from hs.at_ 0 rfl).capz) (fun lcpn4 => ?_)
    refine rVal (v' := .slice ay1 ny1 cy1) rfl ?_
    refine asS rfl rfl rfl ?_
    refine rNil ?_
    refine qSeq rfl ?_
    refine hSeq ?_
    refine hReg (sl 0 (sq 1 sz)) (by kernel_rfl) ?_
    refine bsl trv1 rfl rfl rfl (bsl23_0) (fun bkl5 hbkl5 => ?_)
    refine asS rfl rfl rfl ?_
    refine rNil ?_
    refine qSeq rfl ?_
    refine hSeq ?_
    refine hSeq ?_
    refine hReg (sq 0 sz) (by kernel_rfl) ?_
    refine asI rfl rfl rfl ?_
    refine rNil ?_
    refine qSeq rfl ?_
    refine hBlk ?_
    refine hPieces (fun _ h => Sep.litI h 0 [] rfl rfl rfl) ?_
    refine hLoop (α := Nat × Nat × Hd) (fun x => x.1 ≤ (Hd.restL z q d).length ∧ x.2.1 = (Hd.outs vn p z ((Hd.boards z q d).take x.1)).length) (fun x => (Hd.restL z q d).length - x.1) (fun x => [OwnI 2 x.2.2.1 x.2.1 x.2.2.2 ((Hd.outs vn p z ((Hd.boards z q d).take x.1))), OwnI 2 ay1 ny1 cy1 (Hd.restL z q d)]) (fun x => [(0, .int .i64 vn), (1, .slice az nz cz), (2, .slice aq nq cq), (4, .int .i64 p), (12, .slice ay1 ny1 cy1), (13, .slice x.2.2.1 x.2.1 x.2.2.2), (14, .int .i64 (x.1 : Int))]) ((0, 0, ((some ⟨bkl5, 0, none⟩), 0))) ⟨Nat.zero_le _, rfl⟩ (fun _ h => h.pick [0, 0]) ⟨rfl, rfl, rfl, rfl, rfl, rfl, rfl, trivial⟩ ?_
    rintro ⟨i, n, hd⟩ τ1 ⟨hi, hn⟩
    dsimp only at hi hn
    refine hRe [(0, .int .i64 vn), (1, .slice az nz cz), (2, .slice aq nq cq), (4, .int .i64 p), (12, .slice ay1 ny1 cy1), (13, .slice hd.1 n hd.2), (14, .int .i64 (i : Int))] [OwnI 2 hd.1 n hd.2 ((Hd.outs vn p z ((Hd.boards z q d).take i))), OwnI 2 ay1 ny1 cy1 (Hd.restL z q d)] rfl rfl ?_
    refine hSeq ?_
    refine hSeq ?_
    refine hReg (sq 0 (sq 1 (sq 2 (sq 3 sz)))) (by kernel_rfl) ?_
    refine mvI rfl rfl rfl ?_
    refine mvS rfl rfl rfl ?_
    refine lenS Try.runUnderlying23 rfl rfl rfl ?_
    refine lss rfl rfl rfl rfl ?_
    refine rNil ?_
    refine qSeq rfl ?_
    refine hIfD rfl (fun c4 => ?_) (fun c4 => ?_)
    ·
     replace c4 : (i : Int) < (ny1 : Int) := c4
     have hlq4 : q.length = 4 := by omega
     have hir : i < (Hd.restL z q d).length := by omega
     have hbe : (Hd.boards z q d).getD i [] = q ++ [((Hd.restL z q d).getD i 0)] := Hd.boards4 hlq4 hir
     have hib : i < (Hd.boards z q d).length := by rw [Hd.boards4_len hlq4]; exact hir
     have hbo := Hd.boards_ok hdeal (Cm.getD_mem' (d := []) hib)
     rw [hbe] at hbo
     have hb5 := hbo.1
     have hbd := hbo.2
     have hppl := Hd.parts_len vn z (q ++ [((Hd.restL z q d).getD i 0)])
     have hst : (Hd.boards z q d).take (i + 1) = (Hd.boards z q d).take i ++ [q ++ [((Hd.restL z q d).getD i 0)]] := by rw [← hbe, List.take_succ_eq_append_getElem hib, List.getD_eq_getElem?_getD, List.getElem?_eq_getElem hib]; rfl
     have hol := Hd.outs_len vn p z ((Hd.boards z q d).take i)
     rw [List.length_take] at hol
     refine hSkip ?_
     refine qSeq rfl ?_
     refine hSeq ?_
     refine hBlk ?_
     refine hSeq ?_
     refine hDraw (Ls := []) (by kernel_rfl) (sq 0 (sq 1 (sq 2 (sq 4 (sq 5 (sq 6 (sq 11 (.alt (sl 3 (sl 7 (sl 8 (sl 9 (sl 10 (sq 12 (sl 13 (sq 14 sz)))))))) (sl 7 (.alt (sl 3 (sl 8 (sl 9 (sl 10 (sq 12 (sl 13 (sq 14 sz))))))) (sl 8 (sl 3 (sl 9 (sl 10 (sq 12 (sl 13 (sq 14 sz))))))))))))))))) (by kernel_rfl) (.cons _ (.cons _ .slnil)) ?_
     refine mvI rfl rfl rfl ?_
     refine mvS rfl rfl rfl ?_
     refine mvS rfl rfl rfl ?_
     refine mvS rfl rfl rfl ?_
     refine mvI rfl rfl rfl ?_
     refine ixIl (zn := i) el23 ((Kn.at_ 1 rfl).imp fun _ h => OwnI.rd h) rfl rfl rfl rfl (by omega) (by omega) rfl ?_
     intro ae2 e2
     refine mvI rfl rfl rfl ?_
     refine rAlt ?_ ?_
     ·
      refine callS Try.call71 (by exact (fun _ _ h => h.pick [])) rfl rfl (fun w hs => spec_l01Own_c _ nq cq _ w (Kn.drop (k := 2) kq w hs) (by omega)) ?_
      rintro ⟨ay3, ny3, cy3, y3⟩ hr3
      dsimp only at hr3
      subst y3
      refine rPieces (L' := [OwnI 2 ay3 ny3 cy3 q, OwnI 2 hd.1 n hd.2 ((Hd.outs vn p z ((Hd.boards z q d).take i))), OwnI 2 ay1 ny1 cy1 (Hd.restL z q d)]) (fun _ h => h) ?_
      refine rKnow (fun w hs => (show OwnI 2 ay3 ny3 cy3 q w from hs.at_ 0 rfl).lenz) (fun lenn6 => ?_)
      refine rKnow (fun w hs => (show OwnI 2 ay3 ny3 cy3 q w from hs.at_ 0 rfl).capz) (fun lcpn6 => ?_)
      refine rVal (v' := .slice ay3 ny3 cy3) rfl ?_
      refine ldl Try.isAgg2 (Kn.drop (k := 1) e2) (fun _ h => h.pick []) rfl rfl rfl ?_
      refine bsl (fun _ _ h => h.pick []) rfl rfl rfl (bsl23_1 (.int .i64 _) rfl) (fun bkl7 hbkl7 => ?_)
      refine aplI (N := ny3) (x := ((Hd.restL z q d).getD i 0)) 1 0 rfl rfl mk23 (fun _ _ h => h.pick []) rfl rfl rfl rfl (by omega) ?_
      intro aq4 cq4
      refine rKnow (fun w hs => (show OwnI 2 aq4 (ny3 + 1) cq4 ((q ++ [((Hd.restL z q d).getD i 0)])) w from hs.at_ 1 rfl).capz) (fun lcaq4 => ?_)
      refine callS Try.call70 (by exact (fun _ _ h => h.pick [])) rfl rfl (fun w hs => spec_l16Parts_c _ _ nz cz _ _ _ (ny3 + 1) cq4 _ w (Kn.drop (k := 4) kz w hs) (OwnI.rd (hs.at_ 1 rfl)) (by omega) (by omega) (by omega) (by assumption) (by assumption) (by first | assumption | omega)) ?_
      rintro ⟨ay5, ny5, cy5, y5⟩ hr5
      dsimp only at hr5
      subst y5
      refine rPieces (L' := [OwnI 2 ay5 ny5 cy5 (((Hd.parts vn z ((q ++ [((Hd.restL z q d).getD i 0)]))))), blk bkl7 2 [.int .i64 (((Hd.restL z q d).getD i 0))], OwnI 2 aq4 (ny3 + 1) cq4 ((q ++ [((Hd.restL z q d).getD i 0)])), OwnI 2 hd.1 n hd.2 ((Hd.outs vn p z ((Hd.boards z q d).take i))), OwnI 2 ay1 ny1 cy1 (Hd.restL z q d)]) (fun _ h => h) ?_
      refine rKnow (fun w hs => (show OwnI 2 ay5 ny5 cy5 (((Hd.parts vn z ((q ++ [((Hd.restL z q d).getD i 0)]))))) w from hs.at_ 0 rfl).lenz) (fun lenn8 => ?_)
      refine rKnow (fun w hs => (show OwnI 2 ay5 ny5 cy5 (((Hd.parts vn z ((q ++ [((Hd.restL z q d).getD i 0)]))))) w from hs.at_ 0 rfl).capz) (fun lcpn8 => ?_)
      refine rVal (v' := .slice ay5 ny5 cy5) rfl ?_
      refine ixIl (zn := (p).toNat) el23 ((Kn.at_ 0 rfl).imp fun _ h => OwnI.rd h) rfl rfl rfl rfl (by omega) (by omega) rfl ?_
      intro ae6 e6
      refine ldl Try.isAgg2 (e6) (fun _ h => h.pick []) rfl rfl rfl ?_
      refine eql rfl rfl rfl rfl ?_
      refine rNil ?_
      refine qSeq rfl ?_
      refine hIfD rfl (fun c5 => ?_) (fun c5 => ?_)
      ·
       replace c5 : ((((Hd.parts vn z ((q ++ [((Hd.restL z q d).getD i 0)]))))).getD ((p).toNat) 0) = 24 := c5
       have hoe : (Hd.outs vn p z ((Hd.boards z q d).take i)) ++ [((Hd.restL z q d).getD i 0)] = Hd.outs vn p z ((Hd.boards z q d).take (i + 1)) := by rw [hst, Hd.outs_yes c5, Hd.last4 hlq4]
       refine hReg (sq 0 (sq 1 (sq 2 (sq 3 (sl 4 (sl 5 (sl 6 (sq 7 sz)))))))) (by kernel_rfl) ?_
       refine mvS rfl rfl rfl ?_
       refine mvS rfl rfl rfl ?_
       refine mvI rfl rfl rfl ?_
       refine ixIl (zn := i) el23 ((Kn.at_ 4 rfl).imp fun _ h => OwnI.rd h) rfl rfl rfl rfl (by omega) (by omega) rfl ?_
       intro ae7 e7
       refine ldl Try.isAgg2 (e7) trv rfl rfl rfl ?_
       refine bsl trv1 rfl rfl rfl (bsl23_1 (.int .i64 _) rfl) (fun bkl9 hbkl9 => ?_)
       refine aplI (N := n) (x := ((Hd.restL z q d).getD i 0)) 4 0 rfl rfl mk23 trv1 rfl rfl rfl rfl (by omega) ?_
       intro aq8 cq8
       refine rKnow (fun w hs => (show OwnI 2 aq8 (n + 1) cq8 (((Hd.outs vn p z ((Hd.boards z q d).take i)) ++ [((Hd.restL z q d).getD i 0)])) w from hs.at_ 4 rfl).capz) (fun lcaq8 => ?_)
       refine asS rfl rfl rfl ?_
       refine rNil ?_
       refine qSeq rfl ?_
       refine hReg (sq 0 (sq 1 (sq 2 sz))) (by kernel_rfl) ?_
       refine mvI rfl rfl rfl ?_
       refine add rfl rfl rfl rfl (by omega) ?_
       refine asI rfl rfl rfl ?_
       refine rNil ?_
       rw [hoe]
       exact qNext rfl ((i + 1, (n + 1), (aq8, cq8))) (by omega) ⟨by dsimp only; omega, by dsimp only; rw [← hoe]; first | omega | (rw [List.length_append]; simp; omega)⟩ ⟨rfl, rfl, rfl, rfl, rfl, rfl, rfl, trivial⟩ (fun _ h => h.pick [4, 4])
      ·
       replace c5 : ¬ (((((Hd.parts vn z ((q ++ [((Hd.restL z q d).getD i 0)]))))).getD ((p).toNat) 0) = 24) := c5
       have hoe : (Hd.outs vn p z ((Hd.boards z q d).take i)) = Hd.outs vn p z ((Hd.boards z q d).take (i + 1)) := by rw [hst, Hd.outs_no c5]
       refine hSkip ?_
       refine qSeq rfl ?_
       refine hReg (sq 0 (sq 1 (sq 2 sz))) (by kernel_rfl) ?_
       refine mvI rfl rfl rfl ?_
       refine add rfl rfl rfl rfl (by omega) ?_
       refine asI rfl rfl rfl ?_
       refine rNil ?_
       rw [hoe]
       exact qNext rfl ((i + 1, n, (hd.1, hd.2))) (by omega) ⟨by dsimp only; omega, by dsimp only; rw [← hoe]; first | omega | (rw [List.length_append]; simp; omega)⟩ ⟨rfl, rfl, rfl, rfl, rfl, rfl, rfl, trivial⟩ (fun _ h => h.pick [3, 3])
     ·
      refine ldl Try.isAgg2 (e2) (fun _ h => h.pick []) rfl rfl rfl ?_
      refine rAlt ?_ ?_
      ·
       refine callS Try.call71 (by exact (fun _ _ h => h.pick [])) rfl rfl (fun w hs => spec_l01Own_c _ nq cq _ w (Kn.drop (k := 2) kq w hs) (by omega)) ?_
       rintro ⟨ay9, ny9, cy9, y9⟩ hr9
       dsimp only at hr9
       subst y9
       refine rPieces (L' := [OwnI 2 ay9 ny9 cy9 q, OwnI 2 hd.1 n hd.2 ((Hd.outs vn p z ((Hd.boards z q d).take i))), OwnI 2 ay1 ny1 cy1 (Hd.restL z q d)]) (fun _ h => h) ?_
       refine rKnow (fun w hs => (show OwnI 2 ay9 ny9 cy9 q w from hs.at_ 0 rfl).lenz) (fun lenn10 => ?_)
       refine rKnow (fun w hs => (show OwnI 2 ay9 ny9 cy9 q w from hs.at_ 0 rfl).capz) (fun lcpn10 => ?_)
       refine rVal (v' := .slice ay9 ny9 cy9) rfl ?_
       refine bsl (fun _ _ h => h.pick []) rfl rfl rfl (bsl23_1 (.int .i64 _) rfl) (fun bkl11 hbkl11 => ?_)
       refine aplI (N := ny9) (x := ((Hd.restL z q d).getD i 0)) 1 0 rfl rfl mk23 (fun _ _ h => h.pick []) rfl rfl rfl rfl (by omega) ?_
       intro aq10 cq10
       refine rKnow (fun w hs => (show OwnI 2 aq10 (ny9 + 1) cq10 ((q ++ [((Hd.restL z q d).getD i 0)])) w from hs.at_ 1 rfl).capz) (fun lcaq10 => ?_)
       refine callS Try.call70 (by exact (fun _ _ h => h.pick [])) rfl rfl (fun w hs => spec_l16Parts_c _ _ nz cz _ _ _ (ny9 + 1) cq10 _ w (Kn.drop (k := 4) kz w hs) (OwnI.rd (hs.at_ 1 rfl)) (by omega) (by omega) (by omega) (by assumption) (by assumption) (by first | assumption | omega)) ?_
       rintro ⟨ay11, ny11, cy11, y11⟩ hr11
       dsimp only at hr11
       subst y11
       refine rPieces (L' := [OwnI 2 ay11 ny11 cy11 (((Hd.parts vn z ((q ++ [((Hd.restL z q d).getD i 0)]))))), blk bkl11 2 [.int .i64 (((Hd.restL z q d).getD i 0))], OwnI 2 aq10 (ny9 + 1) cq10 ((q ++ [((Hd.restL z q d).getD i 0)])), OwnI 2 hd.1 n hd.2 ((Hd.outs vn p z ((Hd.boards z q d).take i))), OwnI 2 ay1 ny1 cy1 (Hd.restL z q d)]) (fun _ h => h) ?_
       refine rKnow (fun w hs => (show OwnI 2 ay11 ny11 cy11 (((Hd.parts vn z ((q ++ [((Hd.restL z q d).getD i 0)]))))) w from hs.at_ 0 rfl).lenz) (fun lenn12 => ?_)
       refine rKnow (fun w hs => (show OwnI 2 ay11 ny11 cy11 (((Hd.parts vn z ((q ++ [((Hd.restL z q d).getD i 0)]))))) w from hs.at_ 0 rfl).capz) (fun lcpn12 => ?_)
       refine rVal (v' := .slice ay11 ny11 cy11) rfl ?_
       refine ixIl (zn := (p).toNat) el23 ((Kn.at_ 0 rfl).imp fun _ h => OwnI.rd h) rfl rfl rfl rfl (by omega) (by omega) rfl ?_
       intro ae12 e12
       refine ldl Try.isAgg2 (e12) (fun _ h => h.pick []) rfl rfl rfl ?_
       refine eql rfl rfl rfl rfl ?_
       refine rNil ?_
       refine qSeq rfl ?_
       refine hIfD rfl (fun c6 => ?_) (fun c6 => ?_)
       ·
        replace c6 : ((((Hd.parts vn z ((q ++ [((Hd.restL z q d).getD i 0)]))))).getD ((p).toNat) 0) = 24 := c6
        have hoe : (Hd.outs vn p z ((Hd.boards z q d).take i)) ++ [((Hd.restL z q d).getD i 0)] = Hd.outs vn p z ((Hd.boards z q d).take (i + 1)) := by rw [hst, Hd.outs_yes c6, Hd.last4 hlq4]
        refine hReg (sq 0 (sq 1 (sq 2 (sq 3 (sl 4 (sl 5 (sl 6 (sq 7 sz)))))))) (by kernel_rfl) ?_
        refine mvS rfl rfl rfl ?_
        refine mvS rfl rfl rfl ?_
        refine mvI rfl rfl rfl ?_
        refine ixIl (zn := i) el23 ((Kn.at_ 4 rfl).imp fun _ h => OwnI.rd h) rfl rfl rfl rfl (by omega) (by omega) rfl ?_
        intro ae13 e13
        refine ldl Try.isAgg2 (e13) trv rfl rfl rfl ?_
        refine bsl trv1 rfl rfl rfl (bsl23_1 (.int .i64 _) rfl) (fun bkl13 hbkl13 => ?_)
        refine aplI (N := n) (x := ((Hd.restL z q d).getD i 0)) 4 0 rfl rfl mk23 trv1 rfl rfl rfl rfl (by omega) ?_
        intro aq14 cq14
        refine rKnow (fun w hs => (show OwnI 2 aq14 (n + 1) cq14 (((Hd.outs vn p z ((Hd.boards z q d).take i)) ++ [((Hd.restL z q d).getD i 0)])) w from hs.at_ 4 rfl).capz) (fun lcaq14 => ?_)
        refine asS rfl rfl rfl ?_
        refine rNil ?_
        refine qSeq rfl ?_
        refine hReg (sq 0 (sq 1 (sq 2 sz))) (by kernel_rfl) ?_
        refine mvI rfl rfl rfl ?_
        refine add rfl rfl rfl rfl (by omega) ?_
        refine asI rfl rfl rfl ?_
        refine rNil ?_
        rw [hoe]
        exact qNext rfl ((i + 1, (n + 1), (aq14, cq14))) (by omega) ⟨by dsimp only; omega, by dsimp only; rw [← hoe]; first | omega | (rw [List.length_append]; simp; omega)⟩ ⟨rfl, rfl, rfl, rfl, rfl, rfl, rfl, trivial⟩ (fun _ h => h.pick [4, 4])
       ·
        replace c6 : ¬ (((((Hd.parts vn z ((q ++ [((Hd.restL z q d).getD i 0)]))))).getD ((p).toNat) 0) = 24) := c6
        have hoe : (Hd.outs vn p z ((Hd.boards z q d).take i)) = Hd.outs vn p z ((Hd.boards z q d).take (i + 1)) := by rw [hst, Hd.outs_no c6]
        refine hSkip ?_
        refine qSeq rfl ?_
        refine hReg (sq 0 (sq 1 (sq 2 sz))) (by kernel_rfl) ?_
        refine mvI rfl rfl rfl ?_
        refine add rfl rfl rfl rfl (by omega) ?_
        refine asI rfl rfl rfl ?_
        refine rNil ?_
        rw [hoe]
        exact qNext rfl ((i + 1, n, (hd.1, hd.2))) (by omega) ⟨by dsimp only; omega, by dsimp only; rw [← hoe]; first | omega | (rw [List.length_append]; simp; omega)⟩ ⟨rfl, rfl, rfl, rfl, rfl, rfl, rfl, trivial⟩ (fun _ h => h.pick [3, 3])
      ·
       refine bsl (fun _ _ h => h.pick []) rfl rfl rfl (bsl23_1 (.int .i64 _) rfl) (fun bkl14 hbkl14 => ?_)
       refine callS Try.call71 (by exact (fun _ _ h => h.pick [])) rfl rfl (fun w hs => spec_l01Own_c _ nq cq _ w (Kn.drop (k := 3) kq w hs) (by omega)) ?_
       rintro ⟨ay15, ny15, cy15, y15⟩ hr15
       dsimp only at hr15
       subst y15
       refine rPieces (L' := [OwnI 2 ay15 ny15 cy15 q, blk bkl14 2 [.int .i64 (((Hd.restL z q d).getD i 0))], OwnI 2 hd.1 n hd.2 ((Hd.outs vn p z ((Hd.boards z q d).take i))), OwnI 2 ay1 ny1 cy1 (Hd.restL z q d)]) (fun _ h => h) ?_
       refine rKnow (fun w hs => (show OwnI 2 ay15 ny15 cy15 q w from hs.at_ 0 rfl).lenz) (fun lenn15 => ?_)
       refine rKnow (fun w hs => (show OwnI 2 ay15 ny15 cy15 q w from hs.at_ 0 rfl).capz) (fun lcpn15 => ?_)
       refine rVal (v' := .slice ay15 ny15 cy15) rfl ?_
       refine aplI (N := ny15) (x := ((Hd.restL z q d).getD i 0)) 0 1 rfl rfl mk23 (fun _ _ h => h.pick []) rfl rfl rfl rfl (by omega) ?_
       intro aq16 cq16
       refine rKnow (fun w hs => (show OwnI 2 aq16 (ny15 + 1) cq16 ((q ++ [((Hd.restL z q d).getD i 0)])) w from hs.at_ 0 rfl).capz) (fun lcaq16 => ?_)
       refine callS Try.call70 (by exact (fun _ _ h => h.pick [])) rfl rfl (fun w hs => spec_l16Parts_c _ _ nz cz _ _ _ (ny15 + 1) cq16 _ w (Kn.drop (k := 4) kz w hs) (OwnI.rd (hs.at_ 0 rfl)) (by omega) (by omega) (by omega) (by assumption) (by assumption) (by first | assumption | omega)) ?_
       rintro ⟨ay17, ny17, cy17, y17⟩ hr17
       dsimp only at hr17
       subst y17
       refine rPieces (L' := [OwnI 2 ay17 ny17 cy17 (((Hd.parts vn z ((q ++ [((Hd.restL z q d).getD i 0)]))))), OwnI 2 aq16 (ny15 + 1) cq16 ((q ++ [((Hd.restL z q d).getD i 0)])), blk bkl14 2 [.int .i64 (((Hd.restL z q d).getD i 0))], OwnI 2 hd.1 n hd.2 ((Hd.outs vn p z ((Hd.boards z q d).take i))), OwnI 2 ay1 ny1 cy1 (Hd.restL z q d)]) (fun _ h => h) ?_
       refine rKnow (fun w hs => (show OwnI 2 ay17 ny17 cy17 (((Hd.parts vn z ((q ++ [((Hd.restL z q d).getD i 0)]))))) w from hs.at_ 0 rfl).lenz) (fun lenn16 => ?_)
       refine rKnow (fun w hs => (show OwnI 2 ay17 ny17 cy17 (((Hd.parts vn z ((q ++ [((Hd.restL z q d).getD i 0)]))))) w from hs.at_ 0 rfl).capz) (fun lcpn16 => ?_)
       refine rVal (v' := .slice ay17 ny17 cy17) rfl ?_
       refine ixIl (zn := (p).toNat) el23 ((Kn.at_ 0 rfl).imp fun _ h => OwnI.rd h) rfl rfl rfl rfl (by omega) (by omega) rfl ?_
       intro ae18 e18
       refine ldl Try.isAgg2 (e18) (fun _ h => h.pick []) rfl rfl rfl ?_
       refine eql rfl rfl rfl rfl ?_
       refine rNil ?_
       refine qSeq rfl ?_
       refine hIfD rfl (fun c7 => ?_) (fun c7 => ?_)
       ·
        replace c7 : ((((Hd.parts vn z ((q ++ [((Hd.restL z q d).getD i 0)]))))).getD ((p).toNat) 0) = 24 := c7
        have hoe : (Hd.outs vn p z ((Hd.boards z q d).take i)) ++ [((Hd.restL z q d).getD i 0)] = Hd.outs vn p z ((Hd.boards z q d).take (i + 1)) := by rw [hst, Hd.outs_yes c7, Hd.last4 hlq4]
        refine hReg (sq 0 (sq 1 (sq 2 (sq 3 (sl 4 (sl 5 (sl 6 (sq 7 sz)))))))) (by kernel_rfl) ?_
        refine mvS rfl rfl rfl ?_
        refine mvS rfl rfl rfl ?_
        refine mvI rfl rfl rfl ?_
        refine ixIl (zn := i) el23 ((Kn.at_ 4 rfl).imp fun _ h => OwnI.rd h) rfl rfl rfl rfl (by omega) (by omega) rfl ?_
        intro ae19 e19
        refine ldl Try.isAgg2 (e19) trv rfl rfl rfl ?_
        refine bsl trv1 rfl rfl rfl (bsl23_1 (.int .i64 _) rfl) (fun bkl17 hbkl17 => ?_)
        refine aplI (N := n) (x := ((Hd.restL z q d).getD i 0)) 4 0 rfl rfl mk23 trv1 rfl rfl rfl rfl (by omega) ?_
        intro aq20 cq20
        refine rKnow (fun w hs => (show OwnI 2 aq20 (n + 1) cq20 (((Hd.outs vn p z ((Hd.boards z q d).take i)) ++ [((Hd.restL z q d).getD i 0)])) w from hs.at_ 4 rfl).capz) (fun lcaq20 => ?_)
        refine asS rfl rfl rfl ?_
        refine rNil ?_
        refine qSeq rfl ?_
        refine hReg (sq 0 (sq 1 (sq 2 sz))) (by kernel_rfl) ?_
        refine mvI rfl rfl rfl ?_
        refine add rfl rfl rfl rfl (by omega) ?_
        refine asI rfl rfl rfl ?_
        refine rNil ?_
        rw [hoe]
        exact qNext rfl ((i + 1, (n + 1), (aq20, cq20))) (by omega) ⟨by dsimp only; omega, by dsimp only; rw [← hoe]; first | omega | (rw [List.length_append]; simp; omega)⟩ ⟨rfl, rfl, rfl, rfl, rfl, rfl, rfl, trivial⟩ (fun _ h => h.pick [4, 4])
       ·
        replace c7 : ¬ (((((Hd.parts vn z ((q ++ [((Hd.restL z q d).getD i 0)]))))).getD ((p).toNat) 0) = 24) := c7
        have hoe : (Hd.outs vn p z ((Hd.boards z q d).take i)) = Hd.outs vn p z ((Hd.boards z q d).take (i + 1)) := by rw [hst, Hd.outs_no c7]
        refine hSkip ?_
        refine qSeq rfl ?_
        refine hReg (sq 0 (sq 1 (sq 2 sz))) (by kernel_rfl) ?_
        refine mvI rfl rfl rfl ?_
        refine add rfl rfl rfl rfl (by omega) ?_
        refine asI rfl rfl rfl ?_
        refine rNil ?_
        rw [hoe]
        exact qNext rfl ((i + 1, n, (hd.1, hd.2))) (by omega) ⟨by dsimp only; omega, by dsimp only; rw [← hoe]; first | omega | (rw [List.length_append]; simp; omega)⟩ ⟨rfl, rfl, rfl, rfl, rfl, rfl, rfl, trivial⟩ (fun _ h => h.pick [3, 3])
    ·
     replace c4 : ¬ ((i : Int) < (ny1 : Int)) := c4
     have hlq4 : q.length = 4 := by omega
     have hbl4 := Hd.boards4_len (z := z) (d := d) hlq4
     have hte : (Hd.boards z q d).take i = (Hd.boards z q d) := List.take_of_length_le (by omega)
     refine hExit rfl ?_
     refine qSeq rfl ?_
     refine hSeq ?_
     refine hReg (sq 0 (sq 1 (sq 2 sz))) (by kernel_rfl) ?_
     refine mvS rfl rfl rfl ?_
     refine asS rfl rfl rfl ?_
     refine asI rfl rfl rfl ?_
     refine rNil ?_
     refine qSeq rfl ?_
     refine hRet ?_
     exact fun w hs => ⟨[.slice hd.1 n hd.2, .int .i64 0], ⟨rfl, ⟨rfl, trivial⟩⟩, ⟨(hd.1, n, hd.2, (Hd.outs vn p z ((Hd.boards z q d).take i)), 0), rfl, ⟨by first | exact hY.symm | (rw [hY, hte]), hC.symm⟩, hs.pick [0]⟩⟩
end Go.Proofs.Yteaahdakammffaa
/- The engine, part 19: slices cut at both ends, heads of slices that are read. No condition. -/
namespace Go.Proofs.Yteaahdakammffaa.V
open Go Go.RowKit
set_option linter.unusedVariables false
set_option linter.unusedSimpArgs false
section
variable {P : Program} {n : Cx} {w0 : World} {M : Nat → Prop} {L : List (World → Prop)} {σ : Fr} {K : Ko} {ops : Array Oper} {S : World → Prop} {r : Sch} {i : Nat}
variable {d : Nat} {t : TypeId} {p : String} {af : Array Edge} {g : Option (Nat × Bool)} {a b b2 : Operand}
/-- The head of a slice that is read; its capacity is not too small. -/
theorem slHiRd {ty N C : Nat} {ao : Option Addr} {zs : List Int} {z : Int} {kk : IntKind} (hC : Kn w0 M L (RdI ao N zs)) (hNC : N ≤ C) (hE : Elt P ty 1) (ho : ops[i]? = some ⟨some d, .slice ty a none (some b) none, t, p, af, g⟩) (hg : go ops σ g) (ha : ev σ a = .slice ao N C) (hb : ev σ b = .int kk z) (h0 : 0 ≤ z) (h1 : z ≤ N) {zn : Nat} (hzn : z.toNat = zn)
    (h : Kn w0 M L (RdI ao zn (zs.take zn)) → RG P n w0 M ops S L r (upd σ d (.slice ao zn C)) K) : RG P n w0 M ops S L (.op .q i r) σ K := by
  subst hzn
  obtain ⟨e', he, hs⟩ := hE
  refine rQ (v := .slice ao z.toNat C) ho hg (fun w' hw' => ?_) (h fun w' hw' => ?_)
  · have hzc : z ≤ C := by omega
    have hadd : ao.map (fun x => x.add 0) = ao := by cases ao <;> simp [Addr.add]
    simp [execOp, ha, hb, Instr.sliceAt, Instr.slice, Instr.sliceBounds, Instr.sliceBound, asIntOf, he w', hs w', h0, h1, hzc, hadd]
  · have hrd := hC w' hw'
    refine ⟨by rw [List.length_take, hrd.1]; omega, by have := hrd.2.1; omega, fun k v hk => hrd.2.2 k v ?_⟩
    rw [show iv (zs.take z.toNat) = (iv zs).take z.toNat from by simp [iv, List.map_take]] at hk
    have := (List.getElem?_eq_some_iff.1 hk).1
    rw [List.length_take] at this
    rwa [List.getElem?_take_of_lt (by omega)] at hk
/-- A part of an owned slice, read. -/
theorem slLHl {ty e N C : Nat} {ao : Option Addr} {zs : List Int} {z u : Int} {kk kk2 : IntKind} (j : Nat) (hj : L[j]? = some (OwnI e ao N C zs)) (hE : Elt P ty 1) (ho : ops[i]? = some ⟨some d, .slice ty a (some b) (some b2) none, t, p, af, g⟩) (hg : go ops σ g) (ha : ev σ a = .slice ao N C) (hb : ev σ b = .int kk z) (hb2 : ev σ b2 = .int kk2 u) (h0 : 0 ≤ z) (h1 : z ≤ u) (h2 : u ≤ N) {zn un : Nat} (hzn : z.toNat = zn) (hun : u.toNat = un)
    (h : ∀ q', (Kn w0 M L (RdI q' (un - zn) ((zs.drop zn).take (un - zn)))) → RG P n w0 M ops S L r (upd σ d (.slice q' (un - zn) (C - zn))) K) : RG P n w0 M ops S L (.op .q i r) σ K := by
  intro w hw
  have hNC : N ≤ C := OwnI.capz (hw.at_ j hj)
  revert w
  subst hzn
  subst hun
  obtain ⟨e', he, hs⟩ := hE
  have hu0 : 0 ≤ u := by omega
  have huc : u ≤ C := by omega
  have hzc : z ≤ C := by omega
  refine rQ (v := .slice (if C = z.toNat then ao else ao.map (·.add (z.toNat * 1))) (u.toNat - z.toNat) (C - z.toNat)) ho hg (fun w hw => ?_) (h _ fun w hw => ?_)
  · simp [execOp, ha, hb, hb2, Instr.sliceAt, Instr.slice, Instr.sliceBounds, Instr.sliceBound, asIntOf, he w, hs w, h0, h1, h2, hu0, huc, hzc]
    intro hbad
    omega
  · have hown : OwnI e ao N C zs w := hw.at_ j hj
    obtain ⟨hl, hm, hc⟩ := hown.rd
    refine ⟨by rw [List.length_take, List.length_drop, hl]; omega, by omega, fun k v hk => ?_⟩
    rw [show iv ((zs.drop z.toNat).take (u.toNat - z.toNat)) = ((iv zs).drop z.toNat).take (u.toNat - z.toNat) from by simp [iv, List.map_drop, List.map_take]] at hk
    have hlt := (List.getElem?_eq_some_iff.1 hk).1
    rw [List.length_take] at hlt
    rw [List.getElem?_take_of_lt (by omega), List.getElem?_drop] at hk
    obtain ⟨bk, off, hq, hcell⟩ := hc _ v hk
    rw [if_neg (by omega), hq]
    exact ⟨bk, off + z.toNat, by simp [add_addr], by rw [Nat.add_assoc]; exact hcell⟩
end
end Go.Proofs.Yteaahdakammffaa.V
/- Dice of the laws: what a law throws. No condition. -/
namespace Go.Proofs.Yteaahdakammffaa.V
open Go Go.RowKit
set_option linter.unusedVariables false
set_option linter.unusedSimpArgs false
/-- The last 24 bits. -/
def and24 (x : Int) : Int := ((BitVec.ofInt 64 x &&& BitVec.ofInt 64 16777215).toNat : Int)
theorem and24_bd {x q : Int} (h : and24 x = q) : 0 ≤ q ∧ q ≤ 16777215 := by
 subst h
 unfold and24
 rw [BitVec.toNat_and]
 have : (BitVec.ofInt 64 x).toNat &&& (BitVec.ofInt 64 16777215).toNat ≤ (BitVec.ofInt 64 16777215).toNat := Nat.and_le_right
 have h2 : (BitVec.ofInt 64 16777215).toNat = 16777215 := by decide
 omega
theorem andM {P : Program} {n : Cx} {w0 : World} {M : Nat → Prop} {L : List (World → Prop)} {σ : Fr} {K : Ko} {ops : Array Oper} {S : World → Prop} {r : Sch} {i : Nat} {d : Nat} {t ty yt : TypeId} {p : String} {af : Array Edge} {g : Option (Nat × Bool)} {a b : Operand} {x : Int}
  (ho : ops[i]? = some ⟨some d, .binOp .and ty a b yt, t, p, af, g⟩) (hg : go ops σ g) (ha : ev σ a = .int .u64 x) (hb : ev σ b = .int .u64 16777215) (h : RG P n w0 M ops S L r (upd σ d (.int .u64 (and24 x))) K) : RG P n w0 M ops S L (.op .q i r) σ K :=
 rQ ho hg (fun w _ => by
  have h1 : bits .and .u64 x 16777215 = and24 x := by
   have hq := and24_bd (x := x) rfl
   show IntKind.u64.wrap (and24 x) = _
   rw [IntKind.wrap_u64]; omega
  simp [execOp, ha, hb, eqGuard, binOp_and, intBits_and, h1]) h
end Go.Proofs.Yteaahdakammffaa.V
namespace Go.Proofs.Yteaahdakammffaa
open Go Go.RowKit V
set_option linter.unusedVariables false
set_option linter.unusedSimpArgs false
/-- Dice at block 'bk' over the bytes 'bs'. -/
def dieP (bk : Nat) (ca : Option Addr) (bs : List Int) (cc : Nat) : World → Prop := fun w =>
 ∃ p s : Int, blk bk 78 [.slice ca bs.length cc, .int .i64 p, .int .u64 s] w ∧ 0 ≤ p ∧ p ≤ bs.length
def DieIn (bk : Nat) (ca : Option Addr) (bs : List Int) (cc : Nat) (w : World) : Prop := dieP bk ca bs cc w ∧ Code_ bk ca bs w ∧ okBytes bs
theorem dieP_mem {bk : Nat} {ca : Option Addr} {bs : List Int} {cc : Nat} : ∀ (f : Nat → Prop) (w : World), St f (dieP bk ca bs cc) w → f bk := by
 intro f w h
 refine Classical.byContradiction fun hn => ?_
 obtain ⟨p, s, h1, _⟩ := h.out
 have hlt : bk < w.heap.size := (Array.getElem?_eq_some_iff.1 h1).1
 obtain ⟨p', s', h2, _⟩ := h { w with heap := w.heap.setIfInBounds bk (.map #[] 0) } fun k hk => by
  have : bk ≠ k := fun e => hn (e ▸ hk)
  show (w.heap.setIfInBounds bk (.map #[] 0))[k]? = _
  rw [Array.getElem?_setIfInBounds_ne this]
 unfold blk at h2
 simp [hlt] at h2
theorem dieP_st {bk : Nat} {ca : Option Addr} {bs : List Int} {cc : Nat} : ∀ (f : Nat → Prop) (w : World), dieP bk ca bs cc w → f bk → St f (dieP bk ca bs cc) w := by
 rintro f w ⟨p, s, h1, h2⟩ hf w' ha
 exact ⟨p, s, (blk.St _ _ _ h1 hf) w' ha, h2⟩
theorem die_in {bk : Nat} {ca : Option Addr} {bs : List Int} {cc : Nat} {w : World} {M0 : Nat → Prop} {L : List (World → Prop)} (hs0 : V.Sep w M0 (dieP bk ca bs cc :: L) w) (hc : Kn w M0 [] (CellsAt ca (bs.map (Value.int .u8)))) (hok : okBytes bs) : DieIn bk ca bs cc w := by
 refine ⟨hs0.at_ 0 rfl, fun w' hu => hc w' (Sep.nilU (hu.mono fun k hk hb => ?_)), hok⟩
 subst hb
 obtain ⟨_, fs, h⟩ := hs0
 match fs, h with
 | f :: fs, ⟨h1, _, h3, _⟩ =>
  have hm := dieP_mem f w h3
  exact (h1 _ hm).1.resolve_left (Nat.not_le_of_lt (h1 _ hm).2)
 | [], h => exact h.elim
theorem die_out {bk : Nat} {ca : Option Addr} {bs : List Int} {cc : Nat} {w w' : World} {M0 : Nat → Prop} {L : List (World → Prop)} (hs0 : V.Sep w M0 (dieP bk ca bs cc :: L) w) (hu : Upd (fun k => k = bk) w w') (h : dieP bk ca bs cc w') : V.Sep w M0 (dieP bk ca bs cc :: L) w' :=
 hs0.change 0 rfl fun f hf => ⟨f, fun _ h => .inl h, dieP_st f w' h (dieP_mem f w hf), hu.mono fun k _ hk => by subst hk; exact dieP_mem f w hf⟩
end Go.Proofs.Yteaahdakammffaa
/- Contracts of dice. Their conditions stand in each. -/
namespace Go.Proofs.Yteaahdakammffaa
open Go Go.RowKit V
set_option linter.unusedVariables false
set_option linter.unusedSimpArgs false
set_option maxRecDepth 100000
theorem fl78_0 : Fld Try.prog 78 0 0 := by
 intro w ad; simp [Instr.fieldAt, Try.runUnderlying78, Instr.sureAddr, fieldPlace, Try.sizeOf32]
theorem fl78_1 : Fld Try.prog 78 1 1 := by
 intro w ad; simp [Instr.fieldAt, Try.runUnderlying78, Instr.sureAddr, fieldPlace, Try.sizeOf3]
theorem fl78_2 : Fld Try.prog 78 2 2 := by
 intro w ad; simp [Instr.fieldAt, Try.runUnderlying78, Instr.sureAddr, fieldPlace, Try.sizeOf40]
theorem bld78_0_2 (v0 v2 : Value) (h0 : v0.cells = #[v0]) (h2 : v2.cells = #[v2]) : ∀ w, (Instr.build 78 ([(0, v0), (2, v2)] : List (Nat × Value)).toArray).run Try.prog w = .ok (.agg ([v0, .int .i64 0, v2] : List Value).toArray) w := by
 intro w; simp [Instr.build, Instr.fill, Try.zeroValue78, Try.runUnderlying78, aggCells, Try.sizeOf3, Try.sizeOf32, Try.sizeOf40, h0, h2]
theorem below_c (bk : Nat) (ca : Option Addr) (bs : List Int) (cc : Nat) (n : Int) (w : World) (hs0 : DieIn bk ca bs cc w) (hn : 1 ≤ n) :
  Calls Try.prog 26 #[.pointer (some ⟨bk, 0, none⟩), .int .i64 n] w (Ret fun v w' => ∃ x : Int, v = .int .i64 x ∧ (0 ≤ x ∧ x < n) ∧ Upd (fun k => k = bk) w w' ∧ dieP bk ca bs cc w') := by
 obtain ⟨⟨p, s, hb, h1, h2⟩, hcode, hok⟩ := hs0
 have hK : Kn w (fun k => k = bk) [] (CellsAt ca (bs.map (Value.int .u8))) := fun w' hs => hcode w' hs.upd
 have hl := hok.2
 refine fn (M := (fun k => k = bk)) (rs := [.tmp 4]) Try.func26 rfl Try.ntmps26 rfl rfl (Sep.startB hb) ?_
 refine hSeq ?_
 refine hReg (sq 0 sz) (by kernel_rfl) ?_
 refine asI rfl rfl rfl ?_
 refine rNil ?_
 refine qSeq rfl ?_
 refine hSeq ?_
 refine hReg (sq 0 (sq 1 (sq 2 (sq 3 (sl 4 (sq 5 (sq 6 (sq 7 (sq 8 (sl 9 sz)))))))))) (by kernel_rfl) ?_
 refine mvP rfl rfl rfl ?_
 refine mvP rfl rfl rfl ?_
 refine nilc rfl rfl rfl ?_
 refine fld fl78_2 rfl rfl rfl ?_
 refine ldl Try.isAgg40 (cB 0 rfl rfl) trv rfl rfl rfl ?_
 refine mulW rfl rfl rfl rfl ?_
 refine addW rfl rfl rfl rfl ?_
 refine nilc rfl rfl rfl ?_
 refine fld fl78_2 rfl rfl rfl ?_
 refine stl (v := .int .u64 _) 0 rfl Try.sizeOf40 trv rfl rfl rfl rfl rfl (Nat.le_of_ble_eq_true rfl) ?_
 refine rNil ?_
 refine qSeq rfl ?_
 refine hSeq ?_
 refine hReg (sq 0 (sq 1 (sq 2 (sl 3 (sq 4 (sq 5 (sq 6 (sq 7 sz)))))))) (by kernel_rfl) ?_
 refine mvP rfl rfl rfl ?_
 refine nilc rfl rfl rfl ?_
 refine fld fl78_2 rfl rfl rfl ?_
 refine ldl Try.isAgg40 (cB 0 rfl rfl) trv rfl rfl rfl ?_
 refine shrU rfl rfl rfl rfl (by decide) ?_
 refine andM rfl rfl rfl rfl ?_
 refine cnvI Try.runUnderlying40 Try.runUnderlying2 rfl rfl rfl ((by generalize hq : V.and24 _ = q; have hq2 := V.and24_bd hq; omega)) ?_
 refine asI rfl rfl rfl ?_
 refine rNil ?_
 refine qSeq rfl ?_
 refine hSeq ?_
 refine hSeq ?_
 refine hDraw (by kernel_rfl) (sq 0 (sq 1 (sq 2 (sq 3 (sq 4 (sq 5 (sq 6 (sq 7 (sq 8 (sq 9 sz)))))))))) (by kernel_rfl) (.cons_cons _ .slnil) ?_
 refine mvP rfl rfl rfl ?_
 refine nilc rfl rfl rfl ?_
 refine fld fl78_1 rfl rfl rfl ?_
 refine ldq Try.isAgg3 (cB 0 rfl rfl) rfl rfl rfl ?_
 refine mvP rfl rfl rfl ?_
 refine nilc rfl rfl rfl ?_
 refine fld fl78_0 rfl rfl rfl ?_
 refine ldq Try.isAgg32 (cB 0 rfl rfl) rfl rfl rfl ?_
 refine lenS Try.runUnderlying32 rfl rfl rfl ?_
 refine lss rfl rfl rfl rfl ?_
 refine rNil ?_
 refine qSeq rfl ?_
 refine hIfD rfl (fun c1 => ?_) (fun c1 => ?_)
 ·
  refine hSeq ?_
  refine hDraw (by kernel_rfl) (sq 0 (sq 1 (sq 2 (sq 3 (sq 4 (sq 5 (sq 6 (sq 7 (sq 8 (sq 9 (sq 10 (sq 11 (sq 12 (sq 13 sz)))))))))))))) (by kernel_rfl) (.cons_cons _ .slnil) ?_
  refine mvI rfl rfl rfl ?_
  refine mvP rfl rfl rfl ?_
  refine nilc rfl rfl rfl ?_
  refine fld fl78_0 rfl rfl rfl ?_
  refine ldq Try.isAgg32 (cB 0 rfl rfl) rfl rfl rfl ?_
  refine mvP rfl rfl rfl ?_
  refine nilc rfl rfl rfl ?_
  refine fld fl78_1 rfl rfl rfl ?_
  refine ldq Try.isAgg3 (cB 0 rfl rfl) rfl rfl rfl ?_
  refine ixq el32 (Kn.drop (k := 1) hK) (fun _ h => h.sub (.cons_cons _ .slnil)) rfl rfl rfl rfl (by omega) (by omega) (map_get (by omega)) ?_
  intro ae2 e2
  refine ldq Try.isAgg5 (e2) rfl rfl rfl ?_
  refine cnvI Try.runUnderlying5 Try.runUnderlying2 rfl rfl rfl (by have hby := hok.at_ p.toNat; omega) ?_
  refine add rfl rfl rfl rfl ((by generalize hq : V.and24 _ = q; have hq2 := V.and24_bd hq; have hby := hok.at_ p.toNat; omega)) ?_
  refine asI rfl rfl rfl ?_
  refine rNil ?_
  refine qSeq rfl ?_
  refine hReg (sq 0 (sq 1 (sq 2 (sq 3 (sl 4 (sq 5 (sq 6 (sq 7 (sl 8 sz))))))))) (by kernel_rfl) ?_
  refine mvP rfl rfl rfl ?_
  refine mvP rfl rfl rfl ?_
  refine nilc rfl rfl rfl ?_
  refine fld fl78_1 rfl rfl rfl ?_
  refine ldl Try.isAgg3 (cB 0 rfl rfl) trv rfl rfl rfl ?_
  refine add rfl rfl rfl rfl (by omega) ?_
  refine nilc rfl rfl rfl ?_
  refine fld fl78_1 rfl rfl rfl ?_
  refine stl (v := .int .i64 _) 0 rfl Try.sizeOf3 trv rfl rfl rfl rfl rfl (Nat.le_of_ble_eq_true rfl) ?_
  refine rNil ?_
  refine qSeq rfl ?_
  refine hSeq ?_
  refine hReg (sq 0 (sq 1 (sq 2 (sq 3 sz)))) (by kernel_rfl) ?_
  refine mvI rfl rfl rfl ?_
  refine mvI rfl rfl rfl ?_
  refine rem rfl rfl rfl rfl ((by generalize hq : V.and24 _ = q; have hq2 := V.and24_bd hq; have hby := hok.at_ p.toNat; omega)) ?_
  refine asI rfl rfl rfl ?_
  refine rNil ?_
  refine qSeq rfl ?_
  refine hRet ?_
  exact fun w hs => ⟨[.int .i64 _], ⟨rfl, trivial⟩, ⟨_, rfl, ⟨Int.emod_nonneg _ (by omega), Int.emod_lt_of_pos _ (by omega)⟩, hs.upd, ⟨_, _, hs.at_ 0 rfl, by omega, by omega⟩⟩⟩
 ·
  refine hSkip ?_
  refine qSeq rfl ?_
  refine hSeq ?_
  refine hReg (sq 0 (sq 1 (sq 2 (sq 3 sz)))) (by kernel_rfl) ?_
  refine mvI rfl rfl rfl ?_
  refine mvI rfl rfl rfl ?_
  refine rem rfl rfl rfl rfl ((by generalize hq : V.and24 _ = q; have hq2 := V.and24_bd hq; have hby := hok.at_ p.toNat; omega)) ?_
  refine asI rfl rfl rfl ?_
  refine rNil ?_
  refine qSeq rfl ?_
  refine hRet ?_
  exact fun w hs => ⟨[.int .i64 _], ⟨rfl, trivial⟩, ⟨_, rfl, ⟨Int.emod_nonneg _ (by omega), Int.emod_lt_of_pos _ (by omega)⟩, hs.upd, ⟨_, _, hs.at_ 0 rfl, by omega, by omega⟩⟩⟩
theorem roll_c (ca : Option Addr) (bs : List Int) (cc : Nat) (seed : Int) (w : World) (hc : CellsAt ca (bs.map (Value.int .u8)) w) (hok : okBytes bs) :
  Calls Try.prog 24 #[.slice ca bs.length cc, .int .u64 seed] w (Ret fun v w' => ∃ bk : Nat, v = .pointer (some ⟨bk, 0, none⟩) ∧ w.heap.size ≤ bk ∧ Ext w w' ∧ St (New w w') (dieP bk ca bs cc) w') := by
 have hK : Kn w none_ [] (CellsAt ca (bs.map (Value.int .u8))) := fun w' hs => hc.ext hs.upd
 have hl := hok.2
 refine fn (M := none_) (rs := [.tmp 4]) Try.func24 rfl Try.ntmps24 rfl rfl (Sep.start _ _) ?_
 refine hSeq ?_
 refine hReg (sq 0 sz) (by kernel_rfl) ?_
 refine asn rfl rfl rfl ?_
 refine rNil ?_
 refine qSeq rfl ?_
 refine hSeq ?_
 refine hReg (sq 0 (sq 1 (sq 2 (sq 3 (sq 4 (sq 5 (sq 6 (sq 7 (sl 8 (sq 9 sz)))))))))) (by kernel_rfl) ?_
 refine mvS rfl rfl rfl ?_
 refine mvI rfl rfl rfl ?_
 refine mulW rfl rfl rfl rfl ?_
 refine mvS rfl rfl rfl ?_
 refine lenS Try.runUnderlying32 rfl rfl rfl ?_
 refine cnv Try.runUnderlying3 Try.runUnderlying40 rfl rfl rfl ?_
 refine addW rfl rfl rfl rfl ?_
 refine bld rfl rfl rfl (bld78_0_2 (.slice _ _ _) (.int .u64 _) rfl rfl) ?_
 refine box trv1 rfl rfl rfl rfl (fun bkb1 hbkb1 => ?_)
 refine asn rfl rfl rfl ?_
 refine rNil ?_
 refine qSeq rfl ?_
 refine hSeq ?_
 refine hSeq ?_
 refine hReg (sq 0 sz) (by kernel_rfl) ?_
 refine asI rfl rfl rfl ?_
 refine rNil ?_
 refine qSeq rfl ?_
 refine hBlk ?_
 refine hLoop (α := Int × Int) (fun x => 0 ≤ x.1 ∧ x.1 ≤ bs.length) (fun x => (bs.length - x.1).toNat) (fun x => [blk bkb1 78 [.slice ca bs.length cc, .int .i64 0, .int .u64 x.2]]) (fun x => [(0, .slice ca bs.length cc), (5, .pointer (some ⟨bkb1, 0, none⟩)), (6, .int .i64 x.1)]) (0, IntKind.u64.wrap (IntKind.u64.wrap (seed * 7919) + IntKind.u64.wrap (bs.length : Int))) ⟨by dsimp only; omega, by dsimp only; omega⟩ (fun _ h => h) ⟨rfl, rfl, rfl, trivial⟩ ?_
 rintro ⟨i, s⟩ τ1 ⟨hi, hi2⟩
 dsimp only at hi hi2
 refine hRe [(0, .slice ca bs.length cc), (5, .pointer (some ⟨bkb1, 0, none⟩)), (6, .int .i64 i)] [blk bkb1 78 [.slice ca bs.length cc, .int .i64 0, .int .u64 s]] rfl rfl ?_
 refine hSeq ?_
 refine hSeq ?_
 refine hReg (sq 0 (sq 1 (sq 2 (sq 3 sz)))) (by kernel_rfl) ?_
 refine mvI rfl rfl rfl ?_
 refine mvS rfl rfl rfl ?_
 refine lenS Try.runUnderlying32 rfl rfl rfl ?_
 refine lss rfl rfl rfl rfl ?_
 refine rNil ?_
 refine qSeq rfl ?_
 refine hIfD rfl (fun c1 => ?_) (fun c1 => ?_)
 ·
  refine hSkip ?_
  refine qSeq rfl ?_
  refine hSeq ?_
  refine hBlk ?_
  refine hDraw (by kernel_rfl) (sq 0 (sq 1 (sq 2 (sq 3 (sq 4 (sq 5 (sq 6 (sq 7 (sq 8 (sq 9 (sq 10 (sq 11 (sq 12 (sl 13 (sq 14 (sf 15 sz)))))))))))))))) (by kernel_rfl) (.cons_cons _ .slnil) ?_
  refine mvP rfl rfl rfl ?_
  refine mvP rfl rfl rfl ?_
  refine nilc rfl rfl rfl ?_
  refine fld fl78_2 rfl rfl rfl ?_
  refine ldq Try.isAgg40 (cB 0 rfl rfl) rfl rfl rfl ?_
  refine mulW rfl rfl rfl rfl ?_
  refine mvS rfl rfl rfl ?_
  refine mvI rfl rfl rfl ?_
  refine ixq el32 (Kn.drop (k := 1) hK) (fun _ h => h.sub (.cons_cons _ .slnil)) rfl rfl rfl rfl (by omega) (by omega) (map_get (by omega)) ?_
  intro ae2 e2
  refine ldq Try.isAgg5 (e2) rfl rfl rfl ?_
  refine cnv Try.runUnderlying5 Try.runUnderlying40 rfl rfl rfl ?_
  refine addW rfl rfl rfl rfl ?_
  refine addW rfl rfl rfl rfl ?_
  refine nilcL (fun _ h => h.sub (.cons_cons _ .slnil)) rfl rfl rfl ?_
  refine fld fl78_2 rfl rfl rfl ?_
  refine stf (v := .int .u64 _) 0 rfl Try.sizeOf40 rfl rfl rfl rfl rfl (Nat.le_of_ble_eq_true rfl) ?_
  refine rNil ?_
  refine qSeq rfl ?_
  refine hReg (sq 0 (sq 1 (sq 2 sz))) (by kernel_rfl) ?_
  refine mvI rfl rfl rfl ?_
  refine add rfl rfl rfl rfl (by omega) ?_
  refine asI rfl rfl rfl ?_
  refine rNil ?_
  exact qNext rfl (i + 1, IntKind.u64.wrap (IntKind.u64.wrap (IntKind.u64.wrap (s * 1099511628211) + IntKind.u64.wrap (bs.getD i.toNat 0)) + 3)) (by dsimp only; omega) ⟨by dsimp only; omega, by dsimp only; omega⟩ ⟨rfl, rfl, rfl, trivial⟩ (fun _ h => h)
 ·
  refine hExit rfl ?_
  refine qSeq rfl ?_
  refine hSeq ?_
  refine hReg (sq 0 (sq 1 sz)) (by kernel_rfl) ?_
  refine mvP rfl rfl rfl ?_
  refine asn rfl rfl rfl ?_
  refine rNil ?_
  refine qSeq rfl ?_
  refine hRet ?_
  exact fun w hs => ⟨[.pointer _], ⟨rfl, trivial⟩, ⟨_, rfl, hbkb1, hs.upd, (hs.fresh0 rfl).imp fun w h => ⟨_, _, h, by omega, by omega⟩⟩⟩
end Go.Proofs.Yteaahdakammffaa
