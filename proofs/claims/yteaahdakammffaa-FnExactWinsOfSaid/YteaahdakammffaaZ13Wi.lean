/- Contracts of parts, as the model finds them. Their conditions stand in each. -/
import Derived.Test.YteaahdakammffaaZ12Wi
import Derived.Test.YteaahdakammffaaZ1Wi
import Derived.Test.YteaahdakammffaaZ2Wi
import Derived.Test.YteaahdakammffaaZ3Wi
import Derived.Test.YteaahdakammffaaZ4Wi
import Derived.Test.YteaahdakammffaaZ5Wi
import Derived.Test.YteaahdakammffaaZ9Wi
import Derived.Test.YteaahdakammffaaZ10Wi
import Derived.Test.YteaahdakammffaaZ11Wi
import Derived.Test.YteaahdakammffaaRows
import Derived.Test.YteaahdakammffaaZ7Wi
import Derived.Test.YteaahdakammffaaZ8Wi
namespace Go.Proofs.Yteaahdakammffaa
open Go Go.RowKit V
set_option linter.unusedVariables false
set_option linter.unusedSimpArgs false
set_option maxRecDepth 100000
theorem spec_l16Parts_c (vn : Int) (az : Option Addr) (nz : Nat) (cz : Nat) (Hz : Nat → Hd) (z : List (List Int)) (aq : Option Addr) (nq : Nat) (cq : Nat) (q : List Int) (w : World) (rz : RdR maK az nz Hz z w) (rq : RdI aq nq q w) (hv : 0 ≤ vn ∧ vn ≤ 2) (hzn : 2 ≤ z.length ∧ z.length ≤ 4) (hq5 : q.length = 5) (hdl : Hd.dealP vn z q) (hcz : ∀ i, i < z.length → (z.getD i []).length ≤ (Hz i).2) (hcq : nq ≤ cq) :
  Calls Try.prog 70 #[.int .i64 vn, .slice az nz cz, .slice aq nq cq] w (Ret fun v w' => ∃ x : Option Addr × Nat × Nat × List Int, v = .slice x.1 x.2.1 x.2.2.1 ∧ (x.2.2.2 = Hd.parts vn z q) ∧ Sep w none_ [OwnI 2 x.1 x.2.1 x.2.2.1 x.2.2.2] w') := by
 have kz : Kn w none_ [] (RdR maK az nz Hz z) := fun w' hs => rz.ext hs.upd
 have lz : z.length = nz := rz.1
 have mz : nz ≤ 9223372036854775807 := rz.2.1
 have kq : Kn w none_ [] (RdI aq nq q) := fun w' hs => rq.ext hs.upd
 have lq : q.length = nq := rq.1
 have mq : nq ≤ 9223372036854775807 := rq.2.1
 refine fn (M := none_) (rs := [.tmp 6]) Try.func70 rfl Try.ntmps70 rfl rfl (Sep.start _ _) ?_
 refine hSeq ?_
 refine hReg (sq 0 sz) (by kernel_rfl) ?_
 refine asS rfl rfl rfl ?_
 refine rNil ?_
 refine qSeq rfl ?_
 refine hSeq ?_
 refine hReg (sl 0 (sq 1 (sq 2 (sl 3 (sl 4 (sl 5 sz)))))) (by kernel_rfl) ?_
 refine callS Try.call106 trv1 rfl rfl (fun w hs => spec_l06Standard_c  w ) ?_
 rintro bt1 hr1
 refine rVal (v' := .slice (some ⟨bt1, 0, none⟩) 8 8) rfl ?_
 refine mvI rfl rfl rfl ?_
 refine ixB el110 rfl rfl rfl rfl (by omega) (by omega) ?_
 refine ldAl Try.isAgg109 Try.sizeOf109 (cBp (m := 6) (vs := [.int .i64 (Hd.vHole vn), .int .i64 (Hd.vLeast vn), .int .i64 2, .int .i64 5, .bool true, .int .i64 (Hd.vLow vn)]) 0 rfl (by rcases (show vn = 0 ∨ vn = 1 ∨ vn = 2 by omega) with h | h | h <;> subst h <;> rfl)) trv rfl rfl rfl rfl ?_
 refine alc Try.zeroValue109 rfl trv1 rfl rfl (fun bka2 hbka2 => ?_)
 refine stAl (vs := [.int .i64 (Hd.vHole vn), .int .i64 (Hd.vLeast vn), .int .i64 2, .int .i64 5, .bool true, .int .i64 (Hd.vLow vn)]) 0 rfl Try.sizeOf109 trv rfl rfl rfl rfl rfl (by simp [Value.oneCell']) rfl ?_
 refine rNil ?_
 refine qSeq rfl ?_
 refine hSeq ?_
 refine hPieces (L' := [blk bka2 109 [.int .i64 (Hd.vHole vn), .int .i64 (Hd.vLeast vn), .int .i64 2, .int .i64 5, .bool true, .int .i64 (Hd.vLow vn)]]) (fun _ h => h.sub ((.cons_cons _ (.cons _ .slnil)))) ?_
 refine hReg (sl 0 (sl 1 (sl 2 (sq 3 (sq 4 (sq 5 sz)))))) (by kernel_rfl) ?_
 refine bsl trv1 rfl rfl rfl (bsl23_0) (fun bkl3 hbkl3 => ?_)
 refine bsl trv1 rfl rfl rfl (bsl23_0) (fun bkl4 hbkl4 => ?_)
 refine bsl trv1 rfl rfl rfl (bsl23_0) (fun bkl5 hbkl5 => ?_)
 refine asS rfl rfl rfl ?_
 refine asS rfl rfl rfl ?_
 refine asS rfl rfl rfl ?_
 refine rNil ?_
 refine qSeq rfl ?_
 refine hSeq ?_
 refine hSeq ?_
 refine hReg (sq 0 sz) (by kernel_rfl) ?_
 refine asI rfl rfl rfl ?_
 refine rNil ?_
 refine qSeq rfl ?_
 refine hBlk ?_
 refine hPieces (fun _ h => Sep.litI h 2 [] rfl rfl rfl) ?_
 refine hPieces (fun _ h => Sep.litI h 1 [] rfl rfl rfl) ?_
 refine hPieces (fun _ h => Sep.litI h 0 [] rfl rfl rfl) ?_
 refine hLoop (α := Nat × Nat × Hd × Nat × Hd × Nat × Hd) (fun x => x.1 ≤ nz ∧ (x.2.1 = x.1 ∧ x.2.2.2.1 = x.1 ∧ x.2.2.2.2.2.1 = x.1)) (fun x => nz - x.1) (fun x => [OwnI 2 x.2.2.2.2.2.2.1 x.2.2.2.2.2.1 x.2.2.2.2.2.2.2 (((Hd.nums z.length).take x.1)), OwnI 2 x.2.2.2.2.1.1 x.2.2.2.1 x.2.2.2.2.1.2 (((Hd.losL vn z q).take x.1)), OwnI 2 x.2.2.1.1 x.2.1 x.2.2.1.2 (((Hd.hisL vn z q).take x.1)), blk bka2 109 [.int .i64 (Hd.vHole vn), .int .i64 (Hd.vLeast vn), .int .i64 2, .int .i64 5, .bool true, .int .i64 (Hd.vLow vn)]]) (fun x => [(1, .slice az nz cz), (2, .slice aq nq cq), (7, .pointer (some ⟨bka2, 0, none⟩)), (8, .slice x.2.2.1.1 x.2.1 x.2.2.1.2), (9, .slice x.2.2.2.2.1.1 x.2.2.2.1 x.2.2.2.2.1.2), (10, .slice x.2.2.2.2.2.2.1 x.2.2.2.2.2.1 x.2.2.2.2.2.2.2), (11, .int .i64 (x.1 : Int))]) ((0, 0, ((some ⟨bkl3, 0, none⟩), 0), 0, ((some ⟨bkl4, 0, none⟩), 0), 0, ((some ⟨bkl5, 0, none⟩), 0))) ⟨Nat.zero_le _, rfl, rfl, rfl⟩ (fun _ h => h.pick [0, 0, 0, 0]) ⟨rfl, rfl, rfl, rfl, rfl, rfl, rfl, trivial⟩ ?_
 rintro ⟨i, n1, h1, n2, h2, n3, h3⟩ τ1 ⟨hi, hn1, hn2, hn3⟩
 dsimp only at hi hn1 hn2 hn3
 refine hRe [(1, .slice az nz cz), (2, .slice aq nq cq), (7, .pointer (some ⟨bka2, 0, none⟩)), (8, .slice h1.1 n1 h1.2), (9, .slice h2.1 n2 h2.2), (10, .slice h3.1 n3 h3.2), (11, .int .i64 (i : Int))] [OwnI 2 h3.1 n3 h3.2 (((Hd.nums z.length).take i)), OwnI 2 h2.1 n2 h2.2 (((Hd.losL vn z q).take i)), OwnI 2 h1.1 n1 h1.2 (((Hd.hisL vn z q).take i)), blk bka2 109 [.int .i64 (Hd.vHole vn), .int .i64 (Hd.vLeast vn), .int .i64 2, .int .i64 5, .bool true, .int .i64 (Hd.vLow vn)]] rfl rfl ?_
 refine hSeq ?_
 refine hSeq ?_
 refine hReg (sq 0 (sq 1 (sq 2 (sq 3 sz)))) (by kernel_rfl) ?_
 refine mvI rfl rfl rfl ?_
 refine mvS rfl rfl rfl ?_
 refine lenS Try.runUnderlying22 rfl rfl rfl ?_
 refine lss rfl rfl rfl rfl ?_
 refine rNil ?_
 refine qSeq rfl ?_
 refine hIfD rfl (fun c1 => ?_) (fun c1 => ?_)
 ·
  replace c1 : (i : Int) < (nz : Int) := c1
  have hiz : i < z.length := by omega
  obtain ⟨hl1, hl2⟩ := hdl _ (Cm.getD_mem' (d := []) hiz)
  have hlc := Hd.hole_cases hv hl1
  have hci := hcz i hiz
  have hhp := Hd.hands_P (v := vn) hv hl2
  rw [← Hd.vMany_eq] at hhp
  have hbs : Hd.bestS (Hd.handsV (Hd.vLeast vn) (z.getD i []) q (3 - Hd.vLeast vn).toNat) = Hd.hiN (Hd.vLeast vn) (z.getD i []) q := by rw [Hd.vMany_eq]; exact Hd.hi_eq hv hl1 hl2 hq5
  have hgh := Hd.hisL_get (v := vn) (q := q) hiz
  have hgl := Hd.losL_get (v := vn) (q := q) hiz
  have hh1 := Hd.hisL_len vn z q
  have hh2 := Hd.losL_len vn z q
  have hh3 := Hd.nums_len z.length
  have hgn := Hd.nums_get (n := z.length) hiz
  refine hSkip ?_
  refine qSeq rfl ?_
  refine hSeq ?_
  refine hBlk ?_
  refine hSeq ?_
  refine hDraw (Ls := [blk bka2 109 [.int .i64 (Hd.vHole vn), .int .i64 (Hd.vLeast vn), .int .i64 2, .int .i64 5, .bool true, .int .i64 (Hd.vLow vn)]]) (by kernel_rfl) (sq 0 (sq 1 (sq 2 (sq 3 (sq 4 (sq 5 (sl 6 (sq 7 sz)))))))) (by kernel_rfl) (.cons _ (.cons _ (.cons _ (.cons_cons _ .slnil)))) ?_
  refine ldAq Try.isAgg109 Try.sizeOf109 (cBs 0 rfl) rfl rfl rfl rfl ?_
  refine mvS rfl rfl rfl ?_
  refine mvI rfl rfl rfl ?_
  refine ixRq (zn := i) (z.getD i []) el22 (Kn.drop (k := 1) kz) (fun _ h => h.pick [3]) rfl rfl rfl rfl (by omega) (by omega) rfl (nth [] (by omega)) ?_
  intro be2 oe2 e2
  refine ldq Try.isAgg23 (Kn.fld e2 0 rfl) rfl rfl rfl ?_
  refine mvS rfl rfl rfl ?_
  refine callS Try.call117 (by exact (fun _ _ h => h.pick [4])) rfl rfl (fun w hs => spec_l06Hands_c _ _ _ _ _ _ _ ((z.getD i []).length) ((Hz i).2) _ _ nq cq _ w (Kn.drop (k := 4) ((Kn.imp kz fun _ h => h.kidM (nth [] (by omega)))) w hs) (Kn.drop (k := 4) kq w hs) (by first | rfl | assumption | omega) (by first | rfl | assumption | omega) (by first | assumption | omega) (by omega) (by omega) (by first | assumption | omega) (by first | assumption | omega)) ?_
  rintro ⟨ay3, ny3, cy3, Hy3, y3⟩ hr3
  dsimp only at hr3
  subst y3
  refine rPieces (L' := [OwnR maK 23 2 ay3 ny3 cy3 Hy3 (((Hd.handsV (Hd.vLeast vn) (z.getD i []) q (3 - (Hd.vLeast vn)).toNat))), OwnI 2 h3.1 n3 h3.2 (((Hd.nums z.length).take i)), OwnI 2 h2.1 n2 h2.2 (((Hd.losL vn z q).take i)), OwnI 2 h1.1 n1 h1.2 (((Hd.hisL vn z q).take i)), blk bka2 109 [.int .i64 (Hd.vHole vn), .int .i64 (Hd.vLeast vn), .int .i64 2, .int .i64 5, .bool true, .int .i64 (Hd.vLow vn)]]) (fun _ h => h) ?_
  refine rKnow (fun w hs => (show OwnR maK 23 2 ay3 ny3 cy3 Hy3 (((Hd.handsV (Hd.vLeast vn) (z.getD i []) q (3 - (Hd.vLeast vn)).toNat))) w from hs.at_ 0 rfl).1) (fun lenn6 => ?_)
  refine rVal (v' := .slice ay3 ny3 cy3) rfl ?_
  refine asS rfl rfl rfl ?_
  refine rNil ?_
  refine qSeq rfl ?_
  refine hSeq ?_
  refine hReg (sq 0 (sl 1 (sq 2 (sq 3 (sq 4 (sq 5 (sq 6 sz))))))) (by kernel_rfl) ?_
  refine mvS rfl rfl rfl ?_
  refine callS Try.call118 trv1 rfl rfl (fun w hs => spec_l06High_c _ ny3 cy3 _ _ w (OwnR.rd (hs.at_ 0 rfl) maK.ok) (by assumption)) ?_
  rintro ⟨u4, t4⟩ hr4
  dsimp only at hr4
  subst t4
  refine rPieces (L' := [OwnR maK 23 2 ay3 ny3 cy3 Hy3 (((Hd.handsV (Hd.vLeast vn) (z.getD i []) q (3 - (Hd.vLeast vn)).toNat))), OwnI 2 h3.1 n3 h3.2 (((Hd.nums z.length).take i)), OwnI 2 h2.1 n2 h2.2 (((Hd.losL vn z q).take i)), OwnI 2 h1.1 n1 h1.2 (((Hd.hisL vn z q).take i)), blk bka2 109 [.int .i64 (Hd.vHole vn), .int .i64 (Hd.vLeast vn), .int .i64 2, .int .i64 5, .bool true, .int .i64 (Hd.vLow vn)]]) (fun _ h => h) ?_
  refine rVal (v' := .tuple #[.int .i64 u4, .int .i64 (((Hd.bestS (((Hd.handsV (Hd.vLeast vn) (z.getD i []) q (3 - (Hd.vLeast vn)).toNat))))))]) rfl ?_
  refine mv rfl rfl rfl ?_
  refine ext rfl rfl rfl rfl ?_
  refine ext rfl rfl rfl rfl ?_
  refine asI rfl rfl rfl ?_
  refine asI rfl rfl rfl ?_
  refine rNil ?_
  refine qSeq rfl ?_
  refine hSeq ?_
  refine hReg (sq 0 sz) (by kernel_rfl) ?_
  refine asI rfl rfl rfl ?_
  refine rNil ?_
  refine qSeq rfl ?_
  refine hSeq ?_
  refine hSeq ?_
  refine hReg (sq 0 (sl 1 (sq 2 sz))) (by kernel_rfl) ?_
  refine fld fl109_5 rfl rfl rfl ?_
  refine ldl Try.isAgg2 (cB 4 rfl rfl) trv rfl rfl rfl ?_
  refine neq rfl rfl rfl rfl ?_
  refine rNil ?_
  refine qSeq rfl ?_
  refine hIfD rfl (fun c2 => ?_) (fun c2 => ?_)
  ·
   replace c2 : (Hd.vLow vn) ≠ 0 := c2
   have hlw := Hd.low_cases c2
   have hls : Hd.loN (Hd.vLow vn) (z.getD i []) q = Hd.eight (Hd.vLow vn) (Hd.lowS (Hd.handsV (Hd.vLeast vn) (z.getD i []) q (3 - Hd.vLeast vn).toNat)) := by unfold Hd.loN; rw [Hd.vMany_eq, Hd.lo_eq hv c2 hl2]
   rw [if_neg c2, hls] at hgl
   refine hSeq ?_
   refine hReg (sl 0 (sq 1 (sl 2 (sq 3 (sq 4 (sq 5 (sq 6 (sq 7 sz)))))))) (by kernel_rfl) ?_
   refine ldAl Try.isAgg109 Try.sizeOf109 (cBs 4 rfl) trv rfl rfl rfl rfl ?_
   refine mvS rfl rfl rfl ?_
   refine callS Try.call119 trv1 rfl rfl (fun w hs => spec_l06Low_c _ _ _ _ _ _ _ ny3 cy3 _ _ w (OwnR.rd (hs.at_ 0 rfl) maK.ok) (by first | assumption | omega) (by assumption)) ?_
   rintro ⟨u5, t5⟩ hr5
   dsimp only at hr5
   subst t5
   refine rPieces (L' := [OwnR maK 23 2 ay3 ny3 cy3 Hy3 (((Hd.handsV (Hd.vLeast vn) (z.getD i []) q (3 - (Hd.vLeast vn)).toNat))), OwnI 2 h3.1 n3 h3.2 (((Hd.nums z.length).take i)), OwnI 2 h2.1 n2 h2.2 (((Hd.losL vn z q).take i)), OwnI 2 h1.1 n1 h1.2 (((Hd.hisL vn z q).take i)), blk bka2 109 [.int .i64 (Hd.vHole vn), .int .i64 (Hd.vLeast vn), .int .i64 2, .int .i64 5, .bool true, .int .i64 (Hd.vLow vn)]]) (fun _ h => h) ?_
   refine rVal (v' := .tuple #[.int .i64 u5, .int .i64 (((Hd.lowS (((Hd.handsV (Hd.vLeast vn) (z.getD i []) q (3 - (Hd.vLeast vn)).toNat))))))]) rfl ?_
   refine mv rfl rfl rfl ?_
   refine ext rfl rfl rfl rfl ?_
   refine ext rfl rfl rfl rfl ?_
   refine asI rfl rfl rfl ?_
   refine asI rfl rfl rfl ?_
   refine rNil ?_
   refine qSeq rfl ?_
   refine hSeq ?_
   refine hReg (sl 0 (sq 1 (sl 2 sz))) (by kernel_rfl) ?_
   refine ldAl Try.isAgg109 Try.sizeOf109 (cBs 4 rfl) trv rfl rfl rfl rfl ?_
   refine mvI rfl rfl rfl ?_
   refine callP (v := .bool (decide ((Hd.vLow vn) ≠ 1 ∨ (0 ≤ (((Hd.lowS (((Hd.handsV (Hd.vLeast vn) (z.getD i []) q (3 - (Hd.vLeast vn)).toNat)))))) ∧ (((Hd.lowS (((Hd.handsV (Hd.vLeast vn) (z.getD i []) q (3 - (Hd.vLeast vn)).toNat)))))) ≤ 228487)))) Try.call120 trv rfl rfl (fun w hs => spec_l06Counts_c _ _ _ _ _ _ _ w ) ?_
   refine rNil ?_
   refine qSeq rfl ?_
   refine hIfD rfl (fun c3 => ?_) (fun c3 => ?_)
   ·
    replace c3 : (Hd.vLow vn) ≠ 1 ∨ (0 ≤ (((Hd.lowS (((Hd.handsV (Hd.vLeast vn) (z.getD i []) q (3 - (Hd.vLeast vn)).toNat)))))) ∧ (((Hd.lowS (((Hd.handsV (Hd.vLeast vn) (z.getD i []) q (3 - (Hd.vLeast vn)).toNat)))))) ≤ 228487) := c3
    have hlv := hlw.1
    rw [show Hd.eight (Hd.vLow vn) (Hd.lowS (Hd.handsV (Hd.vLeast vn) (z.getD i []) q (3 - Hd.vLeast vn).toNat)) = Hd.lowS (Hd.handsV (Hd.vLeast vn) (z.getD i []) q (3 - Hd.vLeast vn).toNat) from by unfold Hd.eight; rw [if_neg (by omega)]] at hgl
    refine hReg (sq 0 (sq 1 sz)) (by kernel_rfl) ?_
    refine mvI rfl rfl rfl ?_
    refine asI rfl rfl rfl ?_
    refine rNil ?_
    refine qSeq rfl ?_
    refine hSeq ?_
    refine hReg (sq 0 (sq 1 (sl 2 (sl 3 (sq 4 sz))))) (by kernel_rfl) ?_
    refine mvS rfl rfl rfl ?_
    refine mvI rfl rfl rfl ?_
    refine bsl trv1 rfl rfl rfl (bsl23_1 (.int .i64 _) rfl) (fun bkl7 hbkl7 => ?_)
    refine aplI (N := n1) (x := ((Hd.bestS (((Hd.handsV (Hd.vLeast vn) (z.getD i []) q (3 - (Hd.vLeast vn)).toNat)))))) 4 0 rfl rfl mk23 trv1 rfl rfl rfl rfl (by omega) ?_
    intro aq6 cq6
    refine asS rfl rfl rfl ?_
    refine rNil ?_
    refine qSeq rfl ?_
    refine hSeq ?_
    refine hReg (sq 0 (sq 1 (sl 2 (sl 3 (sq 4 sz))))) (by kernel_rfl) ?_
    refine mvS rfl rfl rfl ?_
    refine mvI rfl rfl rfl ?_
    refine bsl trv1 rfl rfl rfl (bsl23_1 (.int .i64 _) rfl) (fun bkl8 hbkl8 => ?_)
    refine aplI (N := n2) (x := ((Hd.lowS (((Hd.handsV (Hd.vLeast vn) (z.getD i []) q (3 - (Hd.vLeast vn)).toNat)))))) 4 0 rfl rfl mk23 trv1 rfl rfl rfl rfl (by omega) ?_
    intro aq7 cq7
    refine asS rfl rfl rfl ?_
    refine rNil ?_
    refine qSeq rfl ?_
    refine hReg (sq 0 (sq 1 (sl 2 (sl 3 (sq 4 sz))))) (by kernel_rfl) ?_
    refine mvS rfl rfl rfl ?_
    refine mvI rfl rfl rfl ?_
    refine bsl trv1 rfl rfl rfl (bsl23_1 (.int .i64 _) rfl) (fun bkl9 hbkl9 => ?_)
    refine aplI (N := n3) (x := (i : Int)) 4 0 rfl rfl mk23 trv1 rfl rfl rfl rfl (by omega) ?_
    intro aq8 cq8
    refine asS rfl rfl rfl ?_
    refine rNil ?_
    refine qSeq rfl ?_
    refine hReg (sq 0 (sq 1 (sq 2 sz))) (by kernel_rfl) ?_
    refine mvI rfl rfl rfl ?_
    refine add rfl rfl rfl rfl (by omega) ?_
    refine asI rfl rfl rfl ?_
    refine rNil ?_
    have e8 : (((Hd.hisL vn z q).take i) ++ [((Hd.bestS (((Hd.handsV (Hd.vLeast vn) (z.getD i []) q (3 - (Hd.vLeast vn)).toNat)))))]) = (Hd.hisL vn z q).take (i + 1) := by rw [Iso.take_snoc (show i < (Hd.hisL vn z q).length by omega), hgh, hbs]
    have e9 : (((Hd.losL vn z q).take i) ++ [((Hd.lowS (((Hd.handsV (Hd.vLeast vn) (z.getD i []) q (3 - (Hd.vLeast vn)).toNat)))))]) = (Hd.losL vn z q).take (i + 1) := by rw [Iso.take_snoc (show i < (Hd.losL vn z q).length by omega), hgl]
    have e10 : (((Hd.nums z.length).take i) ++ [(i : Int)]) = (Hd.nums z.length).take (i + 1) := by rw [Iso.take_snoc (show i < (Hd.nums z.length).length by omega), hgn]
    rw [e8, e9, e10]
    exact qNext rfl ((i + 1, (n1 + 1), (aq6, cq6), (n2 + 1), (aq7, cq7), (n3 + 1), (aq8, cq8))) (by omega) ⟨by dsimp only; omega, by dsimp only; omega, by dsimp only; omega, by dsimp only; omega⟩ ⟨rfl, rfl, rfl, rfl, rfl, rfl, rfl, trivial⟩ (fun _ h => h.pick [4, 4, 4, 4])
   ·
    replace c3 : ¬ ((Hd.vLow vn) ≠ 1 ∨ (0 ≤ (((Hd.lowS (((Hd.handsV (Hd.vLeast vn) (z.getD i []) q (3 - (Hd.vLeast vn)).toNat)))))) ∧ (((Hd.lowS (((Hd.handsV (Hd.vLeast vn) (z.getD i []) q (3 - (Hd.vLeast vn)).toNat)))))) ≤ 228487)) := c3
    have hlv := hlw.1
    rw [show Hd.eight (Hd.vLow vn) (Hd.lowS (Hd.handsV (Hd.vLeast vn) (z.getD i []) q (3 - Hd.vLeast vn).toNat)) = -1 from by unfold Hd.eight; rw [if_pos (by omega)]] at hgl
    refine hSkip ?_
    refine qSeq rfl ?_
    refine hSeq ?_
    refine hReg (sq 0 (sq 1 (sl 2 (sl 3 (sq 4 sz))))) (by kernel_rfl) ?_
    refine mvS rfl rfl rfl ?_
    refine mvI rfl rfl rfl ?_
    refine bsl trv1 rfl rfl rfl (bsl23_1 (.int .i64 _) rfl) (fun bkl10 hbkl10 => ?_)
    refine aplI (N := n1) (x := ((Hd.bestS (((Hd.handsV (Hd.vLeast vn) (z.getD i []) q (3 - (Hd.vLeast vn)).toNat)))))) 4 0 rfl rfl mk23 trv1 rfl rfl rfl rfl (by omega) ?_
    intro aq9 cq9
    refine asS rfl rfl rfl ?_
    refine rNil ?_
    refine qSeq rfl ?_
    refine hSeq ?_
    refine hReg (sq 0 (sq 1 (sl 2 (sl 3 (sq 4 sz))))) (by kernel_rfl) ?_
    refine mvS rfl rfl rfl ?_
    refine mvI rfl rfl rfl ?_
    refine bsl trv1 rfl rfl rfl (bsl23_1 (.int .i64 _) rfl) (fun bkl11 hbkl11 => ?_)
    refine aplI (N := n2) (x := (-1)) 4 0 rfl rfl mk23 trv1 rfl rfl rfl rfl (by omega) ?_
    intro aq10 cq10
    refine asS rfl rfl rfl ?_
    refine rNil ?_
    refine qSeq rfl ?_
    refine hReg (sq 0 (sq 1 (sl 2 (sl 3 (sq 4 sz))))) (by kernel_rfl) ?_
    refine mvS rfl rfl rfl ?_
    refine mvI rfl rfl rfl ?_
    refine bsl trv1 rfl rfl rfl (bsl23_1 (.int .i64 _) rfl) (fun bkl12 hbkl12 => ?_)
    refine aplI (N := n3) (x := (i : Int)) 4 0 rfl rfl mk23 trv1 rfl rfl rfl rfl (by omega) ?_
    intro aq11 cq11
    refine asS rfl rfl rfl ?_
    refine rNil ?_
    refine qSeq rfl ?_
    refine hReg (sq 0 (sq 1 (sq 2 sz))) (by kernel_rfl) ?_
    refine mvI rfl rfl rfl ?_
    refine add rfl rfl rfl rfl (by omega) ?_
    refine asI rfl rfl rfl ?_
    refine rNil ?_
    have e8 : (((Hd.hisL vn z q).take i) ++ [((Hd.bestS (((Hd.handsV (Hd.vLeast vn) (z.getD i []) q (3 - (Hd.vLeast vn)).toNat)))))]) = (Hd.hisL vn z q).take (i + 1) := by rw [Iso.take_snoc (show i < (Hd.hisL vn z q).length by omega), hgh, hbs]
    have e9 : (((Hd.losL vn z q).take i) ++ [(-1)]) = (Hd.losL vn z q).take (i + 1) := by rw [Iso.take_snoc (show i < (Hd.losL vn z q).length by omega), hgl]
    have e10 : (((Hd.nums z.length).take i) ++ [(i : Int)]) = (Hd.nums z.length).take (i + 1) := by rw [Iso.take_snoc (show i < (Hd.nums z.length).length by omega), hgn]
    rw [e8, e9, e10]
    exact qNext rfl ((i + 1, (n1 + 1), (aq9, cq9), (n2 + 1), (aq10, cq10), (n3 + 1), (aq11, cq11))) (by omega) ⟨by dsimp only; omega, by dsimp only; omega, by dsimp only; omega, by dsimp only; omega⟩ ⟨rfl, rfl, rfl, rfl, rfl, rfl, rfl, trivial⟩ (fun _ h => h.pick [4, 4, 4, 4])
  ·
   replace c2 : ¬ ((Hd.vLow vn) ≠ 0) := c2
   rw [if_pos (Classical.not_not.1 c2)] at hgl
   refine hSkip ?_
   refine qSeq rfl ?_
   refine hSeq ?_
   refine hReg (sq 0 (sq 1 (sl 2 (sl 3 (sq 4 sz))))) (by kernel_rfl) ?_
   refine mvS rfl rfl rfl ?_
   refine mvI rfl rfl rfl ?_
   refine bsl trv1 rfl rfl rfl (bsl23_1 (.int .i64 _) rfl) (fun bkl13 hbkl13 => ?_)
   refine aplI (N := n1) (x := ((Hd.bestS (((Hd.handsV (Hd.vLeast vn) (z.getD i []) q (3 - (Hd.vLeast vn)).toNat)))))) 4 0 rfl rfl mk23 trv1 rfl rfl rfl rfl (by omega) ?_
   intro aq12 cq12
   refine asS rfl rfl rfl ?_
   refine rNil ?_
   refine qSeq rfl ?_
   refine hSeq ?_
   refine hReg (sq 0 (sq 1 (sl 2 (sl 3 (sq 4 sz))))) (by kernel_rfl) ?_
   refine mvS rfl rfl rfl ?_
   refine mvI rfl rfl rfl ?_
   refine bsl trv1 rfl rfl rfl (bsl23_1 (.int .i64 _) rfl) (fun bkl14 hbkl14 => ?_)
   refine aplI (N := n2) (x := (-1)) 4 0 rfl rfl mk23 trv1 rfl rfl rfl rfl (by omega) ?_
   intro aq13 cq13
   refine asS rfl rfl rfl ?_
   refine rNil ?_
   refine qSeq rfl ?_
   refine hReg (sq 0 (sq 1 (sl 2 (sl 3 (sq 4 sz))))) (by kernel_rfl) ?_
   refine mvS rfl rfl rfl ?_
   refine mvI rfl rfl rfl ?_
   refine bsl trv1 rfl rfl rfl (bsl23_1 (.int .i64 _) rfl) (fun bkl15 hbkl15 => ?_)
   refine aplI (N := n3) (x := (i : Int)) 4 0 rfl rfl mk23 trv1 rfl rfl rfl rfl (by omega) ?_
   intro aq14 cq14
   refine asS rfl rfl rfl ?_
   refine rNil ?_
   refine qSeq rfl ?_
   refine hReg (sq 0 (sq 1 (sq 2 sz))) (by kernel_rfl) ?_
   refine mvI rfl rfl rfl ?_
   refine add rfl rfl rfl rfl (by omega) ?_
   refine asI rfl rfl rfl ?_
   refine rNil ?_
   have e8 : (((Hd.hisL vn z q).take i) ++ [((Hd.bestS (((Hd.handsV (Hd.vLeast vn) (z.getD i []) q (3 - (Hd.vLeast vn)).toNat)))))]) = (Hd.hisL vn z q).take (i + 1) := by rw [Iso.take_snoc (show i < (Hd.hisL vn z q).length by omega), hgh, hbs]
   have e9 : (((Hd.losL vn z q).take i) ++ [(-1)]) = (Hd.losL vn z q).take (i + 1) := by rw [Iso.take_snoc (show i < (Hd.losL vn z q).length by omega), hgl]
   have e10 : (((Hd.nums z.length).take i) ++ [(i : Int)]) = (Hd.nums z.length).take (i + 1) := by rw [Iso.take_snoc (show i < (Hd.nums z.length).length by omega), hgn]
   rw [e8, e9, e10]
   exact qNext rfl ((i + 1, (n1 + 1), (aq12, cq12), (n2 + 1), (aq13, cq13), (n3 + 1), (aq14, cq14))) (by omega) ⟨by dsimp only; omega, by dsimp only; omega, by dsimp only; omega, by dsimp only; omega⟩ ⟨rfl, rfl, rfl, rfl, rfl, rfl, rfl, trivial⟩ (fun _ h => h.pick [4, 4, 4, 4])
 ·
  replace c1 : ¬ ((i : Int) < (nz : Int)) := c1
  have hh1 := Hd.hisL_len vn z q
  have hh2 := Hd.losL_len vn z q
  have hh3 := Hd.nums_len z.length
  have hwn : ∀ x ∈ (Hd.nums z.length), 0 ≤ x ∧ x < ((Hd.hisL vn z q).length : Int) := fun x hx => by rw [hh1]; exact Hd.nums_bd hx
  have hwl : ∀ x ∈ (Hd.nums z.length), 0 ≤ x ∧ x < ((Hd.losL vn z q).length : Int) := fun x hx => by rw [hh2]; exact Hd.nums_bd hx
  have hTm : ∀ x ∈ (Hd.bst true (Hd.nums z.length) (Hd.hisL vn z q)).1, 0 ≤ x ∧ x < (nz : Int) := fun x hx => by rw [← lz]; exact Hd.bst_bd x hx
  have hFm : ∀ x ∈ (Hd.bst false (Hd.nums z.length) (Hd.losL vn z q)).1, 0 ≤ x ∧ x < (nz : Int) := fun x hx => by rw [← lz]; exact Hd.bst_bd x hx
  have hFn : (Hd.bst false (Hd.nums z.length) (Hd.losL vn z q)).1.Nodup := Hd.bst_nodup
  have hTl := (Hd.bst_inv true (Hd.hisL vn z q) (Hd.nums z.length)).2
  have hFl := (Hd.bst_inv false (Hd.losL vn z q) (Hd.nums z.length)).2
  rw [show (Hd.hisL vn z q).take i = (Hd.hisL vn z q) from List.take_of_length_le (by omega), show (Hd.losL vn z q).take i = (Hd.losL vn z q) from List.take_of_length_le (by omega), show (Hd.nums z.length).take i = (Hd.nums z.length) from List.take_of_length_le (by omega)]
  skip
  skip
  refine hExit rfl ?_
  refine qSeq rfl ?_
  refine hSeq ?_
  refine hReg (sq 0 (sq 1 (sl 2 (sq 3 sz)))) (by kernel_rfl) ?_
  refine mvS rfl rfl rfl ?_
  refine lenS Try.runUnderlying22 rfl rfl rfl ?_
  refine mksI nz mk23 trv1 rfl rfl rfl rfl (rfl) (by omega) (fun bkm16 hbkm16 => ?_)
  refine asS rfl rfl rfl ?_
  refine rNil ?_
  refine qSeq rfl ?_
  refine hSeq ?_
  refine hReg (sq 0 (sq 1 (sl 2 (sq 3 (sq 4 (sl 5 (sq 6 (sq 7 sz)))))))) (by kernel_rfl) ?_
  refine mvS rfl rfl rfl ?_
  refine mvS rfl rfl rfl ?_
  refine callS Try.call121 trv1 rfl rfl (fun w hs => spec_l13Best_true _ n3 h3.2 _ _ n1 h1.2 _ _ w (OwnI.rd (hs.at_ 1 rfl)) (OwnI.rd (hs.at_ 3 rfl)) (by assumption) (by omega) rfl) ?_
  rintro ⟨ay15, ny15, cy15, y15⟩ hr15
  dsimp only at hr15
  subst y15
  refine rPieces (L' := [OwnI 2 ay15 ny15 cy15 ((((Hd.bst true (Hd.nums z.length) (Hd.hisL vn z q)).1))), OwnI 2 (some ⟨bkm16, 0, none⟩) nz nz (List.replicate nz 0), OwnI 2 h3.1 n3 h3.2 (Hd.nums z.length), OwnI 2 h2.1 n2 h2.2 (Hd.losL vn z q), OwnI 2 h1.1 n1 h1.2 (Hd.hisL vn z q), blk bka2 109 [.int .i64 (Hd.vHole vn), .int .i64 (Hd.vLeast vn), .int .i64 2, .int .i64 5, .bool true, .int .i64 (Hd.vLow vn)]]) (fun _ h => h) ?_
  refine rKnow (fun w hs => (show OwnI 2 ay15 ny15 cy15 ((((Hd.bst true (Hd.nums z.length) (Hd.hisL vn z q)).1))) w from hs.at_ 0 rfl).lenz) (fun lenn17 => ?_)
  refine rVal (v' := .slice ay15 ny15 cy15) rfl ?_
  refine mvS rfl rfl rfl ?_
  refine mvS rfl rfl rfl ?_
  refine callS Try.call121 trv1 rfl rfl (fun w hs => spec_l13Best_false _ n3 h3.2 _ _ n2 h2.2 _ _ w (OwnI.rd (hs.at_ 2 rfl)) (OwnI.rd (hs.at_ 3 rfl)) (by assumption) (by omega) rfl) ?_
  rintro ⟨ay16, ny16, cy16, y16⟩ hr16
  dsimp only at hr16
  subst y16
  refine rPieces (L' := [OwnI 2 ay16 ny16 cy16 ((((Hd.bst false (Hd.nums z.length) (Hd.losL vn z q)).1))), OwnI 2 ay15 ny15 cy15 ((((Hd.bst true (Hd.nums z.length) (Hd.hisL vn z q)).1))), OwnI 2 (some ⟨bkm16, 0, none⟩) nz nz (List.replicate nz 0), OwnI 2 h3.1 n3 h3.2 (Hd.nums z.length), OwnI 2 h2.1 n2 h2.2 (Hd.losL vn z q), OwnI 2 h1.1 n1 h1.2 (Hd.hisL vn z q), blk bka2 109 [.int .i64 (Hd.vHole vn), .int .i64 (Hd.vLeast vn), .int .i64 2, .int .i64 5, .bool true, .int .i64 (Hd.vLow vn)]]) (fun _ h => h) ?_
  refine rKnow (fun w hs => (show OwnI 2 ay16 ny16 cy16 ((((Hd.bst false (Hd.nums z.length) (Hd.losL vn z q)).1))) w from hs.at_ 0 rfl).lenz) (fun lenn18 => ?_)
  refine rVal (v' := .slice ay16 ny16 cy16) rfl ?_
  refine asS rfl rfl rfl ?_
  refine asS rfl rfl rfl ?_
  refine rNil ?_
  refine qSeq rfl ?_
  refine hSeq ?_
  refine hReg (sq 0 sz) (by kernel_rfl) ?_
  refine asI rfl rfl rfl ?_
  refine rNil ?_
  refine qSeq rfl ?_
  refine hSeq ?_
  refine hSeq ?_
  refine hReg (sq 0 (sq 1 (sq 2 sz))) (by kernel_rfl) ?_
  refine mvS rfl rfl rfl ?_
  refine lenS Try.runUnderlying23 rfl rfl rfl ?_
  refine gtr rfl rfl rfl rfl ?_
  refine rNil ?_
  refine qSeq rfl ?_
  refine hIfD rfl (fun c4 => ?_) (fun c4 => ?_)
  ·
   replace c4 : 0 < (ny16 : Int) := c4
   refine hReg (sq 0 sz) (by kernel_rfl) ?_
   refine asI rfl rfl rfl ?_
   refine rNil ?_
   refine qSeq rfl ?_
   refine hSeq ?_
   refine hSeq ?_
   refine hReg (sq 0 sz) (by kernel_rfl) ?_
   refine asI rfl rfl rfl ?_
   refine rNil ?_
   refine qSeq rfl ?_
   refine hBlk ?_
   refine hLoop (α := Nat) (fun i => i ≤ (Hd.bst true (Hd.nums z.length) (Hd.hisL vn z q)).1.length) (fun i => (Hd.bst true (Hd.nums z.length) (Hd.hisL vn z q)).1.length - i) (fun i => [OwnI 2 ay16 ny16 cy16 ((((Hd.bst false (Hd.nums z.length) (Hd.losL vn z q)).1))), OwnI 2 ay15 ny15 cy15 ((((Hd.bst true (Hd.nums z.length) (Hd.hisL vn z q)).1))), OwnI 2 (some ⟨bkm16, 0, none⟩) nz nz ((Hd.put nz (12 / ((Hd.bst true (Hd.nums z.length) (Hd.hisL vn z q)).1.length : Int)) ((Hd.bst true (Hd.nums z.length) (Hd.hisL vn z q)).1.take i))), OwnI 2 h3.1 n3 h3.2 (Hd.nums z.length), OwnI 2 h2.1 n2 h2.2 (Hd.losL vn z q), OwnI 2 h1.1 n1 h1.2 (Hd.hisL vn z q), blk bka2 109 [.int .i64 (Hd.vHole vn), .int .i64 (Hd.vLeast vn), .int .i64 2, .int .i64 5, .bool true, .int .i64 (Hd.vLow vn)]]) (fun i => [(18, .slice (some ⟨bkm16, 0, none⟩) nz nz), (19, .slice ay15 ny15 cy15), (20, .slice ay16 ny16 cy16), (21, .int .i64 12), (22, .int .i64 (i : Int))]) 0 (Nat.zero_le _) (fun _ h => by rw [List.take_zero, Hd.put_nil]; exact h.pick [0, 0, 0, 0, 0, 0, 0]) ⟨rfl, rfl, rfl, rfl, rfl, trivial⟩ ?_
   rintro i τ2 hi
   refine hSeq ?_
   refine hSeq ?_
   refine hReg (sq 0 (sq 1 (sq 2 (sq 3 sz)))) (by kernel_rfl) ?_
   refine mvI rfl rfl rfl ?_
   refine mvS rfl rfl rfl ?_
   refine lenS Try.runUnderlying23 rfl rfl rfl ?_
   refine lss rfl rfl rfl rfl ?_
   refine rNil ?_
   refine qSeq rfl ?_
   refine hIfD rfl (fun c5 => ?_) (fun c5 => ?_)
   ·
    replace c5 : (i : Int) < (ny15 : Int) := c5
    have hix : i < (Hd.bst true (Hd.nums z.length) (Hd.hisL vn z q)).1.length := by omega
    have hxb := hTm _ (Math.getD_mem 0 hix)
    have hpl := Hd.put_len nz (12 / ((Hd.bst true (Hd.nums z.length) (Hd.hisL vn z q)).1.length : Int)) ((Hd.bst true (Hd.nums z.length) (Hd.hisL vn z q)).1.take i)
    refine hSkip ?_
    refine qSeq rfl ?_
    refine hSeq ?_
    refine hBlk ?_
    refine hDraw (Ls := [OwnI 2 ay15 ny15 cy15 ((((Hd.bst true (Hd.nums z.length) (Hd.hisL vn z q)).1)))]) (by kernel_rfl) (sq 0 (sq 1 (sq 2 (sq 3 (sq 4 (sq 5 (sq 6 (sq 7 (sq 8 (sq 9 (sf 10 sz))))))))))) (by kernel_rfl) (.cons _ (.cons_cons _ (.cons _ (.cons _ (.cons _ (.cons _ (.cons _ .slnil))))))) ?_
    refine mvS rfl rfl rfl ?_
    refine mvS rfl rfl rfl ?_
    refine mvI rfl rfl rfl ?_
    refine ixIq (zn := i) el23 ((Kn.at_ 0 rfl).imp fun _ h => OwnI.rd h) (fun _ h => h.pick [1]) rfl rfl rfl rfl (by omega) (by omega) rfl ?_
    intro ae17 e17
    refine ldq Try.isAgg2 (e17) rfl rfl rfl ?_
    refine mvI rfl rfl rfl ?_
    refine mvS rfl rfl rfl ?_
    refine lenS Try.runUnderlying23 rfl rfl rfl ?_
    refine quo rfl rfl rfl rfl (by omega) ?_
    refine oxI (zn := ((((((Hd.bst true (Hd.nums z.length) (Hd.hisL vn z q)).1))).getD i 0)).toNat) 2 rfl el23 rfl rfl rfl rfl (by omega) (by omega) rfl ?_
    intro gk18 hgk18
    refine stoIF (off := ((((((Hd.bst true (Hd.nums z.length) (Hd.hisL vn z q)).1))).getD i 0)).toNat) (x := (12 / (ny15 : Int))) 2 rfl hgk18 Try.sizeOf2 rfl rfl rfl rfl (by omega) ?_
    refine rNil ?_
    refine qSeq rfl ?_
    refine hReg (sq 0 (sq 1 (sq 2 sz))) (by kernel_rfl) ?_
    refine mvI rfl rfl rfl ?_
    refine add rfl rfl rfl rfl (by omega) ?_
    refine asI rfl rfl rfl ?_
    refine rNil ?_
    rw [show ((ny15 : Nat) : Int) = ((Hd.bst true (Hd.nums z.length) (Hd.hisL vn z q)).1.length : Int) from by omega, Hd.put_take hix hxb]
    exact qNext rfl (i + 1) (by omega) (by omega) ⟨rfl, rfl, rfl, rfl, rfl, trivial⟩ (fun _ h => h.pick [0, 0, 0, 0, 0, 0, 0])
   ·
    replace c5 : ¬ ((i : Int) < (ny15 : Int)) := c5
    rw [show (Hd.bst true (Hd.nums z.length) (Hd.hisL vn z q)).1.take i = (Hd.bst true (Hd.nums z.length) (Hd.hisL vn z q)).1 from List.take_of_length_le (by omega)]
    have hpq := Hd.put_len nz (12 / ((Hd.bst true (Hd.nums z.length) (Hd.hisL vn z q)).1.length : Int)) (Hd.bst true (Hd.nums z.length) (Hd.hisL vn z q)).1
    refine hExit rfl ?_
    refine qSeq rfl ?_
    refine hSeq ?_
    refine hSeq ?_
    refine hReg (sq 0 sz) (by kernel_rfl) ?_
    refine asI rfl rfl rfl ?_
    refine rNil ?_
    refine qSeq rfl ?_
    refine hBlk ?_
    refine hLoop (α := Nat) (fun i => i ≤ (Hd.bst false (Hd.nums z.length) (Hd.losL vn z q)).1.length) (fun i => (Hd.bst false (Hd.nums z.length) (Hd.losL vn z q)).1.length - i) (fun i => [OwnI 2 ay16 ny16 cy16 ((((Hd.bst false (Hd.nums z.length) (Hd.losL vn z q)).1))), OwnI 2 ay15 ny15 cy15 ((((Hd.bst true (Hd.nums z.length) (Hd.hisL vn z q)).1))), OwnI 2 (some ⟨bkm16, 0, none⟩) nz nz ((Hd.putA (Hd.put nz (12 / ((Hd.bst true (Hd.nums z.length) (Hd.hisL vn z q)).1.length : Int)) (Hd.bst true (Hd.nums z.length) (Hd.hisL vn z q)).1) (12 / ((Hd.bst false (Hd.nums z.length) (Hd.losL vn z q)).1.length : Int)) ((Hd.bst false (Hd.nums z.length) (Hd.losL vn z q)).1.take i))), OwnI 2 h3.1 n3 h3.2 (Hd.nums z.length), OwnI 2 h2.1 n2 h2.2 (Hd.losL vn z q), OwnI 2 h1.1 n1 h1.2 (Hd.hisL vn z q), blk bka2 109 [.int .i64 (Hd.vHole vn), .int .i64 (Hd.vLeast vn), .int .i64 2, .int .i64 5, .bool true, .int .i64 (Hd.vLow vn)]]) (fun i => [(18, .slice (some ⟨bkm16, 0, none⟩) nz nz), (20, .slice ay16 ny16 cy16), (21, .int .i64 12), (23, .int .i64 (i : Int))]) 0 (Nat.zero_le _) (fun _ h => by rw [List.take_zero, Hd.putA_nil]; exact h.pick [0, 0, 0, 0, 0, 0, 0]) ⟨rfl, rfl, rfl, rfl, trivial⟩ ?_
    rintro i τ3 hi
    refine hSeq ?_
    refine hSeq ?_
    refine hReg (sq 0 (sq 1 (sq 2 (sq 3 sz)))) (by kernel_rfl) ?_
    refine mvI rfl rfl rfl ?_
    refine mvS rfl rfl rfl ?_
    refine lenS Try.runUnderlying23 rfl rfl rfl ?_
    refine lss rfl rfl rfl rfl ?_
    refine rNil ?_
    refine qSeq rfl ?_
    refine hIfD rfl (fun c6 => ?_) (fun c6 => ?_)
    ·
     replace c6 : (i : Int) < (ny16 : Int) := c6
     have hix : i < (Hd.bst false (Hd.nums z.length) (Hd.losL vn z q)).1.length := by omega
     have hxb := hFm _ (Math.getD_mem 0 hix)
     have hpl := Hd.putA_len (Hd.put nz (12 / ((Hd.bst true (Hd.nums z.length) (Hd.hisL vn z q)).1.length : Int)) (Hd.bst true (Hd.nums z.length) (Hd.hisL vn z q)).1) (12 / ((Hd.bst false (Hd.nums z.length) (Hd.losL vn z q)).1.length : Int)) ((Hd.bst false (Hd.nums z.length) (Hd.losL vn z q)).1.take i)
     have hdv1 := Hd.dv_bd (am := 12) (n := (Hd.bst true (Hd.nums z.length) (Hd.hisL vn z q)).1.length) (by decide)
     have hdv2 := Hd.dv_bd (am := 12) (n := (Hd.bst false (Hd.nums z.length) (Hd.losL vn z q)).1.length) (by decide)
     have hpb := Hd.putA_bd (l := (Hd.bst false (Hd.nums z.length) (Hd.losL vn z q)).1.take i) ((Hd.bst false (Hd.nums z.length) (Hd.losL vn z q)).1.getD i 0).toNat (fun k => Hd.put_bd (n := nz) (l := (Hd.bst true (Hd.nums z.length) (Hd.hisL vn z q)).1) k hdv1) hdv2
     have hdv3 := Hd.dv_bd (am := 12) (n := ny16) (by decide)
     refine hSkip ?_
     refine qSeq rfl ?_
     refine hSeq ?_
     refine hBlk ?_
     refine hDraw (Ls := [OwnI 2 ay16 ny16 cy16 ((((Hd.bst false (Hd.nums z.length) (Hd.losL vn z q)).1))), OwnI 2 (some ⟨bkm16, 0, none⟩) nz nz ((Hd.putA (Hd.put nz (12 / ((Hd.bst true (Hd.nums z.length) (Hd.hisL vn z q)).1.length : Int)) (Hd.bst true (Hd.nums z.length) (Hd.hisL vn z q)).1) (12 / ((Hd.bst false (Hd.nums z.length) (Hd.losL vn z q)).1.length : Int)) ((Hd.bst false (Hd.nums z.length) (Hd.losL vn z q)).1.take i)))]) (by kernel_rfl) (sq 0 (sq 1 (sq 2 (sq 3 (sq 4 (sq 5 (sq 6 (sq 7 (sq 8 (sq 9 (sq 10 (sq 11 (sq 12 (sq 13 (sq 14 (sq 15 (sq 16 (sq 17 (sf 18 sz))))))))))))))))))) (by kernel_rfl) (.cons_cons _ (.cons _ (.cons_cons _ (.cons _ (.cons _ (.cons _ (.cons _ .slnil))))))) ?_
     refine mvS rfl rfl rfl ?_
     refine mvS rfl rfl rfl ?_
     refine mvI rfl rfl rfl ?_
     refine ixIq (zn := i) el23 ((Kn.at_ 0 rfl).imp fun _ h => OwnI.rd h) (fun _ h => h.pick [0, 1]) rfl rfl rfl rfl (by omega) (by omega) rfl ?_
     intro ae19 e19
     refine ldq Try.isAgg2 (e19) rfl rfl rfl ?_
     refine mvS rfl rfl rfl ?_
     refine mvS rfl rfl rfl ?_
     refine mvI rfl rfl rfl ?_
     refine ixIq (zn := i) el23 ((Kn.at_ 0 rfl).imp fun _ h => OwnI.rd h) (fun _ h => h.pick [0, 1]) rfl rfl rfl rfl (by omega) (by omega) rfl ?_
     intro ae20 e20
     refine ldq Try.isAgg2 (e20) rfl rfl rfl ?_
     refine ixIq (zn := ((((((Hd.bst false (Hd.nums z.length) (Hd.losL vn z q)).1))).getD i 0)).toNat) el23 ((Kn.at_ 1 rfl).imp fun _ h => OwnI.rd h) (fun _ h => h.pick [0, 1]) rfl rfl rfl rfl (by omega) (by omega) rfl ?_
     intro ae21 e21
     refine ldq Try.isAgg2 (e21) rfl rfl rfl ?_
     refine mvI rfl rfl rfl ?_
     refine mvS rfl rfl rfl ?_
     refine lenS Try.runUnderlying23 rfl rfl rfl ?_
     refine quo rfl rfl rfl rfl (by omega) ?_
     refine add rfl rfl rfl rfl (by omega) ?_
     refine oxI (zn := ((((((Hd.bst false (Hd.nums z.length) (Hd.losL vn z q)).1))).getD i 0)).toNat) 2 rfl el23 rfl rfl rfl rfl (by omega) (by omega) rfl ?_
     intro gk22 hgk22
     refine stoIF (off := ((((((Hd.bst false (Hd.nums z.length) (Hd.losL vn z q)).1))).getD i 0)).toNat) (x := ((((Hd.putA (Hd.put nz (12 / ((Hd.bst true (Hd.nums z.length) (Hd.hisL vn z q)).1.length : Int)) (Hd.bst true (Hd.nums z.length) (Hd.hisL vn z q)).1) (12 / ((Hd.bst false (Hd.nums z.length) (Hd.losL vn z q)).1.length : Int)) ((Hd.bst false (Hd.nums z.length) (Hd.losL vn z q)).1.take i))).getD (((((((Hd.bst false (Hd.nums z.length) (Hd.losL vn z q)).1))).getD i 0)).toNat) 0) + (12 / (ny16 : Int)))) 2 rfl hgk22 Try.sizeOf2 rfl rfl rfl rfl (by omega) ?_
     refine rNil ?_
     refine qSeq rfl ?_
     refine hReg (sq 0 (sq 1 (sq 2 sz))) (by kernel_rfl) ?_
     refine mvI rfl rfl rfl ?_
     refine add rfl rfl rfl rfl (by omega) ?_
     refine asI rfl rfl rfl ?_
     refine rNil ?_
     rw [show ((ny16 : Nat) : Int) = ((Hd.bst false (Hd.nums z.length) (Hd.losL vn z q)).1.length : Int) from by omega, Hd.putA_take hix hFn (by rw [hpq]; exact hxb)]
     exact qNext rfl (i + 1) (by omega) (by omega) ⟨rfl, rfl, rfl, rfl, trivial⟩ (fun _ h => h.pick [0, 0, 0, 0, 0, 0, 0])
    ·
     replace c6 : ¬ ((i : Int) < (ny16 : Int)) := c6
     rw [show (Hd.bst false (Hd.nums z.length) (Hd.losL vn z q)).1.take i = (Hd.bst false (Hd.nums z.length) (Hd.losL vn z q)).1 from List.take_of_length_le (by omega)]
     refine hExit rfl ?_
     refine qSeq rfl ?_
     refine hSeq ?_
     refine hReg (sq 0 (sq 1 sz)) (by kernel_rfl) ?_
     refine mvS rfl rfl rfl ?_
     refine asS rfl rfl rfl ?_
     refine rNil ?_
     refine qSeq rfl ?_
     refine hRet ?_
     exact fun w hs => ⟨[.slice (some ⟨bkm16, 0, none⟩) nz nz], ⟨rfl, trivial⟩, ⟨((some ⟨bkm16, 0, none⟩), nz, nz, (Hd.putA (Hd.put nz (12 / ((Hd.bst true (Hd.nums z.length) (Hd.hisL vn z q)).1.length : Int)) (Hd.bst true (Hd.nums z.length) (Hd.hisL vn z q)).1) (12 / ((Hd.bst false (Hd.nums z.length) (Hd.losL vn z q)).1.length : Int)) (Hd.bst false (Hd.nums z.length) (Hd.losL vn z q)).1)), rfl, by rw [← lz]; unfold Hd.parts; exact Hd.awd_put (w := 12) (by rw [if_neg (by omega)]), hs.pick [2]⟩⟩
  ·
   replace c4 : ¬ (0 < (ny16 : Int)) := c4
   refine hSkip ?_
   refine qSeq rfl ?_
   refine hSeq ?_
   refine hSeq ?_
   refine hReg (sq 0 sz) (by kernel_rfl) ?_
   refine asI rfl rfl rfl ?_
   refine rNil ?_
   refine qSeq rfl ?_
   refine hBlk ?_
   refine hLoop (α := Nat) (fun i => i ≤ (Hd.bst true (Hd.nums z.length) (Hd.hisL vn z q)).1.length) (fun i => (Hd.bst true (Hd.nums z.length) (Hd.hisL vn z q)).1.length - i) (fun i => [OwnI 2 ay16 ny16 cy16 ((((Hd.bst false (Hd.nums z.length) (Hd.losL vn z q)).1))), OwnI 2 ay15 ny15 cy15 ((((Hd.bst true (Hd.nums z.length) (Hd.hisL vn z q)).1))), OwnI 2 (some ⟨bkm16, 0, none⟩) nz nz ((Hd.put nz (24 / ((Hd.bst true (Hd.nums z.length) (Hd.hisL vn z q)).1.length : Int)) ((Hd.bst true (Hd.nums z.length) (Hd.hisL vn z q)).1.take i))), OwnI 2 h3.1 n3 h3.2 (Hd.nums z.length), OwnI 2 h2.1 n2 h2.2 (Hd.losL vn z q), OwnI 2 h1.1 n1 h1.2 (Hd.hisL vn z q), blk bka2 109 [.int .i64 (Hd.vHole vn), .int .i64 (Hd.vLeast vn), .int .i64 2, .int .i64 5, .bool true, .int .i64 (Hd.vLow vn)]]) (fun i => [(18, .slice (some ⟨bkm16, 0, none⟩) nz nz), (19, .slice ay15 ny15 cy15), (20, .slice ay16 ny16 cy16), (21, .int .i64 24), (22, .int .i64 (i : Int))]) 0 (Nat.zero_le _) (fun _ h => by rw [List.take_zero, Hd.put_nil]; exact h.pick [0, 0, 0, 0, 0, 0, 0]) ⟨rfl, rfl, rfl, rfl, rfl, trivial⟩ ?_
   rintro i τ4 hi
   refine hSeq ?_
   refine hSeq ?_
   refine hReg (sq 0 (sq 1 (sq 2 (sq 3 sz)))) (by kernel_rfl) ?_
   refine mvI rfl rfl rfl ?_
   refine mvS rfl rfl rfl ?_
   refine lenS Try.runUnderlying23 rfl rfl rfl ?_
   refine lss rfl rfl rfl rfl ?_
   refine rNil ?_
   refine qSeq rfl ?_
   refine hIfD rfl (fun c7 => ?_) (fun c7 => ?_)
   ·
    replace c7 : (i : Int) < (ny15 : Int) := c7
    have hix : i < (Hd.bst true (Hd.nums z.length) (Hd.hisL vn z q)).1.length := by omega
    have hxb := hTm _ (Math.getD_mem 0 hix)
    have hpl := Hd.put_len nz (24 / ((Hd.bst true (Hd.nums z.length) (Hd.hisL vn z q)).1.length : Int)) ((Hd.bst true (Hd.nums z.length) (Hd.hisL vn z q)).1.take i)
    refine hSkip ?_
    refine qSeq rfl ?_
    refine hSeq ?_
    refine hBlk ?_
    refine hDraw (Ls := [OwnI 2 ay15 ny15 cy15 ((((Hd.bst true (Hd.nums z.length) (Hd.hisL vn z q)).1)))]) (by kernel_rfl) (sq 0 (sq 1 (sq 2 (sq 3 (sq 4 (sq 5 (sq 6 (sq 7 (sq 8 (sq 9 (sf 10 sz))))))))))) (by kernel_rfl) (.cons _ (.cons_cons _ (.cons _ (.cons _ (.cons _ (.cons _ (.cons _ .slnil))))))) ?_
    refine mvS rfl rfl rfl ?_
    refine mvS rfl rfl rfl ?_
    refine mvI rfl rfl rfl ?_
    refine ixIq (zn := i) el23 ((Kn.at_ 0 rfl).imp fun _ h => OwnI.rd h) (fun _ h => h.pick [1]) rfl rfl rfl rfl (by omega) (by omega) rfl ?_
    intro ae23 e23
    refine ldq Try.isAgg2 (e23) rfl rfl rfl ?_
    refine mvI rfl rfl rfl ?_
    refine mvS rfl rfl rfl ?_
    refine lenS Try.runUnderlying23 rfl rfl rfl ?_
    refine quo rfl rfl rfl rfl (by omega) ?_
    refine oxI (zn := ((((((Hd.bst true (Hd.nums z.length) (Hd.hisL vn z q)).1))).getD i 0)).toNat) 2 rfl el23 rfl rfl rfl rfl (by omega) (by omega) rfl ?_
    intro gk24 hgk24
    refine stoIF (off := ((((((Hd.bst true (Hd.nums z.length) (Hd.hisL vn z q)).1))).getD i 0)).toNat) (x := (24 / (ny15 : Int))) 2 rfl hgk24 Try.sizeOf2 rfl rfl rfl rfl (by omega) ?_
    refine rNil ?_
    refine qSeq rfl ?_
    refine hReg (sq 0 (sq 1 (sq 2 sz))) (by kernel_rfl) ?_
    refine mvI rfl rfl rfl ?_
    refine add rfl rfl rfl rfl (by omega) ?_
    refine asI rfl rfl rfl ?_
    refine rNil ?_
    rw [show ((ny15 : Nat) : Int) = ((Hd.bst true (Hd.nums z.length) (Hd.hisL vn z q)).1.length : Int) from by omega, Hd.put_take hix hxb]
    exact qNext rfl (i + 1) (by omega) (by omega) ⟨rfl, rfl, rfl, rfl, rfl, trivial⟩ (fun _ h => h.pick [0, 0, 0, 0, 0, 0, 0])
   ·
    replace c7 : ¬ ((i : Int) < (ny15 : Int)) := c7
    rw [show (Hd.bst true (Hd.nums z.length) (Hd.hisL vn z q)).1.take i = (Hd.bst true (Hd.nums z.length) (Hd.hisL vn z q)).1 from List.take_of_length_le (by omega)]
    have hpq := Hd.put_len nz (24 / ((Hd.bst true (Hd.nums z.length) (Hd.hisL vn z q)).1.length : Int)) (Hd.bst true (Hd.nums z.length) (Hd.hisL vn z q)).1
    refine hExit rfl ?_
    refine qSeq rfl ?_
    refine hSeq ?_
    refine hSeq ?_
    refine hReg (sq 0 sz) (by kernel_rfl) ?_
    refine asI rfl rfl rfl ?_
    refine rNil ?_
    refine qSeq rfl ?_
    refine hBlk ?_
    refine hLoop (α := Nat) (fun i => i ≤ (Hd.bst false (Hd.nums z.length) (Hd.losL vn z q)).1.length) (fun i => (Hd.bst false (Hd.nums z.length) (Hd.losL vn z q)).1.length - i) (fun i => [OwnI 2 ay16 ny16 cy16 ((((Hd.bst false (Hd.nums z.length) (Hd.losL vn z q)).1))), OwnI 2 ay15 ny15 cy15 ((((Hd.bst true (Hd.nums z.length) (Hd.hisL vn z q)).1))), OwnI 2 (some ⟨bkm16, 0, none⟩) nz nz ((Hd.putA (Hd.put nz (24 / ((Hd.bst true (Hd.nums z.length) (Hd.hisL vn z q)).1.length : Int)) (Hd.bst true (Hd.nums z.length) (Hd.hisL vn z q)).1) (24 / ((Hd.bst false (Hd.nums z.length) (Hd.losL vn z q)).1.length : Int)) ((Hd.bst false (Hd.nums z.length) (Hd.losL vn z q)).1.take i))), OwnI 2 h3.1 n3 h3.2 (Hd.nums z.length), OwnI 2 h2.1 n2 h2.2 (Hd.losL vn z q), OwnI 2 h1.1 n1 h1.2 (Hd.hisL vn z q), blk bka2 109 [.int .i64 (Hd.vHole vn), .int .i64 (Hd.vLeast vn), .int .i64 2, .int .i64 5, .bool true, .int .i64 (Hd.vLow vn)]]) (fun i => [(18, .slice (some ⟨bkm16, 0, none⟩) nz nz), (20, .slice ay16 ny16 cy16), (21, .int .i64 24), (23, .int .i64 (i : Int))]) 0 (Nat.zero_le _) (fun _ h => by rw [List.take_zero, Hd.putA_nil]; exact h.pick [0, 0, 0, 0, 0, 0, 0]) ⟨rfl, rfl, rfl, rfl, trivial⟩ ?_
    rintro i τ5 hi
    refine hSeq ?_
    refine hSeq ?_
    refine hReg (sq 0 (sq 1 (sq 2 (sq 3 sz)))) (by kernel_rfl) ?_
    refine mvI rfl rfl rfl ?_
    refine mvS rfl rfl rfl ?_
    refine lenS Try.runUnderlying23 rfl rfl rfl ?_
    refine lss rfl rfl rfl rfl ?_
    refine rNil ?_
    refine qSeq rfl ?_
    refine hIfD rfl (fun c8 => ?_) (fun c8 => ?_)
    ·
     replace c8 : (i : Int) < (ny16 : Int) := c8
     have hix : i < (Hd.bst false (Hd.nums z.length) (Hd.losL vn z q)).1.length := by omega
     have hxb := hFm _ (Math.getD_mem 0 hix)
     have hpl := Hd.putA_len (Hd.put nz (24 / ((Hd.bst true (Hd.nums z.length) (Hd.hisL vn z q)).1.length : Int)) (Hd.bst true (Hd.nums z.length) (Hd.hisL vn z q)).1) (24 / ((Hd.bst false (Hd.nums z.length) (Hd.losL vn z q)).1.length : Int)) ((Hd.bst false (Hd.nums z.length) (Hd.losL vn z q)).1.take i)
     have hdv1 := Hd.dv_bd (am := 24) (n := (Hd.bst true (Hd.nums z.length) (Hd.hisL vn z q)).1.length) (by decide)
     have hdv2 := Hd.dv_bd (am := 24) (n := (Hd.bst false (Hd.nums z.length) (Hd.losL vn z q)).1.length) (by decide)
     have hpb := Hd.putA_bd (l := (Hd.bst false (Hd.nums z.length) (Hd.losL vn z q)).1.take i) ((Hd.bst false (Hd.nums z.length) (Hd.losL vn z q)).1.getD i 0).toNat (fun k => Hd.put_bd (n := nz) (l := (Hd.bst true (Hd.nums z.length) (Hd.hisL vn z q)).1) k hdv1) hdv2
     have hdv3 := Hd.dv_bd (am := 24) (n := ny16) (by decide)
     refine hSkip ?_
     refine qSeq rfl ?_
     refine hSeq ?_
     refine hBlk ?_
     refine hDraw (Ls := [OwnI 2 ay16 ny16 cy16 ((((Hd.bst false (Hd.nums z.length) (Hd.losL vn z q)).1))), OwnI 2 (some ⟨bkm16, 0, none⟩) nz nz ((Hd.putA (Hd.put nz (24 / ((Hd.bst true (Hd.nums z.length) (Hd.hisL vn z q)).1.length : Int)) (Hd.bst true (Hd.nums z.length) (Hd.hisL vn z q)).1) (24 / ((Hd.bst false (Hd.nums z.length) (Hd.losL vn z q)).1.length : Int)) ((Hd.bst false (Hd.nums z.length) (Hd.losL vn z q)).1.take i)))]) (by kernel_rfl) (sq 0 (sq 1 (sq 2 (sq 3 (sq 4 (sq 5 (sq 6 (sq 7 (sq 8 (sq 9 (sq 10 (sq 11 (sq 12 (sq 13 (sq 14 (sq 15 (sq 16 (sq 17 (sf 18 sz))))))))))))))))))) (by kernel_rfl) (.cons_cons _ (.cons _ (.cons_cons _ (.cons _ (.cons _ (.cons _ (.cons _ .slnil))))))) ?_
     refine mvS rfl rfl rfl ?_
     refine mvS rfl rfl rfl ?_
     refine mvI rfl rfl rfl ?_
     refine ixIq (zn := i) el23 ((Kn.at_ 0 rfl).imp fun _ h => OwnI.rd h) (fun _ h => h.pick [0, 1]) rfl rfl rfl rfl (by omega) (by omega) rfl ?_
     intro ae25 e25
     refine ldq Try.isAgg2 (e25) rfl rfl rfl ?_
     refine mvS rfl rfl rfl ?_
     refine mvS rfl rfl rfl ?_
     refine mvI rfl rfl rfl ?_
     refine ixIq (zn := i) el23 ((Kn.at_ 0 rfl).imp fun _ h => OwnI.rd h) (fun _ h => h.pick [0, 1]) rfl rfl rfl rfl (by omega) (by omega) rfl ?_
     intro ae26 e26
     refine ldq Try.isAgg2 (e26) rfl rfl rfl ?_
     refine ixIq (zn := ((((((Hd.bst false (Hd.nums z.length) (Hd.losL vn z q)).1))).getD i 0)).toNat) el23 ((Kn.at_ 1 rfl).imp fun _ h => OwnI.rd h) (fun _ h => h.pick [0, 1]) rfl rfl rfl rfl (by omega) (by omega) rfl ?_
     intro ae27 e27
     refine ldq Try.isAgg2 (e27) rfl rfl rfl ?_
     refine mvI rfl rfl rfl ?_
     refine mvS rfl rfl rfl ?_
     refine lenS Try.runUnderlying23 rfl rfl rfl ?_
     refine quo rfl rfl rfl rfl (by omega) ?_
     refine add rfl rfl rfl rfl (by omega) ?_
     refine oxI (zn := ((((((Hd.bst false (Hd.nums z.length) (Hd.losL vn z q)).1))).getD i 0)).toNat) 2 rfl el23 rfl rfl rfl rfl (by omega) (by omega) rfl ?_
     intro gk28 hgk28
     refine stoIF (off := ((((((Hd.bst false (Hd.nums z.length) (Hd.losL vn z q)).1))).getD i 0)).toNat) (x := ((((Hd.putA (Hd.put nz (24 / ((Hd.bst true (Hd.nums z.length) (Hd.hisL vn z q)).1.length : Int)) (Hd.bst true (Hd.nums z.length) (Hd.hisL vn z q)).1) (24 / ((Hd.bst false (Hd.nums z.length) (Hd.losL vn z q)).1.length : Int)) ((Hd.bst false (Hd.nums z.length) (Hd.losL vn z q)).1.take i))).getD (((((((Hd.bst false (Hd.nums z.length) (Hd.losL vn z q)).1))).getD i 0)).toNat) 0) + (24 / (ny16 : Int)))) 2 rfl hgk28 Try.sizeOf2 rfl rfl rfl rfl (by omega) ?_
     refine rNil ?_
     refine qSeq rfl ?_
     refine hReg (sq 0 (sq 1 (sq 2 sz))) (by kernel_rfl) ?_
     refine mvI rfl rfl rfl ?_
     refine add rfl rfl rfl rfl (by omega) ?_
     refine asI rfl rfl rfl ?_
     refine rNil ?_
     rw [show ((ny16 : Nat) : Int) = ((Hd.bst false (Hd.nums z.length) (Hd.losL vn z q)).1.length : Int) from by omega, Hd.putA_take hix hFn (by rw [hpq]; exact hxb)]
     exact qNext rfl (i + 1) (by omega) (by omega) ⟨rfl, rfl, rfl, rfl, trivial⟩ (fun _ h => h.pick [0, 0, 0, 0, 0, 0, 0])
    ·
     replace c8 : ¬ ((i : Int) < (ny16 : Int)) := c8
     rw [show (Hd.bst false (Hd.nums z.length) (Hd.losL vn z q)).1.take i = (Hd.bst false (Hd.nums z.length) (Hd.losL vn z q)).1 from List.take_of_length_le (by omega)]
     refine hExit rfl ?_
     refine qSeq rfl ?_
     refine hSeq ?_
     refine hReg (sq 0 (sq 1 sz)) (by kernel_rfl) ?_
     refine mvS rfl rfl rfl ?_
     refine asS rfl rfl rfl ?_
     refine rNil ?_
     refine qSeq rfl ?_
     refine hRet ?_
     exact fun w hs => ⟨[.slice (some ⟨bkm16, 0, none⟩) nz nz], ⟨rfl, trivial⟩, ⟨((some ⟨bkm16, 0, none⟩), nz, nz, (Hd.putA (Hd.put nz (24 / ((Hd.bst true (Hd.nums z.length) (Hd.hisL vn z q)).1.length : Int)) (Hd.bst true (Hd.nums z.length) (Hd.hisL vn z q)).1) (24 / ((Hd.bst false (Hd.nums z.length) (Hd.losL vn z q)).1.length : Int)) (Hd.bst false (Hd.nums z.length) (Hd.losL vn z q)).1)), rfl, by rw [← lz]; unfold Hd.parts; exact Hd.awd_put (w := 24) (by rw [if_pos (by omega)]), hs.pick [2]⟩⟩
end Go.Proofs.Yteaahdakammffaa
/- Contracts of sums and parts, as the model finds them. Their conditions stand in each. -/
namespace Go.Proofs.Yteaahdakammffaa
open Go Go.RowKit V
set_option linter.unusedVariables false
set_option linter.unusedSimpArgs false
set_option maxRecDepth 100000
theorem spec_l16Player_c (az : Option Addr) (nz : Nat) (cz : Nat) (Hz : Nat → Hd) (z : List (List Int)) (p : Int) (w : World) (rz : RdR maK az nz Hz z w) (hzl : z.length ≤ 1000) :
  Calls Try.prog 68 #[.slice az nz cz, .int .i64 p] w (Ret fun v w' => v = .bool (decide (0 ≤ p ∧ p ≤ (nz : Int) - 1)) ∧ Ext w w') := by
 have kz : Kn w none_ [] (RdR maK az nz Hz z) := fun w' hs => rz.ext hs.upd
 have lz : z.length = nz := rz.1
 have mz : nz ≤ 9223372036854775807 := rz.2.1
 refine fn (M := none_) (rs := [.tmp 4]) Try.func68 rfl Try.ntmps68 rfl rfl (Sep.start _ _) ?_
 refine hSeq ?_
 refine hReg (sq 0 sz) (by kernel_rfl) ?_
 refine asB rfl rfl rfl ?_
 refine rNil ?_
 refine qSeq rfl ?_
 refine hSeq ?_
 refine hReg (sq 0 (sq 1 (sq 2 (sq 3 (sl 4 (sq 5 sz)))))) (by kernel_rfl) ?_
 refine mvI rfl rfl rfl ?_
 refine mvS rfl rfl rfl ?_
 refine lenS Try.runUnderlying22 rfl rfl rfl ?_
 refine sub rfl rfl rfl rfl (by omega) ?_
 refine callP (v := .bool (decide ((0 : Int) ≤ p ∧ p ≤ (((nz : Int) - 1))))) Try.call88 trv rfl rfl (fun w hs => spec_l01In_c _ _ _ w ) ?_
 refine asB rfl rfl rfl ?_
 refine rNil ?_
 refine qSeq rfl ?_
 refine hRet ?_
 exact fun w hs => ⟨[.bool (decide ((0 : Int) ≤ p ∧ p ≤ (((nz : Int) - 1))))], ⟨rfl, trivial⟩, ⟨by first | rfl | exact bD (by omega) | exact bT (by omega) | exact bF (by omega) | exact vI (by omega), hs.upd⟩⟩
end Go.Proofs.Yteaahdakammffaa
/- Contracts of leaders, as the model finds them. Their conditions stand in each. -/
namespace Go.Proofs.Yteaahdakammffaa
open Go Go.RowKit V
set_option linter.unusedVariables false
set_option linter.unusedSimpArgs false
set_option maxRecDepth 100000
end Go.Proofs.Yteaahdakammffaa
/- Contracts of wins and outs, as the model finds them. Their conditions stand in each. -/
namespace Go.Proofs.Yteaahdakammffaa
open Go Go.RowKit V
set_option linter.unusedVariables false
set_option linter.unusedSimpArgs false
set_option maxRecDepth 100000
theorem spec_WinsOf_c (vn : Int) (az : Option Addr) (nz : Nat) (cz : Nat) (Hz : Nat → Hd) (z : List (List Int)) (aq : Option Addr) (nq : Nat) (cq : Nat) (q : List Int) (ad : Option Addr) (nd : Nat) (cd : Nat) (d : List Int) (p : Int) (w : World) (rz : RdR maK az nz Hz z w) (rq : RdI aq nq q w) (rd : RdI ad nd d w) (hql : q.length ≤ 1048576) (hdl : d.length ≤ 1048576) (hzf : z.flatten.length ≤ 1048576) (hzl : z.length ≤ 1048576) (hcz : ∀ i, i < z.length → (z.getD i []).length ≤ (Hz i).2) (hcq : nq ≤ cq) :
  Calls Try.prog 56 #[.int .i64 vn, .slice az nz cz, .slice aq nq cq, .slice ad nd cd, .int .i64 p] w (Ret fun v w' => ∃ x : Int × Int × Int, v = .tuple #[.int .i64 x.1, .int .i64 x.2.1, .int .i64 x.2.2] ∧ (x.1 = Hd.wiA vn z q d p ∧ x.2.1 = Hd.wiB vn z q d p ∧ x.2.2 = Hd.wiC vn z q d p) ∧ Sep w none_ [] w') := by
 have kz : Kn w none_ [] (RdR maK az nz Hz z) := fun w' hs => rz.ext hs.upd
 have lz : z.length = nz := rz.1
 have mz : nz ≤ 9223372036854775807 := rz.2.1
 have kq : Kn w none_ [] (RdI aq nq q) := fun w' hs => rq.ext hs.upd
 have lq : q.length = nq := rq.1
 have mq : nq ≤ 9223372036854775807 := rq.2.1
 have kd : Kn w none_ [] (RdI ad nd d) := fun w' hs => rd.ext hs.upd
 have ld : d.length = nd := rd.1
 have md : nd ≤ 9223372036854775807 := rd.2.1
 refine fn (M := none_) (rs := [.tmp 10, .tmp 11, .tmp 12]) Try.func56 rfl Try.ntmps56 rfl rfl (Sep.start _ _) ?_
 refine hSeq ?_
 refine hReg (sq 0 (sq 1 (sq 2 sz))) (by kernel_rfl) ?_
 refine asI rfl rfl rfl ?_
 refine asI rfl rfl rfl ?_
 refine asI rfl rfl rfl ?_
 refine rNil ?_
 refine qSeq rfl ?_
 refine hSeq ?_
 refine hSeq ?_
 refine hReg (sq 0 (sq 1 (sq 2 (sq 3 (sl 4 (sq 5 sz)))))) (by kernel_rfl) ?_
 refine mvI rfl rfl rfl ?_
 refine mvS rfl rfl rfl ?_
 refine mvS rfl rfl rfl ?_
 refine mvS rfl rfl rfl ?_
 refine callP (v := .bool (Hd.isDeal vn z q d)) Try.call58 trv rfl rfl (fun w hs => spec_IsDeal_c _ _ nz cz _ _ _ nq cq _ _ nd cd _ w (kz w hs) (kq w hs) (kd w hs) (by omega) (by first | omega | (simp only [List.length_nil]; omega)) (by omega)) ?_
 refine not rfl rfl rfl ?_
 refine rNil ?_
 refine qSeq rfl ?_
 refine hIfN rfl (fun c1 => ?_) (fun c1 => ?_)
 ·
  replace c1 : (Hd.isDeal vn z q d) = false := c1
  have hdeal : Hd.isDeal vn z q d = false := by simpa using c1
  have hC : Hd.wiC vn z q d p = 1 := by unfold Hd.wiC; rw [if_pos hdeal]
  have hA : Hd.wiA vn z q d p = 0 := by unfold Hd.wiA; rw [hC]; rfl
  have hB : Hd.wiB vn z q d p = 0 := by unfold Hd.wiB; rw [hC]; rfl
  refine hSeq ?_
  refine hReg (sq 0 (sq 1 (sq 2 sz))) (by kernel_rfl) ?_
  refine asI rfl rfl rfl ?_
  refine asI rfl rfl rfl ?_
  refine asI rfl rfl rfl ?_
  refine rNil ?_
  refine qSeq rfl ?_
  refine hRet ?_
  exact fun w hs => ⟨[.int .i64 0, .int .i64 0, .int .i64 1], ⟨rfl, ⟨rfl, ⟨rfl, trivial⟩⟩⟩, ⟨(0, 0, 1), rfl, ⟨by first | exact hA.symm | (rw [hA, hte]), by first | exact hB.symm | (rw [hB, hte]), hC.symm⟩, hs.pick []⟩⟩
 ·
  replace c1 : (Hd.isDeal vn z q d) = true := c1
  have hdeal : Hd.isDeal vn z q d = true := by simpa using c1
  have hdp := Hd.isDeal_P hdeal
  have hdv := hdp.1.1
  have hdz := hdp.1.2.1
  have hdq := hdp.1.2.2
  have hln := Hd.isDeal_len hdeal
  have hcc := Hd.isDeal_cards hdeal
  have hbl := Hd.boards_len hdeal
  refine hSkip ?_
  refine qSeq rfl ?_
  refine hSeq ?_
  refine hSeq ?_
  refine hReg (sq 0 (sq 1 (sl 2 (sq 3 sz)))) (by kernel_rfl) ?_
  refine mvS rfl rfl rfl ?_
  refine mvI rfl rfl rfl ?_
  refine callP (v := .bool (decide (0 ≤ p ∧ p ≤ (nz : Int) - 1))) Try.call68 trv rfl rfl (fun w hs => spec_l16Player_c _ nz cz _ _ _ w (kz w hs) (by omega)) ?_
  refine notD rfl rfl rfl ?_
  refine rNil ?_
  refine qSeq rfl ?_
  refine hIfD rfl (fun c2 => ?_) (fun c2 => ?_)
  ·
   replace c2 : ¬ (0 ≤ p ∧ p ≤ (nz : Int) - 1) := c2
   have hC : Hd.wiC vn z q d p = 2 := by unfold Hd.wiC; rw [if_neg (by rw [hdeal]; decide), if_pos (by omega)]
   have hA : Hd.wiA vn z q d p = 0 := by unfold Hd.wiA; rw [hC]; rfl
   have hB : Hd.wiB vn z q d p = 0 := by unfold Hd.wiB; rw [hC]; rfl
   refine hSeq ?_
   refine hReg (sq 0 (sq 1 (sq 2 sz))) (by kernel_rfl) ?_
   refine asI rfl rfl rfl ?_
   refine asI rfl rfl rfl ?_
   refine asI rfl rfl rfl ?_
   refine rNil ?_
   refine qSeq rfl ?_
   refine hRet ?_
   exact fun w hs => ⟨[.int .i64 0, .int .i64 0, .int .i64 2], ⟨rfl, ⟨rfl, ⟨rfl, trivial⟩⟩⟩, ⟨(0, 0, 2), rfl, ⟨by first | exact hA.symm | (rw [hA, hte]), by first | exact hB.symm | (rw [hB, hte]), hC.symm⟩, hs.pick []⟩⟩
  ·
   replace c2 : ¬ (¬ (0 ≤ p ∧ p ≤ (nz : Int) - 1)) := c2
   have hC : Hd.wiC vn z q d p = 0 := by unfold Hd.wiC; rw [if_neg (by rw [hdeal]; decide), if_neg (by omega)]
   have hA : Hd.wiA vn z q d p = Hd.wholes vn p z (Hd.boards z q d) := by unfold Hd.wiA; rw [if_pos hC]
   have hB : Hd.wiB vn z q d p = Hd.somes vn p z (Hd.boards z q d) := by unfold Hd.wiB; rw [if_pos hC]
   refine hSkip ?_
   refine qSeq rfl ?_
   refine hSeq ?_
   refine hReg (sq 0 (sq 1 (sq 2 (sl 3 (sq 4 sz))))) (by kernel_rfl) ?_
   refine mvS rfl rfl rfl ?_
   refine mvS rfl rfl rfl ?_
   refine mvS rfl rfl rfl ?_
   refine callS Try.call104 trv1 rfl rfl (fun w hs => spec_l16Boards_c _ nz cz _ _ _ nq cq _ _ nd cd _ w (kz w hs) (kq w hs) (kd w hs) (by first | assumption | omega) (by omega) (by first | assumption | omega) (by omega)) ?_
   rintro ⟨ay1, ny1, cy1, Hy1, y1⟩ hr1
   dsimp only at hr1
   subst y1
   refine rPieces (L' := [OwnR maK 23 2 ay1 ny1 cy1 Hy1 (Hd.boards z q d)]) (fun _ h => h) ?_
   refine rKnow (fun w hs => (show OwnR maK 23 2 ay1 ny1 cy1 Hy1 (Hd.boards z q d) w from hs.at_ 0 rfl).1) (fun lenn1 => ?_)
   refine rKnow (fun w hs => OwnR.caps (show OwnR maK 23 2 ay1 ny1 cy1 Hy1 (Hd.boards z q d) w from hs.at_ 0 rfl)) (fun lcpn1 => ?_)
   refine rVal (v' := .slice ay1 ny1 cy1) rfl ?_
   refine asS rfl rfl rfl ?_
   refine rNil ?_
   refine qSeq rfl ?_
   refine hSeq ?_
   refine hReg (sq 0 (sq 1 sz)) (by kernel_rfl) ?_
   refine asI rfl rfl rfl ?_
   refine asI rfl rfl rfl ?_
   refine rNil ?_
   refine qSeq rfl ?_
   refine hSeq ?_
   refine hSeq ?_
   refine hReg (sq 0 sz) (by kernel_rfl) ?_
   refine asI rfl rfl rfl ?_
   refine rNil ?_
   refine qSeq rfl ?_
   refine hBlk ?_
   refine hLoop (α := Nat) (fun i => i ≤ (Hd.boards z q d).length) (fun i => (Hd.boards z q d).length - i) (fun i => [OwnR maK 23 2 ay1 ny1 cy1 Hy1 (Hd.boards z q d)]) (fun i => [(0, .int .i64 vn), (1, .slice az nz cz), (4, .int .i64 p), (13, .slice ay1 ny1 cy1), (14, .int .i64 ((Hd.wholes vn p z ((Hd.boards z q d).take i)))), (15, .int .i64 ((Hd.somes vn p z ((Hd.boards z q d).take i)))), (16, .int .i64 (i : Int))]) 0 (Nat.zero_le _) (fun _ h => h.pick [0]) (by repeat first | exact trivial | refine ⟨by first | rfl | exact vI (by rfl), ?_⟩) ?_
   rintro i τ1 hi
   refine hSeq ?_
   refine hSeq ?_
   refine hReg (sq 0 (sq 1 (sq 2 (sq 3 sz)))) (by kernel_rfl) ?_
   refine mvI rfl rfl rfl ?_
   refine mvS rfl rfl rfl ?_
   refine lenS Try.runUnderlying22 rfl rfl rfl ?_
   refine lss rfl rfl rfl rfl ?_
   refine rNil ?_
   refine qSeq rfl ?_
   refine hIfD rfl (fun c3 => ?_) (fun c3 => ?_)
   ·
    replace c3 : (i : Int) < (ny1 : Int) := c3
    have hib : i < (Hd.boards z q d).length := by omega
    have hbo := Hd.boards_ok hdeal (Cm.getD_mem' (d := []) hib)
    have hb5 := hbo.1
    have hbd := hbo.2
    have hppl := Hd.parts_len vn z ((Hd.boards z q d).getD i [])
    have hlci := lcpn1 i (by omega)
    have hst : (Hd.boards z q d).take (i + 1) = (Hd.boards z q d).take i ++ [((Hd.boards z q d).getD i [])] := by rw [List.take_succ_eq_append_getElem hib, List.getD_eq_getElem?_getD, List.getElem?_eq_getElem hib]; rfl
    have hst1 := Hd.wholes_snoc vn p z ((Hd.boards z q d).take i) ((Hd.boards z q d).getD i [])
    rw [← hst] at hst1
    have hst2 := Hd.somes_snoc vn p z ((Hd.boards z q d).take i) ((Hd.boards z q d).getD i [])
    rw [← hst] at hst2
    have hwb := Hd.wholes_bd vn p z ((Hd.boards z q d).take i)
    have hsb := Hd.somes_bd vn p z ((Hd.boards z q d).take i)
    have hpb := Hd.parts_bd vn z ((Hd.boards z q d).getD i []) p.toNat
    rw [List.length_take] at hwb hsb
    refine hSkip ?_
    refine qSeq rfl ?_
    refine hSeq ?_
    refine hBlk ?_
    refine hSeq ?_
    refine hReg (sq 0 (sq 1 (sq 2 (sq 3 (sq 4 (sl 5 (sl 6 (sq 7 (sq 8 (sl 9 (sq 10 sz))))))))))) (by kernel_rfl) ?_
    refine mvI rfl rfl rfl ?_
    refine mvS rfl rfl rfl ?_
    refine mvS rfl rfl rfl ?_
    refine mvI rfl rfl rfl ?_
    refine ixRl (zn := i) ((Hd.boards z q d).getD i []) el22 ((Kn.at_ 0 rfl).imp fun _ h => OwnR.rd h maK.ok) rfl rfl rfl rfl (by omega) (by omega) rfl (nth [] (by omega)) ?_
    intro be2 oe2 e2
    refine ldl Try.isAgg23 (Kn.fld e2 0 rfl) trv rfl rfl rfl ?_
    refine callS Try.call70 trv1 rfl rfl (fun w hs => spec_l16Parts_c _ _ nz cz _ _ _ (((Hd.boards z q d).getD i []).length) ((Hy1 i).2) _ w (Kn.drop (k := 1) kz w hs) ((Kn.imp ((Kn.at_ (φ := OwnR maK 23 2 ay1 ny1 cy1 Hy1 (Hd.boards z q d)) 0 rfl).imp fun _ h => OwnR.rd h maK.ok) fun _ h => h.kidM (nth [] (by omega))) w hs) (by omega) (by omega) (by omega) (by assumption) (by assumption) (by first | assumption | omega)) ?_
    rintro ⟨ay3, ny3, cy3, y3⟩ hr3
    dsimp only at hr3
    subst y3
    refine rPieces (L' := [OwnI 2 ay3 ny3 cy3 (((Hd.parts vn z (((Hd.boards z q d).getD i []))))), OwnR maK 23 2 ay1 ny1 cy1 Hy1 (Hd.boards z q d)]) (fun _ h => h) ?_
    refine rKnow (fun w hs => (show OwnI 2 ay3 ny3 cy3 (((Hd.parts vn z (((Hd.boards z q d).getD i []))))) w from hs.at_ 0 rfl).lenz) (fun lenn2 => ?_)
    refine rKnow (fun w hs => (show OwnI 2 ay3 ny3 cy3 (((Hd.parts vn z (((Hd.boards z q d).getD i []))))) w from hs.at_ 0 rfl).capz) (fun lcpn2 => ?_)
    refine rVal (v' := .slice ay3 ny3 cy3) rfl ?_
    refine mvI rfl rfl rfl ?_
    refine ixIl (zn := (p).toNat) el23 ((Kn.at_ 0 rfl).imp fun _ h => OwnI.rd h) rfl rfl rfl rfl (by omega) (by omega) rfl ?_
    intro ae4 e4
    refine ldl Try.isAgg2 (e4) trv rfl rfl rfl ?_
    refine asI rfl rfl rfl ?_
    refine rNil ?_
    refine qSeq rfl ?_
    refine hBlk ?_
    refine hSeq ?_
    refine hReg (sq 0 (sq 1 (sq 2 sz))) (by kernel_rfl) ?_
    refine mvI rfl rfl rfl ?_
    refine eql rfl rfl rfl rfl ?_
    refine asB rfl rfl rfl ?_
    refine rNil ?_
    refine qSeq rfl ?_
    refine hIfD rfl (fun c4 => ?_) (fun c4 => ?_)
    ·
     replace c4 : ((((Hd.parts vn z (((Hd.boards z q d).getD i []))))).getD ((p).toNat) 0) = 24 := c4
     refine hReg (sq 0 (sq 1 (sq 2 sz))) (by kernel_rfl) ?_
     refine mvI rfl rfl rfl ?_
     refine add rfl rfl rfl rfl (by omega) ?_
     refine asI rfl rfl rfl ?_
     refine rNil ?_
     refine qSeq rfl ?_
     refine hReg (sq 0 (sq 1 (sq 2 sz))) (by kernel_rfl) ?_
     refine mvI rfl rfl rfl ?_
     refine add rfl rfl rfl rfl (by omega) ?_
     refine asI rfl rfl rfl ?_
     refine rNil ?_
     exact qNext rfl (i + 1) (by omega) (by omega) ((by repeat first | exact trivial | refine ⟨by first | rfl | exact vI (by first | (rw [hst1]; first | rw [if_pos (by omega)] | (rw [if_neg (by omega)]; omega)) | (rw [hst2]; first | rw [if_pos (by omega)] | (rw [if_neg (by omega)]; omega))), ?_⟩)) (fun _ h => h.pick [1])
    ·
     replace c4 : ¬ (((((Hd.parts vn z (((Hd.boards z q d).getD i []))))).getD ((p).toNat) 0) = 24) := c4
     refine hSeq ?_
     refine hReg (sq 0 (sq 1 (sq 2 sz))) (by kernel_rfl) ?_
     refine mvI rfl rfl rfl ?_
     refine gtr rfl rfl rfl rfl ?_
     refine asB rfl rfl rfl ?_
     refine rNil ?_
     refine qSeq rfl ?_
     refine hIfD rfl (fun c5 => ?_) (fun c5 => ?_)
     ·
      replace c5 : 0 < ((((Hd.parts vn z (((Hd.boards z q d).getD i []))))).getD ((p).toNat) 0) := c5
      refine hReg (sq 0 (sq 1 (sq 2 sz))) (by kernel_rfl) ?_
      refine mvI rfl rfl rfl ?_
      refine add rfl rfl rfl rfl (by omega) ?_
      refine asI rfl rfl rfl ?_
      refine rNil ?_
      refine qSeq rfl ?_
      refine hReg (sq 0 (sq 1 (sq 2 sz))) (by kernel_rfl) ?_
      refine mvI rfl rfl rfl ?_
      refine add rfl rfl rfl rfl (by omega) ?_
      refine asI rfl rfl rfl ?_
      refine rNil ?_
      exact qNext rfl (i + 1) (by omega) (by omega) ((by repeat first | exact trivial | refine ⟨by first | rfl | exact vI (by first | (rw [hst1]; first | rw [if_pos (by omega)] | (rw [if_neg (by omega)]; omega)) | (rw [hst2]; first | rw [if_pos (by omega)] | (rw [if_neg (by omega)]; omega))), ?_⟩)) (fun _ h => h.pick [1])
     ·
      replace c5 : ¬ (0 < ((((Hd.parts vn z (((Hd.boards z q d).getD i []))))).getD ((p).toNat) 0)) := c5
      refine hSkip ?_
      refine qSeq rfl ?_
      refine hReg (sq 0 (sq 1 (sq 2 sz))) (by kernel_rfl) ?_
      refine mvI rfl rfl rfl ?_
      refine add rfl rfl rfl rfl (by omega) ?_
      refine asI rfl rfl rfl ?_
      refine rNil ?_
      exact qNext rfl (i + 1) (by omega) (by omega) ((by repeat first | exact trivial | refine ⟨by first | rfl | exact vI (by first | (rw [hst1]; first | rw [if_pos (by omega)] | (rw [if_neg (by omega)]; omega)) | (rw [hst2]; first | rw [if_pos (by omega)] | (rw [if_neg (by omega)]; omega))), ?_⟩)) (fun _ h => h.pick [1])
   ·
    replace c3 : ¬ ((i : Int) < (ny1 : Int)) := c3
    have hte : (Hd.boards z q d).take i = (Hd.boards z q d) := List.take_of_length_le (by omega)
    refine hExit rfl ?_
    refine qSeq rfl ?_
    refine hSeq ?_
    refine hReg (sq 0 (sq 1 (sq 2 (sq 3 (sq 4 sz))))) (by kernel_rfl) ?_
    refine mvI rfl rfl rfl ?_
    refine mvI rfl rfl rfl ?_
    refine asI rfl rfl rfl ?_
    refine asI rfl rfl rfl ?_
    refine asI rfl rfl rfl ?_
    refine rNil ?_
    refine qSeq rfl ?_
    refine hRet ?_
    exact fun w hs => ⟨[.int .i64 ((Hd.wholes vn p z ((Hd.boards z q d).take i))), .int .i64 ((Hd.somes vn p z ((Hd.boards z q d).take i))), .int .i64 0], ⟨rfl, ⟨rfl, ⟨rfl, trivial⟩⟩⟩, ⟨((Hd.wholes vn p z ((Hd.boards z q d).take i)), (Hd.somes vn p z ((Hd.boards z q d).take i)), 0), rfl, ⟨by first | exact hA.symm | (rw [hA, hte]), by first | exact hB.symm | (rw [hB, hte]), hC.symm⟩, hs.pick []⟩⟩
end Go.Proofs.Yteaahdakammffaa
/- Arguments of laws, opened. No condition. -/
namespace Go.Proofs.Yteaahdakammffaa
open Go Go.RowKit V Go.ChangeShapes Go.WideShapes Go.ChangeAt
set_option linter.unusedVariables false
set_option linter.unusedSimpArgs false
set_option maxRecDepth 100000
theorem inT2 {H : Type} {enc : TypeId × Value → H} {W : World} {fuel : Nat} {cs : List Value} {x : DataW H × List MemPlace} (h : trd enc Try.prog W fuel 2 cs = some x) : ∃ n, cs = [.int .i64 n] := in_int Try.underlying2 h
theorem cells23 : Try.prog.cellsOf 23 = 1 := by kernel_rfl
theorem cells2 : Try.prog.cellsOf 2 = 1 := by kernel_rfl
theorem inT22 {H : Type} {enc : TypeId × Value → H} {W : World} {fuel : Nat} {cs : List Value} {x : DataW H × List MemPlace} (h : trd enc Try.prog W fuel 22 cs = some x) : ∃ a n c hs xs, cs = [.slice a n c] ∧ RdR maK a n hs xs W := in_rows (k := maK) cells23.symm Try.underlying22 h (in_row Try.underlying23 Try.underlying2 cells2) (by decide) (fun _ _ => rfl)
theorem inT23 {H : Type} {enc : TypeId × Value → H} {W : World} {fuel : Nat} {cs : List Value} {x : DataW H × List MemPlace} (h : trd enc Try.prog W fuel 23 cs = some x) : ∃ a n c zs, cs = [.slice a n c] ∧ RdI a n zs W := in_ints Try.underlying23 Try.underlying2 cells2 h
end Go.Proofs.Yteaahdakammffaa
