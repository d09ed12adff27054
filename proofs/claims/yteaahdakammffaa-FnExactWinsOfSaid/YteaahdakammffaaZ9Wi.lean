/- Contracts of boards. Their conditions stand in each. -/
import Derived.Test.YteaahdakammffaaZ8Wi
import Derived.Test.YteaahdakammffaaZ1Wi
import Derived.Test.YteaahdakammffaaZ2Wi
import Derived.Test.YteaahdakammffaaZ3Wi
import Derived.Test.YteaahdakammffaaZ4Wi
import Derived.Test.YteaahdakammffaaZ5Wi
import Derived.Test.YteaahdakammffaaZ7Wi
import Derived.Test.YteaahdakammffaaRows
import Derived.Test.YteaahdakammffaaZ0Wi
namespace Go.Proofs.Yteaahdakammffaa
open Go Go.RowKit V
set_option linter.unusedVariables false
set_option linter.unusedSimpArgs false
set_option maxRecDepth 100000
theorem impl_boardsOf_c (az : Option Addr) (nz : Nat) (cz : Nat) (Hz : Nat → Hd) (z : List (List Int)) (aq : Option Addr) (nq : Nat) (cq : Nat) (q : List Int) (ad : Option Addr) (nd : Nat) (cd : Nat) (d : List Int) (w : World) (rz : RdR maK az nz Hz z w) (rq : RdI aq nq q w) (rd : RdI ad nd d w) :
  Calls Try.prog 66 #[.slice az nz cz, .slice aq nq cq, .slice ad nd cd] w (Ret fun v w' => ∃ x : Nat × Nat × Nat, v = .func (.func 110) #[] #[.pointer (some ⟨x.1, 0, none⟩), .pointer (some ⟨x.2.1, 0, none⟩), .pointer (some ⟨x.2.2, 0, none⟩)] ∧ True ∧ Sep w none_ [blk x.1 22 [.slice az nz cz], blk x.2.1 23 [.slice aq nq cq], blk x.2.2 23 [.slice ad nd cd]] w') := by
 have kz : Kn w none_ [] (RdR maK az nz Hz z) := fun w' hs => rz.ext hs.upd
 have lz : z.length = nz := rz.1
 have mz : nz ≤ 9223372036854775807 := rz.2.1
 have kq : Kn w none_ [] (RdI aq nq q) := fun w' hs => rq.ext hs.upd
 have lq : q.length = nq := rq.1
 have mq : nq ≤ 9223372036854775807 := rq.2.1
 have kd : Kn w none_ [] (RdI ad nd d) := fun w' hs => rd.ext hs.upd
 have ld : d.length = nd := rd.1
 have md : nd ≤ 9223372036854775807 := rd.2.1
 refine fn (M := none_) (rs := [.tmp 6]) Try.func66 rfl Try.ntmps66 rfl rfl (Sep.start _ _) ?_
 refine hSeq ?_
 refine hReg (sl 0 (sl 1 (sl 2 (sq 3 sz)))) (by kernel_rfl) ?_
 refine box trv1 rfl rfl rfl rfl (fun bkb1 hbkb1 => ?_)
 refine box trv1 rfl rfl rfl rfl (fun bkb2 hbkb2 => ?_)
 refine box trv1 rfl rfl rfl rfl (fun bkb3 hbkb3 => ?_)
 refine asn rfl rfl rfl ?_
 refine rNil ?_
 refine qSeq rfl ?_
 refine hSeq ?_
 refine hReg (sq 0 (sq 1 sz)) (by kernel_rfl) ?_
 refine mkFn (vs := #[.pointer (some ⟨bkb1, 0, none⟩), .pointer (some ⟨bkb2, 0, none⟩), .pointer (some ⟨bkb3, 0, none⟩)]) rfl rfl rfl ?_
 refine asn rfl rfl rfl ?_
 refine rNil ?_
 refine qSeq rfl ?_
 refine hRet ?_
 exact fun w hs => ⟨[.func (.func 110) #[] #[.pointer (some ⟨bkb1, 0, none⟩), .pointer (some ⟨bkb2, 0, none⟩), .pointer (some ⟨bkb3, 0, none⟩)]], ⟨rfl, trivial⟩, ⟨(bkb1, bkb2, bkb3), rfl, trivial, hs.pick [2, 1, 0]⟩⟩
theorem impl_boardsOf_1_it (bz : Nat) (az : Option Addr) (nz : Nat) (cz : Nat) (Hz : Nat → Hd) (z : List (List Int)) (bq : Nat) (aq : Option Addr) (nq : Nat) (cq : Nat) (q : List Int) (bd : Nat) (ad : Option Addr) (nd : Nat) (cd : Nat) (d : List Int) (w : World) (M : Nat → Prop) (kbz : Kn w M [] (RdB bz [.slice az nz cz])) (kz : Kn w M [] (RdR maK az nz Hz z)) (kbq : Kn w M [] (RdB bq [.slice aq nq cq])) (kq : Kn w M [] (RdI aq nq q)) (kbd : Kn w M [] (RdB bd [.slice ad nd cd])) (kd : Kn w M [] (RdI ad nd d)) (hf : z.flatten.length ≤ 1000) (hq3 : 3 ≤ q.length ∧ q.length ≤ 5) (hdl : d.length ≤ 1000) (hc : ∀ x ∈ [z.flatten, q, d].flatten, 0 ≤ x ∧ x ≤ 51) :
  IterC Try.prog 110 #[.pointer (some ⟨bz, 0, none⟩), .pointer (some ⟨bq, 0, none⟩), .pointer (some ⟨bd, 0, none⟩)] (Hd.boards z q d) w M := by
 intro l γ J Jx ok okx g0 hY h0 hs
 have lz : z.length = nz := (kz _ (Sep.pick [] hs)).1
 have mz : nz ≤ 9223372036854775807 := (kz _ (Sep.pick [] hs)).2.1
 have lq : q.length = nq := (kq _ (Sep.pick [] hs)).1
 have mq : nq ≤ 9223372036854775807 := (kq _ (Sep.pick [] hs)).2.1
 have ld : d.length = nd := (kd _ (Sep.pick [] hs)).1
 have md : nd ≤ 9223372036854775807 := (kd _ (Sep.pick [] hs)).2.1
 have hrl := Hd.restL_len z q d
 show Calls Try.prog 110 #[.func (.yield l) #[] #[], .pointer (some ⟨bz, 0, none⟩), .pointer (some ⟨bq, 0, none⟩), .pointer (some ⟨bd, 0, none⟩)] w _
 refine fn (M := M) (rs := []) Try.func110 rfl Try.ntmps110 rfl rfl hs ?_
 refine hSeq ?_
 refine hReg (sl 0 sz) (by kernel_rfl) ?_
 refine box trv1 rfl rfl rfl rfl (fun bkb1 hbkb1 => ?_)
 refine rNil ?_
 refine qSeq rfl ?_
 refine hSeq ?_
 refine hReg (sl 0 (sl 1 (sl 2 (sl 3 (sl 4 (sl 5 sz)))))) (by kernel_rfl) ?_
 refine ldl Try.isAgg22 (cD (Kn.nil kbz) rfl) trv rfl rfl rfl ?_
 refine ldl Try.isAgg23 (cD (Kn.nil kbq) rfl) trv rfl rfl rfl ?_
 refine ldl Try.isAgg23 (cD (Kn.nil kbd) rfl) trv rfl rfl rfl ?_
 refine callS Try.call111 trv1 rfl rfl (fun w hs => impl_restOf_c _ nz cz _ _ _ nq cq _ _ nd cd _ w (Kn.nil kz w hs) (Kn.nil kq w hs) (Kn.nil kd w hs) (by first | assumption | omega) (by omega) (by first | assumption | omega) (by assumption)) ?_
 rintro ⟨ay1, ny1, cy1, y1⟩ hr1
 dsimp only at hr1
 subst y1
 refine rPieces (L' := (OwnI 2 ay1 ny1 cy1 (Hd.restL z q d) :: blk bkb1 79 [.func (.yield l) #[] #[]] :: J g0)) (fun _ h => h) ?_
 refine rKnow (fun w hs => (show OwnI 2 ay1 ny1 cy1 (Hd.restL z q d) w from hs.at_ 0 rfl).lenz) (fun lenn2 => ?_)
 refine rVal (v' := .slice ay1 ny1 cy1) rfl ?_
 refine alc Try.zeroValue23 rfl trv1 rfl rfl (fun bka3 hbka3 => ?_)
 refine stl (v := .slice _ _ _) 0 rfl Try.sizeOf23 trv rfl rfl rfl rfl rfl (Nat.le_of_ble_eq_true rfl) ?_
 refine rNil ?_
 refine qSeq rfl ?_
 refine hSeq ?_
 refine hReg (sl 0 (sl 1 (sl 2 sz))) (by kernel_rfl) ?_
 refine mksI 5 mk23 trv1 rfl rfl rfl rfl (rfl) (by omega) (fun bkm4 hbkm4 => ?_)
 refine alc Try.zeroValue23 rfl trv1 rfl rfl (fun bka5 hbka5 => ?_)
 refine stl (v := .slice _ _ _) 0 rfl Try.sizeOf23 trv rfl rfl rfl rfl rfl (Nat.le_of_ble_eq_true rfl) ?_
 refine rNil ?_
 refine qSeq rfl ?_
 refine hSeq ?_
 refine hReg (sl 0 (sl 1 (sl 2 sz))) (by kernel_rfl) ?_
 refine ldl Try.isAgg23 (cB 0 rfl rfl) trv rfl rfl rfl ?_
 refine ldl Try.isAgg23 (cD (Kn.nil kbq) rfl) trv rfl rfl rfl ?_
 refine cpyI (ys := q) 1 rfl rfl ((Kn.nil kq)) mk23 (by omega) (by omega) trv rfl rfl rfl rfl ?_
 refine rNil ?_
 refine qSeq rfl ?_
 refine hSeq ?_
 refine hReg (sl 0 (sq 1 (sl 2 (sq 3 (sq 4 (sl 5 sz)))))) (by kernel_rfl) ?_
 refine ldl Try.isAgg23 (cB 2 rfl rfl) trv rfl rfl rfl ?_
 refine lenS Try.runUnderlying23 rfl rfl rfl ?_
 refine ldl Try.isAgg23 (cD (Kn.nil kbq) rfl) trv rfl rfl rfl ?_
 refine lenS Try.runUnderlying23 rfl rfl rfl ?_
 refine sub rfl rfl rfl rfl (by omega) ?_
 refine callS Try.call112 trv1 rfl rfl (fun w hs => impl_choices_c _ _ w ) ?_
 rintro ⟨bk2, bn2⟩ hr2
 refine rPieces (L' := (blk bk2 3 [.int .i64 (((5 - (nq : Int))))] :: blk bn2 3 [.int .i64 (ny1 : Int)] :: blk bka5 23 [.slice (some ⟨bkm4, 0, none⟩) 5 5] :: OwnI 2 (some ⟨bkm4, 0, none⟩) 5 5 ((q ++ List.drop nq (List.replicate 5 0))) :: blk bka3 23 [.slice ay1 ny1 cy1] :: OwnI 2 ay1 ny1 cy1 (Hd.restL z q d) :: blk bkb1 79 [.func (.yield l) #[] #[]] :: J g0)) (fun _ h => h) ?_
 refine rVal (v' := .func (.func 137) #[] #[.pointer (some ⟨bk2, 0, none⟩), .pointer (some ⟨bn2, 0, none⟩)]) rfl ?_
 refine rNil ?_
 refine qSeq rfl ?_
 refine hBlk ?_
 refine hRange (γ := List Int × γ) (gf := 137) ((Cm.combs ny1 (((5 - (nq : Int)))).toNat)) (fun x => (OwnI 2 (some ⟨bkm4, 0, none⟩) 5 5 x.1 :: J x.2)) (fun x => (OwnI 2 (some ⟨bkm4, 0, none⟩) 5 5 x.1 :: Jx x.2)) (fun pre x => (x.1.take nq = q ∧ x.1.length = 5) ∧ ok (pre.map (Hd.bd z q d)) x.2) (fun pre x => ∃ pr, pr <+: Hd.boards z q d ∧ okx pr x.2) (((q ++ List.drop nq (List.replicate 5 0)), g0)) [blk bk2 3 [.int .i64 (((5 - (nq : Int))))], blk bn2 3 [.int .i64 (ny1 : Int)], blk bka5 23 [.slice (some ⟨bkm4, 0, none⟩) 5 5], blk bka3 23 [.slice ay1 ny1 cy1], OwnI 2 ay1 ny1 cy1 (Hd.restL z q d), blk bkb1 79 [.func (.yield l) #[] #[]]] (by decide) rfl Try.call137 (fun _ h => h.pickT 7 [0, 0, 0, 1, 1, 1, 0]) (⟨⟨Hd.take_app lq, by simp; omega⟩, h0⟩) (fun w M1 hk => impl_choices_1_it bk2 (((5 - (nq : Int)))) bn2 (ny1 : Int) w M1 (hk _ ((Kn.at_ 0 rfl).imp fun _ h => RdB.of h)) (hk _ ((Kn.at_ 1 rfl).imp fun _ h => RdB.of h)) (by omega) (by omega)) ?_ ?_ ?_
 ·
  rintro l1 rc1 hrc1 pre1 xs1 ⟨f, g⟩ ax1 nx1 cx1 wR1 MR1 ⟨⟨hf1, hf2⟩, hok1⟩ hpre1 hk1 hrd1
  dsimp only at hf1 hf2 hok1
  have f1 := hk1 _ (Kn.nil kbz)
  have f2 := hk1 _ (Kn.nil kz)
  have f3 := hk1 _ (Kn.nil kbq)
  have f4 := hk1 _ (Kn.nil kq)
  have f5 := hk1 _ (Kn.nil kbd)
  have f6 := hk1 _ (Kn.nil kd)
  have f7 := hk1 _ ((Kn.at_ 5 rfl).imp fun _ h => RdB.of (bk := bkb1) (e := 79) (cs := [.func (.yield l) #[] #[]]) h)
  have f8 := hk1 _ ((Kn.at_ (φ := OwnI 2 ay1 ny1 cy1 (Hd.restL z q d)) 4 rfl).imp fun _ h => OwnI.rd h)
  have f9 := hk1 _ ((Kn.at_ 3 rfl).imp fun _ h => RdB.of (bk := bka3) (e := 23) (cs := [.slice ay1 ny1 cy1]) h)
  have f10 := hk1 _ ((Kn.at_ 2 rfl).imp fun _ h => RdB.of (bk := bka5) (e := 23) (cs := [.slice (some ⟨bkm4, 0, none⟩) 5 5]) h)
  have f11 := hk1 _ ((Kn.at_ 0 rfl).imp fun _ h => RdB.of (bk := bk2) (e := 3) (cs := [.int .i64 (((5 - (nq : Int))))]) h)
  have f12 := hk1 _ ((Kn.at_ 1 rfl).imp fun _ h => RdB.of (bk := bn2) (e := 3) (cs := [.int .i64 (ny1 : Int)]) h)
  refine hKnow (fun w hs => (Kn.nil hrd1 w hs).1) (fun lxs1 => ?_)
  have hcu := Hd.combs_up (Hd.pre_mem hpre1)
  have hxl := hcu.2.2
  have hsl := Hd.sel_len (Hd.restL z q d) xs1
  refine hReg (sq 0 sz) (by kernel_rfl) ?_
  refine asS rfl rfl rfl ?_
  refine rNil ?_
  refine qAsn rfl hrc1 rfl ?_
  refine hBlk ?_
  refine hSeq ?_
  refine hSeq ?_
  refine hReg (sq 0 (sq 1 (sq 2 sz))) (by kernel_rfl) ?_
  refine mvS rfl rfl rfl ?_
  refine lenS Try.runUnderlying117 rfl rfl rfl ?_
  refine mvI rfl rfl rfl ?_
  refine rNil ?_
  refine qSeq rfl ?_
  refine hBlk ?_
  refine hLoop (α := Nat) (fun i => i ≤ nx1) (fun i => nx1 - i) (fun i => (ob l1 (rc1 .busy none) :: OwnI 2 (some ⟨bkm4, 0, none⟩) 5 5 ((q ++ (Hd.sel (Hd.restL z q d) xs1).take i ++ f.drop (nq + i))) :: J g)) (fun i => [(2, .pointer (some ⟨bq, 0, none⟩)), (4, .pointer (some ⟨bkb1, 0, none⟩)), (5, .pointer (some ⟨bka3, 0, none⟩)), (6, .pointer (some ⟨bka5, 0, none⟩)), (25, .slice ax1 nx1 cx1), (26, .int .i64 (nx1 : Int)), (27, .int .i64 (i : Int))]) 0 (Nat.zero_le _) (fun _ h => by rw [← Hd.five_start hf1]; exact h.pickT 2 [0, 0]) ⟨rfl, rfl, rfl, rfl, rfl, rfl, rfl, trivial⟩ ?_
  rintro i τ1 hi
  refine hSeq ?_
  refine hReg (sq 0 sz) (by kernel_rfl) ?_
  refine lss rfl rfl rfl rfl ?_
  refine rNil ?_
  refine qSeq rfl ?_
  refine hSeq ?_
  refine hIfD rfl (fun c1 => ?_) (fun c1 => ?_)
  ·
   replace c1 : (i : Int) < (nx1 : Int) := c1
   have hxi := hcu.2.1 _ (Hd.gd_mem (show i < xs1.length by omega))
   have hfl : (q ++ (Hd.sel (Hd.restL z q d) xs1).take i ++ f.drop (nq + i)).length = 5 := by rw [List.length_append, List.length_append, List.length_take, List.length_drop]; omega
   refine hSkip ?_
   refine qSeq rfl ?_
   refine hSeq ?_
   refine hBlk ?_
   refine hSeq ?_
   refine hReg (sq 0 (sq 1 (sl 2 (sq 3 (sq 4 sz))))) (by kernel_rfl) ?_
   refine mvI rfl rfl rfl ?_
   refine ixIl (zn := i) el117 ((Kn.nil hrd1)) rfl rfl rfl rfl (by omega) (by omega) rfl ?_
   intro ae3 e3
   refine ldl Try.isAgg3 (e3) trv rfl rfl rfl ?_
   refine asI rfl rfl rfl ?_
   refine asI rfl rfl rfl ?_
   refine rNil ?_
   refine qSeq rfl ?_
   refine hDraw (Ls := []) (by kernel_rfl) (sq 0 (sq 1 (sq 2 (sq 3 (sq 4 (sq 5 (sq 6 (sq 7 (sq 8 (sq 9 (sf 10 sz))))))))))) (by kernel_rfl) (.cons _ (.cons _ (List.nil_sublist _))) ?_
   refine ldq Try.isAgg23 (cD (f10) rfl) rfl rfl rfl ?_
   refine ldq Try.isAgg23 (cD (f3) rfl) rfl rfl rfl ?_
   refine lenS Try.runUnderlying23 rfl rfl rfl ?_
   refine mvI rfl rfl rfl ?_
   refine add rfl rfl rfl rfl (by omega) ?_
   refine ldq Try.isAgg23 (cD (f9) rfl) rfl rfl rfl ?_
   refine mvI rfl rfl rfl ?_
   refine ixIq (zn := ((xs1.getD i 0)).toNat) el23 (f8) (fun _ h => h.pick []) rfl rfl rfl rfl (by omega) (by omega) rfl ?_
   intro ae4 e4
   refine ldq Try.isAgg2 (e4) rfl rfl rfl ?_
   refine oxI (zn := (nq + i)) 1 rfl el23 rfl rfl rfl rfl (by omega) (by omega) rfl ?_
   intro gk5 hgk5
   refine stoIF (off := (nq + i)) (x := ((Hd.restL z q d).getD (((xs1.getD i 0)).toNat) 0)) 1 rfl hgk5 Try.sizeOf2 rfl rfl rfl rfl (by omega) ?_
   refine rNil ?_
   refine qSeq rfl ?_
   refine hReg (sq 0 (sq 1 sz)) (by kernel_rfl) ?_
   refine add rfl rfl rfl rfl (by omega) ?_
   refine mvI rfl rfl rfl ?_
   refine rNil ?_
   rw [Hd.five_step (s := Hd.sel (Hd.restL z q d) xs1) lq (by omega) (by omega) (Hd.sel_get (by omega))]
   exact qNext rfl (i + 1) (by omega) (by omega) ⟨rfl, rfl, rfl, rfl, rfl, rfl, rfl, trivial⟩ (fun _ h => h.pickT 2 [0, 0])
  ·
   replace c1 : ¬ ((i : Int) < (nx1 : Int)) := c1
   rw [Hd.five_end (show (Hd.sel (Hd.restL z q d) xs1).length ≤ i by omega) (by omega)]
   refine hExit rfl ?_
   refine qSeq rfl ?_
   refine hSeq ?_
   refine hReg (sl 0 (sl 1 (sl 2 (sq 3 sz)))) (by kernel_rfl) ?_
   refine ldl Try.isAgg79 (cD (Kn.nil f7) rfl) trv rfl rfl rfl ?_
   refine ldl Try.isAgg23 (cD (Kn.nil f10) rfl) trv rfl rfl rfl ?_
   refine callYY hY [ob l1 (rc1 .busy none), OwnI 2 (some ⟨bkm4, 0, none⟩) 5 5 ((q ++ Hd.sel (Hd.restL z q d) xs1))] rfl hok1 (Hd.boards_pre hpre1 (by omega) (by omega)) (fun φ hφ => Kn.nil (hk1 _ (Kn.nil hφ))) ((Kn.at_ 1 rfl).imp fun _ h => OwnI.rd h) trv1 rfl rfl rfl rfl (fun g2 hy => ?_) (fun g2 hy => ?_)
   ·
    refine not rfl rfl rfl ?_
    refine rNil ?_
    refine qSeq rfl ?_
    refine hIfF rfl ?_
    refine hSkip ?_
    exact qRnd rfl hrc1 ((q ++ Hd.sel (Hd.restL z q d) xs1, g2)) (⟨⟨Hd.take_app lq, by dsimp only; rw [List.length_append]; omega⟩, by rw [List.map_append]; exact hy⟩) (fun _ h => h.pickT 2 [0, 0])
   ·
    refine not rfl rfl rfl ?_
    refine rNil ?_
    refine qSeq rfl ?_
    refine hIfT rfl ?_
    exact hRndR2 (fun _ h => h) hrc1 ((q ++ Hd.sel (Hd.restL z q d) xs1, g2)) (by exact ⟨_, Hd.boards_pre hpre1 (by omega) (by omega), hy⟩) (fun _ h => h.pickT 2 [0, 0])
 ·
  rintro D1 ⟨f, g⟩ hend1
  dsimp only at hend1
  refine qRet rfl ?_
  exact Kn.leave 0 rfl <| fun w hs => ⟨[], trivial, .inl ⟨g, Hd.boards_done hend1.2 (by omega) (by omega), hs.pickT 7 []⟩⟩
 ·
  rintro D1 pre ⟨f, g⟩ hpre hstop
  dsimp only at hstop
  exact Kn.leave 0 rfl <| fun w hs => ⟨[], trivial, .inr ⟨_, g, hstop.choose_spec.1, hstop.choose_spec.2, hs.pickT 7 []⟩⟩
end Go.Proofs.Yteaahdakammffaa
/- Contracts of sums. Their conditions stand in each. -/
namespace Go.Proofs.Yteaahdakammffaa
open Go Go.RowKit V
set_option linter.unusedVariables false
set_option linter.unusedSimpArgs false
set_option maxRecDepth 100000
end Go.Proofs.Yteaahdakammffaa
/- Contracts of leaders and parts. Their conditions stand in each. -/
namespace Go.Proofs.Yteaahdakammffaa
open Go Go.RowKit V
set_option linter.unusedVariables false
set_option linter.unusedSimpArgs false
set_option maxRecDepth 100000
end Go.Proofs.Yteaahdakammffaa
/- Contracts of wins and outs. Their conditions stand in each. -/
namespace Go.Proofs.Yteaahdakammffaa
open Go Go.RowKit V
set_option linter.unusedVariables false
set_option linter.unusedSimpArgs false
set_option maxRecDepth 100000
theorem impl_WinsOf_c (vn : Int) (az : Option Addr) (nz : Nat) (cz : Nat) (Hz : Nat → Hd) (z : List (List Int)) (aq : Option Addr) (nq : Nat) (cq : Nat) (q : List Int) (ad : Option Addr) (nd : Nat) (cd : Nat) (d : List Int) (p : Int) (w : World) (rz : RdR maK az nz Hz z w) (rq : RdI aq nq q w) (rd : RdI ad nd d w) (hql : q.length ≤ 1048576) (hdl : d.length ≤ 1048576) (hzf : z.flatten.length ≤ 1048576) (hzl : z.length ≤ 1048576) :
  Calls Try.prog 28 #[.int .i64 vn, .slice az nz cz, .slice aq nq cq, .slice ad nd cd, .int .i64 p] w (Ret fun v w' => ∃ x : Int × Int × Int, v = .tuple #[.int .i64 x.1, .int .i64 x.2.1, .int .i64 x.2.2] ∧ (x.1 = Hd.wiA vn z q d p ∧ x.2.1 = Hd.wiB vn z q d p ∧ x.2.2 = Hd.wiC vn z q d p) ∧ Sep w none_ [] w') := by
 have kz : Kn w none_ [] (RdR maK az nz Hz z) := fun w' hs => rz.ext hs.upd
 have lz : z.length = nz := rz.1
 have mz : nz ≤ 9223372036854775807 := rz.2.1
 have kq : Kn w none_ [] (RdI aq nq q) := fun w' hs => rq.ext hs.upd
 have lq : q.length = nq := rq.1
 have mq : nq ≤ 9223372036854775807 := rq.2.1
 have kd : Kn w none_ [] (RdI ad nd d) := fun w' hs => rd.ext hs.upd
 have ld : d.length = nd := rd.1
 have md : nd ≤ 9223372036854775807 := rd.2.1
 refine fn (M := none_) (rs := [.tmp 10, .tmp 11, .tmp 12]) Try.func28 rfl Try.ntmps28 rfl rfl (Sep.start _ _) ?_
 refine hSeq ?_
 refine hReg (sl 0 (sl 1 (sl 2 (sq 3 (sq 4 (sq 5 sz)))))) (by kernel_rfl) ?_
 refine box trv1 rfl rfl rfl rfl (fun bkb1 hbkb1 => ?_)
 refine box trv1 rfl rfl rfl rfl (fun bkb2 hbkb2 => ?_)
 refine box trv1 rfl rfl rfl rfl (fun bkb3 hbkb3 => ?_)
 refine asI rfl rfl rfl ?_
 refine asI rfl rfl rfl ?_
 refine asI rfl rfl rfl ?_
 refine rNil ?_
 refine qSeq rfl ?_
 refine hSeq ?_
 refine hSeq ?_
 refine hReg (sl 0 (sl 1 (sq 2 (sq 3 (sl 4 (sq 5 sz)))))) (by kernel_rfl) ?_
 refine ldl Try.isAgg2 (cB 2 rfl rfl) trv rfl rfl rfl ?_
 refine ldl Try.isAgg22 (cB 1 rfl rfl) trv rfl rfl rfl ?_
 refine mvS rfl rfl rfl ?_
 refine mvS rfl rfl rfl ?_
 refine callP (v := .bool (Hd.isDeal vn z q d)) Try.call60 trv rfl rfl (fun w hs => impl_IsDeal_c _ _ nz cz _ _ _ nq cq _ _ nd cd _ w (Kn.drop (k := 3) kz w hs) (Kn.drop (k := 3) kq w hs) (Kn.drop (k := 3) kd w hs) (by omega) (by first | omega | (simp only [List.length_nil]; omega)) (by omega)) ?_
 refine not rfl rfl rfl ?_
 refine rNil ?_
 refine qSeq rfl ?_
 refine hIfN rfl (fun c1 => ?_) (fun c1 => ?_)
 ·
  replace c1 : (Hd.isDeal vn z q d) = false := c1
  have hdeal : Hd.isDeal vn z q d = false := by simpa using c1
  have hC : Hd.wiC vn z q d p = 1 := by unfold Hd.wiC; rw [if_pos hdeal]
  have hA : Hd.wiA vn z q d p = 0 := by unfold Hd.wiA; rw [hC]; rfl
  have hB : Hd.wiB vn z q d p = 0 := by unfold Hd.wiB; rw [hC]; rfl
  refine hSeq ?_
  refine hReg (sq 0 (sq 1 (sq 2 sz))) (by kernel_rfl) ?_
  refine asI rfl rfl rfl ?_
  refine asI rfl rfl rfl ?_
  refine asI rfl rfl rfl ?_
  refine rNil ?_
  refine qSeq rfl ?_
  refine hRet ?_
  exact fun w hs => ⟨[.int .i64 0, .int .i64 0, .int .i64 1], ⟨rfl, ⟨rfl, ⟨rfl, trivial⟩⟩⟩, ⟨(0, 0, 1), rfl, ⟨by first | exact hA.symm | (rw [hA]; exact he1), by first | exact hB.symm | (rw [hB]; exact he2), hC.symm⟩, hs.pick []⟩⟩
 ·
  replace c1 : (Hd.isDeal vn z q d) = true := c1
  have hdeal : Hd.isDeal vn z q d = true := by simpa using c1
  have hdp := Hd.isDeal_P hdeal
  have hdv := hdp.1.1
  have hdz := hdp.1.2.1
  have hdq := hdp.1.2.2
  have hln := Hd.isDeal_len hdeal
  have hcc := Hd.isDeal_cards hdeal
  have hbl := Hd.boards_len hdeal
  refine hSkip ?_
  refine qSeq rfl ?_
  refine hSeq ?_
  refine hSeq ?_
  refine hReg (sl 0 (sl 1 (sq 2 (sq 3 (sl 4 (sq 5 sz)))))) (by kernel_rfl) ?_
  refine ldl Try.isAgg2 (cB 0 rfl rfl) trv rfl rfl rfl ?_
  refine ldl Try.isAgg22 (cB 1 rfl rfl) trv rfl rfl rfl ?_
  refine lenS Try.runUnderlying22 rfl rfl rfl ?_
  refine sub rfl rfl rfl rfl (by omega) ?_
  refine callP (v := .bool (decide ((0 : Int) ≤ p ∧ p ≤ (((nz : Int) - 1))))) Try.call65 trv rfl rfl (fun w hs => impl_within_c _ _ _ w ) ?_
  refine notD rfl rfl rfl ?_
  refine rNil ?_
  refine qSeq rfl ?_
  refine hIfD rfl (fun c2 => ?_) (fun c2 => ?_)
  ·
   replace c2 : ¬ ((0 : Int) ≤ p ∧ p ≤ (((nz : Int) - 1))) := c2
   have hC : Hd.wiC vn z q d p = 2 := by unfold Hd.wiC; rw [if_neg (by rw [hdeal]; decide), if_pos (by omega)]
   have hA : Hd.wiA vn z q d p = 0 := by unfold Hd.wiA; rw [hC]; rfl
   have hB : Hd.wiB vn z q d p = 0 := by unfold Hd.wiB; rw [hC]; rfl
   refine hSeq ?_
   refine hReg (sq 0 (sq 1 (sq 2 sz))) (by kernel_rfl) ?_
   refine asI rfl rfl rfl ?_
   refine asI rfl rfl rfl ?_
   refine asI rfl rfl rfl ?_
   refine rNil ?_
   refine qSeq rfl ?_
   refine hRet ?_
   exact fun w hs => ⟨[.int .i64 0, .int .i64 0, .int .i64 2], ⟨rfl, ⟨rfl, ⟨rfl, trivial⟩⟩⟩, ⟨(0, 0, 2), rfl, ⟨by first | exact hA.symm | (rw [hA]; exact he1), by first | exact hB.symm | (rw [hB]; exact he2), hC.symm⟩, hs.pick []⟩⟩
  ·
   replace c2 : ¬ (¬ ((0 : Int) ≤ p ∧ p ≤ (((nz : Int) - 1)))) := c2
   have hC : Hd.wiC vn z q d p = 0 := by unfold Hd.wiC; rw [if_neg (by rw [hdeal]; decide), if_neg (by omega)]
   have hA : Hd.wiA vn z q d p = Hd.wholes vn p z (Hd.boards z q d) := by unfold Hd.wiA; rw [if_pos hC]
   have hB : Hd.wiB vn z q d p = Hd.somes vn p z (Hd.boards z q d) := by unfold Hd.wiB; rw [if_pos hC]
   refine hSkip ?_
   refine qSeq rfl ?_
   refine hSeq ?_
   refine hReg (sl 0 (sl 1 sz)) (by kernel_rfl) ?_
   refine alc Try.zeroValue2 rfl trv1 rfl rfl (fun bka4 hbka4 => ?_)
   refine alc Try.zeroValue2 rfl trv1 rfl rfl (fun bka5 hbka5 => ?_)
   refine rNil ?_
   refine qSeq rfl ?_
   refine hSeq ?_
   refine hSeq ?_
   refine hReg (sl 0 (sq 1 (sq 2 (sl 3 sz)))) (by kernel_rfl) ?_
   refine ldl Try.isAgg22 (cB 3 rfl rfl) trv rfl rfl rfl ?_
   refine mvS rfl rfl rfl ?_
   refine mvS rfl rfl rfl ?_
   refine callS Try.call66 trv1 rfl rfl (fun w hs => impl_boardsOf_c _ nz cz _ _ _ nq cq _ _ nd cd _ w (Kn.drop (k := 5) kz w hs) (Kn.drop (k := 5) kq w hs) (Kn.drop (k := 5) kd w hs)) ?_
   rintro ⟨bz1, bq1, bd1⟩ hr1
   refine rPieces (L' := [blk bz1 22 [.slice az nz cz], blk bq1 23 [.slice aq nq cq], blk bd1 23 [.slice ad nd cd], blk bka5 2 [.int .i64 0], blk bka4 2 [.int .i64 0], blk bkb3 2 [.int .i64 p], blk bkb2 22 [.slice az nz cz], blk bkb1 2 [.int .i64 vn]]) (fun _ h => h) ?_
   refine rVal (v' := .func (.func 110) #[] #[.pointer (some ⟨bz1, 0, none⟩), .pointer (some ⟨bq1, 0, none⟩), .pointer (some ⟨bd1, 0, none⟩)]) rfl ?_
   refine rNil ?_
   refine qSeq rfl ?_
   refine hBlk ?_
   refine hRange (γ := Int × Int) (gf := 110) (Hd.boards z q d) (fun x => [blk bka4 2 [.int .i64 x.1], blk bka5 2 [.int .i64 x.2]]) (fun x => [blk bka4 2 [.int .i64 x.1], blk bka5 2 [.int .i64 x.2]]) (fun pre x => x.1 = Hd.wholes vn p z pre ∧ x.2 = Hd.somes vn p z pre) (fun pre x => False) (0, 0) [blk bz1 22 [.slice az nz cz], blk bq1 23 [.slice aq nq cq], blk bd1 23 [.slice ad nd cd], blk bkb3 2 [.int .i64 p], blk bkb2 22 [.slice az nz cz], blk bkb1 2 [.int .i64 vn]] (by decide) rfl Try.call110 (fun _ h => h.pick [0, 0, 0, 2, 2, 2, 1, 0]) ⟨rfl, rfl⟩ (fun w M1 hk => impl_boardsOf_1_it bz1 az nz cz Hz z bq1 aq nq cq q bd1 ad nd cd d w M1 (hk _ ((Kn.at_ 0 rfl).imp fun _ h => RdB.of h)) (hk _ (Kn.nil kz)) (hk _ ((Kn.at_ 1 rfl).imp fun _ h => RdB.of h)) (hk _ (Kn.nil kq)) (hk _ ((Kn.at_ 2 rfl).imp fun _ h => RdB.of h)) (hk _ (Kn.nil kd)) (by omega) (by omega) (by omega) (by assumption)) ?_ ?_ ?_
   ·
    rintro l1 rc1 hrc1 pre1 xs1 ⟨x1, x2⟩ ax1 nx1 cx1 wR1 MR1 ⟨hx1, hx2⟩ hpre1 hk1 hrd1
    dsimp only at hx1 hx2
    have f1 := hk1 _ (Kn.nil kz)
    have f2 := hk1 _ (Kn.nil kq)
    have f3 := hk1 _ (Kn.nil kd)
    have f4 := hk1 _ ((Kn.at_ 5 rfl).imp fun _ h => RdB.of (bk := bkb1) (e := 2) (cs := [.int .i64 vn]) h)
    have f5 := hk1 _ ((Kn.at_ 4 rfl).imp fun _ h => RdB.of (bk := bkb2) (e := 22) (cs := [.slice az nz cz]) h)
    have f6 := hk1 _ ((Kn.at_ 3 rfl).imp fun _ h => RdB.of (bk := bkb3) (e := 2) (cs := [.int .i64 p]) h)
    have f7 := hk1 _ ((Kn.at_ 0 rfl).imp fun _ h => RdB.of (bk := bz1) (e := 22) (cs := [.slice az nz cz]) h)
    have f8 := hk1 _ ((Kn.at_ 1 rfl).imp fun _ h => RdB.of (bk := bq1) (e := 23) (cs := [.slice aq nq cq]) h)
    have f9 := hk1 _ ((Kn.at_ 2 rfl).imp fun _ h => RdB.of (bk := bd1) (e := 23) (cs := [.slice ad nd cd]) h)
    have hbo := Hd.boards_ok hdeal (Hd.pre_mem hpre1)
    have hb5 := hbo.1
    have hbd := hbo.2
    have hpl := Hd.pre_len hpre1
    have hppl := Hd.parts_len vn z xs1
    have hwb := Hd.wholes_bd vn p z pre1
    have hsb := Hd.somes_bd vn p z pre1
    refine hReg (sq 0 sz) (by kernel_rfl) ?_
    refine asS rfl rfl rfl ?_
    refine rNil ?_
    refine qAsn rfl hrc1 rfl ?_
    refine hBlk ?_
    refine hSeq ?_
    refine hDraw (Ls := []) (by kernel_rfl) (sq 2 (.alt (sl 0 (.alt (sl 1 (.alt (sl 3 (sl 4 (sq 5 (sl 6 sz)))) (sl 4 (sl 3 (sq 5 (sl 6 sz)))))) (sl 4 (sl 1 (sl 3 (sq 5 (sl 6 sz))))))) (.alt (sl 1 (.alt (sl 0 (.alt (sl 3 (sl 4 (sq 5 (sl 6 sz)))) (sl 4 (sl 3 (sq 5 (sl 6 sz)))))) (sl 4 (sl 0 (sl 3 (sq 5 (sl 6 sz))))))) (sl 4 (.alt (sl 0 (sl 1 (sl 3 (sq 5 (sl 6 sz))))) (sl 1 (sl 0 (sl 3 (sq 5 (sl 6 sz)))))))))) (by kernel_rfl) (.cons _ (.cons _ (.cons _ .slnil))) ?_
    refine mvS rfl rfl rfl ?_
    refine rAlt ?_ ?_
    ·
     refine ldl Try.isAgg2 (cD (Kn.drop (k := 3) f4) rfl) (fun _ h => h.pick []) rfl rfl rfl ?_
     refine rAlt ?_ ?_
     ·
      refine ldl Try.isAgg22 (cD (Kn.drop (k := 3) f5) rfl) (fun _ h => h.pick []) rfl rfl rfl ?_
      refine rAlt ?_ ?_
      ·
       refine callS Try.call67 (by exact (fun _ _ h => h.pick [])) rfl rfl (fun w hs => impl_partsAt_c _ _ nz cz _ _ _ nx1 cx1 _ w (Kn.drop (k := 3) f1 w hs) (Kn.drop (k := 3) hrd1 w hs) (by omega) (by omega) (by omega) (by assumption)) ?_
       rintro ⟨ay2, ny2, cy2, y2⟩ hr2
       dsimp only at hr2
       subst y2
       refine rPieces (L' := [OwnI 2 ay2 ny2 cy2 (Hd.parts vn z xs1), ob l1 (rc1 .busy none), blk bka4 2 [.int .i64 x1], blk bka5 2 [.int .i64 x2]]) (fun _ h => h) ?_
       refine rKnow (fun w hs => (show OwnI 2 ay2 ny2 cy2 (Hd.parts vn z xs1) w from hs.at_ 0 rfl).lenz) (fun lenn9 => ?_)
       refine rVal (v' := .slice ay2 ny2 cy2) rfl ?_
       refine ldl Try.isAgg2 (cD (Kn.drop (k := 4) f6) rfl) (fun _ h => h.pick []) rfl rfl rfl ?_
       refine ixIl (zn := (p).toNat) el23 ((Kn.at_ 0 rfl).imp fun _ h => OwnI.rd h) rfl rfl rfl rfl (by omega) (by omega) rfl ?_
       intro ae3 e3
       refine ldl Try.isAgg2 (e3) (fun _ h => h.pick []) rfl rfl rfl ?_
       refine rNil ?_
       refine qSeq rfl ?_
       refine hBlk ?_
       refine hSeq ?_
       refine hReg (sq 0 (sq 1 sz)) (by kernel_rfl) ?_
       refine eql rfl rfl rfl rfl ?_
       refine asB rfl rfl rfl ?_
       refine rNil ?_
       refine qSeq rfl ?_
       refine hIfD rfl (fun c3 => ?_) (fun c3 => ?_)
       ·
        replace c3 : ((Hd.parts vn z xs1).getD ((p).toNat) 0) = 24 := c3
        refine hReg (sl 0 (sq 1 (sl 2 sz))) (by kernel_rfl) ?_
        refine ldl Try.isAgg2 (cB 2 rfl rfl) trv rfl rfl rfl ?_
        refine add rfl rfl rfl rfl (by omega) ?_
        refine stl (v := .int .i64 _) 2 rfl Try.sizeOf2 trv rfl rfl rfl rfl rfl (Nat.le_of_ble_eq_true rfl) ?_
        refine rNil ?_
        exact qRnd rfl hrc1 (((x1 + 1), x2)) ⟨by dsimp only; rw [Hd.wholes_snoc, ← hx1]; repeat (first | rfl | omega | rw [if_pos (by omega)] | rw [if_neg (by omega)]), by dsimp only; rw [Hd.somes_snoc, ← hx2]; repeat (first | rfl | omega | rw [if_pos (by omega)] | rw [if_neg (by omega)])⟩ (fun _ h => h.pick [1, 1, 1])
       ·
        replace c3 : ¬ (((Hd.parts vn z xs1).getD ((p).toNat) 0) = 24) := c3
        refine hSeq ?_
        refine hReg (sq 0 (sq 1 sz)) (by kernel_rfl) ?_
        refine eql rfl rfl rfl rfl ?_
        refine asB rfl rfl rfl ?_
        refine rNil ?_
        refine qSeq rfl ?_
        refine hIfD rfl (fun c4 => ?_) (fun c4 => ?_)
        ·
         replace c4 : ((Hd.parts vn z xs1).getD ((p).toNat) 0) = 0 := c4
         refine hSkip ?_
         exact qRnd rfl hrc1 (x1, x2) ⟨by dsimp only; rw [Hd.wholes_snoc, ← hx1]; repeat (first | rfl | omega | rw [if_pos (by omega)] | rw [if_neg (by omega)]), by dsimp only; rw [Hd.somes_snoc, ← hx2]; repeat (first | rfl | omega | rw [if_pos (by omega)] | rw [if_neg (by omega)])⟩ (fun _ h => h.pick [1, 1, 1])
        ·
         replace c4 : ¬ (((Hd.parts vn z xs1).getD ((p).toNat) 0) = 0) := c4
         refine hReg (sl 0 (sq 1 (sl 2 sz))) (by kernel_rfl) ?_
         refine ldl Try.isAgg2 (cB 3 rfl rfl) trv rfl rfl rfl ?_
         refine add rfl rfl rfl rfl (by omega) ?_
         refine stl (v := .int .i64 _) 3 rfl Try.sizeOf2 trv rfl rfl rfl rfl rfl (Nat.le_of_ble_eq_true rfl) ?_
         refine rNil ?_
         exact qRnd rfl hrc1 ((x1, (x2 + 1))) ⟨by dsimp only; rw [Hd.wholes_snoc, ← hx1]; repeat (first | rfl | omega | rw [if_pos (by omega)] | rw [if_neg (by omega)]), by dsimp only; rw [Hd.somes_snoc, ← hx2]; repeat (first | rfl | omega | rw [if_pos (by omega)] | rw [if_neg (by omega)])⟩ (fun _ h => h.pick [1, 1, 1])
      ·
       refine ldl Try.isAgg2 (cD (Kn.drop (k := 3) f6) rfl) (fun _ h => h.pick []) rfl rfl rfl ?_
       refine callS Try.call67 (by exact (fun _ _ h => h.pick [])) rfl rfl (fun w hs => impl_partsAt_c _ _ nz cz _ _ _ nx1 cx1 _ w (Kn.drop (k := 3) f1 w hs) (Kn.drop (k := 3) hrd1 w hs) (by omega) (by omega) (by omega) (by assumption)) ?_
       rintro ⟨ay4, ny4, cy4, y4⟩ hr4
       dsimp only at hr4
       subst y4
       refine rPieces (L' := [OwnI 2 ay4 ny4 cy4 (Hd.parts vn z xs1), ob l1 (rc1 .busy none), blk bka4 2 [.int .i64 x1], blk bka5 2 [.int .i64 x2]]) (fun _ h => h) ?_
       refine rKnow (fun w hs => (show OwnI 2 ay4 ny4 cy4 (Hd.parts vn z xs1) w from hs.at_ 0 rfl).lenz) (fun lenn10 => ?_)
       refine rVal (v' := .slice ay4 ny4 cy4) rfl ?_
       refine ixIl (zn := (p).toNat) el23 ((Kn.at_ 0 rfl).imp fun _ h => OwnI.rd h) rfl rfl rfl rfl (by omega) (by omega) rfl ?_
       intro ae5 e5
       refine ldl Try.isAgg2 (e5) (fun _ h => h.pick []) rfl rfl rfl ?_
       refine rNil ?_
       refine qSeq rfl ?_
       refine hBlk ?_
       refine hSeq ?_
       refine hReg (sq 0 (sq 1 sz)) (by kernel_rfl) ?_
       refine eql rfl rfl rfl rfl ?_
       refine asB rfl rfl rfl ?_
       refine rNil ?_
       refine qSeq rfl ?_
       refine hIfD rfl (fun c5 => ?_) (fun c5 => ?_)
       ·
        replace c5 : ((Hd.parts vn z xs1).getD ((p).toNat) 0) = 24 := c5
        refine hReg (sl 0 (sq 1 (sl 2 sz))) (by kernel_rfl) ?_
        refine ldl Try.isAgg2 (cB 2 rfl rfl) trv rfl rfl rfl ?_
        refine add rfl rfl rfl rfl (by omega) ?_
        refine stl (v := .int .i64 _) 2 rfl Try.sizeOf2 trv rfl rfl rfl rfl rfl (Nat.le_of_ble_eq_true rfl) ?_
        refine rNil ?_
        exact qRnd rfl hrc1 (((x1 + 1), x2)) ⟨by dsimp only; rw [Hd.wholes_snoc, ← hx1]; repeat (first | rfl | omega | rw [if_pos (by omega)] | rw [if_neg (by omega)]), by dsimp only; rw [Hd.somes_snoc, ← hx2]; repeat (first | rfl | omega | rw [if_pos (by omega)] | rw [if_neg (by omega)])⟩ (fun _ h => h.pick [1, 1, 1])
       ·
        replace c5 : ¬ (((Hd.parts vn z xs1).getD ((p).toNat) 0) = 24) := c5
        refine hSeq ?_
        refine hReg (sq 0 (sq 1 sz)) (by kernel_rfl) ?_
        refine eql rfl rfl rfl rfl ?_
        refine asB rfl rfl rfl ?_
        refine rNil ?_
        refine qSeq rfl ?_
        refine hIfD rfl (fun c6 => ?_) (fun c6 => ?_)
        ·
         replace c6 : ((Hd.parts vn z xs1).getD ((p).toNat) 0) = 0 := c6
         refine hSkip ?_
         exact qRnd rfl hrc1 (x1, x2) ⟨by dsimp only; rw [Hd.wholes_snoc, ← hx1]; repeat (first | rfl | omega | rw [if_pos (by omega)] | rw [if_neg (by omega)]), by dsimp only; rw [Hd.somes_snoc, ← hx2]; repeat (first | rfl | omega | rw [if_pos (by omega)] | rw [if_neg (by omega)])⟩ (fun _ h => h.pick [1, 1, 1])
        ·
         replace c6 : ¬ (((Hd.parts vn z xs1).getD ((p).toNat) 0) = 0) := c6
         refine hReg (sl 0 (sq 1 (sl 2 sz))) (by kernel_rfl) ?_
         refine ldl Try.isAgg2 (cB 3 rfl rfl) trv rfl rfl rfl ?_
         refine add rfl rfl rfl rfl (by omega) ?_
         refine stl (v := .int .i64 _) 3 rfl Try.sizeOf2 trv rfl rfl rfl rfl rfl (Nat.le_of_ble_eq_true rfl) ?_
         refine rNil ?_
         exact qRnd rfl hrc1 ((x1, (x2 + 1))) ⟨by dsimp only; rw [Hd.wholes_snoc, ← hx1]; repeat (first | rfl | omega | rw [if_pos (by omega)] | rw [if_neg (by omega)]), by dsimp only; rw [Hd.somes_snoc, ← hx2]; repeat (first | rfl | omega | rw [if_pos (by omega)] | rw [if_neg (by omega)])⟩ (fun _ h => h.pick [1, 1, 1])
     ·
      refine ldl Try.isAgg2 (cD (Kn.drop (k := 3) f6) rfl) (fun _ h => h.pick []) rfl rfl rfl ?_
      refine ldl Try.isAgg22 (cD (Kn.drop (k := 3) f5) rfl) (fun _ h => h.pick []) rfl rfl rfl ?_
      refine callS Try.call67 (by exact (fun _ _ h => h.pick [])) rfl rfl (fun w hs => impl_partsAt_c _ _ nz cz _ _ _ nx1 cx1 _ w (Kn.drop (k := 3) f1 w hs) (Kn.drop (k := 3) hrd1 w hs) (by omega) (by omega) (by omega) (by assumption)) ?_
      rintro ⟨ay6, ny6, cy6, y6⟩ hr6
      dsimp only at hr6
      subst y6
      refine rPieces (L' := [OwnI 2 ay6 ny6 cy6 (Hd.parts vn z xs1), ob l1 (rc1 .busy none), blk bka4 2 [.int .i64 x1], blk bka5 2 [.int .i64 x2]]) (fun _ h => h) ?_
      refine rKnow (fun w hs => (show OwnI 2 ay6 ny6 cy6 (Hd.parts vn z xs1) w from hs.at_ 0 rfl).lenz) (fun lenn11 => ?_)
      refine rVal (v' := .slice ay6 ny6 cy6) rfl ?_
      refine ixIl (zn := (p).toNat) el23 ((Kn.at_ 0 rfl).imp fun _ h => OwnI.rd h) rfl rfl rfl rfl (by omega) (by omega) rfl ?_
      intro ae7 e7
      refine ldl Try.isAgg2 (e7) (fun _ h => h.pick []) rfl rfl rfl ?_
      refine rNil ?_
      refine qSeq rfl ?_
      refine hBlk ?_
      refine hSeq ?_
      refine hReg (sq 0 (sq 1 sz)) (by kernel_rfl) ?_
      refine eql rfl rfl rfl rfl ?_
      refine asB rfl rfl rfl ?_
      refine rNil ?_
      refine qSeq rfl ?_
      refine hIfD rfl (fun c7 => ?_) (fun c7 => ?_)
      ·
       replace c7 : ((Hd.parts vn z xs1).getD ((p).toNat) 0) = 24 := c7
       refine hReg (sl 0 (sq 1 (sl 2 sz))) (by kernel_rfl) ?_
       refine ldl Try.isAgg2 (cB 2 rfl rfl) trv rfl rfl rfl ?_
       refine add rfl rfl rfl rfl (by omega) ?_
       refine stl (v := .int .i64 _) 2 rfl Try.sizeOf2 trv rfl rfl rfl rfl rfl (Nat.le_of_ble_eq_true rfl) ?_
       refine rNil ?_
       exact qRnd rfl hrc1 (((x1 + 1), x2)) ⟨by dsimp only; rw [Hd.wholes_snoc, ← hx1]; repeat (first | rfl | omega | rw [if_pos (by omega)] | rw [if_neg (by omega)]), by dsimp only; rw [Hd.somes_snoc, ← hx2]; repeat (first | rfl | omega | rw [if_pos (by omega)] | rw [if_neg (by omega)])⟩ (fun _ h => h.pick [1, 1, 1])
      ·
       replace c7 : ¬ (((Hd.parts vn z xs1).getD ((p).toNat) 0) = 24) := c7
       refine hSeq ?_
       refine hReg (sq 0 (sq 1 sz)) (by kernel_rfl) ?_
       refine eql rfl rfl rfl rfl ?_
       refine asB rfl rfl rfl ?_
       refine rNil ?_
       refine qSeq rfl ?_
       refine hIfD rfl (fun c8 => ?_) (fun c8 => ?_)
       ·
        replace c8 : ((Hd.parts vn z xs1).getD ((p).toNat) 0) = 0 := c8
        refine hSkip ?_
        exact qRnd rfl hrc1 (x1, x2) ⟨by dsimp only; rw [Hd.wholes_snoc, ← hx1]; repeat (first | rfl | omega | rw [if_pos (by omega)] | rw [if_neg (by omega)]), by dsimp only; rw [Hd.somes_snoc, ← hx2]; repeat (first | rfl | omega | rw [if_pos (by omega)] | rw [if_neg (by omega)])⟩ (fun _ h => h.pick [1, 1, 1])
       ·
        replace c8 : ¬ (((Hd.parts vn z xs1).getD ((p).toNat) 0) = 0) := c8
        refine hReg (sl 0 (sq 1 (sl 2 sz))) (by kernel_rfl) ?_
        refine ldl Try.isAgg2 (cB 3 rfl rfl) trv rfl rfl rfl ?_
        refine add rfl rfl rfl rfl (by omega) ?_
        refine stl (v := .int .i64 _) 3 rfl Try.sizeOf2 trv rfl rfl rfl rfl rfl (Nat.le_of_ble_eq_true rfl) ?_
        refine rNil ?_
        exact qRnd rfl hrc1 ((x1, (x2 + 1))) ⟨by dsimp only; rw [Hd.wholes_snoc, ← hx1]; repeat (first | rfl | omega | rw [if_pos (by omega)] | rw [if_neg (by omega)]), by dsimp only; rw [Hd.somes_snoc, ← hx2]; repeat (first | rfl | omega | rw [if_pos (by omega)] | rw [if_neg (by omega)])⟩ (fun _ h => h.pick [1, 1, 1])
    ·
     refine rAlt ?_ ?_
     ·
      refine ldl Try.isAgg22 (cD (Kn.drop (k := 3) f5) rfl) (fun _ h => h.pick []) rfl rfl rfl ?_
      refine rAlt ?_ ?_
      ·
       refine ldl Try.isAgg2 (cD (Kn.drop (k := 3) f4) rfl) (fun _ h => h.pick []) rfl rfl rfl ?_
       refine rAlt ?_ ?_
       ·
        refine callS Try.call67 (by exact (fun _ _ h => h.pick [])) rfl rfl (fun w hs => impl_partsAt_c _ _ nz cz _ _ _ nx1 cx1 _ w (Kn.drop (k := 3) f1 w hs) (Kn.drop (k := 3) hrd1 w hs) (by omega) (by omega) (by omega) (by assumption)) ?_
        rintro ⟨ay8, ny8, cy8, y8⟩ hr8
        dsimp only at hr8
        subst y8
        refine rPieces (L' := [OwnI 2 ay8 ny8 cy8 (Hd.parts vn z xs1), ob l1 (rc1 .busy none), blk bka4 2 [.int .i64 x1], blk bka5 2 [.int .i64 x2]]) (fun _ h => h) ?_
        refine rKnow (fun w hs => (show OwnI 2 ay8 ny8 cy8 (Hd.parts vn z xs1) w from hs.at_ 0 rfl).lenz) (fun lenn12 => ?_)
        refine rVal (v' := .slice ay8 ny8 cy8) rfl ?_
        refine ldl Try.isAgg2 (cD (Kn.drop (k := 4) f6) rfl) (fun _ h => h.pick []) rfl rfl rfl ?_
        refine ixIl (zn := (p).toNat) el23 ((Kn.at_ 0 rfl).imp fun _ h => OwnI.rd h) rfl rfl rfl rfl (by omega) (by omega) rfl ?_
        intro ae9 e9
        refine ldl Try.isAgg2 (e9) (fun _ h => h.pick []) rfl rfl rfl ?_
        refine rNil ?_
        refine qSeq rfl ?_
        refine hBlk ?_
        refine hSeq ?_
        refine hReg (sq 0 (sq 1 sz)) (by kernel_rfl) ?_
        refine eql rfl rfl rfl rfl ?_
        refine asB rfl rfl rfl ?_
        refine rNil ?_
        refine qSeq rfl ?_
        refine hIfD rfl (fun c9 => ?_) (fun c9 => ?_)
        ·
         replace c9 : ((Hd.parts vn z xs1).getD ((p).toNat) 0) = 24 := c9
         refine hReg (sl 0 (sq 1 (sl 2 sz))) (by kernel_rfl) ?_
         refine ldl Try.isAgg2 (cB 2 rfl rfl) trv rfl rfl rfl ?_
         refine add rfl rfl rfl rfl (by omega) ?_
         refine stl (v := .int .i64 _) 2 rfl Try.sizeOf2 trv rfl rfl rfl rfl rfl (Nat.le_of_ble_eq_true rfl) ?_
         refine rNil ?_
         exact qRnd rfl hrc1 (((x1 + 1), x2)) ⟨by dsimp only; rw [Hd.wholes_snoc, ← hx1]; repeat (first | rfl | omega | rw [if_pos (by omega)] | rw [if_neg (by omega)]), by dsimp only; rw [Hd.somes_snoc, ← hx2]; repeat (first | rfl | omega | rw [if_pos (by omega)] | rw [if_neg (by omega)])⟩ (fun _ h => h.pick [1, 1, 1])
        ·
         replace c9 : ¬ (((Hd.parts vn z xs1).getD ((p).toNat) 0) = 24) := c9
         refine hSeq ?_
         refine hReg (sq 0 (sq 1 sz)) (by kernel_rfl) ?_
         refine eql rfl rfl rfl rfl ?_
         refine asB rfl rfl rfl ?_
         refine rNil ?_
         refine qSeq rfl ?_
         refine hIfD rfl (fun c10 => ?_) (fun c10 => ?_)
         ·
          replace c10 : ((Hd.parts vn z xs1).getD ((p).toNat) 0) = 0 := c10
          refine hSkip ?_
          exact qRnd rfl hrc1 (x1, x2) ⟨by dsimp only; rw [Hd.wholes_snoc, ← hx1]; repeat (first | rfl | omega | rw [if_pos (by omega)] | rw [if_neg (by omega)]), by dsimp only; rw [Hd.somes_snoc, ← hx2]; repeat (first | rfl | omega | rw [if_pos (by omega)] | rw [if_neg (by omega)])⟩ (fun _ h => h.pick [1, 1, 1])
         ·
          replace c10 : ¬ (((Hd.parts vn z xs1).getD ((p).toNat) 0) = 0) := c10
          refine hReg (sl 0 (sq 1 (sl 2 sz))) (by kernel_rfl) ?_
          refine ldl Try.isAgg2 (cB 3 rfl rfl) trv rfl rfl rfl ?_
          refine add rfl rfl rfl rfl (by omega) ?_
          refine stl (v := .int .i64 _) 3 rfl Try.sizeOf2 trv rfl rfl rfl rfl rfl (Nat.le_of_ble_eq_true rfl) ?_
          refine rNil ?_
          exact qRnd rfl hrc1 ((x1, (x2 + 1))) ⟨by dsimp only; rw [Hd.wholes_snoc, ← hx1]; repeat (first | rfl | omega | rw [if_pos (by omega)] | rw [if_neg (by omega)]), by dsimp only; rw [Hd.somes_snoc, ← hx2]; repeat (first | rfl | omega | rw [if_pos (by omega)] | rw [if_neg (by omega)])⟩ (fun _ h => h.pick [1, 1, 1])
       ·
        refine ldl Try.isAgg2 (cD (Kn.drop (k := 3) f6) rfl) (fun _ h => h.pick []) rfl rfl rfl ?_
        refine callS Try.call67 (by exact (fun _ _ h => h.pick [])) rfl rfl (fun w hs => impl_partsAt_c _ _ nz cz _ _ _ nx1 cx1 _ w (Kn.drop (k := 3) f1 w hs) (Kn.drop (k := 3) hrd1 w hs) (by omega) (by omega) (by omega) (by assumption)) ?_
        rintro ⟨ay10, ny10, cy10, y10⟩ hr10
        dsimp only at hr10
        subst y10
        refine rPieces (L' := [OwnI 2 ay10 ny10 cy10 (Hd.parts vn z xs1), ob l1 (rc1 .busy none), blk bka4 2 [.int .i64 x1], blk bka5 2 [.int .i64 x2]]) (fun _ h => h) ?_
        refine rKnow (fun w hs => (show OwnI 2 ay10 ny10 cy10 (Hd.parts vn z xs1) w from hs.at_ 0 rfl).lenz) (fun lenn13 => ?_)
        refine rVal (v' := .slice ay10 ny10 cy10) rfl ?_
        refine ixIl (zn := (p).toNat) el23 ((Kn.at_ 0 rfl).imp fun _ h => OwnI.rd h) rfl rfl rfl rfl (by omega) (by omega) rfl ?_
        intro ae11 e11
        refine ldl Try.isAgg2 (e11) (fun _ h => h.pick []) rfl rfl rfl ?_
        refine rNil ?_
        refine qSeq rfl ?_
        refine hBlk ?_
        refine hSeq ?_
        refine hReg (sq 0 (sq 1 sz)) (by kernel_rfl) ?_
        refine eql rfl rfl rfl rfl ?_
        refine asB rfl rfl rfl ?_
        refine rNil ?_
        refine qSeq rfl ?_
        refine hIfD rfl (fun c11 => ?_) (fun c11 => ?_)
        ·
         replace c11 : ((Hd.parts vn z xs1).getD ((p).toNat) 0) = 24 := c11
         refine hReg (sl 0 (sq 1 (sl 2 sz))) (by kernel_rfl) ?_
         refine ldl Try.isAgg2 (cB 2 rfl rfl) trv rfl rfl rfl ?_
         refine add rfl rfl rfl rfl (by omega) ?_
         refine stl (v := .int .i64 _) 2 rfl Try.sizeOf2 trv rfl rfl rfl rfl rfl (Nat.le_of_ble_eq_true rfl) ?_
         refine rNil ?_
         exact qRnd rfl hrc1 (((x1 + 1), x2)) ⟨by dsimp only; rw [Hd.wholes_snoc, ← hx1]; repeat (first | rfl | omega | rw [if_pos (by omega)] | rw [if_neg (by omega)]), by dsimp only; rw [Hd.somes_snoc, ← hx2]; repeat (first | rfl | omega | rw [if_pos (by omega)] | rw [if_neg (by omega)])⟩ (fun _ h => h.pick [1, 1, 1])
        ·
         replace c11 : ¬ (((Hd.parts vn z xs1).getD ((p).toNat) 0) = 24) := c11
         refine hSeq ?_
         refine hReg (sq 0 (sq 1 sz)) (by kernel_rfl) ?_
         refine eql rfl rfl rfl rfl ?_
         refine asB rfl rfl rfl ?_
         refine rNil ?_
         refine qSeq rfl ?_
         refine hIfD rfl (fun c12 => ?_) (fun c12 => ?_)
         ·
          replace c12 : ((Hd.parts vn z xs1).getD ((p).toNat) 0) = 0 := c12
          refine hSkip ?_
          exact qRnd rfl hrc1 (x1, x2) ⟨by dsimp only; rw [Hd.wholes_snoc, ← hx1]; repeat (first | rfl | omega | rw [if_pos (by omega)] | rw [if_neg (by omega)]), by dsimp only; rw [Hd.somes_snoc, ← hx2]; repeat (first | rfl | omega | rw [if_pos (by omega)] | rw [if_neg (by omega)])⟩ (fun _ h => h.pick [1, 1, 1])
         ·
          replace c12 : ¬ (((Hd.parts vn z xs1).getD ((p).toNat) 0) = 0) := c12
          refine hReg (sl 0 (sq 1 (sl 2 sz))) (by kernel_rfl) ?_
          refine ldl Try.isAgg2 (cB 3 rfl rfl) trv rfl rfl rfl ?_
          refine add rfl rfl rfl rfl (by omega) ?_
          refine stl (v := .int .i64 _) 3 rfl Try.sizeOf2 trv rfl rfl rfl rfl rfl (Nat.le_of_ble_eq_true rfl) ?_
          refine rNil ?_
          exact qRnd rfl hrc1 ((x1, (x2 + 1))) ⟨by dsimp only; rw [Hd.wholes_snoc, ← hx1]; repeat (first | rfl | omega | rw [if_pos (by omega)] | rw [if_neg (by omega)]), by dsimp only; rw [Hd.somes_snoc, ← hx2]; repeat (first | rfl | omega | rw [if_pos (by omega)] | rw [if_neg (by omega)])⟩ (fun _ h => h.pick [1, 1, 1])
      ·
       refine ldl Try.isAgg2 (cD (Kn.drop (k := 3) f6) rfl) (fun _ h => h.pick []) rfl rfl rfl ?_
       refine ldl Try.isAgg2 (cD (Kn.drop (k := 3) f4) rfl) (fun _ h => h.pick []) rfl rfl rfl ?_
       refine callS Try.call67 (by exact (fun _ _ h => h.pick [])) rfl rfl (fun w hs => impl_partsAt_c _ _ nz cz _ _ _ nx1 cx1 _ w (Kn.drop (k := 3) f1 w hs) (Kn.drop (k := 3) hrd1 w hs) (by omega) (by omega) (by omega) (by assumption)) ?_
       rintro ⟨ay12, ny12, cy12, y12⟩ hr12
       dsimp only at hr12
       subst y12
       refine rPieces (L' := [OwnI 2 ay12 ny12 cy12 (Hd.parts vn z xs1), ob l1 (rc1 .busy none), blk bka4 2 [.int .i64 x1], blk bka5 2 [.int .i64 x2]]) (fun _ h => h) ?_
       refine rKnow (fun w hs => (show OwnI 2 ay12 ny12 cy12 (Hd.parts vn z xs1) w from hs.at_ 0 rfl).lenz) (fun lenn14 => ?_)
       refine rVal (v' := .slice ay12 ny12 cy12) rfl ?_
       refine ixIl (zn := (p).toNat) el23 ((Kn.at_ 0 rfl).imp fun _ h => OwnI.rd h) rfl rfl rfl rfl (by omega) (by omega) rfl ?_
       intro ae13 e13
       refine ldl Try.isAgg2 (e13) (fun _ h => h.pick []) rfl rfl rfl ?_
       refine rNil ?_
       refine qSeq rfl ?_
       refine hBlk ?_
       refine hSeq ?_
       refine hReg (sq 0 (sq 1 sz)) (by kernel_rfl) ?_
       refine eql rfl rfl rfl rfl ?_
       refine asB rfl rfl rfl ?_
       refine rNil ?_
       refine qSeq rfl ?_
       refine hIfD rfl (fun c13 => ?_) (fun c13 => ?_)
       ·
        replace c13 : ((Hd.parts vn z xs1).getD ((p).toNat) 0) = 24 := c13
        refine hReg (sl 0 (sq 1 (sl 2 sz))) (by kernel_rfl) ?_
        refine ldl Try.isAgg2 (cB 2 rfl rfl) trv rfl rfl rfl ?_
        refine add rfl rfl rfl rfl (by omega) ?_
        refine stl (v := .int .i64 _) 2 rfl Try.sizeOf2 trv rfl rfl rfl rfl rfl (Nat.le_of_ble_eq_true rfl) ?_
        refine rNil ?_
        exact qRnd rfl hrc1 (((x1 + 1), x2)) ⟨by dsimp only; rw [Hd.wholes_snoc, ← hx1]; repeat (first | rfl | omega | rw [if_pos (by omega)] | rw [if_neg (by omega)]), by dsimp only; rw [Hd.somes_snoc, ← hx2]; repeat (first | rfl | omega | rw [if_pos (by omega)] | rw [if_neg (by omega)])⟩ (fun _ h => h.pick [1, 1, 1])
       ·
        replace c13 : ¬ (((Hd.parts vn z xs1).getD ((p).toNat) 0) = 24) := c13
        refine hSeq ?_
        refine hReg (sq 0 (sq 1 sz)) (by kernel_rfl) ?_
        refine eql rfl rfl rfl rfl ?_
        refine asB rfl rfl rfl ?_
        refine rNil ?_
        refine qSeq rfl ?_
        refine hIfD rfl (fun c14 => ?_) (fun c14 => ?_)
        ·
         replace c14 : ((Hd.parts vn z xs1).getD ((p).toNat) 0) = 0 := c14
         refine hSkip ?_
         exact qRnd rfl hrc1 (x1, x2) ⟨by dsimp only; rw [Hd.wholes_snoc, ← hx1]; repeat (first | rfl | omega | rw [if_pos (by omega)] | rw [if_neg (by omega)]), by dsimp only; rw [Hd.somes_snoc, ← hx2]; repeat (first | rfl | omega | rw [if_pos (by omega)] | rw [if_neg (by omega)])⟩ (fun _ h => h.pick [1, 1, 1])
        ·
         replace c14 : ¬ (((Hd.parts vn z xs1).getD ((p).toNat) 0) = 0) := c14
         refine hReg (sl 0 (sq 1 (sl 2 sz))) (by kernel_rfl) ?_
         refine ldl Try.isAgg2 (cB 3 rfl rfl) trv rfl rfl rfl ?_
         refine add rfl rfl rfl rfl (by omega) ?_
         refine stl (v := .int .i64 _) 3 rfl Try.sizeOf2 trv rfl rfl rfl rfl rfl (Nat.le_of_ble_eq_true rfl) ?_
         refine rNil ?_
         exact qRnd rfl hrc1 ((x1, (x2 + 1))) ⟨by dsimp only; rw [Hd.wholes_snoc, ← hx1]; repeat (first | rfl | omega | rw [if_pos (by omega)] | rw [if_neg (by omega)]), by dsimp only; rw [Hd.somes_snoc, ← hx2]; repeat (first | rfl | omega | rw [if_pos (by omega)] | rw [if_neg (by omega)])⟩ (fun _ h => h.pick [1, 1, 1])
     ·
      refine ldl Try.isAgg2 (cD (Kn.drop (k := 3) f6) rfl) (fun _ h => h.pick []) rfl rfl rfl ?_
      refine rAlt ?_ ?_
      ·
       refine ldl Try.isAgg2 (cD (Kn.drop (k := 3) f4) rfl) (fun _ h => h.pick []) rfl rfl rfl ?_
       refine ldl Try.isAgg22 (cD (Kn.drop (k := 3) f5) rfl) (fun _ h => h.pick []) rfl rfl rfl ?_
       refine callS Try.call67 (by exact (fun _ _ h => h.pick [])) rfl rfl (fun w hs => impl_partsAt_c _ _ nz cz _ _ _ nx1 cx1 _ w (Kn.drop (k := 3) f1 w hs) (Kn.drop (k := 3) hrd1 w hs) (by omega) (by omega) (by omega) (by assumption)) ?_
       rintro ⟨ay14, ny14, cy14, y14⟩ hr14
       dsimp only at hr14
       subst y14
       refine rPieces (L' := [OwnI 2 ay14 ny14 cy14 (Hd.parts vn z xs1), ob l1 (rc1 .busy none), blk bka4 2 [.int .i64 x1], blk bka5 2 [.int .i64 x2]]) (fun _ h => h) ?_
       refine rKnow (fun w hs => (show OwnI 2 ay14 ny14 cy14 (Hd.parts vn z xs1) w from hs.at_ 0 rfl).lenz) (fun lenn15 => ?_)
       refine rVal (v' := .slice ay14 ny14 cy14) rfl ?_
       refine ixIl (zn := (p).toNat) el23 ((Kn.at_ 0 rfl).imp fun _ h => OwnI.rd h) rfl rfl rfl rfl (by omega) (by omega) rfl ?_
       intro ae15 e15
       refine ldl Try.isAgg2 (e15) (fun _ h => h.pick []) rfl rfl rfl ?_
       refine rNil ?_
       refine qSeq rfl ?_
       refine hBlk ?_
       refine hSeq ?_
       refine hReg (sq 0 (sq 1 sz)) (by kernel_rfl) ?_
       refine eql rfl rfl rfl rfl ?_
       refine asB rfl rfl rfl ?_
       refine rNil ?_
       refine qSeq rfl ?_
       refine hIfD rfl (fun c15 => ?_) (fun c15 => ?_)
       ·
        replace c15 : ((Hd.parts vn z xs1).getD ((p).toNat) 0) = 24 := c15
        refine hReg (sl 0 (sq 1 (sl 2 sz))) (by kernel_rfl) ?_
        refine ldl Try.isAgg2 (cB 2 rfl rfl) trv rfl rfl rfl ?_
        refine add rfl rfl rfl rfl (by omega) ?_
        refine stl (v := .int .i64 _) 2 rfl Try.sizeOf2 trv rfl rfl rfl rfl rfl (Nat.le_of_ble_eq_true rfl) ?_
        refine rNil ?_
        exact qRnd rfl hrc1 (((x1 + 1), x2)) ⟨by dsimp only; rw [Hd.wholes_snoc, ← hx1]; repeat (first | rfl | omega | rw [if_pos (by omega)] | rw [if_neg (by omega)]), by dsimp only; rw [Hd.somes_snoc, ← hx2]; repeat (first | rfl | omega | rw [if_pos (by omega)] | rw [if_neg (by omega)])⟩ (fun _ h => h.pick [1, 1, 1])
       ·
        replace c15 : ¬ (((Hd.parts vn z xs1).getD ((p).toNat) 0) = 24) := c15
        refine hSeq ?_
        refine hReg (sq 0 (sq 1 sz)) (by kernel_rfl) ?_
        refine eql rfl rfl rfl rfl ?_
        refine asB rfl rfl rfl ?_
        refine rNil ?_
        refine qSeq rfl ?_
        refine hIfD rfl (fun c16 => ?_) (fun c16 => ?_)
        ·
         replace c16 : ((Hd.parts vn z xs1).getD ((p).toNat) 0) = 0 := c16
         refine hSkip ?_
         exact qRnd rfl hrc1 (x1, x2) ⟨by dsimp only; rw [Hd.wholes_snoc, ← hx1]; repeat (first | rfl | omega | rw [if_pos (by omega)] | rw [if_neg (by omega)]), by dsimp only; rw [Hd.somes_snoc, ← hx2]; repeat (first | rfl | omega | rw [if_pos (by omega)] | rw [if_neg (by omega)])⟩ (fun _ h => h.pick [1, 1, 1])
        ·
         replace c16 : ¬ (((Hd.parts vn z xs1).getD ((p).toNat) 0) = 0) := c16
         refine hReg (sl 0 (sq 1 (sl 2 sz))) (by kernel_rfl) ?_
         refine ldl Try.isAgg2 (cB 3 rfl rfl) trv rfl rfl rfl ?_
         refine add rfl rfl rfl rfl (by omega) ?_
         refine stl (v := .int .i64 _) 3 rfl Try.sizeOf2 trv rfl rfl rfl rfl rfl (Nat.le_of_ble_eq_true rfl) ?_
         refine rNil ?_
         exact qRnd rfl hrc1 ((x1, (x2 + 1))) ⟨by dsimp only; rw [Hd.wholes_snoc, ← hx1]; repeat (first | rfl | omega | rw [if_pos (by omega)] | rw [if_neg (by omega)]), by dsimp only; rw [Hd.somes_snoc, ← hx2]; repeat (first | rfl | omega | rw [if_pos (by omega)] | rw [if_neg (by omega)])⟩ (fun _ h => h.pick [1, 1, 1])
      ·
       refine ldl Try.isAgg22 (cD (Kn.drop (k := 3) f5) rfl) (fun _ h => h.pick []) rfl rfl rfl ?_
       refine ldl Try.isAgg2 (cD (Kn.drop (k := 3) f4) rfl) (fun _ h => h.pick []) rfl rfl rfl ?_
       refine callS Try.call67 (by exact (fun _ _ h => h.pick [])) rfl rfl (fun w hs => impl_partsAt_c _ _ nz cz _ _ _ nx1 cx1 _ w (Kn.drop (k := 3) f1 w hs) (Kn.drop (k := 3) hrd1 w hs) (by omega) (by omega) (by omega) (by assumption)) ?_
       rintro ⟨ay16, ny16, cy16, y16⟩ hr16
       dsimp only at hr16
       subst y16
       refine rPieces (L' := [OwnI 2 ay16 ny16 cy16 (Hd.parts vn z xs1), ob l1 (rc1 .busy none), blk bka4 2 [.int .i64 x1], blk bka5 2 [.int .i64 x2]]) (fun _ h => h) ?_
       refine rKnow (fun w hs => (show OwnI 2 ay16 ny16 cy16 (Hd.parts vn z xs1) w from hs.at_ 0 rfl).lenz) (fun lenn16 => ?_)
       refine rVal (v' := .slice ay16 ny16 cy16) rfl ?_
       refine ixIl (zn := (p).toNat) el23 ((Kn.at_ 0 rfl).imp fun _ h => OwnI.rd h) rfl rfl rfl rfl (by omega) (by omega) rfl ?_
       intro ae17 e17
       refine ldl Try.isAgg2 (e17) (fun _ h => h.pick []) rfl rfl rfl ?_
       refine rNil ?_
       refine qSeq rfl ?_
       refine hBlk ?_
       refine hSeq ?_
       refine hReg (sq 0 (sq 1 sz)) (by kernel_rfl) ?_
       refine eql rfl rfl rfl rfl ?_
       refine asB rfl rfl rfl ?_
       refine rNil ?_
       refine qSeq rfl ?_
       refine hIfD rfl (fun c17 => ?_) (fun c17 => ?_)
       ·
        replace c17 : ((Hd.parts vn z xs1).getD ((p).toNat) 0) = 24 := c17
        refine hReg (sl 0 (sq 1 (sl 2 sz))) (by kernel_rfl) ?_
        refine ldl Try.isAgg2 (cB 2 rfl rfl) trv rfl rfl rfl ?_
        refine add rfl rfl rfl rfl (by omega) ?_
        refine stl (v := .int .i64 _) 2 rfl Try.sizeOf2 trv rfl rfl rfl rfl rfl (Nat.le_of_ble_eq_true rfl) ?_
        refine rNil ?_
        exact qRnd rfl hrc1 (((x1 + 1), x2)) ⟨by dsimp only; rw [Hd.wholes_snoc, ← hx1]; repeat (first | rfl | omega | rw [if_pos (by omega)] | rw [if_neg (by omega)]), by dsimp only; rw [Hd.somes_snoc, ← hx2]; repeat (first | rfl | omega | rw [if_pos (by omega)] | rw [if_neg (by omega)])⟩ (fun _ h => h.pick [1, 1, 1])
       ·
        replace c17 : ¬ (((Hd.parts vn z xs1).getD ((p).toNat) 0) = 24) := c17
        refine hSeq ?_
        refine hReg (sq 0 (sq 1 sz)) (by kernel_rfl) ?_
        refine eql rfl rfl rfl rfl ?_
        refine asB rfl rfl rfl ?_
        refine rNil ?_
        refine qSeq rfl ?_
        refine hIfD rfl (fun c18 => ?_) (fun c18 => ?_)
        ·
         replace c18 : ((Hd.parts vn z xs1).getD ((p).toNat) 0) = 0 := c18
         refine hSkip ?_
         exact qRnd rfl hrc1 (x1, x2) ⟨by dsimp only; rw [Hd.wholes_snoc, ← hx1]; repeat (first | rfl | omega | rw [if_pos (by omega)] | rw [if_neg (by omega)]), by dsimp only; rw [Hd.somes_snoc, ← hx2]; repeat (first | rfl | omega | rw [if_pos (by omega)] | rw [if_neg (by omega)])⟩ (fun _ h => h.pick [1, 1, 1])
        ·
         replace c18 : ¬ (((Hd.parts vn z xs1).getD ((p).toNat) 0) = 0) := c18
         refine hReg (sl 0 (sq 1 (sl 2 sz))) (by kernel_rfl) ?_
         refine ldl Try.isAgg2 (cB 3 rfl rfl) trv rfl rfl rfl ?_
         refine add rfl rfl rfl rfl (by omega) ?_
         refine stl (v := .int .i64 _) 3 rfl Try.sizeOf2 trv rfl rfl rfl rfl rfl (Nat.le_of_ble_eq_true rfl) ?_
         refine rNil ?_
         exact qRnd rfl hrc1 ((x1, (x2 + 1))) ⟨by dsimp only; rw [Hd.wholes_snoc, ← hx1]; repeat (first | rfl | omega | rw [if_pos (by omega)] | rw [if_neg (by omega)]), by dsimp only; rw [Hd.somes_snoc, ← hx2]; repeat (first | rfl | omega | rw [if_pos (by omega)] | rw [if_neg (by omega)])⟩ (fun _ h => h.pick [1, 1, 1])
   ·
    rintro D1 ⟨x1, x2⟩ ⟨he1, he2⟩
    dsimp only at he1 he2
    refine qSeq rfl ?_
    refine hSeq ?_
    refine hDraw (Ls := [blk bka4 2 [.int .i64 x1], blk bka5 2 [.int .i64 x2]]) (by kernel_rfl) (sq 0 (sq 1 (sq 2 (sq 3 (sq 4 sz))))) (by kernel_rfl) (.cons _ (.cons _ (.cons _ (.cons _ (.cons _ (.cons _ (.cons _ (.cons_cons _ (.cons_cons _ .slnil))))))))) ?_
    refine ldq Try.isAgg2 (cB 0 rfl rfl) rfl rfl rfl ?_
    refine ldq Try.isAgg2 (cB 1 rfl rfl) rfl rfl rfl ?_
    refine asI rfl rfl rfl ?_
    refine asI rfl rfl rfl ?_
    refine asI rfl rfl rfl ?_
    refine rNil ?_
    refine qSeq rfl ?_
    refine hRet ?_
    exact Kn.leave 0 rfl <| fun w hs => ⟨[.int .i64 x1, .int .i64 x2, .int .i64 0], ⟨rfl, ⟨rfl, ⟨rfl, trivial⟩⟩⟩, ⟨(x1, x2, 0), rfl, ⟨by first | exact hA.symm | (rw [hA]; exact he1), by first | exact hB.symm | (rw [hB]; exact he2), hC.symm⟩, hs.pick []⟩⟩
   ·
    exact fun _ _ _ _ h => h.elim
end Go.Proofs.Yteaahdakammffaa
/- Contracts of choices, as the model makes them. Their conditions stand in each. -/
namespace Go.Proofs.Yteaahdakammffaa
open Go Go.RowKit V
set_option linter.unusedVariables false
set_option linter.unusedSimpArgs false
set_option maxRecDepth 100000
theorem bsl22_0   : ∀ w, (Instr.buildSlice 22 0 ([] : List (Nat × Value)).toArray).run Try.prog w = .ok (.slice (some ⟨w.heap.size, 0, none⟩) 0 0) (w.alloc (.cells ([] : List Value).toArray 23)) := by
 intro w; simp [Instr.buildSlice, Instr.fill, Try.zeroValue23, Try.runUnderlying22, Try.sizeOf23, Value.cells_int, newRow, show Array.range 0 = #[] from by decide]
theorem bsl22_1 (v0 : Value) (h0 : v0.cells = #[v0]) : ∀ w, (Instr.buildSlice 22 1 ([(0, v0)] : List (Nat × Value)).toArray).run Try.prog w = .ok (.slice (some ⟨w.heap.size, 0, none⟩) 1 1) (w.alloc (.cells ([v0] : List Value).toArray 23)) := by
 intro w; simp [Instr.buildSlice, Instr.fill, Try.zeroValue23, Try.runUnderlying22, Try.sizeOf23, Value.cells_int, newRow, show Array.range 1 = #[0] from by decide, h0]
theorem bsl23_0   : ∀ w, (Instr.buildSlice 23 0 ([] : List (Nat × Value)).toArray).run Try.prog w = .ok (.slice (some ⟨w.heap.size, 0, none⟩) 0 0) (w.alloc (.cells ([] : List Value).toArray 2)) := by
 intro w; simp [Instr.buildSlice, Instr.fill, Try.zeroValue2, Try.runUnderlying23, Try.sizeOf2, Value.cells_int, newRow, show Array.range 0 = #[] from by decide]
theorem spec_l04Choices_c_r (kk_ : Nat) : ∀ (az : Option Addr) (nz : Nat) (cz : Nat) (z : List Int) (k : Int) (w : World), k.toNat = kk_ → RdI az nz z w → (nz ≤ cz) → (0 ≤ k ∧ k ≤ 5) → (z.length ≤ 60) → Calls Try.prog 136 #[.slice az nz cz, .int .i64 k] w (Ret fun v w' => ∃ x : Option Addr × Nat × Nat × (Nat → Hd) × List (List Int), v = .slice x.1 x.2.1 x.2.2.1 ∧ (x.2.2.2.2 = Cm.chs z k.toNat) ∧ Sep w none_ [OwnR maK 23 2 x.1 x.2.1 x.2.2.1 x.2.2.2.1 x.2.2.2.2] w') := by
 induction kk_ using Nat.strongRecOn with
 | _ kk_ ih =>
  intro az nz cz z k w hK rz hcz hk hzl
  have kz : Kn w none_ [] (RdI az nz z) := fun w' hs => rz.ext hs.upd
  have lz : z.length = nz := rz.1
  have mz : nz ≤ 9223372036854775807 := rz.2.1
  refine fn (M := none_) (rs := [.tmp 4]) Try.func136 rfl Try.ntmps136 rfl rfl (Sep.start _ _) ?_
  refine hSeq ?_
  refine hReg (sq 0 sz) (by kernel_rfl) ?_
  refine asS rfl rfl rfl ?_
  refine rNil ?_
  refine qSeq rfl ?_
  refine hSeq ?_
  refine hSeq ?_
  refine hReg (sq 0 (sq 1 sz)) (by kernel_rfl) ?_
  refine mvI rfl rfl rfl ?_
  refine eql rfl rfl rfl rfl ?_
  refine rNil ?_
  refine qSeq rfl ?_
  refine hIfD rfl (fun c1 => ?_) (fun c1 => ?_)
  ·
   replace c1 : k = 0 := c1
   refine hSeq ?_
   refine hReg (sl 0 (sl 1 (sq 2 sz))) (by kernel_rfl) ?_
   refine bsl trv1 rfl rfl rfl (bsl23_0) (fun bkl1 hbkl1 => ?_)
   refine bsl trv1 rfl rfl rfl (bsl22_1 (.slice _ _ _) rfl) (fun bkl2 hbkl2 => ?_)
   refine asS rfl rfl rfl ?_
   refine rNil ?_
   refine qSeq rfl ?_
   refine hRet ?_
   refine knP (fun _ h => Sep.litI h 1 [] rfl rfl rfl) ?_
   refine knP (L' := [OwnI 2 (some ⟨bkl1, 0, none⟩) 0 0 [], blk bkl2 23 [.slice (some ⟨bkl1, 0, none⟩) 0 0]]) (fun _ h => h.perm (pull (i := 1) rfl)) ?_
   refine knP (L' := [blk bkl2 23 [.slice (some ⟨bkl1, 0, none⟩) 0 0], OwnI 2 (some ⟨bkl1, 0, none⟩) 0 0 []]) (fun _ h => h.perm (pull (i := 1) rfl)) ?_
   refine knP (L' := [OwnR maK 23 2 (some ⟨bkl2, 0, none⟩) 1 1 ((fun _ => ((some ⟨bkl1, 0, none⟩), 0))) ([[]])]) (fun _ h => Sep.litR1 h) ?_
   exact fun w hs => ⟨[.slice (some ⟨bkl2, 0, none⟩) 1 1], ⟨rfl, trivial⟩, ⟨((some ⟨bkl2, 0, none⟩), 1, 1, (fun _ => ((some ⟨bkl1, 0, none⟩), 0)), [[]]), rfl, by rw [show k.toNat = 0 by omega, Cm.chs_zero], hs.pick [0]⟩⟩
  ·
   replace c1 : ¬ (k = 0) := c1
   refine hSkip ?_
   refine qSeq rfl ?_
   refine hSeq ?_
   refine hReg (sl 0 (sq 1 sz)) (by kernel_rfl) ?_
   refine bsl trv1 rfl rfl rfl (bsl22_0) (fun bkl5 hbkl5 => ?_)
   refine asS rfl rfl rfl ?_
   refine rNil ?_
   refine qSeq rfl ?_
   refine hSeq ?_
   refine hSeq ?_
   refine hReg (sq 0 sz) (by kernel_rfl) ?_
   refine asI rfl rfl rfl ?_
   refine rNil ?_
   refine qSeq rfl ?_
   refine hBlk ?_
   refine hPieces (fun _ h => Sep.litR maK 23 2 (fun _ => (none, 0)) h 0 rfl) ?_
   refine hLoop (α := Nat × List (List Int) × Nat × Hd × (Nat → Hd)) (fun x => x.1 ≤ nz + 1 ∧ (x.2.1 ++ Cm.chs (z.drop x.1) k.toNat = Cm.chs z k.toNat ∧ x.2.2.1 = x.2.1.length)) (fun x => nz + 1 - x.1) (fun x => [OwnR maK 23 2 x.2.2.2.1.1 x.2.2.1 x.2.2.2.1.2 x.2.2.2.2 x.2.1]) (fun x => [(0, .slice az nz cz), (1, .int .i64 k), (5, .slice x.2.2.2.1.1 x.2.2.1 x.2.2.2.1.2), (6, .int .i64 (x.1 : Int))]) ((0, [], 0, (((some ⟨bkl5, 0, none⟩), 0), (fun _ => (none, 0))))) ⟨by dsimp only; omega, rfl, rfl⟩ (fun _ h => h.pick [0]) ⟨rfl, rfl, rfl, rfl, trivial⟩ ?_
   rintro ⟨i, o, n, hd⟩ τ1 ⟨hi, ho, hn⟩
   dsimp only at hi ho hn
   refine hRe [(0, .slice az nz cz), (1, .int .i64 k), (5, .slice hd.1.1 n hd.1.2), (6, .int .i64 (i : Int))] [OwnR maK 23 2 hd.1.1 n hd.1.2 hd.2 o] rfl rfl ?_
   refine hSeq ?_
   refine hSeq ?_
   refine hReg (sq 0 (sq 1 (sq 2 (sq 3 (sq 4 (sq 5 sz)))))) (by kernel_rfl) ?_
   refine mvI rfl rfl rfl ?_
   refine mvI rfl rfl rfl ?_
   refine add rfl rfl rfl rfl (by omega) ?_
   refine mvS rfl rfl rfl ?_
   refine lenS Try.runUnderlying23 rfl rfl rfl ?_
   refine leq rfl rfl rfl rfl ?_
   refine rNil ?_
   refine qSeq rfl ?_
   refine hIfD rfl (fun c2 => ?_) (fun c2 => ?_)
   ·
    replace c2 : ((i : Int) + k) ≤ (nz : Int) := c2
    have hiz : i < z.length := by omega
    have hnx : o ++ (Cm.chs (z.drop (i + 1)) (k - 1).toNat).map (fun c => z.getD i 0 :: c) ++ Cm.chs (z.drop (i + 1)) k.toNat = Cm.chs z k.toNat := by
     have h0 := Cm.chs_drop (k := (k - 1).toNat) hiz
     rw [show (k - 1).toNat + 1 = k.toNat by omega] at h0
     rw [List.append_assoc, ← h0]; exact ho
    have hbd := Cm.chs_bd (z := z) (k := k.toNat) (by omega) (by omega)
    have hlen := congrArg List.length hnx
    rw [List.length_append, List.length_append, List.length_map] at hlen
    refine hSkip ?_
    refine qSeq rfl ?_
    refine hSeq ?_
    refine hBlk ?_
    refine hSeq ?_
    refine hReg (sq 0 (sq 1 (sq 2 (sq 3 (sq 4 (sq 5 (sl 6 (sq 7 sz)))))))) (by kernel_rfl) ?_
    refine mvS rfl rfl rfl ?_
    refine mvI rfl rfl rfl ?_
    refine add rfl rfl rfl rfl (by omega) ?_
    refine slLoRd (zn := (i + 1)) (Kn.drop (k := 1) kz) (by omega) el23 rfl rfl rfl rfl (by omega) (by omega) rfl ?_
    intro ae1 e1
    refine mvI rfl rfl rfl ?_
    refine sub rfl rfl rfl rfl (by omega) ?_
    refine callS Try.call136 trv1 rfl rfl (fun w hs => ih _ (by omega) _ ((nz - (i + 1))) ((cz - (i + 1))) _ _ w rfl (e1 w hs) (by first | assumption | omega) (by omega) (by first | omega | (rw [List.length_drop]; omega))) ?_
    rintro ⟨ay2, ny2, cy2, Hy2, y2⟩ hr2
    dsimp only at hr2
    subst y2
    refine rPieces (L' := [OwnR maK 23 2 ay2 ny2 cy2 Hy2 (((Cm.chs ((z.drop (i + 1))) (k - 1).toNat))), OwnR maK 23 2 hd.1.1 n hd.1.2 hd.2 o]) (fun _ h => h) ?_
    refine rKnow (fun w hs => (show OwnR maK 23 2 ay2 ny2 cy2 Hy2 (((Cm.chs ((z.drop (i + 1))) (k - 1).toNat))) w from hs.at_ 0 rfl).1) (fun lenn6 => ?_)
    refine rVal (v' := .slice ay2 ny2 cy2) rfl ?_
    refine asS rfl rfl rfl ?_
    refine rNil ?_
    refine qSeq rfl ?_
    refine hSeq ?_
    refine hReg (sq 0 sz) (by kernel_rfl) ?_
    refine asI rfl rfl rfl ?_
    refine rNil ?_
    refine qSeq rfl ?_
    refine hBlk ?_
    refine hLoop (α := Nat × List (List Int) × Nat × Hd × (Nat → Hd)) (fun x => x.1 ≤ (Cm.chs (z.drop (i + 1)) (k - 1).toNat).length ∧ (x.2.1 = o ++ ((Cm.chs (z.drop (i + 1)) (k - 1).toNat).take x.1).map (fun c => z.getD i 0 :: c) ∧ x.2.2.1 = x.2.1.length)) (fun x => (Cm.chs (z.drop (i + 1)) (k - 1).toNat).length - x.1) (fun x => [OwnR maK 23 2 ay2 ny2 cy2 Hy2 (((Cm.chs ((z.drop (i + 1))) (k - 1).toNat))), OwnR maK 23 2 x.2.2.2.1.1 x.2.2.1 x.2.2.2.1.2 x.2.2.2.2 x.2.1]) (fun x => [(0, .slice az nz cz), (1, .int .i64 k), (5, .slice x.2.2.2.1.1 x.2.2.1 x.2.2.2.1.2), (6, .int .i64 (i : Int)), (7, .slice ay2 ny2 cy2), (8, .int .i64 (x.1 : Int))]) ((0, o, n, ((hd.1.1, hd.1.2), hd.2))) ⟨Nat.zero_le _, by dsimp only; rw [List.take_zero]; simp, hn⟩ (fun _ h => h.pick [0, 0]) ⟨rfl, rfl, rfl, rfl, rfl, rfl, trivial⟩ ?_
    rintro ⟨j, p, m, he⟩ τ2 ⟨hj, hp, hm⟩
    dsimp only at hj hp hm
    refine hRe [(0, .slice az nz cz), (1, .int .i64 k), (5, .slice he.1.1 m he.1.2), (6, .int .i64 (i : Int)), (7, .slice ay2 ny2 cy2), (8, .int .i64 (j : Int))] [OwnR maK 23 2 ay2 ny2 cy2 Hy2 (((Cm.chs ((z.drop (i + 1))) (k - 1).toNat))), OwnR maK 23 2 he.1.1 m he.1.2 he.2 p] rfl rfl ?_
    refine hSeq ?_
    refine hSeq ?_
    refine hReg (sq 0 (sq 1 (sq 2 (sq 3 sz)))) (by kernel_rfl) ?_
    refine mvI rfl rfl rfl ?_
    refine mvS rfl rfl rfl ?_
    refine lenS Try.runUnderlying22 rfl rfl rfl ?_
    refine lss rfl rfl rfl rfl ?_
    refine rNil ?_
    refine qSeq rfl ?_
    refine hIfD rfl (fun c3 => ?_) (fun c3 => ?_)
    ·
     replace c3 : (j : Int) < (ny2 : Int) := c3
     have hjl : j < (Cm.chs (z.drop (i + 1)) (k - 1).toNat).length := by omega
     have hjg : (Cm.chs (z.drop (i + 1)) (k - 1).toNat).getD j [] = (Cm.chs (z.drop (i + 1)) (k - 1).toNat)[j] := by rw [List.getD_eq_getElem?_getD, List.getElem?_eq_getElem hjl]; rfl
     have hpl := congrArg List.length hp
     rw [List.length_append, List.length_map, List.length_take] at hpl
     have hrw := (Cm.chs_row _ _ _ (Cm.getD_mem' (d := []) hjl)).1
     refine hSkip ?_
     refine qSeq rfl ?_
     refine hSeq ?_
     refine hBlk ?_
     refine hPieces (L' := [OwnR maK 23 2 he.1.1 m he.1.2 he.2 p, OwnR maK 23 2 ay2 ny2 cy2 Hy2 (((Cm.chs ((z.drop (i + 1))) (k - 1).toNat)))]) (fun _ h => h.perm (pull (i := 1) rfl)) ?_
     refine hDraw (Ls := [OwnR maK 23 2 ay2 ny2 cy2 Hy2 (((Cm.chs ((z.drop (i + 1))) (k - 1).toNat)))]) (by kernel_rfl) (sq 0 (sq 1 (sq 2 (sq 3 (sq 4 (sq 6 (sq 7 (sq 8 (sq 9 (sl 5 (sl 10 (sl 11 (sl 12 (sq 13 sz)))))))))))))) (by kernel_rfl) (.cons _ (.cons_cons _ .slnil)) ?_
     refine mvS rfl rfl rfl ?_
     refine mvS rfl rfl rfl ?_
     refine mvI rfl rfl rfl ?_
     refine ixIq (zn := i) el23 (Kn.drop (k := 1) kz) (fun _ h => h.pick [1]) rfl rfl rfl rfl (by omega) (by omega) rfl ?_
     intro ae3 e3
     refine ldq Try.isAgg2 (e3) rfl rfl rfl ?_
     refine mvS rfl rfl rfl ?_
     refine mvI rfl rfl rfl ?_
     refine ixRq (zn := j) ((((Cm.chs ((z.drop (i + 1))) (k - 1).toNat))).getD j []) el22 ((Kn.at_ 0 rfl).imp fun _ h => OwnR.rd h maK.ok) (fun _ h => h.pick [1]) rfl rfl rfl rfl (by omega) (by omega) rfl (nth [] (by omega)) ?_
     intro be4 oe4 e4
     refine ldq Try.isAgg23 (Kn.fld e4 0 rfl) rfl rfl rfl ?_
     refine bsl (fun _ _ h => h.pick [2]) rfl rfl rfl (bsl23_1 (.int .i64 _) rfl) (fun bkl7 hbkl7 => ?_)
     refine rPieces (fun _ h => Sep.litI h 0 [(z.getD i 0)] rfl rfl rfl) ?_
     refine aplL (N := 1) (ys := (((((Cm.chs ((z.drop (i + 1))) (k - 1).toNat))).getD j []))) 0 rfl (Kn.drop (k := 2) ((Kn.imp ((Kn.at_ (φ := OwnR maK 23 2 ay2 ny2 cy2 Hy2 (((Cm.chs ((z.drop (i + 1))) (k - 1).toNat)))) 0 rfl).imp fun _ h => OwnR.rd h maK.ok) fun _ h => h.kidM (nth [] (by omega))))) mk23 (fun _ _ h => h.pick [2]) rfl rfl rfl rfl (by omega) ?_
     intro aq5 cq5
     refine bsl (fun _ _ h => h.pick [3]) rfl rfl rfl (bsl22_1 (.slice _ _ _) rfl) (fun bkl8 hbkl8 => ?_)
     refine apR (hd := (aq5, cq5)) (x := ([(z.getD i 0)] ++ ((((Cm.chs ((z.drop (i + 1))) (k - 1).toNat))).getD j []))) 2 1 0 maK.ok rfl rfl rfl (fun h => by first | rfl | (dsimp only at h; rw [h]; rfl) | (rw [h]; rfl) | exact congrArg (fun m => [Value.slice _ m _]) h) mk22 (fun _ _ h => h.pick [2]) rfl rfl rfl rfl (by omega) ?_
     intro aq6 cq6
     refine asS rfl rfl rfl ?_
     refine rNil ?_
     refine qSeq rfl ?_
     refine hReg (sq 0 (sq 1 (sq 2 sz))) (by kernel_rfl) ?_
     refine mvI rfl rfl rfl ?_
     refine add rfl rfl rfl rfl (by omega) ?_
     refine asI rfl rfl rfl ?_
     refine rNil ?_
     exact qNext rfl ((j + 1, (p ++ [([(z.getD i 0)] ++ ((((Cm.chs ((z.drop (i + 1))) (k - 1).toNat))).getD j []))]), (m + 1), ((aq6, cq6), (hset he.2 p.length (aq5, cq5))))) (by dsimp only; omega) ⟨by dsimp only; omega, by dsimp only; rw [hp, List.take_succ_eq_append_getElem hjl, List.map_append, List.append_assoc, ← hjg]; rfl, by dsimp only; rw [List.length_append]; simp; omega⟩ ⟨rfl, rfl, rfl, rfl, rfl, rfl, trivial⟩ (fun _ h => h.pick [2, 0])
    ·
     replace c3 : ¬ ((j : Int) < (ny2 : Int)) := c3
     have hp2 : p = o ++ (Cm.chs (z.drop (i + 1)) (k - 1).toNat).map (fun c => z.getD i 0 :: c) := by rw [hp, List.take_of_length_le (by omega)]
     refine hExit rfl ?_
     refine qSeq rfl ?_
     refine hReg (sq 0 (sq 1 (sq 2 sz))) (by kernel_rfl) ?_
     refine mvI rfl rfl rfl ?_
     refine add rfl rfl rfl rfl (by omega) ?_
     refine asI rfl rfl rfl ?_
     refine rNil ?_
     exact qNext rfl ((i + 1, p, m, ((he.1.1, he.1.2), he.2))) (by dsimp only; omega) ⟨by dsimp only; omega, by dsimp only; rw [hp2]; exact hnx, by dsimp only; omega⟩ ⟨rfl, rfl, rfl, rfl, trivial⟩ (fun _ h => h.pick [1])
   ·
    replace c2 : ¬ (((i : Int) + k) ≤ (nz : Int)) := c2
    refine hExit rfl ?_
    refine qSeq rfl ?_
    refine hSeq ?_
    refine hReg (sq 0 (sq 1 sz)) (by kernel_rfl) ?_
    refine mvS rfl rfl rfl ?_
    refine asS rfl rfl rfl ?_
    refine rNil ?_
    refine qSeq rfl ?_
    refine hRet ?_
    exact fun w hs => ⟨[.slice hd.1.1 n hd.1.2], ⟨rfl, trivial⟩, ⟨(hd.1.1, n, hd.1.2, hd.2, o), rfl, by rw [← ho, Cm.chs_none _ _ (by rw [List.length_drop]; omega), List.append_nil], hs.pick [0]⟩⟩
theorem spec_l04Choices_c (az : Option Addr) (nz : Nat) (cz : Nat) (z : List Int) (k : Int) (w : World) (rz : RdI az nz z w) (hcz : nz ≤ cz) (hk : 0 ≤ k ∧ k ≤ 5) (hzl : z.length ≤ 60) :
  Calls Try.prog 136 #[.slice az nz cz, .int .i64 k] w (Ret fun v w' => ∃ x : Option Addr × Nat × Nat × (Nat → Hd) × List (List Int), v = .slice x.1 x.2.1 x.2.2.1 ∧ (x.2.2.2.2 = Cm.chs z k.toNat) ∧ Sep w none_ [OwnR maK 23 2 x.1 x.2.1 x.2.2.1 x.2.2.2.1 x.2.2.2.2] w') := spec_l04Choices_c_r _ az nz cz z k w rfl rz hcz hk hzl
end Go.Proofs.Yteaahdakammffaa
/- Sources of draws: what a function that draws is handed. No condition. -/
namespace Go.Proofs.Yteaahdakammffaa
open Go Go.RowKit V
set_option linter.unusedVariables false
set_option linter.unusedSimpArgs false
def okBytes (bs : List Int) : Prop := (∀ x ∈ bs, 0 ≤ x ∧ x ≤ 255) ∧ bs.length ≤ 1000000000000000
/-- A source at block 'bk' over the bytes 'bs'. -/
def srcP (bk : Nat) (ca : Option Addr) (bs : List Int) (cc : Nat) : World → Prop := fun w =>
  ∃ p s : Int, blk bk 130 [.slice ca bs.length cc, .int .i64 p, .int .i64 s] w ∧ 0 ≤ p ∧ p ≤ bs.length ∧ 0 ≤ s ∧ s ≤ 2147483646
/-- The bytes, whatever becomes of block 'bk'. -/
def Code_ (bk : Nat) (ca : Option Addr) (bs : List Int) (w : World) : Prop := ∀ w', Upd (fun k => k = bk) w w' → CellsAt ca (bs.map (Value.int .u8)) w'
def SrcIn (bk : Nat) (ca : Option Addr) (bs : List Int) (cc : Nat) (w : World) : Prop := srcP bk ca bs cc w ∧ Code_ bk ca bs w ∧ okBytes bs
theorem srcP_mem {bk : Nat} {ca : Option Addr} {bs : List Int} {cc : Nat} : ∀ (f : Nat → Prop) (w : World), St f (srcP bk ca bs cc) w → f bk := by
  intro f w h
  refine Classical.byContradiction fun hn => ?_
  obtain ⟨p, s, h1, _⟩ := h.out
  have hlt : bk < w.heap.size := (Array.getElem?_eq_some_iff.1 h1).1
  obtain ⟨p', s', h2, _⟩ := h { w with heap := w.heap.setIfInBounds bk (.map #[] 0) } fun k hk => by
    have : bk ≠ k := fun e => hn (e ▸ hk)
    show (w.heap.setIfInBounds bk (.map #[] 0))[k]? = _
    rw [Array.getElem?_setIfInBounds_ne this]
  unfold blk at h2
  simp [hlt] at h2
theorem Code_.upd {bk : Nat} {ca : Option Addr} {bs : List Int} {w w' : World} (h : Code_ bk ca bs w) (hu : Upd (fun k => k = bk) w w') : Code_ bk ca bs w' := fun w'' hu' => h w'' (hu.trans hu')
/-- Two pieces lie apart. -/
theorem SepL_ne {M : Nat → Prop} {B T : Nat} {w : World} : ∀ {fs : List (Nat → Prop)} {L : List (World → Prop)}, SepL M B T fs L w → ∀ {i j : Nat} {φ ψ : World → Prop}, L[i]? = some φ → L[j]? = some ψ → i ≠ j →
    ∃ f f', St f φ w ∧ St f' ψ w ∧ ∀ k, f k → ¬ f' k := by
  intro fs
  induction fs with
  | nil => intro L h i j φ ψ hi; cases L with | nil => simp at hi | cons _ _ => exact h.elim
  | cons f fs ih =>
    intro L h i j φ ψ hi hj hne
    cases L with
    | nil => exact h.elim
    | cons χ L =>
      obtain ⟨h1, h2, h3, h4⟩ := h
      cases i with
      | zero =>
        cases j with
        | zero => exact absurd rfl hne
        | succ j =>
          simp at hi; subst hi
          obtain ⟨f', hf', hst⟩ := h4.at_ (by simpa using hj)
          exact ⟨f, f', h3, hst, fun k hk hk' => h2 f' (List.mem_of_getElem? hf') k hk hk'⟩
      | succ i =>
        cases j with
        | zero =>
          simp at hj; subst hj
          obtain ⟨f', hf', hst⟩ := h4.at_ (by simpa using hi)
          exact ⟨f', f, hst, h3, fun k hk hk' => h2 f' (List.mem_of_getElem? hf') k hk' hk⟩
        | succ j => exact ih h4 (by simpa using hi) (by simpa using hj) (by omega)
/-- The list of a draw's choices, whatever becomes of the source. -/
def Lst (bk : Nat) (a : Option Addr) (xs : List Int) (w : World) : Prop := ∀ w', Upd (fun k => k = bk) w w' → CellsAt a (xs.map (Value.int .i64)) w'
theorem Lst.of {w0 : World} {M : Nat → Prop} {L : List (World → Prop)} {w : World} (hs : Sep w0 M L w) (i j : Nat) {lb e bk : Nat} {ca : Option Addr} {bs : List Int} {cc : Nat} {xs : List Int} {vs : List Value}
    (hi : L[i]? = some (blk lb e vs)) (hj : L[j]? = some (srcP bk ca bs cc)) (hne : i ≠ j) (hv : vs = xs.map (Value.int .i64)) : Lst bk (some ⟨lb, 0, none⟩) xs w := by
  subst hv
  intro w' hu
  obtain ⟨_, fs, h⟩ := hs
  obtain ⟨f, f', h1, h2, h3⟩ := SepL_ne h hi hj hne
  have hl := blk.mem h1
  have hb := srcP_mem f' w h2
  have hlt : lb < w.heap.size := (Array.getElem?_eq_some_iff.1 h1.out).1
  refine CellsAt.blk (e := e) ?_
  have hne' : ¬ lb = bk := fun h => h3 lb hl (h ▸ hb)
  unfold blk
  rw [hu.block lb hlt hne']
  exact h1.out
def toI : Value → Int
  | .int _ z => z
  | _ => 0
theorem okBytes.at_ {bs : List Int} (h : okBytes bs) (k : Nat) : 0 ≤ bs.getD k 0 ∧ bs.getD k 0 ≤ 255 := by
  by_cases hk : k < bs.length
  · have := h.1 _ (List.getElem_mem hk)
    simp [List.getD, List.getElem?_eq_getElem hk]; exact this
  · simp [List.getD, List.getElem?_eq_none (Nat.le_of_not_lt hk)]
theorem getD_mem {l : List Int} {k : Nat} (h : k < l.length) : l.getD k 0 ∈ l := by
  simp [List.getD, List.getElem?_eq_getElem h]
end Go.Proofs.Yteaahdakammffaa
/- Contracts of the sources of draws. Their conditions stand in each. -/
namespace Go.Proofs.Yteaahdakammffaa
open Go Go.RowKit V
set_option linter.unusedVariables false
set_option linter.unusedSimpArgs false
set_option maxRecDepth 100000
end Go.Proofs.Yteaahdakammffaa
/- A slice put into an owned row; plain facts on bet trees. No condition. -/
namespace Go.Proofs.Yteaahdakammffaa.V
open Go Go.RowKit
set_option linter.unusedVariables false
set_option linter.unusedSimpArgs false
section
variable {P : Program} {n : Cx} {w0 : World} {M : Nat → Prop} {L L' : List (World → Prop)} {σ : Fr} {K K' : Ko} {c x y : Code} {ops : Array Oper} {S : World → Prop} {r : Sch} {i : Nat}
variable {d : Nat} {t : TypeId} {p : String} {af : Array Edge} {g : Option (Nat × Bool)} {a b : Operand}
variable {α : Type} {k : RK α} {ty e e1 by_ N C : Nat} {ao : Option Addr} {hs : Nat → Hd} {xs : List α} {zc : List Value}
end
end Go.Proofs.Yteaahdakammffaa.V
namespace Go.Proofs.Yteaahdakammffaa.Math
open Go.Proofs.Yteaahdakammffaa.V
/-- How often a tree may grow on. -/
def ckN (ck : Bool) : Int := if ck then 2 else 3
def p2 : Nat → Nat
 | 0 => 1
 | f + 1 => p2 f + p2 f
/-- A bet tree: the nodes that are added. -/
def growF : Nat → Int → Int → Int → Int → Int → Bool → Nat → List Nd
 | 0, _, _, _, _, _, _, _ => []
 | f + 1, pl, p0, p1, bet, r, ck, b =>
  if p0 = p1 then
   ⟨pl, p0, p1, -1, [((b + 1 : Nat) : Int), ((b + 1 + (if ck then [(⟨2, p0, p1, -1, []⟩ : Nd)] else growF f (1 - pl) p0 p1 bet r true (b + 1)).length : Nat) : Int)]⟩ ::
    ((if ck then [(⟨2, p0, p1, -1, []⟩ : Nd)] else growF f (1 - pl) p0 p1 bet r true (b + 1)) ++
     growF f (1 - pl) (if pl = 0 then p1 + bet else p0) (if pl = 0 then p1 else p0 + bet) bet r false (b + 1 + (if ck then [(⟨2, p0, p1, -1, []⟩ : Nd)] else growF f (1 - pl) p0 p1 bet r true (b + 1)).length))
  else if r = 0 then [⟨pl, p0, p1, -1, [((b + 1 : Nat) : Int), ((b + 1 + 1 : Nat) : Int)]⟩, ⟨2, p0, p1, pl, []⟩, ⟨2, if pl = 0 then p1 else p0, if pl = 0 then p1 else p0, -1, []⟩]
  else ⟨pl, p0, p1, -1, [((b + 1 : Nat) : Int), ((b + 1 + 1 : Nat) : Int), ((b + 1 + 1 + 1 : Nat) : Int)]⟩ :: ⟨2, p0, p1, pl, []⟩ :: ⟨2, if pl = 0 then p1 else p0, if pl = 0 then p1 else p0, -1, []⟩ ::
   growF f (1 - pl) (if pl = 0 then p1 + bet else p0) (if pl = 0 then p1 else p0 + bet) bet (r - 1) false (b + 1 + 1 + 1)
section
variable {z : List Nd} {f n n1 n2 : Nat} {pl p0 p1 q0 q1 o bet r r1 pm : Int} {ck : Bool} {ch : List Int} {A B : List Nd}
end
def betAt (ante bet r : Int) : List Nd × Int := if (0 ≤ ante ∧ ante ≤ 100) ∧ (1 ≤ bet ∧ bet ≤ 100) ∧ (0 ≤ r ∧ r ≤ 2) ∧ ante + bet * (r + 1) ≤ 100 then (growF 5 0 ante ante bet r false 0, 0) else ([], 2)
end Go.Proofs.Yteaahdakammffaa.Math
/- Calls that turn what they are handed, and read what nobody turns. No condition. -/
namespace Go.Proofs.Yteaahdakammffaa.V
open Go Go.RowKit
set_option linter.unusedVariables false
set_option linter.unusedSimpArgs false
section
variable {P : Program} {n : Cx} {w0 : World} {M : Nat → Prop} {L L' Lf Lr : List (World → Prop)} {σ : Fr} {K K' : Ko} {c x y : Code} {ops : Array Oper} {S : World → Prop} {r : Sch} {i : Nat}
variable {d : Nat} {t : TypeId} {p : String} {af : Array Edge} {g : Option (Nat × Bool)} {a b : Operand}
end
end Go.Proofs.Yteaahdakammffaa.V
namespace Go.Proofs.Yteaahdakammffaa
open Go Go.RowKit V
end Go.Proofs.Yteaahdakammffaa
/- Numbers that a source hands out. Their conditions stand in each. -/
namespace Go.Proofs.Yteaahdakammffaa
open Go Go.RowKit V
set_option linter.unusedVariables false
set_option linter.unusedSimpArgs false
set_option maxRecDepth 100000
end Go.Proofs.Yteaahdakammffaa
/- Rows copied with what they lead to; rows that are read. No condition. -/
namespace Go.Proofs.Yteaahdakammffaa.V
open Go Go.RowKit
set_option linter.unusedVariables false
set_option linter.unusedSimpArgs false
section
variable {P : Program} {ty e m by_ : Nat} {zc : List Value}
end
section
variable {P : Program} {n : Cx} {w0 : World} {M : Nat → Prop} {L L' Lf Lr : List (World → Prop)} {σ : Fr} {K K' : Ko} {c x y : Code} {ops : Array Oper} {S : World → Prop} {r : Sch} {i : Nat}
variable {d : Nat} {t : TypeId} {p : String} {af : Array Edge} {g : Option (Nat × Bool)} {a b : Operand}
variable {ty e m by_ N C : Nat} {ao : Option Addr} {xs : List Value} {zc : List Value}
end
section
variable {α : Type} {k : RK α} {e e1 e2 : Nat} {a a2 : Option Addr} {n c c2 q : Nat} {hs : Nat → Hd} {xs : List α} {x : α} {w : World}
theorem OwnR.cellsAt (h : OwnR k e e1 a n c hs xs w) : CellsAt a (rowsV k hs xs).flatten w := fun i v hi => by
  obtain ⟨b, hb, hc⟩ := h.2.1.cell hi
  exact ⟨b, 0, hb, by rw [Nat.zero_add]; exact hc⟩
theorem OwnR.flat_len (h : OwnR k e e1 a n c hs xs w) : (rowsV k hs xs).flatten.length = n * k.m := h.2.1.1
/-- Rows, copied, and one of them once more: read. -/
theorem RdR.copy (hk : k.Ok) (hc : Own e2 k.m a2 (n + 1) c2 ((rowsV k hs xs).flatten ++ k.cells x (hs q)) w) (ho : OwnR k e e1 a n c hs xs w) (hx : xs[q]? = some x) : RdR k a2 (n + 1) (hset hs n (hs q)) (xs ++ [x]) w := by
  have hl := ho.1
  have hrows : rowsV k (hset hs n (hs q)) (xs ++ [x]) = rowsV k hs xs ++ [k.cells x (hs q)] := by rw [← hl]; exact rowsV_app _
  have hcc : Own e2 k.m a2 (n + 1) c2 (rowsV k (hset hs n (hs q)) (xs ++ [x])).flatten w := by
    rw [hrows, List.flatten_append]; simpa using hc
  refine ⟨by simp [hl], hc.max, fun i y hy => ⟨?_, ?_⟩⟩
  · have hpos := hk.pos
    have hlen := hk.len y (hset hs n (hs q) i)
    have key : ∀ j v, (k.cells y (hset hs n (hs q) i))[j]? = some v → ∃ b, a2 = some ⟨b, 0, none⟩ ∧ w.cell? ⟨b, i * k.m + j, none⟩ = some v := fun j v hj => hcc.cell (flat_get (rowsV_all hk) (rowsV_get hy) hj)
    obtain ⟨b, hb, _⟩ := key 0 ((k.cells y (hset hs n (hs q) i))[0]'(by omega)) (List.getElem?_eq_getElem (by omega))
    refine ⟨b, 0, hb, fun j v hj => ?_⟩
    obtain ⟨b', hb', hcell⟩ := key j v hj
    rw [hb] at hb'; cases hb'
    rw [Nat.zero_add]; exact hcell
  · rcases Nat.lt_or_ge i xs.length with hi | hi
    · rw [List.getElem?_append_left hi] at hy
      rw [hset_other hs (hs q) (show i ≠ n by omega)]
      exact (ho.2.2.1 i y hy).rd
    · have hix : i = n := by
        have := (List.getElem?_eq_some_iff.1 hy).1
        simp at this; omega
      subst hix
      rw [List.getElem?_append_right (by omega)] at hy
      simp [hl] at hy; subst hy
      rw [hset_same]
      exact (ho.2.2.1 q x hx).rd
theorem RdR.take {hs : Nat → Hd} (h : RdR k a n hs xs w) {j : Nat} (hj : j ≤ n) : RdR k a j hs (xs.take j) w :=
  ⟨by rw [List.length_take, h.1]; omega, by have := h.2.1; omega, fun i y hy => h.2.2 i y (by
    have := (List.getElem?_eq_some_iff.1 hy).1
    rw [List.length_take] at this
    rwa [List.getElem?_take_of_lt (by omega)] at hy)⟩
end
end Go.Proofs.Yteaahdakammffaa.V
/- The engine, part 15: rows that are turned round. No condition. -/
namespace Go.Proofs.Yteaahdakammffaa.V
open Go Go.RowKit
set_option linter.unusedVariables false
set_option linter.unusedSimpArgs false
section
variable {P : Program} {n : Cx} {w0 : World} {M : Nat → Prop} {L : List (World → Prop)} {σ : Fr} {K : Ko} {ops : Array Oper} {S : World → Prop} {r : Sch} {i : Nat}
variable {d : Nat} {t ty yt : TypeId} {p : String} {af : Array Edge} {g : Option (Nat × Bool)} {a b : Operand}
end
end Go.Proofs.Yteaahdakammffaa.V
/- Contracts of the reference: lists that are sorted, images. Their conditions stand in each. -/
namespace Go.Proofs.Yteaahdakammffaa
open Go Go.RowKit V
set_option linter.unusedVariables false
set_option linter.unusedSimpArgs false
set_option maxRecDepth 100000
theorem spec_l01Has_c (az : Option Addr) (nz : Nat) (cz : Nat) (z : List Int) (x0 : Int) (w : World) (rz : RdI az nz z w) :
  Calls Try.prog 133 #[.slice az nz cz, .int .i64 x0] w (Ret fun v w' => v = .bool (z.contains x0) ∧ Ext w w') := by
 have kz : Kn w none_ [] (RdI az nz z) := fun w' hs => rz.ext hs.upd
 have lz : z.length = nz := rz.1
 have mz : nz ≤ 9223372036854775807 := rz.2.1
 refine fn (M := none_) (rs := [.tmp 4]) Try.func133 rfl Try.ntmps133 rfl rfl (Sep.start _ _) ?_
 refine hSeq ?_
 refine hReg (sq 0 sz) (by kernel_rfl) ?_
 refine asB rfl rfl rfl ?_
 refine rNil ?_
 refine qSeq rfl ?_
 refine hSeq ?_
 refine hSeq ?_
 refine hReg (sq 0 sz) (by kernel_rfl) ?_
 refine asI rfl rfl rfl ?_
 refine rNil ?_
 refine qSeq rfl ?_
 refine hBlk ?_
 refine hLoop (α := Nat) (fun i => i ≤ nz ∧ x0 ∉ z.take i) (fun i => nz - i) (fun i => []) (fun i => [(0, .slice az nz cz), (1, .int .i64 x0), (5, .int .i64 (i : Int))]) 0 ⟨Nat.zero_le _, by simp⟩ (fun _ h => h.pick []) ⟨rfl, rfl, rfl, trivial⟩ ?_
 rintro i τ1 ⟨hi, hal⟩
 refine hSeq ?_
 refine hSeq ?_
 refine hReg (sq 0 (sq 1 (sq 2 (sq 3 sz)))) (by kernel_rfl) ?_
 refine mvI rfl rfl rfl ?_
 refine mvS rfl rfl rfl ?_
 refine lenS Try.runUnderlying23 rfl rfl rfl ?_
 refine lss rfl rfl rfl rfl ?_
 refine rNil ?_
 refine qSeq rfl ?_
 refine hIfD rfl (fun c1 => ?_) (fun c1 => ?_)
 ·
  replace c1 : (i : Int) < (nz : Int) := c1
  refine hSkip ?_
  refine qSeq rfl ?_
  refine hSeq ?_
  refine hBlk ?_
  refine hSeq ?_
  refine hReg (sq 0 (sq 1 (sq 2 (sl 3 (sq 4 (sq 5 sz)))))) (by kernel_rfl) ?_
  refine mvS rfl rfl rfl ?_
  refine mvI rfl rfl rfl ?_
  refine ixIl (zn := i) el23 (kz) rfl rfl rfl rfl (by omega) (by omega) rfl ?_
  intro ae1 e1
  refine ldl Try.isAgg2 (e1) trv rfl rfl rfl ?_
  refine mvI rfl rfl rfl ?_
  refine eql rfl rfl rfl rfl ?_
  refine rNil ?_
  refine qSeq rfl ?_
  refine hIfD rfl (fun c2 => ?_) (fun c2 => ?_)
  ·
   replace c2 : (z.getD i 0) = x0 := c2
   refine hSeq ?_
   refine hReg (sq 0 sz) (by kernel_rfl) ?_
   refine asB rfl rfl rfl ?_
   refine rNil ?_
   refine qSeq rfl ?_
   refine hRet ?_
   exact fun w hs => ⟨[.bool true], ⟨rfl, trivial⟩, ⟨bB (Iso.has_yes (i := i) (by omega) (by assumption)).symm, hs.upd⟩⟩
  ·
   replace c2 : ¬ ((z.getD i 0) = x0) := c2
   refine hSkip ?_
   refine qSeq rfl ?_
   refine hReg (sq 0 (sq 1 (sq 2 sz))) (by kernel_rfl) ?_
   refine mvI rfl rfl rfl ?_
   refine add rfl rfl rfl rfl (by omega) ?_
   refine asI rfl rfl rfl ?_
   refine rNil ?_
   exact qNext rfl (i + 1) (by omega) ⟨by omega, Iso.not_snoc (by omega) hal (by assumption)⟩ ⟨rfl, rfl, rfl, trivial⟩ (fun _ h => h.pick [])
 ·
  replace c1 : ¬ ((i : Int) < (nz : Int)) := c1
  refine hExit rfl ?_
  refine qSeq rfl ?_
  refine hSeq ?_
  refine hReg (sq 0 sz) (by kernel_rfl) ?_
  refine asB rfl rfl rfl ?_
  refine rNil ?_
  refine qSeq rfl ?_
  refine hRet ?_
  exact fun w hs => ⟨[.bool false], ⟨rfl, trivial⟩, ⟨bB (Iso.has_no (i := i) (by omega) hal).symm, hs.upd⟩⟩
end Go.Proofs.Yteaahdakammffaa
/- Contracts of the reference: fixing exchanges, cards that are alike, classes. Their conditions stand in each. -/
namespace Go.Proofs.Yteaahdakammffaa
open Go Go.RowKit V
set_option linter.unusedVariables false
set_option linter.unusedSimpArgs false
set_option maxRecDepth 100000
end Go.Proofs.Yteaahdakammffaa
/- Contracts of what laws on exchanges call. Their conditions stand in each. -/
namespace Go.Proofs.Yteaahdakammffaa
open Go Go.RowKit V
set_option linter.unusedVariables false
set_option linter.unusedSimpArgs false
set_option maxRecDepth 100000
end Go.Proofs.Yteaahdakammffaa
/- Contracts of what laws on same deals call. Their conditions stand in each. -/
namespace Go.Proofs.Yteaahdakammffaa
open Go Go.RowKit V
set_option linter.unusedVariables false
set_option linter.unusedSimpArgs false
set_option maxRecDepth 100000
end Go.Proofs.Yteaahdakammffaa
/- Contracts of what laws on exchanges draw. Their conditions stand in each. -/
namespace Go.Proofs.Yteaahdakammffaa
open Go Go.RowKit V
set_option linter.unusedVariables false
set_option linter.unusedSimpArgs false
set_option maxRecDepth 100000
theorem spec_l02Others_c (az : Option Addr) (nz : Nat) (cz : Nat) (z : List Int) (w : World) (rz : RdI az nz z w) :
  Calls Try.prog 116 #[.slice az nz cz] w (Ret fun v w' => ∃ x : Option Addr × Nat × Nat × List Int, v = .slice x.1 x.2.1 x.2.2.1 ∧ (x.2.2.2 = Iso.others z 52) ∧ Sep w none_ [OwnI 2 x.1 x.2.1 x.2.2.1 x.2.2.2] w') := by
 have kz : Kn w none_ [] (RdI az nz z) := fun w' hs => rz.ext hs.upd
 have lz : z.length = nz := rz.1
 have mz : nz ≤ 9223372036854775807 := rz.2.1
 refine fn (M := none_) (rs := [.tmp 2]) Try.func116 rfl Try.ntmps116 rfl rfl (Sep.start _ _) ?_
 refine hSeq ?_
 refine hReg (sq 0 sz) (by kernel_rfl) ?_
 refine asS rfl rfl rfl ?_
 refine rNil ?_
 refine qSeq rfl ?_
 refine hSeq ?_
 refine hReg (sl 0 (sq 1 sz)) (by kernel_rfl) ?_
 refine bsl trv1 rfl rfl rfl (bsl23_0) (fun bkl1 hbkl1 => ?_)
 refine asS rfl rfl rfl ?_
 refine rNil ?_
 refine qSeq rfl ?_
 refine hSeq ?_
 refine hSeq ?_
 refine hReg (sq 0 sz) (by kernel_rfl) ?_
 refine asI rfl rfl rfl ?_
 refine rNil ?_
 refine qSeq rfl ?_
 refine hBlk ?_
 refine hPieces (fun _ h => Sep.litI h 0 [] rfl rfl rfl) ?_
 refine hLoop (α := Nat × Nat × Hd) (fun x => x.1 ≤ 52 ∧ x.2.1 ≤ x.1) (fun x => 52 - x.1) (fun x => [OwnI 2 x.2.2.1 x.2.1 x.2.2.2 (Iso.others z x.1)]) (fun x => [(0, .slice az nz cz), (3, .slice x.2.2.1 x.2.1 x.2.2.2), (4, .int .i64 (x.1 : Int))]) ((0, 0, ((some ⟨bkl1, 0, none⟩), 0))) ⟨Nat.zero_le _, Nat.le_refl _⟩ (fun _ h => h.pick [0]) ⟨rfl, rfl, rfl, trivial⟩ ?_
 rintro ⟨k, q, hd⟩ τ1 ⟨hk, hq⟩
 dsimp only at hk hq
 refine hRe [(0, .slice az nz cz), (3, .slice hd.1 q hd.2), (4, .int .i64 (k : Int))] [OwnI 2 hd.1 q hd.2 (Iso.others z k)] rfl rfl ?_
 refine hSeq ?_
 refine hSeq ?_
 refine hReg (sq 0 (sq 1 sz)) (by kernel_rfl) ?_
 refine mvI rfl rfl rfl ?_
 refine lss rfl rfl rfl rfl ?_
 refine rNil ?_
 refine qSeq rfl ?_
 refine hIfD rfl (fun c1 => ?_) (fun c1 => ?_)
 ·
  replace c1 : (k : Int) < 52 := c1
  refine hSkip ?_
  refine qSeq rfl ?_
  refine hSeq ?_
  refine hBlk ?_
  refine hSeq ?_
  refine hReg (sq 0 (sq 1 (sl 2 (sq 3 sz)))) (by kernel_rfl) ?_
  refine mvS rfl rfl rfl ?_
  refine mvI rfl rfl rfl ?_
  refine callP (v := .bool ((z.contains (k : Int)))) Try.call133 trv rfl rfl (fun w hs => spec_l01Has_c _ nz cz _ _ w (Kn.drop (k := 1) kz w hs)) ?_
  refine not rfl rfl rfl ?_
  refine rNil ?_
  refine qSeq rfl ?_
  refine hIfN rfl (fun c2 => ?_) (fun c2 => ?_)
  ·
   replace c2 : (z.contains (k : Int)) = false := c2
   replace c2 : z.contains (k : Int) = false := by simpa using c2
   refine hReg (sq 0 (sq 1 (sl 2 (sl 3 (sq 4 sz))))) (by kernel_rfl) ?_
   refine mvS rfl rfl rfl ?_
   refine mvI rfl rfl rfl ?_
   refine bsl trv1 rfl rfl rfl (bsl23_1 (.int .i64 _) rfl) (fun bkl2 hbkl2 => ?_)
   refine aplI (N := q) (x := (k : Int)) 1 0 rfl rfl mk23 trv1 rfl rfl rfl rfl (by omega) ?_
   intro aq1 cq1
   refine asS rfl rfl rfl ?_
   refine rNil ?_
   refine qSeq rfl ?_
   refine hReg (sq 0 (sq 1 (sq 2 sz))) (by kernel_rfl) ?_
   refine mvI rfl rfl rfl ?_
   refine add rfl rfl rfl rfl (by omega) ?_
   refine asI rfl rfl rfl ?_
   refine rNil ?_
   rw [← Iso.others_no c2]
   exact qNext rfl ((k + 1, (q + 1), (aq1, cq1))) (by dsimp only; omega) ⟨by dsimp only; omega, by dsimp only; omega⟩ ⟨rfl, rfl, rfl, trivial⟩ (fun _ h => h.pick [1])
  ·
   replace c2 : (z.contains (k : Int)) = true := c2
   replace c2 : z.contains (k : Int) = true := by simpa using c2
   refine hSkip ?_
   refine qSeq rfl ?_
   refine hReg (sq 0 (sq 1 (sq 2 sz))) (by kernel_rfl) ?_
   refine mvI rfl rfl rfl ?_
   refine add rfl rfl rfl rfl (by omega) ?_
   refine asI rfl rfl rfl ?_
   refine rNil ?_
   rw [← Iso.others_yes c2]
   exact qNext rfl ((k + 1, q, (hd.1, hd.2))) (by dsimp only; omega) ⟨by dsimp only; omega, by dsimp only; omega⟩ ⟨rfl, rfl, rfl, trivial⟩ (fun _ h => h.pick [0])
 ·
  replace c1 : ¬ ((k : Int) < 52) := c1
  refine hExit rfl ?_
  refine qSeq rfl ?_
  refine hSeq ?_
  refine hReg (sq 0 (sq 1 sz)) (by kernel_rfl) ?_
  refine mvS rfl rfl rfl ?_
  refine asS rfl rfl rfl ?_
  refine rNil ?_
  refine qSeq rfl ?_
  refine hRet ?_
  exact fun w hs => ⟨[.slice hd.1 q hd.2], ⟨rfl, trivial⟩, ⟨(hd.1, q, hd.2, (Iso.others z k)), rfl, by rw [show k = 52 by omega], hs.pick [0]⟩⟩
end Go.Proofs.Yteaahdakammffaa
