/- Contracts of boards. Their conditions stand in each. -/
import Derived.Test.YteaahdakammffaaZ8Ut
import Derived.Test.YteaahdakammffaaZ1Ut
import Derived.Test.YteaahdakammffaaZ2Ut
import Derived.Test.YteaahdakammffaaZ3Ut
import Derived.Test.YteaahdakammffaaZ4Ut
import Derived.Test.YteaahdakammffaaZ6Ut
import Derived.Test.YteaahdakammffaaZ7Ut
import Derived.Test.YteaahdakammffaaRows
namespace Go.Proofs.Yteaahdakammffaa
open Go Go.RowKit V
set_option linter.unusedVariables false
set_option linter.unusedSimpArgs false
set_option maxRecDepth 100000
theorem impl_boardsOf_c (az : Option Addr) (nz : Nat) (cz : Nat) (Hz : Nat → Hd) (z : List (List Int)) (aq : Option Addr) (nq : Nat) (cq : Nat) (q : List Int) (ad : Option Addr) (nd : Nat) (cd : Nat) (d : List Int) (w : World) (rz : RdR maK az nz Hz z w) (rq : RdI aq nq q w) (rd : RdI ad nd d w) :
  Calls Try.prog 66 #[.slice az nz cz, .slice aq nq cq, .slice ad nd cd] w (Ret fun v w' => ∃ x : Nat × Nat × Nat, v = .func (.func 110) #[] #[.pointer (some ⟨x.1, 0, none⟩), .pointer (some ⟨x.2.1, 0, none⟩), .pointer (some ⟨x.2.2, 0, none⟩)] ∧ True ∧ Sep w none_ [blk x.1 22 [.slice az nz cz], blk x.2.1 23 [.slice aq nq cq], blk x.2.2 23 [.slice ad nd cd]] w') := by
 have kz : Kn w none_ [] (RdR maK az nz Hz z) := fun w' hs => rz.ext hs.upd
 have lz : z.length = nz := rz.1
 have mz : nz ≤ 9223372036854775807 := rz.2.1
 have kq : Kn w none_ [] (RdI aq nq q) := fun w' hs => rq.ext hs.upd
 have lq : q.length = nq := rq.1
 have mq : nq ≤ 9223372036854775807 := rq.2.1
 have kd : Kn w none_ [] (RdI ad nd d) := fun w' hs => rd.ext hs.upd
 have ld : d.length = nd := rd.1
 have md : nd ≤ 9223372036854775807 := rd.2.1
 refine fn (M := none_) (rs := [.tmp 6]) Try.func66 rfl Try.ntmps66 rfl rfl (Sep.start _ _) ?_
 refine hSeq ?_
 refine hReg (sl 0 (sl 1 (sl 2 (sq 3 sz)))) (by kernel_rfl) ?_
 refine box trv1 rfl rfl rfl rfl (fun bkb1 hbkb1 => ?_)
 refine box trv1 rfl rfl rfl rfl (fun bkb2 hbkb2 => ?_)
 refine box trv1 rfl rfl rfl rfl (fun bkb3 hbkb3 => ?_)
 refine asn rfl rfl rfl ?_
 refine rNil ?_
 refine qSeq rfl ?_
 refine hSeq ?_
 refine hReg (sq 0 (sq 1 sz)) (by kernel_rfl) ?_
 refine mkFn (vs := #[.pointer (some ⟨bkb1, 0, none⟩), .pointer (some ⟨bkb2, 0, none⟩), .pointer (some ⟨bkb3, 0, none⟩)]) rfl rfl rfl ?_
 refine asn rfl rfl rfl ?_
 refine rNil ?_
 refine qSeq rfl ?_
 refine hRet ?_
 exact fun w hs => ⟨[.func (.func 110) #[] #[.pointer (some ⟨bkb1, 0, none⟩), .pointer (some ⟨bkb2, 0, none⟩), .pointer (some ⟨bkb3, 0, none⟩)]], ⟨rfl, trivial⟩, ⟨(bkb1, bkb2, bkb3), rfl, trivial, hs.pick [2, 1, 0]⟩⟩
theorem impl_boardsOf_1_it (bz : Nat) (az : Option Addr) (nz : Nat) (cz : Nat) (Hz : Nat → Hd) (z : List (List Int)) (bq : Nat) (aq : Option Addr) (nq : Nat) (cq : Nat) (q : List Int) (bd : Nat) (ad : Option Addr) (nd : Nat) (cd : Nat) (d : List Int) (w : World) (M : Nat → Prop) (kbz : Kn w M [] (RdB bz [.slice az nz cz])) (kz : Kn w M [] (RdR maK az nz Hz z)) (kbq : Kn w M [] (RdB bq [.slice aq nq cq])) (kq : Kn w M [] (RdI aq nq q)) (kbd : Kn w M [] (RdB bd [.slice ad nd cd])) (kd : Kn w M [] (RdI ad nd d)) (hf : z.flatten.length ≤ 1000) (hq3 : 3 ≤ q.length ∧ q.length ≤ 5) (hdl : d.length ≤ 1000) (hc : ∀ x ∈ [z.flatten, q, d].flatten, 0 ≤ x ∧ x ≤ 51) :
  IterC Try.prog 110 #[.pointer (some ⟨bz, 0, none⟩), .pointer (some ⟨bq, 0, none⟩), .pointer (some ⟨bd, 0, none⟩)] (Hd.boards z q d) w M := by
 intro l γ J Jx ok okx g0 hY h0 hs
 have lz : z.length = nz := (kz _ (Sep.pick [] hs)).1
 have mz : nz ≤ 9223372036854775807 := (kz _ (Sep.pick [] hs)).2.1
 have lq : q.length = nq := (kq _ (Sep.pick [] hs)).1
 have mq : nq ≤ 9223372036854775807 := (kq _ (Sep.pick [] hs)).2.1
 have ld : d.length = nd := (kd _ (Sep.pick [] hs)).1
 have md : nd ≤ 9223372036854775807 := (kd _ (Sep.pick [] hs)).2.1
 have hrl := Hd.restL_len z q d
 show Calls Try.prog 110 #[.func (.yield l) #[] #[], .pointer (some ⟨bz, 0, none⟩), .pointer (some ⟨bq, 0, none⟩), .pointer (some ⟨bd, 0, none⟩)] w _
 refine fn (M := M) (rs := []) Try.func110 rfl Try.ntmps110 rfl rfl hs ?_
 refine hSeq ?_
 refine hReg (sl 0 sz) (by kernel_rfl) ?_
 refine box trv1 rfl rfl rfl rfl (fun bkb1 hbkb1 => ?_)
 refine rNil ?_
 refine qSeq rfl ?_
 refine hSeq ?_
 refine hReg (sl 0 (sl 1 (sl 2 (sl 3 (sl 4 (sl 5 sz)))))) (by kernel_rfl) ?_
 refine ldl Try.isAgg22 (cD (Kn.nil kbz) rfl) trv rfl rfl rfl ?_
 refine ldl Try.isAgg23 (cD (Kn.nil kbq) rfl) trv rfl rfl rfl ?_
 refine ldl Try.isAgg23 (cD (Kn.nil kbd) rfl) trv rfl rfl rfl ?_
 refine callS Try.call111 trv1 rfl rfl (fun w hs => impl_restOf_c _ nz cz _ _ _ nq cq _ _ nd cd _ w (Kn.nil kz w hs) (Kn.nil kq w hs) (Kn.nil kd w hs) (by first | assumption | omega) (by omega) (by first | assumption | omega) (by assumption)) ?_
 rintro ⟨ay1, ny1, cy1, y1⟩ hr1
 dsimp only at hr1
 subst y1
 refine rPieces (L' := (OwnI 2 ay1 ny1 cy1 (Hd.restL z q d) :: blk bkb1 79 [.func (.yield l) #[] #[]] :: J g0)) (fun _ h => h) ?_
 refine rKnow (fun w hs => (show OwnI 2 ay1 ny1 cy1 (Hd.restL z q d) w from hs.at_ 0 rfl).lenz) (fun lenn2 => ?_)
 refine rVal (v' := .slice ay1 ny1 cy1) rfl ?_
 refine alc Try.zeroValue23 rfl trv1 rfl rfl (fun bka3 hbka3 => ?_)
 refine stl (v := .slice _ _ _) 0 rfl Try.sizeOf23 trv rfl rfl rfl rfl rfl (Nat.le_of_ble_eq_true rfl) ?_
 refine rNil ?_
 refine qSeq rfl ?_
 refine hSeq ?_
 refine hReg (sl 0 (sl 1 (sl 2 sz))) (by kernel_rfl) ?_
 refine mksI 5 mk23 trv1 rfl rfl rfl rfl (rfl) (by omega) (fun bkm4 hbkm4 => ?_)
 refine alc Try.zeroValue23 rfl trv1 rfl rfl (fun bka5 hbka5 => ?_)
 refine stl (v := .slice _ _ _) 0 rfl Try.sizeOf23 trv rfl rfl rfl rfl rfl (Nat.le_of_ble_eq_true rfl) ?_
 refine rNil ?_
 refine qSeq rfl ?_
 refine hSeq ?_
 refine hReg (sl 0 (sl 1 (sl 2 sz))) (by kernel_rfl) ?_
 refine ldl Try.isAgg23 (cB 0 rfl rfl) trv rfl rfl rfl ?_
 refine ldl Try.isAgg23 (cD (Kn.nil kbq) rfl) trv rfl rfl rfl ?_
 refine cpyI (ys := q) 1 rfl rfl ((Kn.nil kq)) mk23 (by omega) (by omega) trv rfl rfl rfl rfl ?_
 refine rNil ?_
 refine qSeq rfl ?_
 refine hSeq ?_
 refine hReg (sl 0 (sq 1 (sl 2 (sq 3 (sq 4 (sl 5 sz)))))) (by kernel_rfl) ?_
 refine ldl Try.isAgg23 (cB 2 rfl rfl) trv rfl rfl rfl ?_
 refine lenS Try.runUnderlying23 rfl rfl rfl ?_
 refine ldl Try.isAgg23 (cD (Kn.nil kbq) rfl) trv rfl rfl rfl ?_
 refine lenS Try.runUnderlying23 rfl rfl rfl ?_
 refine sub rfl rfl rfl rfl (by omega) ?_
 refine callS Try.call112 trv1 rfl rfl (fun w hs => impl_choices_c _ _ w ) ?_
 rintro ⟨bk2, bn2⟩ hr2
 refine rPieces (L' := (blk bk2 3 [.int .i64 (((5 - (nq : Int))))] :: blk bn2 3 [.int .i64 (ny1 : Int)] :: blk bka5 23 [.slice (some ⟨bkm4, 0, none⟩) 5 5] :: OwnI 2 (some ⟨bkm4, 0, none⟩) 5 5 ((q ++ List.drop nq (List.replicate 5 0))) :: blk bka3 23 [.slice ay1 ny1 cy1] :: OwnI 2 ay1 ny1 cy1 (Hd.restL z q d) :: blk bkb1 79 [.func (.yield l) #[] #[]] :: J g0)) (fun _ h => h) ?_
 refine rVal (v' := .func (.func 137) #[] #[.pointer (some ⟨bk2, 0, none⟩), .pointer (some ⟨bn2, 0, none⟩)]) rfl ?_
 refine rNil ?_
 refine qSeq rfl ?_
 refine hBlk ?_
 refine hRange (γ := List Int × γ) (gf := 137) ((Cm.combs ny1 (((5 - (nq : Int)))).toNat)) (fun x => (OwnI 2 (some ⟨bkm4, 0, none⟩) 5 5 x.1 :: J x.2)) (fun x => (OwnI 2 (some ⟨bkm4, 0, none⟩) 5 5 x.1 :: Jx x.2)) (fun pre x => (x.1.take nq = q ∧ x.1.length = 5) ∧ ok (pre.map (Hd.bd z q d)) x.2) (fun pre x => ∃ pr, pr <+: Hd.boards z q d ∧ okx pr x.2) (((q ++ List.drop nq (List.replicate 5 0)), g0)) [blk bk2 3 [.int .i64 (((5 - (nq : Int))))], blk bn2 3 [.int .i64 (ny1 : Int)], blk bka5 23 [.slice (some ⟨bkm4, 0, none⟩) 5 5], blk bka3 23 [.slice ay1 ny1 cy1], OwnI 2 ay1 ny1 cy1 (Hd.restL z q d), blk bkb1 79 [.func (.yield l) #[] #[]]] (by decide) rfl Try.call137 (fun _ h => h.pickT 7 [0, 0, 0, 1, 1, 1, 0]) (⟨⟨Hd.take_app lq, by simp; omega⟩, h0⟩) (fun w M1 hk => impl_choices_1_it bk2 (((5 - (nq : Int)))) bn2 (ny1 : Int) w M1 (hk _ ((Kn.at_ 0 rfl).imp fun _ h => RdB.of h)) (hk _ ((Kn.at_ 1 rfl).imp fun _ h => RdB.of h)) (by omega) (by omega)) ?_ ?_ ?_
 ·
  rintro l1 rc1 hrc1 pre1 xs1 ⟨f, g⟩ ax1 nx1 cx1 wR1 MR1 ⟨⟨hf1, hf2⟩, hok1⟩ hpre1 hk1 hrd1
  dsimp only at hf1 hf2 hok1
  have f1 := hk1 _ (Kn.nil kbz)
  have f2 := hk1 _ (Kn.nil kz)
  have f3 := hk1 _ (Kn.nil kbq)
  have f4 := hk1 _ (Kn.nil kq)
  have f5 := hk1 _ (Kn.nil kbd)
  have f6 := hk1 _ (Kn.nil kd)
  have f7 := hk1 _ ((Kn.at_ 5 rfl).imp fun _ h => RdB.of (bk := bkb1) (e := 79) (cs := [.func (.yield l) #[] #[]]) h)
  have f8 := hk1 _ ((Kn.at_ (φ := OwnI 2 ay1 ny1 cy1 (Hd.restL z q d)) 4 rfl).imp fun _ h => OwnI.rd h)
  have f9 := hk1 _ ((Kn.at_ 3 rfl).imp fun _ h => RdB.of (bk := bka3) (e := 23) (cs := [.slice ay1 ny1 cy1]) h)
  have f10 := hk1 _ ((Kn.at_ 2 rfl).imp fun _ h => RdB.of (bk := bka5) (e := 23) (cs := [.slice (some ⟨bkm4, 0, none⟩) 5 5]) h)
  have f11 := hk1 _ ((Kn.at_ 0 rfl).imp fun _ h => RdB.of (bk := bk2) (e := 3) (cs := [.int .i64 (((5 - (nq : Int))))]) h)
  have f12 := hk1 _ ((Kn.at_ 1 rfl).imp fun _ h => RdB.of (bk := bn2) (e := 3) (cs := [.int .i64 (ny1 : Int)]) h)
  refine hKnow (fun w hs => (Kn.nil hrd1 w hs).1) (fun lxs1 => ?_)
  have hcu := Hd.combs_up (Hd.pre_mem hpre1)
  have hxl := hcu.2.2
  have hsl := Hd.sel_len (Hd.restL z q d) xs1
  refine hReg (sq 0 sz) (by kernel_rfl) ?_
  refine asS rfl rfl rfl ?_
  refine rNil ?_
  refine qAsn rfl hrc1 rfl ?_
  refine hBlk ?_
  refine hSeq ?_
  refine hSeq ?_
  refine hReg (sq 0 (sq 1 (sq 2 sz))) (by kernel_rfl) ?_
  refine mvS rfl rfl rfl ?_
  refine lenS Try.runUnderlying117 rfl rfl rfl ?_
  refine mvI rfl rfl rfl ?_
  refine rNil ?_
  refine qSeq rfl ?_
  refine hBlk ?_
  refine hLoop (α := Nat) (fun i => i ≤ nx1) (fun i => nx1 - i) (fun i => (ob l1 (rc1 .busy none) :: OwnI 2 (some ⟨bkm4, 0, none⟩) 5 5 ((q ++ (Hd.sel (Hd.restL z q d) xs1).take i ++ f.drop (nq + i))) :: J g)) (fun i => [(2, .pointer (some ⟨bq, 0, none⟩)), (4, .pointer (some ⟨bkb1, 0, none⟩)), (5, .pointer (some ⟨bka3, 0, none⟩)), (6, .pointer (some ⟨bka5, 0, none⟩)), (25, .slice ax1 nx1 cx1), (26, .int .i64 (nx1 : Int)), (27, .int .i64 (i : Int))]) 0 (Nat.zero_le _) (fun _ h => by rw [← Hd.five_start hf1]; exact h.pickT 2 [0, 0]) ⟨rfl, rfl, rfl, rfl, rfl, rfl, rfl, trivial⟩ ?_
  rintro i τ1 hi
  refine hSeq ?_
  refine hReg (sq 0 sz) (by kernel_rfl) ?_
  refine lss rfl rfl rfl rfl ?_
  refine rNil ?_
  refine qSeq rfl ?_
  refine hSeq ?_
  refine hIfD rfl (fun c1 => ?_) (fun c1 => ?_)
  ·
   replace c1 : (i : Int) < (nx1 : Int) := c1
   have hxi := hcu.2.1 _ (Hd.gd_mem (show i < xs1.length by omega))
   have hfl : (q ++ (Hd.sel (Hd.restL z q d) xs1).take i ++ f.drop (nq + i)).length = 5 := by rw [List.length_append, List.length_append, List.length_take, List.length_drop]; omega
   refine hSkip ?_
   refine qSeq rfl ?_
   refine hSeq ?_
   refine hBlk ?_
   refine hSeq ?_
   refine hReg (sq 0 (sq 1 (sl 2 (sq 3 (sq 4 sz))))) (by kernel_rfl) ?_
   refine mvI rfl rfl rfl ?_
   refine ixIl (zn := i) el117 ((Kn.nil hrd1)) rfl rfl rfl rfl (by omega) (by omega) rfl ?_
   intro ae3 e3
   refine ldl Try.isAgg3 (e3) trv rfl rfl rfl ?_
   refine asI rfl rfl rfl ?_
   refine asI rfl rfl rfl ?_
   refine rNil ?_
   refine qSeq rfl ?_
   refine hDraw (Ls := []) (by kernel_rfl) (sq 0 (sq 1 (sq 2 (sq 3 (sq 4 (sq 5 (sq 6 (sq 7 (sq 8 (sq 9 (sf 10 sz))))))))))) (by kernel_rfl) (.cons _ (.cons _ (List.nil_sublist _))) ?_
   refine ldq Try.isAgg23 (cD (f10) rfl) rfl rfl rfl ?_
   refine ldq Try.isAgg23 (cD (f3) rfl) rfl rfl rfl ?_
   refine lenS Try.runUnderlying23 rfl rfl rfl ?_
   refine mvI rfl rfl rfl ?_
   refine add rfl rfl rfl rfl (by omega) ?_
   refine ldq Try.isAgg23 (cD (f9) rfl) rfl rfl rfl ?_
   refine mvI rfl rfl rfl ?_
   refine ixIq (zn := ((xs1.getD i 0)).toNat) el23 (f8) (fun _ h => h.pick []) rfl rfl rfl rfl (by omega) (by omega) rfl ?_
   intro ae4 e4
   refine ldq Try.isAgg2 (e4) rfl rfl rfl ?_
   refine oxI (zn := (nq + i)) 1 rfl el23 rfl rfl rfl rfl (by omega) (by omega) rfl ?_
   intro gk5 hgk5
   refine stoIF (off := (nq + i)) (x := ((Hd.restL z q d).getD (((xs1.getD i 0)).toNat) 0)) 1 rfl hgk5 Try.sizeOf2 rfl rfl rfl rfl (by omega) ?_
   refine rNil ?_
   refine qSeq rfl ?_
   refine hReg (sq 0 (sq 1 sz)) (by kernel_rfl) ?_
   refine add rfl rfl rfl rfl (by omega) ?_
   refine mvI rfl rfl rfl ?_
   refine rNil ?_
   rw [Hd.five_step (s := Hd.sel (Hd.restL z q d) xs1) lq (by omega) (by omega) (Hd.sel_get (by omega))]
   exact qNext rfl (i + 1) (by omega) (by omega) ⟨rfl, rfl, rfl, rfl, rfl, rfl, rfl, trivial⟩ (fun _ h => h.pickT 2 [0, 0])
  ·
   replace c1 : ¬ ((i : Int) < (nx1 : Int)) := c1
   rw [Hd.five_end (show (Hd.sel (Hd.restL z q d) xs1).length ≤ i by omega) (by omega)]
   refine hExit rfl ?_
   refine qSeq rfl ?_
   refine hSeq ?_
   refine hReg (sl 0 (sl 1 (sl 2 (sq 3 sz)))) (by kernel_rfl) ?_
   refine ldl Try.isAgg79 (cD (Kn.nil f7) rfl) trv rfl rfl rfl ?_
   refine ldl Try.isAgg23 (cD (Kn.nil f10) rfl) trv rfl rfl rfl ?_
   refine callYY hY [ob l1 (rc1 .busy none), OwnI 2 (some ⟨bkm4, 0, none⟩) 5 5 ((q ++ Hd.sel (Hd.restL z q d) xs1))] rfl hok1 (Hd.boards_pre hpre1 (by omega) (by omega)) (fun φ hφ => Kn.nil (hk1 _ (Kn.nil hφ))) ((Kn.at_ 1 rfl).imp fun _ h => OwnI.rd h) trv1 rfl rfl rfl rfl (fun g2 hy => ?_) (fun g2 hy => ?_)
   ·
    refine not rfl rfl rfl ?_
    refine rNil ?_
    refine qSeq rfl ?_
    refine hIfF rfl ?_
    refine hSkip ?_
    exact qRnd rfl hrc1 ((q ++ Hd.sel (Hd.restL z q d) xs1, g2)) (⟨⟨Hd.take_app lq, by dsimp only; rw [List.length_append]; omega⟩, by rw [List.map_append]; exact hy⟩) (fun _ h => h.pickT 2 [0, 0])
   ·
    refine not rfl rfl rfl ?_
    refine rNil ?_
    refine qSeq rfl ?_
    refine hIfT rfl ?_
    exact hRndR2 (fun _ h => h) hrc1 ((q ++ Hd.sel (Hd.restL z q d) xs1, g2)) (by exact ⟨_, Hd.boards_pre hpre1 (by omega) (by omega), hy⟩) (fun _ h => h.pickT 2 [0, 0])
 ·
  rintro D1 ⟨f, g⟩ hend1
  dsimp only at hend1
  refine qRet rfl ?_
  exact Kn.leave 0 rfl <| fun w hs => ⟨[], trivial, .inl ⟨g, Hd.boards_done hend1.2 (by omega) (by omega), hs.pickT 7 []⟩⟩
 ·
  rintro D1 pre ⟨f, g⟩ hpre hstop
  dsimp only at hstop
  exact Kn.leave 0 rfl <| fun w hs => ⟨[], trivial, .inr ⟨_, g, hstop.choose_spec.1, hstop.choose_spec.2, hs.pickT 7 []⟩⟩
end Go.Proofs.Yteaahdakammffaa
/- Contracts of sums. Their conditions stand in each. -/
namespace Go.Proofs.Yteaahdakammffaa
open Go Go.RowKit V
set_option linter.unusedVariables false
set_option linter.unusedSimpArgs false
set_option maxRecDepth 100000
end Go.Proofs.Yteaahdakammffaa
/- Contracts of leaders and parts. Their conditions stand in each. -/
namespace Go.Proofs.Yteaahdakammffaa
open Go Go.RowKit V
set_option linter.unusedVariables false
set_option linter.unusedSimpArgs false
set_option maxRecDepth 100000
theorem impl_PartsAt_c (vn : Int) (az : Option Addr) (nz : Nat) (cz : Nat) (Hz : Nat → Hd) (z : List (List Int)) (aq : Option Addr) (nq : Nat) (cq : Nat) (q : List Int) (w : World) (rz : RdR maK az nz Hz z w) (rq : RdI aq nq q w) (hql : q.length ≤ 1048576) (hzf : z.flatten.length ≤ 1048576) (hzl : z.length ≤ 1048576) :
  Calls Try.prog 27 #[.int .i64 vn, .slice az nz cz, .slice aq nq cq] w (Ret fun v w' => ∃ x : Option Addr × Nat × Nat × List Int × Int, v = .tuple #[.slice x.1 x.2.1 x.2.2.1, .int .i64 x.2.2.2.2] ∧ (x.2.2.2.1 = Hd.paY vn z q ∧ x.2.2.2.2 = Hd.paC vn z q) ∧ Sep w none_ [OwnI 2 x.1 x.2.1 x.2.2.1 x.2.2.2.1] w') := by
 have kz : Kn w none_ [] (RdR maK az nz Hz z) := fun w' hs => rz.ext hs.upd
 have lz : z.length = nz := rz.1
 have mz : nz ≤ 9223372036854775807 := rz.2.1
 have kq : Kn w none_ [] (RdI aq nq q) := fun w' hs => rq.ext hs.upd
 have lq : q.length = nq := rq.1
 have mq : nq ≤ 9223372036854775807 := rq.2.1
 refine fn (M := none_) (rs := [.tmp 6, .tmp 7]) Try.func27 rfl Try.ntmps27 rfl rfl (Sep.start _ _) ?_
 refine hSeq ?_
 refine hReg (sq 0 (sq 1 sz)) (by kernel_rfl) ?_
 refine asS rfl rfl rfl ?_
 refine asI rfl rfl rfl ?_
 refine rNil ?_
 refine qSeq rfl ?_
 refine hSeq ?_
 refine hSeq ?_
 refine hReg (sq 0 (sq 1 (sq 2 (sl 3 (sq 4 sz))))) (by kernel_rfl) ?_
 refine mvI rfl rfl rfl ?_
 refine mvS rfl rfl rfl ?_
 refine mvS rfl rfl rfl ?_
 refine callP (v := .bool (Hd.isDeal vn z q [])) Try.call60 trv rfl rfl (fun w hs => impl_IsDeal_c _ _ nz cz _ _ _ nq cq _ _ 0 0 _ w (kz w hs) (kq w hs) (RdI.nil _ _) (by omega) (by first | omega | (simp only [List.length_nil]; omega)) (by omega)) ?_
 refine not rfl rfl rfl ?_
 refine rNil ?_
 refine qSeq rfl ?_
 refine hIfN rfl (fun c1 => ?_) (fun c1 => ?_)
 ·
  replace c1 : (Hd.isDeal vn z q []) = false := c1
  have hdeal : Hd.isDeal vn z q [] = false := by simpa using c1
  have hC : Hd.paC vn z q = 1 := by unfold Hd.paC; rw [if_pos hdeal]
  have hY : Hd.paY vn z q = [] := by unfold Hd.paY; rw [hC]; rfl
  refine hSeq ?_
  refine hReg (sq 0 (sq 1 sz)) (by kernel_rfl) ?_
  refine asS rfl rfl rfl ?_
  refine asI rfl rfl rfl ?_
  refine rNil ?_
  refine qSeq rfl ?_
  refine hRet ?_
  refine knP (fun _ h => Sep.nilI 2 h) ?_
  exact fun w hs => ⟨[.slice none 0 0, .int .i64 1], ⟨rfl, ⟨rfl, trivial⟩⟩, ⟨(none, 0, 0, [], 1), rfl, ⟨hY.symm, hC.symm⟩, hs.pick [0]⟩⟩
 ·
  replace c1 : (Hd.isDeal vn z q []) = true := c1
  have hdeal : Hd.isDeal vn z q [] = true := by simpa using c1
  have hdp := Hd.isDeal_P hdeal
  have hdv := hdp.1.1
  have hdz := hdp.1.2.1
  refine hSkip ?_
  refine qSeq rfl ?_
  refine hSeq ?_
  refine hSeq ?_
  refine hReg (sq 0 (sq 1 (sq 2 sz))) (by kernel_rfl) ?_
  refine mvS rfl rfl rfl ?_
  refine lenS Try.runUnderlying23 rfl rfl rfl ?_
  refine neq rfl rfl rfl rfl ?_
  refine rNil ?_
  refine qSeq rfl ?_
  refine hIfD rfl (fun c2 => ?_) (fun c2 => ?_)
  ·
   replace c2 : (nq : Int) ≠ 5 := c2
   have hC : Hd.paC vn z q = 2 := by unfold Hd.paC; rw [if_neg (by rw [hdeal]; decide), if_pos (by omega)]
   have hY : Hd.paY vn z q = [] := by unfold Hd.paY; rw [hC]; rfl
   refine hSeq ?_
   refine hReg (sq 0 (sq 1 sz)) (by kernel_rfl) ?_
   refine asS rfl rfl rfl ?_
   refine asI rfl rfl rfl ?_
   refine rNil ?_
   refine qSeq rfl ?_
   refine hRet ?_
   refine knP (fun _ h => Sep.nilI 2 h) ?_
   exact fun w hs => ⟨[.slice none 0 0, .int .i64 2], ⟨rfl, ⟨rfl, trivial⟩⟩, ⟨(none, 0, 0, [], 2), rfl, ⟨hY.symm, hC.symm⟩, hs.pick [0]⟩⟩
  ·
   replace c2 : ¬ ((nq : Int) ≠ 5) := c2
   have hC : Hd.paC vn z q = 0 := by unfold Hd.paC; rw [if_neg (by rw [hdeal]; decide), if_neg (by omega)]
   have hY : Hd.paY vn z q = Hd.parts vn z q := by unfold Hd.paY; rw [if_pos hC]
   have hds := Hd.deal_self hdeal (by omega)
   refine hSkip ?_
   refine qSeq rfl ?_
   refine hSeq ?_
   refine hReg (sq 0 (sq 1 (sq 2 (sl 3 (sq 4 (sq 5 sz)))))) (by kernel_rfl) ?_
   refine mvI rfl rfl rfl ?_
   refine mvS rfl rfl rfl ?_
   refine mvS rfl rfl rfl ?_
   refine callS Try.call67 trv1 rfl rfl (fun w hs => impl_partsAt_c _ _ nz cz _ _ _ nq cq _ w (kz w hs) (kq w hs) (by omega) (by omega) (by omega) (by assumption)) ?_
   rintro ⟨ay1, ny1, cy1, y1⟩ hr1
   dsimp only at hr1
   subst y1
   refine rPieces (L' := [OwnI 2 ay1 ny1 cy1 (Hd.parts vn z q)]) (fun _ h => h) ?_
   refine rKnow (fun w hs => (show OwnI 2 ay1 ny1 cy1 (Hd.parts vn z q) w from hs.at_ 0 rfl).lenz) (fun lenn3 => ?_)
   refine rVal (v' := .slice ay1 ny1 cy1) rfl ?_
   refine asS rfl rfl rfl ?_
   refine asI rfl rfl rfl ?_
   refine rNil ?_
   refine qSeq rfl ?_
   refine hRet ?_
   exact fun w hs => ⟨[.slice ay1 ny1 cy1, .int .i64 0], ⟨rfl, ⟨rfl, trivial⟩⟩, ⟨(ay1, ny1, cy1, (Hd.parts vn z q), 0), rfl, ⟨hY.symm, hC.symm⟩, hs.pick [0]⟩⟩
end Go.Proofs.Yteaahdakammffaa
/- Contracts of wins and outs. Their conditions stand in each. -/
namespace Go.Proofs.Yteaahdakammffaa
open Go Go.RowKit V
set_option linter.unusedVariables false
set_option linter.unusedSimpArgs false
set_option maxRecDepth 100000
theorem impl_WinsOf_c (vn : Int) (az : Option Addr) (nz : Nat) (cz : Nat) (Hz : Nat → Hd) (z : List (List Int)) (aq : Option Addr) (nq : Nat) (cq : Nat) (q : List Int) (ad : Option Addr) (nd : Nat) (cd : Nat) (d : List Int) (p : Int) (w : World) (rz : RdR maK az nz Hz z w) (rq : RdI aq nq q w) (rd : RdI ad nd d w) (hql : q.length ≤ 1048576) (hdl : d.length ≤ 1048576) (hzf : z.flatten.length ≤ 1048576) (hzl : z.length ≤ 1048576) :
  Calls Try.prog 28 #[.int .i64 vn, .slice az nz cz, .slice aq nq cq, .slice ad nd cd, .int .i64 p] w (Ret fun v w' => ∃ x : Int × Int × Int, v = .tuple #[.int .i64 x.1, .int .i64 x.2.1, .int .i64 x.2.2] ∧ (x.1 = Hd.wiA vn z q d p ∧ x.2.1 = Hd.wiB vn z q d p ∧ x.2.2 = Hd.wiC vn z q d p) ∧ Sep w none_ [] w') := by
 have kz : Kn w none_ [] (RdR maK az nz Hz z) := fun w' hs => rz.ext hs.upd
 have lz : z.length = nz := rz.1
 have mz : nz ≤ 9223372036854775807 := rz.2.1
 have kq : Kn w none_ [] (RdI aq nq q) := fun w' hs => rq.ext hs.upd
 have lq : q.length = nq := rq.1
 have mq : nq ≤ 9223372036854775807 := rq.2.1
 have kd : Kn w none_ [] (RdI ad nd d) := fun w' hs => rd.ext hs.upd
 have ld : d.length = nd := rd.1
 have md : nd ≤ 9223372036854775807 := rd.2.1
 refine fn (M := none_) (rs := [.tmp 10, .tmp 11, .tmp 12]) Try.func28 rfl Try.ntmps28 rfl rfl (Sep.start _ _) ?_
 refine hSeq ?_
 refine hReg (sl 0 (sl 1 (sl 2 (sq 3 (sq 4 (sq 5 sz)))))) (by kernel_rfl) ?_
 refine box trv1 rfl rfl rfl rfl (fun bkb1 hbkb1 => ?_)
 refine box trv1 rfl rfl rfl rfl (fun bkb2 hbkb2 => ?_)
 refine box trv1 rfl rfl rfl rfl (fun bkb3 hbkb3 => ?_)
 refine asI rfl rfl rfl ?_
 refine asI rfl rfl rfl ?_
 refine asI rfl rfl rfl ?_
 refine rNil ?_
 refine qSeq rfl ?_
 refine hSeq ?_
 refine hSeq ?_
 refine hReg (sl 0 (sl 1 (sq 2 (sq 3 (sl 4 (sq 5 sz)))))) (by kernel_rfl) ?_
 refine ldl Try.isAgg2 (cB 2 rfl rfl) trv rfl rfl rfl ?_
 refine ldl Try.isAgg22 (cB 1 rfl rfl) trv rfl rfl rfl ?_
 refine mvS rfl rfl rfl ?_
 refine mvS rfl rfl rfl ?_
 refine callP (v := .bool (Hd.isDeal vn z q d)) Try.call60 trv rfl rfl (fun w hs => impl_IsDeal_c _ _ nz cz _ _ _ nq cq _ _ nd cd _ w (Kn.drop (k := 3) kz w hs) (Kn.drop (k := 3) kq w hs) (Kn.drop (k := 3) kd w hs) (by omega) (by first | omega | (simp only [List.length_nil]; omega)) (by omega)) ?_
 refine not rfl rfl rfl ?_
 refine rNil ?_
 refine qSeq rfl ?_
 refine hIfN rfl (fun c1 => ?_) (fun c1 => ?_)
 ·
  replace c1 : (Hd.isDeal vn z q d) = false := c1
  have hdeal : Hd.isDeal vn z q d = false := by simpa using c1
  have hC : Hd.wiC vn z q d p = 1 := by unfold Hd.wiC; rw [if_pos hdeal]
  have hA : Hd.wiA vn z q d p = 0 := by unfold Hd.wiA; rw [hC]; rfl
  have hB : Hd.wiB vn z q d p = 0 := by unfold Hd.wiB; rw [hC]; rfl
  refine hSeq ?_
  refine hReg (sq 0 (sq 1 (sq 2 sz))) (by kernel_rfl) ?_
  refine asI rfl rfl rfl ?_
  refine asI rfl rfl rfl ?_
  refine asI rfl rfl rfl ?_
  refine rNil ?_
  refine qSeq rfl ?_
  refine hRet ?_
  exact fun w hs => ⟨[.int .i64 0, .int .i64 0, .int .i64 1], ⟨rfl, ⟨rfl, ⟨rfl, trivial⟩⟩⟩, ⟨(0, 0, 1), rfl, ⟨by first | exact hA.symm | (rw [hA]; exact he1), by first | exact hB.symm | (rw [hB]; exact he2), hC.symm⟩, hs.pick []⟩⟩
 ·
  replace c1 : (Hd.isDeal vn z q d) = true := c1
  have hdeal : Hd.isDeal vn z q d = true := by simpa using c1
  have hdp := Hd.isDeal_P hdeal
  have hdv := hdp.1.1
  have hdz := hdp.1.2.1
  have hdq := hdp.1.2.2
  have hln := Hd.isDeal_len hdeal
  have hcc := Hd.isDeal_cards hdeal
  have hbl := Hd.boards_len hdeal
  refine hSkip ?_
  refine qSeq rfl ?_
  refine hSeq ?_
  refine hSeq ?_
  refine hReg (sl 0 (sl 1 (sq 2 (sq 3 (sl 4 (sq 5 sz)))))) (by kernel_rfl) ?_
  refine ldl Try.isAgg2 (cB 0 rfl rfl) trv rfl rfl rfl ?_
  refine ldl Try.isAgg22 (cB 1 rfl rfl) trv rfl rfl rfl ?_
  refine lenS Try.runUnderlying22 rfl rfl rfl ?_
  refine sub rfl rfl rfl rfl (by omega) ?_
  refine callP (v := .bool (decide ((0 : Int) ≤ p ∧ p ≤ (((nz : Int) - 1))))) Try.call65 trv rfl rfl (fun w hs => impl_within_c _ _ _ w ) ?_
  refine notD rfl rfl rfl ?_
  refine rNil ?_
  refine qSeq rfl ?_
  refine hIfD rfl (fun c2 => ?_) (fun c2 => ?_)
  ·
   replace c2 : ¬ ((0 : Int) ≤ p ∧ p ≤ (((nz : Int) - 1))) := c2
   have hC : Hd.wiC vn z q d p = 2 := by unfold Hd.wiC; rw [if_neg (by rw [hdeal]; decide), if_pos (by omega)]
   have hA : Hd.wiA vn z q d p = 0 := by unfold Hd.wiA; rw [hC]; rfl
   have hB : Hd.wiB vn z q d p = 0 := by unfold Hd.wiB; rw [hC]; rfl
   refine hSeq ?_
   refine hReg (sq 0 (sq 1 (sq 2 sz))) (by kernel_rfl) ?_
   refine asI rfl rfl rfl ?_
   refine asI rfl rfl rfl ?_
   refine asI rfl rfl rfl ?_
   refine rNil ?_
   refine qSeq rfl ?_
   refine hRet ?_
   exact fun w hs => ⟨[.int .i64 0, .int .i64 0, .int .i64 2], ⟨rfl, ⟨rfl, ⟨rfl, trivial⟩⟩⟩, ⟨(0, 0, 2), rfl, ⟨by first | exact hA.symm | (rw [hA]; exact he1), by first | exact hB.symm | (rw [hB]; exact he2), hC.symm⟩, hs.pick []⟩⟩
  ·
   replace c2 : ¬ (¬ ((0 : Int) ≤ p ∧ p ≤ (((nz : Int) - 1)))) := c2
   have hC : Hd.wiC vn z q d p = 0 := by unfold Hd.wiC; rw [if_neg (by rw [hdeal]; decide), if_neg (by omega)]
   have hA : Hd.wiA vn z q d p = Hd.wholes vn p z (Hd.boards z q d) := by unfold Hd.wiA; rw [if_pos hC]
   have hB : Hd.wiB vn z q d p = Hd.somes vn p z (Hd.boards z q d) := by unfold Hd.wiB; rw [if_pos hC]
   refine hSkip ?_
   refine qSeq rfl ?_
   refine hSeq ?_
   refine hReg (sl 0 (sl 1 sz)) (by kernel_rfl) ?_
   refine alc Try.zeroValue2 rfl trv1 rfl rfl (fun bka4 hbka4 => ?_)
   refine alc Try.zeroValue2 rfl trv1 rfl rfl (fun bka5 hbka5 => ?_)
   refine rNil ?_
   refine qSeq rfl ?_
   refine hSeq ?_
   refine hSeq ?_
   refine hReg (sl 0 (sq 1 (sq 2 (sl 3 sz)))) (by kernel_rfl) ?_
   refine ldl Try.isAgg22 (cB 3 rfl rfl) trv rfl rfl rfl ?_
   refine mvS rfl rfl rfl ?_
   refine mvS rfl rfl rfl ?_
   refine callS Try.call66 trv1 rfl rfl (fun w hs => impl_boardsOf_c _ nz cz _ _ _ nq cq _ _ nd cd _ w (Kn.drop (k := 5) kz w hs) (Kn.drop (k := 5) kq w hs) (Kn.drop (k := 5) kd w hs)) ?_
   rintro ⟨bz1, bq1, bd1⟩ hr1
   refine rPieces (L' := [blk bz1 22 [.slice az nz cz], blk bq1 23 [.slice aq nq cq], blk bd1 23 [.slice ad nd cd], blk bka5 2 [.int .i64 0], blk bka4 2 [.int .i64 0], blk bkb3 2 [.int .i64 p], blk bkb2 22 [.slice az nz cz], blk bkb1 2 [.int .i64 vn]]) (fun _ h => h) ?_
   refine rVal (v' := .func (.func 110) #[] #[.pointer (some ⟨bz1, 0, none⟩), .pointer (some ⟨bq1, 0, none⟩), .pointer (some ⟨bd1, 0, none⟩)]) rfl ?_
   refine rNil ?_
   refine qSeq rfl ?_
   refine hBlk ?_
   refine hRange (γ := Int × Int) (gf := 110) (Hd.boards z q d) (fun x => [blk bka4 2 [.int .i64 x.1], blk bka5 2 [.int .i64 x.2]]) (fun x => [blk bka4 2 [.int .i64 x.1], blk bka5 2 [.int .i64 x.2]]) (fun pre x => x.1 = Hd.wholes vn p z pre ∧ x.2 = Hd.somes vn p z pre) (fun pre x => False) (0, 0) [blk bz1 22 [.slice az nz cz], blk bq1 23 [.slice aq nq cq], blk bd1 23 [.slice ad nd cd], blk bkb3 2 [.int .i64 p], blk bkb2 22 [.slice az nz cz], blk bkb1 2 [.int .i64 vn]] (by decide) rfl Try.call110 (fun _ h => h.pick [0, 0, 0, 2, 2, 2, 1, 0]) ⟨rfl, rfl⟩ (fun w M1 hk => impl_boardsOf_1_it bz1 az nz cz Hz z bq1 aq nq cq q bd1 ad nd cd d w M1 (hk _ ((Kn.at_ 0 rfl).imp fun _ h => RdB.of h)) (hk _ (Kn.nil kz)) (hk _ ((Kn.at_ 1 rfl).imp fun _ h => RdB.of h)) (hk _ (Kn.nil kq)) (hk _ ((Kn.at_ 2 rfl).imp fun _ h => RdB.of h)) (hk _ (Kn.nil kd)) (by omega) (by omega) (by omega) (by assumption)) ?_ ?_ ?_
   ·
    rintro l1 rc1 hrc1 pre1 xs1 ⟨x1, x2⟩ ax1 nx1 cx1 wR1 MR1 ⟨hx1, hx2⟩ hpre1 hk1 hrd1
    dsimp only at hx1 hx2
    have f1 := hk1 _ (Kn.nil kz)
    have f2 := hk1 _ (Kn.nil kq)
    have f3 := hk1 _ (Kn.nil kd)
    have f4 := hk1 _ ((Kn.at_ 5 rfl).imp fun _ h => RdB.of (bk := bkb1) (e := 2) (cs := [.int .i64 vn]) h)
    have f5 := hk1 _ ((Kn.at_ 4 rfl).imp fun _ h => RdB.of (bk := bkb2) (e := 22) (cs := [.slice az nz cz]) h)
    have f6 := hk1 _ ((Kn.at_ 3 rfl).imp fun _ h => RdB.of (bk := bkb3) (e := 2) (cs := [.int .i64 p]) h)
    have f7 := hk1 _ ((Kn.at_ 0 rfl).imp fun _ h => RdB.of (bk := bz1) (e := 22) (cs := [.slice az nz cz]) h)
    have f8 := hk1 _ ((Kn.at_ 1 rfl).imp fun _ h => RdB.of (bk := bq1) (e := 23) (cs := [.slice aq nq cq]) h)
    have f9 := hk1 _ ((Kn.at_ 2 rfl).imp fun _ h => RdB.of (bk := bd1) (e := 23) (cs := [.slice ad nd cd]) h)
    have hbo := Hd.boards_ok hdeal (Hd.pre_mem hpre1)
    have hb5 := hbo.1
    have hbd := hbo.2
    have hpl := Hd.pre_len hpre1
    have hppl := Hd.parts_len vn z xs1
    have hwb := Hd.wholes_bd vn p z pre1
    have hsb := Hd.somes_bd vn p z pre1
    refine hReg (sq 0 sz) (by kernel_rfl) ?_
    refine asS rfl rfl rfl ?_
    refine rNil ?_
    refine qAsn rfl hrc1 rfl ?_
    refine hBlk ?_
    refine hSeq ?_
    refine hDraw (Ls := []) (by kernel_rfl) (sq 2 (.alt (sl 0 (.alt (sl 1 (.alt (sl 3 (sl 4 (sq 5 (sl 6 sz)))) (sl 4 (sl 3 (sq 5 (sl 6 sz)))))) (sl 4 (sl 1 (sl 3 (sq 5 (sl 6 sz))))))) (.alt (sl 1 (.alt (sl 0 (.alt (sl 3 (sl 4 (sq 5 (sl 6 sz)))) (sl 4 (sl 3 (sq 5 (sl 6 sz)))))) (sl 4 (sl 0 (sl 3 (sq 5 (sl 6 sz))))))) (sl 4 (.alt (sl 0 (sl 1 (sl 3 (sq 5 (sl 6 sz))))) (sl 1 (sl 0 (sl 3 (sq 5 (sl 6 sz)))))))))) (by kernel_rfl) (.cons _ (.cons _ (.cons _ .slnil))) ?_
    refine mvS rfl rfl rfl ?_
    refine rAlt ?_ ?_
    ·
     refine ldl Try.isAgg2 (cD (Kn.drop (k := 3) f4) rfl) (fun _ h => h.pick []) rfl rfl rfl ?_
     refine rAlt ?_ ?_
     ·
      refine ldl Try.isAgg22 (cD (Kn.drop (k := 3) f5) rfl) (fun _ h => h.pick []) rfl rfl rfl ?_
      refine rAlt ?_ ?_
      ·
       refine callS Try.call67 (by exact (fun _ _ h => h.pick [])) rfl rfl (fun w hs => impl_partsAt_c _ _ nz cz _ _ _ nx1 cx1 _ w (Kn.drop (k := 3) f1 w hs) (Kn.drop (k := 3) hrd1 w hs) (by omega) (by omega) (by omega) (by assumption)) ?_
       rintro ⟨ay2, ny2, cy2, y2⟩ hr2
       dsimp only at hr2
       subst y2
       refine rPieces (L' := [OwnI 2 ay2 ny2 cy2 (Hd.parts vn z xs1), ob l1 (rc1 .busy none), blk bka4 2 [.int .i64 x1], blk bka5 2 [.int .i64 x2]]) (fun _ h => h) ?_
       refine rKnow (fun w hs => (show OwnI 2 ay2 ny2 cy2 (Hd.parts vn z xs1) w from hs.at_ 0 rfl).lenz) (fun lenn9 => ?_)
       refine rVal (v' := .slice ay2 ny2 cy2) rfl ?_
       refine ldl Try.isAgg2 (cD (Kn.drop (k := 4) f6) rfl) (fun _ h => h.pick []) rfl rfl rfl ?_
       refine ixIl (zn := (p).toNat) el23 ((Kn.at_ 0 rfl).imp fun _ h => OwnI.rd h) rfl rfl rfl rfl (by omega) (by omega) rfl ?_
       intro ae3 e3
       refine ldl Try.isAgg2 (e3) (fun _ h => h.pick []) rfl rfl rfl ?_
       refine rNil ?_
       refine qSeq rfl ?_
       refine hBlk ?_
       refine hSeq ?_
       refine hReg (sq 0 (sq 1 sz)) (by kernel_rfl) ?_
       refine eql rfl rfl rfl rfl ?_
       refine asB rfl rfl rfl ?_
       refine rNil ?_
       refine qSeq rfl ?_
       refine hIfD rfl (fun c3 => ?_) (fun c3 => ?_)
       ·
        replace c3 : ((Hd.parts vn z xs1).getD ((p).toNat) 0) = 24 := c3
        refine hReg (sl 0 (sq 1 (sl 2 sz))) (by kernel_rfl) ?_
        refine ldl Try.isAgg2 (cB 2 rfl rfl) trv rfl rfl rfl ?_
        refine add rfl rfl rfl rfl (by omega) ?_
        refine stl (v := .int .i64 _) 2 rfl Try.sizeOf2 trv rfl rfl rfl rfl rfl (Nat.le_of_ble_eq_true rfl) ?_
        refine rNil ?_
        exact qRnd rfl hrc1 (((x1 + 1), x2)) ⟨by dsimp only; rw [Hd.wholes_snoc, ← hx1]; repeat (first | rfl | omega | rw [if_pos (by omega)] | rw [if_neg (by omega)]), by dsimp only; rw [Hd.somes_snoc, ← hx2]; repeat (first | rfl | omega | rw [if_pos (by omega)] | rw [if_neg (by omega)])⟩ (fun _ h => h.pick [1, 1, 1])
       ·
        replace c3 : ¬ (((Hd.parts vn z xs1).getD ((p).toNat) 0) = 24) := c3
        refine hSeq ?_
        refine hReg (sq 0 (sq 1 sz)) (by kernel_rfl) ?_
        refine eql rfl rfl rfl rfl ?_
        refine asB rfl rfl rfl ?_
        refine rNil ?_
        refine qSeq rfl ?_
        refine hIfD rfl (fun c4 => ?_) (fun c4 => ?_)
        ·
         replace c4 : ((Hd.parts vn z xs1).getD ((p).toNat) 0) = 0 := c4
         refine hSkip ?_
         exact qRnd rfl hrc1 (x1, x2) ⟨by dsimp only; rw [Hd.wholes_snoc, ← hx1]; repeat (first | rfl | omega | rw [if_pos (by omega)] | rw [if_neg (by omega)]), by dsimp only; rw [Hd.somes_snoc, ← hx2]; repeat (first | rfl | omega | rw [if_pos (by omega)] | rw [if_neg (by omega)])⟩ (fun _ h => h.pick [1, 1, 1])
        ·
         replace c4 : ¬ (((Hd.parts vn z xs1).getD ((p).toNat) 0) = 0) := c4
         refine hReg (sl 0 (sq 1 (sl 2 sz))) (by kernel_rfl) ?_
         refine ldl Try.isAgg2 (cB 3 rfl rfl) trv rfl rfl rfl ?_
         refine add rfl rfl rfl rfl (by omega) ?_
         refine stl (v := .int .i64 _) 3 rfl Try.sizeOf2 trv rfl rfl rfl rfl rfl (Nat.le_of_ble_eq_true rfl) ?_
         refine rNil ?_
         exact qRnd rfl hrc1 ((x1, (x2 + 1))) ⟨by dsimp only; rw [Hd.wholes_snoc, ← hx1]; repeat (first | rfl | omega | rw [if_pos (by omega)] | rw [if_neg (by omega)]), by dsimp only; rw [Hd.somes_snoc, ← hx2]; repeat (first | rfl | omega | rw [if_pos (by omega)] | rw [if_neg (by omega)])⟩ (fun _ h => h.pick [1, 1, 1])
      ·
       refine ldl Try.isAgg2 (cD (Kn.drop (k := 3) f6) rfl) (fun _ h => h.pick []) rfl rfl rfl ?_
       refine callS Try.call67 (by exact (fun _ _ h => h.pick [])) rfl rfl (fun w hs => impl_partsAt_c _ _ nz cz _ _ _ nx1 cx1 _ w (Kn.drop (k := 3) f1 w hs) (Kn.drop (k := 3) hrd1 w hs) (by omega) (by omega) (by omega) (by assumption)) ?_
       rintro ⟨ay4, ny4, cy4, y4⟩ hr4
       dsimp only at hr4
       subst y4
       refine rPieces (L' := [OwnI 2 ay4 ny4 cy4 (Hd.parts vn z xs1), ob l1 (rc1 .busy none), blk bka4 2 [.int .i64 x1], blk bka5 2 [.int .i64 x2]]) (fun _ h => h) ?_
       refine rKnow (fun w hs => (show OwnI 2 ay4 ny4 cy4 (Hd.parts vn z xs1) w from hs.at_ 0 rfl).lenz) (fun lenn10 => ?_)
       refine rVal (v' := .slice ay4 ny4 cy4) rfl ?_
       refine ixIl (zn := (p).toNat) el23 ((Kn.at_ 0 rfl).imp fun _ h => OwnI.rd h) rfl rfl rfl rfl (by omega) (by omega) rfl ?_
       intro ae5 e5
       refine ldl Try.isAgg2 (e5) (fun _ h => h.pick []) rfl rfl rfl ?_
       refine rNil ?_
       refine qSeq rfl ?_
       refine hBlk ?_
       refine hSeq ?_
       refine hReg (sq 0 (sq 1 sz)) (by kernel_rfl) ?_
       refine eql rfl rfl rfl rfl ?_
       refine asB rfl rfl rfl ?_
       refine rNil ?_
       refine qSeq rfl ?_
       refine hIfD rfl (fun c5 => ?_) (fun c5 => ?_)
       ·
        replace c5 : ((Hd.parts vn z xs1).getD ((p).toNat) 0) = 24 := c5
        refine hReg (sl 0 (sq 1 (sl 2 sz))) (by kernel_rfl) ?_
        refine ldl Try.isAgg2 (cB 2 rfl rfl) trv rfl rfl rfl ?_
        refine add rfl rfl rfl rfl (by omega) ?_
        refine stl (v := .int .i64 _) 2 rfl Try.sizeOf2 trv rfl rfl rfl rfl rfl (Nat.le_of_ble_eq_true rfl) ?_
        refine rNil ?_
        exact qRnd rfl hrc1 (((x1 + 1), x2)) ⟨by dsimp only; rw [Hd.wholes_snoc, ← hx1]; repeat (first | rfl | omega | rw [if_pos (by omega)] | rw [if_neg (by omega)]), by dsimp only; rw [Hd.somes_snoc, ← hx2]; repeat (first | rfl | omega | rw [if_pos (by omega)] | rw [if_neg (by omega)])⟩ (fun _ h => h.pick [1, 1, 1])
       ·
        replace c5 : ¬ (((Hd.parts vn z xs1).getD ((p).toNat) 0) = 24) := c5
        refine hSeq ?_
        refine hReg (sq 0 (sq 1 sz)) (by kernel_rfl) ?_
        refine eql rfl rfl rfl rfl ?_
        refine asB rfl rfl rfl ?_
        refine rNil ?_
        refine qSeq rfl ?_
        refine hIfD rfl (fun c6 => ?_) (fun c6 => ?_)
        ·
         replace c6 : ((Hd.parts vn z xs1).getD ((p).toNat) 0) = 0 := c6
         refine hSkip ?_
         exact qRnd rfl hrc1 (x1, x2) ⟨by dsimp only; rw [Hd.wholes_snoc, ← hx1]; repeat (first | rfl | omega | rw [if_pos (by omega)] | rw [if_neg (by omega)]), by dsimp only; rw [Hd.somes_snoc, ← hx2]; repeat (first | rfl | omega | rw [if_pos (by omega)] | rw [if_neg (by omega)])⟩ (fun _ h => h.pick [1, 1, 1])
        ·
         replace c6 : ¬ (((Hd.parts vn z xs1).getD ((p).toNat) 0) = 0) := c6
         refine hReg (sl 0 (sq 1 (sl 2 sz))) (by kernel_rfl) ?_
         refine ldl Try.isAgg2 (cB 3 rfl rfl) trv rfl rfl rfl ?_
         refine add rfl rfl rfl rfl (by omega) ?_
         refine stl (v := .int .i64 _) 3 rfl Try.sizeOf2 trv rfl rfl rfl rfl rfl (Nat.le_of_ble_eq_true rfl) ?_
         refine rNil ?_
         exact qRnd rfl hrc1 ((x1, (x2 + 1))) ⟨by dsimp only; rw [Hd.wholes_snoc, ← hx1]; repeat (first | rfl | omega | rw [if_pos (by omega)] | rw [if_neg (by omega)]), by dsimp only; rw [Hd.somes_snoc, ← hx2]; repeat (first | rfl | omega | rw [if_pos (by omega)] | rw [if_neg (by omega)])⟩ (fun _ h => h.pick [1, 1, 1])
     ·
      refine ldl Try.isAgg2 (cD (Kn.drop (k := 3) f6) rfl) (fun _ h => h.pick []) rfl rfl rfl ?_
      refine ldl Try.isAgg22 (cD (Kn.drop (k := 3) f5) rfl) (fun _ h => h.pick []) rfl rfl rfl ?_
      refine callS Try.call67 (by exact (fun _ _ h => h.pick [])) rfl rfl (fun w hs => impl_partsAt_c _ _ nz cz _ _ _ nx1 cx1 _ w (Kn.drop (k := 3) f1 w hs) (Kn.drop (k := 3) hrd1 w hs) (by omega) (by omega) (by omega) (by assumption)) ?_
      rintro ⟨ay6, ny6, cy6, y6⟩ hr6
      dsimp only at hr6
      subst y6
      refine rPieces (L' := [OwnI 2 ay6 ny6 cy6 (Hd.parts vn z xs1), ob l1 (rc1 .busy none), blk bka4 2 [.int .i64 x1], blk bka5 2 [.int .i64 x2]]) (fun _ h => h) ?_
      refine rKnow (fun w hs => (show OwnI 2 ay6 ny6 cy6 (Hd.parts vn z xs1) w from hs.at_ 0 rfl).lenz) (fun lenn11 => ?_)
      refine rVal (v' := .slice ay6 ny6 cy6) rfl ?_
      refine ixIl (zn := (p).toNat) el23 ((Kn.at_ 0 rfl).imp fun _ h => OwnI.rd h) rfl rfl rfl rfl (by omega) (by omega) rfl ?_
      intro ae7 e7
      refine ldl Try.isAgg2 (e7) (fun _ h => h.pick []) rfl rfl rfl ?_
      refine rNil ?_
      refine qSeq rfl ?_
      refine hBlk ?_
      refine hSeq ?_
      refine hReg (sq 0 (sq 1 sz)) (by kernel_rfl) ?_
      refine eql rfl rfl rfl rfl ?_
      refine asB rfl rfl rfl ?_
      refine rNil ?_
      refine qSeq rfl ?_
      refine hIfD rfl (fun c7 => ?_) (fun c7 => ?_)
      ·
       replace c7 : ((Hd.parts vn z xs1).getD ((p).toNat) 0) = 24 := c7
       refine hReg (sl 0 (sq 1 (sl 2 sz))) (by kernel_rfl) ?_
       refine ldl Try.isAgg2 (cB 2 rfl rfl) trv rfl rfl rfl ?_
       refine add rfl rfl rfl rfl (by omega) ?_
       refine stl (v := .int .i64 _) 2 rfl Try.sizeOf2 trv rfl rfl rfl rfl rfl (Nat.le_of_ble_eq_true rfl) ?_
       refine rNil ?_
       exact qRnd rfl hrc1 (((x1 + 1), x2)) ⟨by dsimp only; rw [Hd.wholes_snoc, ← hx1]; repeat (first | rfl | omega | rw [if_pos (by omega)] | rw [if_neg (by omega)]), by dsimp only; rw [Hd.somes_snoc, ← hx2]; repeat (first | rfl | omega | rw [if_pos (by omega)] | rw [if_neg (by omega)])⟩ (fun _ h => h.pick [1, 1, 1])
      ·
       replace c7 : ¬ (((Hd.parts vn z xs1).getD ((p).toNat) 0) = 24) := c7
       refine hSeq ?_
       refine hReg (sq 0 (sq 1 sz)) (by kernel_rfl) ?_
       refine eql rfl rfl rfl rfl ?_
       refine asB rfl rfl rfl ?_
       refine rNil ?_
       refine qSeq rfl ?_
       refine hIfD rfl (fun c8 => ?_) (fun c8 => ?_)
       ·
        replace c8 : ((Hd.parts vn z xs1).getD ((p).toNat) 0) = 0 := c8
        refine hSkip ?_
        exact qRnd rfl hrc1 (x1, x2) ⟨by dsimp only; rw [Hd.wholes_snoc, ← hx1]; repeat (first | rfl | omega | rw [if_pos (by omega)] | rw [if_neg (by omega)]), by dsimp only; rw [Hd.somes_snoc, ← hx2]; repeat (first | rfl | omega | rw [if_pos (by omega)] | rw [if_neg (by omega)])⟩ (fun _ h => h.pick [1, 1, 1])
       ·
        replace c8 : ¬ (((Hd.parts vn z xs1).getD ((p).toNat) 0) = 0) := c8
        refine hReg (sl 0 (sq 1 (sl 2 sz))) (by kernel_rfl) ?_
        refine ldl Try.isAgg2 (cB 3 rfl rfl) trv rfl rfl rfl ?_
        refine add rfl rfl rfl rfl (by omega) ?_
        refine stl (v := .int .i64 _) 3 rfl Try.sizeOf2 trv rfl rfl rfl rfl rfl (Nat.le_of_ble_eq_true rfl) ?_
        refine rNil ?_
        exact qRnd rfl hrc1 ((x1, (x2 + 1))) ⟨by dsimp only; rw [Hd.wholes_snoc, ← hx1]; repeat (first | rfl | omega | rw [if_pos (by omega)] | rw [if_neg (by omega)]), by dsimp only; rw [Hd.somes_snoc, ← hx2]; repeat (first | rfl | omega | rw [if_pos (by omega)] | rw [if_neg (by omega)])⟩ (fun _ h => h.pick [1, 1, 1])
    ·
     refine rAlt ?_ ?_
     ·
      refine ldl Try.isAgg22 (cD (Kn.drop (k := 3) f5) rfl) (fun _ h => h.pick []) rfl rfl rfl ?_
      refine rAlt ?_ ?_
      ·
       refine ldl Try.isAgg2 (cD (Kn.drop (k := 3) f4) rfl) (fun _ h => h.pick []) rfl rfl rfl ?_
       refine rAlt ?_ ?_
       ·
        refine callS Try.call67 (by exact (fun _ _ h => h.pick [])) rfl rfl (fun w hs => impl_partsAt_c _ _ nz cz _ _ _ nx1 cx1 _ w (Kn.drop (k := 3) f1 w hs) (Kn.drop (k := 3) hrd1 w hs) (by omega) (by omega) (by omega) (by assumption)) ?_
        rintro ⟨ay8, ny8, cy8, y8⟩ hr8
        dsimp only at hr8
        subst y8
        refine rPieces (L' := [OwnI 2 ay8 ny8 cy8 (Hd.parts vn z xs1), ob l1 (rc1 .busy none), blk bka4 2 [.int .i64 x1], blk bka5 2 [.int .i64 x2]]) (fun _ h => h) ?_
        refine rKnow (fun w hs => (show OwnI 2 ay8 ny8 cy8 (Hd.parts vn z xs1) w from hs.at_ 0 rfl).lenz) (fun lenn12 => ?_)
        refine rVal (v' := .slice ay8 ny8 cy8) rfl ?_
        refine ldl Try.isAgg2 (cD (Kn.drop (k := 4) f6) rfl) (fun _ h => h.pick []) rfl rfl rfl ?_
        refine ixIl (zn := (p).toNat) el23 ((Kn.at_ 0 rfl).imp fun _ h => OwnI.rd h) rfl rfl rfl rfl (by omega) (by omega) rfl ?_
        intro ae9 e9
        refine ldl Try.isAgg2 (e9) (fun _ h => h.pick []) rfl rfl rfl ?_
        refine rNil ?_
        refine qSeq rfl ?_
        refine hBlk ?_
        refine hSeq ?_
        refine hReg (sq 0 (sq 1 sz)) (by kernel_rfl) ?_
        refine eql rfl rfl rfl rfl ?_
        refine asB rfl rfl rfl ?_
        refine rNil ?_
        refine qSeq rfl ?_
        refine hIfD rfl (fun c9 => ?_) (fun c9 => ?_)
        ·
         replace c9 : ((Hd.parts vn z xs1).getD ((p).toNat) 0) = 24 := c9
         refine hReg (sl 0 (sq 1 (sl 2 sz))) (by kernel_rfl) ?_
         refine ldl Try.isAgg2 (cB 2 rfl rfl) trv rfl rfl rfl ?_
         refine add rfl rfl rfl rfl (by omega) ?_
         refine stl (v := .int .i64 _) 2 rfl Try.sizeOf2 trv rfl rfl rfl rfl rfl (Nat.le_of_ble_eq_true rfl) ?_
         refine rNil ?_
         exact qRnd rfl hrc1 (((x1 + 1), x2)) ⟨by dsimp only; rw [Hd.wholes_snoc, ← hx1]; repeat (first | rfl | omega | rw [if_pos (by omega)] | rw [if_neg (by omega)]), by dsimp only; rw [Hd.somes_snoc, ← hx2]; repeat (first | rfl | omega | rw [if_pos (by omega)] | rw [if_neg (by omega)])⟩ (fun _ h => h.pick [1, 1, 1])
        ·
         replace c9 : ¬ (((Hd.parts vn z xs1).getD ((p).toNat) 0) = 24) := c9
         refine hSeq ?_
         refine hReg (sq 0 (sq 1 sz)) (by kernel_rfl) ?_
         refine eql rfl rfl rfl rfl ?_
         refine asB rfl rfl rfl ?_
         refine rNil ?_
         refine qSeq rfl ?_
         refine hIfD rfl (fun c10 => ?_) (fun c10 => ?_)
         ·
          replace c10 : ((Hd.parts vn z xs1).getD ((p).toNat) 0) = 0 := c10
          refine hSkip ?_
          exact qRnd rfl hrc1 (x1, x2) ⟨by dsimp only; rw [Hd.wholes_snoc, ← hx1]; repeat (first | rfl | omega | rw [if_pos (by omega)] | rw [if_neg (by omega)]), by dsimp only; rw [Hd.somes_snoc, ← hx2]; repeat (first | rfl | omega | rw [if_pos (by omega)] | rw [if_neg (by omega)])⟩ (fun _ h => h.pick [1, 1, 1])
         ·
          replace c10 : ¬ (((Hd.parts vn z xs1).getD ((p).toNat) 0) = 0) := c10
          refine hReg (sl 0 (sq 1 (sl 2 sz))) (by kernel_rfl) ?_
          refine ldl Try.isAgg2 (cB 3 rfl rfl) trv rfl rfl rfl ?_
          refine add rfl rfl rfl rfl (by omega) ?_
          refine stl (v := .int .i64 _) 3 rfl Try.sizeOf2 trv rfl rfl rfl rfl rfl (Nat.le_of_ble_eq_true rfl) ?_
          refine rNil ?_
          exact qRnd rfl hrc1 ((x1, (x2 + 1))) ⟨by dsimp only; rw [Hd.wholes_snoc, ← hx1]; repeat (first | rfl | omega | rw [if_pos (by omega)] | rw [if_neg (by omega)]), by dsimp only; rw [Hd.somes_snoc, ← hx2]; repeat (first | rfl | omega | rw [if_pos (by omega)] | rw [if_neg (by omega)])⟩ (fun _ h => h.pick [1, 1, 1])
       ·
        refine ldl Try.isAgg2 (cD (Kn.drop (k := 3) f6) rfl) (fun _ h => h.pick []) rfl rfl rfl ?_
        refine callS Try.call67 (by exact (fun _ _ h => h.pick [])) rfl rfl (fun w hs => impl_partsAt_c _ _ nz cz _ _ _ nx1 cx1 _ w (Kn.drop (k := 3) f1 w hs) (Kn.drop (k := 3) hrd1 w hs) (by omega) (by omega) (by omega) (by assumption)) ?_
        rintro ⟨ay10, ny10, cy10, y10⟩ hr10
        dsimp only at hr10
        subst y10
        refine rPieces (L' := [OwnI 2 ay10 ny10 cy10 (Hd.parts vn z xs1), ob l1 (rc1 .busy none), blk bka4 2 [.int .i64 x1], blk bka5 2 [.int .i64 x2]]) (fun _ h => h) ?_
        refine rKnow (fun w hs => (show OwnI 2 ay10 ny10 cy10 (Hd.parts vn z xs1) w from hs.at_ 0 rfl).lenz) (fun lenn13 => ?_)
        refine rVal (v' := .slice ay10 ny10 cy10) rfl ?_
        refine ixIl (zn := (p).toNat) el23 ((Kn.at_ 0 rfl).imp fun _ h => OwnI.rd h) rfl rfl rfl rfl (by omega) (by omega) rfl ?_
        intro ae11 e11
        refine ldl Try.isAgg2 (e11) (fun _ h => h.pick []) rfl rfl rfl ?_
        refine rNil ?_
        refine qSeq rfl ?_
        refine hBlk ?_
        refine hSeq ?_
        refine hReg (sq 0 (sq 1 sz)) (by kernel_rfl) ?_
        refine eql rfl rfl rfl rfl ?_
        refine asB rfl rfl rfl ?_
        refine rNil ?_
        refine qSeq rfl ?_
        refine hIfD rfl (fun c11 => ?_) (fun c11 => ?_)
        ·
         replace c11 : ((Hd.parts vn z xs1).getD ((p).toNat) 0) = 24 := c11
         refine hReg (sl 0 (sq 1 (sl 2 sz))) (by kernel_rfl) ?_
         refine ldl Try.isAgg2 (cB 2 rfl rfl) trv rfl rfl rfl ?_
         refine add rfl rfl rfl rfl (by omega) ?_
         refine stl (v := .int .i64 _) 2 rfl Try.sizeOf2 trv rfl rfl rfl rfl rfl (Nat.le_of_ble_eq_true rfl) ?_
         refine rNil ?_
         exact qRnd rfl hrc1 (((x1 + 1), x2)) ⟨by dsimp only; rw [Hd.wholes_snoc, ← hx1]; repeat (first | rfl | omega | rw [if_pos (by omega)] | rw [if_neg (by omega)]), by dsimp only; rw [Hd.somes_snoc, ← hx2]; repeat (first | rfl | omega | rw [if_pos (by omega)] | rw [if_neg (by omega)])⟩ (fun _ h => h.pick [1, 1, 1])
        ·
         replace c11 : ¬ (((Hd.parts vn z xs1).getD ((p).toNat) 0) = 24) := c11
         refine hSeq ?_
         refine hReg (sq 0 (sq 1 sz)) (by kernel_rfl) ?_
         refine eql rfl rfl rfl rfl ?_
         refine asB rfl rfl rfl ?_
         refine rNil ?_
         refine qSeq rfl ?_
         refine hIfD rfl (fun c12 => ?_) (fun c12 => ?_)
         ·
          replace c12 : ((Hd.parts vn z xs1).getD ((p).toNat) 0) = 0 := c12
          refine hSkip ?_
          exact qRnd rfl hrc1 (x1, x2) ⟨by dsimp only; rw [Hd.wholes_snoc, ← hx1]; repeat (first | rfl | omega | rw [if_pos (by omega)] | rw [if_neg (by omega)]), by dsimp only; rw [Hd.somes_snoc, ← hx2]; repeat (first | rfl | omega | rw [if_pos (by omega)] | rw [if_neg (by omega)])⟩ (fun _ h => h.pick [1, 1, 1])
         ·
          replace c12 : ¬ (((Hd.parts vn z xs1).getD ((p).toNat) 0) = 0) := c12
          refine hReg (sl 0 (sq 1 (sl 2 sz))) (by kernel_rfl) ?_
          refine ldl Try.isAgg2 (cB 3 rfl rfl) trv rfl rfl rfl ?_
          refine add rfl rfl rfl rfl (by omega) ?_
          refine stl (v := .int .i64 _) 3 rfl Try.sizeOf2 trv rfl rfl rfl rfl rfl (Nat.le_of_ble_eq_true rfl) ?_
          refine rNil ?_
          exact qRnd rfl hrc1 ((x1, (x2 + 1))) ⟨by dsimp only; rw [Hd.wholes_snoc, ← hx1]; repeat (first | rfl | omega | rw [if_pos (by omega)] | rw [if_neg (by omega)]), by dsimp only; rw [Hd.somes_snoc, ← hx2]; repeat (first | rfl | omega | rw [if_pos (by omega)] | rw [if_neg (by omega)])⟩ (fun _ h => h.pick [1, 1, 1])
      ·
       refine ldl Try.isAgg2 (cD (Kn.drop (k := 3) f6) rfl) (fun _ h => h.pick []) rfl rfl rfl ?_
       refine ldl Try.isAgg2 (cD (Kn.drop (k := 3) f4) rfl) (fun _ h => h.pick []) rfl rfl rfl ?_
       refine callS Try.call67 (by exact (fun _ _ h => h.pick [])) rfl rfl (fun w hs => impl_partsAt_c _ _ nz cz _ _ _ nx1 cx1 _ w (Kn.drop (k := 3) f1 w hs) (Kn.drop (k := 3) hrd1 w hs) (by omega) (by omega) (by omega) (by assumption)) ?_
       rintro ⟨ay12, ny12, cy12, y12⟩ hr12
       dsimp only at hr12
       subst y12
       refine rPieces (L' := [OwnI 2 ay12 ny12 cy12 (Hd.parts vn z xs1), ob l1 (rc1 .busy none), blk bka4 2 [.int .i64 x1], blk bka5 2 [.int .i64 x2]]) (fun _ h => h) ?_
       refine rKnow (fun w hs => (show OwnI 2 ay12 ny12 cy12 (Hd.parts vn z xs1) w from hs.at_ 0 rfl).lenz) (fun lenn14 => ?_)
       refine rVal (v' := .slice ay12 ny12 cy12) rfl ?_
       refine ixIl (zn := (p).toNat) el23 ((Kn.at_ 0 rfl).imp fun _ h => OwnI.rd h) rfl rfl rfl rfl (by omega) (by omega) rfl ?_
       intro ae13 e13
       refine ldl Try.isAgg2 (e13) (fun _ h => h.pick []) rfl rfl rfl ?_
       refine rNil ?_
       refine qSeq rfl ?_
       refine hBlk ?_
       refine hSeq ?_
       refine hReg (sq 0 (sq 1 sz)) (by kernel_rfl) ?_
       refine eql rfl rfl rfl rfl ?_
       refine asB rfl rfl rfl ?_
       refine rNil ?_
       refine qSeq rfl ?_
       refine hIfD rfl (fun c13 => ?_) (fun c13 => ?_)
       ·
        replace c13 : ((Hd.parts vn z xs1).getD ((p).toNat) 0) = 24 := c13
        refine hReg (sl 0 (sq 1 (sl 2 sz))) (by kernel_rfl) ?_
        refine ldl Try.isAgg2 (cB 2 rfl rfl) trv rfl rfl rfl ?_
        refine add rfl rfl rfl rfl (by omega) ?_
        refine stl (v := .int .i64 _) 2 rfl Try.sizeOf2 trv rfl rfl rfl rfl rfl (Nat.le_of_ble_eq_true rfl) ?_
        refine rNil ?_
        exact qRnd rfl hrc1 (((x1 + 1), x2)) ⟨by dsimp only; rw [Hd.wholes_snoc, ← hx1]; repeat (first | rfl | omega | rw [if_pos (by omega)] | rw [if_neg (by omega)]), by dsimp only; rw [Hd.somes_snoc, ← hx2]; repeat (first | rfl | omega | rw [if_pos (by omega)] | rw [if_neg (by omega)])⟩ (fun _ h => h.pick [1, 1, 1])
       ·
        replace c13 : ¬ (((Hd.parts vn z xs1).getD ((p).toNat) 0) = 24) := c13
        refine hSeq ?_
        refine hReg (sq 0 (sq 1 sz)) (by kernel_rfl) ?_
        refine eql rfl rfl rfl rfl ?_
        refine asB rfl rfl rfl ?_
        refine rNil ?_
        refine qSeq rfl ?_
        refine hIfD rfl (fun c14 => ?_) (fun c14 => ?_)
        ·
         replace c14 : ((Hd.parts vn z xs1).getD ((p).toNat) 0) = 0 := c14
         refine hSkip ?_
         exact qRnd rfl hrc1 (x1, x2) ⟨by dsimp only; rw [Hd.wholes_snoc, ← hx1]; repeat (first | rfl | omega | rw [if_pos (by omega)] | rw [if_neg (by omega)]), by dsimp only; rw [Hd.somes_snoc, ← hx2]; repeat (first | rfl | omega | rw [if_pos (by omega)] | rw [if_neg (by omega)])⟩ (fun _ h => h.pick [1, 1, 1])
        ·
         replace c14 : ¬ (((Hd.parts vn z xs1).getD ((p).toNat) 0) = 0) := c14
         refine hReg (sl 0 (sq 1 (sl 2 sz))) (by kernel_rfl) ?_
         refine ldl Try.isAgg2 (cB 3 rfl rfl) trv rfl rfl rfl ?_
         refine add rfl rfl rfl rfl (by omega) ?_
         refine stl (v := .int .i64 _) 3 rfl Try.sizeOf2 trv rfl rfl rfl rfl rfl (Nat.le_of_ble_eq_true rfl) ?_
         refine rNil ?_
         exact qRnd rfl hrc1 ((x1, (x2 + 1))) ⟨by dsimp only; rw [Hd.wholes_snoc, ← hx1]; repeat (first | rfl | omega | rw [if_pos (by omega)] | rw [if_neg (by omega)]), by dsimp only; rw [Hd.somes_snoc, ← hx2]; repeat (first | rfl | omega | rw [if_pos (by omega)] | rw [if_neg (by omega)])⟩ (fun _ h => h.pick [1, 1, 1])
     ·
      refine ldl Try.isAgg2 (cD (Kn.drop (k := 3) f6) rfl) (fun _ h => h.pick []) rfl rfl rfl ?_
      refine rAlt ?_ ?_
      ·
       refine ldl Try.isAgg2 (cD (Kn.drop (k := 3) f4) rfl) (fun _ h => h.pick []) rfl rfl rfl ?_
       refine ldl Try.isAgg22 (cD (Kn.drop (k := 3) f5) rfl) (fun _ h => h.pick []) rfl rfl rfl ?_
       refine callS Try.call67 (by exact (fun _ _ h => h.pick [])) rfl rfl (fun w hs => impl_partsAt_c _ _ nz cz _ _ _ nx1 cx1 _ w (Kn.drop (k := 3) f1 w hs) (Kn.drop (k := 3) hrd1 w hs) (by omega) (by omega) (by omega) (by assumption)) ?_
       rintro ⟨ay14, ny14, cy14, y14⟩ hr14
       dsimp only at hr14
       subst y14
       refine rPieces (L' := [OwnI 2 ay14 ny14 cy14 (Hd.parts vn z xs1), ob l1 (rc1 .busy none), blk bka4 2 [.int .i64 x1], blk bka5 2 [.int .i64 x2]]) (fun _ h => h) ?_
       refine rKnow (fun w hs => (show OwnI 2 ay14 ny14 cy14 (Hd.parts vn z xs1) w from hs.at_ 0 rfl).lenz) (fun lenn15 => ?_)
       refine rVal (v' := .slice ay14 ny14 cy14) rfl ?_
       refine ixIl (zn := (p).toNat) el23 ((Kn.at_ 0 rfl).imp fun _ h => OwnI.rd h) rfl rfl rfl rfl (by omega) (by omega) rfl ?_
       intro ae15 e15
       refine ldl Try.isAgg2 (e15) (fun _ h => h.pick []) rfl rfl rfl ?_
       refine rNil ?_
       refine qSeq rfl ?_
       refine hBlk ?_
       refine hSeq ?_
       refine hReg (sq 0 (sq 1 sz)) (by kernel_rfl) ?_
       refine eql rfl rfl rfl rfl ?_
       refine asB rfl rfl rfl ?_
       refine rNil ?_
       refine qSeq rfl ?_
       refine hIfD rfl (fun c15 => ?_) (fun c15 => ?_)
       ·
        replace c15 : ((Hd.parts vn z xs1).getD ((p).toNat) 0) = 24 := c15
        refine hReg (sl 0 (sq 1 (sl 2 sz))) (by kernel_rfl) ?_
        refine ldl Try.isAgg2 (cB 2 rfl rfl) trv rfl rfl rfl ?_
        refine add rfl rfl rfl rfl (by omega) ?_
        refine stl (v := .int .i64 _) 2 rfl Try.sizeOf2 trv rfl rfl rfl rfl rfl (Nat.le_of_ble_eq_true rfl) ?_
        refine rNil ?_
        exact qRnd rfl hrc1 (((x1 + 1), x2)) ⟨by dsimp only; rw [Hd.wholes_snoc, ← hx1]; repeat (first | rfl | omega | rw [if_pos (by omega)] | rw [if_neg (by omega)]), by dsimp only; rw [Hd.somes_snoc, ← hx2]; repeat (first | rfl | omega | rw [if_pos (by omega)] | rw [if_neg (by omega)])⟩ (fun _ h => h.pick [1, 1, 1])
       ·
        replace c15 : ¬ (((Hd.parts vn z xs1).getD ((p).toNat) 0) = 24) := c15
        refine hSeq ?_
        refine hReg (sq 0 (sq 1 sz)) (by kernel_rfl) ?_
        refine eql rfl rfl rfl rfl ?_
        refine asB rfl rfl rfl ?_
        refine rNil ?_
        refine qSeq rfl ?_
        refine hIfD rfl (fun c16 => ?_) (fun c16 => ?_)
        ·
         replace c16 : ((Hd.parts vn z xs1).getD ((p).toNat) 0) = 0 := c16
         refine hSkip ?_
         exact qRnd rfl hrc1 (x1, x2) ⟨by dsimp only; rw [Hd.wholes_snoc, ← hx1]; repeat (first | rfl | omega | rw [if_pos (by omega)] | rw [if_neg (by omega)]), by dsimp only; rw [Hd.somes_snoc, ← hx2]; repeat (first | rfl | omega | rw [if_pos (by omega)] | rw [if_neg (by omega)])⟩ (fun _ h => h.pick [1, 1, 1])
        ·
         replace c16 : ¬ (((Hd.parts vn z xs1).getD ((p).toNat) 0) = 0) := c16
         refine hReg (sl 0 (sq 1 (sl 2 sz))) (by kernel_rfl) ?_
         refine ldl Try.isAgg2 (cB 3 rfl rfl) trv rfl rfl rfl ?_
         refine add rfl rfl rfl rfl (by omega) ?_
         refine stl (v := .int .i64 _) 3 rfl Try.sizeOf2 trv rfl rfl rfl rfl rfl (Nat.le_of_ble_eq_true rfl) ?_
         refine rNil ?_
         exact qRnd rfl hrc1 ((x1, (x2 + 1))) ⟨by dsimp only; rw [Hd.wholes_snoc, ← hx1]; repeat (first | rfl | omega | rw [if_pos (by omega)] | rw [if_neg (by omega)]), by dsimp only; rw [Hd.somes_snoc, ← hx2]; repeat (first | rfl | omega | rw [if_pos (by omega)] | rw [if_neg (by omega)])⟩ (fun _ h => h.pick [1, 1, 1])
      ·
       refine ldl Try.isAgg22 (cD (Kn.drop (k := 3) f5) rfl) (fun _ h => h.pick []) rfl rfl rfl ?_
       refine ldl Try.isAgg2 (cD (Kn.drop (k := 3) f4) rfl) (fun _ h => h.pick []) rfl rfl rfl ?_
       refine callS Try.call67 (by exact (fun _ _ h => h.pick [])) rfl rfl (fun w hs => impl_partsAt_c _ _ nz cz _ _ _ nx1 cx1 _ w (Kn.drop (k := 3) f1 w hs) (Kn.drop (k := 3) hrd1 w hs) (by omega) (by omega) (by omega) (by assumption)) ?_
       rintro ⟨ay16, ny16, cy16, y16⟩ hr16
       dsimp only at hr16
       subst y16
       refine rPieces (L' := [OwnI 2 ay16 ny16 cy16 (Hd.parts vn z xs1), ob l1 (rc1 .busy none), blk bka4 2 [.int .i64 x1], blk bka5 2 [.int .i64 x2]]) (fun _ h => h) ?_
       refine rKnow (fun w hs => (show OwnI 2 ay16 ny16 cy16 (Hd.parts vn z xs1) w from hs.at_ 0 rfl).lenz) (fun lenn16 => ?_)
       refine rVal (v' := .slice ay16 ny16 cy16) rfl ?_
       refine ixIl (zn := (p).toNat) el23 ((Kn.at_ 0 rfl).imp fun _ h => OwnI.rd h) rfl rfl rfl rfl (by omega) (by omega) rfl ?_
       intro ae17 e17
       refine ldl Try.isAgg2 (e17) (fun _ h => h.pick []) rfl rfl rfl ?_
       refine rNil ?_
       refine qSeq rfl ?_
       refine hBlk ?_
       refine hSeq ?_
       refine hReg (sq 0 (sq 1 sz)) (by kernel_rfl) ?_
       refine eql rfl rfl rfl rfl ?_
       refine asB rfl rfl rfl ?_
       refine rNil ?_
       refine qSeq rfl ?_
       refine hIfD rfl (fun c17 => ?_) (fun c17 => ?_)
       ·
        replace c17 : ((Hd.parts vn z xs1).getD ((p).toNat) 0) = 24 := c17
        refine hReg (sl 0 (sq 1 (sl 2 sz))) (by kernel_rfl) ?_
        refine ldl Try.isAgg2 (cB 2 rfl rfl) trv rfl rfl rfl ?_
        refine add rfl rfl rfl rfl (by omega) ?_
        refine stl (v := .int .i64 _) 2 rfl Try.sizeOf2 trv rfl rfl rfl rfl rfl (Nat.le_of_ble_eq_true rfl) ?_
        refine rNil ?_
        exact qRnd rfl hrc1 (((x1 + 1), x2)) ⟨by dsimp only; rw [Hd.wholes_snoc, ← hx1]; repeat (first | rfl | omega | rw [if_pos (by omega)] | rw [if_neg (by omega)]), by dsimp only; rw [Hd.somes_snoc, ← hx2]; repeat (first | rfl | omega | rw [if_pos (by omega)] | rw [if_neg (by omega)])⟩ (fun _ h => h.pick [1, 1, 1])
       ·
        replace c17 : ¬ (((Hd.parts vn z xs1).getD ((p).toNat) 0) = 24) := c17
        refine hSeq ?_
        refine hReg (sq 0 (sq 1 sz)) (by kernel_rfl) ?_
        refine eql rfl rfl rfl rfl ?_
        refine asB rfl rfl rfl ?_
        refine rNil ?_
        refine qSeq rfl ?_
        refine hIfD rfl (fun c18 => ?_) (fun c18 => ?_)
        ·
         replace c18 : ((Hd.parts vn z xs1).getD ((p).toNat) 0) = 0 := c18
         refine hSkip ?_
         exact qRnd rfl hrc1 (x1, x2) ⟨by dsimp only; rw [Hd.wholes_snoc, ← hx1]; repeat (first | rfl | omega | rw [if_pos (by omega)] | rw [if_neg (by omega)]), by dsimp only; rw [Hd.somes_snoc, ← hx2]; repeat (first | rfl | omega | rw [if_pos (by omega)] | rw [if_neg (by omega)])⟩ (fun _ h => h.pick [1, 1, 1])
        ·
         replace c18 : ¬ (((Hd.parts vn z xs1).getD ((p).toNat) 0) = 0) := c18
         refine hReg (sl 0 (sq 1 (sl 2 sz))) (by kernel_rfl) ?_
         refine ldl Try.isAgg2 (cB 3 rfl rfl) trv rfl rfl rfl ?_
         refine add rfl rfl rfl rfl (by omega) ?_
         refine stl (v := .int .i64 _) 3 rfl Try.sizeOf2 trv rfl rfl rfl rfl rfl (Nat.le_of_ble_eq_true rfl) ?_
         refine rNil ?_
         exact qRnd rfl hrc1 ((x1, (x2 + 1))) ⟨by dsimp only; rw [Hd.wholes_snoc, ← hx1]; repeat (first | rfl | omega | rw [if_pos (by omega)] | rw [if_neg (by omega)]), by dsimp only; rw [Hd.somes_snoc, ← hx2]; repeat (first | rfl | omega | rw [if_pos (by omega)] | rw [if_neg (by omega)])⟩ (fun _ h => h.pick [1, 1, 1])
   ·
    rintro D1 ⟨x1, x2⟩ ⟨he1, he2⟩
    dsimp only at he1 he2
    refine qSeq rfl ?_
    refine hSeq ?_
    refine hDraw (Ls := [blk bka4 2 [.int .i64 x1], blk bka5 2 [.int .i64 x2]]) (by kernel_rfl) (sq 0 (sq 1 (sq 2 (sq 3 (sq 4 sz))))) (by kernel_rfl) (.cons _ (.cons _ (.cons _ (.cons _ (.cons _ (.cons _ (.cons _ (.cons_cons _ (.cons_cons _ .slnil))))))))) ?_
    refine ldq Try.isAgg2 (cB 0 rfl rfl) rfl rfl rfl ?_
    refine ldq Try.isAgg2 (cB 1 rfl rfl) rfl rfl rfl ?_
    refine asI rfl rfl rfl ?_
    refine asI rfl rfl rfl ?_
    refine asI rfl rfl rfl ?_
    refine rNil ?_
    refine qSeq rfl ?_
    refine hRet ?_
    exact Kn.leave 0 rfl <| fun w hs => ⟨[.int .i64 x1, .int .i64 x2, .int .i64 0], ⟨rfl, ⟨rfl, ⟨rfl, trivial⟩⟩⟩, ⟨(x1, x2, 0), rfl, ⟨by first | exact hA.symm | (rw [hA]; exact he1), by first | exact hB.symm | (rw [hB]; exact he2), hC.symm⟩, hs.pick []⟩⟩
   ·
    exact fun _ _ _ _ h => h.elim
theorem impl_OutsOf_c (vn : Int) (az : Option Addr) (nz : Nat) (cz : Nat) (Hz : Nat → Hd) (z : List (List Int)) (aq : Option Addr) (nq : Nat) (cq : Nat) (q : List Int) (ad : Option Addr) (nd : Nat) (cd : Nat) (d : List Int) (p : Int) (w : World) (rz : RdR maK az nz Hz z w) (rq : RdI aq nq q w) (rd : RdI ad nd d w) (hql : q.length ≤ 1048576) (hdl : d.length ≤ 1048576) (hzf : z.flatten.length ≤ 1048576) (hzl : z.length ≤ 1048576) :
  Calls Try.prog 21 #[.int .i64 vn, .slice az nz cz, .slice aq nq cq, .slice ad nd cd, .int .i64 p] w (Ret fun v w' => ∃ x : Option Addr × Nat × Nat × List Int × Int, v = .tuple #[.slice x.1 x.2.1 x.2.2.1, .int .i64 x.2.2.2.2] ∧ (x.2.2.2.1 = Hd.ouY vn z q d p ∧ x.2.2.2.2 = Hd.ouC vn z q d p) ∧ Sep w none_ [OwnI 2 x.1 x.2.1 x.2.2.1 x.2.2.2.1] w') := by
 have kz : Kn w none_ [] (RdR maK az nz Hz z) := fun w' hs => rz.ext hs.upd
 have lz : z.length = nz := rz.1
 have mz : nz ≤ 9223372036854775807 := rz.2.1
 have kq : Kn w none_ [] (RdI aq nq q) := fun w' hs => rq.ext hs.upd
 have lq : q.length = nq := rq.1
 have mq : nq ≤ 9223372036854775807 := rq.2.1
 have kd : Kn w none_ [] (RdI ad nd d) := fun w' hs => rd.ext hs.upd
 have ld : d.length = nd := rd.1
 have md : nd ≤ 9223372036854775807 := rd.2.1
 refine fn (M := none_) (rs := [.tmp 10, .tmp 11]) Try.func21 rfl Try.ntmps21 rfl rfl (Sep.start _ _) ?_
 refine hSeq ?_
 refine hReg (sl 0 (sl 1 (sl 2 (sq 3 (sq 4 sz))))) (by kernel_rfl) ?_
 refine box trv1 rfl rfl rfl rfl (fun bkb1 hbkb1 => ?_)
 refine box trv1 rfl rfl rfl rfl (fun bkb2 hbkb2 => ?_)
 refine box trv1 rfl rfl rfl rfl (fun bkb3 hbkb3 => ?_)
 refine asS rfl rfl rfl ?_
 refine asI rfl rfl rfl ?_
 refine rNil ?_
 refine qSeq rfl ?_
 refine hSeq ?_
 refine hSeq ?_
 refine hReg (sl 0 (sl 1 (sq 2 (sq 3 (sl 4 (sq 5 sz)))))) (by kernel_rfl) ?_
 refine ldl Try.isAgg2 (cB 2 rfl rfl) trv rfl rfl rfl ?_
 refine ldl Try.isAgg22 (cB 1 rfl rfl) trv rfl rfl rfl ?_
 refine mvS rfl rfl rfl ?_
 refine mvS rfl rfl rfl ?_
 refine callP (v := .bool (Hd.isDeal vn z q d)) Try.call60 trv rfl rfl (fun w hs => impl_IsDeal_c _ _ nz cz _ _ _ nq cq _ _ nd cd _ w (Kn.drop (k := 3) kz w hs) (Kn.drop (k := 3) kq w hs) (Kn.drop (k := 3) kd w hs) (by omega) (by first | omega | (simp only [List.length_nil]; omega)) (by omega)) ?_
 refine not rfl rfl rfl ?_
 refine rNil ?_
 refine qSeq rfl ?_
 refine hIfN rfl (fun c1 => ?_) (fun c1 => ?_)
 ·
  replace c1 : (Hd.isDeal vn z q d) = false := c1
  have hdeal : Hd.isDeal vn z q d = false := by simpa using c1
  have hC : Hd.ouC vn z q d p = 1 := by unfold Hd.ouC; rw [if_pos hdeal]
  have hY : Hd.ouY vn z q d p = [] := by unfold Hd.ouY; rw [hC]; rfl
  refine hSeq ?_
  refine hReg (sq 0 (sq 1 sz)) (by kernel_rfl) ?_
  refine asS rfl rfl rfl ?_
  refine asI rfl rfl rfl ?_
  refine rNil ?_
  refine qSeq rfl ?_
  refine hRet ?_
  refine knP (fun _ h => Sep.nilI 2 h) ?_
  exact fun w hs => ⟨[.slice none 0 0, .int .i64 1], ⟨rfl, ⟨rfl, trivial⟩⟩, ⟨(none, 0, 0, [], 1), rfl, ⟨by first | exact hY.symm | (rw [hY]; exact he1), hC.symm⟩, hs.pick [0]⟩⟩
 ·
  replace c1 : (Hd.isDeal vn z q d) = true := c1
  have hdeal : Hd.isDeal vn z q d = true := by simpa using c1
  have hdp := Hd.isDeal_P hdeal
  have hdv := hdp.1.1
  have hdz := hdp.1.2.1
  have hdq := hdp.1.2.2
  have hln := Hd.isDeal_len hdeal
  have hcc := Hd.isDeal_cards hdeal
  have hbl := Hd.boards_len hdeal
  refine hSkip ?_
  refine qSeq rfl ?_
  refine hSeq ?_
  refine hSeq ?_
  refine hReg (sl 0 (sl 1 (sq 2 (sq 3 (sl 4 (sq 5 (sq 6 (sq 7 (sq 8 (sq 9 (sq 10 sz))))))))))) (by kernel_rfl) ?_
  refine ldl Try.isAgg2 (cB 0 rfl rfl) trv rfl rfl rfl ?_
  refine ldl Try.isAgg22 (cB 1 rfl rfl) trv rfl rfl rfl ?_
  refine lenS Try.runUnderlying22 rfl rfl rfl ?_
  refine sub rfl rfl rfl rfl (by omega) ?_
  refine callP (v := .bool (decide ((0 : Int) ≤ p ∧ p ≤ (((nz : Int) - 1))))) Try.call65 trv rfl rfl (fun w hs => impl_within_c _ _ _ w ) ?_
  refine notD rfl rfl rfl ?_
  refine mvB rfl rfl rfl ?_
  refine rBoolD (d := 26) rfl (fun g2 => ?_) (fun g2 => ?_)
  ·
   replace g2 : ¬ ((0 : Int) ≤ p ∧ p ≤ (((nz : Int) - 1))) := g2
   have hC : Hd.ouC vn z q d p = 2 := by unfold Hd.ouC; rw [if_neg (by rw [hdeal]; decide), if_pos (by omega)]
   have hY : Hd.ouY vn z q d p = [] := by unfold Hd.ouY; rw [hC]; rfl
   refine rSkipQ rfl rfl ?_
   refine rSkipQ rfl rfl ?_
   refine rSkipQ rfl rfl ?_
   refine pickB rfl rfl rfl rfl ?_
   refine rNil ?_
   refine qSeq rfl ?_
   refine hIfT rfl ?_
   refine hSeq ?_
   refine hReg (sq 0 (sq 1 sz)) (by kernel_rfl) ?_
   refine asS rfl rfl rfl ?_
   refine asI rfl rfl rfl ?_
   refine rNil ?_
   refine qSeq rfl ?_
   refine hRet ?_
   refine knP (fun _ h => Sep.nilI 2 h) ?_
   exact fun w hs => ⟨[.slice none 0 0, .int .i64 2], ⟨rfl, ⟨rfl, trivial⟩⟩, ⟨(none, 0, 0, [], 2), rfl, ⟨by first | exact hY.symm | (rw [hY]; exact he1), hC.symm⟩, hs.pick [0]⟩⟩
  ·
   replace g2 : ¬ (¬ ((0 : Int) ≤ p ∧ p ≤ (((nz : Int) - 1)))) := g2
   refine mvS rfl rfl rfl ?_
   refine lenS Try.runUnderlying23 rfl rfl rfl ?_
   refine neq rfl rfl rfl rfl ?_
   refine pickB rfl rfl rfl rfl ?_
   refine rNil ?_
   refine qSeq rfl ?_
   refine hIfD rfl (fun c3 => ?_) (fun c3 => ?_)
   ·
    replace c3 : (nq : Int) ≠ 4 := c3
    have hC : Hd.ouC vn z q d p = 2 := by unfold Hd.ouC; rw [if_neg (by rw [hdeal]; decide), if_pos (by omega)]
    have hY : Hd.ouY vn z q d p = [] := by unfold Hd.ouY; rw [hC]; rfl
    refine hSeq ?_
    refine hReg (sq 0 (sq 1 sz)) (by kernel_rfl) ?_
    refine asS rfl rfl rfl ?_
    refine asI rfl rfl rfl ?_
    refine rNil ?_
    refine qSeq rfl ?_
    refine hRet ?_
    refine knP (fun _ h => Sep.nilI 2 h) ?_
    exact fun w hs => ⟨[.slice none 0 0, .int .i64 2], ⟨rfl, ⟨rfl, trivial⟩⟩, ⟨(none, 0, 0, [], 2), rfl, ⟨by first | exact hY.symm | (rw [hY]; exact he1), hC.symm⟩, hs.pick [0]⟩⟩
   ·
    replace c3 : ¬ ((nq : Int) ≠ 4) := c3
    have hC : Hd.ouC vn z q d p = 0 := by unfold Hd.ouC; rw [if_neg (by rw [hdeal]; decide), if_neg (by omega)]
    have hY : Hd.ouY vn z q d p = Hd.outs vn p z (Hd.boards z q d) := by unfold Hd.ouY; rw [if_pos hC]
    refine hSkip ?_
    refine qSeq rfl ?_
    refine hSeq ?_
    refine hReg (sl 0 sz) (by kernel_rfl) ?_
    refine alc Try.zeroValue23 rfl trv1 rfl rfl (fun bka7 hbka7 => ?_)
    refine rNil ?_
    refine qSeq rfl ?_
    refine hSeq ?_
    refine hSeq ?_
    refine hReg (sl 0 (sq 1 (sq 2 (sl 3 sz)))) (by kernel_rfl) ?_
    refine ldl Try.isAgg22 (cB 2 rfl rfl) trv rfl rfl rfl ?_
    refine mvS rfl rfl rfl ?_
    refine mvS rfl rfl rfl ?_
    refine callS Try.call66 trv1 rfl rfl (fun w hs => impl_boardsOf_c _ nz cz _ _ _ nq cq _ _ nd cd _ w (Kn.drop (k := 4) kz w hs) (Kn.drop (k := 4) kq w hs) (Kn.drop (k := 4) kd w hs)) ?_
    rintro ⟨bz1, bq1, bd1⟩ hr1
    refine rPieces (L' := [blk bz1 22 [.slice az nz cz], blk bq1 23 [.slice aq nq cq], blk bd1 23 [.slice ad nd cd], blk bka7 23 [.slice none 0 0], blk bkb3 2 [.int .i64 p], blk bkb2 22 [.slice az nz cz], blk bkb1 2 [.int .i64 vn]]) (fun _ h => h) ?_
    refine rVal (v' := .func (.func 110) #[] #[.pointer (some ⟨bz1, 0, none⟩), .pointer (some ⟨bq1, 0, none⟩), .pointer (some ⟨bd1, 0, none⟩)]) rfl ?_
    refine rNil ?_
    refine qSeq rfl ?_
    refine hBlk ?_
    refine hPieces (fun _ h => Sep.nilI 2 h) ?_
    refine hRange (γ := List Int × Nat × Hd) (gf := 110) (Hd.boards z q d) (fun x => [blk bka7 23 [.slice x.2.2.1 x.2.1 x.2.2.2], OwnI 2 x.2.2.1 x.2.1 x.2.2.2 x.1]) (fun x => [blk bka7 23 [.slice x.2.2.1 x.2.1 x.2.2.2], OwnI 2 x.2.2.1 x.2.1 x.2.2.2 x.1]) (fun pre x => x.1 = Hd.outs vn p z pre ∧ x.2.1 = x.1.length) (fun pre x => False) (([], 0, (none, 0))) [blk bz1 22 [.slice az nz cz], blk bq1 23 [.slice aq nq cq], blk bd1 23 [.slice ad nd cd], blk bkb3 2 [.int .i64 p], blk bkb2 22 [.slice az nz cz], blk bkb1 2 [.int .i64 vn]] (by decide) rfl Try.call110 (fun _ h => h.pick [1, 1, 1, 2, 2, 2, 1, 0]) ⟨rfl, rfl⟩ (fun w M1 hk => impl_boardsOf_1_it bz1 az nz cz Hz z bq1 aq nq cq q bd1 ad nd cd d w M1 (hk _ ((Kn.at_ 0 rfl).imp fun _ h => RdB.of h)) (hk _ (Kn.nil kz)) (hk _ ((Kn.at_ 1 rfl).imp fun _ h => RdB.of h)) (hk _ (Kn.nil kq)) (hk _ ((Kn.at_ 2 rfl).imp fun _ h => RdB.of h)) (hk _ (Kn.nil kd)) (by omega) (by omega) (by omega) (by assumption)) ?_ ?_ ?_
    ·
     rintro l1 rc1 hrc1 pre1 xs1 ⟨o, n, hd⟩ ax1 nx1 cx1 wR1 MR1 ⟨ho1, hn1⟩ hpre1 hk1 hrd1
     dsimp only at ho1 hn1
     have f1 := hk1 _ (Kn.nil kz)
     have f2 := hk1 _ (Kn.nil kq)
     have f3 := hk1 _ (Kn.nil kd)
     have f4 := hk1 _ ((Kn.at_ 5 rfl).imp fun _ h => RdB.of (bk := bkb1) (e := 2) (cs := [.int .i64 vn]) h)
     have f5 := hk1 _ ((Kn.at_ 4 rfl).imp fun _ h => RdB.of (bk := bkb2) (e := 22) (cs := [.slice az nz cz]) h)
     have f6 := hk1 _ ((Kn.at_ 3 rfl).imp fun _ h => RdB.of (bk := bkb3) (e := 2) (cs := [.int .i64 p]) h)
     have f7 := hk1 _ ((Kn.at_ 0 rfl).imp fun _ h => RdB.of (bk := bz1) (e := 22) (cs := [.slice az nz cz]) h)
     have f8 := hk1 _ ((Kn.at_ 1 rfl).imp fun _ h => RdB.of (bk := bq1) (e := 23) (cs := [.slice aq nq cq]) h)
     have f9 := hk1 _ ((Kn.at_ 2 rfl).imp fun _ h => RdB.of (bk := bd1) (e := 23) (cs := [.slice ad nd cd]) h)
     refine hKnow (fun w hs => (Kn.nil hrd1 w hs).1) (fun lxs1 => ?_)
     have hbo := Hd.boards_ok hdeal (Hd.pre_mem hpre1)
     have hb5 := hbo.1
     have hbd := hbo.2
     have hpl := Hd.pre_len hpre1
     have hppl := Hd.parts_len vn z xs1
     have hol := Hd.outs_len vn p z pre1
     rw [← ho1] at hol
     refine hReg (sq 0 sz) (by kernel_rfl) ?_
     refine asS rfl rfl rfl ?_
     refine rNil ?_
     refine qAsn rfl hrc1 rfl ?_
     refine hBlk ?_
     refine hSeq ?_
     refine hDraw (Ls := []) (by kernel_rfl) (sq 2 (.alt (sl 0 (.alt (sl 1 (.alt (sl 3 (sl 4 (sq 5 (sl 6 (sq 7 sz))))) (sl 4 (sl 3 (sq 5 (sl 6 (sq 7 sz))))))) (sl 4 (sl 1 (sl 3 (sq 5 (sl 6 (sq 7 sz)))))))) (.alt (sl 1 (.alt (sl 0 (.alt (sl 3 (sl 4 (sq 5 (sl 6 (sq 7 sz))))) (sl 4 (sl 3 (sq 5 (sl 6 (sq 7 sz))))))) (sl 4 (sl 0 (sl 3 (sq 5 (sl 6 (sq 7 sz)))))))) (sl 4 (.alt (sl 0 (sl 1 (sl 3 (sq 5 (sl 6 (sq 7 sz)))))) (sl 1 (sl 0 (sl 3 (sq 5 (sl 6 (sq 7 sz))))))))))) (by kernel_rfl) (.cons _ (.cons _ (.cons _ .slnil))) ?_
     refine mvS rfl rfl rfl ?_
     refine rAlt ?_ ?_
     ·
      refine ldl Try.isAgg2 (cD (Kn.drop (k := 3) f4) rfl) (fun _ h => h.pick []) rfl rfl rfl ?_
      refine rAlt ?_ ?_
      ·
       refine ldl Try.isAgg22 (cD (Kn.drop (k := 3) f5) rfl) (fun _ h => h.pick []) rfl rfl rfl ?_
       refine rAlt ?_ ?_
       ·
        refine callS Try.call67 (by exact (fun _ _ h => h.pick [])) rfl rfl (fun w hs => impl_partsAt_c _ _ nz cz _ _ _ nx1 cx1 _ w (Kn.drop (k := 3) f1 w hs) (Kn.drop (k := 3) hrd1 w hs) (by omega) (by omega) (by omega) (by assumption)) ?_
        rintro ⟨ay2, ny2, cy2, y2⟩ hr2
        dsimp only at hr2
        subst y2
        refine rPieces (L' := [OwnI 2 ay2 ny2 cy2 (Hd.parts vn z xs1), ob l1 (rc1 .busy none), blk bka7 23 [.slice hd.1 n hd.2], OwnI 2 hd.1 n hd.2 o]) (fun _ h => h) ?_
        refine rKnow (fun w hs => (show OwnI 2 ay2 ny2 cy2 (Hd.parts vn z xs1) w from hs.at_ 0 rfl).lenz) (fun lenn12 => ?_)
        refine rVal (v' := .slice ay2 ny2 cy2) rfl ?_
        refine ldl Try.isAgg2 (cD (Kn.drop (k := 4) f6) rfl) (fun _ h => h.pick []) rfl rfl rfl ?_
        refine ixIl (zn := (p).toNat) el23 ((Kn.at_ 0 rfl).imp fun _ h => OwnI.rd h) rfl rfl rfl rfl (by omega) (by omega) rfl ?_
        intro ae3 e3
        refine ldl Try.isAgg2 (e3) (fun _ h => h.pick []) rfl rfl rfl ?_
        refine eql rfl rfl rfl rfl ?_
        refine rNil ?_
        refine qSeq rfl ?_
        refine hIfD rfl (fun c4 => ?_) (fun c4 => ?_)
        ·
         replace c4 : ((Hd.parts vn z xs1).getD ((p).toNat) 0) = 24 := c4
         refine hDraw (Ls := [blk bka7 23 [.slice hd.1 n hd.2]]) (by kernel_rfl) (sq 0 (sq 1 (sq 2 (sq 3 (sl 4 (sl 5 (sf 6 sz))))))) (by kernel_rfl) (.cons _ (.cons _ (.cons_cons _ (.cons _ .slnil)))) ?_
         refine ldq Try.isAgg23 (cB 0 rfl rfl) rfl rfl rfl ?_
         refine mvS rfl rfl rfl ?_
         refine ixIq (zn := 4) el23 (Kn.drop (k := 1) hrd1) (fun _ h => h.pick [2]) rfl rfl rfl rfl (by omega) (by omega) rfl ?_
         intro ae4 e4
         refine ldq Try.isAgg2 (e4) rfl rfl rfl ?_
         refine bsl (fun _ _ h => h.pick [3]) rfl rfl rfl (bsl23_1 (.int .i64 _) rfl) (fun bkl13 hbkl13 => ?_)
         refine aplI (N := n) (x := (xs1.getD 4 0)) 4 0 rfl rfl mk23 (fun _ _ h => h.pick [3]) rfl rfl rfl rfl (by omega) ?_
         intro aq5 cq5
         refine stf (v := .slice _ _ _) 3 rfl Try.sizeOf23 rfl rfl rfl rfl rfl (Nat.le_of_ble_eq_true rfl) ?_
         refine rNil ?_
         exact qRnd rfl hrc1 (((o ++ [(xs1.getD 4 0)]), (n + 1), (aq5, cq5))) ⟨by dsimp only; first | (rw [Hd.outs_yes (by assumption), ho1]) | (rw [Hd.outs_no (by assumption), ho1]), by dsimp only; first | omega | (rw [List.length_append]; simp; omega)⟩ (fun _ h => h.pick [2, 2, 2])
        ·
         replace c4 : ¬ (((Hd.parts vn z xs1).getD ((p).toNat) 0) = 24) := c4
         refine hSkip ?_
         exact qRnd rfl hrc1 ((o, n, (hd.1, hd.2))) ⟨by dsimp only; first | (rw [Hd.outs_yes (by assumption), ho1]) | (rw [Hd.outs_no (by assumption), ho1]), by dsimp only; first | omega | (rw [List.length_append]; simp; omega)⟩ (fun _ h => h.pick [1, 1, 1])
       ·
        refine ldl Try.isAgg2 (cD (Kn.drop (k := 3) f6) rfl) (fun _ h => h.pick []) rfl rfl rfl ?_
        refine callS Try.call67 (by exact (fun _ _ h => h.pick [])) rfl rfl (fun w hs => impl_partsAt_c _ _ nz cz _ _ _ nx1 cx1 _ w (Kn.drop (k := 3) f1 w hs) (Kn.drop (k := 3) hrd1 w hs) (by omega) (by omega) (by omega) (by assumption)) ?_
        rintro ⟨ay6, ny6, cy6, y6⟩ hr6
        dsimp only at hr6
        subst y6
        refine rPieces (L' := [OwnI 2 ay6 ny6 cy6 (Hd.parts vn z xs1), ob l1 (rc1 .busy none), blk bka7 23 [.slice hd.1 n hd.2], OwnI 2 hd.1 n hd.2 o]) (fun _ h => h) ?_
        refine rKnow (fun w hs => (show OwnI 2 ay6 ny6 cy6 (Hd.parts vn z xs1) w from hs.at_ 0 rfl).lenz) (fun lenn14 => ?_)
        refine rVal (v' := .slice ay6 ny6 cy6) rfl ?_
        refine ixIl (zn := (p).toNat) el23 ((Kn.at_ 0 rfl).imp fun _ h => OwnI.rd h) rfl rfl rfl rfl (by omega) (by omega) rfl ?_
        intro ae7 e7
        refine ldl Try.isAgg2 (e7) (fun _ h => h.pick []) rfl rfl rfl ?_
        refine eql rfl rfl rfl rfl ?_
        refine rNil ?_
        refine qSeq rfl ?_
        refine hIfD rfl (fun c5 => ?_) (fun c5 => ?_)
        ·
         replace c5 : ((Hd.parts vn z xs1).getD ((p).toNat) 0) = 24 := c5
         refine hDraw (Ls := [blk bka7 23 [.slice hd.1 n hd.2]]) (by kernel_rfl) (sq 0 (sq 1 (sq 2 (sq 3 (sl 4 (sl 5 (sf 6 sz))))))) (by kernel_rfl) (.cons _ (.cons _ (.cons_cons _ (.cons _ .slnil)))) ?_
         refine ldq Try.isAgg23 (cB 0 rfl rfl) rfl rfl rfl ?_
         refine mvS rfl rfl rfl ?_
         refine ixIq (zn := 4) el23 (Kn.drop (k := 1) hrd1) (fun _ h => h.pick [2]) rfl rfl rfl rfl (by omega) (by omega) rfl ?_
         intro ae8 e8
         refine ldq Try.isAgg2 (e8) rfl rfl rfl ?_
         refine bsl (fun _ _ h => h.pick [3]) rfl rfl rfl (bsl23_1 (.int .i64 _) rfl) (fun bkl15 hbkl15 => ?_)
         refine aplI (N := n) (x := (xs1.getD 4 0)) 4 0 rfl rfl mk23 (fun _ _ h => h.pick [3]) rfl rfl rfl rfl (by omega) ?_
         intro aq9 cq9
         refine stf (v := .slice _ _ _) 3 rfl Try.sizeOf23 rfl rfl rfl rfl rfl (Nat.le_of_ble_eq_true rfl) ?_
         refine rNil ?_
         exact qRnd rfl hrc1 (((o ++ [(xs1.getD 4 0)]), (n + 1), (aq9, cq9))) ⟨by dsimp only; first | (rw [Hd.outs_yes (by assumption), ho1]) | (rw [Hd.outs_no (by assumption), ho1]), by dsimp only; first | omega | (rw [List.length_append]; simp; omega)⟩ (fun _ h => h.pick [2, 2, 2])
        ·
         replace c5 : ¬ (((Hd.parts vn z xs1).getD ((p).toNat) 0) = 24) := c5
         refine hSkip ?_
         exact qRnd rfl hrc1 ((o, n, (hd.1, hd.2))) ⟨by dsimp only; first | (rw [Hd.outs_yes (by assumption), ho1]) | (rw [Hd.outs_no (by assumption), ho1]), by dsimp only; first | omega | (rw [List.length_append]; simp; omega)⟩ (fun _ h => h.pick [1, 1, 1])
      ·
       refine ldl Try.isAgg2 (cD (Kn.drop (k := 3) f6) rfl) (fun _ h => h.pick []) rfl rfl rfl ?_
       refine ldl Try.isAgg22 (cD (Kn.drop (k := 3) f5) rfl) (fun _ h => h.pick []) rfl rfl rfl ?_
       refine callS Try.call67 (by exact (fun _ _ h => h.pick [])) rfl rfl (fun w hs => impl_partsAt_c _ _ nz cz _ _ _ nx1 cx1 _ w (Kn.drop (k := 3) f1 w hs) (Kn.drop (k := 3) hrd1 w hs) (by omega) (by omega) (by omega) (by assumption)) ?_
       rintro ⟨ay10, ny10, cy10, y10⟩ hr10
       dsimp only at hr10
       subst y10
       refine rPieces (L' := [OwnI 2 ay10 ny10 cy10 (Hd.parts vn z xs1), ob l1 (rc1 .busy none), blk bka7 23 [.slice hd.1 n hd.2], OwnI 2 hd.1 n hd.2 o]) (fun _ h => h) ?_
       refine rKnow (fun w hs => (show OwnI 2 ay10 ny10 cy10 (Hd.parts vn z xs1) w from hs.at_ 0 rfl).lenz) (fun lenn16 => ?_)
       refine rVal (v' := .slice ay10 ny10 cy10) rfl ?_
       refine ixIl (zn := (p).toNat) el23 ((Kn.at_ 0 rfl).imp fun _ h => OwnI.rd h) rfl rfl rfl rfl (by omega) (by omega) rfl ?_
       intro ae11 e11
       refine ldl Try.isAgg2 (e11) (fun _ h => h.pick []) rfl rfl rfl ?_
       refine eql rfl rfl rfl rfl ?_
       refine rNil ?_
       refine qSeq rfl ?_
       refine hIfD rfl (fun c6 => ?_) (fun c6 => ?_)
       ·
        replace c6 : ((Hd.parts vn z xs1).getD ((p).toNat) 0) = 24 := c6
        refine hDraw (Ls := [blk bka7 23 [.slice hd.1 n hd.2]]) (by kernel_rfl) (sq 0 (sq 1 (sq 2 (sq 3 (sl 4 (sl 5 (sf 6 sz))))))) (by kernel_rfl) (.cons _ (.cons _ (.cons_cons _ (.cons _ .slnil)))) ?_
        refine ldq Try.isAgg23 (cB 0 rfl rfl) rfl rfl rfl ?_
        refine mvS rfl rfl rfl ?_
        refine ixIq (zn := 4) el23 (Kn.drop (k := 1) hrd1) (fun _ h => h.pick [2]) rfl rfl rfl rfl (by omega) (by omega) rfl ?_
        intro ae12 e12
        refine ldq Try.isAgg2 (e12) rfl rfl rfl ?_
        refine bsl (fun _ _ h => h.pick [3]) rfl rfl rfl (bsl23_1 (.int .i64 _) rfl) (fun bkl17 hbkl17 => ?_)
        refine aplI (N := n) (x := (xs1.getD 4 0)) 4 0 rfl rfl mk23 (fun _ _ h => h.pick [3]) rfl rfl rfl rfl (by omega) ?_
        intro aq13 cq13
        refine stf (v := .slice _ _ _) 3 rfl Try.sizeOf23 rfl rfl rfl rfl rfl (Nat.le_of_ble_eq_true rfl) ?_
        refine rNil ?_
        exact qRnd rfl hrc1 (((o ++ [(xs1.getD 4 0)]), (n + 1), (aq13, cq13))) ⟨by dsimp only; first | (rw [Hd.outs_yes (by assumption), ho1]) | (rw [Hd.outs_no (by assumption), ho1]), by dsimp only; first | omega | (rw [List.length_append]; simp; omega)⟩ (fun _ h => h.pick [2, 2, 2])
       ·
        replace c6 : ¬ (((Hd.parts vn z xs1).getD ((p).toNat) 0) = 24) := c6
        refine hSkip ?_
        exact qRnd rfl hrc1 ((o, n, (hd.1, hd.2))) ⟨by dsimp only; first | (rw [Hd.outs_yes (by assumption), ho1]) | (rw [Hd.outs_no (by assumption), ho1]), by dsimp only; first | omega | (rw [List.length_append]; simp; omega)⟩ (fun _ h => h.pick [1, 1, 1])
     ·
      refine rAlt ?_ ?_
      ·
       refine ldl Try.isAgg22 (cD (Kn.drop (k := 3) f5) rfl) (fun _ h => h.pick []) rfl rfl rfl ?_
       refine rAlt ?_ ?_
       ·
        refine ldl Try.isAgg2 (cD (Kn.drop (k := 3) f4) rfl) (fun _ h => h.pick []) rfl rfl rfl ?_
        refine rAlt ?_ ?_
        ·
         refine callS Try.call67 (by exact (fun _ _ h => h.pick [])) rfl rfl (fun w hs => impl_partsAt_c _ _ nz cz _ _ _ nx1 cx1 _ w (Kn.drop (k := 3) f1 w hs) (Kn.drop (k := 3) hrd1 w hs) (by omega) (by omega) (by omega) (by assumption)) ?_
         rintro ⟨ay14, ny14, cy14, y14⟩ hr14
         dsimp only at hr14
         subst y14
         refine rPieces (L' := [OwnI 2 ay14 ny14 cy14 (Hd.parts vn z xs1), ob l1 (rc1 .busy none), blk bka7 23 [.slice hd.1 n hd.2], OwnI 2 hd.1 n hd.2 o]) (fun _ h => h) ?_
         refine rKnow (fun w hs => (show OwnI 2 ay14 ny14 cy14 (Hd.parts vn z xs1) w from hs.at_ 0 rfl).lenz) (fun lenn18 => ?_)
         refine rVal (v' := .slice ay14 ny14 cy14) rfl ?_
         refine ldl Try.isAgg2 (cD (Kn.drop (k := 4) f6) rfl) (fun _ h => h.pick []) rfl rfl rfl ?_
         refine ixIl (zn := (p).toNat) el23 ((Kn.at_ 0 rfl).imp fun _ h => OwnI.rd h) rfl rfl rfl rfl (by omega) (by omega) rfl ?_
         intro ae15 e15
         refine ldl Try.isAgg2 (e15) (fun _ h => h.pick []) rfl rfl rfl ?_
         refine eql rfl rfl rfl rfl ?_
         refine rNil ?_
         refine qSeq rfl ?_
         refine hIfD rfl (fun c7 => ?_) (fun c7 => ?_)
         ·
          replace c7 : ((Hd.parts vn z xs1).getD ((p).toNat) 0) = 24 := c7
          refine hDraw (Ls := [blk bka7 23 [.slice hd.1 n hd.2]]) (by kernel_rfl) (sq 0 (sq 1 (sq 2 (sq 3 (sl 4 (sl 5 (sf 6 sz))))))) (by kernel_rfl) (.cons _ (.cons _ (.cons_cons _ (.cons _ .slnil)))) ?_
          refine ldq Try.isAgg23 (cB 0 rfl rfl) rfl rfl rfl ?_
          refine mvS rfl rfl rfl ?_
          refine ixIq (zn := 4) el23 (Kn.drop (k := 1) hrd1) (fun _ h => h.pick [2]) rfl rfl rfl rfl (by omega) (by omega) rfl ?_
          intro ae16 e16
          refine ldq Try.isAgg2 (e16) rfl rfl rfl ?_
          refine bsl (fun _ _ h => h.pick [3]) rfl rfl rfl (bsl23_1 (.int .i64 _) rfl) (fun bkl19 hbkl19 => ?_)
          refine aplI (N := n) (x := (xs1.getD 4 0)) 4 0 rfl rfl mk23 (fun _ _ h => h.pick [3]) rfl rfl rfl rfl (by omega) ?_
          intro aq17 cq17
          refine stf (v := .slice _ _ _) 3 rfl Try.sizeOf23 rfl rfl rfl rfl rfl (Nat.le_of_ble_eq_true rfl) ?_
          refine rNil ?_
          exact qRnd rfl hrc1 (((o ++ [(xs1.getD 4 0)]), (n + 1), (aq17, cq17))) ⟨by dsimp only; first | (rw [Hd.outs_yes (by assumption), ho1]) | (rw [Hd.outs_no (by assumption), ho1]), by dsimp only; first | omega | (rw [List.length_append]; simp; omega)⟩ (fun _ h => h.pick [2, 2, 2])
         ·
          replace c7 : ¬ (((Hd.parts vn z xs1).getD ((p).toNat) 0) = 24) := c7
          refine hSkip ?_
          exact qRnd rfl hrc1 ((o, n, (hd.1, hd.2))) ⟨by dsimp only; first | (rw [Hd.outs_yes (by assumption), ho1]) | (rw [Hd.outs_no (by assumption), ho1]), by dsimp only; first | omega | (rw [List.length_append]; simp; omega)⟩ (fun _ h => h.pick [1, 1, 1])
        ·
         refine ldl Try.isAgg2 (cD (Kn.drop (k := 3) f6) rfl) (fun _ h => h.pick []) rfl rfl rfl ?_
         refine callS Try.call67 (by exact (fun _ _ h => h.pick [])) rfl rfl (fun w hs => impl_partsAt_c _ _ nz cz _ _ _ nx1 cx1 _ w (Kn.drop (k := 3) f1 w hs) (Kn.drop (k := 3) hrd1 w hs) (by omega) (by omega) (by omega) (by assumption)) ?_
         rintro ⟨ay18, ny18, cy18, y18⟩ hr18
         dsimp only at hr18
         subst y18
         refine rPieces (L' := [OwnI 2 ay18 ny18 cy18 (Hd.parts vn z xs1), ob l1 (rc1 .busy none), blk bka7 23 [.slice hd.1 n hd.2], OwnI 2 hd.1 n hd.2 o]) (fun _ h => h) ?_
         refine rKnow (fun w hs => (show OwnI 2 ay18 ny18 cy18 (Hd.parts vn z xs1) w from hs.at_ 0 rfl).lenz) (fun lenn20 => ?_)
         refine rVal (v' := .slice ay18 ny18 cy18) rfl ?_
         refine ixIl (zn := (p).toNat) el23 ((Kn.at_ 0 rfl).imp fun _ h => OwnI.rd h) rfl rfl rfl rfl (by omega) (by omega) rfl ?_
         intro ae19 e19
         refine ldl Try.isAgg2 (e19) (fun _ h => h.pick []) rfl rfl rfl ?_
         refine eql rfl rfl rfl rfl ?_
         refine rNil ?_
         refine qSeq rfl ?_
         refine hIfD rfl (fun c8 => ?_) (fun c8 => ?_)
         ·
          replace c8 : ((Hd.parts vn z xs1).getD ((p).toNat) 0) = 24 := c8
          refine hDraw (Ls := [blk bka7 23 [.slice hd.1 n hd.2]]) (by kernel_rfl) (sq 0 (sq 1 (sq 2 (sq 3 (sl 4 (sl 5 (sf 6 sz))))))) (by kernel_rfl) (.cons _ (.cons _ (.cons_cons _ (.cons _ .slnil)))) ?_
          refine ldq Try.isAgg23 (cB 0 rfl rfl) rfl rfl rfl ?_
          refine mvS rfl rfl rfl ?_
          refine ixIq (zn := 4) el23 (Kn.drop (k := 1) hrd1) (fun _ h => h.pick [2]) rfl rfl rfl rfl (by omega) (by omega) rfl ?_
          intro ae20 e20
          refine ldq Try.isAgg2 (e20) rfl rfl rfl ?_
          refine bsl (fun _ _ h => h.pick [3]) rfl rfl rfl (bsl23_1 (.int .i64 _) rfl) (fun bkl21 hbkl21 => ?_)
          refine aplI (N := n) (x := (xs1.getD 4 0)) 4 0 rfl rfl mk23 (fun _ _ h => h.pick [3]) rfl rfl rfl rfl (by omega) ?_
          intro aq21 cq21
          refine stf (v := .slice _ _ _) 3 rfl Try.sizeOf23 rfl rfl rfl rfl rfl (Nat.le_of_ble_eq_true rfl) ?_
          refine rNil ?_
          exact qRnd rfl hrc1 (((o ++ [(xs1.getD 4 0)]), (n + 1), (aq21, cq21))) ⟨by dsimp only; first | (rw [Hd.outs_yes (by assumption), ho1]) | (rw [Hd.outs_no (by assumption), ho1]), by dsimp only; first | omega | (rw [List.length_append]; simp; omega)⟩ (fun _ h => h.pick [2, 2, 2])
         ·
          replace c8 : ¬ (((Hd.parts vn z xs1).getD ((p).toNat) 0) = 24) := c8
          refine hSkip ?_
          exact qRnd rfl hrc1 ((o, n, (hd.1, hd.2))) ⟨by dsimp only; first | (rw [Hd.outs_yes (by assumption), ho1]) | (rw [Hd.outs_no (by assumption), ho1]), by dsimp only; first | omega | (rw [List.length_append]; simp; omega)⟩ (fun _ h => h.pick [1, 1, 1])
       ·
        refine ldl Try.isAgg2 (cD (Kn.drop (k := 3) f6) rfl) (fun _ h => h.pick []) rfl rfl rfl ?_
        refine ldl Try.isAgg2 (cD (Kn.drop (k := 3) f4) rfl) (fun _ h => h.pick []) rfl rfl rfl ?_
        refine callS Try.call67 (by exact (fun _ _ h => h.pick [])) rfl rfl (fun w hs => impl_partsAt_c _ _ nz cz _ _ _ nx1 cx1 _ w (Kn.drop (k := 3) f1 w hs) (Kn.drop (k := 3) hrd1 w hs) (by omega) (by omega) (by omega) (by assumption)) ?_
        rintro ⟨ay22, ny22, cy22, y22⟩ hr22
        dsimp only at hr22
        subst y22
        refine rPieces (L' := [OwnI 2 ay22 ny22 cy22 (Hd.parts vn z xs1), ob l1 (rc1 .busy none), blk bka7 23 [.slice hd.1 n hd.2], OwnI 2 hd.1 n hd.2 o]) (fun _ h => h) ?_
        refine rKnow (fun w hs => (show OwnI 2 ay22 ny22 cy22 (Hd.parts vn z xs1) w from hs.at_ 0 rfl).lenz) (fun lenn22 => ?_)
        refine rVal (v' := .slice ay22 ny22 cy22) rfl ?_
        refine ixIl (zn := (p).toNat) el23 ((Kn.at_ 0 rfl).imp fun _ h => OwnI.rd h) rfl rfl rfl rfl (by omega) (by omega) rfl ?_
        intro ae23 e23
        refine ldl Try.isAgg2 (e23) (fun _ h => h.pick []) rfl rfl rfl ?_
        refine eql rfl rfl rfl rfl ?_
        refine rNil ?_
        refine qSeq rfl ?_
        refine hIfD rfl (fun c9 => ?_) (fun c9 => ?_)
        ·
         replace c9 : ((Hd.parts vn z xs1).getD ((p).toNat) 0) = 24 := c9
         refine hDraw (Ls := [blk bka7 23 [.slice hd.1 n hd.2]]) (by kernel_rfl) (sq 0 (sq 1 (sq 2 (sq 3 (sl 4 (sl 5 (sf 6 sz))))))) (by kernel_rfl) (.cons _ (.cons _ (.cons_cons _ (.cons _ .slnil)))) ?_
         refine ldq Try.isAgg23 (cB 0 rfl rfl) rfl rfl rfl ?_
         refine mvS rfl rfl rfl ?_
         refine ixIq (zn := 4) el23 (Kn.drop (k := 1) hrd1) (fun _ h => h.pick [2]) rfl rfl rfl rfl (by omega) (by omega) rfl ?_
         intro ae24 e24
         refine ldq Try.isAgg2 (e24) rfl rfl rfl ?_
         refine bsl (fun _ _ h => h.pick [3]) rfl rfl rfl (bsl23_1 (.int .i64 _) rfl) (fun bkl23 hbkl23 => ?_)
         refine aplI (N := n) (x := (xs1.getD 4 0)) 4 0 rfl rfl mk23 (fun _ _ h => h.pick [3]) rfl rfl rfl rfl (by omega) ?_
         intro aq25 cq25
         refine stf (v := .slice _ _ _) 3 rfl Try.sizeOf23 rfl rfl rfl rfl rfl (Nat.le_of_ble_eq_true rfl) ?_
         refine rNil ?_
         exact qRnd rfl hrc1 (((o ++ [(xs1.getD 4 0)]), (n + 1), (aq25, cq25))) ⟨by dsimp only; first | (rw [Hd.outs_yes (by assumption), ho1]) | (rw [Hd.outs_no (by assumption), ho1]), by dsimp only; first | omega | (rw [List.length_append]; simp; omega)⟩ (fun _ h => h.pick [2, 2, 2])
        ·
         replace c9 : ¬ (((Hd.parts vn z xs1).getD ((p).toNat) 0) = 24) := c9
         refine hSkip ?_
         exact qRnd rfl hrc1 ((o, n, (hd.1, hd.2))) ⟨by dsimp only; first | (rw [Hd.outs_yes (by assumption), ho1]) | (rw [Hd.outs_no (by assumption), ho1]), by dsimp only; first | omega | (rw [List.length_append]; simp; omega)⟩ (fun _ h => h.pick [1, 1, 1])
      ·
       refine ldl Try.isAgg2 (cD (Kn.drop (k := 3) f6) rfl) (fun _ h => h.pick []) rfl rfl rfl ?_
       refine rAlt ?_ ?_
       ·
        refine ldl Try.isAgg2 (cD (Kn.drop (k := 3) f4) rfl) (fun _ h => h.pick []) rfl rfl rfl ?_
        refine ldl Try.isAgg22 (cD (Kn.drop (k := 3) f5) rfl) (fun _ h => h.pick []) rfl rfl rfl ?_
        refine callS Try.call67 (by exact (fun _ _ h => h.pick [])) rfl rfl (fun w hs => impl_partsAt_c _ _ nz cz _ _ _ nx1 cx1 _ w (Kn.drop (k := 3) f1 w hs) (Kn.drop (k := 3) hrd1 w hs) (by omega) (by omega) (by omega) (by assumption)) ?_
        rintro ⟨ay26, ny26, cy26, y26⟩ hr26
        dsimp only at hr26
        subst y26
        refine rPieces (L' := [OwnI 2 ay26 ny26 cy26 (Hd.parts vn z xs1), ob l1 (rc1 .busy none), blk bka7 23 [.slice hd.1 n hd.2], OwnI 2 hd.1 n hd.2 o]) (fun _ h => h) ?_
        refine rKnow (fun w hs => (show OwnI 2 ay26 ny26 cy26 (Hd.parts vn z xs1) w from hs.at_ 0 rfl).lenz) (fun lenn24 => ?_)
        refine rVal (v' := .slice ay26 ny26 cy26) rfl ?_
        refine ixIl (zn := (p).toNat) el23 ((Kn.at_ 0 rfl).imp fun _ h => OwnI.rd h) rfl rfl rfl rfl (by omega) (by omega) rfl ?_
        intro ae27 e27
        refine ldl Try.isAgg2 (e27) (fun _ h => h.pick []) rfl rfl rfl ?_
        refine eql rfl rfl rfl rfl ?_
        refine rNil ?_
        refine qSeq rfl ?_
        refine hIfD rfl (fun c10 => ?_) (fun c10 => ?_)
        ·
         replace c10 : ((Hd.parts vn z xs1).getD ((p).toNat) 0) = 24 := c10
         refine hDraw (Ls := [blk bka7 23 [.slice hd.1 n hd.2]]) (by kernel_rfl) (sq 0 (sq 1 (sq 2 (sq 3 (sl 4 (sl 5 (sf 6 sz))))))) (by kernel_rfl) (.cons _ (.cons _ (.cons_cons _ (.cons _ .slnil)))) ?_
         refine ldq Try.isAgg23 (cB 0 rfl rfl) rfl rfl rfl ?_
         refine mvS rfl rfl rfl ?_
         refine ixIq (zn := 4) el23 (Kn.drop (k := 1) hrd1) (fun _ h => h.pick [2]) rfl rfl rfl rfl (by omega) (by omega) rfl ?_
         intro ae28 e28
         refine ldq Try.isAgg2 (e28) rfl rfl rfl ?_
         refine bsl (fun _ _ h => h.pick [3]) rfl rfl rfl (bsl23_1 (.int .i64 _) rfl) (fun bkl25 hbkl25 => ?_)
         refine aplI (N := n) (x := (xs1.getD 4 0)) 4 0 rfl rfl mk23 (fun _ _ h => h.pick [3]) rfl rfl rfl rfl (by omega) ?_
         intro aq29 cq29
         refine stf (v := .slice _ _ _) 3 rfl Try.sizeOf23 rfl rfl rfl rfl rfl (Nat.le_of_ble_eq_true rfl) ?_
         refine rNil ?_
         exact qRnd rfl hrc1 (((o ++ [(xs1.getD 4 0)]), (n + 1), (aq29, cq29))) ⟨by dsimp only; first | (rw [Hd.outs_yes (by assumption), ho1]) | (rw [Hd.outs_no (by assumption), ho1]), by dsimp only; first | omega | (rw [List.length_append]; simp; omega)⟩ (fun _ h => h.pick [2, 2, 2])
        ·
         replace c10 : ¬ (((Hd.parts vn z xs1).getD ((p).toNat) 0) = 24) := c10
         refine hSkip ?_
         exact qRnd rfl hrc1 ((o, n, (hd.1, hd.2))) ⟨by dsimp only; first | (rw [Hd.outs_yes (by assumption), ho1]) | (rw [Hd.outs_no (by assumption), ho1]), by dsimp only; first | omega | (rw [List.length_append]; simp; omega)⟩ (fun _ h => h.pick [1, 1, 1])
       ·
        refine ldl Try.isAgg22 (cD (Kn.drop (k := 3) f5) rfl) (fun _ h => h.pick []) rfl rfl rfl ?_
        refine ldl Try.isAgg2 (cD (Kn.drop (k := 3) f4) rfl) (fun _ h => h.pick []) rfl rfl rfl ?_
        refine callS Try.call67 (by exact (fun _ _ h => h.pick [])) rfl rfl (fun w hs => impl_partsAt_c _ _ nz cz _ _ _ nx1 cx1 _ w (Kn.drop (k := 3) f1 w hs) (Kn.drop (k := 3) hrd1 w hs) (by omega) (by omega) (by omega) (by assumption)) ?_
        rintro ⟨ay30, ny30, cy30, y30⟩ hr30
        dsimp only at hr30
        subst y30
        refine rPieces (L' := [OwnI 2 ay30 ny30 cy30 (Hd.parts vn z xs1), ob l1 (rc1 .busy none), blk bka7 23 [.slice hd.1 n hd.2], OwnI 2 hd.1 n hd.2 o]) (fun _ h => h) ?_
        refine rKnow (fun w hs => (show OwnI 2 ay30 ny30 cy30 (Hd.parts vn z xs1) w from hs.at_ 0 rfl).lenz) (fun lenn26 => ?_)
        refine rVal (v' := .slice ay30 ny30 cy30) rfl ?_
        refine ixIl (zn := (p).toNat) el23 ((Kn.at_ 0 rfl).imp fun _ h => OwnI.rd h) rfl rfl rfl rfl (by omega) (by omega) rfl ?_
        intro ae31 e31
        refine ldl Try.isAgg2 (e31) (fun _ h => h.pick []) rfl rfl rfl ?_
        refine eql rfl rfl rfl rfl ?_
        refine rNil ?_
        refine qSeq rfl ?_
        refine hIfD rfl (fun c11 => ?_) (fun c11 => ?_)
        ·
         replace c11 : ((Hd.parts vn z xs1).getD ((p).toNat) 0) = 24 := c11
         refine hDraw (Ls := [blk bka7 23 [.slice hd.1 n hd.2]]) (by kernel_rfl) (sq 0 (sq 1 (sq 2 (sq 3 (sl 4 (sl 5 (sf 6 sz))))))) (by kernel_rfl) (.cons _ (.cons _ (.cons_cons _ (.cons _ .slnil)))) ?_
         refine ldq Try.isAgg23 (cB 0 rfl rfl) rfl rfl rfl ?_
         refine mvS rfl rfl rfl ?_
         refine ixIq (zn := 4) el23 (Kn.drop (k := 1) hrd1) (fun _ h => h.pick [2]) rfl rfl rfl rfl (by omega) (by omega) rfl ?_
         intro ae32 e32
         refine ldq Try.isAgg2 (e32) rfl rfl rfl ?_
         refine bsl (fun _ _ h => h.pick [3]) rfl rfl rfl (bsl23_1 (.int .i64 _) rfl) (fun bkl27 hbkl27 => ?_)
         refine aplI (N := n) (x := (xs1.getD 4 0)) 4 0 rfl rfl mk23 (fun _ _ h => h.pick [3]) rfl rfl rfl rfl (by omega) ?_
         intro aq33 cq33
         refine stf (v := .slice _ _ _) 3 rfl Try.sizeOf23 rfl rfl rfl rfl rfl (Nat.le_of_ble_eq_true rfl) ?_
         refine rNil ?_
         exact qRnd rfl hrc1 (((o ++ [(xs1.getD 4 0)]), (n + 1), (aq33, cq33))) ⟨by dsimp only; first | (rw [Hd.outs_yes (by assumption), ho1]) | (rw [Hd.outs_no (by assumption), ho1]), by dsimp only; first | omega | (rw [List.length_append]; simp; omega)⟩ (fun _ h => h.pick [2, 2, 2])
        ·
         replace c11 : ¬ (((Hd.parts vn z xs1).getD ((p).toNat) 0) = 24) := c11
         refine hSkip ?_
         exact qRnd rfl hrc1 ((o, n, (hd.1, hd.2))) ⟨by dsimp only; first | (rw [Hd.outs_yes (by assumption), ho1]) | (rw [Hd.outs_no (by assumption), ho1]), by dsimp only; first | omega | (rw [List.length_append]; simp; omega)⟩ (fun _ h => h.pick [1, 1, 1])
    ·
     rintro D1 ⟨o, n, hd⟩ ⟨he1, he2⟩
     dsimp only at he1 he2
     refine qSeq rfl ?_
     refine hSeq ?_
     refine hReg (sl 0 (sq 1 (sq 2 sz))) (by kernel_rfl) ?_
     refine ldl Try.isAgg23 (cB 7 rfl rfl) trv rfl rfl rfl ?_
     refine asS rfl rfl rfl ?_
     refine asI rfl rfl rfl ?_
     refine rNil ?_
     refine qSeq rfl ?_
     refine hRet ?_
     exact Kn.leave 0 rfl <| fun w hs => ⟨[.slice hd.1 n hd.2, .int .i64 0], ⟨rfl, ⟨rfl, trivial⟩⟩, ⟨(hd.1, n, hd.2, o, 0), rfl, ⟨by first | exact hY.symm | (rw [hY]; exact he1), hC.symm⟩, hs.pick [7]⟩⟩
    ·
     exact fun _ _ _ _ h => h.elim
end Go.Proofs.Yteaahdakammffaa
