/- Contracts of low values, as the model reckons them. Their conditions stand in each. -/
import Derived.Test.YteaahdakammffaaZ12Ut
import Derived.Test.YteaahdakammffaaZ1Ut
import Derived.Test.YteaahdakammffaaZ2Ut
import Derived.Test.YteaahdakammffaaZ3Ut
import Derived.Test.YteaahdakammffaaZ4Ut
import Derived.Test.YteaahdakammffaaZ6Ut
import Derived.Test.YteaahdakammffaaZ10Ut
import Derived.Test.YteaahdakammffaaZ11Ut
import Derived.Test.YteaahdakammffaaRows
import Derived.Test.YteaahdakammffaaZ5Ut
namespace Go.Proofs.Yteaahdakammffaa
open Go Go.RowKit V
set_option linter.unusedVariables false
set_option linter.unusedSimpArgs false
set_option maxRecDepth 100000
theorem spec_l05Ace_c (az : Option Addr) (nz : Nat) (cz : Nat) (z : List Int) (w : World) (rz : RdI az nz z w) (ha : Iso.areP z) (hn : z.length = 5) :
  Calls Try.prog 147 #[.slice az nz cz] w (Ret fun v w' => v = .int .i64 (Hd.aceS z) ∧ Ext w w') := by
 have kz : Kn w none_ [] (RdI az nz z) := fun w' hs => rz.ext hs.upd
 have lz : z.length = nz := rz.1
 have mz : nz ≤ 9223372036854775807 := rz.2.1
 have hok := Hd.okP ha
 have h13 := Hd.tally_len Hd.lrk 13 z
 have hb4 := Hd.lrk_le4 ha
 have hpb := Hd.patS_bd h13
 have hod := Hd.ord_digs (C := Hd.tally Hd.lrk 13 z) (s := 4) (j := 0) (by decide)
 have hol := Hd.ord_len5 (f := Hd.lrk) (z := z) (fun x _ => Hd.lrk_bd x) (s := 4) (j := 0) (by decide) (by decide)
 have hvb := Hd.V_le (c := 0) hod (by decide) (by omega)
 refine fn (M := none_) (rs := [.tmp 2]) Try.func147 rfl Try.ntmps147 rfl rfl (Sep.start _ _) ?_
 refine hSeq ?_
 refine hReg (sq 0 sz) (by kernel_rfl) ?_
 refine asI rfl rfl rfl ?_
 refine rNil ?_
 refine qSeq rfl ?_
 refine hSeq ?_
 refine hReg (sq 0 (sl 1 (sq 2 sz))) (by kernel_rfl) ?_
 refine mvS rfl rfl rfl ?_
 refine callS Try.call163 trv1 rfl rfl (fun w hs => spec_l05Counts_c _ nz cz _ w (kz w hs) (by assumption) (by omega)) ?_
 rintro ⟨ay1, ny1, cy1, y1⟩ hr1
 dsimp only at hr1
 subst y1
 refine rPieces (L' := [OwnI 2 ay1 ny1 cy1 (Hd.tally Hd.lrk 13 z)]) (fun _ h => h) ?_
 refine rKnow (fun w hs => (show OwnI 2 ay1 ny1 cy1 (Hd.tally Hd.lrk 13 z) w from hs.at_ 0 rfl).lenz) (fun lenn1 => ?_)
 refine rVal (v' := .slice ay1 ny1 cy1) rfl ?_
 refine asS rfl rfl rfl ?_
 refine rNil ?_
 refine qSeq rfl ?_
 refine hSeq ?_
 refine hReg (sq 0 (sl 1 (sq 2 (sq 3 (sl 4 (sl 5 (sq 6 (sq 7 sz)))))))) (by kernel_rfl) ?_
 refine mvS rfl rfl rfl ?_
 refine callP (v := .int .i64 ((Hd.patS (Hd.tally Hd.lrk 13 z)))) Try.call164 trv rfl rfl (fun w hs => spec_l05Pattern_c _ ny1 cy1 _ w (OwnI.rd (hs.at_ 0 rfl)) (by first | exact Hd.tally_len _ _ _ | omega) (by assumption)) ?_
 refine mul rfl rfl rfl rfl (by omega) ?_
 refine mvS rfl rfl rfl ?_
 refine callS Try.call165 trv1 rfl rfl (fun w hs => spec_l05Ordered_c _ ny1 cy1 _ w (OwnI.rd (hs.at_ 0 rfl)) (by omega)) ?_
 rintro ⟨ay2, ny2, cy2, y2⟩ hr2
 dsimp only at hr2
 subst y2
 refine rPieces (L' := [OwnI 2 ay2 ny2 cy2 (((Hd.ord (Hd.tally Hd.lrk 13 z) 4 0))), OwnI 2 ay1 ny1 cy1 (Hd.tally Hd.lrk 13 z)]) (fun _ h => h) ?_
 refine rKnow (fun w hs => (show OwnI 2 ay2 ny2 cy2 (((Hd.ord (Hd.tally Hd.lrk 13 z) 4 0))) w from hs.at_ 0 rfl).lenz) (fun lenn2 => ?_)
 refine rVal (v' := .slice ay2 ny2 cy2) rfl ?_
 refine callP (v := .int .i64 ((Hd.V 0 (((Hd.ord (Hd.tally Hd.lrk 13 z) 4 0)))))) Try.call161 trv rfl rfl (fun w hs => spec_l04Digits_c _ ny2 cy2 _ w (OwnI.rd (hs.at_ 0 rfl)) (by first | assumption | exact Hd.digs_nil | (unfold Hd.digs13; simp only [List.mem_cons, List.not_mem_nil, or_false, forall_eq_or_imp, forall_eq]; omega)) (by first | omega | (simp only [List.length_cons, List.length_nil]; omega))) ?_
 refine add rfl rfl rfl rfl (by omega) ?_
 refine asI rfl rfl rfl ?_
 refine rNil ?_
 refine qSeq rfl ?_
 refine hRet ?_
 exact fun w hs => ⟨[.int .i64 (((371293 * (Hd.patS (Hd.tally Hd.lrk 13 z))) + (Hd.V 0 (((Hd.ord (Hd.tally Hd.lrk 13 z) 4 0))))))], ⟨rfl, trivial⟩, ⟨vI rfl, hs.upd⟩⟩
theorem spec_l04Category_c (az : Option Addr) (nz : Nat) (cz : Nat) (z : List Int) (w : World) (rz : RdI az nz z w) (ha : Iso.areP z) (hn : z.length = 5) :
  Calls Try.prog 160 #[.slice az nz cz] w (Ret fun v w' => v = .int .i64 (Hd.catS z) ∧ Ext w w') := by
 have kz : Kn w none_ [] (RdI az nz z) := fun w' hs => rz.ext hs.upd
 have lz : z.length = nz := rz.1
 have mz : nz ≤ 9223372036854775807 := rz.2.1
 have hok := Hd.okP ha
 have h13 := Hd.tally_len Hd.rk 13 z
 have hb4 := Hd.rk_le4 ha
 have hz0 := hok _ (Math.getD_mem 0 (show 0 < z.length by omega))
 have hs4 := Hd.tally_len Hd.su 4 z
 refine fn (M := none_) (rs := [.tmp 2]) Try.func160 rfl Try.ntmps160 rfl rfl (Sep.start _ _) ?_
 refine hSeq ?_
 refine hReg (sq 0 sz) (by kernel_rfl) ?_
 refine asI rfl rfl rfl ?_
 refine rNil ?_
 refine qSeq rfl ?_
 refine hSeq ?_
 refine hReg (sq 0 (sl 1 (sq 2 sz))) (by kernel_rfl) ?_
 refine mvS rfl rfl rfl ?_
 refine callS Try.call166 trv1 rfl rfl (fun w hs => spec_l02RankCounts_c _ nz cz _ w (kz w hs) (by assumption) (by omega)) ?_
 rintro ⟨ay1, ny1, cy1, y1⟩ hr1
 dsimp only at hr1
 subst y1
 refine rPieces (L' := [OwnI 2 ay1 ny1 cy1 (Hd.tally Hd.rk 13 z)]) (fun _ h => h) ?_
 refine rKnow (fun w hs => (show OwnI 2 ay1 ny1 cy1 (Hd.tally Hd.rk 13 z) w from hs.at_ 0 rfl).lenz) (fun lenn1 => ?_)
 refine rVal (v' := .slice ay1 ny1 cy1) rfl ?_
 refine asS rfl rfl rfl ?_
 refine rNil ?_
 refine qSeq rfl ?_
 refine hSeq ?_
 refine hReg (sl 0 (sq 1 sz)) (by kernel_rfl) ?_
 refine mksI 5 mk23 trv1 rfl rfl rfl rfl (rfl) (by omega) (fun bkm2 hbkm2 => ?_)
 refine asS rfl rfl rfl ?_
 refine rNil ?_
 refine qSeq rfl ?_
 refine hSeq ?_
 refine hSeq ?_
 refine hReg (sq 0 sz) (by kernel_rfl) ?_
 refine asI rfl rfl rfl ?_
 refine rNil ?_
 refine qSeq rfl ?_
 refine hBlk ?_
 refine hLoop (α := Nat) (fun i => i ≤ 13) (fun i => 13 - i) (fun i => [OwnI 2 (some ⟨bkm2, 0, none⟩) 5 5 ((Hd.tally Hd.idI 5 ((Hd.tally Hd.rk 13 z).take i))), OwnI 2 ay1 ny1 cy1 (Hd.tally Hd.rk 13 z)]) (fun i => [(0, .slice az nz cz), (3, .slice ay1 ny1 cy1), (4, .slice (some ⟨bkm2, 0, none⟩) 5 5), (5, .int .i64 (i : Int))]) 0 (by omega) (fun _ h => by rw [List.take_zero, Hd.tally_nil]; exact h.pick [0, 0]) ⟨rfl, rfl, rfl, rfl, trivial⟩ ?_
 rintro i τ1 hi
 refine hSeq ?_
 refine hSeq ?_
 refine hReg (sq 0 (sq 1 sz)) (by kernel_rfl) ?_
 refine mvI rfl rfl rfl ?_
 refine lss rfl rfl rfl rfl ?_
 refine rNil ?_
 refine qSeq rfl ?_
 refine hIfD rfl (fun c1 => ?_) (fun c1 => ?_)
 ·
  replace c1 : (i : Int) < 13 := c1
  have hiz : i < (Hd.tally Hd.rk 13 z).length := by omega
  have hbi := hb4 i
  have hb1 := Hd.tally_bd (f := Hd.idI) (n := 5) (z := (Hd.tally Hd.rk 13 z).take i) (r := ((Hd.tally Hd.rk 13 z).getD i 0).toNat) (by omega)
  rw [List.length_take] at hb1
  have htl := Hd.tally_len Hd.idI 5 ((Hd.tally Hd.rk 13 z).take i)
  refine hSkip ?_
  refine qSeq rfl ?_
  refine hSeq ?_
  refine hBlk ?_
  refine hReg (sq 0 (sq 1 (sq 2 (sq 3 (sl 4 (sq 5 (sl 6 (sq 7 (sq 8 (sl 9 sz)))))))))) (by kernel_rfl) ?_
  refine mvS rfl rfl rfl ?_
  refine mvS rfl rfl rfl ?_
  refine mvI rfl rfl rfl ?_
  refine ixIl (zn := i) el23 ((Kn.at_ 1 rfl).imp fun _ h => OwnI.rd h) rfl rfl rfl rfl (by omega) (by omega) rfl ?_
  intro ae2 e2
  refine ldl Try.isAgg2 (e2) trv rfl rfl rfl ?_
  refine ixIl (zn := (((Hd.tally Hd.rk 13 z).getD i 0)).toNat) el23 ((Kn.at_ 0 rfl).imp fun _ h => OwnI.rd h) rfl rfl rfl rfl (by omega) (by omega) rfl ?_
  intro ae3 e3
  refine ldl Try.isAgg2 (e3) trv rfl rfl rfl ?_
  refine add rfl rfl rfl rfl (by omega) ?_
  refine oxI (zn := (((Hd.tally Hd.rk 13 z).getD i 0)).toNat) 0 rfl el23 rfl rfl rfl rfl (by omega) (by omega) rfl ?_
  intro gk4 hgk4
  refine stoI (off := (((Hd.tally Hd.rk 13 z).getD i 0)).toNat) (x := ((((Hd.tally Hd.idI 5 ((Hd.tally Hd.rk 13 z).take i))).getD ((((Hd.tally Hd.rk 13 z).getD i 0)).toNat) 0) + 1)) 0 rfl hgk4 Try.sizeOf2 trv rfl rfl rfl rfl (by omega) ?_
  refine rNil ?_
  refine qSeq rfl ?_
  refine hReg (sq 0 (sq 1 (sq 2 sz))) (by kernel_rfl) ?_
  refine mvI rfl rfl rfl ?_
  refine add rfl rfl rfl rfl (by omega) ?_
  refine asI rfl rfl rfl ?_
  refine rNil ?_
  rw [show (Hd.tally Hd.idI 5 ((Hd.tally Hd.rk 13 z).take i)).set ((Hd.tally Hd.rk 13 z).getD i 0).toNat ((Hd.tally Hd.idI 5 ((Hd.tally Hd.rk 13 z).take i)).getD ((Hd.tally Hd.rk 13 z).getD i 0).toNat 0 + 1) = Hd.tally Hd.idI 5 ((Hd.tally Hd.rk 13 z).take (i + 1)) from Hd.tally_take (f := Hd.idI) hiz (by have := hb4 i; simp only [Hd.idI]; omega)]
  exact qNext rfl (i + 1) (by omega) (by omega) ⟨rfl, rfl, rfl, rfl, trivial⟩ (fun _ h => h.pick [0, 0])
 ·
  replace c1 : ¬ ((i : Int) < 13) := c1
  rw [List.take_of_length_le (show (Hd.tally Hd.rk 13 z).length ≤ i by omega)]
  have htl := Hd.tally_len Hd.idI 5 (Hd.tally Hd.rk 13 z)
  refine hExit rfl ?_
  refine qSeq rfl ?_
  refine hSeq ?_
  refine hDraw (Ls := []) (by kernel_rfl) (sq 0 (sq 2 (sq 3 (.alt (sl 1 (sl 4 (sq 5 (sq 6 (sl 7 (sq 8 (sq 9 sz))))))) (sl 4 (sq 5 (sl 1 (sq 6 (sl 7 (sq 8 (sq 9 sz))))))))))) (by kernel_rfl) (.cons _ (.cons _ .slnil)) ?_
  refine mvS rfl rfl rfl ?_
  refine mvS rfl rfl rfl ?_
  refine ixIl (zn := 0) el23 (Kn.drop (k := 2) kz) rfl rfl rfl rfl (by omega) (by omega) rfl ?_
  intro ae5 e5
  refine rAlt ?_ ?_
  ·
   refine callS Try.call168 (by exact (fun _ _ h => h.pick [])) rfl rfl (fun w hs => spec_l02SuitCounts_c _ nz cz _ w (Kn.drop (k := 2) kz w hs) (by assumption) (by omega)) ?_
   rintro ⟨ay6, ny6, cy6, y6⟩ hr6
   dsimp only at hr6
   subst y6
   refine rPieces (L' := [OwnI 2 ay6 ny6 cy6 (Hd.tally Hd.su 4 z), OwnI 2 (some ⟨bkm2, 0, none⟩) 5 5 ((Hd.tally Hd.idI 5 (Hd.tally Hd.rk 13 z))), OwnI 2 ay1 ny1 cy1 (Hd.tally Hd.rk 13 z)]) (fun _ h => h) ?_
   refine rKnow (fun w hs => (show OwnI 2 ay6 ny6 cy6 (Hd.tally Hd.su 4 z) w from hs.at_ 0 rfl).lenz) (fun lenn3 => ?_)
   refine rVal (v' := .slice ay6 ny6 cy6) rfl ?_
   refine ldl Try.isAgg2 (Kn.drop (k := 1) e5) (fun _ h => h.pick []) rfl rfl rfl ?_
   refine rem rfl rfl rfl rfl (by omega) ?_
   refine ixIl (zn := (((z.getD 0 0) % 4)).toNat) el23 ((Kn.at_ 0 rfl).imp fun _ h => OwnI.rd h) rfl rfl rfl rfl (by omega) (by omega) rfl ?_
   intro ae7 e7
   refine ldl Try.isAgg2 (e7) (fun _ h => h.pick []) rfl rfl rfl ?_
   refine eql rfl rfl rfl rfl ?_
   refine asB rfl rfl rfl ?_
   refine rNil ?_
   refine qSeq rfl ?_
   refine hSeq ?_
   refine hReg (sq 0 (sl 1 (sq 2 (sq 3 sz)))) (by kernel_rfl) ?_
   refine mvS rfl rfl rfl ?_
   refine callP (v := .int .i64 ((Hd.strS (Hd.tally Hd.rk 13 z)))) Try.call167 trv rfl rfl (fun w hs => spec_l04Straight_c _ ny1 cy1 _ w (OwnI.rd (hs.at_ 2 rfl)) (by omega)) ?_
   refine geq rfl rfl rfl rfl ?_
   refine asB rfl rfl rfl ?_
   refine rNil ?_
   refine qSeq rfl ?_
   refine hSeq ?_
   refine hBlk ?_
   refine hSeq ?_
   refine hReg (sq 0 (sq 1 (sq 2 (sq 3 (sq 4 sz))))) (by kernel_rfl) ?_
   refine mvB rfl rfl rfl ?_
   refine mvB rfl rfl rfl ?_
   refine rBoolD (d := 38) rfl (fun g2 => ?_) (fun g2 => ?_)
   ·
    replace g2 : 0 ≤ (Hd.strS (Hd.tally Hd.rk 13 z)) := g2
    refine mvB rfl rfl rfl ?_
    refine pickB rfl rfl rfl rfl ?_
    refine asB rfl rfl rfl ?_
    refine rNil ?_
    refine qSeq rfl ?_
    refine hIfD rfl (fun c3 => ?_) (fun c3 => ?_)
    ·
     replace c3 : ((Hd.tally Hd.su 4 z).getD ((((z.getD 0 0) % 4)).toNat) 0) = 5 := c3
     refine hSeq ?_
     refine hReg (sq 0 sz) (by kernel_rfl) ?_
     refine asI rfl rfl rfl ?_
     refine rNil ?_
     refine qSeq rfl ?_
     refine hRet ?_
     exact fun w hs => ⟨[.int .i64 8], ⟨rfl, trivial⟩, ⟨by first | (exfalso; omega) | exact vI (by unfold Hd.catS; repeat (first | rfl | rw [if_pos (by omega)] | rw [if_neg (by omega)])), hs.upd⟩⟩
    ·
     replace c3 : ¬ (((Hd.tally Hd.su 4 z).getD ((((z.getD 0 0) % 4)).toNat) 0) = 5) := c3
     refine hSeq ?_
     refine hReg (sq 0 (sq 1 (sl 2 (sq 3 (sq 4 sz))))) (by kernel_rfl) ?_
     refine mvS rfl rfl rfl ?_
     refine ixIl (zn := 4) el23 ((Kn.at_ 1 rfl).imp fun _ h => OwnI.rd h) rfl rfl rfl rfl (by omega) (by omega) rfl ?_
     intro ae8 e8
     refine ldl Try.isAgg2 (e8) trv rfl rfl rfl ?_
     refine eql rfl rfl rfl rfl ?_
     refine asB rfl rfl rfl ?_
     refine rNil ?_
     refine qSeq rfl ?_
     refine hIfD rfl (fun c4 => ?_) (fun c4 => ?_)
     ·
      replace c4 : (((Hd.tally Hd.idI 5 (Hd.tally Hd.rk 13 z))).getD 4 0) = 1 := c4
      refine hSeq ?_
      refine hReg (sq 0 sz) (by kernel_rfl) ?_
      refine asI rfl rfl rfl ?_
      refine rNil ?_
      refine qSeq rfl ?_
      refine hRet ?_
      exact fun w hs => ⟨[.int .i64 7], ⟨rfl, trivial⟩, ⟨by first | (exfalso; omega) | exact vI (by unfold Hd.catS; repeat (first | rfl | rw [if_pos (by omega)] | rw [if_neg (by omega)])), hs.upd⟩⟩
     ·
      replace c4 : ¬ ((((Hd.tally Hd.idI 5 (Hd.tally Hd.rk 13 z))).getD 4 0) = 1) := c4
      refine hSeq ?_
      refine hReg (sq 0 (sq 1 (sl 2 (sq 3 (sq 4 (sq 5 (sq 6 (sl 7 (sq 8 (sq 9 (sq 10 sz))))))))))) (by kernel_rfl) ?_
      refine mvS rfl rfl rfl ?_
      refine ixIl (zn := 3) el23 ((Kn.at_ 1 rfl).imp fun _ h => OwnI.rd h) rfl rfl rfl rfl (by omega) (by omega) rfl ?_
      intro ae9 e9
      refine ldl Try.isAgg2 (e9) trv rfl rfl rfl ?_
      refine eql rfl rfl rfl rfl ?_
      refine mvB rfl rfl rfl ?_
      refine rBoolD (d := 51) rfl (fun g5 => ?_) (fun g5 => ?_)
      ·
       replace g5 : (((Hd.tally Hd.idI 5 (Hd.tally Hd.rk 13 z))).getD 3 0) = 1 := g5
       refine mvS rfl rfl rfl ?_
       refine ixIl (zn := 2) el23 ((Kn.at_ 1 rfl).imp fun _ h => OwnI.rd h) rfl rfl rfl rfl (by omega) (by omega) rfl ?_
       intro ae10 e10
       refine ldl Try.isAgg2 (e10) trv rfl rfl rfl ?_
       refine eql rfl rfl rfl rfl ?_
       refine pickB rfl rfl rfl rfl ?_
       refine asB rfl rfl rfl ?_
       refine rNil ?_
       refine qSeq rfl ?_
       refine hIfD rfl (fun c6 => ?_) (fun c6 => ?_)
       ·
        replace c6 : (((Hd.tally Hd.idI 5 (Hd.tally Hd.rk 13 z))).getD 2 0) = 1 := c6
        refine hSeq ?_
        refine hReg (sq 0 sz) (by kernel_rfl) ?_
        refine asI rfl rfl rfl ?_
        refine rNil ?_
        refine qSeq rfl ?_
        refine hRet ?_
        exact fun w hs => ⟨[.int .i64 6], ⟨rfl, trivial⟩, ⟨by first | (exfalso; omega) | exact vI (by unfold Hd.catS; repeat (first | rfl | rw [if_pos (by omega)] | rw [if_neg (by omega)])), hs.upd⟩⟩
       ·
        replace c6 : ¬ ((((Hd.tally Hd.idI 5 (Hd.tally Hd.rk 13 z))).getD 2 0) = 1) := c6
        refine hSeq ?_
        refine hReg (sq 0 (sq 1 sz)) (by kernel_rfl) ?_
        refine mvB rfl rfl rfl ?_
        refine asB rfl rfl rfl ?_
        refine rNil ?_
        refine qSeq rfl ?_
        refine hIfD rfl (fun c7 => ?_) (fun c7 => ?_)
        ·
         replace c7 : ((Hd.tally Hd.su 4 z).getD ((((z.getD 0 0) % 4)).toNat) 0) = 5 := c7
         refine hSeq ?_
         refine hReg (sq 0 sz) (by kernel_rfl) ?_
         refine asI rfl rfl rfl ?_
         refine rNil ?_
         refine qSeq rfl ?_
         refine hRet ?_
         exact fun w hs => ⟨[.int .i64 5], ⟨rfl, trivial⟩, ⟨by first | (exfalso; omega) | exact vI (by unfold Hd.catS; repeat (first | rfl | rw [if_pos (by omega)] | rw [if_neg (by omega)])), hs.upd⟩⟩
        ·
         replace c7 : ¬ (((Hd.tally Hd.su 4 z).getD ((((z.getD 0 0) % 4)).toNat) 0) = 5) := c7
         refine hSeq ?_
         refine hReg (sq 0 (sq 1 sz)) (by kernel_rfl) ?_
         refine mvB rfl rfl rfl ?_
         refine asB rfl rfl rfl ?_
         refine rNil ?_
         refine qSeq rfl ?_
         refine hIfD rfl (fun c8 => ?_) (fun c8 => ?_)
         ·
          replace c8 : 0 ≤ (Hd.strS (Hd.tally Hd.rk 13 z)) := c8
          refine hSeq ?_
          refine hReg (sq 0 sz) (by kernel_rfl) ?_
          refine asI rfl rfl rfl ?_
          refine rNil ?_
          refine qSeq rfl ?_
          refine hRet ?_
          exact fun w hs => ⟨[.int .i64 4], ⟨rfl, trivial⟩, ⟨by first | (exfalso; omega) | exact vI (by unfold Hd.catS; repeat (first | rfl | rw [if_pos (by omega)] | rw [if_neg (by omega)])), hs.upd⟩⟩
         ·
          replace c8 : ¬ (0 ≤ (Hd.strS (Hd.tally Hd.rk 13 z))) := c8
          refine hSeq ?_
          refine hReg (sq 0 (sq 1 (sl 2 (sq 3 (sq 4 sz))))) (by kernel_rfl) ?_
          refine mvS rfl rfl rfl ?_
          refine ixIl (zn := 3) el23 ((Kn.at_ 1 rfl).imp fun _ h => OwnI.rd h) rfl rfl rfl rfl (by omega) (by omega) rfl ?_
          intro ae11 e11
          refine ldl Try.isAgg2 (e11) trv rfl rfl rfl ?_
          refine eql rfl rfl rfl rfl ?_
          refine asB rfl rfl rfl ?_
          refine rNil ?_
          refine qSeq rfl ?_
          refine hIfD rfl (fun c9 => ?_) (fun c9 => ?_)
          ·
           replace c9 : (((Hd.tally Hd.idI 5 (Hd.tally Hd.rk 13 z))).getD 3 0) = 1 := c9
           refine hSeq ?_
           refine hReg (sq 0 sz) (by kernel_rfl) ?_
           refine asI rfl rfl rfl ?_
           refine rNil ?_
           refine qSeq rfl ?_
           refine hRet ?_
           exact fun w hs => ⟨[.int .i64 3], ⟨rfl, trivial⟩, ⟨by first | (exfalso; omega) | exact vI (by unfold Hd.catS; repeat (first | rfl | rw [if_pos (by omega)] | rw [if_neg (by omega)])), hs.upd⟩⟩
          ·
           replace c9 : ¬ ((((Hd.tally Hd.idI 5 (Hd.tally Hd.rk 13 z))).getD 3 0) = 1) := c9
           refine hSeq ?_
           refine hReg (sq 0 (sq 1 (sl 2 (sq 3 (sq 4 sz))))) (by kernel_rfl) ?_
           refine mvS rfl rfl rfl ?_
           refine ixIl (zn := 2) el23 ((Kn.at_ 1 rfl).imp fun _ h => OwnI.rd h) rfl rfl rfl rfl (by omega) (by omega) rfl ?_
           intro ae12 e12
           refine ldl Try.isAgg2 (e12) trv rfl rfl rfl ?_
           refine eql rfl rfl rfl rfl ?_
           refine asB rfl rfl rfl ?_
           refine rNil ?_
           refine qSeq rfl ?_
           refine hIfD rfl (fun c10 => ?_) (fun c10 => ?_)
           ·
            replace c10 : (((Hd.tally Hd.idI 5 (Hd.tally Hd.rk 13 z))).getD 2 0) = 2 := c10
            refine hSeq ?_
            refine hReg (sq 0 sz) (by kernel_rfl) ?_
            refine asI rfl rfl rfl ?_
            refine rNil ?_
            refine qSeq rfl ?_
            refine hRet ?_
            exact fun w hs => ⟨[.int .i64 2], ⟨rfl, trivial⟩, ⟨by first | (exfalso; omega) | exact vI (by unfold Hd.catS; repeat (first | rfl | rw [if_pos (by omega)] | rw [if_neg (by omega)])), hs.upd⟩⟩
           ·
            replace c10 : ¬ ((((Hd.tally Hd.idI 5 (Hd.tally Hd.rk 13 z))).getD 2 0) = 2) := c10
            refine hSeq ?_
            refine hReg (sq 0 (sq 1 (sl 2 (sq 3 (sq 4 sz))))) (by kernel_rfl) ?_
            refine mvS rfl rfl rfl ?_
            refine ixIl (zn := 2) el23 ((Kn.at_ 1 rfl).imp fun _ h => OwnI.rd h) rfl rfl rfl rfl (by omega) (by omega) rfl ?_
            intro ae13 e13
            refine ldl Try.isAgg2 (e13) trv rfl rfl rfl ?_
            refine eql rfl rfl rfl rfl ?_
            refine asB rfl rfl rfl ?_
            refine rNil ?_
            refine qSeq rfl ?_
            refine hIfD rfl (fun c11 => ?_) (fun c11 => ?_)
            ·
             replace c11 : (((Hd.tally Hd.idI 5 (Hd.tally Hd.rk 13 z))).getD 2 0) = 1 := c11
             refine hSeq ?_
             refine hReg (sq 0 sz) (by kernel_rfl) ?_
             refine asI rfl rfl rfl ?_
             refine rNil ?_
             refine qSeq rfl ?_
             refine hRet ?_
             exact fun w hs => ⟨[.int .i64 1], ⟨rfl, trivial⟩, ⟨by first | (exfalso; omega) | exact vI (by unfold Hd.catS; repeat (first | rfl | rw [if_pos (by omega)] | rw [if_neg (by omega)])), hs.upd⟩⟩
            ·
             replace c11 : ¬ ((((Hd.tally Hd.idI 5 (Hd.tally Hd.rk 13 z))).getD 2 0) = 1) := c11
             refine hSkip ?_
             refine qSeq rfl ?_
             refine hSeq ?_
             refine hReg (sq 0 sz) (by kernel_rfl) ?_
             refine asI rfl rfl rfl ?_
             refine rNil ?_
             refine qSeq rfl ?_
             refine hRet ?_
             exact fun w hs => ⟨[.int .i64 0], ⟨rfl, trivial⟩, ⟨by first | (exfalso; omega) | exact vI (by unfold Hd.catS; repeat (first | rfl | rw [if_pos (by omega)] | rw [if_neg (by omega)])), hs.upd⟩⟩
      ·
       replace g5 : ¬ ((((Hd.tally Hd.idI 5 (Hd.tally Hd.rk 13 z))).getD 3 0) = 1) := g5
       refine rSkipQ rfl rfl ?_
       refine rSkipQ rfl rfl ?_
       refine rSkipL trv rfl rfl ?_
       refine rSkipQ rfl rfl ?_
       refine pickB rfl rfl rfl rfl ?_
       refine asB rfl rfl rfl ?_
       refine rNil ?_
       refine qSeq rfl ?_
       refine hIfF rfl ?_
       refine hSeq ?_
       refine hReg (sq 0 (sq 1 sz)) (by kernel_rfl) ?_
       refine mvB rfl rfl rfl ?_
       refine asB rfl rfl rfl ?_
       refine rNil ?_
       refine qSeq rfl ?_
       refine hIfD rfl (fun c12 => ?_) (fun c12 => ?_)
       ·
        replace c12 : ((Hd.tally Hd.su 4 z).getD ((((z.getD 0 0) % 4)).toNat) 0) = 5 := c12
        refine hSeq ?_
        refine hReg (sq 0 sz) (by kernel_rfl) ?_
        refine asI rfl rfl rfl ?_
        refine rNil ?_
        refine qSeq rfl ?_
        refine hRet ?_
        exact fun w hs => ⟨[.int .i64 5], ⟨rfl, trivial⟩, ⟨by first | (exfalso; omega) | exact vI (by unfold Hd.catS; repeat (first | rfl | rw [if_pos (by omega)] | rw [if_neg (by omega)])), hs.upd⟩⟩
       ·
        replace c12 : ¬ (((Hd.tally Hd.su 4 z).getD ((((z.getD 0 0) % 4)).toNat) 0) = 5) := c12
        refine hSeq ?_
        refine hReg (sq 0 (sq 1 sz)) (by kernel_rfl) ?_
        refine mvB rfl rfl rfl ?_
        refine asB rfl rfl rfl ?_
        refine rNil ?_
        refine qSeq rfl ?_
        refine hIfD rfl (fun c13 => ?_) (fun c13 => ?_)
        ·
         replace c13 : 0 ≤ (Hd.strS (Hd.tally Hd.rk 13 z)) := c13
         refine hSeq ?_
         refine hReg (sq 0 sz) (by kernel_rfl) ?_
         refine asI rfl rfl rfl ?_
         refine rNil ?_
         refine qSeq rfl ?_
         refine hRet ?_
         exact fun w hs => ⟨[.int .i64 4], ⟨rfl, trivial⟩, ⟨by first | (exfalso; omega) | exact vI (by unfold Hd.catS; repeat (first | rfl | rw [if_pos (by omega)] | rw [if_neg (by omega)])), hs.upd⟩⟩
        ·
         replace c13 : ¬ (0 ≤ (Hd.strS (Hd.tally Hd.rk 13 z))) := c13
         refine hSeq ?_
         refine hReg (sq 0 (sq 1 (sl 2 (sq 3 (sq 4 sz))))) (by kernel_rfl) ?_
         refine mvS rfl rfl rfl ?_
         refine ixIl (zn := 3) el23 ((Kn.at_ 1 rfl).imp fun _ h => OwnI.rd h) rfl rfl rfl rfl (by omega) (by omega) rfl ?_
         intro ae14 e14
         refine ldl Try.isAgg2 (e14) trv rfl rfl rfl ?_
         refine eql rfl rfl rfl rfl ?_
         refine asB rfl rfl rfl ?_
         refine rNil ?_
         refine qSeq rfl ?_
         refine hIfD rfl (fun c14 => ?_) (fun c14 => ?_)
         ·
          replace c14 : (((Hd.tally Hd.idI 5 (Hd.tally Hd.rk 13 z))).getD 3 0) = 1 := c14
          refine hSeq ?_
          refine hReg (sq 0 sz) (by kernel_rfl) ?_
          refine asI rfl rfl rfl ?_
          refine rNil ?_
          refine qSeq rfl ?_
          refine hRet ?_
          exact fun w hs => ⟨[.int .i64 3], ⟨rfl, trivial⟩, ⟨by first | (exfalso; omega) | exact vI (by unfold Hd.catS; repeat (first | rfl | rw [if_pos (by omega)] | rw [if_neg (by omega)])), hs.upd⟩⟩
         ·
          replace c14 : ¬ ((((Hd.tally Hd.idI 5 (Hd.tally Hd.rk 13 z))).getD 3 0) = 1) := c14
          refine hSeq ?_
          refine hReg (sq 0 (sq 1 (sl 2 (sq 3 (sq 4 sz))))) (by kernel_rfl) ?_
          refine mvS rfl rfl rfl ?_
          refine ixIl (zn := 2) el23 ((Kn.at_ 1 rfl).imp fun _ h => OwnI.rd h) rfl rfl rfl rfl (by omega) (by omega) rfl ?_
          intro ae15 e15
          refine ldl Try.isAgg2 (e15) trv rfl rfl rfl ?_
          refine eql rfl rfl rfl rfl ?_
          refine asB rfl rfl rfl ?_
          refine rNil ?_
          refine qSeq rfl ?_
          refine hIfD rfl (fun c15 => ?_) (fun c15 => ?_)
          ·
           replace c15 : (((Hd.tally Hd.idI 5 (Hd.tally Hd.rk 13 z))).getD 2 0) = 2 := c15
           refine hSeq ?_
           refine hReg (sq 0 sz) (by kernel_rfl) ?_
           refine asI rfl rfl rfl ?_
           refine rNil ?_
           refine qSeq rfl ?_
           refine hRet ?_
           exact fun w hs => ⟨[.int .i64 2], ⟨rfl, trivial⟩, ⟨by first | (exfalso; omega) | exact vI (by unfold Hd.catS; repeat (first | rfl | rw [if_pos (by omega)] | rw [if_neg (by omega)])), hs.upd⟩⟩
          ·
           replace c15 : ¬ ((((Hd.tally Hd.idI 5 (Hd.tally Hd.rk 13 z))).getD 2 0) = 2) := c15
           refine hSeq ?_
           refine hReg (sq 0 (sq 1 (sl 2 (sq 3 (sq 4 sz))))) (by kernel_rfl) ?_
           refine mvS rfl rfl rfl ?_
           refine ixIl (zn := 2) el23 ((Kn.at_ 1 rfl).imp fun _ h => OwnI.rd h) rfl rfl rfl rfl (by omega) (by omega) rfl ?_
           intro ae16 e16
           refine ldl Try.isAgg2 (e16) trv rfl rfl rfl ?_
           refine eql rfl rfl rfl rfl ?_
           refine asB rfl rfl rfl ?_
           refine rNil ?_
           refine qSeq rfl ?_
           refine hIfD rfl (fun c16 => ?_) (fun c16 => ?_)
           ·
            replace c16 : (((Hd.tally Hd.idI 5 (Hd.tally Hd.rk 13 z))).getD 2 0) = 1 := c16
            refine hSeq ?_
            refine hReg (sq 0 sz) (by kernel_rfl) ?_
            refine asI rfl rfl rfl ?_
            refine rNil ?_
            refine qSeq rfl ?_
            refine hRet ?_
            exact fun w hs => ⟨[.int .i64 1], ⟨rfl, trivial⟩, ⟨by first | (exfalso; omega) | exact vI (by unfold Hd.catS; repeat (first | rfl | rw [if_pos (by omega)] | rw [if_neg (by omega)])), hs.upd⟩⟩
           ·
            replace c16 : ¬ ((((Hd.tally Hd.idI 5 (Hd.tally Hd.rk 13 z))).getD 2 0) = 1) := c16
            refine hSkip ?_
            refine qSeq rfl ?_
            refine hSeq ?_
            refine hReg (sq 0 sz) (by kernel_rfl) ?_
            refine asI rfl rfl rfl ?_
            refine rNil ?_
            refine qSeq rfl ?_
            refine hRet ?_
            exact fun w hs => ⟨[.int .i64 0], ⟨rfl, trivial⟩, ⟨by first | (exfalso; omega) | exact vI (by unfold Hd.catS; repeat (first | rfl | rw [if_pos (by omega)] | rw [if_neg (by omega)])), hs.upd⟩⟩
   ·
    replace g2 : ¬ (0 ≤ (Hd.strS (Hd.tally Hd.rk 13 z))) := g2
    refine rSkipQ rfl rfl ?_
    refine pickB rfl rfl rfl rfl ?_
    refine asB rfl rfl rfl ?_
    refine rNil ?_
    refine qSeq rfl ?_
    refine hIfF rfl ?_
    refine hSeq ?_
    refine hReg (sq 0 (sq 1 (sl 2 (sq 3 (sq 4 sz))))) (by kernel_rfl) ?_
    refine mvS rfl rfl rfl ?_
    refine ixIl (zn := 4) el23 ((Kn.at_ 1 rfl).imp fun _ h => OwnI.rd h) rfl rfl rfl rfl (by omega) (by omega) rfl ?_
    intro ae17 e17
    refine ldl Try.isAgg2 (e17) trv rfl rfl rfl ?_
    refine eql rfl rfl rfl rfl ?_
    refine asB rfl rfl rfl ?_
    refine rNil ?_
    refine qSeq rfl ?_
    refine hIfD rfl (fun c17 => ?_) (fun c17 => ?_)
    ·
     replace c17 : (((Hd.tally Hd.idI 5 (Hd.tally Hd.rk 13 z))).getD 4 0) = 1 := c17
     refine hSeq ?_
     refine hReg (sq 0 sz) (by kernel_rfl) ?_
     refine asI rfl rfl rfl ?_
     refine rNil ?_
     refine qSeq rfl ?_
     refine hRet ?_
     exact fun w hs => ⟨[.int .i64 7], ⟨rfl, trivial⟩, ⟨by first | (exfalso; omega) | exact vI (by unfold Hd.catS; repeat (first | rfl | rw [if_pos (by omega)] | rw [if_neg (by omega)])), hs.upd⟩⟩
    ·
     replace c17 : ¬ ((((Hd.tally Hd.idI 5 (Hd.tally Hd.rk 13 z))).getD 4 0) = 1) := c17
     refine hSeq ?_
     refine hReg (sq 0 (sq 1 (sl 2 (sq 3 (sq 4 (sq 5 (sq 6 (sl 7 (sq 8 (sq 9 (sq 10 sz))))))))))) (by kernel_rfl) ?_
     refine mvS rfl rfl rfl ?_
     refine ixIl (zn := 3) el23 ((Kn.at_ 1 rfl).imp fun _ h => OwnI.rd h) rfl rfl rfl rfl (by omega) (by omega) rfl ?_
     intro ae18 e18
     refine ldl Try.isAgg2 (e18) trv rfl rfl rfl ?_
     refine eql rfl rfl rfl rfl ?_
     refine mvB rfl rfl rfl ?_
     refine rBoolD (d := 51) rfl (fun g18 => ?_) (fun g18 => ?_)
     ·
      replace g18 : (((Hd.tally Hd.idI 5 (Hd.tally Hd.rk 13 z))).getD 3 0) = 1 := g18
      refine mvS rfl rfl rfl ?_
      refine ixIl (zn := 2) el23 ((Kn.at_ 1 rfl).imp fun _ h => OwnI.rd h) rfl rfl rfl rfl (by omega) (by omega) rfl ?_
      intro ae19 e19
      refine ldl Try.isAgg2 (e19) trv rfl rfl rfl ?_
      refine eql rfl rfl rfl rfl ?_
      refine pickB rfl rfl rfl rfl ?_
      refine asB rfl rfl rfl ?_
      refine rNil ?_
      refine qSeq rfl ?_
      refine hIfD rfl (fun c19 => ?_) (fun c19 => ?_)
      ·
       replace c19 : (((Hd.tally Hd.idI 5 (Hd.tally Hd.rk 13 z))).getD 2 0) = 1 := c19
       refine hSeq ?_
       refine hReg (sq 0 sz) (by kernel_rfl) ?_
       refine asI rfl rfl rfl ?_
       refine rNil ?_
       refine qSeq rfl ?_
       refine hRet ?_
       exact fun w hs => ⟨[.int .i64 6], ⟨rfl, trivial⟩, ⟨by first | (exfalso; omega) | exact vI (by unfold Hd.catS; repeat (first | rfl | rw [if_pos (by omega)] | rw [if_neg (by omega)])), hs.upd⟩⟩
      ·
       replace c19 : ¬ ((((Hd.tally Hd.idI 5 (Hd.tally Hd.rk 13 z))).getD 2 0) = 1) := c19
       refine hSeq ?_
       refine hReg (sq 0 (sq 1 sz)) (by kernel_rfl) ?_
       refine mvB rfl rfl rfl ?_
       refine asB rfl rfl rfl ?_
       refine rNil ?_
       refine qSeq rfl ?_
       refine hIfD rfl (fun c20 => ?_) (fun c20 => ?_)
       ·
        replace c20 : ((Hd.tally Hd.su 4 z).getD ((((z.getD 0 0) % 4)).toNat) 0) = 5 := c20
        refine hSeq ?_
        refine hReg (sq 0 sz) (by kernel_rfl) ?_
        refine asI rfl rfl rfl ?_
        refine rNil ?_
        refine qSeq rfl ?_
        refine hRet ?_
        exact fun w hs => ⟨[.int .i64 5], ⟨rfl, trivial⟩, ⟨by first | (exfalso; omega) | exact vI (by unfold Hd.catS; repeat (first | rfl | rw [if_pos (by omega)] | rw [if_neg (by omega)])), hs.upd⟩⟩
       ·
        replace c20 : ¬ (((Hd.tally Hd.su 4 z).getD ((((z.getD 0 0) % 4)).toNat) 0) = 5) := c20
        refine hSeq ?_
        refine hReg (sq 0 (sq 1 sz)) (by kernel_rfl) ?_
        refine mvB rfl rfl rfl ?_
        refine asB rfl rfl rfl ?_
        refine rNil ?_
        refine qSeq rfl ?_
        refine hIfD rfl (fun c21 => ?_) (fun c21 => ?_)
        ·
         replace c21 : 0 ≤ (Hd.strS (Hd.tally Hd.rk 13 z)) := c21
         refine hSeq ?_
         refine hReg (sq 0 sz) (by kernel_rfl) ?_
         refine asI rfl rfl rfl ?_
         refine rNil ?_
         refine qSeq rfl ?_
         refine hRet ?_
         exact fun w hs => ⟨[.int .i64 4], ⟨rfl, trivial⟩, ⟨by first | (exfalso; omega) | exact vI (by unfold Hd.catS; repeat (first | rfl | rw [if_pos (by omega)] | rw [if_neg (by omega)])), hs.upd⟩⟩
        ·
         replace c21 : ¬ (0 ≤ (Hd.strS (Hd.tally Hd.rk 13 z))) := c21
         refine hSeq ?_
         refine hReg (sq 0 (sq 1 (sl 2 (sq 3 (sq 4 sz))))) (by kernel_rfl) ?_
         refine mvS rfl rfl rfl ?_
         refine ixIl (zn := 3) el23 ((Kn.at_ 1 rfl).imp fun _ h => OwnI.rd h) rfl rfl rfl rfl (by omega) (by omega) rfl ?_
         intro ae20 e20
         refine ldl Try.isAgg2 (e20) trv rfl rfl rfl ?_
         refine eql rfl rfl rfl rfl ?_
         refine asB rfl rfl rfl ?_
         refine rNil ?_
         refine qSeq rfl ?_
         refine hIfD rfl (fun c22 => ?_) (fun c22 => ?_)
         ·
          replace c22 : (((Hd.tally Hd.idI 5 (Hd.tally Hd.rk 13 z))).getD 3 0) = 1 := c22
          refine hSeq ?_
          refine hReg (sq 0 sz) (by kernel_rfl) ?_
          refine asI rfl rfl rfl ?_
          refine rNil ?_
          refine qSeq rfl ?_
          refine hRet ?_
          exact fun w hs => ⟨[.int .i64 3], ⟨rfl, trivial⟩, ⟨by first | (exfalso; omega) | exact vI (by unfold Hd.catS; repeat (first | rfl | rw [if_pos (by omega)] | rw [if_neg (by omega)])), hs.upd⟩⟩
         ·
          replace c22 : ¬ ((((Hd.tally Hd.idI 5 (Hd.tally Hd.rk 13 z))).getD 3 0) = 1) := c22
          refine hSeq ?_
          refine hReg (sq 0 (sq 1 (sl 2 (sq 3 (sq 4 sz))))) (by kernel_rfl) ?_
          refine mvS rfl rfl rfl ?_
          refine ixIl (zn := 2) el23 ((Kn.at_ 1 rfl).imp fun _ h => OwnI.rd h) rfl rfl rfl rfl (by omega) (by omega) rfl ?_
          intro ae21 e21
          refine ldl Try.isAgg2 (e21) trv rfl rfl rfl ?_
          refine eql rfl rfl rfl rfl ?_
          refine asB rfl rfl rfl ?_
          refine rNil ?_
          refine qSeq rfl ?_
          refine hIfD rfl (fun c23 => ?_) (fun c23 => ?_)
          ·
           replace c23 : (((Hd.tally Hd.idI 5 (Hd.tally Hd.rk 13 z))).getD 2 0) = 2 := c23
           refine hSeq ?_
           refine hReg (sq 0 sz) (by kernel_rfl) ?_
           refine asI rfl rfl rfl ?_
           refine rNil ?_
           refine qSeq rfl ?_
           refine hRet ?_
           exact fun w hs => ⟨[.int .i64 2], ⟨rfl, trivial⟩, ⟨by first | (exfalso; omega) | exact vI (by unfold Hd.catS; repeat (first | rfl | rw [if_pos (by omega)] | rw [if_neg (by omega)])), hs.upd⟩⟩
          ·
           replace c23 : ¬ ((((Hd.tally Hd.idI 5 (Hd.tally Hd.rk 13 z))).getD 2 0) = 2) := c23
           refine hSeq ?_
           refine hReg (sq 0 (sq 1 (sl 2 (sq 3 (sq 4 sz))))) (by kernel_rfl) ?_
           refine mvS rfl rfl rfl ?_
           refine ixIl (zn := 2) el23 ((Kn.at_ 1 rfl).imp fun _ h => OwnI.rd h) rfl rfl rfl rfl (by omega) (by omega) rfl ?_
           intro ae22 e22
           refine ldl Try.isAgg2 (e22) trv rfl rfl rfl ?_
           refine eql rfl rfl rfl rfl ?_
           refine asB rfl rfl rfl ?_
           refine rNil ?_
           refine qSeq rfl ?_
           refine hIfD rfl (fun c24 => ?_) (fun c24 => ?_)
           ·
            replace c24 : (((Hd.tally Hd.idI 5 (Hd.tally Hd.rk 13 z))).getD 2 0) = 1 := c24
            refine hSeq ?_
            refine hReg (sq 0 sz) (by kernel_rfl) ?_
            refine asI rfl rfl rfl ?_
            refine rNil ?_
            refine qSeq rfl ?_
            refine hRet ?_
            exact fun w hs => ⟨[.int .i64 1], ⟨rfl, trivial⟩, ⟨by first | (exfalso; omega) | exact vI (by unfold Hd.catS; repeat (first | rfl | rw [if_pos (by omega)] | rw [if_neg (by omega)])), hs.upd⟩⟩
           ·
            replace c24 : ¬ ((((Hd.tally Hd.idI 5 (Hd.tally Hd.rk 13 z))).getD 2 0) = 1) := c24
            refine hSkip ?_
            refine qSeq rfl ?_
            refine hSeq ?_
            refine hReg (sq 0 sz) (by kernel_rfl) ?_
            refine asI rfl rfl rfl ?_
            refine rNil ?_
            refine qSeq rfl ?_
            refine hRet ?_
            exact fun w hs => ⟨[.int .i64 0], ⟨rfl, trivial⟩, ⟨by first | (exfalso; omega) | exact vI (by unfold Hd.catS; repeat (first | rfl | rw [if_pos (by omega)] | rw [if_neg (by omega)])), hs.upd⟩⟩
     ·
      replace g18 : ¬ ((((Hd.tally Hd.idI 5 (Hd.tally Hd.rk 13 z))).getD 3 0) = 1) := g18
      refine rSkipQ rfl rfl ?_
      refine rSkipQ rfl rfl ?_
      refine rSkipL trv rfl rfl ?_
      refine rSkipQ rfl rfl ?_
      refine pickB rfl rfl rfl rfl ?_
      refine asB rfl rfl rfl ?_
      refine rNil ?_
      refine qSeq rfl ?_
      refine hIfF rfl ?_
      refine hSeq ?_
      refine hReg (sq 0 (sq 1 sz)) (by kernel_rfl) ?_
      refine mvB rfl rfl rfl ?_
      refine asB rfl rfl rfl ?_
      refine rNil ?_
      refine qSeq rfl ?_
      refine hIfD rfl (fun c25 => ?_) (fun c25 => ?_)
      ·
       replace c25 : ((Hd.tally Hd.su 4 z).getD ((((z.getD 0 0) % 4)).toNat) 0) = 5 := c25
       refine hSeq ?_
       refine hReg (sq 0 sz) (by kernel_rfl) ?_
       refine asI rfl rfl rfl ?_
       refine rNil ?_
       refine qSeq rfl ?_
       refine hRet ?_
       exact fun w hs => ⟨[.int .i64 5], ⟨rfl, trivial⟩, ⟨by first | (exfalso; omega) | exact vI (by unfold Hd.catS; repeat (first | rfl | rw [if_pos (by omega)] | rw [if_neg (by omega)])), hs.upd⟩⟩
      ·
       replace c25 : ¬ (((Hd.tally Hd.su 4 z).getD ((((z.getD 0 0) % 4)).toNat) 0) = 5) := c25
       refine hSeq ?_
       refine hReg (sq 0 (sq 1 sz)) (by kernel_rfl) ?_
       refine mvB rfl rfl rfl ?_
       refine asB rfl rfl rfl ?_
       refine rNil ?_
       refine qSeq rfl ?_
       refine hIfD rfl (fun c26 => ?_) (fun c26 => ?_)
       ·
        replace c26 : 0 ≤ (Hd.strS (Hd.tally Hd.rk 13 z)) := c26
        refine hSeq ?_
        refine hReg (sq 0 sz) (by kernel_rfl) ?_
        refine asI rfl rfl rfl ?_
        refine rNil ?_
        refine qSeq rfl ?_
        refine hRet ?_
        exact fun w hs => ⟨[.int .i64 4], ⟨rfl, trivial⟩, ⟨by first | (exfalso; omega) | exact vI (by unfold Hd.catS; repeat (first | rfl | rw [if_pos (by omega)] | rw [if_neg (by omega)])), hs.upd⟩⟩
       ·
        replace c26 : ¬ (0 ≤ (Hd.strS (Hd.tally Hd.rk 13 z))) := c26
        refine hSeq ?_
        refine hReg (sq 0 (sq 1 (sl 2 (sq 3 (sq 4 sz))))) (by kernel_rfl) ?_
        refine mvS rfl rfl rfl ?_
        refine ixIl (zn := 3) el23 ((Kn.at_ 1 rfl).imp fun _ h => OwnI.rd h) rfl rfl rfl rfl (by omega) (by omega) rfl ?_
        intro ae23 e23
        refine ldl Try.isAgg2 (e23) trv rfl rfl rfl ?_
        refine eql rfl rfl rfl rfl ?_
        refine asB rfl rfl rfl ?_
        refine rNil ?_
        refine qSeq rfl ?_
        refine hIfD rfl (fun c27 => ?_) (fun c27 => ?_)
        ·
         replace c27 : (((Hd.tally Hd.idI 5 (Hd.tally Hd.rk 13 z))).getD 3 0) = 1 := c27
         refine hSeq ?_
         refine hReg (sq 0 sz) (by kernel_rfl) ?_
         refine asI rfl rfl rfl ?_
         refine rNil ?_
         refine qSeq rfl ?_
         refine hRet ?_
         exact fun w hs => ⟨[.int .i64 3], ⟨rfl, trivial⟩, ⟨by first | (exfalso; omega) | exact vI (by unfold Hd.catS; repeat (first | rfl | rw [if_pos (by omega)] | rw [if_neg (by omega)])), hs.upd⟩⟩
        ·
         replace c27 : ¬ ((((Hd.tally Hd.idI 5 (Hd.tally Hd.rk 13 z))).getD 3 0) = 1) := c27
         refine hSeq ?_
         refine hReg (sq 0 (sq 1 (sl 2 (sq 3 (sq 4 sz))))) (by kernel_rfl) ?_
         refine mvS rfl rfl rfl ?_
         refine ixIl (zn := 2) el23 ((Kn.at_ 1 rfl).imp fun _ h => OwnI.rd h) rfl rfl rfl rfl (by omega) (by omega) rfl ?_
         intro ae24 e24
         refine ldl Try.isAgg2 (e24) trv rfl rfl rfl ?_
         refine eql rfl rfl rfl rfl ?_
         refine asB rfl rfl rfl ?_
         refine rNil ?_
         refine qSeq rfl ?_
         refine hIfD rfl (fun c28 => ?_) (fun c28 => ?_)
         ·
          replace c28 : (((Hd.tally Hd.idI 5 (Hd.tally Hd.rk 13 z))).getD 2 0) = 2 := c28
          refine hSeq ?_
          refine hReg (sq 0 sz) (by kernel_rfl) ?_
          refine asI rfl rfl rfl ?_
          refine rNil ?_
          refine qSeq rfl ?_
          refine hRet ?_
          exact fun w hs => ⟨[.int .i64 2], ⟨rfl, trivial⟩, ⟨by first | (exfalso; omega) | exact vI (by unfold Hd.catS; repeat (first | rfl | rw [if_pos (by omega)] | rw [if_neg (by omega)])), hs.upd⟩⟩
         ·
          replace c28 : ¬ ((((Hd.tally Hd.idI 5 (Hd.tally Hd.rk 13 z))).getD 2 0) = 2) := c28
          refine hSeq ?_
          refine hReg (sq 0 (sq 1 (sl 2 (sq 3 (sq 4 sz))))) (by kernel_rfl) ?_
          refine mvS rfl rfl rfl ?_
          refine ixIl (zn := 2) el23 ((Kn.at_ 1 rfl).imp fun _ h => OwnI.rd h) rfl rfl rfl rfl (by omega) (by omega) rfl ?_
          intro ae25 e25
          refine ldl Try.isAgg2 (e25) trv rfl rfl rfl ?_
          refine eql rfl rfl rfl rfl ?_
          refine asB rfl rfl rfl ?_
          refine rNil ?_
          refine qSeq rfl ?_
          refine hIfD rfl (fun c29 => ?_) (fun c29 => ?_)
          ·
           replace c29 : (((Hd.tally Hd.idI 5 (Hd.tally Hd.rk 13 z))).getD 2 0) = 1 := c29
           refine hSeq ?_
           refine hReg (sq 0 sz) (by kernel_rfl) ?_
           refine asI rfl rfl rfl ?_
           refine rNil ?_
           refine qSeq rfl ?_
           refine hRet ?_
           exact fun w hs => ⟨[.int .i64 1], ⟨rfl, trivial⟩, ⟨by first | (exfalso; omega) | exact vI (by unfold Hd.catS; repeat (first | rfl | rw [if_pos (by omega)] | rw [if_neg (by omega)])), hs.upd⟩⟩
          ·
           replace c29 : ¬ ((((Hd.tally Hd.idI 5 (Hd.tally Hd.rk 13 z))).getD 2 0) = 1) := c29
           refine hSkip ?_
           refine qSeq rfl ?_
           refine hSeq ?_
           refine hReg (sq 0 sz) (by kernel_rfl) ?_
           refine asI rfl rfl rfl ?_
           refine rNil ?_
           refine qSeq rfl ?_
           refine hRet ?_
           exact fun w hs => ⟨[.int .i64 0], ⟨rfl, trivial⟩, ⟨by first | (exfalso; omega) | exact vI (by unfold Hd.catS; repeat (first | rfl | rw [if_pos (by omega)] | rw [if_neg (by omega)])), hs.upd⟩⟩
  ·
   refine ldl Try.isAgg2 (e5) (fun _ h => h.pick []) rfl rfl rfl ?_
   refine rem rfl rfl rfl rfl (by omega) ?_
   refine callS Try.call168 (by exact (fun _ _ h => h.pick [])) rfl rfl (fun w hs => spec_l02SuitCounts_c _ nz cz _ w (Kn.drop (k := 2) kz w hs) (by assumption) (by omega)) ?_
   rintro ⟨ay26, ny26, cy26, y26⟩ hr26
   dsimp only at hr26
   subst y26
   refine rPieces (L' := [OwnI 2 ay26 ny26 cy26 (Hd.tally Hd.su 4 z), OwnI 2 (some ⟨bkm2, 0, none⟩) 5 5 ((Hd.tally Hd.idI 5 (Hd.tally Hd.rk 13 z))), OwnI 2 ay1 ny1 cy1 (Hd.tally Hd.rk 13 z)]) (fun _ h => h) ?_
   refine rKnow (fun w hs => (show OwnI 2 ay26 ny26 cy26 (Hd.tally Hd.su 4 z) w from hs.at_ 0 rfl).lenz) (fun lenn4 => ?_)
   refine rVal (v' := .slice ay26 ny26 cy26) rfl ?_
   refine ixIl (zn := (((z.getD 0 0) % 4)).toNat) el23 ((Kn.at_ 0 rfl).imp fun _ h => OwnI.rd h) rfl rfl rfl rfl (by omega) (by omega) rfl ?_
   intro ae27 e27
   refine ldl Try.isAgg2 (e27) (fun _ h => h.pick []) rfl rfl rfl ?_
   refine eql rfl rfl rfl rfl ?_
   refine asB rfl rfl rfl ?_
   refine rNil ?_
   refine qSeq rfl ?_
   refine hSeq ?_
   refine hReg (sq 0 (sl 1 (sq 2 (sq 3 sz)))) (by kernel_rfl) ?_
   refine mvS rfl rfl rfl ?_
   refine callP (v := .int .i64 ((Hd.strS (Hd.tally Hd.rk 13 z)))) Try.call167 trv rfl rfl (fun w hs => spec_l04Straight_c _ ny1 cy1 _ w (OwnI.rd (hs.at_ 2 rfl)) (by omega)) ?_
   refine geq rfl rfl rfl rfl ?_
   refine asB rfl rfl rfl ?_
   refine rNil ?_
   refine qSeq rfl ?_
   refine hSeq ?_
   refine hBlk ?_
   refine hSeq ?_
   refine hReg (sq 0 (sq 1 (sq 2 (sq 3 (sq 4 sz))))) (by kernel_rfl) ?_
   refine mvB rfl rfl rfl ?_
   refine mvB rfl rfl rfl ?_
   refine rBoolD (d := 38) rfl (fun g30 => ?_) (fun g30 => ?_)
   ·
    replace g30 : 0 ≤ (Hd.strS (Hd.tally Hd.rk 13 z)) := g30
    refine mvB rfl rfl rfl ?_
    refine pickB rfl rfl rfl rfl ?_
    refine asB rfl rfl rfl ?_
    refine rNil ?_
    refine qSeq rfl ?_
    refine hIfD rfl (fun c31 => ?_) (fun c31 => ?_)
    ·
     replace c31 : ((Hd.tally Hd.su 4 z).getD ((((z.getD 0 0) % 4)).toNat) 0) = 5 := c31
     refine hSeq ?_
     refine hReg (sq 0 sz) (by kernel_rfl) ?_
     refine asI rfl rfl rfl ?_
     refine rNil ?_
     refine qSeq rfl ?_
     refine hRet ?_
     exact fun w hs => ⟨[.int .i64 8], ⟨rfl, trivial⟩, ⟨by first | (exfalso; omega) | exact vI (by unfold Hd.catS; repeat (first | rfl | rw [if_pos (by omega)] | rw [if_neg (by omega)])), hs.upd⟩⟩
    ·
     replace c31 : ¬ (((Hd.tally Hd.su 4 z).getD ((((z.getD 0 0) % 4)).toNat) 0) = 5) := c31
     refine hSeq ?_
     refine hReg (sq 0 (sq 1 (sl 2 (sq 3 (sq 4 sz))))) (by kernel_rfl) ?_
     refine mvS rfl rfl rfl ?_
     refine ixIl (zn := 4) el23 ((Kn.at_ 1 rfl).imp fun _ h => OwnI.rd h) rfl rfl rfl rfl (by omega) (by omega) rfl ?_
     intro ae28 e28
     refine ldl Try.isAgg2 (e28) trv rfl rfl rfl ?_
     refine eql rfl rfl rfl rfl ?_
     refine asB rfl rfl rfl ?_
     refine rNil ?_
     refine qSeq rfl ?_
     refine hIfD rfl (fun c32 => ?_) (fun c32 => ?_)
     ·
      replace c32 : (((Hd.tally Hd.idI 5 (Hd.tally Hd.rk 13 z))).getD 4 0) = 1 := c32
      refine hSeq ?_
      refine hReg (sq 0 sz) (by kernel_rfl) ?_
      refine asI rfl rfl rfl ?_
      refine rNil ?_
      refine qSeq rfl ?_
      refine hRet ?_
      exact fun w hs => ⟨[.int .i64 7], ⟨rfl, trivial⟩, ⟨by first | (exfalso; omega) | exact vI (by unfold Hd.catS; repeat (first | rfl | rw [if_pos (by omega)] | rw [if_neg (by omega)])), hs.upd⟩⟩
     ·
      replace c32 : ¬ ((((Hd.tally Hd.idI 5 (Hd.tally Hd.rk 13 z))).getD 4 0) = 1) := c32
      refine hSeq ?_
      refine hReg (sq 0 (sq 1 (sl 2 (sq 3 (sq 4 (sq 5 (sq 6 (sl 7 (sq 8 (sq 9 (sq 10 sz))))))))))) (by kernel_rfl) ?_
      refine mvS rfl rfl rfl ?_
      refine ixIl (zn := 3) el23 ((Kn.at_ 1 rfl).imp fun _ h => OwnI.rd h) rfl rfl rfl rfl (by omega) (by omega) rfl ?_
      intro ae29 e29
      refine ldl Try.isAgg2 (e29) trv rfl rfl rfl ?_
      refine eql rfl rfl rfl rfl ?_
      refine mvB rfl rfl rfl ?_
      refine rBoolD (d := 51) rfl (fun g33 => ?_) (fun g33 => ?_)
      ·
       replace g33 : (((Hd.tally Hd.idI 5 (Hd.tally Hd.rk 13 z))).getD 3 0) = 1 := g33
       refine mvS rfl rfl rfl ?_
       refine ixIl (zn := 2) el23 ((Kn.at_ 1 rfl).imp fun _ h => OwnI.rd h) rfl rfl rfl rfl (by omega) (by omega) rfl ?_
       intro ae30 e30
       refine ldl Try.isAgg2 (e30) trv rfl rfl rfl ?_
       refine eql rfl rfl rfl rfl ?_
       refine pickB rfl rfl rfl rfl ?_
       refine asB rfl rfl rfl ?_
       refine rNil ?_
       refine qSeq rfl ?_
       refine hIfD rfl (fun c34 => ?_) (fun c34 => ?_)
       ·
        replace c34 : (((Hd.tally Hd.idI 5 (Hd.tally Hd.rk 13 z))).getD 2 0) = 1 := c34
        refine hSeq ?_
        refine hReg (sq 0 sz) (by kernel_rfl) ?_
        refine asI rfl rfl rfl ?_
        refine rNil ?_
        refine qSeq rfl ?_
        refine hRet ?_
        exact fun w hs => ⟨[.int .i64 6], ⟨rfl, trivial⟩, ⟨by first | (exfalso; omega) | exact vI (by unfold Hd.catS; repeat (first | rfl | rw [if_pos (by omega)] | rw [if_neg (by omega)])), hs.upd⟩⟩
       ·
        replace c34 : ¬ ((((Hd.tally Hd.idI 5 (Hd.tally Hd.rk 13 z))).getD 2 0) = 1) := c34
        refine hSeq ?_
        refine hReg (sq 0 (sq 1 sz)) (by kernel_rfl) ?_
        refine mvB rfl rfl rfl ?_
        refine asB rfl rfl rfl ?_
        refine rNil ?_
        refine qSeq rfl ?_
        refine hIfD rfl (fun c35 => ?_) (fun c35 => ?_)
        ·
         replace c35 : ((Hd.tally Hd.su 4 z).getD ((((z.getD 0 0) % 4)).toNat) 0) = 5 := c35
         refine hSeq ?_
         refine hReg (sq 0 sz) (by kernel_rfl) ?_
         refine asI rfl rfl rfl ?_
         refine rNil ?_
         refine qSeq rfl ?_
         refine hRet ?_
         exact fun w hs => ⟨[.int .i64 5], ⟨rfl, trivial⟩, ⟨by first | (exfalso; omega) | exact vI (by unfold Hd.catS; repeat (first | rfl | rw [if_pos (by omega)] | rw [if_neg (by omega)])), hs.upd⟩⟩
        ·
         replace c35 : ¬ (((Hd.tally Hd.su 4 z).getD ((((z.getD 0 0) % 4)).toNat) 0) = 5) := c35
         refine hSeq ?_
         refine hReg (sq 0 (sq 1 sz)) (by kernel_rfl) ?_
         refine mvB rfl rfl rfl ?_
         refine asB rfl rfl rfl ?_
         refine rNil ?_
         refine qSeq rfl ?_
         refine hIfD rfl (fun c36 => ?_) (fun c36 => ?_)
         ·
          replace c36 : 0 ≤ (Hd.strS (Hd.tally Hd.rk 13 z)) := c36
          refine hSeq ?_
          refine hReg (sq 0 sz) (by kernel_rfl) ?_
          refine asI rfl rfl rfl ?_
          refine rNil ?_
          refine qSeq rfl ?_
          refine hRet ?_
          exact fun w hs => ⟨[.int .i64 4], ⟨rfl, trivial⟩, ⟨by first | (exfalso; omega) | exact vI (by unfold Hd.catS; repeat (first | rfl | rw [if_pos (by omega)] | rw [if_neg (by omega)])), hs.upd⟩⟩
         ·
          replace c36 : ¬ (0 ≤ (Hd.strS (Hd.tally Hd.rk 13 z))) := c36
          refine hSeq ?_
          refine hReg (sq 0 (sq 1 (sl 2 (sq 3 (sq 4 sz))))) (by kernel_rfl) ?_
          refine mvS rfl rfl rfl ?_
          refine ixIl (zn := 3) el23 ((Kn.at_ 1 rfl).imp fun _ h => OwnI.rd h) rfl rfl rfl rfl (by omega) (by omega) rfl ?_
          intro ae31 e31
          refine ldl Try.isAgg2 (e31) trv rfl rfl rfl ?_
          refine eql rfl rfl rfl rfl ?_
          refine asB rfl rfl rfl ?_
          refine rNil ?_
          refine qSeq rfl ?_
          refine hIfD rfl (fun c37 => ?_) (fun c37 => ?_)
          ·
           replace c37 : (((Hd.tally Hd.idI 5 (Hd.tally Hd.rk 13 z))).getD 3 0) = 1 := c37
           refine hSeq ?_
           refine hReg (sq 0 sz) (by kernel_rfl) ?_
           refine asI rfl rfl rfl ?_
           refine rNil ?_
           refine qSeq rfl ?_
           refine hRet ?_
           exact fun w hs => ⟨[.int .i64 3], ⟨rfl, trivial⟩, ⟨by first | (exfalso; omega) | exact vI (by unfold Hd.catS; repeat (first | rfl | rw [if_pos (by omega)] | rw [if_neg (by omega)])), hs.upd⟩⟩
          ·
           replace c37 : ¬ ((((Hd.tally Hd.idI 5 (Hd.tally Hd.rk 13 z))).getD 3 0) = 1) := c37
           refine hSeq ?_
           refine hReg (sq 0 (sq 1 (sl 2 (sq 3 (sq 4 sz))))) (by kernel_rfl) ?_
           refine mvS rfl rfl rfl ?_
           refine ixIl (zn := 2) el23 ((Kn.at_ 1 rfl).imp fun _ h => OwnI.rd h) rfl rfl rfl rfl (by omega) (by omega) rfl ?_
           intro ae32 e32
           refine ldl Try.isAgg2 (e32) trv rfl rfl rfl ?_
           refine eql rfl rfl rfl rfl ?_
           refine asB rfl rfl rfl ?_
           refine rNil ?_
           refine qSeq rfl ?_
           refine hIfD rfl (fun c38 => ?_) (fun c38 => ?_)
           ·
            replace c38 : (((Hd.tally Hd.idI 5 (Hd.tally Hd.rk 13 z))).getD 2 0) = 2 := c38
            refine hSeq ?_
            refine hReg (sq 0 sz) (by kernel_rfl) ?_
            refine asI rfl rfl rfl ?_
            refine rNil ?_
            refine qSeq rfl ?_
            refine hRet ?_
            exact fun w hs => ⟨[.int .i64 2], ⟨rfl, trivial⟩, ⟨by first | (exfalso; omega) | exact vI (by unfold Hd.catS; repeat (first | rfl | rw [if_pos (by omega)] | rw [if_neg (by omega)])), hs.upd⟩⟩
           ·
            replace c38 : ¬ ((((Hd.tally Hd.idI 5 (Hd.tally Hd.rk 13 z))).getD 2 0) = 2) := c38
            refine hSeq ?_
            refine hReg (sq 0 (sq 1 (sl 2 (sq 3 (sq 4 sz))))) (by kernel_rfl) ?_
            refine mvS rfl rfl rfl ?_
            refine ixIl (zn := 2) el23 ((Kn.at_ 1 rfl).imp fun _ h => OwnI.rd h) rfl rfl rfl rfl (by omega) (by omega) rfl ?_
            intro ae33 e33
            refine ldl Try.isAgg2 (e33) trv rfl rfl rfl ?_
            refine eql rfl rfl rfl rfl ?_
            refine asB rfl rfl rfl ?_
            refine rNil ?_
            refine qSeq rfl ?_
            refine hIfD rfl (fun c39 => ?_) (fun c39 => ?_)
            ·
             replace c39 : (((Hd.tally Hd.idI 5 (Hd.tally Hd.rk 13 z))).getD 2 0) = 1 := c39
             refine hSeq ?_
             refine hReg (sq 0 sz) (by kernel_rfl) ?_
             refine asI rfl rfl rfl ?_
             refine rNil ?_
             refine qSeq rfl ?_
             refine hRet ?_
             exact fun w hs => ⟨[.int .i64 1], ⟨rfl, trivial⟩, ⟨by first | (exfalso; omega) | exact vI (by unfold Hd.catS; repeat (first | rfl | rw [if_pos (by omega)] | rw [if_neg (by omega)])), hs.upd⟩⟩
            ·
             replace c39 : ¬ ((((Hd.tally Hd.idI 5 (Hd.tally Hd.rk 13 z))).getD 2 0) = 1) := c39
             refine hSkip ?_
             refine qSeq rfl ?_
             refine hSeq ?_
             refine hReg (sq 0 sz) (by kernel_rfl) ?_
             refine asI rfl rfl rfl ?_
             refine rNil ?_
             refine qSeq rfl ?_
             refine hRet ?_
             exact fun w hs => ⟨[.int .i64 0], ⟨rfl, trivial⟩, ⟨by first | (exfalso; omega) | exact vI (by unfold Hd.catS; repeat (first | rfl | rw [if_pos (by omega)] | rw [if_neg (by omega)])), hs.upd⟩⟩
      ·
       replace g33 : ¬ ((((Hd.tally Hd.idI 5 (Hd.tally Hd.rk 13 z))).getD 3 0) = 1) := g33
       refine rSkipQ rfl rfl ?_
       refine rSkipQ rfl rfl ?_
       refine rSkipL trv rfl rfl ?_
       refine rSkipQ rfl rfl ?_
       refine pickB rfl rfl rfl rfl ?_
       refine asB rfl rfl rfl ?_
       refine rNil ?_
       refine qSeq rfl ?_
       refine hIfF rfl ?_
       refine hSeq ?_
       refine hReg (sq 0 (sq 1 sz)) (by kernel_rfl) ?_
       refine mvB rfl rfl rfl ?_
       refine asB rfl rfl rfl ?_
       refine rNil ?_
       refine qSeq rfl ?_
       refine hIfD rfl (fun c40 => ?_) (fun c40 => ?_)
       ·
        replace c40 : ((Hd.tally Hd.su 4 z).getD ((((z.getD 0 0) % 4)).toNat) 0) = 5 := c40
        refine hSeq ?_
        refine hReg (sq 0 sz) (by kernel_rfl) ?_
        refine asI rfl rfl rfl ?_
        refine rNil ?_
        refine qSeq rfl ?_
        refine hRet ?_
        exact fun w hs => ⟨[.int .i64 5], ⟨rfl, trivial⟩, ⟨by first | (exfalso; omega) | exact vI (by unfold Hd.catS; repeat (first | rfl | rw [if_pos (by omega)] | rw [if_neg (by omega)])), hs.upd⟩⟩
       ·
        replace c40 : ¬ (((Hd.tally Hd.su 4 z).getD ((((z.getD 0 0) % 4)).toNat) 0) = 5) := c40
        refine hSeq ?_
        refine hReg (sq 0 (sq 1 sz)) (by kernel_rfl) ?_
        refine mvB rfl rfl rfl ?_
        refine asB rfl rfl rfl ?_
        refine rNil ?_
        refine qSeq rfl ?_
        refine hIfD rfl (fun c41 => ?_) (fun c41 => ?_)
        ·
         replace c41 : 0 ≤ (Hd.strS (Hd.tally Hd.rk 13 z)) := c41
         refine hSeq ?_
         refine hReg (sq 0 sz) (by kernel_rfl) ?_
         refine asI rfl rfl rfl ?_
         refine rNil ?_
         refine qSeq rfl ?_
         refine hRet ?_
         exact fun w hs => ⟨[.int .i64 4], ⟨rfl, trivial⟩, ⟨by first | (exfalso; omega) | exact vI (by unfold Hd.catS; repeat (first | rfl | rw [if_pos (by omega)] | rw [if_neg (by omega)])), hs.upd⟩⟩
        ·
         replace c41 : ¬ (0 ≤ (Hd.strS (Hd.tally Hd.rk 13 z))) := c41
         refine hSeq ?_
         refine hReg (sq 0 (sq 1 (sl 2 (sq 3 (sq 4 sz))))) (by kernel_rfl) ?_
         refine mvS rfl rfl rfl ?_
         refine ixIl (zn := 3) el23 ((Kn.at_ 1 rfl).imp fun _ h => OwnI.rd h) rfl rfl rfl rfl (by omega) (by omega) rfl ?_
         intro ae34 e34
         refine ldl Try.isAgg2 (e34) trv rfl rfl rfl ?_
         refine eql rfl rfl rfl rfl ?_
         refine asB rfl rfl rfl ?_
         refine rNil ?_
         refine qSeq rfl ?_
         refine hIfD rfl (fun c42 => ?_) (fun c42 => ?_)
         ·
          replace c42 : (((Hd.tally Hd.idI 5 (Hd.tally Hd.rk 13 z))).getD 3 0) = 1 := c42
          refine hSeq ?_
          refine hReg (sq 0 sz) (by kernel_rfl) ?_
          refine asI rfl rfl rfl ?_
          refine rNil ?_
          refine qSeq rfl ?_
          refine hRet ?_
          exact fun w hs => ⟨[.int .i64 3], ⟨rfl, trivial⟩, ⟨by first | (exfalso; omega) | exact vI (by unfold Hd.catS; repeat (first | rfl | rw [if_pos (by omega)] | rw [if_neg (by omega)])), hs.upd⟩⟩
         ·
          replace c42 : ¬ ((((Hd.tally Hd.idI 5 (Hd.tally Hd.rk 13 z))).getD 3 0) = 1) := c42
          refine hSeq ?_
          refine hReg (sq 0 (sq 1 (sl 2 (sq 3 (sq 4 sz))))) (by kernel_rfl) ?_
          refine mvS rfl rfl rfl ?_
          refine ixIl (zn := 2) el23 ((Kn.at_ 1 rfl).imp fun _ h => OwnI.rd h) rfl rfl rfl rfl (by omega) (by omega) rfl ?_
          intro ae35 e35
          refine ldl Try.isAgg2 (e35) trv rfl rfl rfl ?_
          refine eql rfl rfl rfl rfl ?_
          refine asB rfl rfl rfl ?_
          refine rNil ?_
          refine qSeq rfl ?_
          refine hIfD rfl (fun c43 => ?_) (fun c43 => ?_)
          ·
           replace c43 : (((Hd.tally Hd.idI 5 (Hd.tally Hd.rk 13 z))).getD 2 0) = 2 := c43
           refine hSeq ?_
           refine hReg (sq 0 sz) (by kernel_rfl) ?_
           refine asI rfl rfl rfl ?_
           refine rNil ?_
           refine qSeq rfl ?_
           refine hRet ?_
           exact fun w hs => ⟨[.int .i64 2], ⟨rfl, trivial⟩, ⟨by first | (exfalso; omega) | exact vI (by unfold Hd.catS; repeat (first | rfl | rw [if_pos (by omega)] | rw [if_neg (by omega)])), hs.upd⟩⟩
          ·
           replace c43 : ¬ ((((Hd.tally Hd.idI 5 (Hd.tally Hd.rk 13 z))).getD 2 0) = 2) := c43
           refine hSeq ?_
           refine hReg (sq 0 (sq 1 (sl 2 (sq 3 (sq 4 sz))))) (by kernel_rfl) ?_
           refine mvS rfl rfl rfl ?_
           refine ixIl (zn := 2) el23 ((Kn.at_ 1 rfl).imp fun _ h => OwnI.rd h) rfl rfl rfl rfl (by omega) (by omega) rfl ?_
           intro ae36 e36
           refine ldl Try.isAgg2 (e36) trv rfl rfl rfl ?_
           refine eql rfl rfl rfl rfl ?_
           refine asB rfl rfl rfl ?_
           refine rNil ?_
           refine qSeq rfl ?_
           refine hIfD rfl (fun c44 => ?_) (fun c44 => ?_)
           ·
            replace c44 : (((Hd.tally Hd.idI 5 (Hd.tally Hd.rk 13 z))).getD 2 0) = 1 := c44
            refine hSeq ?_
            refine hReg (sq 0 sz) (by kernel_rfl) ?_
            refine asI rfl rfl rfl ?_
            refine rNil ?_
            refine qSeq rfl ?_
            refine hRet ?_
            exact fun w hs => ⟨[.int .i64 1], ⟨rfl, trivial⟩, ⟨by first | (exfalso; omega) | exact vI (by unfold Hd.catS; repeat (first | rfl | rw [if_pos (by omega)] | rw [if_neg (by omega)])), hs.upd⟩⟩
           ·
            replace c44 : ¬ ((((Hd.tally Hd.idI 5 (Hd.tally Hd.rk 13 z))).getD 2 0) = 1) := c44
            refine hSkip ?_
            refine qSeq rfl ?_
            refine hSeq ?_
            refine hReg (sq 0 sz) (by kernel_rfl) ?_
            refine asI rfl rfl rfl ?_
            refine rNil ?_
            refine qSeq rfl ?_
            refine hRet ?_
            exact fun w hs => ⟨[.int .i64 0], ⟨rfl, trivial⟩, ⟨by first | (exfalso; omega) | exact vI (by unfold Hd.catS; repeat (first | rfl | rw [if_pos (by omega)] | rw [if_neg (by omega)])), hs.upd⟩⟩
   ·
    replace g30 : ¬ (0 ≤ (Hd.strS (Hd.tally Hd.rk 13 z))) := g30
    refine rSkipQ rfl rfl ?_
    refine pickB rfl rfl rfl rfl ?_
    refine asB rfl rfl rfl ?_
    refine rNil ?_
    refine qSeq rfl ?_
    refine hIfF rfl ?_
    refine hSeq ?_
    refine hReg (sq 0 (sq 1 (sl 2 (sq 3 (sq 4 sz))))) (by kernel_rfl) ?_
    refine mvS rfl rfl rfl ?_
    refine ixIl (zn := 4) el23 ((Kn.at_ 1 rfl).imp fun _ h => OwnI.rd h) rfl rfl rfl rfl (by omega) (by omega) rfl ?_
    intro ae37 e37
    refine ldl Try.isAgg2 (e37) trv rfl rfl rfl ?_
    refine eql rfl rfl rfl rfl ?_
    refine asB rfl rfl rfl ?_
    refine rNil ?_
    refine qSeq rfl ?_
    refine hIfD rfl (fun c45 => ?_) (fun c45 => ?_)
    ·
     replace c45 : (((Hd.tally Hd.idI 5 (Hd.tally Hd.rk 13 z))).getD 4 0) = 1 := c45
     refine hSeq ?_
     refine hReg (sq 0 sz) (by kernel_rfl) ?_
     refine asI rfl rfl rfl ?_
     refine rNil ?_
     refine qSeq rfl ?_
     refine hRet ?_
     exact fun w hs => ⟨[.int .i64 7], ⟨rfl, trivial⟩, ⟨by first | (exfalso; omega) | exact vI (by unfold Hd.catS; repeat (first | rfl | rw [if_pos (by omega)] | rw [if_neg (by omega)])), hs.upd⟩⟩
    ·
     replace c45 : ¬ ((((Hd.tally Hd.idI 5 (Hd.tally Hd.rk 13 z))).getD 4 0) = 1) := c45
     refine hSeq ?_
     refine hReg (sq 0 (sq 1 (sl 2 (sq 3 (sq 4 (sq 5 (sq 6 (sl 7 (sq 8 (sq 9 (sq 10 sz))))))))))) (by kernel_rfl) ?_
     refine mvS rfl rfl rfl ?_
     refine ixIl (zn := 3) el23 ((Kn.at_ 1 rfl).imp fun _ h => OwnI.rd h) rfl rfl rfl rfl (by omega) (by omega) rfl ?_
     intro ae38 e38
     refine ldl Try.isAgg2 (e38) trv rfl rfl rfl ?_
     refine eql rfl rfl rfl rfl ?_
     refine mvB rfl rfl rfl ?_
     refine rBoolD (d := 51) rfl (fun g46 => ?_) (fun g46 => ?_)
     ·
      replace g46 : (((Hd.tally Hd.idI 5 (Hd.tally Hd.rk 13 z))).getD 3 0) = 1 := g46
      refine mvS rfl rfl rfl ?_
      refine ixIl (zn := 2) el23 ((Kn.at_ 1 rfl).imp fun _ h => OwnI.rd h) rfl rfl rfl rfl (by omega) (by omega) rfl ?_
      intro ae39 e39
      refine ldl Try.isAgg2 (e39) trv rfl rfl rfl ?_
      refine eql rfl rfl rfl rfl ?_
      refine pickB rfl rfl rfl rfl ?_
      refine asB rfl rfl rfl ?_
      refine rNil ?_
      refine qSeq rfl ?_
      refine hIfD rfl (fun c47 => ?_) (fun c47 => ?_)
      ·
       replace c47 : (((Hd.tally Hd.idI 5 (Hd.tally Hd.rk 13 z))).getD 2 0) = 1 := c47
       refine hSeq ?_
       refine hReg (sq 0 sz) (by kernel_rfl) ?_
       refine asI rfl rfl rfl ?_
       refine rNil ?_
       refine qSeq rfl ?_
       refine hRet ?_
       exact fun w hs => ⟨[.int .i64 6], ⟨rfl, trivial⟩, ⟨by first | (exfalso; omega) | exact vI (by unfold Hd.catS; repeat (first | rfl | rw [if_pos (by omega)] | rw [if_neg (by omega)])), hs.upd⟩⟩
      ·
       replace c47 : ¬ ((((Hd.tally Hd.idI 5 (Hd.tally Hd.rk 13 z))).getD 2 0) = 1) := c47
       refine hSeq ?_
       refine hReg (sq 0 (sq 1 sz)) (by kernel_rfl) ?_
       refine mvB rfl rfl rfl ?_
       refine asB rfl rfl rfl ?_
       refine rNil ?_
       refine qSeq rfl ?_
       refine hIfD rfl (fun c48 => ?_) (fun c48 => ?_)
       ·
        replace c48 : ((Hd.tally Hd.su 4 z).getD ((((z.getD 0 0) % 4)).toNat) 0) = 5 := c48
        refine hSeq ?_
        refine hReg (sq 0 sz) (by kernel_rfl) ?_
        refine asI rfl rfl rfl ?_
        refine rNil ?_
        refine qSeq rfl ?_
        refine hRet ?_
        exact fun w hs => ⟨[.int .i64 5], ⟨rfl, trivial⟩, ⟨by first | (exfalso; omega) | exact vI (by unfold Hd.catS; repeat (first | rfl | rw [if_pos (by omega)] | rw [if_neg (by omega)])), hs.upd⟩⟩
       ·
        replace c48 : ¬ (((Hd.tally Hd.su 4 z).getD ((((z.getD 0 0) % 4)).toNat) 0) = 5) := c48
        refine hSeq ?_
        refine hReg (sq 0 (sq 1 sz)) (by kernel_rfl) ?_
        refine mvB rfl rfl rfl ?_
        refine asB rfl rfl rfl ?_
        refine rNil ?_
        refine qSeq rfl ?_
        refine hIfD rfl (fun c49 => ?_) (fun c49 => ?_)
        ·
         replace c49 : 0 ≤ (Hd.strS (Hd.tally Hd.rk 13 z)) := c49
         refine hSeq ?_
         refine hReg (sq 0 sz) (by kernel_rfl) ?_
         refine asI rfl rfl rfl ?_
         refine rNil ?_
         refine qSeq rfl ?_
         refine hRet ?_
         exact fun w hs => ⟨[.int .i64 4], ⟨rfl, trivial⟩, ⟨by first | (exfalso; omega) | exact vI (by unfold Hd.catS; repeat (first | rfl | rw [if_pos (by omega)] | rw [if_neg (by omega)])), hs.upd⟩⟩
        ·
         replace c49 : ¬ (0 ≤ (Hd.strS (Hd.tally Hd.rk 13 z))) := c49
         refine hSeq ?_
         refine hReg (sq 0 (sq 1 (sl 2 (sq 3 (sq 4 sz))))) (by kernel_rfl) ?_
         refine mvS rfl rfl rfl ?_
         refine ixIl (zn := 3) el23 ((Kn.at_ 1 rfl).imp fun _ h => OwnI.rd h) rfl rfl rfl rfl (by omega) (by omega) rfl ?_
         intro ae40 e40
         refine ldl Try.isAgg2 (e40) trv rfl rfl rfl ?_
         refine eql rfl rfl rfl rfl ?_
         refine asB rfl rfl rfl ?_
         refine rNil ?_
         refine qSeq rfl ?_
         refine hIfD rfl (fun c50 => ?_) (fun c50 => ?_)
         ·
          replace c50 : (((Hd.tally Hd.idI 5 (Hd.tally Hd.rk 13 z))).getD 3 0) = 1 := c50
          refine hSeq ?_
          refine hReg (sq 0 sz) (by kernel_rfl) ?_
          refine asI rfl rfl rfl ?_
          refine rNil ?_
          refine qSeq rfl ?_
          refine hRet ?_
          exact fun w hs => ⟨[.int .i64 3], ⟨rfl, trivial⟩, ⟨by first | (exfalso; omega) | exact vI (by unfold Hd.catS; repeat (first | rfl | rw [if_pos (by omega)] | rw [if_neg (by omega)])), hs.upd⟩⟩
         ·
          replace c50 : ¬ ((((Hd.tally Hd.idI 5 (Hd.tally Hd.rk 13 z))).getD 3 0) = 1) := c50
          refine hSeq ?_
          refine hReg (sq 0 (sq 1 (sl 2 (sq 3 (sq 4 sz))))) (by kernel_rfl) ?_
          refine mvS rfl rfl rfl ?_
          refine ixIl (zn := 2) el23 ((Kn.at_ 1 rfl).imp fun _ h => OwnI.rd h) rfl rfl rfl rfl (by omega) (by omega) rfl ?_
          intro ae41 e41
          refine ldl Try.isAgg2 (e41) trv rfl rfl rfl ?_
          refine eql rfl rfl rfl rfl ?_
          refine asB rfl rfl rfl ?_
          refine rNil ?_
          refine qSeq rfl ?_
          refine hIfD rfl (fun c51 => ?_) (fun c51 => ?_)
          ·
           replace c51 : (((Hd.tally Hd.idI 5 (Hd.tally Hd.rk 13 z))).getD 2 0) = 2 := c51
           refine hSeq ?_
           refine hReg (sq 0 sz) (by kernel_rfl) ?_
           refine asI rfl rfl rfl ?_
           refine rNil ?_
           refine qSeq rfl ?_
           refine hRet ?_
           exact fun w hs => ⟨[.int .i64 2], ⟨rfl, trivial⟩, ⟨by first | (exfalso; omega) | exact vI (by unfold Hd.catS; repeat (first | rfl | rw [if_pos (by omega)] | rw [if_neg (by omega)])), hs.upd⟩⟩
          ·
           replace c51 : ¬ ((((Hd.tally Hd.idI 5 (Hd.tally Hd.rk 13 z))).getD 2 0) = 2) := c51
           refine hSeq ?_
           refine hReg (sq 0 (sq 1 (sl 2 (sq 3 (sq 4 sz))))) (by kernel_rfl) ?_
           refine mvS rfl rfl rfl ?_
           refine ixIl (zn := 2) el23 ((Kn.at_ 1 rfl).imp fun _ h => OwnI.rd h) rfl rfl rfl rfl (by omega) (by omega) rfl ?_
           intro ae42 e42
           refine ldl Try.isAgg2 (e42) trv rfl rfl rfl ?_
           refine eql rfl rfl rfl rfl ?_
           refine asB rfl rfl rfl ?_
           refine rNil ?_
           refine qSeq rfl ?_
           refine hIfD rfl (fun c52 => ?_) (fun c52 => ?_)
           ·
            replace c52 : (((Hd.tally Hd.idI 5 (Hd.tally Hd.rk 13 z))).getD 2 0) = 1 := c52
            refine hSeq ?_
            refine hReg (sq 0 sz) (by kernel_rfl) ?_
            refine asI rfl rfl rfl ?_
            refine rNil ?_
            refine qSeq rfl ?_
            refine hRet ?_
            exact fun w hs => ⟨[.int .i64 1], ⟨rfl, trivial⟩, ⟨by first | (exfalso; omega) | exact vI (by unfold Hd.catS; repeat (first | rfl | rw [if_pos (by omega)] | rw [if_neg (by omega)])), hs.upd⟩⟩
           ·
            replace c52 : ¬ ((((Hd.tally Hd.idI 5 (Hd.tally Hd.rk 13 z))).getD 2 0) = 1) := c52
            refine hSkip ?_
            refine qSeq rfl ?_
            refine hSeq ?_
            refine hReg (sq 0 sz) (by kernel_rfl) ?_
            refine asI rfl rfl rfl ?_
            refine rNil ?_
            refine qSeq rfl ?_
            refine hRet ?_
            exact fun w hs => ⟨[.int .i64 0], ⟨rfl, trivial⟩, ⟨by first | (exfalso; omega) | exact vI (by unfold Hd.catS; repeat (first | rfl | rw [if_pos (by omega)] | rw [if_neg (by omega)])), hs.upd⟩⟩
     ·
      replace g46 : ¬ ((((Hd.tally Hd.idI 5 (Hd.tally Hd.rk 13 z))).getD 3 0) = 1) := g46
      refine rSkipQ rfl rfl ?_
      refine rSkipQ rfl rfl ?_
      refine rSkipL trv rfl rfl ?_
      refine rSkipQ rfl rfl ?_
      refine pickB rfl rfl rfl rfl ?_
      refine asB rfl rfl rfl ?_
      refine rNil ?_
      refine qSeq rfl ?_
      refine hIfF rfl ?_
      refine hSeq ?_
      refine hReg (sq 0 (sq 1 sz)) (by kernel_rfl) ?_
      refine mvB rfl rfl rfl ?_
      refine asB rfl rfl rfl ?_
      refine rNil ?_
      refine qSeq rfl ?_
      refine hIfD rfl (fun c53 => ?_) (fun c53 => ?_)
      ·
       replace c53 : ((Hd.tally Hd.su 4 z).getD ((((z.getD 0 0) % 4)).toNat) 0) = 5 := c53
       refine hSeq ?_
       refine hReg (sq 0 sz) (by kernel_rfl) ?_
       refine asI rfl rfl rfl ?_
       refine rNil ?_
       refine qSeq rfl ?_
       refine hRet ?_
       exact fun w hs => ⟨[.int .i64 5], ⟨rfl, trivial⟩, ⟨by first | (exfalso; omega) | exact vI (by unfold Hd.catS; repeat (first | rfl | rw [if_pos (by omega)] | rw [if_neg (by omega)])), hs.upd⟩⟩
      ·
       replace c53 : ¬ (((Hd.tally Hd.su 4 z).getD ((((z.getD 0 0) % 4)).toNat) 0) = 5) := c53
       refine hSeq ?_
       refine hReg (sq 0 (sq 1 sz)) (by kernel_rfl) ?_
       refine mvB rfl rfl rfl ?_
       refine asB rfl rfl rfl ?_
       refine rNil ?_
       refine qSeq rfl ?_
       refine hIfD rfl (fun c54 => ?_) (fun c54 => ?_)
       ·
        replace c54 : 0 ≤ (Hd.strS (Hd.tally Hd.rk 13 z)) := c54
        refine hSeq ?_
        refine hReg (sq 0 sz) (by kernel_rfl) ?_
        refine asI rfl rfl rfl ?_
        refine rNil ?_
        refine qSeq rfl ?_
        refine hRet ?_
        exact fun w hs => ⟨[.int .i64 4], ⟨rfl, trivial⟩, ⟨by first | (exfalso; omega) | exact vI (by unfold Hd.catS; repeat (first | rfl | rw [if_pos (by omega)] | rw [if_neg (by omega)])), hs.upd⟩⟩
       ·
        replace c54 : ¬ (0 ≤ (Hd.strS (Hd.tally Hd.rk 13 z))) := c54
        refine hSeq ?_
        refine hReg (sq 0 (sq 1 (sl 2 (sq 3 (sq 4 sz))))) (by kernel_rfl) ?_
        refine mvS rfl rfl rfl ?_
        refine ixIl (zn := 3) el23 ((Kn.at_ 1 rfl).imp fun _ h => OwnI.rd h) rfl rfl rfl rfl (by omega) (by omega) rfl ?_
        intro ae43 e43
        refine ldl Try.isAgg2 (e43) trv rfl rfl rfl ?_
        refine eql rfl rfl rfl rfl ?_
        refine asB rfl rfl rfl ?_
        refine rNil ?_
        refine qSeq rfl ?_
        refine hIfD rfl (fun c55 => ?_) (fun c55 => ?_)
        ·
         replace c55 : (((Hd.tally Hd.idI 5 (Hd.tally Hd.rk 13 z))).getD 3 0) = 1 := c55
         refine hSeq ?_
         refine hReg (sq 0 sz) (by kernel_rfl) ?_
         refine asI rfl rfl rfl ?_
         refine rNil ?_
         refine qSeq rfl ?_
         refine hRet ?_
         exact fun w hs => ⟨[.int .i64 3], ⟨rfl, trivial⟩, ⟨by first | (exfalso; omega) | exact vI (by unfold Hd.catS; repeat (first | rfl | rw [if_pos (by omega)] | rw [if_neg (by omega)])), hs.upd⟩⟩
        ·
         replace c55 : ¬ ((((Hd.tally Hd.idI 5 (Hd.tally Hd.rk 13 z))).getD 3 0) = 1) := c55
         refine hSeq ?_
         refine hReg (sq 0 (sq 1 (sl 2 (sq 3 (sq 4 sz))))) (by kernel_rfl) ?_
         refine mvS rfl rfl rfl ?_
         refine ixIl (zn := 2) el23 ((Kn.at_ 1 rfl).imp fun _ h => OwnI.rd h) rfl rfl rfl rfl (by omega) (by omega) rfl ?_
         intro ae44 e44
         refine ldl Try.isAgg2 (e44) trv rfl rfl rfl ?_
         refine eql rfl rfl rfl rfl ?_
         refine asB rfl rfl rfl ?_
         refine rNil ?_
         refine qSeq rfl ?_
         refine hIfD rfl (fun c56 => ?_) (fun c56 => ?_)
         ·
          replace c56 : (((Hd.tally Hd.idI 5 (Hd.tally Hd.rk 13 z))).getD 2 0) = 2 := c56
          refine hSeq ?_
          refine hReg (sq 0 sz) (by kernel_rfl) ?_
          refine asI rfl rfl rfl ?_
          refine rNil ?_
          refine qSeq rfl ?_
          refine hRet ?_
          exact fun w hs => ⟨[.int .i64 2], ⟨rfl, trivial⟩, ⟨by first | (exfalso; omega) | exact vI (by unfold Hd.catS; repeat (first | rfl | rw [if_pos (by omega)] | rw [if_neg (by omega)])), hs.upd⟩⟩
         ·
          replace c56 : ¬ ((((Hd.tally Hd.idI 5 (Hd.tally Hd.rk 13 z))).getD 2 0) = 2) := c56
          refine hSeq ?_
          refine hReg (sq 0 (sq 1 (sl 2 (sq 3 (sq 4 sz))))) (by kernel_rfl) ?_
          refine mvS rfl rfl rfl ?_
          refine ixIl (zn := 2) el23 ((Kn.at_ 1 rfl).imp fun _ h => OwnI.rd h) rfl rfl rfl rfl (by omega) (by omega) rfl ?_
          intro ae45 e45
          refine ldl Try.isAgg2 (e45) trv rfl rfl rfl ?_
          refine eql rfl rfl rfl rfl ?_
          refine asB rfl rfl rfl ?_
          refine rNil ?_
          refine qSeq rfl ?_
          refine hIfD rfl (fun c57 => ?_) (fun c57 => ?_)
          ·
           replace c57 : (((Hd.tally Hd.idI 5 (Hd.tally Hd.rk 13 z))).getD 2 0) = 1 := c57
           refine hSeq ?_
           refine hReg (sq 0 sz) (by kernel_rfl) ?_
           refine asI rfl rfl rfl ?_
           refine rNil ?_
           refine qSeq rfl ?_
           refine hRet ?_
           exact fun w hs => ⟨[.int .i64 1], ⟨rfl, trivial⟩, ⟨by first | (exfalso; omega) | exact vI (by unfold Hd.catS; repeat (first | rfl | rw [if_pos (by omega)] | rw [if_neg (by omega)])), hs.upd⟩⟩
          ·
           replace c57 : ¬ ((((Hd.tally Hd.idI 5 (Hd.tally Hd.rk 13 z))).getD 2 0) = 1) := c57
           refine hSkip ?_
           refine qSeq rfl ?_
           refine hSeq ?_
           refine hReg (sq 0 sz) (by kernel_rfl) ?_
           refine asI rfl rfl rfl ?_
           refine rNil ?_
           refine qSeq rfl ?_
           refine hRet ?_
           exact fun w hs => ⟨[.int .i64 0], ⟨rfl, trivial⟩, ⟨by first | (exfalso; omega) | exact vI (by unfold Hd.catS; repeat (first | rfl | rw [if_pos (by omega)] | rw [if_neg (by omega)])), hs.upd⟩⟩
theorem spec_l04Value_c (az : Option Addr) (nz : Nat) (cz : Nat) (z : List Int) (w : World) (rz : RdI az nz z w) (ha : Iso.areP z) (hn : z.length = 5) :
  Calls Try.prog 146 #[.slice az nz cz] w (Ret fun v w' => v = .int .i64 (Hd.valS z) ∧ Ext w w') := by
 have kz : Kn w none_ [] (RdI az nz z) := fun w' hs => rz.ext hs.upd
 have lz : z.length = nz := rz.1
 have mz : nz ≤ 9223372036854775807 := rz.2.1
 have hok := Hd.okP ha
 have hcb := Hd.catS_bd z
 have hkd := Hd.kick_digs z
 have hkl := Hd.kick_len hok (by omega)
 have hvb := Hd.V_le (c := 0) hkd (by decide) hkl
 refine fn (M := none_) (rs := [.tmp 2]) Try.func146 rfl Try.ntmps146 rfl rfl (Sep.start _ _) ?_
 refine hSeq ?_
 refine hReg (sq 0 sz) (by kernel_rfl) ?_
 refine asI rfl rfl rfl ?_
 refine rNil ?_
 refine qSeq rfl ?_
 refine hSeq ?_
 refine hReg (sq 0 (sl 1 (sq 2 (sq 3 (sl 4 (sl 5 (sq 6 (sq 7 sz)))))))) (by kernel_rfl) ?_
 refine mvS rfl rfl rfl ?_
 refine callP (v := .int .i64 (Hd.catS z)) Try.call160 trv rfl rfl (fun w hs => spec_l04Category_c _ nz cz _ w (kz w hs) (by assumption) (by omega)) ?_
 refine mul rfl rfl rfl rfl (by omega) ?_
 refine mvS rfl rfl rfl ?_
 refine callS Try.call162 trv1 rfl rfl (fun w hs => spec_l04Kickers_c _ nz cz _ w (kz w hs) (by assumption) (by omega)) ?_
 rintro ⟨ay1, ny1, cy1, y1⟩ hr1
 dsimp only at hr1
 subst y1
 refine rPieces (L' := [OwnI 2 ay1 ny1 cy1 (Hd.kick z)]) (fun _ h => h) ?_
 refine rKnow (fun w hs => (show OwnI 2 ay1 ny1 cy1 (Hd.kick z) w from hs.at_ 0 rfl).lenz) (fun lenn1 => ?_)
 refine rVal (v' := .slice ay1 ny1 cy1) rfl ?_
 refine callP (v := .int .i64 ((Hd.V 0 (Hd.kick z)))) Try.call161 trv rfl rfl (fun w hs => spec_l04Digits_c _ ny1 cy1 _ w (OwnI.rd (hs.at_ 0 rfl)) (by first | assumption | exact Hd.digs_nil | (unfold Hd.digs13; simp only [List.mem_cons, List.not_mem_nil, or_false, forall_eq_or_imp, forall_eq]; omega)) (by first | omega | (simp only [List.length_cons, List.length_nil]; omega))) ?_
 refine add rfl rfl rfl rfl (by omega) ?_
 refine asI rfl rfl rfl ?_
 refine rNil ?_
 refine qSeq rfl ?_
 refine hRet ?_
 exact fun w hs => ⟨[.int .i64 (((371293 * (Hd.catS z)) + (Hd.V 0 (Hd.kick z))))], ⟨rfl, trivial⟩, ⟨vI rfl, hs.upd⟩⟩
end Go.Proofs.Yteaahdakammffaa
/- Contracts of the best hands, as the model finds them. Their conditions stand in each. -/
namespace Go.Proofs.Yteaahdakammffaa
open Go Go.RowKit V
set_option linter.unusedVariables false
set_option linter.unusedSimpArgs false
set_option maxRecDepth 100000
theorem spec_l06High_c (az : Option Addr) (nz : Nat) (cz : Nat) (Hz : Nat → Hd) (z : List (List Int)) (w : World) (rz : RdR maK az nz Hz z w) (hP : ∀ y ∈ z, Iso.areP y ∧ y.length = 5) :
  Calls Try.prog 118 #[.slice az nz cz] w (Ret fun v w' => ∃ x : Int × Int, v = .tuple #[.int .i64 x.1, .int .i64 x.2] ∧ (x.2 = Hd.bestS z) ∧ Sep w none_ [] w') := by
 have kz : Kn w none_ [] (RdR maK az nz Hz z) := fun w' hs => rz.ext hs.upd
 have lz : z.length = nz := rz.1
 have mz : nz ≤ 9223372036854775807 := rz.2.1
 refine fn (M := none_) (rs := [.tmp 2, .tmp 3]) Try.func118 rfl Try.ntmps118 rfl rfl (Sep.start _ _) ?_
 refine hSeq ?_
 refine hReg (sq 0 (sq 1 sz)) (by kernel_rfl) ?_
 refine asI rfl rfl rfl ?_
 refine asI rfl rfl rfl ?_
 refine rNil ?_
 refine qSeq rfl ?_
 refine hSeq ?_
 refine hReg (sq 0 (sq 1 sz)) (by kernel_rfl) ?_
 refine asI rfl rfl rfl ?_
 refine asI rfl rfl rfl ?_
 refine rNil ?_
 refine qSeq rfl ?_
 refine hSeq ?_
 refine hSeq ?_
 refine hReg (sq 0 sz) (by kernel_rfl) ?_
 refine asI rfl rfl rfl ?_
 refine rNil ?_
 refine qSeq rfl ?_
 refine hBlk ?_
 refine hLoop (α := Nat × Int) (fun x => x.1 ≤ nz ∧ (0 ≤ x.2 ∧ x.2 ≤ x.1)) (fun x => nz - x.1) (fun x => []) (fun x => [(0, .slice az nz cz), (4, .int .i64 x.2), (5, .int .i64 ((Hd.bestS (z.take x.1)))), (6, .int .i64 (x.1 : Int))]) (0, 0) ⟨Nat.zero_le _, by decide, by decide⟩ (fun _ h => h.pick []) ⟨rfl, rfl, rfl, rfl, trivial⟩ ?_
 rintro ⟨i, b⟩ τ1 ⟨hi, hb0, hbi⟩
 dsimp only at hi hb0 hbi
 refine hRe [(0, .slice az nz cz), (4, .int .i64 b), (5, .int .i64 ((Hd.bestS (z.take i)))), (6, .int .i64 (i : Int))] [] rfl rfl ?_
 refine hSeq ?_
 refine hSeq ?_
 refine hReg (sq 0 (sq 1 (sq 2 (sq 3 sz)))) (by kernel_rfl) ?_
 refine mvI rfl rfl rfl ?_
 refine mvS rfl rfl rfl ?_
 refine lenS Try.runUnderlying22 rfl rfl rfl ?_
 refine lss rfl rfl rfl rfl ?_
 refine rNil ?_
 refine qSeq rfl ?_
 refine hIfD rfl (fun c1 => ?_) (fun c1 => ?_)
 ·
  replace c1 : (i : Int) < (nz : Int) := c1
  have hiz : i < z.length := by omega
  have hyi := hP _ (Cm.getD_mem' (d := []) hiz)
  have hy1 := hyi.1
  have hy2 := hyi.2
  have hst := Hd.bestS_take hiz
  have hbb := Hd.bestS_bd hP i
  have hvb := Hd.valS_bd hy1 hy2
  refine hSkip ?_
  refine qSeq rfl ?_
  refine hSeq ?_
  refine hBlk ?_
  refine hSeq ?_
  refine hReg (sq 0 (sq 1 (sq 2 (sl 3 (sl 4 (sq 5 sz)))))) (by kernel_rfl) ?_
  refine mvS rfl rfl rfl ?_
  refine mvI rfl rfl rfl ?_
  refine ixRl (zn := i) (z.getD i []) el22 (kz) rfl rfl rfl rfl (by omega) (by omega) rfl (nth [] (by omega)) ?_
  intro be1 oe1 e1
  refine ldl Try.isAgg23 (Kn.fld e1 0 rfl) trv rfl rfl rfl ?_
  refine callP (v := .int .i64 ((Hd.valS (z.getD i [])))) Try.call146 trv rfl rfl (fun w hs => spec_l04Value_c _ ((z.getD i []).length) ((Hz i).2) _ w ((Kn.imp kz fun _ h => h.kidM (nth [] (by omega))) w hs) (by assumption) (by omega)) ?_
  refine asI rfl rfl rfl ?_
  refine rNil ?_
  refine qSeq rfl ?_
  refine hSeq ?_
  refine hReg (sq 0 (sq 1 (sq 2 sz))) (by kernel_rfl) ?_
  refine mvI rfl rfl rfl ?_
  refine mvI rfl rfl rfl ?_
  refine gtr rfl rfl rfl rfl ?_
  refine rNil ?_
  refine qSeq rfl ?_
  refine hIfD rfl (fun c2 => ?_) (fun c2 => ?_)
  ·
   replace c2 : (Hd.bestS (z.take i)) < (Hd.valS (z.getD i [])) := c2
   refine hReg (sq 0 (sq 1 (sq 2 (sq 3 sz)))) (by kernel_rfl) ?_
   refine mvI rfl rfl rfl ?_
   refine mvI rfl rfl rfl ?_
   refine asI rfl rfl rfl ?_
   refine asI rfl rfl rfl ?_
   refine rNil ?_
   refine qSeq rfl ?_
   refine hReg (sq 0 (sq 1 (sq 2 sz))) (by kernel_rfl) ?_
   refine mvI rfl rfl rfl ?_
   refine add rfl rfl rfl rfl (by omega) ?_
   refine asI rfl rfl rfl ?_
   refine rNil ?_
   exact qNext rfl ((i + 1, (i : Int))) (by omega) ⟨by dsimp only; omega, by dsimp only; omega, by dsimp only; omega⟩ ((by repeat first | exact trivial | refine ⟨by first | rfl | exact vI (by rw [hst, if_pos (by omega)]), ?_⟩)) (fun _ h => h.pick [])
  ·
   replace c2 : ¬ ((Hd.bestS (z.take i)) < (Hd.valS (z.getD i []))) := c2
   refine hSkip ?_
   refine qSeq rfl ?_
   refine hReg (sq 0 (sq 1 (sq 2 sz))) (by kernel_rfl) ?_
   refine mvI rfl rfl rfl ?_
   refine add rfl rfl rfl rfl (by omega) ?_
   refine asI rfl rfl rfl ?_
   refine rNil ?_
   exact qNext rfl (i + 1, b) (by omega) ⟨by dsimp only; omega, by dsimp only; omega, by dsimp only; omega⟩ ((by repeat first | exact trivial | refine ⟨by first | rfl | exact vI (by rw [hst, if_neg (by omega)]), ?_⟩)) (fun _ h => h.pick [])
 ·
  replace c1 : ¬ ((i : Int) < (nz : Int)) := c1
  have hte : z.take i = z := List.take_of_length_le (by omega)
  have hbb := Hd.bestS_bd hP i
  refine hExit rfl ?_
  refine qSeq rfl ?_
  refine hSeq ?_
  refine hReg (sq 0 (sq 1 (sq 2 (sq 3 sz)))) (by kernel_rfl) ?_
  refine mvI rfl rfl rfl ?_
  refine mvI rfl rfl rfl ?_
  refine asI rfl rfl rfl ?_
  refine asI rfl rfl rfl ?_
  refine rNil ?_
  refine qSeq rfl ?_
  refine hRet ?_
  exact fun w hs => ⟨[.int .i64 b, .int .i64 ((Hd.bestS (z.take i)))], ⟨rfl, ⟨rfl, trivial⟩⟩, ⟨(b, (Hd.bestS (z.take i))), rfl, by rw [hte], hs.pick []⟩⟩
theorem spec_l06Low_c (ho : Int) (lea : Int) (mo : Int) (bo : Int) (hi : Bool) (lo : Int) (az : Option Addr) (nz : Nat) (cz : Nat) (Hz : Nat → Hd) (z : List (List Int)) (w : World) (rz : RdR maK az nz Hz z w) (hlo : lo ≠ 3) (hP : ∀ y ∈ z, Iso.areP y ∧ y.length = 5) :
  Calls Try.prog 119 #[.agg #[.int .i64 ho, .int .i64 lea, .int .i64 mo, .int .i64 bo, .bool hi, .int .i64 lo], .slice az nz cz] w (Ret fun v w' => ∃ x : Int × Int, v = .tuple #[.int .i64 x.1, .int .i64 x.2] ∧ (x.2 = Hd.lowS z) ∧ Sep w none_ [] w') := by
 have kz : Kn w none_ [] (RdR maK az nz Hz z) := fun w' hs => rz.ext hs.upd
 have lz : z.length = nz := rz.1
 have mz : nz ≤ 9223372036854775807 := rz.2.1
 refine fn (M := none_) (rs := [.tmp 4, .tmp 5]) Try.func119 rfl Try.ntmps119 rfl rfl (Sep.start _ _) ?_
 refine hSeq ?_
 refine hReg (sl 0 (sq 1 (sq 2 sz))) (by kernel_rfl) ?_
 refine box trv1 rfl rfl rfl rfl (fun bkb1 hbkb1 => ?_)
 refine asI rfl rfl rfl ?_
 refine asI rfl rfl rfl ?_
 refine rNil ?_
 refine qSeq rfl ?_
 refine hSeq ?_
 refine hReg (sq 0 (sq 1 sz)) (by kernel_rfl) ?_
 refine asI rfl rfl rfl ?_
 refine asI rfl rfl rfl ?_
 refine rNil ?_
 refine qSeq rfl ?_
 refine hSeq ?_
 refine hSeq ?_
 refine hReg (sq 0 sz) (by kernel_rfl) ?_
 refine asI rfl rfl rfl ?_
 refine rNil ?_
 refine qSeq rfl ?_
 refine hBlk ?_
 refine hLoop (α := Nat × Int) (fun x => x.1 ≤ nz ∧ (0 ≤ x.2 ∧ x.2 ≤ x.1)) (fun x => nz - x.1) (fun x => [blk bkb1 109 [.int .i64 ho, .int .i64 lea, .int .i64 mo, .int .i64 bo, .bool hi, .int .i64 lo]]) (fun x => [(1, .slice az nz cz), (2, .pointer (some ⟨bkb1, 0, none⟩)), (6, .int .i64 x.2), (7, .int .i64 ((Hd.lowS (z.take x.1)))), (8, .int .i64 (x.1 : Int))]) (0, 0) ⟨Nat.zero_le _, by decide, by decide⟩ (fun _ h => h.pick [0]) ⟨rfl, rfl, rfl, rfl, rfl, trivial⟩ ?_
 rintro ⟨i, b⟩ τ1 ⟨hi1, hb0, hbi⟩
 dsimp only at hi1 hb0 hbi
 refine hRe [(1, .slice az nz cz), (2, .pointer (some ⟨bkb1, 0, none⟩)), (6, .int .i64 b), (7, .int .i64 ((Hd.lowS (z.take i)))), (8, .int .i64 (i : Int))] [blk bkb1 109 [.int .i64 ho, .int .i64 lea, .int .i64 mo, .int .i64 bo, .bool hi, .int .i64 lo]] rfl rfl ?_
 refine hSeq ?_
 refine hSeq ?_
 refine hReg (sq 0 (sq 1 (sq 2 (sq 3 sz)))) (by kernel_rfl) ?_
 refine mvI rfl rfl rfl ?_
 refine mvS rfl rfl rfl ?_
 refine lenS Try.runUnderlying22 rfl rfl rfl ?_
 refine lss rfl rfl rfl rfl ?_
 refine rNil ?_
 refine qSeq rfl ?_
 refine hIfD rfl (fun c1 => ?_) (fun c1 => ?_)
 ·
  replace c1 : (i : Int) < (nz : Int) := c1
  have hiz : i < z.length := by omega
  have hyi := hP _ (Cm.getD_mem' (d := []) hiz)
  have hy1 := hyi.1
  have hy2 := hyi.2
  have hst := Hd.lowS_take hiz
  have hbb := Hd.lowS_bd (fun y hy => (hP y hy).2) i
  have hvb := Hd.aceS_bd hy2
  refine hSkip ?_
  refine qSeq rfl ?_
  refine hSeq ?_
  refine hBlk ?_
  refine hSeq ?_
  refine hReg (sq 0 (sq 1 (sq 2 (sl 3 (sl 4 (sq 5 sz)))))) (by kernel_rfl) ?_
  refine mvS rfl rfl rfl ?_
  refine mvI rfl rfl rfl ?_
  refine ixRl (zn := i) (z.getD i []) el22 (Kn.drop (k := 1) kz) rfl rfl rfl rfl (by omega) (by omega) rfl (nth [] (by omega)) ?_
  intro be1 oe1 e1
  refine ldl Try.isAgg23 (Kn.fld e1 0 rfl) trv rfl rfl rfl ?_
  refine callP (v := .int .i64 ((Hd.aceS (z.getD i [])))) Try.call147 trv rfl rfl (fun w hs => spec_l05Ace_c _ ((z.getD i []).length) ((Hz i).2) _ w (Kn.drop (k := 1) ((Kn.imp kz fun _ h => h.kidM (nth [] (by omega)))) w hs) (by assumption) (by omega)) ?_
  refine asI rfl rfl rfl ?_
  refine rNil ?_
  refine qSeq rfl ?_
  refine hSeq ?_
  refine hSeq ?_
  refine hReg (sq 0 (sl 1 (sq 2 sz))) (by kernel_rfl) ?_
  refine fld fl109_5 rfl rfl rfl ?_
  refine ldl Try.isAgg2 (cB 0 rfl rfl) trv rfl rfl rfl ?_
  refine eql rfl rfl rfl rfl ?_
  refine rNil ?_
  refine qSeq rfl ?_
  refine hIfD rfl (fun c2 => ?_) (fun c2 => ?_)
  ·
   replace c2 : lo = 3 := c2
   exact absurd c2 hlo
  ·
   replace c2 : ¬ (lo = 3) := c2
   refine hSkip ?_
   refine qSeq rfl ?_
   refine hSeq ?_
   refine hReg (sq 0 (sq 1 (sq 2 (sq 3 (sq 4 (sq 5 (sq 6 sz))))))) (by kernel_rfl) ?_
   refine mvI rfl rfl rfl ?_
   refine lss rfl rfl rfl rfl ?_
   refine mvB rfl rfl rfl ?_
   refine rBoolD (d := 31) rfl (fun g3 => ?_) (fun g3 => ?_)
   ·
    replace g3 : (Hd.lowS (z.take i)) < 0 := g3
    refine rSkipQ rfl rfl ?_
    refine rSkipQ rfl rfl ?_
    refine rSkipQ rfl rfl ?_
    refine pickB rfl rfl rfl rfl ?_
    refine rNil ?_
    refine qSeq rfl ?_
    refine hIfT rfl ?_
    refine hReg (sq 0 (sq 1 (sq 2 (sq 3 sz)))) (by kernel_rfl) ?_
    refine mvI rfl rfl rfl ?_
    refine mvI rfl rfl rfl ?_
    refine asI rfl rfl rfl ?_
    refine asI rfl rfl rfl ?_
    refine rNil ?_
    refine qSeq rfl ?_
    refine hReg (sq 0 (sq 1 (sq 2 sz))) (by kernel_rfl) ?_
    refine mvI rfl rfl rfl ?_
    refine add rfl rfl rfl rfl (by omega) ?_
    refine asI rfl rfl rfl ?_
    refine rNil ?_
    exact qNext rfl ((i + 1, (i : Int))) (by omega) ⟨by dsimp only; omega, by dsimp only; omega, by dsimp only; omega⟩ ((by repeat first | exact trivial | refine ⟨by first | rfl | exact vI (by rw [hst]; first | rw [if_pos (by omega)] | rw [if_neg (by omega)]), ?_⟩)) (fun _ h => h.pick [0])
   ·
    replace g3 : ¬ ((Hd.lowS (z.take i)) < 0) := g3
    refine mvI rfl rfl rfl ?_
    refine mvI rfl rfl rfl ?_
    refine lss rfl rfl rfl rfl ?_
    refine pickB rfl rfl rfl rfl ?_
    refine rNil ?_
    refine qSeq rfl ?_
    refine hIfD rfl (fun c4 => ?_) (fun c4 => ?_)
    ·
     replace c4 : (Hd.aceS (z.getD i [])) < (Hd.lowS (z.take i)) := c4
     refine hReg (sq 0 (sq 1 (sq 2 (sq 3 sz)))) (by kernel_rfl) ?_
     refine mvI rfl rfl rfl ?_
     refine mvI rfl rfl rfl ?_
     refine asI rfl rfl rfl ?_
     refine asI rfl rfl rfl ?_
     refine rNil ?_
     refine qSeq rfl ?_
     refine hReg (sq 0 (sq 1 (sq 2 sz))) (by kernel_rfl) ?_
     refine mvI rfl rfl rfl ?_
     refine add rfl rfl rfl rfl (by omega) ?_
     refine asI rfl rfl rfl ?_
     refine rNil ?_
     exact qNext rfl ((i + 1, (i : Int))) (by omega) ⟨by dsimp only; omega, by dsimp only; omega, by dsimp only; omega⟩ ((by repeat first | exact trivial | refine ⟨by first | rfl | exact vI (by rw [hst]; first | rw [if_pos (by omega)] | rw [if_neg (by omega)]), ?_⟩)) (fun _ h => h.pick [0])
    ·
     replace c4 : ¬ ((Hd.aceS (z.getD i [])) < (Hd.lowS (z.take i))) := c4
     refine hSkip ?_
     refine qSeq rfl ?_
     refine hReg (sq 0 (sq 1 (sq 2 sz))) (by kernel_rfl) ?_
     refine mvI rfl rfl rfl ?_
     refine add rfl rfl rfl rfl (by omega) ?_
     refine asI rfl rfl rfl ?_
     refine rNil ?_
     exact qNext rfl (i + 1, b) (by omega) ⟨by dsimp only; omega, by dsimp only; omega, by dsimp only; omega⟩ ((by repeat first | exact trivial | refine ⟨by first | rfl | exact vI (by rw [hst]; first | rw [if_pos (by omega)] | rw [if_neg (by omega)]), ?_⟩)) (fun _ h => h.pick [0])
 ·
  replace c1 : ¬ ((i : Int) < (nz : Int)) := c1
  have hte : z.take i = z := List.take_of_length_le (by omega)
  have hbb := Hd.lowS_bd (fun y hy => (hP y hy).2) i
  refine hExit rfl ?_
  refine qSeq rfl ?_
  refine hSeq ?_
  refine hReg (sq 0 (sq 1 (sq 2 (sq 3 sz)))) (by kernel_rfl) ?_
  refine mvI rfl rfl rfl ?_
  refine mvI rfl rfl rfl ?_
  refine asI rfl rfl rfl ?_
  refine asI rfl rfl rfl ?_
  refine rNil ?_
  refine qSeq rfl ?_
  refine hRet ?_
  exact fun w hs => ⟨[.int .i64 b, .int .i64 ((Hd.lowS (z.take i)))], ⟨rfl, ⟨rfl, trivial⟩⟩, ⟨(b, (Hd.lowS (z.take i))), rfl, by rw [hte], hs.pick []⟩⟩
end Go.Proofs.Yteaahdakammffaa
