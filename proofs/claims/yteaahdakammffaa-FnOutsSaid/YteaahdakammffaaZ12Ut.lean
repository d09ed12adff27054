/- Contracts of counts, as the model makes them. Their conditions stand in each. -/
import Derived.Test.YteaahdakammffaaZ11Ut
import Derived.Test.YteaahdakammffaaZ1Ut
import Derived.Test.YteaahdakammffaaZ2Ut
import Derived.Test.YteaahdakammffaaZ3Ut
import Derived.Test.YteaahdakammffaaZ4Ut
import Derived.Test.YteaahdakammffaaZ6Ut
import Derived.Test.YteaahdakammffaaZ10Ut
import Derived.Test.YteaahdakammffaaRows
namespace Go.Proofs.Yteaahdakammffaa
open Go Go.RowKit V
set_option linter.unusedVariables false
set_option linter.unusedSimpArgs false
set_option maxRecDepth 100000
theorem spec_l05Rank_c (x : Int) (w : World) (hx : 0 ≤ x ∧ x ≤ 51) :
  Calls Try.prog 181 #[.int .i64 x] w (Ret fun v w' => v = .int .i64 (Hd.lrk x) ∧ Ext w w') := by
 refine fn (M := none_) (rs := [.tmp 2]) Try.func181 rfl Try.ntmps181 rfl rfl (Sep.start _ _) ?_
 refine hSeq ?_
 refine hReg (sq 0 sz) (by kernel_rfl) ?_
 refine asI rfl rfl rfl ?_
 refine rNil ?_
 refine qSeq rfl ?_
 refine hSeq ?_
 refine hReg (sq 0 (sq 1 (sq 2 (sq 3 (sq 4 sz))))) (by kernel_rfl) ?_
 refine mvI rfl rfl rfl ?_
 refine quo rfl rfl rfl rfl (by omega) ?_
 refine add rfl rfl rfl rfl (by omega) ?_
 refine rem rfl rfl rfl rfl (by omega) ?_
 refine asI rfl rfl rfl ?_
 refine rNil ?_
 refine qSeq rfl ?_
 refine hRet ?_
 exact fun w hs => ⟨[.int .i64 (((((x / 4) + 1)) % 13))], ⟨rfl, trivial⟩, ⟨vI rfl, hs.upd⟩⟩
theorem spec_l02RankCounts_c (az : Option Addr) (nz : Nat) (cz : Nat) (z : List Int) (w : World) (rz : RdI az nz z w) (ha : Hd.okC z) (hzl : z.length ≤ 1000) :
  Calls Try.prog 166 #[.slice az nz cz] w (Ret fun v w' => ∃ x : Option Addr × Nat × Nat × List Int, v = .slice x.1 x.2.1 x.2.2.1 ∧ (x.2.2.2 = Hd.tally Hd.rk 13 z) ∧ Sep w none_ [OwnI 2 x.1 x.2.1 x.2.2.1 x.2.2.2] w') := by
 have kz : Kn w none_ [] (RdI az nz z) := fun w' hs => rz.ext hs.upd
 have lz : z.length = nz := rz.1
 have mz : nz ≤ 9223372036854775807 := rz.2.1
 refine fn (M := none_) (rs := [.tmp 2]) Try.func166 rfl Try.ntmps166 rfl rfl (Sep.start _ _) ?_
 refine hSeq ?_
 refine hReg (sq 0 sz) (by kernel_rfl) ?_
 refine asS rfl rfl rfl ?_
 refine rNil ?_
 refine qSeq rfl ?_
 refine hSeq ?_
 refine hReg (sl 0 (sq 1 sz)) (by kernel_rfl) ?_
 refine mksI 13 mk23 trv1 rfl rfl rfl rfl (rfl) (by omega) (fun bkm1 hbkm1 => ?_)
 refine asS rfl rfl rfl ?_
 refine rNil ?_
 refine qSeq rfl ?_
 refine hSeq ?_
 refine hSeq ?_
 refine hReg (sq 0 sz) (by kernel_rfl) ?_
 refine asI rfl rfl rfl ?_
 refine rNil ?_
 refine qSeq rfl ?_
 refine hBlk ?_
 refine hLoop (α := Nat) (fun i => i ≤ nz) (fun i => nz - i) (fun i => [OwnI 2 (some ⟨bkm1, 0, none⟩) 13 13 ((Hd.tally Hd.rk 13 (z.take i)))]) (fun i => [(0, .slice az nz cz), (3, .slice (some ⟨bkm1, 0, none⟩) 13 13), (4, .int .i64 (i : Int))]) 0 (Nat.zero_le _) (fun _ h => by rw [List.take_zero, Hd.tally_nil]; exact h.pick [0]) ⟨rfl, rfl, rfl, trivial⟩ ?_
 rintro i τ1 hi
 refine hSeq ?_
 refine hSeq ?_
 refine hReg (sq 0 (sq 1 (sq 2 (sq 3 sz)))) (by kernel_rfl) ?_
 refine mvI rfl rfl rfl ?_
 refine mvS rfl rfl rfl ?_
 refine lenS Try.runUnderlying23 rfl rfl rfl ?_
 refine lss rfl rfl rfl rfl ?_
 refine rNil ?_
 refine qSeq rfl ?_
 refine hIfD rfl (fun c1 => ?_) (fun c1 => ?_)
 ·
  replace c1 : (i : Int) < (nz : Int) := c1
  have hiz : i < z.length := by omega
  have hx := ha _ (Math.getD_mem 0 hiz)
  have hlb := Hd.lrk_bd (z.getD i 0)
  have hb1 := Hd.tally_bd (f := Hd.rk) (n := 13) (z := z.take i) (r := ((z.getD i 0) / 4).toNat) (by omega)
  rw [List.length_take] at hb1
  have htl := Hd.tally_len Hd.rk 13 (z.take i)
  refine hSkip ?_
  refine qSeq rfl ?_
  refine hSeq ?_
  refine hBlk ?_
  refine hReg (sq 0 (sq 1 (sq 2 (sq 3 (sl 4 (sq 5 (sq 6 (sl 7 (sq 8 (sq 9 (sl 10 sz))))))))))) (by kernel_rfl) ?_
  refine mvS rfl rfl rfl ?_
  refine mvS rfl rfl rfl ?_
  refine mvI rfl rfl rfl ?_
  refine ixIl (zn := i) el23 (Kn.drop (k := 1) kz) rfl rfl rfl rfl (by omega) (by omega) rfl ?_
  intro ae1 e1
  refine ldl Try.isAgg2 (e1) trv rfl rfl rfl ?_
  refine quo rfl rfl rfl rfl (by omega) ?_
  refine ixIl (zn := (((z.getD i 0) / 4)).toNat) el23 ((Kn.at_ 0 rfl).imp fun _ h => OwnI.rd h) rfl rfl rfl rfl (by omega) (by omega) rfl ?_
  intro ae2 e2
  refine ldl Try.isAgg2 (e2) trv rfl rfl rfl ?_
  refine add rfl rfl rfl rfl (by omega) ?_
  refine oxI (zn := (((z.getD i 0) / 4)).toNat) 0 rfl el23 rfl rfl rfl rfl (by omega) (by omega) rfl ?_
  intro gk3 hgk3
  refine stoI (off := (((z.getD i 0) / 4)).toNat) (x := ((((Hd.tally Hd.rk 13 (z.take i))).getD ((((z.getD i 0) / 4)).toNat) 0) + 1)) 0 rfl hgk3 Try.sizeOf2 trv rfl rfl rfl rfl (by omega) ?_
  refine rNil ?_
  refine qSeq rfl ?_
  refine hReg (sq 0 (sq 1 (sq 2 sz))) (by kernel_rfl) ?_
  refine mvI rfl rfl rfl ?_
  refine add rfl rfl rfl rfl (by omega) ?_
  refine asI rfl rfl rfl ?_
  refine rNil ?_
  rw [show (Hd.tally Hd.rk 13 (z.take i)).set ((z.getD i 0) / 4).toNat ((Hd.tally Hd.rk 13 (z.take i)).getD ((z.getD i 0) / 4).toNat 0 + 1) = Hd.tally Hd.rk 13 (z.take (i + 1)) from Hd.tally_take (f := Hd.rk) hiz (by simp only [Hd.rk]; omega)]
  exact qNext rfl (i + 1) (by omega) (by omega) ⟨rfl, rfl, rfl, trivial⟩ (fun _ h => h.pick [0])
 ·
  replace c1 : ¬ ((i : Int) < (nz : Int)) := c1
  rw [List.take_of_length_le (show z.length ≤ i by omega)]
  refine hExit rfl ?_
  refine qSeq rfl ?_
  refine hSeq ?_
  refine hReg (sq 0 (sq 1 sz)) (by kernel_rfl) ?_
  refine mvS rfl rfl rfl ?_
  refine asS rfl rfl rfl ?_
  refine rNil ?_
  refine qSeq rfl ?_
  refine hRet ?_
  exact fun w hs => ⟨[.slice (some ⟨bkm1, 0, none⟩) 13 13], ⟨rfl, trivial⟩, ⟨((some ⟨bkm1, 0, none⟩), 13, 13, Hd.tally Hd.rk 13 z), rfl, rfl, hs.pick [0]⟩⟩
theorem spec_l02SuitCounts_c (az : Option Addr) (nz : Nat) (cz : Nat) (z : List Int) (w : World) (rz : RdI az nz z w) (ha : Hd.okC z) (hzl : z.length ≤ 1000) :
  Calls Try.prog 168 #[.slice az nz cz] w (Ret fun v w' => ∃ x : Option Addr × Nat × Nat × List Int, v = .slice x.1 x.2.1 x.2.2.1 ∧ (x.2.2.2 = Hd.tally Hd.su 4 z) ∧ Sep w none_ [OwnI 2 x.1 x.2.1 x.2.2.1 x.2.2.2] w') := by
 have kz : Kn w none_ [] (RdI az nz z) := fun w' hs => rz.ext hs.upd
 have lz : z.length = nz := rz.1
 have mz : nz ≤ 9223372036854775807 := rz.2.1
 refine fn (M := none_) (rs := [.tmp 2]) Try.func168 rfl Try.ntmps168 rfl rfl (Sep.start _ _) ?_
 refine hSeq ?_
 refine hReg (sq 0 sz) (by kernel_rfl) ?_
 refine asS rfl rfl rfl ?_
 refine rNil ?_
 refine qSeq rfl ?_
 refine hSeq ?_
 refine hReg (sl 0 (sq 1 sz)) (by kernel_rfl) ?_
 refine mksI 4 mk23 trv1 rfl rfl rfl rfl (rfl) (by omega) (fun bkm1 hbkm1 => ?_)
 refine asS rfl rfl rfl ?_
 refine rNil ?_
 refine qSeq rfl ?_
 refine hSeq ?_
 refine hSeq ?_
 refine hReg (sq 0 sz) (by kernel_rfl) ?_
 refine asI rfl rfl rfl ?_
 refine rNil ?_
 refine qSeq rfl ?_
 refine hBlk ?_
 refine hLoop (α := Nat) (fun i => i ≤ nz) (fun i => nz - i) (fun i => [OwnI 2 (some ⟨bkm1, 0, none⟩) 4 4 ((Hd.tally Hd.su 4 (z.take i)))]) (fun i => [(0, .slice az nz cz), (3, .slice (some ⟨bkm1, 0, none⟩) 4 4), (4, .int .i64 (i : Int))]) 0 (Nat.zero_le _) (fun _ h => by rw [List.take_zero, Hd.tally_nil]; exact h.pick [0]) ⟨rfl, rfl, rfl, trivial⟩ ?_
 rintro i τ1 hi
 refine hSeq ?_
 refine hSeq ?_
 refine hReg (sq 0 (sq 1 (sq 2 (sq 3 sz)))) (by kernel_rfl) ?_
 refine mvI rfl rfl rfl ?_
 refine mvS rfl rfl rfl ?_
 refine lenS Try.runUnderlying23 rfl rfl rfl ?_
 refine lss rfl rfl rfl rfl ?_
 refine rNil ?_
 refine qSeq rfl ?_
 refine hIfD rfl (fun c1 => ?_) (fun c1 => ?_)
 ·
  replace c1 : (i : Int) < (nz : Int) := c1
  have hiz : i < z.length := by omega
  have hx := ha _ (Math.getD_mem 0 hiz)
  have hlb := Hd.lrk_bd (z.getD i 0)
  have hb1 := Hd.tally_bd (f := Hd.su) (n := 4) (z := z.take i) (r := ((z.getD i 0) % 4).toNat) (by omega)
  rw [List.length_take] at hb1
  have htl := Hd.tally_len Hd.su 4 (z.take i)
  refine hSkip ?_
  refine qSeq rfl ?_
  refine hSeq ?_
  refine hBlk ?_
  refine hReg (sq 0 (sq 1 (sq 2 (sq 3 (sl 4 (sq 5 (sq 6 (sl 7 (sq 8 (sq 9 (sl 10 sz))))))))))) (by kernel_rfl) ?_
  refine mvS rfl rfl rfl ?_
  refine mvS rfl rfl rfl ?_
  refine mvI rfl rfl rfl ?_
  refine ixIl (zn := i) el23 (Kn.drop (k := 1) kz) rfl rfl rfl rfl (by omega) (by omega) rfl ?_
  intro ae1 e1
  refine ldl Try.isAgg2 (e1) trv rfl rfl rfl ?_
  refine rem rfl rfl rfl rfl (by omega) ?_
  refine ixIl (zn := (((z.getD i 0) % 4)).toNat) el23 ((Kn.at_ 0 rfl).imp fun _ h => OwnI.rd h) rfl rfl rfl rfl (by omega) (by omega) rfl ?_
  intro ae2 e2
  refine ldl Try.isAgg2 (e2) trv rfl rfl rfl ?_
  refine add rfl rfl rfl rfl (by omega) ?_
  refine oxI (zn := (((z.getD i 0) % 4)).toNat) 0 rfl el23 rfl rfl rfl rfl (by omega) (by omega) rfl ?_
  intro gk3 hgk3
  refine stoI (off := (((z.getD i 0) % 4)).toNat) (x := ((((Hd.tally Hd.su 4 (z.take i))).getD ((((z.getD i 0) % 4)).toNat) 0) + 1)) 0 rfl hgk3 Try.sizeOf2 trv rfl rfl rfl rfl (by omega) ?_
  refine rNil ?_
  refine qSeq rfl ?_
  refine hReg (sq 0 (sq 1 (sq 2 sz))) (by kernel_rfl) ?_
  refine mvI rfl rfl rfl ?_
  refine add rfl rfl rfl rfl (by omega) ?_
  refine asI rfl rfl rfl ?_
  refine rNil ?_
  rw [show (Hd.tally Hd.su 4 (z.take i)).set ((z.getD i 0) % 4).toNat ((Hd.tally Hd.su 4 (z.take i)).getD ((z.getD i 0) % 4).toNat 0 + 1) = Hd.tally Hd.su 4 (z.take (i + 1)) from Hd.tally_take (f := Hd.su) hiz (by simp only [Hd.su]; omega)]
  exact qNext rfl (i + 1) (by omega) (by omega) ⟨rfl, rfl, rfl, trivial⟩ (fun _ h => h.pick [0])
 ·
  replace c1 : ¬ ((i : Int) < (nz : Int)) := c1
  rw [List.take_of_length_le (show z.length ≤ i by omega)]
  refine hExit rfl ?_
  refine qSeq rfl ?_
  refine hSeq ?_
  refine hReg (sq 0 (sq 1 sz)) (by kernel_rfl) ?_
  refine mvS rfl rfl rfl ?_
  refine asS rfl rfl rfl ?_
  refine rNil ?_
  refine qSeq rfl ?_
  refine hRet ?_
  exact fun w hs => ⟨[.slice (some ⟨bkm1, 0, none⟩) 4 4], ⟨rfl, trivial⟩, ⟨((some ⟨bkm1, 0, none⟩), 4, 4, Hd.tally Hd.su 4 z), rfl, rfl, hs.pick [0]⟩⟩
theorem spec_l05Counts_c (az : Option Addr) (nz : Nat) (cz : Nat) (z : List Int) (w : World) (rz : RdI az nz z w) (ha : Hd.okC z) (hzl : z.length ≤ 1000) :
  Calls Try.prog 163 #[.slice az nz cz] w (Ret fun v w' => ∃ x : Option Addr × Nat × Nat × List Int, v = .slice x.1 x.2.1 x.2.2.1 ∧ (x.2.2.2 = Hd.tally Hd.lrk 13 z) ∧ Sep w none_ [OwnI 2 x.1 x.2.1 x.2.2.1 x.2.2.2] w') := by
 have kz : Kn w none_ [] (RdI az nz z) := fun w' hs => rz.ext hs.upd
 have lz : z.length = nz := rz.1
 have mz : nz ≤ 9223372036854775807 := rz.2.1
 refine fn (M := none_) (rs := [.tmp 2]) Try.func163 rfl Try.ntmps163 rfl rfl (Sep.start _ _) ?_
 refine hSeq ?_
 refine hReg (sq 0 sz) (by kernel_rfl) ?_
 refine asS rfl rfl rfl ?_
 refine rNil ?_
 refine qSeq rfl ?_
 refine hSeq ?_
 refine hReg (sl 0 (sq 1 sz)) (by kernel_rfl) ?_
 refine mksI 13 mk23 trv1 rfl rfl rfl rfl (rfl) (by omega) (fun bkm1 hbkm1 => ?_)
 refine asS rfl rfl rfl ?_
 refine rNil ?_
 refine qSeq rfl ?_
 refine hSeq ?_
 refine hSeq ?_
 refine hReg (sq 0 sz) (by kernel_rfl) ?_
 refine asI rfl rfl rfl ?_
 refine rNil ?_
 refine qSeq rfl ?_
 refine hBlk ?_
 refine hLoop (α := Nat) (fun i => i ≤ nz) (fun i => nz - i) (fun i => [OwnI 2 (some ⟨bkm1, 0, none⟩) 13 13 ((Hd.tally Hd.lrk 13 (z.take i)))]) (fun i => [(0, .slice az nz cz), (3, .slice (some ⟨bkm1, 0, none⟩) 13 13), (4, .int .i64 (i : Int))]) 0 (Nat.zero_le _) (fun _ h => by rw [List.take_zero, Hd.tally_nil]; exact h.pick [0]) ⟨rfl, rfl, rfl, trivial⟩ ?_
 rintro i τ1 hi
 refine hSeq ?_
 refine hSeq ?_
 refine hReg (sq 0 (sq 1 (sq 2 (sq 3 sz)))) (by kernel_rfl) ?_
 refine mvI rfl rfl rfl ?_
 refine mvS rfl rfl rfl ?_
 refine lenS Try.runUnderlying23 rfl rfl rfl ?_
 refine lss rfl rfl rfl rfl ?_
 refine rNil ?_
 refine qSeq rfl ?_
 refine hIfD rfl (fun c1 => ?_) (fun c1 => ?_)
 ·
  replace c1 : (i : Int) < (nz : Int) := c1
  have hiz : i < z.length := by omega
  have hx := ha _ (Math.getD_mem 0 hiz)
  have hlb := Hd.lrk_bd (z.getD i 0)
  have hb1 := Hd.tally_bd (f := Hd.lrk) (n := 13) (z := z.take i) (r := (Hd.lrk (z.getD i 0)).toNat) (by omega)
  rw [List.length_take] at hb1
  have htl := Hd.tally_len Hd.lrk 13 (z.take i)
  refine hSkip ?_
  refine qSeq rfl ?_
  refine hSeq ?_
  refine hBlk ?_
  refine hReg (sq 0 (sq 1 (sq 2 (sq 3 (sl 4 (sl 5 (sq 6 (sl 7 (sq 8 (sq 9 (sl 10 sz))))))))))) (by kernel_rfl) ?_
  refine mvS rfl rfl rfl ?_
  refine mvS rfl rfl rfl ?_
  refine mvI rfl rfl rfl ?_
  refine ixIl (zn := i) el23 (Kn.drop (k := 1) kz) rfl rfl rfl rfl (by omega) (by omega) rfl ?_
  intro ae1 e1
  refine ldl Try.isAgg2 (e1) trv rfl rfl rfl ?_
  refine callP (v := .int .i64 ((Hd.lrk (z.getD i 0)))) Try.call181 trv rfl rfl (fun w hs => spec_l05Rank_c _ w (by omega)) ?_
  refine ixIl (zn := ((Hd.lrk (z.getD i 0))).toNat) el23 ((Kn.at_ 0 rfl).imp fun _ h => OwnI.rd h) rfl rfl rfl rfl (by omega) (by omega) rfl ?_
  intro ae2 e2
  refine ldl Try.isAgg2 (e2) trv rfl rfl rfl ?_
  refine add rfl rfl rfl rfl (by omega) ?_
  refine oxI (zn := ((Hd.lrk (z.getD i 0))).toNat) 0 rfl el23 rfl rfl rfl rfl (by omega) (by omega) rfl ?_
  intro gk3 hgk3
  refine stoI (off := ((Hd.lrk (z.getD i 0))).toNat) (x := ((((Hd.tally Hd.lrk 13 (z.take i))).getD (((Hd.lrk (z.getD i 0))).toNat) 0) + 1)) 0 rfl hgk3 Try.sizeOf2 trv rfl rfl rfl rfl (by omega) ?_
  refine rNil ?_
  refine qSeq rfl ?_
  refine hReg (sq 0 (sq 1 (sq 2 sz))) (by kernel_rfl) ?_
  refine mvI rfl rfl rfl ?_
  refine add rfl rfl rfl rfl (by omega) ?_
  refine asI rfl rfl rfl ?_
  refine rNil ?_
  rw [show (Hd.tally Hd.lrk 13 (z.take i)).set (Hd.lrk (z.getD i 0)).toNat ((Hd.tally Hd.lrk 13 (z.take i)).getD (Hd.lrk (z.getD i 0)).toNat 0 + 1) = Hd.tally Hd.lrk 13 (z.take (i + 1)) from Hd.tally_take (f := Hd.lrk) hiz (by omega)]
  exact qNext rfl (i + 1) (by omega) (by omega) ⟨rfl, rfl, rfl, trivial⟩ (fun _ h => h.pick [0])
 ·
  replace c1 : ¬ ((i : Int) < (nz : Int)) := c1
  rw [List.take_of_length_le (show z.length ≤ i by omega)]
  refine hExit rfl ?_
  refine qSeq rfl ?_
  refine hSeq ?_
  refine hReg (sq 0 (sq 1 sz)) (by kernel_rfl) ?_
  refine mvS rfl rfl rfl ?_
  refine asS rfl rfl rfl ?_
  refine rNil ?_
  refine qSeq rfl ?_
  refine hRet ?_
  exact fun w hs => ⟨[.slice (some ⟨bkm1, 0, none⟩) 13 13], ⟨rfl, trivial⟩, ⟨((some ⟨bkm1, 0, none⟩), 13, 13, Hd.tally Hd.lrk 13 z), rfl, rfl, hs.pick [0]⟩⟩
theorem spec_l04Digits_c (az : Option Addr) (nz : Nat) (cz : Nat) (z : List Int) (w : World) (rz : RdI az nz z w) (hz : Hd.digs13 z) (hl : z.length ≤ 5) :
  Calls Try.prog 161 #[.slice az nz cz] w (Ret fun v w' => v = .int .i64 (Hd.V 0 z) ∧ Ext w w') := by
 have kz : Kn w none_ [] (RdI az nz z) := fun w' hs => rz.ext hs.upd
 have lz : z.length = nz := rz.1
 have mz : nz ≤ 9223372036854775807 := rz.2.1
 refine fn (M := none_) (rs := [.tmp 2]) Try.func161 rfl Try.ntmps161 rfl rfl (Sep.start _ _) ?_
 refine hSeq ?_
 refine hReg (sq 0 sz) (by kernel_rfl) ?_
 refine asI rfl rfl rfl ?_
 refine rNil ?_
 refine qSeq rfl ?_
 refine hSeq ?_
 refine hReg (sq 0 sz) (by kernel_rfl) ?_
 refine asI rfl rfl rfl ?_
 refine rNil ?_
 refine qSeq rfl ?_
 refine hSeq ?_
 refine hSeq ?_
 refine hReg (sq 0 sz) (by kernel_rfl) ?_
 refine asI rfl rfl rfl ?_
 refine rNil ?_
 refine qSeq rfl ?_
 refine hBlk ?_
 refine hLoop (α := Nat × Int) (fun x => x.1 ≤ nz ∧ x.2 = Hd.V 0 (z.take x.1)) (fun x => nz - x.1) (fun x => []) (fun x => [(0, .slice az nz cz), (3, .int .i64 x.2), (4, .int .i64 (x.1 : Int))]) (0, 0) ⟨Nat.zero_le _, rfl⟩ (fun _ h => h.pick []) ⟨rfl, rfl, rfl, trivial⟩ ?_
 rintro ⟨i, v⟩ τ1 ⟨hi, hv⟩
 dsimp only at hi hv
 refine hRe [(0, .slice az nz cz), (3, .int .i64 v), (4, .int .i64 (i : Int))] [] rfl rfl ?_
 refine hSeq ?_
 refine hSeq ?_
 refine hReg (sq 0 (sq 1 (sq 2 (sq 3 sz)))) (by kernel_rfl) ?_
 refine mvI rfl rfl rfl ?_
 refine mvS rfl rfl rfl ?_
 refine lenS Try.runUnderlying23 rfl rfl rfl ?_
 refine lss rfl rfl rfl rfl ?_
 refine rNil ?_
 refine qSeq rfl ?_
 refine hIfD rfl (fun c1 => ?_) (fun c1 => ?_)
 ·
  replace c1 : (i : Int) < (nz : Int) := c1
  have hvb := Hd.V_le (c := 0) (Hd.digs_take hz i) (by decide) (by rw [List.length_take]; omega)
  have hxb := hz _ (Math.getD_mem 0 (show i < z.length by omega))
  refine hSkip ?_
  refine qSeq rfl ?_
  refine hSeq ?_
  refine hBlk ?_
  refine hReg (sq 0 (sq 1 (sq 2 (sq 3 (sq 4 (sl 5 (sq 6 (sq 7 sz)))))))) (by kernel_rfl) ?_
  refine mvI rfl rfl rfl ?_
  refine mul rfl rfl rfl rfl (by omega) ?_
  refine mvS rfl rfl rfl ?_
  refine mvI rfl rfl rfl ?_
  refine ixIl (zn := i) el23 (kz) rfl rfl rfl rfl (by omega) (by omega) rfl ?_
  intro ae1 e1
  refine ldl Try.isAgg2 (e1) trv rfl rfl rfl ?_
  refine add rfl rfl rfl rfl (by omega) ?_
  refine asI rfl rfl rfl ?_
  refine rNil ?_
  refine qSeq rfl ?_
  refine hReg (sq 0 (sq 1 (sq 2 sz))) (by kernel_rfl) ?_
  refine mvI rfl rfl rfl ?_
  refine add rfl rfl rfl rfl (by omega) ?_
  refine asI rfl rfl rfl ?_
  refine rNil ?_
  exact qNext rfl (i + 1, 13 * v + z.getD i 0) (by dsimp only; omega) ⟨by dsimp only; omega, by dsimp only; rw [Hd.V_take (by omega), hv, Int.mul_comm]⟩ ⟨rfl, rfl, rfl, trivial⟩ (fun _ h => h.pick [])
 ·
  replace c1 : ¬ ((i : Int) < (nz : Int)) := c1
  refine hExit rfl ?_
  refine qSeq rfl ?_
  refine hSeq ?_
  refine hReg (sq 0 (sq 1 sz)) (by kernel_rfl) ?_
  refine mvI rfl rfl rfl ?_
  refine asI rfl rfl rfl ?_
  refine rNil ?_
  refine qSeq rfl ?_
  refine hRet ?_
  exact fun w hs => ⟨[.int .i64 v], ⟨rfl, trivial⟩, ⟨vI (by rw [hv, List.take_of_length_le (by omega)]), hs.upd⟩⟩
end Go.Proofs.Yteaahdakammffaa
/- Contracts of ranks in order, as the model makes them. Their conditions stand in each. -/
namespace Go.Proofs.Yteaahdakammffaa
open Go Go.RowKit V
set_option linter.unusedVariables false
set_option linter.unusedSimpArgs false
set_option maxRecDepth 100000
theorem spec_l05Ordered_c (az : Option Addr) (nz : Nat) (cz : Nat) (z : List Int) (w : World) (rz : RdI az nz z w) (h13 : z.length = 13) :
  Calls Try.prog 165 #[.slice az nz cz] w (Ret fun v w' => ∃ x : Option Addr × Nat × Nat × List Int, v = .slice x.1 x.2.1 x.2.2.1 ∧ (x.2.2.2 = Hd.ord z 4 0) ∧ Sep w none_ [OwnI 2 x.1 x.2.1 x.2.2.1 x.2.2.2] w') := by
 have kz : Kn w none_ [] (RdI az nz z) := fun w' hs => rz.ext hs.upd
 have lz : z.length = nz := rz.1
 have mz : nz ≤ 9223372036854775807 := rz.2.1
 refine fn (M := none_) (rs := [.tmp 2]) Try.func165 rfl Try.ntmps165 rfl rfl (Sep.start _ _) ?_
 refine hSeq ?_
 refine hReg (sq 0 sz) (by kernel_rfl) ?_
 refine asS rfl rfl rfl ?_
 refine rNil ?_
 refine qSeq rfl ?_
 refine hSeq ?_
 refine hReg (sl 0 (sq 1 sz)) (by kernel_rfl) ?_
 refine bsl trv1 rfl rfl rfl (bsl23_0) (fun bkl1 hbkl1 => ?_)
 refine asS rfl rfl rfl ?_
 refine rNil ?_
 refine qSeq rfl ?_
 refine hSeq ?_
 refine hSeq ?_
 refine hReg (sq 0 sz) (by kernel_rfl) ?_
 refine asI rfl rfl rfl ?_
 refine rNil ?_
 refine qSeq rfl ?_
 refine hBlk ?_
 refine hPieces (fun _ h => Sep.litI h 0 [] rfl rfl rfl) ?_
 refine hLoop (α := Nat × Nat × Hd) (fun x => x.1 ≤ 4 ∧ x.2.1 ≤ 60 * x.1) (fun x => 4 - x.1) (fun x => [OwnI 2 x.2.2.1 x.2.1 x.2.2.2 (Hd.ord z x.1 0)]) (fun x => [(0, .slice az nz cz), (3, .slice x.2.2.1 x.2.1 x.2.2.2), (4, .int .i64 ((4 - (x.1 : Int))))]) ((0, 0, ((some ⟨bkl1, 0, none⟩), 0))) ⟨by dsimp only; omega, by dsimp only; omega⟩ (fun _ h => h.pick [0]) ⟨rfl, rfl, rfl, trivial⟩ ?_
 rintro ⟨s, n, hd⟩ τ1 ⟨hs, hn⟩
 dsimp only at hs hn
 refine hRe [(0, .slice az nz cz), (3, .slice hd.1 n hd.2), (4, .int .i64 ((4 - (s : Int))))] [OwnI 2 hd.1 n hd.2 (Hd.ord z s 0)] rfl rfl ?_
 refine hSeq ?_
 refine hSeq ?_
 refine hReg (sq 0 (sq 1 sz)) (by kernel_rfl) ?_
 refine mvI rfl rfl rfl ?_
 refine geq rfl rfl rfl rfl ?_
 refine rNil ?_
 refine qSeq rfl ?_
 refine hIfD rfl (fun c1 => ?_) (fun c1 => ?_)
 ·
  replace c1 : 1 ≤ (4 - (s : Int)) := c1
  refine hSkip ?_
  refine qSeq rfl ?_
  refine hSeq ?_
  refine hBlk ?_
  refine hSeq ?_
  refine hReg (sq 0 sz) (by kernel_rfl) ?_
  refine asI rfl rfl rfl ?_
  refine rNil ?_
  refine qSeq rfl ?_
  refine hBlk ?_
  refine hLoop (α := Nat × Nat × Hd) (fun x => x.1 ≤ 13 ∧ x.2.1 ≤ 60 * s + 4 * x.1) (fun x => 13 - x.1) (fun x => [OwnI 2 x.2.2.1 x.2.1 x.2.2.2 (Hd.ord z s x.1)]) (fun x => [(0, .slice az nz cz), (3, .slice x.2.2.1 x.2.1 x.2.2.2), (4, .int .i64 ((4 - (s : Int)))), (5, .int .i64 ((12 - (x.1 : Int))))]) (0, n, hd) ⟨by dsimp only; omega, by dsimp only; omega⟩ (fun _ h => h.pick [0]) ⟨rfl, rfl, rfl, rfl, trivial⟩ ?_
  rintro ⟨j, n2, hd2⟩ τ2 ⟨hj, hn2⟩
  dsimp only at hj hn2
  refine hRe [(0, .slice az nz cz), (3, .slice hd2.1 n2 hd2.2), (4, .int .i64 ((4 - (s : Int)))), (5, .int .i64 ((12 - (j : Int))))] [OwnI 2 hd2.1 n2 hd2.2 (Hd.ord z s j)] rfl rfl ?_
  refine hSeq ?_
  refine hSeq ?_
  refine hReg (sq 0 (sq 1 sz)) (by kernel_rfl) ?_
  refine mvI rfl rfl rfl ?_
  refine geq rfl rfl rfl rfl ?_
  refine rNil ?_
  refine qSeq rfl ?_
  refine hIfD rfl (fun c2 => ?_) (fun c2 => ?_)
  ·
   replace c2 : 0 ≤ (12 - (j : Int)) := c2
   refine hSkip ?_
   refine qSeq rfl ?_
   refine hSeq ?_
   refine hBlk ?_
   refine hSeq ?_
   refine hReg (sq 0 sz) (by kernel_rfl) ?_
   refine asI rfl rfl rfl ?_
   refine rNil ?_
   refine qSeq rfl ?_
   refine hBlk ?_
   refine hLoop (α := Nat × Nat × Hd) (fun x => (x.1 ≤ 4 - s ∧ (x.1 = 0 ∨ z.getD (12 - j) 0 = ((4 - s : Nat) : Int))) ∧ x.2.1 ≤ 60 * s + 4 * j + x.1) (fun x => 4 - s - x.1) (fun x => [OwnI 2 x.2.2.1 x.2.1 x.2.2.2 ((Hd.ord z s j ++ List.replicate x.1 (12 - (j : Int))))]) (fun x => [(0, .slice az nz cz), (3, .slice x.2.2.1 x.2.1 x.2.2.2), (4, .int .i64 ((4 - (s : Int)))), (5, .int .i64 ((12 - (j : Int)))), (6, .int .i64 (x.1 : Int))]) (0, n2, hd2) (⟨⟨Nat.zero_le _, Or.inl rfl⟩, by dsimp only; omega⟩) (fun _ h => by rw [List.replicate_zero, List.append_nil]; exact h.pick [0]) ⟨rfl, rfl, rfl, rfl, rfl, trivial⟩ ?_
   rintro ⟨k, n3, hd3⟩ τ3 ⟨⟨hk1, hk2⟩, hn3⟩
   dsimp only at hk1 hk2 hn3
   refine hRe [(0, .slice az nz cz), (3, .slice hd3.1 n3 hd3.2), (4, .int .i64 ((4 - (s : Int)))), (5, .int .i64 ((12 - (j : Int)))), (6, .int .i64 (k : Int))] [OwnI 2 hd3.1 n3 hd3.2 ((Hd.ord z s j ++ List.replicate k (12 - (j : Int))))] rfl rfl ?_
   refine hSeq ?_
   refine hSeq ?_
   refine hReg (sq 0 (sq 1 (sq 2 (sq 3 (sq 4 (sq 5 (sq 6 (sl 7 (sq 8 (sq 9 (sq 10 sz))))))))))) (by kernel_rfl) ?_
   refine mvI rfl rfl rfl ?_
   refine mvI rfl rfl rfl ?_
   refine lss rfl rfl rfl rfl ?_
   refine mvB rfl rfl rfl ?_
   refine rBoolD (d := 19) rfl (fun g3 => ?_) (fun g3 => ?_)
   ·
    replace g3 : (k : Int) < (4 - (s : Int)) := g3
    refine mvS rfl rfl rfl ?_
    refine mvI rfl rfl rfl ?_
    refine ixIl (zn := ((12 - (j : Int))).toNat) el23 (Kn.drop (k := 1) kz) rfl rfl rfl rfl (by omega) (by omega) rfl ?_
    intro ae1 e1
    refine ldl Try.isAgg2 (e1) trv rfl rfl rfl ?_
    refine mvI rfl rfl rfl ?_
    refine eql rfl rfl rfl rfl ?_
    refine pickB rfl rfl rfl rfl ?_
    refine rNil ?_
    refine qSeq rfl ?_
    refine hIfD rfl (fun c4 => ?_) (fun c4 => ?_)
    ·
     replace c4 : (z.getD (((12 - (j : Int))).toNat) 0) = (4 - (s : Int)) := c4
     have hcj : z.getD (12 - j) 0 = ((4 - s : Nat) : Int) := by have h0 := c4; rw [show (12 - (j : Int)).toNat = 12 - j by omega] at h0; omega
     refine hSkip ?_
     refine qSeq rfl ?_
     refine hSeq ?_
     refine hBlk ?_
     refine hReg (sq 0 (sq 1 (sl 2 (sl 3 (sq 4 sz))))) (by kernel_rfl) ?_
     refine mvS rfl rfl rfl ?_
     refine mvI rfl rfl rfl ?_
     refine bsl trv1 rfl rfl rfl (bsl23_1 (.int .i64 _) rfl) (fun bkl2 hbkl2 => ?_)
     refine aplI (N := n3) (x := (12 - (j : Int))) 1 0 rfl rfl mk23 trv1 rfl rfl rfl rfl (by omega) ?_
     intro aq2 cq2
     refine asS rfl rfl rfl ?_
     refine rNil ?_
     refine qSeq rfl ?_
     refine hReg (sq 0 (sq 1 (sq 2 sz))) (by kernel_rfl) ?_
     refine mvI rfl rfl rfl ?_
     refine add rfl rfl rfl rfl (by omega) ?_
     refine asI rfl rfl rfl ?_
     refine rNil ?_
     rw [List.append_assoc, ← List.replicate_succ']
     exact qNext rfl ((k + 1, (n3 + 1), (aq2, cq2))) (by dsimp only; omega) (⟨⟨by dsimp only; omega, Or.inr hcj⟩, by dsimp only; omega⟩) ⟨rfl, rfl, rfl, rfl, rfl, trivial⟩ (fun _ h => h.pick [1])
    ·
     replace c4 : ¬ ((z.getD (((12 - (j : Int))).toNat) 0) = (4 - (s : Int))) := c4
     have hcn : ¬ z.getD (12 - j) 0 = ((4 - s : Nat) : Int) := by have h0 := c4; rw [show (12 - (j : Int)).toNat = 12 - j by omega] at h0; omega
     refine hExit rfl ?_
     refine qSeq rfl ?_
     refine hReg (sq 0 (sq 1 (sq 2 sz))) (by kernel_rfl) ?_
     refine mvI rfl rfl rfl ?_
     refine sub rfl rfl rfl rfl (by omega) ?_
     refine asI rfl rfl rfl ?_
     refine rNil ?_
     rw [show (Hd.ord z s j ++ List.replicate k (12 - (j : Int))) = Hd.ord z s (j + 1) from by rw [show k = 0 by rcases hk2 with h | h; exact h; exact absurd h hcn, List.replicate_zero, List.append_nil, Hd.ord_no hcn]]
     exact qNext rfl ((j + 1, n3, (hd3.1, hd3.2))) (by dsimp only; omega) ⟨by dsimp only; omega, by dsimp only; omega⟩ ((by repeat first | exact trivial | refine ⟨by first | rfl | exact vI (by push_cast; omega), ?_⟩)) (fun _ h => h.pick [0])
   ·
    replace g3 : ¬ ((k : Int) < (4 - (s : Int))) := g3
    refine rSkipQ rfl rfl ?_
    refine rSkipQ rfl rfl ?_
    refine rSkipQ rfl rfl ?_
    refine rSkipL trv rfl rfl ?_
    refine rSkipQ rfl rfl ?_
    refine rSkipQ rfl rfl ?_
    refine pickB rfl rfl rfl rfl ?_
    refine rNil ?_
    refine qSeq rfl ?_
    refine hIfF rfl ?_
    refine hExit rfl ?_
    refine qSeq rfl ?_
    refine hReg (sq 0 (sq 1 (sq 2 sz))) (by kernel_rfl) ?_
    refine mvI rfl rfl rfl ?_
    refine sub rfl rfl rfl rfl (by omega) ?_
    refine asI rfl rfl rfl ?_
    refine rNil ?_
    rw [show (Hd.ord z s j ++ List.replicate k (12 - (j : Int))) = Hd.ord z s (j + 1) from by rw [show k = 4 - s by omega, ← Hd.ord_yes (by rcases hk2 with h | h; omega; exact h)]]
    exact qNext rfl ((j + 1, n3, (hd3.1, hd3.2))) (by dsimp only; omega) ⟨by dsimp only; omega, by dsimp only; omega⟩ ((by repeat first | exact trivial | refine ⟨by first | rfl | exact vI (by push_cast; omega), ?_⟩)) (fun _ h => h.pick [0])
  ·
   replace c2 : ¬ (0 ≤ (12 - (j : Int))) := c2
   refine hExit rfl ?_
   refine qSeq rfl ?_
   refine hReg (sq 0 (sq 1 (sq 2 sz))) (by kernel_rfl) ?_
   refine mvI rfl rfl rfl ?_
   refine sub rfl rfl rfl rfl (by omega) ?_
   refine asI rfl rfl rfl ?_
   refine rNil ?_
   rw [show j = 13 by omega, Hd.ord_next]
   exact qNext rfl ((s + 1, n2, (hd2.1, hd2.2))) (by dsimp only; omega) ⟨by dsimp only; omega, by dsimp only; omega⟩ ((by repeat first | exact trivial | refine ⟨by first | rfl | exact vI (by push_cast; omega), ?_⟩)) (fun _ h => h.pick [0])
 ·
  replace c1 : ¬ (1 ≤ (4 - (s : Int))) := c1
  refine hExit rfl ?_
  refine qSeq rfl ?_
  refine hSeq ?_
  refine hReg (sq 0 (sq 1 sz)) (by kernel_rfl) ?_
  refine mvS rfl rfl rfl ?_
  refine asS rfl rfl rfl ?_
  refine rNil ?_
  refine qSeq rfl ?_
  refine hRet ?_
  exact fun w hs => ⟨[.slice hd.1 n hd.2], ⟨rfl, trivial⟩, ⟨(hd.1, n, hd.2, (Hd.ord z s 0)), rfl, by rw [show s = 4 by omega], hs.pick [0]⟩⟩
end Go.Proofs.Yteaahdakammffaa
/- Contracts of straights, as the model finds them. Their conditions stand in each. -/
namespace Go.Proofs.Yteaahdakammffaa
open Go Go.RowKit V
set_option linter.unusedVariables false
set_option linter.unusedSimpArgs false
set_option maxRecDepth 100000
theorem spec_l04Straight_c (az : Option Addr) (nz : Nat) (cz : Nat) (z : List Int) (w : World) (rz : RdI az nz z w) (h13 : z.length = 13) :
  Calls Try.prog 167 #[.slice az nz cz] w (Ret fun v w' => v = .int .i64 (Hd.strS z) ∧ Ext w w') := by
 have kz : Kn w none_ [] (RdI az nz z) := fun w' hs => rz.ext hs.upd
 have lz : z.length = nz := rz.1
 have mz : nz ≤ 9223372036854775807 := rz.2.1
 refine fn (M := none_) (rs := [.tmp 2]) Try.func167 rfl Try.ntmps167 rfl rfl (Sep.start _ _) ?_
 refine hSeq ?_
 refine hReg (sq 0 sz) (by kernel_rfl) ?_
 refine asI rfl rfl rfl ?_
 refine rNil ?_
 refine qSeq rfl ?_
 refine hSeq ?_
 refine hSeq ?_
 refine hReg (sq 0 sz) (by kernel_rfl) ?_
 refine asI rfl rfl rfl ?_
 refine rNil ?_
 refine qSeq rfl ?_
 refine hBlk ?_
 refine hLoop (α := Nat) (fun k => k ≤ 9 ∧ ∀ j, j < k → Hd.sq z j = false) (fun k => 9 - k) (fun k => []) (fun k => [(0, .slice az nz cz), (3, .int .i64 ((12 - (k : Int))))]) 0 ⟨by omega, fun j h => absurd h (Nat.not_lt_zero j)⟩ (fun _ h => h.pick []) ⟨rfl, rfl, trivial⟩ ?_
 rintro k τ1 ⟨hk, hno⟩
 refine hSeq ?_
 refine hSeq ?_
 refine hReg (sq 0 (sq 1 sz)) (by kernel_rfl) ?_
 refine mvI rfl rfl rfl ?_
 refine geq rfl rfl rfl rfl ?_
 refine rNil ?_
 refine qSeq rfl ?_
 refine hIfD rfl (fun c1 => ?_) (fun c1 => ?_)
 ·
  replace c1 : 4 ≤ (12 - (k : Int)) := c1
  refine hSkip ?_
  refine qSeq rfl ?_
  refine hSeq ?_
  refine hBlk ?_
  refine hSeq ?_
  refine hReg (sq 0 (sq 1 (sq 2 (sl 3 (sq 4 (sq 5 (sq 6 (sq 7 (sq 8 (sq 9 (sl 10 (sq 11 (sq 12 (sq 13 (sq 14 (sq 15 (sq 16 (sq 17 (sl 18 (sq 19 (sq 20 (sq 21 (sq 22 (sq 23 (sq 24 (sq 25 (sl 26 (sq 27 (sq 28 (sq 29 (sq 30 (sq 31 (sq 32 (sq 33 (sl 34 (sq 35 (sq 36 sz))))))))))))))))))))))))))))))))))))) (by kernel_rfl) ?_
  refine mvS rfl rfl rfl ?_
  refine mvI rfl rfl rfl ?_
  refine ixIl (zn := ((12 - (k : Int))).toNat) el23 (kz) rfl rfl rfl rfl (by omega) (by omega) rfl ?_
  intro ae1 e1
  refine ldl Try.isAgg2 (e1) trv rfl rfl rfl ?_
  refine eql rfl rfl rfl rfl ?_
  refine mvB rfl rfl rfl ?_
  refine rBoolD (d := 13) rfl (fun g2 => ?_) (fun g2 => ?_)
  ·
   replace g2 : (z.getD (((12 - (k : Int))).toNat) 0) = 1 := g2
   refine mvS rfl rfl rfl ?_
   refine mvI rfl rfl rfl ?_
   refine sub rfl rfl rfl rfl (by omega) ?_
   refine ixIl (zn := (((12 - (k : Int)) - 1)).toNat) el23 (kz) rfl rfl rfl rfl (by omega) (by omega) rfl ?_
   intro ae2 e2
   refine ldl Try.isAgg2 (e2) trv rfl rfl rfl ?_
   refine eql rfl rfl rfl rfl ?_
   refine pickB rfl rfl rfl rfl ?_
   refine mvB rfl rfl rfl ?_
   refine rBoolD (d := 21) rfl (fun g3 => ?_) (fun g3 => ?_)
   ·
    replace g3 : (z.getD ((((12 - (k : Int)) - 1)).toNat) 0) = 1 := g3
    refine mvS rfl rfl rfl ?_
    refine mvI rfl rfl rfl ?_
    refine sub rfl rfl rfl rfl (by omega) ?_
    refine ixIl (zn := (((12 - (k : Int)) - 2)).toNat) el23 (kz) rfl rfl rfl rfl (by omega) (by omega) rfl ?_
    intro ae3 e3
    refine ldl Try.isAgg2 (e3) trv rfl rfl rfl ?_
    refine eql rfl rfl rfl rfl ?_
    refine pickB rfl rfl rfl rfl ?_
    refine mvB rfl rfl rfl ?_
    refine rBoolD (d := 29) rfl (fun g4 => ?_) (fun g4 => ?_)
    ·
     replace g4 : (z.getD ((((12 - (k : Int)) - 2)).toNat) 0) = 1 := g4
     refine mvS rfl rfl rfl ?_
     refine mvI rfl rfl rfl ?_
     refine sub rfl rfl rfl rfl (by omega) ?_
     refine ixIl (zn := (((12 - (k : Int)) - 3)).toNat) el23 (kz) rfl rfl rfl rfl (by omega) (by omega) rfl ?_
     intro ae4 e4
     refine ldl Try.isAgg2 (e4) trv rfl rfl rfl ?_
     refine eql rfl rfl rfl rfl ?_
     refine pickB rfl rfl rfl rfl ?_
     refine mvB rfl rfl rfl ?_
     refine rBoolD (d := 37) rfl (fun g5 => ?_) (fun g5 => ?_)
     ·
      replace g5 : (z.getD ((((12 - (k : Int)) - 3)).toNat) 0) = 1 := g5
      refine mvS rfl rfl rfl ?_
      refine mvI rfl rfl rfl ?_
      refine sub rfl rfl rfl rfl (by omega) ?_
      refine ixIl (zn := (((12 - (k : Int)) - 4)).toNat) el23 (kz) rfl rfl rfl rfl (by omega) (by omega) rfl ?_
      intro ae5 e5
      refine ldl Try.isAgg2 (e5) trv rfl rfl rfl ?_
      refine eql rfl rfl rfl rfl ?_
      refine pickB rfl rfl rfl rfl ?_
      refine rNil ?_
      refine qSeq rfl ?_
      refine hIfD rfl (fun c6 => ?_) (fun c6 => ?_)
      ·
       replace c6 : (z.getD ((((12 - (k : Int)) - 4)).toNat) 0) = 1 := c6
       refine hSeq ?_
       refine hReg (sq 0 (sq 1 sz)) (by kernel_rfl) ?_
       refine mvI rfl rfl rfl ?_
       refine asI rfl rfl rfl ?_
       refine rNil ?_
       refine qSeq rfl ?_
       refine hRet ?_
       exact fun w hs => ⟨[.int .i64 ((12 - (k : Int)))], ⟨rfl, trivial⟩, ⟨by first | exact vI (Hd.strS_here (by omega) (decide_eq_true (by omega)) hno).symm | exact vI (Hd.strS_low (fun j hj => hno j (by omega)) (by omega)).symm | exact vI (Hd.strS_no (fun j hj => hno j (by omega)) (by omega)).symm, hs.upd⟩⟩
      ·
       replace c6 : ¬ ((z.getD ((((12 - (k : Int)) - 4)).toNat) 0) = 1) := c6
       refine hSkip ?_
       refine qSeq rfl ?_
       refine hReg (sq 0 (sq 1 (sq 2 sz))) (by kernel_rfl) ?_
       refine mvI rfl rfl rfl ?_
       refine sub rfl rfl rfl rfl (by omega) ?_
       refine asI rfl rfl rfl ?_
       refine rNil ?_
       exact qNext rfl (k + 1) (by omega) ⟨by omega, fun j hj => by rcases (show j < k ∨ j = k by omega) with h | rfl <;> first | exact hno _ h | exact decide_eq_false (by omega)⟩ ((by repeat first | exact trivial | refine ⟨by first | rfl | exact vI (by push_cast; omega), ?_⟩)) (fun _ h => h.pick [])
     ·
      replace g5 : ¬ ((z.getD ((((12 - (k : Int)) - 3)).toNat) 0) = 1) := g5
      refine rSkipQ rfl rfl ?_
      refine rSkipQ rfl rfl ?_
      refine rSkipQ rfl rfl ?_
      refine rSkipQ rfl rfl ?_
      refine rSkipL trv rfl rfl ?_
      refine rSkipQ rfl rfl ?_
      refine pickB rfl rfl rfl rfl ?_
      refine rNil ?_
      refine qSeq rfl ?_
      refine hIfF rfl ?_
      refine hSkip ?_
      refine qSeq rfl ?_
      refine hReg (sq 0 (sq 1 (sq 2 sz))) (by kernel_rfl) ?_
      refine mvI rfl rfl rfl ?_
      refine sub rfl rfl rfl rfl (by omega) ?_
      refine asI rfl rfl rfl ?_
      refine rNil ?_
      exact qNext rfl (k + 1) (by omega) ⟨by omega, fun j hj => by rcases (show j < k ∨ j = k by omega) with h | rfl <;> first | exact hno _ h | exact decide_eq_false (by omega)⟩ ((by repeat first | exact trivial | refine ⟨by first | rfl | exact vI (by push_cast; omega), ?_⟩)) (fun _ h => h.pick [])
    ·
     replace g4 : ¬ ((z.getD ((((12 - (k : Int)) - 2)).toNat) 0) = 1) := g4
     refine rSkipQ rfl rfl ?_
     refine rSkipQ rfl rfl ?_
     refine rSkipQ rfl rfl ?_
     refine rSkipQ rfl rfl ?_
     refine rSkipL trv rfl rfl ?_
     refine rSkipQ rfl rfl ?_
     refine pickB rfl rfl rfl rfl ?_
     refine mvB rfl rfl rfl ?_
     refine rSkipQ rfl rfl ?_
     refine rSkipQ rfl rfl ?_
     refine rSkipQ rfl rfl ?_
     refine rSkipQ rfl rfl ?_
     refine rSkipL trv rfl rfl ?_
     refine rSkipQ rfl rfl ?_
     refine pickB rfl rfl rfl rfl ?_
     refine rNil ?_
     refine qSeq rfl ?_
     refine hIfF rfl ?_
     refine hSkip ?_
     refine qSeq rfl ?_
     refine hReg (sq 0 (sq 1 (sq 2 sz))) (by kernel_rfl) ?_
     refine mvI rfl rfl rfl ?_
     refine sub rfl rfl rfl rfl (by omega) ?_
     refine asI rfl rfl rfl ?_
     refine rNil ?_
     exact qNext rfl (k + 1) (by omega) ⟨by omega, fun j hj => by rcases (show j < k ∨ j = k by omega) with h | rfl <;> first | exact hno _ h | exact decide_eq_false (by omega)⟩ ((by repeat first | exact trivial | refine ⟨by first | rfl | exact vI (by push_cast; omega), ?_⟩)) (fun _ h => h.pick [])
   ·
    replace g3 : ¬ ((z.getD ((((12 - (k : Int)) - 1)).toNat) 0) = 1) := g3
    refine rSkipQ rfl rfl ?_
    refine rSkipQ rfl rfl ?_
    refine rSkipQ rfl rfl ?_
    refine rSkipQ rfl rfl ?_
    refine rSkipL trv rfl rfl ?_
    refine rSkipQ rfl rfl ?_
    refine pickB rfl rfl rfl rfl ?_
    refine mvB rfl rfl rfl ?_
    refine rSkipQ rfl rfl ?_
    refine rSkipQ rfl rfl ?_
    refine rSkipQ rfl rfl ?_
    refine rSkipQ rfl rfl ?_
    refine rSkipL trv rfl rfl ?_
    refine rSkipQ rfl rfl ?_
    refine pickB rfl rfl rfl rfl ?_
    refine mvB rfl rfl rfl ?_
    refine rSkipQ rfl rfl ?_
    refine rSkipQ rfl rfl ?_
    refine rSkipQ rfl rfl ?_
    refine rSkipQ rfl rfl ?_
    refine rSkipL trv rfl rfl ?_
    refine rSkipQ rfl rfl ?_
    refine pickB rfl rfl rfl rfl ?_
    refine rNil ?_
    refine qSeq rfl ?_
    refine hIfF rfl ?_
    refine hSkip ?_
    refine qSeq rfl ?_
    refine hReg (sq 0 (sq 1 (sq 2 sz))) (by kernel_rfl) ?_
    refine mvI rfl rfl rfl ?_
    refine sub rfl rfl rfl rfl (by omega) ?_
    refine asI rfl rfl rfl ?_
    refine rNil ?_
    exact qNext rfl (k + 1) (by omega) ⟨by omega, fun j hj => by rcases (show j < k ∨ j = k by omega) with h | rfl <;> first | exact hno _ h | exact decide_eq_false (by omega)⟩ ((by repeat first | exact trivial | refine ⟨by first | rfl | exact vI (by push_cast; omega), ?_⟩)) (fun _ h => h.pick [])
  ·
   replace g2 : ¬ ((z.getD (((12 - (k : Int))).toNat) 0) = 1) := g2
   refine rSkipQ rfl rfl ?_
   refine rSkipQ rfl rfl ?_
   refine rSkipQ rfl rfl ?_
   refine rSkipQ rfl rfl ?_
   refine rSkipL trv rfl rfl ?_
   refine rSkipQ rfl rfl ?_
   refine pickB rfl rfl rfl rfl ?_
   refine mvB rfl rfl rfl ?_
   refine rSkipQ rfl rfl ?_
   refine rSkipQ rfl rfl ?_
   refine rSkipQ rfl rfl ?_
   refine rSkipQ rfl rfl ?_
   refine rSkipL trv rfl rfl ?_
   refine rSkipQ rfl rfl ?_
   refine pickB rfl rfl rfl rfl ?_
   refine mvB rfl rfl rfl ?_
   refine rSkipQ rfl rfl ?_
   refine rSkipQ rfl rfl ?_
   refine rSkipQ rfl rfl ?_
   refine rSkipQ rfl rfl ?_
   refine rSkipL trv rfl rfl ?_
   refine rSkipQ rfl rfl ?_
   refine pickB rfl rfl rfl rfl ?_
   refine mvB rfl rfl rfl ?_
   refine rSkipQ rfl rfl ?_
   refine rSkipQ rfl rfl ?_
   refine rSkipQ rfl rfl ?_
   refine rSkipQ rfl rfl ?_
   refine rSkipL trv rfl rfl ?_
   refine rSkipQ rfl rfl ?_
   refine pickB rfl rfl rfl rfl ?_
   refine rNil ?_
   refine qSeq rfl ?_
   refine hIfF rfl ?_
   refine hSkip ?_
   refine qSeq rfl ?_
   refine hReg (sq 0 (sq 1 (sq 2 sz))) (by kernel_rfl) ?_
   refine mvI rfl rfl rfl ?_
   refine sub rfl rfl rfl rfl (by omega) ?_
   refine asI rfl rfl rfl ?_
   refine rNil ?_
   exact qNext rfl (k + 1) (by omega) ⟨by omega, fun j hj => by rcases (show j < k ∨ j = k by omega) with h | rfl <;> first | exact hno _ h | exact decide_eq_false (by omega)⟩ ((by repeat first | exact trivial | refine ⟨by first | rfl | exact vI (by push_cast; omega), ?_⟩)) (fun _ h => h.pick [])
 ·
  replace c1 : ¬ (4 ≤ (12 - (k : Int))) := c1
  refine hExit rfl ?_
  refine qSeq rfl ?_
  refine hSeq ?_
  refine hSeq ?_
  refine hReg (sq 0 (sq 1 (sl 2 (sq 3 (sq 4 (sq 5 (sq 6 (sl 7 (sq 8 (sq 9 (sq 10 (sq 11 (sq 12 (sl 13 (sq 14 (sq 15 (sq 16 (sq 17 (sq 18 (sl 19 (sq 20 (sq 21 (sq 22 (sq 23 (sq 24 (sl 25 (sq 26 (sq 27 sz)))))))))))))))))))))))))))) (by kernel_rfl) ?_
  refine mvS rfl rfl rfl ?_
  refine ixIl (zn := 0) el23 (kz) rfl rfl rfl rfl (by omega) (by omega) rfl ?_
  intro ae6 e6
  refine ldl Try.isAgg2 (e6) trv rfl rfl rfl ?_
  refine eql rfl rfl rfl rfl ?_
  refine mvB rfl rfl rfl ?_
  refine rBoolD (d := 50) rfl (fun g7 => ?_) (fun g7 => ?_)
  ·
   replace g7 : (z.getD 0 0) = 1 := g7
   refine mvS rfl rfl rfl ?_
   refine ixIl (zn := 1) el23 (kz) rfl rfl rfl rfl (by omega) (by omega) rfl ?_
   intro ae7 e7
   refine ldl Try.isAgg2 (e7) trv rfl rfl rfl ?_
   refine eql rfl rfl rfl rfl ?_
   refine pickB rfl rfl rfl rfl ?_
   refine mvB rfl rfl rfl ?_
   refine rBoolD (d := 56) rfl (fun g8 => ?_) (fun g8 => ?_)
   ·
    replace g8 : (z.getD 1 0) = 1 := g8
    refine mvS rfl rfl rfl ?_
    refine ixIl (zn := 2) el23 (kz) rfl rfl rfl rfl (by omega) (by omega) rfl ?_
    intro ae8 e8
    refine ldl Try.isAgg2 (e8) trv rfl rfl rfl ?_
    refine eql rfl rfl rfl rfl ?_
    refine pickB rfl rfl rfl rfl ?_
    refine mvB rfl rfl rfl ?_
    refine rBoolD (d := 62) rfl (fun g9 => ?_) (fun g9 => ?_)
    ·
     replace g9 : (z.getD 2 0) = 1 := g9
     refine mvS rfl rfl rfl ?_
     refine ixIl (zn := 3) el23 (kz) rfl rfl rfl rfl (by omega) (by omega) rfl ?_
     intro ae9 e9
     refine ldl Try.isAgg2 (e9) trv rfl rfl rfl ?_
     refine eql rfl rfl rfl rfl ?_
     refine pickB rfl rfl rfl rfl ?_
     refine mvB rfl rfl rfl ?_
     refine rBoolD (d := 68) rfl (fun g10 => ?_) (fun g10 => ?_)
     ·
      replace g10 : (z.getD 3 0) = 1 := g10
      refine mvS rfl rfl rfl ?_
      refine ixIl (zn := 12) el23 (kz) rfl rfl rfl rfl (by omega) (by omega) rfl ?_
      intro ae10 e10
      refine ldl Try.isAgg2 (e10) trv rfl rfl rfl ?_
      refine eql rfl rfl rfl rfl ?_
      refine pickB rfl rfl rfl rfl ?_
      refine rNil ?_
      refine qSeq rfl ?_
      refine hIfD rfl (fun c11 => ?_) (fun c11 => ?_)
      ·
       replace c11 : (z.getD 12 0) = 1 := c11
       refine hSeq ?_
       refine hReg (sq 0 sz) (by kernel_rfl) ?_
       refine asI rfl rfl rfl ?_
       refine rNil ?_
       refine qSeq rfl ?_
       refine hRet ?_
       exact fun w hs => ⟨[.int .i64 3], ⟨rfl, trivial⟩, ⟨by first | exact vI (Hd.strS_here (by omega) (decide_eq_true (by omega)) hno).symm | exact vI (Hd.strS_low (fun j hj => hno j (by omega)) (by omega)).symm | exact vI (Hd.strS_no (fun j hj => hno j (by omega)) (by omega)).symm, hs.upd⟩⟩
      ·
       replace c11 : ¬ ((z.getD 12 0) = 1) := c11
       refine hSkip ?_
       refine qSeq rfl ?_
       refine hSeq ?_
       refine hReg (sq 0 sz) (by kernel_rfl) ?_
       refine asI rfl rfl rfl ?_
       refine rNil ?_
       refine qSeq rfl ?_
       refine hRet ?_
       exact fun w hs => ⟨[.int .i64 (-1)], ⟨rfl, trivial⟩, ⟨by first | exact vI (Hd.strS_here (by omega) (decide_eq_true (by omega)) hno).symm | exact vI (Hd.strS_low (fun j hj => hno j (by omega)) (by omega)).symm | exact vI (Hd.strS_no (fun j hj => hno j (by omega)) (by omega)).symm, hs.upd⟩⟩
     ·
      replace g10 : ¬ ((z.getD 3 0) = 1) := g10
      refine rSkipQ rfl rfl ?_
      refine rSkipQ rfl rfl ?_
      refine rSkipL trv rfl rfl ?_
      refine rSkipQ rfl rfl ?_
      refine pickB rfl rfl rfl rfl ?_
      refine rNil ?_
      refine qSeq rfl ?_
      refine hIfF rfl ?_
      refine hSkip ?_
      refine qSeq rfl ?_
      refine hSeq ?_
      refine hReg (sq 0 sz) (by kernel_rfl) ?_
      refine asI rfl rfl rfl ?_
      refine rNil ?_
      refine qSeq rfl ?_
      refine hRet ?_
      exact fun w hs => ⟨[.int .i64 (-1)], ⟨rfl, trivial⟩, ⟨by first | exact vI (Hd.strS_here (by omega) (decide_eq_true (by omega)) hno).symm | exact vI (Hd.strS_low (fun j hj => hno j (by omega)) (by omega)).symm | exact vI (Hd.strS_no (fun j hj => hno j (by omega)) (by omega)).symm, hs.upd⟩⟩
    ·
     replace g9 : ¬ ((z.getD 2 0) = 1) := g9
     refine rSkipQ rfl rfl ?_
     refine rSkipQ rfl rfl ?_
     refine rSkipL trv rfl rfl ?_
     refine rSkipQ rfl rfl ?_
     refine pickB rfl rfl rfl rfl ?_
     refine mvB rfl rfl rfl ?_
     refine rSkipQ rfl rfl ?_
     refine rSkipQ rfl rfl ?_
     refine rSkipL trv rfl rfl ?_
     refine rSkipQ rfl rfl ?_
     refine pickB rfl rfl rfl rfl ?_
     refine rNil ?_
     refine qSeq rfl ?_
     refine hIfF rfl ?_
     refine hSkip ?_
     refine qSeq rfl ?_
     refine hSeq ?_
     refine hReg (sq 0 sz) (by kernel_rfl) ?_
     refine asI rfl rfl rfl ?_
     refine rNil ?_
     refine qSeq rfl ?_
     refine hRet ?_
     exact fun w hs => ⟨[.int .i64 (-1)], ⟨rfl, trivial⟩, ⟨by first | exact vI (Hd.strS_here (by omega) (decide_eq_true (by omega)) hno).symm | exact vI (Hd.strS_low (fun j hj => hno j (by omega)) (by omega)).symm | exact vI (Hd.strS_no (fun j hj => hno j (by omega)) (by omega)).symm, hs.upd⟩⟩
   ·
    replace g8 : ¬ ((z.getD 1 0) = 1) := g8
    refine rSkipQ rfl rfl ?_
    refine rSkipQ rfl rfl ?_
    refine rSkipL trv rfl rfl ?_
    refine rSkipQ rfl rfl ?_
    refine pickB rfl rfl rfl rfl ?_
    refine mvB rfl rfl rfl ?_
    refine rSkipQ rfl rfl ?_
    refine rSkipQ rfl rfl ?_
    refine rSkipL trv rfl rfl ?_
    refine rSkipQ rfl rfl ?_
    refine pickB rfl rfl rfl rfl ?_
    refine mvB rfl rfl rfl ?_
    refine rSkipQ rfl rfl ?_
    refine rSkipQ rfl rfl ?_
    refine rSkipL trv rfl rfl ?_
    refine rSkipQ rfl rfl ?_
    refine pickB rfl rfl rfl rfl ?_
    refine rNil ?_
    refine qSeq rfl ?_
    refine hIfF rfl ?_
    refine hSkip ?_
    refine qSeq rfl ?_
    refine hSeq ?_
    refine hReg (sq 0 sz) (by kernel_rfl) ?_
    refine asI rfl rfl rfl ?_
    refine rNil ?_
    refine qSeq rfl ?_
    refine hRet ?_
    exact fun w hs => ⟨[.int .i64 (-1)], ⟨rfl, trivial⟩, ⟨by first | exact vI (Hd.strS_here (by omega) (decide_eq_true (by omega)) hno).symm | exact vI (Hd.strS_low (fun j hj => hno j (by omega)) (by omega)).symm | exact vI (Hd.strS_no (fun j hj => hno j (by omega)) (by omega)).symm, hs.upd⟩⟩
  ·
   replace g7 : ¬ ((z.getD 0 0) = 1) := g7
   refine rSkipQ rfl rfl ?_
   refine rSkipQ rfl rfl ?_
   refine rSkipL trv rfl rfl ?_
   refine rSkipQ rfl rfl ?_
   refine pickB rfl rfl rfl rfl ?_
   refine mvB rfl rfl rfl ?_
   refine rSkipQ rfl rfl ?_
   refine rSkipQ rfl rfl ?_
   refine rSkipL trv rfl rfl ?_
   refine rSkipQ rfl rfl ?_
   refine pickB rfl rfl rfl rfl ?_
   refine mvB rfl rfl rfl ?_
   refine rSkipQ rfl rfl ?_
   refine rSkipQ rfl rfl ?_
   refine rSkipL trv rfl rfl ?_
   refine rSkipQ rfl rfl ?_
   refine pickB rfl rfl rfl rfl ?_
   refine mvB rfl rfl rfl ?_
   refine rSkipQ rfl rfl ?_
   refine rSkipQ rfl rfl ?_
   refine rSkipL trv rfl rfl ?_
   refine rSkipQ rfl rfl ?_
   refine pickB rfl rfl rfl rfl ?_
   refine rNil ?_
   refine qSeq rfl ?_
   refine hIfF rfl ?_
   refine hSkip ?_
   refine qSeq rfl ?_
   refine hSeq ?_
   refine hReg (sq 0 sz) (by kernel_rfl) ?_
   refine asI rfl rfl rfl ?_
   refine rNil ?_
   refine qSeq rfl ?_
   refine hRet ?_
   exact fun w hs => ⟨[.int .i64 (-1)], ⟨rfl, trivial⟩, ⟨by first | exact vI (Hd.strS_here (by omega) (decide_eq_true (by omega)) hno).symm | exact vI (Hd.strS_low (fun j hj => hno j (by omega)) (by omega)).symm | exact vI (Hd.strS_no (fun j hj => hno j (by omega)) (by omega)).symm, hs.upd⟩⟩
theorem spec_l04Kickers_c (az : Option Addr) (nz : Nat) (cz : Nat) (z : List Int) (w : World) (rz : RdI az nz z w) (ha : Hd.okC z) (hzl : z.length ≤ 1000) :
  Calls Try.prog 162 #[.slice az nz cz] w (Ret fun v w' => ∃ x : Option Addr × Nat × Nat × List Int, v = .slice x.1 x.2.1 x.2.2.1 ∧ (x.2.2.2 = Hd.kick z) ∧ Sep w none_ [OwnI 2 x.1 x.2.1 x.2.2.1 x.2.2.2] w') := by
 have kz : Kn w none_ [] (RdI az nz z) := fun w' hs => rz.ext hs.upd
 have lz : z.length = nz := rz.1
 have mz : nz ≤ 9223372036854775807 := rz.2.1
 have h13 := Hd.tally_len Hd.rk 13 z
 refine fn (M := none_) (rs := [.tmp 2]) Try.func162 rfl Try.ntmps162 rfl rfl (Sep.start _ _) ?_
 refine hSeq ?_
 refine hReg (sq 0 sz) (by kernel_rfl) ?_
 refine asS rfl rfl rfl ?_
 refine rNil ?_
 refine qSeq rfl ?_
 refine hSeq ?_
 refine hReg (sq 0 (sl 1 (sq 2 sz))) (by kernel_rfl) ?_
 refine mvS rfl rfl rfl ?_
 refine callS Try.call166 trv1 rfl rfl (fun w hs => spec_l02RankCounts_c _ nz cz _ w (kz w hs) (by assumption) (by omega)) ?_
 rintro ⟨ay1, ny1, cy1, y1⟩ hr1
 dsimp only at hr1
 subst y1
 refine rPieces (L' := [OwnI 2 ay1 ny1 cy1 (Hd.tally Hd.rk 13 z)]) (fun _ h => h) ?_
 refine rKnow (fun w hs => (show OwnI 2 ay1 ny1 cy1 (Hd.tally Hd.rk 13 z) w from hs.at_ 0 rfl).lenz) (fun lenn1 => ?_)
 refine rVal (v' := .slice ay1 ny1 cy1) rfl ?_
 refine asS rfl rfl rfl ?_
 refine rNil ?_
 refine qSeq rfl ?_
 refine hSeq ?_
 refine hSeq ?_
 refine hReg (sq 0 (sl 1 (sq 2 sz))) (by kernel_rfl) ?_
 refine mvS rfl rfl rfl ?_
 refine callP (v := .int .i64 ((Hd.strS (Hd.tally Hd.rk 13 z)))) Try.call167 trv rfl rfl (fun w hs => spec_l04Straight_c _ ny1 cy1 _ w (OwnI.rd (hs.at_ 0 rfl)) (by omega)) ?_
 refine eql rfl rfl rfl rfl ?_
 refine rNil ?_
 refine qSeq rfl ?_
 refine hIfD rfl (fun c1 => ?_) (fun c1 => ?_)
 ·
  replace c1 : (Hd.strS (Hd.tally Hd.rk 13 z)) = 3 := c1
  refine hSeq ?_
  refine hReg (sl 0 (sq 1 sz)) (by kernel_rfl) ?_
  refine bsl trv1 rfl rfl rfl (bsl23_5 (.int .i64 _) (.int .i64 _) (.int .i64 _) (.int .i64 _) (.int .i64 _) rfl rfl rfl rfl rfl) (fun bkl2 hbkl2 => ?_)
  refine asS rfl rfl rfl ?_
  refine rNil ?_
  refine qSeq rfl ?_
  refine hRet ?_
  refine knP (fun _ h => Sep.litI h 0 [3, 2, 1, 0, 12] rfl rfl rfl) ?_
  exact fun w hs => ⟨[.slice (some ⟨bkl2, 0, none⟩) 5 5], ⟨rfl, trivial⟩, ⟨((some ⟨bkl2, 0, none⟩), 5, 5, [3, 2, 1, 0, 12]), rfl, by unfold Hd.kick; rw [if_pos (by assumption)]; rfl, hs.pick [0]⟩⟩
 ·
  replace c1 : ¬ ((Hd.strS (Hd.tally Hd.rk 13 z)) = 3) := c1
  refine hSkip ?_
  refine qSeq rfl ?_
  refine hSeq ?_
  refine hReg (sl 0 (sq 1 sz)) (by kernel_rfl) ?_
  refine bsl trv1 rfl rfl rfl (bsl23_0) (fun bkl4 hbkl4 => ?_)
  refine asS rfl rfl rfl ?_
  refine rNil ?_
  refine qSeq rfl ?_
  refine hSeq ?_
  refine hSeq ?_
  refine hReg (sq 0 sz) (by kernel_rfl) ?_
  refine asI rfl rfl rfl ?_
  refine rNil ?_
  refine qSeq rfl ?_
  refine hBlk ?_
  refine hPieces (fun _ h => Sep.litI h 0 [] rfl rfl rfl) ?_
  refine hLoop (α := Nat × Nat × Hd) (fun x => x.1 ≤ 4 ∧ x.2.1 ≤ 60 * x.1) (fun x => 4 - x.1) (fun x => [OwnI 2 x.2.2.1 x.2.1 x.2.2.2 ((Hd.ord (Hd.tally Hd.rk 13 z) x.1 0)), OwnI 2 ay1 ny1 cy1 (Hd.tally Hd.rk 13 z)]) (fun x => [(3, .slice ay1 ny1 cy1), (4, .slice x.2.2.1 x.2.1 x.2.2.2), (5, .int .i64 ((4 - (x.1 : Int))))]) ((0, 0, ((some ⟨bkl4, 0, none⟩), 0))) ⟨by dsimp only; omega, by dsimp only; omega⟩ (fun _ h => h.pick [0, 0]) ⟨rfl, rfl, rfl, trivial⟩ ?_
  rintro ⟨s, n, hd⟩ τ1 ⟨hs, hn⟩
  dsimp only at hs hn
  refine hRe [(3, .slice ay1 ny1 cy1), (4, .slice hd.1 n hd.2), (5, .int .i64 ((4 - (s : Int))))] [OwnI 2 hd.1 n hd.2 ((Hd.ord (Hd.tally Hd.rk 13 z) s 0)), OwnI 2 ay1 ny1 cy1 (Hd.tally Hd.rk 13 z)] rfl rfl ?_
  refine hSeq ?_
  refine hSeq ?_
  refine hReg (sq 0 (sq 1 sz)) (by kernel_rfl) ?_
  refine mvI rfl rfl rfl ?_
  refine geq rfl rfl rfl rfl ?_
  refine rNil ?_
  refine qSeq rfl ?_
  refine hIfD rfl (fun c2 => ?_) (fun c2 => ?_)
  ·
   replace c2 : 1 ≤ (4 - (s : Int)) := c2
   refine hSkip ?_
   refine qSeq rfl ?_
   refine hSeq ?_
   refine hBlk ?_
   refine hSeq ?_
   refine hReg (sq 0 sz) (by kernel_rfl) ?_
   refine asI rfl rfl rfl ?_
   refine rNil ?_
   refine qSeq rfl ?_
   refine hBlk ?_
   refine hLoop (α := Nat × Nat × Hd) (fun x => x.1 ≤ 13 ∧ x.2.1 ≤ 60 * s + 4 * x.1) (fun x => 13 - x.1) (fun x => [OwnI 2 x.2.2.1 x.2.1 x.2.2.2 ((Hd.ord (Hd.tally Hd.rk 13 z) s x.1)), OwnI 2 ay1 ny1 cy1 (Hd.tally Hd.rk 13 z)]) (fun x => [(3, .slice ay1 ny1 cy1), (4, .slice x.2.2.1 x.2.1 x.2.2.2), (5, .int .i64 ((4 - (s : Int)))), (6, .int .i64 ((12 - (x.1 : Int))))]) (0, n, hd) ⟨by dsimp only; omega, by dsimp only; omega⟩ (fun _ h => h.pick [0, 0]) ⟨rfl, rfl, rfl, rfl, trivial⟩ ?_
   rintro ⟨j, n2, hd2⟩ τ2 ⟨hj, hn2⟩
   dsimp only at hj hn2
   refine hRe [(3, .slice ay1 ny1 cy1), (4, .slice hd2.1 n2 hd2.2), (5, .int .i64 ((4 - (s : Int)))), (6, .int .i64 ((12 - (j : Int))))] [OwnI 2 hd2.1 n2 hd2.2 ((Hd.ord (Hd.tally Hd.rk 13 z) s j)), OwnI 2 ay1 ny1 cy1 (Hd.tally Hd.rk 13 z)] rfl rfl ?_
   refine hSeq ?_
   refine hSeq ?_
   refine hReg (sq 0 (sq 1 sz)) (by kernel_rfl) ?_
   refine mvI rfl rfl rfl ?_
   refine geq rfl rfl rfl rfl ?_
   refine rNil ?_
   refine qSeq rfl ?_
   refine hIfD rfl (fun c3 => ?_) (fun c3 => ?_)
   ·
    replace c3 : 0 ≤ (12 - (j : Int)) := c3
    refine hSkip ?_
    refine qSeq rfl ?_
    refine hSeq ?_
    refine hBlk ?_
    refine hSeq ?_
    refine hReg (sq 0 sz) (by kernel_rfl) ?_
    refine asI rfl rfl rfl ?_
    refine rNil ?_
    refine qSeq rfl ?_
    refine hBlk ?_
    refine hLoop (α := Nat × Nat × Hd) (fun x => (x.1 ≤ 4 - s ∧ (x.1 = 0 ∨ (Hd.tally Hd.rk 13 z).getD (12 - j) 0 = ((4 - s : Nat) : Int))) ∧ x.2.1 ≤ 60 * s + 4 * j + x.1) (fun x => 4 - s - x.1) (fun x => [OwnI 2 x.2.2.1 x.2.1 x.2.2.2 ((Hd.ord (Hd.tally Hd.rk 13 z) s j ++ List.replicate x.1 (12 - (j : Int)))), OwnI 2 ay1 ny1 cy1 (Hd.tally Hd.rk 13 z)]) (fun x => [(3, .slice ay1 ny1 cy1), (4, .slice x.2.2.1 x.2.1 x.2.2.2), (5, .int .i64 ((4 - (s : Int)))), (6, .int .i64 ((12 - (j : Int)))), (7, .int .i64 (x.1 : Int))]) (0, n2, hd2) (⟨⟨Nat.zero_le _, Or.inl rfl⟩, by dsimp only; omega⟩) (fun _ h => by rw [List.replicate_zero, List.append_nil]; exact h.pick [0, 0]) ⟨rfl, rfl, rfl, rfl, rfl, trivial⟩ ?_
    rintro ⟨k, n3, hd3⟩ τ3 ⟨⟨hk1, hk2⟩, hn3⟩
    dsimp only at hk1 hk2 hn3
    refine hRe [(3, .slice ay1 ny1 cy1), (4, .slice hd3.1 n3 hd3.2), (5, .int .i64 ((4 - (s : Int)))), (6, .int .i64 ((12 - (j : Int)))), (7, .int .i64 (k : Int))] [OwnI 2 hd3.1 n3 hd3.2 ((Hd.ord (Hd.tally Hd.rk 13 z) s j ++ List.replicate k (12 - (j : Int)))), OwnI 2 ay1 ny1 cy1 (Hd.tally Hd.rk 13 z)] rfl rfl ?_
    refine hSeq ?_
    refine hSeq ?_
    refine hReg (sq 0 (sq 1 (sq 2 (sq 3 (sq 4 (sq 5 (sq 6 (sl 7 (sq 8 (sq 9 (sq 10 sz))))))))))) (by kernel_rfl) ?_
    refine mvI rfl rfl rfl ?_
    refine mvI rfl rfl rfl ?_
    refine lss rfl rfl rfl rfl ?_
    refine mvB rfl rfl rfl ?_
    refine rBoolD (d := 26) rfl (fun g4 => ?_) (fun g4 => ?_)
    ·
     replace g4 : (k : Int) < (4 - (s : Int)) := g4
     refine mvS rfl rfl rfl ?_
     refine mvI rfl rfl rfl ?_
     refine ixIl (zn := ((12 - (j : Int))).toNat) el23 ((Kn.at_ 1 rfl).imp fun _ h => OwnI.rd h) rfl rfl rfl rfl (by omega) (by omega) rfl ?_
     intro ae2 e2
     refine ldl Try.isAgg2 (e2) trv rfl rfl rfl ?_
     refine mvI rfl rfl rfl ?_
     refine eql rfl rfl rfl rfl ?_
     refine pickB rfl rfl rfl rfl ?_
     refine rNil ?_
     refine qSeq rfl ?_
     refine hIfD rfl (fun c5 => ?_) (fun c5 => ?_)
     ·
      replace c5 : ((Hd.tally Hd.rk 13 z).getD (((12 - (j : Int))).toNat) 0) = (4 - (s : Int)) := c5
      have hcj : (Hd.tally Hd.rk 13 z).getD (12 - j) 0 = ((4 - s : Nat) : Int) := by have h0 := c5; rw [show (12 - (j : Int)).toNat = 12 - j by omega] at h0; omega
      refine hSkip ?_
      refine qSeq rfl ?_
      refine hSeq ?_
      refine hBlk ?_
      refine hReg (sq 0 (sq 1 (sl 2 (sl 3 (sq 4 sz))))) (by kernel_rfl) ?_
      refine mvS rfl rfl rfl ?_
      refine mvI rfl rfl rfl ?_
      refine bsl trv1 rfl rfl rfl (bsl23_1 (.int .i64 _) rfl) (fun bkl5 hbkl5 => ?_)
      refine aplI (N := n3) (x := (12 - (j : Int))) 1 0 rfl rfl mk23 trv1 rfl rfl rfl rfl (by omega) ?_
      intro aq3 cq3
      refine asS rfl rfl rfl ?_
      refine rNil ?_
      refine qSeq rfl ?_
      refine hReg (sq 0 (sq 1 (sq 2 sz))) (by kernel_rfl) ?_
      refine mvI rfl rfl rfl ?_
      refine add rfl rfl rfl rfl (by omega) ?_
      refine asI rfl rfl rfl ?_
      refine rNil ?_
      rw [List.append_assoc, ← List.replicate_succ']
      exact qNext rfl ((k + 1, (n3 + 1), (aq3, cq3))) (by dsimp only; omega) (⟨⟨by dsimp only; omega, Or.inr hcj⟩, by dsimp only; omega⟩) ⟨rfl, rfl, rfl, rfl, rfl, trivial⟩ (fun _ h => h.pick [1, 1])
     ·
      replace c5 : ¬ (((Hd.tally Hd.rk 13 z).getD (((12 - (j : Int))).toNat) 0) = (4 - (s : Int))) := c5
      have hcn : ¬ (Hd.tally Hd.rk 13 z).getD (12 - j) 0 = ((4 - s : Nat) : Int) := by have h0 := c5; rw [show (12 - (j : Int)).toNat = 12 - j by omega] at h0; omega
      refine hExit rfl ?_
      refine qSeq rfl ?_
      refine hReg (sq 0 (sq 1 (sq 2 sz))) (by kernel_rfl) ?_
      refine mvI rfl rfl rfl ?_
      refine sub rfl rfl rfl rfl (by omega) ?_
      refine asI rfl rfl rfl ?_
      refine rNil ?_
      rw [show (Hd.ord (Hd.tally Hd.rk 13 z) s j ++ List.replicate k (12 - (j : Int))) = Hd.ord (Hd.tally Hd.rk 13 z) s (j + 1) from by rw [show k = 0 by rcases hk2 with h | h; exact h; exact absurd h hcn, List.replicate_zero, List.append_nil, Hd.ord_no hcn]]
      exact qNext rfl ((j + 1, n3, (hd3.1, hd3.2))) (by dsimp only; omega) ⟨by dsimp only; omega, by dsimp only; omega⟩ ((by repeat first | exact trivial | refine ⟨by first | rfl | exact vI (by push_cast; omega), ?_⟩)) (fun _ h => h.pick [0, 0])
    ·
     replace g4 : ¬ ((k : Int) < (4 - (s : Int))) := g4
     refine rSkipQ rfl rfl ?_
     refine rSkipQ rfl rfl ?_
     refine rSkipQ rfl rfl ?_
     refine rSkipL trv rfl rfl ?_
     refine rSkipQ rfl rfl ?_
     refine rSkipQ rfl rfl ?_
     refine pickB rfl rfl rfl rfl ?_
     refine rNil ?_
     refine qSeq rfl ?_
     refine hIfF rfl ?_
     refine hExit rfl ?_
     refine qSeq rfl ?_
     refine hReg (sq 0 (sq 1 (sq 2 sz))) (by kernel_rfl) ?_
     refine mvI rfl rfl rfl ?_
     refine sub rfl rfl rfl rfl (by omega) ?_
     refine asI rfl rfl rfl ?_
     refine rNil ?_
     rw [show (Hd.ord (Hd.tally Hd.rk 13 z) s j ++ List.replicate k (12 - (j : Int))) = Hd.ord (Hd.tally Hd.rk 13 z) s (j + 1) from by rw [show k = 4 - s by omega, ← Hd.ord_yes (by rcases hk2 with h | h; omega; exact h)]]
     exact qNext rfl ((j + 1, n3, (hd3.1, hd3.2))) (by dsimp only; omega) ⟨by dsimp only; omega, by dsimp only; omega⟩ ((by repeat first | exact trivial | refine ⟨by first | rfl | exact vI (by push_cast; omega), ?_⟩)) (fun _ h => h.pick [0, 0])
   ·
    replace c3 : ¬ (0 ≤ (12 - (j : Int))) := c3
    refine hExit rfl ?_
    refine qSeq rfl ?_
    refine hReg (sq 0 (sq 1 (sq 2 sz))) (by kernel_rfl) ?_
    refine mvI rfl rfl rfl ?_
    refine sub rfl rfl rfl rfl (by omega) ?_
    refine asI rfl rfl rfl ?_
    refine rNil ?_
    rw [show j = 13 by omega, Hd.ord_next]
    exact qNext rfl ((s + 1, n2, (hd2.1, hd2.2))) (by dsimp only; omega) ⟨by dsimp only; omega, by dsimp only; omega⟩ ((by repeat first | exact trivial | refine ⟨by first | rfl | exact vI (by push_cast; omega), ?_⟩)) (fun _ h => h.pick [0, 0])
  ·
   replace c2 : ¬ (1 ≤ (4 - (s : Int))) := c2
   refine hExit rfl ?_
   refine qSeq rfl ?_
   refine hSeq ?_
   refine hReg (sq 0 (sq 1 sz)) (by kernel_rfl) ?_
   refine mvS rfl rfl rfl ?_
   refine asS rfl rfl rfl ?_
   refine rNil ?_
   refine qSeq rfl ?_
   refine hRet ?_
   exact fun w hs => ⟨[.slice hd.1 n hd.2], ⟨rfl, trivial⟩, ⟨(hd.1, n, hd.2, (Hd.ord (Hd.tally Hd.rk 13 z) s 0)), rfl, by unfold Hd.kick; rw [if_neg (by assumption), show s = 4 by omega], hs.pick [0]⟩⟩
theorem spec_l05Pattern_c (az : Option Addr) (nz : Nat) (cz : Nat) (z : List Int) (w : World) (rz : RdI az nz z w) (h13 : z.length = 13) (hb : ∀ k, 0 ≤ z.getD k 0 ∧ z.getD k 0 ≤ 4) :
  Calls Try.prog 164 #[.slice az nz cz] w (Ret fun v w' => v = .int .i64 (Hd.patS z) ∧ Ext w w') := by
 have kz : Kn w none_ [] (RdI az nz z) := fun w' hs => rz.ext hs.upd
 have lz : z.length = nz := rz.1
 have mz : nz ≤ 9223372036854775807 := rz.2.1
 refine fn (M := none_) (rs := [.tmp 2]) Try.func164 rfl Try.ntmps164 rfl rfl (Sep.start _ _) ?_
 refine hSeq ?_
 refine hReg (sq 0 sz) (by kernel_rfl) ?_
 refine asI rfl rfl rfl ?_
 refine rNil ?_
 refine qSeq rfl ?_
 refine hSeq ?_
 refine hReg (sl 0 (sq 1 sz)) (by kernel_rfl) ?_
 refine mksI 5 mk23 trv1 rfl rfl rfl rfl (rfl) (by omega) (fun bkm1 hbkm1 => ?_)
 refine asS rfl rfl rfl ?_
 refine rNil ?_
 refine qSeq rfl ?_
 refine hSeq ?_
 refine hSeq ?_
 refine hReg (sq 0 sz) (by kernel_rfl) ?_
 refine asI rfl rfl rfl ?_
 refine rNil ?_
 refine qSeq rfl ?_
 refine hBlk ?_
 refine hLoop (α := Nat) (fun i => i ≤ 13) (fun i => 13 - i) (fun i => [OwnI 2 (some ⟨bkm1, 0, none⟩) 5 5 ((Hd.tally Hd.idI 5 (z.take i)))]) (fun i => [(0, .slice az nz cz), (3, .slice (some ⟨bkm1, 0, none⟩) 5 5), (4, .int .i64 (i : Int))]) 0 (by omega) (fun _ h => by rw [List.take_zero, Hd.tally_nil]; exact h.pick [0]) ⟨rfl, rfl, rfl, trivial⟩ ?_
 rintro i τ1 hi
 refine hSeq ?_
 refine hSeq ?_
 refine hReg (sq 0 (sq 1 sz)) (by kernel_rfl) ?_
 refine mvI rfl rfl rfl ?_
 refine lss rfl rfl rfl rfl ?_
 refine rNil ?_
 refine qSeq rfl ?_
 refine hIfD rfl (fun c1 => ?_) (fun c1 => ?_)
 ·
  replace c1 : (i : Int) < 13 := c1
  have hiz : i < z.length := by omega
  have hbi := hb i
  have hb1 := Hd.tally_bd (f := Hd.idI) (n := 5) (z := z.take i) (r := (z.getD i 0).toNat) (by omega)
  rw [List.length_take] at hb1
  have htl := Hd.tally_len Hd.idI 5 (z.take i)
  refine hSkip ?_
  refine qSeq rfl ?_
  refine hSeq ?_
  refine hBlk ?_
  refine hReg (sq 0 (sq 1 (sq 2 (sq 3 (sl 4 (sq 5 (sl 6 (sq 7 (sq 8 (sl 9 sz)))))))))) (by kernel_rfl) ?_
  refine mvS rfl rfl rfl ?_
  refine mvS rfl rfl rfl ?_
  refine mvI rfl rfl rfl ?_
  refine ixIl (zn := i) el23 (Kn.drop (k := 1) kz) rfl rfl rfl rfl (by omega) (by omega) rfl ?_
  intro ae1 e1
  refine ldl Try.isAgg2 (e1) trv rfl rfl rfl ?_
  refine ixIl (zn := ((z.getD i 0)).toNat) el23 ((Kn.at_ 0 rfl).imp fun _ h => OwnI.rd h) rfl rfl rfl rfl (by omega) (by omega) rfl ?_
  intro ae2 e2
  refine ldl Try.isAgg2 (e2) trv rfl rfl rfl ?_
  refine add rfl rfl rfl rfl (by omega) ?_
  refine oxI (zn := ((z.getD i 0)).toNat) 0 rfl el23 rfl rfl rfl rfl (by omega) (by omega) rfl ?_
  intro gk3 hgk3
  refine stoI (off := ((z.getD i 0)).toNat) (x := ((((Hd.tally Hd.idI 5 (z.take i))).getD (((z.getD i 0)).toNat) 0) + 1)) 0 rfl hgk3 Try.sizeOf2 trv rfl rfl rfl rfl (by omega) ?_
  refine rNil ?_
  refine qSeq rfl ?_
  refine hReg (sq 0 (sq 1 (sq 2 sz))) (by kernel_rfl) ?_
  refine mvI rfl rfl rfl ?_
  refine add rfl rfl rfl rfl (by omega) ?_
  refine asI rfl rfl rfl ?_
  refine rNil ?_
  rw [show (Hd.tally Hd.idI 5 (z.take i)).set (z.getD i 0).toNat ((Hd.tally Hd.idI 5 (z.take i)).getD (z.getD i 0).toNat 0 + 1) = Hd.tally Hd.idI 5 (z.take (i + 1)) from Hd.tally_take (f := Hd.idI) hiz (by have := hb i; simp only [Hd.idI]; omega)]
  exact qNext rfl (i + 1) (by omega) (by omega) ⟨rfl, rfl, rfl, trivial⟩ (fun _ h => h.pick [0])
 ·
  replace c1 : ¬ ((i : Int) < 13) := c1
  rw [List.take_of_length_le (show z.length ≤ i by omega)]
  have htl := Hd.tally_len Hd.idI 5 z
  refine hExit rfl ?_
  refine qSeq rfl ?_
  refine hSeq ?_
  refine hBlk ?_
  refine hSeq ?_
  refine hReg (sq 0 (sq 1 (sl 2 (sq 3 (sq 4 sz))))) (by kernel_rfl) ?_
  refine mvS rfl rfl rfl ?_
  refine ixIl (zn := 4) el23 ((Kn.at_ 0 rfl).imp fun _ h => OwnI.rd h) rfl rfl rfl rfl (by omega) (by omega) rfl ?_
  intro ae4 e4
  refine ldl Try.isAgg2 (e4) trv rfl rfl rfl ?_
  refine eql rfl rfl rfl rfl ?_
  refine asB rfl rfl rfl ?_
  refine rNil ?_
  refine qSeq rfl ?_
  refine hIfD rfl (fun c2 => ?_) (fun c2 => ?_)
  ·
   replace c2 : ((Hd.tally Hd.idI 5 z).getD 4 0) = 1 := c2
   refine hSeq ?_
   refine hReg (sq 0 sz) (by kernel_rfl) ?_
   refine asI rfl rfl rfl ?_
   refine rNil ?_
   refine qSeq rfl ?_
   refine hRet ?_
   exact fun w hs => ⟨[.int .i64 5], ⟨rfl, trivial⟩, ⟨by first | (exfalso; omega) | exact vI (by unfold Hd.patS; repeat (first | rfl | rw [if_pos (by omega)] | rw [if_neg (by omega)])), hs.upd⟩⟩
  ·
   replace c2 : ¬ (((Hd.tally Hd.idI 5 z).getD 4 0) = 1) := c2
   refine hSeq ?_
   refine hReg (sq 0 (sq 1 (sl 2 (sq 3 (sq 4 (sq 5 (sq 6 (sl 7 (sq 8 (sq 9 (sq 10 sz))))))))))) (by kernel_rfl) ?_
   refine mvS rfl rfl rfl ?_
   refine ixIl (zn := 3) el23 ((Kn.at_ 0 rfl).imp fun _ h => OwnI.rd h) rfl rfl rfl rfl (by omega) (by omega) rfl ?_
   intro ae5 e5
   refine ldl Try.isAgg2 (e5) trv rfl rfl rfl ?_
   refine eql rfl rfl rfl rfl ?_
   refine mvB rfl rfl rfl ?_
   refine rBoolD (d := 29) rfl (fun g3 => ?_) (fun g3 => ?_)
   ·
    replace g3 : ((Hd.tally Hd.idI 5 z).getD 3 0) = 1 := g3
    refine mvS rfl rfl rfl ?_
    refine ixIl (zn := 2) el23 ((Kn.at_ 0 rfl).imp fun _ h => OwnI.rd h) rfl rfl rfl rfl (by omega) (by omega) rfl ?_
    intro ae6 e6
    refine ldl Try.isAgg2 (e6) trv rfl rfl rfl ?_
    refine eql rfl rfl rfl rfl ?_
    refine pickB rfl rfl rfl rfl ?_
    refine asB rfl rfl rfl ?_
    refine rNil ?_
    refine qSeq rfl ?_
    refine hIfD rfl (fun c4 => ?_) (fun c4 => ?_)
    ·
     replace c4 : ((Hd.tally Hd.idI 5 z).getD 2 0) = 1 := c4
     refine hSeq ?_
     refine hReg (sq 0 sz) (by kernel_rfl) ?_
     refine asI rfl rfl rfl ?_
     refine rNil ?_
     refine qSeq rfl ?_
     refine hRet ?_
     exact fun w hs => ⟨[.int .i64 4], ⟨rfl, trivial⟩, ⟨by first | (exfalso; omega) | exact vI (by unfold Hd.patS; repeat (first | rfl | rw [if_pos (by omega)] | rw [if_neg (by omega)])), hs.upd⟩⟩
    ·
     replace c4 : ¬ (((Hd.tally Hd.idI 5 z).getD 2 0) = 1) := c4
     refine hSeq ?_
     refine hReg (sq 0 (sq 1 (sl 2 (sq 3 (sq 4 sz))))) (by kernel_rfl) ?_
     refine mvS rfl rfl rfl ?_
     refine ixIl (zn := 3) el23 ((Kn.at_ 0 rfl).imp fun _ h => OwnI.rd h) rfl rfl rfl rfl (by omega) (by omega) rfl ?_
     intro ae7 e7
     refine ldl Try.isAgg2 (e7) trv rfl rfl rfl ?_
     refine eql rfl rfl rfl rfl ?_
     refine asB rfl rfl rfl ?_
     refine rNil ?_
     refine qSeq rfl ?_
     refine hIfD rfl (fun c5 => ?_) (fun c5 => ?_)
     ·
      replace c5 : ((Hd.tally Hd.idI 5 z).getD 3 0) = 1 := c5
      refine hSeq ?_
      refine hReg (sq 0 sz) (by kernel_rfl) ?_
      refine asI rfl rfl rfl ?_
      refine rNil ?_
      refine qSeq rfl ?_
      refine hRet ?_
      exact fun w hs => ⟨[.int .i64 3], ⟨rfl, trivial⟩, ⟨by first | (exfalso; omega) | exact vI (by unfold Hd.patS; repeat (first | rfl | rw [if_pos (by omega)] | rw [if_neg (by omega)])), hs.upd⟩⟩
     ·
      replace c5 : ¬ (((Hd.tally Hd.idI 5 z).getD 3 0) = 1) := c5
      refine hSkip ?_
      refine qSeq rfl ?_
      refine hSeq ?_
      refine hReg (sq 0 (sq 1 (sl 2 (sq 3 sz)))) (by kernel_rfl) ?_
      refine mvS rfl rfl rfl ?_
      refine ixIl (zn := 2) el23 ((Kn.at_ 0 rfl).imp fun _ h => OwnI.rd h) rfl rfl rfl rfl (by omega) (by omega) rfl ?_
      intro ae8 e8
      refine ldl Try.isAgg2 (e8) trv rfl rfl rfl ?_
      refine asI rfl rfl rfl ?_
      refine rNil ?_
      refine qSeq rfl ?_
      refine hRet ?_
      exact fun w hs => ⟨[.int .i64 (((Hd.tally Hd.idI 5 z).getD 2 0))], ⟨rfl, trivial⟩, ⟨by first | (exfalso; omega) | exact vI (by unfold Hd.patS; repeat (first | rfl | rw [if_pos (by omega)] | rw [if_neg (by omega)])), hs.upd⟩⟩
   ·
    replace g3 : ¬ (((Hd.tally Hd.idI 5 z).getD 3 0) = 1) := g3
    refine rSkipQ rfl rfl ?_
    refine rSkipQ rfl rfl ?_
    refine rSkipL trv rfl rfl ?_
    refine rSkipQ rfl rfl ?_
    refine pickB rfl rfl rfl rfl ?_
    refine asB rfl rfl rfl ?_
    refine rNil ?_
    refine qSeq rfl ?_
    refine hIfF rfl ?_
    refine hSeq ?_
    refine hReg (sq 0 (sq 1 (sl 2 (sq 3 (sq 4 sz))))) (by kernel_rfl) ?_
    refine mvS rfl rfl rfl ?_
    refine ixIl (zn := 3) el23 ((Kn.at_ 0 rfl).imp fun _ h => OwnI.rd h) rfl rfl rfl rfl (by omega) (by omega) rfl ?_
    intro ae9 e9
    refine ldl Try.isAgg2 (e9) trv rfl rfl rfl ?_
    refine eql rfl rfl rfl rfl ?_
    refine asB rfl rfl rfl ?_
    refine rNil ?_
    refine qSeq rfl ?_
    refine hIfD rfl (fun c6 => ?_) (fun c6 => ?_)
    ·
     replace c6 : ((Hd.tally Hd.idI 5 z).getD 3 0) = 1 := c6
     refine hSeq ?_
     refine hReg (sq 0 sz) (by kernel_rfl) ?_
     refine asI rfl rfl rfl ?_
     refine rNil ?_
     refine qSeq rfl ?_
     refine hRet ?_
     exact fun w hs => ⟨[.int .i64 3], ⟨rfl, trivial⟩, ⟨by first | (exfalso; omega) | exact vI (by unfold Hd.patS; repeat (first | rfl | rw [if_pos (by omega)] | rw [if_neg (by omega)])), hs.upd⟩⟩
    ·
     replace c6 : ¬ (((Hd.tally Hd.idI 5 z).getD 3 0) = 1) := c6
     refine hSkip ?_
     refine qSeq rfl ?_
     refine hSeq ?_
     refine hReg (sq 0 (sq 1 (sl 2 (sq 3 sz)))) (by kernel_rfl) ?_
     refine mvS rfl rfl rfl ?_
     refine ixIl (zn := 2) el23 ((Kn.at_ 0 rfl).imp fun _ h => OwnI.rd h) rfl rfl rfl rfl (by omega) (by omega) rfl ?_
     intro ae10 e10
     refine ldl Try.isAgg2 (e10) trv rfl rfl rfl ?_
     refine asI rfl rfl rfl ?_
     refine rNil ?_
     refine qSeq rfl ?_
     refine hRet ?_
     exact fun w hs => ⟨[.int .i64 (((Hd.tally Hd.idI 5 z).getD 2 0))], ⟨rfl, trivial⟩, ⟨by first | (exfalso; omega) | exact vI (by unfold Hd.patS; repeat (first | rfl | rw [if_pos (by omega)] | rw [if_neg (by omega)])), hs.upd⟩⟩
end Go.Proofs.Yteaahdakammffaa
