/- Contracts of the draws of the odds. Their conditions stand in each. -/
import Derived.Test.YtglhfigmenljoaaEng4
import Derived.Test.YtglhfigmenljoaaEng5
import Derived.Test.YtglhfigmenljoaaSrc0
import Derived.Test.YtglhfigmenljoaaSrc
import Derived.Test.YtglhfigmenljoaaMath
import Derived.Test.YtglhfigmenljoaaRat
import Derived.Test.YtglhfigmenljoaaOdds
import Derived.Test.YtglhfigmenljoaaRows
namespace Go.Proofs.Ytglhfigmenljoaa
open Go Go.RowKit V
set_option linter.unusedVariables false
set_option linter.unusedSimpArgs false
set_option maxRecDepth 100000

theorem bsl65_3 (v0 v1 v2 : Value) (h0 : v0.cells = #[v0]) (h1 : v1.cells = #[v1]) (h2 : v2.cells = #[v2]) : ∀ w, (Instr.buildSlice 65 3 ([(0, v0), (1, v1), (2, v2)] : List (Nat × Value)).toArray).run Try.prog w = .ok (.slice (some ⟨w.heap.size, 0, none⟩) 3 3) (w.alloc (.cells ([v0, v1, v2] : List Value).toArray 2)) := by
  intro w; simp [Instr.buildSlice, Instr.fill, Try.zeroValue2, Try.runUnderlying65, Try.sizeOf2, Value.cells_int, newRow, show Array.range 3 = #[0, 1, 2] from by decide, h0, h1, h2]
theorem bsl65_4 (v0 v1 v2 v3 : Value) (h0 : v0.cells = #[v0]) (h1 : v1.cells = #[v1]) (h2 : v2.cells = #[v2]) (h3 : v3.cells = #[v3]) : ∀ w, (Instr.buildSlice 65 4 ([(0, v0), (1, v1), (2, v2), (3, v3)] : List (Nat × Value)).toArray).run Try.prog w = .ok (.slice (some ⟨w.heap.size, 0, none⟩) 4 4) (w.alloc (.cells ([v0, v1, v2, v3] : List Value).toArray 2)) := by
  intro w; simp [Instr.buildSlice, Instr.fill, Try.zeroValue2, Try.runUnderlying65, Try.sizeOf2, Value.cells_int, newRow, show Array.range 4 = #[0, 1, 2, 3] from by decide, h0, h1, h2, h3]
theorem bsl65_8 (v0 v1 v2 v3 v4 v5 v6 v7 : Value) (h0 : v0.cells = #[v0]) (h1 : v1.cells = #[v1]) (h2 : v2.cells = #[v2]) (h3 : v3.cells = #[v3]) (h4 : v4.cells = #[v4]) (h5 : v5.cells = #[v5]) (h6 : v6.cells = #[v6]) (h7 : v7.cells = #[v7]) : ∀ w, (Instr.buildSlice 65 8 ([(0, v0), (1, v1), (2, v2), (3, v3), (4, v4), (5, v5), (6, v6), (7, v7)] : List (Nat × Value)).toArray).run Try.prog w = .ok (.slice (some ⟨w.heap.size, 0, none⟩) 8 8) (w.alloc (.cells ([v0, v1, v2, v3, v4, v5, v6, v7] : List Value).toArray 2)) := by
  intro w; simp [Instr.buildSlice, Instr.fill, Try.zeroValue2, Try.runUnderlying65, Try.sizeOf2, Value.cells_int, newRow, show Array.range 8 = #[0, 1, 2, 3, 4, 5, 6, 7] from by decide, h0, h1, h2, h3, h4, h5, h6, h7]

theorem l19DrawChips_c (bk : Nat) (ca : Option Addr) (bs : List Int) (cc : Nat) (w : World) (hs0 : SrcIn bk ca bs cc w) :
    Calls Try.prog 59 #[.pointer (some ⟨bk, 0, none⟩)] w (Ret fun v w' => ∃ x : Int, v = .int .i64 x ∧ True ∧ Upd (fun k => k = bk) w w' ∧ srcP bk ca bs cc w') := by
  obtain ⟨hsrc, hcode, hok⟩ := hs0
  refine fn (M := (fun k => k = bk)) (rs := [.tmp 2]) Try.func59 rfl Try.ntmps59 rfl rfl (Sep.startS hsrc) ?_
  refine hSeq ?_
  refine hReg (sq 0 sz) (by kernel_rfl) ?_
  refine asI rfl rfl rfl ?_
  refine rNil ?_
  refine qSeq rfl ?_
  refine hSeq ?_
  refine hSeq ?_
  refine hReg (sq 0 (sl 1 (sq 2 sz))) (by kernel_rfl) ?_
  refine mvP rfl rfl rfl ?_
  refine callK 0 rfl srcP_mem srcP_st Try.call49 trv rfl rfl (fun w hs => l01Next_c _ _ _ _ _ w ⟨hs.at_ 0 rfl, hcode.upd hs.upd, hok⟩) ?_
  rintro x1 hx1
  refine eql rfl rfl rfl rfl ?_
  refine rNil ?_
  refine qSeq rfl ?_
  refine hIfD rfl (fun c2 => ?_) (fun c2 => ?_)
  · -- c2T
    refine hSeq ?_
    refine hReg (sq 0 (sl 1 (sl 2 (sq 3 sz)))) (by kernel_rfl) ?_
    refine mvP rfl rfl rfl ?_
    refine bsl trv1 rfl rfl rfl (bsl65_4 (.int .i64 _) (.int .i64 _) (.int .i64 _) (.int .i64 _) rfl rfl rfl rfl) (fun bkl1 hbkl1 => ?_)
    refine callK 1 rfl srcP_mem srcP_st Try.call48 trv rfl rfl (fun w hs => l01PickV_c _ _ _ _ _ _ _ _ w ⟨hs.at_ 1 rfl, hcode.upd hs.upd, hok⟩ (Lst.of' hs 0 1 rfl rfl (by decide) rfl) rfl (by decide)) ?_
    rintro x3 hx3
    refine asI rfl rfl rfl ?_
    refine rNil ?_
    refine qSeq rfl ?_
    refine hRet ?_
    exact fun w hs => ⟨[.int .i64 _], ⟨rfl, trivial⟩, ⟨_, rfl, trivial, hs.upd, hs.at_ 1 rfl⟩⟩
  · -- c2F
    refine hSkip ?_
    refine qSeq rfl ?_
    refine hSeq ?_
    refine hReg (sq 0 (sq 1 (sl 2 (sq 3 (sl 4 (sq 5 (sl 6 (sq 7 (sl 8 (sl 9 (sq 10 sz))))))))))) (by kernel_rfl) ?_
    refine mvP rfl rfl rfl ?_
    refine mvP rfl rfl rfl ?_
    refine callK 0 rfl srcP_mem srcP_st Try.call49 trv rfl rfl (fun w hs => l01Next_c _ _ _ _ _ w ⟨hs.at_ 0 rfl, hcode.upd hs.upd, hok⟩) ?_
    rintro x4 hx4
    refine mvP rfl rfl rfl ?_
    refine callK 0 rfl srcP_mem srcP_st Try.call49 trv rfl rfl (fun w hs => l01Next_c _ _ _ _ _ w ⟨hs.at_ 0 rfl, hcode.upd hs.upd, hok⟩) ?_
    rintro x5 hx5
    refine mvP rfl rfl rfl ?_
    refine callK 0 rfl srcP_mem srcP_st Try.call49 trv rfl rfl (fun w hs => l01Next_c _ _ _ _ _ w ⟨hs.at_ 0 rfl, hcode.upd hs.upd, hok⟩) ?_
    rintro x6 hx6
    refine mul rfl rfl rfl rfl (by omega) ?_
    refine bsl trv1 rfl rfl rfl (bsl65_3 (.int .i64 _) (.int .i64 _) (.int .i64 _) rfl rfl rfl) (fun bkl2 hbkl2 => ?_)
    refine callK 1 rfl srcP_mem srcP_st Try.call48 trv rfl rfl (fun w hs => l01PickV_c _ _ _ _ _ _ _ _ w ⟨hs.at_ 1 rfl, hcode.upd hs.upd, hok⟩ (Lst.of' hs 0 1 rfl rfl (by decide) rfl) rfl (by decide)) ?_
    rintro x7 hx7
    refine asI rfl rfl rfl ?_
    refine rNil ?_
    refine qSeq rfl ?_
    refine hRet ?_
    exact fun w hs => ⟨[.int .i64 _], ⟨rfl, trivial⟩, ⟨_, rfl, trivial, hs.upd, hs.at_ 1 rfl⟩⟩

theorem l19DrawShare_c (bk : Nat) (ca : Option Addr) (bs : List Int) (cc : Nat) (w : World) (hs0 : SrcIn bk ca bs cc w) :
    Calls Try.prog 60 #[.pointer (some ⟨bk, 0, none⟩)] w (Ret fun v w' => ∃ x : Int × Int, v = ratV x ∧ True ∧ Upd (fun k => k = bk) w w' ∧ srcP bk ca bs cc w') := by
  obtain ⟨hsrc, hcode, hok⟩ := hs0
  refine fn (M := (fun k => k = bk)) (rs := [.cell 2 26]) Try.func60 rfl Try.ntmps60 rfl rfl (Sep.startS hsrc) ?_
  refine hSeq ?_
  refine hReg (sl 0 sz) (by kernel_rfl) ?_
  refine alc Try.zeroValue26 rfl trv1 rfl rfl (fun bka1 hbka1 => ?_)
  refine rNil ?_
  refine qSeq rfl ?_
  refine hSeq ?_
  refine hReg (sq 0 (sl 1 (sq 2 (sq 3 sz)))) (by kernel_rfl) ?_
  refine mvP rfl rfl rfl ?_
  refine callK 1 rfl srcP_mem srcP_st Try.call49 trv rfl rfl (fun w hs => l01Next_c _ _ _ _ _ w ⟨hs.at_ 1 rfl, hcode.upd hs.upd, hok⟩) ?_
  rintro x1 hx1
  refine add rfl rfl rfl rfl (by omega) ?_
  refine asI rfl rfl rfl ?_
  refine rNil ?_
  refine qSeq rfl ?_
  refine hSeq ?_
  refine hReg (sq 0 (sq 1 (sq 2 (sl 3 (sq 4 (sl 5 (sq 6 (sq 7 (sq 8 (sl 9 (sl 10 (sq 11 sz)))))))))))) (by kernel_rfl) ?_
  refine mvP rfl rfl rfl ?_
  refine mvI rfl rfl rfl ?_
  refine add rfl rfl rfl rfl (by omega) ?_
  refine callK 1 rfl srcP_mem srcP_st Try.call49 trv rfl rfl (fun w hs => l01Next_c _ _ _ _ _ w ⟨hs.at_ 1 rfl, hcode.upd hs.upd, hok⟩) ?_
  rintro x2 hx2
  refine mvI rfl rfl rfl ?_
  refine callP Try.call63 trv rfl rfl (fun w hs => spec_l01Ratio_c _ _ w (by omega) (by omega) (by omega)) ?_
  refine mv rfl rfl rfl ?_
  refine ext rfl rfl rfl rfl ?_
  refine ext rfl rfl rfl rfl ?_
  refine alc Try.zeroValue26 rfl trv1 rfl rfl (fun bka2 hbka2 => ?_)
  refine stAl 0 rfl Try.sizeOf26 trv rfl rfl rfl rfl rfl (by simp [Value.oneCell']) rfl ?_
  refine asI rfl rfl rfl ?_
  refine rNil ?_
  refine qSeq rfl ?_
  refine hSeq ?_
  refine hSeq ?_
  refine hReg (sq 0 (sl 1 sz)) (by kernel_rfl) ?_
  refine mvP rfl rfl rfl ?_
  refine callK 2 rfl srcP_mem srcP_st Try.call49 trv rfl rfl (fun w hs => l01Next_c _ _ _ _ _ w ⟨hs.at_ 2 rfl, hcode.upd hs.upd, hok⟩) ?_
  rintro x3 hx3
  refine rNil ?_
  refine qSeq rfl ?_
  refine hBlk ?_
  refine hSeq ?_
  refine hReg (sq 0 (sq 1 sz)) (by kernel_rfl) ?_
  refine eql rfl rfl rfl rfl ?_
  refine asB rfl rfl rfl ?_
  refine rNil ?_
  refine qSeq rfl ?_
  refine hIfD rfl (fun c4 => ?_) (fun c4 => ?_)
  · -- c4T
    refine hSeq ?_
    refine hReg (sq 0 (sl 1 (sl 2 (sq 3 (sl 4 (sl 5 (sq 6 (sl 7 sz)))))))) (by kernel_rfl) ?_
    refine mvP rfl rfl rfl ?_
    refine bsl trv1 rfl rfl rfl (bsl65_3 (.int .i64 _) (.int .i64 _) (.int .i64 _) rfl rfl rfl) (fun bkl3 hbkl3 => ?_)
    refine callK 3 rfl srcP_mem srcP_st Try.call48 trv rfl rfl (fun w hs => l01PickV_c _ _ _ _ _ _ _ _ w ⟨hs.at_ 3 rfl, hcode.upd hs.upd, hok⟩ (Lst.of' hs 0 3 rfl rfl (by decide) rfl) rfl (by decide)) ?_
    rintro x5 hx5
    refine mvP rfl rfl rfl ?_
    refine bsl trv1 rfl rfl rfl (bsl65_4 (.int .i64 _) (.int .i64 _) (.int .i64 _) (.int .i64 _) rfl rfl rfl rfl) (fun bkl4 hbkl4 => ?_)
    refine callK 4 rfl srcP_mem srcP_st Try.call48 trv rfl rfl (fun w hs => l01PickV_c _ _ _ _ _ _ _ _ w ⟨hs.at_ 4 rfl, hcode.upd hs.upd, hok⟩ (Lst.of' hs 0 4 rfl rfl (by decide) rfl) rfl (by decide)) ?_
    rintro x6 hx6
    refine bld rfl rfl rfl (bld26_0_1 (.int .i64 _) (.int .i64 _) rfl rfl) ?_
    refine stAl 3 rfl Try.sizeOf26 trv rfl rfl rfl rfl rfl (by simp [Value.oneCell']) rfl ?_
    refine rNil ?_
    refine qSeq rfl ?_
    refine hRet ?_
    exact fun w hs => ⟨[_], ⟨⟨_, rfl, run_load_agg Try.isAgg26 Try.sizeOf26 rfl (cBs 3 rfl w hs)⟩, trivial⟩, ⟨(_, _), rfl, trivial, hs.upd, hs.at_ 4 rfl⟩⟩
  · -- c4F
    refine hSeq ?_
    refine hReg (sq 0 (sq 1 sz)) (by kernel_rfl) ?_
    refine eql rfl rfl rfl rfl ?_
    refine asB rfl rfl rfl ?_
    refine rNil ?_
    refine qSeq rfl ?_
    refine hIfD rfl (fun c7 => ?_) (fun c7 => ?_)
    · -- c7T
      refine hSeq ?_
      refine hReg (sq 0 (sl 1 (sl 2 (sq 3 (sq 4 (sq 5 (sl 6 (sl 7 (sq 8 sz))))))))) (by kernel_rfl) ?_
      refine mvP rfl rfl rfl ?_
      refine callK 2 rfl srcP_mem srcP_st Try.call49 trv rfl rfl (fun w hs => l01Next_c _ _ _ _ _ w ⟨hs.at_ 2 rfl, hcode.upd hs.upd, hok⟩) ?_
      rintro x8 hx8
      refine callP Try.call63 trv rfl rfl (fun w hs => spec_l01Ratio_c _ _ w (by omega) (by omega) (by omega)) ?_
      refine mv rfl rfl rfl ?_
      refine ext rfl rfl rfl rfl ?_
      refine ext rfl rfl rfl rfl ?_
      refine alc Try.zeroValue26 rfl trv1 rfl rfl (fun bka5 hbka5 => ?_)
      refine stAl 0 rfl Try.sizeOf26 trv rfl rfl rfl rfl rfl (by simp [Value.oneCell']) rfl ?_
      refine asI rfl rfl rfl ?_
      refine rNil ?_
      refine qSeq rfl ?_
      refine hSeq ?_
      refine hReg (sl 0 (sl 1 sz)) (by kernel_rfl) ?_
      refine ldAl Try.isAgg26 Try.sizeOf26 (cBs 0 rfl) trv rfl rfl rfl rfl ?_
      refine stAl 2 rfl Try.sizeOf26 trv rfl rfl rfl rfl rfl (by simp [Value.oneCell']) rfl ?_
      refine rNil ?_
      refine qSeq rfl ?_
      refine hRet ?_
      exact fun w hs => ⟨[_], ⟨⟨_, rfl, run_load_agg Try.isAgg26 Try.sizeOf26 rfl (cBs 2 rfl w hs)⟩, trivial⟩, ⟨(_, _), rfl, trivial, hs.upd, hs.at_ 3 rfl⟩⟩
    · -- c7F
      refine hSkip ?_
      refine qSeq rfl ?_
      refine hSeq ?_
      refine hReg (sl 0 (sl 1 sz)) (by kernel_rfl) ?_
      refine ldAl Try.isAgg26 Try.sizeOf26 (cBs 0 rfl) trv rfl rfl rfl rfl ?_
      refine stAl 1 rfl Try.sizeOf26 trv rfl rfl rfl rfl rfl (by simp [Value.oneCell']) rfl ?_
      refine rNil ?_
      refine qSeq rfl ?_
      refine hRet ?_
      exact fun w hs => ⟨[_], ⟨⟨_, rfl, run_load_agg Try.isAgg26 Try.sizeOf26 rfl (cBs 1 rfl w hs)⟩, trivial⟩, ⟨(_, _), rfl, trivial, hs.upd, hs.at_ 2 rfl⟩⟩

theorem DrawGeometricBet_c (ca : Option Addr) (bs : List Int) (cc : Nat) (w : World) (hc : CellsAt ca (bs.map (Value.int .u8)) w) (hok : okBytes bs) :
    Calls Try.prog 24 #[.slice ca bs.length cc] w (Ret fun v w' => ∃ x : Int × Int × Int, v = .tuple #[.int .i64 x.1, .int .i64 x.2.1, .int .i64 x.2.2] ∧ True ∧ Ext w w') := by
  refine fn (M := none_) (rs := [.tmp 2, .tmp 3, .tmp 4]) Try.func24 rfl Try.ntmps24 rfl rfl (Sep.start _ _) ?_
  refine hSeq ?_
  refine hReg (sq 0 (sq 1 (sq 2 sz))) (by kernel_rfl) ?_
  refine asI rfl rfl rfl ?_
  refine asI rfl rfl rfl ?_
  refine asI rfl rfl rfl ?_
  refine rNil ?_
  refine qSeq rfl ?_
  refine hSeq ?_
  refine hReg (sq 0 (sl 1 (sq 2 sz))) (by kernel_rfl) ?_
  refine mvS rfl rfl rfl ?_
  refine callN Try.call47 trv1 rfl rfl (fun w hs => (l01From_c _ _ _ w (hc.ext hs.upd) hok).mono (fun _ _ ⟨v, h0, bk, h1, h2, h3, h4⟩ => ⟨v, h0, bk, h1, Nat.le_trans hs.1.size h2, h3, h4⟩)) ?_
  rintro bk hbk
  refine asn rfl rfl rfl ?_
  refine rNil ?_
  refine qSeq rfl ?_
  refine hSeq ?_
  refine hReg (sq 0 (sq 1 (sl 2 (sq 3 (sl 4 (sl 5 (sq 6 sz))))))) (by kernel_rfl) ?_
  refine mvP rfl rfl rfl ?_
  refine mvP rfl rfl rfl ?_
  refine callK 0 rfl srcP_mem srcP_st Try.call49 trv rfl rfl (fun w hs => l01Next_c _ _ _ _ _ w ⟨hs.at_ 0 rfl, Code_.of0 hc hbk hs.upd, hok⟩) ?_
  rintro x1 hx1
  refine add rfl rfl rfl rfl (by omega) ?_
  refine bsl trv1 rfl rfl rfl (bsl65_8 (.int .i64 _) (.int .i64 _) (.int .i64 _) (.int .i64 _) (.int .i64 _) (.int .i64 _) (.int .i64 _) (.int .i64 _) rfl rfl rfl rfl rfl rfl rfl rfl) (fun bkl2 hbkl2 => ?_)
  refine callK 1 rfl srcP_mem srcP_st Try.call48 trv rfl rfl (fun w hs => l01PickV_c _ _ _ _ _ _ _ _ w ⟨hs.at_ 1 rfl, Code_.of0 hc hbk hs.upd, hok⟩ (Lst.of' hs 0 1 rfl rfl (by decide) rfl) rfl (by decide)) ?_
  rintro x2 hx2
  refine asI rfl rfl rfl ?_
  refine rNil ?_
  refine qSeq rfl ?_
  refine hSeq ?_
  refine hReg (sq 0 (sq 1 (sl 2 (sq 3 (sl 4 (sl 5 (sq 6 sz))))))) (by kernel_rfl) ?_
  refine mvP rfl rfl rfl ?_
  refine mvP rfl rfl rfl ?_
  refine callK 1 rfl srcP_mem srcP_st Try.call49 trv rfl rfl (fun w hs => l01Next_c _ _ _ _ _ w ⟨hs.at_ 1 rfl, Code_.of0 hc hbk hs.upd, hok⟩) ?_
  rintro x3 hx3
  refine add rfl rfl rfl rfl (by omega) ?_
  refine bsl trv1 rfl rfl rfl (bsl65_8 (.int .i64 _) (.int .i64 _) (.int .i64 _) (.int .i64 _) (.int .i64 _) (.int .i64 _) (.int .i64 _) (.int .i64 _) rfl rfl rfl rfl rfl rfl rfl rfl) (fun bkl3 hbkl3 => ?_)
  refine callK 2 rfl srcP_mem srcP_st Try.call48 trv rfl rfl (fun w hs => l01PickV_c _ _ _ _ _ _ _ _ w ⟨hs.at_ 2 rfl, Code_.of0 hc hbk hs.upd, hok⟩ (Lst.of' hs 0 2 rfl rfl (by decide) rfl) rfl (by decide)) ?_
  rintro x4 hx4
  refine asI rfl rfl rfl ?_
  refine rNil ?_
  refine qSeq rfl ?_
  refine hSeq ?_
  refine hReg (sq 0 (sq 1 (sq 2 (sl 3 (sq 4 (sq 5 (sq 6 sz))))))) (by kernel_rfl) ?_
  refine mvI rfl rfl rfl ?_
  refine mvI rfl rfl rfl ?_
  refine mvP rfl rfl rfl ?_
  refine callK 2 rfl srcP_mem srcP_st Try.call49 trv rfl rfl (fun w hs => l01Next_c _ _ _ _ _ w ⟨hs.at_ 2 rfl, Code_.of0 hc hbk hs.upd, hok⟩) ?_
  rintro x5 hx5
  refine asI rfl rfl rfl ?_
  refine asI rfl rfl rfl ?_
  refine asI rfl rfl rfl ?_
  refine rNil ?_
  refine qSeq rfl ?_
  refine hRet ?_
  exact fun w hs => ⟨[.int .i64 _, .int .i64 _, .int .i64 _], ⟨rfl, ⟨rfl, ⟨rfl, trivial⟩⟩⟩, ⟨(_, _, _), rfl, trivial, hs.upd⟩⟩

theorem DrawPotOdds_c (ca : Option Addr) (bs : List Int) (cc : Nat) (w : World) (hc : CellsAt ca (bs.map (Value.int .u8)) w) (hok : okBytes bs) :
    Calls Try.prog 35 #[.slice ca bs.length cc] w (Ret fun v w' => ∃ x : Int × Int, v = .tuple #[.int .i64 x.1, .int .i64 x.2] ∧ True ∧ Ext w w') := by
  refine fn (M := none_) (rs := [.tmp 2, .tmp 3]) Try.func35 rfl Try.ntmps35 rfl rfl (Sep.start _ _) ?_
  refine hSeq ?_
  refine hReg (sq 0 (sq 1 sz)) (by kernel_rfl) ?_
  refine asI rfl rfl rfl ?_
  refine asI rfl rfl rfl ?_
  refine rNil ?_
  refine qSeq rfl ?_
  refine hSeq ?_
  refine hReg (sq 0 (sl 1 (sq 2 sz))) (by kernel_rfl) ?_
  refine mvS rfl rfl rfl ?_
  refine callN Try.call47 trv1 rfl rfl (fun w hs => (l01From_c _ _ _ w (hc.ext hs.upd) hok).mono (fun _ _ ⟨v, h0, bk, h1, h2, h3, h4⟩ => ⟨v, h0, bk, h1, Nat.le_trans hs.1.size h2, h3, h4⟩)) ?_
  rintro bk hbk
  refine asn rfl rfl rfl ?_
  refine rNil ?_
  refine qSeq rfl ?_
  refine hSeq ?_
  refine hReg (sq 0 (sl 1 (sq 2 sz))) (by kernel_rfl) ?_
  refine mvP rfl rfl rfl ?_
  refine callK 0 rfl srcP_mem srcP_st Try.call59 trv rfl rfl (fun w hs => l19DrawChips_c _ _ _ _ w ⟨hs.at_ 0 rfl, Code_.of0 hc hbk hs.upd, hok⟩) ?_
  rintro x1 hx1
  refine asI rfl rfl rfl ?_
  refine rNil ?_
  refine qSeq rfl ?_
  refine hSeq ?_
  refine hReg (sq 0 (sq 1 (sl 2 (sq 3 (sq 4 sz))))) (by kernel_rfl) ?_
  refine mvI rfl rfl rfl ?_
  refine mvP rfl rfl rfl ?_
  refine callK 0 rfl srcP_mem srcP_st Try.call59 trv rfl rfl (fun w hs => l19DrawChips_c _ _ _ _ w ⟨hs.at_ 0 rfl, Code_.of0 hc hbk hs.upd, hok⟩) ?_
  rintro x2 hx2
  refine asI rfl rfl rfl ?_
  refine asI rfl rfl rfl ?_
  refine rNil ?_
  refine qSeq rfl ?_
  refine hRet ?_
  exact fun w hs => ⟨[.int .i64 _, .int .i64 _], ⟨rfl, ⟨rfl, trivial⟩⟩, ⟨(_, _), rfl, trivial, hs.upd⟩⟩

theorem DrawCallValue_c (ca : Option Addr) (bs : List Int) (cc : Nat) (w : World) (hc : CellsAt ca (bs.map (Value.int .u8)) w) (hok : okBytes bs) :
    Calls Try.prog 34 #[.slice ca bs.length cc] w (Ret fun v w' => ∃ x : Int × Int × Int × Int, v = .tuple #[.int .i64 x.1, .int .i64 x.2.1, .agg #[.int .i64 x.2.2.1, .int .i64 x.2.2.2]] ∧ True ∧ Ext w w') := by
  refine fn (M := none_) (rs := [.tmp 2, .tmp 3, .cell 4 26]) Try.func34 rfl Try.ntmps34 rfl rfl (Sep.start _ _) ?_
  refine hSeq ?_
  refine hReg (sq 0 (sq 1 (sl 2 sz))) (by kernel_rfl) ?_
  refine asI rfl rfl rfl ?_
  refine asI rfl rfl rfl ?_
  refine alc Try.zeroValue26 rfl trv1 rfl rfl (fun bka1 hbka1 => ?_)
  refine rNil ?_
  refine qSeq rfl ?_
  refine hSeq ?_
  refine hReg (sq 0 (sl 1 (sq 2 sz))) (by kernel_rfl) ?_
  refine mvS rfl rfl rfl ?_
  refine callN Try.call47 trv1 rfl rfl (fun w hs => (l01From_c _ _ _ w (hc.ext hs.upd) hok).mono (fun _ _ ⟨v, h0, bk, h1, h2, h3, h4⟩ => ⟨v, h0, bk, h1, Nat.le_trans hs.1.size h2, h3, h4⟩)) ?_
  rintro bk hbk
  refine asn rfl rfl rfl ?_
  refine rNil ?_
  refine qSeq rfl ?_
  refine hSeq ?_
  refine hReg (sq 0 (sl 1 (sq 2 sz))) (by kernel_rfl) ?_
  refine mvP rfl rfl rfl ?_
  refine callK 0 rfl srcP_mem srcP_st Try.call59 trv rfl rfl (fun w hs => l19DrawChips_c _ _ _ _ w ⟨hs.at_ 0 rfl, Code_.of0 hc hbk hs.upd, hok⟩) ?_
  rintro x1 hx1
  refine asI rfl rfl rfl ?_
  refine rNil ?_
  refine qSeq rfl ?_
  refine hSeq ?_
  refine hReg (sq 0 (sl 1 (sq 2 sz))) (by kernel_rfl) ?_
  refine mvP rfl rfl rfl ?_
  refine callK 0 rfl srcP_mem srcP_st Try.call59 trv rfl rfl (fun w hs => l19DrawChips_c _ _ _ _ w ⟨hs.at_ 0 rfl, Code_.of0 hc hbk hs.upd, hok⟩) ?_
  rintro x2 hx2
  refine asI rfl rfl rfl ?_
  refine rNil ?_
  refine qSeq rfl ?_
  refine hSeq ?_
  refine hSeq ?_
  refine hReg (sq 0 (sl 1 (sq 2 sz))) (by kernel_rfl) ?_
  refine mvP rfl rfl rfl ?_
  refine callK 0 rfl srcP_mem srcP_st Try.call49 trv rfl rfl (fun w hs => l01Next_c _ _ _ _ _ w ⟨hs.at_ 0 rfl, Code_.of0 hc hbk hs.upd, hok⟩) ?_
  rintro x3 hx3
  refine eql rfl rfl rfl rfl ?_
  refine rNil ?_
  refine qSeq rfl ?_
  refine hIfD rfl (fun c4 => ?_) (fun c4 => ?_)
  · -- c4T
    refine hSeq ?_
    refine hReg (sq 0 (sq 1 (sl 2 (sq 3 (sq 4 (sq 5 (sl 6 (sl 7 (sq 8 sz))))))))) (by kernel_rfl) ?_
    refine mvI rfl rfl rfl ?_
    refine mvI rfl rfl rfl ?_
    refine callP Try.call19 trv rfl rfl (fun w hs => spec_PotOdds_c _ _ w) ?_
    refine mv rfl rfl rfl ?_
    refine ext rfl rfl rfl rfl ?_
    refine ext rfl rfl rfl rfl ?_
    refine alc Try.zeroValue26 rfl trv1 rfl rfl (fun bka3 hbka3 => ?_)
    refine stAl 0 rfl Try.sizeOf26 trv rfl rfl rfl rfl rfl (by simp [Value.oneCell']) rfl ?_
    refine asI rfl rfl rfl ?_
    refine rNil ?_
    refine qSeq rfl ?_
    refine hSeq ?_
    refine hReg (sq 0 (sq 1 sz)) (by kernel_rfl) ?_
    refine mvI rfl rfl rfl ?_
    refine eql rfl rfl rfl rfl ?_
    refine rNil ?_
    refine qSeq rfl ?_
    refine hIfD rfl (fun c5 => ?_) (fun c5 => ?_)
    · -- c5T
      refine hSeq ?_
      refine hDraw (by kernel_rfl) (sq 0 (sq 1 (sq 2 (sq 3 (sq 4 (sf 5 sz)))))) (by kernel_rfl) (.cons_cons _ (.cons _ (.cons _ .slnil))) ?_
      refine mvI rfl rfl rfl ?_
      refine mvI rfl rfl rfl ?_
      refine ldAq Try.isAgg26 Try.sizeOf26 (cBs 0 rfl) rfl rfl rfl rfl ?_
      refine asI rfl rfl rfl ?_
      refine asI rfl rfl rfl ?_
      refine stAf 2 rfl Try.sizeOf26 rfl rfl rfl rfl rfl (by simp [Value.oneCell']) rfl ?_
      refine rNil ?_
      refine qSeq rfl ?_
      refine hRet ?_
      exact fun w hs => ⟨[.int .i64 _, .int .i64 _, _], ⟨rfl, ⟨rfl, ⟨⟨_, rfl, run_load_agg Try.isAgg26 Try.sizeOf26 rfl (cBs 2 rfl w hs)⟩, trivial⟩⟩⟩, ⟨(_, _, _, _), rfl, trivial, hs.upd⟩⟩
    · -- c5F
      refine hSkip ?_
      refine qSeq rfl ?_
      refine hSeq ?_
      refine hReg (sq 0 (sq 1 (sq 2 (sl 3 (sq 4 (sq 5 (sl 6 sz))))))) (by kernel_rfl) ?_
      refine mvI rfl rfl rfl ?_
      refine mvI rfl rfl rfl ?_
      refine mvP rfl rfl rfl ?_
      refine callK 1 rfl srcP_mem srcP_st Try.call60 trv rfl rfl (fun w hs => l19DrawShare_c _ _ _ _ w ⟨hs.at_ 1 rfl, Code_.of0 hc hbk hs.upd, hok⟩) ?_
      rintro ⟨x6n, x6d⟩ hx6
      refine asI rfl rfl rfl ?_
      refine asI rfl rfl rfl ?_
      refine stAl 2 rfl Try.sizeOf26 trv rfl rfl rfl rfl rfl (by simp [Value.oneCell']) rfl ?_
      refine rNil ?_
      refine qSeq rfl ?_
      refine hRet ?_
      exact fun w hs => ⟨[.int .i64 _, .int .i64 _, _], ⟨rfl, ⟨rfl, ⟨⟨_, rfl, run_load_agg Try.isAgg26 Try.sizeOf26 rfl (cBs 2 rfl w hs)⟩, trivial⟩⟩⟩, ⟨(_, _, _, _), rfl, trivial, hs.upd⟩⟩
  · -- c4F
    refine hSkip ?_
    refine qSeq rfl ?_
    refine hSeq ?_
    refine hReg (sq 0 (sq 1 (sq 2 (sl 3 (sq 4 (sq 5 (sl 6 sz))))))) (by kernel_rfl) ?_
    refine mvI rfl rfl rfl ?_
    refine mvI rfl rfl rfl ?_
    refine mvP rfl rfl rfl ?_
    refine callK 0 rfl srcP_mem srcP_st Try.call60 trv rfl rfl (fun w hs => l19DrawShare_c _ _ _ _ w ⟨hs.at_ 0 rfl, Code_.of0 hc hbk hs.upd, hok⟩) ?_
    rintro ⟨x7n, x7d⟩ hx7
    refine asI rfl rfl rfl ?_
    refine asI rfl rfl rfl ?_
    refine stAl 1 rfl Try.sizeOf26 trv rfl rfl rfl rfl rfl (by simp [Value.oneCell']) rfl ?_
    refine rNil ?_
    refine qSeq rfl ?_
    refine hRet ?_
    exact fun w hs => ⟨[.int .i64 _, .int .i64 _, _], ⟨rfl, ⟨rfl, ⟨⟨_, rfl, run_load_agg Try.isAgg26 Try.sizeOf26 rfl (cBs 1 rfl w hs)⟩, trivial⟩⟩⟩, ⟨(_, _, _, _), rfl, trivial, hs.upd⟩⟩

theorem DrawBetValue_c (ca : Option Addr) (bs : List Int) (cc : Nat) (w : World) (hc : CellsAt ca (bs.map (Value.int .u8)) w) (hok : okBytes bs) :
    Calls Try.prog 37 #[.slice ca bs.length cc] w (Ret fun v w' => ∃ x : Int × Int × (Int × Int) × (Int × Int), v = .tuple #[.int .i64 x.1, .int .i64 x.2.1, .agg #[.int .i64 x.2.2.1.1, .int .i64 x.2.2.1.2], .agg #[.int .i64 x.2.2.2.1, .int .i64 x.2.2.2.2]] ∧ True ∧ Ext w w') := by
  refine fn (M := none_) (rs := [.tmp 2, .tmp 3, .cell 4 26, .cell 5 26]) Try.func37 rfl Try.ntmps37 rfl rfl (Sep.start _ _) ?_
  refine hSeq ?_
  refine hReg (sq 0 (sq 1 (sl 2 (sl 3 sz)))) (by kernel_rfl) ?_
  refine asI rfl rfl rfl ?_
  refine asI rfl rfl rfl ?_
  refine alc Try.zeroValue26 rfl trv1 rfl rfl (fun bka1 hbka1 => ?_)
  refine alc Try.zeroValue26 rfl trv1 rfl rfl (fun bka2 hbka2 => ?_)
  refine rNil ?_
  refine qSeq rfl ?_
  refine hSeq ?_
  refine hReg (sq 0 (sl 1 (sq 2 sz))) (by kernel_rfl) ?_
  refine mvS rfl rfl rfl ?_
  refine callN Try.call47 trv1 rfl rfl (fun w hs => (l01From_c _ _ _ w (hc.ext hs.upd) hok).mono (fun _ _ ⟨v, h0, bk, h1, h2, h3, h4⟩ => ⟨v, h0, bk, h1, Nat.le_trans hs.1.size h2, h3, h4⟩)) ?_
  rintro bk hbk
  refine asn rfl rfl rfl ?_
  refine rNil ?_
  refine qSeq rfl ?_
  refine hSeq ?_
  refine hReg (sq 0 (sl 1 (sq 2 sz))) (by kernel_rfl) ?_
  refine mvP rfl rfl rfl ?_
  refine callK 0 rfl srcP_mem srcP_st Try.call59 trv rfl rfl (fun w hs => l19DrawChips_c _ _ _ _ w ⟨hs.at_ 0 rfl, Code_.of0 hc hbk hs.upd, hok⟩) ?_
  rintro x1 hx1
  refine asI rfl rfl rfl ?_
  refine rNil ?_
  refine qSeq rfl ?_
  refine hSeq ?_
  refine hReg (sq 0 (sl 1 (sq 2 sz))) (by kernel_rfl) ?_
  refine mvP rfl rfl rfl ?_
  refine callK 0 rfl srcP_mem srcP_st Try.call59 trv rfl rfl (fun w hs => l19DrawChips_c _ _ _ _ w ⟨hs.at_ 0 rfl, Code_.of0 hc hbk hs.upd, hok⟩) ?_
  rintro x2 hx2
  refine asI rfl rfl rfl ?_
  refine rNil ?_
  refine qSeq rfl ?_
  refine hSeq ?_
  refine hReg (sq 0 (sl 1 (sl 2 (sl 3 sz)))) (by kernel_rfl) ?_
  refine mvP rfl rfl rfl ?_
  refine callK 0 rfl srcP_mem srcP_st Try.call60 trv rfl rfl (fun w hs => l19DrawShare_c _ _ _ _ w ⟨hs.at_ 0 rfl, Code_.of0 hc hbk hs.upd, hok⟩) ?_
  rintro ⟨x3n, x3d⟩ hx3
  refine alc Try.zeroValue26 rfl trv1 rfl rfl (fun bka4 hbka4 => ?_)
  refine stAl 0 rfl Try.sizeOf26 trv rfl rfl rfl rfl rfl (by simp [Value.oneCell']) rfl ?_
  refine rNil ?_
  refine qSeq rfl ?_
  refine hSeq ?_
  refine hDraw (by kernel_rfl) (sq 0 (sq 1 (sq 2 (sq 3 (sl 4 (sq 5 (sq 6 (sl 7 (sf 8 sz))))))))) (by kernel_rfl) (.cons_cons _ (.cons _ (.cons _ (.cons _ .slnil)))) ?_
  refine mvI rfl rfl rfl ?_
  refine mvI rfl rfl rfl ?_
  refine ldAq Try.isAgg26 Try.sizeOf26 (cBs 0 rfl) rfl rfl rfl rfl ?_
  refine mvP rfl rfl rfl ?_
  refine callK 1 rfl srcP_mem srcP_st Try.call60 (fun _ h => h.sub (.cons_cons _ (.cons _ (.cons _ (.cons _ .slnil))))) rfl rfl (fun w hs => l19DrawShare_c _ _ _ _ w ⟨hs.at_ 1 rfl, Code_.of0 hc hbk hs.upd, hok⟩) ?_
  rintro ⟨x4n, x4d⟩ hx4
  refine asI rfl rfl rfl ?_
  refine asI rfl rfl rfl ?_
  refine stAl 3 rfl Try.sizeOf26 (fun _ h => h.sub (.cons_cons _ (.cons _ (.cons _ (.cons _ .slnil))))) rfl rfl rfl rfl rfl (by simp [Value.oneCell']) rfl ?_
  refine stAf 2 rfl Try.sizeOf26 rfl rfl rfl rfl rfl (by simp [Value.oneCell']) rfl ?_
  refine rNil ?_
  refine qSeq rfl ?_
  refine hRet ?_
  exact fun w hs => ⟨[.int .i64 _, .int .i64 _, _, _], ⟨rfl, ⟨rfl, ⟨⟨_, rfl, run_load_agg Try.isAgg26 Try.sizeOf26 rfl (cBs 3 rfl w hs)⟩, ⟨⟨_, rfl, run_load_agg Try.isAgg26 Try.sizeOf26 rfl (cBs 2 rfl w hs)⟩, trivial⟩⟩⟩⟩, ⟨(_, _, (_, _), (_, _)), rfl, trivial, hs.upd⟩⟩

theorem DrawBluffShare_c (ca : Option Addr) (bs : List Int) (cc : Nat) (w : World) (hc : CellsAt ca (bs.map (Value.int .u8)) w) (hok : okBytes bs) :
    Calls Try.prog 38 #[.slice ca bs.length cc] w (Ret fun v w' => ∃ x : Int × Int, v = .tuple #[.int .i64 x.1, .int .i64 x.2] ∧ True ∧ Ext w w') := by
  refine fn (M := none_) (rs := [.tmp 2, .tmp 3]) Try.func38 rfl Try.ntmps38 rfl rfl (Sep.start _ _) ?_
  refine hSeq ?_
  refine hReg (sq 0 (sq 1 sz)) (by kernel_rfl) ?_
  refine asI rfl rfl rfl ?_
  refine asI rfl rfl rfl ?_
  refine rNil ?_
  refine qSeq rfl ?_
  refine hSeq ?_
  refine hReg (sq 0 (sl 1 (sq 2 (sq 3 (sq 4 (sq 5 sz)))))) (by kernel_rfl) ?_
  refine mvS rfl rfl rfl ?_
  refine callV Try.call35 trv rfl rfl (fun w hs => DrawPotOdds_c _ _ _ w (hc.ext hs.upd) hok) ?_
  rintro ⟨x, y⟩ h
  refine ext rfl rfl rfl rfl ?_
  refine ext rfl rfl rfl rfl ?_
  refine asI rfl rfl rfl ?_
  refine asI rfl rfl rfl ?_
  refine rNil ?_
  refine qSeq rfl ?_
  refine hRet ?_
  exact fun w hs => ⟨[.int .i64 _, .int .i64 _], ⟨rfl, ⟨rfl, trivial⟩⟩, ⟨(_, _), rfl, trivial, hs.upd⟩⟩

theorem DrawStackToPot_c (ca : Option Addr) (bs : List Int) (cc : Nat) (w : World) (hc : CellsAt ca (bs.map (Value.int .u8)) w) (hok : okBytes bs) :
    Calls Try.prog 39 #[.slice ca bs.length cc] w (Ret fun v w' => ∃ x : Int × Int, v = .tuple #[.int .i64 x.1, .int .i64 x.2] ∧ True ∧ Ext w w') := by
  refine fn (M := none_) (rs := [.tmp 2, .tmp 3]) Try.func39 rfl Try.ntmps39 rfl rfl (Sep.start _ _) ?_
  refine hSeq ?_
  refine hReg (sq 0 (sq 1 sz)) (by kernel_rfl) ?_
  refine asI rfl rfl rfl ?_
  refine asI rfl rfl rfl ?_
  refine rNil ?_
  refine qSeq rfl ?_
  refine hSeq ?_
  refine hReg (sq 0 (sl 1 (sq 2 (sq 3 (sq 4 (sq 5 sz)))))) (by kernel_rfl) ?_
  refine mvS rfl rfl rfl ?_
  refine callV Try.call35 trv rfl rfl (fun w hs => DrawPotOdds_c _ _ _ w (hc.ext hs.upd) hok) ?_
  rintro ⟨x, y⟩ h
  refine ext rfl rfl rfl rfl ?_
  refine ext rfl rfl rfl rfl ?_
  refine asI rfl rfl rfl ?_
  refine asI rfl rfl rfl ?_
  refine rNil ?_
  refine qSeq rfl ?_
  refine hRet ?_
  exact fun w hs => ⟨[.int .i64 _, .int .i64 _], ⟨rfl, ⟨rfl, trivial⟩⟩, ⟨(_, _), rfl, trivial, hs.upd⟩⟩

theorem big_c (ca : Option Addr) (bs : List Int) (cc : Nat) (w : World) :
    Calls Try.prog 23 #[.slice ca bs.length cc] w (Ret fun v w' => v = .bool (decide (4096 < bs.length)) ∧ Ext w w') := by
  refine fn (M := none_) (rs := [.tmp 2]) Try.func23 rfl Try.ntmps23 rfl rfl (Sep.start _ _) ?_
  refine hSeq ?_
  refine hReg (sq 0 sz) (by kernel_rfl) ?_
  refine asB rfl rfl rfl ?_
  refine rNil ?_
  refine qSeq rfl ?_
  refine hSeq ?_
  refine hReg (sq 0 (sq 1 (sq 2 (sq 3 sz)))) (by kernel_rfl) ?_
  refine mvS rfl rfl rfl ?_
  refine lenS Try.runUnderlying31 rfl rfl rfl ?_
  refine gtr rfl rfl rfl rfl ?_
  refine asB rfl rfl rfl ?_
  refine rNil ?_
  refine qSeq rfl ?_
  refine hRet ?_
  exact fun w hs => ⟨[.bool _], ⟨rfl, trivial⟩, ⟨by first | exact bD (by omega) | exact bT (by omega) | exact bF (by omega), hs.upd⟩⟩

end Go.Proofs.Ytglhfigmenljoaa
