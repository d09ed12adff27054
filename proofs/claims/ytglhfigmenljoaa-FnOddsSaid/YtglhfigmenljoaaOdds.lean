/- Contracts of the odds. Their conditions stand in each. -/
import Derived.Test.YtglhfigmenljoaaEng4
import Derived.Test.YtglhfigmenljoaaMath
import Derived.Test.YtglhfigmenljoaaRat
import Derived.Test.YtglhfigmenljoaaRows
namespace Go.Proofs.Ytglhfigmenljoaa
open Go Go.RowKit V
set_option linter.unusedVariables false
set_option linter.unusedSimpArgs false
set_option maxRecDepth 100000

theorem fl35_0 : Fld Try.prog 35 0 0 := by
  intro w ad; simp [Instr.fieldAt, Try.runUnderlying35, Instr.sureAddr, fieldPlace, Try.sizeOf2]
theorem fl35_1 : Fld Try.prog 35 1 1 := by
  intro w ad; simp [Instr.fieldAt, Try.runUnderlying35, Instr.sureAddr, fieldPlace, Try.sizeOf2]
theorem fl57_0 : Fld Try.prog 57 0 0 := by
  intro w ad; simp [Instr.fieldAt, Try.runUnderlying57, Instr.sureAddr, fieldPlace, Try.sizeOf2]
theorem bld26_1 (v1 : Value) (h1 : v1.cells = #[v1]) : ∀ w, (Instr.build 26 ([(1, v1)] : List (Nat × Value)).toArray).run Try.prog w = .ok (.agg ([.int .i64 0, v1] : List Value).toArray) w := by
  intro w; simp [Instr.build, Instr.fill, Try.zeroValue26, Try.runUnderlying26, aggCells, Try.sizeOf2, h1]
theorem bld57   : ∀ w, (Instr.build 57 ([] : List (Nat × Value)).toArray).run Try.prog w = .ok (.agg ([.int .i64 0] : List Value).toArray) w := by
  intro w; simp [Instr.build, Instr.fill, Try.zeroValue57, Try.runUnderlying57, aggCells, Try.sizeOf2]

theorem quotR_w {a b x d d' : Int} (h : ((0 ≤ a ∧ a ≤ 1000000) ∧ (0 ≤ b ∧ b ≤ 1000000)) → d' = d) : Math.quotR a b x d' = Math.quotR a b x d := by
  unfold Math.quotR; split
  · rename_i hx; rw [h hx]
  · rfl
theorem impl_areChips_c (a b : Int) (w : World) :
    Calls Try.prog 56 #[.int .i64 a, .int .i64 b] w (Ret fun v w' => v = .bool (decide ((0 ≤ a ∧ a ≤ 1000000) ∧ (0 ≤ b ∧ b ≤ 1000000))) ∧ Ext w w') := by
  refine fn (M := none_) (rs := [.tmp 4]) Try.func56 rfl Try.ntmps56 rfl rfl (Sep.start _ _) ?_
  refine hSeq ?_
  refine hReg (sq 0 sz) (by kernel_rfl) ?_
  refine asB rfl rfl rfl ?_
  refine rNil ?_
  refine qSeq rfl ?_
  refine hSeq ?_
  refine hReg (sq 0 (sl 1 (sq 2 (sq 3 (sl 4 (sq 5 (sq 6 sz))))))) (by kernel_rfl) ?_
  refine mvI rfl rfl rfl ?_
  refine callP Try.call42 trv rfl rfl (fun w hs => impl_within_c _ _ _ w) ?_
  refine mvB rfl rfl rfl ?_
  refine rBoolD (d := 7) rfl (fun g1 => ?_) (fun g1 => ?_)
  · -- g1T
    refine mvI rfl rfl rfl ?_
    refine callP Try.call42 trv rfl rfl (fun w hs => impl_within_c _ _ _ w) ?_
    refine pickB rfl rfl rfl rfl ?_
    refine asB rfl rfl rfl ?_
    refine rNil ?_
    refine qSeq rfl ?_
    refine hRet ?_
    exact fun w hs => ⟨[.bool _], ⟨rfl, trivial⟩, ⟨by first | exact bD (by omega) | exact bF (by omega), hs.upd⟩⟩
  · -- g1F
    refine rSkipQ rfl rfl ?_
    refine rSkipL trv rfl rfl ?_
    refine pickB rfl rfl rfl rfl ?_
    refine asB rfl rfl rfl ?_
    refine rNil ?_
    refine qSeq rfl ?_
    refine hRet ?_
    exact fun w hs => ⟨[.bool _], ⟨rfl, trivial⟩, ⟨by first | exact bD (by omega) | exact bF (by omega), hs.upd⟩⟩

theorem spec_l19Chips_c (a : Int) (w : World) :
    Calls Try.prog 44 #[.int .i64 a] w (Ret fun v w' => v = .bool (decide (0 ≤ a ∧ a ≤ 1000000)) ∧ Ext w w') := by
  refine fn (M := none_) (rs := [.tmp 2]) Try.func44 rfl Try.ntmps44 rfl rfl (Sep.start _ _) ?_
  refine hSeq ?_
  refine hReg (sq 0 sz) (by kernel_rfl) ?_
  refine asB rfl rfl rfl ?_
  refine rNil ?_
  refine qSeq rfl ?_
  refine hSeq ?_
  refine hReg (sq 0 (sl 1 (sq 2 sz))) (by kernel_rfl) ?_
  refine mvI rfl rfl rfl ?_
  refine callP Try.call40 trv rfl rfl (fun w hs => spec_l01In_c _ _ _ w) ?_
  refine asB rfl rfl rfl ?_
  refine rNil ?_
  refine qSeq rfl ?_
  refine hRet ?_
  exact fun w hs => ⟨[.bool _], ⟨rfl, trivial⟩, ⟨by first | exact bD (by omega) | exact bF (by omega), hs.upd⟩⟩

theorem impl_chipShare_c (a b num den : Int) (w : World) (h : ((0 ≤ a ∧ a ≤ 1000000) ∧ (0 ≤ b ∧ b ≤ 1000000)) → -1000000000 ≤ num ∧ num ≤ 1000000000 ∧ 0 ≤ den ∧ den ≤ 1000000000) :
    Calls Try.prog 46 #[.int .i64 a, .int .i64 b, .int .i64 num, .int .i64 den] w (Ret fun v w' => v = resR (Math.quotR a b num den) ∧ Ext w w') := by
  refine fn (M := none_) (rs := [.cell 8 26, .tmp 9]) Try.func46 rfl Try.ntmps46 rfl rfl (Sep.start _ _) ?_
  refine hSeq ?_
  refine hReg (sl 0 (sq 1 sz)) (by kernel_rfl) ?_
  refine alc Try.zeroValue26 rfl trv1 rfl rfl (fun bka1 hbka1 => ?_)
  refine asI rfl rfl rfl ?_
  refine rNil ?_
  refine qSeq rfl ?_
  refine hSeq ?_
  refine hBlk ?_
  refine hSeq ?_
  refine hReg (sq 0 (sq 1 (sl 2 (sq 3 (sq 4 sz))))) (by kernel_rfl) ?_
  refine mvI rfl rfl rfl ?_
  refine mvI rfl rfl rfl ?_
  refine callP Try.call56 trv rfl rfl (fun w hs => impl_areChips_c _ _ w) ?_
  refine notD rfl rfl rfl ?_
  refine asB rfl rfl rfl ?_
  refine rNil ?_
  refine qSeq rfl ?_
  refine hIfD rfl (fun c1 => ?_) (fun c1 => ?_)
  · -- c1T
    refine hSeq ?_
    refine hReg (sq 0 (sl 1 (sq 2 sz))) (by kernel_rfl) ?_
    refine bld rfl rfl rfl (bld26) ?_
    refine stAl 0 rfl Try.sizeOf26 trv rfl rfl rfl rfl rfl (by simp [Value.oneCell']) rfl ?_
    refine asI rfl rfl rfl ?_
    refine rNil ?_
    refine qSeq rfl ?_
    refine hRet ?_
    exact fun w hs => ⟨[_, .int .i64 _], ⟨⟨_, rfl, run_load_agg Try.isAgg26 Try.sizeOf26 rfl (cBs 0 rfl w hs)⟩, ⟨rfl, trivial⟩⟩, ⟨by first | exact congrArg resR (Math.quotR_no (by omega)).symm | exact congrArg resR (Math.quotR_0 (by omega) (by omega)).symm | exact congrArg resR (Math.quotR_1 (by omega) (by omega)).symm, hs.upd⟩⟩
  · -- c1F
    refine hSeq ?_
    refine hReg (sq 0 (sq 1 (sq 2 sz))) (by kernel_rfl) ?_
    refine mvI rfl rfl rfl ?_
    refine eql rfl rfl rfl rfl ?_
    refine asB rfl rfl rfl ?_
    refine rNil ?_
    refine qSeq rfl ?_
    refine hIfD rfl (fun c2 => ?_) (fun c2 => ?_)
    · -- c2T
      refine hSeq ?_
      refine hReg (sq 0 (sl 1 (sq 2 sz))) (by kernel_rfl) ?_
      refine bld rfl rfl rfl (bld26) ?_
      refine stAl 0 rfl Try.sizeOf26 trv rfl rfl rfl rfl rfl (by simp [Value.oneCell']) rfl ?_
      refine asI rfl rfl rfl ?_
      refine rNil ?_
      refine qSeq rfl ?_
      refine hRet ?_
      exact fun w hs => ⟨[_, .int .i64 _], ⟨⟨_, rfl, run_load_agg Try.isAgg26 Try.sizeOf26 rfl (cBs 0 rfl w hs)⟩, ⟨rfl, trivial⟩⟩, ⟨by first | exact congrArg resR (Math.quotR_no (by omega)).symm | exact congrArg resR (Math.quotR_0 (by omega) (by omega)).symm | exact congrArg resR (Math.quotR_1 (by omega) (by omega)).symm, hs.upd⟩⟩
    · -- c2F
      refine hSkip ?_
      refine qSeq rfl ?_
      refine hSeq ?_
      refine hReg (sq 0 (sq 1 (sl 2 (sq 3 (sq 4 (sl 5 (sq 6 sz))))))) (by kernel_rfl) ?_
      refine mvI rfl rfl rfl ?_
      refine mvI rfl rfl rfl ?_
      refine callP Try.call62 trv rfl rfl (fun w hs => impl_reduced_c _ _ w (by omega) (by omega) (by omega)) ?_
      refine ext rfl rfl rfl rfl ?_
      refine ext rfl rfl rfl rfl ?_
      refine stAl 0 rfl Try.sizeOf26 trv rfl rfl rfl rfl rfl (by simp [Value.oneCell']) rfl ?_
      refine asI rfl rfl rfl ?_
      refine rNil ?_
      refine qSeq rfl ?_
      refine hRet ?_
      exact fun w hs => ⟨[_, .int .i64 _], ⟨⟨_, rfl, run_load_agg Try.isAgg26 Try.sizeOf26 rfl (cBs 0 rfl w hs)⟩, ⟨rfl, trivial⟩⟩, ⟨by first | exact congrArg resR (Math.quotR_no (by omega)).symm | exact congrArg resR (Math.quotR_0 (by omega) (by omega)).symm | exact congrArg resR (Math.quotR_1 (by omega) (by omega)).symm, hs.upd⟩⟩

theorem spec_l19Quotient_c (num den : Int) (w : World) (h : -1000000000 ≤ num ∧ num ≤ 1000000000 ∧ 0 ≤ den ∧ den ≤ 1000000000) :
    Calls Try.prog 45 #[.int .i64 num, .int .i64 den] w (Ret fun v w' => v = resR (Math.quot num den) ∧ Ext w w') := by
  refine fn (M := none_) (rs := [.cell 4 26, .tmp 5]) Try.func45 rfl Try.ntmps45 rfl rfl (Sep.start _ _) ?_
  refine hSeq ?_
  refine hReg (sl 0 (sq 1 sz)) (by kernel_rfl) ?_
  refine alc Try.zeroValue26 rfl trv1 rfl rfl (fun bka1 hbka1 => ?_)
  refine asI rfl rfl rfl ?_
  refine rNil ?_
  refine qSeq rfl ?_
  refine hSeq ?_
  refine hSeq ?_
  refine hReg (sq 0 (sq 1 sz)) (by kernel_rfl) ?_
  refine mvI rfl rfl rfl ?_
  refine eql rfl rfl rfl rfl ?_
  refine rNil ?_
  refine qSeq rfl ?_
  refine hIfD rfl (fun c1 => ?_) (fun c1 => ?_)
  · -- c1T
    refine hSeq ?_
    refine hReg (sq 0 (sl 1 (sq 2 sz))) (by kernel_rfl) ?_
    refine bld rfl rfl rfl (bld26) ?_
    refine stAl 0 rfl Try.sizeOf26 trv rfl rfl rfl rfl rfl (by simp [Value.oneCell']) rfl ?_
    refine asI rfl rfl rfl ?_
    refine rNil ?_
    refine qSeq rfl ?_
    refine hRet ?_
    exact fun w hs => ⟨[_, .int .i64 _], ⟨⟨_, rfl, run_load_agg Try.isAgg26 Try.sizeOf26 rfl (cBs 0 rfl w hs)⟩, ⟨rfl, trivial⟩⟩, ⟨by simp [Math.quot, resR, one, *], hs.upd⟩⟩
  · -- c1F
    refine hSkip ?_
    refine qSeq rfl ?_
    refine hSeq ?_
    refine hReg (sq 0 (sq 1 (sl 2 (sq 3 (sq 4 (sl 5 (sq 6 sz))))))) (by kernel_rfl) ?_
    refine mvI rfl rfl rfl ?_
    refine mvI rfl rfl rfl ?_
    refine callP Try.call63 trv rfl rfl (fun w hs => spec_l01Ratio_c _ _ w (by omega) (by omega) (by omega)) ?_
    refine ext rfl rfl rfl rfl ?_
    refine ext rfl rfl rfl rfl ?_
    refine stAl 0 rfl Try.sizeOf26 trv rfl rfl rfl rfl rfl (by simp [Value.oneCell']) rfl ?_
    refine asI rfl rfl rfl ?_
    refine rNil ?_
    refine qSeq rfl ?_
    refine hRet ?_
    exact fun w hs => ⟨[_, .int .i64 _], ⟨⟨_, rfl, run_load_agg Try.isAgg26 Try.sizeOf26 rfl (cBs 0 rfl w hs)⟩, ⟨rfl, trivial⟩⟩, ⟨by simp [Math.quot, resR, one, *], hs.upd⟩⟩

theorem impl_PotOdds_c (a b : Int) (w : World) :
    Calls Try.prog 20 #[.int .i64 a, .int .i64 b] w (Ret fun v w' => v = resR (Math.quotR a b b (a + b)) ∧ Ext w w') := by
  refine fn (M := none_) (rs := [.cell 4 26, .tmp 5]) Try.func20 rfl Try.ntmps20 rfl rfl (Sep.start _ _) ?_
  refine hSeq ?_
  refine hReg (sl 0 (sq 1 sz)) (by kernel_rfl) ?_
  refine alc Try.zeroValue26 rfl trv1 rfl rfl (fun bka1 hbka1 => ?_)
  refine asI rfl rfl rfl ?_
  refine rNil ?_
  refine qSeq rfl ?_
  refine hSeq ?_
  refine hReg (sq 0 (sq 1 (sq 2 (sq 3 (sq 4 (sq 5 (sl 6 (sq 7 (sq 8 (sl 9 (sq 10 sz))))))))))) (by kernel_rfl) ?_
  refine mvI rfl rfl rfl ?_
  refine mvI rfl rfl rfl ?_
  refine mvI rfl rfl rfl ?_
  refine mvI rfl rfl rfl ?_
  refine mvI rfl rfl rfl ?_
  refine addW rfl rfl rfl rfl ?_
  refine callP Try.call46 trv rfl rfl (fun w hs => impl_chipShare_c _ _ _ _ w (by intro hx; first | omega | (rw [wrapI (by first | omega | (rw [wrapI (by omega)]; omega))]; first | omega | (rw [wrapI (by omega)]; omega)))) ?_
  refine ext rfl rfl rfl rfl ?_
  refine ext rfl rfl rfl rfl ?_
  refine stAl 0 rfl Try.sizeOf26 trv rfl rfl rfl rfl rfl (by simp [Value.oneCell']) rfl ?_
  refine asI rfl rfl rfl ?_
  refine rNil ?_
  refine qSeq rfl ?_
  refine hRet ?_
  exact fun w hs => ⟨[_, .int .i64 _], ⟨⟨_, rfl, run_load_agg Try.isAgg26 Try.sizeOf26 rfl (cBs 0 rfl w hs)⟩, ⟨rfl, trivial⟩⟩, ⟨congrArg resR (quotR_w (by intro hx; exact wrapI (by omega))), hs.upd⟩⟩

theorem impl_BreakEvenFolds_c (a b : Int) (w : World) :
    Calls Try.prog 26 #[.int .i64 a, .int .i64 b] w (Ret fun v w' => v = resR (Math.quotR a b b (a + b)) ∧ Ext w w') := by
  refine fn (M := none_) (rs := [.cell 4 26, .tmp 5]) Try.func26 rfl Try.ntmps26 rfl rfl (Sep.start _ _) ?_
  refine hSeq ?_
  refine hReg (sl 0 (sq 1 sz)) (by kernel_rfl) ?_
  refine alc Try.zeroValue26 rfl trv1 rfl rfl (fun bka1 hbka1 => ?_)
  refine asI rfl rfl rfl ?_
  refine rNil ?_
  refine qSeq rfl ?_
  refine hSeq ?_
  refine hReg (sq 0 (sq 1 (sq 2 (sq 3 (sq 4 (sq 5 (sl 6 (sq 7 (sq 8 (sl 9 (sq 10 sz))))))))))) (by kernel_rfl) ?_
  refine mvI rfl rfl rfl ?_
  refine mvI rfl rfl rfl ?_
  refine mvI rfl rfl rfl ?_
  refine mvI rfl rfl rfl ?_
  refine mvI rfl rfl rfl ?_
  refine addW rfl rfl rfl rfl ?_
  refine callP Try.call46 trv rfl rfl (fun w hs => impl_chipShare_c _ _ _ _ w (by intro hx; first | omega | (rw [wrapI (by first | omega | (rw [wrapI (by omega)]; omega))]; first | omega | (rw [wrapI (by omega)]; omega)))) ?_
  refine ext rfl rfl rfl rfl ?_
  refine ext rfl rfl rfl rfl ?_
  refine stAl 0 rfl Try.sizeOf26 trv rfl rfl rfl rfl rfl (by simp [Value.oneCell']) rfl ?_
  refine asI rfl rfl rfl ?_
  refine rNil ?_
  refine qSeq rfl ?_
  refine hRet ?_
  exact fun w hs => ⟨[_, .int .i64 _], ⟨⟨_, rfl, run_load_agg Try.isAgg26 Try.sizeOf26 rfl (cBs 0 rfl w hs)⟩, ⟨rfl, trivial⟩⟩, ⟨congrArg resR (quotR_w (by intro hx; exact wrapI (by omega))), hs.upd⟩⟩

theorem impl_DefenceShare_c (a b : Int) (w : World) :
    Calls Try.prog 28 #[.int .i64 a, .int .i64 b] w (Ret fun v w' => v = resR (Math.quotR a b a (a + b)) ∧ Ext w w') := by
  refine fn (M := none_) (rs := [.cell 4 26, .tmp 5]) Try.func28 rfl Try.ntmps28 rfl rfl (Sep.start _ _) ?_
  refine hSeq ?_
  refine hReg (sl 0 (sq 1 sz)) (by kernel_rfl) ?_
  refine alc Try.zeroValue26 rfl trv1 rfl rfl (fun bka1 hbka1 => ?_)
  refine asI rfl rfl rfl ?_
  refine rNil ?_
  refine qSeq rfl ?_
  refine hSeq ?_
  refine hReg (sq 0 (sq 1 (sq 2 (sq 3 (sq 4 (sq 5 (sl 6 (sq 7 (sq 8 (sl 9 (sq 10 sz))))))))))) (by kernel_rfl) ?_
  refine mvI rfl rfl rfl ?_
  refine mvI rfl rfl rfl ?_
  refine mvI rfl rfl rfl ?_
  refine mvI rfl rfl rfl ?_
  refine mvI rfl rfl rfl ?_
  refine addW rfl rfl rfl rfl ?_
  refine callP Try.call46 trv rfl rfl (fun w hs => impl_chipShare_c _ _ _ _ w (by intro hx; first | omega | (rw [wrapI (by first | omega | (rw [wrapI (by omega)]; omega))]; first | omega | (rw [wrapI (by omega)]; omega)))) ?_
  refine ext rfl rfl rfl rfl ?_
  refine ext rfl rfl rfl rfl ?_
  refine stAl 0 rfl Try.sizeOf26 trv rfl rfl rfl rfl rfl (by simp [Value.oneCell']) rfl ?_
  refine asI rfl rfl rfl ?_
  refine rNil ?_
  refine qSeq rfl ?_
  refine hRet ?_
  exact fun w hs => ⟨[_, .int .i64 _], ⟨⟨_, rfl, run_load_agg Try.isAgg26 Try.sizeOf26 rfl (cBs 0 rfl w hs)⟩, ⟨rfl, trivial⟩⟩, ⟨congrArg resR (quotR_w (by intro hx; exact wrapI (by omega))), hs.upd⟩⟩

theorem impl_BluffShare_c (a b : Int) (w : World) :
    Calls Try.prog 17 #[.int .i64 a, .int .i64 b] w (Ret fun v w' => v = resR (Math.quotR a b b (a + 2 * b)) ∧ Ext w w') := by
  refine fn (M := none_) (rs := [.cell 4 26, .tmp 5]) Try.func17 rfl Try.ntmps17 rfl rfl (Sep.start _ _) ?_
  refine hSeq ?_
  refine hReg (sl 0 (sq 1 sz)) (by kernel_rfl) ?_
  refine alc Try.zeroValue26 rfl trv1 rfl rfl (fun bka1 hbka1 => ?_)
  refine asI rfl rfl rfl ?_
  refine rNil ?_
  refine qSeq rfl ?_
  refine hSeq ?_
  refine hReg (sq 0 (sq 1 (sq 2 (sq 3 (sq 4 (sq 5 (sq 6 (sl 7 (sq 8 (sq 9 (sl 10 (sq 11 sz)))))))))))) (by kernel_rfl) ?_
  refine mvI rfl rfl rfl ?_
  refine mvI rfl rfl rfl ?_
  refine mvI rfl rfl rfl ?_
  refine mvI rfl rfl rfl ?_
  refine mvI rfl rfl rfl ?_
  refine mulW rfl rfl rfl rfl ?_
  refine addW rfl rfl rfl rfl ?_
  refine callP Try.call46 trv rfl rfl (fun w hs => impl_chipShare_c _ _ _ _ w (by intro hx; first | omega | (rw [wrapI (by first | omega | (rw [wrapI (by omega)]; omega))]; first | omega | (rw [wrapI (by omega)]; omega)))) ?_
  refine ext rfl rfl rfl rfl ?_
  refine ext rfl rfl rfl rfl ?_
  refine stAl 0 rfl Try.sizeOf26 trv rfl rfl rfl rfl rfl (by simp [Value.oneCell']) rfl ?_
  refine asI rfl rfl rfl ?_
  refine rNil ?_
  refine qSeq rfl ?_
  refine hRet ?_
  exact fun w hs => ⟨[_, .int .i64 _], ⟨⟨_, rfl, run_load_agg Try.isAgg26 Try.sizeOf26 rfl (cBs 0 rfl w hs)⟩, ⟨rfl, trivial⟩⟩, ⟨congrArg resR (quotR_w (by intro hx; rw [wrapI (v := 2 * b) (by omega), wrapI (by omega)])), hs.upd⟩⟩

theorem impl_StackToPot_c (a b : Int) (w : World) :
    Calls Try.prog 22 #[.int .i64 a, .int .i64 b] w (Ret fun v w' => v = resR (Math.quotR a b a b) ∧ Ext w w') := by
  refine fn (M := none_) (rs := [.cell 4 26, .tmp 5]) Try.func22 rfl Try.ntmps22 rfl rfl (Sep.start _ _) ?_
  refine hSeq ?_
  refine hReg (sl 0 (sq 1 sz)) (by kernel_rfl) ?_
  refine alc Try.zeroValue26 rfl trv1 rfl rfl (fun bka1 hbka1 => ?_)
  refine asI rfl rfl rfl ?_
  refine rNil ?_
  refine qSeq rfl ?_
  refine hSeq ?_
  refine hReg (sq 0 (sq 1 (sq 2 (sq 3 (sl 4 (sq 5 (sq 6 (sl 7 (sq 8 sz))))))))) (by kernel_rfl) ?_
  refine mvI rfl rfl rfl ?_
  refine mvI rfl rfl rfl ?_
  refine mvI rfl rfl rfl ?_
  refine mvI rfl rfl rfl ?_
  refine callP Try.call46 trv rfl rfl (fun w hs => impl_chipShare_c _ _ _ _ w (by intro hx; first | omega | (rw [wrapI (by first | omega | (rw [wrapI (by omega)]; omega))]; first | omega | (rw [wrapI (by omega)]; omega)))) ?_
  refine ext rfl rfl rfl rfl ?_
  refine ext rfl rfl rfl rfl ?_
  refine stAl 0 rfl Try.sizeOf26 trv rfl rfl rfl rfl rfl (by simp [Value.oneCell']) rfl ?_
  refine asI rfl rfl rfl ?_
  refine rNil ?_
  refine qSeq rfl ?_
  refine hRet ?_
  exact fun w hs => ⟨[_, .int .i64 _], ⟨⟨_, rfl, run_load_agg Try.isAgg26 Try.sizeOf26 rfl (cBs 0 rfl w hs)⟩, ⟨rfl, trivial⟩⟩, ⟨congrArg resR (rfl), hs.upd⟩⟩

theorem spec_PotOdds_c (a b : Int) (w : World) :
    Calls Try.prog 19 #[.int .i64 a, .int .i64 b] w (Ret fun v w' => v = resR (Math.quotR a b b (a + b)) ∧ Ext w w') := by
  refine fn (M := none_) (rs := [.cell 4 26, .tmp 5]) Try.func19 rfl Try.ntmps19 rfl rfl (Sep.start _ _) ?_
  refine hSeq ?_
  refine hReg (sl 0 (sq 1 sz)) (by kernel_rfl) ?_
  refine alc Try.zeroValue26 rfl trv1 rfl rfl (fun bka1 hbka1 => ?_)
  refine asI rfl rfl rfl ?_
  refine rNil ?_
  refine qSeq rfl ?_
  refine hSeq ?_
  refine hSeq ?_
  refine hReg (sq 0 (sl 1 (sq 2 (sq 3 (sq 4 (sl 5 (sq 6 (sq 7 sz)))))))) (by kernel_rfl) ?_
  refine mvI rfl rfl rfl ?_
  refine callP Try.call44 trv rfl rfl (fun w hs => spec_l19Chips_c _ w) ?_
  refine notD rfl rfl rfl ?_
  refine mvB rfl rfl rfl ?_
  refine rBoolD (d := 9) rfl (fun g1 => ?_) (fun g1 => ?_)
  · -- g1T
    refine rSkipQ rfl rfl ?_
    refine rSkipL trv rfl rfl ?_
    refine rSkipQ rfl rfl ?_
    refine pickB rfl rfl rfl rfl ?_
    refine rNil ?_
    refine qSeq rfl ?_
    refine hIfT rfl ?_
    refine hSeq ?_
    refine hReg (sq 0 (sl 1 (sq 2 sz))) (by kernel_rfl) ?_
    refine bld rfl rfl rfl (bld26) ?_
    refine stAl 0 rfl Try.sizeOf26 trv rfl rfl rfl rfl rfl (by simp [Value.oneCell']) rfl ?_
    refine asI rfl rfl rfl ?_
    refine rNil ?_
    refine qSeq rfl ?_
    refine hRet ?_
    exact fun w hs => ⟨[_, .int .i64 _], ⟨⟨_, rfl, run_load_agg Try.isAgg26 Try.sizeOf26 rfl (cBs 0 rfl w hs)⟩, ⟨rfl, trivial⟩⟩, ⟨by first | exact congrArg resR (Math.quotR_yes (by omega)).symm | exact congrArg resR (Math.quotR_no (by omega)).symm, hs.upd⟩⟩
  · -- g1F
    refine mvI rfl rfl rfl ?_
    refine callP Try.call44 trv rfl rfl (fun w hs => spec_l19Chips_c _ w) ?_
    refine notD rfl rfl rfl ?_
    refine pickB rfl rfl rfl rfl ?_
    refine rNil ?_
    refine qSeq rfl ?_
    refine hIfD rfl (fun c2 => ?_) (fun c2 => ?_)
    · -- c2T
      refine hSeq ?_
      refine hReg (sq 0 (sl 1 (sq 2 sz))) (by kernel_rfl) ?_
      refine bld rfl rfl rfl (bld26) ?_
      refine stAl 0 rfl Try.sizeOf26 trv rfl rfl rfl rfl rfl (by simp [Value.oneCell']) rfl ?_
      refine asI rfl rfl rfl ?_
      refine rNil ?_
      refine qSeq rfl ?_
      refine hRet ?_
      exact fun w hs => ⟨[_, .int .i64 _], ⟨⟨_, rfl, run_load_agg Try.isAgg26 Try.sizeOf26 rfl (cBs 0 rfl w hs)⟩, ⟨rfl, trivial⟩⟩, ⟨by first | exact congrArg resR (Math.quotR_yes (by omega)).symm | exact congrArg resR (Math.quotR_no (by omega)).symm, hs.upd⟩⟩
    · -- c2F
      refine hSkip ?_
      refine qSeq rfl ?_
      refine hSeq ?_
      refine hReg (sq 0 (sq 1 (sq 2 (sq 3 (sl 4 (sq 5 (sq 6 (sl 7 (sq 8 sz))))))))) (by kernel_rfl) ?_
      refine mvI rfl rfl rfl ?_
      refine mvI rfl rfl rfl ?_
      refine mvI rfl rfl rfl ?_
      refine add rfl rfl rfl rfl (by omega) ?_
      refine callP Try.call45 trv rfl rfl (fun w hs => spec_l19Quotient_c _ _ w (by omega)) ?_
      refine ext rfl rfl rfl rfl ?_
      refine ext rfl rfl rfl rfl ?_
      refine stAl 0 rfl Try.sizeOf26 trv rfl rfl rfl rfl rfl (by simp [Value.oneCell']) rfl ?_
      refine asI rfl rfl rfl ?_
      refine rNil ?_
      refine qSeq rfl ?_
      refine hRet ?_
      exact fun w hs => ⟨[_, .int .i64 _], ⟨⟨_, rfl, run_load_agg Try.isAgg26 Try.sizeOf26 rfl (cBs 0 rfl w hs)⟩, ⟨rfl, trivial⟩⟩, ⟨by first | exact congrArg resR (Math.quotR_yes (by omega)).symm | exact congrArg resR (Math.quotR_no (by omega)).symm, hs.upd⟩⟩

theorem spec_BluffShare_c (a b : Int) (w : World) :
    Calls Try.prog 16 #[.int .i64 a, .int .i64 b] w (Ret fun v w' => v = resR (Math.quotR a b b (a + 2 * b)) ∧ Ext w w') := by
  refine fn (M := none_) (rs := [.cell 4 26, .tmp 5]) Try.func16 rfl Try.ntmps16 rfl rfl (Sep.start _ _) ?_
  refine hSeq ?_
  refine hReg (sl 0 (sq 1 sz)) (by kernel_rfl) ?_
  refine alc Try.zeroValue26 rfl trv1 rfl rfl (fun bka1 hbka1 => ?_)
  refine asI rfl rfl rfl ?_
  refine rNil ?_
  refine qSeq rfl ?_
  refine hSeq ?_
  refine hSeq ?_
  refine hReg (sq 0 (sl 1 (sq 2 (sq 3 (sq 4 (sl 5 (sq 6 (sq 7 sz)))))))) (by kernel_rfl) ?_
  refine mvI rfl rfl rfl ?_
  refine callP Try.call44 trv rfl rfl (fun w hs => spec_l19Chips_c _ w) ?_
  refine notD rfl rfl rfl ?_
  refine mvB rfl rfl rfl ?_
  refine rBoolD (d := 9) rfl (fun g1 => ?_) (fun g1 => ?_)
  · -- g1T
    refine rSkipQ rfl rfl ?_
    refine rSkipL trv rfl rfl ?_
    refine rSkipQ rfl rfl ?_
    refine pickB rfl rfl rfl rfl ?_
    refine rNil ?_
    refine qSeq rfl ?_
    refine hIfT rfl ?_
    refine hSeq ?_
    refine hReg (sq 0 (sl 1 (sq 2 sz))) (by kernel_rfl) ?_
    refine bld rfl rfl rfl (bld26) ?_
    refine stAl 0 rfl Try.sizeOf26 trv rfl rfl rfl rfl rfl (by simp [Value.oneCell']) rfl ?_
    refine asI rfl rfl rfl ?_
    refine rNil ?_
    refine qSeq rfl ?_
    refine hRet ?_
    exact fun w hs => ⟨[_, .int .i64 _], ⟨⟨_, rfl, run_load_agg Try.isAgg26 Try.sizeOf26 rfl (cBs 0 rfl w hs)⟩, ⟨rfl, trivial⟩⟩, ⟨by first | exact congrArg resR (Math.quotR_yes (by omega)).symm | exact congrArg resR (Math.quotR_no (by omega)).symm, hs.upd⟩⟩
  · -- g1F
    refine mvI rfl rfl rfl ?_
    refine callP Try.call44 trv rfl rfl (fun w hs => spec_l19Chips_c _ w) ?_
    refine notD rfl rfl rfl ?_
    refine pickB rfl rfl rfl rfl ?_
    refine rNil ?_
    refine qSeq rfl ?_
    refine hIfD rfl (fun c2 => ?_) (fun c2 => ?_)
    · -- c2T
      refine hSeq ?_
      refine hReg (sq 0 (sl 1 (sq 2 sz))) (by kernel_rfl) ?_
      refine bld rfl rfl rfl (bld26) ?_
      refine stAl 0 rfl Try.sizeOf26 trv rfl rfl rfl rfl rfl (by simp [Value.oneCell']) rfl ?_
      refine asI rfl rfl rfl ?_
      refine rNil ?_
      refine qSeq rfl ?_
      refine hRet ?_
      exact fun w hs => ⟨[_, .int .i64 _], ⟨⟨_, rfl, run_load_agg Try.isAgg26 Try.sizeOf26 rfl (cBs 0 rfl w hs)⟩, ⟨rfl, trivial⟩⟩, ⟨by first | exact congrArg resR (Math.quotR_yes (by omega)).symm | exact congrArg resR (Math.quotR_no (by omega)).symm, hs.upd⟩⟩
    · -- c2F
      refine hSkip ?_
      refine qSeq rfl ?_
      refine hSeq ?_
      refine hReg (sq 0 (sq 1 (sq 2 (sq 3 (sq 4 (sl 5 (sq 6 (sq 7 (sl 8 (sq 9 sz)))))))))) (by kernel_rfl) ?_
      refine mvI rfl rfl rfl ?_
      refine mvI rfl rfl rfl ?_
      refine mvI rfl rfl rfl ?_
      refine mul rfl rfl rfl rfl (by omega) ?_
      refine add rfl rfl rfl rfl (by omega) ?_
      refine callP Try.call45 trv rfl rfl (fun w hs => spec_l19Quotient_c _ _ w (by omega)) ?_
      refine ext rfl rfl rfl rfl ?_
      refine ext rfl rfl rfl rfl ?_
      refine stAl 0 rfl Try.sizeOf26 trv rfl rfl rfl rfl rfl (by simp [Value.oneCell']) rfl ?_
      refine asI rfl rfl rfl ?_
      refine rNil ?_
      refine qSeq rfl ?_
      refine hRet ?_
      exact fun w hs => ⟨[_, .int .i64 _], ⟨⟨_, rfl, run_load_agg Try.isAgg26 Try.sizeOf26 rfl (cBs 0 rfl w hs)⟩, ⟨rfl, trivial⟩⟩, ⟨by first | exact congrArg resR (Math.quotR_yes (by omega)).symm | exact congrArg resR (Math.quotR_no (by omega)).symm, hs.upd⟩⟩

theorem spec_StackToPot_c (a b : Int) (w : World) :
    Calls Try.prog 21 #[.int .i64 a, .int .i64 b] w (Ret fun v w' => v = resR (Math.quotR a b a b) ∧ Ext w w') := by
  refine fn (M := none_) (rs := [.cell 4 26, .tmp 5]) Try.func21 rfl Try.ntmps21 rfl rfl (Sep.start _ _) ?_
  refine hSeq ?_
  refine hReg (sl 0 (sq 1 sz)) (by kernel_rfl) ?_
  refine alc Try.zeroValue26 rfl trv1 rfl rfl (fun bka1 hbka1 => ?_)
  refine asI rfl rfl rfl ?_
  refine rNil ?_
  refine qSeq rfl ?_
  refine hSeq ?_
  refine hSeq ?_
  refine hReg (sq 0 (sl 1 (sq 2 (sq 3 (sq 4 (sl 5 (sq 6 (sq 7 sz)))))))) (by kernel_rfl) ?_
  refine mvI rfl rfl rfl ?_
  refine callP Try.call44 trv rfl rfl (fun w hs => spec_l19Chips_c _ w) ?_
  refine notD rfl rfl rfl ?_
  refine mvB rfl rfl rfl ?_
  refine rBoolD (d := 9) rfl (fun g1 => ?_) (fun g1 => ?_)
  · -- g1T
    refine rSkipQ rfl rfl ?_
    refine rSkipL trv rfl rfl ?_
    refine rSkipQ rfl rfl ?_
    refine pickB rfl rfl rfl rfl ?_
    refine rNil ?_
    refine qSeq rfl ?_
    refine hIfT rfl ?_
    refine hSeq ?_
    refine hReg (sq 0 (sl 1 (sq 2 sz))) (by kernel_rfl) ?_
    refine bld rfl rfl rfl (bld26) ?_
    refine stAl 0 rfl Try.sizeOf26 trv rfl rfl rfl rfl rfl (by simp [Value.oneCell']) rfl ?_
    refine asI rfl rfl rfl ?_
    refine rNil ?_
    refine qSeq rfl ?_
    refine hRet ?_
    exact fun w hs => ⟨[_, .int .i64 _], ⟨⟨_, rfl, run_load_agg Try.isAgg26 Try.sizeOf26 rfl (cBs 0 rfl w hs)⟩, ⟨rfl, trivial⟩⟩, ⟨by first | exact congrArg resR (Math.quotR_yes (by omega)).symm | exact congrArg resR (Math.quotR_no (by omega)).symm, hs.upd⟩⟩
  · -- g1F
    refine mvI rfl rfl rfl ?_
    refine callP Try.call44 trv rfl rfl (fun w hs => spec_l19Chips_c _ w) ?_
    refine notD rfl rfl rfl ?_
    refine pickB rfl rfl rfl rfl ?_
    refine rNil ?_
    refine qSeq rfl ?_
    refine hIfD rfl (fun c2 => ?_) (fun c2 => ?_)
    · -- c2T
      refine hSeq ?_
      refine hReg (sq 0 (sl 1 (sq 2 sz))) (by kernel_rfl) ?_
      refine bld rfl rfl rfl (bld26) ?_
      refine stAl 0 rfl Try.sizeOf26 trv rfl rfl rfl rfl rfl (by simp [Value.oneCell']) rfl ?_
      refine asI rfl rfl rfl ?_
      refine rNil ?_
      refine qSeq rfl ?_
      refine hRet ?_
      exact fun w hs => ⟨[_, .int .i64 _], ⟨⟨_, rfl, run_load_agg Try.isAgg26 Try.sizeOf26 rfl (cBs 0 rfl w hs)⟩, ⟨rfl, trivial⟩⟩, ⟨by first | exact congrArg resR (Math.quotR_yes (by omega)).symm | exact congrArg resR (Math.quotR_no (by omega)).symm, hs.upd⟩⟩
    · -- c2F
      refine hSkip ?_
      refine qSeq rfl ?_
      refine hSeq ?_
      refine hReg (sq 0 (sq 1 (sl 2 (sq 3 (sq 4 (sl 5 (sq 6 sz))))))) (by kernel_rfl) ?_
      refine mvI rfl rfl rfl ?_
      refine mvI rfl rfl rfl ?_
      refine callP Try.call45 trv rfl rfl (fun w hs => spec_l19Quotient_c _ _ w (by omega)) ?_
      refine ext rfl rfl rfl rfl ?_
      refine ext rfl rfl rfl rfl ?_
      refine stAl 0 rfl Try.sizeOf26 trv rfl rfl rfl rfl rfl (by simp [Value.oneCell']) rfl ?_
      refine asI rfl rfl rfl ?_
      refine rNil ?_
      refine qSeq rfl ?_
      refine hRet ?_
      exact fun w hs => ⟨[_, .int .i64 _], ⟨⟨_, rfl, run_load_agg Try.isAgg26 Try.sizeOf26 rfl (cBs 0 rfl w hs)⟩, ⟨rfl, trivial⟩⟩, ⟨by first | exact congrArg resR (Math.quotR_yes (by omega)).symm | exact congrArg resR (Math.quotR_no (by omega)).symm, hs.upd⟩⟩

theorem spec_BreakEvenFolds_c (a b : Int) (w : World) :
    Calls Try.prog 25 #[.int .i64 a, .int .i64 b] w (Ret fun v w' => v = resR (Math.quotR a b b (a + b)) ∧ Ext w w') := by
  refine fn (M := none_) (rs := [.cell 4 26, .tmp 5]) Try.func25 rfl Try.ntmps25 rfl rfl (Sep.start _ _) ?_
  refine hSeq ?_
  refine hReg (sl 0 (sq 1 sz)) (by kernel_rfl) ?_
  refine alc Try.zeroValue26 rfl trv1 rfl rfl (fun bka1 hbka1 => ?_)
  refine asI rfl rfl rfl ?_
  refine rNil ?_
  refine qSeq rfl ?_
  refine hSeq ?_
  refine hReg (sq 0 (sq 1 (sl 2 (sq 3 (sq 4 (sl 5 (sq 6 sz))))))) (by kernel_rfl) ?_
  refine mvI rfl rfl rfl ?_
  refine mvI rfl rfl rfl ?_
  refine callP Try.call19 trv rfl rfl (fun w hs => spec_PotOdds_c _ _ w) ?_
  refine ext rfl rfl rfl rfl ?_
  refine ext rfl rfl rfl rfl ?_
  refine stAl 0 rfl Try.sizeOf26 trv rfl rfl rfl rfl rfl (by simp [Value.oneCell']) rfl ?_
  refine asI rfl rfl rfl ?_
  refine rNil ?_
  refine qSeq rfl ?_
  refine hRet ?_
  exact fun w hs => ⟨[_, .int .i64 _], ⟨⟨_, rfl, run_load_agg Try.isAgg26 Try.sizeOf26 rfl (cBs 0 rfl w hs)⟩, ⟨rfl, trivial⟩⟩, ⟨rfl, hs.upd⟩⟩

theorem spec_DefenceShare_c (a b : Int) (w : World) :
    Calls Try.prog 27 #[.int .i64 a, .int .i64 b] w (Ret fun v w' => v = resR (Math.quotR a b a (a + b)) ∧ Ext w w') := by
  refine fn (M := none_) (rs := [.cell 4 26, .tmp 5]) Try.func27 rfl Try.ntmps27 rfl rfl (Sep.start _ _) ?_
  refine hSeq ?_
  refine hReg (sl 0 (sq 1 sz)) (by kernel_rfl) ?_
  refine alc Try.zeroValue26 rfl trv1 rfl rfl (fun bka1 hbka1 => ?_)
  refine asI rfl rfl rfl ?_
  refine rNil ?_
  refine qSeq rfl ?_
  refine hSeq ?_
  refine hReg (sq 0 (sq 1 (sl 2 (sq 3 (sq 4 (sl 5 (sq 6 sz))))))) (by kernel_rfl) ?_
  refine mvI rfl rfl rfl ?_
  refine mvI rfl rfl rfl ?_
  refine callP Try.call19 trv rfl rfl (fun w hs => spec_PotOdds_c _ _ w) ?_
  refine ext rfl rfl rfl rfl ?_
  refine ext rfl rfl rfl rfl ?_
  refine stAl 0 rfl Try.sizeOf26 trv rfl rfl rfl rfl rfl (by simp [Value.oneCell']) rfl ?_
  refine asI rfl rfl rfl ?_
  refine rNil ?_
  refine qSeq rfl ?_
  refine hRet ?_
  exact fun w hs => ⟨[_, .int .i64 _], ⟨⟨_, rfl, run_load_agg Try.isAgg26 Try.sizeOf26 rfl (cBs 0 rfl w hs)⟩, ⟨rfl, trivial⟩⟩, ⟨congrArg resR (Math.quotR_swap a b), hs.upd⟩⟩

theorem eqRatio_c (a b c d : Int) (w : World) :
    Calls Try.prog 18 #[.agg #[.int .i64 a, .int .i64 b], .agg #[.int .i64 c, .int .i64 d]] w (Ret fun v w' => v = .bool (decide (a = c ∧ b = d)) ∧ Ext w w') := by
  refine fn (M := none_) (rs := [.tmp 4]) Try.func18 rfl Try.ntmps18 rfl rfl (Sep.start _ _) ?_
  refine hSeq ?_
  refine hReg (sl 0 (sl 1 (sq 2 sz))) (by kernel_rfl) ?_
  refine box trv1 rfl rfl rfl rfl (fun bkb1 hbkb1 => ?_)
  refine box trv1 rfl rfl rfl rfl (fun bkb2 hbkb2 => ?_)
  refine asB rfl rfl rfl ?_
  refine rNil ?_
  refine qSeq rfl ?_
  refine hSeq ?_
  refine hSeq ?_
  refine hReg (sq 0 (sl 1 (sq 2 (sl 3 (sq 4 sz))))) (by kernel_rfl) ?_
  refine fld fl26_0 rfl rfl rfl ?_
  refine ldl Try.isAgg2 (cB 1 rfl rfl) trv rfl rfl rfl ?_
  refine fld fl26_0 rfl rfl rfl ?_
  refine ldl Try.isAgg2 (cB 0 rfl rfl) trv rfl rfl rfl ?_
  refine neq rfl rfl rfl rfl ?_
  refine rNil ?_
  refine qSeq rfl ?_
  refine hIfD rfl (fun c1 => ?_) (fun c1 => ?_)
  · -- c1T
    refine hSeq ?_
    refine hReg (sq 0 sz) (by kernel_rfl) ?_
    refine asB rfl rfl rfl ?_
    refine rNil ?_
    refine qSeq rfl ?_
    refine hRet ?_
    exact fun w hs => ⟨[.bool _], ⟨rfl, trivial⟩, ⟨by first | exact bT (by omega) | exact bF (by omega), hs.upd⟩⟩
  · -- c1F
    refine hSkip ?_
    refine qSeq rfl ?_
    refine hSeq ?_
    refine hSeq ?_
    refine hReg (sq 0 (sl 1 (sq 2 (sl 3 (sq 4 sz))))) (by kernel_rfl) ?_
    refine fld fl26_1 rfl rfl rfl ?_
    refine ldl Try.isAgg2 (cB 1 rfl rfl) trv rfl rfl rfl ?_
    refine fld fl26_1 rfl rfl rfl ?_
    refine ldl Try.isAgg2 (cB 0 rfl rfl) trv rfl rfl rfl ?_
    refine neq rfl rfl rfl rfl ?_
    refine rNil ?_
    refine qSeq rfl ?_
    refine hIfD rfl (fun c2 => ?_) (fun c2 => ?_)
    · -- c2T
      refine hSeq ?_
      refine hReg (sq 0 sz) (by kernel_rfl) ?_
      refine asB rfl rfl rfl ?_
      refine rNil ?_
      refine qSeq rfl ?_
      refine hRet ?_
      exact fun w hs => ⟨[.bool _], ⟨rfl, trivial⟩, ⟨by first | exact bT (by omega) | exact bF (by omega), hs.upd⟩⟩
    · -- c2F
      refine hSkip ?_
      refine qSeq rfl ?_
      refine hSeq ?_
      refine hReg (sq 0 sz) (by kernel_rfl) ?_
      refine asB rfl rfl rfl ?_
      refine rNil ?_
      refine qSeq rfl ?_
      refine hRet ?_
      exact fun w hs => ⟨[.bool _], ⟨rfl, trivial⟩, ⟨by first | exact bT (by omega) | exact bF (by omega), hs.upd⟩⟩

theorem spec_l19Add_c (bk : Nat) (c a1 a2 b1 b2 : Int) (w : World) (hb : blk bk 57 [.int .i64 c] w) :
    Calls Try.prog 52 #[.pointer (some ⟨bk, 0, none⟩), .agg #[.int .i64 a1, .int .i64 a2], .agg #[.int .i64 b1, .int .i64 b2]] w (Ret fun v w' => v = ratV (Math.stp Math.addR c (a1, a2) (b1, b2)).1 ∧ Upd (fun k => k = bk) w w' ∧ blk bk 57 [.int .i64 (Math.stp Math.addR c (a1, a2) (b1, b2)).2] w') := by
  refine fn (M := (fun k => k = bk)) (rs := [.cell 6 26]) Try.func52 rfl Try.ntmps52 rfl rfl (Sep.startB hb) ?_
  refine hSeq ?_
  refine hReg (sl 0 (sl 1 (sl 2 sz))) (by kernel_rfl) ?_
  refine box trv1 rfl rfl rfl rfl (fun bkb1 hbkb1 => ?_)
  refine box trv1 rfl rfl rfl rfl (fun bkb2 hbkb2 => ?_)
  refine alc Try.zeroValue26 rfl trv1 rfl rfl (fun bka3 hbka3 => ?_)
  refine rNil ?_
  refine qSeq rfl ?_
  refine hSeq ?_
  refine hSeq ?_
  refine hReg (sq 0 (sq 1 (sq 2 (sl 3 (sq 4 sz))))) (by kernel_rfl) ?_
  refine mvP rfl rfl rfl ?_
  refine nilc rfl rfl rfl ?_
  refine fld fl57_0 rfl rfl rfl ?_
  refine ldl Try.isAgg2 (cB 3 rfl rfl) trv rfl rfl rfl ?_
  refine neq rfl rfl rfl rfl ?_
  refine rNil ?_
  refine qSeq rfl ?_
  refine hIfD rfl (fun c1 => ?_) (fun c1 => ?_)
  · -- c1T
    refine hSeq ?_
    refine hReg (sq 0 (sl 1 sz)) (by kernel_rfl) ?_
    refine bld rfl rfl rfl (bld26_1 (.int .i64 _) rfl) ?_
    refine stAl 0 rfl Try.sizeOf26 trv rfl rfl rfl rfl rfl (by simp [Value.oneCell']) rfl ?_
    refine rNil ?_
    refine qSeq rfl ?_
    refine hRet ?_
    exact fun w hs => ⟨[_], ⟨⟨_, rfl, run_load_agg Try.isAgg26 Try.sizeOf26 rfl (cBs 0 rfl w hs)⟩, trivial⟩, ⟨by first | (rw [Math.stp_yes c1]; rfl) | (rw [Math.stp_no c1]; rfl), hs.upd, by first | (rw [Math.stp_yes c1]; exact hs.at_ 3 rfl) | (rw [Math.stp_no c1]; exact hs.at_ 3 rfl)⟩⟩
  · -- c1F
    refine hSkip ?_
    refine qSeq rfl ?_
    refine hSeq ?_
    refine hReg (sl 0 (sl 1 (sl 2 (sq 3 (sq 4 (sq 5 (sl 6 (sl 7 (sq 8 sz))))))))) (by kernel_rfl) ?_
    refine ldAl Try.isAgg26 Try.sizeOf26 (cBs 2 rfl) trv rfl rfl rfl rfl ?_
    refine ldAl Try.isAgg26 Try.sizeOf26 (cBs 1 rfl) trv rfl rfl rfl rfl ?_
    refine callP Try.call65 trv rfl rfl (fun w hs => (spec_AddRatios_c _ _ _ _ w)) ?_
    refine mv rfl rfl rfl ?_
    refine ext rfl rfl rfl rfl ?_
    refine ext rfl rfl rfl rfl ?_
    refine alc Try.zeroValue26 rfl trv1 rfl rfl (fun bka4 hbka4 => ?_)
    refine stAl 0 rfl Try.sizeOf26 trv rfl rfl rfl rfl rfl (by simp [Value.oneCell']) rfl ?_
    refine asI rfl rfl rfl ?_
    refine rNil ?_
    refine qSeq rfl ?_
    refine hSeq ?_
    refine hReg (sq 0 (sq 1 (sq 2 (sq 3 (sl 4 sz))))) (by kernel_rfl) ?_
    refine mvP rfl rfl rfl ?_
    refine mvI rfl rfl rfl ?_
    refine nilc rfl rfl rfl ?_
    refine fld fl57_0 rfl rfl rfl ?_
    refine stl (v := .int .i64 _) 4 rfl Try.sizeOf2 trv rfl rfl rfl rfl rfl (Nat.le_of_ble_eq_true rfl) ?_
    refine rNil ?_
    refine qSeq rfl ?_
    refine hSeq ?_
    refine hReg (sl 0 (sl 1 sz)) (by kernel_rfl) ?_
    refine ldAl Try.isAgg26 Try.sizeOf26 (cBs 0 rfl) trv rfl rfl rfl rfl ?_
    refine stAl 1 rfl Try.sizeOf26 trv rfl rfl rfl rfl rfl (by simp [Value.oneCell']) rfl ?_
    refine rNil ?_
    refine qSeq rfl ?_
    refine hRet ?_
    exact fun w hs => ⟨[_], ⟨⟨_, rfl, run_load_agg Try.isAgg26 Try.sizeOf26 rfl (cBs 1 rfl w hs)⟩, trivial⟩, ⟨by first | (rw [Math.stp_yes c1]; rfl) | (rw [Math.stp_no c1]; rfl), hs.upd, by first | (rw [Math.stp_yes c1]; exact hs.at_ 4 rfl) | (rw [Math.stp_no c1]; exact hs.at_ 4 rfl)⟩⟩

theorem spec_l19Times_c (bk : Nat) (c a1 a2 b1 b2 : Int) (w : World) (hb : blk bk 57 [.int .i64 c] w) :
    Calls Try.prog 53 #[.pointer (some ⟨bk, 0, none⟩), .agg #[.int .i64 a1, .int .i64 a2], .agg #[.int .i64 b1, .int .i64 b2]] w (Ret fun v w' => v = ratV (Math.stp Math.mulR c (a1, a2) (b1, b2)).1 ∧ Upd (fun k => k = bk) w w' ∧ blk bk 57 [.int .i64 (Math.stp Math.mulR c (a1, a2) (b1, b2)).2] w') := by
  refine fn (M := (fun k => k = bk)) (rs := [.cell 6 26]) Try.func53 rfl Try.ntmps53 rfl rfl (Sep.startB hb) ?_
  refine hSeq ?_
  refine hReg (sl 0 (sl 1 (sl 2 sz))) (by kernel_rfl) ?_
  refine box trv1 rfl rfl rfl rfl (fun bkb1 hbkb1 => ?_)
  refine box trv1 rfl rfl rfl rfl (fun bkb2 hbkb2 => ?_)
  refine alc Try.zeroValue26 rfl trv1 rfl rfl (fun bka3 hbka3 => ?_)
  refine rNil ?_
  refine qSeq rfl ?_
  refine hSeq ?_
  refine hSeq ?_
  refine hReg (sq 0 (sq 1 (sq 2 (sl 3 (sq 4 sz))))) (by kernel_rfl) ?_
  refine mvP rfl rfl rfl ?_
  refine nilc rfl rfl rfl ?_
  refine fld fl57_0 rfl rfl rfl ?_
  refine ldl Try.isAgg2 (cB 3 rfl rfl) trv rfl rfl rfl ?_
  refine neq rfl rfl rfl rfl ?_
  refine rNil ?_
  refine qSeq rfl ?_
  refine hIfD rfl (fun c1 => ?_) (fun c1 => ?_)
  · -- c1T
    refine hSeq ?_
    refine hReg (sq 0 (sl 1 sz)) (by kernel_rfl) ?_
    refine bld rfl rfl rfl (bld26_1 (.int .i64 _) rfl) ?_
    refine stAl 0 rfl Try.sizeOf26 trv rfl rfl rfl rfl rfl (by simp [Value.oneCell']) rfl ?_
    refine rNil ?_
    refine qSeq rfl ?_
    refine hRet ?_
    exact fun w hs => ⟨[_], ⟨⟨_, rfl, run_load_agg Try.isAgg26 Try.sizeOf26 rfl (cBs 0 rfl w hs)⟩, trivial⟩, ⟨by first | (rw [Math.stp_yes c1]; rfl) | (rw [Math.stp_no c1]; rfl), hs.upd, by first | (rw [Math.stp_yes c1]; exact hs.at_ 3 rfl) | (rw [Math.stp_no c1]; exact hs.at_ 3 rfl)⟩⟩
  · -- c1F
    refine hSkip ?_
    refine qSeq rfl ?_
    refine hSeq ?_
    refine hReg (sl 0 (sl 1 (sl 2 (sq 3 (sq 4 (sq 5 (sl 6 (sl 7 (sq 8 sz))))))))) (by kernel_rfl) ?_
    refine ldAl Try.isAgg26 Try.sizeOf26 (cBs 2 rfl) trv rfl rfl rfl rfl ?_
    refine ldAl Try.isAgg26 Try.sizeOf26 (cBs 1 rfl) trv rfl rfl rfl rfl ?_
    refine callP Try.call66 trv rfl rfl (fun w hs => (spec_MultiplyRatios_c _ _ _ _ w)) ?_
    refine mv rfl rfl rfl ?_
    refine ext rfl rfl rfl rfl ?_
    refine ext rfl rfl rfl rfl ?_
    refine alc Try.zeroValue26 rfl trv1 rfl rfl (fun bka4 hbka4 => ?_)
    refine stAl 0 rfl Try.sizeOf26 trv rfl rfl rfl rfl rfl (by simp [Value.oneCell']) rfl ?_
    refine asI rfl rfl rfl ?_
    refine rNil ?_
    refine qSeq rfl ?_
    refine hSeq ?_
    refine hReg (sq 0 (sq 1 (sq 2 (sq 3 (sl 4 sz))))) (by kernel_rfl) ?_
    refine mvP rfl rfl rfl ?_
    refine mvI rfl rfl rfl ?_
    refine nilc rfl rfl rfl ?_
    refine fld fl57_0 rfl rfl rfl ?_
    refine stl (v := .int .i64 _) 4 rfl Try.sizeOf2 trv rfl rfl rfl rfl rfl (Nat.le_of_ble_eq_true rfl) ?_
    refine rNil ?_
    refine qSeq rfl ?_
    refine hSeq ?_
    refine hReg (sl 0 (sl 1 sz)) (by kernel_rfl) ?_
    refine ldAl Try.isAgg26 Try.sizeOf26 (cBs 0 rfl) trv rfl rfl rfl rfl ?_
    refine stAl 1 rfl Try.sizeOf26 trv rfl rfl rfl rfl rfl (by simp [Value.oneCell']) rfl ?_
    refine rNil ?_
    refine qSeq rfl ?_
    refine hRet ?_
    exact fun w hs => ⟨[_], ⟨⟨_, rfl, run_load_agg Try.isAgg26 Try.sizeOf26 rfl (cBs 1 rfl w hs)⟩, trivial⟩, ⟨by first | (rw [Math.stp_yes c1]; rfl) | (rw [Math.stp_no c1]; rfl), hs.upd, by first | (rw [Math.stp_yes c1]; exact hs.at_ 4 rfl) | (rw [Math.stp_no c1]; exact hs.at_ 4 rfl)⟩⟩

theorem spec_l19Result_c (bk : Nat) (c a b : Int) (w : World) (hb : blk bk 57 [.int .i64 c] w) :
    Calls Try.prog 51 #[.pointer (some ⟨bk, 0, none⟩), .agg #[.int .i64 a, .int .i64 b]] w (Ret fun v w' => v = resR (Math.fin ((a, b), c)) ∧ Upd (fun k => k = bk) w w' ∧ blk bk 57 [.int .i64 c] w') := by
  refine fn (M := (fun k => k = bk)) (rs := [.cell 4 26, .tmp 5]) Try.func51 rfl Try.ntmps51 rfl rfl (Sep.startB hb) ?_
  refine hSeq ?_
  refine hReg (sl 0 (sl 1 (sq 2 sz))) (by kernel_rfl) ?_
  refine box trv1 rfl rfl rfl rfl (fun bkb1 hbkb1 => ?_)
  refine alc Try.zeroValue26 rfl trv1 rfl rfl (fun bka2 hbka2 => ?_)
  refine asI rfl rfl rfl ?_
  refine rNil ?_
  refine qSeq rfl ?_
  refine hSeq ?_
  refine hSeq ?_
  refine hReg (sq 0 (sq 1 (sq 2 (sl 3 (sq 4 sz))))) (by kernel_rfl) ?_
  refine mvP rfl rfl rfl ?_
  refine nilc rfl rfl rfl ?_
  refine fld fl57_0 rfl rfl rfl ?_
  refine ldl Try.isAgg2 (cB 2 rfl rfl) trv rfl rfl rfl ?_
  refine neq rfl rfl rfl rfl ?_
  refine rNil ?_
  refine qSeq rfl ?_
  refine hIfD rfl (fun c1 => ?_) (fun c1 => ?_)
  · -- c1T
    refine hSeq ?_
    refine hDraw (by kernel_rfl) (sq 0 (sq 1 (sq 2 (sq 3 (sq 4 (sl 5 (sq 6 sz))))))) (by kernel_rfl) (.cons _ (.cons _ (.cons_cons _ .slnil))) ?_
    refine bld rfl rfl rfl (bld26) ?_
    refine mvP rfl rfl rfl ?_
    refine nilc rfl rfl rfl ?_
    refine fld fl57_0 rfl rfl rfl ?_
    refine ldq Try.isAgg2 (cB 0 rfl rfl) rfl rfl rfl ?_
    refine stAl 0 rfl Try.sizeOf26 (fun _ h => h.sub (.cons _ (.cons _ (.cons_cons _ .slnil)))) rfl rfl rfl rfl rfl (by simp [Value.oneCell']) rfl ?_
    refine asI rfl rfl rfl ?_
    refine rNil ?_
    refine qSeq rfl ?_
    refine hRet ?_
    exact fun w hs => ⟨[_, .int .i64 _], ⟨⟨_, rfl, run_load_agg Try.isAgg26 Try.sizeOf26 rfl (cBs 0 rfl w hs)⟩, ⟨rfl, trivial⟩⟩, ⟨by first | exact congrArg resR (Math.fin_yes c1).symm | exact congrArg resR (Math.fin_no c1).symm, hs.upd, hs.at_ 2 rfl⟩⟩
  · -- c1F
    refine hSkip ?_
    refine qSeq rfl ?_
    refine hSeq ?_
    refine hReg (sl 0 (sl 1 (sq 2 sz))) (by kernel_rfl) ?_
    refine ldAl Try.isAgg26 Try.sizeOf26 (cBs 1 rfl) trv rfl rfl rfl rfl ?_
    refine stAl 0 rfl Try.sizeOf26 trv rfl rfl rfl rfl rfl (by simp [Value.oneCell']) rfl ?_
    refine asI rfl rfl rfl ?_
    refine rNil ?_
    refine qSeq rfl ?_
    refine hRet ?_
    exact fun w hs => ⟨[_, .int .i64 _], ⟨⟨_, rfl, run_load_agg Try.isAgg26 Try.sizeOf26 rfl (cBs 0 rfl w hs)⟩, ⟨rfl, trivial⟩⟩, ⟨by first | exact congrArg resR (Math.fin_yes c1).symm | exact congrArg resR (Math.fin_no c1).symm, hs.upd, hs.at_ 2 rfl⟩⟩

theorem spec_l19Whole_c (n : Int) (w : World) :
    Calls Try.prog 54 #[.int .i64 n] w (Ret fun v w' => v = ratV (n, 1) ∧ Ext w w') := by
  refine fn (M := none_) (rs := [.cell 2 26]) Try.func54 rfl Try.ntmps54 rfl rfl (Sep.start _ _) ?_
  refine hSeq ?_
  refine hReg (sl 0 sz) (by kernel_rfl) ?_
  refine alc Try.zeroValue26 rfl trv1 rfl rfl (fun bka1 hbka1 => ?_)
  refine rNil ?_
  refine qSeq rfl ?_
  refine hSeq ?_
  refine hReg (sq 0 (sq 1 (sl 2 sz))) (by kernel_rfl) ?_
  refine mvI rfl rfl rfl ?_
  refine bld rfl rfl rfl (bld26_0_1 (.int .i64 _) (.int .i64 _) rfl rfl) ?_
  refine stAl 0 rfl Try.sizeOf26 trv rfl rfl rfl rfl rfl (by simp [Value.oneCell']) rfl ?_
  refine rNil ?_
  refine qSeq rfl ?_
  refine hRet ?_
  exact fun w hs => ⟨[_], ⟨⟨_, rfl, run_load_agg Try.isAgg26 Try.sizeOf26 rfl (cBs 0 rfl w hs)⟩, trivial⟩, ⟨rfl, hs.upd⟩⟩

theorem impl_CallValue_c (pot call a b : Int) (w : World) :
    Calls Try.prog 31 #[.int .i64 pot, .int .i64 call, .agg #[.int .i64 a, .int .i64 b]] w (Ret fun v w' => v = resR (Math.callV pot call (a, b)) ∧ Ext w w') := by
  refine fn (M := none_) (rs := [.cell 6 26, .tmp 7]) Try.func31 rfl Try.ntmps31 rfl rfl (Sep.start _ _) ?_
  refine hSeq ?_
  refine hReg (sl 0 (sl 1 (sq 2 sz))) (by kernel_rfl) ?_
  refine box trv1 rfl rfl rfl rfl (fun bkb1 hbkb1 => ?_)
  refine alc Try.zeroValue26 rfl trv1 rfl rfl (fun bka2 hbka2 => ?_)
  refine asI rfl rfl rfl ?_
  refine rNil ?_
  refine qSeq rfl ?_
  refine hSeq ?_
  refine hSeq ?_
  refine hReg (sl 0 (sl 1 (sq 2 sz))) (by kernel_rfl) ?_
  refine ldAl Try.isAgg26 Try.sizeOf26 (cBs 1 rfl) trv rfl rfl rfl rfl ?_
  refine callP Try.call55 trv rfl rfl (fun w hs => impl_isShare_c _ _ w) ?_
  refine not rfl rfl rfl ?_
  refine rNil ?_
  refine qSeq rfl ?_
  refine hIfN rfl (fun c1 => ?_) (fun c1 => ?_)
  · -- c1T
    refine hSeq ?_
    refine hReg (sq 0 (sl 1 (sq 2 sz))) (by kernel_rfl) ?_
    refine bld rfl rfl rfl (bld26) ?_
    refine stAl 0 rfl Try.sizeOf26 trv rfl rfl rfl rfl rfl (by simp [Value.oneCell']) rfl ?_
    refine asI rfl rfl rfl ?_
    refine rNil ?_
    refine qSeq rfl ?_
    refine hRet ?_
    exact fun w hs => ⟨[_, .int .i64 _], ⟨⟨_, rfl, run_load_agg Try.isAgg26 Try.sizeOf26 rfl (cBs 0 rfl w hs)⟩, ⟨rfl, trivial⟩⟩, ⟨by first | exact congrArg resR (Math.callV_1 c1).symm | exact congrArg resR (Math.callV_2 c1 (by omega)).symm | exact congrArg resR (Math.callV_3 c1 (by omega) c3).symm | exact congrArg resR (Math.callV_4 c1 (by omega) c3).symm | exact congrArg resR (Math.callV_S c1 (by omega)).symm, hs.upd⟩⟩
  · -- c1F
    refine hSkip ?_
    refine qSeq rfl ?_
    refine hSeq ?_
    refine hSeq ?_
    refine hReg (sq 0 (sq 1 (sl 2 (sq 3 sz)))) (by kernel_rfl) ?_
    refine mvI rfl rfl rfl ?_
    refine mvI rfl rfl rfl ?_
    refine callP Try.call56 trv rfl rfl (fun w hs => impl_areChips_c _ _ w) ?_
    refine notD rfl rfl rfl ?_
    refine rNil ?_
    refine qSeq rfl ?_
    refine hIfD rfl (fun c2 => ?_) (fun c2 => ?_)
    · -- c2T
      refine hSeq ?_
      refine hReg (sq 0 (sl 1 (sq 2 sz))) (by kernel_rfl) ?_
      refine bld rfl rfl rfl (bld26) ?_
      refine stAl 0 rfl Try.sizeOf26 trv rfl rfl rfl rfl rfl (by simp [Value.oneCell']) rfl ?_
      refine asI rfl rfl rfl ?_
      refine rNil ?_
      refine qSeq rfl ?_
      refine hRet ?_
      exact fun w hs => ⟨[_, .int .i64 _], ⟨⟨_, rfl, run_load_agg Try.isAgg26 Try.sizeOf26 rfl (cBs 0 rfl w hs)⟩, ⟨rfl, trivial⟩⟩, ⟨by first | exact congrArg resR (Math.callV_1 c1).symm | exact congrArg resR (Math.callV_2 c1 (by omega)).symm | exact congrArg resR (Math.callV_3 c1 (by omega) c3).symm | exact congrArg resR (Math.callV_4 c1 (by omega) c3).symm | exact congrArg resR (Math.callV_S c1 (by omega)).symm, hs.upd⟩⟩
    · -- c2F
      refine hSkip ?_
      refine qSeq rfl ?_
      refine hSeq ?_
      refine hReg (sl 0 (sq 1 (sq 2 (sq 3 (sq 4 (sl 5 (sq 6 (sq 7 (sq 8 (sl 9 (sl 10 (sq 11 sz)))))))))))) (by kernel_rfl) ?_
      refine ldAl Try.isAgg26 Try.sizeOf26 (cBs 1 rfl) trv rfl rfl rfl rfl ?_
      refine mvI rfl rfl rfl ?_
      refine mvI rfl rfl rfl ?_
      refine add rfl rfl rfl rfl (by omega) ?_
      refine bld rfl rfl rfl (bld26_0_1 (.int .i64 _) (.int .i64 _) rfl rfl) ?_
      refine callP Try.call57 trv rfl rfl (fun w hs => impl_MultiplyRatios_c _ _ _ _ w) ?_
      refine mv rfl rfl rfl ?_
      refine ext rfl rfl rfl rfl ?_
      refine ext rfl rfl rfl rfl ?_
      refine alc Try.zeroValue26 rfl trv1 rfl rfl (fun bka3 hbka3 => ?_)
      refine stAl 0 rfl Try.sizeOf26 trv rfl rfl rfl rfl rfl (by simp [Value.oneCell']) rfl ?_
      refine asI rfl rfl rfl ?_
      refine rNil ?_
      refine qSeq rfl ?_
      refine hSeq ?_
      refine hSeq ?_
      refine hReg (sq 0 (sq 1 sz)) (by kernel_rfl) ?_
      refine mvI rfl rfl rfl ?_
      refine neq rfl rfl rfl rfl ?_
      refine rNil ?_
      refine qSeq rfl ?_
      refine hIfD rfl (fun c3 => ?_) (fun c3 => ?_)
      · -- c3T
        refine hSeq ?_
        refine hReg (sq 0 (sq 1 (sl 2 (sq 3 sz)))) (by kernel_rfl) ?_
        refine bld rfl rfl rfl (bld26) ?_
        refine mvI rfl rfl rfl ?_
        refine stAl 1 rfl Try.sizeOf26 trv rfl rfl rfl rfl rfl (by simp [Value.oneCell']) rfl ?_
        refine asI rfl rfl rfl ?_
        refine rNil ?_
        refine qSeq rfl ?_
        refine hRet ?_
        exact fun w hs => ⟨[_, .int .i64 _], ⟨⟨_, rfl, run_load_agg Try.isAgg26 Try.sizeOf26 rfl (cBs 1 rfl w hs)⟩, ⟨rfl, trivial⟩⟩, ⟨by first | exact congrArg resR (Math.callV_1 c1).symm | exact congrArg resR (Math.callV_2 c1 (by omega)).symm | exact congrArg resR (Math.callV_3 c1 (by omega) c3).symm | exact congrArg resR (Math.callV_4 c1 (by omega) c3).symm | exact congrArg resR (Math.callV_S c1 (by omega)).symm, hs.upd⟩⟩
      · -- c3F
        refine hSkip ?_
        refine qSeq rfl ?_
        refine hSeq ?_
        refine hReg (sl 0 (sq 1 (sq 2 (sl 3 (sq 4 (sq 5 (sl 6 (sq 7 sz)))))))) (by kernel_rfl) ?_
        refine ldAl Try.isAgg26 Try.sizeOf26 (cBs 0 rfl) trv rfl rfl rfl rfl ?_
        refine mvI rfl rfl rfl ?_
        refine bld rfl rfl rfl (bld26_0_1 (.int .i64 _) (.int .i64 _) rfl rfl) ?_
        refine callP Try.call58 trv rfl rfl (fun w hs => impl_SubtractRatios_c _ _ _ _ w) ?_
        refine ext rfl rfl rfl rfl ?_
        refine ext rfl rfl rfl rfl ?_
        refine stAl 1 rfl Try.sizeOf26 trv rfl rfl rfl rfl rfl (by simp [Value.oneCell']) rfl ?_
        refine asI rfl rfl rfl ?_
        refine rNil ?_
        refine qSeq rfl ?_
        refine hRet ?_
        exact fun w hs => ⟨[_, .int .i64 _], ⟨⟨_, rfl, run_load_agg Try.isAgg26 Try.sizeOf26 rfl (cBs 1 rfl w hs)⟩, ⟨rfl, trivial⟩⟩, ⟨by first | exact congrArg resR (Math.callV_1 c1).symm | exact congrArg resR (Math.callV_2 c1 (by omega)).symm | exact congrArg resR (Math.callV_3 c1 (by omega) c3).symm | exact congrArg resR (Math.callV_4 c1 (by omega) c3).symm | exact congrArg resR (Math.callV_S c1 (by omega)).symm, hs.upd⟩⟩

theorem spec_CallValue_c (pot call a b : Int) (w : World) :
    Calls Try.prog 29 #[.int .i64 pot, .int .i64 call, .agg #[.int .i64 a, .int .i64 b]] w (Ret fun v w' => v = resR (Math.callV pot call (a, b)) ∧ Ext w w') := by
  refine fn (M := none_) (rs := [.cell 6 26, .tmp 7]) Try.func29 rfl Try.ntmps29 rfl rfl (Sep.start _ _) ?_
  refine hSeq ?_
  refine hReg (sl 0 (sl 1 (sq 2 sz))) (by kernel_rfl) ?_
  refine box trv1 rfl rfl rfl rfl (fun bkb1 hbkb1 => ?_)
  refine alc Try.zeroValue26 rfl trv1 rfl rfl (fun bka2 hbka2 => ?_)
  refine asI rfl rfl rfl ?_
  refine rNil ?_
  refine qSeq rfl ?_
  refine hSeq ?_
  refine hSeq ?_
  refine hReg (sl 0 (sl 1 (sq 2 sz))) (by kernel_rfl) ?_
  refine ldAl Try.isAgg26 Try.sizeOf26 (cBs 1 rfl) trv rfl rfl rfl rfl ?_
  refine callP Try.call50 trv rfl rfl (fun w hs => spec_l19Share_c _ _ w) ?_
  refine not rfl rfl rfl ?_
  refine rNil ?_
  refine qSeq rfl ?_
  refine hIfN rfl (fun c1 => ?_) (fun c1 => ?_)
  · -- c1T
    refine hSeq ?_
    refine hReg (sq 0 (sl 1 (sq 2 sz))) (by kernel_rfl) ?_
    refine bld rfl rfl rfl (bld26) ?_
    refine stAl 0 rfl Try.sizeOf26 trv rfl rfl rfl rfl rfl (by simp [Value.oneCell']) rfl ?_
    refine asI rfl rfl rfl ?_
    refine rNil ?_
    refine qSeq rfl ?_
    refine hRet ?_
    exact fun w hs => ⟨[_, .int .i64 _], ⟨⟨_, rfl, run_load_agg Try.isAgg26 Try.sizeOf26 rfl (cBs 0 rfl w hs)⟩, ⟨rfl, trivial⟩⟩, ⟨by first | exact congrArg resR (Math.callV_1 c1).symm | exact congrArg resR (Math.callV_2 c1 (by omega)).symm | exact congrArg resR (Math.callV_3 c1 (by omega) c3).symm | exact congrArg resR (Math.callV_4 c1 (by omega) c3).symm | exact congrArg resR (Math.callV_S c1 (by omega)).symm, hs.upd⟩⟩
  · -- c1F
    refine hSkip ?_
    refine qSeq rfl ?_
    refine hSeq ?_
    refine hSeq ?_
    refine hReg (sq 0 (sl 1 (sq 2 (sq 3 (sq 4 (sl 5 (sq 6 (sq 7 sz)))))))) (by kernel_rfl) ?_
    refine mvI rfl rfl rfl ?_
    refine callP Try.call44 trv rfl rfl (fun w hs => spec_l19Chips_c _ w) ?_
    refine notD rfl rfl rfl ?_
    refine mvB rfl rfl rfl ?_
    refine rBoolD (d := 16) rfl (fun g2 => ?_) (fun g2 => ?_)
    · -- g2T
      refine rSkipQ rfl rfl ?_
      refine rSkipL trv rfl rfl ?_
      refine rSkipQ rfl rfl ?_
      refine pickB rfl rfl rfl rfl ?_
      refine rNil ?_
      refine qSeq rfl ?_
      refine hIfT rfl ?_
      refine hSeq ?_
      refine hReg (sq 0 (sl 1 (sq 2 sz))) (by kernel_rfl) ?_
      refine bld rfl rfl rfl (bld26) ?_
      refine stAl 0 rfl Try.sizeOf26 trv rfl rfl rfl rfl rfl (by simp [Value.oneCell']) rfl ?_
      refine asI rfl rfl rfl ?_
      refine rNil ?_
      refine qSeq rfl ?_
      refine hRet ?_
      exact fun w hs => ⟨[_, .int .i64 _], ⟨⟨_, rfl, run_load_agg Try.isAgg26 Try.sizeOf26 rfl (cBs 0 rfl w hs)⟩, ⟨rfl, trivial⟩⟩, ⟨by first | exact congrArg resR (Math.callV_1 c1).symm | exact congrArg resR (Math.callV_2 c1 (by omega)).symm | exact congrArg resR (Math.callV_3 c1 (by omega) c3).symm | exact congrArg resR (Math.callV_4 c1 (by omega) c3).symm | exact congrArg resR (Math.callV_S c1 (by omega)).symm, hs.upd⟩⟩
    · -- g2F
      refine mvI rfl rfl rfl ?_
      refine callP Try.call44 trv rfl rfl (fun w hs => spec_l19Chips_c _ w) ?_
      refine notD rfl rfl rfl ?_
      refine pickB rfl rfl rfl rfl ?_
      refine rNil ?_
      refine qSeq rfl ?_
      refine hIfD rfl (fun c3 => ?_) (fun c3 => ?_)
      · -- c3T
        refine hSeq ?_
        refine hReg (sq 0 (sl 1 (sq 2 sz))) (by kernel_rfl) ?_
        refine bld rfl rfl rfl (bld26) ?_
        refine stAl 0 rfl Try.sizeOf26 trv rfl rfl rfl rfl rfl (by simp [Value.oneCell']) rfl ?_
        refine asI rfl rfl rfl ?_
        refine rNil ?_
        refine qSeq rfl ?_
        refine hRet ?_
        exact fun w hs => ⟨[_, .int .i64 _], ⟨⟨_, rfl, run_load_agg Try.isAgg26 Try.sizeOf26 rfl (cBs 0 rfl w hs)⟩, ⟨rfl, trivial⟩⟩, ⟨by first | exact congrArg resR (Math.callV_1 c1).symm | exact congrArg resR (Math.callV_2 c1 (by omega)).symm | exact congrArg resR (Math.callV_3 c1 (by omega) c3).symm | exact congrArg resR (Math.callV_4 c1 (by omega) c3).symm | exact congrArg resR (Math.callV_S c1 (by omega)).symm, hs.upd⟩⟩
      · -- c3F
        refine hSkip ?_
        refine qSeq rfl ?_
        refine hSeq ?_
        refine hReg (sq 0 (sl 1 (sq 2 sz))) (by kernel_rfl) ?_
        refine bld rfl rfl rfl (bld57) ?_
        refine box trv1 rfl rfl rfl rfl (fun bkb3 hbkb3 => ?_)
        refine asn rfl rfl rfl ?_
        refine rNil ?_
        refine qSeq rfl ?_
        refine hSeq ?_
        refine hDraw (by kernel_rfl) (sq 0 (sq 1 (sq 2 (sq 3 (sq 4 (sq 5 (sq 6 (sq 9 (sq 10 (sl 7 (sl 8 (sl 11 (sl 12 (sl 13 (sq 14 (sq 15 (sl 16 (sq 17 sz)))))))))))))))))) (by kernel_rfl) (.cons _ (.cons _ (.cons_cons _ .slnil))) ?_
        refine mvP rfl rfl rfl ?_
        refine mvP rfl rfl rfl ?_
        refine mvP rfl rfl rfl ?_
        refine ldAq Try.isAgg26 Try.sizeOf26 (cBs 0 rfl) rfl rfl rfl rfl ?_
        refine mvI rfl rfl rfl ?_
        refine mvI rfl rfl rfl ?_
        refine add rfl rfl rfl rfl (by omega) ?_
        refine mvI rfl rfl rfl ?_
        refine neg rfl rfl rfl (by omega) ?_
        refine callP Try.call54 (fun _ h => h.sub (.cons _ (.cons _ (.cons_cons _ .slnil)))) rfl rfl (fun w hs => spec_l19Whole_c _ w) ?_
        refine callB 0 rfl Try.call53 (fun _ h => h.sub (.cons _ (.cons _ (.cons_cons _ .slnil)))) rfl rfl (fun w hs => spec_l19Times_c _ _ _ _ _ _ w (hs.at_ 0 rfl)) ?_
        refine callP Try.call54 (fun _ h => h.sub (.cons _ (.cons _ (.cons_cons _ .slnil)))) rfl rfl (fun w hs => spec_l19Whole_c _ w) ?_
        refine callB 0 rfl Try.call52 (fun _ h => h.sub (.cons _ (.cons _ (.cons_cons _ .slnil)))) rfl rfl (fun w hs => spec_l19Add_c _ _ _ _ _ _ w (hs.at_ 0 rfl)) ?_
        refine callB 0 rfl Try.call51 (fun _ h => h.sub (.cons _ (.cons _ (.cons_cons _ .slnil)))) rfl rfl (fun w hs => spec_l19Result_c _ _ _ _ w (hs.at_ 0 rfl)) ?_
        refine ext rfl rfl rfl rfl ?_
        refine ext rfl rfl rfl rfl ?_
        refine stAl 1 rfl Try.sizeOf26 (fun _ h => h.sub (.cons _ (.cons _ (.cons_cons _ .slnil)))) rfl rfl rfl rfl rfl (by simp [Value.oneCell']) rfl ?_
        refine asI rfl rfl rfl ?_
        refine rNil ?_
        refine qSeq rfl ?_
        refine hRet ?_
        exact fun w hs => ⟨[_, .int .i64 _], ⟨⟨_, rfl, run_load_agg Try.isAgg26 Try.sizeOf26 rfl (cBs 1 rfl w hs)⟩, ⟨rfl, trivial⟩⟩, ⟨by first | exact congrArg resR (Math.callV_1 c1).symm | exact congrArg resR (Math.callV_2 c1 (by omega)).symm | exact congrArg resR (Math.callV_3 c1 (by omega) c3).symm | exact congrArg resR (Math.callV_4 c1 (by omega) c3).symm | exact congrArg resR (Math.callV_S c1 (by omega)).symm, hs.upd⟩⟩

set_option maxHeartbeats 1000000 in
theorem impl_BetValue_c (pot bet a b c d : Int) (w : World) :
    Calls Try.prog 33 #[.int .i64 pot, .int .i64 bet, .agg #[.int .i64 a, .int .i64 b], .agg #[.int .i64 c, .int .i64 d]] w (Ret fun v w' => v = resR (Math.betV pot bet (a, b) (c, d)) ∧ Ext w w') := by
  refine fn (M := none_) (rs := [.cell 8 26, .tmp 9]) Try.func33 rfl Try.ntmps33 rfl rfl (Sep.start _ _) ?_
  refine hSeq ?_
  refine hReg (sl 0 (sl 1 (sl 2 (sq 3 sz)))) (by kernel_rfl) ?_
  refine box trv1 rfl rfl rfl rfl (fun bkb1 hbkb1 => ?_)
  refine box trv1 rfl rfl rfl rfl (fun bkb2 hbkb2 => ?_)
  refine alc Try.zeroValue26 rfl trv1 rfl rfl (fun bka3 hbka3 => ?_)
  refine asI rfl rfl rfl ?_
  refine rNil ?_
  refine qSeq rfl ?_
  refine hSeq ?_
  refine hSeq ?_
  refine hReg (sl 0 (sl 1 (sq 2 (sq 3 (sl 4 (sl 5 (sq 6 (sq 7 sz)))))))) (by kernel_rfl) ?_
  refine ldAl Try.isAgg26 Try.sizeOf26 (cBs 2 rfl) trv rfl rfl rfl rfl ?_
  refine callP Try.call55 trv rfl rfl (fun w hs => impl_isShare_c _ _ w) ?_
  refine not rfl rfl rfl ?_
  refine mvB rfl rfl rfl ?_
  refine rBoolN (d := 19) rfl (fun g1 => ?_) (fun g1 => ?_)
  · -- g1T
    refine rSkipL trv rfl rfl ?_
    refine rSkipL trv rfl rfl ?_
    refine rSkipQ rfl rfl ?_
    refine pickB rfl rfl rfl rfl ?_
    refine rNil ?_
    refine qSeq rfl ?_
    refine hIfT rfl ?_
    refine hSeq ?_
    refine hReg (sq 0 (sl 1 (sq 2 sz))) (by kernel_rfl) ?_
    refine bld rfl rfl rfl (bld26) ?_
    refine stAl 0 rfl Try.sizeOf26 trv rfl rfl rfl rfl rfl (by simp [Value.oneCell']) rfl ?_
    refine asI rfl rfl rfl ?_
    refine rNil ?_
    refine qSeq rfl ?_
    refine hRet ?_
    exact fun w hs => ⟨[_, .int .i64 _], ⟨⟨_, rfl, run_load_agg Try.isAgg26 Try.sizeOf26 rfl (cBs 0 rfl w hs)⟩, ⟨rfl, trivial⟩⟩, ⟨(resR_mk _ _ _).trans (congrArg resR (Math.betV_0 (by simp [*])).symm), hs.upd⟩⟩
  · -- g1F
    refine ldAl Try.isAgg26 Try.sizeOf26 (cBs 1 rfl) trv rfl rfl rfl rfl ?_
    refine callP Try.call55 trv rfl rfl (fun w hs => impl_isShare_c _ _ w) ?_
    refine not rfl rfl rfl ?_
    refine pickB rfl rfl rfl rfl ?_
    refine rNil ?_
    refine qSeq rfl ?_
    refine hIfN rfl (fun c2 => ?_) (fun c2 => ?_)
    · -- c2T
      refine hSeq ?_
      refine hReg (sq 0 (sl 1 (sq 2 sz))) (by kernel_rfl) ?_
      refine bld rfl rfl rfl (bld26) ?_
      refine stAl 0 rfl Try.sizeOf26 trv rfl rfl rfl rfl rfl (by simp [Value.oneCell']) rfl ?_
      refine asI rfl rfl rfl ?_
      refine rNil ?_
      refine qSeq rfl ?_
      refine hRet ?_
      exact fun w hs => ⟨[_, .int .i64 _], ⟨⟨_, rfl, run_load_agg Try.isAgg26 Try.sizeOf26 rfl (cBs 0 rfl w hs)⟩, ⟨rfl, trivial⟩⟩, ⟨(resR_mk _ _ _).trans (congrArg resR (Math.betV_0 (by simp [*])).symm), hs.upd⟩⟩
    · -- c2F
      refine hSkip ?_
      refine qSeq rfl ?_
      refine hSeq ?_
      refine hSeq ?_
      refine hReg (sq 0 (sq 1 (sl 2 (sq 3 sz)))) (by kernel_rfl) ?_
      refine mvI rfl rfl rfl ?_
      refine mvI rfl rfl rfl ?_
      refine callP Try.call56 trv rfl rfl (fun w hs => impl_areChips_c _ _ w) ?_
      refine notD rfl rfl rfl ?_
      refine rNil ?_
      refine qSeq rfl ?_
      refine hIfD rfl (fun c3 => ?_) (fun c3 => ?_)
      · -- c3T
        refine hSeq ?_
        refine hReg (sq 0 (sl 1 (sq 2 sz))) (by kernel_rfl) ?_
        refine bld rfl rfl rfl (bld26) ?_
        refine stAl 0 rfl Try.sizeOf26 trv rfl rfl rfl rfl rfl (by simp [Value.oneCell']) rfl ?_
        refine asI rfl rfl rfl ?_
        refine rNil ?_
        refine qSeq rfl ?_
        refine hRet ?_
        exact fun w hs => ⟨[_, .int .i64 _], ⟨⟨_, rfl, run_load_agg Try.isAgg26 Try.sizeOf26 rfl (cBs 0 rfl w hs)⟩, ⟨rfl, trivial⟩⟩, ⟨(resR_mk _ _ _).trans (congrArg resR (Math.betV_2 g1 c2 (by omega)).symm), hs.upd⟩⟩
      · -- c3F
        refine hSkip ?_
        refine qSeq rfl ?_
        refine hSeq ?_
        refine hReg (sl 0 (sq 1 (sq 2 (sq 3 (sq 4 (sq 5 (sl 6 (sq 7 (sq 8 (sq 9 (sl 10 (sl 11 (sq 12 sz))))))))))))) (by kernel_rfl) ?_
        refine ldAl Try.isAgg26 Try.sizeOf26 (cBs 1 rfl) trv rfl rfl rfl rfl ?_
        refine mvI rfl rfl rfl ?_
        refine mvI rfl rfl rfl ?_
        refine mul rfl rfl rfl rfl (by omega) ?_
        refine add rfl rfl rfl rfl (by omega) ?_
        refine bld rfl rfl rfl (bld26_0_1 (.int .i64 _) (.int .i64 _) rfl rfl) ?_
        refine callP Try.call57 trv rfl rfl (fun w hs => impl_MultiplyRatios_c _ _ _ _ w) ?_
        refine mv rfl rfl rfl ?_
        refine ext rfl rfl rfl rfl ?_
        refine ext rfl rfl rfl rfl ?_
        refine alc Try.zeroValue26 rfl trv1 rfl rfl (fun bka4 hbka4 => ?_)
        refine stAl 0 rfl Try.sizeOf26 trv rfl rfl rfl rfl rfl (by simp [Value.oneCell']) rfl ?_
        refine asI rfl rfl rfl ?_
        refine rNil ?_
        refine qSeq rfl ?_
        refine hSeq ?_
        refine hSeq ?_
        refine hReg (sq 0 (sq 1 sz)) (by kernel_rfl) ?_
        refine mvI rfl rfl rfl ?_
        refine neq rfl rfl rfl rfl ?_
        refine rNil ?_
        refine qSeq rfl ?_
        refine hIfD rfl (fun c4 => ?_) (fun c4 => ?_)
        · -- c4T
          refine hSeq ?_
          refine hReg (sq 0 (sq 1 (sl 2 (sq 3 sz)))) (by kernel_rfl) ?_
          refine bld rfl rfl rfl (bld26) ?_
          refine mvI rfl rfl rfl ?_
          refine stAl 1 rfl Try.sizeOf26 trv rfl rfl rfl rfl rfl (by simp [Value.oneCell']) rfl ?_
          refine asI rfl rfl rfl ?_
          refine rNil ?_
          refine qSeq rfl ?_
          refine hRet ?_
          exact fun w hs => ⟨[_, .int .i64 _], ⟨⟨_, rfl, run_load_agg Try.isAgg26 Try.sizeOf26 rfl (cBs 1 rfl w hs)⟩, ⟨rfl, trivial⟩⟩, ⟨(resR_mk _ _ _).trans (congrArg resR (by rw [Math.betV_W g1 c2 (by omega)]; unfold Math.betW; rw [Math.bnd_yes c4])), hs.upd⟩⟩
        · -- c4F
          have hf := Math.isShare_bd g1; have he := Math.isShare_bd c2
          refine hSkip ?_
          refine qSeq rfl ?_
          refine hSeq ?_
          refine hReg (sl 0 (sq 1 (sq 2 (sl 3 (sq 4 (sq 5 (sq 6 (sl 7 (sl 8 (sq 9 sz)))))))))) (by kernel_rfl) ?_
          refine ldAl Try.isAgg26 Try.sizeOf26 (cBs 0 rfl) trv rfl rfl rfl rfl ?_
          refine mvI rfl rfl rfl ?_
          refine bld rfl rfl rfl (bld26_0_1 (.int .i64 _) (.int .i64 _) rfl rfl) ?_
          refine callP Try.call58 trv rfl rfl (fun w hs => impl_SubtractRatios_c _ _ _ _ w) ?_
          refine mv rfl rfl rfl ?_
          refine ext rfl rfl rfl rfl ?_
          refine ext rfl rfl rfl rfl ?_
          refine alc Try.zeroValue26 rfl trv1 rfl rfl (fun bka5 hbka5 => ?_)
          refine stAl 0 rfl Try.sizeOf26 trv rfl rfl rfl rfl rfl (by simp [Value.oneCell']) rfl ?_
          refine asI rfl rfl rfl ?_
          refine rNil ?_
          refine qSeq rfl ?_
          refine hSeq ?_
          refine hSeq ?_
          refine hReg (sq 0 (sq 1 sz)) (by kernel_rfl) ?_
          refine mvI rfl rfl rfl ?_
          refine neq rfl rfl rfl rfl ?_
          refine rNil ?_
          refine qSeq rfl ?_
          refine hIfD rfl (fun c5 => ?_) (fun c5 => ?_)
          · -- c5T
            refine hSeq ?_
            refine hReg (sq 0 (sq 1 (sl 2 (sq 3 sz)))) (by kernel_rfl) ?_
            refine bld rfl rfl rfl (bld26) ?_
            refine mvI rfl rfl rfl ?_
            refine stAl 2 rfl Try.sizeOf26 trv rfl rfl rfl rfl rfl (by simp [Value.oneCell']) rfl ?_
            refine asI rfl rfl rfl ?_
            refine rNil ?_
            refine qSeq rfl ?_
            refine hRet ?_
            exact fun w hs => ⟨[_, .int .i64 _], ⟨⟨_, rfl, run_load_agg Try.isAgg26 Try.sizeOf26 rfl (cBs 2 rfl w hs)⟩, ⟨rfl, trivial⟩⟩, ⟨(resR_mk _ _ _).trans (congrArg resR (by rw [Math.betV_W g1 c2 (by omega)]; unfold Math.betW; rw [Math.bnd_no c4, Math.bnd_yes c5])), hs.upd⟩⟩
          · -- c5F
            refine hSkip ?_
            refine qSeq rfl ?_
            refine hSeq ?_
            refine hReg (sq 0 (sl 1 (sl 2 (sq 3 (sq 4 (sq 5 (sl 6 (sl 7 (sq 8 sz))))))))) (by kernel_rfl) ?_
            refine bld rfl rfl rfl (bld26_0_1 (.int .i64 _) (.int .i64 _) rfl rfl) ?_
            refine ldAl Try.isAgg26 Try.sizeOf26 (cBs 4 rfl) trv rfl rfl rfl rfl ?_
            refine callP Try.call58 trv rfl rfl (fun w hs => impl_SubtractRatios_c _ _ _ _ w) ?_
            refine mv rfl rfl rfl ?_
            refine ext rfl rfl rfl rfl ?_
            refine ext rfl rfl rfl rfl ?_
            refine alc Try.zeroValue26 rfl trv1 rfl rfl (fun bka6 hbka6 => ?_)
            refine stAl 0 rfl Try.sizeOf26 trv rfl rfl rfl rfl rfl (by simp [Value.oneCell']) rfl ?_
            refine asI rfl rfl rfl ?_
            refine rNil ?_
            refine qSeq rfl ?_
            refine hSeq ?_
            refine hSeq ?_
            refine hReg (sq 0 (sq 1 sz)) (by kernel_rfl) ?_
            refine mvI rfl rfl rfl ?_
            refine neq rfl rfl rfl rfl ?_
            refine rNil ?_
            refine qSeq rfl ?_
            refine hIfD rfl (fun c6 => ?_) (fun c6 => ?_)
            · -- c6T
              refine hSeq ?_
              refine hReg (sq 0 (sq 1 (sl 2 (sq 3 sz)))) (by kernel_rfl) ?_
              refine bld rfl rfl rfl (bld26) ?_
              refine mvI rfl rfl rfl ?_
              refine stAl 3 rfl Try.sizeOf26 trv rfl rfl rfl rfl rfl (by simp [Value.oneCell']) rfl ?_
              refine asI rfl rfl rfl ?_
              refine rNil ?_
              refine qSeq rfl ?_
              refine hRet ?_
              exact fun w hs => ⟨[_, .int .i64 _], ⟨⟨_, rfl, run_load_agg Try.isAgg26 Try.sizeOf26 rfl (cBs 3 rfl w hs)⟩, ⟨rfl, trivial⟩⟩, ⟨(resR_mk _ _ _).trans (congrArg resR (by rw [Math.betV_W g1 c2 (by omega)]; unfold Math.betW; rw [Math.bnd_no c4, Math.bnd_no c5, Math.bnd_yes c6])), hs.upd⟩⟩
            · -- c6F
              refine hSkip ?_
              refine qSeq rfl ?_
              refine hSeq ?_
              refine hReg (sl 0 (sl 1 (sl 2 (sq 3 (sq 4 (sq 5 (sl 6 (sl 7 (sq 8 sz))))))))) (by kernel_rfl) ?_
              refine ldAl Try.isAgg26 Try.sizeOf26 (cBs 0 rfl) trv rfl rfl rfl rfl ?_
              refine ldAl Try.isAgg26 Try.sizeOf26 (cBs 1 rfl) trv rfl rfl rfl rfl ?_
              refine callP Try.call57 trv rfl rfl (fun w hs => impl_MultiplyRatios_c _ _ _ _ w) ?_
              refine mv rfl rfl rfl ?_
              refine ext rfl rfl rfl rfl ?_
              refine ext rfl rfl rfl rfl ?_
              refine alc Try.zeroValue26 rfl trv1 rfl rfl (fun bka7 hbka7 => ?_)
              refine stAl 0 rfl Try.sizeOf26 trv rfl rfl rfl rfl rfl (by simp [Value.oneCell']) rfl ?_
              refine asI rfl rfl rfl ?_
              refine rNil ?_
              refine qSeq rfl ?_
              refine hSeq ?_
              refine hSeq ?_
              refine hReg (sq 0 (sq 1 sz)) (by kernel_rfl) ?_
              refine mvI rfl rfl rfl ?_
              refine neq rfl rfl rfl rfl ?_
              refine rNil ?_
              refine qSeq rfl ?_
              refine hIfD rfl (fun c7 => ?_) (fun c7 => ?_)
              · -- c7T
                refine hSeq ?_
                refine hReg (sq 0 (sq 1 (sl 2 (sq 3 sz)))) (by kernel_rfl) ?_
                refine bld rfl rfl rfl (bld26) ?_
                refine mvI rfl rfl rfl ?_
                refine stAl 4 rfl Try.sizeOf26 trv rfl rfl rfl rfl rfl (by simp [Value.oneCell']) rfl ?_
                refine asI rfl rfl rfl ?_
                refine rNil ?_
                refine qSeq rfl ?_
                refine hRet ?_
                exact fun w hs => ⟨[_, .int .i64 _], ⟨⟨_, rfl, run_load_agg Try.isAgg26 Try.sizeOf26 rfl (cBs 4 rfl w hs)⟩, ⟨rfl, trivial⟩⟩, ⟨(resR_mk _ _ _).trans (congrArg resR (by rw [Math.betV_W g1 c2 (by omega)]; unfold Math.betW; rw [Math.bnd_no c4, Math.bnd_no c5, Math.bnd_no c6, Math.bnd_yes c7])), hs.upd⟩⟩
              · -- c7F
                refine hSkip ?_
                refine qSeq rfl ?_
                refine hSeq ?_
                refine hReg (sl 0 (sq 1 (sq 2 (sl 3 (sq 4 (sq 5 (sq 6 (sl 7 (sl 8 (sq 9 sz)))))))))) (by kernel_rfl) ?_
                refine ldAl Try.isAgg26 Try.sizeOf26 (cBs 6 rfl) trv rfl rfl rfl rfl ?_
                refine mvI rfl rfl rfl ?_
                refine bld rfl rfl rfl (bld26_0_1 (.int .i64 _) (.int .i64 _) rfl rfl) ?_
                refine callP Try.call57 trv rfl rfl (fun w hs => impl_MultiplyRatios_c _ _ _ _ w) ?_
                refine mv rfl rfl rfl ?_
                refine ext rfl rfl rfl rfl ?_
                refine ext rfl rfl rfl rfl ?_
                refine alc Try.zeroValue26 rfl trv1 rfl rfl (fun bka8 hbka8 => ?_)
                refine stAl 0 rfl Try.sizeOf26 trv rfl rfl rfl rfl rfl (by simp [Value.oneCell']) rfl ?_
                refine asI rfl rfl rfl ?_
                refine rNil ?_
                refine qSeq rfl ?_
                refine hSeq ?_
                refine hSeq ?_
                refine hReg (sq 0 (sq 1 sz)) (by kernel_rfl) ?_
                refine mvI rfl rfl rfl ?_
                refine neq rfl rfl rfl rfl ?_
                refine rNil ?_
                refine qSeq rfl ?_
                refine hIfD rfl (fun c8 => ?_) (fun c8 => ?_)
                · -- c8T
                  refine hSeq ?_
                  refine hReg (sq 0 (sq 1 (sl 2 (sq 3 sz)))) (by kernel_rfl) ?_
                  refine bld rfl rfl rfl (bld26) ?_
                  refine mvI rfl rfl rfl ?_
                  refine stAl 5 rfl Try.sizeOf26 trv rfl rfl rfl rfl rfl (by simp [Value.oneCell']) rfl ?_
                  refine asI rfl rfl rfl ?_
                  refine rNil ?_
                  refine qSeq rfl ?_
                  refine hRet ?_
                  exact fun w hs => ⟨[_, .int .i64 _], ⟨⟨_, rfl, run_load_agg Try.isAgg26 Try.sizeOf26 rfl (cBs 5 rfl w hs)⟩, ⟨rfl, trivial⟩⟩, ⟨(resR_mk _ _ _).trans (congrArg resR (by rw [Math.betV_W g1 c2 (by omega)]; unfold Math.betW; rw [Math.bnd_no c4, Math.bnd_no c5, Math.bnd_no c6, Math.bnd_no c7, Math.bnd_yes c8])), hs.upd⟩⟩
                · -- c8F
                  refine hSkip ?_
                  refine qSeq rfl ?_
                  refine hSeq ?_
                  refine hReg (sl 0 (sl 1 (sl 2 (sq 3 (sq 4 (sl 5 (sq 6 sz))))))) (by kernel_rfl) ?_
                  refine ldAl Try.isAgg26 Try.sizeOf26 (cBs 1 rfl) trv rfl rfl rfl rfl ?_
                  refine ldAl Try.isAgg26 Try.sizeOf26 (cBs 0 rfl) trv rfl rfl rfl rfl ?_
                  refine callP Try.call36 trv rfl rfl (fun w hs => impl_AddRatios_c _ _ _ _ w) ?_
                  refine ext rfl rfl rfl rfl ?_
                  refine ext rfl rfl rfl rfl ?_
                  refine stAl 5 rfl Try.sizeOf26 trv rfl rfl rfl rfl rfl (by simp [Value.oneCell']) rfl ?_
                  refine asI rfl rfl rfl ?_
                  refine rNil ?_
                  refine qSeq rfl ?_
                  refine hRet ?_
                  exact fun w hs => ⟨[_, .int .i64 _], ⟨⟨_, rfl, run_load_agg Try.isAgg26 Try.sizeOf26 rfl (cBs 5 rfl w hs)⟩, ⟨rfl, trivial⟩⟩, ⟨(resR_mk _ _ _).trans (congrArg resR (by rw [Math.betV_W g1 c2 (by omega)]; unfold Math.betW; rw [Math.bnd_no c4, Math.bnd_no c5, Math.bnd_no c6, Math.bnd_no c7, Math.bnd_no c8])), hs.upd⟩⟩

set_option maxHeartbeats 1000000 in
theorem spec_BetValue_c (pot bet a b c d : Int) (w : World) :
    Calls Try.prog 32 #[.int .i64 pot, .int .i64 bet, .agg #[.int .i64 a, .int .i64 b], .agg #[.int .i64 c, .int .i64 d]] w (Ret fun v w' => v = resR (Math.betV pot bet (a, b) (c, d)) ∧ Ext w w') := by
  refine fn (M := none_) (rs := [.cell 8 26, .tmp 9]) Try.func32 rfl Try.ntmps32 rfl rfl (Sep.start _ _) ?_
  refine hSeq ?_
  refine hReg (sl 0 (sl 1 (sl 2 (sq 3 sz)))) (by kernel_rfl) ?_
  refine box trv1 rfl rfl rfl rfl (fun bkb1 hbkb1 => ?_)
  refine box trv1 rfl rfl rfl rfl (fun bkb2 hbkb2 => ?_)
  refine alc Try.zeroValue26 rfl trv1 rfl rfl (fun bka3 hbka3 => ?_)
  refine asI rfl rfl rfl ?_
  refine rNil ?_
  refine qSeq rfl ?_
  refine hSeq ?_
  refine hSeq ?_
  refine hReg (sl 0 (sl 1 (sq 2 (sq 3 (sl 4 (sl 5 (sq 6 (sq 7 sz)))))))) (by kernel_rfl) ?_
  refine ldAl Try.isAgg26 Try.sizeOf26 (cBs 2 rfl) trv rfl rfl rfl rfl ?_
  refine callP Try.call50 trv rfl rfl (fun w hs => spec_l19Share_c _ _ w) ?_
  refine not rfl rfl rfl ?_
  refine mvB rfl rfl rfl ?_
  refine rBoolN (d := 18) rfl (fun g1 => ?_) (fun g1 => ?_)
  · -- g1T
    refine rSkipL trv rfl rfl ?_
    refine rSkipL trv rfl rfl ?_
    refine rSkipQ rfl rfl ?_
    refine pickB rfl rfl rfl rfl ?_
    refine rNil ?_
    refine qSeq rfl ?_
    refine hIfT rfl ?_
    refine hSeq ?_
    refine hReg (sq 0 (sl 1 (sq 2 sz))) (by kernel_rfl) ?_
    refine bld rfl rfl rfl (bld26) ?_
    refine stAl 0 rfl Try.sizeOf26 trv rfl rfl rfl rfl rfl (by simp [Value.oneCell']) rfl ?_
    refine asI rfl rfl rfl ?_
    refine rNil ?_
    refine qSeq rfl ?_
    refine hRet ?_
    exact fun w hs => ⟨[_, .int .i64 _], ⟨⟨_, rfl, run_load_agg Try.isAgg26 Try.sizeOf26 rfl (cBs 0 rfl w hs)⟩, ⟨rfl, trivial⟩⟩, ⟨(resR_mk _ _ _).trans (congrArg resR (Math.betV_0 (by simp [*])).symm), hs.upd⟩⟩
  · -- g1F
    refine ldAl Try.isAgg26 Try.sizeOf26 (cBs 1 rfl) trv rfl rfl rfl rfl ?_
    refine callP Try.call50 trv rfl rfl (fun w hs => spec_l19Share_c _ _ w) ?_
    refine not rfl rfl rfl ?_
    refine pickB rfl rfl rfl rfl ?_
    refine rNil ?_
    refine qSeq rfl ?_
    refine hIfN rfl (fun c2 => ?_) (fun c2 => ?_)
    · -- c2T
      refine hSeq ?_
      refine hReg (sq 0 (sl 1 (sq 2 sz))) (by kernel_rfl) ?_
      refine bld rfl rfl rfl (bld26) ?_
      refine stAl 0 rfl Try.sizeOf26 trv rfl rfl rfl rfl rfl (by simp [Value.oneCell']) rfl ?_
      refine asI rfl rfl rfl ?_
      refine rNil ?_
      refine qSeq rfl ?_
      refine hRet ?_
      exact fun w hs => ⟨[_, .int .i64 _], ⟨⟨_, rfl, run_load_agg Try.isAgg26 Try.sizeOf26 rfl (cBs 0 rfl w hs)⟩, ⟨rfl, trivial⟩⟩, ⟨(resR_mk _ _ _).trans (congrArg resR (Math.betV_0 (by simp [*])).symm), hs.upd⟩⟩
    · -- c2F
      refine hSkip ?_
      refine qSeq rfl ?_
      refine hSeq ?_
      refine hSeq ?_
      refine hReg (sq 0 (sl 1 (sq 2 (sq 3 (sq 4 (sl 5 (sq 6 (sq 7 sz)))))))) (by kernel_rfl) ?_
      refine mvI rfl rfl rfl ?_
      refine callP Try.call44 trv rfl rfl (fun w hs => spec_l19Chips_c _ w) ?_
      refine notD rfl rfl rfl ?_
      refine mvB rfl rfl rfl ?_
      refine rBoolD (d := 27) rfl (fun g3 => ?_) (fun g3 => ?_)
      · -- g3T
        refine rSkipQ rfl rfl ?_
        refine rSkipL trv rfl rfl ?_
        refine rSkipQ rfl rfl ?_
        refine pickB rfl rfl rfl rfl ?_
        refine rNil ?_
        refine qSeq rfl ?_
        refine hIfT rfl ?_
        refine hSeq ?_
        refine hReg (sq 0 (sl 1 (sq 2 sz))) (by kernel_rfl) ?_
        refine bld rfl rfl rfl (bld26) ?_
        refine stAl 0 rfl Try.sizeOf26 trv rfl rfl rfl rfl rfl (by simp [Value.oneCell']) rfl ?_
        refine asI rfl rfl rfl ?_
        refine rNil ?_
        refine qSeq rfl ?_
        refine hRet ?_
        exact fun w hs => ⟨[_, .int .i64 _], ⟨⟨_, rfl, run_load_agg Try.isAgg26 Try.sizeOf26 rfl (cBs 0 rfl w hs)⟩, ⟨rfl, trivial⟩⟩, ⟨(resR_mk _ _ _).trans (congrArg resR (Math.betV_2 g1 c2 (by omega)).symm), hs.upd⟩⟩
      · -- g3F
        refine mvI rfl rfl rfl ?_
        refine callP Try.call44 trv rfl rfl (fun w hs => spec_l19Chips_c _ w) ?_
        refine notD rfl rfl rfl ?_
        refine pickB rfl rfl rfl rfl ?_
        refine rNil ?_
        refine qSeq rfl ?_
        refine hIfD rfl (fun c4 => ?_) (fun c4 => ?_)
        · -- c4T
          refine hSeq ?_
          refine hReg (sq 0 (sl 1 (sq 2 sz))) (by kernel_rfl) ?_
          refine bld rfl rfl rfl (bld26) ?_
          refine stAl 0 rfl Try.sizeOf26 trv rfl rfl rfl rfl rfl (by simp [Value.oneCell']) rfl ?_
          refine asI rfl rfl rfl ?_
          refine rNil ?_
          refine qSeq rfl ?_
          refine hRet ?_
          exact fun w hs => ⟨[_, .int .i64 _], ⟨⟨_, rfl, run_load_agg Try.isAgg26 Try.sizeOf26 rfl (cBs 0 rfl w hs)⟩, ⟨rfl, trivial⟩⟩, ⟨(resR_mk _ _ _).trans (congrArg resR (Math.betV_2 g1 c2 (by omega)).symm), hs.upd⟩⟩
        · -- c4F
          have hf := Math.isShare_bd g1; have he := Math.isShare_bd c2
          refine hSkip ?_
          refine qSeq rfl ?_
          refine hSeq ?_
          refine hReg (sq 0 (sl 1 (sq 2 sz))) (by kernel_rfl) ?_
          refine bld rfl rfl rfl (bld57) ?_
          refine box trv1 rfl rfl rfl rfl (fun bkb4 hbkb4 => ?_)
          refine asn rfl rfl rfl ?_
          refine rNil ?_
          refine qSeq rfl ?_
          refine hSeq ?_
          refine hDraw (by kernel_rfl) (sq 0 (sq 1 (sq 2 (sq 3 (sq 4 (sq 5 (sq 6 (sq 9 (sq 10 (.alt (sl 7 (.alt (sl 8 (.alt (sl 11 (.alt (sl 12 (sl 13 (sf 14 sz))) (sl 13 (sl 12 (sf 14 sz))))) (sl 13 (sl 11 (sl 12 (sf 14 sz)))))) (sl 13 (sl 8 (sl 11 (sl 12 (sf 14 sz))))))) (sl 13 (sl 7 (sl 8 (sl 11 (sl 12 (sf 14 sz)))))))))))))))) (by kernel_rfl) (.cons _ (.cons _ (.cons_cons _ (.cons _ .slnil)))) ?_
          refine mvP rfl rfl rfl ?_
          refine mvP rfl rfl rfl ?_
          refine ldAq Try.isAgg26 Try.sizeOf26 (cBs 0 rfl) rfl rfl rfl rfl ?_
          refine mvI rfl rfl rfl ?_
          refine mvI rfl rfl rfl ?_
          refine mul rfl rfl rfl rfl (by omega) ?_
          refine add rfl rfl rfl rfl (by omega) ?_
          refine mvI rfl rfl rfl ?_
          refine neg rfl rfl rfl (by omega) ?_
          refine rAlt ?_ ?_
          ·
            refine callP Try.call54 (fun _ h => h.sub (.cons _ (.cons _ (.cons_cons _ (.cons _ .slnil))))) rfl rfl (fun w hs => spec_l19Whole_c _ w) ?_
            refine rAlt ?_ ?_
            ·
              refine callB 0 rfl Try.call53 (fun _ h => h.sub (.cons _ (.cons _ (.cons_cons _ (.cons _ .slnil))))) rfl rfl (fun w hs => spec_l19Times_c _ _ _ _ _ _ w (hs.at_ 0 rfl)) ?_
              refine rAlt ?_ ?_
              ·
                refine callP Try.call54 (fun _ h => h.sub (.cons _ (.cons _ (.cons_cons _ (.cons _ .slnil))))) rfl rfl (fun w hs => spec_l19Whole_c _ w) ?_
                refine rAlt ?_ ?_
                ·
                  refine callB 0 rfl Try.call52 (fun _ h => h.sub (.cons _ (.cons _ (.cons_cons _ (.cons _ .slnil))))) rfl rfl (fun w hs => spec_l19Add_c _ _ _ _ _ _ w (hs.at_ 0 rfl)) ?_
                  refine alc Try.zeroValue26 rfl (fun _ _ h => h.sub (.cons _ (.cons _ (.cons _ (.cons_cons _ (.cons _ .slnil)))))) rfl rfl (fun bka5 hbka5 => ?_)
                  refine stAf 0 rfl Try.sizeOf26 rfl rfl rfl rfl rfl (by simp [Value.oneCell']) rfl ?_
                  refine rNil ?_
                  refine qSeq rfl ?_
                  refine hSeq ?_
                  refine hDraw (by kernel_rfl) (sq 0 (sq 2 (sq 3 (sq 4 (sq 5 (sq 6 (sq 7 (.alt (sl 1 (.alt (sl 8 (sl 9 (sf 10 sz))) (sl 9 (sl 8 (sf 10 sz))))) (sl 9 (sl 1 (sl 8 (sf 10 sz)))))))))))) (by kernel_rfl) (.cons _ (.cons _ (.cons _ (.cons _ (.cons_cons _ .slnil))))) ?_
                  refine mvP rfl rfl rfl ?_
                  refine fld fl26_0 rfl rfl rfl ?_
                  refine ldq Try.isAgg2 (cB 0 rfl rfl) rfl rfl rfl ?_
                  refine neg rfl rfl rfl (by omega) ?_
                  refine fld fl26_1 rfl rfl rfl ?_
                  refine ldq Try.isAgg2 (cB 0 rfl rfl) rfl rfl rfl ?_
                  refine bld rfl rfl rfl (bld26_0_1 (.int .i64 _) (.int .i64 _) rfl rfl) ?_
                  refine rAlt ?_ ?_
                  ·
                    refine callP Try.call54 (fun _ h => h.sub (.cons _ (.cons _ (.cons _ (.cons _ (.cons_cons _ .slnil)))))) rfl rfl (fun w hs => spec_l19Whole_c _ w) ?_
                    refine rAlt ?_ ?_
                    ·
                      refine callB 1 rfl Try.call52 (fun _ h => h.sub (.cons _ (.cons _ (.cons _ (.cons _ (.cons_cons _ .slnil)))))) rfl rfl (fun w hs => spec_l19Add_c _ _ _ _ _ _ w (hs.at_ 1 rfl)) ?_
                      refine alc Try.zeroValue26 rfl (fun _ _ h => h.sub (.cons _ (.cons _ (.cons _ (.cons _ (.cons _ (.cons_cons _ .slnil))))))) rfl rfl (fun bka6 hbka6 => ?_)
                      refine stAf 0 rfl Try.sizeOf26 rfl rfl rfl rfl rfl (by simp [Value.oneCell']) rfl ?_
                      refine rNil ?_
                      refine qSeq rfl ?_
                      refine hSeq ?_
                      refine hReg (sq 0 (sl 1 (sl 2 (sl 3 (sl 4 (sl 5 sz)))))) (by kernel_rfl) ?_
                      refine mvP rfl rfl rfl ?_
                      refine ldAl Try.isAgg26 Try.sizeOf26 (cBs 0 rfl) trv rfl rfl rfl rfl ?_
                      refine ldAl Try.isAgg26 Try.sizeOf26 (cBs 1 rfl) trv rfl rfl rfl rfl ?_
                      refine callB 2 rfl Try.call53 trv rfl rfl (fun w hs => spec_l19Times_c _ _ _ _ _ _ w (hs.at_ 2 rfl)) ?_
                      refine alc Try.zeroValue26 rfl trv1 rfl rfl (fun bka7 hbka7 => ?_)
                      refine stAl 0 rfl Try.sizeOf26 trv rfl rfl rfl rfl rfl (by simp [Value.oneCell']) rfl ?_
                      refine rNil ?_
                      refine qSeq rfl ?_
                      refine hSeq ?_
                      refine hDraw (by kernel_rfl) (sq 0 (sq 1 (sq 2 (.alt (sl 3 (.alt (sl 4 (sl 5 (sf 6 sz))) (sl 5 (sl 4 (sf 6 sz))))) (sl 5 (sl 3 (sl 4 (sf 6 sz)))))))) (by kernel_rfl) (.cons _ (.cons _ (.cons _ (.cons _ (.cons _ (.cons _ (.cons_cons _ .slnil))))))) ?_
                      refine mvP rfl rfl rfl ?_
                      refine ldAq Try.isAgg26 Try.sizeOf26 (cBs 0 rfl) rfl rfl rfl rfl ?_
                      refine mvI rfl rfl rfl ?_
                      refine rAlt ?_ ?_
                      ·
                        refine callP Try.call54 (fun _ h => h.sub (.cons _ (.cons _ (.cons _ (.cons _ (.cons _ (.cons _ (.cons_cons _ .slnil)))))))) rfl rfl (fun w hs => spec_l19Whole_c _ w) ?_
                        refine rAlt ?_ ?_
                        ·
                          refine callB 3 rfl Try.call53 (fun _ h => h.sub (.cons _ (.cons _ (.cons _ (.cons _ (.cons _ (.cons _ (.cons_cons _ .slnil)))))))) rfl rfl (fun w hs => spec_l19Times_c _ _ _ _ _ _ w (hs.at_ 3 rfl)) ?_
                          refine alc Try.zeroValue26 rfl (fun _ _ h => h.sub (.cons _ (.cons _ (.cons _ (.cons _ (.cons _ (.cons _ (.cons _ (.cons_cons _ .slnil))))))))) rfl rfl (fun bka8 hbka8 => ?_)
                          refine stAf 0 rfl Try.sizeOf26 rfl rfl rfl rfl rfl (by simp [Value.oneCell']) rfl ?_
                          refine rNil ?_
                          refine qSeq rfl ?_
                          refine hSeq ?_
                          refine hReg (sq 0 (sq 1 (sl 2 (sl 3 (sl 4 (sl 5 (sq 6 (sq 7 (sl 8 (sq 9 sz)))))))))) (by kernel_rfl) ?_
                          refine mvP rfl rfl rfl ?_
                          refine mvP rfl rfl rfl ?_
                          refine ldAl Try.isAgg26 Try.sizeOf26 (cBs 0 rfl) trv rfl rfl rfl rfl ?_
                          refine ldAl Try.isAgg26 Try.sizeOf26 (cBs 1 rfl) trv rfl rfl rfl rfl ?_
                          refine callB 4 rfl Try.call52 trv rfl rfl (fun w hs => spec_l19Add_c _ _ _ _ _ _ w (hs.at_ 4 rfl)) ?_
                          refine callB 4 rfl Try.call51 trv rfl rfl (fun w hs => spec_l19Result_c _ _ _ _ w (hs.at_ 4 rfl)) ?_
                          refine ext rfl rfl rfl rfl ?_
                          refine ext rfl rfl rfl rfl ?_
                          refine stAl 5 rfl Try.sizeOf26 trv rfl rfl rfl rfl rfl (by simp [Value.oneCell']) rfl ?_
                          refine asI rfl rfl rfl ?_
                          refine rNil ?_
                          refine qSeq rfl ?_
                          refine hRet ?_
                          exact fun w hs => ⟨[_, .int .i64 _], ⟨⟨_, rfl, run_load_agg Try.isAgg26 Try.sizeOf26 rfl (cBs 5 rfl w hs)⟩, ⟨rfl, trivial⟩⟩, ⟨by rw [Math.betV_S g1 c2 (by omega)]; rfl, hs.upd⟩⟩
                        ·
                          refine alc Try.zeroValue26 rfl (fun _ _ h => h.sub (.cons _ (.cons _ (.cons _ (.cons _ (.cons _ (.cons _ (.cons _ (.cons_cons _ .slnil))))))))) rfl rfl (fun bka9 hbka9 => ?_)
                          refine callB 4 rfl Try.call53 (fun _ h => h.sub (.cons _ (.cons _ (.cons _ (.cons _ (.cons _ (.cons _ (.cons _ (.cons_cons _ .slnil))))))))) rfl rfl (fun w hs => spec_l19Times_c _ _ _ _ _ _ w (hs.at_ 4 rfl)) ?_
                          refine stAf 0 rfl Try.sizeOf26 rfl rfl rfl rfl rfl (by simp [Value.oneCell']) rfl ?_
                          refine rNil ?_
                          refine qSeq rfl ?_
                          refine hSeq ?_
                          refine hReg (sq 0 (sq 1 (sl 2 (sl 3 (sl 4 (sl 5 (sq 6 (sq 7 (sl 8 (sq 9 sz)))))))))) (by kernel_rfl) ?_
                          refine mvP rfl rfl rfl ?_
                          refine mvP rfl rfl rfl ?_
                          refine ldAl Try.isAgg26 Try.sizeOf26 (cBs 0 rfl) trv rfl rfl rfl rfl ?_
                          refine ldAl Try.isAgg26 Try.sizeOf26 (cBs 1 rfl) trv rfl rfl rfl rfl ?_
                          refine callB 4 rfl Try.call52 trv rfl rfl (fun w hs => spec_l19Add_c _ _ _ _ _ _ w (hs.at_ 4 rfl)) ?_
                          refine callB 4 rfl Try.call51 trv rfl rfl (fun w hs => spec_l19Result_c _ _ _ _ w (hs.at_ 4 rfl)) ?_
                          refine ext rfl rfl rfl rfl ?_
                          refine ext rfl rfl rfl rfl ?_
                          refine stAl 5 rfl Try.sizeOf26 trv rfl rfl rfl rfl rfl (by simp [Value.oneCell']) rfl ?_
                          refine asI rfl rfl rfl ?_
                          refine rNil ?_
                          refine qSeq rfl ?_
                          refine hRet ?_
                          exact fun w hs => ⟨[_, .int .i64 _], ⟨⟨_, rfl, run_load_agg Try.isAgg26 Try.sizeOf26 rfl (cBs 5 rfl w hs)⟩, ⟨rfl, trivial⟩⟩, ⟨by rw [Math.betV_S g1 c2 (by omega)]; rfl, hs.upd⟩⟩
                      ·
                        refine alc Try.zeroValue26 rfl (fun _ _ h => h.sub (.cons _ (.cons _ (.cons _ (.cons _ (.cons _ (.cons _ (.cons _ (.cons_cons _ .slnil))))))))) rfl rfl (fun bka10 hbka10 => ?_)
                        refine callP Try.call54 (fun _ h => h.sub (.cons _ (.cons _ (.cons _ (.cons _ (.cons _ (.cons _ (.cons _ (.cons_cons _ .slnil))))))))) rfl rfl (fun w hs => spec_l19Whole_c _ w) ?_
                        refine callB 4 rfl Try.call53 (fun _ h => h.sub (.cons _ (.cons _ (.cons _ (.cons _ (.cons _ (.cons _ (.cons _ (.cons_cons _ .slnil))))))))) rfl rfl (fun w hs => spec_l19Times_c _ _ _ _ _ _ w (hs.at_ 4 rfl)) ?_
                        refine stAf 0 rfl Try.sizeOf26 rfl rfl rfl rfl rfl (by simp [Value.oneCell']) rfl ?_
                        refine rNil ?_
                        refine qSeq rfl ?_
                        refine hSeq ?_
                        refine hReg (sq 0 (sq 1 (sl 2 (sl 3 (sl 4 (sl 5 (sq 6 (sq 7 (sl 8 (sq 9 sz)))))))))) (by kernel_rfl) ?_
                        refine mvP rfl rfl rfl ?_
                        refine mvP rfl rfl rfl ?_
                        refine ldAl Try.isAgg26 Try.sizeOf26 (cBs 0 rfl) trv rfl rfl rfl rfl ?_
                        refine ldAl Try.isAgg26 Try.sizeOf26 (cBs 1 rfl) trv rfl rfl rfl rfl ?_
                        refine callB 4 rfl Try.call52 trv rfl rfl (fun w hs => spec_l19Add_c _ _ _ _ _ _ w (hs.at_ 4 rfl)) ?_
                        refine callB 4 rfl Try.call51 trv rfl rfl (fun w hs => spec_l19Result_c _ _ _ _ w (hs.at_ 4 rfl)) ?_
                        refine ext rfl rfl rfl rfl ?_
                        refine ext rfl rfl rfl rfl ?_
                        refine stAl 5 rfl Try.sizeOf26 trv rfl rfl rfl rfl rfl (by simp [Value.oneCell']) rfl ?_
                        refine asI rfl rfl rfl ?_
                        refine rNil ?_
                        refine qSeq rfl ?_
                        refine hRet ?_
                        exact fun w hs => ⟨[_, .int .i64 _], ⟨⟨_, rfl, run_load_agg Try.isAgg26 Try.sizeOf26 rfl (cBs 5 rfl w hs)⟩, ⟨rfl, trivial⟩⟩, ⟨by rw [Math.betV_S g1 c2 (by omega)]; rfl, hs.upd⟩⟩
                    ·
                      refine alc Try.zeroValue26 rfl (fun _ _ h => h.sub (.cons _ (.cons _ (.cons _ (.cons _ (.cons _ (.cons_cons _ .slnil))))))) rfl rfl (fun bka11 hbka11 => ?_)
                      refine callB 2 rfl Try.call52 (fun _ h => h.sub (.cons _ (.cons _ (.cons _ (.cons _ (.cons _ (.cons_cons _ .slnil))))))) rfl rfl (fun w hs => spec_l19Add_c _ _ _ _ _ _ w (hs.at_ 2 rfl)) ?_
                      refine stAf 0 rfl Try.sizeOf26 rfl rfl rfl rfl rfl (by simp [Value.oneCell']) rfl ?_
                      refine rNil ?_
                      refine qSeq rfl ?_
                      refine hSeq ?_
                      refine hReg (sq 0 (sl 1 (sl 2 (sl 3 (sl 4 (sl 5 sz)))))) (by kernel_rfl) ?_
                      refine mvP rfl rfl rfl ?_
                      refine ldAl Try.isAgg26 Try.sizeOf26 (cBs 0 rfl) trv rfl rfl rfl rfl ?_
                      refine ldAl Try.isAgg26 Try.sizeOf26 (cBs 1 rfl) trv rfl rfl rfl rfl ?_
                      refine callB 2 rfl Try.call53 trv rfl rfl (fun w hs => spec_l19Times_c _ _ _ _ _ _ w (hs.at_ 2 rfl)) ?_
                      refine alc Try.zeroValue26 rfl trv1 rfl rfl (fun bka12 hbka12 => ?_)
                      refine stAl 0 rfl Try.sizeOf26 trv rfl rfl rfl rfl rfl (by simp [Value.oneCell']) rfl ?_
                      refine rNil ?_
                      refine qSeq rfl ?_
                      refine hSeq ?_
                      refine hDraw (by kernel_rfl) (sq 0 (sq 1 (sq 2 (.alt (sl 3 (.alt (sl 4 (sl 5 (sf 6 sz))) (sl 5 (sl 4 (sf 6 sz))))) (sl 5 (sl 3 (sl 4 (sf 6 sz)))))))) (by kernel_rfl) (.cons _ (.cons _ (.cons _ (.cons _ (.cons _ (.cons _ (.cons_cons _ .slnil))))))) ?_
                      refine mvP rfl rfl rfl ?_
                      refine ldAq Try.isAgg26 Try.sizeOf26 (cBs 0 rfl) rfl rfl rfl rfl ?_
                      refine mvI rfl rfl rfl ?_
                      refine rAlt ?_ ?_
                      ·
                        refine callP Try.call54 (fun _ h => h.sub (.cons _ (.cons _ (.cons _ (.cons _ (.cons _ (.cons _ (.cons_cons _ .slnil)))))))) rfl rfl (fun w hs => spec_l19Whole_c _ w) ?_
                        refine rAlt ?_ ?_
                        ·
                          refine callB 3 rfl Try.call53 (fun _ h => h.sub (.cons _ (.cons _ (.cons _ (.cons _ (.cons _ (.cons _ (.cons_cons _ .slnil)))))))) rfl rfl (fun w hs => spec_l19Times_c _ _ _ _ _ _ w (hs.at_ 3 rfl)) ?_
                          refine alc Try.zeroValue26 rfl (fun _ _ h => h.sub (.cons _ (.cons _ (.cons _ (.cons _ (.cons _ (.cons _ (.cons _ (.cons_cons _ .slnil))))))))) rfl rfl (fun bka13 hbka13 => ?_)
                          refine stAf 0 rfl Try.sizeOf26 rfl rfl rfl rfl rfl (by simp [Value.oneCell']) rfl ?_
                          refine rNil ?_
                          refine qSeq rfl ?_
                          refine hSeq ?_
                          refine hReg (sq 0 (sq 1 (sl 2 (sl 3 (sl 4 (sl 5 (sq 6 (sq 7 (sl 8 (sq 9 sz)))))))))) (by kernel_rfl) ?_
                          refine mvP rfl rfl rfl ?_
                          refine mvP rfl rfl rfl ?_
                          refine ldAl Try.isAgg26 Try.sizeOf26 (cBs 0 rfl) trv rfl rfl rfl rfl ?_
                          refine ldAl Try.isAgg26 Try.sizeOf26 (cBs 1 rfl) trv rfl rfl rfl rfl ?_
                          refine callB 4 rfl Try.call52 trv rfl rfl (fun w hs => spec_l19Add_c _ _ _ _ _ _ w (hs.at_ 4 rfl)) ?_
                          refine callB 4 rfl Try.call51 trv rfl rfl (fun w hs => spec_l19Result_c _ _ _ _ w (hs.at_ 4 rfl)) ?_
                          refine ext rfl rfl rfl rfl ?_
                          refine ext rfl rfl rfl rfl ?_
                          refine stAl 5 rfl Try.sizeOf26 trv rfl rfl rfl rfl rfl (by simp [Value.oneCell']) rfl ?_
                          refine asI rfl rfl rfl ?_
                          refine rNil ?_
                          refine qSeq rfl ?_
                          refine hRet ?_
                          exact fun w hs => ⟨[_, .int .i64 _], ⟨⟨_, rfl, run_load_agg Try.isAgg26 Try.sizeOf26 rfl (cBs 5 rfl w hs)⟩, ⟨rfl, trivial⟩⟩, ⟨by rw [Math.betV_S g1 c2 (by omega)]; rfl, hs.upd⟩⟩
                        ·
                          refine alc Try.zeroValue26 rfl (fun _ _ h => h.sub (.cons _ (.cons _ (.cons _ (.cons _ (.cons _ (.cons _ (.cons _ (.cons_cons _ .slnil))))))))) rfl rfl (fun bka14 hbka14 => ?_)
                          refine callB 4 rfl Try.call53 (fun _ h => h.sub (.cons _ (.cons _ (.cons _ (.cons _ (.cons _ (.cons _ (.cons _ (.cons_cons _ .slnil))))))))) rfl rfl (fun w hs => spec_l19Times_c _ _ _ _ _ _ w (hs.at_ 4 rfl)) ?_
                          refine stAf 0 rfl Try.sizeOf26 rfl rfl rfl rfl rfl (by simp [Value.oneCell']) rfl ?_
                          refine rNil ?_
                          refine qSeq rfl ?_
                          refine hSeq ?_
                          refine hReg (sq 0 (sq 1 (sl 2 (sl 3 (sl 4 (sl 5 (sq 6 (sq 7 (sl 8 (sq 9 sz)))))))))) (by kernel_rfl) ?_
                          refine mvP rfl rfl rfl ?_
                          refine mvP rfl rfl rfl ?_
                          refine ldAl Try.isAgg26 Try.sizeOf26 (cBs 0 rfl) trv rfl rfl rfl rfl ?_
                          refine ldAl Try.isAgg26 Try.sizeOf26 (cBs 1 rfl) trv rfl rfl rfl rfl ?_
                          refine callB 4 rfl Try.call52 trv rfl rfl (fun w hs => spec_l19Add_c _ _ _ _ _ _ w (hs.at_ 4 rfl)) ?_
                          refine callB 4 rfl Try.call51 trv rfl rfl (fun w hs => spec_l19Result_c _ _ _ _ w (hs.at_ 4 rfl)) ?_
                          refine ext rfl rfl rfl rfl ?_
                          refine ext rfl rfl rfl rfl ?_
                          refine stAl 5 rfl Try.sizeOf26 trv rfl rfl rfl rfl rfl (by simp [Value.oneCell']) rfl ?_
                          refine asI rfl rfl rfl ?_
                          refine rNil ?_
                          refine qSeq rfl ?_
                          refine hRet ?_
                          exact fun w hs => ⟨[_, .int .i64 _], ⟨⟨_, rfl, run_load_agg Try.isAgg26 Try.sizeOf26 rfl (cBs 5 rfl w hs)⟩, ⟨rfl, trivial⟩⟩, ⟨by rw [Math.betV_S g1 c2 (by omega)]; rfl, hs.upd⟩⟩
                      ·
                        refine alc Try.zeroValue26 rfl (fun _ _ h => h.sub (.cons _ (.cons _ (.cons _ (.cons _ (.cons _ (.cons _ (.cons _ (.cons_cons _ .slnil))))))))) rfl rfl (fun bka15 hbka15 => ?_)
                        refine callP Try.call54 (fun _ h => h.sub (.cons _ (.cons _ (.cons _ (.cons _ (.cons _ (.cons _ (.cons _ (.cons_cons _ .slnil))))))))) rfl rfl (fun w hs => spec_l19Whole_c _ w) ?_
                        refine callB 4 rfl Try.call53 (fun _ h => h.sub (.cons _ (.cons _ (.cons _ (.cons _ (.cons _ (.cons _ (.cons _ (.cons_cons _ .slnil))))))))) rfl rfl (fun w hs => spec_l19Times_c _ _ _ _ _ _ w (hs.at_ 4 rfl)) ?_
                        refine stAf 0 rfl Try.sizeOf26 rfl rfl rfl rfl rfl (by simp [Value.oneCell']) rfl ?_
                        refine rNil ?_
                        refine qSeq rfl ?_
                        refine hSeq ?_
                        refine hReg (sq 0 (sq 1 (sl 2 (sl 3 (sl 4 (sl 5 (sq 6 (sq 7 (sl 8 (sq 9 sz)))))))))) (by kernel_rfl) ?_
                        refine mvP rfl rfl rfl ?_
                        refine mvP rfl rfl rfl ?_
                        refine ldAl Try.isAgg26 Try.sizeOf26 (cBs 0 rfl) trv rfl rfl rfl rfl ?_
                        refine ldAl Try.isAgg26 Try.sizeOf26 (cBs 1 rfl) trv rfl rfl rfl rfl ?_
                        refine callB 4 rfl Try.call52 trv rfl rfl (fun w hs => spec_l19Add_c _ _ _ _ _ _ w (hs.at_ 4 rfl)) ?_
                        refine callB 4 rfl Try.call51 trv rfl rfl (fun w hs => spec_l19Result_c _ _ _ _ w (hs.at_ 4 rfl)) ?_
                        refine ext rfl rfl rfl rfl ?_
                        refine ext rfl rfl rfl rfl ?_
                        refine stAl 5 rfl Try.sizeOf26 trv rfl rfl rfl rfl rfl (by simp [Value.oneCell']) rfl ?_
                        refine asI rfl rfl rfl ?_
                        refine rNil ?_
                        refine qSeq rfl ?_
                        refine hRet ?_
                        exact fun w hs => ⟨[_, .int .i64 _], ⟨⟨_, rfl, run_load_agg Try.isAgg26 Try.sizeOf26 rfl (cBs 5 rfl w hs)⟩, ⟨rfl, trivial⟩⟩, ⟨by rw [Math.betV_S g1 c2 (by omega)]; rfl, hs.upd⟩⟩
                  ·
                    refine alc Try.zeroValue26 rfl (fun _ _ h => h.sub (.cons _ (.cons _ (.cons _ (.cons _ (.cons _ (.cons_cons _ .slnil))))))) rfl rfl (fun bka16 hbka16 => ?_)
                    refine callP Try.call54 (fun _ h => h.sub (.cons _ (.cons _ (.cons _ (.cons _ (.cons _ (.cons_cons _ .slnil))))))) rfl rfl (fun w hs => spec_l19Whole_c _ w) ?_
                    refine callB 2 rfl Try.call52 (fun _ h => h.sub (.cons _ (.cons _ (.cons _ (.cons _ (.cons _ (.cons_cons _ .slnil))))))) rfl rfl (fun w hs => spec_l19Add_c _ _ _ _ _ _ w (hs.at_ 2 rfl)) ?_
                    refine stAf 0 rfl Try.sizeOf26 rfl rfl rfl rfl rfl (by simp [Value.oneCell']) rfl ?_
                    refine rNil ?_
                    refine qSeq rfl ?_
                    refine hSeq ?_
                    refine hReg (sq 0 (sl 1 (sl 2 (sl 3 (sl 4 (sl 5 sz)))))) (by kernel_rfl) ?_
                    refine mvP rfl rfl rfl ?_
                    refine ldAl Try.isAgg26 Try.sizeOf26 (cBs 0 rfl) trv rfl rfl rfl rfl ?_
                    refine ldAl Try.isAgg26 Try.sizeOf26 (cBs 1 rfl) trv rfl rfl rfl rfl ?_
                    refine callB 2 rfl Try.call53 trv rfl rfl (fun w hs => spec_l19Times_c _ _ _ _ _ _ w (hs.at_ 2 rfl)) ?_
                    refine alc Try.zeroValue26 rfl trv1 rfl rfl (fun bka17 hbka17 => ?_)
                    refine stAl 0 rfl Try.sizeOf26 trv rfl rfl rfl rfl rfl (by simp [Value.oneCell']) rfl ?_
                    refine rNil ?_
                    refine qSeq rfl ?_
                    refine hSeq ?_
                    refine hDraw (by kernel_rfl) (sq 0 (sq 1 (sq 2 (.alt (sl 3 (.alt (sl 4 (sl 5 (sf 6 sz))) (sl 5 (sl 4 (sf 6 sz))))) (sl 5 (sl 3 (sl 4 (sf 6 sz)))))))) (by kernel_rfl) (.cons _ (.cons _ (.cons _ (.cons _ (.cons _ (.cons _ (.cons_cons _ .slnil))))))) ?_
                    refine mvP rfl rfl rfl ?_
                    refine ldAq Try.isAgg26 Try.sizeOf26 (cBs 0 rfl) rfl rfl rfl rfl ?_
                    refine mvI rfl rfl rfl ?_
                    refine rAlt ?_ ?_
                    ·
                      refine callP Try.call54 (fun _ h => h.sub (.cons _ (.cons _ (.cons _ (.cons _ (.cons _ (.cons _ (.cons_cons _ .slnil)))))))) rfl rfl (fun w hs => spec_l19Whole_c _ w) ?_
                      refine rAlt ?_ ?_
                      ·
                        refine callB 3 rfl Try.call53 (fun _ h => h.sub (.cons _ (.cons _ (.cons _ (.cons _ (.cons _ (.cons _ (.cons_cons _ .slnil)))))))) rfl rfl (fun w hs => spec_l19Times_c _ _ _ _ _ _ w (hs.at_ 3 rfl)) ?_
                        refine alc Try.zeroValue26 rfl (fun _ _ h => h.sub (.cons _ (.cons _ (.cons _ (.cons _ (.cons _ (.cons _ (.cons _ (.cons_cons _ .slnil))))))))) rfl rfl (fun bka18 hbka18 => ?_)
                        refine stAf 0 rfl Try.sizeOf26 rfl rfl rfl rfl rfl (by simp [Value.oneCell']) rfl ?_
                        refine rNil ?_
                        refine qSeq rfl ?_
                        refine hSeq ?_
                        refine hReg (sq 0 (sq 1 (sl 2 (sl 3 (sl 4 (sl 5 (sq 6 (sq 7 (sl 8 (sq 9 sz)))))))))) (by kernel_rfl) ?_
                        refine mvP rfl rfl rfl ?_
                        refine mvP rfl rfl rfl ?_
                        refine ldAl Try.isAgg26 Try.sizeOf26 (cBs 0 rfl) trv rfl rfl rfl rfl ?_
                        refine ldAl Try.isAgg26 Try.sizeOf26 (cBs 1 rfl) trv rfl rfl rfl rfl ?_
                        refine callB 4 rfl Try.call52 trv rfl rfl (fun w hs => spec_l19Add_c _ _ _ _ _ _ w (hs.at_ 4 rfl)) ?_
                        refine callB 4 rfl Try.call51 trv rfl rfl (fun w hs => spec_l19Result_c _ _ _ _ w (hs.at_ 4 rfl)) ?_
                        refine ext rfl rfl rfl rfl ?_
                        refine ext rfl rfl rfl rfl ?_
                        refine stAl 5 rfl Try.sizeOf26 trv rfl rfl rfl rfl rfl (by simp [Value.oneCell']) rfl ?_
                        refine asI rfl rfl rfl ?_
                        refine rNil ?_
                        refine qSeq rfl ?_
                        refine hRet ?_
                        exact fun w hs => ⟨[_, .int .i64 _], ⟨⟨_, rfl, run_load_agg Try.isAgg26 Try.sizeOf26 rfl (cBs 5 rfl w hs)⟩, ⟨rfl, trivial⟩⟩, ⟨by rw [Math.betV_S g1 c2 (by omega)]; rfl, hs.upd⟩⟩
                      ·
                        refine alc Try.zeroValue26 rfl (fun _ _ h => h.sub (.cons _ (.cons _ (.cons _ (.cons _ (.cons _ (.cons _ (.cons _ (.cons_cons _ .slnil))))))))) rfl rfl (fun bka19 hbka19 => ?_)
                        refine callB 4 rfl Try.call53 (fun _ h => h.sub (.cons _ (.cons _ (.cons _ (.cons _ (.cons _ (.cons _ (.cons _ (.cons_cons _ .slnil))))))))) rfl rfl (fun w hs => spec_l19Times_c _ _ _ _ _ _ w (hs.at_ 4 rfl)) ?_
                        refine stAf 0 rfl Try.sizeOf26 rfl rfl rfl rfl rfl (by simp [Value.oneCell']) rfl ?_
                        refine rNil ?_
                        refine qSeq rfl ?_
                        refine hSeq ?_
                        refine hReg (sq 0 (sq 1 (sl 2 (sl 3 (sl 4 (sl 5 (sq 6 (sq 7 (sl 8 (sq 9 sz)))))))))) (by kernel_rfl) ?_
                        refine mvP rfl rfl rfl ?_
                        refine mvP rfl rfl rfl ?_
                        refine ldAl Try.isAgg26 Try.sizeOf26 (cBs 0 rfl) trv rfl rfl rfl rfl ?_
                        refine ldAl Try.isAgg26 Try.sizeOf26 (cBs 1 rfl) trv rfl rfl rfl rfl ?_
                        refine callB 4 rfl Try.call52 trv rfl rfl (fun w hs => spec_l19Add_c _ _ _ _ _ _ w (hs.at_ 4 rfl)) ?_
                        refine callB 4 rfl Try.call51 trv rfl rfl (fun w hs => spec_l19Result_c _ _ _ _ w (hs.at_ 4 rfl)) ?_
                        refine ext rfl rfl rfl rfl ?_
                        refine ext rfl rfl rfl rfl ?_
                        refine stAl 5 rfl Try.sizeOf26 trv rfl rfl rfl rfl rfl (by simp [Value.oneCell']) rfl ?_
                        refine asI rfl rfl rfl ?_
                        refine rNil ?_
                        refine qSeq rfl ?_
                        refine hRet ?_
                        exact fun w hs => ⟨[_, .int .i64 _], ⟨⟨_, rfl, run_load_agg Try.isAgg26 Try.sizeOf26 rfl (cBs 5 rfl w hs)⟩, ⟨rfl, trivial⟩⟩, ⟨by rw [Math.betV_S g1 c2 (by omega)]; rfl, hs.upd⟩⟩
                    ·
                      refine alc Try.zeroValue26 rfl (fun _ _ h => h.sub (.cons _ (.cons _ (.cons _ (.cons _ (.cons _ (.cons _ (.cons _ (.cons_cons _ .slnil))))))))) rfl rfl (fun bka20 hbka20 => ?_)
                      refine callP Try.call54 (fun _ h => h.sub (.cons _ (.cons _ (.cons _ (.cons _ (.cons _ (.cons _ (.cons _ (.cons_cons _ .slnil))))))))) rfl rfl (fun w hs => spec_l19Whole_c _ w) ?_
                      refine callB 4 rfl Try.call53 (fun _ h => h.sub (.cons _ (.cons _ (.cons _ (.cons _ (.cons _ (.cons _ (.cons _ (.cons_cons _ .slnil))))))))) rfl rfl (fun w hs => spec_l19Times_c _ _ _ _ _ _ w (hs.at_ 4 rfl)) ?_
                      refine stAf 0 rfl Try.sizeOf26 rfl rfl rfl rfl rfl (by simp [Value.oneCell']) rfl ?_
                      refine rNil ?_
                      refine qSeq rfl ?_
                      refine hSeq ?_
                      refine hReg (sq 0 (sq 1 (sl 2 (sl 3 (sl 4 (sl 5 (sq 6 (sq 7 (sl 8 (sq 9 sz)))))))))) (by kernel_rfl) ?_
                      refine mvP rfl rfl rfl ?_
                      refine mvP rfl rfl rfl ?_
                      refine ldAl Try.isAgg26 Try.sizeOf26 (cBs 0 rfl) trv rfl rfl rfl rfl ?_
                      refine ldAl Try.isAgg26 Try.sizeOf26 (cBs 1 rfl) trv rfl rfl rfl rfl ?_
                      refine callB 4 rfl Try.call52 trv rfl rfl (fun w hs => spec_l19Add_c _ _ _ _ _ _ w (hs.at_ 4 rfl)) ?_
                      refine callB 4 rfl Try.call51 trv rfl rfl (fun w hs => spec_l19Result_c _ _ _ _ w (hs.at_ 4 rfl)) ?_
                      refine ext rfl rfl rfl rfl ?_
                      refine ext rfl rfl rfl rfl ?_
                      refine stAl 5 rfl Try.sizeOf26 trv rfl rfl rfl rfl rfl (by simp [Value.oneCell']) rfl ?_
                      refine asI rfl rfl rfl ?_
                      refine rNil ?_
                      refine qSeq rfl ?_
                      refine hRet ?_
                      exact fun w hs => ⟨[_, .int .i64 _], ⟨⟨_, rfl, run_load_agg Try.isAgg26 Try.sizeOf26 rfl (cBs 5 rfl w hs)⟩, ⟨rfl, trivial⟩⟩, ⟨by rw [Math.betV_S g1 c2 (by omega)]; rfl, hs.upd⟩⟩
                ·
                  refine alc Try.zeroValue26 rfl (fun _ _ h => h.sub (.cons _ (.cons _ (.cons _ (.cons_cons _ (.cons _ .slnil)))))) rfl rfl (fun bka21 hbka21 => ?_)
                  refine callB 1 rfl Try.call52 (fun _ h => h.sub (.cons _ (.cons _ (.cons _ (.cons_cons _ (.cons _ .slnil)))))) rfl rfl (fun w hs => spec_l19Add_c _ _ _ _ _ _ w (hs.at_ 1 rfl)) ?_
                  refine stAf 0 rfl Try.sizeOf26 rfl rfl rfl rfl rfl (by simp [Value.oneCell']) rfl ?_
                  refine rNil ?_
                  refine qSeq rfl ?_
                  refine hSeq ?_
                  refine hDraw (by kernel_rfl) (sq 0 (sq 2 (sq 3 (sq 4 (sq 5 (sq 6 (sq 7 (.alt (sl 1 (.alt (sl 8 (sl 9 (sf 10 sz))) (sl 9 (sl 8 (sf 10 sz))))) (sl 9 (sl 1 (sl 8 (sf 10 sz)))))))))))) (by kernel_rfl) (.cons _ (.cons _ (.cons _ (.cons _ (.cons_cons _ .slnil))))) ?_
                  refine mvP rfl rfl rfl ?_
                  refine fld fl26_0 rfl rfl rfl ?_
                  refine ldq Try.isAgg2 (cB 0 rfl rfl) rfl rfl rfl ?_
                  refine neg rfl rfl rfl (by omega) ?_
                  refine fld fl26_1 rfl rfl rfl ?_
                  refine ldq Try.isAgg2 (cB 0 rfl rfl) rfl rfl rfl ?_
                  refine bld rfl rfl rfl (bld26_0_1 (.int .i64 _) (.int .i64 _) rfl rfl) ?_
                  refine rAlt ?_ ?_
                  ·
                    refine callP Try.call54 (fun _ h => h.sub (.cons _ (.cons _ (.cons _ (.cons _ (.cons_cons _ .slnil)))))) rfl rfl (fun w hs => spec_l19Whole_c _ w) ?_
                    refine rAlt ?_ ?_
                    ·
                      refine callB 1 rfl Try.call52 (fun _ h => h.sub (.cons _ (.cons _ (.cons _ (.cons _ (.cons_cons _ .slnil)))))) rfl rfl (fun w hs => spec_l19Add_c _ _ _ _ _ _ w (hs.at_ 1 rfl)) ?_
                      refine alc Try.zeroValue26 rfl (fun _ _ h => h.sub (.cons _ (.cons _ (.cons _ (.cons _ (.cons _ (.cons_cons _ .slnil))))))) rfl rfl (fun bka22 hbka22 => ?_)
                      refine stAf 0 rfl Try.sizeOf26 rfl rfl rfl rfl rfl (by simp [Value.oneCell']) rfl ?_
                      refine rNil ?_
                      refine qSeq rfl ?_
                      refine hSeq ?_
                      refine hReg (sq 0 (sl 1 (sl 2 (sl 3 (sl 4 (sl 5 sz)))))) (by kernel_rfl) ?_
                      refine mvP rfl rfl rfl ?_
                      refine ldAl Try.isAgg26 Try.sizeOf26 (cBs 0 rfl) trv rfl rfl rfl rfl ?_
                      refine ldAl Try.isAgg26 Try.sizeOf26 (cBs 1 rfl) trv rfl rfl rfl rfl ?_
                      refine callB 2 rfl Try.call53 trv rfl rfl (fun w hs => spec_l19Times_c _ _ _ _ _ _ w (hs.at_ 2 rfl)) ?_
                      refine alc Try.zeroValue26 rfl trv1 rfl rfl (fun bka23 hbka23 => ?_)
                      refine stAl 0 rfl Try.sizeOf26 trv rfl rfl rfl rfl rfl (by simp [Value.oneCell']) rfl ?_
                      refine rNil ?_
                      refine qSeq rfl ?_
                      refine hSeq ?_
                      refine hDraw (by kernel_rfl) (sq 0 (sq 1 (sq 2 (.alt (sl 3 (.alt (sl 4 (sl 5 (sf 6 sz))) (sl 5 (sl 4 (sf 6 sz))))) (sl 5 (sl 3 (sl 4 (sf 6 sz)))))))) (by kernel_rfl) (.cons _ (.cons _ (.cons _ (.cons _ (.cons _ (.cons _ (.cons_cons _ .slnil))))))) ?_
                      refine mvP rfl rfl rfl ?_
                      refine ldAq Try.isAgg26 Try.sizeOf26 (cBs 0 rfl) rfl rfl rfl rfl ?_
                      refine mvI rfl rfl rfl ?_
                      refine rAlt ?_ ?_
                      ·
                        refine callP Try.call54 (fun _ h => h.sub (.cons _ (.cons _ (.cons _ (.cons _ (.cons _ (.cons _ (.cons_cons _ .slnil)))))))) rfl rfl (fun w hs => spec_l19Whole_c _ w) ?_
                        refine rAlt ?_ ?_
                        ·
                          refine callB 3 rfl Try.call53 (fun _ h => h.sub (.cons _ (.cons _ (.cons _ (.cons _ (.cons _ (.cons _ (.cons_cons _ .slnil)))))))) rfl rfl (fun w hs => spec_l19Times_c _ _ _ _ _ _ w (hs.at_ 3 rfl)) ?_
                          refine alc Try.zeroValue26 rfl (fun _ _ h => h.sub (.cons _ (.cons _ (.cons _ (.cons _ (.cons _ (.cons _ (.cons _ (.cons_cons _ .slnil))))))))) rfl rfl (fun bka24 hbka24 => ?_)
                          refine stAf 0 rfl Try.sizeOf26 rfl rfl rfl rfl rfl (by simp [Value.oneCell']) rfl ?_
                          refine rNil ?_
                          refine qSeq rfl ?_
                          refine hSeq ?_
                          refine hReg (sq 0 (sq 1 (sl 2 (sl 3 (sl 4 (sl 5 (sq 6 (sq 7 (sl 8 (sq 9 sz)))))))))) (by kernel_rfl) ?_
                          refine mvP rfl rfl rfl ?_
                          refine mvP rfl rfl rfl ?_
                          refine ldAl Try.isAgg26 Try.sizeOf26 (cBs 0 rfl) trv rfl rfl rfl rfl ?_
                          refine ldAl Try.isAgg26 Try.sizeOf26 (cBs 1 rfl) trv rfl rfl rfl rfl ?_
                          refine callB 4 rfl Try.call52 trv rfl rfl (fun w hs => spec_l19Add_c _ _ _ _ _ _ w (hs.at_ 4 rfl)) ?_
                          refine callB 4 rfl Try.call51 trv rfl rfl (fun w hs => spec_l19Result_c _ _ _ _ w (hs.at_ 4 rfl)) ?_
                          refine ext rfl rfl rfl rfl ?_
                          refine ext rfl rfl rfl rfl ?_
                          refine stAl 5 rfl Try.sizeOf26 trv rfl rfl rfl rfl rfl (by simp [Value.oneCell']) rfl ?_
                          refine asI rfl rfl rfl ?_
                          refine rNil ?_
                          refine qSeq rfl ?_
                          refine hRet ?_
                          exact fun w hs => ⟨[_, .int .i64 _], ⟨⟨_, rfl, run_load_agg Try.isAgg26 Try.sizeOf26 rfl (cBs 5 rfl w hs)⟩, ⟨rfl, trivial⟩⟩, ⟨by rw [Math.betV_S g1 c2 (by omega)]; rfl, hs.upd⟩⟩
                        ·
                          refine alc Try.zeroValue26 rfl (fun _ _ h => h.sub (.cons _ (.cons _ (.cons _ (.cons _ (.cons _ (.cons _ (.cons _ (.cons_cons _ .slnil))))))))) rfl rfl (fun bka25 hbka25 => ?_)
                          refine callB 4 rfl Try.call53 (fun _ h => h.sub (.cons _ (.cons _ (.cons _ (.cons _ (.cons _ (.cons _ (.cons _ (.cons_cons _ .slnil))))))))) rfl rfl (fun w hs => spec_l19Times_c _ _ _ _ _ _ w (hs.at_ 4 rfl)) ?_
                          refine stAf 0 rfl Try.sizeOf26 rfl rfl rfl rfl rfl (by simp [Value.oneCell']) rfl ?_
                          refine rNil ?_
                          refine qSeq rfl ?_
                          refine hSeq ?_
                          refine hReg (sq 0 (sq 1 (sl 2 (sl 3 (sl 4 (sl 5 (sq 6 (sq 7 (sl 8 (sq 9 sz)))))))))) (by kernel_rfl) ?_
                          refine mvP rfl rfl rfl ?_
                          refine mvP rfl rfl rfl ?_
                          refine ldAl Try.isAgg26 Try.sizeOf26 (cBs 0 rfl) trv rfl rfl rfl rfl ?_
                          refine ldAl Try.isAgg26 Try.sizeOf26 (cBs 1 rfl) trv rfl rfl rfl rfl ?_
                          refine callB 4 rfl Try.call52 trv rfl rfl (fun w hs => spec_l19Add_c _ _ _ _ _ _ w (hs.at_ 4 rfl)) ?_
                          refine callB 4 rfl Try.call51 trv rfl rfl (fun w hs => spec_l19Result_c _ _ _ _ w (hs.at_ 4 rfl)) ?_
                          refine ext rfl rfl rfl rfl ?_
                          refine ext rfl rfl rfl rfl ?_
                          refine stAl 5 rfl Try.sizeOf26 trv rfl rfl rfl rfl rfl (by simp [Value.oneCell']) rfl ?_
                          refine asI rfl rfl rfl ?_
                          refine rNil ?_
                          refine qSeq rfl ?_
                          refine hRet ?_
                          exact fun w hs => ⟨[_, .int .i64 _], ⟨⟨_, rfl, run_load_agg Try.isAgg26 Try.sizeOf26 rfl (cBs 5 rfl w hs)⟩, ⟨rfl, trivial⟩⟩, ⟨by rw [Math.betV_S g1 c2 (by omega)]; rfl, hs.upd⟩⟩
                      ·
                        refine alc Try.zeroValue26 rfl (fun _ _ h => h.sub (.cons _ (.cons _ (.cons _ (.cons _ (.cons _ (.cons _ (.cons _ (.cons_cons _ .slnil))))))))) rfl rfl (fun bka26 hbka26 => ?_)
                        refine callP Try.call54 (fun _ h => h.sub (.cons _ (.cons _ (.cons _ (.cons _ (.cons _ (.cons _ (.cons _ (.cons_cons _ .slnil))))))))) rfl rfl (fun w hs => spec_l19Whole_c _ w) ?_
                        refine callB 4 rfl Try.call53 (fun _ h => h.sub (.cons _ (.cons _ (.cons _ (.cons _ (.cons _ (.cons _ (.cons _ (.cons_cons _ .slnil))))))))) rfl rfl (fun w hs => spec_l19Times_c _ _ _ _ _ _ w (hs.at_ 4 rfl)) ?_
                        refine stAf 0 rfl Try.sizeOf26 rfl rfl rfl rfl rfl (by simp [Value.oneCell']) rfl ?_
                        refine rNil ?_
                        refine qSeq rfl ?_
                        refine hSeq ?_
                        refine hReg (sq 0 (sq 1 (sl 2 (sl 3 (sl 4 (sl 5 (sq 6 (sq 7 (sl 8 (sq 9 sz)))))))))) (by kernel_rfl) ?_
                        refine mvP rfl rfl rfl ?_
                        refine mvP rfl rfl rfl ?_
                        refine ldAl Try.isAgg26 Try.sizeOf26 (cBs 0 rfl) trv rfl rfl rfl rfl ?_
                        refine ldAl Try.isAgg26 Try.sizeOf26 (cBs 1 rfl) trv rfl rfl rfl rfl ?_
                        refine callB 4 rfl Try.call52 trv rfl rfl (fun w hs => spec_l19Add_c _ _ _ _ _ _ w (hs.at_ 4 rfl)) ?_
                        refine callB 4 rfl Try.call51 trv rfl rfl (fun w hs => spec_l19Result_c _ _ _ _ w (hs.at_ 4 rfl)) ?_
                        refine ext rfl rfl rfl rfl ?_
                        refine ext rfl rfl rfl rfl ?_
                        refine stAl 5 rfl Try.sizeOf26 trv rfl rfl rfl rfl rfl (by simp [Value.oneCell']) rfl ?_
                        refine asI rfl rfl rfl ?_
                        refine rNil ?_
                        refine qSeq rfl ?_
                        refine hRet ?_
                        exact fun w hs => ⟨[_, .int .i64 _], ⟨⟨_, rfl, run_load_agg Try.isAgg26 Try.sizeOf26 rfl (cBs 5 rfl w hs)⟩, ⟨rfl, trivial⟩⟩, ⟨by rw [Math.betV_S g1 c2 (by omega)]; rfl, hs.upd⟩⟩
                    ·
                      refine alc Try.zeroValue26 rfl (fun _ _ h => h.sub (.cons _ (.cons _ (.cons _ (.cons _ (.cons _ (.cons_cons _ .slnil))))))) rfl rfl (fun bka27 hbka27 => ?_)
                      refine callB 2 rfl Try.call52 (fun _ h => h.sub (.cons _ (.cons _ (.cons _ (.cons _ (.cons _ (.cons_cons _ .slnil))))))) rfl rfl (fun w hs => spec_l19Add_c _ _ _ _ _ _ w (hs.at_ 2 rfl)) ?_
                      refine stAf 0 rfl Try.sizeOf26 rfl rfl rfl rfl rfl (by simp [Value.oneCell']) rfl ?_
                      refine rNil ?_
                      refine qSeq rfl ?_
                      refine hSeq ?_
                      refine hReg (sq 0 (sl 1 (sl 2 (sl 3 (sl 4 (sl 5 sz)))))) (by kernel_rfl) ?_
                      refine mvP rfl rfl rfl ?_
                      refine ldAl Try.isAgg26 Try.sizeOf26 (cBs 0 rfl) trv rfl rfl rfl rfl ?_
                      refine ldAl Try.isAgg26 Try.sizeOf26 (cBs 1 rfl) trv rfl rfl rfl rfl ?_
                      refine callB 2 rfl Try.call53 trv rfl rfl (fun w hs => spec_l19Times_c _ _ _ _ _ _ w (hs.at_ 2 rfl)) ?_
                      refine alc Try.zeroValue26 rfl trv1 rfl rfl (fun bka28 hbka28 => ?_)
                      refine stAl 0 rfl Try.sizeOf26 trv rfl rfl rfl rfl rfl (by simp [Value.oneCell']) rfl ?_
                      refine rNil ?_
                      refine qSeq rfl ?_
                      refine hSeq ?_
                      refine hDraw (by kernel_rfl) (sq 0 (sq 1 (sq 2 (.alt (sl 3 (.alt (sl 4 (sl 5 (sf 6 sz))) (sl 5 (sl 4 (sf 6 sz))))) (sl 5 (sl 3 (sl 4 (sf 6 sz)))))))) (by kernel_rfl) (.cons _ (.cons _ (.cons _ (.cons _ (.cons _ (.cons _ (.cons_cons _ .slnil))))))) ?_
                      refine mvP rfl rfl rfl ?_
                      refine ldAq Try.isAgg26 Try.sizeOf26 (cBs 0 rfl) rfl rfl rfl rfl ?_
                      refine mvI rfl rfl rfl ?_
                      refine rAlt ?_ ?_
                      ·
                        refine callP Try.call54 (fun _ h => h.sub (.cons _ (.cons _ (.cons _ (.cons _ (.cons _ (.cons _ (.cons_cons _ .slnil)))))))) rfl rfl (fun w hs => spec_l19Whole_c _ w) ?_
                        refine rAlt ?_ ?_
                        ·
                          refine callB 3 rfl Try.call53 (fun _ h => h.sub (.cons _ (.cons _ (.cons _ (.cons _ (.cons _ (.cons _ (.cons_cons _ .slnil)))))))) rfl rfl (fun w hs => spec_l19Times_c _ _ _ _ _ _ w (hs.at_ 3 rfl)) ?_
                          refine alc Try.zeroValue26 rfl (fun _ _ h => h.sub (.cons _ (.cons _ (.cons _ (.cons _ (.cons _ (.cons _ (.cons _ (.cons_cons _ .slnil))))))))) rfl rfl (fun bka29 hbka29 => ?_)
                          refine stAf 0 rfl Try.sizeOf26 rfl rfl rfl rfl rfl (by simp [Value.oneCell']) rfl ?_
                          refine rNil ?_
                          refine qSeq rfl ?_
                          refine hSeq ?_
                          refine hReg (sq 0 (sq 1 (sl 2 (sl 3 (sl 4 (sl 5 (sq 6 (sq 7 (sl 8 (sq 9 sz)))))))))) (by kernel_rfl) ?_
                          refine mvP rfl rfl rfl ?_
                          refine mvP rfl rfl rfl ?_
                          refine ldAl Try.isAgg26 Try.sizeOf26 (cBs 0 rfl) trv rfl rfl rfl rfl ?_
                          refine ldAl Try.isAgg26 Try.sizeOf26 (cBs 1 rfl) trv rfl rfl rfl rfl ?_
                          refine callB 4 rfl Try.call52 trv rfl rfl (fun w hs => spec_l19Add_c _ _ _ _ _ _ w (hs.at_ 4 rfl)) ?_
                          refine callB 4 rfl Try.call51 trv rfl rfl (fun w hs => spec_l19Result_c _ _ _ _ w (hs.at_ 4 rfl)) ?_
                          refine ext rfl rfl rfl rfl ?_
                          refine ext rfl rfl rfl rfl ?_
                          refine stAl 5 rfl Try.sizeOf26 trv rfl rfl rfl rfl rfl (by simp [Value.oneCell']) rfl ?_
                          refine asI rfl rfl rfl ?_
                          refine rNil ?_
                          refine qSeq rfl ?_
                          refine hRet ?_
                          exact fun w hs => ⟨[_, .int .i64 _], ⟨⟨_, rfl, run_load_agg Try.isAgg26 Try.sizeOf26 rfl (cBs 5 rfl w hs)⟩, ⟨rfl, trivial⟩⟩, ⟨by rw [Math.betV_S g1 c2 (by omega)]; rfl, hs.upd⟩⟩
                        ·
                          refine alc Try.zeroValue26 rfl (fun _ _ h => h.sub (.cons _ (.cons _ (.cons _ (.cons _ (.cons _ (.cons _ (.cons _ (.cons_cons _ .slnil))))))))) rfl rfl (fun bka30 hbka30 => ?_)
                          refine callB 4 rfl Try.call53 (fun _ h => h.sub (.cons _ (.cons _ (.cons _ (.cons _ (.cons _ (.cons _ (.cons _ (.cons_cons _ .slnil))))))))) rfl rfl (fun w hs => spec_l19Times_c _ _ _ _ _ _ w (hs.at_ 4 rfl)) ?_
                          refine stAf 0 rfl Try.sizeOf26 rfl rfl rfl rfl rfl (by simp [Value.oneCell']) rfl ?_
                          refine rNil ?_
                          refine qSeq rfl ?_
                          refine hSeq ?_
                          refine hReg (sq 0 (sq 1 (sl 2 (sl 3 (sl 4 (sl 5 (sq 6 (sq 7 (sl 8 (sq 9 sz)))))))))) (by kernel_rfl) ?_
                          refine mvP rfl rfl rfl ?_
                          refine mvP rfl rfl rfl ?_
                          refine ldAl Try.isAgg26 Try.sizeOf26 (cBs 0 rfl) trv rfl rfl rfl rfl ?_
                          refine ldAl Try.isAgg26 Try.sizeOf26 (cBs 1 rfl) trv rfl rfl rfl rfl ?_
                          refine callB 4 rfl Try.call52 trv rfl rfl (fun w hs => spec_l19Add_c _ _ _ _ _ _ w (hs.at_ 4 rfl)) ?_
                          refine callB 4 rfl Try.call51 trv rfl rfl (fun w hs => spec_l19Result_c _ _ _ _ w (hs.at_ 4 rfl)) ?_
                          refine ext rfl rfl rfl rfl ?_
                          refine ext rfl rfl rfl rfl ?_
                          refine stAl 5 rfl Try.sizeOf26 trv rfl rfl rfl rfl rfl (by simp [Value.oneCell']) rfl ?_
                          refine asI rfl rfl rfl ?_
                          refine rNil ?_
                          refine qSeq rfl ?_
                          refine hRet ?_
                          exact fun w hs => ⟨[_, .int .i64 _], ⟨⟨_, rfl, run_load_agg Try.isAgg26 Try.sizeOf26 rfl (cBs 5 rfl w hs)⟩, ⟨rfl, trivial⟩⟩, ⟨by rw [Math.betV_S g1 c2 (by omega)]; rfl, hs.upd⟩⟩
                      ·
                        refine alc Try.zeroValue26 rfl (fun _ _ h => h.sub (.cons _ (.cons _ (.cons _ (.cons _ (.cons _ (.cons _ (.cons _ (.cons_cons _ .slnil))))))))) rfl rfl (fun bka31 hbka31 => ?_)
                        refine callP Try.call54 (fun _ h => h.sub (.cons _ (.cons _ (.cons _ (.cons _ (.cons _ (.cons _ (.cons _ (.cons_cons _ .slnil))))))))) rfl rfl (fun w hs => spec_l19Whole_c _ w) ?_
                        refine callB 4 rfl Try.call53 (fun _ h => h.sub (.cons _ (.cons _ (.cons _ (.cons _ (.cons _ (.cons _ (.cons _ (.cons_cons _ .slnil))))))))) rfl rfl (fun w hs => spec_l19Times_c _ _ _ _ _ _ w (hs.at_ 4 rfl)) ?_
                        refine stAf 0 rfl Try.sizeOf26 rfl rfl rfl rfl rfl (by simp [Value.oneCell']) rfl ?_
                        refine rNil ?_
                        refine qSeq rfl ?_
                        refine hSeq ?_
                        refine hReg (sq 0 (sq 1 (sl 2 (sl 3 (sl 4 (sl 5 (sq 6 (sq 7 (sl 8 (sq 9 sz)))))))))) (by kernel_rfl) ?_
                        refine mvP rfl rfl rfl ?_
                        refine mvP rfl rfl rfl ?_
                        refine ldAl Try.isAgg26 Try.sizeOf26 (cBs 0 rfl) trv rfl rfl rfl rfl ?_
                        refine ldAl Try.isAgg26 Try.sizeOf26 (cBs 1 rfl) trv rfl rfl rfl rfl ?_
                        refine callB 4 rfl Try.call52 trv rfl rfl (fun w hs => spec_l19Add_c _ _ _ _ _ _ w (hs.at_ 4 rfl)) ?_
                        refine callB 4 rfl Try.call51 trv rfl rfl (fun w hs => spec_l19Result_c _ _ _ _ w (hs.at_ 4 rfl)) ?_
                        refine ext rfl rfl rfl rfl ?_
                        refine ext rfl rfl rfl rfl ?_
                        refine stAl 5 rfl Try.sizeOf26 trv rfl rfl rfl rfl rfl (by simp [Value.oneCell']) rfl ?_
                        refine asI rfl rfl rfl ?_
                        refine rNil ?_
                        refine qSeq rfl ?_
                        refine hRet ?_
                        exact fun w hs => ⟨[_, .int .i64 _], ⟨⟨_, rfl, run_load_agg Try.isAgg26 Try.sizeOf26 rfl (cBs 5 rfl w hs)⟩, ⟨rfl, trivial⟩⟩, ⟨by rw [Math.betV_S g1 c2 (by omega)]; rfl, hs.upd⟩⟩
                  ·
                    refine alc Try.zeroValue26 rfl (fun _ _ h => h.sub (.cons _ (.cons _ (.cons _ (.cons _ (.cons _ (.cons_cons _ .slnil))))))) rfl rfl (fun bka32 hbka32 => ?_)
                    refine callP Try.call54 (fun _ h => h.sub (.cons _ (.cons _ (.cons _ (.cons _ (.cons _ (.cons_cons _ .slnil))))))) rfl rfl (fun w hs => spec_l19Whole_c _ w) ?_
                    refine callB 2 rfl Try.call52 (fun _ h => h.sub (.cons _ (.cons _ (.cons _ (.cons _ (.cons _ (.cons_cons _ .slnil))))))) rfl rfl (fun w hs => spec_l19Add_c _ _ _ _ _ _ w (hs.at_ 2 rfl)) ?_
                    refine stAf 0 rfl Try.sizeOf26 rfl rfl rfl rfl rfl (by simp [Value.oneCell']) rfl ?_
                    refine rNil ?_
                    refine qSeq rfl ?_
                    refine hSeq ?_
                    refine hReg (sq 0 (sl 1 (sl 2 (sl 3 (sl 4 (sl 5 sz)))))) (by kernel_rfl) ?_
                    refine mvP rfl rfl rfl ?_
                    refine ldAl Try.isAgg26 Try.sizeOf26 (cBs 0 rfl) trv rfl rfl rfl rfl ?_
                    refine ldAl Try.isAgg26 Try.sizeOf26 (cBs 1 rfl) trv rfl rfl rfl rfl ?_
                    refine callB 2 rfl Try.call53 trv rfl rfl (fun w hs => spec_l19Times_c _ _ _ _ _ _ w (hs.at_ 2 rfl)) ?_
                    refine alc Try.zeroValue26 rfl trv1 rfl rfl (fun bka33 hbka33 => ?_)
                    refine stAl 0 rfl Try.sizeOf26 trv rfl rfl rfl rfl rfl (by simp [Value.oneCell']) rfl ?_
                    refine rNil ?_
                    refine qSeq rfl ?_
                    refine hSeq ?_
                    refine hDraw (by kernel_rfl) (sq 0 (sq 1 (sq 2 (.alt (sl 3 (.alt (sl 4 (sl 5 (sf 6 sz))) (sl 5 (sl 4 (sf 6 sz))))) (sl 5 (sl 3 (sl 4 (sf 6 sz)))))))) (by kernel_rfl) (.cons _ (.cons _ (.cons _ (.cons _ (.cons _ (.cons _ (.cons_cons _ .slnil))))))) ?_
                    refine mvP rfl rfl rfl ?_
                    refine ldAq Try.isAgg26 Try.sizeOf26 (cBs 0 rfl) rfl rfl rfl rfl ?_
                    refine mvI rfl rfl rfl ?_
                    refine rAlt ?_ ?_
                    ·
                      refine callP Try.call54 (fun _ h => h.sub (.cons _ (.cons _ (.cons _ (.cons _ (.cons _ (.cons _ (.cons_cons _ .slnil)))))))) rfl rfl (fun w hs => spec_l19Whole_c _ w) ?_
                      refine rAlt ?_ ?_
                      ·
                        refine callB 3 rfl Try.call53 (fun _ h => h.sub (.cons _ (.cons _ (.cons _ (.cons _ (.cons _ (.cons _ (.cons_cons _ .slnil)))))))) rfl rfl (fun w hs => spec_l19Times_c _ _ _ _ _ _ w (hs.at_ 3 rfl)) ?_
                        refine alc Try.zeroValue26 rfl (fun _ _ h => h.sub (.cons _ (.cons _ (.cons _ (.cons _ (.cons _ (.cons _ (.cons _ (.cons_cons _ .slnil))))))))) rfl rfl (fun bka34 hbka34 => ?_)
                        refine stAf 0 rfl Try.sizeOf26 rfl rfl rfl rfl rfl (by simp [Value.oneCell']) rfl ?_
                        refine rNil ?_
                        refine qSeq rfl ?_
                        refine hSeq ?_
                        refine hReg (sq 0 (sq 1 (sl 2 (sl 3 (sl 4 (sl 5 (sq 6 (sq 7 (sl 8 (sq 9 sz)))))))))) (by kernel_rfl) ?_
                        refine mvP rfl rfl rfl ?_
                        refine mvP rfl rfl rfl ?_
                        refine ldAl Try.isAgg26 Try.sizeOf26 (cBs 0 rfl) trv rfl rfl rfl rfl ?_
                        refine ldAl Try.isAgg26 Try.sizeOf26 (cBs 1 rfl) trv rfl rfl rfl rfl ?_
                        refine callB 4 rfl Try.call52 trv rfl rfl (fun w hs => spec_l19Add_c _ _ _ _ _ _ w (hs.at_ 4 rfl)) ?_
                        refine callB 4 rfl Try.call51 trv rfl rfl (fun w hs => spec_l19Result_c _ _ _ _ w (hs.at_ 4 rfl)) ?_
                        refine ext rfl rfl rfl rfl ?_
                        refine ext rfl rfl rfl rfl ?_
                        refine stAl 5 rfl Try.sizeOf26 trv rfl rfl rfl rfl rfl (by simp [Value.oneCell']) rfl ?_
                        refine asI rfl rfl rfl ?_
                        refine rNil ?_
                        refine qSeq rfl ?_
                        refine hRet ?_
                        exact fun w hs => ⟨[_, .int .i64 _], ⟨⟨_, rfl, run_load_agg Try.isAgg26 Try.sizeOf26 rfl (cBs 5 rfl w hs)⟩, ⟨rfl, trivial⟩⟩, ⟨by rw [Math.betV_S g1 c2 (by omega)]; rfl, hs.upd⟩⟩
                      ·
                        refine alc Try.zeroValue26 rfl (fun _ _ h => h.sub (.cons _ (.cons _ (.cons _ (.cons _ (.cons _ (.cons _ (.cons _ (.cons_cons _ .slnil))))))))) rfl rfl (fun bka35 hbka35 => ?_)
                        refine callB 4 rfl Try.call53 (fun _ h => h.sub (.cons _ (.cons _ (.cons _ (.cons _ (.cons _ (.cons _ (.cons _ (.cons_cons _ .slnil))))))))) rfl rfl (fun w hs => spec_l19Times_c _ _ _ _ _ _ w (hs.at_ 4 rfl)) ?_
                        refine stAf 0 rfl Try.sizeOf26 rfl rfl rfl rfl rfl (by simp [Value.oneCell']) rfl ?_
                        refine rNil ?_
                        refine qSeq rfl ?_
                        refine hSeq ?_
                        refine hReg (sq 0 (sq 1 (sl 2 (sl 3 (sl 4 (sl 5 (sq 6 (sq 7 (sl 8 (sq 9 sz)))))))))) (by kernel_rfl) ?_
                        refine mvP rfl rfl rfl ?_
                        refine mvP rfl rfl rfl ?_
                        refine ldAl Try.isAgg26 Try.sizeOf26 (cBs 0 rfl) trv rfl rfl rfl rfl ?_
                        refine ldAl Try.isAgg26 Try.sizeOf26 (cBs 1 rfl) trv rfl rfl rfl rfl ?_
                        refine callB 4 rfl Try.call52 trv rfl rfl (fun w hs => spec_l19Add_c _ _ _ _ _ _ w (hs.at_ 4 rfl)) ?_
                        refine callB 4 rfl Try.call51 trv rfl rfl (fun w hs => spec_l19Result_c _ _ _ _ w (hs.at_ 4 rfl)) ?_
                        refine ext rfl rfl rfl rfl ?_
                        refine ext rfl rfl rfl rfl ?_
                        refine stAl 5 rfl Try.sizeOf26 trv rfl rfl rfl rfl rfl (by simp [Value.oneCell']) rfl ?_
                        refine asI rfl rfl rfl ?_
                        refine rNil ?_
                        refine qSeq rfl ?_
                        refine hRet ?_
                        exact fun w hs => ⟨[_, .int .i64 _], ⟨⟨_, rfl, run_load_agg Try.isAgg26 Try.sizeOf26 rfl (cBs 5 rfl w hs)⟩, ⟨rfl, trivial⟩⟩, ⟨by rw [Math.betV_S g1 c2 (by omega)]; rfl, hs.upd⟩⟩
                    ·
                      refine alc Try.zeroValue26 rfl (fun _ _ h => h.sub (.cons _ (.cons _ (.cons _ (.cons _ (.cons _ (.cons _ (.cons _ (.cons_cons _ .slnil))))))))) rfl rfl (fun bka36 hbka36 => ?_)
                      refine callP Try.call54 (fun _ h => h.sub (.cons _ (.cons _ (.cons _ (.cons _ (.cons _ (.cons _ (.cons _ (.cons_cons _ .slnil))))))))) rfl rfl (fun w hs => spec_l19Whole_c _ w) ?_
                      refine callB 4 rfl Try.call53 (fun _ h => h.sub (.cons _ (.cons _ (.cons _ (.cons _ (.cons _ (.cons _ (.cons _ (.cons_cons _ .slnil))))))))) rfl rfl (fun w hs => spec_l19Times_c _ _ _ _ _ _ w (hs.at_ 4 rfl)) ?_
                      refine stAf 0 rfl Try.sizeOf26 rfl rfl rfl rfl rfl (by simp [Value.oneCell']) rfl ?_
                      refine rNil ?_
                      refine qSeq rfl ?_
                      refine hSeq ?_
                      refine hReg (sq 0 (sq 1 (sl 2 (sl 3 (sl 4 (sl 5 (sq 6 (sq 7 (sl 8 (sq 9 sz)))))))))) (by kernel_rfl) ?_
                      refine mvP rfl rfl rfl ?_
                      refine mvP rfl rfl rfl ?_
                      refine ldAl Try.isAgg26 Try.sizeOf26 (cBs 0 rfl) trv rfl rfl rfl rfl ?_
                      refine ldAl Try.isAgg26 Try.sizeOf26 (cBs 1 rfl) trv rfl rfl rfl rfl ?_
                      refine callB 4 rfl Try.call52 trv rfl rfl (fun w hs => spec_l19Add_c _ _ _ _ _ _ w (hs.at_ 4 rfl)) ?_
                      refine callB 4 rfl Try.call51 trv rfl rfl (fun w hs => spec_l19Result_c _ _ _ _ w (hs.at_ 4 rfl)) ?_
                      refine ext rfl rfl rfl rfl ?_
                      refine ext rfl rfl rfl rfl ?_
                      refine stAl 5 rfl Try.sizeOf26 trv rfl rfl rfl rfl rfl (by simp [Value.oneCell']) rfl ?_
                      refine asI rfl rfl rfl ?_
                      refine rNil ?_
                      refine qSeq rfl ?_
                      refine hRet ?_
                      exact fun w hs => ⟨[_, .int .i64 _], ⟨⟨_, rfl, run_load_agg Try.isAgg26 Try.sizeOf26 rfl (cBs 5 rfl w hs)⟩, ⟨rfl, trivial⟩⟩, ⟨by rw [Math.betV_S g1 c2 (by omega)]; rfl, hs.upd⟩⟩
              ·
                refine alc Try.zeroValue26 rfl (fun _ _ h => h.sub (.cons _ (.cons _ (.cons _ (.cons_cons _ (.cons _ .slnil)))))) rfl rfl (fun bka37 hbka37 => ?_)
                refine callP Try.call54 (fun _ h => h.sub (.cons _ (.cons _ (.cons _ (.cons_cons _ (.cons _ .slnil)))))) rfl rfl (fun w hs => spec_l19Whole_c _ w) ?_
                refine callB 1 rfl Try.call52 (fun _ h => h.sub (.cons _ (.cons _ (.cons _ (.cons_cons _ (.cons _ .slnil)))))) rfl rfl (fun w hs => spec_l19Add_c _ _ _ _ _ _ w (hs.at_ 1 rfl)) ?_
                refine stAf 0 rfl Try.sizeOf26 rfl rfl rfl rfl rfl (by simp [Value.oneCell']) rfl ?_
                refine rNil ?_
                refine qSeq rfl ?_
                refine hSeq ?_
                refine hDraw (by kernel_rfl) (sq 0 (sq 2 (sq 3 (sq 4 (sq 5 (sq 6 (sq 7 (.alt (sl 1 (.alt (sl 8 (sl 9 (sf 10 sz))) (sl 9 (sl 8 (sf 10 sz))))) (sl 9 (sl 1 (sl 8 (sf 10 sz)))))))))))) (by kernel_rfl) (.cons _ (.cons _ (.cons _ (.cons _ (.cons_cons _ .slnil))))) ?_
                refine mvP rfl rfl rfl ?_
                refine fld fl26_0 rfl rfl rfl ?_
                refine ldq Try.isAgg2 (cB 0 rfl rfl) rfl rfl rfl ?_
                refine neg rfl rfl rfl (by omega) ?_
                refine fld fl26_1 rfl rfl rfl ?_
                refine ldq Try.isAgg2 (cB 0 rfl rfl) rfl rfl rfl ?_
                refine bld rfl rfl rfl (bld26_0_1 (.int .i64 _) (.int .i64 _) rfl rfl) ?_
                refine rAlt ?_ ?_
                ·
                  refine callP Try.call54 (fun _ h => h.sub (.cons _ (.cons _ (.cons _ (.cons _ (.cons_cons _ .slnil)))))) rfl rfl (fun w hs => spec_l19Whole_c _ w) ?_
                  refine rAlt ?_ ?_
                  ·
                    refine callB 1 rfl Try.call52 (fun _ h => h.sub (.cons _ (.cons _ (.cons _ (.cons _ (.cons_cons _ .slnil)))))) rfl rfl (fun w hs => spec_l19Add_c _ _ _ _ _ _ w (hs.at_ 1 rfl)) ?_
                    refine alc Try.zeroValue26 rfl (fun _ _ h => h.sub (.cons _ (.cons _ (.cons _ (.cons _ (.cons _ (.cons_cons _ .slnil))))))) rfl rfl (fun bka38 hbka38 => ?_)
                    refine stAf 0 rfl Try.sizeOf26 rfl rfl rfl rfl rfl (by simp [Value.oneCell']) rfl ?_
                    refine rNil ?_
                    refine qSeq rfl ?_
                    refine hSeq ?_
                    refine hReg (sq 0 (sl 1 (sl 2 (sl 3 (sl 4 (sl 5 sz)))))) (by kernel_rfl) ?_
                    refine mvP rfl rfl rfl ?_
                    refine ldAl Try.isAgg26 Try.sizeOf26 (cBs 0 rfl) trv rfl rfl rfl rfl ?_
                    refine ldAl Try.isAgg26 Try.sizeOf26 (cBs 1 rfl) trv rfl rfl rfl rfl ?_
                    refine callB 2 rfl Try.call53 trv rfl rfl (fun w hs => spec_l19Times_c _ _ _ _ _ _ w (hs.at_ 2 rfl)) ?_
                    refine alc Try.zeroValue26 rfl trv1 rfl rfl (fun bka39 hbka39 => ?_)
                    refine stAl 0 rfl Try.sizeOf26 trv rfl rfl rfl rfl rfl (by simp [Value.oneCell']) rfl ?_
                    refine rNil ?_
                    refine qSeq rfl ?_
                    refine hSeq ?_
                    refine hDraw (by kernel_rfl) (sq 0 (sq 1 (sq 2 (.alt (sl 3 (.alt (sl 4 (sl 5 (sf 6 sz))) (sl 5 (sl 4 (sf 6 sz))))) (sl 5 (sl 3 (sl 4 (sf 6 sz)))))))) (by kernel_rfl) (.cons _ (.cons _ (.cons _ (.cons _ (.cons _ (.cons _ (.cons_cons _ .slnil))))))) ?_
                    refine mvP rfl rfl rfl ?_
                    refine ldAq Try.isAgg26 Try.sizeOf26 (cBs 0 rfl) rfl rfl rfl rfl ?_
                    refine mvI rfl rfl rfl ?_
                    refine rAlt ?_ ?_
                    ·
                      refine callP Try.call54 (fun _ h => h.sub (.cons _ (.cons _ (.cons _ (.cons _ (.cons _ (.cons _ (.cons_cons _ .slnil)))))))) rfl rfl (fun w hs => spec_l19Whole_c _ w) ?_
                      refine rAlt ?_ ?_
                      ·
                        refine callB 3 rfl Try.call53 (fun _ h => h.sub (.cons _ (.cons _ (.cons _ (.cons _ (.cons _ (.cons _ (.cons_cons _ .slnil)))))))) rfl rfl (fun w hs => spec_l19Times_c _ _ _ _ _ _ w (hs.at_ 3 rfl)) ?_
                        refine alc Try.zeroValue26 rfl (fun _ _ h => h.sub (.cons _ (.cons _ (.cons _ (.cons _ (.cons _ (.cons _ (.cons _ (.cons_cons _ .slnil))))))))) rfl rfl (fun bka40 hbka40 => ?_)
                        refine stAf 0 rfl Try.sizeOf26 rfl rfl rfl rfl rfl (by simp [Value.oneCell']) rfl ?_
                        refine rNil ?_
                        refine qSeq rfl ?_
                        refine hSeq ?_
                        refine hReg (sq 0 (sq 1 (sl 2 (sl 3 (sl 4 (sl 5 (sq 6 (sq 7 (sl 8 (sq 9 sz)))))))))) (by kernel_rfl) ?_
                        refine mvP rfl rfl rfl ?_
                        refine mvP rfl rfl rfl ?_
                        refine ldAl Try.isAgg26 Try.sizeOf26 (cBs 0 rfl) trv rfl rfl rfl rfl ?_
                        refine ldAl Try.isAgg26 Try.sizeOf26 (cBs 1 rfl) trv rfl rfl rfl rfl ?_
                        refine callB 4 rfl Try.call52 trv rfl rfl (fun w hs => spec_l19Add_c _ _ _ _ _ _ w (hs.at_ 4 rfl)) ?_
                        refine callB 4 rfl Try.call51 trv rfl rfl (fun w hs => spec_l19Result_c _ _ _ _ w (hs.at_ 4 rfl)) ?_
                        refine ext rfl rfl rfl rfl ?_
                        refine ext rfl rfl rfl rfl ?_
                        refine stAl 5 rfl Try.sizeOf26 trv rfl rfl rfl rfl rfl (by simp [Value.oneCell']) rfl ?_
                        refine asI rfl rfl rfl ?_
                        refine rNil ?_
                        refine qSeq rfl ?_
                        refine hRet ?_
                        exact fun w hs => ⟨[_, .int .i64 _], ⟨⟨_, rfl, run_load_agg Try.isAgg26 Try.sizeOf26 rfl (cBs 5 rfl w hs)⟩, ⟨rfl, trivial⟩⟩, ⟨by rw [Math.betV_S g1 c2 (by omega)]; rfl, hs.upd⟩⟩
                      ·
                        refine alc Try.zeroValue26 rfl (fun _ _ h => h.sub (.cons _ (.cons _ (.cons _ (.cons _ (.cons _ (.cons _ (.cons _ (.cons_cons _ .slnil))))))))) rfl rfl (fun bka41 hbka41 => ?_)
                        refine callB 4 rfl Try.call53 (fun _ h => h.sub (.cons _ (.cons _ (.cons _ (.cons _ (.cons _ (.cons _ (.cons _ (.cons_cons _ .slnil))))))))) rfl rfl (fun w hs => spec_l19Times_c _ _ _ _ _ _ w (hs.at_ 4 rfl)) ?_
                        refine stAf 0 rfl Try.sizeOf26 rfl rfl rfl rfl rfl (by simp [Value.oneCell']) rfl ?_
                        refine rNil ?_
                        refine qSeq rfl ?_
                        refine hSeq ?_
                        refine hReg (sq 0 (sq 1 (sl 2 (sl 3 (sl 4 (sl 5 (sq 6 (sq 7 (sl 8 (sq 9 sz)))))))))) (by kernel_rfl) ?_
                        refine mvP rfl rfl rfl ?_
                        refine mvP rfl rfl rfl ?_
                        refine ldAl Try.isAgg26 Try.sizeOf26 (cBs 0 rfl) trv rfl rfl rfl rfl ?_
                        refine ldAl Try.isAgg26 Try.sizeOf26 (cBs 1 rfl) trv rfl rfl rfl rfl ?_
                        refine callB 4 rfl Try.call52 trv rfl rfl (fun w hs => spec_l19Add_c _ _ _ _ _ _ w (hs.at_ 4 rfl)) ?_
                        refine callB 4 rfl Try.call51 trv rfl rfl (fun w hs => spec_l19Result_c _ _ _ _ w (hs.at_ 4 rfl)) ?_
                        refine ext rfl rfl rfl rfl ?_
                        refine ext rfl rfl rfl rfl ?_
                        refine stAl 5 rfl Try.sizeOf26 trv rfl rfl rfl rfl rfl (by simp [Value.oneCell']) rfl ?_
                        refine asI rfl rfl rfl ?_
                        refine rNil ?_
                        refine qSeq rfl ?_
                        refine hRet ?_
                        exact fun w hs => ⟨[_, .int .i64 _], ⟨⟨_, rfl, run_load_agg Try.isAgg26 Try.sizeOf26 rfl (cBs 5 rfl w hs)⟩, ⟨rfl, trivial⟩⟩, ⟨by rw [Math.betV_S g1 c2 (by omega)]; rfl, hs.upd⟩⟩
                    ·
                      refine alc Try.zeroValue26 rfl (fun _ _ h => h.sub (.cons _ (.cons _ (.cons _ (.cons _ (.cons _ (.cons _ (.cons _ (.cons_cons _ .slnil))))))))) rfl rfl (fun bka42 hbka42 => ?_)
                      refine callP Try.call54 (fun _ h => h.sub (.cons _ (.cons _ (.cons _ (.cons _ (.cons _ (.cons _ (.cons _ (.cons_cons _ .slnil))))))))) rfl rfl (fun w hs => spec_l19Whole_c _ w) ?_
                      refine callB 4 rfl Try.call53 (fun _ h => h.sub (.cons _ (.cons _ (.cons _ (.cons _ (.cons _ (.cons _ (.cons _ (.cons_cons _ .slnil))))))))) rfl rfl (fun w hs => spec_l19Times_c _ _ _ _ _ _ w (hs.at_ 4 rfl)) ?_
                      refine stAf 0 rfl Try.sizeOf26 rfl rfl rfl rfl rfl (by simp [Value.oneCell']) rfl ?_
                      refine rNil ?_
                      refine qSeq rfl ?_
                      refine hSeq ?_
                      refine hReg (sq 0 (sq 1 (sl 2 (sl 3 (sl 4 (sl 5 (sq 6 (sq 7 (sl 8 (sq 9 sz)))))))))) (by kernel_rfl) ?_
                      refine mvP rfl rfl rfl ?_
                      refine mvP rfl rfl rfl ?_
                      refine ldAl Try.isAgg26 Try.sizeOf26 (cBs 0 rfl) trv rfl rfl rfl rfl ?_
                      refine ldAl Try.isAgg26 Try.sizeOf26 (cBs 1 rfl) trv rfl rfl rfl rfl ?_
                      refine callB 4 rfl Try.call52 trv rfl rfl (fun w hs => spec_l19Add_c _ _ _ _ _ _ w (hs.at_ 4 rfl)) ?_
                      refine callB 4 rfl Try.call51 trv rfl rfl (fun w hs => spec_l19Result_c _ _ _ _ w (hs.at_ 4 rfl)) ?_
                      refine ext rfl rfl rfl rfl ?_
                      refine ext rfl rfl rfl rfl ?_
                      refine stAl 5 rfl Try.sizeOf26 trv rfl rfl rfl rfl rfl (by simp [Value.oneCell']) rfl ?_
                      refine asI rfl rfl rfl ?_
                      refine rNil ?_
                      refine qSeq rfl ?_
                      refine hRet ?_
                      exact fun w hs => ⟨[_, .int .i64 _], ⟨⟨_, rfl, run_load_agg Try.isAgg26 Try.sizeOf26 rfl (cBs 5 rfl w hs)⟩, ⟨rfl, trivial⟩⟩, ⟨by rw [Math.betV_S g1 c2 (by omega)]; rfl, hs.upd⟩⟩
                  ·
                    refine alc Try.zeroValue26 rfl (fun _ _ h => h.sub (.cons _ (.cons _ (.cons _ (.cons _ (.cons _ (.cons_cons _ .slnil))))))) rfl rfl (fun bka43 hbka43 => ?_)
                    refine callB 2 rfl Try.call52 (fun _ h => h.sub (.cons _ (.cons _ (.cons _ (.cons _ (.cons _ (.cons_cons _ .slnil))))))) rfl rfl (fun w hs => spec_l19Add_c _ _ _ _ _ _ w (hs.at_ 2 rfl)) ?_
                    refine stAf 0 rfl Try.sizeOf26 rfl rfl rfl rfl rfl (by simp [Value.oneCell']) rfl ?_
                    refine rNil ?_
                    refine qSeq rfl ?_
                    refine hSeq ?_
                    refine hReg (sq 0 (sl 1 (sl 2 (sl 3 (sl 4 (sl 5 sz)))))) (by kernel_rfl) ?_
                    refine mvP rfl rfl rfl ?_
                    refine ldAl Try.isAgg26 Try.sizeOf26 (cBs 0 rfl) trv rfl rfl rfl rfl ?_
                    refine ldAl Try.isAgg26 Try.sizeOf26 (cBs 1 rfl) trv rfl rfl rfl rfl ?_
                    refine callB 2 rfl Try.call53 trv rfl rfl (fun w hs => spec_l19Times_c _ _ _ _ _ _ w (hs.at_ 2 rfl)) ?_
                    refine alc Try.zeroValue26 rfl trv1 rfl rfl (fun bka44 hbka44 => ?_)
                    refine stAl 0 rfl Try.sizeOf26 trv rfl rfl rfl rfl rfl (by simp [Value.oneCell']) rfl ?_
                    refine rNil ?_
                    refine qSeq rfl ?_
                    refine hSeq ?_
                    refine hDraw (by kernel_rfl) (sq 0 (sq 1 (sq 2 (.alt (sl 3 (.alt (sl 4 (sl 5 (sf 6 sz))) (sl 5 (sl 4 (sf 6 sz))))) (sl 5 (sl 3 (sl 4 (sf 6 sz)))))))) (by kernel_rfl) (.cons _ (.cons _ (.cons _ (.cons _ (.cons _ (.cons _ (.cons_cons _ .slnil))))))) ?_
                    refine mvP rfl rfl rfl ?_
                    refine ldAq Try.isAgg26 Try.sizeOf26 (cBs 0 rfl) rfl rfl rfl rfl ?_
                    refine mvI rfl rfl rfl ?_
                    refine rAlt ?_ ?_
                    ·
                      refine callP Try.call54 (fun _ h => h.sub (.cons _ (.cons _ (.cons _ (.cons _ (.cons _ (.cons _ (.cons_cons _ .slnil)))))))) rfl rfl (fun w hs => spec_l19Whole_c _ w) ?_
                      refine rAlt ?_ ?_
                      ·
                        refine callB 3 rfl Try.call53 (fun _ h => h.sub (.cons _ (.cons _ (.cons _ (.cons _ (.cons _ (.cons _ (.cons_cons _ .slnil)))))))) rfl rfl (fun w hs => spec_l19Times_c _ _ _ _ _ _ w (hs.at_ 3 rfl)) ?_
                        refine alc Try.zeroValue26 rfl (fun _ _ h => h.sub (.cons _ (.cons _ (.cons _ (.cons _ (.cons _ (.cons _ (.cons _ (.cons_cons _ .slnil))))))))) rfl rfl (fun bka45 hbka45 => ?_)
                        refine stAf 0 rfl Try.sizeOf26 rfl rfl rfl rfl rfl (by simp [Value.oneCell']) rfl ?_
                        refine rNil ?_
                        refine qSeq rfl ?_
                        refine hSeq ?_
                        refine hReg (sq 0 (sq 1 (sl 2 (sl 3 (sl 4 (sl 5 (sq 6 (sq 7 (sl 8 (sq 9 sz)))))))))) (by kernel_rfl) ?_
                        refine mvP rfl rfl rfl ?_
                        refine mvP rfl rfl rfl ?_
                        refine ldAl Try.isAgg26 Try.sizeOf26 (cBs 0 rfl) trv rfl rfl rfl rfl ?_
                        refine ldAl Try.isAgg26 Try.sizeOf26 (cBs 1 rfl) trv rfl rfl rfl rfl ?_
                        refine callB 4 rfl Try.call52 trv rfl rfl (fun w hs => spec_l19Add_c _ _ _ _ _ _ w (hs.at_ 4 rfl)) ?_
                        refine callB 4 rfl Try.call51 trv rfl rfl (fun w hs => spec_l19Result_c _ _ _ _ w (hs.at_ 4 rfl)) ?_
                        refine ext rfl rfl rfl rfl ?_
                        refine ext rfl rfl rfl rfl ?_
                        refine stAl 5 rfl Try.sizeOf26 trv rfl rfl rfl rfl rfl (by simp [Value.oneCell']) rfl ?_
                        refine asI rfl rfl rfl ?_
                        refine rNil ?_
                        refine qSeq rfl ?_
                        refine hRet ?_
                        exact fun w hs => ⟨[_, .int .i64 _], ⟨⟨_, rfl, run_load_agg Try.isAgg26 Try.sizeOf26 rfl (cBs 5 rfl w hs)⟩, ⟨rfl, trivial⟩⟩, ⟨by rw [Math.betV_S g1 c2 (by omega)]; rfl, hs.upd⟩⟩
                      ·
                        refine alc Try.zeroValue26 rfl (fun _ _ h => h.sub (.cons _ (.cons _ (.cons _ (.cons _ (.cons _ (.cons _ (.cons _ (.cons_cons _ .slnil))))))))) rfl rfl (fun bka46 hbka46 => ?_)
                        refine callB 4 rfl Try.call53 (fun _ h => h.sub (.cons _ (.cons _ (.cons _ (.cons _ (.cons _ (.cons _ (.cons _ (.cons_cons _ .slnil))))))))) rfl rfl (fun w hs => spec_l19Times_c _ _ _ _ _ _ w (hs.at_ 4 rfl)) ?_
                        refine stAf 0 rfl Try.sizeOf26 rfl rfl rfl rfl rfl (by simp [Value.oneCell']) rfl ?_
                        refine rNil ?_
                        refine qSeq rfl ?_
                        refine hSeq ?_
                        refine hReg (sq 0 (sq 1 (sl 2 (sl 3 (sl 4 (sl 5 (sq 6 (sq 7 (sl 8 (sq 9 sz)))))))))) (by kernel_rfl) ?_
                        refine mvP rfl rfl rfl ?_
                        refine mvP rfl rfl rfl ?_
                        refine ldAl Try.isAgg26 Try.sizeOf26 (cBs 0 rfl) trv rfl rfl rfl rfl ?_
                        refine ldAl Try.isAgg26 Try.sizeOf26 (cBs 1 rfl) trv rfl rfl rfl rfl ?_
                        refine callB 4 rfl Try.call52 trv rfl rfl (fun w hs => spec_l19Add_c _ _ _ _ _ _ w (hs.at_ 4 rfl)) ?_
                        refine callB 4 rfl Try.call51 trv rfl rfl (fun w hs => spec_l19Result_c _ _ _ _ w (hs.at_ 4 rfl)) ?_
                        refine ext rfl rfl rfl rfl ?_
                        refine ext rfl rfl rfl rfl ?_
                        refine stAl 5 rfl Try.sizeOf26 trv rfl rfl rfl rfl rfl (by simp [Value.oneCell']) rfl ?_
                        refine asI rfl rfl rfl ?_
                        refine rNil ?_
                        refine qSeq rfl ?_
                        refine hRet ?_
                        exact fun w hs => ⟨[_, .int .i64 _], ⟨⟨_, rfl, run_load_agg Try.isAgg26 Try.sizeOf26 rfl (cBs 5 rfl w hs)⟩, ⟨rfl, trivial⟩⟩, ⟨by rw [Math.betV_S g1 c2 (by omega)]; rfl, hs.upd⟩⟩
                    ·
                      refine alc Try.zeroValue26 rfl (fun _ _ h => h.sub (.cons _ (.cons _ (.cons _ (.cons _ (.cons _ (.cons _ (.cons _ (.cons_cons _ .slnil))))))))) rfl rfl (fun bka47 hbka47 => ?_)
                      refine callP Try.call54 (fun _ h => h.sub (.cons _ (.cons _ (.cons _ (.cons _ (.cons _ (.cons _ (.cons _ (.cons_cons _ .slnil))))))))) rfl rfl (fun w hs => spec_l19Whole_c _ w) ?_
                      refine callB 4 rfl Try.call53 (fun _ h => h.sub (.cons _ (.cons _ (.cons _ (.cons _ (.cons _ (.cons _ (.cons _ (.cons_cons _ .slnil))))))))) rfl rfl (fun w hs => spec_l19Times_c _ _ _ _ _ _ w (hs.at_ 4 rfl)) ?_
                      refine stAf 0 rfl Try.sizeOf26 rfl rfl rfl rfl rfl (by simp [Value.oneCell']) rfl ?_
                      refine rNil ?_
                      refine qSeq rfl ?_
                      refine hSeq ?_
                      refine hReg (sq 0 (sq 1 (sl 2 (sl 3 (sl 4 (sl 5 (sq 6 (sq 7 (sl 8 (sq 9 sz)))))))))) (by kernel_rfl) ?_
                      refine mvP rfl rfl rfl ?_
                      refine mvP rfl rfl rfl ?_
                      refine ldAl Try.isAgg26 Try.sizeOf26 (cBs 0 rfl) trv rfl rfl rfl rfl ?_
                      refine ldAl Try.isAgg26 Try.sizeOf26 (cBs 1 rfl) trv rfl rfl rfl rfl ?_
                      refine callB 4 rfl Try.call52 trv rfl rfl (fun w hs => spec_l19Add_c _ _ _ _ _ _ w (hs.at_ 4 rfl)) ?_
                      refine callB 4 rfl Try.call51 trv rfl rfl (fun w hs => spec_l19Result_c _ _ _ _ w (hs.at_ 4 rfl)) ?_
                      refine ext rfl rfl rfl rfl ?_
                      refine ext rfl rfl rfl rfl ?_
                      refine stAl 5 rfl Try.sizeOf26 trv rfl rfl rfl rfl rfl (by simp [Value.oneCell']) rfl ?_
                      refine asI rfl rfl rfl ?_
                      refine rNil ?_
                      refine qSeq rfl ?_
                      refine hRet ?_
                      exact fun w hs => ⟨[_, .int .i64 _], ⟨⟨_, rfl, run_load_agg Try.isAgg26 Try.sizeOf26 rfl (cBs 5 rfl w hs)⟩, ⟨rfl, trivial⟩⟩, ⟨by rw [Math.betV_S g1 c2 (by omega)]; rfl, hs.upd⟩⟩
                ·
                  refine alc Try.zeroValue26 rfl (fun _ _ h => h.sub (.cons _ (.cons _ (.cons _ (.cons _ (.cons _ (.cons_cons _ .slnil))))))) rfl rfl (fun bka48 hbka48 => ?_)
                  refine callP Try.call54 (fun _ h => h.sub (.cons _ (.cons _ (.cons _ (.cons _ (.cons _ (.cons_cons _ .slnil))))))) rfl rfl (fun w hs => spec_l19Whole_c _ w) ?_
                  refine callB 2 rfl Try.call52 (fun _ h => h.sub (.cons _ (.cons _ (.cons _ (.cons _ (.cons _ (.cons_cons _ .slnil))))))) rfl rfl (fun w hs => spec_l19Add_c _ _ _ _ _ _ w (hs.at_ 2 rfl)) ?_
                  refine stAf 0 rfl Try.sizeOf26 rfl rfl rfl rfl rfl (by simp [Value.oneCell']) rfl ?_
                  refine rNil ?_
                  refine qSeq rfl ?_
                  refine hSeq ?_
                  refine hReg (sq 0 (sl 1 (sl 2 (sl 3 (sl 4 (sl 5 sz)))))) (by kernel_rfl) ?_
                  refine mvP rfl rfl rfl ?_
                  refine ldAl Try.isAgg26 Try.sizeOf26 (cBs 0 rfl) trv rfl rfl rfl rfl ?_
                  refine ldAl Try.isAgg26 Try.sizeOf26 (cBs 1 rfl) trv rfl rfl rfl rfl ?_
                  refine callB 2 rfl Try.call53 trv rfl rfl (fun w hs => spec_l19Times_c _ _ _ _ _ _ w (hs.at_ 2 rfl)) ?_
                  refine alc Try.zeroValue26 rfl trv1 rfl rfl (fun bka49 hbka49 => ?_)
                  refine stAl 0 rfl Try.sizeOf26 trv rfl rfl rfl rfl rfl (by simp [Value.oneCell']) rfl ?_
                  refine rNil ?_
                  refine qSeq rfl ?_
                  refine hSeq ?_
                  refine hDraw (by kernel_rfl) (sq 0 (sq 1 (sq 2 (.alt (sl 3 (.alt (sl 4 (sl 5 (sf 6 sz))) (sl 5 (sl 4 (sf 6 sz))))) (sl 5 (sl 3 (sl 4 (sf 6 sz)))))))) (by kernel_rfl) (.cons _ (.cons _ (.cons _ (.cons _ (.cons _ (.cons _ (.cons_cons _ .slnil))))))) ?_
                  refine mvP rfl rfl rfl ?_
                  refine ldAq Try.isAgg26 Try.sizeOf26 (cBs 0 rfl) rfl rfl rfl rfl ?_
                  refine mvI rfl rfl rfl ?_
                  refine rAlt ?_ ?_
                  ·
                    refine callP Try.call54 (fun _ h => h.sub (.cons _ (.cons _ (.cons _ (.cons _ (.cons _ (.cons _ (.cons_cons _ .slnil)))))))) rfl rfl (fun w hs => spec_l19Whole_c _ w) ?_
                    refine rAlt ?_ ?_
                    ·
                      refine callB 3 rfl Try.call53 (fun _ h => h.sub (.cons _ (.cons _ (.cons _ (.cons _ (.cons _ (.cons _ (.cons_cons _ .slnil)))))))) rfl rfl (fun w hs => spec_l19Times_c _ _ _ _ _ _ w (hs.at_ 3 rfl)) ?_
                      refine alc Try.zeroValue26 rfl (fun _ _ h => h.sub (.cons _ (.cons _ (.cons _ (.cons _ (.cons _ (.cons _ (.cons _ (.cons_cons _ .slnil))))))))) rfl rfl (fun bka50 hbka50 => ?_)
                      refine stAf 0 rfl Try.sizeOf26 rfl rfl rfl rfl rfl (by simp [Value.oneCell']) rfl ?_
                      refine rNil ?_
                      refine qSeq rfl ?_
                      refine hSeq ?_
                      refine hReg (sq 0 (sq 1 (sl 2 (sl 3 (sl 4 (sl 5 (sq 6 (sq 7 (sl 8 (sq 9 sz)))))))))) (by kernel_rfl) ?_
                      refine mvP rfl rfl rfl ?_
                      refine mvP rfl rfl rfl ?_
                      refine ldAl Try.isAgg26 Try.sizeOf26 (cBs 0 rfl) trv rfl rfl rfl rfl ?_
                      refine ldAl Try.isAgg26 Try.sizeOf26 (cBs 1 rfl) trv rfl rfl rfl rfl ?_
                      refine callB 4 rfl Try.call52 trv rfl rfl (fun w hs => spec_l19Add_c _ _ _ _ _ _ w (hs.at_ 4 rfl)) ?_
                      refine callB 4 rfl Try.call51 trv rfl rfl (fun w hs => spec_l19Result_c _ _ _ _ w (hs.at_ 4 rfl)) ?_
                      refine ext rfl rfl rfl rfl ?_
                      refine ext rfl rfl rfl rfl ?_
                      refine stAl 5 rfl Try.sizeOf26 trv rfl rfl rfl rfl rfl (by simp [Value.oneCell']) rfl ?_
                      refine asI rfl rfl rfl ?_
                      refine rNil ?_
                      refine qSeq rfl ?_
                      refine hRet ?_
                      exact fun w hs => ⟨[_, .int .i64 _], ⟨⟨_, rfl, run_load_agg Try.isAgg26 Try.sizeOf26 rfl (cBs 5 rfl w hs)⟩, ⟨rfl, trivial⟩⟩, ⟨by rw [Math.betV_S g1 c2 (by omega)]; rfl, hs.upd⟩⟩
                    ·
                      refine alc Try.zeroValue26 rfl (fun _ _ h => h.sub (.cons _ (.cons _ (.cons _ (.cons _ (.cons _ (.cons _ (.cons _ (.cons_cons _ .slnil))))))))) rfl rfl (fun bka51 hbka51 => ?_)
                      refine callB 4 rfl Try.call53 (fun _ h => h.sub (.cons _ (.cons _ (.cons _ (.cons _ (.cons _ (.cons _ (.cons _ (.cons_cons _ .slnil))))))))) rfl rfl (fun w hs => spec_l19Times_c _ _ _ _ _ _ w (hs.at_ 4 rfl)) ?_
                      refine stAf 0 rfl Try.sizeOf26 rfl rfl rfl rfl rfl (by simp [Value.oneCell']) rfl ?_
                      refine rNil ?_
                      refine qSeq rfl ?_
                      refine hSeq ?_
                      refine hReg (sq 0 (sq 1 (sl 2 (sl 3 (sl 4 (sl 5 (sq 6 (sq 7 (sl 8 (sq 9 sz)))))))))) (by kernel_rfl) ?_
                      refine mvP rfl rfl rfl ?_
                      refine mvP rfl rfl rfl ?_
                      refine ldAl Try.isAgg26 Try.sizeOf26 (cBs 0 rfl) trv rfl rfl rfl rfl ?_
                      refine ldAl Try.isAgg26 Try.sizeOf26 (cBs 1 rfl) trv rfl rfl rfl rfl ?_
                      refine callB 4 rfl Try.call52 trv rfl rfl (fun w hs => spec_l19Add_c _ _ _ _ _ _ w (hs.at_ 4 rfl)) ?_
                      refine callB 4 rfl Try.call51 trv rfl rfl (fun w hs => spec_l19Result_c _ _ _ _ w (hs.at_ 4 rfl)) ?_
                      refine ext rfl rfl rfl rfl ?_
                      refine ext rfl rfl rfl rfl ?_
                      refine stAl 5 rfl Try.sizeOf26 trv rfl rfl rfl rfl rfl (by simp [Value.oneCell']) rfl ?_
                      refine asI rfl rfl rfl ?_
                      refine rNil ?_
                      refine qSeq rfl ?_
                      refine hRet ?_
                      exact fun w hs => ⟨[_, .int .i64 _], ⟨⟨_, rfl, run_load_agg Try.isAgg26 Try.sizeOf26 rfl (cBs 5 rfl w hs)⟩, ⟨rfl, trivial⟩⟩, ⟨by rw [Math.betV_S g1 c2 (by omega)]; rfl, hs.upd⟩⟩
                  ·
                    refine alc Try.zeroValue26 rfl (fun _ _ h => h.sub (.cons _ (.cons _ (.cons _ (.cons _ (.cons _ (.cons _ (.cons _ (.cons_cons _ .slnil))))))))) rfl rfl (fun bka52 hbka52 => ?_)
                    refine callP Try.call54 (fun _ h => h.sub (.cons _ (.cons _ (.cons _ (.cons _ (.cons _ (.cons _ (.cons _ (.cons_cons _ .slnil))))))))) rfl rfl (fun w hs => spec_l19Whole_c _ w) ?_
                    refine callB 4 rfl Try.call53 (fun _ h => h.sub (.cons _ (.cons _ (.cons _ (.cons _ (.cons _ (.cons _ (.cons _ (.cons_cons _ .slnil))))))))) rfl rfl (fun w hs => spec_l19Times_c _ _ _ _ _ _ w (hs.at_ 4 rfl)) ?_
                    refine stAf 0 rfl Try.sizeOf26 rfl rfl rfl rfl rfl (by simp [Value.oneCell']) rfl ?_
                    refine rNil ?_
                    refine qSeq rfl ?_
                    refine hSeq ?_
                    refine hReg (sq 0 (sq 1 (sl 2 (sl 3 (sl 4 (sl 5 (sq 6 (sq 7 (sl 8 (sq 9 sz)))))))))) (by kernel_rfl) ?_
                    refine mvP rfl rfl rfl ?_
                    refine mvP rfl rfl rfl ?_
                    refine ldAl Try.isAgg26 Try.sizeOf26 (cBs 0 rfl) trv rfl rfl rfl rfl ?_
                    refine ldAl Try.isAgg26 Try.sizeOf26 (cBs 1 rfl) trv rfl rfl rfl rfl ?_
                    refine callB 4 rfl Try.call52 trv rfl rfl (fun w hs => spec_l19Add_c _ _ _ _ _ _ w (hs.at_ 4 rfl)) ?_
                    refine callB 4 rfl Try.call51 trv rfl rfl (fun w hs => spec_l19Result_c _ _ _ _ w (hs.at_ 4 rfl)) ?_
                    refine ext rfl rfl rfl rfl ?_
                    refine ext rfl rfl rfl rfl ?_
                    refine stAl 5 rfl Try.sizeOf26 trv rfl rfl rfl rfl rfl (by simp [Value.oneCell']) rfl ?_
                    refine asI rfl rfl rfl ?_
                    refine rNil ?_
                    refine qSeq rfl ?_
                    refine hRet ?_
                    exact fun w hs => ⟨[_, .int .i64 _], ⟨⟨_, rfl, run_load_agg Try.isAgg26 Try.sizeOf26 rfl (cBs 5 rfl w hs)⟩, ⟨rfl, trivial⟩⟩, ⟨by rw [Math.betV_S g1 c2 (by omega)]; rfl, hs.upd⟩⟩
            ·
              refine alc Try.zeroValue26 rfl (fun _ _ h => h.sub (.cons _ (.cons _ (.cons _ (.cons_cons _ (.cons _ .slnil)))))) rfl rfl (fun bka53 hbka53 => ?_)
              refine callB 1 rfl Try.call53 (fun _ h => h.sub (.cons _ (.cons _ (.cons _ (.cons_cons _ (.cons _ .slnil)))))) rfl rfl (fun w hs => spec_l19Times_c _ _ _ _ _ _ w (hs.at_ 1 rfl)) ?_
              refine callP Try.call54 (fun _ h => h.sub (.cons _ (.cons _ (.cons _ (.cons_cons _ (.cons _ .slnil)))))) rfl rfl (fun w hs => spec_l19Whole_c _ w) ?_
              refine callB 1 rfl Try.call52 (fun _ h => h.sub (.cons _ (.cons _ (.cons _ (.cons_cons _ (.cons _ .slnil)))))) rfl rfl (fun w hs => spec_l19Add_c _ _ _ _ _ _ w (hs.at_ 1 rfl)) ?_
              refine stAf 0 rfl Try.sizeOf26 rfl rfl rfl rfl rfl (by simp [Value.oneCell']) rfl ?_
              refine rNil ?_
              refine qSeq rfl ?_
              refine hSeq ?_
              refine hDraw (by kernel_rfl) (sq 0 (sq 2 (sq 3 (sq 4 (sq 5 (sq 6 (sq 7 (.alt (sl 1 (.alt (sl 8 (sl 9 (sf 10 sz))) (sl 9 (sl 8 (sf 10 sz))))) (sl 9 (sl 1 (sl 8 (sf 10 sz)))))))))))) (by kernel_rfl) (.cons _ (.cons _ (.cons _ (.cons _ (.cons_cons _ .slnil))))) ?_
              refine mvP rfl rfl rfl ?_
              refine fld fl26_0 rfl rfl rfl ?_
              refine ldq Try.isAgg2 (cB 0 rfl rfl) rfl rfl rfl ?_
              refine neg rfl rfl rfl (by omega) ?_
              refine fld fl26_1 rfl rfl rfl ?_
              refine ldq Try.isAgg2 (cB 0 rfl rfl) rfl rfl rfl ?_
              refine bld rfl rfl rfl (bld26_0_1 (.int .i64 _) (.int .i64 _) rfl rfl) ?_
              refine rAlt ?_ ?_
              ·
                refine callP Try.call54 (fun _ h => h.sub (.cons _ (.cons _ (.cons _ (.cons _ (.cons_cons _ .slnil)))))) rfl rfl (fun w hs => spec_l19Whole_c _ w) ?_
                refine rAlt ?_ ?_
                ·
                  refine callB 1 rfl Try.call52 (fun _ h => h.sub (.cons _ (.cons _ (.cons _ (.cons _ (.cons_cons _ .slnil)))))) rfl rfl (fun w hs => spec_l19Add_c _ _ _ _ _ _ w (hs.at_ 1 rfl)) ?_
                  refine alc Try.zeroValue26 rfl (fun _ _ h => h.sub (.cons _ (.cons _ (.cons _ (.cons _ (.cons _ (.cons_cons _ .slnil))))))) rfl rfl (fun bka54 hbka54 => ?_)
                  refine stAf 0 rfl Try.sizeOf26 rfl rfl rfl rfl rfl (by simp [Value.oneCell']) rfl ?_
                  refine rNil ?_
                  refine qSeq rfl ?_
                  refine hSeq ?_
                  refine hReg (sq 0 (sl 1 (sl 2 (sl 3 (sl 4 (sl 5 sz)))))) (by kernel_rfl) ?_
                  refine mvP rfl rfl rfl ?_
                  refine ldAl Try.isAgg26 Try.sizeOf26 (cBs 0 rfl) trv rfl rfl rfl rfl ?_
                  refine ldAl Try.isAgg26 Try.sizeOf26 (cBs 1 rfl) trv rfl rfl rfl rfl ?_
                  refine callB 2 rfl Try.call53 trv rfl rfl (fun w hs => spec_l19Times_c _ _ _ _ _ _ w (hs.at_ 2 rfl)) ?_
                  refine alc Try.zeroValue26 rfl trv1 rfl rfl (fun bka55 hbka55 => ?_)
                  refine stAl 0 rfl Try.sizeOf26 trv rfl rfl rfl rfl rfl (by simp [Value.oneCell']) rfl ?_
                  refine rNil ?_
                  refine qSeq rfl ?_
                  refine hSeq ?_
                  refine hDraw (by kernel_rfl) (sq 0 (sq 1 (sq 2 (.alt (sl 3 (.alt (sl 4 (sl 5 (sf 6 sz))) (sl 5 (sl 4 (sf 6 sz))))) (sl 5 (sl 3 (sl 4 (sf 6 sz)))))))) (by kernel_rfl) (.cons _ (.cons _ (.cons _ (.cons _ (.cons _ (.cons _ (.cons_cons _ .slnil))))))) ?_
                  refine mvP rfl rfl rfl ?_
                  refine ldAq Try.isAgg26 Try.sizeOf26 (cBs 0 rfl) rfl rfl rfl rfl ?_
                  refine mvI rfl rfl rfl ?_
                  refine rAlt ?_ ?_
                  ·
                    refine callP Try.call54 (fun _ h => h.sub (.cons _ (.cons _ (.cons _ (.cons _ (.cons _ (.cons _ (.cons_cons _ .slnil)))))))) rfl rfl (fun w hs => spec_l19Whole_c _ w) ?_
                    refine rAlt ?_ ?_
                    ·
                      refine callB 3 rfl Try.call53 (fun _ h => h.sub (.cons _ (.cons _ (.cons _ (.cons _ (.cons _ (.cons _ (.cons_cons _ .slnil)))))))) rfl rfl (fun w hs => spec_l19Times_c _ _ _ _ _ _ w (hs.at_ 3 rfl)) ?_
                      refine alc Try.zeroValue26 rfl (fun _ _ h => h.sub (.cons _ (.cons _ (.cons _ (.cons _ (.cons _ (.cons _ (.cons _ (.cons_cons _ .slnil))))))))) rfl rfl (fun bka56 hbka56 => ?_)
                      refine stAf 0 rfl Try.sizeOf26 rfl rfl rfl rfl rfl (by simp [Value.oneCell']) rfl ?_
                      refine rNil ?_
                      refine qSeq rfl ?_
                      refine hSeq ?_
                      refine hReg (sq 0 (sq 1 (sl 2 (sl 3 (sl 4 (sl 5 (sq 6 (sq 7 (sl 8 (sq 9 sz)))))))))) (by kernel_rfl) ?_
                      refine mvP rfl rfl rfl ?_
                      refine mvP rfl rfl rfl ?_
                      refine ldAl Try.isAgg26 Try.sizeOf26 (cBs 0 rfl) trv rfl rfl rfl rfl ?_
                      refine ldAl Try.isAgg26 Try.sizeOf26 (cBs 1 rfl) trv rfl rfl rfl rfl ?_
                      refine callB 4 rfl Try.call52 trv rfl rfl (fun w hs => spec_l19Add_c _ _ _ _ _ _ w (hs.at_ 4 rfl)) ?_
                      refine callB 4 rfl Try.call51 trv rfl rfl (fun w hs => spec_l19Result_c _ _ _ _ w (hs.at_ 4 rfl)) ?_
                      refine ext rfl rfl rfl rfl ?_
                      refine ext rfl rfl rfl rfl ?_
                      refine stAl 5 rfl Try.sizeOf26 trv rfl rfl rfl rfl rfl (by simp [Value.oneCell']) rfl ?_
                      refine asI rfl rfl rfl ?_
                      refine rNil ?_
                      refine qSeq rfl ?_
                      refine hRet ?_
                      exact fun w hs => ⟨[_, .int .i64 _], ⟨⟨_, rfl, run_load_agg Try.isAgg26 Try.sizeOf26 rfl (cBs 5 rfl w hs)⟩, ⟨rfl, trivial⟩⟩, ⟨by rw [Math.betV_S g1 c2 (by omega)]; rfl, hs.upd⟩⟩
                    ·
                      refine alc Try.zeroValue26 rfl (fun _ _ h => h.sub (.cons _ (.cons _ (.cons _ (.cons _ (.cons _ (.cons _ (.cons _ (.cons_cons _ .slnil))))))))) rfl rfl (fun bka57 hbka57 => ?_)
                      refine callB 4 rfl Try.call53 (fun _ h => h.sub (.cons _ (.cons _ (.cons _ (.cons _ (.cons _ (.cons _ (.cons _ (.cons_cons _ .slnil))))))))) rfl rfl (fun w hs => spec_l19Times_c _ _ _ _ _ _ w (hs.at_ 4 rfl)) ?_
                      refine stAf 0 rfl Try.sizeOf26 rfl rfl rfl rfl rfl (by simp [Value.oneCell']) rfl ?_
                      refine rNil ?_
                      refine qSeq rfl ?_
                      refine hSeq ?_
                      refine hReg (sq 0 (sq 1 (sl 2 (sl 3 (sl 4 (sl 5 (sq 6 (sq 7 (sl 8 (sq 9 sz)))))))))) (by kernel_rfl) ?_
                      refine mvP rfl rfl rfl ?_
                      refine mvP rfl rfl rfl ?_
                      refine ldAl Try.isAgg26 Try.sizeOf26 (cBs 0 rfl) trv rfl rfl rfl rfl ?_
                      refine ldAl Try.isAgg26 Try.sizeOf26 (cBs 1 rfl) trv rfl rfl rfl rfl ?_
                      refine callB 4 rfl Try.call52 trv rfl rfl (fun w hs => spec_l19Add_c _ _ _ _ _ _ w (hs.at_ 4 rfl)) ?_
                      refine callB 4 rfl Try.call51 trv rfl rfl (fun w hs => spec_l19Result_c _ _ _ _ w (hs.at_ 4 rfl)) ?_
                      refine ext rfl rfl rfl rfl ?_
                      refine ext rfl rfl rfl rfl ?_
                      refine stAl 5 rfl Try.sizeOf26 trv rfl rfl rfl rfl rfl (by simp [Value.oneCell']) rfl ?_
                      refine asI rfl rfl rfl ?_
                      refine rNil ?_
                      refine qSeq rfl ?_
                      refine hRet ?_
                      exact fun w hs => ⟨[_, .int .i64 _], ⟨⟨_, rfl, run_load_agg Try.isAgg26 Try.sizeOf26 rfl (cBs 5 rfl w hs)⟩, ⟨rfl, trivial⟩⟩, ⟨by rw [Math.betV_S g1 c2 (by omega)]; rfl, hs.upd⟩⟩
                  ·
                    refine alc Try.zeroValue26 rfl (fun _ _ h => h.sub (.cons _ (.cons _ (.cons _ (.cons _ (.cons _ (.cons _ (.cons _ (.cons_cons _ .slnil))))))))) rfl rfl (fun bka58 hbka58 => ?_)
                    refine callP Try.call54 (fun _ h => h.sub (.cons _ (.cons _ (.cons _ (.cons _ (.cons _ (.cons _ (.cons _ (.cons_cons _ .slnil))))))))) rfl rfl (fun w hs => spec_l19Whole_c _ w) ?_
                    refine callB 4 rfl Try.call53 (fun _ h => h.sub (.cons _ (.cons _ (.cons _ (.cons _ (.cons _ (.cons _ (.cons _ (.cons_cons _ .slnil))))))))) rfl rfl (fun w hs => spec_l19Times_c _ _ _ _ _ _ w (hs.at_ 4 rfl)) ?_
                    refine stAf 0 rfl Try.sizeOf26 rfl rfl rfl rfl rfl (by simp [Value.oneCell']) rfl ?_
                    refine rNil ?_
                    refine qSeq rfl ?_
                    refine hSeq ?_
                    refine hReg (sq 0 (sq 1 (sl 2 (sl 3 (sl 4 (sl 5 (sq 6 (sq 7 (sl 8 (sq 9 sz)))))))))) (by kernel_rfl) ?_
                    refine mvP rfl rfl rfl ?_
                    refine mvP rfl rfl rfl ?_
                    refine ldAl Try.isAgg26 Try.sizeOf26 (cBs 0 rfl) trv rfl rfl rfl rfl ?_
                    refine ldAl Try.isAgg26 Try.sizeOf26 (cBs 1 rfl) trv rfl rfl rfl rfl ?_
                    refine callB 4 rfl Try.call52 trv rfl rfl (fun w hs => spec_l19Add_c _ _ _ _ _ _ w (hs.at_ 4 rfl)) ?_
                    refine callB 4 rfl Try.call51 trv rfl rfl (fun w hs => spec_l19Result_c _ _ _ _ w (hs.at_ 4 rfl)) ?_
                    refine ext rfl rfl rfl rfl ?_
                    refine ext rfl rfl rfl rfl ?_
                    refine stAl 5 rfl Try.sizeOf26 trv rfl rfl rfl rfl rfl (by simp [Value.oneCell']) rfl ?_
                    refine asI rfl rfl rfl ?_
                    refine rNil ?_
                    refine qSeq rfl ?_
                    refine hRet ?_
                    exact fun w hs => ⟨[_, .int .i64 _], ⟨⟨_, rfl, run_load_agg Try.isAgg26 Try.sizeOf26 rfl (cBs 5 rfl w hs)⟩, ⟨rfl, trivial⟩⟩, ⟨by rw [Math.betV_S g1 c2 (by omega)]; rfl, hs.upd⟩⟩
                ·
                  refine alc Try.zeroValue26 rfl (fun _ _ h => h.sub (.cons _ (.cons _ (.cons _ (.cons _ (.cons _ (.cons_cons _ .slnil))))))) rfl rfl (fun bka59 hbka59 => ?_)
                  refine callB 2 rfl Try.call52 (fun _ h => h.sub (.cons _ (.cons _ (.cons _ (.cons _ (.cons _ (.cons_cons _ .slnil))))))) rfl rfl (fun w hs => spec_l19Add_c _ _ _ _ _ _ w (hs.at_ 2 rfl)) ?_
                  refine stAf 0 rfl Try.sizeOf26 rfl rfl rfl rfl rfl (by simp [Value.oneCell']) rfl ?_
                  refine rNil ?_
                  refine qSeq rfl ?_
                  refine hSeq ?_
                  refine hReg (sq 0 (sl 1 (sl 2 (sl 3 (sl 4 (sl 5 sz)))))) (by kernel_rfl) ?_
                  refine mvP rfl rfl rfl ?_
                  refine ldAl Try.isAgg26 Try.sizeOf26 (cBs 0 rfl) trv rfl rfl rfl rfl ?_
                  refine ldAl Try.isAgg26 Try.sizeOf26 (cBs 1 rfl) trv rfl rfl rfl rfl ?_
                  refine callB 2 rfl Try.call53 trv rfl rfl (fun w hs => spec_l19Times_c _ _ _ _ _ _ w (hs.at_ 2 rfl)) ?_
                  refine alc Try.zeroValue26 rfl trv1 rfl rfl (fun bka60 hbka60 => ?_)
                  refine stAl 0 rfl Try.sizeOf26 trv rfl rfl rfl rfl rfl (by simp [Value.oneCell']) rfl ?_
                  refine rNil ?_
                  refine qSeq rfl ?_
                  refine hSeq ?_
                  refine hDraw (by kernel_rfl) (sq 0 (sq 1 (sq 2 (.alt (sl 3 (.alt (sl 4 (sl 5 (sf 6 sz))) (sl 5 (sl 4 (sf 6 sz))))) (sl 5 (sl 3 (sl 4 (sf 6 sz)))))))) (by kernel_rfl) (.cons _ (.cons _ (.cons _ (.cons _ (.cons _ (.cons _ (.cons_cons _ .slnil))))))) ?_
                  refine mvP rfl rfl rfl ?_
                  refine ldAq Try.isAgg26 Try.sizeOf26 (cBs 0 rfl) rfl rfl rfl rfl ?_
                  refine mvI rfl rfl rfl ?_
                  refine rAlt ?_ ?_
                  ·
                    refine callP Try.call54 (fun _ h => h.sub (.cons _ (.cons _ (.cons _ (.cons _ (.cons _ (.cons _ (.cons_cons _ .slnil)))))))) rfl rfl (fun w hs => spec_l19Whole_c _ w) ?_
                    refine rAlt ?_ ?_
                    ·
                      refine callB 3 rfl Try.call53 (fun _ h => h.sub (.cons _ (.cons _ (.cons _ (.cons _ (.cons _ (.cons _ (.cons_cons _ .slnil)))))))) rfl rfl (fun w hs => spec_l19Times_c _ _ _ _ _ _ w (hs.at_ 3 rfl)) ?_
                      refine alc Try.zeroValue26 rfl (fun _ _ h => h.sub (.cons _ (.cons _ (.cons _ (.cons _ (.cons _ (.cons _ (.cons _ (.cons_cons _ .slnil))))))))) rfl rfl (fun bka61 hbka61 => ?_)
                      refine stAf 0 rfl Try.sizeOf26 rfl rfl rfl rfl rfl (by simp [Value.oneCell']) rfl ?_
                      refine rNil ?_
                      refine qSeq rfl ?_
                      refine hSeq ?_
                      refine hReg (sq 0 (sq 1 (sl 2 (sl 3 (sl 4 (sl 5 (sq 6 (sq 7 (sl 8 (sq 9 sz)))))))))) (by kernel_rfl) ?_
                      refine mvP rfl rfl rfl ?_
                      refine mvP rfl rfl rfl ?_
                      refine ldAl Try.isAgg26 Try.sizeOf26 (cBs 0 rfl) trv rfl rfl rfl rfl ?_
                      refine ldAl Try.isAgg26 Try.sizeOf26 (cBs 1 rfl) trv rfl rfl rfl rfl ?_
                      refine callB 4 rfl Try.call52 trv rfl rfl (fun w hs => spec_l19Add_c _ _ _ _ _ _ w (hs.at_ 4 rfl)) ?_
                      refine callB 4 rfl Try.call51 trv rfl rfl (fun w hs => spec_l19Result_c _ _ _ _ w (hs.at_ 4 rfl)) ?_
                      refine ext rfl rfl rfl rfl ?_
                      refine ext rfl rfl rfl rfl ?_
                      refine stAl 5 rfl Try.sizeOf26 trv rfl rfl rfl rfl rfl (by simp [Value.oneCell']) rfl ?_
                      refine asI rfl rfl rfl ?_
                      refine rNil ?_
                      refine qSeq rfl ?_
                      refine hRet ?_
                      exact fun w hs => ⟨[_, .int .i64 _], ⟨⟨_, rfl, run_load_agg Try.isAgg26 Try.sizeOf26 rfl (cBs 5 rfl w hs)⟩, ⟨rfl, trivial⟩⟩, ⟨by rw [Math.betV_S g1 c2 (by omega)]; rfl, hs.upd⟩⟩
                    ·
                      refine alc Try.zeroValue26 rfl (fun _ _ h => h.sub (.cons _ (.cons _ (.cons _ (.cons _ (.cons _ (.cons _ (.cons _ (.cons_cons _ .slnil))))))))) rfl rfl (fun bka62 hbka62 => ?_)
                      refine callB 4 rfl Try.call53 (fun _ h => h.sub (.cons _ (.cons _ (.cons _ (.cons _ (.cons _ (.cons _ (.cons _ (.cons_cons _ .slnil))))))))) rfl rfl (fun w hs => spec_l19Times_c _ _ _ _ _ _ w (hs.at_ 4 rfl)) ?_
                      refine stAf 0 rfl Try.sizeOf26 rfl rfl rfl rfl rfl (by simp [Value.oneCell']) rfl ?_
                      refine rNil ?_
                      refine qSeq rfl ?_
                      refine hSeq ?_
                      refine hReg (sq 0 (sq 1 (sl 2 (sl 3 (sl 4 (sl 5 (sq 6 (sq 7 (sl 8 (sq 9 sz)))))))))) (by kernel_rfl) ?_
                      refine mvP rfl rfl rfl ?_
                      refine mvP rfl rfl rfl ?_
                      refine ldAl Try.isAgg26 Try.sizeOf26 (cBs 0 rfl) trv rfl rfl rfl rfl ?_
                      refine ldAl Try.isAgg26 Try.sizeOf26 (cBs 1 rfl) trv rfl rfl rfl rfl ?_
                      refine callB 4 rfl Try.call52 trv rfl rfl (fun w hs => spec_l19Add_c _ _ _ _ _ _ w (hs.at_ 4 rfl)) ?_
                      refine callB 4 rfl Try.call51 trv rfl rfl (fun w hs => spec_l19Result_c _ _ _ _ w (hs.at_ 4 rfl)) ?_
                      refine ext rfl rfl rfl rfl ?_
                      refine ext rfl rfl rfl rfl ?_
                      refine stAl 5 rfl Try.sizeOf26 trv rfl rfl rfl rfl rfl (by simp [Value.oneCell']) rfl ?_
                      refine asI rfl rfl rfl ?_
                      refine rNil ?_
                      refine qSeq rfl ?_
                      refine hRet ?_
                      exact fun w hs => ⟨[_, .int .i64 _], ⟨⟨_, rfl, run_load_agg Try.isAgg26 Try.sizeOf26 rfl (cBs 5 rfl w hs)⟩, ⟨rfl, trivial⟩⟩, ⟨by rw [Math.betV_S g1 c2 (by omega)]; rfl, hs.upd⟩⟩
                  ·
                    refine alc Try.zeroValue26 rfl (fun _ _ h => h.sub (.cons _ (.cons _ (.cons _ (.cons _ (.cons _ (.cons _ (.cons _ (.cons_cons _ .slnil))))))))) rfl rfl (fun bka63 hbka63 => ?_)
                    refine callP Try.call54 (fun _ h => h.sub (.cons _ (.cons _ (.cons _ (.cons _ (.cons _ (.cons _ (.cons _ (.cons_cons _ .slnil))))))))) rfl rfl (fun w hs => spec_l19Whole_c _ w) ?_
                    refine callB 4 rfl Try.call53 (fun _ h => h.sub (.cons _ (.cons _ (.cons _ (.cons _ (.cons _ (.cons _ (.cons _ (.cons_cons _ .slnil))))))))) rfl rfl (fun w hs => spec_l19Times_c _ _ _ _ _ _ w (hs.at_ 4 rfl)) ?_
                    refine stAf 0 rfl Try.sizeOf26 rfl rfl rfl rfl rfl (by simp [Value.oneCell']) rfl ?_
                    refine rNil ?_
                    refine qSeq rfl ?_
                    refine hSeq ?_
                    refine hReg (sq 0 (sq 1 (sl 2 (sl 3 (sl 4 (sl 5 (sq 6 (sq 7 (sl 8 (sq 9 sz)))))))))) (by kernel_rfl) ?_
                    refine mvP rfl rfl rfl ?_
                    refine mvP rfl rfl rfl ?_
                    refine ldAl Try.isAgg26 Try.sizeOf26 (cBs 0 rfl) trv rfl rfl rfl rfl ?_
                    refine ldAl Try.isAgg26 Try.sizeOf26 (cBs 1 rfl) trv rfl rfl rfl rfl ?_
                    refine callB 4 rfl Try.call52 trv rfl rfl (fun w hs => spec_l19Add_c _ _ _ _ _ _ w (hs.at_ 4 rfl)) ?_
                    refine callB 4 rfl Try.call51 trv rfl rfl (fun w hs => spec_l19Result_c _ _ _ _ w (hs.at_ 4 rfl)) ?_
                    refine ext rfl rfl rfl rfl ?_
                    refine ext rfl rfl rfl rfl ?_
                    refine stAl 5 rfl Try.sizeOf26 trv rfl rfl rfl rfl rfl (by simp [Value.oneCell']) rfl ?_
                    refine asI rfl rfl rfl ?_
                    refine rNil ?_
                    refine qSeq rfl ?_
                    refine hRet ?_
                    exact fun w hs => ⟨[_, .int .i64 _], ⟨⟨_, rfl, run_load_agg Try.isAgg26 Try.sizeOf26 rfl (cBs 5 rfl w hs)⟩, ⟨rfl, trivial⟩⟩, ⟨by rw [Math.betV_S g1 c2 (by omega)]; rfl, hs.upd⟩⟩
              ·
                refine alc Try.zeroValue26 rfl (fun _ _ h => h.sub (.cons _ (.cons _ (.cons _ (.cons _ (.cons _ (.cons_cons _ .slnil))))))) rfl rfl (fun bka64 hbka64 => ?_)
                refine callP Try.call54 (fun _ h => h.sub (.cons _ (.cons _ (.cons _ (.cons _ (.cons _ (.cons_cons _ .slnil))))))) rfl rfl (fun w hs => spec_l19Whole_c _ w) ?_
                refine callB 2 rfl Try.call52 (fun _ h => h.sub (.cons _ (.cons _ (.cons _ (.cons _ (.cons _ (.cons_cons _ .slnil))))))) rfl rfl (fun w hs => spec_l19Add_c _ _ _ _ _ _ w (hs.at_ 2 rfl)) ?_
                refine stAf 0 rfl Try.sizeOf26 rfl rfl rfl rfl rfl (by simp [Value.oneCell']) rfl ?_
                refine rNil ?_
                refine qSeq rfl ?_
                refine hSeq ?_
                refine hReg (sq 0 (sl 1 (sl 2 (sl 3 (sl 4 (sl 5 sz)))))) (by kernel_rfl) ?_
                refine mvP rfl rfl rfl ?_
                refine ldAl Try.isAgg26 Try.sizeOf26 (cBs 0 rfl) trv rfl rfl rfl rfl ?_
                refine ldAl Try.isAgg26 Try.sizeOf26 (cBs 1 rfl) trv rfl rfl rfl rfl ?_
                refine callB 2 rfl Try.call53 trv rfl rfl (fun w hs => spec_l19Times_c _ _ _ _ _ _ w (hs.at_ 2 rfl)) ?_
                refine alc Try.zeroValue26 rfl trv1 rfl rfl (fun bka65 hbka65 => ?_)
                refine stAl 0 rfl Try.sizeOf26 trv rfl rfl rfl rfl rfl (by simp [Value.oneCell']) rfl ?_
                refine rNil ?_
                refine qSeq rfl ?_
                refine hSeq ?_
                refine hDraw (by kernel_rfl) (sq 0 (sq 1 (sq 2 (.alt (sl 3 (.alt (sl 4 (sl 5 (sf 6 sz))) (sl 5 (sl 4 (sf 6 sz))))) (sl 5 (sl 3 (sl 4 (sf 6 sz)))))))) (by kernel_rfl) (.cons _ (.cons _ (.cons _ (.cons _ (.cons _ (.cons _ (.cons_cons _ .slnil))))))) ?_
                refine mvP rfl rfl rfl ?_
                refine ldAq Try.isAgg26 Try.sizeOf26 (cBs 0 rfl) rfl rfl rfl rfl ?_
                refine mvI rfl rfl rfl ?_
                refine rAlt ?_ ?_
                ·
                  refine callP Try.call54 (fun _ h => h.sub (.cons _ (.cons _ (.cons _ (.cons _ (.cons _ (.cons _ (.cons_cons _ .slnil)))))))) rfl rfl (fun w hs => spec_l19Whole_c _ w) ?_
                  refine rAlt ?_ ?_
                  ·
                    refine callB 3 rfl Try.call53 (fun _ h => h.sub (.cons _ (.cons _ (.cons _ (.cons _ (.cons _ (.cons _ (.cons_cons _ .slnil)))))))) rfl rfl (fun w hs => spec_l19Times_c _ _ _ _ _ _ w (hs.at_ 3 rfl)) ?_
                    refine alc Try.zeroValue26 rfl (fun _ _ h => h.sub (.cons _ (.cons _ (.cons _ (.cons _ (.cons _ (.cons _ (.cons _ (.cons_cons _ .slnil))))))))) rfl rfl (fun bka66 hbka66 => ?_)
                    refine stAf 0 rfl Try.sizeOf26 rfl rfl rfl rfl rfl (by simp [Value.oneCell']) rfl ?_
                    refine rNil ?_
                    refine qSeq rfl ?_
                    refine hSeq ?_
                    refine hReg (sq 0 (sq 1 (sl 2 (sl 3 (sl 4 (sl 5 (sq 6 (sq 7 (sl 8 (sq 9 sz)))))))))) (by kernel_rfl) ?_
                    refine mvP rfl rfl rfl ?_
                    refine mvP rfl rfl rfl ?_
                    refine ldAl Try.isAgg26 Try.sizeOf26 (cBs 0 rfl) trv rfl rfl rfl rfl ?_
                    refine ldAl Try.isAgg26 Try.sizeOf26 (cBs 1 rfl) trv rfl rfl rfl rfl ?_
                    refine callB 4 rfl Try.call52 trv rfl rfl (fun w hs => spec_l19Add_c _ _ _ _ _ _ w (hs.at_ 4 rfl)) ?_
                    refine callB 4 rfl Try.call51 trv rfl rfl (fun w hs => spec_l19Result_c _ _ _ _ w (hs.at_ 4 rfl)) ?_
                    refine ext rfl rfl rfl rfl ?_
                    refine ext rfl rfl rfl rfl ?_
                    refine stAl 5 rfl Try.sizeOf26 trv rfl rfl rfl rfl rfl (by simp [Value.oneCell']) rfl ?_
                    refine asI rfl rfl rfl ?_
                    refine rNil ?_
                    refine qSeq rfl ?_
                    refine hRet ?_
                    exact fun w hs => ⟨[_, .int .i64 _], ⟨⟨_, rfl, run_load_agg Try.isAgg26 Try.sizeOf26 rfl (cBs 5 rfl w hs)⟩, ⟨rfl, trivial⟩⟩, ⟨by rw [Math.betV_S g1 c2 (by omega)]; rfl, hs.upd⟩⟩
                  ·
                    refine alc Try.zeroValue26 rfl (fun _ _ h => h.sub (.cons _ (.cons _ (.cons _ (.cons _ (.cons _ (.cons _ (.cons _ (.cons_cons _ .slnil))))))))) rfl rfl (fun bka67 hbka67 => ?_)
                    refine callB 4 rfl Try.call53 (fun _ h => h.sub (.cons _ (.cons _ (.cons _ (.cons _ (.cons _ (.cons _ (.cons _ (.cons_cons _ .slnil))))))))) rfl rfl (fun w hs => spec_l19Times_c _ _ _ _ _ _ w (hs.at_ 4 rfl)) ?_
                    refine stAf 0 rfl Try.sizeOf26 rfl rfl rfl rfl rfl (by simp [Value.oneCell']) rfl ?_
                    refine rNil ?_
                    refine qSeq rfl ?_
                    refine hSeq ?_
                    refine hReg (sq 0 (sq 1 (sl 2 (sl 3 (sl 4 (sl 5 (sq 6 (sq 7 (sl 8 (sq 9 sz)))))))))) (by kernel_rfl) ?_
                    refine mvP rfl rfl rfl ?_
                    refine mvP rfl rfl rfl ?_
                    refine ldAl Try.isAgg26 Try.sizeOf26 (cBs 0 rfl) trv rfl rfl rfl rfl ?_
                    refine ldAl Try.isAgg26 Try.sizeOf26 (cBs 1 rfl) trv rfl rfl rfl rfl ?_
                    refine callB 4 rfl Try.call52 trv rfl rfl (fun w hs => spec_l19Add_c _ _ _ _ _ _ w (hs.at_ 4 rfl)) ?_
                    refine callB 4 rfl Try.call51 trv rfl rfl (fun w hs => spec_l19Result_c _ _ _ _ w (hs.at_ 4 rfl)) ?_
                    refine ext rfl rfl rfl rfl ?_
                    refine ext rfl rfl rfl rfl ?_
                    refine stAl 5 rfl Try.sizeOf26 trv rfl rfl rfl rfl rfl (by simp [Value.oneCell']) rfl ?_
                    refine asI rfl rfl rfl ?_
                    refine rNil ?_
                    refine qSeq rfl ?_
                    refine hRet ?_
                    exact fun w hs => ⟨[_, .int .i64 _], ⟨⟨_, rfl, run_load_agg Try.isAgg26 Try.sizeOf26 rfl (cBs 5 rfl w hs)⟩, ⟨rfl, trivial⟩⟩, ⟨by rw [Math.betV_S g1 c2 (by omega)]; rfl, hs.upd⟩⟩
                ·
                  refine alc Try.zeroValue26 rfl (fun _ _ h => h.sub (.cons _ (.cons _ (.cons _ (.cons _ (.cons _ (.cons _ (.cons _ (.cons_cons _ .slnil))))))))) rfl rfl (fun bka68 hbka68 => ?_)
                  refine callP Try.call54 (fun _ h => h.sub (.cons _ (.cons _ (.cons _ (.cons _ (.cons _ (.cons _ (.cons _ (.cons_cons _ .slnil))))))))) rfl rfl (fun w hs => spec_l19Whole_c _ w) ?_
                  refine callB 4 rfl Try.call53 (fun _ h => h.sub (.cons _ (.cons _ (.cons _ (.cons _ (.cons _ (.cons _ (.cons _ (.cons_cons _ .slnil))))))))) rfl rfl (fun w hs => spec_l19Times_c _ _ _ _ _ _ w (hs.at_ 4 rfl)) ?_
                  refine stAf 0 rfl Try.sizeOf26 rfl rfl rfl rfl rfl (by simp [Value.oneCell']) rfl ?_
                  refine rNil ?_
                  refine qSeq rfl ?_
                  refine hSeq ?_
                  refine hReg (sq 0 (sq 1 (sl 2 (sl 3 (sl 4 (sl 5 (sq 6 (sq 7 (sl 8 (sq 9 sz)))))))))) (by kernel_rfl) ?_
                  refine mvP rfl rfl rfl ?_
                  refine mvP rfl rfl rfl ?_
                  refine ldAl Try.isAgg26 Try.sizeOf26 (cBs 0 rfl) trv rfl rfl rfl rfl ?_
                  refine ldAl Try.isAgg26 Try.sizeOf26 (cBs 1 rfl) trv rfl rfl rfl rfl ?_
                  refine callB 4 rfl Try.call52 trv rfl rfl (fun w hs => spec_l19Add_c _ _ _ _ _ _ w (hs.at_ 4 rfl)) ?_
                  refine callB 4 rfl Try.call51 trv rfl rfl (fun w hs => spec_l19Result_c _ _ _ _ w (hs.at_ 4 rfl)) ?_
                  refine ext rfl rfl rfl rfl ?_
                  refine ext rfl rfl rfl rfl ?_
                  refine stAl 5 rfl Try.sizeOf26 trv rfl rfl rfl rfl rfl (by simp [Value.oneCell']) rfl ?_
                  refine asI rfl rfl rfl ?_
                  refine rNil ?_
                  refine qSeq rfl ?_
                  refine hRet ?_
                  exact fun w hs => ⟨[_, .int .i64 _], ⟨⟨_, rfl, run_load_agg Try.isAgg26 Try.sizeOf26 rfl (cBs 5 rfl w hs)⟩, ⟨rfl, trivial⟩⟩, ⟨by rw [Math.betV_S g1 c2 (by omega)]; rfl, hs.upd⟩⟩
          ·
            refine alc Try.zeroValue26 rfl (fun _ _ h => h.sub (.cons _ (.cons _ (.cons _ (.cons_cons _ (.cons _ .slnil)))))) rfl rfl (fun bka69 hbka69 => ?_)
            refine callP Try.call54 (fun _ h => h.sub (.cons _ (.cons _ (.cons _ (.cons_cons _ (.cons _ .slnil)))))) rfl rfl (fun w hs => spec_l19Whole_c _ w) ?_
            refine callB 1 rfl Try.call53 (fun _ h => h.sub (.cons _ (.cons _ (.cons _ (.cons_cons _ (.cons _ .slnil)))))) rfl rfl (fun w hs => spec_l19Times_c _ _ _ _ _ _ w (hs.at_ 1 rfl)) ?_
            refine callP Try.call54 (fun _ h => h.sub (.cons _ (.cons _ (.cons _ (.cons_cons _ (.cons _ .slnil)))))) rfl rfl (fun w hs => spec_l19Whole_c _ w) ?_
            refine callB 1 rfl Try.call52 (fun _ h => h.sub (.cons _ (.cons _ (.cons _ (.cons_cons _ (.cons _ .slnil)))))) rfl rfl (fun w hs => spec_l19Add_c _ _ _ _ _ _ w (hs.at_ 1 rfl)) ?_
            refine stAf 0 rfl Try.sizeOf26 rfl rfl rfl rfl rfl (by simp [Value.oneCell']) rfl ?_
            refine rNil ?_
            refine qSeq rfl ?_
            refine hSeq ?_
            refine hDraw (by kernel_rfl) (sq 0 (sq 2 (sq 3 (sq 4 (sq 5 (sq 6 (sq 7 (.alt (sl 1 (.alt (sl 8 (sl 9 (sf 10 sz))) (sl 9 (sl 8 (sf 10 sz))))) (sl 9 (sl 1 (sl 8 (sf 10 sz)))))))))))) (by kernel_rfl) (.cons _ (.cons _ (.cons _ (.cons _ (.cons_cons _ .slnil))))) ?_
            refine mvP rfl rfl rfl ?_
            refine fld fl26_0 rfl rfl rfl ?_
            refine ldq Try.isAgg2 (cB 0 rfl rfl) rfl rfl rfl ?_
            refine neg rfl rfl rfl (by omega) ?_
            refine fld fl26_1 rfl rfl rfl ?_
            refine ldq Try.isAgg2 (cB 0 rfl rfl) rfl rfl rfl ?_
            refine bld rfl rfl rfl (bld26_0_1 (.int .i64 _) (.int .i64 _) rfl rfl) ?_
            refine rAlt ?_ ?_
            ·
              refine callP Try.call54 (fun _ h => h.sub (.cons _ (.cons _ (.cons _ (.cons _ (.cons_cons _ .slnil)))))) rfl rfl (fun w hs => spec_l19Whole_c _ w) ?_
              refine rAlt ?_ ?_
              ·
                refine callB 1 rfl Try.call52 (fun _ h => h.sub (.cons _ (.cons _ (.cons _ (.cons _ (.cons_cons _ .slnil)))))) rfl rfl (fun w hs => spec_l19Add_c _ _ _ _ _ _ w (hs.at_ 1 rfl)) ?_
                refine alc Try.zeroValue26 rfl (fun _ _ h => h.sub (.cons _ (.cons _ (.cons _ (.cons _ (.cons _ (.cons_cons _ .slnil))))))) rfl rfl (fun bka70 hbka70 => ?_)
                refine stAf 0 rfl Try.sizeOf26 rfl rfl rfl rfl rfl (by simp [Value.oneCell']) rfl ?_
                refine rNil ?_
                refine qSeq rfl ?_
                refine hSeq ?_
                refine hReg (sq 0 (sl 1 (sl 2 (sl 3 (sl 4 (sl 5 sz)))))) (by kernel_rfl) ?_
                refine mvP rfl rfl rfl ?_
                refine ldAl Try.isAgg26 Try.sizeOf26 (cBs 0 rfl) trv rfl rfl rfl rfl ?_
                refine ldAl Try.isAgg26 Try.sizeOf26 (cBs 1 rfl) trv rfl rfl rfl rfl ?_
                refine callB 2 rfl Try.call53 trv rfl rfl (fun w hs => spec_l19Times_c _ _ _ _ _ _ w (hs.at_ 2 rfl)) ?_
                refine alc Try.zeroValue26 rfl trv1 rfl rfl (fun bka71 hbka71 => ?_)
                refine stAl 0 rfl Try.sizeOf26 trv rfl rfl rfl rfl rfl (by simp [Value.oneCell']) rfl ?_
                refine rNil ?_
                refine qSeq rfl ?_
                refine hSeq ?_
                refine hDraw (by kernel_rfl) (sq 0 (sq 1 (sq 2 (.alt (sl 3 (.alt (sl 4 (sl 5 (sf 6 sz))) (sl 5 (sl 4 (sf 6 sz))))) (sl 5 (sl 3 (sl 4 (sf 6 sz)))))))) (by kernel_rfl) (.cons _ (.cons _ (.cons _ (.cons _ (.cons _ (.cons _ (.cons_cons _ .slnil))))))) ?_
                refine mvP rfl rfl rfl ?_
                refine ldAq Try.isAgg26 Try.sizeOf26 (cBs 0 rfl) rfl rfl rfl rfl ?_
                refine mvI rfl rfl rfl ?_
                refine rAlt ?_ ?_
                ·
                  refine callP Try.call54 (fun _ h => h.sub (.cons _ (.cons _ (.cons _ (.cons _ (.cons _ (.cons _ (.cons_cons _ .slnil)))))))) rfl rfl (fun w hs => spec_l19Whole_c _ w) ?_
                  refine rAlt ?_ ?_
                  ·
                    refine callB 3 rfl Try.call53 (fun _ h => h.sub (.cons _ (.cons _ (.cons _ (.cons _ (.cons _ (.cons _ (.cons_cons _ .slnil)))))))) rfl rfl (fun w hs => spec_l19Times_c _ _ _ _ _ _ w (hs.at_ 3 rfl)) ?_
                    refine alc Try.zeroValue26 rfl (fun _ _ h => h.sub (.cons _ (.cons _ (.cons _ (.cons _ (.cons _ (.cons _ (.cons _ (.cons_cons _ .slnil))))))))) rfl rfl (fun bka72 hbka72 => ?_)
                    refine stAf 0 rfl Try.sizeOf26 rfl rfl rfl rfl rfl (by simp [Value.oneCell']) rfl ?_
                    refine rNil ?_
                    refine qSeq rfl ?_
                    refine hSeq ?_
                    refine hReg (sq 0 (sq 1 (sl 2 (sl 3 (sl 4 (sl 5 (sq 6 (sq 7 (sl 8 (sq 9 sz)))))))))) (by kernel_rfl) ?_
                    refine mvP rfl rfl rfl ?_
                    refine mvP rfl rfl rfl ?_
                    refine ldAl Try.isAgg26 Try.sizeOf26 (cBs 0 rfl) trv rfl rfl rfl rfl ?_
                    refine ldAl Try.isAgg26 Try.sizeOf26 (cBs 1 rfl) trv rfl rfl rfl rfl ?_
                    refine callB 4 rfl Try.call52 trv rfl rfl (fun w hs => spec_l19Add_c _ _ _ _ _ _ w (hs.at_ 4 rfl)) ?_
                    refine callB 4 rfl Try.call51 trv rfl rfl (fun w hs => spec_l19Result_c _ _ _ _ w (hs.at_ 4 rfl)) ?_
                    refine ext rfl rfl rfl rfl ?_
                    refine ext rfl rfl rfl rfl ?_
                    refine stAl 5 rfl Try.sizeOf26 trv rfl rfl rfl rfl rfl (by simp [Value.oneCell']) rfl ?_
                    refine asI rfl rfl rfl ?_
                    refine rNil ?_
                    refine qSeq rfl ?_
                    refine hRet ?_
                    exact fun w hs => ⟨[_, .int .i64 _], ⟨⟨_, rfl, run_load_agg Try.isAgg26 Try.sizeOf26 rfl (cBs 5 rfl w hs)⟩, ⟨rfl, trivial⟩⟩, ⟨by rw [Math.betV_S g1 c2 (by omega)]; rfl, hs.upd⟩⟩
                  ·
                    refine alc Try.zeroValue26 rfl (fun _ _ h => h.sub (.cons _ (.cons _ (.cons _ (.cons _ (.cons _ (.cons _ (.cons _ (.cons_cons _ .slnil))))))))) rfl rfl (fun bka73 hbka73 => ?_)
                    refine callB 4 rfl Try.call53 (fun _ h => h.sub (.cons _ (.cons _ (.cons _ (.cons _ (.cons _ (.cons _ (.cons _ (.cons_cons _ .slnil))))))))) rfl rfl (fun w hs => spec_l19Times_c _ _ _ _ _ _ w (hs.at_ 4 rfl)) ?_
                    refine stAf 0 rfl Try.sizeOf26 rfl rfl rfl rfl rfl (by simp [Value.oneCell']) rfl ?_
                    refine rNil ?_
                    refine qSeq rfl ?_
                    refine hSeq ?_
                    refine hReg (sq 0 (sq 1 (sl 2 (sl 3 (sl 4 (sl 5 (sq 6 (sq 7 (sl 8 (sq 9 sz)))))))))) (by kernel_rfl) ?_
                    refine mvP rfl rfl rfl ?_
                    refine mvP rfl rfl rfl ?_
                    refine ldAl Try.isAgg26 Try.sizeOf26 (cBs 0 rfl) trv rfl rfl rfl rfl ?_
                    refine ldAl Try.isAgg26 Try.sizeOf26 (cBs 1 rfl) trv rfl rfl rfl rfl ?_
                    refine callB 4 rfl Try.call52 trv rfl rfl (fun w hs => spec_l19Add_c _ _ _ _ _ _ w (hs.at_ 4 rfl)) ?_
                    refine callB 4 rfl Try.call51 trv rfl rfl (fun w hs => spec_l19Result_c _ _ _ _ w (hs.at_ 4 rfl)) ?_
                    refine ext rfl rfl rfl rfl ?_
                    refine ext rfl rfl rfl rfl ?_
                    refine stAl 5 rfl Try.sizeOf26 trv rfl rfl rfl rfl rfl (by simp [Value.oneCell']) rfl ?_
                    refine asI rfl rfl rfl ?_
                    refine rNil ?_
                    refine qSeq rfl ?_
                    refine hRet ?_
                    exact fun w hs => ⟨[_, .int .i64 _], ⟨⟨_, rfl, run_load_agg Try.isAgg26 Try.sizeOf26 rfl (cBs 5 rfl w hs)⟩, ⟨rfl, trivial⟩⟩, ⟨by rw [Math.betV_S g1 c2 (by omega)]; rfl, hs.upd⟩⟩
                ·
                  refine alc Try.zeroValue26 rfl (fun _ _ h => h.sub (.cons _ (.cons _ (.cons _ (.cons _ (.cons _ (.cons _ (.cons _ (.cons_cons _ .slnil))))))))) rfl rfl (fun bka74 hbka74 => ?_)
                  refine callP Try.call54 (fun _ h => h.sub (.cons _ (.cons _ (.cons _ (.cons _ (.cons _ (.cons _ (.cons _ (.cons_cons _ .slnil))))))))) rfl rfl (fun w hs => spec_l19Whole_c _ w) ?_
                  refine callB 4 rfl Try.call53 (fun _ h => h.sub (.cons _ (.cons _ (.cons _ (.cons _ (.cons _ (.cons _ (.cons _ (.cons_cons _ .slnil))))))))) rfl rfl (fun w hs => spec_l19Times_c _ _ _ _ _ _ w (hs.at_ 4 rfl)) ?_
                  refine stAf 0 rfl Try.sizeOf26 rfl rfl rfl rfl rfl (by simp [Value.oneCell']) rfl ?_
                  refine rNil ?_
                  refine qSeq rfl ?_
                  refine hSeq ?_
                  refine hReg (sq 0 (sq 1 (sl 2 (sl 3 (sl 4 (sl 5 (sq 6 (sq 7 (sl 8 (sq 9 sz)))))))))) (by kernel_rfl) ?_
                  refine mvP rfl rfl rfl ?_
                  refine mvP rfl rfl rfl ?_
                  refine ldAl Try.isAgg26 Try.sizeOf26 (cBs 0 rfl) trv rfl rfl rfl rfl ?_
                  refine ldAl Try.isAgg26 Try.sizeOf26 (cBs 1 rfl) trv rfl rfl rfl rfl ?_
                  refine callB 4 rfl Try.call52 trv rfl rfl (fun w hs => spec_l19Add_c _ _ _ _ _ _ w (hs.at_ 4 rfl)) ?_
                  refine callB 4 rfl Try.call51 trv rfl rfl (fun w hs => spec_l19Result_c _ _ _ _ w (hs.at_ 4 rfl)) ?_
                  refine ext rfl rfl rfl rfl ?_
                  refine ext rfl rfl rfl rfl ?_
                  refine stAl 5 rfl Try.sizeOf26 trv rfl rfl rfl rfl rfl (by simp [Value.oneCell']) rfl ?_
                  refine asI rfl rfl rfl ?_
                  refine rNil ?_
                  refine qSeq rfl ?_
                  refine hRet ?_
                  exact fun w hs => ⟨[_, .int .i64 _], ⟨⟨_, rfl, run_load_agg Try.isAgg26 Try.sizeOf26 rfl (cBs 5 rfl w hs)⟩, ⟨rfl, trivial⟩⟩, ⟨by rw [Math.betV_S g1 c2 (by omega)]; rfl, hs.upd⟩⟩
              ·
                refine alc Try.zeroValue26 rfl (fun _ _ h => h.sub (.cons _ (.cons _ (.cons _ (.cons _ (.cons _ (.cons_cons _ .slnil))))))) rfl rfl (fun bka75 hbka75 => ?_)
                refine callB 2 rfl Try.call52 (fun _ h => h.sub (.cons _ (.cons _ (.cons _ (.cons _ (.cons _ (.cons_cons _ .slnil))))))) rfl rfl (fun w hs => spec_l19Add_c _ _ _ _ _ _ w (hs.at_ 2 rfl)) ?_
                refine stAf 0 rfl Try.sizeOf26 rfl rfl rfl rfl rfl (by simp [Value.oneCell']) rfl ?_
                refine rNil ?_
                refine qSeq rfl ?_
                refine hSeq ?_
                refine hReg (sq 0 (sl 1 (sl 2 (sl 3 (sl 4 (sl 5 sz)))))) (by kernel_rfl) ?_
                refine mvP rfl rfl rfl ?_
                refine ldAl Try.isAgg26 Try.sizeOf26 (cBs 0 rfl) trv rfl rfl rfl rfl ?_
                refine ldAl Try.isAgg26 Try.sizeOf26 (cBs 1 rfl) trv rfl rfl rfl rfl ?_
                refine callB 2 rfl Try.call53 trv rfl rfl (fun w hs => spec_l19Times_c _ _ _ _ _ _ w (hs.at_ 2 rfl)) ?_
                refine alc Try.zeroValue26 rfl trv1 rfl rfl (fun bka76 hbka76 => ?_)
                refine stAl 0 rfl Try.sizeOf26 trv rfl rfl rfl rfl rfl (by simp [Value.oneCell']) rfl ?_
                refine rNil ?_
                refine qSeq rfl ?_
                refine hSeq ?_
                refine hDraw (by kernel_rfl) (sq 0 (sq 1 (sq 2 (.alt (sl 3 (.alt (sl 4 (sl 5 (sf 6 sz))) (sl 5 (sl 4 (sf 6 sz))))) (sl 5 (sl 3 (sl 4 (sf 6 sz)))))))) (by kernel_rfl) (.cons _ (.cons _ (.cons _ (.cons _ (.cons _ (.cons _ (.cons_cons _ .slnil))))))) ?_
                refine mvP rfl rfl rfl ?_
                refine ldAq Try.isAgg26 Try.sizeOf26 (cBs 0 rfl) rfl rfl rfl rfl ?_
                refine mvI rfl rfl rfl ?_
                refine rAlt ?_ ?_
                ·
                  refine callP Try.call54 (fun _ h => h.sub (.cons _ (.cons _ (.cons _ (.cons _ (.cons _ (.cons _ (.cons_cons _ .slnil)))))))) rfl rfl (fun w hs => spec_l19Whole_c _ w) ?_
                  refine rAlt ?_ ?_
                  ·
                    refine callB 3 rfl Try.call53 (fun _ h => h.sub (.cons _ (.cons _ (.cons _ (.cons _ (.cons _ (.cons _ (.cons_cons _ .slnil)))))))) rfl rfl (fun w hs => spec_l19Times_c _ _ _ _ _ _ w (hs.at_ 3 rfl)) ?_
                    refine alc Try.zeroValue26 rfl (fun _ _ h => h.sub (.cons _ (.cons _ (.cons _ (.cons _ (.cons _ (.cons _ (.cons _ (.cons_cons _ .slnil))))))))) rfl rfl (fun bka77 hbka77 => ?_)
                    refine stAf 0 rfl Try.sizeOf26 rfl rfl rfl rfl rfl (by simp [Value.oneCell']) rfl ?_
                    refine rNil ?_
                    refine qSeq rfl ?_
                    refine hSeq ?_
                    refine hReg (sq 0 (sq 1 (sl 2 (sl 3 (sl 4 (sl 5 (sq 6 (sq 7 (sl 8 (sq 9 sz)))))))))) (by kernel_rfl) ?_
                    refine mvP rfl rfl rfl ?_
                    refine mvP rfl rfl rfl ?_
                    refine ldAl Try.isAgg26 Try.sizeOf26 (cBs 0 rfl) trv rfl rfl rfl rfl ?_
                    refine ldAl Try.isAgg26 Try.sizeOf26 (cBs 1 rfl) trv rfl rfl rfl rfl ?_
                    refine callB 4 rfl Try.call52 trv rfl rfl (fun w hs => spec_l19Add_c _ _ _ _ _ _ w (hs.at_ 4 rfl)) ?_
                    refine callB 4 rfl Try.call51 trv rfl rfl (fun w hs => spec_l19Result_c _ _ _ _ w (hs.at_ 4 rfl)) ?_
                    refine ext rfl rfl rfl rfl ?_
                    refine ext rfl rfl rfl rfl ?_
                    refine stAl 5 rfl Try.sizeOf26 trv rfl rfl rfl rfl rfl (by simp [Value.oneCell']) rfl ?_
                    refine asI rfl rfl rfl ?_
                    refine rNil ?_
                    refine qSeq rfl ?_
                    refine hRet ?_
                    exact fun w hs => ⟨[_, .int .i64 _], ⟨⟨_, rfl, run_load_agg Try.isAgg26 Try.sizeOf26 rfl (cBs 5 rfl w hs)⟩, ⟨rfl, trivial⟩⟩, ⟨by rw [Math.betV_S g1 c2 (by omega)]; rfl, hs.upd⟩⟩
                  ·
                    refine alc Try.zeroValue26 rfl (fun _ _ h => h.sub (.cons _ (.cons _ (.cons _ (.cons _ (.cons _ (.cons _ (.cons _ (.cons_cons _ .slnil))))))))) rfl rfl (fun bka78 hbka78 => ?_)
                    refine callB 4 rfl Try.call53 (fun _ h => h.sub (.cons _ (.cons _ (.cons _ (.cons _ (.cons _ (.cons _ (.cons _ (.cons_cons _ .slnil))))))))) rfl rfl (fun w hs => spec_l19Times_c _ _ _ _ _ _ w (hs.at_ 4 rfl)) ?_
                    refine stAf 0 rfl Try.sizeOf26 rfl rfl rfl rfl rfl (by simp [Value.oneCell']) rfl ?_
                    refine rNil ?_
                    refine qSeq rfl ?_
                    refine hSeq ?_
                    refine hReg (sq 0 (sq 1 (sl 2 (sl 3 (sl 4 (sl 5 (sq 6 (sq 7 (sl 8 (sq 9 sz)))))))))) (by kernel_rfl) ?_
                    refine mvP rfl rfl rfl ?_
                    refine mvP rfl rfl rfl ?_
                    refine ldAl Try.isAgg26 Try.sizeOf26 (cBs 0 rfl) trv rfl rfl rfl rfl ?_
                    refine ldAl Try.isAgg26 Try.sizeOf26 (cBs 1 rfl) trv rfl rfl rfl rfl ?_
                    refine callB 4 rfl Try.call52 trv rfl rfl (fun w hs => spec_l19Add_c _ _ _ _ _ _ w (hs.at_ 4 rfl)) ?_
                    refine callB 4 rfl Try.call51 trv rfl rfl (fun w hs => spec_l19Result_c _ _ _ _ w (hs.at_ 4 rfl)) ?_
                    refine ext rfl rfl rfl rfl ?_
                    refine ext rfl rfl rfl rfl ?_
                    refine stAl 5 rfl Try.sizeOf26 trv rfl rfl rfl rfl rfl (by simp [Value.oneCell']) rfl ?_
                    refine asI rfl rfl rfl ?_
                    refine rNil ?_
                    refine qSeq rfl ?_
                    refine hRet ?_
                    exact fun w hs => ⟨[_, .int .i64 _], ⟨⟨_, rfl, run_load_agg Try.isAgg26 Try.sizeOf26 rfl (cBs 5 rfl w hs)⟩, ⟨rfl, trivial⟩⟩, ⟨by rw [Math.betV_S g1 c2 (by omega)]; rfl, hs.upd⟩⟩
                ·
                  refine alc Try.zeroValue26 rfl (fun _ _ h => h.sub (.cons _ (.cons _ (.cons _ (.cons _ (.cons _ (.cons _ (.cons _ (.cons_cons _ .slnil))))))))) rfl rfl (fun bka79 hbka79 => ?_)
                  refine callP Try.call54 (fun _ h => h.sub (.cons _ (.cons _ (.cons _ (.cons _ (.cons _ (.cons _ (.cons _ (.cons_cons _ .slnil))))))))) rfl rfl (fun w hs => spec_l19Whole_c _ w) ?_
                  refine callB 4 rfl Try.call53 (fun _ h => h.sub (.cons _ (.cons _ (.cons _ (.cons _ (.cons _ (.cons _ (.cons _ (.cons_cons _ .slnil))))))))) rfl rfl (fun w hs => spec_l19Times_c _ _ _ _ _ _ w (hs.at_ 4 rfl)) ?_
                  refine stAf 0 rfl Try.sizeOf26 rfl rfl rfl rfl rfl (by simp [Value.oneCell']) rfl ?_
                  refine rNil ?_
                  refine qSeq rfl ?_
                  refine hSeq ?_
                  refine hReg (sq 0 (sq 1 (sl 2 (sl 3 (sl 4 (sl 5 (sq 6 (sq 7 (sl 8 (sq 9 sz)))))))))) (by kernel_rfl) ?_
                  refine mvP rfl rfl rfl ?_
                  refine mvP rfl rfl rfl ?_
                  refine ldAl Try.isAgg26 Try.sizeOf26 (cBs 0 rfl) trv rfl rfl rfl rfl ?_
                  refine ldAl Try.isAgg26 Try.sizeOf26 (cBs 1 rfl) trv rfl rfl rfl rfl ?_
                  refine callB 4 rfl Try.call52 trv rfl rfl (fun w hs => spec_l19Add_c _ _ _ _ _ _ w (hs.at_ 4 rfl)) ?_
                  refine callB 4 rfl Try.call51 trv rfl rfl (fun w hs => spec_l19Result_c _ _ _ _ w (hs.at_ 4 rfl)) ?_
                  refine ext rfl rfl rfl rfl ?_
                  refine ext rfl rfl rfl rfl ?_
                  refine stAl 5 rfl Try.sizeOf26 trv rfl rfl rfl rfl rfl (by simp [Value.oneCell']) rfl ?_
                  refine asI rfl rfl rfl ?_
                  refine rNil ?_
                  refine qSeq rfl ?_
                  refine hRet ?_
                  exact fun w hs => ⟨[_, .int .i64 _], ⟨⟨_, rfl, run_load_agg Try.isAgg26 Try.sizeOf26 rfl (cBs 5 rfl w hs)⟩, ⟨rfl, trivial⟩⟩, ⟨by rw [Math.betV_S g1 c2 (by omega)]; rfl, hs.upd⟩⟩
            ·
              refine alc Try.zeroValue26 rfl (fun _ _ h => h.sub (.cons _ (.cons _ (.cons _ (.cons _ (.cons _ (.cons_cons _ .slnil))))))) rfl rfl (fun bka80 hbka80 => ?_)
              refine callP Try.call54 (fun _ h => h.sub (.cons _ (.cons _ (.cons _ (.cons _ (.cons _ (.cons_cons _ .slnil))))))) rfl rfl (fun w hs => spec_l19Whole_c _ w) ?_
              refine callB 2 rfl Try.call52 (fun _ h => h.sub (.cons _ (.cons _ (.cons _ (.cons _ (.cons _ (.cons_cons _ .slnil))))))) rfl rfl (fun w hs => spec_l19Add_c _ _ _ _ _ _ w (hs.at_ 2 rfl)) ?_
              refine stAf 0 rfl Try.sizeOf26 rfl rfl rfl rfl rfl (by simp [Value.oneCell']) rfl ?_
              refine rNil ?_
              refine qSeq rfl ?_
              refine hSeq ?_
              refine hReg (sq 0 (sl 1 (sl 2 (sl 3 (sl 4 (sl 5 sz)))))) (by kernel_rfl) ?_
              refine mvP rfl rfl rfl ?_
              refine ldAl Try.isAgg26 Try.sizeOf26 (cBs 0 rfl) trv rfl rfl rfl rfl ?_
              refine ldAl Try.isAgg26 Try.sizeOf26 (cBs 1 rfl) trv rfl rfl rfl rfl ?_
              refine callB 2 rfl Try.call53 trv rfl rfl (fun w hs => spec_l19Times_c _ _ _ _ _ _ w (hs.at_ 2 rfl)) ?_
              refine alc Try.zeroValue26 rfl trv1 rfl rfl (fun bka81 hbka81 => ?_)
              refine stAl 0 rfl Try.sizeOf26 trv rfl rfl rfl rfl rfl (by simp [Value.oneCell']) rfl ?_
              refine rNil ?_
              refine qSeq rfl ?_
              refine hSeq ?_
              refine hDraw (by kernel_rfl) (sq 0 (sq 1 (sq 2 (.alt (sl 3 (.alt (sl 4 (sl 5 (sf 6 sz))) (sl 5 (sl 4 (sf 6 sz))))) (sl 5 (sl 3 (sl 4 (sf 6 sz)))))))) (by kernel_rfl) (.cons _ (.cons _ (.cons _ (.cons _ (.cons _ (.cons _ (.cons_cons _ .slnil))))))) ?_
              refine mvP rfl rfl rfl ?_
              refine ldAq Try.isAgg26 Try.sizeOf26 (cBs 0 rfl) rfl rfl rfl rfl ?_
              refine mvI rfl rfl rfl ?_
              refine rAlt ?_ ?_
              ·
                refine callP Try.call54 (fun _ h => h.sub (.cons _ (.cons _ (.cons _ (.cons _ (.cons _ (.cons _ (.cons_cons _ .slnil)))))))) rfl rfl (fun w hs => spec_l19Whole_c _ w) ?_
                refine rAlt ?_ ?_
                ·
                  refine callB 3 rfl Try.call53 (fun _ h => h.sub (.cons _ (.cons _ (.cons _ (.cons _ (.cons _ (.cons _ (.cons_cons _ .slnil)))))))) rfl rfl (fun w hs => spec_l19Times_c _ _ _ _ _ _ w (hs.at_ 3 rfl)) ?_
                  refine alc Try.zeroValue26 rfl (fun _ _ h => h.sub (.cons _ (.cons _ (.cons _ (.cons _ (.cons _ (.cons _ (.cons _ (.cons_cons _ .slnil))))))))) rfl rfl (fun bka82 hbka82 => ?_)
                  refine stAf 0 rfl Try.sizeOf26 rfl rfl rfl rfl rfl (by simp [Value.oneCell']) rfl ?_
                  refine rNil ?_
                  refine qSeq rfl ?_
                  refine hSeq ?_
                  refine hReg (sq 0 (sq 1 (sl 2 (sl 3 (sl 4 (sl 5 (sq 6 (sq 7 (sl 8 (sq 9 sz)))))))))) (by kernel_rfl) ?_
                  refine mvP rfl rfl rfl ?_
                  refine mvP rfl rfl rfl ?_
                  refine ldAl Try.isAgg26 Try.sizeOf26 (cBs 0 rfl) trv rfl rfl rfl rfl ?_
                  refine ldAl Try.isAgg26 Try.sizeOf26 (cBs 1 rfl) trv rfl rfl rfl rfl ?_
                  refine callB 4 rfl Try.call52 trv rfl rfl (fun w hs => spec_l19Add_c _ _ _ _ _ _ w (hs.at_ 4 rfl)) ?_
                  refine callB 4 rfl Try.call51 trv rfl rfl (fun w hs => spec_l19Result_c _ _ _ _ w (hs.at_ 4 rfl)) ?_
                  refine ext rfl rfl rfl rfl ?_
                  refine ext rfl rfl rfl rfl ?_
                  refine stAl 5 rfl Try.sizeOf26 trv rfl rfl rfl rfl rfl (by simp [Value.oneCell']) rfl ?_
                  refine asI rfl rfl rfl ?_
                  refine rNil ?_
                  refine qSeq rfl ?_
                  refine hRet ?_
                  exact fun w hs => ⟨[_, .int .i64 _], ⟨⟨_, rfl, run_load_agg Try.isAgg26 Try.sizeOf26 rfl (cBs 5 rfl w hs)⟩, ⟨rfl, trivial⟩⟩, ⟨by rw [Math.betV_S g1 c2 (by omega)]; rfl, hs.upd⟩⟩
                ·
                  refine alc Try.zeroValue26 rfl (fun _ _ h => h.sub (.cons _ (.cons _ (.cons _ (.cons _ (.cons _ (.cons _ (.cons _ (.cons_cons _ .slnil))))))))) rfl rfl (fun bka83 hbka83 => ?_)
                  refine callB 4 rfl Try.call53 (fun _ h => h.sub (.cons _ (.cons _ (.cons _ (.cons _ (.cons _ (.cons _ (.cons _ (.cons_cons _ .slnil))))))))) rfl rfl (fun w hs => spec_l19Times_c _ _ _ _ _ _ w (hs.at_ 4 rfl)) ?_
                  refine stAf 0 rfl Try.sizeOf26 rfl rfl rfl rfl rfl (by simp [Value.oneCell']) rfl ?_
                  refine rNil ?_
                  refine qSeq rfl ?_
                  refine hSeq ?_
                  refine hReg (sq 0 (sq 1 (sl 2 (sl 3 (sl 4 (sl 5 (sq 6 (sq 7 (sl 8 (sq 9 sz)))))))))) (by kernel_rfl) ?_
                  refine mvP rfl rfl rfl ?_
                  refine mvP rfl rfl rfl ?_
                  refine ldAl Try.isAgg26 Try.sizeOf26 (cBs 0 rfl) trv rfl rfl rfl rfl ?_
                  refine ldAl Try.isAgg26 Try.sizeOf26 (cBs 1 rfl) trv rfl rfl rfl rfl ?_
                  refine callB 4 rfl Try.call52 trv rfl rfl (fun w hs => spec_l19Add_c _ _ _ _ _ _ w (hs.at_ 4 rfl)) ?_
                  refine callB 4 rfl Try.call51 trv rfl rfl (fun w hs => spec_l19Result_c _ _ _ _ w (hs.at_ 4 rfl)) ?_
                  refine ext rfl rfl rfl rfl ?_
                  refine ext rfl rfl rfl rfl ?_
                  refine stAl 5 rfl Try.sizeOf26 trv rfl rfl rfl rfl rfl (by simp [Value.oneCell']) rfl ?_
                  refine asI rfl rfl rfl ?_
                  refine rNil ?_
                  refine qSeq rfl ?_
                  refine hRet ?_
                  exact fun w hs => ⟨[_, .int .i64 _], ⟨⟨_, rfl, run_load_agg Try.isAgg26 Try.sizeOf26 rfl (cBs 5 rfl w hs)⟩, ⟨rfl, trivial⟩⟩, ⟨by rw [Math.betV_S g1 c2 (by omega)]; rfl, hs.upd⟩⟩
              ·
                refine alc Try.zeroValue26 rfl (fun _ _ h => h.sub (.cons _ (.cons _ (.cons _ (.cons _ (.cons _ (.cons _ (.cons _ (.cons_cons _ .slnil))))))))) rfl rfl (fun bka84 hbka84 => ?_)
                refine callP Try.call54 (fun _ h => h.sub (.cons _ (.cons _ (.cons _ (.cons _ (.cons _ (.cons _ (.cons _ (.cons_cons _ .slnil))))))))) rfl rfl (fun w hs => spec_l19Whole_c _ w) ?_
                refine callB 4 rfl Try.call53 (fun _ h => h.sub (.cons _ (.cons _ (.cons _ (.cons _ (.cons _ (.cons _ (.cons _ (.cons_cons _ .slnil))))))))) rfl rfl (fun w hs => spec_l19Times_c _ _ _ _ _ _ w (hs.at_ 4 rfl)) ?_
                refine stAf 0 rfl Try.sizeOf26 rfl rfl rfl rfl rfl (by simp [Value.oneCell']) rfl ?_
                refine rNil ?_
                refine qSeq rfl ?_
                refine hSeq ?_
                refine hReg (sq 0 (sq 1 (sl 2 (sl 3 (sl 4 (sl 5 (sq 6 (sq 7 (sl 8 (sq 9 sz)))))))))) (by kernel_rfl) ?_
                refine mvP rfl rfl rfl ?_
                refine mvP rfl rfl rfl ?_
                refine ldAl Try.isAgg26 Try.sizeOf26 (cBs 0 rfl) trv rfl rfl rfl rfl ?_
                refine ldAl Try.isAgg26 Try.sizeOf26 (cBs 1 rfl) trv rfl rfl rfl rfl ?_
                refine callB 4 rfl Try.call52 trv rfl rfl (fun w hs => spec_l19Add_c _ _ _ _ _ _ w (hs.at_ 4 rfl)) ?_
                refine callB 4 rfl Try.call51 trv rfl rfl (fun w hs => spec_l19Result_c _ _ _ _ w (hs.at_ 4 rfl)) ?_
                refine ext rfl rfl rfl rfl ?_
                refine ext rfl rfl rfl rfl ?_
                refine stAl 5 rfl Try.sizeOf26 trv rfl rfl rfl rfl rfl (by simp [Value.oneCell']) rfl ?_
                refine asI rfl rfl rfl ?_
                refine rNil ?_
                refine qSeq rfl ?_
                refine hRet ?_
                exact fun w hs => ⟨[_, .int .i64 _], ⟨⟨_, rfl, run_load_agg Try.isAgg26 Try.sizeOf26 rfl (cBs 5 rfl w hs)⟩, ⟨rfl, trivial⟩⟩, ⟨by rw [Math.betV_S g1 c2 (by omega)]; rfl, hs.upd⟩⟩

theorem toRatio_c (a b : Int) (w : World) :
    Calls Try.prog 30 #[.agg #[.int .i64 a, .int .i64 b]] w (Ret fun v w' => v = ratV (a, b) ∧ Ext w w') := by
  refine fn (M := none_) (rs := [.cell 2 26]) Try.func30 rfl Try.ntmps30 rfl rfl (Sep.start _ _) ?_
  refine hSeq ?_
  refine hReg (sl 0 (sl 1 sz)) (by kernel_rfl) ?_
  refine box trv1 rfl rfl rfl rfl (fun bkb1 hbkb1 => ?_)
  refine alc Try.zeroValue26 rfl trv1 rfl rfl (fun bka2 hbka2 => ?_)
  refine rNil ?_
  refine qSeq rfl ?_
  refine hSeq ?_
  refine hReg (sl 0 sz) (by kernel_rfl) ?_
  refine alc Try.zeroValue26 rfl trv1 rfl rfl (fun bka3 hbka3 => ?_)
  refine rNil ?_
  refine qSeq rfl ?_
  refine hSeq ?_
  refine hReg (sq 0 (sl 1 (sq 2 (sl 3 sz)))) (by kernel_rfl) ?_
  refine fld fl35_0 rfl rfl rfl ?_
  refine ldl Try.isAgg2 (cB 2 rfl rfl) trv rfl rfl rfl ?_
  refine fld fl26_0 rfl rfl rfl ?_
  refine stl (v := .int .i64 _) 0 rfl Try.sizeOf2 trv rfl rfl rfl rfl rfl (Nat.le_of_ble_eq_true rfl) ?_
  refine rNil ?_
  refine qSeq rfl ?_
  refine hSeq ?_
  refine hReg (sq 0 (sl 1 (sq 2 (sl 3 sz)))) (by kernel_rfl) ?_
  refine fld fl35_1 rfl rfl rfl ?_
  refine ldl Try.isAgg2 (cB 2 rfl rfl) trv rfl rfl rfl ?_
  refine fld fl26_1 rfl rfl rfl ?_
  refine stl (v := .int .i64 _) 0 rfl Try.sizeOf2 trv rfl rfl rfl rfl rfl (Nat.le_of_ble_eq_true rfl) ?_
  refine rNil ?_
  refine qSeq rfl ?_
  refine hSeq ?_
  refine hReg (sl 0 (sl 1 sz)) (by kernel_rfl) ?_
  refine ldAl Try.isAgg26 Try.sizeOf26 (cBs 0 rfl) trv rfl rfl rfl rfl ?_
  refine stAl 1 rfl Try.sizeOf26 trv rfl rfl rfl rfl rfl (by simp [Value.oneCell']) rfl ?_
  refine rNil ?_
  refine qSeq rfl ?_
  refine hRet ?_
  exact fun w hs => ⟨[_], ⟨⟨_, rfl, run_load_agg Try.isAgg26 Try.sizeOf26 rfl (cBs 1 rfl w hs)⟩, trivial⟩, ⟨rfl, hs.upd⟩⟩

end Go.Proofs.Ytglhfigmenljoaa
