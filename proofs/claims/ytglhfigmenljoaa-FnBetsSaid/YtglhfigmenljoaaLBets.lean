/- The law FnBets returns true for all arguments. No condition. -/
import Derived.Test.YtglhfigmenljoaaEng4
import Derived.Test.YtglhfigmenljoaaFrame
import Derived.Test.YtglhfigmenljoaaEng6
import Derived.Test.YtglhfigmenljoaaEqs
import Derived.Test.YtglhfigmenljoaaMath
import Derived.Test.YtglhfigmenljoaaMath2
import Derived.Test.YtglhfigmenljoaaRat
import Derived.Test.YtglhfigmenljoaaOdds
import Derived.Test.YtglhfigmenljoaaSrc0
import Derived.Test.YtglhfigmenljoaaSrc
import Derived.Test.YtglhfigmenljoaaSrcO
import Derived.Test.YtglhfigmenljoaaRows
namespace Go.Proofs.Ytglhfigmenljoaa
open Go Go.RowKit V Go.ChangeShapes Go.WideShapes Go.ChangeAt
set_option linter.unusedVariables false
set_option linter.unusedSimpArgs false
set_option maxRecDepth 100000



set_option maxHeartbeats 4000000 in
theorem Bets_w (ca : Option Addr) (bs : List Int) (cc : Nat) (w : World) (hc : CellsAt ca (bs.map (Value.int .u8)) w) (hb : ∀ n ∈ bs, (Lit.int .u8 n).wf = true) :
    Calls Try.prog 13 #[.slice ca bs.length cc] w (Ret fun v w' => v = .bool true ∧ Ext w w') := by
  refine fn (M := none_) (rs := [.tmp 2]) Try.func13 rfl Try.ntmps13 rfl rfl (Sep.start _ _) ?_
  refine hSeq ?_
  refine hReg (sq 0 sz) (by kernel_rfl) ?_
  refine asB rfl rfl rfl ?_
  refine rNil ?_
  refine qSeq rfl ?_
  refine hSeq ?_
  refine hSeq ?_
  refine hReg (sq 0 (sl 1 sz)) (by kernel_rfl) ?_
  refine mvS rfl rfl rfl ?_
  refine callP Try.call23 trv rfl rfl (fun w hs => big_c _ _ _ w) ?_
  refine rNil ?_
  refine qSeq rfl ?_
  refine hIfD rfl (fun c1 => ?_) (fun c1 => ?_)
  · -- c1T
    refine hSeq ?_
    refine hReg (sq 0 sz) (by kernel_rfl) ?_
    refine asB rfl rfl rfl ?_
    refine rNil ?_
    refine qSeq rfl ?_
    refine hRet ?_
    exact fun w hs => ⟨[.bool _], ⟨rfl, trivial⟩, ⟨by first | rfl | exact (bT ⟨congrArg (·.1.1) hB, congrArg (·.1.2) hB⟩).symm, hs.upd⟩⟩
  · -- c1F
    have hok : okBytes bs := ⟨fun x hx => bounds_u8 (hb x hx), by omega⟩
    refine hSkip ?_
    refine qSeq rfl ?_
    refine hSeq ?_
    refine hReg (sq 0 (sl 1 (sq 2 (sq 3 (sq 4 (sq 5 (sq 6 (sl 7 (sl 8 (sq 9 (sq 10 (sl 11 (sl 12 sz))))))))))))) (by kernel_rfl) ?_
    refine mvS rfl rfl rfl ?_
    refine callV Try.call37 trv rfl rfl (fun w hs => DrawBetValue_c _ _ _ w (hc.ext hs.upd) hok) ?_
    rintro ⟨pot, bet, ⟨fn, fd⟩, en, ed⟩ -
    refine mv rfl rfl rfl ?_
    refine ext rfl rfl rfl rfl ?_
    refine ext rfl rfl rfl rfl ?_
    refine ext rfl rfl rfl rfl ?_
    refine ext rfl rfl rfl rfl ?_
    refine alc Try.zeroValue26 rfl trv1 rfl rfl (fun bka1 hbka1 => ?_)
    refine alc Try.zeroValue26 rfl trv1 rfl rfl (fun bka2 hbka2 => ?_)
    refine asI rfl rfl rfl ?_
    refine asI rfl rfl rfl ?_
    refine stAl 1 rfl Try.sizeOf26 trv rfl rfl rfl rfl rfl (by simp [Value.oneCell']) rfl ?_
    refine stAl 0 rfl Try.sizeOf26 trv rfl rfl rfl rfl rfl (by simp [Value.oneCell']) rfl ?_
    refine rNil ?_
    refine qSeq rfl ?_
    refine hSeq ?_
    refine hReg (sq 0 (sq 1 (sl 2 (sl 3 (sl 4 (sq 5 (sq 6 (sq 7 (sl 8 (sl 9 (sq 10 sz))))))))))) (by kernel_rfl) ?_
    refine mvI rfl rfl rfl ?_
    refine mvI rfl rfl rfl ?_
    refine ldAl Try.isAgg26 Try.sizeOf26 (cBs 1 rfl) trv rfl rfl rfl rfl ?_
    refine ldAl Try.isAgg26 Try.sizeOf26 (cBs 0 rfl) trv rfl rfl rfl rfl ?_
    refine callP Try.call33 trv rfl rfl (fun w hs => impl_BetValue_c _ _ _ _ _ _ w) ?_
    refine mv rfl rfl rfl ?_
    refine ext rfl rfl rfl rfl ?_
    refine ext rfl rfl rfl rfl ?_
    refine alc Try.zeroValue26 rfl trv1 rfl rfl (fun bka3 hbka3 => ?_)
    refine stAl 0 rfl Try.sizeOf26 trv rfl rfl rfl rfl rfl (by simp [Value.oneCell']) rfl ?_
    refine asI rfl rfl rfl ?_
    refine rNil ?_
    refine qSeq rfl ?_
    refine hSeq ?_
    refine hReg (sq 0 (sq 1 (sl 2 (sl 3 (sl 4 (sq 5 (sq 6 (sq 7 (sl 8 (sl 9 (sq 10 sz))))))))))) (by kernel_rfl) ?_
    refine mvI rfl rfl rfl ?_
    refine mvI rfl rfl rfl ?_
    refine ldAl Try.isAgg26 Try.sizeOf26 (cBs 2 rfl) trv rfl rfl rfl rfl ?_
    refine ldAl Try.isAgg26 Try.sizeOf26 (cBs 1 rfl) trv rfl rfl rfl rfl ?_
    refine callP Try.call32 trv rfl rfl (fun w hs => spec_BetValue_c _ _ _ _ _ _ w) ?_
    refine mv rfl rfl rfl ?_
    refine ext rfl rfl rfl rfl ?_
    refine ext rfl rfl rfl rfl ?_
    refine alc Try.zeroValue26 rfl trv1 rfl rfl (fun bka4 hbka4 => ?_)
    refine stAl 0 rfl Try.sizeOf26 trv rfl rfl rfl rfl rfl (by simp [Value.oneCell']) rfl ?_
    refine asI rfl rfl rfl ?_
    refine rNil ?_
    refine qSeq rfl ?_
    refine hSeq ?_
    refine hReg (sq 0 (sl 1 (sq 2 (sq 3 (sq 4 (sq 5 (sq 6 sz))))))) (by kernel_rfl) ?_
    refine mvS rfl rfl rfl ?_
    refine callV Try.call38 trv rfl rfl (fun w hs => DrawBluffShare_c _ _ _ w (hc.ext hs.upd) hok) ?_
    rintro ⟨a, b⟩ -
    refine mv rfl rfl rfl ?_
    refine ext rfl rfl rfl rfl ?_
    refine ext rfl rfl rfl rfl ?_
    refine asI rfl rfl rfl ?_
    refine asI rfl rfl rfl ?_
    refine rNil ?_
    refine qSeq rfl ?_
    refine hSeq ?_
    refine hReg (sq 0 (sq 1 (sl 2 (sq 3 (sq 4 (sq 5 (sl 6 (sl 7 (sq 8 sz))))))))) (by kernel_rfl) ?_
    refine mvI rfl rfl rfl ?_
    refine mvI rfl rfl rfl ?_
    refine callP Try.call17 trv rfl rfl (fun w hs => impl_BluffShare_c _ _ w) ?_
    refine mv rfl rfl rfl ?_
    refine ext rfl rfl rfl rfl ?_
    refine ext rfl rfl rfl rfl ?_
    refine alc Try.zeroValue26 rfl trv1 rfl rfl (fun bka5 hbka5 => ?_)
    refine stAl 0 rfl Try.sizeOf26 trv rfl rfl rfl rfl rfl (by simp [Value.oneCell']) rfl ?_
    refine asI rfl rfl rfl ?_
    refine rNil ?_
    refine qSeq rfl ?_
    refine hSeq ?_
    refine hReg (sq 0 (sq 1 (sl 2 (sq 3 (sq 4 (sq 5 (sl 6 (sl 7 (sq 8 sz))))))))) (by kernel_rfl) ?_
    refine mvI rfl rfl rfl ?_
    refine mvI rfl rfl rfl ?_
    refine callP Try.call16 trv rfl rfl (fun w hs => spec_BluffShare_c _ _ w) ?_
    refine mv rfl rfl rfl ?_
    refine ext rfl rfl rfl rfl ?_
    refine ext rfl rfl rfl rfl ?_
    refine alc Try.zeroValue26 rfl trv1 rfl rfl (fun bka6 hbka6 => ?_)
    refine stAl 0 rfl Try.sizeOf26 trv rfl rfl rfl rfl rfl (by simp [Value.oneCell']) rfl ?_
    refine asI rfl rfl rfl ?_
    refine rNil ?_
    refine qSeq rfl ?_
    refine hSeq ?_
    refine hReg (sq 0 (sl 1 (sq 2 (sq 3 (sq 4 (sq 5 (sq 6 sz))))))) (by kernel_rfl) ?_
    refine mvS rfl rfl rfl ?_
    refine callV Try.call39 trv rfl rfl (fun w hs => DrawStackToPot_c _ _ _ w (hc.ext hs.upd) hok) ?_
    rintro ⟨s, p⟩ -
    refine mv rfl rfl rfl ?_
    refine ext rfl rfl rfl rfl ?_
    refine ext rfl rfl rfl rfl ?_
    refine asI rfl rfl rfl ?_
    refine asI rfl rfl rfl ?_
    refine rNil ?_
    refine qSeq rfl ?_
    refine hSeq ?_
    refine hReg (sq 0 (sq 1 (sl 2 (sq 3 (sq 4 (sq 5 (sl 6 (sl 7 (sq 8 sz))))))))) (by kernel_rfl) ?_
    refine mvI rfl rfl rfl ?_
    refine mvI rfl rfl rfl ?_
    refine callP Try.call22 trv rfl rfl (fun w hs => impl_StackToPot_c _ _ w) ?_
    refine mv rfl rfl rfl ?_
    refine ext rfl rfl rfl rfl ?_
    refine ext rfl rfl rfl rfl ?_
    refine alc Try.zeroValue26 rfl trv1 rfl rfl (fun bka7 hbka7 => ?_)
    refine stAl 0 rfl Try.sizeOf26 trv rfl rfl rfl rfl rfl (by simp [Value.oneCell']) rfl ?_
    refine asI rfl rfl rfl ?_
    refine rNil ?_
    refine qSeq rfl ?_
    refine hSeq ?_
    refine hReg (sq 0 (sq 1 (sl 2 (sq 3 (sq 4 (sq 5 (sl 6 (sl 7 (sq 8 sz))))))))) (by kernel_rfl) ?_
    refine mvI rfl rfl rfl ?_
    refine mvI rfl rfl rfl ?_
    refine callP Try.call21 trv rfl rfl (fun w hs => spec_StackToPot_c _ _ w) ?_
    refine mv rfl rfl rfl ?_
    refine ext rfl rfl rfl rfl ?_
    refine ext rfl rfl rfl rfl ?_
    refine alc Try.zeroValue26 rfl trv1 rfl rfl (fun bka8 hbka8 => ?_)
    refine stAl 0 rfl Try.sizeOf26 trv rfl rfl rfl rfl rfl (by simp [Value.oneCell']) rfl ?_
    refine asI rfl rfl rfl ?_
    refine rNil ?_
    refine qSeq rfl ?_
    refine hSeq ?_
    refine hSeq ?_
    refine hReg (sq 0 (sq 1 (sq 2 (sq 3 (sl 4 (sl 5 (sq 6 (sq 7 (sq 8 (sq 9 (sq 10 (sq 11 (sq 12 (sq 13 (sl 14 (sl 15 (sq 16 (sq 17 (sq 18 (sq 19 (sq 20 (sq 21 (sq 22 (sq 23 (sl 24 (sl 25 (sq 26 (sq 27 sz)))))))))))))))))))))))))))) (by kernel_rfl) ?_
    refine mvI rfl rfl rfl ?_
    refine mvI rfl rfl rfl ?_
    refine neq rfl rfl rfl rfl ?_
    refine mvB rfl rfl rfl ?_
    refine rBoolD (d := 89) rfl (fun g2 => ?_) (fun g2 => ?_)
    · -- g2T
      first | exact absurd rfl g2 | exact absurd (And.intro rfl rfl) g2
    · -- g2F
      refine ldAl Try.isAgg26 Try.sizeOf26 (cBs 5 rfl) trv rfl rfl rfl rfl ?_
      refine ldAl Try.isAgg26 Try.sizeOf26 (cBs 4 rfl) trv rfl rfl rfl rfl ?_
      refine neqR eq2R rfl rfl rfl rfl ?_
      refine pickB rfl rfl rfl rfl ?_
      refine mvB rfl rfl rfl ?_
      refine rBoolD (d := 94) rfl (fun g3 => ?_) (fun g3 => ?_)
      · -- g3T
        first | exact absurd rfl g3 | exact absurd (And.intro rfl rfl) g3
      · -- g3F
        refine mvI rfl rfl rfl ?_
        refine mvI rfl rfl rfl ?_
        refine neq rfl rfl rfl rfl ?_
        refine pickB rfl rfl rfl rfl ?_
        refine mvB rfl rfl rfl ?_
        refine rBoolD (d := 99) rfl (fun g4 => ?_) (fun g4 => ?_)
        · -- g4T
          first | exact absurd rfl g4 | exact absurd (And.intro rfl rfl) g4
        · -- g4F
          refine ldAl Try.isAgg26 Try.sizeOf26 (cBs 3 rfl) trv rfl rfl rfl rfl ?_
          refine ldAl Try.isAgg26 Try.sizeOf26 (cBs 2 rfl) trv rfl rfl rfl rfl ?_
          refine neqR eq2R rfl rfl rfl rfl ?_
          refine pickB rfl rfl rfl rfl ?_
          refine mvB rfl rfl rfl ?_
          refine rBoolD (d := 104) rfl (fun g5 => ?_) (fun g5 => ?_)
          · -- g5T
            first | exact absurd rfl g5 | exact absurd (And.intro rfl rfl) g5
          · -- g5F
            refine mvI rfl rfl rfl ?_
            refine mvI rfl rfl rfl ?_
            refine neq rfl rfl rfl rfl ?_
            refine pickB rfl rfl rfl rfl ?_
            refine mvB rfl rfl rfl ?_
            refine rBoolD (d := 109) rfl (fun g6 => ?_) (fun g6 => ?_)
            · -- g6T
              first | exact absurd rfl g6 | exact absurd (And.intro rfl rfl) g6
            · -- g6F
              refine ldAl Try.isAgg26 Try.sizeOf26 (cBs 1 rfl) trv rfl rfl rfl rfl ?_
              refine ldAl Try.isAgg26 Try.sizeOf26 (cBs 0 rfl) trv rfl rfl rfl rfl ?_
              refine neqR eq2R rfl rfl rfl rfl ?_
              refine pickB rfl rfl rfl rfl ?_
              refine rNil ?_
              refine qSeq rfl ?_
              refine hIfD rfl (fun c7 => ?_) (fun c7 => ?_)
              · -- c7T
                first | exact absurd rfl c7 | exact absurd (And.intro rfl rfl) c7
              · -- c7F
                refine hSkip ?_
                refine qSeq rfl ?_
                refine hSeq ?_
                refine hSeq ?_
                refine hReg (sq 0 (sq 1 sz)) (by kernel_rfl) ?_
                refine mvI rfl rfl rfl ?_
                refine eql rfl rfl rfl rfl ?_
                refine rNil ?_
                refine qSeq rfl ?_
                refine hIfD rfl (fun c8 => ?_) (fun c8 => ?_)
                · -- c8T
                  obtain ⟨⟨hba, hbb⟩, hZ⟩ := Math.bluff_ok c8
                  refine hSeq ?_
                  refine hReg (sq 0 (sq 1 (sq 2 (sq 3 (sl 4 (sl 5 (sq 6 (sq 7 (sq 8 (sl 9 (sl 10 (sq 11 sz)))))))))))) (by kernel_rfl) ?_
                  refine mvI rfl rfl rfl ?_
                  refine mvI rfl rfl rfl ?_
                  refine add rfl rfl rfl rfl (by omega) ?_
                  refine mvI rfl rfl rfl ?_
                  refine ldAl Try.isAgg26 Try.sizeOf26 (cBs 3 rfl) trv rfl rfl rfl rfl ?_
                  refine callP Try.call31 trv rfl rfl (fun w hs => impl_CallValue_c _ _ _ _ w) ?_
                  refine mv rfl rfl rfl ?_
                  refine ext rfl rfl rfl rfl ?_
                  refine ext rfl rfl rfl rfl ?_
                  refine alc Try.zeroValue26 rfl trv1 rfl rfl (fun bka9 hbka9 => ?_)
                  refine stAl 0 rfl Try.sizeOf26 trv rfl rfl rfl rfl rfl (by simp [Value.oneCell']) rfl ?_
                  refine asI rfl rfl rfl ?_
                  refine rNil ?_
                  refine qSeq rfl ?_
                  refine hSeq ?_
                  refine hReg (sq 0 (sq 1 (sq 2 (sq 3 (sq 4 (sq 5 (sq 6 (sq 7 (sl 8 (sq 9 (sq 10 (sq 11 (sq 12 sz))))))))))))) (by kernel_rfl) ?_
                  refine mvI rfl rfl rfl ?_
                  refine mvI rfl rfl rfl ?_
                  refine add rfl rfl rfl rfl (by omega) ?_
                  refine leq rfl rfl rfl rfl ?_
                  refine mvB rfl rfl rfl ?_
                  refine rBoolD (d := 129) rfl (fun g9 => ?_) (fun g9 => ?_)
                  · -- g9T
                    refine mvI rfl rfl rfl ?_
                    refine neq rfl rfl rfl rfl ?_
                    refine mvB rfl rfl rfl ?_
                    refine rBoolD (d := 132) rfl (fun g10 => ?_) (fun g10 => ?_)
                    · -- g10T
                      exact absurd (congrArg Prod.snd (hZ g9)) g10
                    · -- g10F
                      refine ldAl Try.isAgg26 Try.sizeOf26 (cBs 0 rfl) trv rfl rfl rfl rfl ?_
                      refine bld rfl rfl rfl (bld26_1 (.int .i64 _) rfl) ?_
                      refine neqR eq2R rfl rfl rfl rfl ?_
                      refine pickB rfl rfl rfl rfl ?_
                      refine pickB rfl rfl rfl rfl ?_
                      refine rNil ?_
                      refine qSeq rfl ?_
                      refine hIfD rfl (fun c11 => ?_) (fun c11 => ?_)
                      · -- c11T
                        exact absurd ⟨congrArg (·.1.1) (hZ g9), congrArg (·.1.2) (hZ g9)⟩ c11
                      · -- c11F
                        refine hSkip ?_
                        refine qSeq rfl ?_
                        refine hSeq ?_
                        refine hSeq ?_
                        refine hReg (sq 0 (sq 1 sz)) (by kernel_rfl) ?_
                        refine mvI rfl rfl rfl ?_
                        refine neq rfl rfl rfl rfl ?_
                        refine rNil ?_
                        refine qSeq rfl ?_
                        refine hIfD rfl (fun c12 => ?_) (fun c12 => ?_)
                        · -- c12T
                          refine hSeq ?_
                          refine hReg (sq 0 sz) (by kernel_rfl) ?_
                          refine asB rfl rfl rfl ?_
                          refine rNil ?_
                          refine qSeq rfl ?_
                          refine hRet ?_
                          exact fun w hs => ⟨[.bool _], ⟨rfl, trivial⟩, ⟨by first | rfl | exact (bT ⟨congrArg (·.1.1) hB, congrArg (·.1.2) hB⟩).symm, hs.upd⟩⟩
                        · -- c12F
                          have hB := Math.bet_ok c12
                          refine hSkip ?_
                          refine qSeq rfl ?_
                          refine hSeq ?_
                          refine hReg (sq 0 (sq 1 (sq 2 (sl 3 (sl 4 (sq 5 (sq 6 (sq 7 (sl 8 (sl 9 (sq 10 sz))))))))))) (by kernel_rfl) ?_
                          refine mvI rfl rfl rfl ?_
                          refine mvI rfl rfl rfl ?_
                          refine bld rfl rfl rfl (bld26_0_1 (.int .i64 _) (.int .i64 _) rfl rfl) ?_
                          refine ldAl Try.isAgg26 Try.sizeOf26 (cBs 7 rfl) trv rfl rfl rfl rfl ?_
                          refine callP Try.call33 trv rfl rfl (fun w hs => impl_BetValue_c _ _ _ _ _ _ w) ?_
                          refine mv rfl rfl rfl ?_
                          refine ext rfl rfl rfl rfl ?_
                          refine ext rfl rfl rfl rfl ?_
                          refine alc Try.zeroValue26 rfl trv1 rfl rfl (fun bka10 hbka10 => ?_)
                          refine stAl 0 rfl Try.sizeOf26 trv rfl rfl rfl rfl rfl (by simp [Value.oneCell']) rfl ?_
                          refine asI rfl rfl rfl ?_
                          refine rNil ?_
                          refine qSeq rfl ?_
                          refine hSeq ?_
                          refine hReg (sq 0 (sq 1 (sq 2 (sl 3 (sq 4 (sq 5 (sq 6 (sq 7 (sq 8 sz))))))))) (by kernel_rfl) ?_
                          refine mvI rfl rfl rfl ?_
                          refine eql rfl rfl rfl rfl ?_
                          refine mvB rfl rfl rfl ?_
                          refine rBoolD (d := 150) rfl (fun g13 => ?_) (fun g13 => ?_)
                          · -- g13T
                            refine ldAl Try.isAgg26 Try.sizeOf26 (cBs 0 rfl) trv rfl rfl rfl rfl ?_
                            refine mvI rfl rfl rfl ?_
                            refine bld rfl rfl rfl (bld26_0_1 (.int .i64 _) (.int .i64 _) rfl rfl) ?_
                            refine eqlR eq2R rfl rfl rfl rfl ?_
                            refine pickB rfl rfl rfl rfl ?_
                            refine asB rfl rfl rfl ?_
                            refine rNil ?_
                            refine qSeq rfl ?_
                            refine hRet ?_
                            exact fun w hs => ⟨[.bool _], ⟨rfl, trivial⟩, ⟨by first | rfl | exact (bT ⟨congrArg (·.1.1) hB, congrArg (·.1.2) hB⟩).symm, hs.upd⟩⟩
                          · -- g13F
                            first | exact absurd rfl g13 | exact absurd (And.intro rfl rfl) g13 | exact absurd (congrArg Prod.snd hB) g13
                  · -- g9F
                    refine rSkipQ rfl rfl ?_
                    refine rSkipQ rfl rfl ?_
                    refine rSkipQ rfl rfl ?_
                    refine rSkipL trv rfl rfl ?_
                    refine rSkipQ rfl rfl ?_
                    refine rSkipQ rfl rfl ?_
                    refine rSkipQ rfl rfl ?_
                    refine pickB rfl rfl rfl rfl ?_
                    refine rNil ?_
                    refine qSeq rfl ?_
                    refine hIfF rfl ?_
                    refine hSkip ?_
                    refine qSeq rfl ?_
                    refine hSeq ?_
                    refine hSeq ?_
                    refine hReg (sq 0 (sq 1 sz)) (by kernel_rfl) ?_
                    refine mvI rfl rfl rfl ?_
                    refine neq rfl rfl rfl rfl ?_
                    refine rNil ?_
                    refine qSeq rfl ?_
                    refine hIfD rfl (fun c14 => ?_) (fun c14 => ?_)
                    · -- c14T
                      refine hSeq ?_
                      refine hReg (sq 0 sz) (by kernel_rfl) ?_
                      refine asB rfl rfl rfl ?_
                      refine rNil ?_
                      refine qSeq rfl ?_
                      refine hRet ?_
                      exact fun w hs => ⟨[.bool _], ⟨rfl, trivial⟩, ⟨by first | rfl | exact (bT ⟨congrArg (·.1.1) hB, congrArg (·.1.2) hB⟩).symm, hs.upd⟩⟩
                    · -- c14F
                      have hB := Math.bet_ok c14
                      refine hSkip ?_
                      refine qSeq rfl ?_
                      refine hSeq ?_
                      refine hReg (sq 0 (sq 1 (sq 2 (sl 3 (sl 4 (sq 5 (sq 6 (sq 7 (sl 8 (sl 9 (sq 10 sz))))))))))) (by kernel_rfl) ?_
                      refine mvI rfl rfl rfl ?_
                      refine mvI rfl rfl rfl ?_
                      refine bld rfl rfl rfl (bld26_0_1 (.int .i64 _) (.int .i64 _) rfl rfl) ?_
                      refine ldAl Try.isAgg26 Try.sizeOf26 (cBs 7 rfl) trv rfl rfl rfl rfl ?_
                      refine callP Try.call33 trv rfl rfl (fun w hs => impl_BetValue_c _ _ _ _ _ _ w) ?_
                      refine mv rfl rfl rfl ?_
                      refine ext rfl rfl rfl rfl ?_
                      refine ext rfl rfl rfl rfl ?_
                      refine alc Try.zeroValue26 rfl trv1 rfl rfl (fun bka11 hbka11 => ?_)
                      refine stAl 0 rfl Try.sizeOf26 trv rfl rfl rfl rfl rfl (by simp [Value.oneCell']) rfl ?_
                      refine asI rfl rfl rfl ?_
                      refine rNil ?_
                      refine qSeq rfl ?_
                      refine hSeq ?_
                      refine hReg (sq 0 (sq 1 (sq 2 (sl 3 (sq 4 (sq 5 (sq 6 (sq 7 (sq 8 sz))))))))) (by kernel_rfl) ?_
                      refine mvI rfl rfl rfl ?_
                      refine eql rfl rfl rfl rfl ?_
                      refine mvB rfl rfl rfl ?_
                      refine rBoolD (d := 150) rfl (fun g15 => ?_) (fun g15 => ?_)
                      · -- g15T
                        refine ldAl Try.isAgg26 Try.sizeOf26 (cBs 0 rfl) trv rfl rfl rfl rfl ?_
                        refine mvI rfl rfl rfl ?_
                        refine bld rfl rfl rfl (bld26_0_1 (.int .i64 _) (.int .i64 _) rfl rfl) ?_
                        refine eqlR eq2R rfl rfl rfl rfl ?_
                        refine pickB rfl rfl rfl rfl ?_
                        refine asB rfl rfl rfl ?_
                        refine rNil ?_
                        refine qSeq rfl ?_
                        refine hRet ?_
                        exact fun w hs => ⟨[.bool _], ⟨rfl, trivial⟩, ⟨by first | rfl | exact (bT ⟨congrArg (·.1.1) hB, congrArg (·.1.2) hB⟩).symm, hs.upd⟩⟩
                      · -- g15F
                        first | exact absurd rfl g15 | exact absurd (And.intro rfl rfl) g15 | exact absurd (congrArg Prod.snd hB) g15
                · -- c8F
                  refine hSkip ?_
                  refine qSeq rfl ?_
                  refine hSeq ?_
                  refine hSeq ?_
                  refine hReg (sq 0 (sq 1 sz)) (by kernel_rfl) ?_
                  refine mvI rfl rfl rfl ?_
                  refine neq rfl rfl rfl rfl ?_
                  refine rNil ?_
                  refine qSeq rfl ?_
                  refine hIfD rfl (fun c16 => ?_) (fun c16 => ?_)
                  · -- c16T
                    refine hSeq ?_
                    refine hReg (sq 0 sz) (by kernel_rfl) ?_
                    refine asB rfl rfl rfl ?_
                    refine rNil ?_
                    refine qSeq rfl ?_
                    refine hRet ?_
                    exact fun w hs => ⟨[.bool _], ⟨rfl, trivial⟩, ⟨by first | rfl | exact (bT ⟨congrArg (·.1.1) hB, congrArg (·.1.2) hB⟩).symm, hs.upd⟩⟩
                  · -- c16F
                    have hB := Math.bet_ok c16
                    refine hSkip ?_
                    refine qSeq rfl ?_
                    refine hSeq ?_
                    refine hReg (sq 0 (sq 1 (sq 2 (sl 3 (sl 4 (sq 5 (sq 6 (sq 7 (sl 8 (sl 9 (sq 10 sz))))))))))) (by kernel_rfl) ?_
                    refine mvI rfl rfl rfl ?_
                    refine mvI rfl rfl rfl ?_
                    refine bld rfl rfl rfl (bld26_0_1 (.int .i64 _) (.int .i64 _) rfl rfl) ?_
                    refine ldAl Try.isAgg26 Try.sizeOf26 (cBs 6 rfl) trv rfl rfl rfl rfl ?_
                    refine callP Try.call33 trv rfl rfl (fun w hs => impl_BetValue_c _ _ _ _ _ _ w) ?_
                    refine mv rfl rfl rfl ?_
                    refine ext rfl rfl rfl rfl ?_
                    refine ext rfl rfl rfl rfl ?_
                    refine alc Try.zeroValue26 rfl trv1 rfl rfl (fun bka12 hbka12 => ?_)
                    refine stAl 0 rfl Try.sizeOf26 trv rfl rfl rfl rfl rfl (by simp [Value.oneCell']) rfl ?_
                    refine asI rfl rfl rfl ?_
                    refine rNil ?_
                    refine qSeq rfl ?_
                    refine hSeq ?_
                    refine hReg (sq 0 (sq 1 (sq 2 (sl 3 (sq 4 (sq 5 (sq 6 (sq 7 (sq 8 sz))))))))) (by kernel_rfl) ?_
                    refine mvI rfl rfl rfl ?_
                    refine eql rfl rfl rfl rfl ?_
                    refine mvB rfl rfl rfl ?_
                    refine rBoolD (d := 150) rfl (fun g17 => ?_) (fun g17 => ?_)
                    · -- g17T
                      refine ldAl Try.isAgg26 Try.sizeOf26 (cBs 0 rfl) trv rfl rfl rfl rfl ?_
                      refine mvI rfl rfl rfl ?_
                      refine bld rfl rfl rfl (bld26_0_1 (.int .i64 _) (.int .i64 _) rfl rfl) ?_
                      refine eqlR eq2R rfl rfl rfl rfl ?_
                      refine pickB rfl rfl rfl rfl ?_
                      refine asB rfl rfl rfl ?_
                      refine rNil ?_
                      refine qSeq rfl ?_
                      refine hRet ?_
                      exact fun w hs => ⟨[.bool _], ⟨rfl, trivial⟩, ⟨by first | rfl | exact (bT ⟨congrArg (·.1.1) hB, congrArg (·.1.2) hB⟩).symm, hs.upd⟩⟩
                    · -- g17F
                      first | exact absurd rfl g17 | exact absurd (And.intro rfl rfl) g17 | exact absurd (congrArg Prod.snd hB) g17

theorem cells5 : Try.prog.cellsOf 5 = 1 := by kernel_rfl

theorem fnBets_lifted (os : Os) (started : os.Started) (H : Type) (enc : TypeId × Value → H) :
    ReturnsInHanded {} Try.checked os 13 .any (Rows.fnBetsSpec.pre6 enc Try.prog Try.f13 Rows.fnBetsRow.domain false) (Rows.fnBetsSpec.post enc Try.prog Try.f13 false true false false) := by
  refine returnsInHanded_of_change (C := Try.checked) own started (by kernel_rfl) Try.func13
    (ChangeSpec.witness6 (enc := enc) (C := Try.checked) false ⟨#[], #[.slice none 0 0], []⟩ 8 (by kernel_rfl) (by kernel_rfl) (by kernel_rfl) (by kernel_rfl)) ?_
  intro W base args ds gs before hval0 hW hcnd _
  have hval : ∀ (j : Nat) t v, Try.f13.params[j]? = some t → args[j]? = some v → Value.okWide Try.prog W .any base t v := hval0
  have hW' := hW
  obtain ⟨p, q, hA0, hV, rfl, hfz, hnd⟩ := hW
  have hA : DataW.TrodAll enc Try.prog W 0 (fun _ => true) true Try.f13.params.toList args.toList ds p := hA0
  rw [Try.params13] at hA hval
  obtain ⟨v0, vs0, d0, ds0, p0, q0, hargs, rfl, rfl, h0, r0⟩ := trodAll_cons hA
  obtain ⟨rfl, rfl, rfl⟩ := trodAll_nil r0
  obtain rfl : args = #[v0] := by cases args; simp_all
  obtain ⟨rfl, rfl⟩ := trodVars_none hV
  obtain ⟨ca, bs, cc, rfl, hwf, hmax, hca⟩ := open_slice_ints Try.underlying31 Try.underlying5 cells5 (hval 0 31 v0 rfl rfl) h0
  refine (Bets_w ca bs cc W hca hwf).mono fun e W' ⟨v, he, hv, hx⟩ => ?_
  subst he; subst hv
  exact ⟨_, rfl, law_post (tb := 4) hW' rfl rfl Try.underlying4 rfl rfl rfl (by kernel_rfl) hx⟩
theorem fnBets_holds : Rows.FnBetsSaid :=
  OpenClaim.holds_of_wide 13 Try.f13 rfl rfl rfl rfl rfl rfl rfl ⟨rfl, rfl, rfl, rfl, rfl⟩ rfl rfl rfl rfl rfl (by kernel_rfl) Try.func13 (by kernel_rfl)
    (of_decide_eq_true (by kernel_rfl)) (by unfold Func.isWrapper; first | (rw [if_pos (by decide +kernel)]; kernel_rfl) | (rw [if_neg (by decide +kernel)]; exact ⟨rfl, rfl⟩))
    (fun os started H enc _ => fnBets_lifted os started H enc)
#print axioms fnBets_holds

end Go.Proofs.Ytglhfigmenljoaa
