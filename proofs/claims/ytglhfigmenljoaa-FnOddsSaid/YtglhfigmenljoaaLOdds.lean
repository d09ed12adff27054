/- The law FnOdds returns true for all arguments. No condition. -/
import Derived.Test.YtglhfigmenljoaaEng4
import Derived.Test.YtglhfigmenljoaaFrame
import Derived.Test.YtglhfigmenljoaaEng6
import Derived.Test.YtglhfigmenljoaaEqs
import Derived.Test.YtglhfigmenljoaaMath
import Derived.Test.YtglhfigmenljoaaMath2
import Derived.Test.YtglhfigmenljoaaRat
import Derived.Test.YtglhfigmenljoaaOdds
import Derived.Test.YtglhfigmenljoaaSrc0
import Derived.Test.YtglhfigmenljoaaSrc
import Derived.Test.YtglhfigmenljoaaSrcO
import Derived.Test.YtglhfigmenljoaaRows
namespace Go.Proofs.Ytglhfigmenljoaa
open Go Go.RowKit V Go.ChangeShapes Go.WideShapes Go.ChangeAt
set_option linter.unusedVariables false
set_option linter.unusedSimpArgs false
set_option maxRecDepth 100000



set_option maxHeartbeats 4000000 in
theorem Odds_w (ca : Option Addr) (bs : List Int) (cc : Nat) (w : World) (hc : CellsAt ca (bs.map (Value.int .u8)) w) (hb : ∀ n ∈ bs, (Lit.int .u8 n).wf = true) :
    Calls Try.prog 12 #[.slice ca bs.length cc] w (Ret fun v w' => v = .bool true ∧ Ext w w') := by
  refine fn (M := none_) (rs := [.tmp 2]) Try.func12 rfl Try.ntmps12 rfl rfl (Sep.start _ _) ?_
  refine hSeq ?_
  refine hReg (sq 0 sz) (by kernel_rfl) ?_
  refine asB rfl rfl rfl ?_
  refine rNil ?_
  refine qSeq rfl ?_
  refine hSeq ?_
  refine hSeq ?_
  refine hReg (sq 0 (sl 1 sz)) (by kernel_rfl) ?_
  refine mvS rfl rfl rfl ?_
  refine callP Try.call23 trv rfl rfl (fun w hs => big_c _ _ _ w) ?_
  refine rNil ?_
  refine qSeq rfl ?_
  refine hIfD rfl (fun c1 => ?_) (fun c1 => ?_)
  · -- c1T
    refine hSeq ?_
    refine hReg (sq 0 sz) (by kernel_rfl) ?_
    refine asB rfl rfl rfl ?_
    refine rNil ?_
    refine qSeq rfl ?_
    refine hRet ?_
    exact fun w hs => ⟨[.bool _], ⟨rfl, trivial⟩, ⟨by first | rfl | exact (bT ⟨congrArg (·.1.1) hZ, congrArg (·.1.2) hZ⟩).symm, hs.upd⟩⟩
  · -- c1F
    have hok : okBytes bs := ⟨fun x hx => bounds_u8 (hb x hx), by omega⟩
    refine hSkip ?_
    refine qSeq rfl ?_
    refine hSeq ?_
    refine hReg (sq 0 (sl 1 (sq 2 (sq 3 (sq 4 (sq 5 (sl 6 (sq 7 (sq 8 (sl 9 sz)))))))))) (by kernel_rfl) ?_
    refine mvS rfl rfl rfl ?_
    refine callV Try.call34 trv rfl rfl (fun w hs => DrawCallValue_c _ _ _ w (hc.ext hs.upd) hok) ?_
    rintro ⟨pot, call, en, ed⟩ -
    refine mv rfl rfl rfl ?_
    refine ext rfl rfl rfl rfl ?_
    refine ext rfl rfl rfl rfl ?_
    refine ext rfl rfl rfl rfl ?_
    refine alc Try.zeroValue26 rfl trv1 rfl rfl (fun bka1 hbka1 => ?_)
    refine asI rfl rfl rfl ?_
    refine asI rfl rfl rfl ?_
    refine stAl 0 rfl Try.sizeOf26 trv rfl rfl rfl rfl rfl (by simp [Value.oneCell']) rfl ?_
    refine rNil ?_
    refine qSeq rfl ?_
    refine hSeq ?_
    refine hReg (sq 0 (sq 1 (sl 2 (sl 3 (sq 4 (sq 5 (sq 6 (sl 7 (sl 8 (sq 9 sz)))))))))) (by kernel_rfl) ?_
    refine mvI rfl rfl rfl ?_
    refine mvI rfl rfl rfl ?_
    refine ldAl Try.isAgg26 Try.sizeOf26 (cBs 0 rfl) trv rfl rfl rfl rfl ?_
    refine callP Try.call31 trv rfl rfl (fun w hs => impl_CallValue_c _ _ _ _ w) ?_
    refine mv rfl rfl rfl ?_
    refine ext rfl rfl rfl rfl ?_
    refine ext rfl rfl rfl rfl ?_
    refine alc Try.zeroValue26 rfl trv1 rfl rfl (fun bka2 hbka2 => ?_)
    refine stAl 0 rfl Try.sizeOf26 trv rfl rfl rfl rfl rfl (by simp [Value.oneCell']) rfl ?_
    refine asI rfl rfl rfl ?_
    refine rNil ?_
    refine qSeq rfl ?_
    refine hSeq ?_
    refine hReg (sq 0 (sq 1 (sl 2 (sl 3 (sq 4 (sq 5 (sq 6 (sl 7 (sl 8 (sq 9 sz)))))))))) (by kernel_rfl) ?_
    refine mvI rfl rfl rfl ?_
    refine mvI rfl rfl rfl ?_
    refine ldAl Try.isAgg26 Try.sizeOf26 (cBs 1 rfl) trv rfl rfl rfl rfl ?_
    refine callP Try.call29 trv rfl rfl (fun w hs => spec_CallValue_c _ _ _ _ w) ?_
    refine mv rfl rfl rfl ?_
    refine ext rfl rfl rfl rfl ?_
    refine ext rfl rfl rfl rfl ?_
    refine alc Try.zeroValue26 rfl trv1 rfl rfl (fun bka3 hbka3 => ?_)
    refine stAl 0 rfl Try.sizeOf26 trv rfl rfl rfl rfl rfl (by simp [Value.oneCell']) rfl ?_
    refine asI rfl rfl rfl ?_
    refine rNil ?_
    refine qSeq rfl ?_
    refine hSeq ?_
    refine hReg (sq 0 (sl 1 (sq 2 (sq 3 (sq 4 (sq 5 (sq 6 sz))))))) (by kernel_rfl) ?_
    refine mvS rfl rfl rfl ?_
    refine callV Try.call35 trv rfl rfl (fun w hs => DrawPotOdds_c _ _ _ w (hc.ext hs.upd) hok) ?_
    rintro ⟨a, b⟩ -
    refine mv rfl rfl rfl ?_
    refine ext rfl rfl rfl rfl ?_
    refine ext rfl rfl rfl rfl ?_
    refine asI rfl rfl rfl ?_
    refine asI rfl rfl rfl ?_
    refine rNil ?_
    refine qSeq rfl ?_
    refine hSeq ?_
    refine hReg (sq 0 (sq 1 (sl 2 (sq 3 (sq 4 (sq 5 (sl 6 (sl 7 (sq 8 sz))))))))) (by kernel_rfl) ?_
    refine mvI rfl rfl rfl ?_
    refine mvI rfl rfl rfl ?_
    refine callP Try.call20 trv rfl rfl (fun w hs => impl_PotOdds_c _ _ w) ?_
    refine mv rfl rfl rfl ?_
    refine ext rfl rfl rfl rfl ?_
    refine ext rfl rfl rfl rfl ?_
    refine alc Try.zeroValue26 rfl trv1 rfl rfl (fun bka4 hbka4 => ?_)
    refine stAl 0 rfl Try.sizeOf26 trv rfl rfl rfl rfl rfl (by simp [Value.oneCell']) rfl ?_
    refine asI rfl rfl rfl ?_
    refine rNil ?_
    refine qSeq rfl ?_
    refine hSeq ?_
    refine hReg (sq 0 (sq 1 (sl 2 (sq 3 (sq 4 (sq 5 (sl 6 (sl 7 (sq 8 sz))))))))) (by kernel_rfl) ?_
    refine mvI rfl rfl rfl ?_
    refine mvI rfl rfl rfl ?_
    refine callP Try.call19 trv rfl rfl (fun w hs => spec_PotOdds_c _ _ w) ?_
    refine mv rfl rfl rfl ?_
    refine ext rfl rfl rfl rfl ?_
    refine ext rfl rfl rfl rfl ?_
    refine alc Try.zeroValue26 rfl trv1 rfl rfl (fun bka5 hbka5 => ?_)
    refine stAl 0 rfl Try.sizeOf26 trv rfl rfl rfl rfl rfl (by simp [Value.oneCell']) rfl ?_
    refine asI rfl rfl rfl ?_
    refine rNil ?_
    refine qSeq rfl ?_
    refine hSeq ?_
    refine hReg (sq 0 (sq 1 (sl 2 (sq 3 (sq 4 (sq 5 (sl 6 (sl 7 (sq 8 sz))))))))) (by kernel_rfl) ?_
    refine mvI rfl rfl rfl ?_
    refine mvI rfl rfl rfl ?_
    refine callP Try.call26 trv rfl rfl (fun w hs => impl_BreakEvenFolds_c _ _ w) ?_
    refine mv rfl rfl rfl ?_
    refine ext rfl rfl rfl rfl ?_
    refine ext rfl rfl rfl rfl ?_
    refine alc Try.zeroValue26 rfl trv1 rfl rfl (fun bka6 hbka6 => ?_)
    refine stAl 0 rfl Try.sizeOf26 trv rfl rfl rfl rfl rfl (by simp [Value.oneCell']) rfl ?_
    refine asI rfl rfl rfl ?_
    refine rNil ?_
    refine qSeq rfl ?_
    refine hSeq ?_
    refine hReg (sq 0 (sq 1 (sl 2 (sq 3 (sq 4 (sq 5 (sl 6 (sl 7 (sq 8 sz))))))))) (by kernel_rfl) ?_
    refine mvI rfl rfl rfl ?_
    refine mvI rfl rfl rfl ?_
    refine callP Try.call25 trv rfl rfl (fun w hs => spec_BreakEvenFolds_c _ _ w) ?_
    refine mv rfl rfl rfl ?_
    refine ext rfl rfl rfl rfl ?_
    refine ext rfl rfl rfl rfl ?_
    refine alc Try.zeroValue26 rfl trv1 rfl rfl (fun bka7 hbka7 => ?_)
    refine stAl 0 rfl Try.sizeOf26 trv rfl rfl rfl rfl rfl (by simp [Value.oneCell']) rfl ?_
    refine asI rfl rfl rfl ?_
    refine rNil ?_
    refine qSeq rfl ?_
    refine hSeq ?_
    refine hReg (sq 0 (sq 1 (sl 2 (sq 3 (sq 4 (sq 5 (sl 6 (sl 7 (sq 8 sz))))))))) (by kernel_rfl) ?_
    refine mvI rfl rfl rfl ?_
    refine mvI rfl rfl rfl ?_
    refine callP Try.call28 trv rfl rfl (fun w hs => impl_DefenceShare_c _ _ w) ?_
    refine mv rfl rfl rfl ?_
    refine ext rfl rfl rfl rfl ?_
    refine ext rfl rfl rfl rfl ?_
    refine alc Try.zeroValue26 rfl trv1 rfl rfl (fun bka8 hbka8 => ?_)
    refine stAl 0 rfl Try.sizeOf26 trv rfl rfl rfl rfl rfl (by simp [Value.oneCell']) rfl ?_
    refine asI rfl rfl rfl ?_
    refine rNil ?_
    refine qSeq rfl ?_
    refine hSeq ?_
    refine hReg (sq 0 (sq 1 (sl 2 (sq 3 (sq 4 (sq 5 (sl 6 (sl 7 (sq 8 sz))))))))) (by kernel_rfl) ?_
    refine mvI rfl rfl rfl ?_
    refine mvI rfl rfl rfl ?_
    refine callP Try.call27 trv rfl rfl (fun w hs => spec_DefenceShare_c _ _ w) ?_
    refine mv rfl rfl rfl ?_
    refine ext rfl rfl rfl rfl ?_
    refine ext rfl rfl rfl rfl ?_
    refine alc Try.zeroValue26 rfl trv1 rfl rfl (fun bka9 hbka9 => ?_)
    refine stAl 0 rfl Try.sizeOf26 trv rfl rfl rfl rfl rfl (by simp [Value.oneCell']) rfl ?_
    refine asI rfl rfl rfl ?_
    refine rNil ?_
    refine qSeq rfl ?_
    refine hSeq ?_
    refine hSeq ?_
    refine hReg (sq 0 (sq 1 (sq 2 (sq 3 (sl 4 (sl 5 (sq 6 (sq 7 (sq 8 (sq 9 (sq 10 (sq 11 (sq 12 (sq 13 (sl 14 (sl 15 (sq 16 (sq 17 (sq 18 (sq 19 (sq 20 (sq 21 (sq 22 (sq 23 (sl 24 (sl 25 (sq 26 (sq 27 (sq 28 (sq 29 (sq 30 (sq 31 (sq 32 (sq 33 (sl 34 (sl 35 (sq 36 (sq 37 sz)))))))))))))))))))))))))))))))))))))) (by kernel_rfl) ?_
    refine mvI rfl rfl rfl ?_
    refine mvI rfl rfl rfl ?_
    refine neq rfl rfl rfl rfl ?_
    refine mvB rfl rfl rfl ?_
    refine rBoolD (d := 94) rfl (fun g2 => ?_) (fun g2 => ?_)
    · -- g2T
      first | exact absurd rfl g2 | exact absurd (And.intro rfl rfl) g2
    · -- g2F
      refine ldAl Try.isAgg26 Try.sizeOf26 (cBs 7 rfl) trv rfl rfl rfl rfl ?_
      refine ldAl Try.isAgg26 Try.sizeOf26 (cBs 6 rfl) trv rfl rfl rfl rfl ?_
      refine neqR eq2R rfl rfl rfl rfl ?_
      refine pickB rfl rfl rfl rfl ?_
      refine mvB rfl rfl rfl ?_
      refine rBoolD (d := 99) rfl (fun g3 => ?_) (fun g3 => ?_)
      · -- g3T
        first | exact absurd rfl g3 | exact absurd (And.intro rfl rfl) g3
      · -- g3F
        refine mvI rfl rfl rfl ?_
        refine mvI rfl rfl rfl ?_
        refine neq rfl rfl rfl rfl ?_
        refine pickB rfl rfl rfl rfl ?_
        refine mvB rfl rfl rfl ?_
        refine rBoolD (d := 104) rfl (fun g4 => ?_) (fun g4 => ?_)
        · -- g4T
          first | exact absurd rfl g4 | exact absurd (And.intro rfl rfl) g4
        · -- g4F
          refine ldAl Try.isAgg26 Try.sizeOf26 (cBs 5 rfl) trv rfl rfl rfl rfl ?_
          refine ldAl Try.isAgg26 Try.sizeOf26 (cBs 4 rfl) trv rfl rfl rfl rfl ?_
          refine neqR eq2R rfl rfl rfl rfl ?_
          refine pickB rfl rfl rfl rfl ?_
          refine mvB rfl rfl rfl ?_
          refine rBoolD (d := 109) rfl (fun g5 => ?_) (fun g5 => ?_)
          · -- g5T
            first | exact absurd rfl g5 | exact absurd (And.intro rfl rfl) g5
          · -- g5F
            refine mvI rfl rfl rfl ?_
            refine mvI rfl rfl rfl ?_
            refine neq rfl rfl rfl rfl ?_
            refine pickB rfl rfl rfl rfl ?_
            refine mvB rfl rfl rfl ?_
            refine rBoolD (d := 114) rfl (fun g6 => ?_) (fun g6 => ?_)
            · -- g6T
              first | exact absurd rfl g6 | exact absurd (And.intro rfl rfl) g6
            · -- g6F
              refine ldAl Try.isAgg26 Try.sizeOf26 (cBs 3 rfl) trv rfl rfl rfl rfl ?_
              refine ldAl Try.isAgg26 Try.sizeOf26 (cBs 2 rfl) trv rfl rfl rfl rfl ?_
              refine neqR eq2R rfl rfl rfl rfl ?_
              refine pickB rfl rfl rfl rfl ?_
              refine mvB rfl rfl rfl ?_
              refine rBoolD (d := 119) rfl (fun g7 => ?_) (fun g7 => ?_)
              · -- g7T
                first | exact absurd rfl g7 | exact absurd (And.intro rfl rfl) g7
              · -- g7F
                refine mvI rfl rfl rfl ?_
                refine mvI rfl rfl rfl ?_
                refine neq rfl rfl rfl rfl ?_
                refine pickB rfl rfl rfl rfl ?_
                refine mvB rfl rfl rfl ?_
                refine rBoolD (d := 124) rfl (fun g8 => ?_) (fun g8 => ?_)
                · -- g8T
                  first | exact absurd rfl g8 | exact absurd (And.intro rfl rfl) g8
                · -- g8F
                  refine ldAl Try.isAgg26 Try.sizeOf26 (cBs 1 rfl) trv rfl rfl rfl rfl ?_
                  refine ldAl Try.isAgg26 Try.sizeOf26 (cBs 0 rfl) trv rfl rfl rfl rfl ?_
                  refine neqR eq2R rfl rfl rfl rfl ?_
                  refine pickB rfl rfl rfl rfl ?_
                  refine rNil ?_
                  refine qSeq rfl ?_
                  refine hIfD rfl (fun c9 => ?_) (fun c9 => ?_)
                  · -- c9T
                    first | exact absurd rfl c9 | exact absurd (And.intro rfl rfl) c9
                  · -- c9F
                    refine hSkip ?_
                    refine qSeq rfl ?_
                    refine hSeq ?_
                    refine hSeq ?_
                    refine hReg (sq 0 (sq 1 sz)) (by kernel_rfl) ?_
                    refine mvI rfl rfl rfl ?_
                    refine neq rfl rfl rfl rfl ?_
                    refine rNil ?_
                    refine qSeq rfl ?_
                    refine hIfD rfl (fun c10 => ?_) (fun c10 => ?_)
                    · -- c10T
                      refine hSeq ?_
                      refine hReg (sq 0 sz) (by kernel_rfl) ?_
                      refine asB rfl rfl rfl ?_
                      refine rNil ?_
                      refine qSeq rfl ?_
                      refine hRet ?_
                      exact fun w hs => ⟨[.bool _], ⟨rfl, trivial⟩, ⟨by first | rfl | exact (bT ⟨congrArg (·.1.1) hZ, congrArg (·.1.2) hZ⟩).symm, hs.upd⟩⟩
                    · -- c10F
                      obtain ⟨hA, hZ⟩ := Math.odds_ok c10
                      refine hSkip ?_
                      refine qSeq rfl ?_
                      refine hSeq ?_
                      refine hReg (sl 0 (sl 1 (sl 2 (sq 3 (sq 4 (sq 5 (sl 6 (sl 7 (sq 8 sz))))))))) (by kernel_rfl) ?_
                      refine ldAl Try.isAgg26 Try.sizeOf26 (cBs 3 rfl) trv rfl rfl rfl rfl ?_
                      refine ldAl Try.isAgg26 Try.sizeOf26 (cBs 1 rfl) trv rfl rfl rfl rfl ?_
                      refine callP Try.call36 trv rfl rfl (fun w hs => impl_AddRatios_c _ _ _ _ w) ?_
                      refine mv rfl rfl rfl ?_
                      refine ext rfl rfl rfl rfl ?_
                      refine ext rfl rfl rfl rfl ?_
                      refine alc Try.zeroValue26 rfl trv1 rfl rfl (fun bka10 hbka10 => ?_)
                      refine stAl 0 rfl Try.sizeOf26 trv rfl rfl rfl rfl rfl (by simp [Value.oneCell']) rfl ?_
                      refine asI rfl rfl rfl ?_
                      refine rNil ?_
                      refine qSeq rfl ?_
                      refine hSeq ?_
                      refine hReg (sq 0 (sq 1 (sl 2 (sl 3 (sq 4 (sq 5 (sq 6 (sl 7 (sl 8 (sq 9 sz)))))))))) (by kernel_rfl) ?_
                      refine mvI rfl rfl rfl ?_
                      refine mvI rfl rfl rfl ?_
                      refine ldAl Try.isAgg26 Try.sizeOf26 (cBs 6 rfl) trv rfl rfl rfl rfl ?_
                      refine callP Try.call31 trv rfl rfl (fun w hs => impl_CallValue_c _ _ _ _ w) ?_
                      refine mv rfl rfl rfl ?_
                      refine ext rfl rfl rfl rfl ?_
                      refine ext rfl rfl rfl rfl ?_
                      refine alc Try.zeroValue26 rfl trv1 rfl rfl (fun bka11 hbka11 => ?_)
                      refine stAl 0 rfl Try.sizeOf26 trv rfl rfl rfl rfl rfl (by simp [Value.oneCell']) rfl ?_
                      refine asI rfl rfl rfl ?_
                      refine rNil ?_
                      refine qSeq rfl ?_
                      refine hSeq ?_
                      refine hReg (sq 0 (sq 1 (sq 2 (sl 3 (sq 4 (sq 5 (sq 6 (sq 7 (sq 8 (sq 9 (sq 10 (sq 11 (sl 12 (sq 13 (sq 14 (sq 15 (sq 16 sz))))))))))))))))) (by kernel_rfl) ?_
                      refine mvI rfl rfl rfl ?_
                      refine eql rfl rfl rfl rfl ?_
                      refine mvB rfl rfl rfl ?_
                      refine rBoolD (d := 146) rfl (fun g11 => ?_) (fun g11 => ?_)
                      · -- g11T
                        refine ldAl Try.isAgg26 Try.sizeOf26 (cBs 1 rfl) trv rfl rfl rfl rfl ?_
                        refine bld rfl rfl rfl (bld26_0_1 (.int .i64 _) (.int .i64 _) rfl rfl) ?_
                        refine eqlR eq2R rfl rfl rfl rfl ?_
                        refine pickB rfl rfl rfl rfl ?_
                        refine mvB rfl rfl rfl ?_
                        refine rBoolD (d := 151) rfl (fun g12 => ?_) (fun g12 => ?_)
                        · -- g12T
                          refine mvI rfl rfl rfl ?_
                          refine eql rfl rfl rfl rfl ?_
                          refine pickB rfl rfl rfl rfl ?_
                          refine mvB rfl rfl rfl ?_
                          refine rBoolD (d := 155) rfl (fun g13 => ?_) (fun g13 => ?_)
                          · -- g13T
                            refine ldAl Try.isAgg26 Try.sizeOf26 (cBs 0 rfl) trv rfl rfl rfl rfl ?_
                            refine bld rfl rfl rfl (bld26_1 (.int .i64 _) rfl) ?_
                            refine eqlR eq2R rfl rfl rfl rfl ?_
                            refine pickB rfl rfl rfl rfl ?_
                            refine asB rfl rfl rfl ?_
                            refine rNil ?_
                            refine qSeq rfl ?_
                            refine hRet ?_
                            exact fun w hs => ⟨[.bool _], ⟨rfl, trivial⟩, ⟨by first | rfl | exact (bT ⟨congrArg (·.1.1) hZ, congrArg (·.1.2) hZ⟩).symm, hs.upd⟩⟩
                          · -- g13F
                            first | exact absurd rfl g13 | exact absurd (And.intro rfl rfl) g13 | exact absurd (congrArg Prod.snd hA) g13 | exact absurd (And.intro (congrArg (·.1.1) hA) (congrArg (·.1.2) hA)) g13 | exact absurd (congrArg Prod.snd hZ) g13
                        · -- g12F
                          first | exact absurd rfl g12 | exact absurd (And.intro rfl rfl) g12 | exact absurd (congrArg Prod.snd hA) g12 | exact absurd (And.intro (congrArg (·.1.1) hA) (congrArg (·.1.2) hA)) g12 | exact absurd (congrArg Prod.snd hZ) g12
                      · -- g11F
                        first | exact absurd rfl g11 | exact absurd (And.intro rfl rfl) g11 | exact absurd (congrArg Prod.snd hA) g11 | exact absurd (And.intro (congrArg (·.1.1) hA) (congrArg (·.1.2) hA)) g11 | exact absurd (congrArg Prod.snd hZ) g11

theorem cells5 : Try.prog.cellsOf 5 = 1 := by kernel_rfl

theorem fnOdds_lifted (os : Os) (started : os.Started) (H : Type) (enc : TypeId × Value → H) :
    ReturnsInHanded {} Try.checked os 12 .any (Rows.fnOddsSpec.pre6 enc Try.prog Try.f12 Rows.fnOddsRow.domain false) (Rows.fnOddsSpec.post enc Try.prog Try.f12 false true false false) := by
  refine returnsInHanded_of_change (C := Try.checked) own started (by kernel_rfl) Try.func12
    (ChangeSpec.witness6 (enc := enc) (C := Try.checked) false ⟨#[], #[.slice none 0 0], []⟩ 8 (by kernel_rfl) (by kernel_rfl) (by kernel_rfl) (by kernel_rfl)) ?_
  intro W base args ds gs before hval0 hW hcnd _
  have hval : ∀ (j : Nat) t v, Try.f12.params[j]? = some t → args[j]? = some v → Value.okWide Try.prog W .any base t v := hval0
  have hW' := hW
  obtain ⟨p, q, hA0, hV, rfl, hfz, hnd⟩ := hW
  have hA : DataW.TrodAll enc Try.prog W 0 (fun _ => true) true Try.f12.params.toList args.toList ds p := hA0
  rw [Try.params12] at hA hval
  obtain ⟨v0, vs0, d0, ds0, p0, q0, hargs, rfl, rfl, h0, r0⟩ := trodAll_cons hA
  obtain ⟨rfl, rfl, rfl⟩ := trodAll_nil r0
  obtain rfl : args = #[v0] := by cases args; simp_all
  obtain ⟨rfl, rfl⟩ := trodVars_none hV
  obtain ⟨ca, bs, cc, rfl, hwf, hmax, hca⟩ := open_slice_ints Try.underlying31 Try.underlying5 cells5 (hval 0 31 v0 rfl rfl) h0
  refine (Odds_w ca bs cc W hca hwf).mono fun e W' ⟨v, he, hv, hx⟩ => ?_
  subst he; subst hv
  exact ⟨_, rfl, law_post (tb := 4) hW' rfl rfl Try.underlying4 rfl rfl rfl (by kernel_rfl) hx⟩
theorem fnOdds_holds : Rows.FnOddsSaid :=
  OpenClaim.holds_of_wide 12 Try.f12 rfl rfl rfl rfl rfl rfl rfl ⟨rfl, rfl, rfl, rfl, rfl⟩ rfl rfl rfl rfl rfl (by kernel_rfl) Try.func12 (by kernel_rfl)
    (of_decide_eq_true (by kernel_rfl)) (by unfold Func.isWrapper; first | (rw [if_pos (by decide +kernel)]; kernel_rfl) | (rw [if_neg (by decide +kernel)]; exact ⟨rfl, rfl⟩))
    (fun os started H enc _ => fnOdds_lifted os started H enc)
#print axioms fnOdds_holds

end Go.Proofs.Ytglhfigmenljoaa
