/- Contracts of the geometric bet. Their conditions stand in each. -/
import Derived.Test.YtglhfigmenljoaaEng4
import Derived.Test.YtglhfigmenljoaaMath
import Derived.Test.YtglhfigmenljoaaRat
import Derived.Test.YtglhfigmenljoaaOdds
import Derived.Test.YtglhfigmenljoaaRows
namespace Go.Proofs.Ytglhfigmenljoaa
open Go Go.RowKit V
set_option linter.unusedVariables false
set_option linter.unusedSimpArgs false
set_option maxRecDepth 100000



theorem impl_leftBehind_c (pot stack streets b : Int) (w : World) (hb : 0 ≤ b ∧ b ≤ 1000000) (hp : 0 ≤ pot) (hs0 : 0 ≤ stack) (hps : pot + 2 * stack ≤ 30000) (hk : streets ≤ 4) :
    Calls Try.prog 43 #[.int .i64 pot, .int .i64 stack, .int .i64 streets, .int .i64 b] w (Ret fun v w' => v = .int .i64 (Math.left streets.toNat pot stack b) ∧ Ext w w') := by
  refine fn (M := none_) (rs := [.tmp 8]) Try.func43 rfl Try.ntmps43 rfl rfl (Sep.start _ _) ?_
  refine hSeq ?_
  refine hReg (sq 0 sz) (by kernel_rfl) ?_
  refine asI rfl rfl rfl ?_
  refine rNil ?_
  refine qSeq rfl ?_
  refine hSeq ?_
  refine hSeq ?_
  refine hReg (sq 0 (sq 1 sz)) (by kernel_rfl) ?_
  refine mvI rfl rfl rfl ?_
  refine mvI rfl rfl rfl ?_
  refine rNil ?_
  refine qSeq rfl ?_
  refine hBlk ?_
  refine hLoop (α := Int × Int × Int) (fun x => (0 ≤ x.1 ∧ (x.1 ≤ streets ∨ x.1 = 0)) ∧ 0 ≤ x.2.1 ∧ 0 ≤ x.2.2 ∧ x.2.1 + 2 * x.2.2 ≤ 30000 ∧ Math.left (streets - x.1).toNat x.2.1 x.2.2 b = Math.left streets.toNat pot stack b) (fun x => (streets - x.1).toNat) (fun x => []) (fun x => [(0, .int .i64 x.2.1), (1, .int .i64 x.2.2), (3, .int .i64 b), (10, .int .i64 streets), (11, .int .i64 x.1)]) (0, pot, stack) ⟨⟨by omega, .inr rfl⟩, hp, hs0, hps, by simp⟩ (fun _ h => h) ⟨rfl, rfl, rfl, rfl, rfl, trivial⟩ ?_
  rintro ⟨i, q, u⟩ τ1 ⟨⟨hi, hi2⟩, hq, hu, hqu, hl⟩
  dsimp only at hi hi2 hq hu hqu hl
  refine hRe [(0, .int .i64 q), (1, .int .i64 u), (3, .int .i64 b), (10, .int .i64 streets), (11, .int .i64 i)] [] rfl rfl ?_
  have hbp := Math.bp_bd hb (p := q) (by omega)
  refine hSeq ?_
  refine hReg (sq 0 sz) (by kernel_rfl) ?_
  refine lss rfl rfl rfl rfl ?_
  refine rNil ?_
  refine qSeq rfl ?_
  refine hSeq ?_
  refine hIfD rfl (fun c1 => ?_) (fun c1 => ?_)
  · -- c1T
    refine hSkip ?_
    refine qSeq rfl ?_
    refine hSeq ?_
    refine hBlk ?_
    refine hSeq ?_
    refine hReg (sq 0 (sq 1 (sq 2 (sq 3 (sq 4 (sq 5 (sq 6 (sq 7 sz)))))))) (by kernel_rfl) ?_
    refine mvI rfl rfl rfl ?_
    refine mvI rfl rfl rfl ?_
    refine mvI rfl rfl rfl ?_
    refine mul rfl rfl rfl rfl (by omega) ?_
    refine add rfl rfl rfl rfl (by omega) ?_
    refine quo rfl rfl rfl rfl (by omega) ?_
    refine min2 rfl rfl rfl rfl ?_
    refine asI rfl rfl rfl ?_
    refine rNil ?_
    refine qSeq rfl ?_
    refine hSeq ?_
    refine hReg (sq 0 (sq 1 (sq 2 (sq 3 (sq 4 sz))))) (by kernel_rfl) ?_
    refine mvI rfl rfl rfl ?_
    refine mvI rfl rfl rfl ?_
    refine mul rfl rfl rfl rfl (by omega) ?_
    refine add rfl rfl rfl rfl (by omega) ?_
    refine asI rfl rfl rfl ?_
    refine rNil ?_
    refine qSeq rfl ?_
    refine hReg (sq 0 (sq 1 (sq 2 (sq 3 sz)))) (by kernel_rfl) ?_
    refine mvI rfl rfl rfl ?_
    refine mvI rfl rfl rfl ?_
    refine sub rfl rfl rfl rfl (by omega) ?_
    refine asI rfl rfl rfl ?_
    refine rNil ?_
    refine qSeq rfl ?_
    refine hReg (sq 0 (sq 1 sz)) (by kernel_rfl) ?_
    refine add rfl rfl rfl rfl (by omega) ?_
    refine mvI rfl rfl rfl ?_
    refine rNil ?_
    have hst := Math.left_step (k := (streets - i).toNat) (p := q) (s := u) (b := b) (by omega)
    exact qNext rfl (i + 1, q + 2 * min u ((b * q + 99) / 100), u - min u ((b * q + 99) / 100)) (by dsimp only; omega) ⟨⟨by dsimp only; omega, .inl (by dsimp only; omega)⟩, by dsimp only; omega, by dsimp only; omega, by dsimp only; omega, by dsimp only; rw [← hl, hst]; congr 1; omega⟩ ⟨rfl, rfl, rfl, rfl, rfl, trivial⟩ (fun _ h => h)
  · -- c1F
    refine hExit rfl ?_
    refine qSeq rfl ?_
    refine hSeq ?_
    refine hReg (sq 0 (sq 1 sz)) (by kernel_rfl) ?_
    refine mvI rfl rfl rfl ?_
    refine asI rfl rfl rfl ?_
    refine rNil ?_
    refine qSeq rfl ?_
    refine hRet ?_
    exact fun w hs => ⟨[.int .i64 _], ⟨rfl, trivial⟩, ⟨vI (by rw [← hl, show (streets - i).toNat = 0 from by omega]; rfl), hs.upd⟩⟩

theorem spec_l19Left_c (pot stack streets b : Int) (w : World) (hb : 0 ≤ b ∧ b ≤ 1000000) (hp : 0 ≤ pot) (hs0 : 0 ≤ stack) (hps : pot + 2 * stack ≤ 30000) (hk : streets ≤ 4) :
    Calls Try.prog 41 #[.int .i64 pot, .int .i64 stack, .int .i64 streets, .int .i64 b] w (Ret fun v w' => v = .int .i64 (Math.left streets.toNat pot stack b) ∧ Ext w w') := by
  refine fn (M := none_) (rs := [.tmp 8]) Try.func41 rfl Try.ntmps41 rfl rfl (Sep.start _ _) ?_
  refine hSeq ?_
  refine hReg (sq 0 sz) (by kernel_rfl) ?_
  refine asI rfl rfl rfl ?_
  refine rNil ?_
  refine qSeq rfl ?_
  refine hSeq ?_
  refine hBlk ?_
  refine hLoop (α := Int × Int × Int) (fun x => x.1 ≤ 4 ∧ 0 ≤ x.2.1 ∧ 0 ≤ x.2.2 ∧ x.2.1 + 2 * x.2.2 ≤ 30000 ∧ Math.left x.1.toNat x.2.1 x.2.2 b = Math.left streets.toNat pot stack b) (fun x => x.1.toNat) (fun x => []) (fun x => [(0, .int .i64 x.2.1), (1, .int .i64 x.2.2), (2, .int .i64 x.1), (3, .int .i64 b)]) (streets, pot, stack) ⟨hk, hp, hs0, hps, rfl⟩ (fun _ h => h) ⟨rfl, rfl, rfl, rfl, trivial⟩ ?_
  rintro ⟨i, q, u⟩ τ1 ⟨hi, hq, hu, hqu, hl⟩
  dsimp only at hi hq hu hqu hl
  refine hRe [(0, .int .i64 q), (1, .int .i64 u), (2, .int .i64 i), (3, .int .i64 b)] [] rfl rfl ?_
  have hbp := Math.bp_bd hb (p := q) (by omega)
  refine hSeq ?_
  refine hSeq ?_
  refine hReg (sq 0 (sq 1 sz)) (by kernel_rfl) ?_
  refine mvI rfl rfl rfl ?_
  refine gtr rfl rfl rfl rfl ?_
  refine rNil ?_
  refine qSeq rfl ?_
  refine hIfD rfl (fun c1 => ?_) (fun c1 => ?_)
  · -- c1T
    refine hSkip ?_
    refine qSeq rfl ?_
    refine hSeq ?_
    refine hBlk ?_
    refine hSeq ?_
    refine hReg (sq 0 (sq 1 (sq 2 (sq 3 (sq 4 (sq 5 (sq 6 (sq 7 sz)))))))) (by kernel_rfl) ?_
    refine mvI rfl rfl rfl ?_
    refine mvI rfl rfl rfl ?_
    refine mvI rfl rfl rfl ?_
    refine mul rfl rfl rfl rfl (by omega) ?_
    refine add rfl rfl rfl rfl (by omega) ?_
    refine quo rfl rfl rfl rfl (by omega) ?_
    refine min2 rfl rfl rfl rfl ?_
    refine asI rfl rfl rfl ?_
    refine rNil ?_
    refine qSeq rfl ?_
    refine hSeq ?_
    refine hReg (sq 0 (sq 1 (sq 2 (sq 3 (sq 4 sz))))) (by kernel_rfl) ?_
    refine mvI rfl rfl rfl ?_
    refine mvI rfl rfl rfl ?_
    refine mul rfl rfl rfl rfl (by omega) ?_
    refine add rfl rfl rfl rfl (by omega) ?_
    refine asI rfl rfl rfl ?_
    refine rNil ?_
    refine qSeq rfl ?_
    refine hReg (sq 0 (sq 1 (sq 2 (sq 3 sz)))) (by kernel_rfl) ?_
    refine mvI rfl rfl rfl ?_
    refine mvI rfl rfl rfl ?_
    refine sub rfl rfl rfl rfl (by omega) ?_
    refine asI rfl rfl rfl ?_
    refine rNil ?_
    refine qSeq rfl ?_
    refine hReg (sq 0 (sq 1 (sq 2 sz))) (by kernel_rfl) ?_
    refine mvI rfl rfl rfl ?_
    refine sub rfl rfl rfl rfl (by omega) ?_
    refine asI rfl rfl rfl ?_
    refine rNil ?_
    have hst := Math.left_step (k := i.toNat) (p := q) (s := u) (b := b) (by omega)
    exact qNext rfl (i - 1, q + 2 * min u ((b * q + 99) / 100), u - min u ((b * q + 99) / 100)) (by dsimp only; omega) ⟨by dsimp only; omega, by dsimp only; omega, by dsimp only; omega, by dsimp only; omega, by dsimp only; rw [← hl, hst]; congr 1; omega⟩ ⟨rfl, rfl, rfl, rfl, trivial⟩ (fun _ h => h)
  · -- c1F
    refine hExit rfl ?_
    refine qSeq rfl ?_
    refine hSeq ?_
    refine hReg (sq 0 (sq 1 sz)) (by kernel_rfl) ?_
    refine mvI rfl rfl rfl ?_
    refine asI rfl rfl rfl ?_
    refine rNil ?_
    refine qSeq rfl ?_
    refine hRet ?_
    exact fun w hs => ⟨[.int .i64 _], ⟨rfl, trivial⟩, ⟨vI (by rw [← hl, show i.toNat = 0 from by omega]; rfl), hs.upd⟩⟩

theorem impl_GeometricBet_c (pot stack streets : Int) (w : World) :
    Calls Try.prog 15 #[.int .i64 pot, .int .i64 stack, .int .i64 streets] w (Ret fun v w' => ∃ x : Int × Int, v = .tuple #[.int .i64 x.1, .int .i64 x.2] ∧ Math.Geo pot stack streets x ∧ Ext w w') := by
  refine fn (M := none_) (rs := [.tmp 6, .tmp 7]) Try.func15 rfl Try.ntmps15 rfl rfl (Sep.start _ _) ?_
  refine hSeq ?_
  refine hReg (sq 0 (sq 1 sz)) (by kernel_rfl) ?_
  refine asI rfl rfl rfl ?_
  refine asI rfl rfl rfl ?_
  refine rNil ?_
  refine qSeq rfl ?_
  refine hSeq ?_
  refine hSeq ?_
  refine hReg (sq 0 (sl 1 (sq 2 (sq 3 (sq 4 (sl 5 (sq 6 (sq 7 (sq 8 (sq 9 (sl 10 (sq 11 (sq 12 sz))))))))))))) (by kernel_rfl) ?_
  refine mvI rfl rfl rfl ?_
  refine callP Try.call42 trv rfl rfl (fun w hs => impl_within_c _ _ _ w) ?_
  refine notD rfl rfl rfl ?_
  refine mvB rfl rfl rfl ?_
  refine rBoolD (d := 14) rfl (fun g1 => ?_) (fun g1 => ?_)
  · -- g1T
    refine rSkipQ rfl rfl ?_
    refine rSkipL trv rfl rfl ?_
    refine rSkipQ rfl rfl ?_
    refine pickB rfl rfl rfl rfl ?_
    refine mvB rfl rfl rfl ?_
    refine rSkipQ rfl rfl ?_
    refine rSkipL trv rfl rfl ?_
    refine rSkipQ rfl rfl ?_
    refine pickB rfl rfl rfl rfl ?_
    refine rNil ?_
    refine qSeq rfl ?_
    refine hIfT rfl ?_
    refine hSeq ?_
    refine hReg (sq 0 (sq 1 sz)) (by kernel_rfl) ?_
    refine asI rfl rfl rfl ?_
    refine asI rfl rfl rfl ?_
    refine rNil ?_
    refine qSeq rfl ?_
    refine hRet ?_
    exact fun w hs => ⟨[.int .i64 _, .int .i64 _], ⟨rfl, ⟨rfl, trivial⟩⟩, ⟨(0, 2), rfl, .inr ⟨by unfold Math.inGeo; omega, rfl⟩, hs.upd⟩⟩
  · -- g1F
    refine mvI rfl rfl rfl ?_
    refine callP Try.call42 trv rfl rfl (fun w hs => impl_within_c _ _ _ w) ?_
    refine notD rfl rfl rfl ?_
    refine pickB rfl rfl rfl rfl ?_
    refine mvB rfl rfl rfl ?_
    refine rBoolD (d := 19) rfl (fun g2 => ?_) (fun g2 => ?_)
    · -- g2T
      refine rSkipQ rfl rfl ?_
      refine rSkipL trv rfl rfl ?_
      refine rSkipQ rfl rfl ?_
      refine pickB rfl rfl rfl rfl ?_
      refine rNil ?_
      refine qSeq rfl ?_
      refine hIfT rfl ?_
      refine hSeq ?_
      refine hReg (sq 0 (sq 1 sz)) (by kernel_rfl) ?_
      refine asI rfl rfl rfl ?_
      refine asI rfl rfl rfl ?_
      refine rNil ?_
      refine qSeq rfl ?_
      refine hRet ?_
      exact fun w hs => ⟨[.int .i64 _, .int .i64 _], ⟨rfl, ⟨rfl, trivial⟩⟩, ⟨(0, 2), rfl, .inr ⟨by unfold Math.inGeo; omega, rfl⟩, hs.upd⟩⟩
    · -- g2F
      refine mvI rfl rfl rfl ?_
      refine callP Try.call42 trv rfl rfl (fun w hs => impl_within_c _ _ _ w) ?_
      refine notD rfl rfl rfl ?_
      refine pickB rfl rfl rfl rfl ?_
      refine rNil ?_
      refine qSeq rfl ?_
      refine hIfD rfl (fun c3 => ?_) (fun c3 => ?_)
      · -- c3T
        refine hSeq ?_
        refine hReg (sq 0 (sq 1 sz)) (by kernel_rfl) ?_
        refine asI rfl rfl rfl ?_
        refine asI rfl rfl rfl ?_
        refine rNil ?_
        refine qSeq rfl ?_
        refine hRet ?_
        exact fun w hs => ⟨[.int .i64 _, .int .i64 _], ⟨rfl, ⟨rfl, trivial⟩⟩, ⟨(0, 2), rfl, .inr ⟨by unfold Math.inGeo; omega, rfl⟩, hs.upd⟩⟩
      · -- c3F
        refine hSkip ?_
        refine qSeq rfl ?_
        refine hSeq ?_
        refine hReg (sq 0 (sq 1 sz)) (by kernel_rfl) ?_
        refine asI rfl rfl rfl ?_
        refine asI rfl rfl rfl ?_
        refine rNil ?_
        refine qSeq rfl ?_
        refine hSeq ?_
        refine hBlk ?_
        refine hLoop (α := Int × Int) (fun x => (0 ≤ x.1 ∧ x.1 ≤ x.2 ∧ x.2 ≤ 1000000) ∧ Math.left streets.toNat pot stack x.2 = 0 ∧ ∀ b, 0 ≤ b → b < x.1 → Math.left streets.toNat pot stack b ≠ 0) (fun x => (x.2 - x.1).toNat) (fun x => []) (fun x => [(0, .int .i64 pot), (1, .int .i64 stack), (2, .int .i64 streets), (8, .int .i64 x.1), (9, .int .i64 x.2)]) (0, 1000000) ⟨⟨by decide, by decide, by decide⟩, Math.left_top (by omega) (by omega) (by omega), fun b h1 h2 => by omega⟩ (fun _ h => h) ⟨rfl, rfl, rfl, rfl, rfl, trivial⟩ ?_
        rintro ⟨lo, hi⟩ τ1 ⟨⟨hb1, hb2, hb3⟩, hz, hno⟩
        dsimp only at hb1 hb2 hb3 hz hno
        refine hRe [(0, .int .i64 pot), (1, .int .i64 stack), (2, .int .i64 streets), (8, .int .i64 lo), (9, .int .i64 hi)] [] rfl rfl ?_
        refine hSeq ?_
        refine hSeq ?_
        refine hReg (sq 0 (sq 1 (sq 2 sz))) (by kernel_rfl) ?_
        refine mvI rfl rfl rfl ?_
        refine mvI rfl rfl rfl ?_
        refine lss rfl rfl rfl rfl ?_
        refine rNil ?_
        refine qSeq rfl ?_
        refine hIfD rfl (fun c4 => ?_) (fun c4 => ?_)
        · -- c4T
          refine hSkip ?_
          refine qSeq rfl ?_
          refine hBlk ?_
          refine hSeq ?_
          refine hReg (sq 0 (sq 1 (sq 2 (sq 3 (sq 4 sz))))) (by kernel_rfl) ?_
          refine mvI rfl rfl rfl ?_
          refine mvI rfl rfl rfl ?_
          refine add rfl rfl rfl rfl (by omega) ?_
          refine quo rfl rfl rfl rfl (by omega) ?_
          refine asI rfl rfl rfl ?_
          refine rNil ?_
          refine qSeq rfl ?_
          refine hSeq ?_
          refine hReg (sq 0 (sq 1 (sq 2 (sq 3 (sl 4 (sq 5 sz)))))) (by kernel_rfl) ?_
          refine mvI rfl rfl rfl ?_
          refine mvI rfl rfl rfl ?_
          refine mvI rfl rfl rfl ?_
          refine mvI rfl rfl rfl ?_
          refine callP Try.call43 trv rfl rfl (fun w hs => impl_leftBehind_c _ _ _ _ w (by omega) (by omega) (by omega) (by omega) (by omega)) ?_
          refine eql rfl rfl rfl rfl ?_
          refine rNil ?_
          refine qSeq rfl ?_
          refine hIfD rfl (fun c5 => ?_) (fun c5 => ?_)
          · -- c5T
            refine hReg (sq 0 (sq 1 sz)) (by kernel_rfl) ?_
            refine mvI rfl rfl rfl ?_
            refine asI rfl rfl rfl ?_
            refine rNil ?_
            exact qNext rfl (lo, (lo + hi) / 2) (by dsimp only; omega) ⟨⟨by dsimp only; omega, by dsimp only; omega, by dsimp only; omega⟩, c5, hno⟩ ⟨rfl, rfl, rfl, rfl, rfl, trivial⟩ (fun _ h => h)
          · -- c5F
            refine hReg (sq 0 (sq 1 (sq 2 sz))) (by kernel_rfl) ?_
            refine mvI rfl rfl rfl ?_
            refine add rfl rfl rfl rfl (by omega) ?_
            refine asI rfl rfl rfl ?_
            refine rNil ?_
            exact qNext rfl ((lo + hi) / 2 + 1, hi) (by dsimp only; omega) ⟨⟨by dsimp only; omega, by dsimp only; omega, by dsimp only; omega⟩, hz, fun b h1 h2 => Math.left_dn (by omega) (by omega) c5 h1 (by omega)⟩ ⟨rfl, rfl, rfl, rfl, rfl, trivial⟩ (fun _ h => h)
        · -- c4F
          refine hExit rfl ?_
          refine qSeq rfl ?_
          refine hSeq ?_
          refine hReg (sq 0 (sq 1 (sq 2 sz))) (by kernel_rfl) ?_
          refine mvI rfl rfl rfl ?_
          refine asI rfl rfl rfl ?_
          refine asI rfl rfl rfl ?_
          refine rNil ?_
          refine qSeq rfl ?_
          refine hRet ?_
          exact fun w hs => ⟨[.int .i64 _, .int .i64 _], ⟨rfl, ⟨rfl, trivial⟩⟩, ⟨(lo, 0), rfl, .inl ⟨⟨by omega, by omega, by omega⟩, ⟨hb1, by dsimp only; omega, by rw [show lo = hi from by omega]; exact hz, hno⟩, rfl⟩, hs.upd⟩⟩

theorem spec_GeometricBet_c (pot stack streets : Int) (w : World) :
    Calls Try.prog 14 #[.int .i64 pot, .int .i64 stack, .int .i64 streets] w (Ret fun v w' => ∃ x : Int × Int, v = .tuple #[.int .i64 x.1, .int .i64 x.2] ∧ Math.Geo pot stack streets x ∧ Ext w w') := by
  refine fn (M := none_) (rs := [.tmp 6, .tmp 7]) Try.func14 rfl Try.ntmps14 rfl rfl (Sep.start _ _) ?_
  refine hSeq ?_
  refine hReg (sq 0 (sq 1 sz)) (by kernel_rfl) ?_
  refine asI rfl rfl rfl ?_
  refine asI rfl rfl rfl ?_
  refine rNil ?_
  refine qSeq rfl ?_
  refine hSeq ?_
  refine hSeq ?_
  refine hReg (sq 0 (sl 1 (sq 2 (sq 3 (sq 4 (sl 5 (sq 6 (sq 7 (sq 8 (sq 9 (sl 10 (sq 11 (sq 12 sz))))))))))))) (by kernel_rfl) ?_
  refine mvI rfl rfl rfl ?_
  refine callP Try.call40 trv rfl rfl (fun w hs => spec_l01In_c _ _ _ w) ?_
  refine notD rfl rfl rfl ?_
  refine mvB rfl rfl rfl ?_
  refine rBoolD (d := 14) rfl (fun g1 => ?_) (fun g1 => ?_)
  · -- g1T
    refine rSkipQ rfl rfl ?_
    refine rSkipL trv rfl rfl ?_
    refine rSkipQ rfl rfl ?_
    refine pickB rfl rfl rfl rfl ?_
    refine mvB rfl rfl rfl ?_
    refine rSkipQ rfl rfl ?_
    refine rSkipL trv rfl rfl ?_
    refine rSkipQ rfl rfl ?_
    refine pickB rfl rfl rfl rfl ?_
    refine rNil ?_
    refine qSeq rfl ?_
    refine hIfT rfl ?_
    refine hSeq ?_
    refine hReg (sq 0 (sq 1 sz)) (by kernel_rfl) ?_
    refine asI rfl rfl rfl ?_
    refine asI rfl rfl rfl ?_
    refine rNil ?_
    refine qSeq rfl ?_
    refine hRet ?_
    exact fun w hs => ⟨[.int .i64 _, .int .i64 _], ⟨rfl, ⟨rfl, trivial⟩⟩, ⟨(0, 2), rfl, .inr ⟨by unfold Math.inGeo; omega, rfl⟩, hs.upd⟩⟩
  · -- g1F
    refine mvI rfl rfl rfl ?_
    refine callP Try.call40 trv rfl rfl (fun w hs => spec_l01In_c _ _ _ w) ?_
    refine notD rfl rfl rfl ?_
    refine pickB rfl rfl rfl rfl ?_
    refine mvB rfl rfl rfl ?_
    refine rBoolD (d := 19) rfl (fun g2 => ?_) (fun g2 => ?_)
    · -- g2T
      refine rSkipQ rfl rfl ?_
      refine rSkipL trv rfl rfl ?_
      refine rSkipQ rfl rfl ?_
      refine pickB rfl rfl rfl rfl ?_
      refine rNil ?_
      refine qSeq rfl ?_
      refine hIfT rfl ?_
      refine hSeq ?_
      refine hReg (sq 0 (sq 1 sz)) (by kernel_rfl) ?_
      refine asI rfl rfl rfl ?_
      refine asI rfl rfl rfl ?_
      refine rNil ?_
      refine qSeq rfl ?_
      refine hRet ?_
      exact fun w hs => ⟨[.int .i64 _, .int .i64 _], ⟨rfl, ⟨rfl, trivial⟩⟩, ⟨(0, 2), rfl, .inr ⟨by unfold Math.inGeo; omega, rfl⟩, hs.upd⟩⟩
    · -- g2F
      refine mvI rfl rfl rfl ?_
      refine callP Try.call40 trv rfl rfl (fun w hs => spec_l01In_c _ _ _ w) ?_
      refine notD rfl rfl rfl ?_
      refine pickB rfl rfl rfl rfl ?_
      refine rNil ?_
      refine qSeq rfl ?_
      refine hIfD rfl (fun c3 => ?_) (fun c3 => ?_)
      · -- c3T
        refine hSeq ?_
        refine hReg (sq 0 (sq 1 sz)) (by kernel_rfl) ?_
        refine asI rfl rfl rfl ?_
        refine asI rfl rfl rfl ?_
        refine rNil ?_
        refine qSeq rfl ?_
        refine hRet ?_
        exact fun w hs => ⟨[.int .i64 _, .int .i64 _], ⟨rfl, ⟨rfl, trivial⟩⟩, ⟨(0, 2), rfl, .inr ⟨by unfold Math.inGeo; omega, rfl⟩, hs.upd⟩⟩
      · -- c3F
        refine hSkip ?_
        refine qSeq rfl ?_
        refine hSeq ?_
        refine hReg (sq 0 (sq 1 sz)) (by kernel_rfl) ?_
        refine asI rfl rfl rfl ?_
        refine asI rfl rfl rfl ?_
        refine rNil ?_
        refine qSeq rfl ?_
        refine hSeq ?_
        refine hBlk ?_
        refine hLoop (α := Int × Int) (fun x => (-1 ≤ x.1 ∧ x.1 < x.2 ∧ x.2 ≤ 1000000) ∧ Math.left streets.toNat pot stack x.2 = 0 ∧ ∀ b, 0 ≤ b → b ≤ x.1 → Math.left streets.toNat pot stack b ≠ 0) (fun x => (x.2 - x.1).toNat) (fun x => []) (fun x => [(0, .int .i64 pot), (1, .int .i64 stack), (2, .int .i64 streets), (8, .int .i64 x.1), (9, .int .i64 x.2)]) (-1, 1000000) ⟨⟨by decide, by decide, by decide⟩, Math.left_top (by omega) (by omega) (by omega), fun b h1 h2 => by omega⟩ (fun _ h => h) ⟨rfl, rfl, rfl, rfl, rfl, trivial⟩ ?_
        rintro ⟨lo, hi⟩ τ1 ⟨⟨hb1, hb2, hb3⟩, hz, hno⟩
        dsimp only at hb1 hb2 hb3 hz hno
        refine hRe [(0, .int .i64 pot), (1, .int .i64 stack), (2, .int .i64 streets), (8, .int .i64 lo), (9, .int .i64 hi)] [] rfl rfl ?_
        refine hSeq ?_
        refine hSeq ?_
        refine hReg (sq 0 (sq 1 (sq 2 (sq 3 sz)))) (by kernel_rfl) ?_
        refine mvI rfl rfl rfl ?_
        refine mvI rfl rfl rfl ?_
        refine sub rfl rfl rfl rfl (by omega) ?_
        refine gtr rfl rfl rfl rfl ?_
        refine rNil ?_
        refine qSeq rfl ?_
        refine hIfD rfl (fun c4 => ?_) (fun c4 => ?_)
        · -- c4T
          refine hSkip ?_
          refine qSeq rfl ?_
          refine hBlk ?_
          refine hSeq ?_
          refine hReg (sq 0 (sq 1 (sq 2 (sq 3 (sq 4 sz))))) (by kernel_rfl) ?_
          refine mvI rfl rfl rfl ?_
          refine mvI rfl rfl rfl ?_
          refine add rfl rfl rfl rfl (by omega) ?_
          refine quo rfl rfl rfl rfl (by omega) ?_
          refine asI rfl rfl rfl ?_
          refine rNil ?_
          refine qSeq rfl ?_
          refine hSeq ?_
          refine hReg (sq 0 (sq 1 (sq 2 (sq 3 (sl 4 (sq 5 sz)))))) (by kernel_rfl) ?_
          refine mvI rfl rfl rfl ?_
          refine mvI rfl rfl rfl ?_
          refine mvI rfl rfl rfl ?_
          refine mvI rfl rfl rfl ?_
          refine callP Try.call41 trv rfl rfl (fun w hs => spec_l19Left_c _ _ _ _ w (by omega) (by omega) (by omega) (by omega) (by omega)) ?_
          refine eql rfl rfl rfl rfl ?_
          refine rNil ?_
          refine qSeq rfl ?_
          refine hIfD rfl (fun c5 => ?_) (fun c5 => ?_)
          · -- c5T
            refine hReg (sq 0 (sq 1 sz)) (by kernel_rfl) ?_
            refine mvI rfl rfl rfl ?_
            refine asI rfl rfl rfl ?_
            refine rNil ?_
            exact qNext rfl (lo, (lo + hi) / 2) (by dsimp only; omega) ⟨⟨by dsimp only; omega, by dsimp only; omega, by dsimp only; omega⟩, c5, hno⟩ ⟨rfl, rfl, rfl, rfl, rfl, trivial⟩ (fun _ h => h)
          · -- c5F
            refine hReg (sq 0 (sq 1 sz)) (by kernel_rfl) ?_
            refine mvI rfl rfl rfl ?_
            refine asI rfl rfl rfl ?_
            refine rNil ?_
            exact qNext rfl ((lo + hi) / 2, hi) (by dsimp only; omega) ⟨⟨by dsimp only; omega, by dsimp only; omega, by dsimp only; omega⟩, hz, fun b h1 h2 => Math.left_dn (by omega) (by omega) c5 h1 (by omega)⟩ ⟨rfl, rfl, rfl, rfl, rfl, trivial⟩ (fun _ h => h)
        · -- c4F
          refine hExit rfl ?_
          refine qSeq rfl ?_
          refine hSeq ?_
          refine hReg (sq 0 (sq 1 (sq 2 sz))) (by kernel_rfl) ?_
          refine mvI rfl rfl rfl ?_
          refine asI rfl rfl rfl ?_
          refine asI rfl rfl rfl ?_
          refine rNil ?_
          refine qSeq rfl ?_
          refine hRet ?_
          exact fun w hs => ⟨[.int .i64 _, .int .i64 _], ⟨rfl, ⟨rfl, trivial⟩⟩, ⟨(hi, 0), rfl, .inl ⟨⟨by omega, by omega, by omega⟩, ⟨by dsimp only; omega, by dsimp only; omega, hz, fun b h1 h2 => hno b h1 (by omega)⟩, rfl⟩, hs.upd⟩⟩

end Go.Proofs.Ytglhfigmenljoaa
