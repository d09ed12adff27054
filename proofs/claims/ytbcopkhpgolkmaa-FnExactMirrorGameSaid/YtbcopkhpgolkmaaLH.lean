/- Contracts of games with high cards. Their conditions stand in each. -/
import Derived.Test.YtbcopkhpgolkmaaEngC
import Derived.Test.YtbcopkhpgolkmaaTree
import Derived.Test.YtbcopkhpgolkmaaGame
import Derived.Test.YtbcopkhpgolkmaaSets
import Derived.Test.YtbcopkhpgolkmaaHigh
import Derived.Test.YtbcopkhpgolkmaaL1
import Derived.Test.YtbcopkhpgolkmaaL2
import Derived.Test.YtbcopkhpgolkmaaL3
import Derived.Test.YtbcopkhpgolkmaaLC
import Derived.Test.YtbcopkhpgolkmaaRows
namespace Go.Proofs.Ytbcopkhpgolkmaa
open Go Go.RowKit V
set_option linter.unusedVariables false
set_option linter.unusedSimpArgs false
set_option maxRecDepth 100000

theorem bld35   : ∀ w, (Instr.build 35 ([] : List (Nat × Value)).toArray).run Try.prog w = .ok (.agg ([.slice none 0 0, .slice none 0 0, .slice none 0 0] : List Value).toArray) w := by
  intro w; simp [Instr.build, Instr.fill, Try.zeroValue35, Try.runUnderlying35, aggCells, Try.sizeOf25, Try.sizeOf33]

theorem impl_HighCardGame_c (az : Option Addr) (nz : Nat) (cz : Nat) (Hz : Nat → Hd) (z : List Nd) (kk : Int) (ag : Bool) (w : World) (rz : RdR ndK az nz Hz z w) :
    Calls Try.prog 39 #[.agg #[.slice az nz cz], .int .i64 kk, .bool ag] w (Ret fun v w' => ∃ x : Option Addr × Nat × Nat × (Nat → Hd) × List Nd × Option Addr × Nat × Nat × (Nat → Hd) × List (List Int) × Option Addr × Nat × Nat × (Nat → Hd) × List (List Int) × Int, v = .tuple #[.agg #[.slice x.1 x.2.1 x.2.2.1, .slice x.2.2.2.2.2.1 x.2.2.2.2.2.2.1 x.2.2.2.2.2.2.2.1, .slice x.2.2.2.2.2.2.2.2.2.2.1 x.2.2.2.2.2.2.2.2.2.2.2.1 x.2.2.2.2.2.2.2.2.2.2.2.2.1], .int .i64 x.2.2.2.2.2.2.2.2.2.2.2.2.2.2.2] ∧ (x.2.2.2.2.1 = (Math.highAt z kk ag).1.1 ∧ x.2.2.2.2.2.2.2.2.2.1 = (Math.highAt z kk ag).1.2.1 ∧ x.2.2.2.2.2.2.2.2.2.2.2.2.2.2.1 = (Math.highAt z kk ag).1.2.2 ∧ x.2.2.2.2.2.2.2.2.2.2.2.2.2.2.2 = (Math.highAt z kk ag).2) ∧ Sep w none_ [OwnR ndK 84 2 x.1 x.2.1 x.2.2.1 x.2.2.2.1 x.2.2.2.2.1, OwnR maK 82 2 x.2.2.2.2.2.1 x.2.2.2.2.2.2.1 x.2.2.2.2.2.2.2.1 x.2.2.2.2.2.2.2.2.1 x.2.2.2.2.2.2.2.2.2.1, OwnR maK 82 2 x.2.2.2.2.2.2.2.2.2.2.1 x.2.2.2.2.2.2.2.2.2.2.2.1 x.2.2.2.2.2.2.2.2.2.2.2.2.1 x.2.2.2.2.2.2.2.2.2.2.2.2.2.1 x.2.2.2.2.2.2.2.2.2.2.2.2.2.2.1] w') := by
  have kz : Kn w none_ [] (RdR ndK az nz Hz z) := fun w' hs => rz.ext hs.upd
  have lz : z.length = nz := rz.1
  have mz : nz ≤ 9223372036854775807 := rz.2.1
  refine fn (M := none_) (rs := [.cell 6 35, .tmp 7]) Try.func39 rfl Try.ntmps39 rfl rfl (Sep.start _ _) ?_
  refine hSeq ?_
  refine hReg (sl 0 (sl 1 (sq 2 sz))) (by kernel_rfl) ?_
  refine box trv1 rfl rfl rfl rfl (fun bkb1 hbkb1 => ?_)
  refine alc Try.zeroValue35 rfl trv1 rfl rfl (fun bka2 hbka2 => ?_)
  refine asI rfl rfl rfl ?_
  refine rNil ?_
  refine qSeq rfl ?_
  refine hSeq ?_
  refine hSeq ?_
  refine hReg (sl 0 (sl 1 (sq 2 sz))) (by kernel_rfl) ?_
  refine ldAl Try.isAgg33 Try.sizeOf33 (cBs 1 rfl) trv rfl rfl rfl rfl ?_
  refine callP (v := .bool (Math.isTree z)) Try.call85 trv rfl rfl (fun w hs => impl_IsTree_c _ nz cz _ _ w (Kn.drop (k := 2) kz w hs)) ?_
  refine not rfl rfl rfl ?_
  refine rNil ?_
  refine qSeq rfl ?_
  refine hIfN rfl (fun c1 => ?_) (fun c1 => ?_)
  · -- c1T
    replace c1 : (Math.isTree z) = false := c1
    refine hSeq ?_
    refine hReg (sq 0 (sl 1 (sq 2 sz))) (by kernel_rfl) ?_
    refine bld rfl rfl rfl (bld35) ?_
    refine stAl (vs := [.slice none 0 0, .slice none 0 0, .slice none 0 0]) 0 rfl Try.sizeOf35 trv rfl rfl rfl rfl rfl (by simp [Value.oneCell']) rfl ?_
    refine asI rfl rfl rfl ?_
    refine rNil ?_
    refine qSeq rfl ?_
    refine hRet ?_
    refine knP (fun _ h => Sep.nilR ndK 84 2 (fun _ => (none, 0)) h) ?_
    refine knP (fun _ h => Sep.nilR maK 82 2 (fun _ => (none, 0)) h) ?_
    refine knP (fun _ h => Sep.nilR maK 82 2 (fun _ => (none, 0)) h) ?_
    exact fun w hs => ⟨[_, .int .i64 1], ⟨⟨_, rfl, run_load_agg Try.isAgg35 Try.sizeOf35 rfl (cBs 3 rfl w hs)⟩, ⟨rfl, trivial⟩⟩, ⟨(none, 0, 0, (fun _ => (none, 0)), [], none, 0, 0, (fun _ => (none, 0)), [], none, 0, 0, (fun _ => (none, 0)), [], 1), rfl, by rw [Math.highAt_1 c1]; exact ⟨rfl, rfl, rfl, rfl⟩, hs.pick [2, 1, 0]⟩⟩
  · -- c1F
    replace c1 : (Math.isTree z) = true := c1
    refine hSkip ?_
    refine qSeq rfl ?_
    refine hSeq ?_
    refine hSeq ?_
    refine hReg (sq 0 (sl 1 (sq 2 (sq 3 (sq 4 (sq 5 (sq 6 (sq 7 (sq 8 (sq 9 (sq 10 sz))))))))))) (by kernel_rfl) ?_
    refine mvI rfl rfl rfl ?_
    refine callP (v := .bool (decide ((1 : Int) ≤ kk ∧ kk ≤ (6 : Int)))) Try.call64 trv rfl rfl (fun w hs => impl_within_c _ _ _ w ) ?_
    refine notD rfl rfl rfl ?_
    refine mvB rfl rfl rfl ?_
    refine rBoolD (d := 15) rfl (fun g2 => ?_) (fun g2 => ?_)
    · -- g2T
      replace g2 : ¬ ((1 : Int) ≤ kk ∧ kk ≤ (6 : Int)) := g2
      refine rSkipQ rfl rfl ?_
      refine rSkipQ rfl rfl ?_
      refine rSkipQ rfl rfl ?_
      refine rSkipQ rfl rfl ?_
      refine rSkipQ rfl rfl ?_
      refine rSkipQ rfl rfl ?_
      refine pickB rfl rfl rfl rfl ?_
      refine rNil ?_
      refine qSeq rfl ?_
      refine hIfT rfl ?_
      refine hSeq ?_
      refine hReg (sq 0 (sl 1 (sq 2 sz))) (by kernel_rfl) ?_
      refine bld rfl rfl rfl (bld35) ?_
      refine stAl (vs := [.slice none 0 0, .slice none 0 0, .slice none 0 0]) 0 rfl Try.sizeOf35 trv rfl rfl rfl rfl rfl (by simp [Value.oneCell']) rfl ?_
      refine asI rfl rfl rfl ?_
      refine rNil ?_
      refine qSeq rfl ?_
      refine hRet ?_
      refine knP (fun _ h => Sep.nilR ndK 84 2 (fun _ => (none, 0)) h) ?_
      refine knP (fun _ h => Sep.nilR maK 82 2 (fun _ => (none, 0)) h) ?_
      refine knP (fun _ h => Sep.nilR maK 82 2 (fun _ => (none, 0)) h) ?_
      exact fun w hs => ⟨[_, .int .i64 2], ⟨⟨_, rfl, run_load_agg Try.isAgg35 Try.sizeOf35 rfl (cBs 3 rfl w hs)⟩, ⟨rfl, trivial⟩⟩, ⟨(none, 0, 0, (fun _ => (none, 0)), [], none, 0, 0, (fun _ => (none, 0)), [], none, 0, 0, (fun _ => (none, 0)), [], 2), rfl, by rw [Math.highAt_2 c1 (.inl g2)]; exact ⟨rfl, rfl, rfl, rfl⟩, hs.pick [2, 1, 0]⟩⟩
    · -- g2F
      replace g2 : ¬ (¬ ((1 : Int) ≤ kk ∧ kk ≤ (6 : Int))) := g2
      refine mvI rfl rfl rfl ?_
      refine eql rfl rfl rfl rfl ?_
      refine mvB rfl rfl rfl ?_
      refine rBoolD (d := 18) rfl (fun g3 => ?_) (fun g3 => ?_)
      · -- g3T
        replace g3 : kk = 1 := g3
        refine mvB rfl rfl rfl ?_
        refine not rfl rfl rfl ?_
        refine pickB rfl rfl rfl rfl ?_
        refine pickB rfl rfl rfl rfl ?_
        refine rNil ?_
        refine qSeq rfl ?_
        refine hIfN rfl (fun c4 => ?_) (fun c4 => ?_)
        · -- c4T
          replace c4 : ag = false := c4
          refine hSeq ?_
          refine hReg (sq 0 (sl 1 (sq 2 sz))) (by kernel_rfl) ?_
          refine bld rfl rfl rfl (bld35) ?_
          refine stAl (vs := [.slice none 0 0, .slice none 0 0, .slice none 0 0]) 0 rfl Try.sizeOf35 trv rfl rfl rfl rfl rfl (by simp [Value.oneCell']) rfl ?_
          refine asI rfl rfl rfl ?_
          refine rNil ?_
          refine qSeq rfl ?_
          refine hRet ?_
          refine knP (fun _ h => Sep.nilR ndK 84 2 (fun _ => (none, 0)) h) ?_
          refine knP (fun _ h => Sep.nilR maK 82 2 (fun _ => (none, 0)) h) ?_
          refine knP (fun _ h => Sep.nilR maK 82 2 (fun _ => (none, 0)) h) ?_
          exact fun w hs => ⟨[_, .int .i64 2], ⟨⟨_, rfl, run_load_agg Try.isAgg35 Try.sizeOf35 rfl (cBs 3 rfl w hs)⟩, ⟨rfl, trivial⟩⟩, ⟨(none, 0, 0, (fun _ => (none, 0)), [], none, 0, 0, (fun _ => (none, 0)), [], none, 0, 0, (fun _ => (none, 0)), [], 2), rfl, by rw [Math.highAt_2 c1 (.inr ⟨g3, c4⟩)]; exact ⟨rfl, rfl, rfl, rfl⟩, hs.pick [2, 1, 0]⟩⟩
        · -- c4F
          replace c4 : ag = true := c4
          refine hSkip ?_
          refine qSeq rfl ?_
          refine hSeq ?_
          refine hReg (sl 0 (sq 1 (sq 2 (sl 3 (sl 4 (sq 5 sz)))))) (by kernel_rfl) ?_
          refine ldAl Try.isAgg33 Try.sizeOf33 (cBs 1 rfl) trv rfl rfl rfl rfl ?_
          refine mvI rfl rfl rfl ?_
          refine mvB rfl rfl rfl ?_
          refine callS Try.call86 trv1 rfl rfl (fun w hs => impl_highCardGame_c _ nz cz _ _ _ _ w (Kn.drop (k := 2) kz w hs) (by assumption) (by omega)) ?_
          rintro ⟨ay1, ny1, cy1, Hy1, y1, ayw1, nyw1, cyw1, Hyw1, yw1, ayv1, nyv1, cyv1, Hyv1, yv1⟩ ⟨hr1a, hr1b, hr1c⟩
          dsimp only at hr1a hr1b hr1c
          subst y1
          subst yw1
          subst yv1
          refine rKnow (fun w hs => (show OwnR ndK 84 2 ay1 ny1 cy1 Hy1 z w from hs.at_ 0 rfl).1) (fun lenn12 => ?_)
          refine rKnow (fun w hs => (show OwnR maK 82 2 ayw1 nyw1 cyw1 Hyw1 (Math.hcW kk.toNat ag kk.toNat) w from hs.at_ 1 rfl).1) (fun lenn13 => ?_)
          refine rKnow (fun w hs => (show OwnR maK 82 2 ayv1 nyv1 cyv1 Hyv1 (Math.hcV kk.toNat kk.toNat) w from hs.at_ 2 rfl).1) (fun lenn14 => ?_)
          refine stAl (vs := [.slice ay1 ny1 cy1, .slice ayw1 nyw1 cyw1, .slice ayv1 nyv1 cyv1]) 3 rfl Try.sizeOf35 trv rfl rfl rfl rfl rfl (by simp [Value.oneCell']) rfl ?_
          refine asI rfl rfl rfl ?_
          refine rNil ?_
          refine qSeq rfl ?_
          refine hRet ?_
          exact fun w hs => ⟨[_, .int .i64 0], ⟨⟨_, rfl, run_load_agg Try.isAgg35 Try.sizeOf35 rfl (cBs 3 rfl w hs)⟩, ⟨rfl, trivial⟩⟩, ⟨(ay1, ny1, cy1, Hy1, z, ayw1, nyw1, cyw1, Hyw1, (Math.hcW kk.toNat ag kk.toNat), ayv1, nyv1, cyv1, Hyv1, (Math.hcV kk.toNat kk.toNat), 0), rfl, by rw [Math.highAt_0 c1 (Classical.not_not.1 g2) (.inr c4)]; exact ⟨rfl, rfl, rfl, rfl⟩, hs.pick [0, 0, 0]⟩⟩
      · -- g3F
        replace g3 : ¬ (kk = 1) := g3
        refine rSkipQ rfl rfl ?_
        refine rSkipQ rfl rfl ?_
        refine pickB rfl rfl rfl rfl ?_
        refine pickB rfl rfl rfl rfl ?_
        refine rNil ?_
        refine qSeq rfl ?_
        refine hIfF rfl ?_
        refine hSkip ?_
        refine qSeq rfl ?_
        refine hSeq ?_
        refine hReg (sl 0 (sq 1 (sq 2 (sl 3 (sl 4 (sq 5 sz)))))) (by kernel_rfl) ?_
        refine ldAl Try.isAgg33 Try.sizeOf33 (cBs 1 rfl) trv rfl rfl rfl rfl ?_
        refine mvI rfl rfl rfl ?_
        refine mvB rfl rfl rfl ?_
        refine callS Try.call86 trv1 rfl rfl (fun w hs => impl_highCardGame_c _ nz cz _ _ _ _ w (Kn.drop (k := 2) kz w hs) (by assumption) (by omega)) ?_
        rintro ⟨ay2, ny2, cy2, Hy2, y2, ayw2, nyw2, cyw2, Hyw2, yw2, ayv2, nyv2, cyv2, Hyv2, yv2⟩ ⟨hr2a, hr2b, hr2c⟩
        dsimp only at hr2a hr2b hr2c
        subst y2
        subst yw2
        subst yv2
        refine rKnow (fun w hs => (show OwnR ndK 84 2 ay2 ny2 cy2 Hy2 z w from hs.at_ 0 rfl).1) (fun lenn15 => ?_)
        refine rKnow (fun w hs => (show OwnR maK 82 2 ayw2 nyw2 cyw2 Hyw2 (Math.hcW kk.toNat ag kk.toNat) w from hs.at_ 1 rfl).1) (fun lenn16 => ?_)
        refine rKnow (fun w hs => (show OwnR maK 82 2 ayv2 nyv2 cyv2 Hyv2 (Math.hcV kk.toNat kk.toNat) w from hs.at_ 2 rfl).1) (fun lenn17 => ?_)
        refine stAl (vs := [.slice ay2 ny2 cy2, .slice ayw2 nyw2 cyw2, .slice ayv2 nyv2 cyv2]) 3 rfl Try.sizeOf35 trv rfl rfl rfl rfl rfl (by simp [Value.oneCell']) rfl ?_
        refine asI rfl rfl rfl ?_
        refine rNil ?_
        refine qSeq rfl ?_
        refine hRet ?_
        exact fun w hs => ⟨[_, .int .i64 0], ⟨⟨_, rfl, run_load_agg Try.isAgg35 Try.sizeOf35 rfl (cBs 3 rfl w hs)⟩, ⟨rfl, trivial⟩⟩, ⟨(ay2, ny2, cy2, Hy2, z, ayw2, nyw2, cyw2, Hyw2, (Math.hcW kk.toNat ag kk.toNat), ayv2, nyv2, cyv2, Hyv2, (Math.hcV kk.toNat kk.toNat), 0), rfl, by rw [Math.highAt_0 c1 (Classical.not_not.1 g2) (.inl g3)]; exact ⟨rfl, rfl, rfl, rfl⟩, hs.pick [0, 0, 0]⟩⟩

theorem spec_HighCardGame_c (az : Option Addr) (nz : Nat) (cz : Nat) (Hz : Nat → Hd) (z : List Nd) (kk : Int) (ag : Bool) (w : World) (rz : RdR ndK az nz Hz z w) :
    Calls Try.prog 37 #[.agg #[.slice az nz cz], .int .i64 kk, .bool ag] w (Ret fun v w' => ∃ x : Option Addr × Nat × Nat × (Nat → Hd) × List Nd × Option Addr × Nat × Nat × (Nat → Hd) × List (List Int) × Option Addr × Nat × Nat × (Nat → Hd) × List (List Int) × Int, v = .tuple #[.agg #[.slice x.1 x.2.1 x.2.2.1, .slice x.2.2.2.2.2.1 x.2.2.2.2.2.2.1 x.2.2.2.2.2.2.2.1, .slice x.2.2.2.2.2.2.2.2.2.2.1 x.2.2.2.2.2.2.2.2.2.2.2.1 x.2.2.2.2.2.2.2.2.2.2.2.2.1], .int .i64 x.2.2.2.2.2.2.2.2.2.2.2.2.2.2.2] ∧ (x.2.2.2.2.1 = (Math.highAt z kk ag).1.1 ∧ x.2.2.2.2.2.2.2.2.2.1 = (Math.highAt z kk ag).1.2.1 ∧ x.2.2.2.2.2.2.2.2.2.2.2.2.2.2.1 = (Math.highAt z kk ag).1.2.2 ∧ x.2.2.2.2.2.2.2.2.2.2.2.2.2.2.2 = (Math.highAt z kk ag).2) ∧ Sep w none_ [OwnR ndK 84 2 x.1 x.2.1 x.2.2.1 x.2.2.2.1 x.2.2.2.2.1, OwnR maK 82 2 x.2.2.2.2.2.1 x.2.2.2.2.2.2.1 x.2.2.2.2.2.2.2.1 x.2.2.2.2.2.2.2.2.1 x.2.2.2.2.2.2.2.2.2.1, OwnR maK 82 2 x.2.2.2.2.2.2.2.2.2.2.1 x.2.2.2.2.2.2.2.2.2.2.2.1 x.2.2.2.2.2.2.2.2.2.2.2.2.1 x.2.2.2.2.2.2.2.2.2.2.2.2.2.1 x.2.2.2.2.2.2.2.2.2.2.2.2.2.2.1] w') := by
  have kz : Kn w none_ [] (RdR ndK az nz Hz z) := fun w' hs => rz.ext hs.upd
  have lz : z.length = nz := rz.1
  have mz : nz ≤ 9223372036854775807 := rz.2.1
  refine fn (M := none_) (rs := [.cell 6 35, .tmp 7]) Try.func37 rfl Try.ntmps37 rfl rfl (Sep.start _ _) ?_
  refine hSeq ?_
  refine hReg (sl 0 (sl 1 (sq 2 sz))) (by kernel_rfl) ?_
  refine box trv1 rfl rfl rfl rfl (fun bkb1 hbkb1 => ?_)
  refine alc Try.zeroValue35 rfl trv1 rfl rfl (fun bka2 hbka2 => ?_)
  refine asI rfl rfl rfl ?_
  refine rNil ?_
  refine qSeq rfl ?_
  refine hSeq ?_
  refine hSeq ?_
  refine hReg (sl 0 (sl 1 (sq 2 sz))) (by kernel_rfl) ?_
  refine ldAl Try.isAgg33 Try.sizeOf33 (cBs 1 rfl) trv rfl rfl rfl rfl ?_
  refine callP (v := .bool (Math.isTree z)) Try.call82 trv rfl rfl (fun w hs => spec_IsTree_c _ nz cz _ _ w (Kn.drop (k := 2) kz w hs)) ?_
  refine not rfl rfl rfl ?_
  refine rNil ?_
  refine qSeq rfl ?_
  refine hIfN rfl (fun c1 => ?_) (fun c1 => ?_)
  · -- c1T
    replace c1 : (Math.isTree z) = false := c1
    refine hSeq ?_
    refine hReg (sq 0 (sl 1 (sq 2 sz))) (by kernel_rfl) ?_
    refine bld rfl rfl rfl (bld35) ?_
    refine stAl (vs := [.slice none 0 0, .slice none 0 0, .slice none 0 0]) 0 rfl Try.sizeOf35 trv rfl rfl rfl rfl rfl (by simp [Value.oneCell']) rfl ?_
    refine asI rfl rfl rfl ?_
    refine rNil ?_
    refine qSeq rfl ?_
    refine hRet ?_
    refine knP (fun _ h => Sep.nilR ndK 84 2 (fun _ => (none, 0)) h) ?_
    refine knP (fun _ h => Sep.nilR maK 82 2 (fun _ => (none, 0)) h) ?_
    refine knP (fun _ h => Sep.nilR maK 82 2 (fun _ => (none, 0)) h) ?_
    exact fun w hs => ⟨[_, .int .i64 1], ⟨⟨_, rfl, run_load_agg Try.isAgg35 Try.sizeOf35 rfl (cBs 3 rfl w hs)⟩, ⟨rfl, trivial⟩⟩, ⟨(none, 0, 0, (fun _ => (none, 0)), [], none, 0, 0, (fun _ => (none, 0)), [], none, 0, 0, (fun _ => (none, 0)), [], 1), rfl, by rw [Math.highAt_1 c1]; exact ⟨rfl, rfl, rfl, rfl⟩, hs.pick [2, 1, 0]⟩⟩
  · -- c1F
    replace c1 : (Math.isTree z) = true := c1
    refine hSkip ?_
    refine qSeq rfl ?_
    refine hSeq ?_
    refine hSeq ?_
    refine hReg (sq 0 (sl 1 (sq 2 (sq 3 (sq 4 (sq 5 (sq 6 (sq 7 (sq 8 (sq 9 (sq 10 sz))))))))))) (by kernel_rfl) ?_
    refine mvI rfl rfl rfl ?_
    refine callP (v := .bool (decide ((1 : Int) ≤ kk ∧ kk ≤ (6 : Int)))) Try.call59 trv rfl rfl (fun w hs => spec_l01In_c _ _ _ w ) ?_
    refine notD rfl rfl rfl ?_
    refine mvB rfl rfl rfl ?_
    refine rBoolD (d := 15) rfl (fun g2 => ?_) (fun g2 => ?_)
    · -- g2T
      replace g2 : ¬ ((1 : Int) ≤ kk ∧ kk ≤ (6 : Int)) := g2
      refine rSkipQ rfl rfl ?_
      refine rSkipQ rfl rfl ?_
      refine rSkipQ rfl rfl ?_
      refine rSkipQ rfl rfl ?_
      refine rSkipQ rfl rfl ?_
      refine rSkipQ rfl rfl ?_
      refine pickB rfl rfl rfl rfl ?_
      refine rNil ?_
      refine qSeq rfl ?_
      refine hIfT rfl ?_
      refine hSeq ?_
      refine hReg (sq 0 (sl 1 (sq 2 sz))) (by kernel_rfl) ?_
      refine bld rfl rfl rfl (bld35) ?_
      refine stAl (vs := [.slice none 0 0, .slice none 0 0, .slice none 0 0]) 0 rfl Try.sizeOf35 trv rfl rfl rfl rfl rfl (by simp [Value.oneCell']) rfl ?_
      refine asI rfl rfl rfl ?_
      refine rNil ?_
      refine qSeq rfl ?_
      refine hRet ?_
      refine knP (fun _ h => Sep.nilR ndK 84 2 (fun _ => (none, 0)) h) ?_
      refine knP (fun _ h => Sep.nilR maK 82 2 (fun _ => (none, 0)) h) ?_
      refine knP (fun _ h => Sep.nilR maK 82 2 (fun _ => (none, 0)) h) ?_
      exact fun w hs => ⟨[_, .int .i64 2], ⟨⟨_, rfl, run_load_agg Try.isAgg35 Try.sizeOf35 rfl (cBs 3 rfl w hs)⟩, ⟨rfl, trivial⟩⟩, ⟨(none, 0, 0, (fun _ => (none, 0)), [], none, 0, 0, (fun _ => (none, 0)), [], none, 0, 0, (fun _ => (none, 0)), [], 2), rfl, by rw [Math.highAt_2 c1 (.inl g2)]; exact ⟨rfl, rfl, rfl, rfl⟩, hs.pick [2, 1, 0]⟩⟩
    · -- g2F
      replace g2 : ¬ (¬ ((1 : Int) ≤ kk ∧ kk ≤ (6 : Int))) := g2
      refine mvI rfl rfl rfl ?_
      refine eql rfl rfl rfl rfl ?_
      refine mvB rfl rfl rfl ?_
      refine rBoolD (d := 18) rfl (fun g3 => ?_) (fun g3 => ?_)
      · -- g3T
        replace g3 : kk = 1 := g3
        refine mvB rfl rfl rfl ?_
        refine not rfl rfl rfl ?_
        refine pickB rfl rfl rfl rfl ?_
        refine pickB rfl rfl rfl rfl ?_
        refine rNil ?_
        refine qSeq rfl ?_
        refine hIfN rfl (fun c4 => ?_) (fun c4 => ?_)
        · -- c4T
          replace c4 : ag = false := c4
          refine hSeq ?_
          refine hReg (sq 0 (sl 1 (sq 2 sz))) (by kernel_rfl) ?_
          refine bld rfl rfl rfl (bld35) ?_
          refine stAl (vs := [.slice none 0 0, .slice none 0 0, .slice none 0 0]) 0 rfl Try.sizeOf35 trv rfl rfl rfl rfl rfl (by simp [Value.oneCell']) rfl ?_
          refine asI rfl rfl rfl ?_
          refine rNil ?_
          refine qSeq rfl ?_
          refine hRet ?_
          refine knP (fun _ h => Sep.nilR ndK 84 2 (fun _ => (none, 0)) h) ?_
          refine knP (fun _ h => Sep.nilR maK 82 2 (fun _ => (none, 0)) h) ?_
          refine knP (fun _ h => Sep.nilR maK 82 2 (fun _ => (none, 0)) h) ?_
          exact fun w hs => ⟨[_, .int .i64 2], ⟨⟨_, rfl, run_load_agg Try.isAgg35 Try.sizeOf35 rfl (cBs 3 rfl w hs)⟩, ⟨rfl, trivial⟩⟩, ⟨(none, 0, 0, (fun _ => (none, 0)), [], none, 0, 0, (fun _ => (none, 0)), [], none, 0, 0, (fun _ => (none, 0)), [], 2), rfl, by rw [Math.highAt_2 c1 (.inr ⟨g3, c4⟩)]; exact ⟨rfl, rfl, rfl, rfl⟩, hs.pick [2, 1, 0]⟩⟩
        · -- c4F
          replace c4 : ag = true := c4
          refine hSkip ?_
          refine qSeq rfl ?_
          refine hSeq ?_
          refine hReg (sl 0 (sq 1 (sq 2 (sl 3 (sl 4 (sq 5 sz)))))) (by kernel_rfl) ?_
          refine ldAl Try.isAgg33 Try.sizeOf33 (cBs 1 rfl) trv rfl rfl rfl rfl ?_
          refine mvI rfl rfl rfl ?_
          refine mvB rfl rfl rfl ?_
          refine callS Try.call83 trv1 rfl rfl (fun w hs => spec_l21HighCard_c _ nz cz _ _ _ _ w (Kn.drop (k := 2) kz w hs) (by assumption) (by omega)) ?_
          rintro ⟨ay1, ny1, cy1, Hy1, y1, ayw1, nyw1, cyw1, Hyw1, yw1, ayv1, nyv1, cyv1, Hyv1, yv1⟩ ⟨hr1a, hr1b, hr1c⟩
          dsimp only at hr1a hr1b hr1c
          subst y1
          subst yw1
          subst yv1
          refine rKnow (fun w hs => (show OwnR ndK 84 2 ay1 ny1 cy1 Hy1 z w from hs.at_ 0 rfl).1) (fun lenn12 => ?_)
          refine rKnow (fun w hs => (show OwnR maK 82 2 ayw1 nyw1 cyw1 Hyw1 (Math.hcW kk.toNat ag kk.toNat) w from hs.at_ 1 rfl).1) (fun lenn13 => ?_)
          refine rKnow (fun w hs => (show OwnR maK 82 2 ayv1 nyv1 cyv1 Hyv1 (Math.hcV kk.toNat kk.toNat) w from hs.at_ 2 rfl).1) (fun lenn14 => ?_)
          refine stAl (vs := [.slice ay1 ny1 cy1, .slice ayw1 nyw1 cyw1, .slice ayv1 nyv1 cyv1]) 3 rfl Try.sizeOf35 trv rfl rfl rfl rfl rfl (by simp [Value.oneCell']) rfl ?_
          refine asI rfl rfl rfl ?_
          refine rNil ?_
          refine qSeq rfl ?_
          refine hRet ?_
          exact fun w hs => ⟨[_, .int .i64 0], ⟨⟨_, rfl, run_load_agg Try.isAgg35 Try.sizeOf35 rfl (cBs 3 rfl w hs)⟩, ⟨rfl, trivial⟩⟩, ⟨(ay1, ny1, cy1, Hy1, z, ayw1, nyw1, cyw1, Hyw1, (Math.hcW kk.toNat ag kk.toNat), ayv1, nyv1, cyv1, Hyv1, (Math.hcV kk.toNat kk.toNat), 0), rfl, by rw [Math.highAt_0 c1 (Classical.not_not.1 g2) (.inr c4)]; exact ⟨rfl, rfl, rfl, rfl⟩, hs.pick [0, 0, 0]⟩⟩
      · -- g3F
        replace g3 : ¬ (kk = 1) := g3
        refine rSkipQ rfl rfl ?_
        refine rSkipQ rfl rfl ?_
        refine pickB rfl rfl rfl rfl ?_
        refine pickB rfl rfl rfl rfl ?_
        refine rNil ?_
        refine qSeq rfl ?_
        refine hIfF rfl ?_
        refine hSkip ?_
        refine qSeq rfl ?_
        refine hSeq ?_
        refine hReg (sl 0 (sq 1 (sq 2 (sl 3 (sl 4 (sq 5 sz)))))) (by kernel_rfl) ?_
        refine ldAl Try.isAgg33 Try.sizeOf33 (cBs 1 rfl) trv rfl rfl rfl rfl ?_
        refine mvI rfl rfl rfl ?_
        refine mvB rfl rfl rfl ?_
        refine callS Try.call83 trv1 rfl rfl (fun w hs => spec_l21HighCard_c _ nz cz _ _ _ _ w (Kn.drop (k := 2) kz w hs) (by assumption) (by omega)) ?_
        rintro ⟨ay2, ny2, cy2, Hy2, y2, ayw2, nyw2, cyw2, Hyw2, yw2, ayv2, nyv2, cyv2, Hyv2, yv2⟩ ⟨hr2a, hr2b, hr2c⟩
        dsimp only at hr2a hr2b hr2c
        subst y2
        subst yw2
        subst yv2
        refine rKnow (fun w hs => (show OwnR ndK 84 2 ay2 ny2 cy2 Hy2 z w from hs.at_ 0 rfl).1) (fun lenn15 => ?_)
        refine rKnow (fun w hs => (show OwnR maK 82 2 ayw2 nyw2 cyw2 Hyw2 (Math.hcW kk.toNat ag kk.toNat) w from hs.at_ 1 rfl).1) (fun lenn16 => ?_)
        refine rKnow (fun w hs => (show OwnR maK 82 2 ayv2 nyv2 cyv2 Hyv2 (Math.hcV kk.toNat kk.toNat) w from hs.at_ 2 rfl).1) (fun lenn17 => ?_)
        refine stAl (vs := [.slice ay2 ny2 cy2, .slice ayw2 nyw2 cyw2, .slice ayv2 nyv2 cyv2]) 3 rfl Try.sizeOf35 trv rfl rfl rfl rfl rfl (by simp [Value.oneCell']) rfl ?_
        refine asI rfl rfl rfl ?_
        refine rNil ?_
        refine qSeq rfl ?_
        refine hRet ?_
        exact fun w hs => ⟨[_, .int .i64 0], ⟨⟨_, rfl, run_load_agg Try.isAgg35 Try.sizeOf35 rfl (cBs 3 rfl w hs)⟩, ⟨rfl, trivial⟩⟩, ⟨(ay2, ny2, cy2, Hy2, z, ayw2, nyw2, cyw2, Hyw2, (Math.hcW kk.toNat ag kk.toNat), ayv2, nyv2, cyv2, Hyv2, (Math.hcV kk.toNat kk.toNat), 0), rfl, by rw [Math.highAt_0 c1 (Classical.not_not.1 g2) (.inl g3)]; exact ⟨rfl, rfl, rfl, rfl⟩, hs.pick [0, 0, 0]⟩⟩

end Go.Proofs.Ytbcopkhpgolkmaa
