/- Contracts of games with high cards. Their conditions stand in each. -/
import Derived.Test.YtjengglpbdgmnaaEngCCo
import Derived.Test.YtjengglpbdgmnaaTreeCo
import Derived.Test.YtjengglpbdgmnaaGameCo
import Derived.Test.YtjengglpbdgmnaaSetsCo
import Derived.Test.YtjengglpbdgmnaaHighCo
import Derived.Test.YtjengglpbdgmnaaL1Co
import Derived.Test.YtjengglpbdgmnaaL2Co
import Derived.Test.YtjengglpbdgmnaaL3Co
import Derived.Test.YtjengglpbdgmnaaLCCo
import Derived.Test.YtjengglpbdgmnaaRows
namespace Go.Proofs.Ytjengglpbdgmnaa
open Go Go.RowKit V
set_option linter.unusedVariables false
set_option linter.unusedSimpArgs false
set_option maxRecDepth 100000
theorem bld43   : ∀ w, (Instr.build 43 ([] : List (Nat × Value)).toArray).run Try.prog w = .ok (.agg ([.slice none 0 0, .slice none 0 0, .slice none 0 0] : List Value).toArray) w := by
 intro w; simp [Instr.build, Instr.fill, Try.zeroValue43, Try.runUnderlying43, aggCells, Try.sizeOf26, Try.sizeOf41]
theorem impl_HighCardGame_c (az : Option Addr) (nz : Nat) (cz : Nat) (Hz : Nat → Hd) (z : List Nd) (kk : Int) (ag : Bool) (w : World) (rz : RdR ndK az nz Hz z w) :
  Calls Try.prog 55 #[.agg #[.slice az nz cz], .int .i64 kk, .bool ag] w (Ret fun v w' => ∃ x : Option Addr × Nat × Nat × (Nat → Hd) × List Nd × Option Addr × Nat × Nat × (Nat → Hd) × List (List Int) × Option Addr × Nat × Nat × (Nat → Hd) × List (List Int) × Int, v = .tuple #[.agg #[.slice x.1 x.2.1 x.2.2.1, .slice x.2.2.2.2.2.1 x.2.2.2.2.2.2.1 x.2.2.2.2.2.2.2.1, .slice x.2.2.2.2.2.2.2.2.2.2.1 x.2.2.2.2.2.2.2.2.2.2.2.1 x.2.2.2.2.2.2.2.2.2.2.2.2.1], .int .i64 x.2.2.2.2.2.2.2.2.2.2.2.2.2.2.2] ∧ (x.2.2.2.2.1 = (Math.highAt z kk ag).1.1 ∧ x.2.2.2.2.2.2.2.2.2.1 = (Math.highAt z kk ag).1.2.1 ∧ x.2.2.2.2.2.2.2.2.2.2.2.2.2.2.1 = (Math.highAt z kk ag).1.2.2 ∧ x.2.2.2.2.2.2.2.2.2.2.2.2.2.2.2 = (Math.highAt z kk ag).2) ∧ Sep w none_ [OwnR ndK 88 2 x.1 x.2.1 x.2.2.1 x.2.2.2.1 x.2.2.2.2.1, OwnR maK 28 2 x.2.2.2.2.2.1 x.2.2.2.2.2.2.1 x.2.2.2.2.2.2.2.1 x.2.2.2.2.2.2.2.2.1 x.2.2.2.2.2.2.2.2.2.1, OwnR maK 28 2 x.2.2.2.2.2.2.2.2.2.2.1 x.2.2.2.2.2.2.2.2.2.2.2.1 x.2.2.2.2.2.2.2.2.2.2.2.2.1 x.2.2.2.2.2.2.2.2.2.2.2.2.2.1 x.2.2.2.2.2.2.2.2.2.2.2.2.2.2.1] w') := by
 have kz : Kn w none_ [] (RdR ndK az nz Hz z) := fun w' hs => rz.ext hs.upd
 have lz : z.length = nz := rz.1
 have mz : nz ≤ 9223372036854775807 := rz.2.1
 refine fn (M := none_) (rs := [.cell 6 43, .tmp 7]) Try.func55 rfl Try.ntmps55 rfl rfl (Sep.start _ _) ?_
 refine hSeq ?_
 refine hReg (sl 0 (sl 1 (sq 2 sz))) (by kernel_rfl) ?_
 refine box trv1 rfl rfl rfl rfl (fun bkb1 hbkb1 => ?_)
 refine alc Try.zeroValue43 rfl trv1 rfl rfl (fun bka2 hbka2 => ?_)
 refine asI rfl rfl rfl ?_
 refine rNil ?_
 refine qSeq rfl ?_
 refine hSeq ?_
 refine hSeq ?_
 refine hReg (sl 0 (sl 1 (sq 2 sz))) (by kernel_rfl) ?_
 refine ldAl Try.isAgg26 Try.sizeOf26 (cBs 1 rfl) trv rfl rfl rfl rfl ?_
 refine callP (v := .bool (Math.isTree z)) Try.call20 trv rfl rfl (fun w hs => impl_IsTree_c _ nz cz _ _ w (Kn.drop (k := 2) kz w hs)) ?_
 refine not rfl rfl rfl ?_
 refine rNil ?_
 refine qSeq rfl ?_
 refine hIfN rfl (fun c1 => ?_) (fun c1 => ?_)
 ·
  replace c1 : (Math.isTree z) = false := c1
  refine hSeq ?_
  refine hReg (sq 0 (sl 1 (sq 2 sz))) (by kernel_rfl) ?_
  refine bld rfl rfl rfl (bld43) ?_
  refine stAl (vs := [.slice none 0 0, .slice none 0 0, .slice none 0 0]) 0 rfl Try.sizeOf43 trv rfl rfl rfl rfl rfl (by simp [Value.oneCell']) rfl ?_
  refine asI rfl rfl rfl ?_
  refine rNil ?_
  refine qSeq rfl ?_
  refine hRet ?_
  refine knP (fun _ h => Sep.nilR ndK 88 2 (fun _ => (none, 0)) h) ?_
  refine knP (fun _ h => Sep.nilR maK 28 2 (fun _ => (none, 0)) h) ?_
  refine knP (fun _ h => Sep.nilR maK 28 2 (fun _ => (none, 0)) h) ?_
  exact fun w hs => ⟨[_, .int .i64 1], ⟨⟨_, rfl, run_load_agg Try.isAgg43 Try.sizeOf43 rfl (cBs 3 rfl w hs)⟩, ⟨rfl, trivial⟩⟩, ⟨(none, 0, 0, (fun _ => (none, 0)), [], none, 0, 0, (fun _ => (none, 0)), [], none, 0, 0, (fun _ => (none, 0)), [], 1), rfl, by rw [Math.highAt_1 c1]; exact ⟨rfl, rfl, rfl, rfl⟩, hs.pick [2, 1, 0]⟩⟩
 ·
  replace c1 : (Math.isTree z) = true := c1
  refine hSkip ?_
  refine qSeq rfl ?_
  refine hSeq ?_
  refine hSeq ?_
  refine hReg (sq 0 (sl 1 (sq 2 (sq 3 (sq 4 (sq 5 (sq 6 (sq 7 (sq 8 (sq 9 (sq 10 sz))))))))))) (by kernel_rfl) ?_
  refine mvI rfl rfl rfl ?_
  refine callP (v := .bool (decide ((1 : Int) ≤ kk ∧ kk ≤ (6 : Int)))) Try.call96 trv rfl rfl (fun w hs => impl_within_c _ _ _ w ) ?_
  refine notD rfl rfl rfl ?_
  refine mvB rfl rfl rfl ?_
  refine rBoolD (d := 15) rfl (fun g2 => ?_) (fun g2 => ?_)
  ·
   replace g2 : ¬ ((1 : Int) ≤ kk ∧ kk ≤ (6 : Int)) := g2
   refine rSkipQ rfl rfl ?_
   refine rSkipQ rfl rfl ?_
   refine rSkipQ rfl rfl ?_
   refine rSkipQ rfl rfl ?_
   refine rSkipQ rfl rfl ?_
   refine rSkipQ rfl rfl ?_
   refine pickB rfl rfl rfl rfl ?_
   refine rNil ?_
   refine qSeq rfl ?_
   refine hIfT rfl ?_
   refine hSeq ?_
   refine hReg (sq 0 (sl 1 (sq 2 sz))) (by kernel_rfl) ?_
   refine bld rfl rfl rfl (bld43) ?_
   refine stAl (vs := [.slice none 0 0, .slice none 0 0, .slice none 0 0]) 0 rfl Try.sizeOf43 trv rfl rfl rfl rfl rfl (by simp [Value.oneCell']) rfl ?_
   refine asI rfl rfl rfl ?_
   refine rNil ?_
   refine qSeq rfl ?_
   refine hRet ?_
   refine knP (fun _ h => Sep.nilR ndK 88 2 (fun _ => (none, 0)) h) ?_
   refine knP (fun _ h => Sep.nilR maK 28 2 (fun _ => (none, 0)) h) ?_
   refine knP (fun _ h => Sep.nilR maK 28 2 (fun _ => (none, 0)) h) ?_
   exact fun w hs => ⟨[_, .int .i64 2], ⟨⟨_, rfl, run_load_agg Try.isAgg43 Try.sizeOf43 rfl (cBs 3 rfl w hs)⟩, ⟨rfl, trivial⟩⟩, ⟨(none, 0, 0, (fun _ => (none, 0)), [], none, 0, 0, (fun _ => (none, 0)), [], none, 0, 0, (fun _ => (none, 0)), [], 2), rfl, by rw [Math.highAt_2 c1 (.inl g2)]; exact ⟨rfl, rfl, rfl, rfl⟩, hs.pick [2, 1, 0]⟩⟩
  ·
   replace g2 : ¬ (¬ ((1 : Int) ≤ kk ∧ kk ≤ (6 : Int))) := g2
   refine mvI rfl rfl rfl ?_
   refine eql rfl rfl rfl rfl ?_
   refine mvB rfl rfl rfl ?_
   refine rBoolD (d := 18) rfl (fun g3 => ?_) (fun g3 => ?_)
   ·
    replace g3 : kk = 1 := g3
    refine mvB rfl rfl rfl ?_
    refine not rfl rfl rfl ?_
    refine pickB rfl rfl rfl rfl ?_
    refine pickB rfl rfl rfl rfl ?_
    refine rNil ?_
    refine qSeq rfl ?_
    refine hIfN rfl (fun c4 => ?_) (fun c4 => ?_)
    ·
     replace c4 : ag = false := c4
     refine hSeq ?_
     refine hReg (sq 0 (sl 1 (sq 2 sz))) (by kernel_rfl) ?_
     refine bld rfl rfl rfl (bld43) ?_
     refine stAl (vs := [.slice none 0 0, .slice none 0 0, .slice none 0 0]) 0 rfl Try.sizeOf43 trv rfl rfl rfl rfl rfl (by simp [Value.oneCell']) rfl ?_
     refine asI rfl rfl rfl ?_
     refine rNil ?_
     refine qSeq rfl ?_
     refine hRet ?_
     refine knP (fun _ h => Sep.nilR ndK 88 2 (fun _ => (none, 0)) h) ?_
     refine knP (fun _ h => Sep.nilR maK 28 2 (fun _ => (none, 0)) h) ?_
     refine knP (fun _ h => Sep.nilR maK 28 2 (fun _ => (none, 0)) h) ?_
     exact fun w hs => ⟨[_, .int .i64 2], ⟨⟨_, rfl, run_load_agg Try.isAgg43 Try.sizeOf43 rfl (cBs 3 rfl w hs)⟩, ⟨rfl, trivial⟩⟩, ⟨(none, 0, 0, (fun _ => (none, 0)), [], none, 0, 0, (fun _ => (none, 0)), [], none, 0, 0, (fun _ => (none, 0)), [], 2), rfl, by rw [Math.highAt_2 c1 (.inr ⟨g3, c4⟩)]; exact ⟨rfl, rfl, rfl, rfl⟩, hs.pick [2, 1, 0]⟩⟩
    ·
     replace c4 : ag = true := c4
     refine hSkip ?_
     refine qSeq rfl ?_
     refine hSeq ?_
     refine hReg (sl 0 (sq 1 (sq 2 (sl 3 (sl 4 (sq 5 sz)))))) (by kernel_rfl) ?_
     refine ldAl Try.isAgg26 Try.sizeOf26 (cBs 1 rfl) trv rfl rfl rfl rfl ?_
     refine mvI rfl rfl rfl ?_
     refine mvB rfl rfl rfl ?_
     refine callS Try.call127 trv1 rfl rfl (fun w hs => impl_highCardGame_c _ nz cz _ _ _ _ w (Kn.drop (k := 2) kz w hs) (by assumption) (by omega)) ?_
     rintro ⟨ay1, ny1, cy1, Hy1, y1, ayw1, nyw1, cyw1, Hyw1, yw1, ayv1, nyv1, cyv1, Hyv1, yv1⟩ ⟨hr1a, hr1b, hr1c⟩
     dsimp only at hr1a hr1b hr1c
     subst y1
     subst yw1
     subst yv1
     refine rKnow (fun w hs => (show OwnR ndK 88 2 ay1 ny1 cy1 Hy1 z w from hs.at_ 0 rfl).1) (fun lenn12 => ?_)
     refine rKnow (fun w hs => (show OwnR maK 28 2 ayw1 nyw1 cyw1 Hyw1 (Math.hcW kk.toNat ag kk.toNat) w from hs.at_ 1 rfl).1) (fun lenn13 => ?_)
     refine rKnow (fun w hs => (show OwnR maK 28 2 ayv1 nyv1 cyv1 Hyv1 (Math.hcV kk.toNat kk.toNat) w from hs.at_ 2 rfl).1) (fun lenn14 => ?_)
     refine stAl (vs := [.slice ay1 ny1 cy1, .slice ayw1 nyw1 cyw1, .slice ayv1 nyv1 cyv1]) 3 rfl Try.sizeOf43 trv rfl rfl rfl rfl rfl (by simp [Value.oneCell']) rfl ?_
     refine asI rfl rfl rfl ?_
     refine rNil ?_
     refine qSeq rfl ?_
     refine hRet ?_
     exact fun w hs => ⟨[_, .int .i64 0], ⟨⟨_, rfl, run_load_agg Try.isAgg43 Try.sizeOf43 rfl (cBs 3 rfl w hs)⟩, ⟨rfl, trivial⟩⟩, ⟨(ay1, ny1, cy1, Hy1, z, ayw1, nyw1, cyw1, Hyw1, (Math.hcW kk.toNat ag kk.toNat), ayv1, nyv1, cyv1, Hyv1, (Math.hcV kk.toNat kk.toNat), 0), rfl, by rw [Math.highAt_0 c1 (Classical.not_not.1 g2) (.inr c4)]; exact ⟨rfl, rfl, rfl, rfl⟩, hs.pick [0, 0, 0]⟩⟩
   ·
    replace g3 : ¬ (kk = 1) := g3
    refine rSkipQ rfl rfl ?_
    refine rSkipQ rfl rfl ?_
    refine pickB rfl rfl rfl rfl ?_
    refine pickB rfl rfl rfl rfl ?_
    refine rNil ?_
    refine qSeq rfl ?_
    refine hIfF rfl ?_
    refine hSkip ?_
    refine qSeq rfl ?_
    refine hSeq ?_
    refine hReg (sl 0 (sq 1 (sq 2 (sl 3 (sl 4 (sq 5 sz)))))) (by kernel_rfl) ?_
    refine ldAl Try.isAgg26 Try.sizeOf26 (cBs 1 rfl) trv rfl rfl rfl rfl ?_
    refine mvI rfl rfl rfl ?_
    refine mvB rfl rfl rfl ?_
    refine callS Try.call127 trv1 rfl rfl (fun w hs => impl_highCardGame_c _ nz cz _ _ _ _ w (Kn.drop (k := 2) kz w hs) (by assumption) (by omega)) ?_
    rintro ⟨ay2, ny2, cy2, Hy2, y2, ayw2, nyw2, cyw2, Hyw2, yw2, ayv2, nyv2, cyv2, Hyv2, yv2⟩ ⟨hr2a, hr2b, hr2c⟩
    dsimp only at hr2a hr2b hr2c
    subst y2
    subst yw2
    subst yv2
    refine rKnow (fun w hs => (show OwnR ndK 88 2 ay2 ny2 cy2 Hy2 z w from hs.at_ 0 rfl).1) (fun lenn15 => ?_)
    refine rKnow (fun w hs => (show OwnR maK 28 2 ayw2 nyw2 cyw2 Hyw2 (Math.hcW kk.toNat ag kk.toNat) w from hs.at_ 1 rfl).1) (fun lenn16 => ?_)
    refine rKnow (fun w hs => (show OwnR maK 28 2 ayv2 nyv2 cyv2 Hyv2 (Math.hcV kk.toNat kk.toNat) w from hs.at_ 2 rfl).1) (fun lenn17 => ?_)
    refine stAl (vs := [.slice ay2 ny2 cy2, .slice ayw2 nyw2 cyw2, .slice ayv2 nyv2 cyv2]) 3 rfl Try.sizeOf43 trv rfl rfl rfl rfl rfl (by simp [Value.oneCell']) rfl ?_
    refine asI rfl rfl rfl ?_
    refine rNil ?_
    refine qSeq rfl ?_
    refine hRet ?_
    exact fun w hs => ⟨[_, .int .i64 0], ⟨⟨_, rfl, run_load_agg Try.isAgg43 Try.sizeOf43 rfl (cBs 3 rfl w hs)⟩, ⟨rfl, trivial⟩⟩, ⟨(ay2, ny2, cy2, Hy2, z, ayw2, nyw2, cyw2, Hyw2, (Math.hcW kk.toNat ag kk.toNat), ayv2, nyv2, cyv2, Hyv2, (Math.hcV kk.toNat kk.toNat), 0), rfl, by rw [Math.highAt_0 c1 (Classical.not_not.1 g2) (.inl g3)]; exact ⟨rfl, rfl, rfl, rfl⟩, hs.pick [0, 0, 0]⟩⟩
theorem spec_HighCardGame_c (az : Option Addr) (nz : Nat) (cz : Nat) (Hz : Nat → Hd) (z : List Nd) (kk : Int) (ag : Bool) (w : World) (rz : RdR ndK az nz Hz z w) :
  Calls Try.prog 56 #[.agg #[.slice az nz cz], .int .i64 kk, .bool ag] w (Ret fun v w' => ∃ x : Option Addr × Nat × Nat × (Nat → Hd) × List Nd × Option Addr × Nat × Nat × (Nat → Hd) × List (List Int) × Option Addr × Nat × Nat × (Nat → Hd) × List (List Int) × Int, v = .tuple #[.agg #[.slice x.1 x.2.1 x.2.2.1, .slice x.2.2.2.2.2.1 x.2.2.2.2.2.2.1 x.2.2.2.2.2.2.2.1, .slice x.2.2.2.2.2.2.2.2.2.2.1 x.2.2.2.2.2.2.2.2.2.2.2.1 x.2.2.2.2.2.2.2.2.2.2.2.2.1], .int .i64 x.2.2.2.2.2.2.2.2.2.2.2.2.2.2.2] ∧ (x.2.2.2.2.1 = (Math.highAt z kk ag).1.1 ∧ x.2.2.2.2.2.2.2.2.2.1 = (Math.highAt z kk ag).1.2.1 ∧ x.2.2.2.2.2.2.2.2.2.2.2.2.2.2.1 = (Math.highAt z kk ag).1.2.2 ∧ x.2.2.2.2.2.2.2.2.2.2.2.2.2.2.2 = (Math.highAt z kk ag).2) ∧ Sep w none_ [OwnR ndK 88 2 x.1 x.2.1 x.2.2.1 x.2.2.2.1 x.2.2.2.2.1, OwnR maK 28 2 x.2.2.2.2.2.1 x.2.2.2.2.2.2.1 x.2.2.2.2.2.2.2.1 x.2.2.2.2.2.2.2.2.1 x.2.2.2.2.2.2.2.2.2.1, OwnR maK 28 2 x.2.2.2.2.2.2.2.2.2.2.1 x.2.2.2.2.2.2.2.2.2.2.2.1 x.2.2.2.2.2.2.2.2.2.2.2.2.1 x.2.2.2.2.2.2.2.2.2.2.2.2.2.1 x.2.2.2.2.2.2.2.2.2.2.2.2.2.2.1] w') := by
 have kz : Kn w none_ [] (RdR ndK az nz Hz z) := fun w' hs => rz.ext hs.upd
 have lz : z.length = nz := rz.1
 have mz : nz ≤ 9223372036854775807 := rz.2.1
 refine fn (M := none_) (rs := [.cell 6 43, .tmp 7]) Try.func56 rfl Try.ntmps56 rfl rfl (Sep.start _ _) ?_
 refine hSeq ?_
 refine hReg (sl 0 (sl 1 (sq 2 sz))) (by kernel_rfl) ?_
 refine box trv1 rfl rfl rfl rfl (fun bkb1 hbkb1 => ?_)
 refine alc Try.zeroValue43 rfl trv1 rfl rfl (fun bka2 hbka2 => ?_)
 refine asI rfl rfl rfl ?_
 refine rNil ?_
 refine qSeq rfl ?_
 refine hSeq ?_
 refine hSeq ?_
 refine hReg (sl 0 (sl 1 (sq 2 sz))) (by kernel_rfl) ?_
 refine ldAl Try.isAgg26 Try.sizeOf26 (cBs 1 rfl) trv rfl rfl rfl rfl ?_
 refine callP (v := .bool (Math.isTree z)) Try.call21 trv rfl rfl (fun w hs => spec_IsTree_c _ nz cz _ _ w (Kn.drop (k := 2) kz w hs)) ?_
 refine not rfl rfl rfl ?_
 refine rNil ?_
 refine qSeq rfl ?_
 refine hIfN rfl (fun c1 => ?_) (fun c1 => ?_)
 ·
  replace c1 : (Math.isTree z) = false := c1
  refine hSeq ?_
  refine hReg (sq 0 (sl 1 (sq 2 sz))) (by kernel_rfl) ?_
  refine bld rfl rfl rfl (bld43) ?_
  refine stAl (vs := [.slice none 0 0, .slice none 0 0, .slice none 0 0]) 0 rfl Try.sizeOf43 trv rfl rfl rfl rfl rfl (by simp [Value.oneCell']) rfl ?_
  refine asI rfl rfl rfl ?_
  refine rNil ?_
  refine qSeq rfl ?_
  refine hRet ?_
  refine knP (fun _ h => Sep.nilR ndK 88 2 (fun _ => (none, 0)) h) ?_
  refine knP (fun _ h => Sep.nilR maK 28 2 (fun _ => (none, 0)) h) ?_
  refine knP (fun _ h => Sep.nilR maK 28 2 (fun _ => (none, 0)) h) ?_
  exact fun w hs => ⟨[_, .int .i64 1], ⟨⟨_, rfl, run_load_agg Try.isAgg43 Try.sizeOf43 rfl (cBs 3 rfl w hs)⟩, ⟨rfl, trivial⟩⟩, ⟨(none, 0, 0, (fun _ => (none, 0)), [], none, 0, 0, (fun _ => (none, 0)), [], none, 0, 0, (fun _ => (none, 0)), [], 1), rfl, by rw [Math.highAt_1 c1]; exact ⟨rfl, rfl, rfl, rfl⟩, hs.pick [2, 1, 0]⟩⟩
 ·
  replace c1 : (Math.isTree z) = true := c1
  refine hSkip ?_
  refine qSeq rfl ?_
  refine hSeq ?_
  refine hSeq ?_
  refine hReg (sq 0 (sl 1 (sq 2 (sq 3 (sq 4 (sq 5 (sq 6 (sq 7 (sq 8 (sq 9 (sq 10 sz))))))))))) (by kernel_rfl) ?_
  refine mvI rfl rfl rfl ?_
  refine callP (v := .bool (decide ((1 : Int) ≤ kk ∧ kk ≤ (6 : Int)))) Try.call97 trv rfl rfl (fun w hs => spec_l01In_c _ _ _ w ) ?_
  refine notD rfl rfl rfl ?_
  refine mvB rfl rfl rfl ?_
  refine rBoolD (d := 15) rfl (fun g2 => ?_) (fun g2 => ?_)
  ·
   replace g2 : ¬ ((1 : Int) ≤ kk ∧ kk ≤ (6 : Int)) := g2
   refine rSkipQ rfl rfl ?_
   refine rSkipQ rfl rfl ?_
   refine rSkipQ rfl rfl ?_
   refine rSkipQ rfl rfl ?_
   refine rSkipQ rfl rfl ?_
   refine rSkipQ rfl rfl ?_
   refine pickB rfl rfl rfl rfl ?_
   refine rNil ?_
   refine qSeq rfl ?_
   refine hIfT rfl ?_
   refine hSeq ?_
   refine hReg (sq 0 (sl 1 (sq 2 sz))) (by kernel_rfl) ?_
   refine bld rfl rfl rfl (bld43) ?_
   refine stAl (vs := [.slice none 0 0, .slice none 0 0, .slice none 0 0]) 0 rfl Try.sizeOf43 trv rfl rfl rfl rfl rfl (by simp [Value.oneCell']) rfl ?_
   refine asI rfl rfl rfl ?_
   refine rNil ?_
   refine qSeq rfl ?_
   refine hRet ?_
   refine knP (fun _ h => Sep.nilR ndK 88 2 (fun _ => (none, 0)) h) ?_
   refine knP (fun _ h => Sep.nilR maK 28 2 (fun _ => (none, 0)) h) ?_
   refine knP (fun _ h => Sep.nilR maK 28 2 (fun _ => (none, 0)) h) ?_
   exact fun w hs => ⟨[_, .int .i64 2], ⟨⟨_, rfl, run_load_agg Try.isAgg43 Try.sizeOf43 rfl (cBs 3 rfl w hs)⟩, ⟨rfl, trivial⟩⟩, ⟨(none, 0, 0, (fun _ => (none, 0)), [], none, 0, 0, (fun _ => (none, 0)), [], none, 0, 0, (fun _ => (none, 0)), [], 2), rfl, by rw [Math.highAt_2 c1 (.inl g2)]; exact ⟨rfl, rfl, rfl, rfl⟩, hs.pick [2, 1, 0]⟩⟩
  ·
   replace g2 : ¬ (¬ ((1 : Int) ≤ kk ∧ kk ≤ (6 : Int))) := g2
   refine mvI rfl rfl rfl ?_
   refine eql rfl rfl rfl rfl ?_
   refine mvB rfl rfl rfl ?_
   refine rBoolD (d := 18) rfl (fun g3 => ?_) (fun g3 => ?_)
   ·
    replace g3 : kk = 1 := g3
    refine mvB rfl rfl rfl ?_
    refine not rfl rfl rfl ?_
    refine pickB rfl rfl rfl rfl ?_
    refine pickB rfl rfl rfl rfl ?_
    refine rNil ?_
    refine qSeq rfl ?_
    refine hIfN rfl (fun c4 => ?_) (fun c4 => ?_)
    ·
     replace c4 : ag = false := c4
     refine hSeq ?_
     refine hReg (sq 0 (sl 1 (sq 2 sz))) (by kernel_rfl) ?_
     refine bld rfl rfl rfl (bld43) ?_
     refine stAl (vs := [.slice none 0 0, .slice none 0 0, .slice none 0 0]) 0 rfl Try.sizeOf43 trv rfl rfl rfl rfl rfl (by simp [Value.oneCell']) rfl ?_
     refine asI rfl rfl rfl ?_
     refine rNil ?_
     refine qSeq rfl ?_
     refine hRet ?_
     refine knP (fun _ h => Sep.nilR ndK 88 2 (fun _ => (none, 0)) h) ?_
     refine knP (fun _ h => Sep.nilR maK 28 2 (fun _ => (none, 0)) h) ?_
     refine knP (fun _ h => Sep.nilR maK 28 2 (fun _ => (none, 0)) h) ?_
     exact fun w hs => ⟨[_, .int .i64 2], ⟨⟨_, rfl, run_load_agg Try.isAgg43 Try.sizeOf43 rfl (cBs 3 rfl w hs)⟩, ⟨rfl, trivial⟩⟩, ⟨(none, 0, 0, (fun _ => (none, 0)), [], none, 0, 0, (fun _ => (none, 0)), [], none, 0, 0, (fun _ => (none, 0)), [], 2), rfl, by rw [Math.highAt_2 c1 (.inr ⟨g3, c4⟩)]; exact ⟨rfl, rfl, rfl, rfl⟩, hs.pick [2, 1, 0]⟩⟩
    ·
     replace c4 : ag = true := c4
     refine hSkip ?_
     refine qSeq rfl ?_
     refine hSeq ?_
     refine hReg (sl 0 (sq 1 (sq 2 (sl 3 (sl 4 (sq 5 sz)))))) (by kernel_rfl) ?_
     refine ldAl Try.isAgg26 Try.sizeOf26 (cBs 1 rfl) trv rfl rfl rfl rfl ?_
     refine mvI rfl rfl rfl ?_
     refine mvB rfl rfl rfl ?_
     refine callS Try.call128 trv1 rfl rfl (fun w hs => spec_l21HighCard_c _ nz cz _ _ _ _ w (Kn.drop (k := 2) kz w hs) (by first | omega | (have := Math.tree_len (by assumption : Math.isTree _ = true); omega)) (by first | assumption | exact (by assumption : _ ∧ Math.kidsB _).2 | exact Math.tree_kids (by assumption)) (by omega)) ?_
     rintro ⟨ay1, ny1, cy1, Hy1, y1, ayw1, nyw1, cyw1, Hyw1, yw1, ayv1, nyv1, cyv1, Hyv1, yv1⟩ ⟨hr1a, hr1b, hr1c⟩
     dsimp only at hr1a hr1b hr1c
     subst y1
     subst yw1
     subst yv1
     refine rKnow (fun w hs => (show OwnR ndK 88 2 ay1 ny1 cy1 Hy1 z w from hs.at_ 0 rfl).1) (fun lenn12 => ?_)
     refine rKnow (fun w hs => (show OwnR maK 28 2 ayw1 nyw1 cyw1 Hyw1 (Math.hcW kk.toNat ag kk.toNat) w from hs.at_ 1 rfl).1) (fun lenn13 => ?_)
     refine rKnow (fun w hs => (show OwnR maK 28 2 ayv1 nyv1 cyv1 Hyv1 (Math.hcV kk.toNat kk.toNat) w from hs.at_ 2 rfl).1) (fun lenn14 => ?_)
     refine stAl (vs := [.slice ay1 ny1 cy1, .slice ayw1 nyw1 cyw1, .slice ayv1 nyv1 cyv1]) 3 rfl Try.sizeOf43 trv rfl rfl rfl rfl rfl (by simp [Value.oneCell']) rfl ?_
     refine asI rfl rfl rfl ?_
     refine rNil ?_
     refine qSeq rfl ?_
     refine hRet ?_
     exact fun w hs => ⟨[_, .int .i64 0], ⟨⟨_, rfl, run_load_agg Try.isAgg43 Try.sizeOf43 rfl (cBs 3 rfl w hs)⟩, ⟨rfl, trivial⟩⟩, ⟨(ay1, ny1, cy1, Hy1, z, ayw1, nyw1, cyw1, Hyw1, (Math.hcW kk.toNat ag kk.toNat), ayv1, nyv1, cyv1, Hyv1, (Math.hcV kk.toNat kk.toNat), 0), rfl, by rw [Math.highAt_0 c1 (Classical.not_not.1 g2) (.inr c4)]; exact ⟨rfl, rfl, rfl, rfl⟩, hs.pick [0, 0, 0]⟩⟩
   ·
    replace g3 : ¬ (kk = 1) := g3
    refine rSkipQ rfl rfl ?_
    refine rSkipQ rfl rfl ?_
    refine pickB rfl rfl rfl rfl ?_
    refine pickB rfl rfl rfl rfl ?_
    refine rNil ?_
    refine qSeq rfl ?_
    refine hIfF rfl ?_
    refine hSkip ?_
    refine qSeq rfl ?_
    refine hSeq ?_
    refine hReg (sl 0 (sq 1 (sq 2 (sl 3 (sl 4 (sq 5 sz)))))) (by kernel_rfl) ?_
    refine ldAl Try.isAgg26 Try.sizeOf26 (cBs 1 rfl) trv rfl rfl rfl rfl ?_
    refine mvI rfl rfl rfl ?_
    refine mvB rfl rfl rfl ?_
    refine callS Try.call128 trv1 rfl rfl (fun w hs => spec_l21HighCard_c _ nz cz _ _ _ _ w (Kn.drop (k := 2) kz w hs) (by first | omega | (have := Math.tree_len (by assumption : Math.isTree _ = true); omega)) (by first | assumption | exact (by assumption : _ ∧ Math.kidsB _).2 | exact Math.tree_kids (by assumption)) (by omega)) ?_
    rintro ⟨ay2, ny2, cy2, Hy2, y2, ayw2, nyw2, cyw2, Hyw2, yw2, ayv2, nyv2, cyv2, Hyv2, yv2⟩ ⟨hr2a, hr2b, hr2c⟩
    dsimp only at hr2a hr2b hr2c
    subst y2
    subst yw2
    subst yv2
    refine rKnow (fun w hs => (show OwnR ndK 88 2 ay2 ny2 cy2 Hy2 z w from hs.at_ 0 rfl).1) (fun lenn15 => ?_)
    refine rKnow (fun w hs => (show OwnR maK 28 2 ayw2 nyw2 cyw2 Hyw2 (Math.hcW kk.toNat ag kk.toNat) w from hs.at_ 1 rfl).1) (fun lenn16 => ?_)
    refine rKnow (fun w hs => (show OwnR maK 28 2 ayv2 nyv2 cyv2 Hyv2 (Math.hcV kk.toNat kk.toNat) w from hs.at_ 2 rfl).1) (fun lenn17 => ?_)
    refine stAl (vs := [.slice ay2 ny2 cy2, .slice ayw2 nyw2 cyw2, .slice ayv2 nyv2 cyv2]) 3 rfl Try.sizeOf43 trv rfl rfl rfl rfl rfl (by simp [Value.oneCell']) rfl ?_
    refine asI rfl rfl rfl ?_
    refine rNil ?_
    refine qSeq rfl ?_
    refine hRet ?_
    exact fun w hs => ⟨[_, .int .i64 0], ⟨⟨_, rfl, run_load_agg Try.isAgg43 Try.sizeOf43 rfl (cBs 3 rfl w hs)⟩, ⟨rfl, trivial⟩⟩, ⟨(ay2, ny2, cy2, Hy2, z, ayw2, nyw2, cyw2, Hyw2, (Math.hcW kk.toNat ag kk.toNat), ayv2, nyv2, cyv2, Hyv2, (Math.hcV kk.toNat kk.toNat), 0), rfl, by rw [Math.highAt_0 c1 (Classical.not_not.1 g2) (.inl g3)]; exact ⟨rfl, rfl, rfl, rfl⟩, hs.pick [0, 0, 0]⟩⟩
end Go.Proofs.Ytjengglpbdgmnaa
