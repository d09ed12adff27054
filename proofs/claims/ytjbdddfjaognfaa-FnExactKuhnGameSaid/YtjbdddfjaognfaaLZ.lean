/- Contracts of Kuhn's game. Their conditions stand in each. -/
import Derived.Test.YtjbdddfjaognfaaEngC
import Derived.Test.YtjbdddfjaognfaaTree
import Derived.Test.YtjbdddfjaognfaaGame
import Derived.Test.YtjbdddfjaognfaaSets
import Derived.Test.YtjbdddfjaognfaaHigh
import Derived.Test.YtjbdddfjaognfaaGrow
import Derived.Test.YtjbdddfjaognfaaBet
import Derived.Test.YtjbdddfjaognfaaL1
import Derived.Test.YtjbdddfjaognfaaL2
import Derived.Test.YtjbdddfjaognfaaL3
import Derived.Test.YtjbdddfjaognfaaL4
import Derived.Test.YtjbdddfjaognfaaLC
import Derived.Test.YtjbdddfjaognfaaLT
import Derived.Test.YtjbdddfjaognfaaLS
import Derived.Test.YtjbdddfjaognfaaRows
namespace Go.Proofs.Ytjbdddfjaognfaa
open Go Go.RowKit V
set_option linter.unusedVariables false
set_option linter.unusedSimpArgs false
set_option maxRecDepth 100000



theorem spec_KuhnGame_c (w : World) :
    Calls Try.prog 45 #[] w (Ret fun v w' => ∃ x : Option Addr × Nat × Nat × (Nat → Hd) × List Nd × Option Addr × Nat × Nat × (Nat → Hd) × List (List Int) × Option Addr × Nat × Nat × (Nat → Hd) × List (List Int), v = .agg #[.slice x.1 x.2.1 x.2.2.1, .slice x.2.2.2.2.2.1 x.2.2.2.2.2.2.1 x.2.2.2.2.2.2.2.1, .slice x.2.2.2.2.2.2.2.2.2.2.1 x.2.2.2.2.2.2.2.2.2.2.2.1 x.2.2.2.2.2.2.2.2.2.2.2.2.1] ∧ (x.2.2.2.2.1 = (Math.betAt 1 1 0).1 ∧ x.2.2.2.2.2.2.2.2.2.1 = Math.hcW 3 false 3 ∧ x.2.2.2.2.2.2.2.2.2.2.2.2.2.2 = Math.hcV 3 3) ∧ Sep w none_ [OwnR ndK 76 2 x.1 x.2.1 x.2.2.1 x.2.2.2.1 x.2.2.2.2.1, OwnR maK 22 2 x.2.2.2.2.2.1 x.2.2.2.2.2.2.1 x.2.2.2.2.2.2.2.1 x.2.2.2.2.2.2.2.2.1 x.2.2.2.2.2.2.2.2.2.1, OwnR maK 22 2 x.2.2.2.2.2.2.2.2.2.2.1 x.2.2.2.2.2.2.2.2.2.2.2.1 x.2.2.2.2.2.2.2.2.2.2.2.2.1 x.2.2.2.2.2.2.2.2.2.2.2.2.2.1 x.2.2.2.2.2.2.2.2.2.2.2.2.2.2] w') := by
  refine fn (M := none_) (rs := [.cell 0 57]) Try.func45 rfl Try.ntmps45 rfl rfl (Sep.start _ _) ?_
  refine hSeq ?_
  refine hReg (sl 0 sz) (by kernel_rfl) ?_
  refine alc Try.zeroValue57 rfl trv1 rfl rfl (fun bka1 hbka1 => ?_)
  refine rNil ?_
  refine qSeq rfl ?_
  refine hSeq ?_
  refine hReg (sl 0 (sq 1 (sq 2 (sq 3 (sl 4 (sl 5 (sq 6 sz))))))) (by kernel_rfl) ?_
  refine callS Try.call21 trv1 rfl rfl (fun w hs => spec_BetTree_c _ _ _ w ) ?_
  rintro ⟨ay1, ny1, cy1, Hy1, y1, q1⟩ ⟨hr1a, hr1b⟩
  dsimp only at hr1a hr1b
  subst y1
  subst q1
  refine rKnow (fun w hs => (show OwnR ndK 76 2 ay1 ny1 cy1 Hy1 ((((Math.betAt (1 : Int) (1 : Int) (0 : Int)).1))) w from hs.at_ 0 rfl).1) (fun lenn2 => ?_)
  refine mv rfl rfl rfl ?_
  refine ext rfl rfl rfl rfl ?_
  refine ext rfl rfl rfl rfl ?_
  refine alc Try.zeroValue31 rfl trv1 rfl rfl (fun bka3 hbka3 => ?_)
  refine stAl (vs := [.slice ay1 ny1 cy1]) 0 rfl Try.sizeOf31 trv rfl rfl rfl rfl rfl (by simp [Value.oneCell']) rfl ?_
  refine asI rfl rfl rfl ?_
  refine rNil ?_
  refine qSeq rfl ?_
  refine hSeq ?_
  refine hReg (sl 0 (sl 1 (sl 2 sz))) (by kernel_rfl) ?_
  refine ldAl Try.isAgg31 Try.sizeOf31 (cBs 0 rfl) trv rfl rfl rfl rfl ?_
  refine callS Try.call80 trv1 rfl rfl (fun w hs => spec_l21HighCard_c _ ny1 cy1 _ _ _ _ w (OwnR.rd (hs.at_ 1 rfl) ndK.ok) Math.kuhn_tree (by omega)) ?_
  rintro ⟨ay2, ny2, cy2, Hy2, y2, ayw2, nyw2, cyw2, Hyw2, yw2, ayv2, nyv2, cyv2, Hyv2, yv2⟩ ⟨hr2a, hr2b, hr2c⟩
  dsimp only at hr2a hr2b hr2c
  subst y2
  subst yw2
  subst yv2
  refine rKnow (fun w hs => (show OwnR ndK 76 2 ay2 ny2 cy2 Hy2 (((((((Math.betAt (1 : Int) (1 : Int) (0 : Int)).1)))))) w from hs.at_ 0 rfl).1) (fun lenn4 => ?_)
  refine rKnow (fun w hs => (show OwnR maK 22 2 ayw2 nyw2 cyw2 Hyw2 (Math.hcW 3 false 3) w from hs.at_ 1 rfl).1) (fun lenn5 => ?_)
  refine rKnow (fun w hs => (show OwnR maK 22 2 ayv2 nyv2 cyv2 Hyv2 (Math.hcV 3 3) w from hs.at_ 2 rfl).1) (fun lenn6 => ?_)
  refine stAl (vs := [.slice ay2 ny2 cy2, .slice ayw2 nyw2 cyw2, .slice ayv2 nyv2 cyv2]) 5 rfl Try.sizeOf57 trv rfl rfl rfl rfl rfl (by simp [Value.oneCell']) rfl ?_
  refine rNil ?_
  refine qSeq rfl ?_
  refine hRet ?_
  exact fun w hs => ⟨[_], ⟨⟨_, rfl, run_load_agg Try.isAgg57 Try.sizeOf57 rfl (cBs 5 rfl w hs)⟩, trivial⟩, ⟨(ay2, ny2, cy2, Hy2, ((((((Math.betAt (1 : Int) (1 : Int) (0 : Int)).1))))), ayw2, nyw2, cyw2, Hyw2, (Math.hcW 3 false 3), ayv2, nyv2, cyv2, Hyv2, (Math.hcV 3 3)), rfl, ⟨rfl, rfl, rfl⟩, hs.pick [0, 0, 0]⟩⟩

theorem impl_KuhnGame_c (w : World) :
    Calls Try.prog 46 #[] w (Ret fun v w' => ∃ x : Option Addr × Nat × Nat × (Nat → Hd) × List Nd × Option Addr × Nat × Nat × (Nat → Hd) × List (List Int) × Option Addr × Nat × Nat × (Nat → Hd) × List (List Int), v = .agg #[.slice x.1 x.2.1 x.2.2.1, .slice x.2.2.2.2.2.1 x.2.2.2.2.2.2.1 x.2.2.2.2.2.2.2.1, .slice x.2.2.2.2.2.2.2.2.2.2.1 x.2.2.2.2.2.2.2.2.2.2.2.1 x.2.2.2.2.2.2.2.2.2.2.2.2.1] ∧ (x.2.2.2.2.1 = (Math.betAt 1 1 0).1 ∧ x.2.2.2.2.2.2.2.2.2.1 = Math.hcW 3 false 3 ∧ x.2.2.2.2.2.2.2.2.2.2.2.2.2.2 = Math.hcV 3 3) ∧ Sep w none_ [OwnR ndK 76 2 x.1 x.2.1 x.2.2.1 x.2.2.2.1 x.2.2.2.2.1, OwnR maK 22 2 x.2.2.2.2.2.1 x.2.2.2.2.2.2.1 x.2.2.2.2.2.2.2.1 x.2.2.2.2.2.2.2.2.1 x.2.2.2.2.2.2.2.2.2.1, OwnR maK 22 2 x.2.2.2.2.2.2.2.2.2.2.1 x.2.2.2.2.2.2.2.2.2.2.2.1 x.2.2.2.2.2.2.2.2.2.2.2.2.1 x.2.2.2.2.2.2.2.2.2.2.2.2.2.1 x.2.2.2.2.2.2.2.2.2.2.2.2.2.2] w') := by
  refine fn (M := none_) (rs := [.cell 0 57]) Try.func46 rfl Try.ntmps46 rfl rfl (Sep.start _ _) ?_
  refine hSeq ?_
  refine hReg (sl 0 sz) (by kernel_rfl) ?_
  refine alc Try.zeroValue57 rfl trv1 rfl rfl (fun bka1 hbka1 => ?_)
  refine rNil ?_
  refine qSeq rfl ?_
  refine hSeq ?_
  refine hReg (sl 0 (sq 1 (sq 2 (sq 3 (sl 4 (sl 5 (sq 6 sz))))))) (by kernel_rfl) ?_
  refine callS Try.call22 trv1 rfl rfl (fun w hs => impl_BetTree_c _ _ _ w ) ?_
  rintro ⟨ay1, ny1, cy1, Hy1, y1, q1⟩ ⟨hr1a, hr1b⟩
  dsimp only at hr1a hr1b
  subst y1
  subst q1
  refine rKnow (fun w hs => (show OwnR ndK 76 2 ay1 ny1 cy1 Hy1 ((((Math.betAt (1 : Int) (1 : Int) (0 : Int)).1))) w from hs.at_ 0 rfl).1) (fun lenn2 => ?_)
  refine mv rfl rfl rfl ?_
  refine ext rfl rfl rfl rfl ?_
  refine ext rfl rfl rfl rfl ?_
  refine alc Try.zeroValue31 rfl trv1 rfl rfl (fun bka3 hbka3 => ?_)
  refine stAl (vs := [.slice ay1 ny1 cy1]) 0 rfl Try.sizeOf31 trv rfl rfl rfl rfl rfl (by simp [Value.oneCell']) rfl ?_
  refine asI rfl rfl rfl ?_
  refine rNil ?_
  refine qSeq rfl ?_
  refine hSeq ?_
  refine hReg (sl 0 (sl 1 (sl 2 sz))) (by kernel_rfl) ?_
  refine ldAl Try.isAgg31 Try.sizeOf31 (cBs 0 rfl) trv rfl rfl rfl rfl ?_
  refine callS Try.call81 trv1 rfl rfl (fun w hs => impl_highCardGame_c _ ny1 cy1 _ _ _ _ w (OwnR.rd (hs.at_ 1 rfl) ndK.ok) Math.kuhn_tree (by omega)) ?_
  rintro ⟨ay2, ny2, cy2, Hy2, y2, ayw2, nyw2, cyw2, Hyw2, yw2, ayv2, nyv2, cyv2, Hyv2, yv2⟩ ⟨hr2a, hr2b, hr2c⟩
  dsimp only at hr2a hr2b hr2c
  subst y2
  subst yw2
  subst yv2
  refine rKnow (fun w hs => (show OwnR ndK 76 2 ay2 ny2 cy2 Hy2 (((((((Math.betAt (1 : Int) (1 : Int) (0 : Int)).1)))))) w from hs.at_ 0 rfl).1) (fun lenn4 => ?_)
  refine rKnow (fun w hs => (show OwnR maK 22 2 ayw2 nyw2 cyw2 Hyw2 (Math.hcW 3 false 3) w from hs.at_ 1 rfl).1) (fun lenn5 => ?_)
  refine rKnow (fun w hs => (show OwnR maK 22 2 ayv2 nyv2 cyv2 Hyv2 (Math.hcV 3 3) w from hs.at_ 2 rfl).1) (fun lenn6 => ?_)
  refine stAl (vs := [.slice ay2 ny2 cy2, .slice ayw2 nyw2 cyw2, .slice ayv2 nyv2 cyv2]) 5 rfl Try.sizeOf57 trv rfl rfl rfl rfl rfl (by simp [Value.oneCell']) rfl ?_
  refine rNil ?_
  refine qSeq rfl ?_
  refine hRet ?_
  exact fun w hs => ⟨[_], ⟨⟨_, rfl, run_load_agg Try.isAgg57 Try.sizeOf57 rfl (cBs 5 rfl w hs)⟩, trivial⟩, ⟨(ay2, ny2, cy2, Hy2, ((((((Math.betAt (1 : Int) (1 : Int) (0 : Int)).1))))), ayw2, nyw2, cyw2, Hyw2, (Math.hcW 3 false 3), ayv2, nyv2, cyv2, Hyv2, (Math.hcV 3 3)), rfl, ⟨rfl, rfl, rfl⟩, hs.pick [0, 0, 0]⟩⟩

end Go.Proofs.Ytjbdddfjaognfaa
