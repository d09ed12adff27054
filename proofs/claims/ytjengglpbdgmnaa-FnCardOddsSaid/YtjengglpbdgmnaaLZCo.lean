/- Contracts of Kuhn's game. Their conditions stand in each. -/
import Derived.Test.YtjengglpbdgmnaaEngCCo
import Derived.Test.YtjengglpbdgmnaaTreeCo
import Derived.Test.YtjengglpbdgmnaaGameCo
import Derived.Test.YtjengglpbdgmnaaSetsCo
import Derived.Test.YtjengglpbdgmnaaHighCo
import Derived.Test.YtjengglpbdgmnaaGrowCo
import Derived.Test.YtjengglpbdgmnaaBetCo
import Derived.Test.YtjengglpbdgmnaaL1Co
import Derived.Test.YtjengglpbdgmnaaL2Co
import Derived.Test.YtjengglpbdgmnaaL3Co
import Derived.Test.YtjengglpbdgmnaaL4Co
import Derived.Test.YtjengglpbdgmnaaLCCo
import Derived.Test.YtjengglpbdgmnaaLTCo
import Derived.Test.YtjengglpbdgmnaaLSCo
import Derived.Test.YtjengglpbdgmnaaRows
namespace Go.Proofs.Ytjengglpbdgmnaa
open Go Go.RowKit V
set_option linter.unusedVariables false
set_option linter.unusedSimpArgs false
set_option maxRecDepth 100000
theorem spec_KuhnGame_c (w : World) :
  Calls Try.prog 59 #[] w (Ret fun v w' => ∃ x : Option Addr × Nat × Nat × (Nat → Hd) × List Nd × Option Addr × Nat × Nat × (Nat → Hd) × List (List Int) × Option Addr × Nat × Nat × (Nat → Hd) × List (List Int), v = .agg #[.slice x.1 x.2.1 x.2.2.1, .slice x.2.2.2.2.2.1 x.2.2.2.2.2.2.1 x.2.2.2.2.2.2.2.1, .slice x.2.2.2.2.2.2.2.2.2.2.1 x.2.2.2.2.2.2.2.2.2.2.2.1 x.2.2.2.2.2.2.2.2.2.2.2.2.1] ∧ (x.2.2.2.2.1 = (Math.betAt 1 1 0).1 ∧ x.2.2.2.2.2.2.2.2.2.1 = Math.hcW 3 false 3 ∧ x.2.2.2.2.2.2.2.2.2.2.2.2.2.2 = Math.hcV 3 3) ∧ Sep w none_ [OwnR ndK 88 2 x.1 x.2.1 x.2.2.1 x.2.2.2.1 x.2.2.2.2.1, OwnR maK 28 2 x.2.2.2.2.2.1 x.2.2.2.2.2.2.1 x.2.2.2.2.2.2.2.1 x.2.2.2.2.2.2.2.2.1 x.2.2.2.2.2.2.2.2.2.1, OwnR maK 28 2 x.2.2.2.2.2.2.2.2.2.2.1 x.2.2.2.2.2.2.2.2.2.2.2.1 x.2.2.2.2.2.2.2.2.2.2.2.2.1 x.2.2.2.2.2.2.2.2.2.2.2.2.2.1 x.2.2.2.2.2.2.2.2.2.2.2.2.2.2] w') := by
 refine fn (M := none_) (rs := [.cell 0 43]) Try.func59 rfl Try.ntmps59 rfl rfl (Sep.start _ _) ?_
 refine hSeq ?_
 refine hReg (sl 0 sz) (by kernel_rfl) ?_
 refine alc Try.zeroValue43 rfl trv1 rfl rfl (fun bka1 hbka1 => ?_)
 refine rNil ?_
 refine qSeq rfl ?_
 refine hSeq ?_
 refine hReg (sl 0 (sq 1 (sq 2 (sq 3 (sl 4 (sl 5 (sq 6 sz))))))) (by kernel_rfl) ?_
 refine callS Try.call131 trv1 rfl rfl (fun w hs => spec_BetTree_c _ _ _ w ) ?_
 rintro ⟨ay1, ny1, cy1, Hy1, y1, q1⟩ ⟨hr1a, hr1b⟩
 dsimp only at hr1a hr1b
 subst y1
 subst q1
 refine rKnow (fun w hs => (show OwnR ndK 88 2 ay1 ny1 cy1 Hy1 ((((Math.betAt (1 : Int) (1 : Int) (0 : Int)).1))) w from hs.at_ 0 rfl).1) (fun lenn2 => ?_)
 refine mv rfl rfl rfl ?_
 refine ext rfl rfl rfl rfl ?_
 refine ext rfl rfl rfl rfl ?_
 refine alc Try.zeroValue26 rfl trv1 rfl rfl (fun bka3 hbka3 => ?_)
 refine stAl (vs := [.slice ay1 ny1 cy1]) 0 rfl Try.sizeOf26 trv rfl rfl rfl rfl rfl (by simp [Value.oneCell']) rfl ?_
 refine asI rfl rfl rfl ?_
 refine rNil ?_
 refine qSeq rfl ?_
 refine hSeq ?_
 refine hReg (sl 0 (sl 1 (sl 2 sz))) (by kernel_rfl) ?_
 refine ldAl Try.isAgg26 Try.sizeOf26 (cBs 0 rfl) trv rfl rfl rfl rfl ?_
 refine callS Try.call128 trv1 rfl rfl (fun w hs => spec_l21HighCard_c _ ny1 cy1 _ _ _ _ w (OwnR.rd (hs.at_ 1 rfl) ndK.ok) (by have := Math.betAt_bd 1 1 0; omega) (Math.betAt_kids 1 1 0) (by omega)) ?_
 rintro ⟨ay2, ny2, cy2, Hy2, y2, ayw2, nyw2, cyw2, Hyw2, yw2, ayv2, nyv2, cyv2, Hyv2, yv2⟩ ⟨hr2a, hr2b, hr2c⟩
 dsimp only at hr2a hr2b hr2c
 subst y2
 subst yw2
 subst yv2
 refine rKnow (fun w hs => (show OwnR ndK 88 2 ay2 ny2 cy2 Hy2 (((((((Math.betAt (1 : Int) (1 : Int) (0 : Int)).1)))))) w from hs.at_ 0 rfl).1) (fun lenn4 => ?_)
 refine rKnow (fun w hs => (show OwnR maK 28 2 ayw2 nyw2 cyw2 Hyw2 (Math.hcW 3 false 3) w from hs.at_ 1 rfl).1) (fun lenn5 => ?_)
 refine rKnow (fun w hs => (show OwnR maK 28 2 ayv2 nyv2 cyv2 Hyv2 (Math.hcV 3 3) w from hs.at_ 2 rfl).1) (fun lenn6 => ?_)
 refine stAl (vs := [.slice ay2 ny2 cy2, .slice ayw2 nyw2 cyw2, .slice ayv2 nyv2 cyv2]) 5 rfl Try.sizeOf43 trv rfl rfl rfl rfl rfl (by simp [Value.oneCell']) rfl ?_
 refine rNil ?_
 refine qSeq rfl ?_
 refine hRet ?_
 exact fun w hs => ⟨[_], ⟨⟨_, rfl, run_load_agg Try.isAgg43 Try.sizeOf43 rfl (cBs 5 rfl w hs)⟩, trivial⟩, ⟨(ay2, ny2, cy2, Hy2, ((((((Math.betAt (1 : Int) (1 : Int) (0 : Int)).1))))), ayw2, nyw2, cyw2, Hyw2, (Math.hcW 3 false 3), ayv2, nyv2, cyv2, Hyv2, (Math.hcV 3 3)), rfl, ⟨rfl, rfl, rfl⟩, hs.pick [0, 0, 0]⟩⟩
theorem impl_KuhnGame_c (w : World) :
  Calls Try.prog 58 #[] w (Ret fun v w' => ∃ x : Option Addr × Nat × Nat × (Nat → Hd) × List Nd × Option Addr × Nat × Nat × (Nat → Hd) × List (List Int) × Option Addr × Nat × Nat × (Nat → Hd) × List (List Int), v = .agg #[.slice x.1 x.2.1 x.2.2.1, .slice x.2.2.2.2.2.1 x.2.2.2.2.2.2.1 x.2.2.2.2.2.2.2.1, .slice x.2.2.2.2.2.2.2.2.2.2.1 x.2.2.2.2.2.2.2.2.2.2.2.1 x.2.2.2.2.2.2.2.2.2.2.2.2.1] ∧ (x.2.2.2.2.1 = (Math.betAt 1 1 0).1 ∧ x.2.2.2.2.2.2.2.2.2.1 = Math.hcW 3 false 3 ∧ x.2.2.2.2.2.2.2.2.2.2.2.2.2.2 = Math.hcV 3 3) ∧ Sep w none_ [OwnR ndK 88 2 x.1 x.2.1 x.2.2.1 x.2.2.2.1 x.2.2.2.2.1, OwnR maK 28 2 x.2.2.2.2.2.1 x.2.2.2.2.2.2.1 x.2.2.2.2.2.2.2.1 x.2.2.2.2.2.2.2.2.1 x.2.2.2.2.2.2.2.2.2.1, OwnR maK 28 2 x.2.2.2.2.2.2.2.2.2.2.1 x.2.2.2.2.2.2.2.2.2.2.2.1 x.2.2.2.2.2.2.2.2.2.2.2.2.1 x.2.2.2.2.2.2.2.2.2.2.2.2.2.1 x.2.2.2.2.2.2.2.2.2.2.2.2.2.2] w') := by
 refine fn (M := none_) (rs := [.cell 0 43]) Try.func58 rfl Try.ntmps58 rfl rfl (Sep.start _ _) ?_
 refine hSeq ?_
 refine hReg (sl 0 sz) (by kernel_rfl) ?_
 refine alc Try.zeroValue43 rfl trv1 rfl rfl (fun bka1 hbka1 => ?_)
 refine rNil ?_
 refine qSeq rfl ?_
 refine hSeq ?_
 refine hReg (sl 0 (sq 1 (sq 2 (sq 3 (sl 4 (sl 5 (sq 6 sz))))))) (by kernel_rfl) ?_
 refine callS Try.call130 trv1 rfl rfl (fun w hs => impl_BetTree_c _ _ _ w ) ?_
 rintro ⟨ay1, ny1, cy1, Hy1, y1, q1⟩ ⟨hr1a, hr1b⟩
 dsimp only at hr1a hr1b
 subst y1
 subst q1
 refine rKnow (fun w hs => (show OwnR ndK 88 2 ay1 ny1 cy1 Hy1 ((((Math.betAt (1 : Int) (1 : Int) (0 : Int)).1))) w from hs.at_ 0 rfl).1) (fun lenn2 => ?_)
 refine mv rfl rfl rfl ?_
 refine ext rfl rfl rfl rfl ?_
 refine ext rfl rfl rfl rfl ?_
 refine alc Try.zeroValue26 rfl trv1 rfl rfl (fun bka3 hbka3 => ?_)
 refine stAl (vs := [.slice ay1 ny1 cy1]) 0 rfl Try.sizeOf26 trv rfl rfl rfl rfl rfl (by simp [Value.oneCell']) rfl ?_
 refine asI rfl rfl rfl ?_
 refine rNil ?_
 refine qSeq rfl ?_
 refine hSeq ?_
 refine hReg (sl 0 (sl 1 (sl 2 sz))) (by kernel_rfl) ?_
 refine ldAl Try.isAgg26 Try.sizeOf26 (cBs 0 rfl) trv rfl rfl rfl rfl ?_
 refine callS Try.call127 trv1 rfl rfl (fun w hs => impl_highCardGame_c _ ny1 cy1 _ _ _ _ w (OwnR.rd (hs.at_ 1 rfl) ndK.ok) Math.kuhn_tree (by omega)) ?_
 rintro ⟨ay2, ny2, cy2, Hy2, y2, ayw2, nyw2, cyw2, Hyw2, yw2, ayv2, nyv2, cyv2, Hyv2, yv2⟩ ⟨hr2a, hr2b, hr2c⟩
 dsimp only at hr2a hr2b hr2c
 subst y2
 subst yw2
 subst yv2
 refine rKnow (fun w hs => (show OwnR ndK 88 2 ay2 ny2 cy2 Hy2 (((((((Math.betAt (1 : Int) (1 : Int) (0 : Int)).1)))))) w from hs.at_ 0 rfl).1) (fun lenn4 => ?_)
 refine rKnow (fun w hs => (show OwnR maK 28 2 ayw2 nyw2 cyw2 Hyw2 (Math.hcW 3 false 3) w from hs.at_ 1 rfl).1) (fun lenn5 => ?_)
 refine rKnow (fun w hs => (show OwnR maK 28 2 ayv2 nyv2 cyv2 Hyv2 (Math.hcV 3 3) w from hs.at_ 2 rfl).1) (fun lenn6 => ?_)
 refine stAl (vs := [.slice ay2 ny2 cy2, .slice ayw2 nyw2 cyw2, .slice ayv2 nyv2 cyv2]) 5 rfl Try.sizeOf43 trv rfl rfl rfl rfl rfl (by simp [Value.oneCell']) rfl ?_
 refine rNil ?_
 refine qSeq rfl ?_
 refine hRet ?_
 exact fun w hs => ⟨[_], ⟨⟨_, rfl, run_load_agg Try.isAgg43 Try.sizeOf43 rfl (cBs 5 rfl w hs)⟩, trivial⟩, ⟨(ay2, ny2, cy2, Hy2, ((((((Math.betAt (1 : Int) (1 : Int) (0 : Int)).1))))), ayw2, nyw2, cyw2, Hyw2, (Math.hcW 3 false 3), ayv2, nyv2, cyv2, Hyv2, (Math.hcV 3 3)), rfl, ⟨rfl, rfl, rfl⟩, hs.pick [0, 0, 0]⟩⟩
end Go.Proofs.Ytjengglpbdgmnaa
