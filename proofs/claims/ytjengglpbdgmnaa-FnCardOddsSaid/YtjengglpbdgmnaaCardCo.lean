/- Plain facts on the odds of cards. No condition. -/
import Derived.Test.YtjengglpbdgmnaaMirrCo
import Derived.Test.YtjengglpbdgmnaaMathCo
namespace Go.Proofs.Ytjengglpbdgmnaa.Math
open Go.Proofs.Ytjengglpbdgmnaa.V
def cardAt (z : List Nd) (ws vs : List (List Int)) (p c : Int) : (Int × Int) × Int :=
 if isGame z ws vs = true then if (0 ≤ p ∧ p ≤ 1) ∧ (0 ≤ c ∧ c ≤ (ws.length : Int) - 1) then reduced (cardSum ws p c.toNat ws.length) (total ws) else ((0, 0), 2) else ((0, 0), 1)
theorem cardAt_1 {z : List Nd} {ws vs : List (List Int)} {p c : Int} (h : isGame z ws vs = false) : cardAt z ws vs p c = ((0, 0), 1) := by unfold cardAt; rw [if_neg (by rw [h]; decide)]
theorem cardAt_2 {z : List Nd} {ws vs : List (List Int)} {p c : Int} {k : Nat} (hk : ws.length = k) (h : isGame z ws vs = true) (h2 : ¬ ((0 ≤ p ∧ p ≤ 1) ∧ (0 ≤ c ∧ c ≤ (k : Int) - 1))) : cardAt z ws vs p c = ((0, 0), 2) := by subst hk; unfold cardAt; rw [if_pos h, if_neg h2]
theorem cardAt_0 {z : List Nd} {ws vs : List (List Int)} {p c s : Int} {k : Nat} (hk : ws.length = k) (h : isGame z ws vs = true) (h2 : (0 ≤ p ∧ p ≤ 1) ∧ (0 ≤ c ∧ c ≤ (k : Int) - 1)) (hs : s = cardSum ws p c.toNat k) : cardAt z ws vs p c = reduced s (total ws) := by subst hk; subst hs; unfold cardAt; rw [if_pos h, if_pos h2]
end Go.Proofs.Ytjengglpbdgmnaa.Math
