/- Plain arithmetic on numbers, ratios and odds. No condition. -/
import Derived.RowKit
set_option linter.unusedVariables false
namespace Go.Proofs.Ytglhfigmenljoaa.Math
theorem mod_lt {p q : Int} (hp : 0 ≤ p) (hq : 0 < q) : (p % q).toNat < q.toNat := by
  have h1 := Int.emod_nonneg p (show q ≠ 0 by omega)
  have h2 := Int.emod_lt_of_pos p hq
  omega
def gcdI (a b : Int) : Int := (Nat.gcd a.toNat b.toNat : Int)
theorem gcd_step {p q : Int} (hp : 0 ≤ p) (hq : 0 < q) : gcdI q (p % q) = gcdI p q := by
  unfold gcdI
  have : (p % q).toNat = p.toNat % q.toNat := by
    rw [Int.toNat_emod hp (by omega)]
  rw [this, Nat.gcd_comm, ← Nat.gcd_rec, Nat.gcd_comm]
theorem gcd_end {p q : Int} (hp : 0 ≤ p) (hq : q = 0) : p = gcdI p q := by
  unfold gcdI; subst hq; simp; omega
theorem gcdI_pos (a : Int) {b : Int} (hb : 1 ≤ b) : 1 ≤ gcdI a b := by
  unfold gcdI
  have := Nat.gcd_pos_of_pos_right a.toNat (show 0 < b.toNat by omega)
  omega
/-- A valid ratio. -/
def isRatio (n d : Int) : Bool := decide (-1000000000 ≤ n ∧ n ≤ 1000000000) && (decide (1 ≤ d ∧ d ≤ 1000000000) && decide (gcdI n.natAbs d = 1))
/-- The ratio of two integers, the second at least 1, and a code. -/
def reduced (num den : Int) : (Int × Int) × Int :=
  if isRatio (num.tdiv (gcdI num.natAbs den)) (den / gcdI num.natAbs den) then ((num.tdiv (gcdI num.natAbs den), den / gcdI num.natAbs den), 0) else ((0, 0), 3)
/-- A quotient of numbers of chips, and a code. -/
def quot (num den : Int) : (Int × Int) × Int := if den = 0 then ((0, 0), 5) else reduced num den
def quotR (a b num den : Int) : (Int × Int) × Int := if (0 ≤ a ∧ a ≤ 1000000) ∧ (0 ≤ b ∧ b ≤ 1000000) then quot num den else ((0, 0), 2)
theorem quotR_yes {a b num den : Int} (h : (0 ≤ a ∧ a ≤ 1000000) ∧ (0 ≤ b ∧ b ≤ 1000000)) : quotR a b num den = quot num den := if_pos h
theorem quotR_no {a b num den : Int} (h : ¬ ((0 ≤ a ∧ a ≤ 1000000) ∧ (0 ≤ b ∧ b ≤ 1000000))) : quotR a b num den = ((0, 0), 2) := if_neg h
theorem quotR_0 {a b num den : Int} (h : (0 ≤ a ∧ a ≤ 1000000) ∧ (0 ≤ b ∧ b ≤ 1000000)) (hd : den = 0) : quotR a b num den = ((0, 0), 5) := by rw [quotR_yes h]; exact if_pos hd
theorem quotR_1 {a b num den : Int} (h : (0 ≤ a ∧ a ≤ 1000000) ∧ (0 ≤ b ∧ b ≤ 1000000)) (hd : ¬ den = 0) : quotR a b num den = reduced num den := by rw [quotR_yes h]; exact if_neg hd
theorem quotR_swap (a b : Int) : quotR b a a (b + a) = quotR a b a (a + b) := by
  unfold quotR
  rw [Int.add_comm b a]
  by_cases h : (0 ≤ a ∧ a ≤ 1000000) ∧ (0 ≤ b ∧ b ≤ 1000000)
  · rw [if_pos h, if_pos ⟨h.2, h.1⟩]
  · rw [if_neg h, if_neg (fun h' => h ⟨h'.2, h'.1⟩)]
end Go.Proofs.Ytglhfigmenljoaa.Math
