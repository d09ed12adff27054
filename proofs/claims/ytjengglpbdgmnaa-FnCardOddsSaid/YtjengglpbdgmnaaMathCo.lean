/- Plain arithmetic on numbers, ratios and odds. No condition. -/
import Derived.RowKit
set_option linter.unusedVariables false
namespace Go.Proofs.Ytjengglpbdgmnaa.Math
theorem mod_lt {p q : Int} (hp : 0 ≤ p) (hq : 0 < q) : (p % q).toNat < q.toNat := by
 have h1 := Int.emod_nonneg p (show q ≠ 0 by omega)
 have h2 := Int.emod_lt_of_pos p hq
 omega
def gcdI (a b : Int) : Int := (Nat.gcd a.toNat b.toNat : Int)
theorem gcd_step {p q : Int} (hp : 0 ≤ p) (hq : 0 < q) : gcdI q (p % q) = gcdI p q := by
 unfold gcdI
 have : (p % q).toNat = p.toNat % q.toNat := by
  rw [Int.toNat_emod hp (by omega)]
 rw [this, Nat.gcd_comm, ← Nat.gcd_rec, Nat.gcd_comm]
theorem gcd_end {p q : Int} (hp : 0 ≤ p) (hq : q = 0) : p = gcdI p q := by
 unfold gcdI; subst hq; simp; omega
theorem gcdI_pos (a : Int) {b : Int} (hb : 1 ≤ b) : 1 ≤ gcdI a b := by
 unfold gcdI
 have := Nat.gcd_pos_of_pos_right a.toNat (show 0 < b.toNat by omega)
 omega
/-- A valid ratio. -/
def isRatio (n d : Int) : Bool := decide (-1000000000 ≤ n ∧ n ≤ 1000000000) && (decide (1 ≤ d ∧ d ≤ 1000000000) && decide (gcdI n.natAbs d = 1))
/-- The ratio of two integers, the second at least 1, and a code. -/
def reduced (num den : Int) : (Int × Int) × Int :=
 if isRatio (num.tdiv (gcdI num.natAbs den)) (den / gcdI num.natAbs den) then ((num.tdiv (gcdI num.natAbs den), den / gcdI num.natAbs den), 0) else ((0, 0), 3)
theorem isRatio_bd {n d : Int} (h : isRatio n d = true) : (-1000000000 ≤ n ∧ n ≤ 1000000000) ∧ (1 ≤ d ∧ d ≤ 1000000000) := by
 simp only [isRatio, Bool.and_eq_true, decide_eq_true_eq] at h
 exact ⟨h.1, h.2.1⟩
theorem prod_bd {x y : Int} (hx : -1000000000 ≤ x ∧ x ≤ 1000000000) (hy : -1000000000 ≤ y ∧ y ≤ 1000000000) : -1000000000000000000 ≤ x * y ∧ x * y ≤ 1000000000000000000 := by
 have h1 : x.natAbs ≤ 1000000000 := by omega
 have h2 : y.natAbs ≤ 1000000000 := by omega
 have h3 : (x * y).natAbs ≤ 1000000000 * 1000000000 := by rw [Int.natAbs_mul]; exact Nat.mul_le_mul h1 h2
 omega
theorem prod_pos {x y : Int} (hx : 1 ≤ x) (hy : 1 ≤ y) : 1 ≤ x * y := Int.mul_pos (by omega) (by omega)
def addR (a b : Int × Int) : (Int × Int) × Int := if isRatio a.1 a.2 = true ∧ isRatio b.1 b.2 = true then reduced (a.1 * b.2 + b.1 * a.2) (a.2 * b.2) else ((0, 0), 1)
def subR (a b : Int × Int) : (Int × Int) × Int := if isRatio a.1 a.2 = true ∧ isRatio b.1 b.2 = true then reduced (a.1 * b.2 - b.1 * a.2) (a.2 * b.2) else ((0, 0), 1)
def mulR (a b : Int × Int) : (Int × Int) × Int := if isRatio a.1 a.2 = true ∧ isRatio b.1 b.2 = true then reduced (a.1 * b.1) (a.2 * b.2) else ((0, 0), 1)
theorem opR_no {f : Int → Int → (Int × Int) × Int} {a b : Int × Int} {x y : Int} (h : isRatio a.1 a.2 = false ∨ isRatio b.1 b.2 = false) : (if isRatio a.1 a.2 = true ∧ isRatio b.1 b.2 = true then f x y else ((0, 0), 1)) = ((0, 0), 1) := by
 rw [if_neg]; rintro ⟨h1, h2⟩; rcases h with h | h <;> simp_all
/-- A share. -/
def isShare (n d : Int) : Bool := isRatio n d && decide (0 ≤ n ∧ n ≤ d)
/-- A quotient of numbers of chips, and a code. -/
def quot (num den : Int) : (Int × Int) × Int := if den = 0 then ((0, 0), 5) else reduced num den
def quotR (a b num den : Int) : (Int × Int) × Int := if (0 ≤ a ∧ a ≤ 1000000) ∧ (0 ≤ b ∧ b ≤ 1000000) then quot num den else ((0, 0), 2)
/-- Several operations, of which the first error is kept. -/
def stp (f : Int × Int → Int × Int → (Int × Int) × Int) (c : Int) (a b : Int × Int) : (Int × Int) × Int := if c ≠ 0 then ((0, 1), c) else f a b
def fin (r : (Int × Int) × Int) : (Int × Int) × Int := if r.2 ≠ 0 then ((0, 0), r.2) else (r.1, 0)
def bnd (r : (Int × Int) × Int) (f : Int × Int → (Int × Int) × Int) : (Int × Int) × Int := if r.2 ≠ 0 then ((0, 0), r.2) else f r.1
def callW (pot call : Int) (e : Int × Int) : (Int × Int) × Int := bnd (mulR e (pot + call, 1)) fun x => subR x (call, 1)
def callS (pot call : Int) (e : Int × Int) : (Int × Int) × Int :=
 fin (stp addR (stp mulR 0 e (pot + call, 1)).2 (stp mulR 0 e (pot + call, 1)).1 (-call, 1))
/-- What a call wins, and a code. -/
def callV (pot call : Int) (e : Int × Int) : (Int × Int) × Int :=
 if isShare e.1 e.2 = true then (if (0 ≤ pot ∧ pot ≤ 1000000) ∧ (0 ≤ call ∧ call ≤ 1000000) then callW pot call e else ((0, 0), 2)) else ((0, 0), 1)
def betW (pot bet : Int) (f e : Int × Int) : (Int × Int) × Int :=
 bnd (mulR e (pot + 2 * bet, 1)) fun won => bnd (subR won (bet, 1)) fun called => bnd (subR (1, 1) f) fun calls => bnd (mulR calls called) fun first => bnd (mulR f (pot, 1)) fun second => addR first second
def betS (pot bet : Int) (f e : Int × Int) : (Int × Int) × Int :=
 let won := stp mulR 0 e (pot + 2 * bet, 1)
 let called := stp addR won.2 won.1 (-bet, 1)
 let stay := stp addR called.2 (1, 1) (-f.1, f.2)
 let part := stp mulR stay.2 stay.1 called.1
 let wn := stp mulR part.2 f (pot, 1)
 fin (stp addR wn.2 wn.1 part.1)
/-- What a bet wins, and a code. -/
def betV (pot bet : Int) (f e : Int × Int) : (Int × Int) × Int :=
 if isShare f.1 f.2 = true ∧ isShare e.1 e.2 = true then (if (0 ≤ pot ∧ pot ≤ 1000000) ∧ (0 ≤ bet ∧ bet ≤ 1000000) then betW pot bet f e else ((0, 0), 2)) else ((0, 0), 1)
/-- What is left of a stack behind some streets. -/
def left : Nat → Int → Int → Int → Int
 | 0, _, s, _ => s
 | k + 1, p, s, b => left k (p + 2 * min s ((b * p + 99) / 100)) (s - min s ((b * p + 99) / 100)) b
def inGeo (pot stack streets : Int) : Prop := (1 ≤ pot ∧ pot ≤ 10000) ∧ (1 ≤ stack ∧ stack ≤ 10000) ∧ (1 ≤ streets ∧ streets ≤ 4)
/-- The least bet by which the whole stack goes in. -/
def isGeo (pot stack streets n : Int) : Prop := 0 ≤ n ∧ n ≤ 1000000 ∧ left streets.toNat pot stack n = 0 ∧ ∀ b, 0 ≤ b → b < n → left streets.toNat pot stack b ≠ 0
def Geo (pot stack streets : Int) (x : Int × Int) : Prop := (inGeo pot stack streets ∧ isGeo pot stack streets x.1 ∧ x.2 = 0) ∨ (¬ inGeo pot stack streets ∧ x = (0, 2))
end Go.Proofs.Ytjengglpbdgmnaa.Math
