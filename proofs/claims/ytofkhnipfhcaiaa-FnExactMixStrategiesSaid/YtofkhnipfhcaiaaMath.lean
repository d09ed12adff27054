/- Plain arithmetic on numbers, ratios and odds. No condition. -/
import Derived.RowKit
set_option linter.unusedVariables false
namespace Go.Proofs.Ytofkhnipfhcaiaa.Math
theorem mod_lt {p q : Int} (hp : 0 ≤ p) (hq : 0 < q) : (p % q).toNat < q.toNat := by
  have h1 := Int.emod_nonneg p (show q ≠ 0 by omega)
  have h2 := Int.emod_lt_of_pos p hq
  omega
def gcdI (a b : Int) : Int := (Nat.gcd a.toNat b.toNat : Int)
theorem gcd_step {p q : Int} (hp : 0 ≤ p) (hq : 0 < q) : gcdI q (p % q) = gcdI p q := by
  unfold gcdI
  have : (p % q).toNat = p.toNat % q.toNat := by
    rw [Int.toNat_emod hp (by omega)]
  rw [this, Nat.gcd_comm, ← Nat.gcd_rec, Nat.gcd_comm]
theorem gcd_end {p q : Int} (hp : 0 ≤ p) (hq : q = 0) : p = gcdI p q := by
  unfold gcdI; subst hq; simp; omega
theorem gcdI_pos (a : Int) {b : Int} (hb : 1 ≤ b) : 1 ≤ gcdI a b := by
  unfold gcdI
  have := Nat.gcd_pos_of_pos_right a.toNat (show 0 < b.toNat by omega)
  omega
/-- A valid ratio. -/
def isRatio (n d : Int) : Bool := decide (-1000000000 ≤ n ∧ n ≤ 1000000000) && (decide (1 ≤ d ∧ d ≤ 1000000000) && decide (gcdI n.natAbs d = 1))
/-- The ratio of two integers, the second at least 1, and a code. -/
def reduced (num den : Int) : (Int × Int) × Int :=
  if isRatio (num.tdiv (gcdI num.natAbs den)) (den / gcdI num.natAbs den) then ((num.tdiv (gcdI num.natAbs den), den / gcdI num.natAbs den), 0) else ((0, 0), 3)
theorem isRatio_bd {n d : Int} (h : isRatio n d = true) : (-1000000000 ≤ n ∧ n ≤ 1000000000) ∧ (1 ≤ d ∧ d ≤ 1000000000) := by
  simp only [isRatio, Bool.and_eq_true, decide_eq_true_eq] at h
  exact ⟨h.1, h.2.1⟩
theorem prod_bd {x y : Int} (hx : -1000000000 ≤ x ∧ x ≤ 1000000000) (hy : -1000000000 ≤ y ∧ y ≤ 1000000000) : -1000000000000000000 ≤ x * y ∧ x * y ≤ 1000000000000000000 := by
  have h1 : x.natAbs ≤ 1000000000 := by omega
  have h2 : y.natAbs ≤ 1000000000 := by omega
  have h3 : (x * y).natAbs ≤ 1000000000 * 1000000000 := by rw [Int.natAbs_mul]; exact Nat.mul_le_mul h1 h2
  omega
theorem prod_pos {x y : Int} (hx : 1 ≤ x) (hy : 1 ≤ y) : 1 ≤ x * y := Int.mul_pos (by omega) (by omega)
def addR (a b : Int × Int) : (Int × Int) × Int := if isRatio a.1 a.2 = true ∧ isRatio b.1 b.2 = true then reduced (a.1 * b.2 + b.1 * a.2) (a.2 * b.2) else ((0, 0), 1)
def subR (a b : Int × Int) : (Int × Int) × Int := if isRatio a.1 a.2 = true ∧ isRatio b.1 b.2 = true then reduced (a.1 * b.2 - b.1 * a.2) (a.2 * b.2) else ((0, 0), 1)
def mulR (a b : Int × Int) : (Int × Int) × Int := if isRatio a.1 a.2 = true ∧ isRatio b.1 b.2 = true then reduced (a.1 * b.1) (a.2 * b.2) else ((0, 0), 1)
theorem opR_no {f : Int → Int → (Int × Int) × Int} {a b : Int × Int} {x y : Int} (h : isRatio a.1 a.2 = false ∨ isRatio b.1 b.2 = false) : (if isRatio a.1 a.2 = true ∧ isRatio b.1 b.2 = true then f x y else ((0, 0), 1)) = ((0, 0), 1) := by
  rw [if_neg]; rintro ⟨h1, h2⟩; rcases h with h | h <;> simp_all
theorem isRatio_neg (n d : Int) : isRatio (-n) d = isRatio n d := by
  unfold isRatio
  rw [Int.natAbs_neg]
  congr 1
  rw [decide_eq_decide]; omega
theorem subR_add (a b : Int × Int) : subR a b = addR a (-b.1, b.2) := by
  unfold subR addR
  simp only [isRatio_neg]
  rw [show a.1 * b.2 - b.1 * a.2 = a.1 * b.2 + -b.1 * a.2 from by rw [Int.neg_mul]; omega]
/-- A share. -/
def isShare (n d : Int) : Bool := isRatio n d && decide (0 ≤ n ∧ n ≤ d)
/-- A quotient of numbers of chips, and a code. -/
def quot (num den : Int) : (Int × Int) × Int := if den = 0 then ((0, 0), 5) else reduced num den
def quotR (a b num den : Int) : (Int × Int) × Int := if (0 ≤ a ∧ a ≤ 1000000) ∧ (0 ≤ b ∧ b ≤ 1000000) then quot num den else ((0, 0), 2)
theorem quotR_yes {a b num den : Int} (h : (0 ≤ a ∧ a ≤ 1000000) ∧ (0 ≤ b ∧ b ≤ 1000000)) : quotR a b num den = quot num den := if_pos h
theorem quotR_no {a b num den : Int} (h : ¬ ((0 ≤ a ∧ a ≤ 1000000) ∧ (0 ≤ b ∧ b ≤ 1000000))) : quotR a b num den = ((0, 0), 2) := if_neg h
theorem quotR_0 {a b num den : Int} (h : (0 ≤ a ∧ a ≤ 1000000) ∧ (0 ≤ b ∧ b ≤ 1000000)) (hd : den = 0) : quotR a b num den = ((0, 0), 5) := by rw [quotR_yes h]; exact if_pos hd
theorem quotR_1 {a b num den : Int} (h : (0 ≤ a ∧ a ≤ 1000000) ∧ (0 ≤ b ∧ b ≤ 1000000)) (hd : ¬ den = 0) : quotR a b num den = reduced num den := by rw [quotR_yes h]; exact if_neg hd
theorem quotR_swap (a b : Int) : quotR b a a (b + a) = quotR a b a (a + b) := by
  unfold quotR
  rw [Int.add_comm b a]
  by_cases h : (0 ≤ a ∧ a ≤ 1000000) ∧ (0 ≤ b ∧ b ≤ 1000000)
  · rw [if_pos h, if_pos ⟨h.2, h.1⟩]
  · rw [if_neg h, if_neg (fun h' => h ⟨h'.2, h'.1⟩)]
/-- Several operations, of which the first error is kept. -/
def stp (f : Int × Int → Int × Int → (Int × Int) × Int) (c : Int) (a b : Int × Int) : (Int × Int) × Int := if c ≠ 0 then ((0, 1), c) else f a b
theorem stp_yes {f : Int × Int → Int × Int → (Int × Int) × Int} {c : Int} {a b : Int × Int} (h : c ≠ 0) : stp f c a b = ((0, 1), c) := if_pos h
theorem stp_no {f : Int × Int → Int × Int → (Int × Int) × Int} {c : Int} {a b : Int × Int} (h : ¬ c ≠ 0) : stp f c a b = f a b := if_neg h
def fin (r : (Int × Int) × Int) : (Int × Int) × Int := if r.2 ≠ 0 then ((0, 0), r.2) else (r.1, 0)
theorem fin_yes {a b c : Int} (h : c ≠ 0) : fin ((a, b), c) = ((0, 0), c) := if_pos h
theorem fin_no {a b c : Int} (h : ¬ c ≠ 0) : fin ((a, b), c) = ((a, b), 0) := if_neg h
def bnd (r : (Int × Int) × Int) (f : Int × Int → (Int × Int) × Int) : (Int × Int) × Int := if r.2 ≠ 0 then ((0, 0), r.2) else f r.1
theorem bnd_yes {r : (Int × Int) × Int} {f : Int × Int → (Int × Int) × Int} (h : r.2 ≠ 0) : bnd r f = ((0, 0), r.2) := if_pos h
theorem bnd_no {r : (Int × Int) × Int} {f : Int × Int → (Int × Int) × Int} (h : ¬ r.2 ≠ 0) : bnd r f = f r.1 := if_neg h
theorem reduced_code (n d : Int) : (reduced n d).2 ≠ 0 → (reduced n d).1 = (0, 0) := by unfold reduced; split <;> simp
theorem op_code {f : (Int × Int) × Int} {p : Prop} [Decidable p] {n d : Int} (hf : f = if p then reduced n d else ((0, 0), 1)) : f.2 ≠ 0 → f.1 = (0, 0) := by
  subst hf; split
  · exact reduced_code n d
  · simp
theorem addR_code (a b : Int × Int) : (addR a b).2 ≠ 0 → (addR a b).1 = (0, 0) := op_code rfl
theorem subR_code (a b : Int × Int) : (subR a b).2 ≠ 0 → (subR a b).1 = (0, 0) := op_code rfl
theorem mulR_code (a b : Int × Int) : (mulR a b).2 ≠ 0 → (mulR a b).1 = (0, 0) := op_code rfl
theorem addR_comm (a b : Int × Int) : addR a b = addR b a := by
  unfold addR
  rw [show a.1 * b.2 + b.1 * a.2 = b.1 * a.2 + a.1 * b.2 from Int.add_comm _ _, Int.mul_comm a.2 b.2]
  by_cases h1 : isRatio a.1 a.2 = true <;> by_cases h2 : isRatio b.1 b.2 = true <;> simp [h1, h2]
def callW (pot call : Int) (e : Int × Int) : (Int × Int) × Int := bnd (mulR e (pot + call, 1)) fun x => subR x (call, 1)
def callS (pot call : Int) (e : Int × Int) : (Int × Int) × Int :=
  fin (stp addR (stp mulR 0 e (pot + call, 1)).2 (stp mulR 0 e (pot + call, 1)).1 (-call, 1))
theorem fin_code {r : (Int × Int) × Int} (h : r.2 ≠ 0 → r.1 = (0, 0)) : fin r = r := by
  unfold fin
  by_cases h2 : r.2 ≠ 0
  · rw [if_pos h2, ← h h2]
  · rw [if_neg h2]; have : r.2 = 0 := by simpa using h2
    rw [← this]
theorem callS_eq (pot call : Int) (e : Int × Int) : callS pot call e = callW pot call e := by
  unfold callS callW
  rw [stp_no (c := 0) (by simp)]
  unfold bnd
  by_cases h : (mulR e (pot + call, 1)).2 ≠ 0
  · rw [stp_yes h, if_pos h]; simp [fin, h]
  · rw [stp_no h, if_neg h, ← subR_add (mulR e (pot + call, 1)).1 (call, 1)]
    exact fin_code (subR_code _ _)
/-- What a call wins, and a code. -/
def callV (pot call : Int) (e : Int × Int) : (Int × Int) × Int :=
  if isShare e.1 e.2 = true then (if (0 ≤ pot ∧ pot ≤ 1000000) ∧ (0 ≤ call ∧ call ≤ 1000000) then callW pot call e else ((0, 0), 2)) else ((0, 0), 1)
theorem isShare_bd {n d : Int} (h : isShare n d = true) : (0 ≤ n ∧ n ≤ d) ∧ (1 ≤ d ∧ d ≤ 1000000000) := by
  simp only [isShare, Bool.and_eq_true, decide_eq_true_eq] at h
  exact ⟨h.2, (isRatio_bd h.1).2⟩
theorem callV_1 {pot call a b : Int} (h : isShare a b = false) : callV pot call (a, b) = ((0, 0), 1) := by unfold callV; rw [if_neg (by simp [h])]
theorem callV_2 {pot call a b : Int} (h : isShare a b = true) (h2 : ¬ ((0 ≤ pot ∧ pot ≤ 1000000) ∧ (0 ≤ call ∧ call ≤ 1000000))) : callV pot call (a, b) = ((0, 0), 2) := by unfold callV; rw [if_pos h, if_neg h2]
theorem callV_W {pot call a b : Int} (h : isShare a b = true) (h2 : (0 ≤ pot ∧ pot ≤ 1000000) ∧ (0 ≤ call ∧ call ≤ 1000000)) : callV pot call (a, b) = callW pot call (a, b) := by unfold callV; rw [if_pos h, if_pos h2]
theorem callV_3 {pot call a b : Int} (h : isShare a b = true) (h2 : (0 ≤ pot ∧ pot ≤ 1000000) ∧ (0 ≤ call ∧ call ≤ 1000000)) (h3 : (mulR (a, b) (pot + call, 1)).2 ≠ 0) : callV pot call (a, b) = ((0, 0), (mulR (a, b) (pot + call, 1)).2) := by rw [callV_W h h2]; exact if_pos h3
theorem callV_4 {pot call a b : Int} (h : isShare a b = true) (h2 : (0 ≤ pot ∧ pot ≤ 1000000) ∧ (0 ≤ call ∧ call ≤ 1000000)) (h3 : ¬ (mulR (a, b) (pot + call, 1)).2 ≠ 0) : callV pot call (a, b) = subR (mulR (a, b) (pot + call, 1)).1 (call, 1) := by rw [callV_W h h2]; exact if_neg h3
theorem callV_S {pot call a b : Int} (h : isShare a b = true) (h2 : (0 ≤ pot ∧ pot ≤ 1000000) ∧ (0 ≤ call ∧ call ≤ 1000000)) : callV pot call (a, b) = callS pot call (a, b) := by rw [callV_W h h2, callS_eq]
def betW (pot bet : Int) (f e : Int × Int) : (Int × Int) × Int :=
  bnd (mulR e (pot + 2 * bet, 1)) fun won => bnd (subR won (bet, 1)) fun called => bnd (subR (1, 1) f) fun calls => bnd (mulR calls called) fun first => bnd (mulR f (pot, 1)) fun second => addR first second
def betS (pot bet : Int) (f e : Int × Int) : (Int × Int) × Int :=
  let won := stp mulR 0 e (pot + 2 * bet, 1)
  let called := stp addR won.2 won.1 (-bet, 1)
  let stay := stp addR called.2 (1, 1) (-f.1, f.2)
  let part := stp mulR stay.2 stay.1 called.1
  let wn := stp mulR part.2 f (pot, 1)
  fin (stp addR wn.2 wn.1 part.1)
theorem betS_eq (pot bet : Int) (f e : Int × Int) : betS pot bet f e = betW pot bet f e := by
  unfold betS betW
  simp only []
  rw [stp_no (c := 0) (by simp)]
  unfold bnd
  by_cases h1 : (mulR e (pot + 2 * bet, 1)).2 ≠ 0
  · rw [if_pos h1]; simp only [stp_yes h1]; simp [fin, h1]
  rw [if_neg h1]; simp only [stp_no h1, ← subR_add (mulR e (pot + 2 * bet, 1)).1 (bet, 1)]
  generalize mulR e (pot + 2 * bet, 1) = r1 at *
  by_cases h2 : (subR r1.1 (bet, 1)).2 ≠ 0
  · rw [if_pos h2]; simp only [stp_yes h2]; simp [fin, h2]
  rw [if_neg h2]; simp only [stp_no h2, ← subR_add (1, 1) f]
  generalize subR r1.1 (bet, 1) = r2 at *
  by_cases h3 : (subR (1, 1) f).2 ≠ 0
  · rw [if_pos h3]; simp only [stp_yes h3]; simp [fin, h3]
  rw [if_neg h3]; simp only [stp_no h3]
  generalize subR (1, 1) f = r3 at *
  by_cases h4 : (mulR r3.1 r2.1).2 ≠ 0
  · rw [if_pos h4]; simp only [stp_yes h4]; simp [fin, h4]
  rw [if_neg h4]; simp only [stp_no h4]
  generalize mulR r3.1 r2.1 = r4 at *
  by_cases h5 : (mulR f (pot, 1)).2 ≠ 0
  · rw [if_pos h5]; simp only [stp_yes h5]; simp [fin, h5]
  rw [if_neg h5]; simp only [stp_no h5]
  rw [addR_comm]
  exact fin_code (addR_code _ _)
/-- What a bet wins, and a code. -/
def betV (pot bet : Int) (f e : Int × Int) : (Int × Int) × Int :=
  if isShare f.1 f.2 = true ∧ isShare e.1 e.2 = true then (if (0 ≤ pot ∧ pot ≤ 1000000) ∧ (0 ≤ bet ∧ bet ≤ 1000000) then betW pot bet f e else ((0, 0), 2)) else ((0, 0), 1)
theorem betV_0 {pot bet a b c d : Int} (h : ¬ (isShare a b = true ∧ isShare c d = true)) : betV pot bet (a, b) (c, d) = ((0, 0), 1) := if_neg h
theorem betV_2 {pot bet a b c d : Int} (h : isShare a b = true) (h1 : isShare c d = true) (h2 : ¬ ((0 ≤ pot ∧ pot ≤ 1000000) ∧ (0 ≤ bet ∧ bet ≤ 1000000))) : betV pot bet (a, b) (c, d) = ((0, 0), 2) := by unfold betV; rw [if_pos ⟨h, h1⟩, if_neg h2]
theorem betV_W {pot bet a b c d : Int} (h : isShare a b = true) (h1 : isShare c d = true) (h2 : (0 ≤ pot ∧ pot ≤ 1000000) ∧ (0 ≤ bet ∧ bet ≤ 1000000)) : betV pot bet (a, b) (c, d) = betW pot bet (a, b) (c, d) := by unfold betV; rw [if_pos ⟨h, h1⟩, if_pos h2]
theorem betV_S {pot bet a b c d : Int} (h : isShare a b = true) (h1 : isShare c d = true) (h2 : (0 ≤ pot ∧ pot ≤ 1000000) ∧ (0 ≤ bet ∧ bet ≤ 1000000)) : betV pot bet (a, b) (c, d) = betS pot bet (a, b) (c, d) := by unfold betV; rw [if_pos ⟨h, h1⟩, if_pos h2, betS_eq]
/-- What is left of a stack behind some streets. -/
def left : Nat → Int → Int → Int → Int
  | 0, _, s, _ => s
  | k + 1, p, s, b => left k (p + 2 * min s ((b * p + 99) / 100)) (s - min s ((b * p + 99) / 100)) b
theorem left_step {k : Nat} {p s b : Int} (hk : 0 < k) : left k p s b = left (k - 1) (p + 2 * min s ((b * p + 99) / 100)) (s - min s ((b * p + 99) / 100)) b := by
  obtain ⟨j, rfl⟩ : ∃ j, k = j + 1 := ⟨k - 1, by omega⟩
  rfl
theorem bp_bd {b p : Int} (hb : 0 ≤ b ∧ b ≤ 1000000) (hp : 0 ≤ p ∧ p ≤ 30000) : 0 ≤ b * p ∧ b * p ≤ 30000000000 := by
  refine ⟨Int.mul_nonneg hb.1 hp.1, ?_⟩
  have h1 : b * p ≤ 1000000 * p := Int.mul_le_mul_of_nonneg_right hb.2 hp.1
  omega
theorem left_mono (k : Nat) : ∀ (p s b p' s' b' : Int), 0 ≤ b → b ≤ b' → 0 ≤ p → 0 ≤ s' → s' ≤ s → p + 2 * s = p' + 2 * s' → left k p' s' b' ≤ left k p s b := by
  induction k with
  | zero => intro p s b p' s' b' _ _ _ _ h _; exact h
  | succ k ih =>
    intro p s b p' s' b' hb hbb hp hs hss he
    simp only [left]
    have h0 : 0 ≤ b * p := Int.mul_nonneg hb hp
    have h1 : b * p ≤ b' * p := Int.mul_le_mul_of_nonneg_right hbb hp
    have h2 : b' * p ≤ b' * p' := Int.mul_le_mul_of_nonneg_left (by omega) (by omega)
    have h3 : (b * p + 99) / 100 ≤ (b' * p' + 99) / 100 := by omega
    have h4 : 0 ≤ (b * p + 99) / 100 := by omega
    generalize (b * p + 99) / 100 = c at *
    generalize (b' * p' + 99) / 100 = c' at *
    exact ih _ _ _ _ _ _ hb hbb (by omega) (by omega) (by omega) (by omega)
theorem left_zero (k : Nat) : ∀ (p b : Int), 0 ≤ b → 0 ≤ p → left k p 0 b = 0 := by
  induction k with
  | zero => intro p b _ _; rfl
  | succ k ih =>
    intro p b hb hp
    have h0 : 0 ≤ b * p := Int.mul_nonneg hb hp
    have hm : min 0 ((b * p + 99) / 100) = 0 := by omega
    simp only [left, hm]
    simpa using ih p b hb hp
theorem left_top {k : Nat} {p s : Int} (hk : 1 ≤ k) (hp : 1 ≤ p) (hs : 0 ≤ s ∧ s ≤ 10000) : left k p s 1000000 = 0 := by
  obtain ⟨k, rfl⟩ : ∃ j, k = j + 1 := ⟨k - 1, by omega⟩
  have hm : min s ((1000000 * p + 99) / 100) = s := by omega
  simp only [left, hm]
  rw [Int.sub_self]
  exact left_zero k _ _ (by omega) (by omega)
def inGeo (pot stack streets : Int) : Prop := (1 ≤ pot ∧ pot ≤ 10000) ∧ (1 ≤ stack ∧ stack ≤ 10000) ∧ (1 ≤ streets ∧ streets ≤ 4)
/-- The least bet by which the whole stack goes in. -/
def isGeo (pot stack streets n : Int) : Prop := 0 ≤ n ∧ n ≤ 1000000 ∧ left streets.toNat pot stack n = 0 ∧ ∀ b, 0 ≤ b → b < n → left streets.toNat pot stack b ≠ 0
def Geo (pot stack streets : Int) (x : Int × Int) : Prop := (inGeo pot stack streets ∧ isGeo pot stack streets x.1 ∧ x.2 = 0) ∨ (¬ inGeo pot stack streets ∧ x = (0, 2))
theorem isGeo_one {pot stack streets n m : Int} (h : isGeo pot stack streets n) (h' : isGeo pot stack streets m) : n = m := by
  obtain ⟨h1, h2, h3, h4⟩ := h
  obtain ⟨k1, k2, k3, k4⟩ := h'
  rcases Int.lt_trichotomy n m with h | h | h
  · exact absurd h3 (k4 n h1 h)
  · exact h
  · exact absurd k3 (h4 m k1 h)
theorem Geo_one {pot stack streets : Int} {x y : Int × Int} (h : Geo pot stack streets x) (h' : Geo pot stack streets y) : x = y := by
  rcases h with ⟨h1, h2, h3⟩ | ⟨h1, h2⟩ <;> rcases h' with ⟨k1, k2, k3⟩ | ⟨k1, k2⟩
  · exact Prod.ext (isGeo_one h2 k2) (by rw [h3, k3])
  · exact absurd h1 k1
  · exact absurd k1 h1
  · rw [h2, k2]
theorem left_nonneg (k : Nat) : ∀ (p s b : Int), 0 ≤ s → 0 ≤ left k p s b := by
  induction k with
  | zero => intro p s b h; exact h
  | succ k ih => intro p s b h; simp only [left]; exact ih _ _ _ (by omega)
theorem left_dn {k : Nat} {pot stack m b : Int} (hp : 0 ≤ pot) (hs : 0 ≤ stack) (hm : left k pot stack m ≠ 0) (hb : 0 ≤ b) (hbm : b ≤ m) : left k pot stack b ≠ 0 := by
  have := left_mono k pot stack b pot stack m hb hbm hp hs (Int.le_refl _) rfl
  have := left_nonneg k pot stack m hs
  omega
theorem left_none (k : Nat) : ∀ (p s : Int), 0 ≤ s → left k p s 0 = s := by
  induction k with
  | zero => intro p s _; rfl
  | succ k ih =>
    intro p s hs
    have hm : min s ((0 * p + 99) / 100) = 0 := by omega
    simp only [left, hm]
    simpa using ih p s hs
theorem isGeo_pos {pot stack streets n : Int} (hs : 1 ≤ stack) (h : isGeo pot stack streets n) : 1 ≤ n := by
  obtain ⟨h1, h2, h3, h4⟩ := h
  rcases Int.lt_or_eq_of_le h1 with h | h
  · omega
  · subst h; rw [left_none _ _ _ (by omega)] at h3; omega
end Go.Proofs.Ytofkhnipfhcaiaa.Math
