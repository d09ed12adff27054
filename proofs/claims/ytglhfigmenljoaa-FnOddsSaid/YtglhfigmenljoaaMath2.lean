/- Plain arithmetic on the odds: what a call with the needed equity wins, and the like. No condition. -/
import Derived.Test.YtglhfigmenljoaaMath
set_option linter.unusedVariables false
namespace Go.Proofs.Ytglhfigmenljoaa.Math
theorem isRatio_iff {n d : Int} : isRatio n d = true ↔ (-1000000000 ≤ n ∧ n ≤ 1000000000) ∧ (1 ≤ d ∧ d ≤ 1000000000) ∧ gcdI n.natAbs d = 1 := by
  simp [isRatio, Bool.and_eq_true]
theorem gcdI_mul {x y k : Int} (hy : 1 ≤ y) (hk : 1 ≤ k) (h : gcdI x.natAbs y = 1) : gcdI (x * k).natAbs (y * k) = k := by
  unfold gcdI at *
  have h1 : ((x * k).natAbs : Int).toNat = x.natAbs * k.toNat := by
    rw [Int.natAbs_mul]; have : k.natAbs = k.toNat := by omega
    rw [this]; rfl
  have h2 : (y * k).toNat = y.toNat * k.toNat := Int.toNat_mul (by omega) (by omega)
  rw [h1, h2, Nat.gcd_mul_right]
  have h3 : Nat.gcd x.natAbs y.toNat = 1 := by
    have h' : ((Nat.gcd x.natAbs y.toNat : Nat) : Int) = 1 := by simpa using h
    omega
  rw [h3]; omega
theorem reduced_mul {x y k : Int} (h : isRatio x y = true) (hk : 1 ≤ k) : reduced (x * k) (y * k) = ((x, y), 0) := by
  obtain ⟨h1, h2, h3⟩ := isRatio_iff.1 h
  unfold reduced
  rw [gcdI_mul (by omega) hk h3, Int.mul_tdiv_cancel _ (by omega), Int.mul_ediv_cancel _ (by omega), if_pos h]
theorem reduced_ex {n d : Int} (hn : 0 ≤ n ∧ n ≤ 1000000000) (hd : 1 ≤ d ∧ d ≤ 1000000000) : ∃ x y k : Int, 1 ≤ k ∧ n = x * k ∧ d = y * k ∧ isRatio x y = true ∧ 0 ≤ x ∧ reduced n d = ((x, y), 0) := by
  have hg := gcdI_pos n.natAbs hd.1
  have hgd : gcdI n.natAbs d ∣ d := by
    unfold gcdI
    have := Nat.gcd_dvd_right ((n.natAbs : Int).toNat) d.toNat
    have h2 := Int.natCast_dvd_natCast.2 this
    rwa [Int.toNat_of_nonneg (by omega : 0 ≤ d)] at h2
  have hgn : gcdI n.natAbs d ∣ n := by
    unfold gcdI
    have := Nat.gcd_dvd_left ((n.natAbs : Int).toNat) d.toNat
    have h2 := Int.natCast_dvd_natCast.2 this
    rwa [show (((n.natAbs : Int).toNat : Nat) : Int) = n from by omega] at h2
  obtain ⟨x, hx⟩ := hgn
  obtain ⟨y, hy⟩ := hgd
  have hgg : gcdI x.natAbs y = 1 := by
    have hx0 : 0 ≤ x := by
      rcases Int.lt_or_le x 0 with h | h
      · have := Int.mul_neg_of_pos_of_neg (show 0 < gcdI n.natAbs d by omega) h; omega
      · exact h
    have hy0 : 0 < y := by
      rcases Int.lt_or_le 0 y with h | h
      · exact h
      · have := Int.mul_nonpos_of_nonneg_of_nonpos (show 0 ≤ gcdI n.natAbs d by omega) h; omega
    have e : gcdI n.natAbs d = gcdI n.natAbs d * gcdI x.natAbs y := by
      conv => lhs; unfold gcdI
      have h1 : ((n.natAbs : Int).toNat) = (gcdI n.natAbs d).toNat * x.natAbs := by
        have h2 : (n.natAbs) = (gcdI n.natAbs d).natAbs * x.natAbs := by rw [← Int.natAbs_mul, ← hx]
        have h3 : (gcdI n.natAbs d).natAbs = (gcdI n.natAbs d).toNat := by omega
        rw [← h3, ← h2]; omega
      have h4 : d.toNat = (gcdI n.natAbs d).toNat * y.toNat := by
        rw [← Int.toNat_mul (by omega) (by omega), ← hy]
      rw [h1, h4, Nat.gcd_mul_left]
      rw [Int.natCast_mul, Int.toNat_of_nonneg (by omega)]
      unfold gcdI; simp
    exact Int.eq_of_mul_eq_mul_left (show gcdI n.natAbs d ≠ 0 by omega) (show gcdI n.natAbs d * gcdI x.natAbs y = gcdI n.natAbs d * 1 by omega)
  have hx0 : 0 ≤ x := by
    rcases Int.lt_or_le x 0 with h | h
    · have := Int.mul_neg_of_pos_of_neg (show 0 < gcdI n.natAbs d by omega) h; omega
    · exact h
  have hy0 : 0 < y := by
    rcases Int.lt_or_le 0 y with h | h
    · exact h
    · have := Int.mul_nonpos_of_nonneg_of_nonpos (show 0 ≤ gcdI n.natAbs d by omega) h; omega
  have hxn : x ≤ n := by
    have := Int.mul_le_mul_of_nonneg_right hg hx0
    omega
  have hyd : y ≤ d := by
    have := Int.mul_le_mul_of_nonneg_right hg (show 0 ≤ y by omega)
    omega
  have hr : isRatio x y = true := isRatio_iff.2 ⟨by omega, by omega, hgg⟩
  have e1 : n = x * gcdI n.natAbs d := by rw [Int.mul_comm]; exact hx
  have e2 : d = y * gcdI n.natAbs d := by rw [Int.mul_comm]; exact hy
  refine ⟨x, y, gcdI n.natAbs d, hg, e1, e2, hr, hx0, ?_⟩
  generalize gcdI n.natAbs d = k at hg e1 e2
  subst e1 e2
  exact reduced_mul hr hg
theorem gcdI_compl {x y : Int} (hx : 0 ≤ x) (hxy : x ≤ y) (h : gcdI x.natAbs y = 1) : gcdI (y - x).natAbs y = 1 := by
  unfold gcdI at *
  have h1 : ((x.natAbs : Int).toNat) = x.toNat := by omega
  have h2 : (((y - x).natAbs : Int).toNat) = y.toNat - x.toNat := by omega
  have h3 : Nat.gcd x.toNat y.toNat = 1 := by rw [h1] at h; omega
  rw [h2]
  have h4 : Nat.gcd (y.toNat - x.toNat) y.toNat = Nat.gcd x.toNat y.toNat := by
    rw [Nat.gcd_comm, Nat.gcd_comm x.toNat, Nat.gcd_self_sub_right (by omega)]
  rw [h4, h3]; rfl
theorem isRatio_one {n : Int} (h : -1000000000 ≤ n ∧ n ≤ 1000000000) : isRatio n 1 = true := isRatio_iff.2 ⟨h, by omega, by unfold gcdI; simp⟩
/-- What was staked comes back: a call whose equity is exactly its part of the pot wins nothing. -/
theorem callV_zero {pot call x y k : Int} (hp : 0 ≤ pot ∧ pot ≤ 1000000) (hc : 0 ≤ call ∧ call ≤ 1000000) (hk : 1 ≤ k) (h1 : call = x * k) (h2 : pot + call = y * k) (hr : isRatio x y = true) (hx : 0 ≤ x) : callV pot call (x, y) = ((0, 1), 0) := by
  have hb := isRatio_bd hr
  have hxy : x ≤ y := by
    rcases Int.lt_or_le y x with h | h
    · have := Int.mul_lt_mul_of_pos_right h (show 0 < k by omega); omega
    · exact h
  have hs : isShare x y = true := by simp [isShare, hr, hx, hxy]
  rw [callV_W hs ⟨hp, hc⟩]
  have e : mulR (x, y) (pot + call, 1) = ((call, 1), 0) := by
    unfold mulR
    rw [if_pos ⟨hr, isRatio_one (by omega)⟩]
    have e1 : x * (pot + call) = call * y := by rw [h2, h1, Int.mul_assoc, Int.mul_comm k y]
    show reduced (x * (pot + call)) (y * 1) = _
    rw [e1, Int.mul_one, show reduced (call * y) y = reduced (call * y) (1 * y) from by rw [Int.one_mul]]
    exact reduced_mul (isRatio_one (by omega)) (by omega)
  unfold callW
  have hcr : isRatio call 1 = true := isRatio_one (by omega)
  rw [e, bnd_no (by simp)]
  unfold subR
  rw [if_pos ⟨hcr, hcr⟩]
  show reduced (call * 1 - call * 1) (1 * 1) = _
  rw [Int.sub_self]
  exact reduced_mul (x := 0) (y := 1) (k := 1) (isRatio_one (by omega)) (by omega)
theorem odds_ok {a b : Int} (h : ¬ (quotR a b b (a + b)).2 ≠ 0) :
    addR (quotR a b b (a + b)).1 (quotR a b a (a + b)).1 = ((1, 1), 0) ∧ callV a b (quotR a b b (a + b)).1 = ((0, 1), 0) := by
  by_cases hr : (0 ≤ a ∧ a ≤ 1000000) ∧ (0 ≤ b ∧ b ≤ 1000000)
  · by_cases hd : a + b = 0
    · rw [quotR_0 hr hd] at h; exact absurd (by decide) h
    · rw [quotR_1 hr hd, quotR_1 hr hd]
      obtain ⟨x, y, k, hk, e1, e2, hxy, hx, e3⟩ := reduced_ex (n := b) (d := a + b) (by omega) (by omega)
      have hb := isRatio_iff.1 hxy
      have hle : x ≤ y := by
        rcases Int.lt_or_le y x with h | h
        · have := Int.mul_lt_mul_of_pos_right h (show 0 < k by omega); omega
        · exact h
      have hr2 : isRatio (y - x) y = true := isRatio_iff.2 ⟨by omega, by omega, gcdI_compl hx hle hb.2.2⟩
      have e4 : a = (y - x) * k := by rw [Int.sub_mul]; omega
      have e5 : reduced a (a + b) = ((y - x, y), 0) := by rw [e2, e4]; exact reduced_mul hr2 hk
      rw [e3, e5]
      refine ⟨?_, callV_zero hr.1 hr.2 hk e1 e2 hxy hx⟩
      unfold addR
      rw [if_pos ⟨hxy, hr2⟩]
      show reduced (x * y + (y - x) * y) (y * y) = _
      rw [← Int.add_mul, show x + (y - x) = y from by omega]
      have := reduced_mul (x := 1) (y := 1) (k := y * y) (by decide) (by have := Int.mul_pos (show 0 < y by omega) (show 0 < y by omega); omega)
      rwa [Int.one_mul] at this
  · rw [quotR_no hr] at h; exact absurd (by decide) h
theorem bluff_ok {a b : Int} (h : (quotR a b b (a + 2 * b)).2 = 0) : ((0 ≤ a ∧ a ≤ 1000000) ∧ (0 ≤ b ∧ b ≤ 1000000)) ∧ (a + b ≤ 1000000 → callV (a + b) b (quotR a b b (a + 2 * b)).1 = ((0, 1), 0)) := by
  by_cases hr : (0 ≤ a ∧ a ≤ 1000000) ∧ (0 ≤ b ∧ b ≤ 1000000)
  · refine ⟨hr, fun hab => ?_⟩
    by_cases hd : a + 2 * b = 0
    · rw [quotR_0 hr hd] at h; exact absurd h (by decide)
    · rw [quotR_1 hr hd]
      obtain ⟨x, y, k, hk, e1, e2, hxy, hx, e3⟩ := reduced_ex (n := b) (d := a + 2 * b) (by omega) (by omega)
      rw [e3]
      exact callV_zero (by omega) hr.2 hk e1 (by omega) hxy hx
  · rw [quotR_no hr] at h; exact absurd h (by decide)
theorem reduced_ok {n d : Int} (h : (reduced n d).2 = 0) : isRatio (reduced n d).1.1 (reduced n d).1.2 = true := by
  unfold reduced at *
  split at h
  · rename_i hr; simp only [hr, if_true]
  · cases h
theorem subR_ok {a b : Int × Int} (h : (subR a b).2 = 0) : isRatio (subR a b).1.1 (subR a b).1.2 = true := by
  unfold subR at *
  split at h
  · rename_i hr; rw [if_pos hr]; exact reduced_ok h
  · cases h
theorem bnd_ok {r : (Int × Int) × Int} {f : Int × Int → (Int × Int) × Int} (h : (bnd r f).2 = 0) : r.2 = 0 ∧ (f r.1).2 = 0 := by
  unfold bnd at h
  split at h
  · rename_i hr; exact absurd h hr
  · rename_i hr; exact ⟨by simpa using hr, h⟩
theorem bet_ok {pot bet : Int} {f e : Int × Int} (h : ¬ (betV pot bet f e).2 ≠ 0) : betV pot bet (1, 1) e = ((pot, 1), 0) := by
  have h : (betV pot bet f e).2 = 0 := by simpa using h
  unfold betV at h
  split at h
  · rename_i hs
    split at h
    · rename_i hr
      have h1 : isShare 1 1 = true := by decide
      unfold betV
      rw [if_pos ⟨h1, hs.2⟩, if_pos hr]
      unfold betW at h ⊢
      obtain ⟨h2, h⟩ := bnd_ok h
      obtain ⟨h3, h⟩ := bnd_ok h
      rw [bnd_no (by simpa using h2), bnd_no (by simpa using h3)]
      have e1 : subR (1, 1) (1, 1) = ((0, 1), 0) := by decide
      rw [e1, bnd_no (by decide)]
      have h4 := subR_ok h3
      generalize (subR (mulR e (pot + 2 * bet, 1)).1 (bet, 1)).1 = c at h4
      have hb := isRatio_bd h4
      have e2 : mulR (0, 1) c = ((0, 1), 0) := by
        unfold mulR
        rw [if_pos ⟨by decide, h4⟩]
        have := reduced_mul (x := 0) (y := 1) (k := c.2) (by decide) (by omega)
        simpa using this
      have e3 : mulR (1, 1) (pot, 1) = ((pot, 1), 0) := by
        unfold mulR
        rw [if_pos ⟨by decide, isRatio_one (by omega)⟩]
        have := reduced_mul (x := pot) (y := 1) (k := 1) (isRatio_one (by omega)) (by omega)
        simpa using this
      have e4 : addR (0, 1) (pot, 1) = ((pot, 1), 0) := by
        unfold addR
        rw [if_pos ⟨by decide, isRatio_one (by omega)⟩]
        have := reduced_mul (x := pot) (y := 1) (k := 1) (isRatio_one (by omega)) (by omega)
        simpa using this
      show bnd (mulR (0, 1) c) _ = _
      rw [e2, bnd_no (by decide), e3, bnd_no (by simp)]
      exact e4
    · cases h
  · cases h
end Go.Proofs.Ytglhfigmenljoaa.Math
