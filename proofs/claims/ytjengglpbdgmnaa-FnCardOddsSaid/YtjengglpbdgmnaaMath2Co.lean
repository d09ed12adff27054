/- Plain arithmetic on the odds: what a call with the needed equity wins, and the like. No condition. -/
import Derived.Test.YtjengglpbdgmnaaMathCo
set_option linter.unusedVariables false
namespace Go.Proofs.Ytjengglpbdgmnaa.Math
theorem isRatio_iff {n d : Int} : isRatio n d = true ↔ (-1000000000 ≤ n ∧ n ≤ 1000000000) ∧ (1 ≤ d ∧ d ≤ 1000000000) ∧ gcdI n.natAbs d = 1 := by
  simp [isRatio, Bool.and_eq_true]
theorem gcdI_mul {x y k : Int} (hy : 1 ≤ y) (hk : 1 ≤ k) (h : gcdI x.natAbs y = 1) : gcdI (x * k).natAbs (y * k) = k := by
  unfold gcdI at *
  have h1 : ((x * k).natAbs : Int).toNat = x.natAbs * k.toNat := by
    rw [Int.natAbs_mul]; have : k.natAbs = k.toNat := by omega
    rw [this]; rfl
  have h2 : (y * k).toNat = y.toNat * k.toNat := Int.toNat_mul (by omega) (by omega)
  rw [h1, h2, Nat.gcd_mul_right]
  have h3 : Nat.gcd x.natAbs y.toNat = 1 := by
    have h' : ((Nat.gcd x.natAbs y.toNat : Nat) : Int) = 1 := by simpa using h
    omega
  rw [h3]; omega
theorem reduced_mul {x y k : Int} (h : isRatio x y = true) (hk : 1 ≤ k) : reduced (x * k) (y * k) = ((x, y), 0) := by
  obtain ⟨h1, h2, h3⟩ := isRatio_iff.1 h
  unfold reduced
  rw [gcdI_mul (by omega) hk h3, Int.mul_tdiv_cancel _ (by omega), Int.mul_ediv_cancel _ (by omega), if_pos h]
theorem reduced_ex {n d : Int} (hn : 0 ≤ n ∧ n ≤ 1000000000) (hd : 1 ≤ d ∧ d ≤ 1000000000) : ∃ x y k : Int, 1 ≤ k ∧ n = x * k ∧ d = y * k ∧ isRatio x y = true ∧ 0 ≤ x ∧ reduced n d = ((x, y), 0) := by
  have hg := gcdI_pos n.natAbs hd.1
  have hgd : gcdI n.natAbs d ∣ d := by
    unfold gcdI
    have := Nat.gcd_dvd_right ((n.natAbs : Int).toNat) d.toNat
    have h2 := Int.natCast_dvd_natCast.2 this
    rwa [Int.toNat_of_nonneg (by omega : 0 ≤ d)] at h2
  have hgn : gcdI n.natAbs d ∣ n := by
    unfold gcdI
    have := Nat.gcd_dvd_left ((n.natAbs : Int).toNat) d.toNat
    have h2 := Int.natCast_dvd_natCast.2 this
    rwa [show (((n.natAbs : Int).toNat : Nat) : Int) = n from by omega] at h2
  obtain ⟨x, hx⟩ := hgn
  obtain ⟨y, hy⟩ := hgd
  have hgg : gcdI x.natAbs y = 1 := by
    have hx0 : 0 ≤ x := by
      rcases Int.lt_or_le x 0 with h | h
      · have := Int.mul_neg_of_pos_of_neg (show 0 < gcdI n.natAbs d by omega) h; omega
      · exact h
    have hy0 : 0 < y := by
      rcases Int.lt_or_le 0 y with h | h
      · exact h
      · have := Int.mul_nonpos_of_nonneg_of_nonpos (show 0 ≤ gcdI n.natAbs d by omega) h; omega
    have e : gcdI n.natAbs d = gcdI n.natAbs d * gcdI x.natAbs y := by
      conv => lhs; unfold gcdI
      have h1 : ((n.natAbs : Int).toNat) = (gcdI n.natAbs d).toNat * x.natAbs := by
        have h2 : (n.natAbs) = (gcdI n.natAbs d).natAbs * x.natAbs := by rw [← Int.natAbs_mul, ← hx]
        have h3 : (gcdI n.natAbs d).natAbs = (gcdI n.natAbs d).toNat := by omega
        rw [← h3, ← h2]; omega
      have h4 : d.toNat = (gcdI n.natAbs d).toNat * y.toNat := by
        rw [← Int.toNat_mul (by omega) (by omega), ← hy]
      rw [h1, h4, Nat.gcd_mul_left]
      rw [Int.natCast_mul, Int.toNat_of_nonneg (by omega)]
      unfold gcdI; simp
    exact Int.eq_of_mul_eq_mul_left (show gcdI n.natAbs d ≠ 0 by omega) (show gcdI n.natAbs d * gcdI x.natAbs y = gcdI n.natAbs d * 1 by omega)
  have hx0 : 0 ≤ x := by
    rcases Int.lt_or_le x 0 with h | h
    · have := Int.mul_neg_of_pos_of_neg (show 0 < gcdI n.natAbs d by omega) h; omega
    · exact h
  have hy0 : 0 < y := by
    rcases Int.lt_or_le 0 y with h | h
    · exact h
    · have := Int.mul_nonpos_of_nonneg_of_nonpos (show 0 ≤ gcdI n.natAbs d by omega) h; omega
  have hxn : x ≤ n := by
    have := Int.mul_le_mul_of_nonneg_right hg hx0
    omega
  have hyd : y ≤ d := by
    have := Int.mul_le_mul_of_nonneg_right hg (show 0 ≤ y by omega)
    omega
  have hr : isRatio x y = true := isRatio_iff.2 ⟨by omega, by omega, hgg⟩
  have e1 : n = x * gcdI n.natAbs d := by rw [Int.mul_comm]; exact hx
  have e2 : d = y * gcdI n.natAbs d := by rw [Int.mul_comm]; exact hy
  refine ⟨x, y, gcdI n.natAbs d, hg, e1, e2, hr, hx0, ?_⟩
  generalize gcdI n.natAbs d = k at hg e1 e2
  subst e1 e2
  exact reduced_mul hr hg
theorem isRatio_one {n : Int} (h : -1000000000 ≤ n ∧ n ≤ 1000000000) : isRatio n 1 = true := isRatio_iff.2 ⟨h, by omega, by unfold gcdI; simp⟩
end Go.Proofs.Ytjengglpbdgmnaa.Math
