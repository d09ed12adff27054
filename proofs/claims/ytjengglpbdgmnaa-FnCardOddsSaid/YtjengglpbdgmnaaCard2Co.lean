/- Plain facts: the odds of all cards add up to 1. No condition. -/
import Derived.Test.YtjengglpbdgmnaaCardCo
import Derived.Test.YtjengglpbdgmnaaMath2Co
namespace Go.Proofs.Ytjengglpbdgmnaa.Math
open Go.Proofs.Ytjengglpbdgmnaa.V
set_option linter.unusedVariables false
set_option linter.unusedSimpArgs false
/-- Fractions that are alike are reduced to the same ratio. -/
theorem reduced_like {u v n d : Int} (h : isRatio u v = true) (hn : 0 ≤ n) (hu : 0 ≤ u) (hd : 1 ≤ d) (he : n * v = u * d) : reduced n d = ((u, v), 0) := by
  obtain ⟨_, hv, hg⟩ := isRatio_iff.1 h
  have hgn : Nat.gcd u.toNat v.toNat = 1 := by
    unfold gcdI at hg
    rw [show ((u.natAbs : Int)).toNat = u.toNat from by omega] at hg
    exact_mod_cast hg
  have heN : n.toNat * v.toNat = u.toNat * d.toNat := by
    have : ((n.toNat * v.toNat : Nat) : Int) = ((u.toNat * d.toNat : Nat) : Int) := by
      rw [Int.natCast_mul, Int.natCast_mul, Int.toNat_of_nonneg hn, Int.toNat_of_nonneg hu, Int.toNat_of_nonneg (by omega), Int.toNat_of_nonneg (by omega)]; exact he
    exact_mod_cast this
  have hdvd : v.toNat ∣ d.toNat := by
    have h1 : v.toNat ∣ u.toNat * d.toNat := ⟨n.toNat, by rw [← heN, Nat.mul_comm]⟩
    exact Nat.Coprime.dvd_of_dvd_mul_left (by rw [Nat.coprime_comm]; exact hgn) h1
  obtain ⟨j, hj⟩ := hdvd
  have hd2 : d = v * (j : Int) := by
    have : ((d.toNat : Nat) : Int) = ((v.toNat * j : Nat) : Int) := by rw [hj]
    rw [Int.natCast_mul, Int.toNat_of_nonneg (by omega), Int.toNat_of_nonneg (by omega)] at this; exact this
  have hj1 : 1 ≤ (j : Int) := by
    rcases Nat.eq_zero_or_pos j with h0 | h0
    · subst h0; rw [Nat.mul_zero] at hj; omega
    · omega
  have hn2 : n = u * (j : Int) := by
    rw [hd2, ← Int.mul_assoc, Int.mul_right_comm] at he
    exact Int.eq_of_mul_eq_mul_right (by omega) he
  rw [hd2, hn2]
  exact reduced_mul h hj1
theorem reduced_add {A B T : Int} (hA : 0 ≤ A) (hB : 0 ≤ B) (hAB : A + B ≤ 1000000000) (hT : 1 ≤ T ∧ T ≤ 1000000000) :
    addR (reduced A T).1 (reduced B T).1 = reduced (A + B) T ∧ (reduced (A + B) T).2 = 0 ∧ isRatio (reduced A T).1.1 (reduced A T).1.2 = true := by
  obtain ⟨x, y, k, hk, h1, h2, hr, hx, he⟩ := reduced_ex (n := A) (by omega) hT
  obtain ⟨x', y', k', hk', h1', h2', hr', hx', he'⟩ := reduced_ex (n := B) (by omega) hT
  obtain ⟨u, v, m, hm, h1'', h2'', hr'', hu, he''⟩ := reduced_ex (n := A + B) (by omega) hT
  rw [he, he', he'']
  refine ⟨?_, rfl, hr⟩
  unfold addR
  rw [if_pos ⟨hr, hr'⟩]
  have hy := (isRatio_bd hr).2.1
  have hy' := (isRatio_bd hr').2.1
  have hv := (isRatio_bd hr'').2.1
  have hn1 : 0 ≤ x * y' := Int.mul_nonneg hx (by omega)
  have hn2 : 0 ≤ x' * y := Int.mul_nonneg hx' (by omega)
  refine reduced_like hr'' (by show 0 ≤ x * y' + x' * y; omega) hu (prod_pos hy hy') ?_
  show (x * y' + x' * y) * v = u * (y * y')
  -- T times (x y' + x' y) is (A + B) y y'
  have e1 : T * (x * y') = A * (y * y') := by rw [h1, h2]; simp only [Int.mul_assoc, Int.mul_comm, Int.mul_left_comm]
  have e2 : T * (x' * y) = B * (y * y') := by rw [h1', h2']; simp only [Int.mul_assoc, Int.mul_comm, Int.mul_left_comm]
  have e3 : T * (x * y' + x' * y) = (A + B) * (y * y') := by rw [Int.mul_add, Int.add_mul, e1, e2]
  have e4 : m * ((x * y' + x' * y) * v) = m * (u * (y * y')) := by
    have a1 : m * ((x * y' + x' * y) * v) = T * (x * y' + x' * y) := by rw [h2'']; simp only [Int.mul_assoc, Int.mul_comm, Int.mul_left_comm]
    have a2 : m * (u * (y * y')) = (A + B) * (y * y') := by rw [h1'']; simp only [Int.mul_assoc, Int.mul_comm, Int.mul_left_comm]
    rw [a1, a2, e3]
  exact Int.eq_of_mul_eq_mul_left (by omega) e4
def allSum (ws : List (List Int)) (p : Int) (k c : Nat) : Int := (mapR (fun c => cardSum ws p c k) c).sum
theorem allSum_s (ws : List (List Int)) (p : Int) (k c : Nat) : allSum ws p k (c + 1) = allSum ws p k c + cardSum ws p c k := mapR_succ _ _
theorem allSum_all {ws : List (List Int)} {p : Int} {k : Nat} (h : matB k 0 9 ws = true) (hp : 0 ≤ p ∧ p ≤ 1) : allSum ws p k k = total ws := by
  rw [total_mapR h]
  by_cases h0 : p = 0
  · unfold allSum cardSum cardF; simp only [if_pos h0]
  · unfold allSum cardSum cardF; simp only [if_neg h0]
    exact (sum_swap (fun a b => (ws.getD a []).getD b 0) k k).symm
theorem allSum_bd {ws : List (List Int)} {p : Int} {k : Nat} (hk : k ≤ 6) (h : matB k 0 9 ws = true) : ∀ c, c ≤ k → 0 ≤ allSum ws p k c ∧ allSum ws p k c ≤ 54 * c
  | 0, _ => by show 0 ≤ (0 : Int) ∧ (0 : Int) ≤ _; omega
  | c + 1, hc => by
    have h1 := allSum_bd hk h c (by omega) (p := p)
    have h2 := cardSum_bd h (show c < k by omega) k (Nat.le_refl _) (p := p)
    rw [allSum_s]; omega
theorem cardAt_ok {z : List Nd} {ws vs : List (List Int)} {p c : Int} (h : (cardAt z ws vs p c).2 = 0) : isGame z ws vs = true ∧ (0 ≤ p ∧ p ≤ 1) := by
  unfold cardAt at h
  split at h
  · split at h
    · rename_i hg hp; exact ⟨hg, hp.1⟩
    · cases h
  · cases h
/-- One card more. -/
theorem cards_step {z : List Nd} {ws vs : List (List Int)} {p : Int} {k c : Nat} (hk : ws.length = k) (hg : isGame z ws vs = true) (hp : 0 ≤ p ∧ p ≤ 1) (hc : c < k) :
    (cardAt z ws vs p (c : Int)).2 = 0 ∧ addR (reduced (allSum ws p k c) (total ws)).1 (cardAt z ws vs p (c : Int)).1 = reduced (allSum ws p k (c + 1)) (total ws) ∧ (reduced (allSum ws p k (c + 1)) (total ws)).2 = 0 := by
  obtain ⟨h1, h2, h3, h4, h5⟩ := isGame_ok hg
  rw [hk] at h2 h3
  have ht := total_le h2.2 h3
  have ha := allSum_bd h2.2 h3 c (by omega) (p := p)
  have hs := cardSum_bd h3 hc k (Nat.le_refl _) (p := p)
  rw [cardAt_0 hk hg ⟨hp, by omega⟩ (s := cardSum ws p c k) (by rw [Int.toNat_natCast])]
  have r1 := reduced_add (A := allSum ws p k c) (B := cardSum ws p c k) (T := total ws) ha.1 hs.1 (by omega) (by omega)
  have r2 := reduced_add (A := 0) (B := cardSum ws p c k) (T := total ws) (Int.le_refl _) hs.1 (by omega) (by omega)
  rw [Int.zero_add] at r2
  rw [allSum_s]
  exact ⟨r2.2.1, r1.1, r1.2.1⟩
theorem cards_start {T : Int} (hT : 1 ≤ T) : reduced 0 T = ((0, 1), 0) := reduced_like (isRatio_one (by omega)) (Int.le_refl _) (Int.le_refl _) hT (by rw [Int.zero_mul, Int.zero_mul])
theorem cards_end {T : Int} (hT : 1 ≤ T) : reduced T T = ((1, 1), 0) := reduced_like (isRatio_one (by omega)) (by omega) (by omega) hT (by rw [Int.mul_one, Int.one_mul])
theorem sum_ge : ∀ {l : List Int}, (∀ x ∈ l, 0 ≤ x) → 0 ≤ l.sum ∧ ∀ x ∈ l, x ≤ l.sum
  | [], _ => ⟨Int.le_refl _, fun x hx => by cases hx⟩
  | y :: l, h => by
    have hy := h y (List.mem_cons_self ..)
    have h1 := sum_ge fun x hx => h x (List.mem_cons_of_mem _ hx)
    rw [List.sum_cons]
    refine ⟨by omega, fun x hx => ?_⟩
    rcases List.mem_cons.1 hx with rfl | hx
    · omega
    · have := h1.2 x hx; omega
theorem hcCell_bd (ag : Bool) (a b : Nat) : 0 ≤ hcCell ag a b ∧ hcCell ag a b ≤ 1 := by unfold hcCell; split <;> omega
theorem hc_pos {k : Nat} {ag : Bool} (hk : 1 ≤ k) (h : ¬ (k = 1 ∧ ag = false)) : 0 < total (hcW k ag k) := by
  have hr : ∀ a, ∀ x ∈ hcRow k ag a, 0 ≤ x := fun a x hx => by obtain ⟨j, hj, rfl⟩ := mapR_mem hx; exact (hcCell_bd ag a j).1
  have h1 := sum_ge (l := (hcW k ag k).map List.sum) fun x hx => by
    obtain ⟨r, hr2, rfl⟩ := List.mem_map.1 hx
    obtain ⟨a, ha, rfl⟩ := mapR_mem hr2
    exact (sum_ge (hr a)).1
  have h2 : (hcRow k ag 0).sum ≤ total (hcW k ag k) := h1.2 _ (List.mem_map.2 ⟨hcRow k ag 0, by
    have := getD_mem (l := hcW k ag k) [] (i := 0) (by unfold hcW; rw [mapR_len]; omega)
    have e : (hcW k ag k).getD 0 [] = hcRow k ag 0 := mapR_get _ _ (by omega)
    rw [← e]; exact this, rfl⟩)
  have h3 : hcCell ag 0 (k - 1) ≤ (hcRow k ag 0).sum := (sum_ge (hr 0)).2 _ (by
    have := getD_mem (l := hcRow k ag 0) 0 (i := k - 1) (by rw [hcRow_len]; omega)
    rw [hcRow_get (by omega)] at this; exact this)
  have h4 : hcCell ag 0 (k - 1) = 1 := by
    by_cases hag : ag = false
    · exact hcCell_1 (by have : ¬ k = 1 := fun e => h ⟨e, hag⟩; omega)
    · exact hcCell_2 (by simpa using hag)
  omega
theorem hcW_mat (k : Nat) (ag : Bool) : matB k 0 9 (hcW k ag k) = true := mat_yes (mapR_len _ _) fun a ha => by
  rw [show (hcW k ag k).getD a [] = hcRow k ag a from mapR_get _ _ ha]
  refine row_yes (by rw [hcRow_len]) (List.all_eq_true.2 fun x hx => ?_)
  obtain ⟨j, hj, rfl⟩ := mapR_mem hx
  have := hcCell_bd ag a j
  unfold inB; exact decide_eq_true (by omega)
theorem hcV_mat (k : Nat) : matB k (-1) 1 (hcV k k) = true := mat_yes (mapR_len _ _) fun a ha => by
  rw [show (hcV k k).getD a [] = hcWin k a from mapR_get _ _ ha]
  refine row_yes (by rw [hcWin_len]) (List.all_eq_true.2 fun x hx => ?_)
  obtain ⟨j, hj, rfl⟩ := mapR_mem hx
  unfold inB order; refine decide_eq_true ?_; (repeat' split) <;> omega
theorem high_game {z : List Nd} {kk : Int} {ag : Bool} (h : (highAt z kk ag).2 = 0) : isGame (highAt z kk ag).1.1 (highAt z kk ag).1.2.1 (highAt z kk ag).1.2.2 = true := by
  unfold highAt at h ⊢
  split at h
  · rename_i ht
    split at h
    · rename_i hc
      rw [if_pos ht, if_pos hc]
      dsimp only
      have hl : (hcW kk.toNat ag kk.toNat).length = kk.toNat := mapR_len _ _
      unfold isGame
      rw [ht, hl, hcW_mat, hcV_mat, decide_eq_true (hc_pos (k := kk.toNat) (ag := ag) (by omega) fun h' => hc.2 ⟨by omega, h'.2⟩)]
      simp only [Bool.true_and, Bool.and_true, inB, decide_eq_true_eq]
      omega
    · cases h
  · cases h
end Go.Proofs.Ytjengglpbdgmnaa.Math
