/- Plain facts on parts of weights. No condition. -/
import Derived.Test.YtjengglpbdgmnaaTreeIs
namespace Go.Proofs.Ytjengglpbdgmnaa.Math
open Go.Proofs.Ytjengglpbdgmnaa.V
set_option linter.unusedVariables false
set_option linter.unusedSimpArgs false
/-- Where a number stands first, or -1. -/
noncomputable def indexOf (z : List Int) (v : Int) : Int :=
  open Classical in if h : ∃ i : Nat, i < z.length ∧ z.getD i 0 = v ∧ ∀ j, j < i → z.getD j 0 ≠ v then ((Classical.choose h : Nat) : Int) else -1
theorem indexOf_yes {z : List Int} {v : Int} {i : Nat} (hi : i < z.length) (hv : z.getD i 0 = v) (hf : ∀ j, j < i → z.getD j 0 ≠ v) : indexOf z v = i := by
  have h : ∃ i : Nat, i < z.length ∧ z.getD i 0 = v ∧ ∀ j, j < i → z.getD j 0 ≠ v := ⟨i, hi, hv, hf⟩
  unfold indexOf; rw [dif_pos h]
  have hc := Classical.choose_spec h
  have : Classical.choose h = i := by
    rcases Nat.lt_trichotomy (Classical.choose h) i with h' | h' | h'
    · exact absurd hc.2.1 (hf _ h')
    · exact h'
    · exact absurd hv (hc.2.2 _ h')
  rw [this]
theorem indexOf_no {z : List Int} {v : Int} (hf : ∀ j, j < z.length → z.getD j 0 ≠ v) : indexOf z v = -1 := by
  unfold indexOf; rw [dif_neg]; rintro ⟨i, hi, hv, _⟩; exact hf i hi hv
/-- Where the greatest number stands first. -/
def bestTo (r : List Int) : Nat → Nat
  | 0 => 0
  | k + 1 => if r.getD (bestTo r k) 0 < r.getD (k + 1) 0 then k + 1 else bestTo r k
def best (r : List Int) : Nat := bestTo r (r.length - 1)
theorem bestTo_le (r : List Int) : ∀ k, bestTo r k ≤ k
  | 0 => Nat.le_refl _
  | k + 1 => by have := bestTo_le r k; unfold bestTo; split <;> omega
theorem bestTo_max (r : List Int) : ∀ k j, j ≤ k → r.getD j 0 ≤ r.getD (bestTo r k) 0
  | 0, j, h => by rw [show j = 0 from by omega]; exact Int.le_refl _
  | k + 1, j, h => by
    unfold bestTo
    by_cases hj : j = k + 1
    · subst hj; split <;> omega
    · have := bestTo_max r k j (by omega); split <;> omega
theorem bestTo_first (r : List Int) : ∀ k j, j < bestTo r k → r.getD j 0 < r.getD (bestTo r k) 0
  | 0, j, h => by unfold bestTo at h; omega
  | k + 1, j, h => by
    unfold bestTo at h ⊢
    split
    · rename_i hc; rw [if_pos hc] at h
      have := bestTo_max r k j (by omega); omega
    · rename_i hc; rw [if_neg hc] at h
      exact bestTo_first r k j h
theorem best_lt {r : List Int} (h : 1 ≤ r.length) : best r < r.length := by have := bestTo_le r (r.length - 1); unfold best; omega
theorem index_best {r : List Int} (h : 1 ≤ r.length) : indexOf r (r.getD (best r) 0) = best r :=
  indexOf_yes (best_lt h) rfl fun j hj => by have := bestTo_first r _ j hj; unfold best; omega
/-- Parts. -/
def pws (z : List Int) : List Int := if z.sum = 0 then List.replicate z.length 1 else z
def pout (z : List Int) : List Int := (pws z).map fun w => 60 * w / (pws z).sum
def prest (z : List Int) : List Int := (pws z).map fun w => 60 * w % (pws z).sum
theorem pws_len (z : List Int) : (pws z).length = z.length := by unfold pws; split <;> simp
theorem pout_len (z : List Int) : (pout z).length = z.length := by unfold pout; rw [List.length_map, pws_len]
theorem prest_len (z : List Int) : (prest z).length = z.length := by unfold prest; rw [List.length_map, pws_len]
theorem map_at {f : Int → Int} {l : List Int} {i : Nat} (h : i < l.length) : (l.map f).getD i 0 = f (l.getD i 0) := by
  simp [List.getD, List.getElem?_eq_getElem h]
theorem rep_at {n i : Nat} {x : Int} (h : i < n) : (List.replicate n x).getD i 0 = x := by simp [List.getD, List.getElem?_replicate, h]
theorem rep_sum (n : Nat) : (List.replicate n (1 : Int)).sum = n := by
  induction n with
  | zero => rfl
  | succ n ih => rw [List.replicate_succ, List.sum_cons, ih]; omega
section
variable {z : List Int} {i : Nat}
theorem pws_0 (h : z.sum = 0) : pws z = List.replicate z.length 1 := if_pos h
theorem pws_1 (h : ¬ z.sum = 0) : pws z = z := if_neg h
theorem pout_at0 {n : Nat} (hn : z.length = n) (h : z.sum = 0) (hi : i < n) : (pout z).getD i 0 = 60 / (n : Int) := by
  subst hn; unfold pout; rw [map_at (by rw [pws_len]; exact hi), pws_0 h, rep_at hi, rep_sum]; rfl
theorem prest_at0 {n : Nat} (hn : z.length = n) (h : z.sum = 0) (hi : i < n) : (prest z).getD i 0 = 60 % (n : Int) := by
  subst hn; unfold prest; rw [map_at (by rw [pws_len]; exact hi), pws_0 h, rep_at hi, rep_sum]; rfl
theorem pout_at (h : ¬ z.sum = 0) (hi : i < z.length) : (pout z).getD i 0 = 60 * z.getD i 0 / z.sum := by
  unfold pout; rw [map_at (by rw [pws_len]; exact hi), pws_1 h]
theorem prest_at (h : ¬ z.sum = 0) (hi : i < z.length) : (prest z).getD i 0 = 60 * z.getD i 0 % z.sum := by
  unfold prest; rw [map_at (by rw [pws_len]; exact hi), pws_1 h]
theorem pout_add (h : ¬ z.sum = 0) (hi : i < z.length) : (pout z).take i ++ [60 * z.getD i 0 / z.sum] = (pout z).take (i + 1) := by
  rw [← pout_at h hi, take_step 0 (by rw [pout_len]; exact hi)]
theorem prest_add (h : ¬ z.sum = 0) (hi : i < z.length) : (prest z).take i ++ [60 * z.getD i 0 % z.sum] = (prest z).take (i + 1) := by
  rw [← prest_at h hi, take_step 0 (by rw [prest_len]; exact hi)]
end
theorem le_sum {l : List Int} (h : ∀ x ∈ l, 0 ≤ x) : 0 ≤ l.sum ∧ ∀ x ∈ l, x ≤ l.sum := by
  induction l with
  | nil => exact ⟨Int.le_refl _, fun x hx => by cases hx⟩
  | cons y l ih =>
    have hy := h y (List.mem_cons_self ..)
    have h1 := ih fun x hx => h x (List.mem_cons_of_mem _ hx)
    rw [List.sum_cons]
    refine ⟨by omega, fun x hx => ?_⟩
    rcases List.mem_cons.1 hx with rfl | hx
    · omega
    · have := h1.2 x hx; omega
theorem pws_pos {z : List Int} (hb : ∀ x ∈ z, 0 ≤ x ∧ x ≤ 1000000000) : ∀ x ∈ pws z, 0 ≤ x := by
  unfold pws; split
  · intro x hx; rw [List.eq_of_mem_replicate hx]; decide
  · exact fun x hx => (hb x hx).1
theorem pout_bd {z : List Int} (hb : ∀ x ∈ z, 0 ≤ x ∧ x ≤ 1000000000) : ∀ x ∈ pout z, 0 ≤ x ∧ x ≤ 60 := by
  intro x hx
  simp only [pout, List.mem_map] at hx
  obtain ⟨w, hw, rfl⟩ := hx
  have h1 := le_sum (pws_pos hb)
  have h2 := h1.2 w hw
  have h3 := pws_pos hb w hw
  refine ⟨Int.ediv_nonneg (by omega) h1.1, ?_⟩
  by_cases h0 : (pws z).sum = 0
  · rw [h0, Int.ediv_zero]; decide
  · exact Int.ediv_le_of_le_mul (by omega) (by omega)
def round (s : List Int × List Int) : List Int × List Int := (s.1.set (best s.2) (s.1.getD (best s.2) 0 + 1), s.2.set (best s.2) (-1))
def rounds : Nat → List Int × List Int → List Int × List Int
  | 0, s => s
  | n + 1, s => rounds n (round s)
noncomputable def partsOf (z : List Int) : List Int := (rounds (60 - (pout z).sum).toNat (pout z, prest z)).1
theorem pws_ones (z : List Int) (h : z.sum = 0) : pws (List.replicate z.length 1) = pws z := by
  rw [pws_0 h]; unfold pws; split <;> simp
theorem partsOf_ones {z : List Int} (h : z.sum = 0) : partsOf (List.replicate z.length 1) = partsOf z := by
  unfold partsOf pout prest; rw [pws_ones z h]
theorem rounds_step {m : Int} {o r : List Int} (h : 0 < m) : rounds m.toNat (o, r) = rounds (m - 1).toNat (o.set (best r) (o.getD (best r) 0 + 1), r.set (best r) (-1)) := by
  rw [show m.toNat = (m - 1).toNat + 1 from by omega]; rfl
theorem rounds_end {m : Int} {s : List Int × List Int} (h : ¬ 0 < m) : rounds m.toNat s = s := by
  rw [show m.toNat = 0 from by omega]; rfl
theorem rounds_len (n : Nat) : ∀ s : List Int × List Int, (rounds n s).1.length = s.1.length := by
  induction n with
  | zero => exact fun s => rfl
  | succ n ih => exact fun s => by unfold rounds; rw [ih]; simp [round]
theorem partsOf_len (z : List Int) : (partsOf z).length = z.length := by unfold partsOf; rw [rounds_len, pout_len]
/-- The round's bound. -/
theorem bd_set {o : List Int} {m B : Int} {i : Nat} {v : Int} (h : ∀ x ∈ o, 0 ≤ x ∧ x + m ≤ B) (hv : 0 ≤ v ∧ v + (m - 1) ≤ B) : ∀ x ∈ o.set i v, 0 ≤ x ∧ x + (m - 1) ≤ B := fun x hx => by
  rcases List.mem_or_eq_of_mem_set hx with h1 | rfl
  · have := h x h1; omega
  · exact hv
theorem pout_sum {z : List Int} (hb : ∀ x ∈ z, 0 ≤ x ∧ x ≤ 1000000000) : 0 ≤ (pout z).sum ∧ (pout z).sum ≤ 60 * z.length := by
  have h := sum_bd (pout_bd hb) (pout z).length (Nat.le_refl _)
  rw [List.take_of_length_le (Nat.le_refl _), pout_len] at h
  exact h
theorem pout_take {z : List Int} (hb : ∀ x ∈ z, 0 ≤ x ∧ x ≤ 1000000000) {i : Nat} (hi : i ≤ z.length) : 0 ≤ ((pout z).take i).sum ∧ ((pout z).take i).sum ≤ 60 * i := sum_bd (pout_bd hb) i (by rw [pout_len]; exact hi)
theorem fill_get {α : Type} (d z : α) {l : List α} {n i : Nat} (h : i < l.length) : (l.take (i + 1) ++ List.replicate (n - (i + 1)) z).getD i d = l.getD i d := by
  simp only [List.getD]; rw [List.getElem?_append_left (by simp; omega), List.getElem?_take, if_pos (by omega)]
theorem set_get {l : List Int} {i : Nat} {v : Int} (h : i < l.length) : (l.set i v).getD i 0 = v := by simp [List.getD, h]
noncomputable def partsAt (z : List Int) : List Int × Int := if (1 ≤ z.length ∧ z.length ≤ 4) ∧ z.all (inB 0 1000000000) = true then (partsOf z, 0) else ([], 2)
end Go.Proofs.Ytjengglpbdgmnaa.Math
