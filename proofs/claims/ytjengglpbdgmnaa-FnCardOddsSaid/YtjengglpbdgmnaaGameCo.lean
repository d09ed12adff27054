/- Plain facts on games: matrices, weights, powers, units. No condition. -/
import Derived.Test.YtjengglpbdgmnaaTreeCo
namespace Go.Proofs.Ytjengglpbdgmnaa.Math
open Go.Proofs.Ytjengglpbdgmnaa.V
set_option linter.unusedVariables false
set_option linter.unusedSimpArgs false
/-- A list of k numbers in a range. -/
def rowB (k : Nat) (lo hi : Int) (r : List Int) : Bool := decide (r.length = k) && r.all (inB lo hi)
def matB (k : Nat) (lo hi : Int) (m : List (List Int)) : Bool := decide (m.length = k) && m.all (rowB k lo hi)
section
variable {k : Nat} {lo hi : Int} {r : List Int} {m : List (List Int)}
theorem row_no1 (h : (r.length : Int) ≠ (k : Int)) : rowB k lo hi r = false := by
 have : ¬ r.length = k := by omega
 simp [rowB, this]
theorem row_no2 (h : r.all (inB lo hi) = false) : rowB k lo hi r = false := by unfold rowB; rw [h, Bool.and_false]
theorem row_yes (h1 : (r.length : Int) = (k : Int)) (h2 : r.all (inB lo hi) = true) : rowB k lo hi r = true := by
 have : r.length = k := by omega
 unfold rowB; rw [h2, decide_eq_true this]; rfl
theorem row_len (h : rowB k lo hi r = true) : r.length = k := by simp only [rowB, Bool.and_eq_true, decide_eq_true_eq] at h; exact h.1
theorem row_in (h : rowB k lo hi r = true) : ∀ x ∈ r, lo ≤ x ∧ x ≤ hi := by
 simp only [rowB, Bool.and_eq_true] at h
 intro x hx
 have := List.all_eq_true.1 h.2 x hx
 simpa [inB] using this
theorem row_at (h : rowB k lo hi r = true) {i : Nat} (hi' : i < k) : lo ≤ r.getD i 0 ∧ r.getD i 0 ≤ hi := row_in h _ (getD_mem 0 (by rw [row_len h]; exact hi'))
theorem mat_no {i : Nat} (hi' : i < m.length) (h : rowB k lo hi (m.getD i []) = false) : matB k lo hi m = false := by unfold matB; rw [all_no [] hi' h, Bool.and_false]
theorem mat_no0 (h : ¬ m.length = k) : matB k lo hi m = false := by simp [matB, h]
theorem mat_yes (h : m.length = k) (h2 : ∀ i, i < k → rowB k lo hi (m.getD i []) = true) : matB k lo hi m = true := by
 unfold matB; rw [decide_eq_true h, (all_getD []).2 fun i hi => h2 i (by omega)]; rfl
theorem mat_len (h : matB k lo hi m = true) : m.length = k := by simp only [matB, Bool.and_eq_true, decide_eq_true_eq] at h; exact h.1
theorem mat_row (h : matB k lo hi m = true) {i : Nat} (hi' : i < k) : rowB k lo hi (m.getD i []) = true := by
 have hl := mat_len h
 simp only [matB, Bool.and_eq_true] at h
 exact (all_getD []).1 h.2 i (by omega)
theorem mat_if (h2 : ∀ i, i < m.length → rowB k lo hi (m.getD i []) = true) : matB k lo hi m = decide (m.length = k) := by
 unfold matB; rw [(all_getD []).2 h2, Bool.and_true]
end
/-- The total of weights. -/
def total (ws : List (List Int)) : Int := (ws.map List.sum).sum
theorem total_step {ws : List (List Int)} {i : Nat} (h : i < ws.length) : total (ws.take (i + 1)) = total (ws.take i) + (ws.getD i []).sum := by
 rw [take_step [] h]; simp [total]
theorem total_all {ws : List (List Int)} {i : Nat} (h : ws.length ≤ i) : total (ws.take i) = total ws := by rw [List.take_of_length_le h]
theorem sum_all {z : List Int} {B : Int} (h : ∀ x ∈ z, 0 ≤ x ∧ x ≤ B) : 0 ≤ z.sum ∧ z.sum ≤ B * z.length := by
 have := sum_bd h z.length (Nat.le_refl _)
 rwa [List.take_of_length_le (Nat.le_refl _)] at this
theorem rowsum {k : Nat} {r : List Int} (hk : k ≤ 6) (h : rowB k 0 9 r = true) : 0 ≤ r.sum ∧ r.sum ≤ 54 := by
 have h1 := sum_all (row_in h)
 have := row_len h
 omega
theorem total_bd {k : Nat} {ws : List (List Int)} (hk : k ≤ 6) (h : matB k 0 9 ws = true) : ∀ i, i ≤ k → 0 ≤ total (ws.take i) ∧ total (ws.take i) ≤ 54 * i := by
 intro i
 induction i with
 | zero => intro _; simp [total]
 | succ i ih =>
  intro hi
  have hl := mat_len h
  rw [total_step (by omega)]
  have := ih (by omega)
  have := rowsum hk (mat_row h (show i < k by omega))
  omega
theorem total_le {k : Nat} {ws : List (List Int)} (hk : k ≤ 6) (h : matB k 0 9 ws = true) : 0 ≤ total ws ∧ total ws ≤ 324 := by
 have h1 := total_bd hk h k (Nat.le_refl _)
 rw [total_all (by rw [mat_len h]; exact Nat.le_refl _)] at h1
 omega
theorem row_big {k : Nat} {r : List Int} (h : rowB k 0 9 r = true) : ∀ x ∈ r, 0 ≤ x ∧ x ≤ 1000000000 := fun x hx => by have := row_in h x hx; omega
/-- A game. -/
def isGame (ns : List Nd) (ws vs : List (List Int)) : Bool := isTree ns && (inB 1 6 ws.length && (matB ws.length 0 9 ws && (matB ws.length (-1) 1 vs && decide (0 < total ws))))
theorem isGame_ok {ns : List Nd} {ws vs : List (List Int)} (h : isGame ns ws vs = true) : isTree ns = true ∧ (1 ≤ ws.length ∧ ws.length ≤ 6) ∧ matB ws.length 0 9 ws = true ∧ matB ws.length (-1) 1 vs = true ∧ 0 < total ws := by
 simp only [isGame, Bool.and_eq_true, inB, decide_eq_true_eq] at h
 obtain ⟨h1, h2, h3, h4, h5⟩ := h
 exact ⟨h1, by omega, h3, h4, h5⟩
/-- Powers of 60. -/
def p60 (k : Nat) : Int := 60 ^ k
theorem mul_bd {a b A B : Int} (h0 : 0 ≤ a) (h1 : a ≤ A) (h2 : 0 ≤ b) (h3 : b ≤ B) : 0 ≤ a * b ∧ a * b ≤ A * B :=
 ⟨Int.mul_nonneg h0 h2, Int.mul_le_mul h1 h3 h2 (by omega)⟩
/-- The unit. -/
def unit (ns : List Nd) (ws : List (List Int)) : Int := total ws * p60 (depth ns 0).toNat
def totalOf (ns : List Nd) (ws vs : List (List Int)) : Int × Int := if isGame ns ws vs = true then (total ws, 0) else (0, 1)
def unitOf (ns : List Nd) (ws vs : List (List Int)) : Int × Int := if isGame ns ws vs = true then (unit ns ws, 0) else (0, 1)
end Go.Proofs.Ytjengglpbdgmnaa.Math
