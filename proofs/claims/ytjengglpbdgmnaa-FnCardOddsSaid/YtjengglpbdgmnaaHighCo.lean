/- Plain facts on games with high cards and mirrored games. No condition. -/
import Derived.Test.YtjengglpbdgmnaaSetsCo
namespace Go.Proofs.Ytjengglpbdgmnaa.Math
open Go.Proofs.Ytjengglpbdgmnaa.V
set_option linter.unusedVariables false
set_option linter.unusedSimpArgs false
def mapR {α : Type} (f : Nat → α) (k : Nat) : List α := (List.range k).map f
theorem mapR_snoc {α : Type} (f : Nat → α) (k : Nat) : mapR f k ++ [f k] = mapR f (k + 1) := by unfold mapR; rw [List.range_succ, List.map_append]; rfl
theorem mapR_len {α : Type} (f : Nat → α) (k : Nat) : (mapR f k).length = k := by simp [mapR]
theorem mapR_get {α : Type} (f : Nat → α) {k i : Nat} (d : α) (h : i < k) : (mapR f k).getD i d = f i := by simp [mapR, List.getD, h]
theorem take_snoc {α : Type} {l : List α} {i : Nat} (d : α) (h : i < l.length) : l.take i ++ [l.getD i d] = l.take (i + 1) := (take_step d h).symm
def order (a b : Int) : Int := if a < b then -1 else if b < a then 1 else 0
def hcCell (ag : Bool) (a b : Nat) : Int := if a = b ∧ ag = false then 0 else 1
def hcRow (k : Nat) (ag : Bool) (a : Nat) : List Int := mapR (hcCell ag a) k
def hcWin (k : Nat) (a : Nat) : List Int := mapR (fun b => order (a : Int) (b : Int)) k
def hcW (k : Nat) (ag : Bool) (i : Nat) : List (List Int) := mapR (hcRow k ag) i
def hcV (k : Nat) (i : Nat) : List (List Int) := mapR (hcWin k) i
theorem hcCell_0 {ag : Bool} {a b : Nat} (h : (a : Int) = (b : Int)) (h2 : ag = false) : hcCell ag a b = 0 := by unfold hcCell; rw [if_pos ⟨by omega, h2⟩]
theorem hcCell_1 {ag : Bool} {a b : Nat} (h : ¬ ((a : Int) = (b : Int))) : hcCell ag a b = 1 := by unfold hcCell; rw [if_neg fun h' => h (by rw [h'.1])]
theorem hcCell_2 {ag : Bool} {a b : Nat} (h2 : ag = true) : hcCell ag a b = 1 := by unfold hcCell; rw [if_neg fun h' => by rw [h2] at h'; cases h'.2]
theorem hcRow_add0 {ag : Bool} {a b : Nat} (h : (a : Int) = (b : Int)) (h2 : ag = false) : mapR (hcCell ag a) b ++ [0] = mapR (hcCell ag a) (b + 1) := by rw [← mapR_snoc, hcCell_0 h h2]
theorem hcRow_add1 {ag : Bool} {a b : Nat} (h : ¬ ((a : Int) = (b : Int))) : mapR (hcCell ag a) b ++ [1] = mapR (hcCell ag a) (b + 1) := by rw [← mapR_snoc, hcCell_1 h]
theorem hcRow_add2 {ag : Bool} {a b : Nat} (h2 : ag = true) : mapR (hcCell ag a) b ++ [1] = mapR (hcCell ag a) (b + 1) := by rw [← mapR_snoc, hcCell_2 h2]
theorem fill_skip {α : Type} (d z : α) {l : List α} {n i : Nat} (hl : l.length = n) (h : i < n) (hz : l.getD i d = z) : l.take i ++ List.replicate (n - i) z = l.take (i + 1) ++ List.replicate (n - (i + 1)) z := by
 rw [take_step d (by omega), hz, show n - i = (n - (i + 1)) + 1 from by omega, List.replicate_succ]; simp
theorem fill_put {α : Type} (d z v : α) {l : List α} {n i : Nat} (hl : l.length = n) (h : i < n) (hv : l.getD i d = v) : (l.take i ++ List.replicate (n - i) z).set i v = l.take (i + 1) ++ List.replicate (n - (i + 1)) z := by
 rw [← hv]; exact fill_step d z hl h
theorem hcRow_get {k : Nat} {ag : Bool} {a b : Nat} (h : b < k) : (hcRow k ag a).getD b 0 = hcCell ag a b := mapR_get _ 0 h
theorem hcWin_get {k : Nat} {a b : Nat} (h : b < k) : (hcWin k a).getD b 0 = order (a : Int) (b : Int) := mapR_get _ 0 h
theorem hcRow_len (k : Nat) (ag : Bool) (a : Nat) : (hcRow k ag a).length = k := mapR_len _ _
theorem hcWin_len (k : Nat) (a : Nat) : (hcWin k a).length = k := mapR_len _ _
theorem hcW_snoc (k : Nat) (ag : Bool) (i : Nat) : hcW k ag i ++ [hcRow k ag i] = hcW k ag (i + 1) := mapR_snoc _ _
theorem hcV_snoc (k : Nat) (i : Nat) : hcV k i ++ [hcWin k i] = hcV k (i + 1) := mapR_snoc _ _
abbrev G3 := List Nd × List (List Int) × List (List Int)
def highAt (z : List Nd) (kk : Int) (ag : Bool) : G3 × Int :=
 if isTree z = true then if (1 ≤ kk ∧ kk ≤ 6) ∧ ¬ (kk = 1 ∧ ag = false) then ((z, hcW kk.toNat ag kk.toNat, hcV kk.toNat kk.toNat), 0) else (([], [], []), 2) else (([], [], []), 1)
theorem highAt_1 {z : List Nd} {kk : Int} {ag : Bool} (h : isTree z = false) : highAt z kk ag = (([], [], []), 1) := by unfold highAt; rw [if_neg (by rw [h]; decide)]
theorem highAt_2 {z : List Nd} {kk : Int} {ag : Bool} (h : isTree z = true) (h2 : ¬ (1 ≤ kk ∧ kk ≤ 6) ∨ (kk = 1 ∧ ag = false)) : highAt z kk ag = (([], [], []), 2) := by
 unfold highAt; rw [if_pos h, if_neg fun h' => h2.elim (fun h3 => h3 h'.1) h'.2]
theorem highAt_0 {z : List Nd} {kk : Int} {ag : Bool} (h : isTree z = true) (h1 : 1 ≤ kk ∧ kk ≤ 6) (h2 : ¬ kk = 1 ∨ ag = true) : highAt z kk ag = ((z, hcW kk.toNat ag kk.toNat, hcV kk.toNat kk.toNat), 0) := by
 unfold highAt; rw [if_pos h, if_pos ⟨h1, fun h' => h2.elim (fun h3 => h3 h'.1) fun h3 => by rw [h3] at h'; cases h'.2⟩]
theorem mapR_mem {α : Type} {f : Nat → α} {k : Nat} {x : α} (h : x ∈ mapR f k) : ∃ i, i < k ∧ x = f i := by
 simp only [mapR, List.mem_map, List.mem_range] at h
 obtain ⟨i, hi, rfl⟩ := h; exact ⟨i, hi, rfl⟩
end Go.Proofs.Ytjengglpbdgmnaa.Math
