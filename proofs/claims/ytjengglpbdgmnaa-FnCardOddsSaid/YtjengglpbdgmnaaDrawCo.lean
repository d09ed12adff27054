/- Plain facts on trees that are drawn. No condition. -/
import Derived.Test.YtjengglpbdgmnaaBetCo
namespace Go.Proofs.Ytjengglpbdgmnaa.Math
open Go.Proofs.Ytjengglpbdgmnaa.V
set_option linter.unusedVariables false
def p4 : Nat → Nat
  | 0 => 1
  | f + 1 => 4 * p4 f
theorem p4_pos : ∀ f, 1 ≤ p4 f
  | 0 => Nat.le_refl _
  | f + 1 => by have := p4_pos f; unfold p4; omega
theorem p4_s {d : Int} (h : 1 ≤ d) : p4 d.toNat = 4 * p4 (d - 1).toNat := by
  rw [show d.toNat = (d - 1).toNat + 1 from by omega]; rfl
theorem growF_pos (f : Nat) (pl p0 p1 bet r : Int) (ck : Bool) (b : Nat) : 1 ≤ (growF (f + 1) pl p0 p1 bet r ck b).length := by
  unfold growF
  split
  · rw [List.length_cons]; omega
  · split
    · exact Nat.le_add_left 1 2
    · rw [List.length_cons]; omega
theorem betAt_pos {ante bet r : Int} (h : (0 ≤ ante ∧ ante ≤ 100) ∧ (1 ≤ bet ∧ bet ≤ 100) ∧ (0 ≤ r ∧ r ≤ 2) ∧ ante + bet * (r + 1) ≤ 100) : 1 ≤ (betAt ante bet r).1.length := by
  rw [betAt_0 h]; exact growF_pos 4 0 ante ante bet r false 0
def kidsB (z : List Nd) : Prop := ∀ x ∈ z, x.ch.length ≤ 4
theorem kidsB_nil : kidsB [] := fun x hx => by cases hx
theorem kidsB_app {z : List Nd} {x : Nd} (h : kidsB z) (hx : x.ch.length ≤ 4) : kidsB (z ++ [x]) := fun y hy => by
  rcases List.mem_append.1 hy with hy | hy
  · exact h y hy
  · rw [List.mem_singleton.1 hy]; exact hx
theorem kidsB_set {z : List Nd} {x : Nd} {i : Nat} (h : kidsB z) (hx : x.ch.length ≤ 4) : kidsB (z.set i x) := fun y hy => by
  rcases List.mem_or_eq_of_mem_set hy with hy | rfl
  · exact h y hy
  · exact hx
theorem kidsB_at {z : List Nd} (h : kidsB z) (i : Nat) : (z.getD i dN).ch.length ≤ 4 := by
  by_cases hi : i < z.length
  · exact h _ (getD_mem dN hi)
  · rw [List.getD_eq_getElem?_getD, List.getElem?_eq_none (by omega)]; exact Nat.zero_le _
theorem betAt_kids (ante bet r : Int) : kidsB (betAt ante bet r).1 := fun x hx => by
  unfold betAt at hx; split at hx
  · have := growF_kids 5 0 ante ante bet r false 0 x hx; omega
  · cases hx
theorem tree_kids {z : List Nd} (h : isTree z = true) : kidsB z := fun x hx => by
  obtain ⟨i, hi, rfl⟩ := List.getElem_of_mem hx
  have := (ok_pl (allOk_iff.1 (isTree_ok h).2.1 i hi)).2.2.2.2.1
  rw [List.getD_eq_getElem?_getD, List.getElem?_eq_getElem hi] at this
  exact this
theorem tree_len {z : List Nd} (h : isTree z = true) : z.length ≤ 1000 := by
  have := (isTree_ok h).1; omega
def rect (u : List (List Int)) (n : Nat) : Prop := u.length = n ∧ ∀ i, i < n → (u.getD i []).length = n
theorem rect_set {u : List (List Int)} {n i j : Nat} {v : Int} (h : rect u n) (hi : i < n) : rect (u.set i ((u.getD i []).set j v)) n := by
  refine ⟨by rw [List.length_set]; exact h.1, fun k hk => ?_⟩
  rw [List.getD_eq_getElem?_getD, List.getElem?_set]
  split
  · rename_i e; subst e
    rw [if_pos (by rw [h.1]; exact hi)]
    show ((u.getD i []).set j v).length = n
    rw [List.length_set]; exact h.2 i hi
  · rw [← List.getD_eq_getElem?_getD]; exact h.2 k hk
theorem rect_hcW (n : Nat) (ag : Bool) : rect (hcW n ag n) n := ⟨mapR_len _ _, fun i hi => by
  unfold hcW; rw [mapR_get _ _ hi]; exact hcRow_len n ag i⟩
theorem rect_hcV (n : Nat) : rect (hcV n n) n := ⟨mapR_len _ _, fun i hi => by
  unfold hcV; rw [mapR_get _ _ hi]; exact hcWin_len n i⟩
theorem rect_to {u : List (List Int)} {k n : Nat} (h : rect u k) (e : u.length = n) : rect u n := by
  have h1 := h.1; rw [e] at h1; subst h1; exact h
end Go.Proofs.Ytjengglpbdgmnaa.Math
