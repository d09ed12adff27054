/- Plain facts on the sizes of bet trees. No condition. -/
import Derived.Test.YtjengglpbdgmnaaGrowCo
import Derived.Test.YtjengglpbdgmnaaHighCo
namespace Go.Proofs.Ytjengglpbdgmnaa.Math
open Go.Proofs.Ytjengglpbdgmnaa.V
set_option linter.unusedVariables false
set_option linter.unusedSimpArgs false
theorem growF_kids : ∀ (f : Nat) (pl p0 p1 bet r : Int) (ck : Bool) (b : Nat), ∀ x ∈ growF f pl p0 p1 bet r ck b, x.ch.length ≤ 3
  | 0, _, _, _, _, _, _, _, x, hx => by cases hx
  | f + 1, pl, p0, p1, bet, r, ck, b, x, hx => by
    unfold growF at hx
    split at hx
    · rcases List.mem_cons.1 hx with rfl | hx
      · exact Nat.le_succ 2
      · rcases List.mem_append.1 hx with hx | hx
        · split at hx
          · rcases List.mem_cons.1 hx with rfl | hx
            · exact Nat.zero_le _
            · cases hx
          · exact growF_kids f _ _ _ _ _ _ _ x hx
        · exact growF_kids f _ _ _ _ _ _ _ x hx
    · split at hx
      · rcases List.mem_cons.1 hx with rfl | hx
        · exact Nat.le_succ 2
        · rcases List.mem_cons.1 hx with rfl | hx
          · exact Nat.zero_le _
          · rcases List.mem_cons.1 hx with rfl | hx
            · exact Nat.zero_le _
            · cases hx
      · rcases List.mem_cons.1 hx with rfl | hx
        · exact Nat.le_refl 3
        · rcases List.mem_cons.1 hx with rfl | hx
          · exact Nat.zero_le _
          · rcases List.mem_cons.1 hx with rfl | hx
            · exact Nat.zero_le _
            · exact growF_kids f _ _ _ _ _ _ _ x hx
theorem betAt_bd (ante bet r : Int) : (betAt ante bet r).1.length ≤ 125 ∧ sumK f4 (betAt ante bet r).1 ≤ 875 ∧ sumK chl (betAt ante bet r).1 ≤ 375 := by
  have h0 : sumK f4 ([] : List Nd) = 0 := rfl
  have h1 : sumK chl ([] : List Nd) = 0 := rfl
  unfold betAt; split
  · have hl := growF_len 5 0 ante ante bet r false 0
    have hp : p2 5 = 32 := rfl
    have h2 := sumK_bd f4 7 (growF 5 0 ante ante bet r false 0) fun x hx => by have := growF_kids 5 0 ante ante bet r false 0 x hx; unfold f4; omega
    have h3 := sumK_bd chl 3 (growF 5 0 ante ante bet r false 0) fun x hx => by have := growF_kids 5 0 ante ante bet r false 0 x hx; unfold chl; omega
    dsimp only; omega
  · dsimp only; rw [h0, h1]; exact ⟨Nat.zero_le _, Nat.zero_le _, Nat.zero_le _⟩
def kuhnT : List Nd := (betAt 1 1 0).1
theorem kuhn_tree : isTree (betAt 1 1 0).1 = true := by decide +kernel
end Go.Proofs.Ytjengglpbdgmnaa.Math
