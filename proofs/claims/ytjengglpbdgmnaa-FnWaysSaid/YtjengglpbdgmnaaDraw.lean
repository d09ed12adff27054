/- Plain facts on trees that are drawn. No condition. -/
import Derived.Test.YtjengglpbdgmnaaBet
namespace Go.Proofs.Ytjengglpbdgmnaa.Math
open Go.Proofs.Ytjengglpbdgmnaa.V
set_option linter.unusedVariables false
def p4 : Nat → Nat
  | 0 => 1
  | f + 1 => 4 * p4 f
theorem p4_pos : ∀ f, 1 ≤ p4 f
  | 0 => Nat.le_refl _
  | f + 1 => by have := p4_pos f; unfold p4; omega
theorem p4_s {d : Int} (h : 1 ≤ d) : p4 d.toNat = 4 * p4 (d - 1).toNat := by
  rw [show d.toNat = (d - 1).toNat + 1 from by omega]; rfl
theorem growF_pos (f : Nat) (pl p0 p1 bet r : Int) (ck : Bool) (b : Nat) : 1 ≤ (growF (f + 1) pl p0 p1 bet r ck b).length := by
  unfold growF
  split
  · rw [List.length_cons]; omega
  · split
    · exact Nat.le_add_left 1 2
    · rw [List.length_cons]; omega
theorem betAt_pos {ante bet r : Int} (h : (0 ≤ ante ∧ ante ≤ 100) ∧ (1 ≤ bet ∧ bet ≤ 100) ∧ (0 ≤ r ∧ r ≤ 2) ∧ ante + bet * (r + 1) ≤ 100) : 1 ≤ (betAt ante bet r).1.length := by
  rw [betAt_0 h]; exact growF_pos 4 0 ante ante bet r false 0
theorem endsOf_ok {z : List Nd} (h : (endsOf z).2 = 0) : isTree z = true := by
  unfold endsOf at h; split at h
  · assumption
  · cases h
theorem nodes_sum {z : List Nd} (hok : allOk z = true) : ∀ k, k ≤ z.length → (nodesTo z 0 k).length + (nodesTo z 1 k).length + (nodesTo z 2 k).length = k
  | 0, _ => rfl
  | k + 1, hk => by
    have ih := nodes_sum hok k (by omega)
    have ho := ok_pl (allOk_iff.1 hok k (by omega))
    rcases (show (z.getD k dN).pl = 0 ∨ (z.getD k dN).pl = 1 ∨ (z.getD k dN).pl = 2 by omega) with h | h | h
    · rw [nodesTo_yes h, nodesTo_no (p := 1) (by rw [h]; decide), nodesTo_no (p := 2) (by rw [h]; decide), List.length_append, List.length_singleton]; omega
    · rw [nodesTo_yes h, nodesTo_no (p := 0) (by rw [h]; decide), nodesTo_no (p := 2) (by rw [h]; decide), List.length_append, List.length_singleton]; omega
    · rw [nodesTo_yes h, nodesTo_no (p := 0) (by rw [h]; decide), nodesTo_no (p := 1) (by rw [h]; decide), List.length_append, List.length_singleton]; omega
theorem nodes_end {z : List Nd} (ht : isTree z = true) : 0 < (nodesOf z 2).length := by
  have hT := isTree_ok ht
  have hi : z.length - 1 < z.length := by omega
  have ho := allOk_iff.1 hT.2.1 _ hi
  have hp := ok_pl ho
  have h2 : (z.getD (z.length - 1) dN).pl = 2 := by
    rcases Nat.eq_zero_or_pos (z.getD (z.length - 1) dN).ch.length with h | h
    · exact hp.2.2.2.2.2.2 h
    · have := ok_kid ho (getD_mem 0 h); omega
  rw [← nodesTo_all (k := z.length - 1 + 1) rfl (by omega), nodesTo_yes h2, List.length_append, List.length_singleton]
  omega
theorem nodes_count {z : List Nd} (ht : isTree z = true) : (decsOf z 0).1.length + (decsOf z 1).1.length + (endsOf z).1.length = z.length ∧ 0 < (endsOf z).1.length ∧ (decsOf z 0).2 = 0 ∧ (decsOf z 1).2 = 0 := by
  have h0 : decsOf z 0 = (nodesOf z 0, 0) := by unfold decsOf; rw [if_pos ht, if_pos ⟨by decide, by decide⟩]
  have h1 : decsOf z 1 = (nodesOf z 1, 0) := by unfold decsOf; rw [if_pos ht, if_pos ⟨by decide, by decide⟩]
  have h2 : endsOf z = (nodesOf z 2, 0) := by unfold endsOf; rw [if_pos ht]
  have hs := nodes_sum (isTree_ok ht).2.1 z.length (Nat.le_refl _)
  rw [nodesTo_all rfl rfl, nodesTo_all rfl rfl, nodesTo_all rfl rfl] at hs
  rw [h0, h1, h2]
  exact ⟨hs, nodes_end ht, rfl, rfl⟩
end Go.Proofs.Ytjengglpbdgmnaa.Math
