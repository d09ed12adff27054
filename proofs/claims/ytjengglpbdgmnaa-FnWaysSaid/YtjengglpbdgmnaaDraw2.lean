/- Plain facts on ways in trees that are drawn. No condition. -/
import Derived.Test.YtjengglpbdgmnaaDraw
import Derived.Test.YtjengglpbdgmnaaVal
namespace Go.Proofs.Ytjengglpbdgmnaa.Math
open Go.Proofs.Ytjengglpbdgmnaa.V
set_option linter.unusedVariables false
theorem walk_leads {z : List Nd} {n : Int} : ∀ {l : List Int} {v : Int}, Leads z l v n → walk z l v = some n
  | [], v, h => by have h' : v = n := h; rw [h']; rfl
  | w :: l, v, h => by
    have hw : 0 ≤ w ∧ w < (z.getD v.toNat dN).ch.length := h.1.2
    have ih := walk_leads h.2
    show (if 0 ≤ w ∧ w ≤ ((z.getD v.toNat dN).ch.length : Int) - 1 then walk z l ((z.getD v.toNat dN).ch.getD w.toNat 0) else none) = some n
    rw [if_pos (by omega)]; exact ih
theorem wayAt_ok {z : List Nd} {n : Int} (h : (wayAt z n).2 = 0) : isTree z = true ∧ (0 ≤ n ∧ n < z.length) ∧ (wayAt z n).1 = wayOf z n := by
  unfold wayAt at h ⊢
  split at h
  · rename_i ht
    rw [if_pos ht]
    split at h
    · rename_i hn; rw [if_pos hn]; exact ⟨ht, by omega, rfl⟩
    · cases h
  · cases h
theorem way_back {z : List Nd} {n : Int} (h : (wayAt z n).2 = 0) : nodeBy z (wayAt z n).1 = (n, 0) ∧ depthOf z = (depth z 0, 0) ∧ ((wayAt z n).1.length : Int) ≤ depth z 0 := by
  obtain ⟨ht, hn, hw⟩ := wayAt_ok h
  have hl := way_leads ht hn
  rw [hw]
  exact ⟨nodeBy_at ht (walk_leads hl.1), by unfold depthOf; rw [if_pos ht], hl.2⟩
theorem way_back2 {z : List Nd} {n : Int} (h : (wayAt z n).2 = 0) : ((nodeBy z (wayAt z n).1).1 = n ∧ (nodeBy z (wayAt z n).1).2 = 0) ∧ (depthOf z).2 = 0 ∧ ((wayAt z n).1.length : Int) ≤ (depthOf z).1 := by
  have hb := way_back h
  rw [hb.1, hb.2.1]
  exact ⟨⟨rfl, rfl⟩, rfl, hb.2.2⟩
end Go.Proofs.Ytjengglpbdgmnaa.Math
