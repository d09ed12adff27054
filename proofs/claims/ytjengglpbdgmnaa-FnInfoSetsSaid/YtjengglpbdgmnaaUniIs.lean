/- Plain facts on strategies that are made. No condition. -/
import Derived.Test.YtjengglpbdgmnaaSetsIs
import Derived.Test.YtjengglpbdgmnaaPartsIs
namespace Go.Proofs.Ytjengglpbdgmnaa.Math
open Go.Proofs.Ytjengglpbdgmnaa.V
set_option linter.unusedVariables false
set_option linter.unusedSimpArgs false
noncomputable def unif (z : List Nd) (ss : List (List Int)) : List (List Int) := ss.map fun s => partsOf (List.replicate (wide z s) 0)
theorem unif_snoc {z : List Nd} {ss : List (List Int)} {i : Nat} (h : i < ss.length) : unif z (ss.take i) ++ [partsOf (List.replicate (z.getD ((ss.getD i []).getD 0 0).toNat dN).ch.length 0)] = unif z (ss.take (i + 1)) := by
  unfold unif; rw [take_step [] h, List.map_append]; rfl
theorem unif_snoc2 {z : List Nd} {ss : List (List Int)} {i : Nat} (h : i < ss.length) : unif z (ss.take i) ++ [partsOf (List.replicate ((sizes z ss).getD i 0).toNat 0)] = unif z (ss.take (i + 1)) := by
  rw [sizes_at h, Int.toNat_natCast]; exact unif_snoc h
theorem wide_pos {z : List Nd} {ws vs : List (List Int)} {s : List Int} {p : Int} (hg : isGame z ws vs = true) (h : 0 ≤ s.getD 0 0 ∧ s.getD 0 0 < z.length) (hp : (z.getD (s.getD 0 0).toNat dN).pl = p) (h2 : p ≤ 1) : 1 ≤ wide z s := by
  have := (ok_pl (allOk_iff.1 (isTree_ok (isGame_ok hg).1).2.1 (s.getD 0 0).toNat (by omega))).2.2.2.2.2
  unfold wide; omega
noncomputable def unifAt (z : List Nd) (ws vs : List (List Int)) (p : Int) : (Int × List (List Int)) × Int :=
  if isGame z ws vs = true then if 0 ≤ p ∧ p ≤ 1 then ((p, unif z (sets z ws.length p)), 0) else ((0, []), 2) else ((0, []), 1)
theorem unifAt_1 {z : List Nd} {ws vs : List (List Int)} {p : Int} (h : isGame z ws vs = false) : unifAt z ws vs p = ((0, []), 1) := by unfold unifAt; rw [if_neg (by rw [h]; decide)]
theorem unifAt_2 {z : List Nd} {ws vs : List (List Int)} {p : Int} (h : isGame z ws vs = true) (h2 : ¬ (0 ≤ p ∧ p ≤ 1)) : unifAt z ws vs p = ((0, []), 2) := by unfold unifAt; rw [if_pos h, if_neg h2]
theorem unifAt_0 {z : List Nd} {ws vs : List (List Int)} {p : Int} {k : Nat} (hk : ws.length = k) (h : isGame z ws vs = true) (h2 : 0 ≤ p ∧ p ≤ 1) : unifAt z ws vs p = ((p, unif z (sets z k p)), 0) := by subst hk; unfold unifAt; rw [if_pos h, if_pos h2]
theorem unifAt_c {z : List Nd} {ws vs : List (List Int)} {p : Int} (h : codeOf z ws vs p ≠ 0) : unifAt z ws vs p = ((0, []), codeOf z ws vs p) := by
  unfold codeOf at h ⊢; unfold unifAt; split at h
  · rename_i hg
    rw [if_pos hg, if_pos hg]; split at h
    · exact absurd rfl h
    · rename_i hp; rw [if_neg hp, if_neg hp]
  · rename_i hg; rw [if_neg hg, if_neg hg]
end Go.Proofs.Ytjengglpbdgmnaa.Math
