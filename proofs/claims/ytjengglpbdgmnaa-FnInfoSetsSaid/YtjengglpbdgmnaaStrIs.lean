/- Plain facts: parts add up to 60; uniform strategies are strategies; how many sets there are. No condition. -/
import Derived.Test.YtjengglpbdgmnaaUniIs
namespace Go.Proofs.Ytjengglpbdgmnaa.Math
open Go.Proofs.Ytjengglpbdgmnaa.V
set_option linter.unusedVariables false
set_option linter.unusedSimpArgs false
theorem sum_put : ∀ {l : List Int} {i : Nat} {v : Int}, i < l.length → (l.set i v).sum = l.sum - l.getD i 0 + v
  | [], _, _, h => absurd h (Nat.not_lt_zero _)
  | x :: l, 0, v, _ => by
    show (v :: l).sum = (x :: l).sum - x + v
    rw [List.sum_cons, List.sum_cons]; omega
  | x :: l, i + 1, v, h => by
    show (x :: l.set i v).sum = (x :: l).sum - l.getD i 0 + v
    rw [List.sum_cons, List.sum_cons, sum_put (Nat.lt_of_succ_lt_succ h)]; omega
theorem rounds_sum : ∀ (n : Nat) (o r : List Int), r.length = o.length → 1 ≤ o.length → (rounds n (o, r)).1.sum = o.sum + n
  | 0, o, r, _, _ => by show o.sum = o.sum + ((0 : Nat) : Int); omega
  | n + 1, o, r, h, h1 => by
    have hb := best_lt (r := r) (by omega)
    show (rounds n (o.set (best r) (o.getD (best r) 0 + 1), r.set (best r) (-1))).1.sum = _
    rw [rounds_sum n _ _ (by rw [List.length_set, List.length_set, h]) (by rw [List.length_set]; exact h1), sum_put (by omega)]; omega
theorem rounds_pos : ∀ (n : Nat) (o r : List Int), (∀ x ∈ o, 0 ≤ x) → ∀ x ∈ (rounds n (o, r)).1, 0 ≤ x
  | 0, o, r, h => h
  | n + 1, o, r, h => by
    show ∀ x ∈ (rounds n (o.set (best r) (o.getD (best r) 0 + 1), r.set (best r) (-1))).1, 0 ≤ x
    refine rounds_pos n _ _ fun x hx => ?_
    rcases List.mem_or_eq_of_mem_set hx with hx | rfl
    · exact h x hx
    · by_cases hi : best r < o.length
      · have := h _ (getD_mem 0 hi); omega
      · have : o.getD (best r) 0 = 0 := by rw [List.getD_eq_getElem?_getD, List.getElem?_eq_none (by omega)]; rfl
        omega
theorem share_sum {S : Int} (hS : 1 ≤ S) : ∀ l : List Int, (l.map fun w => 60 * w / S).sum * S ≤ 60 * l.sum
  | [] => by simp
  | x :: l => by
    have ih := share_sum hS l
    have h1 : 60 * x / S * S ≤ 60 * x := Int.ediv_mul_le _ (by omega)
    rw [List.map_cons, List.sum_cons, List.sum_cons, Int.add_mul]; omega
theorem pws_sum {z : List Int} (hb : ∀ x ∈ z, 0 ≤ x ∧ x ≤ 1000000000) (h1 : 1 ≤ z.length) : 1 ≤ (pws z).sum := by
  have h2 := le_sum fun x hx => (hb x hx).1
  unfold pws; split
  · rw [rep_sum]; omega
  · omega
theorem pout_le {z : List Int} (hb : ∀ x ∈ z, 0 ≤ x ∧ x ≤ 1000000000) (h1 : 1 ≤ z.length) : (pout z).sum ≤ 60 := by
  have hS := pws_sum hb h1
  have h := share_sum hS (pws z)
  exact Int.le_of_mul_le_mul_right h (by omega)
theorem partsOf_sum {z : List Int} (hb : ∀ x ∈ z, 0 ≤ x ∧ x ≤ 1000000000) (h1 : 1 ≤ z.length) : (partsOf z).sum = 60 := by
  have h2 := pout_le hb h1
  unfold partsOf
  rw [rounds_sum _ _ _ (by rw [prest_len, pout_len]) (by rw [pout_len]; exact h1)]; omega
theorem partsOf_in {z : List Int} (hb : ∀ x ∈ z, 0 ≤ x ∧ x ≤ 1000000000) (h1 : 1 ≤ z.length) : ∀ x ∈ partsOf z, 0 ≤ x ∧ x ≤ 60 := by
  have h2 : ∀ x ∈ partsOf z, 0 ≤ x := rounds_pos _ _ _ fun x hx => (pout_bd hb x hx).1
  have h3 := partsOf_sum hb h1
  exact fun x hx => ⟨h2 x hx, by rw [← h3]; exact (le_sum h2).2 x hx⟩
theorem partB_parts {z : List Nd} {s w : List Int} (hb : ∀ x ∈ w, 0 ≤ x ∧ x ≤ 1000000000) (h1 : 1 ≤ w.length) (hw : w.length = wide z s) : partB z s (partsOf w) = true := by
  refine part_yes (by rw [partsOf_len, hw]) (List.all_eq_true.2 fun x hx => ?_) (partsOf_sum hb h1)
  exact decide_eq_true (partsOf_in hb h1 x hx)
theorem rep0 (n : Nat) : ∀ x ∈ List.replicate n (0 : Int), 0 ≤ x ∧ x ≤ 1000000000 := fun x hx => by rw [List.eq_of_mem_replicate hx]; decide
theorem unif_strat {z : List Nd} {ws vs : List (List Int)} {p : Int} (hg : isGame z ws vs = true) (hp : 0 ≤ p ∧ p ≤ 1) : isStrat z ws vs p (unif z (sets z ws.length p)) = true := by
  rw [strat_in rfl hg hp]
  have hl : (unif z (sets z ws.length p)).length = (sets z ws.length p).length := by simp [unif]
  refine parts_yes hl fun i hi => ?_
  have hs := sets_at (z := z) (k := ws.length) (p := p) (i := i) hi
  have hw := wide_pos hg hs.2.1 hs.2.2 hp.2
  have he : (unif z (sets z ws.length p)).getD i [] = partsOf (List.replicate (wide z ((sets z ws.length p).getD i [])) 0) := by
    simp [unif, List.getD, List.getElem?_eq_getElem hi]
  rw [he]
  exact partB_parts (rep0 _) (by rw [List.length_replicate]; exact hw) (List.length_replicate ..)
theorem unif_ok {z : List Nd} {ws vs : List (List Int)} {p : Int} (h : (unifAt z ws vs p).2 = 0) : isStrat z ws vs (unifAt z ws vs p).1.1 (unifAt z ws vs p).1.2 = true := by
  by_cases hg : isGame z ws vs = true
  · by_cases hp : 0 ≤ p ∧ p ≤ 1
    · rw [unifAt_0 rfl hg hp]; exact unif_strat hg hp
    · rw [unifAt_2 hg hp] at h; cases h
  · rw [unifAt_1 (by simpa using hg)] at h; cases h
theorem sets_count {z : List Nd} {ws vs : List (List Int)} {p : Int} (h : (setsAt z ws vs p).2 = 0) : (decsOf z p).2 = 0 ∧ (setsAt z ws vs p).1.length = (decsOf z p).1.length * ws.length ∧ ws.length ≤ 6 := by
  unfold setsAt at h ⊢
  split at h
  · rename_i hg
    split at h
    · rename_i hp
      have hd : decsOf z p = (nodesOf z p, 0) := by unfold decsOf; rw [if_pos (isGame_ok hg).1, if_pos hp]
      rw [if_pos hg, if_pos hp, hd]
      exact ⟨rfl, setsOf_len _ _, (isGame_ok hg).2.1.2⟩
    · cases h
  · cases h
end Go.Proofs.Ytjengglpbdgmnaa.Math
