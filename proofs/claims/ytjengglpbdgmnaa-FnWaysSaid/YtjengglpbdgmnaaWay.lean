/- Plain facts on ways in trees. No condition. -/
import Derived.Test.YtjengglpbdgmnaaParts
namespace Go.Proofs.Ytjengglpbdgmnaa.Math
open Go.Proofs.Ytjengglpbdgmnaa.V
set_option linter.unusedVariables false
set_option linter.unusedSimpArgs false
/-- The places that lead to a node. -/
inductive Way (z : List Nd) : Int → List Int → Prop
  | root : Way z 0 []
  | step {i : Nat} {n : Int} {l : List Int} : (i : Int) < n → i < z.length → n ∈ (z.getD i dN).ch → Way z (i : Int) l → Way z n (l ++ [indexOf (z.getD i dN).ch n])
noncomputable def wayOf (z : List Nd) (n : Int) : List Int := open Classical in if h : ∃ l, Way z n l then Classical.choose h else []
theorem kids_mem {z : List Nd} {i : Nat} {n : Int} (hi : i < z.length) (h : n ∈ (z.getD i dN).ch) : n ∈ kids z := by
  unfold kids; exact List.mem_flatMap.2 ⟨_, getD_mem dN hi, h⟩
theorem kids_app (a b : List Nd) : kids (a ++ b) = kids a ++ kids b := by unfold kids; exact List.flatMap_append
/-- Only one node leads to a node. -/
theorem one_parent {z : List Nd} (h1 : oneEach z = true) {n : Int} (hn : 1 ≤ n ∧ n < z.length) {i j : Nat} (hi : i < z.length) (hj : j < z.length) (h : n ∈ (z.getD i dN).ch) (h' : n ∈ (z.getD j dN).ch) : i = j := by
  have hc := oneEach_iff.1 h1 n.toNat (by omega) (by omega)
  rw [show ((n.toNat : Nat) : Int) = n from by omega] at hc
  have key : ∀ a b : Nat, a < b → b < z.length → n ∈ (z.getD a dN).ch → n ∈ (z.getD b dN).ch → False := by
    intro a b hab hb ha hb'
    have hs : kids z = kids (z.take b) ++ kids (z.drop b) := by rw [← kids_app, List.take_append_drop]
    have m1 : n ∈ kids (z.take b) := by
      refine kids_mem (i := a) (by rw [List.length_take]; omega) ?_
      have : (z.take b).getD a dN = z.getD a dN := by simp [List.getD, List.getElem?_take, hab]
      rw [this]; exact ha
    have m2 : n ∈ kids (z.drop b) := by
      refine kids_mem (i := 0) (by rw [List.length_drop]; omega) ?_
      have : (z.drop b).getD 0 dN = z.getD b dN := by simp [List.getD, List.getElem?_drop]
      rw [this]; exact hb'
    have c1 := List.count_pos_iff.2 m1
    have c2 := List.count_pos_iff.2 m2
    rw [hs, List.count_append] at hc
    omega
  rcases Nat.lt_trichotomy i j with hlt | he | hlt
  · exact (key i j hlt hj h h').elim
  · exact he
  · exact (key j i hlt hi h' h).elim
theorem parent_ex {z : List Nd} (hok : allOk z = true) (h1 : oneEach z = true) {n : Int} (hn : 1 ≤ n ∧ n < z.length) : ∃ i : Nat, (i : Int) < n ∧ i < z.length ∧ n ∈ (z.getD i dN).ch := by
  have hc := oneEach_iff.1 h1 n.toNat (by omega) (by omega)
  rw [show ((n.toNat : Nat) : Int) = n from by omega] at hc
  have hm : n ∈ kids z := List.count_pos_iff.1 (by omega)
  unfold kids at hm
  obtain ⟨x, hx, hnx⟩ := List.mem_flatMap.1 hm
  obtain ⟨i, hi, hxi⟩ := List.getElem_of_mem hx
  have hg : z.getD i dN = x := by simp [List.getD, List.getElem?_eq_getElem hi, hxi]
  rw [← hg] at hnx
  have := ok_kid (allOk_iff.1 hok i hi) hnx
  exact ⟨i, by omega, hi, hnx⟩
theorem Way.len {z : List Nd} {n : Int} {l : List Int} (h : Way z n l) : 0 ≤ n ∧ (l.length : Int) ≤ n := by
  induction h with
  | root => exact ⟨Int.le_refl _, Int.le_refl _⟩
  | step h1 h2 h3 h4 ih => rw [List.length_append, List.length_singleton]; omega
theorem Way.one {z : List Nd} (h1 : oneEach z = true) {n : Int} {l : List Int} (h : Way z n l) : n < z.length → ∀ l', Way z n l' → l = l' := by
  induction h with
  | root =>
    intro _ l' h'
    cases h' with
    | root => rfl
    | step ha hb hc hd => omega
  | @step i n l ha hb hc hd ih =>
    intro hn l' h'
    cases h' with
    | root => omega
    | @step j _ l2 ha' hb' hc' hd' =>
      have : i = j := one_parent h1 ⟨by omega, hn⟩ hb hb' hc hc'
      subst this
      rw [ih (by omega) l2 hd']
theorem wayOf_eq {z : List Nd} (h1 : oneEach z = true) {n : Int} (hn : n < z.length) {l : List Int} (h : Way z n l) : l = wayOf z n := by
  have hex : ∃ l, Way z n l := ⟨l, h⟩
  unfold wayOf; rw [dif_pos hex]
  exact h.one h1 hn _ (Classical.choose_spec hex)
theorem wayOf_ex {z : List Nd} (hok : allOk z = true) (h1 : oneEach z = true) : ∀ (k : Nat) (n : Int), n.toNat = k → 0 ≤ n → n < z.length → ∃ l, Way z n l := by
  intro k
  induction k using Nat.strongRecOn with
  | _ k ih =>
    intro n hk h0 hn
    by_cases hz : n = 0
    · subst hz; exact ⟨[], .root⟩
    · obtain ⟨i, hi1, hi2, hi3⟩ := parent_ex hok h1 ⟨by omega, hn⟩
      obtain ⟨l, hl⟩ := ih i (by omega) (i : Int) (by omega) (by omega) (by omega)
      exact ⟨_, .step hi1 hi2 hi3 hl⟩
theorem wayOf_way {z : List Nd} (hok : allOk z = true) (h1 : oneEach z = true) {n : Int} (h0 : 0 ≤ n) (hn : n < z.length) : Way z n (wayOf z n) := by
  obtain ⟨l, hl⟩ := wayOf_ex hok h1 _ n rfl h0 hn
  rw [← wayOf_eq h1 hn hl]; exact hl
theorem indexOf_mem {l : List Int} {v : Int} (h : 0 ≤ indexOf l v) : v ∈ l := by
  refine Classical.byContradiction fun hn => ?_
  rw [indexOf_no (fun j hj e => hn (by rw [← e]; exact getD_mem 0 hj))] at h
  omega
theorem indexOf_nmem {l : List Int} {v : Int} (h : ¬ 0 ≤ indexOf l v) : ¬ v ∈ l := by
  intro hm
  have hex : ∃ i : Nat, i < l.length ∧ l.getD i 0 = v := by
    obtain ⟨i, hi, he⟩ := List.getElem_of_mem hm
    exact ⟨i, hi, by simp [List.getD, List.getElem?_eq_getElem hi, he]⟩
  have : ∀ k : Nat, ∀ i, i = k → i < l.length → l.getD i 0 = v → 0 ≤ indexOf l v := by
    intro k
    induction k using Nat.strongRecOn with
    | _ k ih =>
      intro i hik hi hv
      subst hik
      by_cases hf : ∀ j, j < i → l.getD j 0 ≠ v
      · rw [indexOf_yes hi hv hf]; omega
      · obtain ⟨j, hf⟩ := Classical.not_forall.1 hf
        obtain ⟨hj, hjv⟩ := Classical.not_imp.1 hf
        replace hjv := Classical.not_not.1 hjv
        exact ih j hj j rfl (by omega) hjv
  obtain ⟨i, hi, hv⟩ := hex
  exact h (this i i rfl hi hv)
theorem indexOf_le {l : List Int} {v : Int} : -1 ≤ indexOf l v ∧ indexOf l v < l.length := by
  by_cases h : 0 ≤ indexOf l v
  · unfold indexOf at h ⊢
    split
    · rename_i hx; have := (Classical.choose_spec hx).1; omega
    · omega
  · have : indexOf l v = -1 := by
      refine indexOf_no fun j hj e => indexOf_nmem h (by rw [← e]; exact getD_mem 0 hj)
    omega
noncomputable def wayAt (z : List Nd) (n : Int) : List Int × Int := if isTree z = true then if 0 ≤ n ∧ n ≤ (z.length : Int) - 1 then (wayOf z n, 0) else ([], 2) else ([], 1)
theorem wayAt_len (z : List Nd) (n : Int) : (wayAt z n).1.length ≤ 60 := by
  unfold wayAt; split
  · rename_i h; have ht := isTree_ok h
    split
    · have := (wayOf_way ht.2.1 ht.2.2.1 (n := n) (by omega) (by omega)).len
      dsimp only; omega
    · exact Nat.zero_le _
  · exact Nat.zero_le _
/-- A list turned around up to a place. -/
def RevTo (z c : List Int) (i : Nat) : Prop := c.length = z.length ∧ ∀ k, k < z.length → c.getD k 0 = if k < i ∨ z.length ≤ k + i then z.getD (z.length - 1 - k) 0 else z.getD k 0
theorem rev_start (z : List Int) : RevTo z z 0 := ⟨rfl, fun k hk => by rw [if_neg (by omega)]⟩
theorem getD_set {l : List Int} {i k : Nat} {v : Int} (h : k < l.length) : (l.set i v).getD k 0 = if i = k then v else l.getD k 0 := by
  simp only [List.getD, List.getElem?_set]
  split
  · rename_i he; subst he; simp [h]
  · rfl
theorem rev_swap {z c : List Int} {i j : Nat} (hc : RevTo z c i) (hj : i + j + 1 = z.length) (hij : i < j) : RevTo z ((c.set i (c.getD j 0)).set j (c.getD i 0)) (i + 1) := by
  obtain ⟨h1, h2⟩ := hc
  refine ⟨by simp [h1], fun k hk => ?_⟩
  rw [getD_set (by simp [h1]; exact hk), getD_set (by omega)]
  have hi' := h2 i (by omega)
  have hj' := h2 j (by omega)
  have hk' := h2 k hk
  rw [if_neg (by omega)] at hi' hj'
  by_cases e1 : j = k
  · subst e1
    rw [if_pos rfl, if_pos (by omega), hi', show z.length - 1 - j = i from by omega]
  · rw [if_neg e1]
    by_cases e2 : i = k
    · subst e2
      rw [if_pos rfl, if_pos (by omega), hj', show z.length - 1 - i = j from by omega]
    · rw [if_neg e2, hk']
      by_cases h : k < i ∨ z.length ≤ k + i
      · rw [if_pos h, if_pos (by omega)]
      · rw [if_neg h, if_neg (by omega)]
theorem rev_end {z c : List Int} {i : Nat} (hc : RevTo z c i) (h : z.length ≤ i + i + 1) : c = z.reverse := by
  obtain ⟨h1, h2⟩ := hc
  refine List.ext_getElem (by simp [h1]) fun k hk1 hk2 => ?_
  have hk : k < z.length := by omega
  have := h2 k hk
  have e1 : c.getD k 0 = c[k] := by simp [List.getD, List.getElem?_eq_getElem hk1]
  have e2 : z.getD (z.length - 1 - k) 0 = z[z.length - 1 - k]'(by omega) := by simp [List.getD, List.getElem?_eq_getElem (show z.length - 1 - k < z.length by omega)]
  rw [List.getElem_reverse, ← e1, ← e2, this]
  split
  · rfl
  · rw [show z.length - 1 - k = k from by omega]
theorem way_up {z : List Nd} {i n : Int} {l : List Int} (h0 : 0 ≤ i) (h1 : i < n) (h2 : i < z.length) (h3 : 0 ≤ indexOf (z.getD i.toNat dN).ch n) (hl : Way z i l) : Way z n (l ++ [indexOf (z.getD i.toNat dN).ch n]) :=
  .step (i := i.toNat) (by omega) (by omega) (indexOf_mem h3) (by rw [show ((i.toNat : Nat) : Int) = i from by omega]; exact hl)
theorem up_rev {z : List Nd} {i n u : Int} {r : List Int} (hw : ∀ l, Way z n l → Way z u (l ++ r.reverse)) (h0 : 0 ≤ i) (h1 : i < n) (h2 : i < z.length) (h3 : 0 ≤ indexOf (z.getD i.toNat dN).ch n) : ∀ l, Way z i l → Way z u (l ++ (r ++ [indexOf (z.getD i.toNat dN).ch n]).reverse) := fun l hl => by
  have := hw _ (way_up h0 h1 h2 h3 hl)
  simpa using this
theorem hal_step {z : List Nd} {i n : Int} (h0 : 0 ≤ i) (hal : ∀ j : Nat, i < j → (j : Int) < n → ¬ n ∈ (z.getD j dN).ch) (h : ¬ 0 ≤ indexOf (z.getD i.toNat dN).ch n) : ∀ j : Nat, i - 1 < j → (j : Int) < n → ¬ n ∈ (z.getD j dN).ch := fun j hj hj2 => by
  by_cases hji : (j : Int) = i
  · rw [show j = i.toNat by omega]; exact indexOf_nmem h
  · exact hal j (by omega) hj2
theorem way_done {z : List Nd} (ht : isTree z = true) {i n u : Int} {r : List Int} (hi : i < 0) (hn : 0 ≤ n ∧ n < z.length) (hu : u < z.length) (hal : ∀ j : Nat, i < j → (j : Int) < n → ¬ n ∈ (z.getD j dN).ch) (hw : ∀ l, Way z n l → Way z u (l ++ r.reverse)) : r.reverse = wayOf z u := by
  have h := isTree_ok ht
  by_cases h0 : n = 0
  · subst h0
    exact wayOf_eq h.2.2.1 hu (by simpa using hw [] .root)
  · obtain ⟨j, hj1, hj2, hj3⟩ := parent_ex h.2.1 h.2.2.1 ⟨by omega, hn.2⟩
    exact absurd hj3 (hal j (by omega) hj1)
theorem way_found {z : List Nd} (ht : isTree z = true) {i k : Nat} {u : Int} (hi : (i : Int) < u) (hu : u < z.length) (hk : k < (z.getD i dN).ch.length) (hv : (z.getD i dN).ch.getD k 0 = u) (hf : ∀ q, q < k → (z.getD i dN).ch.getD q 0 ≠ u) : wayOf z (i : Int) ++ [(k : Int)] = wayOf z u := by
  have h := isTree_ok ht
  refine wayOf_eq h.2.2.1 hu ?_
  rw [← indexOf_yes hk hv hf]
  exact .step hi (by omega) (by rw [← hv]; exact getD_mem 0 hk) (wayOf_way h.2.1 h.2.2.1 (by omega) (by omega))
theorem wayOf_0 {z : List Nd} (ht : isTree z = true) : wayOf z 0 = [] := by
  have h := isTree_ok ht
  exact (wayOf_eq h.2.2.1 (by omega) .root).symm
theorem no_way {z : List Nd} (ht : isTree z = true) {i : Nat} {u : Int} (hi : u ≤ i) (hu : 1 ≤ u ∧ u < z.length) (hal : ∀ j, j < i → ¬ u ∈ (z.getD j dN).ch) : False := by
  have h := isTree_ok ht
  obtain ⟨j, hj1, hj2, hj3⟩ := parent_ex h.2.1 h.2.2.1 hu
  exact hal j (by omega) hj3
theorem not_kid {l : List Int} {u : Int} (h : ∀ q, q < l.length → l.getD q 0 ≠ u) : ¬ u ∈ l := fun hm => by
  obtain ⟨i, hi, he⟩ := List.getElem_of_mem hm
  exact h i hi (by simp [List.getD, List.getElem?_eq_getElem hi, he])
theorem wayAt_yes {z : List Nd} {n : Nat} {u : Int} (hl : z.length = n) (h : isTree z = true) (hu : 0 ≤ u ∧ u ≤ (n : Int) - 1) : wayAt z u = (wayOf z u, 0) := by
  subst hl; unfold wayAt; rw [if_pos h, if_pos hu]
theorem wayAt_no2 {z : List Nd} {n : Nat} {u : Int} (hl : z.length = n) (h : isTree z = true) (hu : ¬ (0 ≤ u ∧ u ≤ (n : Int) - 1)) : wayAt z u = ([], 2) := by
  subst hl; unfold wayAt; rw [if_pos h, if_neg hu]
theorem wayAt_no1 {z : List Nd} {u : Int} (h : isTree z = false) : wayAt z u = ([], 1) := by
  unfold wayAt; rw [if_neg (by rw [h]; decide)]
end Go.Proofs.Ytjengglpbdgmnaa.Math
