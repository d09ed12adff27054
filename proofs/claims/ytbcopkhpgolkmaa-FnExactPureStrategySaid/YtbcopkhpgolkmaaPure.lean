/- Plain facts on pure strategies. No condition. -/
import Derived.Test.YtbcopkhpgolkmaaUni
import Derived.Test.YtbcopkhpgolkmaaHigh
namespace Go.Proofs.Ytbcopkhpgolkmaa.Math
open Go.Proofs.Ytbcopkhpgolkmaa.V
set_option linter.unusedVariables false
set_option linter.unusedSimpArgs false
/-- What is left of a number behind the last digits. -/
def quoL : List Int → Int → Int
  | [], n => n
  | s :: l, n => quoL l n / s
theorem quoL_step {l : List Int} {i : Nat} {n : Int} (h : i < l.length) : quoL (l.drop i) n = quoL (l.drop (i + 1)) n / l.getD i 0 := by
  have : l.drop i = l.getD i 0 :: l.drop (i + 1) := by rw [List.drop_eq_getElem_cons h]; simp [List.getD, List.getElem?_eq_getElem h]
  rw [this]; rfl
theorem quoL_end {l : List Int} {i : Nat} {n : Int} (h : l.length ≤ i) : quoL (l.drop i) n = n := by rw [List.drop_of_length_le h]; rfl
theorem quoL_bd {n : Int} (hn : 0 ≤ n) : ∀ {l : List Int}, (∀ x ∈ l, 1 ≤ x ∧ x ≤ 4) → 0 ≤ quoL l n ∧ quoL l n ≤ n
  | [], _ => ⟨hn, Int.le_refl _⟩
  | s :: l, h => by
    have h1 := quoL_bd hn (l := l) fun x hx => h x (List.mem_cons_of_mem _ hx)
    have h2 := h s (List.mem_cons_self ..)
    show 0 ≤ quoL l n / s ∧ quoL l n / s ≤ n
    have h3 := Int.ediv_le_self s h1.1
    exact ⟨Int.ediv_nonneg h1.1 (by omega), by omega⟩
theorem drop_mem {l : List Int} {q : Int → Prop} (h : ∀ x ∈ l, q x) (i : Nat) : ∀ x ∈ l.drop i, q x := fun x hx => h x (List.mem_of_mem_drop hx)
def digit (l : List Int) (n : Int) (i : Nat) : Int := quoL (l.drop (i + 1)) n % l.getD i 0
def digits (l : List Int) (n : Int) : List Int := mapR (digit l n) l.length
def line (s d : Int) : List Int := (List.replicate s.toNat 0).set d.toNat 60
def pureM (l : List Int) (n : Int) : List (List Int) := mapR (fun i => line (l.getD i 0) (digit l n i)) l.length
theorem digits_len (l : List Int) (n : Int) : (digits l n).length = l.length := mapR_len _ _
theorem pureM_len (l : List Int) (n : Int) : (pureM l n).length = l.length := mapR_len _ _
theorem digits_at {l : List Int} {n : Int} {i : Nat} (h : i < l.length) : (digits l n).getD i 0 = digit l n i := mapR_get _ 0 h
theorem pureM_at {l : List Int} {n : Int} {i : Nat} (h : i < l.length) : (pureM l n).getD i [] = line (l.getD i 0) (digit l n i) := mapR_get (fun i => line (l.getD i 0) (digit l n i)) [] h
theorem digit_bd {l : List Int} {n : Int} {i : Nat} (hl : ∀ x ∈ l, 1 ≤ x ∧ x ≤ 4) (h : i < l.length) : 0 ≤ digit l n i ∧ digit l n i < l.getD i 0 := by
  have h1 := hl _ (getD_mem 0 h)
  exact ⟨Int.emod_nonneg _ (by omega), Int.emod_lt_of_pos _ (by omega)⟩
theorem tail_put {α : Type} (z d : α) {l : List α} {m : Nat} (h : m < l.length) : (List.replicate (m + 1) z ++ l.drop (m + 1)).set m (l.getD m d) = List.replicate m z ++ l.drop m := by
  have h1 : l.drop m = l.getD m d :: l.drop (m + 1) := by rw [List.drop_eq_getElem_cons h]; simp [List.getD, List.getElem?_eq_getElem h]
  rw [h1, List.replicate_succ', List.append_assoc, List.set_append_right _ _ (by rw [List.length_replicate]; exact Nat.le_refl _), List.length_replicate, Nat.sub_self]; rfl
theorem tail_put' {α : Type} (z d v : α) {l : List α} {i : Int} (h0 : 0 ≤ i) (h : i < l.length) (hv : v = l.getD i.toNat d) : (List.replicate (i + 1).toNat z ++ l.drop (i + 1).toNat).set i.toNat v = List.replicate (i - 1 + 1).toNat z ++ l.drop (i - 1 + 1).toNat := by
  subst hv
  rw [show (i + 1).toNat = i.toNat + 1 from by omega, show (i - 1 + 1).toNat = i.toNat from by omega]
  exact tail_put z d (by omega)
theorem tail_start {α : Type} (z : α) {l : List α} {n : Nat} (h : l.length = n) : List.replicate n z = List.replicate ((n : Int) - 1 + 1).toNat z ++ l.drop ((n : Int) - 1 + 1).toNat := by
  rw [show ((n : Int) - 1 + 1).toNat = n from by omega, List.drop_of_length_le (by omega), List.append_nil]
theorem tail_end {α : Type} (z : α) {l : List α} {i : Int} (h : i < 0) : List.replicate (i + 1).toNat z ++ l.drop (i + 1).toNat = l := by
  rw [show (i + 1).toNat = 0 from by omega]; rfl
theorem tail_len {α : Type} (z : α) {l : List α} {i : Int} (h0 : 0 ≤ i) (h : i < l.length) : (List.replicate (i + 1).toNat z ++ l.drop (i + 1).toNat).length = l.length := by
  rw [List.length_append, List.length_replicate, List.length_drop]; omega
theorem quo_next {l : List Int} {i n N : Int} (h0 : 0 ≤ i) (h : i < l.length) (hn : n = quoL (l.drop (i + 1).toNat) N) : n / l.getD i.toNat 0 = quoL (l.drop (i - 1 + 1).toNat) N := by
  rw [hn, show (i + 1).toNat = i.toNat + 1 from by omega, show (i - 1 + 1).toNat = i.toNat from by omega, quoL_step (l := l) (i := i.toNat) (n := N) (by omega)]
theorem digit_now {l : List Int} {i n N : Int} (h0 : 0 ≤ i) (h : i < l.length) (hn : n = quoL (l.drop (i + 1).toNat) N) : n % l.getD i.toNat 0 = (digits l N).getD i.toNat 0 := by
  rw [digits_at (l := l) (n := N) (i := i.toNat) (by omega), hn, show (i + 1).toNat = i.toNat + 1 from by omega]; rfl
theorem pure_now {l : List Int} {i n N : Int} {k : Nat} (h0 : 0 ≤ i) (h : i < l.length) (hn : n = quoL (l.drop (i + 1).toNat) N) (hk : l.getD i.toNat 0 = (k : Int)) : (List.replicate k 0).set (n % (k : Int)).toNat 60 = (pureM l N).getD i.toNat [] := by
  rw [pureM_at (l := l) (n := N) (i := i.toNat) (by omega), ← digits_at (l := l) (n := N) (i := i.toNat) (by omega), ← digit_now h0 h hn, hk]; rfl
theorem pure_snoc {l : List Int} {n : Int} {i : Nat} (h : i < l.length) : mapR (fun i => line (l.getD i 0) (digit l n i)) i ++ [(List.replicate (l.getD i 0).toNat 0).set ((digits l n).getD i 0).toNat 60] = mapR (fun i => line (l.getD i 0) (digit l n i)) (i + 1) := by
  rw [digits_at h]; exact mapR_snoc (fun i => line (l.getD i 0) (digit l n i)) i
theorem sizes_bd {z : List Nd} {ws vs : List (List Int)} {p : Int} {k : Nat} (hg : isGame z ws vs = true) (hp : 0 ≤ p ∧ p ≤ 1) : ∀ x ∈ sizes z (sets z k p), 1 ≤ x ∧ x ≤ 4 := by
  intro x hx
  obtain ⟨i, hi, he⟩ := List.getElem_of_mem hx
  have hi2 : i < (sets z k p).length := by rw [sizes_len] at hi; exact hi
  have hd : (sizes z (sets z k p)).getD i 0 = x := by simp [List.getD, List.getElem?_eq_getElem hi, he]
  have h1 := sets_at hi2
  have h2 := wide_le hg h1.2.1
  have h3 := wide_pos hg h1.2.1 h1.2.2 hp.2
  rw [sizes_at hi2] at hd; omega
theorem countL_bd : ∀ {l : List Int} {n m : Int}, (∀ x ∈ l, 1 ≤ x ∧ x ≤ 4) → (1 ≤ n ∧ n ≤ 1000000000) → countL l n = some m → 1 ≤ m ∧ m ≤ 1000000000
  | [], n, m, _, hn, h => by cases h; exact hn
  | x :: l, n, m, hl, hn, h => by
    unfold countL at h
    split at h
    · cases h
    · have hx := hl x (List.mem_cons_self ..)
      have h1 : n * 1 ≤ n * x := Int.mul_le_mul_of_nonneg_left hx.1 (by omega)
      exact countL_bd (fun y hy => hl y (List.mem_cons_of_mem _ hy)) (by omega) h
theorem countOf_ok {z : List Nd} {ws vs : List (List Int)} {p : Int} (h : (countOf z ws vs p).2 = 0) : isGame z ws vs = true ∧ (0 ≤ p ∧ p ≤ 1) := by
  unfold countOf at h
  split at h
  · split at h
    · exact ⟨by assumption, by assumption⟩
    · cases h
  · cases h
theorem countOf_bd (z : List Nd) (ws vs : List (List Int)) (p : Int) : 0 ≤ (countOf z ws vs p).1 ∧ (countOf z ws vs p).1 ≤ 1000000000 := by
  unfold countOf
  split
  · rename_i hg
    split
    · rename_i hp
      cases hc : countL (sizes z (sets z ws.length p)) 1 with
      | none => exact ⟨by decide, by decide⟩
      | some m => have := countL_bd (sizes_bd hg hp) ⟨by decide, by decide⟩ hc; dsimp only; omega
    · exact ⟨by decide, by decide⟩
  · exact ⟨by decide, by decide⟩
def pureAt (z : List Nd) (ws vs : List (List Int)) (p n : Int) : (Int × List (List Int)) × Int :=
  if (countOf z ws vs p).2 = 0 then if 0 ≤ n ∧ n ≤ (countOf z ws vs p).1 - 1 then ((p, pureM (sizes z (sets z ws.length p)) n), 0) else ((0, []), 2) else ((0, []), (countOf z ws vs p).2)
theorem pureAt_c {z : List Nd} {ws vs : List (List Int)} {p n : Int} (h : (countOf z ws vs p).2 ≠ 0) : pureAt z ws vs p n = ((0, []), (countOf z ws vs p).2) := if_neg h
theorem pureAt_2 {z : List Nd} {ws vs : List (List Int)} {p n : Int} (h : (countOf z ws vs p).2 = 0) (h2 : ¬ (0 ≤ n ∧ n ≤ (countOf z ws vs p).1 - 1)) : pureAt z ws vs p n = ((0, []), 2) := by unfold pureAt; rw [if_pos h, if_neg h2]
theorem pureAt_0 {z : List Nd} {ws vs : List (List Int)} {p n : Int} {k : Nat} (hk : ws.length = k) (h : (countOf z ws vs p).2 = 0) (h2 : 0 ≤ n ∧ n ≤ (countOf z ws vs p).1 - 1) : pureAt z ws vs p n = ((p, pureM (sizes z (sets z k p)) n), 0) := by subst hk; unfold pureAt; rw [if_pos h, if_pos h2]
theorem line_len (s d : Int) : (line s d).length = s.toNat := by unfold line; rw [List.length_set, List.length_replicate]
theorem pureAt_bd (z : List Nd) (ws vs : List (List Int)) (p n : Int) : (pureAt z ws vs p n).1.2.length ≤ 360 ∧ sumK rwl (pureAt z ws vs p n).1.2 ≤ 1440 := by
  have h0' : sumK rwl ([] : List (List Int)) = 0 := rfl
  unfold pureAt; split
  · rename_i hc
    obtain ⟨hg, hp⟩ := countOf_ok hc
    split
    · have h1 := (isGame_ok hg).2.1; have h2 := (isTree_ok (isGame_ok hg).1).1
      have h3 := sets_len (z := z) (p := p) (show ws.length ≤ 6 by omega)
      have hl := pureM_len (sizes z (sets z ws.length p)) n
      have hz := sizes_len (z := z) (ss := sets z ws.length p)
      have h4 := sumK_bd rwl 4 (pureM (sizes z (sets z ws.length p)) n) fun r hr => by
        obtain ⟨i, hi, rfl⟩ := mapR_mem hr
        unfold rwl; rw [line_len]
        have := sizes_bd (k := ws.length) hg hp _ (getD_mem 0 hi)
        omega
      dsimp only; omega
    · dsimp only; rw [h0']; exact ⟨Nat.zero_le _, Nat.zero_le _⟩
  · dsimp only; rw [h0']; exact ⟨Nat.zero_le _, Nat.zero_le _⟩
end Go.Proofs.Ytbcopkhpgolkmaa.Math
