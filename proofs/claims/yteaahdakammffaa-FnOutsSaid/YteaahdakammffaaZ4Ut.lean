/- Plain facts: choices of k of n numbers, in order. No condition. -/
import Derived.Test.YteaahdakammffaaZ3Ut
import Derived.Test.YteaahdakammffaaZ2Ut
namespace Go.Proofs.Yteaahdakammffaa.Cm
open Go.Proofs.Yteaahdakammffaa.V
set_option linter.unusedVariables false
set_option linter.unusedSimpArgs false
/-- Choices of k of the numbers from a on, f in number. -/
def cmb : Nat → Nat → Nat → List (List Int)
  | _, _, 0 => [[]]
  | 0, _, _ + 1 => []
  | f + 1, a, k + 1 => (cmb f (a + 1) k).map (fun c => (a : Int) :: c) ++ cmb f (a + 1) (k + 1)
def combs (n k : Nat) : List (List Int) := cmb n 0 k
def bump (c : List Int) (i k : Nat) : List Int := c.take i ++ (List.range (k - i)).map fun t : Nat => c.getD i 0 + 1 + (t : Int)
theorem gA1 {α : Type} {l1 l2 : List α} {p : Nat} {d : α} (h : p < l1.length) : (l1 ++ l2).getD p d = l1.getD p d := by
  rw [List.getD_eq_getElem?_getD, List.getElem?_append_left h, ← List.getD_eq_getElem?_getD]
theorem gA2 {α : Type} {l1 l2 : List α} {p : Nat} {d : α} (h : l1.length ≤ p) : (l1 ++ l2).getD p d = l2.getD (p - l1.length) d := by
  rw [List.getD_eq_getElem?_getD, List.getElem?_append_right h, ← List.getD_eq_getElem?_getD]
theorem gM {α β : Type} {l : List α} {g : α → β} {p : Nat} {d : α} {d' : β} (h : p < l.length) : (l.map g).getD p d' = g (l.getD p d) := by
  rw [List.getD_eq_getElem?_getD, List.getD_eq_getElem?_getD, List.getElem?_map, List.getElem?_eq_getElem h]; rfl
theorem bump_cons (x : Int) (c : List Int) (i k : Nat) : bump (x :: c) (i + 1) (k + 1) = x :: bump c i k := by
  simp [bump, Nat.add_sub_add_right]
theorem cmb_none : ∀ (f a k : Nat), f < k → cmb f a k = []
  | _, _, 0, h => absurd h (Nat.not_lt_zero _)
  | 0, _, _ + 1, _ => rfl
  | f + 1, a, k + 1, h => by
    show (cmb f (a + 1) k).map _ ++ cmb f (a + 1) (k + 1) = []
    rw [cmb_none f (a + 1) k (by omega), cmb_none f (a + 1) (k + 1) (by omega)]; rfl
theorem cmb_first : ∀ (f a k : Nat), k ≤ f → 0 < (cmb f a k).length ∧ (cmb f a k).getD 0 [] = (List.range k).map fun t : Nat => (a : Int) + (t : Int)
  | f, a, 0, _ => by
    have e : cmb f a 0 = [[]] := by cases f <;> rfl
    rw [e]; exact ⟨by simp, rfl⟩
  | 0, _, k + 1, h => absurd h (by omega)
  | f + 1, a, k + 1, h => by
    obtain ⟨h1, h2⟩ := cmb_first f (a + 1) k (by omega)
    have e : cmb (f + 1) a (k + 1) = (cmb f (a + 1) k).map (fun c => (a : Int) :: c) ++ cmb f (a + 1) (k + 1) := rfl
    rw [e]
    refine ⟨by rw [List.length_append, List.length_map]; omega, ?_⟩
    rw [gA1 (by rw [List.length_map]; exact h1), gM (d := []) h1, h2, List.range_succ_eq_map]
    simp only [List.map_cons, List.map_map]
    congr 1
    simp
    intro t _
    omega
theorem cmb_ok : ∀ (f a k n : Nat), n = a + f → ∀ p, p < (cmb f a k).length →
    ((cmb f a k).getD p []).length = k ∧ (∀ j, j < k → (a : Int) ≤ ((cmb f a k).getD p []).getD j 0 ∧ ((cmb f a k).getD p []).getD j 0 < n) ∧
    ((∀ j, j < k → ((cmb f a k).getD p []).getD j 0 = (n : Int) - k + j) → p + 1 = (cmb f a k).length) ∧
    (∀ i, i < k → ((cmb f a k).getD p []).getD i 0 ≠ (n : Int) - k + i → (∀ j, i < j → j < k → ((cmb f a k).getD p []).getD j 0 = (n : Int) - k + j) → p + 1 < (cmb f a k).length ∧ (cmb f a k).getD (p + 1) [] = bump ((cmb f a k).getD p []) i k)
  | _, _, 0, _, _, p, hp => by
    have h1 : p = 0 := by
      simp only [cmb, List.length_cons, List.length_nil] at hp
      omega
    subst h1
    exact ⟨by simp [cmb], fun j hj => absurd hj (Nat.not_lt_zero _), fun _ => by simp [cmb], fun i hi => absurd hi (Nat.not_lt_zero _)⟩
  | 0, _, _ + 1, _, _, p, hp => absurd hp (Nat.not_lt_zero _)
  | f + 1, a, k + 1, n, hn, p, hp => by
    have e : cmb (f + 1) a (k + 1) = (cmb f (a + 1) k).map (fun c => (a : Int) :: c) ++ cmb f (a + 1) (k + 1) := rfl
    rw [e] at hp ⊢
    have hl : ((cmb f (a + 1) k).map fun c => (a : Int) :: c).length = (cmb f (a + 1) k).length := List.length_map _
    rw [List.length_append, hl] at hp ⊢
    by_cases h1 : p < (cmb f (a + 1) k).length
    · obtain ⟨i1, i2, i3, i4⟩ := cmb_ok f (a + 1) k n (by omega) p h1
      rw [gA1 (by rw [hl]; exact h1), gM (d := []) h1]
      have last : (∀ j, j < k → ((cmb f (a + 1) k).getD p []).getD j 0 = (n : Int) - k + j) → p + 1 = (cmb f (a + 1) k).length := i3
      refine ⟨by simp only [List.length_cons, i1], ?_, ?_, ?_⟩
      · intro j hj
        cases j with
        | zero => simp only [List.getD_cons_zero]; omega
        | succ j =>
          simp only [List.getD_cons_succ]
          have := i2 j (by omega)
          push_cast at this
          omega
      · intro h
        have h0 := h 0 (by omega)
        simp only [List.getD_cons_zero] at h0
        have h2 := last fun j hj => by
          have := h (j + 1) (by omega)
          simp only [List.getD_cons_succ] at this
          push_cast at this
          omega
        rw [cmb_none f (a + 1) (k + 1) (by push_cast at h0; omega)]
        simp only [List.length_nil]; omega
      · intro i hi hne hall
        cases i with
        | zero =>
          simp only [List.getD_cons_zero] at hne
          have h2 := last fun j hj => by
            have := hall (j + 1) (by omega) (by omega)
            simp only [List.getD_cons_succ] at this
            push_cast at this
            omega
          have hk : k ≤ f := by
            rcases Nat.lt_or_ge f k with h | h
            · rw [cmb_none f (a + 1) k h] at h1; exact absurd h1 (Nat.not_lt_zero _)
            · exact h
          obtain ⟨j1, j2⟩ := cmb_first f (a + 1) (k + 1) (by push_cast at hne; omega)
          refine ⟨by omega, ?_⟩
          rw [gA2 (by rw [hl]; omega), hl, show p + 1 - (cmb f (a + 1) k).length = 0 by omega, j2]
          simp only [bump, List.take_zero, List.nil_append, Nat.sub_zero, List.getD_cons_zero]
          apply List.map_congr_left
          intro t _
          push_cast; omega
        | succ i =>
          simp only [List.getD_cons_succ] at hne
          obtain ⟨j1, j2⟩ := i4 i (by omega) (by push_cast at hne; omega) fun j hj hjk => by
            have := hall (j + 1) (by omega) (by omega)
            simp only [List.getD_cons_succ] at this
            push_cast at this
            omega
          refine ⟨by omega, ?_⟩
          rw [gA1 (by rw [hl]; exact j1), gM (d := []) j1, j2, bump_cons]
    · obtain ⟨i1, i2, i3, i4⟩ := cmb_ok f (a + 1) (k + 1) n (by omega) (p - (cmb f (a + 1) k).length) (by omega)
      rw [gA2 (by rw [hl]; omega), hl]
      refine ⟨i1, ?_, ?_, ?_⟩
      · intro j hj
        have := i2 j hj
        push_cast at this
        omega
      · intro h
        have := i3 h
        omega
      · intro i hi hne hall
        obtain ⟨j1, j2⟩ := i4 i hi hne hall
        refine ⟨by omega, ?_⟩
        rw [gA2 (by rw [hl]; omega), hl, show p + 1 - (cmb f (a + 1) k).length = p - (cmb f (a + 1) k).length + 1 by omega, j2]
section
variable {n k p : Nat}
theorem combs_none (h : n < k) : combs n k = [] := cmb_none _ _ _ h
theorem combs_pos (h : k ≤ n) : 0 < (combs n k).length := (cmb_first n 0 k h).1
theorem combs_first (h : k ≤ n) : (combs n k).getD 0 [] = (List.range k).map fun t : Nat => (t : Int) := by
  rw [show combs n k = cmb n 0 k from rfl, (cmb_first n 0 k h).2]
  apply List.map_congr_left; intro t _; simp
theorem combs_len (h : p < (combs n k).length) : ((combs n k).getD p []).length = k := (cmb_ok n 0 k n (by omega) p h).1
theorem combs_bd (h : p < (combs n k).length) {j : Nat} (hj : j < k) : 0 ≤ ((combs n k).getD p []).getD j 0 ∧ ((combs n k).getD p []).getD j 0 < n := by
  have := (cmb_ok n 0 k n (by omega) p h).2.1 j hj
  simpa [combs] using this
theorem combs_last (h : p < (combs n k).length) (hl : ∀ j, j < k → ((combs n k).getD p []).getD j 0 = (n : Int) - k + j) : p + 1 = (combs n k).length := (cmb_ok n 0 k n (by omega) p h).2.2.1 hl
theorem combs_next (h : p < (combs n k).length) {i : Nat} (hi : i < k) (hne : ((combs n k).getD p []).getD i 0 ≠ (n : Int) - k + i) (hl : ∀ j, i < j → j < k → ((combs n k).getD p []).getD j 0 = (n : Int) - k + j) : p + 1 < (combs n k).length ∧ (combs n k).getD (p + 1) [] = bump ((combs n k).getD p []) i k :=
  (cmb_ok n 0 k n (by omega) p h).2.2.2 i hi hne hl
end
/-- Choices of elements. -/
def chs : List Int → Nat → List (List Int)
  | _, 0 => [[]]
  | [], _ + 1 => []
  | x :: z, k + 1 => (chs z k).map (fun c => x :: c) ++ chs z (k + 1)
theorem chs_zero (z : List Int) : chs z 0 = [[]] := by cases z <;> rfl
theorem chs_none : ∀ (z : List Int) (k : Nat), z.length < k → chs z k = []
  | _, 0, h => absurd h (Nat.not_lt_zero _)
  | [], k + 1, _ => rfl
  | x :: z, k + 1, h => by
    rw [List.length_cons] at h
    show (chs z k).map _ ++ chs z (k + 1) = []
    rw [chs_none z k (by omega), chs_none z (k + 1) (by omega)]; rfl
theorem chs_drop {z : List Int} {i k : Nat} (h : i < z.length) : chs (z.drop i) (k + 1) = (chs (z.drop (i + 1)) k).map (fun c => z.getD i 0 :: c) ++ chs (z.drop (i + 1)) (k + 1) := by
  rw [List.drop_eq_getElem_cons h, List.getD_eq_getElem?_getD, List.getElem?_eq_getElem h]; rfl
theorem chs_len : ∀ (z : List Int) (k : Nat), (chs z k).length ≤ (z.length + 1) ^ k
  | z, 0 => by rw [chs_zero]; simp
  | [], k + 1 => Nat.zero_le _
  | x :: z, k + 1 => by
    show ((chs z k).map _ ++ chs z (k + 1)).length ≤ _
    rw [List.length_append, List.length_map, List.length_cons]
    have h1 := chs_len z k
    have h2 := chs_len z (k + 1)
    have h3 : (z.length + 1) ^ k ≤ (z.length + 1 + 1) ^ k := Nat.pow_le_pow_left (by omega) k
    rw [Nat.pow_succ] at h2 ⊢
    have h4 : (z.length + 1) ^ k * (z.length + 1) ≤ (z.length + 1 + 1) ^ k * (z.length + 1) := Nat.mul_le_mul_right _ h3
    rw [Nat.mul_succ ((z.length + 1 + 1) ^ k)]
    omega
theorem chs_bd {z : List Int} {k : Nat} (hz : z.length ≤ 60) (hk : k ≤ 5) : (chs z k).length ≤ 844596301 := by
  have h1 := chs_len z k
  have h2 : (z.length + 1) ^ k ≤ 61 ^ k := Nat.pow_le_pow_left (by omega) k
  have h3 : 61 ^ k ≤ 61 ^ 5 := Nat.pow_le_pow_right (by decide) hk
  exact Nat.le_trans h1 (Nat.le_trans h2 h3)
theorem chs_row : ∀ (z : List Int) (k : Nat), ∀ c ∈ chs z k, c.length = k ∧ c.Sublist z
  | z, 0, c, h => by
    rw [chs_zero, List.mem_singleton] at h
    subst h; exact ⟨rfl, List.nil_sublist _⟩
  | [], k + 1, c, h => absurd h List.not_mem_nil
  | x :: z, k + 1, c, h => by
    rcases List.mem_append.1 (show c ∈ (chs z k).map (fun c => x :: c) ++ chs z (k + 1) from h) with h | h
    · obtain ⟨c', hc, rfl⟩ := List.mem_map.1 h
      have := chs_row z k c' hc
      exact ⟨by rw [List.length_cons, this.1], this.2.cons_cons x⟩
    · have := chs_row z (k + 1) c h
      exact ⟨this.1, this.2.cons x⟩
theorem getD_mem' {α : Type} {l : List α} {i : Nat} {d : α} (h : i < l.length) : l.getD i d ∈ l := by
  rw [List.getD_eq_getElem?_getD, List.getElem?_eq_getElem h]; exact List.getElem_mem h
/-- The same by indices. -/
theorem chs_sel : ∀ (z pre : List Int) (k : Nat), chs z k = (cmb z.length pre.length k).map fun c => c.map fun i => (pre ++ z).getD i.toNat 0
  | z, pre, 0 => by
    rw [chs_zero]
    have : cmb z.length pre.length 0 = [[]] := by cases z.length <;> rfl
    rw [this]; rfl
  | [], pre, k + 1 => rfl
  | x :: z, pre, k + 1 => by
    have ih1 := chs_sel z (pre ++ [x]) k
    have ih2 := chs_sel z (pre ++ [x]) (k + 1)
    rw [List.length_append, show ([x] : List Int).length = 1 from rfl, List.append_assoc, List.singleton_append] at ih1 ih2
    show (chs z k).map _ ++ chs z (k + 1) = ((cmb z.length (pre.length + 1) k).map (fun c => (pre.length : Int) :: c) ++ cmb z.length (pre.length + 1) (k + 1)).map _
    rw [ih1, ih2, List.map_append, List.map_map, List.map_map]
    congr 1
    apply List.map_congr_left
    intro c _
    simp only [Function.comp, List.map_cons]
    congr 1
    rw [Int.toNat_natCast, List.getD_eq_getElem?_getD, List.getElem?_append_right (Nat.le_refl _), Nat.sub_self]; rfl
/-- What is handed out, up to a place. -/
theorem pre_next {α : Type} {all : List α} {p : Nat} {d : α} (h : p < all.length) : all.take p ++ [all.getD p d] = all.take (p + 1) := by
  rw [List.take_succ_eq_append_getElem h]
  congr 2
  rw [List.getD_eq_getElem?_getD, List.getElem?_eq_getElem h]; rfl
theorem pre_pre {α : Type} {all : List α} {p : Nat} {d : α} (h : p < all.length) : all.take p ++ [all.getD p d] <+: all := by rw [pre_next h]; exact List.take_prefix _ _
/-- The first choice, up to a place. -/
def fillU (k i : Nat) : List Int := (List.range k).map fun t : Nat => if t < i then (t : Int) else 0
theorem fillU_len (k i : Nat) : (fillU k i).length = k := by simp [fillU]
theorem fillU_zero (k : Nat) : List.replicate k 0 = fillU k 0 := by
  symm
  rw [List.eq_replicate_iff]
  exact ⟨fillU_len _ _, fun x hx => by obtain ⟨t, -, rfl⟩ := List.mem_map.1 hx; simp⟩
theorem fillU_step {k i : Nat} (h : i < k) : (fillU k i).set i (i : Int) = fillU k (i + 1) := by
  apply List.ext_getElem
  · simp [fillU]
  · intro j h1 h2
    rw [List.getElem_set]
    simp only [fillU, List.getElem_map, List.getElem_range]
    by_cases e : i = j
    · subst e; simp
    · rw [if_neg e]
      by_cases e2 : j < i
      · rw [if_pos e2, if_pos (by omega)]
      · rw [if_neg e2, if_neg (by omega)]
theorem fillU_end {n k i : Nat} (h : k ≤ i) (hn : k ≤ n) : fillU k i = (combs n k).getD 0 [] := by
  rw [combs_first hn]
  apply List.map_congr_left
  intro t ht
  have := List.mem_range.1 ht
  rw [if_pos (by omega)]
/-- The next choice, up to a place. -/
def mid (c : List Int) (i q : Nat) : List Int := c.take i ++ (List.range (q - i)).map (fun t : Nat => c.getD i 0 + 1 + (t : Int)) ++ c.drop q
theorem mid_len {c : List Int} {i q : Nat} (h : i ≤ q) (hq : q ≤ c.length) : (mid c i q).length = c.length := by
  simp [mid]; omega
theorem mid_first {c : List Int} {i : Nat} (h : i < c.length) : c.set i (c.getD i 0 + 1) = mid c i (i + 1) := by
  unfold mid
  rw [show i + 1 - i = 1 by omega, List.set_eq_take_append_cons_drop, if_pos h]
  simp [List.range_succ]
theorem mid_get {c : List Int} {i q : Nat} (h : i ≤ q) (hq : q + 1 ≤ c.length) : (mid c i (q + 1)).getD q 0 = c.getD i 0 + 1 + ((q - i : Nat) : Int) := by
  unfold mid
  rw [gA1 (by simp; omega), gA2 (by simp; omega), List.length_take, show min i c.length = i by omega, gM (d := 0) (by simp; omega)]
  congr 2
  rw [List.getD_eq_getElem?_getD, List.getElem?_range (by omega)]; rfl
theorem mid_step {c : List Int} {i q : Nat} (h : i < q) (hq : q < c.length) : (mid c i q).set q ((mid c i q).getD (q - 1) 0 + 1) = mid c i (q + 1) := by
  have h1 := mid_get (c := c) (i := i) (q := q - 1) (by omega) (by omega)
  rw [show q - 1 + 1 = q by omega] at h1
  rw [h1]
  unfold mid
  rw [List.set_append_right _ _ (by simp; omega)]
  have e : (List.take i c ++ (List.range (q - i)).map fun t : Nat => c.getD i 0 + 1 + (t : Int)).length = q := by simp; omega
  rw [e, Nat.sub_self]
  have hd : c.drop q = c.getD q 0 :: c.drop (q + 1) := by
    rw [List.drop_eq_getElem_cons hq, List.getD_eq_getElem?_getD, List.getElem?_eq_getElem hq]; rfl
  rw [hd, List.set_cons_zero, show q + 1 - i = (q - i) + 1 by omega, List.range_succ, List.map_append]
  simp only [List.map_cons, List.map_nil, List.append_assoc, List.singleton_append, List.append_cancel_left_eq, List.cons.injEq, and_true]
  omega
theorem mid_end {c : List Int} {i q : Nat} (hq : c.length ≤ q) : mid c i q = bump c i q := by
  unfold mid bump; rw [List.drop_of_length_le hq, List.append_nil]
end Go.Proofs.Yteaahdakammffaa.Cm
/- Plain facts: hands of a player, values of their own. No condition. -/
namespace Go.Proofs.Yteaahdakammffaa.Hd
open Go.Proofs.Yteaahdakammffaa.V Go.Proofs.Yteaahdakammffaa.Iso
set_option linter.unusedVariables false
set_option linter.unusedSimpArgs false
theorem fill_put {α : Type} (d z v : α) {l : List α} {n i : Nat} (hl : l.length = n) (h : i < n) (hv : l.getD i d = v) : (l.take i ++ List.replicate (n - i) z).set i v = l.take (i + 1) ++ List.replicate (n - (i + 1)) z := by
  rw [← hv]; exact Math.fill_step d z hl h
theorem fill_skip {α : Type} (d z : α) {l : List α} {n i : Nat} (hl : l.length = n) (h : i < n) (hz : l.getD i d = z) : l.take i ++ List.replicate (n - i) z = l.take (i + 1) ++ List.replicate (n - (i + 1)) z := by
  have h1 : n - i = (n - (i + 1)) + 1 := by omega
  have hi : i < l.length := by omega
  rw [h1, List.replicate_succ, List.take_succ_eq_append_getElem hi, List.append_assoc]
  congr 1
  rw [List.getD_eq_getElem?_getD, List.getElem?_eq_getElem hi] at hz
  show z :: _ = l[i] :: _
  rw [show l[i] = z from hz]
  rfl
/-- The elements with some indices. -/
def sel (z c : List Int) : List Int := c.map fun i => z.getD i.toNat 0
theorem sel_len (z c : List Int) : (sel z c).length = c.length := by simp [sel]
theorem sel_get {z c : List Int} {j : Nat} (h : j < c.length) : (sel z c).getD j 0 = z.getD (c.getD j 0).toNat 0 := Cm.gM (d := 0) h
/-- The choices' indices rise. -/
theorem cmb_up : ∀ (f a k : Nat), ∀ c ∈ Cm.cmb f a k, c.Pairwise (· < ·) ∧ (∀ x ∈ c, (a : Int) ≤ x ∧ x < a + f) ∧ c.length = k
  | f, a, 0, c, h => by
    have e : Cm.cmb f a 0 = [[]] := by cases f <;> rfl
    rw [e, List.mem_singleton] at h
    subst h; exact ⟨.nil, fun x hx => absurd hx List.not_mem_nil, rfl⟩
  | 0, a, k + 1, c, h => absurd h List.not_mem_nil
  | f + 1, a, k + 1, c, h => by
    rw [show Cm.cmb (f + 1) a (k + 1) = (Cm.cmb f (a + 1) k).map (fun c => (a : Int) :: c) ++ Cm.cmb f (a + 1) (k + 1) from rfl, List.mem_append] at h
    rcases h with h | h
    · obtain ⟨c', hc, rfl⟩ := List.mem_map.1 h
      obtain ⟨h1, h2, h3⟩ := cmb_up f (a + 1) k c' hc
      refine ⟨List.pairwise_cons.2 ⟨fun x hx => by have := h2 x hx; push_cast at this; omega, h1⟩, fun x hx => ?_, by simp [h3]⟩
      rcases List.mem_cons.1 hx with rfl | hx
      · push_cast; omega
      · have := h2 x hx; push_cast at this ⊢; omega
    · obtain ⟨h1, h2, h3⟩ := cmb_up f (a + 1) (k + 1) c h
      exact ⟨h1, fun x hx => by have := h2 x hx; push_cast at this ⊢; omega, h3⟩
theorem combs_up {n k : Nat} {c : List Int} (h : c ∈ Cm.combs n k) : c.Pairwise (· < ·) ∧ (∀ x ∈ c, 0 ≤ x ∧ x < n) ∧ c.length = k := by
  obtain ⟨h1, h2, h3⟩ := cmb_up n 0 k c h
  exact ⟨h1, fun x hx => by have := h2 x hx; omega, h3⟩
/-- What is chosen is a part, in order. -/
theorem sel_sub : ∀ (z c : List Int) (a : Nat), c.Pairwise (· < ·) → (∀ x ∈ c, (a : Int) ≤ x ∧ x < a + z.length) → List.Sublist (c.map fun i => z.getD (i.toNat - a) 0) z
  | z, [], a, _, _ => List.nil_sublist _
  | [], x :: c, a, _, h => by have := h x (by simp); simp at this; omega
  | y :: z, x :: c, a, hp, h => by
    obtain ⟨h1, h2⟩ := List.pairwise_cons.1 hp
    have hx := h x (by simp)
    by_cases e : x = a
    · subst e
      have ih := sel_sub z c (a + 1) h2 (fun w hw => by have h5 := h w (by simp [hw]); have h6 := h1 w hw; rw [List.length_cons] at h5; push_cast at *; omega)
      rw [List.map_cons]
      have e1 : (y :: z).getD ((a : Int).toNat - a) 0 = y := by rw [show (a : Int).toNat - a = 0 by omega]; rfl
      rw [e1]
      refine List.Sublist.cons_cons y ?_
      have e2 : (c.map fun i => (y :: z).getD (i.toNat - a) 0) = c.map fun i => z.getD (i.toNat - (a + 1)) 0 := List.map_congr_left fun w hw => by
        have := h1 w hw
        rw [show w.toNat - a = (w.toNat - (a + 1)) + 1 by omega]; rfl
      rw [e2]; exact ih
    · have ih := sel_sub z (x :: c) (a + 1) hp (fun w hw => by
        have hw' := h w hw
        have : x ≤ w := by
          rcases List.mem_cons.1 hw with rfl | hw
          · exact Int.le_refl _
          · have := h1 w hw; omega
        simp only [List.length_cons] at hw'
        push_cast at *; omega)
      refine List.Sublist.cons y ?_
      have e2 : ((x :: c).map fun i => (y :: z).getD (i.toNat - a) 0) = (x :: c).map fun i => z.getD (i.toNat - (a + 1)) 0 := List.map_congr_left fun w hw => by
        have : x ≤ w := by
          rcases List.mem_cons.1 hw with rfl | hw
          · exact Int.le_refl _
          · have := h1 w hw; omega
        rw [show w.toNat - a = (w.toNat - (a + 1)) + 1 by omega]; rfl
      rw [e2]; exact ih
theorem sel_sublist {z c : List Int} {k : Nat} (h : c ∈ Cm.combs z.length k) : (sel z c).Sublist z := by
  obtain ⟨h1, h2, h3⟩ := combs_up h
  exact sel_sub z c 0 h1 (by simpa using h2)
/-- All hands of two of the hole and three of the board. -/
def hands (z q : List Int) : List (List Int) := (Cm.combs z.length 2).flatMap fun o => (Cm.combs q.length 3).map fun t => sel z o ++ sel q t
theorem hands_ok {z q y : List Int} (h : areP (z ++ q)) (hy : y ∈ hands z q) : areP y ∧ y.length = 5 := by
  obtain ⟨o, ho, hy⟩ := List.mem_flatMap.1 hy
  obtain ⟨t, ht, rfl⟩ := List.mem_map.1 hy
  have hs : (sel z o ++ sel q t).Sublist (z ++ q) := (sel_sublist ho).append (sel_sublist ht)
  refine ⟨⟨fun x hx => h.1 x (hs.subset hx), h.2.sublist hs⟩, ?_⟩
  rw [List.length_append, sel_len, sel_len, (combs_up ho).2.2, (combs_up ht).2.2]
/-- Up to some choices. -/
def handsP (z q : List Int) (os : List (List Int)) : List (List Int) := os.flatMap fun o => (Cm.combs q.length 3).map fun t => sel z o ++ sel q t
theorem handsP_snoc (z q : List Int) (os : List (List Int)) (o : List Int) : handsP z q (os ++ [o]) = handsP z q os ++ (Cm.combs q.length 3).map fun t => sel z o ++ sel q t := by simp [handsP]
theorem hands_pre {z q : List Int} {os ts : List (List Int)} {o t : List Int} (h1 : os ++ [o] <+: Cm.combs z.length 2) (h2 : ts ++ [t] <+: Cm.combs q.length 3) : (handsP z q os ++ ts.map fun t => sel z o ++ sel q t) ++ [sel z o ++ sel q t] <+: hands z q := by
  obtain ⟨r1, e1⟩ := h1
  obtain ⟨r2, e2⟩ := h2
  refine ⟨(r2.map fun t => sel z o ++ sel q t) ++ handsP z q r1, ?_⟩
  unfold hands
  rw [← e1, show (os ++ [o] ++ r1).flatMap (fun o => (Cm.combs q.length 3).map fun t => sel z o ++ sel q t) = handsP z q (os ++ [o] ++ r1) from rfl]
  rw [show handsP z q (os ++ [o] ++ r1) = handsP z q (os ++ [o]) ++ handsP z q r1 by simp [handsP], handsP_snoc, ← e2]
  simp
theorem hands_pre' {z q : List Int} {n1 n2 k3 : Nat} {os ts : List (List Int)} {o t : List Int} (e1 : z.length = n1) (e2 : q.length = n2) (e3 : k3 = 3) (h1 : os ++ [o] <+: Cm.combs n1 2) (h2 : ts ++ [t] <+: Cm.combs n2 k3) : (handsP z q os ++ ts.map fun t => sel z o ++ sel q t) ++ [sel z o ++ sel q t] <+: hands z q := by
  subst e1; subst e2; subst e3; exact hands_pre h1 h2
theorem gd_mem {c : List Int} {j : Nat} (h : j < c.length) : c.getD j 0 ∈ c := by
  rw [List.getD_eq_getElem?_getD, List.getElem?_eq_getElem h]; exact List.getElem_mem h
theorem combs_ix {z c : List Int} {n k : Nat} {pre : List (List Int)} (e : z.length = n) (h : pre ++ [c] <+: Cm.combs n k) : ∀ j, j < c.length → 0 ≤ c.getD j 0 ∧ c.getD j 0 < z.length := fun j hj => by
  have h1 := (combs_up (h.subset (List.mem_append.2 (Or.inr (List.mem_singleton.2 rfl))))).2.1 _ (gd_mem hj)
  omega
/-- The best of some hands. -/
def best (l : List (List Int)) : Int := l.foldl (fun m y => max m (valN y true)) (-1)
theorem best_snoc (l : List (List Int)) (y : List Int) : best (l ++ [y]) = max (best l) (valN y true) := by simp [best]
def hiN (lea : Int) (z q : List Int) : Int := if lea = 0 then valN (z ++ q) true else best (hands z q)
theorem pre_mem {α : Type} {pre all : List α} {x : α} (h : pre ++ [x] <+: all) : x ∈ all := h.subset (by simp)
/-- Low values. -/
def lrk (x : Int) : Int := (x / 4 + 1) % 13
end Go.Proofs.Yteaahdakammffaa.Hd
/- Plain facts: ranks by how often they occur. No condition. -/
namespace Go.Proofs.Yteaahdakammffaa.Hd
open Go.Proofs.Yteaahdakammffaa.V Go.Proofs.Yteaahdakammffaa.Iso
set_option linter.unusedVariables false
set_option linter.unusedSimpArgs false
/-- The ranks that occur n times, the greatest first; j are looked at. -/
def lev (C : List Int) (n j : Nat) : List Int := (List.range j).flatMap fun k : Nat => if C.getD (12 - k) 0 = (n : Int) then List.replicate n (12 - (k : Int)) else []
def levs (C : List Int) (s : Nat) : List Int := (List.range s).flatMap fun t => lev C (4 - t) 13
def ord (C : List Int) (s j : Nat) : List Int := levs C s ++ lev C (4 - s) j
theorem lev_zero (C : List Int) (n : Nat) : lev C n 0 = [] := rfl
theorem lev_yes {C : List Int} {n j : Nat} (h : C.getD (12 - j) 0 = (n : Int)) : lev C n (j + 1) = lev C n j ++ List.replicate n (12 - (j : Int)) := by
  unfold lev; rw [List.range_succ, List.flatMap_append]; simp only [List.flatMap_cons, List.flatMap_nil, List.append_nil, if_pos h]
theorem lev_no {C : List Int} {n j : Nat} (h : ¬ C.getD (12 - j) 0 = (n : Int)) : lev C n (j + 1) = lev C n j := by
  unfold lev; rw [List.range_succ, List.flatMap_append]; simp only [List.flatMap_cons, List.flatMap_nil, List.append_nil, if_neg h]
theorem ord_yes {C : List Int} {s j : Nat} (h : C.getD (12 - j) 0 = ((4 - s : Nat) : Int)) : ord C s (j + 1) = ord C s j ++ List.replicate (4 - s) (12 - (j : Int)) := by
  unfold ord; rw [lev_yes h, List.append_assoc]
theorem ord_no {C : List Int} {s j : Nat} (h : ¬ C.getD (12 - j) 0 = ((4 - s : Nat) : Int)) : ord C s (j + 1) = ord C s j := by
  unfold ord; rw [lev_no h]
theorem levs_succ (C : List Int) (s : Nat) : levs C (s + 1) = levs C s ++ lev C (4 - s) 13 := by
  unfold levs; rw [List.range_succ, List.flatMap_append]; simp
theorem ord_next (C : List Int) (s : Nat) : ord C s 13 = ord C (s + 1) 0 := by
  unfold ord; rw [levs_succ, lev_zero, List.append_nil]
theorem lev_digs {C : List Int} {n j : Nat} (hj : j ≤ 13) : digs13 (lev C n j) := fun x hx => by
  obtain ⟨k, hk, h⟩ := List.mem_flatMap.1 hx
  have := List.mem_range.1 hk
  split at h
  · have := List.eq_of_mem_replicate h; omega
  · exact absurd h List.not_mem_nil
theorem ord_digs {C : List Int} {s j : Nat} (hj : j ≤ 13) : digs13 (ord C s j) := digs_app (fun x hx => by
  obtain ⟨t, -, h⟩ := List.mem_flatMap.1 hx
  exact lev_digs (Nat.le_refl _) x h) (lev_digs hj)
/-- Sums over the ranks. -/
def sm (f : Nat → Int) (j : Nat) : Int := ((List.range j).map f).sum
theorem sm_succ (f : Nat → Int) (j : Nat) : sm f (j + 1) = sm f j + f j := by simp [sm, List.range_succ]
theorem sm_le {f g : Nat → Int} (h : ∀ k, f k ≤ g k) : ∀ j, sm f j ≤ sm g j
  | 0 => by simp [sm]
  | j + 1 => by rw [sm_succ, sm_succ]; have := sm_le h j; have := h j; omega
theorem sm_add (f g : Nat → Int) : ∀ j, sm (fun k => f k + g k) j = sm f j + sm g j
  | 0 => by simp [sm]
  | j + 1 => by rw [sm_succ, sm_succ, sm_succ, sm_add f g j]; omega
theorem sm_mono {f : Nat → Int} (h : ∀ k, 0 ≤ f k) : ∀ {i j : Nat}, i ≤ j → sm f i ≤ sm f j
  | i, 0, hi => by rw [show i = 0 by omega]; exact Int.le_refl _
  | i, j + 1, hi => by
    rcases Nat.lt_or_ge i (j + 1) with h1 | h1
    · rw [sm_succ]; have := sm_mono h (show i ≤ j by omega); have := h j; omega
    · rw [show i = j + 1 by omega]; exact Int.le_refl _
theorem lev_len (C : List Int) (n : Nat) : ∀ j, ((lev C n j).length : Int) = sm (fun k => if C.getD (12 - k) 0 = (n : Int) then (n : Int) else 0) j
  | 0 => rfl
  | j + 1 => by
    rw [sm_succ, ← lev_len C n j]
    by_cases h : C.getD (12 - j) 0 = (n : Int)
    · rw [lev_yes h, if_pos h, List.length_append, List.length_replicate]; push_cast; rfl
    · rw [lev_no h, if_neg h]; omega
theorem levs_len (C : List Int) (hC : ∀ k, 0 ≤ C.getD k 0) : ∀ s, s ≤ 4 → ((levs C s).length : Int) = sm (fun k => if 4 - (s : Int) < C.getD (12 - k) 0 ∧ C.getD (12 - k) 0 ≤ 4 then C.getD (12 - k) 0 else 0) 13
  | 0, _ => by
    have e : (fun k : Nat => if 4 - ((0 : Nat) : Int) < C.getD (12 - k) 0 ∧ C.getD (12 - k) 0 ≤ 4 then C.getD (12 - k) 0 else 0) = fun _ => 0 := by
      funext k; rw [if_neg (by omega)]
    rw [e]; rfl
  | s + 1, hs => by
    rw [levs_succ, List.length_append]
    push_cast
    rw [levs_len C hC s (by omega), lev_len, ← sm_add]
    congr 1
    funext k
    split <;> split <;> split <;> omega
theorem ord_len {C : List Int} (hC : ∀ k, 0 ≤ C.getD k 0) {s j : Nat} (hs : s ≤ 4) (hj : j ≤ 13) : ((ord C s j).length : Int) ≤ sm (fun k => C.getD (12 - k) 0) 13 := by
  unfold ord
  rw [List.length_append]
  push_cast
  rw [levs_len C hC s hs, lev_len]
  have h1 : sm (fun k => if C.getD (12 - k) 0 = ((4 - s : Nat) : Int) then ((4 - s : Nat) : Int) else 0) j ≤ sm (fun k => if C.getD (12 - k) 0 = ((4 - s : Nat) : Int) then ((4 - s : Nat) : Int) else 0) 13 := sm_mono (fun k => by split <;> omega) hj
  have h2 : sm (fun k => (if 4 - (s : Int) < C.getD (12 - k) 0 ∧ C.getD (12 - k) 0 ≤ 4 then C.getD (12 - k) 0 else 0) + (if C.getD (12 - k) 0 = ((4 - s : Nat) : Int) then ((4 - s : Nat) : Int) else 0)) 13 ≤ sm (fun k => C.getD (12 - k) 0) 13 := sm_le (fun k => by have := hC (12 - k); split <;> split <;> omega) 13
  rw [sm_add] at h2
  omega
theorem tally_nonneg (f : Int → Int) (n : Nat) (z : List Int) (k : Nat) : 0 ≤ (tally f n z).getD k 0 := by
  rcases Nat.lt_or_ge k n with h | h
  · exact (tally_bd h).1
  · rw [List.getD_eq_getElem?_getD, List.getElem?_eq_none (by rw [tally_len]; exact h)]; exact Int.le_refl _
/-- All cards are counted. -/
theorem tally_sum {f : Int → Int} : ∀ {z : List Int}, (∀ x ∈ z, 0 ≤ f x ∧ f x ≤ 12) → sm (fun k => (tally f 13 z).getD (12 - k) 0) 13 = z.length
  | [], _ => by
    rw [tally_nil]
    rfl
  | x :: z, h => by
    have ih := tally_sum (z := z) fun y hy => h y (by simp [hy])
    have hx := h x (by simp)
    have e : ∀ k, k < 13 → (tally f 13 (x :: z)).getD (12 - k) 0 = (tally f 13 z).getD (12 - k) 0 + (if f x = 12 - (k : Int) then 1 else 0) := fun k hk => by
      rw [tally_get (by omega), tally_get (by omega)]
      simp only [List.countP_cons]
      by_cases e : f x = 12 - (k : Int)
      · have e' : f x = ((12 - k : Nat) : Int) := by omega
        rw [if_pos e, if_pos (decide_eq_true e')]; push_cast; rfl
      · have e' : ¬ f x = ((12 - k : Nat) : Int) := by omega
        rw [if_neg e, if_neg (by simp only [decide_eq_false e']; simp)]; push_cast; rfl
    have key : ∀ j, j ≤ 13 → sm (fun k => (tally f 13 (x :: z)).getD (12 - k) 0) j = sm (fun k => (tally f 13 z).getD (12 - k) 0) j + (if 12 - (j : Int) < f x then 1 else 0) := by
      intro j
      induction j with
      | zero => intro _; simp [sm]; omega
      | succ j ihj =>
        intro hj
        rw [sm_succ, sm_succ, ihj (by omega), e j (by omega)]
        push_cast
        split <;> split <;> split <;> omega
    rw [key 13 (Nat.le_refl _), ih, if_pos (by omega)]
    simp
theorem ord_len5 {f : Int → Int} {z : List Int} (h : ∀ x ∈ z, 0 ≤ f x ∧ f x ≤ 12) {s j : Nat} (hs : s ≤ 4) (hj : j ≤ 13) : (ord (tally f 13 z) s j).length ≤ z.length := by
  have := ord_len (C := tally f 13 z) (tally_nonneg f 13 z) hs hj
  rw [tally_sum h] at this
  omega
theorem V_rep (c : Int) (ds : List Int) (n : Nat) (d : Int) : V c (ds ++ List.replicate (n + 1) d) = V c (ds ++ List.replicate n d) * 13 + d := by
  rw [List.replicate_succ', ← List.append_assoc, V_snoc]
theorem digs_rep {n : Nat} {d : Int} (h : 0 ≤ d ∧ d ≤ 12) : digs13 (List.replicate n d) := fun x hx => by rw [List.eq_of_mem_replicate hx]; exact h
/-- How many ranks occur twice, and how often the most frequent rank occurs. -/
def prs (C : List Int) (s j : Nat) : Int := if s < 2 then 0 else if s = 2 then ((List.range j).countP fun k => decide (C.getD (12 - k) 0 = 2) : Nat) else ((List.range 13).countP fun k => decide (C.getD (12 - k) 0 = 2) : Nat)
theorem prs_no {C : List Int} {s j : Nat} (h : ¬ (s = 2 ∧ C.getD (12 - j) 0 = 2)) : prs C s j = prs C s (j + 1) := by
  unfold prs
  by_cases h1 : s < 2
  · rw [if_pos h1, if_pos h1]
  · rw [if_neg h1, if_neg h1]
    by_cases h2 : s = 2
    · rw [if_pos h2, if_pos h2, List.range_succ, List.countP_append]
      have : ¬ C.getD (12 - j) 0 = 2 := fun e => h ⟨h2, e⟩
      have e0 : List.countP (fun k => decide (C.getD (12 - k) 0 = 2)) [j] = 0 := by rw [List.countP_cons, List.countP_nil]; simp only [decide_eq_false this]; rfl
      rw [e0]; rfl
    · rw [if_neg h2, if_neg h2]
theorem prs_yes {C : List Int} {j : Nat} (h : C.getD (12 - j) 0 = 2) : prs C 2 j + 1 = prs C 2 (j + 1) := by
  show (((List.range j).countP fun k => decide (C.getD (12 - k) 0 = 2) : Nat) : Int) + 1 = (((List.range (j + 1)).countP fun k => decide (C.getD (12 - k) 0 = 2) : Nat) : Int)
  rw [List.range_succ, List.countP_append]
  have e0 : List.countP (fun k => decide (C.getD (12 - k) 0 = 2)) [j] = 1 := by rw [List.countP_cons, List.countP_nil]; simp only [decide_eq_true h]; rfl
  rw [e0]; push_cast; rfl
theorem prs_next (C : List Int) (s : Nat) : prs C s 13 = prs C (s + 1) 0 := by
  unfold prs
  by_cases h1 : s < 2
  · rw [if_pos h1]
    by_cases h2 : s + 1 < 2
    · rw [if_pos h2]
    · rw [if_neg h2, if_pos (by omega)]; rfl
  · rw [if_neg h1, if_neg (show ¬ s + 1 < 2 by omega), if_neg (show ¬ s + 1 = 2 by omega)]
    split <;> rfl
theorem prs_bd (C : List Int) {s j : Nat} (hj : j ≤ 13) : 0 ≤ prs C s j ∧ prs C s j ≤ 13 := by
  unfold prs
  have h1 := List.countP_le_length (p := fun k => decide (C.getD (12 - k) 0 = 2)) (l := List.range j)
  have h2 := List.countP_le_length (p := fun k => decide (C.getD (12 - k) 0 = 2)) (l := List.range 13)
  rw [List.length_range] at h1 h2
  split
  · omega
  · split <;> omega
def mstF (C : List Int) : Nat → Int
  | 0 => 0
  | s + 1 => if lev C (4 - s) 13 = [] then mstF C s else max (mstF C s) (4 - (s : Int))
def mst (C : List Int) (s j : Nat) : Int := if lev C (4 - s) j = [] then mstF C s else max (mstF C s) (4 - (s : Int))
theorem mst_no {C : List Int} {s j : Nat} (h : ¬ C.getD (12 - j) 0 = ((4 - s : Nat) : Int)) : mst C s j = mst C s (j + 1) := by unfold mst; rw [lev_no h]
theorem mst_yes {C : List Int} {s j : Nat} (hs : s < 4) (h : C.getD (12 - j) 0 = ((4 - s : Nat) : Int)) : max (mst C s j) (4 - (s : Int)) = mst C s (j + 1) := by
  unfold mst
  rw [lev_yes h]
  have : ¬ lev C (4 - s) j ++ List.replicate (4 - s) (12 - (j : Int)) = [] := fun e => by
    have h2 := congrArg List.length e
    rw [List.length_append, List.length_replicate, List.length_nil] at h2
    omega
  rw [if_neg this]
  split
  · rfl
  · omega
theorem mst_next (C : List Int) (s : Nat) : mst C s 13 = mst C (s + 1) 0 := by
  show mst C s 13 = if lev C (4 - (s + 1)) 0 = [] then mstF C (s + 1) else _
  rw [if_pos (lev_zero _ _)]; rfl
theorem mstF_bd (C : List Int) : ∀ s, 0 ≤ mstF C s ∧ mstF C s ≤ 4
  | 0 => by simp [mstF]
  | s + 1 => by have := mstF_bd C s; unfold mstF; split <;> omega
theorem mst_bd (C : List Int) (s j : Nat) : 0 ≤ mst C s j ∧ mst C s j ≤ 4 := by
  have := mstF_bd C s; unfold mst; split <;> omega
def pat (m p : Int) : Int := if m = 4 then 5 else if m = 3 then 3 + p else p
/-- The ace-to-five value. -/
def aceN (z : List Int) : Int := V 0 (ord (tally lrk 13 z) 4 0) + pat (mst (tally lrk 13 z) 4 0) (prs (tally lrk 13 z) 4 0) * 371293
/-- Straights of five cards, by counts. -/
def sq (z : List Int) (k : Nat) : Bool := decide (z.getD (12 - (k : Int)).toNat 0 = 1 ∧ z.getD ((12 - (k : Int)) - 1).toNat 0 = 1 ∧ z.getD ((12 - (k : Int)) - 2).toNat 0 = 1 ∧ z.getD ((12 - (k : Int)) - 3).toNat 0 = 1 ∧ z.getD ((12 - (k : Int)) - 4).toNat 0 = 1)
def strS (z : List Int) : Int := match (List.range 9).find? (sq z) with
  | some k => 12 - (k : Int)
  | none => if z.getD 0 0 = 1 ∧ z.getD 1 0 = 1 ∧ z.getD 2 0 = 1 ∧ z.getD 3 0 = 1 ∧ z.getD 12 0 = 1 then 3 else -1
theorem strS_here {z : List Int} {k : Nat} (hk : k < 9) (h1 : sq z k = true) (h : ∀ j, j < k → sq z j = false) : strS z = 12 - (k : Int) := by
  unfold strS; rw [find_here hk h1 h]
theorem strS_low {z : List Int} (h : ∀ j, j < 9 → sq z j = false) (h1 : z.getD 0 0 = 1 ∧ z.getD 1 0 = 1 ∧ z.getD 2 0 = 1 ∧ z.getD 3 0 = 1 ∧ z.getD 12 0 = 1) : strS z = 3 := by
  unfold strS; rw [find_none h]; exact if_pos h1
theorem strS_no {z : List Int} (h : ∀ j, j < 9 → sq z j = false) (h1 : ¬ (z.getD 0 0 = 1 ∧ z.getD 1 0 = 1 ∧ z.getD 2 0 = 1 ∧ z.getD 3 0 = 1 ∧ z.getD 12 0 = 1)) : strS z = -1 := by
  unfold strS; rw [find_none h]; exact if_neg h1
/-- How many ranks occur how often. -/
abbrev idI (x : Int) : Int := x
def patS (z : List Int) : Int := if (tally idI 5 z).getD 4 0 = 1 then 5 else if (tally idI 5 z).getD 3 0 = 1 ∧ (tally idI 5 z).getD 2 0 = 1 then 4 else if (tally idI 5 z).getD 3 0 = 1 then 3 else (tally idI 5 z).getD 2 0
theorem patS_bd {z : List Int} (h : z.length = 13) : 0 ≤ patS z ∧ patS z ≤ 13 := by
  have := tally_bd (f := idI) (n := 5) (z := z) (r := 2) (by decide)
  unfold patS
  split
  · omega
  · split
    · omega
    · split <;> omega
theorem lrk_le4 {z : List Int} (h : areP z) (k : Nat) : 0 ≤ (tally lrk 13 z).getD k 0 ∧ (tally lrk 13 z).getD k 0 ≤ 4 := by
  refine ⟨tally_nonneg _ _ _ _, ?_⟩
  rcases Nat.lt_or_ge k 13 with hk | hk
  · rw [tally_get hk, List.countP_eq_length_filter]
    have := sub_len (a := z.filter fun x => decide (lrk x = (k : Int))) (b := [4 * (((k : Int) + 12) % 13), 4 * (((k : Int) + 12) % 13) + 1, 4 * (((k : Int) + 12) % 13) + 2, 4 * (((k : Int) + 12) % 13) + 3]) (h.2.sublist List.filter_sublist) (fun x hx => by
      have h1 := of_decide_eq_true (List.mem_filter.1 hx).2
      have h2 := h.1 x (List.mem_filter.1 hx).1
      unfold lrk at h1
      simp only [List.mem_cons, List.not_mem_nil, or_false]
      omega)
    simp only [List.length_cons, List.length_nil] at this
    omega
  · rw [List.getD_eq_getElem?_getD, List.getElem?_eq_none (by rw [tally_len]; exact hk)]; decide
theorem rk_le4 {z : List Int} (h : areP z) (k : Nat) : 0 ≤ (tally rk 13 z).getD k 0 ∧ (tally rk 13 z).getD k 0 ≤ 4 := by
  refine ⟨tally_nonneg _ _ _ _, ?_⟩
  rcases Nat.lt_or_ge k 13 with hk | hk
  · rw [tally_get hk]
    exact cnt_le4 h (k : Int)
  · rw [List.getD_eq_getElem?_getD, List.getElem?_eq_none (by rw [tally_len]; exact hk)]; decide
/-- The ace-to-five value, as the model reckons it. -/
def aceS (z : List Int) : Int := 371293 * patS (tally lrk 13 z) + V 0 (ord (tally lrk 13 z) 4 0)
/-- The category of five cards. -/
def flS (z : List Int) : Prop := (tally su 4 z).getD (z.getD 0 0 % 4).toNat 0 = 5
instance (z : List Int) : Decidable (flS z) := inferInstanceAs (Decidable (_ = _))
def catS (z : List Int) : Int :=
  if 0 ≤ strS (tally rk 13 z) ∧ (tally su 4 z).getD (z.getD 0 0 % 4).toNat 0 = 5 then 8
  else if (tally idI 5 (tally rk 13 z)).getD 4 0 = 1 then 7
  else if (tally idI 5 (tally rk 13 z)).getD 3 0 = 1 ∧ (tally idI 5 (tally rk 13 z)).getD 2 0 = 1 then 6
  else if (tally su 4 z).getD (z.getD 0 0 % 4).toNat 0 = 5 then 5
  else if 0 ≤ strS (tally rk 13 z) then 4
  else if (tally idI 5 (tally rk 13 z)).getD 3 0 = 1 then 3
  else if (tally idI 5 (tally rk 13 z)).getD 2 0 = 2 then 2
  else if (tally idI 5 (tally rk 13 z)).getD 2 0 = 1 then 1 else 0
/-- The kickers of five cards. -/
def kick (z : List Int) : List Int := if strS (tally rk 13 z) = 3 then wheel else ord (tally rk 13 z) 4 0
/-- The standard variants that are dealt. -/
def vHole (v : Int) : Int := if v = 0 then 2 else 4
def vLeast (v : Int) : Int := if v = 0 then 0 else 2
def vLow (v : Int) : Int := if v = 2 then 1 else 0
/-- The least of the values of some hands. -/
def lowF (l : List (List Int)) : Int := l.foldl (fun m y => if m < 0 ∨ aceN y < m then aceN y else m) (-1)
theorem lowF_snoc (l : List (List Int)) (y : List Int) : lowF (l ++ [y]) = if lowF l < 0 ∨ aceN y < lowF l then aceN y else lowF l := by unfold lowF; rw [List.foldl_append]; rfl
def eight (lo x : Int) : Int := if lo = 1 ∧ ¬ (0 ≤ x ∧ x ≤ 228487) then -1 else x
def loN (lo : Int) (z q : List Int) : Int := eight lo (lowF (hands z q))
theorem lrk_bd (x : Int) : 0 ≤ lrk x ∧ lrk x ≤ 12 := by unfold lrk; omega
theorem catS_bd (z : List Int) : 0 ≤ catS z ∧ catS z ≤ 8 := by
  unfold catS
  repeat' split
  all_goals omega
theorem kick_digs (z : List Int) : digs13 (kick z) := by
  unfold kick
  split
  · unfold digs13 wheel; decide
  · exact ord_digs (by decide)
theorem kick_len {z : List Int} (h : okC z) (h5 : z.length ≤ 5) : (kick z).length ≤ 5 := by
  unfold kick
  split
  · decide
  · exact Nat.le_trans (ord_len5 (f := rk) (fun x hx => rank_in h hx) (by decide) (by decide)) h5
/-- The value of five cards, as the model reckons it. -/
def valS (z : List Int) : Int := 371293 * catS z + V 0 (kick z)
end Go.Proofs.Yteaahdakammffaa.Hd
/- Plain facts: who wins, and what each gets. No condition. -/
namespace Go.Proofs.Yteaahdakammffaa.Hd
open Go.Proofs.Yteaahdakammffaa.V Go.Proofs.Yteaahdakammffaa.Iso
set_option linter.unusedVariables false
set_option linter.unusedSimpArgs false
/-- One more is looked at: those with the best value so far, and this value. -/
def bstep (hi : Bool) (vs : List Int) (q : List Int × Int) (w : Int) : List Int × Int :=
  if vs.getD w.toNat 0 < 0 then q else if q.2 < 0 ∨ (hi = true ∧ q.2 < vs.getD w.toNat 0) ∨ (hi = false ∧ vs.getD w.toNat 0 < q.2) then ([w], vs.getD w.toNat 0) else if vs.getD w.toNat 0 = q.2 then (q.1 ++ [w], q.2) else q
def bst (hi : Bool) (ws vs : List Int) : List Int × Int := ws.foldl (bstep hi vs) ([], -1)
theorem bst_snoc (hi : Bool) (ws vs : List Int) (w : Int) : bst hi (ws ++ [w]) vs = bstep hi vs (bst hi ws vs) w := by unfold bst; rw [List.foldl_append]; rfl
theorem bst_take {hi : Bool} {ws vs : List Int} {i : Nat} (h : i < ws.length) : bst hi (ws.take (i + 1)) vs = bstep hi vs (bst hi (ws.take i) vs) (ws.getD i 0) := by rw [take_snoc h, bst_snoc]
theorem bst_inv (hi : Bool) (vs : List Int) : ∀ ws : List Int, (-1 ≤ (bst hi ws vs).2 ∧ ((bst hi ws vs).2 < 0 → (bst hi ws vs).1 = [] ∧ (bst hi ws vs).2 = -1)) ∧ (bst hi ws vs).1.length ≤ ws.length := by
  intro ws
  have key : ∀ (ws : List Int) (q : List Int × Int) (n : Nat), (-1 ≤ q.2 ∧ (q.2 < 0 → q.1 = [] ∧ q.2 = -1)) → q.1.length ≤ n → (-1 ≤ (ws.foldl (bstep hi vs) q).2 ∧ ((ws.foldl (bstep hi vs) q).2 < 0 → (ws.foldl (bstep hi vs) q).1 = [] ∧ (ws.foldl (bstep hi vs) q).2 = -1)) ∧ (ws.foldl (bstep hi vs) q).1.length ≤ n + ws.length := by
    intro ws
    induction ws with
    | nil => intro q n h hn; exact ⟨h, hn⟩
    | cons w ws ih =>
      intro q n h hn
      have := ih (bstep hi vs q w) (n + 1) (by
        unfold bstep
        split
        · exact h
        · split
          · exact ⟨by show -1 ≤ vs.getD w.toNat 0; omega, fun h2 => absurd (show vs.getD w.toNat 0 < 0 from h2) (by omega)⟩
          · split
            · exact ⟨h.1, fun h2 => by have h3 : q.2 < 0 := h2; omega⟩
            · exact h) (by
        unfold bstep
        split
        · omega
        · split
          · simp
          · split
            · simp; omega
            · omega)
      rw [List.foldl_cons, List.length_cons]
      refine ⟨this.1, by have := this.2; omega⟩
  have := key ws ([], -1) 0 ⟨by simp, fun _ => ⟨rfl, rfl⟩⟩ (by simp)
  simpa [bst] using this
theorem range_getD {n i : Nat} (h : i < n) : (List.range n).getD i 0 = i := by
  rw [List.getD_eq_getElem?_getD, List.getElem?_range h]; rfl
section
variable {ws vs : List Int} {i : Nat} (hi : i < ws.length)
include hi
theorem hw_hit (h : max (bst true (ws.take i) vs).2 0 < vs.getD (ws.getD i 0).toNat 0) : bst true (ws.take (i + 1)) vs = ([ws.getD i 0], vs.getD (ws.getD i 0).toNat 0) := by
  rw [bst_take hi]; unfold bstep; rw [if_neg (by omega), if_pos (Or.inr (Or.inl ⟨rfl, by omega⟩))]
theorem hw_tie (h : vs.getD (ws.getD i 0).toNat 0 = max (bst true (ws.take i) vs).2 0) : bst true (ws.take (i + 1)) vs = ((bst true (ws.take i) vs).1 ++ [ws.getD i 0], vs.getD (ws.getD i 0).toNat 0) := by
  have hb := (bst_inv true vs (ws.take i)).1
  rw [bst_take hi]; unfold bstep; rw [if_neg (by omega)]
  by_cases h2 : (bst true (ws.take i) vs).2 < 0
  · rw [if_pos (Or.inl h2), (hb.2 h2).1]; rfl
  · rw [if_neg (by rintro (h3 | ⟨-, h3⟩ | ⟨h3, -⟩); exact h2 h3; omega; cases h3), if_pos (by omega), show (bst true (ws.take i) vs).2 = vs.getD (ws.getD i 0).toNat 0 by omega]
theorem hw_no (h0 : 0 ≤ vs.getD (ws.getD i 0).toNat 0) (h1 : ¬ max (bst true (ws.take i) vs).2 0 < vs.getD (ws.getD i 0).toNat 0) (h : ¬ vs.getD (ws.getD i 0).toNat 0 = max (bst true (ws.take i) vs).2 0) : bst true (ws.take (i + 1)) vs = bst true (ws.take i) vs := by
  rw [bst_take hi]; unfold bstep; rw [if_neg (by omega), if_neg (by rintro (h3 | ⟨-, h3⟩ | ⟨h3, -⟩); omega; omega; cases h3), if_neg (by omega)]
theorem b_neg (b : Bool) (h : vs.getD (ws.getD i 0).toNat 0 < 0) : bst b (ws.take (i + 1)) vs = bst b (ws.take i) vs := by
  rw [bst_take hi]; unfold bstep; rw [if_pos h]
theorem b_hit (b : Bool) (h0 : ¬ vs.getD (ws.getD i 0).toNat 0 < 0) (h : (bst b (ws.take i) vs).2 < 0 ∨ (b = true ∧ (bst b (ws.take i) vs).2 < vs.getD (ws.getD i 0).toNat 0) ∨ (b = false ∧ vs.getD (ws.getD i 0).toNat 0 < (bst b (ws.take i) vs).2)) : bst b (ws.take (i + 1)) vs = ([ws.getD i 0], vs.getD (ws.getD i 0).toNat 0) := by
  rw [bst_take hi]; unfold bstep; rw [if_neg h0, if_pos h]
theorem b_tie (b : Bool) (h0 : ¬ vs.getD (ws.getD i 0).toNat 0 < 0) (h1 : ¬ (bst b (ws.take i) vs).2 < 0) (h : vs.getD (ws.getD i 0).toNat 0 = (bst b (ws.take i) vs).2) : bst b (ws.take (i + 1)) vs = ((bst b (ws.take i) vs).1 ++ [ws.getD i 0], (bst b (ws.take i) vs).2) := by
  rw [bst_take hi]; unfold bstep; rw [if_neg h0, if_neg (by rintro (h3 | ⟨-, h3⟩ | ⟨-, h3⟩) <;> omega), if_pos h]
theorem b_no (b : Bool) (h0 : ¬ vs.getD (ws.getD i 0).toNat 0 < 0) (h1 : ¬ (bst b (ws.take i) vs).2 < 0) (h2 : (b = true ∧ vs.getD (ws.getD i 0).toNat 0 < (bst b (ws.take i) vs).2) ∨ (b = false ∧ (bst b (ws.take i) vs).2 < vs.getD (ws.getD i 0).toNat 0)) : bst b (ws.take (i + 1)) vs = bst b (ws.take i) vs := by
  rw [bst_take hi]; unfold bstep
  rw [if_neg h0, if_neg (by rintro (h3 | ⟨e, h3⟩ | ⟨e, h3⟩); exact h1 h3; subst e; rcases h2 with ⟨_, h2⟩ | ⟨h2, _⟩; omega; cases h2; subst e; rcases h2 with ⟨h2, _⟩ | ⟨_, h2⟩; cases h2; omega), if_neg (by rcases h2 with ⟨_, h2⟩ | ⟨_, h2⟩ <;> omega)]
theorem lw_neg (h : vs.getD (ws.getD i 0).toNat 0 < 0) : bst false (ws.take (i + 1)) vs = bst false (ws.take i) vs := by
  rw [bst_take hi]; unfold bstep; rw [if_pos h]
theorem lw_hit (h0 : ¬ vs.getD (ws.getD i 0).toNat 0 < 0) (h : (bst false (ws.take i) vs).2 < 0 ∨ vs.getD (ws.getD i 0).toNat 0 < (bst false (ws.take i) vs).2) : bst false (ws.take (i + 1)) vs = ([ws.getD i 0], vs.getD (ws.getD i 0).toNat 0) := by
  rw [bst_take hi]; unfold bstep; rw [if_neg h0, if_pos (h.elim Or.inl fun h => Or.inr (Or.inr ⟨rfl, h⟩))]
theorem lw_tie (h0 : ¬ vs.getD (ws.getD i 0).toNat 0 < 0) (h : vs.getD (ws.getD i 0).toNat 0 = (bst false (ws.take i) vs).2) : bst false (ws.take (i + 1)) vs = ((bst false (ws.take i) vs).1 ++ [ws.getD i 0], (bst false (ws.take i) vs).2) := by
  rw [bst_take hi]; unfold bstep; rw [if_neg h0, if_neg (by rintro (h3 | ⟨h3, -⟩ | ⟨-, h3⟩); omega; cases h3; omega), if_pos h]
theorem lw_no (h0 : ¬ vs.getD (ws.getD i 0).toNat 0 < 0) (h1 : ¬ (bst false (ws.take i) vs).2 < 0) (h2 : ¬ vs.getD (ws.getD i 0).toNat 0 < (bst false (ws.take i) vs).2) (h : ¬ vs.getD (ws.getD i 0).toNat 0 = (bst false (ws.take i) vs).2) : bst false (ws.take (i + 1)) vs = bst false (ws.take i) vs := by
  rw [bst_take hi]; unfold bstep; rw [if_neg h0, if_neg (by rintro (h3 | ⟨h3, -⟩ | ⟨-, h3⟩); omega; cases h3; omega), if_neg h]
end
/-- Equal shares. -/
def split (am : Int) (z : List Int) (n : Nat) : List Int := (List.range n).map fun i : Nat => if z.contains (i : Int) = true then am / (z.length : Int) else 0
theorem split_len (am : Int) (z : List Int) (n : Nat) : (split am z n).length = n := by simp [split]
theorem split_get {am : Int} {z : List Int} {n i : Nat} (h : i < n) : (split am z n).getD i 0 = if z.contains (i : Int) = true then am / (z.length : Int) else 0 := by
  unfold split; rw [Cm.gM (d := 0) (by simpa using h)]
  rw [range_getD h]
def addL (a b : List Int) : List Int := (List.range a.length).map fun i => a.getD i 0 + b.getD i 0
theorem addL_len (a b : List Int) : (addL a b).length = a.length := by simp [addL]
theorem addL_get {a b : List Int} {i : Nat} (h : i < a.length) : (addL a b).getD i 0 = a.getD i 0 + b.getD i 0 := by
  unfold addL; rw [Cm.gM (d := 0) (by simpa using h)]
  rw [range_getD h]
/-- Up to a place. -/
def addTo (a b : List Int) (i : Nat) : List Int := (List.range a.length).map fun k => if k < i then a.getD k 0 + b.getD k 0 else a.getD k 0
theorem addTo_len (a b : List Int) (i : Nat) : (addTo a b i).length = a.length := by simp [addTo]
theorem addTo_get {a b : List Int} {i k : Nat} (h : k < a.length) : (addTo a b i).getD k 0 = if k < i then a.getD k 0 + b.getD k 0 else a.getD k 0 := by
  unfold addTo; rw [Cm.gM (d := 0) (by simpa using h)]
  rw [range_getD h]
theorem ext_getD {a b : List Int} (hl : a.length = b.length) (h : ∀ i, i < a.length → a.getD i 0 = b.getD i 0) : a = b := by
  apply List.ext_getElem hl
  intro i h1 h2
  have := h i h1
  rw [List.getD_eq_getElem?_getD, List.getD_eq_getElem?_getD, List.getElem?_eq_getElem h1, List.getElem?_eq_getElem h2] at this
  exact this
theorem addTo_zero (a b : List Int) : addTo a b 0 = a := ext_getD (addTo_len _ _ _) fun i hi => by rw [addTo_len] at hi; rw [addTo_get hi, if_neg (by omega)]
theorem addTo_end {a b : List Int} {i : Nat} (h : a.length ≤ i) : addTo a b i = addL a b := ext_getD (by rw [addTo_len, addL_len]) fun k hk => by rw [addTo_len] at hk; rw [addTo_get hk, addL_get hk, if_pos (by omega)]
theorem getD_set {a : List Int} {i k : Nat} {x : Int} (hi : i < a.length) : (a.set i x).getD k 0 = if k = i then x else a.getD k 0 := by
  rw [List.getD_eq_getElem?_getD, List.getElem?_set]
  by_cases e : k = i
  · subst e; rw [if_pos rfl, if_pos hi, if_pos rfl]; rfl
  · rw [if_neg (fun h => e h.symm), if_neg e, List.getD_eq_getElem?_getD]
theorem addTo_step {a b : List Int} {i : Nat} (h : i < a.length) : (addTo a b i).set i ((addTo a b i).getD i 0 + b.getD i 0) = addTo a b (i + 1) := ext_getD (by rw [List.length_set, addTo_len, addTo_len]) fun k hk => by
  rw [List.length_set, addTo_len] at hk
  rw [getD_set (by rw [addTo_len]; exact h)]
  by_cases e : k = i
  · subst e; rw [if_pos rfl, addTo_get h, addTo_get h, if_neg (by omega), if_pos (by omega)]
  · rw [if_neg e, addTo_get hk, addTo_get hk]
    by_cases h2 : k < i
    · rw [if_pos h2, if_pos (by omega)]
    · rw [if_neg h2, if_neg (by omega)]
/-- Awards: of one pot. -/
def awd (am : Int) (ws hs ls : List Int) (n : Nat) : List Int :=
  if (bst false ws ls).1 = [] then addL (List.replicate n 0) (split am (bst true ws hs).1 n)
  else addL (addL (List.replicate n 0) (split (am / 2) (bst false ws ls).1 n)) (split (am - am / 2) (bst true ws hs).1 n)
theorem dv24 {n : Nat} (h : 1 ≤ n ∧ n ≤ 4) : (24 : Int) % (n : Int) = 0 := by
  have : n = 1 ∨ n = 2 ∨ n = 3 ∨ n = 4 := by omega
  rcases this with rfl | rfl | rfl | rfl <;> decide
theorem dv12 {n : Nat} (h : 1 ≤ n ∧ n ≤ 4) : (12 : Int) % (n : Int) = 0 := by
  have : n = 1 ∨ n = 2 ∨ n = 3 ∨ n = 4 := by omega
  rcases this with rfl | rfl | rfl | rfl <;> decide
theorem dv_bd {am : Int} {n : Nat} (h : 0 ≤ am ∧ am ≤ 24) : 0 ≤ am / (n : Int) ∧ am / (n : Int) ≤ 24 := by
  refine ⟨Int.ediv_nonneg h.1 (by omega), ?_⟩
  have := Int.ediv_le_self (b := (n : Int)) h.1
  omega
theorem split_bd {am : Int} {z : List Int} {n i : Nat} (h : 0 ≤ am ∧ am ≤ 24) : 0 ≤ (split am z n).getD i 0 ∧ (split am z n).getD i 0 ≤ 24 := by
  rcases Nat.lt_or_ge i n with h1 | h1
  · rw [split_get h1]; have := dv_bd (n := z.length) h; split <;> omega
  · rw [List.getD_eq_getElem?_getD, List.getElem?_eq_none (by rw [split_len]; exact h1)]; simp
theorem zero_bd {n i : Nat} : (List.replicate n (0 : Int)).getD i 0 = 0 := by
  rw [List.getD_eq_getElem?_getD, List.getElem?_replicate]; split <;> rfl
theorem add0_bd {am : Int} {z : List Int} {n m : Nat} (h : 0 ≤ am ∧ am ≤ 24) : ∀ i, 0 ≤ (addL (List.replicate n 0) (split am z m)).getD i 0 ∧ (addL (List.replicate n 0) (split am z m)).getD i 0 ≤ 1000 := fun i => by
  rcases Nat.lt_or_ge i n with h1 | h1
  · rw [addL_get (by rw [List.length_replicate]; exact h1), zero_bd]; have := split_bd (z := z) (n := m) (i := i) h; omega
  · rw [List.getD_eq_getElem?_getD, List.getElem?_eq_none (by rw [addL_len, List.length_replicate]; exact h1)]; simp
/-- The players' numbers. -/
def nums (n : Nat) : List Int := (List.range n).map fun i : Nat => (i : Int)
theorem nums_len (n : Nat) : (nums n).length = n := by simp [nums]
theorem nums_get {n i : Nat} (h : i < n) : (nums n).getD i 0 = (i : Int) := by
  unfold nums; rw [Cm.gM (d := 0) (by simpa using h)]
  rw [range_getD h]
theorem nums_bd {n : Nat} {x : Int} (h : x ∈ nums n) : 0 ≤ x ∧ x < n := by
  obtain ⟨i, hi, rfl⟩ := List.mem_map.1 h
  have := List.mem_range.1 hi
  omega
/-- The winners are some of those looked at, and there is one if a value is at least 0. -/
theorem bst_sub (hi : Bool) (vs : List Int) : ∀ ws : List Int, ∀ x ∈ (bst hi ws vs).1, x ∈ ws := by
  have key : ∀ (ws pre : List Int) (q : List Int × Int), (∀ x ∈ q.1, x ∈ pre) → ∀ x ∈ (ws.foldl (bstep hi vs) q).1, x ∈ pre ++ ws := by
    intro ws
    induction ws with
    | nil => intro pre q h x hx; rw [List.append_nil]; exact h x hx
    | cons w ws ih =>
      intro pre q h x hx
      have := ih (pre ++ [w]) (bstep hi vs q w) (by
        intro y hy
        unfold bstep at hy
        rw [List.mem_append]
        split at hy
        · exact Or.inl (h y hy)
        · split at hy
          · exact Or.inr hy
          · split at hy
            · rcases List.mem_append.1 hy with hy | hy
              · exact Or.inl (h y hy)
              · exact Or.inr hy
            · exact Or.inl (h y hy)) x hx
      simpa using this
  intro ws x hx
  simpa using key ws [] ([], -1) (by simp) x hx
theorem bst_some (hi : Bool) (vs : List Int) : ∀ ws : List Int, (∃ w ∈ ws, 0 ≤ vs.getD w.toNat 0) → (bst hi ws vs).1 ≠ [] := by
  have key : ∀ (ws : List Int) (q : List Int × Int), (q.1 ≠ [] ∨ (q.2 < 0 ∧ ∃ w ∈ ws, 0 ≤ vs.getD w.toNat 0)) → (ws.foldl (bstep hi vs) q).1 ≠ [] := by
    intro ws
    induction ws with
    | nil => intro q h; rcases h with h | ⟨-, w, hw, -⟩; exact h; exact absurd hw List.not_mem_nil
    | cons w ws ih =>
      intro q h
      rw [List.foldl_cons]
      refine ih _ ?_
      unfold bstep
      split
      · rename_i hv
        rcases h with h | ⟨h1, w', hw, h2⟩
        · exact Or.inl h
        · rcases List.mem_cons.1 hw with rfl | hw
          · omega
          · exact Or.inr ⟨h1, w', hw, h2⟩
      · split
        · exact Or.inl (by simp)
        · split
          · exact Or.inl (by simp)
          · rcases h with h | ⟨h1, -⟩
            · exact Or.inl h
            · rename_i h3 _
              exact absurd (Or.inl h1) h3
  intro ws h
  exact key ws ([], -1) (Or.inr ⟨by decide, h⟩)
/-- What each player gets. -/
def hisL (v : Int) (holes : List (List Int)) (five : List Int) : List Int := holes.map fun h => hiN (vLeast v) h five
def losL (v : Int) (holes : List (List Int)) (five : List Int) : List Int := holes.map fun h => if vLow v = 0 then -1 else loN (vLow v) h five
def parts (v : Int) (holes : List (List Int)) (five : List Int) : List Int := awd 24 (nums holes.length) (hisL v holes five) (losL v holes five) holes.length
theorem topR_nonneg {c : Int} {m : Nat} {z : List Int} (hc : 0 ≤ c) (hz : digs13 z) : 0 ≤ topR c m z := (V_bd (digs_app hz (digs_take (descN_digs (Nat.le_refl 13)) _)) hc).1
theorem digs_cons {x : Int} {l : List Int} (h : 0 ≤ x ∧ x ≤ 12) (hl : digs13 l) : digs13 (x :: l) := fun y hy => (List.mem_cons.1 hy).elim (fun e => e ▸ h) (hl y)
theorem valN_nonneg {z : List Int} {al : Bool} (ha : areP z) (h5 : 5 ≤ z.length) : 0 ≤ valN z al := by
  unfold valN
  split
  · rename_i s hs
    have := List.find?_some hs
    exact (of_decide_eq_true this).2
  · obtain ⟨⟨f, t, u, v⟩, hq⟩ : ∃ q, q = scanTo (tally rk 13 z) 13 := ⟨_, rfl⟩
    have hb := scan_bd _ 13 f t u v (Nat.le_refl _) hq
    have hS := scan_ok z 13 f t u v (Nat.le_refl _) hq
    have hu := pre2u ha h5 hS
    rw [← hq]
    unfold rest
    dsimp only
    split
    · exact topR_nonneg (by decide) (digs_cons (by omega) (digs_cons (by omega) (digs_cons (by omega) (digs_cons (by omega) digs_nil))))
    · split
      · exact (V_bd (digs_cons (by omega) (digs_cons (by omega) (digs_cons (by omega) (digs_cons (by omega) (digs_cons (by omega) digs_nil))))) (by decide)).1
      · split
        · assumption
        · split
          · assumption
          · split
            · exact topR_nonneg (by decide) (digs_cons (by omega) (digs_cons (by omega) (digs_cons (by omega) digs_nil)))
            · split
              · exact topR_nonneg (by decide) (digs_cons (by omega) (digs_cons (by omega) (digs_cons (by omega) (digs_cons (by omega) digs_nil))))
              · split
                · exact topR_nonneg (by decide) (digs_cons (by omega) (digs_cons (by omega) digs_nil))
                · exact topR_nonneg (by decide) digs_nil
theorem best_ge : ∀ (l : List (List Int)) (m : Int), m ≤ l.foldl (fun m y => max m (valN y true)) m ∧ ∀ y ∈ l, valN y true ≤ l.foldl (fun m y => max m (valN y true)) m
  | [], m => ⟨Int.le_refl _, fun y hy => absurd hy List.not_mem_nil⟩
  | x :: l, m => by
    obtain ⟨h1, h2⟩ := best_ge l (max m (valN x true))
    refine ⟨Int.le_trans (by omega) h1, fun y hy => ?_⟩
    rcases List.mem_cons.1 hy with rfl | hy
    · exact Int.le_trans (by omega) h1
    · exact h2 y hy
theorem hands_some {z q : List Int} (hz : 2 ≤ z.length) (hq : 3 ≤ q.length) : ∃ y, y ∈ hands z q := by
  have h1 := Cm.combs_pos hz
  have h2 := Cm.combs_pos hq
  obtain ⟨o, ho⟩ := List.exists_mem_of_length_pos h1
  obtain ⟨t, ht⟩ := List.exists_mem_of_length_pos h2
  exact ⟨_, List.mem_flatMap.2 ⟨o, ho, List.mem_map.2 ⟨t, ht, rfl⟩⟩⟩
theorem hiN_nonneg {lea : Int} {z q : List Int} (ha : areP (z ++ q)) (hz : 2 ≤ z.length) (hq : q.length = 5) : 0 ≤ hiN lea z q := by
  unfold hiN
  split
  · exact valN_nonneg ha (by rw [List.length_append]; omega)
  · obtain ⟨y, hy⟩ := hands_some hz (show 3 ≤ q.length by omega)
    have h1 := hands_ok ha hy
    have := (best_ge (hands z q) (-1)).2 y hy
    have h2 := valN_nonneg (al := true) h1.1 (by omega)
    unfold best
    omega
/-- Holes and a board that fit. -/
def dealP (v : Int) (z : List (List Int)) (q : List Int) : Prop := ∀ h ∈ z, h.length = (vHole v).toNat ∧ areP (h ++ q)
theorem hisL_len (v : Int) (z : List (List Int)) (q : List Int) : (hisL v z q).length = z.length := by simp [hisL]
theorem losL_len (v : Int) (z : List (List Int)) (q : List Int) : (losL v z q).length = z.length := by simp [losL]
theorem hisL_get {v : Int} {z : List (List Int)} {q : List Int} {i : Nat} (h : i < z.length) : (hisL v z q).getD i 0 = hiN (vLeast v) (z.getD i []) q := Cm.gM (d := []) h
theorem losL_get {v : Int} {z : List (List Int)} {q : List Int} {i : Nat} (h : i < z.length) : (losL v z q).getD i 0 = if vLow v = 0 then -1 else loN (vLow v) (z.getD i []) q := Cm.gM (d := []) h
theorem hole_cases {v : Int} {h : List Int} (hv : 0 ≤ v ∧ v ≤ 2) (hl : h.length = (vHole v).toNat) : (vLeast v = 0 ∧ vHole v = 2 ∧ h.length = 2) ∨ (vLeast v = 2 ∧ vHole v = 4 ∧ h.length = 4) := by
  unfold vHole at *; unfold vLeast
  by_cases e : v = 0
  · rw [if_pos e] at *; rw [if_pos e]; left; exact ⟨rfl, rfl, hl⟩
  · rw [if_neg e] at *; rw [if_neg e]; right; exact ⟨rfl, rfl, hl⟩
theorem low_cases {v : Int} (h : vLow v ≠ 0) : vLow v = 1 ∧ vLeast v = 2 := by
  unfold vLow at *; unfold vLeast
  by_cases e : v = 2
  · rw [if_pos e]; exact ⟨rfl, by rw [if_neg (by omega)]⟩
  · rw [if_neg e] at h; exact absurd rfl h
theorem his_nonneg {v : Int} {z : List (List Int)} {q : List Int} (hv : 0 ≤ v ∧ v ≤ 2) (hd : dealP v z q) (hq : q.length = 5) : ∀ x ∈ nums z.length, 0 ≤ (hisL v z q).getD x.toNat 0 := fun x hx => by
  have hb := nums_bd hx
  have hlt : x.toNat < z.length := by omega
  rw [hisL_get hlt]
  have hm : z.getD x.toNat [] ∈ z := by rw [List.getD_eq_getElem?_getD, List.getElem?_eq_getElem hlt]; exact List.getElem_mem hlt
  obtain ⟨h1, h2⟩ := hd _ hm
  have := hole_cases hv h1
  exact hiN_nonneg h2 (by omega) hq
end Go.Proofs.Yteaahdakammffaa.Hd
/- Plain facts: boards that may come, and sums over them. No condition. -/
namespace Go.Proofs.Yteaahdakammffaa.Hd
open Go.Proofs.Yteaahdakammffaa.V Go.Proofs.Yteaahdakammffaa.Iso
set_option linter.unusedVariables false
set_option linter.unusedSimpArgs false
def allC (z : List (List Int)) (q d : List Int) : List Int := q ++ d ++ z.flatten
def restL (z : List (List Int)) (q d : List Int) : List Int := others (allC z q d) 52
def boards (z : List (List Int)) (q d : List Int) : List (List Int) := (Cm.combs (restL z q d).length (5 - q.length)).map fun c => q ++ sel (restL z q d) c
def isDeal (v : Int) (z : List (List Int)) (q d : List Int) : Bool := decide ((0 ≤ v ∧ v ≤ 2) ∧ (2 ≤ z.length ∧ z.length ≤ 4) ∧ (3 ≤ q.length ∧ q.length ≤ 5)) && z.all (fun h => decide ((h.length : Int) = vHole v)) && areB (allC z q d)
theorem isDeal_P {v : Int} {z : List (List Int)} {q d : List Int} (h : isDeal v z q d = true) : ((0 ≤ v ∧ v ≤ 2) ∧ (2 ≤ z.length ∧ z.length ≤ 4) ∧ (3 ≤ q.length ∧ q.length ≤ 5)) ∧ (∀ x ∈ z, (x.length : Int) = vHole v) ∧ areP (allC z q d) := by
  unfold isDeal at h
  rw [Bool.and_eq_true, Bool.and_eq_true] at h
  exact ⟨of_decide_eq_true h.1.1, fun x hx => of_decide_eq_true (List.all_eq_true.1 h.1.2 x hx), areB_P h.2⟩
theorem others_mem {z : List Int} {x : Int} : x ∈ others z 52 ↔ (0 ≤ x ∧ x ≤ 51) ∧ x ∉ z := by
  unfold others
  rw [List.mem_filter, List.mem_map]
  constructor
  · rintro ⟨⟨k, hk, rfl⟩, h⟩
    have := List.mem_range.1 hk
    exact ⟨by constructor; exact Int.natCast_nonneg k; show (k : Int) ≤ 51; omega, by simpa using h⟩
  · rintro ⟨h1, h2⟩
    exact ⟨⟨x.toNat, List.mem_range.2 (by omega), by show (x.toNat : Int) = x; omega⟩, by simpa using h2⟩
theorem others_nodup (z : List Int) : (others z 52).Nodup := by
  unfold others
  refine List.Nodup.sublist List.filter_sublist ?_
  decide +kernel
theorem boards_ok {v : Int} {z : List (List Int)} {q d b : List Int} (h : isDeal v z q d = true) (hb : b ∈ boards z q d) : b.length = 5 ∧ dealP v z b := by
  obtain ⟨⟨hv, hz, hq⟩, hl, ha⟩ := isDeal_P h
  obtain ⟨c, hc, rfl⟩ := List.mem_map.1 hb
  have hcl := (combs_up hc).2.2
  refine ⟨by rw [List.length_append, sel_len, hcl]; omega, fun x hx => ⟨by have := hl x hx; omega, ?_⟩⟩
  have hsub := sel_sublist hc
  have hxs : x.Sublist z.flatten := by
    obtain ⟨i, hi, rfl⟩ := List.getElem_of_mem hx
    clear hx hl ha hc hb h
    revert i
    induction z with
    | nil => intro i hi; exact absurd hi (Nat.not_lt_zero _)
    | cons y z ih =>
      intro i hi
      cases i with
      | zero => exact List.sublist_append_left _ _
      | succ i =>
        have : z[i]'(by simpa using hi) = (y :: z)[i + 1] := rfl
        rw [← this]
        have key : ∀ (zz : List (List Int)) (i : Nat) (hi : i < zz.length), zz[i].Sublist zz.flatten := by
          intro zz
          induction zz with
          | nil => intro i hi; exact absurd hi (Nat.not_lt_zero _)
          | cons u zz ih2 =>
            intro i hi
            cases i with
            | zero => exact List.sublist_append_left _ _
            | succ i => exact (ih2 i (by simpa using hi)).trans (List.sublist_append_right _ _)
        exact (key z i (by simpa using hi)).trans (List.sublist_append_right _ _)
  have hall := ha.2
  unfold allC at hall
  have h1 := List.nodup_append.1 hall
  have h2 := List.nodup_append.1 h1.1
  refine ⟨fun y hy => ?_, ?_⟩
  · rcases List.mem_append.1 hy with hy | hy
    · exact ha.1 y (by unfold allC; simp only [List.mem_append]; exact Or.inr (hxs.subset hy))
    · rcases List.mem_append.1 hy with hy | hy
      · exact ha.1 y (by unfold allC; simp only [List.mem_append]; exact Or.inl (Or.inl hy))
      · exact (others_mem.1 (hsub.subset hy)).1
  · rw [List.nodup_append]
    refine ⟨h1.2.1.sublist hxs, ?_, ?_⟩
    · rw [List.nodup_append]
      refine ⟨h2.1, (others_nodup _).sublist hsub, fun y hy y' hy' e => ?_⟩
      subst e
      exact (others_mem.1 (hsub.subset hy')).2 (by unfold allC; simp only [List.mem_append]; exact Or.inl (Or.inl hy))
    · intro y hy y' hy' e
      subst e
      rcases List.mem_append.1 hy' with hy' | hy'
      · exact h1.2.2 y (List.mem_append.2 (Or.inl hy')) y (hxs.subset hy) rfl
      · exact (others_mem.1 (hsub.subset hy')).2 (by unfold allC; simp only [List.mem_append]; exact Or.inr (hxs.subset hy))
/-- Sums of parts. -/
def sums (v : Int) (z : List (List Int)) (bs : List (List Int)) : List Int := bs.foldl (fun s b => addL s (parts v z b)) (List.replicate z.length 0)
theorem awd_len (am : Int) (ws hs ls : List Int) (n : Nat) : (awd am ws hs ls n).length = n := by
  unfold awd; split
  · rw [addL_len, List.length_replicate]
  · rw [addL_len, addL_len, List.length_replicate]
theorem parts_len (v : Int) (z : List (List Int)) (b : List Int) : (parts v z b).length = z.length := awd_len _ _ _ _ _
def wholes (v p : Int) (z bs : List (List Int)) : Int := (bs.countP fun b => decide ((parts v z b).getD p.toNat 0 = 24) : Nat)
def somes (v p : Int) (z bs : List (List Int)) : Int := (bs.countP fun b => decide ((parts v z b).getD p.toNat 0 ≠ 24 ∧ (parts v z b).getD p.toNat 0 ≠ 0) : Nat)
def outs (v p : Int) (z bs : List (List Int)) : List Int := (bs.filter fun b => decide ((parts v z b).getD p.toNat 0 = 24)).map fun b => b.getD 4 0
theorem flat3 (z : List (List Int)) (q d : List Int) : [z.flatten, q, d].flatten = z.flatten ++ (q ++ d) := by simp
theorem others_congr {a b : List Int} (h : ∀ x, x ∈ a ↔ x ∈ b) (k : Nat) : others a k = others b k := by
  unfold others
  apply List.filter_congr
  intro x _
  have : a.contains x = b.contains x := by
    rw [Bool.eq_iff_iff, List.contains_iff_mem, List.contains_iff_mem]; exact h x
  rw [this]
theorem rest_eq (z : List (List Int)) (q d : List Int) : others [z.flatten, q, d].flatten 52 = restL z q d := by
  unfold restL allC
  rw [flat3]
  apply others_congr
  intro x
  simp only [List.mem_append]
  constructor
  · rintro (h | h | h)
    · exact Or.inr h
    · exact Or.inl (Or.inl h)
    · exact Or.inl (Or.inr h)
  · rintro ((h | h) | h)
    · exact Or.inr (Or.inl h)
    · exact Or.inr (Or.inr h)
    · exact Or.inl h
theorem restL_len (z : List (List Int)) (q d : List Int) : (restL z q d).length ≤ 52 := others_le _ _
theorem isDeal_no1 {v : Int} {z : List (List Int)} {q d : List Int} (h : ¬ ((0 ≤ v ∧ v ≤ 2) ∧ (2 ≤ z.length ∧ z.length ≤ 4) ∧ (3 ≤ q.length ∧ q.length ≤ 5))) : false = isDeal v z q d := by
  unfold isDeal; rw [decide_eq_false h]; rfl
theorem isDeal_no2 {v : Int} {z : List (List Int)} {q d : List Int} {i : Nat} (hi : i < z.length) (h : ((z.getD i []).length : Int) ≠ vHole v) : false = isDeal v z q d := by
  unfold isDeal
  have : z.all (fun h => decide ((h.length : Int) = vHole v)) = false := by
    rw [← Bool.not_eq_true]
    intro h2
    have hm : z.getD i [] ∈ z := by rw [List.getD_eq_getElem?_getD, List.getElem?_eq_getElem hi]; exact List.getElem_mem hi
    exact h (of_decide_eq_true (List.all_eq_true.1 h2 _ hm))
  rw [this, Bool.and_false, Bool.false_and]
theorem isDeal_end {v : Int} {z : List (List Int)} {q d : List Int} (h : (0 ≤ v ∧ v ≤ 2) ∧ (2 ≤ z.length ∧ z.length ≤ 4) ∧ (3 ≤ q.length ∧ q.length ≤ 5)) (h2 : ∀ x ∈ z, (x.length : Int) = vHole v) : areB ([q, d].flatten ++ z.flatten) = isDeal v z q d := by
  unfold isDeal
  rw [decide_eq_true h, List.all_eq_true.2 fun x hx => decide_eq_true (h2 x hx)]
  have : [q, d].flatten ++ z.flatten = allC z q d := by unfold allC; simp
  rw [this]; rfl
theorem isDeal_end2 {v : Int} {z : List (List Int)} {q d : List Int} (h : (0 ≤ v ∧ v ≤ 2) ∧ (2 ≤ z.length ∧ z.length ≤ 4) ∧ (3 ≤ q.length ∧ q.length ≤ 5)) (h2 : ∀ x ∈ z, (x.length : Int) = vHole v) : areB (q ++ d ++ z.flatten) = isDeal v z q d := by
  rw [← isDeal_end h h2]; simp
theorem isDeal_len {v : Int} {z : List (List Int)} {q d : List Int} (h : isDeal v z q d = true) : q.length + d.length + z.flatten.length ≤ 52 := by
  have := areP_len (isDeal_P h).2.2
  unfold allC at this
  rw [List.length_append, List.length_append] at this
  exact this
theorem isDeal_cards {v : Int} {z : List (List Int)} {q d : List Int} (h : isDeal v z q d = true) : ∀ x ∈ [z.flatten, q, d].flatten, 0 ≤ x ∧ x ≤ 51 := fun x hx => (isDeal_P h).2.2.1 x (by
  rw [flat3] at hx
  unfold allC
  simp only [List.mem_append] at hx ⊢
  rcases hx with h | h | h
  · exact Or.inr h
  · exact Or.inl (Or.inl h)
  · exact Or.inl (Or.inr h))
theorem cmb1_len : ∀ (f a : Nat), (Cm.cmb f a 1).length = f
  | 0, a => rfl
  | f + 1, a => by
    show ((Cm.cmb f (a + 1) 0).map _ ++ Cm.cmb f (a + 1) 1).length = _
    rw [List.length_append, List.length_map, cmb1_len f (a + 1)]
    have : Cm.cmb f (a + 1) 0 = [[]] := by cases f <;> rfl
    rw [this]; simp; omega
theorem cmb2_len : ∀ (f a : Nat), (Cm.cmb f a 2).length ≤ f * 52 ∨ 52 < f
  | 0, a => Or.inl (Nat.zero_le _)
  | f + 1, a => by
    rcases Nat.lt_or_ge 52 (f + 1) with h | h
    · exact Or.inr h
    · left
      show ((Cm.cmb f (a + 1) 1).map _ ++ Cm.cmb f (a + 1) 2).length ≤ _
      rw [List.length_append, List.length_map, cmb1_len]
      rcases cmb2_len f (a + 1) with h2 | h2
      · omega
      · omega
theorem boards_len {v : Int} {z : List (List Int)} {q d : List Int} (h : isDeal v z q d = true) : (boards z q d).length ≤ 2704 := by
  obtain ⟨⟨-, -, hq⟩, -, -⟩ := isDeal_P h
  have hr := restL_len z q d
  unfold boards Cm.combs
  rw [List.length_map]
  have : q.length = 3 ∨ q.length = 4 ∨ q.length = 5 := by omega
  rcases this with e | e | e
  · rw [e]
    rcases cmb2_len (restL z q d).length 0 with h2 | h2
    · have : (restL z q d).length * 52 ≤ 2704 := by omega
      exact Nat.le_trans h2 this
    · omega
  · rw [e]
    show (Cm.cmb _ 0 1).length ≤ _
    rw [cmb1_len]; omega
  · rw [e]
    have e0 : Cm.cmb (restL z q d).length 0 (5 - 5) = [[]] := by cases (restL z q d).length <;> rfl
    rw [e0]; simp
theorem pre_len {α : Type} {pre all : List α} {x : α} (h : pre ++ [x] <+: all) : pre.length + 1 ≤ all.length := by
  have := h.length_le
  rw [List.length_append] at this
  exact this
theorem deal_self {v : Int} {z : List (List Int)} {q d : List Int} (h : isDeal v z q d = true) (h5 : q.length = 5) : dealP v z q := by
  have hm : q ∈ boards z q d := by
    unfold boards
    rw [h5]
    have e0 : Cm.combs (restL z q d).length (5 - 5) = [[]] := by unfold Cm.combs; cases (restL z q d).length <;> rfl
    rw [e0]
    simp [sel]
  exact (boards_ok h hm).2
def leadC (v : Int) (z : List (List Int)) (q d : List Int) : Int := if isDeal v z q d = false then 1 else if (boards z q d).length = 0 then 2 else 0
def leadOf (v : Int) (z : List (List Int)) (q d : List Int) : Int := if leadC v z q d = 0 then ((Math.best (sums v z (boards z q d)) : Nat) : Int) else 0
def paC (v : Int) (z : List (List Int)) (q : List Int) : Int := if isDeal v z q [] = false then 1 else if q.length ≠ 5 then 2 else 0
def paY (v : Int) (z : List (List Int)) (q : List Int) : List Int := if paC v z q = 0 then parts v z q else []
def wiC (v : Int) (z : List (List Int)) (q d : List Int) (p : Int) : Int := if isDeal v z q d = false then 1 else if ¬ (0 ≤ p ∧ p ≤ (z.length : Int) - 1) then 2 else 0
def wiA (v : Int) (z : List (List Int)) (q d : List Int) (p : Int) : Int := if wiC v z q d p = 0 then wholes v p z (boards z q d) else 0
def wiB (v : Int) (z : List (List Int)) (q d : List Int) (p : Int) : Int := if wiC v z q d p = 0 then somes v p z (boards z q d) else 0
def ouC (v : Int) (z : List (List Int)) (q d : List Int) (p : Int) : Int := if isDeal v z q d = false then 1 else if ¬ ((0 ≤ p ∧ p ≤ (z.length : Int) - 1) ∧ q.length = 4) then 2 else 0
def ouY (v : Int) (z : List (List Int)) (q d : List Int) (p : Int) : List Int := if ouC v z q d p = 0 then outs v p z (boards z q d) else []
theorem wholes_snoc (v p : Int) (z pre : List (List Int)) (x : List Int) : wholes v p z (pre ++ [x]) = wholes v p z pre + if (parts v z x).getD p.toNat 0 = 24 then 1 else 0 := by
  unfold wholes
  rw [List.countP_append]
  by_cases h : (parts v z x).getD p.toNat 0 = 24
  · rw [if_pos h, List.countP_cons, List.countP_nil]; simp only [decide_eq_true h]; push_cast; rfl
  · rw [if_neg h, List.countP_cons, List.countP_nil]; simp only [decide_eq_false h]; push_cast; rfl
theorem somes_snoc (v p : Int) (z pre : List (List Int)) (x : List Int) : somes v p z (pre ++ [x]) = somes v p z pre + if (parts v z x).getD p.toNat 0 ≠ 24 ∧ (parts v z x).getD p.toNat 0 ≠ 0 then 1 else 0 := by
  unfold somes
  rw [List.countP_append]
  by_cases h : (parts v z x).getD p.toNat 0 ≠ 24 ∧ (parts v z x).getD p.toNat 0 ≠ 0
  · rw [if_pos h, List.countP_cons, List.countP_nil]; simp only [decide_eq_true h]; push_cast; rfl
  · rw [if_neg h, List.countP_cons, List.countP_nil]; simp only [decide_eq_false h]; push_cast; rfl
theorem outs_yes {v p : Int} {z pre : List (List Int)} {x : List Int} (h : (parts v z x).getD p.toNat 0 = 24) : outs v p z (pre ++ [x]) = outs v p z pre ++ [x.getD 4 0] := by
  have e : ([x].filter fun b => decide ((parts v z b).getD p.toNat 0 = 24)) = [x] := List.filter_cons_of_pos (p := fun b => decide ((parts v z b).getD p.toNat 0 = 24)) (decide_eq_true h)
  unfold outs; rw [List.filter_append, List.map_append, e]; rfl
theorem outs_no {v p : Int} {z pre : List (List Int)} {x : List Int} (h : ¬ (parts v z x).getD p.toNat 0 = 24) : outs v p z (pre ++ [x]) = outs v p z pre := by
  have e : ([x].filter fun b => decide ((parts v z b).getD p.toNat 0 = 24)) = [] := List.filter_cons_of_neg (p := fun b => decide ((parts v z b).getD p.toNat 0 = 24)) (by rw [decide_eq_false h]; decide)
  unfold outs; rw [List.filter_append, List.map_append, e]; simp
theorem wholes_bd (v p : Int) (z bs : List (List Int)) : 0 ≤ wholes v p z bs ∧ wholes v p z bs ≤ bs.length := by
  unfold wholes
  have := List.countP_le_length (p := fun b => decide ((parts v z b).getD p.toNat 0 = 24)) (l := bs)
  omega
theorem somes_bd (v p : Int) (z bs : List (List Int)) : 0 ≤ somes v p z bs ∧ somes v p z bs ≤ bs.length := by
  unfold somes
  have := List.countP_le_length (p := fun b => decide ((parts v z b).getD p.toNat 0 ≠ 24 ∧ (parts v z b).getD p.toNat 0 ≠ 0)) (l := bs)
  omega
theorem outs_len (v p : Int) (z bs : List (List Int)) : (outs v p z bs).length ≤ bs.length := by
  unfold outs; rw [List.length_map]; exact List.length_filter_le _ _
theorem chs_eq (z : List Int) (k : Nat) : Cm.chs z k = (Cm.combs z.length k).map (sel z) := by
  rw [Cm.chs_sel z [] k]; rfl
theorem boards_chs (z : List (List Int)) (q d : List Int) : boards z q d = (Cm.chs (restL z q d) (5 - q.length)).map fun c => q ++ c := by
  rw [chs_eq, List.map_map]; rfl
/-- A board, as it comes. -/
def bd (z : List (List Int)) (q d c : List Int) : List Int := q ++ sel (restL z q d) c
theorem boards_pre {z pre : List (List Int)} {q d c : List Int} {n k : Nat} (h : pre ++ [c] <+: Cm.combs n k) (e1 : (restL z q d).length = n) (e2 : 5 - q.length = k) : pre.map (bd z q d) ++ [bd z q d c] <+: boards z q d := by
  subst e1; subst e2
  have := h.map (bd z q d)
  rw [List.map_append] at this
  exact this
theorem boards_done {γ : Type} {z : List (List Int)} {q d : List Int} {n k : Nat} {ok : List (List Int) → γ → Prop} {g : γ} (h : ok ((Cm.combs n k).map (bd z q d)) g) (e1 : (restL z q d).length = n) (e2 : 5 - q.length = k) : ok (boards z q d) g := by
  subst e1; subst e2; exact h
theorem five_start {q f : List Int} {n : Nat} (h : f.take n = q) (s : List Int) : f = q ++ s.take 0 ++ f.drop (n + 0) := by
  rw [List.take_zero, List.append_nil, Nat.add_zero, ← h, List.take_append_drop]
theorem five_step {q s f : List Int} {n i : Nat} {x : Int} (hq : q.length = n) (hi : i < s.length) (hf : n + i < f.length) (hx : s.getD i 0 = x) : (q ++ s.take i ++ f.drop (n + i)).set (n + i) x = q ++ s.take (i + 1) ++ f.drop (n + (i + 1)) := by
  have hl : (q ++ s.take i).length = n + i := by rw [List.length_append, List.length_take]; omega
  rw [List.set_append_right _ _ (by omega), hl, Nat.sub_self, List.drop_eq_getElem_cons hf, List.set_cons_zero, take_snoc hi, hx, ← List.append_assoc]
  rw [List.append_assoc (q ++ s.take i) [x]]
  rfl
theorem five_end {q s f : List Int} {n i : Nat} (hi : s.length ≤ i) (hf : f.length ≤ n + i) : q ++ s.take i ++ f.drop (n + i) = q ++ s := by
  rw [List.take_of_length_le hi, List.drop_of_length_le hf, List.append_nil]
theorem take_app {q s : List Int} {n : Nat} (h : q.length = n) : (q ++ s).take n = q := by rw [← h]; simp
end Go.Proofs.Yteaahdakammffaa.Hd
