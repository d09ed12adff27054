/- Plain facts: the greatest of the values that some cards can have. No condition. -/
import Derived.Test.YteaahdakammffaaZ4Ut
import Derived.Test.YteaahdakammffaaZ1Ut
import Derived.Test.YteaahdakammffaaZ2Ut
import Derived.Test.YteaahdakammffaaZ3Ut
import Derived.Test.YteaahdakammffaaRows
namespace Go.Proofs.Yteaahdakammffaa.Hd
open Go.Proofs.Yteaahdakammffaa.V Go.Proofs.Yteaahdakammffaa.Iso
set_option linter.unusedVariables false
set_option linter.unusedSimpArgs false
theorem cnt_count (z : List Int) (r : Int) : cnt z r = ((z.map rk).count r : Nat) := by
  unfold cnt
  rw [List.count_eq_countP, List.countP_map]; rfl
/-- So many of each rank there are. -/
def Has (z ds : List Int) : Prop := ∀ r : Int, ((ds.count r : Nat) : Int) ≤ cnt z r
theorem Has_rep {z l : List Int} (n : Nat) {a : Int} (h : Has z (List.replicate n a ++ l)) : (n : Int) ≤ cnt z a ∧ Has z l := by
  constructor
  · have := h a
    rw [List.count_append, List.count_replicate_self] at this
    omega
  · intro r
    have := h r
    rw [List.count_append] at this
    omega
theorem rep_Has {z l : List Int} (n : Nat) {a : Int} (hn : (n : Int) ≤ cnt z a) (hl : Has z l) (ha : a ∉ l) : Has z (List.replicate n a ++ l) := by
  intro r
  rw [List.count_append]
  by_cases e : r = a
  · subst e
    rw [List.count_replicate_self, List.count_eq_zero.2 ha]
    omega
  · have := hl r
    rw [List.count_replicate, if_neg (by simpa using fun h => e h.symm)]
    omega
theorem nodup_Has {z l : List Int} (hn : l.Nodup) (h : ∀ r ∈ l, 1 ≤ cnt z r) : Has z l := by
  intro r
  by_cases e : r ∈ l
  · have := h r e
    have := List.nodup_iff_count.1 hn r
    omega
  · rw [List.count_eq_zero.2 e]; exact cnt_nonneg z r
theorem Has_mem {z l : List Int} (h : Has z l) {r : Int} (hr : r ∈ l) : 1 ≤ cnt z r := by
  have := h r
  have := List.count_pos_iff.2 hr
  omega
/-- Lists that fall. -/
def dsc (l : List Int) : Prop := l.Pairwise fun a b => b < a
theorem dsc_nodup {l : List Int} (h : dsc l) : l.Nodup := List.Pairwise.imp (fun h e => by omega) h
theorem V_cons (c x : Int) (l : List Int) : V c (x :: l) = V (c * 13 + x) l := rfl
theorem V_lt : ∀ {l l' : List Int} {c c' : Int}, c < c' → digs13 l → digs13 l' → l.length = l'.length → V c l < V c' l'
  | [], [], _, _, h, _, _, _ => h
  | [], _ :: _, _, _, _, _, _, e => by simp at e
  | _ :: _, [], _, _, _, _, _, e => by simp at e
  | x :: l, y :: l', c, c', h, h1, h2, e => by
    rw [V_cons, V_cons]
    have hx := h1 x (by simp)
    have hy := h2 y (by simp)
    exact V_lt (by omega) (fun w hw => h1 w (by simp [hw])) (fun w hw => h2 w (by simp [hw])) (by simpa using e)
theorem V_lt1 {l l' : List Int} {c a a' : Int} (h : a < a') (h1 : digs13 l) (h2 : digs13 l') (e : l.length = l'.length) : V c (a :: l) < V c (a' :: l') := V_lt (l := l) (l' := l') (c := c * 13 + a) (c' := c * 13 + a') (by omega) h1 h2 e
/-- What falls and lies in a list that falls. -/
theorem V_dom : ∀ (l D : List Int) {c c' : Int}, c ≤ c' → dsc l → dsc D → (∀ x ∈ l, x ∈ D) → V c l ≤ V c' (D.take l.length)
  | [], D, c, c', h, _, _, _ => by simpa [V] using h
  | x :: l, [], c, c', h, _, _, hm => absurd (hm x (by simp)) List.not_mem_nil
  | x :: l, y :: D, c, c', h, hl, hD, hm => by
    obtain ⟨l1, l2⟩ := List.pairwise_cons.1 hl
    obtain ⟨d1, d2⟩ := List.pairwise_cons.1 hD
    have hxy : x ≤ y := by
      rcases List.mem_cons.1 (hm x (by simp)) with e | e
      · omega
      · have := d1 x e; omega
    rw [List.length_cons, List.take_succ_cons, V_cons, V_cons]
    refine V_dom l D (by omega) l2 d2 fun w hw => ?_
    have h1 := l1 w hw
    rcases List.mem_cons.1 (hm w (by simp [hw])) with e | e
    · omega
    · exact e
theorem descN_dsc (m j : Nat) (hj : j ≤ 13) : dsc (descN m j) := by
  unfold dsc descN
  rw [List.pairwise_map]
  refine List.Pairwise.imp ?_ (List.Pairwise.filter _ List.pairwise_lt_range)
  intro a b h
  omega
/-- Straights, by bits. -/
theorem and_eq {m k : Nat} : m &&& k = k ↔ ∀ i, k.testBit i = true → m.testBit i = true := by
  constructor
  · intro h i hi
    have h2 := congrArg (fun x => x.testBit i) h
    simp only [Nat.testBit_and, hi, Bool.and_true] at h2
    exact h2
  · intro h
    apply Nat.eq_of_testBit_eq
    intro i
    rw [Nat.testBit_and]
    cases e : k.testBit i with
    | false => simp
    | true => simp [h i e]
theorem str_bits {m k : Nat} (hk : k ≤ 8) : strAt m k = true ↔ ∀ d ∈ five (12 - (k : Int)), m.testBit d.toNat = true := by
  unfold strAt
  rw [decide_eq_true_iff, and_eq]
  constructor
  · intro h d hd
    simp only [five, List.mem_cons, List.not_mem_nil, or_false] at hd
    have h2 := h (d.toNat - (8 - k)) (by rw [show (31 : Nat) = 2 ^ 5 - 1 from rfl, Nat.testBit_two_pow_sub_one]; exact decide_eq_true (by omega))
    rw [Nat.testBit_shiftRight] at h2
    rwa [show 8 - k + (d.toNat - (8 - k)) = d.toNat by omega] at h2
  · intro h i hi
    rw [show (31 : Nat) = 2 ^ 5 - 1 from rfl, Nat.testBit_two_pow_sub_one] at hi
    have hi := of_decide_eq_true hi
    rw [Nat.testBit_shiftRight]
    have h2 := h ((8 - k + i : Nat) : Int) (by simp only [five, List.mem_cons, List.not_mem_nil, or_false]; omega)
    rwa [Int.toNat_natCast] at h2
theorem whl_key (i : Nat) : (4111 : Nat).testBit i = true ↔ (i = 0 ∨ i = 1 ∨ i = 2 ∨ i = 3 ∨ i = 12) := by
  rcases Nat.lt_or_ge i 13 with h | h
  · have key : ∀ i, i < 13 → ((4111 : Nat).testBit i = true ↔ (i = 0 ∨ i = 1 ∨ i = 2 ∨ i = 3 ∨ i = 12)) := by decide
    exact key i h
  · rw [Nat.testBit_lt_two_pow (Nat.lt_of_lt_of_le (by decide : 4111 < 2 ^ 13) (Nat.pow_le_pow_right (by decide) h))]
    constructor
    · intro h2; cases h2
    · intro h2; omega
theorem whl_bits {m : Nat} : m &&& 4111 = 4111 ↔ ∀ d ∈ wheel, m.testBit d.toNat = true := by
  rw [and_eq]
  constructor
  · intro h d hd
    simp only [wheel, List.mem_cons, List.not_mem_nil, or_false] at hd
    exact h _ ((whl_key _).2 (by omega))
  · intro h i hi
    have h2 := h (i : Int) (by have := (whl_key i).1 hi; simp only [wheel, List.mem_cons, List.not_mem_nil, or_false]; omega)
    rwa [Int.toNat_natCast] at h2
def str (ds : List Int) : Prop := (∃ k : Nat, k ≤ 8 ∧ ds = five (12 - (k : Int))) ∨ ds = wheel
theorem str_len {ds : List Int} (h : str ds) : ds.length = 5 := by
  rcases h with ⟨k, -, rfl⟩ | rfl <;> rfl
theorem str_digs {ds : List Int} (h : str ds) : digs13 ds := by
  rcases h with ⟨k, hk, rfl⟩ | rfl
  · intro x hx
    simp only [five, List.mem_cons, List.not_mem_nil, or_false] at hx
    omega
  · unfold digs13 wheel; decide
theorem str_nodup {ds : List Int} (h : str ds) : ds.Nodup := by
  rcases h with ⟨k, hk, rfl⟩ | rfl
  · refine dsc_nodup ?_
    unfold dsc five
    simp only [List.pairwise_cons, List.mem_cons, List.not_mem_nil, or_false, forall_eq_or_imp, forall_eq, List.Pairwise.nil, and_true, false_implies, implies_true]
    omega
  · decide
theorem find_some {p : Nat → Bool} {n k : Nat} (h : (List.range n).find? p = some k) : k < n ∧ p k = true ∧ ∀ j, j < k → p j = false := by
  rw [List.find?_range_eq_some] at h
  exact ⟨by simpa using h.2.1, h.1, fun j hj => by simpa using h.2.2 j hj⟩
theorem strIn_ge {c : Int} {m : Nat} {ds : List Int} (hd : str ds) (hb : ∀ d ∈ ds, m.testBit d.toNat = true) : V c ds ≤ strIn c m true := by
  unfold strIn
  split
  · rename_i j hj
    obtain ⟨h1, h2, h3⟩ := find_some hj
    rcases hd with ⟨k, hk, rfl⟩ | rfl
    · have hjk : j ≤ k := by
        rcases Nat.lt_or_ge k j with h | h
        · have h4 := h3 k h
          rw [(str_bits hk).2 hb] at h4
          cases h4
        · exact h
      simp only [V, five, List.foldl_cons, List.foldl_nil]
      omega
    · simp only [V, five, wheel, List.foldl_cons, List.foldl_nil]
      omega
  · rename_i hn
    rw [List.find?_eq_none] at hn
    rcases hd with ⟨k, hk, rfl⟩ | rfl
    · exact absurd ((str_bits hk).2 hb) (hn k (by simpa using Nat.lt_succ_of_le hk))
    · rw [if_pos ⟨rfl, whl_bits.2 hb⟩]
      exact Int.le_refl _
theorem strIn_some {c : Int} {m : Nat} {al : Bool} (h : 0 ≤ strIn c m al) : ∃ ds, str ds ∧ (∀ d ∈ ds, m.testBit d.toNat = true) ∧ strIn c m al = V c ds := by
  unfold strIn at h ⊢
  split
  · rename_i j hj
    obtain ⟨h1, h2, h3⟩ := find_some hj
    exact ⟨_, Or.inl ⟨j, by omega, rfl⟩, (str_bits (by omega)).1 h2, rfl⟩
  · rename_i hn
    rw [hn] at h
    dsimp only at h
    split at h
    · rename_i hw
      rw [if_pos hw]
      exact ⟨_, Or.inr rfl, whl_bits.1 hw.2, rfl⟩
    · omega
/-- Suits. -/
theorem suit_bit {z : List Int} (h : okC z) {s : Nat} (hs : s < 4) {r : Int} (hr : 0 ≤ r) : ((smask z).getD s 0).testBit r.toNat = true ↔ 4 * r + (s : Int) ∈ z := by
  rw [smask_get hs, mask_test (okC_suit h _) hr]
  constructor
  · rintro ⟨x, hx, e⟩
    obtain ⟨h1, h2⟩ := List.mem_filter.1 hx
    have h2 : x % 4 = (s : Int) := of_decide_eq_true h2
    have e : x / 4 = r := e
    rwa [show 4 * r + (s : Int) = x by omega]
  · intro hm
    refine ⟨_, List.mem_filter.2 ⟨hm, decide_eq_true (show (4 * r + (s : Int)) % 4 = (s : Int) by omega)⟩, ?_⟩
    show (4 * r + (s : Int)) / 4 = r
    omega
theorem suit5 {z ds : List Int} {s : Nat} (hs : s < 4) (hn : ds.Nodup) (hm : ∀ d ∈ ds, 4 * d + (s : Int) ∈ z) : (ds.length : Int) ≤ (tally su 4 z).getD s 0 := by
  rw [suit_len hs]
  have := sub_len (a := ds.map fun d => 4 * d + (s : Int)) (b := ofSuit z (s : Int)) (List.pairwise_map.2 (List.Pairwise.imp (fun h e => h (by omega)) hn)) (fun x hx => by
    obtain ⟨d, hd, rfl⟩ := List.mem_map.1 hx
    exact List.mem_filter.2 ⟨hm d hd, decide_eq_true (show (4 * d + (s : Int)) % 4 = (s : Int) by omega)⟩)
  rw [List.length_map] at this
  omega
theorem suits2 {z : List Int} (hz : areP z) {s s' : Nat} (hs : s < 4) (hs' : s' < 4) (h : s ≠ s') : (tally su 4 z).getD s 0 + (tally su 4 z).getD s' 0 ≤ z.length := by
  rw [suit_len hs, suit_len hs']
  have := sub_len (a := ofSuit z (s : Int) ++ ofSuit z (s' : Int)) (b := z) (by
    rw [List.nodup_append]
    refine ⟨hz.2.sublist List.filter_sublist, hz.2.sublist List.filter_sublist, fun x hx y hy e => ?_⟩
    subst e
    have h1 : x % 4 = (s : Int) := of_decide_eq_true (List.mem_filter.1 hx).2
    have h2 : x % 4 = (s' : Int) := of_decide_eq_true (List.mem_filter.1 hy).2
    omega) (fun x hx => by
      rcases List.mem_append.1 hx with hx | hx <;> exact (List.mem_filter.1 hx).1)
  rw [List.length_append] at this
  omega
/-- The shapes of the categories' digits. -/
def Shp : Nat → List Int → Prop
  | 8, ds => str ds
  | 7, ds => ∃ (a : Int) (l : List Int), ds = [a, a, a, a] ++ l ∧ l.length = 1 ∧ dsc l ∧ a ∉ l
  | 6, ds => ∃ a b : Int, ds = [a, a, a, b, b] ∧ b ≠ a
  | 5, ds => dsc ds ∧ ds.length = 5
  | 4, ds => str ds
  | 3, ds => ∃ (a : Int) (l : List Int), ds = [a, a, a] ++ l ∧ l.length = 2 ∧ dsc l ∧ a ∉ l
  | 2, ds => ∃ (a b : Int) (l : List Int), ds = [a, a, b, b] ++ l ∧ l.length = 1 ∧ dsc l ∧ b < a ∧ a ∉ l ∧ b ∉ l
  | 1, ds => ∃ (a : Int) (l : List Int), ds = [a, a] ++ l ∧ l.length = 3 ∧ dsc l ∧ a ∉ l
  | 0, ds => dsc ds ∧ ds.length = 5
  | _, _ => False
theorem shp_le : ∀ {k : Nat} {ds : List Int}, Shp k ds → k ≤ 8
  | 0, _, _ => by omega
  | 1, _, _ => by omega
  | 2, _, _ => by omega
  | 3, _, _ => by omega
  | 4, _, _ => by omega
  | 5, _, _ => by omega
  | 6, _, _ => by omega
  | 7, _, _ => by omega
  | 8, _, _ => by omega
  | _ + 9, _, h => h.elim
theorem shp_len : ∀ {k : Nat} {ds : List Int}, Shp k ds → ds.length = 5
  | 0, _, h => h.2
  | 1, _, ⟨a, l, e, h, _⟩ => by subst e; simp [h]
  | 2, _, ⟨a, b, l, e, h, _⟩ => by subst e; simp [h]
  | 3, _, ⟨a, l, e, h, _⟩ => by subst e; simp [h]
  | 4, _, h => str_len h
  | 5, _, h => h.2
  | 6, _, ⟨a, b, e, _⟩ => by subst e; rfl
  | 7, _, ⟨a, l, e, h, _⟩ => by subst e; simp [h]
  | 8, _, h => str_len h
  | _ + 9, _, h => h.elim
/-- A value that some five of the cards have. -/
def Cand (z : List Int) (k : Nat) (ds : List Int) : Prop := Shp k ds ∧ digs13 ds ∧ Has z ds ∧ (k = 8 ∨ k = 5 → ∃ s : Nat, s < 4 ∧ ∀ d ∈ ds, 4 * d + (s : Int) ∈ z)
theorem mask_has {z ds : List Int} (hz : okC z) (hd : digs13 ds) (hh : Has z ds) : ∀ d ∈ ds, (mask z).testBit d.toNat = true := fun d h =>
  (mask_test hz (hd d h).1).2 (cnt_pos.1 (Has_mem hh h))
theorem flTo_some {ms : List Nat} {ns : List Int} : ∀ n, 0 ≤ flTo ms ns n → ∃ s, s < n ∧ ¬ ns.getD s 0 < 5 ∧ flTo ms ns n = topR 5 (ms.getD s 0) []
  | 0, h => by simp [flTo] at h
  | n + 1, h => by
    by_cases e : ns.getD n 0 < 5
    · rw [← flTo_lt e] at h ⊢
      obtain ⟨s, h1, h2⟩ := flTo_some n h
      exact ⟨s, by omega, h2⟩
    · exact ⟨n, by omega, e, (flTo_ge e).symm⟩
theorem flTo_at {ms : List Nat} {ns : List Int} {s : Nat} (hs : ¬ ns.getD s 0 < 5) : ∀ n, s < n → 0 ≤ flTo ms ns n
  | 0, h => absurd h (Nat.not_lt_zero _)
  | n + 1, h => by
    by_cases e : ns.getD n 0 < 5
    · rw [← flTo_lt e]
      refine flTo_at hs n ?_
      rcases Nat.lt_or_ge s n with h1 | h1
      · exact h1
      · rw [show n = s by omega] at e; exact absurd e hs
    · rw [← flTo_ge e]
      exact topR_nonneg (by decide) digs_nil
section
variable {z ds : List Int} {k : Nat} {f t u v : Int}
/-- What the cards have, the scan finds. -/
theorem F7 (hz : areP z) (hS : Scan z 13 f t u v) (h : Cand z 7 ds) : 0 ≤ f := by
  obtain ⟨⟨a, l, rfl, -, -, -⟩, hd, hh, -⟩ := h
  have h1 := (Has_rep 4 hh).1
  have h2 := cnt_le4 hz a
  have ha := hd a (by simp)
  by_cases hf : 0 ≤ f
  · exact hf
  · exact absurd (show cnt z a = 4 by omega) ((FN_no hS.1 hf).2 a ha.1 ha.2)
theorem F6 (hz : areP z) (hS : Scan z 13 f t u v) (hf : ¬ 0 ≤ f) (h : Cand z 6 ds) : 0 ≤ t ∧ 0 ≤ u := by
  obtain ⟨⟨a, b, rfl, hab⟩, hd, hh, -⟩ := h
  obtain ⟨h1, h2⟩ := Has_rep (l := [b, b]) 3 hh
  have h3 := (Has_rep (l := []) 2 h2).1
  have ha := hd a (by simp)
  have hb := hd b (by simp)
  obtain ⟨s1, s2, s3⟩ := hS.2 (FN_no hS.1 hf).1
  have ht : 0 ≤ t := by
    by_cases ht : 0 ≤ t
    · exact ht
    · exact absurd (show 3 ≤ cnt z a by omega) ((FN_no s1 ht).2 a ha.1 ha.2)
  refine ⟨ht, ?_⟩
  by_cases hu : 0 ≤ u
  · exact hu
  · by_cases e : a = t
    · exact absurd ⟨fun h => hab (by omega), by omega⟩ ((FN_no s2 hu).2 b hb.1 hb.2)
    · exact absurd ⟨e, by omega⟩ ((FN_no s2 hu).2 a ha.1 ha.2)
theorem F5 (h : Cand z 5 ds) : 0 ≤ flTo (smask z) (tally su 4 z) 4 := by
  obtain ⟨⟨hs, hl⟩, hd, hh, hf⟩ := h
  obtain ⟨s, h1, h2⟩ := hf (Or.inr rfl)
  have := suit5 h1 (dsc_nodup hs) h2
  exact flTo_at (s := s) (by omega) 4 h1
theorem F4 (hz : areP z) (h : Cand z 4 ds) : 0 ≤ strIn 4 (mask z) true := by
  obtain ⟨hs, hd, hh, -⟩ := h
  have h1 := strIn_ge (c := 4) hs (mask_has (okP hz) hd hh)
  have h2 := V_bd hd (show (0 : Int) ≤ 4 by decide)
  omega
theorem F3 (hS : Scan z 13 f t u v) (hf : ¬ 0 ≤ f) (h : Cand z 3 ds) : 0 ≤ t := by
  obtain ⟨⟨a, l, rfl, -, -, -⟩, hd, hh, -⟩ := h
  have h1 := (Has_rep 3 hh).1
  have ha := hd a (by simp)
  obtain ⟨s1, s2, s3⟩ := hS.2 (FN_no hS.1 hf).1
  by_cases ht : 0 ≤ t
  · exact ht
  · exact absurd (show 3 ≤ cnt z a by omega) ((FN_no s1 ht).2 a ha.1 ha.2)
theorem F2 (hS : Scan z 13 f t u v) (hf : ¬ 0 ≤ f) (ht : ¬ 0 ≤ t) (h : Cand z 2 ds) : 0 ≤ v := by
  obtain ⟨⟨a, b, l, rfl, -, -, hab, -, -⟩, hd, hh, -⟩ := h
  obtain ⟨h1, h2⟩ := Has_rep (l := [b, b] ++ l) 2 hh
  have h3 := (Has_rep 2 h2).1
  have ha := hd a (by simp)
  have hb := hd b (by simp)
  obtain ⟨s1, s2, s3⟩ := hS.2 (FN_no hS.1 hf).1
  by_cases hv : 0 ≤ v
  · exact hv
  · have n3 := (FN_no s3 hv).2
    by_cases e : a = u
    · exact absurd ⟨by omega, by omega, by omega⟩ (n3 b hb.1 hb.2)
    · exact absurd ⟨by omega, e, by omega⟩ (n3 a ha.1 ha.2)
theorem F1 (hS : Scan z 13 f t u v) (hf : ¬ 0 ≤ f) (ht : ¬ 0 ≤ t) (h : Cand z 1 ds) : 0 ≤ u := by
  obtain ⟨⟨a, l, rfl, -, -, -⟩, hd, hh, -⟩ := h
  have h1 := (Has_rep 2 hh).1
  have ha := hd a (by simp)
  obtain ⟨s1, s2, s3⟩ := hS.2 (FN_no hS.1 hf).1
  by_cases hu : 0 ≤ u
  · exact hu
  · exact absurd ⟨by omega, by omega⟩ ((FN_no s2 hu).2 a ha.1 ha.2)
end
/-- What is left of the ranks, behind those that are taken. -/
theorem left_dom {z l : List Int} {m : Nat} {c : Int} (hd : digs13 l) (hl : dsc l) (hm : ∀ d ∈ l, m.testBit d.toNat = true) : V c l ≤ V c ((descN m 13).take l.length) :=
  V_dom l _ (Int.le_refl _) hl (descN_dsc m 13 (Nat.le_refl _)) fun x hx => mem_descN.2 ⟨(hd x hx).1, (hd x hx).2, hm x hx⟩
theorem digs_right {a l : List Int} (h : digs13 (a ++ l)) : digs13 l := fun x hx => h x (List.mem_append.2 (Or.inr hx))
theorem take_len (m : Nat) {n : Nat} (h : n ≤ (descN m 13).length) : ((descN m 13).take n).length = n := by rw [List.length_take]; omega
theorem digs_top (m n : Nat) : digs13 ((descN m 13).take n) := digs_take (descN_digs (Nat.le_refl 13)) n
theorem digs_list {l : List Int} {n : Nat} {a : Int} (h : 0 ≤ a ∧ a ≤ 12) (hl : digs13 l) : digs13 (List.replicate n a ++ l) := digs_app (digs_rep h) hl
theorem upN {z ds : List Int} {k : Nat} (hz : areP z) (h5 : 5 ≤ z.length) (h8 : z.length ≤ 8) (h : Cand z k ds) : V k ds ≤ valN z true := by
  obtain ⟨hs, hd, hh, hf⟩ := id h
  have hl := shp_len hs
  have hk8 := shp_le hs
  have hok := okP hz
  unfold valN
  split
  · rename_i s e
    obtain ⟨hs4, hsf, -⟩ := find_some e
    have hsf := of_decide_eq_true hsf
    obtain ⟨ds', s1, s2, s3⟩ := strIn_some hsf.2
    rw [s3]
    rcases Nat.lt_or_ge k 8 with hk | hk
    · exact Int.le_of_lt (V_lt (by omega) hd (str_digs s1) (by rw [hl, str_len s1]))
    · have hk : k = 8 := by omega
      subst hk
      obtain ⟨s', hs', hm⟩ := hf (Or.inl rfl)
      have e : s' = s := by
        by_cases e : s' = s
        · exact e
        · have a1 := suits2 hz hs' hs4 e
          have a2 := suit5 hs' (str_nodup hs) hm
          omega
      subst e
      rw [← s3]
      exact strIn_ge hs fun d hdd => (suit_bit hok hs4 (hd d hdd).1).2 (hm d hdd)
  · rename_i e
    have hno : k ≠ 8 := by
      intro hk
      subst hk
      obtain ⟨s', hs', hm⟩ := hf (Or.inl rfl)
      have a2 := suit5 hs' (str_nodup hs) hm
      have a3 := strIn_ge (c := 8) (m := (smask z).getD s' 0) hs fun d hdd => (suit_bit hok hs' (hd d hdd).1).2 (hm d hdd)
      have a4 := V_bd hd (show (0 : Int) ≤ 8 by decide)
      rw [List.find?_eq_none] at e
      exact e s' (by simpa using hs') (decide_eq_true ⟨by omega, by show 0 ≤ strIn 8 ((smask z).getD s' 0) true; omega⟩)
    obtain ⟨⟨f, t, u, v⟩, hq⟩ : ∃ q, q = scanTo (tally rk 13 z) 13 := ⟨_, rfl⟩
    have hS := scan_ok z 13 f t u v (Nat.le_refl _) hq
    have hb := scan_bd _ 13 f t u v (Nat.le_refl _) hq
    rw [← hq]
    have G7 : k = 7 → 0 ≤ f := fun e => by subst e; exact F7 hz hS h
    have G6 : k = 6 → ¬ 0 ≤ f → 0 ≤ t ∧ 0 ≤ u := fun e hF => by subst e; exact F6 hz hS hF h
    have G5 : k = 5 → 0 ≤ flTo (smask z) (tally su 4 z) 4 := fun e => by subst e; exact F5 h
    have G4 : k = 4 → 0 ≤ strIn 4 (mask z) true := fun e => by subst e; exact F4 hz h
    have G3 : k = 3 → ¬ 0 ≤ f → 0 ≤ t := fun e hF => by subst e; exact F3 hS hF h
    have G2 : k = 2 → ¬ 0 ≤ f → ¬ 0 ≤ t → 0 ≤ v := fun e hF ht => by subst e; exact F2 hS hF ht h
    have G1 : k = 1 → ¬ 0 ≤ f → ¬ 0 ≤ t → 0 ≤ u := fun e hF ht => by subst e; exact F1 hS hF ht h
    have hmk := mask_has hok hd hh
    unfold rest
    dsimp only
    split
    · rename_i hf0
      have p4 := pre4 hz h5 hS hf0
      simp only [List.length_cons, List.length_nil] at p4
      have e1 := take_len (noBit (mask z) f) (n := 1) (by omega)
      have e2 := digs_top (noBit (mask z) f) 1
      rcases (show k < 7 ∨ k = 7 by omega) with hk | hk
      · exact Int.le_of_lt (V_lt (by omega) hd (digs_list (n := 4) (by omega) e2) (by rw [hl]; simp [e1]))
      · subst hk
        obtain ⟨a, l, rfl, hl1, hdl, hal⟩ := hs
        have ha := hd a (by simp)
        obtain ⟨b1, b2, b3⟩ := FN_end hS.1 hf0
        have c4 := (Has_rep 4 hh).1
        have c4' := cnt_le4 hz a
        rcases (show a < f ∨ a = f ∨ f < a by omega) with h1 | h1 | h1
        · exact Int.le_of_lt (V_lt1 (l := [a, a, a] ++ l) (l' := [f, f, f] ++ (descN (noBit (mask z) f) 13).take 1) (by omega) (digs_list (n := 3) ha (digs_right hd)) (digs_list (n := 3) (by omega) e2) (by simp [e1, hl1]))
        · subst h1
          have := left_dom (z := z) (m := noBit (mask z) a) (c := V 7 [a, a, a, a]) (digs_right hd) hdl fun d hdd => (noBit_test hf0 (hd d (by simp [hdd])).1).2 ⟨hmk d (by simp [hdd]), fun e => hal (e ▸ hdd)⟩
          rw [hl1] at this
          exact this
        · exact absurd (show cnt z a = 4 by omega) (b3 a h1 ha.2)
    · rename_i hf0
      obtain ⟨S1, S2, S3⟩ := hS.2 (FN_no hS.1 hf0).1
      split
      · rename_i htu
        obtain ⟨b1, b2, b3⟩ := FN_end S1 htu.1
        obtain ⟨b4, b5, b6⟩ := FN_end S2 htu.2
        rcases (show k < 6 ∨ k = 6 by omega) with hk | hk
        · exact Int.le_of_lt (V_lt (by omega) hd (digs_list (n := 3) (by omega) (digs_rep (n := 2) (by omega))) (by rw [hl]; rfl))
        · subst hk
          obtain ⟨a, b, rfl, hab⟩ := hs
          have ha := hd a (by simp)
          have hb' := hd b (by simp)
          obtain ⟨h1, h2⟩ := Has_rep (l := [b, b]) 3 hh
          have h3 := (Has_rep (l := []) 2 h2).1
          have hat : a ≤ t := by
            rcases Int.lt_or_le t a with h | h
            · exact absurd (show 3 ≤ cnt z a by omega) (b3 a h ha.2)
            · exact h
          simp only [V, List.foldl_cons, List.foldl_nil]
          rcases (show a < t ∨ a = t by omega) with h | h
          · omega
          · subst h
            have : b ≤ u := by
              rcases Int.lt_or_le u b with h | h
              · exact absurd ⟨hab, by omega⟩ (b6 b h hb'.2)
              · exact h
            omega
      · rename_i htu
        split
        · rename_i hfl
          obtain ⟨s, f1, f2, f3⟩ := flTo_some 4 hfl
          rw [f3]
          have p5 := pre5 hz f1 f2
          simp only [List.length_nil] at p5
          have e1 := take_len ((smask z).getD s 0) (n := 5) (by omega)
          have e2 := digs_top ((smask z).getD s 0) 5
          rcases (show k < 5 ∨ k = 5 by omega) with hk | hk
          · exact Int.le_of_lt (V_lt (by omega) hd e2 (by rw [hl]; exact e1.symm))
          · subst hk
            obtain ⟨s', hs', hm⟩ := hf (Or.inr rfl)
            have e : s' = s := by
              by_cases e : s' = s
              · exact e
              · have a1 := suits2 hz hs' f1 e
                have a2 := suit5 hs' (dsc_nodup hs.1) hm
                omega
            subst e
            have := left_dom (z := z) (m := (smask z).getD s' 0) (c := 5) hd hs.1 fun d hdd => (suit_bit hok f1 (hd d hdd).1).2 (hm d hdd)
            rw [hl] at this
            exact this
        · rename_i hfl
          split
          · rename_i hst
            obtain ⟨ds', s1, s2, s3⟩ := strIn_some hst
            rcases (show k < 4 ∨ k = 4 by omega) with hk | hk
            · rw [s3]
              exact Int.le_of_lt (V_lt (by omega) hd (str_digs s1) (by rw [hl, str_len s1]))
            · subst hk
              exact strIn_ge hs hmk
          · rename_i hst
            split
            · rename_i ht0
              have p3 := pre3 hz h5 hS hf0 ht0 htu
              simp only [List.length_cons, List.length_nil] at p3
              have e1 := take_len (noBit (mask z) t) (n := 2) (by omega)
              have e2 := digs_top (noBit (mask z) t) 2
              obtain ⟨b1, b2, b3⟩ := FN_end S1 ht0
              rcases (show k < 3 ∨ k = 3 by omega) with hk | hk
              · exact Int.le_of_lt (V_lt (by omega) hd (digs_list (n := 3) (by omega) e2) (by rw [hl]; simp [e1]))
              · subst hk
                obtain ⟨a, l, rfl, hl1, hdl, hal⟩ := hs
                have ha := hd a (by simp)
                have c4 := (Has_rep 3 hh).1
                rcases (show a < t ∨ a = t ∨ t < a by omega) with h1 | h1 | h1
                · exact Int.le_of_lt (V_lt1 (l := [a, a] ++ l) (l' := [t, t] ++ (descN (noBit (mask z) t) 13).take 2) (by omega) (digs_list (n := 2) ha (digs_right hd)) (digs_list (n := 2) (by omega) e2) (by simp [e1, hl1]))
                · subst h1
                  have := left_dom (z := z) (m := noBit (mask z) a) (c := V 3 [a, a, a]) (digs_right hd) hdl fun d hdd => (noBit_test ht0 (hd d (by simp [hdd])).1).2 ⟨hmk d (by simp [hdd]), fun e => hal (e ▸ hdd)⟩
                  rw [hl1] at this
                  exact this
                · exact absurd (show 3 ≤ cnt z a by omega) (b3 a h1 ha.2)
            · rename_i ht0
              split
              · rename_i hv0
                obtain ⟨⟨u0, u12, v12⟩, p2⟩ := pre2 hz h5 hS hf0 ht0 hv0
                simp only [List.length_cons, List.length_nil] at p2
                have e1 := take_len (mask z ^^^ (mask z &&& (2 ^ u.toNat ||| 2 ^ v.toNat))) (n := 1) (by omega)
                have e2 := digs_top (mask z ^^^ (mask z &&& (2 ^ u.toNat ||| 2 ^ v.toNat))) 1
                obtain ⟨b1, b2, b3⟩ := FN_end S2 u0
                obtain ⟨b4, b5, b6⟩ := FN_end S3 hv0
                rcases (show k < 2 ∨ k = 2 by omega) with hk | hk
                · exact Int.le_of_lt (V_lt (by omega) hd (digs_list (n := 2) (by omega) (digs_list (n := 2) (by omega) e2)) (by rw [hl]; simp [e1]))
                · subst hk
                  obtain ⟨a, b, l, rfl, hl1, hdl, hab, hal, hbl⟩ := hs
                  have ha := hd a (by simp)
                  have hb' := hd b (by simp)
                  obtain ⟨c1, c2⟩ := Has_rep (l := [b, b] ++ l) 2 hh
                  have c3 := (Has_rep 2 c2).1
                  rcases (show a < u ∨ a = u ∨ u < a by omega) with h1 | h1 | h1
                  · exact Int.le_of_lt (V_lt1 (l := [a, b, b] ++ l) (l' := [u, v, v] ++ (descN (mask z ^^^ (mask z &&& (2 ^ u.toNat ||| 2 ^ v.toNat))) 13).take 1) (by omega) (digs_cons ha (digs_list (n := 2) hb' (digs_right hd))) (digs_cons (by omega) (digs_list (n := 2) (by omega) e2)) (by simp [e1, hl1]))
                  · subst h1
                    rcases (show b < v ∨ b = v ∨ v < b by omega) with h2 | h2 | h2
                    · exact Int.le_of_lt (V_lt1 (l := [b] ++ l) (l' := [v] ++ (descN (mask z ^^^ (mask z &&& (2 ^ a.toNat ||| 2 ^ v.toNat))) 13).take 1) (by omega) (digs_cons hb' (digs_right hd)) (digs_cons (by omega) e2) (by simp [e1, hl1]))
                    · subst h2
                      have := left_dom (z := z) (m := mask z ^^^ (mask z &&& (2 ^ a.toNat ||| 2 ^ b.toNat))) (c := V 2 [a, a, b, b]) (digs_right hd) hdl fun d hdd => (noBit2_test u0 hv0 (hd d (by simp [hdd])).1).2 ⟨hmk d (by simp [hdd]), fun e => hal (e ▸ hdd), fun e => hbl (e ▸ hdd)⟩
                      rw [hl1] at this
                      exact this
                    · exact absurd ⟨by omega, by omega, by omega⟩ (b6 b h2 hb'.2)
                  · exact absurd ⟨by omega, by omega⟩ (b3 a h1 ha.2)
              · rename_i hv0
                split
                · rename_i hu0
                  obtain ⟨u12, p1⟩ := pre1 hz h5 hS hf0 ht0 hv0 hu0
                  simp only [List.length_cons, List.length_nil] at p1
                  have e1 := take_len (noBit (mask z) u) (n := 3) (by omega)
                  have e2 := digs_top (noBit (mask z) u) 3
                  obtain ⟨b1, b2, b3⟩ := FN_end S2 hu0
                  rcases (show k < 1 ∨ k = 1 by omega) with hk | hk
                  · exact Int.le_of_lt (V_lt (by omega) hd (digs_list (n := 2) (by omega) e2) (by rw [hl]; simp [e1]))
                  · subst hk
                    obtain ⟨a, l, rfl, hl1, hdl, hal⟩ := hs
                    have ha := hd a (by simp)
                    have c4 := (Has_rep 2 hh).1
                    rcases (show a < u ∨ a = u ∨ u < a by omega) with h1 | h1 | h1
                    · exact Int.le_of_lt (V_lt1 (l := [a] ++ l) (l' := [u] ++ (descN (noBit (mask z) u) 13).take 3) (by omega) (digs_cons ha (digs_right hd)) (digs_cons (by omega) e2) (by simp [e1, hl1]))
                    · subst h1
                      have := left_dom (z := z) (m := noBit (mask z) a) (c := V 1 [a, a]) (digs_right hd) hdl fun d hdd => (noBit_test hu0 (hd d (by simp [hdd])).1).2 ⟨hmk d (by simp [hdd]), fun e => hal (e ▸ hdd)⟩
                      rw [hl1] at this
                      exact this
                    · exact absurd ⟨by omega, by omega⟩ (b3 a h1 ha.2)
                · rename_i hu0
                  have hk : k = 0 := by omega
                  subst hk
                  have := left_dom (z := z) (m := mask z) (c := 0) hd hs.1 hmk
                  rw [hl] at this
                  exact this
theorem pick {l : List Int} {n : Nat} (h : n ≤ l.length) : ∃ a r, l = a ++ r ∧ a.length = n ∧ l.take n = a := ⟨l.take n, l.drop n, (List.take_append_drop n l).symm, by rw [List.length_take]; omega, rfl⟩
theorem dsc_take {l : List Int} (h : dsc l) (n : Nat) : dsc (l.take n) := List.Pairwise.sublist (List.take_sublist n l) h
theorem top_mem {m n : Nat} {d : Int} (h : d ∈ (descN m 13).take n) : 0 ≤ d ∧ d ≤ 12 ∧ m.testBit d.toNat = true := mem_descN.1 (List.mem_of_mem_take h)
theorem bit_cnt {z : List Int} (hz : okC z) {d : Int} (h0 : 0 ≤ d) (h : (mask z).testBit d.toNat = true) : 1 ≤ cnt z d := cnt_pos.2 ((mask_test hz h0).1 h)
/-- The program's value is one that some five have. -/
theorem atN {z : List Int} (hz : areP z) (h5 : 5 ≤ z.length) : ∃ (k : Nat) (ds : List Int), Cand z k ds ∧ valN z true = V k ds := by
  have hok := okP hz
  unfold valN
  split
  · rename_i s e
    obtain ⟨hs4, hsf, -⟩ := find_some e
    have hsf := of_decide_eq_true hsf
    obtain ⟨ds, s1, s2, s3⟩ := strIn_some hsf.2
    have hd := str_digs s1
    have hm : ∀ d ∈ ds, 4 * d + (s : Int) ∈ z := fun d h => (suit_bit hok hs4 (hd d h).1).1 (s2 d h)
    refine ⟨8, ds, ⟨s1, hd, nodup_Has (str_nodup s1) fun d h => ?_, fun _ => ⟨s, hs4, hm⟩⟩, s3⟩
    exact cnt_pos.2 ⟨_, hm d h, by show (4 * d + (s : Int)) / 4 = d; omega⟩
  · rename_i e
    obtain ⟨⟨f, t, u, v⟩, hq⟩ : ∃ q, q = scanTo (tally rk 13 z) 13 := ⟨_, rfl⟩
    have hS := scan_ok z 13 f t u v (Nat.le_refl _) hq
    rw [← hq]
    unfold rest
    dsimp only
    split
    · rename_i hf0
      have p4 := pre4 hz h5 hS hf0
      simp only [List.length_cons, List.length_nil] at p4
      obtain ⟨b1, b2, b3⟩ := FN_end hS.1 hf0
      have hn : ∀ d ∈ (descN (noBit (mask z) f) 13).take 1, 1 ≤ cnt z d ∧ d ≠ f := fun d h => by
        obtain ⟨t0, t1, t2⟩ := top_mem h
        have := (noBit_test hf0 t0).1 t2
        exact ⟨bit_cnt hok t0 this.1, this.2⟩
      have hds := dsc_take (descN_dsc (noBit (mask z) f) 13 (Nat.le_refl _)) 1
      exact ⟨7, [f, f, f, f] ++ (descN (noBit (mask z) f) 13).take 1, ⟨⟨f, _, rfl, take_len _ (by omega), hds, fun h => (hn f h).2 rfl⟩, digs_list (n := 4) (by omega) (digs_top _ _), rep_Has 4 (by omega) (nodup_Has (dsc_nodup hds) fun d h => (hn d h).1) (fun h => (hn f h).2 rfl), fun h => by omega⟩, rfl⟩
    · rename_i hf0
      obtain ⟨S1, S2, S3⟩ := hS.2 (FN_no hS.1 hf0).1
      split
      · rename_i htu
        obtain ⟨b1, b2, b3⟩ := FN_end S1 htu.1
        obtain ⟨b4, b5, b6⟩ := FN_end S2 htu.2
        exact ⟨6, [t, t, t, u, u], ⟨⟨t, u, rfl, b5.1⟩, digs_list (n := 3) (by omega) (digs_rep (n := 2) (by omega)), rep_Has 3 (by omega) (rep_Has (l := []) 2 (by omega) (fun r => by rw [List.count_nil]; exact cnt_nonneg z r) List.not_mem_nil) (by simpa using fun h => b5.1 h.symm), fun h => by omega⟩, rfl⟩
      · rename_i htu
        split
        · rename_i hfl
          obtain ⟨s, f1, f2, f3⟩ := flTo_some 4 hfl
          have p5 := pre5 hz f1 f2
          simp only [List.length_nil] at p5
          have hm : ∀ d ∈ (descN ((smask z).getD s 0) 13).take 5, 4 * d + (s : Int) ∈ z := fun d h => by
            obtain ⟨t0, t1, t2⟩ := top_mem h
            exact (suit_bit hok f1 t0).1 t2
          have hds := dsc_take (descN_dsc ((smask z).getD s 0) 13 (Nat.le_refl _)) 5
          refine ⟨5, (descN ((smask z).getD s 0) 13).take 5, ⟨⟨hds, take_len _ (by omega)⟩, digs_top _ _, nodup_Has (dsc_nodup hds) fun d h => ?_, fun _ => ⟨s, f1, hm⟩⟩, f3⟩
          exact cnt_pos.2 ⟨_, hm d h, by show (4 * d + (s : Int)) / 4 = d; omega⟩
        · rename_i hfl
          split
          · rename_i hst
            obtain ⟨ds, s1, s2, s3⟩ := strIn_some hst
            have hd := str_digs s1
            exact ⟨4, ds, ⟨s1, hd, nodup_Has (str_nodup s1) fun d h => bit_cnt hok (hd d h).1 (s2 d h), fun h => by omega⟩, s3⟩
          · rename_i hst
            split
            · rename_i ht0
              have p3 := pre3 hz h5 hS hf0 ht0 htu
              simp only [List.length_cons, List.length_nil] at p3
              obtain ⟨b1, b2, b3⟩ := FN_end S1 ht0
              have hn : ∀ d ∈ (descN (noBit (mask z) t) 13).take 2, 1 ≤ cnt z d ∧ d ≠ t := fun d h => by
                obtain ⟨t0, t1, t2⟩ := top_mem h
                have := (noBit_test ht0 t0).1 t2
                exact ⟨bit_cnt hok t0 this.1, this.2⟩
              have hds := dsc_take (descN_dsc (noBit (mask z) t) 13 (Nat.le_refl _)) 2
              exact ⟨3, [t, t, t] ++ (descN (noBit (mask z) t) 13).take 2, ⟨⟨t, _, rfl, take_len _ (by omega), hds, fun h => (hn t h).2 rfl⟩, digs_list (n := 3) (by omega) (digs_top _ _), rep_Has 3 (by omega) (nodup_Has (dsc_nodup hds) fun d h => (hn d h).1) (fun h => (hn t h).2 rfl), fun h => by omega⟩, rfl⟩
            · rename_i ht0
              split
              · rename_i hv0
                obtain ⟨⟨u0, u12, v12⟩, p2⟩ := pre2 hz h5 hS hf0 ht0 hv0
                simp only [List.length_cons, List.length_nil] at p2
                obtain ⟨b1, b2, b3⟩ := FN_end S2 u0
                obtain ⟨b4, b5, b6⟩ := FN_end S3 hv0
                have hvu : v < u := by
                  rcases (show v < u ∨ v = u ∨ u < v by omega) with h | h | h
                  · exact h
                  · exact absurd h b5.2.1
                  · exact absurd ⟨b5.1, b5.2.2⟩ (b3 v h v12)
                have hn : ∀ d ∈ (descN (mask z ^^^ (mask z &&& (2 ^ u.toNat ||| 2 ^ v.toNat))) 13).take 1, 1 ≤ cnt z d ∧ d ≠ u ∧ d ≠ v := fun d h => by
                  obtain ⟨t0, t1, t2⟩ := top_mem h
                  have := (noBit2_test u0 hv0 t0).1 t2
                  exact ⟨bit_cnt hok t0 this.1, this.2⟩
                have hds := dsc_take (descN_dsc (mask z ^^^ (mask z &&& (2 ^ u.toNat ||| 2 ^ v.toNat))) 13 (Nat.le_refl _)) 1
                refine ⟨2, [u, u, v, v] ++ (descN (mask z ^^^ (mask z &&& (2 ^ u.toNat ||| 2 ^ v.toNat))) 13).take 1, ⟨⟨u, v, _, rfl, take_len _ (by omega), hds, hvu, fun h => (hn u h).2.1 rfl, fun h => (hn v h).2.2 rfl⟩, digs_list (n := 2) (by omega) (digs_list (n := 2) (by omega) (digs_top _ _)), rep_Has 2 (by omega) (rep_Has 2 (by omega) (nodup_Has (dsc_nodup hds) fun d h => (hn d h).1) (fun h => (hn v h).2.2 rfl)) (fun h => ?_), fun h => by omega⟩, rfl⟩
                rcases List.mem_append.1 (show u ∈ List.replicate 2 v ++ (descN (mask z ^^^ (mask z &&& (2 ^ u.toNat ||| 2 ^ v.toNat))) 13).take 1 from h) with h | h
                · have := List.eq_of_mem_replicate h; omega
                · exact (hn u h).2.1 rfl
              · rename_i hv0
                split
                · rename_i hu0
                  obtain ⟨u12, p1⟩ := pre1 hz h5 hS hf0 ht0 hv0 hu0
                  simp only [List.length_cons, List.length_nil] at p1
                  obtain ⟨b1, b2, b3⟩ := FN_end S2 hu0
                  have hn : ∀ d ∈ (descN (noBit (mask z) u) 13).take 3, 1 ≤ cnt z d ∧ d ≠ u := fun d h => by
                    obtain ⟨t0, t1, t2⟩ := top_mem h
                    have := (noBit_test hu0 t0).1 t2
                    exact ⟨bit_cnt hok t0 this.1, this.2⟩
                  have hds := dsc_take (descN_dsc (noBit (mask z) u) 13 (Nat.le_refl _)) 3
                  exact ⟨1, [u, u] ++ (descN (noBit (mask z) u) 13).take 3, ⟨⟨u, _, rfl, take_len _ (by omega), hds, fun h => (hn u h).2 rfl⟩, digs_list (n := 2) (by omega) (digs_top _ _), rep_Has 2 (by omega) (nodup_Has (dsc_nodup hds) fun d h => (hn d h).1) (fun h => (hn u h).2 rfl), fun h => by omega⟩, rfl⟩
                · rename_i hu0
                  have p0 := pre0 hz h5 hS hf0 ht0 hu0
                  simp only [List.length_nil] at p0
                  have hds := dsc_take (descN_dsc (mask z) 13 (Nat.le_refl _)) 5
                  exact ⟨0, (descN (mask z) 13).take 5, ⟨⟨hds, take_len _ (by omega)⟩, digs_top _ _, nodup_Has (dsc_nodup hds) fun d h => bit_cnt hok (top_mem h).1 (top_mem h).2.2, fun h => by omega⟩, rfl⟩
end Go.Proofs.Yteaahdakammffaa.Hd
/- Plain facts: values of five cards, as the model reckons them and as the program does, and the best of all choices of five. No condition. -/
namespace Go.Proofs.Yteaahdakammffaa.Hd
open Go.Proofs.Yteaahdakammffaa.V Go.Proofs.Yteaahdakammffaa.Iso
set_option linter.unusedVariables false
set_option linter.unusedSimpArgs false
theorem greedy : ∀ (m ds : List Int), (∀ r, ds.count r ≤ m.count r) → ∃ l : List Int, l.Sublist m ∧ l.Perm ds
  | [], ds, h => by
    have : ds = [] := by
      cases ds with
      | nil => rfl
      | cons x ds => have := h x; simp at this
    subst this
    exact ⟨[], List.Sublist.refl _, List.Perm.refl _⟩
  | a :: m, ds, h => by
    by_cases e : a ∈ ds
    · obtain ⟨l, h1, h2⟩ := greedy m (ds.erase a) (fun r => by
        have h3 := h r
        rw [List.count_cons] at h3
        rw [List.count_erase]
        split <;> split at h3 <;> simp_all <;> omega)
      exact ⟨a :: l, h1.cons_cons a, (h2.cons a).trans (List.perm_cons_erase e).symm⟩
    · obtain ⟨l, h1, h2⟩ := greedy m ds (fun r => by
        have h3 := h r
        rw [List.count_cons] at h3
        by_cases e2 : a = r
        · subst e2
          rw [List.count_eq_zero.2 e]
          omega
        · rw [if_neg (by simpa using e2)] at h3
          omega)
      exact ⟨l, h1.cons a, h2⟩
theorem shp_nodup {k : Nat} {ds : List Int} (h : Shp k ds) (hk : k = 8 ∨ k = 5) : ds.Nodup := by
  rcases hk with rfl | rfl
  · exact str_nodup h
  · exact dsc_nodup h.1
theorem areP_sub {y z : List Int} (h : areP z) (hs : y.Sublist z) : areP y := ⟨fun x hx => h.1 x (hs.subset hx), h.2.sublist hs⟩
/-- What five have, all have. -/
theorem cand_up {y z ds : List Int} {k : Nat} (hs : y.Sublist z) (h : Cand y k ds) : Cand z k ds := by
  obtain ⟨h1, h2, h3, h4⟩ := h
  refine ⟨h1, h2, fun r => ?_, fun hk => ?_⟩
  · have := h3 r
    have h5 := List.Sublist.count_le r (hs.map rk)
    rw [cnt_count] at this ⊢
    omega
  · obtain ⟨s, hs4, hm⟩ := h4 hk
    exact ⟨s, hs4, fun d hd => hs.subset (hm d hd)⟩
/-- What all have, some five have. -/
theorem cand_down {z ds : List Int} {k : Nat} (hz : areP z) (h : Cand z k ds) : ∃ y, y.Sublist z ∧ y.length = 5 ∧ Cand y k ds := by
  obtain ⟨h1, h2, h3, h4⟩ := h
  have hl := shp_len h1
  by_cases hk : k = 8 ∨ k = 5
  · obtain ⟨s, hs4, hm⟩ := h4 hk
    have hn := shp_nodup h1 hk
    have hn2 : (ds.map fun d => 4 * d + (s : Int)).Nodup := List.pairwise_map.2 (List.Pairwise.imp (fun h e => h (by omega)) hn)
    have hp : (z.filter fun x => decide (x ∈ ds.map fun d => 4 * d + (s : Int))).Perm (ds.map fun d => 4 * d + (s : Int)) := by
      rw [List.perm_ext_iff_of_nodup (hz.2.sublist List.filter_sublist) hn2]
      intro x
      rw [List.mem_filter, decide_eq_true_iff]
      constructor
      · exact fun h => h.2
      · intro h
        refine ⟨?_, h⟩
        obtain ⟨d, hd, rfl⟩ := List.mem_map.1 h
        exact hm d hd
    have hmem : ∀ d ∈ ds, 4 * d + (s : Int) ∈ z.filter fun x => decide (x ∈ ds.map fun d => 4 * d + (s : Int)) := fun d hd => hp.mem_iff.2 (List.mem_map.2 ⟨d, hd, rfl⟩)
    refine ⟨_, List.filter_sublist, by rw [hp.length_eq, List.length_map, hl], h1, h2, nodup_Has hn fun d hd => ?_, fun _ => ⟨s, hs4, hmem⟩⟩
    exact cnt_pos.2 ⟨_, hmem d hd, by show (4 * d + (s : Int)) / 4 = d; omega⟩
  · obtain ⟨l, hs, hp⟩ := greedy (z.map rk) ds (fun r => by have := h3 r; rw [cnt_count] at this; omega)
    obtain ⟨y, hy, rfl⟩ := List.sublist_map_iff.1 hs
    refine ⟨y, hy, by rw [← hl, ← hp.length_eq, List.length_map], h1, h2, fun r => ?_, fun h => absurd h hk⟩
    rw [cnt_count, hp.count_eq]
    exact Int.le_refl _
theorem cand_perm {y ds : List Int} {k : Nat} (h5 : y.length = 5) (h : Cand y k ds) : (y.map rk).Perm ds := by
  obtain ⟨h1, h2, h3, h4⟩ := h
  have hl := shp_len h1
  obtain ⟨l, hs, hp⟩ := greedy (y.map rk) ds (fun r => by have := h3 r; rw [cnt_count] at this; omega)
  have e : l = y.map rk := hs.eq_of_length (by rw [hp.length_eq, hl, List.length_map, h5])
  subst e
  exact hp
theorem tally_map (f : Int → Int) (n : Nat) (y : List Int) : tally f n y = tally idI n (y.map f) := by
  unfold tally
  apply List.map_congr_left
  intro r _
  rw [List.countP_map]; rfl
theorem tally_perm {a b : List Int} (n : Nat) (h : a.Perm b) : tally idI n a = tally idI n b := by
  unfold tally
  apply List.map_congr_left
  intro r _
  rw [h.countP_eq]
/-- The ranks that occur n times. -/
theorem dsc_ext : ∀ {a b : List Int}, dsc a → dsc b → (∀ x, x ∈ a ↔ x ∈ b) → a = b
  | [], [], _, _, _ => rfl
  | [], y :: b, _, _, h => absurd ((h y).2 (by simp)) List.not_mem_nil
  | x :: a, [], _, _, h => absurd ((h x).1 (by simp)) List.not_mem_nil
  | x :: a, y :: b, h1, h2, h => by
    obtain ⟨a1, a2⟩ := List.pairwise_cons.1 h1
    obtain ⟨b1, b2⟩ := List.pairwise_cons.1 h2
    have e : x = y := by
      rcases List.mem_cons.1 ((h x).1 (by simp)) with e | e
      · exact e
      · rcases List.mem_cons.1 ((h y).2 (by simp)) with e' | e'
        · exact e'.symm
        · have := b1 x e
          have := a1 y e'
          omega
    subst e
    congr 1
    refine dsc_ext a2 b2 fun w => ⟨fun hw => ?_, fun hw => ?_⟩
    · rcases List.mem_cons.1 ((h w).1 (by simp [hw])) with e | e
      · have := a1 w hw; omega
      · exact e
    · rcases List.mem_cons.1 ((h w).2 (by simp [hw])) with e | e
      · have := b1 w hw; omega
      · exact e
def rn (C : List Int) (n : Nat) : List Int := ((List.range 13).filter fun k => decide (C.getD (12 - k) 0 = (n : Int))).map fun k : Nat => 12 - (k : Int)
theorem rn_dsc (C : List Int) (n : Nat) : dsc (rn C n) := by
  unfold dsc rn
  rw [List.pairwise_map]
  refine List.Pairwise.imp_of_mem ?_ (List.Pairwise.filter _ List.pairwise_lt_range)
  intro a b ha hb h
  omega
theorem mem_rn {C : List Int} {n : Nat} {x : Int} : x ∈ rn C n ↔ (0 ≤ x ∧ x ≤ 12) ∧ C.getD x.toNat 0 = (n : Int) := by
  unfold rn
  rw [List.mem_map]
  constructor
  · rintro ⟨k, hk, rfl⟩
    obtain ⟨h1, h2⟩ := List.mem_filter.1 hk
    have := List.mem_range.1 h1
    have h2 := of_decide_eq_true h2
    exact ⟨by omega, by rw [show ((12 : Int) - (k : Int)).toNat = 12 - k by omega]; exact h2⟩
  · rintro ⟨h1, h2⟩
    refine ⟨12 - x.toNat, List.mem_filter.2 ⟨List.mem_range.2 (by omega), decide_eq_true ?_⟩, by omega⟩
    rw [show 12 - (12 - x.toNat) = x.toNat by omega]; exact h2
theorem flat_if {α β : Type} (p : α → Prop) [DecidablePred p] (g : α → List β) : ∀ l : List α, (l.flatMap fun k => if p k then g k else []) = (l.filter fun k => decide (p k)).flatMap g
  | [] => rfl
  | x :: l => by
    rw [List.flatMap_cons, flat_if p g l]
    by_cases h : p x
    · rw [if_pos h, List.filter_cons_of_pos (by simpa using h), List.flatMap_cons]
    · rw [if_neg h, List.filter_cons_of_neg (by simpa using h)]; rfl
theorem lev_rn (C : List Int) (n : Nat) : lev C n 13 = (rn C n).flatMap (List.replicate n) := by
  unfold lev rn
  rw [flat_if, List.flatMap_map]
theorem ord_rn (C : List Int) : ord C 4 0 = (rn C 4).flatMap (List.replicate 4) ++ ((rn C 3).flatMap (List.replicate 3) ++ ((rn C 2).flatMap (List.replicate 2) ++ (rn C 1).flatMap (List.replicate 1))) := by
  unfold ord
  rw [lev_zero, List.append_nil, levs_succ, levs_succ, levs_succ, levs_succ, show levs C 0 = [] from rfl]
  rw [← lev_rn, ← lev_rn, ← lev_rn, ← lev_rn]
  simp only [List.nil_append, List.append_assoc]
theorem many_rn {C : List Int} (h13 : C.length = 13) {n : Nat} (hn : n < 5) : (tally idI 5 C).getD n 0 = ((rn C n).length : Nat) := by
  rw [tally_get hn]
  have hC : C = (List.range 13).map fun k => C.getD k 0 := by
    refine ext_getD (by simp [h13]) fun i hi => ?_
    rw [Cm.gM (d := 0) (by simp; omega), range_getD (by omega)]
  have hp : (((List.range 13).filter fun k => decide (C.getD k 0 = (n : Int))).map fun k : Nat => (k : Int)).Perm (rn C n) := by
    rw [List.perm_ext_iff_of_nodup ?_ (dsc_nodup (rn_dsc C n))]
    · intro x
      rw [mem_rn, List.mem_map]
      constructor
      · rintro ⟨k, hk, rfl⟩
        obtain ⟨h1, h2⟩ := List.mem_filter.1 hk
        have := List.mem_range.1 h1
        exact ⟨by omega, by rw [Int.toNat_natCast]; exact of_decide_eq_true h2⟩
      · rintro ⟨h1, h2⟩
        exact ⟨x.toNat, List.mem_filter.2 ⟨List.mem_range.2 (by omega), decide_eq_true h2⟩, by omega⟩
    · unfold List.Nodup
      rw [List.pairwise_map]
      refine List.Pairwise.imp ?_ (List.Pairwise.filter _ List.pairwise_lt_range)
      intro a b h
      omega
  rw [← hp.length_eq, List.length_map, ← List.countP_eq_length_filter]
  conv => lhs; rw [hC, List.countP_map]
  rfl
theorem T_get {ds : List Int} {x : Int} (h : 0 ≤ x ∧ x ≤ 12) : (tally idI 13 ds).getD x.toNat 0 = (ds.count x : Nat) := by
  rw [tally_get (by omega), List.count_eq_countP, show ((x.toNat : Nat) : Int) = x by omega]; rfl
theorem rn_T {ds L : List Int} {n : Nat} (hd : digs13 ds) (hn : 1 ≤ n) (hL : dsc L) (h : ∀ x, x ∈ L ↔ ds.count x = n) : rn (tally idI 13 ds) n = L := by
  refine dsc_ext (rn_dsc _ _) hL fun x => ?_
  rw [mem_rn, h]
  constructor
  · rintro ⟨h1, h2⟩
    rw [T_get h1] at h2
    omega
  · intro h1
    have hx := hd x (List.count_pos_iff.1 (by omega))
    exact ⟨hx, by rw [T_get hx]; omega⟩
theorem cntRep {a : Int} {l : List Int} (m : Nat) (ha : a ∉ l) (x : Int) : (List.replicate m a ++ l).count x = if x = a then m else l.count x := by
  rw [List.count_append]
  by_cases e : x = a
  · subst e; rw [if_pos rfl, List.count_replicate_self, List.count_eq_zero.2 ha, Nat.add_zero]
  · rw [if_neg e, List.count_replicate, if_neg (by simpa using fun h => e h.symm), Nat.zero_add]
theorem cntNd {l : List Int} (h : l.Nodup) (x : Int) : l.count x = if x ∈ l then 1 else 0 := by
  by_cases e : x ∈ l
  · rw [if_pos e]
    have := List.nodup_iff_count.1 h x
    have := List.count_pos_iff.2 e
    omega
  · rw [if_neg e]; exact List.count_eq_zero.2 e
theorem flat1 (l : List Int) : l.flatMap (List.replicate 1) = l := by
  induction l with
  | nil => rfl
  | cons x l ih => rw [List.flatMap_cons, ih]; rfl
/-- Straights, by counts. -/
theorem strS_some {C : List Int} (h : 0 ≤ strS C) : ∃ ds, str ds ∧ ∀ d ∈ ds, C.getD d.toNat 0 = 1 := by
  unfold strS at h
  split at h
  · rename_i k hk
    obtain ⟨h1, h2, -⟩ := find_some hk
    have h2 := of_decide_eq_true h2
    refine ⟨_, Or.inl ⟨k, by omega, rfl⟩, fun d hd => ?_⟩
    simp only [five, List.mem_cons, List.not_mem_nil, or_false] at hd
    rcases hd with rfl | rfl | rfl | rfl | rfl
    · exact h2.1
    · exact h2.2.1
    · exact h2.2.2.1
    · exact h2.2.2.2.1
    · exact h2.2.2.2.2
  · split at h
    · rename_i hw
      refine ⟨_, Or.inr rfl, fun d hd => ?_⟩
      simp only [wheel, List.mem_cons, List.not_mem_nil, or_false] at hd
      rcases hd with rfl | rfl | rfl | rfl | rfl
      · exact hw.2.2.2.1
      · exact hw.2.2.1
      · exact hw.2.1
      · exact hw.1
      · exact hw.2.2.2.2
    · omega
theorem sq_iff {C : List Int} {k : Nat} : sq C k = true ↔ ∀ d ∈ five (12 - (k : Int)), C.getD d.toNat 0 = 1 := by
  unfold sq five
  rw [decide_eq_true_iff]
  simp only [List.mem_cons, List.not_mem_nil, or_false, forall_eq_or_imp, forall_eq]
/-- What five cards' digits tell. -/
theorem strS_few {C : List Int} (h : (rn C 1).length < 5) : ¬ 0 ≤ strS C := by
  intro h0
  obtain ⟨ds, h1, h2⟩ := strS_some h0
  have := sub_len (a := ds) (b := rn C 1) (str_nodup h1) fun x hx => mem_rn.2 ⟨str_digs h1 x hx, h2 x hx⟩
  rw [str_len h1] at this
  omega
/-- The value, by counts of ranks and whether there is a flush. -/
def catR (C : List Int) (fl : Prop) [Decidable fl] : Int :=
  if 0 ≤ strS C ∧ fl then 8
  else if (tally idI 5 C).getD 4 0 = 1 then 7
  else if (tally idI 5 C).getD 3 0 = 1 ∧ (tally idI 5 C).getD 2 0 = 1 then 6
  else if fl then 5
  else if 0 ≤ strS C then 4
  else if (tally idI 5 C).getD 3 0 = 1 then 3
  else if (tally idI 5 C).getD 2 0 = 2 then 2
  else if (tally idI 5 C).getD 2 0 = 1 then 1 else 0
def kickR (C : List Int) : List Int := if strS C = 3 then wheel else ord C 4 0
theorem valS_R (z : List Int) : valS z = 371293 * catR (tally rk 13 z) (flS z) + V 0 (kickR (tally rk 13 z)) := rfl
theorem V_split {c : Int} {l : List Int} (h : l.length = 5) : V c l = 371293 * c + V 0 l := by
  match l, h with
  | [a, b, d, e, f], _ =>
    simp only [V, List.foldl_cons, List.foldl_nil]
    omega
theorem five_sub {j k : Nat} (hj : j ≤ 8) (hk : k ≤ 8) (h : ∀ d ∈ five (12 - (j : Int)), d ∈ five (12 - (k : Int))) : j = k := by
  have h1 := h (12 - (j : Int)) (by simp [five])
  have h2 := h (12 - (j : Int) - 4) (by simp [five])
  simp only [five, List.mem_cons, List.not_mem_nil, or_false] at h1 h2
  omega
theorem five_wheel {j : Nat} (hj : j ≤ 8) (h : ∀ d ∈ five (12 - (j : Int)), d ∈ wheel) : False := by
  have h1 := h (12 - (j : Int)) (by simp [five])
  have h2 := h (12 - (j : Int) - 1) (by simp [five])
  simp only [wheel, List.mem_cons, List.not_mem_nil, or_false] at h1 h2
  omega
theorem T_one {ds : List Int} (hn : ds.Nodup) (hd : digs13 ds) {x : Int} (hx : 0 ≤ x ∧ x ≤ 12) : (tally idI 13 ds).getD x.toNat 0 = 1 ↔ x ∈ ds := by
  rw [T_get hx, cntNd hn]
  constructor
  · intro h
    split at h
    · assumption
    · omega
  · intro h; rw [if_pos h]; rfl
theorem strS_str {ds : List Int} (h : str ds) : 0 ≤ strS (tally idI 13 ds) ∧ kickR (tally idI 13 ds) = ds := by
  have hn := str_nodup h
  have hd := str_digs h
  rcases h with ⟨k, hk, e⟩ | e
  · subst e
    have hs : strS (tally idI 13 (five (12 - (k : Int)))) = 12 - (k : Int) := by
      refine strS_here (by omega) (sq_iff.2 fun d hdd => (T_one hn hd (hd d hdd)).2 hdd) fun j hj => ?_
      rw [← Bool.not_eq_true]
      intro h2
      have h3 := sq_iff.1 h2
      have := five_sub (j := j) (k := k) (by omega) hk fun d hdd => (T_one hn hd (by simp only [five, List.mem_cons, List.not_mem_nil, or_false] at hdd; omega)).1 (h3 d hdd)
      omega
    refine ⟨by omega, ?_⟩
    unfold kickR
    rw [if_neg (by omega), ord_rn]
    have hdc : dsc (five (12 - (k : Int))) := by
      unfold dsc five
      simp only [List.pairwise_cons, List.mem_cons, List.not_mem_nil, or_false, forall_eq_or_imp, forall_eq, List.Pairwise.nil, and_true, false_implies, implies_true]
      omega
    have hc := cntNd hn
    rw [rn_T (L := []) (n := 4) hd (by decide) .nil (fun x => by rw [hc]; split <;> simp), rn_T (L := []) (n := 3) hd (by decide) .nil (fun x => by rw [hc]; split <;> simp), rn_T (L := []) (n := 2) hd (by decide) .nil (fun x => by rw [hc]; split <;> simp),
      rn_T (L := five (12 - (k : Int))) (n := 1) hd (by decide) hdc (fun x => by rw [hc]; split <;> simp [*]), flat1]
    rfl
  · subst e
    have hs : strS (tally idI 13 wheel) = 3 := by
      refine strS_low (fun j hj => ?_) (by decide)
      rw [← Bool.not_eq_true]
      intro h2
      have h3 := sq_iff.1 h2
      exact five_wheel (j := j) (by omega) fun d hdd => (T_one hn hd (by simp only [five, List.mem_cons, List.not_mem_nil, or_false] at hdd; omega)).1 (h3 d hdd)
    refine ⟨by omega, ?_⟩
    unfold kickR
    rw [if_pos hs]
theorem T_len (ds : List Int) : (tally idI 13 ds).length = 13 := tally_len _ _ _
/-- Flushes. -/
theorem fl_cards {y : List Int} (h5 : y.length = 5) (h : flS y) (hy : areP y) : ∃ s : Nat, s < 4 ∧ ∀ x ∈ y, x % 4 = (s : Int) := by
  refine ⟨(y.getD 0 0 % 4).toNat, by omega, fun x hx => ?_⟩
  unfold flS at h
  rw [suit_len (by omega)] at h
  have h2 := List.length_filter_eq_length_iff.1 (show (ofSuit y (((y.getD 0 0 % 4).toNat : Nat) : Int)).length = y.length by omega)
  exact of_decide_eq_true (h2 x hx)
theorem fl_of {y ds : List Int} {s : Nat} (hy : areP y) (h5 : y.length = 5) (hs : s < 4) (hn : ds.Nodup) (hl : ds.length = 5) (hm : ∀ d ∈ ds, 4 * d + (s : Int) ∈ y) : flS y := by
  have h1 := suit5 hs hn hm
  have h0 := Math.getD_mem 0 (show 0 < y.length by omega)
  unfold flS
  by_cases e : s = (y.getD 0 0 % 4).toNat
  · rw [← e]
    have := tally_bd (f := su) (n := 4) (z := y) (r := s) hs
    omega
  · have h2 := suits2 hy hs (show (y.getD 0 0 % 4).toNat < 4 by omega) e
    rw [suit_len (show (y.getD 0 0 % 4).toNat < 4 by omega)] at h2
    have : 0 < (ofSuit y (((y.getD 0 0 % 4).toNat : Nat) : Int)).length := List.length_pos_of_mem (List.mem_filter.2 ⟨h0, decide_eq_true (show y.getD 0 0 % 4 = (((y.getD 0 0 % 4).toNat : Nat) : Int) by omega)⟩)
    omega
theorem valS_of {y ds : List Int} {k : Nat} (hl : ds.length = 5) (h1 : catR (tally rk 13 y) (flS y) = (k : Int)) (h2 : kickR (tally rk 13 y) = ds) : valS y = V k ds := by
  rw [valS_R, h1, h2]; exact (V_split hl).symm
/-- The model's value of five cards is the program's. -/
theorem valS_eq {y : List Int} (hy : areP y) (h5 : y.length = 5) : valS y = valN y true := by
  obtain ⟨k, ds, hc, hv⟩ := atN hy (by omega)
  have hp := cand_perm h5 hc
  have hC : tally rk 13 y = tally idI 13 ds := by rw [tally_map, tally_perm 13 hp]
  have hup : ∀ (k' : Nat) ds', Cand y k' ds' → V k' ds' ≤ V k ds := fun k' ds' h => by rw [← hv]; exact upN hy (by omega) (by omega) h
  obtain ⟨hs, hd, hh, hf⟩ := id hc
  have hl := shp_len hs
  have hcat : ∀ (k' : Nat) ds', Cand y k' ds' → ¬ k < k' := fun k' ds' h hk => by
    have h1 := hup k' ds' h
    have h2 := V_lt (c := k) (c' := k') (by omega) hd h.2.1 (by rw [hl, shp_len h.1])
    omega
  have hflc : flS y → ∃ s : Nat, s < 4 ∧ ∀ d ∈ ds, 4 * d + (s : Int) ∈ y := fun h => by
    obtain ⟨s, h1, h2⟩ := fl_cards h5 h hy
    refine ⟨s, h1, fun d hdd => ?_⟩
    obtain ⟨x, hx, e⟩ := List.mem_map.1 (hp.mem_iff.2 hdd)
    have h3 := h2 x hx
    have e : x / 4 = d := e
    rwa [show 4 * d + (s : Int) = x by omega]
  have hfln : flS y → ds.Nodup := fun h => by
    obtain ⟨s, h1, h2⟩ := fl_cards h5 h hy
    refine hp.nodup_iff.1 (List.pairwise_map.2 (List.Pairwise.imp_of_mem ?_ hy.2))
    intro a b ha hb hne e
    have e : a / 4 = b / 4 := e
    have := h2 a ha
    have := h2 b hb
    exact hne (by omega)
  have hstr : 0 ≤ strS (tally idI 13 ds) → ∃ ds', Cand y 4 ds' ∧ ds'.Nodup ∧ ∀ d ∈ ds', d ∈ ds := fun h => by
    obtain ⟨ds', h1, h2⟩ := strS_some h
    have h3 : ∀ d ∈ ds', d ∈ ds := fun d hdd => by
      have := h2 d hdd
      rw [T_get (str_digs h1 d hdd)] at this
      exact List.count_pos_iff.1 (by omega)
    exact ⟨ds', ⟨h1, str_digs h1, nodup_Has (str_nodup h1) fun d hdd => Has_mem hh (h3 d hdd), fun h => by omega⟩, str_nodup h1, h3⟩
  have hk8 := shp_le hs
  have h13 := T_len ds
  have M := fun n (hn : n < 5) => many_rn h13 hn
  rw [hv]
  match k, hs, hc, hup, hcat, hf, hv with
  | 8, hs, hc, hup, hcat, hf, hv =>
    obtain ⟨s1, s2⟩ := strS_str hs
    obtain ⟨s, h1, h2⟩ := hf (Or.inl rfl)
    refine valS_of hl ?_ (by rw [hC]; exact s2)
    rw [hC]; unfold catR
    rw [if_pos ⟨s1, fl_of hy h5 h1 (str_nodup hs) hl h2⟩]; rfl
  | 7, hs, hc, hup, hcat, hf, hv =>
    obtain ⟨a, l, rfl, hl1, hdl, hal⟩ := hs
    have hcn : ∀ x, ([a, a, a, a] ++ l).count x = if x = a then 4 else if x ∈ l then 1 else 0 := fun x => by
      rw [show ([a, a, a, a] ++ l) = List.replicate 4 a ++ l from rfl, cntRep 4 hal, cntNd (dsc_nodup hdl)]
    have r4 := rn_T (L := [a]) (n := 4) hd (by decide) (List.pairwise_singleton _ _) (fun x => by rw [hcn]; split <;> (try split) <;> simp [*])
    have r3 := rn_T (L := []) (n := 3) hd (by decide) .nil (fun x => by rw [hcn]; split <;> (try split) <;> simp [*])
    have r2 := rn_T (L := []) (n := 2) hd (by decide) .nil (fun x => by rw [hcn]; split <;> (try split) <;> simp [*])
    have r1 := rn_T (L := l) (n := 1) hd (by decide) hdl (fun x => by rw [hcn]; split <;> (try split) <;> simp [*])
    have ns := strS_few (C := tally idI 13 ([a, a, a, a] ++ l)) (by rw [r1]; omega)
    refine valS_of hl ?_ ?_
    · rw [hC]; unfold catR
      rw [if_neg (fun h => ns h.1), M 4 (by decide), r4]; rfl
    · rw [hC]; unfold kickR
      rw [if_neg (by omega), ord_rn, r4, r3, r2, r1, flat1]; rfl
  | 6, hs, hc, hup, hcat, hf, hv =>
    obtain ⟨a, b, rfl, hab⟩ := hs
    have hcn : ∀ x, [a, a, a, b, b].count x = if x = a then 3 else if x = b then 2 else 0 := fun x => by
      rw [show [a, a, a, b, b] = List.replicate 3 a ++ (List.replicate 2 b ++ []) from rfl, cntRep 3 (by simpa using fun h => hab h.symm), cntRep 2 List.not_mem_nil]; rfl
    have r4 := rn_T (L := []) (n := 4) hd (by decide) .nil (fun x => by rw [hcn]; split <;> (try split) <;> simp [*])
    have r3 := rn_T (L := [a]) (n := 3) hd (by decide) (List.pairwise_singleton _ _) (fun x => by rw [hcn]; split <;> (try split) <;> simp [*])
    have r2 := rn_T (L := [b]) (n := 2) hd (by decide) (List.pairwise_singleton _ _) (fun x => by
      rw [hcn, List.mem_singleton]
      by_cases e1 : x = a
      · rw [if_pos e1]; exact ⟨fun e => absurd (e.symm.trans e1) hab, fun e => by omega⟩
      · rw [if_neg e1]
        by_cases e2 : x = b
        · rw [if_pos e2]; exact ⟨fun _ => rfl, fun _ => e2⟩
        · rw [if_neg e2]; exact ⟨fun e => absurd e e2, fun e => by omega⟩)
    have r1 := rn_T (L := []) (n := 1) hd (by decide) .nil (fun x => by rw [hcn]; split <;> (try split) <;> simp [*])
    have ns := strS_few (C := tally idI 13 [a, a, a, b, b]) (by rw [r1]; decide)
    refine valS_of hl ?_ ?_
    · rw [hC]; unfold catR
      rw [if_neg (fun h => ns h.1), M 4 (by decide), M 3 (by decide), M 2 (by decide), r4, r3, r2]; rfl
    · rw [hC]; unfold kickR
      rw [if_neg (by omega), ord_rn, r4, r3, r2, r1]; rfl
  | 5, hs, hc, hup, hcat, hf, hv =>
    have hn := dsc_nodup hs.1
    obtain ⟨s, h1, h2⟩ := hf (Or.inr rfl)
    have hcn := cntNd hn
    have r4 := rn_T (L := []) (n := 4) hd (by decide) .nil (fun x => by rw [hcn]; split <;> simp)
    have r3 := rn_T (L := []) (n := 3) hd (by decide) .nil (fun x => by rw [hcn]; split <;> simp)
    have r2 := rn_T (L := []) (n := 2) hd (by decide) .nil (fun x => by rw [hcn]; split <;> simp)
    have r1 := rn_T (L := ds) (n := 1) hd (by decide) hs.1 (fun x => by rw [hcn]; split <;> simp [*])
    have ns : ¬ 0 ≤ strS (tally idI 13 ds) := fun h => by
      obtain ⟨ds', c1, c2, c3⟩ := hstr h
      exact hcat 8 ds' ⟨c1.1, c1.2.1, c1.2.2.1, fun _ => ⟨s, h1, fun d hdd => h2 d (c3 d hdd)⟩⟩ (by decide)
    refine valS_of hl ?_ ?_
    · rw [hC]; unfold catR
      rw [if_neg (fun h => ns h.1), M 4 (by decide), M 3 (by decide), M 2 (by decide), r4, r3, r2, if_neg (by decide), if_neg (by decide), if_pos (fl_of hy h5 h1 hn hl h2)]; rfl
    · rw [hC]; unfold kickR
      rw [if_neg (by omega), ord_rn, r4, r3, r2, r1, flat1]; rfl
  | 4, hs, hc, hup, hcat, hf, hv =>
    obtain ⟨s1, s2⟩ := strS_str hs
    have hn := str_nodup hs
    have nf : ¬ flS y := fun h => hcat 8 ds ⟨hs, hd, hh, fun _ => hflc h⟩ (by decide)
    have hcn := cntNd hn
    have r4 := rn_T (L := []) (n := 4) hd (by decide) .nil (fun x => by rw [hcn]; split <;> simp)
    have r3 := rn_T (L := []) (n := 3) hd (by decide) .nil (fun x => by rw [hcn]; split <;> simp)
    refine valS_of hl ?_ (by rw [hC]; exact s2)
    rw [hC]; unfold catR
    rw [if_neg (fun h => nf h.2), M 4 (by decide), M 3 (by decide), r4, r3, if_neg (by decide), if_neg (fun h => absurd h.1 (by decide)), if_neg nf, if_pos s1]; rfl
  | 3, hs, hc, hup, hcat, hf, hv =>
    obtain ⟨a, l, rfl, hl1, hdl, hal⟩ := hs
    have hcn : ∀ x, ([a, a, a] ++ l).count x = if x = a then 3 else if x ∈ l then 1 else 0 := fun x => by
      rw [show ([a, a, a] ++ l) = List.replicate 3 a ++ l from rfl, cntRep 3 hal, cntNd (dsc_nodup hdl)]
    have nf : ¬ flS y := fun h => by have := List.nodup_iff_count.1 (hfln h) a; rw [hcn, if_pos rfl] at this; omega
    have r4 := rn_T (L := []) (n := 4) hd (by decide) .nil (fun x => by rw [hcn]; split <;> (try split) <;> simp [*])
    have r3 := rn_T (L := [a]) (n := 3) hd (by decide) (List.pairwise_singleton _ _) (fun x => by rw [hcn]; split <;> (try split) <;> simp [*])
    have r2 := rn_T (L := []) (n := 2) hd (by decide) .nil (fun x => by rw [hcn]; split <;> (try split) <;> simp [*])
    have r1 := rn_T (L := l) (n := 1) hd (by decide) hdl (fun x => by rw [hcn]; split <;> (try split) <;> simp [*])
    have ns := strS_few (C := tally idI 13 ([a, a, a] ++ l)) (by rw [r1]; omega)
    refine valS_of hl ?_ ?_
    · rw [hC]; unfold catR
      rw [if_neg (fun h => ns h.1), M 4 (by decide), M 3 (by decide), M 2 (by decide), r4, r3, r2, if_neg (by decide), if_neg (fun h => absurd h.2 (by decide)), if_neg nf, if_neg ns]; rfl
    · rw [hC]; unfold kickR
      rw [if_neg (by omega), ord_rn, r4, r3, r2, r1, flat1]; rfl
  | 2, hs, hc, hup, hcat, hf, hv =>
    obtain ⟨a, b, l, rfl, hl1, hdl, hab, hal, hbl⟩ := hs
    have hcn : ∀ x, ([a, a, b, b] ++ l).count x = if x = a then 2 else if x = b then 2 else if x ∈ l then 1 else 0 := fun x => by
      rw [show ([a, a, b, b] ++ l) = List.replicate 2 a ++ (List.replicate 2 b ++ l) from rfl, cntRep 2 (fun h => by
        rcases List.mem_append.1 h with h | h
        · have := List.eq_of_mem_replicate h; omega
        · exact hal h), cntRep 2 hbl, cntNd (dsc_nodup hdl)]
    have nf : ¬ flS y := fun h => by have := List.nodup_iff_count.1 (hfln h) a; rw [hcn, if_pos rfl] at this; omega
    have r4 := rn_T (L := []) (n := 4) hd (by decide) .nil (fun x => by rw [hcn]; split <;> (try split) <;> (try split) <;> simp [*])
    have r3 := rn_T (L := []) (n := 3) hd (by decide) .nil (fun x => by rw [hcn]; split <;> (try split) <;> (try split) <;> simp [*])
    have r2 := rn_T (L := [a, b]) (n := 2) hd (by decide) (List.pairwise_cons.2 ⟨fun x hx => by rw [List.mem_singleton.1 hx]; exact hab, List.pairwise_singleton _ _⟩) (fun x => by rw [hcn]; split <;> (try split) <;> (try split) <;> simp [*])
    have r1 := rn_T (L := l) (n := 1) hd (by decide) hdl (fun x => by rw [hcn]; split <;> (try split) <;> (try split) <;> simp [*])
    have ns := strS_few (C := tally idI 13 ([a, a, b, b] ++ l)) (by rw [r1]; omega)
    refine valS_of hl ?_ ?_
    · rw [hC]; unfold catR
      rw [if_neg (fun h => ns h.1), M 4 (by decide), M 3 (by decide), M 2 (by decide), r4, r3, r2, if_neg (by decide), if_neg (fun h => absurd h.1 (by decide)), if_neg nf, if_neg ns]; rfl
    · rw [hC]; unfold kickR
      rw [if_neg (by omega), ord_rn, r4, r3, r2, r1, flat1]; rfl
  | 1, hs, hc, hup, hcat, hf, hv =>
    obtain ⟨a, l, rfl, hl1, hdl, hal⟩ := hs
    have hcn : ∀ x, ([a, a] ++ l).count x = if x = a then 2 else if x ∈ l then 1 else 0 := fun x => by
      rw [show ([a, a] ++ l) = List.replicate 2 a ++ l from rfl, cntRep 2 hal, cntNd (dsc_nodup hdl)]
    have nf : ¬ flS y := fun h => by have := List.nodup_iff_count.1 (hfln h) a; rw [hcn, if_pos rfl] at this; omega
    have r4 := rn_T (L := []) (n := 4) hd (by decide) .nil (fun x => by rw [hcn]; split <;> (try split) <;> simp [*])
    have r3 := rn_T (L := []) (n := 3) hd (by decide) .nil (fun x => by rw [hcn]; split <;> (try split) <;> simp [*])
    have r2 := rn_T (L := [a]) (n := 2) hd (by decide) (List.pairwise_singleton _ _) (fun x => by rw [hcn]; split <;> (try split) <;> simp [*])
    have r1 := rn_T (L := l) (n := 1) hd (by decide) hdl (fun x => by rw [hcn]; split <;> (try split) <;> simp [*])
    have ns := strS_few (C := tally idI 13 ([a, a] ++ l)) (by rw [r1]; omega)
    refine valS_of hl ?_ ?_
    · rw [hC]; unfold catR
      rw [if_neg (fun h => ns h.1), M 4 (by decide), M 3 (by decide), M 2 (by decide), r4, r3, r2, if_neg (by decide), if_neg (fun h => absurd h.1 (by decide)), if_neg nf, if_neg ns]; rfl
    · rw [hC]; unfold kickR
      rw [if_neg (by omega), ord_rn, r4, r3, r2, r1, flat1]; rfl
  | 0, hs, hc, hup, hcat, hf, hv =>
    have hn := dsc_nodup hs.1
    have nf : ¬ flS y := fun h => hcat 5 ds ⟨hs, hd, hh, fun _ => hflc h⟩ (by decide)
    have hcn := cntNd hn
    have r4 := rn_T (L := []) (n := 4) hd (by decide) .nil (fun x => by rw [hcn]; split <;> simp)
    have r3 := rn_T (L := []) (n := 3) hd (by decide) .nil (fun x => by rw [hcn]; split <;> simp)
    have r2 := rn_T (L := []) (n := 2) hd (by decide) .nil (fun x => by rw [hcn]; split <;> simp)
    have r1 := rn_T (L := ds) (n := 1) hd (by decide) hs.1 (fun x => by rw [hcn]; split <;> simp [*])
    have ns : ¬ 0 ≤ strS (tally idI 13 ds) := fun h => by
      obtain ⟨ds', c1, c2, c3⟩ := hstr h
      exact hcat 4 ds' c1 (by decide)
    refine valS_of hl ?_ ?_
    · rw [hC]; unfold catR
      rw [if_neg (fun h => ns h.1), M 4 (by decide), M 3 (by decide), M 2 (by decide), r4, r3, r2, if_neg (by decide), if_neg (fun h => absurd h.1 (by decide)), if_neg nf, if_neg ns]; rfl
    · rw [hC]; unfold kickR
      rw [if_neg (by omega), ord_rn, r4, r3, r2, r1, flat1]; rfl
  | k + 9, hs, hc, hup, hcat, hf, hv => exact hs.elim
end Go.Proofs.Yteaahdakammffaa.Hd
/- Plain facts: low values, hands of a player and parts, as the model reckons them. No condition. -/
namespace Go.Proofs.Yteaahdakammffaa.Hd
open Go.Proofs.Yteaahdakammffaa.V Go.Proofs.Yteaahdakammffaa.Iso
set_option linter.unusedVariables false
set_option linter.unusedSimpArgs false
theorem flat_len (n : Nat) : ∀ l : List Int, (l.flatMap (List.replicate n)).length = n * l.length
  | [] => rfl
  | x :: l => by rw [List.flatMap_cons, List.length_append, flat_len n l, List.length_replicate, List.length_cons, Nat.mul_succ, Nat.add_comm]
theorem ord_many (C : List Int) : (ord C 4 0).length = 4 * (rn C 4).length + (3 * (rn C 3).length + (2 * (rn C 2).length + 1 * (rn C 1).length)) := by
  rw [ord_rn, List.length_append, List.length_append, List.length_append, flat_len, flat_len, flat_len, flat_len]
theorem prs_many (C : List Int) : prs C 4 0 = ((rn C 2).length : Nat) := by
  unfold prs rn
  rw [if_neg (by decide), if_neg (by decide), List.length_map, List.countP_eq_length_filter]; rfl
theorem lev_nil (C : List Int) {n : Nat} (h : 1 ≤ n) : lev C n 13 = [] ↔ (rn C n).length = 0 := by
  rw [lev_rn, ← List.length_eq_zero_iff, flat_len, Nat.mul_eq_zero]
  omega
theorem mst_many (C : List Int) : mst C 4 0 = if (rn C 4).length ≠ 0 then 4 else if (rn C 3).length ≠ 0 then 3 else if (rn C 2).length ≠ 0 then 2 else if (rn C 1).length ≠ 0 then 1 else 0 := by
  have h1 := lev_nil C (n := 1) (by decide)
  have h2 := lev_nil C (n := 2) (by decide)
  have h3 := lev_nil C (n := 3) (by decide)
  have h4 := lev_nil C (n := 4) (by decide)
  unfold mst
  rw [if_pos (lev_zero _ _)]
  simp only [mstF, Nat.sub_zero, show 4 - 1 = 3 from rfl, show 4 - 2 = 2 from rfl, show 4 - 3 = 1 from rfl, h1, h2, h3, h4]
  repeat' split
  all_goals omega
/-- The ace-to-five value, both ways. -/
theorem aceS_eq {y : List Int} (h5 : y.length = 5) : aceS y = aceN y := by
  have h13 := tally_len lrk 13 y
  have hl := ord_len5 (f := lrk) (z := y) (fun x _ => lrk_bd x) (s := 4) (j := 0) (by decide) (by decide)
  rw [ord_many] at hl
  unfold aceS aceN patS pat
  rw [prs_many, mst_many, many_rn h13 (show 4 < 5 by decide), many_rn h13 (show 3 < 5 by decide), many_rn h13 (show 2 < 5 by decide)]
  repeat' split
  all_goals omega
/-- All choices are there. -/
theorem chs_all : ∀ {z y : List Int}, y.Sublist z → y ∈ Cm.chs z y.length
  | _, _, .slnil => List.mem_singleton.2 rfl
  | _, y, .cons (l₂ := z) x h => by
    have ih := chs_all h
    cases y with
    | nil => rw [List.length_nil, Cm.chs_zero]; exact List.mem_singleton.2 rfl
    | cons w y => exact List.mem_append.2 (Or.inr ih)
  | _, _, .cons_cons (l₁ := y) (l₂ := z) x h => by
    have ih := chs_all h
    exact List.mem_append.2 (Or.inl (List.mem_map.2 ⟨y, ih, rfl⟩))
/-- All hands of a player. -/
def handsK (z q : List Int) (n : Nat) : List (List Int) := (Cm.chs z n).flatMap fun o => (Cm.chs q (5 - n)).map fun t => o ++ t
def handsV (lea : Int) (z q : List Int) (m : Nat) : List (List Int) := (List.range m).flatMap fun i => handsK z q (lea.toNat + i)
theorem handsV_succ (lea : Int) (z q : List Int) (m : Nat) : handsV lea z q (m + 1) = handsV lea z q m ++ handsK z q (lea.toNat + m) := by
  unfold handsV; rw [List.range_succ, List.flatMap_append]; simp
theorem hands_K (z q : List Int) : handsV 2 z q 1 = hands z q := by
  rw [handsV_succ]
  show [] ++ handsK z q 2 = _
  rw [List.nil_append]
  unfold handsK hands
  rw [chs_eq, chs_eq, List.flatMap_map]
  simp only [List.map_map]
  rfl
theorem handsK_row {z q y : List Int} {n : Nat} (hn : n ≤ 5) (h : y ∈ handsK z q n) : y.length = 5 ∧ y.Sublist (z ++ q) := by
  obtain ⟨o, ho, h⟩ := List.mem_flatMap.1 h
  obtain ⟨t, ht, rfl⟩ := List.mem_map.1 h
  have h1 := Cm.chs_row _ _ _ ho
  have h2 := Cm.chs_row _ _ _ ht
  exact ⟨by rw [List.length_append]; omega, h1.2.append h2.2⟩
theorem handsV_row {z q y : List Int} {lea : Int} {m : Nat} (hm : lea.toNat + m ≤ 6) (h : y ∈ handsV lea z q m) : y.length = 5 ∧ y.Sublist (z ++ q) := by
  obtain ⟨i, hi, h⟩ := List.mem_flatMap.1 h
  have := List.mem_range.1 hi
  exact handsK_row (by omega) h
theorem handsV_all {z q y : List Int} (hz : z.length = 2) (h5 : y.length = 5) (h : y.Sublist (z ++ q)) : y ∈ handsV 0 z q 3 := by
  obtain ⟨a, b, rfl, ha, hb⟩ := List.sublist_append_iff.1 h
  have hl := ha.length_le
  rw [List.length_append] at h5
  refine List.mem_flatMap.2 ⟨a.length, List.mem_range.2 (by omega), List.mem_flatMap.2 ⟨a, ?_, List.mem_map.2 ⟨b, ?_, rfl⟩⟩⟩
  · have := chs_all ha
    rwa [show (0 : Int).toNat + a.length = a.length by omega]
  · have := chs_all hb
    rwa [show 5 - ((0 : Int).toNat + a.length) = b.length by omega]
/-- The best hand, as the model finds it. -/
def bestS (l : List (List Int)) : Int := l.foldl (fun m y => if m < valS y then valS y else m) (-1)
theorem bestS_snoc (l : List (List Int)) (y : List Int) : bestS (l ++ [y]) = if bestS l < valS y then valS y else bestS l := by unfold bestS; rw [List.foldl_append]; rfl
theorem bestS_eq {l : List (List Int)} (h : ∀ y ∈ l, areP y ∧ y.length = 5) : bestS l = best l := by
  have key : ∀ (l : List (List Int)) (m : Int), (∀ y ∈ l, areP y ∧ y.length = 5) → l.foldl (fun m y => if m < valS y then valS y else m) m = l.foldl (fun m y => max m (valN y true)) m := by
    intro l
    induction l with
    | nil => intro m _; rfl
    | cons x l ih =>
      intro m h
      rw [List.foldl_cons, List.foldl_cons]
      have hx := h x (by simp)
      have e : (if m < valS x then valS x else m) = max m (valN x true) := by
        rw [valS_eq hx.1 hx.2]; split <;> omega
      rw [e]
      exact ih _ fun y hy => h y (by simp [hy])
  exact key l (-1) h
theorem best_le : ∀ (l : List (List Int)) (m B : Int), m ≤ B → (∀ y ∈ l, valN y true ≤ B) → l.foldl (fun m y => max m (valN y true)) m ≤ B
  | [], m, B, h, _ => h
  | x :: l, m, B, h, hl => by
    rw [List.foldl_cons]
    have := hl x (by simp)
    exact best_le l _ B (by omega) fun y hy => hl y (by simp [hy])
/-- The law: the best of all choices of five is the value of all. -/
theorem best_all {z q : List Int} (hz : areP (z ++ q)) (h2 : z.length = 2) (h5 : q.length = 5) : best (handsV 0 z q 3) = valN (z ++ q) true := by
  have hl : (z ++ q).length = 7 := by rw [List.length_append]; omega
  apply Int.le_antisymm
  · refine best_le _ _ _ (by have := valN_nonneg (al := true) hz (by omega); omega) fun y hy => ?_
    obtain ⟨h1, h3⟩ := handsV_row (lea := 0) (m := 3) (by decide) hy
    obtain ⟨k, ds, hc, hv⟩ := atN (areP_sub hz h3) (by omega)
    rw [hv]
    exact upN hz (by omega) (by omega) (cand_up h3 hc)
  · obtain ⟨k, ds, hc, hv⟩ := atN hz (by omega)
    obtain ⟨y, h3, h1, hy⟩ := cand_down hz hc
    rw [hv]
    exact Int.le_trans (upN (areP_sub hz h3) (by omega) (by omega) hy) ((best_ge _ _).2 y (handsV_all h2 h1 h3))
/-- How many numbers of hole cards there are. -/
def vMany (v : Int) : Nat := if v = 0 then 3 else 1
theorem hands_P {v : Int} {z q : List Int} (hv : 0 ≤ v ∧ v ≤ 2) (ha : areP (z ++ q)) : ∀ y ∈ handsV (vLeast v) z q (vMany v), areP y ∧ y.length = 5 := fun y hy => by
  obtain ⟨h1, h2⟩ := handsV_row (by unfold vLeast vMany; split <;> decide) hy
  exact ⟨areP_sub ha h2, h1⟩
theorem hi_eq {v : Int} {z q : List Int} (hv : 0 ≤ v ∧ v ≤ 2) (hl : z.length = (vHole v).toNat) (ha : areP (z ++ q)) (h5 : q.length = 5) : bestS (handsV (vLeast v) z q (vMany v)) = hiN (vLeast v) z q := by
  rw [bestS_eq (hands_P hv ha)]
  unfold vLeast vMany hiN
  by_cases e : v = 0
  · subst e
    rw [if_pos rfl, if_pos rfl, if_pos rfl]
    exact best_all ha (by rw [hl]; rfl) h5
  · rw [if_neg e, if_neg e, if_neg (by decide), hands_K]
/-- The least low value, as the model finds it. -/
def lowS (l : List (List Int)) : Int := l.foldl (fun m y => if m < 0 ∨ aceS y < m then aceS y else m) (-1)
theorem lowS_snoc (l : List (List Int)) (y : List Int) : lowS (l ++ [y]) = if lowS l < 0 ∨ aceS y < lowS l then aceS y else lowS l := by unfold lowS; rw [List.foldl_append]; rfl
theorem lowS_eq {l : List (List Int)} (h : ∀ y ∈ l, y.length = 5) : lowS l = lowF l := by
  have key : ∀ (l : List (List Int)) (m : Int), (∀ y ∈ l, y.length = 5) → l.foldl (fun m y => if m < 0 ∨ aceS y < m then aceS y else m) m = l.foldl (fun m y => if m < 0 ∨ aceN y < m then aceN y else m) m := by
    intro l
    induction l with
    | nil => intro m _; rfl
    | cons x l ih =>
      intro m h
      rw [List.foldl_cons, List.foldl_cons, aceS_eq (h x (by simp))]
      exact ih _ fun y hy => h y (by simp [hy])
  exact key l (-1) h
theorem lo_eq {v : Int} {z q : List Int} (hv : 0 ≤ v ∧ v ≤ 2) (h0 : vLow v ≠ 0) (ha : areP (z ++ q)) : lowS (handsV (vLeast v) z q (vMany v)) = lowF (hands z q) := by
  rw [lowS_eq fun y hy => (hands_P hv ha y hy).2]
  have : v ≠ 0 := by intro e; subst e; exact h0 rfl
  unfold vLeast vMany
  rw [if_neg this, if_neg this, hands_K]
theorem aceS_bd {y : List Int} (h5 : y.length = 5) : 0 ≤ aceS y ∧ aceS y ≤ 8168445 := by
  have h13 := tally_len lrk 13 y
  have hpb := patS_bd h13
  have hol := ord_len5 (f := lrk) (z := y) (fun x _ => lrk_bd x) (s := 4) (j := 0) (by decide) (by decide)
  have hvb := V_le (c := 0) (ord_digs (C := tally lrk 13 y) (s := 4) (j := 0) (by decide)) (by decide) (by omega)
  unfold aceS
  omega
theorem valS_bd {y : List Int} (hy : areP y) (h5 : y.length = 5) : 0 ≤ valS y ∧ valS y ≤ 6311980 := by
  have hcb := catS_bd y
  have hvb := V_le (c := 0) (kick_digs y) (by decide) (kick_len (okP hy) (by omega))
  unfold valS
  omega
theorem bestS_bd {l : List (List Int)} (h : ∀ y ∈ l, areP y ∧ y.length = 5) (i : Nat) : -1 ≤ bestS (l.take i) ∧ bestS (l.take i) ≤ 6311980 := by
  have key : ∀ (l : List (List Int)) (m : Int), (∀ y ∈ l, areP y ∧ y.length = 5) → (-1 ≤ m ∧ m ≤ 6311980) → -1 ≤ l.foldl (fun m y => if m < valS y then valS y else m) m ∧ l.foldl (fun m y => if m < valS y then valS y else m) m ≤ 6311980 := by
    intro l
    induction l with
    | nil => intro m _ h; exact h
    | cons x l ih =>
      intro m h hm
      rw [List.foldl_cons]
      have hx := h x (by simp)
      have := valS_bd hx.1 hx.2
      exact ih _ (fun y hy => h y (by simp [hy])) (by split <;> omega)
  exact key _ _ (fun y hy => h y (List.mem_of_mem_take hy)) (by decide)
theorem lowS_bd {l : List (List Int)} (h : ∀ y ∈ l, y.length = 5) (i : Nat) : -1 ≤ lowS (l.take i) ∧ lowS (l.take i) ≤ 8168445 := by
  have key : ∀ (l : List (List Int)) (m : Int), (∀ y ∈ l, y.length = 5) → (-1 ≤ m ∧ m ≤ 8168445) → -1 ≤ l.foldl (fun m y => if m < 0 ∨ aceS y < m then aceS y else m) m ∧ l.foldl (fun m y => if m < 0 ∨ aceS y < m then aceS y else m) m ≤ 8168445 := by
    intro l
    induction l with
    | nil => intro m _ h; exact h
    | cons x l ih =>
      intro m h hm
      rw [List.foldl_cons]
      have := aceS_bd (h x (by simp))
      exact ih _ (fun y hy => h y (by simp [hy])) (by split <;> omega)
  exact key _ _ (fun y hy => h y (List.mem_of_mem_take hy)) (by decide)
/-- Shares, put down one by one. -/
def put (n : Nat) (w : Int) (l : List Int) : List Int := (List.range n).map fun k : Nat => if l.contains (k : Int) = true then w else 0
theorem put_len (n : Nat) (w : Int) (l : List Int) : (put n w l).length = n := by simp [put]
theorem put_get {n : Nat} {w : Int} {l : List Int} {k : Nat} (h : k < n) : (put n w l).getD k 0 = if l.contains (k : Int) = true then w else 0 := by
  unfold put; rw [Cm.gM (d := 0) (by simpa using h), range_getD h]
theorem put_nil (n : Nat) (w : Int) : put n w [] = List.replicate n 0 := ext_getD (by rw [put_len, List.length_replicate]) fun k hk => by
  rw [put_len] at hk
  rw [put_get hk, zero_bd]; rfl
theorem cont_snoc (l : List Int) (x y : Int) : (l ++ [x]).contains y = true ↔ (l.contains y = true ∨ y = x) := by
  rw [List.contains_iff_mem, List.contains_iff_mem, List.mem_append, List.mem_singleton]
theorem put_snoc {n : Nat} {w x : Int} {l : List Int} (h : 0 ≤ x ∧ x < n) : (put n w l).set x.toNat w = put n w (l ++ [x]) := ext_getD (by rw [List.length_set, put_len, put_len]) fun k hk => by
  rw [List.length_set, put_len] at hk
  rw [getD_set (by rw [put_len]; omega), put_get hk, put_get hk]
  by_cases e : k = x.toNat
  · rw [if_pos e, if_pos ((cont_snoc _ _ _).2 (Or.inr (by omega)))]
  · rw [if_neg e]
    by_cases h1 : l.contains (k : Int) = true
    · rw [if_pos h1, if_pos ((cont_snoc _ _ _).2 (Or.inl h1))]
    · rw [if_neg h1, if_neg fun h2 => by rcases (cont_snoc _ _ _).1 h2 with h3 | h3; exact h1 h3; omega]
theorem put_take {n : Nat} {w : Int} {l : List Int} {i : Nat} (hi : i < l.length) (h : 0 ≤ l.getD i 0 ∧ l.getD i 0 < n) : (put n w (l.take i)).set (l.getD i 0).toNat w = put n w (l.take (i + 1)) := by
  rw [take_snoc hi]; exact put_snoc h
def putA (b : List Int) (w : Int) (l : List Int) : List Int := (List.range b.length).map fun k : Nat => b.getD k 0 + if l.contains (k : Int) = true then w else 0
theorem putA_len (b : List Int) (w : Int) (l : List Int) : (putA b w l).length = b.length := by simp [putA]
theorem putA_get {b : List Int} {w : Int} {l : List Int} {k : Nat} (h : k < b.length) : (putA b w l).getD k 0 = b.getD k 0 + if l.contains (k : Int) = true then w else 0 := by
  unfold putA; rw [Cm.gM (d := 0) (by simpa using h), range_getD h]
theorem putA_nil (b : List Int) (w : Int) : putA b w [] = b := ext_getD (putA_len _ _ _) fun k hk => by
  rw [putA_len] at hk
  rw [putA_get hk]; exact Int.add_zero _
theorem putA_take {b : List Int} {w : Int} {l : List Int} {i : Nat} (hi : i < l.length) (hn : l.Nodup) (h : 0 ≤ l.getD i 0 ∧ l.getD i 0 < b.length) : (putA b w (l.take i)).set (l.getD i 0).toNat ((putA b w (l.take i)).getD (l.getD i 0).toNat 0 + w) = putA b w (l.take (i + 1)) := by
  rw [take_snoc hi]
  have hni : l.getD i 0 ∉ l.take i := by
    intro hm
    have h1 : (l.take i ++ [l.getD i 0]).Nodup := by rw [← take_snoc hi]; exact hn.sublist (List.take_sublist _ _)
    exact (List.nodup_append.1 h1).2.2 _ hm _ (by simp) rfl
  generalize l.getD i 0 = x at *
  generalize l.take i = l' at *
  refine ext_getD (by rw [List.length_set, putA_len, putA_len]) fun k hk => ?_
  rw [List.length_set, putA_len] at hk
  rw [getD_set (by rw [putA_len]; omega), putA_get hk, putA_get hk]
  by_cases e : k = x.toNat
  · subst e
    have hx : ((x.toNat : Nat) : Int) = x := by omega
    rw [if_pos rfl, putA_get hk, hx, if_neg (by rw [List.contains_iff_mem]; exact hni), if_pos ((cont_snoc _ _ _).2 (Or.inr rfl))]; omega
  · rw [if_neg e]
    by_cases h1 : l'.contains (k : Int) = true
    · rw [if_pos h1, if_pos ((cont_snoc _ _ _).2 (Or.inl h1))]
    · rw [if_neg h1, if_neg fun h2 => by rcases (cont_snoc _ _ _).1 h2 with h3 | h3; exact h1 h3; omega]
theorem bst_sublist (hi : Bool) (vs : List Int) (ws : List Int) : (bst hi ws vs).1.Sublist ws := by
  have key : ∀ (ws pre : List Int) (q : List Int × Int), q.1.Sublist pre → (ws.foldl (bstep hi vs) q).1.Sublist (pre ++ ws) := by
    intro ws
    induction ws with
    | nil => intro pre q h; rw [List.append_nil]; exact h
    | cons w ws ih =>
      intro pre q h
      have := ih (pre ++ [w]) (bstep hi vs q w) (by
        unfold bstep
        split
        · exact h.trans (List.sublist_append_left _ _)
        · split
          · exact List.sublist_append_right _ _
          · split
            · exact h.append (List.Sublist.refl _)
            · exact h.trans (List.sublist_append_left _ _))
      rw [List.foldl_cons]
      simpa using this
  simpa [bst] using key ws [] ([], -1) (List.nil_sublist _)
theorem nums_nodup (n : Nat) : (nums n).Nodup := by
  unfold nums List.Nodup
  rw [List.pairwise_map]
  refine List.Pairwise.imp ?_ List.pairwise_lt_range
  intro a b h
  omega
/-- What each gets, put down as the model does. -/
theorem awd_put {hs ls : List Int} {n : Nat} {w : Int} (hw : w = if (bst false (nums n) ls).1.length = 0 then 24 else 12) :
    putA (put n (w / ((bst true (nums n) hs).1.length : Nat)) (bst true (nums n) hs).1) (w / ((bst false (nums n) ls).1.length : Nat)) (bst false (nums n) ls).1 = awd 24 (nums n) hs ls n := by
  subst hw
  refine ext_getD (by rw [putA_len, put_len, awd_len]) fun k hk => ?_
  rw [putA_len, put_len] at hk
  rw [putA_get (by rw [put_len]; exact hk), put_get hk]
  unfold awd
  by_cases e : (bst false (nums n) ls).1 = []
  · rw [e, if_pos rfl, if_pos (show ([] : List Int).length = 0 from rfl), addL_get (by rw [List.length_replicate]; exact hk), zero_bd, split_get hk]
    rw [show ([] : List Int).contains (k : Int) = false from rfl]
    simp
  · have e2 : ¬ (bst false (nums n) ls).1.length = 0 := fun h => e (List.length_eq_zero_iff.1 h)
    rw [if_neg e, if_neg e2, addL_get (by rw [addL_len, List.length_replicate]; exact hk), addL_get (by rw [List.length_replicate]; exact hk), zero_bd, split_get hk, split_get hk]
    rw [show (24 : Int) / 2 = 12 from rfl, show (24 : Int) - 12 = 12 from rfl]
    omega
theorem chs25 {z : List Int} {k : Nat} (hz : z.length ≤ 4) (hk : k ≤ 2) : (Cm.chs z k).length ≤ 25 := by
  have h1 := Cm.chs_len z k
  have h2 : (z.length + 1) ^ k ≤ 5 ^ k := Nat.pow_le_pow_left (by omega) k
  have h3 : 5 ^ k ≤ 5 ^ 2 := Nat.pow_le_pow_right (by decide) hk
  omega
theorem chs7776 {z : List Int} {k : Nat} (hz : z.length ≤ 5) (hk : k ≤ 5) : (Cm.chs z k).length ≤ 7776 := by
  have h1 := Cm.chs_len z k
  have h2 : (z.length + 1) ^ k ≤ 6 ^ k := Nat.pow_le_pow_left (by omega) k
  have h3 : 6 ^ k ≤ 6 ^ 5 := Nat.pow_le_pow_right (by decide) hk
  omega
theorem handsV_step {lea : Int} {z q : List Int} {i : Nat} (h0 : 0 ≤ lea) (h5 : lea + (i : Int) ≤ 5) : handsV lea z q i ++ (Cm.chs z (lea + (i : Int)).toNat).flatMap (fun a => (Cm.chs q (5 - (lea + (i : Int))).toNat).map fun t => a ++ t) = handsV lea z q (i + 1) := by
  rw [handsV_succ]
  unfold handsK
  rw [show (lea + (i : Int)).toNat = lea.toNat + i by omega, show (5 - (lea + (i : Int))).toNat = 5 - (lea.toNat + i) by omega]
theorem vMany_eq (v : Int) : (3 - vLeast v).toNat = vMany v := by unfold vLeast vMany; split <;> rfl
theorem bestS_take {l : List (List Int)} {i : Nat} (h : i < l.length) : bestS (l.take (i + 1)) = if bestS (l.take i) < valS (l.getD i []) then valS (l.getD i []) else bestS (l.take i) := by
  rw [List.take_succ_eq_append_getElem h, bestS_snoc, List.getD_eq_getElem?_getD, List.getElem?_eq_getElem h]; rfl
theorem lowS_take {l : List (List Int)} {i : Nat} (h : i < l.length) : lowS (l.take (i + 1)) = if lowS (l.take i) < 0 ∨ aceS (l.getD i []) < lowS (l.take i) then aceS (l.getD i []) else lowS (l.take i) := by
  rw [List.take_succ_eq_append_getElem h, lowS_snoc, List.getD_eq_getElem?_getD, List.getElem?_eq_getElem h]; rfl
theorem put_bd {n : Nat} {w : Int} {l : List Int} (k : Nat) (h : 0 ≤ w ∧ w ≤ 24) : 0 ≤ (put n w l).getD k 0 ∧ (put n w l).getD k 0 ≤ 24 := by
  rcases Nat.lt_or_ge k n with h1 | h1
  · rw [put_get h1]; split <;> omega
  · rw [List.getD_eq_getElem?_getD, List.getElem?_eq_none (by rw [put_len]; exact h1)]; decide
theorem putA_bd {b : List Int} {w : Int} {l : List Int} (k : Nat) (hb : ∀ k, 0 ≤ b.getD k 0 ∧ b.getD k 0 ≤ 24) (h : 0 ≤ w ∧ w ≤ 24) : 0 ≤ (putA b w l).getD k 0 ∧ (putA b w l).getD k 0 ≤ 48 := by
  have := hb k
  rcases Nat.lt_or_ge k b.length with h1 | h1
  · rw [putA_get h1]; split <;> omega
  · rw [List.getD_eq_getElem?_getD, List.getElem?_eq_none (by rw [putA_len]; exact h1)]; decide
theorem bst_bd {hi : Bool} {vs : List Int} {n : Nat} : ∀ x ∈ (bst hi (nums n) vs).1, 0 ≤ x ∧ x < (n : Int) := fun x hx => nums_bd (bst_sub hi vs _ x hx)
theorem bst_nodup {hi : Bool} {vs : List Int} {n : Nat} : (bst hi (nums n) vs).1.Nodup := (nums_nodup n).sublist (bst_sublist hi vs _)
theorem chs1 : ∀ z : List Int, Cm.chs z 1 = z.map fun x => [x]
  | [] => rfl
  | x :: z => by
    show (Cm.chs z 0).map (fun c => x :: c) ++ Cm.chs z 1 = _
    rw [Cm.chs_zero, chs1 z]; rfl
theorem boards4_eq {z : List (List Int)} {q d : List Int} (h : q.length = 4) : boards z q d = (restL z q d).map fun x => q ++ [x] := by
  rw [boards_chs, h]
  show (Cm.chs (restL z q d) 1).map _ = _
  rw [chs1, List.map_map]; rfl
theorem boards4_len {z : List (List Int)} {q d : List Int} (h : q.length = 4) : (boards z q d).length = (restL z q d).length := by rw [boards4_eq h, List.length_map]
theorem boards4 {z : List (List Int)} {q d : List Int} {i : Nat} (h : q.length = 4) (hi : i < (restL z q d).length) : (boards z q d).getD i [] = q ++ [(restL z q d).getD i 0] := by
  rw [boards4_eq h]
  exact Cm.gM (d := 0) hi
theorem last4 {q : List Int} {x : Int} (h : q.length = 4) : (q ++ [x]).getD 4 0 = x := by
  rw [Cm.gA2 (by omega), h]; rfl
theorem others_ge (z : List Int) : 52 ≤ (others z 52).length + z.length := by
  have h := sub_len (a := (List.range 52).map fun k : Nat => (k : Int)) (b := others z 52 ++ z) (by
    unfold List.Nodup
    rw [List.pairwise_map]
    refine List.Pairwise.imp ?_ List.pairwise_lt_range
    intro a b h
    omega) (fun x hx => by
    obtain ⟨k, hk, rfl⟩ := List.mem_map.1 hx
    have := List.mem_range.1 hk
    by_cases e : (k : Int) ∈ z
    · exact List.mem_append.2 (Or.inr e)
    · exact List.mem_append.2 (Or.inl (others_mem.2 ⟨by omega, e⟩)))
  rw [List.length_map, List.length_range, List.length_append] at h
  exact h
theorem flat_four {z : List (List Int)} (h : ∀ i, i < z.length → (z.getD i []).length ≤ 4) : z.flatten.length ≤ 4 * z.length := by
  have key : ∀ i, i ≤ z.length → (z.take i).flatten.length ≤ 4 * i := by
    intro i
    induction i with
    | zero => intro _; simp
    | succ i ih =>
      intro hi
      rw [flat_snoc (by omega), List.length_append]
      have := ih (by omega)
      have := h i (by omega)
      omega
  have := key z.length (Nat.le_refl _)
  rwa [List.take_of_length_le (Nat.le_refl _)] at this
theorem rows_drop {z : List (List Int)} {H : Nat → Option Addr × Nat} {B : Nat} (h : ∀ i, i < z.length → (z.getD i []).length ≤ B ∧ (z.getD i []).length ≤ (H i).2) : ∀ i, i < (z.drop 1).length → ((z.drop 1).getD i []).length ≤ B ∧ ((z.drop 1).getD i []).length ≤ (H (i + 1)).2 := fun i hi => by
  rw [List.length_drop] at hi
  have := h (i + 1) (by omega)
  rw [List.getD_eq_getElem?_getD, List.getElem?_drop, Nat.add_comm 1 i, ← List.getD_eq_getElem?_getD]
  exact this
theorem rows_snoc {z : List (List Int)} {x : List Int} (h : ∀ j, j < z.length → (z.getD j []).length ≤ 4 ∧ 2 ≤ (z.getD j []).length) (hx : x.length ≤ 4 ∧ 2 ≤ x.length) : ∀ j, j < (z ++ [x]).length → ((z ++ [x]).getD j []).length ≤ 4 ∧ 2 ≤ ((z ++ [x]).getD j []).length := fun j hj => by
  rw [List.length_append] at hj
  simp only [List.length_cons, List.length_nil] at hj
  by_cases e : j < z.length
  · rw [Cm.gA1 e]; exact h j e
  · rw [Cm.gA2 (by omega), show j - z.length = 0 by omega]; exact hx
theorem others_eq {z : List Int} (h : areP z) : (others z 52).length + z.length = 52 := by
  have h1 := others_ge z
  have h2 := sub_len (a := others z 52 ++ z) (b := (List.range 52).map fun k : Nat => (k : Int)) (by
    rw [List.nodup_append]
    refine ⟨others_nodup z, h.2, fun x hx y hy e => ?_⟩
    subst e
    exact (others_mem.1 hx).2 hy) (fun x hx => by
    have hb : 0 ≤ x ∧ x ≤ 51 := by
      rcases List.mem_append.1 hx with hx | hx
      · exact (others_mem.1 hx).1
      · exact h.1 x hx
    exact List.mem_map.2 ⟨x.toNat, List.mem_range.2 (by omega), by omega⟩)
  rw [List.length_map, List.length_range, List.length_append] at h2
  omega
theorem deal_all {v : Int} {z : List (List Int)} {q d : List Int} (h : isDeal v z q d = true) : areB ((q ++ d) ++ z.flatten) = true := by
  have := (isDeal_P h).2.2
  exact decide_eq_true this
theorem deal_next {v : Int} {z : List (List Int)} {q d : List Int} {c : Int} (h : isDeal v z q d = true) (h4 : q.length = 4) (hc : c ∈ restL z q d) : isDeal v z (q ++ [c]) [] = true := by
  obtain ⟨⟨hv, hz, hq⟩, hl, ha⟩ := isDeal_P h
  have hc' := others_mem.1 hc
  rw [← isDeal_end2 ⟨hv, hz, by rw [List.length_append]; simp; omega⟩ hl]
  unfold allC at ha hc'
  refine decide_eq_true ⟨fun x hx => ?_, ?_⟩
  · simp only [List.mem_append, List.not_mem_nil, or_false, List.mem_singleton] at hx
    rcases hx with (hx | hx) | hx
    · exact ha.1 x (by simp only [List.mem_append]; exact Or.inl (Or.inl hx))
    · subst hx; exact hc'.1
    · exact ha.1 x (by simp only [List.mem_append]; exact Or.inr hx)
  · rw [List.append_nil, List.append_assoc, List.singleton_append, List.perm_middle.nodup_iff, List.nodup_cons]
    refine ⟨fun hm => hc'.2 ?_, ha.2.sublist ((List.sublist_append_left q d).append (List.Sublist.refl _))⟩
    simp only [List.mem_append] at hm ⊢
    rcases hm with hm | hm
    · exact Or.inl (Or.inl hm)
    · exact Or.inr hm
theorem outs4 {v p : Int} {z : List (List Int)} {q d : List Int} (h4 : q.length = 4) : outs v p z (boards z q d) = (restL z q d).filter fun x => decide ((parts v z (q ++ [x])).getD p.toNat 0 = 24) := by
  unfold outs
  rw [boards4_eq h4, List.filter_map, List.map_map]
  have e : ((fun b : List Int => b.getD 4 0) ∘ fun x : Int => q ++ [x]) = id := by
    funext x
    exact last4 h4
  rw [e, List.map_id]
  rfl
theorem outs_has {v p : Int} {z : List (List Int)} {q d : List Int} {c : Int} (h4 : q.length = 4) (hc : c ∈ restL z q d) : (outs v p z (boards z q d)).contains c = decide ((parts v z (q ++ [c])).getD p.toNat 0 = 24) := by
  rw [outs4 h4, Bool.eq_iff_iff, List.contains_iff_mem, List.mem_filter]
  exact ⟨fun h => h.2, fun h => ⟨hc, h⟩⟩
theorem wholes_outs (v p : Int) (z bs : List (List Int)) : wholes v p z bs = ((outs v p z bs).length : Nat) := by
  unfold wholes outs
  rw [List.length_map, List.countP_eq_length_filter]
/-- What a law on outs knows. -/
theorem ou_ok {v : Int} {z : List (List Int)} {q d : List Int} {p : Int} (h : ouC v z q d p = 0) : isDeal v z q d = true ∧ (0 ≤ p ∧ p < z.length) ∧ q.length = 4 ∧ ouY v z q d p = outs v p z (boards z q d) ∧ wiC v z q d p = 0 ∧ wiA v z q d p = ((ouY v z q d p).length : Nat) := by
  have hy : ouY v z q d p = outs v p z (boards z q d) := by unfold ouY; rw [if_pos h]
  have hd : isDeal v z q d = true := by
    cases e : isDeal v z q d with
    | true => rfl
    | false => unfold ouC at h; rw [if_pos e] at h; omega
  unfold ouC at h
  rw [hd, if_neg (by decide)] at h
  have h3 : (0 ≤ p ∧ p ≤ (z.length : Int) - 1) ∧ q.length = 4 := by
    by_cases e : (0 ≤ p ∧ p ≤ (z.length : Int) - 1) ∧ q.length = 4
    · exact e
    · rw [if_pos e] at h; omega
  have hw : wiC v z q d p = 0 := by
    unfold wiC
    rw [hd, if_neg (by decide), if_neg (fun hn => hn h3.1)]
  refine ⟨hd, ⟨h3.1.1, by omega⟩, h3.2, hy, hw, ?_⟩
  unfold wiA
  rw [if_pos hw, wholes_outs, hy]
theorem ou_next {v : Int} {z : List (List Int)} {q d : List Int} {p c : Int} (h : ouC v z q d p = 0) (hc : c ∈ restL z q d) : paC v z (q ++ [c]) = 0 ∧ (paY v z (q ++ [c])).length = z.length ∧ (ouY v z q d p).contains c = decide ((paY v z (q ++ [c])).getD p.toNat 0 = 24) := by
  obtain ⟨h1, h2, h3, h4, -, -⟩ := ou_ok h
  have hn := deal_next h1 h3 hc
  have hp : paC v z (q ++ [c]) = 0 := by
    unfold paC
    rw [hn, if_neg (by decide), if_neg (by rw [List.length_append]; simp; omega)]
  have hy : paY v z (q ++ [c]) = parts v z (q ++ [c]) := by unfold paY; rw [if_pos hp]
  exact ⟨hp, by rw [hy, parts_len], by rw [hy, h4]; exact outs_has h3 hc⟩
end Go.Proofs.Yteaahdakammffaa.Hd
/- Contracts of exchanges of suits. Their conditions stand in each. -/
namespace Go.Proofs.Yteaahdakammffaa
open Go Go.RowKit V
set_option linter.unusedVariables false
set_option linter.unusedSimpArgs false
set_option maxRecDepth 100000
end Go.Proofs.Yteaahdakammffaa
