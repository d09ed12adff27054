/- Plain facts on values of games. No condition. -/
import Derived.Test.YtjengglpbdgmnaaZ11Nu
import Derived.Test.YtjengglpbdgmnaaZ2Nu
import Derived.RowKit
import Derived.Test.YtjengglpbdgmnaaZ10Nu
import Derived.Test.YtjengglpbdgmnaaZ3Nu
import Derived.Test.YtjengglpbdgmnaaZ4Nu
import Derived.Test.YtjengglpbdgmnaaRows
namespace Go.Proofs.Ytjengglpbdgmnaa.Math
open Go.Proofs.Ytjengglpbdgmnaa.V
set_option linter.unusedVariables false
set_option linter.unusedSimpArgs false
theorem mapR_suc (f : Nat → Int) (k : Nat) : (mapR f (k + 1)).sum = (mapR f k).sum + f k := by
  rw [← mapR_snoc, List.sum_append]; simp
/-- How many nodes of a player stand ahead of a node. -/
def rank (z : List Nd) (p : Int) (i : Nat) : Nat := (nodesTo z p i).length
theorem nodesTo_app (z : List Nd) (p : Int) (k : Nat) : ∀ d, ∃ r, nodesTo z p (k + d) = nodesTo z p k ++ r
  | 0 => ⟨[], by simp⟩
  | d + 1 => by
    obtain ⟨r, hr⟩ := nodesTo_app z p k d
    by_cases h : (z.getD (k + d) dN).pl = p
    · exact ⟨r ++ [((k + d : Nat) : Int)], by rw [← Nat.add_assoc, nodesTo_yes h, hr, List.append_assoc]⟩
    · exact ⟨r, by rw [← Nat.add_assoc, nodesTo_no h, hr]⟩
theorem rank_node {z : List Nd} {p : Int} {i : Nat} (hi : i < z.length) (h : (z.getD i dN).pl = p) : rank z p i < (nodesOf z p).length ∧ (nodesOf z p).getD (rank z p i) 0 = (i : Int) := by
  obtain ⟨r, hr⟩ := nodesTo_app z p (i + 1) (z.length - (i + 1))
  rw [show i + 1 + (z.length - (i + 1)) = z.length from by omega, nodesTo_all rfl rfl, nodesTo_yes h] at hr
  rw [hr]; unfold rank
  refine ⟨by simp, ?_⟩
  simp [List.getD]
theorem nodes_lt (z : List Nd) (p : Int) {i j : Nat} (hij : i < j) (hj : j < (nodesOf z p).length) : (nodesOf z p).getD i 0 < (nodesOf z p).getD j 0 := by
  have hp : (nodesOf z p).Pairwise (· < ·) := by
    unfold nodesOf
    refine List.Pairwise.map _ (fun a b h => ?_) (List.Pairwise.filter _ List.pairwise_lt_range)
    exact Int.ofNat_lt.2 h
  have := List.pairwise_iff_getElem.1 hp i j (by omega) hj hij
  simpa [List.getD, List.getElem?_eq_getElem hj, List.getElem?_eq_getElem (show i < (nodesOf z p).length by omega)] using this
theorem nodes_inj (z : List Nd) (p : Int) {i j : Nat} (hi : i < (nodesOf z p).length) (hj : j < (nodesOf z p).length) (h : (nodesOf z p).getD i 0 = (nodesOf z p).getD j 0) : i = j := by
  rcases Nat.lt_trichotomy i j with hlt | he | hlt
  · have := nodes_lt z p hlt hj; omega
  · exact he
  · have := nodes_lt z p hlt hi; omega
theorem rank_is {z : List Nd} {p v : Int} {i : Nat} (hi : i < (nodesOf z p).length) (h : (nodesOf z p).getD i 0 = v) : rank z p v.toNat = i := by
  have hm := nodesOf_mem (getD_mem 0 hi)
  rw [h] at hm
  have hr := rank_node (z := z) (i := v.toNat) (by omega) hm.2
  exact nodes_inj z p hr.1 hi (by rw [hr.2, h]; omega)
/-- The first set of each node of a player. -/
def firstTo (z : List Nd) (k : Nat) (p : Int) : Nat → List Int
  | 0 => List.replicate z.length 0
  | i + 1 => (firstTo z k p i).set ((nodesOf z p).getD i 0).toNat ((i : Int) * (k : Int))
def firstOf (z : List Nd) (k : Nat) (p : Int) : List Int := firstTo z k p (nodesOf z p).length
theorem firstTo_len (z : List Nd) (k : Nat) (p : Int) : ∀ i, (firstTo z k p i).length = z.length
  | 0 => by unfold firstTo; rw [List.length_replicate]
  | i + 1 => by unfold firstTo; rw [List.length_set]; exact firstTo_len z k p i
theorem firstTo_at (z : List Nd) (k : Nat) (p : Int) : ∀ n i, n ≤ (nodesOf z p).length → i < n → (firstTo z k p n).getD ((nodesOf z p).getD i 0).toNat 0 = (i : Int) * (k : Int)
  | 0, i, _, h => absurd h (Nat.not_lt_zero _)
  | n + 1, i, hn, h => by
    have hm := (nodesOf_mem (getD_mem 0 (show i < (nodesOf z p).length by omega))).1
    have hm2 := (nodesOf_mem (getD_mem 0 (show n < (nodesOf z p).length by omega))).1
    unfold firstTo
    rw [getD_set (by rw [firstTo_len]; omega)]
    by_cases he : i = n
    · subst he; rw [if_pos rfl]
    · have hlt := nodes_lt z p (show i < n by omega) (by omega)
      rw [if_neg (by omega)]
      exact firstTo_at z k p n i (by omega) (by omega)
theorem firstOf_len (z : List Nd) (k : Nat) (p : Int) : (firstOf z k p).length = z.length := firstTo_len z k p _
theorem firstOf_at {z : List Nd} {k : Nat} {p : Int} {v : Nat} (hv : v < z.length) (h : (z.getD v dN).pl = p) : (firstOf z k p).getD v 0 = (rank z p v : Int) * (k : Int) := by
  have hr := rank_node hv h
  have := firstTo_at z k p _ _ (Nat.le_refl _) hr.1
  rw [hr.2, Int.toNat_natCast] at this
  exact this
/-- The parent of each node. -/
def putAll (P : List Int) (v : Int) (cs : List Int) : List Int := cs.foldl (fun P c => P.set c.toNat v) P
theorem putAll_step {P : List Int} {v : Int} {cs : List Int} {j : Nat} (h : j < cs.length) : (putAll P v (cs.take j)).set (cs.getD j 0).toNat v = putAll P v (cs.take (j + 1)) := by
  rw [take_step 0 h]; unfold putAll; rw [List.foldl_append]; rfl
def parTo (z : List Nd) : Nat → List Int
  | 0 => List.replicate z.length 0
  | i + 1 => putAll (parTo z i) (i : Int) (z.getD i dN).ch
def parOf (z : List Nd) : List Int := parTo z z.length
/-- The parts at a decision. -/
def choice (z : List Nd) (k : Nat) (ps qs : List (List Int)) (v a b : Int) : List Int :=
  if (z.getD v.toNat dN).pl = 0 then ps.getD (rank z 0 v.toNat * k + a.toNat) [] else qs.getD (rank z 1 v.toNat * k + b.toNat) []
theorem setsOf_cell (k : Nat) {a : Nat} (ha : a < k) : ∀ (xs : List Int) (r : Nat), r < xs.length → r * k + a < (setsOf xs k).length ∧ (setsOf xs k).getD (r * k + a) [] = [xs.getD r 0, (a : Int)]
  | [], r, h => absurd h (Nat.not_lt_zero _)
  | x :: xs, r, h => by
    have hs : setsOf (x :: xs) k = ((List.range k).map fun (c : Nat) => [x, (c : Int)]) ++ setsOf xs k := rfl
    have hl : ((List.range k).map fun (c : Nat) => [x, (c : Int)]).length = k := by simp
    cases r with
    | zero =>
      rw [hs, Nat.zero_mul, Nat.zero_add]
      refine ⟨by rw [List.length_append, hl]; omega, ?_⟩
      simp [List.getD, List.getElem?_append_left, ha]
    | succ r =>
      have ih := setsOf_cell k ha xs r (by simp at h; omega)
      rw [hs, show (r + 1) * k + a = k + (r * k + a) from by rw [Nat.succ_mul]; omega]
      refine ⟨by rw [List.length_append, hl]; omega, ?_⟩
      have : (((List.range k).map fun (c : Nat) => [x, (c : Int)]) ++ setsOf xs k).getD (k + (r * k + a)) [] = (setsOf xs k).getD (r * k + a) [] := by
        simp only [List.getD]
        rw [List.getElem?_append_right (by rw [hl]; omega), hl, show k + (r * k + a) - k = r * k + a from by omega]
      rw [this, ih.2]; rfl
theorem choice_at {z : List Nd} {k : Nat} {p : Int} {ps : List (List Int)} (hps : partsB z (sets z k p) ps = true) {v a : Nat} (hv : v < z.length) (hpl : (z.getD v dN).pl = p) (ha : a < k) :
    rank z p v * k + a < ps.length ∧ partB z [(v : Int), (a : Int)] (ps.getD (rank z p v * k + a) []) = true := by
  have hr := rank_node hv hpl
  have hc := setsOf_cell k ha (nodesOf z p) _ hr.1
  have hp := parts_at hps hc.1
  have hl := parts_len hps
  unfold sets at hp hl
  rw [hc.2, hr.2] at hp
  exact ⟨by omega, hp⟩
/-- Both strategies. -/
structure Pair (z : List Nd) (ws vs ps qs : List (List Int)) : Prop where
  g : isGame z ws vs = true
  p : partsB z (sets z ws.length 0) ps = true
  q : partsB z (sets z ws.length 1) qs = true
def isPair (z : List Nd) (ws vs : List (List Int)) (pl : Int) (ps : List (List Int)) (ql : Int) (qs : List (List Int)) : Bool := isGame z ws vs && (decide (pl = 0) && (decide (ql = 1) && (partsB z (sets z ws.length 0) ps && partsB z (sets z ws.length 1) qs)))
theorem isPair_ok {z : List Nd} {ws vs ps qs : List (List Int)} {pl ql : Int} (h : isPair z ws vs pl ps ql qs = true) : pl = 0 ∧ ql = 1 ∧ Pair z ws vs ps qs := by
  simp only [isPair, Bool.and_eq_true, decide_eq_true_eq] at h
  exact ⟨h.2.1, h.2.2.1, h.1, h.2.2.2.1, h.2.2.2.2⟩
section
variable {z : List Nd} {ws vs ps qs : List (List Int)} {k : Nat}
theorem choice_ok (h : Pair z ws vs ps qs) (hk : ws.length = k) {v a b : Int} (hv : 0 ≤ v ∧ v < z.length) (hpl : (z.getD v.toNat dN).pl ≠ 2) (ha : 0 ≤ a ∧ a < k) (hb : 0 ≤ b ∧ b < k) :
    (choice z k ps qs v a b).length = (z.getD v.toNat dN).ch.length ∧ (∀ x ∈ choice z k ps qs v a b, 0 ≤ x ∧ x ≤ 60) ∧ (choice z k ps qs v a b).sum = 60 := by
  have hw : ∀ (u : Int) (x : Int), 0 ≤ u → wide z [u, x] = (z.getD u.toNat dN).ch.length := fun u x _ => rfl
  have ho := ok_pl (allOk_iff.1 (isTree_ok (isGame_ok h.g).1).2.1 v.toNat (by omega))
  subst hk
  unfold choice
  split
  · rename_i h0
    have := choice_at h.p (v := v.toNat) (a := a.toNat) (by omega) h0 (by omega)
    obtain ⟨h1, h2⟩ := part_row this.2
    refine ⟨by rw [row_len h1]; exact hw _ _ (by omega), row_in h1, h2⟩
  · rename_i h0
    have := choice_at h.q (v := v.toNat) (a := b.toNat) (by omega) (show (z.getD v.toNat dN).pl = 1 by omega) (by omega)
    obtain ⟨h1, h2⟩ := part_row this.2
    refine ⟨by rw [row_len h1]; exact hw _ _ (by omega), row_in h1, h2⟩
/-- The value of a node. -/
def valF (z : List Nd) (vs : List (List Int)) (k : Nat) (ps qs : List (List Int)) (a b : Int) : Nat → Int → Int → Int
  | 0, _, _ => 0
  | f + 1, v, left => if (z.getD v.toNat dN).pl = 2 then payoffX (z.getD v.toNat dN) ((vs.getD a.toNat []).getD b.toNat 0) * p60 left.toNat
    else (mapR (fun i => (choice z k ps qs v a b).getD i 0 * valF z vs k ps qs a b f ((z.getD v.toNat dN).ch.getD i 0) (left - 1)) (z.getD v.toNat dN).ch.length).sum
def value (z : List Nd) (vs : List (List Int)) (k : Nat) (ps qs : List (List Int)) (a b v left : Int) : Int := valF z vs k ps qs a b z.length v left
def valTo (z : List Nd) (vs : List (List Int)) (k : Nat) (ps qs : List (List Int)) (a b v left : Int) (n : Nat) : Int := (mapR (fun i => (choice z k ps qs v a b).getD i 0 * value z vs k ps qs a b ((z.getD v.toNat dN).ch.getD i 0) (left - 1)) n).sum
theorem mapR_congr {f g : Nat → Int} {n : Nat} (h : ∀ i, i < n → f i = g i) : mapR f n = mapR g n := List.map_congr_left fun i hi => h i (List.mem_range.1 hi)
theorem valF_same {a b : Int} (hok : allOk z = true) : ∀ f f' (v left : Int), 0 ≤ v → v < z.length → z.length - v.toNat ≤ f → z.length - v.toNat ≤ f' → valF z vs k ps qs a b f v left = valF z vs k ps qs a b f' v left := by
  intro f
  induction f with
  | zero => intro f' v left h0 h1 h2 h3; omega
  | succ f ih =>
    intro f' v left h0 h1 h2 h3
    cases f' with
    | zero => omega
    | succ f' =>
      simp only [valF]
      split
      · rfl
      · congr 1
        refine mapR_congr fun i hi => ?_
        have := ok_kid (allOk_iff.1 hok v.toNat (by omega)) (getD_mem 0 hi)
        rw [ih f' _ _ (by omega) (by omega) (by omega) (by omega)]
theorem value_end {a b v left : Int} (hv : 0 ≤ v ∧ v < z.length) (h : (z.getD v.toNat dN).pl = 2) : value z vs k ps qs a b v left = payoffX (z.getD v.toNat dN) ((vs.getD a.toNat []).getD b.toNat 0) * p60 left.toNat := by
  unfold value
  cases hn : z.length with
  | zero => omega
  | succ f => simp only [valF, h, if_true]
theorem value_step {a b v left : Int} (hok : allOk z = true) (hv : 0 ≤ v ∧ v < z.length) (h : ¬ (z.getD v.toNat dN).pl = 2) : value z vs k ps qs a b v left = valTo z vs k ps qs a b v left (z.getD v.toNat dN).ch.length := by
  have h1 : value z vs k ps qs a b v left = valF z vs k ps qs a b (z.length + 1) v left := valF_same hok _ _ v left hv.1 hv.2 (by omega) (by omega)
  rw [h1]; unfold valTo; simp only [valF, h, if_false]; rfl
theorem valTo_s (a b v left : Int) (i : Nat) : valTo z vs k ps qs a b v left (i + 1) = valTo z vs k ps qs a b v left i + (choice z k ps qs v a b).getD i 0 * value z vs k ps qs a b ((z.getD v.toNat dN).ch.getD i 0) (left - 1) := mapR_suc _ _
theorem dmax_ge {l : List Int} : ∀ {c : Int}, c ∈ l → depth z c.toNat ≤ dmax z l := by
  have key : ∀ (l : List Int) (m : Int), m ≤ l.foldl (fun m c => max m (depth z c.toNat)) m ∧ ∀ c ∈ l, depth z c.toNat ≤ l.foldl (fun m c => max m (depth z c.toNat)) m := by
    intro l
    induction l with
    | nil => intro m; exact ⟨Int.le_refl _, fun c h => by cases h⟩
    | cons d l ih =>
      intro m
      have h := ih (max m (depth z d.toNat))
      refine ⟨?_, fun c hc => ?_⟩
      · show m ≤ l.foldl _ (max m (depth z d.toNat)); omega
      · show depth z c.toNat ≤ l.foldl _ (max m (depth z d.toNat))
        rcases List.mem_cons.1 hc with rfl | hc
        · omega
        · exact h.2 c hc
  exact fun {c} hc => (key l 0).2 c hc
theorem depth_kid (hok : allOk z = true) {v : Int} (hv : 0 ≤ v ∧ v < z.length) (h : ¬ (z.getD v.toNat dN).pl = 2) {c : Int} (hc : c ∈ (z.getD v.toNat dN).ch) : depth z c.toNat + 1 ≤ depth z v.toNat := by
  rw [depth_step hok (by omega) h]
  have := dmax_ge (z := z) hc
  omega
theorem dot_bd {f g : Nat → Int} {B : Int} {n : Nat} (hB : 0 ≤ B) (hf : ∀ i, i < n → 0 ≤ f i) (hg : ∀ i, i < n → -B ≤ g i ∧ g i ≤ B) : ∀ m, m ≤ n → -(B * (mapR f m).sum) ≤ (mapR (fun i => f i * g i) m).sum ∧ (mapR (fun i => f i * g i) m).sum ≤ B * (mapR f m).sum
  | 0, _ => by simp [mapR]
  | m + 1, hm => by
    have ih := dot_bd hB hf hg m (by omega)
    have h1 := hf m (by omega)
    have h2 := hg m (by omega)
    have h3 : f m * g m ≤ f m * B := Int.mul_le_mul_of_nonneg_left h2.2 h1
    have h4 : f m * -B ≤ f m * g m := Int.mul_le_mul_of_nonneg_left h2.1 h1
    have h5 : f m * -B = -(f m * B) := Int.mul_neg _ _
    have h6 : B * f m = f m * B := Int.mul_comm _ _
    rw [mapR_suc, mapR_suc, Int.mul_add]
    omega
theorem mapR_list (l : List Int) : ∀ m, m ≤ l.length → mapR (fun i => l.getD i 0) m = l.take m
  | 0, _ => rfl
  | m + 1, h => by rw [← mapR_snoc, mapR_list l m (by omega), take_step 0 (by omega)]
theorem takesum {l : List Int} (h : ∀ x ∈ l, 0 ≤ x) (m : Nat) : 0 ≤ (l.take m).sum ∧ (l.take m).sum ≤ l.sum := by
  have key : ∀ l : List Int, (∀ x ∈ l, 0 ≤ x) → 0 ≤ l.sum := by
    intro l
    induction l with
    | nil => intro _; exact Int.le_refl _
    | cons x l ih => intro h; rw [List.sum_cons]; have := h x (List.mem_cons_self ..); have := ih fun y hy => h y (List.mem_cons_of_mem _ hy); omega
  have h1 := key (l.take m) fun x hx => h x (List.mem_of_mem_take hx)
  have h2 := key (l.drop m) fun x hx => h x (List.mem_of_mem_drop hx)
  have h3 : l.sum = (l.take m).sum + (l.drop m).sum := by rw [← List.sum_append, List.take_append_drop]
  omega
theorem payoffX_bd {x : Nd} {w : Int} (h0 : 0 ≤ x.p0 ∧ x.p0 ≤ 100) (h1 : 0 ≤ x.p1 ∧ x.p1 ≤ 100) : -100 ≤ payoffX x w ∧ payoffX x w ≤ 100 := by
  unfold payoffX; (repeat' split) <;> omega
theorem value_bd (h : Pair z ws vs ps qs) (hk : ws.length = k) {a b : Int} (ha : 0 ≤ a ∧ a < k) (hb : 0 ≤ b ∧ b < k) : ∀ (f : Nat) (v left : Int), z.length - v.toNat ≤ f → 0 ≤ v → v < z.length → depth z v.toNat ≤ left → 0 ≤ left →
    (-(100 * p60 left.toNat) ≤ value z vs k ps qs a b v left ∧ value z vs k ps qs a b v left ≤ 100 * p60 left.toNat) ∧ (¬ (z.getD v.toNat dN).pl = 2 → 1 ≤ left ∧ ∀ m, m ≤ (z.getD v.toNat dN).ch.length → -(100 * p60 left.toNat) ≤ valTo z vs k ps qs a b v left m ∧ valTo z vs k ps qs a b v left m ≤ 100 * p60 left.toNat) := by
  have hT := isTree_ok (isGame_ok h.g).1
  intro f
  induction f with
  | zero => intro v left h1 h2 h3; omega
  | succ f ih =>
    intro v left hf h0 h1 hd hl
    have ho := ok_pl (allOk_iff.1 hT.2.1 v.toNat (by omega))
    have hp : 0 ≤ p60 left.toNat := by unfold p60; exact Int.le_of_lt (Int.pow_pos (by decide))
    by_cases h2 : (z.getD v.toNat dN).pl = 2
    · refine ⟨?_, fun hn => absurd h2 hn⟩
      rw [value_end ⟨h0, h1⟩ h2]
      have hx := payoffX_bd (w := (vs.getD a.toNat []).getD b.toNat 0) ho.2.1 ho.2.2.1
      have h3 := Int.mul_le_mul_of_nonneg_right hx.2 hp
      have h4 := Int.mul_le_mul_of_nonneg_right hx.1 hp
      have h5 : -100 * p60 left.toNat = -(100 * p60 left.toNat) := Int.neg_mul _ _
      omega
    · have hc := choice_ok h hk ⟨h0, h1⟩ h2 ha hb
      have h1l : 1 ≤ left := by
        have := depth_step hT.2.1 (i := v.toNat) (by omega) h2
        have := (dmax_le (ns := z) (B := 60) (by decide) (l := (z.getD v.toNat dN).ch) fun c hc => by
          have hck := ok_kid (allOk_iff.1 hT.2.1 v.toNat (by omega)) hc
          have := depth_bd' rfl hT.2.1 (i := c.toNat) (by omega); omega).1
        omega
      have hs : p60 left.toNat = p60 (left - 1).toNat * 60 := by rw [← p60_s]; congr 1; omega
      have hkid : ∀ i, i < (z.getD v.toNat dN).ch.length → -(100 * p60 (left - 1).toNat) ≤ value z vs k ps qs a b ((z.getD v.toNat dN).ch.getD i 0) (left - 1) ∧ value z vs k ps qs a b ((z.getD v.toNat dN).ch.getD i 0) (left - 1) ≤ 100 * p60 (left - 1).toNat := fun i hi => by
        have hm := getD_mem 0 hi
        have hck := ok_kid (allOk_iff.1 hT.2.1 v.toNat (by omega)) hm
        have hdk := depth_kid hT.2.1 ⟨h0, h1⟩ h2 hm
        exact (ih _ _ (by omega) (by omega) (by omega) (by omega) (by omega)).1
      have hall : ∀ m, m ≤ (z.getD v.toNat dN).ch.length → -(100 * p60 left.toNat) ≤ valTo z vs k ps qs a b v left m ∧ valTo z vs k ps qs a b v left m ≤ 100 * p60 left.toNat := fun m hm => by
        have hp' : 0 ≤ p60 (left - 1).toNat := by unfold p60; exact Int.le_of_lt (Int.pow_pos (by decide))
        have hb := dot_bd (f := fun i => (choice z k ps qs v a b).getD i 0) (g := fun i => value z vs k ps qs a b ((z.getD v.toNat dN).ch.getD i 0) (left - 1)) (B := 100 * p60 (left - 1).toNat) (n := (z.getD v.toNat dN).ch.length) (by omega) (fun i hi => (hc.2.1 _ (getD_mem 0 (by omega))).1) hkid m hm
        rw [mapR_list _ m (by omega)] at hb
        have ht := takesum (l := choice z k ps qs v a b) (fun x hx => (hc.2.1 x hx).1) m
        rw [hc.2.2] at ht
        have h7 : 100 * p60 (left - 1).toNat * ((choice z k ps qs v a b).take m).sum ≤ 100 * p60 (left - 1).toNat * 60 := Int.mul_le_mul_of_nonneg_left ht.2 (by omega)
        unfold valTo
        rw [hs]
        omega
      refine ⟨?_, fun _ => ⟨h1l, hall⟩⟩
      rw [value_step hT.2.1 ⟨h0, h1⟩ h2]
      exact hall _ (Nat.le_refl _)
/-- The number of a game. -/
def dealN (z : List Nd) (ws vs : List (List Int)) (k : Nat) (ps qs : List (List Int)) (a b : Nat) : Int := (ws.getD a []).getD b 0 * value z vs k ps qs (a : Int) (b : Int) 0 (depth z 0)
def numRow (z : List Nd) (ws vs : List (List Int)) (k : Nat) (ps qs : List (List Int)) (a m : Nat) : Int := (mapR (fun b => dealN z ws vs k ps qs a b) m).sum
def numTo (z : List Nd) (ws vs : List (List Int)) (k : Nat) (ps qs : List (List Int)) (i : Nat) : Int := (mapR (fun a => numRow z ws vs k ps qs a k) i).sum
theorem numRow_s (a m : Nat) : numRow z ws vs k ps qs a (m + 1) = numRow z ws vs k ps qs a m + dealN z ws vs k ps qs a m := mapR_suc _ _
theorem numTo_s (i : Nat) : numTo z ws vs k ps qs (i + 1) = numTo z ws vs k ps qs i + numRow z ws vs k ps qs i k := mapR_suc _ _
theorem dealN_0 {a b : Nat} (h : (ws.getD a []).getD b 0 = 0) : dealN z ws vs k ps qs a b = 0 := by unfold dealN; rw [h, Int.zero_mul]
theorem value_bd5 (h : Pair z ws vs ps qs) (hk : ws.length = k) {a b v left : Int} (ha : 0 ≤ a ∧ a < k) (hb : 0 ≤ b ∧ b < k) (hv : 0 ≤ v ∧ v < z.length) (hd : depth z v.toNat ≤ left) (hl : 0 ≤ left ∧ left ≤ 5) : -77760000000 ≤ value z vs k ps qs a b v left ∧ value z vs k ps qs a b v left ≤ 77760000000 := by
  have h1 := (value_bd h hk ha hb _ v left (Nat.le_refl _) hv.1 hv.2 hd hl.1).1
  have h2 := p60_5 (k := left.toNat) (by omega)
  omega
theorem dealN_bd (h : Pair z ws vs ps qs) (hk : ws.length = k) {a b : Nat} (ha : a < k) (hb : b < k) : -699840000000 ≤ dealN z ws vs k ps qs a b ∧ dealN z ws vs k ps qs a b ≤ 699840000000 := by
  have hG := isGame_ok h.g
  have hT := isTree_ok hG.1
  have h1 := value_bd5 h hk (a := (a : Int)) (b := (b : Int)) (v := 0) (left := depth z 0) (by omega) (by omega) (by omega) (Int.le_refl _) hT.2.2.2
  subst hk
  have h2 := row_at (mat_row hG.2.2.1 ha) hb
  have h3 := Int.mul_le_mul_of_nonneg_left h1.2 h2.1
  have h4 := Int.mul_le_mul_of_nonneg_left h1.1 h2.1
  unfold dealN
  omega
theorem numRow_bd (h : Pair z ws vs ps qs) (hk : ws.length = k) {a : Nat} (ha : a < k) : ∀ m, m ≤ k → -(699840000000 * m) ≤ numRow z ws vs k ps qs a m ∧ numRow z ws vs k ps qs a m ≤ 699840000000 * m
  | 0, _ => by show _ ≤ (0 : Int) ∧ (0 : Int) ≤ _; omega
  | m + 1, hm => by
    have h1 := numRow_bd h hk ha m (by omega)
    have h2 := dealN_bd h hk ha (show m < k by omega)
    rw [numRow_s]; omega
theorem numTo_bd (h : Pair z ws vs ps qs) (hk : ws.length = k) : ∀ i, i ≤ k → -(4199040000000 * i) ≤ numTo z ws vs k ps qs i ∧ numTo z ws vs k ps qs i ≤ 4199040000000 * i
  | 0, _ => by show _ ≤ (0 : Int) ∧ (0 : Int) ≤ _; omega
  | i + 1, hi => by
    have h1 := numTo_bd h hk i (by omega)
    have h2 := numRow_bd h hk (show i < k by omega) k (Nat.le_refl _)
    have h3 := (isGame_ok h.g).2.1
    rw [numTo_s]; omega
/-- What a way is reached with. -/
def reW (z : List Nd) (k : Nat) (ps qs : List (List Int)) (a b : Int) : List Int → Int → Int → Int
  | [], _, p => p
  | w :: l, v, p => reW z k ps qs a b l ((z.getD v.toNat dN).ch.getD w.toNat 0) (p * (choice z k ps qs v a b).getD w.toNat 0)
/-- Places that lead from a node to a node. -/
def Leads (z : List Nd) : List Int → Int → Int → Prop
  | [], v, n => v = n
  | w :: l, v, n => ((0 ≤ v ∧ v < z.length) ∧ (0 ≤ w ∧ w < (z.getD v.toNat dN).ch.length)) ∧ Leads z l ((z.getD v.toNat dN).ch.getD w.toNat 0) n
theorem Leads.app {n m w : Int} (hn : 0 ≤ n ∧ n < z.length) (hw : 0 ≤ w ∧ w < (z.getD n.toNat dN).ch.length) (hm : (z.getD n.toNat dN).ch.getD w.toNat 0 = m) : ∀ {l : List Int} {v : Int}, Leads z l v n → Leads z (l ++ [w]) v m
  | [], v, h => by cases h; exact ⟨⟨hn, hw⟩, hm⟩
  | x :: l, v, h => ⟨h.1, Leads.app hn hw hm h.2⟩
theorem indexOf_at {l : List Int} {v : Int} (h : v ∈ l) : (0 ≤ indexOf l v ∧ indexOf l v < l.length) ∧ l.getD (indexOf l v).toNat 0 = v := by
  have h0 : 0 ≤ indexOf l v := by
    rcases Int.lt_or_le (indexOf l v) 0 with h1 | h1
    · exact absurd h (indexOf_nmem (by omega))
    · exact h1
  have hle := indexOf_le (l := l) (v := v)
  refine ⟨⟨h0, hle.2⟩, ?_⟩
  obtain ⟨j, hj, hv⟩ := mem_getD 0 h
  have key : ∀ n j, j = n → j < l.length → l.getD j 0 = v → l.getD (indexOf l v).toNat 0 = v := by
    intro n
    induction n using Nat.strongRecOn with
    | _ n ih =>
      intro j hjn hj hv
      by_cases hf : ∀ i, i < j → l.getD i 0 ≠ v
      · rw [indexOf_yes hj hv hf, Int.toNat_natCast]; exact hv
      · obtain ⟨i, hf⟩ := Classical.not_forall.1 hf
        obtain ⟨hi, hiv⟩ := Classical.not_imp.1 hf
        exact ih i (by omega) i rfl (by omega) (Classical.not_not.1 hiv)
  exact key j j rfl hj hv
theorem Way.leads (hok : allOk z = true) {n : Int} {l : List Int} (h : Way z n l) : n < z.length → Leads z l 0 n := by
  induction h with
  | root => intro _; rfl
  | @step i n l ha hb hc hd ih =>
    intro hn
    have hx := indexOf_at hc
    refine Leads.app (n := (i : Int)) (by omega) ?_ ?_ (ih (by omega))
    · rw [Int.toNat_natCast]; exact hx.1
    · rw [Int.toNat_natCast]; exact hx.2
/-- One deal, and all, that reach a node. -/
noncomputable def reN (z : List Nd) (ws : List (List Int)) (k : Nat) (ps qs : List (List Int)) (n : Int) (a b : Nat) : Int := reW z k ps qs (a : Int) (b : Int) (wayOf z n) 0 ((ws.getD a []).getD b 0) * p60 (depth z 0 - ((wayOf z n).length : Int)).toNat
noncomputable def reRow (z : List Nd) (ws : List (List Int)) (k : Nat) (ps qs : List (List Int)) (n : Int) (a m : Nat) : Int := (mapR (fun b => reN z ws k ps qs n a b) m).sum
noncomputable def reTo (z : List Nd) (ws : List (List Int)) (k : Nat) (ps qs : List (List Int)) (n : Int) (i : Nat) : Int := (mapR (fun a => reRow z ws k ps qs n a k) i).sum
end
end Go.Proofs.Ytjengglpbdgmnaa.Math
/- Plain facts on strategies that are read, and on ways that are walked. No condition. -/
namespace Go.Proofs.Ytjengglpbdgmnaa.Math
open Go Go.Proofs.Ytjengglpbdgmnaa.V
set_option linter.unusedVariables false
set_option linter.unusedSimpArgs false
theorem two {w0 : World} {M : Nat → Prop} {L : List (World → Prop)} {φ ψ χ : World → Prop} (h : Kn w0 M L φ) (h' : Kn w0 M L ψ) (hi : ∀ w, φ w → ψ w → χ w) : Kn w0 M L χ := fun w hs => hi w (h w hs) (h' w hs)
theorem firstTo_0 {z : List Nd} {k n : Nat} {p : Int} (h : z.length = n) : firstTo z k p 0 = List.replicate n 0 := by subst h; rfl
theorem firstTo_s (z : List Nd) (k : Nat) (p : Int) (i : Nat) : (firstTo z k p i).set ((nodesOf z p).getD i 0).toNat ((i : Int) * (k : Int)) = firstTo z k p (i + 1) := rfl
theorem firstTo_e {z : List Nd} {k i : Nat} {p : Int} (h : (nodesOf z p).length = i) : firstTo z k p i = firstOf z k p := by subst h; rfl
theorem parTo_0 {z : List Nd} {n : Nat} (h : z.length = n) : parTo z 0 = List.replicate n 0 := by subst h; rfl
theorem putAll_nil (P : List Int) (v : Int) : putAll P v [] = P := rfl
theorem parTo_s {z : List Nd} {i j : Nat} (h : (z.getD i dN).ch.length ≤ j) : putAll (parTo z i) (i : Int) ((z.getD i dN).ch.take j) = parTo z (i + 1) := by rw [List.take_of_length_le h]; rfl
theorem parTo_e {z : List Nd} {i : Nat} (h : z.length = i) : parTo z i = parOf z := by subst h; rfl
theorem firstOf_nat {z : List Nd} {k : Nat} {p v : Int} {f : List Int} (hf : f = firstOf z k p) (hv : 0 ≤ v ∧ v < z.length) (h : (z.getD v.toNat dN).pl = p) : f.getD v.toNat 0 = ((rank z p v.toNat * k : Nat) : Int) := by
  subst hf; rw [firstOf_at (by omega) h, Int.natCast_mul]
def chA (z : List Nd) (k : Nat) (Hp Hq : Nat → Hd) (v a b : Int) : Hd := if (z.getD v.toNat dN).pl = 0 then Hp (rank z 0 v.toNat * k + a.toNat) else Hq (rank z 1 v.toNat * k + b.toNat)
section
variable {z : List Nd} {ws vs ps qs : List (List Int)} {k : Nat} {Hp Hq : Nat → Hd} {v a b : Int}
theorem chA_0 (h : (z.getD v.toNat dN).pl = 0) : chA z k Hp Hq v a b = Hp (rank z 0 v.toNat * k + a.toNat) := if_pos h
theorem chA_1 (h : (z.getD v.toNat dN).pl = 1) : chA z k Hp Hq v a b = Hq (rank z 1 v.toNat * k + b.toNat) := if_neg (by rw [h]; decide)
theorem choice_0 (h : (z.getD v.toNat dN).pl = 0) : choice z k ps qs v a b = ps.getD (rank z 0 v.toNat * k + a.toNat) [] := if_pos h
theorem choice_1 (h : (z.getD v.toNat dN).pl = 1) : choice z k ps qs v a b = qs.getD (rank z 1 v.toNat * k + b.toNat) [] := if_neg (by rw [h]; decide)
theorem choice_ix (h : Pair z ws vs ps qs) (hk : ws.length = k) (hv : 0 ≤ v ∧ v < z.length) (hpl : (z.getD v.toNat dN).pl ≠ 2) (ha : 0 ≤ a ∧ a < k) (hb : 0 ≤ b ∧ b < k) :
    ((z.getD v.toNat dN).pl = 0 → rank z 0 v.toNat * k + a.toNat < ps.length) ∧ ((z.getD v.toNat dN).pl = 1 → rank z 1 v.toNat * k + b.toNat < qs.length) := by
  subst hk
  exact ⟨fun h0 => (choice_at h.p (v := v.toNat) (a := a.toNat) (by omega) h0 (by omega)).1, fun h1 => (choice_at h.q (v := v.toNat) (a := b.toNat) (by omega) h1 (by omega)).1⟩
theorem choice_rd (h : Pair z ws vs ps qs) (hk : ws.length = k) (hv : 0 ≤ v ∧ v < z.length) (hpl : (z.getD v.toNat dN).pl ≠ 2) (ha : 0 ≤ a ∧ a < k) (hb : 0 ≤ b ∧ b < k) {ap aq : Option Addr} {np nq : Nat} {w : World} (h1 : RdR maK ap np Hp ps w) (h2 : RdR maK aq nq Hq qs w) :
    RdI (chA z k Hp Hq v a b).1 (choice z k ps qs v a b).length (choice z k ps qs v a b) w := by
  have hi := choice_ix h hk hv hpl ha hb
  have ho := ok_pl (allOk_iff.1 (isTree_ok (isGame_ok h.g).1).2.1 v.toNat (by omega))
  rcases (show (z.getD v.toNat dN).pl = 0 ∨ (z.getD v.toNat dN).pl = 1 by omega) with h0 | h0
  · rw [chA_0 h0, choice_0 h0]; exact h1.kidM (nth [] (hi.1 h0))
  · rw [chA_1 h0, choice_1 h0]; exact h2.kidM (nth [] (hi.2 h0))
theorem pair_len (h : Pair z ws vs ps qs) (hk : ws.length = k) : ps.length ≤ 360 ∧ qs.length ≤ 360 := by
  have h1 := (isGame_ok h.g).2.1
  have h2 := (isTree_ok (isGame_ok h.g).1).1
  have h3 := parts_len h.p
  have h4 := parts_len h.q
  have h5 := sets_len (z := z) (p := 0) (show ws.length ≤ 6 by omega)
  have h6 := sets_len (z := z) (p := 1) (show ws.length ≤ 6 by omega)
  omega
end
theorem pair_is (z : List Nd) (ws vs ps qs : List (List Int)) (pl ql : Int) : isPair z ws vs pl ps ql qs = (isStrat z ws vs pl ps && (isStrat z ws vs ql qs && (decide (pl = 0) && decide (ql = 1)))) := by
  unfold isPair isStrat
  by_cases h0 : pl = 0
  · by_cases h1 : ql = 1
    · subst h0; subst h1
      generalize isGame z ws vs = g; generalize partsB z (sets z ws.length 0) ps = p; generalize partsB z (sets z ws.length 1) qs = q
      revert g p q; decide
    · simp [h1]
  · simp [h0]
theorem pair_in {z : List Nd} {ws vs ps qs : List (List Int)} {pl ql : Int} {k : Nat} (hk : ws.length = k) : isPair z ws vs pl ps ql qs = (isGame z ws vs && (decide (pl = 0) && (decide (ql = 1) && (partsB z (sets z k pl) ps && partsB z (sets z k ql) qs)))) := by
  subst hk; unfold isPair
  by_cases h0 : pl = 0
  · by_cases h1 : ql = 1
    · subst h0; subst h1; rfl
    · simp [h1]
  · simp [h0]
/-- The answers. -/
noncomputable def reachAt (z : List Nd) (ws vs : List (List Int)) (pl : Int) (ps : List (List Int)) (ql : Int) (qs : List (List Int)) (n : Int) : Int × Int :=
  if isPair z ws vs pl ps ql qs = true then if 0 ≤ n ∧ n ≤ (z.length : Int) - 1 then (reTo z ws ws.length ps qs n ws.length, 0) else (0, 2) else (0, 1)
section
variable {z : List Nd} {ws vs ps qs : List (List Int)} {pl ql n : Int} {k m : Nat}
/-- Showdowns. -/
noncomputable def showTo (z : List Nd) (ws : List (List Int)) (k : Nat) (ps qs : List (List Int)) (i : Nat) : Int := (mapR (fun i => if (z.getD ((nodesOf z 2).getD i 0).toNat dN).fo < 0 then reTo z ws k ps qs ((nodesOf z 2).getD i 0) k else 0) i).sum
noncomputable def showAt (z : List Nd) (ws vs : List (List Int)) (pl : Int) (ps : List (List Int)) (ql : Int) (qs : List (List Int)) : Int × Int :=
  if isPair z ws vs pl ps ql qs = true then (showTo z ws ws.length ps qs (nodesOf z 2).length, 0) else (0, 1)
end
end Go.Proofs.Ytjengglpbdgmnaa.Math
/- Plain arithmetic on numbers, ratios and odds. No condition. -/
set_option linter.unusedVariables false
namespace Go.Proofs.Ytjengglpbdgmnaa.Math
theorem mod_lt {p q : Int} (hp : 0 ≤ p) (hq : 0 < q) : (p % q).toNat < q.toNat := by
 have h1 := Int.emod_nonneg p (show q ≠ 0 by omega)
 have h2 := Int.emod_lt_of_pos p hq
 omega
def gcdI (a b : Int) : Int := (Nat.gcd a.toNat b.toNat : Int)
/-- A valid ratio. -/
def isRatio (n d : Int) : Bool := decide (-1000000000 ≤ n ∧ n ≤ 1000000000) && (decide (1 ≤ d ∧ d ≤ 1000000000) && decide (gcdI n.natAbs d = 1))
/-- The ratio of two integers, the second at least 1, and a code. -/
def reduced (num den : Int) : (Int × Int) × Int :=
 if isRatio (num.tdiv (gcdI num.natAbs den)) (den / gcdI num.natAbs den) then ((num.tdiv (gcdI num.natAbs den), den / gcdI num.natAbs den), 0) else ((0, 0), 3)
def addR (a b : Int × Int) : (Int × Int) × Int := if isRatio a.1 a.2 = true ∧ isRatio b.1 b.2 = true then reduced (a.1 * b.2 + b.1 * a.2) (a.2 * b.2) else ((0, 0), 1)
def subR (a b : Int × Int) : (Int × Int) × Int := if isRatio a.1 a.2 = true ∧ isRatio b.1 b.2 = true then reduced (a.1 * b.2 - b.1 * a.2) (a.2 * b.2) else ((0, 0), 1)
def mulR (a b : Int × Int) : (Int × Int) × Int := if isRatio a.1 a.2 = true ∧ isRatio b.1 b.2 = true then reduced (a.1 * b.1) (a.2 * b.2) else ((0, 0), 1)
/-- A share. -/
def isShare (n d : Int) : Bool := isRatio n d && decide (0 ≤ n ∧ n ≤ d)
/-- A quotient of numbers of chips, and a code. -/
def quot (num den : Int) : (Int × Int) × Int := if den = 0 then ((0, 0), 5) else reduced num den
def quotR (a b num den : Int) : (Int × Int) × Int := if (0 ≤ a ∧ a ≤ 1000000) ∧ (0 ≤ b ∧ b ≤ 1000000) then quot num den else ((0, 0), 2)
/-- Several operations, of which the first error is kept. -/
def stp (f : Int × Int → Int × Int → (Int × Int) × Int) (c : Int) (a b : Int × Int) : (Int × Int) × Int := if c ≠ 0 then ((0, 1), c) else f a b
def fin (r : (Int × Int) × Int) : (Int × Int) × Int := if r.2 ≠ 0 then ((0, 0), r.2) else (r.1, 0)
def bnd (r : (Int × Int) × Int) (f : Int × Int → (Int × Int) × Int) : (Int × Int) × Int := if r.2 ≠ 0 then ((0, 0), r.2) else f r.1
def callW (pot call : Int) (e : Int × Int) : (Int × Int) × Int := bnd (mulR e (pot + call, 1)) fun x => subR x (call, 1)
def callS (pot call : Int) (e : Int × Int) : (Int × Int) × Int :=
 fin (stp addR (stp mulR 0 e (pot + call, 1)).2 (stp mulR 0 e (pot + call, 1)).1 (-call, 1))
/-- What a call wins, and a code. -/
def callV (pot call : Int) (e : Int × Int) : (Int × Int) × Int :=
 if isShare e.1 e.2 = true then (if (0 ≤ pot ∧ pot ≤ 1000000) ∧ (0 ≤ call ∧ call ≤ 1000000) then callW pot call e else ((0, 0), 2)) else ((0, 0), 1)
def betW (pot bet : Int) (f e : Int × Int) : (Int × Int) × Int :=
 bnd (mulR e (pot + 2 * bet, 1)) fun won => bnd (subR won (bet, 1)) fun called => bnd (subR (1, 1) f) fun calls => bnd (mulR calls called) fun first => bnd (mulR f (pot, 1)) fun second => addR first second
def betS (pot bet : Int) (f e : Int × Int) : (Int × Int) × Int :=
 let won := stp mulR 0 e (pot + 2 * bet, 1)
 let called := stp addR won.2 won.1 (-bet, 1)
 let stay := stp addR called.2 (1, 1) (-f.1, f.2)
 let part := stp mulR stay.2 stay.1 called.1
 let wn := stp mulR part.2 f (pot, 1)
 fin (stp addR wn.2 wn.1 part.1)
/-- What a bet wins, and a code. -/
def betV (pot bet : Int) (f e : Int × Int) : (Int × Int) × Int :=
 if isShare f.1 f.2 = true ∧ isShare e.1 e.2 = true then (if (0 ≤ pot ∧ pot ≤ 1000000) ∧ (0 ≤ bet ∧ bet ≤ 1000000) then betW pot bet f e else ((0, 0), 2)) else ((0, 0), 1)
/-- What is left of a stack behind some streets. -/
def left : Nat → Int → Int → Int → Int
 | 0, _, s, _ => s
 | k + 1, p, s, b => left k (p + 2 * min s ((b * p + 99) / 100)) (s - min s ((b * p + 99) / 100)) b
def inGeo (pot stack streets : Int) : Prop := (1 ≤ pot ∧ pot ≤ 10000) ∧ (1 ≤ stack ∧ stack ≤ 10000) ∧ (1 ≤ streets ∧ streets ≤ 4)
/-- The least bet by which the whole stack goes in. -/
def isGeo (pot stack streets n : Int) : Prop := 0 ≤ n ∧ n ≤ 1000000 ∧ left streets.toNat pot stack n = 0 ∧ ∀ b, 0 ≤ b → b < n → left streets.toNat pot stack b ≠ 0
def Geo (pot stack streets : Int) (x : Int × Int) : Prop := (inGeo pot stack streets ∧ isGeo pot stack streets x.1 ∧ x.2 = 0) ∨ (¬ inGeo pot stack streets ∧ x = (0, 2))
end Go.Proofs.Ytjengglpbdgmnaa.Math
/- Plain facts on the answers of values and mixed strategies. No condition. -/
namespace Go.Proofs.Ytjengglpbdgmnaa.Math
open Go Go.Proofs.Ytjengglpbdgmnaa.V
set_option linter.unusedVariables false
set_option linter.unusedSimpArgs false
def dealAt (z : List Nd) (ws vs : List (List Int)) (pl : Int) (ps : List (List Int)) (ql : Int) (qs : List (List Int)) (a b : Int) : Int × Int :=
 if isPair z ws vs pl ps ql qs = true then if (0 ≤ a ∧ a ≤ (ws.length : Int) - 1) ∧ (0 ≤ b ∧ b ≤ (ws.length : Int) - 1) then (value z vs ws.length ps qs a b 0 (depth z 0), 0) else (0, 2) else (0, 1)
def gameAt (z : List Nd) (ws vs : List (List Int)) (pl : Int) (ps : List (List Int)) (ql : Int) (qs : List (List Int)) : Int × Int × Int :=
 if isPair z ws vs pl ps ql qs = true then (numTo z ws vs ws.length ps qs ws.length, unit z ws, 0) else (0, 0, 1)
noncomputable def endsTo (z : List Nd) (ws : List (List Int)) (k : Nat) (ps qs : List (List Int)) (i : Nat) : List Int := mapR (fun i => reTo z ws k ps qs ((nodesOf z 2).getD i 0) k) i
noncomputable def endsAt (z : List Nd) (ws vs : List (List Int)) (pl : Int) (ps : List (List Int)) (ql : Int) (qs : List (List Int)) : List Int × Int :=
 if isPair z ws vs pl ps ql qs = true then (endsTo z ws ws.length ps qs (nodesOf z 2).length, 0) else ([], 1)
def ratioAt (z : List Nd) (ws vs : List (List Int)) (pl : Int) (ps : List (List Int)) (ql : Int) (qs : List (List Int)) : (Int × Int) × Int :=
 if isPair z ws vs pl ps ql qs = true then reduced (numTo z ws vs ws.length ps qs ws.length) (unit z ws) else ((0, 0), 1)
section
variable {z : List Nd} {ws vs ps qs : List (List Int)} {pl ql a b n : Int} {k m : Nat}
theorem dealAt_1 (h : isPair z ws vs pl ps ql qs = false) : dealAt z ws vs pl ps ql qs a b = (0, 1) := if_neg (by rw [h]; decide)
theorem dealAt_2 (hk : ws.length = k) (h : isPair z ws vs pl ps ql qs = true) (hn : ¬ ((0 ≤ a ∧ a ≤ (k : Int) - 1) ∧ (0 ≤ b ∧ b ≤ (k : Int) - 1))) : dealAt z ws vs pl ps ql qs a b = (0, 2) := by subst hk; unfold dealAt; rw [if_pos h, if_neg hn]
theorem dealAt_0 (hk : ws.length = k) (h : isPair z ws vs pl ps ql qs = true) (ha : 0 ≤ a ∧ a ≤ (k : Int) - 1) (hb : 0 ≤ b ∧ b ≤ (k : Int) - 1) : dealAt z ws vs pl ps ql qs a b = (value z vs k ps qs a b 0 (depth z 0), 0) := by subst hk; unfold dealAt; rw [if_pos h, if_pos ⟨ha, hb⟩]
theorem gameAt_1 (h : isPair z ws vs pl ps ql qs = false) : gameAt z ws vs pl ps ql qs = (0, 0, 1) := if_neg (by rw [h]; decide)
theorem gameAt_0 (hk : ws.length = k) (h : isPair z ws vs pl ps ql qs = true) : gameAt z ws vs pl ps ql qs = (numTo z ws vs k ps qs k, unit z ws, 0) := by subst hk; exact if_pos h
/-- Mixed strategies. -/
def mixRow (n : Int) (r s : List Int) (j : Nat) : List Int := mapR (fun j => n * r.getD j 0 + (60 - n) * s.getD j 0) j
noncomputable def mixTo (n : Int) (ps qs : List (List Int)) (i : Nat) : List (List Int) := mapR (fun i => partsOf (mixRow n (ps.getD i []) (qs.getD i []) (ps.getD i []).length)) i
end
noncomputable def mixAt (z : List Nd) (ws vs : List (List Int)) (pl : Int) (ps : List (List Int)) (ql : Int) (qs : List (List Int)) (n : Int) : (Int × List (List Int)) × Int :=
 if isStrat z ws vs pl ps = true ∧ isStrat z ws vs ql qs = true then if 0 ≤ n ∧ n ≤ 60 then if pl = ql then ((pl, mixTo n ps qs ps.length), 0) else ((0, []), 5) else ((0, []), 2) else ((0, []), 1)
section
variable {z : List Nd} {ws vs ps qs : List (List Int)} {pl ql n : Int} {k m : Nat}
end
end Go.Proofs.Ytjengglpbdgmnaa.Math
/- Plain facts on mirrored games. No condition. -/
namespace Go.Proofs.Ytjengglpbdgmnaa.Math
open Go.Proofs.Ytjengglpbdgmnaa.V
set_option linter.unusedVariables false
set_option linter.unusedSimpArgs false
def swap (n : Int) : Int := if n = 0 ∨ n = 1 then 1 - n else n
def mirN (x : Nd) : Nd := ⟨swap x.pl, x.p1, x.p0, swap x.fo, x.ch⟩
theorem mirN_is {z : List Nd} {i : Nat} {a b : Int} (h : i < z.length) (ha : a = swap (z.getD i dN).pl) (hb : b = swap (z.getD i dN).fo) : Nd.mk a (z.getD i dN).p1 (z.getD i dN).p0 b (z.getD i dN).ch = (z.map mirN).getD i dN := by
 subst ha; subst hb
 simp [List.getD, List.getElem?_eq_getElem h, mirN]
def mirWc (ws : List (List Int)) (a b : Nat) : Int := (ws.getD b []).getD a 0
def mirVc (vs : List (List Int)) (a b : Nat) : Int := -(vs.getD b []).getD a 0
def mirWs (ws : List (List Int)) (k i : Nat) : List (List Int) := mapR (fun a => mapR (mirWc ws a) k) i
def mirVs (vs : List (List Int)) (k i : Nat) : List (List Int) := mapR (fun a => mapR (mirVc vs a) k) i
theorem mirWs_snoc (ws : List (List Int)) {k i j : Nat} (h : j = k) : mirWs ws k i ++ [mapR (mirWc ws i) j] = mirWs ws k (i + 1) := by subst h; exact mapR_snoc (fun a => mapR (mirWc ws a) j) i
theorem mirVs_snoc (vs : List (List Int)) {k i j : Nat} (h : j = k) : mirVs vs k i ++ [mapR (mirVc vs i) j] = mirVs vs k (i + 1) := by subst h; exact mapR_snoc (fun a => mapR (mirVc vs a) j) i
theorem mapR_succ (f : Nat → Int) (k : Nat) : (mapR f (k + 1)).sum = (mapR f k).sum + f k := by
 rw [← mapR_snoc, List.sum_append]; simp
theorem mapR_add (f g : Nat → Int) : ∀ k, (mapR (fun i => f i + g i) k).sum = (mapR f k).sum + (mapR g k).sum
 | 0 => rfl
 | k + 1 => by rw [mapR_succ, mapR_succ, mapR_succ, mapR_add f g k]; omega
/-- Sums over rows and over columns. -/
theorem sum_swap (f : Nat → Nat → Int) (k : Nat) : ∀ i, (mapR (fun a => (mapR (fun b => f a b) k).sum) i).sum = (mapR (fun b => (mapR (fun a => f a b) i).sum) k).sum
 | 0 => by
  have : ∀ k, (mapR (fun b => (mapR (fun a => f a b) 0).sum) k).sum = 0 := fun k => by
   induction k with
   | zero => rfl
   | succ k ih => rw [mapR_succ, ih]; rfl
  rw [this]; rfl
 | i + 1 => by
  rw [mapR_succ, sum_swap f k i, ← mapR_add]
  congr 1
  unfold mapR
  refine List.map_congr_left fun b _ => ?_
  exact (mapR_succ (fun a => f a b) i).symm
theorem list_mapR {α : Type} (l : List α) (d : α) : l = mapR (fun i => l.getD i d) l.length := by
 refine List.ext_getElem (by rw [mapR_len]) fun i h1 h2 => ?_
 simp [mapR, List.getD, List.getElem?_eq_getElem h1]
theorem total_mapR {ws : List (List Int)} {k : Nat} (h : matB k 0 9 ws = true) : total ws = (mapR (fun a => (mapR (fun b => (ws.getD a []).getD b 0) k).sum) k).sum := by
 have hl := mat_len h
 have h1 : ws.map List.sum = mapR (fun a => (mapR (fun b => (ws.getD a []).getD b 0) k).sum) k := by
  conv => lhs; rw [list_mapR ws []]
  unfold mapR
  rw [List.map_map, hl]
  refine List.map_congr_left fun a ha => ?_
  have hr := row_len (mat_row h (List.mem_range.1 ha))
  show (ws.getD a []).sum = _
  conv => lhs; rw [list_mapR (ws.getD a []) 0, hr]
  rfl
 unfold total; rw [h1]
theorem total_mir {ws : List (List Int)} {k : Nat} (h : matB k 0 9 ws = true) : total (mirWs ws k k) = total ws := by
 rw [total_mapR h, sum_swap]
 unfold total mirWs mapR
 rw [List.map_map]
 rfl
theorem mir_mat {ws : List (List Int)} {k : Nat} (h : matB k 0 9 ws = true) : matB k 0 9 (mirWs ws k k) = true := by
 refine mat_yes (mapR_len _ _) fun a ha => ?_
 have he : (mirWs ws k k).getD a [] = mapR (mirWc ws a) k := mapR_get (fun a => mapR (mirWc ws a) k) [] ha
 rw [he]
 refine row_yes (by rw [mapR_len]) (List.all_eq_true.2 fun x hx => ?_)
 obtain ⟨b, hb, rfl⟩ := mapR_mem hx
 have := row_at (mat_row h hb) ha
 unfold inB mirWc; exact decide_eq_true this
def cardF (ws : List (List Int)) (p : Int) (c b : Nat) : Int := if p = 0 then (ws.getD c []).getD b 0 else (ws.getD b []).getD c 0
def cardSum (ws : List (List Int)) (p : Int) (c k : Nat) : Int := (mapR (cardF ws p c) k).sum
def mirAt (z : List Nd) (ws vs : List (List Int)) : G3 × Int := if isGame z ws vs = true then ((z.map mirN, mirWs ws ws.length ws.length, mirVs vs ws.length ws.length), 0) else (([], [], []), 1)
theorem mirAt_0 {z : List Nd} {ws vs : List (List Int)} {k : Nat} (hk : ws.length = k) (h : isGame z ws vs = true) : mirAt z ws vs = ((z.map mirN, mirWs ws k k, mirVs vs k k), 0) := by subst hk; exact if_pos h
theorem mirAt_1 {z : List Nd} {ws vs : List (List Int)} (h : isGame z ws vs = false) : mirAt z ws vs = (([], [], []), 1) := if_neg (by rw [h]; decide)
end Go.Proofs.Ytjengglpbdgmnaa.Math
/- Contracts of ways. Their conditions stand in each. -/
namespace Go.Proofs.Ytjengglpbdgmnaa
open Go Go.RowKit V
set_option linter.unusedVariables false
set_option linter.unusedSimpArgs false
set_option maxRecDepth 100000
end Go.Proofs.Ytjengglpbdgmnaa
