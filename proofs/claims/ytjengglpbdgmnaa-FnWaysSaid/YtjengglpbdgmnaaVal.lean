/- Plain facts on values of games. No condition. -/
import Derived.Test.YtjengglpbdgmnaaWay
import Derived.Test.YtjengglpbdgmnaaSets
import Derived.Test.YtjengglpbdgmnaaHigh
namespace Go.Proofs.Ytjengglpbdgmnaa.Math
open Go.Proofs.Ytjengglpbdgmnaa.V
set_option linter.unusedVariables false
set_option linter.unusedSimpArgs false
theorem mapR_suc (f : Nat → Int) (k : Nat) : (mapR f (k + 1)).sum = (mapR f k).sum + f k := by
  rw [← mapR_snoc, List.sum_append]; simp
/-- How many nodes of a player stand ahead of a node. -/
def rank (z : List Nd) (p : Int) (i : Nat) : Nat := (nodesTo z p i).length
theorem nodesTo_app (z : List Nd) (p : Int) (k : Nat) : ∀ d, ∃ r, nodesTo z p (k + d) = nodesTo z p k ++ r
  | 0 => ⟨[], by simp⟩
  | d + 1 => by
    obtain ⟨r, hr⟩ := nodesTo_app z p k d
    by_cases h : (z.getD (k + d) dN).pl = p
    · exact ⟨r ++ [((k + d : Nat) : Int)], by rw [← Nat.add_assoc, nodesTo_yes h, hr, List.append_assoc]⟩
    · exact ⟨r, by rw [← Nat.add_assoc, nodesTo_no h, hr]⟩
theorem rank_node {z : List Nd} {p : Int} {i : Nat} (hi : i < z.length) (h : (z.getD i dN).pl = p) : rank z p i < (nodesOf z p).length ∧ (nodesOf z p).getD (rank z p i) 0 = (i : Int) := by
  obtain ⟨r, hr⟩ := nodesTo_app z p (i + 1) (z.length - (i + 1))
  rw [show i + 1 + (z.length - (i + 1)) = z.length from by omega, nodesTo_all rfl rfl, nodesTo_yes h] at hr
  rw [hr]; unfold rank
  refine ⟨by simp, ?_⟩
  simp [List.getD]
theorem nodes_lt (z : List Nd) (p : Int) {i j : Nat} (hij : i < j) (hj : j < (nodesOf z p).length) : (nodesOf z p).getD i 0 < (nodesOf z p).getD j 0 := by
  have hp : (nodesOf z p).Pairwise (· < ·) := by
    unfold nodesOf
    refine List.Pairwise.map _ (fun a b h => ?_) (List.Pairwise.filter _ List.pairwise_lt_range)
    exact Int.ofNat_lt.2 h
  have := List.pairwise_iff_getElem.1 hp i j (by omega) hj hij
  simpa [List.getD, List.getElem?_eq_getElem hj, List.getElem?_eq_getElem (show i < (nodesOf z p).length by omega)] using this
theorem nodes_inj (z : List Nd) (p : Int) {i j : Nat} (hi : i < (nodesOf z p).length) (hj : j < (nodesOf z p).length) (h : (nodesOf z p).getD i 0 = (nodesOf z p).getD j 0) : i = j := by
  rcases Nat.lt_trichotomy i j with hlt | he | hlt
  · have := nodes_lt z p hlt hj; omega
  · exact he
  · have := nodes_lt z p hlt hi; omega
theorem rank_is {z : List Nd} {p v : Int} {i : Nat} (hi : i < (nodesOf z p).length) (h : (nodesOf z p).getD i 0 = v) : rank z p v.toNat = i := by
  have hm := nodesOf_mem (getD_mem 0 hi)
  rw [h] at hm
  have hr := rank_node (z := z) (i := v.toNat) (by omega) hm.2
  exact nodes_inj z p hr.1 hi (by rw [hr.2, h]; omega)
/-- The first set of each node of a player. -/
def firstTo (z : List Nd) (k : Nat) (p : Int) : Nat → List Int
  | 0 => List.replicate z.length 0
  | i + 1 => (firstTo z k p i).set ((nodesOf z p).getD i 0).toNat ((i : Int) * (k : Int))
def firstOf (z : List Nd) (k : Nat) (p : Int) : List Int := firstTo z k p (nodesOf z p).length
theorem firstTo_len (z : List Nd) (k : Nat) (p : Int) : ∀ i, (firstTo z k p i).length = z.length
  | 0 => by unfold firstTo; rw [List.length_replicate]
  | i + 1 => by unfold firstTo; rw [List.length_set]; exact firstTo_len z k p i
theorem firstTo_at (z : List Nd) (k : Nat) (p : Int) : ∀ n i, n ≤ (nodesOf z p).length → i < n → (firstTo z k p n).getD ((nodesOf z p).getD i 0).toNat 0 = (i : Int) * (k : Int)
  | 0, i, _, h => absurd h (Nat.not_lt_zero _)
  | n + 1, i, hn, h => by
    have hm := (nodesOf_mem (getD_mem 0 (show i < (nodesOf z p).length by omega))).1
    have hm2 := (nodesOf_mem (getD_mem 0 (show n < (nodesOf z p).length by omega))).1
    unfold firstTo
    rw [getD_set (by rw [firstTo_len]; omega)]
    by_cases he : i = n
    · subst he; rw [if_pos rfl]
    · have hlt := nodes_lt z p (show i < n by omega) (by omega)
      rw [if_neg (by omega)]
      exact firstTo_at z k p n i (by omega) (by omega)
theorem firstOf_len (z : List Nd) (k : Nat) (p : Int) : (firstOf z k p).length = z.length := firstTo_len z k p _
theorem firstOf_at {z : List Nd} {k : Nat} {p : Int} {v : Nat} (hv : v < z.length) (h : (z.getD v dN).pl = p) : (firstOf z k p).getD v 0 = (rank z p v : Int) * (k : Int) := by
  have hr := rank_node hv h
  have := firstTo_at z k p _ _ (Nat.le_refl _) hr.1
  rw [hr.2, Int.toNat_natCast] at this
  exact this
/-- The parent of each node. -/
def putAll (P : List Int) (v : Int) (cs : List Int) : List Int := cs.foldl (fun P c => P.set c.toNat v) P
theorem putAll_len (v : Int) : ∀ (cs P : List Int), (putAll P v cs).length = P.length
  | [], P => rfl
  | c :: cs, P => by show (putAll (P.set c.toNat v) v cs).length = _; rw [putAll_len v cs, List.length_set]
theorem putAll_step {P : List Int} {v : Int} {cs : List Int} {j : Nat} (h : j < cs.length) : (putAll P v (cs.take j)).set (cs.getD j 0).toNat v = putAll P v (cs.take (j + 1)) := by
  rw [take_step 0 h]; unfold putAll; rw [List.foldl_append]; rfl
theorem putAll_in {v : Int} {c : Int} : ∀ (cs P : List Int), c ∈ cs → c.toNat < P.length → (putAll P v cs).getD c.toNat 0 = v
  | [], P, h, _ => by cases h
  | d :: cs, P, h, hl => by
    show (putAll (P.set d.toNat v) v cs).getD c.toNat 0 = v
    by_cases hc : c ∈ cs
    · exact putAll_in cs _ hc (by rw [List.length_set]; exact hl)
    · have hd : c = d := by rcases List.mem_cons.1 h with h | h; exact h; exact absurd h hc
      subst hd
      have key : ∀ (cs P : List Int), P.getD c.toNat 0 = v → c.toNat < P.length → (putAll P v cs).getD c.toNat 0 = v := by
        intro cs
        induction cs with
        | nil => intro P h _; exact h
        | cons e cs ih =>
          intro P h hl
          refine ih (P.set e.toNat v) ?_ (by rw [List.length_set]; exact hl)
          rw [getD_set hl]; split
          · rfl
          · exact h
      exact key cs _ (by rw [getD_set hl, if_pos rfl]) (by rw [List.length_set]; exact hl)
theorem putAll_out {v : Int} {c : Nat} : ∀ (cs P : List Int), (∀ d ∈ cs, d.toNat ≠ c) → c < P.length → (putAll P v cs).getD c 0 = P.getD c 0
  | [], P, _, _ => rfl
  | d :: cs, P, h, hl => by
    show (putAll (P.set d.toNat v) v cs).getD c 0 = _
    rw [putAll_out cs _ (fun e he => h e (List.mem_cons_of_mem _ he)) (by rw [List.length_set]; exact hl), getD_set hl, if_neg (h d (List.mem_cons_self ..))]
def parTo (z : List Nd) : Nat → List Int
  | 0 => List.replicate z.length 0
  | i + 1 => putAll (parTo z i) (i : Int) (z.getD i dN).ch
theorem parTo_len (z : List Nd) : ∀ i, (parTo z i).length = z.length
  | 0 => by unfold parTo; rw [List.length_replicate]
  | i + 1 => by unfold parTo; rw [putAll_len]; exact parTo_len z i
def parOf (z : List Nd) : List Int := parTo z z.length
theorem parOf_len (z : List Nd) : (parOf z).length = z.length := parTo_len z _
theorem parTo_at {z : List Nd} (hok : allOk z = true) (h1 : oneEach z = true) {i : Nat} {c : Int} (hi : i < z.length) (hc : c ∈ (z.getD i dN).ch) : ∀ n, n ≤ z.length → i < n → (parTo z n).getD c.toNat 0 = (i : Int)
  | 0, _, h => absurd h (Nat.not_lt_zero _)
  | n + 1, hn, h => by
    have hk := ok_kid (allOk_iff.1 hok i hi) hc
    unfold parTo
    by_cases he : i = n
    · subst he; exact putAll_in _ _ hc (by rw [parTo_len]; omega)
    · rw [putAll_out _ _ (fun d hd hdc => ?_) (by rw [parTo_len]; omega)]
      · exact parTo_at hok h1 hi hc n (by omega) (by omega)
      · have hk2 := ok_kid (allOk_iff.1 hok n (by omega)) hd
        have hdc' : d = c := by omega
        subst hdc'
        exact he (one_parent h1 (by omega) hi (by omega) hc hd)
theorem parOf_at {z : List Nd} (ht : isTree z = true) {i : Nat} {c : Int} (hi : i < z.length) (hc : c ∈ (z.getD i dN).ch) : (parOf z).getD c.toNat 0 = (i : Int) :=
  parTo_at (isTree_ok ht).2.1 (isTree_ok ht).2.2.1 hi hc _ (Nat.le_refl _) hi
/-- The parent of a node that is not the root. -/
theorem parOf_up {z : List Nd} (ht : isTree z = true) {c : Int} (hc : 1 ≤ c ∧ c < z.length) : (0 ≤ (parOf z).getD c.toNat 0 ∧ (parOf z).getD c.toNat 0 < c) ∧ c ∈ (z.getD ((parOf z).getD c.toNat 0).toNat dN).ch := by
  obtain ⟨i, h1, h2, h3⟩ := parent_ex (isTree_ok ht).2.1 (isTree_ok ht).2.2.1 hc
  rw [parOf_at ht h2 h3, Int.toNat_natCast]
  exact ⟨by omega, h3⟩
/-- The parts at a decision. -/
def choice (z : List Nd) (k : Nat) (ps qs : List (List Int)) (v a b : Int) : List Int :=
  if (z.getD v.toNat dN).pl = 0 then ps.getD (rank z 0 v.toNat * k + a.toNat) [] else qs.getD (rank z 1 v.toNat * k + b.toNat) []
theorem setsOf_cell (k : Nat) {a : Nat} (ha : a < k) : ∀ (xs : List Int) (r : Nat), r < xs.length → r * k + a < (setsOf xs k).length ∧ (setsOf xs k).getD (r * k + a) [] = [xs.getD r 0, (a : Int)]
  | [], r, h => absurd h (Nat.not_lt_zero _)
  | x :: xs, r, h => by
    have hs : setsOf (x :: xs) k = ((List.range k).map fun (c : Nat) => [x, (c : Int)]) ++ setsOf xs k := rfl
    have hl : ((List.range k).map fun (c : Nat) => [x, (c : Int)]).length = k := by simp
    cases r with
    | zero =>
      rw [hs, Nat.zero_mul, Nat.zero_add]
      refine ⟨by rw [List.length_append, hl]; omega, ?_⟩
      simp [List.getD, List.getElem?_append_left, ha]
    | succ r =>
      have ih := setsOf_cell k ha xs r (by simp at h; omega)
      rw [hs, show (r + 1) * k + a = k + (r * k + a) from by rw [Nat.succ_mul]; omega]
      refine ⟨by rw [List.length_append, hl]; omega, ?_⟩
      have : (((List.range k).map fun (c : Nat) => [x, (c : Int)]) ++ setsOf xs k).getD (k + (r * k + a)) [] = (setsOf xs k).getD (r * k + a) [] := by
        simp only [List.getD]
        rw [List.getElem?_append_right (by rw [hl]; omega), hl, show k + (r * k + a) - k = r * k + a from by omega]
      rw [this, ih.2]; rfl
theorem choice_at {z : List Nd} {k : Nat} {p : Int} {ps : List (List Int)} (hps : partsB z (sets z k p) ps = true) {v a : Nat} (hv : v < z.length) (hpl : (z.getD v dN).pl = p) (ha : a < k) :
    rank z p v * k + a < ps.length ∧ partB z [(v : Int), (a : Int)] (ps.getD (rank z p v * k + a) []) = true := by
  have hr := rank_node hv hpl
  have hc := setsOf_cell k ha (nodesOf z p) _ hr.1
  have hp := parts_at hps hc.1
  have hl := parts_len hps
  unfold sets at hp hl
  rw [hc.2, hr.2] at hp
  exact ⟨by omega, hp⟩
/-- Both strategies. -/
structure Pair (z : List Nd) (ws vs ps qs : List (List Int)) : Prop where
  g : isGame z ws vs = true
  p : partsB z (sets z ws.length 0) ps = true
  q : partsB z (sets z ws.length 1) qs = true
def isPair (z : List Nd) (ws vs : List (List Int)) (pl : Int) (ps : List (List Int)) (ql : Int) (qs : List (List Int)) : Bool := isGame z ws vs && (decide (pl = 0) && (decide (ql = 1) && (partsB z (sets z ws.length 0) ps && partsB z (sets z ws.length 1) qs)))
theorem isPair_ok {z : List Nd} {ws vs ps qs : List (List Int)} {pl ql : Int} (h : isPair z ws vs pl ps ql qs = true) : pl = 0 ∧ ql = 1 ∧ Pair z ws vs ps qs := by
  simp only [isPair, Bool.and_eq_true, decide_eq_true_eq] at h
  exact ⟨h.2.1, h.2.2.1, h.1, h.2.2.2.1, h.2.2.2.2⟩
section
variable {z : List Nd} {ws vs ps qs : List (List Int)} {k : Nat}
theorem choice_ok (h : Pair z ws vs ps qs) (hk : ws.length = k) {v a b : Int} (hv : 0 ≤ v ∧ v < z.length) (hpl : (z.getD v.toNat dN).pl ≠ 2) (ha : 0 ≤ a ∧ a < k) (hb : 0 ≤ b ∧ b < k) :
    (choice z k ps qs v a b).length = (z.getD v.toNat dN).ch.length ∧ (∀ x ∈ choice z k ps qs v a b, 0 ≤ x ∧ x ≤ 60) ∧ (choice z k ps qs v a b).sum = 60 := by
  have hw : ∀ (u : Int) (x : Int), 0 ≤ u → wide z [u, x] = (z.getD u.toNat dN).ch.length := fun u x _ => rfl
  have ho := ok_pl (allOk_iff.1 (isTree_ok (isGame_ok h.g).1).2.1 v.toNat (by omega))
  subst hk
  unfold choice
  split
  · rename_i h0
    have := choice_at h.p (v := v.toNat) (a := a.toNat) (by omega) h0 (by omega)
    obtain ⟨h1, h2⟩ := part_row this.2
    refine ⟨by rw [row_len h1]; exact hw _ _ (by omega), row_in h1, h2⟩
  · rename_i h0
    have := choice_at h.q (v := v.toNat) (a := b.toNat) (by omega) (show (z.getD v.toNat dN).pl = 1 by omega) (by omega)
    obtain ⟨h1, h2⟩ := part_row this.2
    refine ⟨by rw [row_len h1]; exact hw _ _ (by omega), row_in h1, h2⟩
/-- The value of a node. -/
def valF (z : List Nd) (vs : List (List Int)) (k : Nat) (ps qs : List (List Int)) (a b : Int) : Nat → Int → Int → Int
  | 0, _, _ => 0
  | f + 1, v, left => if (z.getD v.toNat dN).pl = 2 then payoffX (z.getD v.toNat dN) ((vs.getD a.toNat []).getD b.toNat 0) * p60 left.toNat
    else (mapR (fun i => (choice z k ps qs v a b).getD i 0 * valF z vs k ps qs a b f ((z.getD v.toNat dN).ch.getD i 0) (left - 1)) (z.getD v.toNat dN).ch.length).sum
def value (z : List Nd) (vs : List (List Int)) (k : Nat) (ps qs : List (List Int)) (a b v left : Int) : Int := valF z vs k ps qs a b z.length v left
def valTo (z : List Nd) (vs : List (List Int)) (k : Nat) (ps qs : List (List Int)) (a b v left : Int) (n : Nat) : Int := (mapR (fun i => (choice z k ps qs v a b).getD i 0 * value z vs k ps qs a b ((z.getD v.toNat dN).ch.getD i 0) (left - 1)) n).sum
theorem mapR_congr {f g : Nat → Int} {n : Nat} (h : ∀ i, i < n → f i = g i) : mapR f n = mapR g n := List.map_congr_left fun i hi => h i (List.mem_range.1 hi)
theorem valF_same {a b : Int} (hok : allOk z = true) : ∀ f f' (v left : Int), 0 ≤ v → v < z.length → z.length - v.toNat ≤ f → z.length - v.toNat ≤ f' → valF z vs k ps qs a b f v left = valF z vs k ps qs a b f' v left := by
  intro f
  induction f with
  | zero => intro f' v left h0 h1 h2 h3; omega
  | succ f ih =>
    intro f' v left h0 h1 h2 h3
    cases f' with
    | zero => omega
    | succ f' =>
      simp only [valF]
      split
      · rfl
      · congr 1
        refine mapR_congr fun i hi => ?_
        have := ok_kid (allOk_iff.1 hok v.toNat (by omega)) (getD_mem 0 hi)
        rw [ih f' _ _ (by omega) (by omega) (by omega) (by omega)]
theorem value_end {a b v left : Int} (hv : 0 ≤ v ∧ v < z.length) (h : (z.getD v.toNat dN).pl = 2) : value z vs k ps qs a b v left = payoffX (z.getD v.toNat dN) ((vs.getD a.toNat []).getD b.toNat 0) * p60 left.toNat := by
  unfold value
  cases hn : z.length with
  | zero => omega
  | succ f => simp only [valF, h, if_true]
theorem value_step {a b v left : Int} (hok : allOk z = true) (hv : 0 ≤ v ∧ v < z.length) (h : ¬ (z.getD v.toNat dN).pl = 2) : value z vs k ps qs a b v left = valTo z vs k ps qs a b v left (z.getD v.toNat dN).ch.length := by
  have h1 : value z vs k ps qs a b v left = valF z vs k ps qs a b (z.length + 1) v left := valF_same hok _ _ v left hv.1 hv.2 (by omega) (by omega)
  rw [h1]; unfold valTo; simp only [valF, h, if_false]; rfl
theorem valTo_s (a b v left : Int) (i : Nat) : valTo z vs k ps qs a b v left (i + 1) = valTo z vs k ps qs a b v left i + (choice z k ps qs v a b).getD i 0 * value z vs k ps qs a b ((z.getD v.toNat dN).ch.getD i 0) (left - 1) := mapR_suc _ _
theorem dmax_ge {l : List Int} : ∀ {c : Int}, c ∈ l → depth z c.toNat ≤ dmax z l := by
  have key : ∀ (l : List Int) (m : Int), m ≤ l.foldl (fun m c => max m (depth z c.toNat)) m ∧ ∀ c ∈ l, depth z c.toNat ≤ l.foldl (fun m c => max m (depth z c.toNat)) m := by
    intro l
    induction l with
    | nil => intro m; exact ⟨Int.le_refl _, fun c h => by cases h⟩
    | cons d l ih =>
      intro m
      have h := ih (max m (depth z d.toNat))
      refine ⟨?_, fun c hc => ?_⟩
      · show m ≤ l.foldl _ (max m (depth z d.toNat)); omega
      · show depth z c.toNat ≤ l.foldl _ (max m (depth z d.toNat))
        rcases List.mem_cons.1 hc with rfl | hc
        · omega
        · exact h.2 c hc
  exact fun {c} hc => (key l 0).2 c hc
theorem depth_kid (hok : allOk z = true) {v : Int} (hv : 0 ≤ v ∧ v < z.length) (h : ¬ (z.getD v.toNat dN).pl = 2) {c : Int} (hc : c ∈ (z.getD v.toNat dN).ch) : depth z c.toNat + 1 ≤ depth z v.toNat := by
  rw [depth_step hok (by omega) h]
  have := dmax_ge (z := z) hc
  omega
theorem dot_bd {f g : Nat → Int} {B : Int} {n : Nat} (hB : 0 ≤ B) (hf : ∀ i, i < n → 0 ≤ f i) (hg : ∀ i, i < n → -B ≤ g i ∧ g i ≤ B) : ∀ m, m ≤ n → -(B * (mapR f m).sum) ≤ (mapR (fun i => f i * g i) m).sum ∧ (mapR (fun i => f i * g i) m).sum ≤ B * (mapR f m).sum
  | 0, _ => by simp [mapR]
  | m + 1, hm => by
    have ih := dot_bd hB hf hg m (by omega)
    have h1 := hf m (by omega)
    have h2 := hg m (by omega)
    have h3 : f m * g m ≤ f m * B := Int.mul_le_mul_of_nonneg_left h2.2 h1
    have h4 : f m * -B ≤ f m * g m := Int.mul_le_mul_of_nonneg_left h2.1 h1
    have h5 : f m * -B = -(f m * B) := Int.mul_neg _ _
    have h6 : B * f m = f m * B := Int.mul_comm _ _
    rw [mapR_suc, mapR_suc, Int.mul_add]
    omega
theorem mapR_list (l : List Int) : ∀ m, m ≤ l.length → mapR (fun i => l.getD i 0) m = l.take m
  | 0, _ => rfl
  | m + 1, h => by rw [← mapR_snoc, mapR_list l m (by omega), take_step 0 (by omega)]
theorem takesum {l : List Int} (h : ∀ x ∈ l, 0 ≤ x) (m : Nat) : 0 ≤ (l.take m).sum ∧ (l.take m).sum ≤ l.sum := by
  have key : ∀ l : List Int, (∀ x ∈ l, 0 ≤ x) → 0 ≤ l.sum := by
    intro l
    induction l with
    | nil => intro _; exact Int.le_refl _
    | cons x l ih => intro h; rw [List.sum_cons]; have := h x (List.mem_cons_self ..); have := ih fun y hy => h y (List.mem_cons_of_mem _ hy); omega
  have h1 := key (l.take m) fun x hx => h x (List.mem_of_mem_take hx)
  have h2 := key (l.drop m) fun x hx => h x (List.mem_of_mem_drop hx)
  have h3 : l.sum = (l.take m).sum + (l.drop m).sum := by rw [← List.sum_append, List.take_append_drop]
  omega
theorem payoffX_bd {x : Nd} {w : Int} (h0 : 0 ≤ x.p0 ∧ x.p0 ≤ 100) (h1 : 0 ≤ x.p1 ∧ x.p1 ≤ 100) : -100 ≤ payoffX x w ∧ payoffX x w ≤ 100 := by
  unfold payoffX; (repeat' split) <;> omega
theorem value_bd (h : Pair z ws vs ps qs) (hk : ws.length = k) {a b : Int} (ha : 0 ≤ a ∧ a < k) (hb : 0 ≤ b ∧ b < k) : ∀ (f : Nat) (v left : Int), z.length - v.toNat ≤ f → 0 ≤ v → v < z.length → depth z v.toNat ≤ left → 0 ≤ left →
    (-(100 * p60 left.toNat) ≤ value z vs k ps qs a b v left ∧ value z vs k ps qs a b v left ≤ 100 * p60 left.toNat) ∧ (¬ (z.getD v.toNat dN).pl = 2 → 1 ≤ left ∧ ∀ m, m ≤ (z.getD v.toNat dN).ch.length → -(100 * p60 left.toNat) ≤ valTo z vs k ps qs a b v left m ∧ valTo z vs k ps qs a b v left m ≤ 100 * p60 left.toNat) := by
  have hT := isTree_ok (isGame_ok h.g).1
  intro f
  induction f with
  | zero => intro v left h1 h2 h3; omega
  | succ f ih =>
    intro v left hf h0 h1 hd hl
    have ho := ok_pl (allOk_iff.1 hT.2.1 v.toNat (by omega))
    have hp : 0 ≤ p60 left.toNat := by unfold p60; exact Int.le_of_lt (Int.pow_pos (by decide))
    by_cases h2 : (z.getD v.toNat dN).pl = 2
    · refine ⟨?_, fun hn => absurd h2 hn⟩
      rw [value_end ⟨h0, h1⟩ h2]
      have hx := payoffX_bd (w := (vs.getD a.toNat []).getD b.toNat 0) ho.2.1 ho.2.2.1
      have h3 := Int.mul_le_mul_of_nonneg_right hx.2 hp
      have h4 := Int.mul_le_mul_of_nonneg_right hx.1 hp
      have h5 : -100 * p60 left.toNat = -(100 * p60 left.toNat) := Int.neg_mul _ _
      omega
    · have hc := choice_ok h hk ⟨h0, h1⟩ h2 ha hb
      have h1l : 1 ≤ left := by
        have := depth_step hT.2.1 (i := v.toNat) (by omega) h2
        have := (dmax_le (ns := z) (B := 60) (by decide) (l := (z.getD v.toNat dN).ch) fun c hc => by
          have hck := ok_kid (allOk_iff.1 hT.2.1 v.toNat (by omega)) hc
          have := depth_bd' rfl hT.2.1 (i := c.toNat) (by omega); omega).1
        omega
      have hs : p60 left.toNat = p60 (left - 1).toNat * 60 := by rw [← p60_s]; congr 1; omega
      have hkid : ∀ i, i < (z.getD v.toNat dN).ch.length → -(100 * p60 (left - 1).toNat) ≤ value z vs k ps qs a b ((z.getD v.toNat dN).ch.getD i 0) (left - 1) ∧ value z vs k ps qs a b ((z.getD v.toNat dN).ch.getD i 0) (left - 1) ≤ 100 * p60 (left - 1).toNat := fun i hi => by
        have hm := getD_mem 0 hi
        have hck := ok_kid (allOk_iff.1 hT.2.1 v.toNat (by omega)) hm
        have hdk := depth_kid hT.2.1 ⟨h0, h1⟩ h2 hm
        exact (ih _ _ (by omega) (by omega) (by omega) (by omega) (by omega)).1
      have hall : ∀ m, m ≤ (z.getD v.toNat dN).ch.length → -(100 * p60 left.toNat) ≤ valTo z vs k ps qs a b v left m ∧ valTo z vs k ps qs a b v left m ≤ 100 * p60 left.toNat := fun m hm => by
        have hp' : 0 ≤ p60 (left - 1).toNat := by unfold p60; exact Int.le_of_lt (Int.pow_pos (by decide))
        have hb := dot_bd (f := fun i => (choice z k ps qs v a b).getD i 0) (g := fun i => value z vs k ps qs a b ((z.getD v.toNat dN).ch.getD i 0) (left - 1)) (B := 100 * p60 (left - 1).toNat) (n := (z.getD v.toNat dN).ch.length) (by omega) (fun i hi => (hc.2.1 _ (getD_mem 0 (by omega))).1) hkid m hm
        rw [mapR_list _ m (by omega)] at hb
        have ht := takesum (l := choice z k ps qs v a b) (fun x hx => (hc.2.1 x hx).1) m
        rw [hc.2.2] at ht
        have h7 : 100 * p60 (left - 1).toNat * ((choice z k ps qs v a b).take m).sum ≤ 100 * p60 (left - 1).toNat * 60 := Int.mul_le_mul_of_nonneg_left ht.2 (by omega)
        unfold valTo
        rw [hs]
        omega
      refine ⟨?_, fun _ => ⟨h1l, hall⟩⟩
      rw [value_step hT.2.1 ⟨h0, h1⟩ h2]
      exact hall _ (Nat.le_refl _)
/-- The number of a game. -/
def dealN (z : List Nd) (ws vs : List (List Int)) (k : Nat) (ps qs : List (List Int)) (a b : Nat) : Int := (ws.getD a []).getD b 0 * value z vs k ps qs (a : Int) (b : Int) 0 (depth z 0)
def numRow (z : List Nd) (ws vs : List (List Int)) (k : Nat) (ps qs : List (List Int)) (a m : Nat) : Int := (mapR (fun b => dealN z ws vs k ps qs a b) m).sum
def numTo (z : List Nd) (ws vs : List (List Int)) (k : Nat) (ps qs : List (List Int)) (i : Nat) : Int := (mapR (fun a => numRow z ws vs k ps qs a k) i).sum
theorem numRow_s (a m : Nat) : numRow z ws vs k ps qs a (m + 1) = numRow z ws vs k ps qs a m + dealN z ws vs k ps qs a m := mapR_suc _ _
theorem numTo_s (i : Nat) : numTo z ws vs k ps qs (i + 1) = numTo z ws vs k ps qs i + numRow z ws vs k ps qs i k := mapR_suc _ _
theorem dealN_0 {a b : Nat} (h : (ws.getD a []).getD b 0 = 0) : dealN z ws vs k ps qs a b = 0 := by unfold dealN; rw [h, Int.zero_mul]
theorem value_bd5 (h : Pair z ws vs ps qs) (hk : ws.length = k) {a b v left : Int} (ha : 0 ≤ a ∧ a < k) (hb : 0 ≤ b ∧ b < k) (hv : 0 ≤ v ∧ v < z.length) (hd : depth z v.toNat ≤ left) (hl : 0 ≤ left ∧ left ≤ 5) : -77760000000 ≤ value z vs k ps qs a b v left ∧ value z vs k ps qs a b v left ≤ 77760000000 := by
  have h1 := (value_bd h hk ha hb _ v left (Nat.le_refl _) hv.1 hv.2 hd hl.1).1
  have h2 := p60_5 (k := left.toNat) (by omega)
  omega
theorem dealN_bd (h : Pair z ws vs ps qs) (hk : ws.length = k) {a b : Nat} (ha : a < k) (hb : b < k) : -699840000000 ≤ dealN z ws vs k ps qs a b ∧ dealN z ws vs k ps qs a b ≤ 699840000000 := by
  have hG := isGame_ok h.g
  have hT := isTree_ok hG.1
  have h1 := value_bd5 h hk (a := (a : Int)) (b := (b : Int)) (v := 0) (left := depth z 0) (by omega) (by omega) (by omega) (Int.le_refl _) hT.2.2.2
  subst hk
  have h2 := row_at (mat_row hG.2.2.1 ha) hb
  have h3 := Int.mul_le_mul_of_nonneg_left h1.2 h2.1
  have h4 := Int.mul_le_mul_of_nonneg_left h1.1 h2.1
  unfold dealN
  omega
theorem numRow_bd (h : Pair z ws vs ps qs) (hk : ws.length = k) {a : Nat} (ha : a < k) : ∀ m, m ≤ k → -(699840000000 * m) ≤ numRow z ws vs k ps qs a m ∧ numRow z ws vs k ps qs a m ≤ 699840000000 * m
  | 0, _ => by show _ ≤ (0 : Int) ∧ (0 : Int) ≤ _; omega
  | m + 1, hm => by
    have h1 := numRow_bd h hk ha m (by omega)
    have h2 := dealN_bd h hk ha (show m < k by omega)
    rw [numRow_s]; omega
theorem numTo_bd (h : Pair z ws vs ps qs) (hk : ws.length = k) : ∀ i, i ≤ k → -(4199040000000 * i) ≤ numTo z ws vs k ps qs i ∧ numTo z ws vs k ps qs i ≤ 4199040000000 * i
  | 0, _ => by show _ ≤ (0 : Int) ∧ (0 : Int) ≤ _; omega
  | i + 1, hi => by
    have h1 := numTo_bd h hk i (by omega)
    have h2 := numRow_bd h hk (show i < k by omega) k (Nat.le_refl _)
    have h3 := (isGame_ok h.g).2.1
    rw [numTo_s]; omega
/-- What a way is reached with. -/
def reW (z : List Nd) (k : Nat) (ps qs : List (List Int)) (a b : Int) : List Int → Int → Int → Int
  | [], _, p => p
  | w :: l, v, p => reW z k ps qs a b l ((z.getD v.toNat dN).ch.getD w.toNat 0) (p * (choice z k ps qs v a b).getD w.toNat 0)
theorem reW_mul (a b : Int) : ∀ (l : List Int) (v p c : Int), reW z k ps qs a b l v (p * c) = reW z k ps qs a b l v p * c
  | [], _, _, _ => rfl
  | w :: l, v, p, c => by
    unfold reW
    rw [show p * c * (choice z k ps qs v a b).getD w.toNat 0 = p * (choice z k ps qs v a b).getD w.toNat 0 * c from by rw [Int.mul_assoc, Int.mul_comm c, ← Int.mul_assoc]]
    exact reW_mul a b l _ _ c
theorem reW_0 (a b : Int) : ∀ (l : List Int) (v : Int), reW z k ps qs a b l v 0 = 0
  | [], _ => rfl
  | w :: l, v => by unfold reW; rw [Int.zero_mul]; exact reW_0 a b l _
/-- Places that lead from a node to a node. -/
def Leads (z : List Nd) : List Int → Int → Int → Prop
  | [], v, n => v = n
  | w :: l, v, n => ((0 ≤ v ∧ v < z.length) ∧ (0 ≤ w ∧ w < (z.getD v.toNat dN).ch.length)) ∧ Leads z l ((z.getD v.toNat dN).ch.getD w.toNat 0) n
theorem Leads.app {n m w : Int} (hn : 0 ≤ n ∧ n < z.length) (hw : 0 ≤ w ∧ w < (z.getD n.toNat dN).ch.length) (hm : (z.getD n.toNat dN).ch.getD w.toNat 0 = m) : ∀ {l : List Int} {v : Int}, Leads z l v n → Leads z (l ++ [w]) v m
  | [], v, h => by cases h; exact ⟨⟨hn, hw⟩, hm⟩
  | x :: l, v, h => ⟨h.1, Leads.app hn hw hm h.2⟩
theorem indexOf_at {l : List Int} {v : Int} (h : v ∈ l) : (0 ≤ indexOf l v ∧ indexOf l v < l.length) ∧ l.getD (indexOf l v).toNat 0 = v := by
  have h0 : 0 ≤ indexOf l v := by
    rcases Int.lt_or_le (indexOf l v) 0 with h1 | h1
    · exact absurd h (indexOf_nmem (by omega))
    · exact h1
  have hle := indexOf_le (l := l) (v := v)
  refine ⟨⟨h0, hle.2⟩, ?_⟩
  obtain ⟨j, hj, hv⟩ := mem_getD 0 h
  have key : ∀ n j, j = n → j < l.length → l.getD j 0 = v → l.getD (indexOf l v).toNat 0 = v := by
    intro n
    induction n using Nat.strongRecOn with
    | _ n ih =>
      intro j hjn hj hv
      by_cases hf : ∀ i, i < j → l.getD i 0 ≠ v
      · rw [indexOf_yes hj hv hf, Int.toNat_natCast]; exact hv
      · obtain ⟨i, hf⟩ := Classical.not_forall.1 hf
        obtain ⟨hi, hiv⟩ := Classical.not_imp.1 hf
        exact ih i (by omega) i rfl (by omega) (Classical.not_not.1 hiv)
  exact key j j rfl hj hv
theorem Way.leads (hok : allOk z = true) {n : Int} {l : List Int} (h : Way z n l) : n < z.length → Leads z l 0 n := by
  induction h with
  | root => intro _; rfl
  | @step i n l ha hb hc hd ih =>
    intro hn
    have hx := indexOf_at hc
    refine Leads.app (n := (i : Int)) (by omega) ?_ ?_ (ih (by omega))
    · rw [Int.toNat_natCast]; exact hx.1
    · rw [Int.toNat_natCast]; exact hx.2
theorem kid_pl (hok : allOk z = true) {v : Int} (hv : 0 ≤ v ∧ v < z.length) {w : Int} (hw : 0 ≤ w ∧ w < (z.getD v.toNat dN).ch.length) : (z.getD v.toNat dN).pl ≠ 2 ∧ (v + 1 ≤ (z.getD v.toNat dN).ch.getD w.toNat 0 ∧ (z.getD v.toNat dN).ch.getD w.toNat 0 < z.length) := by
  have ho := ok_pl (allOk_iff.1 hok v.toNat (by omega))
  have hk := ok_kid (allOk_iff.1 hok v.toNat (by omega)) (getD_mem 0 (show w.toNat < (z.getD v.toNat dN).ch.length by omega))
  exact ⟨fun h => by have := ho.2.2.2.2.2.1 h; omega, by omega⟩
theorem leads_depth (hok : allOk z = true) {n : Int} : ∀ {l : List Int} {v : Int}, Leads z l v n → (0 ≤ v ∧ v < z.length) → (l.length : Int) ≤ depth z v.toNat ∧ (0 ≤ n ∧ n < z.length)
  | [], v, h, hv => by have h' : v = n := h; rw [← h']; have := depth_bd' rfl hok (i := v.toNat) (by omega); exact ⟨by simp; omega, hv⟩
  | w :: l, v, h, hv => by
    have hw : 0 ≤ w ∧ w < (z.getD v.toNat dN).ch.length := h.1.2
    have hk := kid_pl hok hv hw
    have ih := leads_depth hok h.2 (by omega)
    have hd := depth_kid hok hv hk.1 (getD_mem 0 (show w.toNat < (z.getD v.toNat dN).ch.length by omega))
    rw [List.length_cons]
    exact ⟨by omega, ih.2⟩
theorem reW_bd (h : Pair z ws vs ps qs) (hk : ws.length = k) {a b : Int} (ha : 0 ≤ a ∧ a < k) (hb : 0 ≤ b ∧ b < k) {n : Int} : ∀ {l : List Int} {v p : Int}, Leads z l v n → 0 ≤ p → 0 ≤ reW z k ps qs a b l v p ∧ reW z k ps qs a b l v p ≤ p * p60 l.length
  | [], v, p, _, hp => ⟨hp, by show p ≤ p * 1; omega⟩
  | w :: l, v, p, hl, hp => by
    have hw : 0 ≤ w ∧ w < (z.getD v.toNat dN).ch.length := hl.1.2
    have hk2 := kid_pl (isTree_ok (isGame_ok h.g).1).2.1 hl.1.1 hl.1.2
    have hc := choice_ok h hk hl.1.1 hk2.1 ha hb
    have hm := hc.2.1 _ (getD_mem 0 (show w.toNat < (choice z k ps qs v a b).length by rw [hc.1]; omega))
    have ih := reW_bd h hk ha hb hl.2 (Int.mul_nonneg hp hm.1)
    refine ⟨ih.1, Int.le_trans ih.2 ?_⟩
    have hp6 : 0 ≤ p60 l.length := by unfold p60; exact Int.le_of_lt (Int.pow_pos (by decide))
    have h1 : p * (choice z k ps qs v a b).getD w.toNat 0 ≤ p * 60 := Int.mul_le_mul_of_nonneg_left hm.2 hp
    have h2 := Int.mul_le_mul_of_nonneg_right h1 hp6
    rw [List.length_cons, p60_s]
    have h3 : p * 60 * p60 l.length = p * (p60 l.length * 60) := by rw [Int.mul_assoc, Int.mul_comm 60]
    omega
/-- One deal, and all, that reach a node. -/
noncomputable def reN (z : List Nd) (ws : List (List Int)) (k : Nat) (ps qs : List (List Int)) (n : Int) (a b : Nat) : Int := reW z k ps qs (a : Int) (b : Int) (wayOf z n) 0 ((ws.getD a []).getD b 0) * p60 (depth z 0 - ((wayOf z n).length : Int)).toNat
noncomputable def reRow (z : List Nd) (ws : List (List Int)) (k : Nat) (ps qs : List (List Int)) (n : Int) (a m : Nat) : Int := (mapR (fun b => reN z ws k ps qs n a b) m).sum
noncomputable def reTo (z : List Nd) (ws : List (List Int)) (k : Nat) (ps qs : List (List Int)) (n : Int) (i : Nat) : Int := (mapR (fun a => reRow z ws k ps qs n a k) i).sum
theorem reRow_s (n : Int) (a m : Nat) : reRow z ws k ps qs n a (m + 1) = reRow z ws k ps qs n a m + reN z ws k ps qs n a m := mapR_suc _ _
theorem reTo_s (n : Int) (i : Nat) : reTo z ws k ps qs n (i + 1) = reTo z ws k ps qs n i + reRow z ws k ps qs n i k := mapR_suc _ _
theorem way_leads (ht : isTree z = true) {n : Int} (hn : 0 ≤ n ∧ n < z.length) : Leads z (wayOf z n) 0 n ∧ ((wayOf z n).length : Int) ≤ depth z 0 := by
  have hT := isTree_ok ht
  have h1 := (wayOf_way hT.2.1 hT.2.2.1 hn.1 hn.2).leads hT.2.1 hn.2
  exact ⟨h1, (leads_depth hT.2.1 h1 (by omega)).1⟩
theorem mul60 {c d : Int} (hd : 0 ≤ d) {e : Nat} (hc : 0 ≤ c ∧ c ≤ 9 * p60 e) (he : (e : Int) ≤ d) (hd5 : d ≤ 5) : 0 ≤ c * p60 (d - (e : Int)).toNat ∧ c * p60 (d - (e : Int)).toNat ≤ 6998400000 := by
  have h1 : 0 ≤ p60 (d - (e : Int)).toNat := by unfold p60; exact Int.le_of_lt (Int.pow_pos (by decide))
  refine ⟨Int.mul_nonneg hc.1 h1, ?_⟩
  have h2 := Int.mul_le_mul_of_nonneg_right hc.2 h1
  have h3 : p60 e * p60 (d - (e : Int)).toNat = p60 d.toNat := by
    unfold p60; rw [← Int.pow_add]; congr 1; omega
  rw [Int.mul_assoc, h3] at h2
  have := p60_5 (k := d.toNat) (by omega)
  omega
theorem reN_bd (h : Pair z ws vs ps qs) (hk : ws.length = k) {n : Int} (hn : 0 ≤ n ∧ n < z.length) {a b : Nat} (ha : a < k) (hb : b < k) : 0 ≤ reN z ws k ps qs n a b ∧ reN z ws k ps qs n a b ≤ 6998400000 := by
  have hG := isGame_ok h.g
  have hT := isTree_ok hG.1
  have hl := way_leads hG.1 hn
  have hw : 0 ≤ (ws.getD a []).getD b 0 ∧ (ws.getD a []).getD b 0 ≤ 9 := by subst hk; exact row_at (mat_row hG.2.2.1 ha) hb
  have h1 := reW_bd h hk (a := (a : Int)) (b := (b : Int)) (by omega) (by omega) hl.1 hw.1
  have hp6 : 0 ≤ p60 (wayOf z n).length := by unfold p60; exact Int.le_of_lt (Int.pow_pos (by decide))
  have h2 := Int.mul_le_mul_of_nonneg_right hw.2 hp6
  exact mul60 hT.2.2.2.1 ⟨h1.1, Int.le_trans h1.2 h2⟩ hl.2 hT.2.2.2.2
theorem reRow_bd (h : Pair z ws vs ps qs) (hk : ws.length = k) {n : Int} (hn : 0 ≤ n ∧ n < z.length) {a : Nat} (ha : a < k) : ∀ m, m ≤ k → 0 ≤ reRow z ws k ps qs n a m ∧ reRow z ws k ps qs n a m ≤ 6998400000 * m
  | 0, _ => by show (0 : Int) ≤ (0 : Int) ∧ (0 : Int) ≤ _; omega
  | m + 1, hm => by
    have h1 := reRow_bd h hk hn ha m (by omega)
    have h2 := reN_bd h hk hn ha (show m < k by omega)
    rw [reRow_s]; omega
theorem reTo_bd (h : Pair z ws vs ps qs) (hk : ws.length = k) {n : Int} (hn : 0 ≤ n ∧ n < z.length) : ∀ i, i ≤ k → 0 ≤ reTo z ws k ps qs n i ∧ reTo z ws k ps qs n i ≤ 41990400000 * i
  | 0, _ => by show (0 : Int) ≤ (0 : Int) ∧ (0 : Int) ≤ _; omega
  | i + 1, hi => by
    have h1 := reTo_bd h hk hn i (by omega)
    have h2 := reRow_bd h hk hn (show i < k by omega) k (Nat.le_refl _)
    have h3 := (isGame_ok h.g).2.1
    rw [reTo_s]; omega
end
end Go.Proofs.Ytjengglpbdgmnaa.Math
