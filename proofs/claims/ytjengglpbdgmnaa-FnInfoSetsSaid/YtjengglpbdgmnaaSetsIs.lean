/- Plain facts on payoffs, information sets, strategies. No condition. -/
import Derived.Test.YtjengglpbdgmnaaGameIs
namespace Go.Proofs.Ytjengglpbdgmnaa.Math
open Go.Proofs.Ytjengglpbdgmnaa.V
set_option linter.unusedVariables false
set_option linter.unusedSimpArgs false
/-- What player 0 gets at an end. -/
def payoffX (x : Nd) (w : Int) : Int :=
  if x.fo = 0 then -x.p0 else if x.fo = 1 then x.p1 else if w = 1 then x.p1 else if w = -1 then -x.p0 else 0
def payoffOf (z : List Nd) (ws vs : List (List Int)) (node a b : Int) : Int × Int :=
  if isGame z ws vs = true then
    if (0 ≤ node ∧ node ≤ (z.length : Int) - 1) ∧ (0 ≤ a ∧ a ≤ (ws.length : Int) - 1) ∧ (0 ≤ b ∧ b ≤ (ws.length : Int) - 1) then
      if (z.getD node.toNat dN).pl = 2 then (payoffX (z.getD node.toNat dN) ((vs.getD a.toNat []).getD b.toNat 0), 0) else (0, 5)
    else (0, 2)
  else (0, 1)
/-- Information sets: nodes and cards. -/
def setsOf (xs : List Int) (k : Nat) : List (List Int) := xs.flatMap fun n => (List.range k).map fun (c : Nat) => [n, (c : Int)]
def setsTo (xs : List Int) (k i j : Nat) : List (List Int) := setsOf (xs.take i) k ++ (List.range j).map fun (c : Nat) => [xs.getD i 0, (c : Int)]
theorem setsTo_cell {xs : List Int} {k i j : Nat} : setsTo xs k i (j + 1) = setsTo xs k i j ++ [[xs.getD i 0, (j : Int)]] := by
  unfold setsTo; rw [List.range_succ, List.map_append, ← List.append_assoc]; rfl
theorem setsTo_row {xs : List Int} {k i j : Nat} (h : i < xs.length) (hj : j = k) : setsTo xs k i j = setsTo xs k (i + 1) 0 := by
  subst hj; unfold setsTo; rw [take_step 0 h]; simp [setsOf, List.flatMap_append]
theorem setsTo_end {xs : List Int} {k i : Nat} (h : xs.length ≤ i) : setsTo xs k i 0 = setsOf xs k := by
  unfold setsTo; rw [List.take_of_length_le h]; simp
theorem setsOf_len (xs : List Int) (k : Nat) : (setsOf xs k).length = xs.length * k := by
  induction xs with
  | nil => simp [setsOf]
  | cons x xs ih =>
    have h : setsOf (x :: xs) k = ((List.range k).map fun (c : Nat) => [x, (c : Int)]) ++ setsOf xs k := rfl
    rw [h, List.length_append, ih, List.length_map, List.length_range, List.length_cons, Nat.succ_mul, Nat.add_comm]
theorem setsOf_at {xs : List Int} {k i : Nat} (h : i < (setsOf xs k).length) : ∃ n c : Int, n ∈ xs ∧ (0 ≤ c ∧ c < k) ∧ (setsOf xs k).getD i [] = [n, c] := by
  have hm := getD_mem [] h
  generalize (setsOf xs k).getD i [] = s at hm
  simp only [setsOf, List.mem_flatMap, List.mem_map, List.mem_range] at hm
  obtain ⟨n, hn, c, hc, rfl⟩ := hm
  exact ⟨n, c, hn, by omega, rfl⟩
theorem nodesOf_mem {z : List Nd} {p n : Int} (h : n ∈ nodesOf z p) : (0 ≤ n ∧ n < z.length) ∧ (z.getD n.toNat dN).pl = p := by
  simp only [nodesOf, List.mem_map, List.mem_filter, List.mem_range, decide_eq_true_eq] at h
  obtain ⟨i, ⟨hi, hp⟩, rfl⟩ := h
  exact ⟨by omega, by simpa using hp⟩
/-- The sets of a player. -/
def sets (z : List Nd) (k : Nat) (p : Int) : List (List Int) := setsOf (nodesOf z p) k
theorem sets_at {z : List Nd} {k : Nat} {p : Int} {i : Nat} (h : i < (sets z k p).length) : ((sets z k p).getD i []).length = 2 ∧ (0 ≤ ((sets z k p).getD i []).getD 0 0 ∧ ((sets z k p).getD i []).getD 0 0 < z.length) ∧ (z.getD (((sets z k p).getD i []).getD 0 0).toNat dN).pl = p := by
  obtain ⟨n, c, hn, hc, hs⟩ := setsOf_at h
  have he : (sets z k p).getD i [] = [n, c] := hs
  rw [he]
  exact ⟨rfl, (nodesOf_mem hn).1, (nodesOf_mem hn).2⟩
theorem sets_len {z : List Nd} {k : Nat} {p : Int} (hk : k ≤ 6) : (sets z k p).length ≤ 6 * z.length := by
  unfold sets; rw [setsOf_len]
  have := nodesOf_len z p
  calc (nodesOf z p).length * k ≤ z.length * 6 := Nat.mul_le_mul this hk
    _ = 6 * z.length := Nat.mul_comm _ _
def setsAt (z : List Nd) (ws vs : List (List Int)) (p : Int) : List (List Int) × Int :=
  if isGame z ws vs = true then if 0 ≤ p ∧ p ≤ 1 then (sets z ws.length p, 0) else ([], 2) else ([], 1)
/-- The children of the node of a set. -/
def wide (z : List Nd) (s : List Int) : Nat := (z.getD (s.getD 0 0).toNat dN).ch.length
/-- Parts of one set. -/
def partB (z : List Nd) (s r : List Int) : Bool := rowB (wide z s) 0 60 r && decide (r.sum = 60)
def partsB (z : List Nd) (ss ps : List (List Int)) : Bool := decide (ps.length = ss.length) && (List.range ss.length).all fun i => partB z (ss.getD i []) (ps.getD i [])
section
variable {z : List Nd} {s r : List Int} {ss ps : List (List Int)} {i : Nat}
theorem part_no1 (h : (r.length : Int) ≠ (wide z s : Int)) : partB z s r = false := by unfold partB; rw [row_no1 h, Bool.false_and]
theorem part_no2 (h : r.all (inB 0 60) = false) : partB z s r = false := by unfold partB; rw [row_no2 h, Bool.false_and]
theorem part_no3 (h : r.sum ≠ 60) : partB z s r = false := by unfold partB; rw [decide_eq_false h, Bool.and_false]
theorem part_yes (h1 : (r.length : Int) = (wide z s : Int)) (h2 : r.all (inB 0 60) = true) (h3 : r.sum = 60) : partB z s r = true := by
  unfold partB; rw [row_yes h1 h2, decide_eq_true h3]; rfl
theorem parts_no0 (h : (ps.length : Int) ≠ (ss.length : Int)) : partsB z ss ps = false := by
  have : ¬ ps.length = ss.length := by omega
  simp [partsB, this]
theorem parts_no (hi : i < ss.length) (h : partB z (ss.getD i []) (ps.getD i []) = false) : partsB z ss ps = false := by
  unfold partsB
  rw [Bool.eq_false_iff]; intro h'
  rw [Bool.and_eq_true] at h'
  have := List.all_eq_true.1 h'.2 i (List.mem_range.2 hi)
  rw [h] at this; cases this
theorem parts_yes (h : ps.length = ss.length) (h2 : ∀ i, i < ss.length → partB z (ss.getD i []) (ps.getD i []) = true) : partsB z ss ps = true := by
  unfold partsB; rw [decide_eq_true h, Bool.true_and]
  exact List.all_eq_true.2 fun i hi => h2 i (List.mem_range.1 hi)
theorem all60 (h : r.all (inB 0 60) = true) : ∀ x ∈ r, 0 ≤ x ∧ x ≤ 1000000000 := fun x hx => by
  have := List.all_eq_true.1 h x hx
  simp only [inB, decide_eq_true_eq] at this
  omega
end
def isStrat (z : List Nd) (ws vs : List (List Int)) (pl : Int) (ps : List (List Int)) : Bool :=
  isGame z ws vs && (decide (0 ≤ pl ∧ pl ≤ 1) && partsB z (sets z ws.length pl) ps)
/-- The number of pure strategies. -/
def countL : List Int → Int → Option Int
  | [], n => some n
  | x :: l, n => if n * x > 1000000000 then none else countL l (n * x)
def sizes (z : List Nd) (ss : List (List Int)) : List Int := ss.map fun s => (wide z s : Int)
theorem sizes_at {z : List Nd} {ss : List (List Int)} {i : Nat} (h : i < ss.length) : (sizes z ss).getD i 0 = (wide z (ss.getD i []) : Int) := by
  simp [sizes, List.getD, List.getElem?_eq_getElem h]
theorem sizes_len {z : List Nd} {ss : List (List Int)} : (sizes z ss).length = ss.length := by simp [sizes]
theorem sizes_step {z : List Nd} {ss : List (List Int)} {i : Nat} (h : i < ss.length) : sizes z (ss.take (i + 1)) = sizes z (ss.take i) ++ [((z.getD ((ss.getD i []).getD 0 0).toNat dN).ch.length : Int)] := by
  unfold sizes; rw [take_step [] h, List.map_append]; rfl
def countOf (z : List Nd) (ws vs : List (List Int)) (p : Int) : Int × Int :=
  if isGame z ws vs = true then
    if 0 ≤ p ∧ p ≤ 1 then
      match countL (sizes z (sets z ws.length p)) 1 with
      | some n => (n, 0)
      | none => (0, 3)
    else (0, 2)
  else (0, 1)
def codeOf (z : List Nd) (ws vs : List (List Int)) (p : Int) : Int := if isGame z ws vs = true then if 0 ≤ p ∧ p ≤ 1 then 0 else 2 else 1
theorem code_ok {z : List Nd} {ws vs : List (List Int)} {p : Int} (h : codeOf z ws vs p = 0) : isGame z ws vs = true ∧ (0 ≤ p ∧ p ≤ 1) := by
  unfold codeOf at h; split at h
  · split at h
    · exact ⟨by assumption, by assumption⟩
    · cases h
  · cases h
theorem wide_le {z : List Nd} {ws vs : List (List Int)} {s : List Int} (hg : isGame z ws vs = true) (h : 0 ≤ s.getD 0 0 ∧ s.getD 0 0 < z.length) : wide z s ≤ 4 :=
  (ok_pl (allOk_iff.1 (isTree_ok (isGame_ok hg).1).2.1 (s.getD 0 0).toNat (by omega))).2.2.2.2.1
theorem strat_no1 {z : List Nd} {ws vs : List (List Int)} {pl : Int} {ps : List (List Int)} (h : isGame z ws vs = false) : isStrat z ws vs pl ps = false := by unfold isStrat; rw [h, Bool.false_and]
theorem strat_no2 {z : List Nd} {ws vs : List (List Int)} {pl : Int} {ps : List (List Int)} (h : ¬ (0 ≤ pl ∧ pl ≤ 1)) : isStrat z ws vs pl ps = false := by unfold isStrat; rw [decide_eq_false h, Bool.false_and, Bool.and_false]
theorem strat_in {z : List Nd} {ws vs : List (List Int)} {pl : Int} {ps : List (List Int)} {k : Nat} (hk : ws.length = k) (hg : isGame z ws vs = true) (h : 0 ≤ pl ∧ pl ≤ 1) : isStrat z ws vs pl ps = partsB z (sets z k pl) ps := by subst hk; unfold isStrat; rw [hg, decide_eq_true h, Bool.true_and, Bool.true_and]
theorem sumK_bd {α : Type} (f : α → Nat) (B : Nat) : ∀ l : List α, (∀ x ∈ l, f x ≤ B) → sumK f l ≤ B * l.length
  | [], _ => by simp [sumK]
  | x :: l, h => by
    have h1 := sumK_bd f B l fun y hy => h y (List.mem_cons_of_mem _ hy)
    have h2 := h x (List.mem_cons_self ..)
    have h3 : sumK f (x :: l) = f x + sumK f l := rfl
    rw [h3, List.length_cons, Nat.mul_succ]; omega
theorem sets_row {z : List Nd} {k : Nat} {p : Int} {s : List Int} (h : s ∈ sets z k p) : s.length = 2 := by
  simp only [sets, setsOf, List.mem_flatMap, List.mem_map, List.mem_range] at h
  obtain ⟨n, hn, c, hc, rfl⟩ := h; rfl
theorem setsAt_bd (z : List Nd) (ws vs : List (List Int)) (p : Int) : (setsAt z ws vs p).1.length ≤ 360 ∧ sumK rwl (setsAt z ws vs p).1 ≤ 720 := by
  unfold setsAt; split
  · rename_i hg; split
    · have h1 := (isGame_ok hg).2.1; have h2 := (isTree_ok (isGame_ok hg).1).1
      have h3 := sets_len (z := z) (p := p) (show ws.length ≤ 6 by omega)
      have h4 := sumK_bd rwl 2 (sets z ws.length p) fun s hs => by unfold rwl; rw [sets_row hs]; exact Nat.le_refl _
      dsimp only; omega
    · exact ⟨Nat.zero_le _, Nat.zero_le _⟩
  · exact ⟨Nat.zero_le _, Nat.zero_le _⟩
end Go.Proofs.Ytjengglpbdgmnaa.Math
