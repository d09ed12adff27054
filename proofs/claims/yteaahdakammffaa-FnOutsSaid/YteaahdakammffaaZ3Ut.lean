/- Plain facts: values of hands, as the program reckons them. No condition. -/
import Derived.Test.YteaahdakammffaaZ2Ut
import Derived.Test.YteaahdakammffaaZ1Ut
import Derived.Test.YteaahdakammffaaRows
import Derived.LoopNIn
namespace Go.Proofs.Yteaahdakammffaa.Hd
open Go.Proofs.Yteaahdakammffaa.V Go.Proofs.Yteaahdakammffaa.Iso
set_option linter.unusedVariables false
set_option linter.unusedSimpArgs false
theorem natAt (l : List Nat) (k : Nat) : (l.map Int.ofNat).getD k 0 = ((l.getD k 0 : Nat) : Int) := by
  simp only [List.getD_eq_getElem?_getD, List.getElem?_map]
  cases l[k]? <;> rfl
/-- The value of a category and digits. -/
def V (c : Int) (ds : List Int) : Int := ds.foldl (fun v d => v * 13 + d) c
theorem V_snoc (c : Int) (ds : List Int) (d : Int) : V c (ds ++ [d]) = V c ds * 13 + d := by simp [V, List.foldl_append]
theorem V_take {c : Int} {z : List Int} {i : Nat} (h : i < z.length) : V c (z.take (i + 1)) = V c (z.take i) * 13 + z.getD i 0 := by rw [take_snoc h, V_snoc]
def digs13 (z : List Int) : Prop := ∀ x ∈ z, 0 ≤ x ∧ x ≤ 12
theorem V_bd : ∀ {z : List Int} {c : Int}, digs13 z → 0 ≤ c → 0 ≤ V c z ∧ V c z ≤ (c + 1) * 13 ^ z.length - 1
  | [], c, _, h => by simp [V]; omega
  | x :: z, c, hz, h => by
    have hx := hz x (by simp)
    have ih := V_bd (z := z) (c := c * 13 + x) (fun y hy => hz y (by simp [hy])) (by omega)
    refine ⟨ih.1, Int.le_trans ih.2 ?_⟩
    have h1 : (c * 13 + x + 1) * 13 ^ z.length ≤ ((c + 1) * 13) * 13 ^ z.length := Int.mul_le_mul_of_nonneg_right (by omega) (Int.pow_nonneg (by omega))
    simp only [List.length_cons, Int.pow_succ]
    have h2 : (c + 1) * (13 ^ z.length * 13) = ((c + 1) * 13) * (13 : Int) ^ z.length := by rw [Int.mul_comm ((13 : Int) ^ z.length) 13, Int.mul_assoc]
    rw [h2]; omega
theorem pow13 {k : Nat} (h : k ≤ 5) : (13 : Int) ^ k ≤ 371293 := by
  have : k = 0 ∨ k = 1 ∨ k = 2 ∨ k = 3 ∨ k = 4 ∨ k = 5 := by omega
  rcases this with rfl | rfl | rfl | rfl | rfl | rfl <;> decide
theorem V_le {z : List Int} {c : Int} (hz : digs13 z) (hc : 0 ≤ c ∧ c ≤ 8) (hl : z.length ≤ 5) : 0 ≤ V c z ∧ V c z ≤ 3341636 := by
  have h1 := V_bd hz hc.1
  have h2 := pow13 hl
  have h4 : (0 : Int) ≤ 13 ^ z.length := Int.pow_nonneg (by omega)
  have h3 : (c + 1) * 13 ^ z.length ≤ 9 * 371293 := Int.mul_le_mul (by omega) h2 h4 (by omega)
  omega
theorem digs_take {z : List Int} (h : digs13 z) (i : Nat) : digs13 (z.take i) := fun x hx => h x (List.mem_of_mem_take hx)
theorem digs_app {a b : List Int} (ha : digs13 a) (hb : digs13 b) : digs13 (a ++ b) := fun x hx => (List.mem_append.1 hx).elim (ha x) (hb x)
/-- How many of a list have which number. -/
def tally (f : Int → Int) (n : Nat) (z : List Int) : List Int := (List.range n).map fun r : Nat => (z.countP (fun x => decide (f x = (r : Int))) : Int)
theorem tally_len (f : Int → Int) (n : Nat) (z : List Int) : (tally f n z).length = n := by simp [tally]
theorem tally_nil (f : Int → Int) (n : Nat) : tally f n [] = List.replicate n 0 := by
  unfold tally
  rw [List.eq_replicate_iff]
  refine ⟨by simp, fun x hx => ?_⟩
  obtain ⟨r, -, rfl⟩ := List.mem_map.1 hx
  rfl
theorem tally_get {f : Int → Int} {n : Nat} {z : List Int} {r : Nat} (h : r < n) : (tally f n z).getD r 0 = (z.countP (fun x => decide (f x = (r : Int))) : Int) := by
  rw [gdE (by rw [tally_len]; exact h)]; simp [tally]
theorem tally_step {f : Int → Int} {n : Nat} {z : List Int} {x : Int} (h : 0 ≤ f x ∧ f x < n) : (tally f n z).set (f x).toNat ((tally f n z).getD (f x).toNat 0 + 1) = tally f n (z ++ [x]) := by
  have hlt : (f x).toNat < n := by omega
  apply List.ext_getElem
  · simp [tally]
  · intro k h1 h2
    rw [List.getElem_set]
    have hk : k < n := by simpa [tally] using h2
    have e1 : (tally f n (z ++ [x]))[k] = (tally f n (z ++ [x])).getD k 0 := (gdE h2).symm
    rw [e1, tally_get hk, List.countP_append]
    by_cases e : (f x).toNat = k
    · rw [if_pos e, e, tally_get hk]
      have : f x = (k : Int) := by omega
      simp [this]
    · rw [if_neg e]
      have e2 : (tally f n z)[k]'(by rw [tally_len]; exact hk) = (tally f n z).getD k 0 := (gdE _).symm
      rw [e2, tally_get hk]
      have : ¬ f x = (k : Int) := by omega
      simp [this]
theorem tally_take {f : Int → Int} {n : Nat} {z : List Int} {i : Nat} (hi : i < z.length) (h : 0 ≤ f (z.getD i 0) ∧ f (z.getD i 0) < n) : (tally f n (z.take i)).set (f (z.getD i 0)).toNat ((tally f n (z.take i)).getD (f (z.getD i 0)).toNat 0 + 1) = tally f n (z.take (i + 1)) := by
  rw [take_snoc hi]; exact tally_step h
theorem tally_bd {f : Int → Int} {n : Nat} {z : List Int} {r : Nat} (h : r < n) : 0 ≤ (tally f n z).getD r 0 ∧ (tally f n z).getD r 0 ≤ z.length := by
  rw [tally_get h]
  have := List.countP_le_length (p := fun x => decide (f x = (r : Int))) (l := z)
  omega
abbrev rk (x : Int) : Int := x / 4
abbrev su (x : Int) : Int := x % 4
/-- Sets of ranks, as bits. -/
def bits : List Nat → Nat := List.foldl (fun m r => m ||| 2 ^ r) 0
theorem bits_snoc (l : List Nat) (r : Nat) : bits (l ++ [r]) = bits l ||| 2 ^ r := by simp [bits, List.foldl_append]
theorem bits_test (l : List Nat) (k : Nat) : (bits l).testBit k = decide (k ∈ l) := by
  have key : ∀ (l : List Nat) (m : Nat), (l.foldl (fun m r => m ||| 2 ^ r) m).testBit k = (m.testBit k || decide (k ∈ l)) := by
    intro l
    induction l with
    | nil => intro m; simp
    | cons r l ih =>
      intro m
      rw [List.foldl_cons, ih, Nat.testBit_or, Nat.testBit_two_pow]
      by_cases e : r = k
      · subst e; simp
      · have e' : ¬ k = r := fun h => e h.symm
        simp [e, e']
  unfold bits
  rw [key]; simp
theorem bits_lt {l : List Nat} (h : ∀ r ∈ l, r ≤ 12) : bits l < 2 ^ 13 := by
  refine Nat.lt_pow_two_of_testBit _ fun i hi => ?_
  rw [bits_test]
  exact decide_eq_false fun hm => by have := h i hm; omega
def rks (z : List Int) : List Nat := z.map fun x => (rk x).toNat
def mask (z : List Int) : Nat := bits (rks z)
theorem mask_snoc (z : List Int) (x : Int) : mask z ||| 2 ^ (rk x).toNat = mask (z ++ [x]) := by unfold mask rks; rw [List.map_append, ← bits_snoc]; rfl
theorem mask_take {z : List Int} {i : Nat} (h : i < z.length) : mask (z.take i) ||| 2 ^ (rk (z.getD i 0)).toNat = mask (z.take (i + 1)) := by rw [take_snoc h]; exact mask_snoc _ _
def okC (z : List Int) : Prop := ∀ x ∈ z, 0 ≤ x ∧ x ≤ 51
theorem mask_lt {z : List Int} (h : okC z) : mask z < 8192 := bits_lt fun r hr => by
  obtain ⟨x, hx, rfl⟩ := List.mem_map.1 hr
  have := h x hx
  show (x / 4).toNat ≤ 12
  omega
theorem okC_take {z : List Int} (h : okC z) (i : Nat) : okC (z.take i) := fun x hx => h x (List.mem_of_mem_take hx)
/-- The ranks of each suit. -/
def ofSuit (z : List Int) (s : Int) : List Int := z.filter fun x => decide (su x = s)
def smask (z : List Int) : List Nat := (List.range 4).map fun s : Nat => mask (ofSuit z (s : Int))
theorem smask_len (z : List Int) : (smask z).length = 4 := by simp [smask]
theorem smask_get {z : List Int} {s : Nat} (h : s < 4) : (smask z).getD s 0 = mask (ofSuit z (s : Int)) := by
  rw [List.getD_eq_getElem?_getD, List.getElem?_eq_getElem (by rw [smask_len]; exact h)]; simp [smask]
theorem smask_nil : (List.replicate 4 0 : List Int) = (smask []).map Int.ofNat := by decide
theorem okC_suit {z : List Int} (h : okC z) (s : Int) : okC (ofSuit z s) := fun x hx => h x (List.mem_filter.1 hx).1
theorem smask_lt {z : List Int} (h : okC z) {s : Nat} (hs : s < 4) : (smask z).getD s 0 < 8192 := by rw [smask_get hs]; exact mask_lt (okC_suit h _)
theorem smask_step {z : List Int} {x : Int} (h : 0 ≤ x ∧ x ≤ 51) : ((smask z).map Int.ofNat).set (su x).toNat (((smask z).getD (su x).toNat 0 ||| 2 ^ (rk x).toNat : Nat) : Int) = (smask (z ++ [x])).map Int.ofNat := by
  have hlt : (su x).toNat < 4 := by show (x % 4).toNat < 4; omega
  rw [show (((smask z).getD (su x).toNat 0 ||| 2 ^ (rk x).toNat : Nat) : Int) = Int.ofNat ((smask z).getD (su x).toNat 0 ||| 2 ^ (rk x).toNat) from rfl, ← List.map_set]
  congr 1
  apply List.ext_getElem
  · simp [smask]
  · intro k h1 h2
    rw [List.getElem_set]
    have hk : k < 4 := by simpa [smask] using h2
    rw [show (smask (z ++ [x]))[k]'h2 = mask (ofSuit (z ++ [x]) (k : Int)) from by simp [smask], show (smask z)[k]'(by rw [smask_len]; exact hk) = mask (ofSuit z (k : Int)) from by simp [smask]]
    by_cases e : (su x).toNat = k
    · rw [if_pos e, e, smask_get hk, mask_snoc]
      have : su x = (k : Int) := by show x % 4 = _; have : (x % 4).toNat = k := e; omega
      unfold ofSuit; rw [List.filter_append]; simp [this]
    · rw [if_neg e]
      have : ¬ su x = (k : Int) := by intro h'; apply e; rw [h']; simp
      unfold ofSuit; rw [List.filter_append]; simp [this]
theorem smask_take {z : List Int} {i : Nat} (hi : i < z.length) (h : 0 ≤ z.getD i 0 ∧ z.getD i 0 ≤ 51) : ((smask (z.take i)).map Int.ofNat).set (su (z.getD i 0)).toNat (((smask (z.take i)).getD (su (z.getD i 0)).toNat 0 ||| 2 ^ (rk (z.getD i 0)).toNat : Nat) : Int) = (smask (z.take (i + 1))).map Int.ofNat := by
  rw [take_snoc hi]; exact smask_step h
/-- The ranks of a set, the greatest first; 'j' of them are looked at. -/
def descN (m j : Nat) : List Int := ((List.range j).filter fun k => m.testBit (12 - k)).map fun k : Nat => 12 - (k : Int)
theorem descN_yes {m j : Nat} (h : m.testBit (12 - j) = true) : descN m (j + 1) = descN m j ++ [12 - (j : Int)] := by
  unfold descN; rw [List.range_succ, List.filter_append, List.map_append]; simp [h]
theorem descN_no {m j : Nat} (h : m.testBit (12 - j) = false) : descN m (j + 1) = descN m j := by
  unfold descN; rw [List.range_succ, List.filter_append, List.map_append]; simp [h]
theorem descN_digs {m j : Nat} (h : j ≤ 13) : digs13 (descN m j) := fun x hx => by
  obtain ⟨k, hk, rfl⟩ := List.mem_map.1 hx
  have := List.mem_range.1 (List.mem_filter.1 hk).1
  omega
theorem descN_app {m : Nat} : ∀ {i j : Nat}, i ≤ j → ∃ l, descN m j = descN m i ++ l
  | i, 0, h => ⟨[], by rw [show i = 0 by omega]; simp⟩
  | i, j + 1, h => by
    rcases Nat.lt_or_ge i (j + 1) with h1 | h1
    · obtain ⟨l, hl⟩ := descN_app (m := m) (show i ≤ j by omega)
      cases hb : m.testBit (12 - j) with
      | true => exact ⟨l ++ [12 - (j : Int)], by rw [descN_yes hb, hl, List.append_assoc]⟩
      | false => exact ⟨l, by rw [descN_no hb, hl]⟩
    · exact ⟨[], by rw [show i = j + 1 by omega]; simp⟩
theorem bit_iff {m k : Nat} : (((m >>> k &&& 1 : Nat) : Int) = 1) ↔ m.testBit k = true := by
  rw [Nat.testBit_eq_decide_div_mod_eq, decide_eq_true_iff, Nat.and_one_is_mod, Nat.shiftRight_eq_div_pow]
  omega
/-- Some kickers, and the greatest ranks behind them. -/
def topR (c : Int) (m : Nat) (z : List Int) : Int := V c (z ++ (descN m 13).take (5 - z.length))
theorem topR_end {c : Int} {m j : Nat} {z : List Int} (hj : j ≤ 13) (h : z.length + (descN m j).length = 5) : V c (z ++ descN m j) = topR c m z := by
  obtain ⟨l, hl⟩ := descN_app (m := m) hj
  unfold topR
  rw [hl, List.take_append_of_le_length (by omega), List.take_of_length_le (by omega)]
/-- Straights. -/
def strAt (m k : Nat) : Bool := decide (m >>> (8 - k) &&& 31 = 31)
def five (t : Int) : List Int := [t, t - 1, t - 2, t - 3, t - 4]
def wheel : List Int := [3, 2, 1, 0, 12]
def strIn (c : Int) (m : Nat) (al : Bool) : Int := match (List.range 9).find? (strAt m) with
  | some k => V c (five (12 - (k : Int)))
  | none => if al = true ∧ m &&& 4111 = 4111 then V c wheel else -1
theorem find_here {p : Nat → Bool} {n k : Nat} (hk : k < n) (h1 : p k = true) (h : ∀ j, j < k → p j = false) : (List.range n).find? p = some k := by
  rw [List.find?_range_eq_some]
  exact ⟨h1, by simpa using hk, fun j hj => by simp [h j hj]⟩
theorem find_none {p : Nat → Bool} {n : Nat} (h : ∀ j, j < n → p j = false) : (List.range n).find? p = none := by
  rw [List.find?_eq_none]
  intro x hx
  simp [h x (by simpa using hx)]
theorem strIn_here {c : Int} {m k : Nat} {al : Bool} (hk : k < 9) (h1 : strAt m k = true) (h : ∀ j, j < k → strAt m j = false) : strIn c m al = V c (five (12 - (k : Int))) := by
  unfold strIn; rw [find_here hk h1 h]
theorem strIn_wheel {c : Int} {m : Nat} {al : Bool} (h : ∀ j, j < 9 → strAt m j = false) (ha : al = true) (hw : m &&& 4111 = 4111) : strIn c m al = V c wheel := by
  unfold strIn; rw [find_none h]; simp [ha, hw]
theorem strIn_no {c : Int} {m : Nat} {al : Bool} (h : ∀ j, j < 9 → strAt m j = false) (hw : ¬ (al = true ∧ m &&& 4111 = 4111)) : strIn c m al = -1 := by
  unfold strIn; rw [find_none h]; simp only [if_neg hw]
theorem strIn_bd {c : Int} {m : Nat} {al : Bool} (hc : 0 ≤ c ∧ c ≤ 8) : -1 ≤ strIn c m al ∧ strIn c m al ≤ 3341636 := by
  unfold strIn
  split
  · rename_i k hk
    have hlt : k < 9 := by
      have := List.mem_of_find?_eq_some hk
      simpa using this
    have := V_le (z := five (12 - (k : Int))) (c := c) (fun x hx => by simp [five] at hx; omega) hc (by simp [five])
    omega
  · split
    · have := V_le (z := wheel) (c := c) (by unfold digs13 wheel; decide) hc (by decide)
      omega
    · omega
/-- Four, three and two of a rank, from the greatest rank down. -/
def scanStep (n r : Int) (q : Int × Int × Int × Int) : Int × Int × Int × Int :=
  if n = 4 ∧ q.1 < 0 then (r, q.2.1, q.2.2.1, q.2.2.2) else if 3 ≤ n ∧ q.2.1 < 0 then (q.1, r, q.2.2.1, q.2.2.2) else if 2 ≤ n ∧ q.2.2.1 < 0 then (q.1, q.2.1, r, q.2.2.2) else if 2 ≤ n ∧ q.2.2.2 < 0 then (q.1, q.2.1, q.2.2.1, r) else q
def scanTo (cs : List Int) : Nat → Int × Int × Int × Int
  | 0 => (-1, -1, -1, -1)
  | j + 1 => scanStep (cs.getD (12 - j) 0) (12 - (j : Int)) (scanTo cs j)
/-- The flush of the suits looked at. -/
def flTo (ms : List Nat) (ns : List Int) : Nat → Int
  | 0 => -1
  | s + 1 => if ns.getD s 0 < 5 then flTo ms ns s else topR 5 (ms.getD s 0) []
theorem flTo_lt {ms : List Nat} {ns : List Int} {s : Nat} (h : ns.getD s 0 < 5) : flTo ms ns s = flTo ms ns (s + 1) := (if_pos h : (if ns.getD s 0 < 5 then flTo ms ns s else topR 5 (ms.getD s 0) []) = _).symm
theorem flTo_ge {ms : List Nat} {ns : List Int} {s : Nat} (h : ¬ ns.getD s 0 < 5) : topR 5 (ms.getD s 0) [] = flTo ms ns (s + 1) := (if_neg h : (if ns.getD s 0 < 5 then flTo ms ns s else topR 5 (ms.getD s 0) []) = _).symm
theorem scan_next {cs : List Int} {j : Nat} {f t u v f' t' u' v' : Int} (hj : j < 13) (h : (f, t, u, v) = scanTo cs j) (h' : (f', t', u', v') = scanStep (cs.getD (12 - (j : Int)).toNat 0) (12 - (j : Int)) (f, t, u, v)) : (f', t', u', v') = scanTo cs (j + 1) := by
  rw [show (12 - (j : Int)).toNat = 12 - j by omega] at h'
  rw [h', h]; rfl
def sfAt (z : List Int) (al : Bool) (s : Nat) : Bool := decide (5 ≤ (tally su 4 z).getD s 0 ∧ 0 ≤ strIn 8 ((smask z).getD s 0) al)
theorem sfAt_lt {z : List Int} {al : Bool} {s : Nat} (h : (tally su 4 z).getD s 0 < 5) : sfAt z al s = false := decide_eq_false (by omega)
theorem sfAt_no {z : List Int} {al : Bool} {s : Nat} (h : ¬ 0 ≤ strIn 8 ((smask z).getD s 0) al) : sfAt z al s = false := decide_eq_false (by omega)
theorem sfAt_yes {z : List Int} {al : Bool} {s : Nat} (h : ¬ (tally su 4 z).getD s 0 < 5) (h2 : 0 ≤ strIn 8 ((smask z).getD s 0) al) : sfAt z al s = true := decide_eq_true (by omega)
def noBit (m : Nat) (k : Int) : Nat := m ^^^ (m &&& 2 ^ k.toNat)
def rest (z : List Int) (al : Bool) (fl : Int) (q : Int × Int × Int × Int) : Int :=
  if 0 ≤ q.1 then topR 7 (noBit (mask z) q.1) [q.1, q.1, q.1, q.1]
  else if 0 ≤ q.2.1 ∧ 0 ≤ q.2.2.1 then V 6 [q.2.1, q.2.1, q.2.1, q.2.2.1, q.2.2.1]
  else if 0 ≤ fl then fl
  else if 0 ≤ strIn 4 (mask z) al then strIn 4 (mask z) al
  else if 0 ≤ q.2.1 then topR 3 (noBit (mask z) q.2.1) [q.2.1, q.2.1, q.2.1]
  else if 0 ≤ q.2.2.2 then topR 2 (mask z ^^^ (mask z &&& (2 ^ q.2.2.1.toNat ||| 2 ^ q.2.2.2.toNat))) [q.2.2.1, q.2.2.1, q.2.2.2, q.2.2.2]
  else if 0 ≤ q.2.2.1 then topR 1 (noBit (mask z) q.2.2.1) [q.2.2.1, q.2.2.1]
  else topR 0 (mask z) []
/-- The value of a hand, as the program reckons it. -/
def valN (z : List Int) (al : Bool) : Int := match (List.range 4).find? (sfAt z al) with
  | some s => strIn 8 ((smask z).getD s 0) al
  | none => rest z al (flTo (smask z) (tally su 4 z) 4) (scanTo (tally rk 13 z) 13)
theorem valN_sf {z : List Int} {al : Bool} {s : Nat} (hs : s < 4) (h1 : sfAt z al s = true) (h : ∀ j, j < s → sfAt z al j = false) : valN z al = strIn 8 ((smask z).getD s 0) al := by
  unfold valN; rw [find_here hs h1 h]
theorem valN_rest {z : List Int} {al : Bool} (h : ∀ j, j < 4 → sfAt z al j = false) : valN z al = rest z al (flTo (smask z) (tally su 4 z) 4) (scanTo (tally rk 13 z) 13) := by
  unfold valN; rw [find_none h]
theorem valN_end {z : List Int} {al : Bool} {s j : Nat} {q : Int × Int × Int × Int} (h : ∀ k, k < s → sfAt z al k = false) (hs : s = 4) (hj : j = 13) (hq : q = scanTo (tally rk 13 z) j) : valN z al = rest z al (flTo (smask z) (tally su 4 z) s) q := by
  subst hs; subst hj; subst hq; exact valN_rest h
theorem scan_bd (cs : List Int) : ∀ (j : Nat) (f t u v : Int), j ≤ 13 → (f, t, u, v) = scanTo cs j → (-1 ≤ f ∧ f ≤ 12) ∧ (-1 ≤ t ∧ t ≤ 12) ∧ (-1 ≤ u ∧ u ≤ 12) ∧ (-1 ≤ v ∧ v ≤ 12)
  | 0, f, t, u, v, _, h => by cases h; decide
  | j + 1, f, t, u, v, hj, h => by
    obtain ⟨⟨f0, t0, u0, v0⟩, h0⟩ : ∃ q : Int × Int × Int × Int, q = scanTo cs j := ⟨_, rfl⟩
    have ih := scan_bd cs j f0 t0 u0 v0 (by omega) h0
    rw [show scanTo cs (j + 1) = scanStep (cs.getD (12 - j) 0) (12 - (j : Int)) (scanTo cs j) from rfl, ← h0] at h
    unfold scanStep at h
    dsimp only at h
    split at h
    · cases h; omega
    · split at h
      · cases h; omega
      · split at h
        · cases h; omega
        · split at h
          · cases h; omega
          · cases h; omega
theorem pow12 {x : Int} (h : x ≤ 12) : 2 ^ x.toNat < 8192 := Nat.lt_of_le_of_lt (Nat.pow_le_pow_right (by decide) (show x.toNat ≤ 12 by omega)) (by decide)
theorem or12 {x y : Int} (h : x ≤ 12) (h2 : y ≤ 12) : 2 ^ x.toNat ||| 2 ^ y.toNat < 8192 := Nat.or_lt_two_pow (n := 13) (pow12 h) (pow12 h2)
theorem digs_nil : digs13 [] := fun x h => absurd h List.not_mem_nil
end Go.Proofs.Yteaahdakammffaa.Hd
/- Plain facts on hands: counts of ranks, what a scan of them finds, and how many ranks a mask has. No condition. -/
namespace Go.Proofs.Yteaahdakammffaa.Hd
open Go.Proofs.Yteaahdakammffaa.V Go.Proofs.Yteaahdakammffaa.Iso
set_option linter.unusedVariables false
set_option linter.unusedSimpArgs false
/-- How many of a hand have a rank. -/
def cnt (z : List Int) (r : Int) : Int := (z.countP (fun x => decide (rk x = r)) : Nat)
theorem tally_cnt {z : List Int} {r : Int} (h : 0 ≤ r ∧ r ≤ 12) : (tally rk 13 z).getD r.toNat 0 = cnt z r := by
  rw [tally_get (by omega)]
  unfold cnt
  rw [show ((r.toNat : Nat) : Int) = r by omega]
theorem cnt_nonneg (z : List Int) (r : Int) : 0 ≤ cnt z r := Int.natCast_nonneg _
theorem cnt_filter_le (p : Int → Bool) (z : List Int) (r : Int) : cnt (z.filter p) r ≤ cnt z r := by
  unfold cnt
  exact_mod_cast List.Sublist.countP_le (List.filter_sublist)
/-- Every card's rank is in a list: so many cards there are. -/
theorem cover : ∀ (D : List Int) (z : List Int), (∀ x ∈ z, rk x ∈ D) → (z.length : Int) ≤ (D.map (cnt z)).sum
  | [], z, h => by
    cases z with
    | nil => simp
    | cons x z => exact absurd (h x (by simp)) (by simp)
  | d :: D, z, h => by
    have ih := cover D (z.filter fun x => ! decide (rk x = d)) (fun x hx => by
      obtain ⟨h1, h2⟩ := List.mem_filter.1 hx
      rcases List.mem_cons.1 (h x h1) with h3 | h3
      · simp [h3] at h2
      · exact h3)
    have hs : ((D.map (cnt (z.filter fun x => ! decide (rk x = d)))).sum : Int) ≤ (D.map (cnt z)).sum := by
      have key : ∀ D : List Int, ((D.map (cnt (z.filter fun x => ! decide (rk x = d)))).sum : Int) ≤ (D.map (cnt z)).sum := by
        intro D
        induction D with
        | nil => simp
        | cons e D ih => have := cnt_filter_le (fun x => ! decide (rk x = d)) z e; simp only [List.map_cons, List.sum_cons]; omega
      exact key D
    have hl : z.length = z.countP (fun x => decide (rk x = d)) + (z.filter fun x => ! decide (rk x = d)).length := by
      rw [List.length_eq_countP_add_countP (fun x => decide (rk x = d)), ← List.countP_eq_length_filter]
      congr 1
      exact List.countP_congr (fun x _ => by simp)
    have hc : cnt z d = (z.countP (fun x => decide (rk x = d)) : Nat) := rfl
    simp only [List.map_cons, List.sum_cons]
    omega
theorem sum_le {D : List Int} {f : Int → Int} {B : Int} (h : ∀ d ∈ D, f d ≤ B) : (D.map f).sum ≤ B * D.length := by
  induction D with
  | nil => simp
  | cons d D ih =>
    have h1 := h d (by simp)
    have h2 := ih fun e he => h e (by simp [he])
    simp only [List.map_cons, List.sum_cons, List.length_cons]
    have : B * ((D.length + 1 : Nat) : Int) = B * D.length + B := by push_cast; rw [Int.mul_add]; omega
    omega
theorem mem_descN {m : Nat} {x : Int} : x ∈ descN m 13 ↔ 0 ≤ x ∧ x ≤ 12 ∧ m.testBit x.toNat = true := by
  unfold descN
  constructor
  · intro h
    obtain ⟨k, hk, rfl⟩ := List.mem_map.1 h
    obtain ⟨h1, h2⟩ := List.mem_filter.1 hk
    have := List.mem_range.1 h1
    refine ⟨by omega, by omega, ?_⟩
    rw [show ((12 : Int) - (k : Int)).toNat = 12 - k by omega]; exact h2
  · rintro ⟨h0, h1, h2⟩
    refine List.mem_map.2 ⟨12 - x.toNat, List.mem_filter.2 ⟨List.mem_range.2 (by omega), ?_⟩, by omega⟩
    rw [show 12 - (12 - x.toNat) = x.toNat by omega]; exact h2
theorem mask_test {z : List Int} (h : okC z) {r : Int} (hr : 0 ≤ r) : (mask z).testBit r.toNat = true ↔ ∃ x ∈ z, rk x = r := by
  unfold mask
  rw [bits_test, decide_eq_true_iff]
  unfold rks
  rw [List.mem_map]
  constructor
  · rintro ⟨x, hx, e⟩
    refine ⟨x, hx, ?_⟩
    have := h x hx
    show x / 4 = r
    have e' : (x / 4).toNat = r.toNat := e
    omega
  · rintro ⟨x, hx, e⟩
    exact ⟨x, hx, by rw [e]⟩
theorem noBit_test {m : Nat} {q : Int} (hq : 0 ≤ q) {r : Int} (hr : 0 ≤ r) : (noBit m q).testBit r.toNat = true ↔ (m.testBit r.toNat = true ∧ r ≠ q) := by
  unfold noBit
  rw [Nat.testBit_xor, Nat.testBit_and, Nat.testBit_two_pow]
  by_cases e : r = q
  · subst e; cases m.testBit r.toNat <;> simp
  · have : ¬ q.toNat = r.toNat := by omega
    cases m.testBit r.toNat <;> simp [this, e]
theorem noBit2_test {m : Nat} {q s : Int} (hq : 0 ≤ q) (hs : 0 ≤ s) {r : Int} (hr : 0 ≤ r) : (m ^^^ (m &&& (2 ^ q.toNat ||| 2 ^ s.toNat))).testBit r.toNat = true ↔ (m.testBit r.toNat = true ∧ r ≠ q ∧ r ≠ s) := by
  rw [Nat.testBit_xor, Nat.testBit_and, Nat.testBit_or, Nat.testBit_two_pow, Nat.testBit_two_pow]
  by_cases e : r = q
  · subst e; cases m.testBit r.toNat <;> simp
  · by_cases e2 : r = s
    · subst e2; cases m.testBit r.toNat <;> simp
    · have h1 : ¬ q.toNat = r.toNat := by omega
      have h2 : ¬ s.toNat = r.toNat := by omega
      cases m.testBit r.toNat <;> simp [h1, h2, e, e2]
theorem xor_lt {m x : Nat} (h : m < 8192) : m ^^^ (m &&& x) < 8192 := Nat.xor_lt_two_pow (n := 13) h (Nat.lt_of_le_of_lt Nat.and_le_left h)
theorem okP {z : List Int} (h : areP z) : okC z := h.1
theorem cnt_le4 {z : List Int} (h : areP z) (r : Int) : cnt z r ≤ 4 := by
  unfold cnt
  rw [List.countP_eq_length_filter]
  have := sub_len (a := z.filter fun x => decide (rk x = r)) (b := [4 * r, 4 * r + 1, 4 * r + 2, 4 * r + 3]) (h.2.sublist List.filter_sublist) (fun x hx => by
    have h1 := of_decide_eq_true (List.mem_filter.1 hx).2
    have h2 : x / 4 = r := h1
    simp only [List.mem_cons, List.not_mem_nil, or_false]
    omega)
  have h4 : [4 * r, 4 * r + 1, 4 * r + 2, 4 * r + 3].length = 4 := rfl
  omega
theorem cnt_suit_le1 {z : List Int} (h : areP z) (s r : Int) : cnt (ofSuit z s) r ≤ 1 := by
  unfold cnt ofSuit
  rw [List.countP_eq_length_filter]
  have := sub_len (a := (z.filter fun x => decide (su x = s)).filter fun x => decide (rk x = r)) (b := [4 * r + s]) (h.2.sublist (List.filter_sublist.trans List.filter_sublist)) (fun x hx => by
    have h1 := of_decide_eq_true (List.mem_filter.1 hx).2
    have h3 := of_decide_eq_true (List.mem_filter.1 (List.mem_filter.1 hx).1).2
    have h2 : x / 4 = r := h1
    have h4 : x % 4 = s := h3
    simp only [List.mem_cons, List.not_mem_nil, or_false]
    omega)
  have h4 : [4 * r + s].length = 1 := rfl
  omega
theorem cnt_pos {z : List Int} {r : Int} : 1 ≤ cnt z r ↔ ∃ x ∈ z, rk x = r := by
  unfold cnt
  constructor
  · intro h
    have : 0 < z.countP (fun x => decide (rk x = r)) := by omega
    obtain ⟨x, hx, h1⟩ := List.countP_pos_iff.1 this
    exact ⟨x, hx, of_decide_eq_true h1⟩
  · rintro ⟨x, hx, h1⟩
    have : 0 < z.countP (fun x => decide (rk x = r)) := List.countP_pos_iff.2 ⟨x, hx, decide_eq_true h1⟩
    omega
/-- Nothing among the ranks looked at. -/
def Non (P : Int → Prop) (j : Nat) : Prop := ∀ r : Int, 12 - (j : Int) < r → r ≤ 12 → ¬ P r
def Fst (P : Int → Prop) (j : Nat) (x : Int) : Prop := 12 - (j : Int) < x ∧ x ≤ 12 ∧ P x ∧ ∀ r, x < r → r ≤ 12 → ¬ P r
def FN (P : Int → Prop) (j : Nat) (x : Int) : Prop := (x = -1 ∧ Non P j) ∨ Fst P j x
theorem FN_nil (P : Int → Prop) : FN P 0 (-1) := Or.inl ⟨rfl, fun r h1 h2 => by omega⟩
theorem FN_keep {P : Int → Prop} {j : Nat} {x : Int} (h : FN P j x) (h1 : 0 ≤ x ∨ ¬ P (12 - (j : Int))) : FN P (j + 1) x := by
  rcases h with ⟨rfl, h⟩ | ⟨a, b, c, d⟩
  · refine Or.inl ⟨rfl, fun r h2 h3 => ?_⟩
    by_cases e : r = 12 - (j : Int)
    · subst e; exact h1.resolve_left (by omega)
    · exact h r (by push_cast at h2; omega) h3
  · exact Or.inr ⟨by push_cast; omega, b, c, d⟩
theorem FN_new {P : Int → Prop} {j : Nat} {x : Int} (h : FN P j x) (hx : x < 0) (hj : j < 13) (h1 : P (12 - (j : Int))) : FN P (j + 1) (12 - (j : Int)) := by
  rcases h with ⟨rfl, h⟩ | ⟨a, b, c, d⟩
  · exact Or.inr ⟨by push_cast; omega, by omega, h1, fun r h2 h3 => h r h2 h3⟩
  · omega
theorem FN_congr {P P' : Int → Prop} {j : Nat} {x : Int} (hj : j ≤ 13) (h : FN P j x) (hP : ∀ r : Int, 12 - (j : Int) < r → r ≤ 12 → (P r ↔ P' r)) : FN P' j x := by
  rcases h with ⟨rfl, h⟩ | ⟨a, b, c, d⟩
  · exact Or.inl ⟨rfl, fun r h2 h3 h4 => h r h2 h3 ((hP r h2 h3).2 h4)⟩
  · exact Or.inr ⟨a, b, (hP x a b).1 c, fun r h2 h3 h4 => d r h2 h3 ((hP r (by omega) h3).2 h4)⟩
def Scan (z : List Int) (j : Nat) (f t u v : Int) : Prop :=
  FN (fun r => cnt z r = 4) j f ∧ (f = -1 → FN (fun r => 3 ≤ cnt z r) j t ∧ FN (fun r => r ≠ t ∧ 2 ≤ cnt z r) j u ∧ FN (fun r => r ≠ t ∧ r ≠ u ∧ 2 ≤ cnt z r) j v)
theorem FN_cases {P : Int → Prop} {j : Nat} {x : Int} (hj : j ≤ 13) (h : FN P j x) : x = -1 ∨ (12 - (j : Int) < x ∧ x ≤ 12 ∧ 0 ≤ x) := by
  rcases h with ⟨rfl, -⟩ | ⟨a, b, -, -⟩
  · exact Or.inl rfl
  · exact Or.inr ⟨a, b, by omega⟩
theorem scan_ok (z : List Int) : ∀ (j : Nat) (f t u v : Int), j ≤ 13 → (f, t, u, v) = scanTo (tally rk 13 z) j → Scan z j f t u v
  | 0, f, t, u, v, _, h => by
    cases h
    exact ⟨FN_nil _, fun _ => ⟨FN_nil _, FN_nil _, FN_nil _⟩⟩
  | j + 1, f, t, u, v, hj, h => by
    obtain ⟨⟨f0, t0, u0, v0⟩, h0⟩ : ∃ q : Int × Int × Int × Int, q = scanTo (tally rk 13 z) j := ⟨_, rfl⟩
    obtain ⟨i1, i2⟩ := scan_ok z j f0 t0 u0 v0 (by omega) h0
    have hj' : j ≤ 13 := by omega
    have hn : (tally rk 13 z).getD (12 - j) 0 = cnt z (12 - (j : Int)) := by
      have := tally_cnt (z := z) (r := 12 - (j : Int)) (by omega)
      rwa [show (12 - (j : Int)).toNat = 12 - j by omega] at this
    rw [show scanTo (tally rk 13 z) (j + 1) = scanStep ((tally rk 13 z).getD (12 - j) 0) (12 - (j : Int)) (scanTo (tally rk 13 z) j) from rfl, ← h0, hn] at h
    have cf := FN_cases hj' i1
    unfold scanStep at h
    dsimp only at h
    split at h
    · rename_i hc
      cases h
      exact ⟨FN_new i1 hc.2 (by omega) hc.1, fun e => by omega⟩
    · rename_i hc
      have k1 : FN (fun r => cnt z r = 4) (j + 1) f0 := FN_keep i1 (by rcases cf with e | e; exact Or.inr fun h4 => hc ⟨h4, by omega⟩; exact Or.inl e.2.2)
      split at h
      · rename_i hd
        cases h
        refine ⟨k1, fun e => ?_⟩
        obtain ⟨a, b, c⟩ := i2 e
        have ct := FN_cases hj' a
        have cu := FN_cases hj' b
        have et : t0 = -1 := by omega
        refine ⟨FN_new a hd.2 (by omega) hd.1, ?_, ?_⟩
        · refine FN_keep (FN_congr (P' := fun r => r ≠ 12 - (j : Int) ∧ 2 ≤ cnt z r) hj' b fun r h1 h2 => ⟨fun h3 => ⟨by omega, h3.2⟩, fun h3 => ⟨by omega, h3.2⟩⟩) (Or.inr fun h3 => h3.1 rfl)
        · refine FN_keep (FN_congr (P' := fun r => r ≠ 12 - (j : Int) ∧ r ≠ u ∧ 2 ≤ cnt z r) hj' c fun r h1 h2 => ⟨fun h3 => ⟨by omega, h3.2⟩, fun h3 => ⟨by omega, h3.2⟩⟩) (Or.inr fun h3 => h3.1 rfl)
      · rename_i hd
        split at h
        · rename_i he
          cases h
          refine ⟨k1, fun e => ?_⟩
          obtain ⟨a, b, c⟩ := i2 e
          have ct := FN_cases hj' a
          have cu := FN_cases hj' b
          refine ⟨FN_keep a (by rcases ct with h1 | h1; exact Or.inr fun h4 => hd ⟨h4, by omega⟩; exact Or.inl h1.2.2), FN_new b he.2 (by omega) ⟨by omega, he.1⟩, ?_⟩
          refine FN_keep (FN_congr (P' := fun r => r ≠ t ∧ r ≠ 12 - (j : Int) ∧ 2 ≤ cnt z r) hj' c fun r h1 h2 => ⟨fun h3 => ⟨h3.1, by omega, h3.2.2⟩, fun h3 => ⟨h3.1, by omega, h3.2.2⟩⟩) (Or.inr fun h3 => h3.2.1 rfl)
        · rename_i he
          split at h
          · rename_i hg
            cases h
            refine ⟨k1, fun e => ?_⟩
            obtain ⟨a, b, c⟩ := i2 e
            have ct := FN_cases hj' a
            have cu := FN_cases hj' b
            refine ⟨FN_keep a (by rcases ct with h1 | h1; exact Or.inr fun h4 => hd ⟨h4, by omega⟩; exact Or.inl h1.2.2), FN_keep b (by rcases cu with h1 | h1; exact Or.inr fun h4 => he ⟨h4.2, by omega⟩; exact Or.inl h1.2.2), FN_new c hg.2 (by omega) ⟨by omega, by omega, hg.1⟩⟩
          · rename_i hg
            cases h
            refine ⟨k1, fun e => ?_⟩
            obtain ⟨a, b, c⟩ := i2 e
            have ct := FN_cases hj' a
            have cu := FN_cases hj' b
            have cv := FN_cases hj' c
            refine ⟨FN_keep a (by rcases ct with h1 | h1; exact Or.inr fun h4 => hd ⟨h4, by omega⟩; exact Or.inl h1.2.2), FN_keep b (by rcases cu with h1 | h1; exact Or.inr fun h4 => he ⟨h4.2, by omega⟩; exact Or.inl h1.2.2), FN_keep c (by rcases cv with h1 | h1; exact Or.inr fun h4 => hg ⟨h4.2.2, by omega⟩; exact Or.inl h1.2.2)⟩
/-- The scan's result, told once for all. -/
theorem FN_end {P : Int → Prop} {x : Int} (h : FN P 13 x) (hx : 0 ≤ x) : x ≤ 12 ∧ P x ∧ ∀ r, x < r → r ≤ 12 → ¬ P r := by
  rcases h with ⟨rfl, -⟩ | ⟨a, b, c, d⟩
  · omega
  · exact ⟨b, c, d⟩
theorem FN_no {P : Int → Prop} {x : Int} (h : FN P 13 x) (hx : ¬ 0 ≤ x) : x = -1 ∧ ∀ r, 0 ≤ r → r ≤ 12 → ¬ P r := by
  rcases h with ⟨rfl, h⟩ | ⟨a, b, c, d⟩
  · exact ⟨rfl, fun r h1 h2 => h r (by omega) h2⟩
  · omega
section
variable {z : List Int} {f t u v : Int}
theorem rank_in (h : okC z) {x : Int} (hx : x ∈ z) : 0 ≤ rk x ∧ rk x ≤ 12 := by
  have := h x hx
  show 0 ≤ x / 4 ∧ x / 4 ≤ 12
  omega
/-- How many ranks are left. -/
theorem left_len (h : okC z) {m : Nat} {ks : List Int} {A B : Int} (hm : ∀ r : Int, 0 ≤ r → m.testBit r.toNat = false → (mask z).testBit r.toNat = true → r ∈ ks) (hA : (ks.map (cnt z)).sum ≤ A) (hB : ∀ r ∈ descN m 13, cnt z r ≤ B) : (z.length : Int) ≤ A + B * (descN m 13).length := by
  have h1 := cover (ks ++ descN m 13) z (fun x hx => by
    have hr := rank_in h hx
    rw [List.mem_append]
    cases e : m.testBit (rk x).toNat with
    | true => exact Or.inr (mem_descN.2 ⟨hr.1, hr.2, e⟩)
    | false => exact Or.inl (hm _ hr.1 e ((mask_test h hr.1).2 ⟨x, hx, rfl⟩)))
  have h2 := sum_le hB
  rw [List.map_append, List.sum_append] at h1
  omega
theorem noBit_in {m : Nat} {q r : Int} (hq : 0 ≤ q) (hr : 0 ≤ r) (h1 : (noBit m q).testBit r.toNat = false) (h2 : m.testBit r.toNat = true) : r ∈ [q] := by
  by_cases e : r = q
  · simp [e]
  · have := (noBit_test hq hr).2 ⟨h2, e⟩
    rw [h1] at this; cases this
theorem noBit2_in {m : Nat} {q s r : Int} (hq : 0 ≤ q) (hs : 0 ≤ s) (hr : 0 ≤ r) (h1 : (m ^^^ (m &&& (2 ^ q.toNat ||| 2 ^ s.toNat))).testBit r.toNat = false) (h2 : m.testBit r.toNat = true) : r ∈ [q, s] := by
  by_cases e : r = q
  · simp [e]
  · by_cases e2 : r = s
    · simp [e2]
    · have := (noBit2_test hq hs hr).2 ⟨h2, e, e2⟩
      rw [h1] at this; cases this
theorem pre4 (hz : areP z) (h5 : 5 ≤ z.length) (hS : Scan z 13 f t u v) (hf : 0 ≤ f) : f ≤ 12 ∧ 5 ≤ [f, f, f, f].length + (descN (noBit (mask z) f) 13).length := by
  obtain ⟨h1, h2, -⟩ := FN_end hS.1 hf
  refine ⟨h1, ?_⟩
  have := left_len (okP hz) (m := noBit (mask z) f) (ks := [f]) (A := 4) (B := 4) (fun r hr h3 h4 => noBit_in hf hr h3 h4) (by simp only [List.map_cons, List.map_nil, List.sum_cons, List.sum_nil]; omega) (fun r _ => cnt_le4 hz r)
  simp only [List.length_cons, List.length_nil]
  omega
theorem pre6 (hS : Scan z 13 f t u v) (hf : ¬ 0 ≤ f) (ht : 0 ≤ t) (hu : 0 ≤ u) : t ≤ 12 ∧ u ≤ 12 := by
  obtain ⟨a, b, c⟩ := hS.2 (FN_no hS.1 hf).1
  exact ⟨(FN_end a ht).1, (FN_end b hu).1⟩
theorem pre3 (hz : areP z) (h5 : 5 ≤ z.length) (hS : Scan z 13 f t u v) (hf : ¬ 0 ≤ f) (ht : 0 ≤ t) (hu : ¬ (0 ≤ t ∧ 0 ≤ u)) : t ≤ 12 ∧ 5 ≤ [t, t, t].length + (descN (noBit (mask z) t) 13).length := by
  obtain ⟨ef, nf⟩ := FN_no hS.1 hf
  obtain ⟨a, b, c⟩ := hS.2 ef
  obtain ⟨h1, h2, -⟩ := FN_end a ht
  obtain ⟨-, nu⟩ := FN_no b (fun h => hu ⟨ht, h⟩)
  refine ⟨h1, ?_⟩
  have h4 := cnt_le4 hz t
  have h4' := nf t ht h1
  have := left_len (okP hz) (m := noBit (mask z) t) (ks := [t]) (A := 3) (B := 1) (fun r hr h3 h4 => noBit_in ht hr h3 h4) (by simp only [List.map_cons, List.map_nil, List.sum_cons, List.sum_nil]; omega) (fun r hr => by
    obtain ⟨h7, h8, h9⟩ := mem_descN.1 hr
    have := nu r h7 h8
    have h10 := ((noBit_test ht h7).1 h9).2
    have := cnt_nonneg z r
    by_cases e : 2 ≤ cnt z r
    · exact absurd ⟨h10, e⟩ (nu r h7 h8)
    · omega)
  simp only [List.length_cons, List.length_nil]
  omega
theorem pre2 (hz : areP z) (h5 : 5 ≤ z.length) (hS : Scan z 13 f t u v) (hf : ¬ 0 ≤ f) (ht : ¬ 0 ≤ t) (hv : 0 ≤ v) : (0 ≤ u ∧ u ≤ 12 ∧ v ≤ 12) ∧ 5 ≤ [u, u, v, v].length + (descN (mask z ^^^ (mask z &&& (2 ^ u.toNat ||| 2 ^ v.toNat))) 13).length := by
  obtain ⟨ef, nf⟩ := FN_no hS.1 hf
  obtain ⟨a, b, c⟩ := hS.2 ef
  obtain ⟨et, nt⟩ := FN_no a ht
  obtain ⟨h1, h2, -⟩ := FN_end c hv
  have hu : 0 ≤ u := by
    rcases Int.lt_or_le u 0 with h | h
    · exact absurd ⟨h2.1, h2.2.2⟩ ((FN_no b (by omega)).2 v hv h1)
    · exact h
  obtain ⟨h3, h4, -⟩ := FN_end b hu
  refine ⟨⟨hu, h3, h1⟩, ?_⟩
  have k1 := nt u hu h3
  have k2 := nt v hv h1
  have := left_len (okP hz) (m := mask z ^^^ (mask z &&& (2 ^ u.toNat ||| 2 ^ v.toNat))) (ks := [u, v]) (A := 4) (B := 4) (fun r hr h3 h4 => noBit2_in hu hv hr h3 h4) (by simp only [List.map_cons, List.map_nil, List.sum_cons, List.sum_nil]; omega) (fun r _ => cnt_le4 hz r)
  simp only [List.length_cons, List.length_nil]
  omega
theorem pre2u (hz : areP z) (h5 : 5 ≤ z.length) (hS : Scan z 13 f t u v) : 0 ≤ f ∨ 0 ≤ t ∨ ¬ 0 ≤ v ∨ 0 ≤ u := by
  by_cases hf : 0 ≤ f
  · exact Or.inl hf
  · by_cases ht : 0 ≤ t
    · exact Or.inr (Or.inl ht)
    · by_cases hv : 0 ≤ v
      · exact Or.inr (Or.inr (Or.inr (pre2 hz h5 hS hf ht hv).1.1))
      · exact Or.inr (Or.inr (Or.inl hv))
theorem pre1 (hz : areP z) (h5 : 5 ≤ z.length) (hS : Scan z 13 f t u v) (hf : ¬ 0 ≤ f) (ht : ¬ 0 ≤ t) (hv : ¬ 0 ≤ v) (hu : 0 ≤ u) : u ≤ 12 ∧ 5 ≤ [u, u].length + (descN (noBit (mask z) u) 13).length := by
  obtain ⟨ef, nf⟩ := FN_no hS.1 hf
  obtain ⟨a, b, c⟩ := hS.2 ef
  obtain ⟨et, nt⟩ := FN_no a ht
  obtain ⟨ev, nv⟩ := FN_no c hv
  obtain ⟨h1, h2, -⟩ := FN_end b hu
  refine ⟨h1, ?_⟩
  have k1 := nt u hu h1
  have := left_len (okP hz) (m := noBit (mask z) u) (ks := [u]) (A := 2) (B := 1) (fun r hr h3 h4 => noBit_in hu hr h3 h4) (by simp only [List.map_cons, List.map_nil, List.sum_cons, List.sum_nil]; omega) (fun r hr => by
    obtain ⟨h7, h8, h9⟩ := mem_descN.1 hr
    have h10 := ((noBit_test hu h7).1 h9).2
    by_cases e : 2 ≤ cnt z r
    · exact absurd ⟨by omega, h10, e⟩ (nv r h7 h8)
    · omega)
  simp only [List.length_cons, List.length_nil]
  omega
theorem pre0 (hz : areP z) (h5 : 5 ≤ z.length) (hS : Scan z 13 f t u v) (hf : ¬ 0 ≤ f) (ht : ¬ 0 ≤ t) (hu : ¬ 0 ≤ u) : 5 ≤ ([] : List Int).length + (descN (mask z) 13).length := by
  obtain ⟨ef, nf⟩ := FN_no hS.1 hf
  obtain ⟨a, b, c⟩ := hS.2 ef
  obtain ⟨et, nt⟩ := FN_no a ht
  obtain ⟨eu, nu⟩ := FN_no b hu
  have := left_len (okP hz) (m := mask z) (ks := []) (A := 0) (B := 1) (fun r hr h3 h4 => by rw [h3] at h4; cases h4) (by simp) (fun r hr => by
    obtain ⟨h7, h8, h9⟩ := mem_descN.1 hr
    by_cases e : 2 ≤ cnt z r
    · exact absurd ⟨by omega, e⟩ (nu r h7 h8)
    · omega)
  simp only [List.length_nil]
  omega
theorem suit_len {s : Nat} (hs : s < 4) : (tally su 4 z).getD s 0 = ((ofSuit z (s : Int)).length : Int) := by
  rw [tally_get hs, List.countP_eq_length_filter]; rfl
theorem pre5 (hz : areP z) {s : Nat} (hs : s < 4) (h : ¬ (tally su 4 z).getD s 0 < 5) : 5 ≤ ([] : List Int).length + (descN ((smask z).getD s 0) 13).length := by
  rw [suit_len hs] at h
  rw [smask_get hs]
  have := left_len (okC_suit (okP hz) (s : Int)) (m := mask (ofSuit z (s : Int))) (ks := []) (A := 0) (B := 1) (fun r hr h3 h4 => by rw [h3] at h4; cases h4) (by simp) (fun r _ => cnt_suit_le1 hz _ r)
  simp only [List.length_nil]
  omega
end
end Go.Proofs.Yteaahdakammffaa.Hd
/- Contracts of cards and sets of cards. Their conditions stand in each. -/
namespace Go.Proofs.Yteaahdakammffaa
open Go Go.RowKit V
set_option linter.unusedVariables false
set_option linter.unusedSimpArgs false
set_option maxRecDepth 100000
theorem mk137 : Mk Try.prog 137 4 1 1 [.bool false] := ⟨Try.underlying137, Try.t4, _, by kernel_rfl, rfl, rfl, rfl, rfl, rfl, by decide, by decide⟩
theorem el137 : Elt Try.prog 137 1 := ⟨4, Try.runUnderlying137, Try.sizeOf4⟩
theorem impl_isCard_c (n : Int) (w : World) :
  Calls Try.prog 101 #[.int .i64 n] w (Ret fun v w' => v = .bool (decide (0 ≤ n ∧ n ≤ 51)) ∧ Ext w w') := by
 refine fn (M := none_) (rs := [.tmp 2]) Try.func101 rfl Try.ntmps101 rfl rfl (Sep.start _ _) ?_
 refine hSeq ?_
 refine hReg (sq 0 sz) (by kernel_rfl) ?_
 refine asB rfl rfl rfl ?_
 refine rNil ?_
 refine qSeq rfl ?_
 refine hSeq ?_
 refine hReg (sq 0 (sl 1 (sq 2 sz))) (by kernel_rfl) ?_
 refine mvI rfl rfl rfl ?_
 refine callP (v := .bool (decide ((0 : Int) ≤ n ∧ n ≤ (51 : Int)))) Try.call65 trv rfl rfl (fun w hs => impl_within_c _ _ _ w ) ?_
 refine asB rfl rfl rfl ?_
 refine rNil ?_
 refine qSeq rfl ?_
 refine hRet ?_
 exact fun w hs => ⟨[.bool (decide ((0 : Int) ≤ n ∧ n ≤ (51 : Int)))], ⟨rfl, trivial⟩, ⟨by first | rfl | exact bD (by omega) | exact bT (by omega) | exact bF (by omega) | exact vI (by omega), hs.upd⟩⟩
theorem spec_l02Card_c (n : Int) (w : World) :
  Calls Try.prog 102 #[.int .i64 n] w (Ret fun v w' => v = .bool (decide (0 ≤ n ∧ n ≤ 51)) ∧ Ext w w') := by
 refine fn (M := none_) (rs := [.tmp 2]) Try.func102 rfl Try.ntmps102 rfl rfl (Sep.start _ _) ?_
 refine hSeq ?_
 refine hReg (sq 0 sz) (by kernel_rfl) ?_
 refine asB rfl rfl rfl ?_
 refine rNil ?_
 refine qSeq rfl ?_
 refine hSeq ?_
 refine hReg (sq 0 (sl 1 (sq 2 sz))) (by kernel_rfl) ?_
 refine mvI rfl rfl rfl ?_
 refine callP (v := .bool (decide ((0 : Int) ≤ n ∧ n ≤ (51 : Int)))) Try.call88 trv rfl rfl (fun w hs => spec_l01In_c _ _ _ w ) ?_
 refine asB rfl rfl rfl ?_
 refine rNil ?_
 refine qSeq rfl ?_
 refine hRet ?_
 exact fun w hs => ⟨[.bool (decide ((0 : Int) ≤ n ∧ n ≤ (51 : Int)))], ⟨rfl, trivial⟩, ⟨by first | rfl | exact bD (by omega) | exact bT (by omega) | exact bF (by omega) | exact vI (by omega), hs.upd⟩⟩
theorem impl_AreCards_c (az : Option Addr) (nz : Nat) (cz : Nat) (z : List Int) (w : World) (rz : RdI az nz z w) :
  Calls Try.prog 72 #[.slice az nz cz] w (Ret fun v w' => v = .bool (Iso.areB z) ∧ Ext w w') := by
 have kz : Kn w none_ [] (RdI az nz z) := fun w' hs => rz.ext hs.upd
 have lz : z.length = nz := rz.1
 have mz : nz ≤ 9223372036854775807 := rz.2.1
 refine fn (M := none_) (rs := [.tmp 2]) Try.func72 rfl Try.ntmps72 rfl rfl (Sep.start _ _) ?_
 refine hSeq ?_
 refine hReg (sq 0 sz) (by kernel_rfl) ?_
 refine asB rfl rfl rfl ?_
 refine rNil ?_
 refine qSeq rfl ?_
 refine hSeq ?_
 refine hReg (sq 0 sz) (by kernel_rfl) ?_
 refine asI rfl rfl rfl ?_
 refine rNil ?_
 refine qSeq rfl ?_
 refine hSeq ?_
 refine hSeq ?_
 refine hReg (sq 0 (sq 1 (sq 2 sz))) (by kernel_rfl) ?_
 refine mvS rfl rfl rfl ?_
 refine lenS Try.runUnderlying23 rfl rfl rfl ?_
 refine mvI rfl rfl rfl ?_
 refine rNil ?_
 refine qSeq rfl ?_
 refine hBlk ?_
 refine hLoop (α := Nat × Nat) (fun x => x.1 ≤ nz ∧ Iso.areP (z.take x.1) ∧ Iso.maskOk x.2 (z.take x.1)) (fun x => nz - x.1) (fun x => []) (fun x => [(3, .int .u64 (x.2 : Int)), (6, .slice az nz cz), (7, .int .i64 (nz : Int)), (8, .int .i64 (x.1 : Int))]) (0, 0) ⟨Nat.zero_le _, Iso.areP_nil, Iso.mask0⟩ (fun _ h => h.pick []) ⟨rfl, rfl, rfl, rfl, trivial⟩ ?_
 rintro ⟨i, m⟩ τ1 ⟨hi, ha, hm⟩
 dsimp only at hi ha hm
 refine hRe [(3, .int .u64 (m : Int)), (6, .slice az nz cz), (7, .int .i64 (nz : Int)), (8, .int .i64 (i : Int))] [] rfl rfl ?_
 refine hSeq ?_
 refine hReg (sq 0 sz) (by kernel_rfl) ?_
 refine lss rfl rfl rfl rfl ?_
 refine rNil ?_
 refine qSeq rfl ?_
 refine hSeq ?_
 refine hIfD rfl (fun c1 => ?_) (fun c1 => ?_)
 ·
  replace c1 : (i : Int) < (nz : Int) := c1
  refine hSkip ?_
  refine qSeq rfl ?_
  refine hSeq ?_
  refine hBlk ?_
  refine hSeq ?_
  refine hReg (sq 0 (sl 1 (sq 2 sz))) (by kernel_rfl) ?_
  refine ixIl (zn := i) el23 (kz) rfl rfl rfl rfl (by omega) (by omega) rfl ?_
  intro ae1 e1
  refine ldl Try.isAgg2 (e1) trv rfl rfl rfl ?_
  refine asI rfl rfl rfl ?_
  refine rNil ?_
  refine qSeq rfl ?_
  refine hSeq ?_
  refine hSeq ?_
  refine hReg (sq 0 (sl 1 (sq 2 (sq 3 (sq 4 (sq 5 (sq 6 (sq 7 (sq 8 (sq 9 sz)))))))))) (by kernel_rfl) ?_
  refine mvI rfl rfl rfl ?_
  refine callP (v := .bool (decide (0 ≤ (z.getD i 0) ∧ (z.getD i 0) ≤ 51))) Try.call101 trv rfl rfl (fun w hs => impl_isCard_c _ w ) ?_
  refine notD rfl rfl rfl ?_
  refine mvB rfl rfl rfl ?_
  refine rBoolD (d := 15) rfl (fun g2 => ?_) (fun g2 => ?_)
  ·
   replace g2 : ¬ (0 ≤ (z.getD i 0) ∧ (z.getD i 0) ≤ 51) := g2
   refine rSkipQ rfl rfl ?_
   refine rSkipQ rfl rfl ?_
   refine rSkipQ rfl rfl ?_
   refine rSkipQ rfl rfl ?_
   refine rSkipQ rfl rfl ?_
   refine pickB rfl rfl rfl rfl ?_
   refine rNil ?_
   refine qSeq rfl ?_
   refine hIfT rfl ?_
   refine hSeq ?_
   refine hReg (sq 0 sz) (by kernel_rfl) ?_
   refine asB rfl rfl rfl ?_
   refine rNil ?_
   refine qSeq rfl ?_
   refine hRet ?_
   exact fun w hs => ⟨[.bool false], ⟨rfl, trivial⟩, ⟨bB (Iso.areB_out (i := i) (by omega) (by omega)).symm, hs.upd⟩⟩
  ·
   replace g2 : ¬ (¬ (0 ≤ (z.getD i 0) ∧ (z.getD i 0) ≤ 51)) := g2
   have htw : ((m : Int) / 2 ^ (z.getD i 0).toNat % 2 = 1) → (z.getD i 0) ∈ z.take i := (Iso.mask_bit hm (by omega)).1
   refine mvI rfl rfl rfl ?_
   refine mvI rfl rfl rfl ?_
   refine shrU rfl rfl rfl rfl (by omega) ?_
   refine andU rfl rfl rfl rfl (Iso.mask_div hm) ?_
   refine eql rfl rfl rfl rfl ?_
   refine pickB rfl rfl rfl rfl ?_
   refine rNil ?_
   refine qSeq rfl ?_
   refine hIfD rfl (fun c3 => ?_) (fun c3 => ?_)
   ·
    replace c3 : ((((m : Int) / 2 ^ (z.getD i 0).toNat)) % 2) = 1 := c3
    refine hSeq ?_
    refine hReg (sq 0 sz) (by kernel_rfl) ?_
    refine asB rfl rfl rfl ?_
    refine rNil ?_
    refine qSeq rfl ?_
    refine hRet ?_
    exact fun w hs => ⟨[.bool false], ⟨rfl, trivial⟩, ⟨bB (Iso.areB_twice (i := i) (by omega) (htw c3)).symm, hs.upd⟩⟩
   ·
    replace c3 : ¬ (((((m : Int) / 2 ^ (z.getD i 0).toNat)) % 2) = 1) := c3
    refine hSkip ?_
    refine qSeq rfl ?_
    refine hReg (sq 0 (sq 1 (sq 2 (sq 3 (sq 4 sz))))) (by kernel_rfl) ?_
    refine mvI rfl rfl rfl ?_
    refine mvI rfl rfl rfl ?_
    refine shlU rfl rfl rfl rfl (by omega) ?_
    refine orU (x := m) (y := (2 ^ (z.getD i 0).toNat)) rfl rfl rfl rfl (⟨Iso.mask_lt hm, Nat.lt_trans (Iso.pow_lt (by omega)) (by decide)⟩) ?_
    refine asI rfl rfl rfl ?_
    refine rNil ?_
    refine qSeq rfl ?_
    refine hReg (sq 0 (sq 1 sz)) (by kernel_rfl) ?_
    refine add rfl rfl rfl rfl (by omega) ?_
    refine mvI rfl rfl rfl ?_
    refine rNil ?_
    exact qNext rfl ((i + 1, m ||| 2 ^ (z.getD i 0).toNat)) (by dsimp only; omega) ⟨by dsimp only; omega, Iso.areP_next (by omega) ha (by omega) (fun h => c3 ((Iso.mask_bit hm (by omega)).2 h)), by dsimp only; rw [Iso.take_snoc (by omega)]; exact Iso.mask_step hm (by omega)⟩ ⟨rfl, rfl, rfl, rfl, trivial⟩ (fun _ h => h.pick [])
 ·
  replace c1 : ¬ ((i : Int) < (nz : Int)) := c1
  refine hExit rfl ?_
  refine qSeq rfl ?_
  refine hSeq ?_
  refine hReg (sq 0 sz) (by kernel_rfl) ?_
  refine asB rfl rfl rfl ?_
  refine rNil ?_
  refine qSeq rfl ?_
  refine hRet ?_
  exact fun w hs => ⟨[.bool true], ⟨rfl, trivial⟩, ⟨bB (Iso.areB_end (i := i) (by omega) ha).symm, hs.upd⟩⟩
theorem spec_AreCards_c (az : Option Addr) (nz : Nat) (cz : Nat) (z : List Int) (w : World) (rz : RdI az nz z w) :
  Calls Try.prog 94 #[.slice az nz cz] w (Ret fun v w' => v = .bool (Iso.areB z) ∧ Ext w w') := by
 have kz : Kn w none_ [] (RdI az nz z) := fun w' hs => rz.ext hs.upd
 have lz : z.length = nz := rz.1
 have mz : nz ≤ 9223372036854775807 := rz.2.1
 refine fn (M := none_) (rs := [.tmp 2]) Try.func94 rfl Try.ntmps94 rfl rfl (Sep.start _ _) ?_
 refine hSeq ?_
 refine hReg (sq 0 sz) (by kernel_rfl) ?_
 refine asB rfl rfl rfl ?_
 refine rNil ?_
 refine qSeq rfl ?_
 refine hSeq ?_
 refine hReg (sl 0 (sq 1 sz)) (by kernel_rfl) ?_
 refine mksR (e1 := 2) 52 false boK.ok rfl rfl mk137 trv1 rfl rfl rfl rfl (rfl) (by omega) (fun bkm1 hbkm1 => ?_)
 refine asS rfl rfl rfl ?_
 refine rNil ?_
 refine qSeq rfl ?_
 refine hSeq ?_
 refine hSeq ?_
 refine hReg (sq 0 sz) (by kernel_rfl) ?_
 refine asI rfl rfl rfl ?_
 refine rNil ?_
 refine qSeq rfl ?_
 refine hBlk ?_
 rw [show List.replicate 52 false = Iso.seenB (z.take 0) from Iso.seenB_nil.symm]
 refine hLoop (α := Nat) (fun i => i ≤ nz ∧ Iso.areP (z.take i)) (fun i => nz - i) (fun i => [OwnR boK 4 2 (some ⟨bkm1, 0, none⟩) 52 52 ((fun _ => (none, 0))) ((Iso.seenB (z.take i)))]) (fun i => [(0, .slice az nz cz), (3, .slice (some ⟨bkm1, 0, none⟩) 52 52), (4, .int .i64 (i : Int))]) 0 ⟨Nat.zero_le _, Iso.areP_nil⟩ (fun _ h => h.pick [0]) ⟨rfl, rfl, rfl, trivial⟩ ?_
 rintro i τ1 ⟨hi, ha⟩
 refine hSeq ?_
 refine hSeq ?_
 refine hReg (sq 0 (sq 1 (sq 2 (sq 3 sz)))) (by kernel_rfl) ?_
 refine mvI rfl rfl rfl ?_
 refine mvS rfl rfl rfl ?_
 refine lenS Try.runUnderlying23 rfl rfl rfl ?_
 refine lss rfl rfl rfl rfl ?_
 refine rNil ?_
 refine qSeq rfl ?_
 refine hIfD rfl (fun c1 => ?_) (fun c1 => ?_)
 ·
  replace c1 : (i : Int) < (nz : Int) := c1
  refine hSkip ?_
  refine qSeq rfl ?_
  refine hSeq ?_
  refine hBlk ?_
  refine hSeq ?_
  refine hSeq ?_
  refine hReg (sq 0 (sq 1 (sq 2 (sl 3 (sl 4 (sq 5 (sq 6 (sq 7 (sq 8 (sq 9 (sq 10 (sl 11 (sq 12 (sl 13 (sq 14 sz))))))))))))))) (by kernel_rfl) ?_
  refine mvS rfl rfl rfl ?_
  refine mvI rfl rfl rfl ?_
  refine ixIl (zn := i) el23 (Kn.drop (k := 1) kz) rfl rfl rfl rfl (by omega) (by omega) rfl ?_
  intro ae1 e1
  refine ldl Try.isAgg2 (e1) trv rfl rfl rfl ?_
  refine callP (v := .bool (decide (0 ≤ (z.getD i 0) ∧ (z.getD i 0) ≤ 51))) Try.call102 trv rfl rfl (fun w hs => spec_l02Card_c _ w ) ?_
  refine notD rfl rfl rfl ?_
  refine mvB rfl rfl rfl ?_
  refine rBoolD (d := 18) rfl (fun g2 => ?_) (fun g2 => ?_)
  ·
   replace g2 : ¬ (0 ≤ (z.getD i 0) ∧ (z.getD i 0) ≤ 51) := g2
   refine rSkipQ rfl rfl ?_
   refine rSkipQ rfl rfl ?_
   refine rSkipQ rfl rfl ?_
   refine rSkipQ rfl rfl ?_
   refine rSkipL trv rfl rfl ?_
   refine rSkipQ rfl rfl ?_
   refine rSkipL trv rfl rfl ?_
   refine pickB rfl rfl rfl rfl ?_
   refine rNil ?_
   refine qSeq rfl ?_
   refine hIfT rfl ?_
   refine hSeq ?_
   refine hReg (sq 0 sz) (by kernel_rfl) ?_
   refine asB rfl rfl rfl ?_
   refine rNil ?_
   refine qSeq rfl ?_
   refine hRet ?_
   exact fun w hs => ⟨[.bool false], ⟨rfl, trivial⟩, ⟨bB (Iso.areB_out (i := i) (by omega) (by omega)).symm, hs.upd⟩⟩
  ·
   replace g2 : ¬ (¬ (0 ≤ (z.getD i 0) ∧ (z.getD i 0) ≤ 51)) := g2
   have htw : (Iso.seenB (z.take i)).getD (z.getD i 0).toNat false = true → (z.getD i 0) ∈ z.take i := fun h => by rw [Iso.seenB_get (by omega)] at h; exact of_decide_eq_true h
   have hsn : (z.getD i 0) ∈ z.take i → (Iso.seenB (z.take i)).getD (z.getD i 0).toNat false = true := fun h => by rw [Iso.seenB_get (by omega)]; exact decide_eq_true h
   refine mvS rfl rfl rfl ?_
   refine mvS rfl rfl rfl ?_
   refine mvI rfl rfl rfl ?_
   refine ixIl (zn := i) el23 (Kn.drop (k := 1) kz) rfl rfl rfl rfl (by omega) (by omega) rfl ?_
   intro ae2 e2
   refine ldl Try.isAgg2 (e2) trv rfl rfl rfl ?_
   refine ixRl (zn := ((z.getD i 0)).toNat) (((Iso.seenB (z.take i))).getD (((z.getD i 0)).toNat) false) el137 ((Kn.at_ 0 rfl).imp fun _ h => OwnR.rd h boK.ok) rfl rfl rfl rfl (by omega) (by omega) rfl (nth false (by rw [Iso.seenB_len]; omega)) ?_
   intro be3 oe3 e3
   refine ldl Try.isAgg4 (Kn.fld e3 0 rfl) trv rfl rfl rfl ?_
   refine pickB rfl rfl rfl rfl ?_
   refine rNil ?_
   refine qSeq rfl ?_
   refine hIf rfl (fun c3 => ?_) (fun c3 => ?_)
   ·
    replace c3 : (((Iso.seenB (z.take i))).getD (((z.getD i 0)).toNat) false) = true := c3
    refine hSeq ?_
    refine hReg (sq 0 sz) (by kernel_rfl) ?_
    refine asB rfl rfl rfl ?_
    refine rNil ?_
    refine qSeq rfl ?_
    refine hRet ?_
    exact fun w hs => ⟨[.bool false], ⟨rfl, trivial⟩, ⟨bB (Iso.areB_twice (i := i) (by omega) (htw c3)).symm, hs.upd⟩⟩
   ·
    replace c3 : (((Iso.seenB (z.take i))).getD (((z.getD i 0)).toNat) false) = false := c3
    replace c3 : ¬ (Iso.seenB (z.take i)).getD (z.getD i 0).toNat false = true := by rw [c3]; exact Bool.false_ne_true
    refine hSkip ?_
    refine qSeq rfl ?_
    refine hReg (sq 0 (sq 1 (sq 2 (sq 3 (sl 4 (sq 5 (sl 6 sz))))))) (by kernel_rfl) ?_
    refine mvS rfl rfl rfl ?_
    refine mvS rfl rfl rfl ?_
    refine mvI rfl rfl rfl ?_
    refine ixIl (zn := i) el23 (Kn.drop (k := 1) kz) rfl rfl rfl rfl (by omega) (by omega) rfl ?_
    intro ae4 e4
    refine ldl Try.isAgg2 (e4) trv rfl rfl rfl ?_
    refine oxR (zn := ((z.getD i 0)).toNat) 0 rfl el137 rfl rfl rfl rfl (by omega) (by omega) rfl ?_
    intro gk5 hgk5
    refine stRc (f := 0) (v := .bool true) (((Iso.seenB (z.take i))).getD (((z.getD i 0)).toNat) false) true (((z.getD i 0)).toNat) 0 boK.ok rfl hgk5 (nth false (by rw [Iso.seenB_len]; omega)) rfl rfl Try.sizeOf4 trv rfl rfl rfl rfl (by decide) rfl rfl ?_
    refine rNil ?_
    refine qSeq rfl ?_
    refine hReg (sq 0 (sq 1 (sq 2 sz))) (by kernel_rfl) ?_
    refine mvI rfl rfl rfl ?_
    refine add rfl rfl rfl rfl (by omega) ?_
    refine asI rfl rfl rfl ?_
    refine rNil ?_
    rw [Iso.seenB_set (by omega), ← Iso.take_snoc (by omega)]
    exact qNext rfl (i + 1) (by omega) ⟨by omega, Iso.areP_next (by omega) ha (by omega) (fun h => c3 (hsn h))⟩ ⟨rfl, rfl, rfl, trivial⟩ (fun _ h => h.pick [0])
 ·
  replace c1 : ¬ ((i : Int) < (nz : Int)) := c1
  refine hExit rfl ?_
  refine qSeq rfl ?_
  refine hSeq ?_
  refine hReg (sq 0 sz) (by kernel_rfl) ?_
  refine asB rfl rfl rfl ?_
  refine rNil ?_
  refine qSeq rfl ?_
  refine hRet ?_
  exact fun w hs => ⟨[.bool true], ⟨rfl, trivial⟩, ⟨bB (Iso.areB_end (i := i) (by omega) ha).symm, hs.upd⟩⟩
end Go.Proofs.Yteaahdakammffaa
/- A value that is spelt out. No condition. -/
namespace Go.Proofs.Yteaahdakammffaa.V
open Go Go.RowKit
set_option linter.unusedVariables false
section
variable {P : Program} {n : Cx} {w0 : World} {M : Nat → Prop} {L : List (World → Prop)} {σ : Fr} {K : Ko} {ops : Array Oper} {S : World → Prop} {r : Sch} {d : Nat} {v v' : Value}
theorem rVal (he : v' = v) (h : RG P n w0 M ops S L r (upd σ d v') K) : RG P n w0 M ops S L r (upd σ d v) K := by subst he; exact h
end
end Go.Proofs.Yteaahdakammffaa.V
/- Contracts of values of hands. Their conditions stand in each. -/
namespace Go.Proofs.Yteaahdakammffaa
open Go Go.RowKit V
set_option linter.unusedVariables false
set_option linter.unusedSimpArgs false
set_option maxRecDepth 100000
theorem bsl23_5 (v0 v1 v2 v3 v4 : Value) (h0 : v0.cells = #[v0]) (h1 : v1.cells = #[v1]) (h2 : v2.cells = #[v2]) (h3 : v3.cells = #[v3]) (h4 : v4.cells = #[v4]) : ∀ w, (Instr.buildSlice 23 5 ([(0, v0), (1, v1), (2, v2), (3, v3), (4, v4)] : List (Nat × Value)).toArray).run Try.prog w = .ok (.slice (some ⟨w.heap.size, 0, none⟩) 5 5) (w.alloc (.cells ([v0, v1, v2, v3, v4] : List Value).toArray 2)) := by
  intro w; simp [Instr.buildSlice, Instr.fill, Try.zeroValue2, Try.runUnderlying23, Try.sizeOf2, Value.cells_int, newRow, show Array.range 5 = #[0, 1, 2, 3, 4] from by decide, h0, h1, h2, h3, h4]
theorem impl_kickerValue_c (c : Int) (az : Option Addr) (nz : Nat) (cz : Nat) (z : List Int) (w : World) (rz : RdI az nz z w) (hc : 0 ≤ c ∧ c ≤ 8) (hz : Hd.digs13 z) (hl : z.length ≤ 5) :
    Calls Try.prog 156 #[.int .i64 c, .slice az nz cz] w (Ret fun v w' => v = .int .i64 (Hd.V c z) ∧ Ext w w') := by
  have kz : Kn w none_ [] (RdI az nz z) := fun w' hs => rz.ext hs.upd
  have lz : z.length = nz := rz.1
  have mz : nz ≤ 9223372036854775807 := rz.2.1
  refine fn (M := none_) (rs := [.tmp 4]) Try.func156 rfl Try.ntmps156 rfl rfl (Sep.start _ _) ?_
  refine hSeq ?_
  refine hReg (sq 0 sz) (by kernel_rfl) ?_
  refine asI rfl rfl rfl ?_
  refine rNil ?_
  refine qSeq rfl ?_
  refine hSeq ?_
  refine hSeq ?_
  refine hReg (sq 0 (sq 1 (sq 2 sz))) (by kernel_rfl) ?_
  refine mvS rfl rfl rfl ?_
  refine lenS Try.runUnderlying23 rfl rfl rfl ?_
  refine mvI rfl rfl rfl ?_
  refine rNil ?_
  refine qSeq rfl ?_
  refine hBlk ?_
  refine hLoop (α := Nat × Int) (fun x => x.1 ≤ nz ∧ x.2 = Hd.V c (z.take x.1)) (fun x => nz - x.1) (fun x => []) (fun x => [(0, .int .i64 x.2), (7, .slice az nz cz), (8, .int .i64 (nz : Int)), (9, .int .i64 (x.1 : Int))]) (0, c) ⟨Nat.zero_le _, rfl⟩ (fun _ h => h.pick []) ⟨rfl, rfl, rfl, rfl, trivial⟩ ?_
  rintro ⟨i, v⟩ τ1 ⟨hi, hv⟩
  dsimp only at hi hv
  refine hRe [(0, .int .i64 v), (7, .slice az nz cz), (8, .int .i64 (nz : Int)), (9, .int .i64 (i : Int))] [] rfl rfl ?_
  refine hSeq ?_
  refine hReg (sq 0 sz) (by kernel_rfl) ?_
  refine lss rfl rfl rfl rfl ?_
  refine rNil ?_
  refine qSeq rfl ?_
  refine hSeq ?_
  refine hIfD rfl (fun c1 => ?_) (fun c1 => ?_)
  ·
    replace c1 : (i : Int) < (nz : Int) := c1
    have hvb := Hd.V_le (c := c) (Hd.digs_take hz i) hc (by rw [List.length_take]; omega)
    have hxb := hz _ (Math.getD_mem 0 (show i < z.length by omega))
    refine hSkip ?_
    refine qSeq rfl ?_
    refine hSeq ?_
    refine hBlk ?_
    refine hSeq ?_
    refine hReg (sq 0 (sl 1 (sq 2 sz))) (by kernel_rfl) ?_
    refine ixIl (zn := i) el23 (kz) rfl rfl rfl rfl (by omega) (by omega) rfl ?_
    intro ae1 e1
    refine ldl Try.isAgg2 (e1) trv rfl rfl rfl ?_
    refine asI rfl rfl rfl ?_
    refine rNil ?_
    refine qSeq rfl ?_
    refine hReg (sq 0 (sq 1 (sq 2 (sq 3 (sq 4 sz))))) (by kernel_rfl) ?_
    refine mvI rfl rfl rfl ?_
    refine mul rfl rfl rfl rfl (by omega) ?_
    refine mvI rfl rfl rfl ?_
    refine add rfl rfl rfl rfl (by omega) ?_
    refine asI rfl rfl rfl ?_
    refine rNil ?_
    refine qSeq rfl ?_
    refine hReg (sq 0 (sq 1 sz)) (by kernel_rfl) ?_
    refine add rfl rfl rfl rfl (by omega) ?_
    refine mvI rfl rfl rfl ?_
    refine rNil ?_
    exact qNext rfl (i + 1, v * 13 + z.getD i 0) (by dsimp only; omega) ⟨by dsimp only; omega, by dsimp only; rw [Hd.V_take (by omega), hv]⟩ ⟨rfl, rfl, rfl, rfl, trivial⟩ (fun _ h => h.pick [])
  ·
    replace c1 : ¬ ((i : Int) < (nz : Int)) := c1
    refine hExit rfl ?_
    refine qSeq rfl ?_
    refine hSeq ?_
    refine hReg (sq 0 (sq 1 sz)) (by kernel_rfl) ?_
    refine mvI rfl rfl rfl ?_
    refine asI rfl rfl rfl ?_
    refine rNil ?_
    refine qSeq rfl ?_
    refine hRet ?_
    exact fun w hs => ⟨[.int .i64 v], ⟨rfl, trivial⟩, ⟨vI (by rw [hv, List.take_of_length_le (by omega)]), hs.upd⟩⟩
theorem impl_topRanks_c (c : Int) (m : Nat) (az : Option Addr) (nz : Nat) (cz : Nat) (z : List Int) (w : World) (rz : RdI az nz z w) (hc : 0 ≤ c ∧ c ≤ 8) (hm : m < 8192) (hz : Hd.digs13 z) (hl : z.length ≤ 5) (he : 5 ≤ z.length + (Hd.descN m 13).length) :
    Calls Try.prog 155 #[.int .i64 c, .int .u64 (m : Int), .slice az nz cz] w (Ret fun v w' => v = .int .i64 (Hd.topR c m z) ∧ Ext w w') := by
  have kz : Kn w none_ [] (RdI az nz z) := fun w' hs => rz.ext hs.upd
  have lz : z.length = nz := rz.1
  have mz : nz ≤ 9223372036854775807 := rz.2.1
  refine fn (M := none_) (rs := [.tmp 6]) Try.func155 rfl Try.ntmps155 rfl rfl (Sep.start _ _) ?_
  refine hSeq ?_
  refine hReg (sq 0 sz) (by kernel_rfl) ?_
  refine asI rfl rfl rfl ?_
  refine rNil ?_
  refine qSeq rfl ?_
  refine hSeq ?_
  refine hReg (sq 0 (sq 1 (sl 2 (sq 3 sz)))) (by kernel_rfl) ?_
  refine mvI rfl rfl rfl ?_
  refine mvS rfl rfl rfl ?_
  refine callP (v := .int .i64 (Hd.V c z)) Try.call156 trv rfl rfl (fun w hs => impl_kickerValue_c _ _ _ _ _ w (kz w hs) (by omega) (by first | assumption | exact Hd.digs_nil | (unfold Hd.digs13; simp only [List.mem_cons, List.not_mem_nil, or_false, forall_eq_or_imp, forall_eq]; omega)) (by first | omega | (simp only [List.length_cons, List.length_nil]; omega))) ?_
  refine asI rfl rfl rfl ?_
  refine rNil ?_
  refine qSeq rfl ?_
  refine hSeq ?_
  refine hSeq ?_
  refine hReg (sq 0 (sq 1 (sq 2 (sq 3 sz)))) (by kernel_rfl) ?_
  refine mvS rfl rfl rfl ?_
  refine lenS Try.runUnderlying23 rfl rfl rfl ?_
  refine asI rfl rfl rfl ?_
  refine asI rfl rfl rfl ?_
  refine rNil ?_
  refine qSeq rfl ?_
  refine hBlk ?_
  refine hLoop (α := Nat × Int × Nat) (fun x => (x.1 ≤ 13 ∧ x.2.2 ≤ 5) ∧ x.2.1 = Hd.V c (z ++ (Hd.descN m x.1)) ∧ x.2.2 = nz + (Hd.descN m x.1).length) (fun x => 13 - x.1) (fun x => []) (fun x => [(1, .int .u64 (m : Int)), (7, .int .i64 x.2.1), (8, .int .i64 (x.2.2 : Int)), (9, .int .i64 ((12 - (x.1 : Int))))]) (0, Hd.V c z, nz) (⟨⟨by dsimp only; omega, by dsimp only; omega⟩, by dsimp only; exact congrArg (Hd.V c) (List.append_nil z).symm, rfl⟩) (fun _ h => h.pick []) ⟨rfl, rfl, rfl, rfl, trivial⟩ ?_
  rintro ⟨j, v, q⟩ τ1 ⟨⟨hj, hq5⟩, hv, hq⟩
  dsimp only at hj hq5 hv hq
  refine hRe [(1, .int .u64 (m : Int)), (7, .int .i64 v), (8, .int .i64 (q : Int)), (9, .int .i64 ((12 - (j : Int))))] [] rfl rfl ?_
  refine hSeq ?_
  refine hSeq ?_
  refine hReg (sq 0 (sq 1 sz)) (by kernel_rfl) ?_
  refine mvI rfl rfl rfl ?_
  refine lss rfl rfl rfl rfl ?_
  refine rNil ?_
  refine qSeq rfl ?_
  refine hIfD rfl (fun c1 => ?_) (fun c1 => ?_)
  ·
    replace c1 : (q : Int) < 5 := c1
    have hj12 : j ≤ 12 := by
      rcases Nat.lt_or_ge j 13 with h | h
      · omega
      · exfalso; rw [show j = 13 by omega] at hq; omega
    have hvb := Hd.V_le (z := z ++ (Hd.descN m j)) (c := c) (Hd.digs_app hz (Hd.descN_digs (by omega))) hc (by rw [List.length_append]; omega)
    rw [← hv] at hvb
    refine hSkip ?_
    refine qSeq rfl ?_
    refine hSeq ?_
    refine hBlk ?_
    refine hSeq ?_
    refine hReg (sq 0 (sq 1 (sq 2 (sq 3 (sq 4 sz))))) (by kernel_rfl) ?_
    refine mvI rfl rfl rfl ?_
    refine mvI rfl rfl rfl ?_
    refine shrN (m := m) rfl rfl rfl rfl (by omega) ?_
    refine andN (x := (m >>> ((12 - (j : Int))).toNat)) (y := 1) rfl rfl rfl rfl (⟨Nat.lt_of_le_of_lt (Nat.shiftRight_le _ _) (Nat.lt_trans hm (by decide)), by decide⟩) ?_
    refine eql rfl rfl rfl rfl ?_
    refine rNil ?_
    refine qSeq rfl ?_
    refine hIfD rfl (fun c2 => ?_) (fun c2 => ?_)
    ·
      replace c2 : (((m >>> ((12 - (j : Int))).toNat) &&& 1 : Nat) : Int) = 1 := c2
      have hbt : m.testBit (12 - j) = true := by have := Hd.bit_iff.1 c2; rwa [show (12 - (j : Int)).toNat = 12 - j by omega] at this
      refine hSeq ?_
      refine hReg (sq 0 (sq 1 (sq 2 (sq 3 (sq 4 sz))))) (by kernel_rfl) ?_
      refine mvI rfl rfl rfl ?_
      refine mul rfl rfl rfl rfl (by omega) ?_
      refine mvI rfl rfl rfl ?_
      refine add rfl rfl rfl rfl (by omega) ?_
      refine asI rfl rfl rfl ?_
      refine rNil ?_
      refine qSeq rfl ?_
      refine hReg (sq 0 (sq 1 (sq 2 sz))) (by kernel_rfl) ?_
      refine mvI rfl rfl rfl ?_
      refine add rfl rfl rfl rfl (by omega) ?_
      refine asI rfl rfl rfl ?_
      refine rNil ?_
      refine qSeq rfl ?_
      refine hReg (sq 0 (sq 1 (sq 2 sz))) (by kernel_rfl) ?_
      refine mvI rfl rfl rfl ?_
      refine sub rfl rfl rfl rfl (by omega) ?_
      refine asI rfl rfl rfl ?_
      refine rNil ?_
      exact qNext rfl ((j + 1, v * 13 + (12 - (j : Int)), q + 1)) (by dsimp only; omega) (⟨⟨by dsimp only; omega, by dsimp only; omega⟩, by dsimp only; rw [Hd.descN_yes hbt, ← List.append_assoc, Hd.V_snoc, hv], by dsimp only; rw [Hd.descN_yes hbt, List.length_append, hq]; rfl⟩) ⟨rfl, rfl, rfl, vI (by push_cast; omega), trivial⟩ (fun _ h => h.pick [])
    ·
      replace c2 : ¬ ((((m >>> ((12 - (j : Int))).toNat) &&& 1 : Nat) : Int) = 1) := c2
      have hbt : m.testBit (12 - j) = false := by rw [← Bool.not_eq_true]; exact fun h => c2 (Hd.bit_iff.2 (by rw [show (12 - (j : Int)).toNat = 12 - j by omega]; exact h))
      refine hSkip ?_
      refine qSeq rfl ?_
      refine hReg (sq 0 (sq 1 (sq 2 sz))) (by kernel_rfl) ?_
      refine mvI rfl rfl rfl ?_
      refine sub rfl rfl rfl rfl (by omega) ?_
      refine asI rfl rfl rfl ?_
      refine rNil ?_
      exact qNext rfl (j + 1, v, q) (by dsimp only; omega) (⟨⟨by dsimp only; omega, by dsimp only; omega⟩, by dsimp only; rw [Hd.descN_no hbt, hv], by dsimp only; rw [Hd.descN_no hbt, hq]⟩) ⟨rfl, rfl, rfl, vI (by push_cast; omega), trivial⟩ (fun _ h => h.pick [])
  ·
    replace c1 : ¬ ((q : Int) < 5) := c1
    refine hExit rfl ?_
    refine qSeq rfl ?_
    refine hSeq ?_
    refine hReg (sq 0 (sq 1 sz)) (by kernel_rfl) ?_
    refine mvI rfl rfl rfl ?_
    refine asI rfl rfl rfl ?_
    refine rNil ?_
    refine qSeq rfl ?_
    refine hRet ?_
    exact fun w hs => ⟨[.int .i64 v], ⟨rfl, trivial⟩, ⟨vI (by rw [hv]; exact Hd.topR_end (by omega) (by omega)), hs.upd⟩⟩
theorem impl_straightIn_c (m : Nat) (c : Int) (al : Bool) (w : World) (hc : 0 ≤ c ∧ c ≤ 8) (hm : m < 8192) :
    Calls Try.prog 154 #[.int .u64 (m : Int), .int .i64 c, .bool al] w (Ret fun v w' => v = .int .i64 (Hd.strIn c m al) ∧ Ext w w') := by
  refine fn (M := none_) (rs := [.tmp 6]) Try.func154 rfl Try.ntmps154 rfl rfl (Sep.start _ _) ?_
  refine hSeq ?_
  refine hReg (sq 0 sz) (by kernel_rfl) ?_
  refine asI rfl rfl rfl ?_
  refine rNil ?_
  refine qSeq rfl ?_
  refine hSeq ?_
  refine hSeq ?_
  refine hReg (sq 0 sz) (by kernel_rfl) ?_
  refine asI rfl rfl rfl ?_
  refine rNil ?_
  refine qSeq rfl ?_
  refine hBlk ?_
  refine hLoop (α := Nat) (fun k => k ≤ 9 ∧ ∀ j, j < k → Hd.strAt m j = false) (fun k => 9 - k) (fun k => []) (fun k => [(0, .int .u64 (m : Int)), (1, .int .i64 c), (2, .bool al), (7, .int .i64 ((12 - (k : Int))))]) 0 ⟨by omega, fun j h => absurd h (Nat.not_lt_zero j)⟩ (fun _ h => h.pick []) ⟨rfl, rfl, rfl, rfl, trivial⟩ ?_
  rintro k τ1 ⟨hk, hno⟩
  refine hSeq ?_
  refine hSeq ?_
  refine hReg (sq 0 (sq 1 sz)) (by kernel_rfl) ?_
  refine mvI rfl rfl rfl ?_
  refine geq rfl rfl rfl rfl ?_
  refine rNil ?_
  refine qSeq rfl ?_
  refine hIfD rfl (fun c1 => ?_) (fun c1 => ?_)
  ·
    replace c1 : 4 ≤ (12 - (k : Int)) := c1
    refine hSkip ?_
    refine qSeq rfl ?_
    refine hSeq ?_
    refine hBlk ?_
    refine hSeq ?_
    refine hReg (sq 0 (sq 1 (sq 2 (sq 3 (sq 4 (sq 5 sz)))))) (by kernel_rfl) ?_
    refine mvI rfl rfl rfl ?_
    refine mvI rfl rfl rfl ?_
    refine sub rfl rfl rfl rfl (by omega) ?_
    refine shrN (m := m) rfl rfl rfl rfl (by omega) ?_
    refine andN (x := (m >>> (((12 - (k : Int)) - 4)).toNat)) (y := 31) rfl rfl rfl rfl (⟨Nat.lt_of_le_of_lt (Nat.shiftRight_le _ _) (Nat.lt_trans hm (by decide)), by decide⟩) ?_
    refine eql rfl rfl rfl rfl ?_
    refine rNil ?_
    refine qSeq rfl ?_
    refine hIfD rfl (fun c2 => ?_) (fun c2 => ?_)
    ·
      replace c2 : (((m >>> (((12 - (k : Int)) - 4)).toNat) &&& 31 : Nat) : Int) = 31 := c2
      have hst : Hd.strAt m k = true := by
        have h1 := c2; rw [show ((12 - (k : Int)) - 4).toNat = 8 - k by omega] at h1
        exact decide_eq_true (by omega)
      refine hSeq ?_
      refine hReg (sq 0 (sq 1 (sq 2 (sq 3 (sq 4 (sq 5 (sq 6 (sq 7 (sq 8 (sq 9 (sl 10 (sl 11 (sq 12 sz))))))))))))) (by kernel_rfl) ?_
      refine mvI rfl rfl rfl ?_
      refine mvI rfl rfl rfl ?_
      refine mvI rfl rfl rfl ?_
      refine sub rfl rfl rfl rfl (by omega) ?_
      refine mvI rfl rfl rfl ?_
      refine sub rfl rfl rfl rfl (by omega) ?_
      refine mvI rfl rfl rfl ?_
      refine sub rfl rfl rfl rfl (by omega) ?_
      refine mvI rfl rfl rfl ?_
      refine sub rfl rfl rfl rfl (by omega) ?_
      refine bsl trv1 rfl rfl rfl (bsl23_5 (.int .i64 _) (.int .i64 _) (.int .i64 _) (.int .i64 _) (.int .i64 _) rfl rfl rfl rfl rfl) (fun bkl1 hbkl1 => ?_)
      refine callP (v := .int .i64 ((Hd.V c [(12 - (k : Int)), ((12 - (k : Int)) - 1), ((12 - (k : Int)) - 2), ((12 - (k : Int)) - 3), ((12 - (k : Int)) - 4)]))) Try.call156 trv rfl rfl (fun w hs => impl_kickerValue_c _ _ _ _ _ w (RdI.lit (zs := [(12 - (k : Int)), ((12 - (k : Int)) - 1), ((12 - (k : Int)) - 2), ((12 - (k : Int)) - 3), ((12 - (k : Int)) - 4)]) (n := 5) (hs.at_ 0 rfl) rfl rfl rfl) (by omega) (by first | assumption | exact Hd.digs_nil | (unfold Hd.digs13; simp only [List.mem_cons, List.not_mem_nil, or_false, forall_eq_or_imp, forall_eq]; omega)) (by first | omega | (simp only [List.length_cons, List.length_nil]; omega))) ?_
      refine asI rfl rfl rfl ?_
      refine rNil ?_
      refine qSeq rfl ?_
      refine hRet ?_
      exact fun w hs => ⟨[.int .i64 ((Hd.V c [(12 - (k : Int)), ((12 - (k : Int)) - 1), ((12 - (k : Int)) - 2), ((12 - (k : Int)) - 3), ((12 - (k : Int)) - 4)]))], ⟨rfl, trivial⟩, ⟨by first | exact vI (Hd.strIn_here (by omega) hst hno).symm | exact vI (Hd.strIn_wheel (fun j hj => hno j (by omega)) g3 (by omega)).symm | exact vI (Hd.strIn_no (fun j hj => hno j (by omega)) (fun h => c4 (by have := h.2; omega))).symm | exact vI (Hd.strIn_no (fun j hj => hno j (by omega)) (fun h => by rw [g3] at h; exact absurd h.1 (by decide))).symm, hs.upd⟩⟩
    ·
      replace c2 : ¬ ((((m >>> (((12 - (k : Int)) - 4)).toNat) &&& 31 : Nat) : Int) = 31) := c2
      have hst : Hd.strAt m k = false := by
        have h1 := c2; rw [show ((12 - (k : Int)) - 4).toNat = 8 - k by omega] at h1
        exact decide_eq_false (by omega)
      refine hSkip ?_
      refine qSeq rfl ?_
      refine hReg (sq 0 (sq 1 (sq 2 sz))) (by kernel_rfl) ?_
      refine mvI rfl rfl rfl ?_
      refine sub rfl rfl rfl rfl (by omega) ?_
      refine asI rfl rfl rfl ?_
      refine rNil ?_
      exact qNext rfl (k + 1) (by show 9 - (k + 1) < 9 - k; omega) ⟨by omega, fun j hj => by rcases (show j < k ∨ j = k by omega) with h | rfl <;> first | exact hno _ h | exact hst⟩ ⟨rfl, rfl, rfl, vI (by push_cast; omega), trivial⟩ (fun _ h => h.pick [])
  ·
    replace c1 : ¬ (4 ≤ (12 - (k : Int))) := c1
    refine hExit rfl ?_
    refine qSeq rfl ?_
    refine hSeq ?_
    refine hSeq ?_
    refine hReg (sq 0 (sq 1 (sq 2 (sq 3 (sq 4 (sq 5 sz)))))) (by kernel_rfl) ?_
    refine mvB rfl rfl rfl ?_
    refine mvB rfl rfl rfl ?_
    refine rBool (d := 31) rfl (fun g3 => ?_) (fun g3 => ?_)
    ·
      replace g3 : al = true := g3
      refine mvI rfl rfl rfl ?_
      refine andN (x := m) (y := 4111) rfl rfl rfl rfl (⟨Nat.lt_trans hm (by decide), by decide⟩) ?_
      refine eql rfl rfl rfl rfl ?_
      refine pickB rfl rfl rfl rfl ?_
      refine rNil ?_
      refine qSeq rfl ?_
      refine hIfD rfl (fun c4 => ?_) (fun c4 => ?_)
      ·
        replace c4 : ((m &&& 4111 : Nat) : Int) = 4111 := c4
        refine hSeq ?_
        refine hReg (sq 0 (sl 1 (sl 2 (sq 3 sz)))) (by kernel_rfl) ?_
        refine mvI rfl rfl rfl ?_
        refine bsl trv1 rfl rfl rfl (bsl23_5 (.int .i64 _) (.int .i64 _) (.int .i64 _) (.int .i64 _) (.int .i64 _) rfl rfl rfl rfl rfl) (fun bkl2 hbkl2 => ?_)
        refine callP (v := .int .i64 (Hd.V c [3, 2, 1, 0, 12])) Try.call156 trv rfl rfl (fun w hs => impl_kickerValue_c _ _ _ _ _ w (RdI.lit (zs := [3, 2, 1, 0, 12]) (n := 5) (hs.at_ 0 rfl) rfl rfl rfl) (by omega) (by first | assumption | exact Hd.digs_nil | (unfold Hd.digs13; simp only [List.mem_cons, List.not_mem_nil, or_false, forall_eq_or_imp, forall_eq]; omega)) (by first | omega | (simp only [List.length_cons, List.length_nil]; omega))) ?_
        refine asI rfl rfl rfl ?_
        refine rNil ?_
        refine qSeq rfl ?_
        refine hRet ?_
        exact fun w hs => ⟨[.int .i64 (Hd.V c [3, 2, 1, 0, 12])], ⟨rfl, trivial⟩, ⟨by first | exact vI (Hd.strIn_here (by omega) hst hno).symm | exact vI (Hd.strIn_wheel (fun j hj => hno j (by omega)) g3 (by omega)).symm | exact vI (Hd.strIn_no (fun j hj => hno j (by omega)) (fun h => c4 (by have := h.2; omega))).symm | exact vI (Hd.strIn_no (fun j hj => hno j (by omega)) (fun h => by rw [g3] at h; exact absurd h.1 (by decide))).symm, hs.upd⟩⟩
      ·
        replace c4 : ¬ (((m &&& 4111 : Nat) : Int) = 4111) := c4
        refine hSkip ?_
        refine qSeq rfl ?_
        refine hSeq ?_
        refine hReg (sq 0 sz) (by kernel_rfl) ?_
        refine asI rfl rfl rfl ?_
        refine rNil ?_
        refine qSeq rfl ?_
        refine hRet ?_
        exact fun w hs => ⟨[.int .i64 (-1)], ⟨rfl, trivial⟩, ⟨by first | exact vI (Hd.strIn_here (by omega) hst hno).symm | exact vI (Hd.strIn_wheel (fun j hj => hno j (by omega)) g3 (by omega)).symm | exact vI (Hd.strIn_no (fun j hj => hno j (by omega)) (fun h => c4 (by have := h.2; omega))).symm | exact vI (Hd.strIn_no (fun j hj => hno j (by omega)) (fun h => by rw [g3] at h; exact absurd h.1 (by decide))).symm, hs.upd⟩⟩
    ·
      replace g3 : al = false := g3
      refine rSkipQ rfl rfl ?_
      refine rSkipQ rfl rfl ?_
      refine rSkipQ rfl rfl ?_
      refine pickB rfl rfl rfl rfl ?_
      refine rNil ?_
      refine qSeq rfl ?_
      refine hIfF rfl ?_
      refine hSkip ?_
      refine qSeq rfl ?_
      refine hSeq ?_
      refine hReg (sq 0 sz) (by kernel_rfl) ?_
      refine asI rfl rfl rfl ?_
      refine rNil ?_
      refine qSeq rfl ?_
      refine hRet ?_
      exact fun w hs => ⟨[.int .i64 (-1)], ⟨rfl, trivial⟩, ⟨by first | exact vI (Hd.strIn_here (by omega) hst hno).symm | exact vI (Hd.strIn_wheel (fun j hj => hno j (by omega)) g3 (by omega)).symm | exact vI (Hd.strIn_no (fun j hj => hno j (by omega)) (fun h => c4 (by have := h.2; omega))).symm | exact vI (Hd.strIn_no (fun j hj => hno j (by omega)) (fun h => by rw [g3] at h; exact absurd h.1 (by decide))).symm, hs.upd⟩⟩
end Go.Proofs.Yteaahdakammffaa
/- The engine, part 18: closures that are made, yield called, loops of two rounds. No condition. -/
namespace Go.Proofs.Yteaahdakammffaa.V
open Go Go.RowKit
set_option linter.unusedVariables false
set_option linter.unusedSimpArgs false
section
variable {P : Program} {n : Cx} {w0 : World} {M : Nat → Prop} {L L' Lf Lr J A : List (World → Prop)} {σ : Fr} {K K' : Ko} {c x y : Code} {ops : Array Oper} {S : World → Prop} {r : Sch} {i : Nat}
variable {d : Nat} {t : TypeId} {p : String} {af : Array Edge} {g : Option (Nat × Bool)} {a b : Operand}
/-- A closure is made. -/
theorem mkFn {f : FuncId} {cs : Array Operand} {vs : Array Value} (ho : ops[i]? = some ⟨some d, .makeFunc (.func f) #[] cs, t, p, af, g⟩) (hg : go ops σ g) (hv : (cs.toList.map (ev σ)).toArray = vs) (h : RG P n w0 M ops S L r (upd σ d (.func (.func f) #[] vs)) K) : RG P n w0 M ops S L (.op .q i r) σ K :=
  rQ ho hg (fun w _ => by
    have he : cs.map (ev σ) = vs := by rw [← hv, ← Array.toList_map, Array.toArray_toList]
    simp [execOp, Instr.makeFunc, he]) h
theorem hKnow {φ : Prop} (hk : ∀ w, Sep w0 M L w → φ) (h : φ → HT P n w0 M L σ c K) : HT P n w0 M L σ c K := fun w hs => h (hk w hs) w hs
theorem qPieces {e : Exit} (hL : ∀ w, Sep w0 M L w → Sep w0 M L' w) (h : QT P n w0 M L' σ e K) : QT P n w0 M L σ e K := fun w hs => h w (hL w hs)
/-- A call of a closure without results that turns the last pieces. -/
theorem callCU {f : FuncId} {co : Operand} {lb av : Array Value} {args : Array Operand} {tys : Array TypeId} {v0 : Value} {J' : List (World → Prop)} (A : List (World → Prop)) (J : List (World → Prop)) (hL : L = A ++ J) (hf : ∀ args w, (callFunc f args).run P w = .ok (.enter f args) w) (hS : ∀ w, Sep w0 M (A ++ J') w → S w)
    (ho : ops[i]? = some ⟨some d, .call ⟨.value co, args, tys⟩, t, p, af, g⟩) (hg : go ops σ g) (hco : ev σ co = .func (.func f) #[] lb) (hA : (args.toList.map (ev σ)).toArray ++ lb = av)
    (hc : ∀ w M0, Sep w M0 J w → (∀ φ, Kn w0 M A φ → Kn w M0 [] φ) → Calls P f av w (Ret fun v w' => v = v0 ∧ Sep w M0 J' w'))
    (h : RG P n w0 M ops S (A ++ J') r (upd σ d v0) K) : RG P n w0 M ops S L (.op .l i r) σ K :=
  callC (A := A) (J := J) (α := Unit) (val := fun _ => v0) (good := fun _ => True) (φs := fun _ => J') hL hf (fun _ w => hS w) ho hg hco (fun w M0 hs hk => by
    rw [hA]
    exact Calls.mono (hc w M0 hs hk) fun e w' ⟨v, he, hv, hs'⟩ => ⟨v, he, (), hv, trivial, hs'⟩) (fun _ _ => h)
/-- The first element of a slice that begins at a block. -/
theorem ix0 {ty m : TypeId} {bk len cap : Nat} {k : IntKind} (hE : Elt P ty m) (ho : ops[i]? = some ⟨some d, .indexAddr ty a b, t, p, af, g⟩) (hg : go ops σ g) (ha : ev σ a = .slice (some ⟨bk, 0, none⟩) len cap) (hb : ev σ b = .int k 0) (h1 : 0 < len)
    (h : RG P n w0 M ops S L r (upd σ d (.pointer (some ⟨bk, 0, none⟩))) K) : RG P n w0 M ops S L (.op .q i r) σ K := by
  obtain ⟨e, he, hs⟩ := hE
  exact rQ ho hg (fun w _ => by
    have h2 : (0 : Int) < (len : Int) := by omega
    simp [execOp, ha, hb, Instr.indexAt, asIntOf, he, hs, h1, h2, add_addr]) h
/-- 'copy' of a whole list into the beginning of an owned slice. -/
theorem cpyI {ty ty2 e by_ N C kk lc gk : Nat} {zc : List Value} {ao q : Option Addr} {zs ys : List Int} (j : Nat) (hj : L[j]? = some (OwnI e ao N C zs)) (hao : ao = some ⟨gk, 0, none⟩) (hC : Kn w0 M L (RdI q kk ys)) (hM : Mk P ty e 1 by_ zc) (hkN : kk ≤ N) (hk0 : 0 < kk) (hS : ∀ w, Sep w0 M (L.set j (OwnI e ao N C (ys ++ zs.drop kk))) w → S w)
    (ho : ops[i]? = some ⟨some d, .call ⟨.builtin .copy, #[a, b], #[ty, ty2]⟩, t, p, af, g⟩) (hg : go ops σ g) (ha : ev σ a = .slice ao N C) (hb : ev σ b = .slice q kk lc)
    (h : RG P n w0 M ops S (L.set j (OwnI e ao N C (ys ++ zs.drop kk))) r (upd σ d (.int .i64 (kk : Int))) K) : RG P n w0 M ops S L (.op .l i r) σ K := by
  subst hao
  refine rL (α := Unit) (good := fun _ => True) (Lx := fun _ => L.set j (OwnI e (some ⟨gk, 0, none⟩) N C (ys ++ zs.drop kk))) (v := fun _ => .int .i64 (kk : Int)) (fun _ w => hS w) ho hg (fun w hs => ?_) (fun _ _ => h)
  have hown : OwnI e (some ⟨gk, 0, none⟩) N C zs w := hs.at_ j hj
  have hrd := hC w hs
  obtain ⟨hu, inf, zv, hi, hz0, hs1, hby, hzc, hm, hm0, hb0⟩ := hM
  have hyl : (iv ys).length = kk := by rw [iv_len]; exact hrd.1
  have hzl := hown.lenz
  obtain ⟨cur, hcur, hsz, hown2⟩ := Own.setN (k := 0) (news := iv ys) hown (by rw [hyl, iv_len]; omega)
  obtain ⟨ad, had⟩ : ∃ ad, q = some ad := by
    cases q with
    | some ad => exact ⟨ad, rfl⟩
    | none =>
      have hlt : 0 < (iv ys).length := by omega
      obtain ⟨bb, off, hh, _⟩ := hrd.2.2 0 _ (List.getElem?_eq_getElem hlt)
      cases hh
  subst had
  have hsrc : ∀ j v, (iv ys)[j]? = some v → w.cell? (ad.add j) = some v := fun j v hv => by
    obtain ⟨bb, off, hh, hc⟩ := hrd.2.2 j v hv
    cases hh
    rw [Addr.add_lit]; exact hc
  have hr := run_copy_row (P := P) w ty ty2 t e gk 0 N C ad kk lc cur e (iv ys) hu (by rw [hi]; simp [hs1]) hcur (by rw [hyl]; exact (Nat.min_eq_left hkN).symm) hsrc (by omega) (fun v hv => by obtain ⟨z, _, rfl⟩ := List.mem_map.1 hv; rfl)
  unfold opw
  simp only [execOp, resolve, invoke, builtin, Sem.run_bind, Sem.run_pure, Result.andThen_ok, List.map_toArray, List.map_cons, List.map_nil, ha, hb, hr]
  refine ⟨(), trivial, hs.change j hj fun f hf => ⟨f, fun _ h => .inl h, ?_, ?_⟩, by rw [hyl]; rfl⟩
  · have ho2 : OwnI e (some ⟨gk, 0, none⟩) N C (ys ++ zs.drop kk) (w.setRow gk (cur.toList.take 0 ++ iv ys ++ cur.toList.drop (0 + (iv ys).length)).toArray) := by
      unfold OwnI
      have : iv (ys ++ zs.drop kk) = (iv zs).take 0 ++ iv ys ++ (iv zs).drop (0 + (iv ys).length) := by
        rw [hyl]; simp [iv]
      rw [this]; exact hown2
    exact Own.St ho2 fun q hq => Own.mem hf q hq
  · exact ⟨rfl, rfl, rfl, by simp, fun k hk hn => setRow_other w gk k _ fun e => hn (e ▸ Own.mem hf gk rfl)⟩
/-- A field of a struct that is a value. -/
theorem fldV {ty f : Nat} {vs : List Value} {v : Value} (hF : ∀ w, (Instr.field ty (.agg vs.toArray) f).run P w = .ok v w) (ho : ops[i]? = some ⟨some d, .field ty a f, t, p, af, g⟩) (hg : go ops σ g) (ha : ev σ a = .agg vs.toArray) (h : RG P n w0 M ops S L r (upd σ d v) K) : RG P n w0 M ops S L (.op .q i r) σ K :=
  rQ ho hg (fun w _ => by simp [execOp, ha, hF]) h
/-- The end of a slice that is read; its capacity is not too small. -/
theorem slLoRd {ty N C : Nat} {ao : Option Addr} {zs : List Int} {z : Int} {kk : IntKind} (hC : Kn w0 M L (RdI ao N zs)) (hNC : N ≤ C) (hE : Elt P ty 1) (ho : ops[i]? = some ⟨some d, .slice ty a (some b) none none, t, p, af, g⟩) (hg : go ops σ g) (ha : ev σ a = .slice ao N C) (hb : ev σ b = .int kk z) (h0 : 0 ≤ z) (h1 : z ≤ N) {zn : Nat} (hzn : z.toNat = zn)
    (h : ∀ q', (Kn w0 M L (RdI q' (N - zn) (zs.drop zn))) → RG P n w0 M ops S L r (upd σ d (.slice q' (N - zn) (C - zn))) K) : RG P n w0 M ops S L (.op .q i r) σ K := by
  subst hzn
  obtain ⟨e', he, hs⟩ := hE
  refine rQ (v := .slice (if C = z.toNat then ao else ao.map (·.add (z.toNat * 1))) (N - z.toNat) (C - z.toNat)) ho hg (fun w hw => ?_) (h _ fun w hw => ?_)
  · simp [execOp, ha, hb, Instr.sliceAt, Instr.slice, Instr.sliceBounds, Instr.sliceBound, asIntOf, he w, hs w, h0, h1]
  · obtain ⟨hl, hm, hc⟩ := hC w hw
    refine ⟨by rw [List.length_drop, hl], by omega, fun k v hk => ?_⟩
    rw [show iv (zs.drop z.toNat) = (iv zs).drop z.toNat from by simp [iv, List.map_drop], List.getElem?_drop] at hk
    obtain ⟨bk, off, hq, hcell⟩ := hc _ v hk
    have hlt := (List.getElem?_eq_some_iff.1 hk).1
    rw [iv_len, hl] at hlt
    rw [if_neg (by omega), hq]
    exact ⟨bk, off + z.toNat, by simp [add_addr], by rw [Nat.add_assoc]; exact hcell⟩
theorem OwnI.capz {e : Nat} {a : Option Addr} {n c : Nat} {zs : List Int} {w : World} (h : OwnI e a n c zs w) : n ≤ c := by
  rcases h.2 with ⟨hv, h0⟩ | ⟨g', cap, cur, hv, _, _, hnc, _⟩
  · omega
  · cases hv; exact hnc
theorem OwnR.caps {e e1 : Nat} {a : Option Addr} {n c : Nat} {hs : Nat → Hd} {xs : List (List Int)} {w : World} (h : OwnR maK e e1 a n c hs xs w) : ∀ i, i < xs.length → (xs.getD i []).length ≤ (hs i).2 := fun i hi => by
  have := h.2.2.1 i _ (List.getElem?_eq_getElem hi)
  have e2 : xs.getD i [] = xs[i] := by rw [List.getD_eq_getElem?_getD, List.getElem?_eq_getElem hi]; rfl
  rw [e2]
  exact OwnI.capz this
/-- A literal of one row, with what it leads to. -/
theorem Sep.litR1 {bk e e1 c nn : Nat} {a : Option Addr} {x : List Int} {w : World} (h : Sep w0 M (blk bk e [.slice a nn c] :: OwnI e1 a nn c x :: L) w) : Sep w0 M (OwnR maK e e1 (some ⟨bk, 0, none⟩) 1 1 (fun _ => (a, c)) [x] :: L) w := by
  refine h.fuse fun f g hf hg hfg => ?_
  have hx : OwnI e1 a nn c x w := hg.out
  have hl := hx.lenz
  subst hl
  have hfm : f bk := blk.mem hf
  refine ⟨fun k => f k ∨ g k, fun k hk => hk.elim .inl fun h => .inr (.inl h), ?_, Upd.refl _ _⟩
  refine OwnR.St (k := maK) ⟨rfl, Own.ofBlk (hf.out : blk bk e [.slice a x.length c] w) (by show 1 ≤ maxLen; decide), fun i x' hx' => ?_, fun i j b hi hj _ _ => by omega, fun i b _ hb hb2 => ?_⟩ fun b hb => ?_
  · match i, hx' with
    | 0, hx' => cases hx'; exact hx
    | i + 1, hx' => cases hx'
  · cases hb2
    exact hfg bk hfm (Own.mem hg bk hb)
  · rcases hb with hb | ⟨i, _, hb⟩
    · cases hb; exact .inl hfm
    · exact .inr (Own.mem hg b hb)
/-- An element of a slice that begins at a block. -/
theorem ixB {ty m : TypeId} {bk len cap : Nat} {k : IntKind} {z : Int} (hE : Elt P ty m) (ho : ops[i]? = some ⟨some d, .indexAddr ty a b, t, p, af, g⟩) (hg : go ops σ g) (ha : ev σ a = .slice (some ⟨bk, 0, none⟩) len cap) (hb : ev σ b = .int k z) (h0 : 0 ≤ z) (h1 : z < (len : Int))
    (h : RG P n w0 M ops S L r (upd σ d (.pointer (some ⟨bk, z.toNat * m, none⟩))) K) : RG P n w0 M ops S L (.op .q i r) σ K := by
  obtain ⟨e, he, hs⟩ := hE
  exact rQ ho hg (fun w _ => by simp [execOp, ha, hb, Instr.indexAt, asIntOf, he, hs, h0, h1, add_addr]) h
/-- A loop of one round and the beginning of another. -/
theorem hLoop2 (h : HT P n w0 M L σ c (.seq c (.loop [] (fun _ _ => False) K))) : HT P n w0 M L σ (.loop c) K := by
  intro w hs a ha
  refine wpIn_loop_rounds 2 ?_
  refine wpIn_mono (h w hs a ha) ?_
  intro e a1 w1 hq
  cases e <;> simp only [WQ, denX, den, Exit.then] at hq ⊢ <;> (try exact hq)
  case normal =>
    obtain ⟨ds, σ1, ha1, hq⟩ := hq
    refine wpIn_mono (hq a1 ha1) ?_
    intro e a2 w2 hq2
    cases e <;> simp only [WQ, denX, den, Exit.then] at hq2 ⊢ <;> (try exact hq2)
    case normal =>
      obtain ⟨ds2, σ2, ha2, hq2⟩ := hq2
      exact (hq2.2).elim
/-- A call of yield, told by what comes of it. -/
theorem callYY {γ : Type} {l : Nat} {co ao : Operand} {tys : Array TypeId} {all : List (List Int)} {wb : World} {Mb : Nat → Prop} {Jy Jx : γ → List (World → Prop)} {ok okx : List (List Int) → γ → Prop} {pre : List (List Int)} {xs : List Int} {gg : γ} {ax : Option Addr} {nx cx : Nat}
    (hY : Yields P l all wb Mb Jy Jx ok okx) (A : List (World → Prop)) (hL : L = A ++ Jy gg) (hok : ok pre gg) (hpre : pre ++ [xs] <+: all) (hb : ∀ φ, Kn wb Mb [] φ → Kn w0 M A φ) (hrd : Kn w0 M A (RdI ax nx xs)) (hS : ∀ B w, Sep w0 M (A ++ B) w → S w)
    (ho : ops[i]? = some ⟨some d, .call ⟨.value co, #[ao], tys⟩, t, p, af, g⟩) (hg : go ops σ g) (hco : ev σ co = .func (.yield l) #[] #[]) (hao : ev σ ao = .slice ax nx cx)
    (h1 : ∀ g', ok (pre ++ [xs]) g' → RG P n w0 M ops S (A ++ Jy g') r (upd σ d (.bool true)) K) (h2 : ∀ g', okx (pre ++ [xs]) g' → RG P n w0 M ops S (A ++ Jx g') r (upd σ d (.bool false)) K) :
    RG P n w0 M ops S L (.op .l i r) σ K := by
  refine callY (J := Jy gg) (A := A) (α := Bool × γ) (val := fun x => .bool x.1) (good := fun x => (x.1 = true ∧ ok (pre ++ [xs]) x.2) ∨ (x.1 = false ∧ okx (pre ++ [xs]) x.2)) (φs := fun x => if x.1 = true then Jy x.2 else Jx x.2) hL (fun x w => hS _ w) ho hg hco (fun w M0 hs hk => ?_) ?_
  · have h3 := hY pre xs gg ax nx cx w M0 hok hpre hs (fun φ hφ => hk φ (hb φ hφ)) (hk _ hrd)
    have he : (#[ao].toList.map (ev σ)).toArray = #[.slice ax nx cx] := by simp [hao]
    rw [he]
    refine h3.mono ?_
    rintro v w' (⟨g', rfl, hg', hs'⟩ | ⟨g', rfl, hg', hs'⟩)
    · exact ⟨(true, g'), rfl, .inl ⟨rfl, hg'⟩, by simpa using hs'⟩
    · exact ⟨(false, g'), rfl, .inr ⟨rfl, hg'⟩, by simpa using hs'⟩
  · rintro ⟨b, g'⟩ (⟨hb, hg'⟩ | ⟨hb, hg'⟩)
    · dsimp only at hb hg' ⊢; subst hb; exact h1 g' hg'
    · dsimp only at hb hg' ⊢; subst hb; exact h2 g' hg'
end
/-- A box of a slice, and what the slice leads to. -/
def bxS (b e : Nat) (a : Option Addr) (n c : Nat) : World → Prop := blk b e [.slice a n c]
/-- A literal of two or three slices, read as rows. -/
def hd2 (p q : Hd) (i : Nat) : Hd := if i = 0 then p else q
def hd3 (p q r : Hd) (i : Nat) : Hd := if i = 0 then p else if i = 1 then q else r
theorem lit_cell {bk e : Nat} {vs : List Value} {w : World} {x : List Int} {p : Hd} {i : Nat} (h : blk bk e vs w) (hv : vs[i]? = some (.slice p.1 x.length p.2)) : ∃ b off, (some ⟨bk, 0, none⟩ : Option Addr) = some ⟨b, off, none⟩ ∧ ∀ j v, (maK.cells x p)[j]? = some v → w.cell? ⟨b, off + i * maK.m + j, none⟩ = some v := by
  refine ⟨bk, 0, rfl, fun j v hj => ?_⟩
  cases j with
  | zero =>
    have : v = .slice p.1 x.length p.2 := by
      have := (Option.some.inj hj).symm
      exact this
    subst this
    have hc := h.cell (o := i) hv
    rw [show 0 + i * maK.m + 0 = i by show 0 + i * 1 + 0 = i; omega]
    exact hc
  | succ j => cases hj
theorem RdR.lit2 {bk e n1 c1 n2 c2 : Nat} {a1 a2 : Option Addr} {x y : List Int} {w : World} (h : blk bk e [.slice a1 n1 c1, .slice a2 n2 c2] w) (h1 : RdI a1 n1 x w) (h2 : RdI a2 n2 y w) : RdR maK (some ⟨bk, 0, none⟩) 2 (hd2 (a1, c1) (a2, c2)) [x, y] w := by
  refine ⟨rfl, by decide, fun i x' hx => ?_⟩
  have e1 := h1.1
  have e2 := h2.1
  subst e1; subst e2
  match i, hx with
  | 0, hx => cases hx; exact ⟨lit_cell (p := (a1, c1)) h rfl, h1⟩
  | 1, hx => cases hx; exact ⟨lit_cell (p := (a2, c2)) h rfl, h2⟩
  | i + 2, hx => cases hx
theorem RdR.lit3 {bk e n1 c1 n2 c2 n3 c3 : Nat} {a1 a2 a3 : Option Addr} {x y z : List Int} {w : World} (h : blk bk e [.slice a1 n1 c1, .slice a2 n2 c2, .slice a3 n3 c3] w) (h1 : RdI a1 n1 x w) (h2 : RdI a2 n2 y w) (h3 : RdI a3 n3 z w) : RdR maK (some ⟨bk, 0, none⟩) 3 (hd3 (a1, c1) (a2, c2) (a3, c3)) [x, y, z] w := by
  refine ⟨rfl, by decide, fun i x' hx => ?_⟩
  have e1 := h1.1
  have e2 := h2.1
  have e3 := h3.1
  subst e1; subst e2; subst e3
  match i, hx with
  | 0, hx => cases hx; exact ⟨lit_cell (p := (a1, c1)) h rfl, h1⟩
  | 1, hx => cases hx; exact ⟨lit_cell (p := (a2, c2)) h rfl, h2⟩
  | 2, hx => cases hx; exact ⟨lit_cell (p := (a3, c3)) h rfl, h3⟩
  | i + 3, hx => cases hx
theorem isRec.loop {rc : LoopState → Option Code → Obj} (h : isRec rc) : ∃ r0, rc .busy none = .loop r0 := by
  obtain ⟨fn, tmps, ps, assign, body, D, rfl⟩ := h
  exact ⟨_, rfl⟩
end Go.Proofs.Yteaahdakammffaa.V
