/- Plain facts on trees of games: when a list of nodes is a tree, its depth, its ends. No condition. -/
import Derived.Test.YtgnfffdenbiipaaDoorZ1St
namespace Go.Proofs.YtgnfffdenbiipaaDoor.Math
open Go.Proofs.YtgnfffdenbiipaaDoor.V
set_option linter.unusedVariables false
set_option linter.unusedSimpArgs false
/-! ### Lists by their places -/
section
variable {α : Type}
theorem take_step {l : List α} {i : Nat} (d : α) (h : i < l.length) : l.take (i + 1) = l.take i ++ [l.getD i d] := by
  rw [List.take_add_one]; simp [List.getD, List.getElem?_eq_getElem h]
theorem getD_mem {l : List α} {i : Nat} (d : α) (h : i < l.length) : l.getD i d ∈ l := by
  simp [List.getD, List.getElem?_eq_getElem h]
theorem mem_getD {l : List α} {x : α} (d : α) (h : x ∈ l) : ∃ i, i < l.length ∧ l.getD i d = x := by
  obtain ⟨i, hi, rfl⟩ := List.getElem_of_mem h
  exact ⟨i, hi, by simp [List.getD, List.getElem?_eq_getElem hi]⟩
theorem all_getD {l : List α} {p : α → Bool} (d : α) : l.all p = true ↔ ∀ i, i < l.length → p (l.getD i d) = true := by
  rw [List.all_eq_true]
  exact ⟨fun h i hi => h _ (getD_mem d hi), fun h x hx => by obtain ⟨i, hi, rfl⟩ := mem_getD d hx; exact h i hi⟩
theorem all_no {l : List α} {p : α → Bool} (d : α) {i : Nat} (hi : i < l.length) (h : p (l.getD i d) = false) : l.all p = false := by
  rw [Bool.eq_false_iff]; intro h'
  have := (all_getD d).1 h' i hi
  rw [h] at this; cases this
end
def inB (lo hi z : Int) : Bool := decide (lo ≤ z ∧ z ≤ hi)
/-- Strictly increasing. -/
def risingB : List Int → Bool
  | a :: b :: r => decide (a < b) && risingB (b :: r)
  | _ => true
theorem rising_iff : ∀ {l : List Int}, risingB l = true ↔ ∀ i, i + 1 < l.length → l.getD i 0 < l.getD (i + 1) 0
  | [] => by simp [risingB]
  | [a] => by simp [risingB]
  | a :: b :: r => by
    simp only [risingB, Bool.and_eq_true, decide_eq_true_eq]
    rw [rising_iff (l := b :: r)]
    constructor
    · rintro ⟨h1, h2⟩ i hi
      cases i with
      | zero => simpa using h1
      | succ i => simpa using h2 i (by simpa using hi)
    · intro h
      exact ⟨by simpa using h 0 (by simp), fun i hi => by simpa using h (i + 1) (by simpa using hi)⟩
theorem rising_lt {l : List Int} (h : risingB l = true) : ∀ {i j : Nat}, i < j → j < l.length → l.getD i 0 < l.getD j 0 := by
  intro i j hij hj
  induction j with
  | zero => omega
  | succ j ih =>
    have h1 := rising_iff.1 h j hj
    rcases Nat.lt_or_ge i j with h2 | h2
    · exact Int.lt_trans (ih h2 (by omega)) h1
    · obtain rfl : i = j := by omega
      exact h1
theorem rising_no {l : List Int} {i : Nat} (hi : i + 1 < l.length) (h : ¬ l.getD i 0 < l.getD (i + 1) 0) : risingB l = false := by
  rw [Bool.eq_false_iff]; intro h'; exact h (rising_iff.1 h' i hi)
/-- Strictly increasing within 0 to n - 1. -/
def risesB (n : Int) (l : List Int) : Bool := l.all (inB 0 (n - 1)) && risingB l
/-! ### A slice that is filled from the left -/
theorem fill_step {α : Type} (d z : α) {l : List α} {n i : Nat} (hl : l.length = n) (h : i < n) : (l.take i ++ List.replicate (n - i) z).set i (l.getD i d) = l.take (i + 1) ++ List.replicate (n - (i + 1)) z := by
  rw [take_step d (by omega), List.set_append_right _ _ (by simp; omega)]
  simp only [List.length_take, List.append_assoc]
  rw [show i - min i l.length = 0 from by omega, show n - i = (n - (i + 1)) + 1 from by omega, List.replicate_succ]
  rfl
theorem fill_start {α : Type} (l : List α) (n : Nat) (z : α) : List.replicate n z = l.take 0 ++ List.replicate (n - 0) z := by simp
theorem fill_end {α : Type} (z : α) {l : List α} {n i : Nat} (hl : l.length = n) (h : n ≤ i) : l.take i ++ List.replicate (n - i) z = l := by
  rw [show n - i = 0 from by omega, List.take_of_length_le (by omega)]; simp
/-- A node is as it should, apart from the others. -/
def okB (n i : Nat) (x : Nd) : Bool :=
  inB 0 2 x.pl && (inB 0 100 x.p0 && (inB 0 100 x.p1 &&
    cond (decide (x.pl = 2)) (decide (x.ch.length = 0) && (inB (-1) 1 x.fo && (decide (x.fo ≠ -1) || decide (x.p0 = x.p1))))
      (decide (x.fo = -1) && (inB 1 4 x.ch.length && (x.ch.all (inB ((i : Int) + 1) ((n : Int) - 1)) && risingB x.ch)))))
theorem ok_kid {n i : Nat} {x : Nd} (h : okB n i x = true) {z : Int} (hz : z ∈ x.ch) : (i : Int) + 1 ≤ z ∧ z ≤ (n : Int) - 1 := by
  simp only [okB, Bool.and_eq_true] at h
  obtain ⟨_, _, _, h⟩ := h
  by_cases hp : x.pl = 2
  · simp [hp] at h
    rw [h.1] at hz; cases hz
  · simp only [hp, decide_false, cond_false, Bool.and_eq_true] at h
    have := List.all_eq_true.1 h.2.2.1 z hz
    simpa [inB] using this
theorem ok_pl {n i : Nat} {x : Nd} (h : okB n i x = true) : (0 ≤ x.pl ∧ x.pl ≤ 2) ∧ (0 ≤ x.p0 ∧ x.p0 ≤ 100) ∧ (0 ≤ x.p1 ∧ x.p1 ≤ 100) ∧ (-1 ≤ x.fo ∧ x.fo ≤ 1) ∧ x.ch.length ≤ 4 ∧ (x.pl = 2 ↔ x.ch.length = 0) := by
  simp only [okB, Bool.and_eq_true, inB, decide_eq_true_eq] at h
  obtain ⟨h1, h2, h3, h⟩ := h
  refine ⟨h1, h2, h3, ?_⟩
  by_cases hp : x.pl = 2
  · simp [hp, inB] at h
    refine ⟨h.2.1, by simp [h.1], by simp [hp, h.1]⟩
  · simp [hp, inB] at h
    obtain ⟨hf, ⟨hl1, hl2⟩, _⟩ := h
    exact ⟨by omega, by omega, ⟨fun h => absurd h hp, fun h => by omega⟩⟩
/-- The first numbers of 'l', as counts of 0, 1, .., n - 1. -/
def cntL (n : Nat) (l : List Int) : List Int := (List.range n).map fun (c : Nat) => (l.count (c : Int) : Int)
theorem cntL_len (n : Nat) (l : List Int) : (cntL n l).length = n := by simp [cntL]
theorem cntL_get {n : Nat} {l : List Int} {c : Nat} (h : c < n) : (cntL n l).getD c 0 = (l.count (c : Int) : Int) := by simp [cntL, List.getD, h]
theorem cntL_nil (n : Nat) : List.replicate n 0 = cntL n [] := by
  apply List.ext_getElem? ; intro i; by_cases h : i < n <;> simp [cntL, h]
theorem cntL_step {n : Nat} {l : List Int} {z : Int} (h0 : 0 ≤ z) (h1 : z < n) : (cntL n l).set z.toNat ((cntL n l).getD z.toNat 0 + 1) = cntL n (l ++ [z]) := by
  apply List.ext_getElem?
  intro i
  rw [List.getElem?_set, cntL_len]
  by_cases hi : z.toNat = i
  · subst hi
    rw [if_pos rfl, if_pos (by omega), cntL_get (by omega)]
    have hz : ((z.toNat : Nat) : Int) = z := by omega
    simp [cntL, show z.toNat < n from by omega, hz, List.count_append]
  · rw [if_neg hi]
    by_cases hn : i < n
    · have : ¬ z = (i : Int) := by omega
      simp [cntL, hn, List.count_append, List.count_singleton, this]
    · simp [cntL, hn]
theorem count_le {l : List Int} (c : Int) : (l.count c : Int) ≤ l.length := by exact_mod_cast List.count_le_length
/-- All that the nodes lead to. -/
def kids (ns : List Nd) : List Int := ns.flatMap Nd.ch
theorem kids_step {ns : List Nd} {i : Nat} (h : i < ns.length) : kids (ns.take (i + 1)) = kids (ns.take i) ++ (ns.getD i dN).ch := by
  rw [take_step dN h]; simp [kids]
def allOk (ns : List Nd) : Bool := (List.range ns.length).all fun i => okB ns.length i (ns.getD i dN)
theorem allOk_iff {ns : List Nd} : allOk ns = true ↔ ∀ i, i < ns.length → okB ns.length i (ns.getD i dN) = true := by
  simp [allOk, List.all_eq_true]
theorem allOk_no {ns : List Nd} {i : Nat} (hi : i < ns.length) (h : okB ns.length i (ns.getD i dN) = false) : allOk ns = false := by
  rw [Bool.eq_false_iff]; intro h'; have := allOk_iff.1 h' i hi; rw [h] at this; cases this
def oneEach (ns : List Nd) : Bool := (List.range (ns.length - 1)).all fun i => decide ((kids ns).count ((i + 1 : Nat) : Int) = 1)
theorem oneEach_iff {ns : List Nd} : oneEach ns = true ↔ ∀ i, 1 ≤ i → i < ns.length → (kids ns).count (i : Int) = 1 := by
  simp only [oneEach, List.all_eq_true, List.mem_range, decide_eq_true_eq]
  constructor
  · intro h i h1 h2
    have := h (i - 1) (by omega)
    rwa [show i - 1 + 1 = i from by omega] at this
  · intro h i hi; exact h (i + 1) (by omega) (by omega)
theorem oneEach_no {ns : List Nd} {i : Nat} (h1 : 1 ≤ i) (hi : i < ns.length) (h : ¬ (kids ns).count (i : Int) = 1) : oneEach ns = false := by
  rw [Bool.eq_false_iff]; intro h'; exact h (oneEach_iff.1 h' i h1 hi)
/-- The depth below a node. -/
def depthF (ns : List Nd) : Nat → Nat → Int
  | 0, _ => 0
  | k + 1, i => if (ns.getD i dN).pl = 2 then 0 else (ns.getD i dN).ch.foldl (fun m c => max m (depthF ns k c.toNat)) 0 + 1
def depth (ns : List Nd) (i : Nat) : Int := depthF ns ns.length i
theorem foldl_congr {α β : Type} {f g : α → β → α} {l : List β} (h : ∀ a, ∀ b ∈ l, f a b = g a b) (a : α) : l.foldl f a = l.foldl g a := by
  induction l generalizing a with
  | nil => rfl
  | cons b l ih =>
    simp only [List.foldl_cons, h a b List.mem_cons_self]
    exact ih (fun a b hb => h a b (List.mem_cons_of_mem _ hb)) _
theorem depthF_same {ns : List Nd} (hok : allOk ns = true) : ∀ k k' i, i < ns.length → ns.length - i ≤ k → ns.length - i ≤ k' → depthF ns k i = depthF ns k' i := by
  intro k
  induction k with
  | zero => intro k' i hi h; omega
  | succ k ih =>
    intro k' i hi h h'
    cases k' with
    | zero => omega
    | succ k' =>
      simp only [depthF]
      split
      · rfl
      · congr 1
        refine foldl_congr (fun m c hc => ?_) 0
        have := ok_kid (allOk_iff.1 hok i hi) hc
        rw [ih k' c.toNat (by omega) (by omega) (by omega)]
theorem depth_end {ns : List Nd} {i : Nat} (hi : i < ns.length) (h : (ns.getD i dN).pl = 2) : depth ns i = 0 := by
  unfold depth
  cases hn : ns.length with
  | zero => rfl
  | succ k => simp only [depthF, h, if_pos]
def dmax (ns : List Nd) (l : List Int) : Int := l.foldl (fun m c => max m (depth ns c.toNat)) 0
theorem depth_step {ns : List Nd} (hok : allOk ns = true) {i : Nat} (hi : i < ns.length) (h : ¬ (ns.getD i dN).pl = 2) : depth ns i = dmax ns (ns.getD i dN).ch + 1 := by
  have h1 : depth ns i = depthF ns (ns.length + 1) i := depthF_same hok _ _ i hi (by omega) (by omega)
  rw [h1]; simp only [depthF, if_neg h]; rfl
theorem dmax_snoc (ns : List Nd) (l : List Int) (c : Int) : dmax ns (l ++ [c]) = max (dmax ns l) (depth ns c.toNat) := by simp [dmax]
theorem dmax_le {ns : List Nd} {B : Int} (hB : 0 ≤ B) : ∀ {l : List Int}, (∀ c ∈ l, depth ns c.toNat ≤ B) → 0 ≤ dmax ns l ∧ dmax ns l ≤ B := by
  intro l
  have key : ∀ (l : List Int) (a : Int), 0 ≤ a → a ≤ B → (∀ c ∈ l, depth ns c.toNat ≤ B) → 0 ≤ l.foldl (fun m c => max m (depth ns c.toNat)) a ∧ l.foldl (fun m c => max m (depth ns c.toNat)) a ≤ B := by
    intro l
    induction l with
    | nil => intro a h1 h2 _; exact ⟨h1, h2⟩
    | cons c l ih =>
      intro a h1 h2 h
      have := h c List.mem_cons_self
      simp only [List.foldl_cons]
      exact ih (max a (depth ns c.toNat)) (by omega) (by omega) fun c hc => h c (List.mem_cons_of_mem _ hc)
  exact key l 0 (by omega) hB
theorem depth_bd {ns : List Nd} (hok : allOk ns = true) : ∀ k i, ns.length - i ≤ k → i < ns.length → 0 ≤ depth ns i ∧ depth ns i ≤ k := by
  intro k
  induction k with
  | zero => intro i h hi; omega
  | succ k ih =>
    intro i h hi
    by_cases hp : (ns.getD i dN).pl = 2
    · rw [depth_end hi hp]; omega
    · rw [depth_step hok hi hp]
      have := dmax_le (ns := ns) (B := k) (by omega) (l := (ns.getD i dN).ch) fun c hc => by
        have := ok_kid (allOk_iff.1 hok i hi) hc
        exact (ih c.toNat (by omega) (by omega)).2
      omega
/-- A tree. -/
def isTree (ns : List Nd) : Bool := decide (1 ≤ ns.length ∧ ns.length ≤ 60) && (allOk ns && (oneEach ns && decide (depth ns 0 ≤ 5)))
theorem isTree_ok {ns : List Nd} (h : isTree ns = true) : (1 ≤ ns.length ∧ ns.length ≤ 60) ∧ allOk ns = true ∧ oneEach ns = true ∧ (0 ≤ depth ns 0 ∧ depth ns 0 ≤ 5) := by
  simp only [isTree, Bool.and_eq_true, decide_eq_true_eq] at h
  exact ⟨h.1, h.2.1, h.2.2.1, (depth_bd h.2.1 ns.length 0 (by omega) (by omega)).1, h.2.2.2⟩
theorem isTree_no1 {ns : List Nd} (h : ¬ (1 ≤ ns.length ∧ ns.length ≤ 60)) : isTree ns = false := by simp only [isTree, decide_eq_false h, Bool.false_and]
theorem isTree_no2 {ns : List Nd} (h : allOk ns = false) : isTree ns = false := by simp [isTree, h]
theorem isTree_no3 {ns : List Nd} (h : oneEach ns = false) : isTree ns = false := by simp [isTree, h]
theorem isTree_yes {ns : List Nd} (h1 : 1 ≤ ns.length ∧ ns.length ≤ 60) (h2 : allOk ns = true) (h3 : oneEach ns = true) : isTree ns = decide (depth ns 0 ≤ 5) := by simp [isTree, h1, h2, h3]
/-! ### How much of a budget is left -/
def cut (left s : Int) : Int := if s ≤ left then left - s else -1
theorem cut_yes {l s : Int} (h : s ≤ l) : cut l s = l - s := if_pos h
theorem cut_no {l s : Int} (h : ¬ s ≤ l) : cut l s = -1 := if_neg h
theorem cut_neg {l s : Int} (h : cut l s < 0) (hs : 0 ≤ l) : ¬ s ≤ l := fun h' => by rw [cut_yes h'] at h; omega
theorem cut_pos {l s : Int} (h : ¬ cut l s < 0) : s ≤ l ∧ cut l s = l - s := by
  by_cases h' : s ≤ l
  · exact ⟨h', cut_yes h'⟩
  · rw [cut_no h'] at h; omega
theorem cut2_no {l a b : Int} (hl : 0 ≤ l) (h : ¬ a ≤ l) (hb : 0 ≤ b) : cut (cut l a) b = -1 := by rw [cut_no h]; exact cut_no (by omega)
theorem cut3_no {l a b c : Int} (hl : 0 ≤ l) (h : ¬ a ≤ l) (hb : 0 ≤ b) (hc : 0 ≤ c) : cut (cut (cut l a) b) c = -1 := by rw [cut2_no hl h hb]; exact cut_no (by omega)
theorem cut3_le {l : Int} {a b c : Nat} (h : ¬ cut (cut (cut l (a : Int)) (b : Int)) (c : Int) < 0) (hl : 0 ≤ l) : cut (cut (cut l (a : Int)) (b : Int)) (c : Int) ≤ l := by
  have h1 := cut_pos h
  by_cases h2 : cut (cut l (a : Int)) (b : Int) < 0
  · omega
  · have h3 := cut_pos h2
    by_cases h4 : cut l (a : Int) < 0
    · omega
    · have := cut_pos h4; omega
theorem cut3_pos {l : Int} {a b c : Nat} (hl : 0 ≤ l) (h : ¬ cut (cut (cut l (a : Int)) (b : Int)) (c : Int) < 0) : (a : Int) ≤ l ∧ (b : Int) ≤ l ∧ (c : Int) ≤ l := by
  have h1 := cut_pos h
  by_cases h2 : cut (cut l (a : Int)) (b : Int) < 0
  · omega
  · have h3 := cut_pos h2
    by_cases h4 : cut l (a : Int) < 0
    · omega
    · have h5 := cut_pos h4; omega
/-- All that elements lead to, and themselves. -/
def sumK {α : Type} (f : α → Nat) (l : List α) : Nat := (l.map f).sum
def szK {α : Type} (f : α → Nat) (l : List α) : Nat := l.length + sumK f l
theorem sumK_step {α : Type} (f : α → Nat) {l : List α} {i : Nat} (d : α) (h : i < l.length) : sumK f (l.take (i + 1)) = sumK f (l.take i) + f (l.getD i d) := by
  rw [take_step d h]; simp [sumK]
theorem sumK_le {α : Type} (f : α → Nat) (l : List α) (i : Nat) : sumK f (l.take i) ≤ sumK f l := by
  have : sumK f l = sumK f (l.take i) + sumK f (l.drop i) := by
    conv => lhs; rw [← List.take_append_drop i l]
    simp [sumK, -List.take_append_drop]
  omega
theorem sumK_all {α : Type} (f : α → Nat) {l : List α} {i : Nat} (h : l.length ≤ i) : sumK f (l.take i) = sumK f l := by rw [List.take_of_length_le h]
theorem sumK_at {α : Type} (f : α → Nat) {l : List α} {i : Nat} (d : α) (h : i < l.length) : f (l.getD i d) ≤ sumK f l := by
  have := sumK_step f d h
  have := sumK_le f l (i + 1)
  omega
/-- The lengths of what nodes, and rows, lead to. -/
def chl (x : Nd) : Nat := x.ch.length
def rwl (x : List Int) : Nat := x.length
theorem szK_at {α : Type} {f : α → Nat} {l : List α} {i B : Nat} (d : α) (hB : szK f l ≤ B) (h : i < l.length) : f (l.getD i d) ≤ B := by
  have := sumK_at f d h; unfold szK at hB; omega
theorem szK_len {α : Type} {f : α → Nat} {l : List α} {B : Nat} (hB : szK f l ≤ B) : l.length ≤ B := by unfold szK at hB; omega
theorem upto {p : Nat → Prop} {i : Nat} (h : ∀ j, j < i → p j) (hi : p i) : ∀ j, j < i + 1 → p j := fun j hj => by
  rcases Nat.lt_or_ge j i with h' | h'
  · exact h j h'
  · obtain rfl : j = i := by omega
    exact hi
def risesTo (n : Int) (z : List Int) (i : Nat) : Prop := (∀ j, j < i → inB 0 (n - 1) (z.getD j 0) = true) ∧ ∀ j, j + 1 < i → z.getD j 0 < z.getD (j + 1) 0
theorem risesTo_zero {n : Int} {z : List Int} : risesTo n z 0 := ⟨fun j h => by omega, fun j h => by omega⟩
theorem risesTo_step {n : Int} {z : List Int} {i : Nat} (h : risesTo n z i) (h1 : inB 0 (n - 1) (z.getD i 0) = true) (h2 : 0 < i → z.getD (i - 1) 0 < z.getD i 0) : risesTo n z (i + 1) := by
  refine ⟨upto h.1 h1, fun j hj => ?_⟩
  rcases Nat.lt_or_ge (j + 1) i with h' | h'
  · exact h.2 j h'
  · obtain rfl : i = j + 1 := by omega
    exact h2 (by omega)
theorem rises_yes {n : Int} {z : List Int} {i : Nat} (h : risesTo n z i) (hi : z.length ≤ i) : risesB n z = true := by
  simp only [risesB, Bool.and_eq_true]
  exact ⟨(all_getD 0).2 fun j hj => h.1 j (by omega), rising_iff.2 fun j hj => h.2 j (by omega)⟩
theorem rises_no1 {n : Int} {z : List Int} {i : Nat} (hi : i < z.length) (h : inB 0 (n - 1) (z.getD i 0) = false) : risesB n z = false := by
  simp only [risesB, all_no 0 hi h, Bool.false_and]
theorem rises_no2 {n : Int} {z : List Int} {i : Nat} (h0 : 0 < i) (hi : i < z.length) (h : ¬ z.getD (i - 1) 0 < z.getD i 0) : risesB n z = false := by
  obtain ⟨j, rfl⟩ : ∃ j, i = j + 1 := ⟨i - 1, by omega⟩
  simp only [risesB, rising_no hi h, Bool.and_false]
theorem allOk_iff' {ns : List Nd} {n : Nat} (hn : ns.length = n) : allOk ns = true ↔ ∀ i, i < n → okB n i (ns.getD i dN) = true := by subst hn; exact allOk_iff
theorem allOk_no' {ns : List Nd} {n i : Nat} (hn : ns.length = n) (hi : i < n) (h : okB n i (ns.getD i dN) = false) : allOk ns = false := by subst hn; exact allOk_no hi h
theorem depth_bd' {ns : List Nd} {n : Nat} (hn : ns.length = n) (hok : allOk ns = true) {i : Nat} (hi : i < n) : 0 ≤ depth ns i ∧ depth ns i ≤ n := by
  subst hn; exact depth_bd hok ns.length i (by omega) hi
/-- Bound of a count. -/
theorem cnt_bd (n : Nat) (l : List Int) (c : Nat) : 0 ≤ (cntL n l).getD c 0 ∧ (cntL n l).getD c 0 ≤ l.length := by
  by_cases h : c < n
  · rw [cntL_get h]; have := count_le (l := l) (c : Int); omega
  · have : (cntL n l).getD c 0 = 0 := by simp [List.getD, List.getElem?_eq_none (show (cntL n l).length ≤ c by rw [cntL_len]; omega)]
    omega
theorem kids_len2 {ns : List Nd} {n i : Nat} (hn : ns.length = n) (hi : i ≤ n) (hal : ∀ j, j < i → okB n j (ns.getD j dN) = true) : (kids (ns.take i)).length ≤ 4 * i := by
  induction i with
  | zero => simp [kids]
  | succ i ih =>
    rw [kids_step (by omega), List.length_append]
    have := ih (by omega) fun j hj => hal j (by omega)
    have := (ok_pl (hal i (by omega))).2.2.2.2.1
    omega
/-- Bound of a count on the way. -/
theorem cnt_way {ns : List Nd} {n i k c : Nat} (hn : ns.length = n) (h60 : n ≤ 60) (hi : i < n) (hal : ∀ j, j < i → okB n j (ns.getD j dN) = true) (hk : okB n i (ns.getD i dN) = true) :
    0 ≤ (cntL n (kids (ns.take i) ++ (ns.getD i dN).ch.take k)).getD c 0 ∧ (cntL n (kids (ns.take i) ++ (ns.getD i dN).ch.take k)).getD c 0 ≤ 1000 := by
  have h1 := cnt_bd n (kids (ns.take i) ++ (ns.getD i dN).ch.take k) c
  have h2 := kids_len2 hn (Nat.le_of_lt hi) hal
  have h3 := (ok_pl hk).2.2.2.2.1
  rw [List.length_append, List.length_take] at h1
  omega
theorem oneEach_no' {ns : List Nd} {n i : Nat} (hn : ns.length = n) (h1 : 1 ≤ i) (hi : i < n) (h : ¬ (kids ns).count (i : Int) = 1) : oneEach ns = false := by subst hn; exact oneEach_no h1 hi h
theorem oneEach_to {ns : List Nd} {n j : Nat} (hn : ns.length = n) (h : ∀ q, q < j → (kids ns).count ((q + 1 : Nat) : Int) = 1) (hj : n - 1 ≤ j) : oneEach ns = true := by
  subst hn
  refine oneEach_iff.2 fun i h1 h2 => ?_
  have := h (i - 1) (by omega)
  rwa [show i - 1 + 1 = i from by omega] at this
theorem cntL_start (n : Nat) (ns : List Nd) : List.replicate n 0 = cntL n (kids (ns.take 0)) := by rw [cntL_nil]; rfl
theorem cnt_drop {n : Nat} {l : List Int} {j : Nat} (h : j + 1 < n) : ((cntL n l).drop 1).getD j 0 = (l.count ((j + 1 : Nat) : Int) : Int) := by
  have := cntL_get (n := n) (l := l) (c := j + 1) h
  rw [← this]; simp [List.getD, List.getElem?_drop, Nat.add_comm]
/-! ### Why a node is not as it should -/
section
variable {n i : Nat} {x : Nd}
theorem no1 (h : inB 0 2 x.pl = false) : okB n i x = false := by simp [okB, h]
theorem no2 (h : inB 0 100 x.p0 = false) : okB n i x = false := by simp [okB, h]
theorem no3 (h : inB 0 100 x.p1 = false) : okB n i x = false := by simp [okB, h]
theorem no4 (h0 : x.pl = 2) (h : (0 : Int) < (x.ch.length : Int)) : okB n i x = false := by
  have : ¬ x.ch.length = 0 := by omega
  unfold okB; rw [decide_eq_true h0, decide_eq_false this]; simp
theorem no4' (h0 : x.pl = 2) (h : ¬ (x.ch.length : Int) = 0) : okB n i x = false := no4 h0 (by omega)
theorem no5 (h0 : x.pl = 2) (h : inB (-1) 1 x.fo = false) : okB n i x = false := by simp [okB, h0, h]
theorem no6 (h0 : x.pl = 2) (h : x.fo = -1) (h' : x.p0 ≠ x.p1) : okB n i x = false := by simp [okB, h0, h, h']
theorem no5' (h : inB (-1) 1 x.fo = false) : okB n i x = false := by
  have : ¬ x.fo = -1 := by
    intro e; rw [e] at h; simp [inB] at h
  simp [okB, h, this]
theorem no6' (h0 : x.pl = 2) (h1 : inB (-1) 1 x.fo = true) (h : ¬ 0 ≤ x.fo) (h' : ¬ x.p0 = x.p1) : okB n i x = false := by
  simp only [inB, decide_eq_true_eq] at h1
  exact no6 h0 (by omega) h'
theorem no7 (h0 : ¬ x.pl = 2) (h : x.fo ≠ -1) : okB n i x = false := by simp [okB, h0, h]
theorem no8 (h0 : ¬ x.pl = 2) (h : inB 1 4 (x.ch.length : Int) = false) : okB n i x = false := by simp [okB, h0, h]
theorem no9 (h0 : ¬ x.pl = 2) (h : x.ch.all (inB ((i : Int) + 1) ((n : Int) - 1)) = false) : okB n i x = false := by unfold okB; rw [decide_eq_false h0, h]; simp
theorem no10 (h0 : ¬ x.pl = 2) (h : risingB x.ch = false) : okB n i x = false := by unfold okB; rw [decide_eq_false h0, h]; simp
theorem no11 (h0 : ¬ x.pl = 2) (h : risesB n x.ch = false) : okB n i x = false := by
  simp only [risesB, Bool.and_eq_false_iff] at h
  rcases h with h | h
  · refine no9 h0 ?_
    rw [Bool.eq_false_iff] at h ⊢
    intro h'; apply h
    rw [List.all_eq_true] at h' ⊢
    intro z hz
    have := h' z hz
    simp only [inB, decide_eq_true_eq] at this ⊢
    omega
  · exact no10 h0 h
theorem no12 (h0 : ¬ x.pl = 2) (hl : inB 1 4 (x.ch.length : Int) = true) (h : ¬ (i : Int) < x.ch.getD 0 0) : okB n i x = false := by
  refine no9 h0 ?_
  simp only [inB, decide_eq_true_eq] at hl
  refine all_no 0 (i := 0) (by omega) ?_
  unfold inB; exact decide_eq_false (by omega)
theorem yes1 (h1 : inB 0 2 x.pl = true) (h2 : inB 0 100 x.p0 = true) (h3 : inB 0 100 x.p1 = true) (h0 : x.pl = 2) (hl : ¬ (0 : Int) < (x.ch.length : Int)) (h5 : inB (-1) 1 x.fo = true) (h6 : x.fo = -1 → x.p0 = x.p1) : okB n i x = true := by
  have : x.ch.length = 0 := by omega
  unfold okB; rw [h1, h2, h3, h5, decide_eq_true h0, decide_eq_true this]
  by_cases hf : x.fo = -1
  · simp [h6 hf]
  · simp [hf]
theorem yes2 (h1 : inB 0 2 x.pl = true) (h2 : inB 0 100 x.p0 = true) (h3 : inB 0 100 x.p1 = true) (h0 : ¬ x.pl = 2) (hf : ¬ x.fo ≠ -1) (hl : inB 1 4 (x.ch.length : Int) = true) (ha : x.ch.all (inB ((i : Int) + 1) ((n : Int) - 1)) = true) (hr : risingB x.ch = true) : okB n i x = true := by
  have hf : x.fo = -1 := by omega
  unfold okB; rw [h1, h2, h3, hl, ha, hr, decide_eq_false h0, decide_eq_true hf]; rfl
theorem yes3 (hl : inB 1 4 (x.ch.length : Int) = true) (hr : risesB n x.ch = true) (h : (i : Int) < x.ch.getD 0 0) : x.ch.all (inB ((i : Int) + 1) ((n : Int) - 1)) = true ∧ risingB x.ch = true := by
  simp only [risesB, Bool.and_eq_true] at hr
  refine ⟨?_, hr.2⟩
  rw [all_getD 0]
  intro j hj
  have h1 := (all_getD 0).1 hr.1 j hj
  simp only [inB, decide_eq_true_eq] at h1 ⊢
  rcases Nat.eq_zero_or_pos j with h2 | h2
  · subst h2; omega
  · have := rising_lt hr.2 h2 hj; omega
theorem end1 (h1 : inB 0 2 x.pl = true) (h2 : inB 0 100 x.p0 = true) (h3 : inB 0 100 x.p1 = true) (h5 : inB (-1) 1 x.fo = true) (h0 : x.pl = 2) (hl : (x.ch.length : Int) = 0) (hf : 0 ≤ x.fo) : okB n i x = true :=
  yes1 h1 h2 h3 h0 (by omega) h5 (fun h => by omega)
theorem end2 (h1 : inB 0 2 x.pl = true) (h2 : inB 0 100 x.p0 = true) (h3 : inB 0 100 x.p1 = true) (h5 : inB (-1) 1 x.fo = true) (h0 : x.pl = 2) (hl : (x.ch.length : Int) = 0) (hf : ¬ 0 ≤ x.fo) : okB n i x = decide (x.p0 = x.p1) := by
  by_cases h : x.p0 = x.p1
  · rw [yes1 h1 h2 h3 h0 (by omega) h5 (fun _ => h), decide_eq_true h]
  · rw [no6' h0 h5 hf h, decide_eq_false h]
theorem dec1 (h1 : inB 0 2 x.pl = true) (h2 : inB 0 100 x.p0 = true) (h3 : inB 0 100 x.p1 = true) (h0 : ¬ x.pl = 2) (hf : ¬ x.fo ≠ -1) (hl : inB 1 4 (x.ch.length : Int) = true) (hr : risesB n x.ch = true) : okB n i x = decide ((i : Int) < x.ch.getD 0 0) := by
  by_cases h : (i : Int) < x.ch.getD 0 0
  · rw [decide_eq_true h]; have := yes3 hl hr h; exact yes2 h1 h2 h3 h0 hf hl this.1 this.2
  · rw [decide_eq_false h]; exact no12 h0 hl h
theorem ok_empty (h : okB n i x = true) (h0 : x.pl = 2) : x.ch = [] := by
  have := (ok_pl h).2.2.2.2.2.1 h0
  exact List.eq_nil_of_length_eq_zero this
end
theorem sum_step {z : List Int} {i : Nat} (h : i < z.length) : (z.take (i + 1)).sum = (z.take i).sum + z.getD i 0 := by
  rw [take_step 0 h]; simp
theorem sum_bd {z : List Int} {B : Int} (h : ∀ x ∈ z, 0 ≤ x ∧ x ≤ B) : ∀ i, i ≤ z.length → 0 ≤ (z.take i).sum ∧ (z.take i).sum ≤ B * i := by
  intro i
  induction i with
  | zero => intro _; simp
  | succ i ih =>
    intro hi
    have h1 := ih (by omega)
    have h2 := h _ (getD_mem 0 (show i < z.length by omega))
    rw [sum_step (by omega)]
    have : B * ((i + 1 : Nat) : Int) = B * i + B := by rw [Int.natCast_succ, Int.mul_add, Int.mul_one]
    omega
theorem cnt_kid {ns : List Nd} {i k n : Nat} (hn : ns.length = n) (hok : okB n i (ns.getD i dN) = true) (hi : i < n) (hk : k < (ns.getD i dN).ch.length) :
    (0 ≤ (ns.getD i dN).ch.getD k 0 ∧ (ns.getD i dN).ch.getD k 0 < n) ∧
    (cntL n (kids (ns.take i) ++ (ns.getD i dN).ch.take k)).set ((ns.getD i dN).ch.getD k 0).toNat ((cntL n (kids (ns.take i) ++ (ns.getD i dN).ch.take k)).getD ((ns.getD i dN).ch.getD k 0).toNat 0 + 1) = cntL n (kids (ns.take i) ++ (ns.getD i dN).ch.take (k + 1)) := by
  have := ok_kid hok (getD_mem 0 hk)
  refine ⟨by omega, ?_⟩
  rw [cntL_step (by omega) (by omega), take_step 0 hk, List.append_assoc]
/-- The nodes of a player. -/
def nodesOf (ns : List Nd) (p : Int) : List Int := ((List.range ns.length).filter fun i => decide ((ns.getD i dN).pl = p)).map fun (i : Nat) => (i : Int)
def nodesTo (ns : List Nd) (p : Int) (k : Nat) : List Int := ((List.range k).filter fun i => decide ((ns.getD i dN).pl = p)).map fun (i : Nat) => (i : Int)
theorem nodesTo_yes {ns : List Nd} {p : Int} {k : Nat} (h : (ns.getD k dN).pl = p) : nodesTo ns p (k + 1) = nodesTo ns p k ++ [(k : Int)] := by
  unfold nodesTo; rw [List.range_succ, List.filter_append, List.map_append]; simp only [List.filter_cons, List.filter_nil, decide_eq_true h, if_true, List.map_cons, List.map_nil]
theorem nodesTo_no {ns : List Nd} {p : Int} {k : Nat} (h : ¬ (ns.getD k dN).pl = p) : nodesTo ns p (k + 1) = nodesTo ns p k := by
  unfold nodesTo; rw [List.range_succ, List.filter_append, List.map_append]; simp only [List.filter_cons, List.filter_nil, decide_eq_false h]; simp
theorem nodesTo_all {ns : List Nd} {p : Int} {k n : Nat} (hn : ns.length = n) (h : k = n) : nodesTo ns p k = nodesOf ns p := by subst hn; subst h; rfl
def endsOf (ns : List Nd) : List Int × Int := if isTree ns = true then (nodesOf ns 2, 0) else ([], 1)
def decsOf (ns : List Nd) (p : Int) : List Int × Int := if isTree ns = true then (if 0 ≤ p ∧ p ≤ 1 then (nodesOf ns p, 0) else ([], 2)) else ([], 1)
theorem nodesOf_len (ns : List Nd) (p : Int) : (nodesOf ns p).length ≤ ns.length := by
  unfold nodesOf; rw [List.length_map]; exact Nat.le_trans (List.length_filter_le _ _) (by rw [List.length_range]; exact Nat.le_refl _)
def depthOf (ns : List Nd) : Int × Int := if isTree ns = true then (depth ns 0, 0) else (0, 1)
/-- Where places lead. -/
def walk (ns : List Nd) : List Int → Int → Option Int
  | [], at_ => some at_
  | p :: r, at_ => if 0 ≤ p ∧ p ≤ ((ns.getD at_.toNat dN).ch.length : Int) - 1 then walk ns r ((ns.getD at_.toNat dN).ch.getD p.toNat 0) else none
def nodeBy (ns : List Nd) (way : List Int) : Int × Int := if isTree ns = true then (match walk ns way 0 with | some x => (x, 0) | none => (0, 4)) else (0, 1)
/-! ### Marks -/
def seqL (k : Int) (n : Nat) : List Int := (List.range n).map fun (i : Nat) => k + (i : Int)
def f4 (x : Nd) : Nat := 4 + x.ch.length
def markN (k : Int) (x : Nd) : Nd := ⟨k, k + 1, k + 1 + 1, k + 1 + 1 + 1, seqL (k + 1 + 1 + 1 + 1) x.ch.length⟩
def marksN (k : Int) (ys : List Nd) : List Nd := ys.mapIdx fun i x => markN (k + (sumK f4 (ys.take i) : Int)) x
def marksM (k : Int) (ys : List (List Int)) : List (List Int) := ys.mapIdx fun i x => seqL (k + (sumK rwl (ys.take i) : Int)) x.length
end Go.Proofs.YtgnfffdenbiipaaDoor.Math
/- Plain facts on games: matrices, weights, powers, units. No condition. -/
namespace Go.Proofs.YtgnfffdenbiipaaDoor.Math
open Go.Proofs.YtgnfffdenbiipaaDoor.V
set_option linter.unusedVariables false
set_option linter.unusedSimpArgs false
/-- A list of k numbers in a range. -/
def rowB (k : Nat) (lo hi : Int) (r : List Int) : Bool := decide (r.length = k) && r.all (inB lo hi)
def matB (k : Nat) (lo hi : Int) (m : List (List Int)) : Bool := decide (m.length = k) && m.all (rowB k lo hi)
section
variable {k : Nat} {lo hi : Int} {r : List Int} {m : List (List Int)}
theorem row_no1 (h : (r.length : Int) ≠ (k : Int)) : rowB k lo hi r = false := by
 have : ¬ r.length = k := by omega
 simp [rowB, this]
theorem row_no2 (h : r.all (inB lo hi) = false) : rowB k lo hi r = false := by unfold rowB; rw [h, Bool.and_false]
theorem row_yes (h1 : (r.length : Int) = (k : Int)) (h2 : r.all (inB lo hi) = true) : rowB k lo hi r = true := by
 have : r.length = k := by omega
 unfold rowB; rw [h2, decide_eq_true this]; rfl
theorem row_len (h : rowB k lo hi r = true) : r.length = k := by simp only [rowB, Bool.and_eq_true, decide_eq_true_eq] at h; exact h.1
theorem row_in (h : rowB k lo hi r = true) : ∀ x ∈ r, lo ≤ x ∧ x ≤ hi := by
 simp only [rowB, Bool.and_eq_true] at h
 intro x hx
 have := List.all_eq_true.1 h.2 x hx
 simpa [inB] using this
theorem mat_no {i : Nat} (hi' : i < m.length) (h : rowB k lo hi (m.getD i []) = false) : matB k lo hi m = false := by unfold matB; rw [all_no [] hi' h, Bool.and_false]
theorem mat_no0 (h : ¬ m.length = k) : matB k lo hi m = false := by simp [matB, h]
theorem mat_yes (h : m.length = k) (h2 : ∀ i, i < k → rowB k lo hi (m.getD i []) = true) : matB k lo hi m = true := by
 unfold matB; rw [decide_eq_true h, (all_getD []).2 fun i hi => h2 i (by omega)]; rfl
theorem mat_len (h : matB k lo hi m = true) : m.length = k := by simp only [matB, Bool.and_eq_true, decide_eq_true_eq] at h; exact h.1
theorem mat_row (h : matB k lo hi m = true) {i : Nat} (hi' : i < k) : rowB k lo hi (m.getD i []) = true := by
 have hl := mat_len h
 simp only [matB, Bool.and_eq_true] at h
 exact (all_getD []).1 h.2 i (by omega)
theorem mat_if (h2 : ∀ i, i < m.length → rowB k lo hi (m.getD i []) = true) : matB k lo hi m = decide (m.length = k) := by
 unfold matB; rw [(all_getD []).2 h2, Bool.and_true]
end
/-- The total of weights. -/
def total (ws : List (List Int)) : Int := (ws.map List.sum).sum
theorem total_step {ws : List (List Int)} {i : Nat} (h : i < ws.length) : total (ws.take (i + 1)) = total (ws.take i) + (ws.getD i []).sum := by
 rw [take_step [] h]; simp [total]
theorem total_all {ws : List (List Int)} {i : Nat} (h : ws.length ≤ i) : total (ws.take i) = total ws := by rw [List.take_of_length_le h]
theorem sum_all {z : List Int} {B : Int} (h : ∀ x ∈ z, 0 ≤ x ∧ x ≤ B) : 0 ≤ z.sum ∧ z.sum ≤ B * z.length := by
 have := sum_bd h z.length (Nat.le_refl _)
 rwa [List.take_of_length_le (Nat.le_refl _)] at this
theorem rowsum {k : Nat} {r : List Int} (hk : k ≤ 6) (h : rowB k 0 9 r = true) : 0 ≤ r.sum ∧ r.sum ≤ 54 := by
 have h1 := sum_all (row_in h)
 have := row_len h
 omega
theorem total_bd {k : Nat} {ws : List (List Int)} (hk : k ≤ 6) (h : matB k 0 9 ws = true) : ∀ i, i ≤ k → 0 ≤ total (ws.take i) ∧ total (ws.take i) ≤ 54 * i := by
 intro i
 induction i with
 | zero => intro _; simp [total]
 | succ i ih =>
  intro hi
  have hl := mat_len h
  rw [total_step (by omega)]
  have := ih (by omega)
  have := rowsum hk (mat_row h (show i < k by omega))
  omega
theorem row_big {k : Nat} {r : List Int} (h : rowB k 0 9 r = true) : ∀ x ∈ r, 0 ≤ x ∧ x ≤ 1000000000 := fun x hx => by have := row_in h x hx; omega
/-- A game. -/
def isGame (ns : List Nd) (ws vs : List (List Int)) : Bool := isTree ns && (inB 1 6 ws.length && (matB ws.length 0 9 ws && (matB ws.length (-1) 1 vs && decide (0 < total ws))))
theorem isGame_ok {ns : List Nd} {ws vs : List (List Int)} (h : isGame ns ws vs = true) : isTree ns = true ∧ (1 ≤ ws.length ∧ ws.length ≤ 6) ∧ matB ws.length 0 9 ws = true ∧ matB ws.length (-1) 1 vs = true ∧ 0 < total ws := by
 simp only [isGame, Bool.and_eq_true, inB, decide_eq_true_eq] at h
 obtain ⟨h1, h2, h3, h4, h5⟩ := h
 exact ⟨h1, by omega, h3, h4, h5⟩
/-- Powers of 60. -/
def p60 (k : Nat) : Int := 60 ^ k
/-- The unit. -/
def unit (ns : List Nd) (ws : List (List Int)) : Int := total ws * p60 (depth ns 0).toNat
def totalOf (ns : List Nd) (ws vs : List (List Int)) : Int × Int := if isGame ns ws vs = true then (total ws, 0) else (0, 1)
def unitOf (ns : List Nd) (ws vs : List (List Int)) : Int × Int := if isGame ns ws vs = true then (unit ns ws, 0) else (0, 1)
end Go.Proofs.YtgnfffdenbiipaaDoor.Math
