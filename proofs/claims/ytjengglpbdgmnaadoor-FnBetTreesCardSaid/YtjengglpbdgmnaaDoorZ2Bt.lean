/- Plain facts on trees of games: when a list of nodes is a tree, its depth, its ends. No condition. -/
import Derived.Test.YtjengglpbdgmnaaDoorZ1Bt
import Derived.Test.YtjengglpbdgmnaaDoorZ0Bt
import Derived.Test.YtjengglpbdgmnaaDoorRows
namespace Go.Proofs.YtjengglpbdgmnaaDoor.Math
open Go.Proofs.YtjengglpbdgmnaaDoor.V
set_option linter.unusedVariables false
set_option linter.unusedSimpArgs false
/-! ### Lists by their places -/
section
variable {α : Type}
theorem take_step {l : List α} {i : Nat} (d : α) (h : i < l.length) : l.take (i + 1) = l.take i ++ [l.getD i d] := by
  rw [List.take_add_one]; simp [List.getD, List.getElem?_eq_getElem h]
theorem getD_mem {l : List α} {i : Nat} (d : α) (h : i < l.length) : l.getD i d ∈ l := by
  simp [List.getD, List.getElem?_eq_getElem h]
theorem mem_getD {l : List α} {x : α} (d : α) (h : x ∈ l) : ∃ i, i < l.length ∧ l.getD i d = x := by
  obtain ⟨i, hi, rfl⟩ := List.getElem_of_mem h
  exact ⟨i, hi, by simp [List.getD, List.getElem?_eq_getElem hi]⟩
theorem all_getD {l : List α} {p : α → Bool} (d : α) : l.all p = true ↔ ∀ i, i < l.length → p (l.getD i d) = true := by
  rw [List.all_eq_true]
  exact ⟨fun h i hi => h _ (getD_mem d hi), fun h x hx => by obtain ⟨i, hi, rfl⟩ := mem_getD d hx; exact h i hi⟩
theorem all_no {l : List α} {p : α → Bool} (d : α) {i : Nat} (hi : i < l.length) (h : p (l.getD i d) = false) : l.all p = false := by
  rw [Bool.eq_false_iff]; intro h'
  have := (all_getD d).1 h' i hi
  rw [h] at this; cases this
end
def inB (lo hi z : Int) : Bool := decide (lo ≤ z ∧ z ≤ hi)
/-- Strictly increasing. -/
def risingB : List Int → Bool
  | a :: b :: r => decide (a < b) && risingB (b :: r)
  | _ => true
theorem rising_iff : ∀ {l : List Int}, risingB l = true ↔ ∀ i, i + 1 < l.length → l.getD i 0 < l.getD (i + 1) 0
  | [] => by simp [risingB]
  | [a] => by simp [risingB]
  | a :: b :: r => by
    simp only [risingB, Bool.and_eq_true, decide_eq_true_eq]
    rw [rising_iff (l := b :: r)]
    constructor
    · rintro ⟨h1, h2⟩ i hi
      cases i with
      | zero => simpa using h1
      | succ i => simpa using h2 i (by simpa using hi)
    · intro h
      exact ⟨by simpa using h 0 (by simp), fun i hi => by simpa using h (i + 1) (by simpa using hi)⟩
theorem rising_lt {l : List Int} (h : risingB l = true) : ∀ {i j : Nat}, i < j → j < l.length → l.getD i 0 < l.getD j 0 := by
  intro i j hij hj
  induction j with
  | zero => omega
  | succ j ih =>
    have h1 := rising_iff.1 h j hj
    rcases Nat.lt_or_ge i j with h2 | h2
    · exact Int.lt_trans (ih h2 (by omega)) h1
    · obtain rfl : i = j := by omega
      exact h1
theorem rising_no {l : List Int} {i : Nat} (hi : i + 1 < l.length) (h : ¬ l.getD i 0 < l.getD (i + 1) 0) : risingB l = false := by
  rw [Bool.eq_false_iff]; intro h'; exact h (rising_iff.1 h' i hi)
/-- Strictly increasing within 0 to n - 1. -/
def risesB (n : Int) (l : List Int) : Bool := l.all (inB 0 (n - 1)) && risingB l
/-! ### A slice that is filled from the left -/
/-- A node is as it should, apart from the others. -/
def okB (n i : Nat) (x : Nd) : Bool :=
  inB 0 2 x.pl && (inB 0 100 x.p0 && (inB 0 100 x.p1 &&
    cond (decide (x.pl = 2)) (decide (x.ch.length = 0) && (inB (-1) 1 x.fo && (decide (x.fo ≠ -1) || decide (x.p0 = x.p1))))
      (decide (x.fo = -1) && (inB 1 4 x.ch.length && (x.ch.all (inB ((i : Int) + 1) ((n : Int) - 1)) && risingB x.ch)))))
theorem ok_kid {n i : Nat} {x : Nd} (h : okB n i x = true) {z : Int} (hz : z ∈ x.ch) : (i : Int) + 1 ≤ z ∧ z ≤ (n : Int) - 1 := by
  simp only [okB, Bool.and_eq_true] at h
  obtain ⟨_, _, _, h⟩ := h
  by_cases hp : x.pl = 2
  · simp [hp] at h
    rw [h.1] at hz; cases hz
  · simp only [hp, decide_false, cond_false, Bool.and_eq_true] at h
    have := List.all_eq_true.1 h.2.2.1 z hz
    simpa [inB] using this
theorem ok_pl {n i : Nat} {x : Nd} (h : okB n i x = true) : (0 ≤ x.pl ∧ x.pl ≤ 2) ∧ (0 ≤ x.p0 ∧ x.p0 ≤ 100) ∧ (0 ≤ x.p1 ∧ x.p1 ≤ 100) ∧ (-1 ≤ x.fo ∧ x.fo ≤ 1) ∧ x.ch.length ≤ 4 ∧ (x.pl = 2 ↔ x.ch.length = 0) := by
  simp only [okB, Bool.and_eq_true, inB, decide_eq_true_eq] at h
  obtain ⟨h1, h2, h3, h⟩ := h
  refine ⟨h1, h2, h3, ?_⟩
  by_cases hp : x.pl = 2
  · simp [hp, inB] at h
    refine ⟨h.2.1, by simp [h.1], by simp [hp, h.1]⟩
  · simp [hp, inB] at h
    obtain ⟨hf, ⟨hl1, hl2⟩, _⟩ := h
    exact ⟨by omega, by omega, ⟨fun h => absurd h hp, fun h => by omega⟩⟩
/-- The first numbers of 'l', as counts of 0, 1, .., n - 1. -/
def cntL (n : Nat) (l : List Int) : List Int := (List.range n).map fun (c : Nat) => (l.count (c : Int) : Int)
theorem cntL_len (n : Nat) (l : List Int) : (cntL n l).length = n := by simp [cntL]
theorem cntL_get {n : Nat} {l : List Int} {c : Nat} (h : c < n) : (cntL n l).getD c 0 = (l.count (c : Int) : Int) := by simp [cntL, List.getD, h]
theorem cntL_nil (n : Nat) : List.replicate n 0 = cntL n [] := by
  apply List.ext_getElem? ; intro i; by_cases h : i < n <;> simp [cntL, h]
theorem cntL_step {n : Nat} {l : List Int} {z : Int} (h0 : 0 ≤ z) (h1 : z < n) : (cntL n l).set z.toNat ((cntL n l).getD z.toNat 0 + 1) = cntL n (l ++ [z]) := by
  apply List.ext_getElem?
  intro i
  rw [List.getElem?_set, cntL_len]
  by_cases hi : z.toNat = i
  · subst hi
    rw [if_pos rfl, if_pos (by omega), cntL_get (by omega)]
    have hz : ((z.toNat : Nat) : Int) = z := by omega
    simp [cntL, show z.toNat < n from by omega, hz, List.count_append]
  · rw [if_neg hi]
    by_cases hn : i < n
    · have : ¬ z = (i : Int) := by omega
      simp [cntL, hn, List.count_append, List.count_singleton, this]
    · simp [cntL, hn]
theorem count_le {l : List Int} (c : Int) : (l.count c : Int) ≤ l.length := by exact_mod_cast List.count_le_length
/-- All that the nodes lead to. -/
def kids (ns : List Nd) : List Int := ns.flatMap Nd.ch
theorem kids_step {ns : List Nd} {i : Nat} (h : i < ns.length) : kids (ns.take (i + 1)) = kids (ns.take i) ++ (ns.getD i dN).ch := by
  rw [take_step dN h]; simp [kids]
def allOk (ns : List Nd) : Bool := (List.range ns.length).all fun i => okB ns.length i (ns.getD i dN)
theorem allOk_iff {ns : List Nd} : allOk ns = true ↔ ∀ i, i < ns.length → okB ns.length i (ns.getD i dN) = true := by
  simp [allOk, List.all_eq_true]
theorem allOk_no {ns : List Nd} {i : Nat} (hi : i < ns.length) (h : okB ns.length i (ns.getD i dN) = false) : allOk ns = false := by
  rw [Bool.eq_false_iff]; intro h'; have := allOk_iff.1 h' i hi; rw [h] at this; cases this
def oneEach (ns : List Nd) : Bool := (List.range (ns.length - 1)).all fun i => decide ((kids ns).count ((i + 1 : Nat) : Int) = 1)
theorem oneEach_iff {ns : List Nd} : oneEach ns = true ↔ ∀ i, 1 ≤ i → i < ns.length → (kids ns).count (i : Int) = 1 := by
  simp only [oneEach, List.all_eq_true, List.mem_range, decide_eq_true_eq]
  constructor
  · intro h i h1 h2
    have := h (i - 1) (by omega)
    rwa [show i - 1 + 1 = i from by omega] at this
  · intro h i hi; exact h (i + 1) (by omega) (by omega)
theorem oneEach_no {ns : List Nd} {i : Nat} (h1 : 1 ≤ i) (hi : i < ns.length) (h : ¬ (kids ns).count (i : Int) = 1) : oneEach ns = false := by
  rw [Bool.eq_false_iff]; intro h'; exact h (oneEach_iff.1 h' i h1 hi)
/-- The depth below a node. -/
def depthF (ns : List Nd) : Nat → Nat → Int
  | 0, _ => 0
  | k + 1, i => if (ns.getD i dN).pl = 2 then 0 else (ns.getD i dN).ch.foldl (fun m c => max m (depthF ns k c.toNat)) 0 + 1
def depth (ns : List Nd) (i : Nat) : Int := depthF ns ns.length i
theorem foldl_congr {α β : Type} {f g : α → β → α} {l : List β} (h : ∀ a, ∀ b ∈ l, f a b = g a b) (a : α) : l.foldl f a = l.foldl g a := by
  induction l generalizing a with
  | nil => rfl
  | cons b l ih =>
    simp only [List.foldl_cons, h a b List.mem_cons_self]
    exact ih (fun a b hb => h a b (List.mem_cons_of_mem _ hb)) _
theorem depthF_same {ns : List Nd} (hok : allOk ns = true) : ∀ k k' i, i < ns.length → ns.length - i ≤ k → ns.length - i ≤ k' → depthF ns k i = depthF ns k' i := by
  intro k
  induction k with
  | zero => intro k' i hi h; omega
  | succ k ih =>
    intro k' i hi h h'
    cases k' with
    | zero => omega
    | succ k' =>
      simp only [depthF]
      split
      · rfl
      · congr 1
        refine foldl_congr (fun m c hc => ?_) 0
        have := ok_kid (allOk_iff.1 hok i hi) hc
        rw [ih k' c.toNat (by omega) (by omega) (by omega)]
theorem depth_end {ns : List Nd} {i : Nat} (hi : i < ns.length) (h : (ns.getD i dN).pl = 2) : depth ns i = 0 := by
  unfold depth
  cases hn : ns.length with
  | zero => rfl
  | succ k => simp only [depthF, h, if_pos]
def dmax (ns : List Nd) (l : List Int) : Int := l.foldl (fun m c => max m (depth ns c.toNat)) 0
theorem depth_step {ns : List Nd} (hok : allOk ns = true) {i : Nat} (hi : i < ns.length) (h : ¬ (ns.getD i dN).pl = 2) : depth ns i = dmax ns (ns.getD i dN).ch + 1 := by
  have h1 : depth ns i = depthF ns (ns.length + 1) i := depthF_same hok _ _ i hi (by omega) (by omega)
  rw [h1]; simp only [depthF, if_neg h]; rfl
theorem dmax_snoc (ns : List Nd) (l : List Int) (c : Int) : dmax ns (l ++ [c]) = max (dmax ns l) (depth ns c.toNat) := by simp [dmax]
theorem dmax_le {ns : List Nd} {B : Int} (hB : 0 ≤ B) : ∀ {l : List Int}, (∀ c ∈ l, depth ns c.toNat ≤ B) → 0 ≤ dmax ns l ∧ dmax ns l ≤ B := by
  intro l
  have key : ∀ (l : List Int) (a : Int), 0 ≤ a → a ≤ B → (∀ c ∈ l, depth ns c.toNat ≤ B) → 0 ≤ l.foldl (fun m c => max m (depth ns c.toNat)) a ∧ l.foldl (fun m c => max m (depth ns c.toNat)) a ≤ B := by
    intro l
    induction l with
    | nil => intro a h1 h2 _; exact ⟨h1, h2⟩
    | cons c l ih =>
      intro a h1 h2 h
      have := h c List.mem_cons_self
      simp only [List.foldl_cons]
      exact ih (max a (depth ns c.toNat)) (by omega) (by omega) fun c hc => h c (List.mem_cons_of_mem _ hc)
  exact key l 0 (by omega) hB
theorem depth_bd {ns : List Nd} (hok : allOk ns = true) : ∀ k i, ns.length - i ≤ k → i < ns.length → 0 ≤ depth ns i ∧ depth ns i ≤ k := by
  intro k
  induction k with
  | zero => intro i h hi; omega
  | succ k ih =>
    intro i h hi
    by_cases hp : (ns.getD i dN).pl = 2
    · rw [depth_end hi hp]; omega
    · rw [depth_step hok hi hp]
      have := dmax_le (ns := ns) (B := k) (by omega) (l := (ns.getD i dN).ch) fun c hc => by
        have := ok_kid (allOk_iff.1 hok i hi) hc
        exact (ih c.toNat (by omega) (by omega)).2
      omega
/-- A tree. -/
def isTree (ns : List Nd) : Bool := decide (1 ≤ ns.length ∧ ns.length ≤ 60) && (allOk ns && (oneEach ns && decide (depth ns 0 ≤ 5)))
theorem isTree_ok {ns : List Nd} (h : isTree ns = true) : (1 ≤ ns.length ∧ ns.length ≤ 60) ∧ allOk ns = true ∧ oneEach ns = true ∧ (0 ≤ depth ns 0 ∧ depth ns 0 ≤ 5) := by
  simp only [isTree, Bool.and_eq_true, decide_eq_true_eq] at h
  exact ⟨h.1, h.2.1, h.2.2.1, (depth_bd h.2.1 ns.length 0 (by omega) (by omega)).1, h.2.2.2⟩
theorem isTree_no1 {ns : List Nd} (h : ¬ (1 ≤ ns.length ∧ ns.length ≤ 60)) : isTree ns = false := by simp only [isTree, decide_eq_false h, Bool.false_and]
theorem isTree_no2 {ns : List Nd} (h : allOk ns = false) : isTree ns = false := by simp [isTree, h]
theorem isTree_no3 {ns : List Nd} (h : oneEach ns = false) : isTree ns = false := by simp [isTree, h]
theorem isTree_yes {ns : List Nd} (h1 : 1 ≤ ns.length ∧ ns.length ≤ 60) (h2 : allOk ns = true) (h3 : oneEach ns = true) : isTree ns = decide (depth ns 0 ≤ 5) := by simp [isTree, h1, h2, h3]
/-! ### How much of a budget is left -/
def cut (left s : Int) : Int := if s ≤ left then left - s else -1
/-- All that elements lead to, and themselves. -/
def sumK {α : Type} (f : α → Nat) (l : List α) : Nat := (l.map f).sum
def szK {α : Type} (f : α → Nat) (l : List α) : Nat := l.length + sumK f l
/-- The lengths of what nodes, and rows, lead to. -/
def chl (x : Nd) : Nat := x.ch.length
def rwl (x : List Int) : Nat := x.length
theorem upto {p : Nat → Prop} {i : Nat} (h : ∀ j, j < i → p j) (hi : p i) : ∀ j, j < i + 1 → p j := fun j hj => by
  rcases Nat.lt_or_ge j i with h' | h'
  · exact h j h'
  · obtain rfl : j = i := by omega
    exact hi
def risesTo (n : Int) (z : List Int) (i : Nat) : Prop := (∀ j, j < i → inB 0 (n - 1) (z.getD j 0) = true) ∧ ∀ j, j + 1 < i → z.getD j 0 < z.getD (j + 1) 0
theorem risesTo_zero {n : Int} {z : List Int} : risesTo n z 0 := ⟨fun j h => by omega, fun j h => by omega⟩
theorem risesTo_step {n : Int} {z : List Int} {i : Nat} (h : risesTo n z i) (h1 : inB 0 (n - 1) (z.getD i 0) = true) (h2 : 0 < i → z.getD (i - 1) 0 < z.getD i 0) : risesTo n z (i + 1) := by
  refine ⟨upto h.1 h1, fun j hj => ?_⟩
  rcases Nat.lt_or_ge (j + 1) i with h' | h'
  · exact h.2 j h'
  · obtain rfl : i = j + 1 := by omega
    exact h2 (by omega)
theorem rises_yes {n : Int} {z : List Int} {i : Nat} (h : risesTo n z i) (hi : z.length ≤ i) : risesB n z = true := by
  simp only [risesB, Bool.and_eq_true]
  exact ⟨(all_getD 0).2 fun j hj => h.1 j (by omega), rising_iff.2 fun j hj => h.2 j (by omega)⟩
theorem rises_no1 {n : Int} {z : List Int} {i : Nat} (hi : i < z.length) (h : inB 0 (n - 1) (z.getD i 0) = false) : risesB n z = false := by
  simp only [risesB, all_no 0 hi h, Bool.false_and]
theorem rises_no2 {n : Int} {z : List Int} {i : Nat} (h0 : 0 < i) (hi : i < z.length) (h : ¬ z.getD (i - 1) 0 < z.getD i 0) : risesB n z = false := by
  obtain ⟨j, rfl⟩ : ∃ j, i = j + 1 := ⟨i - 1, by omega⟩
  simp only [risesB, rising_no hi h, Bool.and_false]
theorem allOk_iff' {ns : List Nd} {n : Nat} (hn : ns.length = n) : allOk ns = true ↔ ∀ i, i < n → okB n i (ns.getD i dN) = true := by subst hn; exact allOk_iff
theorem allOk_no' {ns : List Nd} {n i : Nat} (hn : ns.length = n) (hi : i < n) (h : okB n i (ns.getD i dN) = false) : allOk ns = false := by subst hn; exact allOk_no hi h
theorem depth_bd' {ns : List Nd} {n : Nat} (hn : ns.length = n) (hok : allOk ns = true) {i : Nat} (hi : i < n) : 0 ≤ depth ns i ∧ depth ns i ≤ n := by
  subst hn; exact depth_bd hok ns.length i (by omega) hi
/-- Bound of a count. -/
theorem cnt_bd (n : Nat) (l : List Int) (c : Nat) : 0 ≤ (cntL n l).getD c 0 ∧ (cntL n l).getD c 0 ≤ l.length := by
  by_cases h : c < n
  · rw [cntL_get h]; have := count_le (l := l) (c : Int); omega
  · have : (cntL n l).getD c 0 = 0 := by simp [List.getD, List.getElem?_eq_none (show (cntL n l).length ≤ c by rw [cntL_len]; omega)]
    omega
theorem kids_len2 {ns : List Nd} {n i : Nat} (hn : ns.length = n) (hi : i ≤ n) (hal : ∀ j, j < i → okB n j (ns.getD j dN) = true) : (kids (ns.take i)).length ≤ 4 * i := by
  induction i with
  | zero => simp [kids]
  | succ i ih =>
    rw [kids_step (by omega), List.length_append]
    have := ih (by omega) fun j hj => hal j (by omega)
    have := (ok_pl (hal i (by omega))).2.2.2.2.1
    omega
/-- Bound of a count on the way. -/
theorem cnt_way {ns : List Nd} {n i k c : Nat} (hn : ns.length = n) (h60 : n ≤ 60) (hi : i < n) (hal : ∀ j, j < i → okB n j (ns.getD j dN) = true) (hk : okB n i (ns.getD i dN) = true) :
    0 ≤ (cntL n (kids (ns.take i) ++ (ns.getD i dN).ch.take k)).getD c 0 ∧ (cntL n (kids (ns.take i) ++ (ns.getD i dN).ch.take k)).getD c 0 ≤ 1000 := by
  have h1 := cnt_bd n (kids (ns.take i) ++ (ns.getD i dN).ch.take k) c
  have h2 := kids_len2 hn (Nat.le_of_lt hi) hal
  have h3 := (ok_pl hk).2.2.2.2.1
  rw [List.length_append, List.length_take] at h1
  omega
theorem oneEach_no' {ns : List Nd} {n i : Nat} (hn : ns.length = n) (h1 : 1 ≤ i) (hi : i < n) (h : ¬ (kids ns).count (i : Int) = 1) : oneEach ns = false := by subst hn; exact oneEach_no h1 hi h
theorem oneEach_to {ns : List Nd} {n j : Nat} (hn : ns.length = n) (h : ∀ q, q < j → (kids ns).count ((q + 1 : Nat) : Int) = 1) (hj : n - 1 ≤ j) : oneEach ns = true := by
  subst hn
  refine oneEach_iff.2 fun i h1 h2 => ?_
  have := h (i - 1) (by omega)
  rwa [show i - 1 + 1 = i from by omega] at this
theorem cntL_start (n : Nat) (ns : List Nd) : List.replicate n 0 = cntL n (kids (ns.take 0)) := by rw [cntL_nil]; rfl
theorem cnt_drop {n : Nat} {l : List Int} {j : Nat} (h : j + 1 < n) : ((cntL n l).drop 1).getD j 0 = (l.count ((j + 1 : Nat) : Int) : Int) := by
  have := cntL_get (n := n) (l := l) (c := j + 1) h
  rw [← this]; simp [List.getD, List.getElem?_drop, Nat.add_comm]
/-! ### Why a node is not as it should -/
section
variable {n i : Nat} {x : Nd}
theorem no1 (h : inB 0 2 x.pl = false) : okB n i x = false := by simp [okB, h]
theorem no2 (h : inB 0 100 x.p0 = false) : okB n i x = false := by simp [okB, h]
theorem no3 (h : inB 0 100 x.p1 = false) : okB n i x = false := by simp [okB, h]
theorem no4 (h0 : x.pl = 2) (h : (0 : Int) < (x.ch.length : Int)) : okB n i x = false := by
  have : ¬ x.ch.length = 0 := by omega
  unfold okB; rw [decide_eq_true h0, decide_eq_false this]; simp
theorem no4' (h0 : x.pl = 2) (h : ¬ (x.ch.length : Int) = 0) : okB n i x = false := no4 h0 (by omega)
theorem no5 (h0 : x.pl = 2) (h : inB (-1) 1 x.fo = false) : okB n i x = false := by simp [okB, h0, h]
theorem no6 (h0 : x.pl = 2) (h : x.fo = -1) (h' : x.p0 ≠ x.p1) : okB n i x = false := by simp [okB, h0, h, h']
theorem no5' (h : inB (-1) 1 x.fo = false) : okB n i x = false := by
  have : ¬ x.fo = -1 := by
    intro e; rw [e] at h; simp [inB] at h
  simp [okB, h, this]
theorem no6' (h0 : x.pl = 2) (h1 : inB (-1) 1 x.fo = true) (h : ¬ 0 ≤ x.fo) (h' : ¬ x.p0 = x.p1) : okB n i x = false := by
  simp only [inB, decide_eq_true_eq] at h1
  exact no6 h0 (by omega) h'
theorem no7 (h0 : ¬ x.pl = 2) (h : x.fo ≠ -1) : okB n i x = false := by simp [okB, h0, h]
theorem no8 (h0 : ¬ x.pl = 2) (h : inB 1 4 (x.ch.length : Int) = false) : okB n i x = false := by simp [okB, h0, h]
theorem no9 (h0 : ¬ x.pl = 2) (h : x.ch.all (inB ((i : Int) + 1) ((n : Int) - 1)) = false) : okB n i x = false := by unfold okB; rw [decide_eq_false h0, h]; simp
theorem no10 (h0 : ¬ x.pl = 2) (h : risingB x.ch = false) : okB n i x = false := by unfold okB; rw [decide_eq_false h0, h]; simp
theorem no11 (h0 : ¬ x.pl = 2) (h : risesB n x.ch = false) : okB n i x = false := by
  simp only [risesB, Bool.and_eq_false_iff] at h
  rcases h with h | h
  · refine no9 h0 ?_
    rw [Bool.eq_false_iff] at h ⊢
    intro h'; apply h
    rw [List.all_eq_true] at h' ⊢
    intro z hz
    have := h' z hz
    simp only [inB, decide_eq_true_eq] at this ⊢
    omega
  · exact no10 h0 h
theorem no12 (h0 : ¬ x.pl = 2) (hl : inB 1 4 (x.ch.length : Int) = true) (h : ¬ (i : Int) < x.ch.getD 0 0) : okB n i x = false := by
  refine no9 h0 ?_
  simp only [inB, decide_eq_true_eq] at hl
  refine all_no 0 (i := 0) (by omega) ?_
  unfold inB; exact decide_eq_false (by omega)
theorem yes1 (h1 : inB 0 2 x.pl = true) (h2 : inB 0 100 x.p0 = true) (h3 : inB 0 100 x.p1 = true) (h0 : x.pl = 2) (hl : ¬ (0 : Int) < (x.ch.length : Int)) (h5 : inB (-1) 1 x.fo = true) (h6 : x.fo = -1 → x.p0 = x.p1) : okB n i x = true := by
  have : x.ch.length = 0 := by omega
  unfold okB; rw [h1, h2, h3, h5, decide_eq_true h0, decide_eq_true this]
  by_cases hf : x.fo = -1
  · simp [h6 hf]
  · simp [hf]
theorem yes2 (h1 : inB 0 2 x.pl = true) (h2 : inB 0 100 x.p0 = true) (h3 : inB 0 100 x.p1 = true) (h0 : ¬ x.pl = 2) (hf : ¬ x.fo ≠ -1) (hl : inB 1 4 (x.ch.length : Int) = true) (ha : x.ch.all (inB ((i : Int) + 1) ((n : Int) - 1)) = true) (hr : risingB x.ch = true) : okB n i x = true := by
  have hf : x.fo = -1 := by omega
  unfold okB; rw [h1, h2, h3, hl, ha, hr, decide_eq_false h0, decide_eq_true hf]; rfl
theorem yes3 (hl : inB 1 4 (x.ch.length : Int) = true) (hr : risesB n x.ch = true) (h : (i : Int) < x.ch.getD 0 0) : x.ch.all (inB ((i : Int) + 1) ((n : Int) - 1)) = true ∧ risingB x.ch = true := by
  simp only [risesB, Bool.and_eq_true] at hr
  refine ⟨?_, hr.2⟩
  rw [all_getD 0]
  intro j hj
  have h1 := (all_getD 0).1 hr.1 j hj
  simp only [inB, decide_eq_true_eq] at h1 ⊢
  rcases Nat.eq_zero_or_pos j with h2 | h2
  · subst h2; omega
  · have := rising_lt hr.2 h2 hj; omega
theorem end1 (h1 : inB 0 2 x.pl = true) (h2 : inB 0 100 x.p0 = true) (h3 : inB 0 100 x.p1 = true) (h5 : inB (-1) 1 x.fo = true) (h0 : x.pl = 2) (hl : (x.ch.length : Int) = 0) (hf : 0 ≤ x.fo) : okB n i x = true :=
  yes1 h1 h2 h3 h0 (by omega) h5 (fun h => by omega)
theorem end2 (h1 : inB 0 2 x.pl = true) (h2 : inB 0 100 x.p0 = true) (h3 : inB 0 100 x.p1 = true) (h5 : inB (-1) 1 x.fo = true) (h0 : x.pl = 2) (hl : (x.ch.length : Int) = 0) (hf : ¬ 0 ≤ x.fo) : okB n i x = decide (x.p0 = x.p1) := by
  by_cases h : x.p0 = x.p1
  · rw [yes1 h1 h2 h3 h0 (by omega) h5 (fun _ => h), decide_eq_true h]
  · rw [no6' h0 h5 hf h, decide_eq_false h]
theorem dec1 (h1 : inB 0 2 x.pl = true) (h2 : inB 0 100 x.p0 = true) (h3 : inB 0 100 x.p1 = true) (h0 : ¬ x.pl = 2) (hf : ¬ x.fo ≠ -1) (hl : inB 1 4 (x.ch.length : Int) = true) (hr : risesB n x.ch = true) : okB n i x = decide ((i : Int) < x.ch.getD 0 0) := by
  by_cases h : (i : Int) < x.ch.getD 0 0
  · rw [decide_eq_true h]; have := yes3 hl hr h; exact yes2 h1 h2 h3 h0 hf hl this.1 this.2
  · rw [decide_eq_false h]; exact no12 h0 hl h
theorem ok_empty (h : okB n i x = true) (h0 : x.pl = 2) : x.ch = [] := by
  have := (ok_pl h).2.2.2.2.2.1 h0
  exact List.eq_nil_of_length_eq_zero this
end
theorem cnt_kid {ns : List Nd} {i k n : Nat} (hn : ns.length = n) (hok : okB n i (ns.getD i dN) = true) (hi : i < n) (hk : k < (ns.getD i dN).ch.length) :
    (0 ≤ (ns.getD i dN).ch.getD k 0 ∧ (ns.getD i dN).ch.getD k 0 < n) ∧
    (cntL n (kids (ns.take i) ++ (ns.getD i dN).ch.take k)).set ((ns.getD i dN).ch.getD k 0).toNat ((cntL n (kids (ns.take i) ++ (ns.getD i dN).ch.take k)).getD ((ns.getD i dN).ch.getD k 0).toNat 0 + 1) = cntL n (kids (ns.take i) ++ (ns.getD i dN).ch.take (k + 1)) := by
  have := ok_kid hok (getD_mem 0 hk)
  refine ⟨by omega, ?_⟩
  rw [cntL_step (by omega) (by omega), take_step 0 hk, List.append_assoc]
/-- The nodes of a player. -/
def nodesOf (ns : List Nd) (p : Int) : List Int := ((List.range ns.length).filter fun i => decide ((ns.getD i dN).pl = p)).map fun (i : Nat) => (i : Int)
def nodesTo (ns : List Nd) (p : Int) (k : Nat) : List Int := ((List.range k).filter fun i => decide ((ns.getD i dN).pl = p)).map fun (i : Nat) => (i : Int)
def endsOf (ns : List Nd) : List Int × Int := if isTree ns = true then (nodesOf ns 2, 0) else ([], 1)
def decsOf (ns : List Nd) (p : Int) : List Int × Int := if isTree ns = true then (if 0 ≤ p ∧ p ≤ 1 then (nodesOf ns p, 0) else ([], 2)) else ([], 1)
def depthOf (ns : List Nd) : Int × Int := if isTree ns = true then (depth ns 0, 0) else (0, 1)
/-- Where places lead. -/
def walk (ns : List Nd) : List Int → Int → Option Int
  | [], at_ => some at_
  | p :: r, at_ => if 0 ≤ p ∧ p ≤ ((ns.getD at_.toNat dN).ch.length : Int) - 1 then walk ns r ((ns.getD at_.toNat dN).ch.getD p.toNat 0) else none
def nodeBy (ns : List Nd) (way : List Int) : Int × Int := if isTree ns = true then (match walk ns way 0 with | some x => (x, 0) | none => (0, 4)) else (0, 1)
/-! ### Marks -/
def seqL (k : Int) (n : Nat) : List Int := (List.range n).map fun (i : Nat) => k + (i : Int)
def f4 (x : Nd) : Nat := 4 + x.ch.length
def markN (k : Int) (x : Nd) : Nd := ⟨k, k + 1, k + 1 + 1, k + 1 + 1 + 1, seqL (k + 1 + 1 + 1 + 1) x.ch.length⟩
def marksN (k : Int) (ys : List Nd) : List Nd := ys.mapIdx fun i x => markN (k + (sumK f4 (ys.take i) : Int)) x
def marksM (k : Int) (ys : List (List Int)) : List (List Int) := ys.mapIdx fun i x => seqL (k + (sumK rwl (ys.take i) : Int)) x.length
end Go.Proofs.YtjengglpbdgmnaaDoor.Math
/- Plain facts on games: matrices, weights, powers, units. No condition. -/
namespace Go.Proofs.YtjengglpbdgmnaaDoor.Math
open Go.Proofs.YtjengglpbdgmnaaDoor.V
set_option linter.unusedVariables false
set_option linter.unusedSimpArgs false
/-- A list of k numbers in a range. -/
def rowB (k : Nat) (lo hi : Int) (r : List Int) : Bool := decide (r.length = k) && r.all (inB lo hi)
def matB (k : Nat) (lo hi : Int) (m : List (List Int)) : Bool := decide (m.length = k) && m.all (rowB k lo hi)
section
variable {k : Nat} {lo hi : Int} {r : List Int} {m : List (List Int)}
end
/-- The total of weights. -/
def total (ws : List (List Int)) : Int := (ws.map List.sum).sum
/-- A game. -/
def isGame (ns : List Nd) (ws vs : List (List Int)) : Bool := isTree ns && (inB 1 6 ws.length && (matB ws.length 0 9 ws && (matB ws.length (-1) 1 vs && decide (0 < total ws))))
/-- Powers of 60. -/
def p60 (k : Nat) : Int := 60 ^ k
theorem mul_bd {a b A B : Int} (h0 : 0 ≤ a) (h1 : a ≤ A) (h2 : 0 ≤ b) (h3 : b ≤ B) : 0 ≤ a * b ∧ a * b ≤ A * B :=
 ⟨Int.mul_nonneg h0 h2, Int.mul_le_mul h1 h3 h2 (by omega)⟩
/-- The unit. -/
def unit (ns : List Nd) (ws : List (List Int)) : Int := total ws * p60 (depth ns 0).toNat
def totalOf (ns : List Nd) (ws vs : List (List Int)) : Int × Int := if isGame ns ws vs = true then (total ws, 0) else (0, 1)
def unitOf (ns : List Nd) (ws vs : List (List Int)) : Int × Int := if isGame ns ws vs = true then (unit ns ws, 0) else (0, 1)
end Go.Proofs.YtjengglpbdgmnaaDoor.Math
/- Plain facts on payoffs, information sets, strategies. No condition. -/
namespace Go.Proofs.YtjengglpbdgmnaaDoor.Math
open Go.Proofs.YtjengglpbdgmnaaDoor.V
set_option linter.unusedVariables false
set_option linter.unusedSimpArgs false
/-- What player 0 gets at an end. -/
def payoffX (x : Nd) (w : Int) : Int :=
 if x.fo = 0 then -x.p0 else if x.fo = 1 then x.p1 else if w = 1 then x.p1 else if w = -1 then -x.p0 else 0
def payoffOf (z : List Nd) (ws vs : List (List Int)) (node a b : Int) : Int × Int :=
 if isGame z ws vs = true then
  if (0 ≤ node ∧ node ≤ (z.length : Int) - 1) ∧ (0 ≤ a ∧ a ≤ (ws.length : Int) - 1) ∧ (0 ≤ b ∧ b ≤ (ws.length : Int) - 1) then
   if (z.getD node.toNat dN).pl = 2 then (payoffX (z.getD node.toNat dN) ((vs.getD a.toNat []).getD b.toNat 0), 0) else (0, 5)
  else (0, 2)
 else (0, 1)
/-- Information sets: nodes and cards. -/
def setsOf (xs : List Int) (k : Nat) : List (List Int) := xs.flatMap fun n => (List.range k).map fun (c : Nat) => [n, (c : Int)]
def setsTo (xs : List Int) (k i j : Nat) : List (List Int) := setsOf (xs.take i) k ++ (List.range j).map fun (c : Nat) => [xs.getD i 0, (c : Int)]
/-- The sets of a player. -/
def sets (z : List Nd) (k : Nat) (p : Int) : List (List Int) := setsOf (nodesOf z p) k
def setsAt (z : List Nd) (ws vs : List (List Int)) (p : Int) : List (List Int) × Int :=
 if isGame z ws vs = true then if 0 ≤ p ∧ p ≤ 1 then (sets z ws.length p, 0) else ([], 2) else ([], 1)
/-- The children of the node of a set. -/
def wide (z : List Nd) (s : List Int) : Nat := (z.getD (s.getD 0 0).toNat dN).ch.length
/-- Parts of one set. -/
def partB (z : List Nd) (s r : List Int) : Bool := rowB (wide z s) 0 60 r && decide (r.sum = 60)
def partsB (z : List Nd) (ss ps : List (List Int)) : Bool := decide (ps.length = ss.length) && (List.range ss.length).all fun i => partB z (ss.getD i []) (ps.getD i [])
section
variable {z : List Nd} {s r : List Int} {ss ps : List (List Int)} {i : Nat}
end
def isStrat (z : List Nd) (ws vs : List (List Int)) (pl : Int) (ps : List (List Int)) : Bool :=
 isGame z ws vs && (decide (0 ≤ pl ∧ pl ≤ 1) && partsB z (sets z ws.length pl) ps)
/-- The number of pure strategies. -/
def countL : List Int → Int → Option Int
 | [], n => some n
 | x :: l, n => if n * x > 1000000000 then none else countL l (n * x)
def sizes (z : List Nd) (ss : List (List Int)) : List Int := ss.map fun s => (wide z s : Int)
def countOf (z : List Nd) (ws vs : List (List Int)) (p : Int) : Int × Int :=
 if isGame z ws vs = true then
  if 0 ≤ p ∧ p ≤ 1 then
   match countL (sizes z (sets z ws.length p)) 1 with
   | some n => (n, 0)
   | none => (0, 3)
  else (0, 2)
 else (0, 1)
def codeOf (z : List Nd) (ws vs : List (List Int)) (p : Int) : Int := if isGame z ws vs = true then if 0 ≤ p ∧ p ≤ 1 then 0 else 2 else 1
theorem sumK_bd {α : Type} (f : α → Nat) (B : Nat) : ∀ l : List α, (∀ x ∈ l, f x ≤ B) → sumK f l ≤ B * l.length
 | [], _ => by simp [sumK]
 | x :: l, h => by
  have h1 := sumK_bd f B l fun y hy => h y (List.mem_cons_of_mem _ hy)
  have h2 := h x (List.mem_cons_self ..)
  have h3 : sumK f (x :: l) = f x + sumK f l := rfl
  rw [h3, List.length_cons, Nat.mul_succ]; omega
end Go.Proofs.YtjengglpbdgmnaaDoor.Math
/- Plain facts on games with high cards and mirrored games. No condition. -/
namespace Go.Proofs.YtjengglpbdgmnaaDoor.Math
open Go.Proofs.YtjengglpbdgmnaaDoor.V
set_option linter.unusedVariables false
set_option linter.unusedSimpArgs false
def mapR {α : Type} (f : Nat → α) (k : Nat) : List α := (List.range k).map f
def order (a b : Int) : Int := if a < b then -1 else if b < a then 1 else 0
def hcCell (ag : Bool) (a b : Nat) : Int := if a = b ∧ ag = false then 0 else 1
def hcRow (k : Nat) (ag : Bool) (a : Nat) : List Int := mapR (hcCell ag a) k
def hcWin (k : Nat) (a : Nat) : List Int := mapR (fun b => order (a : Int) (b : Int)) k
def hcW (k : Nat) (ag : Bool) (i : Nat) : List (List Int) := mapR (hcRow k ag) i
def hcV (k : Nat) (i : Nat) : List (List Int) := mapR (hcWin k) i
abbrev G3 := List Nd × List (List Int) × List (List Int)
def highAt (z : List Nd) (kk : Int) (ag : Bool) : G3 × Int :=
 if isTree z = true then if (1 ≤ kk ∧ kk ≤ 6) ∧ ¬ (kk = 1 ∧ ag = false) then ((z, hcW kk.toNat ag kk.toNat, hcV kk.toNat kk.toNat), 0) else (([], [], []), 2) else (([], [], []), 1)
end Go.Proofs.YtjengglpbdgmnaaDoor.Math
/- A slice put into an owned row; plain facts on bet trees. No condition. -/
namespace Go.Proofs.YtjengglpbdgmnaaDoor.V
open Go Go.RowKit
set_option linter.unusedVariables false
set_option linter.unusedSimpArgs false
theorem mid_set (A o C : List Value) (f : Nat) (v : Value) (hf : f < o.length) : A ++ o.set f v ++ C = (A ++ o ++ C).take (A.length + f) ++ [v] ++ (A ++ o ++ C).drop (A.length + f + 1) := by
  have h1 : (A ++ o ++ C).take (A.length + f) = A ++ o.take f := by
    rw [List.append_assoc, List.take_length_add_append, List.take_append_of_le_length (by omega)]
  have h2 : (A ++ o ++ C).drop (A.length + f + 1) = o.drop (f + 1) ++ C := by
    rw [List.append_assoc, Nat.add_assoc, List.drop_length_add_append, List.drop_append_of_le_length (by omega)]
  rw [h1, h2, List.set_eq_take_append_cons_drop, if_pos hf]
  simp
theorem one_cell {cur o : List Value} {p m f : Nat} {v : Value} (h : ∀ j u, o[j]? = some u → cur[p + j]? = some u) (hl : o.length = m) (hm : p + m ≤ cur.length) (hf : f < m) :
    cur.take p ++ o.set f v ++ cur.drop (p + m) = cur.take (p + f) ++ [v] ++ cur.drop (p + f + 1) := by
  have hA : (cur.take p).length = p := by rw [List.length_take]; omega
  have hcur : cur.take p ++ o ++ cur.drop (p + m) = cur := by
    have : (cur.drop p).take m = o := by
      refine List.ext_getElem? fun j => ?_
      by_cases hj : j < m
      · rw [List.getElem?_take_of_lt hj, List.getElem?_drop]
        have ho : o[j]? = some (o[j]'(by omega)) := List.getElem?_eq_getElem (by omega)
        rw [h j _ ho, ho]
      · rw [List.getElem?_eq_none (by rw [List.length_take]; omega), List.getElem?_eq_none (by omega)]
    rw [← this, List.append_assoc, ← List.drop_drop, List.take_append_drop, List.take_append_drop]
  have := mid_set (cur.take p) o (cur.drop (p + m)) f v (by omega)
  rw [hcur, hA] at this
  exact this
section
variable {P : Program} {n : Nat} {w0 : World} {M : Nat → Prop} {L L' : List (World → Prop)} {σ : Fr} {K K' : Ko} {c x y : Code} {ops : Array Oper} {S : World → Prop} {r : Sch} {i : Nat}
variable {d : Nat} {t : TypeId} {p : String} {af : Array Edge} {g : Option (Nat × Bool)} {a b : Operand}
variable {α : Type} {k : RK α} {ty e e1 by_ N C : Nat} {ao : Option Addr} {hs : Nat → Hd} {xs : List α} {zc : List Value}
/-- A store of a slice into one cell of an owned row, with what it leads to. -/
theorem stRk_opw {gk off nn f : Nat} {hd : Hd} {x x' : α} {ro j q : Nat} {v : Value} {w : World} (hk : k.Ok) (hj : L[j]? = some (OwnR k e e1 ao N C hs xs)) (hq : (L.eraseIdx j)[q]? = some (OwnI e1 hd.1 nn hd.2 (k.kid x'))) (hao : ao = some ⟨gk, 0, none⟩) (hx : xs[ro]? = some x) (hz : Size P ty 1) (hsep : Sep w0 M L w) (ha : ev σ a = .pointer (some ⟨gk, off, none⟩)) (hoff : off = ro * k.m + f) (hb : ev σ b = v) (hv : nn = (k.kid x').length → k.cells x' hd = (k.cells x (hs ro)).set f v) (hv1 : v.oneCell' = true) (hf : f < k.m) :
    opw P ⟨none, .store ty a b, t, p, af, g⟩ σ w fun σ' w' => Sep w0 M (OwnR k e e1 ao N C (hset hs ro hd) (xs.set ro x') :: (L.eraseIdx j).eraseIdx q) w' ∧ σ' = σ := by
  subst hao
  subst hoff
  have hrow : OwnR k e e1 (some ⟨gk, 0, none⟩) N C hs xs w := hsep.at_ j hj
  have hlt : ro < N := by rw [← hrow.1]; exact (List.getElem?_eq_some_iff.1 hx).1
  have hnn : OwnI e1 hd.1 nn hd.2 (k.kid x') w := ((hsep.perm (pull hj)).tail).at_ q hq
  have hnn := hnn.lenz
  subst hnn
  have hv := hv rfl
  have hp := (hsep.perm (pull hj)).perm ((pull hq).cons _)
  have core : ∀ f0 g', St f0 (OwnR k e e1 (some ⟨gk, 0, none⟩) N C hs xs) w → St g' (OwnI e1 hd.1 (k.kid x').length hd.2 (k.kid x')) w → (∀ q, f0 q → ¬ g' q) →
      ∃ cur : Array Value, w.heap[gk]? = some (.cells cur e (0, 0)) ∧ ro * k.m + (k.cells x' hd).length ≤ cur.size ∧ OwnR k e e1 (some ⟨gk, 0, none⟩) N C (hset hs ro hd) (xs.set ro x') (w.setRow gk (cur.toList.take (ro * k.m) ++ k.cells x' hd ++ cur.toList.drop (ro * k.m + (k.cells x' hd).length)).toArray) := fun f0 g' hf hg' hfg =>
    OwnR.setRow_ hk hf.out hg'.out hlt (OwnR.mem hf) (fun q hq => Own.mem hg' q hq) hfg
  obtain ⟨_, fs, h2⟩ := id hp
  match fs, h2 with
  | f0 :: g' :: fs, ⟨k1, k2, k3, k4, k5, k6, k7⟩ =>
    obtain ⟨cur, hc, hsz, _⟩ := core f0 g' k3 k6 fun q hq hq' => k2 g' List.mem_cons_self q hq hq'
    have hlen := hk.len x' hd
    have hsame : cur.toList.take (ro * k.m) ++ k.cells x' hd ++ cur.toList.drop (ro * k.m + (k.cells x' hd).length) = cur.toList.take (ro * k.m + f) ++ [v] ++ cur.toList.drop (ro * k.m + f + 1) := by
      rw [hlen, hv]
      refine one_cell (fun j u hu => ?_) (hk.len x (hs ro)) (by rw [Array.length_toList]; omega) hf
      obtain ⟨b', hb', hcell⟩ := hrow.cell hk hx hu
      cases hb'
      unfold World.cell? at hcell
      simp only [hc] at hcell
      simpa using hcell
    have hc1 : v.cells = #[v] := by cases v <;> first | rfl | cases hv1
    have hst := run_storeCells_at P gk (ro * k.m + f) e [v] 0 cur w hc (by simp; omega) (by simpa using hv1)
    have hr : (Instr.storeAt ty (.pointer (some ⟨gk, ro * k.m + f, none⟩)) v).run P w = .ok () (w.setRow gk (cur.toList.take (ro * k.m + f) ++ [v] ++ cur.toList.drop (ro * k.m + f + 1)).toArray) := by
      simp only [Instr.storeAt, Instr.sureAddr, storeVar, hz w, hc1, Sem.run_bind, Sem.run_pure, Result.andThen_ok]
      simpa using hst
    unfold opw
    simp only [execOp, ha, hb, Sem.run_bind, hr, Result.andThen_ok, Sem.run_pure]
    refine ⟨hp.fuse fun f1 g1 hf1 hg1 hfg => ?_, by first | trivial | rfl⟩
    obtain ⟨cur', hc', _, ho'⟩ := core f1 g1 hf1 hg1 hfg
    rw [hc] at hc'; cases hc'
    rw [hsame] at ho'
    refine ⟨fun q => f1 q ∨ g1 q, fun q hq => hq.elim .inl (.inr ∘ .inl), ho'.St fun q hq => ?_, ⟨rfl, rfl, rfl, by simp, fun q _ hn => setRow_other w gk q _ fun e => hn (e ▸ .inl (OwnR.mem hf1 gk (.inl rfl)))⟩⟩
    rcases hq with hq | ⟨i', hi', hq⟩
    · exact .inl (OwnR.mem hf1 q (.inl hq))
    · by_cases h5 : i' = ro
      · subst h5; rw [hset_same] at hq; exact .inr (Own.mem hg1 q hq)
      · rw [hset_other hs hd h5] at hq; exact .inl (OwnR.mem hf1 q (.inr ⟨i', hi', hq⟩))
  | [_], ⟨_, _, _, h⟩ => exact h.elim
  | [], h => exact h.elim
theorem stRk {gk off nn f : Nat} {hd : Hd} (x x' : α) (ro j q : Nat) (hk : k.Ok) (hj : L[j]? = some (OwnR k e e1 ao N C hs xs)) (hq : (L.eraseIdx j)[q]? = some (OwnI e1 hd.1 nn hd.2 (k.kid x'))) (hao : ao = some ⟨gk, 0, none⟩) (hx : xs[ro]? = some x) (hz : Size P ty 1) (hS : ∀ w, Sep w0 M (OwnR k e e1 ao N C (hset hs ro hd) (xs.set ro x') :: (L.eraseIdx j).eraseIdx q) w → S w) (ho : ops[i]? = some ⟨none, .store ty a b, t, p, af, g⟩) (hg : go ops σ g) (ha : ev σ a = .pointer (some ⟨gk, off, none⟩)) (hoff : off = ro * k.m + f) {v : Value} (hb : ev σ b = v) (hv : nn = (k.kid x').length → k.cells x' hd = (k.cells x (hs ro)).set f v) (hv1 : v.oneCell' = true) (hf : f < k.m)
    (h : RG P n w0 M ops S (OwnR k e e1 ao N C (hset hs ro hd) (xs.set ro x') :: (L.eraseIdx j).eraseIdx q) r σ K) : RG P n w0 M ops S L (.op .l i r) σ K :=
  rL1 (v := undef) hS ho hg (fun _ hs => stRk_opw hk hj hq hao hx hz hs ha hoff hb hv hv1 hf) h
end
end Go.Proofs.YtjengglpbdgmnaaDoor.V
namespace Go.Proofs.YtjengglpbdgmnaaDoor.Math
open Go.Proofs.YtjengglpbdgmnaaDoor.V
/-- How often a tree may grow on. -/
def ckN (ck : Bool) : Int := if ck then 2 else 3
def p2 : Nat → Nat
  | 0 => 1
  | f + 1 => p2 f + p2 f
theorem p2_pos : ∀ f, 1 ≤ p2 f
  | 0 => Nat.le_refl _
  | f + 1 => by have := p2_pos f; unfold p2; omega
/-- A bet tree: the nodes that are added. -/
def growF : Nat → Int → Int → Int → Int → Int → Bool → Nat → List Nd
  | 0, _, _, _, _, _, _, _ => []
  | f + 1, pl, p0, p1, bet, r, ck, b =>
    if p0 = p1 then
      ⟨pl, p0, p1, -1, [((b + 1 : Nat) : Int), ((b + 1 + (if ck then [(⟨2, p0, p1, -1, []⟩ : Nd)] else growF f (1 - pl) p0 p1 bet r true (b + 1)).length : Nat) : Int)]⟩ ::
        ((if ck then [(⟨2, p0, p1, -1, []⟩ : Nd)] else growF f (1 - pl) p0 p1 bet r true (b + 1)) ++
          growF f (1 - pl) (if pl = 0 then p1 + bet else p0) (if pl = 0 then p1 else p0 + bet) bet r false (b + 1 + (if ck then [(⟨2, p0, p1, -1, []⟩ : Nd)] else growF f (1 - pl) p0 p1 bet r true (b + 1)).length))
    else if r = 0 then [⟨pl, p0, p1, -1, [((b + 1 : Nat) : Int), ((b + 1 + 1 : Nat) : Int)]⟩, ⟨2, p0, p1, pl, []⟩, ⟨2, if pl = 0 then p1 else p0, if pl = 0 then p1 else p0, -1, []⟩]
    else ⟨pl, p0, p1, -1, [((b + 1 : Nat) : Int), ((b + 1 + 1 : Nat) : Int), ((b + 1 + 1 + 1 : Nat) : Int)]⟩ :: ⟨2, p0, p1, pl, []⟩ :: ⟨2, if pl = 0 then p1 else p0, if pl = 0 then p1 else p0, -1, []⟩ ::
      growF f (1 - pl) (if pl = 0 then p1 + bet else p0) (if pl = 0 then p1 else p0 + bet) bet (r - 1) false (b + 1 + 1 + 1)
theorem growF_len : ∀ (f : Nat) (pl p0 p1 bet r : Int) (ck : Bool) (b : Nat), (growF f pl p0 p1 bet r ck b).length + 3 ≤ 4 * p2 f
  | 0, _, _, _, _, _, _, _ => by show 0 + 3 ≤ 4 * 1; omega
  | f + 1, pl, p0, p1, bet, r, ck, b => by
    have h2 : p2 (f + 1) = p2 f + p2 f := rfl
    have hp := p2_pos f
    unfold growF
    split
    · rw [List.length_cons, List.length_append]
      have h1 : (if ck then [(⟨2, p0, p1, -1, []⟩ : Nd)] else growF f (1 - pl) p0 p1 bet r true (b + 1)).length + 3 ≤ 4 * p2 f := by
        split
        · show 1 + 3 ≤ _; omega
        · exact growF_len f _ _ _ _ _ _ _
      generalize (if ck then [(⟨2, p0, p1, -1, []⟩ : Nd)] else growF f (1 - pl) p0 p1 bet r true (b + 1)).length = u at h1 ⊢
      have := growF_len f (1 - pl) (if pl = 0 then p1 + bet else p0) (if pl = 0 then p1 else p0 + bet) bet r false (b + 1 + u)
      omega
    · split
      · show 3 + 3 ≤ _; omega
      · have := growF_len f (1 - pl) (if pl = 0 then p1 + bet else p0) (if pl = 0 then p1 else p0 + bet) bet (r - 1) false (b + 1 + 1 + 1)
        simp only [List.length_cons]; omega
theorem set_mid {z rest : List Nd} {x y : Nd} {n : Nat} (h : z.length = n) : (z ++ x :: rest).set n y = z ++ y :: rest := by
  subst h
  rw [List.set_append_right _ _ (Nat.le_refl _), Nat.sub_self]; rfl
section
variable {z : List Nd} {f n n1 n2 : Nat} {pl p0 p1 q0 q1 o bet r r1 pm : Int} {ck : Bool} {ch : List Int} {A B : List Nd}
theorem grow_1 (hz : z.length = n) (he : ¬ p0 = p1) (hr : r = 0) (ho : o = if pl = 0 then p1 else p0) (hch : ch = [((n + 1 : Nat) : Int), ((n + 1 + 1 : Nat) : Int)]) :
    (((z ++ [(⟨pl, p0, p1, -1, []⟩ : Nd)]) ++ [(⟨2, p0, p1, pl, []⟩ : Nd)]) ++ [(⟨2, o, o, -1, []⟩ : Nd)]).set n ⟨pl, p0, p1, -1, ch⟩ = z ++ growF (f + 1) pl p0 p1 bet r ck n := by
  subst ho; subst hch; subst hr
  rw [growF, if_neg he, if_pos rfl, List.append_assoc, List.append_assoc]
  exact set_mid hz
theorem grow_2 (hz : z.length = n) (he : ¬ p0 = p1) (hr : r ≠ 0) (hr1 : r1 = r - 1) (hm : pm = 1 - pl) (ho : o = if pl = 0 then p1 else p0) (h0 : q0 = if pl = 0 then p1 + bet else p0) (h1 : q1 = if pl = 0 then p1 else p0 + bet) (hch : ch = [((n + 1 : Nat) : Int), ((n + 1 + 1 : Nat) : Int), ((n + 1 + 1 + 1 : Nat) : Int)]) :
    ((((z ++ [(⟨pl, p0, p1, -1, []⟩ : Nd)]) ++ [(⟨2, p0, p1, pl, []⟩ : Nd)]) ++ [(⟨2, o, o, -1, []⟩ : Nd)]) ++ growF f pm q0 q1 bet r1 false (n + 1 + 1 + 1)).set n ⟨pl, p0, p1, -1, ch⟩ = z ++ growF (f + 1) pl p0 p1 bet r ck n := by
  subst ho; subst hch; subst h0; subst h1; subst hm; subst hr1
  rw [growF, if_neg he, if_neg hr, List.append_assoc, List.append_assoc, List.append_assoc]
  exact set_mid hz
theorem grow_3 (hz : z.length = n) (he : p0 = p1) (hck : ck = true) (hm : pm = 1 - pl) (h0 : q0 = if pl = 0 then p1 + bet else p0) (h1 : q1 = if pl = 0 then p1 else p0 + bet) (hch : ch = [((n + 1 : Nat) : Int), ((n + 1 + 1 : Nat) : Int)]) :
    (((z ++ [(⟨pl, p0, p1, -1, []⟩ : Nd)]) ++ [(⟨2, p0, p1, -1, []⟩ : Nd)]) ++ growF f pm q0 q1 bet r false (n + 1 + 1)).set n ⟨pl, p0, p1, -1, ch⟩ = z ++ growF (f + 1) pl p0 p1 bet r ck n := by
  subst hch; subst h0; subst h1; subst hm; subst hck
  rw [growF, if_pos he, List.append_assoc, List.append_assoc]
  exact set_mid hz
theorem grow_4 (hz : z.length = n) (he : p0 = p1) (hck : ck = false) (hm : pm = 1 - pl) (h0 : q0 = if pl = 0 then p1 + bet else p0) (h1 : q1 = if pl = 0 then p1 else p0 + bet) (hn : n1 = n + 1 + (growF f pm p0 p1 bet r true (n + 1)).length) (hch : ch = [((n + 1 : Nat) : Int), (n1 : Int)]) :
    (((z ++ [(⟨pl, p0, p1, -1, []⟩ : Nd)]) ++ growF f pm p0 p1 bet r true (n + 1)) ++ growF f pm q0 q1 bet r false n1).set n ⟨pl, p0, p1, -1, ch⟩ = z ++ growF (f + 1) pl p0 p1 bet r ck n := by
  subst hch; subst h0; subst h1; subst hck; subst hn; subst hm
  rw [growF, if_pos he, List.append_assoc, List.append_assoc]
  exact set_mid hz
theorem at_mid {rest : List Nd} {x : Nd} (h : z.length = n) : (z ++ x :: rest)[n]? = some x := by subst h; simp
end
def betAt (ante bet r : Int) : List Nd × Int := if (0 ≤ ante ∧ ante ≤ 100) ∧ (1 ≤ bet ∧ bet ≤ 100) ∧ (0 ≤ r ∧ r ≤ 2) ∧ ante + bet * (r + 1) ≤ 100 then (growF 5 0 ante ante bet r false 0, 0) else ([], 2)
theorem betAt_2 {ante bet r : Int} (h : ¬ ((0 ≤ ante ∧ ante ≤ 100) ∧ (1 ≤ bet ∧ bet ≤ 100) ∧ (0 ≤ r ∧ r ≤ 2) ∧ ante + bet * (r + 1) ≤ 100)) : betAt ante bet r = ([], 2) := if_neg h
theorem betAt_0 {ante bet r : Int} (h : (0 ≤ ante ∧ ante ≤ 100) ∧ (1 ≤ bet ∧ bet ≤ 100) ∧ (0 ≤ r ∧ r ≤ 2) ∧ ante + bet * (r + 1) ≤ 100) : betAt ante bet r = (growF 5 0 ante ante bet r false 0, 0) := if_pos h
end Go.Proofs.YtjengglpbdgmnaaDoor.Math
/- Plain facts on the sizes of bet trees. No condition. -/
namespace Go.Proofs.YtjengglpbdgmnaaDoor.Math
open Go.Proofs.YtjengglpbdgmnaaDoor.V
set_option linter.unusedVariables false
set_option linter.unusedSimpArgs false
theorem growF_kids : ∀ (f : Nat) (pl p0 p1 bet r : Int) (ck : Bool) (b : Nat), ∀ x ∈ growF f pl p0 p1 bet r ck b, x.ch.length ≤ 3
  | 0, _, _, _, _, _, _, _, x, hx => by cases hx
  | f + 1, pl, p0, p1, bet, r, ck, b, x, hx => by
    unfold growF at hx
    split at hx
    · rcases List.mem_cons.1 hx with rfl | hx
      · exact Nat.le_succ 2
      · rcases List.mem_append.1 hx with hx | hx
        · split at hx
          · rcases List.mem_cons.1 hx with rfl | hx
            · exact Nat.zero_le _
            · cases hx
          · exact growF_kids f _ _ _ _ _ _ _ x hx
        · exact growF_kids f _ _ _ _ _ _ _ x hx
    · split at hx
      · rcases List.mem_cons.1 hx with rfl | hx
        · exact Nat.le_succ 2
        · rcases List.mem_cons.1 hx with rfl | hx
          · exact Nat.zero_le _
          · rcases List.mem_cons.1 hx with rfl | hx
            · exact Nat.zero_le _
            · cases hx
      · rcases List.mem_cons.1 hx with rfl | hx
        · exact Nat.le_refl 3
        · rcases List.mem_cons.1 hx with rfl | hx
          · exact Nat.zero_le _
          · rcases List.mem_cons.1 hx with rfl | hx
            · exact Nat.zero_le _
            · exact growF_kids f _ _ _ _ _ _ _ x hx
theorem betAt_bd (ante bet r : Int) : (betAt ante bet r).1.length ≤ 125 ∧ sumK f4 (betAt ante bet r).1 ≤ 875 ∧ sumK chl (betAt ante bet r).1 ≤ 375 := by
  have h0 : sumK f4 ([] : List Nd) = 0 := rfl
  have h1 : sumK chl ([] : List Nd) = 0 := rfl
  unfold betAt; split
  · have hl := growF_len 5 0 ante ante bet r false 0
    have hp : p2 5 = 32 := rfl
    have h2 := sumK_bd f4 7 (growF 5 0 ante ante bet r false 0) fun x hx => by have := growF_kids 5 0 ante ante bet r false 0 x hx; unfold f4; omega
    have h3 := sumK_bd chl 3 (growF 5 0 ante ante bet r false 0) fun x hx => by have := growF_kids 5 0 ante ante bet r false 0 x hx; unfold chl; omega
    dsimp only; omega
  · dsimp only; rw [h0, h1]; exact ⟨Nat.zero_le _, Nat.zero_le _, Nat.zero_le _⟩
def kuhnT : List Nd := (betAt 1 1 0).1
end Go.Proofs.YtjengglpbdgmnaaDoor.Math
/- Plain facts on trees that are drawn. No condition. -/
namespace Go.Proofs.YtjengglpbdgmnaaDoor.Math
open Go.Proofs.YtjengglpbdgmnaaDoor.V
set_option linter.unusedVariables false
def p4 : Nat → Nat
  | 0 => 1
  | f + 1 => 4 * p4 f
theorem p4_pos : ∀ f, 1 ≤ p4 f
  | 0 => Nat.le_refl _
  | f + 1 => by have := p4_pos f; unfold p4; omega
theorem p4_s {d : Int} (h : 1 ≤ d) : p4 d.toNat = 4 * p4 (d - 1).toNat := by
  rw [show d.toNat = (d - 1).toNat + 1 from by omega]; rfl
theorem growF_pos (f : Nat) (pl p0 p1 bet r : Int) (ck : Bool) (b : Nat) : 1 ≤ (growF (f + 1) pl p0 p1 bet r ck b).length := by
  unfold growF
  split
  · rw [List.length_cons]; omega
  · split
    · exact Nat.le_add_left 1 2
    · rw [List.length_cons]; omega
theorem betAt_pos {ante bet r : Int} (h : (0 ≤ ante ∧ ante ≤ 100) ∧ (1 ≤ bet ∧ bet ≤ 100) ∧ (0 ≤ r ∧ r ≤ 2) ∧ ante + bet * (r + 1) ≤ 100) : 1 ≤ (betAt ante bet r).1.length := by
  rw [betAt_0 h]; exact growF_pos 4 0 ante ante bet r false 0
def kidsB (z : List Nd) : Prop := ∀ x ∈ z, x.ch.length ≤ 4
theorem kidsB_nil : kidsB [] := fun x hx => by cases hx
theorem kidsB_app {z : List Nd} {x : Nd} (h : kidsB z) (hx : x.ch.length ≤ 4) : kidsB (z ++ [x]) := fun y hy => by
  rcases List.mem_append.1 hy with hy | hy
  · exact h y hy
  · rw [List.mem_singleton.1 hy]; exact hx
theorem kidsB_set {z : List Nd} {x : Nd} {i : Nat} (h : kidsB z) (hx : x.ch.length ≤ 4) : kidsB (z.set i x) := fun y hy => by
  rcases List.mem_or_eq_of_mem_set hy with hy | rfl
  · exact h y hy
  · exact hx
theorem betAt_kids (ante bet r : Int) : kidsB (betAt ante bet r).1 := fun x hx => by
  unfold betAt at hx; split at hx
  · have := growF_kids 5 0 ante ante bet r false 0 x hx; omega
  · cases hx
def rect (u : List (List Int)) (n : Nat) : Prop := u.length = n ∧ ∀ i, i < n → (u.getD i []).length = n
end Go.Proofs.YtjengglpbdgmnaaDoor.Math
/- Rows copied with what they lead to; rows that are read. No condition. -/
namespace Go.Proofs.YtjengglpbdgmnaaDoor.V
open Go Go.RowKit
set_option linter.unusedVariables false
set_option linter.unusedSimpArgs false
section
variable {P : Program} {ty e m by_ : Nat} {zc : List Value}
theorem run_append_listM {w : World} (hM : Mk P ty e m by_ zc) {n c k cq : Nat} {ao q : Option Addr} {xs news : List Value} (hown : Own e m ao n c xs w) (tyr : TypeId) (hlen : news.length = k * m) (hc : CellsAt q news w) (h1 : ∀ u ∈ news, u.oneCell' = true) (hN : (n + k) * by_ ≤ 140737488355328) :
    ∃ a' c' w', (Builtin.append_ #[ty, ty] tyr #[.slice ao n c, .slice q k cq]).run P w = .ok (.slice a' (n + k) c') w' ∧ Own e m a' (n + k) c' (xs ++ news) w' ∧ Upd (fpO ao) w w' ∧ (∀ g', fpO a' g' → fpO ao g' ∨ New w w' g') := by
  obtain ⟨hu, inf, zv, hi, hz0, hs, hby, hzc, hm, hm0, hb0⟩ := hM
  have hN63 : n + k ≤ maxLen := by
    have : n + k ≤ (n + k) * by_ := Nat.le_mul_of_pos_right _ hb0
    simp only [maxLen]; omega
  have hzs : zv.cells.size = m := by rw [hzc]; simpa using hm
  cases q with
  | none =>
    have hn0 : news = [] := by
      cases news with
      | nil => rfl
      | cons x l => obtain ⟨b, off, h, _⟩ := hc 0 x rfl; cases h
    subst hn0
    have hk0 : k = 0 := by
      have h5 : k * m = 0 := by simpa using hlen.symm
      exact (Nat.mul_eq_zero.1 h5).resolve_right (by omega)
    subst hk0
    have hr := run_append_none_any (P := P) w ty tyr e inf 0 m hu hi (.slice ao n c) n xs hown cq
    exact ⟨ao, c, w, hr, by rw [List.append_nil]; exact hown, Upd.refl _ _, fun g' h => .inl h⟩
  | some ad =>
    have hnews : ∀ j u, news[j]? = some u → w.cell? (ad.add j) = some u := fun j u hj => by
      obtain ⟨b, off, h, hc'⟩ := hc j u hj
      cases h
      rw [Addr.add_lit]; exact hc'
    have fin : ∀ (v' : Value) (w' : World), (Builtin.append_ #[ty, ty] tyr #[.slice ao n c, .slice (some ad) k cq]).run P w = .ok v' w' → w'.ownsRow w.heap.size e m v' (n + k) (xs ++ news) → Upd (fpO ao) w w' →
        ∃ a' c' w', (Builtin.append_ #[ty, ty] tyr #[.slice ao n c, .slice (some ad) k cq]).run P w = .ok (.slice a' (n + k) c') w' ∧ Own e m a' (n + k) c' (xs ++ news) w' ∧ Upd (fpO ao) w w' ∧ (∀ g', fpO a' g' → fpO ao g' ∨ New w w' g') := by
      intro v' w' hr ho hup
      obtain ⟨hl', h2⟩ := ho
      rcases h2 with ⟨hv, h0⟩ | ⟨g', cap, cur, rfl, hb, hg, hnc, hcm, hcs, ht⟩
      · subst hv
        rw [h0] at hl' ⊢
        exact ⟨none, 0, w', hr, ⟨hl', .inl ⟨rfl, rfl⟩⟩, hup, fun g' h => by cases h⟩
      · exact ⟨some ⟨g', 0, none⟩, cap, w', hr, ⟨hl', .inr ⟨g', cap, cur, rfl, Nat.zero_le _, hg, hnc, hcm, hcs, ht⟩⟩, hup, fun g2 h => by
          unfold fpO at h; cases h
          exact .inr ⟨hb, (Array.getElem?_eq_some_iff.1 hg).1⟩⟩
    have up : ∀ {w' : World} {row : Option Nat}, w.grownBy w' row → (∀ k, row = some k → fpO ao k) → Upd (fpO ao) w w' := fun hgr hrow =>
      ⟨hgr.os, hgr.tape, hgr.output, hgr.size, fun q hq hn => hgr.block q hq (fun e => hn (hrow q e.symm))⟩
    rcases hown.2 with ⟨hv, h0⟩ | ⟨g0, cap, cur, hv, hb, hg, hnc, hcm, hcs, ht⟩
    · obtain ⟨rfl, hc0⟩ : ao = none ∧ c = 0 := by cases hv; exact ⟨rfl, rfl⟩
      subst h0; subst hc0
      obtain ⟨v', w', hr, ho, hgr, _⟩ := run_append_own (P := P) w w.heap.size ty tyr e inf zv m by_ hu hi hz0 hs hby hzs hm0 (.slice none 0 0) 0 xs ⟨hown.1, .inl ⟨rfl, rfl⟩⟩ ad k cq news hlen hnews h1 hN63 hN (Nat.le_refl _)
      exact fin v' w' hr ho (up hgr fun k hk => by simp [Value.ownBlock] at hk)
    · obtain ⟨rfl, rfl⟩ : ao = some ⟨g0, 0, none⟩ ∧ c = cap := by cases hv; exact ⟨rfl, rfl⟩
      by_cases hroom : n + k ≤ c
      · obtain ⟨w', hr, ho, hgr⟩ := run_append_fits (P := P) w 0 ty tyr e inf m hu hi hs g0 n c xs hown ad k cq news hlen hnews h1 hroom
        exact ⟨some ⟨g0, 0, none⟩, c, w', hr, ho, up hgr fun k hk => by cases hk; rfl, fun g' h => .inl h⟩
      · have holds : ∀ j u, xs[j]? = some u → w.cell? ((⟨g0, 0, none⟩ : Addr).add j) = some u := by
          have h3 : w.ownsRow 0 e m (.slice (some ⟨g0, 0, none⟩) n c) n xs := hown
          exact h3.cells (g := g0) rfl
        obtain ⟨v', w', hr, ho, hgr⟩ := run_append_arg_grows (P := P) w ty tyr e inf zv m by_ hu hi hz0 hs hby hzs hm0 ⟨g0, 0, none⟩ n c xs hown.1 holds ad k cq news hlen hnews (by omega) hN63 hN
        exact fin v' w' hr ho (up hgr fun k hk => by simp at hk)
end
section
variable {P : Program} {n : Nat} {w0 : World} {M : Nat → Prop} {L L' Lf Lr : List (World → Prop)} {σ : Fr} {K K' : Ko} {c x y : Code} {ops : Array Oper} {S : World → Prop} {r : Sch} {i : Nat}
variable {d : Nat} {t : TypeId} {p : String} {af : Array Edge} {g : Option (Nat × Bool)} {a b : Operand}
variable {ty e m by_ N C : Nat} {ao : Option Addr} {xs : List Value} {zc : List Value}
/-- 'append' of a list of cells to nothing. -/
theorem aplX {k lc : Nat} {q : Option Addr} {news : List Value} (j : Nat) (hj : L[j]? = some (Own e m ao 0 C [])) (hC : Kn w0 M L (CellsAt q news)) (hl : news.length = k * m) (h1 : ∀ u ∈ news, u.oneCell' = true) (hM : Mk P ty e m by_ zc) (hS : ∀ (x : Option Addr × Nat) w, Sep w0 M (L.set j (Own e m x.1 k x.2 news)) w → S w) (ho : ops[i]? = some ⟨some d, .call ⟨.builtin .append, #[a, b], #[ty, ty]⟩, t, p, af, g⟩) (hg : go ops σ g) (ha : ev σ a = .slice ao 0 C) (hb : ev σ b = .slice q k lc) (hN : (0 + k) * by_ ≤ 140737488355328)
    (h : ∀ a' c', RG P n w0 M ops S (L.set j (Own e m a' k c' news)) r (upd σ d (.slice a' k c')) K) : RG P n w0 M ops S L (.op .l i r) σ K :=
  rL (α := Option Addr × Nat) (good := fun _ => True) (Lx := fun x => L.set j (Own e m x.1 k x.2 news)) (v := fun x => .slice x.1 k x.2) hS ho hg (fun w hs => by
    have hown : Own e m ao 0 C [] w := hs.at_ j hj
    obtain ⟨a', c', w', hr, ho', hup, hg'⟩ := run_append_listM (cq := lc) hM hown t hl (hC w hs) h1 hN
    rw [Nat.zero_add, List.nil_append] at ho'
    rw [Nat.zero_add] at hr
    unfold opw
    simp only [execOp, resolve, invoke, builtin, Sem.run_bind, Sem.run_pure, Result.andThen_ok, List.map_toArray, List.map_cons, List.map_nil, ha, hb, hr]
    refine ⟨(a', c'), trivial, hs.change j hj fun f hf => ⟨fun k => f k ∨ fpO a' k, fun k hk => ?_, ?_, hup.mono fun k _ hk => Own.mem hf k hk⟩, rfl⟩
    · rcases hk with hk | hk
      · exact .inl hk
      · rcases hg' k hk with hg' | hg'
        · exact .inl (Own.mem hf _ hg')
        · exact .inr hg'
    · exact Own.St ho' fun q hq => .inr hq) (fun q _ => h q.1 q.2)
end
section
variable {α : Type} {k : RK α} {e e1 e2 : Nat} {a a2 : Option Addr} {n c c2 q : Nat} {hs : Nat → Hd} {xs : List α} {x : α} {w : World}
theorem OwnR.cellsAt (h : OwnR k e e1 a n c hs xs w) : CellsAt a (rowsV k hs xs).flatten w := fun i v hi => by
  obtain ⟨b, hb, hc⟩ := h.2.1.cell hi
  exact ⟨b, 0, hb, by rw [Nat.zero_add]; exact hc⟩
theorem OwnR.flat_len (h : OwnR k e e1 a n c hs xs w) : (rowsV k hs xs).flatten.length = n * k.m := h.2.1.1
theorem slHiR {P : Program} {nn : Nat} {w0 : World} {M : Nat → Prop} {L : List (World → Prop)} {σ : Fr} {K : Ko} {ops : Array Oper} {S : World → Prop} {r : Sch} {i : Nat} {d : Nat} {t : TypeId} {p : String} {af : Array Edge} {g : Option (Nat × Bool)} {ao bo : Operand} {ty N C : Nat} {z : Int} {kk : IntKind} (j : Nat) (hj : L[j]? = some (OwnR k e e1 a N C hs xs)) (hE : Elt P ty k.m) (ho : ops[i]? = some ⟨some d, .slice ty ao none (some bo) none, t, p, af, g⟩) (hg : go ops σ g) (ha : ev σ ao = .slice a N C) (hb : ev σ bo = .int kk z) (h0 : 0 ≤ z) (h1 : z ≤ N) {zn : Nat} (hzn : z.toNat = zn)
    (h : RG P nn w0 M ops S L r (upd σ d (.slice a zn C)) K) : RG P nn w0 M ops S L (.op .q i r) σ K := fun w hw => by
  have hown : Own e k.m a N C (rowsV k hs xs).flatten w := (show OwnR k e e1 a N C hs xs w from hw.at_ j hj).2.1
  subst hzn
  obtain ⟨e', he, hs'⟩ := hE
  have hNC : N ≤ C := by
    rcases hown.2 with ⟨hv, h0'⟩ | ⟨g', cap, cur, hv, _, _, hnc, _⟩
    · omega
    · cases hv; exact hnc
  refine rQ (v := .slice a z.toNat C) ho hg (fun w' hw' => ?_) h w hw
  have hzc : z ≤ C := by omega
  have hadd : a.map (fun x => x.add 0) = a := by cases a <;> simp [Addr.add]
  simp [execOp, ha, hb, Instr.sliceAt, Instr.slice, Instr.sliceBounds, Instr.sliceBound, asIntOf, he w', hs' w', h0, h1, hzc, hadd]
/-- Rows, copied, and one of them once more: read. -/
theorem RdR.copy (hk : k.Ok) (hc : Own e2 k.m a2 (n + 1) c2 ((rowsV k hs xs).flatten ++ k.cells x (hs q)) w) (ho : OwnR k e e1 a n c hs xs w) (hx : xs[q]? = some x) : RdR k a2 (n + 1) (hset hs n (hs q)) (xs ++ [x]) w := by
  have hl := ho.1
  have hrows : rowsV k (hset hs n (hs q)) (xs ++ [x]) = rowsV k hs xs ++ [k.cells x (hs q)] := by rw [← hl]; exact rowsV_app _
  have hcc : Own e2 k.m a2 (n + 1) c2 (rowsV k (hset hs n (hs q)) (xs ++ [x])).flatten w := by
    rw [hrows, List.flatten_append]; simpa using hc
  refine ⟨by simp [hl], hc.max, fun i y hy => ⟨?_, ?_⟩⟩
  · have hpos := hk.pos
    have hlen := hk.len y (hset hs n (hs q) i)
    have key : ∀ j v, (k.cells y (hset hs n (hs q) i))[j]? = some v → ∃ b, a2 = some ⟨b, 0, none⟩ ∧ w.cell? ⟨b, i * k.m + j, none⟩ = some v := fun j v hj => hcc.cell (flat_get (rowsV_all hk) (rowsV_get hy) hj)
    obtain ⟨b, hb, _⟩ := key 0 ((k.cells y (hset hs n (hs q) i))[0]'(by omega)) (List.getElem?_eq_getElem (by omega))
    refine ⟨b, 0, hb, fun j v hj => ?_⟩
    obtain ⟨b', hb', hcell⟩ := key j v hj
    rw [hb] at hb'; cases hb'
    rw [Nat.zero_add]; exact hcell
  · rcases Nat.lt_or_ge i xs.length with hi | hi
    · rw [List.getElem?_append_left hi] at hy
      rw [hset_other hs (hs q) (show i ≠ n by omega)]
      exact (ho.2.2.1 i y hy).rd
    · have hix : i = n := by
        have := (List.getElem?_eq_some_iff.1 hy).1
        simp at this; omega
      subst hix
      rw [List.getElem?_append_right (by omega)] at hy
      simp [hl] at hy; subst hy
      rw [hset_same]
      exact (ho.2.2.1 q x hx).rd
theorem rowsV_one (hk : k.Ok) : ∀ u ∈ (rowsV k hs xs).flatten, u.oneCell' = true := fun u hu => by
  obtain ⟨cs, hcs, hu⟩ := List.mem_flatten.1 hu
  unfold rowsV at hcs
  obtain ⟨i, hi, rfl⟩ := List.mem_mapIdx.1 hcs
  exact hk.one _ _ _ hu
theorem Sep.copyRd {w0 : World} {M : Nat → Prop} {L : List (World → Prop)} (hk : k.Ok) (h : Sep w0 M (Own e2 k.m a2 (n + 1) c2 ((rowsV k hs xs).flatten ++ k.cells x (hs q)) :: OwnR k e e1 a n c hs xs :: L) w) (hx : xs[q]? = some x) : Sep w0 M (RdR k a2 (n + 1) (hset hs n (hs q)) (xs ++ [x]) :: L) w :=
  h.fuse fun f g hf hg _ => ⟨fun b => f b ∨ g b, fun b hb => hb.elim .inl (.inr ∘ .inl), fun w' ha => RdR.copy hk (hf w' fun b hb => ha b (.inl hb)) (hg w' fun b hb => ha b (.inr hb)) hx, .refl _ _⟩
theorem litX {e m bk : Nat} {w : World} (hb : blk bk e [] w) : Own e m (some ⟨bk, 0, none⟩) 0 0 [] w := ⟨by simp, .inr ⟨bk, 0, #[], rfl, Nat.zero_le _, hb, Nat.le_refl _, Nat.zero_le _, by simp, by simp⟩⟩
theorem RdR.take {hs : Nat → Hd} (h : RdR k a n hs xs w) {j : Nat} (hj : j ≤ n) : RdR k a j hs (xs.take j) w :=
  ⟨by rw [List.length_take, h.1]; omega, by have := h.2.1; omega, fun i y hy => h.2.2 i y (by
    have := (List.getElem?_eq_some_iff.1 hy).1
    rw [List.length_take] at this
    rwa [List.getElem?_take_of_lt (by omega)] at hy)⟩
end
end Go.Proofs.YtjengglpbdgmnaaDoor.V
/- Sources of draws: what a function that draws is handed. No condition. -/
namespace Go.Proofs.YtjengglpbdgmnaaDoor
open Go Go.RowKit V
set_option linter.unusedVariables false
set_option linter.unusedSimpArgs false
def okBytes (bs : List Int) : Prop := (∀ x ∈ bs, 0 ≤ x ∧ x ≤ 255) ∧ bs.length ≤ 1000000000000000
/-- A source at block 'bk' over the bytes 'bs'. -/
def srcP (bk : Nat) (ca : Option Addr) (bs : List Int) (cc : Nat) : World → Prop := fun w =>
  ∃ p s : Int, blk bk 90 [.slice ca bs.length cc, .int .i64 p, .int .i64 s] w ∧ 0 ≤ p ∧ p ≤ bs.length ∧ 0 ≤ s ∧ s ≤ 2147483646
/-- The bytes, whatever becomes of block 'bk'. -/
def Code_ (bk : Nat) (ca : Option Addr) (bs : List Int) (w : World) : Prop := ∀ w', Upd (fun k => k = bk) w w' → CellsAt ca (bs.map (Value.int .u8)) w'
def SrcIn (bk : Nat) (ca : Option Addr) (bs : List Int) (cc : Nat) (w : World) : Prop := srcP bk ca bs cc w ∧ Code_ bk ca bs w ∧ okBytes bs
theorem srcP_mem {bk : Nat} {ca : Option Addr} {bs : List Int} {cc : Nat} : ∀ (f : Nat → Prop) (w : World), St f (srcP bk ca bs cc) w → f bk := by
  intro f w h
  refine Classical.byContradiction fun hn => ?_
  obtain ⟨p, s, h1, _⟩ := h.out
  have hlt : bk < w.heap.size := (Array.getElem?_eq_some_iff.1 h1).1
  obtain ⟨p', s', h2, _⟩ := h { w with heap := w.heap.setIfInBounds bk (.map #[] 0) } fun k hk => by
    have : bk ≠ k := fun e => hn (e ▸ hk)
    show (w.heap.setIfInBounds bk (.map #[] 0))[k]? = _
    rw [Array.getElem?_setIfInBounds_ne this]
  unfold blk at h2
  simp [hlt] at h2
theorem srcP_st {bk : Nat} {ca : Option Addr} {bs : List Int} {cc : Nat} : ∀ (f : Nat → Prop) (w : World), srcP bk ca bs cc w → f bk → St f (srcP bk ca bs cc) w := by
  rintro f w ⟨p, s, h1, h2⟩ hf w' ha
  exact ⟨p, s, (blk.St _ _ _ h1 hf) w' ha, h2⟩
theorem Code_.upd {bk : Nat} {ca : Option Addr} {bs : List Int} {w w' : World} (h : Code_ bk ca bs w) (hu : Upd (fun k => k = bk) w w') : Code_ bk ca bs w' := fun w'' hu' => h w'' (hu.trans hu')
theorem Sep.startS {w0 : World} {bk : Nat} {ca : Option Addr} {bs : List Int} {cc : Nat} (h : srcP bk ca bs cc w0) : V.Sep w0 (fun k => k = bk) [srcP bk ca bs cc] w0 :=
  ⟨.refl _ _, [fun k => k = bk], fun k hk => ⟨.inr hk, by subst hk; obtain ⟨_, _, h, _⟩ := h; exact (Array.getElem?_eq_some_iff.1 h).1⟩, by simp, srcP_st _ _ h rfl, trivial⟩
/-- Two pieces lie apart. -/
theorem SepL_ne {M : Nat → Prop} {B T : Nat} {w : World} : ∀ {fs : List (Nat → Prop)} {L : List (World → Prop)}, SepL M B T fs L w → ∀ {i j : Nat} {φ ψ : World → Prop}, L[i]? = some φ → L[j]? = some ψ → i ≠ j →
    ∃ f f', St f φ w ∧ St f' ψ w ∧ ∀ k, f k → ¬ f' k := by
  intro fs
  induction fs with
  | nil => intro L h i j φ ψ hi; cases L with | nil => simp at hi | cons _ _ => exact h.elim
  | cons f fs ih =>
    intro L h i j φ ψ hi hj hne
    cases L with
    | nil => exact h.elim
    | cons χ L =>
      obtain ⟨h1, h2, h3, h4⟩ := h
      cases i with
      | zero =>
        cases j with
        | zero => exact absurd rfl hne
        | succ j =>
          simp at hi; subst hi
          obtain ⟨f', hf', hst⟩ := h4.at_ (by simpa using hj)
          exact ⟨f, f', h3, hst, fun k hk hk' => h2 f' (List.mem_of_getElem? hf') k hk hk'⟩
      | succ i =>
        cases j with
        | zero =>
          simp at hj; subst hj
          obtain ⟨f', hf', hst⟩ := h4.at_ (by simpa using hi)
          exact ⟨f', f, hst, h3, fun k hk hk' => h2 f' (List.mem_of_getElem? hf') k hk' hk⟩
        | succ j => exact ih h4 (by simpa using hi) (by simpa using hj) (by omega)
/-- The list of a draw's choices, whatever becomes of the source. -/
def Lst (bk : Nat) (a : Option Addr) (xs : List Int) (w : World) : Prop := ∀ w', Upd (fun k => k = bk) w w' → CellsAt a (xs.map (Value.int .i64)) w'
theorem Lst.of {w0 : World} {M : Nat → Prop} {L : List (World → Prop)} {w : World} (hs : Sep w0 M L w) (i j : Nat) {lb e bk : Nat} {ca : Option Addr} {bs : List Int} {cc : Nat} {xs : List Int} {vs : List Value}
    (hi : L[i]? = some (blk lb e vs)) (hj : L[j]? = some (srcP bk ca bs cc)) (hne : i ≠ j) (hv : vs = xs.map (Value.int .i64)) : Lst bk (some ⟨lb, 0, none⟩) xs w := by
  subst hv
  intro w' hu
  obtain ⟨_, fs, h⟩ := hs
  obtain ⟨f, f', h1, h2, h3⟩ := SepL_ne h hi hj hne
  have hl := blk.mem h1
  have hb := srcP_mem f' w h2
  have hlt : lb < w.heap.size := (Array.getElem?_eq_some_iff.1 h1.out).1
  refine CellsAt.blk (e := e) ?_
  have hne' : ¬ lb = bk := fun h => h3 lb hl (h ▸ hb)
  unfold blk
  rw [hu.block lb hlt hne']
  exact h1.out
def toI : Value → Int
  | .int _ z => z
  | _ => 0
theorem Lst.of' {w0 : World} {M : Nat → Prop} {L : List (World → Prop)} {w : World} (hs : Sep w0 M L w) (i j : Nat) {lb e bk : Nat} {ca : Option Addr} {bs : List Int} {cc : Nat} {vs : List Value}
    (hi : L[i]? = some (blk lb e vs)) (hj : L[j]? = some (srcP bk ca bs cc)) (hne : i ≠ j) (hv : vs = (vs.map toI).map (Value.int .i64)) : Lst bk (some ⟨lb, 0, none⟩) (vs.map toI) w := Lst.of hs i j hi hj hne hv
theorem map_get {f : Int → Value} {l : List Int} {k : Nat} (h : k < l.length) : (l.map f)[k]? = some (f (l.getD k 0)) := by
  simp [List.getD, List.getElem?_eq_getElem h]
theorem okBytes.at_ {bs : List Int} (h : okBytes bs) (k : Nat) : 0 ≤ bs.getD k 0 ∧ bs.getD k 0 ≤ 255 := by
  by_cases hk : k < bs.length
  · have := h.1 _ (List.getElem_mem hk)
    simp [List.getD, List.getElem?_eq_getElem hk]; exact this
  · simp [List.getD, List.getElem?_eq_none (Nat.le_of_not_lt hk)]
theorem emod_bd (a : Int) {n : Int} (h : 1 < n) : 0 ≤ a % n ∧ (a % n < n ∨ a % n = 0) := ⟨Int.emod_nonneg _ (by omega), .inl (Int.emod_lt_of_pos _ (by omega))⟩
theorem getD_mem {l : List Int} {k : Nat} (h : k < l.length) : l.getD k 0 ∈ l := by
  simp [List.getD, List.getElem?_eq_getElem h]
end Go.Proofs.YtjengglpbdgmnaaDoor
/- Contracts of the sources of draws. Their conditions stand in each. -/
namespace Go.Proofs.YtjengglpbdgmnaaDoor
open Go Go.RowKit V
set_option linter.unusedVariables false
set_option linter.unusedSimpArgs false
set_option maxRecDepth 100000
theorem fl90_0 : Fld Tryd.prog 90 0 0 := by
 intro w ad; simp [Instr.fieldAt, Tryd.runUnderlying90, Instr.sureAddr, fieldPlace, Tryd.sizeOf22]
theorem fl90_1 : Fld Tryd.prog 90 1 1 := by
 intro w ad; simp [Instr.fieldAt, Tryd.runUnderlying90, Instr.sureAddr, fieldPlace, Tryd.sizeOf3]
theorem fl90_2 : Fld Tryd.prog 90 2 2 := by
 intro w ad; simp [Instr.fieldAt, Tryd.runUnderlying90, Instr.sureAddr, fieldPlace, Tryd.sizeOf2]
theorem el22 : Elt Tryd.prog 22 1 := ⟨5, Tryd.runUnderlying22, Tryd.sizeOf5⟩
theorem el50 : Elt Tryd.prog 50 1 := ⟨2, Tryd.runUnderlying50, Tryd.sizeOf2⟩
theorem bld90_0_2 (v0 v2 : Value) (h0 : v0.cells = #[v0]) (h2 : v2.cells = #[v2]) : ∀ w, (Instr.build 90 ([(0, v0), (2, v2)] : List (Nat × Value)).toArray).run Tryd.prog w = .ok (.agg ([v0, .int .i64 0, v2] : List Value).toArray) w := by
 intro w; simp [Instr.build, Instr.fill, Tryd.zeroValue90, Tryd.runUnderlying90, aggCells, Tryd.sizeOf2, Tryd.sizeOf3, Tryd.sizeOf22, h0, h2]
theorem l01Next_c (bk : Nat) (ca : Option Addr) (bs : List Int) (cc : Nat) (n : Int) (w : World) (hs0 : SrcIn bk ca bs cc w) :
  Calls Tryd.prog 24 #[.pointer (some ⟨bk, 0, none⟩), .int .i64 n] w (Ret fun v w' => ∃ x : Int, v = .int .i64 x ∧ (0 ≤ x ∧ (x < n ∨ x = 0)) ∧ Upd (fun k => k = bk) w w' ∧ srcP bk ca bs cc w') := by
 obtain ⟨⟨p, s, hb, h1, h2, h3, h4⟩, hcode, hok⟩ := hs0
 have hK : Kn w (fun k => k = bk) [] (CellsAt ca (bs.map (Value.int .u8))) := fun w' hs => hcode w' hs.upd
 have hl := hok.2
 refine fn (M := (fun k => k = bk)) (rs := [.tmp 4]) Tryd.func24 rfl Tryd.ntmps24 rfl rfl (Sep.startB hb) ?_
 refine hSeq ?_
 refine hReg (sq 0 sz) (by kernel_rfl) ?_
 refine asI rfl rfl rfl ?_
 refine rNil ?_
 refine qSeq rfl ?_
 refine hSeq ?_
 refine hSeq ?_
 refine hReg (sq 0 (sq 1 sz)) (by kernel_rfl) ?_
 refine mvI rfl rfl rfl ?_
 refine leq rfl rfl rfl rfl ?_
 refine rNil ?_
 refine qSeq rfl ?_
 refine hIfD rfl (fun c1 => ?_) (fun c1 => ?_)
 ·
  refine hSeq ?_
  refine hReg (sq 0 sz) (by kernel_rfl) ?_
  refine asI rfl rfl rfl ?_
  refine rNil ?_
  refine qSeq rfl ?_
  refine hRet ?_
  exact fun w hs => ⟨[.int .i64 _], ⟨rfl, trivial⟩, ⟨_, rfl, ⟨by omega, by omega⟩, hs.upd, ⟨_, _, hs.at_ 0 rfl, by omega, by omega, by omega, by omega⟩⟩⟩
 ·
  refine hSkip ?_
  refine qSeq rfl ?_
  refine hSeq ?_
  refine hReg (sq 0 (sq 1 (sq 2 (sq 3 (sl 4 (sq 5 (sq 6 (sq 7 (sq 8 (sq 9 (sl 10 sz))))))))))) (by kernel_rfl) ?_
  refine mvP rfl rfl rfl ?_
  refine mvP rfl rfl rfl ?_
  refine nilc rfl rfl rfl ?_
  refine fld fl90_2 rfl rfl rfl ?_
  refine ldl Tryd.isAgg2 (cB 0 rfl rfl) trv rfl rfl rfl ?_
  refine mul rfl rfl rfl rfl (by omega) ?_
  refine add rfl rfl rfl rfl (by omega) ?_
  refine rem rfl rfl rfl rfl (by omega) ?_
  refine nilc rfl rfl rfl ?_
  refine fld fl90_2 rfl rfl rfl ?_
  refine stl (v := .int .i64 _) 0 rfl Tryd.sizeOf2 trv rfl rfl rfl rfl rfl (Nat.le_of_ble_eq_true rfl) ?_
  refine rNil ?_
  refine qSeq rfl ?_
  refine hSeq ?_
  refine hReg (sq 0 (sq 1 (sq 2 (sl 3 (sq 4 (sq 5 sz)))))) (by kernel_rfl) ?_
  refine mvP rfl rfl rfl ?_
  refine nilc rfl rfl rfl ?_
  refine fld fl90_2 rfl rfl rfl ?_
  refine ldl Tryd.isAgg2 (cB 0 rfl rfl) trv rfl rfl rfl ?_
  refine quo rfl rfl rfl rfl (by omega) ?_
  refine asI rfl rfl rfl ?_
  refine rNil ?_
  refine qSeq rfl ?_
  refine hSeq ?_
  refine hSeq ?_
  refine hDraw (by kernel_rfl) (sq 0 (sq 1 (sq 2 (sq 3 (sq 4 (sq 5 (sq 6 (sq 7 (sq 8 (sq 9 sz)))))))))) (by kernel_rfl) (.cons_cons _ .slnil) ?_
  refine mvP rfl rfl rfl ?_
  refine nilc rfl rfl rfl ?_
  refine fld fl90_1 rfl rfl rfl ?_
  refine ldq Tryd.isAgg3 (cB 0 rfl rfl) rfl rfl rfl ?_
  refine mvP rfl rfl rfl ?_
  refine nilc rfl rfl rfl ?_
  refine fld fl90_0 rfl rfl rfl ?_
  refine ldq Tryd.isAgg22 (cB 0 rfl rfl) rfl rfl rfl ?_
  refine lenS Tryd.runUnderlying22 rfl rfl rfl ?_
  refine lss rfl rfl rfl rfl ?_
  refine rNil ?_
  refine qSeq rfl ?_
  refine hIfD rfl (fun c2 => ?_) (fun c2 => ?_)
  ·
   refine hSeq ?_
   refine hDraw (by kernel_rfl) (sq 0 (sq 1 (sq 2 (sq 3 (sq 4 (sq 5 (sq 6 (sq 7 (sq 8 (sq 9 (sq 10 (sq 11 (sq 12 (sq 13 sz)))))))))))))) (by kernel_rfl) (.cons_cons _ .slnil) ?_
   refine mvI rfl rfl rfl ?_
   refine mvP rfl rfl rfl ?_
   refine nilc rfl rfl rfl ?_
   refine fld fl90_0 rfl rfl rfl ?_
   refine ldq Tryd.isAgg22 (cB 0 rfl rfl) rfl rfl rfl ?_
   refine mvP rfl rfl rfl ?_
   refine nilc rfl rfl rfl ?_
   refine fld fl90_1 rfl rfl rfl ?_
   refine ldq Tryd.isAgg3 (cB 0 rfl rfl) rfl rfl rfl ?_
   refine ixq el22 (Kn.drop (k := 1) hK) (fun _ h => h.sub (.cons_cons _ .slnil)) rfl rfl rfl rfl (by omega) (by omega) (map_get (by omega)) ?_
   intro ae3 e3
   refine ldq Tryd.isAgg5 (e3) rfl rfl rfl ?_
   refine cnvI Tryd.runUnderlying5 Tryd.runUnderlying2 rfl rfl rfl (by have := hok.at_ p.toNat; omega) ?_
   refine add rfl rfl rfl rfl (by have := hok.at_ p.toNat; omega) ?_
   refine asI rfl rfl rfl ?_
   refine rNil ?_
   refine qSeq rfl ?_
   refine hSeq ?_
   refine hReg (sq 0 (sq 1 (sq 2 (sl 3 (sq 4 (sq 5 (sq 6 (sl 7 sz)))))))) (by kernel_rfl) ?_
   refine mvP rfl rfl rfl ?_
   refine nilc rfl rfl rfl ?_
   refine fld fl90_1 rfl rfl rfl ?_
   refine ldl Tryd.isAgg3 (cB 0 rfl rfl) trv rfl rfl rfl ?_
   refine add rfl rfl rfl rfl (by omega) ?_
   refine nilc rfl rfl rfl ?_
   refine fld fl90_1 rfl rfl rfl ?_
   refine stl (v := .int .i64 _) 0 rfl Tryd.sizeOf3 trv rfl rfl rfl rfl rfl (Nat.le_of_ble_eq_true rfl) ?_
   refine rNil ?_
   refine qSeq rfl ?_
   refine hSeq ?_
   refine hReg (sq 0 (sq 1 (sq 2 (sq 3 (sq 4 (sq 5 (sl 6 (sq 7 (sq 8 (sq 9 sz)))))))))) (by kernel_rfl) ?_
   refine mvI rfl rfl rfl ?_
   refine leq rfl rfl rfl rfl ?_
   refine mvB rfl rfl rfl ?_
   refine rBoolD (d := 55) rfl (fun g4 => ?_) (fun g4 => ?_)
   ·
    refine mvP rfl rfl rfl ?_
    refine nilc rfl rfl rfl ?_
    refine fld fl90_1 rfl rfl rfl ?_
    refine ldl Tryd.isAgg3 (cB 0 rfl rfl) trv rfl rfl rfl ?_
    refine rem rfl rfl rfl rfl (by omega) ?_
    refine eql rfl rfl rfl rfl ?_
    refine pickB rfl rfl rfl rfl ?_
    refine rNil ?_
    refine qSeq rfl ?_
    refine hIfD rfl (fun c5 => ?_) (fun c5 => ?_)
    ·
     refine hDraw (by kernel_rfl) (sq 0 (sq 1 (sq 2 (sq 3 (sq 4 (sq 5 (sq 6 (sq 7 (sq 8 (sq 9 (sq 10 (sq 11 (sq 12 sz))))))))))))) (by kernel_rfl) (.cons_cons _ .slnil) ?_
     refine mvP rfl rfl rfl ?_
     refine nilc rfl rfl rfl ?_
     refine fld fl90_0 rfl rfl rfl ?_
     refine ldq Tryd.isAgg22 (cB 0 rfl rfl) rfl rfl rfl ?_
     refine mvP rfl rfl rfl ?_
     refine nilc rfl rfl rfl ?_
     refine fld fl90_1 rfl rfl rfl ?_
     refine ldq Tryd.isAgg3 (cB 0 rfl rfl) rfl rfl rfl ?_
     refine sub rfl rfl rfl rfl (by omega) ?_
     refine ixq el22 (Kn.drop (k := 1) hK) (fun _ h => h.sub (.cons_cons _ .slnil)) rfl rfl rfl rfl (by omega) (by omega) (map_get (by omega)) ?_
     intro ae6 e6
     refine ldq Tryd.isAgg5 (e6) rfl rfl rfl ?_
     refine cnvI Tryd.runUnderlying5 Tryd.runUnderlying2 rfl rfl rfl (by have := hok.at_ (p + 1 - 1).toNat; omega) ?_
     refine asI rfl rfl rfl ?_
     refine rNil ?_
     refine qSeq rfl ?_
     refine hSeq ?_
     refine hReg (sq 0 (sq 1 (sq 2 (sq 3 sz)))) (by kernel_rfl) ?_
     refine mvI rfl rfl rfl ?_
     refine mvI rfl rfl rfl ?_
     refine rem rfl rfl rfl rfl (by have := hok.at_ p.toNat; have := hok.at_ (p + 1 - 1).toNat; omega) ?_
     refine asI rfl rfl rfl ?_
     refine rNil ?_
     refine qSeq rfl ?_
     refine hRet ?_
     exact fun w hs => ⟨[.int .i64 _], ⟨rfl, trivial⟩, ⟨_, rfl, emod_bd _ (by omega), hs.upd, ⟨_, _, hs.at_ 0 rfl, by omega, by omega, by omega, by omega⟩⟩⟩
    ·
     refine hSkip ?_
     refine qSeq rfl ?_
     refine hSeq ?_
     refine hReg (sq 0 (sq 1 (sq 2 (sq 3 sz)))) (by kernel_rfl) ?_
     refine mvI rfl rfl rfl ?_
     refine mvI rfl rfl rfl ?_
     refine rem rfl rfl rfl rfl (by have := hok.at_ p.toNat; have := hok.at_ (p + 1 - 1).toNat; omega) ?_
     refine asI rfl rfl rfl ?_
     refine rNil ?_
     refine qSeq rfl ?_
     refine hRet ?_
     exact fun w hs => ⟨[.int .i64 _], ⟨rfl, trivial⟩, ⟨_, rfl, emod_bd _ (by omega), hs.upd, ⟨_, _, hs.at_ 0 rfl, by omega, by omega, by omega, by omega⟩⟩⟩
   ·
    refine rSkipQ rfl rfl ?_
    refine rSkipQ rfl rfl ?_
    refine rSkipQ rfl rfl ?_
    refine rSkipL trv rfl rfl ?_
    refine rSkipQ rfl rfl ?_
    refine rSkipQ rfl rfl ?_
    refine pickB rfl rfl rfl rfl ?_
    refine rNil ?_
    refine qSeq rfl ?_
    refine hIfF rfl ?_
    refine hSkip ?_
    refine qSeq rfl ?_
    refine hSeq ?_
    refine hReg (sq 0 (sq 1 (sq 2 (sq 3 sz)))) (by kernel_rfl) ?_
    refine mvI rfl rfl rfl ?_
    refine mvI rfl rfl rfl ?_
    refine rem rfl rfl rfl rfl (by have := hok.at_ p.toNat; have := hok.at_ (p + 1 - 1).toNat; omega) ?_
    refine asI rfl rfl rfl ?_
    refine rNil ?_
    refine qSeq rfl ?_
    refine hRet ?_
    exact fun w hs => ⟨[.int .i64 _], ⟨rfl, trivial⟩, ⟨_, rfl, emod_bd _ (by omega), hs.upd, ⟨_, _, hs.at_ 0 rfl, by omega, by omega, by omega, by omega⟩⟩⟩
  ·
   refine hSkip ?_
   refine qSeq rfl ?_
   refine hSeq ?_
   refine hReg (sq 0 (sq 1 (sq 2 (sq 3 sz)))) (by kernel_rfl) ?_
   refine mvI rfl rfl rfl ?_
   refine mvI rfl rfl rfl ?_
   refine rem rfl rfl rfl rfl (by have := hok.at_ p.toNat; have := hok.at_ (p + 1 - 1).toNat; omega) ?_
   refine asI rfl rfl rfl ?_
   refine rNil ?_
   refine qSeq rfl ?_
   refine hRet ?_
   exact fun w hs => ⟨[.int .i64 _], ⟨rfl, trivial⟩, ⟨_, rfl, emod_bd _ (by omega), hs.upd, ⟨_, _, hs.at_ 0 rfl, by omega, by omega, by omega, by omega⟩⟩⟩
theorem l01Pick_c (bk : Nat) (ca : Option Addr) (bs : List Int) (cc : Nat) (a : Option Addr) (cap : Nat) (xs : List Int) (w : World) (hs0 : SrcIn bk ca bs cc w) (hx : Lst bk a xs w) (hn : 0 < xs.length) :
  Calls Tryd.prog 28 #[.pointer (some ⟨bk, 0, none⟩), .slice a xs.length cap] w (Ret fun v w' => ∃ x : Int, v = .int .i64 x ∧ x ∈ xs ∧ Upd (fun k => k = bk) w w' ∧ srcP bk ca bs cc w') := by
 obtain ⟨hsrc, hcode, hok⟩ := hs0
 have hX : Kn w (fun k => k = bk) [] (CellsAt a (xs.map (Value.int .i64))) := fun w' hs => hx w' hs.upd
 refine fn (M := (fun k => k = bk)) (rs := [.tmp 4]) Tryd.func28 rfl Tryd.ntmps28 rfl rfl (Sep.startS hsrc) ?_
 refine hSeq ?_
 refine hReg (sq 0 sz) (by kernel_rfl) ?_
 refine asI rfl rfl rfl ?_
 refine rNil ?_
 refine qSeq rfl ?_
 refine hSeq ?_
 refine hReg (sq 0 (sq 1 (sq 2 (sq 3 (sl 4 (sq 5 (sl 6 (sq 7 sz)))))))) (by kernel_rfl) ?_
 refine mvS rfl rfl rfl ?_
 refine mvP rfl rfl rfl ?_
 refine mvS rfl rfl rfl ?_
 refine lenS Tryd.runUnderlying50 rfl rfl rfl ?_
 refine callK 0 rfl srcP_mem srcP_st Tryd.call24 trv rfl rfl (fun w hs => l01Next_c _ _ _ _ _ w ⟨hs.at_ 0 rfl, hcode.upd hs.upd, hok⟩) ?_
 rintro x1 hx1
 refine ixl el50 (Kn.drop (k := 1) hX) rfl rfl rfl rfl (by omega) (by omega) (map_get (by omega)) ?_
 intro ae2 e2
 refine ldl Tryd.isAgg2 (e2) trv rfl rfl rfl ?_
 refine asI rfl rfl rfl ?_
 refine rNil ?_
 refine qSeq rfl ?_
 refine hRet ?_
 exact fun w hs => ⟨[.int .i64 _], ⟨rfl, trivial⟩, ⟨_, rfl, getD_mem (by omega), hs.upd, hs.at_ 0 rfl⟩⟩
theorem l01From_c (ca : Option Addr) (bs : List Int) (cc : Nat) (w : World) (hc : CellsAt ca (bs.map (Value.int .u8)) w) (hok : okBytes bs) :
  Calls Tryd.prog 23 #[.slice ca bs.length cc] w (Ret fun v w' => ∃ bk : Nat, v = .pointer (some ⟨bk, 0, none⟩) ∧ w.heap.size ≤ bk ∧ Ext w w' ∧ St (New w w') (srcP bk ca bs cc) w') := by
 have hK : Kn w none_ [] (CellsAt ca (bs.map (Value.int .u8))) := fun w' hs => hc.ext hs.upd
 refine fn (M := none_) (rs := [.tmp 2]) Tryd.func23 rfl Tryd.ntmps23 rfl rfl (Sep.start _ _) ?_
 refine hSeq ?_
 refine hReg (sq 0 sz) (by kernel_rfl) ?_
 refine asn rfl rfl rfl ?_
 refine rNil ?_
 refine qSeq rfl ?_
 refine hSeq ?_
 refine hReg (sq 0 (sq 1 (sl 2 (sq 3 sz)))) (by kernel_rfl) ?_
 refine mvS rfl rfl rfl ?_
 refine bld rfl rfl rfl (bld90_0_2 (.slice _ _ _) (.int .i64 _) rfl rfl) ?_
 refine box trv1 rfl rfl rfl rfl (fun bkb1 hbkb1 => ?_)
 refine asn rfl rfl rfl ?_
 refine rNil ?_
 refine qSeq rfl ?_
 refine hSeq ?_
 refine hSeq ?_
 refine hReg (sq 0 sz) (by kernel_rfl) ?_
 refine asI rfl rfl rfl ?_
 refine rNil ?_
 refine qSeq rfl ?_
 refine hBlk ?_
 refine hLoop (α := Int × Int) (fun x => (0 ≤ x.1 ∧ x.1 ≤ 64) ∧ (0 ≤ x.2 ∧ x.2 ≤ 2147483646)) (fun x => (64 - x.1).toNat) (fun x => [blk bkb1 90 [.slice ca bs.length cc, .int .i64 0, .int .i64 x.2]]) (fun x => [(0, .slice ca bs.length cc), (3, .pointer (some ⟨bkb1, 0, none⟩)), (4, .int .i64 x.1)]) (0, 45007) ⟨by decide, by decide⟩ (fun _ h => h) ⟨rfl, rfl, rfl, trivial⟩ ?_
 rintro ⟨i, s⟩ τ1 ⟨⟨hi, hi2⟩, hs1, hs2⟩
 dsimp only at hi hi2 hs1 hs2
 refine hRe [(0, .slice ca bs.length cc), (3, .pointer (some ⟨bkb1, 0, none⟩)), (4, .int .i64 i)] [blk bkb1 90 [.slice ca bs.length cc, .int .i64 0, .int .i64 s]] rfl rfl ?_
 refine hSeq ?_
 refine hSeq ?_
 refine hReg (sq 0 (sq 1 (sq 2 (sq 3 (sq 4 (sq 5 (sq 6 (sq 7 sz)))))))) (by kernel_rfl) ?_
 refine mvI rfl rfl rfl ?_
 refine mvS rfl rfl rfl ?_
 refine lenS Tryd.runUnderlying22 rfl rfl rfl ?_
 refine lss rfl rfl rfl rfl ?_
 refine mvB rfl rfl rfl ?_
 refine rBoolD (d := 12) rfl (fun g1 => ?_) (fun g1 => ?_)
 ·
  refine mvI rfl rfl rfl ?_
  refine lss rfl rfl rfl rfl ?_
  refine pickB rfl rfl rfl rfl ?_
  refine rNil ?_
  refine qSeq rfl ?_
  refine hIfD rfl (fun c2 => ?_) (fun c2 => ?_)
  ·
   refine hSkip ?_
   refine qSeq rfl ?_
   refine hSeq ?_
   refine hBlk ?_
   refine hDraw (by kernel_rfl) (sq 0 (sq 1 (sq 2 (sq 3 (sq 4 (sq 5 (sq 6 (sq 7 (sq 8 (sq 9 (sq 10 (sq 11 (sq 12 (sl 13 (sq 14 (sf 15 sz)))))))))))))))) (by kernel_rfl) (.cons_cons _ .slnil) ?_
   refine mvP rfl rfl rfl ?_
   refine mvP rfl rfl rfl ?_
   refine nilc rfl rfl rfl ?_
   refine fld fl90_2 rfl rfl rfl ?_
   refine ldq Tryd.isAgg2 (cB 0 rfl rfl) rfl rfl rfl ?_
   refine mul rfl rfl rfl rfl (by omega) ?_
   refine mvS rfl rfl rfl ?_
   refine mvI rfl rfl rfl ?_
   refine ixq el22 (Kn.drop (k := 1) hK) (fun _ h => h.sub (.cons_cons _ .slnil)) rfl rfl rfl rfl (by omega) (by omega) (map_get (by omega)) ?_
   intro ae3 e3
   refine ldq Tryd.isAgg5 (e3) rfl rfl rfl ?_
   refine cnvI Tryd.runUnderlying5 Tryd.runUnderlying2 rfl rfl rfl (by have := hok.at_ i.toNat; omega) ?_
   refine add rfl rfl rfl rfl (by have := hok.at_ i.toNat; omega) ?_
   refine rem rfl rfl rfl rfl (by have := hok.at_ i.toNat; omega) ?_
   refine nilcL (fun _ h => h.sub (.cons_cons _ .slnil)) rfl rfl rfl ?_
   refine fld fl90_2 rfl rfl rfl ?_
   refine stf (v := .int .i64 _) 0 rfl Tryd.sizeOf2 rfl rfl rfl rfl rfl (Nat.le_of_ble_eq_true rfl) ?_
   refine rNil ?_
   refine qSeq rfl ?_
   refine hReg (sq 0 (sq 1 (sq 2 sz))) (by kernel_rfl) ?_
   refine mvI rfl rfl rfl ?_
   refine add rfl rfl rfl rfl (by omega) ?_
   refine asI rfl rfl rfl ?_
   refine rNil ?_
   exact qNext rfl (i + 1, (s * 61 + bs.getD i.toNat 0) % 2147483647) (by dsimp only; omega) ⟨by dsimp only; omega, by dsimp only; omega⟩ ⟨rfl, rfl, rfl, trivial⟩ (fun _ h => h)
  ·
   refine hExit rfl ?_
   refine qSeq rfl ?_
   refine hSeq ?_
   refine hReg (sq 0 (sq 1 sz)) (by kernel_rfl) ?_
   refine mvP rfl rfl rfl ?_
   refine asn rfl rfl rfl ?_
   refine rNil ?_
   refine qSeq rfl ?_
   refine hRet ?_
   exact fun w hs => ⟨[.pointer _], ⟨rfl, trivial⟩, ⟨_, rfl, hbkb1, hs.upd, (hs.fresh0 rfl).imp fun w h => ⟨_, _, h, by omega, by omega, by omega, by omega⟩⟩⟩
 ·
  refine rSkipQ rfl rfl ?_
  refine rSkipQ rfl rfl ?_
  refine pickB rfl rfl rfl rfl ?_
  refine rNil ?_
  refine qSeq rfl ?_
  refine hIfF rfl ?_
  refine hExit rfl ?_
  refine qSeq rfl ?_
  refine hSeq ?_
  refine hReg (sq 0 (sq 1 sz)) (by kernel_rfl) ?_
  refine mvP rfl rfl rfl ?_
  refine asn rfl rfl rfl ?_
  refine rNil ?_
  refine qSeq rfl ?_
  refine hRet ?_
  exact fun w hs => ⟨[.pointer _], ⟨rfl, trivial⟩, ⟨_, rfl, hbkb1, hs.upd, (hs.fresh0 rfl).imp fun w h => ⟨_, _, h, by omega, by omega, by omega, by omega⟩⟩⟩
theorem l01PickV_c (bk : Nat) (ca : Option Addr) (bs : List Int) (cc : Nat) (a : Option Addr) (len cap : Nat) (vs : List Value) (w : World) (hs0 : SrcIn bk ca bs cc w) (hx : Lst bk a (vs.map toI) w) (hl : len = vs.length) (hn : 0 < len) :
  Calls Tryd.prog 28 #[.pointer (some ⟨bk, 0, none⟩), .slice a len cap] w (Ret fun v w' => ∃ x : Int, v = .int .i64 x ∧ x ∈ vs.map toI ∧ Upd (fun k => k = bk) w w' ∧ srcP bk ca bs cc w') := by
 subst hl
 simpa using l01Pick_c bk ca bs cc a cap (vs.map toI) w hs0 hx (by simpa using hn)
end Go.Proofs.YtjengglpbdgmnaaDoor
/- Calls that turn what they are handed, and read what nobody turns. No condition. -/
namespace Go.Proofs.YtjengglpbdgmnaaDoor.V
open Go Go.RowKit
set_option linter.unusedVariables false
set_option linter.unusedSimpArgs false
section
variable {P : Program} {n : Nat} {w0 : World} {M : Nat → Prop} {L L' Lf Lr : List (World → Prop)} {σ : Fr} {K K' : Ko} {c x y : Code} {ops : Array Oper} {S : World → Prop} {r : Sch} {i : Nat}
variable {d : Nat} {t : TypeId} {p : String} {af : Array Edge} {g : Option (Nat × Bool)} {a b : Operand}
theorem callMK {α : Type} {f : FuncId} {args : Array Operand} {tys : Array TypeId} {val : α → Value} {good : α → Prop} {φs : α → List (World → Prop)} (hL : L = Lf ++ Lr) (hf : ∀ args w, (callFunc f args).run P w = .ok (.enter f args) w) (hS : ∀ x w, Sep w0 M (φs x ++ Lr) w → S w) (ho : ops[i]? = some ⟨some d, .call ⟨.value (.func f), args, tys⟩, t, p, af, g⟩) (hg : go ops σ g)
  (hc : ∀ w M0, Sep w M0 Lf w → (∀ φ, Kn w0 M [] φ → Kn w M0 [] φ) → Calls P f (args.toList.map (ev σ)).toArray w (Ret fun v' w' => ∃ x, v' = val x ∧ good x ∧ Sep w M0 (φs x) w')) (h : ∀ x, good x → RG P n w0 M ops S (φs x ++ Lr) r (upd σ d (val x)) K) : RG P n w0 M ops S L (.op .l i r) σ K := by
 subst hL
 exact rL (Lx := fun x => φs x ++ Lr) (v := val) hS ho hg (fun w hs => by
  obtain ⟨M0, h1, h2⟩ := hs.focus
  refine call_opw hf (hc w M0 h1 fun φ hk w' hs' => hk w' ((h2 [] w' hs').sub (List.nil_sublist _))) fun v' w' ⟨x, he, hx, hsep⟩ => by subst he; exact ⟨x, hx, h2 _ _ hsep, rfl⟩) h
end
theorem Sep.nilU {w w' : World} {M : Nat → Prop} (h : Upd M w w') : Sep w M [] w' := ⟨h, [], trivial⟩
end Go.Proofs.YtjengglpbdgmnaaDoor.V
namespace Go.Proofs.YtjengglpbdgmnaaDoor
open Go Go.RowKit V
theorem src_in {bk : Nat} {ca : Option Addr} {bs : List Int} {cc : Nat} {w : World} {M0 : Nat → Prop} {L : List (World → Prop)} (hs0 : V.Sep w M0 (srcP bk ca bs cc :: L) w) (hc : Kn w M0 [] (CellsAt ca (bs.map (Value.int .u8)))) (hok : okBytes bs) : SrcIn bk ca bs cc w := by
 refine ⟨hs0.at_ 0 rfl, fun w' hu => hc w' (Sep.nilU (hu.mono fun k hk hb => ?_)), hok⟩
 subst hb
 obtain ⟨_, fs, h⟩ := hs0
 match fs, h with
 | f :: fs, ⟨h1, _, h3, _⟩ =>
  have hm := srcP_mem f w h3
  exact (h1 _ hm).1.resolve_left (Nat.not_le_of_lt (h1 _ hm).2)
 | [], h => exact h.elim
theorem src_out {bk : Nat} {ca : Option Addr} {bs : List Int} {cc : Nat} {w w' : World} {M0 : Nat → Prop} {L : List (World → Prop)} (hs0 : V.Sep w M0 (srcP bk ca bs cc :: L) w) (hu : Upd (fun k => k = bk) w w') (h : srcP bk ca bs cc w') : V.Sep w M0 (srcP bk ca bs cc :: L) w' :=
 hs0.change 0 rfl fun f hf => ⟨f, fun _ h => .inl h, srcP_st f w' h (srcP_mem f w hf), hu.mono fun k _ hk => by subst hk; exact srcP_mem f w hf⟩
end Go.Proofs.YtjengglpbdgmnaaDoor
/- Numbers that a source hands out. Their conditions stand in each. -/
namespace Go.Proofs.YtjengglpbdgmnaaDoor
open Go Go.RowKit V
set_option linter.unusedVariables false
set_option linter.unusedSimpArgs false
set_option maxRecDepth 100000
theorem src_next (bk : Nat) (ca : Option Addr) (bs : List Int) (cc : Nat) (n : Int) (w : World) (M0 : Nat → Prop) (hs0 : V.Sep w M0 [srcP bk ca bs cc] w) (hc : Kn w M0 [] (CellsAt ca (bs.map (Value.int .u8)))) (hok : okBytes bs) :
  Calls Tryd.prog 24 #[.pointer (some ⟨bk, 0, none⟩), .int .i64 n] w (Ret fun v w' => ∃ x : Int, v = .int .i64 x ∧ (0 ≤ x ∧ (x < n ∨ x = 0)) ∧ V.Sep w M0 [srcP bk ca bs cc] w') :=
 Calls.mono (l01Next_c bk ca bs cc n w (src_in hs0 hc hok)) fun e w' ⟨v, he, x, hv, hx, hu, h⟩ => ⟨v, he, x, hv, hx, src_out hs0 hu h⟩
theorem src_pick (bk : Nat) (ca : Option Addr) (bs : List Int) (cc : Nat) (lb e len cap : Nat) (vs : List Value) (w : World) (M0 : Nat → Prop) (hs0 : V.Sep w M0 [srcP bk ca bs cc, blk lb e vs] w) (hc : Kn w M0 [] (CellsAt ca (bs.map (Value.int .u8)))) (hok : okBytes bs) (hv : vs = (vs.map toI).map (Value.int .i64)) (hl : len = vs.length) (hn : 0 < len) :
  Calls Tryd.prog 28 #[.pointer (some ⟨bk, 0, none⟩), .slice (some ⟨lb, 0, none⟩) len cap] w (Ret fun v w' => ∃ x : Int, v = .int .i64 x ∧ x ∈ vs.map toI ∧ V.Sep w M0 [srcP bk ca bs cc, blk lb e vs] w') :=
 Calls.mono (l01PickV_c bk ca bs cc _ len cap vs w (src_in hs0 hc hok) (Lst.of' hs0 1 0 rfl rfl (by decide) hv) hl hn) fun e w' ⟨v, he, x, hv, hx, hu, h⟩ => ⟨v, he, x, hv, hx, src_out hs0 hu h⟩
end Go.Proofs.YtjengglpbdgmnaaDoor
/- Contracts of what the laws do with lists. Their conditions stand in each. -/
namespace Go.Proofs.YtjengglpbdgmnaaDoor
open Go Go.RowKit V
set_option linter.unusedVariables false
set_option linter.unusedSimpArgs false
set_option maxRecDepth 100000
theorem impl_within_c (n : Int) (lo : Int) (hi : Int) (w : World) :
  Calls Tryd.prog 29 #[.int .i64 n, .int .i64 lo, .int .i64 hi] w (Ret fun v w' => v = .bool (decide (lo ≤ n ∧ n ≤ hi)) ∧ Ext w w') := by
 refine fn (M := none_) (rs := [.tmp 6]) Tryd.func29 rfl Tryd.ntmps29 rfl rfl (Sep.start _ _) ?_
 refine hSeq ?_
 refine hReg (sq 0 sz) (by kernel_rfl) ?_
 refine asB rfl rfl rfl ?_
 refine rNil ?_
 refine qSeq rfl ?_
 refine hSeq ?_
 refine hReg (sq 0 (sq 1 (sq 2 (sq 3 (sq 4 (sq 5 (sq 6 (sq 7 (sq 8 sz))))))))) (by kernel_rfl) ?_
 refine mvI rfl rfl rfl ?_
 refine mvI rfl rfl rfl ?_
 refine geq rfl rfl rfl rfl ?_
 refine mvB rfl rfl rfl ?_
 refine rBoolD (d := 10) rfl (fun g1 => ?_) (fun g1 => ?_)
 ·
  replace g1 : lo ≤ n := g1
  refine mvI rfl rfl rfl ?_
  refine mvI rfl rfl rfl ?_
  refine leq rfl rfl rfl rfl ?_
  refine pickB rfl rfl rfl rfl ?_
  refine asB rfl rfl rfl ?_
  refine rNil ?_
  refine qSeq rfl ?_
  refine hRet ?_
  exact fun w hs => ⟨[.bool (decide (n ≤ hi))], ⟨rfl, trivial⟩, ⟨by first | rfl | exact bD (by omega) | exact bT (by omega) | exact bF (by omega) | exact vI (by omega), hs.upd⟩⟩
 ·
  replace g1 : ¬ (lo ≤ n) := g1
  refine rSkipQ rfl rfl ?_
  refine rSkipQ rfl rfl ?_
  refine rSkipQ rfl rfl ?_
  refine pickB rfl rfl rfl rfl ?_
  refine asB rfl rfl rfl ?_
  refine rNil ?_
  refine qSeq rfl ?_
  refine hRet ?_
  exact fun w hs => ⟨[.bool false], ⟨rfl, trivial⟩, ⟨by first | rfl | exact bD (by omega) | exact bT (by omega) | exact bF (by omega) | exact vI (by omega), hs.upd⟩⟩
theorem spec_l01In_c (n : Int) (lo : Int) (hi : Int) (w : World) :
  Calls Tryd.prog 32 #[.int .i64 n, .int .i64 lo, .int .i64 hi] w (Ret fun v w' => v = .bool (decide (lo ≤ n ∧ n ≤ hi)) ∧ Ext w w') := by
 refine fn (M := none_) (rs := [.tmp 6]) Tryd.func32 rfl Tryd.ntmps32 rfl rfl (Sep.start _ _) ?_
 refine hSeq ?_
 refine hReg (sq 0 sz) (by kernel_rfl) ?_
 refine asB rfl rfl rfl ?_
 refine rNil ?_
 refine qSeq rfl ?_
 refine hSeq ?_
 refine hReg (sq 0 (sq 1 (sq 2 (sq 3 (sq 4 (sq 5 (sq 6 (sq 7 (sq 8 sz))))))))) (by kernel_rfl) ?_
 refine mvI rfl rfl rfl ?_
 refine mvI rfl rfl rfl ?_
 refine geq rfl rfl rfl rfl ?_
 refine mvB rfl rfl rfl ?_
 refine rBoolD (d := 10) rfl (fun g1 => ?_) (fun g1 => ?_)
 ·
  replace g1 : lo ≤ n := g1
  refine mvI rfl rfl rfl ?_
  refine mvI rfl rfl rfl ?_
  refine leq rfl rfl rfl rfl ?_
  refine pickB rfl rfl rfl rfl ?_
  refine asB rfl rfl rfl ?_
  refine rNil ?_
  refine qSeq rfl ?_
  refine hRet ?_
  exact fun w hs => ⟨[.bool (decide (n ≤ hi))], ⟨rfl, trivial⟩, ⟨by first | rfl | exact bD (by omega) | exact bT (by omega) | exact bF (by omega) | exact vI (by omega), hs.upd⟩⟩
 ·
  replace g1 : ¬ (lo ≤ n) := g1
  refine rSkipQ rfl rfl ?_
  refine rSkipQ rfl rfl ?_
  refine rSkipQ rfl rfl ?_
  refine pickB rfl rfl rfl rfl ?_
  refine asB rfl rfl rfl ?_
  refine rNil ?_
  refine qSeq rfl ?_
  refine hRet ?_
  exact fun w hs => ⟨[.bool false], ⟨rfl, trivial⟩, ⟨by first | rfl | exact bD (by omega) | exact bT (by omega) | exact bF (by omega) | exact vI (by omega), hs.upd⟩⟩
end Go.Proofs.YtjengglpbdgmnaaDoor
