/- The engine, part 9: slices of rows, each of which leads to a slice of numbers: read and owned. No condition. -/
import Derived.Test.YtjengglpbdgmnaaEng8Co
namespace Go.Proofs.Ytjengglpbdgmnaa.V
open Go Go.RowKit
set_option linter.unusedVariables false
set_option linter.unusedSimpArgs false
/-- A slice's address and capacity. -/
abbrev Hd := Option Addr × Nat
/-- How an element lies: its cells, the numbers that it leads to, how many cells. -/
structure RK (α : Type) where
  cells : α → Hd → List Value
  kid : α → List Int
  m : Nat
structure RK.Ok {α : Type} (k : RK α) : Prop where
  len : ∀ x h, (k.cells x h).length = k.m
  one : ∀ x h, ∀ v ∈ k.cells x h, v.oneCell' = true
  pos : 0 < k.m
/-- A node of a tree. -/
structure Nd where
  pl : Int
  p0 : Int
  p1 : Int
  fo : Int
  ch : List Int
def dN : Nd := ⟨0, 0, 0, 0, []⟩
def ndC (x : Nd) (h : Hd) : List Value := [.int .i64 x.pl, .int .i64 x.p0, .int .i64 x.p1, .int .i64 x.fo, .slice h.1 x.ch.length h.2]
def ndK : RK Nd := ⟨ndC, Nd.ch, 5⟩
def maK : RK (List Int) := ⟨fun zs h => [.slice h.1 zs.length h.2], fun zs => zs, 1⟩
theorem ndK.ok : ndK.Ok := ⟨fun _ _ => rfl, fun x h v hv => by simp [ndK, ndC] at hv; rcases hv with rfl | rfl | rfl | rfl | rfl <;> rfl, by decide⟩
theorem maK.ok : maK.Ok := ⟨fun _ _ => rfl, fun x h v hv => by simp [maK] at hv; subst hv; rfl, by decide⟩
def hset (hs : Nat → Hd) (i : Nat) (h : Hd) : Nat → Hd := fun j => if j = i then h else hs j
theorem hset_same (hs : Nat → Hd) (i : Nat) (h : Hd) : hset hs i h i = h := by simp [hset]
theorem hset_other (hs : Nat → Hd) {i j : Nat} (h : Hd) (hne : j ≠ i) : hset hs i h j = hs j := by simp [hset, hne]
/-- The cells of all rows. -/
def rowsV {α : Type} (k : RK α) (hs : Nat → Hd) (xs : List α) : List (List Value) := xs.mapIdx fun i x => k.cells x (hs i)
theorem nth {α : Type} {xs : List α} {k : Nat} (d : α) (h : k < xs.length) : xs[k]? = some (xs.getD k d) := by simp [List.getD, List.getElem?_eq_getElem h]
section
variable {α : Type} {k : RK α} {hs : Nat → Hd} {xs : List α} {x : α} {i : Nat}
theorem rowsV_len : (rowsV k hs xs).length = xs.length := by simp [rowsV]
theorem rowsV_get (h : xs[i]? = some x) : (rowsV k hs xs)[i]? = some (k.cells x (hs i)) := by simp [rowsV, h]
theorem rowsV_all (hk : k.Ok) : ∀ cs ∈ rowsV k hs xs, cs.length = k.m := by
  intro cs hcs
  obtain ⟨i, hi⟩ := List.mem_iff_getElem?.1 hcs
  simp only [rowsV, List.getElem?_mapIdx] at hi
  cases hx : xs[i]? with
  | none => rw [hx] at hi; simp at hi
  | some y => rw [hx] at hi; simp at hi; subst hi; exact hk.len _ _
theorem rowsV_set (h : i < xs.length) (hd : Hd) : rowsV k (hset hs i hd) (xs.set i x) = (rowsV k hs xs).set i (k.cells x hd) := by
  apply List.ext_getElem?
  intro j
  simp only [rowsV, List.getElem?_mapIdx, List.getElem?_set, List.length_mapIdx]
  by_cases hj : i = j
  · subst hj; simp [h, hset_same]
  · simp only [if_neg hj]
    cases hx : xs[j]? with
    | none => rfl
    | some y => simp [hset_other hs hd (Ne.symm hj)]
theorem rowsV_same (h : i < xs.length) : rowsV k hs (xs.set i x) = (rowsV k hs xs).set i (k.cells x (hs i)) := by
  have : hset hs i (hs i) = hs := by funext j; unfold hset; split <;> simp_all
  have h2 := rowsV_set (k := k) (hs := hs) (x := x) h (hs i)
  rwa [this] at h2
theorem rowsV_app (hd : Hd) : rowsV k (hset hs xs.length hd) (xs ++ [x]) = rowsV k hs xs ++ [k.cells x hd] := by
  simp only [rowsV, List.mapIdx_append, List.mapIdx_cons, List.mapIdx_nil, Nat.zero_add, hset_same]
  congr 1
  apply List.ext_getElem?
  intro j
  simp only [List.getElem?_mapIdx]
  cases hx : xs[j]? with
  | none => rfl
  | some y =>
    have := (List.getElem?_eq_some_iff.1 hx).1
    simp [hset_other hs hd (show j ≠ xs.length by omega)]
theorem flat_set {css : List (List Value)} {m i : Nat} {cs : List Value} (hm : ∀ cs ∈ css, cs.length = m) (hc : cs.length = m) (hi : i < css.length) : (css.set i cs).flatten = css.flatten.take (i * m) ++ cs ++ css.flatten.drop (i * m + m) := by
  induction css generalizing i with
  | nil => simp at hi
  | cons y css ih =>
    have hy := hm y List.mem_cons_self
    cases i with
    | zero => simp [List.drop_append, hy]
    | succ i =>
      have := ih (i := i) (fun c hc => hm c (List.mem_cons_of_mem _ hc)) (by simpa using hi)
      have e1 : (y ++ css.flatten).take (i * m + m) = y ++ css.flatten.take (i * m) := by
        rw [List.take_append, List.take_of_length_le (by omega), show i * m + m - y.length = i * m from by omega]
      have e2 : (y ++ css.flatten).drop (i * m + m + m) = css.flatten.drop (i * m + m) := by
        rw [List.drop_append, List.drop_of_length_le (by omega), show i * m + m + m - y.length = i * m + m from by omega, List.nil_append]
      simp only [List.set_cons_succ, List.flatten_cons, this, Nat.succ_mul, e1, e2]
      simp [List.append_assoc]
theorem flat_len {css : List (List Value)} {m : Nat} (hm : ∀ cs ∈ css, cs.length = m) : css.flatten.length = css.length * m := by
  induction css with
  | nil => simp
  | cons y css ih =>
    rw [List.flatten_cons, List.length_append, hm y List.mem_cons_self, ih fun c hc => hm c (List.mem_cons_of_mem _ hc), List.length_cons, Nat.succ_mul, Nat.add_comm]
end
/-- Rows, read. -/
def RdR {α : Type} (k : RK α) (a : Option Addr) (n : Nat) (hs : Nat → Hd) (xs : List α) : World → Prop := fun w =>
  xs.length = n ∧ n ≤ 9223372036854775807 ∧ ∀ i x, xs[i]? = some x → (∃ b off, a = some ⟨b, off, none⟩ ∧ ∀ j v, (k.cells x (hs i))[j]? = some v → w.cell? ⟨b, off + i * k.m + j, none⟩ = some v) ∧ RdI (hs i).1 (k.kid x).length (k.kid x) w
theorem RdR.ext {α : Type} {k : RK α} {a : Option Addr} {n : Nat} {hs : Nat → Hd} {xs : List α} {w w' : World} (h : RdR k a n hs xs w) (he : Ext w w') : RdR k a n hs xs w' :=
  ⟨h.1, h.2.1, fun i x hx => by
    obtain ⟨⟨b, off, ha, hc⟩, hk⟩ := h.2.2 i x hx
    exact ⟨⟨b, off, ha, fun j v hj => he.cell (hc j v hj)⟩, hk.ext he⟩⟩
theorem RdR.kid {α : Type} {k : RK α} {a : Option Addr} {n : Nat} {hs : Nat → Hd} {xs : List α} {w : World} {i : Nat} {x : α} (h : RdR k a n hs xs w) (hx : xs[i]? = some x) : RdI (hs i).1 (k.kid x).length (k.kid x) w := (h.2.2 i x hx).2
theorem RdR.kidN {a : Option Addr} {n : Nat} {hs : Nat → Hd} {xs : List Nd} {w : World} {i : Nat} {x : Nd} (h : RdR ndK a n hs xs w) (hx : xs[i]? = some x) : RdI (hs i).1 x.ch.length x.ch w := (h.2.2 i x hx).2
theorem RdR.kidM {a : Option Addr} {n : Nat} {hs : Nat → Hd} {xs : List (List Int)} {w : World} {i : Nat} {x : List Int} (h : RdR maK a n hs xs w) (hx : xs[i]? = some x) : RdI (hs i).1 x.length x w := (h.2.2 i x hx).2
/-- Rows, owned. -/
def OwnR {α : Type} (k : RK α) (e e1 : Nat) (a : Option Addr) (n c : Nat) (hs : Nat → Hd) (xs : List α) : World → Prop := fun w =>
  xs.length = n ∧ Own e k.m a n c (rowsV k hs xs).flatten w ∧ (∀ i x, xs[i]? = some x → OwnI e1 (hs i).1 (k.kid x).length (hs i).2 (k.kid x) w) ∧
  (∀ i j b, i < n → j < n → fpO (hs i).1 b → fpO (hs j).1 b → i = j) ∧ (∀ i b, i < n → fpO (hs i).1 b → ¬ fpO a b)
def fpR (a : Option Addr) (hs : Nat → Hd) (n : Nat) : Nat → Prop := fun b => fpO a b ∨ ∃ i, i < n ∧ fpO (hs i).1 b
section
variable {α : Type} {k : RK α} {e e1 : Nat} {a : Option Addr} {n c : Nat} {hs : Nat → Hd} {xs : List α} {w w' : World} {f : Nat → Prop}
theorem OwnR.St (h : OwnR k e e1 a n c hs xs w) (hf : ∀ b, fpR a hs n b → f b) : V.St f (OwnR k e e1 a n c hs xs) w := by
  intro w' ha
  obtain ⟨h0, h1, h2, h3, h4⟩ := h
  refine ⟨h0, (h1.St fun b hb => hf b (.inl hb)) w' ha, fun i x hx => ?_, h3, h4⟩
  have hi : i < n := by rw [← h0]; exact (List.getElem?_eq_some_iff.1 hx).1
  exact (Own.St (h2 i x hx) fun b hb => hf b (.inr ⟨i, hi, hb⟩)) w' ha
theorem OwnR.mem (h : V.St f (OwnR k e e1 a n c hs xs) w) : ∀ b, fpR a hs n b → f b := by
  intro b hb
  rcases hb with hb | ⟨i, hi, hb⟩
  · exact Own.mem (h.imp fun w h => h.2.1) b hb
  · have h0 := h.out.1
    have hx : xs[i]? = some (xs[i]'(by omega)) := List.getElem?_eq_getElem (by omega)
    exact Own.mem (show V.St f (OwnI e1 (hs i).1 (k.kid _).length (hs i).2 (k.kid _)) w from h.imp fun w h => h.2.2.1 i _ hx) b hb
theorem OwnR.cell (h : OwnR k e e1 a n c hs xs w) (hk : k.Ok) {i j : Nat} {x : α} {v : Value} (hx : xs[i]? = some x) (hj : (k.cells x (hs i))[j]? = some v) : ∃ b, a = some ⟨b, 0, none⟩ ∧ w.cell? ⟨b, i * k.m + j, none⟩ = some v :=
  h.2.1.cell (flat_get (rowsV_all hk) (rowsV_get hx) hj)
theorem OwnR.rd (h : OwnR k e e1 a n c hs xs w) (hk : k.Ok) : RdR k a n hs xs w := by
  refine ⟨h.1, h.2.1.max, fun i x hx => ⟨?_, (h.2.2.1 i x hx).rd⟩⟩
  have hpos := hk.pos
  have hlen := hk.len x (hs i)
  obtain ⟨b, hb, _⟩ := h.cell hk hx (j := 0) (v := (k.cells x (hs i))[0]'(by omega)) (List.getElem?_eq_getElem (by omega))
  refine ⟨b, 0, hb, fun j v hj => ?_⟩
  obtain ⟨b', hb', hc⟩ := h.cell hk hx hj
  rw [hb] at hb'; cases hb'
  rw [Nat.zero_add]; exact hc
theorem OwnR.lenx (h : OwnR k e e1 a n c hs xs w) : xs.length = n := h.1
theorem OwnR.nil (k : RK α) (e e1 : Nat) (hs : Nat → Hd) (w : World) : OwnR k e e1 none 0 0 hs [] w := ⟨rfl, Own.nil e k.m w, fun _ _ h => by simp at h, fun _ _ _ h => by omega, fun _ _ h => by omega⟩
/-- Rows whose kids are nil. -/
theorem OwnR.ofZero (hk : k.Ok) {z : α} {zc : List Value} (hz : k.cells z (none, 0) = zc) (hkid : k.kid z = []) {b N : Nat} (h : Own e k.m (some ⟨b, 0, none⟩) N N (List.replicate N zc).flatten w) :
    OwnR k e e1 (some ⟨b, 0, none⟩) N N (fun _ => (none, 0)) (List.replicate N z) w := by
  refine ⟨by simp, ?_, fun i x hx => ?_, (fun i j b hi hj hb => by cases hb), (fun i b hi hb => by cases hb)⟩
  · have : rowsV k (fun _ => (none, 0)) (List.replicate N z) = List.replicate N zc := by
      subst hz
      apply List.ext_getElem?
      intro j
      simp only [rowsV, List.getElem?_mapIdx, List.getElem?_replicate]
      by_cases hj : j < N <;> simp [hj]
    rw [this]; exact h
  · have : x = z := (List.mem_replicate.1 (List.mem_of_getElem? hx)).2
    subst this
    rw [hkid]; exact OwnI.nil e1 w
theorem Own.setN {m k : Nat} {cs news : List Value} {b : Nat} (h : Own e m (some ⟨b, 0, none⟩) n c cs w) (hk : k + news.length ≤ cs.length) :
    ∃ cur : Array Value, w.heap[b]? = some (.cells cur e (0, 0)) ∧ k + news.length ≤ cur.size ∧ Own e m (some ⟨b, 0, none⟩) n c (cs.take k ++ news ++ cs.drop (k + news.length)) (w.setRow b (cur.toList.take k ++ news ++ cur.toList.drop (k + news.length)).toArray) := by
  obtain ⟨hl, h1⟩ := h
  rcases h1 with ⟨h1, _⟩ | ⟨g, cap, cur, hv, hb, hg, hnc, hcm, hcs, ht⟩
  · cases h1
  · cases hv
    have hle : n * m ≤ c * m := Nat.mul_le_mul_right m hnc
    have hsz : cur.toList.length = c * m := by simp [hcs]
    refine ⟨cur, hg, by omega, by simp; omega, .inr ⟨b, c, _, rfl, Nat.zero_le _, setRow_heap w b cur _ e _ hg, hnc, hcm, ?_, ?_⟩⟩
    · simp; omega
    · show List.take (n * m) (cur.toList.take k ++ news ++ cur.toList.drop (k + news.length)) = _
      rw [← ht, List.take_append, List.take_append, List.length_append, List.length_take, List.take_take, List.take_take, List.drop_take]
      rw [show min k cur.toList.length = k from by omega, show min (n * m) k = k from by omega, show min k (n * m) = k from by omega, List.take_of_length_le (l := news) (by omega), show n * m - (k + news.length) = n * m - (k + news.length) from rfl]
/-- A row is replaced, with what it leads to. -/
theorem OwnR.setRow_ (hk : k.Ok) {b i : Nat} {x : α} {hd : Hd} {f g : Nat → Prop} (h : OwnR k e e1 (some ⟨b, 0, none⟩) n c hs xs w) (hkid : OwnI e1 hd.1 (k.kid x).length hd.2 (k.kid x) w) (hi : i < n)
    (hf : ∀ q, fpR (some ⟨b, 0, none⟩) hs n q → f q) (hg : ∀ q, fpO hd.1 q → g q) (hfg : ∀ q, f q → ¬ g q) :
    ∃ cur : Array Value, w.heap[b]? = some (.cells cur e (0, 0)) ∧ i * k.m + (k.cells x hd).length ≤ cur.size ∧ OwnR k e e1 (some ⟨b, 0, none⟩) n c (hset hs i hd) (xs.set i x) (w.setRow b (cur.toList.take (i * k.m) ++ k.cells x hd ++ cur.toList.drop (i * k.m + (k.cells x hd).length)).toArray) := by
  obtain ⟨h0, h1, h2, h3, h4⟩ := h
  have hfl : (rowsV k hs xs).flatten.length = n * k.m := h1.len
  have hle := Nat.mul_le_mul_right k.m (show i + 1 ≤ n from hi)
  rw [Nat.succ_mul] at hle
  obtain ⟨cur, hc, hsz, hown⟩ := h1.setN (k := i * k.m) (news := k.cells x hd) (by rw [hfl, hk.len]; exact hle)
  refine ⟨cur, hc, hsz, by simpa using h0, ?_, fun j y hy => ?_, fun j j' q hj hj' hq hq' => ?_, fun j q hj hq => ?_⟩
  · rw [rowsV_set (by omega), flat_set (rowsV_all hk) (hk.len _ _) (by rw [rowsV_len]; omega)]
    rw [hk.len] at hown ⊢
    exact hown
  · have keep : ∀ {hd' : Hd} {zs : List Int} {nn : Nat}, OwnI e1 hd'.1 nn hd'.2 zs w → (∀ q, fpO hd'.1 q → ¬ q = b) → OwnI e1 hd'.1 nn hd'.2 zs (w.setRow b (cur.toList.take (i * k.m) ++ k.cells x hd ++ cur.toList.drop (i * k.m + (k.cells x hd).length)).toArray) := fun ho hq =>
      (Own.St (f := fpO _) ho fun _ h => h) _ fun q hq' => setRow_other w b q _ (hq q hq')
    by_cases hji : j = i
    · subst hji
      rw [List.getElem?_set_self (by omega)] at hy
      cases hy
      rw [hset_same]
      exact keep hkid fun q hq hqb => hfg q (hf q (.inl (by rw [hqb]; rfl))) (hg q hq)
    · rw [List.getElem?_set_ne (Ne.symm hji)] at hy
      rw [hset_other hs hd hji]
      have hjn : j < n := by rw [← h0]; exact (List.getElem?_eq_some_iff.1 hy).1
      exact keep (h2 j y hy) fun q hq hqb => h4 j q hjn hq (by rw [hqb]; rfl)
  · by_cases h5 : j = i <;> by_cases h6 : j' = i
    · omega
    · subst h5; rw [hset_same] at hq; rw [hset_other hs hd h6] at hq'
      exact absurd (hg q hq) (hfg q (hf q (.inr ⟨j', hj', hq'⟩)))
    · subst h6; rw [hset_same] at hq'; rw [hset_other hs hd h5] at hq
      exact absurd (hg q hq') (hfg q (hf q (.inr ⟨j, hj, hq⟩)))
    · rw [hset_other hs hd h5] at hq; rw [hset_other hs hd h6] at hq'; exact h3 j j' q hj hj' hq hq'
  · by_cases h5 : j = i
    · subst h5; rw [hset_same] at hq; intro hqa; exact hfg q (hf q (.inl hqa)) (hg q hq)
    · rw [hset_other hs hd h5] at hq; exact h4 j q hj hq
end
section
variable {P : Program} {n : Nat} {w0 : World} {M : Nat → Prop} {L L' : List (World → Prop)} {σ : Fr} {K K' : Ko} {c x y : Code} {ops : Array Oper} {S : World → Prop} {r : Sch} {i : Nat}
variable {d : Nat} {t : TypeId} {p : String} {af : Array Edge} {g : Option (Nat × Bool)} {a b : Operand}
variable {α : Type} {k : RK α} {ty e e1 by_ N C : Nat} {ao : Option Addr} {hs : Nat → Hd} {xs : List α} {zc : List Value}
/-- The address of a row, read. -/
theorem ixRq {len cap : Nat} {kk : IntKind} {z : Int} {q : Option Addr} (x : α) (hE : Elt P ty k.m) (hC : ∀ w, S w → RdR k q len hs xs w) (hS : ∀ w, Sep w0 M L w → S w) (ho : ops[i]? = some ⟨some d, .indexAddr ty a b, t, p, af, g⟩) (hg : go ops σ g) (ha : ev σ a = .slice q len cap) (hb : ev σ b = .int kk z) (h0 : 0 ≤ z) (h1 : z < len) {zn : Nat} (hzn : z.toNat = zn) (hx : xs[zn]? = some x)
    (h : ∀ bk off, (∀ w, S w → ∀ j v, (k.cells x (hs zn))[j]? = some v → w.cell? ⟨bk, off + j, none⟩ = some v) → RG P n w0 M ops S L r (upd σ d (.pointer (some ⟨bk, off, none⟩))) K) : RG P n w0 M ops S L (.op .q i r) σ K := by
  subst hzn
  refine rQw (v := fun _ => undef) ho hg (fun u => ∃ bk off, u = .pointer (some ⟨bk, off, none⟩) ∧ ∀ w, S w → ∀ j v, (k.cells x (hs z.toNat))[j]? = some v → w.cell? ⟨bk, off + j, none⟩ = some v) (fun w hw => ?_) ?_
  · obtain ⟨⟨bk, off, hq, hc⟩, _⟩ := (hC w (hS w hw)).2.2 _ x hx
    refine ⟨_, ⟨bk, off + z.toNat * k.m, rfl, fun w' hS' => ?_⟩, fun w' hS' => ?_⟩
    · obtain ⟨⟨bk', off', hq', hc'⟩, _⟩ := (hC w' hS').2.2 _ x hx
      rw [hq] at hq'; cases hq'; exact hc'
    · subst hq
      simp [execOp, ha, hb, run_indexAt (k := kk) (bk := bk) (off := off) (cap := cap) hE h0 h1 w']
  · rintro v ⟨bk, off, rfl, hc⟩; exact h bk off hc
theorem ixRl {len cap : Nat} {kk : IntKind} {z : Int} {q : Option Addr} (x : α) (hE : Elt P ty k.m) (hC : Kn w0 M L (RdR k q len hs xs)) (ho : ops[i]? = some ⟨some d, .indexAddr ty a b, t, p, af, g⟩) (hg : go ops σ g) (ha : ev σ a = .slice q len cap) (hb : ev σ b = .int kk z) (h0 : 0 ≤ z) (h1 : z < len) {zn : Nat} (hzn : z.toNat = zn) (hx : xs[zn]? = some x)
    (h : ∀ bk off, (Kn w0 M L fun w => ∀ j v, (k.cells x (hs zn))[j]? = some v → w.cell? ⟨bk, off + j, none⟩ = some v) → RG P n w0 M ops S L r (upd σ d (.pointer (some ⟨bk, off, none⟩))) K) : RG P n w0 M ops S L (.op .q i r) σ K := by
  subst hzn
  refine rQw (v := fun _ => undef) ho hg (fun u => ∃ bk off, u = .pointer (some ⟨bk, off, none⟩) ∧ Kn w0 M L fun w => ∀ j v, (k.cells x (hs z.toNat))[j]? = some v → w.cell? ⟨bk, off + j, none⟩ = some v) (fun w hw => ?_) ?_
  · obtain ⟨⟨bk, off, hq, hc⟩, _⟩ := (hC w hw).2.2 _ x hx
    refine ⟨_, ⟨bk, off + z.toNat * k.m, rfl, fun w' hS' => ?_⟩, fun w' hS' => ?_⟩
    · obtain ⟨⟨bk', off', hq', hc'⟩, _⟩ := (hC w' hS').2.2 _ x hx
      rw [hq] at hq'; cases hq'; exact hc'
    · subst hq
      simp [execOp, ha, hb, run_indexAt (k := kk) (bk := bk) (off := off) (cap := cap) hE h0 h1 w']
  · rintro v ⟨bk, off, rfl, hc⟩; exact h bk off hc
/-- The address of a row of an owned slice. -/
theorem oxR {cap : Nat} {kk : IntKind} {z : Int} (j : Nat) (hj : L[j]? = some (OwnR k e e1 ao N C hs xs)) (hE : Elt P ty k.m) (ho : ops[i]? = some ⟨some d, .indexAddr ty a b, t, p, af, g⟩) (hg : go ops σ g) (ha : ev σ a = .slice ao N cap) (hb : ev σ b = .int kk z) (h0 : 0 ≤ z) (h1 : z < N) {zn : Nat} (hzn : z.toNat = zn)
    (h : ∀ gk, ao = some ⟨gk, 0, none⟩ → RG P n w0 M ops S L r (upd σ d (.pointer (some ⟨gk, zn * k.m, none⟩))) K) : RG P n w0 M ops S L (.op .q i r) σ K := fun w hs => by
  subst hzn
  obtain ⟨gk, hgk⟩ := (show OwnR k e e1 ao N C _ xs w from hs.at_ j hj).2.1.some_ (by omega)
  exact rQ ho hg (fun w _ => by rw [hgk] at ha; simp [execOp, ha, hb, run_indexAt (k := kk) (bk := gk) (off := 0) (cap := cap) hE h0 h1 w]) (h gk hgk) w hs
/-- 'make' of rows. -/
theorem mksR {kk : IntKind} {z : Int} (N : Nat) (x : α) (hk : k.Ok) (hx : k.cells x (none, 0) = zc) (hkid : k.kid x = []) (hM : Mk P ty e k.m by_ zc) (hS : ∀ bk w, Sep w0 M (OwnR k e e1 (some ⟨bk, 0, none⟩) N N (fun _ => (none, 0)) (List.replicate N x) :: L) w → S w) (ho : ops[i]? = some ⟨some d, .makeSlice ty a b, t, p, af, g⟩) (hg : go ops σ g) (ha : ev σ a = .int kk z) (hb : ev σ b = .int kk z) (hz : z = (N : Int)) (hN : by_ * N ≤ 140737488355328)
    (h : ∀ bk, w0.heap.size ≤ bk → RG P n w0 M ops S (OwnR k e e1 (some ⟨bk, 0, none⟩) N N (fun _ => (none, 0)) (List.replicate N x) :: L) r (upd σ d (.slice (some ⟨bk, 0, none⟩) N N)) K) : RG P n w0 M ops S L (.op .l i r) σ K := by
  have conv : ∀ {bk : Nat} {w : World}, Sep w0 M (Own e k.m (some ⟨bk, 0, none⟩) N N (List.replicate N zc).flatten :: L) w → Sep w0 M (OwnR k e e1 (some ⟨bk, 0, none⟩) N N (fun _ => (none, 0)) (List.replicate N x) :: L) w := fun hs =>
    hs.imp 0 rfl fun w ho => OwnR.ofZero hk hx hkid ho
  exact mks N hM (fun bk w hw => hS bk w (conv hw)) ho hg ha hb hz hN fun bk hbk w hw => h bk hbk w (conv hw)
/-- A whole row is stored, with what it leads to: pieces j (the rows) and q of the rest (the kid) become one. -/
theorem stR_opw {gk off nn : Nat} {hd : Hd} {x : α} {R : List (World → Prop)} {ro : Nat} {w : World} (j q : Nat) (hk : k.Ok) (hj : L[j]? = some (OwnR k e e1 ao N C hs xs)) (hq : (L.eraseIdx j)[q]? = some (OwnI e1 hd.1 nn hd.2 (k.kid x))) (hao : ao = some ⟨gk, 0, none⟩) (hz : Size P ty k.m) (hsep : Sep w0 M L w) (ha : ev σ a = .pointer (some ⟨gk, off, none⟩)) (hoff : off = ro * k.m) {v : Value} (hb : ev σ b = v) (hv : nn = (k.kid x).length → v.cells = (k.cells x hd).toArray) (hlt : ro < N) :
    opw P ⟨none, .store ty a b, t, p, af, g⟩ σ w fun σ' w' => Sep w0 M (OwnR k e e1 ao N C (hset hs ro hd) (xs.set ro x) :: (L.eraseIdx j).eraseIdx q) w' ∧ σ' = σ := by
  subst hao
  subst hoff
  have hrow := hsep.at_ j hj
  have hnn : OwnI e1 hd.1 nn hd.2 (k.kid x) w := ((hsep.perm (pull hj)).tail).at_ q hq
  have hnn := hnn.lenz
  subst hnn
  have hv := hv rfl
  have hp := (hsep.perm (pull hj)).perm ((pull hq).cons _)
  -- the run, whatever the frame
  have core : ∀ f g', St f (OwnR k e e1 (some ⟨gk, 0, none⟩) N C hs xs) w → St g' (OwnI e1 hd.1 (k.kid x).length hd.2 (k.kid x)) w → (∀ q, f q → ¬ g' q) →
      ∃ cur : Array Value, w.heap[gk]? = some (.cells cur e (0, 0)) ∧ ro * k.m + (k.cells x hd).length ≤ cur.size ∧ OwnR k e e1 (some ⟨gk, 0, none⟩) N C (hset hs ro hd) (xs.set ro x) (w.setRow gk (cur.toList.take (ro * k.m) ++ k.cells x hd ++ cur.toList.drop (ro * k.m + (k.cells x hd).length)).toArray) := fun f g' hf hg' hfg =>
    OwnR.setRow_ hk hf.out hg'.out hlt (OwnR.mem hf) (fun q hq => Own.mem hg' q hq) hfg
  obtain ⟨_, fs, h2⟩ := id hp
  match fs, h2 with
  | f :: g' :: fs, ⟨k1, k2, k3, k4, k5, k6, k7⟩ =>
    obtain ⟨cur, hc, hsz, _⟩ := core f g' k3 k6 fun q hq hq' => k2 g' List.mem_cons_self q hq hq'
    have hst := run_storeCells_at P gk (ro * k.m) e (k.cells x hd) 0 cur w hc (by simpa using hsz) (hk.one x hd)
    have hr : (Instr.storeAt ty (.pointer (some ⟨gk, ro * k.m, none⟩)) v).run P w = .ok () (w.setRow gk (cur.toList.take (ro * k.m) ++ k.cells x hd ++ cur.toList.drop (ro * k.m + (k.cells x hd).length)).toArray) := by
      simp only [Instr.storeAt, Instr.sureAddr, storeVar, hz w, hv, Sem.run_bind, Sem.run_pure, Result.andThen_ok]
      simpa [hk.len] using hst
    unfold opw
    simp only [execOp, ha, hb, Sem.run_bind, hr, Result.andThen_ok, Sem.run_pure]
    refine ⟨hp.fuse fun f g' hf hg' hfg => ?_, rfl⟩
    obtain ⟨cur', hc', _, ho'⟩ := core f g' hf hg' hfg
    rw [hc] at hc'; cases hc'
    refine ⟨fun q => f q ∨ g' q, fun q hq => hq.elim .inl (.inr ∘ .inl), ho'.St fun q hq => ?_, ⟨rfl, rfl, rfl, by simp, fun q _ hn => setRow_other w gk q _ fun e => hn (e ▸ .inl (OwnR.mem hf gk (.inl rfl)))⟩⟩
    rcases hq with hq | ⟨i', hi', hq⟩
    · exact .inl (OwnR.mem hf q (.inl hq))
    · by_cases h5 : i' = ro
      · subst h5; rw [hset_same] at hq; exact .inr (Own.mem hg' q hq)
      · rw [hset_other hs hd h5] at hq; exact .inl (OwnR.mem hf q (.inr ⟨i', hi', hq⟩))
  | [_], ⟨_, _, _, h⟩ => exact h.elim
  | [], h => exact h.elim
theorem stR {gk off nn : Nat} {hd : Hd} {x : α} (ro j q : Nat) (hk : k.Ok) (hj : L[j]? = some (OwnR k e e1 ao N C hs xs)) (hq : (L.eraseIdx j)[q]? = some (OwnI e1 hd.1 nn hd.2 (k.kid x))) (hao : ao = some ⟨gk, 0, none⟩) (hz : Size P ty k.m) (hS : ∀ w, Sep w0 M (OwnR k e e1 ao N C (hset hs ro hd) (xs.set ro x) :: (L.eraseIdx j).eraseIdx q) w → S w) (ho : ops[i]? = some ⟨none, .store ty a b, t, p, af, g⟩) (hg : go ops σ g) (ha : ev σ a = .pointer (some ⟨gk, off, none⟩)) (hoff : off = ro * k.m) {v : Value} (hb : ev σ b = v) (hv : nn = (k.kid x).length → v.cells = (k.cells x hd).toArray) (hlt : ro < N)
    (h : RG P n w0 M ops S (OwnR k e e1 ao N C (hset hs ro hd) (xs.set ro x) :: (L.eraseIdx j).eraseIdx q) r σ K) : RG P n w0 M ops S L (.op .l i r) σ K :=
  rL1 (v := undef) hS ho hg (fun _ hs => stR_opw (R := []) j q hk hj hq hao hz hs ha hoff hb hv hlt) h
end
end Go.Proofs.Ytjengglpbdgmnaa.V
