/- The engine, part 7: slices that the call owns: made, read, stored into, appended to. No condition. -/
import Derived.Test.YtjengglpbdgmnaaEng6Co
import Derived.Laws.OwnMore
import Derived.ArgAppend
namespace Go.Proofs.Ytjengglpbdgmnaa.V
open Go Go.RowKit
set_option linter.unusedVariables false
set_option linter.unusedSimpArgs false
/-- A slice that is owned: 'n' elements of 'm' cells, 'xs' all their cells. -/
def Own (e m : Nat) (a : Option Addr) (n c : Nat) (xs : List Value) : World → Prop := fun w => w.ownsRow 0 e m (.slice a n c) n xs
/-- The blocks of an owned slice. -/
def fpO (a : Option Addr) : Nat → Prop := fun b => a = some ⟨b, 0, none⟩
section
variable {e m n c : Nat} {a : Option Addr} {xs : List Value} {w : World} {f : Nat → Prop}
theorem Own.St (h : Own e m a n c xs w) (hf : ∀ b, fpO a b → f b) : V.St f (Own e m a n c xs) w := by
  intro w' ha
  obtain ⟨h1, h2⟩ := h
  refine ⟨h1, ?_⟩
  rcases h2 with h2 | ⟨g, cap, cur, hv, hb, hg, r⟩
  · exact .inl h2
  · have hag : a = some ⟨g, 0, none⟩ := by cases hv; rfl
    exact .inr ⟨g, cap, cur, hv, hb, by rw [ha g (hf g hag)]; exact hg, r⟩
theorem Own.mem (h : V.St f (Own e m a n c xs) w) : ∀ b, fpO a b → f b := by
  intro b hb
  unfold fpO at hb
  subst hb
  refine Classical.byContradiction fun hn => ?_
  obtain ⟨_, h1⟩ := h.out
  rcases h1 with ⟨h1, _⟩ | ⟨g, cap, cur, hv, _, hg, _⟩
  · cases h1
  · cases hv
    have hlt : b < w.heap.size := (Array.getElem?_eq_some_iff.1 hg).1
    obtain ⟨_, h2⟩ := h { w with heap := w.heap.setIfInBounds b (.map #[] 0) } fun k hk => by
      have : b ≠ k := fun e => hn (e ▸ hk)
      show (w.heap.setIfInBounds b (.map #[] 0))[k]? = _
      rw [Array.getElem?_setIfInBounds_ne this]
    rcases h2 with ⟨h2, _⟩ | ⟨g', cap', cur', hv', _, hg', _⟩
    · cases h2
    · cases hv'
      simp [hlt] at hg'
theorem Own.len (h : Own e m a n c xs w) : xs.length = n * m := h.1
theorem Own.max (h : Own e m a n c xs w) : n ≤ 9223372036854775807 := by
  rcases h.2 with ⟨_, h0⟩ | ⟨g, cap, cur, hv, _, _, hnc, hcm, _⟩
  · omega
  · simp only [maxLen] at hcm; omega
theorem Own.some_ (h : Own e m a n c xs w) (hn : 0 < n) : ∃ b, a = some ⟨b, 0, none⟩ := by
  rcases h.2 with ⟨_, h0⟩ | ⟨g, cap, cur, hv, _⟩
  · omega
  · exact ⟨g, by cases hv; rfl⟩
theorem Own.lt (h : Own e m a n c xs w) : ∀ b, fpO a b → b < w.heap.size := by
  intro b hb
  unfold fpO at hb
  subst hb
  rcases h.2 with ⟨h1, _⟩ | ⟨g, cap, cur, hv, _, hg, _⟩
  · cases h1
  · cases hv; exact (Array.getElem?_eq_some_iff.1 hg).1
theorem Own.cell (h : Own e m a n c xs w) {k : Nat} {v : Value} (hk : xs[k]? = some v) : ∃ b, a = some ⟨b, 0, none⟩ ∧ w.cell? ⟨b, k, none⟩ = some v := by
  have hn : 0 < n := by
    have h1 := (List.getElem?_eq_some_iff.1 hk).1
    have h2 := h.1
    rcases Nat.eq_zero_or_pos n with h0 | h0
    · subst h0; simp at h2; simp [h2] at h1
    · exact h0
  obtain ⟨b, hb⟩ := h.some_ hn
  subst hb
  refine ⟨b, rfl, ?_⟩
  have h3 : w.ownsRow 0 e m (.slice (some ⟨b, 0, none⟩) n c) n xs := h
  have := h3.cells (g := b) rfl k v hk
  rwa [add_addr, Nat.zero_add] at this
theorem Own.cellsAt (h : Own e 1 a n c xs w) : CellsAt a xs w := fun i v hi => by
  obtain ⟨b, hb, hc⟩ := h.cell hi
  exact ⟨b, 0, hb, by rw [Nat.zero_add]; exact hc⟩
theorem flat_get {css : List (List Value)} {m : Nat} (hm : ∀ cs ∈ css, cs.length = m) {i j : Nat} {cs : List Value} {v : Value} (hi : css[i]? = some cs) (hj : cs[j]? = some v) : css.flatten[i * m + j]? = some v := by
  induction css generalizing i with
  | nil => simp at hi
  | cons x css ih =>
    have hx := hm x List.mem_cons_self
    rw [List.flatten_cons]
    cases i with
    | zero =>
      simp at hi; subst hi
      rw [Nat.zero_mul, Nat.zero_add, List.getElem?_append_left (List.getElem?_eq_some_iff.1 hj).1]
      exact hj
    | succ i =>
      simp at hi
      have := ih (fun cs hcs => hm cs (List.mem_cons_of_mem _ hcs)) hi
      rw [List.getElem?_append_right (by rw [hx, Nat.succ_mul]; omega), hx, show (i + 1) * m + j - m = i * m + j from by rw [Nat.succ_mul]; omega]
      exact this
theorem Own.set {k : Nat} {v : Value} {b : Nat} {w' : World} (h : Own e m (some ⟨b, 0, none⟩) n c xs w) (hk : k < xs.length) (hw : ∃ cur : Array Value, w.heap[b]? = some (.cells cur e (0, 0)) ∧ w' = w.setRow b (cur.toList.take k ++ [v] ++ cur.toList.drop (k + 1)).toArray) : Own e m (some ⟨b, 0, none⟩) n c (xs.set k v) w' := by
  obtain ⟨cur, hc, rfl⟩ := hw
  obtain ⟨hl, h1⟩ := h
  rcases h1 with ⟨h1, _⟩ | ⟨g, cap, cur', hv, hb, hg, hnc, hcm, hcs, ht⟩
  · cases h1
  · cases hv
    rw [hc] at hg
    cases hg
    have hsz : cur.toList.length = c * m := by simp [hcs]
    have hle : n * m ≤ c * m := Nat.mul_le_mul_right m hnc
    have hset : cur.toList.take k ++ [v] ++ cur.toList.drop (k + 1) = cur.toList.set k v := by
      rw [List.set_eq_take_append_cons_drop, if_pos (by omega)]; simp
    refine ⟨by simp [hl], .inr ⟨b, c, _, rfl, Nat.zero_le _, setRow_heap w b cur _ e _ hc, hnc, hcm, ?_, ?_⟩⟩
    · rw [hset]; simp [hcs]
    · rw [hset, ← ht, List.take_set]
end
section
variable {P : Program} {n : Nat} {w0 : World} {M : Nat → Prop} {L L' : List (World → Prop)} {σ : Fr} {K K' : Ko} {c x y : Code} {ops : Array Oper} {S : World → Prop} {r : Sch} {i : Nat}
variable {d : Nat} {t : TypeId} {p : String} {af : Array Edge} {g : Option (Nat × Bool)} {a b : Operand}
variable {ty e m by_ N C : Nat} {ao : Option Addr} {xs : List Value} {zc : List Value}
/-- What 'make' and 'append' ask of the type of the elements: cells, bytes, zero value. -/
def Mk (P : Program) (ty e m by_ : Nat) (zc : List Value) : Prop :=
  P.underlying ty = some (.slice e) ∧ ∃ (i : TypeInfo) (z : Value), P.info? e = some i ∧ i.zero = some z ∧ i.size = m ∧ i.bytes = by_ ∧ z.cells = zc.toArray ∧ zc.length = m ∧ 0 < m ∧ 0 < by_
theorem made_flat {z : Array Value} {zc : List Value} {m : Nat} (hz : z = zc.toArray) (hm : zc.length = m) (h0 : 0 < m) (N : Nat) : (madeCells z (N * m)).toList = (List.replicate N zc).flatten := by
  subst hz
  apply List.ext_getElem?
  intro k
  unfold madeCells
  by_cases hk : k < N * m
  · have hd : k / m < N := (Nat.div_lt_iff_lt_mul h0).2 hk
    have hmod : k % m < m := Nat.mod_lt _ h0
    have hget : (List.replicate N zc)[k / m]? = some zc := by rw [List.getElem?_replicate, if_pos hd]
    have hz : zc[k % m]? = some (zc[k % m]'(by omega)) := List.getElem?_eq_getElem (by omega)
    have := flat_get (css := List.replicate N zc) (m := m) (fun cs hcs => by rw [(List.mem_replicate.1 hcs).2]; exact hm) hget hz
    rw [Nat.mul_comm, Nat.div_add_mod] at this
    rw [this]
    simp [hk, hm]
    rw [hz]; rfl
  · rw [List.getElem?_eq_none (by simp; omega), List.getElem?_eq_none]
    rw [List.length_flatten]; simp [hm]; omega
/-- 'make' of a slice. -/
theorem mks {k : IntKind} {z : Int} (N : Nat) (hM : Mk P ty e m by_ zc) (hS : ∀ bk w, Sep w0 M (Own e m (some ⟨bk, 0, none⟩) N N (List.replicate N zc).flatten :: L) w → S w) (ho : ops[i]? = some ⟨some d, .makeSlice ty a b, t, p, af, g⟩) (hg : go ops σ g) (ha : ev σ a = .int k z) (hb : ev σ b = .int k z) (hz : z = (N : Int)) (hN : by_ * N ≤ 140737488355328)
    (h : ∀ bk, w0.heap.size ≤ bk → RG P n w0 M ops S (Own e m (some ⟨bk, 0, none⟩) N N (List.replicate N zc).flatten :: L) r (upd σ d (.slice (some ⟨bk, 0, none⟩) N N)) K) : RG P n w0 M ops S L (.op .l i r) σ K := by
  obtain ⟨hu, inf, zv, hi, hz0, hs, hby, hzc, hm, hm0, hb0⟩ := hM
  subst hz
  have hN63 : N ≤ maxLen := by
    have : N ≤ by_ * N := Nat.le_mul_of_pos_left N hb0
    simp only [maxLen]; omega
  refine rL (good := fun bk => w0.heap.size ≤ bk) (Lx := fun bk => Own e m (some ⟨bk, 0, none⟩) N N (List.replicate N zc).flatten :: L) (v := fun bk => .slice (some ⟨bk, 0, none⟩) N N) hS ho hg (fun w hsep => ?_) h
  obtain ⟨w', hr, hown, hgr⟩ := run_make_full (P := P) w 0 ty e inf zv m hu hi hz0 hs k k N (by rw [hby]; omega) hN63 (Nat.zero_le _)
  have hex : Ext w w' := ⟨hgr.os, hgr.tape, hgr.output, hgr.size, fun q hq _ => hgr.block q hq (by simp)⟩
  have hlt : w.heap.size < w'.heap.size := by
    rcases hown.2 with ⟨h1, _⟩ | ⟨g', _, _, hv, _, hg', _⟩
    · cases h1
    · cases hv; exact (Array.getElem?_eq_some_iff.1 hg').1
  rw [made_flat hzc hm hm0] at hown
  have hown' : Own e m (some ⟨w.heap.size, 0, none⟩) N N (List.replicate N zc).flatten w' := hown
  unfold opw
  simp only [execOp, ha, hb, Sem.run_bind, hr, Result.andThen_ok, Sem.run_pure]
  exact ⟨w.heap.size, hsep.base_le, hsep.push hex (hown'.St fun q hq => by unfold fpO at hq; cases hq; exact ⟨Nat.le_refl _, hlt⟩), rfl⟩
/-- 'append', told of the block. -/
theorem run_append_fp {w : World} (hM : Mk P ty e m by_ zc) {n c : Nat} (hown : Own e m ao n c xs w) {ad : Addr} {c' : Nat} {news : List Value} (tyr : TypeId) (hl : news.length = m) (hnews : ∀ j u, news[j]? = some u → w.cell? (ad.add j) = some u) (h1 : ∀ u ∈ news, u.oneCell' = true) (hN : (n + 1) * by_ ≤ 140737488355328) :
    ∃ g' cap w', (Builtin.append_ #[ty, ty] tyr #[.slice ao n c, .slice (some ad) 1 c']).run P w = .ok (.slice (some ⟨g', 0, none⟩) (n + 1) cap) w' ∧ Own e m (some ⟨g', 0, none⟩) (n + 1) cap (xs ++ news) w' ∧ Upd (fpO ao) w w' ∧ (fpO ao g' ∨ New w w' g') := by
  obtain ⟨hu, inf, zv, hi, hz0, hs, hby, hzc, hm, hm0, hb0⟩ := hM
  have hN63 : n + 1 ≤ maxLen := by
    have : n + 1 ≤ (n + 1) * by_ := Nat.le_mul_of_pos_right _ hb0
    simp only [maxLen]; omega
  have hzs : zv.cells.size = m := by rw [hzc]; simpa using hm
  have fin : ∀ (v' : Value) (w' : World), (Builtin.append_ #[ty, ty] tyr #[.slice ao n c, .slice (some ad) 1 c']).run P w = .ok v' w' → w'.ownsRow w.heap.size e m v' (n + 1) (xs ++ news) → Upd (fpO ao) w w' →
      ∃ g' cap w', (Builtin.append_ #[ty, ty] tyr #[.slice ao n c, .slice (some ad) 1 c']).run P w = .ok (.slice (some ⟨g', 0, none⟩) (n + 1) cap) w' ∧ Own e m (some ⟨g', 0, none⟩) (n + 1) cap (xs ++ news) w' ∧ Upd (fpO ao) w w' ∧ (fpO ao g' ∨ New w w' g') := by
    intro v' w' hr ho hup
    obtain ⟨hl', h2⟩ := ho
    rcases h2 with ⟨_, h0⟩ | ⟨g', cap, cur, rfl, hb, hg, hnc, hcm, hcs, ht⟩
    · omega
    · exact ⟨g', cap, w', hr, ⟨hl', .inr ⟨g', cap, cur, rfl, Nat.zero_le _, hg, hnc, hcm, hcs, ht⟩⟩, hup, .inr ⟨hb, (Array.getElem?_eq_some_iff.1 hg).1⟩⟩
  have up : ∀ {w' : World} {row : Option Nat}, w.grownBy w' row → (∀ k, row = some k → fpO ao k) → Upd (fpO ao) w w' := fun hgr hrow =>
    ⟨hgr.os, hgr.tape, hgr.output, hgr.size, fun q hq hn => hgr.block q hq (fun e => hn (hrow q e.symm))⟩
  rcases hown.2 with ⟨hv, h0⟩ | ⟨g0, cap, cur, hv, hb, hg, hnc, hcm, hcs, ht⟩
  · obtain ⟨rfl, hc0⟩ : ao = none ∧ c = 0 := by cases hv; exact ⟨rfl, rfl⟩
    subst h0; subst hc0
    obtain ⟨v', w', hr, ho, hgr, _⟩ := run_append_own (P := P) w w.heap.size ty tyr e inf zv m by_ hu hi hz0 hs hby hzs hm0 (.slice none 0 0) 0 xs ⟨hown.1, .inl ⟨rfl, rfl⟩⟩ ad 1 c' news (by rw [hl]; omega) hnews h1 hN63 (by omega) (Nat.le_refl _)
    exact fin v' w' hr ho (up hgr fun k hk => by simp [Value.ownBlock] at hk)
  · obtain ⟨rfl, rfl⟩ : ao = some ⟨g0, 0, none⟩ ∧ c = cap := by cases hv; exact ⟨rfl, rfl⟩
    by_cases hroom : n + 1 ≤ c
    · have hfit : n * inf.size + news.length ≤ cur.size := by
        have := Nat.mul_le_mul_right m hroom
        rw [Nat.succ_mul] at this
        rw [hl, hcs, hs]; exact this
      have hr := run_append_room (P := P) w ty tyr e inf hu hi g0 n c cur hg ad 1 c' news (by rw [hl, hs]; omega) hnews h1 hroom hfit
      refine ⟨g0, c, _, hr, ⟨by rw [List.length_append, hown.1, hl, Nat.succ_mul], .inr ⟨g0, c, _, rfl, Nat.zero_le _, setRow_heap w g0 cur _ e _ hg, hroom, hcm, ?_, ?_⟩⟩, ⟨rfl, rfl, rfl, by simp, fun k _ hk => setRow_other w g0 k _ (fun e => hk (by unfold fpO; rw [e]))⟩, .inl rfl⟩
      · rw [hs]
        have := Nat.mul_le_mul_right m hnc
        simp only [List.size_toArray, List.length_append, List.length_take, List.length_drop, Array.length_toList]
        rw [hs] at hfit
        omega
      · rw [hs, ht]
        have hlen : (xs ++ news).length = (n + 1) * m := by rw [List.length_append, hown.1, hl, Nat.succ_mul]
        show List.take ((n + 1) * m) (xs ++ news ++ _) = _
        rw [← hlen]; exact List.take_left
    · have holds : ∀ j u, xs[j]? = some u → w.cell? ((⟨g0, 0, none⟩ : Addr).add j) = some u := by
        have h3 : w.ownsRow 0 e m (.slice (some ⟨g0, 0, none⟩) n c) n xs := hown
        exact h3.cells (g := g0) rfl
      obtain ⟨v', w', hr, ho, hgr⟩ := run_append_arg_grows (P := P) w ty tyr e inf zv m by_ hu hi hz0 hs hby hzs hm0 ⟨g0, 0, none⟩ n c xs hown.1 holds ad 1 c' news (by rw [hl]; omega) hnews (by omega) hN63 hN
      exact fin v' w' hr ho (up hgr fun k hk => by simp at hk)
/-- 'append' of one element that lies in a literal. -/
theorem apl {N C lb le lc : Nat} {news : List Value} (j i' : Nat) (hj : L[j]? = some (Own e m ao N C xs)) (hi : L[i']? = some (blk lb le news)) (hM : Mk P ty e m by_ zc) (hS : ∀ (q : Option Addr × Nat) w, Sep w0 M (L.set j (Own e m q.1 (N + 1) q.2 (xs ++ news))) w → S w) (ho : ops[i]? = some ⟨some d, .call ⟨.builtin .append, #[a, b], #[ty, ty]⟩, t, p, af, g⟩) (hg : go ops σ g) (ha : ev σ a = .slice ao N C) (hb : ev σ b = .slice (some ⟨lb, 0, none⟩) 1 lc) (hl : news.length = m) (h1 : ∀ u ∈ news, u.oneCell' = true) (hN : (N + 1) * by_ ≤ 140737488355328)
    (h : ∀ a' c', RG P n w0 M ops S (L.set j (Own e m a' (N + 1) c' (xs ++ news))) r (upd σ d (.slice a' (N + 1) c')) K) : RG P n w0 M ops S L (.op .l i r) σ K :=
  rL (α := Option Addr × Nat) (good := fun _ => True) (Lx := fun q => L.set j (Own e m q.1 (N + 1) q.2 (xs ++ news))) (v := fun q => .slice q.1 (N + 1) q.2) hS ho hg (fun w hs => by
    have hown := hs.at_ j hj
    have hlit := hs.at_ i' hi
    obtain ⟨g', cap, w', hr, ho', hup, hg'⟩ := run_append_fp hM hown (ad := ⟨lb, 0, none⟩) (c' := lc) (news := news) t hl (fun q u hq => by rw [add_addr, Nat.zero_add]; exact hlit.cell hq) h1 hN
    unfold opw
    simp only [execOp, resolve, invoke, builtin, Sem.run_bind, Sem.run_pure, Result.andThen_ok, List.map_toArray, List.map_cons, List.map_nil, ha, hb, hr]
    refine ⟨(some ⟨g', 0, none⟩, cap), trivial, hs.change j hj fun f hf => ⟨fun k => f k ∨ k = g', fun k hk => ?_, ho'.St fun q hq => ?_, hup.mono fun k _ hk => Own.mem hf k hk⟩, rfl⟩
    · rcases hk with hk | rfl
      · exact .inl hk
      · rcases hg' with hg' | hg'
        · exact .inl (Own.mem hf _ hg')
        · exact .inr hg'
    · unfold fpO at hq; cases hq; exact .inr rfl) (fun q _ => h q.1 q.2)
/-- The address of an element of an owned slice. -/
theorem oxa {C cap : Nat} {k : IntKind} {z : Int} (j : Nat) (hj : L[j]? = some (Own e m ao N C xs)) (hE : Elt P ty m) (ho : ops[i]? = some ⟨some d, .indexAddr ty a b, t, p, af, g⟩) (hg : go ops σ g) (ha : ev σ a = .slice ao N cap) (hb : ev σ b = .int k z) (h0 : 0 ≤ z) (h1 : z < N)
    (h : ∀ gk, ao = some ⟨gk, 0, none⟩ → RG P n w0 M ops S L r (upd σ d (.pointer (some ⟨gk, z.toNat * m, none⟩))) K) : RG P n w0 M ops S L (.op .q i r) σ K := fun w hs => by
  obtain ⟨gk, hgk⟩ := (hs.at_ j hj).some_ (by omega)
  exact rQ ho hg (fun w _ => by rw [hgk] at ha; simp [execOp, ha, hb, run_indexAt (k := k) (bk := gk) (off := 0) (cap := cap) hE h0 h1 w]) (h gk hgk) w hs
theorem oxa1 {C cap : Nat} {k : IntKind} {z : Int} (j : Nat) (hj : L[j]? = some (Own e 1 ao N C xs)) (hE : Elt P ty 1) (ho : ops[i]? = some ⟨some d, .indexAddr ty a b, t, p, af, g⟩) (hg : go ops σ g) (ha : ev σ a = .slice ao N cap) (hb : ev σ b = .int k z) (h0 : 0 ≤ z) (h1 : z < N)
    (h : ∀ gk, ao = some ⟨gk, 0, none⟩ → RG P n w0 M ops S L r (upd σ d (.pointer (some ⟨gk, z.toNat, none⟩))) K) : RG P n w0 M ops S L (.op .q i r) σ K :=
  oxa j hj hE ho hg ha hb h0 h1 fun gk hgk => by rw [Nat.mul_one]; exact h gk hgk
theorem sto_opw {v : Value} {gk off : Nat} {w : World} (j : Nat) (hj : L[j]? = some (Own e m ao N C xs)) (hao : ao = some ⟨gk, 0, none⟩) (hz : Size P ty 1) (hv : v.oneCell' = true) (hlt : off < xs.length) (hs : Sep w0 M L w) (ha : ev σ a = .pointer (some ⟨gk, off, none⟩)) (hb : ev σ b = v) :
    opw P ⟨none, .store ty a b, t, p, af, g⟩ σ w fun σ' w' => Sep w0 M (L.set j (Own e m ao N C (xs.set off v))) w' ∧ σ' = σ := by
  subst hao
  have hown := hs.at_ j hj
  obtain ⟨cur, hcur⟩ : ∃ cur : Array Value, w.heap[gk]? = some (.cells cur e (0, 0)) ∧ off < cur.size := by
    rcases hown.2 with ⟨h1, _⟩ | ⟨g', cap, cur, hv', _, hg', hnc, _, hcs, ht⟩
    · cases h1
    · cases hv'
      refine ⟨cur, hg', ?_⟩
      have := hown.1
      have := Nat.mul_le_mul_right m hnc
      omega
  have hc : v.cells = #[v] := by cases v <;> first | rfl | cases hv
  have hst := run_storeCells_at P gk off e [v] 0 cur w hcur.1 (by simp; omega) (by simpa using hv)
  have hst' : (storeCells ⟨gk, off, none⟩ [v] 0).run P w = .ok () (w.setRow gk (cur.toList.take off ++ [v] ++ cur.toList.drop (off + 1)).toArray) := by simpa using hst
  unfold opw
  have hr : (Instr.storeAt ty (.pointer (some ⟨gk, off, none⟩)) v).run P w = .ok () (w.setRow gk (cur.toList.take off ++ [v] ++ cur.toList.drop (off + 1)).toArray) := by
    simp only [Instr.storeAt, Instr.sureAddr, storeVar, hz w, hc, Sem.run_bind, Sem.run_pure, Result.andThen_ok]
    simpa using hst'
  simp only [execOp, ha, hb, Sem.run_bind, hr, Result.andThen_ok, Sem.run_pure]
  refine ⟨hs.change j hj fun f hf => ⟨f, fun _ h => .inl h, (hown.set hlt ⟨cur, hcur.1, rfl⟩).St fun q hq => Own.mem hf q hq, ⟨rfl, rfl, rfl, by simp, fun k hk hn => setRow_other w gk k _ fun e => hn (e ▸ Own.mem hf gk rfl)⟩⟩, rfl⟩
/-- A store of one cell into an owned slice. -/
theorem sto {v : Value} {gk off : Nat} (j : Nat) (hj : L[j]? = some (Own e m ao N C xs)) (hao : ao = some ⟨gk, 0, none⟩) (hz : Size P ty 1) (hS : ∀ w, Sep w0 M (L.set j (Own e m ao N C (xs.set off v))) w → S w) (ho : ops[i]? = some ⟨none, .store ty a b, t, p, af, g⟩) (hg : go ops σ g) (ha : ev σ a = .pointer (some ⟨gk, off, none⟩)) (hb : ev σ b = v) (hv : v.oneCell' = true) (hlt : off < xs.length)
    (h : RG P n w0 M ops S (L.set j (Own e m ao N C (xs.set off v))) r σ K) : RG P n w0 M ops S L (.op .l i r) σ K :=
  rL1 (v := undef) hS ho hg (fun _ hs => sto_opw j hj hao hz hv hlt hs ha hb) h
/-- A literal's block is an owned slice. -/
theorem Own.ofBlk {bk e : Nat} {vs : List Value} {w : World} (h : blk bk e vs w) (hl : vs.length ≤ maxLen) : Own e 1 (some ⟨bk, 0, none⟩) vs.length vs.length vs w :=
  ⟨by simp, .inr ⟨bk, vs.length, vs.toArray, rfl, Nat.zero_le _, h, Nat.le_refl _, hl, by simp, by simp⟩⟩
/-- The nil slice is owned, with no block. -/
theorem Own.nil (e m : Nat) (w : World) : Own e m none 0 0 [] w := World.ownsRow_nil w 0 e m
end
end Go.Proofs.Ytjengglpbdgmnaa.V
