/- Plain facts: exchanges of suits form a group; fixing exchanges; classes of cards. No condition. -/
import Derived.Test.YteaahdakammffaaZ3Sd
import Derived.Test.YteaahdakammffaaZ2Sd
import Derived.Test.YteaahdakammffaaZ0Sd
import Derived.Test.YteaahdakammffaaRows
import Derived.Test.YteaahdakammffaaZ1Sd
namespace Go.Proofs.Yteaahdakammffaa.Iso
open Go.Proofs.Yteaahdakammffaa.V
set_option linter.unusedVariables false
set_option linter.unusedSimpArgs false
theorem four_eq {x y : List Int} (hx : x.length = 4) (hy : y.length = 4) (h : [x.getD 0 0, x.getD 1 0, x.getD 2 0, x.getD 3 0] = [y.getD 0 0, y.getD 1 0, y.getD 2 0, y.getD 3 0]) : x = y := by
 match x, hx, y, hy with
 | [a, b, c, d], _, [a', b', c', d'], _ => simpa using h
def indexOf4 (z : List (List Int)) (p : List Int) : Int := if z.contains p then (z.findIdx (fun q => decide (q = p)) : Nat) else -1
theorem indexOf4_yes {z : List (List Int)} {p : List Int} {i : Nat} (h : i < z.length) (h1 : z.getD i [] = p) (hal : ∀ j, j < i → z.getD j [] ≠ p) : indexOf4 z p = (i : Int) := by
 unfold indexOf4
 rw [gdE h] at h1
 rw [if_pos (by rw [List.contains_iff_mem, ← h1]; exact List.getElem_mem h)]
 congr 1
 rw [List.findIdx_eq h]
 refine ⟨by simp [h1], fun j hj => ?_⟩
 have := hal j hj
 rw [gdE (by omega)] at this
 simp [this]
theorem indexOf4_no {z : List (List Int)} {p : List Int} {i : Nat} (h : z.length ≤ i) (hal : ∀ j, j < i → z.getD j [] ≠ p) : indexOf4 z p = -1 := by
 unfold indexOf4
 rw [if_neg]
 rw [List.contains_iff_mem]
 intro hm
 obtain ⟨j, hj, e⟩ := List.getElem_of_mem hm
 exact hal j (by omega) (by rw [gdE hj]; exact e)
theorem indexOf4_neg (z : List (List Int)) (p : List Int) : decide (0 ≤ indexOf4 z p) = z.contains p := by
 unfold indexOf4
 cases h : z.contains p <;> simp
/-- Exchanges are the permutations of the four suits. -/
theorem srt_iff {a b : List Int} : srt a = srt b ↔ a.Perm b := ⟨fun h => (srt_perm a).symm.trans (h ▸ srt_perm b), fun h => sorted_eq (srt_sorted a) (srt_sorted b) ((srt_perm a).trans (h.trans (srt_perm b).symm))⟩
theorem srt_id : srt [0, 1, 2, 3] = [0, 1, 2, 3] := (srt_of (by decide) (List.Perm.refl _)).symm
theorem srt_id_iff {p : List Int} : srt p = [0, 1, 2, 3] ↔ p.Perm [0, 1, 2, 3] := by rw [← srt_id, srt_iff, srt_id]
theorem orders_perm : ∀ p ∈ orders, p.Perm [0, 1, 2, 3] := by decide +kernel
theorem orders_srt (p : List Int) (h : p ∈ orders) : srt p = [0, 1, 2, 3] := srt_id_iff.2 (orders_perm p h)
theorem orders_all : ∀ a b c d : Fin 4, [(a.val : Int), b.val, c.val, d.val].Perm [0, 1, 2, 3] → [(a.val : Int), b.val, c.val, d.val] ∈ orders := by decide +kernel
theorem orders_iff {p : List Int} : orders.contains p = decide (srt p = [0, 1, 2, 3]) := by
 rw [Bool.eq_iff_iff, List.contains_iff_mem, decide_eq_true_iff]
 refine ⟨orders_srt p, fun h => ?_⟩
 have hl : p.length = 4 := by rw [← (srt_perm p).length_eq, h]; rfl
 have hm : ∀ x ∈ p, 0 ≤ x ∧ x < 4 := fun x hx => by
  have := srt_mem.2 hx
  rw [h] at this
  simp at this; omega
 match p, hl with
 | [a, b, c, d], _ =>
  have ha := hm a (by simp); have hb := hm b (by simp); have hc := hm c (by simp); have hd := hm d (by simp)
  have := orders_all ⟨a.toNat, by omega⟩ ⟨b.toNat, by omega⟩ ⟨c.toNat, by omega⟩ ⟨d.toNat, by omega⟩
  simp only [Int.toNat_of_nonneg ha.1, Int.toNat_of_nonneg hb.1, Int.toNat_of_nonneg hc.1, Int.toNat_of_nonneg hd.1] at this
  exact this (srt_id_iff.1 h)
abbrev idP : List Int := [0, 1, 2, 3]
def compP (p q : List Int) : List Int := q.map fun k => p.getD k.toNat 0
theorem inv_ex : ∀ p ∈ orders, ∃ q ∈ orders, compP p q = idP ∧ compP q p = idP := by decide +kernel
theorem comp_get {p q : List Int} {k : Nat} (h : k < q.length) : (compP p q).getD k 0 = p.getD (q.getD k 0).toNat 0 := by
 rw [gdE (by simpa [compP] using h), gdE h]; simp [compP]
theorem take4_comp {p q : List Int} {c : Int} (hq : isP q) : take4 (compP p q) c = take4 p (take4 q c) := by
 have h1 := hq.2 (c % 4).toNat
 unfold take4
 rw [comp_get (by rw [hq.1]; omega)]
 have h2 : (c / 4 * 4 + q.getD (c % 4).toNat 0) / 4 = c / 4 := by omega
 have h3 : (c / 4 * 4 + q.getD (c % 4).toNat 0) % 4 = q.getD (c % 4).toNat 0 := by omega
 rw [h2, h3]
theorem image4_comp {p q z : List Int} (hq : isP q) : image4 (compP p q) z = image4 p (image4 q z) := by
 unfold image4
 rw [List.map_map]
 exact List.map_congr_left fun c _ => take4_comp hq
theorem image4_perm {p : List Int} {a b : List Int} (h : a.Perm b) : (image4 p a).Perm (image4 p b) := h.map _
end Go.Proofs.Yteaahdakammffaa.Iso
/- Plain facts: orbits of cards, sizes of classes, same deals, what laws on exchanges call. No condition. -/
namespace Go.Proofs.Yteaahdakammffaa.Iso
open Go.Proofs.Yteaahdakammffaa.V
set_option linter.unusedVariables false
set_option linter.unusedSimpArgs false
def rep (z : List (List Int)) (c : Int) : Int := (alk (fixA z) c).getD 0 0
/-- Cards that are in no set. -/
def unused (z : List (List Int)) (k : Nat) : List Int := ((List.range k).map Int.ofNat).filter fun c => !z.flatten.contains c
/-- What ExchangeCards returns. -/
def exE (z p : List Int) : Int := if areB z = false then 1 else if orders.contains p = false then 2 else 0
def exY (z p : List Int) : List Int := if exE z p = 0 then image4 p z else []
theorem exE_1 {z p : List Int} (h : areB z = false) : exE z p = 1 := if_pos h
theorem exE_2 {z p : List Int} (h : areB z = true) (h1 : orders.contains p = false) : exE z p = 2 := by unfold exE; rw [h, if_neg (by simp), if_pos h1]
theorem exE_0 {z p : List Int} (h : areB z = true) (h1 : orders.contains p = true) : exE z p = 0 := by unfold exE; rw [h, h1]; rfl
theorem exY_0 {z p : List Int} (h : exE z p = 0) : exY z p = image4 p z := if_pos h
theorem exY_no {z p : List Int} (h : exE z p ≠ 0) : exY z p = [] := if_neg h
/-- What AlikeCards returns. -/
def alE (z : List (List Int)) (c : Int) : Int := if codeS z ≠ 0 then codeS z else if 0 ≤ c ∧ c ≤ 51 then 0 else 2
def alY (z : List (List Int)) (c : Int) : List Int := if alE z c = 0 then alk (fixA z) c else []
/-- Same deals. -/
def dealB (p : List Int) (a b : List (List Int)) (k : Nat) : Bool := (List.range k).all fun i => decide (srt (image4 p (a.getD i [])) = srt (b.getD i []))
def sameTo (a b : List (List Int)) (k : Nat) : Bool := (orders.take k).any fun p => dealB p a b a.length
def sameB (a b : List (List Int)) : Bool := orders.any fun p => dealB p a b a.length
def sdE (a b : List (List Int)) : Int := if codeS a ≠ 0 then codeS a else if codeS b ≠ 0 then codeS b else if a.length ≠ b.length then 5 else 0
def sdB (a b : List (List Int)) : Bool := decide (sdE a b = 0) && sameB a b
theorem dealB_s (p : List Int) (a b : List (List Int)) (k : Nat) : dealB p a b (k + 1) = (dealB p a b k && decide (srt (image4 p (a.getD k [])) = srt (b.getD k []))) := by
  unfold dealB; rw [List.range_succ, List.all_append]; simp
theorem dealB_iff {p : List Int} {a b : List (List Int)} {k : Nat} : dealB p a b k = true ↔ ∀ i, i < k → (image4 p (a.getD i [])).Perm (b.getD i []) := by
  unfold dealB
  simp only [List.all_eq_true, List.mem_range, decide_eq_true_iff, srt_iff]
theorem same_here {a b : List (List Int)} {i : Nat} (h : i < orders.length) (h1 : dealB (orders.getD i []) a b a.length = true) : sameB a b = true := any_here [] h h1
theorem same_end {a b : List (List Int)} {i : Nat} (h : orders.length ≤ i) (h0 : sameTo a b i = false) : sameB a b = false := any_end h h0
theorem same_snoc {a b : List (List Int)} {i : Nat} (h : i < orders.length) (h0 : sameTo a b i = false) (h1 : dealB (orders.getD i []) a b a.length = false) : sameTo a b (i + 1) = false := any_snoc [] h h0 h1
theorem sdE_1 {a b : List (List Int)} (h : codeS a ≠ 0) : sdE a b = codeS a := if_pos h
theorem sdE_2 {a b : List (List Int)} (h : codeS a = 0) (h1 : codeS b ≠ 0) : sdE a b = codeS b := by unfold sdE; rw [if_neg (by simp [h]), if_pos h1]
theorem sdE_5 {a b : List (List Int)} (h : codeS a = 0) (h1 : codeS b = 0) (h2 : a.length ≠ b.length) : sdE a b = 5 := by unfold sdE; rw [if_neg (by simp [h]), if_neg (by simp [h1]), if_pos h2]
theorem sdE_0 {a b : List (List Int)} (h : codeS a = 0) (h1 : codeS b = 0) (h2 : a.length = b.length) : sdE a b = 0 := by unfold sdE; rw [if_neg (by simp [h]), if_neg (by simp [h1]), if_neg (by simp [h2])]
theorem sdE_iff {a b : List (List Int)} (h : sdE a b = 0) : codeS a = 0 ∧ codeS b = 0 ∧ a.length = b.length := by
  unfold sdE at h
  split at h
  · rename_i h1; exact absurd h h1
  · split at h
    · rename_i h1; exact absurd h h1
    · split at h
      · omega
      · simp_all
theorem sdB_no {a b : List (List Int)} (h : sdE a b ≠ 0) : sdB a b = false := by unfold sdB; rw [decide_eq_false h]; rfl
theorem sdB_0 {a b : List (List Int)} (h : sdE a b = 0) : sdB a b = sameB a b := by unfold sdB; rw [decide_eq_true h]; rfl
theorem same_half {a b : List (List Int)} (hl : a.length = b.length) (h : sameB a b = true) : sameB b a = true := by
  unfold sameB at *
  obtain ⟨p, hp, h1⟩ := List.any_eq_true.1 h
  obtain ⟨q, hq, -, e2⟩ := inv_ex p hp
  refine List.any_eq_true.2 ⟨q, hq, dealB_iff.2 fun i hi => ?_⟩
  have h2 := image4_perm (p := q) (dealB_iff.1 h1 i (by omega))
  rw [← image4_comp (orders_isP hp), e2, image4_id] at h2
  exact h2.symm
theorem same_sym {a b : List (List Int)} (hl : a.length = b.length) : sameB b a = sameB a b := by
  rw [Bool.eq_iff_iff]; exact ⟨same_half hl.symm, same_half hl⟩
theorem sd_sym {a b : List (List Int)} (h : sdE a b = 0) : sdE b a = 0 ∧ sdB b a = sdB a b := by
  obtain ⟨h1, h2, h3⟩ := sdE_iff h
  have h4 := sdE_0 h2 h1 h3.symm
  exact ⟨h4, by rw [sdB_0 h4, sdB_0 h, same_sym h3]⟩
theorem turn_ord : orders.contains [3, 0, 1, 2] = true := by decide +kernel
theorem areB_image {p z : List Int} (hp : orders.contains p = true) (h : areB z = true) : areB (image4 p z) = true := by
  have hP := orders_isP (List.contains_iff_mem.1 hp)
  obtain ⟨q, hq, -, e2⟩ := inv_ex p (List.contains_iff_mem.1 hp)
  obtain ⟨h1, h2⟩ := areB_P h
  refine decide_eq_true ⟨fun x hx => ?_, ?_⟩
  · obtain ⟨c, hc, rfl⟩ := List.mem_map.1 hx
    exact take4_bd hP (h1 c hc)
  · refine List.pairwise_map.2 (h2.imp fun hab he => hab ?_)
    have := congrArg (take4 q) he
    rwa [← take4_comp hP, ← take4_comp hP, e2, take4_id, take4_id] at this
def imgs (p : List Int) (a : List (List Int)) : List (List Int) := a.map (image4 p)
theorem imgs_len (p : List Int) (a : List (List Int)) : (imgs p a).length = a.length := by simp [imgs]
theorem imgs_snoc {p : List Int} {a : List (List Int)} {i : Nat} (h : i < a.length) : imgs p (a.take i) ++ [image4 p (a.getD i [])] = imgs p (a.take (i + 1)) := by
  unfold imgs
  rw [List.take_add_one, List.map_append, gdE h, List.getElem?_eq_getElem h]; rfl
theorem imgs_code {p : List Int} {a : List (List Int)} (hp : orders.contains p = true) (h : codeS a = 0) : codeS (imgs p a) = 0 := by
  obtain ⟨h1, h2⟩ := codeS_all h
  refine code_yes (by rw [imgs_len]; exact h1) (List.all_eq_true.2 fun s hs => ?_)
  obtain ⟨c, hc, rfl⟩ := List.mem_map.1 hs
  exact areB_image hp (List.all_eq_true.1 h2 c hc)
theorem sd_imgs {p : List Int} {a : List (List Int)} (hp : orders.contains p = true) (h : codeS a = 0) : sdE a (imgs p a) = 0 ∧ sdB a (imgs p a) = true := by
  have h1 := sdE_0 h (imgs_code hp h) (imgs_len p a).symm
  refine ⟨h1, ?_⟩
  rw [sdB_0 h1]
  refine List.any_eq_true.2 ⟨p, List.contains_iff_mem.1 hp, dealB_iff.2 fun i hi => ?_⟩
  rw [gdE (l := imgs p a) (by rw [imgs_len]; exact hi), gdE hi]
  simp [imgs]
/-- Numbers of classes. -/
def cntE (n : Int) : Int := if 1 ≤ n ∧ n ≤ 3 then 0 else 2
def cntV (n : Int) : Int := if n = 1 then 13 else if n = 2 then 169 else if n = 3 then 1755 else 0
theorem ord_len {p : List Int} (h : p.length ≠ 4) : orders.contains p = false := by
  rw [← Bool.not_eq_true, List.contains_iff_mem]; exact fun hm => h (orders_isP hm).1
theorem cntV_at {n : Int} (h : 1 ≤ n ∧ n ≤ 3) : ([13, 169, 1755] : List Int).getD (n - 1).toNat 0 = cntV n := by
  have : n = 1 ∨ n = 2 ∨ n = 3 := by omega
  rcases this with rfl | rfl | rfl <;> rfl
/-- Cards that are not in a list. -/
def others (z : List Int) (k : Nat) : List Int := ((List.range k).map Int.ofNat).filter fun c => !z.contains c
theorem others_yes {z : List Int} {k : Nat} (h : z.contains (k : Int) = true) : others z (k + 1) = others z k := by
  unfold others; rw [List.range_succ, List.map_append, List.filter_append, show [k].map Int.ofNat = [(k : Int)] from rfl, List.filter_cons_of_neg (by simp only [h]; decide)]; simp
theorem others_no {z : List Int} {k : Nat} (h : z.contains (k : Int) = false) : others z (k + 1) = others z k ++ [(k : Int)] := by
  unfold others; rw [List.range_succ, List.map_append, List.filter_append, show [k].map Int.ofNat = [(k : Int)] from rfl, List.filter_cons_of_pos (by simp only [h]; decide)]; simp
theorem others_le (z : List Int) (k : Nat) : (others z k).length ≤ k := by
  unfold others
  exact Nat.le_trans (List.length_filter_le _ _) (by simp)
theorem put_perm {o z : List Int} {i k : Nat} (h : o.Perm (z.take i)) (hi : i < z.length) : (o.take k ++ [z.getD i 0] ++ o.drop k).Perm (z.take (i + 1)) := by
  rw [take_snoc hi]
  refine List.Perm.trans ?_ (h.append_right [z.getD i 0])
  rw [List.append_assoc]
  refine (List.Perm.append_left _ (List.perm_append_comm)).trans ?_
  rw [← List.append_assoc, List.take_append_drop]
theorem perm_isP {p : List Int} (h : p.Perm [0, 1, 2, 3]) : isP p := orders_isP (List.contains_iff_mem.1 (by rw [orders_iff, srt_id_iff.2 h]; rfl))
def feY (z : List (List Int)) : List (List Int) := if codeS z = 0 then fixA z else []
end Go.Proofs.Yteaahdakammffaa.Iso
/- Sources of draws: what a function that draws is handed. No condition. -/
namespace Go.Proofs.Yteaahdakammffaa
open Go Go.RowKit V
set_option linter.unusedVariables false
set_option linter.unusedSimpArgs false
def okBytes (bs : List Int) : Prop := (∀ x ∈ bs, 0 ≤ x ∧ x ≤ 255) ∧ bs.length ≤ 1000000000000000
/-- A source at block 'bk' over the bytes 'bs'. -/
def srcP (bk : Nat) (ca : Option Addr) (bs : List Int) (cc : Nat) : World → Prop := fun w =>
  ∃ p s : Int, blk bk 130 [.slice ca bs.length cc, .int .i64 p, .int .i64 s] w ∧ 0 ≤ p ∧ p ≤ bs.length ∧ 0 ≤ s ∧ s ≤ 2147483646
/-- The bytes, whatever becomes of block 'bk'. -/
def Code_ (bk : Nat) (ca : Option Addr) (bs : List Int) (w : World) : Prop := ∀ w', Upd (fun k => k = bk) w w' → CellsAt ca (bs.map (Value.int .u8)) w'
def SrcIn (bk : Nat) (ca : Option Addr) (bs : List Int) (cc : Nat) (w : World) : Prop := srcP bk ca bs cc w ∧ Code_ bk ca bs w ∧ okBytes bs
theorem srcP_mem {bk : Nat} {ca : Option Addr} {bs : List Int} {cc : Nat} : ∀ (f : Nat → Prop) (w : World), St f (srcP bk ca bs cc) w → f bk := by
  intro f w h
  refine Classical.byContradiction fun hn => ?_
  obtain ⟨p, s, h1, _⟩ := h.out
  have hlt : bk < w.heap.size := (Array.getElem?_eq_some_iff.1 h1).1
  obtain ⟨p', s', h2, _⟩ := h { w with heap := w.heap.setIfInBounds bk (.map #[] 0) } fun k hk => by
    have : bk ≠ k := fun e => hn (e ▸ hk)
    show (w.heap.setIfInBounds bk (.map #[] 0))[k]? = _
    rw [Array.getElem?_setIfInBounds_ne this]
  unfold blk at h2
  simp [hlt] at h2
theorem srcP_st {bk : Nat} {ca : Option Addr} {bs : List Int} {cc : Nat} : ∀ (f : Nat → Prop) (w : World), srcP bk ca bs cc w → f bk → St f (srcP bk ca bs cc) w := by
  rintro f w ⟨p, s, h1, h2⟩ hf w' ha
  exact ⟨p, s, (blk.St _ _ _ h1 hf) w' ha, h2⟩
theorem Code_.upd {bk : Nat} {ca : Option Addr} {bs : List Int} {w w' : World} (h : Code_ bk ca bs w) (hu : Upd (fun k => k = bk) w w') : Code_ bk ca bs w' := fun w'' hu' => h w'' (hu.trans hu')
/-- Two pieces lie apart. -/
theorem SepL_ne {M : Nat → Prop} {B T : Nat} {w : World} : ∀ {fs : List (Nat → Prop)} {L : List (World → Prop)}, SepL M B T fs L w → ∀ {i j : Nat} {φ ψ : World → Prop}, L[i]? = some φ → L[j]? = some ψ → i ≠ j →
    ∃ f f', St f φ w ∧ St f' ψ w ∧ ∀ k, f k → ¬ f' k := by
  intro fs
  induction fs with
  | nil => intro L h i j φ ψ hi; cases L with | nil => simp at hi | cons _ _ => exact h.elim
  | cons f fs ih =>
    intro L h i j φ ψ hi hj hne
    cases L with
    | nil => exact h.elim
    | cons χ L =>
      obtain ⟨h1, h2, h3, h4⟩ := h
      cases i with
      | zero =>
        cases j with
        | zero => exact absurd rfl hne
        | succ j =>
          simp at hi; subst hi
          obtain ⟨f', hf', hst⟩ := h4.at_ (by simpa using hj)
          exact ⟨f, f', h3, hst, fun k hk hk' => h2 f' (List.mem_of_getElem? hf') k hk hk'⟩
      | succ i =>
        cases j with
        | zero =>
          simp at hj; subst hj
          obtain ⟨f', hf', hst⟩ := h4.at_ (by simpa using hi)
          exact ⟨f', f, hst, h3, fun k hk hk' => h2 f' (List.mem_of_getElem? hf') k hk' hk⟩
        | succ j => exact ih h4 (by simpa using hi) (by simpa using hj) (by omega)
/-- The list of a draw's choices, whatever becomes of the source. -/
def Lst (bk : Nat) (a : Option Addr) (xs : List Int) (w : World) : Prop := ∀ w', Upd (fun k => k = bk) w w' → CellsAt a (xs.map (Value.int .i64)) w'
theorem Lst.of {w0 : World} {M : Nat → Prop} {L : List (World → Prop)} {w : World} (hs : Sep w0 M L w) (i j : Nat) {lb e bk : Nat} {ca : Option Addr} {bs : List Int} {cc : Nat} {xs : List Int} {vs : List Value}
    (hi : L[i]? = some (blk lb e vs)) (hj : L[j]? = some (srcP bk ca bs cc)) (hne : i ≠ j) (hv : vs = xs.map (Value.int .i64)) : Lst bk (some ⟨lb, 0, none⟩) xs w := by
  subst hv
  intro w' hu
  obtain ⟨_, fs, h⟩ := hs
  obtain ⟨f, f', h1, h2, h3⟩ := SepL_ne h hi hj hne
  have hl := blk.mem h1
  have hb := srcP_mem f' w h2
  have hlt : lb < w.heap.size := (Array.getElem?_eq_some_iff.1 h1.out).1
  refine CellsAt.blk (e := e) ?_
  have hne' : ¬ lb = bk := fun h => h3 lb hl (h ▸ hb)
  unfold blk
  rw [hu.block lb hlt hne']
  exact h1.out
def toI : Value → Int
  | .int _ z => z
  | _ => 0
theorem map_get {f : Int → Value} {l : List Int} {k : Nat} (h : k < l.length) : (l.map f)[k]? = some (f (l.getD k 0)) := by
  simp [List.getD, List.getElem?_eq_getElem h]
theorem okBytes.at_ {bs : List Int} (h : okBytes bs) (k : Nat) : 0 ≤ bs.getD k 0 ∧ bs.getD k 0 ≤ 255 := by
  by_cases hk : k < bs.length
  · have := h.1 _ (List.getElem_mem hk)
    simp [List.getD, List.getElem?_eq_getElem hk]; exact this
  · simp [List.getD, List.getElem?_eq_none (Nat.le_of_not_lt hk)]
theorem emod_bd (a : Int) {n : Int} (h : 1 < n) : 0 ≤ a % n ∧ (a % n < n ∨ a % n = 0) := ⟨Int.emod_nonneg _ (by omega), .inl (Int.emod_lt_of_pos _ (by omega))⟩
theorem getD_mem {l : List Int} {k : Nat} (h : k < l.length) : l.getD k 0 ∈ l := by
  simp [List.getD, List.getElem?_eq_getElem h]
end Go.Proofs.Yteaahdakammffaa
/- Contracts of the sources of draws. Their conditions stand in each. -/
namespace Go.Proofs.Yteaahdakammffaa
open Go Go.RowKit V
set_option linter.unusedVariables false
set_option linter.unusedSimpArgs false
set_option maxRecDepth 100000
theorem fl130_0 : Fld Try.prog 130 0 0 := by
 intro w ad; simp [Instr.fieldAt, Try.runUnderlying130, Instr.sureAddr, fieldPlace, Try.sizeOf32]
theorem fl130_1 : Fld Try.prog 130 1 1 := by
 intro w ad; simp [Instr.fieldAt, Try.runUnderlying130, Instr.sureAddr, fieldPlace, Try.sizeOf3]
theorem fl130_2 : Fld Try.prog 130 2 2 := by
 intro w ad; simp [Instr.fieldAt, Try.runUnderlying130, Instr.sureAddr, fieldPlace, Try.sizeOf2]
theorem el32 : Elt Try.prog 32 1 := ⟨5, Try.runUnderlying32, Try.sizeOf5⟩
theorem bld130_0_2 (v0 v2 : Value) (h0 : v0.cells = #[v0]) (h2 : v2.cells = #[v2]) : ∀ w, (Instr.build 130 ([(0, v0), (2, v2)] : List (Nat × Value)).toArray).run Try.prog w = .ok (.agg ([v0, .int .i64 0, v2] : List Value).toArray) w := by
 intro w; simp [Instr.build, Instr.fill, Try.zeroValue130, Try.runUnderlying130, aggCells, Try.sizeOf2, Try.sizeOf3, Try.sizeOf32, h0, h2]
theorem l01Next_c (bk : Nat) (ca : Option Addr) (bs : List Int) (cc : Nat) (n : Int) (w : World) (hs0 : SrcIn bk ca bs cc w) :
  Calls Try.prog 76 #[.pointer (some ⟨bk, 0, none⟩), .int .i64 n] w (Ret fun v w' => ∃ x : Int, v = .int .i64 x ∧ (0 ≤ x ∧ (x < n ∨ x = 0)) ∧ Upd (fun k => k = bk) w w' ∧ srcP bk ca bs cc w') := by
 obtain ⟨⟨p, s, hb, h1, h2, h3, h4⟩, hcode, hok⟩ := hs0
 have hK : Kn w (fun k => k = bk) [] (CellsAt ca (bs.map (Value.int .u8))) := fun w' hs => hcode w' hs.upd
 have hl := hok.2
 refine fn (M := (fun k => k = bk)) (rs := [.tmp 4]) Try.func76 rfl Try.ntmps76 rfl rfl (Sep.startB hb) ?_
 refine hSeq ?_
 refine hReg (sq 0 sz) (by kernel_rfl) ?_
 refine asI rfl rfl rfl ?_
 refine rNil ?_
 refine qSeq rfl ?_
 refine hSeq ?_
 refine hSeq ?_
 refine hReg (sq 0 (sq 1 sz)) (by kernel_rfl) ?_
 refine mvI rfl rfl rfl ?_
 refine leq rfl rfl rfl rfl ?_
 refine rNil ?_
 refine qSeq rfl ?_
 refine hIfD rfl (fun c1 => ?_) (fun c1 => ?_)
 ·
  refine hSeq ?_
  refine hReg (sq 0 sz) (by kernel_rfl) ?_
  refine asI rfl rfl rfl ?_
  refine rNil ?_
  refine qSeq rfl ?_
  refine hRet ?_
  exact fun w hs => ⟨[.int .i64 _], ⟨rfl, trivial⟩, ⟨_, rfl, ⟨by omega, by omega⟩, hs.upd, ⟨_, _, hs.at_ 0 rfl, by omega, by omega, by omega, by omega⟩⟩⟩
 ·
  refine hSkip ?_
  refine qSeq rfl ?_
  refine hSeq ?_
  refine hReg (sq 0 (sq 1 (sq 2 (sq 3 (sl 4 (sq 5 (sq 6 (sq 7 (sq 8 (sq 9 (sl 10 sz))))))))))) (by kernel_rfl) ?_
  refine mvP rfl rfl rfl ?_
  refine mvP rfl rfl rfl ?_
  refine nilc rfl rfl rfl ?_
  refine fld fl130_2 rfl rfl rfl ?_
  refine ldl Try.isAgg2 (cB 0 rfl rfl) trv rfl rfl rfl ?_
  refine mul rfl rfl rfl rfl (by omega) ?_
  refine add rfl rfl rfl rfl (by omega) ?_
  refine rem rfl rfl rfl rfl (by omega) ?_
  refine nilc rfl rfl rfl ?_
  refine fld fl130_2 rfl rfl rfl ?_
  refine stl (v := .int .i64 _) 0 rfl Try.sizeOf2 trv rfl rfl rfl rfl rfl (Nat.le_of_ble_eq_true rfl) ?_
  refine rNil ?_
  refine qSeq rfl ?_
  refine hSeq ?_
  refine hReg (sq 0 (sq 1 (sq 2 (sl 3 (sq 4 (sq 5 sz)))))) (by kernel_rfl) ?_
  refine mvP rfl rfl rfl ?_
  refine nilc rfl rfl rfl ?_
  refine fld fl130_2 rfl rfl rfl ?_
  refine ldl Try.isAgg2 (cB 0 rfl rfl) trv rfl rfl rfl ?_
  refine quo rfl rfl rfl rfl (by omega) ?_
  refine asI rfl rfl rfl ?_
  refine rNil ?_
  refine qSeq rfl ?_
  refine hSeq ?_
  refine hSeq ?_
  refine hDraw (by kernel_rfl) (sq 0 (sq 1 (sq 2 (sq 3 (sq 4 (sq 5 (sq 6 (sq 7 (sq 8 (sq 9 sz)))))))))) (by kernel_rfl) (.cons_cons _ .slnil) ?_
  refine mvP rfl rfl rfl ?_
  refine nilc rfl rfl rfl ?_
  refine fld fl130_1 rfl rfl rfl ?_
  refine ldq Try.isAgg3 (cB 0 rfl rfl) rfl rfl rfl ?_
  refine mvP rfl rfl rfl ?_
  refine nilc rfl rfl rfl ?_
  refine fld fl130_0 rfl rfl rfl ?_
  refine ldq Try.isAgg32 (cB 0 rfl rfl) rfl rfl rfl ?_
  refine lenS Try.runUnderlying32 rfl rfl rfl ?_
  refine lss rfl rfl rfl rfl ?_
  refine rNil ?_
  refine qSeq rfl ?_
  refine hIfD rfl (fun c2 => ?_) (fun c2 => ?_)
  ·
   refine hSeq ?_
   refine hDraw (by kernel_rfl) (sq 0 (sq 1 (sq 2 (sq 3 (sq 4 (sq 5 (sq 6 (sq 7 (sq 8 (sq 9 (sq 10 (sq 11 (sq 12 (sq 13 sz)))))))))))))) (by kernel_rfl) (.cons_cons _ .slnil) ?_
   refine mvI rfl rfl rfl ?_
   refine mvP rfl rfl rfl ?_
   refine nilc rfl rfl rfl ?_
   refine fld fl130_0 rfl rfl rfl ?_
   refine ldq Try.isAgg32 (cB 0 rfl rfl) rfl rfl rfl ?_
   refine mvP rfl rfl rfl ?_
   refine nilc rfl rfl rfl ?_
   refine fld fl130_1 rfl rfl rfl ?_
   refine ldq Try.isAgg3 (cB 0 rfl rfl) rfl rfl rfl ?_
   refine ixq el32 (Kn.drop (k := 1) hK) (fun _ h => h.sub (.cons_cons _ .slnil)) rfl rfl rfl rfl (by omega) (by omega) (map_get (by omega)) ?_
   intro ae3 e3
   refine ldq Try.isAgg5 (e3) rfl rfl rfl ?_
   refine cnvI Try.runUnderlying5 Try.runUnderlying2 rfl rfl rfl (by have := hok.at_ p.toNat; omega) ?_
   refine add rfl rfl rfl rfl (by have := hok.at_ p.toNat; omega) ?_
   refine asI rfl rfl rfl ?_
   refine rNil ?_
   refine qSeq rfl ?_
   refine hSeq ?_
   refine hReg (sq 0 (sq 1 (sq 2 (sl 3 (sq 4 (sq 5 (sq 6 (sl 7 sz)))))))) (by kernel_rfl) ?_
   refine mvP rfl rfl rfl ?_
   refine nilc rfl rfl rfl ?_
   refine fld fl130_1 rfl rfl rfl ?_
   refine ldl Try.isAgg3 (cB 0 rfl rfl) trv rfl rfl rfl ?_
   refine add rfl rfl rfl rfl (by omega) ?_
   refine nilc rfl rfl rfl ?_
   refine fld fl130_1 rfl rfl rfl ?_
   refine stl (v := .int .i64 _) 0 rfl Try.sizeOf3 trv rfl rfl rfl rfl rfl (Nat.le_of_ble_eq_true rfl) ?_
   refine rNil ?_
   refine qSeq rfl ?_
   refine hSeq ?_
   refine hReg (sq 0 (sq 1 (sq 2 (sq 3 (sq 4 (sq 5 (sl 6 (sq 7 (sq 8 (sq 9 sz)))))))))) (by kernel_rfl) ?_
   refine mvI rfl rfl rfl ?_
   refine leq rfl rfl rfl rfl ?_
   refine mvB rfl rfl rfl ?_
   refine rBoolD (d := 55) rfl (fun g4 => ?_) (fun g4 => ?_)
   ·
    refine mvP rfl rfl rfl ?_
    refine nilc rfl rfl rfl ?_
    refine fld fl130_1 rfl rfl rfl ?_
    refine ldl Try.isAgg3 (cB 0 rfl rfl) trv rfl rfl rfl ?_
    refine rem rfl rfl rfl rfl (by omega) ?_
    refine eql rfl rfl rfl rfl ?_
    refine pickB rfl rfl rfl rfl ?_
    refine rNil ?_
    refine qSeq rfl ?_
    refine hIfD rfl (fun c5 => ?_) (fun c5 => ?_)
    ·
     refine hDraw (by kernel_rfl) (sq 0 (sq 1 (sq 2 (sq 3 (sq 4 (sq 5 (sq 6 (sq 7 (sq 8 (sq 9 (sq 10 (sq 11 (sq 12 sz))))))))))))) (by kernel_rfl) (.cons_cons _ .slnil) ?_
     refine mvP rfl rfl rfl ?_
     refine nilc rfl rfl rfl ?_
     refine fld fl130_0 rfl rfl rfl ?_
     refine ldq Try.isAgg32 (cB 0 rfl rfl) rfl rfl rfl ?_
     refine mvP rfl rfl rfl ?_
     refine nilc rfl rfl rfl ?_
     refine fld fl130_1 rfl rfl rfl ?_
     refine ldq Try.isAgg3 (cB 0 rfl rfl) rfl rfl rfl ?_
     refine sub rfl rfl rfl rfl (by omega) ?_
     refine ixq el32 (Kn.drop (k := 1) hK) (fun _ h => h.sub (.cons_cons _ .slnil)) rfl rfl rfl rfl (by omega) (by omega) (map_get (by omega)) ?_
     intro ae6 e6
     refine ldq Try.isAgg5 (e6) rfl rfl rfl ?_
     refine cnvI Try.runUnderlying5 Try.runUnderlying2 rfl rfl rfl (by have := hok.at_ (p + 1 - 1).toNat; omega) ?_
     refine asI rfl rfl rfl ?_
     refine rNil ?_
     refine qSeq rfl ?_
     refine hSeq ?_
     refine hReg (sq 0 (sq 1 (sq 2 (sq 3 sz)))) (by kernel_rfl) ?_
     refine mvI rfl rfl rfl ?_
     refine mvI rfl rfl rfl ?_
     refine rem rfl rfl rfl rfl (by have := hok.at_ p.toNat; have := hok.at_ (p + 1 - 1).toNat; omega) ?_
     refine asI rfl rfl rfl ?_
     refine rNil ?_
     refine qSeq rfl ?_
     refine hRet ?_
     exact fun w hs => ⟨[.int .i64 _], ⟨rfl, trivial⟩, ⟨_, rfl, emod_bd _ (by omega), hs.upd, ⟨_, _, hs.at_ 0 rfl, by omega, by omega, by omega, by omega⟩⟩⟩
    ·
     refine hSkip ?_
     refine qSeq rfl ?_
     refine hSeq ?_
     refine hReg (sq 0 (sq 1 (sq 2 (sq 3 sz)))) (by kernel_rfl) ?_
     refine mvI rfl rfl rfl ?_
     refine mvI rfl rfl rfl ?_
     refine rem rfl rfl rfl rfl (by have := hok.at_ p.toNat; have := hok.at_ (p + 1 - 1).toNat; omega) ?_
     refine asI rfl rfl rfl ?_
     refine rNil ?_
     refine qSeq rfl ?_
     refine hRet ?_
     exact fun w hs => ⟨[.int .i64 _], ⟨rfl, trivial⟩, ⟨_, rfl, emod_bd _ (by omega), hs.upd, ⟨_, _, hs.at_ 0 rfl, by omega, by omega, by omega, by omega⟩⟩⟩
   ·
    refine rSkipQ rfl rfl ?_
    refine rSkipQ rfl rfl ?_
    refine rSkipQ rfl rfl ?_
    refine rSkipL trv rfl rfl ?_
    refine rSkipQ rfl rfl ?_
    refine rSkipQ rfl rfl ?_
    refine pickB rfl rfl rfl rfl ?_
    refine rNil ?_
    refine qSeq rfl ?_
    refine hIfF rfl ?_
    refine hSkip ?_
    refine qSeq rfl ?_
    refine hSeq ?_
    refine hReg (sq 0 (sq 1 (sq 2 (sq 3 sz)))) (by kernel_rfl) ?_
    refine mvI rfl rfl rfl ?_
    refine mvI rfl rfl rfl ?_
    refine rem rfl rfl rfl rfl (by have := hok.at_ p.toNat; have := hok.at_ (p + 1 - 1).toNat; omega) ?_
    refine asI rfl rfl rfl ?_
    refine rNil ?_
    refine qSeq rfl ?_
    refine hRet ?_
    exact fun w hs => ⟨[.int .i64 _], ⟨rfl, trivial⟩, ⟨_, rfl, emod_bd _ (by omega), hs.upd, ⟨_, _, hs.at_ 0 rfl, by omega, by omega, by omega, by omega⟩⟩⟩
  ·
   refine hSkip ?_
   refine qSeq rfl ?_
   refine hSeq ?_
   refine hReg (sq 0 (sq 1 (sq 2 (sq 3 sz)))) (by kernel_rfl) ?_
   refine mvI rfl rfl rfl ?_
   refine mvI rfl rfl rfl ?_
   refine rem rfl rfl rfl rfl (by have := hok.at_ p.toNat; have := hok.at_ (p + 1 - 1).toNat; omega) ?_
   refine asI rfl rfl rfl ?_
   refine rNil ?_
   refine qSeq rfl ?_
   refine hRet ?_
   exact fun w hs => ⟨[.int .i64 _], ⟨rfl, trivial⟩, ⟨_, rfl, emod_bd _ (by omega), hs.upd, ⟨_, _, hs.at_ 0 rfl, by omega, by omega, by omega, by omega⟩⟩⟩
theorem l01From_c (ca : Option Addr) (bs : List Int) (cc : Nat) (w : World) (hc : CellsAt ca (bs.map (Value.int .u8)) w) (hok : okBytes bs) :
  Calls Try.prog 74 #[.slice ca bs.length cc] w (Ret fun v w' => ∃ bk : Nat, v = .pointer (some ⟨bk, 0, none⟩) ∧ w.heap.size ≤ bk ∧ Ext w w' ∧ St (New w w') (srcP bk ca bs cc) w') := by
 have hK : Kn w none_ [] (CellsAt ca (bs.map (Value.int .u8))) := fun w' hs => hc.ext hs.upd
 refine fn (M := none_) (rs := [.tmp 2]) Try.func74 rfl Try.ntmps74 rfl rfl (Sep.start _ _) ?_
 refine hSeq ?_
 refine hReg (sq 0 sz) (by kernel_rfl) ?_
 refine asn rfl rfl rfl ?_
 refine rNil ?_
 refine qSeq rfl ?_
 refine hSeq ?_
 refine hReg (sq 0 (sq 1 (sl 2 (sq 3 sz)))) (by kernel_rfl) ?_
 refine mvS rfl rfl rfl ?_
 refine bld rfl rfl rfl (bld130_0_2 (.slice _ _ _) (.int .i64 _) rfl rfl) ?_
 refine box trv1 rfl rfl rfl rfl (fun bkb1 hbkb1 => ?_)
 refine asn rfl rfl rfl ?_
 refine rNil ?_
 refine qSeq rfl ?_
 refine hSeq ?_
 refine hSeq ?_
 refine hReg (sq 0 sz) (by kernel_rfl) ?_
 refine asI rfl rfl rfl ?_
 refine rNil ?_
 refine qSeq rfl ?_
 refine hBlk ?_
 refine hLoop (α := Int × Int) (fun x => (0 ≤ x.1 ∧ x.1 ≤ 64) ∧ (0 ≤ x.2 ∧ x.2 ≤ 2147483646)) (fun x => (64 - x.1).toNat) (fun x => [blk bkb1 130 [.slice ca bs.length cc, .int .i64 0, .int .i64 x.2]]) (fun x => [(0, .slice ca bs.length cc), (3, .pointer (some ⟨bkb1, 0, none⟩)), (4, .int .i64 x.1)]) (0, 45007) ⟨by decide, by decide⟩ (fun _ h => h) ⟨rfl, rfl, rfl, trivial⟩ ?_
 rintro ⟨i, s⟩ τ1 ⟨⟨hi, hi2⟩, hs1, hs2⟩
 dsimp only at hi hi2 hs1 hs2
 refine hRe [(0, .slice ca bs.length cc), (3, .pointer (some ⟨bkb1, 0, none⟩)), (4, .int .i64 i)] [blk bkb1 130 [.slice ca bs.length cc, .int .i64 0, .int .i64 s]] rfl rfl ?_
 refine hSeq ?_
 refine hSeq ?_
 refine hReg (sq 0 (sq 1 (sq 2 (sq 3 (sq 4 (sq 5 (sq 6 (sq 7 sz)))))))) (by kernel_rfl) ?_
 refine mvI rfl rfl rfl ?_
 refine mvS rfl rfl rfl ?_
 refine lenS Try.runUnderlying32 rfl rfl rfl ?_
 refine lss rfl rfl rfl rfl ?_
 refine mvB rfl rfl rfl ?_
 refine rBoolD (d := 12) rfl (fun g1 => ?_) (fun g1 => ?_)
 ·
  refine mvI rfl rfl rfl ?_
  refine lss rfl rfl rfl rfl ?_
  refine pickB rfl rfl rfl rfl ?_
  refine rNil ?_
  refine qSeq rfl ?_
  refine hIfD rfl (fun c2 => ?_) (fun c2 => ?_)
  ·
   refine hSkip ?_
   refine qSeq rfl ?_
   refine hSeq ?_
   refine hBlk ?_
   refine hDraw (by kernel_rfl) (sq 0 (sq 1 (sq 2 (sq 3 (sq 4 (sq 5 (sq 6 (sq 7 (sq 8 (sq 9 (sq 10 (sq 11 (sq 12 (sl 13 (sq 14 (sf 15 sz)))))))))))))))) (by kernel_rfl) (.cons_cons _ .slnil) ?_
   refine mvP rfl rfl rfl ?_
   refine mvP rfl rfl rfl ?_
   refine nilc rfl rfl rfl ?_
   refine fld fl130_2 rfl rfl rfl ?_
   refine ldq Try.isAgg2 (cB 0 rfl rfl) rfl rfl rfl ?_
   refine mul rfl rfl rfl rfl (by omega) ?_
   refine mvS rfl rfl rfl ?_
   refine mvI rfl rfl rfl ?_
   refine ixq el32 (Kn.drop (k := 1) hK) (fun _ h => h.sub (.cons_cons _ .slnil)) rfl rfl rfl rfl (by omega) (by omega) (map_get (by omega)) ?_
   intro ae3 e3
   refine ldq Try.isAgg5 (e3) rfl rfl rfl ?_
   refine cnvI Try.runUnderlying5 Try.runUnderlying2 rfl rfl rfl (by have := hok.at_ i.toNat; omega) ?_
   refine add rfl rfl rfl rfl (by have := hok.at_ i.toNat; omega) ?_
   refine rem rfl rfl rfl rfl (by have := hok.at_ i.toNat; omega) ?_
   refine nilcL (fun _ h => h.sub (.cons_cons _ .slnil)) rfl rfl rfl ?_
   refine fld fl130_2 rfl rfl rfl ?_
   refine stf (v := .int .i64 _) 0 rfl Try.sizeOf2 rfl rfl rfl rfl rfl (Nat.le_of_ble_eq_true rfl) ?_
   refine rNil ?_
   refine qSeq rfl ?_
   refine hReg (sq 0 (sq 1 (sq 2 sz))) (by kernel_rfl) ?_
   refine mvI rfl rfl rfl ?_
   refine add rfl rfl rfl rfl (by omega) ?_
   refine asI rfl rfl rfl ?_
   refine rNil ?_
   exact qNext rfl (i + 1, (s * 61 + bs.getD i.toNat 0) % 2147483647) (by dsimp only; omega) ⟨by dsimp only; omega, by dsimp only; omega⟩ ⟨rfl, rfl, rfl, trivial⟩ (fun _ h => h)
  ·
   refine hExit rfl ?_
   refine qSeq rfl ?_
   refine hSeq ?_
   refine hReg (sq 0 (sq 1 sz)) (by kernel_rfl) ?_
   refine mvP rfl rfl rfl ?_
   refine asn rfl rfl rfl ?_
   refine rNil ?_
   refine qSeq rfl ?_
   refine hRet ?_
   exact fun w hs => ⟨[.pointer _], ⟨rfl, trivial⟩, ⟨_, rfl, hbkb1, hs.upd, (hs.fresh0 rfl).imp fun w h => ⟨_, _, h, by omega, by omega, by omega, by omega⟩⟩⟩
 ·
  refine rSkipQ rfl rfl ?_
  refine rSkipQ rfl rfl ?_
  refine pickB rfl rfl rfl rfl ?_
  refine rNil ?_
  refine qSeq rfl ?_
  refine hIfF rfl ?_
  refine hExit rfl ?_
  refine qSeq rfl ?_
  refine hSeq ?_
  refine hReg (sq 0 (sq 1 sz)) (by kernel_rfl) ?_
  refine mvP rfl rfl rfl ?_
  refine asn rfl rfl rfl ?_
  refine rNil ?_
  refine qSeq rfl ?_
  refine hRet ?_
  exact fun w hs => ⟨[.pointer _], ⟨rfl, trivial⟩, ⟨_, rfl, hbkb1, hs.upd, (hs.fresh0 rfl).imp fun w h => ⟨_, _, h, by omega, by omega, by omega, by omega⟩⟩⟩
end Go.Proofs.Yteaahdakammffaa
/- A slice put into an owned row; plain facts on bet trees. No condition. -/
namespace Go.Proofs.Yteaahdakammffaa.V
open Go Go.RowKit
set_option linter.unusedVariables false
set_option linter.unusedSimpArgs false
section
variable {P : Program} {n : Nat} {w0 : World} {M : Nat → Prop} {L L' : List (World → Prop)} {σ : Fr} {K K' : Ko} {c x y : Code} {ops : Array Oper} {S : World → Prop} {r : Sch} {i : Nat}
variable {d : Nat} {t : TypeId} {p : String} {af : Array Edge} {g : Option (Nat × Bool)} {a b : Operand}
variable {α : Type} {k : RK α} {ty e e1 by_ N C : Nat} {ao : Option Addr} {hs : Nat → Hd} {xs : List α} {zc : List Value}
end
end Go.Proofs.Yteaahdakammffaa.V
namespace Go.Proofs.Yteaahdakammffaa.Math
open Go.Proofs.Yteaahdakammffaa.V
/-- How often a tree may grow on. -/
def ckN (ck : Bool) : Int := if ck then 2 else 3
def p2 : Nat → Nat
 | 0 => 1
 | f + 1 => p2 f + p2 f
/-- A bet tree: the nodes that are added. -/
def growF : Nat → Int → Int → Int → Int → Int → Bool → Nat → List Nd
 | 0, _, _, _, _, _, _, _ => []
 | f + 1, pl, p0, p1, bet, r, ck, b =>
  if p0 = p1 then
   ⟨pl, p0, p1, -1, [((b + 1 : Nat) : Int), ((b + 1 + (if ck then [(⟨2, p0, p1, -1, []⟩ : Nd)] else growF f (1 - pl) p0 p1 bet r true (b + 1)).length : Nat) : Int)]⟩ ::
    ((if ck then [(⟨2, p0, p1, -1, []⟩ : Nd)] else growF f (1 - pl) p0 p1 bet r true (b + 1)) ++
     growF f (1 - pl) (if pl = 0 then p1 + bet else p0) (if pl = 0 then p1 else p0 + bet) bet r false (b + 1 + (if ck then [(⟨2, p0, p1, -1, []⟩ : Nd)] else growF f (1 - pl) p0 p1 bet r true (b + 1)).length))
  else if r = 0 then [⟨pl, p0, p1, -1, [((b + 1 : Nat) : Int), ((b + 1 + 1 : Nat) : Int)]⟩, ⟨2, p0, p1, pl, []⟩, ⟨2, if pl = 0 then p1 else p0, if pl = 0 then p1 else p0, -1, []⟩]
  else ⟨pl, p0, p1, -1, [((b + 1 : Nat) : Int), ((b + 1 + 1 : Nat) : Int), ((b + 1 + 1 + 1 : Nat) : Int)]⟩ :: ⟨2, p0, p1, pl, []⟩ :: ⟨2, if pl = 0 then p1 else p0, if pl = 0 then p1 else p0, -1, []⟩ ::
   growF f (1 - pl) (if pl = 0 then p1 + bet else p0) (if pl = 0 then p1 else p0 + bet) bet (r - 1) false (b + 1 + 1 + 1)
section
variable {z : List Nd} {f n n1 n2 : Nat} {pl p0 p1 q0 q1 o bet r r1 pm : Int} {ck : Bool} {ch : List Int} {A B : List Nd}
end
def betAt (ante bet r : Int) : List Nd × Int := if (0 ≤ ante ∧ ante ≤ 100) ∧ (1 ≤ bet ∧ bet ≤ 100) ∧ (0 ≤ r ∧ r ≤ 2) ∧ ante + bet * (r + 1) ≤ 100 then (growF 5 0 ante ante bet r false 0, 0) else ([], 2)
end Go.Proofs.Yteaahdakammffaa.Math
/- Calls that turn what they are handed, and read what nobody turns. No condition. -/
namespace Go.Proofs.Yteaahdakammffaa.V
open Go Go.RowKit
set_option linter.unusedVariables false
set_option linter.unusedSimpArgs false
section
variable {P : Program} {n : Nat} {w0 : World} {M : Nat → Prop} {L L' Lf Lr : List (World → Prop)} {σ : Fr} {K K' : Ko} {c x y : Code} {ops : Array Oper} {S : World → Prop} {r : Sch} {i : Nat}
variable {d : Nat} {t : TypeId} {p : String} {af : Array Edge} {g : Option (Nat × Bool)} {a b : Operand}
theorem callMK {α : Type} {f : FuncId} {args : Array Operand} {tys : Array TypeId} {val : α → Value} {good : α → Prop} {φs : α → List (World → Prop)} (hL : L = Lf ++ Lr) (hf : ∀ args w, (callFunc f args).run P w = .ok (.enter f args) w) (hS : ∀ x w, Sep w0 M (φs x ++ Lr) w → S w) (ho : ops[i]? = some ⟨some d, .call ⟨.value (.func f), args, tys⟩, t, p, af, g⟩) (hg : go ops σ g)
  (hc : ∀ w M0, Sep w M0 Lf w → (∀ φ, Kn w0 M [] φ → Kn w M0 [] φ) → Calls P f (args.toList.map (ev σ)).toArray w (Ret fun v' w' => ∃ x, v' = val x ∧ good x ∧ Sep w M0 (φs x) w')) (h : ∀ x, good x → RG P n w0 M ops S (φs x ++ Lr) r (upd σ d (val x)) K) : RG P n w0 M ops S L (.op .l i r) σ K := by
 subst hL
 exact rL (Lx := fun x => φs x ++ Lr) (v := val) hS ho hg (fun w hs => by
  obtain ⟨M0, h1, h2⟩ := hs.focus
  refine call_opw hf (hc w M0 h1 fun φ hk w' hs' => hk w' ((h2 [] w' hs').sub (List.nil_sublist _))) fun v' w' ⟨x, he, hx, hsep⟩ => by subst he; exact ⟨x, hx, h2 _ _ hsep, rfl⟩) h
end
theorem Sep.nilU {w w' : World} {M : Nat → Prop} (h : Upd M w w') : Sep w M [] w' := ⟨h, [], trivial⟩
end Go.Proofs.Yteaahdakammffaa.V
namespace Go.Proofs.Yteaahdakammffaa
open Go Go.RowKit V
theorem src_in {bk : Nat} {ca : Option Addr} {bs : List Int} {cc : Nat} {w : World} {M0 : Nat → Prop} {L : List (World → Prop)} (hs0 : V.Sep w M0 (srcP bk ca bs cc :: L) w) (hc : Kn w M0 [] (CellsAt ca (bs.map (Value.int .u8)))) (hok : okBytes bs) : SrcIn bk ca bs cc w := by
 refine ⟨hs0.at_ 0 rfl, fun w' hu => hc w' (Sep.nilU (hu.mono fun k hk hb => ?_)), hok⟩
 subst hb
 obtain ⟨_, fs, h⟩ := hs0
 match fs, h with
 | f :: fs, ⟨h1, _, h3, _⟩ =>
  have hm := srcP_mem f w h3
  exact (h1 _ hm).1.resolve_left (Nat.not_le_of_lt (h1 _ hm).2)
 | [], h => exact h.elim
theorem src_out {bk : Nat} {ca : Option Addr} {bs : List Int} {cc : Nat} {w w' : World} {M0 : Nat → Prop} {L : List (World → Prop)} (hs0 : V.Sep w M0 (srcP bk ca bs cc :: L) w) (hu : Upd (fun k => k = bk) w w') (h : srcP bk ca bs cc w') : V.Sep w M0 (srcP bk ca bs cc :: L) w' :=
 hs0.change 0 rfl fun f hf => ⟨f, fun _ h => .inl h, srcP_st f w' h (srcP_mem f w hf), hu.mono fun k _ hk => by subst hk; exact srcP_mem f w hf⟩
end Go.Proofs.Yteaahdakammffaa
/- Numbers that a source hands out. Their conditions stand in each. -/
namespace Go.Proofs.Yteaahdakammffaa
open Go Go.RowKit V
set_option linter.unusedVariables false
set_option linter.unusedSimpArgs false
set_option maxRecDepth 100000
theorem src_next (bk : Nat) (ca : Option Addr) (bs : List Int) (cc : Nat) (n : Int) (w : World) (M0 : Nat → Prop) (hs0 : V.Sep w M0 [srcP bk ca bs cc] w) (hc : Kn w M0 [] (CellsAt ca (bs.map (Value.int .u8)))) (hok : okBytes bs) :
  Calls Try.prog 76 #[.pointer (some ⟨bk, 0, none⟩), .int .i64 n] w (Ret fun v w' => ∃ x : Int, v = .int .i64 x ∧ (0 ≤ x ∧ (x < n ∨ x = 0)) ∧ V.Sep w M0 [srcP bk ca bs cc] w') :=
 Calls.mono (l01Next_c bk ca bs cc n w (src_in hs0 hc hok)) fun e w' ⟨v, he, x, hv, hx, hu, h⟩ => ⟨v, he, x, hv, hx, src_out hs0 hu h⟩
end Go.Proofs.Yteaahdakammffaa
/- Contracts of what laws on exchanges call. Their conditions stand in each. -/
namespace Go.Proofs.Yteaahdakammffaa
open Go Go.RowKit V
set_option linter.unusedVariables false
set_option linter.unusedSimpArgs false
set_option maxRecDepth 100000
theorem slices_Index_4_int64_4_int64_c (az : Option Addr) (nz : Nat) (cz : Nat) (Hz : Nat → Hd) (z : List (List Int)) (p : List Int) (w : World) (rz : RdR a4K az nz Hz z w) (hz : ∀ x ∈ z, Iso.isP x) (hp : p.length = 4) :
  Calls Try.prog 131 #[.slice az nz cz, .agg #[.int .i64 (p.getD 0 0), .int .i64 (p.getD 1 0), .int .i64 (p.getD 2 0), .int .i64 (p.getD 3 0)]] w (Ret fun v w' => v = .int .i64 (Iso.indexOf4 z p) ∧ Ext w w') := by
 have kz : Kn w none_ [] (RdR a4K az nz Hz z) := fun w' hs => rz.ext hs.upd
 have lz : z.length = nz := rz.1
 have mz : nz ≤ 9223372036854775807 := rz.2.1
 refine fn (M := none_) (rs := [.tmp 4]) Try.func131 rfl Try.ntmps131 rfl rfl (Sep.start _ _) ?_
 refine hSeq ?_
 refine hReg (sl 0 (sq 1 sz)) (by kernel_rfl) ?_
 refine box trv1 rfl rfl rfl rfl (fun bkb1 hbkb1 => ?_)
 refine asI rfl rfl rfl ?_
 refine rNil ?_
 refine qSeq rfl ?_
 refine hSeq ?_
 refine hSeq ?_
 refine hReg (sq 0 (sq 1 (sq 2 sz))) (by kernel_rfl) ?_
 refine mvS rfl rfl rfl ?_
 refine lenS Try.runUnderlying88 rfl rfl rfl ?_
 refine mvI rfl rfl rfl ?_
 refine rNil ?_
 refine qSeq rfl ?_
 refine hBlk ?_
 refine hLoop (α := Nat) (fun i => i ≤ nz ∧ ∀ j, j < i → z.getD j [] ≠ p) (fun i => nz - i) (fun i => [blk bkb1 90 [.int .i64 (p.getD 0 0), .int .i64 (p.getD 1 0), .int .i64 (p.getD 2 0), .int .i64 (p.getD 3 0)]]) (fun i => [(0, .slice az nz cz), (3, .pointer (some ⟨bkb1, 0, none⟩)), (7, .int .i64 (nz : Int)), (8, .int .i64 (i : Int))]) 0 ⟨Nat.zero_le _, fun j hj => by omega⟩ (fun _ h => h.pick [0]) ⟨rfl, rfl, rfl, rfl, trivial⟩ ?_
 rintro i τ1 ⟨hi, hal⟩
 refine hSeq ?_
 refine hReg (sq 0 sz) (by kernel_rfl) ?_
 refine lss rfl rfl rfl rfl ?_
 refine rNil ?_
 refine qSeq rfl ?_
 refine hSeq ?_
 refine hIfD rfl (fun c1 => ?_) (fun c1 => ?_)
 ·
  replace c1 : (i : Int) < (nz : Int) := c1
  refine hSkip ?_
  refine qSeq rfl ?_
  refine hSeq ?_
  refine hBlk ?_
  refine hSeq ?_
  refine hReg (sq 0 (sq 1 sz)) (by kernel_rfl) ?_
  refine mvI rfl rfl rfl ?_
  refine asI rfl rfl rfl ?_
  refine rNil ?_
  refine qSeq rfl ?_
  refine hSeq ?_
  refine hDraw (Ls := [blk bkb1 90 [.int .i64 (p.getD 0 0), .int .i64 (p.getD 1 0), .int .i64 (p.getD 2 0), .int .i64 (p.getD 3 0)]]) (by kernel_rfl) (sq 0 (sq 1 (sq 2 (sq 3 (sq 4 (sq 5 sz)))))) (by kernel_rfl) (.cons_cons _ .slnil) ?_
  refine ldAq Try.isAgg90 Try.sizeOf90 (cBs 0 rfl) rfl rfl rfl rfl ?_
  refine mvS rfl rfl rfl ?_
  refine mvI rfl rfl rfl ?_
  refine ixRq (zn := i) (z.getD i []) el88 (Kn.drop (k := 1) kz) (fun _ h => h.pick [0]) rfl rfl rfl rfl (by omega) (by omega) rfl (nth [] (by omega)) ?_
  intro be1 oe1 e1
  refine ldAq Try.isAgg90 Try.sizeOf90 (e1) rfl rfl rfl rfl ?_
  refine eqlA4 eq4A rfl rfl rfl rfl ?_
  refine rNil ?_
  refine qSeq rfl ?_
  refine hIfD rfl (fun c2 => ?_) (fun c2 => ?_)
  ·
   replace c2 : [(p.getD 0 0), (p.getD 1 0), (p.getD 2 0), (p.getD 3 0)] = [((z.getD i []).getD 0 0), ((z.getD i []).getD 1 0), ((z.getD i []).getD 2 0), ((z.getD i []).getD 3 0)] := c2
   refine hSeq ?_
   refine hReg (sq 0 (sq 1 sz)) (by kernel_rfl) ?_
   refine mvI rfl rfl rfl ?_
   refine asI rfl rfl rfl ?_
   refine rNil ?_
   refine qSeq rfl ?_
   refine hRet ?_
   exact fun w hs => ⟨[.int .i64 (i : Int)], ⟨rfl, trivial⟩, ⟨vI (Iso.indexOf4_yes (by omega) (Iso.four_eq hp (hz _ (Math.getD_mem [] (show i < z.length by omega))).1 c2).symm hal).symm, hs.upd⟩⟩
  ·
   replace c2 : ¬ ([(p.getD 0 0), (p.getD 1 0), (p.getD 2 0), (p.getD 3 0)] = [((z.getD i []).getD 0 0), ((z.getD i []).getD 1 0), ((z.getD i []).getD 2 0), ((z.getD i []).getD 3 0)]) := c2
   refine hSkip ?_
   refine qSeq rfl ?_
   refine hReg (sq 0 (sq 1 sz)) (by kernel_rfl) ?_
   refine add rfl rfl rfl rfl (by omega) ?_
   refine mvI rfl rfl rfl ?_
   refine rNil ?_
   exact qNext rfl (i + 1) (by omega) ⟨by omega, Math.upto hal (fun h => c2 (by rw [h]))⟩ ⟨rfl, rfl, rfl, rfl, trivial⟩ (fun _ h => h.pick [0])
 ·
  replace c1 : ¬ ((i : Int) < (nz : Int)) := c1
  refine hExit rfl ?_
  refine qSeq rfl ?_
  refine hSeq ?_
  refine hReg (sq 0 sz) (by kernel_rfl) ?_
  refine asI rfl rfl rfl ?_
  refine rNil ?_
  refine qSeq rfl ?_
  refine hRet ?_
  exact fun w hs => ⟨[.int .i64 (-1)], ⟨rfl, trivial⟩, ⟨vI (Iso.indexOf4_no (i := i) (by omega) hal).symm, hs.upd⟩⟩
theorem slices_Contains_4_int64_4_int64_c (az : Option Addr) (nz : Nat) (cz : Nat) (Hz : Nat → Hd) (z : List (List Int)) (p : List Int) (w : World) (rz : RdR a4K az nz Hz z w) (hz : ∀ x ∈ z, Iso.isP x) (hp : p.length = 4) :
  Calls Try.prog 89 #[.slice az nz cz, .agg #[.int .i64 (p.getD 0 0), .int .i64 (p.getD 1 0), .int .i64 (p.getD 2 0), .int .i64 (p.getD 3 0)]] w (Ret fun v w' => v = .bool (z.contains p) ∧ Ext w w') := by
 have kz : Kn w none_ [] (RdR a4K az nz Hz z) := fun w' hs => rz.ext hs.upd
 have lz : z.length = nz := rz.1
 have mz : nz ≤ 9223372036854775807 := rz.2.1
 refine fn (M := none_) (rs := [.tmp 4]) Try.func89 rfl Try.ntmps89 rfl rfl (Sep.start _ _) ?_
 refine hSeq ?_
 refine hReg (sl 0 (sq 1 sz)) (by kernel_rfl) ?_
 refine box trv1 rfl rfl rfl rfl (fun bkb1 hbkb1 => ?_)
 refine asB rfl rfl rfl ?_
 refine rNil ?_
 refine qSeq rfl ?_
 refine hSeq ?_
 refine hReg (sq 0 (sl 1 (sl 2 (sq 3 (sq 4 sz))))) (by kernel_rfl) ?_
 refine mvS rfl rfl rfl ?_
 refine ldAl Try.isAgg90 Try.sizeOf90 (cBs 0 rfl) trv rfl rfl rfl rfl ?_
 refine callP (v := .int .i64 (Iso.indexOf4 z p)) Try.call131 trv rfl rfl (fun w hs => slices_Index_4_int64_4_int64_c _ _ _ _ _ _ w (Kn.drop (k := 1) kz w hs) (by assumption) (by first | assumption | omega)) ?_
 refine geq rfl rfl rfl rfl ?_
 refine asB rfl rfl rfl ?_
 refine rNil ?_
 refine qSeq rfl ?_
 refine hRet ?_
 exact fun w hs => ⟨[.bool (decide (0 ≤ (Iso.indexOf4 z p)))], ⟨rfl, trivial⟩, ⟨bB (Iso.indexOf4_neg z p), hs.upd⟩⟩
theorem impl_ExchangeCards_c (az : Option Addr) (nz : Nat) (cz : Nat) (z : List Int) (ap : Option Addr) (np : Nat) (cp : Nat) (p : List Int) (w : World) (rz : RdI az nz z w) (rp : RdI ap np p w) :
  Calls Try.prog 38 #[.slice az nz cz, .slice ap np cp] w (Ret fun v w' => ∃ x : Option Addr × Nat × Nat × List Int × Int, v = .tuple #[.slice x.1 x.2.1 x.2.2.1, .int .i64 x.2.2.2.2] ∧ (x.2.2.2.1 = Iso.exY z p ∧ x.2.2.2.2 = Iso.exE z p) ∧ Sep w none_ [OwnI 2 x.1 x.2.1 x.2.2.1 x.2.2.2.1] w') := by
 have kz : Kn w none_ [] (RdI az nz z) := fun w' hs => rz.ext hs.upd
 have lz : z.length = nz := rz.1
 have mz : nz ≤ 9223372036854775807 := rz.2.1
 have kp : Kn w none_ [] (RdI ap np p) := fun w' hs => rp.ext hs.upd
 have lp : p.length = np := rp.1
 have mp : np ≤ 9223372036854775807 := rp.2.1
 refine fn (M := none_) (rs := [.tmp 4, .tmp 5]) Try.func38 rfl Try.ntmps38 rfl rfl (Sep.start _ _) ?_
 refine hSeq ?_
 refine hReg (sq 0 (sq 1 sz)) (by kernel_rfl) ?_
 refine asS rfl rfl rfl ?_
 refine asI rfl rfl rfl ?_
 refine rNil ?_
 refine qSeq rfl ?_
 refine hSeq ?_
 refine hSeq ?_
 refine hReg (sq 0 (sl 1 (sq 2 sz))) (by kernel_rfl) ?_
 refine mvS rfl rfl rfl ?_
 refine callP (v := .bool (Iso.areB z)) Try.call72 trv rfl rfl (fun w hs => impl_AreCards_c _ nz cz _ w (kz w hs)) ?_
 refine not rfl rfl rfl ?_
 refine rNil ?_
 refine qSeq rfl ?_
 refine hIfN rfl (fun c1 => ?_) (fun c1 => ?_)
 ·
  replace c1 : (Iso.areB z) = false := c1
  refine hSeq ?_
  refine hReg (sq 0 (sq 1 sz)) (by kernel_rfl) ?_
  refine asS rfl rfl rfl ?_
  refine asI rfl rfl rfl ?_
  refine rNil ?_
  refine qSeq rfl ?_
  refine hRet ?_
  refine knP (fun _ h => Sep.nilI 2 h) ?_
  exact fun w hs => ⟨[.slice none 0 0, .int .i64 1], ⟨rfl, ⟨rfl, trivial⟩⟩, ⟨(none, 0, 0, [], 1), rfl, ⟨(Iso.exY_no (by rw [Iso.exE_1 (by simpa using c1)]; decide)).symm, (Iso.exE_1 (by simpa using c1)).symm⟩, hs.pick [0]⟩⟩
 ·
  replace c1 : (Iso.areB z) = true := c1
  have hps := Iso.areB_P (show Iso.areB z = true by simpa using c1)
  have hpl := Iso.areP_len hps
  have lim : (Iso.image4 p z).length = nz := by rw [Iso.image4_len]; exact lz
  refine hSkip ?_
  refine qSeq rfl ?_
  refine hSeq ?_
  refine hSeq ?_
  refine hDraw (Ls := []) (by kernel_rfl) (sq 0 (sq 1 (sq 2 (sq 3 (sq 5 (sq 6 (sq 7 (sl 4 (sl 8 (sq 9 (sq 10 sz))))))))))) (by kernel_rfl) .slnil ?_
  refine mvS rfl rfl rfl ?_
  refine lenS Try.runUnderlying23 rfl rfl rfl ?_
  refine neq rfl rfl rfl rfl ?_
  refine mvB rfl rfl rfl ?_
  refine rBoolD (d := 15) rfl (fun g2 => ?_) (fun g2 => ?_)
  ·
   replace g2 : (np : Int) ≠ 4 := g2
   have hx2 : Iso.exE z p = 2 := Iso.exE_2 (by simpa using c1) (Iso.ord_len (by omega))
   refine rSkipQ rfl rfl ?_
   refine rSkipQ rfl rfl ?_
   refine rSkipQ rfl rfl ?_
   refine rSkipL (fun _ h => h.pick []) rfl rfl ?_
   refine rSkipL (fun _ h => h.pick []) rfl rfl ?_
   refine rSkipQ rfl rfl ?_
   refine pickB rfl rfl rfl rfl ?_
   refine rNil ?_
   refine qSeq rfl ?_
   refine hIfT rfl ?_
   refine hSeq ?_
   refine hReg (sq 0 (sq 1 sz)) (by kernel_rfl) ?_
   refine asS rfl rfl rfl ?_
   refine asI rfl rfl rfl ?_
   refine rNil ?_
   refine qSeq rfl ?_
   refine hRet ?_
   refine knP (fun _ h => Sep.nilI 2 h) ?_
   exact fun w hs => ⟨[.slice none 0 0, .int .i64 2], ⟨rfl, ⟨rfl, trivial⟩⟩, ⟨(none, 0, 0, [], 2), rfl, ⟨(Iso.exY_no (by rw [hx2]; decide)).symm, hx2.symm⟩, hs.pick [0]⟩⟩
  ·
   replace g2 : ¬ ((np : Int) ≠ 4) := g2
   refine mvS rfl rfl rfl ?_
   refine sapq (zs := p) Try.underlying90 (kp) (fun _ h => h.pick []) rfl rfl rfl rfl (by omega) ?_
   intro be1 oe1 e1
   refine ldAq Try.isAgg90 Try.sizeOf90 (e1) rfl rfl rfl rfl ?_
   refine callS Try.call81 (by exact (fun _ _ h => h.pick [])) rfl rfl (fun w hs => impl_suitOrders_c  w ) ?_
   rintro ⟨ay2, ny2, cy2, Hy2, y2⟩ hr2
   dsimp only at hr2
   subst y2
   refine rKnow (fun w hs => (show OwnR a4K 90 2 ay2 ny2 cy2 Hy2 Iso.orders w from hs.at_ 0 rfl).1) (fun lenn3 => ?_)
   refine rVal (v' := .slice ay2 ny2 cy2) rfl ?_
   refine callP (v := .bool (Iso.orders.contains p)) Try.call89 (fun _ h => h.pick []) rfl rfl (fun w hs => slices_Contains_4_int64_4_int64_c _ ny2 cy2 _ _ _ w (OwnR.rd (hs.at_ 0 rfl) a4K.ok) (fun x hx => Iso.orders_isP hx) (by first | assumption | omega)) ?_
   refine not rfl rfl rfl ?_
   refine pickB rfl rfl rfl rfl ?_
   refine rNil ?_
   refine qSeq rfl ?_
   refine hIfN rfl (fun c3 => ?_) (fun c3 => ?_)
   ·
    replace c3 : (Iso.orders.contains p) = false := c3
    have hx2 : Iso.exE z p = 2 := Iso.exE_2 (by simpa using c1) (by simpa using c3)
    refine hSeq ?_
    refine hReg (sq 0 (sq 1 sz)) (by kernel_rfl) ?_
    refine asS rfl rfl rfl ?_
    refine asI rfl rfl rfl ?_
    refine rNil ?_
    refine qSeq rfl ?_
    refine hRet ?_
    refine knP (fun _ h => Sep.nilI 2 h) ?_
    exact fun w hs => ⟨[.slice none 0 0, .int .i64 2], ⟨rfl, ⟨rfl, trivial⟩⟩, ⟨(none, 0, 0, [], 2), rfl, ⟨(Iso.exY_no (by rw [hx2]; decide)).symm, hx2.symm⟩, hs.pick [0]⟩⟩
   ·
    replace c3 : (Iso.orders.contains p) = true := c3
    have hoc : Iso.orders.contains p = true := by simpa using c3
    have hx0 : Iso.exE z p = 0 := Iso.exE_0 (by simpa using c1) hoc
    have hisp := Iso.orders_isP (List.contains_iff_mem.1 hoc)
    refine hSkip ?_
    refine qSeq rfl ?_
    refine hSeq ?_
    refine hReg (sq 0 (sq 1 (sl 2 (sq 3 sz)))) (by kernel_rfl) ?_
    refine mvS rfl rfl rfl ?_
    refine lenS Try.runUnderlying23 rfl rfl rfl ?_
    refine mksI nz mk23 trv1 rfl rfl rfl rfl (rfl) (by omega) (fun bkm5 hbkm5 => ?_)
    refine asS rfl rfl rfl ?_
    refine rNil ?_
    refine qSeq rfl ?_
    refine hSeq ?_
    refine hSeq ?_
    refine hReg (sq 0 (sq 1 (sq 2 sz))) (by kernel_rfl) ?_
    refine mvS rfl rfl rfl ?_
    refine lenS Try.runUnderlying23 rfl rfl rfl ?_
    refine mvI rfl rfl rfl ?_
    refine rNil ?_
    refine qSeq rfl ?_
    refine hBlk ?_
    rw [Math.fill_start (Iso.image4 p z) nz 0]
    refine hLoop (α := Nat) (fun i => i ≤ nz) (fun i => nz - i) (fun i => [OwnI 2 (some ⟨bkm5, 0, none⟩) nz nz (((Iso.image4 p z).take i ++ List.replicate (nz - i) 0)), OwnR a4K 90 2 ay2 ny2 cy2 Hy2 Iso.orders]) (fun i => [(1, .slice ap np cp), (6, .slice (some ⟨bkm5, 0, none⟩) nz nz), (26, .slice az nz cz), (27, .int .i64 (nz : Int)), (28, .int .i64 (i : Int))]) 0 (Nat.zero_le _) (fun _ h => h.pick [0, 0]) ⟨rfl, rfl, rfl, rfl, rfl, trivial⟩ ?_
    rintro i τ1 hi
    refine hSeq ?_
    refine hReg (sq 0 sz) (by kernel_rfl) ?_
    refine lss rfl rfl rfl rfl ?_
    refine rNil ?_
    refine qSeq rfl ?_
    refine hSeq ?_
    refine hIfD rfl (fun c4 => ?_) (fun c4 => ?_)
    ·
     replace c4 : (i : Int) < (nz : Int) := c4
     have hx := hps.1 _ (Math.getD_mem 0 (show i < z.length by omega))
     have hpx := hisp.2 ((z.getD i 0) % 4).toNat
     refine hSkip ?_
     refine qSeq rfl ?_
     refine hSeq ?_
     refine hBlk ?_
     refine hSeq ?_
     refine hReg (sq 0 (sq 1 (sl 2 (sq 3 (sq 4 sz))))) (by kernel_rfl) ?_
     refine mvI rfl rfl rfl ?_
     refine ixIl (zn := i) el23 (Kn.drop (k := 2) kz) rfl rfl rfl rfl (by omega) (by omega) rfl ?_
     intro ae3 e3
     refine ldl Try.isAgg2 (e3) trv rfl rfl rfl ?_
     refine asI rfl rfl rfl ?_
     refine asI rfl rfl rfl ?_
     refine rNil ?_
     refine qSeq rfl ?_
     refine hReg (sq 0 (sq 1 (sq 2 (sq 3 (sq 4 (sq 5 (sq 6 (sq 7 (sq 8 (sl 9 (sq 10 (sq 11 (sl 12 sz))))))))))))) (by kernel_rfl) ?_
     refine mvS rfl rfl rfl ?_
     refine mvI rfl rfl rfl ?_
     refine mvI rfl rfl rfl ?_
     refine quo rfl rfl rfl rfl (by omega) ?_
     refine mul rfl rfl rfl rfl (by omega) ?_
     refine mvS rfl rfl rfl ?_
     refine mvI rfl rfl rfl ?_
     refine rem rfl rfl rfl rfl (by omega) ?_
     refine ixIl (zn := (((z.getD i 0) % 4)).toNat) el23 (Kn.drop (k := 2) kp) rfl rfl rfl rfl (by omega) (by omega) rfl ?_
     intro ae4 e4
     refine ldl Try.isAgg2 (e4) trv rfl rfl rfl ?_
     refine add rfl rfl rfl rfl (by omega) ?_
     refine oxI (zn := i) 0 rfl el23 rfl rfl rfl rfl (by omega) (by omega) rfl ?_
     intro gk5 hgk5
     refine stoI (off := i) (x := ((((z.getD i 0) / 4) * 4) + (p.getD ((((z.getD i 0) % 4)).toNat) 0))) 0 rfl hgk5 Try.sizeOf2 trv rfl rfl rfl rfl (by omega) ?_
     refine rNil ?_
     refine qSeq rfl ?_
     refine hReg (sq 0 (sq 1 sz)) (by kernel_rfl) ?_
     refine add rfl rfl rfl rfl (by omega) ?_
     refine mvI rfl rfl rfl ?_
     refine rNil ?_
     rw [show (((((z.getD i 0) / 4) * 4) + (p.getD ((((z.getD i 0) % 4)).toNat) 0))) = (Iso.image4 p z).getD i 0 from (Iso.image4_at (by omega)).symm, Math.fill_step 0 0 lim (by omega)]
     exact qNext rfl (i + 1) (by omega) (by omega) ⟨rfl, rfl, rfl, rfl, rfl, trivial⟩ (fun _ h => h.pick [0, 0])
    ·
     replace c4 : ¬ ((i : Int) < (nz : Int)) := c4
     refine hExit rfl ?_
     refine qSeq rfl ?_
     refine hSeq ?_
     refine hReg (sq 0 (sq 1 (sq 2 sz))) (by kernel_rfl) ?_
     refine mvS rfl rfl rfl ?_
     refine asS rfl rfl rfl ?_
     refine asI rfl rfl rfl ?_
     refine rNil ?_
     refine qSeq rfl ?_
     refine hRet ?_
     exact fun w hs => ⟨[.slice (some ⟨bkm5, 0, none⟩) nz nz, .int .i64 0], ⟨rfl, ⟨rfl, trivial⟩⟩, ⟨((some ⟨bkm5, 0, none⟩), nz, nz, ((Iso.image4 p z).take i ++ List.replicate (nz - i) 0), 0), rfl, ⟨by rw [Iso.exY_0 hx0]; exact Math.fill_end 0 lim (by omega), hx0.symm⟩, hs.pick [0]⟩⟩
end Go.Proofs.Yteaahdakammffaa
/- Contracts of what laws on same deals call. Their conditions stand in each. -/
namespace Go.Proofs.Yteaahdakammffaa
open Go Go.RowKit V
set_option linter.unusedVariables false
set_option linter.unusedSimpArgs false
set_option maxRecDepth 100000
theorem bsl23_3 (v0 v1 v2 : Value) (h0 : v0.cells = #[v0]) (h1 : v1.cells = #[v1]) (h2 : v2.cells = #[v2]) : ∀ w, (Instr.buildSlice 23 3 ([(0, v0), (1, v1), (2, v2)] : List (Nat × Value)).toArray).run Try.prog w = .ok (.slice (some ⟨w.heap.size, 0, none⟩) 3 3) (w.alloc (.cells ([v0, v1, v2] : List Value).toArray 2)) := by
 intro w; simp [Instr.buildSlice, Instr.fill, Try.zeroValue2, Try.runUnderlying23, Try.sizeOf2, Value.cells_int, newRow, show Array.range 3 = #[0, 1, 2] from by decide, h0, h1, h2]
theorem equal2_c (az : Option Addr) (nz : Nat) (cz : Nat) (z : List Int) (ay : Option Addr) (ny : Nat) (cy : Nat) (y : List Int) (w : World) (rz : RdI az nz z w) (ry : RdI ay ny y w) :
  Calls Try.prog 82 #[.slice az nz cz, .slice ay ny cy] w (Ret fun v w' => v = .bool (decide (z = y)) ∧ Ext w w') := by
 have kz : Kn w none_ [] (RdI az nz z) := fun w' hs => rz.ext hs.upd
 have lz : z.length = nz := rz.1
 have mz : nz ≤ 9223372036854775807 := rz.2.1
 have ky : Kn w none_ [] (RdI ay ny y) := fun w' hs => ry.ext hs.upd
 have ly : y.length = ny := ry.1
 have my : ny ≤ 9223372036854775807 := ry.2.1
 refine fn (M := none_) (rs := [.tmp 4]) Try.func82 rfl Try.ntmps82 rfl rfl (Sep.start _ _) ?_
 refine hSeq ?_
 refine hReg (sq 0 sz) (by kernel_rfl) ?_
 refine asB rfl rfl rfl ?_
 refine rNil ?_
 refine qSeq rfl ?_
 refine hSeq ?_
 refine hSeq ?_
 refine hReg (sq 0 (sq 1 (sq 2 (sq 3 (sq 4 sz))))) (by kernel_rfl) ?_
 refine mvS rfl rfl rfl ?_
 refine lenS Try.runUnderlying23 rfl rfl rfl ?_
 refine mvS rfl rfl rfl ?_
 refine lenS Try.runUnderlying23 rfl rfl rfl ?_
 refine neq rfl rfl rfl rfl ?_
 refine rNil ?_
 refine qSeq rfl ?_
 refine hIfD rfl (fun c1 => ?_) (fun c1 => ?_)
 ·
  replace c1 : (nz : Int) ≠ (ny : Int) := c1
  refine hSeq ?_
  refine hReg (sq 0 sz) (by kernel_rfl) ?_
  refine asB rfl rfl rfl ?_
  refine rNil ?_
  refine qSeq rfl ?_
  refine hRet ?_
  exact fun w hs => ⟨[.bool false], ⟨rfl, trivial⟩, ⟨bF (fun h => c1 (by rw [← lz, ← ly, h])), hs.upd⟩⟩
 ·
  replace c1 : ¬ ((nz : Int) ≠ (ny : Int)) := c1
  refine hSkip ?_
  refine qSeq rfl ?_
  refine hSeq ?_
  refine hSeq ?_
  refine hReg (sq 0 (sq 1 (sq 2 sz))) (by kernel_rfl) ?_
  refine mvS rfl rfl rfl ?_
  refine lenS Try.runUnderlying23 rfl rfl rfl ?_
  refine mvI rfl rfl rfl ?_
  refine rNil ?_
  refine qSeq rfl ?_
  refine hBlk ?_
  refine hLoop (α := Nat) (fun i => i ≤ nz ∧ ∀ j, j < i → z.getD j 0 = y.getD j 0) (fun i => nz - i) (fun i => []) (fun i => [(0, .slice az nz cz), (1, .slice ay ny cy), (12, .int .i64 (nz : Int)), (13, .int .i64 (i : Int))]) 0 ⟨Nat.zero_le _, fun j hj => by omega⟩ (fun _ h => h.pick []) ⟨rfl, rfl, rfl, rfl, trivial⟩ ?_
  rintro i τ1 ⟨hi, hal⟩
  refine hSeq ?_
  refine hReg (sq 0 sz) (by kernel_rfl) ?_
  refine lss rfl rfl rfl rfl ?_
  refine rNil ?_
  refine qSeq rfl ?_
  refine hSeq ?_
  refine hIfD rfl (fun c2 => ?_) (fun c2 => ?_)
  ·
   replace c2 : (i : Int) < (nz : Int) := c2
   refine hSkip ?_
   refine qSeq rfl ?_
   refine hSeq ?_
   refine hBlk ?_
   refine hSeq ?_
   refine hReg (sq 0 (sq 1 sz)) (by kernel_rfl) ?_
   refine mvI rfl rfl rfl ?_
   refine asI rfl rfl rfl ?_
   refine rNil ?_
   refine qSeq rfl ?_
   refine hSeq ?_
   refine hDraw (Ls := []) (by kernel_rfl) (sq 0 (sq 1 (sq 2 (sq 3 (sq 4 (sq 5 (sq 6 (sq 7 (sq 8 sz))))))))) (by kernel_rfl) .slnil ?_
   refine mvS rfl rfl rfl ?_
   refine mvI rfl rfl rfl ?_
   refine ixIq (zn := i) el23 (kz) (fun _ h => h.pick []) rfl rfl rfl rfl (by omega) (by omega) rfl ?_
   intro ae1 e1
   refine ldq Try.isAgg2 (e1) rfl rfl rfl ?_
   refine mvS rfl rfl rfl ?_
   refine mvI rfl rfl rfl ?_
   refine ixIq (zn := i) el23 (ky) (fun _ h => h.pick []) rfl rfl rfl rfl (by omega) (by omega) rfl ?_
   intro ae2 e2
   refine ldq Try.isAgg2 (e2) rfl rfl rfl ?_
   refine neq rfl rfl rfl rfl ?_
   refine rNil ?_
   refine qSeq rfl ?_
   refine hIfD rfl (fun c3 => ?_) (fun c3 => ?_)
   ·
    replace c3 : (z.getD i 0) ≠ (y.getD i 0) := c3
    refine hSeq ?_
    refine hReg (sq 0 sz) (by kernel_rfl) ?_
    refine asB rfl rfl rfl ?_
    refine rNil ?_
    refine qSeq rfl ?_
    refine hRet ?_
    exact fun w hs => ⟨[.bool false], ⟨rfl, trivial⟩, ⟨bF (fun h => c3 (by rw [h])), hs.upd⟩⟩
   ·
    replace c3 : ¬ ((z.getD i 0) ≠ (y.getD i 0)) := c3
    refine hSkip ?_
    refine qSeq rfl ?_
    refine hReg (sq 0 (sq 1 sz)) (by kernel_rfl) ?_
    refine add rfl rfl rfl rfl (by omega) ?_
    refine mvI rfl rfl rfl ?_
    refine rNil ?_
    exact qNext rfl (i + 1) (by omega) ⟨by omega, Math.upto hal (by simpa using c3)⟩ ⟨rfl, rfl, rfl, rfl, trivial⟩ (fun _ h => h.pick [])
  ·
   replace c2 : ¬ ((i : Int) < (nz : Int)) := c2
   refine hExit rfl ?_
   refine qSeq rfl ?_
   refine hSeq ?_
   refine hReg (sq 0 sz) (by kernel_rfl) ?_
   refine asB rfl rfl rfl ?_
   refine rNil ?_
   refine qSeq rfl ?_
   refine hRet ?_
   exact fun w hs => ⟨[.bool true], ⟨rfl, trivial⟩, ⟨bT (Iso.ext_getD (by omega) fun j hj => hal j (by omega)), hs.upd⟩⟩
theorem impl_AreSameDeal_c (az : Option Addr) (nz : Nat) (cz : Nat) (Hz : Nat → Hd) (z : List (List Int)) (ay : Option Addr) (ny : Nat) (cy : Nat) (Hy : Nat → Hd) (y : List (List Int)) (w : World) (rz : RdR maK az nz Hz z w) (ry : RdR maK ay ny Hy y w) :
  Calls Try.prog 31 #[.slice az nz cz, .slice ay ny cy] w (Ret fun v w' => v = .tuple #[.bool (Iso.sdB z y), .int .i64 (Iso.sdE z y)] ∧ Ext w w') := by
 have kz : Kn w none_ [] (RdR maK az nz Hz z) := fun w' hs => rz.ext hs.upd
 have lz : z.length = nz := rz.1
 have mz : nz ≤ 9223372036854775807 := rz.2.1
 have ky : Kn w none_ [] (RdR maK ay ny Hy y) := fun w' hs => ry.ext hs.upd
 have ly : y.length = ny := ry.1
 have my : ny ≤ 9223372036854775807 := ry.2.1
 refine fn (M := none_) (rs := [.tmp 4, .tmp 5]) Try.func31 rfl Try.ntmps31 rfl rfl (Sep.start _ _) ?_
 refine hSeq ?_
 refine hReg (sq 0 (sq 1 sz)) (by kernel_rfl) ?_
 refine asB rfl rfl rfl ?_
 refine asI rfl rfl rfl ?_
 refine rNil ?_
 refine qSeq rfl ?_
 refine hSeq ?_
 refine hSeq ?_
 refine hReg (sq 0 (sl 1 (sq 2 sz))) (by kernel_rfl) ?_
 refine mvS rfl rfl rfl ?_
 refine callP (v := .int .i64 (Iso.codeS z)) Try.call80 trv rfl rfl (fun w hs => impl_checkSets_c _ nz cz _ _ w (kz w hs)) ?_
 refine asI rfl rfl rfl ?_
 refine rNil ?_
 refine qSeq rfl ?_
 refine hSeq ?_
 refine hReg (sq 0 (sq 1 sz)) (by kernel_rfl) ?_
 refine mvI rfl rfl rfl ?_
 refine neq rfl rfl rfl rfl ?_
 refine rNil ?_
 refine qSeq rfl ?_
 refine hIfD rfl (fun c1 => ?_) (fun c1 => ?_)
 ·
  replace c1 : (Iso.codeS z) ≠ 0 := c1
  have hcz : Iso.codeS z ≠ 0 := c1
  have hs1 := Iso.sdE_1 (b := y) hcz
  refine hSeq ?_
  refine hReg (sq 0 (sq 1 (sq 2 sz))) (by kernel_rfl) ?_
  refine mvI rfl rfl rfl ?_
  refine asB rfl rfl rfl ?_
  refine asI rfl rfl rfl ?_
  refine rNil ?_
  refine qSeq rfl ?_
  refine hRet ?_
  exact fun w hs => ⟨[.bool false, .int .i64 (Iso.codeS z)], ⟨rfl, ⟨rfl, trivial⟩⟩, ⟨tBI (Iso.sdB_no (by rw [hs1]; exact hcz)).symm hs1.symm, hs.upd⟩⟩
 ·
  replace c1 : ¬ ((Iso.codeS z) ≠ 0) := c1
  have hz0 : Iso.codeS z = 0 := by simpa using c1
  refine hSkip ?_
  refine qSeq rfl ?_
  refine hSeq ?_
  refine hSeq ?_
  refine hReg (sq 0 (sl 1 (sq 2 sz))) (by kernel_rfl) ?_
  refine mvS rfl rfl rfl ?_
  refine callP (v := .int .i64 (Iso.codeS y)) Try.call80 trv rfl rfl (fun w hs => impl_checkSets_c _ ny cy _ _ w (ky w hs)) ?_
  refine asI rfl rfl rfl ?_
  refine rNil ?_
  refine qSeq rfl ?_
  refine hSeq ?_
  refine hReg (sq 0 (sq 1 sz)) (by kernel_rfl) ?_
  refine mvI rfl rfl rfl ?_
  refine neq rfl rfl rfl rfl ?_
  refine rNil ?_
  refine qSeq rfl ?_
  refine hIfD rfl (fun c2 => ?_) (fun c2 => ?_)
  ·
   replace c2 : (Iso.codeS y) ≠ 0 := c2
   have hcy : Iso.codeS y ≠ 0 := c2
   have hs2 := Iso.sdE_2 hz0 hcy
   refine hSeq ?_
   refine hReg (sq 0 (sq 1 (sq 2 sz))) (by kernel_rfl) ?_
   refine mvI rfl rfl rfl ?_
   refine asB rfl rfl rfl ?_
   refine asI rfl rfl rfl ?_
   refine rNil ?_
   refine qSeq rfl ?_
   refine hRet ?_
   exact fun w hs => ⟨[.bool false, .int .i64 (Iso.codeS y)], ⟨rfl, ⟨rfl, trivial⟩⟩, ⟨tBI (Iso.sdB_no (by rw [hs2]; exact hcy)).symm hs2.symm, hs.upd⟩⟩
  ·
   replace c2 : ¬ ((Iso.codeS y) ≠ 0) := c2
   have hy0 : Iso.codeS y = 0 := by simpa using c2
   refine hSkip ?_
   refine qSeq rfl ?_
   refine hSeq ?_
   refine hSeq ?_
   refine hReg (sq 0 (sq 1 (sq 2 (sq 3 (sq 4 sz))))) (by kernel_rfl) ?_
   refine mvS rfl rfl rfl ?_
   refine lenS Try.runUnderlying22 rfl rfl rfl ?_
   refine mvS rfl rfl rfl ?_
   refine lenS Try.runUnderlying22 rfl rfl rfl ?_
   refine neq rfl rfl rfl rfl ?_
   refine rNil ?_
   refine qSeq rfl ?_
   refine hIfD rfl (fun c3 => ?_) (fun c3 => ?_)
   ·
    replace c3 : (nz : Int) ≠ (ny : Int) := c3
    have hs5 := Iso.sdE_5 hz0 hy0 (show z.length ≠ y.length by omega)
    refine hSeq ?_
    refine hReg (sq 0 (sq 1 sz)) (by kernel_rfl) ?_
    refine asB rfl rfl rfl ?_
    refine asI rfl rfl rfl ?_
    refine rNil ?_
    refine qSeq rfl ?_
    refine hRet ?_
    exact fun w hs => ⟨[.bool false, .int .i64 5], ⟨rfl, ⟨rfl, trivial⟩⟩, ⟨tBI (Iso.sdB_no (by rw [hs5]; decide)).symm hs5.symm, hs.upd⟩⟩
   ·
    replace c3 : ¬ ((nz : Int) ≠ (ny : Int)) := c3
    have hll : z.length = y.length := by omega
    have hs0 := Iso.sdE_0 hz0 hy0 hll
    have hol := Iso.orders_len
    refine hSkip ?_
    refine qSeq rfl ?_
    refine hSeq ?_
    refine hSeq ?_
    refine hReg (sl 0 (sq 1 (sq 2 sz))) (by kernel_rfl) ?_
    refine callS Try.call81 trv1 rfl rfl (fun w hs => impl_suitOrders_c  w ) ?_
    rintro ⟨ay1, ny1, cy1, Hy1, y1⟩ hr1
    dsimp only at hr1
    subst y1
    refine rKnow (fun w hs => (show OwnR a4K 90 2 ay1 ny1 cy1 Hy1 Iso.orders w from hs.at_ 0 rfl).1) (fun lenn1 => ?_)
    refine rVal (v' := .slice ay1 ny1 cy1) rfl ?_
    refine lenS Try.runUnderlying88 rfl rfl rfl ?_
    refine mvI rfl rfl rfl ?_
    refine rNil ?_
    refine qSeq rfl ?_
    refine hBlk ?_
    refine hLoop (α := Nat) (fun i => i ≤ ny1 ∧ Iso.sameTo z y i = false) (fun i => ny1 - i) (fun i => [OwnR a4K 90 2 ay1 ny1 cy1 Hy1 Iso.orders]) (fun i => [(0, .slice az nz cz), (1, .slice ay ny cy), (28, .slice ay1 ny1 cy1), (29, .int .i64 (ny1 : Int)), (30, .int .i64 (i : Int))]) 0 ⟨Nat.zero_le _, rfl⟩ (fun _ h => h.pick [0]) ⟨rfl, rfl, rfl, rfl, rfl, trivial⟩ ?_
    rintro i τ1 ⟨hi, hno⟩
    refine hSeq ?_
    refine hReg (sq 0 sz) (by kernel_rfl) ?_
    refine lss rfl rfl rfl rfl ?_
    refine rNil ?_
    refine qSeq rfl ?_
    refine hSeq ?_
    refine hIfD rfl (fun c4 => ?_) (fun c4 => ?_)
    ·
     replace c4 : (i : Int) < (ny1 : Int) := c4
     refine hSkip ?_
     refine qSeq rfl ?_
     refine hSeq ?_
     refine hBlk ?_
     refine hSeq ?_
     refine hReg (sq 0 (sl 1 (sl 2 (sl 3 sz)))) (by kernel_rfl) ?_
     refine ixRl (zn := i) (Iso.orders.getD i []) el88 ((Kn.at_ 0 rfl).imp fun _ h => OwnR.rd h a4K.ok) rfl rfl rfl rfl (by omega) (by omega) rfl (nth [] (by omega)) ?_
     intro be2 oe2 e2
     refine ldAl Try.isAgg90 Try.sizeOf90 (e2) trv rfl rfl rfl rfl ?_
     refine alc Try.zeroValue90 rfl trv1 rfl rfl (fun bka2 hbka2 => ?_)
     refine stAl (vs := [.int .i64 (((Iso.orders.getD i []).getD 0 0)), .int .i64 (((Iso.orders.getD i []).getD 1 0)), .int .i64 (((Iso.orders.getD i []).getD 2 0)), .int .i64 (((Iso.orders.getD i []).getD 3 0))]) 0 rfl Try.sizeOf90 trv rfl rfl rfl rfl rfl (by simp [Value.oneCell']) rfl ?_
     refine rNil ?_
     refine qSeq rfl ?_
     refine hSeq ?_
     refine hReg (sq 0 sz) (by kernel_rfl) ?_
     refine asB rfl rfl rfl ?_
     refine rNil ?_
     refine qSeq rfl ?_
     refine hSeq ?_
     refine hSeq ?_
     refine hReg (sq 0 (sq 1 (sq 2 sz))) (by kernel_rfl) ?_
     refine mvS rfl rfl rfl ?_
     refine lenS Try.runUnderlying22 rfl rfl rfl ?_
     refine mvI rfl rfl rfl ?_
     refine rNil ?_
     refine qSeq rfl ?_
     refine hBlk ?_
     refine hLoop (α := Nat × Bool) (fun x => x.1 ≤ nz ∧ x.2 = Iso.dealB (Iso.orders.getD i []) z y x.1) (fun x => nz - x.1) (fun x => [blk bka2 90 [.int .i64 (((Iso.orders.getD i []).getD 0 0)), .int .i64 (((Iso.orders.getD i []).getD 1 0)), .int .i64 (((Iso.orders.getD i []).getD 2 0)), .int .i64 (((Iso.orders.getD i []).getD 3 0))], OwnR a4K 90 2 ay1 ny1 cy1 Hy1 Iso.orders]) (fun x => [(0, .slice az nz cz), (1, .slice ay ny cy), (9, .pointer (some ⟨bka2, 0, none⟩)), (10, .bool x.2), (28, .slice ay1 ny1 cy1), (29, .int .i64 (ny1 : Int)), (30, .int .i64 (i : Int)), (34, .slice az nz cz), (35, .int .i64 (nz : Int)), (36, .int .i64 (x.1 : Int))]) (0, true) ⟨Nat.zero_le _, rfl⟩ (fun _ h => h.pick [0, 0]) ⟨rfl, rfl, rfl, rfl, rfl, rfl, rfl, rfl, rfl, rfl, trivial⟩ ?_
     rintro ⟨j, b⟩ τ2 ⟨hj, hb⟩
     dsimp only at hj hb
     refine hRe [(0, .slice az nz cz), (1, .slice ay ny cy), (9, .pointer (some ⟨bka2, 0, none⟩)), (10, .bool b), (28, .slice ay1 ny1 cy1), (29, .int .i64 (ny1 : Int)), (30, .int .i64 (i : Int)), (34, .slice az nz cz), (35, .int .i64 (nz : Int)), (36, .int .i64 (j : Int))] [blk bka2 90 [.int .i64 (((Iso.orders.getD i []).getD 0 0)), .int .i64 (((Iso.orders.getD i []).getD 1 0)), .int .i64 (((Iso.orders.getD i []).getD 2 0)), .int .i64 (((Iso.orders.getD i []).getD 3 0))], OwnR a4K 90 2 ay1 ny1 cy1 Hy1 Iso.orders] rfl rfl ?_
     refine hSeq ?_
     refine hReg (sq 0 sz) (by kernel_rfl) ?_
     refine lss rfl rfl rfl rfl ?_
     refine rNil ?_
     refine qSeq rfl ?_
     refine hSeq ?_
     refine hIfD rfl (fun c5 => ?_) (fun c5 => ?_)
     ·
      replace c5 : (j : Int) < (nz : Int) := c5
      have hps := Iso.codeS_at hz0 (show j < z.length by omega)
      have hpl := Iso.areP_len hps
      have hqs := Iso.codeS_at hy0 (show j < y.length by omega)
      have hql := Iso.areP_len hqs
      refine hSkip ?_
      refine qSeq rfl ?_
      refine hSeq ?_
      refine hBlk ?_
      refine hSeq ?_
      refine hReg (sq 0 (sq 1 (sl 2 (sq 3 (sq 4 sz))))) (by kernel_rfl) ?_
      refine mvI rfl rfl rfl ?_
      refine ixRl (zn := j) (z.getD j []) el22 (Kn.drop (k := 2) kz) rfl rfl rfl rfl (by omega) (by omega) rfl (nth [] (by omega)) ?_
      intro be3 oe3 e3
      refine ldl Try.isAgg23 (Kn.fld e3 0 rfl) trv rfl rfl rfl ?_
      refine asI rfl rfl rfl ?_
      refine asS rfl rfl rfl ?_
      refine rNil ?_
      refine qSeq rfl ?_
      refine hDraw (Ls := [blk bka2 90 [.int .i64 (((Iso.orders.getD i []).getD 0 0)), .int .i64 (((Iso.orders.getD i []).getD 1 0)), .int .i64 (((Iso.orders.getD i []).getD 2 0)), .int .i64 (((Iso.orders.getD i []).getD 3 0))]]) (by kernel_rfl) (sq 0 (sq 1 (sq 2 (sq 3 (sq 5 (sq 6 (sq 7 (sq 8 (sl 4 (sl 9 (sl 10 (sl 11 (sq 12 (sq 13 sz)))))))))))))) (by kernel_rfl) (.cons_cons _ (.cons _ .slnil)) ?_
      refine mvB rfl rfl rfl ?_
      refine mvB rfl rfl rfl ?_
      refine rBool (d := 42) rfl (fun g6 => ?_) (fun g6 => ?_)
      ·
       replace g6 : b = true := g6
       refine mvS rfl rfl rfl ?_
       refine ldAq Try.isAgg90 Try.sizeOf90 (cBs 0 rfl) rfl rfl rfl rfl ?_
       refine mvS rfl rfl rfl ?_
       refine mvI rfl rfl rfl ?_
       refine ixRq (zn := j) (y.getD j []) el22 (Kn.drop (k := 1) ky) (fun _ h => h.pick [0]) rfl rfl rfl rfl (by omega) (by omega) rfl (nth [] (by omega)) ?_
       intro be4 oe4 e4
       refine ldq Try.isAgg23 (Kn.fld e4 0 rfl) rfl rfl rfl ?_
       refine callS Try.call83 (by exact (fun _ _ h => h.pick [1])) rfl rfl (fun w hs => impl_exchanged_c _ ((z.getD j []).length) ((Hz j).2) _ _ w (Kn.drop (k := 2) ((Kn.imp kz fun _ h => h.kidM (nth [] (by omega)))) w hs) hps.1 (by omega) (Iso.orders_at (by omega))) ?_
       rintro ⟨ay5, ny5, cy5, y5⟩ ⟨hr5a, hr5b⟩
       dsimp only at hr5a hr5b
       subst y5
       subst ny5
       refine rKnow (fun w hs => (show OwnI 2 ay5 (((((z.getD j []).length)))) cy5 (((srt (Iso.image4 (Iso.orders.getD i []) (z.getD j []))))) w from hs.at_ 0 rfl).lenz) (fun lenn3 => ?_)
       refine rVal (v' := .slice ay5 (((((z.getD j []).length)))) cy5) rfl ?_
       refine callN (α := Nat) (val := fun x => .func (.func 128) #[] #[.pointer (some ⟨x, 0, none⟩)]) (good := fun _ => True) (φ := fun x => blk x 23 [.slice ((Hy j).1) ((y.getD j []).length) ((Hy j).2)]) Try.call85 (by exact (fun _ _ h => h.pick [2])) rfl rfl (fun w hs => values_c ((Hy j).1) ((y.getD j []).length) ((Hy j).2) w) ?_
       rintro bkv4 -
       refine callS Try.call84 (by exact (fun _ _ h => h.pick [3])) rfl rfl (fun w hs => sorted_c bkv4 ((Hy j).1) ((y.getD j []).length) ((Hy j).2) (y.getD j []) w (blk.cell (hs.at_ 0 rfl) rfl) (Kn.drop (k := 4) ((Kn.imp ky fun _ h => h.kidM (nth [] (by omega)))) w hs) (by omega)) ?_
       rintro ⟨aw6, cw6⟩ -
       refine callP (v := .bool (decide ((((srt (Iso.image4 (Iso.orders.getD i []) (z.getD j []))))) = ((srt (y.getD j [])))))) Try.call82 (fun _ h => h.pick [3]) rfl rfl (fun w hs => equal2_c _ (((((z.getD j []).length)))) cy5 _ _ ((y.getD j []).length) cw6 _ w (OwnI.rd (hs.at_ 2 rfl)) (OwnI.rd (hs.at_ 0 rfl))) ?_
       refine pickB rfl rfl rfl rfl ?_
       refine asB rfl rfl rfl ?_
       refine rNil ?_
       refine qSeq rfl ?_
       refine hReg (sq 0 (sq 1 sz)) (by kernel_rfl) ?_
       refine add rfl rfl rfl rfl (by omega) ?_
       refine mvI rfl rfl rfl ?_
       refine rNil ?_
       exact qNext rfl ((j + 1, decide ((((srt (Iso.image4 (Iso.orders.getD i []) (z.getD j []))))) = ((srt (y.getD j [])))))) (by dsimp only; omega) ⟨by dsimp only; omega, by dsimp only; rw [Iso.dealB_s, ← hb, show b = true by assumption]; rfl⟩ ⟨rfl, rfl, rfl, rfl, rfl, rfl, rfl, rfl, rfl, rfl, trivial⟩ (fun _ h => h.pick [3, 3])
      ·
       replace g6 : b = false := g6
       refine rSkipQ rfl rfl ?_
       refine rSkipQ rfl rfl ?_
       refine rSkipQ rfl rfl ?_
       refine rSkipQ rfl rfl ?_
       refine rSkipQ rfl rfl ?_
       refine rSkipQ rfl rfl ?_
       refine rSkipL (fun _ h => h.pick [0]) rfl rfl ?_
       refine rSkipL (fun _ h => h.pick [0]) rfl rfl ?_
       refine rSkipL (fun _ h => h.pick [0]) rfl rfl ?_
       refine rSkipL (fun _ h => h.pick [0]) rfl rfl ?_
       refine pickB rfl rfl rfl rfl ?_
       refine asB rfl rfl rfl ?_
       refine rNil ?_
       refine qSeq rfl ?_
       refine hReg (sq 0 (sq 1 sz)) (by kernel_rfl) ?_
       refine add rfl rfl rfl rfl (by omega) ?_
       refine mvI rfl rfl rfl ?_
       refine rNil ?_
       exact qNext rfl (j + 1, false) (by dsimp only; omega) ⟨by dsimp only; omega, by dsimp only; rw [Iso.dealB_s, ← hb, show b = false by assumption]; rfl⟩ ⟨rfl, rfl, rfl, rfl, rfl, rfl, rfl, rfl, rfl, rfl, trivial⟩ (fun _ h => h.pick [0, 0])
     ·
      replace c5 : ¬ ((j : Int) < (nz : Int)) := c5
      have hdl : b = Iso.dealB (Iso.orders.getD i []) z y z.length := by rw [hb, show j = z.length by omega]
      refine hExit rfl ?_
      refine qSeq rfl ?_
      refine hSeq ?_
      refine hReg (sq 0 sz) (by kernel_rfl) ?_
      refine mvB rfl rfl rfl ?_
      refine rNil ?_
      refine qSeq rfl ?_
      refine hIf rfl (fun c7 => ?_) (fun c7 => ?_)
      ·
       replace c7 : b = true := c7
       refine hSeq ?_
       refine hReg (sq 0 (sq 1 sz)) (by kernel_rfl) ?_
       refine asB rfl rfl rfl ?_
       refine asI rfl rfl rfl ?_
       refine rNil ?_
       refine qSeq rfl ?_
       refine hRet ?_
       exact fun w hs => ⟨[.bool true, .int .i64 0], ⟨rfl, ⟨rfl, trivial⟩⟩, ⟨tBI (by rw [Iso.sdB_0 hs0]; exact (Iso.same_here (i := i) (by omega) (by rw [← hdl]; assumption)).symm) hs0.symm, hs.upd⟩⟩
      ·
       replace c7 : b = false := c7
       refine hSkip ?_
       refine qSeq rfl ?_
       refine hReg (sq 0 (sq 1 sz)) (by kernel_rfl) ?_
       refine add rfl rfl rfl rfl (by omega) ?_
       refine mvI rfl rfl rfl ?_
       refine rNil ?_
       exact qNext rfl (i + 1) (by omega) ⟨by omega, Iso.same_snoc (by omega) hno (by rw [← hdl]; assumption)⟩ ⟨rfl, rfl, rfl, rfl, rfl, trivial⟩ (fun _ h => h.pick [1])
    ·
     replace c4 : ¬ ((i : Int) < (ny1 : Int)) := c4
     refine hExit rfl ?_
     refine qSeq rfl ?_
     refine hSeq ?_
     refine hReg (sq 0 (sq 1 sz)) (by kernel_rfl) ?_
     refine asB rfl rfl rfl ?_
     refine asI rfl rfl rfl ?_
     refine rNil ?_
     refine qSeq rfl ?_
     refine hRet ?_
     exact fun w hs => ⟨[.bool false, .int .i64 0], ⟨rfl, ⟨rfl, trivial⟩⟩, ⟨tBI (by rw [Iso.sdB_0 hs0]; exact (Iso.same_end (i := i) (by omega) hno).symm) hs0.symm, hs.upd⟩⟩
theorem spec_AreSameDeal_c (az : Option Addr) (nz : Nat) (cz : Nat) (Hz : Nat → Hd) (z : List (List Int)) (ay : Option Addr) (ny : Nat) (cy : Nat) (Hy : Nat → Hd) (y : List (List Int)) (w : World) (rz : RdR maK az nz Hz z w) (ry : RdR maK ay ny Hy y w) :
  Calls Try.prog 32 #[.slice az nz cz, .slice ay ny cy] w (Ret fun v w' => v = .tuple #[.bool (Iso.sdB z y), .int .i64 (Iso.sdE z y)] ∧ Ext w w') := by
 have kz : Kn w none_ [] (RdR maK az nz Hz z) := fun w' hs => rz.ext hs.upd
 have lz : z.length = nz := rz.1
 have mz : nz ≤ 9223372036854775807 := rz.2.1
 have ky : Kn w none_ [] (RdR maK ay ny Hy y) := fun w' hs => ry.ext hs.upd
 have ly : y.length = ny := ry.1
 have my : ny ≤ 9223372036854775807 := ry.2.1
 refine fn (M := none_) (rs := [.tmp 4, .tmp 5]) Try.func32 rfl Try.ntmps32 rfl rfl (Sep.start _ _) ?_
 refine hSeq ?_
 refine hReg (sq 0 (sq 1 sz)) (by kernel_rfl) ?_
 refine asB rfl rfl rfl ?_
 refine asI rfl rfl rfl ?_
 refine rNil ?_
 refine qSeq rfl ?_
 refine hSeq ?_
 refine hReg (sq 0 (sl 1 (sq 2 (sl 3 (sq 4 (sq 5 sz)))))) (by kernel_rfl) ?_
 refine mvS rfl rfl rfl ?_
 refine callP (v := .int .i64 (Iso.codeS z)) Try.call77 trv rfl rfl (fun w hs => spec_l18Code_c _ nz cz _ _ w (kz w hs)) ?_
 refine mvS rfl rfl rfl ?_
 refine callP (v := .int .i64 (Iso.codeS y)) Try.call77 trv rfl rfl (fun w hs => spec_l18Code_c _ ny cy _ _ w (ky w hs)) ?_
 refine asI rfl rfl rfl ?_
 refine asI rfl rfl rfl ?_
 refine rNil ?_
 refine qSeq rfl ?_
 refine hSeq ?_
 refine hBlk ?_
 refine hSeq ?_
 refine hReg (sq 0 (sq 1 (sq 2 sz))) (by kernel_rfl) ?_
 refine mvI rfl rfl rfl ?_
 refine neq rfl rfl rfl rfl ?_
 refine asB rfl rfl rfl ?_
 refine rNil ?_
 refine qSeq rfl ?_
 refine hIfD rfl (fun c1 => ?_) (fun c1 => ?_)
 ·
  replace c1 : (Iso.codeS z) ≠ 0 := c1
  have hcz : Iso.codeS z ≠ 0 := c1
  have hs1 := Iso.sdE_1 (b := y) hcz
  refine hSeq ?_
  refine hReg (sq 0 (sq 1 (sq 2 sz))) (by kernel_rfl) ?_
  refine mvI rfl rfl rfl ?_
  refine asB rfl rfl rfl ?_
  refine asI rfl rfl rfl ?_
  refine rNil ?_
  refine qSeq rfl ?_
  refine hRet ?_
  exact fun w hs => ⟨[.bool false, .int .i64 (Iso.codeS z)], ⟨rfl, ⟨rfl, trivial⟩⟩, ⟨tBI (Iso.sdB_no (by rw [hs1]; exact hcz)).symm hs1.symm, hs.upd⟩⟩
 ·
  replace c1 : ¬ ((Iso.codeS z) ≠ 0) := c1
  have hz0 : Iso.codeS z = 0 := by simpa using c1
  refine hSeq ?_
  refine hReg (sq 0 (sq 1 (sq 2 sz))) (by kernel_rfl) ?_
  refine mvI rfl rfl rfl ?_
  refine neq rfl rfl rfl rfl ?_
  refine asB rfl rfl rfl ?_
  refine rNil ?_
  refine qSeq rfl ?_
  refine hIfD rfl (fun c2 => ?_) (fun c2 => ?_)
  ·
   replace c2 : (Iso.codeS y) ≠ 0 := c2
   have hcy : Iso.codeS y ≠ 0 := c2
   have hs2 := Iso.sdE_2 hz0 hcy
   refine hSeq ?_
   refine hReg (sq 0 (sq 1 (sq 2 sz))) (by kernel_rfl) ?_
   refine mvI rfl rfl rfl ?_
   refine asB rfl rfl rfl ?_
   refine asI rfl rfl rfl ?_
   refine rNil ?_
   refine qSeq rfl ?_
   refine hRet ?_
   exact fun w hs => ⟨[.bool false, .int .i64 (Iso.codeS y)], ⟨rfl, ⟨rfl, trivial⟩⟩, ⟨tBI (Iso.sdB_no (by rw [hs2]; exact hcy)).symm hs2.symm, hs.upd⟩⟩
  ·
   replace c2 : ¬ ((Iso.codeS y) ≠ 0) := c2
   have hy0 : Iso.codeS y = 0 := by simpa using c2
   refine hSeq ?_
   refine hReg (sq 0 (sq 1 (sq 2 (sq 3 (sq 4 (sq 5 sz)))))) (by kernel_rfl) ?_
   refine mvS rfl rfl rfl ?_
   refine lenS Try.runUnderlying22 rfl rfl rfl ?_
   refine mvS rfl rfl rfl ?_
   refine lenS Try.runUnderlying22 rfl rfl rfl ?_
   refine neq rfl rfl rfl rfl ?_
   refine asB rfl rfl rfl ?_
   refine rNil ?_
   refine qSeq rfl ?_
   refine hIfD rfl (fun c3 => ?_) (fun c3 => ?_)
   ·
    replace c3 : (nz : Int) ≠ (ny : Int) := c3
    have hs5 := Iso.sdE_5 hz0 hy0 (show z.length ≠ y.length by omega)
    refine hSeq ?_
    refine hReg (sq 0 (sq 1 sz)) (by kernel_rfl) ?_
    refine asB rfl rfl rfl ?_
    refine asI rfl rfl rfl ?_
    refine rNil ?_
    refine qSeq rfl ?_
    refine hRet ?_
    exact fun w hs => ⟨[.bool false, .int .i64 5], ⟨rfl, ⟨rfl, trivial⟩⟩, ⟨tBI (Iso.sdB_no (by rw [hs5]; decide)).symm hs5.symm, hs.upd⟩⟩
   ·
    replace c3 : ¬ ((nz : Int) ≠ (ny : Int)) := c3
    have hll : z.length = y.length := by omega
    have hs0 := Iso.sdE_0 hz0 hy0 hll
    have hol := Iso.orders_len
    refine hSkip ?_
    refine qSeq rfl ?_
    refine hSeq ?_
    refine hReg (sl 0 (sq 1 sz)) (by kernel_rfl) ?_
    refine callS Try.call86 trv1 rfl rfl (fun w hs => spec_l07Suits_c  w ) ?_
    rintro ⟨ay1, ny1, cy1, Hy1, y1⟩ hr1
    dsimp only at hr1
    subst y1
    refine rKnow (fun w hs => (show OwnR maK 23 2 ay1 ny1 cy1 Hy1 Iso.orders w from hs.at_ 0 rfl).1) (fun lenn1 => ?_)
    refine rVal (v' := .slice ay1 ny1 cy1) rfl ?_
    refine asS rfl rfl rfl ?_
    refine rNil ?_
    refine qSeq rfl ?_
    refine hSeq ?_
    refine hSeq ?_
    refine hReg (sq 0 sz) (by kernel_rfl) ?_
    refine asI rfl rfl rfl ?_
    refine rNil ?_
    refine qSeq rfl ?_
    refine hBlk ?_
    refine hLoop (α := Nat) (fun i => i ≤ ny1 ∧ Iso.sameTo z y i = false) (fun i => ny1 - i) (fun i => [OwnR maK 23 2 ay1 ny1 cy1 Hy1 Iso.orders]) (fun i => [(0, .slice az nz cz), (1, .slice ay ny cy), (8, .slice ay1 ny1 cy1), (9, .int .i64 (i : Int))]) 0 ⟨Nat.zero_le _, rfl⟩ (fun _ h => h.pick [0]) ⟨rfl, rfl, rfl, rfl, trivial⟩ ?_
    rintro i τ1 ⟨hi, hno⟩
    refine hSeq ?_
    refine hSeq ?_
    refine hReg (sq 0 (sq 1 (sq 2 (sq 3 sz)))) (by kernel_rfl) ?_
    refine mvI rfl rfl rfl ?_
    refine mvS rfl rfl rfl ?_
    refine lenS Try.runUnderlying22 rfl rfl rfl ?_
    refine lss rfl rfl rfl rfl ?_
    refine rNil ?_
    refine qSeq rfl ?_
    refine hIfD rfl (fun c4 => ?_) (fun c4 => ?_)
    ·
     replace c4 : (i : Int) < (ny1 : Int) := c4
     refine hSkip ?_
     refine qSeq rfl ?_
     refine hSeq ?_
     refine hBlk ?_
     refine hSeq ?_
     refine hReg (sq 0 sz) (by kernel_rfl) ?_
     refine asB rfl rfl rfl ?_
     refine rNil ?_
     refine qSeq rfl ?_
     refine hSeq ?_
     refine hSeq ?_
     refine hReg (sq 0 sz) (by kernel_rfl) ?_
     refine asI rfl rfl rfl ?_
     refine rNil ?_
     refine qSeq rfl ?_
     refine hBlk ?_
     refine hLoop (α := Nat × Bool) (fun x => x.1 ≤ nz ∧ x.2 = Iso.dealB (Iso.orders.getD i []) z y x.1) (fun x => nz - x.1) (fun x => [OwnR maK 23 2 ay1 ny1 cy1 Hy1 Iso.orders]) (fun x => [(0, .slice az nz cz), (1, .slice ay ny cy), (8, .slice ay1 ny1 cy1), (9, .int .i64 (i : Int)), (10, .bool x.2), (11, .int .i64 (x.1 : Int))]) (0, true) ⟨Nat.zero_le _, rfl⟩ (fun _ h => h.pick [0]) ⟨rfl, rfl, rfl, rfl, rfl, rfl, trivial⟩ ?_
     rintro ⟨j, b⟩ τ2 ⟨hj, hb⟩
     dsimp only at hj hb
     refine hRe [(0, .slice az nz cz), (1, .slice ay ny cy), (8, .slice ay1 ny1 cy1), (9, .int .i64 (i : Int)), (10, .bool b), (11, .int .i64 (j : Int))] [OwnR maK 23 2 ay1 ny1 cy1 Hy1 Iso.orders] rfl rfl ?_
     refine hSeq ?_
     refine hSeq ?_
     refine hReg (sq 0 (sq 1 (sq 2 (sq 3 sz)))) (by kernel_rfl) ?_
     refine mvI rfl rfl rfl ?_
     refine mvS rfl rfl rfl ?_
     refine lenS Try.runUnderlying22 rfl rfl rfl ?_
     refine lss rfl rfl rfl rfl ?_
     refine rNil ?_
     refine qSeq rfl ?_
     refine hIfD rfl (fun c5 => ?_) (fun c5 => ?_)
     ·
      replace c5 : (j : Int) < (nz : Int) := c5
      have hps := Iso.codeS_at hz0 (show j < z.length by omega)
      have hpl := Iso.areP_len hps
      have hqs := Iso.codeS_at hy0 (show j < y.length by omega)
      have hql := Iso.areP_len hqs
      refine hSkip ?_
      refine qSeq rfl ?_
      refine hSeq ?_
      refine hBlk ?_
      refine hDraw (Ls := [OwnR maK 23 2 ay1 ny1 cy1 Hy1 Iso.orders]) (by kernel_rfl) (sq 0 (sq 1 (sq 2 (sq 3 (sq 4 (sq 5 (sq 6 (sq 7 (sq 8 (sq 9 (sq 11 (sq 12 (sq 13 (sq 14 (sl 10 (sl 15 (sq 16 (sq 17 sz)))))))))))))))))) (by kernel_rfl) (.cons_cons _ .slnil) ?_
      refine mvB rfl rfl rfl ?_
      refine mvB rfl rfl rfl ?_
      refine rBool (d := 44) rfl (fun g6 => ?_) (fun g6 => ?_)
      ·
       replace g6 : b = true := g6
       refine mvS rfl rfl rfl ?_
       refine mvI rfl rfl rfl ?_
       refine ixRq (zn := j) (z.getD j []) el22 (Kn.drop (k := 1) kz) (fun _ h => h.pick [0]) rfl rfl rfl rfl (by omega) (by omega) rfl (nth [] (by omega)) ?_
       intro be2 oe2 e2
       refine ldq Try.isAgg23 (Kn.fld e2 0 rfl) rfl rfl rfl ?_
       refine mvS rfl rfl rfl ?_
       refine mvI rfl rfl rfl ?_
       refine ixRq (zn := i) (Iso.orders.getD i []) el22 ((Kn.at_ 0 rfl).imp fun _ h => OwnR.rd h maK.ok) (fun _ h => h.pick [0]) rfl rfl rfl rfl (by omega) (by omega) rfl (nth [] (by omega)) ?_
       intro be3 oe3 e3
       refine ldq Try.isAgg23 (Kn.fld e3 0 rfl) rfl rfl rfl ?_
       refine mvS rfl rfl rfl ?_
       refine mvI rfl rfl rfl ?_
       refine ixRq (zn := j) (y.getD j []) el22 (Kn.drop (k := 1) ky) (fun _ h => h.pick [0]) rfl rfl rfl rfl (by omega) (by omega) rfl (nth [] (by omega)) ?_
       intro be4 oe4 e4
       refine ldq Try.isAgg23 (Kn.fld e4 0 rfl) rfl rfl rfl ?_
       refine callS Try.call79 (by exact (fun _ _ h => h.pick [1])) rfl rfl (fun w hs => spec_l18Image_c _ ((z.getD j []).length) ((Hz j).2) _ _ ((Iso.orders.getD i []).length) ((Hy1 i).2) _ w (Kn.drop (k := 1) ((Kn.imp kz fun _ h => h.kidM (nth [] (by omega)))) w hs) ((Kn.imp ((Kn.at_ (φ := OwnR maK 23 2 ay1 ny1 cy1 Hy1 Iso.orders) 0 rfl).imp fun _ h => OwnR.rd h maK.ok) fun _ h => h.kidM (nth [] (by omega))) w hs) hps.1 (by omega) (Iso.orders_at (by omega))) ?_
       rintro ⟨ay5, ny5, cy5, y5⟩ ⟨hr5a, hr5b⟩
       dsimp only at hr5a hr5b
       subst y5
       subst ny5
       refine rKnow (fun w hs => (show OwnI 2 ay5 (((((z.getD j []).length)))) cy5 ((((Iso.image4 (Iso.orders.getD i []) (z.getD j []))))) w from hs.at_ 0 rfl).lenz) (fun lenn2 => ?_)
       refine rVal (v' := .slice ay5 (((((z.getD j []).length)))) cy5) rfl ?_
       refine callP (v := .bool (decide ((srt ((((Iso.image4 (Iso.orders.getD i []) (z.getD j [])))))) = (srt (y.getD j []))))) Try.call87 (fun _ h => h.pick [1]) rfl rfl (fun w hs => spec_l18SameSet_c _ (((((z.getD j []).length)))) cy5 _ _ ((y.getD j []).length) ((Hy j).2) _ w (OwnI.rd (hs.at_ 0 rfl)) (Kn.drop (k := 2) ((Kn.imp ky fun _ h => h.kidM (nth [] (by omega)))) w hs) (by rw [Iso.image4_len]; omega) (by omega)) ?_
       refine pickB rfl rfl rfl rfl ?_
       refine asB rfl rfl rfl ?_
       refine rNil ?_
       refine qSeq rfl ?_
       refine hReg (sq 0 (sq 1 (sq 2 sz))) (by kernel_rfl) ?_
       refine mvI rfl rfl rfl ?_
       refine add rfl rfl rfl rfl (by omega) ?_
       refine asI rfl rfl rfl ?_
       refine rNil ?_
       exact qNext rfl ((j + 1, decide ((srt ((((Iso.image4 (Iso.orders.getD i []) (z.getD j [])))))) = (srt (y.getD j []))))) (by dsimp only; omega) ⟨by dsimp only; omega, by dsimp only; rw [Iso.dealB_s, ← hb, show b = true by assumption]; rfl⟩ ⟨rfl, rfl, rfl, rfl, rfl, rfl, trivial⟩ (fun _ h => h.pick [1])
      ·
       replace g6 : b = false := g6
       refine rSkipQ rfl rfl ?_
       refine rSkipQ rfl rfl ?_
       refine rSkipQ rfl rfl ?_
       refine rSkipQ rfl rfl ?_
       refine rSkipQ rfl rfl ?_
       refine rSkipQ rfl rfl ?_
       refine rSkipQ rfl rfl ?_
       refine rSkipQ rfl rfl ?_
       refine rSkipQ rfl rfl ?_
       refine rSkipQ rfl rfl ?_
       refine rSkipQ rfl rfl ?_
       refine rSkipQ rfl rfl ?_
       refine rSkipL (fun _ h => h.pick [0]) rfl rfl ?_
       refine rSkipL (fun _ h => h.pick [0]) rfl rfl ?_
       refine pickB rfl rfl rfl rfl ?_
       refine asB rfl rfl rfl ?_
       refine rNil ?_
       refine qSeq rfl ?_
       refine hReg (sq 0 (sq 1 (sq 2 sz))) (by kernel_rfl) ?_
       refine mvI rfl rfl rfl ?_
       refine add rfl rfl rfl rfl (by omega) ?_
       refine asI rfl rfl rfl ?_
       refine rNil ?_
       exact qNext rfl (j + 1, false) (by dsimp only; omega) ⟨by dsimp only; omega, by dsimp only; rw [Iso.dealB_s, ← hb, show b = false by assumption]; rfl⟩ ⟨rfl, rfl, rfl, rfl, rfl, rfl, trivial⟩ (fun _ h => h.pick [0])
     ·
      replace c5 : ¬ ((j : Int) < (nz : Int)) := c5
      have hdl : b = Iso.dealB (Iso.orders.getD i []) z y z.length := by rw [hb, show j = z.length by omega]
      refine hExit rfl ?_
      refine qSeq rfl ?_
      refine hSeq ?_
      refine hReg (sq 0 sz) (by kernel_rfl) ?_
      refine mvB rfl rfl rfl ?_
      refine rNil ?_
      refine qSeq rfl ?_
      refine hIf rfl (fun c7 => ?_) (fun c7 => ?_)
      ·
       replace c7 : b = true := c7
       refine hSeq ?_
       refine hReg (sq 0 (sq 1 sz)) (by kernel_rfl) ?_
       refine asB rfl rfl rfl ?_
       refine asI rfl rfl rfl ?_
       refine rNil ?_
       refine qSeq rfl ?_
       refine hRet ?_
       exact fun w hs => ⟨[.bool true, .int .i64 0], ⟨rfl, ⟨rfl, trivial⟩⟩, ⟨tBI (by rw [Iso.sdB_0 hs0]; exact (Iso.same_here (i := i) (by omega) (by rw [← hdl]; assumption)).symm) hs0.symm, hs.upd⟩⟩
      ·
       replace c7 : b = false := c7
       refine hSkip ?_
       refine qSeq rfl ?_
       refine hReg (sq 0 (sq 1 (sq 2 sz))) (by kernel_rfl) ?_
       refine mvI rfl rfl rfl ?_
       refine add rfl rfl rfl rfl (by omega) ?_
       refine asI rfl rfl rfl ?_
       refine rNil ?_
       exact qNext rfl (i + 1) (by omega) ⟨by omega, Iso.same_snoc (by omega) hno (by rw [← hdl]; assumption)⟩ ⟨rfl, rfl, rfl, rfl, trivial⟩ (fun _ h => h.pick [0])
    ·
     replace c4 : ¬ ((i : Int) < (ny1 : Int)) := c4
     refine hExit rfl ?_
     refine qSeq rfl ?_
     refine hSeq ?_
     refine hReg (sq 0 (sq 1 sz)) (by kernel_rfl) ?_
     refine asB rfl rfl rfl ?_
     refine asI rfl rfl rfl ?_
     refine rNil ?_
     refine qSeq rfl ?_
     refine hRet ?_
     exact fun w hs => ⟨[.bool false, .int .i64 0], ⟨rfl, ⟨rfl, trivial⟩⟩, ⟨tBI (by rw [Iso.sdB_0 hs0]; exact (Iso.same_end (i := i) (by omega) hno).symm) hs0.symm, hs.upd⟩⟩
theorem impl_CountFlops_c (w : World) :
  Calls Try.prog 36 #[] w (Ret fun v w' => v = .int .i64 1755 ∧ Ext w w') := by
 refine fn (M := none_) (rs := [.tmp 0]) Try.func36 rfl Try.ntmps36 rfl rfl (Sep.start _ _) ?_
 refine hSeq ?_
 refine hReg (sq 0 sz) (by kernel_rfl) ?_
 refine asI rfl rfl rfl ?_
 refine rNil ?_
 refine qSeq rfl ?_
 refine hSeq ?_
 refine hReg (sq 0 sz) (by kernel_rfl) ?_
 refine asI rfl rfl rfl ?_
 refine rNil ?_
 refine qSeq rfl ?_
 refine hRet ?_
 exact fun w hs => ⟨[.int .i64 1755], ⟨rfl, trivial⟩, ⟨by first | rfl | exact bD (by omega) | exact bT (by omega) | exact bF (by omega) | exact vI (by omega), hs.upd⟩⟩
theorem spec_CountFlops_c (w : World) :
  Calls Try.prog 37 #[] w (Ret fun v w' => v = .int .i64 1755 ∧ Ext w w') := by
 refine fn (M := none_) (rs := [.tmp 0]) Try.func37 rfl Try.ntmps37 rfl rfl (Sep.start _ _) ?_
 refine hSeq ?_
 refine hReg (sq 0 sz) (by kernel_rfl) ?_
 refine asI rfl rfl rfl ?_
 refine rNil ?_
 refine qSeq rfl ?_
 refine hSeq ?_
 refine hReg (sq 0 sz) (by kernel_rfl) ?_
 refine asI rfl rfl rfl ?_
 refine rNil ?_
 refine qSeq rfl ?_
 refine hRet ?_
 exact fun w hs => ⟨[.int .i64 1755], ⟨rfl, trivial⟩, ⟨by first | rfl | exact bD (by omega) | exact bT (by omega) | exact bF (by omega) | exact vI (by omega), hs.upd⟩⟩
theorem impl_CountClassesOf_c (n : Int) (w : World) :
  Calls Try.prog 34 #[.int .i64 n] w (Ret fun v w' => v = .tuple #[.int .i64 (Iso.cntV n), .int .i64 (Iso.cntE n)] ∧ Ext w w') := by
 refine fn (M := none_) (rs := [.tmp 2, .tmp 3]) Try.func34 rfl Try.ntmps34 rfl rfl (Sep.start _ _) ?_
 refine hSeq ?_
 refine hReg (sq 0 (sq 1 sz)) (by kernel_rfl) ?_
 refine asI rfl rfl rfl ?_
 refine asI rfl rfl rfl ?_
 refine rNil ?_
 refine qSeq rfl ?_
 refine hSeq ?_
 refine hSeq ?_
 refine hReg (sq 0 sz) (by kernel_rfl) ?_
 refine mvI rfl rfl rfl ?_
 refine rNil ?_
 refine qSeq rfl ?_
 refine hBlk ?_
 refine hSeq ?_
 refine hReg (sq 0 (sq 1 sz)) (by kernel_rfl) ?_
 refine eql rfl rfl rfl rfl ?_
 refine asB rfl rfl rfl ?_
 refine rNil ?_
 refine qSeq rfl ?_
 refine hIfD rfl (fun c1 => ?_) (fun c1 => ?_)
 ·
  replace c1 : n = 1 := c1
  refine hSeq ?_
  refine hReg (sq 0 (sq 1 sz)) (by kernel_rfl) ?_
  refine asI rfl rfl rfl ?_
  refine asI rfl rfl rfl ?_
  refine rNil ?_
  refine qSeq rfl ?_
  refine hRet ?_
  exact fun w hs => ⟨[.int .i64 13, .int .i64 0], ⟨rfl, ⟨rfl, trivial⟩⟩, ⟨tII (by unfold Iso.cntV; (repeat (split <;> try omega))) (by unfold Iso.cntE; (repeat (split <;> try omega))), hs.upd⟩⟩
 ·
  replace c1 : ¬ (n = 1) := c1
  refine hSeq ?_
  refine hReg (sq 0 (sq 1 sz)) (by kernel_rfl) ?_
  refine eql rfl rfl rfl rfl ?_
  refine asB rfl rfl rfl ?_
  refine rNil ?_
  refine qSeq rfl ?_
  refine hIfD rfl (fun c2 => ?_) (fun c2 => ?_)
  ·
   replace c2 : n = 2 := c2
   refine hSeq ?_
   refine hReg (sq 0 (sq 1 sz)) (by kernel_rfl) ?_
   refine asI rfl rfl rfl ?_
   refine asI rfl rfl rfl ?_
   refine rNil ?_
   refine qSeq rfl ?_
   refine hRet ?_
   exact fun w hs => ⟨[.int .i64 169, .int .i64 0], ⟨rfl, ⟨rfl, trivial⟩⟩, ⟨tII (by unfold Iso.cntV; (repeat (split <;> try omega))) (by unfold Iso.cntE; (repeat (split <;> try omega))), hs.upd⟩⟩
  ·
   replace c2 : ¬ (n = 2) := c2
   refine hSeq ?_
   refine hReg (sq 0 (sq 1 sz)) (by kernel_rfl) ?_
   refine eql rfl rfl rfl rfl ?_
   refine asB rfl rfl rfl ?_
   refine rNil ?_
   refine qSeq rfl ?_
   refine hIfD rfl (fun c3 => ?_) (fun c3 => ?_)
   ·
    replace c3 : n = 3 := c3
    refine hSeq ?_
    refine hReg (sq 0 (sq 1 sz)) (by kernel_rfl) ?_
    refine asI rfl rfl rfl ?_
    refine asI rfl rfl rfl ?_
    refine rNil ?_
    refine qSeq rfl ?_
    refine hRet ?_
    exact fun w hs => ⟨[.int .i64 1755, .int .i64 0], ⟨rfl, ⟨rfl, trivial⟩⟩, ⟨tII (by unfold Iso.cntV; (repeat (split <;> try omega))) (by unfold Iso.cntE; (repeat (split <;> try omega))), hs.upd⟩⟩
   ·
    replace c3 : ¬ (n = 3) := c3
    refine hSkip ?_
    refine qSeq rfl ?_
    refine hSeq ?_
    refine hReg (sq 0 (sq 1 sz)) (by kernel_rfl) ?_
    refine asI rfl rfl rfl ?_
    refine asI rfl rfl rfl ?_
    refine rNil ?_
    refine qSeq rfl ?_
    refine hRet ?_
    exact fun w hs => ⟨[.int .i64 0, .int .i64 2], ⟨rfl, ⟨rfl, trivial⟩⟩, ⟨tII (by unfold Iso.cntV; (repeat (split <;> try omega))) (by unfold Iso.cntE; (repeat (split <;> try omega))), hs.upd⟩⟩
theorem spec_CountClassesOf_c (n : Int) (w : World) (hn : 0 ≤ n ∧ n ≤ 10) :
  Calls Try.prog 35 #[.int .i64 n] w (Ret fun v w' => v = .tuple #[.int .i64 (Iso.cntV n), .int .i64 (Iso.cntE n)] ∧ Ext w w') := by
 refine fn (M := none_) (rs := [.tmp 2, .tmp 3]) Try.func35 rfl Try.ntmps35 rfl rfl (Sep.start _ _) ?_
 refine hSeq ?_
 refine hReg (sq 0 (sq 1 sz)) (by kernel_rfl) ?_
 refine asI rfl rfl rfl ?_
 refine asI rfl rfl rfl ?_
 refine rNil ?_
 refine qSeq rfl ?_
 refine hSeq ?_
 refine hSeq ?_
 refine hReg (sq 0 (sl 1 (sq 2 sz))) (by kernel_rfl) ?_
 refine mvI rfl rfl rfl ?_
 refine callP (v := .bool (decide ((1 : Int) ≤ n ∧ n ≤ (3 : Int)))) Try.call88 trv rfl rfl (fun w hs => spec_l01In_c _ _ _ w ) ?_
 refine notD rfl rfl rfl ?_
 refine rNil ?_
 refine qSeq rfl ?_
 refine hIfD rfl (fun c1 => ?_) (fun c1 => ?_)
 ·
  replace c1 : ¬ ((1 : Int) ≤ n ∧ n ≤ (3 : Int)) := c1
  refine hSeq ?_
  refine hReg (sq 0 (sq 1 sz)) (by kernel_rfl) ?_
  refine asI rfl rfl rfl ?_
  refine asI rfl rfl rfl ?_
  refine rNil ?_
  refine qSeq rfl ?_
  refine hRet ?_
  exact fun w hs => ⟨[.int .i64 0, .int .i64 2], ⟨rfl, ⟨rfl, trivial⟩⟩, ⟨tII (by unfold Iso.cntV; (repeat (split <;> try omega))) (by unfold Iso.cntE; (repeat (split <;> try omega))), hs.upd⟩⟩
 ·
  replace c1 : ¬ (¬ ((1 : Int) ≤ n ∧ n ≤ (3 : Int))) := c1
  refine hSkip ?_
  refine qSeq rfl ?_
  refine hSeq ?_
  refine hReg (sl 0 (sq 1 (sq 2 (sq 3 (sl 4 (sq 5 (sq 6 sz))))))) (by kernel_rfl) ?_
  refine bsl trv1 rfl rfl rfl (bsl23_3 (.int .i64 _) (.int .i64 _) (.int .i64 _) rfl rfl rfl) (fun bkl1 hbkl1 => ?_)
  refine mvI rfl rfl rfl ?_
  refine sub rfl rfl rfl rfl (by omega) ?_
  refine ixIl (zn := ((n - 1)).toNat) el23 ((Kn.at_ 0 rfl).imp fun _ h => RdI.lit (zs := [13, 169, 1755]) (n := 3) h rfl rfl rfl) rfl rfl rfl rfl (by omega) (by omega) rfl ?_
  intro ae1 e1
  refine ldl Try.isAgg2 (e1) trv rfl rfl rfl ?_
  refine asI rfl rfl rfl ?_
  refine asI rfl rfl rfl ?_
  refine rNil ?_
  refine qSeq rfl ?_
  refine hRet ?_
  exact fun w hs => ⟨[.int .i64 (([13, 169, 1755].getD (((n - 1)).toNat) 0)), .int .i64 0], ⟨rfl, ⟨rfl, trivial⟩⟩, ⟨tII (Iso.cntV_at (by simpa using c1)) (by unfold Iso.cntE; rw [if_pos (by simpa using c1)]), hs.upd⟩⟩
theorem laws_big_c (ca : Option Addr) (bs : List Int) (cc : Nat) (w : World) (rcode : CellsAt ca (bs.map (Value.int .u8)) w) :
  Calls Try.prog 19 #[.slice ca bs.length cc] w (Ret fun v w' => v = .bool (decide (4096 < ((bs.length : Nat) : Int))) ∧ Ext w w') := by
 have kcode : Kn w none_ [] (CellsAt ca (bs.map (Value.int .u8))) := fun w' hs => rcode.ext hs.upd
 refine fn (M := none_) (rs := [.tmp 2]) Try.func19 rfl Try.ntmps19 rfl rfl (Sep.start _ _) ?_
 refine hSeq ?_
 refine hReg (sq 0 sz) (by kernel_rfl) ?_
 refine asB rfl rfl rfl ?_
 refine rNil ?_
 refine qSeq rfl ?_
 refine hSeq ?_
 refine hReg (sq 0 (sq 1 (sq 2 (sq 3 sz)))) (by kernel_rfl) ?_
 refine mvS rfl rfl rfl ?_
 refine lenS Try.runUnderlying32 rfl rfl rfl ?_
 refine gtr rfl rfl rfl rfl ?_
 refine asB rfl rfl rfl ?_
 refine rNil ?_
 refine qSeq rfl ?_
 refine hRet ?_
 exact fun w hs => ⟨[.bool (decide (4096 < ((bs.length : Nat) : Int)))], ⟨rfl, trivial⟩, ⟨by first | rfl | exact bD (by omega) | exact bT (by omega) | exact bF (by omega) | exact vI (by omega), hs.upd⟩⟩
end Go.Proofs.Yteaahdakammffaa
