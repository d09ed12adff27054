/- Plain facts: orbits of cards, sizes of classes, same deals, what laws on exchanges call. No condition. -/
import Derived.Test.YteaahdakammffaaZ4Al
import Derived.Test.YteaahdakammffaaZ1Al
import Derived.Test.YteaahdakammffaaZ0Al
import Derived.Test.YteaahdakammffaaRows
import Derived.Test.YteaahdakammffaaZ2Al
import Derived.Test.YteaahdakammffaaZ3Al
namespace Go.Proofs.Yteaahdakammffaa.Iso
open Go.Proofs.Yteaahdakammffaa.V
set_option linter.unusedVariables false
set_option linter.unusedSimpArgs false
theorem alk_iff {z : List (List Int)} {c d : Int} (hc : 0 ≤ c ∧ c ≤ 51) : d ∈ alk (fixA z) c ↔ ∃ p ∈ fixA z, take4 p c = d := by
  rw [alk_mem]
  refine ⟨fun h => h.2, fun ⟨p, hp, e⟩ => ⟨e ▸ take4_bd (fixA_isP hp) hc, p, hp, e⟩⟩
theorem alk_bd {z : List (List Int)} {c d : Int} (h : d ∈ alk (fixA z) c) : 0 ≤ d ∧ d ≤ 51 := (alk_mem.1 h).1
theorem alk_self {z : List (List Int)} {c : Int} (hc : 0 ≤ c ∧ c ≤ 51) : c ∈ alk (fixA z) c := (alk_iff hc).2 ⟨_, id_fix z, take4_id c⟩
/-- Cards that are alike have the same alike cards. -/
theorem alk_same {z : List (List Int)} {c d : Int} (hc : 0 ≤ c ∧ c ≤ 51) (h : d ∈ alk (fixA z) c) : alk (fixA z) d = alk (fixA z) c := by
  have hd := alk_bd h
  obtain ⟨q, hq, e⟩ := (alk_iff hc).1 h
  obtain ⟨q', hq', -, e2⟩ := fix_inv hq
  refine strict_eq (alk_sorted _ _ _) (alk_sorted _ _ _) fun x => ?_
  show x ∈ alk (fixA z) d ↔ x ∈ alk (fixA z) c
  rw [alk_iff hd, alk_iff hc]
  constructor
  · rintro ⟨p, hp, rfl⟩
    exact ⟨compP p q, fix_comp hp hq, by rw [take4_comp (fixA_isP hq), e]⟩
  · rintro ⟨p, hp, rfl⟩
    refine ⟨compP p q', fix_comp hp hq', ?_⟩
    rw [take4_comp (fixA_isP hq'), ← e, ← take4_comp (fixA_isP hq), e2, take4_id]
def rep (z : List (List Int)) (c : Int) : Int := (alk (fixA z) c).getD 0 0
theorem rep_mem {z : List (List Int)} {c : Int} (hc : 0 ≤ c ∧ c ≤ 51) : rep z c ∈ alk (fixA z) c := by
  unfold rep
  rw [gdE (alk_pos hc)]; exact List.getElem_mem _
/-- Cards that are in no set. -/
def unused (z : List (List Int)) (k : Nat) : List Int := ((List.range k).map Int.ofNat).filter fun c => !z.flatten.contains c
theorem unused_mem {z : List (List Int)} {c : Int} : c ∈ unused z 52 ↔ (0 ≤ c ∧ c ≤ 51) ∧ c ∉ z.flatten := by
  unfold unused
  rw [List.mem_filter, List.mem_map]
  simp only [Bool.not_eq_true', List.contains_eq_mem, decide_eq_false_iff_not, List.mem_range]
  refine and_congr_left fun _ => ⟨fun ⟨n, hn, e⟩ => by subst e; simp; omega, fun h => ⟨c.toNat, by omega, by simp; omega⟩⟩
theorem unused_orbit {z : List (List Int)} {c d : Int} (hc : c ∈ unused z 52) (h : d ∈ alk (fixA z) c) : d ∈ unused z 52 := by
  obtain ⟨hb, hn⟩ := unused_mem.1 hc
  refine unused_mem.2 ⟨alk_bd h, fun hm => hn ?_⟩
  obtain ⟨p, hp, e⟩ := (alk_iff hb).1 h
  obtain ⟨q, hq, -, e2⟩ := fix_inv hp
  obtain ⟨s, hs, hds⟩ := List.mem_flatten.1 hm
  have h1 := (fixA_iff.1 hq).2 s hs
  have h2 : take4 q d ∈ image4 q s := List.mem_map_of_mem hds
  rw [← e, ← take4_comp (fixA_isP hp), e2, take4_id] at h2
  exact List.mem_flatten.2 ⟨s, hs, h1.mem_iff.1 h2⟩
theorem cls_eq (z : List (List Int)) (k : Nat) : cls z k = (unused z k).filter fun c => decide (rep z c = c) := by
  unfold cls unused
  rw [List.filter_filter]
  congr 1
  funext c
  unfold clsB rep
  exact Bool.and_comm _ _
theorem rep_idem {z : List (List Int)} {c : Int} (hc : 0 ≤ c ∧ c ≤ 51) : rep z (rep z c) = rep z c := by
  have := alk_same (z := z) hc (rep_mem hc)
  show (alk (fixA z) (rep z c)).getD 0 0 = _
  rw [this]; rfl
theorem range_sorted (k : Nat) : ((List.range k).map Int.ofNat).Pairwise (· < ·) := by
  rw [List.pairwise_map]
  exact List.pairwise_lt_range.imp fun h => by simpa using h
theorem orbit_eq {z : List (List Int)} {c : Int} (hc : c ∈ unused z 52) (hr : rep z c = c) : alk (fixA z) c = (unused z 52).filter fun d => decide (rep z d = c) := by
  have hb := (unused_mem.1 hc).1
  refine strict_eq (alk_sorted _ _ _) (((range_sorted 52).filter _).filter _) fun x => ?_
  show x ∈ alk (fixA z) c ↔ x ∈ (unused z 52).filter fun d => decide (rep z d = c)
  rw [List.mem_filter]
  refine ⟨fun h => ⟨unused_orbit hc h, decide_eq_true ?_⟩, fun ⟨h1, h2⟩ => ?_⟩
  · show (alk (fixA z) x).getD 0 0 = c
    rw [alk_same hb h]; exact hr
  · have hx := (unused_mem.1 h1).1
    have h3 : rep z x = c := of_decide_eq_true h2
    have h4 := alk_same (z := z) hx (rep_mem hx)
    rw [h3] at h4
    rw [h4]; exact alk_self hx
theorem sum_one {R : List Int} (hR : R.Nodup) {r : Int} (h : r ∈ R) : (R.map fun c => if r = c then (1 : Int) else 0).sum = 1 := by
  induction R with
  | nil => cases h
  | cons a R ih =>
    obtain ⟨h1, h2⟩ := List.nodup_cons.1 hR
    rw [List.map_cons, List.sum_cons]
    by_cases e : r = a
    · subst e
      have : (R.map fun c => if r = c then (1 : Int) else 0) = R.map fun _ => 0 := List.map_congr_left fun c hc => by
        rw [if_neg]; rintro rfl; exact h1 hc
      rw [this, if_pos rfl]
      have hz : ∀ l : List Int, (l.map fun _ => (0 : Int)).sum = 0 := fun l => by induction l with | nil => rfl | cons _ _ ih => simpa using ih
      rw [hz]; rfl
    · rw [if_neg e, ih h2 ((List.mem_cons.1 h).resolve_left e)]; rfl
theorem sum_add (R : List Int) (f g : Int → Int) : (R.map fun c => f c + g c).sum = (R.map f).sum + (R.map g).sum := by
  induction R with
  | nil => rfl
  | cons a R ih => simp only [List.map_cons, List.sum_cons, ih]; omega
theorem sum_parts {R : List Int} (hR : R.Nodup) (f : Int → Int) : ∀ U : List Int, (∀ d ∈ U, f d ∈ R) → (R.map fun c => ((U.filter fun d => decide (f d = c)).length : Int)).sum = (U.length : Int)
  | [], _ => by
    have hz : ∀ l : List Int, (l.map fun _ => (0 : Int)).sum = 0 := fun l => by induction l with | nil => rfl | cons _ _ ih => simpa using ih
    simpa using hz R
  | d :: U, h => by
    have h1 := sum_parts hR f U fun x hx => h x (by simp [hx])
    have h2 := sum_one hR (h d (by simp))
    have : (R.map fun c => (((d :: U).filter fun d => decide (f d = c)).length : Int)) = R.map fun c => (if f d = c then (1 : Int) else 0) + ((U.filter fun d => decide (f d = c)).length : Int) := List.map_congr_left fun c _ => by
      by_cases e : f d = c <;> simp [List.filter_cons, e] <;> omega
    rw [this, sum_add, h2, h1]; simp; omega
/-- All classes together are all cards that are in no set. -/
theorem siz_sum (z : List (List Int)) : (sizL z 52).sum = ((unused z 52).length : Int) := by
  have hn : (cls z 52).Nodup := by
    rw [cls_eq]
    exact (((range_sorted 52).filter _).filter _).imp fun h => Int.ne_of_lt h
  have h1 : sizL z 52 = (cls z 52).map fun c => (((unused z 52).filter fun d => decide (rep z d = c)).length : Int) := by
    unfold sizL
    refine List.map_congr_left fun c hc => ?_
    rw [cls_eq] at hc
    obtain ⟨h1, h2⟩ := List.mem_filter.1 hc
    rw [← orbit_eq h1 (of_decide_eq_true h2)]
  rw [h1]
  refine sum_parts hn (rep z) _ fun d hd => ?_
  have hb := (unused_mem.1 hd).1
  rw [cls_eq]
  exact List.mem_filter.2 ⟨unused_orbit hd (rep_mem hb), decide_eq_true (rep_idem hb)⟩
theorem unused_yes {z : List (List Int)} {k : Nat} (h : z.flatten.contains (k : Int) = true) : unused z (k + 1) = unused z k := by
  unfold unused; rw [List.range_succ, List.map_append, List.filter_append, show [k].map Int.ofNat = [(k : Int)] from rfl, List.filter_cons_of_neg (by simp only [h]; decide)]; simp
theorem unused_no {z : List (List Int)} {k : Nat} (h : z.flatten.contains (k : Int) = false) : (unused z (k + 1)).length = (unused z k).length + 1 := by
  unfold unused; rw [List.range_succ, List.map_append, List.filter_append, show [k].map Int.ofNat = [(k : Int)] from rfl, List.filter_cons_of_pos (by simp only [h]; decide), List.length_append]; simp
theorem flat_any (z : List (List Int)) (x : Int) : z.flatten.contains x = z.any fun s => s.contains x := by
  rw [Bool.eq_iff_iff, List.contains_iff_mem, List.mem_flatten, List.any_eq_true]
  simp
theorem any_take {z : List (List Int)} {i : Nat} (x : Int) (h : i < z.length) : ((z.take (i + 1)).any fun s => s.contains x) = (((z.take i).any fun s => s.contains x) || (z.getD i []).contains x) := by
  rw [List.take_add_one, List.any_append, gdE h, List.getElem?_eq_getElem h]; simp
theorem siz_bd {z : List (List Int)} {k : Nat} {x : Int} (h : x ∈ sizL z k) : 0 ≤ x ∧ x ≤ 52 := by
  unfold sizL at h
  obtain ⟨c, -, rfl⟩ := List.mem_map.1 h
  have := alk_len (fixA z) c 52
  unfold alk
  omega
theorem nextU_bd {z : List (List Int)} : ∀ x ∈ nextU z, 0 ≤ x ∧ x ≤ 52 := fun x h => by
  unfold nextU at h
  split at h
  · exact siz_bd h
  · cases h
/-- What ExchangeCards returns. -/
def exE (z p : List Int) : Int := if areB z = false then 1 else if orders.contains p = false then 2 else 0
def exY (z p : List Int) : List Int := if exE z p = 0 then image4 p z else []
/-- What AlikeCards returns. -/
def alE (z : List (List Int)) (c : Int) : Int := if codeS z ≠ 0 then codeS z else if 0 ≤ c ∧ c ≤ 51 then 0 else 2
def alY (z : List (List Int)) (c : Int) : List Int := if alE z c = 0 then alk (fixA z) c else []
theorem alE_1 {z : List (List Int)} {c : Int} (h : codeS z ≠ 0) : alE z c = codeS z := if_pos h
theorem alE_2 {z : List (List Int)} {c : Int} (h : codeS z = 0) (h1 : ¬ (0 ≤ c ∧ c ≤ 51)) : alE z c = 2 := by unfold alE; rw [if_neg (by simp [h]), if_neg h1]
theorem alE_0 {z : List (List Int)} {c : Int} (h : codeS z = 0) (h1 : 0 ≤ c ∧ c ≤ 51) : alE z c = 0 := by unfold alE; rw [if_neg (by simp [h]), if_pos h1]
theorem alE_iff {z : List (List Int)} {c : Int} (h : alE z c = 0) : codeS z = 0 ∧ (0 ≤ c ∧ c ≤ 51) := by
  unfold alE at h
  split at h
  · rename_i h1; exact absurd h h1
  · rename_i h1
    split at h
    · exact ⟨by simpa using h1, by assumption⟩
    · omega
theorem alY_0 {z : List (List Int)} {c : Int} (h : alE z c = 0) : alY z c = alk (fixA z) c := if_pos h
theorem alY_no {z : List (List Int)} {c : Int} (h : alE z c ≠ 0) : alY z c = [] := if_neg h
theorem alY_same {z : List (List Int)} {c : Int} (h : alE z c = 0) {i : Nat} (hi : i < (alY z c).length) : alE z ((alY z c).getD i 0) = 0 ∧ alY z ((alY z c).getD i 0) = alY z c := by
  obtain ⟨h0, hc⟩ := alE_iff h
  rw [alY_0 h] at hi ⊢
  have hm : (alk (fixA z) c).getD i 0 ∈ alk (fixA z) c := by rw [gdE hi]; exact List.getElem_mem hi
  have h2 := alE_0 h0 (alk_bd hm)
  exact ⟨h2, by rw [alY_0 h2, alk_same hc hm]⟩
theorem alY_has {z : List (List Int)} {c : Int} (h : alE z c = 0) : (alY z c).contains c = true := by
  rw [alY_0 h, List.contains_iff_mem]; exact alk_self (alE_iff h).2
theorem alY_len (z : List (List Int)) (c : Int) : (alY z c).length ≤ 52 := by
  unfold alY
  split
  · exact alk_len _ _ _
  · simp
/-- Same deals. -/
def dealB (p : List Int) (a b : List (List Int)) (k : Nat) : Bool := (List.range k).all fun i => decide (srt (image4 p (a.getD i [])) = srt (b.getD i []))
def sameTo (a b : List (List Int)) (k : Nat) : Bool := (orders.take k).any fun p => dealB p a b a.length
def sameB (a b : List (List Int)) : Bool := orders.any fun p => dealB p a b a.length
def sdE (a b : List (List Int)) : Int := if codeS a ≠ 0 then codeS a else if codeS b ≠ 0 then codeS b else if a.length ≠ b.length then 5 else 0
def sdB (a b : List (List Int)) : Bool := decide (sdE a b = 0) && sameB a b
def imgs (p : List Int) (a : List (List Int)) : List (List Int) := a.map (image4 p)
/-- Numbers of classes. -/
def cntE (n : Int) : Int := if 1 ≤ n ∧ n ≤ 3 then 0 else 2
def cntV (n : Int) : Int := if n = 1 then 13 else if n = 2 then 169 else if n = 3 then 1755 else 0
/-- Cards that are not in a list. -/
def others (z : List Int) (k : Nat) : List Int := ((List.range k).map Int.ofNat).filter fun c => !z.contains c
theorem others_yes {z : List Int} {k : Nat} (h : z.contains (k : Int) = true) : others z (k + 1) = others z k := by
  unfold others; rw [List.range_succ, List.map_append, List.filter_append, show [k].map Int.ofNat = [(k : Int)] from rfl, List.filter_cons_of_neg (by simp only [h]; decide)]; simp
theorem others_no {z : List Int} {k : Nat} (h : z.contains (k : Int) = false) : others z (k + 1) = others z k ++ [(k : Int)] := by
  unfold others; rw [List.range_succ, List.map_append, List.filter_append, show [k].map Int.ofNat = [(k : Int)] from rfl, List.filter_cons_of_pos (by simp only [h]; decide)]; simp
theorem others_le (z : List Int) (k : Nat) : (others z k).length ≤ k := by
  unfold others
  exact Nat.le_trans (List.length_filter_le _ _) (by simp)
def feY (z : List (List Int)) : List (List Int) := if codeS z = 0 then fixA z else []
end Go.Proofs.Yteaahdakammffaa.Iso
/- Sources of draws: what a function that draws is handed. No condition. -/
namespace Go.Proofs.Yteaahdakammffaa
open Go Go.RowKit V
set_option linter.unusedVariables false
set_option linter.unusedSimpArgs false
def okBytes (bs : List Int) : Prop := (∀ x ∈ bs, 0 ≤ x ∧ x ≤ 255) ∧ bs.length ≤ 1000000000000000
/-- A source at block 'bk' over the bytes 'bs'. -/
def srcP (bk : Nat) (ca : Option Addr) (bs : List Int) (cc : Nat) : World → Prop := fun w =>
  ∃ p s : Int, blk bk 130 [.slice ca bs.length cc, .int .i64 p, .int .i64 s] w ∧ 0 ≤ p ∧ p ≤ bs.length ∧ 0 ≤ s ∧ s ≤ 2147483646
/-- The bytes, whatever becomes of block 'bk'. -/
def Code_ (bk : Nat) (ca : Option Addr) (bs : List Int) (w : World) : Prop := ∀ w', Upd (fun k => k = bk) w w' → CellsAt ca (bs.map (Value.int .u8)) w'
def SrcIn (bk : Nat) (ca : Option Addr) (bs : List Int) (cc : Nat) (w : World) : Prop := srcP bk ca bs cc w ∧ Code_ bk ca bs w ∧ okBytes bs
theorem srcP_mem {bk : Nat} {ca : Option Addr} {bs : List Int} {cc : Nat} : ∀ (f : Nat → Prop) (w : World), St f (srcP bk ca bs cc) w → f bk := by
  intro f w h
  refine Classical.byContradiction fun hn => ?_
  obtain ⟨p, s, h1, _⟩ := h.out
  have hlt : bk < w.heap.size := (Array.getElem?_eq_some_iff.1 h1).1
  obtain ⟨p', s', h2, _⟩ := h { w with heap := w.heap.setIfInBounds bk (.map #[] 0) } fun k hk => by
    have : bk ≠ k := fun e => hn (e ▸ hk)
    show (w.heap.setIfInBounds bk (.map #[] 0))[k]? = _
    rw [Array.getElem?_setIfInBounds_ne this]
  unfold blk at h2
  simp [hlt] at h2
theorem srcP_st {bk : Nat} {ca : Option Addr} {bs : List Int} {cc : Nat} : ∀ (f : Nat → Prop) (w : World), srcP bk ca bs cc w → f bk → St f (srcP bk ca bs cc) w := by
  rintro f w ⟨p, s, h1, h2⟩ hf w' ha
  exact ⟨p, s, (blk.St _ _ _ h1 hf) w' ha, h2⟩
theorem Code_.upd {bk : Nat} {ca : Option Addr} {bs : List Int} {w w' : World} (h : Code_ bk ca bs w) (hu : Upd (fun k => k = bk) w w') : Code_ bk ca bs w' := fun w'' hu' => h w'' (hu.trans hu')
theorem Sep.startS {w0 : World} {bk : Nat} {ca : Option Addr} {bs : List Int} {cc : Nat} (h : srcP bk ca bs cc w0) : V.Sep w0 (fun k => k = bk) [srcP bk ca bs cc] w0 :=
  ⟨.refl _ _, [fun k => k = bk], fun k hk => ⟨.inr hk, by subst hk; obtain ⟨_, _, h, _⟩ := h; exact (Array.getElem?_eq_some_iff.1 h).1⟩, by simp, srcP_st _ _ h rfl, trivial⟩
/-- Two pieces lie apart. -/
theorem SepL_ne {M : Nat → Prop} {B T : Nat} {w : World} : ∀ {fs : List (Nat → Prop)} {L : List (World → Prop)}, SepL M B T fs L w → ∀ {i j : Nat} {φ ψ : World → Prop}, L[i]? = some φ → L[j]? = some ψ → i ≠ j →
    ∃ f f', St f φ w ∧ St f' ψ w ∧ ∀ k, f k → ¬ f' k := by
  intro fs
  induction fs with
  | nil => intro L h i j φ ψ hi; cases L with | nil => simp at hi | cons _ _ => exact h.elim
  | cons f fs ih =>
    intro L h i j φ ψ hi hj hne
    cases L with
    | nil => exact h.elim
    | cons χ L =>
      obtain ⟨h1, h2, h3, h4⟩ := h
      cases i with
      | zero =>
        cases j with
        | zero => exact absurd rfl hne
        | succ j =>
          simp at hi; subst hi
          obtain ⟨f', hf', hst⟩ := h4.at_ (by simpa using hj)
          exact ⟨f, f', h3, hst, fun k hk hk' => h2 f' (List.mem_of_getElem? hf') k hk hk'⟩
      | succ i =>
        cases j with
        | zero =>
          simp at hj; subst hj
          obtain ⟨f', hf', hst⟩ := h4.at_ (by simpa using hi)
          exact ⟨f', f, hst, h3, fun k hk hk' => h2 f' (List.mem_of_getElem? hf') k hk' hk⟩
        | succ j => exact ih h4 (by simpa using hi) (by simpa using hj) (by omega)
/-- The list of a draw's choices, whatever becomes of the source. -/
def Lst (bk : Nat) (a : Option Addr) (xs : List Int) (w : World) : Prop := ∀ w', Upd (fun k => k = bk) w w' → CellsAt a (xs.map (Value.int .i64)) w'
theorem Lst.of {w0 : World} {M : Nat → Prop} {L : List (World → Prop)} {w : World} (hs : Sep w0 M L w) (i j : Nat) {lb e bk : Nat} {ca : Option Addr} {bs : List Int} {cc : Nat} {xs : List Int} {vs : List Value}
    (hi : L[i]? = some (blk lb e vs)) (hj : L[j]? = some (srcP bk ca bs cc)) (hne : i ≠ j) (hv : vs = xs.map (Value.int .i64)) : Lst bk (some ⟨lb, 0, none⟩) xs w := by
  subst hv
  intro w' hu
  obtain ⟨_, fs, h⟩ := hs
  obtain ⟨f, f', h1, h2, h3⟩ := SepL_ne h hi hj hne
  have hl := blk.mem h1
  have hb := srcP_mem f' w h2
  have hlt : lb < w.heap.size := (Array.getElem?_eq_some_iff.1 h1.out).1
  refine CellsAt.blk (e := e) ?_
  have hne' : ¬ lb = bk := fun h => h3 lb hl (h ▸ hb)
  unfold blk
  rw [hu.block lb hlt hne']
  exact h1.out
def toI : Value → Int
  | .int _ z => z
  | _ => 0
theorem Lst.of' {w0 : World} {M : Nat → Prop} {L : List (World → Prop)} {w : World} (hs : Sep w0 M L w) (i j : Nat) {lb e bk : Nat} {ca : Option Addr} {bs : List Int} {cc : Nat} {vs : List Value}
    (hi : L[i]? = some (blk lb e vs)) (hj : L[j]? = some (srcP bk ca bs cc)) (hne : i ≠ j) (hv : vs = (vs.map toI).map (Value.int .i64)) : Lst bk (some ⟨lb, 0, none⟩) (vs.map toI) w := Lst.of hs i j hi hj hne hv
theorem map_get {f : Int → Value} {l : List Int} {k : Nat} (h : k < l.length) : (l.map f)[k]? = some (f (l.getD k 0)) := by
  simp [List.getD, List.getElem?_eq_getElem h]
theorem okBytes.at_ {bs : List Int} (h : okBytes bs) (k : Nat) : 0 ≤ bs.getD k 0 ∧ bs.getD k 0 ≤ 255 := by
  by_cases hk : k < bs.length
  · have := h.1 _ (List.getElem_mem hk)
    simp [List.getD, List.getElem?_eq_getElem hk]; exact this
  · simp [List.getD, List.getElem?_eq_none (Nat.le_of_not_lt hk)]
theorem emod_bd (a : Int) {n : Int} (h : 1 < n) : 0 ≤ a % n ∧ (a % n < n ∨ a % n = 0) := ⟨Int.emod_nonneg _ (by omega), .inl (Int.emod_lt_of_pos _ (by omega))⟩
theorem getD_mem {l : List Int} {k : Nat} (h : k < l.length) : l.getD k 0 ∈ l := by
  simp [List.getD, List.getElem?_eq_getElem h]
end Go.Proofs.Yteaahdakammffaa
/- Contracts of the sources of draws. Their conditions stand in each. -/
namespace Go.Proofs.Yteaahdakammffaa
open Go Go.RowKit V
set_option linter.unusedVariables false
set_option linter.unusedSimpArgs false
set_option maxRecDepth 100000
theorem fl130_0 : Fld Try.prog 130 0 0 := by
 intro w ad; simp [Instr.fieldAt, Try.runUnderlying130, Instr.sureAddr, fieldPlace, Try.sizeOf32]
theorem fl130_1 : Fld Try.prog 130 1 1 := by
 intro w ad; simp [Instr.fieldAt, Try.runUnderlying130, Instr.sureAddr, fieldPlace, Try.sizeOf3]
theorem fl130_2 : Fld Try.prog 130 2 2 := by
 intro w ad; simp [Instr.fieldAt, Try.runUnderlying130, Instr.sureAddr, fieldPlace, Try.sizeOf2]
theorem el32 : Elt Try.prog 32 1 := ⟨5, Try.runUnderlying32, Try.sizeOf5⟩
theorem bld130_0_2 (v0 v2 : Value) (h0 : v0.cells = #[v0]) (h2 : v2.cells = #[v2]) : ∀ w, (Instr.build 130 ([(0, v0), (2, v2)] : List (Nat × Value)).toArray).run Try.prog w = .ok (.agg ([v0, .int .i64 0, v2] : List Value).toArray) w := by
 intro w; simp [Instr.build, Instr.fill, Try.zeroValue130, Try.runUnderlying130, aggCells, Try.sizeOf2, Try.sizeOf3, Try.sizeOf32, h0, h2]
theorem l01Next_c (bk : Nat) (ca : Option Addr) (bs : List Int) (cc : Nat) (n : Int) (w : World) (hs0 : SrcIn bk ca bs cc w) :
  Calls Try.prog 76 #[.pointer (some ⟨bk, 0, none⟩), .int .i64 n] w (Ret fun v w' => ∃ x : Int, v = .int .i64 x ∧ (0 ≤ x ∧ (x < n ∨ x = 0)) ∧ Upd (fun k => k = bk) w w' ∧ srcP bk ca bs cc w') := by
 obtain ⟨⟨p, s, hb, h1, h2, h3, h4⟩, hcode, hok⟩ := hs0
 have hK : Kn w (fun k => k = bk) [] (CellsAt ca (bs.map (Value.int .u8))) := fun w' hs => hcode w' hs.upd
 have hl := hok.2
 refine fn (M := (fun k => k = bk)) (rs := [.tmp 4]) Try.func76 rfl Try.ntmps76 rfl rfl (Sep.startB hb) ?_
 refine hSeq ?_
 refine hReg (sq 0 sz) (by kernel_rfl) ?_
 refine asI rfl rfl rfl ?_
 refine rNil ?_
 refine qSeq rfl ?_
 refine hSeq ?_
 refine hSeq ?_
 refine hReg (sq 0 (sq 1 sz)) (by kernel_rfl) ?_
 refine mvI rfl rfl rfl ?_
 refine leq rfl rfl rfl rfl ?_
 refine rNil ?_
 refine qSeq rfl ?_
 refine hIfD rfl (fun c1 => ?_) (fun c1 => ?_)
 ·
  refine hSeq ?_
  refine hReg (sq 0 sz) (by kernel_rfl) ?_
  refine asI rfl rfl rfl ?_
  refine rNil ?_
  refine qSeq rfl ?_
  refine hRet ?_
  exact fun w hs => ⟨[.int .i64 _], ⟨rfl, trivial⟩, ⟨_, rfl, ⟨by omega, by omega⟩, hs.upd, ⟨_, _, hs.at_ 0 rfl, by omega, by omega, by omega, by omega⟩⟩⟩
 ·
  refine hSkip ?_
  refine qSeq rfl ?_
  refine hSeq ?_
  refine hReg (sq 0 (sq 1 (sq 2 (sq 3 (sl 4 (sq 5 (sq 6 (sq 7 (sq 8 (sq 9 (sl 10 sz))))))))))) (by kernel_rfl) ?_
  refine mvP rfl rfl rfl ?_
  refine mvP rfl rfl rfl ?_
  refine nilc rfl rfl rfl ?_
  refine fld fl130_2 rfl rfl rfl ?_
  refine ldl Try.isAgg2 (cB 0 rfl rfl) trv rfl rfl rfl ?_
  refine mul rfl rfl rfl rfl (by omega) ?_
  refine add rfl rfl rfl rfl (by omega) ?_
  refine rem rfl rfl rfl rfl (by omega) ?_
  refine nilc rfl rfl rfl ?_
  refine fld fl130_2 rfl rfl rfl ?_
  refine stl (v := .int .i64 _) 0 rfl Try.sizeOf2 trv rfl rfl rfl rfl rfl (Nat.le_of_ble_eq_true rfl) ?_
  refine rNil ?_
  refine qSeq rfl ?_
  refine hSeq ?_
  refine hReg (sq 0 (sq 1 (sq 2 (sl 3 (sq 4 (sq 5 sz)))))) (by kernel_rfl) ?_
  refine mvP rfl rfl rfl ?_
  refine nilc rfl rfl rfl ?_
  refine fld fl130_2 rfl rfl rfl ?_
  refine ldl Try.isAgg2 (cB 0 rfl rfl) trv rfl rfl rfl ?_
  refine quo rfl rfl rfl rfl (by omega) ?_
  refine asI rfl rfl rfl ?_
  refine rNil ?_
  refine qSeq rfl ?_
  refine hSeq ?_
  refine hSeq ?_
  refine hDraw (by kernel_rfl) (sq 0 (sq 1 (sq 2 (sq 3 (sq 4 (sq 5 (sq 6 (sq 7 (sq 8 (sq 9 sz)))))))))) (by kernel_rfl) (.cons_cons _ .slnil) ?_
  refine mvP rfl rfl rfl ?_
  refine nilc rfl rfl rfl ?_
  refine fld fl130_1 rfl rfl rfl ?_
  refine ldq Try.isAgg3 (cB 0 rfl rfl) rfl rfl rfl ?_
  refine mvP rfl rfl rfl ?_
  refine nilc rfl rfl rfl ?_
  refine fld fl130_0 rfl rfl rfl ?_
  refine ldq Try.isAgg32 (cB 0 rfl rfl) rfl rfl rfl ?_
  refine lenS Try.runUnderlying32 rfl rfl rfl ?_
  refine lss rfl rfl rfl rfl ?_
  refine rNil ?_
  refine qSeq rfl ?_
  refine hIfD rfl (fun c2 => ?_) (fun c2 => ?_)
  ·
   refine hSeq ?_
   refine hDraw (by kernel_rfl) (sq 0 (sq 1 (sq 2 (sq 3 (sq 4 (sq 5 (sq 6 (sq 7 (sq 8 (sq 9 (sq 10 (sq 11 (sq 12 (sq 13 sz)))))))))))))) (by kernel_rfl) (.cons_cons _ .slnil) ?_
   refine mvI rfl rfl rfl ?_
   refine mvP rfl rfl rfl ?_
   refine nilc rfl rfl rfl ?_
   refine fld fl130_0 rfl rfl rfl ?_
   refine ldq Try.isAgg32 (cB 0 rfl rfl) rfl rfl rfl ?_
   refine mvP rfl rfl rfl ?_
   refine nilc rfl rfl rfl ?_
   refine fld fl130_1 rfl rfl rfl ?_
   refine ldq Try.isAgg3 (cB 0 rfl rfl) rfl rfl rfl ?_
   refine ixq el32 (Kn.drop (k := 1) hK) (fun _ h => h.sub (.cons_cons _ .slnil)) rfl rfl rfl rfl (by omega) (by omega) (map_get (by omega)) ?_
   intro ae3 e3
   refine ldq Try.isAgg5 (e3) rfl rfl rfl ?_
   refine cnvI Try.runUnderlying5 Try.runUnderlying2 rfl rfl rfl (by have := hok.at_ p.toNat; omega) ?_
   refine add rfl rfl rfl rfl (by have := hok.at_ p.toNat; omega) ?_
   refine asI rfl rfl rfl ?_
   refine rNil ?_
   refine qSeq rfl ?_
   refine hSeq ?_
   refine hReg (sq 0 (sq 1 (sq 2 (sl 3 (sq 4 (sq 5 (sq 6 (sl 7 sz)))))))) (by kernel_rfl) ?_
   refine mvP rfl rfl rfl ?_
   refine nilc rfl rfl rfl ?_
   refine fld fl130_1 rfl rfl rfl ?_
   refine ldl Try.isAgg3 (cB 0 rfl rfl) trv rfl rfl rfl ?_
   refine add rfl rfl rfl rfl (by omega) ?_
   refine nilc rfl rfl rfl ?_
   refine fld fl130_1 rfl rfl rfl ?_
   refine stl (v := .int .i64 _) 0 rfl Try.sizeOf3 trv rfl rfl rfl rfl rfl (Nat.le_of_ble_eq_true rfl) ?_
   refine rNil ?_
   refine qSeq rfl ?_
   refine hSeq ?_
   refine hReg (sq 0 (sq 1 (sq 2 (sq 3 (sq 4 (sq 5 (sl 6 (sq 7 (sq 8 (sq 9 sz)))))))))) (by kernel_rfl) ?_
   refine mvI rfl rfl rfl ?_
   refine leq rfl rfl rfl rfl ?_
   refine mvB rfl rfl rfl ?_
   refine rBoolD (d := 55) rfl (fun g4 => ?_) (fun g4 => ?_)
   ·
    refine mvP rfl rfl rfl ?_
    refine nilc rfl rfl rfl ?_
    refine fld fl130_1 rfl rfl rfl ?_
    refine ldl Try.isAgg3 (cB 0 rfl rfl) trv rfl rfl rfl ?_
    refine rem rfl rfl rfl rfl (by omega) ?_
    refine eql rfl rfl rfl rfl ?_
    refine pickB rfl rfl rfl rfl ?_
    refine rNil ?_
    refine qSeq rfl ?_
    refine hIfD rfl (fun c5 => ?_) (fun c5 => ?_)
    ·
     refine hDraw (by kernel_rfl) (sq 0 (sq 1 (sq 2 (sq 3 (sq 4 (sq 5 (sq 6 (sq 7 (sq 8 (sq 9 (sq 10 (sq 11 (sq 12 sz))))))))))))) (by kernel_rfl) (.cons_cons _ .slnil) ?_
     refine mvP rfl rfl rfl ?_
     refine nilc rfl rfl rfl ?_
     refine fld fl130_0 rfl rfl rfl ?_
     refine ldq Try.isAgg32 (cB 0 rfl rfl) rfl rfl rfl ?_
     refine mvP rfl rfl rfl ?_
     refine nilc rfl rfl rfl ?_
     refine fld fl130_1 rfl rfl rfl ?_
     refine ldq Try.isAgg3 (cB 0 rfl rfl) rfl rfl rfl ?_
     refine sub rfl rfl rfl rfl (by omega) ?_
     refine ixq el32 (Kn.drop (k := 1) hK) (fun _ h => h.sub (.cons_cons _ .slnil)) rfl rfl rfl rfl (by omega) (by omega) (map_get (by omega)) ?_
     intro ae6 e6
     refine ldq Try.isAgg5 (e6) rfl rfl rfl ?_
     refine cnvI Try.runUnderlying5 Try.runUnderlying2 rfl rfl rfl (by have := hok.at_ (p + 1 - 1).toNat; omega) ?_
     refine asI rfl rfl rfl ?_
     refine rNil ?_
     refine qSeq rfl ?_
     refine hSeq ?_
     refine hReg (sq 0 (sq 1 (sq 2 (sq 3 sz)))) (by kernel_rfl) ?_
     refine mvI rfl rfl rfl ?_
     refine mvI rfl rfl rfl ?_
     refine rem rfl rfl rfl rfl (by have := hok.at_ p.toNat; have := hok.at_ (p + 1 - 1).toNat; omega) ?_
     refine asI rfl rfl rfl ?_
     refine rNil ?_
     refine qSeq rfl ?_
     refine hRet ?_
     exact fun w hs => ⟨[.int .i64 _], ⟨rfl, trivial⟩, ⟨_, rfl, emod_bd _ (by omega), hs.upd, ⟨_, _, hs.at_ 0 rfl, by omega, by omega, by omega, by omega⟩⟩⟩
    ·
     refine hSkip ?_
     refine qSeq rfl ?_
     refine hSeq ?_
     refine hReg (sq 0 (sq 1 (sq 2 (sq 3 sz)))) (by kernel_rfl) ?_
     refine mvI rfl rfl rfl ?_
     refine mvI rfl rfl rfl ?_
     refine rem rfl rfl rfl rfl (by have := hok.at_ p.toNat; have := hok.at_ (p + 1 - 1).toNat; omega) ?_
     refine asI rfl rfl rfl ?_
     refine rNil ?_
     refine qSeq rfl ?_
     refine hRet ?_
     exact fun w hs => ⟨[.int .i64 _], ⟨rfl, trivial⟩, ⟨_, rfl, emod_bd _ (by omega), hs.upd, ⟨_, _, hs.at_ 0 rfl, by omega, by omega, by omega, by omega⟩⟩⟩
   ·
    refine rSkipQ rfl rfl ?_
    refine rSkipQ rfl rfl ?_
    refine rSkipQ rfl rfl ?_
    refine rSkipL trv rfl rfl ?_
    refine rSkipQ rfl rfl ?_
    refine rSkipQ rfl rfl ?_
    refine pickB rfl rfl rfl rfl ?_
    refine rNil ?_
    refine qSeq rfl ?_
    refine hIfF rfl ?_
    refine hSkip ?_
    refine qSeq rfl ?_
    refine hSeq ?_
    refine hReg (sq 0 (sq 1 (sq 2 (sq 3 sz)))) (by kernel_rfl) ?_
    refine mvI rfl rfl rfl ?_
    refine mvI rfl rfl rfl ?_
    refine rem rfl rfl rfl rfl (by have := hok.at_ p.toNat; have := hok.at_ (p + 1 - 1).toNat; omega) ?_
    refine asI rfl rfl rfl ?_
    refine rNil ?_
    refine qSeq rfl ?_
    refine hRet ?_
    exact fun w hs => ⟨[.int .i64 _], ⟨rfl, trivial⟩, ⟨_, rfl, emod_bd _ (by omega), hs.upd, ⟨_, _, hs.at_ 0 rfl, by omega, by omega, by omega, by omega⟩⟩⟩
  ·
   refine hSkip ?_
   refine qSeq rfl ?_
   refine hSeq ?_
   refine hReg (sq 0 (sq 1 (sq 2 (sq 3 sz)))) (by kernel_rfl) ?_
   refine mvI rfl rfl rfl ?_
   refine mvI rfl rfl rfl ?_
   refine rem rfl rfl rfl rfl (by have := hok.at_ p.toNat; have := hok.at_ (p + 1 - 1).toNat; omega) ?_
   refine asI rfl rfl rfl ?_
   refine rNil ?_
   refine qSeq rfl ?_
   refine hRet ?_
   exact fun w hs => ⟨[.int .i64 _], ⟨rfl, trivial⟩, ⟨_, rfl, emod_bd _ (by omega), hs.upd, ⟨_, _, hs.at_ 0 rfl, by omega, by omega, by omega, by omega⟩⟩⟩
theorem l01Pick_c (bk : Nat) (ca : Option Addr) (bs : List Int) (cc : Nat) (a : Option Addr) (cap : Nat) (xs : List Int) (w : World) (hs0 : SrcIn bk ca bs cc w) (hx : Lst bk a xs w) (hn : 0 < xs.length) :
  Calls Try.prog 132 #[.pointer (some ⟨bk, 0, none⟩), .slice a xs.length cap] w (Ret fun v w' => ∃ x : Int, v = .int .i64 x ∧ x ∈ xs ∧ Upd (fun k => k = bk) w w' ∧ srcP bk ca bs cc w') := by
 obtain ⟨hsrc, hcode, hok⟩ := hs0
 have hX : Kn w (fun k => k = bk) [] (CellsAt a (xs.map (Value.int .i64))) := fun w' hs => hx w' hs.upd
 refine fn (M := (fun k => k = bk)) (rs := [.tmp 4]) Try.func132 rfl Try.ntmps132 rfl rfl (Sep.startS hsrc) ?_
 refine hSeq ?_
 refine hReg (sq 0 sz) (by kernel_rfl) ?_
 refine asI rfl rfl rfl ?_
 refine rNil ?_
 refine qSeq rfl ?_
 refine hSeq ?_
 refine hReg (sq 0 (sq 1 (sq 2 (sq 3 (sl 4 (sq 5 (sl 6 (sq 7 sz)))))))) (by kernel_rfl) ?_
 refine mvS rfl rfl rfl ?_
 refine mvP rfl rfl rfl ?_
 refine mvS rfl rfl rfl ?_
 refine lenS Try.runUnderlying23 rfl rfl rfl ?_
 refine callK 0 rfl srcP_mem srcP_st Try.call76 trv rfl rfl (fun w hs => l01Next_c _ _ _ _ _ w ⟨hs.at_ 0 rfl, hcode.upd hs.upd, hok⟩) ?_
 rintro x1 hx1
 refine ixl el23 (Kn.drop (k := 1) hX) rfl rfl rfl rfl (by omega) (by omega) (map_get (by omega)) ?_
 intro ae2 e2
 refine ldl Try.isAgg2 (e2) trv rfl rfl rfl ?_
 refine asI rfl rfl rfl ?_
 refine rNil ?_
 refine qSeq rfl ?_
 refine hRet ?_
 exact fun w hs => ⟨[.int .i64 _], ⟨rfl, trivial⟩, ⟨_, rfl, getD_mem (by omega), hs.upd, hs.at_ 0 rfl⟩⟩
theorem l01From_c (ca : Option Addr) (bs : List Int) (cc : Nat) (w : World) (hc : CellsAt ca (bs.map (Value.int .u8)) w) (hok : okBytes bs) :
  Calls Try.prog 74 #[.slice ca bs.length cc] w (Ret fun v w' => ∃ bk : Nat, v = .pointer (some ⟨bk, 0, none⟩) ∧ w.heap.size ≤ bk ∧ Ext w w' ∧ St (New w w') (srcP bk ca bs cc) w') := by
 have hK : Kn w none_ [] (CellsAt ca (bs.map (Value.int .u8))) := fun w' hs => hc.ext hs.upd
 refine fn (M := none_) (rs := [.tmp 2]) Try.func74 rfl Try.ntmps74 rfl rfl (Sep.start _ _) ?_
 refine hSeq ?_
 refine hReg (sq 0 sz) (by kernel_rfl) ?_
 refine asn rfl rfl rfl ?_
 refine rNil ?_
 refine qSeq rfl ?_
 refine hSeq ?_
 refine hReg (sq 0 (sq 1 (sl 2 (sq 3 sz)))) (by kernel_rfl) ?_
 refine mvS rfl rfl rfl ?_
 refine bld rfl rfl rfl (bld130_0_2 (.slice _ _ _) (.int .i64 _) rfl rfl) ?_
 refine box trv1 rfl rfl rfl rfl (fun bkb1 hbkb1 => ?_)
 refine asn rfl rfl rfl ?_
 refine rNil ?_
 refine qSeq rfl ?_
 refine hSeq ?_
 refine hSeq ?_
 refine hReg (sq 0 sz) (by kernel_rfl) ?_
 refine asI rfl rfl rfl ?_
 refine rNil ?_
 refine qSeq rfl ?_
 refine hBlk ?_
 refine hLoop (α := Int × Int) (fun x => (0 ≤ x.1 ∧ x.1 ≤ 64) ∧ (0 ≤ x.2 ∧ x.2 ≤ 2147483646)) (fun x => (64 - x.1).toNat) (fun x => [blk bkb1 130 [.slice ca bs.length cc, .int .i64 0, .int .i64 x.2]]) (fun x => [(0, .slice ca bs.length cc), (3, .pointer (some ⟨bkb1, 0, none⟩)), (4, .int .i64 x.1)]) (0, 45007) ⟨by decide, by decide⟩ (fun _ h => h) ⟨rfl, rfl, rfl, trivial⟩ ?_
 rintro ⟨i, s⟩ τ1 ⟨⟨hi, hi2⟩, hs1, hs2⟩
 dsimp only at hi hi2 hs1 hs2
 refine hRe [(0, .slice ca bs.length cc), (3, .pointer (some ⟨bkb1, 0, none⟩)), (4, .int .i64 i)] [blk bkb1 130 [.slice ca bs.length cc, .int .i64 0, .int .i64 s]] rfl rfl ?_
 refine hSeq ?_
 refine hSeq ?_
 refine hReg (sq 0 (sq 1 (sq 2 (sq 3 (sq 4 (sq 5 (sq 6 (sq 7 sz)))))))) (by kernel_rfl) ?_
 refine mvI rfl rfl rfl ?_
 refine mvS rfl rfl rfl ?_
 refine lenS Try.runUnderlying32 rfl rfl rfl ?_
 refine lss rfl rfl rfl rfl ?_
 refine mvB rfl rfl rfl ?_
 refine rBoolD (d := 12) rfl (fun g1 => ?_) (fun g1 => ?_)
 ·
  refine mvI rfl rfl rfl ?_
  refine lss rfl rfl rfl rfl ?_
  refine pickB rfl rfl rfl rfl ?_
  refine rNil ?_
  refine qSeq rfl ?_
  refine hIfD rfl (fun c2 => ?_) (fun c2 => ?_)
  ·
   refine hSkip ?_
   refine qSeq rfl ?_
   refine hSeq ?_
   refine hBlk ?_
   refine hDraw (by kernel_rfl) (sq 0 (sq 1 (sq 2 (sq 3 (sq 4 (sq 5 (sq 6 (sq 7 (sq 8 (sq 9 (sq 10 (sq 11 (sq 12 (sl 13 (sq 14 (sf 15 sz)))))))))))))))) (by kernel_rfl) (.cons_cons _ .slnil) ?_
   refine mvP rfl rfl rfl ?_
   refine mvP rfl rfl rfl ?_
   refine nilc rfl rfl rfl ?_
   refine fld fl130_2 rfl rfl rfl ?_
   refine ldq Try.isAgg2 (cB 0 rfl rfl) rfl rfl rfl ?_
   refine mul rfl rfl rfl rfl (by omega) ?_
   refine mvS rfl rfl rfl ?_
   refine mvI rfl rfl rfl ?_
   refine ixq el32 (Kn.drop (k := 1) hK) (fun _ h => h.sub (.cons_cons _ .slnil)) rfl rfl rfl rfl (by omega) (by omega) (map_get (by omega)) ?_
   intro ae3 e3
   refine ldq Try.isAgg5 (e3) rfl rfl rfl ?_
   refine cnvI Try.runUnderlying5 Try.runUnderlying2 rfl rfl rfl (by have := hok.at_ i.toNat; omega) ?_
   refine add rfl rfl rfl rfl (by have := hok.at_ i.toNat; omega) ?_
   refine rem rfl rfl rfl rfl (by have := hok.at_ i.toNat; omega) ?_
   refine nilcL (fun _ h => h.sub (.cons_cons _ .slnil)) rfl rfl rfl ?_
   refine fld fl130_2 rfl rfl rfl ?_
   refine stf (v := .int .i64 _) 0 rfl Try.sizeOf2 rfl rfl rfl rfl rfl (Nat.le_of_ble_eq_true rfl) ?_
   refine rNil ?_
   refine qSeq rfl ?_
   refine hReg (sq 0 (sq 1 (sq 2 sz))) (by kernel_rfl) ?_
   refine mvI rfl rfl rfl ?_
   refine add rfl rfl rfl rfl (by omega) ?_
   refine asI rfl rfl rfl ?_
   refine rNil ?_
   exact qNext rfl (i + 1, (s * 61 + bs.getD i.toNat 0) % 2147483647) (by dsimp only; omega) ⟨by dsimp only; omega, by dsimp only; omega⟩ ⟨rfl, rfl, rfl, trivial⟩ (fun _ h => h)
  ·
   refine hExit rfl ?_
   refine qSeq rfl ?_
   refine hSeq ?_
   refine hReg (sq 0 (sq 1 sz)) (by kernel_rfl) ?_
   refine mvP rfl rfl rfl ?_
   refine asn rfl rfl rfl ?_
   refine rNil ?_
   refine qSeq rfl ?_
   refine hRet ?_
   exact fun w hs => ⟨[.pointer _], ⟨rfl, trivial⟩, ⟨_, rfl, hbkb1, hs.upd, (hs.fresh0 rfl).imp fun w h => ⟨_, _, h, by omega, by omega, by omega, by omega⟩⟩⟩
 ·
  refine rSkipQ rfl rfl ?_
  refine rSkipQ rfl rfl ?_
  refine pickB rfl rfl rfl rfl ?_
  refine rNil ?_
  refine qSeq rfl ?_
  refine hIfF rfl ?_
  refine hExit rfl ?_
  refine qSeq rfl ?_
  refine hSeq ?_
  refine hReg (sq 0 (sq 1 sz)) (by kernel_rfl) ?_
  refine mvP rfl rfl rfl ?_
  refine asn rfl rfl rfl ?_
  refine rNil ?_
  refine qSeq rfl ?_
  refine hRet ?_
  exact fun w hs => ⟨[.pointer _], ⟨rfl, trivial⟩, ⟨_, rfl, hbkb1, hs.upd, (hs.fresh0 rfl).imp fun w h => ⟨_, _, h, by omega, by omega, by omega, by omega⟩⟩⟩
theorem l01PickV_c (bk : Nat) (ca : Option Addr) (bs : List Int) (cc : Nat) (a : Option Addr) (len cap : Nat) (vs : List Value) (w : World) (hs0 : SrcIn bk ca bs cc w) (hx : Lst bk a (vs.map toI) w) (hl : len = vs.length) (hn : 0 < len) :
  Calls Try.prog 132 #[.pointer (some ⟨bk, 0, none⟩), .slice a len cap] w (Ret fun v w' => ∃ x : Int, v = .int .i64 x ∧ x ∈ vs.map toI ∧ Upd (fun k => k = bk) w w' ∧ srcP bk ca bs cc w') := by
 subst hl
 simpa using l01Pick_c bk ca bs cc a cap (vs.map toI) w hs0 hx (by simpa using hn)
end Go.Proofs.Yteaahdakammffaa
/- A slice put into an owned row; plain facts on bet trees. No condition. -/
namespace Go.Proofs.Yteaahdakammffaa.V
open Go Go.RowKit
set_option linter.unusedVariables false
set_option linter.unusedSimpArgs false
section
variable {P : Program} {n : Nat} {w0 : World} {M : Nat → Prop} {L L' : List (World → Prop)} {σ : Fr} {K K' : Ko} {c x y : Code} {ops : Array Oper} {S : World → Prop} {r : Sch} {i : Nat}
variable {d : Nat} {t : TypeId} {p : String} {af : Array Edge} {g : Option (Nat × Bool)} {a b : Operand}
variable {α : Type} {k : RK α} {ty e e1 by_ N C : Nat} {ao : Option Addr} {hs : Nat → Hd} {xs : List α} {zc : List Value}
end
end Go.Proofs.Yteaahdakammffaa.V
namespace Go.Proofs.Yteaahdakammffaa.Math
open Go.Proofs.Yteaahdakammffaa.V
/-- How often a tree may grow on. -/
def ckN (ck : Bool) : Int := if ck then 2 else 3
def p2 : Nat → Nat
 | 0 => 1
 | f + 1 => p2 f + p2 f
/-- A bet tree: the nodes that are added. -/
def growF : Nat → Int → Int → Int → Int → Int → Bool → Nat → List Nd
 | 0, _, _, _, _, _, _, _ => []
 | f + 1, pl, p0, p1, bet, r, ck, b =>
  if p0 = p1 then
   ⟨pl, p0, p1, -1, [((b + 1 : Nat) : Int), ((b + 1 + (if ck then [(⟨2, p0, p1, -1, []⟩ : Nd)] else growF f (1 - pl) p0 p1 bet r true (b + 1)).length : Nat) : Int)]⟩ ::
    ((if ck then [(⟨2, p0, p1, -1, []⟩ : Nd)] else growF f (1 - pl) p0 p1 bet r true (b + 1)) ++
     growF f (1 - pl) (if pl = 0 then p1 + bet else p0) (if pl = 0 then p1 else p0 + bet) bet r false (b + 1 + (if ck then [(⟨2, p0, p1, -1, []⟩ : Nd)] else growF f (1 - pl) p0 p1 bet r true (b + 1)).length))
  else if r = 0 then [⟨pl, p0, p1, -1, [((b + 1 : Nat) : Int), ((b + 1 + 1 : Nat) : Int)]⟩, ⟨2, p0, p1, pl, []⟩, ⟨2, if pl = 0 then p1 else p0, if pl = 0 then p1 else p0, -1, []⟩]
  else ⟨pl, p0, p1, -1, [((b + 1 : Nat) : Int), ((b + 1 + 1 : Nat) : Int), ((b + 1 + 1 + 1 : Nat) : Int)]⟩ :: ⟨2, p0, p1, pl, []⟩ :: ⟨2, if pl = 0 then p1 else p0, if pl = 0 then p1 else p0, -1, []⟩ ::
   growF f (1 - pl) (if pl = 0 then p1 + bet else p0) (if pl = 0 then p1 else p0 + bet) bet (r - 1) false (b + 1 + 1 + 1)
section
variable {z : List Nd} {f n n1 n2 : Nat} {pl p0 p1 q0 q1 o bet r r1 pm : Int} {ck : Bool} {ch : List Int} {A B : List Nd}
end
def betAt (ante bet r : Int) : List Nd × Int := if (0 ≤ ante ∧ ante ≤ 100) ∧ (1 ≤ bet ∧ bet ≤ 100) ∧ (0 ≤ r ∧ r ≤ 2) ∧ ante + bet * (r + 1) ≤ 100 then (growF 5 0 ante ante bet r false 0, 0) else ([], 2)
end Go.Proofs.Yteaahdakammffaa.Math
/- Calls that turn what they are handed, and read what nobody turns. No condition. -/
namespace Go.Proofs.Yteaahdakammffaa.V
open Go Go.RowKit
set_option linter.unusedVariables false
set_option linter.unusedSimpArgs false
section
variable {P : Program} {n : Nat} {w0 : World} {M : Nat → Prop} {L L' Lf Lr : List (World → Prop)} {σ : Fr} {K K' : Ko} {c x y : Code} {ops : Array Oper} {S : World → Prop} {r : Sch} {i : Nat}
variable {d : Nat} {t : TypeId} {p : String} {af : Array Edge} {g : Option (Nat × Bool)} {a b : Operand}
theorem callMK {α : Type} {f : FuncId} {args : Array Operand} {tys : Array TypeId} {val : α → Value} {good : α → Prop} {φs : α → List (World → Prop)} (hL : L = Lf ++ Lr) (hf : ∀ args w, (callFunc f args).run P w = .ok (.enter f args) w) (hS : ∀ x w, Sep w0 M (φs x ++ Lr) w → S w) (ho : ops[i]? = some ⟨some d, .call ⟨.value (.func f), args, tys⟩, t, p, af, g⟩) (hg : go ops σ g)
  (hc : ∀ w M0, Sep w M0 Lf w → (∀ φ, Kn w0 M [] φ → Kn w M0 [] φ) → Calls P f (args.toList.map (ev σ)).toArray w (Ret fun v' w' => ∃ x, v' = val x ∧ good x ∧ Sep w M0 (φs x) w')) (h : ∀ x, good x → RG P n w0 M ops S (φs x ++ Lr) r (upd σ d (val x)) K) : RG P n w0 M ops S L (.op .l i r) σ K := by
 subst hL
 exact rL (Lx := fun x => φs x ++ Lr) (v := val) hS ho hg (fun w hs => by
  obtain ⟨M0, h1, h2⟩ := hs.focus
  refine call_opw hf (hc w M0 h1 fun φ hk w' hs' => hk w' ((h2 [] w' hs').sub (List.nil_sublist _))) fun v' w' ⟨x, he, hx, hsep⟩ => by subst he; exact ⟨x, hx, h2 _ _ hsep, rfl⟩) h
end
theorem Sep.nilU {w w' : World} {M : Nat → Prop} (h : Upd M w w') : Sep w M [] w' := ⟨h, [], trivial⟩
end Go.Proofs.Yteaahdakammffaa.V
namespace Go.Proofs.Yteaahdakammffaa
open Go Go.RowKit V
theorem src_in {bk : Nat} {ca : Option Addr} {bs : List Int} {cc : Nat} {w : World} {M0 : Nat → Prop} {L : List (World → Prop)} (hs0 : V.Sep w M0 (srcP bk ca bs cc :: L) w) (hc : Kn w M0 [] (CellsAt ca (bs.map (Value.int .u8)))) (hok : okBytes bs) : SrcIn bk ca bs cc w := by
 refine ⟨hs0.at_ 0 rfl, fun w' hu => hc w' (Sep.nilU (hu.mono fun k hk hb => ?_)), hok⟩
 subst hb
 obtain ⟨_, fs, h⟩ := hs0
 match fs, h with
 | f :: fs, ⟨h1, _, h3, _⟩ =>
  have hm := srcP_mem f w h3
  exact (h1 _ hm).1.resolve_left (Nat.not_le_of_lt (h1 _ hm).2)
 | [], h => exact h.elim
theorem src_out {bk : Nat} {ca : Option Addr} {bs : List Int} {cc : Nat} {w w' : World} {M0 : Nat → Prop} {L : List (World → Prop)} (hs0 : V.Sep w M0 (srcP bk ca bs cc :: L) w) (hu : Upd (fun k => k = bk) w w') (h : srcP bk ca bs cc w') : V.Sep w M0 (srcP bk ca bs cc :: L) w' :=
 hs0.change 0 rfl fun f hf => ⟨f, fun _ h => .inl h, srcP_st f w' h (srcP_mem f w hf), hu.mono fun k _ hk => by subst hk; exact srcP_mem f w hf⟩
end Go.Proofs.Yteaahdakammffaa
/- Numbers that a source hands out. Their conditions stand in each. -/
namespace Go.Proofs.Yteaahdakammffaa
open Go Go.RowKit V
set_option linter.unusedVariables false
set_option linter.unusedSimpArgs false
set_option maxRecDepth 100000
theorem src_next (bk : Nat) (ca : Option Addr) (bs : List Int) (cc : Nat) (n : Int) (w : World) (M0 : Nat → Prop) (hs0 : V.Sep w M0 [srcP bk ca bs cc] w) (hc : Kn w M0 [] (CellsAt ca (bs.map (Value.int .u8)))) (hok : okBytes bs) :
  Calls Try.prog 76 #[.pointer (some ⟨bk, 0, none⟩), .int .i64 n] w (Ret fun v w' => ∃ x : Int, v = .int .i64 x ∧ (0 ≤ x ∧ (x < n ∨ x = 0)) ∧ V.Sep w M0 [srcP bk ca bs cc] w') :=
 Calls.mono (l01Next_c bk ca bs cc n w (src_in hs0 hc hok)) fun e w' ⟨v, he, x, hv, hx, hu, h⟩ => ⟨v, he, x, hv, hx, src_out hs0 hu h⟩
theorem src_pick (bk : Nat) (ca : Option Addr) (bs : List Int) (cc : Nat) (lb e len cap : Nat) (vs : List Value) (w : World) (M0 : Nat → Prop) (hs0 : V.Sep w M0 [srcP bk ca bs cc, blk lb e vs] w) (hc : Kn w M0 [] (CellsAt ca (bs.map (Value.int .u8)))) (hok : okBytes bs) (hv : vs = (vs.map toI).map (Value.int .i64)) (hl : len = vs.length) (hn : 0 < len) :
  Calls Try.prog 132 #[.pointer (some ⟨bk, 0, none⟩), .slice (some ⟨lb, 0, none⟩) len cap] w (Ret fun v w' => ∃ x : Int, v = .int .i64 x ∧ x ∈ vs.map toI ∧ V.Sep w M0 [srcP bk ca bs cc, blk lb e vs] w') :=
 Calls.mono (l01PickV_c bk ca bs cc _ len cap vs w (src_in hs0 hc hok) (Lst.of' hs0 1 0 rfl rfl (by decide) hv) hl hn) fun e w' ⟨v, he, x, hv, hx, hu, h⟩ => ⟨v, he, x, hv, hx, src_out hs0 hu h⟩
end Go.Proofs.Yteaahdakammffaa
/- Contracts of what laws on exchanges call. Their conditions stand in each. -/
namespace Go.Proofs.Yteaahdakammffaa
open Go Go.RowKit V
set_option linter.unusedVariables false
set_option linter.unusedSimpArgs false
set_option maxRecDepth 100000
theorem impl_AlikeCards_c (az : Option Addr) (nz : Nat) (cz : Nat) (Hz : Nat → Hd) (z : List (List Int)) (c : Int) (w : World) (rz : RdR maK az nz Hz z w) :
  Calls Try.prog 52 #[.slice az nz cz, .int .i64 c] w (Ret fun v w' => ∃ x : Option Addr × Nat × Nat × List Int × Int, v = .tuple #[.slice x.1 x.2.1 x.2.2.1, .int .i64 x.2.2.2.2] ∧ (x.2.2.2.1 = Iso.alY z c ∧ x.2.2.2.2 = Iso.alE z c) ∧ Sep w none_ [OwnI 2 x.1 x.2.1 x.2.2.1 x.2.2.2.1] w') := by
 have kz : Kn w none_ [] (RdR maK az nz Hz z) := fun w' hs => rz.ext hs.upd
 have lz : z.length = nz := rz.1
 have mz : nz ≤ 9223372036854775807 := rz.2.1
 refine fn (M := none_) (rs := [.tmp 4, .tmp 5]) Try.func52 rfl Try.ntmps52 rfl rfl (Sep.start _ _) ?_
 refine hSeq ?_
 refine hReg (sq 0 (sq 1 sz)) (by kernel_rfl) ?_
 refine asS rfl rfl rfl ?_
 refine asI rfl rfl rfl ?_
 refine rNil ?_
 refine qSeq rfl ?_
 refine hSeq ?_
 refine hSeq ?_
 refine hReg (sq 0 (sl 1 (sq 2 sz))) (by kernel_rfl) ?_
 refine mvS rfl rfl rfl ?_
 refine callP (v := .int .i64 (Iso.codeS z)) Try.call80 trv rfl rfl (fun w hs => impl_checkSets_c _ nz cz _ _ w (kz w hs)) ?_
 refine asI rfl rfl rfl ?_
 refine rNil ?_
 refine qSeq rfl ?_
 refine hSeq ?_
 refine hReg (sq 0 (sq 1 sz)) (by kernel_rfl) ?_
 refine mvI rfl rfl rfl ?_
 refine neq rfl rfl rfl rfl ?_
 refine rNil ?_
 refine qSeq rfl ?_
 refine hIfD rfl (fun c1 => ?_) (fun c1 => ?_)
 ·
  replace c1 : (Iso.codeS z) ≠ 0 := c1
  refine hSeq ?_
  refine hReg (sq 0 (sq 1 (sq 2 sz))) (by kernel_rfl) ?_
  refine mvI rfl rfl rfl ?_
  refine asS rfl rfl rfl ?_
  refine asI rfl rfl rfl ?_
  refine rNil ?_
  refine qSeq rfl ?_
  refine hRet ?_
  refine knP (fun _ h => Sep.nilI 2 h) ?_
  exact fun w hs => ⟨[.slice none 0 0, .int .i64 (Iso.codeS z)], ⟨rfl, ⟨rfl, trivial⟩⟩, ⟨(none, 0, 0, [], (Iso.codeS z)), rfl, ⟨(Iso.alY_no (by rw [Iso.alE_1 c1]; exact c1)).symm, (Iso.alE_1 c1).symm⟩, hs.pick [0]⟩⟩
 ·
  replace c1 : ¬ ((Iso.codeS z) ≠ 0) := c1
  have hc0 : Iso.codeS z = 0 := by simpa using c1
  refine hSkip ?_
  refine qSeq rfl ?_
  refine hSeq ?_
  refine hSeq ?_
  refine hReg (sq 0 (sl 1 (sq 2 sz))) (by kernel_rfl) ?_
  refine mvI rfl rfl rfl ?_
  refine callP (v := .bool (decide (0 ≤ c ∧ c ≤ 51))) Try.call101 trv rfl rfl (fun w hs => impl_isCard_c _ w ) ?_
  refine notD rfl rfl rfl ?_
  refine rNil ?_
  refine qSeq rfl ?_
  refine hIfD rfl (fun c2 => ?_) (fun c2 => ?_)
  ·
   replace c2 : ¬ (0 ≤ c ∧ c ≤ 51) := c2
   refine hSeq ?_
   refine hReg (sq 0 (sq 1 sz)) (by kernel_rfl) ?_
   refine asS rfl rfl rfl ?_
   refine asI rfl rfl rfl ?_
   refine rNil ?_
   refine qSeq rfl ?_
   refine hRet ?_
   refine knP (fun _ h => Sep.nilI 2 h) ?_
   exact fun w hs => ⟨[.slice none 0 0, .int .i64 2], ⟨rfl, ⟨rfl, trivial⟩⟩, ⟨(none, 0, 0, [], 2), rfl, ⟨(Iso.alY_no (by rw [Iso.alE_2 hc0 (by simpa using c2)]; decide)).symm, (Iso.alE_2 hc0 (by simpa using c2)).symm⟩, hs.pick [0]⟩⟩
  ·
   replace c2 : ¬ (¬ (0 ≤ c ∧ c ≤ 51)) := c2
   have hcb : 0 ≤ c ∧ c ≤ 51 := by simpa using c2
   have hal0 := Iso.alE_0 hc0 hcb
   refine hSkip ?_
   refine qSeq rfl ?_
   refine hSeq ?_
   refine hReg (sq 0 (sl 1 (sq 2 (sl 3 (sq 4 (sq 5 sz)))))) (by kernel_rfl) ?_
   refine mvS rfl rfl rfl ?_
   refine callS Try.call90 trv1 rfl rfl (fun w hs => impl_fixing_c _ nz cz _ _ w (kz w hs) (by assumption)) ?_
   rintro ⟨ay1, ny1, cy1, Hy1, y1⟩ hr1
   dsimp only at hr1
   subst y1
   refine rKnow (fun w hs => (show OwnR a4K 90 2 ay1 ny1 cy1 Hy1 (Iso.fixA z) w from hs.at_ 0 rfl).1) (fun lenn3 => ?_)
   refine rVal (v' := .slice ay1 ny1 cy1) rfl ?_
   refine mvI rfl rfl rfl ?_
   refine callS Try.call99 trv1 rfl rfl (fun w hs => impl_alikeCards_c _ ny1 cy1 _ _ _ w (OwnR.rd (hs.at_ 0 rfl) a4K.ok) (fun p hp => Iso.fixA_isP hp) (by omega) (Iso.fixA_len _)) ?_
   rintro ⟨ay2, ny2, cy2, y2⟩ ⟨hr2a, hr2b⟩
   dsimp only at hr2a hr2b
   subst y2
   subst ny2
   refine rKnow (fun w hs => (show OwnI 2 ay2 ((((Iso.alk (Iso.fixA z) c).length))) cy2 (((Iso.alk (Iso.fixA z) c))) w from hs.at_ 0 rfl).lenz) (fun lenn4 => ?_)
   refine rVal (v' := .slice ay2 ((((Iso.alk (Iso.fixA z) c).length))) cy2) rfl ?_
   refine asS rfl rfl rfl ?_
   refine asI rfl rfl rfl ?_
   refine rNil ?_
   refine qSeq rfl ?_
   refine hRet ?_
   exact fun w hs => ⟨[.slice ay2 ((((Iso.alk (Iso.fixA z) c).length))) cy2, .int .i64 0], ⟨rfl, ⟨rfl, trivial⟩⟩, ⟨(ay2, (((Iso.alk (Iso.fixA z) c).length)), cy2, ((Iso.alk (Iso.fixA z) c)), 0), rfl, ⟨by rw [Iso.alY_0 hal0], hal0.symm⟩, hs.pick [0]⟩⟩
end Go.Proofs.Yteaahdakammffaa
/- Contracts of what laws on same deals call. Their conditions stand in each. -/
namespace Go.Proofs.Yteaahdakammffaa
open Go Go.RowKit V
set_option linter.unusedVariables false
set_option linter.unusedSimpArgs false
set_option maxRecDepth 100000
theorem spec_AlikeCards_c (az : Option Addr) (nz : Nat) (cz : Nat) (Hz : Nat → Hd) (z : List (List Int)) (c : Int) (w : World) (rz : RdR maK az nz Hz z w) :
  Calls Try.prog 53 #[.slice az nz cz, .int .i64 c] w (Ret fun v w' => ∃ x : Option Addr × Nat × Nat × List Int × Int, v = .tuple #[.slice x.1 x.2.1 x.2.2.1, .int .i64 x.2.2.2.2] ∧ (x.2.2.2.1 = Iso.alY z c ∧ x.2.2.2.2 = Iso.alE z c) ∧ Sep w none_ [OwnI 2 x.1 x.2.1 x.2.2.1 x.2.2.2.1] w') := by
 have kz : Kn w none_ [] (RdR maK az nz Hz z) := fun w' hs => rz.ext hs.upd
 have lz : z.length = nz := rz.1
 have mz : nz ≤ 9223372036854775807 := rz.2.1
 refine fn (M := none_) (rs := [.tmp 4, .tmp 5]) Try.func53 rfl Try.ntmps53 rfl rfl (Sep.start _ _) ?_
 refine hSeq ?_
 refine hReg (sq 0 (sq 1 sz)) (by kernel_rfl) ?_
 refine asS rfl rfl rfl ?_
 refine asI rfl rfl rfl ?_
 refine rNil ?_
 refine qSeq rfl ?_
 refine hSeq ?_
 refine hReg (sq 0 (sl 1 (sq 2 sz))) (by kernel_rfl) ?_
 refine mvS rfl rfl rfl ?_
 refine callP (v := .int .i64 (Iso.codeS z)) Try.call77 trv rfl rfl (fun w hs => spec_l18Code_c _ nz cz _ _ w (kz w hs)) ?_
 refine asI rfl rfl rfl ?_
 refine rNil ?_
 refine qSeq rfl ?_
 refine hSeq ?_
 refine hSeq ?_
 refine hReg (sq 0 (sq 1 (sq 2 (sq 3 (sl 4 (sq 5 (sq 6 sz))))))) (by kernel_rfl) ?_
 refine mvI rfl rfl rfl ?_
 refine eql rfl rfl rfl rfl ?_
 refine mvB rfl rfl rfl ?_
 refine rBoolD (d := 11) rfl (fun g1 => ?_) (fun g1 => ?_)
 ·
  replace g1 : (Iso.codeS z) = 0 := g1
  have hc0 : Iso.codeS z = 0 := g1
  refine mvI rfl rfl rfl ?_
  refine callP (v := .bool (decide (0 ≤ c ∧ c ≤ 51))) Try.call102 trv rfl rfl (fun w hs => spec_l02Card_c _ w ) ?_
  refine notD rfl rfl rfl ?_
  refine pickB rfl rfl rfl rfl ?_
  refine rNil ?_
  refine qSeq rfl ?_
  refine hIfD rfl (fun c2 => ?_) (fun c2 => ?_)
  ·
   replace c2 : ¬ (0 ≤ c ∧ c ≤ 51) := c2
   replace c2 : ¬ (0 ≤ c ∧ c ≤ 51) := by simpa using c2
   refine hReg (sq 0 sz) (by kernel_rfl) ?_
   refine asI rfl rfl rfl ?_
   refine rNil ?_
   refine qSeq rfl ?_
   refine hSeq ?_
   refine hSeq ?_
   refine hReg (sq 0 (sq 1 sz)) (by kernel_rfl) ?_
   refine mvI rfl rfl rfl ?_
   refine neq rfl rfl rfl rfl ?_
   refine rNil ?_
   refine qSeq rfl ?_
   refine hIfT rfl ?_
   refine hSeq ?_
   refine hReg (sq 0 (sq 1 (sq 2 sz))) (by kernel_rfl) ?_
   refine mvI rfl rfl rfl ?_
   refine asS rfl rfl rfl ?_
   refine asI rfl rfl rfl ?_
   refine rNil ?_
   refine qSeq rfl ?_
   refine hRet ?_
   refine knP (fun _ h => Sep.nilI 2 h) ?_
   exact fun w hs => ⟨[.slice none 0 0, .int .i64 2], ⟨rfl, ⟨rfl, trivial⟩⟩, ⟨(none, 0, 0, [], 2), rfl, ⟨(Iso.alY_no (by rw [Iso.alE_2 hc0 (by assumption)]; decide)).symm, (Iso.alE_2 hc0 (by assumption)).symm⟩, hs.pick [0]⟩⟩
  ·
   replace c2 : ¬ (¬ (0 ≤ c ∧ c ≤ 51)) := c2
   have hcb : 0 ≤ c ∧ c ≤ 51 := by simpa using c2
   have hal0 := Iso.alE_0 hc0 hcb
   refine hSkip ?_
   refine qSeq rfl ?_
   refine hSeq ?_
   refine hSeq ?_
   refine hReg (sq 0 (sq 1 sz)) (by kernel_rfl) ?_
   refine mvI rfl rfl rfl ?_
   refine neq rfl rfl rfl rfl ?_
   refine rNil ?_
   refine qSeq rfl ?_
   refine hIfD rfl (fun c3 => ?_) (fun c3 => ?_)
   ·
    replace c3 : (Iso.codeS z) ≠ 0 := c3
    exact absurd hc0 c3
   ·
    replace c3 : ¬ ((Iso.codeS z) ≠ 0) := c3
    refine hSkip ?_
    refine qSeq rfl ?_
    refine hSeq ?_
    refine hReg (sq 0 (sl 1 (sq 2 (sl 3 (sq 4 (sq 5 sz)))))) (by kernel_rfl) ?_
    refine mvS rfl rfl rfl ?_
    refine callS Try.call91 trv1 rfl rfl (fun w hs => spec_l18Fixing_c _ nz cz _ _ w (kz w hs) (by assumption)) ?_
    rintro ⟨ay1, ny1, cy1, Hy1, y1⟩ hr1
    dsimp only at hr1
    subst y1
    refine rKnow (fun w hs => (show RdR maK ay1 ny1 Hy1 (Iso.fixA z) w from hs.at_ 0 rfl).1) (fun lenn2 => ?_)
    refine rVal (v' := .slice ay1 ny1 cy1) rfl ?_
    refine mvI rfl rfl rfl ?_
    refine callS Try.call103 trv1 rfl rfl (fun w hs => spec_l18Alike_c _ ny1 cy1 _ _ _ w (hs.at_ 0 rfl) (fun p hp => Iso.fixA_isP hp) (by omega) (Iso.fixA_len _)) ?_
    rintro ⟨ay2, ny2, cy2, y2⟩ ⟨hr2a, hr2b⟩
    dsimp only at hr2a hr2b
    subst y2
    subst ny2
    refine rKnow (fun w hs => (show OwnI 2 ay2 ((((Iso.alk (Iso.fixA z) c).length))) cy2 (((Iso.alk (Iso.fixA z) c))) w from hs.at_ 0 rfl).lenz) (fun lenn3 => ?_)
    refine rVal (v' := .slice ay2 ((((Iso.alk (Iso.fixA z) c).length))) cy2) rfl ?_
    refine asS rfl rfl rfl ?_
    refine asI rfl rfl rfl ?_
    refine rNil ?_
    refine qSeq rfl ?_
    refine hRet ?_
    exact fun w hs => ⟨[.slice ay2 ((((Iso.alk (Iso.fixA z) c).length))) cy2, .int .i64 0], ⟨rfl, ⟨rfl, trivial⟩⟩, ⟨(ay2, (((Iso.alk (Iso.fixA z) c).length)), cy2, ((Iso.alk (Iso.fixA z) c)), 0), rfl, ⟨by rw [Iso.alY_0 hal0], hal0.symm⟩, hs.pick [0]⟩⟩
 ·
  replace g1 : ¬ ((Iso.codeS z) = 0) := g1
  refine rSkipQ rfl rfl ?_
  refine rSkipL trv rfl rfl ?_
  refine rSkipQ rfl rfl ?_
  refine pickB rfl rfl rfl rfl ?_
  refine rNil ?_
  refine qSeq rfl ?_
  refine hIfF rfl ?_
  refine hSkip ?_
  refine qSeq rfl ?_
  refine hSeq ?_
  refine hSeq ?_
  refine hReg (sq 0 (sq 1 sz)) (by kernel_rfl) ?_
  refine mvI rfl rfl rfl ?_
  refine neq rfl rfl rfl rfl ?_
  refine rNil ?_
  refine qSeq rfl ?_
  refine hIfD rfl (fun c4 => ?_) (fun c4 => ?_)
  ·
   replace c4 : (Iso.codeS z) ≠ 0 := c4
   refine hSeq ?_
   refine hReg (sq 0 (sq 1 (sq 2 sz))) (by kernel_rfl) ?_
   refine mvI rfl rfl rfl ?_
   refine asS rfl rfl rfl ?_
   refine asI rfl rfl rfl ?_
   refine rNil ?_
   refine qSeq rfl ?_
   refine hRet ?_
   refine knP (fun _ h => Sep.nilI 2 h) ?_
   exact fun w hs => ⟨[.slice none 0 0, .int .i64 (Iso.codeS z)], ⟨rfl, ⟨rfl, trivial⟩⟩, ⟨(none, 0, 0, [], (Iso.codeS z)), rfl, ⟨(Iso.alY_no (by rw [Iso.alE_1 g1]; exact g1)).symm, (Iso.alE_1 g1).symm⟩, hs.pick [0]⟩⟩
  ·
   replace c4 : ¬ ((Iso.codeS z) ≠ 0) := c4
   exact absurd (by simpa using c4) g1
theorem laws_big_c (ca : Option Addr) (bs : List Int) (cc : Nat) (w : World) (rcode : CellsAt ca (bs.map (Value.int .u8)) w) :
  Calls Try.prog 19 #[.slice ca bs.length cc] w (Ret fun v w' => v = .bool (decide (4096 < ((bs.length : Nat) : Int))) ∧ Ext w w') := by
 have kcode : Kn w none_ [] (CellsAt ca (bs.map (Value.int .u8))) := fun w' hs => rcode.ext hs.upd
 refine fn (M := none_) (rs := [.tmp 2]) Try.func19 rfl Try.ntmps19 rfl rfl (Sep.start _ _) ?_
 refine hSeq ?_
 refine hReg (sq 0 sz) (by kernel_rfl) ?_
 refine asB rfl rfl rfl ?_
 refine rNil ?_
 refine qSeq rfl ?_
 refine hSeq ?_
 refine hReg (sq 0 (sq 1 (sq 2 (sq 3 sz)))) (by kernel_rfl) ?_
 refine mvS rfl rfl rfl ?_
 refine lenS Try.runUnderlying32 rfl rfl rfl ?_
 refine gtr rfl rfl rfl rfl ?_
 refine asB rfl rfl rfl ?_
 refine rNil ?_
 refine qSeq rfl ?_
 refine hRet ?_
 exact fun w hs => ⟨[.bool (decide (4096 < ((bs.length : Nat) : Int)))], ⟨rfl, trivial⟩, ⟨by first | rfl | exact bD (by omega) | exact bT (by omega) | exact bF (by omega) | exact vI (by omega), hs.upd⟩⟩
theorem laws_likeInts_c (az : Option Addr) (nz : Nat) (cz : Nat) (z : List Int) (ay : Option Addr) (ny : Nat) (cy : Nat) (y : List Int) (w : World) (rz : RdI az nz z w) (ry : RdI ay ny y w) (heq : z = y) :
  Calls Try.prog 23 #[.slice az nz cz, .slice ay ny cy] w (Ret fun v w' => v = .bool true ∧ Ext w w') := by
 have kz : Kn w none_ [] (RdI az nz z) := fun w' hs => rz.ext hs.upd
 have lz : z.length = nz := rz.1
 have mz : nz ≤ 9223372036854775807 := rz.2.1
 have ky : Kn w none_ [] (RdI ay ny y) := fun w' hs => ry.ext hs.upd
 have ly : y.length = ny := ry.1
 have my : ny ≤ 9223372036854775807 := ry.2.1
 refine fn (M := none_) (rs := [.tmp 4]) Try.func23 rfl Try.ntmps23 rfl rfl (Sep.start _ _) ?_
 refine hSeq ?_
 refine hReg (sq 0 sz) (by kernel_rfl) ?_
 refine asB rfl rfl rfl ?_
 refine rNil ?_
 refine qSeq rfl ?_
 refine hSeq ?_
 refine hSeq ?_
 refine hReg (sq 0 (sq 1 (sq 2 (sq 3 (sq 4 sz))))) (by kernel_rfl) ?_
 refine mvS rfl rfl rfl ?_
 refine lenS Try.runUnderlying23 rfl rfl rfl ?_
 refine mvS rfl rfl rfl ?_
 refine lenS Try.runUnderlying23 rfl rfl rfl ?_
 refine neq rfl rfl rfl rfl ?_
 refine rNil ?_
 refine qSeq rfl ?_
 refine hIfD rfl (fun c1 => ?_) (fun c1 => ?_)
 ·
  replace c1 : (nz : Int) ≠ (ny : Int) := c1
  exact absurd c1 (by rw [heq] at lz; omega)
 ·
  replace c1 : ¬ ((nz : Int) ≠ (ny : Int)) := c1
  refine hSkip ?_
  refine qSeq rfl ?_
  refine hSeq ?_
  refine hSeq ?_
  refine hReg (sq 0 sz) (by kernel_rfl) ?_
  refine asI rfl rfl rfl ?_
  refine rNil ?_
  refine qSeq rfl ?_
  refine hBlk ?_
  refine hLoop (α := Nat) (fun i => i ≤ nz) (fun i => nz - i) (fun i => []) (fun i => [(0, .slice az nz cz), (1, .slice ay ny cy), (5, .int .i64 (i : Int))]) 0 (Nat.zero_le _) (fun _ h => h.pick []) ⟨rfl, rfl, rfl, trivial⟩ ?_
  rintro i τ1 hi
  refine hSeq ?_
  refine hSeq ?_
  refine hReg (sq 0 (sq 1 (sq 2 (sq 3 sz)))) (by kernel_rfl) ?_
  refine mvI rfl rfl rfl ?_
  refine mvS rfl rfl rfl ?_
  refine lenS Try.runUnderlying23 rfl rfl rfl ?_
  refine lss rfl rfl rfl rfl ?_
  refine rNil ?_
  refine qSeq rfl ?_
  refine hIfD rfl (fun c2 => ?_) (fun c2 => ?_)
  ·
   replace c2 : (i : Int) < (nz : Int) := c2
   refine hSkip ?_
   refine qSeq rfl ?_
   refine hSeq ?_
   refine hBlk ?_
   refine hSeq ?_
   refine hDraw (Ls := []) (by kernel_rfl) (sq 0 (sq 1 (sq 2 (sq 3 (sq 4 (sq 5 (sq 6 (sq 7 (sq 8 sz))))))))) (by kernel_rfl) .slnil ?_
   refine mvS rfl rfl rfl ?_
   refine mvI rfl rfl rfl ?_
   refine ixIq (zn := i) el23 (kz) (fun _ h => h.pick []) rfl rfl rfl rfl (by omega) (by omega) rfl ?_
   intro ae1 e1
   refine ldq Try.isAgg2 (e1) rfl rfl rfl ?_
   refine mvS rfl rfl rfl ?_
   refine mvI rfl rfl rfl ?_
   refine ixIq (zn := i) el23 (ky) (fun _ h => h.pick []) rfl rfl rfl rfl (by omega) (by omega) rfl ?_
   intro ae2 e2
   refine ldq Try.isAgg2 (e2) rfl rfl rfl ?_
   refine neq rfl rfl rfl rfl ?_
   refine rNil ?_
   refine qSeq rfl ?_
   refine hIfD rfl (fun c3 => ?_) (fun c3 => ?_)
   ·
    replace c3 : (z.getD i 0) ≠ (y.getD i 0) := c3
    exact absurd (by rw [heq]) c3
   ·
    replace c3 : ¬ ((z.getD i 0) ≠ (y.getD i 0)) := c3
    refine hSkip ?_
    refine qSeq rfl ?_
    refine hReg (sq 0 (sq 1 (sq 2 sz))) (by kernel_rfl) ?_
    refine mvI rfl rfl rfl ?_
    refine add rfl rfl rfl rfl (by omega) ?_
    refine asI rfl rfl rfl ?_
    refine rNil ?_
    exact qNext rfl (i + 1) (by omega) (by omega) ⟨rfl, rfl, rfl, trivial⟩ (fun _ h => h.pick [])
  ·
   replace c2 : ¬ ((i : Int) < (nz : Int)) := c2
   refine hExit rfl ?_
   refine qSeq rfl ?_
   refine hSeq ?_
   refine hReg (sq 0 sz) (by kernel_rfl) ?_
   refine asB rfl rfl rfl ?_
   refine rNil ?_
   refine qSeq rfl ?_
   refine hRet ?_
   exact fun w hs => ⟨[.bool true], ⟨rfl, trivial⟩, ⟨by first | rfl | exact bD (by omega) | exact bT (by omega) | exact bF (by omega) | exact vI (by omega), hs.upd⟩⟩
theorem laws_hasInt_c (az : Option Addr) (nz : Nat) (cz : Nat) (z : List Int) (x0 : Int) (w : World) (rz : RdI az nz z w) :
  Calls Try.prog 29 #[.slice az nz cz, .int .i64 x0] w (Ret fun v w' => v = .bool (z.contains x0) ∧ Ext w w') := by
 have kz : Kn w none_ [] (RdI az nz z) := fun w' hs => rz.ext hs.upd
 have lz : z.length = nz := rz.1
 have mz : nz ≤ 9223372036854775807 := rz.2.1
 refine fn (M := none_) (rs := [.tmp 4]) Try.func29 rfl Try.ntmps29 rfl rfl (Sep.start _ _) ?_
 refine hSeq ?_
 refine hReg (sq 0 sz) (by kernel_rfl) ?_
 refine asB rfl rfl rfl ?_
 refine rNil ?_
 refine qSeq rfl ?_
 refine hSeq ?_
 refine hSeq ?_
 refine hReg (sq 0 sz) (by kernel_rfl) ?_
 refine asI rfl rfl rfl ?_
 refine rNil ?_
 refine qSeq rfl ?_
 refine hBlk ?_
 refine hLoop (α := Nat) (fun i => i ≤ nz ∧ x0 ∉ z.take i) (fun i => nz - i) (fun i => []) (fun i => [(0, .slice az nz cz), (1, .int .i64 x0), (5, .int .i64 (i : Int))]) 0 ⟨Nat.zero_le _, by simp⟩ (fun _ h => h.pick []) ⟨rfl, rfl, rfl, trivial⟩ ?_
 rintro i τ1 ⟨hi, hal⟩
 refine hSeq ?_
 refine hSeq ?_
 refine hReg (sq 0 (sq 1 (sq 2 (sq 3 sz)))) (by kernel_rfl) ?_
 refine mvI rfl rfl rfl ?_
 refine mvS rfl rfl rfl ?_
 refine lenS Try.runUnderlying23 rfl rfl rfl ?_
 refine lss rfl rfl rfl rfl ?_
 refine rNil ?_
 refine qSeq rfl ?_
 refine hIfD rfl (fun c1 => ?_) (fun c1 => ?_)
 ·
  replace c1 : (i : Int) < (nz : Int) := c1
  refine hSkip ?_
  refine qSeq rfl ?_
  refine hSeq ?_
  refine hBlk ?_
  refine hSeq ?_
  refine hReg (sq 0 (sq 1 (sq 2 (sl 3 (sq 4 (sq 5 sz)))))) (by kernel_rfl) ?_
  refine mvS rfl rfl rfl ?_
  refine mvI rfl rfl rfl ?_
  refine ixIl (zn := i) el23 (kz) rfl rfl rfl rfl (by omega) (by omega) rfl ?_
  intro ae1 e1
  refine ldl Try.isAgg2 (e1) trv rfl rfl rfl ?_
  refine mvI rfl rfl rfl ?_
  refine eql rfl rfl rfl rfl ?_
  refine rNil ?_
  refine qSeq rfl ?_
  refine hIfD rfl (fun c2 => ?_) (fun c2 => ?_)
  ·
   replace c2 : (z.getD i 0) = x0 := c2
   refine hSeq ?_
   refine hReg (sq 0 sz) (by kernel_rfl) ?_
   refine asB rfl rfl rfl ?_
   refine rNil ?_
   refine qSeq rfl ?_
   refine hRet ?_
   exact fun w hs => ⟨[.bool true], ⟨rfl, trivial⟩, ⟨bB (Iso.has_yes (i := i) (by omega) (by assumption)).symm, hs.upd⟩⟩
  ·
   replace c2 : ¬ ((z.getD i 0) = x0) := c2
   refine hSkip ?_
   refine qSeq rfl ?_
   refine hReg (sq 0 (sq 1 (sq 2 sz))) (by kernel_rfl) ?_
   refine mvI rfl rfl rfl ?_
   refine add rfl rfl rfl rfl (by omega) ?_
   refine asI rfl rfl rfl ?_
   refine rNil ?_
   exact qNext rfl (i + 1) (by omega) ⟨by omega, Iso.not_snoc (by omega) hal (by assumption)⟩ ⟨rfl, rfl, rfl, trivial⟩ (fun _ h => h.pick [])
 ·
  replace c1 : ¬ ((i : Int) < (nz : Int)) := c1
  refine hExit rfl ?_
  refine qSeq rfl ?_
  refine hSeq ?_
  refine hReg (sq 0 sz) (by kernel_rfl) ?_
  refine asB rfl rfl rfl ?_
  refine rNil ?_
  refine qSeq rfl ?_
  refine hRet ?_
  exact fun w hs => ⟨[.bool false], ⟨rfl, trivial⟩, ⟨bB (Iso.has_no (i := i) (by omega) hal).symm, hs.upd⟩⟩
theorem laws_sum_c (az : Option Addr) (nz : Nat) (cz : Nat) (z : List Int) (w : World) (rz : RdI az nz z w) (hb : ∀ x ∈ z, 0 ≤ x ∧ x ≤ 1000000000) (hl : z.length ≤ 1000000) :
  Calls Try.prog 55 #[.slice az nz cz] w (Ret fun v w' => v = .int .i64 z.sum ∧ Ext w w') := by
 have kz : Kn w none_ [] (RdI az nz z) := fun w' hs => rz.ext hs.upd
 have lz : z.length = nz := rz.1
 have mz : nz ≤ 9223372036854775807 := rz.2.1
 refine fn (M := none_) (rs := [.tmp 2]) Try.func55 rfl Try.ntmps55 rfl rfl (Sep.start _ _) ?_
 refine hSeq ?_
 refine hReg (sq 0 sz) (by kernel_rfl) ?_
 refine asI rfl rfl rfl ?_
 refine rNil ?_
 refine qSeq rfl ?_
 refine hSeq ?_
 refine hReg (sq 0 sz) (by kernel_rfl) ?_
 refine asI rfl rfl rfl ?_
 refine rNil ?_
 refine qSeq rfl ?_
 refine hSeq ?_
 refine hSeq ?_
 refine hReg (sq 0 sz) (by kernel_rfl) ?_
 refine asI rfl rfl rfl ?_
 refine rNil ?_
 refine qSeq rfl ?_
 refine hBlk ?_
 refine hLoop (α := Nat × Int) (fun x => x.1 ≤ nz ∧ x.2 = (z.take x.1).sum) (fun x => nz - x.1) (fun x => []) (fun x => [(0, .slice az nz cz), (3, .int .i64 x.2), (4, .int .i64 (x.1 : Int))]) (0, 0) ⟨Nat.zero_le _, rfl⟩ (fun _ h => h.pick []) ⟨rfl, rfl, rfl, trivial⟩ ?_
 rintro ⟨i, a⟩ τ1 ⟨hi, ha⟩
 dsimp only at hi ha
 refine hRe [(0, .slice az nz cz), (3, .int .i64 a), (4, .int .i64 (i : Int))] [] rfl rfl ?_
 refine hSeq ?_
 refine hSeq ?_
 refine hReg (sq 0 (sq 1 (sq 2 (sq 3 sz)))) (by kernel_rfl) ?_
 refine mvI rfl rfl rfl ?_
 refine mvS rfl rfl rfl ?_
 refine lenS Try.runUnderlying23 rfl rfl rfl ?_
 refine lss rfl rfl rfl rfl ?_
 refine rNil ?_
 refine qSeq rfl ?_
 refine hIfD rfl (fun c1 => ?_) (fun c1 => ?_)
 ·
  replace c1 : (i : Int) < (nz : Int) := c1
  have hs1 := Math.sum_bd hb i (by omega)
  have hs2 := hb _ (Math.getD_mem 0 (show i < z.length by omega))
  refine hSkip ?_
  refine qSeq rfl ?_
  refine hSeq ?_
  refine hBlk ?_
  refine hReg (sq 0 (sq 1 (sq 2 (sq 3 (sl 4 (sq 5 (sq 6 sz))))))) (by kernel_rfl) ?_
  refine mvI rfl rfl rfl ?_
  refine mvS rfl rfl rfl ?_
  refine mvI rfl rfl rfl ?_
  refine ixIl (zn := i) el23 (kz) rfl rfl rfl rfl (by omega) (by omega) rfl ?_
  intro ae1 e1
  refine ldl Try.isAgg2 (e1) trv rfl rfl rfl ?_
  refine add rfl rfl rfl rfl (by omega) ?_
  refine asI rfl rfl rfl ?_
  refine rNil ?_
  refine qSeq rfl ?_
  refine hReg (sq 0 (sq 1 (sq 2 sz))) (by kernel_rfl) ?_
  refine mvI rfl rfl rfl ?_
  refine add rfl rfl rfl rfl (by omega) ?_
  refine asI rfl rfl rfl ?_
  refine rNil ?_
  exact qNext rfl (i + 1, a + z.getD i 0) (by dsimp only; omega) ⟨by omega, by dsimp only; rw [ha, Math.sum_step (by omega)]⟩ ⟨rfl, rfl, rfl, trivial⟩ (fun _ h => h.pick [])
 ·
  replace c1 : ¬ ((i : Int) < (nz : Int)) := c1
  refine hExit rfl ?_
  refine qSeq rfl ?_
  refine hSeq ?_
  refine hReg (sq 0 (sq 1 sz)) (by kernel_rfl) ?_
  refine mvI rfl rfl rfl ?_
  refine asI rfl rfl rfl ?_
  refine rNil ?_
  refine qSeq rfl ?_
  refine hRet ?_
  exact fun w hs => ⟨[.int .i64 a], ⟨rfl, trivial⟩, ⟨vI (by rw [ha, List.take_of_length_le (by omega)]), hs.upd⟩⟩
end Go.Proofs.Yteaahdakammffaa
