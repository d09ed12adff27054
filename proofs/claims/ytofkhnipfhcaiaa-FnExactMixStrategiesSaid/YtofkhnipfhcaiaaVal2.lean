/- Plain facts on strategies that are read, and on ways that are walked. No condition. -/
import Derived.Test.YtofkhnipfhcaiaaVal
import Derived.Test.YtofkhnipfhcaiaaEngC
namespace Go.Proofs.Ytofkhnipfhcaiaa.Math
open Go Go.Proofs.Ytofkhnipfhcaiaa.V
set_option linter.unusedVariables false
set_option linter.unusedSimpArgs false
theorem two {w0 : World} {M : Nat → Prop} {L : List (World → Prop)} {φ ψ χ : World → Prop} (h : Kn w0 M L φ) (h' : Kn w0 M L ψ) (hi : ∀ w, φ w → ψ w → χ w) : Kn w0 M L χ := fun w hs => hi w (h w hs) (h' w hs)
theorem firstTo_0 {z : List Nd} {k n : Nat} {p : Int} (h : z.length = n) : firstTo z k p 0 = List.replicate n 0 := by subst h; rfl
theorem firstTo_s (z : List Nd) (k : Nat) (p : Int) (i : Nat) : (firstTo z k p i).set ((nodesOf z p).getD i 0).toNat ((i : Int) * (k : Int)) = firstTo z k p (i + 1) := rfl
theorem firstTo_e {z : List Nd} {k i : Nat} {p : Int} (h : (nodesOf z p).length = i) : firstTo z k p i = firstOf z k p := by subst h; rfl
theorem parTo_0 {z : List Nd} {n : Nat} (h : z.length = n) : parTo z 0 = List.replicate n 0 := by subst h; rfl
theorem putAll_nil (P : List Int) (v : Int) : putAll P v [] = P := rfl
theorem parTo_s {z : List Nd} {i j : Nat} (h : (z.getD i dN).ch.length ≤ j) : putAll (parTo z i) (i : Int) ((z.getD i dN).ch.take j) = parTo z (i + 1) := by rw [List.take_of_length_le h]; rfl
theorem parTo_e {z : List Nd} {i : Nat} (h : z.length = i) : parTo z i = parOf z := by subst h; rfl
theorem firstOf_nat {z : List Nd} {k : Nat} {p v : Int} {f : List Int} (hf : f = firstOf z k p) (hv : 0 ≤ v ∧ v < z.length) (h : (z.getD v.toNat dN).pl = p) : f.getD v.toNat 0 = ((rank z p v.toNat * k : Nat) : Int) := by
  subst hf; rw [firstOf_at (by omega) h, Int.natCast_mul]
def chA (z : List Nd) (k : Nat) (Hp Hq : Nat → Hd) (v a b : Int) : Hd := if (z.getD v.toNat dN).pl = 0 then Hp (rank z 0 v.toNat * k + a.toNat) else Hq (rank z 1 v.toNat * k + b.toNat)
section
variable {z : List Nd} {ws vs ps qs : List (List Int)} {k : Nat} {Hp Hq : Nat → Hd} {v a b : Int}
theorem chA_0 (h : (z.getD v.toNat dN).pl = 0) : chA z k Hp Hq v a b = Hp (rank z 0 v.toNat * k + a.toNat) := if_pos h
theorem chA_1 (h : (z.getD v.toNat dN).pl = 1) : chA z k Hp Hq v a b = Hq (rank z 1 v.toNat * k + b.toNat) := if_neg (by rw [h]; decide)
theorem choice_0 (h : (z.getD v.toNat dN).pl = 0) : choice z k ps qs v a b = ps.getD (rank z 0 v.toNat * k + a.toNat) [] := if_pos h
theorem choice_1 (h : (z.getD v.toNat dN).pl = 1) : choice z k ps qs v a b = qs.getD (rank z 1 v.toNat * k + b.toNat) [] := if_neg (by rw [h]; decide)
theorem choice_ix (h : Pair z ws vs ps qs) (hk : ws.length = k) (hv : 0 ≤ v ∧ v < z.length) (hpl : (z.getD v.toNat dN).pl ≠ 2) (ha : 0 ≤ a ∧ a < k) (hb : 0 ≤ b ∧ b < k) :
    ((z.getD v.toNat dN).pl = 0 → rank z 0 v.toNat * k + a.toNat < ps.length) ∧ ((z.getD v.toNat dN).pl = 1 → rank z 1 v.toNat * k + b.toNat < qs.length) := by
  subst hk
  exact ⟨fun h0 => (choice_at h.p (v := v.toNat) (a := a.toNat) (by omega) h0 (by omega)).1, fun h1 => (choice_at h.q (v := v.toNat) (a := b.toNat) (by omega) h1 (by omega)).1⟩
theorem choice_rd (h : Pair z ws vs ps qs) (hk : ws.length = k) (hv : 0 ≤ v ∧ v < z.length) (hpl : (z.getD v.toNat dN).pl ≠ 2) (ha : 0 ≤ a ∧ a < k) (hb : 0 ≤ b ∧ b < k) {ap aq : Option Addr} {np nq : Nat} {w : World} (h1 : RdR maK ap np Hp ps w) (h2 : RdR maK aq nq Hq qs w) :
    RdI (chA z k Hp Hq v a b).1 (choice z k ps qs v a b).length (choice z k ps qs v a b) w := by
  have hi := choice_ix h hk hv hpl ha hb
  have ho := ok_pl (allOk_iff.1 (isTree_ok (isGame_ok h.g).1).2.1 v.toNat (by omega))
  rcases (show (z.getD v.toNat dN).pl = 0 ∨ (z.getD v.toNat dN).pl = 1 by omega) with h0 | h0
  · rw [chA_0 h0, choice_0 h0]; exact h1.kidM (nth [] (hi.1 h0))
  · rw [chA_1 h0, choice_1 h0]; exact h2.kidM (nth [] (hi.2 h0))
theorem pair_len (h : Pair z ws vs ps qs) (hk : ws.length = k) : ps.length ≤ 360 ∧ qs.length ≤ 360 := by
  have h1 := (isGame_ok h.g).2.1
  have h2 := (isTree_ok (isGame_ok h.g).1).1
  have h3 := parts_len h.p
  have h4 := parts_len h.q
  have h5 := sets_len (z := z) (p := 0) (show ws.length ≤ 6 by omega)
  have h6 := sets_len (z := z) (p := 1) (show ws.length ≤ 6 by omega)
  omega
/-- The steps of a walk down. -/
theorem drop_cons {l : List Int} {q : Nat} (h : q < l.length) : l.drop q = l.getD q 0 :: l.drop (q + 1) := by
  rw [List.drop_eq_getElem_cons h]; simp [List.getD, List.getElem?_eq_getElem h]
theorem leads_step {l : List Int} {q : Nat} {n : Int} (h : q < l.length) (hl : Leads z (l.drop q) v n) : ((0 ≤ v ∧ v < z.length) ∧ (0 ≤ l.getD q 0 ∧ l.getD q 0 < (z.getD v.toNat dN).ch.length)) ∧ Leads z (l.drop (q + 1)) ((z.getD v.toNat dN).ch.getD (l.getD q 0).toNat 0) n := by
  rw [drop_cons h] at hl; exact hl
theorem reW_step {l : List Int} {q : Nat} {p : Int} (h : q < l.length) : reW z k ps qs a b (l.drop q) v p = reW z k ps qs a b (l.drop (q + 1)) ((z.getD v.toNat dN).ch.getD (l.getD q 0).toNat 0) (p * (choice z k ps qs v a b).getD (l.getD q 0).toNat 0) := by
  rw [drop_cons h]; rfl
theorem reW_end {l : List Int} {q : Nat} {p : Int} (h : l.length ≤ q) : reW z k ps qs a b (l.drop q) v p = p := by rw [List.drop_of_length_le h]; rfl
theorem p60_le {i j : Nat} (h : i ≤ j) : p60 i ≤ p60 j := by unfold p60; exact_mod_cast Nat.pow_le_pow_right (by decide) h
/-- One step down: what is multiplied. -/
theorem down_bd (h : Pair z ws vs ps qs) (hk : ws.length = k) (ha : 0 ≤ a ∧ a < k) (hb : 0 ≤ b ∧ b < k) {p w : Int} {q : Nat} (hv : 0 ≤ v ∧ v < z.length) (hw : 0 ≤ w ∧ w < (z.getD v.toNat dN).ch.length) (hp : 0 ≤ p ∧ p ≤ 9 * p60 q) (hq : q < 5) :
    (choice z k ps qs v a b).length = (z.getD v.toNat dN).ch.length ∧ (z.getD v.toNat dN).pl ≠ 2 ∧ (0 ≤ p * (choice z k ps qs v a b).getD w.toNat 0 ∧ p * (choice z k ps qs v a b).getD w.toNat 0 ≤ 9 * p60 (q + 1)) ∧ p * (choice z k ps qs v a b).getD w.toNat 0 ≤ 6998400000 ∧ (0 ≤ (z.getD v.toNat dN).ch.getD w.toNat 0 ∧ (z.getD v.toNat dN).ch.getD w.toNat 0 < z.length) := by
  have hk2 := kid_pl (isTree_ok (isGame_ok h.g).1).2.1 hv hw
  have hc := choice_ok h hk hv hk2.1 ha hb
  have hm := hc.2.1 _ (getD_mem 0 (show w.toNat < (choice z k ps qs v a b).length by rw [hc.1]; omega))
  have h1 := mul_bd hp.1 hp.2 hm.1 hm.2
  have h2 := p60_s q
  have h3 := p60_5 (k := q + 1) (by omega)
  have h4 : 9 * p60 q * 60 = 9 * p60 (q + 1) := by rw [h2, Int.mul_assoc]
  exact ⟨hc.1, hk2.1, by omega, by omega, by omega⟩
/-- One step up. -/
theorem step_up (h : Pair z ws vs ps qs) (hk : ws.length = k) (ha : 0 ≤ a ∧ a < k) (hb : 0 ≤ b ∧ b < k) {n u w0 p : Int} {l l0 : List Int} {pr : List Int} (hpr : pr = parOf z) (hn : 0 ≤ n ∧ n < z.length) (hu : u = pr.getD v.toNat 0) (hv : 1 ≤ v ∧ v < z.length) (hl : Leads z l v n) (hway : Way z v l0) (hl0 : l0 ++ l = wayOf z n) (hw0 : 0 ≤ w0 ∧ w0 ≤ 9) (hp : p = reW z k ps qs a b l v w0) :
    (0 ≤ u ∧ u < v) ∧ (z.getD u.toNat dN).pl ≠ 2 ∧ (0 ≤ indexOf (z.getD u.toNat dN).ch v ∧ indexOf (z.getD u.toNat dN).ch v < (choice z k ps qs u a b).length) ∧ (0 ≤ p * (choice z k ps qs u a b).getD (indexOf (z.getD u.toNat dN).ch v).toNat 0 ∧ p * (choice z k ps qs u a b).getD (indexOf (z.getD u.toNat dN).ch v).toNat 0 ≤ 6998400000) ∧ (l.length : Int) + 1 ≤ depth z 0 ∧
      Leads z (indexOf (z.getD u.toNat dN).ch v :: l) u n ∧ (∃ l1, Way z u l1 ∧ l1 ++ (indexOf (z.getD u.toNat dN).ch v :: l) = wayOf z n) ∧ p * (choice z k ps qs u a b).getD (indexOf (z.getD u.toNat dN).ch v).toNat 0 = reW z k ps qs a b (indexOf (z.getD u.toNat dN).ch v :: l) u w0 := by
  have hG := isGame_ok h.g
  have hT := isTree_ok hG.1
  subst hpr; subst hu; subst hp
  have hup := parOf_up hG.1 hv
  generalize (parOf z).getD v.toNat 0 = u at hup ⊢
  have hx := indexOf_at hup.2
  have hk2 := kid_pl hT.2.1 (show 0 ≤ u ∧ u < z.length by omega) hx.1
  have hc := choice_ok h hk (show 0 ≤ u ∧ u < z.length by omega) hk2.1 ha hb
  have hle : Leads z (indexOf (z.getD u.toNat dN).ch v :: l) u n := ⟨⟨⟨by omega, by omega⟩, hx.1⟩, by rw [hx.2]; exact hl⟩
  obtain ⟨l1, hl1⟩ := wayOf_ex hT.2.1 hT.2.2.1 u.toNat u rfl hup.1.1 (by omega)
  have hst := way_up hup.1.1 hup.1.2 (by omega) hx.1.1 hl1
  have h01 := Way.one hT.2.2.1 hway hv.2 _ hst
  have heq : l1 ++ (indexOf (z.getD u.toNat dN).ch v :: l) = wayOf z n := by rw [← hl0, h01, List.append_assoc]; rfl
  have hlen : (l.length : Int) + 1 ≤ depth z 0 := by
    have h1 := (way_leads hG.1 hn).2
    rw [← heq, List.length_append, List.length_cons] at h1; omega
  have hre : reW z k ps qs a b l v w0 * (choice z k ps qs u a b).getD (indexOf (z.getD u.toNat dN).ch v).toNat 0 = reW z k ps qs a b (indexOf (z.getD u.toNat dN).ch v :: l) u w0 := by
    rw [← reW_mul]
    show _ = reW z k ps qs a b l ((z.getD u.toNat dN).ch.getD (indexOf (z.getD u.toNat dN).ch v).toNat 0) (w0 * (choice z k ps qs u a b).getD (indexOf (z.getD u.toNat dN).ch v).toNat 0)
    rw [hx.2]
  have hbd := reW_bd h hk ha hb hle hw0.1
  rw [List.length_cons] at hbd
  have h5 := p60_5 (k := l.length + 1) (by omega)
  have h6 := Int.mul_le_mul_of_nonneg_right hw0.2 (show 0 ≤ p60 (l.length + 1) by omega)
  refine ⟨hup.1, hk2.1, ⟨hx.1.1, by rw [hc.1]; exact hx.1.2⟩, ?_, hlen, hle, ⟨l1, hl1, heq⟩, hre⟩
  rw [hre]; omega
theorem root_way (ht : isTree z = true) {n : Int} {l l0 : List Int} (h : Way z v l0) (hv : v = 0) (hl : l0 ++ l = wayOf z n) : l = wayOf z n := by
  subst hv
  have := Way.one (isTree_ok ht).2.2.1 h (by have := (isTree_ok ht).1; omega) _ Way.root
  subst this; exact hl
theorem reN_is {n p d : Int} {i j : Nat} (hp : p = reW z k ps qs (i : Int) (j : Int) (wayOf z n) 0 ((ws.getD i []).getD j 0)) (hd : d = depth z 0 - ((wayOf z n).length : Int)) : p * p60 d.toNat = reN z ws k ps qs n i j := by subst hp; subst hd; rfl
end
theorem pair_is (z : List Nd) (ws vs ps qs : List (List Int)) (pl ql : Int) : isPair z ws vs pl ps ql qs = (isStrat z ws vs pl ps && (isStrat z ws vs ql qs && (decide (pl = 0) && decide (ql = 1)))) := by
  unfold isPair isStrat
  by_cases h0 : pl = 0
  · by_cases h1 : ql = 1
    · subst h0; subst h1
      generalize isGame z ws vs = g; generalize partsB z (sets z ws.length 0) ps = p; generalize partsB z (sets z ws.length 1) qs = q
      revert g p q; decide
    · simp [h1]
  · simp [h0]
theorem pair_in {z : List Nd} {ws vs ps qs : List (List Int)} {pl ql : Int} {k : Nat} (hk : ws.length = k) : isPair z ws vs pl ps ql qs = (isGame z ws vs && (decide (pl = 0) && (decide (ql = 1) && (partsB z (sets z k pl) ps && partsB z (sets z k ql) qs)))) := by
  subst hk; unfold isPair
  by_cases h0 : pl = 0
  · by_cases h1 : ql = 1
    · subst h0; subst h1; rfl
    · simp [h1]
  · simp [h0]
/-- The answers. -/
noncomputable def reachAt (z : List Nd) (ws vs : List (List Int)) (pl : Int) (ps : List (List Int)) (ql : Int) (qs : List (List Int)) (n : Int) : Int × Int :=
  if isPair z ws vs pl ps ql qs = true then if 0 ≤ n ∧ n ≤ (z.length : Int) - 1 then (reTo z ws ws.length ps qs n ws.length, 0) else (0, 2) else (0, 1)
section
variable {z : List Nd} {ws vs ps qs : List (List Int)} {pl ql n : Int} {k m : Nat}
theorem reachAt_1 (h : isPair z ws vs pl ps ql qs = false) : reachAt z ws vs pl ps ql qs n = (0, 1) := if_neg (by rw [h]; decide)
theorem reachAt_2 (hm : z.length = m) (h : isPair z ws vs pl ps ql qs = true) (hn : ¬ (0 ≤ n ∧ n ≤ (m : Int) - 1)) : reachAt z ws vs pl ps ql qs n = (0, 2) := by subst hm; unfold reachAt; rw [if_pos h, if_neg hn]
theorem reachAt_0 (hm : z.length = m) (hk : ws.length = k) (h : isPair z ws vs pl ps ql qs = true) (hn : 0 ≤ n ∧ n ≤ (m : Int) - 1) : reachAt z ws vs pl ps ql qs n = (reTo z ws k ps qs n k, 0) := by subst hm; subst hk; unfold reachAt; rw [if_pos h, if_pos hn]
/-- Showdowns. -/
noncomputable def showTo (z : List Nd) (ws : List (List Int)) (k : Nat) (ps qs : List (List Int)) (i : Nat) : Int := (mapR (fun i => if (z.getD ((nodesOf z 2).getD i 0).toNat dN).fo < 0 then reTo z ws k ps qs ((nodesOf z 2).getD i 0) k else 0) i).sum
theorem showTo_y {i : Nat} (h : (z.getD ((nodesOf z 2).getD i 0).toNat dN).fo < 0) : showTo z ws k ps qs (i + 1) = showTo z ws k ps qs i + reTo z ws k ps qs ((nodesOf z 2).getD i 0) k := by
  unfold showTo; rw [mapR_suc, if_pos h]
theorem showTo_n {i : Nat} (h : ¬ (z.getD ((nodesOf z 2).getD i 0).toNat dN).fo < 0) : showTo z ws k ps qs (i + 1) = showTo z ws k ps qs i := by
  unfold showTo; rw [mapR_suc, if_neg h, Int.add_zero]
theorem showTo_bd (h : Pair z ws vs ps qs) (hk : ws.length = k) : ∀ i, i ≤ (nodesOf z 2).length → 0 ≤ showTo z ws k ps qs i ∧ showTo z ws k ps qs i ≤ 251942400000 * i
  | 0, _ => by show (0 : Int) ≤ (0 : Int) ∧ (0 : Int) ≤ _; omega
  | i + 1, hi => by
    have h1 := showTo_bd h hk i (by omega)
    have hm := nodesOf_mem (getD_mem 0 (show i < (nodesOf z 2).length by omega))
    have h2 := reTo_bd h hk (n := (nodesOf z 2).getD i 0) (by omega) k (Nat.le_refl _)
    have h3 := (isGame_ok h.g).2.1
    by_cases hf : (z.getD ((nodesOf z 2).getD i 0).toNat dN).fo < 0
    · rw [showTo_y hf]; omega
    · rw [showTo_n hf]; omega
noncomputable def showAt (z : List Nd) (ws vs : List (List Int)) (pl : Int) (ps : List (List Int)) (ql : Int) (qs : List (List Int)) : Int × Int :=
  if isPair z ws vs pl ps ql qs = true then (showTo z ws ws.length ps qs (nodesOf z 2).length, 0) else (0, 1)
theorem showAt_1 (h : isPair z ws vs pl ps ql qs = false) : showAt z ws vs pl ps ql qs = (0, 1) := if_neg (by rw [h]; decide)
theorem showAt_0 (hk : ws.length = k) (h : isPair z ws vs pl ps ql qs = true) {i : Nat} (hi : i = (nodesOf z 2).length) : showAt z ws vs pl ps ql qs = (showTo z ws k ps qs i, 0) := by subst hk; subst hi; exact if_pos h
end
end Go.Proofs.Ytofkhnipfhcaiaa.Math
