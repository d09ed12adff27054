/- Contracts of games that laws draw. Their conditions stand in each. -/
import Derived.Test.YtjengglpbdgmnaaDoorZ9Mx
import Derived.Test.YtjengglpbdgmnaaDoorZ1Mx
import Derived.Test.YtjengglpbdgmnaaDoorZ2Mx
import Derived.Test.YtjengglpbdgmnaaDoorZ3Mx
import Derived.Test.YtjengglpbdgmnaaDoorZ4Mx
import Derived.Test.YtjengglpbdgmnaaDoorZ7Mx
import Derived.Test.YtjengglpbdgmnaaDoorZ8Mx
import Derived.Test.YtjengglpbdgmnaaDoorZ5Mx
import Derived.Test.YtjengglpbdgmnaaDoorZ6Mx
import Derived.Test.YtjengglpbdgmnaaDoorRows
namespace Go.Proofs.YtjengglpbdgmnaaDoor
open Go Go.RowKit V
set_option linter.unusedVariables false
set_option linter.unusedSimpArgs false
set_option maxRecDepth 100000
theorem laws_likeLists_c (az : Option Addr) (nz : Nat) (cz : Nat) (Hz : Nat → Hd) (z : List (List Int)) (ay : Option Addr) (ny : Nat) (cy : Nat) (Hy : Nat → Hd) (y : List (List Int)) (w : World) (rz : RdR maK az nz Hz z w) (ry : RdR maK ay ny Hy y w) (heq : z = y) :
  Calls Tryd.prog 42 #[.slice az nz cz, .slice ay ny cy] w (Ret fun v w' => v = .bool true ∧ Ext w w') := by
 have kz : Kn w none_ [] (RdR maK az nz Hz z) := fun w' hs => rz.ext hs.upd
 have lz : z.length = nz := rz.1
 have mz : nz ≤ 9223372036854775807 := rz.2.1
 have ky : Kn w none_ [] (RdR maK ay ny Hy y) := fun w' hs => ry.ext hs.upd
 have ly : y.length = ny := ry.1
 have my : ny ≤ 9223372036854775807 := ry.2.1
 have ly2 : y.length = nz := by rw [← heq]; exact lz
 refine fn (M := none_) (rs := [.tmp 4]) Tryd.func42 rfl Tryd.ntmps42 rfl rfl (Sep.start _ _) ?_
 refine hSeq ?_
 refine hReg (sq 0 sz) (by kernel_rfl) ?_
 refine asB rfl rfl rfl ?_
 refine rNil ?_
 refine qSeq rfl ?_
 refine hSeq ?_
 refine hSeq ?_
 refine hReg (sq 0 (sq 1 (sq 2 (sq 3 (sq 4 sz))))) (by kernel_rfl) ?_
 refine mvS rfl rfl rfl ?_
 refine lenS Tryd.runUnderlying27 rfl rfl rfl ?_
 refine mvS rfl rfl rfl ?_
 refine lenS Tryd.runUnderlying27 rfl rfl rfl ?_
 refine neq rfl rfl rfl rfl ?_
 refine rNil ?_
 refine qSeq rfl ?_
 refine hIfD rfl (fun c1 => ?_) (fun c1 => ?_)
 ·
  replace c1 : (nz : Int) ≠ (ny : Int) := c1
  exact absurd c1 (by omega)
 ·
  replace c1 : ¬ ((nz : Int) ≠ (ny : Int)) := c1
  refine hSkip ?_
  refine qSeq rfl ?_
  refine hSeq ?_
  refine hSeq ?_
  refine hReg (sq 0 sz) (by kernel_rfl) ?_
  refine asI rfl rfl rfl ?_
  refine rNil ?_
  refine qSeq rfl ?_
  refine hBlk ?_
  refine hLoop (α := Nat) (fun i => i ≤ nz) (fun i => nz - i) (fun i => []) (fun i => [(0, .slice az nz cz), (1, .slice ay ny cy), (5, .int .i64 (i : Int))]) 0 (Nat.zero_le _) (fun _ h => h.pick []) ⟨rfl, rfl, rfl, trivial⟩ ?_
  rintro i τ1 hi
  refine hSeq ?_
  refine hSeq ?_
  refine hReg (sq 0 (sq 1 (sq 2 (sq 3 sz)))) (by kernel_rfl) ?_
  refine mvI rfl rfl rfl ?_
  refine mvS rfl rfl rfl ?_
  refine lenS Tryd.runUnderlying27 rfl rfl rfl ?_
  refine lss rfl rfl rfl rfl ?_
  refine rNil ?_
  refine qSeq rfl ?_
  refine hIfD rfl (fun c2 => ?_) (fun c2 => ?_)
  ·
   replace c2 : (i : Int) < (nz : Int) := c2
   refine hSkip ?_
   refine qSeq rfl ?_
   refine hSeq ?_
   refine hBlk ?_
   refine hSeq ?_
   refine hDraw (Ls := []) (by kernel_rfl) (sq 0 (sq 1 (sq 2 (sq 3 (sq 4 (sq 5 (sq 6 (sq 7 (sl 8 (sq 9 sz)))))))))) (by kernel_rfl) .slnil ?_
   refine mvS rfl rfl rfl ?_
   refine mvI rfl rfl rfl ?_
   refine ixRq (zn := i) (z.getD i []) el27 (kz) (fun _ h => h.pick []) rfl rfl rfl rfl (by omega) (by omega) rfl (nth [] (by omega)) ?_
   intro be1 oe1 e1
   refine ldq Tryd.isAgg50 (Kn.fld e1 0 rfl) rfl rfl rfl ?_
   refine mvS rfl rfl rfl ?_
   refine mvI rfl rfl rfl ?_
   refine ixRq (zn := i) (y.getD i []) el27 (ky) (fun _ h => h.pick []) rfl rfl rfl rfl (by omega) (by omega) rfl (nth [] (by omega)) ?_
   intro be2 oe2 e2
   refine ldq Tryd.isAgg50 (Kn.fld e2 0 rfl) rfl rfl rfl ?_
   refine callP (v := .bool true) Tryd.call51 (fun _ h => h.pick []) rfl rfl (fun w hs => laws_likeInts_c _ _ _ _ _ _ _ _ w ((Kn.imp kz fun _ h => h.kidM (nth [] (by omega))) w hs) ((Kn.imp ky fun _ h => h.kidM (nth [] (by omega))) w hs) (by first | rfl | assumption | (rw [heq]) | (simp only [*]))) ?_
   refine not rfl rfl rfl ?_
   refine rNil ?_
   refine qSeq rfl ?_
   refine hIfF rfl ?_
   refine hSkip ?_
   refine qSeq rfl ?_
   refine hReg (sq 0 (sq 1 (sq 2 sz))) (by kernel_rfl) ?_
   refine mvI rfl rfl rfl ?_
   refine add rfl rfl rfl rfl (by omega) ?_
   refine asI rfl rfl rfl ?_
   refine rNil ?_
   exact qNext rfl (i + 1) (by omega) (by omega) ⟨rfl, rfl, rfl, trivial⟩ (fun _ h => h.pick [])
  ·
   replace c2 : ¬ ((i : Int) < (nz : Int)) := c2
   refine hExit rfl ?_
   refine qSeq rfl ?_
   refine hSeq ?_
   refine hReg (sq 0 sz) (by kernel_rfl) ?_
   refine asB rfl rfl rfl ?_
   refine rNil ?_
   refine qSeq rfl ?_
   refine hRet ?_
   exact fun w hs => ⟨[.bool true], ⟨rfl, trivial⟩, ⟨by first | rfl | exact bD (by omega) | exact bT (by omega) | exact bF (by omega) | exact vI (by omega), hs.upd⟩⟩
theorem laws_likeStrategies_c (pl : Int) (aps : Option Addr) (nps : Nat) (cps : Nat) (Hps : Nat → Hd) (ps : List (List Int)) (ql : Int) (aqs : Option Addr) (nqs : Nat) (cqs : Nat) (Hqs : Nat → Hd) (qs : List (List Int)) (w : World) (rps : RdR maK aps nps Hps ps w) (rqs : RdR maK aqs nqs Hqs qs w) (heq : pl = ql ∧ ps = qs) :
  Calls Tryd.prog 12 #[.agg #[.int .i64 pl, .slice aps nps cps], .agg #[.int .i64 ql, .slice aqs nqs cqs]] w (Ret fun v w' => v = .bool true ∧ Ext w w') := by
 have kps : Kn w none_ [] (RdR maK aps nps Hps ps) := fun w' hs => rps.ext hs.upd
 have lps : ps.length = nps := rps.1
 have mps : nps ≤ 9223372036854775807 := rps.2.1
 have kqs : Kn w none_ [] (RdR maK aqs nqs Hqs qs) := fun w' hs => rqs.ext hs.upd
 have lqs : qs.length = nqs := rqs.1
 have mqs : nqs ≤ 9223372036854775807 := rqs.2.1
 refine fn (M := none_) (rs := [.tmp 4]) Tryd.func12 rfl Tryd.ntmps12 rfl rfl (Sep.start _ _) ?_
 refine hSeq ?_
 refine hReg (sl 0 (sl 1 (sq 2 sz))) (by kernel_rfl) ?_
 refine box trv1 rfl rfl rfl rfl (fun bkb1 hbkb1 => ?_)
 refine box trv1 rfl rfl rfl rfl (fun bkb2 hbkb2 => ?_)
 refine asB rfl rfl rfl ?_
 refine rNil ?_
 refine qSeq rfl ?_
 refine hSeq ?_
 refine hReg (sq 0 (sl 1 (sq 2 (sl 3 (sq 4 (sq 5 (sq 6 (sl 7 (sq 8 (sl 9 (sl 10 (sq 11 (sq 12 sz))))))))))))) (by kernel_rfl) ?_
 refine fld fl31_0 rfl rfl rfl ?_
 refine ldl Tryd.isAgg2 (cB 1 rfl rfl) trv rfl rfl rfl ?_
 refine fld fl31_0 rfl rfl rfl ?_
 refine ldl Tryd.isAgg2 (cB 0 rfl rfl) trv rfl rfl rfl ?_
 refine eql rfl rfl rfl rfl ?_
 refine mvB rfl rfl rfl ?_
 refine rBoolD (d := 10) rfl (fun g1 => ?_) (fun g1 => ?_)
 ·
  replace g1 : pl = ql := g1
  refine fld fl31_1 rfl rfl rfl ?_
  refine ldl Tryd.isAgg27 (cB 1 rfl rfl) trv rfl rfl rfl ?_
  refine fld fl31_1 rfl rfl rfl ?_
  refine ldl Tryd.isAgg27 (cB 0 rfl rfl) trv rfl rfl rfl ?_
  refine callP (v := .bool true) Tryd.call42 trv rfl rfl (fun w hs => laws_likeLists_c _ _ _ _ _ _ _ _ _ _ w (Kn.drop (k := 2) kps w hs) (Kn.drop (k := 2) kqs w hs) heq.2) ?_
  refine pickB rfl rfl rfl rfl ?_
  refine asB rfl rfl rfl ?_
  refine rNil ?_
  refine qSeq rfl ?_
  refine hRet ?_
  exact fun w hs => ⟨[.bool true], ⟨rfl, trivial⟩, ⟨by first | rfl | exact bD (by omega) | exact bT (by omega) | exact bF (by omega) | exact vI (by omega), hs.upd⟩⟩
 ·
  replace g1 : ¬ (pl = ql) := g1
  exact absurd heq.1 g1
end Go.Proofs.YtjengglpbdgmnaaDoor
/- A value that is spelt out. No condition. -/
namespace Go.Proofs.YtjengglpbdgmnaaDoor.V
open Go Go.RowKit
set_option linter.unusedVariables false
section
variable {P : Program} {n : Nat} {w0 : World} {M : Nat → Prop} {L : List (World → Prop)} {σ : Fr} {K : Ko} {ops : Array Oper} {S : World → Prop} {r : Sch} {d : Nat} {v v' : Value}
theorem rVal (he : v' = v) (h : RG P n w0 M ops S L r (upd σ d v') K) : RG P n w0 M ops S L r (upd σ d v) K := by subst he; exact h
end
end Go.Proofs.YtjengglpbdgmnaaDoor.V
/- Plain facts on parts of weights. No condition. -/
namespace Go.Proofs.YtjengglpbdgmnaaDoor.Math
open Go.Proofs.YtjengglpbdgmnaaDoor.V
set_option linter.unusedVariables false
set_option linter.unusedSimpArgs false
/-- Where a number stands first, or -1. -/
noncomputable def indexOf (z : List Int) (v : Int) : Int :=
  open Classical in if h : ∃ i : Nat, i < z.length ∧ z.getD i 0 = v ∧ ∀ j, j < i → z.getD j 0 ≠ v then ((Classical.choose h : Nat) : Int) else -1
theorem indexOf_yes {z : List Int} {v : Int} {i : Nat} (hi : i < z.length) (hv : z.getD i 0 = v) (hf : ∀ j, j < i → z.getD j 0 ≠ v) : indexOf z v = i := by
  have h : ∃ i : Nat, i < z.length ∧ z.getD i 0 = v ∧ ∀ j, j < i → z.getD j 0 ≠ v := ⟨i, hi, hv, hf⟩
  unfold indexOf; rw [dif_pos h]
  have hc := Classical.choose_spec h
  have : Classical.choose h = i := by
    rcases Nat.lt_trichotomy (Classical.choose h) i with h' | h' | h'
    · exact absurd hc.2.1 (hf _ h')
    · exact h'
    · exact absurd hv (hc.2.2 _ h')
  rw [this]
theorem indexOf_no {z : List Int} {v : Int} (hf : ∀ j, j < z.length → z.getD j 0 ≠ v) : indexOf z v = -1 := by
  unfold indexOf; rw [dif_neg]; rintro ⟨i, hi, hv, _⟩; exact hf i hi hv
/-- Where the greatest number stands first. -/
def bestTo (r : List Int) : Nat → Nat
  | 0 => 0
  | k + 1 => if r.getD (bestTo r k) 0 < r.getD (k + 1) 0 then k + 1 else bestTo r k
def best (r : List Int) : Nat := bestTo r (r.length - 1)
theorem bestTo_le (r : List Int) : ∀ k, bestTo r k ≤ k
  | 0 => Nat.le_refl _
  | k + 1 => by have := bestTo_le r k; unfold bestTo; split <;> omega
theorem bestTo_max (r : List Int) : ∀ k j, j ≤ k → r.getD j 0 ≤ r.getD (bestTo r k) 0
  | 0, j, h => by rw [show j = 0 from by omega]; exact Int.le_refl _
  | k + 1, j, h => by
    unfold bestTo
    by_cases hj : j = k + 1
    · subst hj; split <;> omega
    · have := bestTo_max r k j (by omega); split <;> omega
theorem bestTo_first (r : List Int) : ∀ k j, j < bestTo r k → r.getD j 0 < r.getD (bestTo r k) 0
  | 0, j, h => by unfold bestTo at h; omega
  | k + 1, j, h => by
    unfold bestTo at h ⊢
    split
    · rename_i hc; rw [if_pos hc] at h
      have := bestTo_max r k j (by omega); omega
    · rename_i hc; rw [if_neg hc] at h
      exact bestTo_first r k j h
theorem best_lt {r : List Int} (h : 1 ≤ r.length) : best r < r.length := by have := bestTo_le r (r.length - 1); unfold best; omega
theorem index_best {r : List Int} (h : 1 ≤ r.length) : indexOf r (r.getD (best r) 0) = best r :=
  indexOf_yes (best_lt h) rfl fun j hj => by have := bestTo_first r _ j hj; unfold best; omega
/-- Parts. -/
def pws (z : List Int) : List Int := if z.sum = 0 then List.replicate z.length 1 else z
def pout (z : List Int) : List Int := (pws z).map fun w => 60 * w / (pws z).sum
def prest (z : List Int) : List Int := (pws z).map fun w => 60 * w % (pws z).sum
theorem pws_len (z : List Int) : (pws z).length = z.length := by unfold pws; split <;> simp
theorem pout_len (z : List Int) : (pout z).length = z.length := by unfold pout; rw [List.length_map, pws_len]
theorem prest_len (z : List Int) : (prest z).length = z.length := by unfold prest; rw [List.length_map, pws_len]
theorem map_at {f : Int → Int} {l : List Int} {i : Nat} (h : i < l.length) : (l.map f).getD i 0 = f (l.getD i 0) := by
  simp [List.getD, List.getElem?_eq_getElem h]
theorem rep_at {n i : Nat} {x : Int} (h : i < n) : (List.replicate n x).getD i 0 = x := by simp [List.getD, List.getElem?_replicate, h]
theorem rep_sum (n : Nat) : (List.replicate n (1 : Int)).sum = n := by
  induction n with
  | zero => rfl
  | succ n ih => rw [List.replicate_succ, List.sum_cons, ih]; omega
section
variable {z : List Int} {i : Nat}
theorem pws_0 (h : z.sum = 0) : pws z = List.replicate z.length 1 := if_pos h
theorem pws_1 (h : ¬ z.sum = 0) : pws z = z := if_neg h
theorem pout_at0 {n : Nat} (hn : z.length = n) (h : z.sum = 0) (hi : i < n) : (pout z).getD i 0 = 60 / (n : Int) := by
  subst hn; unfold pout; rw [map_at (by rw [pws_len]; exact hi), pws_0 h, rep_at hi, rep_sum]; rfl
theorem prest_at0 {n : Nat} (hn : z.length = n) (h : z.sum = 0) (hi : i < n) : (prest z).getD i 0 = 60 % (n : Int) := by
  subst hn; unfold prest; rw [map_at (by rw [pws_len]; exact hi), pws_0 h, rep_at hi, rep_sum]; rfl
theorem pout_at (h : ¬ z.sum = 0) (hi : i < z.length) : (pout z).getD i 0 = 60 * z.getD i 0 / z.sum := by
  unfold pout; rw [map_at (by rw [pws_len]; exact hi), pws_1 h]
theorem prest_at (h : ¬ z.sum = 0) (hi : i < z.length) : (prest z).getD i 0 = 60 * z.getD i 0 % z.sum := by
  unfold prest; rw [map_at (by rw [pws_len]; exact hi), pws_1 h]
theorem pout_add (h : ¬ z.sum = 0) (hi : i < z.length) : (pout z).take i ++ [60 * z.getD i 0 / z.sum] = (pout z).take (i + 1) := by
  rw [← pout_at h hi, take_step 0 (by rw [pout_len]; exact hi)]
theorem prest_add (h : ¬ z.sum = 0) (hi : i < z.length) : (prest z).take i ++ [60 * z.getD i 0 % z.sum] = (prest z).take (i + 1) := by
  rw [← prest_at h hi, take_step 0 (by rw [prest_len]; exact hi)]
end
theorem le_sum {l : List Int} (h : ∀ x ∈ l, 0 ≤ x) : 0 ≤ l.sum ∧ ∀ x ∈ l, x ≤ l.sum := by
  induction l with
  | nil => exact ⟨Int.le_refl _, fun x hx => by cases hx⟩
  | cons y l ih =>
    have hy := h y (List.mem_cons_self ..)
    have h1 := ih fun x hx => h x (List.mem_cons_of_mem _ hx)
    rw [List.sum_cons]
    refine ⟨by omega, fun x hx => ?_⟩
    rcases List.mem_cons.1 hx with rfl | hx
    · omega
    · have := h1.2 x hx; omega
theorem pws_pos {z : List Int} (hb : ∀ x ∈ z, 0 ≤ x ∧ x ≤ 1000000000) : ∀ x ∈ pws z, 0 ≤ x := by
  unfold pws; split
  · intro x hx; rw [List.eq_of_mem_replicate hx]; decide
  · exact fun x hx => (hb x hx).1
theorem pout_bd {z : List Int} (hb : ∀ x ∈ z, 0 ≤ x ∧ x ≤ 1000000000) : ∀ x ∈ pout z, 0 ≤ x ∧ x ≤ 60 := by
  intro x hx
  simp only [pout, List.mem_map] at hx
  obtain ⟨w, hw, rfl⟩ := hx
  have h1 := le_sum (pws_pos hb)
  have h2 := h1.2 w hw
  have h3 := pws_pos hb w hw
  refine ⟨Int.ediv_nonneg (by omega) h1.1, ?_⟩
  by_cases h0 : (pws z).sum = 0
  · rw [h0, Int.ediv_zero]; decide
  · exact Int.ediv_le_of_le_mul (by omega) (by omega)
def round (s : List Int × List Int) : List Int × List Int := (s.1.set (best s.2) (s.1.getD (best s.2) 0 + 1), s.2.set (best s.2) (-1))
def rounds : Nat → List Int × List Int → List Int × List Int
  | 0, s => s
  | n + 1, s => rounds n (round s)
noncomputable def partsOf (z : List Int) : List Int := (rounds (60 - (pout z).sum).toNat (pout z, prest z)).1
theorem pws_ones (z : List Int) (h : z.sum = 0) : pws (List.replicate z.length 1) = pws z := by
  rw [pws_0 h]; unfold pws; split <;> simp
theorem partsOf_ones {z : List Int} (h : z.sum = 0) : partsOf (List.replicate z.length 1) = partsOf z := by
  unfold partsOf pout prest; rw [pws_ones z h]
theorem rounds_step {m : Int} {o r : List Int} (h : 0 < m) : rounds m.toNat (o, r) = rounds (m - 1).toNat (o.set (best r) (o.getD (best r) 0 + 1), r.set (best r) (-1)) := by
  rw [show m.toNat = (m - 1).toNat + 1 from by omega]; rfl
theorem rounds_end {m : Int} {s : List Int × List Int} (h : ¬ 0 < m) : rounds m.toNat s = s := by
  rw [show m.toNat = 0 from by omega]; rfl
theorem rounds_len (n : Nat) : ∀ s : List Int × List Int, (rounds n s).1.length = s.1.length := by
  induction n with
  | zero => exact fun s => rfl
  | succ n ih => exact fun s => by unfold rounds; rw [ih]; simp [round]
theorem partsOf_len (z : List Int) : (partsOf z).length = z.length := by unfold partsOf; rw [rounds_len, pout_len]
/-- The round's bound. -/
theorem bd_set {o : List Int} {m B : Int} {i : Nat} {v : Int} (h : ∀ x ∈ o, 0 ≤ x ∧ x + m ≤ B) (hv : 0 ≤ v ∧ v + (m - 1) ≤ B) : ∀ x ∈ o.set i v, 0 ≤ x ∧ x + (m - 1) ≤ B := fun x hx => by
  rcases List.mem_or_eq_of_mem_set hx with h1 | rfl
  · have := h x h1; omega
  · exact hv
theorem pout_sum {z : List Int} (hb : ∀ x ∈ z, 0 ≤ x ∧ x ≤ 1000000000) : 0 ≤ (pout z).sum ∧ (pout z).sum ≤ 60 * z.length := by
  have h := sum_bd (pout_bd hb) (pout z).length (Nat.le_refl _)
  rw [List.take_of_length_le (Nat.le_refl _), pout_len] at h
  exact h
theorem pout_take {z : List Int} (hb : ∀ x ∈ z, 0 ≤ x ∧ x ≤ 1000000000) {i : Nat} (hi : i ≤ z.length) : 0 ≤ ((pout z).take i).sum ∧ ((pout z).take i).sum ≤ 60 * i := sum_bd (pout_bd hb) i (by rw [pout_len]; exact hi)
theorem fill_get {α : Type} (d z : α) {l : List α} {n i : Nat} (h : i < l.length) : (l.take (i + 1) ++ List.replicate (n - (i + 1)) z).getD i d = l.getD i d := by
  simp only [List.getD]; rw [List.getElem?_append_left (by simp; omega), List.getElem?_take, if_pos (by omega)]
theorem set_get {l : List Int} {i : Nat} {v : Int} (h : i < l.length) : (l.set i v).getD i 0 = v := by simp [List.getD, h]
noncomputable def partsAt (z : List Int) : List Int × Int := if (1 ≤ z.length ∧ z.length ≤ 4) ∧ z.all (inB 0 1000000000) = true then (partsOf z, 0) else ([], 2)
end Go.Proofs.YtjengglpbdgmnaaDoor.Math
/- Plain facts on strategies that are made. No condition. -/
namespace Go.Proofs.YtjengglpbdgmnaaDoor.Math
open Go.Proofs.YtjengglpbdgmnaaDoor.V
set_option linter.unusedVariables false
set_option linter.unusedSimpArgs false
noncomputable def unif (z : List Nd) (ss : List (List Int)) : List (List Int) := ss.map fun s => partsOf (List.replicate (wide z s) 0)
theorem wide_pos {z : List Nd} {ws vs : List (List Int)} {s : List Int} {p : Int} (hg : isGame z ws vs = true) (h : 0 ≤ s.getD 0 0 ∧ s.getD 0 0 < z.length) (hp : (z.getD (s.getD 0 0).toNat dN).pl = p) (h2 : p ≤ 1) : 1 ≤ wide z s := by
 have := (ok_pl (allOk_iff.1 (isTree_ok (isGame_ok hg).1).2.1 (s.getD 0 0).toNat (by omega))).2.2.2.2.2
 unfold wide; omega
noncomputable def unifAt (z : List Nd) (ws vs : List (List Int)) (p : Int) : (Int × List (List Int)) × Int :=
 if isGame z ws vs = true then if 0 ≤ p ∧ p ≤ 1 then ((p, unif z (sets z ws.length p)), 0) else ((0, []), 2) else ((0, []), 1)
end Go.Proofs.YtjengglpbdgmnaaDoor.Math
/- Plain facts: parts add up to 60; uniform strategies are strategies; how many sets there are. No condition. -/
namespace Go.Proofs.YtjengglpbdgmnaaDoor.Math
open Go.Proofs.YtjengglpbdgmnaaDoor.V
set_option linter.unusedVariables false
set_option linter.unusedSimpArgs false
theorem sum_put : ∀ {l : List Int} {i : Nat} {v : Int}, i < l.length → (l.set i v).sum = l.sum - l.getD i 0 + v
  | [], _, _, h => absurd h (Nat.not_lt_zero _)
  | x :: l, 0, v, _ => by
    show (v :: l).sum = (x :: l).sum - x + v
    rw [List.sum_cons, List.sum_cons]; omega
  | x :: l, i + 1, v, h => by
    show (x :: l.set i v).sum = (x :: l).sum - l.getD i 0 + v
    rw [List.sum_cons, List.sum_cons, sum_put (Nat.lt_of_succ_lt_succ h)]; omega
theorem rounds_sum : ∀ (n : Nat) (o r : List Int), r.length = o.length → 1 ≤ o.length → (rounds n (o, r)).1.sum = o.sum + n
  | 0, o, r, _, _ => by show o.sum = o.sum + ((0 : Nat) : Int); omega
  | n + 1, o, r, h, h1 => by
    have hb := best_lt (r := r) (by omega)
    show (rounds n (o.set (best r) (o.getD (best r) 0 + 1), r.set (best r) (-1))).1.sum = _
    rw [rounds_sum n _ _ (by rw [List.length_set, List.length_set, h]) (by rw [List.length_set]; exact h1), sum_put (by omega)]; omega
theorem rounds_pos : ∀ (n : Nat) (o r : List Int), (∀ x ∈ o, 0 ≤ x) → ∀ x ∈ (rounds n (o, r)).1, 0 ≤ x
  | 0, o, r, h => h
  | n + 1, o, r, h => by
    show ∀ x ∈ (rounds n (o.set (best r) (o.getD (best r) 0 + 1), r.set (best r) (-1))).1, 0 ≤ x
    refine rounds_pos n _ _ fun x hx => ?_
    rcases List.mem_or_eq_of_mem_set hx with hx | rfl
    · exact h x hx
    · by_cases hi : best r < o.length
      · have := h _ (getD_mem 0 hi); omega
      · have : o.getD (best r) 0 = 0 := by rw [List.getD_eq_getElem?_getD, List.getElem?_eq_none (by omega)]; rfl
        omega
theorem share_sum {S : Int} (hS : 1 ≤ S) : ∀ l : List Int, (l.map fun w => 60 * w / S).sum * S ≤ 60 * l.sum
  | [] => by simp
  | x :: l => by
    have ih := share_sum hS l
    have h1 : 60 * x / S * S ≤ 60 * x := Int.ediv_mul_le _ (by omega)
    rw [List.map_cons, List.sum_cons, List.sum_cons, Int.add_mul]; omega
theorem pws_sum {z : List Int} (hb : ∀ x ∈ z, 0 ≤ x ∧ x ≤ 1000000000) (h1 : 1 ≤ z.length) : 1 ≤ (pws z).sum := by
  have h2 := le_sum fun x hx => (hb x hx).1
  unfold pws; split
  · rw [rep_sum]; omega
  · omega
theorem pout_le {z : List Int} (hb : ∀ x ∈ z, 0 ≤ x ∧ x ≤ 1000000000) (h1 : 1 ≤ z.length) : (pout z).sum ≤ 60 := by
  have hS := pws_sum hb h1
  have h := share_sum hS (pws z)
  exact Int.le_of_mul_le_mul_right h (by omega)
theorem partsOf_sum {z : List Int} (hb : ∀ x ∈ z, 0 ≤ x ∧ x ≤ 1000000000) (h1 : 1 ≤ z.length) : (partsOf z).sum = 60 := by
  have h2 := pout_le hb h1
  unfold partsOf
  rw [rounds_sum _ _ _ (by rw [prest_len, pout_len]) (by rw [pout_len]; exact h1)]; omega
theorem partsOf_in {z : List Int} (hb : ∀ x ∈ z, 0 ≤ x ∧ x ≤ 1000000000) (h1 : 1 ≤ z.length) : ∀ x ∈ partsOf z, 0 ≤ x ∧ x ≤ 60 := by
  have h2 : ∀ x ∈ partsOf z, 0 ≤ x := rounds_pos _ _ _ fun x hx => (pout_bd hb x hx).1
  have h3 := partsOf_sum hb h1
  exact fun x hx => ⟨h2 x hx, by rw [← h3]; exact (le_sum h2).2 x hx⟩
theorem partB_parts {z : List Nd} {s w : List Int} (hb : ∀ x ∈ w, 0 ≤ x ∧ x ≤ 1000000000) (h1 : 1 ≤ w.length) (hw : w.length = wide z s) : partB z s (partsOf w) = true := by
  refine part_yes (by rw [partsOf_len, hw]) (List.all_eq_true.2 fun x hx => ?_) (partsOf_sum hb h1)
  exact decide_eq_true (partsOf_in hb h1 x hx)
end Go.Proofs.YtjengglpbdgmnaaDoor.Math
/- Plain facts on pure strategies. No condition. -/
namespace Go.Proofs.YtjengglpbdgmnaaDoor.Math
open Go.Proofs.YtjengglpbdgmnaaDoor.V
set_option linter.unusedVariables false
set_option linter.unusedSimpArgs false
/-- What is left of a number behind the last digits. -/
def quoL : List Int → Int → Int
 | [], n => n
 | s :: l, n => quoL l n / s
def digit (l : List Int) (n : Int) (i : Nat) : Int := quoL (l.drop (i + 1)) n % l.getD i 0
def digits (l : List Int) (n : Int) : List Int := mapR (digit l n) l.length
def line (s d : Int) : List Int := (List.replicate s.toNat 0).set d.toNat 60
def pureM (l : List Int) (n : Int) : List (List Int) := mapR (fun i => line (l.getD i 0) (digit l n i)) l.length
theorem sizes_bd {z : List Nd} {ws vs : List (List Int)} {p : Int} {k : Nat} (hg : isGame z ws vs = true) (hp : 0 ≤ p ∧ p ≤ 1) : ∀ x ∈ sizes z (sets z k p), 1 ≤ x ∧ x ≤ 4 := by
 intro x hx
 obtain ⟨i, hi, he⟩ := List.getElem_of_mem hx
 have hi2 : i < (sets z k p).length := by rw [sizes_len] at hi; exact hi
 have hd : (sizes z (sets z k p)).getD i 0 = x := by simp [List.getD, List.getElem?_eq_getElem hi, he]
 have h1 := sets_at hi2
 have h2 := wide_le hg h1.2.1
 have h3 := wide_pos hg h1.2.1 h1.2.2 hp.2
 rw [sizes_at hi2] at hd; omega
def pureAt (z : List Nd) (ws vs : List (List Int)) (p n : Int) : (Int × List (List Int)) × Int :=
 if (countOf z ws vs p).2 = 0 then if 0 ≤ n ∧ n ≤ (countOf z ws vs p).1 - 1 then ((p, pureM (sizes z (sets z ws.length p)) n), 0) else ((0, []), 2) else ((0, []), (countOf z ws vs p).2)
end Go.Proofs.YtjengglpbdgmnaaDoor.Math
/- Calls that turn what they are handed, and read what the others know; strategies that are drawn. No condition. -/
namespace Go.Proofs.YtjengglpbdgmnaaDoor.V
open Go Go.RowKit
set_option linter.unusedVariables false
set_option linter.unusedSimpArgs false
section
variable {P : Program} {n : Nat} {w0 : World} {M : Nat → Prop} {L L' Lf Lr : List (World → Prop)} {σ : Fr} {K K' : Ko} {c x y : Code} {ops : Array Oper} {S : World → Prop} {r : Sch} {i : Nat}
variable {d : Nat} {t : TypeId} {p : String} {af : Array Edge} {g : Option (Nat × Bool)} {a b : Operand}
theorem callMR {α : Type} {f : FuncId} {args : Array Operand} {tys : Array TypeId} {val : α → Value} {good : α → Prop} {φs : α → List (World → Prop)} (hL : L = Lf ++ Lr) (hf : ∀ args w, (callFunc f args).run P w = .ok (.enter f args) w) (hS : ∀ x w, Sep w0 M (φs x ++ Lr) w → S w) (ho : ops[i]? = some ⟨some d, .call ⟨.value (.func f), args, tys⟩, t, p, af, g⟩) (hg : go ops σ g)
    (hc : ∀ w M0, Sep w M0 Lf w → (∀ φ, Kn w0 M Lr φ → Kn w M0 [] φ) → Calls P f (args.toList.map (ev σ)).toArray w (Ret fun v' w' => ∃ x, v' = val x ∧ good x ∧ Sep w M0 (φs x) w')) (h : ∀ x, good x → RG P n w0 M ops S (φs x ++ Lr) r (upd σ d (val x)) K) : RG P n w0 M ops S L (.op .l i r) σ K := by
  subst hL
  exact rL (Lx := fun x => φs x ++ Lr) (v := val) hS ho hg (fun w hs => by
    obtain ⟨M0, h1, h2⟩ := hs.focus
    refine call_opw hf (hc w M0 h1 fun φ hk w' hs' => hk w' (h2 [] w' hs')) fun v' w' ⟨x, he, hx, hsep⟩ => by subst he; exact ⟨x, hx, h2 _ _ hsep, rfl⟩) h
theorem Kn.nil {w0 : World} {M : Nat → Prop} {L : List (World → Prop)} {φ : World → Prop} (h : Kn w0 M [] φ) : Kn w0 M L φ := fun w hs => h w (hs.sub (List.nil_sublist _))
end
end Go.Proofs.YtjengglpbdgmnaaDoor.V
namespace Go.Proofs.YtjengglpbdgmnaaDoor.Math
open Go.Proofs.YtjengglpbdgmnaaDoor.V
set_option linter.unusedVariables false
/-- Parts that are drawn. -/
def drawnP (y : List (List Int)) : Prop := ∀ r ∈ y, (1 ≤ r.length ∧ r.length ≤ 4) ∧ ∀ x ∈ r, 0 ≤ x ∧ x ≤ 60
def small (r : List Int) : Prop := ∀ x ∈ r, 0 ≤ x ∧ x ≤ 8
theorem small_nil : small [] := fun x hx => by cases hx
theorem small_app {r : List Int} {v : Int} (h : small r) (hv : 0 ≤ v ∧ v ≤ 8) : small (r ++ [v]) := fun x hx => by
  rcases List.mem_append.1 hx with hx | hx
  · exact h x hx
  · rw [List.mem_singleton.1 hx]; exact hv
theorem small_big {r : List Int} (h : small r) : ∀ x ∈ r, 0 ≤ x ∧ x ≤ 1000000000 := fun x hx => by have := h x hx; omega
theorem drawnP_nil : drawnP [] := fun r hr => by cases hr
theorem drawnP_app {y : List (List Int)} {r : List Int} (h : drawnP y) (hr : small r) (h1 : 1 ≤ r.length ∧ r.length ≤ 4) : drawnP (y ++ [partsOf r]) := fun s hs => by
  rcases List.mem_append.1 hs with hs | hs
  · exact h s hs
  · rw [List.mem_singleton.1 hs, partsOf_len]; exact ⟨h1, partsOf_in (small_big hr) h1.1⟩
theorem drawnP_at {y : List (List Int)} (h : drawnP y) {i : Nat} (hi : i < y.length) : (1 ≤ (y.getD i []).length ∧ (y.getD i []).length ≤ 4) ∧ (0 ≤ (y.getD i []).getD 0 0 ∧ (y.getD i []).getD 0 0 ≤ 60) := by
  have := h _ (getD_mem [] hi)
  exact ⟨this.1, this.2 _ (getD_mem 0 (by omega))⟩
end Go.Proofs.YtjengglpbdgmnaaDoor.Math
/- Contracts of parts of weights. Their conditions stand in each. -/
namespace Go.Proofs.YtjengglpbdgmnaaDoor
open Go Go.RowKit V
set_option linter.unusedVariables false
set_option linter.unusedSimpArgs false
set_option maxRecDepth 100000
theorem slices_Index_int64_int64_c (az : Option Addr) (nz : Nat) (cz : Nat) (z : List Int) (x0 : Int) (w : World) (rz : RdI az nz z w) :
  Calls Tryd.prog 60 #[.slice az nz cz, .int .i64 x0] w (Ret fun v w' => v = .int .i64 (Math.indexOf z x0) ∧ Ext w w') := by
 have kz : Kn w none_ [] (RdI az nz z) := fun w' hs => rz.ext hs.upd
 have lz : z.length = nz := rz.1
 have mz : nz ≤ 9223372036854775807 := rz.2.1
 refine fn (M := none_) (rs := [.tmp 4]) Tryd.func60 rfl Tryd.ntmps60 rfl rfl (Sep.start _ _) ?_
 refine hSeq ?_
 refine hReg (sq 0 sz) (by kernel_rfl) ?_
 refine asI rfl rfl rfl ?_
 refine rNil ?_
 refine qSeq rfl ?_
 refine hSeq ?_
 refine hSeq ?_
 refine hReg (sq 0 (sq 1 (sq 2 sz))) (by kernel_rfl) ?_
 refine mvS rfl rfl rfl ?_
 refine lenS Tryd.runUnderlying50 rfl rfl rfl ?_
 refine mvI rfl rfl rfl ?_
 refine rNil ?_
 refine qSeq rfl ?_
 refine hBlk ?_
 refine hLoop (α := Nat) (fun i => i ≤ nz ∧ ∀ j, j < i → z.getD j 0 ≠ x0) (fun i => nz - i) (fun i => []) (fun i => [(0, .slice az nz cz), (1, .int .i64 x0), (7, .int .i64 (nz : Int)), (8, .int .i64 (i : Int))]) 0 ⟨Nat.zero_le _, fun j hj => by omega⟩ (fun _ h => h.pick []) ⟨rfl, rfl, rfl, rfl, trivial⟩ ?_
 rintro i τ1 ⟨hi, hal⟩
 refine hSeq ?_
 refine hReg (sq 0 sz) (by kernel_rfl) ?_
 refine lss rfl rfl rfl rfl ?_
 refine rNil ?_
 refine qSeq rfl ?_
 refine hSeq ?_
 refine hIfD rfl (fun c1 => ?_) (fun c1 => ?_)
 ·
  replace c1 : (i : Int) < (nz : Int) := c1
  refine hSkip ?_
  refine qSeq rfl ?_
  refine hSeq ?_
  refine hBlk ?_
  refine hSeq ?_
  refine hReg (sq 0 (sq 1 sz)) (by kernel_rfl) ?_
  refine mvI rfl rfl rfl ?_
  refine asI rfl rfl rfl ?_
  refine rNil ?_
  refine qSeq rfl ?_
  refine hSeq ?_
  refine hReg (sq 0 (sq 1 (sq 2 (sq 3 (sl 4 (sq 5 sz)))))) (by kernel_rfl) ?_
  refine mvI rfl rfl rfl ?_
  refine mvS rfl rfl rfl ?_
  refine mvI rfl rfl rfl ?_
  refine ixIl (zn := i) el50 (kz) rfl rfl rfl rfl (by omega) (by omega) rfl ?_
  intro ae1 e1
  refine ldl Tryd.isAgg2 (e1) trv rfl rfl rfl ?_
  refine eql rfl rfl rfl rfl ?_
  refine rNil ?_
  refine qSeq rfl ?_
  refine hIfD rfl (fun c2 => ?_) (fun c2 => ?_)
  ·
   replace c2 : x0 = (z.getD i 0) := c2
   refine hSeq ?_
   refine hReg (sq 0 (sq 1 sz)) (by kernel_rfl) ?_
   refine mvI rfl rfl rfl ?_
   refine asI rfl rfl rfl ?_
   refine rNil ?_
   refine qSeq rfl ?_
   refine hRet ?_
   exact fun w hs => ⟨[.int .i64 (i : Int)], ⟨rfl, trivial⟩, ⟨vI (Math.indexOf_yes (by omega) (by omega) hal).symm, hs.upd⟩⟩
  ·
   replace c2 : ¬ (x0 = (z.getD i 0)) := c2
   refine hSkip ?_
   refine qSeq rfl ?_
   refine hReg (sq 0 (sq 1 sz)) (by kernel_rfl) ?_
   refine add rfl rfl rfl rfl (by omega) ?_
   refine mvI rfl rfl rfl ?_
   refine rNil ?_
   exact qNext rfl (i + 1) (by omega) ⟨by omega, Math.upto hal (by omega)⟩ ⟨rfl, rfl, rfl, rfl, trivial⟩ (fun _ h => h.pick [])
 ·
  replace c1 : ¬ ((i : Int) < (nz : Int)) := c1
  refine hExit rfl ?_
  refine qSeq rfl ?_
  refine hSeq ?_
  refine hReg (sq 0 sz) (by kernel_rfl) ?_
  refine asI rfl rfl rfl ?_
  refine rNil ?_
  refine qSeq rfl ?_
  refine hRet ?_
  exact fun w hs => ⟨[.int .i64 (-1)], ⟨rfl, trivial⟩, ⟨vI (Math.indexOf_no fun j hj => hal j (by omega)).symm, hs.upd⟩⟩
theorem slices_Max_int64_int64_c (az : Option Addr) (nz : Nat) (cz : Nat) (z : List Int) (w : World) (rz : RdI az nz z w) (h1 : 1 ≤ nz) :
  Calls Tryd.prog 61 #[.slice az nz cz] w (Ret fun v w' => v = .int .i64 ((z.getD (Math.best z) 0)) ∧ Ext w w') := by
 have kz : Kn w none_ [] (RdI az nz z) := fun w' hs => rz.ext hs.upd
 have lz : z.length = nz := rz.1
 have mz : nz ≤ 9223372036854775807 := rz.2.1
 refine fn (M := none_) (rs := [.tmp 2]) Tryd.func61 rfl Tryd.ntmps61 rfl rfl (Sep.start _ _) ?_
 refine hSeq ?_
 refine hReg (sq 0 sz) (by kernel_rfl) ?_
 refine asI rfl rfl rfl ?_
 refine rNil ?_
 refine qSeq rfl ?_
 refine hSeq ?_
 refine hSeq ?_
 refine hReg (sq 0 (sq 1 (sq 2 sz))) (by kernel_rfl) ?_
 refine mvS rfl rfl rfl ?_
 refine lenS Tryd.runUnderlying50 rfl rfl rfl ?_
 refine lss rfl rfl rfl rfl ?_
 refine rNil ?_
 refine qSeq rfl ?_
 refine hIfD rfl (fun c1 => ?_) (fun c1 => ?_)
 ·
  replace c1 : (nz : Int) < 1 := c1
  exact absurd c1 (by omega)
 ·
  replace c1 : ¬ ((nz : Int) < 1) := c1
  refine hSkip ?_
  refine qSeq rfl ?_
  refine hSeq ?_
  refine hReg (sq 0 (sq 1 (sl 2 (sq 3 sz)))) (by kernel_rfl) ?_
  refine mvS rfl rfl rfl ?_
  refine ixIl (zn := 0) el50 (kz) rfl rfl rfl rfl (by omega) (by omega) rfl ?_
  intro ae1 e1
  refine ldl Tryd.isAgg2 (e1) trv rfl rfl rfl ?_
  refine asI rfl rfl rfl ?_
  refine rNil ?_
  refine qSeq rfl ?_
  refine hSeq ?_
  refine hSeq ?_
  refine hReg (sq 0 sz) (by kernel_rfl) ?_
  refine asI rfl rfl rfl ?_
  refine rNil ?_
  refine qSeq rfl ?_
  refine hBlk ?_
  refine hLoop (α := Nat × Int) (fun x => x.1 + 1 ≤ nz ∧ x.2 = z.getD (Math.bestTo z x.1) 0) (fun x => nz - x.1) (fun x => []) (fun x => [(0, .slice az nz cz), (3, .int .i64 x.2), (4, .int .i64 (((x.1 : Int) + 1)))]) (0, z.getD 0 0) ⟨by dsimp only; omega, rfl⟩ (fun _ h => h.pick []) ⟨rfl, rfl, rfl, trivial⟩ ?_
  rintro ⟨k, m⟩ τ1 ⟨hk, hm⟩
  dsimp only at hk hm
  refine hRe [(0, .slice az nz cz), (3, .int .i64 m), (4, .int .i64 (((k : Int) + 1)))] [] rfl rfl ?_
  refine hSeq ?_
  refine hSeq ?_
  refine hReg (sq 0 (sq 1 (sq 2 (sq 3 sz)))) (by kernel_rfl) ?_
  refine mvI rfl rfl rfl ?_
  refine mvS rfl rfl rfl ?_
  refine lenS Tryd.runUnderlying50 rfl rfl rfl ?_
  refine lss rfl rfl rfl rfl ?_
  refine rNil ?_
  refine qSeq rfl ?_
  refine hIfD rfl (fun c2 => ?_) (fun c2 => ?_)
  ·
   replace c2 : ((k : Int) + 1) < (nz : Int) := c2
   refine hSkip ?_
   refine qSeq rfl ?_
   refine hSeq ?_
   refine hBlk ?_
   refine hReg (sq 0 (sq 1 (sq 2 (sq 3 (sl 4 (sq 5 (sq 6 sz))))))) (by kernel_rfl) ?_
   refine mvI rfl rfl rfl ?_
   refine mvS rfl rfl rfl ?_
   refine mvI rfl rfl rfl ?_
   refine ixIl (zn := (k + 1)) el50 (kz) rfl rfl rfl rfl (by omega) (by omega) rfl ?_
   intro ae2 e2
   refine ldl Tryd.isAgg2 (e2) trv rfl rfl rfl ?_
   refine max2 rfl rfl rfl rfl ?_
   refine asI rfl rfl rfl ?_
   refine rNil ?_
   refine qSeq rfl ?_
   refine hReg (sq 0 (sq 1 (sq 2 sz))) (by kernel_rfl) ?_
   refine mvI rfl rfl rfl ?_
   refine add rfl rfl rfl rfl (by omega) ?_
   refine asI rfl rfl rfl ?_
   refine rNil ?_
   exact qNext rfl ((k + 1, max m (z.getD (k + 1) 0))) (by dsimp only; omega) ⟨by dsimp only; omega, by dsimp only [Math.bestTo]; rw [hm]; split <;> omega⟩ ⟨rfl, rfl, rfl, trivial⟩ (fun _ h => h.pick [])
  ·
   replace c2 : ¬ (((k : Int) + 1) < (nz : Int)) := c2
   refine hExit rfl ?_
   refine qSeq rfl ?_
   refine hSeq ?_
   refine hReg (sq 0 (sq 1 sz)) (by kernel_rfl) ?_
   refine mvI rfl rfl rfl ?_
   refine asI rfl rfl rfl ?_
   refine rNil ?_
   refine qSeq rfl ?_
   refine hRet ?_
   exact fun w hs => ⟨[.int .i64 m], ⟨rfl, trivial⟩, ⟨vI (by unfold Math.best; rw [hm, show z.length - 1 = k from by omega]), hs.upd⟩⟩
set_option maxHeartbeats 1000000 in
theorem spec_l22Parts_c_r (kk_ : Nat) : ∀ (az : Option Addr) (nz : Nat) (cz : Nat) (z : List Int) (w : World), (if z.sum = 0 then 1 else 0) = kk_ → RdI az nz z w → (∀ x ∈ z, 0 ≤ x ∧ x ≤ 1000000000) → (z.length ≤ 1000000) → (1 ≤ z.length) → Calls Tryd.prog 33 #[.slice az nz cz] w (Ret fun v w' => ∃ x : Option Addr × Nat × Nat × List Int, v = .slice x.1 x.2.1 x.2.2.1 ∧ (x.2.2.2 = Math.partsOf z) ∧ Sep w none_ [OwnI 2 x.1 x.2.1 x.2.2.1 x.2.2.2] w') := by
 induction kk_ using Nat.strongRecOn with
 | _ kk_ ih =>
  intro az nz cz z w hK rz hb hl h1
  have kz : Kn w none_ [] (RdI az nz z) := fun w' hs => rz.ext hs.upd
  have lz : z.length = nz := rz.1
  have mz : nz ≤ 9223372036854775807 := rz.2.1
  have hs0 := (Math.le_sum fun x hx => (hb x hx).1).1
  have hps := Math.pout_sum hb
  have hsz := Math.sum_bd hb z.length (Nat.le_refl _)
  rw [List.take_of_length_le (Nat.le_refl _)] at hsz
  refine fn (M := none_) (rs := [.tmp 2]) Tryd.func33 rfl Tryd.ntmps33 rfl rfl (Sep.start _ _) ?_
  refine hSeq ?_
  refine hReg (sq 0 sz) (by kernel_rfl) ?_
  refine asS rfl rfl rfl ?_
  refine rNil ?_
  refine qSeq rfl ?_
  refine hSeq ?_
  refine hReg (sq 0 (sl 1 (sq 2 sz))) (by kernel_rfl) ?_
  refine mvS rfl rfl rfl ?_
  refine callP (v := .int .i64 z.sum) Tryd.call62 trv rfl rfl (fun w hs => spec_l01Sum_c _ _ _ _ w (kz w hs) (by first | assumption | (intro x hx; have := Math.pout_bd hb x hx; omega)) (by first | omega | (rw [Math.pout_len]; omega))) ?_
  refine asI rfl rfl rfl ?_
  refine rNil ?_
  refine qSeq rfl ?_
  refine hSeq ?_
  refine hSeq ?_
  refine hReg (sq 0 (sq 1 sz)) (by kernel_rfl) ?_
  refine mvI rfl rfl rfl ?_
  refine eql rfl rfl rfl rfl ?_
  refine rNil ?_
  refine qSeq rfl ?_
  refine hIfD rfl (fun c1 => ?_) (fun c1 => ?_)
  ·
   replace c1 : z.sum = 0 := c1
   refine hSeq ?_
   refine hReg (sl 0 (sq 1 sz)) (by kernel_rfl) ?_
   refine bsl trv1 rfl rfl rfl (bsl50_0) (fun bkl1 hbkl1 => ?_)
   refine asS rfl rfl rfl ?_
   refine rNil ?_
   refine qSeq rfl ?_
   refine hSeq ?_
   refine hSeq ?_
   refine hReg (sq 0 sz) (by kernel_rfl) ?_
   refine asI rfl rfl rfl ?_
   refine rNil ?_
   refine qSeq rfl ?_
   refine hBlk ?_
   refine hPieces (fun _ h => Sep.litI h 0 [] rfl rfl rfl) ?_
   refine hLoop (α := Nat × Nat × Hd) (fun x => x.1 ≤ nz ∧ x.2.1 = x.1) (fun x => nz - x.1) (fun x => [OwnI 2 x.2.2.1 x.2.1 x.2.2.2 (List.replicate x.1 1)]) (fun x => [(0, .slice az nz cz), (4, .slice x.2.2.1 x.2.1 x.2.2.2), (5, .int .i64 (x.1 : Int))]) ((0, 0, ((some ⟨bkl1, 0, none⟩), 0))) ⟨Nat.zero_le _, rfl⟩ (fun _ h => h.pick [0]) ⟨rfl, rfl, rfl, trivial⟩ ?_
   rintro ⟨i, q, hd⟩ τ1 ⟨hi, hq⟩
   dsimp only at hi hq
   refine hRe [(0, .slice az nz cz), (4, .slice hd.1 q hd.2), (5, .int .i64 (i : Int))] [OwnI 2 hd.1 q hd.2 (List.replicate i 1)] rfl rfl ?_
   refine hSeq ?_
   refine hSeq ?_
   refine hReg (sq 0 (sq 1 (sq 2 (sq 3 sz)))) (by kernel_rfl) ?_
   refine mvI rfl rfl rfl ?_
   refine mvS rfl rfl rfl ?_
   refine lenS Tryd.runUnderlying50 rfl rfl rfl ?_
   refine lss rfl rfl rfl rfl ?_
   refine rNil ?_
   refine qSeq rfl ?_
   refine hIfD rfl (fun c2 => ?_) (fun c2 => ?_)
   ·
    replace c2 : (i : Int) < (nz : Int) := c2
    refine hSkip ?_
    refine qSeq rfl ?_
    refine hSeq ?_
    refine hBlk ?_
    refine hReg (sq 0 (sl 1 (sl 2 (sq 3 sz)))) (by kernel_rfl) ?_
    refine mvS rfl rfl rfl ?_
    refine bsl trv1 rfl rfl rfl (bsl50_1 (.int .i64 _) rfl) (fun bkl2 hbkl2 => ?_)
    refine aplI (N := q) (x := 1) 1 0 rfl rfl mk50 trv1 rfl rfl rfl rfl (by omega) ?_
    intro aq1 cq1
    refine asS rfl rfl rfl ?_
    refine rNil ?_
    refine qSeq rfl ?_
    refine hReg (sq 0 (sq 1 (sq 2 sz))) (by kernel_rfl) ?_
    refine mvI rfl rfl rfl ?_
    refine add rfl rfl rfl rfl (by omega) ?_
    refine asI rfl rfl rfl ?_
    refine rNil ?_
    rw [← List.replicate_succ']
    exact qNext rfl ((i + 1, q + 1, (aq1, cq1))) (by dsimp only; omega) ⟨by dsimp only; omega, by dsimp only; omega⟩ ⟨rfl, rfl, rfl, trivial⟩ (fun _ h => h.pick [1])
   ·
    replace c2 : ¬ ((i : Int) < (nz : Int)) := c2
    refine hExit rfl ?_
    refine qSeq rfl ?_
    refine hSeq ?_
    refine hReg (sq 0 (sl 1 (sq 2 sz))) (by kernel_rfl) ?_
    refine mvS rfl rfl rfl ?_
    refine callS Tryd.call33 trv1 rfl rfl (fun w hs => ih _ (by rw [← hK, if_pos c1, if_neg (by rw [Math.rep_sum]; omega)]; decide) _ _ _ _ w rfl (OwnI.rd (hs.at_ 0 rfl)) (by intro x hx; rw [List.eq_of_mem_replicate hx]; decide) (by rw [List.length_replicate]; omega) (by rw [List.length_replicate]; omega)) ?_
    rintro ⟨ay2, ny2, cy2, y2⟩ hr2
    try dsimp only at hr2
    refine asS rfl rfl rfl ?_
    refine rNil ?_
    refine qSeq rfl ?_
    refine hRet ?_
    exact fun w hs => ⟨[.slice ay2 ny2 cy2], ⟨rfl, trivial⟩, ⟨(ay2, ny2, cy2, y2), rfl, by dsimp only; rw [hr2, show i = z.length from by omega, Math.partsOf_ones c1], hs.pick [0]⟩⟩
  ·
   replace c1 : ¬ (z.sum = 0) := c1
   refine hSkip ?_
   refine qSeq rfl ?_
   refine hSeq ?_
   refine hReg (sl 0 (sl 1 (sq 2 (sq 3 sz)))) (by kernel_rfl) ?_
   refine bsl trv1 rfl rfl rfl (bsl50_0) (fun bkl4 hbkl4 => ?_)
   refine bsl trv1 rfl rfl rfl (bsl50_0) (fun bkl5 hbkl5 => ?_)
   refine asS rfl rfl rfl ?_
   refine asS rfl rfl rfl ?_
   refine rNil ?_
   refine qSeq rfl ?_
   refine hSeq ?_
   refine hSeq ?_
   refine hReg (sq 0 sz) (by kernel_rfl) ?_
   refine asI rfl rfl rfl ?_
   refine rNil ?_
   refine qSeq rfl ?_
   refine hBlk ?_
   refine hPieces (fun _ h => Sep.litI h 1 [] rfl rfl rfl) ?_
   refine hPieces (fun _ h => Sep.litI h 0 [] rfl rfl rfl) ?_
   refine hLoop (α := Nat × Nat × Hd × Hd) (fun x => x.1 ≤ nz ∧ x.2.1 = x.1) (fun x => nz - x.1) (fun x => [OwnI 2 x.2.2.2.1 x.2.1 x.2.2.2.2 (((Math.prest z).take x.1)), OwnI 2 x.2.2.1.1 x.2.1 x.2.2.1.2 (((Math.pout z).take x.1))]) (fun x => [(0, .slice az nz cz), (3, .int .i64 z.sum), (6, .slice x.2.2.1.1 x.2.1 x.2.2.1.2), (7, .slice x.2.2.2.1 x.2.1 x.2.2.2.2), (8, .int .i64 (x.1 : Int))]) ((0, 0, ((some ⟨bkl4, 0, none⟩), 0), ((some ⟨bkl5, 0, none⟩), 0))) ⟨Nat.zero_le _, rfl⟩ (fun _ h => h.pick [0, 0]) ⟨rfl, rfl, rfl, rfl, rfl, trivial⟩ ?_
   rintro ⟨i, q, hd, hd2⟩ τ2 ⟨hi, hq⟩
   dsimp only at hi hq
   refine hRe [(0, .slice az nz cz), (3, .int .i64 z.sum), (6, .slice hd.1 q hd.2), (7, .slice hd2.1 q hd2.2), (8, .int .i64 (i : Int))] [OwnI 2 hd2.1 q hd2.2 (((Math.prest z).take i)), OwnI 2 hd.1 q hd.2 (((Math.pout z).take i))] rfl rfl ?_
   refine hSeq ?_
   refine hSeq ?_
   refine hReg (sq 0 (sq 1 (sq 2 (sq 3 sz)))) (by kernel_rfl) ?_
   refine mvI rfl rfl rfl ?_
   refine mvS rfl rfl rfl ?_
   refine lenS Tryd.runUnderlying50 rfl rfl rfl ?_
   refine lss rfl rfl rfl rfl ?_
   refine rNil ?_
   refine qSeq rfl ?_
   refine hIfD rfl (fun c3 => ?_) (fun c3 => ?_)
   ·
    replace c3 : (i : Int) < (nz : Int) := c3
    have hzi := hb _ (Math.getD_mem 0 (show i < z.length by omega))
    refine hSkip ?_
    refine qSeq rfl ?_
    refine hSeq ?_
    refine hBlk ?_
    refine hSeq ?_
    refine hReg (sq 0 (sq 1 (sq 2 (sq 3 (sl 4 (sq 5 (sq 6 (sq 7 (sl 8 (sl 9 (sq 10 sz))))))))))) (by kernel_rfl) ?_
    refine mvS rfl rfl rfl ?_
    refine mvS rfl rfl rfl ?_
    refine mvI rfl rfl rfl ?_
    refine ixIl (zn := i) el50 (Kn.drop (k := 2) kz) rfl rfl rfl rfl (by omega) (by omega) rfl ?_
    intro ae3 e3
    refine ldl Tryd.isAgg2 (e3) trv rfl rfl rfl ?_
    refine mul rfl rfl rfl rfl (by omega) ?_
    refine mvI rfl rfl rfl ?_
    refine quo rfl rfl rfl rfl (by omega) ?_
    refine bsl trv1 rfl rfl rfl (bsl50_1 (.int .i64 _) rfl) (fun bkl6 hbkl6 => ?_)
    refine aplI (N := q) (x := (((60 * (z.getD i 0))) / z.sum)) 2 0 rfl rfl mk50 trv1 rfl rfl rfl rfl (by omega) ?_
    intro aq4 cq4
    refine asS rfl rfl rfl ?_
    refine rNil ?_
    refine qSeq rfl ?_
    refine hReg (sq 0 (sq 1 (sq 2 (sq 3 (sl 4 (sq 5 (sq 6 (sq 7 (sl 8 (sl 9 (sq 10 sz))))))))))) (by kernel_rfl) ?_
    refine mvS rfl rfl rfl ?_
    refine mvS rfl rfl rfl ?_
    refine mvI rfl rfl rfl ?_
    refine ixIl (zn := i) el50 (Kn.drop (k := 3) kz) rfl rfl rfl rfl (by omega) (by omega) rfl ?_
    intro ae5 e5
    refine ldl Tryd.isAgg2 (e5) trv rfl rfl rfl ?_
    refine mul rfl rfl rfl rfl (by omega) ?_
    refine mvI rfl rfl rfl ?_
    refine rem rfl rfl rfl rfl (by omega) ?_
    refine bsl trv1 rfl rfl rfl (bsl50_1 (.int .i64 _) rfl) (fun bkl7 hbkl7 => ?_)
    refine aplI (N := q) (x := (((60 * (z.getD i 0))) % z.sum)) 2 0 rfl rfl mk50 trv1 rfl rfl rfl rfl (by omega) ?_
    intro aq6 cq6
    refine asS rfl rfl rfl ?_
    refine rNil ?_
    refine qSeq rfl ?_
    refine hReg (sq 0 (sq 1 (sq 2 sz))) (by kernel_rfl) ?_
    refine mvI rfl rfl rfl ?_
    refine add rfl rfl rfl rfl (by omega) ?_
    refine asI rfl rfl rfl ?_
    refine rNil ?_
    rw [Math.pout_add c1 (by omega), Math.prest_add c1 (by omega)]
    exact qNext rfl ((i + 1, q + 1, (aq4, cq4), (aq6, cq6))) (by dsimp only; omega) ⟨by dsimp only; omega, by dsimp only; omega⟩ ⟨rfl, rfl, rfl, rfl, rfl, trivial⟩ (fun _ h => h.pick [2, 2])
   ·
    replace c3 : ¬ ((i : Int) < (nz : Int)) := c3
    rw [List.take_of_length_le (l := Math.pout z) (by rw [Math.pout_len]; omega)]
    rw [List.take_of_length_le (l := Math.prest z) (by rw [Math.prest_len]; omega)]
    refine hExit rfl ?_
    refine qSeq rfl ?_
    refine hSeq ?_
    refine hSeq ?_
    refine hReg (sq 0 (sl 1 (sq 2 (sq 3 sz)))) (by kernel_rfl) ?_
    refine mvS rfl rfl rfl ?_
    refine callP (v := .int .i64 ((Math.pout z).sum)) Tryd.call62 trv rfl rfl (fun w hs => spec_l01Sum_c _ _ _ _ w (OwnI.rd (hs.at_ 1 rfl)) (by first | assumption | (intro x hx; have := Math.pout_bd hb x hx; omega)) (by first | omega | (rw [Math.pout_len]; omega))) ?_
    refine sub rfl rfl rfl rfl (by omega) ?_
    refine asI rfl rfl rfl ?_
    refine rNil ?_
    refine qSeq rfl ?_
    refine hBlk ?_
    refine hLoop (α := Int × List Int × List Int) (fun x => Math.rounds x.1.toNat (x.2.1, x.2.2) = Math.rounds (60 - (Math.pout z).sum).toNat (Math.pout z, Math.prest z) ∧ (x.2.1.length = q ∧ x.2.2.length = q) ∧ (x.1 ≤ 60 ∧ ∀ u ∈ x.2.1, 0 ≤ u ∧ u + x.1 ≤ 120)) (fun x => x.1.toNat) (fun x => [OwnI 2 hd2.1 q hd2.2 x.2.2, OwnI 2 hd.1 q hd.2 x.2.1]) (fun x => [(6, .slice hd.1 q hd.2), (7, .slice hd2.1 q hd2.2), (9, .int .i64 x.1)]) ((60 - (Math.pout z).sum, Math.pout z, Math.prest z)) (⟨rfl, ⟨by dsimp only; rw [Math.pout_len]; omega, by dsimp only; rw [Math.prest_len]; omega⟩, by dsimp only; omega, fun u hu => by have := Math.pout_bd hb u hu; dsimp only; omega⟩) (fun _ h => h.pick [0, 0]) ⟨rfl, rfl, rfl, trivial⟩ ?_
    rintro ⟨m, o, r⟩ τ3 ⟨hro, ⟨hol, hrl⟩, hm60, hob⟩
    dsimp only at hro hol hrl hm60 hob
    refine hRe [(6, .slice hd.1 q hd.2), (7, .slice hd2.1 q hd2.2), (9, .int .i64 m)] [OwnI 2 hd2.1 q hd2.2 r, OwnI 2 hd.1 q hd.2 o] rfl rfl ?_
    refine hSeq ?_
    refine hSeq ?_
    refine hReg (sq 0 (sq 1 sz)) (by kernel_rfl) ?_
    refine mvI rfl rfl rfl ?_
    refine gtr rfl rfl rfl rfl ?_
    refine rNil ?_
    refine qSeq rfl ?_
    refine hIfD rfl (fun c4 => ?_) (fun c4 => ?_)
    ·
     replace c4 : 0 < m := c4
     refine hSkip ?_
     refine qSeq rfl ?_
     refine hSeq ?_
     refine hBlk ?_
     refine hSeq ?_
     refine hReg (sq 0 sz) (by kernel_rfl) ?_
     refine asI rfl rfl rfl ?_
     refine rNil ?_
     refine qSeq rfl ?_
     refine hSeq ?_
     refine hSeq ?_
     refine hReg (sq 0 sz) (by kernel_rfl) ?_
     refine asI rfl rfl rfl ?_
     refine rNil ?_
     refine qSeq rfl ?_
     refine hBlk ?_
     refine hLoop (α := Nat × Nat) (fun x => x.1 + 1 ≤ q ∧ x.2 = Math.bestTo r x.1) (fun x => q - x.1) (fun x => [OwnI 2 hd2.1 q hd2.2 r, OwnI 2 hd.1 q hd.2 o]) (fun x => [(6, .slice hd.1 q hd.2), (7, .slice hd2.1 q hd2.2), (9, .int .i64 m), (10, .int .i64 (x.2 : Int)), (11, .int .i64 (((x.1 : Int) + 1)))]) (0, 0) ⟨by dsimp only; omega, rfl⟩ (fun _ h => h.pick [0, 0]) ⟨rfl, rfl, rfl, rfl, rfl, trivial⟩ ?_
     rintro ⟨k, b⟩ τ4 ⟨hk, hbq⟩
     dsimp only at hk hbq
     refine hRe [(6, .slice hd.1 q hd.2), (7, .slice hd2.1 q hd2.2), (9, .int .i64 m), (10, .int .i64 (b : Int)), (11, .int .i64 (((k : Int) + 1)))] [OwnI 2 hd2.1 q hd2.2 r, OwnI 2 hd.1 q hd.2 o] rfl rfl ?_
     have hbl := Math.bestTo_le r k
     refine hSeq ?_
     refine hSeq ?_
     refine hReg (sq 0 (sq 1 (sq 2 (sq 3 sz)))) (by kernel_rfl) ?_
     refine mvI rfl rfl rfl ?_
     refine mvS rfl rfl rfl ?_
     refine lenS Tryd.runUnderlying50 rfl rfl rfl ?_
     refine lss rfl rfl rfl rfl ?_
     refine rNil ?_
     refine qSeq rfl ?_
     refine hIfD rfl (fun c5 => ?_) (fun c5 => ?_)
     ·
      replace c5 : ((k : Int) + 1) < (q : Int) := c5
      refine hSkip ?_
      refine qSeq rfl ?_
      refine hSeq ?_
      refine hBlk ?_
      refine hSeq ?_
      refine hDraw (Ls := [OwnI 2 hd2.1 q hd2.2 r]) (by kernel_rfl) (sq 0 (sq 1 (sq 2 (sq 3 (sq 4 (sq 5 (sq 6 (sq 7 (sq 8 sz))))))))) (by kernel_rfl) (.cons_cons _ (.cons _ .slnil)) ?_
      refine mvS rfl rfl rfl ?_
      refine mvI rfl rfl rfl ?_
      refine ixIq (zn := (k + 1)) el50 ((Kn.at_ 0 rfl).imp fun _ h => OwnI.rd h) (fun _ h => h.pick [0]) rfl rfl rfl rfl (by omega) (by omega) rfl ?_
      intro ae7 e7
      refine ldq Tryd.isAgg2 (e7) rfl rfl rfl ?_
      refine mvS rfl rfl rfl ?_
      refine mvI rfl rfl rfl ?_
      refine ixIq (zn := b) el50 ((Kn.at_ 0 rfl).imp fun _ h => OwnI.rd h) (fun _ h => h.pick [0]) rfl rfl rfl rfl (by omega) (by omega) rfl ?_
      intro ae8 e8
      refine ldq Tryd.isAgg2 (e8) rfl rfl rfl ?_
      refine gtr rfl rfl rfl rfl ?_
      refine rNil ?_
      refine qSeq rfl ?_
      refine hIfD rfl (fun c6 => ?_) (fun c6 => ?_)
      ·
       replace c6 : (r.getD b 0) < (r.getD (k + 1) 0) := c6
       refine hReg (sq 0 (sq 1 sz)) (by kernel_rfl) ?_
       refine mvI rfl rfl rfl ?_
       refine asI rfl rfl rfl ?_
       refine rNil ?_
       refine qSeq rfl ?_
       refine hReg (sq 0 (sq 1 (sq 2 sz))) (by kernel_rfl) ?_
       refine mvI rfl rfl rfl ?_
       refine add rfl rfl rfl rfl (by omega) ?_
       refine asI rfl rfl rfl ?_
       refine rNil ?_
       exact qNext rfl (k + 1, k + 1) (by dsimp only; omega) ⟨by dsimp only; omega, by dsimp only [Math.bestTo]; rw [← hbq, if_pos (by assumption)]⟩ ⟨rfl, rfl, rfl, rfl, rfl, trivial⟩ (fun _ h => h.pick [0, 0])
      ·
       replace c6 : ¬ ((r.getD b 0) < (r.getD (k + 1) 0)) := c6
       refine hSkip ?_
       refine qSeq rfl ?_
       refine hReg (sq 0 (sq 1 (sq 2 sz))) (by kernel_rfl) ?_
       refine mvI rfl rfl rfl ?_
       refine add rfl rfl rfl rfl (by omega) ?_
       refine asI rfl rfl rfl ?_
       refine rNil ?_
       exact qNext rfl (k + 1, b) (by dsimp only; omega) ⟨by dsimp only; omega, by dsimp only [Math.bestTo]; rw [← hbq, if_neg (by assumption)]⟩ ⟨rfl, rfl, rfl, rfl, rfl, trivial⟩ (fun _ h => h.pick [0, 0])
     ·
      replace c5 : ¬ (((k : Int) + 1) < (q : Int)) := c5
      have hbest : b = Math.best r := by unfold Math.best; rw [hbq, show r.length - 1 = k from by omega]
      have hob2 := hob _ (Math.getD_mem 0 (show b < o.length by omega))
      refine hExit rfl ?_
      refine qSeq rfl ?_
      refine hSeq ?_
      refine hReg (sq 0 (sq 1 (sq 2 (sl 3 (sq 4 (sq 5 (sl 6 sz))))))) (by kernel_rfl) ?_
      refine mvS rfl rfl rfl ?_
      refine mvI rfl rfl rfl ?_
      refine ixIl (zn := b) el50 ((Kn.at_ 1 rfl).imp fun _ h => OwnI.rd h) rfl rfl rfl rfl (by omega) (by omega) rfl ?_
      intro ae9 e9
      refine ldl Tryd.isAgg2 (e9) trv rfl rfl rfl ?_
      refine add rfl rfl rfl rfl (by omega) ?_
      refine oxI (zn := b) 1 rfl el50 rfl rfl rfl rfl (by omega) (by omega) rfl ?_
      intro gk10 hgk10
      refine stoI (off := b) (x := ((o.getD b 0) + 1)) 1 rfl hgk10 Tryd.sizeOf2 trv rfl rfl rfl rfl (by omega) ?_
      refine rNil ?_
      refine qSeq rfl ?_
      refine hReg (sq 0 (sq 1 (sq 2 (sl 3 sz)))) (by kernel_rfl) ?_
      refine mvS rfl rfl rfl ?_
      refine mvI rfl rfl rfl ?_
      refine oxI (zn := b) 0 rfl el50 rfl rfl rfl rfl (by omega) (by omega) rfl ?_
      intro gk11 hgk11
      refine stoI (off := b) (x := (-1)) 0 rfl hgk11 Tryd.sizeOf2 trv rfl rfl rfl rfl (by omega) ?_
      refine rNil ?_
      refine qSeq rfl ?_
      refine hReg (sq 0 (sq 1 (sq 2 sz))) (by kernel_rfl) ?_
      refine mvI rfl rfl rfl ?_
      refine sub rfl rfl rfl rfl (by omega) ?_
      refine asI rfl rfl rfl ?_
      refine rNil ?_
      exact qNext rfl ((m - 1, o.set b (o.getD b 0 + 1), r.set b (-1))) (by dsimp only; omega) (⟨by dsimp only; rw [hbest, ← Math.rounds_step (by omega)]; exact hro, ⟨by dsimp only; rw [List.length_set]; exact hol, by dsimp only; rw [List.length_set]; exact hrl⟩, by dsimp only; omega, by dsimp only; exact Math.bd_set hob ⟨by omega, by omega⟩⟩) ⟨rfl, rfl, rfl, trivial⟩ (fun _ h => h.pick [0, 0])
    ·
     replace c4 : ¬ (0 < m) := c4
     refine hExit rfl ?_
     refine qSeq rfl ?_
     refine hSeq ?_
     refine hReg (sq 0 (sq 1 sz)) (by kernel_rfl) ?_
     refine mvS rfl rfl rfl ?_
     refine asS rfl rfl rfl ?_
     refine rNil ?_
     refine qSeq rfl ?_
     refine hRet ?_
     exact fun w hs => ⟨[.slice hd.1 q hd.2], ⟨rfl, trivial⟩, ⟨(hd.1, q, hd.2, o), rfl, by unfold Math.partsOf; rw [← hro, Math.rounds_end (by omega)], hs.pick [1]⟩⟩
theorem spec_l22Parts_c (az : Option Addr) (nz : Nat) (cz : Nat) (z : List Int) (w : World) (rz : RdI az nz z w) (hb : ∀ x ∈ z, 0 ≤ x ∧ x ≤ 1000000000) (hl : z.length ≤ 1000000) (h1 : 1 ≤ z.length) :
  Calls Tryd.prog 33 #[.slice az nz cz] w (Ret fun v w' => ∃ x : Option Addr × Nat × Nat × List Int, v = .slice x.1 x.2.1 x.2.2.1 ∧ (x.2.2.2 = Math.partsOf z) ∧ Sep w none_ [OwnI 2 x.1 x.2.1 x.2.2.1 x.2.2.2] w') := spec_l22Parts_c_r _ az nz cz z w rfl rz hb hl h1
set_option maxHeartbeats 1000000 in
theorem impl_partsOf_c (az : Option Addr) (nz : Nat) (cz : Nat) (z : List Int) (w : World) (rz : RdI az nz z w) (hb : ∀ x ∈ z, 0 ≤ x ∧ x ≤ 1000000000) (hl : z.length ≤ 1000000) (h1 : 1 ≤ z.length) :
  Calls Tryd.prog 30 #[.slice az nz cz] w (Ret fun v w' => ∃ x : Option Addr × Nat × Nat × List Int, v = .slice x.1 x.2.1 x.2.2.1 ∧ (x.2.2.2 = Math.partsOf z) ∧ Sep w none_ [OwnI 2 x.1 x.2.1 x.2.2.1 x.2.2.2] w') := by
 have kz : Kn w none_ [] (RdI az nz z) := fun w' hs => rz.ext hs.upd
 have lz : z.length = nz := rz.1
 have mz : nz ≤ 9223372036854775807 := rz.2.1
 have hs0 := (Math.le_sum fun x hx => (hb x hx).1).1
 have hps := Math.pout_sum hb
 have hsz := Math.sum_bd hb z.length (Nat.le_refl _)
 rw [List.take_of_length_le (Nat.le_refl _)] at hsz
 refine fn (M := none_) (rs := [.tmp 2]) Tryd.func30 rfl Tryd.ntmps30 rfl rfl (Sep.start _ _) ?_
 refine hSeq ?_
 refine hReg (sq 0 sz) (by kernel_rfl) ?_
 refine asS rfl rfl rfl ?_
 refine rNil ?_
 refine qSeq rfl ?_
 refine hSeq ?_
 refine hReg (sq 0 (sl 1 (sq 2 sz))) (by kernel_rfl) ?_
 refine mvS rfl rfl rfl ?_
 refine callP (v := .int .i64 z.sum) Tryd.call59 trv rfl rfl (fun w hs => impl_sumOf_c _ _ _ _ w (kz w hs) (by first | assumption | (intro x hx; have := Math.pout_bd hb x hx; omega)) (by first | omega | (rw [Math.pout_len]; omega))) ?_
 refine asI rfl rfl rfl ?_
 refine rNil ?_
 refine qSeq rfl ?_
 refine hSeq ?_
 refine hDraw (Ls := []) (by kernel_rfl) (sq 0 (sq 1 (sq 3 (sq 4 (.alt (sl 2 (sq 6 (sl 5 (sq 7 sz)))) (sl 5 (sl 2 (sq 6 (sq 7 sz))))))))) (by kernel_rfl) .slnil ?_
 refine mvS rfl rfl rfl ?_
 refine lenS Tryd.runUnderlying50 rfl rfl rfl ?_
 refine mvS rfl rfl rfl ?_
 refine lenS Tryd.runUnderlying50 rfl rfl rfl ?_
 refine rAlt ?_ ?_
 ·
  refine mksI nz mk50 (fun _ _ h => h.pick []) rfl rfl rfl rfl (rfl) (by omega) (fun bkm1 hbkm1 => ?_)
  refine asS rfl rfl rfl ?_
  refine mksI nz mk50 (fun _ _ h => h.pick []) rfl rfl rfl rfl (rfl) (by omega) (fun bkm2 hbkm2 => ?_)
  refine asS rfl rfl rfl ?_
  refine rNil ?_
  refine qSeq rfl ?_
  refine hSeq ?_
  refine hReg (sq 0 sz) (by kernel_rfl) ?_
  refine asI rfl rfl rfl ?_
  refine rNil ?_
  refine qSeq rfl ?_
  refine hSeq ?_
  refine hSeq ?_
  refine hReg (sq 0 (sq 1 (sq 2 sz))) (by kernel_rfl) ?_
  refine mvS rfl rfl rfl ?_
  refine lenS Tryd.runUnderlying50 rfl rfl rfl ?_
  refine mvI rfl rfl rfl ?_
  refine rNil ?_
  refine qSeq rfl ?_
  refine hBlk ?_
  refine hLoop (α := Nat × Int) (fun x => x.1 ≤ nz ∧ x.2 = 60 - ((Math.pout z).take x.1).sum) (fun x => nz - x.1) (fun x => [OwnI 2 (some ⟨bkm2, 0, none⟩) nz nz (((Math.prest z).take x.1 ++ List.replicate (nz - x.1) 0)), OwnI 2 (some ⟨bkm1, 0, none⟩) nz nz (((Math.pout z).take x.1 ++ List.replicate (nz - x.1) 0))]) (fun x => [(0, .slice az nz cz), (3, .int .i64 z.sum), (4, .slice (some ⟨bkm1, 0, none⟩) nz nz), (5, .slice (some ⟨bkm2, 0, none⟩) nz nz), (6, .int .i64 x.2), (18, .slice az nz cz), (19, .int .i64 (nz : Int)), (20, .int .i64 (x.1 : Int))]) (0, 60) ⟨Nat.zero_le _, rfl⟩ (fun _ h => (by simp only [List.take_zero, List.nil_append, Nat.sub_zero]; exact h.pick [0, 0])) ⟨rfl, rfl, rfl, rfl, rfl, rfl, rfl, rfl, trivial⟩ ?_
  rintro ⟨i, l⟩ τ1 ⟨hi, hlq⟩
  dsimp only at hi hlq
  refine hRe [(0, .slice az nz cz), (3, .int .i64 z.sum), (4, .slice (some ⟨bkm1, 0, none⟩) nz nz), (5, .slice (some ⟨bkm2, 0, none⟩) nz nz), (6, .int .i64 l), (18, .slice az nz cz), (19, .int .i64 (nz : Int)), (20, .int .i64 (i : Int))] [OwnI 2 (some ⟨bkm2, 0, none⟩) nz nz (((Math.prest z).take i ++ List.replicate (nz - i) 0)), OwnI 2 (some ⟨bkm1, 0, none⟩) nz nz (((Math.pout z).take i ++ List.replicate (nz - i) 0))] rfl rfl ?_
  refine hSeq ?_
  refine hReg (sq 0 sz) (by kernel_rfl) ?_
  refine lss rfl rfl rfl rfl ?_
  refine rNil ?_
  refine qSeq rfl ?_
  refine hSeq ?_
  refine hIfD rfl (fun c1 => ?_) (fun c1 => ?_)
  ·
   replace c1 : (i : Int) < (nz : Int) := c1
   have hzi := hb _ (Math.getD_mem 0 (show i < z.length by omega))
   have hpt := Math.pout_take hb (show i ≤ z.length by omega)
   have hpi := Math.pout_bd hb _ (Math.getD_mem 0 (show i < (Math.pout z).length by rw [Math.pout_len]; omega))
   refine hSkip ?_
   refine qSeq rfl ?_
   refine hSeq ?_
   refine hBlk ?_
   refine hSeq ?_
   refine hReg (sq 0 (sq 1 (sl 2 (sq 3 (sq 4 sz))))) (by kernel_rfl) ?_
   refine mvI rfl rfl rfl ?_
   refine ixIl (zn := i) el50 (Kn.drop (k := 2) kz) rfl rfl rfl rfl (by omega) (by omega) rfl ?_
   intro ae1 e1
   refine ldl Tryd.isAgg2 (e1) trv rfl rfl rfl ?_
   refine asI rfl rfl rfl ?_
   refine asI rfl rfl rfl ?_
   refine rNil ?_
   refine qSeq rfl ?_
   refine hSeq ?_
   refine hSeq ?_
   refine hReg (sq 0 (sq 1 sz)) (by kernel_rfl) ?_
   refine mvI rfl rfl rfl ?_
   refine eql rfl rfl rfl rfl ?_
   refine rNil ?_
   refine qSeq rfl ?_
   refine hIfD rfl (fun c2 => ?_) (fun c2 => ?_)
   ·
    replace c2 : z.sum = 0 := c2
    have hv1 := Math.pout_at0 lz c2 (i := i) (by omega)
    have hv2 := Math.prest_at0 lz c2 (i := i) (by omega)
    have hxg : (((Math.pout z).take i ++ List.replicate (nz - i) 0).set i (60 / (nz : Int))).getD i 0 = 60 / (nz : Int) := Math.set_get (by rw [List.length_append, List.length_take, List.length_replicate, Math.pout_len]; omega)
    refine hDraw (Ls := []) (by kernel_rfl) (sq 0 (sq 1 (sq 2 (sq 3 (sq 4 (sq 5 (sq 6 (sq 7 (sq 8 (sq 9 (sq 10 (sl 11 (sq 12 (sf 13 sz)))))))))))))) (by kernel_rfl) (.cons _ (.cons _ .slnil)) ?_
    refine mvS rfl rfl rfl ?_
    refine mvI rfl rfl rfl ?_
    refine mvS rfl rfl rfl ?_
    refine mvI rfl rfl rfl ?_
    refine mvS rfl rfl rfl ?_
    refine lenS Tryd.runUnderlying50 rfl rfl rfl ?_
    refine quo rfl rfl rfl rfl (by omega) ?_
    refine mvS rfl rfl rfl ?_
    refine lenS Tryd.runUnderlying50 rfl rfl rfl ?_
    refine rem rfl rfl rfl rfl (by omega) ?_
    refine oxI (zn := i) 1 rfl el50 rfl rfl rfl rfl (by omega) (by omega) rfl ?_
    intro gk2 hgk2
    refine stoI (off := i) (x := (60 / (nz : Int))) 1 rfl hgk2 Tryd.sizeOf2 (fun _ h => h.pick []) rfl rfl rfl rfl (by omega) ?_
    refine oxI (zn := i) 0 rfl el50 rfl rfl rfl rfl (by omega) (by omega) rfl ?_
    intro gk3 hgk3
    refine stoIF (off := i) (x := (60 % (nz : Int))) 0 rfl hgk3 Tryd.sizeOf2 rfl rfl rfl rfl (by omega) ?_
    refine rNil ?_
    refine qSeq rfl ?_
    refine hReg (sq 0 (sq 1 (sq 2 (sq 3 (sl 4 (sq 5 (sq 6 sz))))))) (by kernel_rfl) ?_
    refine mvI rfl rfl rfl ?_
    refine mvS rfl rfl rfl ?_
    refine mvI rfl rfl rfl ?_
    refine ixIl (zn := i) el50 ((Kn.at_ 1 rfl).imp fun _ h => OwnI.rd h) rfl rfl rfl rfl (by omega) (by omega) rfl ?_
    intro ae4 e4
    refine ldl Tryd.isAgg2 (e4) trv rfl rfl rfl ?_
    refine sub rfl rfl rfl rfl (by omega) ?_
    refine asI rfl rfl rfl ?_
    refine rNil ?_
    refine qSeq rfl ?_
    refine hReg (sq 0 (sq 1 sz)) (by kernel_rfl) ?_
    refine add rfl rfl rfl rfl (by omega) ?_
    refine mvI rfl rfl rfl ?_
    refine rNil ?_
    rw [← hv1, ← hv2, Math.fill_step 0 0 (show (Math.pout z).length = nz by rw [Math.pout_len]; exact lz) (by omega), Math.fill_step 0 0 (show (Math.prest z).length = nz by rw [Math.prest_len]; exact lz) (by omega)]
    exact qNext rfl ((i + 1, l - ((Math.pout z).take (i + 1) ++ List.replicate (nz - (i + 1)) 0).getD i 0)) (by dsimp only; omega) ⟨by dsimp only; omega, by dsimp only; rw [Math.fill_get (0 : Int) (0 : Int) (by rw [Math.pout_len]; omega), Math.sum_step (by rw [Math.pout_len]; omega), hlq]; omega⟩ ⟨rfl, rfl, rfl, rfl, rfl, rfl, rfl, rfl, trivial⟩ (fun _ h => h.pick [0, 0])
   ·
    replace c2 : ¬ (z.sum = 0) := c2
    have hv1 := Math.pout_at c2 (i := i) (by omega)
    have hv2 := Math.prest_at c2 (i := i) (by omega)
    have hxg : (((Math.pout z).take i ++ List.replicate (nz - i) 0).set i (60 * z.getD i 0 / z.sum)).getD i 0 = 60 * z.getD i 0 / z.sum := Math.set_get (by rw [List.length_append, List.length_take, List.length_replicate, Math.pout_len]; omega)
    refine hDraw (Ls := []) (by kernel_rfl) (sq 0 (sq 1 (sq 2 (sq 3 (sq 4 (sq 5 (sq 6 (sq 7 (sq 8 (sq 9 (sq 10 (sq 11 (sq 12 (sl 13 (sq 14 (sf 15 sz)))))))))))))))) (by kernel_rfl) (.cons _ (.cons _ .slnil)) ?_
    refine mvS rfl rfl rfl ?_
    refine mvI rfl rfl rfl ?_
    refine mvS rfl rfl rfl ?_
    refine mvI rfl rfl rfl ?_
    refine mvI rfl rfl rfl ?_
    refine mul rfl rfl rfl rfl (by omega) ?_
    refine mvI rfl rfl rfl ?_
    refine quo rfl rfl rfl rfl (by omega) ?_
    refine mvI rfl rfl rfl ?_
    refine mul rfl rfl rfl rfl (by omega) ?_
    refine mvI rfl rfl rfl ?_
    refine rem rfl rfl rfl rfl (by omega) ?_
    refine oxI (zn := i) 1 rfl el50 rfl rfl rfl rfl (by omega) (by omega) rfl ?_
    intro gk5 hgk5
    refine stoI (off := i) (x := (((60 * (z.getD i 0))) / z.sum)) 1 rfl hgk5 Tryd.sizeOf2 (fun _ h => h.pick []) rfl rfl rfl rfl (by omega) ?_
    refine oxI (zn := i) 0 rfl el50 rfl rfl rfl rfl (by omega) (by omega) rfl ?_
    intro gk6 hgk6
    refine stoIF (off := i) (x := (((60 * (z.getD i 0))) % z.sum)) 0 rfl hgk6 Tryd.sizeOf2 rfl rfl rfl rfl (by omega) ?_
    refine rNil ?_
    refine qSeq rfl ?_
    refine hReg (sq 0 (sq 1 (sq 2 (sq 3 (sl 4 (sq 5 (sq 6 sz))))))) (by kernel_rfl) ?_
    refine mvI rfl rfl rfl ?_
    refine mvS rfl rfl rfl ?_
    refine mvI rfl rfl rfl ?_
    refine ixIl (zn := i) el50 ((Kn.at_ 1 rfl).imp fun _ h => OwnI.rd h) rfl rfl rfl rfl (by omega) (by omega) rfl ?_
    intro ae7 e7
    refine ldl Tryd.isAgg2 (e7) trv rfl rfl rfl ?_
    refine sub rfl rfl rfl rfl (by omega) ?_
    refine asI rfl rfl rfl ?_
    refine rNil ?_
    refine qSeq rfl ?_
    refine hReg (sq 0 (sq 1 sz)) (by kernel_rfl) ?_
    refine add rfl rfl rfl rfl (by omega) ?_
    refine mvI rfl rfl rfl ?_
    refine rNil ?_
    rw [← hv1, ← hv2, Math.fill_step 0 0 (show (Math.pout z).length = nz by rw [Math.pout_len]; exact lz) (by omega), Math.fill_step 0 0 (show (Math.prest z).length = nz by rw [Math.prest_len]; exact lz) (by omega)]
    exact qNext rfl ((i + 1, l - ((Math.pout z).take (i + 1) ++ List.replicate (nz - (i + 1)) 0).getD i 0)) (by dsimp only; omega) ⟨by dsimp only; omega, by dsimp only; rw [Math.fill_get (0 : Int) (0 : Int) (by rw [Math.pout_len]; omega), Math.sum_step (by rw [Math.pout_len]; omega), hlq]; omega⟩ ⟨rfl, rfl, rfl, rfl, rfl, rfl, rfl, rfl, trivial⟩ (fun _ h => h.pick [0, 0])
  ·
   replace c1 : ¬ ((i : Int) < (nz : Int)) := c1
   rw [Math.fill_end 0 (show (Math.pout z).length = nz by rw [Math.pout_len]; exact lz) (by omega)]
   rw [Math.fill_end 0 (show (Math.prest z).length = nz by rw [Math.prest_len]; exact lz) (by omega)]
   refine hExit rfl ?_
   refine qSeq rfl ?_
   refine hSeq ?_
   refine hBlk ?_
   refine hLoop (α := Int × List Int × List Int) (fun x => Math.rounds x.1.toNat (x.2.1, x.2.2) = Math.rounds (60 - (Math.pout z).sum).toNat (Math.pout z, Math.prest z) ∧ (x.2.1.length = nz ∧ x.2.2.length = nz) ∧ (x.1 ≤ 60 ∧ ∀ u ∈ x.2.1, 0 ≤ u ∧ u + x.1 ≤ 120)) (fun x => x.1.toNat) (fun x => [OwnI 2 (some ⟨bkm2, 0, none⟩) nz nz x.2.2, OwnI 2 (some ⟨bkm1, 0, none⟩) nz nz x.2.1]) (fun x => [(4, .slice (some ⟨bkm1, 0, none⟩) nz nz), (5, .slice (some ⟨bkm2, 0, none⟩) nz nz), (6, .int .i64 x.1)]) (l, Math.pout z, Math.prest z) (⟨by dsimp only; rw [hlq, List.take_of_length_le (by rw [Math.pout_len]; omega)], ⟨by dsimp only; rw [Math.pout_len]; omega, by dsimp only; rw [Math.prest_len]; omega⟩, by dsimp only; rw [List.take_of_length_le (by rw [Math.pout_len]; omega)] at hlq; omega, fun u hu => by have := Math.pout_bd hb u hu; rw [List.take_of_length_le (by rw [Math.pout_len]; omega)] at hlq; dsimp only; omega⟩) (fun _ h => h.pick [0, 0]) ⟨rfl, rfl, rfl, trivial⟩ ?_
   rintro ⟨m, o, r⟩ τ2 ⟨hro, ⟨hol, hrl⟩, hm60, hob⟩
   dsimp only at hro hol hrl hm60 hob
   refine hRe [(4, .slice (some ⟨bkm1, 0, none⟩) nz nz), (5, .slice (some ⟨bkm2, 0, none⟩) nz nz), (6, .int .i64 m)] [OwnI 2 (some ⟨bkm2, 0, none⟩) nz nz r, OwnI 2 (some ⟨bkm1, 0, none⟩) nz nz o] rfl rfl ?_
   have hix := Math.index_best (r := r) (by omega)
   have hbl := Math.best_lt (r := r) (by omega)
   have hob2 := hob _ (Math.getD_mem 0 (show Math.best r < o.length by omega))
   have hit : (Math.indexOf r (r.getD (Math.best r) 0)).toNat = Math.best r := by rw [hix, Int.toNat_natCast]
   have hob3 := hob2
   rw [← hit] at hob3
   refine hSeq ?_
   refine hSeq ?_
   refine hReg (sq 0 (sq 1 sz)) (by kernel_rfl) ?_
   refine mvI rfl rfl rfl ?_
   refine gtr rfl rfl rfl rfl ?_
   refine rNil ?_
   refine qSeq rfl ?_
   refine hIfD rfl (fun c3 => ?_) (fun c3 => ?_)
   ·
    replace c3 : 0 < m := c3
    refine hSkip ?_
    refine qSeq rfl ?_
    refine hSeq ?_
    refine hBlk ?_
    refine hSeq ?_
    refine hReg (sq 0 (sq 1 (sl 2 (sl 3 (sq 4 sz))))) (by kernel_rfl) ?_
    refine mvS rfl rfl rfl ?_
    refine mvS rfl rfl rfl ?_
    refine callP (v := .int .i64 ((r.getD (Math.best r) 0))) Tryd.call61 trv rfl rfl (fun w hs => slices_Max_int64_int64_c _ _ _ _ w (OwnI.rd (hs.at_ 0 rfl)) (by omega)) ?_
    refine callP (v := .int .i64 ((Math.indexOf r ((r.getD (Math.best r) 0))))) Tryd.call60 trv rfl rfl (fun w hs => slices_Index_int64_int64_c _ _ _ _ _ w (OwnI.rd (hs.at_ 0 rfl))) ?_
    refine asI rfl rfl rfl ?_
    refine rNil ?_
    refine qSeq rfl ?_
    refine hSeq ?_
    refine hReg (sq 0 (sq 1 (sq 2 (sl 3 (sq 4 (sq 5 (sl 6 sz))))))) (by kernel_rfl) ?_
    refine mvS rfl rfl rfl ?_
    refine mvI rfl rfl rfl ?_
    refine ixIl (zn := ((Math.indexOf r ((r.getD (Math.best r) 0)))).toNat) el50 ((Kn.at_ 1 rfl).imp fun _ h => OwnI.rd h) rfl rfl rfl rfl (by omega) (by omega) rfl ?_
    intro ae8 e8
    refine ldl Tryd.isAgg2 (e8) trv rfl rfl rfl ?_
    refine add rfl rfl rfl rfl (by omega) ?_
    refine oxI (zn := ((Math.indexOf r ((r.getD (Math.best r) 0)))).toNat) 1 rfl el50 rfl rfl rfl rfl (by omega) (by omega) rfl ?_
    intro gk9 hgk9
    refine stoI (off := ((Math.indexOf r ((r.getD (Math.best r) 0)))).toNat) (x := ((o.getD (((Math.indexOf r ((r.getD (Math.best r) 0)))).toNat) 0) + 1)) 1 rfl hgk9 Tryd.sizeOf2 trv rfl rfl rfl rfl (by omega) ?_
    refine rNil ?_
    refine qSeq rfl ?_
    refine hReg (sq 0 (sq 1 (sq 2 (sl 3 sz)))) (by kernel_rfl) ?_
    refine mvS rfl rfl rfl ?_
    refine mvI rfl rfl rfl ?_
    refine oxI (zn := ((Math.indexOf r ((r.getD (Math.best r) 0)))).toNat) 0 rfl el50 rfl rfl rfl rfl (by omega) (by omega) rfl ?_
    intro gk10 hgk10
    refine stoI (off := ((Math.indexOf r ((r.getD (Math.best r) 0)))).toNat) (x := (-1)) 0 rfl hgk10 Tryd.sizeOf2 trv rfl rfl rfl rfl (by omega) ?_
    refine rNil ?_
    refine qSeq rfl ?_
    refine hReg (sq 0 (sq 1 (sq 2 sz))) (by kernel_rfl) ?_
    refine mvI rfl rfl rfl ?_
    refine sub rfl rfl rfl rfl (by omega) ?_
    refine asI rfl rfl rfl ?_
    refine rNil ?_
    rw [hit]
    exact qNext rfl ((m - 1, o.set (Math.best r) (o.getD (Math.best r) 0 + 1), r.set (Math.best r) (-1))) (by dsimp only; omega) (⟨by dsimp only; rw [← Math.rounds_step (by omega)]; exact hro, ⟨by dsimp only; rw [List.length_set]; exact hol, by dsimp only; rw [List.length_set]; exact hrl⟩, by dsimp only; omega, by dsimp only; exact Math.bd_set hob ⟨by omega, by omega⟩⟩) ⟨rfl, rfl, rfl, trivial⟩ (fun _ h => h.pick [0, 0])
   ·
    replace c3 : ¬ (0 < m) := c3
    refine hExit rfl ?_
    refine qSeq rfl ?_
    refine hSeq ?_
    refine hReg (sq 0 (sq 1 sz)) (by kernel_rfl) ?_
    refine mvS rfl rfl rfl ?_
    refine asS rfl rfl rfl ?_
    refine rNil ?_
    refine qSeq rfl ?_
    refine hRet ?_
    exact fun w hs => ⟨[.slice (some ⟨bkm1, 0, none⟩) nz nz], ⟨rfl, trivial⟩, ⟨((some ⟨bkm1, 0, none⟩), nz, nz, o), rfl, by unfold Math.partsOf; rw [← hro, Math.rounds_end (by omega)], hs.pick [1]⟩⟩
 ·
  refine mksI nz mk50 (fun _ _ h => h.pick []) rfl rfl rfl rfl (rfl) (by omega) (fun bkm3 hbkm3 => ?_)
  refine mksI nz mk50 (fun _ _ h => h.pick []) rfl rfl rfl rfl (rfl) (by omega) (fun bkm4 hbkm4 => ?_)
  refine asS rfl rfl rfl ?_
  refine asS rfl rfl rfl ?_
  refine rNil ?_
  refine qSeq rfl ?_
  refine hSeq ?_
  refine hReg (sq 0 sz) (by kernel_rfl) ?_
  refine asI rfl rfl rfl ?_
  refine rNil ?_
  refine qSeq rfl ?_
  refine hSeq ?_
  refine hSeq ?_
  refine hReg (sq 0 (sq 1 (sq 2 sz))) (by kernel_rfl) ?_
  refine mvS rfl rfl rfl ?_
  refine lenS Tryd.runUnderlying50 rfl rfl rfl ?_
  refine mvI rfl rfl rfl ?_
  refine rNil ?_
  refine qSeq rfl ?_
  refine hBlk ?_
  refine hLoop (α := Nat × Int) (fun x => x.1 ≤ nz ∧ x.2 = 60 - ((Math.pout z).take x.1).sum) (fun x => nz - x.1) (fun x => [OwnI 2 (some ⟨bkm4, 0, none⟩) nz nz (((Math.pout z).take x.1 ++ List.replicate (nz - x.1) 0)), OwnI 2 (some ⟨bkm3, 0, none⟩) nz nz (((Math.prest z).take x.1 ++ List.replicate (nz - x.1) 0))]) (fun x => [(0, .slice az nz cz), (3, .int .i64 z.sum), (4, .slice (some ⟨bkm4, 0, none⟩) nz nz), (5, .slice (some ⟨bkm3, 0, none⟩) nz nz), (6, .int .i64 x.2), (18, .slice az nz cz), (19, .int .i64 (nz : Int)), (20, .int .i64 (x.1 : Int))]) (0, 60) ⟨Nat.zero_le _, rfl⟩ (fun _ h => (by simp only [List.take_zero, List.nil_append, Nat.sub_zero]; exact h.pick [0, 0])) ⟨rfl, rfl, rfl, rfl, rfl, rfl, rfl, rfl, trivial⟩ ?_
  rintro ⟨i, l⟩ τ3 ⟨hi, hlq⟩
  dsimp only at hi hlq
  refine hRe [(0, .slice az nz cz), (3, .int .i64 z.sum), (4, .slice (some ⟨bkm4, 0, none⟩) nz nz), (5, .slice (some ⟨bkm3, 0, none⟩) nz nz), (6, .int .i64 l), (18, .slice az nz cz), (19, .int .i64 (nz : Int)), (20, .int .i64 (i : Int))] [OwnI 2 (some ⟨bkm4, 0, none⟩) nz nz (((Math.pout z).take i ++ List.replicate (nz - i) 0)), OwnI 2 (some ⟨bkm3, 0, none⟩) nz nz (((Math.prest z).take i ++ List.replicate (nz - i) 0))] rfl rfl ?_
  refine hSeq ?_
  refine hReg (sq 0 sz) (by kernel_rfl) ?_
  refine lss rfl rfl rfl rfl ?_
  refine rNil ?_
  refine qSeq rfl ?_
  refine hSeq ?_
  refine hIfD rfl (fun c4 => ?_) (fun c4 => ?_)
  ·
   replace c4 : (i : Int) < (nz : Int) := c4
   have hzi := hb _ (Math.getD_mem 0 (show i < z.length by omega))
   have hpt := Math.pout_take hb (show i ≤ z.length by omega)
   have hpi := Math.pout_bd hb _ (Math.getD_mem 0 (show i < (Math.pout z).length by rw [Math.pout_len]; omega))
   refine hSkip ?_
   refine qSeq rfl ?_
   refine hSeq ?_
   refine hBlk ?_
   refine hSeq ?_
   refine hReg (sq 0 (sq 1 (sl 2 (sq 3 (sq 4 sz))))) (by kernel_rfl) ?_
   refine mvI rfl rfl rfl ?_
   refine ixIl (zn := i) el50 (Kn.drop (k := 2) kz) rfl rfl rfl rfl (by omega) (by omega) rfl ?_
   intro ae11 e11
   refine ldl Tryd.isAgg2 (e11) trv rfl rfl rfl ?_
   refine asI rfl rfl rfl ?_
   refine asI rfl rfl rfl ?_
   refine rNil ?_
   refine qSeq rfl ?_
   refine hSeq ?_
   refine hSeq ?_
   refine hReg (sq 0 (sq 1 sz)) (by kernel_rfl) ?_
   refine mvI rfl rfl rfl ?_
   refine eql rfl rfl rfl rfl ?_
   refine rNil ?_
   refine qSeq rfl ?_
   refine hIfD rfl (fun c5 => ?_) (fun c5 => ?_)
   ·
    replace c5 : z.sum = 0 := c5
    have hv1 := Math.pout_at0 lz c5 (i := i) (by omega)
    have hv2 := Math.prest_at0 lz c5 (i := i) (by omega)
    have hxg : (((Math.pout z).take i ++ List.replicate (nz - i) 0).set i (60 / (nz : Int))).getD i 0 = 60 / (nz : Int) := Math.set_get (by rw [List.length_append, List.length_take, List.length_replicate, Math.pout_len]; omega)
    refine hDraw (Ls := []) (by kernel_rfl) (sq 0 (sq 1 (sq 2 (sq 3 (sq 4 (sq 5 (sq 6 (sq 7 (sq 8 (sq 9 (sq 10 (sl 11 (sq 12 (sf 13 sz)))))))))))))) (by kernel_rfl) (.cons _ (.cons _ .slnil)) ?_
    refine mvS rfl rfl rfl ?_
    refine mvI rfl rfl rfl ?_
    refine mvS rfl rfl rfl ?_
    refine mvI rfl rfl rfl ?_
    refine mvS rfl rfl rfl ?_
    refine lenS Tryd.runUnderlying50 rfl rfl rfl ?_
    refine quo rfl rfl rfl rfl (by omega) ?_
    refine mvS rfl rfl rfl ?_
    refine lenS Tryd.runUnderlying50 rfl rfl rfl ?_
    refine rem rfl rfl rfl rfl (by omega) ?_
    refine oxI (zn := i) 0 rfl el50 rfl rfl rfl rfl (by omega) (by omega) rfl ?_
    intro gk12 hgk12
    refine stoI (off := i) (x := (60 / (nz : Int))) 0 rfl hgk12 Tryd.sizeOf2 (fun _ h => h.pick []) rfl rfl rfl rfl (by omega) ?_
    refine oxI (zn := i) 1 rfl el50 rfl rfl rfl rfl (by omega) (by omega) rfl ?_
    intro gk13 hgk13
    refine stoIF (off := i) (x := (60 % (nz : Int))) 1 rfl hgk13 Tryd.sizeOf2 rfl rfl rfl rfl (by omega) ?_
    refine rNil ?_
    refine qSeq rfl ?_
    refine hReg (sq 0 (sq 1 (sq 2 (sq 3 (sl 4 (sq 5 (sq 6 sz))))))) (by kernel_rfl) ?_
    refine mvI rfl rfl rfl ?_
    refine mvS rfl rfl rfl ?_
    refine mvI rfl rfl rfl ?_
    refine ixIl (zn := i) el50 ((Kn.at_ 0 rfl).imp fun _ h => OwnI.rd h) rfl rfl rfl rfl (by omega) (by omega) rfl ?_
    intro ae14 e14
    refine ldl Tryd.isAgg2 (e14) trv rfl rfl rfl ?_
    refine sub rfl rfl rfl rfl (by omega) ?_
    refine asI rfl rfl rfl ?_
    refine rNil ?_
    refine qSeq rfl ?_
    refine hReg (sq 0 (sq 1 sz)) (by kernel_rfl) ?_
    refine add rfl rfl rfl rfl (by omega) ?_
    refine mvI rfl rfl rfl ?_
    refine rNil ?_
    rw [← hv1, ← hv2, Math.fill_step 0 0 (show (Math.pout z).length = nz by rw [Math.pout_len]; exact lz) (by omega), Math.fill_step 0 0 (show (Math.prest z).length = nz by rw [Math.prest_len]; exact lz) (by omega)]
    exact qNext rfl ((i + 1, l - ((Math.pout z).take (i + 1) ++ List.replicate (nz - (i + 1)) 0).getD i 0)) (by dsimp only; omega) ⟨by dsimp only; omega, by dsimp only; rw [Math.fill_get (0 : Int) (0 : Int) (by rw [Math.pout_len]; omega), Math.sum_step (by rw [Math.pout_len]; omega), hlq]; omega⟩ ⟨rfl, rfl, rfl, rfl, rfl, rfl, rfl, rfl, trivial⟩ (fun _ h => h.pick [0, 0])
   ·
    replace c5 : ¬ (z.sum = 0) := c5
    have hv1 := Math.pout_at c5 (i := i) (by omega)
    have hv2 := Math.prest_at c5 (i := i) (by omega)
    have hxg : (((Math.pout z).take i ++ List.replicate (nz - i) 0).set i (60 * z.getD i 0 / z.sum)).getD i 0 = 60 * z.getD i 0 / z.sum := Math.set_get (by rw [List.length_append, List.length_take, List.length_replicate, Math.pout_len]; omega)
    refine hDraw (Ls := []) (by kernel_rfl) (sq 0 (sq 1 (sq 2 (sq 3 (sq 4 (sq 5 (sq 6 (sq 7 (sq 8 (sq 9 (sq 10 (sq 11 (sq 12 (sl 13 (sq 14 (sf 15 sz)))))))))))))))) (by kernel_rfl) (.cons _ (.cons _ .slnil)) ?_
    refine mvS rfl rfl rfl ?_
    refine mvI rfl rfl rfl ?_
    refine mvS rfl rfl rfl ?_
    refine mvI rfl rfl rfl ?_
    refine mvI rfl rfl rfl ?_
    refine mul rfl rfl rfl rfl (by omega) ?_
    refine mvI rfl rfl rfl ?_
    refine quo rfl rfl rfl rfl (by omega) ?_
    refine mvI rfl rfl rfl ?_
    refine mul rfl rfl rfl rfl (by omega) ?_
    refine mvI rfl rfl rfl ?_
    refine rem rfl rfl rfl rfl (by omega) ?_
    refine oxI (zn := i) 0 rfl el50 rfl rfl rfl rfl (by omega) (by omega) rfl ?_
    intro gk15 hgk15
    refine stoI (off := i) (x := (((60 * (z.getD i 0))) / z.sum)) 0 rfl hgk15 Tryd.sizeOf2 (fun _ h => h.pick []) rfl rfl rfl rfl (by omega) ?_
    refine oxI (zn := i) 1 rfl el50 rfl rfl rfl rfl (by omega) (by omega) rfl ?_
    intro gk16 hgk16
    refine stoIF (off := i) (x := (((60 * (z.getD i 0))) % z.sum)) 1 rfl hgk16 Tryd.sizeOf2 rfl rfl rfl rfl (by omega) ?_
    refine rNil ?_
    refine qSeq rfl ?_
    refine hReg (sq 0 (sq 1 (sq 2 (sq 3 (sl 4 (sq 5 (sq 6 sz))))))) (by kernel_rfl) ?_
    refine mvI rfl rfl rfl ?_
    refine mvS rfl rfl rfl ?_
    refine mvI rfl rfl rfl ?_
    refine ixIl (zn := i) el50 ((Kn.at_ 0 rfl).imp fun _ h => OwnI.rd h) rfl rfl rfl rfl (by omega) (by omega) rfl ?_
    intro ae17 e17
    refine ldl Tryd.isAgg2 (e17) trv rfl rfl rfl ?_
    refine sub rfl rfl rfl rfl (by omega) ?_
    refine asI rfl rfl rfl ?_
    refine rNil ?_
    refine qSeq rfl ?_
    refine hReg (sq 0 (sq 1 sz)) (by kernel_rfl) ?_
    refine add rfl rfl rfl rfl (by omega) ?_
    refine mvI rfl rfl rfl ?_
    refine rNil ?_
    rw [← hv1, ← hv2, Math.fill_step 0 0 (show (Math.pout z).length = nz by rw [Math.pout_len]; exact lz) (by omega), Math.fill_step 0 0 (show (Math.prest z).length = nz by rw [Math.prest_len]; exact lz) (by omega)]
    exact qNext rfl ((i + 1, l - ((Math.pout z).take (i + 1) ++ List.replicate (nz - (i + 1)) 0).getD i 0)) (by dsimp only; omega) ⟨by dsimp only; omega, by dsimp only; rw [Math.fill_get (0 : Int) (0 : Int) (by rw [Math.pout_len]; omega), Math.sum_step (by rw [Math.pout_len]; omega), hlq]; omega⟩ ⟨rfl, rfl, rfl, rfl, rfl, rfl, rfl, rfl, trivial⟩ (fun _ h => h.pick [0, 0])
  ·
   replace c4 : ¬ ((i : Int) < (nz : Int)) := c4
   rw [Math.fill_end 0 (show (Math.pout z).length = nz by rw [Math.pout_len]; exact lz) (by omega)]
   rw [Math.fill_end 0 (show (Math.prest z).length = nz by rw [Math.prest_len]; exact lz) (by omega)]
   refine hExit rfl ?_
   refine qSeq rfl ?_
   refine hSeq ?_
   refine hBlk ?_
   refine hLoop (α := Int × List Int × List Int) (fun x => Math.rounds x.1.toNat (x.2.1, x.2.2) = Math.rounds (60 - (Math.pout z).sum).toNat (Math.pout z, Math.prest z) ∧ (x.2.1.length = nz ∧ x.2.2.length = nz) ∧ (x.1 ≤ 60 ∧ ∀ u ∈ x.2.1, 0 ≤ u ∧ u + x.1 ≤ 120)) (fun x => x.1.toNat) (fun x => [OwnI 2 (some ⟨bkm4, 0, none⟩) nz nz x.2.1, OwnI 2 (some ⟨bkm3, 0, none⟩) nz nz x.2.2]) (fun x => [(4, .slice (some ⟨bkm4, 0, none⟩) nz nz), (5, .slice (some ⟨bkm3, 0, none⟩) nz nz), (6, .int .i64 x.1)]) (l, Math.pout z, Math.prest z) (⟨by dsimp only; rw [hlq, List.take_of_length_le (by rw [Math.pout_len]; omega)], ⟨by dsimp only; rw [Math.pout_len]; omega, by dsimp only; rw [Math.prest_len]; omega⟩, by dsimp only; rw [List.take_of_length_le (by rw [Math.pout_len]; omega)] at hlq; omega, fun u hu => by have := Math.pout_bd hb u hu; rw [List.take_of_length_le (by rw [Math.pout_len]; omega)] at hlq; dsimp only; omega⟩) (fun _ h => h.pick [0, 0]) ⟨rfl, rfl, rfl, trivial⟩ ?_
   rintro ⟨m, o, r⟩ τ4 ⟨hro, ⟨hol, hrl⟩, hm60, hob⟩
   dsimp only at hro hol hrl hm60 hob
   refine hRe [(4, .slice (some ⟨bkm4, 0, none⟩) nz nz), (5, .slice (some ⟨bkm3, 0, none⟩) nz nz), (6, .int .i64 m)] [OwnI 2 (some ⟨bkm4, 0, none⟩) nz nz o, OwnI 2 (some ⟨bkm3, 0, none⟩) nz nz r] rfl rfl ?_
   have hix := Math.index_best (r := r) (by omega)
   have hbl := Math.best_lt (r := r) (by omega)
   have hob2 := hob _ (Math.getD_mem 0 (show Math.best r < o.length by omega))
   have hit : (Math.indexOf r (r.getD (Math.best r) 0)).toNat = Math.best r := by rw [hix, Int.toNat_natCast]
   have hob3 := hob2
   rw [← hit] at hob3
   refine hSeq ?_
   refine hSeq ?_
   refine hReg (sq 0 (sq 1 sz)) (by kernel_rfl) ?_
   refine mvI rfl rfl rfl ?_
   refine gtr rfl rfl rfl rfl ?_
   refine rNil ?_
   refine qSeq rfl ?_
   refine hIfD rfl (fun c6 => ?_) (fun c6 => ?_)
   ·
    replace c6 : 0 < m := c6
    refine hSkip ?_
    refine qSeq rfl ?_
    refine hSeq ?_
    refine hBlk ?_
    refine hSeq ?_
    refine hReg (sq 0 (sq 1 (sl 2 (sl 3 (sq 4 sz))))) (by kernel_rfl) ?_
    refine mvS rfl rfl rfl ?_
    refine mvS rfl rfl rfl ?_
    refine callP (v := .int .i64 ((r.getD (Math.best r) 0))) Tryd.call61 trv rfl rfl (fun w hs => slices_Max_int64_int64_c _ _ _ _ w (OwnI.rd (hs.at_ 1 rfl)) (by omega)) ?_
    refine callP (v := .int .i64 ((Math.indexOf r ((r.getD (Math.best r) 0))))) Tryd.call60 trv rfl rfl (fun w hs => slices_Index_int64_int64_c _ _ _ _ _ w (OwnI.rd (hs.at_ 1 rfl))) ?_
    refine asI rfl rfl rfl ?_
    refine rNil ?_
    refine qSeq rfl ?_
    refine hSeq ?_
    refine hReg (sq 0 (sq 1 (sq 2 (sl 3 (sq 4 (sq 5 (sl 6 sz))))))) (by kernel_rfl) ?_
    refine mvS rfl rfl rfl ?_
    refine mvI rfl rfl rfl ?_
    refine ixIl (zn := ((Math.indexOf r ((r.getD (Math.best r) 0)))).toNat) el50 ((Kn.at_ 0 rfl).imp fun _ h => OwnI.rd h) rfl rfl rfl rfl (by omega) (by omega) rfl ?_
    intro ae18 e18
    refine ldl Tryd.isAgg2 (e18) trv rfl rfl rfl ?_
    refine add rfl rfl rfl rfl (by omega) ?_
    refine oxI (zn := ((Math.indexOf r ((r.getD (Math.best r) 0)))).toNat) 0 rfl el50 rfl rfl rfl rfl (by omega) (by omega) rfl ?_
    intro gk19 hgk19
    refine stoI (off := ((Math.indexOf r ((r.getD (Math.best r) 0)))).toNat) (x := ((o.getD (((Math.indexOf r ((r.getD (Math.best r) 0)))).toNat) 0) + 1)) 0 rfl hgk19 Tryd.sizeOf2 trv rfl rfl rfl rfl (by omega) ?_
    refine rNil ?_
    refine qSeq rfl ?_
    refine hReg (sq 0 (sq 1 (sq 2 (sl 3 sz)))) (by kernel_rfl) ?_
    refine mvS rfl rfl rfl ?_
    refine mvI rfl rfl rfl ?_
    refine oxI (zn := ((Math.indexOf r ((r.getD (Math.best r) 0)))).toNat) 1 rfl el50 rfl rfl rfl rfl (by omega) (by omega) rfl ?_
    intro gk20 hgk20
    refine stoI (off := ((Math.indexOf r ((r.getD (Math.best r) 0)))).toNat) (x := (-1)) 1 rfl hgk20 Tryd.sizeOf2 trv rfl rfl rfl rfl (by omega) ?_
    refine rNil ?_
    refine qSeq rfl ?_
    refine hReg (sq 0 (sq 1 (sq 2 sz))) (by kernel_rfl) ?_
    refine mvI rfl rfl rfl ?_
    refine sub rfl rfl rfl rfl (by omega) ?_
    refine asI rfl rfl rfl ?_
    refine rNil ?_
    rw [hit]
    exact qNext rfl ((m - 1, o.set (Math.best r) (o.getD (Math.best r) 0 + 1), r.set (Math.best r) (-1))) (by dsimp only; omega) (⟨by dsimp only; rw [← Math.rounds_step (by omega)]; exact hro, ⟨by dsimp only; rw [List.length_set]; exact hol, by dsimp only; rw [List.length_set]; exact hrl⟩, by dsimp only; omega, by dsimp only; exact Math.bd_set hob ⟨by omega, by omega⟩⟩) ⟨rfl, rfl, rfl, trivial⟩ (fun _ h => h.pick [0, 0])
   ·
    replace c6 : ¬ (0 < m) := c6
    refine hExit rfl ?_
    refine qSeq rfl ?_
    refine hSeq ?_
    refine hReg (sq 0 (sq 1 sz)) (by kernel_rfl) ?_
    refine mvS rfl rfl rfl ?_
    refine asS rfl rfl rfl ?_
    refine rNil ?_
    refine qSeq rfl ?_
    refine hRet ?_
    exact fun w hs => ⟨[.slice (some ⟨bkm4, 0, none⟩) nz nz], ⟨rfl, trivial⟩, ⟨((some ⟨bkm4, 0, none⟩), nz, nz, o), rfl, by unfold Math.partsOf; rw [← hro, Math.rounds_end (by omega)], hs.pick [0]⟩⟩
end Go.Proofs.YtjengglpbdgmnaaDoor
/- Contracts of the marks that the laws lay. Their conditions stand in each. -/
namespace Go.Proofs.YtjengglpbdgmnaaDoor
open Go Go.RowKit V
set_option linter.unusedVariables false
set_option linter.unusedSimpArgs false
set_option maxRecDepth 100000
end Go.Proofs.YtjengglpbdgmnaaDoor
/- Contracts of strategies that are made. Their conditions stand in each. -/
namespace Go.Proofs.YtjengglpbdgmnaaDoor
open Go Go.RowKit V
set_option linter.unusedVariables false
set_option linter.unusedSimpArgs false
set_option maxRecDepth 100000
end Go.Proofs.YtjengglpbdgmnaaDoor
/- Contracts of pure strategies. Their conditions stand in each. -/
namespace Go.Proofs.YtjengglpbdgmnaaDoor
open Go Go.RowKit V
set_option linter.unusedVariables false
set_option linter.unusedSimpArgs false
set_option maxRecDepth 100000
end Go.Proofs.YtjengglpbdgmnaaDoor
