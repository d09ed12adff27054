/- Plain facts: mirrored games are games; what they pay; mirrored twice. No condition. -/
import Derived.Test.YtjengglpbdgmnaaMirrMi
namespace Go.Proofs.Ytjengglpbdgmnaa.Math
open Go.Proofs.Ytjengglpbdgmnaa.V
set_option linter.unusedVariables false
set_option linter.unusedSimpArgs false
theorem swap_swap (n : Int) : swap (swap n) = n := by
  unfold swap; by_cases h : n = 0 ∨ n = 1
  · rw [if_pos h, if_pos (by omega)]; omega
  · rw [if_neg h, if_neg h]
theorem swap_2 {n : Int} : swap n = 2 ↔ n = 2 := by unfold swap; split <;> omega
theorem swap_m {n : Int} : swap n = -1 ↔ n = -1 := by unfold swap; split <;> omega
theorem swap_in {n : Int} (h : -1 ≤ n ∧ n ≤ 1) : -1 ≤ swap n ∧ swap n ≤ 1 := by unfold swap; split <;> omega
theorem swap_in2 {n : Int} (h : 0 ≤ n ∧ n ≤ 2) : 0 ≤ swap n ∧ swap n ≤ 2 := by unfold swap; split <;> omega
theorem mirN_mirN (x : Nd) : mirN (mirN x) = x := by unfold mirN; simp only [swap_swap]
theorem mir_nodes (z : List Nd) : (z.map mirN).map mirN = z := by
  rw [List.map_map]
  conv => rhs; rw [← List.map_id z]
  exact List.map_congr_left fun x _ => mirN_mirN x
theorem mir_at (z : List Nd) {i : Nat} (h : i < z.length) : (z.map mirN).getD i dN = mirN (z.getD i dN) := by simp [List.getD, List.getElem?_eq_getElem h]
theorem mir_pl (z : List Nd) (i : Nat) : ((z.map mirN).getD i dN).pl = 2 ↔ (z.getD i dN).pl = 2 := by
  by_cases h : i < z.length
  · rw [mir_at z h]; exact swap_2
  · rw [List.getD_eq_getElem?_getD, List.getD_eq_getElem?_getD, List.getElem?_eq_none (by rw [List.length_map]; omega), List.getElem?_eq_none (by omega)]
theorem mir_ch (z : List Nd) (i : Nat) : ((z.map mirN).getD i dN).ch = (z.getD i dN).ch := by
  by_cases h : i < z.length
  · rw [mir_at z h]; rfl
  · rw [List.getD_eq_getElem?_getD, List.getD_eq_getElem?_getD, List.getElem?_eq_none (by rw [List.length_map]; omega), List.getElem?_eq_none (by omega)]
theorem okB_mir {n i : Nat} {x : Nd} (h : okB n i x = true) : okB n i (mirN x) = true := by
  have hp := ok_pl h
  simp only [okB, Bool.and_eq_true, inB, decide_eq_true_eq] at h ⊢
  obtain ⟨h1, h2, h3, h4⟩ := h
  refine ⟨swap_in2 h1, h3, h2, ?_⟩
  by_cases he : x.pl = 2
  · have he' : (mirN x).pl = 2 := swap_2.2 he
    simp only [he, he', decide_true, cond_true, Bool.and_eq_true, decide_eq_true_eq, Bool.or_eq_true, ne_eq] at h4 ⊢
    refine ⟨h4.1, swap_in h4.2.1, ?_⟩
    rcases h4.2.2 with h | h
    · exact .inl fun h' => h (swap_m.1 h')
    · exact .inr h.symm
  · have he' : ¬ (mirN x).pl = 2 := fun h' => he (swap_2.1 h')
    simp only [he, he', decide_false, cond_false, Bool.and_eq_true, decide_eq_true_eq] at h4 ⊢
    exact ⟨swap_m.2 h4.1, h4.2⟩
theorem allOk_mir {z : List Nd} (h : allOk z = true) : allOk (z.map mirN) = true := allOk_iff.2 fun i hi => by
  rw [List.length_map] at hi ⊢
  rw [mir_at z hi]
  exact okB_mir (allOk_iff.1 h i hi)
theorem kids_mir (z : List Nd) : kids (z.map mirN) = kids z := by
  unfold kids; rw [List.flatMap_map]; rfl
theorem oneEach_mir (z : List Nd) : oneEach (z.map mirN) = oneEach z := by unfold oneEach; rw [kids_mir, List.length_map]
theorem depthF_mir (z : List Nd) : ∀ k i, depthF (z.map mirN) k i = depthF z k i
  | 0, _ => rfl
  | k + 1, i => by
    simp only [depthF]
    by_cases h : (z.getD i dN).pl = 2
    · rw [if_pos h, if_pos ((mir_pl z i).2 h)]
    · rw [if_neg h, if_neg fun h' => h ((mir_pl z i).1 h'), mir_ch]
      congr 1
      exact foldl_congr (fun m c _ => by rw [depthF_mir z k]) 0
theorem depth_mir (z : List Nd) (i : Nat) : depth (z.map mirN) i = depth z i := by unfold depth; rw [List.length_map]; exact depthF_mir z _ _
theorem isTree_mir {z : List Nd} (h : isTree z = true) : isTree (z.map mirN) = true := by
  have hT := isTree_ok h
  rw [isTree_yes (by rw [List.length_map]; exact hT.1) (allOk_mir hT.2.1) (by rw [oneEach_mir]; exact hT.2.2.1), depth_mir]
  exact decide_eq_true hT.2.2.2.2
theorem mirW_row (ws : List (List Int)) {k a : Nat} (h : a < k) : (mirWs ws k k).getD a [] = mapR (mirWc ws a) k := mapR_get (fun a => mapR (mirWc ws a) k) [] h
theorem mirV_row (vs : List (List Int)) {k a : Nat} (h : a < k) : (mirVs vs k k).getD a [] = mapR (mirVc vs a) k := mapR_get (fun a => mapR (mirVc vs a) k) [] h
theorem mirW_cell (ws : List (List Int)) {k a b : Nat} (h : a < k) (hb : b < k) : ((mirWs ws k k).getD a []).getD b 0 = (ws.getD b []).getD a 0 := by rw [mirW_row ws h, mapR_get _ 0 hb]; rfl
theorem mirV_cell (vs : List (List Int)) {k a b : Nat} (h : a < k) (hb : b < k) : ((mirVs vs k k).getD a []).getD b 0 = -(vs.getD b []).getD a 0 := by rw [mirV_row vs h, mapR_get _ 0 hb]; rfl
theorem mirV_mat {vs : List (List Int)} {k : Nat} (h : matB k (-1) 1 vs = true) : matB k (-1) 1 (mirVs vs k k) = true := by
  refine mat_yes (mapR_len _ _) fun a ha => ?_
  rw [mirV_row vs ha]
  refine row_yes (by rw [mapR_len]) (List.all_eq_true.2 fun x hx => ?_)
  obtain ⟨b, hb, rfl⟩ := mapR_mem hx
  have := row_at (mat_row h hb) ha
  unfold inB mirVc; exact decide_eq_true (by omega)
theorem isGame_mir {z : List Nd} {ws vs : List (List Int)} {k : Nat} (hk : ws.length = k) (h : isGame z ws vs = true) : isGame (z.map mirN) (mirWs ws k k) (mirVs vs k k) = true := by
  subst hk
  obtain ⟨h1, h2, h3, h4, h5⟩ := isGame_ok h
  have hl : (mirWs ws ws.length ws.length).length = ws.length := mapR_len _ _
  unfold isGame
  rw [isTree_mir h1, hl, mir_mat h3, mirV_mat h4, total_mir h3]
  simp only [Bool.true_and, Bool.and_eq_true, inB, decide_eq_true_eq]
  exact ⟨by omega, h5⟩
theorem getD_at {l : List Int} {j : Nat} (hj : j < l.length) : l[j] = l.getD j 0 := by simp [List.getD, List.getElem?_eq_getElem hj]
theorem mat_ext {ws us : List (List Int)} {k : Nat} (h1 : ws.length = k) (h2 : us.length = k) (hr : ∀ i, i < k → (ws.getD i []).length = k) (hs : ∀ i, i < k → (us.getD i []).length = k)
    (h : ∀ i j, i < k → j < k → (ws.getD i []).getD j 0 = (us.getD i []).getD j 0) : ws = us := by
  refine List.ext_getElem (by omega) fun i hi hi2 => ?_
  have e1 : ws.getD i [] = ws[i] := by simp [List.getD, List.getElem?_eq_getElem hi]
  have e2 : us.getD i [] = us[i] := by simp [List.getD, List.getElem?_eq_getElem hi2]
  rw [← e1, ← e2]
  have hi' : i < k := by omega
  have l1 := hr i hi'
  have l2 := hs i hi'
  refine List.ext_getElem (by omega) fun j hj hj2 => ?_
  rw [getD_at hj, getD_at hj2]; exact h i j hi' (by omega)
theorem mirW_mirW {ws : List (List Int)} {k : Nat} {lo hi : Int} (h : matB k lo hi ws = true) : mirWs (mirWs ws k k) k k = ws :=
  mat_ext (mapR_len _ _) (mat_len h) (fun i hi => by rw [mirW_row _ hi, mapR_len]) (fun i hi => row_len (mat_row h hi)) fun i j hi hj => by rw [mirW_cell _ hi hj, mirW_cell _ hj hi]
theorem mirV_mirV {vs : List (List Int)} {k : Nat} {lo hi : Int} (h : matB k lo hi vs = true) : mirVs (mirVs vs k k) k k = vs :=
  mat_ext (mapR_len _ _) (mat_len h) (fun i hi => by rw [mirV_row _ hi, mapR_len]) (fun i hi => row_len (mat_row h hi)) fun i j hi hj => by rw [mirV_cell _ hi hj, mirV_cell _ hj hi, Int.neg_neg]
theorem mirAt_ok {z : List Nd} {ws vs : List (List Int)} (h : (mirAt z ws vs).2 = 0) : isGame z ws vs = true := by
  by_cases hg : isGame z ws vs = true
  · exact hg
  · rw [mirAt_1 (by simpa using hg)] at h; cases h
theorem mirAt_iff (z : List Nd) (ws vs : List (List Int)) : isGame z ws vs = decide ((mirAt z ws vs).2 = 0) := by
  by_cases hg : isGame z ws vs = true
  · rw [hg, mirAt_0 rfl hg]; rfl
  · rw [mirAt_1 (by simpa using hg)]; simpa using hg
theorem mir_mir {z : List Nd} {ws vs : List (List Int)} (h : (mirAt z ws vs).2 = 0) : mirAt (mirAt z ws vs).1.1 (mirAt z ws vs).1.2.1 (mirAt z ws vs).1.2.2 = ((z, ws, vs), 0) := by
  have hg := mirAt_ok h
  obtain ⟨h1, h2, h3, h4, h5⟩ := isGame_ok hg
  rw [mirAt_0 rfl hg]
  dsimp only
  rw [mirAt_0 (k := ws.length) (show (mirWs ws ws.length ws.length).length = ws.length from mapR_len _ _) (isGame_mir rfl hg), mir_nodes, mirW_mirW h3, mirV_mirV h4]
theorem payoffX_mir (x : Nd) (w : Int) : payoffX (mirN x) (-w) = -payoffX x w := by
  have h0 : swap x.fo = 0 ↔ x.fo = 1 := by unfold swap; split <;> omega
  have h1 : swap x.fo = 1 ↔ x.fo = 0 := by unfold swap; split <;> omega
  show (if swap x.fo = 0 then -x.p1 else if swap x.fo = 1 then x.p0 else if -w = 1 then x.p0 else if -w = -1 then -x.p1 else 0) = -(if x.fo = 0 then -x.p0 else if x.fo = 1 then x.p1 else if w = 1 then x.p1 else if w = -1 then -x.p0 else 0)
  by_cases a : x.fo = 0
  · rw [if_neg (by rw [h0]; omega), if_pos (h1.2 a), if_pos a]; omega
  · by_cases b : x.fo = 1
    · rw [if_pos (h0.2 b), if_neg a, if_pos b]
    · rw [if_neg (by rw [h0]; exact b), if_neg (by rw [h1]; exact a), if_neg a, if_neg b]
      by_cases c : w = 1
      · rw [if_neg (by omega), if_pos (by omega), if_pos c]
      · by_cases d : w = -1
        · rw [if_pos (by omega), if_neg c, if_pos d]; omega
        · rw [if_neg (by omega), if_neg (by omega), if_neg c, if_neg d]; rfl
theorem payoff_mir {z : List Nd} {ws vs : List (List Int)} {u a b : Int} (h : (payoffOf z ws vs u a b).2 = 0) :
    (mirAt z ws vs).2 = 0 ∧ payoffOf (mirAt z ws vs).1.1 (mirAt z ws vs).1.2.1 (mirAt z ws vs).1.2.2 u b a = (-(payoffOf z ws vs u a b).1, 0) := by
  by_cases hg : isGame z ws vs = true
  · unfold payoffOf at h
    rw [if_pos hg] at h
    split at h
    · rename_i hr
      split at h
      · rename_i hp
        rw [mirAt_0 rfl hg]
        refine ⟨rfl, ?_⟩
        dsimp only
        have hu : u.toNat < z.length := by omega
        have hl : (mirWs ws ws.length ws.length).length = ws.length := mapR_len _ _
        unfold payoffOf
        rw [if_pos (isGame_mir rfl hg), if_pos hg, if_pos hr, if_pos (by rw [List.length_map, hl]; exact ⟨hr.1, hr.2.2, hr.2.1⟩), if_pos hp, if_pos (by rw [mir_at z hu]; exact swap_2.2 hp), mir_at z hu, mirV_cell vs (show b.toNat < ws.length by omega) (show a.toNat < ws.length by omega), payoffX_mir]
      · cases h
    · cases h
  · unfold payoffOf at h; rw [if_neg hg] at h; cases h
theorem payoffOf_bd (z : List Nd) (ws vs : List (List Int)) (u a b : Int) : -100 ≤ (payoffOf z ws vs u a b).1 ∧ (payoffOf z ws vs u a b).1 ≤ 100 := by
  unfold payoffOf
  split
  · rename_i hg
    split
    · split
      · have ho := ok_pl (allOk_iff.1 (isTree_ok (isGame_ok hg).1).2.1 u.toNat (by omega))
        unfold payoffX; dsimp only; (repeat' split) <;> omega
      · exact ⟨by decide, by decide⟩
    · exact ⟨by decide, by decide⟩
  · exact ⟨by decide, by decide⟩
end Go.Proofs.Ytjengglpbdgmnaa.Math
