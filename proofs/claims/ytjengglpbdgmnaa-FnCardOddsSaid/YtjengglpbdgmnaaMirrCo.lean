/- Plain facts on mirrored games. No condition. -/
import Derived.Test.YtjengglpbdgmnaaHighCo
namespace Go.Proofs.Ytjengglpbdgmnaa.Math
open Go.Proofs.Ytjengglpbdgmnaa.V
set_option linter.unusedVariables false
set_option linter.unusedSimpArgs false
def swap (n : Int) : Int := if n = 0 ∨ n = 1 then 1 - n else n
def mirN (x : Nd) : Nd := ⟨swap x.pl, x.p1, x.p0, swap x.fo, x.ch⟩
theorem mirN_snoc {z : List Nd} {i : Nat} (h : i < z.length) : (z.map mirN).take i ++ [Nd.mk (swap (z.getD i dN).pl) (z.getD i dN).p1 (z.getD i dN).p0 (swap (z.getD i dN).fo) (z.getD i dN).ch] = (z.map mirN).take (i + 1) := by
  rw [take_step dN (by rw [List.length_map]; exact h)]
  congr 1
  simp [List.getD, List.getElem?_eq_getElem h, mirN]
def mirWc (ws : List (List Int)) (a b : Nat) : Int := (ws.getD b []).getD a 0
def mirVc (vs : List (List Int)) (a b : Nat) : Int := -(vs.getD b []).getD a 0
def mirWs (ws : List (List Int)) (k i : Nat) : List (List Int) := mapR (fun a => mapR (mirWc ws a) k) i
def mirVs (vs : List (List Int)) (k i : Nat) : List (List Int) := mapR (fun a => mapR (mirVc vs a) k) i
theorem mirWs_snoc (ws : List (List Int)) {k i j : Nat} (h : j = k) : mirWs ws k i ++ [mapR (mirWc ws i) j] = mirWs ws k (i + 1) := by subst h; exact mapR_snoc (fun a => mapR (mirWc ws a) j) i
theorem mirVs_snoc (vs : List (List Int)) {k i j : Nat} (h : j = k) : mirVs vs k i ++ [mapR (mirVc vs i) j] = mirVs vs k (i + 1) := by subst h; exact mapR_snoc (fun a => mapR (mirVc vs a) j) i
theorem mirW_add (ws : List (List Int)) (i j : Nat) : mapR (mirWc ws i) j ++ [(ws.getD j []).getD i 0] = mapR (mirWc ws i) (j + 1) := mapR_snoc (mirWc ws i) j
theorem mirV_add (vs : List (List Int)) (i j : Nat) : mapR (mirVc vs i) j ++ [-(vs.getD j []).getD i 0] = mapR (mirVc vs i) (j + 1) := mapR_snoc (mirVc vs i) j
theorem mapR_succ (f : Nat → Int) (k : Nat) : (mapR f (k + 1)).sum = (mapR f k).sum + f k := by
  rw [← mapR_snoc, List.sum_append]; simp
theorem mapR_add (f g : Nat → Int) : ∀ k, (mapR (fun i => f i + g i) k).sum = (mapR f k).sum + (mapR g k).sum
  | 0 => rfl
  | k + 1 => by rw [mapR_succ, mapR_succ, mapR_succ, mapR_add f g k]; omega
/-- Sums over rows and over columns. -/
theorem sum_swap (f : Nat → Nat → Int) (k : Nat) : ∀ i, (mapR (fun a => (mapR (fun b => f a b) k).sum) i).sum = (mapR (fun b => (mapR (fun a => f a b) i).sum) k).sum
  | 0 => by
    have : ∀ k, (mapR (fun b => (mapR (fun a => f a b) 0).sum) k).sum = 0 := fun k => by
      induction k with
      | zero => rfl
      | succ k ih => rw [mapR_succ, ih]; rfl
    rw [this]; rfl
  | i + 1 => by
    rw [mapR_succ, sum_swap f k i, ← mapR_add]
    congr 1
    unfold mapR
    refine List.map_congr_left fun b _ => ?_
    exact (mapR_succ (fun a => f a b) i).symm
theorem list_mapR {α : Type} (l : List α) (d : α) : l = mapR (fun i => l.getD i d) l.length := by
  refine List.ext_getElem (by rw [mapR_len]) fun i h1 h2 => ?_
  simp [mapR, List.getD, List.getElem?_eq_getElem h1]
theorem total_mapR {ws : List (List Int)} {k : Nat} (h : matB k 0 9 ws = true) : total ws = (mapR (fun a => (mapR (fun b => (ws.getD a []).getD b 0) k).sum) k).sum := by
  have hl := mat_len h
  have h1 : ws.map List.sum = mapR (fun a => (mapR (fun b => (ws.getD a []).getD b 0) k).sum) k := by
    conv => lhs; rw [list_mapR ws []]
    unfold mapR
    rw [List.map_map, hl]
    refine List.map_congr_left fun a ha => ?_
    have hr := row_len (mat_row h (List.mem_range.1 ha))
    show (ws.getD a []).sum = _
    conv => lhs; rw [list_mapR (ws.getD a []) 0, hr]
    rfl
  unfold total; rw [h1]
theorem total_mir {ws : List (List Int)} {k : Nat} (h : matB k 0 9 ws = true) : total (mirWs ws k k) = total ws := by
  rw [total_mapR h, sum_swap]
  unfold total mirWs mapR
  rw [List.map_map]
  rfl
theorem mir_mat {ws : List (List Int)} {k : Nat} (h : matB k 0 9 ws = true) : matB k 0 9 (mirWs ws k k) = true := by
  refine mat_yes (mapR_len _ _) fun a ha => ?_
  have he : (mirWs ws k k).getD a [] = mapR (mirWc ws a) k := mapR_get (fun a => mapR (mirWc ws a) k) [] ha
  rw [he]
  refine row_yes (by rw [mapR_len]) (List.all_eq_true.2 fun x hx => ?_)
  obtain ⟨b, hb, rfl⟩ := mapR_mem hx
  have := row_at (mat_row h hb) ha
  unfold inB mirWc; exact decide_eq_true this
theorem mir_mat2 {ws : List (List Int)} {k n : Nat} (h : matB k 0 9 ws = true) (hn : n = k) : matB n 0 9 (mirWs ws k k) = true := by subst hn; exact mir_mat h
def cardF (ws : List (List Int)) (p : Int) (c b : Nat) : Int := if p = 0 then (ws.getD c []).getD b 0 else (ws.getD b []).getD c 0
def cardSum (ws : List (List Int)) (p : Int) (c k : Nat) : Int := (mapR (cardF ws p c) k).sum
theorem card_sum0 {ws : List (List Int)} {p : Int} {c k : Nat} (h : matB k 0 9 ws = true) (hc : c < k) (hp : p = 0) : (ws.getD c []).sum = cardSum ws p c k := by
  conv => lhs; rw [list_mapR (ws.getD c []) 0, row_len (mat_row h hc)]
  unfold cardSum; congr 1; unfold mapR
  refine List.map_congr_left fun b _ => ?_
  unfold cardF; rw [if_pos hp]
theorem card_sum1 {ws : List (List Int)} {p : Int} {c k : Nat} (hc : c < k) (hp : p = 1) : ((mirWs ws k k).getD c []).sum = cardSum ws p c k := by
  have he : (mirWs ws k k).getD c [] = mapR (mirWc ws c) k := mapR_get (fun a => mapR (mirWc ws a) k) [] hc
  rw [he]; unfold cardSum; congr 1; unfold mapR
  refine List.map_congr_left fun b _ => ?_
  unfold cardF mirWc; rw [if_neg (by omega)]
theorem cardSum_s (ws : List (List Int)) (p : Int) (c i : Nat) : cardSum ws p c (i + 1) = cardSum ws p c i + cardF ws p c i := mapR_succ _ _
theorem cardF_bd {ws : List (List Int)} {p : Int} {c b k : Nat} (h : matB k 0 9 ws = true) (hc : c < k) (hb : b < k) : 0 ≤ cardF ws p c b ∧ cardF ws p c b ≤ 9 := by
  unfold cardF; split
  · exact row_at (mat_row h hc) hb
  · exact row_at (mat_row h hb) hc
theorem cardSum_bd {ws : List (List Int)} {p : Int} {c k : Nat} (h : matB k 0 9 ws = true) (hc : c < k) : ∀ i, i ≤ k → 0 ≤ cardSum ws p c i ∧ cardSum ws p c i ≤ 9 * i
  | 0, _ => by show 0 ≤ (0 : Int) ∧ (0 : Int) ≤ _; omega
  | i + 1, hi => by
    have h1 := cardSum_bd h hc i (by omega) (p := p)
    have h2 := cardF_bd h hc (show i < k by omega) (p := p)
    rw [cardSum_s]; omega
def mirAt (z : List Nd) (ws vs : List (List Int)) : G3 × Int := if isGame z ws vs = true then ((z.map mirN, mirWs ws ws.length ws.length, mirVs vs ws.length ws.length), 0) else (([], [], []), 1)
end Go.Proofs.Ytjengglpbdgmnaa.Math
