/- Plain facts on the answers of values and mixed strategies. No condition. -/
import Derived.Test.YtofkhnipfhcaiaaVal2
import Derived.Test.YtofkhnipfhcaiaaMath
import Derived.Test.YtofkhnipfhcaiaaUni
namespace Go.Proofs.Ytofkhnipfhcaiaa.Math
open Go Go.Proofs.Ytofkhnipfhcaiaa.V
set_option linter.unusedVariables false
set_option linter.unusedSimpArgs false
def dealAt (z : List Nd) (ws vs : List (List Int)) (pl : Int) (ps : List (List Int)) (ql : Int) (qs : List (List Int)) (a b : Int) : Int × Int :=
  if isPair z ws vs pl ps ql qs = true then if (0 ≤ a ∧ a ≤ (ws.length : Int) - 1) ∧ (0 ≤ b ∧ b ≤ (ws.length : Int) - 1) then (value z vs ws.length ps qs a b 0 (depth z 0), 0) else (0, 2) else (0, 1)
def gameAt (z : List Nd) (ws vs : List (List Int)) (pl : Int) (ps : List (List Int)) (ql : Int) (qs : List (List Int)) : Int × Int × Int :=
  if isPair z ws vs pl ps ql qs = true then (numTo z ws vs ws.length ps qs ws.length, unit z ws, 0) else (0, 0, 1)
noncomputable def endsTo (z : List Nd) (ws : List (List Int)) (k : Nat) (ps qs : List (List Int)) (i : Nat) : List Int := mapR (fun i => reTo z ws k ps qs ((nodesOf z 2).getD i 0) k) i
theorem endsTo_s (z : List Nd) (ws : List (List Int)) (k : Nat) (ps qs : List (List Int)) (i : Nat) : endsTo z ws k ps qs i ++ [reTo z ws k ps qs ((nodesOf z 2).getD i 0) k] = endsTo z ws k ps qs (i + 1) := mapR_snoc (fun i => reTo z ws k ps qs ((nodesOf z 2).getD i 0) k) i
noncomputable def endsAt (z : List Nd) (ws vs : List (List Int)) (pl : Int) (ps : List (List Int)) (ql : Int) (qs : List (List Int)) : List Int × Int :=
  if isPair z ws vs pl ps ql qs = true then (endsTo z ws ws.length ps qs (nodesOf z 2).length, 0) else ([], 1)
def ratioAt (z : List Nd) (ws vs : List (List Int)) (pl : Int) (ps : List (List Int)) (ql : Int) (qs : List (List Int)) : (Int × Int) × Int :=
  if isPair z ws vs pl ps ql qs = true then reduced (numTo z ws vs ws.length ps qs ws.length) (unit z ws) else ((0, 0), 1)
section
variable {z : List Nd} {ws vs ps qs : List (List Int)} {pl ql a b n : Int} {k m : Nat}
theorem dealAt_1 (h : isPair z ws vs pl ps ql qs = false) : dealAt z ws vs pl ps ql qs a b = (0, 1) := if_neg (by rw [h]; decide)
theorem dealAt_2 (hk : ws.length = k) (h : isPair z ws vs pl ps ql qs = true) (hn : ¬ ((0 ≤ a ∧ a ≤ (k : Int) - 1) ∧ (0 ≤ b ∧ b ≤ (k : Int) - 1))) : dealAt z ws vs pl ps ql qs a b = (0, 2) := by subst hk; unfold dealAt; rw [if_pos h, if_neg hn]
theorem dealAt_0 (hk : ws.length = k) (h : isPair z ws vs pl ps ql qs = true) (ha : 0 ≤ a ∧ a ≤ (k : Int) - 1) (hb : 0 ≤ b ∧ b ≤ (k : Int) - 1) : dealAt z ws vs pl ps ql qs a b = (value z vs k ps qs a b 0 (depth z 0), 0) := by subst hk; unfold dealAt; rw [if_pos h, if_pos ⟨ha, hb⟩]
theorem gameAt_1 (h : isPair z ws vs pl ps ql qs = false) : gameAt z ws vs pl ps ql qs = (0, 0, 1) := if_neg (by rw [h]; decide)
theorem gameAt_0 (hk : ws.length = k) (h : isPair z ws vs pl ps ql qs = true) : gameAt z ws vs pl ps ql qs = (numTo z ws vs k ps qs k, unit z ws, 0) := by subst hk; exact if_pos h
theorem endsAt_1 (h : isPair z ws vs pl ps ql qs = false) : endsAt z ws vs pl ps ql qs = ([], 1) := if_neg (by rw [h]; decide)
theorem endsAt_0 (hk : ws.length = k) (h : isPair z ws vs pl ps ql qs = true) {i : Nat} (hi : i = (nodesOf z 2).length) : endsAt z ws vs pl ps ql qs = (endsTo z ws k ps qs i, 0) := by subst hk; subst hi; exact if_pos h
theorem endsAt_len (z : List Nd) (ws vs : List (List Int)) (pl : Int) (ps : List (List Int)) (ql : Int) (qs : List (List Int)) : (endsAt z ws vs pl ps ql qs).1.length ≤ 60 := by
  unfold endsAt; split
  · rename_i h
    have h1 := nodesOf_len z 2
    have h2 := (isTree_ok (isGame_ok (isPair_ok h).2.2.g).1).1
    show (mapR _ _).length ≤ 60
    rw [mapR_len]; omega
  · exact Nat.zero_le _
theorem ratioAt_1 (h : isPair z ws vs pl ps ql qs = false) : ratioAt z ws vs pl ps ql qs = ((0, 0), 1) := if_neg (by rw [h]; decide)
theorem ratioAt_0 (hk : ws.length = k) (h : isPair z ws vs pl ps ql qs = true) : ratioAt z ws vs pl ps ql qs = reduced (numTo z ws vs k ps qs k) (unit z ws) := by subst hk; exact if_pos h
theorem unit_bd (h : isGame z ws vs = true) : 1 ≤ unit z ws ∧ unit z ws ≤ 251942400000 := by
  have hG := isGame_ok h
  have hT := isTree_ok hG.1
  have h1 := total_le hG.2.1.2 hG.2.2.1
  have h2 := p60_5 (k := (depth z 0).toNat) (by omega)
  have h3 := mul_bd h1.1 h1.2 (by omega) h2.2
  have h4 : 1 * 1 ≤ total ws * p60 (depth z 0).toNat := Int.mul_le_mul (by omega) h2.1 (by decide) h1.1
  unfold unit; omega
/-- Mixed strategies. -/
def mixRow (n : Int) (r s : List Int) (j : Nat) : List Int := mapR (fun j => n * r.getD j 0 + (60 - n) * s.getD j 0) j
noncomputable def mixTo (n : Int) (ps qs : List (List Int)) (i : Nat) : List (List Int) := mapR (fun i => partsOf (mixRow n (ps.getD i []) (qs.getD i []) (ps.getD i []).length)) i
theorem mixRow_len (n : Int) (r s : List Int) (j : Nat) : (mixRow n r s j).length = j := mapR_len _ _
theorem mixRow_get {r s : List Int} {j m : Nat} (h : j < m) : (mixRow n r s m).getD j 0 = n * r.getD j 0 + (60 - n) * s.getD j 0 := mapR_get _ 0 h
theorem mixRow_s (n : Int) (r s : List Int) (j : Nat) : mixRow n r s j ++ [n * r.getD j 0 + (60 - n) * s.getD j 0] = mixRow n r s (j + 1) := mapR_snoc (fun j => n * r.getD j 0 + (60 - n) * s.getD j 0) j
theorem mixTo_s {i j : Nat} (hj : j = (ps.getD i []).length) : mixTo n ps qs i ++ [partsOf (mixRow n (ps.getD i []) (qs.getD i []) j)] = mixTo n ps qs (i + 1) := by subst hj; exact mapR_snoc (fun i => partsOf (mixRow n (ps.getD i []) (qs.getD i []) (ps.getD i []).length)) i
theorem mix_bd {r s : List Int} {j : Nat} (hn : 0 ≤ n ∧ n ≤ 60) (hr : ∀ x ∈ r, 0 ≤ x ∧ x ≤ 60) (hs : ∀ x ∈ s, 0 ≤ x ∧ x ≤ 60) (h1 : j < r.length) (h2 : j < s.length) : (0 ≤ n * r.getD j 0 ∧ n * r.getD j 0 ≤ 3600) ∧ (0 ≤ (60 - n) * s.getD j 0 ∧ (60 - n) * s.getD j 0 ≤ 3600) := by
  have a := hr _ (getD_mem 0 h1)
  have b := hs _ (getD_mem 0 h2)
  exact ⟨mul_bd hn.1 hn.2 a.1 a.2, mul_bd (A := 60) (by omega) (by omega) b.1 b.2⟩
theorem mixRow_bd {r s : List Int} {m : Nat} (hn : 0 ≤ n ∧ n ≤ 60) (hr : ∀ x ∈ r, 0 ≤ x ∧ x ≤ 60) (hs : ∀ x ∈ s, 0 ≤ x ∧ x ≤ 60) (h1 : m ≤ r.length) (h2 : m ≤ s.length) : ∀ x ∈ mixRow n r s m, 0 ≤ x ∧ x ≤ 1000000000 := fun x hx => by
  obtain ⟨j, hj, rfl⟩ := mapR_mem hx
  have := mix_bd hn hr hs (show j < r.length by omega) (show j < s.length by omega)
  omega
/-- The rows of two strategies of a player. -/
theorem mix_rows (hg : isGame z ws vs = true) (hp : 0 ≤ pl ∧ pl ≤ 1) (h1 : partsB z (sets z k pl) ps = true) (h2 : partsB z (sets z k pl) qs = true) {i : Nat} (hi : i < ps.length) :
    i < qs.length ∧ (ps.getD i []).length = (qs.getD i []).length ∧ (1 ≤ (ps.getD i []).length ∧ (ps.getD i []).length ≤ 4) ∧ (∀ x ∈ ps.getD i [], 0 ≤ x ∧ x ≤ 60) ∧ (∀ x ∈ qs.getD i [], 0 ≤ x ∧ x ≤ 60) := by
  have l1 := parts_len h1
  have l2 := parts_len h2
  have hs := sets_at (z := z) (k := k) (p := pl) (i := i) (by omega)
  have w1 := wide_le hg hs.2.1
  have w2 := wide_pos hg hs.2.1 hs.2.2 hp.2
  obtain ⟨a1, _⟩ := part_row (parts_at h1 (i := i) (by omega))
  obtain ⟨b1, _⟩ := part_row (parts_at h2 (i := i) (by omega))
  have a2 := row_len a1
  have b2 := row_len b1
  exact ⟨by omega, by omega, ⟨by omega, by omega⟩, row_in a1, row_in b1⟩
end
noncomputable def mixAt (z : List Nd) (ws vs : List (List Int)) (pl : Int) (ps : List (List Int)) (ql : Int) (qs : List (List Int)) (n : Int) : (Int × List (List Int)) × Int :=
  if isStrat z ws vs pl ps = true ∧ isStrat z ws vs ql qs = true then if 0 ≤ n ∧ n ≤ 60 then if pl = ql then ((pl, mixTo n ps qs ps.length), 0) else ((0, []), 5) else ((0, []), 2) else ((0, []), 1)
section
variable {z : List Nd} {ws vs ps qs : List (List Int)} {pl ql n : Int} {k m : Nat}
theorem mixAt_1 (h : isStrat z ws vs pl ps = false ∨ isStrat z ws vs ql qs = false) : mixAt z ws vs pl ps ql qs n = ((0, []), 1) := if_neg fun h' => by rcases h with h | h; rw [h] at h'; cases h'.1; rw [h] at h'; cases h'.2
theorem mixAt_2 (h1 : isStrat z ws vs pl ps = true) (h2 : isStrat z ws vs ql qs = true) (hn : ¬ (0 ≤ n ∧ n ≤ 60)) : mixAt z ws vs pl ps ql qs n = ((0, []), 2) := by unfold mixAt; rw [if_pos ⟨h1, h2⟩, if_neg hn]
theorem mixAt_5 (h1 : isStrat z ws vs pl ps = true) (h2 : isStrat z ws vs ql qs = true) (hn : 0 ≤ n ∧ n ≤ 60) (hq : pl ≠ ql) : mixAt z ws vs pl ps ql qs n = ((0, []), 5) := by unfold mixAt; rw [if_pos ⟨h1, h2⟩, if_pos hn, if_neg hq]
theorem mixAt_0 (h1 : isStrat z ws vs pl ps = true) (h2 : isStrat z ws vs ql qs = true) (hn : 0 ≤ n ∧ n ≤ 60) (hq : pl = ql) {i : Nat} (hi : i = ps.length) : mixAt z ws vs pl ps ql qs n = ((pl, mixTo n ps qs i), 0) := by subst hi; unfold mixAt; rw [if_pos ⟨h1, h2⟩, if_pos hn, if_pos hq]
theorem mixAt_bd (z : List Nd) (ws vs : List (List Int)) (pl : Int) (ps : List (List Int)) (ql : Int) (qs : List (List Int)) (n : Int) : (mixAt z ws vs pl ps ql qs n).1.2.length ≤ 360 ∧ sumK rwl (mixAt z ws vs pl ps ql qs n).1.2 ≤ 1440 := by
  have h0' : sumK rwl ([] : List (List Int)) = 0 := rfl
  have hno : ∀ c : Int, ((((0 : Int), ([] : List (List Int))), c) : (Int × List (List Int)) × Int).1.2.length ≤ 360 ∧ sumK rwl ((((0 : Int), ([] : List (List Int))), c) : (Int × List (List Int)) × Int).1.2 ≤ 1440 := fun c => by dsimp only; rw [h0']; exact ⟨Nat.zero_le _, Nat.zero_le _⟩
  unfold mixAt; split
  · rename_i h
    split
    · split
      · rename_i hq
        subst hq
        obtain ⟨hg, hp, hps⟩ := isStrat_ok h.1
        obtain ⟨_, _, hqs⟩ := isStrat_ok h.2
        have h1 := (isGame_ok hg).2.1; have h2 := (isTree_ok (isGame_ok hg).1).1
        have h3 := sets_len (z := z) (p := pl) (show ws.length ≤ 6 by omega)
        have hl := parts_len hps
        have hml : (mixTo n ps qs ps.length).length = ps.length := mapR_len _ _
        have h4 := sumK_bd rwl 4 (mixTo n ps qs ps.length) fun r hr => by
          obtain ⟨i, hi, rfl⟩ := mapR_mem hr
          unfold rwl; rw [partsOf_len, mixRow_len]
          exact (mix_rows hg hp hps hqs hi).2.2.1.2
        dsimp only; omega
      · exact hno _
    · exact hno _
  · exact hno _
end
end Go.Proofs.Ytofkhnipfhcaiaa.Math
