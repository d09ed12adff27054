/- Calls of functions that are handed in; plain facts on strategies that are pure. No condition. -/
import Derived.Test.YtbcopkhpgolkmaaUni
import Derived.Test.YtbcopkhpgolkmaaEngC
namespace Go.Proofs.Ytbcopkhpgolkmaa.V
open Go Go.RowKit
set_option linter.unusedVariables false
set_option linter.unusedSimpArgs false
section
variable {P : Program} {n : Nat} {w0 : World} {M : Nat → Prop} {L L' : List (World → Prop)} {σ : Fr} {K K' : Ko} {c x y : Code} {ops : Array Oper} {S : World → Prop} {r : Sch} {i : Nat}
variable {d : Nat} {t : TypeId} {p : String} {af : Array Edge} {g : Option (Nat × Bool)}
theorem callF_opw {f : FuncId} {co : Operand} {args : Array Operand} {tys : Array TypeId} {R : Value → World → Prop} {Q : Fr → World → Prop} {w : World} (hf : ∀ args w, (callFunc f args).run P w = .ok (.enter f args) w) (hco : ev σ co = .func (.func f) #[] #[])
    (hc : Calls P f (args.toList.map (ev σ)).toArray w (Ret R)) (hq : ∀ v w', R v w' → Q (upd σ d v) w') : opw P ⟨some d, .call ⟨.value co, args, tys⟩, t, p, af, g⟩ σ w Q := by
  have hr : (execOp (ev σ) ⟨some d, .call ⟨.value co, args, tys⟩, t, p, af, g⟩).run P w = .ok (.enter f (args.toList.map (ev σ)).toArray) w := by
    have he : args.map (ev σ) = (args.toList.map (ev σ)).toArray := by rw [← Array.toList_map, Array.toArray_toList]
    simp [execOp, resolve, hco, Deferred.ofValue, invoke, hf, he]
  unfold opw; rw [hr]
  exact Calls.mono hc fun e w' ⟨v, he, hR⟩ => ⟨v, he, hq v w' hR⟩
/-- A call of a function that lies in a slot. -/
theorem callF {f : FuncId} {co : Operand} {args : Array Operand} {tys : Array TypeId} {v : Value} (hf : ∀ args w, (callFunc f args).run P w = .ok (.enter f args) w) (hS : ∀ w, Sep w0 M L w → S w) (ho : ops[i]? = some ⟨some d, .call ⟨.value co, args, tys⟩, t, p, af, g⟩) (hg : go ops σ g) (hco : ev σ co = .func (.func f) #[] #[])
    (hc : ∀ w, Sep w0 M L w → Calls P f (args.toList.map (ev σ)).toArray w (Ret fun v' w' => v' = v ∧ Ext w w')) (h : RG P n w0 M ops S L r (upd σ d v) K) : RG P n w0 M ops S L (.op .l i r) σ K :=
  rL1 hS ho hg (fun w hs => callF_opw hf hco (hc w hs) fun v' w' ⟨he, hx⟩ => by subst he; exact ⟨hs.ext hx, rfl⟩) h
end
end Go.Proofs.Ytbcopkhpgolkmaa.V
namespace Go.Proofs.Ytbcopkhpgolkmaa.Math
open Go.Proofs.Ytbcopkhpgolkmaa.V
def low (r : List Int) : Bool := decide (r.getD (best r) 0 < 60)
def hasLow (ps : List (List Int)) : Bool := ps.any low
def hasI (z : List Int) (x : Int) : Bool := decide (x ∈ z)
def pureB (ps : List (List Int)) : Bool := ps.all fun r => hasI r 60
theorem hasI_yes {z : List Int} {x : Int} {i : Nat} (hi : i < z.length) (h : z.getD i 0 = x) : hasI z x = true := decide_eq_true (by rw [← h]; exact getD_mem 0 hi)
theorem hasI_no {z : List Int} {x : Int} (h : ∀ j, j < z.length → z.getD j 0 ≠ x) : hasI z x = false := decide_eq_false fun hm => by obtain ⟨i, hi, he⟩ := mem_getD 0 hm; exact h i hi he
theorem hasLow_yes {ps : List (List Int)} {i : Nat} (hi : i < ps.length) (h : (ps.getD i []).getD (best (ps.getD i [])) 0 < 60) : hasLow ps = true := List.any_eq_true.2 ⟨_, getD_mem [] hi, decide_eq_true h⟩
theorem hasLow_no {ps : List (List Int)} (h : ∀ j, j < ps.length → ¬ (ps.getD j []).getD (best (ps.getD j [])) 0 < 60) : hasLow ps = false := by
  rw [Bool.eq_false_iff]; intro h'
  obtain ⟨r, hr, hl⟩ := List.any_eq_true.1 h'
  obtain ⟨i, hi, he⟩ := mem_getD [] hr
  subst he
  exact h i hi (of_decide_eq_true hl)
theorem pureB_no {ps : List (List Int)} {i : Nat} (hi : i < ps.length) (h : hasI (ps.getD i []) 60 = false) : pureB ps = false := all_no [] hi h
theorem pureB_yes {ps : List (List Int)} (h : ∀ j, j < ps.length → hasI (ps.getD j []) 60 = true) : pureB ps = true := (all_getD []).2 h
theorem low_is {r : List Int} (h1 : 1 ≤ r.length) (h2 : ∀ x ∈ r, 0 ≤ x ∧ x ≤ 60) : low r = !hasI r 60 := by
  have hb := best_lt h1
  have hm := h2 _ (getD_mem 0 hb)
  unfold low
  by_cases h : (60 : Int) ∈ r
  · obtain ⟨j, hj, he⟩ := mem_getD 0 h
    have := bestTo_max r (r.length - 1) j (by omega)
    have h3 : hasI r 60 = true := decide_eq_true h
    rw [h3, decide_eq_false (by unfold best; omega)]; rfl
  · have h3 : hasI r 60 = false := decide_eq_false h
    rw [h3, decide_eq_true]; rfl
    have hne : r.getD (best r) 0 ≠ 60 := fun he => h (by rw [← he]; exact getD_mem 0 hb)
    omega
theorem pure_low {ps : List (List Int)} (h : ∀ r ∈ ps, 1 ≤ r.length ∧ ∀ x ∈ r, 0 ≤ x ∧ x ≤ 60) : (!hasLow ps) = pureB ps := by
  induction ps with
  | nil => rfl
  | cons r ps ih =>
    have h1 := h r (List.mem_cons_self ..)
    have ih := ih fun q hq => h q (List.mem_cons_of_mem _ hq)
    have hl : hasLow (r :: ps) = (low r || hasLow ps) := rfl
    have hp : pureB (r :: ps) = (hasI r 60 && pureB ps) := rfl
    rw [hl, hp, low_is h1.1 h1.2, ← ih]
    cases hasI r 60 <;> cases hasLow ps <;> rfl
theorem strat_rows {z : List Nd} {ws vs ps : List (List Int)} {pl : Int} (h : isStrat z ws vs pl ps = true) : ∀ r ∈ ps, 1 ≤ r.length ∧ ∀ x ∈ r, 0 ≤ x ∧ x ≤ 60 := fun r hr => by
  obtain ⟨hg, hp, hps⟩ := isStrat_ok h
  obtain ⟨i, hi, he⟩ := mem_getD [] hr
  have hl := parts_len hps
  have hs := sets_at (z := z) (k := ws.length) (p := pl) (i := i) (by omega)
  have w2 := wide_pos hg hs.2.1 hs.2.2 hp.2
  obtain ⟨a1, _⟩ := part_row (parts_at hps (i := i) (by omega))
  rw [he] at a1
  have a2 := row_len a1
  exact ⟨by omega, row_in a1⟩
def isPureAt (z : List Nd) (ws vs : List (List Int)) (pl : Int) (ps : List (List Int)) : Bool × Int := if isStrat z ws vs pl ps = true then (pureB ps, 0) else (false, 1)
theorem isPureAt_1 {z : List Nd} {ws vs ps : List (List Int)} {pl : Int} (h : isStrat z ws vs pl ps = false) : isPureAt z ws vs pl ps = (false, 1) := if_neg (by rw [h]; decide)
theorem isPureAt_0 {z : List Nd} {ws vs ps : List (List Int)} {pl : Int} (h : isStrat z ws vs pl ps = true) {b : Bool} (hb : pureB ps = b) : isPureAt z ws vs pl ps = (b, 0) := by subst hb; exact if_pos h
end Go.Proofs.Ytbcopkhpgolkmaa.Math
