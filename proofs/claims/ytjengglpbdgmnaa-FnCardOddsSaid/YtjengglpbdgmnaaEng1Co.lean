/- The engine, part 1: a frame as a function of its slots, weakest conditions over it, and regions in whatever order the model draws. No condition. -/
import Derived.WalkKit
import Derived.Orders
import Derived.Below
namespace Go.Proofs.Ytjengglpbdgmnaa.V
open Go Go.RowKit
set_option linter.unusedVariables false
abbrev Fr := Nat → Value
def upd (σ : Fr) (d : Nat) (v : Value) : Fr := fun t => cond (Nat.beq t d) v (σ t)
def put (σ : Fr) (dst : Option Nat) (v : Value) : Fr := match dst with | some d => upd σ d v | none => σ
def ev (σ : Fr) : Operand → Value
  | .tmp t => σ t
  | .const v => v
  | .global g => .pointer (some ⟨g, 0, none⟩)
  | .func f => .func (.func f) #[] #[]
/-- Some slots are known. -/
def ups (σ : Fr) : List (Nat × Value) → Fr
  | [] => σ
  | (d, v) :: r => upd (ups σ r) d v
def knows (σ : Fr) : List (Nat × Value) → Prop
  | [] => True
  | (d, v) :: r => σ d = v ∧ knows σ r
theorem upd_same (σ : Fr) (d : Nat) (v : Value) : upd σ d v d = v := by simp [upd]
theorem upd_other (σ : Fr) {d t : Nat} (v : Value) (h : t ≠ d) : upd σ d v t = σ t := by
  have : Nat.beq t d = false := by
    cases hb : Nat.beq t d with
    | true => exact absurd (Nat.eq_of_beq_eq_true hb) h
    | false => rfl
  simp [upd, this]
theorem ups_of_knows (σ : Fr) (l : List (Nat × Value)) (h : knows σ l) : ups σ l = σ := by
  induction l with
  | nil => rfl
  | cons p r ih =>
    obtain ⟨d, v⟩ := p
    obtain ⟨h1, h2⟩ := h
    funext t
    simp only [ups, ih h2, upd]
    cases hb : Nat.beq t d with
    | false => rfl
    | true =>
      have : t = d := Nat.eq_of_beq_eq_true hb
      subst this; simp [h1]
structure Ag (n : Nat) (a : Act) (σ : Fr) : Prop where
  size : a.tmps.size = n
  df : a.defers = []
  at_ : ∀ t, a.tmps.getD t undef = σ t
theorem Ag.ev {n : Nat} {a : Act} {σ : Fr} (h : Ag n a σ) : a.eval = ev σ := by
  funext x
  cases x with
  | tmp t => exact h.at_ t
  | _ => rfl
theorem Ag.put {n : Nat} {a : Act} {σ : Fr} (h : Ag n a σ) (dst : Option Nat) (hd : ∀ d, dst = some d → d < n) (v : Value) : Ag n (a.put dst v) (put σ dst v) := by
  cases dst with
  | none => exact h
  | some d =>
    refine ⟨by simp [Act.put, h.size], h.df, fun t => ?_⟩
    simp only [Act.put, V.put]
    by_cases ht : t = d
    · subst ht
      have hlt : t < a.tmps.size := by rw [h.size]; exact hd t rfl
      rw [upd_same]; simp [hlt]
    · rw [upd_other _ _ ht, ← h.at_ t]
      simp [Array.getElem?_setIfInBounds_ne (Ne.symm ht)]
def yl (ops : Array Oper) (σ : Fr) (j : Nat) : Option Bool :=
  match (ops[j]?).bind (·.dst) with
  | none => none
  | some t => match σ t with
    | .bool b => some b
    | _ => none
theorem Ag.yl {n : Nat} {a : Act} {σ : Fr} (h : Ag n a σ) (ops : Array Oper) : yielded ops a.tmps = yl ops σ := by
  funext j
  unfold yielded V.yl
  cases hd : (ops[j]?).bind (·.dst) with
  | none => simp
  | some t =>
    simp only [Option.bind_some]
    rw [← h.at_ t]
    cases ht : a.tmps[t]? with
    | none => simp [ht, undef]
    | some v => cases v <;> simp [ht]
/-- One operation, not looking at its guard. -/
def opw (P : Program) (o : Oper) (σ : Fr) (w : World) (K : Fr → World → Prop) : Prop :=
  match (execOp (ev σ) o).run P w with
  | .ok (.value v) w' => K (put σ o.dst v) w'
  | .ok .skip w' => K (put σ o.dst undef) w'
  | .ok (.enter f args) w' => Calls P f args w' fun e w'' => ∃ v, e = .returned v ∧ K (put σ o.dst v) w''
  | _ => False
theorem opw_mono {P : Program} {o : Oper} {σ : Fr} {w : World} {K K' : Fr → World → Prop} (h : ∀ σ w, K σ w → K' σ w) (hh : opw P o σ w K) : opw P o σ w K' := by
  unfold opw at *
  split at hh <;> (first | exact h _ _ hh | exact hh.elim | skip)
  exact Calls.mono hh fun e w' ⟨v, he, hk⟩ => ⟨v, he, h _ _ hk⟩
/-- What a post says of a frame, said of the machine's own frame: no panic. -/
def WQ (n : Nat) (Q : Exit → Fr → World → Prop) : Exit → Act → World → Prop
  | .panic _, _, _ => False
  | .outgrown, _, _ => False
  | e, a, w => ∃ σ, Ag n a σ ∧ Q e σ w
theorem opw_wp {P : Program} {n : Nat} {o : Oper} {a : Act} {σ : Fr} {w : World} {K : Fr → World → Prop} {KA : Act → World → Prop} {Q : Exit → Act → World → Prop}
    (ha : Ag n a σ) (hd : ∀ d, o.dst = some d → d < n) (hk : ∀ a' σ' w', Ag n a' σ' → K σ' w' → KA a' w') (h : opw P o σ w K) : o.wp P a w KA Q := by
  unfold opw at h
  unfold Oper.wp
  rw [ha.ev]
  generalize (execOp (ev σ) o).run P w = r at *
  cases r with
  | halt x w' => exact h.elim
  | ok nx w' =>
    cases nx <;> simp only [Oper.upon] at h ⊢ <;> try exact h.elim
    case value v => exact hk _ _ _ (ha.put _ hd v) h
    case skip => exact hk _ _ _ (ha.put _ hd undef) h
    case enter f args =>
      refine Calls.mono h fun e w'' ⟨v, he, hk'⟩ => ?_
      subst he
      exact hk _ _ _ (ha.put _ hd v) hk'
/-- One operation of a region, its guard looked at. -/
def stepV (P : Program) (ops : Array Oper) (o : Oper) (σ : Fr) (w : World) (K : Fr → World → Prop) : Prop :=
  if Region.wanted o (yl ops σ) then opw P o σ w K else K (put σ o.dst undef) w
theorem stepV_wp {P : Program} {n : Nat} {ops : Array Oper} {i : Nat} {o : Oper} {a : Act} {σ : Fr} {w : World} {K : Fr → World → Prop} {KA : Act → World → Prop} {Q : Exit → Act → World → Prop}
    (ho : ops[i]? = some o) (ha : Ag n a σ) (hd : ∀ d, o.dst = some d → d < n) (hk : ∀ a' σ' w', Ag n a' σ' → K σ' w' → KA a' w') (h : stepV P ops o σ w K) :
    wpOp P ops Q i KA a w := by
  unfold wpOp
  simp only [ho]
  unfold stepV at h
  rw [ha.yl ops]
  split
  · rename_i hw; rw [if_pos hw] at h; exact .inl (opw_wp ha hd hk h)
  · rename_i hw; rw [if_neg hw] at h; exact hk _ _ _ (ha.put _ hd undef) h
/-- An operation that yields 'v' in every world that meets S, and turns none. -/
def QY (P : Program) (ops : Array Oper) (S : World → Prop) (o : Oper) (σ : Fr) (v : Value) : Prop :=
  (Region.wanted o (yl ops σ) = true ∧ ∀ w, S w → (execOp (ev σ) o).run P w = .ok (.value v) w) ∨ (Region.wanted o (yl ops σ) = false ∧ v = undef)
theorem QY.step {P : Program} {ops : Array Oper} {S : World → Prop} {o : Oper} {σ : Fr} {v : Value} {w : World} {K : Fr → World → Prop}
    (h : QY P ops S o σ v) (hS : S w) (hk : K (put σ o.dst v) w) : stepV P ops o σ w K := by
  unfold stepV
  rcases h with ⟨h1, h2⟩ | ⟨h1, rfl⟩
  · rw [if_pos h1]; unfold opw; rw [h2 w hS]; exact hk
  · rw [if_neg (by simp [h1])]; exact hk
/-! ### Whatever order is drawn -/
section draw
variable {P : Program} {ops : Array Oper} {Q : Exit → Act → World → Prop} {md : Region.Mode} {S : World → Prop} {fin : Nat → Bool}
/-- 'S' holds behind every operation that is carried out, but for those that 'fin' marks. -/
def wpAnyF (P : Program) (md : Region.Mode) (ops : Array Oper) (Q : Exit → Act → World → Prop) (S : World → Prop) (fin : Nat → Bool) : Nat → Array Bool → Act → World → Prop
  | 0, listed, a, w => Region.ready md ops listed = [] ∧ Q .normal a w
  | fuel + 1, listed, a, w =>
    (Region.ready md ops listed = [] → Q .normal a w) ∧
    ∀ i ∈ Region.ready md ops listed, wpOp P ops Q i (fun a' w' => (fin i = false → S w') ∧ wpAnyF P md ops Q S fin fuel (listed.setIfInBounds i true) a' w') a w
theorem wpAny_of_F : ∀ (fuel : Nat) (listed : Array Bool) (a : Act) (w : World), wpAnyF P md ops Q S fin fuel listed a w → wpAny P md ops Q fuel listed a w
  | 0, _, _, _, h => h
  | fuel + 1, _, _, _, h => ⟨h.1, fun i hi => wpOp_mono (fun a' w' h' => wpAny_of_F fuel _ a' w' h'.2) (h.2 i hi)⟩
def YieldsS (P : Program) (ops : Array Oper) (S : World → Prop) (o : Oper) (v : Value) (a : Act) : Prop :=
  (Region.wanted o (yielded ops a.tmps) = true ∧ ∀ w, S w → (execOp a.eval o).run P w = .ok (.value v) w) ∨
  (Region.wanted o (yielded ops a.tmps) = false ∧ v = undef)
theorem YieldsS.wpOp {i : Nat} {o : Oper} {v : Value} {a : Act} (hi : ops[i]? = some o) (hy : YieldsS P ops S o v a)
    {K : Act → World → Prop} {w : World} (hS : S w) (h : K (a.put o.dst v) w) : wpOp P ops Q i K a w := by
  unfold Go.wpOp
  simp only [hi]
  rcases hy with ⟨hw, hv⟩ | ⟨hw, rfl⟩
  · simp only [hw, if_true, Oper.wp, hv w hS, Oper.upon]; exact .inl h
  · simp only [hw, Bool.false_eq_true, if_false]; exact h
theorem YieldsS.of_same {o : Oper} {v : Value} {a a' : Act} (hy : YieldsS P ops S o v a) (he : execOp a'.eval o = execOp a.eval o)
    (hw : Region.wanted o (yielded ops a'.tmps) = Region.wanted o (yielded ops a.tmps)) : YieldsS P ops S o v a' := by
  unfold YieldsS at *
  rw [he, hw]
  exact hy
theorem wpOp_putS {j : Nat} {oi oj : Oper} {v : Value} (hj : ops[j]? = some oj) (hap : oi.apart ops oj = true)
    (hsi : ∀ cs b, oi.op ≠ .select cs b) (hsj : ∀ cs b, oj.op ≠ .select cs b)
    (hQ : ∀ c a w, Q (.panic c) (a.put oi.dst v) w → Q (.panic c) a w) {K : Act → World → Prop} {a : Act} {w : World}
    (hy : YieldsS P ops S oi v a) (h : wpOp P ops Q j K (a.put oi.dst v) w) :
    wpOp P ops Q j (fun a' w' => YieldsS P ops S oi v a' ∧ K (a'.put oi.dst v) w') a w := by
  obtain ⟨h1, h2, h3⟩ := Oper.apart_spec hap
  have keep : ∀ (a : Act), YieldsS P ops S oi v a → ∀ u, YieldsS P ops S oi v (a.put oj.dst u) := fun a hy u =>
    hy.of_same (execOp_put oi hsi a oj.dst u h3) (wanted_put oi a oj.dst u h3)
  have keepD : ∀ d, YieldsS P ops S oi v { a with defers := d :: a.defers } := fun d => hy.of_same rfl rfl
  unfold wpOp at *
  simp only [hj] at *
  rw [wanted_put oj a oi.dst v h1] at h
  split
  · rename_i hw
    simp only [hw, if_true] at h
    rcases h with h | ⟨hasks, hlets⟩
    case inr => exact .inr ⟨by unfold Oper.asks at *; rw [execOp_put oj hsj a oi.dst v h1] at hasks; exact hasks, hlets⟩
    refine .inl ?_
    unfold Oper.wp at *
    rw [execOp_put oj hsj a oi.dst v h1] at h
    generalize (execOp a.eval oj).run P w = r at *
    cases r with
    | ok n w' =>
      cases n <;> simp only [Oper.upon] at h ⊢
      case value u => exact ⟨keep a hy u, by rw [← Act.put_comm a v u h2]; exact h⟩
      case skip => exact ⟨keep a hy _, by rw [← Act.put_comm a v undef h2]; exact h⟩
      case defer d =>
        refine ⟨keep _ (keepD d) _, ?_⟩
        rw [← Act.put_comm _ v undef h2, ← Act.put_defers]
        exact h
      case enter f args =>
        refine Calls.mono h fun e w'' he => ?_
        cases e with
        | returned u => exact ⟨keep a hy u, by rw [← Act.put_comm a v u h2]; exact he⟩
        | panicked c => exact hQ _ _ _ he
        | outgrown => exact he
      case row row args => exact Rows.mono h fun u w'' he => ⟨keep a hy u, by rw [← Act.put_comm a v u h2]; exact he⟩
    | halt x w' =>
      cases x <;> simp only [Oper.upon] at h ⊢
      case panic u => exact hQ _ _ _ h
  · rename_i hw
    simp only [hw] at h
    exact ⟨keep a hy _, by rw [← Act.put_comm a v undef h2]; exact h⟩
theorem wpAnyF_first {i : Nat} {oi : Oper} {v : Value} (hi : ops[i]? = some oi) (hsel : ∀ (j : Nat) (o : Oper) cs b, ops[j]? = some o → o.op ≠ .select cs b)
    (hQ : ∀ c a w, Q (.panic c) (a.put oi.dst v) w → Q (.panic c) a w)
    (hfin : ∀ (j : Nat) (o : Oper), ops[j]? = some o → fin j = true → ∃ e ∈ o.after, Region.binds md e = true ∧ e.on = i) :
    ∀ (fuel : Nat) (listed : Array Bool) (a : Act) (w : World),
      (∀ j oj, ops[j]? = some oj → j ≠ i → listed.getD j true = false → (∀ e ∈ oj.after, Region.binds md e = true → e.on ≠ i) → oi.apart ops oj = true) →
      i ∈ Region.ready md ops listed → YieldsS P ops S oi v a → S w →
      wpAnyF P md ops Q S fin fuel (listed.setIfInBounds i true) (a.put oi.dst v) w → wpAnyF P md ops Q S fin (fuel + 1) listed a w := by
  intro fuel
  induction fuel with
  | zero =>
    intro listed a w _ hr hy hS H
    refine ⟨fun h => (by rw [h] at hr; cases hr), fun j hj => ?_⟩
    by_cases hji : j = i
    · subst hji; exact hy.wpOp hi hS ⟨fun _ => hS, H⟩
    · have := ready_mono hj hji
      rw [H.1] at this
      cases this
  | succ fuel ih =>
    intro listed a w hfree hr hy hS H
    refine ⟨fun h => (by rw [h] at hr; cases hr), fun j hj => ?_⟩
    by_cases hji : j = i
    · subst hji; exact hy.wpOp hi hS ⟨fun _ => hS, H⟩
    · have h1 := H.2 j (ready_mono hj hji)
      obtain ⟨hjun, oj, hoj, hall⟩ := mem_ready.1 hj
      have hnot : ∀ e ∈ oj.after, Region.binds md e = true → e.on ≠ i := fun e he hb heq => by
        have h1 := hall e he hb
        have h0 := (mem_ready.1 hr).1
        rw [heq] at h1
        rcases Nat.lt_or_ge i listed.size with h' | h'
        · simp [h'] at h0 h1; rw [h0] at h1; cases h1
        · simp [Array.getElem?_eq_none h'] at h1
      have hjf : fin j = false := by
        cases hf : fin j with
        | false => rfl
        | true =>
          obtain ⟨e, he, hb, hon⟩ := hfin j oj hoj hf
          exact absurd hon (hnot e he hb)
      have h2 := wpOp_putS hoj (hfree j oj hoj hji hjun hnot) (fun cs b => hsel i oi cs b hi) (fun cs b => hsel j oj cs b hoj) hQ hy h1
      have hfree' : ∀ k ok, ops[k]? = some ok → k ≠ i → (listed.setIfInBounds j true).getD k true = false →
          (∀ e ∈ ok.after, Region.binds md e = true → e.on ≠ i) → oi.apart ops ok = true := fun k ok hk hki hun hno => by
        refine hfree k ok hk hki ?_ hno
        by_cases hjk : j = k
        · subst hjk; exact hjun
        · rw [getD_set_ne true hjk] at hun; exact hun
      refine wpOp_mono (fun a' w' h3 => ⟨fun _ => h3.2.1 hjf, ih (listed.setIfInBounds j true) a' w' hfree' (ready_mono hr (Ne.symm hji)) h3.1 (h3.2.1 hjf) ?_⟩) h2
      rw [Array.setIfInBounds_comm _ _ hji]
      exact h3.2.2
end draw
/-- How an operation is taken in a schedule: 'q': it yields a value and turns nothing; 'l': it may turn the world; 'f': it may turn what the 'q's read, and waits for all of them. -/
inductive Kd where
  | q | l | f
  deriving DecidableEq
/-- A schedule: operations one after the other; 'alt' where more than one of those that may turn the world may come up. -/
inductive Sch where
  | nil
  | op (k : Kd) (i : Nat) (r : Sch)
  | alt (a b : Sch)
abbrev sq (i : Nat) (r : Sch) : Sch := .op .q i r
abbrev sl (i : Nat) (r : Sch) : Sch := .op .l i r
abbrev sf (i : Nat) (r : Sch) : Sch := .op .f i r
abbrev sz : Sch := .nil
def Sch.fins : Sch → List Nat
  | .nil => []
  | .op .f i r => i :: r.fins
  | .op _ _ r => r.fins
  | .alt a b => a.fins ++ b.fins
def Sch.heads : Sch → List Nat
  | .nil => []
  | .op _ i _ => [i]
  | .alt a b => a.heads ++ b.heads
def Sch.noQ : Sch → Bool
  | .nil => true
  | .op k _ r => k != .q && r.noQ
  | .alt a b => a.noQ && b.noQ
def Sch.len : Sch → Nat
  | .nil => 0
  | .op _ _ r => r.len + 1
  | .alt a b => max a.len b.len
/-- The schedule fits the region: whatever order is drawn comes to the schedule's own. -/
def schedOk (ops : Array Oper) (fins : List Nat) : Bool → Sch → Array Bool → Bool
  | top, .nil, listed => top && (Region.ready .any ops listed).isEmpty
  | top, .op .q i r, listed => top && Region.free .any ops listed i && (Region.ready .any ops listed).contains i &&
      (fins.all fun j => match ops[j]? with | some o => o.after.any (fun e => Region.binds .any e && e.on == i) | none => true) && schedOk ops fins true r (listed.setIfInBounds i true)
  | top, .op k i r, listed => (!top || Region.ready .any ops listed == [i]) && (k != .f || r.noQ) && schedOk ops fins true r (listed.setIfInBounds i true)
  | top, .alt a b, listed => (!top || Region.ready .any ops listed == a.heads ++ b.heads) && schedOk ops fins false a listed && schedOk ops fins false b listed
def dstOk (n : Nat) (ops : Array Oper) : Bool := ops.all fun o => match o.dst with | some d => Nat.blt d n | none => true
theorem dstOk_spec {n : Nat} {ops : Array Oper} (h : dstOk n ops = true) {i : Nat} {o : Oper} (ho : ops[i]? = some o) : ∀ d, o.dst = some d → d < n := by
  intro d hd
  have := Array.all_eq_true_iff_forall_mem.1 h o (Array.mem_of_getElem? ho)
  simp only [hd] at this
  exact Nat.le_of_ble_eq_true this
/-- A region in its schedule's order. -/
def wpd (P : Program) (ops : Array Oper) (S : World → Prop) (K : Fr → World → Prop) : Sch → Fr → World → Prop
  | .nil, σ, w => K σ w
  | .op .q i r, σ, w => ∃ o v, ops[i]? = some o ∧ QY P ops S o σ v ∧ wpd P ops S K r (put σ o.dst v) w
  | .op .l i r, σ, w => ∃ o, ops[i]? = some o ∧ stepV P ops o σ w fun σ' w' => S w' ∧ wpd P ops S K r σ' w'
  | .op .f i r, σ, w => ∃ o, ops[i]? = some o ∧ stepV P ops o σ w fun σ' w' => wpd P ops S K r σ' w'
  | .alt a b, σ, w => wpd P ops S K a σ w ∧ wpd P ops S K b σ w
/-- The way out of a region that is shown not to panic. -/
def NP (Q : Exit → Act → World → Prop) : Exit → Act → World → Prop := fun e a w => match e with | .panic _ => False | e => Q e a w
theorem wpd_any {P : Program} {n : Nat} {ops : Array Oper} {S : World → Prop} {K : Fr → World → Prop} {Q : Exit → Act → World → Prop} (fins : List Nat)
    (hsel : Region.noSelect ops = true) (hd : dstOk n ops = true) (hK : ∀ a σ w, Ag n a σ → K σ w → Q .normal a w) :
    ∀ (s : Sch) (fuel : Nat) (listed : Array Bool) (a : Act) (σ : Fr) (w : World), s.len ≤ fuel → (∀ i ∈ s.fins, i ∈ fins) → Ag n a σ → (s.noQ = false → S w) → wpd P ops S K s σ w →
      (schedOk ops fins true s listed = true → wpAnyF P .any ops (NP Q) S (fun i => fins.contains i) fuel listed a w) ∧
      (schedOk ops fins false s listed = true → s = .nil ∨ (0 < s.len ∧ ∀ i ∈ s.heads, wpOp P ops (NP Q) i (fun a' w' => ((fins.contains i) = false → S w') ∧ wpAnyF P .any ops (NP Q) S (fun i => fins.contains i) (fuel - 1) (listed.setIfInBounds i true) a' w') a w)) := by
  intro s
  induction s with
  | nil =>
    intro fuel listed a σ w hf hm ha hS h
    refine ⟨fun hs => ?_, fun _ => .inl rfl⟩
    have hr : Region.ready .any ops listed = [] := by simpa [schedOk] using hs
    cases fuel with
    | zero => exact ⟨hr, hK a σ w ha h⟩
    | succ fuel => exact ⟨fun _ => hK a σ w ha h, by rw [hr]; simp⟩
  | op k i r ih =>
    intro fuel listed a σ w hf hm ha hS h
    cases fuel with
    | zero => simp [Sch.len] at hf
    | succ fuel =>
      have hlen : r.len ≤ fuel := by simpa [Sch.len] using hf
      cases k with
      | q =>
        refine ⟨fun hs => ?_, fun hs => by simp [schedOk] at hs⟩
        simp only [schedOk, Bool.and_eq_true] at hs
        obtain ⟨⟨⟨⟨_, hfr⟩, hrd⟩, hfs⟩, hs3⟩ := hs
        obtain ⟨o, v, ho, hy, hrest⟩ := h
        have hSw : S w := hS rfl
        refine wpAnyF_first (v := v) ho (Region.noSelect_spec hsel) (fun _ _ _ h => h) (fun j oj hoj hj => ?_) fuel listed a w (Region.free_spec ho hfr) (by simpa using hrd) ?_ hSw ?_
        · have hmem : j ∈ fins := by simpa using hj
          have := List.all_eq_true.1 hfs _ hmem
          simp only [hoj] at this
          obtain ⟨e, he, hb⟩ := Array.any_eq_true'.1 this
          simp only [Bool.and_eq_true, beq_iff_eq] at hb
          exact ⟨e, he, hb.1, hb.2⟩
        · rcases hy with ⟨h1, h2⟩ | ⟨h1, h2⟩
          · exact .inl ⟨by rw [ha.yl]; exact h1, fun w hw => by rw [ha.ev]; exact h2 w hw⟩
          · exact .inr ⟨by rw [ha.yl]; exact h1, h2⟩
        · exact (ih fuel _ _ _ w hlen hm (ha.put _ (dstOk_spec hd ho) v) (fun _ => hSw) hrest).1 hs3
      | l =>
        obtain ⟨o, ho, hstep⟩ := h
        have hone : schedOk ops fins true r (listed.setIfInBounds i true) = true → wpOp P ops (NP Q) i (fun a' w' => ((fins.contains i) = false → S w') ∧ wpAnyF P .any ops (NP Q) S (fun i => fins.contains i) fuel (listed.setIfInBounds i true) a' w') a w := fun hs3 =>
          stepV_wp ho ha (dstOk_spec hd ho) (fun a' σ' w' ha' hk => ⟨fun _ => hk.1, (ih fuel _ _ _ w' hlen hm ha' (fun _ => hk.1) hk.2).1 hs3⟩) hstep
        constructor
        · intro hs
          simp only [schedOk, Bool.and_eq_true, Bool.not_true, Bool.false_or, beq_iff_eq] at hs
          refine ⟨fun h0 => (by rw [h0] at hs; simp at hs), fun j hj => ?_⟩
          rw [hs.1.1] at hj
          have hj' : j = i := by simpa using hj
          subst hj'
          exact hone hs.2
        · intro hs
          simp only [schedOk, Bool.and_eq_true] at hs
          refine .inr ⟨by simp [Sch.len], fun j hj => ?_⟩
          have hj' : j = i := by simpa [Sch.heads] using hj
          subst hj'
          exact hone hs.2
      | f =>
        obtain ⟨o, ho, hstep⟩ := h
        have hfi : fins.contains i = true := by simpa using hm i (by simp [Sch.fins])
        have hm' : ∀ j ∈ r.fins, j ∈ fins := fun j hj => hm j (by simp [Sch.fins, hj])
        have hone : r.noQ = true → schedOk ops fins true r (listed.setIfInBounds i true) = true → wpOp P ops (NP Q) i (fun a' w' => ((fins.contains i) = false → S w') ∧ wpAnyF P .any ops (NP Q) S (fun i => fins.contains i) fuel (listed.setIfInBounds i true) a' w') a w := fun hn hs3 =>
          stepV_wp ho ha (dstOk_spec hd ho) (fun a' σ' w' ha' hk => ⟨fun h0 => (by rw [hfi] at h0; cases h0), (ih fuel _ _ _ w' hlen hm' ha' (fun h0 => by rw [hn] at h0; cases h0) hk).1 hs3⟩) hstep
        constructor
        · intro hs
          simp only [schedOk, Bool.and_eq_true, Bool.not_true, Bool.false_or, beq_iff_eq] at hs
          refine ⟨fun h0 => (by rw [h0] at hs; simp at hs), fun j hj => ?_⟩
          rw [hs.1.1] at hj
          have hj' : j = i := by simpa using hj
          subst hj'
          exact hone (by simpa using hs.1.2) hs.2
        · intro hs
          simp only [schedOk, Bool.and_eq_true] at hs
          refine .inr ⟨by simp [Sch.len], fun j hj => ?_⟩
          have hj' : j = i := by simpa [Sch.heads] using hj
          subst hj'
          exact hone (by simpa using hs.1.2) hs.2
  | alt x y ihx ihy =>
    intro fuel listed a σ w hf hm ha hS h
    obtain ⟨h1, h2⟩ := h
    have hfx : x.len ≤ fuel := Nat.le_trans (Nat.le_max_left _ _) (by simpa [Sch.len] using hf)
    have hfy : y.len ≤ fuel := Nat.le_trans (Nat.le_max_right _ _) (by simpa [Sch.len] using hf)
    have hx := ihx fuel listed a σ w hfx (fun i hi => hm i (by simp [Sch.fins, hi])) ha (fun h0 => hS (by simp [Sch.noQ, h0])) h1
    have hy := ihy fuel listed a σ w hfy (fun i hi => hm i (by simp [Sch.fins, hi])) ha (fun h0 => hS (by simp [Sch.noQ, h0])) h2
    have both : schedOk ops fins false x listed = true → schedOk ops fins false y listed = true → (x = .nil ∧ y = .nil) ∨ (0 < max x.len y.len ∧ ∀ i ∈ x.heads ++ y.heads, wpOp P ops (NP Q) i (fun a' w' => ((fins.contains i) = false → S w') ∧ wpAnyF P .any ops (NP Q) S (fun i => fins.contains i) (fuel - 1) (listed.setIfInBounds i true) a' w') a w) := by
      intro hsx hsy
      rcases hx.2 hsx with rfl | ⟨lx, hx'⟩ <;> rcases hy.2 hsy with rfl | ⟨ly, hy'⟩
      · exact .inl ⟨rfl, rfl⟩
      · exact .inr ⟨by omega, fun i hi => hy' i (by simpa [Sch.heads] using hi)⟩
      · exact .inr ⟨by omega, fun i hi => hx' i (by simpa [Sch.heads] using hi)⟩
      · exact .inr ⟨by omega, fun i hi => (List.mem_append.1 hi).elim (hx' i) (hy' i)⟩
    constructor
    · intro hs
      simp only [schedOk, Bool.and_eq_true, Bool.not_true, Bool.false_or, beq_iff_eq] at hs
      rcases both hs.1.2 hs.2 with ⟨rfl, rfl⟩ | ⟨hl, hb⟩
      · have hr : Region.ready .any ops listed = [] := by simpa [Sch.heads] using hs.1.1
        cases fuel with
        | zero => exact ⟨hr, hK a σ w ha h1⟩
        | succ fuel => exact ⟨fun _ => hK a σ w ha h1, by rw [hr]; simp⟩
      · cases fuel with
        | zero => simp only [Sch.len] at hf; omega
        | succ fuel =>
          refine ⟨fun h0 => ?_, fun j hj => hb j (by rw [← hs.1.1]; exact hj)⟩
          exfalso
          have he : x.heads ++ y.heads = [] := by rw [← hs.1.1, h0]
          have nn : ∀ s : Sch, schedOk ops fins false s listed = true → s.heads = [] → schedOk ops fins true .nil listed = true := fun _ _ _ => by simp [schedOk, h0]
          have emp : ∀ s : Sch, 0 < s.len → s.heads ≠ [] := by
            intro s
            induction s with
            | nil => simp [Sch.len]
            | op k i r _ => simp [Sch.heads]
            | alt a b iha ihb =>
              intro hl hh
              simp only [Sch.heads, List.append_eq_nil_iff] at hh
              have : 0 < a.len ∨ 0 < b.len := by simp only [Sch.len] at hl; omega
              exact this.elim (fun h => iha h hh.1) (fun h => ihb h hh.2)
          simp only [List.append_eq_nil_iff] at he
          have : 0 < x.len ∨ 0 < y.len := by omega
          exact this.elim (fun h => emp x h he.1) (fun h => emp y h he.2)
    · intro hs
      simp only [schedOk, Bool.and_eq_true] at hs
      rcases both hs.1.2 hs.2 with ⟨rfl, rfl⟩ | hb
      · exact absurd hs.1.2 (by simp [schedOk])
      · exact .inr hb
/-! ### Weakest conditions of code -/
def WP (P : Program) (n : Nat) (c : Code) (Q : Exit → Fr → World → Prop) (σ : Fr) (w : World) : Prop := ∀ a, Ag n a σ → c.wp P (WQ n Q) a w
/-- What follows a piece of code. -/
inductive Ko where
  | ret (R : Fr → World → Prop)
  | seq (c : Code) (k : Ko)
  | blk (id : Nat) (k : Ko)
  | loop (J : Fr → World → Prop) (k : Ko)
def den (P : Program) (n : Nat) : Ko → Exit → Fr → World → Prop
  | .ret R, .normal, σ, w => R σ w
  | .ret R, .ret, σ, w => R σ w
  | .ret _, _, _, _ => False
  | .seq c k, .normal, σ, w => WP P n c (den P n k) σ w
  | .seq _ k, e, σ, w => den P n k e σ w
  | .blk _ k, .normal, σ, w => den P n k .normal σ w
  | .blk id k, .exit i, σ, w => if i = id then den P n k .normal σ w else den P n k (.exit i) σ w
  | .blk _ k, e, σ, w => den P n k e σ w
  | .loop J _, .normal, σ, w => J σ w
  | .loop _ k, e, σ, w => den P n k e σ w
def retR : Ko → Fr → World → Prop
  | .ret R => R
  | .seq _ k => retR k
  | .blk _ k => retR k
  | .loop _ k => retR k
theorem den_ret (P : Program) (n : Nat) : ∀ (k : Ko), den P n k .ret = retR k
  | .ret _ => rfl
  | .seq _ k => den_ret P n k
  | .blk _ k => den_ret P n k
  | .loop _ k => den_ret P n k
/-- Behind 'exit id'. -/
def exitK (id : Nat) : Ko → Option Ko
  | .ret _ => none
  | .seq _ k => exitK id k
  | .blk i k => cond (Nat.beq id i) (some k) (exitK id k)
  | .loop _ k => exitK id k
theorem den_exit (P : Program) (n id : Nat) : ∀ (k k' : Ko), exitK id k = some k' → den P n k (.exit id) = den P n k' .normal
  | .ret _, _, h => by simp [exitK] at h
  | .seq _ k, k', h => den_exit P n id k k' h
  | .loop _ k, k', h => den_exit P n id k k' h
  | .blk i k, k', h => by
    simp only [exitK] at h
    funext σ w
    simp only [den]
    cases hb : Nat.beq id i with
    | true =>
      have : id = i := Nat.eq_of_beq_eq_true hb
      simp only [hb, cond_true, Option.some.injEq] at h
      subst h; simp [this]
    | false =>
      have : id ≠ i := fun h => by rw [h, Nat.beq_refl] at hb; cases hb
      simp only [hb, cond_false] at h
      rw [if_neg this, den_exit P n id k k' h]
/-- Behind a normal end: blocks end too. -/
def normK : Ko → Ko
  | .blk _ k => normK k
  | k => k
theorem den_norm (P : Program) (n : Nat) : ∀ (k : Ko), den P n k .normal = den P n (normK k) .normal
  | .blk _ k => by
    have := den_norm P n k
    simp only [normK]; rw [← this]; rfl
  | .ret _ => rfl
  | .seq _ _ => rfl
  | .loop _ _ => rfl
theorem WQ_mono {n : Nat} {Q Q' : Exit → Fr → World → Prop} (h : ∀ e σ w, Q e σ w → Q' e σ w) : ∀ (e : Exit) (a : Act) (w : World), WQ n Q e a w → WQ n Q' e a w := by
  intro e a w hh
  cases e <;> simp only [WQ] at hh ⊢ <;> first | exact hh | (obtain ⟨σ, ha, hq⟩ := hh; exact ⟨σ, ha, h _ _ _ hq⟩)
section code
variable {P : Program} {n : Nat} {σ : Fr} {w : World} {K : Ko}
theorem WP_seq {x y : Code} (h : WP P n x (den P n (.seq y K)) σ w) : WP P n (.seq x y) (den P n K) σ w := by
  intro a ha
  refine wp_seq (Code.wp_mono ?_ (h a ha))
  intro e a' w' hq
  cases e <;> simp only [WQ, Exit.then] at hq ⊢ <;> first | exact hq | (obtain ⟨σ', ha', hq⟩ := hq; exact hq a' ha')
theorem WP_block {id : Nat} {c : Code} (h : WP P n c (den P n (.blk id K)) σ w) : WP P n (.block id c) (den P n K) σ w := by
  intro a ha
  refine wp_block (Code.wp_mono ?_ (h a ha))
  intro e a' w' hq
  cases e <;> simp only [WQ, Exit.inBlock] at hq ⊢ <;> (try exact hq)
  case exit i =>
    obtain ⟨σ', ha', hq⟩ := hq
    simp only [den] at hq
    split
    · rename_i h1; rw [if_pos h1] at hq; exact ⟨σ', ha', hq⟩
    · rename_i h1; rw [if_neg h1] at hq; exact ⟨σ', ha', hq⟩
theorem WP_cond {c : Operand} {x y : Code} {b : Bool} (hc : ev σ c = .bool b) (ht : b = true → WP P n x (den P n K) σ w) (hf : b = false → WP P n y (den P n K) σ w) :
    WP P n (.cond c x y) (den P n K) σ w := by
  intro a ha
  exact wp_cond_split (by rw [ha.ev]; exact hc) (fun h => ht h a ha) (fun h => hf h a ha)
theorem WP_skip (h : den P n K .normal σ w) : WP P n .skip (den P n K) σ w := fun a ha => wp_skip ⟨σ, ha, h⟩
theorem WP_ret (h : den P n K .ret σ w) : WP P n .ret (den P n K) σ w := fun a ha => wp_ret ⟨σ, ha, h⟩
theorem WP_exit {id : Nat} (h : den P n K (.exit id) σ w) : WP P n (.exit id) (den P n K) σ w := fun a ha => wp_exit ⟨σ, ha, h⟩
theorem least (p : Nat → Prop) (h : ∃ m, p m) : ∃ m, p m ∧ ∀ k, p k → m ≤ k := by
  obtain ⟨m, hm⟩ := h
  induction m using Nat.strongRecOn with
  | _ m ih =>
    by_cases h : ∃ k, k < m ∧ p k
    · obtain ⟨k, hk, hp⟩ := h; exact ih k hk hp
    · exact ⟨m, hm, fun k hk => Nat.le_of_not_lt fun hlt => h ⟨k, hlt, hk⟩⟩
theorem WP_loop {c : Code} (I : Nat → Fr → World → Prop) (m : Nat) (h0 : I m σ w)
    (round : ∀ m σ w, I m σ w → WP P n c (den P n (.loop (fun σ' w' => ∃ m', m' < m ∧ I m' σ' w') K)) σ w) : WP P n (.loop c) (den P n K) σ w := by
  intro a ha
  let p : Act → World → Nat → Prop := fun a w m => ∃ σ, Ag n a σ ∧ I m σ w
  let μ : Act → World → Nat := fun a w => open Classical in if h : ∃ m, p a w m then Classical.choose (least _ h) else 0
  have hμ : ∀ a w, (∃ m, p a w m) → p a w (μ a w) ∧ ∀ k, p a w k → μ a w ≤ k := fun a w h => by
    simp only [μ, dif_pos h]; exact Classical.choose_spec (least _ h)
  refine wp_loop (fun a w => ∃ m, p a w m) μ ⟨m, σ, ha, h0⟩ ?_
  intro a w hI
  obtain ⟨⟨σ, ha, hm⟩, hmin⟩ := hμ a w hI
  refine Code.wp_mono ?_ (round _ σ w hm a ha)
  intro e a' w' hq
  cases e <;> simp only [WQ, Exit.then] at hq ⊢ <;> (try exact hq)
  case normal =>
    obtain ⟨σ', ha', m', hlt, hI'⟩ := hq
    have hp : p a' w' m' := ⟨σ', ha', hI'⟩
    exact ⟨⟨m', hp⟩, Nat.lt_of_le_of_lt ((hμ a' w' ⟨m', hp⟩).2 m' hp) hlt⟩
/-- The operations one after the other. -/
def Sch.flat : Sch → List Nat
  | .nil => []
  | .op _ i r => i :: r.flat
  | .alt _ _ => [0, 0]
/-- A region in the order of the text. -/
theorem WP_region {id : Nat} {ops : Array Oper} (s : Sch) (hd : dstOk n ops = true) (hs : s.flat = List.range ops.size)
    (h : wpd P ops (fun _ => True) (den P n K .normal) s σ w) : WP P n (.region id ops false) (den P n K) σ w := by
  intro a ha
  refine wp_region ?_
  rw [← hs]
  have hna : ∀ s : Sch, s.flat.Nodup → ∀ (σ : Fr) (w : World) (a : Act), Ag n a σ → wpd P ops (fun _ => True) (den P n K .normal) s σ w → wpOps P ops (WQ n (den P n K)) s.flat a w := by
    intro s
    induction s with
    | nil => intro _ σ w a ha h; exact ⟨σ, ha, h⟩
    | alt _ _ => intro hn; simp [Sch.flat] at hn
    | op k i r ih =>
      intro hn σ w a ha h
      have ih := ih (by simp only [Sch.flat, List.nodup_cons] at hn; exact hn.2)
      simp only [Sch.flat]
      rw [wpOps_cons]
      cases k with
      | q =>
        obtain ⟨o, v, ho, hy, hrest⟩ := h
        exact stepV_wp (K := fun σ' w' => wpd P ops (fun _ => True) (den P n K .normal) r σ' w') ho ha (dstOk_spec hd ho) (fun a' σ' w' ha' hk => ih σ' w' a' ha' hk) (hy.step trivial hrest)
      | l =>
        obtain ⟨o, ho, hstep⟩ := h
        exact stepV_wp ho ha (dstOk_spec hd ho) (fun a' σ' w' ha' hk => ih σ' w' a' ha' hk.2) hstep
      | f =>
        obtain ⟨o, ho, hstep⟩ := h
        exact stepV_wp ho ha (dstOk_spec hd ho) (fun a' σ' w' ha' hk => ih σ' w' a' ha' hk) hstep
  exact hna s (by rw [hs]; exact List.nodup_range) σ w a ha h
def okDraw (n : Nat) (ops : Array Oper) (s : Sch) : Bool := dstOk n ops && Region.noSelect ops && Nat.ble s.len ops.size && schedOk ops s.fins true s (Array.replicate ops.size false)
/-- A region that draws its order: the schedule's own order serves for all. -/
theorem WP_region_draw {id : Nat} {ops : Array Oper} {S : World → Prop} (s : Sch) (hm : P.follows .mixedOrders = true) (hd : okDraw n ops s = true) (hS : S w.drew)
    (h : wpd P ops S (den P n K .normal) s σ w.drew) : WP P n (.region id ops true) (den P n K) σ w := by
  intro a ha
  simp only [okDraw, Bool.and_eq_true] at hd
  obtain ⟨⟨⟨hd1, hd2⟩, hd3⟩, hd4⟩ := hd
  have h0 := (wpd_any (Q := WQ n (den P n K)) s.fins hd2 hd1 (fun a σ w ha hk => ⟨σ, ha, hk⟩) s ops.size (Array.replicate ops.size false) a σ w.drew
    (Nat.le_of_ble_eq_true hd3) (fun _ h => h) ha (fun _ => hS) h).1 hd4
  have h1 := wp_region_any (id := id) hm (wpAny_of_F _ _ _ _ h0)
  refine Code.wp_mono ?_ h1
  intro e a' w' hq
  cases e <;> exact hq
end code
end Go.Proofs.Ytjengglpbdgmnaa.V
