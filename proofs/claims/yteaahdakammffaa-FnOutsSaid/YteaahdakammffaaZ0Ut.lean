/- The engine, part 1: a frame as a function of its slots, weakest conditions over it, and regions in whatever order the model draws. No condition. -/
import Derived.WalkKit
import Derived.Orders
import Derived.Below
import Derived.OrdersIn
import Derived.TacticsIn
import Derived.RangeFuncIn
import Derived.RangeFuncRecord
import Derived.RangeFuncLeaves
namespace Go.Proofs.Yteaahdakammffaa.V
open Go Go.RowKit
set_option linter.unusedVariables false
abbrev Fr := Nat → Value
def upd (σ : Fr) (d : Nat) (v : Value) : Fr := fun t => cond (Nat.beq t d) v (σ t)
def put (σ : Fr) (dst : Option Nat) (v : Value) : Fr := match dst with | some d => upd σ d v | none => σ
def ev (σ : Fr) : Operand → Value
  | .tmp t => σ t
  | .const v => v
  | .global g => .pointer (some ⟨g, 0, none⟩)
  | .func f => .func (.func f) #[] #[]
/-- Some slots are known. -/
def ups (σ : Fr) : List (Nat × Value) → Fr
  | [] => σ
  | (d, v) :: r => upd (ups σ r) d v
def knows (σ : Fr) : List (Nat × Value) → Prop
  | [] => True
  | (d, v) :: r => σ d = v ∧ knows σ r
theorem upd_same (σ : Fr) (d : Nat) (v : Value) : upd σ d v d = v := by simp [upd]
theorem upd_other (σ : Fr) {d t : Nat} (v : Value) (h : t ≠ d) : upd σ d v t = σ t := by
  have : Nat.beq t d = false := by
    cases hb : Nat.beq t d with
    | true => exact absurd (Nat.eq_of_beq_eq_true hb) h
    | false => rfl
  simp [upd, this]
theorem ups_of_knows (σ : Fr) (l : List (Nat × Value)) (h : knows σ l) : ups σ l = σ := by
  induction l with
  | nil => rfl
  | cons p r ih =>
    obtain ⟨d, v⟩ := p
    obtain ⟨h1, h2⟩ := h
    funext t
    simp only [ups, ih h2, upd]
    cases hb : Nat.beq t d with
    | false => rfl
    | true =>
      have : t = d := Nat.eq_of_beq_eq_true hb
      subst this; simp [h1]
/-- The fence that lets all by; 'ro': the round in which the frame is. -/
def FW (ro : Option Nat) : Fence := { fn := fun _ => True, depth := none, alive := false, round := ro }
theorem calls_FW {ro : Option Nat} {m : Nat} {P : Program} {f : FuncId} {args : Array Value} {w : World} {R : Ending → World → Prop} : CallsIn (FW ro) m P f args w R ↔ Calls P f args w R :=
  show CallsIn Fence.wide m P f args w R ↔ _ from callsIn_wide
def notDefer : Op → Bool
  | .defer _ => false
  | _ => true
theorem semAt_any (ro : Option Nat) (ρ : Operand → Value) {o : Oper} (h : notDefer o.op = true) : o.semAt ro ρ = execOp ρ o := by
  cases ro with
  | none => rfl
  | some l => exact Oper.semAt_some l ρ o fun c e => by rw [e] at h; cases h
structure Ag (n : Nat) (ds : List Deferred) (a : Act) (σ : Fr) : Prop where
  size : a.tmps.size = n
  df : a.defers = ds
  at_ : ∀ t, a.tmps.getD t undef = σ t
theorem Ag.ev {n : Nat} {ds : List Deferred} {a : Act} {σ : Fr} (h : Ag n ds a σ) : a.eval = ev σ := by
  funext x
  cases x with
  | tmp t => exact h.at_ t
  | _ => rfl
theorem Ag.put {n : Nat} {ds : List Deferred} {a : Act} {σ : Fr} (h : Ag n ds a σ) (dst : Option Nat) (hd : ∀ d, dst = some d → d < n) (v : Value) : Ag n ds (a.put dst v) (put σ dst v) := by
  cases dst with
  | none => exact h
  | some d =>
    refine ⟨by simp [Act.put, h.size], h.df, fun t => ?_⟩
    simp only [Act.put, V.put]
    by_cases ht : t = d
    · subst ht
      have hlt : t < a.tmps.size := by rw [h.size]; exact hd t rfl
      rw [upd_same]; simp [hlt]
    · rw [upd_other _ _ ht, ← h.at_ t]
      simp [Array.getElem?_setIfInBounds_ne (Ne.symm ht)]
def yl (ops : Array Oper) (σ : Fr) (j : Nat) : Option Bool :=
  match (ops[j]?).bind (·.dst) with
  | none => none
  | some t => match σ t with
    | .bool b => some b
    | _ => none
theorem Ag.yl {n : Nat} {ds : List Deferred} {a : Act} {σ : Fr} (h : Ag n ds a σ) (ops : Array Oper) : yielded ops a.tmps = yl ops σ := by
  funext j
  unfold yielded V.yl
  cases hd : (ops[j]?).bind (·.dst) with
  | none => simp
  | some t =>
    simp only [Option.bind_some]
    rw [← h.at_ t]
    cases ht : a.tmps[t]? with
    | none => simp [ht, undef]
    | some v => cases v <;> simp [ht]
/-- One operation, not looking at its guard. -/
def opw (P : Program) (o : Oper) (σ : Fr) (w : World) (K : Fr → World → Prop) : Prop :=
  match (execOp (ev σ) o).run P w with
  | .ok (.value v) w' => K (put σ o.dst v) w'
  | .ok .skip w' => K (put σ o.dst undef) w'
  | .ok (.enter f args) w' => Calls P f args w' fun e w'' => ∃ v, e = .returned v ∧ K (put σ o.dst v) w''
  | .ok (.round l f tmps assign body) w' => RoundIn Fence.wide 0 P l f tmps assign body w' fun e w'' => ∃ v, e = .returned v ∧ K (put σ o.dst v) w''
  | _ => False
theorem opw_mono {P : Program} {o : Oper} {σ : Fr} {w : World} {K K' : Fr → World → Prop} (h : ∀ σ w, K σ w → K' σ w) (hh : opw P o σ w K) : opw P o σ w K' := by
  unfold opw at *
  split at hh <;> (first | exact h _ _ hh | exact hh.elim | skip)
  · exact Calls.mono hh fun e w' ⟨v, he, hk⟩ => ⟨v, he, h _ _ hk⟩
  · exact RoundIn.mono hh fun e w' ⟨v, he, hk⟩ => ⟨v, he, h _ _ hk⟩
theorem opw_wp {ro : Option Nat} {P : Program} {n : Nat} {ds : List Deferred} {o : Oper} {a : Act} {σ : Fr} {w : World} {K : Fr → World → Prop} {KA : Act → World → Prop} {Q : Exit → Act → World → Prop}
    (hnd : notDefer o.op = true) (ha : Ag n ds a σ) (hd : ∀ d, o.dst = some d → d < n) (hk : ∀ a' σ' w', Ag n ds a' σ' → K σ' w' → KA a' w') (h : opw P o σ w K) : o.wpIn (FW ro) 0 P a w KA Q := by
  refine ⟨fun _ _ => trivial, ?_⟩
  unfold opw at h
  rw [semAt_any _ _ hnd, ha.ev]
  generalize (execOp (ev σ) o).run P w = r at *
  cases r with
  | halt x w' => exact h.elim
  | ok nx w' =>
    cases nx <;> simp only [Oper.uponIn] at h ⊢ <;> try exact h.elim
    case value v => exact hk _ _ _ (ha.put _ hd v) h
    case skip => exact hk _ _ _ (ha.put _ hd undef) h
    case enter f args =>
      refine ⟨fun h => (by cases h), calls_FW.2 (Calls.mono h fun e w'' ⟨v, he, hk'⟩ => ?_)⟩
      subst he
      exact hk _ _ _ (ha.put _ hd v) hk'
    case round l f tmps assign body =>
      refine ⟨fun h => (by cases h), RoundIn.mono (show RoundIn (FW ro) 0 P l f tmps assign body w' _ from h) fun e w'' ⟨v, he, hk'⟩ => ?_⟩
      subst he
      exact hk _ _ _ (ha.put _ hd v) hk'
/-- One operation of a region, its guard looked at. -/
def stepV (P : Program) (ops : Array Oper) (o : Oper) (σ : Fr) (w : World) (K : Fr → World → Prop) : Prop :=
  if Region.wanted o (yl ops σ) then opw P o σ w K else K (put σ o.dst undef) w
theorem stepV_wp {ro : Option Nat} {P : Program} {n : Nat} {ds : List Deferred} {ops : Array Oper} {i : Nat} {o : Oper} {a : Act} {σ : Fr} {w : World} {K : Fr → World → Prop} {KA : Act → World → Prop} {Q : Exit → Act → World → Prop}
    (ho : ops[i]? = some o) (hnd : notDefer o.op = true) (ha : Ag n ds a σ) (hd : ∀ d, o.dst = some d → d < n) (hk : ∀ a' σ' w', Ag n ds a' σ' → K σ' w' → KA a' w') (h : stepV P ops o σ w K) :
    wpOpIn (FW ro) 0 P ops Q i KA a w := by
  unfold wpOpIn
  simp only [ho]
  unfold stepV at h
  rw [ha.yl ops]
  split
  · rename_i hw; rw [if_pos hw] at h; exact opw_wp hnd ha hd hk h
  · rename_i hw; rw [if_neg hw] at h; exact ⟨fun _ _ => trivial, hk _ _ _ (ha.put _ hd undef) h⟩
/-- An operation that yields 'v' in every world that meets S, and turns none. -/
def QY (P : Program) (ops : Array Oper) (S : World → Prop) (o : Oper) (σ : Fr) (v : Value) : Prop :=
  (Region.wanted o (yl ops σ) = true ∧ ∀ w, S w → (execOp (ev σ) o).run P w = .ok (.value v) w) ∨ (Region.wanted o (yl ops σ) = false ∧ v = undef)
theorem QY.step {P : Program} {ops : Array Oper} {S : World → Prop} {o : Oper} {σ : Fr} {v : Value} {w : World} {K : Fr → World → Prop}
    (h : QY P ops S o σ v) (hS : S w) (hk : K (put σ o.dst v) w) : stepV P ops o σ w K := by
  unfold stepV
  rcases h with ⟨h1, h2⟩ | ⟨h1, rfl⟩
  · rw [if_pos h1]; unfold opw; rw [h2 w hS]; exact hk
  · rw [if_neg (by simp [h1])]; exact hk
/-! ### Whatever order is drawn -/
section draw
variable {ro : Option Nat} {P : Program} {ops : Array Oper} {Q : Exit → Act → World → Prop} {md : Region.Mode} {S : World → Prop} {fin : Nat → Bool}
/-- 'S' holds behind every operation that is carried out, but for those that 'fin' marks. -/
def wpAnyF (ro : Option Nat) (P : Program) (md : Region.Mode) (ops : Array Oper) (Q : Exit → Act → World → Prop) (S : World → Prop) (fin : Nat → Bool) : Nat → Array Bool → Act → World → Prop
  | 0, listed, a, w => Region.ready md ops listed = [] ∧ Q .normal a w
  | fuel + 1, listed, a, w =>
    (Region.ready md ops listed = [] → Q .normal a w) ∧
    ∀ i ∈ Region.ready md ops listed, wpOpIn (FW ro) 0 P ops Q i (fun a' w' => (fin i = false → S w') ∧ wpAnyF ro P md ops Q S fin fuel (listed.setIfInBounds i true) a' w') a w
theorem wpAny_of_F : ∀ (fuel : Nat) (listed : Array Bool) (a : Act) (w : World), wpAnyF ro P md ops Q S fin fuel listed a w → wpAnyIn (FW ro) 0 P md ops Q fuel listed a w
  | 0, _, _, _, h => h
  | fuel + 1, _, _, _, h => ⟨h.1, fun i hi => wpOpIn_mono (fun a' w' h' => wpAny_of_F fuel _ a' w' h'.2) (h.2 i hi)⟩
def YieldsS (P : Program) (ops : Array Oper) (S : World → Prop) (o : Oper) (v : Value) (a : Act) : Prop :=
  (Region.wanted o (yielded ops a.tmps) = true ∧ ∀ w, S w → (execOp a.eval o).run P w = .ok (.value v) w) ∨
  (Region.wanted o (yielded ops a.tmps) = false ∧ v = undef)
theorem YieldsS.wpOp {i : Nat} {o : Oper} {v : Value} {a : Act} (hnd : notDefer o.op = true) (hi : ops[i]? = some o) (hy : YieldsS P ops S o v a)
    {K : Act → World → Prop} {w : World} (hS : S w) (h : K (a.put o.dst v) w) : wpOpIn (FW ro) 0 P ops Q i K a w := by
  unfold Go.wpOpIn
  simp only [hi]
  rcases hy with ⟨hw, hv⟩ | ⟨hw, rfl⟩
  · simp only [hw, if_true, Oper.wpIn, semAt_any _ _ hnd, hv w hS, Oper.uponIn]; exact ⟨fun _ _ => trivial, h⟩
  · simp only [hw, Bool.false_eq_true, if_false]; exact ⟨fun _ _ => trivial, h⟩
theorem YieldsS.of_same {o : Oper} {v : Value} {a a' : Act} (hy : YieldsS P ops S o v a) (he : execOp a'.eval o = execOp a.eval o)
    (hw : Region.wanted o (yielded ops a'.tmps) = Region.wanted o (yielded ops a.tmps)) : YieldsS P ops S o v a' := by
  unfold YieldsS at *
  rw [he, hw]
  exact hy
theorem wpOp_putS {j : Nat} {oi oj : Oper} {v : Value} (hj : ops[j]? = some oj) (hndj : notDefer oj.op = true) (hap : oi.apart ops oj = true)
    (hsi : ∀ cs b, oi.op ≠ .select cs b) (hsj : ∀ cs b, oj.op ≠ .select cs b)
    (hQ : ∀ c a w, Q (.panic c) (a.put oi.dst v) w → Q (.panic c) a w) {K : Act → World → Prop} {a : Act} {w : World}
    (hy : YieldsS P ops S oi v a) (h : wpOpIn (FW ro) 0 P ops Q j K (a.put oi.dst v) w) :
    wpOpIn (FW ro) 0 P ops Q j (fun a' w' => YieldsS P ops S oi v a' ∧ K (a'.put oi.dst v) w') a w := by
  obtain ⟨h1, h2, h3⟩ := Oper.apart_spec hap
  have keep : ∀ (a : Act), YieldsS P ops S oi v a → ∀ u, YieldsS P ops S oi v (a.put oj.dst u) := fun a hy u =>
    hy.of_same (execOp_put oi hsi a oj.dst u h3) (wanted_put oi a oj.dst u h3)
  have keepD : ∀ d, YieldsS P ops S oi v { a with defers := d :: a.defers } := fun d => hy.of_same rfl rfl
  unfold wpOpIn at *
  simp only [hj] at *
  rw [wanted_put oj a oi.dst v h1] at h
  split
  · rename_i hw
    simp only [hw, if_true] at h
    unfold Oper.wpIn at *
    refine ⟨fun _ _ => trivial, ?_⟩
    have h := h.2
    rw [semAt_any _ _ hndj, execOp_put oj hsj a oi.dst v h1] at h
    rw [semAt_any _ _ hndj]
    generalize (execOp a.eval oj).run P w = r at *
    cases r with
    | ok x w' =>
      cases x <;> simp only [Oper.uponIn] at h ⊢
      case value u => exact ⟨keep a hy u, by rw [← Act.put_comm a v u h2]; exact h⟩
      case skip => exact ⟨keep a hy _, by rw [← Act.put_comm a v undef h2]; exact h⟩
      case defer d =>
        refine ⟨keep _ (keepD d) _, ?_⟩
        rw [← Act.put_comm _ v undef h2, ← Act.put_defers]
        exact h
      case enter f args =>
        refine ⟨h.1, CallsIn.mono h.2 fun e w'' he => ?_⟩
        cases e with
        | returned u => exact ⟨keep a hy u, by rw [← Act.put_comm a v u h2]; exact he⟩
        | panicked c => exact hQ _ _ _ he
        | outgrown => exact he
      case row row args => exact ⟨h.1, RowsIn.mono h.2 fun u w'' he => ⟨keep a hy u, by rw [← Act.put_comm a v u h2]; exact he⟩⟩
      case round l f tmps assign body =>
        refine ⟨h.1, RoundIn.mono h.2 fun e w'' he => ?_⟩
        cases e with
        | returned u => exact ⟨keep a hy u, by rw [← Act.put_comm a v u h2]; exact he⟩
        | panicked c => exact hQ _ _ _ he
        | outgrown => exact he
    | halt x w' =>
      cases x <;> simp only [Oper.uponIn] at h ⊢
      case panic u => exact hQ _ _ _ h
  · rename_i hw
    simp only [hw] at h
    exact ⟨fun _ _ => trivial, keep a hy _, by rw [← Act.put_comm a v undef h2]; exact h.2⟩
theorem wpAnyF_first {i : Nat} {oi : Oper} {v : Value} (hi : ops[i]? = some oi) (hnd : ∀ (j : Nat) (o : Oper), ops[j]? = some o → notDefer o.op = true) (hsel : ∀ (j : Nat) (o : Oper) cs b, ops[j]? = some o → o.op ≠ .select cs b)
    (hQ : ∀ c a w, Q (.panic c) (a.put oi.dst v) w → Q (.panic c) a w)
    (hfin : ∀ (j : Nat) (o : Oper), ops[j]? = some o → fin j = true → ∃ e ∈ o.after, Region.binds md e = true ∧ e.on = i) :
    ∀ (fuel : Nat) (listed : Array Bool) (a : Act) (w : World),
      (∀ j oj, ops[j]? = some oj → j ≠ i → listed.getD j true = false → (∀ e ∈ oj.after, Region.binds md e = true → e.on ≠ i) → oi.apart ops oj = true) →
      i ∈ Region.ready md ops listed → YieldsS P ops S oi v a → S w →
      wpAnyF ro P md ops Q S fin fuel (listed.setIfInBounds i true) (a.put oi.dst v) w → wpAnyF ro P md ops Q S fin (fuel + 1) listed a w := by
  intro fuel
  induction fuel with
  | zero =>
    intro listed a w _ hr hy hS H
    refine ⟨fun h => (by rw [h] at hr; cases hr), fun j hj => ?_⟩
    by_cases hji : j = i
    · subst hji; exact hy.wpOp (hnd _ _ hi) hi hS ⟨fun _ => hS, H⟩
    · have := ready_mono hj hji
      rw [H.1] at this
      cases this
  | succ fuel ih =>
    intro listed a w hfree hr hy hS H
    refine ⟨fun h => (by rw [h] at hr; cases hr), fun j hj => ?_⟩
    by_cases hji : j = i
    · subst hji; exact hy.wpOp (hnd _ _ hi) hi hS ⟨fun _ => hS, H⟩
    · have h1 := H.2 j (ready_mono hj hji)
      obtain ⟨hjun, oj, hoj, hall⟩ := mem_ready.1 hj
      have hnot : ∀ e ∈ oj.after, Region.binds md e = true → e.on ≠ i := fun e he hb heq => by
        have h1 := hall e he hb
        have h0 := (mem_ready.1 hr).1
        rw [heq] at h1
        rcases Nat.lt_or_ge i listed.size with h' | h'
        · simp [h'] at h0 h1; rw [h0] at h1; cases h1
        · simp [Array.getElem?_eq_none h'] at h1
      have hjf : fin j = false := by
        cases hf : fin j with
        | false => rfl
        | true =>
          obtain ⟨e, he, hb, hon⟩ := hfin j oj hoj hf
          exact absurd hon (hnot e he hb)
      have h2 := wpOp_putS hoj (hnd _ _ hoj) (hfree j oj hoj hji hjun hnot) (fun cs b => hsel i oi cs b hi) (fun cs b => hsel j oj cs b hoj) hQ hy h1
      have hfree' : ∀ k ok, ops[k]? = some ok → k ≠ i → (listed.setIfInBounds j true).getD k true = false →
          (∀ e ∈ ok.after, Region.binds md e = true → e.on ≠ i) → oi.apart ops ok = true := fun k ok hk hki hun hno => by
        refine hfree k ok hk hki ?_ hno
        by_cases hjk : j = k
        · subst hjk; exact hjun
        · rw [getD_set_ne true hjk] at hun; exact hun
      refine wpOpIn_mono (fun a' w' h3 => ⟨fun _ => h3.2.1 hjf, ih (listed.setIfInBounds j true) a' w' hfree' (ready_mono hr (Ne.symm hji)) h3.1 (h3.2.1 hjf) ?_⟩) h2
      rw [Array.setIfInBounds_comm _ _ hji]
      exact h3.2.2
end draw
/-- How an operation is taken in a schedule: 'q': it yields a value and turns nothing; 'l': it may turn the world; 'f': it may turn what the 'q's read, and waits for all of them. -/
inductive Kd where
  | q | l | f
  deriving DecidableEq
/-- A schedule: operations one after the other; 'alt' where more than one of those that may turn the world may come up. -/
inductive Sch where
  | nil
  | op (k : Kd) (i : Nat) (r : Sch)
  | alt (a b : Sch)
abbrev sq (i : Nat) (r : Sch) : Sch := .op .q i r
abbrev sl (i : Nat) (r : Sch) : Sch := .op .l i r
abbrev sf (i : Nat) (r : Sch) : Sch := .op .f i r
abbrev sz : Sch := .nil
def Sch.fins : Sch → List Nat
  | .nil => []
  | .op .f i r => i :: r.fins
  | .op _ _ r => r.fins
  | .alt a b => a.fins ++ b.fins
def Sch.heads : Sch → List Nat
  | .nil => []
  | .op _ i _ => [i]
  | .alt a b => a.heads ++ b.heads
def Sch.noQ : Sch → Bool
  | .nil => true
  | .op k _ r => k != .q && r.noQ
  | .alt a b => a.noQ && b.noQ
def Sch.len : Sch → Nat
  | .nil => 0
  | .op _ _ r => r.len + 1
  | .alt a b => max a.len b.len
/-- The schedule fits the region: whatever order is drawn comes to the schedule's own. -/
def schedOk (ops : Array Oper) (fins : List Nat) : Bool → Sch → Array Bool → Bool
  | top, .nil, listed => top && (Region.ready .any ops listed).isEmpty
  | top, .op .q i r, listed => top && Region.free .any ops listed i && (Region.ready .any ops listed).contains i &&
      (fins.all fun j => match ops[j]? with | some o => o.after.any (fun e => Region.binds .any e && e.on == i) | none => true) && schedOk ops fins true r (listed.setIfInBounds i true)
  | top, .op k i r, listed => (!top || Region.ready .any ops listed == [i]) && (k != .f || r.noQ) && schedOk ops fins true r (listed.setIfInBounds i true)
  | top, .alt a b, listed => (!top || Region.ready .any ops listed == a.heads ++ b.heads) && schedOk ops fins false a listed && schedOk ops fins false b listed
def dstOk (n : Nat) (ops : Array Oper) : Bool := ops.all fun o => (match o.dst with | some d => Nat.blt d n | none => true) && notDefer o.op
theorem dstOk_nd {n : Nat} {ops : Array Oper} (h : dstOk n ops = true) {i : Nat} {o : Oper} (ho : ops[i]? = some o) : notDefer o.op = true := by
  have := Array.all_eq_true_iff_forall_mem.1 h o (Array.mem_of_getElem? ho)
  simp only [Bool.and_eq_true] at this
  exact this.2
theorem dstOk_spec {n : Nat} {ops : Array Oper} (h : dstOk n ops = true) {i : Nat} {o : Oper} (ho : ops[i]? = some o) : ∀ d, o.dst = some d → d < n := by
  intro d hd
  have := Array.all_eq_true_iff_forall_mem.1 h o (Array.mem_of_getElem? ho)
  simp only [hd, Bool.and_eq_true] at this
  exact Nat.le_of_ble_eq_true this.1
/-- A region in its schedule's order. -/
def wpd (P : Program) (ops : Array Oper) (S : World → Prop) (K : Fr → World → Prop) : Sch → Fr → World → Prop
  | .nil, σ, w => K σ w
  | .op .q i r, σ, w => ∃ o v, ops[i]? = some o ∧ QY P ops S o σ v ∧ wpd P ops S K r (put σ o.dst v) w
  | .op .l i r, σ, w => ∃ o, ops[i]? = some o ∧ stepV P ops o σ w fun σ' w' => S w' ∧ wpd P ops S K r σ' w'
  | .op .f i r, σ, w => ∃ o, ops[i]? = some o ∧ stepV P ops o σ w fun σ' w' => wpd P ops S K r σ' w'
  | .alt a b, σ, w => wpd P ops S K a σ w ∧ wpd P ops S K b σ w
/-- The way out of a region that is shown not to panic. -/
def NP (Q : Exit → Act → World → Prop) : Exit → Act → World → Prop := fun e a w => match e with | .panic _ => False | e => Q e a w
theorem wpd_any {ro : Option Nat} {P : Program} {n : Nat} {ds : List Deferred} {ops : Array Oper} {S : World → Prop} {K : Fr → World → Prop} {Q : Exit → Act → World → Prop} (fins : List Nat)
    (hsel : Region.noSelect ops = true) (hd : dstOk n ops = true) (hK : ∀ a σ w, Ag n ds a σ → K σ w → Q .normal a w) :
    ∀ (s : Sch) (fuel : Nat) (listed : Array Bool) (a : Act) (σ : Fr) (w : World), s.len ≤ fuel → (∀ i ∈ s.fins, i ∈ fins) → Ag n ds a σ → (s.noQ = false → S w) → wpd P ops S K s σ w →
      (schedOk ops fins true s listed = true → wpAnyF ro P .any ops (NP Q) S (fun i => fins.contains i) fuel listed a w) ∧
      (schedOk ops fins false s listed = true → s = .nil ∨ (0 < s.len ∧ ∀ i ∈ s.heads, wpOpIn (FW ro) 0 P ops (NP Q) i (fun a' w' => ((fins.contains i) = false → S w') ∧ wpAnyF ro P .any ops (NP Q) S (fun i => fins.contains i) (fuel - 1) (listed.setIfInBounds i true) a' w') a w)) := by
  intro s
  induction s with
  | nil =>
    intro fuel listed a σ w hf hm ha hS h
    refine ⟨fun hs => ?_, fun _ => .inl rfl⟩
    have hr : Region.ready .any ops listed = [] := by simpa [schedOk] using hs
    cases fuel with
    | zero => exact ⟨hr, hK a σ w ha h⟩
    | succ fuel => exact ⟨fun _ => hK a σ w ha h, by rw [hr]; simp⟩
  | op k i r ih =>
    intro fuel listed a σ w hf hm ha hS h
    cases fuel with
    | zero => simp [Sch.len] at hf
    | succ fuel =>
      have hlen : r.len ≤ fuel := by simpa [Sch.len] using hf
      cases k with
      | q =>
        refine ⟨fun hs => ?_, fun hs => by simp [schedOk] at hs⟩
        simp only [schedOk, Bool.and_eq_true] at hs
        obtain ⟨⟨⟨⟨_, hfr⟩, hrd⟩, hfs⟩, hs3⟩ := hs
        obtain ⟨o, v, ho, hy, hrest⟩ := h
        have hSw : S w := hS rfl
        refine wpAnyF_first (v := v) ho (fun j o hj => dstOk_nd hd hj) (Region.noSelect_spec hsel) (fun _ _ _ h => h) (fun j oj hoj hj => ?_) fuel listed a w (Region.free_spec ho hfr) (by simpa using hrd) ?_ hSw ?_
        · have hmem : j ∈ fins := by simpa using hj
          have := List.all_eq_true.1 hfs _ hmem
          simp only [hoj] at this
          obtain ⟨e, he, hb⟩ := Array.any_eq_true'.1 this
          simp only [Bool.and_eq_true, beq_iff_eq] at hb
          exact ⟨e, he, hb.1, hb.2⟩
        · rcases hy with ⟨h1, h2⟩ | ⟨h1, h2⟩
          · exact .inl ⟨by rw [ha.yl]; exact h1, fun w hw => by rw [ha.ev]; exact h2 w hw⟩
          · exact .inr ⟨by rw [ha.yl]; exact h1, h2⟩
        · exact (ih fuel _ _ _ w hlen hm (ha.put _ (dstOk_spec hd ho) v) (fun _ => hSw) hrest).1 hs3
      | l =>
        obtain ⟨o, ho, hstep⟩ := h
        have hone : schedOk ops fins true r (listed.setIfInBounds i true) = true → wpOpIn (FW ro) 0 P ops (NP Q) i (fun a' w' => ((fins.contains i) = false → S w') ∧ wpAnyF ro P .any ops (NP Q) S (fun i => fins.contains i) fuel (listed.setIfInBounds i true) a' w') a w := fun hs3 =>
          stepV_wp ho (dstOk_nd hd ho) ha (dstOk_spec hd ho) (fun a' σ' w' ha' hk => ⟨fun _ => hk.1, (ih fuel _ _ _ w' hlen hm ha' (fun _ => hk.1) hk.2).1 hs3⟩) hstep
        constructor
        · intro hs
          simp only [schedOk, Bool.and_eq_true, Bool.not_true, Bool.false_or, beq_iff_eq] at hs
          refine ⟨fun h0 => (by rw [h0] at hs; simp at hs), fun j hj => ?_⟩
          rw [hs.1.1] at hj
          have hj' : j = i := by simpa using hj
          subst hj'
          exact hone hs.2
        · intro hs
          simp only [schedOk, Bool.and_eq_true] at hs
          refine .inr ⟨by simp [Sch.len], fun j hj => ?_⟩
          have hj' : j = i := by simpa [Sch.heads] using hj
          subst hj'
          exact hone hs.2
      | f =>
        obtain ⟨o, ho, hstep⟩ := h
        have hfi : fins.contains i = true := by simpa using hm i (by simp [Sch.fins])
        have hm' : ∀ j ∈ r.fins, j ∈ fins := fun j hj => hm j (by simp [Sch.fins, hj])
        have hone : r.noQ = true → schedOk ops fins true r (listed.setIfInBounds i true) = true → wpOpIn (FW ro) 0 P ops (NP Q) i (fun a' w' => ((fins.contains i) = false → S w') ∧ wpAnyF ro P .any ops (NP Q) S (fun i => fins.contains i) fuel (listed.setIfInBounds i true) a' w') a w := fun hn hs3 =>
          stepV_wp ho (dstOk_nd hd ho) ha (dstOk_spec hd ho) (fun a' σ' w' ha' hk => ⟨fun h0 => (by rw [hfi] at h0; cases h0), (ih fuel _ _ _ w' hlen hm' ha' (fun h0 => by rw [hn] at h0; cases h0) hk).1 hs3⟩) hstep
        constructor
        · intro hs
          simp only [schedOk, Bool.and_eq_true, Bool.not_true, Bool.false_or, beq_iff_eq] at hs
          refine ⟨fun h0 => (by rw [h0] at hs; simp at hs), fun j hj => ?_⟩
          rw [hs.1.1] at hj
          have hj' : j = i := by simpa using hj
          subst hj'
          exact hone (by simpa using hs.1.2) hs.2
        · intro hs
          simp only [schedOk, Bool.and_eq_true] at hs
          refine .inr ⟨by simp [Sch.len], fun j hj => ?_⟩
          have hj' : j = i := by simpa [Sch.heads] using hj
          subst hj'
          exact hone (by simpa using hs.1.2) hs.2
  | alt x y ihx ihy =>
    intro fuel listed a σ w hf hm ha hS h
    obtain ⟨h1, h2⟩ := h
    have hfx : x.len ≤ fuel := Nat.le_trans (Nat.le_max_left _ _) (by simpa [Sch.len] using hf)
    have hfy : y.len ≤ fuel := Nat.le_trans (Nat.le_max_right _ _) (by simpa [Sch.len] using hf)
    have hx := ihx fuel listed a σ w hfx (fun i hi => hm i (by simp [Sch.fins, hi])) ha (fun h0 => hS (by simp [Sch.noQ, h0])) h1
    have hy := ihy fuel listed a σ w hfy (fun i hi => hm i (by simp [Sch.fins, hi])) ha (fun h0 => hS (by simp [Sch.noQ, h0])) h2
    have both : schedOk ops fins false x listed = true → schedOk ops fins false y listed = true → (x = .nil ∧ y = .nil) ∨ (0 < max x.len y.len ∧ ∀ i ∈ x.heads ++ y.heads, wpOpIn (FW ro) 0 P ops (NP Q) i (fun a' w' => ((fins.contains i) = false → S w') ∧ wpAnyF ro P .any ops (NP Q) S (fun i => fins.contains i) (fuel - 1) (listed.setIfInBounds i true) a' w') a w) := by
      intro hsx hsy
      rcases hx.2 hsx with rfl | ⟨lx, hx'⟩ <;> rcases hy.2 hsy with rfl | ⟨ly, hy'⟩
      · exact .inl ⟨rfl, rfl⟩
      · exact .inr ⟨by omega, fun i hi => hy' i (by simpa [Sch.heads] using hi)⟩
      · exact .inr ⟨by omega, fun i hi => hx' i (by simpa [Sch.heads] using hi)⟩
      · exact .inr ⟨by omega, fun i hi => (List.mem_append.1 hi).elim (hx' i) (hy' i)⟩
    constructor
    · intro hs
      simp only [schedOk, Bool.and_eq_true, Bool.not_true, Bool.false_or, beq_iff_eq] at hs
      rcases both hs.1.2 hs.2 with ⟨rfl, rfl⟩ | ⟨hl, hb⟩
      · have hr : Region.ready .any ops listed = [] := by simpa [Sch.heads] using hs.1.1
        cases fuel with
        | zero => exact ⟨hr, hK a σ w ha h1⟩
        | succ fuel => exact ⟨fun _ => hK a σ w ha h1, by rw [hr]; simp⟩
      · cases fuel with
        | zero => simp only [Sch.len] at hf; omega
        | succ fuel =>
          refine ⟨fun h0 => ?_, fun j hj => hb j (by rw [← hs.1.1]; exact hj)⟩
          exfalso
          have he : x.heads ++ y.heads = [] := by rw [← hs.1.1, h0]
          have nn : ∀ s : Sch, schedOk ops fins false s listed = true → s.heads = [] → schedOk ops fins true .nil listed = true := fun _ _ _ => by simp [schedOk, h0]
          have emp : ∀ s : Sch, 0 < s.len → s.heads ≠ [] := by
            intro s
            induction s with
            | nil => simp [Sch.len]
            | op k i r _ => simp [Sch.heads]
            | alt a b iha ihb =>
              intro hl hh
              simp only [Sch.heads, List.append_eq_nil_iff] at hh
              have : 0 < a.len ∨ 0 < b.len := by simp only [Sch.len] at hl; omega
              exact this.elim (fun h => iha h hh.1) (fun h => ihb h hh.2)
          simp only [List.append_eq_nil_iff] at he
          have : 0 < x.len ∨ 0 < y.len := by omega
          exact this.elim (fun h => emp x h he.1) (fun h => emp y h he.2)
    · intro hs
      simp only [schedOk, Bool.and_eq_true] at hs
      rcases both hs.1.2 hs.2 with ⟨rfl, rfl⟩ | hb
      · exact absurd hs.1.2 (by simp [schedOk])
      · exact .inr hb
/-! ### Weakest conditions of code -/
/-- Where code runs: how many slots; in which round; the calls that are deferred. -/
structure Cx where
  n : Nat
  ro : Option Nat
  ds : List Deferred
/-- What a post says of a frame, said of the machine's own frame: no panic. -/
def WQ (n : Nat) (Q : List Deferred → Exit → Fr → World → Prop) : Exit → Act → World → Prop
  | .panic _, _, _ => False
  | .outgrown, _, _ => False
  | e, a, w => ∃ ds σ, Ag n ds a σ ∧ Q ds e σ w
def WP (P : Program) (x : Cx) (c : Code) (Q : List Deferred → Exit → Fr → World → Prop) (σ : Fr) (w : World) : Prop := ∀ a, Ag x.n x.ds a σ → c.wpIn (FW x.ro) 0 P (WQ x.n Q) a w
def mark (D : Nat) : Deferred := { target := .collected D, args := #[] }
/-- A function is left: the blocks for deferred calls are shut, one after the other. -/
def Leave : List Deferred → (World → Prop) → World → Prop
  | [], R, w => R w
  | d :: ds, R, w => ∃ D, d = mark D ∧ w.heap[D]? = some (.deferred (some [])) ∧ Leave ds R (w.putObj D (.deferred none))
/-- What follows a piece of code. -/
inductive Ko where
  | ret (R : Fr → World → Prop)
  | rnd (Q : Exit → World → Prop)
  | seq (c : Code) (k : Ko)
  | blk (id : Nat) (k : Ko)
  | loop (ds : List Deferred) (J : Fr → World → Prop) (k : Ko)
  | asn (l : Nat) (c : Code) (k : Ko)
def den (P : Program) (n : Nat) (ro : Option Nat) : Ko → List Deferred → Exit → Fr → World → Prop
  | .ret R, ds, .normal, σ, w => Leave ds (R σ) w
  | .ret R, ds, .ret, σ, w => Leave ds (R σ) w
  | .ret _, _, _, _, _ => False
  | .rnd Q, _, e, _, w => Q e w
  | .seq c k, ds, .normal, σ, w => WP P ⟨n, ro, ds⟩ c (den P n ro k) σ w
  | .seq _ k, ds, e, σ, w => den P n ro k ds e σ w
  | .blk _ k, ds, .normal, σ, w => den P n ro k ds .normal σ w
  | .blk id k, ds, .exit i, σ, w => if i = id then den P n ro k ds .normal σ w else den P n ro k ds (.exit i) σ w
  | .blk _ k, ds, e, σ, w => den P n ro k ds e σ w
  | .loop d0 J _, ds, .normal, σ, w => ds = d0 ∧ J σ w
  | .loop _ _ k, ds, e, σ, w => den P n ro k ds e σ w
  | .asn l c k, ds, .normal, σ, w => ∃ w', (Instr.beginRound l).run P w = .ok () w' ∧ WP P ⟨n, ro, ds⟩ c (den P n ro k) σ w'
  | .asn _ _ _, _, _, _, _ => False
def retD : Ko → List Deferred → Fr → World → Prop
  | .ret R, ds, σ, w => Leave ds (R σ) w
  | .rnd Q, _, _, w => Q .ret w
  | .seq _ k, ds, σ, w => retD k ds σ w
  | .blk _ k, ds, σ, w => retD k ds σ w
  | .loop _ _ k, ds, σ, w => retD k ds σ w
  | .asn _ _ _, _, _, _ => False
theorem den_ret (P : Program) (n : Nat) (ro : Option Nat) (ds : List Deferred) : ∀ (k : Ko) (σ : Fr) (w : World), den P n ro k ds .ret σ w = retD k ds σ w
  | .ret _, _, _ => rfl
  | .rnd _, _, _ => rfl
  | .seq _ k, σ, w => den_ret P n ro ds k σ w
  | .blk _ k, σ, w => den_ret P n ro ds k σ w
  | .loop _ _ k, σ, w => den_ret P n ro ds k σ w
  | .asn _ _ _, _, _ => rfl
/-- Behind 'exit id'. -/
def exitK (id : Nat) : Ko → Option Ko
  | .ret _ => none
  | .rnd _ => none
  | .seq _ k => exitK id k
  | .blk i k => cond (Nat.beq id i) (some k) (exitK id k)
  | .loop _ _ k => exitK id k
  | .asn _ _ _ => none
theorem den_exit (P : Program) (n : Nat) (ro : Option Nat) (ds : List Deferred) (id : Nat) : ∀ (k k' : Ko), exitK id k = some k' → den P n ro k ds (.exit id) = den P n ro k' ds .normal
  | .ret _, _, h => by simp [exitK] at h
  | .rnd _, _, h => by simp [exitK] at h
  | .asn _ _ _, _, h => by simp [exitK] at h
  | .seq _ k, k', h => den_exit P n ro ds id k k' h
  | .loop _ _ k, k', h => den_exit P n ro ds id k k' h
  | .blk i k, k', h => by
    simp only [exitK] at h
    funext σ w
    simp only [den]
    cases hb : Nat.beq id i with
    | true =>
      have : id = i := Nat.eq_of_beq_eq_true hb
      simp only [hb, cond_true, Option.some.injEq] at h
      subst h; simp [this]
    | false =>
      have : id ≠ i := fun h => by rw [h, Nat.beq_refl] at hb; cases hb
      simp only [hb, cond_false] at h
      rw [if_neg this, den_exit P n ro ds id k k' h]
/-- Behind a normal end: blocks end too. -/
def normK : Ko → Ko
  | .blk _ k => normK k
  | k => k
theorem den_norm (P : Program) (n : Nat) (ro : Option Nat) (ds : List Deferred) : ∀ (k : Ko), den P n ro k ds .normal = den P n ro (normK k) ds .normal
  | .blk _ k => by
    have := den_norm P n ro ds k
    simp only [normK]; rw [← this]; rfl
  | .ret _ => rfl
  | .rnd _ => rfl
  | .seq _ _ => rfl
  | .loop _ _ _ => rfl
  | .asn _ _ _ => rfl
theorem WQ_mono {n : Nat} {Q Q' : List Deferred → Exit → Fr → World → Prop} (h : ∀ ds e σ w, Q ds e σ w → Q' ds e σ w) : ∀ (e : Exit) (a : Act) (w : World), WQ n Q e a w → WQ n Q' e a w := by
  intro e a w hh
  cases e <;> simp only [WQ] at hh ⊢ <;> first | exact hh | (obtain ⟨ds, σ, ha, hq⟩ := hh; exact ⟨ds, σ, ha, h _ _ _ _ hq⟩)
section code
variable {P : Program} {n : Cx} {σ : Fr} {w : World} {K : Ko}
abbrev denX (P : Program) (n : Cx) (K : Ko) : List Deferred → Exit → Fr → World → Prop := den P n.n n.ro K
theorem WP_seq {x y : Code} (h : WP P n x (denX P n (.seq y K)) σ w) : WP P n (.seq x y) (denX P n K) σ w := by
  intro a ha
  refine wpIn_seq (wpIn_mono (h a ha) ?_)
  intro e a' w' hq
  cases e <;> simp only [WQ, Exit.then] at hq ⊢ <;> first | exact hq | (obtain ⟨ds, σ', ha', hq⟩ := hq; exact hq a' ha')
theorem WP_block {id : Nat} {c : Code} (h : WP P n c (denX P n (.blk id K)) σ w) : WP P n (.block id c) (denX P n K) σ w := by
  intro a ha
  refine wpIn_block (wpIn_mono (h a ha) ?_)
  intro e a' w' hq
  cases e <;> simp only [WQ, Exit.inBlock] at hq ⊢ <;> (try exact hq)
  case exit i =>
    obtain ⟨ds, σ', ha', hq⟩ := hq
    simp only [denX, den] at hq
    split
    · rename_i h1; rw [if_pos h1] at hq; exact ⟨ds, σ', ha', hq⟩
    · rename_i h1; rw [if_neg h1] at hq; exact ⟨ds, σ', ha', hq⟩
theorem WP_cond {c : Operand} {x y : Code} {b : Bool} (hc : ev σ c = .bool b) (ht : b = true → WP P n x (denX P n K) σ w) (hf : b = false → WP P n y (denX P n K) σ w) :
    WP P n (.cond c x y) (denX P n K) σ w := by
  intro a ha
  exact wpIn_cond_split (by rw [ha.ev]; exact hc) (fun h => ht h a ha) (fun h => hf h a ha)
theorem WP_skip (h : den P n.n n.ro K n.ds .normal σ w) : WP P n .skip (denX P n K) σ w := fun a ha => wpIn_skip ⟨n.ds, σ, ha, h⟩
theorem WP_ret (h : den P n.n n.ro K n.ds .ret σ w) : WP P n .ret (denX P n K) σ w := fun a ha => wpIn_ret ⟨n.ds, σ, ha, h⟩
theorem WP_exit {id : Nat} (h : den P n.n n.ro K n.ds (.exit id) σ w) : WP P n (.exit id) (denX P n K) σ w := fun a ha => wpIn_exit ⟨n.ds, σ, ha, h⟩
theorem least (p : Nat → Prop) (h : ∃ m, p m) : ∃ m, p m ∧ ∀ k, p k → m ≤ k := by
  obtain ⟨m, hm⟩ := h
  induction m using Nat.strongRecOn with
  | _ m ih =>
    by_cases h : ∃ k, k < m ∧ p k
    · obtain ⟨k, hk, hp⟩ := h; exact ih k hk hp
    · exact ⟨m, hm, fun k hk => Nat.le_of_not_lt fun hlt => h ⟨k, hlt, hk⟩⟩
theorem WP_loop {c : Code} (I : Nat → Fr → World → Prop) (m : Nat) (h0 : I m σ w)
    (round : ∀ m σ w, I m σ w → WP P n c (denX P n (.loop n.ds (fun σ' w' => ∃ m', m' < m ∧ I m' σ' w') K)) σ w) : WP P n (.loop c) (denX P n K) σ w := by
  intro a ha
  let p : Act → World → Nat → Prop := fun a w m => ∃ σ, Ag n.n n.ds a σ ∧ I m σ w
  let μ : Act → World → Nat := fun a w => open Classical in if h : ∃ m, p a w m then Classical.choose (least _ h) else 0
  have hμ : ∀ a w, (∃ m, p a w m) → p a w (μ a w) ∧ ∀ k, p a w k → μ a w ≤ k := fun a w h => by
    simp only [μ, dif_pos h]; exact Classical.choose_spec (least _ h)
  refine wpIn_loop (fun a w => ∃ m, p a w m) μ ⟨m, σ, ha, h0⟩ ?_
  intro a w hI
  obtain ⟨⟨σ, ha, hm⟩, hmin⟩ := hμ a w hI
  refine wpIn_mono (round _ σ w hm a ha) ?_
  intro e a' w' hq
  cases e <;> simp only [WQ, Exit.then] at hq ⊢ <;> (try exact hq)
  case normal =>
    obtain ⟨ds, σ', ha', hds, m', hlt, hI'⟩ := hq
    subst hds
    have hp : p a' w' m' := ⟨σ', ha', hI'⟩
    exact ⟨⟨m', hp⟩, Nat.lt_of_le_of_lt ((hμ a' w' ⟨m', hp⟩).2 m' hp) hlt⟩
/-- The operations one after the other. -/
def Sch.flat : Sch → List Nat
  | .nil => []
  | .op _ i r => i :: r.flat
  | .alt _ _ => [0, 0]
/-- A region in the order of the text. -/
theorem WP_region {id : Nat} {ops : Array Oper} (s : Sch) (hd : dstOk n.n ops = true) (hs : s.flat = List.range ops.size)
    (h : wpd P ops (fun _ => True) (den P n.n n.ro K n.ds .normal) s σ w) : WP P n (.region id ops false) (denX P n K) σ w := by
  intro a ha
  refine wpIn_region ?_
  rw [← hs]
  have hna : ∀ s : Sch, s.flat.Nodup → ∀ (σ : Fr) (w : World) (a : Act), Ag n.n n.ds a σ → wpd P ops (fun _ => True) (den P n.n n.ro K n.ds .normal) s σ w → wpOpsIn (FW n.ro) 0 P ops (WQ n.n (denX P n K)) s.flat a w := by
    intro s
    induction s with
    | nil => intro _ σ w a ha h; exact ⟨n.ds, σ, ha, h⟩
    | alt _ _ => intro hn; simp [Sch.flat] at hn
    | op k i r ih =>
      intro hn σ w a ha h
      have ih := ih (by simp only [Sch.flat, List.nodup_cons] at hn; exact hn.2)
      simp only [Sch.flat]
      rw [wpOpsIn_cons]
      cases k with
      | q =>
        obtain ⟨o, v, ho, hy, hrest⟩ := h
        exact stepV_wp (K := fun σ' w' => wpd P ops (fun _ => True) (den P n.n n.ro K n.ds .normal) r σ' w') ho (dstOk_nd hd ho) ha (dstOk_spec hd ho) (fun a' σ' w' ha' hk => ih σ' w' a' ha' hk) (hy.step trivial hrest)
      | l =>
        obtain ⟨o, ho, hstep⟩ := h
        exact stepV_wp ho (dstOk_nd hd ho) ha (dstOk_spec hd ho) (fun a' σ' w' ha' hk => ih σ' w' a' ha' hk.2) hstep
      | f =>
        obtain ⟨o, ho, hstep⟩ := h
        exact stepV_wp ho (dstOk_nd hd ho) ha (dstOk_spec hd ho) (fun a' σ' w' ha' hk => ih σ' w' a' ha' hk) hstep
  exact hna s (by rw [hs]; exact List.nodup_range) σ w a ha h
def okDraw (n : Nat) (ops : Array Oper) (s : Sch) : Bool := dstOk n ops && Region.noSelect ops && Nat.ble s.len ops.size && schedOk ops s.fins true s (Array.replicate ops.size false)
/-- A region that draws its order: the schedule's own order serves for all. -/
theorem WP_region_draw {id : Nat} {ops : Array Oper} {S : World → Prop} (s : Sch) (hm : P.follows .mixedOrders = true) (hd : okDraw n.n ops s = true) (hS : S w.drew)
    (h : wpd P ops S (den P n.n n.ro K n.ds .normal) s σ w.drew) : WP P n (.region id ops true) (denX P n K) σ w := by
  intro a ha
  simp only [okDraw, Bool.and_eq_true] at hd
  obtain ⟨⟨⟨hd1, hd2⟩, hd3⟩, hd4⟩ := hd
  have h0 := (wpd_any (ro := n.ro) (ds := n.ds) (Q := WQ n.n (denX P n K)) s.fins hd2 hd1 (fun a σ w ha hk => ⟨n.ds, σ, ha, hk⟩) s ops.size (Array.replicate ops.size false) a σ w.drew
    (Nat.le_of_ble_eq_true hd3) (fun _ h => h) ha (fun _ => hS) h).1 hd4
  have h1 := wpIn_region_any (id := id) hm (wpAny_of_F _ _ _ _ h0)
  refine wpIn_mono h1 ?_
  intro e a' w' hq
  cases e <;> exact hq
end code
end Go.Proofs.Yteaahdakammffaa.V
/- The engine, part 2: what a call knows of memory, as a list of separate pieces. No condition. -/
namespace Go.Proofs.Yteaahdakammffaa.V
open Go Go.RowKit
set_option linter.unusedVariables false
def Agree (f : Nat → Prop) (w w' : World) : Prop := ∀ k, f k → w'.heap[k]? = w.heap[k]?
/-- 'φ' holds, whatever becomes of blocks that 'f' does not name. -/
def St (f : Nat → Prop) (φ : World → Prop) (w : World) : Prop := ∀ w', Agree f w w' → φ w'
theorem St.out {f : Nat → Prop} {φ : World → Prop} {w : World} (h : St f φ w) : φ w := h w fun _ _ => rfl
theorem St.agree {f : Nat → Prop} {φ : World → Prop} {w w' : World} (h : St f φ w) (ha : Agree f w w') : St f φ w' :=
  fun w'' ha' => h w'' fun k hk => (ha' k hk).trans (ha k hk)
theorem St.mono {f g : Nat → Prop} {φ : World → Prop} {w : World} (h : St f φ w) (hfg : ∀ k, f k → g k) : St g φ w :=
  fun w' ha => h w' fun k hk => ha k (hfg k hk)
theorem St.imp {f : Nat → Prop} {φ ψ : World → Prop} {w : World} (h : St f φ w) (hi : ∀ w, φ w → ψ w) : St f ψ w := fun w' ha => hi _ (h w' ha)
theorem St.and {f : Nat → Prop} {φ ψ : World → Prop} {w : World} (h : St f φ w) (h' : St f ψ w) : St f (fun w => φ w ∧ ψ w) w := fun w' ha => ⟨h w' ha, h' w' ha⟩
/-- No block that was there has turned but for those that M names. -/
structure Upd (M : Nat → Prop) (w w' : World) : Prop where
  os : w'.os = w.os
  tape : w'.tape = w.tape
  output : w'.output = w.output
  size : w.heap.size ≤ w'.heap.size
  block : ∀ k, k < w.heap.size → ¬ M k → w'.heap[k]? = w.heap[k]?
abbrev none_ : Nat → Prop := fun _ => False
abbrev Ext (w w' : World) : Prop := Upd none_ w w'
theorem Upd.refl (M : Nat → Prop) (w : World) : Upd M w w := ⟨rfl, rfl, rfl, Nat.le_refl _, fun _ _ _ => rfl⟩
theorem Upd.trans {M : Nat → Prop} {a b c : World} (h : Upd M a b) (h' : Upd M b c) : Upd M a c :=
  ⟨h'.os.trans h.os, h'.tape.trans h.tape, h'.output.trans h.output, Nat.le_trans h.size h'.size, fun k hk hm => (h'.block k (Nat.lt_of_lt_of_le hk h.size) hm).trans (h.block k hk hm)⟩
theorem Upd.mono {M M' : Nat → Prop} {a b : World} (h : Upd M a b) (hm : ∀ k, k < a.heap.size → M k → M' k) : Upd M' a b :=
  ⟨h.os, h.tape, h.output, h.size, fun k hk hn => h.block k hk fun hk' => hn (hm k hk hk')⟩
theorem Ext.to {M : Nat → Prop} {a b : World} (h : Ext a b) : Upd M a b := h.mono fun _ _ h => h.elim
theorem Ext.below {a b : World} (h : Ext a b) : Below a.heap.size a b := ⟨h.os, h.tape, h.output, h.size, fun k hk => h.block k hk fun h => h⟩
theorem Ext.drew (w : World) : Ext w w.drew := ⟨rfl, rfl, rfl, Nat.le_refl _, fun _ _ _ => rfl⟩
theorem Ext.alloc (w : World) (o : Obj) : Ext w (w.alloc o) := ⟨rfl, rfl, rfl, by simp, fun k hk _ => Below.heap_alloc w o k hk⟩
theorem Ext.cell {a b : World} (h : Ext a b) {ad : Addr} {v : Value} (hc : a.cell? ad = some v) : b.cell? ad = some v := by
  have hb := World.block_lt_of_cell? a ad hc
  rw [World.cell?_of_block (w := a) (h.block ad.block hb fun h => h)]
  exact hc
/-- The blocks that are new. -/
def New (w w' : World) : Nat → Prop := fun k => w.heap.size ≤ k ∧ k < w'.heap.size
def SepL (M : Nat → Prop) (B T : Nat) : List (Nat → Prop) → List (World → Prop) → World → Prop
  | [], [], _ => True
  | f :: fs, φ :: L, w => (∀ k, f k → (B ≤ k ∨ M k) ∧ k < T) ∧ (∀ g ∈ fs, ∀ k, f k → ¬ g k) ∧ St f φ w ∧ SepL M B T fs L w
  | _, _, _ => False
/-- What is known: nothing that was there in w0 has turned but in M; and each of L holds on blocks of its own. -/
def Sep (w0 : World) (M : Nat → Prop) (L : List (World → Prop)) (w : World) : Prop :=
  Upd M w0 w ∧ ∃ fs, SepL M w0.heap.size w.heap.size fs L w
section
variable {w0 : World} {M : Nat → Prop} {L : List (World → Prop)} {w w' : World} {B T T' : Nat} {fs : List (Nat → Prop)} {φ ψ φ' : World → Prop}
theorem SepL.fp_lt (h : SepL M B T fs L w) : ∀ g ∈ fs, ∀ k, g k → (B ≤ k ∨ M k) ∧ k < T := by
  induction fs generalizing L with
  | nil => simp
  | cons f fs ih =>
    cases L with
    | nil => exact h.elim
    | cons φ L =>
      obtain ⟨h1, _, _, h4⟩ := h
      intro g hg k hk
      rcases List.mem_cons.1 hg with rfl | hg
      · exact h1 k hk
      · exact ih h4 g hg k hk
theorem SepL.keep (h : SepL M B T fs L w) (hT : T ≤ T') (ha : ∀ g ∈ fs, Agree g w w') : SepL M B T' fs L w' := by
  induction fs generalizing L with
  | nil => cases L with | nil => trivial | cons _ _ => exact h.elim
  | cons f fs ih =>
    cases L with
    | nil => exact h.elim
    | cons φ L =>
      obtain ⟨h1, h2, h3, h4⟩ := h
      exact ⟨fun k hk => ⟨(h1 k hk).1, Nat.lt_of_lt_of_le (h1 k hk).2 hT⟩, h2, h3.agree (ha f List.mem_cons_self), ih h4 fun g hg => ha g (List.mem_cons_of_mem _ hg)⟩
theorem Sep.upd (h : Sep w0 M L w) : Upd M w0 w := h.1
theorem Sep.start (w0 : World) (M : Nat → Prop) : Sep w0 M [] w0 := ⟨.refl _ _, [], trivial⟩
theorem Sep.ext (h : Sep w0 M L w) (he : Ext w w') : Sep w0 M L w' := by
  obtain ⟨h1, fs, h2⟩ := h
  exact ⟨h1.trans he.to, fs, h2.keep he.size fun g hg k hk => he.block k (h2.fp_lt g hg k hk).2 fun h => h⟩
theorem Sep.drew (h : Sep w0 M L w) : Sep w0 M L w.drew := h.ext (Ext.drew w)
theorem Sep.push (h : Sep w0 M L w) (he : Ext w w') (hφ : St (New w w') φ w') : Sep w0 M (φ :: L) w' := by
  have h' := h.ext he
  obtain ⟨h1, fs, h2⟩ := h
  obtain ⟨h1', _, _⟩ := h'
  refine ⟨h1', New w w' :: fs, fun k hk => ⟨.inl (Nat.le_trans h1.size hk.1), hk.2⟩, fun g hg k hk hgk => ?_, hφ, h2.keep he.size fun g hg k hk => he.block k (h2.fp_lt g hg k hk).2 fun h => h⟩
  have := (h2.fp_lt g hg k hgk).2
  have := hk.1
  omega
theorem SepL.at_ (h : SepL M B T fs L w) {i : Nat} (hi : L[i]? = some φ) : ∃ f, fs[i]? = some f ∧ St f φ w := by
  induction fs generalizing L i with
  | nil => cases L with | nil => simp at hi | cons _ _ => exact h.elim
  | cons f fs ih =>
    cases L with
    | nil => exact h.elim
    | cons φ L =>
      obtain ⟨_, _, h3, h4⟩ := h
      cases i with
      | zero => simp at hi; subst hi; exact ⟨f, rfl, h3⟩
      | succ i => simpa using ih h4 (by simpa using hi)
theorem Sep.at_ (h : Sep w0 M L w) (i : Nat) (hi : L[i]? = some φ) : φ w := by
  obtain ⟨_, fs, h2⟩ := h
  obtain ⟨f, _, hf⟩ := h2.at_ hi
  exact hf.out
theorem Sep.tail (h : Sep w0 M (φ :: L) w) : Sep w0 M L w := by
  obtain ⟨h1, fs, h2⟩ := h
  cases fs with
  | nil => exact h2.elim
  | cons f fs => exact ⟨h1, fs, h2.2.2.2⟩
theorem Sep.drop (h : Sep w0 M L w) (k : Nat) : Sep w0 M (L.drop k) w := by
  induction k generalizing L with
  | zero => exact h
  | succ k ih =>
    cases L with
    | nil => exact h
    | cons φ L => exact ih h.tail
theorem SepL.sub {L' : List (World → Prop)} (hl : L'.Sublist L) (h : SepL M B T fs L w) : ∃ fs', (∀ g ∈ fs', g ∈ fs) ∧ SepL M B T fs' L' w := by
  induction hl generalizing fs with
  | slnil => exact ⟨fs, fun _ h => h, h⟩
  | cons a _ ih =>
    cases fs with
    | nil => exact h.elim
    | cons f fs =>
      obtain ⟨fs', h1, h2⟩ := ih h.2.2.2
      exact ⟨fs', fun g hg => List.mem_cons_of_mem _ (h1 g hg), h2⟩
  | cons_cons a _ ih =>
    cases fs with
    | nil => exact h.elim
    | cons f fs =>
      obtain ⟨k1, k2, k3, k4⟩ := h
      obtain ⟨fs', h1, h2⟩ := ih k4
      refine ⟨f :: fs', fun g hg => ?_, k1, fun g hg => k2 g (h1 g hg), k3, h2⟩
      rcases List.mem_cons.1 hg with rfl | hg
      · exact List.mem_cons_self
      · exact List.mem_cons_of_mem _ (h1 g hg)
/-- Some of the pieces. -/
theorem Sep.sub {L' : List (World → Prop)} (h : Sep w0 M L w) (hl : L'.Sublist L) : Sep w0 M L' w := by
  obtain ⟨h1, fs, h2⟩ := h
  obtain ⟨fs', _, h3⟩ := h2.sub hl
  exact ⟨h1, fs', h3⟩
/-- One piece is changed, on its own blocks and new ones. -/
theorem SepL.change (h : SepL M B T fs L w) {i : Nat} (hi : L[i]? = some φ) {f : Nat → Prop} (hfi : fs[i]? = some f) (hB : B ≤ w.heap.size) (hT : T = w.heap.size) (hT' : T' = w'.heap.size) (hsz : w.heap.size ≤ w'.heap.size)
    {f' : Nat → Prop} (hf' : ∀ k, f' k → f k ∨ New w w' k) (hφ' : St f' φ' w') (hu : Upd f w w') : SepL M B T' (fs.set i f') (L.set i φ') w' := by
  subst hT hT'
  induction fs generalizing L i with
  | nil => simp at hfi
  | cons g fs ih =>
    cases L with
    | nil => exact h.elim
    | cons ψ L =>
      obtain ⟨h1, h2, h3, h4⟩ := h
      cases i with
      | zero =>
        simp only [List.getElem?_cons_zero, Option.some.injEq] at hi hfi
        subst hi hfi
        refine ⟨fun k hk => ?_, fun g' hg' k hk hgk => ?_, hφ', ?_⟩
        · rcases hf' k hk with h | h
          · exact ⟨(h1 k h).1, Nat.lt_of_lt_of_le (h1 k h).2 hsz⟩
          · exact ⟨.inl (Nat.le_trans hB h.1), h.2⟩
        · rcases hf' k hk with h | h
          · exact h2 g' hg' k h hgk
          · have := (h4.fp_lt g' hg' k hgk).2; have := h.1; omega
        · exact h4.keep hsz fun g' hg' k hk => hu.block k (h4.fp_lt g' hg' k hk).2 fun hg => h2 g' hg' k hg hk
      | succ i =>
        simp only [List.getElem?_cons_succ] at hi hfi
        have hmem : f ∈ fs := List.mem_of_getElem? hfi
        refine ⟨fun k hk => ⟨(h1 k hk).1, Nat.lt_of_lt_of_le (h1 k hk).2 hsz⟩, fun g' hg' k hk hgk => ?_, h3.agree fun k hk => hu.block k (h1 k hk).2 fun hf => h2 f hmem k hk hf, ih hi hfi h4⟩
        rcases List.mem_or_eq_of_mem_set hg' with hg' | rfl
        · exact h2 g' hg' k hk hgk
        · rcases hf' k hgk with h | h
          · exact h2 f hmem k hk h
          · have := (h1 k hk).2; have := h.1; omega
theorem Sep.change (h : Sep w0 M L w) (i : Nat) (hi : L[i]? = some φ)
    (hs : ∀ f, St f φ w → ∃ f' : Nat → Prop, (∀ k, f' k → f k ∨ New w w' k) ∧ St f' φ' w' ∧ Upd f w w') : Sep w0 M (L.set i φ') w' := by
  obtain ⟨h1, fs, h2⟩ := h
  obtain ⟨f, hfi, hf⟩ := h2.at_ hi
  obtain ⟨f', hf', hφ', hu⟩ := hs f hf
  have hb := h2.fp_lt f (List.mem_of_getElem? hfi)
  refine ⟨⟨hu.os.trans h1.os, hu.tape.trans h1.tape, hu.output.trans h1.output, Nat.le_trans h1.size hu.size, fun k hk hm => ?_⟩, fs.set i f', h2.change hi hfi h1.size rfl rfl hu.size hf' hφ' hu⟩
  rw [hu.block k (Nat.lt_of_lt_of_le hk h1.size) fun hfk => ?_]
  · exact h1.block k hk hm
  · rcases (hb k hfk).1 with h | h
    · exact Nat.not_le_of_lt hk h
    · exact hm h
/-- What is known of all worlds that meet L. -/
def Kn (w0 : World) (M : Nat → Prop) (L : List (World → Prop)) (φ : World → Prop) : Prop := ∀ w, Sep w0 M L w → φ w
theorem Kn.drop {k : Nat} (h : Kn w0 M (L.drop k) φ) : Kn w0 M L φ := fun w hs => h w (hs.drop k)
theorem Kn.at_ (i : Nat) (hi : L[i]? = some φ) : Kn w0 M L φ := fun w hs => hs.at_ i hi
theorem Kn.imp (h : Kn w0 M L φ) (hi : ∀ w, φ w → ψ w) : Kn w0 M L ψ := fun w hs => hi w (h w hs)
/-! ### A block known whole -/
def blk (b : Nat) (e : TypeId) (cs : List Value) : World → Prop := fun w => w.heap[b]? = some (.cells cs.toArray e (0, 0))
theorem blk.St (b : Nat) (e : TypeId) (cs : List Value) {w : World} (h : blk b e cs w) {f : Nat → Prop} (hf : f b) : V.St f (blk b e cs) w := fun w' ha => by
  unfold blk at *; rw [ha b hf]; exact h
/-- The piece that knows a block names it. -/
theorem blk.mem {b : Nat} {e : TypeId} {cs : List Value} {w : World} {f : Nat → Prop} (h : V.St f (blk b e cs) w) : f b := by
  refine Classical.byContradiction fun hn => ?_
  have h1 : blk b e cs w := h.out
  have hlt : b < w.heap.size := (Array.getElem?_eq_some_iff.1 h1).1
  have h2 := h { w with heap := w.heap.setIfInBounds b (.map #[] 0) } fun k hk => by
    have : b ≠ k := fun e => hn (e ▸ hk)
    show (w.heap.setIfInBounds b (.map #[] 0))[k]? = _
    rw [Array.getElem?_setIfInBounds_ne this]
  unfold blk at h2
  simp [hlt] at h2
theorem blk.cell {b : Nat} {e : TypeId} {cs : List Value} {w : World} (h : blk b e cs w) {o : Nat} {v : Value} (hc : cs[o]? = some v) : w.cell? ⟨b, o, none⟩ = some v := by
  unfold blk at h
  simp [World.cell?, h, hc]
theorem Sep.alloc (h : Sep w0 M L w) (e : TypeId) (cs : List Value) : Sep w0 M (blk w.heap.size e cs :: L) (w.alloc (.cells cs.toArray e)) :=
  h.push (Ext.alloc w _) (blk.St _ _ _ (heap_alloc_new w _) ⟨Nat.le_refl _, by simp⟩)
/-- At the entry: one block of the caller's is handed over. -/
theorem Sep.startB {b : Nat} {e : TypeId} {cs : List Value} (h : blk b e cs w0) : Sep w0 (fun k => k = b) [blk b e cs] w0 :=
  ⟨.refl _ _, [fun k => k = b], fun k hk => ⟨.inr hk, by subst hk; exact (Array.getElem?_eq_some_iff.1 h).1⟩, by simp, blk.St _ _ _ h rfl, trivial⟩
theorem Sep.base_le (h : Sep w0 M L w) : w0.heap.size ≤ w.heap.size := h.1.size
/-- The first piece lies in new blocks: for a result. -/
theorem Sep.fresh0 (h : Sep w0 none_ L w) (hi : L[0]? = some φ) : St (New w0 w) φ w := by
  obtain ⟨_, fs, h2⟩ := h
  obtain ⟨f, hf, hst⟩ := h2.at_ hi
  exact hst.mono fun k hk => by
    obtain ⟨h3, h4⟩ := h2.fp_lt f (List.mem_of_getElem? hf) k hk
    exact ⟨h3.resolve_right fun h => h, h4⟩
/-- Any piece. -/
theorem Sep.fresh (h : Sep w0 none_ L w) (j : Nat) (hi : L[j]? = some φ) : St (New w0 w) φ w := by
  obtain ⟨_, fs, h2⟩ := h
  obtain ⟨f, hf, hst⟩ := h2.at_ hi
  exact hst.mono fun k hk => by
    obtain ⟨h3, h4⟩ := h2.fp_lt f (List.mem_of_getElem? hf) k hk
    exact ⟨h3.resolve_right fun h => h, h4⟩
/-- A store into a block known whole. -/
theorem Sep.store (h : Sep w0 M L w) (i : Nat) {b : Nat} {e : TypeId} {cs cs' : List Value} (hi : L[i]? = some (blk b e cs)) (hw : w' = w.setRow b cs'.toArray) : Sep w0 M (L.set i (blk b e cs')) w' := by
  subst hw
  refine h.change i hi fun f hf => ⟨(· = b), fun k hk => .inl (hk ▸ blk.mem hf), ?_, ⟨rfl, rfl, rfl, by simp, fun k hk hn => setRow_other w b k _ fun e => hn (e ▸ blk.mem hf)⟩⟩
  exact blk.St _ _ _ (setRow_heap w b _ _ e _ hf.out) rfl
end
end Go.Proofs.Yteaahdakammffaa.V
/- The engine, part 3: judgements over all worlds that meet what is known, and one rule an operation. No condition. -/
namespace Go.Proofs.Yteaahdakammffaa.V
open Go Go.RowKit
set_option linter.unusedVariables false
def HT (P : Program) (n : Cx) (w0 : World) (M : Nat → Prop) (L : List (World → Prop)) (σ : Fr) (c : Code) (K : Ko) : Prop := ∀ w, Sep w0 M L w → WP P n c (denX P n K) σ w
def QT (P : Program) (n : Cx) (w0 : World) (M : Nat → Prop) (L : List (World → Prop)) (σ : Fr) (e : Exit) (K : Ko) : Prop := ∀ w, Sep w0 M L w → den P n.n n.ro K n.ds e σ w
def RG (P : Program) (n : Cx) (w0 : World) (M : Nat → Prop) (ops : Array Oper) (S : World → Prop) (L : List (World → Prop)) (sched : Sch) (σ : Fr) (K : Ko) : Prop :=
 ∀ w, Sep w0 M L w → wpd P ops S (den P n.n n.ro K n.ds .normal) sched σ w
def Tr : World → Prop := fun _ => True
section
variable {P : Program} {n : Cx} {w0 : World} {M : Nat → Prop} {L L' : List (World → Prop)} {σ : Fr} {K K' : Ko} {c x y : Code} {ops : Array Oper} {S : World → Prop} {r : Sch} {i : Nat} {kd : Kd}
/-! ### Code -/
theorem hSeq (h : HT P n w0 M L σ x (.seq y K)) : HT P n w0 M L σ (.seq x y) K := fun w hs => WP_seq (h w hs)
theorem hBlk {id : Nat} (h : HT P n w0 M L σ c (.blk id K)) : HT P n w0 M L σ (.block id c) K := fun w hs => WP_block (h w hs)
theorem hSkip (h : QT P n w0 M L σ .normal K) : HT P n w0 M L σ .skip K := fun w hs => WP_skip (h w hs)
theorem hIf {o : Operand} {b : Bool} (hc : ev σ o = .bool b) (ht : b = true → HT P n w0 M L σ x K) (hf : b = false → HT P n w0 M L σ y K) : HT P n w0 M L σ (.cond o x y) K :=
 fun w hs => WP_cond hc (fun h => ht h w hs) (fun h => hf h w hs)
theorem hIfD {o : Operand} {p : Prop} [Decidable p] (hc : ev σ o = .bool (decide p)) (ht : p → HT P n w0 M L σ x K) (hf : ¬ p → HT P n w0 M L σ y K) : HT P n w0 M L σ (.cond o x y) K :=
 hIf hc (fun h => ht (of_decide_eq_true h)) (fun h => hf (of_decide_eq_false h))
theorem hIfT {o : Operand} (hc : ev σ o = .bool true) (ht : HT P n w0 M L σ x K) : HT P n w0 M L σ (.cond o x y) K := hIf hc (fun _ => ht) (fun h => by cases h)
theorem hIfF {o : Operand} (hc : ev σ o = .bool false) (hf : HT P n w0 M L σ y K) : HT P n w0 M L σ (.cond o x y) K := hIf hc (fun h => by cases h) (fun _ => hf)
theorem hIfN {o : Operand} {b : Bool} (hc : ev σ o = .bool !b) (ht : b = false → HT P n w0 M L σ x K) (hf : b = true → HT P n w0 M L σ y K) : HT P n w0 M L σ (.cond o x y) K :=
 hIf hc (fun h => ht (by simpa using h)) (fun h => hf (by simpa using h))
theorem hRet (h : Kn w0 M L (retD K n.ds σ)) : HT P n w0 M L σ .ret K := fun w hs => WP_ret (by rw [den_ret]; exact h w hs)
theorem hExit {id : Nat} (hk : exitK id K = some K') (h : QT P n w0 M L σ .normal K') : HT P n w0 M L σ (.exit id) K := fun w hs => WP_exit (by rw [den_exit P n.n n.ro n.ds id K K' hk]; exact h w hs)
theorem qSeq (hk : normK K = .seq c K') (h : HT P n w0 M L σ c K') : QT P n w0 M L σ .normal K := fun w hs => by rw [den_norm, hk]; exact h w hs
theorem qRet {R : Fr → World → Prop} (hk : normK K = .ret R) (h : Kn w0 M L (Leave n.ds (R σ))) : QT P n w0 M L σ .normal K := fun w hs => by rw [den_norm, hk]; exact h w hs
theorem qLoop {J : Fr → World → Prop} (hk : normK K = .loop n.ds J K') (h : Kn w0 M L (J σ)) : QT P n w0 M L σ .normal K := fun w hs => by rw [den_norm, hk]; exact ⟨rfl, h w hs⟩
/-- At a loop: 'x' of any type says where the rounds stand; 'm' goes down; slots 'sl x' are known; pieces 'Lx x' stand. -/
theorem hLoop {α : Type} (ok : α → Prop) (m : α → Nat) (Lx : α → List (World → Prop)) (sl : α → List (Nat × Value)) (x0 : α) (h0 : ok x0) (hL : ∀ w, Sep w0 M L w → Sep w0 M (Lx x0) w) (hsl : knows σ (sl x0))
  (round : ∀ x τ, ok x → HT P n w0 M (Lx x) (ups τ (sl x)) c (.loop n.ds (fun σ' w' => ∃ y, m y < m x ∧ ok y ∧ knows σ' (sl y) ∧ Sep w0 M (Lx y) w') K)) : HT P n w0 M L σ (.loop c) K := by
 intro w hs
 refine WP_loop (fun k σ w => ∃ x, m x = k ∧ ok x ∧ knows σ (sl x) ∧ Sep w0 M (Lx x) w) (m x0) ⟨x0, rfl, h0, hsl, hL w hs⟩ ?_
 rintro k σ w ⟨x, rfl, hx, hk, hs⟩
 have h1 := round x σ hx w hs
 rw [ups_of_knows σ _ hk] at h1
 intro a ha
 refine wpIn_mono (h1 a ha) (WQ_mono ?_)
 intro ds e σ' w' h
 cases e <;> simp only [denX, den] at h ⊢ <;> (try exact h)
 obtain ⟨hd, y, hm, hy, hk', hs'⟩ := h
 exact ⟨hd, m y, hm, y, rfl, hy, hk', hs'⟩
/-- The end of a round. -/
theorem qNext {α : Type} {ok : α → Prop} {m : α → Nat} {Lx : α → List (World → Prop)} {sl : α → List (Nat × Value)} {x : α} (hk : normK K = .loop n.ds (fun σ' w' => ∃ y, m y < m x ∧ ok y ∧ knows σ' (sl y) ∧ Sep w0 M (Lx y) w') K')
  (y : α) (hm : m y < m x) (hy : ok y) (hs : knows σ (sl y)) (hL : ∀ w, Sep w0 M L w → Sep w0 M (Lx y) w) : QT P n w0 M L σ .normal K := qLoop hk fun w h => ⟨y, hm, hy, hs, hL w h⟩
/-- Slots and pieces spelt otherwise. -/
theorem hRe {τ : Fr} {sl : List (Nat × Value)} (sl' : List (Nat × Value)) (L' : List (World → Prop)) (hs : sl = sl') (hL : L = L') (h : HT P n w0 M L' (ups τ sl') c K) : HT P n w0 M L (ups τ sl) c K := by
 subst hs hL; exact h
theorem hPieces (hL : ∀ w, Sep w0 M L w → Sep w0 M L' w) (h : HT P n w0 M L' σ c K) : HT P n w0 M L σ c K := fun w hs => h w (hL w hs)
/-- A piece of code whose ways meet again: 'x' of any type says where they meet. -/
theorem hCut {α : Type} (ok : α → Prop) (Lx : α → List (World → Prop)) (sl : α → List (Nat × Value)) (h1 : HT P n w0 M L σ c (.loop n.ds (fun σ' w' => ∃ y, ok y ∧ knows σ' (sl y) ∧ Sep w0 M (Lx y) w') K))
  (h2 : ∀ y τ, ok y → QT P n w0 M (Lx y) (ups τ (sl y)) .normal K) : HT P n w0 M L σ c K := by
 intro w hs a ha
 refine wpIn_mono (h1 w hs a ha) (WQ_mono ?_)
 intro ds e σ' w' h
 cases e <;> simp only [denX, den] at h ⊢ <;> (try exact h)
 obtain ⟨hd, y, hy, hk', hs'⟩ := h
 subst hd
 have := h2 y σ' hy w' hs'
 rwa [ups_of_knows σ' _ hk'] at this
/-- Where the ways meet. -/
theorem qMeet {α : Type} {ok : α → Prop} {Lx : α → List (World → Prop)} {sl : α → List (Nat × Value)} (hk : normK K = .loop n.ds (fun σ' w' => ∃ y, ok y ∧ knows σ' (sl y) ∧ Sep w0 M (Lx y) w') K')
  (y : α) (hy : ok y) (hs : knows σ (sl y)) (hL : ∀ w, Sep w0 M L w → Sep w0 M (Lx y) w) : QT P n w0 M L σ .normal K := qLoop hk fun w h => ⟨y, hy, hs, hL w h⟩
/-! ### Regions -/
def okReg (n : Nat) (ops : Array Oper) (sched : Sch) : Bool := dstOk n ops && (sched.flat == List.range ops.size)
theorem hReg {id : Nat} (sched : Sch) (hd : okReg n.n ops sched = true) (h : RG P n w0 M ops Tr L sched σ K) : HT P n w0 M L σ (.region id ops false) K := fun w hs => by
 simp only [okReg, Bool.and_eq_true, beq_iff_eq] at hd
 exact WP_region sched hd.1 hd.2 (h w hs)
theorem hDraw {id : Nat} {Ls : List (World → Prop)} (hm : P.follows .mixedOrders = true) (sched : Sch) (hd : okDraw n.n ops sched = true) (hl : Ls.Sublist L) (h : RG P n w0 M ops (Sep w0 M Ls) L sched σ K) : HT P n w0 M L σ (.region id ops true) K := fun w hs =>
 WP_region_draw sched hm hd (hs.drew.sub hl) (h _ hs.drew)
/-- Either may come up. -/
theorem rAlt {s s' : Sch} (h : RG P n w0 M ops S L s σ K) (h' : RG P n w0 M ops S L s' σ K) : RG P n w0 M ops S L (.alt s s') σ K := fun w hs => ⟨h w hs, h' w hs⟩
theorem rNil (h : QT P n w0 M L σ .normal K) : RG P n w0 M ops S L .nil σ K := h
/-- Pieces may be forgotten on the way. -/
theorem rPieces (hL : ∀ w, Sep w0 M L w → Sep w0 M L' w) (h : RG P n w0 M ops S L' r σ K) : RG P n w0 M ops S L r σ K := fun w hs => h w (hL w hs)
/-- A slot that holds a Bool: two ways. -/
theorem rBool {d : Nat} {b : Bool} (hd : σ d = .bool b) (ht : b = true → RG P n w0 M ops S L r (upd σ d (.bool true)) K) (hf : b = false → RG P n w0 M ops S L r (upd σ d (.bool false)) K) : RG P n w0 M ops S L r σ K := by
 have he : ∀ b', b = b' → upd σ d (.bool b') = σ := fun b' hb => by
  funext t; simp only [upd]
  cases ht : Nat.beq t d with
  | false => rfl
  | true => rw [Nat.eq_of_beq_eq_true ht, hd, hb]; rfl
 cases b with
 | true => have := ht rfl; rwa [he true rfl] at this
 | false => have := hf rfl; rwa [he false rfl] at this
theorem rBoolD {d : Nat} {p : Prop} [Decidable p] (hd : σ d = .bool (decide p)) (ht : p → RG P n w0 M ops S L r (upd σ d (.bool true)) K) (hf : ¬ p → RG P n w0 M ops S L r (upd σ d (.bool false)) K) : RG P n w0 M ops S L r σ K :=
 rBool hd (fun h => ht (of_decide_eq_true h)) (fun h => hf (of_decide_eq_false h))
/-- The guard of an operation lets it by. -/
abbrev go (ops : Array Oper) (σ : Fr) (g : Option (Nat × Bool)) : Prop := (match g with | none => true | some (j, want) => yl ops σ j == some want) = true
theorem go.wanted {o : Oper} (h : go ops σ o.guard) : Region.wanted o (yl ops σ) = true := by
 unfold Region.wanted
 cases hg : o.guard with
 | none => rfl
 | some p => obtain ⟨j, want⟩ := p; rw [hg] at h; simpa using h
/-- The guard says no. -/
abbrev stop (ops : Array Oper) (σ : Fr) (g : Option (Nat × Bool)) : Prop := (match g with | none => true | some (j, want) => yl ops σ j == some want) = false
theorem stop.wanted {o : Oper} (h : stop ops σ o.guard) : Region.wanted o (yl ops σ) = false := by
 unfold Region.wanted
 cases hg : o.guard with
 | none => rw [hg] at h; cases h
 | some p => obtain ⟨j, want⟩ := p; rw [hg] at h; simpa using h
theorem rQ {o : Oper} {v : Value} (ho : ops[i]? = some o) (hg : go ops σ o.guard) (hv : ∀ w, S w → (execOp (ev σ) o).run P w = .ok (.value v) w) (h : RG P n w0 M ops S L r (put σ o.dst v) K) :
  RG P n w0 M ops S L (.op .q i r) σ K := fun w hs => ⟨o, v, ho, .inl ⟨hg.wanted, hv⟩, h w hs⟩
theorem rSkipQ {o : Oper} (ho : ops[i]? = some o) (hg : stop ops σ o.guard) (h : RG P n w0 M ops S L r (put σ o.dst undef) K) : RG P n w0 M ops S L (.op .q i r) σ K :=
 fun w hs => ⟨o, undef, ho, .inr ⟨hg.wanted, rfl⟩, h w hs⟩
theorem rSkipL (hS : ∀ w, Sep w0 M L w → S w) {o : Oper} (ho : ops[i]? = some o) (hg : stop ops σ o.guard) (h : RG P n w0 M ops S L r (put σ o.dst undef) K) : RG P n w0 M ops S L (.op .l i r) σ K :=
 fun w hs => ⟨o, ho, by unfold stepV; rw [if_neg (by rw [stop.wanted hg]; simp)]; exact ⟨hS w hs, h w hs⟩⟩
/-- An operation that may turn the world: behind it some 'x' with pieces 'Lx x' and the value 'v x'. -/
theorem rL {α : Type} {good : α → Prop} {Lx : α → List (World → Prop)} {v : α → Value} (hS : ∀ x w, Sep w0 M (Lx x) w → S w) {o : Oper} (ho : ops[i]? = some o) (hg : go ops σ o.guard)
  (hop : ∀ w, Sep w0 M L w → opw P o σ w fun σ' w' => ∃ x, good x ∧ Sep w0 M (Lx x) w' ∧ σ' = put σ o.dst (v x)) (h : ∀ x, good x → RG P n w0 M ops S (Lx x) r (put σ o.dst (v x)) K) :
  RG P n w0 M ops S L (.op .l i r) σ K := fun w hs => ⟨o, ho, by
 unfold stepV; rw [if_pos hg.wanted]
 exact opw_mono (fun σ' w' ⟨x, hx, hs', he⟩ => by subst he; exact ⟨hS x w' hs', h x hx w' hs'⟩) (hop w hs)⟩
theorem rF {α : Type} {good : α → Prop} {Lx : α → List (World → Prop)} {v : α → Value} {o : Oper} (ho : ops[i]? = some o) (hg : go ops σ o.guard)
  (hop : ∀ w, Sep w0 M L w → opw P o σ w fun σ' w' => ∃ x, good x ∧ Sep w0 M (Lx x) w' ∧ σ' = put σ o.dst (v x)) (h : ∀ x, good x → RG P n w0 M ops S (Lx x) r (put σ o.dst (v x)) K) :
  RG P n w0 M ops S L (.op .f i r) σ K := fun w hs => ⟨o, ho, by
 unfold stepV; rw [if_pos hg.wanted]
 exact opw_mono (fun σ' w' ⟨x, hx, hs', he⟩ => by subst he; exact h x hx w' hs') (hop w hs)⟩
/-! ### Operations that yield a value -/
section pure
variable {d : Nat} {t : TypeId} {p : String} {af : Array Edge} {g : Option (Nat × Bool)} {a b : Operand}
theorem mv {v : Value} (ho : ops[i]? = some ⟨some d, .move a, t, p, af, g⟩) (hg : go ops σ g) (hv : ev σ a = v) (h : RG P n w0 M ops S L r (upd σ d v) K) : RG P n w0 M ops S L (.op .q i r) σ K :=
 rQ ho hg (fun w _ => by simp [execOp, hv]) h
theorem mvI {k : IntKind} {z : Int} (ho : ops[i]? = some ⟨some d, .move a, t, p, af, g⟩) (hg : go ops σ g) (hv : ev σ a = .int k z) (h : RG P n w0 M ops S L r (upd σ d (.int k z)) K) : RG P n w0 M ops S L (.op .q i r) σ K := mv ho hg hv h
theorem mvB {z : Bool} (ho : ops[i]? = some ⟨some d, .move a, t, p, af, g⟩) (hg : go ops σ g) (hv : ev σ a = .bool z) (h : RG P n w0 M ops S L r (upd σ d (.bool z)) K) : RG P n w0 M ops S L (.op .q i r) σ K := mv ho hg hv h
theorem mvP {z : Option Addr} (ho : ops[i]? = some ⟨some d, .move a, t, p, af, g⟩) (hg : go ops σ g) (hv : ev σ a = .pointer z) (h : RG P n w0 M ops S L r (upd σ d (.pointer z)) K) : RG P n w0 M ops S L (.op .q i r) σ K := mv ho hg hv h
theorem mvS {z : Option Addr} {l c : Nat} (ho : ops[i]? = some ⟨some d, .move a, t, p, af, g⟩) (hg : go ops σ g) (hv : ev σ a = .slice z l c) (h : RG P n w0 M ops S L r (upd σ d (.slice z l c)) K) : RG P n w0 M ops S L (.op .q i r) σ K := mv ho hg hv h
theorem asn {v : Value} (ho : ops[i]? = some ⟨some d, .assign a, t, p, af, g⟩) (hg : go ops σ g) (hv : ev σ a = v) (h : RG P n w0 M ops S L r (upd σ d v) K) : RG P n w0 M ops S L (.op .q i r) σ K :=
 rQ ho hg (fun w _ => by simp [execOp, hv]) h
theorem asI {k : IntKind} {z : Int} (ho : ops[i]? = some ⟨some d, .assign a, t, p, af, g⟩) (hg : go ops σ g) (hv : ev σ a = .int k z) (h : RG P n w0 M ops S L r (upd σ d (.int k z)) K) : RG P n w0 M ops S L (.op .q i r) σ K := asn ho hg hv h
theorem asB {z : Bool} (ho : ops[i]? = some ⟨some d, .assign a, t, p, af, g⟩) (hg : go ops σ g) (hv : ev σ a = .bool z) (h : RG P n w0 M ops S L r (upd σ d (.bool z)) K) : RG P n w0 M ops S L (.op .q i r) σ K := asn ho hg hv h
theorem asS {z : Option Addr} {l c : Nat} (ho : ops[i]? = some ⟨some d, .assign a, t, p, af, g⟩) (hg : go ops σ g) (hv : ev σ a = .slice z l c) (h : RG P n w0 M ops S L r (upd σ d (.slice z l c)) K) : RG P n w0 M ops S L (.op .q i r) σ K := asn ho hg hv h
theorem pick {c : Operand} {z : Bool} {v : Value} (ho : ops[i]? = some ⟨some d, .pick c a b, t, p, af, g⟩) (hg : go ops σ g) (hc : ev σ c = .bool z) (hv : cond z (ev σ a) (ev σ b) = v) (h : RG P n w0 M ops S L r (upd σ d v) K) : RG P n w0 M ops S L (.op .q i r) σ K :=
 rQ ho hg (fun w _ => by cases z <;> simp at hv <;> simp [execOp, hc, hv, asBool]) h
theorem pickB {c : Operand} {z u : Bool} (ho : ops[i]? = some ⟨some d, .pick c a b, t, p, af, g⟩) (hg : go ops σ g) (hc : ev σ c = .bool z) (hv : cond z (ev σ a) (ev σ b) = .bool u) (h : RG P n w0 M ops S L r (upd σ d (.bool u)) K) : RG P n w0 M ops S L (.op .q i r) σ K := pick ho hg hc hv h
variable {ty yt : TypeId} {k : IntKind} {u z : Int}
theorem wrapI {v : Int} (h : -9223372036854775808 ≤ v ∧ v ≤ 9223372036854775807) : IntKind.i64.wrap v = v := IntWalk.i64_in v h
theorem addW (ho : ops[i]? = some ⟨some d, .binOp .add ty a b yt, t, p, af, g⟩) (hg : go ops σ g) (ha : ev σ a = .int k u) (hb : ev σ b = .int k z) (h : RG P n w0 M ops S L r (upd σ d (.int k (k.wrap (u + z)))) K) : RG P n w0 M ops S L (.op .q i r) σ K :=
 rQ ho hg (fun w _ => by simp [execOp, ha, hb, eqGuard, binOp, Op.intArith]) h
theorem subW (ho : ops[i]? = some ⟨some d, .binOp .sub ty a b yt, t, p, af, g⟩) (hg : go ops σ g) (ha : ev σ a = .int k u) (hb : ev σ b = .int k z) (h : RG P n w0 M ops S L r (upd σ d (.int k (k.wrap (u - z)))) K) : RG P n w0 M ops S L (.op .q i r) σ K :=
 rQ ho hg (fun w _ => by simp [execOp, ha, hb, eqGuard, binOp, Op.intArith]) h
theorem mulW (ho : ops[i]? = some ⟨some d, .binOp .mul ty a b yt, t, p, af, g⟩) (hg : go ops σ g) (ha : ev σ a = .int k u) (hb : ev σ b = .int k z) (h : RG P n w0 M ops S L r (upd σ d (.int k (k.wrap (u * z)))) K) : RG P n w0 M ops S L (.op .q i r) σ K :=
 rQ ho hg (fun w _ => by simp [execOp, ha, hb, eqGuard, binOp, Op.intArith]) h
theorem add (ho : ops[i]? = some ⟨some d, .binOp .add ty a b yt, t, p, af, g⟩) (hg : go ops σ g) (ha : ev σ a = .int .i64 u) (hb : ev σ b = .int .i64 z) (hr : -9223372036854775808 ≤ u + z ∧ u + z ≤ 9223372036854775807) (h : RG P n w0 M ops S L r (upd σ d (.int .i64 (u + z))) K) : RG P n w0 M ops S L (.op .q i r) σ K :=
 addW ho hg ha hb (by rw [wrapI hr]; exact h)
theorem sub (ho : ops[i]? = some ⟨some d, .binOp .sub ty a b yt, t, p, af, g⟩) (hg : go ops σ g) (ha : ev σ a = .int .i64 u) (hb : ev σ b = .int .i64 z) (hr : -9223372036854775808 ≤ u - z ∧ u - z ≤ 9223372036854775807) (h : RG P n w0 M ops S L r (upd σ d (.int .i64 (u - z))) K) : RG P n w0 M ops S L (.op .q i r) σ K :=
 subW ho hg ha hb (by rw [wrapI hr]; exact h)
theorem mul (ho : ops[i]? = some ⟨some d, .binOp .mul ty a b yt, t, p, af, g⟩) (hg : go ops σ g) (ha : ev σ a = .int .i64 u) (hb : ev σ b = .int .i64 z) (hr : -9223372036854775808 ≤ u * z ∧ u * z ≤ 9223372036854775807) (h : RG P n w0 M ops S L r (upd σ d (.int .i64 (u * z))) K) : RG P n w0 M ops S L (.op .q i r) σ K :=
 mulW ho hg ha hb (by rw [wrapI hr]; exact h)
theorem quoW (ho : ops[i]? = some ⟨some d, .binOp .quo ty a b yt, t, p, af, g⟩) (hg : go ops σ g) (ha : ev σ a = .int k u) (hb : ev σ b = .int k z) (hz : z ≠ 0) (h : RG P n w0 M ops S L r (upd σ d (.int k (k.wrap (u.tdiv z)))) K) : RG P n w0 M ops S L (.op .q i r) σ K :=
 rQ ho hg (fun w _ => by simp [execOp, ha, hb, eqGuard, binOp, Op.intDiv, hz]) h
theorem quo (ho : ops[i]? = some ⟨some d, .binOp .quo ty a b yt, t, p, af, g⟩) (hg : go ops σ g) (ha : ev σ a = .int .i64 u) (hb : ev σ b = .int .i64 z) (hr : 0 ≤ u ∧ u ≤ 9223372036854775807 ∧ 1 ≤ z) (h : RG P n w0 M ops S L r (upd σ d (.int .i64 (u / z))) K) : RG P n w0 M ops S L (.op .q i r) σ K :=
 quoW ho hg ha hb (by omega) (by rw [IntWalk.i64_quo u z hr]; exact h)
theorem remT (ho : ops[i]? = some ⟨some d, .binOp .rem ty a b yt, t, p, af, g⟩) (hg : go ops σ g) (ha : ev σ a = .int k u) (hb : ev σ b = .int k z) (hz : z ≠ 0) (h : RG P n w0 M ops S L r (upd σ d (.int k (u.tmod z))) K) : RG P n w0 M ops S L (.op .q i r) σ K :=
 rQ ho hg (fun w _ => by simp [execOp, ha, hb, eqGuard, binOp, Op.intDiv, hz]) h
theorem rem (ho : ops[i]? = some ⟨some d, .binOp .rem ty a b yt, t, p, af, g⟩) (hg : go ops σ g) (ha : ev σ a = .int k u) (hb : ev σ b = .int k z) (hr : 0 ≤ u ∧ z ≠ 0) (h : RG P n w0 M ops S L r (upd σ d (.int k (u % z))) K) : RG P n w0 M ops S L (.op .q i r) σ K :=
 remT ho hg ha hb hr.2 (by rw [IntWalk.rem_in u z hr.1]; exact h)
theorem eql (ho : ops[i]? = some ⟨some d, .binOp .eql ty a b yt, t, p, af, g⟩) (hg : go ops σ g) (ha : ev σ a = .int k u) (hb : ev σ b = .int k z) (h : RG P n w0 M ops S L r (upd σ d (.bool (decide (u = z)))) K) : RG P n w0 M ops S L (.op .q i r) σ K :=
 rQ ho hg (fun w _ => by simp [execOp, ha, hb, eqGuard, binOp, Op.intCmp]; exact rfl) h
theorem neq (ho : ops[i]? = some ⟨some d, .binOp .neq ty a b yt, t, p, af, g⟩) (hg : go ops σ g) (ha : ev σ a = .int k u) (hb : ev σ b = .int k z) (h : RG P n w0 M ops S L r (upd σ d (.bool (decide (u ≠ z)))) K) : RG P n w0 M ops S L (.op .q i r) σ K :=
 rQ ho hg (fun w _ => by simp [execOp, ha, hb, eqGuard, binOp, Op.intCmp]; exact Bool.eq_iff_iff.2 (by simp)) h
theorem lss (ho : ops[i]? = some ⟨some d, .binOp .lss ty a b yt, t, p, af, g⟩) (hg : go ops σ g) (ha : ev σ a = .int k u) (hb : ev σ b = .int k z) (h : RG P n w0 M ops S L r (upd σ d (.bool (decide (u < z)))) K) : RG P n w0 M ops S L (.op .q i r) σ K :=
 rQ ho hg (fun w _ => by simp [execOp, ha, hb, eqGuard, binOp, Op.intCmp]) h
theorem leq (ho : ops[i]? = some ⟨some d, .binOp .leq ty a b yt, t, p, af, g⟩) (hg : go ops σ g) (ha : ev σ a = .int k u) (hb : ev σ b = .int k z) (h : RG P n w0 M ops S L r (upd σ d (.bool (decide (u ≤ z)))) K) : RG P n w0 M ops S L (.op .q i r) σ K :=
 rQ ho hg (fun w _ => by simp [execOp, ha, hb, eqGuard, binOp, Op.intCmp]) h
theorem gtr (ho : ops[i]? = some ⟨some d, .binOp .gtr ty a b yt, t, p, af, g⟩) (hg : go ops σ g) (ha : ev σ a = .int k u) (hb : ev σ b = .int k z) (h : RG P n w0 M ops S L r (upd σ d (.bool (decide (z < u)))) K) : RG P n w0 M ops S L (.op .q i r) σ K :=
 rQ ho hg (fun w _ => by simp [execOp, ha, hb, eqGuard, binOp, Op.intCmp]) h
theorem geq (ho : ops[i]? = some ⟨some d, .binOp .geq ty a b yt, t, p, af, g⟩) (hg : go ops σ g) (ha : ev σ a = .int k u) (hb : ev σ b = .int k z) (h : RG P n w0 M ops S L r (upd σ d (.bool (decide (z ≤ u)))) K) : RG P n w0 M ops S L (.op .q i r) σ K :=
 rQ ho hg (fun w _ => by simp [execOp, ha, hb, eqGuard, binOp, Op.intCmp]) h
theorem not {z : Bool} (ho : ops[i]? = some ⟨some d, .unOp .not ty a, t, p, af, g⟩) (hg : go ops σ g) (ha : ev σ a = .bool z) (h : RG P n w0 M ops S L r (upd σ d (.bool !z)) K) : RG P n w0 M ops S L (.op .q i r) σ K :=
 rQ ho hg (fun w _ => by simp [execOp, ha, Op.unary]) h
theorem notD {q : Prop} [Decidable q] (ho : ops[i]? = some ⟨some d, .unOp .not ty a, t, p, af, g⟩) (hg : go ops σ g) (ha : ev σ a = .bool (decide q)) (h : RG P n w0 M ops S L r (upd σ d (.bool (decide ¬q))) K) : RG P n w0 M ops S L (.op .q i r) σ K :=
 rQ ho hg (fun w _ => by simp only [execOp, ha, Op.unary, Sem.run_bind, Sem.run_pure, Result.andThen_ok]; congr 3; exact (decide_not).symm) h
theorem min2 {tys : Array TypeId} (ho : ops[i]? = some ⟨some d, .call ⟨.builtin .min, #[a, b], tys⟩, t, p, af, g⟩) (hg : go ops σ g) (ha : ev σ a = .int k u) (hb : ev σ b = .int k z) (h : RG P n w0 M ops S L r (upd σ d (.int k (min u z))) K) : RG P n w0 M ops S L (.op .q i r) σ K :=
 rQ ho hg (fun w _ => by
  have : (if z < u then z else u) = min u z := by by_cases h : z < u <;> simp [h] <;> omega
  simp [execOp, resolve, invoke, builtin, Builtin.min_, Builtin.min2, ha, hb, this]) h
theorem max2 {tys : Array TypeId} (ho : ops[i]? = some ⟨some d, .call ⟨.builtin .max, #[a, b], tys⟩, t, p, af, g⟩) (hg : go ops σ g) (ha : ev σ a = .int k u) (hb : ev σ b = .int k z) (h : RG P n w0 M ops S L r (upd σ d (.int k (max u z))) K) : RG P n w0 M ops S L (.op .q i r) σ K :=
 rQ ho hg (fun w _ => by
  have : (if u < z then z else u) = max u z := by by_cases h : u < z <;> simp [h] <;> omega
  simp [execOp, resolve, invoke, builtin, Builtin.max_, Builtin.max2, ha, hb, this]) h
theorem lenS {ty e : TypeId} {ad : Option Addr} {l c : Nat} (hu : ∀ w, (underlying ty).run P w = .ok (.slice e) w) (ho : ops[i]? = some ⟨some d, .call ⟨.builtin .len, #[a], #[ty]⟩, t, p, af, g⟩) (hg : go ops σ g) (ha : ev σ a = .slice ad l c) (h : RG P n w0 M ops S L r (upd σ d (.int .i64 l)) K) : RG P n w0 M ops S L (.op .q i r) σ K :=
 rQ ho hg (fun w _ => by simp [execOp, resolve, invoke, builtin, Builtin.len_, ha, hu w, goInt]) h
theorem ext {vs : Array Value} {j : Nat} {v : Value} (ho : ops[i]? = some ⟨some d, .extract a j, t, p, af, g⟩) (hg : go ops σ g) (ha : ev σ a = .tuple vs) (hv : vs[j]? = some v) (h : RG P n w0 M ops S L r (upd σ d v) K) : RG P n w0 M ops S L (.op .q i r) σ K :=
 rQ ho hg (fun w _ => by simp [execOp, ha, Instr.extract, hv]) h
end pure
end
end Go.Proofs.Yteaahdakammffaa.V
/- The engine, part 4: memory operations, calls, a function's entry and end. No condition. -/
namespace Go.Proofs.Yteaahdakammffaa.V
open Go Go.RowKit
set_option linter.unusedVariables false
/-- What a call comes back with. -/
abbrev Ret (R : Value → World → Prop) : Ending → World → Prop := fun e w' => ∃ v, e = .returned v ∧ R v w'
theorem add_addr (b o j : Nat) : (⟨b, o, none⟩ : Addr).add j = ⟨b, o + j, none⟩ := by
  unfold Addr.add; split
  · rename_i h; subst h; rfl
  · rfl
section
variable {P : Program} {n : Cx} {w0 : World} {M : Nat → Prop} {L L' : List (World → Prop)} {σ : Fr} {K K' : Ko} {c x y : Code} {ops : Array Oper} {S : World → Prop} {r : Sch} {i : Nat}
variable {d : Nat} {t : TypeId} {p : String} {af : Array Edge} {g : Option (Nat × Bool)} {a b : Operand}
/-! ### Facts on types, asked once a program -/
abbrev Scal (P : Program) (ty : TypeId) : Prop := ∀ w, (isAgg ty).run P w = .ok false w
abbrev Size (P : Program) (ty : TypeId) (m : Nat) : Prop := ∀ w, (sizeOf ty).run P w = .ok m w
abbrev AggT (P : Program) (ty : TypeId) : Prop := ∀ w, (isAgg ty).run P w = .ok true w
/-- Field 'f' of the struct type 'ty' lies 'o' cells behind its head. -/
def Fld (P : Program) (ty : TypeId) (f o : Nat) : Prop := ∀ w ad, (Instr.fieldAt ty (.pointer (some ad)) f).run P w = .ok (.pointer (some (ad.add o))) w
/-- The elements of the slice type 'ty' take 'm' cells. -/
def Elt (P : Program) (ty : TypeId) (m : Nat) : Prop := ∃ e, (∀ w, (underlying ty).run P w = .ok (.slice e) w) ∧ ∀ w, (sizeOf e).run P w = .ok m w
/-! ### Addresses -/
theorem fld {ty : TypeId} {f o : Nat} {bk off : Nat} (hF : Fld P ty f o) (ho : ops[i]? = some ⟨some d, .fieldAddr ty a f, t, p, af, g⟩) (hg : go ops σ g) (ha : ev σ a = .pointer (some ⟨bk, off, none⟩))
    (h : RG P n w0 M ops S L r (upd σ d (.pointer (some ⟨bk, off + o, none⟩))) K) : RG P n w0 M ops S L (.op .q i r) σ K :=
  rQ ho hg (fun w _ => by simp [execOp, ha, hF w, add_addr]) h
theorem nilc {ad : Addr} (ho : ops[i]? = some ⟨some d, .nilCheck a, t, p, af, g⟩) (hg : go ops σ g) (ha : ev σ a = .pointer (some ad))
    (h : RG P n w0 M ops S L r (upd σ d (.pointer (some ad))) K) : RG P n w0 M ops S L (.op .q i r) σ K :=
  rQ ho hg (fun w _ => by simp [execOp, ha]) h
theorem run_indexAt {ty m bk off len cap : Nat} {k : IntKind} {z : Int} (hE : Elt P ty m) (h0 : 0 ≤ z) (h1 : z < len) (w : World) :
    (Instr.indexAt ty (.slice (some ⟨bk, off, none⟩) len cap) (.int k z)).run P w = .ok (.pointer (some ⟨bk, off + z.toNat * m, none⟩)) w := by
  obtain ⟨e, he, hs⟩ := hE
  simp [Instr.indexAt, asIntOf, he, hs, h0, h1, add_addr]
/-! ### Loads -/
theorem run_load_cell {ty : TypeId} (hA : Scal P ty) {w : World} {ad : Addr} {v : Value} (hc : w.cell? ad = some v) : (Instr.loadAt ty (.pointer (some ad))).run P w = .ok v w := by
  simp [Instr.loadAt, Instr.sureAddr, loadVar, hA w, hc]
theorem run_load_agg {ty m : TypeId} (hA : AggT P ty) {cs : List Value} (hs : Size P ty m) (hm : cs.length = m) {w : World} {bk off : Nat} (hc : ∀ j v, cs[j]? = some v → w.cell? ⟨bk, off + j, none⟩ = some v) :
    (Instr.loadAt ty (.pointer (some ⟨bk, off, none⟩))).run P w = .ok (.agg cs.toArray) w := by
  subst hm
  have hl := run_loadCells_list (P := P) w ⟨bk, off, none⟩ cs (fun j v hj => by rw [add_addr]; exact hc j v hj)
  simp [Instr.loadAt, Instr.sureAddr, loadVar, hA w, hs w, hl]
/-- A load of one cell, in a region whose order is open: the cell is known of all worlds that meet S. -/
theorem ldq {ty : TypeId} {ad : Addr} {v : Value} (hA : Scal P ty) (hc : ∀ w, S w → w.cell? ad = some v) (ho : ops[i]? = some ⟨some d, .load ty a, t, p, af, g⟩) (hg : go ops σ g) (ha : ev σ a = .pointer (some ad))
    (h : RG P n w0 M ops S L r (upd σ d v) K) : RG P n w0 M ops S L (.op .q i r) σ K :=
  rQ ho hg (fun w hS => by simp [execOp, ha, run_load_cell hA (hc w hS)]) h
theorem ldAq {ty m : TypeId} {bk off : Nat} {cs : List Value} (hA : AggT P ty) (hs : Size P ty m) (hc : ∀ w, S w → ∀ j v, cs[j]? = some v → w.cell? ⟨bk, off + j, none⟩ = some v) (ho : ops[i]? = some ⟨some d, .load ty a, t, p, af, g⟩) (hg : go ops σ g) (ha : ev σ a = .pointer (some ⟨bk, off, none⟩)) (hm : cs.length = m)
    (h : RG P n w0 M ops S L r (upd σ d (.agg cs.toArray)) K) : RG P n w0 M ops S L (.op .q i r) σ K :=
  rQ ho hg (fun w hS => by simp [execOp, ha, run_load_agg hA hs hm (hc w hS)]) h
theorem rL1 {v : Value} (hS : ∀ w, Sep w0 M L' w → S w) {o : Oper} (ho : ops[i]? = some o) (hg : go ops σ o.guard) (hop : ∀ w, Sep w0 M L w → opw P o σ w fun σ' w' => Sep w0 M L' w' ∧ σ' = put σ o.dst v) (h : RG P n w0 M ops S L' r (put σ o.dst v) K) : RG P n w0 M ops S L (.op .l i r) σ K :=
  rL (α := Unit) (good := fun _ => True) (Lx := fun _ => L') (v := fun _ => v) (fun _ => hS) ho hg (fun w hs => opw_mono (fun σ' w' h => ⟨(), trivial, h⟩) (hop w hs)) (fun _ _ => h)
theorem rF1 {v : Value} {o : Oper} (ho : ops[i]? = some o) (hg : go ops σ o.guard) (hop : ∀ w, Sep w0 M L w → opw P o σ w fun σ' w' => Sep w0 M L' w' ∧ σ' = put σ o.dst v) (h : RG P n w0 M ops S L' r (put σ o.dst v) K) : RG P n w0 M ops S L (.op .f i r) σ K :=
  rF (α := Unit) (good := fun _ => True) (Lx := fun _ => L') (v := fun _ => v) ho hg (fun w hs => opw_mono (fun σ' w' h => ⟨(), trivial, h⟩) (hop w hs)) (fun _ _ => h)
theorem ldl {ty : TypeId} {ad : Addr} {v : Value} (hA : Scal P ty) (hc : Kn w0 M L fun w => w.cell? ad = some v) (hS : ∀ w, Sep w0 M L w → S w) (ho : ops[i]? = some ⟨some d, .load ty a, t, p, af, g⟩) (hg : go ops σ g) (ha : ev σ a = .pointer (some ad))
    (h : RG P n w0 M ops S L r (upd σ d v) K) : RG P n w0 M ops S L (.op .l i r) σ K :=
  rL1 hS ho hg (fun w hs => by unfold opw; simp [execOp, ha, run_load_cell hA (hc w hs)]; exact hs) h
theorem nilcL {ad : Addr} (hS : ∀ w, Sep w0 M L w → S w) (ho : ops[i]? = some ⟨some d, .nilCheck a, t, p, af, g⟩) (hg : go ops σ g) (ha : ev σ a = .pointer (some ad))
    (h : RG P n w0 M ops S L r (upd σ d (.pointer (some ad))) K) : RG P n w0 M ops S L (.op .l i r) σ K :=
  rL1 hS ho hg (fun w hs => by unfold opw; simp [execOp, ha]; exact hs) h
theorem ldAl {ty m : TypeId} {bk off : Nat} {cs : List Value} (hA : AggT P ty) (hz : Size P ty m) (hc : Kn w0 M L fun w => ∀ j v, cs[j]? = some v → w.cell? ⟨bk, off + j, none⟩ = some v) (hS : ∀ w, Sep w0 M L w → S w) (ho : ops[i]? = some ⟨some d, .load ty a, t, p, af, g⟩) (hg : go ops σ g) (ha : ev σ a = .pointer (some ⟨bk, off, none⟩)) (hm : cs.length = m)
    (h : RG P n w0 M ops S L r (upd σ d (.agg cs.toArray)) K) : RG P n w0 M ops S L (.op .l i r) σ K :=
  rL1 hS ho hg (fun w hs => by unfold opw; simp [execOp, ha, run_load_agg hA hz hm (hc w hs)]; exact hs) h
/-- A cell of a block known whole. -/
theorem cB (j : Nat) {bk e o : Nat} {cs : List Value} {v : Value} (hj : L[j]? = some (blk bk e cs)) (hc : cs[o]? = some v) : Kn w0 M L fun w => w.cell? ⟨bk, o, none⟩ = some v := fun w hs => (hs.at_ j hj).cell hc
theorem cBs (j : Nat) {bk e : Nat} {cs : List Value} (hj : L[j]? = some (blk bk e cs)) : Kn w0 M L fun w => ∀ k v, cs[k]? = some v → w.cell? ⟨bk, 0 + k, none⟩ = some v := fun w hs k v hk => by rw [Nat.zero_add]; exact (hs.at_ j hj).cell hk
/-! ### New blocks -/
theorem alloc_opw {o : Oper} {e : TypeId} {cs : List Value} {w : World} (hr : (execOp (ev σ) o).run P w = .ok (.value (.pointer (some ⟨w.heap.size, 0, none⟩))) (w.alloc (.cells cs.toArray e))) (hs : Sep w0 M L w) :
    opw P o σ w fun σ' w' => ∃ bk, w0.heap.size ≤ bk ∧ Sep w0 M (blk bk e cs :: L) w' ∧ σ' = put σ o.dst (.pointer (some ⟨bk, 0, none⟩)) := by
  unfold opw; rw [hr]; exact ⟨_, hs.base_le, hs.alloc e cs, rfl⟩
theorem run_newVar {e : TypeId} {v : Value} (w : World) : (newVar e v).run P w = .ok ⟨w.heap.size, 0, none⟩ (w.alloc (.cells v.cells e)) := by
  simp [newVar, newRow]
/-- A value laid in a new variable. -/
theorem box {e : TypeId} {v : Value} {cs : List Value} (hS : ∀ bk w, Sep w0 M (blk bk e cs :: L) w → S w) (ho : ops[i]? = some ⟨some d, .box e a, t, p, af, g⟩) (hg : go ops σ g) (ha : ev σ a = v) (hv : v.cells = cs.toArray)
    (h : ∀ bk, w0.heap.size ≤ bk → RG P n w0 M ops S (blk bk e cs :: L) r (upd σ d (.pointer (some ⟨bk, 0, none⟩))) K) : RG P n w0 M ops S L (.op .l i r) σ K :=
  rL (good := fun bk => w0.heap.size ≤ bk) (Lx := fun bk => blk bk e cs :: L) (v := fun bk => .pointer (some ⟨bk, 0, none⟩)) hS ho hg (fun w hs => alloc_opw (by simp [execOp, ha, Instr.box, run_newVar, hv]) hs) h
/-- A new variable with its zero value. -/
theorem alc {e : TypeId} {z : Value} {cs : List Value} (hz : ∀ w, (zeroValue e).run P w = .ok z w) (hv : z.cells = cs.toArray) (hS : ∀ bk w, Sep w0 M (blk bk e cs :: L) w → S w) (ho : ops[i]? = some ⟨some d, .alloc e, t, p, af, g⟩) (hg : go ops σ g)
    (h : ∀ bk, w0.heap.size ≤ bk → RG P n w0 M ops S (blk bk e cs :: L) r (upd σ d (.pointer (some ⟨bk, 0, none⟩))) K) : RG P n w0 M ops S L (.op .l i r) σ K :=
  rL (good := fun bk => w0.heap.size ≤ bk) (Lx := fun bk => blk bk e cs :: L) (v := fun bk => .pointer (some ⟨bk, 0, none⟩)) hS ho hg (fun w hs => alloc_opw (by simp [execOp, Instr.alloc, hz w, run_newVar, hv]) hs) h
/-! ### Stores into a block known whole -/
theorem run_store_blk {ty : TypeId} {v : Value} {bk e o : Nat} {cs : List Value} {w : World} (hz : Size P ty 1) (hv : v.oneCell' = true) (hb : blk bk e cs w) (hlt : o < cs.length) :
    (Instr.storeAt ty (.pointer (some ⟨bk, o, none⟩)) v).run P w = .ok () (w.setRow bk (cs.set o v).toArray) := by
  have hc : v.cells = #[v] := by cases v <;> first | rfl | cases hv
  have hst := run_storeCells_at P bk o e [v] 0 cs.toArray w hb (by simp; omega) (by simpa using hv)
  have hl : (cs.take o ++ v :: cs.drop (o + 1)) = cs.set o v := by rw [List.set_eq_take_append_cons_drop, if_pos hlt]
  simp [Instr.storeAt, Instr.sureAddr, storeVar, hz w, hc]
  have hst' : (storeCells ⟨bk, o, none⟩ [v] 0).run P w = .ok () (w.setRow bk (cs.take o ++ v :: cs.drop (o + 1)).toArray) := by simpa using hst
  rw [hst', hl]
theorem st_opw {ty : TypeId} {v : Value} {bk e o : Nat} {cs : List Value} {w : World} (j : Nat) (hj : L[j]? = some (blk bk e cs)) (hz : Size P ty 1) (hv : v.oneCell' = true) (hlt : o < cs.length) (hs : Sep w0 M L w) (ha : ev σ a = .pointer (some ⟨bk, o, none⟩)) (hb : ev σ b = v) :
    opw P ⟨none, .store ty a b, t, p, af, g⟩ σ w fun σ' w' => Sep w0 M (L.set j (blk bk e (cs.set o v))) w' ∧ σ' = σ := by
  unfold opw
  simp [execOp, ha, hb, run_store_blk hz hv (hs.at_ j hj) hlt]
  exact ⟨hs.store j hj rfl, rfl⟩
/-- A store of one cell into piece 'j'. -/
theorem stl {ty : TypeId} {v : Value} {bk e o : Nat} {cs : List Value} (j : Nat) (hj : L[j]? = some (blk bk e cs)) (hz : Size P ty 1) (hS : ∀ w, Sep w0 M (L.set j (blk bk e (cs.set o v))) w → S w) (ho : ops[i]? = some ⟨none, .store ty a b, t, p, af, g⟩) (hg : go ops σ g) (ha : ev σ a = .pointer (some ⟨bk, o, none⟩)) (hb : ev σ b = v) (hv : v.oneCell' = true) (hlt : o < cs.length)
    (h : RG P n w0 M ops S (L.set j (blk bk e (cs.set o v))) r σ K) : RG P n w0 M ops S L (.op .l i r) σ K :=
  rL1 (v := undef) hS ho hg (fun _ hs => st_opw j hj hz hv hlt hs ha hb) h
theorem stf {ty : TypeId} {v : Value} {bk e o : Nat} {cs : List Value} (j : Nat) (hj : L[j]? = some (blk bk e cs)) (hz : Size P ty 1) (ho : ops[i]? = some ⟨none, .store ty a b, t, p, af, g⟩) (hg : go ops σ g) (ha : ev σ a = .pointer (some ⟨bk, o, none⟩)) (hb : ev σ b = v) (hv : v.oneCell' = true) (hlt : o < cs.length)
    (h : RG P n w0 M ops S (L.set j (blk bk e (cs.set o v))) r σ K) : RG P n w0 M ops S L (.op .f i r) σ K :=
  rF1 (v := undef) ho hg (fun _ hs => st_opw j hj hz hv hlt hs ha hb) h
theorem run_storeA_blk {ty : TypeId} {vs : List Value} {bk e : Nat} {cs : List Value} {w : World} (hz : Size P ty vs.length) (hv : ∀ v ∈ vs, v.oneCell' = true) (hb : blk bk e cs w) (hlt : cs.length = vs.length) :
    (Instr.storeAt ty (.pointer (some ⟨bk, 0, none⟩)) (.agg vs.toArray)).run P w = .ok () (w.setRow bk vs.toArray) := by
  have hst := run_storeCells_at P bk 0 e vs 0 cs.toArray w hb (by simp; omega) hv
  have hst' : (storeCells ⟨bk, 0, none⟩ vs 0).run P w = .ok () (w.setRow bk vs.toArray) := by simpa [hlt, List.drop_of_length_le (Nat.le_of_eq hlt)] using hst
  simp [Instr.storeAt, Instr.sureAddr, storeVar, hz w, Value.cells, hst']
theorem stA_opw {ty : TypeId} {vs : List Value} {bk e : Nat} {cs : List Value} {w : World} (j : Nat) (hj : L[j]? = some (blk bk e cs)) (hz : Size P ty vs.length) (hv : ∀ v ∈ vs, v.oneCell' = true) (hlt : cs.length = vs.length) (hs : Sep w0 M L w) (ha : ev σ a = .pointer (some ⟨bk, 0, none⟩)) (hb : ev σ b = .agg vs.toArray) :
    opw P ⟨none, .store ty a b, t, p, af, g⟩ σ w fun σ' w' => Sep w0 M (L.set j (blk bk e vs)) w' ∧ σ' = σ := by
  unfold opw
  simp [execOp, ha, hb, run_storeA_blk hz hv (hs.at_ j hj) hlt]
  exact ⟨hs.store j hj rfl, rfl⟩
/-- A store of a whole struct into piece 'j'. -/
theorem stAl {ty m : TypeId} {vs : List Value} {bk e : Nat} {cs : List Value} (j : Nat) (hj : L[j]? = some (blk bk e cs)) (hz : Size P ty m) (hS : ∀ w, Sep w0 M (L.set j (blk bk e vs)) w → S w) (ho : ops[i]? = some ⟨none, .store ty a b, t, p, af, g⟩) (hg : go ops σ g) (ha : ev σ a = .pointer (some ⟨bk, 0, none⟩)) (hb : ev σ b = .agg vs.toArray) (hm : vs.length = m) (hv : ∀ v ∈ vs, v.oneCell' = true) (hlt : cs.length = vs.length)
    (h : RG P n w0 M ops S (L.set j (blk bk e vs)) r σ K) : RG P n w0 M ops S L (.op .l i r) σ K :=
  rL1 (v := undef) hS ho hg (fun _ hs => stA_opw j hj (by rw [hm]; exact hz) hv hlt hs ha hb) h
/-! ### Structs by value -/
/-- 'build' of a struct. -/
theorem bld {ty : TypeId} {ps : Array (Nat × Operand)} {l : List (Nat × Value)} {vs : List Value} (ho : ops[i]? = some ⟨some d, .build ty ps, t, p, af, g⟩) (hg : go ops σ g) (hp : ps.toList.map (fun q => (q.1, ev σ q.2)) = l) (hb : ∀ w, (Instr.build ty l.toArray).run P w = .ok (.agg vs.toArray) w)
    (h : RG P n w0 M ops S L r (upd σ d (.agg vs.toArray)) K) : RG P n w0 M ops S L (.op .q i r) σ K :=
  rQ ho hg (fun w _ => by
    have he : (ps.map fun (j, x) => (j, ev σ x)) = l.toArray := by rw [← hp, ← Array.toList_map, Array.toArray_toList]
    simp only [execOp, he, Sem.run_bind, hb w, Result.andThen_ok, Sem.run_pure]) h
/-! ### Calls -/
theorem call_opw {f : FuncId} {args : Array Operand} {tys : Array TypeId} {R : Value → World → Prop} {Q : Fr → World → Prop} {w : World} (hf : ∀ args w, (callFunc f args).run P w = .ok (.enter f args) w)
    (hc : Calls P f (args.toList.map (ev σ)).toArray w (Ret R)) (hq : ∀ v w', R v w' → Q (upd σ d v) w') : opw P ⟨some d, .call ⟨.value (.func f), args, tys⟩, t, p, af, g⟩ σ w Q := by
  have hr : (execOp (ev σ) ⟨some d, .call ⟨.value (.func f), args, tys⟩, t, p, af, g⟩).run P w = .ok (.enter f (args.toList.map (ev σ)).toArray) w := by
    have he : args.map (ev σ) = (args.toList.map (ev σ)).toArray := by rw [← Array.toList_map, Array.toArray_toList]
    simp [execOp, resolve, ev, Deferred.ofValue, invoke, hf, he]
  unfold opw; rw [hr]
  exact Calls.mono hc fun e w' ⟨v, he, hR⟩ => ⟨v, he, hq v w' hR⟩
/-- A call whose value is known, and that only makes memory. -/
theorem callP {f : FuncId} {args : Array Operand} {tys : Array TypeId} {v : Value} (hf : ∀ args w, (callFunc f args).run P w = .ok (.enter f args) w) (hS : ∀ w, Sep w0 M L w → S w) (ho : ops[i]? = some ⟨some d, .call ⟨.value (.func f), args, tys⟩, t, p, af, g⟩) (hg : go ops σ g)
    (hc : ∀ w, Sep w0 M L w → Calls P f (args.toList.map (ev σ)).toArray w (Ret fun v' w' => v' = v ∧ Ext w w')) (h : RG P n w0 M ops S L r (upd σ d v) K) : RG P n w0 M ops S L (.op .l i r) σ K :=
  rL1 hS ho hg (fun w hs => call_opw hf (hc w hs) fun v' w' ⟨he, hx⟩ => by subst he; exact ⟨hs.ext hx, rfl⟩) h
/-- A call that hands back new memory. -/
theorem callN {α : Type} {f : FuncId} {args : Array Operand} {tys : Array TypeId} {val : α → Value} {good : α → Prop} {φ : α → World → Prop} (hf : ∀ args w, (callFunc f args).run P w = .ok (.enter f args) w) (hS : ∀ x w, Sep w0 M (φ x :: L) w → S w) (ho : ops[i]? = some ⟨some d, .call ⟨.value (.func f), args, tys⟩, t, p, af, g⟩) (hg : go ops σ g)
    (hc : ∀ w, Sep w0 M L w → Calls P f (args.toList.map (ev σ)).toArray w (Ret fun v' w' => ∃ x, v' = val x ∧ good x ∧ Ext w w' ∧ St (New w w') (φ x) w')) (h : ∀ x, good x → RG P n w0 M ops S (φ x :: L) r (upd σ d (val x)) K) : RG P n w0 M ops S L (.op .l i r) σ K :=
  rL (Lx := fun x => φ x :: L) (v := val) hS ho hg (fun w hs => call_opw hf (hc w hs) fun v' w' ⟨x, he, hx, he', hst⟩ => by subst he; exact ⟨x, hx, hs.push he' hst, rfl⟩) h
end
theorem Value.cells_int (k : IntKind) (z : Int) : (Value.int k z).cells = #[.int k z] := rfl
theorem aggCells (cs : Array Value) : (Value.agg cs).cells = cs := rfl
theorem bT {p : Prop} [Decidable p] (h : p) : (.bool true : Value) = .bool (decide p) := by rw [decide_eq_true h]
theorem bF {p : Prop} [Decidable p] (h : ¬ p) : (.bool false : Value) = .bool (decide p) := by rw [decide_eq_false h]
theorem bD {p q : Prop} [Decidable p] [Decidable q] (h : p ↔ q) : (.bool (decide p) : Value) = .bool (decide q) := by rw [decide_eq_decide.2 h]
theorem bB {b c : Bool} (h : b = c) : (.bool b : Value) = .bool c := by rw [h]
theorem vI {k : IntKind} {a b : Int} (h : a = b) : (.int k a : Value) = .int k b := by rw [h]
theorem trv {w0 : World} {M : Nat → Prop} {L : List (World → Prop)} : ∀ w, Sep w0 M L w → Tr w := fun _ _ => trivial
theorem trv1 {α : Type} {w0 : World} {M : Nat → Prop} {L : α → List (World → Prop)} : ∀ x w, Sep w0 M (L x) w → Tr w := fun _ _ _ => trivial
/-! ### A function -/
/-- What a function's result variables hold at its end. -/
def resL (P : Program) (σ : Fr) (w : World) : List ResultVar → List Value → Prop
  | [], [] => True
  | .tmp t :: rs, v :: vs => σ t = v ∧ resL P σ w rs vs
  | .cell a ty :: rs, v :: vs => (∃ ad, σ a = .pointer (some ad) ∧ (Instr.loadAt ty (.pointer (some ad))).run P w = .ok v w) ∧ resL P σ w rs vs
  | _, _ => False
def one (vs : List Value) : Value := match vs with
  | [v] => v
  | vs => .tuple vs.toArray
def rv (tmps : Array Value) : ResultVar → Sem Value
  | .tmp t => pure (tmps.getD t undef)
  | .cell x t => do loadVar t (← asAddr (tmps.getD x undef))
theorem run_results {P : Program} {fn : Func} {n : Nat} {ds : List Deferred} {a : Act} {σ : Fr} {w : World} {vs : List Value} (ha : Ag n ds a σ) (h : resL P σ w fn.results.toList vs) : (results fn a.tmps).run P w = .ok (one vs) w := by
  have key : ∀ (rs : List ResultVar) (vs : List Value), resL P σ w rs vs → (rs.mapM (rv a.tmps)).run P w = .ok vs w := by
    intro rs
    induction rs with
    | nil => intro vs h; cases vs with | nil => simp | cons _ _ => exact h.elim
    | cons x rs ih =>
      intro vs h
      cases vs with
      | nil => cases x <;> exact h.elim
      | cons v vs =>
        cases x with
        | tmp t =>
          obtain ⟨h1, h2⟩ := h
          have := ih vs h2
          simp only [List.mapM_cons, rv, Sem.run_bind, Sem.run_pure, Result.andThen_ok, this, ha.at_ t, h1]
        | cell x ty =>
          obtain ⟨⟨ad, h1, h3⟩, h2⟩ := h
          have := ih vs h2
          simp only [Instr.loadAt, Instr.sureAddr, Sem.run_bind, Sem.run_pure, Result.andThen_ok] at h3
          simp only [List.mapM_cons, rv, Sem.run_bind, Sem.run_pure, Result.andThen_ok, this, ha.at_ x, h1, asAddr, h3]
  have hres : results fn a.tmps = (do
      let vs ← fn.results.mapM (rv a.tmps)
      pure (if h : vs.size = 1 then vs[0] else .tuple vs)) := by
    unfold results
    congr 1
  rw [hres, Array.mapM_eq_mapM_toList]
  have h1 := key _ vs h
  simp only [Sem.run_bind, Sem.run_map, h1, Result.andThen_ok, Sem.run_pure]
  congr 1
  unfold one
  cases vs with
  | nil => simp
  | cons v vs => cases vs with
    | nil => simp
    | cons _ _ => simp
def args0 : Nat → List Value → List (Nat × Value)
  | _, [] => []
  | k, v :: r => (k, v) :: args0 (k + 1) r
def fr0 (vs : List Value) : Fr := ups (fun _ => undef) (args0 0 vs)
theorem ups_args0 (vs : List Value) (k t : Nat) : ups (fun _ => undef) (args0 k vs) t = if t < k then undef else (vs[t - k]?).getD undef := by
  induction vs generalizing k with
  | nil => simp [args0, ups]
  | cons v r ih =>
    simp only [args0, ups, upd]
    cases hb : Nat.beq t k with
    | true =>
      have : t = k := Nat.eq_of_beq_eq_true hb
      subst this; simp
    | false =>
      have hne : t ≠ k := fun h => by rw [h, Nat.beq_refl] at hb; cases hb
      simp only [cond_false, ih (k + 1)]
      by_cases h : t < k
      · rw [if_pos (by omega), if_pos h]
      · rw [if_neg (by omega), if_neg h]
        have : t - k = (t - (k + 1)) + 1 := by omega
        rw [this]; simp
theorem leave_spec {P : Program} {fn : Func} {n : Nat} {rs : List ResultVar} {R : Value → World → Prop} (hr : fn.results = rs.toArray) : ∀ (ds : List Deferred) (a : Act) (σ : Fr) (w : World), Ag n a.defers a σ →
    Leave ds (fun w' => ∃ us, resL P σ w' rs us ∧ R (one us) w') w → LeavesInM (FW none) 0 P fn a.tmps (Ret R) ds .returning w
  | [], a, σ, w, ha, ⟨us, hres, hR⟩ => ⟨one us, run_results ha (by rw [hr]; simpa using hres), one us, rfl, hR⟩
  | d :: ds, a, σ, w, ha, ⟨D, hd, hD, h⟩ => ⟨by simp, .inl ⟨D, _, by rw [hd]; rfl, run_takeDeferred hD, leave_spec hr ds a σ _ ha h⟩⟩
/-- THE ENTRY: a function's contract out of its body. -/
theorem fn {P : Program} {f : FuncId} {fn : Func} {n : Nat} {c : Code} {vs : List Value} {w : World} {M : Nat → Prop} {L : List (World → Prop)} {R : Value → World → Prop} {rs : List ResultVar} (hf : P.funcs[f]? = some fn) (hb : fn.body = some c) (hn : fn.ntmps = n) (hr : fn.results = rs.toArray) (hl : Nat.ble vs.length n = true)
    (hL : Sep w M L w) (h : HT P ⟨n, none, []⟩ w M L (fr0 vs) c (.ret fun σ w' => ∃ us, resL P σ w' rs us ∧ R (one us) w')) : Calls P f vs.toArray w (Ret R) := by
  have hl := Nat.le_of_ble_eq_true hl
  refine calls_FW.1 (callsIn_of_wp_marks (F := FW none) (n := 0) hf hb trivial ?_)
  have ha : Ag n [] { tmps := vs.toArray ++ Array.replicate (fn.ntmps - vs.toArray.size) undef, defers := [] } (fr0 vs) := by
    refine ⟨by simp [hn]; omega, rfl, fun t => ?_⟩
    rw [fr0, ups_args0, if_neg (Nat.not_lt_zero t), Nat.sub_zero]
    simp only [Array.getD_eq_getD_getElem?, Array.getElem?_append, List.size_toArray]
    by_cases ht : t < vs.length
    · simp [ht]
    · simp only [if_neg ht, Array.getElem?_replicate]
      rw [List.getElem?_eq_none (by omega)]
      split <;> rfl
  refine wpIn_mono (h w hL _ ha) ?_
  intro e a' w' hq
  cases e <;> simp only [WQ, denX, den, bodyPostM] at hq ⊢ <;> (try exact hq) <;> (try (obtain ⟨_, _, _, hq⟩ := hq; exact hq.elim))
  all_goals
    obtain ⟨ds, σ, ha', hq⟩ := hq
    have hds := ha'.df
    subst hds
    exact leave_spec hr _ a' σ w' ha' hq
end Go.Proofs.Yteaahdakammffaa.V
