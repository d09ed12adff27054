/- The engine, part 3: judgements over all worlds that meet what is known, and one rule an operation. No condition. -/
import Derived.Test.YtjengglpbdgmnaaEng2Co
namespace Go.Proofs.Ytjengglpbdgmnaa.V
open Go Go.RowKit
set_option linter.unusedVariables false
def HT (P : Program) (n : Nat) (w0 : World) (M : Nat → Prop) (L : List (World → Prop)) (σ : Fr) (c : Code) (K : Ko) : Prop := ∀ w, Sep w0 M L w → WP P n c (den P n K) σ w
def QT (P : Program) (n : Nat) (w0 : World) (M : Nat → Prop) (L : List (World → Prop)) (σ : Fr) (e : Exit) (K : Ko) : Prop := ∀ w, Sep w0 M L w → den P n K e σ w
def RG (P : Program) (n : Nat) (w0 : World) (M : Nat → Prop) (ops : Array Oper) (S : World → Prop) (L : List (World → Prop)) (sched : Sch) (σ : Fr) (K : Ko) : Prop :=
 ∀ w, Sep w0 M L w → wpd P ops S (den P n K .normal) sched σ w
def Tr : World → Prop := fun _ => True
section
variable {P : Program} {n : Nat} {w0 : World} {M : Nat → Prop} {L L' : List (World → Prop)} {σ : Fr} {K K' : Ko} {c x y : Code} {ops : Array Oper} {S : World → Prop} {r : Sch} {i : Nat} {kd : Kd}
/-! ### Code -/
theorem hSeq (h : HT P n w0 M L σ x (.seq y K)) : HT P n w0 M L σ (.seq x y) K := fun w hs => WP_seq (h w hs)
theorem hBlk {id : Nat} (h : HT P n w0 M L σ c (.blk id K)) : HT P n w0 M L σ (.block id c) K := fun w hs => WP_block (h w hs)
theorem hSkip (h : QT P n w0 M L σ .normal K) : HT P n w0 M L σ .skip K := fun w hs => WP_skip (h w hs)
theorem hIf {o : Operand} {b : Bool} (hc : ev σ o = .bool b) (ht : b = true → HT P n w0 M L σ x K) (hf : b = false → HT P n w0 M L σ y K) : HT P n w0 M L σ (.cond o x y) K :=
 fun w hs => WP_cond hc (fun h => ht h w hs) (fun h => hf h w hs)
theorem hIfD {o : Operand} {p : Prop} [Decidable p] (hc : ev σ o = .bool (decide p)) (ht : p → HT P n w0 M L σ x K) (hf : ¬ p → HT P n w0 M L σ y K) : HT P n w0 M L σ (.cond o x y) K :=
 hIf hc (fun h => ht (of_decide_eq_true h)) (fun h => hf (of_decide_eq_false h))
theorem hIfT {o : Operand} (hc : ev σ o = .bool true) (ht : HT P n w0 M L σ x K) : HT P n w0 M L σ (.cond o x y) K := hIf hc (fun _ => ht) (fun h => by cases h)
theorem hIfF {o : Operand} (hc : ev σ o = .bool false) (hf : HT P n w0 M L σ y K) : HT P n w0 M L σ (.cond o x y) K := hIf hc (fun h => by cases h) (fun _ => hf)
theorem hIfN {o : Operand} {b : Bool} (hc : ev σ o = .bool !b) (ht : b = false → HT P n w0 M L σ x K) (hf : b = true → HT P n w0 M L σ y K) : HT P n w0 M L σ (.cond o x y) K :=
 hIf hc (fun h => ht (by simpa using h)) (fun h => hf (by simpa using h))
theorem hRet (h : Kn w0 M L (retR K σ)) : HT P n w0 M L σ .ret K := fun w hs => WP_ret (by rw [den_ret]; exact h w hs)
theorem hExit {id : Nat} (hk : exitK id K = some K') (h : QT P n w0 M L σ .normal K') : HT P n w0 M L σ (.exit id) K := fun w hs => WP_exit (by rw [den_exit P n id K K' hk]; exact h w hs)
theorem qSeq (hk : normK K = .seq c K') (h : HT P n w0 M L σ c K') : QT P n w0 M L σ .normal K := fun w hs => by rw [den_norm, hk]; exact h w hs
theorem qLoop {J : Fr → World → Prop} (hk : normK K = .loop J K') (h : Kn w0 M L (J σ)) : QT P n w0 M L σ .normal K := fun w hs => by rw [den_norm, hk]; exact h w hs
/-- At a loop: 'x' of any type says where the rounds stand; 'm' goes down; slots 'sl x' are known; pieces 'Lx x' stand. -/
theorem hLoop {α : Type} (ok : α → Prop) (m : α → Nat) (Lx : α → List (World → Prop)) (sl : α → List (Nat × Value)) (x0 : α) (h0 : ok x0) (hL : ∀ w, Sep w0 M L w → Sep w0 M (Lx x0) w) (hsl : knows σ (sl x0))
  (round : ∀ x τ, ok x → HT P n w0 M (Lx x) (ups τ (sl x)) c (.loop (fun σ' w' => ∃ y, m y < m x ∧ ok y ∧ knows σ' (sl y) ∧ Sep w0 M (Lx y) w') K)) : HT P n w0 M L σ (.loop c) K := by
 intro w hs
 refine WP_loop (fun k σ w => ∃ x, m x = k ∧ ok x ∧ knows σ (sl x) ∧ Sep w0 M (Lx x) w) (m x0) ⟨x0, rfl, h0, hsl, hL w hs⟩ ?_
 rintro k σ w ⟨x, rfl, hx, hk, hs⟩
 have h1 := round x σ hx w hs
 rw [ups_of_knows σ _ hk] at h1
 intro a ha
 refine Code.wp_mono (WQ_mono ?_) (h1 a ha)
 intro e σ' w' h
 cases e <;> simp only [den] at h ⊢ <;> (try exact h)
 obtain ⟨y, hm, hy, hk', hs'⟩ := h
 exact ⟨m y, hm, y, rfl, hy, hk', hs'⟩
/-- The end of a round. -/
theorem qNext {α : Type} {ok : α → Prop} {m : α → Nat} {Lx : α → List (World → Prop)} {sl : α → List (Nat × Value)} {x : α} (hk : normK K = .loop (fun σ' w' => ∃ y, m y < m x ∧ ok y ∧ knows σ' (sl y) ∧ Sep w0 M (Lx y) w') K')
  (y : α) (hm : m y < m x) (hy : ok y) (hs : knows σ (sl y)) (hL : ∀ w, Sep w0 M L w → Sep w0 M (Lx y) w) : QT P n w0 M L σ .normal K := qLoop hk fun w h => ⟨y, hm, hy, hs, hL w h⟩
/-- Slots and pieces spelt otherwise. -/
theorem hRe {τ : Fr} {sl : List (Nat × Value)} (sl' : List (Nat × Value)) (L' : List (World → Prop)) (hs : sl = sl') (hL : L = L') (h : HT P n w0 M L' (ups τ sl') c K) : HT P n w0 M L (ups τ sl) c K := by
 subst hs hL; exact h
theorem hPieces (hL : ∀ w, Sep w0 M L w → Sep w0 M L' w) (h : HT P n w0 M L' σ c K) : HT P n w0 M L σ c K := fun w hs => h w (hL w hs)
/-! ### Regions -/
def okReg (n : Nat) (ops : Array Oper) (sched : Sch) : Bool := dstOk n ops && (sched.flat == List.range ops.size)
theorem hReg {id : Nat} (sched : Sch) (hd : okReg n ops sched = true) (h : RG P n w0 M ops Tr L sched σ K) : HT P n w0 M L σ (.region id ops false) K := fun w hs => by
 simp only [okReg, Bool.and_eq_true, beq_iff_eq] at hd
 exact WP_region sched hd.1 hd.2 (h w hs)
theorem hDraw {id : Nat} {Ls : List (World → Prop)} (hm : P.follows .mixedOrders = true) (sched : Sch) (hd : okDraw n ops sched = true) (hl : Ls.Sublist L) (h : RG P n w0 M ops (Sep w0 M Ls) L sched σ K) : HT P n w0 M L σ (.region id ops true) K := fun w hs =>
 WP_region_draw sched hm hd (hs.drew.sub hl) (h _ hs.drew)
/-- Either may come up. -/
theorem rAlt {s s' : Sch} (h : RG P n w0 M ops S L s σ K) (h' : RG P n w0 M ops S L s' σ K) : RG P n w0 M ops S L (.alt s s') σ K := fun w hs => ⟨h w hs, h' w hs⟩
theorem rNil (h : QT P n w0 M L σ .normal K) : RG P n w0 M ops S L .nil σ K := h
/-- Pieces may be forgotten on the way. -/
theorem rPieces (hL : ∀ w, Sep w0 M L w → Sep w0 M L' w) (h : RG P n w0 M ops S L' r σ K) : RG P n w0 M ops S L r σ K := fun w hs => h w (hL w hs)
/-- A slot that holds a Bool: two ways. -/
theorem rBool {d : Nat} {b : Bool} (hd : σ d = .bool b) (ht : b = true → RG P n w0 M ops S L r (upd σ d (.bool true)) K) (hf : b = false → RG P n w0 M ops S L r (upd σ d (.bool false)) K) : RG P n w0 M ops S L r σ K := by
 have he : ∀ b', b = b' → upd σ d (.bool b') = σ := fun b' hb => by
  funext t; simp only [upd]
  cases ht : Nat.beq t d with
  | false => rfl
  | true => rw [Nat.eq_of_beq_eq_true ht, hd, hb]; rfl
 cases b with
 | true => have := ht rfl; rwa [he true rfl] at this
 | false => have := hf rfl; rwa [he false rfl] at this
theorem rBoolD {d : Nat} {p : Prop} [Decidable p] (hd : σ d = .bool (decide p)) (ht : p → RG P n w0 M ops S L r (upd σ d (.bool true)) K) (hf : ¬ p → RG P n w0 M ops S L r (upd σ d (.bool false)) K) : RG P n w0 M ops S L r σ K :=
 rBool hd (fun h => ht (of_decide_eq_true h)) (fun h => hf (of_decide_eq_false h))
theorem rBoolN {d : Nat} {b : Bool} (hd : σ d = .bool !b) (ht : b = false → RG P n w0 M ops S L r (upd σ d (.bool true)) K) (hf : b = true → RG P n w0 M ops S L r (upd σ d (.bool false)) K) : RG P n w0 M ops S L r σ K :=
 rBool hd (fun h => ht (by simpa using h)) (fun h => hf (by simpa using h))
/-- The guard of an operation lets it by. -/
abbrev go (ops : Array Oper) (σ : Fr) (g : Option (Nat × Bool)) : Prop := (match g with | none => true | some (j, want) => yl ops σ j == some want) = true
theorem go.wanted {o : Oper} (h : go ops σ o.guard) : Region.wanted o (yl ops σ) = true := by
 unfold Region.wanted
 cases hg : o.guard with
 | none => rfl
 | some p => obtain ⟨j, want⟩ := p; rw [hg] at h; simpa using h
/-- The guard says no. -/
abbrev stop (ops : Array Oper) (σ : Fr) (g : Option (Nat × Bool)) : Prop := (match g with | none => true | some (j, want) => yl ops σ j == some want) = false
theorem stop.wanted {o : Oper} (h : stop ops σ o.guard) : Region.wanted o (yl ops σ) = false := by
 unfold Region.wanted
 cases hg : o.guard with
 | none => rw [hg] at h; cases h
 | some p => obtain ⟨j, want⟩ := p; rw [hg] at h; simpa using h
theorem rQ {o : Oper} {v : Value} (ho : ops[i]? = some o) (hg : go ops σ o.guard) (hv : ∀ w, S w → (execOp (ev σ) o).run P w = .ok (.value v) w) (h : RG P n w0 M ops S L r (put σ o.dst v) K) :
  RG P n w0 M ops S L (.op .q i r) σ K := fun w hs => ⟨o, v, ho, .inl ⟨hg.wanted, hv⟩, h w hs⟩
theorem rSkipQ {o : Oper} (ho : ops[i]? = some o) (hg : stop ops σ o.guard) (h : RG P n w0 M ops S L r (put σ o.dst undef) K) : RG P n w0 M ops S L (.op .q i r) σ K :=
 fun w hs => ⟨o, undef, ho, .inr ⟨hg.wanted, rfl⟩, h w hs⟩
theorem rSkipL (hS : ∀ w, Sep w0 M L w → S w) {o : Oper} (ho : ops[i]? = some o) (hg : stop ops σ o.guard) (h : RG P n w0 M ops S L r (put σ o.dst undef) K) : RG P n w0 M ops S L (.op .l i r) σ K :=
 fun w hs => ⟨o, ho, by unfold stepV; rw [if_neg (by rw [stop.wanted hg]; simp)]; exact ⟨hS w hs, h w hs⟩⟩
/-- An operation that may turn the world: behind it some 'x' with pieces 'Lx x' and the value 'v x'. -/
theorem rL {α : Type} {good : α → Prop} {Lx : α → List (World → Prop)} {v : α → Value} (hS : ∀ x w, Sep w0 M (Lx x) w → S w) {o : Oper} (ho : ops[i]? = some o) (hg : go ops σ o.guard)
  (hop : ∀ w, Sep w0 M L w → opw P o σ w fun σ' w' => ∃ x, good x ∧ Sep w0 M (Lx x) w' ∧ σ' = put σ o.dst (v x)) (h : ∀ x, good x → RG P n w0 M ops S (Lx x) r (put σ o.dst (v x)) K) :
  RG P n w0 M ops S L (.op .l i r) σ K := fun w hs => ⟨o, ho, by
 unfold stepV; rw [if_pos hg.wanted]
 exact opw_mono (fun σ' w' ⟨x, hx, hs', he⟩ => by subst he; exact ⟨hS x w' hs', h x hx w' hs'⟩) (hop w hs)⟩
theorem rF {α : Type} {good : α → Prop} {Lx : α → List (World → Prop)} {v : α → Value} {o : Oper} (ho : ops[i]? = some o) (hg : go ops σ o.guard)
  (hop : ∀ w, Sep w0 M L w → opw P o σ w fun σ' w' => ∃ x, good x ∧ Sep w0 M (Lx x) w' ∧ σ' = put σ o.dst (v x)) (h : ∀ x, good x → RG P n w0 M ops S (Lx x) r (put σ o.dst (v x)) K) :
  RG P n w0 M ops S L (.op .f i r) σ K := fun w hs => ⟨o, ho, by
 unfold stepV; rw [if_pos hg.wanted]
 exact opw_mono (fun σ' w' ⟨x, hx, hs', he⟩ => by subst he; exact h x hx w' hs') (hop w hs)⟩
/-! ### Operations that yield a value -/
section pure
variable {d : Nat} {t : TypeId} {p : String} {af : Array Edge} {g : Option (Nat × Bool)} {a b : Operand}
theorem mv {v : Value} (ho : ops[i]? = some ⟨some d, .move a, t, p, af, g⟩) (hg : go ops σ g) (hv : ev σ a = v) (h : RG P n w0 M ops S L r (upd σ d v) K) : RG P n w0 M ops S L (.op .q i r) σ K :=
 rQ ho hg (fun w _ => by simp [execOp, hv]) h
theorem mvI {k : IntKind} {z : Int} (ho : ops[i]? = some ⟨some d, .move a, t, p, af, g⟩) (hg : go ops σ g) (hv : ev σ a = .int k z) (h : RG P n w0 M ops S L r (upd σ d (.int k z)) K) : RG P n w0 M ops S L (.op .q i r) σ K := mv ho hg hv h
theorem mvB {z : Bool} (ho : ops[i]? = some ⟨some d, .move a, t, p, af, g⟩) (hg : go ops σ g) (hv : ev σ a = .bool z) (h : RG P n w0 M ops S L r (upd σ d (.bool z)) K) : RG P n w0 M ops S L (.op .q i r) σ K := mv ho hg hv h
theorem mvP {z : Option Addr} (ho : ops[i]? = some ⟨some d, .move a, t, p, af, g⟩) (hg : go ops σ g) (hv : ev σ a = .pointer z) (h : RG P n w0 M ops S L r (upd σ d (.pointer z)) K) : RG P n w0 M ops S L (.op .q i r) σ K := mv ho hg hv h
theorem mvS {z : Option Addr} {l c : Nat} (ho : ops[i]? = some ⟨some d, .move a, t, p, af, g⟩) (hg : go ops σ g) (hv : ev σ a = .slice z l c) (h : RG P n w0 M ops S L r (upd σ d (.slice z l c)) K) : RG P n w0 M ops S L (.op .q i r) σ K := mv ho hg hv h
theorem asn {v : Value} (ho : ops[i]? = some ⟨some d, .assign a, t, p, af, g⟩) (hg : go ops σ g) (hv : ev σ a = v) (h : RG P n w0 M ops S L r (upd σ d v) K) : RG P n w0 M ops S L (.op .q i r) σ K :=
 rQ ho hg (fun w _ => by simp [execOp, hv]) h
theorem asI {k : IntKind} {z : Int} (ho : ops[i]? = some ⟨some d, .assign a, t, p, af, g⟩) (hg : go ops σ g) (hv : ev σ a = .int k z) (h : RG P n w0 M ops S L r (upd σ d (.int k z)) K) : RG P n w0 M ops S L (.op .q i r) σ K := asn ho hg hv h
theorem asB {z : Bool} (ho : ops[i]? = some ⟨some d, .assign a, t, p, af, g⟩) (hg : go ops σ g) (hv : ev σ a = .bool z) (h : RG P n w0 M ops S L r (upd σ d (.bool z)) K) : RG P n w0 M ops S L (.op .q i r) σ K := asn ho hg hv h
theorem asS {z : Option Addr} {l c : Nat} (ho : ops[i]? = some ⟨some d, .assign a, t, p, af, g⟩) (hg : go ops σ g) (hv : ev σ a = .slice z l c) (h : RG P n w0 M ops S L r (upd σ d (.slice z l c)) K) : RG P n w0 M ops S L (.op .q i r) σ K := asn ho hg hv h
theorem pick {c : Operand} {z : Bool} {v : Value} (ho : ops[i]? = some ⟨some d, .pick c a b, t, p, af, g⟩) (hg : go ops σ g) (hc : ev σ c = .bool z) (hv : cond z (ev σ a) (ev σ b) = v) (h : RG P n w0 M ops S L r (upd σ d v) K) : RG P n w0 M ops S L (.op .q i r) σ K :=
 rQ ho hg (fun w _ => by cases z <;> simp at hv <;> simp [execOp, hc, hv, asBool]) h
theorem pickB {c : Operand} {z u : Bool} (ho : ops[i]? = some ⟨some d, .pick c a b, t, p, af, g⟩) (hg : go ops σ g) (hc : ev σ c = .bool z) (hv : cond z (ev σ a) (ev σ b) = .bool u) (h : RG P n w0 M ops S L r (upd σ d (.bool u)) K) : RG P n w0 M ops S L (.op .q i r) σ K := pick ho hg hc hv h
variable {ty yt : TypeId} {k : IntKind} {u z : Int}
theorem wrapI {v : Int} (h : -9223372036854775808 ≤ v ∧ v ≤ 9223372036854775807) : IntKind.i64.wrap v = v := IntWalk.i64_in v h
theorem addW (ho : ops[i]? = some ⟨some d, .binOp .add ty a b yt, t, p, af, g⟩) (hg : go ops σ g) (ha : ev σ a = .int k u) (hb : ev σ b = .int k z) (h : RG P n w0 M ops S L r (upd σ d (.int k (k.wrap (u + z)))) K) : RG P n w0 M ops S L (.op .q i r) σ K :=
 rQ ho hg (fun w _ => by simp [execOp, ha, hb, eqGuard, binOp, Op.intArith]) h
theorem subW (ho : ops[i]? = some ⟨some d, .binOp .sub ty a b yt, t, p, af, g⟩) (hg : go ops σ g) (ha : ev σ a = .int k u) (hb : ev σ b = .int k z) (h : RG P n w0 M ops S L r (upd σ d (.int k (k.wrap (u - z)))) K) : RG P n w0 M ops S L (.op .q i r) σ K :=
 rQ ho hg (fun w _ => by simp [execOp, ha, hb, eqGuard, binOp, Op.intArith]) h
theorem mulW (ho : ops[i]? = some ⟨some d, .binOp .mul ty a b yt, t, p, af, g⟩) (hg : go ops σ g) (ha : ev σ a = .int k u) (hb : ev σ b = .int k z) (h : RG P n w0 M ops S L r (upd σ d (.int k (k.wrap (u * z)))) K) : RG P n w0 M ops S L (.op .q i r) σ K :=
 rQ ho hg (fun w _ => by simp [execOp, ha, hb, eqGuard, binOp, Op.intArith]) h
theorem add (ho : ops[i]? = some ⟨some d, .binOp .add ty a b yt, t, p, af, g⟩) (hg : go ops σ g) (ha : ev σ a = .int .i64 u) (hb : ev σ b = .int .i64 z) (hr : -9223372036854775808 ≤ u + z ∧ u + z ≤ 9223372036854775807) (h : RG P n w0 M ops S L r (upd σ d (.int .i64 (u + z))) K) : RG P n w0 M ops S L (.op .q i r) σ K :=
 addW ho hg ha hb (by rw [wrapI hr]; exact h)
theorem sub (ho : ops[i]? = some ⟨some d, .binOp .sub ty a b yt, t, p, af, g⟩) (hg : go ops σ g) (ha : ev σ a = .int .i64 u) (hb : ev σ b = .int .i64 z) (hr : -9223372036854775808 ≤ u - z ∧ u - z ≤ 9223372036854775807) (h : RG P n w0 M ops S L r (upd σ d (.int .i64 (u - z))) K) : RG P n w0 M ops S L (.op .q i r) σ K :=
 subW ho hg ha hb (by rw [wrapI hr]; exact h)
theorem mul (ho : ops[i]? = some ⟨some d, .binOp .mul ty a b yt, t, p, af, g⟩) (hg : go ops σ g) (ha : ev σ a = .int .i64 u) (hb : ev σ b = .int .i64 z) (hr : -9223372036854775808 ≤ u * z ∧ u * z ≤ 9223372036854775807) (h : RG P n w0 M ops S L r (upd σ d (.int .i64 (u * z))) K) : RG P n w0 M ops S L (.op .q i r) σ K :=
 mulW ho hg ha hb (by rw [wrapI hr]; exact h)
theorem quoW (ho : ops[i]? = some ⟨some d, .binOp .quo ty a b yt, t, p, af, g⟩) (hg : go ops σ g) (ha : ev σ a = .int k u) (hb : ev σ b = .int k z) (hz : z ≠ 0) (h : RG P n w0 M ops S L r (upd σ d (.int k (k.wrap (u.tdiv z)))) K) : RG P n w0 M ops S L (.op .q i r) σ K :=
 rQ ho hg (fun w _ => by simp [execOp, ha, hb, eqGuard, binOp, Op.intDiv, hz]) h
/-- By a divisor of at least 1, whatever the sign. -/
theorem quoT (ho : ops[i]? = some ⟨some d, .binOp .quo ty a b yt, t, p, af, g⟩) (hg : go ops σ g) (ha : ev σ a = .int .i64 u) (hb : ev σ b = .int .i64 z) (hr : -9223372036854775808 ≤ u ∧ u ≤ 9223372036854775807 ∧ 1 ≤ z) (h : RG P n w0 M ops S L r (upd σ d (.int .i64 (u.tdiv z))) K) : RG P n w0 M ops S L (.op .q i r) σ K :=
 quoW ho hg ha hb (by omega) (by rw [IntWalk.i64_quo' u z hr]; exact h)
theorem quo (ho : ops[i]? = some ⟨some d, .binOp .quo ty a b yt, t, p, af, g⟩) (hg : go ops σ g) (ha : ev σ a = .int .i64 u) (hb : ev σ b = .int .i64 z) (hr : 0 ≤ u ∧ u ≤ 9223372036854775807 ∧ 1 ≤ z) (h : RG P n w0 M ops S L r (upd σ d (.int .i64 (u / z))) K) : RG P n w0 M ops S L (.op .q i r) σ K :=
 quoW ho hg ha hb (by omega) (by rw [IntWalk.i64_quo u z hr]; exact h)
theorem remT (ho : ops[i]? = some ⟨some d, .binOp .rem ty a b yt, t, p, af, g⟩) (hg : go ops σ g) (ha : ev σ a = .int k u) (hb : ev σ b = .int k z) (hz : z ≠ 0) (h : RG P n w0 M ops S L r (upd σ d (.int k (u.tmod z))) K) : RG P n w0 M ops S L (.op .q i r) σ K :=
 rQ ho hg (fun w _ => by simp [execOp, ha, hb, eqGuard, binOp, Op.intDiv, hz]) h
theorem rem (ho : ops[i]? = some ⟨some d, .binOp .rem ty a b yt, t, p, af, g⟩) (hg : go ops σ g) (ha : ev σ a = .int k u) (hb : ev σ b = .int k z) (hr : 0 ≤ u ∧ z ≠ 0) (h : RG P n w0 M ops S L r (upd σ d (.int k (u % z))) K) : RG P n w0 M ops S L (.op .q i r) σ K :=
 remT ho hg ha hb hr.2 (by rw [IntWalk.rem_in u z hr.1]; exact h)
theorem eql (ho : ops[i]? = some ⟨some d, .binOp .eql ty a b yt, t, p, af, g⟩) (hg : go ops σ g) (ha : ev σ a = .int k u) (hb : ev σ b = .int k z) (h : RG P n w0 M ops S L r (upd σ d (.bool (decide (u = z)))) K) : RG P n w0 M ops S L (.op .q i r) σ K :=
 rQ ho hg (fun w _ => by simp [execOp, ha, hb, eqGuard, binOp, Op.intCmp]; exact rfl) h
theorem neq (ho : ops[i]? = some ⟨some d, .binOp .neq ty a b yt, t, p, af, g⟩) (hg : go ops σ g) (ha : ev σ a = .int k u) (hb : ev σ b = .int k z) (h : RG P n w0 M ops S L r (upd σ d (.bool (decide (u ≠ z)))) K) : RG P n w0 M ops S L (.op .q i r) σ K :=
 rQ ho hg (fun w _ => by simp [execOp, ha, hb, eqGuard, binOp, Op.intCmp]; exact Bool.eq_iff_iff.2 (by simp)) h
theorem lss (ho : ops[i]? = some ⟨some d, .binOp .lss ty a b yt, t, p, af, g⟩) (hg : go ops σ g) (ha : ev σ a = .int k u) (hb : ev σ b = .int k z) (h : RG P n w0 M ops S L r (upd σ d (.bool (decide (u < z)))) K) : RG P n w0 M ops S L (.op .q i r) σ K :=
 rQ ho hg (fun w _ => by simp [execOp, ha, hb, eqGuard, binOp, Op.intCmp]) h
theorem leq (ho : ops[i]? = some ⟨some d, .binOp .leq ty a b yt, t, p, af, g⟩) (hg : go ops σ g) (ha : ev σ a = .int k u) (hb : ev σ b = .int k z) (h : RG P n w0 M ops S L r (upd σ d (.bool (decide (u ≤ z)))) K) : RG P n w0 M ops S L (.op .q i r) σ K :=
 rQ ho hg (fun w _ => by simp [execOp, ha, hb, eqGuard, binOp, Op.intCmp]) h
theorem gtr (ho : ops[i]? = some ⟨some d, .binOp .gtr ty a b yt, t, p, af, g⟩) (hg : go ops σ g) (ha : ev σ a = .int k u) (hb : ev σ b = .int k z) (h : RG P n w0 M ops S L r (upd σ d (.bool (decide (z < u)))) K) : RG P n w0 M ops S L (.op .q i r) σ K :=
 rQ ho hg (fun w _ => by simp [execOp, ha, hb, eqGuard, binOp, Op.intCmp]) h
theorem geq (ho : ops[i]? = some ⟨some d, .binOp .geq ty a b yt, t, p, af, g⟩) (hg : go ops σ g) (ha : ev σ a = .int k u) (hb : ev σ b = .int k z) (h : RG P n w0 M ops S L r (upd σ d (.bool (decide (z ≤ u)))) K) : RG P n w0 M ops S L (.op .q i r) σ K :=
 rQ ho hg (fun w _ => by simp [execOp, ha, hb, eqGuard, binOp, Op.intCmp]) h
theorem not {z : Bool} (ho : ops[i]? = some ⟨some d, .unOp .not ty a, t, p, af, g⟩) (hg : go ops σ g) (ha : ev σ a = .bool z) (h : RG P n w0 M ops S L r (upd σ d (.bool !z)) K) : RG P n w0 M ops S L (.op .q i r) σ K :=
 rQ ho hg (fun w _ => by simp [execOp, ha, Op.unary]) h
theorem notD {q : Prop} [Decidable q] (ho : ops[i]? = some ⟨some d, .unOp .not ty a, t, p, af, g⟩) (hg : go ops σ g) (ha : ev σ a = .bool (decide q)) (h : RG P n w0 M ops S L r (upd σ d (.bool (decide ¬q))) K) : RG P n w0 M ops S L (.op .q i r) σ K :=
 rQ ho hg (fun w _ => by simp only [execOp, ha, Op.unary, Sem.run_bind, Sem.run_pure, Result.andThen_ok]; congr 3; exact (decide_not).symm) h
theorem neg (ho : ops[i]? = some ⟨some d, .unOp .neg ty a, t, p, af, g⟩) (hg : go ops σ g) (ha : ev σ a = .int .i64 u) (hr : -9223372036854775807 ≤ u ∧ u ≤ 9223372036854775807) (h : RG P n w0 M ops S L r (upd σ d (.int .i64 (-u))) K) : RG P n w0 M ops S L (.op .q i r) σ K :=
 rQ ho hg (fun w _ => by simp only [execOp, ha, Op.unary, Op.intArith, Sem.run_bind, Sem.run_pure, Result.andThen_ok]; rw [show (0 : Int) - u = -u from by omega, wrapI (by omega)]) h
theorem max2 {tys : Array TypeId} (ho : ops[i]? = some ⟨some d, .call ⟨.builtin .max, #[a, b], tys⟩, t, p, af, g⟩) (hg : go ops σ g) (ha : ev σ a = .int k u) (hb : ev σ b = .int k z) (h : RG P n w0 M ops S L r (upd σ d (.int k (max u z))) K) : RG P n w0 M ops S L (.op .q i r) σ K :=
 rQ ho hg (fun w _ => by
  have : (if u < z then z else u) = max u z := by by_cases h : u < z <;> simp [h] <;> omega
  simp [execOp, resolve, invoke, builtin, Builtin.max_, Builtin.max2, ha, hb, this]) h
theorem lenS {ty e : TypeId} {ad : Option Addr} {l c : Nat} (hu : ∀ w, (underlying ty).run P w = .ok (.slice e) w) (ho : ops[i]? = some ⟨some d, .call ⟨.builtin .len, #[a], #[ty]⟩, t, p, af, g⟩) (hg : go ops σ g) (ha : ev σ a = .slice ad l c) (h : RG P n w0 M ops S L r (upd σ d (.int .i64 l)) K) : RG P n w0 M ops S L (.op .q i r) σ K :=
 rQ ho hg (fun w _ => by simp [execOp, resolve, invoke, builtin, Builtin.len_, ha, hu w, goInt]) h
theorem ext {vs : Array Value} {j : Nat} {v : Value} (ho : ops[i]? = some ⟨some d, .extract a j, t, p, af, g⟩) (hg : go ops σ g) (ha : ev σ a = .tuple vs) (hv : vs[j]? = some v) (h : RG P n w0 M ops S L r (upd σ d v) K) : RG P n w0 M ops S L (.op .q i r) σ K :=
 rQ ho hg (fun w _ => by simp [execOp, ha, Instr.extract, hv]) h
end pure
end
end Go.Proofs.Ytjengglpbdgmnaa.V
