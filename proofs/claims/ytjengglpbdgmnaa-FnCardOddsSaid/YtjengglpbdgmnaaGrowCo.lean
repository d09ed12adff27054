/- A slice put into an owned row; plain facts on bet trees. No condition. -/
import Derived.Test.YtjengglpbdgmnaaTreeCo
import Derived.Test.YtjengglpbdgmnaaEngCCo
namespace Go.Proofs.Ytjengglpbdgmnaa.V
open Go Go.RowKit
set_option linter.unusedVariables false
set_option linter.unusedSimpArgs false
theorem mid_set (A o C : List Value) (f : Nat) (v : Value) (hf : f < o.length) : A ++ o.set f v ++ C = (A ++ o ++ C).take (A.length + f) ++ [v] ++ (A ++ o ++ C).drop (A.length + f + 1) := by
  have h1 : (A ++ o ++ C).take (A.length + f) = A ++ o.take f := by
    rw [List.append_assoc, List.take_length_add_append, List.take_append_of_le_length (by omega)]
  have h2 : (A ++ o ++ C).drop (A.length + f + 1) = o.drop (f + 1) ++ C := by
    rw [List.append_assoc, Nat.add_assoc, List.drop_length_add_append, List.drop_append_of_le_length (by omega)]
  rw [h1, h2, List.set_eq_take_append_cons_drop, if_pos hf]
  simp
theorem one_cell {cur o : List Value} {p m f : Nat} {v : Value} (h : ∀ j u, o[j]? = some u → cur[p + j]? = some u) (hl : o.length = m) (hm : p + m ≤ cur.length) (hf : f < m) :
    cur.take p ++ o.set f v ++ cur.drop (p + m) = cur.take (p + f) ++ [v] ++ cur.drop (p + f + 1) := by
  have hA : (cur.take p).length = p := by rw [List.length_take]; omega
  have hcur : cur.take p ++ o ++ cur.drop (p + m) = cur := by
    have : (cur.drop p).take m = o := by
      refine List.ext_getElem? fun j => ?_
      by_cases hj : j < m
      · rw [List.getElem?_take_of_lt hj, List.getElem?_drop]
        have ho : o[j]? = some (o[j]'(by omega)) := List.getElem?_eq_getElem (by omega)
        rw [h j _ ho, ho]
      · rw [List.getElem?_eq_none (by rw [List.length_take]; omega), List.getElem?_eq_none (by omega)]
    rw [← this, List.append_assoc, ← List.drop_drop, List.take_append_drop, List.take_append_drop]
  have := mid_set (cur.take p) o (cur.drop (p + m)) f v (by omega)
  rw [hcur, hA] at this
  exact this
section
variable {P : Program} {n : Nat} {w0 : World} {M : Nat → Prop} {L L' : List (World → Prop)} {σ : Fr} {K K' : Ko} {c x y : Code} {ops : Array Oper} {S : World → Prop} {r : Sch} {i : Nat}
variable {d : Nat} {t : TypeId} {p : String} {af : Array Edge} {g : Option (Nat × Bool)} {a b : Operand}
variable {α : Type} {k : RK α} {ty e e1 by_ N C : Nat} {ao : Option Addr} {hs : Nat → Hd} {xs : List α} {zc : List Value}
/-- A store of a slice into one cell of an owned row, with what it leads to. -/
theorem stRk_opw {gk off nn f : Nat} {hd : Hd} {x x' : α} {ro j q : Nat} {v : Value} {w : World} (hk : k.Ok) (hj : L[j]? = some (OwnR k e e1 ao N C hs xs)) (hq : (L.eraseIdx j)[q]? = some (OwnI e1 hd.1 nn hd.2 (k.kid x'))) (hao : ao = some ⟨gk, 0, none⟩) (hx : xs[ro]? = some x) (hz : Size P ty 1) (hsep : Sep w0 M L w) (ha : ev σ a = .pointer (some ⟨gk, off, none⟩)) (hoff : off = ro * k.m + f) (hb : ev σ b = v) (hv : nn = (k.kid x').length → k.cells x' hd = (k.cells x (hs ro)).set f v) (hv1 : v.oneCell' = true) (hf : f < k.m) :
    opw P ⟨none, .store ty a b, t, p, af, g⟩ σ w fun σ' w' => Sep w0 M (OwnR k e e1 ao N C (hset hs ro hd) (xs.set ro x') :: (L.eraseIdx j).eraseIdx q) w' ∧ σ' = σ := by
  subst hao
  subst hoff
  have hrow : OwnR k e e1 (some ⟨gk, 0, none⟩) N C hs xs w := hsep.at_ j hj
  have hlt : ro < N := by rw [← hrow.1]; exact (List.getElem?_eq_some_iff.1 hx).1
  have hnn : OwnI e1 hd.1 nn hd.2 (k.kid x') w := ((hsep.perm (pull hj)).tail).at_ q hq
  have hnn := hnn.lenz
  subst hnn
  have hv := hv rfl
  have hp := (hsep.perm (pull hj)).perm ((pull hq).cons _)
  have core : ∀ f0 g', St f0 (OwnR k e e1 (some ⟨gk, 0, none⟩) N C hs xs) w → St g' (OwnI e1 hd.1 (k.kid x').length hd.2 (k.kid x')) w → (∀ q, f0 q → ¬ g' q) →
      ∃ cur : Array Value, w.heap[gk]? = some (.cells cur e (0, 0)) ∧ ro * k.m + (k.cells x' hd).length ≤ cur.size ∧ OwnR k e e1 (some ⟨gk, 0, none⟩) N C (hset hs ro hd) (xs.set ro x') (w.setRow gk (cur.toList.take (ro * k.m) ++ k.cells x' hd ++ cur.toList.drop (ro * k.m + (k.cells x' hd).length)).toArray) := fun f0 g' hf hg' hfg =>
    OwnR.setRow_ hk hf.out hg'.out hlt (OwnR.mem hf) (fun q hq => Own.mem hg' q hq) hfg
  obtain ⟨_, fs, h2⟩ := id hp
  match fs, h2 with
  | f0 :: g' :: fs, ⟨k1, k2, k3, k4, k5, k6, k7⟩ =>
    obtain ⟨cur, hc, hsz, _⟩ := core f0 g' k3 k6 fun q hq hq' => k2 g' List.mem_cons_self q hq hq'
    have hlen := hk.len x' hd
    have hsame : cur.toList.take (ro * k.m) ++ k.cells x' hd ++ cur.toList.drop (ro * k.m + (k.cells x' hd).length) = cur.toList.take (ro * k.m + f) ++ [v] ++ cur.toList.drop (ro * k.m + f + 1) := by
      rw [hlen, hv]
      refine one_cell (fun j u hu => ?_) (hk.len x (hs ro)) (by rw [Array.length_toList]; omega) hf
      obtain ⟨b', hb', hcell⟩ := hrow.cell hk hx hu
      cases hb'
      unfold World.cell? at hcell
      simp only [hc] at hcell
      simpa using hcell
    have hc1 : v.cells = #[v] := by cases v <;> first | rfl | cases hv1
    have hst := run_storeCells_at P gk (ro * k.m + f) e [v] 0 cur w hc (by simp; omega) (by simpa using hv1)
    have hr : (Instr.storeAt ty (.pointer (some ⟨gk, ro * k.m + f, none⟩)) v).run P w = .ok () (w.setRow gk (cur.toList.take (ro * k.m + f) ++ [v] ++ cur.toList.drop (ro * k.m + f + 1)).toArray) := by
      simp only [Instr.storeAt, Instr.sureAddr, storeVar, hz w, hc1, Sem.run_bind, Sem.run_pure, Result.andThen_ok]
      simpa using hst
    unfold opw
    simp only [execOp, ha, hb, Sem.run_bind, hr, Result.andThen_ok, Sem.run_pure]
    refine ⟨hp.fuse fun f1 g1 hf1 hg1 hfg => ?_, by first | trivial | rfl⟩
    obtain ⟨cur', hc', _, ho'⟩ := core f1 g1 hf1 hg1 hfg
    rw [hc] at hc'; cases hc'
    rw [hsame] at ho'
    refine ⟨fun q => f1 q ∨ g1 q, fun q hq => hq.elim .inl (.inr ∘ .inl), ho'.St fun q hq => ?_, ⟨rfl, rfl, rfl, by simp, fun q _ hn => setRow_other w gk q _ fun e => hn (e ▸ .inl (OwnR.mem hf1 gk (.inl rfl)))⟩⟩
    rcases hq with hq | ⟨i', hi', hq⟩
    · exact .inl (OwnR.mem hf1 q (.inl hq))
    · by_cases h5 : i' = ro
      · subst h5; rw [hset_same] at hq; exact .inr (Own.mem hg1 q hq)
      · rw [hset_other hs hd h5] at hq; exact .inl (OwnR.mem hf1 q (.inr ⟨i', hi', hq⟩))
  | [_], ⟨_, _, _, h⟩ => exact h.elim
  | [], h => exact h.elim
theorem stRk {gk off nn f : Nat} {hd : Hd} (x x' : α) (ro j q : Nat) (hk : k.Ok) (hj : L[j]? = some (OwnR k e e1 ao N C hs xs)) (hq : (L.eraseIdx j)[q]? = some (OwnI e1 hd.1 nn hd.2 (k.kid x'))) (hao : ao = some ⟨gk, 0, none⟩) (hx : xs[ro]? = some x) (hz : Size P ty 1) (hS : ∀ w, Sep w0 M (OwnR k e e1 ao N C (hset hs ro hd) (xs.set ro x') :: (L.eraseIdx j).eraseIdx q) w → S w) (ho : ops[i]? = some ⟨none, .store ty a b, t, p, af, g⟩) (hg : go ops σ g) (ha : ev σ a = .pointer (some ⟨gk, off, none⟩)) (hoff : off = ro * k.m + f) {v : Value} (hb : ev σ b = v) (hv : nn = (k.kid x').length → k.cells x' hd = (k.cells x (hs ro)).set f v) (hv1 : v.oneCell' = true) (hf : f < k.m)
    (h : RG P n w0 M ops S (OwnR k e e1 ao N C (hset hs ro hd) (xs.set ro x') :: (L.eraseIdx j).eraseIdx q) r σ K) : RG P n w0 M ops S L (.op .l i r) σ K :=
  rL1 (v := undef) hS ho hg (fun _ hs => stRk_opw hk hj hq hao hx hz hs ha hoff hb hv hv1 hf) h
end
end Go.Proofs.Ytjengglpbdgmnaa.V
namespace Go.Proofs.Ytjengglpbdgmnaa.Math
open Go.Proofs.Ytjengglpbdgmnaa.V
/-- How often a tree may grow on. -/
def ckN (ck : Bool) : Int := if ck then 2 else 3
def p2 : Nat → Nat
  | 0 => 1
  | f + 1 => p2 f + p2 f
theorem p2_pos : ∀ f, 1 ≤ p2 f
  | 0 => Nat.le_refl _
  | f + 1 => by have := p2_pos f; unfold p2; omega
/-- A bet tree: the nodes that are added. -/
def growF : Nat → Int → Int → Int → Int → Int → Bool → Nat → List Nd
  | 0, _, _, _, _, _, _, _ => []
  | f + 1, pl, p0, p1, bet, r, ck, b =>
    if p0 = p1 then
      ⟨pl, p0, p1, -1, [((b + 1 : Nat) : Int), ((b + 1 + (if ck then [(⟨2, p0, p1, -1, []⟩ : Nd)] else growF f (1 - pl) p0 p1 bet r true (b + 1)).length : Nat) : Int)]⟩ ::
        ((if ck then [(⟨2, p0, p1, -1, []⟩ : Nd)] else growF f (1 - pl) p0 p1 bet r true (b + 1)) ++
          growF f (1 - pl) (if pl = 0 then p1 + bet else p0) (if pl = 0 then p1 else p0 + bet) bet r false (b + 1 + (if ck then [(⟨2, p0, p1, -1, []⟩ : Nd)] else growF f (1 - pl) p0 p1 bet r true (b + 1)).length))
    else if r = 0 then [⟨pl, p0, p1, -1, [((b + 1 : Nat) : Int), ((b + 1 + 1 : Nat) : Int)]⟩, ⟨2, p0, p1, pl, []⟩, ⟨2, if pl = 0 then p1 else p0, if pl = 0 then p1 else p0, -1, []⟩]
    else ⟨pl, p0, p1, -1, [((b + 1 : Nat) : Int), ((b + 1 + 1 : Nat) : Int), ((b + 1 + 1 + 1 : Nat) : Int)]⟩ :: ⟨2, p0, p1, pl, []⟩ :: ⟨2, if pl = 0 then p1 else p0, if pl = 0 then p1 else p0, -1, []⟩ ::
      growF f (1 - pl) (if pl = 0 then p1 + bet else p0) (if pl = 0 then p1 else p0 + bet) bet (r - 1) false (b + 1 + 1 + 1)
theorem growF_len : ∀ (f : Nat) (pl p0 p1 bet r : Int) (ck : Bool) (b : Nat), (growF f pl p0 p1 bet r ck b).length + 3 ≤ 4 * p2 f
  | 0, _, _, _, _, _, _, _ => by show 0 + 3 ≤ 4 * 1; omega
  | f + 1, pl, p0, p1, bet, r, ck, b => by
    have h2 : p2 (f + 1) = p2 f + p2 f := rfl
    have hp := p2_pos f
    unfold growF
    split
    · rw [List.length_cons, List.length_append]
      have h1 : (if ck then [(⟨2, p0, p1, -1, []⟩ : Nd)] else growF f (1 - pl) p0 p1 bet r true (b + 1)).length + 3 ≤ 4 * p2 f := by
        split
        · show 1 + 3 ≤ _; omega
        · exact growF_len f _ _ _ _ _ _ _
      generalize (if ck then [(⟨2, p0, p1, -1, []⟩ : Nd)] else growF f (1 - pl) p0 p1 bet r true (b + 1)).length = u at h1 ⊢
      have := growF_len f (1 - pl) (if pl = 0 then p1 + bet else p0) (if pl = 0 then p1 else p0 + bet) bet r false (b + 1 + u)
      omega
    · split
      · show 3 + 3 ≤ _; omega
      · have := growF_len f (1 - pl) (if pl = 0 then p1 + bet else p0) (if pl = 0 then p1 else p0 + bet) bet (r - 1) false (b + 1 + 1 + 1)
        simp only [List.length_cons]; omega
theorem set_mid {z rest : List Nd} {x y : Nd} {n : Nat} (h : z.length = n) : (z ++ x :: rest).set n y = z ++ y :: rest := by
  subst h
  rw [List.set_append_right _ _ (Nat.le_refl _), Nat.sub_self]; rfl
section
variable {z : List Nd} {f n n1 n2 : Nat} {pl p0 p1 q0 q1 o bet r r1 pm : Int} {ck : Bool} {ch : List Int} {A B : List Nd}
theorem grow_1 (hz : z.length = n) (he : ¬ p0 = p1) (hr : r = 0) (ho : o = if pl = 0 then p1 else p0) (hch : ch = [((n + 1 : Nat) : Int), ((n + 1 + 1 : Nat) : Int)]) :
    (((z ++ [(⟨pl, p0, p1, -1, []⟩ : Nd)]) ++ [(⟨2, p0, p1, pl, []⟩ : Nd)]) ++ [(⟨2, o, o, -1, []⟩ : Nd)]).set n ⟨pl, p0, p1, -1, ch⟩ = z ++ growF (f + 1) pl p0 p1 bet r ck n := by
  subst ho; subst hch; subst hr
  rw [growF, if_neg he, if_pos rfl, List.append_assoc, List.append_assoc]
  exact set_mid hz
theorem grow_2 (hz : z.length = n) (he : ¬ p0 = p1) (hr : r ≠ 0) (hr1 : r1 = r - 1) (hm : pm = 1 - pl) (ho : o = if pl = 0 then p1 else p0) (h0 : q0 = if pl = 0 then p1 + bet else p0) (h1 : q1 = if pl = 0 then p1 else p0 + bet) (hch : ch = [((n + 1 : Nat) : Int), ((n + 1 + 1 : Nat) : Int), ((n + 1 + 1 + 1 : Nat) : Int)]) :
    ((((z ++ [(⟨pl, p0, p1, -1, []⟩ : Nd)]) ++ [(⟨2, p0, p1, pl, []⟩ : Nd)]) ++ [(⟨2, o, o, -1, []⟩ : Nd)]) ++ growF f pm q0 q1 bet r1 false (n + 1 + 1 + 1)).set n ⟨pl, p0, p1, -1, ch⟩ = z ++ growF (f + 1) pl p0 p1 bet r ck n := by
  subst ho; subst hch; subst h0; subst h1; subst hm; subst hr1
  rw [growF, if_neg he, if_neg hr, List.append_assoc, List.append_assoc, List.append_assoc]
  exact set_mid hz
theorem grow_3 (hz : z.length = n) (he : p0 = p1) (hck : ck = true) (hm : pm = 1 - pl) (h0 : q0 = if pl = 0 then p1 + bet else p0) (h1 : q1 = if pl = 0 then p1 else p0 + bet) (hch : ch = [((n + 1 : Nat) : Int), ((n + 1 + 1 : Nat) : Int)]) :
    (((z ++ [(⟨pl, p0, p1, -1, []⟩ : Nd)]) ++ [(⟨2, p0, p1, -1, []⟩ : Nd)]) ++ growF f pm q0 q1 bet r false (n + 1 + 1)).set n ⟨pl, p0, p1, -1, ch⟩ = z ++ growF (f + 1) pl p0 p1 bet r ck n := by
  subst hch; subst h0; subst h1; subst hm; subst hck
  rw [growF, if_pos he, List.append_assoc, List.append_assoc]
  exact set_mid hz
theorem grow_4 (hz : z.length = n) (he : p0 = p1) (hck : ck = false) (hm : pm = 1 - pl) (h0 : q0 = if pl = 0 then p1 + bet else p0) (h1 : q1 = if pl = 0 then p1 else p0 + bet) (hn : n1 = n + 1 + (growF f pm p0 p1 bet r true (n + 1)).length) (hch : ch = [((n + 1 : Nat) : Int), (n1 : Int)]) :
    (((z ++ [(⟨pl, p0, p1, -1, []⟩ : Nd)]) ++ growF f pm p0 p1 bet r true (n + 1)) ++ growF f pm q0 q1 bet r false n1).set n ⟨pl, p0, p1, -1, ch⟩ = z ++ growF (f + 1) pl p0 p1 bet r ck n := by
  subst hch; subst h0; subst h1; subst hck; subst hn; subst hm
  rw [growF, if_pos he, List.append_assoc, List.append_assoc]
  exact set_mid hz
theorem at_mid {rest : List Nd} {x : Nd} (h : z.length = n) : (z ++ x :: rest)[n]? = some x := by subst h; simp
end
def betAt (ante bet r : Int) : List Nd × Int := if (0 ≤ ante ∧ ante ≤ 100) ∧ (1 ≤ bet ∧ bet ≤ 100) ∧ (0 ≤ r ∧ r ≤ 2) ∧ ante + bet * (r + 1) ≤ 100 then (growF 5 0 ante ante bet r false 0, 0) else ([], 2)
theorem betAt_2 {ante bet r : Int} (h : ¬ ((0 ≤ ante ∧ ante ≤ 100) ∧ (1 ≤ bet ∧ bet ≤ 100) ∧ (0 ≤ r ∧ r ≤ 2) ∧ ante + bet * (r + 1) ≤ 100)) : betAt ante bet r = ([], 2) := if_neg h
theorem betAt_0 {ante bet r : Int} (h : (0 ≤ ante ∧ ante ≤ 100) ∧ (1 ≤ bet ∧ bet ≤ 100) ∧ (0 ≤ r ∧ r ≤ 2) ∧ ante + bet * (r + 1) ≤ 100) : betAt ante bet r = (growF 5 0 ante ante bet r false 0, 0) := if_pos h
end Go.Proofs.Ytjengglpbdgmnaa.Math
