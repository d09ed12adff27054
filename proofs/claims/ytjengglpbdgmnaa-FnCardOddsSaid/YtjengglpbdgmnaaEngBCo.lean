/- The engine, part 11: pieces that are handed over to be turned; rows turned in part. No condition. -/
import Derived.Test.YtjengglpbdgmnaaEngACo
namespace Go.Proofs.Ytjengglpbdgmnaa.V
open Go Go.RowKit
set_option linter.unusedVariables false
set_option linter.unusedSimpArgs false
section
variable {w0 : World} {M : Nat → Prop} {L Lf Lr : List (World → Prop)} {w w' : World} {B T : Nat}
theorem SepL.split : ∀ {Lf : List (World → Prop)} {fs : List (Nat → Prop)}, SepL M B T fs (Lf ++ Lr) w → ∃ fsf fsr, fs = fsf ++ fsr ∧ SepL M B T fsf Lf w ∧ SepL M B T fsr Lr w ∧ ∀ f ∈ fsf, ∀ g ∈ fsr, ∀ k, f k → ¬ g k
  | [], fs, h => ⟨[], fs, rfl, trivial, h, fun _ hf => by cases hf⟩
  | φ :: Lf, [], h => h.elim
  | φ :: Lf, f :: fs, h => by
    obtain ⟨h1, h2, h3, h4⟩ := h
    obtain ⟨fsf, fsr, rfl, a, b, c⟩ := SepL.split h4
    refine ⟨f :: fsf, fsr, rfl, ⟨h1, fun g hg => h2 g (List.mem_append_left _ hg), h3, a⟩, b, fun q hq g hg k hk => ?_⟩
    rcases List.mem_cons.1 hq with rfl | hq
    · exact h2 g (List.mem_append_right _ hg) k hk
    · exact c q hq g hg k hk
theorem SepL.glue : ∀ {Lf : List (World → Prop)} {fsf fsr : List (Nat → Prop)}, SepL M B T fsf Lf w → SepL M B T fsr Lr w → (∀ f ∈ fsf, ∀ g ∈ fsr, ∀ k, f k → ¬ g k) → SepL M B T (fsf ++ fsr) (Lf ++ Lr) w
  | [], [], _, _, h, _ => h
  | [], _ :: _, _, h, _, _ => h.elim
  | _ :: _, [], _, h, _, _ => h.elim
  | φ :: Lf, f :: fsf, fsr, h, h', hd => by
    obtain ⟨h1, h2, h3, h4⟩ := h
    refine ⟨h1, fun g hg k hk => ?_, h3, SepL.glue h4 h' fun f hf => hd f (List.mem_cons_of_mem _ hf)⟩
    rcases List.mem_append.1 hg with hg | hg
    · exact h2 g hg k hk
    · exact hd f List.mem_cons_self g hg k hk
theorem SepL.bounds {M' : Nat → Prop} {B' T' : Nat} : ∀ {L : List (World → Prop)} {fs : List (Nat → Prop)}, SepL M B T fs L w → (∀ f ∈ fs, ∀ k, f k → (B' ≤ k ∨ M' k) ∧ k < T') → SepL M' B' T' fs L w
  | [], [], _, _ => trivial
  | [], _ :: _, h, _ => h.elim
  | _ :: _, [], h, _ => h.elim
  | φ :: L, f :: fs, h, hb => ⟨fun k hk => hb f List.mem_cons_self k hk, h.2.1, h.2.2.1, SepL.bounds h.2.2.2 fun g hg => hb g (List.mem_cons_of_mem _ hg)⟩
/-- The first pieces by themselves: whoever turns them, and makes memory, leaves the rest. -/
theorem Sep.focus (h : Sep w0 M (Lf ++ Lr) w) : ∃ M0, Sep w M0 Lf w ∧ ∀ (L' : List (World → Prop)) (w' : World), Sep w M0 L' w' → Sep w0 M (L' ++ Lr) w' := by
  obtain ⟨h1, fs, h2⟩ := h
  obtain ⟨fsf, fsr, rfl, ha, hb, hd⟩ := h2.split
  refine ⟨fun k => ∃ f ∈ fsf, f k, ⟨.refl _ _, fsf, ha.bounds fun f hf k hk => ⟨.inr ⟨f, hf, hk⟩, (ha.fp_lt f hf k hk).2⟩⟩, fun L' w' h' => ?_⟩
  obtain ⟨hu, fs', h3⟩ := h'
  refine ⟨⟨hu.os.trans h1.os, hu.tape.trans h1.tape, hu.output.trans h1.output, Nat.le_trans h1.size hu.size, fun k hk hm => ?_⟩, fs' ++ fsr, SepL.glue (h3.bounds fun f hf k hk => ?_) ?_ fun f hf g hg k hk hgk => ?_⟩
  · rw [hu.block k (Nat.lt_of_lt_of_le hk h1.size) fun ⟨f, hf, hfk⟩ => ?_]
    · exact h1.block k hk hm
    · rcases (ha.fp_lt f hf k hfk).1 with h | h
      · exact Nat.not_le_of_lt hk h
      · exact hm h
  · obtain ⟨h4, h5⟩ := h3.fp_lt f hf k hk
    refine ⟨?_, h5⟩
    rcases h4 with h4 | ⟨q, hq, hqk⟩
    · exact .inl (Nat.le_trans h1.size h4)
    · exact (ha.fp_lt q hq k hqk).1
  · exact (hb.keep (T' := w'.heap.size) hu.size fun g hg k hk => hu.block k (hb.fp_lt g hg k hk).2 fun ⟨f, hf, hfk⟩ => hd f hf g hg k hfk hk)
  · rcases (h3.fp_lt f hf k hk).1 with h4 | ⟨q, hq, hqk⟩
    · exact Nat.not_le_of_lt (hb.fp_lt g hg k hgk).2 h4
    · exact hd q hq g hg k hqk hgk
end
/-- Rows of which one is lent out. -/
def OwnH {α : Type} (k : RK α) (e e1 : Nat) (a : Option Addr) (n c : Nat) (hs : Nat → Hd) (xs : List α) (q : Nat) : World → Prop := fun w =>
  xs.length = n ∧ Own e k.m a n c (rowsV k hs xs).flatten w ∧ (∀ i x, i ≠ q → xs[i]? = some x → OwnI e1 (hs i).1 (k.kid x).length (hs i).2 (k.kid x) w) ∧
  (∀ i j b, i < n → j < n → fpO (hs i).1 b → fpO (hs j).1 b → i = j) ∧ (∀ i b, i < n → fpO (hs i).1 b → ¬ fpO a b)
section
variable {α : Type} {k : RK α} {e e1 : Nat} {a : Option Addr} {n c q : Nat} {hs : Nat → Hd} {xs : List α} {x : α} {w0 w w' : World} {M : Nat → Prop} {L : List (World → Prop)}
theorem OwnH.St {f : Nat → Prop} (h : OwnH k e e1 a n c hs xs q w) (hf : ∀ b, fpR a hs n b → (q < n → ¬ fpO (hs q).1 b) → f b) : V.St f (OwnH k e e1 a n c hs xs q) w := by
  intro w' ha
  obtain ⟨h0, h1, h2, h3, h4⟩ := h
  refine ⟨h0, (h1.St fun b hb => hf b (.inl hb) fun hq hb' => h4 q b hq hb' hb) w' ha, fun i x hi hx => ?_, h3, h4⟩
  have hin : i < n := by rw [← h0]; exact (List.getElem?_eq_some_iff.1 hx).1
  exact (Own.St (h2 i x hi hx) fun b hb => hf b (.inr ⟨i, hin, hb⟩) fun hq hb' => hi (h3 i q b hin hq hb hb')) w' ha
theorem OwnH.mem {f : Nat → Prop} (h : V.St f (OwnH k e e1 a n c hs xs q) w) : ∀ b, fpR a hs n b → (q < n → ¬ fpO (hs q).1 b) → f b := by
  intro b hb hn
  rcases hb with hb | ⟨i, hi, hb⟩
  · exact Own.mem (h.imp fun w h => h.2.1) b hb
  · have h0 := h.out.1
    have hiq : i ≠ q := fun e => by subst e; exact hn hi hb
    have hx : xs[i]? = some (xs[i]'(by omega)) := List.getElem?_eq_getElem (by omega)
    exact Own.mem (show V.St f (OwnI e1 (hs i).1 (k.kid _).length (hs i).2 (k.kid _)) w from h.imp fun w h => h.2.2.1 i _ hiq hx) b hb
/-- One row's numbers, lent out. -/
theorem Sep.lend (h : Sep w0 M (OwnR k e e1 a n c hs xs :: L) w) (q : Nat) (x : α) (hx : xs[q]? = some x) : Sep w0 M (OwnI e1 (hs q).1 (k.kid x).length (hs q).2 (k.kid x) :: OwnH k e e1 a n c hs xs q :: L) w := by
  obtain ⟨h1, fs, h2⟩ := h
  match fs, h2 with
  | f :: fs, ⟨k1, k2, k3, k4⟩ =>
    have hown := k3.out
    have hq : q < n := by rw [← hown.1]; exact (List.getElem?_eq_some_iff.1 hx).1
    have hmem := OwnR.mem k3
    have hkid := hown.2.2.1 q x hx
    refine ⟨h1, (fun b => fpO (hs q).1 b) :: (fun b => f b ∧ ¬ fpO (hs q).1 b) :: fs, fun b hb => k1 b (hmem b (.inr ⟨q, hq, hb⟩)), fun g hg b hb hgb => ?_, Own.St hkid fun _ h => h, fun b hb => k1 b hb.1, fun g hg b hb => k2 g hg b hb.1, OwnH.St ⟨hown.1, hown.2.1, fun i y _ hy => hown.2.2.1 i y hy, hown.2.2.2.1, hown.2.2.2.2⟩ fun b hb hn => ⟨hmem b hb, hn hq⟩, k4⟩
    rcases List.mem_cons.1 hg with rfl | hg
    · exact hgb.2 hb
    · exact k2 g hg b (hmem b (.inr ⟨q, hq, hb⟩)) hgb
  | [], h => exact h.elim
/-- .. and handed back, turned. -/
theorem Sep.back {nn : Nat} {zs' : List Int} (x' : α) (hk : k.Ok) (h : Sep w0 M (OwnI e1 (hs q).1 nn (hs q).2 zs' :: OwnH k e e1 a n c hs xs q :: L) w) (hx : xs[q]? = some x) (hc : zs'.length = nn → nn = (k.kid x).length → k.cells x' (hs q) = k.cells x (hs q)) (hkid : k.kid x' = zs') (hnn : nn = (k.kid x).length) : Sep w0 M (OwnR k e e1 a n c hs (xs.set q x') :: L) w := by
  refine h.fuse fun f g hf hg hfg => ?_
  obtain ⟨h0, h1, h2, h3, h4⟩ := hg.out
  have hq : q < n := by rw [← h0]; exact (List.getElem?_eq_some_iff.1 hx).1
  have hlen := (show OwnI e1 (hs q).1 nn (hs q).2 zs' w from hf.out).lenz
  have mf := Own.mem hf
  have mg := OwnH.mem hg
  refine ⟨fun b => f b ∨ g b, fun b hb => hb.elim .inl (.inr ∘ .inl), OwnR.St ⟨by simpa using h0, ?_, fun i y hy => ?_, h3, h4⟩ fun b hb => ?_, .refl _ _⟩
  · rw [rowsV_same (by omega), hc hlen hnn]
    have : (rowsV k hs xs).set q (k.cells x (hs q)) = rowsV k hs xs := by
      apply List.ext_getElem?
      intro j
      by_cases hj : q = j
      · subst hj; rw [List.getElem?_set_self (by rw [rowsV_len]; omega), rowsV_get hx]
      · rw [List.getElem?_set_ne hj]
    rw [this]; exact h1
  · by_cases hi : i = q
    · subst hi
      rw [List.getElem?_set_self (by omega)] at hy
      cases hy
      rw [hkid, hlen]; exact hf.out
    · rw [List.getElem?_set_ne (Ne.symm hi)] at hy
      exact h2 i y hi hy
  · by_cases hb' : fpO (hs q).1 b
    · exact .inl (mf b hb')
    · exact .inr (mg b hb fun _ => hb')
/-- A row's own cell is turned. -/
theorem OwnR.setCell (hk : k.Ok) {b f : Nat} {x' : α} {v : Value} (h : OwnR k e e1 (some ⟨b, 0, none⟩) n c hs xs w) (hx : xs[q]? = some x) (hc : k.cells x' (hs q) = (k.cells x (hs q)).set f v) (hf : f < k.m) (hkid : k.kid x' = k.kid x) :
    ∃ cur : Array Value, w.heap[b]? = some (.cells cur e (0, 0)) ∧ q * k.m + f + 1 ≤ cur.size ∧ OwnR k e e1 (some ⟨b, 0, none⟩) n c hs (xs.set q x') (w.setRow b (cur.toList.take (q * k.m + f) ++ [v] ++ cur.toList.drop (q * k.m + f + 1)).toArray) := by
  obtain ⟨h0, h1, h2, h3, h4⟩ := h
  have hq : q < n := by rw [← h0]; exact (List.getElem?_eq_some_iff.1 hx).1
  have hfl : (rowsV k hs xs).flatten.length = n * k.m := h1.len
  have hle := Nat.mul_le_mul_right k.m (show q + 1 ≤ n from hq)
  rw [Nat.succ_mul] at hle
  obtain ⟨cur, hc1, hsz, hown⟩ := h1.setN (k := q * k.m + f) (news := [v]) (by simp only [hfl, List.length_cons, List.length_nil]; omega)
  simp only [List.length_cons, List.length_nil, Nat.zero_add] at hsz hown
  refine ⟨cur, hc1, hsz, by simpa using h0, ?_, fun i y hy => ?_, h3, h4⟩
  · have hset : (rowsV k hs (xs.set q x')).flatten = (rowsV k hs xs).flatten.set (q * k.m + f) v := by
      have hall := rowsV_all (hs := hs) (xs := xs) hk
      have hrow := flat_set hall (hk.len x (hs q)) (i := q) (by rw [rowsV_len]; omega)
      have hsame : (rowsV k hs xs).set q (k.cells x (hs q)) = rowsV k hs xs := by
        apply List.ext_getElem?
        intro j
        by_cases hj : q = j
        · subst hj; rw [List.getElem?_set_self (by rw [rowsV_len]; omega), rowsV_get hx]
        · rw [List.getElem?_set_ne hj]
      rw [hsame] at hrow
      have hl1 : (List.take (q * k.m) (rowsV k hs xs).flatten).length = q * k.m := by rw [List.length_take, hfl]; omega
      have key : ∀ (A B C : List Value), A.length = q * k.m → f < B.length → (A ++ B ++ C).set (q * k.m + f) v = A ++ B.set f v ++ C := by
        intro A B C hA hB
        rw [List.append_assoc, List.set_append_right _ _ (by omega), show q * k.m + f - A.length = f from by omega, List.set_append_left _ _ hB, List.append_assoc]
      rw [rowsV_same (by omega), hc, flat_set hall (by rw [List.length_set, hk.len]) (by rw [rowsV_len]; omega)]
      conv => rhs; rw [hrow]
      rw [key _ _ _ hl1 (by rw [hk.len]; exact hf)]
    rw [hset, List.set_eq_take_append_cons_drop, if_pos (by omega)]
    simpa using hown
  · have keep : ∀ {hd' : Hd} {zs : List Int} {nn : Nat}, OwnI e1 hd'.1 nn hd'.2 zs w → (∀ q, fpO hd'.1 q → ¬ q = b) → OwnI e1 hd'.1 nn hd'.2 zs (w.setRow b (cur.toList.take (q * k.m + f) ++ [v] ++ cur.toList.drop (q * k.m + f + 1)).toArray) := fun ho hq =>
      (Own.St (f := fpO _) ho fun _ h => h) _ fun r hr => setRow_other w b r _ (hq r hr)
    by_cases hi : i = q
    · subst hi
      rw [List.getElem?_set_self (by omega)] at hy
      cases hy
      rw [hkid]
      exact keep (h2 i x hx) fun r hr hrb => h4 i r hq hr (by rw [hrb]; rfl)
    · rw [List.getElem?_set_ne (Ne.symm hi)] at hy
      have hin : i < n := by rw [← h0]; exact (List.getElem?_eq_some_iff.1 hy).1
      exact keep (h2 i y hy) fun r hr hrb => h4 i r hin hr (by rw [hrb]; rfl)
end
section
variable {P : Program} {n : Nat} {w0 : World} {M : Nat → Prop} {L L' Lf Lr : List (World → Prop)} {σ : Fr} {K K' : Ko} {c x y : Code} {ops : Array Oper} {S : World → Prop} {r : Sch} {i : Nat}
variable {d : Nat} {t : TypeId} {p : String} {af : Array Edge} {g : Option (Nat × Bool)} {a b : Operand}
/-- A call to which the first pieces are handed over. -/
theorem callM {α : Type} {f : FuncId} {args : Array Operand} {tys : Array TypeId} {val : α → Value} {good : α → Prop} {φs : α → List (World → Prop)} (hL : L = Lf ++ Lr) (hf : ∀ args w, (callFunc f args).run P w = .ok (.enter f args) w) (hS : ∀ x w, Sep w0 M (φs x ++ Lr) w → S w) (ho : ops[i]? = some ⟨some d, .call ⟨.value (.func f), args, tys⟩, t, p, af, g⟩) (hg : go ops σ g)
    (hc : ∀ w M0, Sep w M0 Lf w → Calls P f (args.toList.map (ev σ)).toArray w (Ret fun v' w' => ∃ x, v' = val x ∧ good x ∧ Sep w M0 (φs x) w')) (h : ∀ x, good x → RG P n w0 M ops S (φs x ++ Lr) r (upd σ d (val x)) K) : RG P n w0 M ops S L (.op .l i r) σ K := by
  subst hL
  exact rL (Lx := fun x => φs x ++ Lr) (v := val) hS ho hg (fun w hs => by
    obtain ⟨M0, h1, h2⟩ := hs.focus
    exact call_opw hf (hc w M0 h1) fun v' w' ⟨x, he, hx, hsep⟩ => by subst he; exact ⟨x, hx, h2 _ _ hsep, rfl⟩) h
/-- One cell of a row is stored. -/
theorem stRc {α : Type} {k : RK α} {ty e e1 N C gk off f : Nat} {ao : Option Addr} {hs : Nat → Hd} {xs : List α} {v : Value} (x x' : α) (ro j : Nat) (hk : k.Ok) (hj : L[j]? = some (OwnR k e e1 ao N C hs xs)) (hao : ao = some ⟨gk, 0, none⟩) (hx : xs[ro]? = some x) (hc : k.cells x' (hs ro) = (k.cells x (hs ro)).set f v) (hkid : k.kid x' = k.kid x) (hz : Size P ty 1) (hS : ∀ w, Sep w0 M (L.set j (OwnR k e e1 ao N C hs (xs.set ro x'))) w → S w)
    (ho : ops[i]? = some ⟨none, .store ty a b, t, p, af, g⟩) (hg : go ops σ g) (ha : ev σ a = .pointer (some ⟨gk, off, none⟩)) (hoff : off = ro * k.m + f) (hf : f < k.m) (hb : ev σ b = v) (hv : v.oneCell' = true)
    (h : RG P n w0 M ops S (L.set j (OwnR k e e1 ao N C hs (xs.set ro x'))) r σ K) : RG P n w0 M ops S L (.op .l i r) σ K :=
  rL1 (v := undef) hS ho hg (fun w hsep => by
    subst hao
    subst hoff
    have hrow : OwnR k e e1 (some ⟨gk, 0, none⟩) N C hs xs w := hsep.at_ j hj
    obtain ⟨cur, hcur, hsz, hnew⟩ := hrow.setCell hk hx hc hf hkid
    have hc1 : v.cells = #[v] := by cases v <;> first | rfl | cases hv
    have hst := run_storeCells_at P gk (ro * k.m + f) e [v] 0 cur w hcur (by simpa using hsz) (by simpa using hv)
    have hr : (Instr.storeAt ty (.pointer (some ⟨gk, ro * k.m + f, none⟩)) v).run P w = .ok () (w.setRow gk (cur.toList.take (ro * k.m + f) ++ [v] ++ cur.toList.drop (ro * k.m + f + 1)).toArray) := by
      simp only [Instr.storeAt, Instr.sureAddr, storeVar, hz w, hc1, Sem.run_bind, Sem.run_pure, Result.andThen_ok]
      simpa using hst
    unfold opw
    simp only [execOp, ha, hb, Sem.run_bind, hr, Result.andThen_ok, Sem.run_pure]
    refine ⟨hsep.change j hj fun f' hf' => ⟨f', fun _ h => .inl h, ?_, ⟨rfl, rfl, rfl, by simp, fun q _ hn => setRow_other w gk q _ fun e => hn (e ▸ OwnR.mem hf' gk (.inl rfl))⟩⟩, by first | trivial | rfl⟩
    exact OwnR.St hnew fun b hb => OwnR.mem hf' b hb) h
theorem rKnow {φ : Prop} (hk : ∀ w, Sep w0 M L w → φ) (h : φ → RG P n w0 M ops S L r σ K) : RG P n w0 M ops S L r σ K := fun w hs => h (hk w hs) w hs
end
end Go.Proofs.Ytjengglpbdgmnaa.V
