/- The engine, part 4: memory operations, calls, a function's entry and end. No condition. -/
import Derived.Test.YtjengglpbdgmnaaEng3Co
namespace Go.Proofs.Ytjengglpbdgmnaa.V
open Go Go.RowKit
set_option linter.unusedVariables false
/-- What a call comes back with. -/
abbrev Ret (R : Value → World → Prop) : Ending → World → Prop := fun e w' => ∃ v, e = .returned v ∧ R v w'
theorem add_addr (b o j : Nat) : (⟨b, o, none⟩ : Addr).add j = ⟨b, o + j, none⟩ := by
  unfold Addr.add; split
  · rename_i h; subst h; rfl
  · rfl
section
variable {P : Program} {n : Nat} {w0 : World} {M : Nat → Prop} {L L' : List (World → Prop)} {σ : Fr} {K K' : Ko} {c x y : Code} {ops : Array Oper} {S : World → Prop} {r : Sch} {i : Nat}
variable {d : Nat} {t : TypeId} {p : String} {af : Array Edge} {g : Option (Nat × Bool)} {a b : Operand}
/-! ### Facts on types, asked once a program -/
abbrev Scal (P : Program) (ty : TypeId) : Prop := ∀ w, (isAgg ty).run P w = .ok false w
abbrev Size (P : Program) (ty : TypeId) (m : Nat) : Prop := ∀ w, (sizeOf ty).run P w = .ok m w
abbrev AggT (P : Program) (ty : TypeId) : Prop := ∀ w, (isAgg ty).run P w = .ok true w
/-- Field 'f' of the struct type 'ty' lies 'o' cells behind its head. -/
def Fld (P : Program) (ty : TypeId) (f o : Nat) : Prop := ∀ w ad, (Instr.fieldAt ty (.pointer (some ad)) f).run P w = .ok (.pointer (some (ad.add o))) w
/-- The elements of the slice type 'ty' take 'm' cells. -/
def Elt (P : Program) (ty : TypeId) (m : Nat) : Prop := ∃ e, (∀ w, (underlying ty).run P w = .ok (.slice e) w) ∧ ∀ w, (sizeOf e).run P w = .ok m w
/-! ### Addresses -/
theorem fld {ty : TypeId} {f o : Nat} {bk off : Nat} (hF : Fld P ty f o) (ho : ops[i]? = some ⟨some d, .fieldAddr ty a f, t, p, af, g⟩) (hg : go ops σ g) (ha : ev σ a = .pointer (some ⟨bk, off, none⟩))
    (h : RG P n w0 M ops S L r (upd σ d (.pointer (some ⟨bk, off + o, none⟩))) K) : RG P n w0 M ops S L (.op .q i r) σ K :=
  rQ ho hg (fun w _ => by simp [execOp, ha, hF w, add_addr]) h
theorem nilc {ad : Addr} (ho : ops[i]? = some ⟨some d, .nilCheck a, t, p, af, g⟩) (hg : go ops σ g) (ha : ev σ a = .pointer (some ad))
    (h : RG P n w0 M ops S L r (upd σ d (.pointer (some ad))) K) : RG P n w0 M ops S L (.op .q i r) σ K :=
  rQ ho hg (fun w _ => by simp [execOp, ha]) h
theorem run_indexAt {ty m bk off len cap : Nat} {k : IntKind} {z : Int} (hE : Elt P ty m) (h0 : 0 ≤ z) (h1 : z < len) (w : World) :
    (Instr.indexAt ty (.slice (some ⟨bk, off, none⟩) len cap) (.int k z)).run P w = .ok (.pointer (some ⟨bk, off + z.toNat * m, none⟩)) w := by
  obtain ⟨e, he, hs⟩ := hE
  simp [Instr.indexAt, asIntOf, he, hs, h0, h1, add_addr]
/-! ### Loads -/
theorem run_load_cell {ty : TypeId} (hA : Scal P ty) {w : World} {ad : Addr} {v : Value} (hc : w.cell? ad = some v) : (Instr.loadAt ty (.pointer (some ad))).run P w = .ok v w := by
  simp [Instr.loadAt, Instr.sureAddr, loadVar, hA w, hc]
theorem run_load_agg {ty m : TypeId} (hA : AggT P ty) {cs : List Value} (hs : Size P ty m) (hm : cs.length = m) {w : World} {bk off : Nat} (hc : ∀ j v, cs[j]? = some v → w.cell? ⟨bk, off + j, none⟩ = some v) :
    (Instr.loadAt ty (.pointer (some ⟨bk, off, none⟩))).run P w = .ok (.agg cs.toArray) w := by
  subst hm
  have hl := run_loadCells_list (P := P) w ⟨bk, off, none⟩ cs (fun j v hj => by rw [add_addr]; exact hc j v hj)
  simp [Instr.loadAt, Instr.sureAddr, loadVar, hA w, hs w, hl]
/-- A load of one cell, in a region whose order is open: the cell is known of all worlds that meet S. -/
theorem ldq {ty : TypeId} {ad : Addr} {v : Value} (hA : Scal P ty) (hc : ∀ w, S w → w.cell? ad = some v) (ho : ops[i]? = some ⟨some d, .load ty a, t, p, af, g⟩) (hg : go ops σ g) (ha : ev σ a = .pointer (some ad))
    (h : RG P n w0 M ops S L r (upd σ d v) K) : RG P n w0 M ops S L (.op .q i r) σ K :=
  rQ ho hg (fun w hS => by simp [execOp, ha, run_load_cell hA (hc w hS)]) h
theorem ldAq {ty m : TypeId} {bk off : Nat} {cs : List Value} (hA : AggT P ty) (hs : Size P ty m) (hc : ∀ w, S w → ∀ j v, cs[j]? = some v → w.cell? ⟨bk, off + j, none⟩ = some v) (ho : ops[i]? = some ⟨some d, .load ty a, t, p, af, g⟩) (hg : go ops σ g) (ha : ev σ a = .pointer (some ⟨bk, off, none⟩)) (hm : cs.length = m)
    (h : RG P n w0 M ops S L r (upd σ d (.agg cs.toArray)) K) : RG P n w0 M ops S L (.op .q i r) σ K :=
  rQ ho hg (fun w hS => by simp [execOp, ha, run_load_agg hA hs hm (hc w hS)]) h
theorem rL1 {v : Value} (hS : ∀ w, Sep w0 M L' w → S w) {o : Oper} (ho : ops[i]? = some o) (hg : go ops σ o.guard) (hop : ∀ w, Sep w0 M L w → opw P o σ w fun σ' w' => Sep w0 M L' w' ∧ σ' = put σ o.dst v) (h : RG P n w0 M ops S L' r (put σ o.dst v) K) : RG P n w0 M ops S L (.op .l i r) σ K :=
  rL (α := Unit) (good := fun _ => True) (Lx := fun _ => L') (v := fun _ => v) (fun _ => hS) ho hg (fun w hs => opw_mono (fun σ' w' h => ⟨(), trivial, h⟩) (hop w hs)) (fun _ _ => h)
theorem rF1 {v : Value} {o : Oper} (ho : ops[i]? = some o) (hg : go ops σ o.guard) (hop : ∀ w, Sep w0 M L w → opw P o σ w fun σ' w' => Sep w0 M L' w' ∧ σ' = put σ o.dst v) (h : RG P n w0 M ops S L' r (put σ o.dst v) K) : RG P n w0 M ops S L (.op .f i r) σ K :=
  rF (α := Unit) (good := fun _ => True) (Lx := fun _ => L') (v := fun _ => v) ho hg (fun w hs => opw_mono (fun σ' w' h => ⟨(), trivial, h⟩) (hop w hs)) (fun _ _ => h)
theorem ldl {ty : TypeId} {ad : Addr} {v : Value} (hA : Scal P ty) (hc : Kn w0 M L fun w => w.cell? ad = some v) (hS : ∀ w, Sep w0 M L w → S w) (ho : ops[i]? = some ⟨some d, .load ty a, t, p, af, g⟩) (hg : go ops σ g) (ha : ev σ a = .pointer (some ad))
    (h : RG P n w0 M ops S L r (upd σ d v) K) : RG P n w0 M ops S L (.op .l i r) σ K :=
  rL1 hS ho hg (fun w hs => by unfold opw; simp [execOp, ha, run_load_cell hA (hc w hs)]; exact hs) h
theorem nilcL {ad : Addr} (hS : ∀ w, Sep w0 M L w → S w) (ho : ops[i]? = some ⟨some d, .nilCheck a, t, p, af, g⟩) (hg : go ops σ g) (ha : ev σ a = .pointer (some ad))
    (h : RG P n w0 M ops S L r (upd σ d (.pointer (some ad))) K) : RG P n w0 M ops S L (.op .l i r) σ K :=
  rL1 hS ho hg (fun w hs => by unfold opw; simp [execOp, ha]; exact hs) h
theorem ldAl {ty m : TypeId} {bk off : Nat} {cs : List Value} (hA : AggT P ty) (hz : Size P ty m) (hc : Kn w0 M L fun w => ∀ j v, cs[j]? = some v → w.cell? ⟨bk, off + j, none⟩ = some v) (hS : ∀ w, Sep w0 M L w → S w) (ho : ops[i]? = some ⟨some d, .load ty a, t, p, af, g⟩) (hg : go ops σ g) (ha : ev σ a = .pointer (some ⟨bk, off, none⟩)) (hm : cs.length = m)
    (h : RG P n w0 M ops S L r (upd σ d (.agg cs.toArray)) K) : RG P n w0 M ops S L (.op .l i r) σ K :=
  rL1 hS ho hg (fun w hs => by unfold opw; simp [execOp, ha, run_load_agg hA hz hm (hc w hs)]; exact hs) h
/-- A cell of a block known whole. -/
theorem cB (j : Nat) {bk e o : Nat} {cs : List Value} {v : Value} (hj : L[j]? = some (blk bk e cs)) (hc : cs[o]? = some v) : Kn w0 M L fun w => w.cell? ⟨bk, o, none⟩ = some v := fun w hs => (hs.at_ j hj).cell hc
theorem cBs (j : Nat) {bk e : Nat} {cs : List Value} (hj : L[j]? = some (blk bk e cs)) : Kn w0 M L fun w => ∀ k v, cs[k]? = some v → w.cell? ⟨bk, 0 + k, none⟩ = some v := fun w hs k v hk => by rw [Nat.zero_add]; exact (hs.at_ j hj).cell hk
/-! ### New blocks -/
theorem alloc_opw {o : Oper} {e : TypeId} {cs : List Value} {w : World} (hr : (execOp (ev σ) o).run P w = .ok (.value (.pointer (some ⟨w.heap.size, 0, none⟩))) (w.alloc (.cells cs.toArray e))) (hs : Sep w0 M L w) :
    opw P o σ w fun σ' w' => ∃ bk, w0.heap.size ≤ bk ∧ Sep w0 M (blk bk e cs :: L) w' ∧ σ' = put σ o.dst (.pointer (some ⟨bk, 0, none⟩)) := by
  unfold opw; rw [hr]; exact ⟨_, hs.base_le, hs.alloc e cs, rfl⟩
theorem run_newVar {e : TypeId} {v : Value} (w : World) : (newVar e v).run P w = .ok ⟨w.heap.size, 0, none⟩ (w.alloc (.cells v.cells e)) := by
  simp [newVar, newRow]
/-- A value laid in a new variable. -/
theorem box {e : TypeId} {v : Value} {cs : List Value} (hS : ∀ bk w, Sep w0 M (blk bk e cs :: L) w → S w) (ho : ops[i]? = some ⟨some d, .box e a, t, p, af, g⟩) (hg : go ops σ g) (ha : ev σ a = v) (hv : v.cells = cs.toArray)
    (h : ∀ bk, w0.heap.size ≤ bk → RG P n w0 M ops S (blk bk e cs :: L) r (upd σ d (.pointer (some ⟨bk, 0, none⟩))) K) : RG P n w0 M ops S L (.op .l i r) σ K :=
  rL (good := fun bk => w0.heap.size ≤ bk) (Lx := fun bk => blk bk e cs :: L) (v := fun bk => .pointer (some ⟨bk, 0, none⟩)) hS ho hg (fun w hs => alloc_opw (by simp [execOp, ha, Instr.box, run_newVar, hv]) hs) h
/-- A new variable with its zero value. -/
theorem alc {e : TypeId} {z : Value} {cs : List Value} (hz : ∀ w, (zeroValue e).run P w = .ok z w) (hv : z.cells = cs.toArray) (hS : ∀ bk w, Sep w0 M (blk bk e cs :: L) w → S w) (ho : ops[i]? = some ⟨some d, .alloc e, t, p, af, g⟩) (hg : go ops σ g)
    (h : ∀ bk, w0.heap.size ≤ bk → RG P n w0 M ops S (blk bk e cs :: L) r (upd σ d (.pointer (some ⟨bk, 0, none⟩))) K) : RG P n w0 M ops S L (.op .l i r) σ K :=
  rL (good := fun bk => w0.heap.size ≤ bk) (Lx := fun bk => blk bk e cs :: L) (v := fun bk => .pointer (some ⟨bk, 0, none⟩)) hS ho hg (fun w hs => alloc_opw (by simp [execOp, Instr.alloc, hz w, run_newVar, hv]) hs) h
/-! ### Stores into a block known whole -/
theorem run_store_blk {ty : TypeId} {v : Value} {bk e o : Nat} {cs : List Value} {w : World} (hz : Size P ty 1) (hv : v.oneCell' = true) (hb : blk bk e cs w) (hlt : o < cs.length) :
    (Instr.storeAt ty (.pointer (some ⟨bk, o, none⟩)) v).run P w = .ok () (w.setRow bk (cs.set o v).toArray) := by
  have hc : v.cells = #[v] := by cases v <;> first | rfl | cases hv
  have hst := run_storeCells_at P bk o e [v] 0 cs.toArray w hb (by simp; omega) (by simpa using hv)
  have hl : (cs.take o ++ v :: cs.drop (o + 1)) = cs.set o v := by rw [List.set_eq_take_append_cons_drop, if_pos hlt]
  simp [Instr.storeAt, Instr.sureAddr, storeVar, hz w, hc]
  have hst' : (storeCells ⟨bk, o, none⟩ [v] 0).run P w = .ok () (w.setRow bk (cs.take o ++ v :: cs.drop (o + 1)).toArray) := by simpa using hst
  rw [hst', hl]
theorem st_opw {ty : TypeId} {v : Value} {bk e o : Nat} {cs : List Value} {w : World} (j : Nat) (hj : L[j]? = some (blk bk e cs)) (hz : Size P ty 1) (hv : v.oneCell' = true) (hlt : o < cs.length) (hs : Sep w0 M L w) (ha : ev σ a = .pointer (some ⟨bk, o, none⟩)) (hb : ev σ b = v) :
    opw P ⟨none, .store ty a b, t, p, af, g⟩ σ w fun σ' w' => Sep w0 M (L.set j (blk bk e (cs.set o v))) w' ∧ σ' = σ := by
  unfold opw
  simp [execOp, ha, hb, run_store_blk hz hv (hs.at_ j hj) hlt]
  exact ⟨hs.store j hj rfl, rfl⟩
/-- A store of one cell into piece 'j'. -/
theorem stl {ty : TypeId} {v : Value} {bk e o : Nat} {cs : List Value} (j : Nat) (hj : L[j]? = some (blk bk e cs)) (hz : Size P ty 1) (hS : ∀ w, Sep w0 M (L.set j (blk bk e (cs.set o v))) w → S w) (ho : ops[i]? = some ⟨none, .store ty a b, t, p, af, g⟩) (hg : go ops σ g) (ha : ev σ a = .pointer (some ⟨bk, o, none⟩)) (hb : ev σ b = v) (hv : v.oneCell' = true) (hlt : o < cs.length)
    (h : RG P n w0 M ops S (L.set j (blk bk e (cs.set o v))) r σ K) : RG P n w0 M ops S L (.op .l i r) σ K :=
  rL1 (v := undef) hS ho hg (fun _ hs => st_opw j hj hz hv hlt hs ha hb) h
theorem stf {ty : TypeId} {v : Value} {bk e o : Nat} {cs : List Value} (j : Nat) (hj : L[j]? = some (blk bk e cs)) (hz : Size P ty 1) (ho : ops[i]? = some ⟨none, .store ty a b, t, p, af, g⟩) (hg : go ops σ g) (ha : ev σ a = .pointer (some ⟨bk, o, none⟩)) (hb : ev σ b = v) (hv : v.oneCell' = true) (hlt : o < cs.length)
    (h : RG P n w0 M ops S (L.set j (blk bk e (cs.set o v))) r σ K) : RG P n w0 M ops S L (.op .f i r) σ K :=
  rF1 (v := undef) ho hg (fun _ hs => st_opw j hj hz hv hlt hs ha hb) h
theorem run_storeA_blk {ty : TypeId} {vs : List Value} {bk e : Nat} {cs : List Value} {w : World} (hz : Size P ty vs.length) (hv : ∀ v ∈ vs, v.oneCell' = true) (hb : blk bk e cs w) (hlt : cs.length = vs.length) :
    (Instr.storeAt ty (.pointer (some ⟨bk, 0, none⟩)) (.agg vs.toArray)).run P w = .ok () (w.setRow bk vs.toArray) := by
  have hst := run_storeCells_at P bk 0 e vs 0 cs.toArray w hb (by simp; omega) hv
  have hst' : (storeCells ⟨bk, 0, none⟩ vs 0).run P w = .ok () (w.setRow bk vs.toArray) := by simpa [hlt, List.drop_of_length_le (Nat.le_of_eq hlt)] using hst
  simp [Instr.storeAt, Instr.sureAddr, storeVar, hz w, Value.cells, hst']
theorem stA_opw {ty : TypeId} {vs : List Value} {bk e : Nat} {cs : List Value} {w : World} (j : Nat) (hj : L[j]? = some (blk bk e cs)) (hz : Size P ty vs.length) (hv : ∀ v ∈ vs, v.oneCell' = true) (hlt : cs.length = vs.length) (hs : Sep w0 M L w) (ha : ev σ a = .pointer (some ⟨bk, 0, none⟩)) (hb : ev σ b = .agg vs.toArray) :
    opw P ⟨none, .store ty a b, t, p, af, g⟩ σ w fun σ' w' => Sep w0 M (L.set j (blk bk e vs)) w' ∧ σ' = σ := by
  unfold opw
  simp [execOp, ha, hb, run_storeA_blk hz hv (hs.at_ j hj) hlt]
  exact ⟨hs.store j hj rfl, rfl⟩
/-- A store of a whole struct into piece 'j'. -/
theorem stAl {ty m : TypeId} {vs : List Value} {bk e : Nat} {cs : List Value} (j : Nat) (hj : L[j]? = some (blk bk e cs)) (hz : Size P ty m) (hS : ∀ w, Sep w0 M (L.set j (blk bk e vs)) w → S w) (ho : ops[i]? = some ⟨none, .store ty a b, t, p, af, g⟩) (hg : go ops σ g) (ha : ev σ a = .pointer (some ⟨bk, 0, none⟩)) (hb : ev σ b = .agg vs.toArray) (hm : vs.length = m) (hv : ∀ v ∈ vs, v.oneCell' = true) (hlt : cs.length = vs.length)
    (h : RG P n w0 M ops S (L.set j (blk bk e vs)) r σ K) : RG P n w0 M ops S L (.op .l i r) σ K :=
  rL1 (v := undef) hS ho hg (fun _ hs => stA_opw j hj (by rw [hm]; exact hz) hv hlt hs ha hb) h
theorem stAf {ty m : TypeId} {vs : List Value} {bk e : Nat} {cs : List Value} (j : Nat) (hj : L[j]? = some (blk bk e cs)) (hz : Size P ty m) (ho : ops[i]? = some ⟨none, .store ty a b, t, p, af, g⟩) (hg : go ops σ g) (ha : ev σ a = .pointer (some ⟨bk, 0, none⟩)) (hb : ev σ b = .agg vs.toArray) (hm : vs.length = m) (hv : ∀ v ∈ vs, v.oneCell' = true) (hlt : cs.length = vs.length)
    (h : RG P n w0 M ops S (L.set j (blk bk e vs)) r σ K) : RG P n w0 M ops S L (.op .f i r) σ K :=
  rF1 (v := undef) ho hg (fun _ hs => stA_opw j hj (by rw [hm]; exact hz) hv hlt hs ha hb) h
/-! ### Structs by value -/
/-- 'build' of a struct. -/
theorem bld {ty : TypeId} {ps : Array (Nat × Operand)} {l : List (Nat × Value)} {vs : List Value} (ho : ops[i]? = some ⟨some d, .build ty ps, t, p, af, g⟩) (hg : go ops σ g) (hp : ps.toList.map (fun q => (q.1, ev σ q.2)) = l) (hb : ∀ w, (Instr.build ty l.toArray).run P w = .ok (.agg vs.toArray) w)
    (h : RG P n w0 M ops S L r (upd σ d (.agg vs.toArray)) K) : RG P n w0 M ops S L (.op .q i r) σ K :=
  rQ ho hg (fun w _ => by
    have he : (ps.map fun (j, x) => (j, ev σ x)) = l.toArray := by rw [← hp, ← Array.toList_map, Array.toArray_toList]
    simp only [execOp, he, Sem.run_bind, hb w, Result.andThen_ok, Sem.run_pure]) h
/-! ### Calls -/
theorem call_opw {f : FuncId} {args : Array Operand} {tys : Array TypeId} {R : Value → World → Prop} {Q : Fr → World → Prop} {w : World} (hf : ∀ args w, (callFunc f args).run P w = .ok (.enter f args) w)
    (hc : Calls P f (args.toList.map (ev σ)).toArray w (Ret R)) (hq : ∀ v w', R v w' → Q (upd σ d v) w') : opw P ⟨some d, .call ⟨.value (.func f), args, tys⟩, t, p, af, g⟩ σ w Q := by
  have hr : (execOp (ev σ) ⟨some d, .call ⟨.value (.func f), args, tys⟩, t, p, af, g⟩).run P w = .ok (.enter f (args.toList.map (ev σ)).toArray) w := by
    have he : args.map (ev σ) = (args.toList.map (ev σ)).toArray := by rw [← Array.toList_map, Array.toArray_toList]
    simp [execOp, resolve, ev, Deferred.ofValue, invoke, hf, he]
  unfold opw; rw [hr]
  exact Calls.mono hc fun e w' ⟨v, he, hR⟩ => ⟨v, he, hq v w' hR⟩
/-- A call whose value is known, and that only makes memory. -/
theorem callP {f : FuncId} {args : Array Operand} {tys : Array TypeId} {v : Value} (hf : ∀ args w, (callFunc f args).run P w = .ok (.enter f args) w) (hS : ∀ w, Sep w0 M L w → S w) (ho : ops[i]? = some ⟨some d, .call ⟨.value (.func f), args, tys⟩, t, p, af, g⟩) (hg : go ops σ g)
    (hc : ∀ w, Sep w0 M L w → Calls P f (args.toList.map (ev σ)).toArray w (Ret fun v' w' => v' = v ∧ Ext w w')) (h : RG P n w0 M ops S L r (upd σ d v) K) : RG P n w0 M ops S L (.op .l i r) σ K :=
  rL1 hS ho hg (fun w hs => call_opw hf (hc w hs) fun v' w' ⟨he, hx⟩ => by subst he; exact ⟨hs.ext hx, rfl⟩) h
/-- A call that hands back new memory. -/
theorem callN {α : Type} {f : FuncId} {args : Array Operand} {tys : Array TypeId} {val : α → Value} {good : α → Prop} {φ : α → World → Prop} (hf : ∀ args w, (callFunc f args).run P w = .ok (.enter f args) w) (hS : ∀ x w, Sep w0 M (φ x :: L) w → S w) (ho : ops[i]? = some ⟨some d, .call ⟨.value (.func f), args, tys⟩, t, p, af, g⟩) (hg : go ops σ g)
    (hc : ∀ w, Sep w0 M L w → Calls P f (args.toList.map (ev σ)).toArray w (Ret fun v' w' => ∃ x, v' = val x ∧ good x ∧ Ext w w' ∧ St (New w w') (φ x) w')) (h : ∀ x, good x → RG P n w0 M ops S (φ x :: L) r (upd σ d (val x)) K) : RG P n w0 M ops S L (.op .l i r) σ K :=
  rL (Lx := fun x => φ x :: L) (v := val) hS ho hg (fun w hs => call_opw hf (hc w hs) fun v' w' ⟨x, he, hx, he', hst⟩ => by subst he; exact ⟨x, hx, hs.push he' hst, rfl⟩) h
/-- A call whose value is one of some, and that only makes memory. -/
theorem callV {α : Type} {f : FuncId} {args : Array Operand} {tys : Array TypeId} {val : α → Value} {good : α → Prop} (hf : ∀ args w, (callFunc f args).run P w = .ok (.enter f args) w) (hS : ∀ w, Sep w0 M L w → S w) (ho : ops[i]? = some ⟨some d, .call ⟨.value (.func f), args, tys⟩, t, p, af, g⟩) (hg : go ops σ g)
    (hc : ∀ w, Sep w0 M L w → Calls P f (args.toList.map (ev σ)).toArray w (Ret fun v' w' => ∃ x, v' = val x ∧ good x ∧ Ext w w')) (h : ∀ x, good x → RG P n w0 M ops S L r (upd σ d (val x)) K) : RG P n w0 M ops S L (.op .l i r) σ K :=
  rL (Lx := fun _ => L) (v := val) (fun _ => hS) ho hg (fun w hs => call_opw hf (hc w hs) fun v' w' ⟨x, he, hx, he'⟩ => by subst he; exact ⟨x, hx, hs.ext he', rfl⟩) h
end
theorem Value.cells_int (k : IntKind) (z : Int) : (Value.int k z).cells = #[.int k z] := rfl
theorem aggCells (cs : Array Value) : (Value.agg cs).cells = cs := rfl
theorem bT {p : Prop} [Decidable p] (h : p) : (.bool true : Value) = .bool (decide p) := by rw [decide_eq_true h]
theorem bF {p : Prop} [Decidable p] (h : ¬ p) : (.bool false : Value) = .bool (decide p) := by rw [decide_eq_false h]
theorem bD {p q : Prop} [Decidable p] [Decidable q] (h : p ↔ q) : (.bool (decide p) : Value) = .bool (decide q) := by rw [decide_eq_decide.2 h]
theorem bB {b c : Bool} (h : b = c) : (.bool b : Value) = .bool c := by rw [h]
theorem vI {k : IntKind} {a b : Int} (h : a = b) : (.int k a : Value) = .int k b := by rw [h]
theorem trv {w0 : World} {M : Nat → Prop} {L : List (World → Prop)} : ∀ w, Sep w0 M L w → Tr w := fun _ _ => trivial
theorem trv1 {α : Type} {w0 : World} {M : Nat → Prop} {L : α → List (World → Prop)} : ∀ x w, Sep w0 M (L x) w → Tr w := fun _ _ _ => trivial
/-! ### A function -/
/-- What a function's result variables hold at its end. -/
def resL (P : Program) (σ : Fr) (w : World) : List ResultVar → List Value → Prop
  | [], [] => True
  | .tmp t :: rs, v :: vs => σ t = v ∧ resL P σ w rs vs
  | .cell a ty :: rs, v :: vs => (∃ ad, σ a = .pointer (some ad) ∧ (Instr.loadAt ty (.pointer (some ad))).run P w = .ok v w) ∧ resL P σ w rs vs
  | _, _ => False
def one (vs : List Value) : Value := match vs with
  | [v] => v
  | vs => .tuple vs.toArray
def rv (tmps : Array Value) : ResultVar → Sem Value
  | .tmp t => pure (tmps.getD t undef)
  | .cell x t => do loadVar t (← asAddr (tmps.getD x undef))
theorem run_results {P : Program} {fn : Func} {n : Nat} {a : Act} {σ : Fr} {w : World} {vs : List Value} (ha : Ag n a σ) (h : resL P σ w fn.results.toList vs) : (results fn a.tmps).run P w = .ok (one vs) w := by
  have key : ∀ (rs : List ResultVar) (vs : List Value), resL P σ w rs vs → (rs.mapM (rv a.tmps)).run P w = .ok vs w := by
    intro rs
    induction rs with
    | nil => intro vs h; cases vs with | nil => simp | cons _ _ => exact h.elim
    | cons x rs ih =>
      intro vs h
      cases vs with
      | nil => cases x <;> exact h.elim
      | cons v vs =>
        cases x with
        | tmp t =>
          obtain ⟨h1, h2⟩ := h
          have := ih vs h2
          simp only [List.mapM_cons, rv, Sem.run_bind, Sem.run_pure, Result.andThen_ok, this, ha.at_ t, h1]
        | cell x ty =>
          obtain ⟨⟨ad, h1, h3⟩, h2⟩ := h
          have := ih vs h2
          simp only [Instr.loadAt, Instr.sureAddr, Sem.run_bind, Sem.run_pure, Result.andThen_ok] at h3
          simp only [List.mapM_cons, rv, Sem.run_bind, Sem.run_pure, Result.andThen_ok, this, ha.at_ x, h1, asAddr, h3]
  have hres : results fn a.tmps = (do
      let vs ← fn.results.mapM (rv a.tmps)
      pure (if h : vs.size = 1 then vs[0] else .tuple vs)) := by
    unfold results
    congr 1
  rw [hres, Array.mapM_eq_mapM_toList]
  have h1 := key _ vs h
  simp only [Sem.run_bind, Sem.run_map, h1, Result.andThen_ok, Sem.run_pure]
  congr 1
  unfold one
  cases vs with
  | nil => simp
  | cons v vs => cases vs with
    | nil => simp
    | cons _ _ => simp
def args0 : Nat → List Value → List (Nat × Value)
  | _, [] => []
  | k, v :: r => (k, v) :: args0 (k + 1) r
def fr0 (vs : List Value) : Fr := ups (fun _ => undef) (args0 0 vs)
theorem ups_args0 (vs : List Value) (k t : Nat) : ups (fun _ => undef) (args0 k vs) t = if t < k then undef else (vs[t - k]?).getD undef := by
  induction vs generalizing k with
  | nil => simp [args0, ups]
  | cons v r ih =>
    simp only [args0, ups, upd]
    cases hb : Nat.beq t k with
    | true =>
      have : t = k := Nat.eq_of_beq_eq_true hb
      subst this; simp
    | false =>
      have hne : t ≠ k := fun h => by rw [h, Nat.beq_refl] at hb; cases hb
      simp only [cond_false, ih (k + 1)]
      by_cases h : t < k
      · rw [if_pos (by omega), if_pos h]
      · rw [if_neg (by omega), if_neg h]
        have : t - k = (t - (k + 1)) + 1 := by omega
        rw [this]; simp
/-- THE ENTRY: a function's contract out of its body. -/
theorem fn {P : Program} {f : FuncId} {fn : Func} {n : Nat} {c : Code} {vs : List Value} {w : World} {M : Nat → Prop} {L : List (World → Prop)} {R : Value → World → Prop} {rs : List ResultVar} (hf : P.funcs[f]? = some fn) (hb : fn.body = some c) (hn : fn.ntmps = n) (hr : fn.results = rs.toArray) (hl : Nat.ble vs.length n = true)
    (hL : Sep w M L w) (h : HT P n w M L (fr0 vs) c (.ret fun σ w' => ∃ us, resL P σ w' rs us ∧ R (one us) w')) : Calls P f vs.toArray w (Ret R) := by
  have hl := Nat.le_of_ble_eq_true hl
  refine calls_of_wp hf hb ?_
  have ha : Ag n { tmps := vs.toArray ++ Array.replicate (fn.ntmps - vs.toArray.size) undef, defers := [] } (fr0 vs) := by
    refine ⟨by simp [hn]; omega, rfl, fun t => ?_⟩
    rw [fr0, ups_args0, if_neg (Nat.not_lt_zero t), Nat.sub_zero]
    simp only [Array.getD_eq_getD_getElem?, Array.getElem?_append, List.size_toArray]
    by_cases ht : t < vs.length
    · simp [ht]
    · simp only [if_neg ht, Array.getElem?_replicate]
      rw [List.getElem?_eq_none (by omega)]
      split <;> rfl
  refine Code.wp_mono ?_ (h w hL _ ha)
  intro e a' w' hq
  cases e <;> simp only [WQ, den, bodyPost] at hq ⊢ <;> (try exact hq) <;> (try (obtain ⟨_, _, hq⟩ := hq; exact hq.elim))
  all_goals
    obtain ⟨σ, ha', us, hres, hR⟩ := hq
    exact ⟨ha'.df, one us, run_results ha' (by rw [hr]; simpa using hres), one us, rfl, hR⟩
end Go.Proofs.Ytjengglpbdgmnaa.V
