/- Contracts of trees. Their conditions stand in each. -/
import Derived.Test.YtjengglpbdgmnaaDoorZ3Mx
import Derived.Test.YtjengglpbdgmnaaDoorZ1Mx
import Derived.Test.YtjengglpbdgmnaaDoorZ2Mx
import Derived.Test.YtjengglpbdgmnaaDoorRows
namespace Go.Proofs.YtjengglpbdgmnaaDoor
open Go Go.RowKit V
set_option linter.unusedVariables false
set_option linter.unusedSimpArgs false
set_option maxRecDepth 100000
theorem fl26_0 : Fld Tryd.prog 26 0 0 := by
 intro w ad; simp [Instr.fieldAt, Tryd.runUnderlying26, Instr.sureAddr, fieldPlace, Tryd.sizeOf24]
theorem fl52_0 : Fld Tryd.prog 52 0 0 := by
 intro w ad; simp [Instr.fieldAt, Tryd.runUnderlying52, Instr.sureAddr, fieldPlace, Tryd.sizeOf2]
theorem fl52_1 : Fld Tryd.prog 52 1 1 := by
 intro w ad; simp [Instr.fieldAt, Tryd.runUnderlying52, Instr.sureAddr, fieldPlace, Tryd.sizeOf2]
theorem fl52_2 : Fld Tryd.prog 52 2 2 := by
 intro w ad; simp [Instr.fieldAt, Tryd.runUnderlying52, Instr.sureAddr, fieldPlace, Tryd.sizeOf2]
theorem fl52_3 : Fld Tryd.prog 52 3 3 := by
 intro w ad; simp [Instr.fieldAt, Tryd.runUnderlying52, Instr.sureAddr, fieldPlace, Tryd.sizeOf2]
theorem fl52_4 : Fld Tryd.prog 52 4 4 := by
 intro w ad; simp [Instr.fieldAt, Tryd.runUnderlying52, Instr.sureAddr, fieldPlace, Tryd.sizeOf50]
theorem mk50 : Mk Tryd.prog 50 2 1 8 [.int .i64 0] := ⟨Tryd.underlying50, Tryd.t2, _, by kernel_rfl, rfl, rfl, rfl, rfl, rfl, by decide, by decide⟩
theorem mk85 : Mk Tryd.prog 85 3 1 8 [.int .i64 0] := ⟨Tryd.underlying85, Tryd.t3, _, by kernel_rfl, rfl, rfl, rfl, rfl, rfl, by decide, by decide⟩
theorem bsl50_0   : ∀ w, (Instr.buildSlice 50 0 ([] : List (Nat × Value)).toArray).run Tryd.prog w = .ok (.slice (some ⟨w.heap.size, 0, none⟩) 0 0) (w.alloc (.cells ([] : List Value).toArray 2)) := by
 intro w; simp [Instr.buildSlice, Instr.fill, Tryd.zeroValue2, Tryd.runUnderlying50, Tryd.sizeOf2, Value.cells_int, newRow, show Array.range 0 = #[] from by decide]
theorem bsl50_1 (v0 : Value) (h0 : v0.cells = #[v0]) : ∀ w, (Instr.buildSlice 50 1 ([(0, v0)] : List (Nat × Value)).toArray).run Tryd.prog w = .ok (.slice (some ⟨w.heap.size, 0, none⟩) 1 1) (w.alloc (.cells ([v0] : List Value).toArray 2)) := by
 intro w; simp [Instr.buildSlice, Instr.fill, Tryd.zeroValue2, Tryd.runUnderlying50, Tryd.sizeOf2, Value.cells_int, newRow, show Array.range 1 = #[0] from by decide, h0]
theorem el24 : Elt Tryd.prog 24 5 := ⟨52, Tryd.runUnderlying24, Tryd.sizeOf52⟩
theorem el85 : Elt Tryd.prog 85 1 := ⟨3, Tryd.runUnderlying85, Tryd.sizeOf3⟩
theorem impl_depthFrom_c_r (kk_ : Nat) : ∀ (az : Option Addr) (nz : Nat) (cz : Nat) (Hz : Nat → Hd) (z : List Nd) (k : Int) (w : World), nz - k.toNat = kk_ → RdR ndK az nz Hz z w → (Math.allOk z = true) → (0 ≤ k ∧ k < (nz : Int)) → (nz ≤ 60) → Calls Tryd.prog 54 #[.agg #[.slice az nz cz], .int .i64 k] w (Ret fun v w' => v = .int .i64 (Math.depth z k.toNat) ∧ Ext w w') := by
 induction kk_ using Nat.strongRecOn with
 | _ kk_ ih =>
  intro az nz cz Hz z k w hK rz hok hk hn
  have kz : Kn w none_ [] (RdR ndK az nz Hz z) := fun w' hs => rz.ext hs.upd
  have lz : z.length = nz := rz.1
  have mz : nz ≤ 9223372036854775807 := rz.2.1
  refine fn (M := none_) (rs := [.tmp 4]) Tryd.func54 rfl Tryd.ntmps54 rfl rfl (Sep.start _ _) ?_
  refine hSeq ?_
  refine hReg (sl 0 (sq 1 sz)) (by kernel_rfl) ?_
  refine box trv1 rfl rfl rfl rfl (fun bkb1 hbkb1 => ?_)
  refine asI rfl rfl rfl ?_
  refine rNil ?_
  refine qSeq rfl ?_
  refine hSeq ?_
  refine hReg (sq 0 (sl 1 (sq 2 (sq 3 (sl 4 (sl 5 (sl 6 sz))))))) (by kernel_rfl) ?_
  refine fld fl26_0 rfl rfl rfl ?_
  refine ldl Tryd.isAgg24 (cB 0 rfl rfl) trv rfl rfl rfl ?_
  refine mvI rfl rfl rfl ?_
  refine ixRl (zn := (k).toNat) (z.getD ((k).toNat) dN) el24 (Kn.drop (k := 1) kz) rfl rfl rfl rfl (by omega) (by omega) rfl (nth dN (by omega)) ?_
  intro be1 oe1 e1
  refine ldAl Tryd.isAgg52 Tryd.sizeOf52 (e1) trv rfl rfl rfl rfl ?_
  refine alc Tryd.zeroValue52 rfl trv1 rfl rfl (fun bka2 hbka2 => ?_)
  refine stAl (vs := [.int .i64 ((z.getD ((k).toNat) dN).pl), .int .i64 ((z.getD ((k).toNat) dN).p0), .int .i64 ((z.getD ((k).toNat) dN).p1), .int .i64 ((z.getD ((k).toNat) dN).fo), .slice ((Hz ((k).toNat)).1) (((z.getD ((k).toNat) dN).ch).length) ((Hz ((k).toNat)).2)]) 0 rfl Tryd.sizeOf52 trv rfl rfl rfl rfl rfl (by simp [Value.oneCell']) rfl ?_
  refine rNil ?_
  refine qSeq rfl ?_
  refine hSeq ?_
  refine hSeq ?_
  refine hReg (sq 0 (sl 1 (sq 2 sz))) (by kernel_rfl) ?_
  refine fld fl52_0 rfl rfl rfl ?_
  refine ldl Tryd.isAgg2 (cB 0 rfl rfl) trv rfl rfl rfl ?_
  refine eql rfl rfl rfl rfl ?_
  refine rNil ?_
  refine qSeq rfl ?_
  refine hIfD rfl (fun c1 => ?_) (fun c1 => ?_)
  ·
   replace c1 : (z.getD ((k).toNat) dN).pl = 2 := c1
   refine hSeq ?_
   refine hReg (sq 0 sz) (by kernel_rfl) ?_
   refine asI rfl rfl rfl ?_
   refine rNil ?_
   refine qSeq rfl ?_
   refine hRet ?_
   exact fun w hs => ⟨[.int .i64 0], ⟨rfl, trivial⟩, ⟨vI (Math.depth_end (by omega) c1).symm, hs.upd⟩⟩
  ·
   replace c1 : ¬ ((z.getD ((k).toNat) dN).pl = 2) := c1
   refine hSkip ?_
   refine qSeq rfl ?_
   refine hSeq ?_
   refine hReg (sq 0 sz) (by kernel_rfl) ?_
   refine asI rfl rfl rfl ?_
   refine rNil ?_
   refine qSeq rfl ?_
   refine hSeq ?_
   refine hSeq ?_
   refine hReg (sq 0 (sl 1 (sq 2 (sq 3 sz)))) (by kernel_rfl) ?_
   refine fld fl52_4 rfl rfl rfl ?_
   refine ldl Tryd.isAgg50 (cB 0 rfl rfl) trv rfl rfl rfl ?_
   refine lenS Tryd.runUnderlying50 rfl rfl rfl ?_
   refine mvI rfl rfl rfl ?_
   refine rNil ?_
   refine qSeq rfl ?_
   refine hBlk ?_
   refine hLoop (α := Nat × Int) (fun x => x.1 ≤ (z.getD k.toNat dN).ch.length ∧ (0 ≤ x.2 ∧ x.2 ≤ nz) ∧ x.2 = Math.dmax z ((z.getD k.toNat dN).ch.take x.1)) (fun x => (z.getD k.toNat dN).ch.length - x.1) (fun x => [blk bka2 52 [.int .i64 ((z.getD ((k).toNat) dN).pl), .int .i64 ((z.getD ((k).toNat) dN).p0), .int .i64 ((z.getD ((k).toNat) dN).p1), .int .i64 ((z.getD ((k).toNat) dN).fo), .slice ((Hz ((k).toNat)).1) (((z.getD ((k).toNat) dN).ch).length) ((Hz ((k).toNat)).2)], blk bkb1 26 [.slice az nz cz]]) (fun x => [(2, .pointer (some ⟨bkb1, 0, none⟩)), (6, .int .i64 x.2), (18, .slice ((Hz ((k).toNat)).1) (((z.getD ((k).toNat) dN).ch).length) ((Hz ((k).toNat)).2)), (19, .int .i64 (((((z.getD ((k).toNat) dN).ch).length : Nat) : Int))), (20, .int .i64 (x.1 : Int))]) (0, 0) ⟨Nat.zero_le _, by omega, rfl⟩ (fun _ h => h.pick [0, 0]) ⟨rfl, rfl, rfl, rfl, rfl, trivial⟩ ?_
   rintro ⟨i, m⟩ τ1 ⟨hi, hm, hmq⟩
   dsimp only at hi hm hmq
   refine hRe [(2, .pointer (some ⟨bkb1, 0, none⟩)), (6, .int .i64 m), (18, .slice ((Hz ((k).toNat)).1) (((z.getD ((k).toNat) dN).ch).length) ((Hz ((k).toNat)).2)), (19, .int .i64 (((((z.getD ((k).toNat) dN).ch).length : Nat) : Int))), (20, .int .i64 (i : Int))] [blk bka2 52 [.int .i64 ((z.getD ((k).toNat) dN).pl), .int .i64 ((z.getD ((k).toNat) dN).p0), .int .i64 ((z.getD ((k).toNat) dN).p1), .int .i64 ((z.getD ((k).toNat) dN).fo), .slice ((Hz ((k).toNat)).1) (((z.getD ((k).toNat) dN).ch).length) ((Hz ((k).toNat)).2)], blk bkb1 26 [.slice az nz cz]] rfl rfl ?_
   refine hSeq ?_
   refine hReg (sq 0 sz) (by kernel_rfl) ?_
   refine lss rfl rfl rfl rfl ?_
   refine rNil ?_
   refine qSeq rfl ?_
   refine hSeq ?_
   refine hIfD rfl (fun c2 => ?_) (fun c2 => ?_)
   ·
    replace c2 : (i : Int) < ((((z.getD ((k).toNat) dN).ch).length : Nat) : Int) := c2
    have hcl := Math.ok_pl ((Math.allOk_iff' lz).1 hok k.toNat (by omega))
    have hkid := Math.ok_kid ((Math.allOk_iff' lz).1 hok k.toNat (by omega)) (Math.getD_mem 0 (show i < (z.getD k.toNat dN).ch.length by omega))
    have hdb := Math.depth_bd' lz hok (show ((z.getD k.toNat dN).ch.getD i 0).toNat < nz by omega)
    refine hSkip ?_
    refine qSeq rfl ?_
    refine hSeq ?_
    refine hBlk ?_
    refine hSeq ?_
    refine hReg (sq 0 (sl 1 (sq 2 sz))) (by kernel_rfl) ?_
    refine ixIl (zn := i) el50 (Kn.drop (k := 2) ((Kn.imp kz fun _ h => h.kidN (nth dN (by omega))))) rfl rfl rfl rfl (by omega) (by omega) rfl ?_
    intro ae2 e2
    refine ldl Tryd.isAgg2 (e2) trv rfl rfl rfl ?_
    refine asI rfl rfl rfl ?_
    refine rNil ?_
    refine qSeq rfl ?_
    refine hReg (sq 0 (sl 1 (sq 2 (sl 3 (sq 4 (sq 5 sz)))))) (by kernel_rfl) ?_
    refine mvI rfl rfl rfl ?_
    refine ldAl Tryd.isAgg26 Tryd.sizeOf26 (cBs 1 rfl) trv rfl rfl rfl rfl ?_
    refine mvI rfl rfl rfl ?_
    refine callP (v := .int .i64 ((Math.depth z ((((z.getD ((k).toNat) dN).ch).getD i 0)).toNat))) Tryd.call54 trv rfl rfl (fun w hs => ih _ (by omega) _ _ _ _ _ _ w rfl (Kn.drop (k := 2) kz w hs) (by assumption) (by omega) (by omega)) ?_
    refine max2 rfl rfl rfl rfl ?_
    refine asI rfl rfl rfl ?_
    refine rNil ?_
    refine qSeq rfl ?_
    refine hReg (sq 0 (sq 1 sz)) (by kernel_rfl) ?_
    refine add rfl rfl rfl rfl (by omega) ?_
    refine mvI rfl rfl rfl ?_
    refine rNil ?_
    exact qNext rfl ((i + 1, max m (Math.depth z ((z.getD k.toNat dN).ch.getD i 0).toNat))) (by dsimp only; omega) ⟨by dsimp only; omega, by dsimp only; omega, by dsimp only; rw [Math.take_step 0 (by omega), Math.dmax_snoc, ← hmq]⟩ ⟨rfl, rfl, rfl, rfl, rfl, trivial⟩ (fun _ h => h.pick [0, 0])
   ·
    replace c2 : ¬ ((i : Int) < ((((z.getD ((k).toNat) dN).ch).length : Nat) : Int)) := c2
    refine hExit rfl ?_
    refine qSeq rfl ?_
    refine hSeq ?_
    refine hReg (sq 0 (sq 1 (sq 2 sz))) (by kernel_rfl) ?_
    refine mvI rfl rfl rfl ?_
    refine add rfl rfl rfl rfl (by omega) ?_
    refine asI rfl rfl rfl ?_
    refine rNil ?_
    refine qSeq rfl ?_
    refine hRet ?_
    exact fun w hs => ⟨[.int .i64 (m + 1)], ⟨rfl, trivial⟩, ⟨vI (by rw [Math.depth_step hok (by omega) c1, hmq, List.take_of_length_le (by omega)]), hs.upd⟩⟩
theorem impl_depthFrom_c (az : Option Addr) (nz : Nat) (cz : Nat) (Hz : Nat → Hd) (z : List Nd) (k : Int) (w : World) (rz : RdR ndK az nz Hz z w) (hok : Math.allOk z = true) (hk : 0 ≤ k ∧ k < (nz : Int)) (hn : nz ≤ 60) :
  Calls Tryd.prog 54 #[.agg #[.slice az nz cz], .int .i64 k] w (Ret fun v w' => v = .int .i64 (Math.depth z k.toNat) ∧ Ext w w') := impl_depthFrom_c_r _ az nz cz Hz z k w rfl rz hok hk hn
theorem spec_l20Depth_c_r (kk_ : Nat) : ∀ (az : Option Addr) (nz : Nat) (cz : Nat) (Hz : Nat → Hd) (z : List Nd) (k : Int) (w : World), nz - k.toNat = kk_ → RdR ndK az nz Hz z w → (Math.allOk z = true) → (0 ≤ k ∧ k < (nz : Int)) → (nz ≤ 60) → Calls Tryd.prog 72 #[.agg #[.slice az nz cz], .int .i64 k] w (Ret fun v w' => v = .int .i64 (Math.depth z k.toNat) ∧ Ext w w') := by
 induction kk_ using Nat.strongRecOn with
 | _ kk_ ih =>
  intro az nz cz Hz z k w hK rz hok hk hn
  have kz : Kn w none_ [] (RdR ndK az nz Hz z) := fun w' hs => rz.ext hs.upd
  have lz : z.length = nz := rz.1
  have mz : nz ≤ 9223372036854775807 := rz.2.1
  refine fn (M := none_) (rs := [.tmp 4]) Tryd.func72 rfl Tryd.ntmps72 rfl rfl (Sep.start _ _) ?_
  refine hSeq ?_
  refine hReg (sl 0 (sq 1 sz)) (by kernel_rfl) ?_
  refine box trv1 rfl rfl rfl rfl (fun bkb1 hbkb1 => ?_)
  refine asI rfl rfl rfl ?_
  refine rNil ?_
  refine qSeq rfl ?_
  refine hSeq ?_
  refine hReg (sq 0 (sl 1 (sq 2 (sq 3 (sl 4 (sl 5 (sl 6 sz))))))) (by kernel_rfl) ?_
  refine fld fl26_0 rfl rfl rfl ?_
  refine ldl Tryd.isAgg24 (cB 0 rfl rfl) trv rfl rfl rfl ?_
  refine mvI rfl rfl rfl ?_
  refine ixRl (zn := (k).toNat) (z.getD ((k).toNat) dN) el24 (Kn.drop (k := 1) kz) rfl rfl rfl rfl (by omega) (by omega) rfl (nth dN (by omega)) ?_
  intro be1 oe1 e1
  refine ldAl Tryd.isAgg52 Tryd.sizeOf52 (e1) trv rfl rfl rfl rfl ?_
  refine alc Tryd.zeroValue52 rfl trv1 rfl rfl (fun bka2 hbka2 => ?_)
  refine stAl (vs := [.int .i64 ((z.getD ((k).toNat) dN).pl), .int .i64 ((z.getD ((k).toNat) dN).p0), .int .i64 ((z.getD ((k).toNat) dN).p1), .int .i64 ((z.getD ((k).toNat) dN).fo), .slice ((Hz ((k).toNat)).1) (((z.getD ((k).toNat) dN).ch).length) ((Hz ((k).toNat)).2)]) 0 rfl Tryd.sizeOf52 trv rfl rfl rfl rfl rfl (by simp [Value.oneCell']) rfl ?_
  refine rNil ?_
  refine qSeq rfl ?_
  refine hSeq ?_
  refine hSeq ?_
  refine hReg (sq 0 (sl 1 (sq 2 sz))) (by kernel_rfl) ?_
  refine fld fl52_0 rfl rfl rfl ?_
  refine ldl Tryd.isAgg2 (cB 0 rfl rfl) trv rfl rfl rfl ?_
  refine eql rfl rfl rfl rfl ?_
  refine rNil ?_
  refine qSeq rfl ?_
  refine hIfD rfl (fun c1 => ?_) (fun c1 => ?_)
  ·
   replace c1 : (z.getD ((k).toNat) dN).pl = 2 := c1
   refine hSeq ?_
   refine hReg (sq 0 sz) (by kernel_rfl) ?_
   refine asI rfl rfl rfl ?_
   refine rNil ?_
   refine qSeq rfl ?_
   refine hRet ?_
   exact fun w hs => ⟨[.int .i64 0], ⟨rfl, trivial⟩, ⟨vI (Math.depth_end (by omega) c1).symm, hs.upd⟩⟩
  ·
   replace c1 : ¬ ((z.getD ((k).toNat) dN).pl = 2) := c1
   refine hSkip ?_
   refine qSeq rfl ?_
   refine hSeq ?_
   refine hReg (sq 0 sz) (by kernel_rfl) ?_
   refine asI rfl rfl rfl ?_
   refine rNil ?_
   refine qSeq rfl ?_
   refine hSeq ?_
   refine hSeq ?_
   refine hReg (sq 0 sz) (by kernel_rfl) ?_
   refine asI rfl rfl rfl ?_
   refine rNil ?_
   refine qSeq rfl ?_
   refine hBlk ?_
   refine hLoop (α := Nat × Int) (fun x => x.1 ≤ (z.getD k.toNat dN).ch.length ∧ (0 ≤ x.2 ∧ x.2 ≤ nz) ∧ x.2 = Math.dmax z ((z.getD k.toNat dN).ch.take x.1)) (fun x => (z.getD k.toNat dN).ch.length - x.1) (fun x => [blk bka2 52 [.int .i64 ((z.getD ((k).toNat) dN).pl), .int .i64 ((z.getD ((k).toNat) dN).p0), .int .i64 ((z.getD ((k).toNat) dN).p1), .int .i64 ((z.getD ((k).toNat) dN).fo), .slice ((Hz ((k).toNat)).1) (((z.getD ((k).toNat) dN).ch).length) ((Hz ((k).toNat)).2)], blk bkb1 26 [.slice az nz cz]]) (fun x => [(2, .pointer (some ⟨bkb1, 0, none⟩)), (5, .pointer (some ⟨bka2, 0, none⟩)), (6, .int .i64 x.2), (7, .int .i64 (x.1 : Int))]) (0, 0) ⟨Nat.zero_le _, by omega, rfl⟩ (fun _ h => h.pick [0, 0]) ⟨rfl, rfl, rfl, rfl, trivial⟩ ?_
   rintro ⟨i, m⟩ τ1 ⟨hi, hm, hmq⟩
   dsimp only at hi hm hmq
   refine hRe [(2, .pointer (some ⟨bkb1, 0, none⟩)), (5, .pointer (some ⟨bka2, 0, none⟩)), (6, .int .i64 m), (7, .int .i64 (i : Int))] [blk bka2 52 [.int .i64 ((z.getD ((k).toNat) dN).pl), .int .i64 ((z.getD ((k).toNat) dN).p0), .int .i64 ((z.getD ((k).toNat) dN).p1), .int .i64 ((z.getD ((k).toNat) dN).fo), .slice ((Hz ((k).toNat)).1) (((z.getD ((k).toNat) dN).ch).length) ((Hz ((k).toNat)).2)], blk bkb1 26 [.slice az nz cz]] rfl rfl ?_
   refine hSeq ?_
   refine hSeq ?_
   refine hReg (sq 0 (sq 1 (sl 2 (sq 3 (sq 4 sz))))) (by kernel_rfl) ?_
   refine mvI rfl rfl rfl ?_
   refine fld fl52_4 rfl rfl rfl ?_
   refine ldl Tryd.isAgg50 (cB 0 rfl rfl) trv rfl rfl rfl ?_
   refine lenS Tryd.runUnderlying50 rfl rfl rfl ?_
   refine lss rfl rfl rfl rfl ?_
   refine rNil ?_
   refine qSeq rfl ?_
   refine hIfD rfl (fun c2 => ?_) (fun c2 => ?_)
   ·
    replace c2 : (i : Int) < ((((z.getD ((k).toNat) dN).ch).length : Nat) : Int) := c2
    have hcl := Math.ok_pl ((Math.allOk_iff' lz).1 hok k.toNat (by omega))
    have hkid := Math.ok_kid ((Math.allOk_iff' lz).1 hok k.toNat (by omega)) (Math.getD_mem 0 (show i < (z.getD k.toNat dN).ch.length by omega))
    have hdb := Math.depth_bd' lz hok (show ((z.getD k.toNat dN).ch.getD i 0).toNat < nz by omega)
    refine hSkip ?_
    refine qSeq rfl ?_
    refine hSeq ?_
    refine hBlk ?_
    refine hDraw (Ls := [blk bka2 52 [.int .i64 ((z.getD ((k).toNat) dN).pl), .int .i64 ((z.getD ((k).toNat) dN).p0), .int .i64 ((z.getD ((k).toNat) dN).p1), .int .i64 ((z.getD ((k).toNat) dN).fo), .slice ((Hz ((k).toNat)).1) (((z.getD ((k).toNat) dN).ch).length) ((Hz ((k).toNat)).2)], blk bkb1 26 [.slice az nz cz]]) (by kernel_rfl) (sq 0 (sq 1 (sq 2 (sq 3 (sq 4 (sq 5 (sq 6 (sl 7 (sq 8 (sq 9 sz)))))))))) (by kernel_rfl) (.cons_cons _ (.cons_cons _ .slnil)) ?_
    refine mvI rfl rfl rfl ?_
    refine ldAq Tryd.isAgg26 Tryd.sizeOf26 (cBs 1 rfl) rfl rfl rfl rfl ?_
    refine fld fl52_4 rfl rfl rfl ?_
    refine ldq Tryd.isAgg50 (cB 0 rfl rfl) rfl rfl rfl ?_
    refine mvI rfl rfl rfl ?_
    refine ixIq (zn := i) el50 (Kn.drop (k := 2) ((Kn.imp kz fun _ h => h.kidN (nth dN (by omega))))) (fun _ h => h.pick [0, 0]) rfl rfl rfl rfl (by omega) (by omega) rfl ?_
    intro ae2 e2
    refine ldq Tryd.isAgg2 (e2) rfl rfl rfl ?_
    refine callP (v := .int .i64 ((Math.depth z ((((z.getD ((k).toNat) dN).ch).getD i 0)).toNat))) Tryd.call72 (fun _ h => h.pick [0, 0]) rfl rfl (fun w hs => ih _ (by omega) _ _ _ _ _ _ w rfl (Kn.drop (k := 2) kz w hs) (by assumption) (by omega) (by omega)) ?_
    refine max2 rfl rfl rfl rfl ?_
    refine asI rfl rfl rfl ?_
    refine rNil ?_
    refine qSeq rfl ?_
    refine hReg (sq 0 (sq 1 (sq 2 sz))) (by kernel_rfl) ?_
    refine mvI rfl rfl rfl ?_
    refine add rfl rfl rfl rfl (by omega) ?_
    refine asI rfl rfl rfl ?_
    refine rNil ?_
    exact qNext rfl ((i + 1, max m (Math.depth z ((z.getD k.toNat dN).ch.getD i 0).toNat))) (by dsimp only; omega) ⟨by dsimp only; omega, by dsimp only; omega, by dsimp only; rw [Math.take_step 0 (by omega), Math.dmax_snoc, ← hmq]⟩ ⟨rfl, rfl, rfl, rfl, trivial⟩ (fun _ h => h.pick [0, 0])
   ·
    replace c2 : ¬ ((i : Int) < ((((z.getD ((k).toNat) dN).ch).length : Nat) : Int)) := c2
    refine hExit rfl ?_
    refine qSeq rfl ?_
    refine hSeq ?_
    refine hReg (sq 0 (sq 1 (sq 2 sz))) (by kernel_rfl) ?_
    refine mvI rfl rfl rfl ?_
    refine add rfl rfl rfl rfl (by omega) ?_
    refine asI rfl rfl rfl ?_
    refine rNil ?_
    refine qSeq rfl ?_
    refine hRet ?_
    exact fun w hs => ⟨[.int .i64 (m + 1)], ⟨rfl, trivial⟩, ⟨vI (by rw [Math.depth_step hok (by omega) c1, hmq, List.take_of_length_le (by omega)]), hs.upd⟩⟩
theorem spec_l20Depth_c (az : Option Addr) (nz : Nat) (cz : Nat) (Hz : Nat → Hd) (z : List Nd) (k : Int) (w : World) (rz : RdR ndK az nz Hz z w) (hok : Math.allOk z = true) (hk : 0 ≤ k ∧ k < (nz : Int)) (hn : nz ≤ 60) :
  Calls Tryd.prog 72 #[.agg #[.slice az nz cz], .int .i64 k] w (Ret fun v w' => v = .int .i64 (Math.depth z k.toNat) ∧ Ext w w') := spec_l20Depth_c_r _ az nz cz Hz z k w rfl rz hok hk hn
theorem spec_l20Node_c (az : Option Addr) (nz : Nat) (cz : Nat) (Hz : Nat → Hd) (z : List Nd) (k : Int) (w : World) (rz : RdR ndK az nz Hz z w) (hk : 0 ≤ k ∧ k < (nz : Int)) :
  Calls Tryd.prog 71 #[.agg #[.slice az nz cz], .int .i64 k] w (Ret fun v w' => v = .bool ((Math.okB nz k.toNat (z.getD k.toNat dN))) ∧ Ext w w') := by
 have kz : Kn w none_ [] (RdR ndK az nz Hz z) := fun w' hs => rz.ext hs.upd
 have lz : z.length = nz := rz.1
 have mz : nz ≤ 9223372036854775807 := rz.2.1
 refine fn (M := none_) (rs := [.tmp 4]) Tryd.func71 rfl Tryd.ntmps71 rfl rfl (Sep.start _ _) ?_
 refine hSeq ?_
 refine hReg (sl 0 (sq 1 sz)) (by kernel_rfl) ?_
 refine box trv1 rfl rfl rfl rfl (fun bkb1 hbkb1 => ?_)
 refine asB rfl rfl rfl ?_
 refine rNil ?_
 refine qSeq rfl ?_
 refine hSeq ?_
 refine hReg (sq 0 (sl 1 (sq 2 (sq 3 (sl 4 (sl 5 (sl 6 sz))))))) (by kernel_rfl) ?_
 refine fld fl26_0 rfl rfl rfl ?_
 refine ldl Tryd.isAgg24 (cB 0 rfl rfl) trv rfl rfl rfl ?_
 refine mvI rfl rfl rfl ?_
 refine ixRl (zn := (k).toNat) (z.getD ((k).toNat) dN) el24 (Kn.drop (k := 1) kz) rfl rfl rfl rfl (by omega) (by omega) rfl (nth dN (by omega)) ?_
 intro be1 oe1 e1
 refine ldAl Tryd.isAgg52 Tryd.sizeOf52 (e1) trv rfl rfl rfl rfl ?_
 refine alc Tryd.zeroValue52 rfl trv1 rfl rfl (fun bka2 hbka2 => ?_)
 refine stAl (vs := [.int .i64 ((z.getD ((k).toNat) dN).pl), .int .i64 ((z.getD ((k).toNat) dN).p0), .int .i64 ((z.getD ((k).toNat) dN).p1), .int .i64 ((z.getD ((k).toNat) dN).fo), .slice ((Hz ((k).toNat)).1) (((z.getD ((k).toNat) dN).ch).length) ((Hz ((k).toNat)).2)]) 0 rfl Tryd.sizeOf52 trv rfl rfl rfl rfl rfl (by simp [Value.oneCell']) rfl ?_
 refine rNil ?_
 refine qSeq rfl ?_
 refine hSeq ?_
 refine hSeq ?_
 refine hReg (sq 0 (sl 1 (sl 2 (sq 3 (sq 4 (sq 5 (sl 6 (sl 7 (sq 8 (sq 9 (sq 10 (sq 11 (sl 12 (sl 13 (sq 14 (sq 15 (sq 16 (sq 17 (sl 18 (sl 19 (sq 20 (sq 21 sz)))))))))))))))))))))) (by kernel_rfl) ?_
 refine fld fl52_0 rfl rfl rfl ?_
 refine ldl Tryd.isAgg2 (cB 0 rfl rfl) trv rfl rfl rfl ?_
 refine callP (v := .bool ((Math.inB (0 : Int) (2 : Int) ((z.getD ((k).toNat) dN).pl)))) Tryd.call32 trv rfl rfl (fun w hs => spec_l01In_c _ _ _ w ) ?_
 refine not rfl rfl rfl ?_
 refine mvB rfl rfl rfl ?_
 refine rBoolN (d := 15) rfl (fun g1 => ?_) (fun g1 => ?_)
 ·
  replace g1 : (Math.inB (0 : Int) (2 : Int) ((z.getD ((k).toNat) dN).pl)) = false := g1
  refine rSkipQ rfl rfl ?_
  refine rSkipL trv rfl rfl ?_
  refine rSkipL trv rfl rfl ?_
  refine rSkipQ rfl rfl ?_
  refine pickB rfl rfl rfl rfl ?_
  refine mvB rfl rfl rfl ?_
  refine rSkipQ rfl rfl ?_
  refine rSkipL trv rfl rfl ?_
  refine rSkipL trv rfl rfl ?_
  refine rSkipQ rfl rfl ?_
  refine pickB rfl rfl rfl rfl ?_
  refine mvB rfl rfl rfl ?_
  refine rSkipQ rfl rfl ?_
  refine rSkipL trv rfl rfl ?_
  refine rSkipL trv rfl rfl ?_
  refine rSkipQ rfl rfl ?_
  refine pickB rfl rfl rfl rfl ?_
  refine rNil ?_
  refine qSeq rfl ?_
  refine hIfT rfl ?_
  refine hSeq ?_
  refine hReg (sq 0 sz) (by kernel_rfl) ?_
  refine asB rfl rfl rfl ?_
  refine rNil ?_
  refine qSeq rfl ?_
  refine hRet ?_
  exact fun w hs => ⟨[.bool false], ⟨rfl, trivial⟩, ⟨bB (by first | exact (Math.no1 (by assumption)).symm | exact (Math.no2 (by assumption)).symm | exact (Math.no3 (by assumption)).symm | exact (Math.no5' (by assumption)).symm | exact (Math.no4' (by assumption) (by assumption)).symm | exact (Math.no7 (by assumption) (by assumption)).symm | exact (Math.no8 (by assumption) (by assumption)).symm | exact (Math.no11 (by assumption) (by rw [← lz] at *; assumption)).symm), hs.upd⟩⟩
 ·
  replace g1 : (Math.inB (0 : Int) (2 : Int) ((z.getD ((k).toNat) dN).pl)) = true := g1
  refine fld fl52_1 rfl rfl rfl ?_
  refine ldl Tryd.isAgg2 (cB 0 rfl rfl) trv rfl rfl rfl ?_
  refine callP (v := .bool ((Math.inB (0 : Int) (100 : Int) ((z.getD ((k).toNat) dN).p0)))) Tryd.call32 trv rfl rfl (fun w hs => spec_l01In_c _ _ _ w ) ?_
  refine not rfl rfl rfl ?_
  refine pickB rfl rfl rfl rfl ?_
  refine mvB rfl rfl rfl ?_
  refine rBoolN (d := 21) rfl (fun g2 => ?_) (fun g2 => ?_)
  ·
   replace g2 : (Math.inB (0 : Int) (100 : Int) ((z.getD ((k).toNat) dN).p0)) = false := g2
   refine rSkipQ rfl rfl ?_
   refine rSkipL trv rfl rfl ?_
   refine rSkipL trv rfl rfl ?_
   refine rSkipQ rfl rfl ?_
   refine pickB rfl rfl rfl rfl ?_
   refine mvB rfl rfl rfl ?_
   refine rSkipQ rfl rfl ?_
   refine rSkipL trv rfl rfl ?_
   refine rSkipL trv rfl rfl ?_
   refine rSkipQ rfl rfl ?_
   refine pickB rfl rfl rfl rfl ?_
   refine rNil ?_
   refine qSeq rfl ?_
   refine hIfT rfl ?_
   refine hSeq ?_
   refine hReg (sq 0 sz) (by kernel_rfl) ?_
   refine asB rfl rfl rfl ?_
   refine rNil ?_
   refine qSeq rfl ?_
   refine hRet ?_
   exact fun w hs => ⟨[.bool false], ⟨rfl, trivial⟩, ⟨bB (by first | exact (Math.no1 (by assumption)).symm | exact (Math.no2 (by assumption)).symm | exact (Math.no3 (by assumption)).symm | exact (Math.no5' (by assumption)).symm | exact (Math.no4' (by assumption) (by assumption)).symm | exact (Math.no7 (by assumption) (by assumption)).symm | exact (Math.no8 (by assumption) (by assumption)).symm | exact (Math.no11 (by assumption) (by rw [← lz] at *; assumption)).symm), hs.upd⟩⟩
  ·
   replace g2 : (Math.inB (0 : Int) (100 : Int) ((z.getD ((k).toNat) dN).p0)) = true := g2
   refine fld fl52_2 rfl rfl rfl ?_
   refine ldl Tryd.isAgg2 (cB 0 rfl rfl) trv rfl rfl rfl ?_
   refine callP (v := .bool ((Math.inB (0 : Int) (100 : Int) ((z.getD ((k).toNat) dN).p1)))) Tryd.call32 trv rfl rfl (fun w hs => spec_l01In_c _ _ _ w ) ?_
   refine not rfl rfl rfl ?_
   refine pickB rfl rfl rfl rfl ?_
   refine mvB rfl rfl rfl ?_
   refine rBoolN (d := 27) rfl (fun g3 => ?_) (fun g3 => ?_)
   ·
    replace g3 : (Math.inB (0 : Int) (100 : Int) ((z.getD ((k).toNat) dN).p1)) = false := g3
    refine rSkipQ rfl rfl ?_
    refine rSkipL trv rfl rfl ?_
    refine rSkipL trv rfl rfl ?_
    refine rSkipQ rfl rfl ?_
    refine pickB rfl rfl rfl rfl ?_
    refine rNil ?_
    refine qSeq rfl ?_
    refine hIfT rfl ?_
    refine hSeq ?_
    refine hReg (sq 0 sz) (by kernel_rfl) ?_
    refine asB rfl rfl rfl ?_
    refine rNil ?_
    refine qSeq rfl ?_
    refine hRet ?_
    exact fun w hs => ⟨[.bool false], ⟨rfl, trivial⟩, ⟨bB (by first | exact (Math.no1 (by assumption)).symm | exact (Math.no2 (by assumption)).symm | exact (Math.no3 (by assumption)).symm | exact (Math.no5' (by assumption)).symm | exact (Math.no4' (by assumption) (by assumption)).symm | exact (Math.no7 (by assumption) (by assumption)).symm | exact (Math.no8 (by assumption) (by assumption)).symm | exact (Math.no11 (by assumption) (by rw [← lz] at *; assumption)).symm), hs.upd⟩⟩
   ·
    replace g3 : (Math.inB (0 : Int) (100 : Int) ((z.getD ((k).toNat) dN).p1)) = true := g3
    refine fld fl52_3 rfl rfl rfl ?_
    refine ldl Tryd.isAgg2 (cB 0 rfl rfl) trv rfl rfl rfl ?_
    refine callP (v := .bool ((Math.inB (-1) (1 : Int) ((z.getD ((k).toNat) dN).fo)))) Tryd.call32 trv rfl rfl (fun w hs => spec_l01In_c _ _ _ w ) ?_
    refine not rfl rfl rfl ?_
    refine pickB rfl rfl rfl rfl ?_
    refine rNil ?_
    refine qSeq rfl ?_
    refine hIfN rfl (fun c4 => ?_) (fun c4 => ?_)
    ·
     replace c4 : (Math.inB (-1) (1 : Int) ((z.getD ((k).toNat) dN).fo)) = false := c4
     refine hSeq ?_
     refine hReg (sq 0 sz) (by kernel_rfl) ?_
     refine asB rfl rfl rfl ?_
     refine rNil ?_
     refine qSeq rfl ?_
     refine hRet ?_
     exact fun w hs => ⟨[.bool false], ⟨rfl, trivial⟩, ⟨bB (by first | exact (Math.no1 (by assumption)).symm | exact (Math.no2 (by assumption)).symm | exact (Math.no3 (by assumption)).symm | exact (Math.no5' (by assumption)).symm | exact (Math.no4' (by assumption) (by assumption)).symm | exact (Math.no7 (by assumption) (by assumption)).symm | exact (Math.no8 (by assumption) (by assumption)).symm | exact (Math.no11 (by assumption) (by rw [← lz] at *; assumption)).symm), hs.upd⟩⟩
    ·
     replace c4 : (Math.inB (-1) (1 : Int) ((z.getD ((k).toNat) dN).fo)) = true := c4
     refine hSkip ?_
     refine qSeq rfl ?_
     refine hSeq ?_
     refine hSeq ?_
     refine hReg (sq 0 (sl 1 (sq 2 sz))) (by kernel_rfl) ?_
     refine fld fl52_0 rfl rfl rfl ?_
     refine ldl Tryd.isAgg2 (cB 0 rfl rfl) trv rfl rfl rfl ?_
     refine eql rfl rfl rfl rfl ?_
     refine rNil ?_
     refine qSeq rfl ?_
     refine hIfD rfl (fun c5 => ?_) (fun c5 => ?_)
     ·
      replace c5 : (z.getD ((k).toNat) dN).pl = 2 := c5
      refine hSeq ?_
      refine hReg (sq 0 (sl 1 (sq 2 (sq 3 (sq 4 (sq 5 (sl 6 (sq 7 (sq 8 (sq 9 (sl 10 (sq 11 (sl 12 (sq 13 (sq 14 (sq 15 (sq 16 sz))))))))))))))))) (by kernel_rfl) ?_
      refine fld fl52_4 rfl rfl rfl ?_
      refine ldl Tryd.isAgg50 (cB 0 rfl rfl) trv rfl rfl rfl ?_
      refine lenS Tryd.runUnderlying50 rfl rfl rfl ?_
      refine eql rfl rfl rfl rfl ?_
      refine mvB rfl rfl rfl ?_
      refine rBoolD (d := 40) rfl (fun g6 => ?_) (fun g6 => ?_)
      ·
       replace g6 : ((((z.getD ((k).toNat) dN).ch).length : Nat) : Int) = 0 := g6
       refine fld fl52_3 rfl rfl rfl ?_
       refine ldl Tryd.isAgg2 (cB 0 rfl rfl) trv rfl rfl rfl ?_
       refine geq rfl rfl rfl rfl ?_
       refine mvB rfl rfl rfl ?_
       refine rBoolD (d := 44) rfl (fun g7 => ?_) (fun g7 => ?_)
       ·
        replace g7 : 0 ≤ (z.getD ((k).toNat) dN).fo := g7
        refine rSkipQ rfl rfl ?_
        refine rSkipL trv rfl rfl ?_
        refine rSkipQ rfl rfl ?_
        refine rSkipL trv rfl rfl ?_
        refine rSkipQ rfl rfl ?_
        refine pickB rfl rfl rfl rfl ?_
        refine pickB rfl rfl rfl rfl ?_
        refine asB rfl rfl rfl ?_
        refine rNil ?_
        refine qSeq rfl ?_
        refine hRet ?_
        exact fun w hs => ⟨[.bool true], ⟨rfl, trivial⟩, ⟨bB (Math.end1 (by assumption) (by assumption) (by assumption) (by assumption) (by assumption) (by assumption) (by assumption)).symm, hs.upd⟩⟩
       ·
        replace g7 : ¬ (0 ≤ (z.getD ((k).toNat) dN).fo) := g7
        refine fld fl52_1 rfl rfl rfl ?_
        refine ldl Tryd.isAgg2 (cB 0 rfl rfl) trv rfl rfl rfl ?_
        refine fld fl52_2 rfl rfl rfl ?_
        refine ldl Tryd.isAgg2 (cB 0 rfl rfl) trv rfl rfl rfl ?_
        refine eql rfl rfl rfl rfl ?_
        refine pickB rfl rfl rfl rfl ?_
        refine pickB rfl rfl rfl rfl ?_
        refine asB rfl rfl rfl ?_
        refine rNil ?_
        refine qSeq rfl ?_
        refine hRet ?_
        exact fun w hs => ⟨[.bool (decide ((z.getD ((k).toNat) dN).p0 = (z.getD ((k).toNat) dN).p1))], ⟨rfl, trivial⟩, ⟨bB (Math.end2 (by assumption) (by assumption) (by assumption) (by assumption) (by assumption) (by assumption) (by assumption)).symm, hs.upd⟩⟩
      ·
       replace g6 : ¬ (((((z.getD ((k).toNat) dN).ch).length : Nat) : Int) = 0) := g6
       refine rSkipQ rfl rfl ?_
       refine rSkipL trv rfl rfl ?_
       refine rSkipQ rfl rfl ?_
       refine rSkipQ rfl rfl ?_
       refine rSkipQ rfl rfl ?_
       refine rSkipL trv rfl rfl ?_
       refine rSkipQ rfl rfl ?_
       refine rSkipL trv rfl rfl ?_
       refine rSkipQ rfl rfl ?_
       refine rSkipQ rfl rfl ?_
       refine pickB rfl rfl rfl rfl ?_
       refine asB rfl rfl rfl ?_
       refine rNil ?_
       refine qSeq rfl ?_
       refine hRet ?_
       exact fun w hs => ⟨[.bool false], ⟨rfl, trivial⟩, ⟨bB (by first | exact (Math.no1 (by assumption)).symm | exact (Math.no2 (by assumption)).symm | exact (Math.no3 (by assumption)).symm | exact (Math.no5' (by assumption)).symm | exact (Math.no4' (by assumption) (by assumption)).symm | exact (Math.no7 (by assumption) (by assumption)).symm | exact (Math.no8 (by assumption) (by assumption)).symm | exact (Math.no11 (by assumption) (by rw [← lz] at *; assumption)).symm), hs.upd⟩⟩
     ·
      replace c5 : ¬ ((z.getD ((k).toNat) dN).pl = 2) := c5
      refine hSkip ?_
      refine qSeq rfl ?_
      refine hSeq ?_
      refine hSeq ?_
      refine hReg (sq 0 (sl 1 (sq 2 (sq 3 (sq 4 (sl 5 (sq 6 (sl 7 (sq 8 (sq 9 (sq 10 (sq 11 (sl 12 (sq 13 (sl 14 (sq 15 (sl 16 (sq 17 (sq 18 sz))))))))))))))))))) (by kernel_rfl) ?_
      refine fld fl52_3 rfl rfl rfl ?_
      refine ldl Tryd.isAgg2 (cB 0 rfl rfl) trv rfl rfl rfl ?_
      refine neq rfl rfl rfl rfl ?_
      refine mvB rfl rfl rfl ?_
      refine rBoolD (d := 55) rfl (fun g8 => ?_) (fun g8 => ?_)
      ·
       replace g8 : (z.getD ((k).toNat) dN).fo ≠ (-1) := g8
       refine rSkipQ rfl rfl ?_
       refine rSkipL trv rfl rfl ?_
       refine rSkipQ rfl rfl ?_
       refine rSkipL trv rfl rfl ?_
       refine rSkipQ rfl rfl ?_
       refine pickB rfl rfl rfl rfl ?_
       refine mvB rfl rfl rfl ?_
       refine rSkipQ rfl rfl ?_
       refine rSkipL trv rfl rfl ?_
       refine rSkipQ rfl rfl ?_
       refine rSkipL trv rfl rfl ?_
       refine rSkipQ rfl rfl ?_
       refine rSkipL trv rfl rfl ?_
       refine rSkipQ rfl rfl ?_
       refine pickB rfl rfl rfl rfl ?_
       refine rNil ?_
       refine qSeq rfl ?_
       refine hIfT rfl ?_
       refine hSeq ?_
       refine hReg (sq 0 sz) (by kernel_rfl) ?_
       refine asB rfl rfl rfl ?_
       refine rNil ?_
       refine qSeq rfl ?_
       refine hRet ?_
       exact fun w hs => ⟨[.bool false], ⟨rfl, trivial⟩, ⟨bB (by first | exact (Math.no1 (by assumption)).symm | exact (Math.no2 (by assumption)).symm | exact (Math.no3 (by assumption)).symm | exact (Math.no5' (by assumption)).symm | exact (Math.no4' (by assumption) (by assumption)).symm | exact (Math.no7 (by assumption) (by assumption)).symm | exact (Math.no8 (by assumption) (by assumption)).symm | exact (Math.no11 (by assumption) (by rw [← lz] at *; assumption)).symm), hs.upd⟩⟩
      ·
       replace g8 : ¬ ((z.getD ((k).toNat) dN).fo ≠ (-1)) := g8
       refine fld fl52_4 rfl rfl rfl ?_
       refine ldl Tryd.isAgg50 (cB 0 rfl rfl) trv rfl rfl rfl ?_
       refine lenS Tryd.runUnderlying50 rfl rfl rfl ?_
       refine callP (v := .bool ((Math.inB (1 : Int) (4 : Int) (((((z.getD ((k).toNat) dN).ch).length : Nat) : Int))))) Tryd.call32 trv rfl rfl (fun w hs => spec_l01In_c _ _ _ w ) ?_
       refine not rfl rfl rfl ?_
       refine pickB rfl rfl rfl rfl ?_
       refine mvB rfl rfl rfl ?_
       refine rBoolN (d := 62) rfl (fun g9 => ?_) (fun g9 => ?_)
       ·
        replace g9 : (Math.inB (1 : Int) (4 : Int) (((((z.getD ((k).toNat) dN).ch).length : Nat) : Int))) = false := g9
        refine rSkipQ rfl rfl ?_
        refine rSkipL trv rfl rfl ?_
        refine rSkipQ rfl rfl ?_
        refine rSkipL trv rfl rfl ?_
        refine rSkipQ rfl rfl ?_
        refine rSkipL trv rfl rfl ?_
        refine rSkipQ rfl rfl ?_
        refine pickB rfl rfl rfl rfl ?_
        refine rNil ?_
        refine qSeq rfl ?_
        refine hIfT rfl ?_
        refine hSeq ?_
        refine hReg (sq 0 sz) (by kernel_rfl) ?_
        refine asB rfl rfl rfl ?_
        refine rNil ?_
        refine qSeq rfl ?_
        refine hRet ?_
        exact fun w hs => ⟨[.bool false], ⟨rfl, trivial⟩, ⟨bB (by first | exact (Math.no1 (by assumption)).symm | exact (Math.no2 (by assumption)).symm | exact (Math.no3 (by assumption)).symm | exact (Math.no5' (by assumption)).symm | exact (Math.no4' (by assumption) (by assumption)).symm | exact (Math.no7 (by assumption) (by assumption)).symm | exact (Math.no8 (by assumption) (by assumption)).symm | exact (Math.no11 (by assumption) (by rw [← lz] at *; assumption)).symm), hs.upd⟩⟩
       ·
        replace g9 : (Math.inB (1 : Int) (4 : Int) (((((z.getD ((k).toNat) dN).ch).length : Nat) : Int))) = true := g9
        refine fld fl52_4 rfl rfl rfl ?_
        refine ldl Tryd.isAgg50 (cB 0 rfl rfl) trv rfl rfl rfl ?_
        refine fld fl26_0 rfl rfl rfl ?_
        refine ldl Tryd.isAgg24 (cB 1 rfl rfl) trv rfl rfl rfl ?_
        refine lenS Tryd.runUnderlying24 rfl rfl rfl ?_
        refine callP (v := .bool ((Math.risesB (nz : Int) ((z.getD ((k).toNat) dN).ch)))) Tryd.call78 trv rfl rfl (fun w hs => spec_l01Rises_c _ _ _ _ _ w (Kn.drop (k := 2) ((Kn.imp kz fun _ h => h.kidN (nth dN (by omega)))) w hs) (by omega)) ?_
        refine not rfl rfl rfl ?_
        refine pickB rfl rfl rfl rfl ?_
        refine rNil ?_
        refine qSeq rfl ?_
        refine hIfN rfl (fun c10 => ?_) (fun c10 => ?_)
        ·
         replace c10 : (Math.risesB (nz : Int) ((z.getD ((k).toNat) dN).ch)) = false := c10
         refine hSeq ?_
         refine hReg (sq 0 sz) (by kernel_rfl) ?_
         refine asB rfl rfl rfl ?_
         refine rNil ?_
         refine qSeq rfl ?_
         refine hRet ?_
         exact fun w hs => ⟨[.bool false], ⟨rfl, trivial⟩, ⟨bB (by first | exact (Math.no1 (by assumption)).symm | exact (Math.no2 (by assumption)).symm | exact (Math.no3 (by assumption)).symm | exact (Math.no5' (by assumption)).symm | exact (Math.no4' (by assumption) (by assumption)).symm | exact (Math.no7 (by assumption) (by assumption)).symm | exact (Math.no8 (by assumption) (by assumption)).symm | exact (Math.no11 (by assumption) (by rw [← lz] at *; assumption)).symm), hs.upd⟩⟩
        ·
         replace c10 : (Math.risesB (nz : Int) ((z.getD ((k).toNat) dN).ch)) = true := c10
         have hl4 := of_decide_eq_true (show decide (1 ≤ ((z.getD k.toNat dN).ch.length : Int) ∧ ((z.getD k.toNat dN).ch.length : Int) ≤ 4) = true from g9)
         refine hSkip ?_
         refine qSeq rfl ?_
         refine hSeq ?_
         refine hReg (sq 0 (sl 1 (sq 2 (sl 3 (sq 4 (sq 5 (sq 6 sz))))))) (by kernel_rfl) ?_
         refine fld fl52_4 rfl rfl rfl ?_
         refine ldl Tryd.isAgg50 (cB 0 rfl rfl) trv rfl rfl rfl ?_
         refine ixIl (zn := 0) el50 (Kn.drop (k := 2) ((Kn.imp kz fun _ h => h.kidN (nth dN (by omega))))) rfl rfl rfl rfl (by omega) (by omega) rfl ?_
         intro ae2 e2
         refine ldl Tryd.isAgg2 (e2) trv rfl rfl rfl ?_
         refine mvI rfl rfl rfl ?_
         refine gtr rfl rfl rfl rfl ?_
         refine asB rfl rfl rfl ?_
         refine rNil ?_
         refine qSeq rfl ?_
         refine hRet ?_
         exact fun w hs => ⟨[.bool (decide (k < (((z.getD ((k).toNat) dN).ch).getD 0 0)))], ⟨rfl, trivial⟩, ⟨bB (by rw [Math.dec1 (by assumption) (by assumption) (by assumption) (by assumption) (by assumption) (by assumption) (by assumption)]; exact decide_eq_decide.2 (by omega)), hs.upd⟩⟩
theorem impl_IsTree_c (az : Option Addr) (nz : Nat) (cz : Nat) (Hz : Nat → Hd) (z : List Nd) (w : World) (rz : RdR ndK az nz Hz z w) :
  Calls Tryd.prog 21 #[.agg #[.slice az nz cz]] w (Ret fun v w' => v = .bool (Math.isTree z) ∧ Ext w w') := by
 have kz : Kn w none_ [] (RdR ndK az nz Hz z) := fun w' hs => rz.ext hs.upd
 have lz : z.length = nz := rz.1
 have mz : nz ≤ 9223372036854775807 := rz.2.1
 refine fn (M := none_) (rs := [.tmp 2]) Tryd.func21 rfl Tryd.ntmps21 rfl rfl (Sep.start _ _) ?_
 refine hSeq ?_
 refine hReg (sl 0 (sq 1 sz)) (by kernel_rfl) ?_
 refine box trv1 rfl rfl rfl rfl (fun bkb1 hbkb1 => ?_)
 refine asB rfl rfl rfl ?_
 refine rNil ?_
 refine qSeq rfl ?_
 refine hSeq ?_
 refine hReg (sq 0 (sl 1 (sq 2 (sq 3 sz)))) (by kernel_rfl) ?_
 refine fld fl26_0 rfl rfl rfl ?_
 refine ldl Tryd.isAgg24 (cB 0 rfl rfl) trv rfl rfl rfl ?_
 refine lenS Tryd.runUnderlying24 rfl rfl rfl ?_
 refine asI rfl rfl rfl ?_
 refine rNil ?_
 refine qSeq rfl ?_
 refine hSeq ?_
 refine hSeq ?_
 refine hReg (sq 0 (sl 1 (sq 2 sz))) (by kernel_rfl) ?_
 refine mvI rfl rfl rfl ?_
 refine callP (v := .bool ((Math.inB (1 : Int) (60 : Int) (nz : Int)))) Tryd.call29 trv rfl rfl (fun w hs => impl_within_c _ _ _ w ) ?_
 refine not rfl rfl rfl ?_
 refine rNil ?_
 refine qSeq rfl ?_
 refine hIfN rfl (fun c1 => ?_) (fun c1 => ?_)
 ·
  replace c1 : (Math.inB (1 : Int) (60 : Int) (nz : Int)) = false := c1
  refine hSeq ?_
  refine hReg (sq 0 sz) (by kernel_rfl) ?_
  refine asB rfl rfl rfl ?_
  refine rNil ?_
  refine qSeq rfl ?_
  refine hRet ?_
  exact fun w hs => ⟨[.bool false], ⟨rfl, trivial⟩, ⟨bB (Math.isTree_no1 (by have := of_decide_eq_false (show decide (1 ≤ (nz : Int) ∧ (nz : Int) ≤ 60) = false from c1); omega)).symm, hs.upd⟩⟩
 ·
  replace c1 : (Math.inB (1 : Int) (60 : Int) (nz : Int)) = true := c1
  have hn := of_decide_eq_true (show decide (1 ≤ (nz : Int) ∧ (nz : Int) ≤ 60) = true from c1)
  refine hSkip ?_
  refine qSeq rfl ?_
  refine hSeq ?_
  refine hReg (sq 0 (sl 1 (sq 2 sz))) (by kernel_rfl) ?_
  refine mvI rfl rfl rfl ?_
  refine mksI nz mk85 trv1 rfl rfl rfl rfl (rfl) (by omega) (fun bkm2 hbkm2 => ?_)
  refine asS rfl rfl rfl ?_
  refine rNil ?_
  refine qSeq rfl ?_
  refine hSeq ?_
  refine hSeq ?_
  refine hReg (sq 0 (sl 1 (sq 2 (sq 3 sz)))) (by kernel_rfl) ?_
  refine fld fl26_0 rfl rfl rfl ?_
  refine ldl Tryd.isAgg24 (cB 1 rfl rfl) trv rfl rfl rfl ?_
  refine lenS Tryd.runUnderlying24 rfl rfl rfl ?_
  refine mvI rfl rfl rfl ?_
  refine rNil ?_
  refine qSeq rfl ?_
  refine hBlk ?_
  rw [Math.cntL_start nz z]
  refine hLoop (α := Nat) (fun i => i ≤ nz ∧ ∀ j, j < i → Math.okB nz j (z.getD j dN) = true) (fun i => nz - i) (fun i => [OwnI 3 (some ⟨bkm2, 0, none⟩) nz nz ((Math.cntL nz (Math.kids (z.take i)))), blk bkb1 26 [.slice az nz cz]]) (fun i => [(1, .pointer (some ⟨bkb1, 0, none⟩)), (3, .int .i64 (nz : Int)), (4, .slice (some ⟨bkm2, 0, none⟩) nz nz), (20, .slice az nz cz), (21, .int .i64 (nz : Int)), (22, .int .i64 (i : Int))]) 0 ⟨Nat.zero_le _, fun j hj => by omega⟩ (fun _ h => h.pick [0, 0]) ⟨rfl, rfl, rfl, rfl, rfl, rfl, trivial⟩ ?_
  rintro i τ1 ⟨hi, hal⟩
  refine hSeq ?_
  refine hReg (sq 0 sz) (by kernel_rfl) ?_
  refine lss rfl rfl rfl rfl ?_
  refine rNil ?_
  refine qSeq rfl ?_
  refine hSeq ?_
  refine hIfD rfl (fun c2 => ?_) (fun c2 => ?_)
  ·
   replace c2 : (i : Int) < (nz : Int) := c2
   refine hSkip ?_
   refine qSeq rfl ?_
   refine hSeq ?_
   refine hBlk ?_
   refine hSeq ?_
   refine hReg (sq 0 (sq 1 (sl 2 (sl 3 (sq 4 (sl 5 sz)))))) (by kernel_rfl) ?_
   refine mvI rfl rfl rfl ?_
   refine ixRl (zn := i) (z.getD i dN) el24 (Kn.drop (k := 2) kz) rfl rfl rfl rfl (by omega) (by omega) rfl (nth dN (by omega)) ?_
   intro be1 oe1 e1
   refine ldAl Tryd.isAgg52 Tryd.sizeOf52 (e1) trv rfl rfl rfl rfl ?_
   refine alc Tryd.zeroValue52 rfl trv1 rfl rfl (fun bka3 hbka3 => ?_)
   refine asI rfl rfl rfl ?_
   refine stAl (vs := [.int .i64 ((z.getD i dN).pl), .int .i64 ((z.getD i dN).p0), .int .i64 ((z.getD i dN).p1), .int .i64 ((z.getD i dN).fo), .slice ((Hz i).1) (((z.getD i dN).ch).length) ((Hz i).2)]) 0 rfl Tryd.sizeOf52 trv rfl rfl rfl rfl rfl (by simp [Value.oneCell']) rfl ?_
   refine rNil ?_
   refine qSeq rfl ?_
   refine hSeq ?_
   refine hSeq ?_
   refine hReg (sq 0 (sl 1 (sl 2 (sq 3 (sq 4 (sq 5 (sl 6 (sl 7 (sq 8 (sq 9 (sq 10 (sq 11 (sl 12 (sl 13 (sq 14 (sq 15 sz)))))))))))))))) (by kernel_rfl) ?_
   refine fld fl52_0 rfl rfl rfl ?_
   refine ldl Tryd.isAgg2 (cB 0 rfl rfl) trv rfl rfl rfl ?_
   refine callP (v := .bool ((Math.inB (0 : Int) (2 : Int) ((z.getD i dN).pl)))) Tryd.call29 trv rfl rfl (fun w hs => impl_within_c _ _ _ w ) ?_
   refine not rfl rfl rfl ?_
   refine mvB rfl rfl rfl ?_
   refine rBoolN (d := 31) rfl (fun g3 => ?_) (fun g3 => ?_)
   ·
    replace g3 : (Math.inB (0 : Int) (2 : Int) ((z.getD i dN).pl)) = false := g3
    refine rSkipQ rfl rfl ?_
    refine rSkipL trv rfl rfl ?_
    refine rSkipL trv rfl rfl ?_
    refine rSkipQ rfl rfl ?_
    refine pickB rfl rfl rfl rfl ?_
    refine mvB rfl rfl rfl ?_
    refine rSkipQ rfl rfl ?_
    refine rSkipL trv rfl rfl ?_
    refine rSkipL trv rfl rfl ?_
    refine rSkipQ rfl rfl ?_
    refine pickB rfl rfl rfl rfl ?_
    refine rNil ?_
    refine qSeq rfl ?_
    refine hIfT rfl ?_
    refine hSeq ?_
    refine hReg (sq 0 sz) (by kernel_rfl) ?_
    refine asB rfl rfl rfl ?_
    refine rNil ?_
    refine qSeq rfl ?_
    refine hRet ?_
    exact fun w hs => ⟨[.bool false], ⟨rfl, trivial⟩, ⟨bB (Math.isTree_no2 (Math.allOk_no' lz (i := i) (by omega) (by first | exact Math.no1 (by assumption) | exact Math.no2 (by assumption) | exact Math.no3 (by assumption) | exact Math.no4 (by assumption) (by assumption) | exact Math.no5 (by assumption) (by assumption) | exact Math.no6 (by assumption) (by assumption) (by assumption) | exact Math.no7 (by assumption) (by assumption) | exact Math.no8 (by assumption) (by assumption) | exact Math.no9 (by assumption) (by assumption) | exact Math.no10 (by assumption) (by assumption) | assumption))).symm, hs.upd⟩⟩
   ·
    replace g3 : (Math.inB (0 : Int) (2 : Int) ((z.getD i dN).pl)) = true := g3
    refine fld fl52_1 rfl rfl rfl ?_
    refine ldl Tryd.isAgg2 (cB 0 rfl rfl) trv rfl rfl rfl ?_
    refine callP (v := .bool ((Math.inB (0 : Int) (100 : Int) ((z.getD i dN).p0)))) Tryd.call29 trv rfl rfl (fun w hs => impl_within_c _ _ _ w ) ?_
    refine not rfl rfl rfl ?_
    refine pickB rfl rfl rfl rfl ?_
    refine mvB rfl rfl rfl ?_
    refine rBoolN (d := 37) rfl (fun g4 => ?_) (fun g4 => ?_)
    ·
     replace g4 : (Math.inB (0 : Int) (100 : Int) ((z.getD i dN).p0)) = false := g4
     refine rSkipQ rfl rfl ?_
     refine rSkipL trv rfl rfl ?_
     refine rSkipL trv rfl rfl ?_
     refine rSkipQ rfl rfl ?_
     refine pickB rfl rfl rfl rfl ?_
     refine rNil ?_
     refine qSeq rfl ?_
     refine hIfT rfl ?_
     refine hSeq ?_
     refine hReg (sq 0 sz) (by kernel_rfl) ?_
     refine asB rfl rfl rfl ?_
     refine rNil ?_
     refine qSeq rfl ?_
     refine hRet ?_
     exact fun w hs => ⟨[.bool false], ⟨rfl, trivial⟩, ⟨bB (Math.isTree_no2 (Math.allOk_no' lz (i := i) (by omega) (by first | exact Math.no1 (by assumption) | exact Math.no2 (by assumption) | exact Math.no3 (by assumption) | exact Math.no4 (by assumption) (by assumption) | exact Math.no5 (by assumption) (by assumption) | exact Math.no6 (by assumption) (by assumption) (by assumption) | exact Math.no7 (by assumption) (by assumption) | exact Math.no8 (by assumption) (by assumption) | exact Math.no9 (by assumption) (by assumption) | exact Math.no10 (by assumption) (by assumption) | assumption))).symm, hs.upd⟩⟩
    ·
     replace g4 : (Math.inB (0 : Int) (100 : Int) ((z.getD i dN).p0)) = true := g4
     refine fld fl52_2 rfl rfl rfl ?_
     refine ldl Tryd.isAgg2 (cB 0 rfl rfl) trv rfl rfl rfl ?_
     refine callP (v := .bool ((Math.inB (0 : Int) (100 : Int) ((z.getD i dN).p1)))) Tryd.call29 trv rfl rfl (fun w hs => impl_within_c _ _ _ w ) ?_
     refine not rfl rfl rfl ?_
     refine pickB rfl rfl rfl rfl ?_
     refine rNil ?_
     refine qSeq rfl ?_
     refine hIfN rfl (fun c5 => ?_) (fun c5 => ?_)
     ·
      replace c5 : (Math.inB (0 : Int) (100 : Int) ((z.getD i dN).p1)) = false := c5
      refine hSeq ?_
      refine hReg (sq 0 sz) (by kernel_rfl) ?_
      refine asB rfl rfl rfl ?_
      refine rNil ?_
      refine qSeq rfl ?_
      refine hRet ?_
      exact fun w hs => ⟨[.bool false], ⟨rfl, trivial⟩, ⟨bB (Math.isTree_no2 (Math.allOk_no' lz (i := i) (by omega) (by first | exact Math.no1 (by assumption) | exact Math.no2 (by assumption) | exact Math.no3 (by assumption) | exact Math.no4 (by assumption) (by assumption) | exact Math.no5 (by assumption) (by assumption) | exact Math.no6 (by assumption) (by assumption) (by assumption) | exact Math.no7 (by assumption) (by assumption) | exact Math.no8 (by assumption) (by assumption) | exact Math.no9 (by assumption) (by assumption) | exact Math.no10 (by assumption) (by assumption) | assumption))).symm, hs.upd⟩⟩
     ·
      replace c5 : (Math.inB (0 : Int) (100 : Int) ((z.getD i dN).p1)) = true := c5
      refine hSkip ?_
      refine qSeq rfl ?_
      refine hSeq ?_
      refine hSeq ?_
      refine hReg (sq 0 (sl 1 (sq 2 sz))) (by kernel_rfl) ?_
      refine fld fl52_0 rfl rfl rfl ?_
      refine ldl Tryd.isAgg2 (cB 0 rfl rfl) trv rfl rfl rfl ?_
      refine eql rfl rfl rfl rfl ?_
      refine rNil ?_
      refine qSeq rfl ?_
      refine hIfD rfl (fun c6 => ?_) (fun c6 => ?_)
      ·
       replace c6 : (z.getD i dN).pl = 2 := c6
       refine hSeq ?_
       refine hSeq ?_
       refine hReg (sq 0 (sl 1 (sq 2 (sq 3 (sq 4 (sq 5 (sl 6 (sl 7 (sq 8 (sq 9 (sq 10 (sq 11 (sl 12 (sq 13 (sq 14 (sq 15 (sl 16 (sq 17 (sl 18 (sq 19 (sq 20 (sq 21 sz)))))))))))))))))))))) (by kernel_rfl) ?_
       refine fld fl52_4 rfl rfl rfl ?_
       refine ldl Tryd.isAgg50 (cB 0 rfl rfl) trv rfl rfl rfl ?_
       refine lenS Tryd.runUnderlying50 rfl rfl rfl ?_
       refine gtr rfl rfl rfl rfl ?_
       refine mvB rfl rfl rfl ?_
       refine rBoolD (d := 50) rfl (fun g7 => ?_) (fun g7 => ?_)
       ·
        replace g7 : 0 < ((((z.getD i dN).ch).length : Nat) : Int) := g7
        refine rSkipQ rfl rfl ?_
        refine rSkipL trv rfl rfl ?_
        refine rSkipL trv rfl rfl ?_
        refine rSkipQ rfl rfl ?_
        refine pickB rfl rfl rfl rfl ?_
        refine mvB rfl rfl rfl ?_
        refine rSkipQ rfl rfl ?_
        refine rSkipL trv rfl rfl ?_
        refine rSkipQ rfl rfl ?_
        refine rSkipQ rfl rfl ?_
        refine rSkipQ rfl rfl ?_
        refine rSkipL trv rfl rfl ?_
        refine rSkipQ rfl rfl ?_
        refine rSkipL trv rfl rfl ?_
        refine rSkipQ rfl rfl ?_
        refine rSkipQ rfl rfl ?_
        refine pickB rfl rfl rfl rfl ?_
        refine rNil ?_
        refine qSeq rfl ?_
        refine hIfT rfl ?_
        refine hSeq ?_
        refine hReg (sq 0 sz) (by kernel_rfl) ?_
        refine asB rfl rfl rfl ?_
        refine rNil ?_
        refine qSeq rfl ?_
        refine hRet ?_
        exact fun w hs => ⟨[.bool false], ⟨rfl, trivial⟩, ⟨bB (Math.isTree_no2 (Math.allOk_no' lz (i := i) (by omega) (by first | exact Math.no1 (by assumption) | exact Math.no2 (by assumption) | exact Math.no3 (by assumption) | exact Math.no4 (by assumption) (by assumption) | exact Math.no5 (by assumption) (by assumption) | exact Math.no6 (by assumption) (by assumption) (by assumption) | exact Math.no7 (by assumption) (by assumption) | exact Math.no8 (by assumption) (by assumption) | exact Math.no9 (by assumption) (by assumption) | exact Math.no10 (by assumption) (by assumption) | assumption))).symm, hs.upd⟩⟩
       ·
        replace g7 : ¬ (0 < ((((z.getD i dN).ch).length : Nat) : Int)) := g7
        refine fld fl52_3 rfl rfl rfl ?_
        refine ldl Tryd.isAgg2 (cB 0 rfl rfl) trv rfl rfl rfl ?_
        refine callP (v := .bool ((Math.inB (-1) (1 : Int) ((z.getD i dN).fo)))) Tryd.call29 trv rfl rfl (fun w hs => impl_within_c _ _ _ w ) ?_
        refine not rfl rfl rfl ?_
        refine pickB rfl rfl rfl rfl ?_
        refine mvB rfl rfl rfl ?_
        refine rBoolN (d := 56) rfl (fun g8 => ?_) (fun g8 => ?_)
        ·
         replace g8 : (Math.inB (-1) (1 : Int) ((z.getD i dN).fo)) = false := g8
         refine rSkipQ rfl rfl ?_
         refine rSkipL trv rfl rfl ?_
         refine rSkipQ rfl rfl ?_
         refine rSkipQ rfl rfl ?_
         refine rSkipQ rfl rfl ?_
         refine rSkipL trv rfl rfl ?_
         refine rSkipQ rfl rfl ?_
         refine rSkipL trv rfl rfl ?_
         refine rSkipQ rfl rfl ?_
         refine rSkipQ rfl rfl ?_
         refine pickB rfl rfl rfl rfl ?_
         refine rNil ?_
         refine qSeq rfl ?_
         refine hIfT rfl ?_
         refine hSeq ?_
         refine hReg (sq 0 sz) (by kernel_rfl) ?_
         refine asB rfl rfl rfl ?_
         refine rNil ?_
         refine qSeq rfl ?_
         refine hRet ?_
         exact fun w hs => ⟨[.bool false], ⟨rfl, trivial⟩, ⟨bB (Math.isTree_no2 (Math.allOk_no' lz (i := i) (by omega) (by first | exact Math.no1 (by assumption) | exact Math.no2 (by assumption) | exact Math.no3 (by assumption) | exact Math.no4 (by assumption) (by assumption) | exact Math.no5 (by assumption) (by assumption) | exact Math.no6 (by assumption) (by assumption) (by assumption) | exact Math.no7 (by assumption) (by assumption) | exact Math.no8 (by assumption) (by assumption) | exact Math.no9 (by assumption) (by assumption) | exact Math.no10 (by assumption) (by assumption) | assumption))).symm, hs.upd⟩⟩
        ·
         replace g8 : (Math.inB (-1) (1 : Int) ((z.getD i dN).fo)) = true := g8
         refine fld fl52_3 rfl rfl rfl ?_
         refine ldl Tryd.isAgg2 (cB 0 rfl rfl) trv rfl rfl rfl ?_
         refine eql rfl rfl rfl rfl ?_
         refine mvB rfl rfl rfl ?_
         refine rBoolD (d := 60) rfl (fun g9 => ?_) (fun g9 => ?_)
         ·
          replace g9 : (z.getD i dN).fo = (-1) := g9
          refine fld fl52_1 rfl rfl rfl ?_
          refine ldl Tryd.isAgg2 (cB 0 rfl rfl) trv rfl rfl rfl ?_
          refine fld fl52_2 rfl rfl rfl ?_
          refine ldl Tryd.isAgg2 (cB 0 rfl rfl) trv rfl rfl rfl ?_
          refine neq rfl rfl rfl rfl ?_
          refine pickB rfl rfl rfl rfl ?_
          refine pickB rfl rfl rfl rfl ?_
          refine rNil ?_
          refine qSeq rfl ?_
          refine hIfD rfl (fun c10 => ?_) (fun c10 => ?_)
          ·
           replace c10 : (z.getD i dN).p0 ≠ (z.getD i dN).p1 := c10
           refine hSeq ?_
           refine hReg (sq 0 sz) (by kernel_rfl) ?_
           refine asB rfl rfl rfl ?_
           refine rNil ?_
           refine qSeq rfl ?_
           refine hRet ?_
           exact fun w hs => ⟨[.bool false], ⟨rfl, trivial⟩, ⟨bB (Math.isTree_no2 (Math.allOk_no' lz (i := i) (by omega) (by first | exact Math.no1 (by assumption) | exact Math.no2 (by assumption) | exact Math.no3 (by assumption) | exact Math.no4 (by assumption) (by assumption) | exact Math.no5 (by assumption) (by assumption) | exact Math.no6 (by assumption) (by assumption) (by assumption) | exact Math.no7 (by assumption) (by assumption) | exact Math.no8 (by assumption) (by assumption) | exact Math.no9 (by assumption) (by assumption) | exact Math.no10 (by assumption) (by assumption) | assumption))).symm, hs.upd⟩⟩
          ·
           replace c10 : ¬ ((z.getD i dN).p0 ≠ (z.getD i dN).p1) := c10
           have hnode : Math.okB nz i (z.getD i dN) = true := Math.yes1 g3 g4 c5 c6 g7 g8 (fun _ => Classical.not_not.1 c10)
           refine hSkip ?_
           refine qSeq rfl ?_
           refine hExit rfl ?_
           refine qSeq rfl ?_
           refine hReg (sq 0 (sq 1 sz)) (by kernel_rfl) ?_
           refine add rfl rfl rfl rfl (by omega) ?_
           refine mvI rfl rfl rfl ?_
           refine rNil ?_
           rw [show Math.kids (z.take i) = Math.kids (z.take (i + 1)) from by rw [Math.kids_step (by omega), Math.ok_empty hnode c6]; simp]
           exact qNext rfl (i + 1) (by omega) ⟨by omega, Math.upto hal hnode⟩ ⟨rfl, rfl, rfl, rfl, rfl, rfl, trivial⟩ (fun _ h => h.pick [1, 1])
         ·
          replace g9 : ¬ ((z.getD i dN).fo = (-1)) := g9
          have hnode : Math.okB nz i (z.getD i dN) = true := Math.yes1 g3 g4 c5 c6 g7 g8 (fun h => absurd h g9)
          refine rSkipQ rfl rfl ?_
          refine rSkipL trv rfl rfl ?_
          refine rSkipQ rfl rfl ?_
          refine rSkipL trv rfl rfl ?_
          refine rSkipQ rfl rfl ?_
          refine pickB rfl rfl rfl rfl ?_
          refine pickB rfl rfl rfl rfl ?_
          refine rNil ?_
          refine qSeq rfl ?_
          refine hIfF rfl ?_
          refine hSkip ?_
          refine qSeq rfl ?_
          refine hExit rfl ?_
          refine qSeq rfl ?_
          refine hReg (sq 0 (sq 1 sz)) (by kernel_rfl) ?_
          refine add rfl rfl rfl rfl (by omega) ?_
          refine mvI rfl rfl rfl ?_
          refine rNil ?_
          rw [show Math.kids (z.take i) = Math.kids (z.take (i + 1)) from by rw [Math.kids_step (by omega), Math.ok_empty hnode c6]; simp]
          exact qNext rfl (i + 1) (by omega) ⟨by omega, Math.upto hal hnode⟩ ⟨rfl, rfl, rfl, rfl, rfl, rfl, trivial⟩ (fun _ h => h.pick [1, 1])
      ·
       replace c6 : ¬ ((z.getD i dN).pl = 2) := c6
       refine hSkip ?_
       refine qSeq rfl ?_
       refine hSeq ?_
       refine hSeq ?_
       refine hReg (sq 0 (sl 1 (sq 2 (sq 3 (sq 4 (sl 5 (sq 6 (sl 7 (sq 8 (sq 9 (sq 10 (sq 11 (sl 12 (sq 13 (sq 14 (sq 15 (sq 16 (sl 17 (sq 18 (sq 19 (sq 20 (sq 21 (sl 22 (sl 23 (sq 24 (sq 25 sz)))))))))))))))))))))))))) (by kernel_rfl) ?_
       refine fld fl52_3 rfl rfl rfl ?_
       refine ldl Tryd.isAgg2 (cB 0 rfl rfl) trv rfl rfl rfl ?_
       refine neq rfl rfl rfl rfl ?_
       refine mvB rfl rfl rfl ?_
       refine rBoolD (d := 71) rfl (fun g11 => ?_) (fun g11 => ?_)
       ·
        replace g11 : (z.getD i dN).fo ≠ (-1) := g11
        refine rSkipQ rfl rfl ?_
        refine rSkipL trv rfl rfl ?_
        refine rSkipQ rfl rfl ?_
        refine rSkipL trv rfl rfl ?_
        refine rSkipQ rfl rfl ?_
        refine pickB rfl rfl rfl rfl ?_
        refine mvB rfl rfl rfl ?_
        refine rSkipQ rfl rfl ?_
        refine rSkipL trv rfl rfl ?_
        refine rSkipQ rfl rfl ?_
        refine rSkipQ rfl rfl ?_
        refine rSkipQ rfl rfl ?_
        refine rSkipQ rfl rfl ?_
        refine rSkipL trv rfl rfl ?_
        refine rSkipQ rfl rfl ?_
        refine pickB rfl rfl rfl rfl ?_
        refine mvB rfl rfl rfl ?_
        refine rSkipQ rfl rfl ?_
        refine rSkipL trv rfl rfl ?_
        refine rSkipL trv rfl rfl ?_
        refine rSkipQ rfl rfl ?_
        refine pickB rfl rfl rfl rfl ?_
        refine rNil ?_
        refine qSeq rfl ?_
        refine hIfT rfl ?_
        refine hSeq ?_
        refine hReg (sq 0 sz) (by kernel_rfl) ?_
        refine asB rfl rfl rfl ?_
        refine rNil ?_
        refine qSeq rfl ?_
        refine hRet ?_
        exact fun w hs => ⟨[.bool false], ⟨rfl, trivial⟩, ⟨bB (Math.isTree_no2 (Math.allOk_no' lz (i := i) (by omega) (by first | exact Math.no1 (by assumption) | exact Math.no2 (by assumption) | exact Math.no3 (by assumption) | exact Math.no4 (by assumption) (by assumption) | exact Math.no5 (by assumption) (by assumption) | exact Math.no6 (by assumption) (by assumption) (by assumption) | exact Math.no7 (by assumption) (by assumption) | exact Math.no8 (by assumption) (by assumption) | exact Math.no9 (by assumption) (by assumption) | exact Math.no10 (by assumption) (by assumption) | assumption))).symm, hs.upd⟩⟩
       ·
        replace g11 : ¬ ((z.getD i dN).fo ≠ (-1)) := g11
        refine fld fl52_4 rfl rfl rfl ?_
        refine ldl Tryd.isAgg50 (cB 0 rfl rfl) trv rfl rfl rfl ?_
        refine lenS Tryd.runUnderlying50 rfl rfl rfl ?_
        refine callP (v := .bool ((Math.inB (1 : Int) (4 : Int) (((((z.getD i dN).ch).length : Nat) : Int))))) Tryd.call29 trv rfl rfl (fun w hs => impl_within_c _ _ _ w ) ?_
        refine not rfl rfl rfl ?_
        refine pickB rfl rfl rfl rfl ?_
        refine mvB rfl rfl rfl ?_
        refine rBoolN (d := 78) rfl (fun g12 => ?_) (fun g12 => ?_)
        ·
         replace g12 : (Math.inB (1 : Int) (4 : Int) (((((z.getD i dN).ch).length : Nat) : Int))) = false := g12
         refine rSkipQ rfl rfl ?_
         refine rSkipL trv rfl rfl ?_
         refine rSkipQ rfl rfl ?_
         refine rSkipQ rfl rfl ?_
         refine rSkipQ rfl rfl ?_
         refine rSkipQ rfl rfl ?_
         refine rSkipL trv rfl rfl ?_
         refine rSkipQ rfl rfl ?_
         refine pickB rfl rfl rfl rfl ?_
         refine mvB rfl rfl rfl ?_
         refine rSkipQ rfl rfl ?_
         refine rSkipL trv rfl rfl ?_
         refine rSkipL trv rfl rfl ?_
         refine rSkipQ rfl rfl ?_
         refine pickB rfl rfl rfl rfl ?_
         refine rNil ?_
         refine qSeq rfl ?_
         refine hIfT rfl ?_
         refine hSeq ?_
         refine hReg (sq 0 sz) (by kernel_rfl) ?_
         refine asB rfl rfl rfl ?_
         refine rNil ?_
         refine qSeq rfl ?_
         refine hRet ?_
         exact fun w hs => ⟨[.bool false], ⟨rfl, trivial⟩, ⟨bB (Math.isTree_no2 (Math.allOk_no' lz (i := i) (by omega) (by first | exact Math.no1 (by assumption) | exact Math.no2 (by assumption) | exact Math.no3 (by assumption) | exact Math.no4 (by assumption) (by assumption) | exact Math.no5 (by assumption) (by assumption) | exact Math.no6 (by assumption) (by assumption) (by assumption) | exact Math.no7 (by assumption) (by assumption) | exact Math.no8 (by assumption) (by assumption) | exact Math.no9 (by assumption) (by assumption) | exact Math.no10 (by assumption) (by assumption) | assumption))).symm, hs.upd⟩⟩
        ·
         replace g12 : (Math.inB (1 : Int) (4 : Int) (((((z.getD i dN).ch).length : Nat) : Int))) = true := g12
         refine fld fl52_4 rfl rfl rfl ?_
         refine ldl Tryd.isAgg50 (cB 0 rfl rfl) trv rfl rfl rfl ?_
         refine mvI rfl rfl rfl ?_
         refine add rfl rfl rfl rfl (by omega) ?_
         refine mvI rfl rfl rfl ?_
         refine sub rfl rfl rfl rfl (by omega) ?_
         refine callP (v := .bool ((((z.getD i dN).ch).all (Math.inB (((i : Int) + 1)) (((nz : Int) - 1)))))) Tryd.call52 trv rfl rfl (fun w hs => impl_allWithin_c _ _ _ _ _ _ w (Kn.drop (k := 3) ((Kn.imp kz fun _ h => h.kidN (nth dN (by omega)))) w hs)) ?_
         refine not rfl rfl rfl ?_
         refine pickB rfl rfl rfl rfl ?_
         refine mvB rfl rfl rfl ?_
         refine rBoolN (d := 88) rfl (fun g13 => ?_) (fun g13 => ?_)
         ·
          replace g13 : (((z.getD i dN).ch).all (Math.inB (((i : Int) + 1)) (((nz : Int) - 1)))) = false := g13
          refine rSkipQ rfl rfl ?_
          refine rSkipL trv rfl rfl ?_
          refine rSkipL trv rfl rfl ?_
          refine rSkipQ rfl rfl ?_
          refine pickB rfl rfl rfl rfl ?_
          refine rNil ?_
          refine qSeq rfl ?_
          refine hIfT rfl ?_
          refine hSeq ?_
          refine hReg (sq 0 sz) (by kernel_rfl) ?_
          refine asB rfl rfl rfl ?_
          refine rNil ?_
          refine qSeq rfl ?_
          refine hRet ?_
          exact fun w hs => ⟨[.bool false], ⟨rfl, trivial⟩, ⟨bB (Math.isTree_no2 (Math.allOk_no' lz (i := i) (by omega) (by first | exact Math.no1 (by assumption) | exact Math.no2 (by assumption) | exact Math.no3 (by assumption) | exact Math.no4 (by assumption) (by assumption) | exact Math.no5 (by assumption) (by assumption) | exact Math.no6 (by assumption) (by assumption) (by assumption) | exact Math.no7 (by assumption) (by assumption) | exact Math.no8 (by assumption) (by assumption) | exact Math.no9 (by assumption) (by assumption) | exact Math.no10 (by assumption) (by assumption) | assumption))).symm, hs.upd⟩⟩
         ·
          replace g13 : (((z.getD i dN).ch).all (Math.inB (((i : Int) + 1)) (((nz : Int) - 1)))) = true := g13
          refine fld fl52_4 rfl rfl rfl ?_
          refine ldl Tryd.isAgg50 (cB 0 rfl rfl) trv rfl rfl rfl ?_
          refine callP (v := .bool ((Math.risingB ((z.getD i dN).ch)))) Tryd.call53 trv rfl rfl (fun w hs => impl_increasing_c _ _ _ _ w (Kn.drop (k := 3) ((Kn.imp kz fun _ h => h.kidN (nth dN (by omega)))) w hs)) ?_
          refine not rfl rfl rfl ?_
          refine pickB rfl rfl rfl rfl ?_
          refine rNil ?_
          refine qSeq rfl ?_
          refine hIfN rfl (fun c14 => ?_) (fun c14 => ?_)
          ·
           replace c14 : (Math.risingB ((z.getD i dN).ch)) = false := c14
           refine hSeq ?_
           refine hReg (sq 0 sz) (by kernel_rfl) ?_
           refine asB rfl rfl rfl ?_
           refine rNil ?_
           refine qSeq rfl ?_
           refine hRet ?_
           exact fun w hs => ⟨[.bool false], ⟨rfl, trivial⟩, ⟨bB (Math.isTree_no2 (Math.allOk_no' lz (i := i) (by omega) (by first | exact Math.no1 (by assumption) | exact Math.no2 (by assumption) | exact Math.no3 (by assumption) | exact Math.no4 (by assumption) (by assumption) | exact Math.no5 (by assumption) (by assumption) | exact Math.no6 (by assumption) (by assumption) (by assumption) | exact Math.no7 (by assumption) (by assumption) | exact Math.no8 (by assumption) (by assumption) | exact Math.no9 (by assumption) (by assumption) | exact Math.no10 (by assumption) (by assumption) | assumption))).symm, hs.upd⟩⟩
          ·
           replace c14 : (Math.risingB ((z.getD i dN).ch)) = true := c14
           have hnode : Math.okB nz i (z.getD i dN) = true := Math.yes2 g3 g4 c5 c6 g11 g12 g13 c14
           refine hSkip ?_
           refine qSeq rfl ?_
           refine hSeq ?_
           refine hReg (sq 0 (sl 1 (sq 2 (sq 3 sz)))) (by kernel_rfl) ?_
           refine fld fl52_4 rfl rfl rfl ?_
           refine ldl Tryd.isAgg50 (cB 0 rfl rfl) trv rfl rfl rfl ?_
           refine lenS Tryd.runUnderlying50 rfl rfl rfl ?_
           refine mvI rfl rfl rfl ?_
           refine rNil ?_
           refine qSeq rfl ?_
           refine hBlk ?_
           rw [show Math.cntL nz (Math.kids (z.take i)) = Math.cntL nz (Math.kids (z.take i) ++ (z.getD i dN).ch.take 0) from by simp]
           refine hLoop (α := Nat) (fun k => k ≤ (z.getD i dN).ch.length) (fun k => (z.getD i dN).ch.length - k) (fun k => [blk bka3 52 [.int .i64 ((z.getD i dN).pl), .int .i64 ((z.getD i dN).p0), .int .i64 ((z.getD i dN).p1), .int .i64 ((z.getD i dN).fo), .slice ((Hz i).1) (((z.getD i dN).ch).length) ((Hz i).2)], OwnI 3 (some ⟨bkm2, 0, none⟩) nz nz ((Math.cntL nz (Math.kids (z.take i) ++ (z.getD i dN).ch.take k))), blk bkb1 26 [.slice az nz cz]]) (fun k => [(1, .pointer (some ⟨bkb1, 0, none⟩)), (3, .int .i64 (nz : Int)), (4, .slice (some ⟨bkm2, 0, none⟩) nz nz), (20, .slice az nz cz), (21, .int .i64 (nz : Int)), (22, .int .i64 (i : Int)), (95, .slice ((Hz i).1) (((z.getD i dN).ch).length) ((Hz i).2)), (96, .int .i64 (((((z.getD i dN).ch).length : Nat) : Int))), (97, .int .i64 (k : Int))]) 0 (Nat.zero_le _) (fun _ h => h.pick [0, 0, 0]) ⟨rfl, rfl, rfl, rfl, rfl, rfl, rfl, rfl, rfl, trivial⟩ ?_
           rintro k τ2 hk
           refine hSeq ?_
           refine hReg (sq 0 sz) (by kernel_rfl) ?_
           refine lss rfl rfl rfl rfl ?_
           refine rNil ?_
           refine qSeq rfl ?_
           refine hSeq ?_
           refine hIfD rfl (fun c15 => ?_) (fun c15 => ?_)
           ·
            replace c15 : (k : Int) < ((((z.getD i dN).ch).length : Nat) : Int) := c15
            have hkid := Math.cnt_kid lz hnode (by omega) (show k < (z.getD i dN).ch.length by omega)
            have hcb := Math.cnt_way (k := k) (c := ((z.getD i dN).ch.getD k 0).toNat) lz (by omega) (by omega) hal hnode
            have hch4 := (Math.ok_pl hnode).2.2.2.2.1
            refine hSkip ?_
            refine qSeq rfl ?_
            refine hSeq ?_
            refine hBlk ?_
            refine hSeq ?_
            refine hReg (sq 0 (sl 1 (sq 2 sz))) (by kernel_rfl) ?_
            refine ixIl (zn := k) el50 (Kn.drop (k := 3) ((Kn.imp kz fun _ h => h.kidN (nth dN (by omega))))) rfl rfl rfl rfl (by omega) (by omega) rfl ?_
            intro ae2 e2
            refine ldl Tryd.isAgg2 (e2) trv rfl rfl rfl ?_
            refine asI rfl rfl rfl ?_
            refine rNil ?_
            refine qSeq rfl ?_
            refine hReg (sq 0 (sq 1 (sq 2 (sl 3 (sq 4 (sq 5 (sl 6 sz))))))) (by kernel_rfl) ?_
            refine mvS rfl rfl rfl ?_
            refine mvI rfl rfl rfl ?_
            refine ixIl (zn := ((((z.getD i dN).ch).getD k 0)).toNat) el85 ((Kn.at_ 1 rfl).imp fun _ h => OwnI.rd h) rfl rfl rfl rfl (by omega) (by omega) rfl ?_
            intro ae3 e3
            refine ldl Tryd.isAgg3 (e3) trv rfl rfl rfl ?_
            refine add rfl rfl rfl rfl (by omega) ?_
            refine oxI (zn := ((((z.getD i dN).ch).getD k 0)).toNat) 1 rfl el85 rfl rfl rfl rfl (by omega) (by omega) rfl ?_
            intro gk4 hgk4
            refine stoI (off := ((((z.getD i dN).ch).getD k 0)).toNat) (x := ((((Math.cntL nz (Math.kids (z.take i) ++ (z.getD i dN).ch.take k))).getD (((((z.getD i dN).ch).getD k 0)).toNat) 0) + 1)) 1 rfl hgk4 Tryd.sizeOf3 trv rfl rfl rfl rfl (by omega) ?_
            refine rNil ?_
            refine qSeq rfl ?_
            refine hReg (sq 0 (sq 1 sz)) (by kernel_rfl) ?_
            refine add rfl rfl rfl rfl (by omega) ?_
            refine mvI rfl rfl rfl ?_
            refine rNil ?_
            rw [hkid.2]
            exact qNext rfl (k + 1) (by omega) (by omega) ⟨rfl, rfl, rfl, rfl, rfl, rfl, rfl, rfl, rfl, trivial⟩ (fun _ h => h.pick [0, 0, 0])
           ·
            replace c15 : ¬ ((k : Int) < ((((z.getD i dN).ch).length : Nat) : Int)) := c15
            refine hExit rfl ?_
            refine qSeq rfl ?_
            refine hReg (sq 0 (sq 1 sz)) (by kernel_rfl) ?_
            refine add rfl rfl rfl rfl (by omega) ?_
            refine mvI rfl rfl rfl ?_
            refine rNil ?_
            rw [show Math.kids (z.take i) ++ (z.getD i dN).ch.take k = Math.kids (z.take (i + 1)) from by rw [Math.kids_step (by omega), List.take_of_length_le (show (z.getD i dN).ch.length ≤ k by omega)]]
            exact qNext rfl (i + 1) (by omega) ⟨by omega, Math.upto hal hnode⟩ ⟨rfl, rfl, rfl, rfl, rfl, rfl, trivial⟩ (fun _ h => h.pick [1, 1])
  ·
   replace c2 : ¬ ((i : Int) < (nz : Int)) := c2
   have hok : Math.allOk z = true := (Math.allOk_iff' lz).2 fun j hj => hal j (by omega)
   have hall : z.take i = z := List.take_of_length_le (by omega)
   refine hExit rfl ?_
   refine qSeq rfl ?_
   refine hSeq ?_
   refine hSeq ?_
   refine hReg (sq 0 (sq 1 (sq 2 (sq 3 sz)))) (by kernel_rfl) ?_
   refine mvS rfl rfl rfl ?_
   refine slLol (zn := 1) 0 rfl el85 rfl rfl rfl rfl (by omega) (by omega) rfl ?_
   intro ae5 e5
   refine lenS Tryd.runUnderlying85 rfl rfl rfl ?_
   refine mvI rfl rfl rfl ?_
   refine rNil ?_
   refine qSeq rfl ?_
   refine hBlk ?_
   refine hLoop (α := Nat) (fun j => j ≤ nz - 1 ∧ ∀ q, q < j → (Math.kids z).count ((q + 1 : Nat) : Int) = 1) (fun j => nz - 1 - j) (fun j => [OwnI 3 (some ⟨bkm2, 0, none⟩) nz nz ((Math.cntL nz (Math.kids (z.take i)))), blk bkb1 26 [.slice az nz cz]]) (fun j => [(1, .pointer (some ⟨bkb1, 0, none⟩)), (110, .slice ae5 (nz - 1) (nz - 1)), (111, .int .i64 ((((nz - 1) : Nat) : Int))), (112, .int .i64 (j : Int))]) 0 ⟨Nat.zero_le _, fun q hq => by omega⟩ (fun _ h => h.pick [0, 0]) ⟨rfl, rfl, rfl, rfl, trivial⟩ ?_
   rintro j τ3 ⟨hj, hone⟩
   refine hSeq ?_
   refine hReg (sq 0 sz) (by kernel_rfl) ?_
   refine lss rfl rfl rfl rfl ?_
   refine rNil ?_
   refine qSeq rfl ?_
   refine hSeq ?_
   refine hIfD rfl (fun c16 => ?_) (fun c16 => ?_)
   ·
    replace c16 : (j : Int) < (((nz - 1) : Nat) : Int) := c16
    have hcd := Math.cnt_drop (l := Math.kids (z.take i)) (show j + 1 < nz by omega)
    refine hSkip ?_
    refine qSeq rfl ?_
    refine hSeq ?_
    refine hBlk ?_
    refine hSeq ?_
    refine hReg (sq 0 (sl 1 (sq 2 sz))) (by kernel_rfl) ?_
    refine ixIl (zn := j) el85 (e5) rfl rfl rfl rfl (by omega) (by omega) rfl ?_
    intro ae6 e6
    refine ldl Tryd.isAgg3 (e6) trv rfl rfl rfl ?_
    refine asI rfl rfl rfl ?_
    refine rNil ?_
    refine qSeq rfl ?_
    refine hSeq ?_
    refine hReg (sq 0 (sq 1 sz)) (by kernel_rfl) ?_
    refine mvI rfl rfl rfl ?_
    refine neq rfl rfl rfl rfl ?_
    refine rNil ?_
    refine qSeq rfl ?_
    refine hIfD rfl (fun c17 => ?_) (fun c17 => ?_)
    ·
     replace c17 : (((((Math.cntL nz (Math.kids (z.take i)))).drop 1)).getD j 0) ≠ 1 := c17
     rw [hcd, hall] at c17
     refine hSeq ?_
     refine hReg (sq 0 sz) (by kernel_rfl) ?_
     refine asB rfl rfl rfl ?_
     refine rNil ?_
     refine qSeq rfl ?_
     refine hRet ?_
     exact fun w hs => ⟨[.bool false], ⟨rfl, trivial⟩, ⟨bB (Math.isTree_no3 (Math.oneEach_no' lz (i := j + 1) (by omega) (by omega) (by omega))).symm, hs.upd⟩⟩
    ·
     replace c17 : ¬ ((((((Math.cntL nz (Math.kids (z.take i)))).drop 1)).getD j 0) ≠ 1) := c17
     rw [hcd, hall] at c17
     refine hSkip ?_
     refine qSeq rfl ?_
     refine hReg (sq 0 (sq 1 sz)) (by kernel_rfl) ?_
     refine add rfl rfl rfl rfl (by omega) ?_
     refine mvI rfl rfl rfl ?_
     refine rNil ?_
     exact qNext rfl (j + 1) (by omega) ⟨by omega, Math.upto hone (by omega)⟩ ⟨rfl, rfl, rfl, rfl, trivial⟩ (fun _ h => h.pick [0, 0])
   ·
    replace c16 : ¬ ((j : Int) < (((nz - 1) : Nat) : Int)) := c16
    refine hExit rfl ?_
    refine qSeq rfl ?_
    refine hSeq ?_
    refine hReg (sl 0 (sl 1 (sq 2 (sq 3 sz)))) (by kernel_rfl) ?_
    refine ldAl Tryd.isAgg26 Tryd.sizeOf26 (cBs 1 rfl) trv rfl rfl rfl rfl ?_
    refine callP (v := .int .i64 (Math.depth z 0)) Tryd.call54 trv rfl rfl (fun w hs => impl_depthFrom_c _ _ _ _ _ _ w (Kn.drop (k := 2) kz w hs) (by assumption) (by omega) (by omega)) ?_
    refine leq rfl rfl rfl rfl ?_
    refine asB rfl rfl rfl ?_
    refine rNil ?_
    refine qSeq rfl ?_
    refine hRet ?_
    exact fun w hs => ⟨[.bool (decide ((Math.depth z 0) ≤ 5))], ⟨rfl, trivial⟩, ⟨bB ((show _ = decide (Math.depth z 0 ≤ 5) from rfl).trans (Math.isTree_yes (by omega) hok (Math.oneEach_to lz hone (by omega))).symm), hs.upd⟩⟩
theorem spec_IsTree_c (az : Option Addr) (nz : Nat) (cz : Nat) (Hz : Nat → Hd) (z : List Nd) (w : World) (rz : RdR ndK az nz Hz z w) :
  Calls Tryd.prog 49 #[.agg #[.slice az nz cz]] w (Ret fun v w' => v = .bool (Math.isTree z) ∧ Ext w w') := by
 have kz : Kn w none_ [] (RdR ndK az nz Hz z) := fun w' hs => rz.ext hs.upd
 have lz : z.length = nz := rz.1
 have mz : nz ≤ 9223372036854775807 := rz.2.1
 refine fn (M := none_) (rs := [.tmp 2]) Tryd.func49 rfl Tryd.ntmps49 rfl rfl (Sep.start _ _) ?_
 refine hSeq ?_
 refine hReg (sl 0 (sq 1 sz)) (by kernel_rfl) ?_
 refine box trv1 rfl rfl rfl rfl (fun bkb1 hbkb1 => ?_)
 refine asB rfl rfl rfl ?_
 refine rNil ?_
 refine qSeq rfl ?_
 refine hSeq ?_
 refine hReg (sq 0 (sl 1 (sq 2 (sq 3 sz)))) (by kernel_rfl) ?_
 refine fld fl26_0 rfl rfl rfl ?_
 refine ldl Tryd.isAgg24 (cB 0 rfl rfl) trv rfl rfl rfl ?_
 refine lenS Tryd.runUnderlying24 rfl rfl rfl ?_
 refine asI rfl rfl rfl ?_
 refine rNil ?_
 refine qSeq rfl ?_
 refine hSeq ?_
 refine hSeq ?_
 refine hReg (sq 0 (sl 1 (sq 2 sz))) (by kernel_rfl) ?_
 refine mvI rfl rfl rfl ?_
 refine callP (v := .bool ((Math.inB (1 : Int) (60 : Int) (nz : Int)))) Tryd.call32 trv rfl rfl (fun w hs => spec_l01In_c _ _ _ w ) ?_
 refine not rfl rfl rfl ?_
 refine rNil ?_
 refine qSeq rfl ?_
 refine hIfN rfl (fun c1 => ?_) (fun c1 => ?_)
 ·
  replace c1 : (Math.inB (1 : Int) (60 : Int) (nz : Int)) = false := c1
  refine hSeq ?_
  refine hReg (sq 0 sz) (by kernel_rfl) ?_
  refine asB rfl rfl rfl ?_
  refine rNil ?_
  refine qSeq rfl ?_
  refine hRet ?_
  exact fun w hs => ⟨[.bool false], ⟨rfl, trivial⟩, ⟨bB (Math.isTree_no1 (by have := of_decide_eq_false (show decide (1 ≤ (nz : Int) ∧ (nz : Int) ≤ 60) = false from c1); omega)).symm, hs.upd⟩⟩
 ·
  replace c1 : (Math.inB (1 : Int) (60 : Int) (nz : Int)) = true := c1
  have hn := of_decide_eq_true (show decide (1 ≤ (nz : Int) ∧ (nz : Int) ≤ 60) = true from c1)
  refine hSkip ?_
  refine qSeq rfl ?_
  refine hSeq ?_
  refine hReg (sq 0 (sl 1 (sq 2 sz))) (by kernel_rfl) ?_
  refine mvI rfl rfl rfl ?_
  refine mksI nz mk50 trv1 rfl rfl rfl rfl (rfl) (by omega) (fun bkm2 hbkm2 => ?_)
  refine asS rfl rfl rfl ?_
  refine rNil ?_
  refine qSeq rfl ?_
  refine hSeq ?_
  refine hSeq ?_
  refine hReg (sq 0 sz) (by kernel_rfl) ?_
  refine asI rfl rfl rfl ?_
  refine rNil ?_
  refine qSeq rfl ?_
  refine hBlk ?_
  rw [Math.cntL_start nz z]
  refine hLoop (α := Nat) (fun i => i ≤ nz ∧ ∀ j, j < i → Math.okB nz j (z.getD j dN) = true) (fun i => nz - i) (fun i => [OwnI 2 (some ⟨bkm2, 0, none⟩) nz nz ((Math.cntL nz (Math.kids (z.take i)))), blk bkb1 26 [.slice az nz cz]]) (fun i => [(1, .pointer (some ⟨bkb1, 0, none⟩)), (3, .int .i64 (nz : Int)), (4, .slice (some ⟨bkm2, 0, none⟩) nz nz), (5, .int .i64 (i : Int))]) 0 ⟨Nat.zero_le _, fun j hj => by omega⟩ (fun _ h => h.pick [0, 0]) ⟨rfl, rfl, rfl, rfl, trivial⟩ ?_
  rintro i τ1 ⟨hi, hal⟩
  refine hSeq ?_
  refine hSeq ?_
  refine hReg (sq 0 (sq 1 (sq 2 sz))) (by kernel_rfl) ?_
  refine mvI rfl rfl rfl ?_
  refine mvI rfl rfl rfl ?_
  refine lss rfl rfl rfl rfl ?_
  refine rNil ?_
  refine qSeq rfl ?_
  refine hIfD rfl (fun c2 => ?_) (fun c2 => ?_)
  ·
   replace c2 : (i : Int) < (nz : Int) := c2
   refine hSkip ?_
   refine qSeq rfl ?_
   refine hSeq ?_
   refine hBlk ?_
   refine hSeq ?_
   refine hSeq ?_
   refine hReg (sl 0 (sq 1 (sl 2 (sq 3 sz)))) (by kernel_rfl) ?_
   refine ldAl Tryd.isAgg26 Tryd.sizeOf26 (cBs 1 rfl) trv rfl rfl rfl rfl ?_
   refine mvI rfl rfl rfl ?_
   refine callP (v := .bool ((Math.okB nz i (z.getD i dN)))) Tryd.call71 trv rfl rfl (fun w hs => spec_l20Node_c _ _ _ _ _ _ w (Kn.drop (k := 2) kz w hs) (by omega)) ?_
   refine not rfl rfl rfl ?_
   refine rNil ?_
   refine qSeq rfl ?_
   refine hIfN rfl (fun c3 => ?_) (fun c3 => ?_)
   ·
    replace c3 : (Math.okB nz i (z.getD i dN)) = false := c3
    have c3 : Math.okB nz i (z.getD i dN) = false := c3
    refine hSeq ?_
    refine hReg (sq 0 sz) (by kernel_rfl) ?_
    refine asB rfl rfl rfl ?_
    refine rNil ?_
    refine qSeq rfl ?_
    refine hRet ?_
    exact fun w hs => ⟨[.bool false], ⟨rfl, trivial⟩, ⟨bB (Math.isTree_no2 (Math.allOk_no' lz (i := i) (by omega) (by first | exact Math.no1 (by assumption) | exact Math.no2 (by assumption) | exact Math.no3 (by assumption) | exact Math.no4 (by assumption) (by assumption) | exact Math.no5 (by assumption) (by assumption) | exact Math.no6 (by assumption) (by assumption) (by assumption) | exact Math.no7 (by assumption) (by assumption) | exact Math.no8 (by assumption) (by assumption) | exact Math.no9 (by assumption) (by assumption) | exact Math.no10 (by assumption) (by assumption) | assumption))).symm, hs.upd⟩⟩
   ·
    replace c3 : (Math.okB nz i (z.getD i dN)) = true := c3
    have hnode : Math.okB nz i (z.getD i dN) = true := c3
    refine hSkip ?_
    refine qSeq rfl ?_
    refine hSeq ?_
    refine hReg (sq 0 sz) (by kernel_rfl) ?_
    refine asI rfl rfl rfl ?_
    refine rNil ?_
    refine qSeq rfl ?_
    refine hBlk ?_
    rw [show Math.cntL nz (Math.kids (z.take i)) = Math.cntL nz (Math.kids (z.take i) ++ (z.getD i dN).ch.take 0) from by simp]
    refine hLoop (α := Nat) (fun k => k ≤ (z.getD i dN).ch.length) (fun k => (z.getD i dN).ch.length - k) (fun k => [OwnI 2 (some ⟨bkm2, 0, none⟩) nz nz ((Math.cntL nz (Math.kids (z.take i) ++ (z.getD i dN).ch.take k))), blk bkb1 26 [.slice az nz cz]]) (fun k => [(1, .pointer (some ⟨bkb1, 0, none⟩)), (3, .int .i64 (nz : Int)), (4, .slice (some ⟨bkm2, 0, none⟩) nz nz), (5, .int .i64 (i : Int)), (6, .int .i64 (k : Int))]) 0 (Nat.zero_le _) (fun _ h => h.pick [0, 0]) ⟨rfl, rfl, rfl, rfl, rfl, trivial⟩ ?_
    rintro k τ2 hk
    refine hSeq ?_
    refine hSeq ?_
    refine hReg (sq 0 (sq 1 (sl 2 (sq 3 (sq 4 (sq 5 (sl 6 (sq 7 (sq 8 sz))))))))) (by kernel_rfl) ?_
    refine mvI rfl rfl rfl ?_
    refine fld fl26_0 rfl rfl rfl ?_
    refine ldl Tryd.isAgg24 (cB 1 rfl rfl) trv rfl rfl rfl ?_
    refine mvI rfl rfl rfl ?_
    refine ixRl (zn := i) (z.getD i dN) el24 (Kn.drop (k := 2) kz) rfl rfl rfl rfl (by omega) (by omega) rfl (nth dN (by omega)) ?_
    intro be1 oe1 e1
    refine fld fl52_4 rfl rfl rfl ?_
    refine ldl Tryd.isAgg50 (Kn.fld e1 4 rfl) trv rfl rfl rfl ?_
    refine lenS Tryd.runUnderlying50 rfl rfl rfl ?_
    refine lss rfl rfl rfl rfl ?_
    refine rNil ?_
    refine qSeq rfl ?_
    refine hIfD rfl (fun c4 => ?_) (fun c4 => ?_)
    ·
     replace c4 : (k : Int) < ((((z.getD i dN).ch).length : Nat) : Int) := c4
     have hkid := Math.cnt_kid lz hnode (by omega) (show k < (z.getD i dN).ch.length by omega)
     have hcb := Math.cnt_way (k := k) (c := ((z.getD i dN).ch.getD k 0).toNat) lz (by omega) (by omega) hal hnode
     have hch4 := (Math.ok_pl hnode).2.2.2.2.1
     refine hSkip ?_
     refine qSeq rfl ?_
     refine hSeq ?_
     refine hBlk ?_
     refine hReg (sq 0 (sq 1 (sl 2 (sq 3 (sq 4 (sq 5 (sl 6 (sq 7 (sq 8 (sl 9 (sq 10 (sl 11 (sq 12 (sq 13 (sl 14 sz))))))))))))))) (by kernel_rfl) ?_
     refine mvS rfl rfl rfl ?_
     refine fld fl26_0 rfl rfl rfl ?_
     refine ldl Tryd.isAgg24 (cB 1 rfl rfl) trv rfl rfl rfl ?_
     refine mvI rfl rfl rfl ?_
     refine ixRl (zn := i) (z.getD i dN) el24 (Kn.drop (k := 2) kz) rfl rfl rfl rfl (by omega) (by omega) rfl (nth dN (by omega)) ?_
     intro be2 oe2 e2
     refine fld fl52_4 rfl rfl rfl ?_
     refine ldl Tryd.isAgg50 (Kn.fld e2 4 rfl) trv rfl rfl rfl ?_
     refine mvI rfl rfl rfl ?_
     refine ixIl (zn := k) el50 (Kn.drop (k := 2) ((Kn.imp kz fun _ h => h.kidN (nth dN (by omega))))) rfl rfl rfl rfl (by omega) (by omega) rfl ?_
     intro ae3 e3
     refine ldl Tryd.isAgg2 (e3) trv rfl rfl rfl ?_
     refine ixIl (zn := ((((z.getD i dN).ch).getD k 0)).toNat) el50 ((Kn.at_ 0 rfl).imp fun _ h => OwnI.rd h) rfl rfl rfl rfl (by omega) (by omega) rfl ?_
     intro ae4 e4
     refine ldl Tryd.isAgg2 (e4) trv rfl rfl rfl ?_
     refine add rfl rfl rfl rfl (by omega) ?_
     refine oxI (zn := ((((z.getD i dN).ch).getD k 0)).toNat) 0 rfl el50 rfl rfl rfl rfl (by omega) (by omega) rfl ?_
     intro gk5 hgk5
     refine stoI (off := ((((z.getD i dN).ch).getD k 0)).toNat) (x := ((((Math.cntL nz (Math.kids (z.take i) ++ (z.getD i dN).ch.take k))).getD (((((z.getD i dN).ch).getD k 0)).toNat) 0) + 1)) 0 rfl hgk5 Tryd.sizeOf2 trv rfl rfl rfl rfl (by omega) ?_
     refine rNil ?_
     refine qSeq rfl ?_
     refine hReg (sq 0 (sq 1 (sq 2 sz))) (by kernel_rfl) ?_
     refine mvI rfl rfl rfl ?_
     refine add rfl rfl rfl rfl (by omega) ?_
     refine asI rfl rfl rfl ?_
     refine rNil ?_
     rw [hkid.2]
     exact qNext rfl (k + 1) (by omega) (by omega) ⟨rfl, rfl, rfl, rfl, rfl, trivial⟩ (fun _ h => h.pick [0, 0])
    ·
     replace c4 : ¬ ((k : Int) < ((((z.getD i dN).ch).length : Nat) : Int)) := c4
     refine hExit rfl ?_
     refine qSeq rfl ?_
     refine hReg (sq 0 (sq 1 (sq 2 sz))) (by kernel_rfl) ?_
     refine mvI rfl rfl rfl ?_
     refine add rfl rfl rfl rfl (by omega) ?_
     refine asI rfl rfl rfl ?_
     refine rNil ?_
     rw [show Math.kids (z.take i) ++ (z.getD i dN).ch.take k = Math.kids (z.take (i + 1)) from by rw [Math.kids_step (by omega), List.take_of_length_le (show (z.getD i dN).ch.length ≤ k by omega)]]
     exact qNext rfl (i + 1) (by omega) ⟨by omega, Math.upto hal hnode⟩ ⟨rfl, rfl, rfl, rfl, trivial⟩ (fun _ h => h.pick [0, 0])
  ·
   replace c2 : ¬ ((i : Int) < (nz : Int)) := c2
   have hok : Math.allOk z = true := (Math.allOk_iff' lz).2 fun j hj => hal j (by omega)
   have hall : z.take i = z := List.take_of_length_le (by omega)
   refine hExit rfl ?_
   refine qSeq rfl ?_
   refine hSeq ?_
   refine hSeq ?_
   refine hReg (sq 0 sz) (by kernel_rfl) ?_
   refine asI rfl rfl rfl ?_
   refine rNil ?_
   refine qSeq rfl ?_
   refine hBlk ?_
   refine hLoop (α := Nat) (fun j => j ≤ nz - 1 ∧ ∀ q, q < j → (Math.kids z).count ((q + 1 : Nat) : Int) = 1) (fun j => nz - j) (fun j => [OwnI 2 (some ⟨bkm2, 0, none⟩) nz nz ((Math.cntL nz (Math.kids (z.take i)))), blk bkb1 26 [.slice az nz cz]]) (fun j => [(1, .pointer (some ⟨bkb1, 0, none⟩)), (3, .int .i64 (nz : Int)), (4, .slice (some ⟨bkm2, 0, none⟩) nz nz), (7, .int .i64 (((j : Int) + 1)))]) 0 ⟨Nat.zero_le _, fun q hq => by omega⟩ (fun _ h => h.pick [0, 0]) ⟨rfl, rfl, rfl, rfl, trivial⟩ ?_
   rintro j τ3 ⟨hj, hone⟩
   refine hSeq ?_
   refine hSeq ?_
   refine hReg (sq 0 (sq 1 (sq 2 sz))) (by kernel_rfl) ?_
   refine mvI rfl rfl rfl ?_
   refine mvI rfl rfl rfl ?_
   refine lss rfl rfl rfl rfl ?_
   refine rNil ?_
   refine qSeq rfl ?_
   refine hIfD rfl (fun c5 => ?_) (fun c5 => ?_)
   ·
    replace c5 : ((j : Int) + 1) < (nz : Int) := c5
    have hcd := Math.cntL_get (l := Math.kids (z.take i)) (show j + 1 < nz by omega)
    refine hSkip ?_
    refine qSeq rfl ?_
    refine hSeq ?_
    refine hBlk ?_
    refine hSeq ?_
    refine hReg (sq 0 (sq 1 (sq 2 (sl 3 (sq 4 sz))))) (by kernel_rfl) ?_
    refine mvS rfl rfl rfl ?_
    refine mvI rfl rfl rfl ?_
    refine ixIl (zn := (j + 1)) el50 ((Kn.at_ 0 rfl).imp fun _ h => OwnI.rd h) rfl rfl rfl rfl (by omega) (by omega) rfl ?_
    intro ae6 e6
    refine ldl Tryd.isAgg2 (e6) trv rfl rfl rfl ?_
    refine neq rfl rfl rfl rfl ?_
    refine rNil ?_
    refine qSeq rfl ?_
    refine hIfD rfl (fun c6 => ?_) (fun c6 => ?_)
    ·
     replace c6 : (((Math.cntL nz (Math.kids (z.take i)))).getD (j + 1) 0) ≠ 1 := c6
     rw [hcd, hall] at c6
     refine hSeq ?_
     refine hReg (sq 0 sz) (by kernel_rfl) ?_
     refine asB rfl rfl rfl ?_
     refine rNil ?_
     refine qSeq rfl ?_
     refine hRet ?_
     exact fun w hs => ⟨[.bool false], ⟨rfl, trivial⟩, ⟨bB (Math.isTree_no3 (Math.oneEach_no' lz (i := j + 1) (by omega) (by omega) (by omega))).symm, hs.upd⟩⟩
    ·
     replace c6 : ¬ ((((Math.cntL nz (Math.kids (z.take i)))).getD (j + 1) 0) ≠ 1) := c6
     rw [hcd, hall] at c6
     refine hSkip ?_
     refine qSeq rfl ?_
     refine hReg (sq 0 (sq 1 (sq 2 sz))) (by kernel_rfl) ?_
     refine mvI rfl rfl rfl ?_
     refine add rfl rfl rfl rfl (by omega) ?_
     refine asI rfl rfl rfl ?_
     refine rNil ?_
     exact qNext rfl (j + 1) (by omega) ⟨by omega, Math.upto hone (by omega)⟩ ⟨rfl, rfl, rfl, rfl, trivial⟩ (fun _ h => h.pick [0, 0])
   ·
    replace c5 : ¬ (((j : Int) + 1) < (nz : Int)) := c5
    refine hExit rfl ?_
    refine qSeq rfl ?_
    refine hSeq ?_
    refine hReg (sl 0 (sl 1 (sq 2 (sq 3 sz)))) (by kernel_rfl) ?_
    refine ldAl Tryd.isAgg26 Tryd.sizeOf26 (cBs 1 rfl) trv rfl rfl rfl rfl ?_
    refine callP (v := .int .i64 (Math.depth z 0)) Tryd.call72 trv rfl rfl (fun w hs => spec_l20Depth_c _ _ _ _ _ _ w (Kn.drop (k := 2) kz w hs) (by assumption) (by omega) (by omega)) ?_
    refine leq rfl rfl rfl rfl ?_
    refine asB rfl rfl rfl ?_
    refine rNil ?_
    refine qSeq rfl ?_
    refine hRet ?_
    exact fun w hs => ⟨[.bool (decide ((Math.depth z 0) ≤ 5))], ⟨rfl, trivial⟩, ⟨bB ((show _ = decide (Math.depth z 0 ≤ 5) from rfl).trans (Math.isTree_yes (by omega) hok (Math.oneEach_to lz hone (by omega))).symm), hs.upd⟩⟩
theorem impl_nodesOf_c (az : Option Addr) (nz : Nat) (cz : Nat) (Hz : Nat → Hd) (z : List Nd) (p : Int) (w : World) (rz : RdR ndK az nz Hz z w) (hn : nz ≤ 1000) :
  Calls Tryd.prog 63 #[.agg #[.slice az nz cz], .int .i64 p] w (Ret fun v w' => ∃ x : Option Addr × Nat × Nat × List Int, v = .slice x.1 x.2.1 x.2.2.1 ∧ (x.2.2.2 = Math.nodesOf z p) ∧ Sep w none_ [OwnI 2 x.1 x.2.1 x.2.2.1 x.2.2.2] w') := by
 have kz : Kn w none_ [] (RdR ndK az nz Hz z) := fun w' hs => rz.ext hs.upd
 have lz : z.length = nz := rz.1
 have mz : nz ≤ 9223372036854775807 := rz.2.1
 refine fn (M := none_) (rs := [.tmp 4]) Tryd.func63 rfl Tryd.ntmps63 rfl rfl (Sep.start _ _) ?_
 refine hSeq ?_
 refine hReg (sl 0 (sq 1 sz)) (by kernel_rfl) ?_
 refine box trv1 rfl rfl rfl rfl (fun bkb1 hbkb1 => ?_)
 refine asS rfl rfl rfl ?_
 refine rNil ?_
 refine qSeq rfl ?_
 refine hSeq ?_
 refine hReg (sq 0 sz) (by kernel_rfl) ?_
 refine asS rfl rfl rfl ?_
 refine rNil ?_
 refine qSeq rfl ?_
 refine hSeq ?_
 refine hSeq ?_
 refine hReg (sq 0 (sl 1 (sq 2 (sq 3 sz)))) (by kernel_rfl) ?_
 refine fld fl26_0 rfl rfl rfl ?_
 refine ldl Tryd.isAgg24 (cB 0 rfl rfl) trv rfl rfl rfl ?_
 refine lenS Tryd.runUnderlying24 rfl rfl rfl ?_
 refine mvI rfl rfl rfl ?_
 refine rNil ?_
 refine qSeq rfl ?_
 refine hBlk ?_
 refine hPieces (fun _ h => Sep.nilI 2 h) ?_
 refine hLoop (α := Nat × Nat × Option Addr × Nat) (fun x => x.1 ≤ nz ∧ x.2.1 ≤ x.1) (fun x => nz - x.1) (fun x => [OwnI 2 x.2.2.1 x.2.1 x.2.2.2 (Math.nodesTo z p x.1), blk bkb1 26 [.slice az nz cz]]) (fun x => [(1, .int .i64 p), (5, .slice x.2.2.1 x.2.1 x.2.2.2), (9, .slice az nz cz), (10, .int .i64 (nz : Int)), (11, .int .i64 (x.1 : Int))]) (0, 0, none, 0) ⟨Nat.zero_le _, Nat.zero_le _⟩ (fun _ h => h.pick [0, 0]) ⟨rfl, rfl, rfl, rfl, rfl, trivial⟩ ?_
 rintro ⟨i, q, hd⟩ τ1 ⟨hi, hq⟩
 dsimp only at hi hq
 refine hRe [(1, .int .i64 p), (5, .slice hd.1 q hd.2), (9, .slice az nz cz), (10, .int .i64 (nz : Int)), (11, .int .i64 (i : Int))] [OwnI 2 hd.1 q hd.2 (Math.nodesTo z p i), blk bkb1 26 [.slice az nz cz]] rfl rfl ?_
 refine hSeq ?_
 refine hReg (sq 0 sz) (by kernel_rfl) ?_
 refine lss rfl rfl rfl rfl ?_
 refine rNil ?_
 refine qSeq rfl ?_
 refine hSeq ?_
 refine hIfD rfl (fun c1 => ?_) (fun c1 => ?_)
 ·
  replace c1 : (i : Int) < (nz : Int) := c1
  refine hSkip ?_
  refine qSeq rfl ?_
  refine hSeq ?_
  refine hBlk ?_
  refine hSeq ?_
  refine hReg (sq 0 (sq 1 (sl 2 (sl 3 (sq 4 (sl 5 sz)))))) (by kernel_rfl) ?_
  refine mvI rfl rfl rfl ?_
  refine ixRl (zn := i) (z.getD i dN) el24 (Kn.drop (k := 2) kz) rfl rfl rfl rfl (by omega) (by omega) rfl (nth dN (by omega)) ?_
  intro be1 oe1 e1
  refine ldAl Tryd.isAgg52 Tryd.sizeOf52 (e1) trv rfl rfl rfl rfl ?_
  refine alc Tryd.zeroValue52 rfl trv1 rfl rfl (fun bka3 hbka3 => ?_)
  refine asI rfl rfl rfl ?_
  refine stAl (vs := [.int .i64 ((z.getD i dN).pl), .int .i64 ((z.getD i dN).p0), .int .i64 ((z.getD i dN).p1), .int .i64 ((z.getD i dN).fo), .slice ((Hz i).1) (((z.getD i dN).ch).length) ((Hz i).2)]) 0 rfl Tryd.sizeOf52 trv rfl rfl rfl rfl rfl (by simp [Value.oneCell']) rfl ?_
  refine rNil ?_
  refine qSeq rfl ?_
  refine hSeq ?_
  refine hReg (sq 0 (sl 1 (sq 2 (sq 3 sz)))) (by kernel_rfl) ?_
  refine fld fl52_0 rfl rfl rfl ?_
  refine ldl Tryd.isAgg2 (cB 0 rfl rfl) trv rfl rfl rfl ?_
  refine mvI rfl rfl rfl ?_
  refine eql rfl rfl rfl rfl ?_
  refine rNil ?_
  refine qSeq rfl ?_
  refine hIfD rfl (fun c2 => ?_) (fun c2 => ?_)
  ·
   replace c2 : (z.getD i dN).pl = p := c2
   refine hReg (sq 0 (sq 1 (sl 2 (sl 3 (sq 4 sz))))) (by kernel_rfl) ?_
   refine mvS rfl rfl rfl ?_
   refine mvI rfl rfl rfl ?_
   refine bsl trv1 rfl rfl rfl (bsl50_1 (.int .i64 _) rfl) (fun bkl4 hbkl4 => ?_)
   refine aplI (N := q) (x := (i : Int)) 2 0 rfl rfl mk50 trv1 rfl rfl rfl rfl (by omega) ?_
   intro aq2 cq2
   refine asS rfl rfl rfl ?_
   refine rNil ?_
   refine qSeq rfl ?_
   refine hReg (sq 0 (sq 1 sz)) (by kernel_rfl) ?_
   refine add rfl rfl rfl rfl (by omega) ?_
   refine mvI rfl rfl rfl ?_
   refine rNil ?_
   rw [← Math.nodesTo_yes c2]
   exact qNext rfl (i + 1, q + 1, aq2, cq2) (by dsimp only; omega) ⟨by dsimp only; omega, by dsimp only; omega⟩ ⟨rfl, rfl, rfl, rfl, rfl, trivial⟩ (fun _ h => h.pick [2, 2])
  ·
   replace c2 : ¬ ((z.getD i dN).pl = p) := c2
   refine hSkip ?_
   refine qSeq rfl ?_
   refine hReg (sq 0 (sq 1 sz)) (by kernel_rfl) ?_
   refine add rfl rfl rfl rfl (by omega) ?_
   refine mvI rfl rfl rfl ?_
   refine rNil ?_
   rw [← Math.nodesTo_no c2]
   exact qNext rfl (i + 1, q, hd) (by dsimp only; omega) ⟨by dsimp only; omega, by dsimp only; omega⟩ ⟨rfl, rfl, rfl, rfl, rfl, trivial⟩ (fun _ h => h.pick [1, 1])
 ·
  replace c1 : ¬ ((i : Int) < (nz : Int)) := c1
  refine hExit rfl ?_
  refine qSeq rfl ?_
  refine hSeq ?_
  refine hReg (sq 0 (sq 1 sz)) (by kernel_rfl) ?_
  refine mvS rfl rfl rfl ?_
  refine asS rfl rfl rfl ?_
  refine rNil ?_
  refine qSeq rfl ?_
  refine hRet ?_
  exact fun w hs => ⟨[.slice hd.1 q hd.2], ⟨rfl, trivial⟩, ⟨(hd.1, q, hd.2, (Math.nodesTo z p i)), rfl, Math.nodesTo_all lz (by omega), hs.pick [0]⟩⟩
theorem spec_l20Of_c (az : Option Addr) (nz : Nat) (cz : Nat) (Hz : Nat → Hd) (z : List Nd) (p : Int) (w : World) (rz : RdR ndK az nz Hz z w) (hn : nz ≤ 1000) :
  Calls Tryd.prog 67 #[.agg #[.slice az nz cz], .int .i64 p] w (Ret fun v w' => ∃ x : Option Addr × Nat × Nat × List Int, v = .slice x.1 x.2.1 x.2.2.1 ∧ (x.2.2.2 = Math.nodesOf z p) ∧ Sep w none_ [OwnI 2 x.1 x.2.1 x.2.2.1 x.2.2.2] w') := by
 have kz : Kn w none_ [] (RdR ndK az nz Hz z) := fun w' hs => rz.ext hs.upd
 have lz : z.length = nz := rz.1
 have mz : nz ≤ 9223372036854775807 := rz.2.1
 refine fn (M := none_) (rs := [.tmp 4]) Tryd.func67 rfl Tryd.ntmps67 rfl rfl (Sep.start _ _) ?_
 refine hSeq ?_
 refine hReg (sl 0 (sq 1 sz)) (by kernel_rfl) ?_
 refine box trv1 rfl rfl rfl rfl (fun bkb1 hbkb1 => ?_)
 refine asS rfl rfl rfl ?_
 refine rNil ?_
 refine qSeq rfl ?_
 refine hSeq ?_
 refine hReg (sl 0 (sq 1 sz)) (by kernel_rfl) ?_
 refine bsl trv1 rfl rfl rfl (bsl50_0) (fun bkl2 hbkl2 => ?_)
 refine asS rfl rfl rfl ?_
 refine rNil ?_
 refine qSeq rfl ?_
 refine hSeq ?_
 refine hSeq ?_
 refine hReg (sq 0 sz) (by kernel_rfl) ?_
 refine asI rfl rfl rfl ?_
 refine rNil ?_
 refine qSeq rfl ?_
 refine hBlk ?_
 refine hPieces (fun _ h => Sep.litI h 0 [] rfl rfl rfl) ?_
 refine hLoop (α := Nat × Nat × Option Addr × Nat) (fun x => x.1 ≤ nz ∧ x.2.1 ≤ x.1) (fun x => nz - x.1) (fun x => [OwnI 2 x.2.2.1 x.2.1 x.2.2.2 (Math.nodesTo z p x.1), blk bkb1 26 [.slice az nz cz]]) (fun x => [(1, .int .i64 p), (2, .pointer (some ⟨bkb1, 0, none⟩)), (5, .slice x.2.2.1 x.2.1 x.2.2.2), (6, .int .i64 (x.1 : Int))]) ((0, 0, (some ⟨bkl2, 0, none⟩), 0)) ⟨Nat.zero_le _, Nat.zero_le _⟩ (fun _ h => h.pick [0, 0]) ⟨rfl, rfl, rfl, rfl, trivial⟩ ?_
 rintro ⟨i, q, hd⟩ τ1 ⟨hi, hq⟩
 dsimp only at hi hq
 refine hRe [(1, .int .i64 p), (2, .pointer (some ⟨bkb1, 0, none⟩)), (5, .slice hd.1 q hd.2), (6, .int .i64 (i : Int))] [OwnI 2 hd.1 q hd.2 (Math.nodesTo z p i), blk bkb1 26 [.slice az nz cz]] rfl rfl ?_
 refine hSeq ?_
 refine hSeq ?_
 refine hReg (sq 0 (sq 1 (sl 2 (sq 3 (sq 4 sz))))) (by kernel_rfl) ?_
 refine mvI rfl rfl rfl ?_
 refine fld fl26_0 rfl rfl rfl ?_
 refine ldl Tryd.isAgg24 (cB 1 rfl rfl) trv rfl rfl rfl ?_
 refine lenS Tryd.runUnderlying24 rfl rfl rfl ?_
 refine lss rfl rfl rfl rfl ?_
 refine rNil ?_
 refine qSeq rfl ?_
 refine hIfD rfl (fun c1 => ?_) (fun c1 => ?_)
 ·
  replace c1 : (i : Int) < (nz : Int) := c1
  refine hSkip ?_
  refine qSeq rfl ?_
  refine hSeq ?_
  refine hBlk ?_
  refine hSeq ?_
  refine hReg (sq 0 (sl 1 (sq 2 (sq 3 (sq 4 (sl 5 (sq 6 (sq 7 sz)))))))) (by kernel_rfl) ?_
  refine fld fl26_0 rfl rfl rfl ?_
  refine ldl Tryd.isAgg24 (cB 1 rfl rfl) trv rfl rfl rfl ?_
  refine mvI rfl rfl rfl ?_
  refine ixRl (zn := i) (z.getD i dN) el24 (Kn.drop (k := 2) kz) rfl rfl rfl rfl (by omega) (by omega) rfl (nth dN (by omega)) ?_
  intro be1 oe1 e1
  refine fld fl52_0 rfl rfl rfl ?_
  refine ldl Tryd.isAgg2 (Kn.fld e1 0 rfl) trv rfl rfl rfl ?_
  refine mvI rfl rfl rfl ?_
  refine eql rfl rfl rfl rfl ?_
  refine rNil ?_
  refine qSeq rfl ?_
  refine hIfD rfl (fun c2 => ?_) (fun c2 => ?_)
  ·
   replace c2 : (z.getD i dN).pl = p := c2
   refine hReg (sq 0 (sq 1 (sl 2 (sl 3 (sq 4 sz))))) (by kernel_rfl) ?_
   refine mvS rfl rfl rfl ?_
   refine mvI rfl rfl rfl ?_
   refine bsl trv1 rfl rfl rfl (bsl50_1 (.int .i64 _) rfl) (fun bkl3 hbkl3 => ?_)
   refine aplI (N := q) (x := (i : Int)) 1 0 rfl rfl mk50 trv1 rfl rfl rfl rfl (by omega) ?_
   intro aq2 cq2
   refine asS rfl rfl rfl ?_
   refine rNil ?_
   refine qSeq rfl ?_
   refine hReg (sq 0 (sq 1 (sq 2 sz))) (by kernel_rfl) ?_
   refine mvI rfl rfl rfl ?_
   refine add rfl rfl rfl rfl (by omega) ?_
   refine asI rfl rfl rfl ?_
   refine rNil ?_
   rw [← Math.nodesTo_yes c2]
   exact qNext rfl (i + 1, q + 1, aq2, cq2) (by dsimp only; omega) ⟨by dsimp only; omega, by dsimp only; omega⟩ ⟨rfl, rfl, rfl, rfl, trivial⟩ (fun _ h => h.pick [1, 1])
  ·
   replace c2 : ¬ ((z.getD i dN).pl = p) := c2
   refine hSkip ?_
   refine qSeq rfl ?_
   refine hReg (sq 0 (sq 1 (sq 2 sz))) (by kernel_rfl) ?_
   refine mvI rfl rfl rfl ?_
   refine add rfl rfl rfl rfl (by omega) ?_
   refine asI rfl rfl rfl ?_
   refine rNil ?_
   rw [← Math.nodesTo_no c2]
   exact qNext rfl (i + 1, q, hd) (by dsimp only; omega) ⟨by dsimp only; omega, by dsimp only; omega⟩ ⟨rfl, rfl, rfl, rfl, trivial⟩ (fun _ h => h.pick [0, 0])
 ·
  replace c1 : ¬ ((i : Int) < (nz : Int)) := c1
  refine hExit rfl ?_
  refine qSeq rfl ?_
  refine hSeq ?_
  refine hReg (sq 0 (sq 1 sz)) (by kernel_rfl) ?_
  refine mvS rfl rfl rfl ?_
  refine asS rfl rfl rfl ?_
  refine rNil ?_
  refine qSeq rfl ?_
  refine hRet ?_
  exact fun w hs => ⟨[.slice hd.1 q hd.2], ⟨rfl, trivial⟩, ⟨(hd.1, q, hd.2, (Math.nodesTo z p i)), rfl, Math.nodesTo_all lz (by omega), hs.pick [0]⟩⟩
end Go.Proofs.YtjengglpbdgmnaaDoor
