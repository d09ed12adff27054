/- Contracts of what the laws do with lists. Their conditions stand in each. -/
import Derived.Test.YtgnfffdenbiipaaDoorZ2St
import Derived.Test.YtgnfffdenbiipaaDoorZ1St
import Derived.Test.YtgnfffdenbiipaaDoorRows
namespace Go.Proofs.YtgnfffdenbiipaaDoor
open Go Go.RowKit V
set_option linter.unusedVariables false
set_option linter.unusedSimpArgs false
set_option maxRecDepth 100000
theorem fl24_0 : Fld Tryd.prog 24 0 0 := by
 intro w ad; simp [Instr.fieldAt, Tryd.runUnderlying24, Instr.sureAddr, fieldPlace, Tryd.sizeOf22]
theorem fl30_0 : Fld Tryd.prog 30 0 0 := by
 intro w ad; simp [Instr.fieldAt, Tryd.runUnderlying30, Instr.sureAddr, fieldPlace, Tryd.sizeOf28]
theorem fl36_0 : Fld Tryd.prog 36 0 0 := by
 intro w ad; simp [Instr.fieldAt, Tryd.runUnderlying36, Instr.sureAddr, fieldPlace, Tryd.sizeOf24]
theorem fl36_1 : Fld Tryd.prog 36 1 1 := by
 intro w ad; simp [Instr.fieldAt, Tryd.runUnderlying36, Instr.sureAddr, fieldPlace, Tryd.sizeOf34]
theorem fl36_2 : Fld Tryd.prog 36 2 2 := by
 intro w ad; simp [Instr.fieldAt, Tryd.runUnderlying36, Instr.sureAddr, fieldPlace, Tryd.sizeOf34]
theorem fl38_0 : Fld Tryd.prog 38 0 0 := by
 intro w ad; simp [Instr.fieldAt, Tryd.runUnderlying38, Instr.sureAddr, fieldPlace, Tryd.sizeOf2]
theorem fl38_1 : Fld Tryd.prog 38 1 1 := by
 intro w ad; simp [Instr.fieldAt, Tryd.runUnderlying38, Instr.sureAddr, fieldPlace, Tryd.sizeOf34]
theorem fl43_0 : Fld Tryd.prog 43 0 0 := by
 intro w ad; simp [Instr.fieldAt, Tryd.runUnderlying43, Instr.sureAddr, fieldPlace, Tryd.sizeOf30]
theorem fl43_1 : Fld Tryd.prog 43 1 1 := by
 intro w ad; simp [Instr.fieldAt, Tryd.runUnderlying43, Instr.sureAddr, fieldPlace, Tryd.sizeOf34]
theorem fl43_2 : Fld Tryd.prog 43 2 2 := by
 intro w ad; simp [Instr.fieldAt, Tryd.runUnderlying43, Instr.sureAddr, fieldPlace, Tryd.sizeOf34]
theorem fl45_0 : Fld Tryd.prog 45 0 0 := by
 intro w ad; simp [Instr.fieldAt, Tryd.runUnderlying45, Instr.sureAddr, fieldPlace, Tryd.sizeOf2]
theorem fl45_1 : Fld Tryd.prog 45 1 1 := by
 intro w ad; simp [Instr.fieldAt, Tryd.runUnderlying45, Instr.sureAddr, fieldPlace, Tryd.sizeOf34]
theorem fl75_0 : Fld Tryd.prog 75 0 0 := by
 intro w ad; simp [Instr.fieldAt, Tryd.runUnderlying75, Instr.sureAddr, fieldPlace, Tryd.sizeOf2]
theorem fl75_1 : Fld Tryd.prog 75 1 1 := by
 intro w ad; simp [Instr.fieldAt, Tryd.runUnderlying75, Instr.sureAddr, fieldPlace, Tryd.sizeOf2]
theorem fl75_2 : Fld Tryd.prog 75 2 2 := by
 intro w ad; simp [Instr.fieldAt, Tryd.runUnderlying75, Instr.sureAddr, fieldPlace, Tryd.sizeOf2]
theorem fl75_3 : Fld Tryd.prog 75 3 3 := by
 intro w ad; simp [Instr.fieldAt, Tryd.runUnderlying75, Instr.sureAddr, fieldPlace, Tryd.sizeOf2]
theorem fl75_4 : Fld Tryd.prog 75 4 4 := by
 intro w ad; simp [Instr.fieldAt, Tryd.runUnderlying75, Instr.sureAddr, fieldPlace, Tryd.sizeOf59]
theorem fl78_0 : Fld Tryd.prog 78 0 0 := by
 intro w ad; simp [Instr.fieldAt, Tryd.runUnderlying78, Instr.sureAddr, fieldPlace, Tryd.sizeOf2]
theorem fl78_1 : Fld Tryd.prog 78 1 1 := by
 intro w ad; simp [Instr.fieldAt, Tryd.runUnderlying78, Instr.sureAddr, fieldPlace, Tryd.sizeOf2]
theorem fl78_2 : Fld Tryd.prog 78 2 2 := by
 intro w ad; simp [Instr.fieldAt, Tryd.runUnderlying78, Instr.sureAddr, fieldPlace, Tryd.sizeOf2]
theorem fl78_3 : Fld Tryd.prog 78 3 3 := by
 intro w ad; simp [Instr.fieldAt, Tryd.runUnderlying78, Instr.sureAddr, fieldPlace, Tryd.sizeOf2]
theorem fl78_4 : Fld Tryd.prog 78 4 4 := by
 intro w ad; simp [Instr.fieldAt, Tryd.runUnderlying78, Instr.sureAddr, fieldPlace, Tryd.sizeOf59]
theorem mk28 : Mk Tryd.prog 28 78 5 56 [.int .i64 0, .int .i64 0, .int .i64 0, .int .i64 0, .slice none 0 0] := ⟨Tryd.underlying28, Tryd.t78, _, by kernel_rfl, rfl, rfl, rfl, rfl, rfl, by decide, by decide⟩
theorem mk34 : Mk Tryd.prog 34 59 1 24 [.slice none 0 0] := ⟨Tryd.underlying34, Tryd.t59, _, by kernel_rfl, rfl, rfl, rfl, rfl, rfl, by decide, by decide⟩
theorem mk59 : Mk Tryd.prog 59 2 1 8 [.int .i64 0] := ⟨Tryd.underlying59, Tryd.t2, _, by kernel_rfl, rfl, rfl, rfl, rfl, rfl, by decide, by decide⟩
theorem el22 : Elt Tryd.prog 22 5 := ⟨75, Tryd.runUnderlying22, Tryd.sizeOf75⟩
theorem el28 : Elt Tryd.prog 28 5 := ⟨78, Tryd.runUnderlying28, Tryd.sizeOf78⟩
theorem el34 : Elt Tryd.prog 34 1 := ⟨59, Tryd.runUnderlying34, Tryd.sizeOf59⟩
theorem el59 : Elt Tryd.prog 59 1 := ⟨2, Tryd.runUnderlying59, Tryd.sizeOf2⟩
theorem impl_within_c (n : Int) (lo : Int) (hi : Int) (w : World) :
  Calls Tryd.prog 42 #[.int .i64 n, .int .i64 lo, .int .i64 hi] w (Ret fun v w' => v = .bool (decide (lo ≤ n ∧ n ≤ hi)) ∧ Ext w w') := by
 refine fn (M := none_) (rs := [.tmp 6]) Tryd.func42 rfl Tryd.ntmps42 rfl rfl (Sep.start _ _) ?_
 refine hSeq ?_
 refine hReg (sq 0 sz) (by kernel_rfl) ?_
 refine asB rfl rfl rfl ?_
 refine rNil ?_
 refine qSeq rfl ?_
 refine hSeq ?_
 refine hReg (sq 0 (sq 1 (sq 2 (sq 3 (sq 4 (sq 5 (sq 6 (sq 7 (sq 8 sz))))))))) (by kernel_rfl) ?_
 refine mvI rfl rfl rfl ?_
 refine mvI rfl rfl rfl ?_
 refine geq rfl rfl rfl rfl ?_
 refine mvB rfl rfl rfl ?_
 refine rBoolD (d := 10) rfl (fun g1 => ?_) (fun g1 => ?_)
 ·
  replace g1 : lo ≤ n := g1
  refine mvI rfl rfl rfl ?_
  refine mvI rfl rfl rfl ?_
  refine leq rfl rfl rfl rfl ?_
  refine pickB rfl rfl rfl rfl ?_
  refine asB rfl rfl rfl ?_
  refine rNil ?_
  refine qSeq rfl ?_
  refine hRet ?_
  exact fun w hs => ⟨[.bool (decide (n ≤ hi))], ⟨rfl, trivial⟩, ⟨by first | rfl | exact bD (by omega) | exact bT (by omega) | exact bF (by omega) | exact vI (by omega), hs.upd⟩⟩
 ·
  replace g1 : ¬ (lo ≤ n) := g1
  refine rSkipQ rfl rfl ?_
  refine rSkipQ rfl rfl ?_
  refine rSkipQ rfl rfl ?_
  refine pickB rfl rfl rfl rfl ?_
  refine asB rfl rfl rfl ?_
  refine rNil ?_
  refine qSeq rfl ?_
  refine hRet ?_
  exact fun w hs => ⟨[.bool false], ⟨rfl, trivial⟩, ⟨by first | rfl | exact bD (by omega) | exact bT (by omega) | exact bF (by omega) | exact vI (by omega), hs.upd⟩⟩
theorem spec_l01In_c (n : Int) (lo : Int) (hi : Int) (w : World) :
  Calls Tryd.prog 38 #[.int .i64 n, .int .i64 lo, .int .i64 hi] w (Ret fun v w' => v = .bool (decide (lo ≤ n ∧ n ≤ hi)) ∧ Ext w w') := by
 refine fn (M := none_) (rs := [.tmp 6]) Tryd.func38 rfl Tryd.ntmps38 rfl rfl (Sep.start _ _) ?_
 refine hSeq ?_
 refine hReg (sq 0 sz) (by kernel_rfl) ?_
 refine asB rfl rfl rfl ?_
 refine rNil ?_
 refine qSeq rfl ?_
 refine hSeq ?_
 refine hReg (sq 0 (sq 1 (sq 2 (sq 3 (sq 4 (sq 5 (sq 6 (sq 7 (sq 8 sz))))))))) (by kernel_rfl) ?_
 refine mvI rfl rfl rfl ?_
 refine mvI rfl rfl rfl ?_
 refine geq rfl rfl rfl rfl ?_
 refine mvB rfl rfl rfl ?_
 refine rBoolD (d := 10) rfl (fun g1 => ?_) (fun g1 => ?_)
 ·
  replace g1 : lo ≤ n := g1
  refine mvI rfl rfl rfl ?_
  refine mvI rfl rfl rfl ?_
  refine leq rfl rfl rfl rfl ?_
  refine pickB rfl rfl rfl rfl ?_
  refine asB rfl rfl rfl ?_
  refine rNil ?_
  refine qSeq rfl ?_
  refine hRet ?_
  exact fun w hs => ⟨[.bool (decide (n ≤ hi))], ⟨rfl, trivial⟩, ⟨by first | rfl | exact bD (by omega) | exact bT (by omega) | exact bF (by omega) | exact vI (by omega), hs.upd⟩⟩
 ·
  replace g1 : ¬ (lo ≤ n) := g1
  refine rSkipQ rfl rfl ?_
  refine rSkipQ rfl rfl ?_
  refine rSkipQ rfl rfl ?_
  refine pickB rfl rfl rfl rfl ?_
  refine asB rfl rfl rfl ?_
  refine rNil ?_
  refine qSeq rfl ?_
  refine hRet ?_
  exact fun w hs => ⟨[.bool false], ⟨rfl, trivial⟩, ⟨by first | rfl | exact bD (by omega) | exact bT (by omega) | exact bF (by omega) | exact vI (by omega), hs.upd⟩⟩
theorem laws_szInt64S_c (az : Option Addr) (nz : Nat) (cz : Nat) (z : List Int) (left : Int) (w : World) (rz : RdI az nz z w) (hl : 0 ≤ left ∧ left ≤ 1048576) :
  Calls Tryd.prog 48 #[.slice az nz cz, .int .i64 left] w (Ret fun v w' => v = .int .i64 ((Math.cut left (z.length : Int))) ∧ Ext w w') := by
 have kz : Kn w none_ [] (RdI az nz z) := fun w' hs => rz.ext hs.upd
 have lz : z.length = nz := rz.1
 have mz : nz ≤ 9223372036854775807 := rz.2.1
 refine fn (M := none_) (rs := [.tmp 4]) Tryd.func48 rfl Tryd.ntmps48 rfl rfl (Sep.start _ _) ?_
 refine hSeq ?_
 refine hReg (sq 0 sz) (by kernel_rfl) ?_
 refine asI rfl rfl rfl ?_
 refine rNil ?_
 refine qSeq rfl ?_
 refine hSeq ?_
 refine hReg (sq 0 (sq 1 (sq 2 (sq 3 (sq 4 sz))))) (by kernel_rfl) ?_
 refine mvI rfl rfl rfl ?_
 refine mvS rfl rfl rfl ?_
 refine lenS Tryd.runUnderlying59 rfl rfl rfl ?_
 refine sub rfl rfl rfl rfl (by omega) ?_
 refine asI rfl rfl rfl ?_
 refine rNil ?_
 refine qSeq rfl ?_
 refine hSeq ?_
 refine hSeq ?_
 refine hReg (sq 0 (sq 1 sz)) (by kernel_rfl) ?_
 refine mvI rfl rfl rfl ?_
 refine lss rfl rfl rfl rfl ?_
 refine rNil ?_
 refine qSeq rfl ?_
 refine hIfD rfl (fun c1 => ?_) (fun c1 => ?_)
 ·
  replace c1 : (left - (nz : Int)) < 0 := c1
  refine hSeq ?_
  refine hReg (sq 0 sz) (by kernel_rfl) ?_
  refine asI rfl rfl rfl ?_
  refine rNil ?_
  refine qSeq rfl ?_
  refine hRet ?_
  exact fun w hs => ⟨[.int .i64 (-1)], ⟨rfl, trivial⟩, ⟨by first | rfl | exact vI (by rw [Math.cut_no (by omega)]) | exact vI (by rw [Math.cut_yes (by omega)]; omega), hs.upd⟩⟩
 ·
  replace c1 : ¬ ((left - (nz : Int)) < 0) := c1
  refine hSkip ?_
  refine qSeq rfl ?_
  refine hSeq ?_
  refine hReg (sq 0 (sq 1 sz)) (by kernel_rfl) ?_
  refine mvI rfl rfl rfl ?_
  refine asI rfl rfl rfl ?_
  refine rNil ?_
  refine qSeq rfl ?_
  refine hRet ?_
  exact fun w hs => ⟨[.int .i64 ((left - (nz : Int)))], ⟨rfl, trivial⟩, ⟨by first | rfl | exact vI (by rw [Math.cut_no (by omega)]) | exact vI (by rw [Math.cut_yes (by omega)]; omega), hs.upd⟩⟩
theorem laws_toInt64S_c (az : Option Addr) (nz : Nat) (cz : Nat) (z : List Int) (w : World) (rz : RdI az nz z w) (hz : z.length ≤ 1048576) :
  Calls Tryd.prog 52 #[.slice az nz cz] w (Ret fun v w' => ∃ x : Option Addr × Nat × Nat × List Int, v = .slice x.1 x.2.1 x.2.2.1 ∧ (x.2.2.2 = z) ∧ Sep w none_ [OwnI 2 x.1 x.2.1 x.2.2.1 x.2.2.2] w') := by
 have kz : Kn w none_ [] (RdI az nz z) := fun w' hs => rz.ext hs.upd
 have lz : z.length = nz := rz.1
 have mz : nz ≤ 9223372036854775807 := rz.2.1
 refine fn (M := none_) (rs := [.tmp 2]) Tryd.func52 rfl Tryd.ntmps52 rfl rfl (Sep.start _ _) ?_
 refine hSeq ?_
 refine hReg (sq 0 sz) (by kernel_rfl) ?_
 refine asS rfl rfl rfl ?_
 refine rNil ?_
 refine qSeq rfl ?_
 refine hSeq ?_
 refine hReg (sq 0 (sq 1 (sl 2 (sq 3 sz)))) (by kernel_rfl) ?_
 refine mvS rfl rfl rfl ?_
 refine lenS Tryd.runUnderlying59 rfl rfl rfl ?_
 refine mksI nz mk59 trv1 rfl rfl rfl rfl (rfl) (by omega) (fun bkm1 hbkm1 => ?_)
 refine asS rfl rfl rfl ?_
 refine rNil ?_
 refine qSeq rfl ?_
 refine hSeq ?_
 refine hSeq ?_
 refine hReg (sq 0 sz) (by kernel_rfl) ?_
 refine asI rfl rfl rfl ?_
 refine rNil ?_
 refine qSeq rfl ?_
 refine hBlk ?_
 rw [Math.fill_start z nz 0]
 refine hLoop (α := Nat) (fun i => i ≤ nz) (fun i => nz - i) (fun i => [OwnI 2 (some ⟨bkm1, 0, none⟩) nz nz ((z.take i ++ List.replicate (nz - i) 0))]) (fun i => [(0, .slice az nz cz), (3, .slice (some ⟨bkm1, 0, none⟩) nz nz), (4, .int .i64 (i : Int))]) 0 (Nat.zero_le _) (fun _ h => h.pick [0]) ⟨rfl, rfl, rfl, trivial⟩ ?_
 rintro i τ1 hi
 refine hSeq ?_
 refine hSeq ?_
 refine hReg (sq 0 (sq 1 (sq 2 (sq 3 sz)))) (by kernel_rfl) ?_
 refine mvI rfl rfl rfl ?_
 refine mvS rfl rfl rfl ?_
 refine lenS Tryd.runUnderlying59 rfl rfl rfl ?_
 refine lss rfl rfl rfl rfl ?_
 refine rNil ?_
 refine qSeq rfl ?_
 refine hIfD rfl (fun c1 => ?_) (fun c1 => ?_)
 ·
  replace c1 : (i : Int) < (nz : Int) := c1
  refine hSkip ?_
  refine qSeq rfl ?_
  refine hSeq ?_
  refine hBlk ?_
  refine hReg (sq 0 (sq 1 (sq 2 (sq 3 (sq 4 (sl 5 (sq 6 (sl 7 sz)))))))) (by kernel_rfl) ?_
  refine mvS rfl rfl rfl ?_
  refine mvI rfl rfl rfl ?_
  refine mvS rfl rfl rfl ?_
  refine mvI rfl rfl rfl ?_
  refine ixIl (zn := i) el59 (Kn.drop (k := 1) kz) rfl rfl rfl rfl (by omega) (by omega) rfl ?_
  intro ae1 e1
  refine ldl Tryd.isAgg2 (e1) trv rfl rfl rfl ?_
  refine oxI (zn := i) 0 rfl el59 rfl rfl rfl rfl (by omega) (by omega) rfl ?_
  intro gk2 hgk2
  refine stoI (off := i) (x := (z.getD i 0)) 0 rfl hgk2 Tryd.sizeOf2 trv rfl rfl rfl rfl (by omega) ?_
  refine rNil ?_
  refine qSeq rfl ?_
  refine hReg (sq 0 (sq 1 (sq 2 sz))) (by kernel_rfl) ?_
  refine mvI rfl rfl rfl ?_
  refine add rfl rfl rfl rfl (by omega) ?_
  refine asI rfl rfl rfl ?_
  refine rNil ?_
  rw [Math.fill_step 0 0 lz (by omega)]
  exact qNext rfl (i + 1) (by omega) (by omega) ⟨rfl, rfl, rfl, trivial⟩ (fun _ h => h.pick [0])
 ·
  replace c1 : ¬ ((i : Int) < (nz : Int)) := c1
  refine hExit rfl ?_
  refine qSeq rfl ?_
  refine hSeq ?_
  refine hReg (sq 0 (sq 1 sz)) (by kernel_rfl) ?_
  refine mvS rfl rfl rfl ?_
  refine asS rfl rfl rfl ?_
  refine rNil ?_
  refine qSeq rfl ?_
  refine hRet ?_
  exact fun w hs => ⟨[.slice (some ⟨bkm1, 0, none⟩) nz nz], ⟨rfl, trivial⟩, ⟨((some ⟨bkm1, 0, none⟩), nz, nz, (z.take i ++ List.replicate (nz - i) 0)), rfl, Math.fill_end 0 lz (by omega), hs.pick [0]⟩⟩
theorem laws_eqInt64S_c (az : Option Addr) (nz : Nat) (cz : Nat) (z : List Int) (ay : Option Addr) (ny : Nat) (cy : Nat) (y : List Int) (w : World) (rz : RdI az nz z w) (ry : RdI ay ny y w) (heq : z = y) :
  Calls Tryd.prog 58 #[.slice az nz cz, .slice ay ny cy] w (Ret fun v w' => v = .bool true ∧ Ext w w') := by
 have kz : Kn w none_ [] (RdI az nz z) := fun w' hs => rz.ext hs.upd
 have lz : z.length = nz := rz.1
 have mz : nz ≤ 9223372036854775807 := rz.2.1
 have ky : Kn w none_ [] (RdI ay ny y) := fun w' hs => ry.ext hs.upd
 have ly : y.length = ny := ry.1
 have my : ny ≤ 9223372036854775807 := ry.2.1
 refine fn (M := none_) (rs := [.tmp 4]) Tryd.func58 rfl Tryd.ntmps58 rfl rfl (Sep.start _ _) ?_
 refine hSeq ?_
 refine hReg (sq 0 sz) (by kernel_rfl) ?_
 refine asB rfl rfl rfl ?_
 refine rNil ?_
 refine qSeq rfl ?_
 refine hSeq ?_
 refine hSeq ?_
 refine hReg (sq 0 (sq 1 (sq 2 (sq 3 (sq 4 sz))))) (by kernel_rfl) ?_
 refine mvS rfl rfl rfl ?_
 refine lenS Tryd.runUnderlying59 rfl rfl rfl ?_
 refine mvS rfl rfl rfl ?_
 refine lenS Tryd.runUnderlying59 rfl rfl rfl ?_
 refine neq rfl rfl rfl rfl ?_
 refine rNil ?_
 refine qSeq rfl ?_
 refine hIfD rfl (fun c1 => ?_) (fun c1 => ?_)
 ·
  replace c1 : (nz : Int) ≠ (ny : Int) := c1
  exact absurd c1 (by rw [heq] at lz; omega)
 ·
  replace c1 : ¬ ((nz : Int) ≠ (ny : Int)) := c1
  refine hSkip ?_
  refine qSeq rfl ?_
  refine hSeq ?_
  refine hSeq ?_
  refine hReg (sq 0 sz) (by kernel_rfl) ?_
  refine asI rfl rfl rfl ?_
  refine rNil ?_
  refine qSeq rfl ?_
  refine hBlk ?_
  refine hLoop (α := Nat) (fun i => i ≤ nz) (fun i => nz - i) (fun i => []) (fun i => [(0, .slice az nz cz), (1, .slice ay ny cy), (5, .int .i64 (i : Int))]) 0 (Nat.zero_le _) (fun _ h => h.pick []) ⟨rfl, rfl, rfl, trivial⟩ ?_
  rintro i τ1 hi
  refine hSeq ?_
  refine hSeq ?_
  refine hReg (sq 0 (sq 1 (sq 2 (sq 3 sz)))) (by kernel_rfl) ?_
  refine mvI rfl rfl rfl ?_
  refine mvS rfl rfl rfl ?_
  refine lenS Tryd.runUnderlying59 rfl rfl rfl ?_
  refine lss rfl rfl rfl rfl ?_
  refine rNil ?_
  refine qSeq rfl ?_
  refine hIfD rfl (fun c2 => ?_) (fun c2 => ?_)
  ·
   replace c2 : (i : Int) < (nz : Int) := c2
   refine hSkip ?_
   refine qSeq rfl ?_
   refine hSeq ?_
   refine hBlk ?_
   refine hSeq ?_
   refine hDraw (Ls := []) (by kernel_rfl) (sq 0 (sq 1 (sq 2 (sq 3 (sq 4 (sq 5 (sq 6 (sq 7 (sq 8 sz))))))))) (by kernel_rfl) .slnil ?_
   refine mvS rfl rfl rfl ?_
   refine mvI rfl rfl rfl ?_
   refine ixIq (zn := i) el59 (kz) (fun _ h => h.pick []) rfl rfl rfl rfl (by omega) (by omega) rfl ?_
   intro ae1 e1
   refine ldq Tryd.isAgg2 (e1) rfl rfl rfl ?_
   refine mvS rfl rfl rfl ?_
   refine mvI rfl rfl rfl ?_
   refine ixIq (zn := i) el59 (ky) (fun _ h => h.pick []) rfl rfl rfl rfl (by omega) (by omega) rfl ?_
   intro ae2 e2
   refine ldq Tryd.isAgg2 (e2) rfl rfl rfl ?_
   refine neq rfl rfl rfl rfl ?_
   refine rNil ?_
   refine qSeq rfl ?_
   refine hIfD rfl (fun c3 => ?_) (fun c3 => ?_)
   ·
    replace c3 : (z.getD i 0) ≠ (y.getD i 0) := c3
    exact absurd (by rw [heq]) c3
   ·
    replace c3 : ¬ ((z.getD i 0) ≠ (y.getD i 0)) := c3
    refine hSkip ?_
    refine qSeq rfl ?_
    refine hReg (sq 0 (sq 1 (sq 2 sz))) (by kernel_rfl) ?_
    refine mvI rfl rfl rfl ?_
    refine add rfl rfl rfl rfl (by omega) ?_
    refine asI rfl rfl rfl ?_
    refine rNil ?_
    exact qNext rfl (i + 1) (by omega) (by omega) ⟨rfl, rfl, rfl, trivial⟩ (fun _ h => h.pick [])
  ·
   replace c2 : ¬ ((i : Int) < (nz : Int)) := c2
   refine hExit rfl ?_
   refine qSeq rfl ?_
   refine hSeq ?_
   refine hReg (sq 0 sz) (by kernel_rfl) ?_
   refine asB rfl rfl rfl ?_
   refine rNil ?_
   refine qSeq rfl ?_
   refine hRet ?_
   exact fun w hs => ⟨[.bool true], ⟨rfl, trivial⟩, ⟨by first | rfl | exact bD (by omega) | exact bT (by omega) | exact bF (by omega) | exact vI (by omega), hs.upd⟩⟩
theorem laws_szTreeNode_c (pl : Int) (p0 : Int) (p1 : Int) (fo : Int) (ach : Option Addr) (nch : Nat) (cch : Nat) (ch : List Int) (left : Int) (w : World) (rch : RdI ach nch ch w) (hl : 0 ≤ left ∧ left ≤ 1048576) :
  Calls Tryd.prog 37 #[.agg #[.int .i64 pl, .int .i64 p0, .int .i64 p1, .int .i64 fo, .slice ach nch cch], .int .i64 left] w (Ret fun v w' => v = .int .i64 ((Math.cut left (ch.length : Int))) ∧ Ext w w') := by
 have kch : Kn w none_ [] (RdI ach nch ch) := fun w' hs => rch.ext hs.upd
 have lch : ch.length = nch := rch.1
 have mch : nch ≤ 9223372036854775807 := rch.2.1
 refine fn (M := none_) (rs := [.tmp 4]) Tryd.func37 rfl Tryd.ntmps37 rfl rfl (Sep.start _ _) ?_
 refine hSeq ?_
 refine hReg (sl 0 (sq 1 sz)) (by kernel_rfl) ?_
 refine box trv1 rfl rfl rfl rfl (fun bkb1 hbkb1 => ?_)
 refine asI rfl rfl rfl ?_
 refine rNil ?_
 refine qSeq rfl ?_
 refine hSeq ?_
 refine hReg (sq 0 (sl 1 (sq 2 (sl 3 (sq 4 sz))))) (by kernel_rfl) ?_
 refine fld fl75_4 rfl rfl rfl ?_
 refine ldl Tryd.isAgg59 (cB 0 rfl rfl) trv rfl rfl rfl ?_
 refine mvI rfl rfl rfl ?_
 refine callP (v := .int .i64 ((Math.cut left (ch.length : Int)))) Tryd.call48 trv rfl rfl (fun w hs => laws_szInt64S_c _ _ _ _ _ w (Kn.drop (k := 1) kch w hs) (by omega)) ?_
 refine asI rfl rfl rfl ?_
 refine rNil ?_
 refine qSeq rfl ?_
 refine hSeq ?_
 refine hSeq ?_
 refine hReg (sq 0 (sq 1 sz)) (by kernel_rfl) ?_
 refine mvI rfl rfl rfl ?_
 refine lss rfl rfl rfl rfl ?_
 refine rNil ?_
 refine qSeq rfl ?_
 refine hIfD rfl (fun c1 => ?_) (fun c1 => ?_)
 ·
  replace c1 : (Math.cut left (ch.length : Int)) < 0 := c1
  refine hSeq ?_
  refine hReg (sq 0 sz) (by kernel_rfl) ?_
  refine asI rfl rfl rfl ?_
  refine rNil ?_
  refine qSeq rfl ?_
  refine hRet ?_
  exact fun w hs => ⟨[.int .i64 (-1)], ⟨rfl, trivial⟩, ⟨by first | rfl | exact vI (by have := c1; unfold Math.cut at *; split at this <;> split <;> omega), hs.upd⟩⟩
 ·
  replace c1 : ¬ ((Math.cut left (ch.length : Int)) < 0) := c1
  refine hSkip ?_
  refine qSeq rfl ?_
  refine hSeq ?_
  refine hReg (sq 0 (sq 1 sz)) (by kernel_rfl) ?_
  refine mvI rfl rfl rfl ?_
  refine asI rfl rfl rfl ?_
  refine rNil ?_
  refine qSeq rfl ?_
  refine hRet ?_
  exact fun w hs => ⟨[.int .i64 ((Math.cut left (ch.length : Int)))], ⟨rfl, trivial⟩, ⟨by first | rfl | exact vI (by have := c1; unfold Math.cut at *; split at this <;> split <;> omega), hs.upd⟩⟩
theorem laws_szTreeNodeS_c (az : Option Addr) (nz : Nat) (cz : Nat) (Hz : Nat → Hd) (z : List Nd) (left : Int) (w : World) (rz : RdR ndK az nz Hz z w) (hl : 0 ≤ left ∧ left ≤ 1048576) :
  Calls Tryd.prog 18 #[.slice az nz cz, .int .i64 left] w (Ret fun v w' => v = .int .i64 ((Math.cut left (Math.szK Math.chl z : Int))) ∧ Ext w w') := by
 have kz : Kn w none_ [] (RdR ndK az nz Hz z) := fun w' hs => rz.ext hs.upd
 have lz : z.length = nz := rz.1
 have mz : nz ≤ 9223372036854775807 := rz.2.1
 have hsz : Math.szK Math.chl z = z.length + Math.sumK Math.chl z := rfl
 refine fn (M := none_) (rs := [.tmp 4]) Tryd.func18 rfl Tryd.ntmps18 rfl rfl (Sep.start _ _) ?_
 refine hSeq ?_
 refine hReg (sq 0 sz) (by kernel_rfl) ?_
 refine asI rfl rfl rfl ?_
 refine rNil ?_
 refine qSeq rfl ?_
 refine hSeq ?_
 refine hReg (sq 0 (sq 1 (sq 2 (sq 3 (sq 4 sz))))) (by kernel_rfl) ?_
 refine mvI rfl rfl rfl ?_
 refine mvS rfl rfl rfl ?_
 refine lenS Tryd.runUnderlying22 rfl rfl rfl ?_
 refine sub rfl rfl rfl rfl (by omega) ?_
 refine asI rfl rfl rfl ?_
 refine rNil ?_
 refine qSeq rfl ?_
 refine hSeq ?_
 refine hSeq ?_
 refine hReg (sq 0 (sq 1 sz)) (by kernel_rfl) ?_
 refine mvI rfl rfl rfl ?_
 refine lss rfl rfl rfl rfl ?_
 refine rNil ?_
 refine qSeq rfl ?_
 refine hIfD rfl (fun c1 => ?_) (fun c1 => ?_)
 ·
  replace c1 : (left - (nz : Int)) < 0 := c1
  refine hSeq ?_
  refine hReg (sq 0 sz) (by kernel_rfl) ?_
  refine asI rfl rfl rfl ?_
  refine rNil ?_
  refine qSeq rfl ?_
  refine hRet ?_
  exact fun w hs => ⟨[.int .i64 (-1)], ⟨rfl, trivial⟩, ⟨by first | rfl | exact vI (by rw [Math.cut_no (by omega)]) | exact vI (by rw [Math.cut_yes (by omega)]; omega), hs.upd⟩⟩
 ·
  replace c1 : ¬ ((left - (nz : Int)) < 0) := c1
  refine hSkip ?_
  refine qSeq rfl ?_
  refine hSeq ?_
  refine hSeq ?_
  refine hReg (sq 0 sz) (by kernel_rfl) ?_
  refine asI rfl rfl rfl ?_
  refine rNil ?_
  refine qSeq rfl ?_
  refine hBlk ?_
  refine hLoop (α := Nat × Int) (fun x => x.1 ≤ nz ∧ 0 ≤ x.2 ∧ x.2 = left - nz - (Math.sumK Math.chl (z.take x.1) : Int)) (fun x => nz - x.1) (fun x => []) (fun x => [(0, .slice az nz cz), (1, .int .i64 x.2), (5, .int .i64 (x.1 : Int))]) (0, left - nz) ⟨Nat.zero_le _, by dsimp only; omega, by simp [Math.sumK]⟩ (fun _ h => h.pick []) ⟨rfl, rfl, rfl, trivial⟩ ?_
  rintro ⟨i, l⟩ τ1 ⟨hi, hl0, hlq⟩
  dsimp only at hi hl0 hlq
  refine hRe [(0, .slice az nz cz), (1, .int .i64 l), (5, .int .i64 (i : Int))] [] rfl rfl ?_
  refine hSeq ?_
  refine hSeq ?_
  refine hReg (sq 0 (sq 1 (sq 2 (sq 3 sz)))) (by kernel_rfl) ?_
  refine mvI rfl rfl rfl ?_
  refine mvS rfl rfl rfl ?_
  refine lenS Tryd.runUnderlying22 rfl rfl rfl ?_
  refine lss rfl rfl rfl rfl ?_
  refine rNil ?_
  refine qSeq rfl ?_
  refine hIfD rfl (fun c2 => ?_) (fun c2 => ?_)
  ·
   replace c2 : (i : Int) < (nz : Int) := c2
   have hst := Math.sumK_step Math.chl (l := z) (i := i) dN (by omega)
   have hle := Math.sumK_le Math.chl z (i + 1)
   refine hSkip ?_
   refine qSeq rfl ?_
   refine hSeq ?_
   refine hBlk ?_
   refine hSeq ?_
   refine hReg (sq 0 (sq 1 (sq 2 (sl 3 (sq 4 (sl 5 (sq 6 sz))))))) (by kernel_rfl) ?_
   refine mvS rfl rfl rfl ?_
   refine mvI rfl rfl rfl ?_
   refine ixRl (zn := i) (z.getD i dN) el22 (kz) rfl rfl rfl rfl (by omega) (by omega) rfl (nth dN (by omega)) ?_
   intro be1 oe1 e1
   refine ldAl Tryd.isAgg75 Tryd.sizeOf75 (e1) trv rfl rfl rfl rfl ?_
   refine mvI rfl rfl rfl ?_
   refine callP (v := .int .i64 ((Math.cut l (((z.getD i dN).ch).length : Int)))) Tryd.call37 trv rfl rfl (fun w hs => laws_szTreeNode_c _ _ _ _ _ _ _ _ _ w ((Kn.imp kz fun _ h => h.kidN (nth dN (by omega))) w hs) (by omega)) ?_
   refine asI rfl rfl rfl ?_
   refine rNil ?_
   refine qSeq rfl ?_
   refine hSeq ?_
   refine hReg (sq 0 (sq 1 sz)) (by kernel_rfl) ?_
   refine mvI rfl rfl rfl ?_
   refine lss rfl rfl rfl rfl ?_
   refine rNil ?_
   refine qSeq rfl ?_
   refine hIfD rfl (fun c3 => ?_) (fun c3 => ?_)
   ·
    replace c3 : (Math.cut l (((z.getD i dN).ch).length : Int)) < 0 := c3
    have hcn := Math.cut_neg (s := (Math.chl (z.getD i dN) : Int)) c3 hl0
    refine hSeq ?_
    refine hReg (sq 0 sz) (by kernel_rfl) ?_
    refine asI rfl rfl rfl ?_
    refine rNil ?_
    refine qSeq rfl ?_
    refine hRet ?_
    exact fun w hs => ⟨[.int .i64 (-1)], ⟨rfl, trivial⟩, ⟨by first | rfl | exact vI (by rw [Math.cut_no (by omega)]) | exact vI (by rw [Math.cut_yes (by omega)]; omega), hs.upd⟩⟩
   ·
    replace c3 : ¬ ((Math.cut l (((z.getD i dN).ch).length : Int)) < 0) := c3
    refine hSkip ?_
    refine qSeq rfl ?_
    refine hReg (sq 0 (sq 1 (sq 2 sz))) (by kernel_rfl) ?_
    refine mvI rfl rfl rfl ?_
    refine add rfl rfl rfl rfl (by omega) ?_
    refine asI rfl rfl rfl ?_
    refine rNil ?_
    have hcp := Math.cut_pos (s := (Math.chl (z.getD i dN) : Int)) c3
    exact qNext rfl ((i + 1, Math.cut l (Math.chl (z.getD i dN) : Int))) (by dsimp only; omega) ⟨by omega, by dsimp only; omega, by dsimp only; omega⟩ ⟨rfl, rfl, rfl, trivial⟩ (fun _ h => h.pick [])
  ·
   replace c2 : ¬ ((i : Int) < (nz : Int)) := c2
   have hall := Math.sumK_all Math.chl (l := z) (i := i) (by omega)
   refine hExit rfl ?_
   refine qSeq rfl ?_
   refine hSeq ?_
   refine hReg (sq 0 (sq 1 sz)) (by kernel_rfl) ?_
   refine mvI rfl rfl rfl ?_
   refine asI rfl rfl rfl ?_
   refine rNil ?_
   refine qSeq rfl ?_
   refine hRet ?_
   exact fun w hs => ⟨[.int .i64 l], ⟨rfl, trivial⟩, ⟨by first | rfl | exact vI (by rw [Math.cut_no (by omega)]) | exact vI (by rw [Math.cut_yes (by omega)]; omega), hs.upd⟩⟩
theorem laws_szTree_c (az : Option Addr) (nz : Nat) (cz : Nat) (Hz : Nat → Hd) (z : List Nd) (left : Int) (w : World) (rz : RdR ndK az nz Hz z w) (hl : 0 ≤ left ∧ left ≤ 1048576) :
  Calls Tryd.prog 5 #[.agg #[.slice az nz cz], .int .i64 left] w (Ret fun v w' => v = .int .i64 ((Math.cut left (Math.szK Math.chl z : Int))) ∧ Ext w w') := by
 have kz : Kn w none_ [] (RdR ndK az nz Hz z) := fun w' hs => rz.ext hs.upd
 have lz : z.length = nz := rz.1
 have mz : nz ≤ 9223372036854775807 := rz.2.1
 refine fn (M := none_) (rs := [.tmp 4]) Tryd.func5 rfl Tryd.ntmps5 rfl rfl (Sep.start _ _) ?_
 refine hSeq ?_
 refine hReg (sl 0 (sq 1 sz)) (by kernel_rfl) ?_
 refine box trv1 rfl rfl rfl rfl (fun bkb1 hbkb1 => ?_)
 refine asI rfl rfl rfl ?_
 refine rNil ?_
 refine qSeq rfl ?_
 refine hSeq ?_
 refine hReg (sq 0 (sl 1 (sq 2 (sl 3 (sq 4 sz))))) (by kernel_rfl) ?_
 refine fld fl24_0 rfl rfl rfl ?_
 refine ldl Tryd.isAgg22 (cB 0 rfl rfl) trv rfl rfl rfl ?_
 refine mvI rfl rfl rfl ?_
 refine callP (v := .int .i64 ((Math.cut left (Math.szK Math.chl z : Int)))) Tryd.call18 trv rfl rfl (fun w hs => laws_szTreeNodeS_c _ _ _ _ _ _ w (Kn.drop (k := 1) kz w hs) (by omega)) ?_
 refine asI rfl rfl rfl ?_
 refine rNil ?_
 refine qSeq rfl ?_
 refine hSeq ?_
 refine hSeq ?_
 refine hReg (sq 0 (sq 1 sz)) (by kernel_rfl) ?_
 refine mvI rfl rfl rfl ?_
 refine lss rfl rfl rfl rfl ?_
 refine rNil ?_
 refine qSeq rfl ?_
 refine hIfD rfl (fun c1 => ?_) (fun c1 => ?_)
 ·
  replace c1 : (Math.cut left (Math.szK Math.chl z : Int)) < 0 := c1
  refine hSeq ?_
  refine hReg (sq 0 sz) (by kernel_rfl) ?_
  refine asI rfl rfl rfl ?_
  refine rNil ?_
  refine qSeq rfl ?_
  refine hRet ?_
  exact fun w hs => ⟨[.int .i64 (-1)], ⟨rfl, trivial⟩, ⟨by first | rfl | exact vI (by have := c1; unfold Math.cut at *; split at this <;> split <;> omega), hs.upd⟩⟩
 ·
  replace c1 : ¬ ((Math.cut left (Math.szK Math.chl z : Int)) < 0) := c1
  refine hSkip ?_
  refine qSeq rfl ?_
  refine hSeq ?_
  refine hReg (sq 0 (sq 1 sz)) (by kernel_rfl) ?_
  refine mvI rfl rfl rfl ?_
  refine asI rfl rfl rfl ?_
  refine rNil ?_
  refine qSeq rfl ?_
  refine hRet ?_
  exact fun w hs => ⟨[.int .i64 ((Math.cut left (Math.szK Math.chl z : Int)))], ⟨rfl, trivial⟩, ⟨by first | rfl | exact vI (by have := c1; unfold Math.cut at *; split at this <;> split <;> omega), hs.upd⟩⟩
theorem laws_toTreeNode_c (pl : Int) (p0 : Int) (p1 : Int) (fo : Int) (ach : Option Addr) (nch : Nat) (cch : Nat) (ch : List Int) (w : World) (rch : RdI ach nch ch w) (hz : ch.length ≤ 1048576) :
  Calls Tryd.prog 41 #[.agg #[.int .i64 pl, .int .i64 p0, .int .i64 p1, .int .i64 fo, .slice ach nch cch]] w (Ret fun v w' => ∃ x : Option Addr × Nat × Nat × List Int, v = .agg #[.int .i64 pl, .int .i64 p0, .int .i64 p1, .int .i64 fo, .slice x.1 x.2.1 x.2.2.1] ∧ (x.2.2.2 = ch) ∧ Sep w none_ [OwnI 2 x.1 x.2.1 x.2.2.1 x.2.2.2] w') := by
 have kch : Kn w none_ [] (RdI ach nch ch) := fun w' hs => rch.ext hs.upd
 have lch : ch.length = nch := rch.1
 have mch : nch ≤ 9223372036854775807 := rch.2.1
 refine fn (M := none_) (rs := [.cell 2 78]) Tryd.func41 rfl Tryd.ntmps41 rfl rfl (Sep.start _ _) ?_
 refine hSeq ?_
 refine hReg (sl 0 (sl 1 sz)) (by kernel_rfl) ?_
 refine box trv1 rfl rfl rfl rfl (fun bkb1 hbkb1 => ?_)
 refine alc Tryd.zeroValue78 rfl trv1 rfl rfl (fun bka2 hbka2 => ?_)
 refine rNil ?_
 refine qSeq rfl ?_
 refine hSeq ?_
 refine hReg (sl 0 sz) (by kernel_rfl) ?_
 refine alc Tryd.zeroValue78 rfl trv1 rfl rfl (fun bka3 hbka3 => ?_)
 refine rNil ?_
 refine qSeq rfl ?_
 refine hSeq ?_
 refine hReg (sq 0 (sl 1 (sq 2 (sl 3 sz)))) (by kernel_rfl) ?_
 refine fld fl75_0 rfl rfl rfl ?_
 refine ldl Tryd.isAgg2 (cB 2 rfl rfl) trv rfl rfl rfl ?_
 refine fld fl78_0 rfl rfl rfl ?_
 refine stl (v := .int .i64 _) 0 rfl Tryd.sizeOf2 trv rfl rfl rfl rfl rfl (Nat.le_of_ble_eq_true rfl) ?_
 refine rNil ?_
 refine qSeq rfl ?_
 refine hSeq ?_
 refine hReg (sq 0 (sl 1 (sq 2 (sl 3 sz)))) (by kernel_rfl) ?_
 refine fld fl75_1 rfl rfl rfl ?_
 refine ldl Tryd.isAgg2 (cB 2 rfl rfl) trv rfl rfl rfl ?_
 refine fld fl78_1 rfl rfl rfl ?_
 refine stl (v := .int .i64 _) 0 rfl Tryd.sizeOf2 trv rfl rfl rfl rfl rfl (Nat.le_of_ble_eq_true rfl) ?_
 refine rNil ?_
 refine qSeq rfl ?_
 refine hSeq ?_
 refine hReg (sq 0 (sl 1 (sq 2 (sl 3 sz)))) (by kernel_rfl) ?_
 refine fld fl75_2 rfl rfl rfl ?_
 refine ldl Tryd.isAgg2 (cB 2 rfl rfl) trv rfl rfl rfl ?_
 refine fld fl78_2 rfl rfl rfl ?_
 refine stl (v := .int .i64 _) 0 rfl Tryd.sizeOf2 trv rfl rfl rfl rfl rfl (Nat.le_of_ble_eq_true rfl) ?_
 refine rNil ?_
 refine qSeq rfl ?_
 refine hSeq ?_
 refine hReg (sq 0 (sl 1 (sq 2 (sl 3 sz)))) (by kernel_rfl) ?_
 refine fld fl75_3 rfl rfl rfl ?_
 refine ldl Tryd.isAgg2 (cB 2 rfl rfl) trv rfl rfl rfl ?_
 refine fld fl78_3 rfl rfl rfl ?_
 refine stl (v := .int .i64 _) 0 rfl Tryd.sizeOf2 trv rfl rfl rfl rfl rfl (Nat.le_of_ble_eq_true rfl) ?_
 refine rNil ?_
 refine qSeq rfl ?_
 refine hSeq ?_
 refine hReg (sq 0 (sl 1 (sl 2 (sq 3 (sl 4 sz))))) (by kernel_rfl) ?_
 refine fld fl75_4 rfl rfl rfl ?_
 refine ldl Tryd.isAgg59 (cB 2 rfl rfl) trv rfl rfl rfl ?_
 refine callS Tryd.call52 trv1 rfl rfl (fun w hs => laws_toInt64S_c _ _ _ _ w (Kn.drop (k := 3) kch w hs) (by omega)) ?_
 rintro ⟨ay1, ny1, cy1, y1⟩ hr1
 try dsimp only at hr1
 refine fld fl78_4 rfl rfl rfl ?_
 refine stl (v := .slice _ _ _) 1 rfl Tryd.sizeOf59 trv rfl rfl rfl rfl rfl (Nat.le_of_ble_eq_true rfl) ?_
 refine rNil ?_
 refine qSeq rfl ?_
 refine hSeq ?_
 refine hReg (sl 0 (sl 1 sz)) (by kernel_rfl) ?_
 refine ldAl Tryd.isAgg78 Tryd.sizeOf78 (cBs 1 rfl) trv rfl rfl rfl rfl ?_
 refine stAl (vs := [.int .i64 pl, .int .i64 p0, .int .i64 p1, .int .i64 fo, .slice ay1 ny1 cy1]) 2 rfl Tryd.sizeOf78 trv rfl rfl rfl rfl rfl (by simp [Value.oneCell']) rfl ?_
 refine rNil ?_
 refine qSeq rfl ?_
 refine hRet ?_
 exact fun w hs => ⟨[_], ⟨⟨_, rfl, run_load_agg Tryd.isAgg78 Tryd.sizeOf78 rfl (cBs 2 rfl w hs)⟩, trivial⟩, ⟨(ay1, ny1, cy1, y1), rfl, hr1, hs.pick [0]⟩⟩
theorem laws_toTreeNodeS_c (az : Option Addr) (nz : Nat) (cz : Nat) (Hz : Nat → Hd) (z : List Nd) (w : World) (rz : RdR ndK az nz Hz z w) (hz : Math.szK Math.chl z ≤ 1048576) :
  Calls Tryd.prog 21 #[.slice az nz cz] w (Ret fun v w' => ∃ x : Option Addr × Nat × Nat × (Nat → Hd) × List Nd, v = .slice x.1 x.2.1 x.2.2.1 ∧ (x.2.2.2.2 = z) ∧ Sep w none_ [OwnR ndK 78 2 x.1 x.2.1 x.2.2.1 x.2.2.2.1 x.2.2.2.2] w') := by
 have kz : Kn w none_ [] (RdR ndK az nz Hz z) := fun w' hs => rz.ext hs.upd
 have lz : z.length = nz := rz.1
 have mz : nz ≤ 9223372036854775807 := rz.2.1
 have hz1 := Math.szK_len hz
 refine fn (M := none_) (rs := [.tmp 2]) Tryd.func21 rfl Tryd.ntmps21 rfl rfl (Sep.start _ _) ?_
 refine hSeq ?_
 refine hReg (sq 0 sz) (by kernel_rfl) ?_
 refine asS rfl rfl rfl ?_
 refine rNil ?_
 refine qSeq rfl ?_
 refine hSeq ?_
 refine hReg (sq 0 (sq 1 (sl 2 (sq 3 sz)))) (by kernel_rfl) ?_
 refine mvS rfl rfl rfl ?_
 refine lenS Tryd.runUnderlying22 rfl rfl rfl ?_
 refine mksR (e1 := 2) nz dN ndK.ok rfl rfl mk28 trv1 rfl rfl rfl rfl (rfl) (by omega) (fun bkm1 hbkm1 => ?_)
 refine asS rfl rfl rfl ?_
 refine rNil ?_
 refine qSeq rfl ?_
 refine hSeq ?_
 refine hSeq ?_
 refine hReg (sq 0 sz) (by kernel_rfl) ?_
 refine asI rfl rfl rfl ?_
 refine rNil ?_
 refine qSeq rfl ?_
 refine hBlk ?_
 rw [Math.fill_start z nz dN]
 refine hLoop (α := Nat × (Nat → Hd)) (fun x => x.1 ≤ nz) (fun x => nz - x.1) (fun x => [OwnR ndK 78 2 (some ⟨bkm1, 0, none⟩) nz nz x.2 ((z.take x.1 ++ List.replicate (nz - x.1) dN))]) (fun x => [(0, .slice az nz cz), (3, .slice (some ⟨bkm1, 0, none⟩) nz nz), (4, .int .i64 (x.1 : Int))]) ((0, fun _ => (none, 0))) (Nat.zero_le _) (fun _ h => h.pick [0]) ⟨rfl, rfl, rfl, trivial⟩ ?_
 rintro ⟨i, hh⟩ τ1 hi
 dsimp only at hi
 refine hRe [(0, .slice az nz cz), (3, .slice (some ⟨bkm1, 0, none⟩) nz nz), (4, .int .i64 (i : Int))] [OwnR ndK 78 2 (some ⟨bkm1, 0, none⟩) nz nz hh ((z.take i ++ List.replicate (nz - i) dN))] rfl rfl ?_
 refine hSeq ?_
 refine hSeq ?_
 refine hReg (sq 0 (sq 1 (sq 2 (sq 3 sz)))) (by kernel_rfl) ?_
 refine mvI rfl rfl rfl ?_
 refine mvS rfl rfl rfl ?_
 refine lenS Tryd.runUnderlying22 rfl rfl rfl ?_
 refine lss rfl rfl rfl rfl ?_
 refine rNil ?_
 refine qSeq rfl ?_
 refine hIfD rfl (fun c1 => ?_) (fun c1 => ?_)
 ·
  replace c1 : (i : Int) < (nz : Int) := c1
  have hch := Math.szK_at dN hz (show i < z.length by omega)
  refine hSkip ?_
  refine qSeq rfl ?_
  refine hSeq ?_
  refine hBlk ?_
  refine hReg (sq 0 (sq 1 (sq 2 (sq 3 (sq 4 (sl 5 (sl 6 (sq 7 (sl 8 sz))))))))) (by kernel_rfl) ?_
  refine mvS rfl rfl rfl ?_
  refine mvI rfl rfl rfl ?_
  refine mvS rfl rfl rfl ?_
  refine mvI rfl rfl rfl ?_
  refine ixRl (zn := i) (z.getD i dN) el22 (Kn.drop (k := 1) kz) rfl rfl rfl rfl (by omega) (by omega) rfl (nth dN (by omega)) ?_
  intro be1 oe1 e1
  refine ldAl Tryd.isAgg75 Tryd.sizeOf75 (e1) trv rfl rfl rfl rfl ?_
  refine callS Tryd.call41 trv1 rfl rfl (fun w hs => laws_toTreeNode_c _ _ _ _ _ _ _ _ w (Kn.drop (k := 1) ((Kn.imp kz fun _ h => h.kidN (nth dN (by omega)))) w hs) hch) ?_
  rintro ⟨ay2, ny2, cy2, y2⟩ hr2
  try dsimp only at hr2
  refine oxR (zn := i) 1 rfl el28 rfl rfl rfl rfl (by omega) (by omega) rfl ?_
  intro gk3 hgk3
  refine stR (hd := (ay2, cy2)) (x := (Nd.mk (((z.getD i dN).pl)) (((z.getD i dN).p0)) (((z.getD i dN).p1)) (((z.getD i dN).fo)) y2)) (v := .agg #[.int .i64 (((z.getD i dN).pl)), .int .i64 (((z.getD i dN).p0)), .int .i64 (((z.getD i dN).p1)), .int .i64 (((z.getD i dN).fo)), .slice ay2 ny2 cy2]) i 1 0 ndK.ok rfl rfl hgk3 Tryd.sizeOf78 trv rfl rfl rfl rfl rfl (fun h => by first | rfl | (dsimp only at h; rw [h]; rfl) | (rw [h]; rfl) | exact congrArg (fun m => [Value.slice _ m _]) h | (simp only [maK, List.length_replicate]; rfl)) (by omega) ?_
  refine rNil ?_
  refine qSeq rfl ?_
  refine hReg (sq 0 (sq 1 (sq 2 sz))) (by kernel_rfl) ?_
  refine mvI rfl rfl rfl ?_
  refine add rfl rfl rfl rfl (by omega) ?_
  refine asI rfl rfl rfl ?_
  refine rNil ?_
  rw [hr2, Math.fill_step dN dN lz (by omega)]
  exact qNext rfl ((i + 1, (hset hh i (ay2, cy2)))) (by dsimp only; omega) (by dsimp only; omega) ⟨rfl, rfl, rfl, trivial⟩ (fun _ h => h.pick [0])
 ·
  replace c1 : ¬ ((i : Int) < (nz : Int)) := c1
  refine hExit rfl ?_
  refine qSeq rfl ?_
  refine hSeq ?_
  refine hReg (sq 0 (sq 1 sz)) (by kernel_rfl) ?_
  refine mvS rfl rfl rfl ?_
  refine asS rfl rfl rfl ?_
  refine rNil ?_
  refine qSeq rfl ?_
  refine hRet ?_
  exact fun w hs => ⟨[.slice (some ⟨bkm1, 0, none⟩) nz nz], ⟨rfl, trivial⟩, ⟨((some ⟨bkm1, 0, none⟩), nz, nz, hh, (z.take i ++ List.replicate (nz - i) dN)), rfl, Math.fill_end _ lz (by omega), hs.pick [0]⟩⟩
theorem laws_toTree_c (az : Option Addr) (nz : Nat) (cz : Nat) (Hz : Nat → Hd) (z : List Nd) (w : World) (rz : RdR ndK az nz Hz z w) (hz : Math.szK Math.chl z ≤ 1048576) :
  Calls Tryd.prog 7 #[.agg #[.slice az nz cz]] w (Ret fun v w' => ∃ x : Option Addr × Nat × Nat × (Nat → Hd) × List Nd, v = .agg #[.slice x.1 x.2.1 x.2.2.1] ∧ (x.2.2.2.2 = z) ∧ Sep w none_ [OwnR ndK 78 2 x.1 x.2.1 x.2.2.1 x.2.2.2.1 x.2.2.2.2] w') := by
 have kz : Kn w none_ [] (RdR ndK az nz Hz z) := fun w' hs => rz.ext hs.upd
 have lz : z.length = nz := rz.1
 have mz : nz ≤ 9223372036854775807 := rz.2.1
 refine fn (M := none_) (rs := [.cell 2 30]) Tryd.func7 rfl Tryd.ntmps7 rfl rfl (Sep.start _ _) ?_
 refine hSeq ?_
 refine hReg (sl 0 (sl 1 sz)) (by kernel_rfl) ?_
 refine box trv1 rfl rfl rfl rfl (fun bkb1 hbkb1 => ?_)
 refine alc Tryd.zeroValue30 rfl trv1 rfl rfl (fun bka2 hbka2 => ?_)
 refine rNil ?_
 refine qSeq rfl ?_
 refine hSeq ?_
 refine hReg (sl 0 sz) (by kernel_rfl) ?_
 refine alc Tryd.zeroValue30 rfl trv1 rfl rfl (fun bka3 hbka3 => ?_)
 refine rNil ?_
 refine qSeq rfl ?_
 refine hSeq ?_
 refine hReg (sq 0 (sl 1 (sl 2 (sq 3 (sl 4 sz))))) (by kernel_rfl) ?_
 refine fld fl24_0 rfl rfl rfl ?_
 refine ldl Tryd.isAgg22 (cB 2 rfl rfl) trv rfl rfl rfl ?_
 refine callS Tryd.call21 trv1 rfl rfl (fun w hs => laws_toTreeNodeS_c _ _ _ _ _ w (Kn.drop (k := 3) kz w hs) (by first | assumption | omega)) ?_
 rintro ⟨ay1, ny1, cy1, Hy1, y1⟩ hr1
 try dsimp only at hr1
 refine fld fl30_0 rfl rfl rfl ?_
 refine stl (v := .slice _ _ _) 1 rfl Tryd.sizeOf28 trv rfl rfl rfl rfl rfl (Nat.le_of_ble_eq_true rfl) ?_
 refine rNil ?_
 refine qSeq rfl ?_
 refine hSeq ?_
 refine hReg (sl 0 (sl 1 sz)) (by kernel_rfl) ?_
 refine ldAl Tryd.isAgg30 Tryd.sizeOf30 (cBs 1 rfl) trv rfl rfl rfl rfl ?_
 refine stAl (vs := [.slice ay1 ny1 cy1]) 2 rfl Tryd.sizeOf30 trv rfl rfl rfl rfl rfl (by simp [Value.oneCell']) rfl ?_
 refine rNil ?_
 refine qSeq rfl ?_
 refine hRet ?_
 exact fun w hs => ⟨[_], ⟨⟨_, rfl, run_load_agg Tryd.isAgg30 Tryd.sizeOf30 rfl (cBs 2 rfl w hs)⟩, trivial⟩, ⟨(ay1, ny1, cy1, Hy1, y1), rfl, hr1, hs.pick [0]⟩⟩
theorem laws_eqTreeNode_c (pl : Int) (p0 : Int) (p1 : Int) (fo : Int) (ach : Option Addr) (nch : Nat) (cch : Nat) (ch : List Int) (ql : Int) (q0 : Int) (q1 : Int) (go_ : Int) (adh : Option Addr) (ndh : Nat) (cdh : Nat) (dh : List Int) (w : World) (rch : RdI ach nch ch w) (rdh : RdI adh ndh dh w) (heq : pl = ql ∧ p0 = q0 ∧ p1 = q1 ∧ fo = go_ ∧ ch = dh) :
  Calls Tryd.prog 47 #[.agg #[.int .i64 pl, .int .i64 p0, .int .i64 p1, .int .i64 fo, .slice ach nch cch], .agg #[.int .i64 ql, .int .i64 q0, .int .i64 q1, .int .i64 go_, .slice adh ndh cdh]] w (Ret fun v w' => v = .bool true ∧ Ext w w') := by
 have kch : Kn w none_ [] (RdI ach nch ch) := fun w' hs => rch.ext hs.upd
 have lch : ch.length = nch := rch.1
 have mch : nch ≤ 9223372036854775807 := rch.2.1
 have kdh : Kn w none_ [] (RdI adh ndh dh) := fun w' hs => rdh.ext hs.upd
 have ldh : dh.length = ndh := rdh.1
 have mdh : ndh ≤ 9223372036854775807 := rdh.2.1
 refine fn (M := none_) (rs := [.tmp 4]) Tryd.func47 rfl Tryd.ntmps47 rfl rfl (Sep.start _ _) ?_
 refine hSeq ?_
 refine hReg (sl 0 (sl 1 (sq 2 sz))) (by kernel_rfl) ?_
 refine box trv1 rfl rfl rfl rfl (fun bkb1 hbkb1 => ?_)
 refine box trv1 rfl rfl rfl rfl (fun bkb2 hbkb2 => ?_)
 refine asB rfl rfl rfl ?_
 refine rNil ?_
 refine qSeq rfl ?_
 refine hSeq ?_
 refine hSeq ?_
 refine hReg (sq 0 (sl 1 (sq 2 (sl 3 (sq 4 sz))))) (by kernel_rfl) ?_
 refine fld fl78_0 rfl rfl rfl ?_
 refine ldl Tryd.isAgg2 (cB 1 rfl rfl) trv rfl rfl rfl ?_
 refine fld fl78_0 rfl rfl rfl ?_
 refine ldl Tryd.isAgg2 (cB 0 rfl rfl) trv rfl rfl rfl ?_
 refine neq rfl rfl rfl rfl ?_
 refine rNil ?_
 refine qSeq rfl ?_
 refine hIfD rfl (fun c1 => ?_) (fun c1 => ?_)
 ·
  replace c1 : pl ≠ ql := c1
  exact absurd heq.1 c1
 ·
  replace c1 : ¬ (pl ≠ ql) := c1
  refine hSkip ?_
  refine qSeq rfl ?_
  refine hSeq ?_
  refine hSeq ?_
  refine hReg (sq 0 (sl 1 (sq 2 (sl 3 (sq 4 sz))))) (by kernel_rfl) ?_
  refine fld fl78_1 rfl rfl rfl ?_
  refine ldl Tryd.isAgg2 (cB 1 rfl rfl) trv rfl rfl rfl ?_
  refine fld fl78_1 rfl rfl rfl ?_
  refine ldl Tryd.isAgg2 (cB 0 rfl rfl) trv rfl rfl rfl ?_
  refine neq rfl rfl rfl rfl ?_
  refine rNil ?_
  refine qSeq rfl ?_
  refine hIfD rfl (fun c2 => ?_) (fun c2 => ?_)
  ·
   replace c2 : p0 ≠ q0 := c2
   exact absurd heq.2.1 c2
  ·
   replace c2 : ¬ (p0 ≠ q0) := c2
   refine hSkip ?_
   refine qSeq rfl ?_
   refine hSeq ?_
   refine hSeq ?_
   refine hReg (sq 0 (sl 1 (sq 2 (sl 3 (sq 4 sz))))) (by kernel_rfl) ?_
   refine fld fl78_2 rfl rfl rfl ?_
   refine ldl Tryd.isAgg2 (cB 1 rfl rfl) trv rfl rfl rfl ?_
   refine fld fl78_2 rfl rfl rfl ?_
   refine ldl Tryd.isAgg2 (cB 0 rfl rfl) trv rfl rfl rfl ?_
   refine neq rfl rfl rfl rfl ?_
   refine rNil ?_
   refine qSeq rfl ?_
   refine hIfD rfl (fun c3 => ?_) (fun c3 => ?_)
   ·
    replace c3 : p1 ≠ q1 := c3
    exact absurd heq.2.2.1 c3
   ·
    replace c3 : ¬ (p1 ≠ q1) := c3
    refine hSkip ?_
    refine qSeq rfl ?_
    refine hSeq ?_
    refine hSeq ?_
    refine hReg (sq 0 (sl 1 (sq 2 (sl 3 (sq 4 sz))))) (by kernel_rfl) ?_
    refine fld fl78_3 rfl rfl rfl ?_
    refine ldl Tryd.isAgg2 (cB 1 rfl rfl) trv rfl rfl rfl ?_
    refine fld fl78_3 rfl rfl rfl ?_
    refine ldl Tryd.isAgg2 (cB 0 rfl rfl) trv rfl rfl rfl ?_
    refine neq rfl rfl rfl rfl ?_
    refine rNil ?_
    refine qSeq rfl ?_
    refine hIfD rfl (fun c4 => ?_) (fun c4 => ?_)
    ·
     replace c4 : fo ≠ go_ := c4
     exact absurd heq.2.2.2.1 c4
    ·
     replace c4 : ¬ (fo ≠ go_) := c4
     refine hSkip ?_
     refine qSeq rfl ?_
     refine hSeq ?_
     refine hSeq ?_
     refine hReg (sq 0 (sl 1 (sq 2 (sl 3 (sl 4 (sq 5 sz)))))) (by kernel_rfl) ?_
     refine fld fl78_4 rfl rfl rfl ?_
     refine ldl Tryd.isAgg59 (cB 1 rfl rfl) trv rfl rfl rfl ?_
     refine fld fl78_4 rfl rfl rfl ?_
     refine ldl Tryd.isAgg59 (cB 0 rfl rfl) trv rfl rfl rfl ?_
     refine callP (v := .bool true) Tryd.call58 trv rfl rfl (fun w hs => laws_eqInt64S_c _ _ _ _ _ _ _ _ w (Kn.drop (k := 2) kch w hs) (Kn.drop (k := 2) kdh w hs) heq.2.2.2.2) ?_
     refine not rfl rfl rfl ?_
     refine rNil ?_
     refine qSeq rfl ?_
     refine hIfF rfl ?_
     refine hSkip ?_
     refine qSeq rfl ?_
     refine hSeq ?_
     refine hReg (sq 0 sz) (by kernel_rfl) ?_
     refine asB rfl rfl rfl ?_
     refine rNil ?_
     refine qSeq rfl ?_
     refine hRet ?_
     exact fun w hs => ⟨[.bool true], ⟨rfl, trivial⟩, ⟨by first | rfl | exact bD (by omega) | exact bT (by omega) | exact bF (by omega) | exact vI (by omega), hs.upd⟩⟩
theorem laws_eqTreeNodeS_c (az : Option Addr) (nz : Nat) (cz : Nat) (Hz : Nat → Hd) (z : List Nd) (ay : Option Addr) (ny : Nat) (cy : Nat) (Hy : Nat → Hd) (y : List Nd) (w : World) (rz : RdR ndK az nz Hz z w) (ry : RdR ndK ay ny Hy y w) (heq : z = y) :
  Calls Tryd.prog 24 #[.slice az nz cz, .slice ay ny cy] w (Ret fun v w' => v = .bool true ∧ Ext w w') := by
 have kz : Kn w none_ [] (RdR ndK az nz Hz z) := fun w' hs => rz.ext hs.upd
 have lz : z.length = nz := rz.1
 have mz : nz ≤ 9223372036854775807 := rz.2.1
 have ky : Kn w none_ [] (RdR ndK ay ny Hy y) := fun w' hs => ry.ext hs.upd
 have ly : y.length = ny := ry.1
 have my : ny ≤ 9223372036854775807 := ry.2.1
 have ly2 : y.length = nz := by rw [← heq]; exact lz
 refine fn (M := none_) (rs := [.tmp 4]) Tryd.func24 rfl Tryd.ntmps24 rfl rfl (Sep.start _ _) ?_
 refine hSeq ?_
 refine hReg (sq 0 sz) (by kernel_rfl) ?_
 refine asB rfl rfl rfl ?_
 refine rNil ?_
 refine qSeq rfl ?_
 refine hSeq ?_
 refine hSeq ?_
 refine hReg (sq 0 (sq 1 (sq 2 (sq 3 (sq 4 sz))))) (by kernel_rfl) ?_
 refine mvS rfl rfl rfl ?_
 refine lenS Tryd.runUnderlying28 rfl rfl rfl ?_
 refine mvS rfl rfl rfl ?_
 refine lenS Tryd.runUnderlying28 rfl rfl rfl ?_
 refine neq rfl rfl rfl rfl ?_
 refine rNil ?_
 refine qSeq rfl ?_
 refine hIfD rfl (fun c1 => ?_) (fun c1 => ?_)
 ·
  replace c1 : (nz : Int) ≠ (ny : Int) := c1
  exact absurd c1 (by omega)
 ·
  replace c1 : ¬ ((nz : Int) ≠ (ny : Int)) := c1
  refine hSkip ?_
  refine qSeq rfl ?_
  refine hSeq ?_
  refine hSeq ?_
  refine hReg (sq 0 sz) (by kernel_rfl) ?_
  refine asI rfl rfl rfl ?_
  refine rNil ?_
  refine qSeq rfl ?_
  refine hBlk ?_
  refine hLoop (α := Nat) (fun i => i ≤ nz) (fun i => nz - i) (fun i => []) (fun i => [(0, .slice az nz cz), (1, .slice ay ny cy), (5, .int .i64 (i : Int))]) 0 (Nat.zero_le _) (fun _ h => h.pick []) ⟨rfl, rfl, rfl, trivial⟩ ?_
  rintro i τ1 hi
  refine hSeq ?_
  refine hSeq ?_
  refine hReg (sq 0 (sq 1 (sq 2 (sq 3 sz)))) (by kernel_rfl) ?_
  refine mvI rfl rfl rfl ?_
  refine mvS rfl rfl rfl ?_
  refine lenS Tryd.runUnderlying28 rfl rfl rfl ?_
  refine lss rfl rfl rfl rfl ?_
  refine rNil ?_
  refine qSeq rfl ?_
  refine hIfD rfl (fun c2 => ?_) (fun c2 => ?_)
  ·
   replace c2 : (i : Int) < (nz : Int) := c2
   refine hSkip ?_
   refine qSeq rfl ?_
   refine hSeq ?_
   refine hBlk ?_
   refine hSeq ?_
   refine hDraw (Ls := []) (by kernel_rfl) (sq 0 (sq 1 (sq 2 (sq 3 (sq 4 (sq 5 (sq 6 (sq 7 (sl 8 (sq 9 sz)))))))))) (by kernel_rfl) .slnil ?_
   refine mvS rfl rfl rfl ?_
   refine mvI rfl rfl rfl ?_
   refine ixRq (zn := i) (z.getD i dN) el28 (kz) (fun _ h => h.pick []) rfl rfl rfl rfl (by omega) (by omega) rfl (nth dN (by omega)) ?_
   intro be1 oe1 e1
   refine ldAq Tryd.isAgg78 Tryd.sizeOf78 (e1) rfl rfl rfl rfl ?_
   refine mvS rfl rfl rfl ?_
   refine mvI rfl rfl rfl ?_
   refine ixRq (zn := i) (y.getD i dN) el28 (ky) (fun _ h => h.pick []) rfl rfl rfl rfl (by omega) (by omega) rfl (nth dN (by omega)) ?_
   intro be2 oe2 e2
   refine ldAq Tryd.isAgg78 Tryd.sizeOf78 (e2) rfl rfl rfl rfl ?_
   refine callP (v := .bool true) Tryd.call47 (fun _ h => h.pick []) rfl rfl (fun w hs => laws_eqTreeNode_c _ _ _ _ _ _ _ _ _ _ _ _ _ _ _ _ w ((Kn.imp kz fun _ h => h.kidN (nth dN (by omega))) w hs) ((Kn.imp ky fun _ h => h.kidN (nth dN (by omega))) w hs) (by first | exact ⟨rfl, rfl, rfl, rfl, rfl⟩ | (rw [heq]; exact ⟨rfl, rfl, rfl, rfl, rfl⟩))) ?_
   refine not rfl rfl rfl ?_
   refine rNil ?_
   refine qSeq rfl ?_
   refine hIfF rfl ?_
   refine hSkip ?_
   refine qSeq rfl ?_
   refine hReg (sq 0 (sq 1 (sq 2 sz))) (by kernel_rfl) ?_
   refine mvI rfl rfl rfl ?_
   refine add rfl rfl rfl rfl (by omega) ?_
   refine asI rfl rfl rfl ?_
   refine rNil ?_
   exact qNext rfl (i + 1) (by omega) (by omega) ⟨rfl, rfl, rfl, trivial⟩ (fun _ h => h.pick [])
  ·
   replace c2 : ¬ ((i : Int) < (nz : Int)) := c2
   refine hExit rfl ?_
   refine qSeq rfl ?_
   refine hSeq ?_
   refine hReg (sq 0 sz) (by kernel_rfl) ?_
   refine asB rfl rfl rfl ?_
   refine rNil ?_
   refine qSeq rfl ?_
   refine hRet ?_
   exact fun w hs => ⟨[.bool true], ⟨rfl, trivial⟩, ⟨by first | rfl | exact bD (by omega) | exact bT (by omega) | exact bF (by omega) | exact vI (by omega), hs.upd⟩⟩
theorem laws_eqTree_c (az : Option Addr) (nz : Nat) (cz : Nat) (Hz : Nat → Hd) (z : List Nd) (ay : Option Addr) (ny : Nat) (cy : Nat) (Hy : Nat → Hd) (y : List Nd) (w : World) (rz : RdR ndK az nz Hz z w) (ry : RdR ndK ay ny Hy y w) (heq : z = y) :
  Calls Tryd.prog 9 #[.agg #[.slice az nz cz], .agg #[.slice ay ny cy]] w (Ret fun v w' => v = .bool true ∧ Ext w w') := by
 have kz : Kn w none_ [] (RdR ndK az nz Hz z) := fun w' hs => rz.ext hs.upd
 have lz : z.length = nz := rz.1
 have mz : nz ≤ 9223372036854775807 := rz.2.1
 have ky : Kn w none_ [] (RdR ndK ay ny Hy y) := fun w' hs => ry.ext hs.upd
 have ly : y.length = ny := ry.1
 have my : ny ≤ 9223372036854775807 := ry.2.1
 refine fn (M := none_) (rs := [.tmp 4]) Tryd.func9 rfl Tryd.ntmps9 rfl rfl (Sep.start _ _) ?_
 refine hSeq ?_
 refine hReg (sl 0 (sl 1 (sq 2 sz))) (by kernel_rfl) ?_
 refine box trv1 rfl rfl rfl rfl (fun bkb1 hbkb1 => ?_)
 refine box trv1 rfl rfl rfl rfl (fun bkb2 hbkb2 => ?_)
 refine asB rfl rfl rfl ?_
 refine rNil ?_
 refine qSeq rfl ?_
 refine hSeq ?_
 refine hSeq ?_
 refine hReg (sq 0 (sl 1 (sq 2 (sl 3 (sl 4 (sq 5 sz)))))) (by kernel_rfl) ?_
 refine fld fl30_0 rfl rfl rfl ?_
 refine ldl Tryd.isAgg28 (cB 1 rfl rfl) trv rfl rfl rfl ?_
 refine fld fl30_0 rfl rfl rfl ?_
 refine ldl Tryd.isAgg28 (cB 0 rfl rfl) trv rfl rfl rfl ?_
 refine callP (v := .bool true) Tryd.call24 trv rfl rfl (fun w hs => laws_eqTreeNodeS_c _ _ _ _ _ _ _ _ _ _ w (Kn.drop (k := 2) kz w hs) (Kn.drop (k := 2) ky w hs) (by first | rfl | assumption | (rw [heq]) | (simp only [*]))) ?_
 refine not rfl rfl rfl ?_
 refine rNil ?_
 refine qSeq rfl ?_
 refine hIfF rfl ?_
 refine hSkip ?_
 refine qSeq rfl ?_
 refine hSeq ?_
 refine hReg (sq 0 sz) (by kernel_rfl) ?_
 refine asB rfl rfl rfl ?_
 refine rNil ?_
 refine qSeq rfl ?_
 refine hRet ?_
 exact fun w hs => ⟨[.bool true], ⟨rfl, trivial⟩, ⟨by first | rfl | exact bD (by omega) | exact bT (by omega) | exact bF (by omega) | exact vI (by omega), hs.upd⟩⟩
theorem laws_szInt64SS_c (az : Option Addr) (nz : Nat) (cz : Nat) (Hz : Nat → Hd) (z : List (List Int)) (left : Int) (w : World) (rz : RdR maK az nz Hz z w) (hl : 0 ≤ left ∧ left ≤ 1048576) :
  Calls Tryd.prog 25 #[.slice az nz cz, .int .i64 left] w (Ret fun v w' => v = .int .i64 ((Math.cut left (Math.szK Math.rwl z : Int))) ∧ Ext w w') := by
 have kz : Kn w none_ [] (RdR maK az nz Hz z) := fun w' hs => rz.ext hs.upd
 have lz : z.length = nz := rz.1
 have mz : nz ≤ 9223372036854775807 := rz.2.1
 have hsz : Math.szK Math.rwl z = z.length + Math.sumK Math.rwl z := rfl
 refine fn (M := none_) (rs := [.tmp 4]) Tryd.func25 rfl Tryd.ntmps25 rfl rfl (Sep.start _ _) ?_
 refine hSeq ?_
 refine hReg (sq 0 sz) (by kernel_rfl) ?_
 refine asI rfl rfl rfl ?_
 refine rNil ?_
 refine qSeq rfl ?_
 refine hSeq ?_
 refine hReg (sq 0 (sq 1 (sq 2 (sq 3 (sq 4 sz))))) (by kernel_rfl) ?_
 refine mvI rfl rfl rfl ?_
 refine mvS rfl rfl rfl ?_
 refine lenS Tryd.runUnderlying34 rfl rfl rfl ?_
 refine sub rfl rfl rfl rfl (by omega) ?_
 refine asI rfl rfl rfl ?_
 refine rNil ?_
 refine qSeq rfl ?_
 refine hSeq ?_
 refine hSeq ?_
 refine hReg (sq 0 (sq 1 sz)) (by kernel_rfl) ?_
 refine mvI rfl rfl rfl ?_
 refine lss rfl rfl rfl rfl ?_
 refine rNil ?_
 refine qSeq rfl ?_
 refine hIfD rfl (fun c1 => ?_) (fun c1 => ?_)
 ·
  replace c1 : (left - (nz : Int)) < 0 := c1
  refine hSeq ?_
  refine hReg (sq 0 sz) (by kernel_rfl) ?_
  refine asI rfl rfl rfl ?_
  refine rNil ?_
  refine qSeq rfl ?_
  refine hRet ?_
  exact fun w hs => ⟨[.int .i64 (-1)], ⟨rfl, trivial⟩, ⟨by first | rfl | exact vI (by rw [Math.cut_no (by omega)]) | exact vI (by rw [Math.cut_yes (by omega)]; omega), hs.upd⟩⟩
 ·
  replace c1 : ¬ ((left - (nz : Int)) < 0) := c1
  refine hSkip ?_
  refine qSeq rfl ?_
  refine hSeq ?_
  refine hSeq ?_
  refine hReg (sq 0 sz) (by kernel_rfl) ?_
  refine asI rfl rfl rfl ?_
  refine rNil ?_
  refine qSeq rfl ?_
  refine hBlk ?_
  refine hLoop (α := Nat × Int) (fun x => x.1 ≤ nz ∧ 0 ≤ x.2 ∧ x.2 = left - nz - (Math.sumK Math.rwl (z.take x.1) : Int)) (fun x => nz - x.1) (fun x => []) (fun x => [(0, .slice az nz cz), (1, .int .i64 x.2), (5, .int .i64 (x.1 : Int))]) (0, left - nz) ⟨Nat.zero_le _, by dsimp only; omega, by simp [Math.sumK]⟩ (fun _ h => h.pick []) ⟨rfl, rfl, rfl, trivial⟩ ?_
  rintro ⟨i, l⟩ τ1 ⟨hi, hl0, hlq⟩
  dsimp only at hi hl0 hlq
  refine hRe [(0, .slice az nz cz), (1, .int .i64 l), (5, .int .i64 (i : Int))] [] rfl rfl ?_
  refine hSeq ?_
  refine hSeq ?_
  refine hReg (sq 0 (sq 1 (sq 2 (sq 3 sz)))) (by kernel_rfl) ?_
  refine mvI rfl rfl rfl ?_
  refine mvS rfl rfl rfl ?_
  refine lenS Tryd.runUnderlying34 rfl rfl rfl ?_
  refine lss rfl rfl rfl rfl ?_
  refine rNil ?_
  refine qSeq rfl ?_
  refine hIfD rfl (fun c2 => ?_) (fun c2 => ?_)
  ·
   replace c2 : (i : Int) < (nz : Int) := c2
   have hst := Math.sumK_step Math.rwl (l := z) (i := i) [] (by omega)
   have hle := Math.sumK_le Math.rwl z (i + 1)
   refine hSkip ?_
   refine qSeq rfl ?_
   refine hSeq ?_
   refine hBlk ?_
   refine hSeq ?_
   refine hReg (sq 0 (sq 1 (sq 2 (sl 3 (sq 4 (sl 5 (sq 6 sz))))))) (by kernel_rfl) ?_
   refine mvS rfl rfl rfl ?_
   refine mvI rfl rfl rfl ?_
   refine ixRl (zn := i) (z.getD i []) el34 (kz) rfl rfl rfl rfl (by omega) (by omega) rfl (nth [] (by omega)) ?_
   intro be1 oe1 e1
   refine ldl Tryd.isAgg59 (Kn.fld e1 0 rfl) trv rfl rfl rfl ?_
   refine mvI rfl rfl rfl ?_
   refine callP (v := .int .i64 ((Math.cut l ((z.getD i []).length : Int)))) Tryd.call48 trv rfl rfl (fun w hs => laws_szInt64S_c _ _ _ _ _ w ((Kn.imp kz fun _ h => h.kidM (nth [] (by omega))) w hs) (by omega)) ?_
   refine asI rfl rfl rfl ?_
   refine rNil ?_
   refine qSeq rfl ?_
   refine hSeq ?_
   refine hReg (sq 0 (sq 1 sz)) (by kernel_rfl) ?_
   refine mvI rfl rfl rfl ?_
   refine lss rfl rfl rfl rfl ?_
   refine rNil ?_
   refine qSeq rfl ?_
   refine hIfD rfl (fun c3 => ?_) (fun c3 => ?_)
   ·
    replace c3 : (Math.cut l ((z.getD i []).length : Int)) < 0 := c3
    have hcn := Math.cut_neg (s := (Math.rwl (z.getD i []) : Int)) c3 hl0
    refine hSeq ?_
    refine hReg (sq 0 sz) (by kernel_rfl) ?_
    refine asI rfl rfl rfl ?_
    refine rNil ?_
    refine qSeq rfl ?_
    refine hRet ?_
    exact fun w hs => ⟨[.int .i64 (-1)], ⟨rfl, trivial⟩, ⟨by first | rfl | exact vI (by rw [Math.cut_no (by omega)]) | exact vI (by rw [Math.cut_yes (by omega)]; omega), hs.upd⟩⟩
   ·
    replace c3 : ¬ ((Math.cut l ((z.getD i []).length : Int)) < 0) := c3
    refine hSkip ?_
    refine qSeq rfl ?_
    refine hReg (sq 0 (sq 1 (sq 2 sz))) (by kernel_rfl) ?_
    refine mvI rfl rfl rfl ?_
    refine add rfl rfl rfl rfl (by omega) ?_
    refine asI rfl rfl rfl ?_
    refine rNil ?_
    have hcp := Math.cut_pos (s := (Math.rwl (z.getD i []) : Int)) c3
    exact qNext rfl ((i + 1, Math.cut l (Math.rwl (z.getD i []) : Int))) (by dsimp only; omega) ⟨by omega, by dsimp only; omega, by dsimp only; omega⟩ ⟨rfl, rfl, rfl, trivial⟩ (fun _ h => h.pick [])
  ·
   replace c2 : ¬ ((i : Int) < (nz : Int)) := c2
   have hall := Math.sumK_all Math.rwl (l := z) (i := i) (by omega)
   refine hExit rfl ?_
   refine qSeq rfl ?_
   refine hSeq ?_
   refine hReg (sq 0 (sq 1 sz)) (by kernel_rfl) ?_
   refine mvI rfl rfl rfl ?_
   refine asI rfl rfl rfl ?_
   refine rNil ?_
   refine qSeq rfl ?_
   refine hRet ?_
   exact fun w hs => ⟨[.int .i64 l], ⟨rfl, trivial⟩, ⟨by first | rfl | exact vI (by rw [Math.cut_no (by omega)]) | exact vI (by rw [Math.cut_yes (by omega)]; omega), hs.upd⟩⟩
theorem laws_toInt64SS_c (az : Option Addr) (nz : Nat) (cz : Nat) (Hz : Nat → Hd) (z : List (List Int)) (w : World) (rz : RdR maK az nz Hz z w) (hz : Math.szK Math.rwl z ≤ 1048576) :
  Calls Tryd.prog 30 #[.slice az nz cz] w (Ret fun v w' => ∃ x : Option Addr × Nat × Nat × (Nat → Hd) × List (List Int), v = .slice x.1 x.2.1 x.2.2.1 ∧ (x.2.2.2.2 = z) ∧ Sep w none_ [OwnR maK 59 2 x.1 x.2.1 x.2.2.1 x.2.2.2.1 x.2.2.2.2] w') := by
 have kz : Kn w none_ [] (RdR maK az nz Hz z) := fun w' hs => rz.ext hs.upd
 have lz : z.length = nz := rz.1
 have mz : nz ≤ 9223372036854775807 := rz.2.1
 have hz1 := Math.szK_len hz
 refine fn (M := none_) (rs := [.tmp 2]) Tryd.func30 rfl Tryd.ntmps30 rfl rfl (Sep.start _ _) ?_
 refine hSeq ?_
 refine hReg (sq 0 sz) (by kernel_rfl) ?_
 refine asS rfl rfl rfl ?_
 refine rNil ?_
 refine qSeq rfl ?_
 refine hSeq ?_
 refine hReg (sq 0 (sq 1 (sl 2 (sq 3 sz)))) (by kernel_rfl) ?_
 refine mvS rfl rfl rfl ?_
 refine lenS Tryd.runUnderlying34 rfl rfl rfl ?_
 refine mksR (e1 := 2) nz [] maK.ok rfl rfl mk34 trv1 rfl rfl rfl rfl (rfl) (by omega) (fun bkm1 hbkm1 => ?_)
 refine asS rfl rfl rfl ?_
 refine rNil ?_
 refine qSeq rfl ?_
 refine hSeq ?_
 refine hSeq ?_
 refine hReg (sq 0 sz) (by kernel_rfl) ?_
 refine asI rfl rfl rfl ?_
 refine rNil ?_
 refine qSeq rfl ?_
 refine hBlk ?_
 rw [Math.fill_start z nz []]
 refine hLoop (α := Nat × (Nat → Hd)) (fun x => x.1 ≤ nz) (fun x => nz - x.1) (fun x => [OwnR maK 59 2 (some ⟨bkm1, 0, none⟩) nz nz x.2 ((z.take x.1 ++ List.replicate (nz - x.1) []))]) (fun x => [(0, .slice az nz cz), (3, .slice (some ⟨bkm1, 0, none⟩) nz nz), (4, .int .i64 (x.1 : Int))]) ((0, fun _ => (none, 0))) (Nat.zero_le _) (fun _ h => h.pick [0]) ⟨rfl, rfl, rfl, trivial⟩ ?_
 rintro ⟨i, hh⟩ τ1 hi
 dsimp only at hi
 refine hRe [(0, .slice az nz cz), (3, .slice (some ⟨bkm1, 0, none⟩) nz nz), (4, .int .i64 (i : Int))] [OwnR maK 59 2 (some ⟨bkm1, 0, none⟩) nz nz hh ((z.take i ++ List.replicate (nz - i) []))] rfl rfl ?_
 refine hSeq ?_
 refine hSeq ?_
 refine hReg (sq 0 (sq 1 (sq 2 (sq 3 sz)))) (by kernel_rfl) ?_
 refine mvI rfl rfl rfl ?_
 refine mvS rfl rfl rfl ?_
 refine lenS Tryd.runUnderlying34 rfl rfl rfl ?_
 refine lss rfl rfl rfl rfl ?_
 refine rNil ?_
 refine qSeq rfl ?_
 refine hIfD rfl (fun c1 => ?_) (fun c1 => ?_)
 ·
  replace c1 : (i : Int) < (nz : Int) := c1
  have hch := Math.szK_at [] hz (show i < z.length by omega)
  refine hSkip ?_
  refine qSeq rfl ?_
  refine hSeq ?_
  refine hBlk ?_
  refine hReg (sq 0 (sq 1 (sq 2 (sq 3 (sq 4 (sl 5 (sl 6 (sq 7 (sl 8 sz))))))))) (by kernel_rfl) ?_
  refine mvS rfl rfl rfl ?_
  refine mvI rfl rfl rfl ?_
  refine mvS rfl rfl rfl ?_
  refine mvI rfl rfl rfl ?_
  refine ixRl (zn := i) (z.getD i []) el34 (Kn.drop (k := 1) kz) rfl rfl rfl rfl (by omega) (by omega) rfl (nth [] (by omega)) ?_
  intro be1 oe1 e1
  refine ldl Tryd.isAgg59 (Kn.fld e1 0 rfl) trv rfl rfl rfl ?_
  refine callS Tryd.call52 trv1 rfl rfl (fun w hs => laws_toInt64S_c _ _ _ _ w (Kn.drop (k := 1) ((Kn.imp kz fun _ h => h.kidM (nth [] (by omega)))) w hs) hch) ?_
  rintro ⟨ay2, ny2, cy2, y2⟩ hr2
  try dsimp only at hr2
  refine oxR (zn := i) 1 rfl el34 rfl rfl rfl rfl (by omega) (by omega) rfl ?_
  intro gk3 hgk3
  refine stR (hd := (ay2, cy2)) (x := y2) (v := .slice ay2 ny2 cy2) i 1 0 maK.ok rfl rfl hgk3 Tryd.sizeOf59 trv rfl rfl rfl rfl rfl (fun h => by first | rfl | (dsimp only at h; rw [h]; rfl) | (rw [h]; rfl) | exact congrArg (fun m => [Value.slice _ m _]) h | (simp only [maK, List.length_replicate]; rfl)) (by omega) ?_
  refine rNil ?_
  refine qSeq rfl ?_
  refine hReg (sq 0 (sq 1 (sq 2 sz))) (by kernel_rfl) ?_
  refine mvI rfl rfl rfl ?_
  refine add rfl rfl rfl rfl (by omega) ?_
  refine asI rfl rfl rfl ?_
  refine rNil ?_
  rw [hr2, Math.fill_step [] [] lz (by omega)]
  exact qNext rfl ((i + 1, (hset hh i (ay2, cy2)))) (by dsimp only; omega) (by dsimp only; omega) ⟨rfl, rfl, rfl, trivial⟩ (fun _ h => h.pick [0])
 ·
  replace c1 : ¬ ((i : Int) < (nz : Int)) := c1
  refine hExit rfl ?_
  refine qSeq rfl ?_
  refine hSeq ?_
  refine hReg (sq 0 (sq 1 sz)) (by kernel_rfl) ?_
  refine mvS rfl rfl rfl ?_
  refine asS rfl rfl rfl ?_
  refine rNil ?_
  refine qSeq rfl ?_
  refine hRet ?_
  exact fun w hs => ⟨[.slice (some ⟨bkm1, 0, none⟩) nz nz], ⟨rfl, trivial⟩, ⟨((some ⟨bkm1, 0, none⟩), nz, nz, hh, (z.take i ++ List.replicate (nz - i) [])), rfl, Math.fill_end _ lz (by omega), hs.pick [0]⟩⟩
theorem laws_eqInt64SS_c (az : Option Addr) (nz : Nat) (cz : Nat) (Hz : Nat → Hd) (z : List (List Int)) (ay : Option Addr) (ny : Nat) (cy : Nat) (Hy : Nat → Hd) (y : List (List Int)) (w : World) (rz : RdR maK az nz Hz z w) (ry : RdR maK ay ny Hy y w) (heq : z = y) :
  Calls Tryd.prog 36 #[.slice az nz cz, .slice ay ny cy] w (Ret fun v w' => v = .bool true ∧ Ext w w') := by
 have kz : Kn w none_ [] (RdR maK az nz Hz z) := fun w' hs => rz.ext hs.upd
 have lz : z.length = nz := rz.1
 have mz : nz ≤ 9223372036854775807 := rz.2.1
 have ky : Kn w none_ [] (RdR maK ay ny Hy y) := fun w' hs => ry.ext hs.upd
 have ly : y.length = ny := ry.1
 have my : ny ≤ 9223372036854775807 := ry.2.1
 have ly2 : y.length = nz := by rw [← heq]; exact lz
 refine fn (M := none_) (rs := [.tmp 4]) Tryd.func36 rfl Tryd.ntmps36 rfl rfl (Sep.start _ _) ?_
 refine hSeq ?_
 refine hReg (sq 0 sz) (by kernel_rfl) ?_
 refine asB rfl rfl rfl ?_
 refine rNil ?_
 refine qSeq rfl ?_
 refine hSeq ?_
 refine hSeq ?_
 refine hReg (sq 0 (sq 1 (sq 2 (sq 3 (sq 4 sz))))) (by kernel_rfl) ?_
 refine mvS rfl rfl rfl ?_
 refine lenS Tryd.runUnderlying34 rfl rfl rfl ?_
 refine mvS rfl rfl rfl ?_
 refine lenS Tryd.runUnderlying34 rfl rfl rfl ?_
 refine neq rfl rfl rfl rfl ?_
 refine rNil ?_
 refine qSeq rfl ?_
 refine hIfD rfl (fun c1 => ?_) (fun c1 => ?_)
 ·
  replace c1 : (nz : Int) ≠ (ny : Int) := c1
  exact absurd c1 (by omega)
 ·
  replace c1 : ¬ ((nz : Int) ≠ (ny : Int)) := c1
  refine hSkip ?_
  refine qSeq rfl ?_
  refine hSeq ?_
  refine hSeq ?_
  refine hReg (sq 0 sz) (by kernel_rfl) ?_
  refine asI rfl rfl rfl ?_
  refine rNil ?_
  refine qSeq rfl ?_
  refine hBlk ?_
  refine hLoop (α := Nat) (fun i => i ≤ nz) (fun i => nz - i) (fun i => []) (fun i => [(0, .slice az nz cz), (1, .slice ay ny cy), (5, .int .i64 (i : Int))]) 0 (Nat.zero_le _) (fun _ h => h.pick []) ⟨rfl, rfl, rfl, trivial⟩ ?_
  rintro i τ1 hi
  refine hSeq ?_
  refine hSeq ?_
  refine hReg (sq 0 (sq 1 (sq 2 (sq 3 sz)))) (by kernel_rfl) ?_
  refine mvI rfl rfl rfl ?_
  refine mvS rfl rfl rfl ?_
  refine lenS Tryd.runUnderlying34 rfl rfl rfl ?_
  refine lss rfl rfl rfl rfl ?_
  refine rNil ?_
  refine qSeq rfl ?_
  refine hIfD rfl (fun c2 => ?_) (fun c2 => ?_)
  ·
   replace c2 : (i : Int) < (nz : Int) := c2
   refine hSkip ?_
   refine qSeq rfl ?_
   refine hSeq ?_
   refine hBlk ?_
   refine hSeq ?_
   refine hDraw (Ls := []) (by kernel_rfl) (sq 0 (sq 1 (sq 2 (sq 3 (sq 4 (sq 5 (sq 6 (sq 7 (sl 8 (sq 9 sz)))))))))) (by kernel_rfl) .slnil ?_
   refine mvS rfl rfl rfl ?_
   refine mvI rfl rfl rfl ?_
   refine ixRq (zn := i) (z.getD i []) el34 (kz) (fun _ h => h.pick []) rfl rfl rfl rfl (by omega) (by omega) rfl (nth [] (by omega)) ?_
   intro be1 oe1 e1
   refine ldq Tryd.isAgg59 (Kn.fld e1 0 rfl) rfl rfl rfl ?_
   refine mvS rfl rfl rfl ?_
   refine mvI rfl rfl rfl ?_
   refine ixRq (zn := i) (y.getD i []) el34 (ky) (fun _ h => h.pick []) rfl rfl rfl rfl (by omega) (by omega) rfl (nth [] (by omega)) ?_
   intro be2 oe2 e2
   refine ldq Tryd.isAgg59 (Kn.fld e2 0 rfl) rfl rfl rfl ?_
   refine callP (v := .bool true) Tryd.call58 (fun _ h => h.pick []) rfl rfl (fun w hs => laws_eqInt64S_c _ _ _ _ _ _ _ _ w ((Kn.imp kz fun _ h => h.kidM (nth [] (by omega))) w hs) ((Kn.imp ky fun _ h => h.kidM (nth [] (by omega))) w hs) (by first | rfl | assumption | (rw [heq]) | (simp only [*]))) ?_
   refine not rfl rfl rfl ?_
   refine rNil ?_
   refine qSeq rfl ?_
   refine hIfF rfl ?_
   refine hSkip ?_
   refine qSeq rfl ?_
   refine hReg (sq 0 (sq 1 (sq 2 sz))) (by kernel_rfl) ?_
   refine mvI rfl rfl rfl ?_
   refine add rfl rfl rfl rfl (by omega) ?_
   refine asI rfl rfl rfl ?_
   refine rNil ?_
   exact qNext rfl (i + 1) (by omega) (by omega) ⟨rfl, rfl, rfl, trivial⟩ (fun _ h => h.pick [])
  ·
   replace c2 : ¬ ((i : Int) < (nz : Int)) := c2
   refine hExit rfl ?_
   refine qSeq rfl ?_
   refine hSeq ?_
   refine hReg (sq 0 sz) (by kernel_rfl) ?_
   refine asB rfl rfl rfl ?_
   refine rNil ?_
   refine qSeq rfl ?_
   refine hRet ?_
   exact fun w hs => ⟨[.bool true], ⟨rfl, trivial⟩, ⟨by first | rfl | exact bD (by omega) | exact bT (by omega) | exact bF (by omega) | exact vI (by omega), hs.upd⟩⟩
theorem laws_toGame_c (az : Option Addr) (nz : Nat) (cz : Nat) (Hz : Nat → Hd) (z : List Nd) (aws : Option Addr) (nws : Nat) (cws : Nat) (Hws : Nat → Hd) (ws : List (List Int)) (avs : Option Addr) (nvs : Nat) (cvs : Nat) (Hvs : Nat → Hd) (vs : List (List Int)) (w : World) (rz : RdR ndK az nz Hz z w) (rws : RdR maK aws nws Hws ws w) (rvs : RdR maK avs nvs Hvs vs w) (hz : Math.szK Math.chl z ≤ 1048576) (hw : Math.szK Math.rwl ws ≤ 1048576) (hv : Math.szK Math.rwl vs ≤ 1048576) :
  Calls Tryd.prog 13 #[.agg #[.slice az nz cz, .slice aws nws cws, .slice avs nvs cvs]] w (Ret fun v w' => ∃ x : Option Addr × Nat × Nat × (Nat → Hd) × List Nd × Option Addr × Nat × Nat × (Nat → Hd) × List (List Int) × Option Addr × Nat × Nat × (Nat → Hd) × List (List Int), v = .agg #[.slice x.1 x.2.1 x.2.2.1, .slice x.2.2.2.2.2.1 x.2.2.2.2.2.2.1 x.2.2.2.2.2.2.2.1, .slice x.2.2.2.2.2.2.2.2.2.2.1 x.2.2.2.2.2.2.2.2.2.2.2.1 x.2.2.2.2.2.2.2.2.2.2.2.2.1] ∧ (x.2.2.2.2.1 = z ∧ x.2.2.2.2.2.2.2.2.2.1 = ws ∧ x.2.2.2.2.2.2.2.2.2.2.2.2.2.2 = vs) ∧ Sep w none_ [OwnR ndK 78 2 x.1 x.2.1 x.2.2.1 x.2.2.2.1 x.2.2.2.2.1, OwnR maK 59 2 x.2.2.2.2.2.1 x.2.2.2.2.2.2.1 x.2.2.2.2.2.2.2.1 x.2.2.2.2.2.2.2.2.1 x.2.2.2.2.2.2.2.2.2.1, OwnR maK 59 2 x.2.2.2.2.2.2.2.2.2.2.1 x.2.2.2.2.2.2.2.2.2.2.2.1 x.2.2.2.2.2.2.2.2.2.2.2.2.1 x.2.2.2.2.2.2.2.2.2.2.2.2.2.1 x.2.2.2.2.2.2.2.2.2.2.2.2.2.2] w') := by
 have kz : Kn w none_ [] (RdR ndK az nz Hz z) := fun w' hs => rz.ext hs.upd
 have lz : z.length = nz := rz.1
 have mz : nz ≤ 9223372036854775807 := rz.2.1
 have kws : Kn w none_ [] (RdR maK aws nws Hws ws) := fun w' hs => rws.ext hs.upd
 have lws : ws.length = nws := rws.1
 have mws : nws ≤ 9223372036854775807 := rws.2.1
 have kvs : Kn w none_ [] (RdR maK avs nvs Hvs vs) := fun w' hs => rvs.ext hs.upd
 have lvs : vs.length = nvs := rvs.1
 have mvs : nvs ≤ 9223372036854775807 := rvs.2.1
 refine fn (M := none_) (rs := [.cell 2 43]) Tryd.func13 rfl Tryd.ntmps13 rfl rfl (Sep.start _ _) ?_
 refine hSeq ?_
 refine hReg (sl 0 (sl 1 sz)) (by kernel_rfl) ?_
 refine box trv1 rfl rfl rfl rfl (fun bkb1 hbkb1 => ?_)
 refine alc Tryd.zeroValue43 rfl trv1 rfl rfl (fun bka2 hbka2 => ?_)
 refine rNil ?_
 refine qSeq rfl ?_
 refine hSeq ?_
 refine hReg (sl 0 sz) (by kernel_rfl) ?_
 refine alc Tryd.zeroValue43 rfl trv1 rfl rfl (fun bka3 hbka3 => ?_)
 refine rNil ?_
 refine qSeq rfl ?_
 refine hSeq ?_
 refine hReg (sq 0 (sl 1 (sl 2 (sq 3 (sl 4 sz))))) (by kernel_rfl) ?_
 refine fld fl36_0 rfl rfl rfl ?_
 refine ldAl Tryd.isAgg24 Tryd.sizeOf24 (cBp (m := 1) 2 rfl rfl) trv rfl rfl rfl rfl ?_
 refine callS Tryd.call7 trv1 rfl rfl (fun w hs => laws_toTree_c _ _ _ _ _ w (Kn.drop (k := 3) kz w hs) (by first | assumption | omega)) ?_
 rintro ⟨ay1, ny1, cy1, Hy1, y1⟩ hr1
 try dsimp only at hr1
 refine fld fl43_0 rfl rfl rfl ?_
 refine stApl 1 rfl Tryd.sizeOf30 trv rfl rfl rfl rfl rfl (by simp [Value.oneCell']) rfl ?_
 dsimp only [List.take, List.drop, List.append, List.cons_append, List.nil_append, List.length, Nat.reduceAdd]
 refine rNil ?_
 refine qSeq rfl ?_
 refine hSeq ?_
 refine hReg (sq 0 (sl 1 (sl 2 (sq 3 (sl 4 sz))))) (by kernel_rfl) ?_
 refine fld fl36_1 rfl rfl rfl ?_
 refine ldl Tryd.isAgg34 (cB 3 rfl rfl) trv rfl rfl rfl ?_
 refine callS Tryd.call30 trv1 rfl rfl (fun w hs => laws_toInt64SS_c _ _ _ _ _ w (Kn.drop (k := 4) kws w hs) (by first | assumption | omega)) ?_
 rintro ⟨ay2, ny2, cy2, Hy2, y2⟩ hr2
 try dsimp only at hr2
 refine fld fl43_1 rfl rfl rfl ?_
 refine stl (v := .slice _ _ _) 2 rfl Tryd.sizeOf34 trv rfl rfl rfl rfl rfl (Nat.le_of_ble_eq_true rfl) ?_
 refine rNil ?_
 refine qSeq rfl ?_
 refine hSeq ?_
 refine hReg (sq 0 (sl 1 (sl 2 (sq 3 (sl 4 sz))))) (by kernel_rfl) ?_
 refine fld fl36_2 rfl rfl rfl ?_
 refine ldl Tryd.isAgg34 (cB 4 rfl rfl) trv rfl rfl rfl ?_
 refine callS Tryd.call30 trv1 rfl rfl (fun w hs => laws_toInt64SS_c _ _ _ _ _ w (Kn.drop (k := 5) kvs w hs) (by first | assumption | omega)) ?_
 rintro ⟨ay3, ny3, cy3, Hy3, y3⟩ hr3
 try dsimp only at hr3
 refine fld fl43_2 rfl rfl rfl ?_
 refine stl (v := .slice _ _ _) 3 rfl Tryd.sizeOf34 trv rfl rfl rfl rfl rfl (Nat.le_of_ble_eq_true rfl) ?_
 refine rNil ?_
 refine qSeq rfl ?_
 refine hSeq ?_
 refine hReg (sl 0 (sl 1 sz)) (by kernel_rfl) ?_
 refine ldAl Tryd.isAgg43 Tryd.sizeOf43 (cBs 3 rfl) trv rfl rfl rfl rfl ?_
 refine stAl (vs := [.slice ay1 ny1 cy1, .slice ay2 ny2 cy2, .slice ay3 ny3 cy3]) 4 rfl Tryd.sizeOf43 trv rfl rfl rfl rfl rfl (by simp [Value.oneCell']) rfl ?_
 refine rNil ?_
 refine qSeq rfl ?_
 refine hRet ?_
 exact fun w hs => ⟨[_], ⟨⟨_, rfl, run_load_agg Tryd.isAgg43 Tryd.sizeOf43 rfl (cBs 4 rfl w hs)⟩, trivial⟩, ⟨(ay1, ny1, cy1, Hy1, y1, ay2, ny2, cy2, Hy2, y2, ay3, ny3, cy3, Hy3, y3), rfl, ⟨hr1, hr2, hr3⟩, hs.pick [2, 1, 0]⟩⟩
theorem laws_eqGame_c (az : Option Addr) (nz : Nat) (cz : Nat) (Hz : Nat → Hd) (z : List Nd) (aws : Option Addr) (nws : Nat) (cws : Nat) (Hws : Nat → Hd) (ws : List (List Int)) (avs : Option Addr) (nvs : Nat) (cvs : Nat) (Hvs : Nat → Hd) (vs : List (List Int)) (ay : Option Addr) (ny : Nat) (cy : Nat) (Hy : Nat → Hd) (y : List Nd) (ayw : Option Addr) (nyw : Nat) (cyw : Nat) (Hyw : Nat → Hd) (yw : List (List Int)) (ayv : Option Addr) (nyv : Nat) (cyv : Nat) (Hyv : Nat → Hd) (yv : List (List Int)) (w : World) (rz : RdR ndK az nz Hz z w) (rws : RdR maK aws nws Hws ws w) (rvs : RdR maK avs nvs Hvs vs w) (ry : RdR ndK ay ny Hy y w) (ryw : RdR maK ayw nyw Hyw yw w) (ryv : RdR maK ayv nyv Hyv yv w) (heq : z = y ∧ ws = yw ∧ vs = yv) :
  Calls Tryd.prog 16 #[.agg #[.slice az nz cz, .slice aws nws cws, .slice avs nvs cvs], .agg #[.slice ay ny cy, .slice ayw nyw cyw, .slice ayv nyv cyv]] w (Ret fun v w' => v = .bool true ∧ Ext w w') := by
 have kz : Kn w none_ [] (RdR ndK az nz Hz z) := fun w' hs => rz.ext hs.upd
 have lz : z.length = nz := rz.1
 have mz : nz ≤ 9223372036854775807 := rz.2.1
 have kws : Kn w none_ [] (RdR maK aws nws Hws ws) := fun w' hs => rws.ext hs.upd
 have lws : ws.length = nws := rws.1
 have mws : nws ≤ 9223372036854775807 := rws.2.1
 have kvs : Kn w none_ [] (RdR maK avs nvs Hvs vs) := fun w' hs => rvs.ext hs.upd
 have lvs : vs.length = nvs := rvs.1
 have mvs : nvs ≤ 9223372036854775807 := rvs.2.1
 have ky : Kn w none_ [] (RdR ndK ay ny Hy y) := fun w' hs => ry.ext hs.upd
 have ly : y.length = ny := ry.1
 have my : ny ≤ 9223372036854775807 := ry.2.1
 have kyw : Kn w none_ [] (RdR maK ayw nyw Hyw yw) := fun w' hs => ryw.ext hs.upd
 have lyw : yw.length = nyw := ryw.1
 have myw : nyw ≤ 9223372036854775807 := ryw.2.1
 have kyv : Kn w none_ [] (RdR maK ayv nyv Hyv yv) := fun w' hs => ryv.ext hs.upd
 have lyv : yv.length = nyv := ryv.1
 have myv : nyv ≤ 9223372036854775807 := ryv.2.1
 refine fn (M := none_) (rs := [.tmp 4]) Tryd.func16 rfl Tryd.ntmps16 rfl rfl (Sep.start _ _) ?_
 refine hSeq ?_
 refine hReg (sl 0 (sl 1 (sq 2 sz))) (by kernel_rfl) ?_
 refine box trv1 rfl rfl rfl rfl (fun bkb1 hbkb1 => ?_)
 refine box trv1 rfl rfl rfl rfl (fun bkb2 hbkb2 => ?_)
 refine asB rfl rfl rfl ?_
 refine rNil ?_
 refine qSeq rfl ?_
 refine hSeq ?_
 refine hSeq ?_
 refine hReg (sq 0 (sl 1 (sq 2 (sl 3 (sl 4 (sq 5 sz)))))) (by kernel_rfl) ?_
 refine fld fl43_0 rfl rfl rfl ?_
 refine ldAl Tryd.isAgg30 Tryd.sizeOf30 (cBp (m := 1) 1 rfl rfl) trv rfl rfl rfl rfl ?_
 refine fld fl43_0 rfl rfl rfl ?_
 refine ldAl Tryd.isAgg30 Tryd.sizeOf30 (cBp (m := 1) 0 rfl rfl) trv rfl rfl rfl rfl ?_
 refine callP (v := .bool true) Tryd.call9 trv rfl rfl (fun w hs => laws_eqTree_c _ _ _ _ _ _ _ _ _ _ w (Kn.drop (k := 2) kz w hs) (Kn.drop (k := 2) ky w hs) heq.1) ?_
 refine not rfl rfl rfl ?_
 refine rNil ?_
 refine qSeq rfl ?_
 refine hIfF rfl ?_
 refine hSkip ?_
 refine qSeq rfl ?_
 refine hSeq ?_
 refine hSeq ?_
 refine hReg (sq 0 (sl 1 (sq 2 (sl 3 (sl 4 (sq 5 sz)))))) (by kernel_rfl) ?_
 refine fld fl43_1 rfl rfl rfl ?_
 refine ldl Tryd.isAgg34 (cB 1 rfl rfl) trv rfl rfl rfl ?_
 refine fld fl43_1 rfl rfl rfl ?_
 refine ldl Tryd.isAgg34 (cB 0 rfl rfl) trv rfl rfl rfl ?_
 refine callP (v := .bool true) Tryd.call36 trv rfl rfl (fun w hs => laws_eqInt64SS_c _ _ _ _ _ _ _ _ _ _ w (Kn.drop (k := 2) kws w hs) (Kn.drop (k := 2) kyw w hs) heq.2.1) ?_
 refine not rfl rfl rfl ?_
 refine rNil ?_
 refine qSeq rfl ?_
 refine hIfF rfl ?_
 refine hSkip ?_
 refine qSeq rfl ?_
 refine hSeq ?_
 refine hSeq ?_
 refine hReg (sq 0 (sl 1 (sq 2 (sl 3 (sl 4 (sq 5 sz)))))) (by kernel_rfl) ?_
 refine fld fl43_2 rfl rfl rfl ?_
 refine ldl Tryd.isAgg34 (cB 1 rfl rfl) trv rfl rfl rfl ?_
 refine fld fl43_2 rfl rfl rfl ?_
 refine ldl Tryd.isAgg34 (cB 0 rfl rfl) trv rfl rfl rfl ?_
 refine callP (v := .bool true) Tryd.call36 trv rfl rfl (fun w hs => laws_eqInt64SS_c _ _ _ _ _ _ _ _ _ _ w (Kn.drop (k := 2) kvs w hs) (Kn.drop (k := 2) kyv w hs) heq.2.2) ?_
 refine not rfl rfl rfl ?_
 refine rNil ?_
 refine qSeq rfl ?_
 refine hIfF rfl ?_
 refine hSkip ?_
 refine qSeq rfl ?_
 refine hSeq ?_
 refine hReg (sq 0 sz) (by kernel_rfl) ?_
 refine asB rfl rfl rfl ?_
 refine rNil ?_
 refine qSeq rfl ?_
 refine hRet ?_
 exact fun w hs => ⟨[.bool true], ⟨rfl, trivial⟩, ⟨by first | rfl | exact bD (by omega) | exact bT (by omega) | exact bF (by omega) | exact vI (by omega), hs.upd⟩⟩
theorem laws_szStrategy_c (pl : Int) (aps : Option Addr) (nps : Nat) (cps : Nat) (Hps : Nat → Hd) (ps : List (List Int)) (left : Int) (w : World) (rps : RdR maK aps nps Hps ps w) (hl : 0 ≤ left ∧ left ≤ 1048576) :
  Calls Tryd.prog 11 #[.agg #[.int .i64 pl, .slice aps nps cps], .int .i64 left] w (Ret fun v w' => v = .int .i64 ((Math.cut left (Math.szK Math.rwl ps : Int))) ∧ Ext w w') := by
 have kps : Kn w none_ [] (RdR maK aps nps Hps ps) := fun w' hs => rps.ext hs.upd
 have lps : ps.length = nps := rps.1
 have mps : nps ≤ 9223372036854775807 := rps.2.1
 refine fn (M := none_) (rs := [.tmp 4]) Tryd.func11 rfl Tryd.ntmps11 rfl rfl (Sep.start _ _) ?_
 refine hSeq ?_
 refine hReg (sl 0 (sq 1 sz)) (by kernel_rfl) ?_
 refine box trv1 rfl rfl rfl rfl (fun bkb1 hbkb1 => ?_)
 refine asI rfl rfl rfl ?_
 refine rNil ?_
 refine qSeq rfl ?_
 refine hSeq ?_
 refine hReg (sq 0 (sl 1 (sq 2 (sl 3 (sq 4 sz))))) (by kernel_rfl) ?_
 refine fld fl38_1 rfl rfl rfl ?_
 refine ldl Tryd.isAgg34 (cB 0 rfl rfl) trv rfl rfl rfl ?_
 refine mvI rfl rfl rfl ?_
 refine callP (v := .int .i64 ((Math.cut left (Math.szK Math.rwl ps : Int)))) Tryd.call25 trv rfl rfl (fun w hs => laws_szInt64SS_c _ _ _ _ _ _ w (Kn.drop (k := 1) kps w hs) (by omega)) ?_
 refine asI rfl rfl rfl ?_
 refine rNil ?_
 refine qSeq rfl ?_
 refine hSeq ?_
 refine hSeq ?_
 refine hReg (sq 0 (sq 1 sz)) (by kernel_rfl) ?_
 refine mvI rfl rfl rfl ?_
 refine lss rfl rfl rfl rfl ?_
 refine rNil ?_
 refine qSeq rfl ?_
 refine hIfD rfl (fun c1 => ?_) (fun c1 => ?_)
 ·
  replace c1 : (Math.cut left (Math.szK Math.rwl ps : Int)) < 0 := c1
  refine hSeq ?_
  refine hReg (sq 0 sz) (by kernel_rfl) ?_
  refine asI rfl rfl rfl ?_
  refine rNil ?_
  refine qSeq rfl ?_
  refine hRet ?_
  exact fun w hs => ⟨[.int .i64 (-1)], ⟨rfl, trivial⟩, ⟨by first | rfl | exact vI (by have := c1; unfold Math.cut at *; split at this <;> split <;> omega), hs.upd⟩⟩
 ·
  replace c1 : ¬ ((Math.cut left (Math.szK Math.rwl ps : Int)) < 0) := c1
  refine hSkip ?_
  refine qSeq rfl ?_
  refine hSeq ?_
  refine hReg (sq 0 (sq 1 sz)) (by kernel_rfl) ?_
  refine mvI rfl rfl rfl ?_
  refine asI rfl rfl rfl ?_
  refine rNil ?_
  refine qSeq rfl ?_
  refine hRet ?_
  exact fun w hs => ⟨[.int .i64 ((Math.cut left (Math.szK Math.rwl ps : Int)))], ⟨rfl, trivial⟩, ⟨by first | rfl | exact vI (by have := c1; unfold Math.cut at *; split at this <;> split <;> omega), hs.upd⟩⟩
theorem laws_toStrategy_c (pl : Int) (aps : Option Addr) (nps : Nat) (cps : Nat) (Hps : Nat → Hd) (ps : List (List Int)) (w : World) (rps : RdR maK aps nps Hps ps w) (hz : Math.szK Math.rwl ps ≤ 1048576) :
  Calls Tryd.prog 14 #[.agg #[.int .i64 pl, .slice aps nps cps]] w (Ret fun v w' => ∃ x : Option Addr × Nat × Nat × (Nat → Hd) × List (List Int), v = .agg #[.int .i64 pl, .slice x.1 x.2.1 x.2.2.1] ∧ (x.2.2.2.2 = ps) ∧ Sep w none_ [OwnR maK 59 2 x.1 x.2.1 x.2.2.1 x.2.2.2.1 x.2.2.2.2] w') := by
 have kps : Kn w none_ [] (RdR maK aps nps Hps ps) := fun w' hs => rps.ext hs.upd
 have lps : ps.length = nps := rps.1
 have mps : nps ≤ 9223372036854775807 := rps.2.1
 refine fn (M := none_) (rs := [.cell 2 45]) Tryd.func14 rfl Tryd.ntmps14 rfl rfl (Sep.start _ _) ?_
 refine hSeq ?_
 refine hReg (sl 0 (sl 1 sz)) (by kernel_rfl) ?_
 refine box trv1 rfl rfl rfl rfl (fun bkb1 hbkb1 => ?_)
 refine alc Tryd.zeroValue45 rfl trv1 rfl rfl (fun bka2 hbka2 => ?_)
 refine rNil ?_
 refine qSeq rfl ?_
 refine hSeq ?_
 refine hReg (sl 0 sz) (by kernel_rfl) ?_
 refine alc Tryd.zeroValue45 rfl trv1 rfl rfl (fun bka3 hbka3 => ?_)
 refine rNil ?_
 refine qSeq rfl ?_
 refine hSeq ?_
 refine hReg (sq 0 (sl 1 (sq 2 (sl 3 sz)))) (by kernel_rfl) ?_
 refine fld fl38_0 rfl rfl rfl ?_
 refine ldl Tryd.isAgg2 (cB 2 rfl rfl) trv rfl rfl rfl ?_
 refine fld fl45_0 rfl rfl rfl ?_
 refine stl (v := .int .i64 _) 0 rfl Tryd.sizeOf2 trv rfl rfl rfl rfl rfl (Nat.le_of_ble_eq_true rfl) ?_
 refine rNil ?_
 refine qSeq rfl ?_
 refine hSeq ?_
 refine hReg (sq 0 (sl 1 (sl 2 (sq 3 (sl 4 sz))))) (by kernel_rfl) ?_
 refine fld fl38_1 rfl rfl rfl ?_
 refine ldl Tryd.isAgg34 (cB 2 rfl rfl) trv rfl rfl rfl ?_
 refine callS Tryd.call30 trv1 rfl rfl (fun w hs => laws_toInt64SS_c _ _ _ _ _ w (Kn.drop (k := 3) kps w hs) (by first | assumption | omega)) ?_
 rintro ⟨ay1, ny1, cy1, Hy1, y1⟩ hr1
 try dsimp only at hr1
 refine fld fl45_1 rfl rfl rfl ?_
 refine stl (v := .slice _ _ _) 1 rfl Tryd.sizeOf34 trv rfl rfl rfl rfl rfl (Nat.le_of_ble_eq_true rfl) ?_
 refine rNil ?_
 refine qSeq rfl ?_
 refine hSeq ?_
 refine hReg (sl 0 (sl 1 sz)) (by kernel_rfl) ?_
 refine ldAl Tryd.isAgg45 Tryd.sizeOf45 (cBs 1 rfl) trv rfl rfl rfl rfl ?_
 refine stAl (vs := [.int .i64 pl, .slice ay1 ny1 cy1]) 2 rfl Tryd.sizeOf45 trv rfl rfl rfl rfl rfl (by simp [Value.oneCell']) rfl ?_
 refine rNil ?_
 refine qSeq rfl ?_
 refine hRet ?_
 exact fun w hs => ⟨[_], ⟨⟨_, rfl, run_load_agg Tryd.isAgg45 Tryd.sizeOf45 rfl (cBs 2 rfl w hs)⟩, trivial⟩, ⟨(ay1, ny1, cy1, Hy1, y1), rfl, hr1, hs.pick [0]⟩⟩
theorem laws_eqStrategy_c (pl : Int) (aps : Option Addr) (nps : Nat) (cps : Nat) (Hps : Nat → Hd) (ps : List (List Int)) (ql : Int) (aqs : Option Addr) (nqs : Nat) (cqs : Nat) (Hqs : Nat → Hd) (qs : List (List Int)) (w : World) (rps : RdR maK aps nps Hps ps w) (rqs : RdR maK aqs nqs Hqs qs w) (heq : pl = ql ∧ ps = qs) :
  Calls Tryd.prog 17 #[.agg #[.int .i64 pl, .slice aps nps cps], .agg #[.int .i64 ql, .slice aqs nqs cqs]] w (Ret fun v w' => v = .bool true ∧ Ext w w') := by
 have kps : Kn w none_ [] (RdR maK aps nps Hps ps) := fun w' hs => rps.ext hs.upd
 have lps : ps.length = nps := rps.1
 have mps : nps ≤ 9223372036854775807 := rps.2.1
 have kqs : Kn w none_ [] (RdR maK aqs nqs Hqs qs) := fun w' hs => rqs.ext hs.upd
 have lqs : qs.length = nqs := rqs.1
 have mqs : nqs ≤ 9223372036854775807 := rqs.2.1
 refine fn (M := none_) (rs := [.tmp 4]) Tryd.func17 rfl Tryd.ntmps17 rfl rfl (Sep.start _ _) ?_
 refine hSeq ?_
 refine hReg (sl 0 (sl 1 (sq 2 sz))) (by kernel_rfl) ?_
 refine box trv1 rfl rfl rfl rfl (fun bkb1 hbkb1 => ?_)
 refine box trv1 rfl rfl rfl rfl (fun bkb2 hbkb2 => ?_)
 refine asB rfl rfl rfl ?_
 refine rNil ?_
 refine qSeq rfl ?_
 refine hSeq ?_
 refine hSeq ?_
 refine hReg (sq 0 (sl 1 (sq 2 (sl 3 (sq 4 sz))))) (by kernel_rfl) ?_
 refine fld fl45_0 rfl rfl rfl ?_
 refine ldl Tryd.isAgg2 (cB 1 rfl rfl) trv rfl rfl rfl ?_
 refine fld fl45_0 rfl rfl rfl ?_
 refine ldl Tryd.isAgg2 (cB 0 rfl rfl) trv rfl rfl rfl ?_
 refine neq rfl rfl rfl rfl ?_
 refine rNil ?_
 refine qSeq rfl ?_
 refine hIfD rfl (fun c1 => ?_) (fun c1 => ?_)
 ·
  replace c1 : pl ≠ ql := c1
  exact absurd heq.1 c1
 ·
  replace c1 : ¬ (pl ≠ ql) := c1
  refine hSkip ?_
  refine qSeq rfl ?_
  refine hSeq ?_
  refine hSeq ?_
  refine hReg (sq 0 (sl 1 (sq 2 (sl 3 (sl 4 (sq 5 sz)))))) (by kernel_rfl) ?_
  refine fld fl45_1 rfl rfl rfl ?_
  refine ldl Tryd.isAgg34 (cB 1 rfl rfl) trv rfl rfl rfl ?_
  refine fld fl45_1 rfl rfl rfl ?_
  refine ldl Tryd.isAgg34 (cB 0 rfl rfl) trv rfl rfl rfl ?_
  refine callP (v := .bool true) Tryd.call36 trv rfl rfl (fun w hs => laws_eqInt64SS_c _ _ _ _ _ _ _ _ _ _ w (Kn.drop (k := 2) kps w hs) (Kn.drop (k := 2) kqs w hs) heq.2) ?_
  refine not rfl rfl rfl ?_
  refine rNil ?_
  refine qSeq rfl ?_
  refine hIfF rfl ?_
  refine hSkip ?_
  refine qSeq rfl ?_
  refine hSeq ?_
  refine hReg (sq 0 sz) (by kernel_rfl) ?_
  refine asB rfl rfl rfl ?_
  refine rNil ?_
  refine qSeq rfl ?_
  refine hRet ?_
  exact fun w hs => ⟨[.bool true], ⟨rfl, trivial⟩, ⟨by first | rfl | exact bD (by omega) | exact bT (by omega) | exact bF (by omega) | exact vI (by omega), hs.upd⟩⟩
end Go.Proofs.YtgnfffdenbiipaaDoor
/- Contracts of what the program does with lists. Their conditions stand in each. -/
namespace Go.Proofs.YtgnfffdenbiipaaDoor
open Go Go.RowKit V
set_option linter.unusedVariables false
set_option linter.unusedSimpArgs false
set_option maxRecDepth 100000
theorem impl_allWithin_c (az : Option Addr) (nz : Nat) (cz : Nat) (z : List Int) (lo : Int) (up : Int) (w : World) (rz : RdI az nz z w) :
  Calls Tryd.prog 43 #[.slice az nz cz, .int .i64 lo, .int .i64 up] w (Ret fun v w' => v = .bool ((z.all (Math.inB lo up))) ∧ Ext w w') := by
 have kz : Kn w none_ [] (RdI az nz z) := fun w' hs => rz.ext hs.upd
 have lz : z.length = nz := rz.1
 have mz : nz ≤ 9223372036854775807 := rz.2.1
 refine fn (M := none_) (rs := [.tmp 6]) Tryd.func43 rfl Tryd.ntmps43 rfl rfl (Sep.start _ _) ?_
 refine hSeq ?_
 refine hReg (sq 0 sz) (by kernel_rfl) ?_
 refine asB rfl rfl rfl ?_
 refine rNil ?_
 refine qSeq rfl ?_
 refine hSeq ?_
 refine hSeq ?_
 refine hReg (sq 0 (sq 1 (sq 2 sz))) (by kernel_rfl) ?_
 refine mvS rfl rfl rfl ?_
 refine lenS Tryd.runUnderlying59 rfl rfl rfl ?_
 refine mvI rfl rfl rfl ?_
 refine rNil ?_
 refine qSeq rfl ?_
 refine hBlk ?_
 refine hLoop (α := Nat) (fun i => i ≤ nz ∧ ∀ j, j < i → Math.inB lo up (z.getD j 0) = true) (fun i => nz - i) (fun i => []) (fun i => [(1, .int .i64 lo), (2, .int .i64 up), (9, .slice az nz cz), (10, .int .i64 (nz : Int)), (11, .int .i64 (i : Int))]) 0 ⟨Nat.zero_le _, fun j hj => by omega⟩ (fun _ h => h.pick []) ⟨rfl, rfl, rfl, rfl, rfl, trivial⟩ ?_
 rintro i τ1 ⟨hi, hal⟩
 refine hSeq ?_
 refine hReg (sq 0 sz) (by kernel_rfl) ?_
 refine lss rfl rfl rfl rfl ?_
 refine rNil ?_
 refine qSeq rfl ?_
 refine hSeq ?_
 refine hIfD rfl (fun c1 => ?_) (fun c1 => ?_)
 ·
  replace c1 : (i : Int) < (nz : Int) := c1
  refine hSkip ?_
  refine qSeq rfl ?_
  refine hSeq ?_
  refine hBlk ?_
  refine hSeq ?_
  refine hReg (sq 0 (sl 1 (sq 2 sz))) (by kernel_rfl) ?_
  refine ixIl (zn := i) el59 (kz) rfl rfl rfl rfl (by omega) (by omega) rfl ?_
  intro ae1 e1
  refine ldl Tryd.isAgg2 (e1) trv rfl rfl rfl ?_
  refine asI rfl rfl rfl ?_
  refine rNil ?_
  refine qSeq rfl ?_
  refine hSeq ?_
  refine hReg (sq 0 (sq 1 (sq 2 (sl 3 (sq 4 sz))))) (by kernel_rfl) ?_
  refine mvI rfl rfl rfl ?_
  refine mvI rfl rfl rfl ?_
  refine mvI rfl rfl rfl ?_
  refine callP (v := .bool ((Math.inB lo up (z.getD i 0)))) Tryd.call42 trv rfl rfl (fun w hs => impl_within_c _ _ _ w ) ?_
  refine not rfl rfl rfl ?_
  refine rNil ?_
  refine qSeq rfl ?_
  refine hIfN rfl (fun c2 => ?_) (fun c2 => ?_)
  ·
   replace c2 : (Math.inB lo up (z.getD i 0)) = false := c2
   refine hSeq ?_
   refine hReg (sq 0 sz) (by kernel_rfl) ?_
   refine asB rfl rfl rfl ?_
   refine rNil ?_
   refine qSeq rfl ?_
   refine hRet ?_
   exact fun w hs => ⟨[.bool false], ⟨rfl, trivial⟩, ⟨bB (Math.all_no 0 (i := i) (by omega) c2).symm, hs.upd⟩⟩
  ·
   replace c2 : (Math.inB lo up (z.getD i 0)) = true := c2
   refine hSkip ?_
   refine qSeq rfl ?_
   refine hReg (sq 0 (sq 1 sz)) (by kernel_rfl) ?_
   refine add rfl rfl rfl rfl (by omega) ?_
   refine mvI rfl rfl rfl ?_
   refine rNil ?_
   exact qNext rfl (i + 1) (by omega) ⟨by omega, Math.upto hal c2⟩ ⟨rfl, rfl, rfl, rfl, rfl, trivial⟩ (fun _ h => h.pick [])
 ·
  replace c1 : ¬ ((i : Int) < (nz : Int)) := c1
  refine hExit rfl ?_
  refine qSeq rfl ?_
  refine hSeq ?_
  refine hReg (sq 0 sz) (by kernel_rfl) ?_
  refine asB rfl rfl rfl ?_
  refine rNil ?_
  refine qSeq rfl ?_
  refine hRet ?_
  exact fun w hs => ⟨[.bool true], ⟨rfl, trivial⟩, ⟨bB ((Math.all_getD 0).2 fun j hj => hal j (by omega)).symm, hs.upd⟩⟩
theorem impl_increasing_c (az : Option Addr) (nz : Nat) (cz : Nat) (z : List Int) (w : World) (rz : RdI az nz z w) :
  Calls Tryd.prog 44 #[.slice az nz cz] w (Ret fun v w' => v = .bool (Math.risingB z) ∧ Ext w w') := by
 have kz : Kn w none_ [] (RdI az nz z) := fun w' hs => rz.ext hs.upd
 have lz : z.length = nz := rz.1
 have mz : nz ≤ 9223372036854775807 := rz.2.1
 refine fn (M := none_) (rs := [.tmp 2]) Tryd.func44 rfl Tryd.ntmps44 rfl rfl (Sep.start _ _) ?_
 refine hSeq ?_
 refine hReg (sq 0 sz) (by kernel_rfl) ?_
 refine asB rfl rfl rfl ?_
 refine rNil ?_
 refine qSeq rfl ?_
 refine hSeq ?_
 refine hSeq ?_
 refine hReg (sq 0 sz) (by kernel_rfl) ?_
 refine asI rfl rfl rfl ?_
 refine rNil ?_
 refine qSeq rfl ?_
 refine hBlk ?_
 refine hLoop (α := Nat) (fun k => k ≤ nz ∧ ∀ j, j < k → j + 1 < nz → z.getD j 0 < z.getD (j + 1) 0) (fun k => nz - k) (fun k => []) (fun k => [(0, .slice az nz cz), (3, .int .i64 (((k : Int) + 1)))]) 0 ⟨Nat.zero_le _, fun j hj => by omega⟩ (fun _ h => h.pick []) ⟨rfl, rfl, trivial⟩ ?_
 rintro k τ1 ⟨hk, hal⟩
 refine hSeq ?_
 refine hSeq ?_
 refine hReg (sq 0 (sq 1 (sq 2 (sq 3 sz)))) (by kernel_rfl) ?_
 refine mvI rfl rfl rfl ?_
 refine mvS rfl rfl rfl ?_
 refine lenS Tryd.runUnderlying59 rfl rfl rfl ?_
 refine lss rfl rfl rfl rfl ?_
 refine rNil ?_
 refine qSeq rfl ?_
 refine hIfD rfl (fun c1 => ?_) (fun c1 => ?_)
 ·
  replace c1 : ((k : Int) + 1) < (nz : Int) := c1
  refine hSkip ?_
  refine qSeq rfl ?_
  refine hSeq ?_
  refine hBlk ?_
  refine hSeq ?_
  refine hDraw (Ls := []) (by kernel_rfl) (sq 0 (sq 1 (sq 2 (sq 3 (sq 4 (sq 5 (sq 6 (sq 7 (sq 8 (sq 9 sz)))))))))) (by kernel_rfl) .slnil ?_
  refine mvS rfl rfl rfl ?_
  refine mvI rfl rfl rfl ?_
  refine sub rfl rfl rfl rfl (by omega) ?_
  refine ixIq (zn := ((((k : Int) + 1) - 1)).toNat) el59 (kz) (fun _ h => h.pick []) rfl rfl rfl rfl (by omega) (by omega) rfl ?_
  intro ae1 e1
  refine ldq Tryd.isAgg2 (e1) rfl rfl rfl ?_
  refine mvS rfl rfl rfl ?_
  refine mvI rfl rfl rfl ?_
  refine ixIq (zn := (k + 1)) el59 (kz) (fun _ h => h.pick []) rfl rfl rfl rfl (by omega) (by omega) rfl ?_
  intro ae2 e2
  refine ldq Tryd.isAgg2 (e2) rfl rfl rfl ?_
  refine geq rfl rfl rfl rfl ?_
  refine rNil ?_
  refine qSeq rfl ?_
  refine hIfD rfl (fun c2 => ?_) (fun c2 => ?_)
  ·
   replace c2 : (z.getD (k + 1) 0) ≤ (z.getD (((((k : Int) + 1) - 1)).toNat) 0) := c2
   rw [show (((k : Int) + 1) - 1).toNat = k from by omega] at c2
   refine hSeq ?_
   refine hReg (sq 0 sz) (by kernel_rfl) ?_
   refine asB rfl rfl rfl ?_
   refine rNil ?_
   refine qSeq rfl ?_
   refine hRet ?_
   exact fun w hs => ⟨[.bool false], ⟨rfl, trivial⟩, ⟨bB (Math.rising_no (i := k) (by omega) (by omega)).symm, hs.upd⟩⟩
  ·
   replace c2 : ¬ ((z.getD (k + 1) 0) ≤ (z.getD (((((k : Int) + 1) - 1)).toNat) 0)) := c2
   rw [show (((k : Int) + 1) - 1).toNat = k from by omega] at c2
   refine hSkip ?_
   refine qSeq rfl ?_
   refine hReg (sq 0 (sq 1 (sq 2 sz))) (by kernel_rfl) ?_
   refine mvI rfl rfl rfl ?_
   refine add rfl rfl rfl rfl (by omega) ?_
   refine asI rfl rfl rfl ?_
   refine rNil ?_
   exact qNext rfl (k + 1) (by omega) ⟨by omega, Math.upto hal fun _ => by omega⟩ ⟨rfl, rfl, trivial⟩ (fun _ h => h.pick [])
 ·
  replace c1 : ¬ (((k : Int) + 1) < (nz : Int)) := c1
  refine hExit rfl ?_
  refine qSeq rfl ?_
  refine hSeq ?_
  refine hReg (sq 0 sz) (by kernel_rfl) ?_
  refine asB rfl rfl rfl ?_
  refine rNil ?_
  refine qSeq rfl ?_
  refine hRet ?_
  exact fun w hs => ⟨[.bool true], ⟨rfl, trivial⟩, ⟨bB (Math.rising_iff.2 fun j hj => hal j (by omega) (by omega)).symm, hs.upd⟩⟩
theorem spec_l01Rises_c (az : Option Addr) (nz : Nat) (cz : Nat) (z : List Int) (n : Int) (w : World) (rz : RdI az nz z w) (hn : 0 ≤ n ∧ n ≤ 9223372036854775807) :
  Calls Tryd.prog 59 #[.slice az nz cz, .int .i64 n] w (Ret fun v w' => v = .bool (Math.risesB n z) ∧ Ext w w') := by
 have kz : Kn w none_ [] (RdI az nz z) := fun w' hs => rz.ext hs.upd
 have lz : z.length = nz := rz.1
 have mz : nz ≤ 9223372036854775807 := rz.2.1
 refine fn (M := none_) (rs := [.tmp 4]) Tryd.func59 rfl Tryd.ntmps59 rfl rfl (Sep.start _ _) ?_
 refine hSeq ?_
 refine hReg (sq 0 sz) (by kernel_rfl) ?_
 refine asB rfl rfl rfl ?_
 refine rNil ?_
 refine qSeq rfl ?_
 refine hSeq ?_
 refine hSeq ?_
 refine hReg (sq 0 sz) (by kernel_rfl) ?_
 refine asI rfl rfl rfl ?_
 refine rNil ?_
 refine qSeq rfl ?_
 refine hBlk ?_
 refine hLoop (α := Nat) (fun i => i ≤ nz ∧ Math.risesTo n z i) (fun i => nz - i) (fun i => []) (fun i => [(0, .slice az nz cz), (1, .int .i64 n), (5, .int .i64 (i : Int))]) 0 ⟨Nat.zero_le _, Math.risesTo_zero⟩ (fun _ h => h.pick []) ⟨rfl, rfl, rfl, trivial⟩ ?_
 rintro i τ1 ⟨hi, hr⟩
 refine hSeq ?_
 refine hSeq ?_
 refine hReg (sq 0 (sq 1 (sq 2 (sq 3 sz)))) (by kernel_rfl) ?_
 refine mvI rfl rfl rfl ?_
 refine mvS rfl rfl rfl ?_
 refine lenS Tryd.runUnderlying59 rfl rfl rfl ?_
 refine lss rfl rfl rfl rfl ?_
 refine rNil ?_
 refine qSeq rfl ?_
 refine hIfD rfl (fun c1 => ?_) (fun c1 => ?_)
 ·
  replace c1 : (i : Int) < (nz : Int) := c1
  refine hSkip ?_
  refine qSeq rfl ?_
  refine hSeq ?_
  refine hBlk ?_
  refine hSeq ?_
  refine hDraw (Ls := []) (by kernel_rfl) (sq 0 (sq 1 (sq 2 (sq 3 (sq 4 (sq 5 (sl 6 (sq 7 (sq 8 (sq 9 (sq 10 (sq 11 (sq 12 (sq 13 (sq 14 (sq 15 (sq 16 (sq 17 (sq 18 (sq 19 (sq 20 (sq 21 (sq 22 (sq 23 sz)))))))))))))))))))))))) (by kernel_rfl) .slnil ?_
  refine mvS rfl rfl rfl ?_
  refine mvI rfl rfl rfl ?_
  refine ixIq (zn := i) el59 (kz) (fun _ h => h.pick []) rfl rfl rfl rfl (by omega) (by omega) rfl ?_
  intro ae1 e1
  refine ldq Tryd.isAgg2 (e1) rfl rfl rfl ?_
  refine mvI rfl rfl rfl ?_
  refine sub rfl rfl rfl rfl (by omega) ?_
  refine callP (v := .bool ((Math.inB (0 : Int) (n - 1) (z.getD i 0)))) Tryd.call38 (fun _ h => h.pick []) rfl rfl (fun w hs => spec_l01In_c _ _ _ w ) ?_
  refine not rfl rfl rfl ?_
  refine mvB rfl rfl rfl ?_
  refine rBoolN (d := 20) rfl (fun g2 => ?_) (fun g2 => ?_)
  ·
   replace g2 : (Math.inB (0 : Int) (n - 1) (z.getD i 0)) = false := g2
   refine rSkipQ rfl rfl ?_
   refine rSkipQ rfl rfl ?_
   refine rSkipQ rfl rfl ?_
   refine rSkipQ rfl rfl ?_
   refine rSkipQ rfl rfl ?_
   refine rSkipQ rfl rfl ?_
   refine rSkipQ rfl rfl ?_
   refine rSkipQ rfl rfl ?_
   refine rSkipQ rfl rfl ?_
   refine rSkipQ rfl rfl ?_
   refine rSkipQ rfl rfl ?_
   refine rSkipQ rfl rfl ?_
   refine rSkipQ rfl rfl ?_
   refine rSkipQ rfl rfl ?_
   refine pickB rfl rfl rfl rfl ?_
   refine rNil ?_
   refine qSeq rfl ?_
   refine hIfT rfl ?_
   refine hSeq ?_
   refine hReg (sq 0 sz) (by kernel_rfl) ?_
   refine asB rfl rfl rfl ?_
   refine rNil ?_
   refine qSeq rfl ?_
   refine hRet ?_
   exact fun w hs => ⟨[.bool false], ⟨rfl, trivial⟩, ⟨bB (Math.rises_no1 (i := i) (by omega) g2).symm, hs.upd⟩⟩
  ·
   replace g2 : (Math.inB (0 : Int) (n - 1) (z.getD i 0)) = true := g2
   refine mvI rfl rfl rfl ?_
   refine gtr rfl rfl rfl rfl ?_
   refine mvB rfl rfl rfl ?_
   refine rBoolD (d := 23) rfl (fun g3 => ?_) (fun g3 => ?_)
   ·
    replace g3 : 0 < (i : Int) := g3
    refine mvS rfl rfl rfl ?_
    refine mvI rfl rfl rfl ?_
    refine ixIq (zn := i) el59 (kz) (fun _ h => h.pick []) rfl rfl rfl rfl (by omega) (by omega) rfl ?_
    intro ae2 e2
    refine ldq Tryd.isAgg2 (e2) rfl rfl rfl ?_
    refine mvS rfl rfl rfl ?_
    refine mvI rfl rfl rfl ?_
    refine sub rfl rfl rfl rfl (by omega) ?_
    refine ixIq (zn := (((i : Int) - 1)).toNat) el59 (kz) (fun _ h => h.pick []) rfl rfl rfl rfl (by omega) (by omega) rfl ?_
    intro ae3 e3
    refine ldq Tryd.isAgg2 (e3) rfl rfl rfl ?_
    refine leq rfl rfl rfl rfl ?_
    refine pickB rfl rfl rfl rfl ?_
    refine pickB rfl rfl rfl rfl ?_
    refine rNil ?_
    refine qSeq rfl ?_
    refine hIfD rfl (fun c4 => ?_) (fun c4 => ?_)
    ·
     replace c4 : (z.getD i 0) ≤ (z.getD ((((i : Int) - 1)).toNat) 0) := c4
     refine hSeq ?_
     refine hReg (sq 0 sz) (by kernel_rfl) ?_
     refine asB rfl rfl rfl ?_
     refine rNil ?_
     refine qSeq rfl ?_
     refine hRet ?_
     exact fun w hs => ⟨[.bool false], ⟨rfl, trivial⟩, ⟨bB (Math.rises_no2 (i := i) (by omega) (by omega) (by rw [← show ((i : Int) - 1).toNat = i - 1 from by omega]; omega)).symm, hs.upd⟩⟩
    ·
     replace c4 : ¬ ((z.getD i 0) ≤ (z.getD ((((i : Int) - 1)).toNat) 0)) := c4
     refine hSkip ?_
     refine qSeq rfl ?_
     refine hReg (sq 0 (sq 1 (sq 2 sz))) (by kernel_rfl) ?_
     refine mvI rfl rfl rfl ?_
     refine add rfl rfl rfl rfl (by omega) ?_
     refine asI rfl rfl rfl ?_
     refine rNil ?_
     exact qNext rfl (i + 1) (by omega) ⟨by omega, Math.risesTo_step hr g2 (fun _ => by rw [← show ((i : Int) - 1).toNat = i - 1 from by omega]; omega)⟩ ⟨rfl, rfl, rfl, trivial⟩ (fun _ h => h.pick [])
   ·
    replace g3 : ¬ (0 < (i : Int)) := g3
    refine rSkipQ rfl rfl ?_
    refine rSkipQ rfl rfl ?_
    refine rSkipQ rfl rfl ?_
    refine rSkipQ rfl rfl ?_
    refine rSkipQ rfl rfl ?_
    refine rSkipQ rfl rfl ?_
    refine rSkipQ rfl rfl ?_
    refine rSkipQ rfl rfl ?_
    refine rSkipQ rfl rfl ?_
    refine rSkipQ rfl rfl ?_
    refine pickB rfl rfl rfl rfl ?_
    refine pickB rfl rfl rfl rfl ?_
    refine rNil ?_
    refine qSeq rfl ?_
    refine hIfF rfl ?_
    refine hSkip ?_
    refine qSeq rfl ?_
    refine hReg (sq 0 (sq 1 (sq 2 sz))) (by kernel_rfl) ?_
    refine mvI rfl rfl rfl ?_
    refine add rfl rfl rfl rfl (by omega) ?_
    refine asI rfl rfl rfl ?_
    refine rNil ?_
    exact qNext rfl (i + 1) (by omega) ⟨by omega, Math.risesTo_step hr g2 (fun h => absurd h (by omega))⟩ ⟨rfl, rfl, rfl, trivial⟩ (fun _ h => h.pick [])
 ·
  replace c1 : ¬ ((i : Int) < (nz : Int)) := c1
  refine hExit rfl ?_
  refine qSeq rfl ?_
  refine hSeq ?_
  refine hReg (sq 0 sz) (by kernel_rfl) ?_
  refine asB rfl rfl rfl ?_
  refine rNil ?_
  refine qSeq rfl ?_
  refine hRet ?_
  exact fun w hs => ⟨[.bool true], ⟨rfl, trivial⟩, ⟨bB (Math.rises_yes hr (by omega)).symm, hs.upd⟩⟩
theorem impl_sumOf_c (az : Option Addr) (nz : Nat) (cz : Nat) (z : List Int) (w : World) (rz : RdI az nz z w) (hb : ∀ x ∈ z, 0 ≤ x ∧ x ≤ 1000000000) (hl : z.length ≤ 1000000) :
  Calls Tryd.prog 64 #[.slice az nz cz] w (Ret fun v w' => v = .int .i64 z.sum ∧ Ext w w') := by
 have kz : Kn w none_ [] (RdI az nz z) := fun w' hs => rz.ext hs.upd
 have lz : z.length = nz := rz.1
 have mz : nz ≤ 9223372036854775807 := rz.2.1
 refine fn (M := none_) (rs := [.tmp 2]) Tryd.func64 rfl Tryd.ntmps64 rfl rfl (Sep.start _ _) ?_
 refine hSeq ?_
 refine hReg (sq 0 sz) (by kernel_rfl) ?_
 refine asI rfl rfl rfl ?_
 refine rNil ?_
 refine qSeq rfl ?_
 refine hSeq ?_
 refine hReg (sq 0 sz) (by kernel_rfl) ?_
 refine asI rfl rfl rfl ?_
 refine rNil ?_
 refine qSeq rfl ?_
 refine hSeq ?_
 refine hSeq ?_
 refine hReg (sq 0 (sq 1 (sq 2 sz))) (by kernel_rfl) ?_
 refine mvS rfl rfl rfl ?_
 refine lenS Tryd.runUnderlying59 rfl rfl rfl ?_
 refine mvI rfl rfl rfl ?_
 refine rNil ?_
 refine qSeq rfl ?_
 refine hBlk ?_
 refine hLoop (α := Nat × Int) (fun x => x.1 ≤ nz ∧ x.2 = (z.take x.1).sum) (fun x => nz - x.1) (fun x => []) (fun x => [(3, .int .i64 x.2), (6, .slice az nz cz), (7, .int .i64 (nz : Int)), (8, .int .i64 (x.1 : Int))]) (0, 0) ⟨Nat.zero_le _, rfl⟩ (fun _ h => h.pick []) ⟨rfl, rfl, rfl, rfl, trivial⟩ ?_
 rintro ⟨i, a⟩ τ1 ⟨hi, ha⟩
 dsimp only at hi ha
 refine hRe [(3, .int .i64 a), (6, .slice az nz cz), (7, .int .i64 (nz : Int)), (8, .int .i64 (i : Int))] [] rfl rfl ?_
 refine hSeq ?_
 refine hReg (sq 0 sz) (by kernel_rfl) ?_
 refine lss rfl rfl rfl rfl ?_
 refine rNil ?_
 refine qSeq rfl ?_
 refine hSeq ?_
 refine hIfD rfl (fun c1 => ?_) (fun c1 => ?_)
 ·
  replace c1 : (i : Int) < (nz : Int) := c1
  have hs1 := Math.sum_bd hb i (by omega)
  have hs2 := hb _ (Math.getD_mem 0 (show i < z.length by omega))
  refine hSkip ?_
  refine qSeq rfl ?_
  refine hSeq ?_
  refine hBlk ?_
  refine hSeq ?_
  refine hReg (sq 0 (sl 1 (sq 2 sz))) (by kernel_rfl) ?_
  refine ixIl (zn := i) el59 (kz) rfl rfl rfl rfl (by omega) (by omega) rfl ?_
  intro ae1 e1
  refine ldl Tryd.isAgg2 (e1) trv rfl rfl rfl ?_
  refine asI rfl rfl rfl ?_
  refine rNil ?_
  refine qSeq rfl ?_
  refine hReg (sq 0 (sq 1 (sq 2 (sq 3 sz)))) (by kernel_rfl) ?_
  refine mvI rfl rfl rfl ?_
  refine mvI rfl rfl rfl ?_
  refine add rfl rfl rfl rfl (by omega) ?_
  refine asI rfl rfl rfl ?_
  refine rNil ?_
  refine qSeq rfl ?_
  refine hReg (sq 0 (sq 1 sz)) (by kernel_rfl) ?_
  refine add rfl rfl rfl rfl (by omega) ?_
  refine mvI rfl rfl rfl ?_
  refine rNil ?_
  exact qNext rfl (i + 1, a + z.getD i 0) (by dsimp only; omega) ⟨by omega, by dsimp only; rw [ha, Math.sum_step (by omega)]⟩ ⟨rfl, rfl, rfl, rfl, trivial⟩ (fun _ h => h.pick [])
 ·
  replace c1 : ¬ ((i : Int) < (nz : Int)) := c1
  refine hExit rfl ?_
  refine qSeq rfl ?_
  refine hSeq ?_
  refine hReg (sq 0 (sq 1 sz)) (by kernel_rfl) ?_
  refine mvI rfl rfl rfl ?_
  refine asI rfl rfl rfl ?_
  refine rNil ?_
  refine qSeq rfl ?_
  refine hRet ?_
  exact fun w hs => ⟨[.int .i64 a], ⟨rfl, trivial⟩, ⟨vI (by rw [ha, List.take_of_length_le (by omega)]), hs.upd⟩⟩
theorem spec_l01Sum_c (az : Option Addr) (nz : Nat) (cz : Nat) (z : List Int) (w : World) (rz : RdI az nz z w) (hb : ∀ x ∈ z, 0 ≤ x ∧ x ≤ 1000000000) (hl : z.length ≤ 1000000) :
  Calls Tryd.prog 50 #[.slice az nz cz] w (Ret fun v w' => v = .int .i64 z.sum ∧ Ext w w') := by
 have kz : Kn w none_ [] (RdI az nz z) := fun w' hs => rz.ext hs.upd
 have lz : z.length = nz := rz.1
 have mz : nz ≤ 9223372036854775807 := rz.2.1
 refine fn (M := none_) (rs := [.tmp 2]) Tryd.func50 rfl Tryd.ntmps50 rfl rfl (Sep.start _ _) ?_
 refine hSeq ?_
 refine hReg (sq 0 sz) (by kernel_rfl) ?_
 refine asI rfl rfl rfl ?_
 refine rNil ?_
 refine qSeq rfl ?_
 refine hSeq ?_
 refine hReg (sq 0 sz) (by kernel_rfl) ?_
 refine asI rfl rfl rfl ?_
 refine rNil ?_
 refine qSeq rfl ?_
 refine hSeq ?_
 refine hSeq ?_
 refine hReg (sq 0 sz) (by kernel_rfl) ?_
 refine asI rfl rfl rfl ?_
 refine rNil ?_
 refine qSeq rfl ?_
 refine hBlk ?_
 refine hLoop (α := Nat × Int) (fun x => x.1 ≤ nz ∧ x.2 = (z.take x.1).sum) (fun x => nz - x.1) (fun x => []) (fun x => [(0, .slice az nz cz), (3, .int .i64 x.2), (4, .int .i64 (x.1 : Int))]) (0, 0) ⟨Nat.zero_le _, rfl⟩ (fun _ h => h.pick []) ⟨rfl, rfl, rfl, trivial⟩ ?_
 rintro ⟨i, a⟩ τ1 ⟨hi, ha⟩
 dsimp only at hi ha
 refine hRe [(0, .slice az nz cz), (3, .int .i64 a), (4, .int .i64 (i : Int))] [] rfl rfl ?_
 refine hSeq ?_
 refine hSeq ?_
 refine hReg (sq 0 (sq 1 (sq 2 (sq 3 sz)))) (by kernel_rfl) ?_
 refine mvI rfl rfl rfl ?_
 refine mvS rfl rfl rfl ?_
 refine lenS Tryd.runUnderlying59 rfl rfl rfl ?_
 refine lss rfl rfl rfl rfl ?_
 refine rNil ?_
 refine qSeq rfl ?_
 refine hIfD rfl (fun c1 => ?_) (fun c1 => ?_)
 ·
  replace c1 : (i : Int) < (nz : Int) := c1
  have hs1 := Math.sum_bd hb i (by omega)
  have hs2 := hb _ (Math.getD_mem 0 (show i < z.length by omega))
  refine hSkip ?_
  refine qSeq rfl ?_
  refine hSeq ?_
  refine hBlk ?_
  refine hReg (sq 0 (sq 1 (sq 2 (sq 3 (sl 4 (sq 5 (sq 6 sz))))))) (by kernel_rfl) ?_
  refine mvI rfl rfl rfl ?_
  refine mvS rfl rfl rfl ?_
  refine mvI rfl rfl rfl ?_
  refine ixIl (zn := i) el59 (kz) rfl rfl rfl rfl (by omega) (by omega) rfl ?_
  intro ae1 e1
  refine ldl Tryd.isAgg2 (e1) trv rfl rfl rfl ?_
  refine add rfl rfl rfl rfl (by omega) ?_
  refine asI rfl rfl rfl ?_
  refine rNil ?_
  refine qSeq rfl ?_
  refine hReg (sq 0 (sq 1 (sq 2 sz))) (by kernel_rfl) ?_
  refine mvI rfl rfl rfl ?_
  refine add rfl rfl rfl rfl (by omega) ?_
  refine asI rfl rfl rfl ?_
  refine rNil ?_
  exact qNext rfl (i + 1, a + z.getD i 0) (by dsimp only; omega) ⟨by omega, by dsimp only; rw [ha, Math.sum_step (by omega)]⟩ ⟨rfl, rfl, rfl, trivial⟩ (fun _ h => h.pick [])
 ·
  replace c1 : ¬ ((i : Int) < (nz : Int)) := c1
  refine hExit rfl ?_
  refine qSeq rfl ?_
  refine hSeq ?_
  refine hReg (sq 0 (sq 1 sz)) (by kernel_rfl) ?_
  refine mvI rfl rfl rfl ?_
  refine asI rfl rfl rfl ?_
  refine rNil ?_
  refine qSeq rfl ?_
  refine hRet ?_
  exact fun w hs => ⟨[.int .i64 a], ⟨rfl, trivial⟩, ⟨vI (by rw [ha, List.take_of_length_le (by omega)]), hs.upd⟩⟩
end Go.Proofs.YtgnfffdenbiipaaDoor
