/- Contracts of what the laws do with lists. Their conditions stand in each. -/
import Derived.Test.YtjbdddfjaognfaaEngC
import Derived.Test.YtjbdddfjaognfaaTree
import Derived.Test.YtjbdddfjaognfaaRows
namespace Go.Proofs.Ytjbdddfjaognfaa
open Go Go.RowKit V
set_option linter.unusedVariables false
set_option linter.unusedSimpArgs false
set_option maxRecDepth 100000

theorem fl31_0 : Fld Try.prog 31 0 0 := by
  intro w ad; simp [Instr.fieldAt, Try.runUnderlying31, Instr.sureAddr, fieldPlace, Try.sizeOf29]
theorem fl39_0 : Fld Try.prog 39 0 0 := by
  intro w ad; simp [Instr.fieldAt, Try.runUnderlying39, Instr.sureAddr, fieldPlace, Try.sizeOf37]
theorem fl53_0 : Fld Try.prog 53 0 0 := by
  intro w ad; simp [Instr.fieldAt, Try.runUnderlying53, Instr.sureAddr, fieldPlace, Try.sizeOf39]
theorem fl53_1 : Fld Try.prog 53 1 1 := by
  intro w ad; simp [Instr.fieldAt, Try.runUnderlying53, Instr.sureAddr, fieldPlace, Try.sizeOf51]
theorem fl53_2 : Fld Try.prog 53 2 2 := by
  intro w ad; simp [Instr.fieldAt, Try.runUnderlying53, Instr.sureAddr, fieldPlace, Try.sizeOf51]
theorem fl57_0 : Fld Try.prog 57 0 0 := by
  intro w ad; simp [Instr.fieldAt, Try.runUnderlying57, Instr.sureAddr, fieldPlace, Try.sizeOf31]
theorem fl57_1 : Fld Try.prog 57 1 1 := by
  intro w ad; simp [Instr.fieldAt, Try.runUnderlying57, Instr.sureAddr, fieldPlace, Try.sizeOf51]
theorem fl57_2 : Fld Try.prog 57 2 2 := by
  intro w ad; simp [Instr.fieldAt, Try.runUnderlying57, Instr.sureAddr, fieldPlace, Try.sizeOf51]
theorem fl76_0 : Fld Try.prog 76 0 0 := by
  intro w ad; simp [Instr.fieldAt, Try.runUnderlying76, Instr.sureAddr, fieldPlace, Try.sizeOf2]
theorem fl76_1 : Fld Try.prog 76 1 1 := by
  intro w ad; simp [Instr.fieldAt, Try.runUnderlying76, Instr.sureAddr, fieldPlace, Try.sizeOf2]
theorem fl76_2 : Fld Try.prog 76 2 2 := by
  intro w ad; simp [Instr.fieldAt, Try.runUnderlying76, Instr.sureAddr, fieldPlace, Try.sizeOf2]
theorem fl76_3 : Fld Try.prog 76 3 3 := by
  intro w ad; simp [Instr.fieldAt, Try.runUnderlying76, Instr.sureAddr, fieldPlace, Try.sizeOf2]
theorem fl76_4 : Fld Try.prog 76 4 4 := by
  intro w ad; simp [Instr.fieldAt, Try.runUnderlying76, Instr.sureAddr, fieldPlace, Try.sizeOf22]
theorem fl94_0 : Fld Try.prog 94 0 0 := by
  intro w ad; simp [Instr.fieldAt, Try.runUnderlying94, Instr.sureAddr, fieldPlace, Try.sizeOf2]
theorem fl94_1 : Fld Try.prog 94 1 1 := by
  intro w ad; simp [Instr.fieldAt, Try.runUnderlying94, Instr.sureAddr, fieldPlace, Try.sizeOf2]
theorem fl94_2 : Fld Try.prog 94 2 2 := by
  intro w ad; simp [Instr.fieldAt, Try.runUnderlying94, Instr.sureAddr, fieldPlace, Try.sizeOf2]
theorem fl94_3 : Fld Try.prog 94 3 3 := by
  intro w ad; simp [Instr.fieldAt, Try.runUnderlying94, Instr.sureAddr, fieldPlace, Try.sizeOf2]
theorem fl94_4 : Fld Try.prog 94 4 4 := by
  intro w ad; simp [Instr.fieldAt, Try.runUnderlying94, Instr.sureAddr, fieldPlace, Try.sizeOf22]
theorem mk22 : Mk Try.prog 22 2 1 8 [.int .i64 0] := ⟨Try.underlying22, Try.t2, _, by kernel_rfl, rfl, rfl, rfl, rfl, rfl, by decide, by decide⟩
theorem mk29 : Mk Try.prog 29 76 5 56 [.int .i64 0, .int .i64 0, .int .i64 0, .int .i64 0, .slice none 0 0] := ⟨Try.underlying29, Try.t76, _, by kernel_rfl, rfl, rfl, rfl, rfl, rfl, by decide, by decide⟩
theorem mk51 : Mk Try.prog 51 22 1 24 [.slice none 0 0] := ⟨Try.underlying51, Try.t22, _, by kernel_rfl, rfl, rfl, rfl, rfl, rfl, by decide, by decide⟩
theorem el22 : Elt Try.prog 22 1 := ⟨2, Try.runUnderlying22, Try.sizeOf2⟩
theorem el29 : Elt Try.prog 29 5 := ⟨76, Try.runUnderlying29, Try.sizeOf76⟩
theorem el37 : Elt Try.prog 37 5 := ⟨94, Try.runUnderlying37, Try.sizeOf94⟩
theorem el51 : Elt Try.prog 51 1 := ⟨22, Try.runUnderlying51, Try.sizeOf22⟩

theorem impl_within_c (n : Int) (lo : Int) (hi : Int) (w : World) :
    Calls Try.prog 55 #[.int .i64 n, .int .i64 lo, .int .i64 hi] w (Ret fun v w' => v = .bool (decide (lo ≤ n ∧ n ≤ hi)) ∧ Ext w w') := by
  refine fn (M := none_) (rs := [.tmp 6]) Try.func55 rfl Try.ntmps55 rfl rfl (Sep.start _ _) ?_
  refine hSeq ?_
  refine hReg (sq 0 sz) (by kernel_rfl) ?_
  refine asB rfl rfl rfl ?_
  refine rNil ?_
  refine qSeq rfl ?_
  refine hSeq ?_
  refine hReg (sq 0 (sq 1 (sq 2 (sq 3 (sq 4 (sq 5 (sq 6 (sq 7 (sq 8 sz))))))))) (by kernel_rfl) ?_
  refine mvI rfl rfl rfl ?_
  refine mvI rfl rfl rfl ?_
  refine geq rfl rfl rfl rfl ?_
  refine mvB rfl rfl rfl ?_
  refine rBoolD (d := 10) rfl (fun g1 => ?_) (fun g1 => ?_)
  · -- g1T
    replace g1 : lo ≤ n := g1
    refine mvI rfl rfl rfl ?_
    refine mvI rfl rfl rfl ?_
    refine leq rfl rfl rfl rfl ?_
    refine pickB rfl rfl rfl rfl ?_
    refine asB rfl rfl rfl ?_
    refine rNil ?_
    refine qSeq rfl ?_
    refine hRet ?_
    exact fun w hs => ⟨[.bool (decide (n ≤ hi))], ⟨rfl, trivial⟩, ⟨by first | rfl | exact bD (by omega) | exact bT (by omega) | exact bF (by omega) | exact vI (by omega), hs.upd⟩⟩
  · -- g1F
    replace g1 : ¬ (lo ≤ n) := g1
    refine rSkipQ rfl rfl ?_
    refine rSkipQ rfl rfl ?_
    refine rSkipQ rfl rfl ?_
    refine pickB rfl rfl rfl rfl ?_
    refine asB rfl rfl rfl ?_
    refine rNil ?_
    refine qSeq rfl ?_
    refine hRet ?_
    exact fun w hs => ⟨[.bool false], ⟨rfl, trivial⟩, ⟨by first | rfl | exact bD (by omega) | exact bT (by omega) | exact bF (by omega) | exact vI (by omega), hs.upd⟩⟩

theorem spec_l01In_c (n : Int) (lo : Int) (hi : Int) (w : World) :
    Calls Try.prog 53 #[.int .i64 n, .int .i64 lo, .int .i64 hi] w (Ret fun v w' => v = .bool (decide (lo ≤ n ∧ n ≤ hi)) ∧ Ext w w') := by
  refine fn (M := none_) (rs := [.tmp 6]) Try.func53 rfl Try.ntmps53 rfl rfl (Sep.start _ _) ?_
  refine hSeq ?_
  refine hReg (sq 0 sz) (by kernel_rfl) ?_
  refine asB rfl rfl rfl ?_
  refine rNil ?_
  refine qSeq rfl ?_
  refine hSeq ?_
  refine hReg (sq 0 (sq 1 (sq 2 (sq 3 (sq 4 (sq 5 (sq 6 (sq 7 (sq 8 sz))))))))) (by kernel_rfl) ?_
  refine mvI rfl rfl rfl ?_
  refine mvI rfl rfl rfl ?_
  refine geq rfl rfl rfl rfl ?_
  refine mvB rfl rfl rfl ?_
  refine rBoolD (d := 10) rfl (fun g1 => ?_) (fun g1 => ?_)
  · -- g1T
    replace g1 : lo ≤ n := g1
    refine mvI rfl rfl rfl ?_
    refine mvI rfl rfl rfl ?_
    refine leq rfl rfl rfl rfl ?_
    refine pickB rfl rfl rfl rfl ?_
    refine asB rfl rfl rfl ?_
    refine rNil ?_
    refine qSeq rfl ?_
    refine hRet ?_
    exact fun w hs => ⟨[.bool (decide (n ≤ hi))], ⟨rfl, trivial⟩, ⟨by first | rfl | exact bD (by omega) | exact bT (by omega) | exact bF (by omega) | exact vI (by omega), hs.upd⟩⟩
  · -- g1F
    replace g1 : ¬ (lo ≤ n) := g1
    refine rSkipQ rfl rfl ?_
    refine rSkipQ rfl rfl ?_
    refine rSkipQ rfl rfl ?_
    refine pickB rfl rfl rfl rfl ?_
    refine asB rfl rfl rfl ?_
    refine rNil ?_
    refine qSeq rfl ?_
    refine hRet ?_
    exact fun w hs => ⟨[.bool false], ⟨rfl, trivial⟩, ⟨by first | rfl | exact bD (by omega) | exact bT (by omega) | exact bF (by omega) | exact vI (by omega), hs.upd⟩⟩

theorem laws_szInt64S_c (az : Option Addr) (nz : Nat) (cz : Nat) (z : List Int) (left : Int) (w : World) (rz : RdI az nz z w) (hl : 0 ≤ left ∧ left ≤ 1048576) :
    Calls Try.prog 94 #[.slice az nz cz, .int .i64 left] w (Ret fun v w' => v = .int .i64 ((Math.cut left (z.length : Int))) ∧ Ext w w') := by
  have kz : Kn w none_ [] (RdI az nz z) := fun w' hs => rz.ext hs.upd
  have lz : z.length = nz := rz.1
  have mz : nz ≤ 9223372036854775807 := rz.2.1
  refine fn (M := none_) (rs := [.tmp 4]) Try.func94 rfl Try.ntmps94 rfl rfl (Sep.start _ _) ?_
  refine hSeq ?_
  refine hReg (sq 0 sz) (by kernel_rfl) ?_
  refine asI rfl rfl rfl ?_
  refine rNil ?_
  refine qSeq rfl ?_
  refine hSeq ?_
  refine hReg (sq 0 (sq 1 (sq 2 (sq 3 (sq 4 sz))))) (by kernel_rfl) ?_
  refine mvI rfl rfl rfl ?_
  refine mvS rfl rfl rfl ?_
  refine lenS Try.runUnderlying22 rfl rfl rfl ?_
  refine sub rfl rfl rfl rfl (by omega) ?_
  refine asI rfl rfl rfl ?_
  refine rNil ?_
  refine qSeq rfl ?_
  refine hSeq ?_
  refine hSeq ?_
  refine hReg (sq 0 (sq 1 sz)) (by kernel_rfl) ?_
  refine mvI rfl rfl rfl ?_
  refine lss rfl rfl rfl rfl ?_
  refine rNil ?_
  refine qSeq rfl ?_
  refine hIfD rfl (fun c1 => ?_) (fun c1 => ?_)
  · -- c1T
    replace c1 : (left - (nz : Int)) < 0 := c1
    refine hSeq ?_
    refine hReg (sq 0 sz) (by kernel_rfl) ?_
    refine asI rfl rfl rfl ?_
    refine rNil ?_
    refine qSeq rfl ?_
    refine hRet ?_
    exact fun w hs => ⟨[.int .i64 (-1)], ⟨rfl, trivial⟩, ⟨by first | rfl | exact vI (by rw [Math.cut_no (by omega)]) | exact vI (by rw [Math.cut_yes (by omega)]; omega), hs.upd⟩⟩
  · -- c1F
    replace c1 : ¬ ((left - (nz : Int)) < 0) := c1
    refine hSkip ?_
    refine qSeq rfl ?_
    refine hSeq ?_
    refine hReg (sq 0 (sq 1 sz)) (by kernel_rfl) ?_
    refine mvI rfl rfl rfl ?_
    refine asI rfl rfl rfl ?_
    refine rNil ?_
    refine qSeq rfl ?_
    refine hRet ?_
    exact fun w hs => ⟨[.int .i64 ((left - (nz : Int)))], ⟨rfl, trivial⟩, ⟨by first | rfl | exact vI (by rw [Math.cut_no (by omega)]) | exact vI (by rw [Math.cut_yes (by omega)]; omega), hs.upd⟩⟩

theorem laws_toInt64S_c (az : Option Addr) (nz : Nat) (cz : Nat) (z : List Int) (w : World) (rz : RdI az nz z w) (hz : z.length ≤ 1048576) :
    Calls Try.prog 16 #[.slice az nz cz] w (Ret fun v w' => ∃ x : Option Addr × Nat × Nat × List Int, v = .slice x.1 x.2.1 x.2.2.1 ∧ (x.2.2.2 = z) ∧ Sep w none_ [OwnI 2 x.1 x.2.1 x.2.2.1 x.2.2.2] w') := by
  have kz : Kn w none_ [] (RdI az nz z) := fun w' hs => rz.ext hs.upd
  have lz : z.length = nz := rz.1
  have mz : nz ≤ 9223372036854775807 := rz.2.1
  refine fn (M := none_) (rs := [.tmp 2]) Try.func16 rfl Try.ntmps16 rfl rfl (Sep.start _ _) ?_
  refine hSeq ?_
  refine hReg (sq 0 sz) (by kernel_rfl) ?_
  refine asS rfl rfl rfl ?_
  refine rNil ?_
  refine qSeq rfl ?_
  refine hSeq ?_
  refine hReg (sq 0 (sq 1 (sl 2 (sq 3 sz)))) (by kernel_rfl) ?_
  refine mvS rfl rfl rfl ?_
  refine lenS Try.runUnderlying22 rfl rfl rfl ?_
  refine mksI nz mk22 trv1 rfl rfl rfl rfl (rfl) (by omega) (fun bkm1 hbkm1 => ?_)
  refine asS rfl rfl rfl ?_
  refine rNil ?_
  refine qSeq rfl ?_
  refine hSeq ?_
  refine hSeq ?_
  refine hReg (sq 0 sz) (by kernel_rfl) ?_
  refine asI rfl rfl rfl ?_
  refine rNil ?_
  refine qSeq rfl ?_
  refine hBlk ?_
  rw [Math.fill_start z nz 0]
  refine hLoop (α := Nat) (fun i => i ≤ nz) (fun i => nz - i) (fun i => [OwnI 2 (some ⟨bkm1, 0, none⟩) nz nz ((z.take i ++ List.replicate (nz - i) 0))]) (fun i => [(0, .slice az nz cz), (3, .slice (some ⟨bkm1, 0, none⟩) nz nz), (4, .int .i64 (i : Int))]) 0 (Nat.zero_le _) (fun _ h => h.pick [0]) ⟨rfl, rfl, rfl, trivial⟩ ?_
  rintro i τ1 hi
  refine hSeq ?_
  refine hSeq ?_
  refine hReg (sq 0 (sq 1 (sq 2 (sq 3 sz)))) (by kernel_rfl) ?_
  refine mvI rfl rfl rfl ?_
  refine mvS rfl rfl rfl ?_
  refine lenS Try.runUnderlying22 rfl rfl rfl ?_
  refine lss rfl rfl rfl rfl ?_
  refine rNil ?_
  refine qSeq rfl ?_
  refine hIfD rfl (fun c1 => ?_) (fun c1 => ?_)
  · -- c1T
    replace c1 : (i : Int) < (nz : Int) := c1
    refine hSkip ?_
    refine qSeq rfl ?_
    refine hSeq ?_
    refine hBlk ?_
    refine hReg (sq 0 (sq 1 (sq 2 (sq 3 (sq 4 (sl 5 (sq 6 (sl 7 sz)))))))) (by kernel_rfl) ?_
    refine mvS rfl rfl rfl ?_
    refine mvI rfl rfl rfl ?_
    refine mvS rfl rfl rfl ?_
    refine mvI rfl rfl rfl ?_
    refine ixIl (zn := i) el22 (Kn.drop (k := 1) kz) rfl rfl rfl rfl (by omega) (by omega) rfl ?_
    intro ae1 e1
    refine ldl Try.isAgg2 (e1) trv rfl rfl rfl ?_
    refine oxI (zn := i) 0 rfl el22 rfl rfl rfl rfl (by omega) (by omega) rfl ?_
    intro gk2 hgk2
    refine stoI (off := i) (x := (z.getD i 0)) 0 rfl hgk2 Try.sizeOf2 trv rfl rfl rfl rfl (by omega) ?_
    refine rNil ?_
    refine qSeq rfl ?_
    refine hReg (sq 0 (sq 1 (sq 2 sz))) (by kernel_rfl) ?_
    refine mvI rfl rfl rfl ?_
    refine add rfl rfl rfl rfl (by omega) ?_
    refine asI rfl rfl rfl ?_
    refine rNil ?_
    rw [Math.fill_step 0 0 lz (by omega)]
    exact qNext rfl (i + 1) (by omega) (by omega) ⟨rfl, rfl, rfl, trivial⟩ (fun _ h => h.pick [0])
  · -- c1F
    replace c1 : ¬ ((i : Int) < (nz : Int)) := c1
    refine hExit rfl ?_
    refine qSeq rfl ?_
    refine hSeq ?_
    refine hReg (sq 0 (sq 1 sz)) (by kernel_rfl) ?_
    refine mvS rfl rfl rfl ?_
    refine asS rfl rfl rfl ?_
    refine rNil ?_
    refine qSeq rfl ?_
    refine hRet ?_
    exact fun w hs => ⟨[.slice (some ⟨bkm1, 0, none⟩) nz nz], ⟨rfl, trivial⟩, ⟨((some ⟨bkm1, 0, none⟩), nz, nz, (z.take i ++ List.replicate (nz - i) 0)), rfl, Math.fill_end 0 lz (by omega), hs.pick [0]⟩⟩

theorem laws_eqInt64S_c (az : Option Addr) (nz : Nat) (cz : Nat) (z : List Int) (ay : Option Addr) (ny : Nat) (cy : Nat) (y : List Int) (w : World) (rz : RdI az nz z w) (ry : RdI ay ny y w) (heq : z = y) :
    Calls Try.prog 18 #[.slice az nz cz, .slice ay ny cy] w (Ret fun v w' => v = .bool true ∧ Ext w w') := by
  have kz : Kn w none_ [] (RdI az nz z) := fun w' hs => rz.ext hs.upd
  have lz : z.length = nz := rz.1
  have mz : nz ≤ 9223372036854775807 := rz.2.1
  have ky : Kn w none_ [] (RdI ay ny y) := fun w' hs => ry.ext hs.upd
  have ly : y.length = ny := ry.1
  have my : ny ≤ 9223372036854775807 := ry.2.1
  refine fn (M := none_) (rs := [.tmp 4]) Try.func18 rfl Try.ntmps18 rfl rfl (Sep.start _ _) ?_
  refine hSeq ?_
  refine hReg (sq 0 sz) (by kernel_rfl) ?_
  refine asB rfl rfl rfl ?_
  refine rNil ?_
  refine qSeq rfl ?_
  refine hSeq ?_
  refine hSeq ?_
  refine hReg (sq 0 (sq 1 (sq 2 (sq 3 (sq 4 sz))))) (by kernel_rfl) ?_
  refine mvS rfl rfl rfl ?_
  refine lenS Try.runUnderlying22 rfl rfl rfl ?_
  refine mvS rfl rfl rfl ?_
  refine lenS Try.runUnderlying22 rfl rfl rfl ?_
  refine neq rfl rfl rfl rfl ?_
  refine rNil ?_
  refine qSeq rfl ?_
  refine hIfD rfl (fun c1 => ?_) (fun c1 => ?_)
  · -- c1T
    replace c1 : (nz : Int) ≠ (ny : Int) := c1
    exact absurd c1 (by rw [heq] at lz; omega)
  · -- c1F
    replace c1 : ¬ ((nz : Int) ≠ (ny : Int)) := c1
    refine hSkip ?_
    refine qSeq rfl ?_
    refine hSeq ?_
    refine hSeq ?_
    refine hReg (sq 0 sz) (by kernel_rfl) ?_
    refine asI rfl rfl rfl ?_
    refine rNil ?_
    refine qSeq rfl ?_
    refine hBlk ?_
    refine hLoop (α := Nat) (fun i => i ≤ nz) (fun i => nz - i) (fun i => []) (fun i => [(0, .slice az nz cz), (1, .slice ay ny cy), (5, .int .i64 (i : Int))]) 0 (Nat.zero_le _) (fun _ h => h.pick []) ⟨rfl, rfl, rfl, trivial⟩ ?_
    rintro i τ1 hi
    refine hSeq ?_
    refine hSeq ?_
    refine hReg (sq 0 (sq 1 (sq 2 (sq 3 sz)))) (by kernel_rfl) ?_
    refine mvI rfl rfl rfl ?_
    refine mvS rfl rfl rfl ?_
    refine lenS Try.runUnderlying22 rfl rfl rfl ?_
    refine lss rfl rfl rfl rfl ?_
    refine rNil ?_
    refine qSeq rfl ?_
    refine hIfD rfl (fun c2 => ?_) (fun c2 => ?_)
    · -- c2T
      replace c2 : (i : Int) < (nz : Int) := c2
      refine hSkip ?_
      refine qSeq rfl ?_
      refine hSeq ?_
      refine hBlk ?_
      refine hSeq ?_
      refine hDraw (Ls := []) (by kernel_rfl) (sq 0 (sq 1 (sq 2 (sq 3 (sq 4 (sq 5 (sq 6 (sq 7 (sq 8 sz))))))))) (by kernel_rfl) .slnil ?_
      refine mvS rfl rfl rfl ?_
      refine mvI rfl rfl rfl ?_
      refine ixIq (zn := i) el22 (kz) (fun _ h => h.pick []) rfl rfl rfl rfl (by omega) (by omega) rfl ?_
      intro ae1 e1
      refine ldq Try.isAgg2 (e1) rfl rfl rfl ?_
      refine mvS rfl rfl rfl ?_
      refine mvI rfl rfl rfl ?_
      refine ixIq (zn := i) el22 (ky) (fun _ h => h.pick []) rfl rfl rfl rfl (by omega) (by omega) rfl ?_
      intro ae2 e2
      refine ldq Try.isAgg2 (e2) rfl rfl rfl ?_
      refine neq rfl rfl rfl rfl ?_
      refine rNil ?_
      refine qSeq rfl ?_
      refine hIfD rfl (fun c3 => ?_) (fun c3 => ?_)
      · -- c3T
        replace c3 : (z.getD i 0) ≠ (y.getD i 0) := c3
        exact absurd (by rw [heq]) c3
      · -- c3F
        replace c3 : ¬ ((z.getD i 0) ≠ (y.getD i 0)) := c3
        refine hSkip ?_
        refine qSeq rfl ?_
        refine hReg (sq 0 (sq 1 (sq 2 sz))) (by kernel_rfl) ?_
        refine mvI rfl rfl rfl ?_
        refine add rfl rfl rfl rfl (by omega) ?_
        refine asI rfl rfl rfl ?_
        refine rNil ?_
        exact qNext rfl (i + 1) (by omega) (by omega) ⟨rfl, rfl, rfl, trivial⟩ (fun _ h => h.pick [])
    · -- c2F
      replace c2 : ¬ ((i : Int) < (nz : Int)) := c2
      refine hExit rfl ?_
      refine qSeq rfl ?_
      refine hSeq ?_
      refine hReg (sq 0 sz) (by kernel_rfl) ?_
      refine asB rfl rfl rfl ?_
      refine rNil ?_
      refine qSeq rfl ?_
      refine hRet ?_
      exact fun w hs => ⟨[.bool true], ⟨rfl, trivial⟩, ⟨by first | rfl | exact bD (by omega) | exact bT (by omega) | exact bF (by omega) | exact vI (by omega), hs.upd⟩⟩

theorem laws_szTreeNode_c (pl : Int) (p0 : Int) (p1 : Int) (fo : Int) (ach : Option Addr) (nch : Nat) (cch : Nat) (ch : List Int) (left : Int) (w : World) (rch : RdI ach nch ch w) (hl : 0 ≤ left ∧ left ≤ 1048576) :
    Calls Try.prog 91 #[.agg #[.int .i64 pl, .int .i64 p0, .int .i64 p1, .int .i64 fo, .slice ach nch cch], .int .i64 left] w (Ret fun v w' => v = .int .i64 ((Math.cut left (ch.length : Int))) ∧ Ext w w') := by
  have kch : Kn w none_ [] (RdI ach nch ch) := fun w' hs => rch.ext hs.upd
  have lch : ch.length = nch := rch.1
  have mch : nch ≤ 9223372036854775807 := rch.2.1
  refine fn (M := none_) (rs := [.tmp 4]) Try.func91 rfl Try.ntmps91 rfl rfl (Sep.start _ _) ?_
  refine hSeq ?_
  refine hReg (sl 0 (sq 1 sz)) (by kernel_rfl) ?_
  refine box trv1 rfl rfl rfl rfl (fun bkb1 hbkb1 => ?_)
  refine asI rfl rfl rfl ?_
  refine rNil ?_
  refine qSeq rfl ?_
  refine hSeq ?_
  refine hReg (sq 0 (sl 1 (sq 2 (sl 3 (sq 4 sz))))) (by kernel_rfl) ?_
  refine fld fl94_4 rfl rfl rfl ?_
  refine ldl Try.isAgg22 (cB 0 rfl rfl) trv rfl rfl rfl ?_
  refine mvI rfl rfl rfl ?_
  refine callP (v := .int .i64 ((Math.cut left (ch.length : Int)))) Try.call94 trv rfl rfl (fun w hs => laws_szInt64S_c _ _ _ _ _ w (Kn.drop (k := 1) kch w hs) (by omega)) ?_
  refine asI rfl rfl rfl ?_
  refine rNil ?_
  refine qSeq rfl ?_
  refine hSeq ?_
  refine hSeq ?_
  refine hReg (sq 0 (sq 1 sz)) (by kernel_rfl) ?_
  refine mvI rfl rfl rfl ?_
  refine lss rfl rfl rfl rfl ?_
  refine rNil ?_
  refine qSeq rfl ?_
  refine hIfD rfl (fun c1 => ?_) (fun c1 => ?_)
  · -- c1T
    replace c1 : (Math.cut left (ch.length : Int)) < 0 := c1
    refine hSeq ?_
    refine hReg (sq 0 sz) (by kernel_rfl) ?_
    refine asI rfl rfl rfl ?_
    refine rNil ?_
    refine qSeq rfl ?_
    refine hRet ?_
    exact fun w hs => ⟨[.int .i64 (-1)], ⟨rfl, trivial⟩, ⟨by first | rfl | exact vI (by have := c1; unfold Math.cut at *; split at this <;> split <;> omega), hs.upd⟩⟩
  · -- c1F
    replace c1 : ¬ ((Math.cut left (ch.length : Int)) < 0) := c1
    refine hSkip ?_
    refine qSeq rfl ?_
    refine hSeq ?_
    refine hReg (sq 0 (sq 1 sz)) (by kernel_rfl) ?_
    refine mvI rfl rfl rfl ?_
    refine asI rfl rfl rfl ?_
    refine rNil ?_
    refine qSeq rfl ?_
    refine hRet ?_
    exact fun w hs => ⟨[.int .i64 ((Math.cut left (ch.length : Int)))], ⟨rfl, trivial⟩, ⟨by first | rfl | exact vI (by have := c1; unfold Math.cut at *; split at this <;> split <;> omega), hs.upd⟩⟩

theorem laws_szTreeNodeS_c (az : Option Addr) (nz : Nat) (cz : Nat) (Hz : Nat → Hd) (z : List Nd) (left : Int) (w : World) (rz : RdR ndK az nz Hz z w) (hl : 0 ≤ left ∧ left ≤ 1048576) :
    Calls Try.prog 63 #[.slice az nz cz, .int .i64 left] w (Ret fun v w' => v = .int .i64 ((Math.cut left (Math.szK Math.chl z : Int))) ∧ Ext w w') := by
  have kz : Kn w none_ [] (RdR ndK az nz Hz z) := fun w' hs => rz.ext hs.upd
  have lz : z.length = nz := rz.1
  have mz : nz ≤ 9223372036854775807 := rz.2.1
  have hsz : Math.szK Math.chl z = z.length + Math.sumK Math.chl z := rfl
  refine fn (M := none_) (rs := [.tmp 4]) Try.func63 rfl Try.ntmps63 rfl rfl (Sep.start _ _) ?_
  refine hSeq ?_
  refine hReg (sq 0 sz) (by kernel_rfl) ?_
  refine asI rfl rfl rfl ?_
  refine rNil ?_
  refine qSeq rfl ?_
  refine hSeq ?_
  refine hReg (sq 0 (sq 1 (sq 2 (sq 3 (sq 4 sz))))) (by kernel_rfl) ?_
  refine mvI rfl rfl rfl ?_
  refine mvS rfl rfl rfl ?_
  refine lenS Try.runUnderlying37 rfl rfl rfl ?_
  refine sub rfl rfl rfl rfl (by omega) ?_
  refine asI rfl rfl rfl ?_
  refine rNil ?_
  refine qSeq rfl ?_
  refine hSeq ?_
  refine hSeq ?_
  refine hReg (sq 0 (sq 1 sz)) (by kernel_rfl) ?_
  refine mvI rfl rfl rfl ?_
  refine lss rfl rfl rfl rfl ?_
  refine rNil ?_
  refine qSeq rfl ?_
  refine hIfD rfl (fun c1 => ?_) (fun c1 => ?_)
  · -- c1T
    replace c1 : (left - (nz : Int)) < 0 := c1
    refine hSeq ?_
    refine hReg (sq 0 sz) (by kernel_rfl) ?_
    refine asI rfl rfl rfl ?_
    refine rNil ?_
    refine qSeq rfl ?_
    refine hRet ?_
    exact fun w hs => ⟨[.int .i64 (-1)], ⟨rfl, trivial⟩, ⟨by first | rfl | exact vI (by rw [Math.cut_no (by omega)]) | exact vI (by rw [Math.cut_yes (by omega)]; omega), hs.upd⟩⟩
  · -- c1F
    replace c1 : ¬ ((left - (nz : Int)) < 0) := c1
    refine hSkip ?_
    refine qSeq rfl ?_
    refine hSeq ?_
    refine hSeq ?_
    refine hReg (sq 0 sz) (by kernel_rfl) ?_
    refine asI rfl rfl rfl ?_
    refine rNil ?_
    refine qSeq rfl ?_
    refine hBlk ?_
    refine hLoop (α := Nat × Int) (fun x => x.1 ≤ nz ∧ 0 ≤ x.2 ∧ x.2 = left - nz - (Math.sumK Math.chl (z.take x.1) : Int)) (fun x => nz - x.1) (fun x => []) (fun x => [(0, .slice az nz cz), (1, .int .i64 x.2), (5, .int .i64 (x.1 : Int))]) (0, left - nz) ⟨Nat.zero_le _, by dsimp only; omega, by simp [Math.sumK]⟩ (fun _ h => h.pick []) ⟨rfl, rfl, rfl, trivial⟩ ?_
    rintro ⟨i, l⟩ τ1 ⟨hi, hl0, hlq⟩
    dsimp only at hi hl0 hlq
    refine hRe [(0, .slice az nz cz), (1, .int .i64 l), (5, .int .i64 (i : Int))] [] rfl rfl ?_
    refine hSeq ?_
    refine hSeq ?_
    refine hReg (sq 0 (sq 1 (sq 2 (sq 3 sz)))) (by kernel_rfl) ?_
    refine mvI rfl rfl rfl ?_
    refine mvS rfl rfl rfl ?_
    refine lenS Try.runUnderlying37 rfl rfl rfl ?_
    refine lss rfl rfl rfl rfl ?_
    refine rNil ?_
    refine qSeq rfl ?_
    refine hIfD rfl (fun c2 => ?_) (fun c2 => ?_)
    · -- c2T
      replace c2 : (i : Int) < (nz : Int) := c2
      have hst := Math.sumK_step Math.chl (l := z) (i := i) dN (by omega)
      have hle := Math.sumK_le Math.chl z (i + 1)
      refine hSkip ?_
      refine qSeq rfl ?_
      refine hSeq ?_
      refine hBlk ?_
      refine hSeq ?_
      refine hReg (sq 0 (sq 1 (sq 2 (sl 3 (sq 4 (sl 5 (sq 6 sz))))))) (by kernel_rfl) ?_
      refine mvS rfl rfl rfl ?_
      refine mvI rfl rfl rfl ?_
      refine ixRl (zn := i) (z.getD i dN) el37 (kz) rfl rfl rfl rfl (by omega) (by omega) rfl (nth dN (by omega)) ?_
      intro be1 oe1 e1
      refine ldAl Try.isAgg94 Try.sizeOf94 (e1) trv rfl rfl rfl rfl ?_
      refine mvI rfl rfl rfl ?_
      refine callP (v := .int .i64 ((Math.cut l (((z.getD i dN).ch).length : Int)))) Try.call91 trv rfl rfl (fun w hs => laws_szTreeNode_c _ _ _ _ _ _ _ _ _ w ((Kn.imp kz fun _ h => h.kidN (nth dN (by omega))) w hs) (by omega)) ?_
      refine asI rfl rfl rfl ?_
      refine rNil ?_
      refine qSeq rfl ?_
      refine hSeq ?_
      refine hReg (sq 0 (sq 1 sz)) (by kernel_rfl) ?_
      refine mvI rfl rfl rfl ?_
      refine lss rfl rfl rfl rfl ?_
      refine rNil ?_
      refine qSeq rfl ?_
      refine hIfD rfl (fun c3 => ?_) (fun c3 => ?_)
      · -- c3T
        replace c3 : (Math.cut l (((z.getD i dN).ch).length : Int)) < 0 := c3
        have hcn := Math.cut_neg (s := (Math.chl (z.getD i dN) : Int)) c3 hl0
        refine hSeq ?_
        refine hReg (sq 0 sz) (by kernel_rfl) ?_
        refine asI rfl rfl rfl ?_
        refine rNil ?_
        refine qSeq rfl ?_
        refine hRet ?_
        exact fun w hs => ⟨[.int .i64 (-1)], ⟨rfl, trivial⟩, ⟨by first | rfl | exact vI (by rw [Math.cut_no (by omega)]) | exact vI (by rw [Math.cut_yes (by omega)]; omega), hs.upd⟩⟩
      · -- c3F
        replace c3 : ¬ ((Math.cut l (((z.getD i dN).ch).length : Int)) < 0) := c3
        refine hSkip ?_
        refine qSeq rfl ?_
        refine hReg (sq 0 (sq 1 (sq 2 sz))) (by kernel_rfl) ?_
        refine mvI rfl rfl rfl ?_
        refine add rfl rfl rfl rfl (by omega) ?_
        refine asI rfl rfl rfl ?_
        refine rNil ?_
        have hcp := Math.cut_pos (s := (Math.chl (z.getD i dN) : Int)) c3
        exact qNext rfl ((i + 1, Math.cut l (Math.chl (z.getD i dN) : Int))) (by dsimp only; omega) ⟨by omega, by dsimp only; omega, by dsimp only; omega⟩ ⟨rfl, rfl, rfl, trivial⟩ (fun _ h => h.pick [])
    · -- c2F
      replace c2 : ¬ ((i : Int) < (nz : Int)) := c2
      have hall := Math.sumK_all Math.chl (l := z) (i := i) (by omega)
      refine hExit rfl ?_
      refine qSeq rfl ?_
      refine hSeq ?_
      refine hReg (sq 0 (sq 1 sz)) (by kernel_rfl) ?_
      refine mvI rfl rfl rfl ?_
      refine asI rfl rfl rfl ?_
      refine rNil ?_
      refine qSeq rfl ?_
      refine hRet ?_
      exact fun w hs => ⟨[.int .i64 l], ⟨rfl, trivial⟩, ⟨by first | rfl | exact vI (by rw [Math.cut_no (by omega)]) | exact vI (by rw [Math.cut_yes (by omega)]; omega), hs.upd⟩⟩

theorem laws_szTree_c (az : Option Addr) (nz : Nat) (cz : Nat) (Hz : Nat → Hd) (z : List Nd) (left : Int) (w : World) (rz : RdR ndK az nz Hz z w) (hl : 0 ≤ left ∧ left ≤ 1048576) :
    Calls Try.prog 26 #[.agg #[.slice az nz cz], .int .i64 left] w (Ret fun v w' => v = .int .i64 ((Math.cut left (Math.szK Math.chl z : Int))) ∧ Ext w w') := by
  have kz : Kn w none_ [] (RdR ndK az nz Hz z) := fun w' hs => rz.ext hs.upd
  have lz : z.length = nz := rz.1
  have mz : nz ≤ 9223372036854775807 := rz.2.1
  refine fn (M := none_) (rs := [.tmp 4]) Try.func26 rfl Try.ntmps26 rfl rfl (Sep.start _ _) ?_
  refine hSeq ?_
  refine hReg (sl 0 (sq 1 sz)) (by kernel_rfl) ?_
  refine box trv1 rfl rfl rfl rfl (fun bkb1 hbkb1 => ?_)
  refine asI rfl rfl rfl ?_
  refine rNil ?_
  refine qSeq rfl ?_
  refine hSeq ?_
  refine hReg (sq 0 (sl 1 (sq 2 (sl 3 (sq 4 sz))))) (by kernel_rfl) ?_
  refine fld fl39_0 rfl rfl rfl ?_
  refine ldl Try.isAgg37 (cB 0 rfl rfl) trv rfl rfl rfl ?_
  refine mvI rfl rfl rfl ?_
  refine callP (v := .int .i64 ((Math.cut left (Math.szK Math.chl z : Int)))) Try.call63 trv rfl rfl (fun w hs => laws_szTreeNodeS_c _ _ _ _ _ _ w (Kn.drop (k := 1) kz w hs) (by omega)) ?_
  refine asI rfl rfl rfl ?_
  refine rNil ?_
  refine qSeq rfl ?_
  refine hSeq ?_
  refine hSeq ?_
  refine hReg (sq 0 (sq 1 sz)) (by kernel_rfl) ?_
  refine mvI rfl rfl rfl ?_
  refine lss rfl rfl rfl rfl ?_
  refine rNil ?_
  refine qSeq rfl ?_
  refine hIfD rfl (fun c1 => ?_) (fun c1 => ?_)
  · -- c1T
    replace c1 : (Math.cut left (Math.szK Math.chl z : Int)) < 0 := c1
    refine hSeq ?_
    refine hReg (sq 0 sz) (by kernel_rfl) ?_
    refine asI rfl rfl rfl ?_
    refine rNil ?_
    refine qSeq rfl ?_
    refine hRet ?_
    exact fun w hs => ⟨[.int .i64 (-1)], ⟨rfl, trivial⟩, ⟨by first | rfl | exact vI (by have := c1; unfold Math.cut at *; split at this <;> split <;> omega), hs.upd⟩⟩
  · -- c1F
    replace c1 : ¬ ((Math.cut left (Math.szK Math.chl z : Int)) < 0) := c1
    refine hSkip ?_
    refine qSeq rfl ?_
    refine hSeq ?_
    refine hReg (sq 0 (sq 1 sz)) (by kernel_rfl) ?_
    refine mvI rfl rfl rfl ?_
    refine asI rfl rfl rfl ?_
    refine rNil ?_
    refine qSeq rfl ?_
    refine hRet ?_
    exact fun w hs => ⟨[.int .i64 ((Math.cut left (Math.szK Math.chl z : Int)))], ⟨rfl, trivial⟩, ⟨by first | rfl | exact vI (by have := c1; unfold Math.cut at *; split at this <;> split <;> omega), hs.upd⟩⟩

theorem laws_toTreeNode_c (pl : Int) (p0 : Int) (p1 : Int) (fo : Int) (ach : Option Addr) (nch : Nat) (cch : Nat) (ch : List Int) (w : World) (rch : RdI ach nch ch w) (hz : ch.length ≤ 1048576) :
    Calls Try.prog 93 #[.agg #[.int .i64 pl, .int .i64 p0, .int .i64 p1, .int .i64 fo, .slice ach nch cch]] w (Ret fun v w' => ∃ x : Option Addr × Nat × Nat × List Int, v = .agg #[.int .i64 pl, .int .i64 p0, .int .i64 p1, .int .i64 fo, .slice x.1 x.2.1 x.2.2.1] ∧ (x.2.2.2 = ch) ∧ Sep w none_ [OwnI 2 x.1 x.2.1 x.2.2.1 x.2.2.2] w') := by
  have kch : Kn w none_ [] (RdI ach nch ch) := fun w' hs => rch.ext hs.upd
  have lch : ch.length = nch := rch.1
  have mch : nch ≤ 9223372036854775807 := rch.2.1
  refine fn (M := none_) (rs := [.cell 2 76]) Try.func93 rfl Try.ntmps93 rfl rfl (Sep.start _ _) ?_
  refine hSeq ?_
  refine hReg (sl 0 (sl 1 sz)) (by kernel_rfl) ?_
  refine box trv1 rfl rfl rfl rfl (fun bkb1 hbkb1 => ?_)
  refine alc Try.zeroValue76 rfl trv1 rfl rfl (fun bka2 hbka2 => ?_)
  refine rNil ?_
  refine qSeq rfl ?_
  refine hSeq ?_
  refine hReg (sl 0 sz) (by kernel_rfl) ?_
  refine alc Try.zeroValue76 rfl trv1 rfl rfl (fun bka3 hbka3 => ?_)
  refine rNil ?_
  refine qSeq rfl ?_
  refine hSeq ?_
  refine hReg (sq 0 (sl 1 (sq 2 (sl 3 sz)))) (by kernel_rfl) ?_
  refine fld fl94_0 rfl rfl rfl ?_
  refine ldl Try.isAgg2 (cB 2 rfl rfl) trv rfl rfl rfl ?_
  refine fld fl76_0 rfl rfl rfl ?_
  refine stl (v := .int .i64 _) 0 rfl Try.sizeOf2 trv rfl rfl rfl rfl rfl (Nat.le_of_ble_eq_true rfl) ?_
  refine rNil ?_
  refine qSeq rfl ?_
  refine hSeq ?_
  refine hReg (sq 0 (sl 1 (sq 2 (sl 3 sz)))) (by kernel_rfl) ?_
  refine fld fl94_1 rfl rfl rfl ?_
  refine ldl Try.isAgg2 (cB 2 rfl rfl) trv rfl rfl rfl ?_
  refine fld fl76_1 rfl rfl rfl ?_
  refine stl (v := .int .i64 _) 0 rfl Try.sizeOf2 trv rfl rfl rfl rfl rfl (Nat.le_of_ble_eq_true rfl) ?_
  refine rNil ?_
  refine qSeq rfl ?_
  refine hSeq ?_
  refine hReg (sq 0 (sl 1 (sq 2 (sl 3 sz)))) (by kernel_rfl) ?_
  refine fld fl94_2 rfl rfl rfl ?_
  refine ldl Try.isAgg2 (cB 2 rfl rfl) trv rfl rfl rfl ?_
  refine fld fl76_2 rfl rfl rfl ?_
  refine stl (v := .int .i64 _) 0 rfl Try.sizeOf2 trv rfl rfl rfl rfl rfl (Nat.le_of_ble_eq_true rfl) ?_
  refine rNil ?_
  refine qSeq rfl ?_
  refine hSeq ?_
  refine hReg (sq 0 (sl 1 (sq 2 (sl 3 sz)))) (by kernel_rfl) ?_
  refine fld fl94_3 rfl rfl rfl ?_
  refine ldl Try.isAgg2 (cB 2 rfl rfl) trv rfl rfl rfl ?_
  refine fld fl76_3 rfl rfl rfl ?_
  refine stl (v := .int .i64 _) 0 rfl Try.sizeOf2 trv rfl rfl rfl rfl rfl (Nat.le_of_ble_eq_true rfl) ?_
  refine rNil ?_
  refine qSeq rfl ?_
  refine hSeq ?_
  refine hReg (sq 0 (sl 1 (sl 2 (sq 3 (sl 4 sz))))) (by kernel_rfl) ?_
  refine fld fl94_4 rfl rfl rfl ?_
  refine ldl Try.isAgg22 (cB 2 rfl rfl) trv rfl rfl rfl ?_
  refine callS Try.call16 trv1 rfl rfl (fun w hs => laws_toInt64S_c _ _ _ _ w (Kn.drop (k := 3) kch w hs) (by omega)) ?_
  rintro ⟨ay1, ny1, cy1, y1⟩ hr1
  try dsimp only at hr1
  refine fld fl76_4 rfl rfl rfl ?_
  refine stl (v := .slice _ _ _) 1 rfl Try.sizeOf22 trv rfl rfl rfl rfl rfl (Nat.le_of_ble_eq_true rfl) ?_
  refine rNil ?_
  refine qSeq rfl ?_
  refine hSeq ?_
  refine hReg (sl 0 (sl 1 sz)) (by kernel_rfl) ?_
  refine ldAl Try.isAgg76 Try.sizeOf76 (cBs 1 rfl) trv rfl rfl rfl rfl ?_
  refine stAl (vs := [.int .i64 pl, .int .i64 p0, .int .i64 p1, .int .i64 fo, .slice ay1 ny1 cy1]) 2 rfl Try.sizeOf76 trv rfl rfl rfl rfl rfl (by simp [Value.oneCell']) rfl ?_
  refine rNil ?_
  refine qSeq rfl ?_
  refine hRet ?_
  exact fun w hs => ⟨[_], ⟨⟨_, rfl, run_load_agg Try.isAgg76 Try.sizeOf76 rfl (cBs 2 rfl w hs)⟩, trivial⟩, ⟨(ay1, ny1, cy1, y1), rfl, hr1, hs.pick [0]⟩⟩

theorem laws_toTreeNodeS_c (az : Option Addr) (nz : Nat) (cz : Nat) (Hz : Nat → Hd) (z : List Nd) (w : World) (rz : RdR ndK az nz Hz z w) (hz : Math.szK Math.chl z ≤ 1048576) :
    Calls Try.prog 66 #[.slice az nz cz] w (Ret fun v w' => ∃ x : Option Addr × Nat × Nat × (Nat → Hd) × List Nd, v = .slice x.1 x.2.1 x.2.2.1 ∧ (x.2.2.2.2 = z) ∧ Sep w none_ [OwnR ndK 76 2 x.1 x.2.1 x.2.2.1 x.2.2.2.1 x.2.2.2.2] w') := by
  have kz : Kn w none_ [] (RdR ndK az nz Hz z) := fun w' hs => rz.ext hs.upd
  have lz : z.length = nz := rz.1
  have mz : nz ≤ 9223372036854775807 := rz.2.1
  have hz1 := Math.szK_len hz
  refine fn (M := none_) (rs := [.tmp 2]) Try.func66 rfl Try.ntmps66 rfl rfl (Sep.start _ _) ?_
  refine hSeq ?_
  refine hReg (sq 0 sz) (by kernel_rfl) ?_
  refine asS rfl rfl rfl ?_
  refine rNil ?_
  refine qSeq rfl ?_
  refine hSeq ?_
  refine hReg (sq 0 (sq 1 (sl 2 (sq 3 sz)))) (by kernel_rfl) ?_
  refine mvS rfl rfl rfl ?_
  refine lenS Try.runUnderlying37 rfl rfl rfl ?_
  refine mksR (e1 := 2) nz dN ndK.ok rfl rfl mk29 trv1 rfl rfl rfl rfl (rfl) (by omega) (fun bkm1 hbkm1 => ?_)
  refine asS rfl rfl rfl ?_
  refine rNil ?_
  refine qSeq rfl ?_
  refine hSeq ?_
  refine hSeq ?_
  refine hReg (sq 0 sz) (by kernel_rfl) ?_
  refine asI rfl rfl rfl ?_
  refine rNil ?_
  refine qSeq rfl ?_
  refine hBlk ?_
  rw [Math.fill_start z nz dN]
  refine hLoop (α := Nat × (Nat → Hd)) (fun x => x.1 ≤ nz) (fun x => nz - x.1) (fun x => [OwnR ndK 76 2 (some ⟨bkm1, 0, none⟩) nz nz x.2 ((z.take x.1 ++ List.replicate (nz - x.1) dN))]) (fun x => [(0, .slice az nz cz), (3, .slice (some ⟨bkm1, 0, none⟩) nz nz), (4, .int .i64 (x.1 : Int))]) ((0, fun _ => (none, 0))) (Nat.zero_le _) (fun _ h => h.pick [0]) ⟨rfl, rfl, rfl, trivial⟩ ?_
  rintro ⟨i, hh⟩ τ1 hi
  dsimp only at hi
  refine hRe [(0, .slice az nz cz), (3, .slice (some ⟨bkm1, 0, none⟩) nz nz), (4, .int .i64 (i : Int))] [OwnR ndK 76 2 (some ⟨bkm1, 0, none⟩) nz nz hh ((z.take i ++ List.replicate (nz - i) dN))] rfl rfl ?_
  refine hSeq ?_
  refine hSeq ?_
  refine hReg (sq 0 (sq 1 (sq 2 (sq 3 sz)))) (by kernel_rfl) ?_
  refine mvI rfl rfl rfl ?_
  refine mvS rfl rfl rfl ?_
  refine lenS Try.runUnderlying37 rfl rfl rfl ?_
  refine lss rfl rfl rfl rfl ?_
  refine rNil ?_
  refine qSeq rfl ?_
  refine hIfD rfl (fun c1 => ?_) (fun c1 => ?_)
  · -- c1T
    replace c1 : (i : Int) < (nz : Int) := c1
    have hch := Math.szK_at dN hz (show i < z.length by omega)
    refine hSkip ?_
    refine qSeq rfl ?_
    refine hSeq ?_
    refine hBlk ?_
    refine hReg (sq 0 (sq 1 (sq 2 (sq 3 (sq 4 (sl 5 (sl 6 (sq 7 (sl 8 sz))))))))) (by kernel_rfl) ?_
    refine mvS rfl rfl rfl ?_
    refine mvI rfl rfl rfl ?_
    refine mvS rfl rfl rfl ?_
    refine mvI rfl rfl rfl ?_
    refine ixRl (zn := i) (z.getD i dN) el37 (Kn.drop (k := 1) kz) rfl rfl rfl rfl (by omega) (by omega) rfl (nth dN (by omega)) ?_
    intro be1 oe1 e1
    refine ldAl Try.isAgg94 Try.sizeOf94 (e1) trv rfl rfl rfl rfl ?_
    refine callS Try.call93 trv1 rfl rfl (fun w hs => laws_toTreeNode_c _ _ _ _ _ _ _ _ w (Kn.drop (k := 1) ((Kn.imp kz fun _ h => h.kidN (nth dN (by omega)))) w hs) hch) ?_
    rintro ⟨ay2, ny2, cy2, y2⟩ hr2
    try dsimp only at hr2
    refine oxR (zn := i) 1 rfl el29 rfl rfl rfl rfl (by omega) (by omega) rfl ?_
    intro gk3 hgk3
    refine stR (hd := (ay2, cy2)) (x := (Nd.mk (((z.getD i dN).pl)) (((z.getD i dN).p0)) (((z.getD i dN).p1)) (((z.getD i dN).fo)) y2)) (v := .agg #[.int .i64 (((z.getD i dN).pl)), .int .i64 (((z.getD i dN).p0)), .int .i64 (((z.getD i dN).p1)), .int .i64 (((z.getD i dN).fo)), .slice ay2 ny2 cy2]) i 1 0 ndK.ok rfl rfl hgk3 Try.sizeOf76 trv rfl rfl rfl rfl rfl (fun h => by first | rfl | (dsimp only at h; rw [h]; rfl) | (rw [h]; rfl) | exact congrArg (fun m => [Value.slice _ m _]) h | (simp only [maK, List.length_replicate]; rfl)) (by omega) ?_
    refine rNil ?_
    refine qSeq rfl ?_
    refine hReg (sq 0 (sq 1 (sq 2 sz))) (by kernel_rfl) ?_
    refine mvI rfl rfl rfl ?_
    refine add rfl rfl rfl rfl (by omega) ?_
    refine asI rfl rfl rfl ?_
    refine rNil ?_
    rw [hr2, Math.fill_step dN dN lz (by omega)]
    exact qNext rfl ((i + 1, (hset hh i (ay2, cy2)))) (by dsimp only; omega) (by dsimp only; omega) ⟨rfl, rfl, rfl, trivial⟩ (fun _ h => h.pick [0])
  · -- c1F
    replace c1 : ¬ ((i : Int) < (nz : Int)) := c1
    refine hExit rfl ?_
    refine qSeq rfl ?_
    refine hSeq ?_
    refine hReg (sq 0 (sq 1 sz)) (by kernel_rfl) ?_
    refine mvS rfl rfl rfl ?_
    refine asS rfl rfl rfl ?_
    refine rNil ?_
    refine qSeq rfl ?_
    refine hRet ?_
    exact fun w hs => ⟨[.slice (some ⟨bkm1, 0, none⟩) nz nz], ⟨rfl, trivial⟩, ⟨((some ⟨bkm1, 0, none⟩), nz, nz, hh, (z.take i ++ List.replicate (nz - i) dN)), rfl, Math.fill_end _ lz (by omega), hs.pick [0]⟩⟩

theorem laws_toTree_c (az : Option Addr) (nz : Nat) (cz : Nat) (Hz : Nat → Hd) (z : List Nd) (w : World) (rz : RdR ndK az nz Hz z w) (hz : Math.szK Math.chl z ≤ 1048576) :
    Calls Try.prog 28 #[.agg #[.slice az nz cz]] w (Ret fun v w' => ∃ x : Option Addr × Nat × Nat × (Nat → Hd) × List Nd, v = .agg #[.slice x.1 x.2.1 x.2.2.1] ∧ (x.2.2.2.2 = z) ∧ Sep w none_ [OwnR ndK 76 2 x.1 x.2.1 x.2.2.1 x.2.2.2.1 x.2.2.2.2] w') := by
  have kz : Kn w none_ [] (RdR ndK az nz Hz z) := fun w' hs => rz.ext hs.upd
  have lz : z.length = nz := rz.1
  have mz : nz ≤ 9223372036854775807 := rz.2.1
  refine fn (M := none_) (rs := [.cell 2 31]) Try.func28 rfl Try.ntmps28 rfl rfl (Sep.start _ _) ?_
  refine hSeq ?_
  refine hReg (sl 0 (sl 1 sz)) (by kernel_rfl) ?_
  refine box trv1 rfl rfl rfl rfl (fun bkb1 hbkb1 => ?_)
  refine alc Try.zeroValue31 rfl trv1 rfl rfl (fun bka2 hbka2 => ?_)
  refine rNil ?_
  refine qSeq rfl ?_
  refine hSeq ?_
  refine hReg (sl 0 sz) (by kernel_rfl) ?_
  refine alc Try.zeroValue31 rfl trv1 rfl rfl (fun bka3 hbka3 => ?_)
  refine rNil ?_
  refine qSeq rfl ?_
  refine hSeq ?_
  refine hReg (sq 0 (sl 1 (sl 2 (sq 3 (sl 4 sz))))) (by kernel_rfl) ?_
  refine fld fl39_0 rfl rfl rfl ?_
  refine ldl Try.isAgg37 (cB 2 rfl rfl) trv rfl rfl rfl ?_
  refine callS Try.call66 trv1 rfl rfl (fun w hs => laws_toTreeNodeS_c _ _ _ _ _ w (Kn.drop (k := 3) kz w hs) (by first | assumption | omega)) ?_
  rintro ⟨ay1, ny1, cy1, Hy1, y1⟩ hr1
  try dsimp only at hr1
  refine fld fl31_0 rfl rfl rfl ?_
  refine stl (v := .slice _ _ _) 1 rfl Try.sizeOf29 trv rfl rfl rfl rfl rfl (Nat.le_of_ble_eq_true rfl) ?_
  refine rNil ?_
  refine qSeq rfl ?_
  refine hSeq ?_
  refine hReg (sl 0 (sl 1 sz)) (by kernel_rfl) ?_
  refine ldAl Try.isAgg31 Try.sizeOf31 (cBs 1 rfl) trv rfl rfl rfl rfl ?_
  refine stAl (vs := [.slice ay1 ny1 cy1]) 2 rfl Try.sizeOf31 trv rfl rfl rfl rfl rfl (by simp [Value.oneCell']) rfl ?_
  refine rNil ?_
  refine qSeq rfl ?_
  refine hRet ?_
  exact fun w hs => ⟨[_], ⟨⟨_, rfl, run_load_agg Try.isAgg31 Try.sizeOf31 rfl (cBs 2 rfl w hs)⟩, trivial⟩, ⟨(ay1, ny1, cy1, Hy1, y1), rfl, hr1, hs.pick [0]⟩⟩

theorem laws_eqTreeNode_c (pl : Int) (p0 : Int) (p1 : Int) (fo : Int) (ach : Option Addr) (nch : Nat) (cch : Nat) (ch : List Int) (ql : Int) (q0 : Int) (q1 : Int) (go_ : Int) (adh : Option Addr) (ndh : Nat) (cdh : Nat) (dh : List Int) (w : World) (rch : RdI ach nch ch w) (rdh : RdI adh ndh dh w) (heq : pl = ql ∧ p0 = q0 ∧ p1 = q1 ∧ fo = go_ ∧ ch = dh) :
    Calls Try.prog 90 #[.agg #[.int .i64 pl, .int .i64 p0, .int .i64 p1, .int .i64 fo, .slice ach nch cch], .agg #[.int .i64 ql, .int .i64 q0, .int .i64 q1, .int .i64 go_, .slice adh ndh cdh]] w (Ret fun v w' => v = .bool true ∧ Ext w w') := by
  have kch : Kn w none_ [] (RdI ach nch ch) := fun w' hs => rch.ext hs.upd
  have lch : ch.length = nch := rch.1
  have mch : nch ≤ 9223372036854775807 := rch.2.1
  have kdh : Kn w none_ [] (RdI adh ndh dh) := fun w' hs => rdh.ext hs.upd
  have ldh : dh.length = ndh := rdh.1
  have mdh : ndh ≤ 9223372036854775807 := rdh.2.1
  refine fn (M := none_) (rs := [.tmp 4]) Try.func90 rfl Try.ntmps90 rfl rfl (Sep.start _ _) ?_
  refine hSeq ?_
  refine hReg (sl 0 (sl 1 (sq 2 sz))) (by kernel_rfl) ?_
  refine box trv1 rfl rfl rfl rfl (fun bkb1 hbkb1 => ?_)
  refine box trv1 rfl rfl rfl rfl (fun bkb2 hbkb2 => ?_)
  refine asB rfl rfl rfl ?_
  refine rNil ?_
  refine qSeq rfl ?_
  refine hSeq ?_
  refine hSeq ?_
  refine hReg (sq 0 (sl 1 (sq 2 (sl 3 (sq 4 sz))))) (by kernel_rfl) ?_
  refine fld fl76_0 rfl rfl rfl ?_
  refine ldl Try.isAgg2 (cB 1 rfl rfl) trv rfl rfl rfl ?_
  refine fld fl76_0 rfl rfl rfl ?_
  refine ldl Try.isAgg2 (cB 0 rfl rfl) trv rfl rfl rfl ?_
  refine neq rfl rfl rfl rfl ?_
  refine rNil ?_
  refine qSeq rfl ?_
  refine hIfD rfl (fun c1 => ?_) (fun c1 => ?_)
  · -- c1T
    replace c1 : pl ≠ ql := c1
    exact absurd heq.1 c1
  · -- c1F
    replace c1 : ¬ (pl ≠ ql) := c1
    refine hSkip ?_
    refine qSeq rfl ?_
    refine hSeq ?_
    refine hSeq ?_
    refine hReg (sq 0 (sl 1 (sq 2 (sl 3 (sq 4 sz))))) (by kernel_rfl) ?_
    refine fld fl76_1 rfl rfl rfl ?_
    refine ldl Try.isAgg2 (cB 1 rfl rfl) trv rfl rfl rfl ?_
    refine fld fl76_1 rfl rfl rfl ?_
    refine ldl Try.isAgg2 (cB 0 rfl rfl) trv rfl rfl rfl ?_
    refine neq rfl rfl rfl rfl ?_
    refine rNil ?_
    refine qSeq rfl ?_
    refine hIfD rfl (fun c2 => ?_) (fun c2 => ?_)
    · -- c2T
      replace c2 : p0 ≠ q0 := c2
      exact absurd heq.2.1 c2
    · -- c2F
      replace c2 : ¬ (p0 ≠ q0) := c2
      refine hSkip ?_
      refine qSeq rfl ?_
      refine hSeq ?_
      refine hSeq ?_
      refine hReg (sq 0 (sl 1 (sq 2 (sl 3 (sq 4 sz))))) (by kernel_rfl) ?_
      refine fld fl76_2 rfl rfl rfl ?_
      refine ldl Try.isAgg2 (cB 1 rfl rfl) trv rfl rfl rfl ?_
      refine fld fl76_2 rfl rfl rfl ?_
      refine ldl Try.isAgg2 (cB 0 rfl rfl) trv rfl rfl rfl ?_
      refine neq rfl rfl rfl rfl ?_
      refine rNil ?_
      refine qSeq rfl ?_
      refine hIfD rfl (fun c3 => ?_) (fun c3 => ?_)
      · -- c3T
        replace c3 : p1 ≠ q1 := c3
        exact absurd heq.2.2.1 c3
      · -- c3F
        replace c3 : ¬ (p1 ≠ q1) := c3
        refine hSkip ?_
        refine qSeq rfl ?_
        refine hSeq ?_
        refine hSeq ?_
        refine hReg (sq 0 (sl 1 (sq 2 (sl 3 (sq 4 sz))))) (by kernel_rfl) ?_
        refine fld fl76_3 rfl rfl rfl ?_
        refine ldl Try.isAgg2 (cB 1 rfl rfl) trv rfl rfl rfl ?_
        refine fld fl76_3 rfl rfl rfl ?_
        refine ldl Try.isAgg2 (cB 0 rfl rfl) trv rfl rfl rfl ?_
        refine neq rfl rfl rfl rfl ?_
        refine rNil ?_
        refine qSeq rfl ?_
        refine hIfD rfl (fun c4 => ?_) (fun c4 => ?_)
        · -- c4T
          replace c4 : fo ≠ go_ := c4
          exact absurd heq.2.2.2.1 c4
        · -- c4F
          replace c4 : ¬ (fo ≠ go_) := c4
          refine hSkip ?_
          refine qSeq rfl ?_
          refine hSeq ?_
          refine hSeq ?_
          refine hReg (sq 0 (sl 1 (sq 2 (sl 3 (sl 4 (sq 5 sz)))))) (by kernel_rfl) ?_
          refine fld fl76_4 rfl rfl rfl ?_
          refine ldl Try.isAgg22 (cB 1 rfl rfl) trv rfl rfl rfl ?_
          refine fld fl76_4 rfl rfl rfl ?_
          refine ldl Try.isAgg22 (cB 0 rfl rfl) trv rfl rfl rfl ?_
          refine callP (v := .bool true) Try.call18 trv rfl rfl (fun w hs => laws_eqInt64S_c _ _ _ _ _ _ _ _ w (Kn.drop (k := 2) kch w hs) (Kn.drop (k := 2) kdh w hs) heq.2.2.2.2) ?_
          refine not rfl rfl rfl ?_
          refine rNil ?_
          refine qSeq rfl ?_
          refine hIfF rfl ?_
          refine hSkip ?_
          refine qSeq rfl ?_
          refine hSeq ?_
          refine hReg (sq 0 sz) (by kernel_rfl) ?_
          refine asB rfl rfl rfl ?_
          refine rNil ?_
          refine qSeq rfl ?_
          refine hRet ?_
          exact fun w hs => ⟨[.bool true], ⟨rfl, trivial⟩, ⟨by first | rfl | exact bD (by omega) | exact bT (by omega) | exact bF (by omega) | exact vI (by omega), hs.upd⟩⟩

theorem laws_eqTreeNodeS_c (az : Option Addr) (nz : Nat) (cz : Nat) (Hz : Nat → Hd) (z : List Nd) (ay : Option Addr) (ny : Nat) (cy : Nat) (Hy : Nat → Hd) (y : List Nd) (w : World) (rz : RdR ndK az nz Hz z w) (ry : RdR ndK ay ny Hy y w) (heq : z = y) :
    Calls Try.prog 60 #[.slice az nz cz, .slice ay ny cy] w (Ret fun v w' => v = .bool true ∧ Ext w w') := by
  have kz : Kn w none_ [] (RdR ndK az nz Hz z) := fun w' hs => rz.ext hs.upd
  have lz : z.length = nz := rz.1
  have mz : nz ≤ 9223372036854775807 := rz.2.1
  have ky : Kn w none_ [] (RdR ndK ay ny Hy y) := fun w' hs => ry.ext hs.upd
  have ly : y.length = ny := ry.1
  have my : ny ≤ 9223372036854775807 := ry.2.1
  have ly2 : y.length = nz := by rw [← heq]; exact lz
  refine fn (M := none_) (rs := [.tmp 4]) Try.func60 rfl Try.ntmps60 rfl rfl (Sep.start _ _) ?_
  refine hSeq ?_
  refine hReg (sq 0 sz) (by kernel_rfl) ?_
  refine asB rfl rfl rfl ?_
  refine rNil ?_
  refine qSeq rfl ?_
  refine hSeq ?_
  refine hSeq ?_
  refine hReg (sq 0 (sq 1 (sq 2 (sq 3 (sq 4 sz))))) (by kernel_rfl) ?_
  refine mvS rfl rfl rfl ?_
  refine lenS Try.runUnderlying29 rfl rfl rfl ?_
  refine mvS rfl rfl rfl ?_
  refine lenS Try.runUnderlying29 rfl rfl rfl ?_
  refine neq rfl rfl rfl rfl ?_
  refine rNil ?_
  refine qSeq rfl ?_
  refine hIfD rfl (fun c1 => ?_) (fun c1 => ?_)
  · -- c1T
    replace c1 : (nz : Int) ≠ (ny : Int) := c1
    exact absurd c1 (by omega)
  · -- c1F
    replace c1 : ¬ ((nz : Int) ≠ (ny : Int)) := c1
    refine hSkip ?_
    refine qSeq rfl ?_
    refine hSeq ?_
    refine hSeq ?_
    refine hReg (sq 0 sz) (by kernel_rfl) ?_
    refine asI rfl rfl rfl ?_
    refine rNil ?_
    refine qSeq rfl ?_
    refine hBlk ?_
    refine hLoop (α := Nat) (fun i => i ≤ nz) (fun i => nz - i) (fun i => []) (fun i => [(0, .slice az nz cz), (1, .slice ay ny cy), (5, .int .i64 (i : Int))]) 0 (Nat.zero_le _) (fun _ h => h.pick []) ⟨rfl, rfl, rfl, trivial⟩ ?_
    rintro i τ1 hi
    refine hSeq ?_
    refine hSeq ?_
    refine hReg (sq 0 (sq 1 (sq 2 (sq 3 sz)))) (by kernel_rfl) ?_
    refine mvI rfl rfl rfl ?_
    refine mvS rfl rfl rfl ?_
    refine lenS Try.runUnderlying29 rfl rfl rfl ?_
    refine lss rfl rfl rfl rfl ?_
    refine rNil ?_
    refine qSeq rfl ?_
    refine hIfD rfl (fun c2 => ?_) (fun c2 => ?_)
    · -- c2T
      replace c2 : (i : Int) < (nz : Int) := c2
      refine hSkip ?_
      refine qSeq rfl ?_
      refine hSeq ?_
      refine hBlk ?_
      refine hSeq ?_
      refine hDraw (Ls := []) (by kernel_rfl) (sq 0 (sq 1 (sq 2 (sq 3 (sq 4 (sq 5 (sq 6 (sq 7 (sl 8 (sq 9 sz)))))))))) (by kernel_rfl) .slnil ?_
      refine mvS rfl rfl rfl ?_
      refine mvI rfl rfl rfl ?_
      refine ixRq (zn := i) (z.getD i dN) el29 (kz) (fun _ h => h.pick []) rfl rfl rfl rfl (by omega) (by omega) rfl (nth dN (by omega)) ?_
      intro be1 oe1 e1
      refine ldAq Try.isAgg76 Try.sizeOf76 (e1) rfl rfl rfl rfl ?_
      refine mvS rfl rfl rfl ?_
      refine mvI rfl rfl rfl ?_
      refine ixRq (zn := i) (y.getD i dN) el29 (ky) (fun _ h => h.pick []) rfl rfl rfl rfl (by omega) (by omega) rfl (nth dN (by omega)) ?_
      intro be2 oe2 e2
      refine ldAq Try.isAgg76 Try.sizeOf76 (e2) rfl rfl rfl rfl ?_
      refine callP (v := .bool true) Try.call90 (fun _ h => h.pick []) rfl rfl (fun w hs => laws_eqTreeNode_c _ _ _ _ _ _ _ _ _ _ _ _ _ _ _ _ w ((Kn.imp kz fun _ h => h.kidN (nth dN (by omega))) w hs) ((Kn.imp ky fun _ h => h.kidN (nth dN (by omega))) w hs) (by first | exact ⟨rfl, rfl, rfl, rfl, rfl⟩ | (rw [heq]; exact ⟨rfl, rfl, rfl, rfl, rfl⟩))) ?_
      refine not rfl rfl rfl ?_
      refine rNil ?_
      refine qSeq rfl ?_
      refine hIfF rfl ?_
      refine hSkip ?_
      refine qSeq rfl ?_
      refine hReg (sq 0 (sq 1 (sq 2 sz))) (by kernel_rfl) ?_
      refine mvI rfl rfl rfl ?_
      refine add rfl rfl rfl rfl (by omega) ?_
      refine asI rfl rfl rfl ?_
      refine rNil ?_
      exact qNext rfl (i + 1) (by omega) (by omega) ⟨rfl, rfl, rfl, trivial⟩ (fun _ h => h.pick [])
    · -- c2F
      replace c2 : ¬ ((i : Int) < (nz : Int)) := c2
      refine hExit rfl ?_
      refine qSeq rfl ?_
      refine hSeq ?_
      refine hReg (sq 0 sz) (by kernel_rfl) ?_
      refine asB rfl rfl rfl ?_
      refine rNil ?_
      refine qSeq rfl ?_
      refine hRet ?_
      exact fun w hs => ⟨[.bool true], ⟨rfl, trivial⟩, ⟨by first | rfl | exact bD (by omega) | exact bT (by omega) | exact bF (by omega) | exact vI (by omega), hs.upd⟩⟩

theorem laws_eqTree_c (az : Option Addr) (nz : Nat) (cz : Nat) (Hz : Nat → Hd) (z : List Nd) (ay : Option Addr) (ny : Nat) (cy : Nat) (Hy : Nat → Hd) (y : List Nd) (w : World) (rz : RdR ndK az nz Hz z w) (ry : RdR ndK ay ny Hy y w) (heq : z = y) :
    Calls Try.prog 23 #[.agg #[.slice az nz cz], .agg #[.slice ay ny cy]] w (Ret fun v w' => v = .bool true ∧ Ext w w') := by
  have kz : Kn w none_ [] (RdR ndK az nz Hz z) := fun w' hs => rz.ext hs.upd
  have lz : z.length = nz := rz.1
  have mz : nz ≤ 9223372036854775807 := rz.2.1
  have ky : Kn w none_ [] (RdR ndK ay ny Hy y) := fun w' hs => ry.ext hs.upd
  have ly : y.length = ny := ry.1
  have my : ny ≤ 9223372036854775807 := ry.2.1
  refine fn (M := none_) (rs := [.tmp 4]) Try.func23 rfl Try.ntmps23 rfl rfl (Sep.start _ _) ?_
  refine hSeq ?_
  refine hReg (sl 0 (sl 1 (sq 2 sz))) (by kernel_rfl) ?_
  refine box trv1 rfl rfl rfl rfl (fun bkb1 hbkb1 => ?_)
  refine box trv1 rfl rfl rfl rfl (fun bkb2 hbkb2 => ?_)
  refine asB rfl rfl rfl ?_
  refine rNil ?_
  refine qSeq rfl ?_
  refine hSeq ?_
  refine hSeq ?_
  refine hReg (sq 0 (sl 1 (sq 2 (sl 3 (sl 4 (sq 5 sz)))))) (by kernel_rfl) ?_
  refine fld fl31_0 rfl rfl rfl ?_
  refine ldl Try.isAgg29 (cB 1 rfl rfl) trv rfl rfl rfl ?_
  refine fld fl31_0 rfl rfl rfl ?_
  refine ldl Try.isAgg29 (cB 0 rfl rfl) trv rfl rfl rfl ?_
  refine callP (v := .bool true) Try.call60 trv rfl rfl (fun w hs => laws_eqTreeNodeS_c _ _ _ _ _ _ _ _ _ _ w (Kn.drop (k := 2) kz w hs) (Kn.drop (k := 2) ky w hs) (by first | rfl | assumption | (rw [heq]) | (simp only [*]))) ?_
  refine not rfl rfl rfl ?_
  refine rNil ?_
  refine qSeq rfl ?_
  refine hIfF rfl ?_
  refine hSkip ?_
  refine qSeq rfl ?_
  refine hSeq ?_
  refine hReg (sq 0 sz) (by kernel_rfl) ?_
  refine asB rfl rfl rfl ?_
  refine rNil ?_
  refine qSeq rfl ?_
  refine hRet ?_
  exact fun w hs => ⟨[.bool true], ⟨rfl, trivial⟩, ⟨by first | rfl | exact bD (by omega) | exact bT (by omega) | exact bF (by omega) | exact vI (by omega), hs.upd⟩⟩

theorem laws_szInt64SS_c (az : Option Addr) (nz : Nat) (cz : Nat) (Hz : Nat → Hd) (z : List (List Int)) (left : Int) (w : World) (rz : RdR maK az nz Hz z w) (hl : 0 ≤ left ∧ left ≤ 1048576) :
    Calls Try.prog 74 #[.slice az nz cz, .int .i64 left] w (Ret fun v w' => v = .int .i64 ((Math.cut left (Math.szK Math.rwl z : Int))) ∧ Ext w w') := by
  have kz : Kn w none_ [] (RdR maK az nz Hz z) := fun w' hs => rz.ext hs.upd
  have lz : z.length = nz := rz.1
  have mz : nz ≤ 9223372036854775807 := rz.2.1
  have hsz : Math.szK Math.rwl z = z.length + Math.sumK Math.rwl z := rfl
  refine fn (M := none_) (rs := [.tmp 4]) Try.func74 rfl Try.ntmps74 rfl rfl (Sep.start _ _) ?_
  refine hSeq ?_
  refine hReg (sq 0 sz) (by kernel_rfl) ?_
  refine asI rfl rfl rfl ?_
  refine rNil ?_
  refine qSeq rfl ?_
  refine hSeq ?_
  refine hReg (sq 0 (sq 1 (sq 2 (sq 3 (sq 4 sz))))) (by kernel_rfl) ?_
  refine mvI rfl rfl rfl ?_
  refine mvS rfl rfl rfl ?_
  refine lenS Try.runUnderlying51 rfl rfl rfl ?_
  refine sub rfl rfl rfl rfl (by omega) ?_
  refine asI rfl rfl rfl ?_
  refine rNil ?_
  refine qSeq rfl ?_
  refine hSeq ?_
  refine hSeq ?_
  refine hReg (sq 0 (sq 1 sz)) (by kernel_rfl) ?_
  refine mvI rfl rfl rfl ?_
  refine lss rfl rfl rfl rfl ?_
  refine rNil ?_
  refine qSeq rfl ?_
  refine hIfD rfl (fun c1 => ?_) (fun c1 => ?_)
  · -- c1T
    replace c1 : (left - (nz : Int)) < 0 := c1
    refine hSeq ?_
    refine hReg (sq 0 sz) (by kernel_rfl) ?_
    refine asI rfl rfl rfl ?_
    refine rNil ?_
    refine qSeq rfl ?_
    refine hRet ?_
    exact fun w hs => ⟨[.int .i64 (-1)], ⟨rfl, trivial⟩, ⟨by first | rfl | exact vI (by rw [Math.cut_no (by omega)]) | exact vI (by rw [Math.cut_yes (by omega)]; omega), hs.upd⟩⟩
  · -- c1F
    replace c1 : ¬ ((left - (nz : Int)) < 0) := c1
    refine hSkip ?_
    refine qSeq rfl ?_
    refine hSeq ?_
    refine hSeq ?_
    refine hReg (sq 0 sz) (by kernel_rfl) ?_
    refine asI rfl rfl rfl ?_
    refine rNil ?_
    refine qSeq rfl ?_
    refine hBlk ?_
    refine hLoop (α := Nat × Int) (fun x => x.1 ≤ nz ∧ 0 ≤ x.2 ∧ x.2 = left - nz - (Math.sumK Math.rwl (z.take x.1) : Int)) (fun x => nz - x.1) (fun x => []) (fun x => [(0, .slice az nz cz), (1, .int .i64 x.2), (5, .int .i64 (x.1 : Int))]) (0, left - nz) ⟨Nat.zero_le _, by dsimp only; omega, by simp [Math.sumK]⟩ (fun _ h => h.pick []) ⟨rfl, rfl, rfl, trivial⟩ ?_
    rintro ⟨i, l⟩ τ1 ⟨hi, hl0, hlq⟩
    dsimp only at hi hl0 hlq
    refine hRe [(0, .slice az nz cz), (1, .int .i64 l), (5, .int .i64 (i : Int))] [] rfl rfl ?_
    refine hSeq ?_
    refine hSeq ?_
    refine hReg (sq 0 (sq 1 (sq 2 (sq 3 sz)))) (by kernel_rfl) ?_
    refine mvI rfl rfl rfl ?_
    refine mvS rfl rfl rfl ?_
    refine lenS Try.runUnderlying51 rfl rfl rfl ?_
    refine lss rfl rfl rfl rfl ?_
    refine rNil ?_
    refine qSeq rfl ?_
    refine hIfD rfl (fun c2 => ?_) (fun c2 => ?_)
    · -- c2T
      replace c2 : (i : Int) < (nz : Int) := c2
      have hst := Math.sumK_step Math.rwl (l := z) (i := i) [] (by omega)
      have hle := Math.sumK_le Math.rwl z (i + 1)
      refine hSkip ?_
      refine qSeq rfl ?_
      refine hSeq ?_
      refine hBlk ?_
      refine hSeq ?_
      refine hReg (sq 0 (sq 1 (sq 2 (sl 3 (sq 4 (sl 5 (sq 6 sz))))))) (by kernel_rfl) ?_
      refine mvS rfl rfl rfl ?_
      refine mvI rfl rfl rfl ?_
      refine ixRl (zn := i) (z.getD i []) el51 (kz) rfl rfl rfl rfl (by omega) (by omega) rfl (nth [] (by omega)) ?_
      intro be1 oe1 e1
      refine ldl Try.isAgg22 (Kn.fld e1 0 rfl) trv rfl rfl rfl ?_
      refine mvI rfl rfl rfl ?_
      refine callP (v := .int .i64 ((Math.cut l ((z.getD i []).length : Int)))) Try.call94 trv rfl rfl (fun w hs => laws_szInt64S_c _ _ _ _ _ w ((Kn.imp kz fun _ h => h.kidM (nth [] (by omega))) w hs) (by omega)) ?_
      refine asI rfl rfl rfl ?_
      refine rNil ?_
      refine qSeq rfl ?_
      refine hSeq ?_
      refine hReg (sq 0 (sq 1 sz)) (by kernel_rfl) ?_
      refine mvI rfl rfl rfl ?_
      refine lss rfl rfl rfl rfl ?_
      refine rNil ?_
      refine qSeq rfl ?_
      refine hIfD rfl (fun c3 => ?_) (fun c3 => ?_)
      · -- c3T
        replace c3 : (Math.cut l ((z.getD i []).length : Int)) < 0 := c3
        have hcn := Math.cut_neg (s := (Math.rwl (z.getD i []) : Int)) c3 hl0
        refine hSeq ?_
        refine hReg (sq 0 sz) (by kernel_rfl) ?_
        refine asI rfl rfl rfl ?_
        refine rNil ?_
        refine qSeq rfl ?_
        refine hRet ?_
        exact fun w hs => ⟨[.int .i64 (-1)], ⟨rfl, trivial⟩, ⟨by first | rfl | exact vI (by rw [Math.cut_no (by omega)]) | exact vI (by rw [Math.cut_yes (by omega)]; omega), hs.upd⟩⟩
      · -- c3F
        replace c3 : ¬ ((Math.cut l ((z.getD i []).length : Int)) < 0) := c3
        refine hSkip ?_
        refine qSeq rfl ?_
        refine hReg (sq 0 (sq 1 (sq 2 sz))) (by kernel_rfl) ?_
        refine mvI rfl rfl rfl ?_
        refine add rfl rfl rfl rfl (by omega) ?_
        refine asI rfl rfl rfl ?_
        refine rNil ?_
        have hcp := Math.cut_pos (s := (Math.rwl (z.getD i []) : Int)) c3
        exact qNext rfl ((i + 1, Math.cut l (Math.rwl (z.getD i []) : Int))) (by dsimp only; omega) ⟨by omega, by dsimp only; omega, by dsimp only; omega⟩ ⟨rfl, rfl, rfl, trivial⟩ (fun _ h => h.pick [])
    · -- c2F
      replace c2 : ¬ ((i : Int) < (nz : Int)) := c2
      have hall := Math.sumK_all Math.rwl (l := z) (i := i) (by omega)
      refine hExit rfl ?_
      refine qSeq rfl ?_
      refine hSeq ?_
      refine hReg (sq 0 (sq 1 sz)) (by kernel_rfl) ?_
      refine mvI rfl rfl rfl ?_
      refine asI rfl rfl rfl ?_
      refine rNil ?_
      refine qSeq rfl ?_
      refine hRet ?_
      exact fun w hs => ⟨[.int .i64 l], ⟨rfl, trivial⟩, ⟨by first | rfl | exact vI (by rw [Math.cut_no (by omega)]) | exact vI (by rw [Math.cut_yes (by omega)]; omega), hs.upd⟩⟩

theorem laws_toInt64SS_c (az : Option Addr) (nz : Nat) (cz : Nat) (Hz : Nat → Hd) (z : List (List Int)) (w : World) (rz : RdR maK az nz Hz z w) (hz : Math.szK Math.rwl z ≤ 1048576) :
    Calls Try.prog 77 #[.slice az nz cz] w (Ret fun v w' => ∃ x : Option Addr × Nat × Nat × (Nat → Hd) × List (List Int), v = .slice x.1 x.2.1 x.2.2.1 ∧ (x.2.2.2.2 = z) ∧ Sep w none_ [OwnR maK 22 2 x.1 x.2.1 x.2.2.1 x.2.2.2.1 x.2.2.2.2] w') := by
  have kz : Kn w none_ [] (RdR maK az nz Hz z) := fun w' hs => rz.ext hs.upd
  have lz : z.length = nz := rz.1
  have mz : nz ≤ 9223372036854775807 := rz.2.1
  have hz1 := Math.szK_len hz
  refine fn (M := none_) (rs := [.tmp 2]) Try.func77 rfl Try.ntmps77 rfl rfl (Sep.start _ _) ?_
  refine hSeq ?_
  refine hReg (sq 0 sz) (by kernel_rfl) ?_
  refine asS rfl rfl rfl ?_
  refine rNil ?_
  refine qSeq rfl ?_
  refine hSeq ?_
  refine hReg (sq 0 (sq 1 (sl 2 (sq 3 sz)))) (by kernel_rfl) ?_
  refine mvS rfl rfl rfl ?_
  refine lenS Try.runUnderlying51 rfl rfl rfl ?_
  refine mksR (e1 := 2) nz [] maK.ok rfl rfl mk51 trv1 rfl rfl rfl rfl (rfl) (by omega) (fun bkm1 hbkm1 => ?_)
  refine asS rfl rfl rfl ?_
  refine rNil ?_
  refine qSeq rfl ?_
  refine hSeq ?_
  refine hSeq ?_
  refine hReg (sq 0 sz) (by kernel_rfl) ?_
  refine asI rfl rfl rfl ?_
  refine rNil ?_
  refine qSeq rfl ?_
  refine hBlk ?_
  rw [Math.fill_start z nz []]
  refine hLoop (α := Nat × (Nat → Hd)) (fun x => x.1 ≤ nz) (fun x => nz - x.1) (fun x => [OwnR maK 22 2 (some ⟨bkm1, 0, none⟩) nz nz x.2 ((z.take x.1 ++ List.replicate (nz - x.1) []))]) (fun x => [(0, .slice az nz cz), (3, .slice (some ⟨bkm1, 0, none⟩) nz nz), (4, .int .i64 (x.1 : Int))]) ((0, fun _ => (none, 0))) (Nat.zero_le _) (fun _ h => h.pick [0]) ⟨rfl, rfl, rfl, trivial⟩ ?_
  rintro ⟨i, hh⟩ τ1 hi
  dsimp only at hi
  refine hRe [(0, .slice az nz cz), (3, .slice (some ⟨bkm1, 0, none⟩) nz nz), (4, .int .i64 (i : Int))] [OwnR maK 22 2 (some ⟨bkm1, 0, none⟩) nz nz hh ((z.take i ++ List.replicate (nz - i) []))] rfl rfl ?_
  refine hSeq ?_
  refine hSeq ?_
  refine hReg (sq 0 (sq 1 (sq 2 (sq 3 sz)))) (by kernel_rfl) ?_
  refine mvI rfl rfl rfl ?_
  refine mvS rfl rfl rfl ?_
  refine lenS Try.runUnderlying51 rfl rfl rfl ?_
  refine lss rfl rfl rfl rfl ?_
  refine rNil ?_
  refine qSeq rfl ?_
  refine hIfD rfl (fun c1 => ?_) (fun c1 => ?_)
  · -- c1T
    replace c1 : (i : Int) < (nz : Int) := c1
    have hch := Math.szK_at [] hz (show i < z.length by omega)
    refine hSkip ?_
    refine qSeq rfl ?_
    refine hSeq ?_
    refine hBlk ?_
    refine hReg (sq 0 (sq 1 (sq 2 (sq 3 (sq 4 (sl 5 (sl 6 (sq 7 (sl 8 sz))))))))) (by kernel_rfl) ?_
    refine mvS rfl rfl rfl ?_
    refine mvI rfl rfl rfl ?_
    refine mvS rfl rfl rfl ?_
    refine mvI rfl rfl rfl ?_
    refine ixRl (zn := i) (z.getD i []) el51 (Kn.drop (k := 1) kz) rfl rfl rfl rfl (by omega) (by omega) rfl (nth [] (by omega)) ?_
    intro be1 oe1 e1
    refine ldl Try.isAgg22 (Kn.fld e1 0 rfl) trv rfl rfl rfl ?_
    refine callS Try.call16 trv1 rfl rfl (fun w hs => laws_toInt64S_c _ _ _ _ w (Kn.drop (k := 1) ((Kn.imp kz fun _ h => h.kidM (nth [] (by omega)))) w hs) hch) ?_
    rintro ⟨ay2, ny2, cy2, y2⟩ hr2
    try dsimp only at hr2
    refine oxR (zn := i) 1 rfl el51 rfl rfl rfl rfl (by omega) (by omega) rfl ?_
    intro gk3 hgk3
    refine stR (hd := (ay2, cy2)) (x := y2) (v := .slice ay2 ny2 cy2) i 1 0 maK.ok rfl rfl hgk3 Try.sizeOf22 trv rfl rfl rfl rfl rfl (fun h => by first | rfl | (dsimp only at h; rw [h]; rfl) | (rw [h]; rfl) | exact congrArg (fun m => [Value.slice _ m _]) h | (simp only [maK, List.length_replicate]; rfl)) (by omega) ?_
    refine rNil ?_
    refine qSeq rfl ?_
    refine hReg (sq 0 (sq 1 (sq 2 sz))) (by kernel_rfl) ?_
    refine mvI rfl rfl rfl ?_
    refine add rfl rfl rfl rfl (by omega) ?_
    refine asI rfl rfl rfl ?_
    refine rNil ?_
    rw [hr2, Math.fill_step [] [] lz (by omega)]
    exact qNext rfl ((i + 1, (hset hh i (ay2, cy2)))) (by dsimp only; omega) (by dsimp only; omega) ⟨rfl, rfl, rfl, trivial⟩ (fun _ h => h.pick [0])
  · -- c1F
    replace c1 : ¬ ((i : Int) < (nz : Int)) := c1
    refine hExit rfl ?_
    refine qSeq rfl ?_
    refine hSeq ?_
    refine hReg (sq 0 (sq 1 sz)) (by kernel_rfl) ?_
    refine mvS rfl rfl rfl ?_
    refine asS rfl rfl rfl ?_
    refine rNil ?_
    refine qSeq rfl ?_
    refine hRet ?_
    exact fun w hs => ⟨[.slice (some ⟨bkm1, 0, none⟩) nz nz], ⟨rfl, trivial⟩, ⟨((some ⟨bkm1, 0, none⟩), nz, nz, hh, (z.take i ++ List.replicate (nz - i) [])), rfl, Math.fill_end _ lz (by omega), hs.pick [0]⟩⟩

theorem laws_eqInt64SS_c (az : Option Addr) (nz : Nat) (cz : Nat) (Hz : Nat → Hd) (z : List (List Int)) (ay : Option Addr) (ny : Nat) (cy : Nat) (Hy : Nat → Hd) (y : List (List Int)) (w : World) (rz : RdR maK az nz Hz z w) (ry : RdR maK ay ny Hy y w) (heq : z = y) :
    Calls Try.prog 79 #[.slice az nz cz, .slice ay ny cy] w (Ret fun v w' => v = .bool true ∧ Ext w w') := by
  have kz : Kn w none_ [] (RdR maK az nz Hz z) := fun w' hs => rz.ext hs.upd
  have lz : z.length = nz := rz.1
  have mz : nz ≤ 9223372036854775807 := rz.2.1
  have ky : Kn w none_ [] (RdR maK ay ny Hy y) := fun w' hs => ry.ext hs.upd
  have ly : y.length = ny := ry.1
  have my : ny ≤ 9223372036854775807 := ry.2.1
  have ly2 : y.length = nz := by rw [← heq]; exact lz
  refine fn (M := none_) (rs := [.tmp 4]) Try.func79 rfl Try.ntmps79 rfl rfl (Sep.start _ _) ?_
  refine hSeq ?_
  refine hReg (sq 0 sz) (by kernel_rfl) ?_
  refine asB rfl rfl rfl ?_
  refine rNil ?_
  refine qSeq rfl ?_
  refine hSeq ?_
  refine hSeq ?_
  refine hReg (sq 0 (sq 1 (sq 2 (sq 3 (sq 4 sz))))) (by kernel_rfl) ?_
  refine mvS rfl rfl rfl ?_
  refine lenS Try.runUnderlying51 rfl rfl rfl ?_
  refine mvS rfl rfl rfl ?_
  refine lenS Try.runUnderlying51 rfl rfl rfl ?_
  refine neq rfl rfl rfl rfl ?_
  refine rNil ?_
  refine qSeq rfl ?_
  refine hIfD rfl (fun c1 => ?_) (fun c1 => ?_)
  · -- c1T
    replace c1 : (nz : Int) ≠ (ny : Int) := c1
    exact absurd c1 (by omega)
  · -- c1F
    replace c1 : ¬ ((nz : Int) ≠ (ny : Int)) := c1
    refine hSkip ?_
    refine qSeq rfl ?_
    refine hSeq ?_
    refine hSeq ?_
    refine hReg (sq 0 sz) (by kernel_rfl) ?_
    refine asI rfl rfl rfl ?_
    refine rNil ?_
    refine qSeq rfl ?_
    refine hBlk ?_
    refine hLoop (α := Nat) (fun i => i ≤ nz) (fun i => nz - i) (fun i => []) (fun i => [(0, .slice az nz cz), (1, .slice ay ny cy), (5, .int .i64 (i : Int))]) 0 (Nat.zero_le _) (fun _ h => h.pick []) ⟨rfl, rfl, rfl, trivial⟩ ?_
    rintro i τ1 hi
    refine hSeq ?_
    refine hSeq ?_
    refine hReg (sq 0 (sq 1 (sq 2 (sq 3 sz)))) (by kernel_rfl) ?_
    refine mvI rfl rfl rfl ?_
    refine mvS rfl rfl rfl ?_
    refine lenS Try.runUnderlying51 rfl rfl rfl ?_
    refine lss rfl rfl rfl rfl ?_
    refine rNil ?_
    refine qSeq rfl ?_
    refine hIfD rfl (fun c2 => ?_) (fun c2 => ?_)
    · -- c2T
      replace c2 : (i : Int) < (nz : Int) := c2
      refine hSkip ?_
      refine qSeq rfl ?_
      refine hSeq ?_
      refine hBlk ?_
      refine hSeq ?_
      refine hDraw (Ls := []) (by kernel_rfl) (sq 0 (sq 1 (sq 2 (sq 3 (sq 4 (sq 5 (sq 6 (sq 7 (sl 8 (sq 9 sz)))))))))) (by kernel_rfl) .slnil ?_
      refine mvS rfl rfl rfl ?_
      refine mvI rfl rfl rfl ?_
      refine ixRq (zn := i) (z.getD i []) el51 (kz) (fun _ h => h.pick []) rfl rfl rfl rfl (by omega) (by omega) rfl (nth [] (by omega)) ?_
      intro be1 oe1 e1
      refine ldq Try.isAgg22 (Kn.fld e1 0 rfl) rfl rfl rfl ?_
      refine mvS rfl rfl rfl ?_
      refine mvI rfl rfl rfl ?_
      refine ixRq (zn := i) (y.getD i []) el51 (ky) (fun _ h => h.pick []) rfl rfl rfl rfl (by omega) (by omega) rfl (nth [] (by omega)) ?_
      intro be2 oe2 e2
      refine ldq Try.isAgg22 (Kn.fld e2 0 rfl) rfl rfl rfl ?_
      refine callP (v := .bool true) Try.call18 (fun _ h => h.pick []) rfl rfl (fun w hs => laws_eqInt64S_c _ _ _ _ _ _ _ _ w ((Kn.imp kz fun _ h => h.kidM (nth [] (by omega))) w hs) ((Kn.imp ky fun _ h => h.kidM (nth [] (by omega))) w hs) (by first | rfl | assumption | (rw [heq]) | (simp only [*]))) ?_
      refine not rfl rfl rfl ?_
      refine rNil ?_
      refine qSeq rfl ?_
      refine hIfF rfl ?_
      refine hSkip ?_
      refine qSeq rfl ?_
      refine hReg (sq 0 (sq 1 (sq 2 sz))) (by kernel_rfl) ?_
      refine mvI rfl rfl rfl ?_
      refine add rfl rfl rfl rfl (by omega) ?_
      refine asI rfl rfl rfl ?_
      refine rNil ?_
      exact qNext rfl (i + 1) (by omega) (by omega) ⟨rfl, rfl, rfl, trivial⟩ (fun _ h => h.pick [])
    · -- c2F
      replace c2 : ¬ ((i : Int) < (nz : Int)) := c2
      refine hExit rfl ?_
      refine qSeq rfl ?_
      refine hSeq ?_
      refine hReg (sq 0 sz) (by kernel_rfl) ?_
      refine asB rfl rfl rfl ?_
      refine rNil ?_
      refine qSeq rfl ?_
      refine hRet ?_
      exact fun w hs => ⟨[.bool true], ⟨rfl, trivial⟩, ⟨by first | rfl | exact bD (by omega) | exact bT (by omega) | exact bF (by omega) | exact vI (by omega), hs.upd⟩⟩

theorem laws_toGame_c (az : Option Addr) (nz : Nat) (cz : Nat) (Hz : Nat → Hd) (z : List Nd) (aws : Option Addr) (nws : Nat) (cws : Nat) (Hws : Nat → Hd) (ws : List (List Int)) (avs : Option Addr) (nvs : Nat) (cvs : Nat) (Hvs : Nat → Hd) (vs : List (List Int)) (w : World) (rz : RdR ndK az nz Hz z w) (rws : RdR maK aws nws Hws ws w) (rvs : RdR maK avs nvs Hvs vs w) (hz : Math.szK Math.chl z ≤ 1048576) (hw : Math.szK Math.rwl ws ≤ 1048576) (hv : Math.szK Math.rwl vs ≤ 1048576) :
    Calls Try.prog 42 #[.agg #[.slice az nz cz, .slice aws nws cws, .slice avs nvs cvs]] w (Ret fun v w' => ∃ x : Option Addr × Nat × Nat × (Nat → Hd) × List Nd × Option Addr × Nat × Nat × (Nat → Hd) × List (List Int) × Option Addr × Nat × Nat × (Nat → Hd) × List (List Int), v = .agg #[.slice x.1 x.2.1 x.2.2.1, .slice x.2.2.2.2.2.1 x.2.2.2.2.2.2.1 x.2.2.2.2.2.2.2.1, .slice x.2.2.2.2.2.2.2.2.2.2.1 x.2.2.2.2.2.2.2.2.2.2.2.1 x.2.2.2.2.2.2.2.2.2.2.2.2.1] ∧ (x.2.2.2.2.1 = z ∧ x.2.2.2.2.2.2.2.2.2.1 = ws ∧ x.2.2.2.2.2.2.2.2.2.2.2.2.2.2 = vs) ∧ Sep w none_ [OwnR ndK 76 2 x.1 x.2.1 x.2.2.1 x.2.2.2.1 x.2.2.2.2.1, OwnR maK 22 2 x.2.2.2.2.2.1 x.2.2.2.2.2.2.1 x.2.2.2.2.2.2.2.1 x.2.2.2.2.2.2.2.2.1 x.2.2.2.2.2.2.2.2.2.1, OwnR maK 22 2 x.2.2.2.2.2.2.2.2.2.2.1 x.2.2.2.2.2.2.2.2.2.2.2.1 x.2.2.2.2.2.2.2.2.2.2.2.2.1 x.2.2.2.2.2.2.2.2.2.2.2.2.2.1 x.2.2.2.2.2.2.2.2.2.2.2.2.2.2] w') := by
  have kz : Kn w none_ [] (RdR ndK az nz Hz z) := fun w' hs => rz.ext hs.upd
  have lz : z.length = nz := rz.1
  have mz : nz ≤ 9223372036854775807 := rz.2.1
  have kws : Kn w none_ [] (RdR maK aws nws Hws ws) := fun w' hs => rws.ext hs.upd
  have lws : ws.length = nws := rws.1
  have mws : nws ≤ 9223372036854775807 := rws.2.1
  have kvs : Kn w none_ [] (RdR maK avs nvs Hvs vs) := fun w' hs => rvs.ext hs.upd
  have lvs : vs.length = nvs := rvs.1
  have mvs : nvs ≤ 9223372036854775807 := rvs.2.1
  refine fn (M := none_) (rs := [.cell 2 57]) Try.func42 rfl Try.ntmps42 rfl rfl (Sep.start _ _) ?_
  refine hSeq ?_
  refine hReg (sl 0 (sl 1 sz)) (by kernel_rfl) ?_
  refine box trv1 rfl rfl rfl rfl (fun bkb1 hbkb1 => ?_)
  refine alc Try.zeroValue57 rfl trv1 rfl rfl (fun bka2 hbka2 => ?_)
  refine rNil ?_
  refine qSeq rfl ?_
  refine hSeq ?_
  refine hReg (sl 0 sz) (by kernel_rfl) ?_
  refine alc Try.zeroValue57 rfl trv1 rfl rfl (fun bka3 hbka3 => ?_)
  refine rNil ?_
  refine qSeq rfl ?_
  refine hSeq ?_
  refine hReg (sq 0 (sl 1 (sl 2 (sq 3 (sl 4 sz))))) (by kernel_rfl) ?_
  refine fld fl53_0 rfl rfl rfl ?_
  refine ldAl Try.isAgg39 Try.sizeOf39 (cBp (m := 1) 2 rfl rfl) trv rfl rfl rfl rfl ?_
  refine callS Try.call28 trv1 rfl rfl (fun w hs => laws_toTree_c _ _ _ _ _ w (Kn.drop (k := 3) kz w hs) (by first | assumption | omega)) ?_
  rintro ⟨ay1, ny1, cy1, Hy1, y1⟩ hr1
  try dsimp only at hr1
  refine fld fl57_0 rfl rfl rfl ?_
  refine stApl 1 rfl Try.sizeOf31 trv rfl rfl rfl rfl rfl (by simp [Value.oneCell']) rfl ?_
  dsimp only [List.take, List.drop, List.append, List.cons_append, List.nil_append, List.length, Nat.reduceAdd]
  refine rNil ?_
  refine qSeq rfl ?_
  refine hSeq ?_
  refine hReg (sq 0 (sl 1 (sl 2 (sq 3 (sl 4 sz))))) (by kernel_rfl) ?_
  refine fld fl53_1 rfl rfl rfl ?_
  refine ldl Try.isAgg51 (cB 3 rfl rfl) trv rfl rfl rfl ?_
  refine callS Try.call77 trv1 rfl rfl (fun w hs => laws_toInt64SS_c _ _ _ _ _ w (Kn.drop (k := 4) kws w hs) (by first | assumption | omega)) ?_
  rintro ⟨ay2, ny2, cy2, Hy2, y2⟩ hr2
  try dsimp only at hr2
  refine fld fl57_1 rfl rfl rfl ?_
  refine stl (v := .slice _ _ _) 2 rfl Try.sizeOf51 trv rfl rfl rfl rfl rfl (Nat.le_of_ble_eq_true rfl) ?_
  refine rNil ?_
  refine qSeq rfl ?_
  refine hSeq ?_
  refine hReg (sq 0 (sl 1 (sl 2 (sq 3 (sl 4 sz))))) (by kernel_rfl) ?_
  refine fld fl53_2 rfl rfl rfl ?_
  refine ldl Try.isAgg51 (cB 4 rfl rfl) trv rfl rfl rfl ?_
  refine callS Try.call77 trv1 rfl rfl (fun w hs => laws_toInt64SS_c _ _ _ _ _ w (Kn.drop (k := 5) kvs w hs) (by first | assumption | omega)) ?_
  rintro ⟨ay3, ny3, cy3, Hy3, y3⟩ hr3
  try dsimp only at hr3
  refine fld fl57_2 rfl rfl rfl ?_
  refine stl (v := .slice _ _ _) 3 rfl Try.sizeOf51 trv rfl rfl rfl rfl rfl (Nat.le_of_ble_eq_true rfl) ?_
  refine rNil ?_
  refine qSeq rfl ?_
  refine hSeq ?_
  refine hReg (sl 0 (sl 1 sz)) (by kernel_rfl) ?_
  refine ldAl Try.isAgg57 Try.sizeOf57 (cBs 3 rfl) trv rfl rfl rfl rfl ?_
  refine stAl (vs := [.slice ay1 ny1 cy1, .slice ay2 ny2 cy2, .slice ay3 ny3 cy3]) 4 rfl Try.sizeOf57 trv rfl rfl rfl rfl rfl (by simp [Value.oneCell']) rfl ?_
  refine rNil ?_
  refine qSeq rfl ?_
  refine hRet ?_
  exact fun w hs => ⟨[_], ⟨⟨_, rfl, run_load_agg Try.isAgg57 Try.sizeOf57 rfl (cBs 4 rfl w hs)⟩, trivial⟩, ⟨(ay1, ny1, cy1, Hy1, y1, ay2, ny2, cy2, Hy2, y2, ay3, ny3, cy3, Hy3, y3), rfl, ⟨hr1, hr2, hr3⟩, hs.pick [2, 1, 0]⟩⟩

theorem laws_eqGame_c (az : Option Addr) (nz : Nat) (cz : Nat) (Hz : Nat → Hd) (z : List Nd) (aws : Option Addr) (nws : Nat) (cws : Nat) (Hws : Nat → Hd) (ws : List (List Int)) (avs : Option Addr) (nvs : Nat) (cvs : Nat) (Hvs : Nat → Hd) (vs : List (List Int)) (ay : Option Addr) (ny : Nat) (cy : Nat) (Hy : Nat → Hd) (y : List Nd) (ayw : Option Addr) (nyw : Nat) (cyw : Nat) (Hyw : Nat → Hd) (yw : List (List Int)) (ayv : Option Addr) (nyv : Nat) (cyv : Nat) (Hyv : Nat → Hd) (yv : List (List Int)) (w : World) (rz : RdR ndK az nz Hz z w) (rws : RdR maK aws nws Hws ws w) (rvs : RdR maK avs nvs Hvs vs w) (ry : RdR ndK ay ny Hy y w) (ryw : RdR maK ayw nyw Hyw yw w) (ryv : RdR maK ayv nyv Hyv yv w) (heq : z = y ∧ ws = yw ∧ vs = yv) :
    Calls Try.prog 44 #[.agg #[.slice az nz cz, .slice aws nws cws, .slice avs nvs cvs], .agg #[.slice ay ny cy, .slice ayw nyw cyw, .slice ayv nyv cyv]] w (Ret fun v w' => v = .bool true ∧ Ext w w') := by
  have kz : Kn w none_ [] (RdR ndK az nz Hz z) := fun w' hs => rz.ext hs.upd
  have lz : z.length = nz := rz.1
  have mz : nz ≤ 9223372036854775807 := rz.2.1
  have kws : Kn w none_ [] (RdR maK aws nws Hws ws) := fun w' hs => rws.ext hs.upd
  have lws : ws.length = nws := rws.1
  have mws : nws ≤ 9223372036854775807 := rws.2.1
  have kvs : Kn w none_ [] (RdR maK avs nvs Hvs vs) := fun w' hs => rvs.ext hs.upd
  have lvs : vs.length = nvs := rvs.1
  have mvs : nvs ≤ 9223372036854775807 := rvs.2.1
  have ky : Kn w none_ [] (RdR ndK ay ny Hy y) := fun w' hs => ry.ext hs.upd
  have ly : y.length = ny := ry.1
  have my : ny ≤ 9223372036854775807 := ry.2.1
  have kyw : Kn w none_ [] (RdR maK ayw nyw Hyw yw) := fun w' hs => ryw.ext hs.upd
  have lyw : yw.length = nyw := ryw.1
  have myw : nyw ≤ 9223372036854775807 := ryw.2.1
  have kyv : Kn w none_ [] (RdR maK ayv nyv Hyv yv) := fun w' hs => ryv.ext hs.upd
  have lyv : yv.length = nyv := ryv.1
  have myv : nyv ≤ 9223372036854775807 := ryv.2.1
  refine fn (M := none_) (rs := [.tmp 4]) Try.func44 rfl Try.ntmps44 rfl rfl (Sep.start _ _) ?_
  refine hSeq ?_
  refine hReg (sl 0 (sl 1 (sq 2 sz))) (by kernel_rfl) ?_
  refine box trv1 rfl rfl rfl rfl (fun bkb1 hbkb1 => ?_)
  refine box trv1 rfl rfl rfl rfl (fun bkb2 hbkb2 => ?_)
  refine asB rfl rfl rfl ?_
  refine rNil ?_
  refine qSeq rfl ?_
  refine hSeq ?_
  refine hSeq ?_
  refine hReg (sq 0 (sl 1 (sq 2 (sl 3 (sl 4 (sq 5 sz)))))) (by kernel_rfl) ?_
  refine fld fl57_0 rfl rfl rfl ?_
  refine ldAl Try.isAgg31 Try.sizeOf31 (cBp (m := 1) 1 rfl rfl) trv rfl rfl rfl rfl ?_
  refine fld fl57_0 rfl rfl rfl ?_
  refine ldAl Try.isAgg31 Try.sizeOf31 (cBp (m := 1) 0 rfl rfl) trv rfl rfl rfl rfl ?_
  refine callP (v := .bool true) Try.call23 trv rfl rfl (fun w hs => laws_eqTree_c _ _ _ _ _ _ _ _ _ _ w (Kn.drop (k := 2) kz w hs) (Kn.drop (k := 2) ky w hs) heq.1) ?_
  refine not rfl rfl rfl ?_
  refine rNil ?_
  refine qSeq rfl ?_
  refine hIfF rfl ?_
  refine hSkip ?_
  refine qSeq rfl ?_
  refine hSeq ?_
  refine hSeq ?_
  refine hReg (sq 0 (sl 1 (sq 2 (sl 3 (sl 4 (sq 5 sz)))))) (by kernel_rfl) ?_
  refine fld fl57_1 rfl rfl rfl ?_
  refine ldl Try.isAgg51 (cB 1 rfl rfl) trv rfl rfl rfl ?_
  refine fld fl57_1 rfl rfl rfl ?_
  refine ldl Try.isAgg51 (cB 0 rfl rfl) trv rfl rfl rfl ?_
  refine callP (v := .bool true) Try.call79 trv rfl rfl (fun w hs => laws_eqInt64SS_c _ _ _ _ _ _ _ _ _ _ w (Kn.drop (k := 2) kws w hs) (Kn.drop (k := 2) kyw w hs) heq.2.1) ?_
  refine not rfl rfl rfl ?_
  refine rNil ?_
  refine qSeq rfl ?_
  refine hIfF rfl ?_
  refine hSkip ?_
  refine qSeq rfl ?_
  refine hSeq ?_
  refine hSeq ?_
  refine hReg (sq 0 (sl 1 (sq 2 (sl 3 (sl 4 (sq 5 sz)))))) (by kernel_rfl) ?_
  refine fld fl57_2 rfl rfl rfl ?_
  refine ldl Try.isAgg51 (cB 1 rfl rfl) trv rfl rfl rfl ?_
  refine fld fl57_2 rfl rfl rfl ?_
  refine ldl Try.isAgg51 (cB 0 rfl rfl) trv rfl rfl rfl ?_
  refine callP (v := .bool true) Try.call79 trv rfl rfl (fun w hs => laws_eqInt64SS_c _ _ _ _ _ _ _ _ _ _ w (Kn.drop (k := 2) kvs w hs) (Kn.drop (k := 2) kyv w hs) heq.2.2) ?_
  refine not rfl rfl rfl ?_
  refine rNil ?_
  refine qSeq rfl ?_
  refine hIfF rfl ?_
  refine hSkip ?_
  refine qSeq rfl ?_
  refine hSeq ?_
  refine hReg (sq 0 sz) (by kernel_rfl) ?_
  refine asB rfl rfl rfl ?_
  refine rNil ?_
  refine qSeq rfl ?_
  refine hRet ?_
  exact fun w hs => ⟨[.bool true], ⟨rfl, trivial⟩, ⟨by first | rfl | exact bD (by omega) | exact bT (by omega) | exact bF (by omega) | exact vI (by omega), hs.upd⟩⟩

end Go.Proofs.Ytjbdddfjaognfaa
