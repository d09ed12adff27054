/- Contracts of what the laws do with lists. Their conditions stand in each. -/
import Derived.Test.YteaahdakammffaaZ2Nc
import Derived.Test.YteaahdakammffaaZ1Nc
import Derived.Test.YteaahdakammffaaRows
namespace Go.Proofs.Yteaahdakammffaa
open Go Go.RowKit V
set_option linter.unusedVariables false
set_option linter.unusedSimpArgs false
set_option maxRecDepth 100000
theorem mk22 : Mk Try.prog 22 23 1 24 [.slice none 0 0] := ⟨Try.underlying22, Try.t23, _, by kernel_rfl, rfl, rfl, rfl, rfl, rfl, by decide, by decide⟩
theorem mk23 : Mk Try.prog 23 2 1 8 [.int .i64 0] := ⟨Try.underlying23, Try.t2, _, by kernel_rfl, rfl, rfl, rfl, rfl, rfl, by decide, by decide⟩
theorem el22 : Elt Try.prog 22 1 := ⟨23, Try.runUnderlying22, Try.sizeOf23⟩
theorem el23 : Elt Try.prog 23 1 := ⟨2, Try.runUnderlying23, Try.sizeOf2⟩
theorem impl_within_c (n : Int) (lo : Int) (hi : Int) (w : World) :
  Calls Try.prog 65 #[.int .i64 n, .int .i64 lo, .int .i64 hi] w (Ret fun v w' => v = .bool (decide (lo ≤ n ∧ n ≤ hi)) ∧ Ext w w') := by
 refine fn (M := none_) (rs := [.tmp 6]) Try.func65 rfl Try.ntmps65 rfl rfl (Sep.start _ _) ?_
 refine hSeq ?_
 refine hReg (sq 0 sz) (by kernel_rfl) ?_
 refine asB rfl rfl rfl ?_
 refine rNil ?_
 refine qSeq rfl ?_
 refine hSeq ?_
 refine hReg (sq 0 (sq 1 (sq 2 (sq 3 (sq 4 (sq 5 (sq 6 (sq 7 (sq 8 sz))))))))) (by kernel_rfl) ?_
 refine mvI rfl rfl rfl ?_
 refine mvI rfl rfl rfl ?_
 refine geq rfl rfl rfl rfl ?_
 refine mvB rfl rfl rfl ?_
 refine rBoolD (d := 10) rfl (fun g1 => ?_) (fun g1 => ?_)
 ·
  replace g1 : lo ≤ n := g1
  refine mvI rfl rfl rfl ?_
  refine mvI rfl rfl rfl ?_
  refine leq rfl rfl rfl rfl ?_
  refine pickB rfl rfl rfl rfl ?_
  refine asB rfl rfl rfl ?_
  refine rNil ?_
  refine qSeq rfl ?_
  refine hRet ?_
  exact fun w hs => ⟨[.bool (decide (n ≤ hi))], ⟨rfl, trivial⟩, ⟨by first | rfl | exact bD (by omega) | exact bT (by omega) | exact bF (by omega) | exact vI (by omega), hs.upd⟩⟩
 ·
  replace g1 : ¬ (lo ≤ n) := g1
  refine rSkipQ rfl rfl ?_
  refine rSkipQ rfl rfl ?_
  refine rSkipQ rfl rfl ?_
  refine pickB rfl rfl rfl rfl ?_
  refine asB rfl rfl rfl ?_
  refine rNil ?_
  refine qSeq rfl ?_
  refine hRet ?_
  exact fun w hs => ⟨[.bool false], ⟨rfl, trivial⟩, ⟨by first | rfl | exact bD (by omega) | exact bT (by omega) | exact bF (by omega) | exact vI (by omega), hs.upd⟩⟩
theorem spec_l01In_c (n : Int) (lo : Int) (hi : Int) (w : World) :
  Calls Try.prog 88 #[.int .i64 n, .int .i64 lo, .int .i64 hi] w (Ret fun v w' => v = .bool (decide (lo ≤ n ∧ n ≤ hi)) ∧ Ext w w') := by
 refine fn (M := none_) (rs := [.tmp 6]) Try.func88 rfl Try.ntmps88 rfl rfl (Sep.start _ _) ?_
 refine hSeq ?_
 refine hReg (sq 0 sz) (by kernel_rfl) ?_
 refine asB rfl rfl rfl ?_
 refine rNil ?_
 refine qSeq rfl ?_
 refine hSeq ?_
 refine hReg (sq 0 (sq 1 (sq 2 (sq 3 (sq 4 (sq 5 (sq 6 (sq 7 (sq 8 sz))))))))) (by kernel_rfl) ?_
 refine mvI rfl rfl rfl ?_
 refine mvI rfl rfl rfl ?_
 refine geq rfl rfl rfl rfl ?_
 refine mvB rfl rfl rfl ?_
 refine rBoolD (d := 10) rfl (fun g1 => ?_) (fun g1 => ?_)
 ·
  replace g1 : lo ≤ n := g1
  refine mvI rfl rfl rfl ?_
  refine mvI rfl rfl rfl ?_
  refine leq rfl rfl rfl rfl ?_
  refine pickB rfl rfl rfl rfl ?_
  refine asB rfl rfl rfl ?_
  refine rNil ?_
  refine qSeq rfl ?_
  refine hRet ?_
  exact fun w hs => ⟨[.bool (decide (n ≤ hi))], ⟨rfl, trivial⟩, ⟨by first | rfl | exact bD (by omega) | exact bT (by omega) | exact bF (by omega) | exact vI (by omega), hs.upd⟩⟩
 ·
  replace g1 : ¬ (lo ≤ n) := g1
  refine rSkipQ rfl rfl ?_
  refine rSkipQ rfl rfl ?_
  refine rSkipQ rfl rfl ?_
  refine pickB rfl rfl rfl rfl ?_
  refine asB rfl rfl rfl ?_
  refine rNil ?_
  refine qSeq rfl ?_
  refine hRet ?_
  exact fun w hs => ⟨[.bool false], ⟨rfl, trivial⟩, ⟨by first | rfl | exact bD (by omega) | exact bT (by omega) | exact bF (by omega) | exact vI (by omega), hs.upd⟩⟩
theorem laws_szInt64S_c (az : Option Addr) (nz : Nat) (cz : Nat) (z : List Int) (left : Int) (w : World) (rz : RdI az nz z w) (hl : 0 ≤ left ∧ left ≤ 1048576) :
  Calls Try.prog 57 #[.slice az nz cz, .int .i64 left] w (Ret fun v w' => v = .int .i64 ((Math.cut left (z.length : Int))) ∧ Ext w w') := by
 have kz : Kn w none_ [] (RdI az nz z) := fun w' hs => rz.ext hs.upd
 have lz : z.length = nz := rz.1
 have mz : nz ≤ 9223372036854775807 := rz.2.1
 refine fn (M := none_) (rs := [.tmp 4]) Try.func57 rfl Try.ntmps57 rfl rfl (Sep.start _ _) ?_
 refine hSeq ?_
 refine hReg (sq 0 sz) (by kernel_rfl) ?_
 refine asI rfl rfl rfl ?_
 refine rNil ?_
 refine qSeq rfl ?_
 refine hSeq ?_
 refine hReg (sq 0 (sq 1 (sq 2 (sq 3 (sq 4 sz))))) (by kernel_rfl) ?_
 refine mvI rfl rfl rfl ?_
 refine mvS rfl rfl rfl ?_
 refine lenS Try.runUnderlying23 rfl rfl rfl ?_
 refine sub rfl rfl rfl rfl (by omega) ?_
 refine asI rfl rfl rfl ?_
 refine rNil ?_
 refine qSeq rfl ?_
 refine hSeq ?_
 refine hSeq ?_
 refine hReg (sq 0 (sq 1 sz)) (by kernel_rfl) ?_
 refine mvI rfl rfl rfl ?_
 refine lss rfl rfl rfl rfl ?_
 refine rNil ?_
 refine qSeq rfl ?_
 refine hIfD rfl (fun c1 => ?_) (fun c1 => ?_)
 ·
  replace c1 : (left - (nz : Int)) < 0 := c1
  refine hSeq ?_
  refine hReg (sq 0 sz) (by kernel_rfl) ?_
  refine asI rfl rfl rfl ?_
  refine rNil ?_
  refine qSeq rfl ?_
  refine hRet ?_
  exact fun w hs => ⟨[.int .i64 (-1)], ⟨rfl, trivial⟩, ⟨by first | rfl | exact vI (by rw [Math.cut_no (by omega)]) | exact vI (by rw [Math.cut_yes (by omega)]; omega), hs.upd⟩⟩
 ·
  replace c1 : ¬ ((left - (nz : Int)) < 0) := c1
  refine hSkip ?_
  refine qSeq rfl ?_
  refine hSeq ?_
  refine hReg (sq 0 (sq 1 sz)) (by kernel_rfl) ?_
  refine mvI rfl rfl rfl ?_
  refine asI rfl rfl rfl ?_
  refine rNil ?_
  refine qSeq rfl ?_
  refine hRet ?_
  exact fun w hs => ⟨[.int .i64 ((left - (nz : Int)))], ⟨rfl, trivial⟩, ⟨by first | rfl | exact vI (by rw [Math.cut_no (by omega)]) | exact vI (by rw [Math.cut_yes (by omega)]; omega), hs.upd⟩⟩
theorem laws_toInt64S_c (az : Option Addr) (nz : Nat) (cz : Nat) (z : List Int) (w : World) (rz : RdI az nz z w) (hz : z.length ≤ 1048576) :
  Calls Try.prog 15 #[.slice az nz cz] w (Ret fun v w' => ∃ x : Option Addr × Nat × Nat × List Int, v = .slice x.1 x.2.1 x.2.2.1 ∧ (x.2.2.2 = z) ∧ Sep w none_ [OwnI 2 x.1 x.2.1 x.2.2.1 x.2.2.2] w') := by
 have kz : Kn w none_ [] (RdI az nz z) := fun w' hs => rz.ext hs.upd
 have lz : z.length = nz := rz.1
 have mz : nz ≤ 9223372036854775807 := rz.2.1
 refine fn (M := none_) (rs := [.tmp 2]) Try.func15 rfl Try.ntmps15 rfl rfl (Sep.start _ _) ?_
 refine hSeq ?_
 refine hReg (sq 0 sz) (by kernel_rfl) ?_
 refine asS rfl rfl rfl ?_
 refine rNil ?_
 refine qSeq rfl ?_
 refine hSeq ?_
 refine hReg (sq 0 (sq 1 (sl 2 (sq 3 sz)))) (by kernel_rfl) ?_
 refine mvS rfl rfl rfl ?_
 refine lenS Try.runUnderlying23 rfl rfl rfl ?_
 refine mksI nz mk23 trv1 rfl rfl rfl rfl (rfl) (by omega) (fun bkm1 hbkm1 => ?_)
 refine asS rfl rfl rfl ?_
 refine rNil ?_
 refine qSeq rfl ?_
 refine hSeq ?_
 refine hSeq ?_
 refine hReg (sq 0 sz) (by kernel_rfl) ?_
 refine asI rfl rfl rfl ?_
 refine rNil ?_
 refine qSeq rfl ?_
 refine hBlk ?_
 rw [Math.fill_start z nz 0]
 refine hLoop (α := Nat) (fun i => i ≤ nz) (fun i => nz - i) (fun i => [OwnI 2 (some ⟨bkm1, 0, none⟩) nz nz ((z.take i ++ List.replicate (nz - i) 0))]) (fun i => [(0, .slice az nz cz), (3, .slice (some ⟨bkm1, 0, none⟩) nz nz), (4, .int .i64 (i : Int))]) 0 (Nat.zero_le _) (fun _ h => h.pick [0]) ⟨rfl, rfl, rfl, trivial⟩ ?_
 rintro i τ1 hi
 refine hSeq ?_
 refine hSeq ?_
 refine hReg (sq 0 (sq 1 (sq 2 (sq 3 sz)))) (by kernel_rfl) ?_
 refine mvI rfl rfl rfl ?_
 refine mvS rfl rfl rfl ?_
 refine lenS Try.runUnderlying23 rfl rfl rfl ?_
 refine lss rfl rfl rfl rfl ?_
 refine rNil ?_
 refine qSeq rfl ?_
 refine hIfD rfl (fun c1 => ?_) (fun c1 => ?_)
 ·
  replace c1 : (i : Int) < (nz : Int) := c1
  refine hSkip ?_
  refine qSeq rfl ?_
  refine hSeq ?_
  refine hBlk ?_
  refine hReg (sq 0 (sq 1 (sq 2 (sq 3 (sq 4 (sl 5 (sq 6 (sl 7 sz)))))))) (by kernel_rfl) ?_
  refine mvS rfl rfl rfl ?_
  refine mvI rfl rfl rfl ?_
  refine mvS rfl rfl rfl ?_
  refine mvI rfl rfl rfl ?_
  refine ixIl (zn := i) el23 (Kn.drop (k := 1) kz) rfl rfl rfl rfl (by omega) (by omega) rfl ?_
  intro ae1 e1
  refine ldl Try.isAgg2 (e1) trv rfl rfl rfl ?_
  refine oxI (zn := i) 0 rfl el23 rfl rfl rfl rfl (by omega) (by omega) rfl ?_
  intro gk2 hgk2
  refine stoI (off := i) (x := (z.getD i 0)) 0 rfl hgk2 Try.sizeOf2 trv rfl rfl rfl rfl (by omega) ?_
  refine rNil ?_
  refine qSeq rfl ?_
  refine hReg (sq 0 (sq 1 (sq 2 sz))) (by kernel_rfl) ?_
  refine mvI rfl rfl rfl ?_
  refine add rfl rfl rfl rfl (by omega) ?_
  refine asI rfl rfl rfl ?_
  refine rNil ?_
  rw [Math.fill_step 0 0 lz (by omega)]
  exact qNext rfl (i + 1) (by omega) (by omega) ⟨rfl, rfl, rfl, trivial⟩ (fun _ h => h.pick [0])
 ·
  replace c1 : ¬ ((i : Int) < (nz : Int)) := c1
  refine hExit rfl ?_
  refine qSeq rfl ?_
  refine hSeq ?_
  refine hReg (sq 0 (sq 1 sz)) (by kernel_rfl) ?_
  refine mvS rfl rfl rfl ?_
  refine asS rfl rfl rfl ?_
  refine rNil ?_
  refine qSeq rfl ?_
  refine hRet ?_
  exact fun w hs => ⟨[.slice (some ⟨bkm1, 0, none⟩) nz nz], ⟨rfl, trivial⟩, ⟨((some ⟨bkm1, 0, none⟩), nz, nz, (z.take i ++ List.replicate (nz - i) 0)), rfl, Math.fill_end 0 lz (by omega), hs.pick [0]⟩⟩
theorem laws_eqInt64S_c (az : Option Addr) (nz : Nat) (cz : Nat) (z : List Int) (ay : Option Addr) (ny : Nat) (cy : Nat) (y : List Int) (w : World) (rz : RdI az nz z w) (ry : RdI ay ny y w) (heq : z = y) :
  Calls Try.prog 18 #[.slice az nz cz, .slice ay ny cy] w (Ret fun v w' => v = .bool true ∧ Ext w w') := by
 have kz : Kn w none_ [] (RdI az nz z) := fun w' hs => rz.ext hs.upd
 have lz : z.length = nz := rz.1
 have mz : nz ≤ 9223372036854775807 := rz.2.1
 have ky : Kn w none_ [] (RdI ay ny y) := fun w' hs => ry.ext hs.upd
 have ly : y.length = ny := ry.1
 have my : ny ≤ 9223372036854775807 := ry.2.1
 refine fn (M := none_) (rs := [.tmp 4]) Try.func18 rfl Try.ntmps18 rfl rfl (Sep.start _ _) ?_
 refine hSeq ?_
 refine hReg (sq 0 sz) (by kernel_rfl) ?_
 refine asB rfl rfl rfl ?_
 refine rNil ?_
 refine qSeq rfl ?_
 refine hSeq ?_
 refine hSeq ?_
 refine hReg (sq 0 (sq 1 (sq 2 (sq 3 (sq 4 sz))))) (by kernel_rfl) ?_
 refine mvS rfl rfl rfl ?_
 refine lenS Try.runUnderlying23 rfl rfl rfl ?_
 refine mvS rfl rfl rfl ?_
 refine lenS Try.runUnderlying23 rfl rfl rfl ?_
 refine neq rfl rfl rfl rfl ?_
 refine rNil ?_
 refine qSeq rfl ?_
 refine hIfD rfl (fun c1 => ?_) (fun c1 => ?_)
 ·
  replace c1 : (nz : Int) ≠ (ny : Int) := c1
  exact absurd c1 (by rw [heq] at lz; omega)
 ·
  replace c1 : ¬ ((nz : Int) ≠ (ny : Int)) := c1
  refine hSkip ?_
  refine qSeq rfl ?_
  refine hSeq ?_
  refine hSeq ?_
  refine hReg (sq 0 sz) (by kernel_rfl) ?_
  refine asI rfl rfl rfl ?_
  refine rNil ?_
  refine qSeq rfl ?_
  refine hBlk ?_
  refine hLoop (α := Nat) (fun i => i ≤ nz) (fun i => nz - i) (fun i => []) (fun i => [(0, .slice az nz cz), (1, .slice ay ny cy), (5, .int .i64 (i : Int))]) 0 (Nat.zero_le _) (fun _ h => h.pick []) ⟨rfl, rfl, rfl, trivial⟩ ?_
  rintro i τ1 hi
  refine hSeq ?_
  refine hSeq ?_
  refine hReg (sq 0 (sq 1 (sq 2 (sq 3 sz)))) (by kernel_rfl) ?_
  refine mvI rfl rfl rfl ?_
  refine mvS rfl rfl rfl ?_
  refine lenS Try.runUnderlying23 rfl rfl rfl ?_
  refine lss rfl rfl rfl rfl ?_
  refine rNil ?_
  refine qSeq rfl ?_
  refine hIfD rfl (fun c2 => ?_) (fun c2 => ?_)
  ·
   replace c2 : (i : Int) < (nz : Int) := c2
   refine hSkip ?_
   refine qSeq rfl ?_
   refine hSeq ?_
   refine hBlk ?_
   refine hSeq ?_
   refine hDraw (Ls := []) (by kernel_rfl) (sq 0 (sq 1 (sq 2 (sq 3 (sq 4 (sq 5 (sq 6 (sq 7 (sq 8 sz))))))))) (by kernel_rfl) .slnil ?_
   refine mvS rfl rfl rfl ?_
   refine mvI rfl rfl rfl ?_
   refine ixIq (zn := i) el23 (kz) (fun _ h => h.pick []) rfl rfl rfl rfl (by omega) (by omega) rfl ?_
   intro ae1 e1
   refine ldq Try.isAgg2 (e1) rfl rfl rfl ?_
   refine mvS rfl rfl rfl ?_
   refine mvI rfl rfl rfl ?_
   refine ixIq (zn := i) el23 (ky) (fun _ h => h.pick []) rfl rfl rfl rfl (by omega) (by omega) rfl ?_
   intro ae2 e2
   refine ldq Try.isAgg2 (e2) rfl rfl rfl ?_
   refine neq rfl rfl rfl rfl ?_
   refine rNil ?_
   refine qSeq rfl ?_
   refine hIfD rfl (fun c3 => ?_) (fun c3 => ?_)
   ·
    replace c3 : (z.getD i 0) ≠ (y.getD i 0) := c3
    exact absurd (by rw [heq]) c3
   ·
    replace c3 : ¬ ((z.getD i 0) ≠ (y.getD i 0)) := c3
    refine hSkip ?_
    refine qSeq rfl ?_
    refine hReg (sq 0 (sq 1 (sq 2 sz))) (by kernel_rfl) ?_
    refine mvI rfl rfl rfl ?_
    refine add rfl rfl rfl rfl (by omega) ?_
    refine asI rfl rfl rfl ?_
    refine rNil ?_
    exact qNext rfl (i + 1) (by omega) (by omega) ⟨rfl, rfl, rfl, trivial⟩ (fun _ h => h.pick [])
  ·
   replace c2 : ¬ ((i : Int) < (nz : Int)) := c2
   refine hExit rfl ?_
   refine qSeq rfl ?_
   refine hSeq ?_
   refine hReg (sq 0 sz) (by kernel_rfl) ?_
   refine asB rfl rfl rfl ?_
   refine rNil ?_
   refine qSeq rfl ?_
   refine hRet ?_
   exact fun w hs => ⟨[.bool true], ⟨rfl, trivial⟩, ⟨by first | rfl | exact bD (by omega) | exact bT (by omega) | exact bF (by omega) | exact vI (by omega), hs.upd⟩⟩
theorem laws_szInt64SS_c (az : Option Addr) (nz : Nat) (cz : Nat) (Hz : Nat → Hd) (z : List (List Int)) (left : Int) (w : World) (rz : RdR maK az nz Hz z w) (hl : 0 ≤ left ∧ left ≤ 1048576) :
  Calls Try.prog 12 #[.slice az nz cz, .int .i64 left] w (Ret fun v w' => v = .int .i64 ((Math.cut left (Math.szK Math.rwl z : Int))) ∧ Ext w w') := by
 have kz : Kn w none_ [] (RdR maK az nz Hz z) := fun w' hs => rz.ext hs.upd
 have lz : z.length = nz := rz.1
 have mz : nz ≤ 9223372036854775807 := rz.2.1
 have hsz : Math.szK Math.rwl z = z.length + Math.sumK Math.rwl z := rfl
 refine fn (M := none_) (rs := [.tmp 4]) Try.func12 rfl Try.ntmps12 rfl rfl (Sep.start _ _) ?_
 refine hSeq ?_
 refine hReg (sq 0 sz) (by kernel_rfl) ?_
 refine asI rfl rfl rfl ?_
 refine rNil ?_
 refine qSeq rfl ?_
 refine hSeq ?_
 refine hReg (sq 0 (sq 1 (sq 2 (sq 3 (sq 4 sz))))) (by kernel_rfl) ?_
 refine mvI rfl rfl rfl ?_
 refine mvS rfl rfl rfl ?_
 refine lenS Try.runUnderlying22 rfl rfl rfl ?_
 refine sub rfl rfl rfl rfl (by omega) ?_
 refine asI rfl rfl rfl ?_
 refine rNil ?_
 refine qSeq rfl ?_
 refine hSeq ?_
 refine hSeq ?_
 refine hReg (sq 0 (sq 1 sz)) (by kernel_rfl) ?_
 refine mvI rfl rfl rfl ?_
 refine lss rfl rfl rfl rfl ?_
 refine rNil ?_
 refine qSeq rfl ?_
 refine hIfD rfl (fun c1 => ?_) (fun c1 => ?_)
 ·
  replace c1 : (left - (nz : Int)) < 0 := c1
  refine hSeq ?_
  refine hReg (sq 0 sz) (by kernel_rfl) ?_
  refine asI rfl rfl rfl ?_
  refine rNil ?_
  refine qSeq rfl ?_
  refine hRet ?_
  exact fun w hs => ⟨[.int .i64 (-1)], ⟨rfl, trivial⟩, ⟨by first | rfl | exact vI (by rw [Math.cut_no (by omega)]) | exact vI (by rw [Math.cut_yes (by omega)]; omega), hs.upd⟩⟩
 ·
  replace c1 : ¬ ((left - (nz : Int)) < 0) := c1
  refine hSkip ?_
  refine qSeq rfl ?_
  refine hSeq ?_
  refine hSeq ?_
  refine hReg (sq 0 sz) (by kernel_rfl) ?_
  refine asI rfl rfl rfl ?_
  refine rNil ?_
  refine qSeq rfl ?_
  refine hBlk ?_
  refine hLoop (α := Nat × Int) (fun x => x.1 ≤ nz ∧ 0 ≤ x.2 ∧ x.2 = left - nz - (Math.sumK Math.rwl (z.take x.1) : Int)) (fun x => nz - x.1) (fun x => []) (fun x => [(0, .slice az nz cz), (1, .int .i64 x.2), (5, .int .i64 (x.1 : Int))]) (0, left - nz) ⟨Nat.zero_le _, by dsimp only; omega, by simp [Math.sumK]⟩ (fun _ h => h.pick []) ⟨rfl, rfl, rfl, trivial⟩ ?_
  rintro ⟨i, l⟩ τ1 ⟨hi, hl0, hlq⟩
  dsimp only at hi hl0 hlq
  refine hRe [(0, .slice az nz cz), (1, .int .i64 l), (5, .int .i64 (i : Int))] [] rfl rfl ?_
  refine hSeq ?_
  refine hSeq ?_
  refine hReg (sq 0 (sq 1 (sq 2 (sq 3 sz)))) (by kernel_rfl) ?_
  refine mvI rfl rfl rfl ?_
  refine mvS rfl rfl rfl ?_
  refine lenS Try.runUnderlying22 rfl rfl rfl ?_
  refine lss rfl rfl rfl rfl ?_
  refine rNil ?_
  refine qSeq rfl ?_
  refine hIfD rfl (fun c2 => ?_) (fun c2 => ?_)
  ·
   replace c2 : (i : Int) < (nz : Int) := c2
   have hst := Math.sumK_step Math.rwl (l := z) (i := i) [] (by omega)
   have hle := Math.sumK_le Math.rwl z (i + 1)
   refine hSkip ?_
   refine qSeq rfl ?_
   refine hSeq ?_
   refine hBlk ?_
   refine hSeq ?_
   refine hReg (sq 0 (sq 1 (sq 2 (sl 3 (sq 4 (sl 5 (sq 6 sz))))))) (by kernel_rfl) ?_
   refine mvS rfl rfl rfl ?_
   refine mvI rfl rfl rfl ?_
   refine ixRl (zn := i) (z.getD i []) el22 (kz) rfl rfl rfl rfl (by omega) (by omega) rfl (nth [] (by omega)) ?_
   intro be1 oe1 e1
   refine ldl Try.isAgg23 (Kn.fld e1 0 rfl) trv rfl rfl rfl ?_
   refine mvI rfl rfl rfl ?_
   refine callP (v := .int .i64 ((Math.cut l ((z.getD i []).length : Int)))) Try.call57 trv rfl rfl (fun w hs => laws_szInt64S_c _ _ _ _ _ w ((Kn.imp kz fun _ h => h.kidM (nth [] (by omega))) w hs) (by omega)) ?_
   refine asI rfl rfl rfl ?_
   refine rNil ?_
   refine qSeq rfl ?_
   refine hSeq ?_
   refine hReg (sq 0 (sq 1 sz)) (by kernel_rfl) ?_
   refine mvI rfl rfl rfl ?_
   refine lss rfl rfl rfl rfl ?_
   refine rNil ?_
   refine qSeq rfl ?_
   refine hIfD rfl (fun c3 => ?_) (fun c3 => ?_)
   ·
    replace c3 : (Math.cut l ((z.getD i []).length : Int)) < 0 := c3
    have hcn := Math.cut_neg (s := (Math.rwl (z.getD i []) : Int)) c3 hl0
    refine hSeq ?_
    refine hReg (sq 0 sz) (by kernel_rfl) ?_
    refine asI rfl rfl rfl ?_
    refine rNil ?_
    refine qSeq rfl ?_
    refine hRet ?_
    exact fun w hs => ⟨[.int .i64 (-1)], ⟨rfl, trivial⟩, ⟨by first | rfl | exact vI (by rw [Math.cut_no (by omega)]) | exact vI (by rw [Math.cut_yes (by omega)]; omega), hs.upd⟩⟩
   ·
    replace c3 : ¬ ((Math.cut l ((z.getD i []).length : Int)) < 0) := c3
    refine hSkip ?_
    refine qSeq rfl ?_
    refine hReg (sq 0 (sq 1 (sq 2 sz))) (by kernel_rfl) ?_
    refine mvI rfl rfl rfl ?_
    refine add rfl rfl rfl rfl (by omega) ?_
    refine asI rfl rfl rfl ?_
    refine rNil ?_
    have hcp := Math.cut_pos (s := (Math.rwl (z.getD i []) : Int)) c3
    exact qNext rfl ((i + 1, Math.cut l (Math.rwl (z.getD i []) : Int))) (by dsimp only; omega) ⟨by omega, by dsimp only; omega, by dsimp only; omega⟩ ⟨rfl, rfl, rfl, trivial⟩ (fun _ h => h.pick [])
  ·
   replace c2 : ¬ ((i : Int) < (nz : Int)) := c2
   have hall := Math.sumK_all Math.rwl (l := z) (i := i) (by omega)
   refine hExit rfl ?_
   refine qSeq rfl ?_
   refine hSeq ?_
   refine hReg (sq 0 (sq 1 sz)) (by kernel_rfl) ?_
   refine mvI rfl rfl rfl ?_
   refine asI rfl rfl rfl ?_
   refine rNil ?_
   refine qSeq rfl ?_
   refine hRet ?_
   exact fun w hs => ⟨[.int .i64 l], ⟨rfl, trivial⟩, ⟨by first | rfl | exact vI (by rw [Math.cut_no (by omega)]) | exact vI (by rw [Math.cut_yes (by omega)]; omega), hs.upd⟩⟩
theorem laws_toInt64SS_c (az : Option Addr) (nz : Nat) (cz : Nat) (Hz : Nat → Hd) (z : List (List Int)) (w : World) (rz : RdR maK az nz Hz z w) (hz : Math.szK Math.rwl z ≤ 1048576) :
  Calls Try.prog 14 #[.slice az nz cz] w (Ret fun v w' => ∃ x : Option Addr × Nat × Nat × (Nat → Hd) × List (List Int), v = .slice x.1 x.2.1 x.2.2.1 ∧ (x.2.2.2.2 = z) ∧ Sep w none_ [OwnR maK 23 2 x.1 x.2.1 x.2.2.1 x.2.2.2.1 x.2.2.2.2] w') := by
 have kz : Kn w none_ [] (RdR maK az nz Hz z) := fun w' hs => rz.ext hs.upd
 have lz : z.length = nz := rz.1
 have mz : nz ≤ 9223372036854775807 := rz.2.1
 have hz1 := Math.szK_len hz
 refine fn (M := none_) (rs := [.tmp 2]) Try.func14 rfl Try.ntmps14 rfl rfl (Sep.start _ _) ?_
 refine hSeq ?_
 refine hReg (sq 0 sz) (by kernel_rfl) ?_
 refine asS rfl rfl rfl ?_
 refine rNil ?_
 refine qSeq rfl ?_
 refine hSeq ?_
 refine hReg (sq 0 (sq 1 (sl 2 (sq 3 sz)))) (by kernel_rfl) ?_
 refine mvS rfl rfl rfl ?_
 refine lenS Try.runUnderlying22 rfl rfl rfl ?_
 refine mksR (e1 := 2) nz [] maK.ok rfl rfl mk22 trv1 rfl rfl rfl rfl (rfl) (by omega) (fun bkm1 hbkm1 => ?_)
 refine asS rfl rfl rfl ?_
 refine rNil ?_
 refine qSeq rfl ?_
 refine hSeq ?_
 refine hSeq ?_
 refine hReg (sq 0 sz) (by kernel_rfl) ?_
 refine asI rfl rfl rfl ?_
 refine rNil ?_
 refine qSeq rfl ?_
 refine hBlk ?_
 rw [Math.fill_start z nz []]
 refine hLoop (α := Nat × (Nat → Hd)) (fun x => x.1 ≤ nz) (fun x => nz - x.1) (fun x => [OwnR maK 23 2 (some ⟨bkm1, 0, none⟩) nz nz x.2 ((z.take x.1 ++ List.replicate (nz - x.1) []))]) (fun x => [(0, .slice az nz cz), (3, .slice (some ⟨bkm1, 0, none⟩) nz nz), (4, .int .i64 (x.1 : Int))]) ((0, fun _ => (none, 0))) (Nat.zero_le _) (fun _ h => h.pick [0]) ⟨rfl, rfl, rfl, trivial⟩ ?_
 rintro ⟨i, hh⟩ τ1 hi
 dsimp only at hi
 refine hRe [(0, .slice az nz cz), (3, .slice (some ⟨bkm1, 0, none⟩) nz nz), (4, .int .i64 (i : Int))] [OwnR maK 23 2 (some ⟨bkm1, 0, none⟩) nz nz hh ((z.take i ++ List.replicate (nz - i) []))] rfl rfl ?_
 refine hSeq ?_
 refine hSeq ?_
 refine hReg (sq 0 (sq 1 (sq 2 (sq 3 sz)))) (by kernel_rfl) ?_
 refine mvI rfl rfl rfl ?_
 refine mvS rfl rfl rfl ?_
 refine lenS Try.runUnderlying22 rfl rfl rfl ?_
 refine lss rfl rfl rfl rfl ?_
 refine rNil ?_
 refine qSeq rfl ?_
 refine hIfD rfl (fun c1 => ?_) (fun c1 => ?_)
 ·
  replace c1 : (i : Int) < (nz : Int) := c1
  have hch := Math.szK_at [] hz (show i < z.length by omega)
  refine hSkip ?_
  refine qSeq rfl ?_
  refine hSeq ?_
  refine hBlk ?_
  refine hReg (sq 0 (sq 1 (sq 2 (sq 3 (sq 4 (sl 5 (sl 6 (sq 7 (sl 8 sz))))))))) (by kernel_rfl) ?_
  refine mvS rfl rfl rfl ?_
  refine mvI rfl rfl rfl ?_
  refine mvS rfl rfl rfl ?_
  refine mvI rfl rfl rfl ?_
  refine ixRl (zn := i) (z.getD i []) el22 (Kn.drop (k := 1) kz) rfl rfl rfl rfl (by omega) (by omega) rfl (nth [] (by omega)) ?_
  intro be1 oe1 e1
  refine ldl Try.isAgg23 (Kn.fld e1 0 rfl) trv rfl rfl rfl ?_
  refine callS Try.call15 trv1 rfl rfl (fun w hs => laws_toInt64S_c _ _ _ _ w (Kn.drop (k := 1) ((Kn.imp kz fun _ h => h.kidM (nth [] (by omega)))) w hs) hch) ?_
  rintro ⟨ay2, ny2, cy2, y2⟩ hr2
  try dsimp only at hr2
  refine oxR (zn := i) 1 rfl el22 rfl rfl rfl rfl (by omega) (by omega) rfl ?_
  intro gk3 hgk3
  refine stR (hd := (ay2, cy2)) (x := y2) (v := .slice ay2 ny2 cy2) i 1 0 maK.ok rfl rfl hgk3 Try.sizeOf23 trv rfl rfl rfl rfl rfl (fun h => by first | rfl | (dsimp only at h; rw [h]; rfl) | (rw [h]; rfl) | exact congrArg (fun m => [Value.slice _ m _]) h | (simp only [maK, List.length_replicate]; rfl)) (by omega) ?_
  refine rNil ?_
  refine qSeq rfl ?_
  refine hReg (sq 0 (sq 1 (sq 2 sz))) (by kernel_rfl) ?_
  refine mvI rfl rfl rfl ?_
  refine add rfl rfl rfl rfl (by omega) ?_
  refine asI rfl rfl rfl ?_
  refine rNil ?_
  rw [hr2, Math.fill_step [] [] lz (by omega)]
  exact qNext rfl ((i + 1, (hset hh i (ay2, cy2)))) (by dsimp only; omega) (by dsimp only; omega) ⟨rfl, rfl, rfl, trivial⟩ (fun _ h => h.pick [0])
 ·
  replace c1 : ¬ ((i : Int) < (nz : Int)) := c1
  refine hExit rfl ?_
  refine qSeq rfl ?_
  refine hSeq ?_
  refine hReg (sq 0 (sq 1 sz)) (by kernel_rfl) ?_
  refine mvS rfl rfl rfl ?_
  refine asS rfl rfl rfl ?_
  refine rNil ?_
  refine qSeq rfl ?_
  refine hRet ?_
  exact fun w hs => ⟨[.slice (some ⟨bkm1, 0, none⟩) nz nz], ⟨rfl, trivial⟩, ⟨((some ⟨bkm1, 0, none⟩), nz, nz, hh, (z.take i ++ List.replicate (nz - i) [])), rfl, Math.fill_end _ lz (by omega), hs.pick [0]⟩⟩
theorem laws_eqInt64SS_c (az : Option Addr) (nz : Nat) (cz : Nat) (Hz : Nat → Hd) (z : List (List Int)) (ay : Option Addr) (ny : Nat) (cy : Nat) (Hy : Nat → Hd) (y : List (List Int)) (w : World) (rz : RdR maK az nz Hz z w) (ry : RdR maK ay ny Hy y w) (heq : z = y) :
  Calls Try.prog 17 #[.slice az nz cz, .slice ay ny cy] w (Ret fun v w' => v = .bool true ∧ Ext w w') := by
 have kz : Kn w none_ [] (RdR maK az nz Hz z) := fun w' hs => rz.ext hs.upd
 have lz : z.length = nz := rz.1
 have mz : nz ≤ 9223372036854775807 := rz.2.1
 have ky : Kn w none_ [] (RdR maK ay ny Hy y) := fun w' hs => ry.ext hs.upd
 have ly : y.length = ny := ry.1
 have my : ny ≤ 9223372036854775807 := ry.2.1
 have ly2 : y.length = nz := by rw [← heq]; exact lz
 refine fn (M := none_) (rs := [.tmp 4]) Try.func17 rfl Try.ntmps17 rfl rfl (Sep.start _ _) ?_
 refine hSeq ?_
 refine hReg (sq 0 sz) (by kernel_rfl) ?_
 refine asB rfl rfl rfl ?_
 refine rNil ?_
 refine qSeq rfl ?_
 refine hSeq ?_
 refine hSeq ?_
 refine hReg (sq 0 (sq 1 (sq 2 (sq 3 (sq 4 sz))))) (by kernel_rfl) ?_
 refine mvS rfl rfl rfl ?_
 refine lenS Try.runUnderlying22 rfl rfl rfl ?_
 refine mvS rfl rfl rfl ?_
 refine lenS Try.runUnderlying22 rfl rfl rfl ?_
 refine neq rfl rfl rfl rfl ?_
 refine rNil ?_
 refine qSeq rfl ?_
 refine hIfD rfl (fun c1 => ?_) (fun c1 => ?_)
 ·
  replace c1 : (nz : Int) ≠ (ny : Int) := c1
  exact absurd c1 (by omega)
 ·
  replace c1 : ¬ ((nz : Int) ≠ (ny : Int)) := c1
  refine hSkip ?_
  refine qSeq rfl ?_
  refine hSeq ?_
  refine hSeq ?_
  refine hReg (sq 0 sz) (by kernel_rfl) ?_
  refine asI rfl rfl rfl ?_
  refine rNil ?_
  refine qSeq rfl ?_
  refine hBlk ?_
  refine hLoop (α := Nat) (fun i => i ≤ nz) (fun i => nz - i) (fun i => []) (fun i => [(0, .slice az nz cz), (1, .slice ay ny cy), (5, .int .i64 (i : Int))]) 0 (Nat.zero_le _) (fun _ h => h.pick []) ⟨rfl, rfl, rfl, trivial⟩ ?_
  rintro i τ1 hi
  refine hSeq ?_
  refine hSeq ?_
  refine hReg (sq 0 (sq 1 (sq 2 (sq 3 sz)))) (by kernel_rfl) ?_
  refine mvI rfl rfl rfl ?_
  refine mvS rfl rfl rfl ?_
  refine lenS Try.runUnderlying22 rfl rfl rfl ?_
  refine lss rfl rfl rfl rfl ?_
  refine rNil ?_
  refine qSeq rfl ?_
  refine hIfD rfl (fun c2 => ?_) (fun c2 => ?_)
  ·
   replace c2 : (i : Int) < (nz : Int) := c2
   refine hSkip ?_
   refine qSeq rfl ?_
   refine hSeq ?_
   refine hBlk ?_
   refine hSeq ?_
   refine hDraw (Ls := []) (by kernel_rfl) (sq 0 (sq 1 (sq 2 (sq 3 (sq 4 (sq 5 (sq 6 (sq 7 (sl 8 (sq 9 sz)))))))))) (by kernel_rfl) .slnil ?_
   refine mvS rfl rfl rfl ?_
   refine mvI rfl rfl rfl ?_
   refine ixRq (zn := i) (z.getD i []) el22 (kz) (fun _ h => h.pick []) rfl rfl rfl rfl (by omega) (by omega) rfl (nth [] (by omega)) ?_
   intro be1 oe1 e1
   refine ldq Try.isAgg23 (Kn.fld e1 0 rfl) rfl rfl rfl ?_
   refine mvS rfl rfl rfl ?_
   refine mvI rfl rfl rfl ?_
   refine ixRq (zn := i) (y.getD i []) el22 (ky) (fun _ h => h.pick []) rfl rfl rfl rfl (by omega) (by omega) rfl (nth [] (by omega)) ?_
   intro be2 oe2 e2
   refine ldq Try.isAgg23 (Kn.fld e2 0 rfl) rfl rfl rfl ?_
   refine callP (v := .bool true) Try.call18 (fun _ h => h.pick []) rfl rfl (fun w hs => laws_eqInt64S_c _ _ _ _ _ _ _ _ w ((Kn.imp kz fun _ h => h.kidM (nth [] (by omega))) w hs) ((Kn.imp ky fun _ h => h.kidM (nth [] (by omega))) w hs) (by first | rfl | assumption | (rw [heq]) | (simp only [*]))) ?_
   refine not rfl rfl rfl ?_
   refine rNil ?_
   refine qSeq rfl ?_
   refine hIfF rfl ?_
   refine hSkip ?_
   refine qSeq rfl ?_
   refine hReg (sq 0 (sq 1 (sq 2 sz))) (by kernel_rfl) ?_
   refine mvI rfl rfl rfl ?_
   refine add rfl rfl rfl rfl (by omega) ?_
   refine asI rfl rfl rfl ?_
   refine rNil ?_
   exact qNext rfl (i + 1) (by omega) (by omega) ⟨rfl, rfl, rfl, trivial⟩ (fun _ h => h.pick [])
  ·
   replace c2 : ¬ ((i : Int) < (nz : Int)) := c2
   refine hExit rfl ?_
   refine qSeq rfl ?_
   refine hSeq ?_
   refine hReg (sq 0 sz) (by kernel_rfl) ?_
   refine asB rfl rfl rfl ?_
   refine rNil ?_
   refine qSeq rfl ?_
   refine hRet ?_
   exact fun w hs => ⟨[.bool true], ⟨rfl, trivial⟩, ⟨by first | rfl | exact bD (by omega) | exact bT (by omega) | exact bF (by omega) | exact vI (by omega), hs.upd⟩⟩
end Go.Proofs.Yteaahdakammffaa
/- Contracts of what the program does with lists. Their conditions stand in each. -/
namespace Go.Proofs.Yteaahdakammffaa
open Go Go.RowKit V
set_option linter.unusedVariables false
set_option linter.unusedSimpArgs false
set_option maxRecDepth 100000
end Go.Proofs.Yteaahdakammffaa
/- Contracts of the marks that the laws lay. Their conditions stand in each. -/
namespace Go.Proofs.Yteaahdakammffaa
open Go Go.RowKit V
set_option linter.unusedVariables false
set_option linter.unusedSimpArgs false
set_option maxRecDepth 100000
theorem laws_markInt64S_c (az : Option Addr) (nz : Nat) (cz : Nat) (z : List Int) (k : Int) (w : World) (M0 : Nat → Prop) (hs0 : Sep w M0 [OwnI 2 az nz cz z] w) (hk : 0 ≤ k ∧ k + (nz : Int) ≤ 1000000000) :
  Calls Try.prog 48 #[.slice az nz cz, .int .i64 k] w (Ret fun v w' => ∃ x : Unit, v = .int .i64 ((k + (nz : Int))) ∧ True ∧ Sep w M0 [OwnI 2 az nz cz (Math.seqL k nz)] w') := by
 have lzz := (show OwnI 2 az nz cz z w from hs0.at_ 0 rfl)
 have mmz := Own.max lzz
 have lz : z.length = nz := lzz.lenz
 clear lzz
 have hsl := Math.seqL_len k nz
 refine fn (M := M0) (rs := [.tmp 4]) Try.func48 rfl Try.ntmps48 rfl rfl hs0 ?_
 refine hSeq ?_
 refine hReg (sq 0 sz) (by kernel_rfl) ?_
 refine asI rfl rfl rfl ?_
 refine rNil ?_
 refine qSeq rfl ?_
 refine hSeq ?_
 refine hSeq ?_
 refine hReg (sq 0 sz) (by kernel_rfl) ?_
 refine asI rfl rfl rfl ?_
 refine rNil ?_
 refine qSeq rfl ?_
 refine hBlk ?_
 rw [Math.turn_start (Math.seqL k nz) z]
 refine hLoop (α := Nat × Int) (fun x => x.1 ≤ nz ∧ x.2 = k + (x.1 : Int)) (fun x => nz - x.1) (fun x => [OwnI 2 az nz cz (((Math.seqL k nz).take x.1 ++ z.drop x.1))]) (fun x => [(0, .slice az nz cz), (1, .int .i64 x.2), (5, .int .i64 (x.1 : Int))]) (0, k) ⟨Nat.zero_le _, by simp⟩ (fun _ h => h.pick [0]) ⟨rfl, rfl, rfl, trivial⟩ ?_
 rintro ⟨i, q⟩ τ1 ⟨hi, hq⟩
 dsimp only at hi hq
 refine hRe [(0, .slice az nz cz), (1, .int .i64 q), (5, .int .i64 (i : Int))] [OwnI 2 az nz cz (((Math.seqL k nz).take i ++ z.drop i))] rfl rfl ?_
 refine hSeq ?_
 refine hSeq ?_
 refine hReg (sq 0 (sq 1 (sq 2 (sq 3 sz)))) (by kernel_rfl) ?_
 refine mvI rfl rfl rfl ?_
 refine mvS rfl rfl rfl ?_
 refine lenS Try.runUnderlying23 rfl rfl rfl ?_
 refine lss rfl rfl rfl rfl ?_
 refine rNil ?_
 refine qSeq rfl ?_
 refine hIfD rfl (fun c1 => ?_) (fun c1 => ?_)
 ·
  replace c1 : (i : Int) < (nz : Int) := c1
  refine hSkip ?_
  refine qSeq rfl ?_
  refine hSeq ?_
  refine hBlk ?_
  refine hSeq ?_
  refine hReg (sq 0 (sq 1 (sq 2 (sq 3 (sl 4 sz))))) (by kernel_rfl) ?_
  refine mvS rfl rfl rfl ?_
  refine mvI rfl rfl rfl ?_
  refine mvI rfl rfl rfl ?_
  refine oxI (zn := i) 0 rfl el23 rfl rfl rfl rfl (by omega) (by omega) rfl ?_
  intro gk1 hgk1
  refine stoI (off := i) (x := q) 0 rfl hgk1 Try.sizeOf2 trv rfl rfl rfl rfl (by omega) ?_
  refine rNil ?_
  refine qSeq rfl ?_
  refine hReg (sq 0 (sq 1 (sq 2 sz))) (by kernel_rfl) ?_
  refine mvI rfl rfl rfl ?_
  refine add rfl rfl rfl rfl (by omega) ?_
  refine asI rfl rfl rfl ?_
  refine rNil ?_
  refine qSeq rfl ?_
  refine hReg (sq 0 (sq 1 (sq 2 sz))) (by kernel_rfl) ?_
  refine mvI rfl rfl rfl ?_
  refine add rfl rfl rfl rfl (by omega) ?_
  refine asI rfl rfl rfl ?_
  refine rNil ?_
  rw [hq, ← Math.seqL_get (k := k) (n := nz) (by omega), Math.turn_step 0 hsl lz (by omega), Math.seqL_get (by omega)]
  exact qNext rfl ((i + 1, k + (i : Int) + 1)) (by dsimp only; omega) ⟨by dsimp only; omega, by dsimp only; omega⟩ ⟨rfl, rfl, rfl, trivial⟩ (fun _ h => h.pick [0])
 ·
  replace c1 : ¬ ((i : Int) < (nz : Int)) := c1
  refine hExit rfl ?_
  refine qSeq rfl ?_
  refine hSeq ?_
  refine hReg (sq 0 (sq 1 sz)) (by kernel_rfl) ?_
  refine mvI rfl rfl rfl ?_
  refine asI rfl rfl rfl ?_
  refine rNil ?_
  refine qSeq rfl ?_
  refine hRet ?_
  rw [Math.turn_end hsl lz (by omega)]
  exact fun w hs => ⟨[.int .i64 q], ⟨rfl, trivial⟩, ⟨(), vI (by omega), trivial, hs.pick [0]⟩⟩
theorem laws_heldInt64S_c (az : Option Addr) (nz : Nat) (cz : Nat) (z : List Int) (k : Int) (w : World) (rz : RdI az nz z w) (hk : 0 ≤ k ∧ k + (nz : Int) ≤ 1000000000) (heq : z = Math.seqL k nz) :
  Calls Try.prog 49 #[.slice az nz cz, .int .i64 k] w (Ret fun v w' => v = .int .i64 ((k + (nz : Int))) ∧ Ext w w') := by
 have kz : Kn w none_ [] (RdI az nz z) := fun w' hs => rz.ext hs.upd
 have lz : z.length = nz := rz.1
 have mz : nz ≤ 9223372036854775807 := rz.2.1
 refine fn (M := none_) (rs := [.tmp 4]) Try.func49 rfl Try.ntmps49 rfl rfl (Sep.start _ _) ?_
 refine hSeq ?_
 refine hReg (sq 0 sz) (by kernel_rfl) ?_
 refine asI rfl rfl rfl ?_
 refine rNil ?_
 refine qSeq rfl ?_
 refine hSeq ?_
 refine hSeq ?_
 refine hReg (sq 0 sz) (by kernel_rfl) ?_
 refine asI rfl rfl rfl ?_
 refine rNil ?_
 refine qSeq rfl ?_
 refine hBlk ?_
 refine hLoop (α := Nat × Int) (fun x => x.1 ≤ nz ∧ x.2 = k + (x.1 : Int)) (fun x => nz - x.1) (fun x => []) (fun x => [(0, .slice az nz cz), (1, .int .i64 x.2), (5, .int .i64 (x.1 : Int))]) (0, k) ⟨Nat.zero_le _, by simp⟩ (fun _ h => h.pick []) ⟨rfl, rfl, rfl, trivial⟩ ?_
 rintro ⟨i, q⟩ τ1 ⟨hi, hq⟩
 dsimp only at hi hq
 refine hRe [(0, .slice az nz cz), (1, .int .i64 q), (5, .int .i64 (i : Int))] [] rfl rfl ?_
 refine hSeq ?_
 refine hSeq ?_
 refine hReg (sq 0 (sq 1 (sq 2 (sq 3 sz)))) (by kernel_rfl) ?_
 refine mvI rfl rfl rfl ?_
 refine mvS rfl rfl rfl ?_
 refine lenS Try.runUnderlying23 rfl rfl rfl ?_
 refine lss rfl rfl rfl rfl ?_
 refine rNil ?_
 refine qSeq rfl ?_
 refine hIfD rfl (fun c1 => ?_) (fun c1 => ?_)
 ·
  replace c1 : (i : Int) < (nz : Int) := c1
  refine hSkip ?_
  refine qSeq rfl ?_
  refine hSeq ?_
  refine hBlk ?_
  refine hSeq ?_
  refine hSeq ?_
  refine hReg (sq 0 (sq 1 (sq 2 (sl 3 (sq 4 (sq 5 sz)))))) (by kernel_rfl) ?_
  refine mvS rfl rfl rfl ?_
  refine mvI rfl rfl rfl ?_
  refine ixIl (zn := i) el23 (kz) rfl rfl rfl rfl (by omega) (by omega) rfl ?_
  intro ae1 e1
  refine ldl Try.isAgg2 (e1) trv rfl rfl rfl ?_
  refine mvI rfl rfl rfl ?_
  refine neq rfl rfl rfl rfl ?_
  refine rNil ?_
  refine qSeq rfl ?_
  refine hIfD rfl (fun c2 => ?_) (fun c2 => ?_)
  ·
   replace c2 : (z.getD i 0) ≠ q := c2
   exact absurd (by rw [heq, Math.seqL_get (by omega), hq]) c2
  ·
   replace c2 : ¬ ((z.getD i 0) ≠ q) := c2
   refine hSkip ?_
   refine qSeq rfl ?_
   refine hReg (sq 0 (sq 1 (sq 2 sz))) (by kernel_rfl) ?_
   refine mvI rfl rfl rfl ?_
   refine add rfl rfl rfl rfl (by omega) ?_
   refine asI rfl rfl rfl ?_
   refine rNil ?_
   refine qSeq rfl ?_
   refine hReg (sq 0 (sq 1 (sq 2 sz))) (by kernel_rfl) ?_
   refine mvI rfl rfl rfl ?_
   refine add rfl rfl rfl rfl (by omega) ?_
   refine asI rfl rfl rfl ?_
   refine rNil ?_
   exact qNext rfl (i + 1, q + 1) (by dsimp only; omega) ⟨by dsimp only; omega, by dsimp only; omega⟩ ⟨rfl, rfl, rfl, trivial⟩ (fun _ h => h.pick [])
 ·
  replace c1 : ¬ ((i : Int) < (nz : Int)) := c1
  refine hExit rfl ?_
  refine qSeq rfl ?_
  refine hSeq ?_
  refine hReg (sq 0 (sq 1 sz)) (by kernel_rfl) ?_
  refine mvI rfl rfl rfl ?_
  refine asI rfl rfl rfl ?_
  refine rNil ?_
  refine qSeq rfl ?_
  refine hRet ?_
  exact fun w hs => ⟨[.int .i64 q], ⟨rfl, trivial⟩, ⟨vI (by omega), hs.upd⟩⟩
theorem laws_markInt64SS_c (az : Option Addr) (nz : Nat) (cz : Nat) (Hz : Nat → Hd) (z : List (List Int)) (k : Int) (w : World) (M0 : Nat → Prop) (hs0 : Sep w M0 [OwnR maK 23 2 az nz cz Hz z] w) (hk : 0 ≤ k ∧ k + (Math.sumK Math.rwl z : Int) ≤ 1000000000) :
  Calls Try.prog 47 #[.slice az nz cz, .int .i64 k] w (Ret fun v w' => ∃ x : Unit, v = .int .i64 ((k + (Math.sumK Math.rwl z : Int))) ∧ True ∧ Sep w M0 [OwnR maK 23 2 az nz cz Hz (Math.marksM k z)] w') := by
 have lzz := (show OwnR maK 23 2 az nz cz Hz z w from hs0.at_ 0 rfl)
 have mmz := Own.max lzz.2.1
 have lz : z.length = nz := lzz.1
 clear lzz
 have hml : (Math.marksM k z).length = nz := by rw [Math.marksM_len]; exact lz
 obtain ⟨tot, htot⟩ : ∃ t : Int, (Math.sumK Math.rwl z : Int) = t := ⟨_, rfl⟩
 rw [htot]
 refine fn (M := M0) (rs := [.tmp 4]) Try.func47 rfl Try.ntmps47 rfl rfl hs0 ?_
 refine hSeq ?_
 refine hReg (sq 0 sz) (by kernel_rfl) ?_
 refine asI rfl rfl rfl ?_
 refine rNil ?_
 refine qSeq rfl ?_
 refine hSeq ?_
 refine hSeq ?_
 refine hReg (sq 0 sz) (by kernel_rfl) ?_
 refine asI rfl rfl rfl ?_
 refine rNil ?_
 refine qSeq rfl ?_
 refine hBlk ?_
 rw [Math.turn_start (Math.marksM k z) z]
 refine hLoop (α := Nat × Int) (fun x => x.1 ≤ nz ∧ x.2 = k + (Math.sumK Math.rwl (z.take x.1) : Int)) (fun x => nz - x.1) (fun x => [OwnR maK 23 2 az nz cz Hz (((Math.marksM k z).take x.1 ++ z.drop x.1))]) (fun x => [(0, .slice az nz cz), (1, .int .i64 x.2), (5, .int .i64 (x.1 : Int))]) (0, k) ⟨Nat.zero_le _, by simp [Math.sumK]⟩ (fun _ h => h.pick [0]) ⟨rfl, rfl, rfl, trivial⟩ ?_
 rintro ⟨i, q⟩ τ1 ⟨hi, hq⟩
 dsimp only at hi hq
 refine hRe [(0, .slice az nz cz), (1, .int .i64 q), (5, .int .i64 (i : Int))] [OwnR maK 23 2 az nz cz Hz (((Math.marksM k z).take i ++ z.drop i))] rfl rfl ?_
 refine hSeq ?_
 refine hSeq ?_
 refine hReg (sq 0 (sq 1 (sq 2 (sq 3 sz)))) (by kernel_rfl) ?_
 refine mvI rfl rfl rfl ?_
 refine mvS rfl rfl rfl ?_
 refine lenS Try.runUnderlying22 rfl rfl rfl ?_
 refine lss rfl rfl rfl rfl ?_
 refine rNil ?_
 refine qSeq rfl ?_
 refine hIfD rfl (fun c1 => ?_) (fun c1 => ?_)
 ·
  replace c1 : (i : Int) < (nz : Int) := c1
  have hst := Math.sumK_step Math.rwl (l := z) (i := i) [] (by omega)
  have hle := Math.sumK_le Math.rwl z (i + 1)
  have hf4 : Math.rwl (z.getD i []) = (z.getD i []).length := rfl
  refine hSkip ?_
  refine qSeq rfl ?_
  refine hSeq ?_
  refine hBlk ?_
  refine hReg (sq 0 (sq 1 (sq 2 (sl 3 (sq 4 (sl 5 (sq 6 sz))))))) (by kernel_rfl) ?_
  refine mvS rfl rfl rfl ?_
  refine mvI rfl rfl rfl ?_
  refine ixRl (zn := i) (z.getD i []) el22 ((Kn.at_ 0 rfl).imp fun _ h => OwnR.rd h maK.ok) rfl rfl rfl rfl (by omega) (by omega) rfl (Math.turn_at [] hml lz (by omega)) ?_
  intro be1 oe1 e1
  refine ldl Try.isAgg23 (Kn.fld e1 0 rfl) trv rfl rfl rfl ?_
  refine mvI rfl rfl rfl ?_
  refine rPieces (fun _ h => Sep.lend h i (z.getD i []) (Math.turn_at [] hml lz (by omega))) ?_
  refine callM (Lf := [OwnI 2 ((Hz i).1) ((z.getD i []).length) ((Hz i).2) (z.getD i [])]) (Lr := [OwnH maK 23 2 az nz cz Hz (((Math.marksM k z).take i ++ z.drop i)) i]) (φs := fun _ => [OwnI 2 ((Hz i).1) ((z.getD i []).length) ((Hz i).2) ((Math.seqL q ((z.getD i []).length)))]) (val := fun _ => .int .i64 ((q + (((z.getD i []).length) : Int)))) rfl Try.call48 trv1 rfl rfl (fun w M0 hs => laws_markInt64S_c ((Hz i).1) ((z.getD i []).length) ((Hz i).2) (z.getD i []) q w M0 hs (by first | omega | (dsimp only; omega))) ?_
  rintro _ -
  refine rPieces (fun _ h => Sep.back (x := (z.getD i [])) (Math.seqL q ((z.getD i []).length)) maK.ok h (Math.turn_at [] hml lz (by omega)) (fun h1 h2 => by dsimp only [ndK, ndC, maK] at h1 h2 ⊢; rw [h1, h2]) rfl rfl) ?_
  refine asI rfl rfl rfl ?_
  refine rNil ?_
  refine qSeq rfl ?_
  refine hReg (sq 0 (sq 1 (sq 2 sz))) (by kernel_rfl) ?_
  refine mvI rfl rfl rfl ?_
  refine add rfl rfl rfl rfl (by omega) ?_
  refine asI rfl rfl rfl ?_
  refine rNil ?_
  rw [show (Math.seqL q ((z.getD i []).length)) = (Math.marksM k z).getD i [] from by rw [Math.marksM_get (by omega), ← hq]; try rfl, Math.turn_step [] hml lz (by omega)]
  exact qNext rfl ((i + 1, (q + (((z.getD i []).length) : Int)))) (by dsimp only; omega) ⟨by dsimp only; omega, by dsimp only; omega⟩ ⟨rfl, rfl, rfl, trivial⟩ (fun _ h => h.pick [0])
 ·
  replace c1 : ¬ ((i : Int) < (nz : Int)) := c1
  refine hExit rfl ?_
  refine qSeq rfl ?_
  refine hSeq ?_
  refine hReg (sq 0 (sq 1 sz)) (by kernel_rfl) ?_
  refine mvI rfl rfl rfl ?_
  refine asI rfl rfl rfl ?_
  refine rNil ?_
  refine qSeq rfl ?_
  refine hRet ?_
  rw [Math.turn_end hml lz (by omega)]
  exact fun w hs => ⟨[.int .i64 q], ⟨rfl, trivial⟩, ⟨(), vI (by rw [hq, Math.sumK_all _ (by omega), htot]), trivial, hs.pick [0]⟩⟩
end Go.Proofs.Yteaahdakammffaa
/- Contracts of cards and sets of cards. Their conditions stand in each. -/
namespace Go.Proofs.Yteaahdakammffaa
open Go Go.RowKit V
set_option linter.unusedVariables false
set_option linter.unusedSimpArgs false
set_option maxRecDepth 100000
theorem mk137 : Mk Try.prog 137 4 1 1 [.bool false] := ⟨Try.underlying137, Try.t4, _, by kernel_rfl, rfl, rfl, rfl, rfl, rfl, by decide, by decide⟩
theorem el137 : Elt Try.prog 137 1 := ⟨4, Try.runUnderlying137, Try.sizeOf4⟩
theorem impl_isCard_c (n : Int) (w : World) :
  Calls Try.prog 101 #[.int .i64 n] w (Ret fun v w' => v = .bool (decide (0 ≤ n ∧ n ≤ 51)) ∧ Ext w w') := by
 refine fn (M := none_) (rs := [.tmp 2]) Try.func101 rfl Try.ntmps101 rfl rfl (Sep.start _ _) ?_
 refine hSeq ?_
 refine hReg (sq 0 sz) (by kernel_rfl) ?_
 refine asB rfl rfl rfl ?_
 refine rNil ?_
 refine qSeq rfl ?_
 refine hSeq ?_
 refine hReg (sq 0 (sl 1 (sq 2 sz))) (by kernel_rfl) ?_
 refine mvI rfl rfl rfl ?_
 refine callP (v := .bool (decide ((0 : Int) ≤ n ∧ n ≤ (51 : Int)))) Try.call65 trv rfl rfl (fun w hs => impl_within_c _ _ _ w ) ?_
 refine asB rfl rfl rfl ?_
 refine rNil ?_
 refine qSeq rfl ?_
 refine hRet ?_
 exact fun w hs => ⟨[.bool (decide ((0 : Int) ≤ n ∧ n ≤ (51 : Int)))], ⟨rfl, trivial⟩, ⟨by first | rfl | exact bD (by omega) | exact bT (by omega) | exact bF (by omega) | exact vI (by omega), hs.upd⟩⟩
theorem spec_l02Card_c (n : Int) (w : World) :
  Calls Try.prog 102 #[.int .i64 n] w (Ret fun v w' => v = .bool (decide (0 ≤ n ∧ n ≤ 51)) ∧ Ext w w') := by
 refine fn (M := none_) (rs := [.tmp 2]) Try.func102 rfl Try.ntmps102 rfl rfl (Sep.start _ _) ?_
 refine hSeq ?_
 refine hReg (sq 0 sz) (by kernel_rfl) ?_
 refine asB rfl rfl rfl ?_
 refine rNil ?_
 refine qSeq rfl ?_
 refine hSeq ?_
 refine hReg (sq 0 (sl 1 (sq 2 sz))) (by kernel_rfl) ?_
 refine mvI rfl rfl rfl ?_
 refine callP (v := .bool (decide ((0 : Int) ≤ n ∧ n ≤ (51 : Int)))) Try.call88 trv rfl rfl (fun w hs => spec_l01In_c _ _ _ w ) ?_
 refine asB rfl rfl rfl ?_
 refine rNil ?_
 refine qSeq rfl ?_
 refine hRet ?_
 exact fun w hs => ⟨[.bool (decide ((0 : Int) ≤ n ∧ n ≤ (51 : Int)))], ⟨rfl, trivial⟩, ⟨by first | rfl | exact bD (by omega) | exact bT (by omega) | exact bF (by omega) | exact vI (by omega), hs.upd⟩⟩
theorem impl_AreCards_c (az : Option Addr) (nz : Nat) (cz : Nat) (z : List Int) (w : World) (rz : RdI az nz z w) :
  Calls Try.prog 72 #[.slice az nz cz] w (Ret fun v w' => v = .bool (Iso.areB z) ∧ Ext w w') := by
 have kz : Kn w none_ [] (RdI az nz z) := fun w' hs => rz.ext hs.upd
 have lz : z.length = nz := rz.1
 have mz : nz ≤ 9223372036854775807 := rz.2.1
 refine fn (M := none_) (rs := [.tmp 2]) Try.func72 rfl Try.ntmps72 rfl rfl (Sep.start _ _) ?_
 refine hSeq ?_
 refine hReg (sq 0 sz) (by kernel_rfl) ?_
 refine asB rfl rfl rfl ?_
 refine rNil ?_
 refine qSeq rfl ?_
 refine hSeq ?_
 refine hReg (sq 0 sz) (by kernel_rfl) ?_
 refine asI rfl rfl rfl ?_
 refine rNil ?_
 refine qSeq rfl ?_
 refine hSeq ?_
 refine hSeq ?_
 refine hReg (sq 0 (sq 1 (sq 2 sz))) (by kernel_rfl) ?_
 refine mvS rfl rfl rfl ?_
 refine lenS Try.runUnderlying23 rfl rfl rfl ?_
 refine mvI rfl rfl rfl ?_
 refine rNil ?_
 refine qSeq rfl ?_
 refine hBlk ?_
 refine hLoop (α := Nat × Nat) (fun x => x.1 ≤ nz ∧ Iso.areP (z.take x.1) ∧ Iso.maskOk x.2 (z.take x.1)) (fun x => nz - x.1) (fun x => []) (fun x => [(3, .int .u64 (x.2 : Int)), (6, .slice az nz cz), (7, .int .i64 (nz : Int)), (8, .int .i64 (x.1 : Int))]) (0, 0) ⟨Nat.zero_le _, Iso.areP_nil, Iso.mask0⟩ (fun _ h => h.pick []) ⟨rfl, rfl, rfl, rfl, trivial⟩ ?_
 rintro ⟨i, m⟩ τ1 ⟨hi, ha, hm⟩
 dsimp only at hi ha hm
 refine hRe [(3, .int .u64 (m : Int)), (6, .slice az nz cz), (7, .int .i64 (nz : Int)), (8, .int .i64 (i : Int))] [] rfl rfl ?_
 refine hSeq ?_
 refine hReg (sq 0 sz) (by kernel_rfl) ?_
 refine lss rfl rfl rfl rfl ?_
 refine rNil ?_
 refine qSeq rfl ?_
 refine hSeq ?_
 refine hIfD rfl (fun c1 => ?_) (fun c1 => ?_)
 ·
  replace c1 : (i : Int) < (nz : Int) := c1
  refine hSkip ?_
  refine qSeq rfl ?_
  refine hSeq ?_
  refine hBlk ?_
  refine hSeq ?_
  refine hReg (sq 0 (sl 1 (sq 2 sz))) (by kernel_rfl) ?_
  refine ixIl (zn := i) el23 (kz) rfl rfl rfl rfl (by omega) (by omega) rfl ?_
  intro ae1 e1
  refine ldl Try.isAgg2 (e1) trv rfl rfl rfl ?_
  refine asI rfl rfl rfl ?_
  refine rNil ?_
  refine qSeq rfl ?_
  refine hSeq ?_
  refine hSeq ?_
  refine hReg (sq 0 (sl 1 (sq 2 (sq 3 (sq 4 (sq 5 (sq 6 (sq 7 (sq 8 (sq 9 sz)))))))))) (by kernel_rfl) ?_
  refine mvI rfl rfl rfl ?_
  refine callP (v := .bool (decide (0 ≤ (z.getD i 0) ∧ (z.getD i 0) ≤ 51))) Try.call101 trv rfl rfl (fun w hs => impl_isCard_c _ w ) ?_
  refine notD rfl rfl rfl ?_
  refine mvB rfl rfl rfl ?_
  refine rBoolD (d := 15) rfl (fun g2 => ?_) (fun g2 => ?_)
  ·
   replace g2 : ¬ (0 ≤ (z.getD i 0) ∧ (z.getD i 0) ≤ 51) := g2
   refine rSkipQ rfl rfl ?_
   refine rSkipQ rfl rfl ?_
   refine rSkipQ rfl rfl ?_
   refine rSkipQ rfl rfl ?_
   refine rSkipQ rfl rfl ?_
   refine pickB rfl rfl rfl rfl ?_
   refine rNil ?_
   refine qSeq rfl ?_
   refine hIfT rfl ?_
   refine hSeq ?_
   refine hReg (sq 0 sz) (by kernel_rfl) ?_
   refine asB rfl rfl rfl ?_
   refine rNil ?_
   refine qSeq rfl ?_
   refine hRet ?_
   exact fun w hs => ⟨[.bool false], ⟨rfl, trivial⟩, ⟨bB (Iso.areB_out (i := i) (by omega) (by omega)).symm, hs.upd⟩⟩
  ·
   replace g2 : ¬ (¬ (0 ≤ (z.getD i 0) ∧ (z.getD i 0) ≤ 51)) := g2
   have htw : ((m : Int) / 2 ^ (z.getD i 0).toNat % 2 = 1) → (z.getD i 0) ∈ z.take i := (Iso.mask_bit hm (by omega)).1
   refine mvI rfl rfl rfl ?_
   refine mvI rfl rfl rfl ?_
   refine shrU rfl rfl rfl rfl (by omega) ?_
   refine andU rfl rfl rfl rfl (Iso.mask_div hm) ?_
   refine eql rfl rfl rfl rfl ?_
   refine pickB rfl rfl rfl rfl ?_
   refine rNil ?_
   refine qSeq rfl ?_
   refine hIfD rfl (fun c3 => ?_) (fun c3 => ?_)
   ·
    replace c3 : ((((m : Int) / 2 ^ (z.getD i 0).toNat)) % 2) = 1 := c3
    refine hSeq ?_
    refine hReg (sq 0 sz) (by kernel_rfl) ?_
    refine asB rfl rfl rfl ?_
    refine rNil ?_
    refine qSeq rfl ?_
    refine hRet ?_
    exact fun w hs => ⟨[.bool false], ⟨rfl, trivial⟩, ⟨bB (Iso.areB_twice (i := i) (by omega) (htw c3)).symm, hs.upd⟩⟩
   ·
    replace c3 : ¬ (((((m : Int) / 2 ^ (z.getD i 0).toNat)) % 2) = 1) := c3
    refine hSkip ?_
    refine qSeq rfl ?_
    refine hReg (sq 0 (sq 1 (sq 2 (sq 3 (sq 4 sz))))) (by kernel_rfl) ?_
    refine mvI rfl rfl rfl ?_
    refine mvI rfl rfl rfl ?_
    refine shlU rfl rfl rfl rfl (by omega) ?_
    refine orU (x := m) (y := (2 ^ (z.getD i 0).toNat)) rfl rfl rfl rfl (⟨Iso.mask_lt hm, Nat.lt_trans (Iso.pow_lt (by omega)) (by decide)⟩) ?_
    refine asI rfl rfl rfl ?_
    refine rNil ?_
    refine qSeq rfl ?_
    refine hReg (sq 0 (sq 1 sz)) (by kernel_rfl) ?_
    refine add rfl rfl rfl rfl (by omega) ?_
    refine mvI rfl rfl rfl ?_
    refine rNil ?_
    exact qNext rfl ((i + 1, m ||| 2 ^ (z.getD i 0).toNat)) (by dsimp only; omega) ⟨by dsimp only; omega, Iso.areP_next (by omega) ha (by omega) (fun h => c3 ((Iso.mask_bit hm (by omega)).2 h)), by dsimp only; rw [Iso.take_snoc (by omega)]; exact Iso.mask_step hm (by omega)⟩ ⟨rfl, rfl, rfl, rfl, trivial⟩ (fun _ h => h.pick [])
 ·
  replace c1 : ¬ ((i : Int) < (nz : Int)) := c1
  refine hExit rfl ?_
  refine qSeq rfl ?_
  refine hSeq ?_
  refine hReg (sq 0 sz) (by kernel_rfl) ?_
  refine asB rfl rfl rfl ?_
  refine rNil ?_
  refine qSeq rfl ?_
  refine hRet ?_
  exact fun w hs => ⟨[.bool true], ⟨rfl, trivial⟩, ⟨bB (Iso.areB_end (i := i) (by omega) ha).symm, hs.upd⟩⟩
theorem spec_AreCards_c (az : Option Addr) (nz : Nat) (cz : Nat) (z : List Int) (w : World) (rz : RdI az nz z w) :
  Calls Try.prog 94 #[.slice az nz cz] w (Ret fun v w' => v = .bool (Iso.areB z) ∧ Ext w w') := by
 have kz : Kn w none_ [] (RdI az nz z) := fun w' hs => rz.ext hs.upd
 have lz : z.length = nz := rz.1
 have mz : nz ≤ 9223372036854775807 := rz.2.1
 refine fn (M := none_) (rs := [.tmp 2]) Try.func94 rfl Try.ntmps94 rfl rfl (Sep.start _ _) ?_
 refine hSeq ?_
 refine hReg (sq 0 sz) (by kernel_rfl) ?_
 refine asB rfl rfl rfl ?_
 refine rNil ?_
 refine qSeq rfl ?_
 refine hSeq ?_
 refine hReg (sl 0 (sq 1 sz)) (by kernel_rfl) ?_
 refine mksR (e1 := 2) 52 false boK.ok rfl rfl mk137 trv1 rfl rfl rfl rfl (rfl) (by omega) (fun bkm1 hbkm1 => ?_)
 refine asS rfl rfl rfl ?_
 refine rNil ?_
 refine qSeq rfl ?_
 refine hSeq ?_
 refine hSeq ?_
 refine hReg (sq 0 sz) (by kernel_rfl) ?_
 refine asI rfl rfl rfl ?_
 refine rNil ?_
 refine qSeq rfl ?_
 refine hBlk ?_
 rw [show List.replicate 52 false = Iso.seenB (z.take 0) from Iso.seenB_nil.symm]
 refine hLoop (α := Nat) (fun i => i ≤ nz ∧ Iso.areP (z.take i)) (fun i => nz - i) (fun i => [OwnR boK 4 2 (some ⟨bkm1, 0, none⟩) 52 52 ((fun _ => (none, 0))) ((Iso.seenB (z.take i)))]) (fun i => [(0, .slice az nz cz), (3, .slice (some ⟨bkm1, 0, none⟩) 52 52), (4, .int .i64 (i : Int))]) 0 ⟨Nat.zero_le _, Iso.areP_nil⟩ (fun _ h => h.pick [0]) ⟨rfl, rfl, rfl, trivial⟩ ?_
 rintro i τ1 ⟨hi, ha⟩
 refine hSeq ?_
 refine hSeq ?_
 refine hReg (sq 0 (sq 1 (sq 2 (sq 3 sz)))) (by kernel_rfl) ?_
 refine mvI rfl rfl rfl ?_
 refine mvS rfl rfl rfl ?_
 refine lenS Try.runUnderlying23 rfl rfl rfl ?_
 refine lss rfl rfl rfl rfl ?_
 refine rNil ?_
 refine qSeq rfl ?_
 refine hIfD rfl (fun c1 => ?_) (fun c1 => ?_)
 ·
  replace c1 : (i : Int) < (nz : Int) := c1
  refine hSkip ?_
  refine qSeq rfl ?_
  refine hSeq ?_
  refine hBlk ?_
  refine hSeq ?_
  refine hSeq ?_
  refine hReg (sq 0 (sq 1 (sq 2 (sl 3 (sl 4 (sq 5 (sq 6 (sq 7 (sq 8 (sq 9 (sq 10 (sl 11 (sq 12 (sl 13 (sq 14 sz))))))))))))))) (by kernel_rfl) ?_
  refine mvS rfl rfl rfl ?_
  refine mvI rfl rfl rfl ?_
  refine ixIl (zn := i) el23 (Kn.drop (k := 1) kz) rfl rfl rfl rfl (by omega) (by omega) rfl ?_
  intro ae1 e1
  refine ldl Try.isAgg2 (e1) trv rfl rfl rfl ?_
  refine callP (v := .bool (decide (0 ≤ (z.getD i 0) ∧ (z.getD i 0) ≤ 51))) Try.call102 trv rfl rfl (fun w hs => spec_l02Card_c _ w ) ?_
  refine notD rfl rfl rfl ?_
  refine mvB rfl rfl rfl ?_
  refine rBoolD (d := 18) rfl (fun g2 => ?_) (fun g2 => ?_)
  ·
   replace g2 : ¬ (0 ≤ (z.getD i 0) ∧ (z.getD i 0) ≤ 51) := g2
   refine rSkipQ rfl rfl ?_
   refine rSkipQ rfl rfl ?_
   refine rSkipQ rfl rfl ?_
   refine rSkipQ rfl rfl ?_
   refine rSkipL trv rfl rfl ?_
   refine rSkipQ rfl rfl ?_
   refine rSkipL trv rfl rfl ?_
   refine pickB rfl rfl rfl rfl ?_
   refine rNil ?_
   refine qSeq rfl ?_
   refine hIfT rfl ?_
   refine hSeq ?_
   refine hReg (sq 0 sz) (by kernel_rfl) ?_
   refine asB rfl rfl rfl ?_
   refine rNil ?_
   refine qSeq rfl ?_
   refine hRet ?_
   exact fun w hs => ⟨[.bool false], ⟨rfl, trivial⟩, ⟨bB (Iso.areB_out (i := i) (by omega) (by omega)).symm, hs.upd⟩⟩
  ·
   replace g2 : ¬ (¬ (0 ≤ (z.getD i 0) ∧ (z.getD i 0) ≤ 51)) := g2
   have htw : (Iso.seenB (z.take i)).getD (z.getD i 0).toNat false = true → (z.getD i 0) ∈ z.take i := fun h => by rw [Iso.seenB_get (by omega)] at h; exact of_decide_eq_true h
   have hsn : (z.getD i 0) ∈ z.take i → (Iso.seenB (z.take i)).getD (z.getD i 0).toNat false = true := fun h => by rw [Iso.seenB_get (by omega)]; exact decide_eq_true h
   refine mvS rfl rfl rfl ?_
   refine mvS rfl rfl rfl ?_
   refine mvI rfl rfl rfl ?_
   refine ixIl (zn := i) el23 (Kn.drop (k := 1) kz) rfl rfl rfl rfl (by omega) (by omega) rfl ?_
   intro ae2 e2
   refine ldl Try.isAgg2 (e2) trv rfl rfl rfl ?_
   refine ixRl (zn := ((z.getD i 0)).toNat) (((Iso.seenB (z.take i))).getD (((z.getD i 0)).toNat) false) el137 ((Kn.at_ 0 rfl).imp fun _ h => OwnR.rd h boK.ok) rfl rfl rfl rfl (by omega) (by omega) rfl (nth false (by rw [Iso.seenB_len]; omega)) ?_
   intro be3 oe3 e3
   refine ldl Try.isAgg4 (Kn.fld e3 0 rfl) trv rfl rfl rfl ?_
   refine pickB rfl rfl rfl rfl ?_
   refine rNil ?_
   refine qSeq rfl ?_
   refine hIf rfl (fun c3 => ?_) (fun c3 => ?_)
   ·
    replace c3 : (((Iso.seenB (z.take i))).getD (((z.getD i 0)).toNat) false) = true := c3
    refine hSeq ?_
    refine hReg (sq 0 sz) (by kernel_rfl) ?_
    refine asB rfl rfl rfl ?_
    refine rNil ?_
    refine qSeq rfl ?_
    refine hRet ?_
    exact fun w hs => ⟨[.bool false], ⟨rfl, trivial⟩, ⟨bB (Iso.areB_twice (i := i) (by omega) (htw c3)).symm, hs.upd⟩⟩
   ·
    replace c3 : (((Iso.seenB (z.take i))).getD (((z.getD i 0)).toNat) false) = false := c3
    replace c3 : ¬ (Iso.seenB (z.take i)).getD (z.getD i 0).toNat false = true := by rw [c3]; exact Bool.false_ne_true
    refine hSkip ?_
    refine qSeq rfl ?_
    refine hReg (sq 0 (sq 1 (sq 2 (sq 3 (sl 4 (sq 5 (sl 6 sz))))))) (by kernel_rfl) ?_
    refine mvS rfl rfl rfl ?_
    refine mvS rfl rfl rfl ?_
    refine mvI rfl rfl rfl ?_
    refine ixIl (zn := i) el23 (Kn.drop (k := 1) kz) rfl rfl rfl rfl (by omega) (by omega) rfl ?_
    intro ae4 e4
    refine ldl Try.isAgg2 (e4) trv rfl rfl rfl ?_
    refine oxR (zn := ((z.getD i 0)).toNat) 0 rfl el137 rfl rfl rfl rfl (by omega) (by omega) rfl ?_
    intro gk5 hgk5
    refine stRc (f := 0) (v := .bool true) (((Iso.seenB (z.take i))).getD (((z.getD i 0)).toNat) false) true (((z.getD i 0)).toNat) 0 boK.ok rfl hgk5 (nth false (by rw [Iso.seenB_len]; omega)) rfl rfl Try.sizeOf4 trv rfl rfl rfl rfl (by decide) rfl rfl ?_
    refine rNil ?_
    refine qSeq rfl ?_
    refine hReg (sq 0 (sq 1 (sq 2 sz))) (by kernel_rfl) ?_
    refine mvI rfl rfl rfl ?_
    refine add rfl rfl rfl rfl (by omega) ?_
    refine asI rfl rfl rfl ?_
    refine rNil ?_
    rw [Iso.seenB_set (by omega), ← Iso.take_snoc (by omega)]
    exact qNext rfl (i + 1) (by omega) ⟨by omega, Iso.areP_next (by omega) ha (by omega) (fun h => c3 (hsn h))⟩ ⟨rfl, rfl, rfl, trivial⟩ (fun _ h => h.pick [0])
 ·
  replace c1 : ¬ ((i : Int) < (nz : Int)) := c1
  refine hExit rfl ?_
  refine qSeq rfl ?_
  refine hSeq ?_
  refine hReg (sq 0 sz) (by kernel_rfl) ?_
  refine asB rfl rfl rfl ?_
  refine rNil ?_
  refine qSeq rfl ?_
  refine hRet ?_
  exact fun w hs => ⟨[.bool true], ⟨rfl, trivial⟩, ⟨bB (Iso.areB_end (i := i) (by omega) ha).symm, hs.upd⟩⟩
theorem impl_checkSets_1_c (az : Option Addr) (nz : Nat) (cz : Nat) (z : List Int) (w : World) (rz : RdI az nz z w) :
  Calls Try.prog 125 #[.slice az nz cz] w (Ret fun v w' => v = .bool ((!(Iso.areB z))) ∧ Ext w w') := by
 have kz : Kn w none_ [] (RdI az nz z) := fun w' hs => rz.ext hs.upd
 have lz : z.length = nz := rz.1
 have mz : nz ≤ 9223372036854775807 := rz.2.1
 refine fn (M := none_) (rs := [.tmp 2]) Try.func125 rfl Try.ntmps125 rfl rfl (Sep.start _ _) ?_
 refine hSeq ?_
 refine hReg (sq 0 sz) (by kernel_rfl) ?_
 refine asB rfl rfl rfl ?_
 refine rNil ?_
 refine qSeq rfl ?_
 refine hSeq ?_
 refine hReg (sq 0 (sl 1 (sq 2 (sq 3 sz)))) (by kernel_rfl) ?_
 refine mvS rfl rfl rfl ?_
 refine callP (v := .bool (Iso.areB z)) Try.call72 trv rfl rfl (fun w hs => impl_AreCards_c _ _ _ _ w (kz w hs)) ?_
 refine not rfl rfl rfl ?_
 refine asB rfl rfl rfl ?_
 refine rNil ?_
 refine qSeq rfl ?_
 refine hRet ?_
 exact fun w hs => ⟨[.bool ((!(Iso.areB z)))], ⟨rfl, trivial⟩, ⟨by first | rfl | exact bD (by omega) | exact bT (by omega) | exact bF (by omega) | exact vI (by omega), hs.upd⟩⟩
theorem slices_IndexFunc_int64_int64_c (az : Option Addr) (nz : Nat) (cz : Nat) (Hz : Nat → Hd) (z : List (List Int)) (w : World) (rz : RdR maK az nz Hz z w) :
  Calls Try.prog 150 #[.slice az nz cz, .func (.func 125) #[] #[]] w (Ret fun v w' => v = .int .i64 (Iso.badAt z) ∧ Ext w w') := by
 have kz : Kn w none_ [] (RdR maK az nz Hz z) := fun w' hs => rz.ext hs.upd
 have lz : z.length = nz := rz.1
 have mz : nz ≤ 9223372036854775807 := rz.2.1
 refine fn (M := none_) (rs := [.tmp 4]) Try.func150 rfl Try.ntmps150 rfl rfl (Sep.start _ _) ?_
 refine hSeq ?_
 refine hReg (sq 0 sz) (by kernel_rfl) ?_
 refine asI rfl rfl rfl ?_
 refine rNil ?_
 refine qSeq rfl ?_
 refine hSeq ?_
 refine hSeq ?_
 refine hReg (sq 0 (sq 1 (sq 2 sz))) (by kernel_rfl) ?_
 refine mvS rfl rfl rfl ?_
 refine lenS Try.runUnderlying22 rfl rfl rfl ?_
 refine mvI rfl rfl rfl ?_
 refine rNil ?_
 refine qSeq rfl ?_
 refine hBlk ?_
 refine hLoop (α := Nat) (fun i => i ≤ nz ∧ (z.take i).all Iso.areB = true) (fun i => nz - i) (fun i => []) (fun i => [(0, .slice az nz cz), (1, .func (.func 125) #[] #[]), (7, .int .i64 (nz : Int)), (8, .int .i64 (i : Int))]) 0 ⟨Nat.zero_le _, rfl⟩ (fun _ h => h.pick []) ⟨rfl, rfl, rfl, rfl, trivial⟩ ?_
 rintro i τ1 ⟨hi, hal⟩
 refine hSeq ?_
 refine hReg (sq 0 sz) (by kernel_rfl) ?_
 refine lss rfl rfl rfl rfl ?_
 refine rNil ?_
 refine qSeq rfl ?_
 refine hSeq ?_
 refine hIfD rfl (fun c1 => ?_) (fun c1 => ?_)
 ·
  replace c1 : (i : Int) < (nz : Int) := c1
  refine hSkip ?_
  refine qSeq rfl ?_
  refine hSeq ?_
  refine hBlk ?_
  refine hSeq ?_
  refine hReg (sq 0 (sq 1 sz)) (by kernel_rfl) ?_
  refine mvI rfl rfl rfl ?_
  refine asI rfl rfl rfl ?_
  refine rNil ?_
  refine qSeq rfl ?_
  refine hSeq ?_
  refine hReg (sq 0 (sq 1 (sq 2 (sq 3 (sl 4 (sl 5 sz)))))) (by kernel_rfl) ?_
  refine mv rfl rfl rfl ?_
  refine mvS rfl rfl rfl ?_
  refine mvI rfl rfl rfl ?_
  refine ixRl (zn := i) (z.getD i []) el22 (kz) rfl rfl rfl rfl (by omega) (by omega) rfl (nth [] (by omega)) ?_
  intro be1 oe1 e1
  refine ldl Try.isAgg23 (Kn.fld e1 0 rfl) trv rfl rfl rfl ?_
  refine callF (v := .bool ((!(Iso.areB (z.getD i []))))) Try.call125 trv rfl rfl rfl (fun w hs => impl_checkSets_1_c _ _ _ _ w ((Kn.imp kz fun _ h => h.kidM (nth [] (by omega))) w hs)) ?_
  refine rNil ?_
  refine qSeq rfl ?_
  refine hIf rfl (fun c2 => ?_) (fun c2 => ?_)
  ·
   replace c2 : (!(Iso.areB (z.getD i []))) = true := c2
   refine hSeq ?_
   refine hReg (sq 0 (sq 1 sz)) (by kernel_rfl) ?_
   refine mvI rfl rfl rfl ?_
   refine asI rfl rfl rfl ?_
   refine rNil ?_
   refine qSeq rfl ?_
   refine hRet ?_
   exact fun w hs => ⟨[.int .i64 (i : Int)], ⟨rfl, trivial⟩, ⟨vI (Iso.badAt_here (i := i) (by omega) hal (by simpa using c2)).symm, hs.upd⟩⟩
  ·
   replace c2 : (!(Iso.areB (z.getD i []))) = false := c2
   refine hSkip ?_
   refine qSeq rfl ?_
   refine hReg (sq 0 (sq 1 sz)) (by kernel_rfl) ?_
   refine add rfl rfl rfl rfl (by omega) ?_
   refine mvI rfl rfl rfl ?_
   refine rNil ?_
   exact qNext rfl (i + 1) (by omega) ⟨by omega, by rw [Iso.all_snoc [] (by omega), hal]; simpa using c2⟩ ⟨rfl, rfl, rfl, rfl, trivial⟩ (fun _ h => h.pick [])
 ·
  replace c1 : ¬ ((i : Int) < (nz : Int)) := c1
  refine hExit rfl ?_
  refine qSeq rfl ?_
  refine hSeq ?_
  refine hReg (sq 0 sz) (by kernel_rfl) ?_
  refine asI rfl rfl rfl ?_
  refine rNil ?_
  refine qSeq rfl ?_
  refine hRet ?_
  exact fun w hs => ⟨[.int .i64 (-1)], ⟨rfl, trivial⟩, ⟨vI (Iso.badAt_end (Iso.all_end (by omega) hal)).symm, hs.upd⟩⟩
theorem slices_ContainsFunc_int64_int64_c (az : Option Addr) (nz : Nat) (cz : Nat) (Hz : Nat → Hd) (z : List (List Int)) (w : World) (rz : RdR maK az nz Hz z w) :
  Calls Try.prog 124 #[.slice az nz cz, .func (.func 125) #[] #[]] w (Ret fun v w' => v = .bool ((!(z.all Iso.areB))) ∧ Ext w w') := by
 have kz : Kn w none_ [] (RdR maK az nz Hz z) := fun w' hs => rz.ext hs.upd
 have lz : z.length = nz := rz.1
 have mz : nz ≤ 9223372036854775807 := rz.2.1
 refine fn (M := none_) (rs := [.tmp 4]) Try.func124 rfl Try.ntmps124 rfl rfl (Sep.start _ _) ?_
 refine hSeq ?_
 refine hReg (sq 0 sz) (by kernel_rfl) ?_
 refine asB rfl rfl rfl ?_
 refine rNil ?_
 refine qSeq rfl ?_
 refine hSeq ?_
 refine hReg (sq 0 (sq 1 (sl 2 (sq 3 (sq 4 sz))))) (by kernel_rfl) ?_
 refine mvS rfl rfl rfl ?_
 refine mv rfl rfl rfl ?_
 refine callP (v := .int .i64 (Iso.badAt z)) Try.call150 trv rfl rfl (fun w hs => slices_IndexFunc_int64_int64_c _ _ _ _ _ w (kz w hs)) ?_
 refine geq rfl rfl rfl rfl ?_
 refine asB rfl rfl rfl ?_
 refine rNil ?_
 refine qSeq rfl ?_
 refine hRet ?_
 exact fun w hs => ⟨[.bool (decide (0 ≤ (Iso.badAt z)))], ⟨rfl, trivial⟩, ⟨bB (Iso.badAt_neg z), hs.upd⟩⟩
theorem impl_checkSets_c (az : Option Addr) (nz : Nat) (cz : Nat) (Hz : Nat → Hd) (z : List (List Int)) (w : World) (rz : RdR maK az nz Hz z w) :
  Calls Try.prog 80 #[.slice az nz cz] w (Ret fun v w' => v = .int .i64 (Iso.codeS z) ∧ Ext w w') := by
 have kz : Kn w none_ [] (RdR maK az nz Hz z) := fun w' hs => rz.ext hs.upd
 have lz : z.length = nz := rz.1
 have mz : nz ≤ 9223372036854775807 := rz.2.1
 refine fn (M := none_) (rs := [.tmp 2]) Try.func80 rfl Try.ntmps80 rfl rfl (Sep.start _ _) ?_
 refine hSeq ?_
 refine hReg (sq 0 sz) (by kernel_rfl) ?_
 refine asI rfl rfl rfl ?_
 refine rNil ?_
 refine qSeq rfl ?_
 refine hSeq ?_
 refine hBlk ?_
 refine hSeq ?_
 refine hReg (sq 0 (sq 1 (sq 2 (sq 3 sz)))) (by kernel_rfl) ?_
 refine mvS rfl rfl rfl ?_
 refine lenS Try.runUnderlying22 rfl rfl rfl ?_
 refine gtr rfl rfl rfl rfl ?_
 refine asB rfl rfl rfl ?_
 refine rNil ?_
 refine qSeq rfl ?_
 refine hIfD rfl (fun c1 => ?_) (fun c1 => ?_)
 ·
  replace c1 : 6 < (nz : Int) := c1
  refine hSeq ?_
  refine hReg (sq 0 sz) (by kernel_rfl) ?_
  refine asI rfl rfl rfl ?_
  refine rNil ?_
  refine qSeq rfl ?_
  refine hRet ?_
  exact fun w hs => ⟨[.int .i64 3], ⟨rfl, trivial⟩, ⟨vI (Iso.code_lim (by omega)).symm, hs.upd⟩⟩
 ·
  replace c1 : ¬ (6 < (nz : Int)) := c1
  refine hSeq ?_
  refine hReg (sq 0 (sl 1 (sq 2 sz))) (by kernel_rfl) ?_
  refine mvS rfl rfl rfl ?_
  refine callP (v := .bool ((!(z.all Iso.areB)))) Try.call124 trv rfl rfl (fun w hs => slices_ContainsFunc_int64_int64_c _ _ _ _ _ w (kz w hs)) ?_
  refine asB rfl rfl rfl ?_
  refine rNil ?_
  refine qSeq rfl ?_
  refine hIf rfl (fun c2 => ?_) (fun c2 => ?_)
  ·
   replace c2 : (!(z.all Iso.areB)) = true := c2
   refine hSeq ?_
   refine hReg (sq 0 sz) (by kernel_rfl) ?_
   refine asI rfl rfl rfl ?_
   refine rNil ?_
   refine qSeq rfl ?_
   refine hRet ?_
   exact fun w hs => ⟨[.int .i64 1], ⟨rfl, trivial⟩, ⟨vI (Iso.code_bad (by omega) (by first | exact Iso.all_not [] (i := i) (by omega) (by simpa using c3) | simpa using c2)).symm, hs.upd⟩⟩
  ·
   replace c2 : (!(z.all Iso.areB)) = false := c2
   refine hSkip ?_
   refine qSeq rfl ?_
   refine hSeq ?_
   refine hReg (sq 0 sz) (by kernel_rfl) ?_
   refine asI rfl rfl rfl ?_
   refine rNil ?_
   refine qSeq rfl ?_
   refine hRet ?_
   exact fun w hs => ⟨[.int .i64 0], ⟨rfl, trivial⟩, ⟨vI (Iso.code_yes (by omega) (by first | exact Iso.all_end (i := i) (by omega) hal | simpa using c2)).symm, hs.upd⟩⟩
theorem spec_l18Code_c (az : Option Addr) (nz : Nat) (cz : Nat) (Hz : Nat → Hd) (z : List (List Int)) (w : World) (rz : RdR maK az nz Hz z w) :
  Calls Try.prog 77 #[.slice az nz cz] w (Ret fun v w' => v = .int .i64 (Iso.codeS z) ∧ Ext w w') := by
 have kz : Kn w none_ [] (RdR maK az nz Hz z) := fun w' hs => rz.ext hs.upd
 have lz : z.length = nz := rz.1
 have mz : nz ≤ 9223372036854775807 := rz.2.1
 refine fn (M := none_) (rs := [.tmp 2]) Try.func77 rfl Try.ntmps77 rfl rfl (Sep.start _ _) ?_
 refine hSeq ?_
 refine hReg (sq 0 sz) (by kernel_rfl) ?_
 refine asI rfl rfl rfl ?_
 refine rNil ?_
 refine qSeq rfl ?_
 refine hSeq ?_
 refine hSeq ?_
 refine hReg (sq 0 (sq 1 (sq 2 sz))) (by kernel_rfl) ?_
 refine mvS rfl rfl rfl ?_
 refine lenS Try.runUnderlying22 rfl rfl rfl ?_
 refine gtr rfl rfl rfl rfl ?_
 refine rNil ?_
 refine qSeq rfl ?_
 refine hIfD rfl (fun c1 => ?_) (fun c1 => ?_)
 ·
  replace c1 : 6 < (nz : Int) := c1
  refine hSeq ?_
  refine hReg (sq 0 sz) (by kernel_rfl) ?_
  refine asI rfl rfl rfl ?_
  refine rNil ?_
  refine qSeq rfl ?_
  refine hRet ?_
  exact fun w hs => ⟨[.int .i64 3], ⟨rfl, trivial⟩, ⟨vI (Iso.code_lim (by omega)).symm, hs.upd⟩⟩
 ·
  replace c1 : ¬ (6 < (nz : Int)) := c1
  refine hSkip ?_
  refine qSeq rfl ?_
  refine hSeq ?_
  refine hSeq ?_
  refine hReg (sq 0 sz) (by kernel_rfl) ?_
  refine asI rfl rfl rfl ?_
  refine rNil ?_
  refine qSeq rfl ?_
  refine hBlk ?_
  refine hLoop (α := Nat) (fun i => i ≤ nz ∧ (z.take i).all Iso.areB = true) (fun i => nz - i) (fun i => []) (fun i => [(0, .slice az nz cz), (3, .int .i64 (i : Int))]) 0 ⟨Nat.zero_le _, rfl⟩ (fun _ h => h.pick []) ⟨rfl, rfl, trivial⟩ ?_
  rintro i τ1 ⟨hi, hal⟩
  refine hSeq ?_
  refine hSeq ?_
  refine hReg (sq 0 (sq 1 (sq 2 (sq 3 sz)))) (by kernel_rfl) ?_
  refine mvI rfl rfl rfl ?_
  refine mvS rfl rfl rfl ?_
  refine lenS Try.runUnderlying22 rfl rfl rfl ?_
  refine lss rfl rfl rfl rfl ?_
  refine rNil ?_
  refine qSeq rfl ?_
  refine hIfD rfl (fun c2 => ?_) (fun c2 => ?_)
  ·
   replace c2 : (i : Int) < (nz : Int) := c2
   refine hSkip ?_
   refine qSeq rfl ?_
   refine hSeq ?_
   refine hBlk ?_
   refine hSeq ?_
   refine hReg (sq 0 (sq 1 (sq 2 (sl 3 (sl 4 (sq 5 sz)))))) (by kernel_rfl) ?_
   refine mvS rfl rfl rfl ?_
   refine mvI rfl rfl rfl ?_
   refine ixRl (zn := i) (z.getD i []) el22 (kz) rfl rfl rfl rfl (by omega) (by omega) rfl (nth [] (by omega)) ?_
   intro be1 oe1 e1
   refine ldl Try.isAgg23 (Kn.fld e1 0 rfl) trv rfl rfl rfl ?_
   refine callP (v := .bool ((Iso.areB (z.getD i [])))) Try.call94 trv rfl rfl (fun w hs => spec_AreCards_c _ _ _ _ w ((Kn.imp kz fun _ h => h.kidM (nth [] (by omega))) w hs)) ?_
   refine not rfl rfl rfl ?_
   refine rNil ?_
   refine qSeq rfl ?_
   refine hIfN rfl (fun c3 => ?_) (fun c3 => ?_)
   ·
    replace c3 : (Iso.areB (z.getD i [])) = false := c3
    refine hSeq ?_
    refine hReg (sq 0 sz) (by kernel_rfl) ?_
    refine asI rfl rfl rfl ?_
    refine rNil ?_
    refine qSeq rfl ?_
    refine hRet ?_
    exact fun w hs => ⟨[.int .i64 1], ⟨rfl, trivial⟩, ⟨vI (Iso.code_bad (by omega) (by first | exact Iso.all_not [] (i := i) (by omega) (by simpa using c3) | simpa using c2)).symm, hs.upd⟩⟩
   ·
    replace c3 : (Iso.areB (z.getD i [])) = true := c3
    refine hSkip ?_
    refine qSeq rfl ?_
    refine hReg (sq 0 (sq 1 (sq 2 sz))) (by kernel_rfl) ?_
    refine mvI rfl rfl rfl ?_
    refine add rfl rfl rfl rfl (by omega) ?_
    refine asI rfl rfl rfl ?_
    refine rNil ?_
    exact qNext rfl (i + 1) (by omega) ⟨by omega, by rw [Iso.all_snoc [] (by omega), hal]; simpa using c3⟩ ⟨rfl, rfl, trivial⟩ (fun _ h => h.pick [])
  ·
   replace c2 : ¬ ((i : Int) < (nz : Int)) := c2
   refine hExit rfl ?_
   refine qSeq rfl ?_
   refine hSeq ?_
   refine hReg (sq 0 sz) (by kernel_rfl) ?_
   refine asI rfl rfl rfl ?_
   refine rNil ?_
   refine qSeq rfl ?_
   refine hRet ?_
   exact fun w hs => ⟨[.int .i64 0], ⟨rfl, trivial⟩, ⟨vI (Iso.code_yes (by omega) (by first | exact Iso.all_end (i := i) (by omega) hal | simpa using c2)).symm, hs.upd⟩⟩
end Go.Proofs.Yteaahdakammffaa
