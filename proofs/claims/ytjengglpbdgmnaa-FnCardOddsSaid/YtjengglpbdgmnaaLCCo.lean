/- Contracts of copies of trees. Their conditions stand in each. -/
import Derived.Test.YtjengglpbdgmnaaEngCCo
import Derived.Test.YtjengglpbdgmnaaTreeCo
import Derived.Test.YtjengglpbdgmnaaGameCo
import Derived.Test.YtjengglpbdgmnaaSetsCo
import Derived.Test.YtjengglpbdgmnaaHighCo
import Derived.Test.YtjengglpbdgmnaaDrawCo
import Derived.Test.YtjengglpbdgmnaaL1Co
import Derived.Test.YtjengglpbdgmnaaL2Co
import Derived.Test.YtjengglpbdgmnaaL3Co
import Derived.Test.YtjengglpbdgmnaaRows
namespace Go.Proofs.Ytjengglpbdgmnaa
open Go Go.RowKit V
set_option linter.unusedVariables false
set_option linter.unusedSimpArgs false
set_option maxRecDepth 100000
theorem fl43_1 : Fld Try.prog 43 1 1 := by
 intro w ad; simp [Instr.fieldAt, Try.runUnderlying43, Instr.sureAddr, fieldPlace, Try.sizeOf41]
theorem fl43_2 : Fld Try.prog 43 2 2 := by
 intro w ad; simp [Instr.fieldAt, Try.runUnderlying43, Instr.sureAddr, fieldPlace, Try.sizeOf41]
theorem mk24 : Mk Try.prog 24 88 5 56 [.int .i64 0, .int .i64 0, .int .i64 0, .int .i64 0, .slice none 0 0] := ⟨Try.underlying24, Try.t88, _, by kernel_rfl, rfl, rfl, rfl, rfl, rfl, by decide, by decide⟩
theorem mk41 : Mk Try.prog 41 28 1 24 [.slice none 0 0] := ⟨Try.underlying41, Try.t28, _, by kernel_rfl, rfl, rfl, rfl, rfl, rfl, by decide, by decide⟩
theorem bsl24_0   : ∀ w, (Instr.buildSlice 24 0 ([] : List (Nat × Value)).toArray).run Try.prog w = .ok (.slice (some ⟨w.heap.size, 0, none⟩) 0 0) (w.alloc (.cells ([] : List Value).toArray 88)) := by
 intro w; simp [Instr.buildSlice, Instr.fill, Try.zeroValue88, Try.runUnderlying24, Try.sizeOf88, aggCells, newRow, show Array.range 0 = #[] from by decide]
theorem bsl24_1 (v0 v1 v2 v3 v4 : Value) (h0 : v0.cells = #[v0]) (h1 : v1.cells = #[v1]) (h2 : v2.cells = #[v2]) (h3 : v3.cells = #[v3]) (h4 : v4.cells = #[v4]) : ∀ w, (Instr.buildSlice 24 1 ([(0, .agg #[v0, v1, v2, v3, v4])] : List (Nat × Value)).toArray).run Try.prog w = .ok (.slice (some ⟨w.heap.size, 0, none⟩) 1 1) (w.alloc (.cells ([v0, v1, v2, v3, v4] : List Value).toArray 88)) := by
 intro w; simp [Instr.buildSlice, Instr.fill, Try.zeroValue88, Try.runUnderlying24, Try.sizeOf88, aggCells, newRow, show Array.range 5 = #[0, 1, 2, 3, 4] from by decide]
theorem bsl41_0   : ∀ w, (Instr.buildSlice 41 0 ([] : List (Nat × Value)).toArray).run Try.prog w = .ok (.slice (some ⟨w.heap.size, 0, none⟩) 0 0) (w.alloc (.cells ([] : List Value).toArray 28)) := by
 intro w; simp [Instr.buildSlice, Instr.fill, Try.zeroValue28, Try.runUnderlying41, Try.sizeOf28, Value.cells_int, newRow, show Array.range 0 = #[] from by decide]
theorem bsl41_1 (v0 : Value) (h0 : v0.cells = #[v0]) : ∀ w, (Instr.buildSlice 41 1 ([(0, v0)] : List (Nat × Value)).toArray).run Try.prog w = .ok (.slice (some ⟨w.heap.size, 0, none⟩) 1 1) (w.alloc (.cells ([v0] : List Value).toArray 28)) := by
 intro w; simp [Instr.buildSlice, Instr.fill, Try.zeroValue28, Try.runUnderlying41, Try.sizeOf28, Value.cells_int, newRow, show Array.range 1 = #[0] from by decide, h0]
theorem bld26_0 (v0 : Value) (h0 : v0.cells = #[v0]) : ∀ w, (Instr.build 26 ([(0, v0)] : List (Nat × Value)).toArray).run Try.prog w = .ok (.agg ([v0] : List Value).toArray) w := by
 intro w; simp [Instr.build, Instr.fill, Try.zeroValue26, Try.runUnderlying26, aggCells, Try.sizeOf24, h0]
theorem bld43_0 (v0_0 : Value) (h0_0 : v0_0.cells = #[v0_0]) : ∀ w, (Instr.build 43 ([(0, .agg #[v0_0])] : List (Nat × Value)).toArray).run Try.prog w = .ok (.agg ([v0_0, .slice none 0 0, .slice none 0 0] : List Value).toArray) w := by
 intro w; simp [Instr.build, Instr.fill, Try.zeroValue43, Try.runUnderlying43, aggCells, Try.sizeOf26, Try.sizeOf41]
theorem bld43_0_1_2 (v0_0 v1 v2 : Value) (h0_0 : v0_0.cells = #[v0_0]) (h1 : v1.cells = #[v1]) (h2 : v2.cells = #[v2]) : ∀ w, (Instr.build 43 ([(0, .agg #[v0_0]), (1, v1), (2, v2)] : List (Nat × Value)).toArray).run Try.prog w = .ok (.agg ([v0_0, v1, v2] : List Value).toArray) w := by
 intro w; simp [Instr.build, Instr.fill, Try.zeroValue43, Try.runUnderlying43, aggCells, Try.sizeOf26, Try.sizeOf41, h1, h2]
theorem slices_Clone_int64_int64_c (az : Option Addr) (nz : Nat) (cz : Nat) (z : List Int) (w : World) (rz : RdI az nz z w) (hl : nz ≤ 1000000) :
  Calls Try.prog 182 #[.slice az nz cz] w (Ret fun v w' => ∃ x : Option Addr × Nat × Nat × List Int, v = .slice x.1 x.2.1 x.2.2.1 ∧ (x.2.2.2 = z) ∧ Sep w none_ [OwnI 2 x.1 x.2.1 x.2.2.1 x.2.2.2] w') := by
 have kz : Kn w none_ [] (RdI az nz z) := fun w' hs => rz.ext hs.upd
 have lz : z.length = nz := rz.1
 have mz : nz ≤ 9223372036854775807 := rz.2.1
 refine fn (M := none_) (rs := [.tmp 2]) Try.func182 rfl Try.ntmps182 rfl rfl (Sep.start _ _) ?_
 refine hSeq ?_
 refine hReg (sq 0 sz) (by kernel_rfl) ?_
 refine asS rfl rfl rfl ?_
 refine rNil ?_
 refine qSeq rfl ?_
 refine hSeq ?_
 refine hSeq ?_
 refine hReg (sq 0 (sq 1 sz)) (by kernel_rfl) ?_
 refine mvS rfl rfl rfl ?_
 refine eqNil Try.underlying28 rfl rfl rfl rfl ?_
 refine rNil ?_
 refine qSeq rfl ?_
 refine hIf rfl (fun c1 => ?_) (fun c1 => ?_)
 ·
  replace c1 : az.isNone = true := c1
  have hz0 := RdI.none rz c1
  refine hSeq ?_
  refine hReg (sq 0 sz) (by kernel_rfl) ?_
  refine asS rfl rfl rfl ?_
  refine rNil ?_
  refine qSeq rfl ?_
  refine hRet ?_
  refine knP (fun _ h => Sep.nilI 2 h) ?_
  exact fun w hs => ⟨[.slice none 0 0], ⟨rfl, trivial⟩, ⟨(none, 0, 0, []), rfl, by first | exact hz0.symm | simp, hs.pick [0]⟩⟩
 ·
  replace c1 : az.isNone = false := c1
  refine hSkip ?_
  refine qSeq rfl ?_
  refine hSeq ?_
  refine hReg (sl 0 (sq 1 (sl 2 (sq 3 sz)))) (by kernel_rfl) ?_
  refine bsl trv1 rfl rfl rfl (bsl28_0) (fun bkl2 hbkl2 => ?_)
  refine mvS rfl rfl rfl ?_
  refine rPieces (fun _ h => Sep.litI h 0 [] rfl rfl rfl) ?_
  refine aplL (N := 0) (ys := z) 0 rfl (Kn.drop (k := 1) kz) mk28 trv1 rfl rfl rfl rfl (by omega) ?_
  intro aq1 cq1
  refine asS rfl rfl rfl ?_
  refine rNil ?_
  refine qSeq rfl ?_
  refine hRet ?_
  exact fun w hs => ⟨[.slice aq1 (0 + nz) cq1], ⟨rfl, trivial⟩, ⟨(aq1, (0 + nz), cq1, ([] ++ z)), rfl, by simp, hs.pick [0]⟩⟩
theorem spec_l01Own_c (az : Option Addr) (nz : Nat) (cz : Nat) (z : List Int) (w : World) (rz : RdI az nz z w) (hl : nz ≤ 1000000) :
  Calls Try.prog 160 #[.slice az nz cz] w (Ret fun v w' => ∃ x : Option Addr × Nat × Nat × List Int, v = .slice x.1 x.2.1 x.2.2.1 ∧ (x.2.2.2 = z) ∧ Sep w none_ [OwnI 2 x.1 x.2.1 x.2.2.1 x.2.2.2] w') := by
 have kz : Kn w none_ [] (RdI az nz z) := fun w' hs => rz.ext hs.upd
 have lz : z.length = nz := rz.1
 have mz : nz ≤ 9223372036854775807 := rz.2.1
 refine fn (M := none_) (rs := [.tmp 2]) Try.func160 rfl Try.ntmps160 rfl rfl (Sep.start _ _) ?_
 refine hSeq ?_
 refine hReg (sq 0 sz) (by kernel_rfl) ?_
 refine asS rfl rfl rfl ?_
 refine rNil ?_
 refine qSeq rfl ?_
 refine hSeq ?_
 refine hReg (sl 0 (sq 1 (sl 2 (sq 3 sz)))) (by kernel_rfl) ?_
 refine bsl trv1 rfl rfl rfl (bsl28_0) (fun bkl1 hbkl1 => ?_)
 refine mvS rfl rfl rfl ?_
 refine rPieces (fun _ h => Sep.litI h 0 [] rfl rfl rfl) ?_
 refine aplL (N := 0) (ys := z) 0 rfl (Kn.drop (k := 1) kz) mk28 trv1 rfl rfl rfl rfl (by omega) ?_
 intro aq1 cq1
 refine asS rfl rfl rfl ?_
 refine rNil ?_
 refine qSeq rfl ?_
 refine hRet ?_
 exact fun w hs => ⟨[.slice aq1 (0 + nz) cq1], ⟨rfl, trivial⟩, ⟨(aq1, (0 + nz), cq1, ([] ++ z)), rfl, by simp, hs.pick [0]⟩⟩
theorem impl_cloneTree_c (az : Option Addr) (nz : Nat) (cz : Nat) (Hz : Nat → Hd) (z : List Nd) (w : World) (rz : RdR ndK az nz Hz z w) (ht : Math.isTree z = true) :
  Calls Try.prog 157 #[.agg #[.slice az nz cz]] w (Ret fun v w' => ∃ x : Option Addr × Nat × Nat × (Nat → Hd) × List Nd, v = .agg #[.slice x.1 x.2.1 x.2.2.1] ∧ (x.2.2.2.2 = z) ∧ Sep w none_ [OwnR ndK 88 2 x.1 x.2.1 x.2.2.1 x.2.2.2.1 x.2.2.2.2] w') := by
 have kz : Kn w none_ [] (RdR ndK az nz Hz z) := fun w' hs => rz.ext hs.upd
 have lz : z.length = nz := rz.1
 have mz : nz ≤ 9223372036854775807 := rz.2.1
 have hT := Math.isTree_ok ht
 have hn := hT.1
 refine fn (M := none_) (rs := [.cell 2 26]) Try.func157 rfl Try.ntmps157 rfl rfl (Sep.start _ _) ?_
 refine hSeq ?_
 refine hReg (sl 0 (sl 1 sz)) (by kernel_rfl) ?_
 refine box trv1 rfl rfl rfl rfl (fun bkb1 hbkb1 => ?_)
 refine alc Try.zeroValue26 rfl trv1 rfl rfl (fun bka2 hbka2 => ?_)
 refine rNil ?_
 refine qSeq rfl ?_
 refine hSeq ?_
 refine hReg (sq 0 (sl 1 (sq 2 (sl 3 (sq 4 (sl 5 (sl 6 sz))))))) (by kernel_rfl) ?_
 refine fld fl26_0 rfl rfl rfl ?_
 refine ldl Try.isAgg24 (cB 1 rfl rfl) trv rfl rfl rfl ?_
 refine lenS Try.runUnderlying24 rfl rfl rfl ?_
 refine mksR (e1 := 2) nz dN ndK.ok rfl rfl mk24 trv1 rfl rfl rfl rfl (rfl) (by omega) (fun bkm3 hbkm3 => ?_)
 refine bld rfl rfl rfl (bld26_0 (.slice _ _ _) rfl) ?_
 refine alc Try.zeroValue26 rfl trv1 rfl rfl (fun bka4 hbka4 => ?_)
 refine stAl (vs := [.slice (some ⟨bkm3, 0, none⟩) nz nz]) 0 rfl Try.sizeOf26 trv rfl rfl rfl rfl rfl (by simp [Value.oneCell']) rfl ?_
 refine rNil ?_
 refine qSeq rfl ?_
 refine hSeq ?_
 refine hSeq ?_
 refine hReg (sq 0 (sl 1 (sq 2 (sq 3 sz)))) (by kernel_rfl) ?_
 refine fld fl26_0 rfl rfl rfl ?_
 refine ldl Try.isAgg24 (cB 3 rfl rfl) trv rfl rfl rfl ?_
 refine lenS Try.runUnderlying24 rfl rfl rfl ?_
 refine mvI rfl rfl rfl ?_
 refine rNil ?_
 refine qSeq rfl ?_
 refine hBlk ?_
 rw [Math.fill_start z nz dN]
 refine hLoop (α := Nat × (Nat → Hd)) (fun x => x.1 ≤ nz) (fun x => nz - x.1) (fun x => [blk bka4 26 [.slice (some ⟨bkm3, 0, none⟩) nz nz], OwnR ndK 88 2 (some ⟨bkm3, 0, none⟩) nz nz x.2 ((z.take x.1 ++ List.replicate (nz - x.1) dN)), blk bka2 26 [.slice none 0 0], blk bkb1 26 [.slice az nz cz]]) (fun x => [(2, .pointer (some ⟨bka2, 0, none⟩)), (3, .pointer (some ⟨bka4, 0, none⟩)), (12, .slice az nz cz), (13, .int .i64 (nz : Int)), (14, .int .i64 (x.1 : Int))]) ((0, fun _ => (none, 0))) (Nat.zero_le _) (fun _ h => h.pick [0, 0, 0, 0]) ⟨rfl, rfl, rfl, rfl, rfl, trivial⟩ ?_
 rintro ⟨i, hh⟩ τ1 hi
 dsimp only at hi
 refine hRe [(2, .pointer (some ⟨bka2, 0, none⟩)), (3, .pointer (some ⟨bka4, 0, none⟩)), (12, .slice az nz cz), (13, .int .i64 (nz : Int)), (14, .int .i64 (i : Int))] [blk bka4 26 [.slice (some ⟨bkm3, 0, none⟩) nz nz], OwnR ndK 88 2 (some ⟨bkm3, 0, none⟩) nz nz hh ((z.take i ++ List.replicate (nz - i) dN)), blk bka2 26 [.slice none 0 0], blk bkb1 26 [.slice az nz cz]] rfl rfl ?_
 refine hSeq ?_
 refine hReg (sq 0 sz) (by kernel_rfl) ?_
 refine lss rfl rfl rfl rfl ?_
 refine rNil ?_
 refine qSeq rfl ?_
 refine hSeq ?_
 refine hIfD rfl (fun c1 => ?_) (fun c1 => ?_)
 ·
  replace c1 : (i : Int) < (nz : Int) := c1
  have hch := (Math.ok_pl ((Math.allOk_iff' lz).1 hT.2.1 i (by omega))).2.2.2.2.1
  refine hSkip ?_
  refine qSeq rfl ?_
  refine hSeq ?_
  refine hBlk ?_
  refine hSeq ?_
  refine hReg (sq 0 (sq 1 (sl 2 (sl 3 (sq 4 (sl 5 sz)))))) (by kernel_rfl) ?_
  refine mvI rfl rfl rfl ?_
  refine ixRl (zn := i) (z.getD i dN) el24 (Kn.drop (k := 4) kz) rfl rfl rfl rfl (by omega) (by omega) rfl (nth dN (by omega)) ?_
  intro be1 oe1 e1
  refine ldAl Try.isAgg88 Try.sizeOf88 (e1) trv rfl rfl rfl rfl ?_
  refine alc Try.zeroValue88 rfl trv1 rfl rfl (fun bka5 hbka5 => ?_)
  refine asI rfl rfl rfl ?_
  refine stAl (vs := [.int .i64 ((z.getD i dN).pl), .int .i64 ((z.getD i dN).p0), .int .i64 ((z.getD i dN).p1), .int .i64 ((z.getD i dN).fo), .slice ((Hz i).1) (((z.getD i dN).ch).length) ((Hz i).2)]) 0 rfl Try.sizeOf88 trv rfl rfl rfl rfl rfl (by simp [Value.oneCell']) rfl ?_
  refine rNil ?_
  refine qSeq rfl ?_
  refine hSeq ?_
  refine hReg (sq 0 (sl 1 (sl 2 (sq 3 (sl 4 sz))))) (by kernel_rfl) ?_
  refine fld fl88_4 rfl rfl rfl ?_
  refine ldl Try.isAgg28 (cB 0 rfl rfl) trv rfl rfl rfl ?_
  refine callS Try.call182 trv1 rfl rfl (fun w hs => slices_Clone_int64_int64_c _ (((z.getD i dN).ch).length) ((Hz i).2) _ w (Kn.drop (k := 5) ((Kn.imp kz fun _ h => h.kidN (nth dN (by omega)))) w hs) (by omega)) ?_
  rintro ⟨ay2, ny2, cy2, y2⟩ hr2
  dsimp only at hr2
  subst y2
  refine rKnow (fun w hs => (show OwnI 2 ay2 ny2 cy2 (((((z.getD i dN).ch)))) w from hs.at_ 0 rfl).lenz) (fun lenn6 => ?_)
  refine fld fl88_4 rfl rfl rfl ?_
  refine stl (v := .slice _ _ _) 1 rfl Try.sizeOf28 trv rfl rfl rfl rfl rfl (Nat.le_of_ble_eq_true rfl) ?_
  refine rNil ?_
  refine qSeq rfl ?_
  refine hReg (sq 0 (sl 1 (sq 2 (sl 3 (sq 4 (sl 5 sz)))))) (by kernel_rfl) ?_
  refine fld fl26_0 rfl rfl rfl ?_
  refine ldl Try.isAgg24 (cB 2 rfl rfl) trv rfl rfl rfl ?_
  refine mvI rfl rfl rfl ?_
  refine ldAl Try.isAgg88 Try.sizeOf88 (cBs 1 rfl) trv rfl rfl rfl rfl ?_
  refine oxR (zn := i) 3 rfl el24 rfl rfl rfl rfl (by omega) (by omega) rfl ?_
  intro gk3 hgk3
  refine stR (hd := (ay2, cy2)) (x := (Nd.mk ((z.getD i dN).pl) ((z.getD i dN).p0) ((z.getD i dN).p1) ((z.getD i dN).fo) (((((z.getD i dN).ch)))))) (v := .agg #[.int .i64 ((z.getD i dN).pl), .int .i64 ((z.getD i dN).p0), .int .i64 ((z.getD i dN).p1), .int .i64 ((z.getD i dN).fo), .slice ay2 ny2 cy2]) i 3 0 ndK.ok rfl rfl hgk3 Try.sizeOf88 trv rfl rfl rfl rfl rfl (fun h => by first | rfl | (dsimp only at h; rw [h]; rfl) | (rw [h]; rfl) | exact congrArg (fun m => [Value.slice _ m _]) h | (simp only [maK, List.length_replicate]; rfl)) (by omega) ?_
  refine rNil ?_
  refine qSeq rfl ?_
  refine hReg (sq 0 (sq 1 sz)) (by kernel_rfl) ?_
  refine add rfl rfl rfl rfl (by omega) ?_
  refine mvI rfl rfl rfl ?_
  refine rNil ?_
  rw [Math.fill_step dN dN lz (by omega)]
  exact qNext rfl ((i + 1, (hset hh i (ay2, cy2)))) (by dsimp only; omega) (by dsimp only; omega) ⟨rfl, rfl, rfl, rfl, rfl, trivial⟩ (fun _ h => h.pick [2, 0, 1, 1])
 ·
  replace c1 : ¬ ((i : Int) < (nz : Int)) := c1
  refine hExit rfl ?_
  refine qSeq rfl ?_
  refine hSeq ?_
  refine hReg (sl 0 (sl 1 sz)) (by kernel_rfl) ?_
  refine ldAl Try.isAgg26 Try.sizeOf26 (cBs 0 rfl) trv rfl rfl rfl rfl ?_
  refine stAl (vs := [.slice (some ⟨bkm3, 0, none⟩) nz nz]) 2 rfl Try.sizeOf26 trv rfl rfl rfl rfl rfl (by simp [Value.oneCell']) rfl ?_
  refine rNil ?_
  refine qSeq rfl ?_
  refine hRet ?_
  exact fun w hs => ⟨[_], ⟨⟨_, rfl, run_load_agg Try.isAgg26 Try.sizeOf26 rfl (cBs 2 rfl w hs)⟩, trivial⟩, ⟨((some ⟨bkm3, 0, none⟩), nz, nz, hh, (z.take i ++ List.replicate (nz - i) dN)), rfl, Math.fill_end _ lz (by omega), hs.pick [1]⟩⟩
theorem spec_l21Tree_c (az : Option Addr) (nz : Nat) (cz : Nat) (Hz : Nat → Hd) (z : List Nd) (w : World) (rz : RdR ndK az nz Hz z w) (hn : nz ≤ 1000) (hkb : Math.kidsB z) :
  Calls Try.prog 171 #[.agg #[.slice az nz cz]] w (Ret fun v w' => ∃ x : Option Addr × Nat × Nat × (Nat → Hd) × List Nd, v = .agg #[.slice x.1 x.2.1 x.2.2.1] ∧ (x.2.2.2.2 = z) ∧ Sep w none_ [OwnR ndK 88 2 x.1 x.2.1 x.2.2.1 x.2.2.2.1 x.2.2.2.2] w') := by
 have kz : Kn w none_ [] (RdR ndK az nz Hz z) := fun w' hs => rz.ext hs.upd
 have lz : z.length = nz := rz.1
 have mz : nz ≤ 9223372036854775807 := rz.2.1
 refine fn (M := none_) (rs := [.cell 2 26]) Try.func171 rfl Try.ntmps171 rfl rfl (Sep.start _ _) ?_
 refine hSeq ?_
 refine hReg (sl 0 (sl 1 sz)) (by kernel_rfl) ?_
 refine box trv1 rfl rfl rfl rfl (fun bkb1 hbkb1 => ?_)
 refine alc Try.zeroValue26 rfl trv1 rfl rfl (fun bka2 hbka2 => ?_)
 refine rNil ?_
 refine qSeq rfl ?_
 refine hSeq ?_
 refine hReg (sl 0 (sq 1 sz)) (by kernel_rfl) ?_
 refine bsl trv1 rfl rfl rfl (bsl24_0) (fun bkl3 hbkl3 => ?_)
 refine asS rfl rfl rfl ?_
 refine rNil ?_
 refine qSeq rfl ?_
 refine hSeq ?_
 refine hSeq ?_
 refine hReg (sq 0 sz) (by kernel_rfl) ?_
 refine asI rfl rfl rfl ?_
 refine rNil ?_
 refine qSeq rfl ?_
 refine hBlk ?_
 refine hPieces (fun _ h => Sep.litR ndK 88 2 (fun _ => (none, 0)) h 0 rfl) ?_
 refine hLoop (α := Nat × Nat × Hd × (Nat → Hd)) (fun x => x.1 ≤ nz ∧ x.2.1 = x.1) (fun x => nz - x.1) (fun x => [OwnR ndK 88 2 x.2.2.1.1 x.2.1 x.2.2.1.2 x.2.2.2 (z.take x.1), blk bka2 26 [.slice none 0 0], blk bkb1 26 [.slice az nz cz]]) (fun x => [(1, .pointer (some ⟨bkb1, 0, none⟩)), (2, .pointer (some ⟨bka2, 0, none⟩)), (3, .slice x.2.2.1.1 x.2.1 x.2.2.1.2), (4, .int .i64 (x.1 : Int))]) ((0, 0, (((some ⟨bkl3, 0, none⟩), 0), (fun _ => (none, 0))))) ⟨Nat.zero_le _, rfl⟩ (fun _ h => h.pick [0, 0, 0]) ⟨rfl, rfl, rfl, rfl, trivial⟩ ?_
 rintro ⟨i, q, hd⟩ τ1 ⟨hi, hq⟩
 dsimp only at hi hq
 refine hRe [(1, .pointer (some ⟨bkb1, 0, none⟩)), (2, .pointer (some ⟨bka2, 0, none⟩)), (3, .slice hd.1.1 q hd.1.2), (4, .int .i64 (i : Int))] [OwnR ndK 88 2 hd.1.1 q hd.1.2 hd.2 (z.take i), blk bka2 26 [.slice none 0 0], blk bkb1 26 [.slice az nz cz]] rfl rfl ?_
 refine hSeq ?_
 refine hSeq ?_
 refine hReg (sq 0 (sq 1 (sl 2 (sq 3 (sq 4 sz))))) (by kernel_rfl) ?_
 refine mvI rfl rfl rfl ?_
 refine fld fl26_0 rfl rfl rfl ?_
 refine ldl Try.isAgg24 (cB 2 rfl rfl) trv rfl rfl rfl ?_
 refine lenS Try.runUnderlying24 rfl rfl rfl ?_
 refine lss rfl rfl rfl rfl ?_
 refine rNil ?_
 refine qSeq rfl ?_
 refine hIfD rfl (fun c1 => ?_) (fun c1 => ?_)
 ·
  replace c1 : (i : Int) < (nz : Int) := c1
  have hch := Math.kidsB_at hkb i
  refine hSkip ?_
  refine qSeq rfl ?_
  refine hSeq ?_
  refine hBlk ?_
  refine hSeq ?_
  refine hReg (sq 0 (sl 1 (sq 2 (sq 3 (sl 4 (sl 5 (sl 6 sz))))))) (by kernel_rfl) ?_
  refine fld fl26_0 rfl rfl rfl ?_
  refine ldl Try.isAgg24 (cB 2 rfl rfl) trv rfl rfl rfl ?_
  refine mvI rfl rfl rfl ?_
  refine ixRl (zn := i) (z.getD i dN) el24 (Kn.drop (k := 3) kz) rfl rfl rfl rfl (by omega) (by omega) rfl (nth dN (by omega)) ?_
  intro be1 oe1 e1
  refine ldAl Try.isAgg88 Try.sizeOf88 (e1) trv rfl rfl rfl rfl ?_
  refine alc Try.zeroValue88 rfl trv1 rfl rfl (fun bka4 hbka4 => ?_)
  refine stAl (vs := [.int .i64 ((z.getD i dN).pl), .int .i64 ((z.getD i dN).p0), .int .i64 ((z.getD i dN).p1), .int .i64 ((z.getD i dN).fo), .slice ((Hz i).1) (((z.getD i dN).ch).length) ((Hz i).2)]) 0 rfl Try.sizeOf88 trv rfl rfl rfl rfl rfl (by simp [Value.oneCell']) rfl ?_
  refine rNil ?_
  refine qSeq rfl ?_
  refine hSeq ?_
  refine hReg (sq 0 (sl 1 (sl 2 (sq 3 (sl 4 sz))))) (by kernel_rfl) ?_
  refine fld fl88_4 rfl rfl rfl ?_
  refine ldl Try.isAgg28 (cB 0 rfl rfl) trv rfl rfl rfl ?_
  refine callS Try.call160 trv1 rfl rfl (fun w hs => spec_l01Own_c _ (((z.getD i dN).ch).length) ((Hz i).2) _ w (Kn.drop (k := 4) ((Kn.imp kz fun _ h => h.kidN (nth dN (by omega)))) w hs) (by omega)) ?_
  rintro ⟨ay2, ny2, cy2, y2⟩ hr2
  dsimp only at hr2
  subst y2
  refine rKnow (fun w hs => (show OwnI 2 ay2 ny2 cy2 (((((z.getD i dN).ch)))) w from hs.at_ 0 rfl).lenz) (fun lenn5 => ?_)
  refine fld fl88_4 rfl rfl rfl ?_
  refine stl (v := .slice _ _ _) 1 rfl Try.sizeOf28 trv rfl rfl rfl rfl rfl (Nat.le_of_ble_eq_true rfl) ?_
  refine rNil ?_
  refine qSeq rfl ?_
  refine hReg (sq 0 (sl 1 (sl 2 (sl 3 (sq 4 sz))))) (by kernel_rfl) ?_
  refine mvS rfl rfl rfl ?_
  refine ldAl Try.isAgg88 Try.sizeOf88 (cBs 1 rfl) trv rfl rfl rfl rfl ?_
  refine bsl trv1 rfl rfl rfl (bsl24_1 (.int .i64 ((z.getD i dN).pl)) (.int .i64 ((z.getD i dN).p0)) (.int .i64 ((z.getD i dN).p1)) (.int .i64 ((z.getD i dN).fo)) (.slice ay2 ny2 cy2) rfl rfl rfl rfl rfl) (fun bkl6 hbkl6 => ?_)
  refine apR (hd := (ay2, cy2)) (x := (Nd.mk ((z.getD i dN).pl) ((z.getD i dN).p0) ((z.getD i dN).p1) ((z.getD i dN).fo) (((((z.getD i dN).ch)))))) 3 1 0 ndK.ok rfl rfl rfl (fun h => by first | rfl | (dsimp only at h; rw [h]; rfl) | (rw [h]; rfl) | exact congrArg (fun m => [Value.slice _ m _]) h) mk24 trv1 rfl rfl rfl rfl (by omega) ?_
  intro aq3 cq3
  refine asS rfl rfl rfl ?_
  refine rNil ?_
  refine qSeq rfl ?_
  refine hReg (sq 0 (sq 1 (sq 2 sz))) (by kernel_rfl) ?_
  refine mvI rfl rfl rfl ?_
  refine add rfl rfl rfl rfl (by omega) ?_
  refine asI rfl rfl rfl ?_
  refine rNil ?_
  rw [Math.take_snoc dN (by omega)]
  exact qNext rfl ((i + 1, q + 1, ((aq3, cq3), (hset hd.2 (z.take i).length (ay2, cy2))))) (by dsimp only; omega) ⟨by dsimp only; omega, by dsimp only; omega⟩ ⟨rfl, rfl, rfl, rfl, trivial⟩ (fun _ h => h.pick [0, 2, 2])
 ·
  replace c1 : ¬ ((i : Int) < (nz : Int)) := c1
  refine hExit rfl ?_
  refine qSeq rfl ?_
  refine hSeq ?_
  refine hReg (sq 0 (sq 1 (sl 2 sz))) (by kernel_rfl) ?_
  refine mvS rfl rfl rfl ?_
  refine bld rfl rfl rfl (bld26_0 (.slice _ _ _) rfl) ?_
  refine stAl (vs := [.slice hd.1.1 q hd.1.2]) 1 rfl Try.sizeOf26 trv rfl rfl rfl rfl rfl (by simp [Value.oneCell']) rfl ?_
  refine rNil ?_
  refine qSeq rfl ?_
  refine hRet ?_
  exact fun w hs => ⟨[_], ⟨⟨_, rfl, run_load_agg Try.isAgg26 Try.sizeOf26 rfl (cBs 1 rfl w hs)⟩, trivial⟩, ⟨(hd.1.1, q, hd.1.2, hd.2, (z.take i)), rfl, List.take_of_length_le (by omega), hs.pick [0]⟩⟩
theorem cmp_isNaN_int64_c (x0 : Int) (w : World) :
  Calls Try.prog 183 #[.int .i64 x0] w (Ret fun v w' => v = .bool false ∧ Ext w w') := by
 refine fn (M := none_) (rs := [.tmp 2]) Try.func183 rfl Try.ntmps183 rfl rfl (Sep.start _ _) ?_
 refine hSeq ?_
 refine hReg (sq 0 sz) (by kernel_rfl) ?_
 refine asB rfl rfl rfl ?_
 refine rNil ?_
 refine qSeq rfl ?_
 refine hSeq ?_
 refine hReg (sq 0 (sq 1 (sq 2 (sq 3 sz)))) (by kernel_rfl) ?_
 refine mvI rfl rfl rfl ?_
 refine mvI rfl rfl rfl ?_
 refine neq rfl rfl rfl rfl ?_
 refine asB rfl rfl rfl ?_
 refine rNil ?_
 refine qSeq rfl ?_
 refine hRet ?_
 exact fun w hs => ⟨[.bool (decide (x0 ≠ x0))], ⟨rfl, trivial⟩, ⟨by show Value.bool (decide (x0 ≠ x0)) = Value.bool false; simp, hs.upd⟩⟩
theorem cmp_Compare_int64_c (x0 : Int) (y0 : Int) (w : World) :
  Calls Try.prog 169 #[.int .i64 x0, .int .i64 y0] w (Ret fun v w' => v = .int .i64 (Math.order x0 y0) ∧ Ext w w') := by
 refine fn (M := none_) (rs := [.tmp 4]) Try.func169 rfl Try.ntmps169 rfl rfl (Sep.start _ _) ?_
 refine hSeq ?_
 refine hReg (sq 0 sz) (by kernel_rfl) ?_
 refine asI rfl rfl rfl ?_
 refine rNil ?_
 refine qSeq rfl ?_
 refine hSeq ?_
 refine hReg (sq 0 (sl 1 (sq 2 sz))) (by kernel_rfl) ?_
 refine mvI rfl rfl rfl ?_
 refine callP (v := .bool false) Try.call183 trv rfl rfl (fun w hs => cmp_isNaN_int64_c _ w ) ?_
 refine asB rfl rfl rfl ?_
 refine rNil ?_
 refine qSeq rfl ?_
 refine hSeq ?_
 refine hReg (sq 0 (sl 1 (sq 2 sz))) (by kernel_rfl) ?_
 refine mvI rfl rfl rfl ?_
 refine callP (v := .bool false) Try.call183 trv rfl rfl (fun w hs => cmp_isNaN_int64_c _ w ) ?_
 refine asB rfl rfl rfl ?_
 refine rNil ?_
 refine qSeq rfl ?_
 refine hSeq ?_
 refine hSeq ?_
 refine hReg (sq 0 sz) (by kernel_rfl) ?_
 refine mvB rfl rfl rfl ?_
 refine rNil ?_
 refine qSeq rfl ?_
 refine hIfF rfl ?_
 refine hSkip ?_
 refine qSeq rfl ?_
 refine hSeq ?_
 refine hSeq ?_
 refine hReg (sq 0 sz) (by kernel_rfl) ?_
 refine mvB rfl rfl rfl ?_
 refine rNil ?_
 refine qSeq rfl ?_
 refine hIfF rfl ?_
 refine hSkip ?_
 refine qSeq rfl ?_
 refine hSeq ?_
 refine hSeq ?_
 refine hReg (sq 0 (sq 1 (sq 2 sz))) (by kernel_rfl) ?_
 refine mvI rfl rfl rfl ?_
 refine mvI rfl rfl rfl ?_
 refine lss rfl rfl rfl rfl ?_
 refine rNil ?_
 refine qSeq rfl ?_
 refine hIfD rfl (fun c1 => ?_) (fun c1 => ?_)
 ·
  replace c1 : x0 < y0 := c1
  refine hSeq ?_
  refine hReg (sq 0 sz) (by kernel_rfl) ?_
  refine asI rfl rfl rfl ?_
  refine rNil ?_
  refine qSeq rfl ?_
  refine hRet ?_
  exact fun w hs => ⟨[.int .i64 (-1)], ⟨rfl, trivial⟩, ⟨vI (by unfold Math.order; (repeat' split) <;> omega), hs.upd⟩⟩
 ·
  replace c1 : ¬ (x0 < y0) := c1
  refine hSkip ?_
  refine qSeq rfl ?_
  refine hSeq ?_
  refine hSeq ?_
  refine hReg (sq 0 (sq 1 (sq 2 sz))) (by kernel_rfl) ?_
  refine mvI rfl rfl rfl ?_
  refine mvI rfl rfl rfl ?_
  refine gtr rfl rfl rfl rfl ?_
  refine rNil ?_
  refine qSeq rfl ?_
  refine hIfD rfl (fun c2 => ?_) (fun c2 => ?_)
  ·
   replace c2 : y0 < x0 := c2
   refine hSeq ?_
   refine hReg (sq 0 sz) (by kernel_rfl) ?_
   refine asI rfl rfl rfl ?_
   refine rNil ?_
   refine qSeq rfl ?_
   refine hRet ?_
   exact fun w hs => ⟨[.int .i64 1], ⟨rfl, trivial⟩, ⟨vI (by unfold Math.order; (repeat' split) <;> omega), hs.upd⟩⟩
  ·
   replace c2 : ¬ (y0 < x0) := c2
   refine hSkip ?_
   refine qSeq rfl ?_
   refine hSeq ?_
   refine hReg (sq 0 sz) (by kernel_rfl) ?_
   refine asI rfl rfl rfl ?_
   refine rNil ?_
   refine qSeq rfl ?_
   refine hRet ?_
   exact fun w hs => ⟨[.int .i64 0], ⟨rfl, trivial⟩, ⟨vI (by unfold Math.order; (repeat' split) <;> omega), hs.upd⟩⟩
theorem spec_l04Order_c (x0 : Int) (y0 : Int) (w : World) :
  Calls Try.prog 170 #[.int .i64 x0, .int .i64 y0] w (Ret fun v w' => v = .int .i64 (Math.order x0 y0) ∧ Ext w w') := by
 refine fn (M := none_) (rs := [.tmp 4]) Try.func170 rfl Try.ntmps170 rfl rfl (Sep.start _ _) ?_
 refine hSeq ?_
 refine hReg (sq 0 sz) (by kernel_rfl) ?_
 refine asI rfl rfl rfl ?_
 refine rNil ?_
 refine qSeq rfl ?_
 refine hSeq ?_
 refine hBlk ?_
 refine hSeq ?_
 refine hReg (sq 0 (sq 1 (sq 2 (sq 3 sz)))) (by kernel_rfl) ?_
 refine mvI rfl rfl rfl ?_
 refine mvI rfl rfl rfl ?_
 refine lss rfl rfl rfl rfl ?_
 refine asB rfl rfl rfl ?_
 refine rNil ?_
 refine qSeq rfl ?_
 refine hIfD rfl (fun c1 => ?_) (fun c1 => ?_)
 ·
  replace c1 : x0 < y0 := c1
  refine hSeq ?_
  refine hReg (sq 0 sz) (by kernel_rfl) ?_
  refine asI rfl rfl rfl ?_
  refine rNil ?_
  refine qSeq rfl ?_
  refine hRet ?_
  exact fun w hs => ⟨[.int .i64 (-1)], ⟨rfl, trivial⟩, ⟨vI (by unfold Math.order; (repeat' split) <;> omega), hs.upd⟩⟩
 ·
  replace c1 : ¬ (x0 < y0) := c1
  refine hSeq ?_
  refine hReg (sq 0 (sq 1 (sq 2 (sq 3 sz)))) (by kernel_rfl) ?_
  refine mvI rfl rfl rfl ?_
  refine mvI rfl rfl rfl ?_
  refine gtr rfl rfl rfl rfl ?_
  refine asB rfl rfl rfl ?_
  refine rNil ?_
  refine qSeq rfl ?_
  refine hIfD rfl (fun c2 => ?_) (fun c2 => ?_)
  ·
   replace c2 : y0 < x0 := c2
   refine hSeq ?_
   refine hReg (sq 0 sz) (by kernel_rfl) ?_
   refine asI rfl rfl rfl ?_
   refine rNil ?_
   refine qSeq rfl ?_
   refine hRet ?_
   exact fun w hs => ⟨[.int .i64 1], ⟨rfl, trivial⟩, ⟨vI (by unfold Math.order; (repeat' split) <;> omega), hs.upd⟩⟩
  ·
   replace c2 : ¬ (y0 < x0) := c2
   refine hSkip ?_
   refine qSeq rfl ?_
   refine hSeq ?_
   refine hReg (sq 0 sz) (by kernel_rfl) ?_
   refine asI rfl rfl rfl ?_
   refine rNil ?_
   refine qSeq rfl ?_
   refine hRet ?_
   exact fun w hs => ⟨[.int .i64 0], ⟨rfl, trivial⟩, ⟨vI (by unfold Math.order; (repeat' split) <;> omega), hs.upd⟩⟩
set_option maxHeartbeats 2000000 in
theorem spec_l21HighCard_c (az : Option Addr) (nz : Nat) (cz : Nat) (Hz : Nat → Hd) (z : List Nd) (kk : Int) (ag : Bool) (w : World) (rz : RdR ndK az nz Hz z w) (hn : nz ≤ 1000) (hkb : Math.kidsB z) (hkk : 0 ≤ kk ∧ kk ≤ 6) :
  Calls Try.prog 128 #[.agg #[.slice az nz cz], .int .i64 kk, .bool ag] w (Ret fun v w' => ∃ x : Option Addr × Nat × Nat × (Nat → Hd) × List Nd × Option Addr × Nat × Nat × (Nat → Hd) × List (List Int) × Option Addr × Nat × Nat × (Nat → Hd) × List (List Int), v = .agg #[.slice x.1 x.2.1 x.2.2.1, .slice x.2.2.2.2.2.1 x.2.2.2.2.2.2.1 x.2.2.2.2.2.2.2.1, .slice x.2.2.2.2.2.2.2.2.2.2.1 x.2.2.2.2.2.2.2.2.2.2.2.1 x.2.2.2.2.2.2.2.2.2.2.2.2.1] ∧ (x.2.2.2.2.1 = z ∧ x.2.2.2.2.2.2.2.2.2.1 = Math.hcW kk.toNat ag kk.toNat ∧ x.2.2.2.2.2.2.2.2.2.2.2.2.2.2 = Math.hcV kk.toNat kk.toNat) ∧ Sep w none_ [OwnR ndK 88 2 x.1 x.2.1 x.2.2.1 x.2.2.2.1 x.2.2.2.2.1, OwnR maK 28 2 x.2.2.2.2.2.1 x.2.2.2.2.2.2.1 x.2.2.2.2.2.2.2.1 x.2.2.2.2.2.2.2.2.1 x.2.2.2.2.2.2.2.2.2.1, OwnR maK 28 2 x.2.2.2.2.2.2.2.2.2.2.1 x.2.2.2.2.2.2.2.2.2.2.2.1 x.2.2.2.2.2.2.2.2.2.2.2.2.1 x.2.2.2.2.2.2.2.2.2.2.2.2.2.1 x.2.2.2.2.2.2.2.2.2.2.2.2.2.2] w') := by
 have kz : Kn w none_ [] (RdR ndK az nz Hz z) := fun w' hs => rz.ext hs.upd
 have lz : z.length = nz := rz.1
 have mz : nz ≤ 9223372036854775807 := rz.2.1
 refine fn (M := none_) (rs := [.cell 6 43]) Try.func128 rfl Try.ntmps128 rfl rfl (Sep.start _ _) ?_
 refine hSeq ?_
 refine hReg (sl 0 (sl 1 sz)) (by kernel_rfl) ?_
 refine box trv1 rfl rfl rfl rfl (fun bkb1 hbkb1 => ?_)
 refine alc Try.zeroValue43 rfl trv1 rfl rfl (fun bka2 hbka2 => ?_)
 refine rNil ?_
 refine qSeq rfl ?_
 refine hSeq ?_
 refine hReg (sl 0 (sl 1 (sq 2 (sq 3 sz)))) (by kernel_rfl) ?_
 refine bsl trv1 rfl rfl rfl (bsl41_0) (fun bkl3 hbkl3 => ?_)
 refine bsl trv1 rfl rfl rfl (bsl41_0) (fun bkl4 hbkl4 => ?_)
 refine asS rfl rfl rfl ?_
 refine asS rfl rfl rfl ?_
 refine rNil ?_
 refine qSeq rfl ?_
 refine hSeq ?_
 refine hSeq ?_
 refine hReg (sq 0 sz) (by kernel_rfl) ?_
 refine asI rfl rfl rfl ?_
 refine rNil ?_
 refine qSeq rfl ?_
 refine hBlk ?_
 refine hPieces (fun _ h => Sep.litR maK 28 2 (fun _ => (none, 0)) h 1 rfl) ?_
 refine hPieces (fun _ h => Sep.litR maK 28 2 (fun _ => (none, 0)) h 0 rfl) ?_
 refine hLoop (α := Nat × Nat × (Hd × (Nat → Hd)) × (Hd × (Nat → Hd))) (fun x => (x.1 : Int) ≤ kk ∧ x.2.1 = x.1) (fun x => kk.toNat - x.1) (fun x => [OwnR maK 28 2 x.2.2.2.1.1 x.2.1 x.2.2.2.1.2 x.2.2.2.2 (Math.hcV kk.toNat x.1), OwnR maK 28 2 x.2.2.1.1.1 x.2.1 x.2.2.1.1.2 x.2.2.1.2 (Math.hcW kk.toNat ag x.1), blk bka2 43 [.slice none 0 0, .slice none 0 0, .slice none 0 0], blk bkb1 26 [.slice az nz cz]]) (fun x => [(1, .int .i64 kk), (2, .bool ag), (3, .pointer (some ⟨bkb1, 0, none⟩)), (6, .pointer (some ⟨bka2, 0, none⟩)), (7, .slice x.2.2.1.1.1 x.2.1 x.2.2.1.1.2), (8, .slice x.2.2.2.1.1 x.2.1 x.2.2.2.1.2), (9, .int .i64 (x.1 : Int))]) ((0, 0, (((some ⟨bkl3, 0, none⟩), 0), (fun _ => (none, 0))), (((some ⟨bkl4, 0, none⟩), 0), (fun _ => (none, 0))))) ⟨by dsimp only; omega, rfl⟩ (fun _ h => h.pick [0, 0, 0, 0]) ⟨rfl, rfl, rfl, rfl, rfl, rfl, rfl, trivial⟩ ?_
 rintro ⟨i, q, hd, he⟩ τ1 ⟨hi, hq⟩
 dsimp only at hi hq
 refine hRe [(1, .int .i64 kk), (2, .bool ag), (3, .pointer (some ⟨bkb1, 0, none⟩)), (6, .pointer (some ⟨bka2, 0, none⟩)), (7, .slice hd.1.1 q hd.1.2), (8, .slice he.1.1 q he.1.2), (9, .int .i64 (i : Int))] [OwnR maK 28 2 he.1.1 q he.1.2 he.2 (Math.hcV kk.toNat i), OwnR maK 28 2 hd.1.1 q hd.1.2 hd.2 (Math.hcW kk.toNat ag i), blk bka2 43 [.slice none 0 0, .slice none 0 0, .slice none 0 0], blk bkb1 26 [.slice az nz cz]] rfl rfl ?_
 refine hSeq ?_
 refine hSeq ?_
 refine hReg (sq 0 (sq 1 (sq 2 sz))) (by kernel_rfl) ?_
 refine mvI rfl rfl rfl ?_
 refine mvI rfl rfl rfl ?_
 refine lss rfl rfl rfl rfl ?_
 refine rNil ?_
 refine qSeq rfl ?_
 refine hIfD rfl (fun c1 => ?_) (fun c1 => ?_)
 ·
  replace c1 : (i : Int) < kk := c1
  refine hSkip ?_
  refine qSeq rfl ?_
  refine hSeq ?_
  refine hBlk ?_
  refine hSeq ?_
  refine hReg (sl 0 (sl 1 (sq 2 (sq 3 sz)))) (by kernel_rfl) ?_
  refine bsl trv1 rfl rfl rfl (bsl28_0) (fun bkl5 hbkl5 => ?_)
  refine bsl trv1 rfl rfl rfl (bsl28_0) (fun bkl6 hbkl6 => ?_)
  refine asS rfl rfl rfl ?_
  refine asS rfl rfl rfl ?_
  refine rNil ?_
  refine qSeq rfl ?_
  refine hSeq ?_
  refine hSeq ?_
  refine hReg (sq 0 sz) (by kernel_rfl) ?_
  refine asI rfl rfl rfl ?_
  refine rNil ?_
  refine qSeq rfl ?_
  refine hBlk ?_
  refine hPieces (fun _ h => Sep.litI h 1 [] rfl rfl rfl) ?_
  refine hPieces (fun _ h => Sep.litI h 0 [] rfl rfl rfl) ?_
  refine hLoop (α := Nat × Nat × Hd × Hd) (fun x => (x.1 : Int) ≤ kk ∧ x.2.1 = x.1) (fun x => kk.toNat - x.1) (fun x => [OwnI 2 x.2.2.2.1 x.2.1 x.2.2.2.2 ((Math.mapR (fun b => Math.order (i : Int) (b : Int)) x.1)), OwnI 2 x.2.2.1.1 x.2.1 x.2.2.1.2 ((Math.mapR (Math.hcCell ag i) x.1)), OwnR maK 28 2 he.1.1 q he.1.2 he.2 (Math.hcV kk.toNat i), OwnR maK 28 2 hd.1.1 q hd.1.2 hd.2 (Math.hcW kk.toNat ag i), blk bka2 43 [.slice none 0 0, .slice none 0 0, .slice none 0 0], blk bkb1 26 [.slice az nz cz]]) (fun x => [(1, .int .i64 kk), (2, .bool ag), (3, .pointer (some ⟨bkb1, 0, none⟩)), (6, .pointer (some ⟨bka2, 0, none⟩)), (7, .slice hd.1.1 q hd.1.2), (8, .slice he.1.1 q he.1.2), (9, .int .i64 (i : Int)), (10, .slice x.2.2.1.1 x.2.1 x.2.2.1.2), (11, .slice x.2.2.2.1 x.2.1 x.2.2.2.2), (12, .int .i64 (x.1 : Int))]) ((0, 0, ((some ⟨bkl5, 0, none⟩), 0), ((some ⟨bkl6, 0, none⟩), 0))) ⟨by dsimp only; omega, rfl⟩ (fun _ h => h.pick [0, 0, 0, 0, 0, 0]) ⟨rfl, rfl, rfl, rfl, rfl, rfl, rfl, rfl, rfl, rfl, trivial⟩ ?_
  rintro ⟨j, q2, h3, h4⟩ τ2 ⟨hj, hq2⟩
  dsimp only at hj hq2
  refine hRe [(1, .int .i64 kk), (2, .bool ag), (3, .pointer (some ⟨bkb1, 0, none⟩)), (6, .pointer (some ⟨bka2, 0, none⟩)), (7, .slice hd.1.1 q hd.1.2), (8, .slice he.1.1 q he.1.2), (9, .int .i64 (i : Int)), (10, .slice h3.1 q2 h3.2), (11, .slice h4.1 q2 h4.2), (12, .int .i64 (j : Int))] [OwnI 2 h4.1 q2 h4.2 ((Math.mapR (fun b => Math.order (i : Int) (b : Int)) j)), OwnI 2 h3.1 q2 h3.2 ((Math.mapR (Math.hcCell ag i) j)), OwnR maK 28 2 he.1.1 q he.1.2 he.2 (Math.hcV kk.toNat i), OwnR maK 28 2 hd.1.1 q hd.1.2 hd.2 (Math.hcW kk.toNat ag i), blk bka2 43 [.slice none 0 0, .slice none 0 0, .slice none 0 0], blk bkb1 26 [.slice az nz cz]] rfl rfl ?_
  refine hSeq ?_
  refine hSeq ?_
  refine hReg (sq 0 (sq 1 (sq 2 sz))) (by kernel_rfl) ?_
  refine mvI rfl rfl rfl ?_
  refine mvI rfl rfl rfl ?_
  refine lss rfl rfl rfl rfl ?_
  refine rNil ?_
  refine qSeq rfl ?_
  refine hIfD rfl (fun c2 => ?_) (fun c2 => ?_)
  ·
   replace c2 : (j : Int) < kk := c2
   refine hSkip ?_
   refine qSeq rfl ?_
   refine hSeq ?_
   refine hBlk ?_
   refine hSeq ?_
   refine hSeq ?_
   refine hReg (sq 0 (sq 1 (sq 2 (sq 3 (sq 4 (sq 5 (sq 6 sz))))))) (by kernel_rfl) ?_
   refine mvI rfl rfl rfl ?_
   refine mvI rfl rfl rfl ?_
   refine eql rfl rfl rfl rfl ?_
   refine mvB rfl rfl rfl ?_
   refine rBoolD (d := 30) rfl (fun g3 => ?_) (fun g3 => ?_)
   ·
    replace g3 : (i : Int) = (j : Int) := g3
    refine mvB rfl rfl rfl ?_
    refine not rfl rfl rfl ?_
    refine pickB rfl rfl rfl rfl ?_
    refine rNil ?_
    refine qSeq rfl ?_
    refine hIfN rfl (fun c4 => ?_) (fun c4 => ?_)
    ·
     replace c4 : ag = false := c4
     refine hReg (sq 0 (sl 1 (sl 2 (sq 3 sz)))) (by kernel_rfl) ?_
     refine mvS rfl rfl rfl ?_
     refine bsl trv1 rfl rfl rfl (bsl28_1 (.int .i64 _) rfl) (fun bkl7 hbkl7 => ?_)
     refine aplI (N := q2) (x := 0) 2 0 rfl rfl mk28 trv1 rfl rfl rfl rfl (by omega) ?_
     intro aq1 cq1
     refine asS rfl rfl rfl ?_
     refine rNil ?_
     refine qSeq rfl ?_
     refine hReg (sq 0 (sq 1 (sq 2 (sl 3 (sl 4 (sl 5 (sq 6 sz))))))) (by kernel_rfl) ?_
     refine mvS rfl rfl rfl ?_
     refine mvI rfl rfl rfl ?_
     refine mvI rfl rfl rfl ?_
     refine callP (v := .int .i64 ((Math.order (i : Int) (j : Int)))) Try.call170 trv rfl rfl (fun w hs => spec_l04Order_c _ _ w ) ?_
     refine bsl trv1 rfl rfl rfl (bsl28_1 (.int .i64 _) rfl) (fun bkl8 hbkl8 => ?_)
     refine aplI (N := q2) (x := (Math.order (i : Int) (j : Int))) 2 0 rfl rfl mk28 trv1 rfl rfl rfl rfl (by omega) ?_
     intro aq2 cq2
     refine asS rfl rfl rfl ?_
     refine rNil ?_
     refine qSeq rfl ?_
     refine hReg (sq 0 (sq 1 (sq 2 sz))) (by kernel_rfl) ?_
     refine mvI rfl rfl rfl ?_
     refine add rfl rfl rfl rfl (by omega) ?_
     refine asI rfl rfl rfl ?_
     refine rNil ?_
     rw [Math.hcRow_add0 g3 (by simpa using c4), show Math.mapR (fun b => Math.order (i : Int) (b : Int)) j ++ [Math.order (i : Int) (j : Int)] = Math.mapR (fun b => Math.order (i : Int) (b : Int)) (j + 1) from Math.mapR_snoc (fun b => Math.order (i : Int) (b : Int)) j]
     exact qNext rfl ((j + 1, q2 + 1, (aq1, cq1), (aq2, cq2))) (by dsimp only; omega) ⟨by dsimp only; omega, by dsimp only; omega⟩ ⟨rfl, rfl, rfl, rfl, rfl, rfl, rfl, rfl, rfl, rfl, trivial⟩ (fun _ h => h.pick [2, 2, 2, 2, 2, 2])
    ·
     replace c4 : ag = true := c4
     refine hReg (sq 0 (sl 1 (sl 2 (sq 3 sz)))) (by kernel_rfl) ?_
     refine mvS rfl rfl rfl ?_
     refine bsl trv1 rfl rfl rfl (bsl28_1 (.int .i64 _) rfl) (fun bkl9 hbkl9 => ?_)
     refine aplI (N := q2) (x := 1) 2 0 rfl rfl mk28 trv1 rfl rfl rfl rfl (by omega) ?_
     intro aq3 cq3
     refine asS rfl rfl rfl ?_
     refine rNil ?_
     refine qSeq rfl ?_
     refine hReg (sq 0 (sq 1 (sq 2 (sl 3 (sl 4 (sl 5 (sq 6 sz))))))) (by kernel_rfl) ?_
     refine mvS rfl rfl rfl ?_
     refine mvI rfl rfl rfl ?_
     refine mvI rfl rfl rfl ?_
     refine callP (v := .int .i64 ((Math.order (i : Int) (j : Int)))) Try.call170 trv rfl rfl (fun w hs => spec_l04Order_c _ _ w ) ?_
     refine bsl trv1 rfl rfl rfl (bsl28_1 (.int .i64 _) rfl) (fun bkl10 hbkl10 => ?_)
     refine aplI (N := q2) (x := (Math.order (i : Int) (j : Int))) 2 0 rfl rfl mk28 trv1 rfl rfl rfl rfl (by omega) ?_
     intro aq4 cq4
     refine asS rfl rfl rfl ?_
     refine rNil ?_
     refine qSeq rfl ?_
     refine hReg (sq 0 (sq 1 (sq 2 sz))) (by kernel_rfl) ?_
     refine mvI rfl rfl rfl ?_
     refine add rfl rfl rfl rfl (by omega) ?_
     refine asI rfl rfl rfl ?_
     refine rNil ?_
     rw [Math.hcRow_add2 (by simpa using c4), show Math.mapR (fun b => Math.order (i : Int) (b : Int)) j ++ [Math.order (i : Int) (j : Int)] = Math.mapR (fun b => Math.order (i : Int) (b : Int)) (j + 1) from Math.mapR_snoc (fun b => Math.order (i : Int) (b : Int)) j]
     exact qNext rfl ((j + 1, q2 + 1, (aq3, cq3), (aq4, cq4))) (by dsimp only; omega) ⟨by dsimp only; omega, by dsimp only; omega⟩ ⟨rfl, rfl, rfl, rfl, rfl, rfl, rfl, rfl, rfl, rfl, trivial⟩ (fun _ h => h.pick [2, 2, 2, 2, 2, 2])
   ·
    replace g3 : ¬ ((i : Int) = (j : Int)) := g3
    refine rSkipQ rfl rfl ?_
    refine rSkipQ rfl rfl ?_
    refine pickB rfl rfl rfl rfl ?_
    refine rNil ?_
    refine qSeq rfl ?_
    refine hIfF rfl ?_
    refine hReg (sq 0 (sl 1 (sl 2 (sq 3 sz)))) (by kernel_rfl) ?_
    refine mvS rfl rfl rfl ?_
    refine bsl trv1 rfl rfl rfl (bsl28_1 (.int .i64 _) rfl) (fun bkl11 hbkl11 => ?_)
    refine aplI (N := q2) (x := 1) 2 0 rfl rfl mk28 trv1 rfl rfl rfl rfl (by omega) ?_
    intro aq5 cq5
    refine asS rfl rfl rfl ?_
    refine rNil ?_
    refine qSeq rfl ?_
    refine hReg (sq 0 (sq 1 (sq 2 (sl 3 (sl 4 (sl 5 (sq 6 sz))))))) (by kernel_rfl) ?_
    refine mvS rfl rfl rfl ?_
    refine mvI rfl rfl rfl ?_
    refine mvI rfl rfl rfl ?_
    refine callP (v := .int .i64 ((Math.order (i : Int) (j : Int)))) Try.call170 trv rfl rfl (fun w hs => spec_l04Order_c _ _ w ) ?_
    refine bsl trv1 rfl rfl rfl (bsl28_1 (.int .i64 _) rfl) (fun bkl12 hbkl12 => ?_)
    refine aplI (N := q2) (x := (Math.order (i : Int) (j : Int))) 2 0 rfl rfl mk28 trv1 rfl rfl rfl rfl (by omega) ?_
    intro aq6 cq6
    refine asS rfl rfl rfl ?_
    refine rNil ?_
    refine qSeq rfl ?_
    refine hReg (sq 0 (sq 1 (sq 2 sz))) (by kernel_rfl) ?_
    refine mvI rfl rfl rfl ?_
    refine add rfl rfl rfl rfl (by omega) ?_
    refine asI rfl rfl rfl ?_
    refine rNil ?_
    rw [Math.hcRow_add1 g3, show Math.mapR (fun b => Math.order (i : Int) (b : Int)) j ++ [Math.order (i : Int) (j : Int)] = Math.mapR (fun b => Math.order (i : Int) (b : Int)) (j + 1) from Math.mapR_snoc (fun b => Math.order (i : Int) (b : Int)) j]
    exact qNext rfl ((j + 1, q2 + 1, (aq5, cq5), (aq6, cq6))) (by dsimp only; omega) ⟨by dsimp only; omega, by dsimp only; omega⟩ ⟨rfl, rfl, rfl, rfl, rfl, rfl, rfl, rfl, rfl, rfl, trivial⟩ (fun _ h => h.pick [2, 2, 2, 2, 2, 2])
  ·
   replace c2 : ¬ ((j : Int) < kk) := c2
   refine hExit rfl ?_
   refine qSeq rfl ?_
   refine hSeq ?_
   refine hReg (sq 0 (sq 1 (sl 2 (sl 3 (sq 4 sz))))) (by kernel_rfl) ?_
   refine mvS rfl rfl rfl ?_
   refine mvS rfl rfl rfl ?_
   refine bsl trv1 rfl rfl rfl (bsl41_1 (.slice _ _ _) rfl) (fun bkl13 hbkl13 => ?_)
   refine apR (hd := (h3.1, h3.2)) (x := (Math.mapR (Math.hcCell ag i) j)) 4 2 0 maK.ok rfl rfl rfl (fun h => by first | rfl | (dsimp only at h; rw [h]; rfl) | (rw [h]; rfl) | exact congrArg (fun m => [Value.slice _ m _]) h) mk41 trv1 rfl rfl rfl rfl (by omega) ?_
   intro aq7 cq7
   refine asS rfl rfl rfl ?_
   refine rNil ?_
   refine qSeq rfl ?_
   refine hReg (sq 0 (sq 1 (sl 2 (sl 3 (sq 4 sz))))) (by kernel_rfl) ?_
   refine mvS rfl rfl rfl ?_
   refine mvS rfl rfl rfl ?_
   refine bsl trv1 rfl rfl rfl (bsl41_1 (.slice _ _ _) rfl) (fun bkl14 hbkl14 => ?_)
   refine apR (hd := (h4.1, h4.2)) (x := (Math.mapR (fun b => Math.order (i : Int) (b : Int)) j)) 4 3 0 maK.ok rfl rfl rfl (fun h => by first | rfl | (dsimp only at h; rw [h]; rfl) | (rw [h]; rfl) | exact congrArg (fun m => [Value.slice _ m _]) h) mk41 trv1 rfl rfl rfl rfl (by omega) ?_
   intro aq8 cq8
   refine asS rfl rfl rfl ?_
   refine rNil ?_
   refine qSeq rfl ?_
   refine hReg (sq 0 (sq 1 (sq 2 sz))) (by kernel_rfl) ?_
   refine mvI rfl rfl rfl ?_
   refine add rfl rfl rfl rfl (by omega) ?_
   refine asI rfl rfl rfl ?_
   refine rNil ?_
   rw [show Math.mapR (Math.hcCell ag i) j = Math.hcRow kk.toNat ag i from by unfold Math.hcRow; congr 1; omega, show Math.mapR (fun b => Math.order (i : Int) (b : Int)) j = Math.hcWin kk.toNat i from by unfold Math.hcWin; congr 1; omega, show Math.hcW kk.toNat ag i ++ [Math.hcRow kk.toNat ag i] = Math.hcW kk.toNat ag (i + 1) from Math.mapR_snoc _ _, show Math.hcV kk.toNat i ++ [Math.hcWin kk.toNat i] = Math.hcV kk.toNat (i + 1) from Math.mapR_snoc _ _]
   exact qNext rfl ((i + 1, q + 1, ((aq7, cq7), (hset hd.2 (Math.hcW kk.toNat ag i).length (h3.1, h3.2))), ((aq8, cq8), (hset he.2 (Math.hcV kk.toNat i).length (h4.1, h4.2))))) (by dsimp only; omega) ⟨by dsimp only; omega, by dsimp only; omega⟩ ⟨rfl, rfl, rfl, rfl, rfl, rfl, rfl, trivial⟩ (fun _ h => h.pick [0, 1, 2, 2])
 ·
  replace c1 : ¬ ((i : Int) < kk) := c1
  refine hExit rfl ?_
  refine qSeq rfl ?_
  refine hSeq ?_
  refine hReg (sl 0 (sl 1 (sq 2 (sq 3 (sq 4 (sl 5 sz)))))) (by kernel_rfl) ?_
  refine ldAl Try.isAgg26 Try.sizeOf26 (cBs 3 rfl) trv rfl rfl rfl rfl ?_
  refine callS Try.call171 trv1 rfl rfl (fun w hs => spec_l21Tree_c _ nz cz _ _ w (Kn.drop (k := 4) kz w hs) (by first | omega | (have := Math.tree_len (by assumption : Math.isTree _ = true); omega)) (by first | assumption | exact (by assumption : _ ∧ Math.kidsB _).2 | exact Math.tree_kids (by assumption))) ?_
  rintro ⟨ay9, ny9, cy9, Hy9, y9⟩ hr9
  dsimp only at hr9
  subst y9
  refine rKnow (fun w hs => (show OwnR ndK 88 2 ay9 ny9 cy9 Hy9 z w from hs.at_ 0 rfl).1) (fun lenn15 => ?_)
  refine mvS rfl rfl rfl ?_
  refine mvS rfl rfl rfl ?_
  refine bld rfl rfl rfl (bld43_0_1_2 (.slice ay9 ny9 cy9) (.slice _ _ _) (.slice _ _ _) rfl rfl rfl) ?_
  refine stAl (vs := [.slice ay9 ny9 cy9, .slice hd.1.1 q hd.1.2, .slice he.1.1 q he.1.2]) 3 rfl Try.sizeOf43 trv rfl rfl rfl rfl rfl (by simp [Value.oneCell']) rfl ?_
  refine rNil ?_
  refine qSeq rfl ?_
  refine hRet ?_
  exact fun w hs => ⟨[_], ⟨⟨_, rfl, run_load_agg Try.isAgg43 Try.sizeOf43 rfl (cBs 3 rfl w hs)⟩, trivial⟩, ⟨(ay9, ny9, cy9, Hy9, z, hd.1.1, q, hd.1.2, hd.2, (Math.hcW kk.toNat ag i), he.1.1, q, he.1.2, he.2, (Math.hcV kk.toNat i)), rfl, ⟨rfl, by rw [show i = kk.toNat from by omega], by rw [show i = kk.toNat from by omega]⟩, hs.pick [0, 1, 0]⟩⟩
set_option maxHeartbeats 2000000 in
theorem impl_highCardGame_c (az : Option Addr) (nz : Nat) (cz : Nat) (Hz : Nat → Hd) (z : List Nd) (kk : Int) (ag : Bool) (w : World) (rz : RdR ndK az nz Hz z w) (ht : Math.isTree z = true) (hkk : 0 ≤ kk ∧ kk ≤ 6) :
  Calls Try.prog 127 #[.agg #[.slice az nz cz], .int .i64 kk, .bool ag] w (Ret fun v w' => ∃ x : Option Addr × Nat × Nat × (Nat → Hd) × List Nd × Option Addr × Nat × Nat × (Nat → Hd) × List (List Int) × Option Addr × Nat × Nat × (Nat → Hd) × List (List Int), v = .agg #[.slice x.1 x.2.1 x.2.2.1, .slice x.2.2.2.2.2.1 x.2.2.2.2.2.2.1 x.2.2.2.2.2.2.2.1, .slice x.2.2.2.2.2.2.2.2.2.2.1 x.2.2.2.2.2.2.2.2.2.2.2.1 x.2.2.2.2.2.2.2.2.2.2.2.2.1] ∧ (x.2.2.2.2.1 = z ∧ x.2.2.2.2.2.2.2.2.2.1 = Math.hcW kk.toNat ag kk.toNat ∧ x.2.2.2.2.2.2.2.2.2.2.2.2.2.2 = Math.hcV kk.toNat kk.toNat) ∧ Sep w none_ [OwnR ndK 88 2 x.1 x.2.1 x.2.2.1 x.2.2.2.1 x.2.2.2.2.1, OwnR maK 28 2 x.2.2.2.2.2.1 x.2.2.2.2.2.2.1 x.2.2.2.2.2.2.2.1 x.2.2.2.2.2.2.2.2.1 x.2.2.2.2.2.2.2.2.2.1, OwnR maK 28 2 x.2.2.2.2.2.2.2.2.2.2.1 x.2.2.2.2.2.2.2.2.2.2.2.1 x.2.2.2.2.2.2.2.2.2.2.2.2.1 x.2.2.2.2.2.2.2.2.2.2.2.2.2.1 x.2.2.2.2.2.2.2.2.2.2.2.2.2.2] w') := by
 have kz : Kn w none_ [] (RdR ndK az nz Hz z) := fun w' hs => rz.ext hs.upd
 have lz : z.length = nz := rz.1
 have mz : nz ≤ 9223372036854775807 := rz.2.1
 refine fn (M := none_) (rs := [.cell 6 43]) Try.func127 rfl Try.ntmps127 rfl rfl (Sep.start _ _) ?_
 refine hSeq ?_
 refine hReg (sl 0 (sl 1 sz)) (by kernel_rfl) ?_
 refine box trv1 rfl rfl rfl rfl (fun bkb1 hbkb1 => ?_)
 refine alc Try.zeroValue43 rfl trv1 rfl rfl (fun bka2 hbka2 => ?_)
 refine rNil ?_
 refine qSeq rfl ?_
 refine hSeq ?_
 refine hReg (sl 0 (sl 1 (sq 2 (sl 3 (sl 4 sz))))) (by kernel_rfl) ?_
 refine ldAl Try.isAgg26 Try.sizeOf26 (cBs 1 rfl) trv rfl rfl rfl rfl ?_
 refine callS Try.call157 trv1 rfl rfl (fun w hs => impl_cloneTree_c _ nz cz _ _ w (Kn.drop (k := 2) kz w hs) (by assumption)) ?_
 rintro ⟨ay1, ny1, cy1, Hy1, y1⟩ hr1
 dsimp only at hr1
 subst y1
 refine rKnow (fun w hs => (show OwnR ndK 88 2 ay1 ny1 cy1 Hy1 z w from hs.at_ 0 rfl).1) (fun lenn3 => ?_)
 refine bld rfl rfl rfl (bld43_0 (.slice ay1 ny1 cy1) rfl) ?_
 refine alc Try.zeroValue43 rfl trv1 rfl rfl (fun bka4 hbka4 => ?_)
 refine stAl (vs := [.slice ay1 ny1 cy1, .slice none 0 0, .slice none 0 0]) 0 rfl Try.sizeOf43 trv rfl rfl rfl rfl rfl (by simp [Value.oneCell']) rfl ?_
 refine rNil ?_
 refine qSeq rfl ?_
 refine hSeq ?_
 refine hSeq ?_
 refine hReg (sq 0 (sq 1 sz)) (by kernel_rfl) ?_
 refine mvI rfl rfl rfl ?_
 refine mvI rfl rfl rfl ?_
 refine rNil ?_
 refine qSeq rfl ?_
 refine hBlk ?_
 refine hPieces (fun _ h => Sep.nilR maK 28 2 (fun _ => (none, 0)) h) ?_
 refine hPieces (fun _ h => Sep.nilR maK 28 2 (fun _ => (none, 0)) h) ?_
 refine hLoop (α := Nat × Nat × (Hd × (Nat → Hd)) × (Hd × (Nat → Hd))) (fun x => (x.1 : Int) ≤ kk ∧ x.2.1 = x.1) (fun x => kk.toNat - x.1) (fun x => [OwnR maK 28 2 x.2.2.2.1.1 x.2.1 x.2.2.2.1.2 x.2.2.2.2 (Math.hcV kk.toNat x.1), OwnR maK 28 2 x.2.2.1.1.1 x.2.1 x.2.2.1.1.2 x.2.2.1.2 (Math.hcW kk.toNat ag x.1), blk bka4 43 [.slice ay1 ny1 cy1, .slice x.2.2.1.1.1 x.2.1 x.2.2.1.1.2, .slice x.2.2.2.1.1 x.2.1 x.2.2.2.1.2], OwnR ndK 88 2 ay1 ny1 cy1 Hy1 z, blk bka2 43 [.slice none 0 0, .slice none 0 0, .slice none 0 0], blk bkb1 26 [.slice az nz cz]]) (fun x => [(1, .int .i64 kk), (2, .bool ag), (6, .pointer (some ⟨bka2, 0, none⟩)), (7, .pointer (some ⟨bka4, 0, none⟩)), (15, .int .i64 kk), (16, .int .i64 (x.1 : Int))]) ((0, 0, ((none, 0), (fun _ => (none, 0))), ((none, 0), (fun _ => (none, 0))))) ⟨by dsimp only; omega, rfl⟩ (fun _ h => h.pick [0, 0, 0, 0, 0, 0]) ⟨rfl, rfl, rfl, rfl, rfl, rfl, trivial⟩ ?_
 rintro ⟨i, q, hd, he⟩ τ1 ⟨hi, hq⟩
 dsimp only at hi hq
 refine hRe [(1, .int .i64 kk), (2, .bool ag), (6, .pointer (some ⟨bka2, 0, none⟩)), (7, .pointer (some ⟨bka4, 0, none⟩)), (15, .int .i64 kk), (16, .int .i64 (i : Int))] [OwnR maK 28 2 he.1.1 q he.1.2 he.2 (Math.hcV kk.toNat i), OwnR maK 28 2 hd.1.1 q hd.1.2 hd.2 (Math.hcW kk.toNat ag i), blk bka4 43 [.slice ay1 ny1 cy1, .slice hd.1.1 q hd.1.2, .slice he.1.1 q he.1.2], OwnR ndK 88 2 ay1 ny1 cy1 Hy1 z, blk bka2 43 [.slice none 0 0, .slice none 0 0, .slice none 0 0], blk bkb1 26 [.slice az nz cz]] rfl rfl ?_
 refine hSeq ?_
 refine hReg (sq 0 sz) (by kernel_rfl) ?_
 refine lss rfl rfl rfl rfl ?_
 refine rNil ?_
 refine qSeq rfl ?_
 refine hSeq ?_
 refine hIfD rfl (fun c1 => ?_) (fun c1 => ?_)
 ·
  replace c1 : (i : Int) < kk := c1
  refine hSkip ?_
  refine qSeq rfl ?_
  refine hSeq ?_
  refine hBlk ?_
  refine hSeq ?_
  refine hReg (sq 0 (sq 1 sz)) (by kernel_rfl) ?_
  refine mvI rfl rfl rfl ?_
  refine asI rfl rfl rfl ?_
  refine rNil ?_
  refine qSeq rfl ?_
  refine hSeq ?_
  refine hDraw (Ls := []) (by kernel_rfl) (sq 0 (sq 2 (.alt (sl 1 (sq 4 (sl 3 (sq 5 sz)))) (sl 3 (sl 1 (sq 4 (sq 5 sz))))))) (by kernel_rfl) (.cons _ (.cons _ (.cons _ (.cons _ (.cons _ (.cons _ .slnil)))))) ?_
  refine mvI rfl rfl rfl ?_
  refine mvI rfl rfl rfl ?_
  refine rAlt ?_ ?_
  ·
   refine mksI ((kk).toNat) mk28 (fun _ _ h => h.pick []) rfl rfl rfl rfl (by omega) (by omega) (fun bkm7 hbkm7 => ?_)
   refine asS rfl rfl rfl ?_
   refine mksI ((kk).toNat) mk28 (fun _ _ h => h.pick []) rfl rfl rfl rfl (by omega) (by omega) (fun bkm8 hbkm8 => ?_)
   refine asS rfl rfl rfl ?_
   refine rNil ?_
   refine qSeq rfl ?_
   refine hSeq ?_
   refine hSeq ?_
   refine hReg (sq 0 (sq 1 sz)) (by kernel_rfl) ?_
   refine mvI rfl rfl rfl ?_
   refine mvI rfl rfl rfl ?_
   refine rNil ?_
   refine qSeq rfl ?_
   refine hBlk ?_
   refine hLoop (α := Nat) (fun j => (j : Int) ≤ kk) (fun j => kk.toNat - j) (fun j => [OwnI 2 (some ⟨bkm8, 0, none⟩) ((kk).toNat) ((kk).toNat) (((Math.hcWin kk.toNat i).take j ++ List.replicate (kk.toNat - j) 0)), OwnI 2 (some ⟨bkm7, 0, none⟩) ((kk).toNat) ((kk).toNat) (((Math.hcRow kk.toNat ag i).take j ++ List.replicate (kk.toNat - j) 0)), OwnR maK 28 2 he.1.1 q he.1.2 he.2 (Math.hcV kk.toNat i), OwnR maK 28 2 hd.1.1 q hd.1.2 hd.2 (Math.hcW kk.toNat ag i), blk bka4 43 [.slice ay1 ny1 cy1, .slice hd.1.1 q hd.1.2, .slice he.1.1 q he.1.2], OwnR ndK 88 2 ay1 ny1 cy1 Hy1 z, blk bka2 43 [.slice none 0 0, .slice none 0 0, .slice none 0 0], blk bkb1 26 [.slice az nz cz]]) (fun j => [(1, .int .i64 kk), (2, .bool ag), (6, .pointer (some ⟨bka2, 0, none⟩)), (7, .pointer (some ⟨bka4, 0, none⟩)), (8, .int .i64 (i : Int)), (9, .slice (some ⟨bkm7, 0, none⟩) ((kk).toNat) ((kk).toNat)), (10, .slice (some ⟨bkm8, 0, none⟩) ((kk).toNat) ((kk).toNat)), (15, .int .i64 kk), (16, .int .i64 (i : Int)), (23, .int .i64 kk), (24, .int .i64 (j : Int))]) 0 (by omega) (fun _ h => (by simp only [List.take_zero, List.nil_append, Nat.sub_zero]; exact h.pick [0, 0, 0, 0, 0, 0, 0, 0])) ⟨rfl, rfl, rfl, rfl, rfl, rfl, rfl, rfl, rfl, rfl, rfl, trivial⟩ ?_
   rintro j τ2 hj
   refine hSeq ?_
   refine hReg (sq 0 sz) (by kernel_rfl) ?_
   refine lss rfl rfl rfl rfl ?_
   refine rNil ?_
   refine qSeq rfl ?_
   refine hSeq ?_
   refine hIfD rfl (fun c2 => ?_) (fun c2 => ?_)
   ·
    replace c2 : (j : Int) < kk := c2
    refine hSkip ?_
    refine qSeq rfl ?_
    refine hSeq ?_
    refine hBlk ?_
    refine hSeq ?_
    refine hReg (sq 0 (sq 1 sz)) (by kernel_rfl) ?_
    refine mvI rfl rfl rfl ?_
    refine asI rfl rfl rfl ?_
    refine rNil ?_
    refine qSeq rfl ?_
    refine hSeq ?_
    refine hSeq ?_
    refine hReg (sq 0 (sq 1 (sq 2 (sq 3 (sq 4 (sq 5 sz)))))) (by kernel_rfl) ?_
    refine mvI rfl rfl rfl ?_
    refine mvI rfl rfl rfl ?_
    refine neq rfl rfl rfl rfl ?_
    refine mvB rfl rfl rfl ?_
    refine rBoolD (d := 30) rfl (fun g3 => ?_) (fun g3 => ?_)
    ·
     replace g3 : (i : Int) ≠ (j : Int) := g3
     refine rSkipQ rfl rfl ?_
     refine pickB rfl rfl rfl rfl ?_
     refine rNil ?_
     refine qSeq rfl ?_
     refine hIfT rfl ?_
     refine hReg (sq 0 (sq 1 (sq 2 (sl 3 sz)))) (by kernel_rfl) ?_
     refine mvS rfl rfl rfl ?_
     refine mvI rfl rfl rfl ?_
     refine oxI (zn := j) 1 rfl el28 rfl rfl rfl rfl (by omega) (by omega) rfl ?_
     intro gk2 hgk2
     refine stoI (off := j) (x := 1) 1 rfl hgk2 Try.sizeOf2 trv rfl rfl rfl rfl (by omega) ?_
     refine rNil ?_
     refine qSeq rfl ?_
     refine hReg (sq 0 (sq 1 (sq 2 (sq 3 (sl 4 (sq 5 (sl 6 sz))))))) (by kernel_rfl) ?_
     refine mvS rfl rfl rfl ?_
     refine mvI rfl rfl rfl ?_
     refine mvI rfl rfl rfl ?_
     refine mvI rfl rfl rfl ?_
     refine callP (v := .int .i64 ((Math.order (i : Int) (j : Int)))) Try.call169 trv rfl rfl (fun w hs => cmp_Compare_int64_c _ _ w ) ?_
     refine oxI (zn := j) 0 rfl el28 rfl rfl rfl rfl (by omega) (by omega) rfl ?_
     intro gk3 hgk3
     refine stoI (off := j) (x := (Math.order (i : Int) (j : Int))) 0 rfl hgk3 Try.sizeOf2 trv rfl rfl rfl rfl (by omega) ?_
     refine rNil ?_
     refine qSeq rfl ?_
     refine hReg (sq 0 (sq 1 sz)) (by kernel_rfl) ?_
     refine add rfl rfl rfl rfl (by omega) ?_
     refine mvI rfl rfl rfl ?_
     refine rNil ?_
     rw [Math.fill_put 0 0 1 (Math.hcRow_len kk.toNat ag i) (by omega) (by rw [Math.hcRow_get (by omega)]; exact Math.hcCell_1 g3), Math.fill_put 0 0 (Math.order (i : Int) (j : Int)) (Math.hcWin_len kk.toNat i) (by omega) (Math.hcWin_get (by omega))]
     exact qNext rfl (j + 1) (by omega) (by omega) ⟨rfl, rfl, rfl, rfl, rfl, rfl, rfl, rfl, rfl, rfl, rfl, trivial⟩ (fun _ h => h.pick [0, 0, 0, 0, 0, 0, 0, 0])
    ·
     replace g3 : ¬ ((i : Int) ≠ (j : Int)) := g3
     refine mvB rfl rfl rfl ?_
     refine pickB rfl rfl rfl rfl ?_
     refine rNil ?_
     refine qSeq rfl ?_
     refine hIf rfl (fun c4 => ?_) (fun c4 => ?_)
     ·
      replace c4 : ag = true := c4
      refine hReg (sq 0 (sq 1 (sq 2 (sl 3 sz)))) (by kernel_rfl) ?_
      refine mvS rfl rfl rfl ?_
      refine mvI rfl rfl rfl ?_
      refine oxI (zn := j) 1 rfl el28 rfl rfl rfl rfl (by omega) (by omega) rfl ?_
      intro gk4 hgk4
      refine stoI (off := j) (x := 1) 1 rfl hgk4 Try.sizeOf2 trv rfl rfl rfl rfl (by omega) ?_
      refine rNil ?_
      refine qSeq rfl ?_
      refine hReg (sq 0 (sq 1 (sq 2 (sq 3 (sl 4 (sq 5 (sl 6 sz))))))) (by kernel_rfl) ?_
      refine mvS rfl rfl rfl ?_
      refine mvI rfl rfl rfl ?_
      refine mvI rfl rfl rfl ?_
      refine mvI rfl rfl rfl ?_
      refine callP (v := .int .i64 ((Math.order (i : Int) (j : Int)))) Try.call169 trv rfl rfl (fun w hs => cmp_Compare_int64_c _ _ w ) ?_
      refine oxI (zn := j) 0 rfl el28 rfl rfl rfl rfl (by omega) (by omega) rfl ?_
      intro gk5 hgk5
      refine stoI (off := j) (x := (Math.order (i : Int) (j : Int))) 0 rfl hgk5 Try.sizeOf2 trv rfl rfl rfl rfl (by omega) ?_
      refine rNil ?_
      refine qSeq rfl ?_
      refine hReg (sq 0 (sq 1 sz)) (by kernel_rfl) ?_
      refine add rfl rfl rfl rfl (by omega) ?_
      refine mvI rfl rfl rfl ?_
      refine rNil ?_
      rw [Math.fill_put 0 0 1 (Math.hcRow_len kk.toNat ag i) (by omega) (by rw [Math.hcRow_get (by omega)]; exact Math.hcCell_2 (by simpa using c4)), Math.fill_put 0 0 (Math.order (i : Int) (j : Int)) (Math.hcWin_len kk.toNat i) (by omega) (Math.hcWin_get (by omega))]
      exact qNext rfl (j + 1) (by omega) (by omega) ⟨rfl, rfl, rfl, rfl, rfl, rfl, rfl, rfl, rfl, rfl, rfl, trivial⟩ (fun _ h => h.pick [0, 0, 0, 0, 0, 0, 0, 0])
     ·
      replace c4 : ag = false := c4
      refine hSkip ?_
      refine qSeq rfl ?_
      refine hReg (sq 0 (sq 1 (sq 2 (sq 3 (sl 4 (sq 5 (sl 6 sz))))))) (by kernel_rfl) ?_
      refine mvS rfl rfl rfl ?_
      refine mvI rfl rfl rfl ?_
      refine mvI rfl rfl rfl ?_
      refine mvI rfl rfl rfl ?_
      refine callP (v := .int .i64 ((Math.order (i : Int) (j : Int)))) Try.call169 trv rfl rfl (fun w hs => cmp_Compare_int64_c _ _ w ) ?_
      refine oxI (zn := j) 0 rfl el28 rfl rfl rfl rfl (by omega) (by omega) rfl ?_
      intro gk6 hgk6
      refine stoI (off := j) (x := (Math.order (i : Int) (j : Int))) 0 rfl hgk6 Try.sizeOf2 trv rfl rfl rfl rfl (by omega) ?_
      refine rNil ?_
      refine qSeq rfl ?_
      refine hReg (sq 0 (sq 1 sz)) (by kernel_rfl) ?_
      refine add rfl rfl rfl rfl (by omega) ?_
      refine mvI rfl rfl rfl ?_
      refine rNil ?_
      rw [Math.fill_skip 0 0 (Math.hcRow_len kk.toNat ag i) (by omega) (by rw [Math.hcRow_get (by omega)]; exact Math.hcCell_0 (by omega) (by simpa using c4)), Math.fill_put 0 0 (Math.order (i : Int) (j : Int)) (Math.hcWin_len kk.toNat i) (by omega) (Math.hcWin_get (by omega))]
      exact qNext rfl (j + 1) (by omega) (by omega) ⟨rfl, rfl, rfl, rfl, rfl, rfl, rfl, rfl, rfl, rfl, rfl, trivial⟩ (fun _ h => h.pick [0, 0, 0, 0, 0, 0, 0, 0])
   ·
    replace c2 : ¬ ((j : Int) < kk) := c2
    rw [Math.fill_end 0 (Math.hcRow_len kk.toNat ag i) (by omega)]
    rw [Math.fill_end 0 (Math.hcWin_len kk.toNat i) (by omega)]
    refine hExit rfl ?_
    refine qSeq rfl ?_
    refine hDraw (Ls := []) (by kernel_rfl) (sq 0 (sq 2 (sq 5 (sq 7 (.alt (sl 1 (.alt (sl 3 (.alt (sl 4 (.alt (sl 6 (sq 10 (sl 8 (sl 9 (sl 11 (sq 12 (sf 13 sz))))))) (sl 8 (sl 6 (sq 10 (sl 9 (sl 11 (sq 12 (sf 13 sz))))))))) (.alt (sl 6 (.alt (sl 4 (sq 10 (sl 8 (sl 9 (sl 11 (sq 12 (sf 13 sz))))))) (sl 8 (sl 4 (sq 10 (sl 9 (sl 11 (sq 12 (sf 13 sz))))))))) (sl 8 (.alt (sl 4 (sl 6 (sq 10 (sl 9 (sl 11 (sq 12 (sf 13 sz))))))) (sl 6 (sl 4 (sq 10 (sl 9 (sl 11 (sq 12 (sf 13 sz)))))))))))) (.alt (sl 6 (.alt (sl 3 (.alt (sl 4 (sq 10 (sl 8 (sl 9 (sl 11 (sq 12 (sf 13 sz))))))) (sl 8 (sl 4 (sq 10 (sl 9 (sl 11 (sq 12 (sf 13 sz))))))))) (sl 8 (sl 3 (sl 4 (sq 10 (sl 9 (sl 11 (sq 12 (sf 13 sz)))))))))) (sl 8 (.alt (sl 3 (.alt (sl 4 (sl 6 (sq 10 (sl 9 (sl 11 (sq 12 (sf 13 sz))))))) (sl 6 (sl 4 (sq 10 (sl 9 (sl 11 (sq 12 (sf 13 sz))))))))) (sl 6 (sl 3 (sl 4 (sq 10 (sl 9 (sl 11 (sq 12 (sf 13 sz))))))))))))) (.alt (sl 3 (.alt (sl 1 (.alt (sl 4 (.alt (sl 6 (sq 10 (sl 8 (sl 9 (sl 11 (sq 12 (sf 13 sz))))))) (sl 8 (sl 6 (sq 10 (sl 9 (sl 11 (sq 12 (sf 13 sz))))))))) (.alt (sl 6 (.alt (sl 4 (sq 10 (sl 8 (sl 9 (sl 11 (sq 12 (sf 13 sz))))))) (sl 8 (sl 4 (sq 10 (sl 9 (sl 11 (sq 12 (sf 13 sz))))))))) (sl 8 (.alt (sl 4 (sl 6 (sq 10 (sl 9 (sl 11 (sq 12 (sf 13 sz))))))) (sl 6 (sl 4 (sq 10 (sl 9 (sl 11 (sq 12 (sf 13 sz)))))))))))) (.alt (sl 6 (.alt (sl 1 (.alt (sl 4 (sq 10 (sl 8 (sl 9 (sl 11 (sq 12 (sf 13 sz))))))) (sl 8 (sl 4 (sq 10 (sl 9 (sl 11 (sq 12 (sf 13 sz))))))))) (sl 8 (sl 1 (sl 4 (sq 10 (sl 9 (sl 11 (sq 12 (sf 13 sz)))))))))) (sl 8 (.alt (sl 1 (.alt (sl 4 (sl 6 (sq 10 (sl 9 (sl 11 (sq 12 (sf 13 sz))))))) (sl 6 (sl 4 (sq 10 (sl 9 (sl 11 (sq 12 (sf 13 sz))))))))) (sl 6 (sl 1 (sl 4 (sq 10 (sl 9 (sl 11 (sq 12 (sf 13 sz))))))))))))) (.alt (sl 6 (.alt (sl 1 (.alt (sl 3 (.alt (sl 4 (sq 10 (sl 8 (sl 9 (sl 11 (sq 12 (sf 13 sz))))))) (sl 8 (sl 4 (sq 10 (sl 9 (sl 11 (sq 12 (sf 13 sz))))))))) (sl 8 (sl 3 (sl 4 (sq 10 (sl 9 (sl 11 (sq 12 (sf 13 sz)))))))))) (.alt (sl 3 (.alt (sl 1 (.alt (sl 4 (sq 10 (sl 8 (sl 9 (sl 11 (sq 12 (sf 13 sz))))))) (sl 8 (sl 4 (sq 10 (sl 9 (sl 11 (sq 12 (sf 13 sz))))))))) (sl 8 (sl 1 (sl 4 (sq 10 (sl 9 (sl 11 (sq 12 (sf 13 sz)))))))))) (sl 8 (.alt (sl 1 (sl 3 (sl 4 (sq 10 (sl 9 (sl 11 (sq 12 (sf 13 sz)))))))) (sl 3 (sl 1 (sl 4 (sq 10 (sl 9 (sl 11 (sq 12 (sf 13 sz))))))))))))) (sl 8 (.alt (sl 1 (.alt (sl 3 (.alt (sl 4 (sl 6 (sq 10 (sl 9 (sl 11 (sq 12 (sf 13 sz))))))) (sl 6 (sl 4 (sq 10 (sl 9 (sl 11 (sq 12 (sf 13 sz))))))))) (sl 6 (sl 3 (sl 4 (sq 10 (sl 9 (sl 11 (sq 12 (sf 13 sz)))))))))) (.alt (sl 3 (.alt (sl 1 (.alt (sl 4 (sl 6 (sq 10 (sl 9 (sl 11 (sq 12 (sf 13 sz))))))) (sl 6 (sl 4 (sq 10 (sl 9 (sl 11 (sq 12 (sf 13 sz))))))))) (sl 6 (sl 1 (sl 4 (sq 10 (sl 9 (sl 11 (sq 12 (sf 13 sz)))))))))) (sl 6 (.alt (sl 1 (sl 3 (sl 4 (sq 10 (sl 9 (sl 11 (sq 12 (sf 13 sz)))))))) (sl 3 (sl 1 (sl 4 (sq 10 (sl 9 (sl 11 (sq 12 (sf 13 sz)))))))))))))))))))) (by kernel_rfl) (.cons _ (.cons _ (.cons _ (.cons _ (.cons _ (.cons _ (.cons _ (.cons _ .slnil)))))))) ?_
    refine fld fl43_1 rfl rfl rfl ?_
    refine mvS rfl rfl rfl ?_
    refine fld fl43_2 rfl rfl rfl ?_
    refine mvS rfl rfl rfl ?_
    refine rAlt ?_ ?_
    ·
     refine ldl Try.isAgg41 (cB 4 rfl rfl) (fun _ h => h.pick []) rfl rfl rfl ?_
     refine rAlt ?_ ?_
     ·
      refine bsl (fun _ _ h => h.pick []) rfl rfl rfl (bsl41_1 (.slice _ _ _) rfl) (fun bkl9 hbkl9 => ?_)
      refine rAlt ?_ ?_
      ·
       refine apR (hd := ((some ⟨bkm7, 0, none⟩), (kk).toNat)) (x := (Math.hcRow kk.toNat ag i)) 4 2 0 maK.ok rfl rfl rfl (fun h => by first | rfl | (dsimp only at h; rw [h]; rfl) | (rw [h]; rfl) | exact congrArg (fun m => [Value.slice _ m _]) h) mk41 (fun _ _ h => h.pick []) rfl rfl rfl rfl (by omega) ?_
       intro aq7 cq7
       refine rAlt ?_ ?_
       ·
        refine ldl Try.isAgg41 (cB 4 rfl rfl) (fun _ h => h.pick []) rfl rfl rfl ?_
        refine fld fl43_1 rfl rfl rfl ?_
        refine bsl (fun _ _ h => h.pick []) rfl rfl rfl (bsl41_1 (.slice _ _ _) rfl) (fun bkl10 hbkl10 => ?_)
        refine apR (hd := ((some ⟨bkm8, 0, none⟩), (kk).toNat)) (x := (Math.hcWin kk.toNat i)) 4 3 0 maK.ok rfl rfl rfl (fun h => by first | rfl | (dsimp only at h; rw [h]; rfl) | (rw [h]; rfl) | exact congrArg (fun m => [Value.slice _ m _]) h) mk41 (fun _ _ h => h.pick []) rfl rfl rfl rfl (by omega) ?_
        intro aq8 cq8
        refine stl (v := .slice _ _ _) 4 rfl Try.sizeOf41 (fun _ h => h.pick []) rfl rfl rfl rfl rfl (Nat.le_of_ble_eq_true rfl) ?_
        refine fld fl43_2 rfl rfl rfl ?_
        refine stf (v := .slice _ _ _) 4 rfl Try.sizeOf41 rfl rfl rfl rfl rfl (Nat.le_of_ble_eq_true rfl) ?_
        refine rNil ?_
        refine qSeq rfl ?_
        refine hReg (sq 0 (sq 1 sz)) (by kernel_rfl) ?_
        refine add rfl rfl rfl rfl (by omega) ?_
        refine mvI rfl rfl rfl ?_
        refine rNil ?_
        rw [Math.hcW_snoc, Math.hcV_snoc]
        exact qNext rfl ((i + 1, q + 1, ((aq7, cq7), (hset hd.2 (Math.hcW kk.toNat ag i).length ((some ⟨bkm7, 0, none⟩), (kk).toNat))), ((aq8, cq8), (hset he.2 (Math.hcV kk.toNat i).length ((some ⟨bkm8, 0, none⟩), (kk).toNat))))) (by dsimp only; omega) ⟨by dsimp only; omega, by dsimp only; omega⟩ ⟨rfl, rfl, rfl, rfl, rfl, rfl, trivial⟩ (fun _ h => h.pick [0, 1, 2, 2, 2, 2])
       ·
        refine bsl (fun _ _ h => h.pick []) rfl rfl rfl (bsl41_1 (.slice _ _ _) rfl) (fun bkl11 hbkl11 => ?_)
        refine ldl Try.isAgg41 (cB 5 rfl rfl) (fun _ h => h.pick []) rfl rfl rfl ?_
        refine fld fl43_1 rfl rfl rfl ?_
        refine apR (hd := ((some ⟨bkm8, 0, none⟩), (kk).toNat)) (x := (Math.hcWin kk.toNat i)) 4 3 0 maK.ok rfl rfl rfl (fun h => by first | rfl | (dsimp only at h; rw [h]; rfl) | (rw [h]; rfl) | exact congrArg (fun m => [Value.slice _ m _]) h) mk41 (fun _ _ h => h.pick []) rfl rfl rfl rfl (by omega) ?_
        intro aq9 cq9
        refine stl (v := .slice _ _ _) 4 rfl Try.sizeOf41 (fun _ h => h.pick []) rfl rfl rfl rfl rfl (Nat.le_of_ble_eq_true rfl) ?_
        refine fld fl43_2 rfl rfl rfl ?_
        refine stf (v := .slice _ _ _) 4 rfl Try.sizeOf41 rfl rfl rfl rfl rfl (Nat.le_of_ble_eq_true rfl) ?_
        refine rNil ?_
        refine qSeq rfl ?_
        refine hReg (sq 0 (sq 1 sz)) (by kernel_rfl) ?_
        refine add rfl rfl rfl rfl (by omega) ?_
        refine mvI rfl rfl rfl ?_
        refine rNil ?_
        rw [Math.hcW_snoc, Math.hcV_snoc]
        exact qNext rfl ((i + 1, q + 1, ((aq7, cq7), (hset hd.2 (Math.hcW kk.toNat ag i).length ((some ⟨bkm7, 0, none⟩), (kk).toNat))), ((aq9, cq9), (hset he.2 (Math.hcV kk.toNat i).length ((some ⟨bkm8, 0, none⟩), (kk).toNat))))) (by dsimp only; omega) ⟨by dsimp only; omega, by dsimp only; omega⟩ ⟨rfl, rfl, rfl, rfl, rfl, rfl, trivial⟩ (fun _ h => h.pick [0, 1, 2, 2, 2, 2])
      ·
       refine rAlt ?_ ?_
       ·
        refine ldl Try.isAgg41 (cB 5 rfl rfl) (fun _ h => h.pick []) rfl rfl rfl ?_
        refine rAlt ?_ ?_
        ·
         refine apR (hd := ((some ⟨bkm7, 0, none⟩), (kk).toNat)) (x := (Math.hcRow kk.toNat ag i)) 4 2 0 maK.ok rfl rfl rfl (fun h => by first | rfl | (dsimp only at h; rw [h]; rfl) | (rw [h]; rfl) | exact congrArg (fun m => [Value.slice _ m _]) h) mk41 (fun _ _ h => h.pick []) rfl rfl rfl rfl (by omega) ?_
         intro aq10 cq10
         refine fld fl43_1 rfl rfl rfl ?_
         refine bsl (fun _ _ h => h.pick []) rfl rfl rfl (bsl41_1 (.slice _ _ _) rfl) (fun bkl12 hbkl12 => ?_)
         refine apR (hd := ((some ⟨bkm8, 0, none⟩), (kk).toNat)) (x := (Math.hcWin kk.toNat i)) 4 3 0 maK.ok rfl rfl rfl (fun h => by first | rfl | (dsimp only at h; rw [h]; rfl) | (rw [h]; rfl) | exact congrArg (fun m => [Value.slice _ m _]) h) mk41 (fun _ _ h => h.pick []) rfl rfl rfl rfl (by omega) ?_
         intro aq11 cq11
         refine stl (v := .slice _ _ _) 4 rfl Try.sizeOf41 (fun _ h => h.pick []) rfl rfl rfl rfl rfl (Nat.le_of_ble_eq_true rfl) ?_
         refine fld fl43_2 rfl rfl rfl ?_
         refine stf (v := .slice _ _ _) 4 rfl Try.sizeOf41 rfl rfl rfl rfl rfl (Nat.le_of_ble_eq_true rfl) ?_
         refine rNil ?_
         refine qSeq rfl ?_
         refine hReg (sq 0 (sq 1 sz)) (by kernel_rfl) ?_
         refine add rfl rfl rfl rfl (by omega) ?_
         refine mvI rfl rfl rfl ?_
         refine rNil ?_
         rw [Math.hcW_snoc, Math.hcV_snoc]
         exact qNext rfl ((i + 1, q + 1, ((aq10, cq10), (hset hd.2 (Math.hcW kk.toNat ag i).length ((some ⟨bkm7, 0, none⟩), (kk).toNat))), ((aq11, cq11), (hset he.2 (Math.hcV kk.toNat i).length ((some ⟨bkm8, 0, none⟩), (kk).toNat))))) (by dsimp only; omega) ⟨by dsimp only; omega, by dsimp only; omega⟩ ⟨rfl, rfl, rfl, rfl, rfl, rfl, trivial⟩ (fun _ h => h.pick [0, 1, 2, 2, 2, 2])
        ·
         refine bsl (fun _ _ h => h.pick []) rfl rfl rfl (bsl41_1 (.slice _ _ _) rfl) (fun bkl13 hbkl13 => ?_)
         refine apR (hd := ((some ⟨bkm7, 0, none⟩), (kk).toNat)) (x := (Math.hcRow kk.toNat ag i)) 5 3 1 maK.ok rfl rfl rfl (fun h => by first | rfl | (dsimp only at h; rw [h]; rfl) | (rw [h]; rfl) | exact congrArg (fun m => [Value.slice _ m _]) h) mk41 (fun _ _ h => h.pick []) rfl rfl rfl rfl (by omega) ?_
         intro aq12 cq12
         refine fld fl43_1 rfl rfl rfl ?_
         refine apR (hd := ((some ⟨bkm8, 0, none⟩), (kk).toNat)) (x := (Math.hcWin kk.toNat i)) 4 3 1 maK.ok rfl rfl rfl (fun h => by first | rfl | (dsimp only at h; rw [h]; rfl) | (rw [h]; rfl) | exact congrArg (fun m => [Value.slice _ m _]) h) mk41 (fun _ _ h => h.pick []) rfl rfl rfl rfl (by omega) ?_
         intro aq13 cq13
         refine stl (v := .slice _ _ _) 4 rfl Try.sizeOf41 (fun _ h => h.pick []) rfl rfl rfl rfl rfl (Nat.le_of_ble_eq_true rfl) ?_
         refine fld fl43_2 rfl rfl rfl ?_
         refine stf (v := .slice _ _ _) 4 rfl Try.sizeOf41 rfl rfl rfl rfl rfl (Nat.le_of_ble_eq_true rfl) ?_
         refine rNil ?_
         refine qSeq rfl ?_
         refine hReg (sq 0 (sq 1 sz)) (by kernel_rfl) ?_
         refine add rfl rfl rfl rfl (by omega) ?_
         refine mvI rfl rfl rfl ?_
         refine rNil ?_
         rw [Math.hcW_snoc, Math.hcV_snoc]
         exact qNext rfl ((i + 1, q + 1, ((aq12, cq12), (hset hd.2 (Math.hcW kk.toNat ag i).length ((some ⟨bkm7, 0, none⟩), (kk).toNat))), ((aq13, cq13), (hset he.2 (Math.hcV kk.toNat i).length ((some ⟨bkm8, 0, none⟩), (kk).toNat))))) (by dsimp only; omega) ⟨by dsimp only; omega, by dsimp only; omega⟩ ⟨rfl, rfl, rfl, rfl, rfl, rfl, trivial⟩ (fun _ h => h.pick [0, 0, 2, 2, 2, 2])
       ·
        refine bsl (fun _ _ h => h.pick []) rfl rfl rfl (bsl41_1 (.slice _ _ _) rfl) (fun bkl14 hbkl14 => ?_)
        refine rAlt ?_ ?_
        ·
         refine apR (hd := ((some ⟨bkm7, 0, none⟩), (kk).toNat)) (x := (Math.hcRow kk.toNat ag i)) 5 3 1 maK.ok rfl rfl rfl (fun h => by first | rfl | (dsimp only at h; rw [h]; rfl) | (rw [h]; rfl) | exact congrArg (fun m => [Value.slice _ m _]) h) mk41 (fun _ _ h => h.pick []) rfl rfl rfl rfl (by omega) ?_
         intro aq14 cq14
         refine ldl Try.isAgg41 (cB 5 rfl rfl) (fun _ h => h.pick []) rfl rfl rfl ?_
         refine fld fl43_1 rfl rfl rfl ?_
         refine apR (hd := ((some ⟨bkm8, 0, none⟩), (kk).toNat)) (x := (Math.hcWin kk.toNat i)) 4 3 1 maK.ok rfl rfl rfl (fun h => by first | rfl | (dsimp only at h; rw [h]; rfl) | (rw [h]; rfl) | exact congrArg (fun m => [Value.slice _ m _]) h) mk41 (fun _ _ h => h.pick []) rfl rfl rfl rfl (by omega) ?_
         intro aq15 cq15
         refine stl (v := .slice _ _ _) 4 rfl Try.sizeOf41 (fun _ h => h.pick []) rfl rfl rfl rfl rfl (Nat.le_of_ble_eq_true rfl) ?_
         refine fld fl43_2 rfl rfl rfl ?_
         refine stf (v := .slice _ _ _) 4 rfl Try.sizeOf41 rfl rfl rfl rfl rfl (Nat.le_of_ble_eq_true rfl) ?_
         refine rNil ?_
         refine qSeq rfl ?_
         refine hReg (sq 0 (sq 1 sz)) (by kernel_rfl) ?_
         refine add rfl rfl rfl rfl (by omega) ?_
         refine mvI rfl rfl rfl ?_
         refine rNil ?_
         rw [Math.hcW_snoc, Math.hcV_snoc]
         exact qNext rfl ((i + 1, q + 1, ((aq14, cq14), (hset hd.2 (Math.hcW kk.toNat ag i).length ((some ⟨bkm7, 0, none⟩), (kk).toNat))), ((aq15, cq15), (hset he.2 (Math.hcV kk.toNat i).length ((some ⟨bkm8, 0, none⟩), (kk).toNat))))) (by dsimp only; omega) ⟨by dsimp only; omega, by dsimp only; omega⟩ ⟨rfl, rfl, rfl, rfl, rfl, rfl, trivial⟩ (fun _ h => h.pick [0, 0, 2, 2, 2, 2])
        ·
         refine ldl Try.isAgg41 (cB 6 rfl rfl) (fun _ h => h.pick []) rfl rfl rfl ?_
         refine apR (hd := ((some ⟨bkm7, 0, none⟩), (kk).toNat)) (x := (Math.hcRow kk.toNat ag i)) 5 3 1 maK.ok rfl rfl rfl (fun h => by first | rfl | (dsimp only at h; rw [h]; rfl) | (rw [h]; rfl) | exact congrArg (fun m => [Value.slice _ m _]) h) mk41 (fun _ _ h => h.pick []) rfl rfl rfl rfl (by omega) ?_
         intro aq16 cq16
         refine fld fl43_1 rfl rfl rfl ?_
         refine apR (hd := ((some ⟨bkm8, 0, none⟩), (kk).toNat)) (x := (Math.hcWin kk.toNat i)) 4 3 1 maK.ok rfl rfl rfl (fun h => by first | rfl | (dsimp only at h; rw [h]; rfl) | (rw [h]; rfl) | exact congrArg (fun m => [Value.slice _ m _]) h) mk41 (fun _ _ h => h.pick []) rfl rfl rfl rfl (by omega) ?_
         intro aq17 cq17
         refine stl (v := .slice _ _ _) 4 rfl Try.sizeOf41 (fun _ h => h.pick []) rfl rfl rfl rfl rfl (Nat.le_of_ble_eq_true rfl) ?_
         refine fld fl43_2 rfl rfl rfl ?_
         refine stf (v := .slice _ _ _) 4 rfl Try.sizeOf41 rfl rfl rfl rfl rfl (Nat.le_of_ble_eq_true rfl) ?_
         refine rNil ?_
         refine qSeq rfl ?_
         refine hReg (sq 0 (sq 1 sz)) (by kernel_rfl) ?_
         refine add rfl rfl rfl rfl (by omega) ?_
         refine mvI rfl rfl rfl ?_
         refine rNil ?_
         rw [Math.hcW_snoc, Math.hcV_snoc]
         exact qNext rfl ((i + 1, q + 1, ((aq16, cq16), (hset hd.2 (Math.hcW kk.toNat ag i).length ((some ⟨bkm7, 0, none⟩), (kk).toNat))), ((aq17, cq17), (hset he.2 (Math.hcV kk.toNat i).length ((some ⟨bkm8, 0, none⟩), (kk).toNat))))) (by dsimp only; omega) ⟨by dsimp only; omega, by dsimp only; omega⟩ ⟨rfl, rfl, rfl, rfl, rfl, rfl, trivial⟩ (fun _ h => h.pick [0, 0, 2, 2, 2, 2])
     ·
      refine rAlt ?_ ?_
      ·
       refine ldl Try.isAgg41 (cB 4 rfl rfl) (fun _ h => h.pick []) rfl rfl rfl ?_
       refine rAlt ?_ ?_
       ·
        refine bsl (fun _ _ h => h.pick []) rfl rfl rfl (bsl41_1 (.slice _ _ _) rfl) (fun bkl15 hbkl15 => ?_)
        refine rAlt ?_ ?_
        ·
         refine apR (hd := ((some ⟨bkm7, 0, none⟩), (kk).toNat)) (x := (Math.hcRow kk.toNat ag i)) 4 2 0 maK.ok rfl rfl rfl (fun h => by first | rfl | (dsimp only at h; rw [h]; rfl) | (rw [h]; rfl) | exact congrArg (fun m => [Value.slice _ m _]) h) mk41 (fun _ _ h => h.pick []) rfl rfl rfl rfl (by omega) ?_
         intro aq18 cq18
         refine fld fl43_1 rfl rfl rfl ?_
         refine bsl (fun _ _ h => h.pick []) rfl rfl rfl (bsl41_1 (.slice _ _ _) rfl) (fun bkl16 hbkl16 => ?_)
         refine apR (hd := ((some ⟨bkm8, 0, none⟩), (kk).toNat)) (x := (Math.hcWin kk.toNat i)) 4 3 0 maK.ok rfl rfl rfl (fun h => by first | rfl | (dsimp only at h; rw [h]; rfl) | (rw [h]; rfl) | exact congrArg (fun m => [Value.slice _ m _]) h) mk41 (fun _ _ h => h.pick []) rfl rfl rfl rfl (by omega) ?_
         intro aq19 cq19
         refine stl (v := .slice _ _ _) 4 rfl Try.sizeOf41 (fun _ h => h.pick []) rfl rfl rfl rfl rfl (Nat.le_of_ble_eq_true rfl) ?_
         refine fld fl43_2 rfl rfl rfl ?_
         refine stf (v := .slice _ _ _) 4 rfl Try.sizeOf41 rfl rfl rfl rfl rfl (Nat.le_of_ble_eq_true rfl) ?_
         refine rNil ?_
         refine qSeq rfl ?_
         refine hReg (sq 0 (sq 1 sz)) (by kernel_rfl) ?_
         refine add rfl rfl rfl rfl (by omega) ?_
         refine mvI rfl rfl rfl ?_
         refine rNil ?_
         rw [Math.hcW_snoc, Math.hcV_snoc]
         exact qNext rfl ((i + 1, q + 1, ((aq18, cq18), (hset hd.2 (Math.hcW kk.toNat ag i).length ((some ⟨bkm7, 0, none⟩), (kk).toNat))), ((aq19, cq19), (hset he.2 (Math.hcV kk.toNat i).length ((some ⟨bkm8, 0, none⟩), (kk).toNat))))) (by dsimp only; omega) ⟨by dsimp only; omega, by dsimp only; omega⟩ ⟨rfl, rfl, rfl, rfl, rfl, rfl, trivial⟩ (fun _ h => h.pick [0, 1, 2, 2, 2, 2])
        ·
         refine bsl (fun _ _ h => h.pick []) rfl rfl rfl (bsl41_1 (.slice _ _ _) rfl) (fun bkl17 hbkl17 => ?_)
         refine apR (hd := ((some ⟨bkm7, 0, none⟩), (kk).toNat)) (x := (Math.hcRow kk.toNat ag i)) 5 3 1 maK.ok rfl rfl rfl (fun h => by first | rfl | (dsimp only at h; rw [h]; rfl) | (rw [h]; rfl) | exact congrArg (fun m => [Value.slice _ m _]) h) mk41 (fun _ _ h => h.pick []) rfl rfl rfl rfl (by omega) ?_
         intro aq20 cq20
         refine fld fl43_1 rfl rfl rfl ?_
         refine apR (hd := ((some ⟨bkm8, 0, none⟩), (kk).toNat)) (x := (Math.hcWin kk.toNat i)) 4 3 1 maK.ok rfl rfl rfl (fun h => by first | rfl | (dsimp only at h; rw [h]; rfl) | (rw [h]; rfl) | exact congrArg (fun m => [Value.slice _ m _]) h) mk41 (fun _ _ h => h.pick []) rfl rfl rfl rfl (by omega) ?_
         intro aq21 cq21
         refine stl (v := .slice _ _ _) 4 rfl Try.sizeOf41 (fun _ h => h.pick []) rfl rfl rfl rfl rfl (Nat.le_of_ble_eq_true rfl) ?_
         refine fld fl43_2 rfl rfl rfl ?_
         refine stf (v := .slice _ _ _) 4 rfl Try.sizeOf41 rfl rfl rfl rfl rfl (Nat.le_of_ble_eq_true rfl) ?_
         refine rNil ?_
         refine qSeq rfl ?_
         refine hReg (sq 0 (sq 1 sz)) (by kernel_rfl) ?_
         refine add rfl rfl rfl rfl (by omega) ?_
         refine mvI rfl rfl rfl ?_
         refine rNil ?_
         rw [Math.hcW_snoc, Math.hcV_snoc]
         exact qNext rfl ((i + 1, q + 1, ((aq20, cq20), (hset hd.2 (Math.hcW kk.toNat ag i).length ((some ⟨bkm7, 0, none⟩), (kk).toNat))), ((aq21, cq21), (hset he.2 (Math.hcV kk.toNat i).length ((some ⟨bkm8, 0, none⟩), (kk).toNat))))) (by dsimp only; omega) ⟨by dsimp only; omega, by dsimp only; omega⟩ ⟨rfl, rfl, rfl, rfl, rfl, rfl, trivial⟩ (fun _ h => h.pick [0, 0, 2, 2, 2, 2])
       ·
        refine bsl (fun _ _ h => h.pick []) rfl rfl rfl (bsl41_1 (.slice _ _ _) rfl) (fun bkl18 hbkl18 => ?_)
        refine bsl (fun _ _ h => h.pick []) rfl rfl rfl (bsl41_1 (.slice _ _ _) rfl) (fun bkl19 hbkl19 => ?_)
        refine apR (hd := ((some ⟨bkm7, 0, none⟩), (kk).toNat)) (x := (Math.hcRow kk.toNat ag i)) 5 3 0 maK.ok rfl rfl rfl (fun h => by first | rfl | (dsimp only at h; rw [h]; rfl) | (rw [h]; rfl) | exact congrArg (fun m => [Value.slice _ m _]) h) mk41 (fun _ _ h => h.pick []) rfl rfl rfl rfl (by omega) ?_
        intro aq22 cq22
        refine fld fl43_1 rfl rfl rfl ?_
        refine apR (hd := ((some ⟨bkm8, 0, none⟩), (kk).toNat)) (x := (Math.hcWin kk.toNat i)) 4 3 2 maK.ok rfl rfl rfl (fun h => by first | rfl | (dsimp only at h; rw [h]; rfl) | (rw [h]; rfl) | exact congrArg (fun m => [Value.slice _ m _]) h) mk41 (fun _ _ h => h.pick []) rfl rfl rfl rfl (by omega) ?_
        intro aq23 cq23
        refine stl (v := .slice _ _ _) 4 rfl Try.sizeOf41 (fun _ h => h.pick []) rfl rfl rfl rfl rfl (Nat.le_of_ble_eq_true rfl) ?_
        refine fld fl43_2 rfl rfl rfl ?_
        refine stf (v := .slice _ _ _) 4 rfl Try.sizeOf41 rfl rfl rfl rfl rfl (Nat.le_of_ble_eq_true rfl) ?_
        refine rNil ?_
        refine qSeq rfl ?_
        refine hReg (sq 0 (sq 1 sz)) (by kernel_rfl) ?_
        refine add rfl rfl rfl rfl (by omega) ?_
        refine mvI rfl rfl rfl ?_
        refine rNil ?_
        rw [Math.hcW_snoc, Math.hcV_snoc]
        exact qNext rfl ((i + 1, q + 1, ((aq22, cq22), (hset hd.2 (Math.hcW kk.toNat ag i).length ((some ⟨bkm7, 0, none⟩), (kk).toNat))), ((aq23, cq23), (hset he.2 (Math.hcV kk.toNat i).length ((some ⟨bkm8, 0, none⟩), (kk).toNat))))) (by dsimp only; omega) ⟨by dsimp only; omega, by dsimp only; omega⟩ ⟨rfl, rfl, rfl, rfl, rfl, rfl, trivial⟩ (fun _ h => h.pick [0, 0, 2, 2, 2, 2])
      ·
       refine bsl (fun _ _ h => h.pick []) rfl rfl rfl (bsl41_1 (.slice _ _ _) rfl) (fun bkl20 hbkl20 => ?_)
       refine rAlt ?_ ?_
       ·
        refine bsl (fun _ _ h => h.pick []) rfl rfl rfl (bsl41_1 (.slice _ _ _) rfl) (fun bkl21 hbkl21 => ?_)
        refine rAlt ?_ ?_
        ·
         refine apR (hd := ((some ⟨bkm7, 0, none⟩), (kk).toNat)) (x := (Math.hcRow kk.toNat ag i)) 5 3 0 maK.ok rfl rfl rfl (fun h => by first | rfl | (dsimp only at h; rw [h]; rfl) | (rw [h]; rfl) | exact congrArg (fun m => [Value.slice _ m _]) h) mk41 (fun _ _ h => h.pick []) rfl rfl rfl rfl (by omega) ?_
         intro aq24 cq24
         refine ldl Try.isAgg41 (cB 5 rfl rfl) (fun _ h => h.pick []) rfl rfl rfl ?_
         refine fld fl43_1 rfl rfl rfl ?_
         refine apR (hd := ((some ⟨bkm8, 0, none⟩), (kk).toNat)) (x := (Math.hcWin kk.toNat i)) 4 3 2 maK.ok rfl rfl rfl (fun h => by first | rfl | (dsimp only at h; rw [h]; rfl) | (rw [h]; rfl) | exact congrArg (fun m => [Value.slice _ m _]) h) mk41 (fun _ _ h => h.pick []) rfl rfl rfl rfl (by omega) ?_
         intro aq25 cq25
         refine stl (v := .slice _ _ _) 4 rfl Try.sizeOf41 (fun _ h => h.pick []) rfl rfl rfl rfl rfl (Nat.le_of_ble_eq_true rfl) ?_
         refine fld fl43_2 rfl rfl rfl ?_
         refine stf (v := .slice _ _ _) 4 rfl Try.sizeOf41 rfl rfl rfl rfl rfl (Nat.le_of_ble_eq_true rfl) ?_
         refine rNil ?_
         refine qSeq rfl ?_
         refine hReg (sq 0 (sq 1 sz)) (by kernel_rfl) ?_
         refine add rfl rfl rfl rfl (by omega) ?_
         refine mvI rfl rfl rfl ?_
         refine rNil ?_
         rw [Math.hcW_snoc, Math.hcV_snoc]
         exact qNext rfl ((i + 1, q + 1, ((aq24, cq24), (hset hd.2 (Math.hcW kk.toNat ag i).length ((some ⟨bkm7, 0, none⟩), (kk).toNat))), ((aq25, cq25), (hset he.2 (Math.hcV kk.toNat i).length ((some ⟨bkm8, 0, none⟩), (kk).toNat))))) (by dsimp only; omega) ⟨by dsimp only; omega, by dsimp only; omega⟩ ⟨rfl, rfl, rfl, rfl, rfl, rfl, trivial⟩ (fun _ h => h.pick [0, 0, 2, 2, 2, 2])
        ·
         refine ldl Try.isAgg41 (cB 6 rfl rfl) (fun _ h => h.pick []) rfl rfl rfl ?_
         refine apR (hd := ((some ⟨bkm7, 0, none⟩), (kk).toNat)) (x := (Math.hcRow kk.toNat ag i)) 5 3 0 maK.ok rfl rfl rfl (fun h => by first | rfl | (dsimp only at h; rw [h]; rfl) | (rw [h]; rfl) | exact congrArg (fun m => [Value.slice _ m _]) h) mk41 (fun _ _ h => h.pick []) rfl rfl rfl rfl (by omega) ?_
         intro aq26 cq26
         refine fld fl43_1 rfl rfl rfl ?_
         refine apR (hd := ((some ⟨bkm8, 0, none⟩), (kk).toNat)) (x := (Math.hcWin kk.toNat i)) 4 3 2 maK.ok rfl rfl rfl (fun h => by first | rfl | (dsimp only at h; rw [h]; rfl) | (rw [h]; rfl) | exact congrArg (fun m => [Value.slice _ m _]) h) mk41 (fun _ _ h => h.pick []) rfl rfl rfl rfl (by omega) ?_
         intro aq27 cq27
         refine stl (v := .slice _ _ _) 4 rfl Try.sizeOf41 (fun _ h => h.pick []) rfl rfl rfl rfl rfl (Nat.le_of_ble_eq_true rfl) ?_
         refine fld fl43_2 rfl rfl rfl ?_
         refine stf (v := .slice _ _ _) 4 rfl Try.sizeOf41 rfl rfl rfl rfl rfl (Nat.le_of_ble_eq_true rfl) ?_
         refine rNil ?_
         refine qSeq rfl ?_
         refine hReg (sq 0 (sq 1 sz)) (by kernel_rfl) ?_
         refine add rfl rfl rfl rfl (by omega) ?_
         refine mvI rfl rfl rfl ?_
         refine rNil ?_
         rw [Math.hcW_snoc, Math.hcV_snoc]
         exact qNext rfl ((i + 1, q + 1, ((aq26, cq26), (hset hd.2 (Math.hcW kk.toNat ag i).length ((some ⟨bkm7, 0, none⟩), (kk).toNat))), ((aq27, cq27), (hset he.2 (Math.hcV kk.toNat i).length ((some ⟨bkm8, 0, none⟩), (kk).toNat))))) (by dsimp only; omega) ⟨by dsimp only; omega, by dsimp only; omega⟩ ⟨rfl, rfl, rfl, rfl, rfl, rfl, trivial⟩ (fun _ h => h.pick [0, 0, 2, 2, 2, 2])
       ·
        refine ldl Try.isAgg41 (cB 5 rfl rfl) (fun _ h => h.pick []) rfl rfl rfl ?_
        refine bsl (fun _ _ h => h.pick []) rfl rfl rfl (bsl41_1 (.slice _ _ _) rfl) (fun bkl22 hbkl22 => ?_)
        refine apR (hd := ((some ⟨bkm7, 0, none⟩), (kk).toNat)) (x := (Math.hcRow kk.toNat ag i)) 5 3 0 maK.ok rfl rfl rfl (fun h => by first | rfl | (dsimp only at h; rw [h]; rfl) | (rw [h]; rfl) | exact congrArg (fun m => [Value.slice _ m _]) h) mk41 (fun _ _ h => h.pick []) rfl rfl rfl rfl (by omega) ?_
        intro aq28 cq28
        refine fld fl43_1 rfl rfl rfl ?_
        refine apR (hd := ((some ⟨bkm8, 0, none⟩), (kk).toNat)) (x := (Math.hcWin kk.toNat i)) 4 3 2 maK.ok rfl rfl rfl (fun h => by first | rfl | (dsimp only at h; rw [h]; rfl) | (rw [h]; rfl) | exact congrArg (fun m => [Value.slice _ m _]) h) mk41 (fun _ _ h => h.pick []) rfl rfl rfl rfl (by omega) ?_
        intro aq29 cq29
        refine stl (v := .slice _ _ _) 4 rfl Try.sizeOf41 (fun _ h => h.pick []) rfl rfl rfl rfl rfl (Nat.le_of_ble_eq_true rfl) ?_
        refine fld fl43_2 rfl rfl rfl ?_
        refine stf (v := .slice _ _ _) 4 rfl Try.sizeOf41 rfl rfl rfl rfl rfl (Nat.le_of_ble_eq_true rfl) ?_
        refine rNil ?_
        refine qSeq rfl ?_
        refine hReg (sq 0 (sq 1 sz)) (by kernel_rfl) ?_
        refine add rfl rfl rfl rfl (by omega) ?_
        refine mvI rfl rfl rfl ?_
        refine rNil ?_
        rw [Math.hcW_snoc, Math.hcV_snoc]
        exact qNext rfl ((i + 1, q + 1, ((aq28, cq28), (hset hd.2 (Math.hcW kk.toNat ag i).length ((some ⟨bkm7, 0, none⟩), (kk).toNat))), ((aq29, cq29), (hset he.2 (Math.hcV kk.toNat i).length ((some ⟨bkm8, 0, none⟩), (kk).toNat))))) (by dsimp only; omega) ⟨by dsimp only; omega, by dsimp only; omega⟩ ⟨rfl, rfl, rfl, rfl, rfl, rfl, trivial⟩ (fun _ h => h.pick [0, 0, 2, 2, 2, 2])
    ·
     refine rAlt ?_ ?_
     ·
      refine bsl (fun _ _ h => h.pick []) rfl rfl rfl (bsl41_1 (.slice _ _ _) rfl) (fun bkl23 hbkl23 => ?_)
      refine rAlt ?_ ?_
      ·
       refine ldl Try.isAgg41 (cB 5 rfl rfl) (fun _ h => h.pick []) rfl rfl rfl ?_
       refine rAlt ?_ ?_
       ·
        refine apR (hd := ((some ⟨bkm7, 0, none⟩), (kk).toNat)) (x := (Math.hcRow kk.toNat ag i)) 4 2 0 maK.ok rfl rfl rfl (fun h => by first | rfl | (dsimp only at h; rw [h]; rfl) | (rw [h]; rfl) | exact congrArg (fun m => [Value.slice _ m _]) h) mk41 (fun _ _ h => h.pick []) rfl rfl rfl rfl (by omega) ?_
        intro aq30 cq30
        refine rAlt ?_ ?_
        ·
         refine ldl Try.isAgg41 (cB 4 rfl rfl) (fun _ h => h.pick []) rfl rfl rfl ?_
         refine fld fl43_1 rfl rfl rfl ?_
         refine bsl (fun _ _ h => h.pick []) rfl rfl rfl (bsl41_1 (.slice _ _ _) rfl) (fun bkl24 hbkl24 => ?_)
         refine apR (hd := ((some ⟨bkm8, 0, none⟩), (kk).toNat)) (x := (Math.hcWin kk.toNat i)) 4 3 0 maK.ok rfl rfl rfl (fun h => by first | rfl | (dsimp only at h; rw [h]; rfl) | (rw [h]; rfl) | exact congrArg (fun m => [Value.slice _ m _]) h) mk41 (fun _ _ h => h.pick []) rfl rfl rfl rfl (by omega) ?_
         intro aq31 cq31
         refine stl (v := .slice _ _ _) 4 rfl Try.sizeOf41 (fun _ h => h.pick []) rfl rfl rfl rfl rfl (Nat.le_of_ble_eq_true rfl) ?_
         refine fld fl43_2 rfl rfl rfl ?_
         refine stf (v := .slice _ _ _) 4 rfl Try.sizeOf41 rfl rfl rfl rfl rfl (Nat.le_of_ble_eq_true rfl) ?_
         refine rNil ?_
         refine qSeq rfl ?_
         refine hReg (sq 0 (sq 1 sz)) (by kernel_rfl) ?_
         refine add rfl rfl rfl rfl (by omega) ?_
         refine mvI rfl rfl rfl ?_
         refine rNil ?_
         rw [Math.hcW_snoc, Math.hcV_snoc]
         exact qNext rfl ((i + 1, q + 1, ((aq30, cq30), (hset hd.2 (Math.hcW kk.toNat ag i).length ((some ⟨bkm7, 0, none⟩), (kk).toNat))), ((aq31, cq31), (hset he.2 (Math.hcV kk.toNat i).length ((some ⟨bkm8, 0, none⟩), (kk).toNat))))) (by dsimp only; omega) ⟨by dsimp only; omega, by dsimp only; omega⟩ ⟨rfl, rfl, rfl, rfl, rfl, rfl, trivial⟩ (fun _ h => h.pick [0, 1, 2, 2, 2, 2])
        ·
         refine bsl (fun _ _ h => h.pick []) rfl rfl rfl (bsl41_1 (.slice _ _ _) rfl) (fun bkl25 hbkl25 => ?_)
         refine ldl Try.isAgg41 (cB 5 rfl rfl) (fun _ h => h.pick []) rfl rfl rfl ?_
         refine fld fl43_1 rfl rfl rfl ?_
         refine apR (hd := ((some ⟨bkm8, 0, none⟩), (kk).toNat)) (x := (Math.hcWin kk.toNat i)) 4 3 0 maK.ok rfl rfl rfl (fun h => by first | rfl | (dsimp only at h; rw [h]; rfl) | (rw [h]; rfl) | exact congrArg (fun m => [Value.slice _ m _]) h) mk41 (fun _ _ h => h.pick []) rfl rfl rfl rfl (by omega) ?_
         intro aq32 cq32
         refine stl (v := .slice _ _ _) 4 rfl Try.sizeOf41 (fun _ h => h.pick []) rfl rfl rfl rfl rfl (Nat.le_of_ble_eq_true rfl) ?_
         refine fld fl43_2 rfl rfl rfl ?_
         refine stf (v := .slice _ _ _) 4 rfl Try.sizeOf41 rfl rfl rfl rfl rfl (Nat.le_of_ble_eq_true rfl) ?_
         refine rNil ?_
         refine qSeq rfl ?_
         refine hReg (sq 0 (sq 1 sz)) (by kernel_rfl) ?_
         refine add rfl rfl rfl rfl (by omega) ?_
         refine mvI rfl rfl rfl ?_
         refine rNil ?_
         rw [Math.hcW_snoc, Math.hcV_snoc]
         exact qNext rfl ((i + 1, q + 1, ((aq30, cq30), (hset hd.2 (Math.hcW kk.toNat ag i).length ((some ⟨bkm7, 0, none⟩), (kk).toNat))), ((aq32, cq32), (hset he.2 (Math.hcV kk.toNat i).length ((some ⟨bkm8, 0, none⟩), (kk).toNat))))) (by dsimp only; omega) ⟨by dsimp only; omega, by dsimp only; omega⟩ ⟨rfl, rfl, rfl, rfl, rfl, rfl, trivial⟩ (fun _ h => h.pick [0, 1, 2, 2, 2, 2])
       ·
        refine rAlt ?_ ?_
        ·
         refine ldl Try.isAgg41 (cB 5 rfl rfl) (fun _ h => h.pick []) rfl rfl rfl ?_
         refine rAlt ?_ ?_
         ·
          refine apR (hd := ((some ⟨bkm7, 0, none⟩), (kk).toNat)) (x := (Math.hcRow kk.toNat ag i)) 4 2 0 maK.ok rfl rfl rfl (fun h => by first | rfl | (dsimp only at h; rw [h]; rfl) | (rw [h]; rfl) | exact congrArg (fun m => [Value.slice _ m _]) h) mk41 (fun _ _ h => h.pick []) rfl rfl rfl rfl (by omega) ?_
          intro aq33 cq33
          refine fld fl43_1 rfl rfl rfl ?_
          refine bsl (fun _ _ h => h.pick []) rfl rfl rfl (bsl41_1 (.slice _ _ _) rfl) (fun bkl26 hbkl26 => ?_)
          refine apR (hd := ((some ⟨bkm8, 0, none⟩), (kk).toNat)) (x := (Math.hcWin kk.toNat i)) 4 3 0 maK.ok rfl rfl rfl (fun h => by first | rfl | (dsimp only at h; rw [h]; rfl) | (rw [h]; rfl) | exact congrArg (fun m => [Value.slice _ m _]) h) mk41 (fun _ _ h => h.pick []) rfl rfl rfl rfl (by omega) ?_
          intro aq34 cq34
          refine stl (v := .slice _ _ _) 4 rfl Try.sizeOf41 (fun _ h => h.pick []) rfl rfl rfl rfl rfl (Nat.le_of_ble_eq_true rfl) ?_
          refine fld fl43_2 rfl rfl rfl ?_
          refine stf (v := .slice _ _ _) 4 rfl Try.sizeOf41 rfl rfl rfl rfl rfl (Nat.le_of_ble_eq_true rfl) ?_
          refine rNil ?_
          refine qSeq rfl ?_
          refine hReg (sq 0 (sq 1 sz)) (by kernel_rfl) ?_
          refine add rfl rfl rfl rfl (by omega) ?_
          refine mvI rfl rfl rfl ?_
          refine rNil ?_
          rw [Math.hcW_snoc, Math.hcV_snoc]
          exact qNext rfl ((i + 1, q + 1, ((aq33, cq33), (hset hd.2 (Math.hcW kk.toNat ag i).length ((some ⟨bkm7, 0, none⟩), (kk).toNat))), ((aq34, cq34), (hset he.2 (Math.hcV kk.toNat i).length ((some ⟨bkm8, 0, none⟩), (kk).toNat))))) (by dsimp only; omega) ⟨by dsimp only; omega, by dsimp only; omega⟩ ⟨rfl, rfl, rfl, rfl, rfl, rfl, trivial⟩ (fun _ h => h.pick [0, 1, 2, 2, 2, 2])
         ·
          refine bsl (fun _ _ h => h.pick []) rfl rfl rfl (bsl41_1 (.slice _ _ _) rfl) (fun bkl27 hbkl27 => ?_)
          refine apR (hd := ((some ⟨bkm7, 0, none⟩), (kk).toNat)) (x := (Math.hcRow kk.toNat ag i)) 5 3 1 maK.ok rfl rfl rfl (fun h => by first | rfl | (dsimp only at h; rw [h]; rfl) | (rw [h]; rfl) | exact congrArg (fun m => [Value.slice _ m _]) h) mk41 (fun _ _ h => h.pick []) rfl rfl rfl rfl (by omega) ?_
          intro aq35 cq35
          refine fld fl43_1 rfl rfl rfl ?_
          refine apR (hd := ((some ⟨bkm8, 0, none⟩), (kk).toNat)) (x := (Math.hcWin kk.toNat i)) 4 3 1 maK.ok rfl rfl rfl (fun h => by first | rfl | (dsimp only at h; rw [h]; rfl) | (rw [h]; rfl) | exact congrArg (fun m => [Value.slice _ m _]) h) mk41 (fun _ _ h => h.pick []) rfl rfl rfl rfl (by omega) ?_
          intro aq36 cq36
          refine stl (v := .slice _ _ _) 4 rfl Try.sizeOf41 (fun _ h => h.pick []) rfl rfl rfl rfl rfl (Nat.le_of_ble_eq_true rfl) ?_
          refine fld fl43_2 rfl rfl rfl ?_
          refine stf (v := .slice _ _ _) 4 rfl Try.sizeOf41 rfl rfl rfl rfl rfl (Nat.le_of_ble_eq_true rfl) ?_
          refine rNil ?_
          refine qSeq rfl ?_
          refine hReg (sq 0 (sq 1 sz)) (by kernel_rfl) ?_
          refine add rfl rfl rfl rfl (by omega) ?_
          refine mvI rfl rfl rfl ?_
          refine rNil ?_
          rw [Math.hcW_snoc, Math.hcV_snoc]
          exact qNext rfl ((i + 1, q + 1, ((aq35, cq35), (hset hd.2 (Math.hcW kk.toNat ag i).length ((some ⟨bkm7, 0, none⟩), (kk).toNat))), ((aq36, cq36), (hset he.2 (Math.hcV kk.toNat i).length ((some ⟨bkm8, 0, none⟩), (kk).toNat))))) (by dsimp only; omega) ⟨by dsimp only; omega, by dsimp only; omega⟩ ⟨rfl, rfl, rfl, rfl, rfl, rfl, trivial⟩ (fun _ h => h.pick [0, 0, 2, 2, 2, 2])
        ·
         refine bsl (fun _ _ h => h.pick []) rfl rfl rfl (bsl41_1 (.slice _ _ _) rfl) (fun bkl28 hbkl28 => ?_)
         refine rAlt ?_ ?_
         ·
          refine apR (hd := ((some ⟨bkm7, 0, none⟩), (kk).toNat)) (x := (Math.hcRow kk.toNat ag i)) 5 3 1 maK.ok rfl rfl rfl (fun h => by first | rfl | (dsimp only at h; rw [h]; rfl) | (rw [h]; rfl) | exact congrArg (fun m => [Value.slice _ m _]) h) mk41 (fun _ _ h => h.pick []) rfl rfl rfl rfl (by omega) ?_
          intro aq37 cq37
          refine ldl Try.isAgg41 (cB 5 rfl rfl) (fun _ h => h.pick []) rfl rfl rfl ?_
          refine fld fl43_1 rfl rfl rfl ?_
          refine apR (hd := ((some ⟨bkm8, 0, none⟩), (kk).toNat)) (x := (Math.hcWin kk.toNat i)) 4 3 1 maK.ok rfl rfl rfl (fun h => by first | rfl | (dsimp only at h; rw [h]; rfl) | (rw [h]; rfl) | exact congrArg (fun m => [Value.slice _ m _]) h) mk41 (fun _ _ h => h.pick []) rfl rfl rfl rfl (by omega) ?_
          intro aq38 cq38
          refine stl (v := .slice _ _ _) 4 rfl Try.sizeOf41 (fun _ h => h.pick []) rfl rfl rfl rfl rfl (Nat.le_of_ble_eq_true rfl) ?_
          refine fld fl43_2 rfl rfl rfl ?_
          refine stf (v := .slice _ _ _) 4 rfl Try.sizeOf41 rfl rfl rfl rfl rfl (Nat.le_of_ble_eq_true rfl) ?_
          refine rNil ?_
          refine qSeq rfl ?_
          refine hReg (sq 0 (sq 1 sz)) (by kernel_rfl) ?_
          refine add rfl rfl rfl rfl (by omega) ?_
          refine mvI rfl rfl rfl ?_
          refine rNil ?_
          rw [Math.hcW_snoc, Math.hcV_snoc]
          exact qNext rfl ((i + 1, q + 1, ((aq37, cq37), (hset hd.2 (Math.hcW kk.toNat ag i).length ((some ⟨bkm7, 0, none⟩), (kk).toNat))), ((aq38, cq38), (hset he.2 (Math.hcV kk.toNat i).length ((some ⟨bkm8, 0, none⟩), (kk).toNat))))) (by dsimp only; omega) ⟨by dsimp only; omega, by dsimp only; omega⟩ ⟨rfl, rfl, rfl, rfl, rfl, rfl, trivial⟩ (fun _ h => h.pick [0, 0, 2, 2, 2, 2])
         ·
          refine ldl Try.isAgg41 (cB 6 rfl rfl) (fun _ h => h.pick []) rfl rfl rfl ?_
          refine apR (hd := ((some ⟨bkm7, 0, none⟩), (kk).toNat)) (x := (Math.hcRow kk.toNat ag i)) 5 3 1 maK.ok rfl rfl rfl (fun h => by first | rfl | (dsimp only at h; rw [h]; rfl) | (rw [h]; rfl) | exact congrArg (fun m => [Value.slice _ m _]) h) mk41 (fun _ _ h => h.pick []) rfl rfl rfl rfl (by omega) ?_
          intro aq39 cq39
          refine fld fl43_1 rfl rfl rfl ?_
          refine apR (hd := ((some ⟨bkm8, 0, none⟩), (kk).toNat)) (x := (Math.hcWin kk.toNat i)) 4 3 1 maK.ok rfl rfl rfl (fun h => by first | rfl | (dsimp only at h; rw [h]; rfl) | (rw [h]; rfl) | exact congrArg (fun m => [Value.slice _ m _]) h) mk41 (fun _ _ h => h.pick []) rfl rfl rfl rfl (by omega) ?_
          intro aq40 cq40
          refine stl (v := .slice _ _ _) 4 rfl Try.sizeOf41 (fun _ h => h.pick []) rfl rfl rfl rfl rfl (Nat.le_of_ble_eq_true rfl) ?_
          refine fld fl43_2 rfl rfl rfl ?_
          refine stf (v := .slice _ _ _) 4 rfl Try.sizeOf41 rfl rfl rfl rfl rfl (Nat.le_of_ble_eq_true rfl) ?_
          refine rNil ?_
          refine qSeq rfl ?_
          refine hReg (sq 0 (sq 1 sz)) (by kernel_rfl) ?_
          refine add rfl rfl rfl rfl (by omega) ?_
          refine mvI rfl rfl rfl ?_
          refine rNil ?_
          rw [Math.hcW_snoc, Math.hcV_snoc]
          exact qNext rfl ((i + 1, q + 1, ((aq39, cq39), (hset hd.2 (Math.hcW kk.toNat ag i).length ((some ⟨bkm7, 0, none⟩), (kk).toNat))), ((aq40, cq40), (hset he.2 (Math.hcV kk.toNat i).length ((some ⟨bkm8, 0, none⟩), (kk).toNat))))) (by dsimp only; omega) ⟨by dsimp only; omega, by dsimp only; omega⟩ ⟨rfl, rfl, rfl, rfl, rfl, rfl, trivial⟩ (fun _ h => h.pick [0, 0, 2, 2, 2, 2])
      ·
       refine rAlt ?_ ?_
       ·
        refine ldl Try.isAgg41 (cB 5 rfl rfl) (fun _ h => h.pick []) rfl rfl rfl ?_
        refine rAlt ?_ ?_
        ·
         refine ldl Try.isAgg41 (cB 5 rfl rfl) (fun _ h => h.pick []) rfl rfl rfl ?_
         refine rAlt ?_ ?_
         ·
          refine apR (hd := ((some ⟨bkm7, 0, none⟩), (kk).toNat)) (x := (Math.hcRow kk.toNat ag i)) 4 2 0 maK.ok rfl rfl rfl (fun h => by first | rfl | (dsimp only at h; rw [h]; rfl) | (rw [h]; rfl) | exact congrArg (fun m => [Value.slice _ m _]) h) mk41 (fun _ _ h => h.pick []) rfl rfl rfl rfl (by omega) ?_
          intro aq41 cq41
          refine fld fl43_1 rfl rfl rfl ?_
          refine bsl (fun _ _ h => h.pick []) rfl rfl rfl (bsl41_1 (.slice _ _ _) rfl) (fun bkl29 hbkl29 => ?_)
          refine apR (hd := ((some ⟨bkm8, 0, none⟩), (kk).toNat)) (x := (Math.hcWin kk.toNat i)) 4 3 0 maK.ok rfl rfl rfl (fun h => by first | rfl | (dsimp only at h; rw [h]; rfl) | (rw [h]; rfl) | exact congrArg (fun m => [Value.slice _ m _]) h) mk41 (fun _ _ h => h.pick []) rfl rfl rfl rfl (by omega) ?_
          intro aq42 cq42
          refine stl (v := .slice _ _ _) 4 rfl Try.sizeOf41 (fun _ h => h.pick []) rfl rfl rfl rfl rfl (Nat.le_of_ble_eq_true rfl) ?_
          refine fld fl43_2 rfl rfl rfl ?_
          refine stf (v := .slice _ _ _) 4 rfl Try.sizeOf41 rfl rfl rfl rfl rfl (Nat.le_of_ble_eq_true rfl) ?_
          refine rNil ?_
          refine qSeq rfl ?_
          refine hReg (sq 0 (sq 1 sz)) (by kernel_rfl) ?_
          refine add rfl rfl rfl rfl (by omega) ?_
          refine mvI rfl rfl rfl ?_
          refine rNil ?_
          rw [Math.hcW_snoc, Math.hcV_snoc]
          exact qNext rfl ((i + 1, q + 1, ((aq41, cq41), (hset hd.2 (Math.hcW kk.toNat ag i).length ((some ⟨bkm7, 0, none⟩), (kk).toNat))), ((aq42, cq42), (hset he.2 (Math.hcV kk.toNat i).length ((some ⟨bkm8, 0, none⟩), (kk).toNat))))) (by dsimp only; omega) ⟨by dsimp only; omega, by dsimp only; omega⟩ ⟨rfl, rfl, rfl, rfl, rfl, rfl, trivial⟩ (fun _ h => h.pick [0, 1, 2, 2, 2, 2])
         ·
          refine bsl (fun _ _ h => h.pick []) rfl rfl rfl (bsl41_1 (.slice _ _ _) rfl) (fun bkl30 hbkl30 => ?_)
          refine apR (hd := ((some ⟨bkm7, 0, none⟩), (kk).toNat)) (x := (Math.hcRow kk.toNat ag i)) 5 3 1 maK.ok rfl rfl rfl (fun h => by first | rfl | (dsimp only at h; rw [h]; rfl) | (rw [h]; rfl) | exact congrArg (fun m => [Value.slice _ m _]) h) mk41 (fun _ _ h => h.pick []) rfl rfl rfl rfl (by omega) ?_
          intro aq43 cq43
          refine fld fl43_1 rfl rfl rfl ?_
          refine apR (hd := ((some ⟨bkm8, 0, none⟩), (kk).toNat)) (x := (Math.hcWin kk.toNat i)) 4 3 1 maK.ok rfl rfl rfl (fun h => by first | rfl | (dsimp only at h; rw [h]; rfl) | (rw [h]; rfl) | exact congrArg (fun m => [Value.slice _ m _]) h) mk41 (fun _ _ h => h.pick []) rfl rfl rfl rfl (by omega) ?_
          intro aq44 cq44
          refine stl (v := .slice _ _ _) 4 rfl Try.sizeOf41 (fun _ h => h.pick []) rfl rfl rfl rfl rfl (Nat.le_of_ble_eq_true rfl) ?_
          refine fld fl43_2 rfl rfl rfl ?_
          refine stf (v := .slice _ _ _) 4 rfl Try.sizeOf41 rfl rfl rfl rfl rfl (Nat.le_of_ble_eq_true rfl) ?_
          refine rNil ?_
          refine qSeq rfl ?_
          refine hReg (sq 0 (sq 1 sz)) (by kernel_rfl) ?_
          refine add rfl rfl rfl rfl (by omega) ?_
          refine mvI rfl rfl rfl ?_
          refine rNil ?_
          rw [Math.hcW_snoc, Math.hcV_snoc]
          exact qNext rfl ((i + 1, q + 1, ((aq43, cq43), (hset hd.2 (Math.hcW kk.toNat ag i).length ((some ⟨bkm7, 0, none⟩), (kk).toNat))), ((aq44, cq44), (hset he.2 (Math.hcV kk.toNat i).length ((some ⟨bkm8, 0, none⟩), (kk).toNat))))) (by dsimp only; omega) ⟨by dsimp only; omega, by dsimp only; omega⟩ ⟨rfl, rfl, rfl, rfl, rfl, rfl, trivial⟩ (fun _ h => h.pick [0, 0, 2, 2, 2, 2])
        ·
         refine bsl (fun _ _ h => h.pick []) rfl rfl rfl (bsl41_1 (.slice _ _ _) rfl) (fun bkl31 hbkl31 => ?_)
         refine ldl Try.isAgg41 (cB 6 rfl rfl) (fun _ h => h.pick []) rfl rfl rfl ?_
         refine apR (hd := ((some ⟨bkm7, 0, none⟩), (kk).toNat)) (x := (Math.hcRow kk.toNat ag i)) 5 3 1 maK.ok rfl rfl rfl (fun h => by first | rfl | (dsimp only at h; rw [h]; rfl) | (rw [h]; rfl) | exact congrArg (fun m => [Value.slice _ m _]) h) mk41 (fun _ _ h => h.pick []) rfl rfl rfl rfl (by omega) ?_
         intro aq45 cq45
         refine fld fl43_1 rfl rfl rfl ?_
         refine apR (hd := ((some ⟨bkm8, 0, none⟩), (kk).toNat)) (x := (Math.hcWin kk.toNat i)) 4 3 1 maK.ok rfl rfl rfl (fun h => by first | rfl | (dsimp only at h; rw [h]; rfl) | (rw [h]; rfl) | exact congrArg (fun m => [Value.slice _ m _]) h) mk41 (fun _ _ h => h.pick []) rfl rfl rfl rfl (by omega) ?_
         intro aq46 cq46
         refine stl (v := .slice _ _ _) 4 rfl Try.sizeOf41 (fun _ h => h.pick []) rfl rfl rfl rfl rfl (Nat.le_of_ble_eq_true rfl) ?_
         refine fld fl43_2 rfl rfl rfl ?_
         refine stf (v := .slice _ _ _) 4 rfl Try.sizeOf41 rfl rfl rfl rfl rfl (Nat.le_of_ble_eq_true rfl) ?_
         refine rNil ?_
         refine qSeq rfl ?_
         refine hReg (sq 0 (sq 1 sz)) (by kernel_rfl) ?_
         refine add rfl rfl rfl rfl (by omega) ?_
         refine mvI rfl rfl rfl ?_
         refine rNil ?_
         rw [Math.hcW_snoc, Math.hcV_snoc]
         exact qNext rfl ((i + 1, q + 1, ((aq45, cq45), (hset hd.2 (Math.hcW kk.toNat ag i).length ((some ⟨bkm7, 0, none⟩), (kk).toNat))), ((aq46, cq46), (hset he.2 (Math.hcV kk.toNat i).length ((some ⟨bkm8, 0, none⟩), (kk).toNat))))) (by dsimp only; omega) ⟨by dsimp only; omega, by dsimp only; omega⟩ ⟨rfl, rfl, rfl, rfl, rfl, rfl, trivial⟩ (fun _ h => h.pick [0, 0, 2, 2, 2, 2])
       ·
        refine bsl (fun _ _ h => h.pick []) rfl rfl rfl (bsl41_1 (.slice _ _ _) rfl) (fun bkl32 hbkl32 => ?_)
        refine rAlt ?_ ?_
        ·
         refine ldl Try.isAgg41 (cB 6 rfl rfl) (fun _ h => h.pick []) rfl rfl rfl ?_
         refine rAlt ?_ ?_
         ·
          refine apR (hd := ((some ⟨bkm7, 0, none⟩), (kk).toNat)) (x := (Math.hcRow kk.toNat ag i)) 5 3 1 maK.ok rfl rfl rfl (fun h => by first | rfl | (dsimp only at h; rw [h]; rfl) | (rw [h]; rfl) | exact congrArg (fun m => [Value.slice _ m _]) h) mk41 (fun _ _ h => h.pick []) rfl rfl rfl rfl (by omega) ?_
          intro aq47 cq47
          refine ldl Try.isAgg41 (cB 5 rfl rfl) (fun _ h => h.pick []) rfl rfl rfl ?_
          refine fld fl43_1 rfl rfl rfl ?_
          refine apR (hd := ((some ⟨bkm8, 0, none⟩), (kk).toNat)) (x := (Math.hcWin kk.toNat i)) 4 3 1 maK.ok rfl rfl rfl (fun h => by first | rfl | (dsimp only at h; rw [h]; rfl) | (rw [h]; rfl) | exact congrArg (fun m => [Value.slice _ m _]) h) mk41 (fun _ _ h => h.pick []) rfl rfl rfl rfl (by omega) ?_
          intro aq48 cq48
          refine stl (v := .slice _ _ _) 4 rfl Try.sizeOf41 (fun _ h => h.pick []) rfl rfl rfl rfl rfl (Nat.le_of_ble_eq_true rfl) ?_
          refine fld fl43_2 rfl rfl rfl ?_
          refine stf (v := .slice _ _ _) 4 rfl Try.sizeOf41 rfl rfl rfl rfl rfl (Nat.le_of_ble_eq_true rfl) ?_
          refine rNil ?_
          refine qSeq rfl ?_
          refine hReg (sq 0 (sq 1 sz)) (by kernel_rfl) ?_
          refine add rfl rfl rfl rfl (by omega) ?_
          refine mvI rfl rfl rfl ?_
          refine rNil ?_
          rw [Math.hcW_snoc, Math.hcV_snoc]
          exact qNext rfl ((i + 1, q + 1, ((aq47, cq47), (hset hd.2 (Math.hcW kk.toNat ag i).length ((some ⟨bkm7, 0, none⟩), (kk).toNat))), ((aq48, cq48), (hset he.2 (Math.hcV kk.toNat i).length ((some ⟨bkm8, 0, none⟩), (kk).toNat))))) (by dsimp only; omega) ⟨by dsimp only; omega, by dsimp only; omega⟩ ⟨rfl, rfl, rfl, rfl, rfl, rfl, trivial⟩ (fun _ h => h.pick [0, 0, 2, 2, 2, 2])
         ·
          refine ldl Try.isAgg41 (cB 6 rfl rfl) (fun _ h => h.pick []) rfl rfl rfl ?_
          refine apR (hd := ((some ⟨bkm7, 0, none⟩), (kk).toNat)) (x := (Math.hcRow kk.toNat ag i)) 5 3 1 maK.ok rfl rfl rfl (fun h => by first | rfl | (dsimp only at h; rw [h]; rfl) | (rw [h]; rfl) | exact congrArg (fun m => [Value.slice _ m _]) h) mk41 (fun _ _ h => h.pick []) rfl rfl rfl rfl (by omega) ?_
          intro aq49 cq49
          refine fld fl43_1 rfl rfl rfl ?_
          refine apR (hd := ((some ⟨bkm8, 0, none⟩), (kk).toNat)) (x := (Math.hcWin kk.toNat i)) 4 3 1 maK.ok rfl rfl rfl (fun h => by first | rfl | (dsimp only at h; rw [h]; rfl) | (rw [h]; rfl) | exact congrArg (fun m => [Value.slice _ m _]) h) mk41 (fun _ _ h => h.pick []) rfl rfl rfl rfl (by omega) ?_
          intro aq50 cq50
          refine stl (v := .slice _ _ _) 4 rfl Try.sizeOf41 (fun _ h => h.pick []) rfl rfl rfl rfl rfl (Nat.le_of_ble_eq_true rfl) ?_
          refine fld fl43_2 rfl rfl rfl ?_
          refine stf (v := .slice _ _ _) 4 rfl Try.sizeOf41 rfl rfl rfl rfl rfl (Nat.le_of_ble_eq_true rfl) ?_
          refine rNil ?_
          refine qSeq rfl ?_
          refine hReg (sq 0 (sq 1 sz)) (by kernel_rfl) ?_
          refine add rfl rfl rfl rfl (by omega) ?_
          refine mvI rfl rfl rfl ?_
          refine rNil ?_
          rw [Math.hcW_snoc, Math.hcV_snoc]
          exact qNext rfl ((i + 1, q + 1, ((aq49, cq49), (hset hd.2 (Math.hcW kk.toNat ag i).length ((some ⟨bkm7, 0, none⟩), (kk).toNat))), ((aq50, cq50), (hset he.2 (Math.hcV kk.toNat i).length ((some ⟨bkm8, 0, none⟩), (kk).toNat))))) (by dsimp only; omega) ⟨by dsimp only; omega, by dsimp only; omega⟩ ⟨rfl, rfl, rfl, rfl, rfl, rfl, trivial⟩ (fun _ h => h.pick [0, 0, 2, 2, 2, 2])
        ·
         refine ldl Try.isAgg41 (cB 6 rfl rfl) (fun _ h => h.pick []) rfl rfl rfl ?_
         refine ldl Try.isAgg41 (cB 6 rfl rfl) (fun _ h => h.pick []) rfl rfl rfl ?_
         refine apR (hd := ((some ⟨bkm7, 0, none⟩), (kk).toNat)) (x := (Math.hcRow kk.toNat ag i)) 5 3 1 maK.ok rfl rfl rfl (fun h => by first | rfl | (dsimp only at h; rw [h]; rfl) | (rw [h]; rfl) | exact congrArg (fun m => [Value.slice _ m _]) h) mk41 (fun _ _ h => h.pick []) rfl rfl rfl rfl (by omega) ?_
         intro aq51 cq51
         refine fld fl43_1 rfl rfl rfl ?_
         refine apR (hd := ((some ⟨bkm8, 0, none⟩), (kk).toNat)) (x := (Math.hcWin kk.toNat i)) 4 3 1 maK.ok rfl rfl rfl (fun h => by first | rfl | (dsimp only at h; rw [h]; rfl) | (rw [h]; rfl) | exact congrArg (fun m => [Value.slice _ m _]) h) mk41 (fun _ _ h => h.pick []) rfl rfl rfl rfl (by omega) ?_
         intro aq52 cq52
         refine stl (v := .slice _ _ _) 4 rfl Try.sizeOf41 (fun _ h => h.pick []) rfl rfl rfl rfl rfl (Nat.le_of_ble_eq_true rfl) ?_
         refine fld fl43_2 rfl rfl rfl ?_
         refine stf (v := .slice _ _ _) 4 rfl Try.sizeOf41 rfl rfl rfl rfl rfl (Nat.le_of_ble_eq_true rfl) ?_
         refine rNil ?_
         refine qSeq rfl ?_
         refine hReg (sq 0 (sq 1 sz)) (by kernel_rfl) ?_
         refine add rfl rfl rfl rfl (by omega) ?_
         refine mvI rfl rfl rfl ?_
         refine rNil ?_
         rw [Math.hcW_snoc, Math.hcV_snoc]
         exact qNext rfl ((i + 1, q + 1, ((aq51, cq51), (hset hd.2 (Math.hcW kk.toNat ag i).length ((some ⟨bkm7, 0, none⟩), (kk).toNat))), ((aq52, cq52), (hset he.2 (Math.hcV kk.toNat i).length ((some ⟨bkm8, 0, none⟩), (kk).toNat))))) (by dsimp only; omega) ⟨by dsimp only; omega, by dsimp only; omega⟩ ⟨rfl, rfl, rfl, rfl, rfl, rfl, trivial⟩ (fun _ h => h.pick [0, 0, 2, 2, 2, 2])
     ·
      refine rAlt ?_ ?_
      ·
       refine ldl Try.isAgg41 (cB 4 rfl rfl) (fun _ h => h.pick []) rfl rfl rfl ?_
       refine rAlt ?_ ?_
       ·
        refine ldl Try.isAgg41 (cB 4 rfl rfl) (fun _ h => h.pick []) rfl rfl rfl ?_
        refine rAlt ?_ ?_
        ·
         refine bsl (fun _ _ h => h.pick []) rfl rfl rfl (bsl41_1 (.slice _ _ _) rfl) (fun bkl33 hbkl33 => ?_)
         refine rAlt ?_ ?_
         ·
          refine apR (hd := ((some ⟨bkm7, 0, none⟩), (kk).toNat)) (x := (Math.hcRow kk.toNat ag i)) 4 2 0 maK.ok rfl rfl rfl (fun h => by first | rfl | (dsimp only at h; rw [h]; rfl) | (rw [h]; rfl) | exact congrArg (fun m => [Value.slice _ m _]) h) mk41 (fun _ _ h => h.pick []) rfl rfl rfl rfl (by omega) ?_
          intro aq53 cq53
          refine fld fl43_1 rfl rfl rfl ?_
          refine bsl (fun _ _ h => h.pick []) rfl rfl rfl (bsl41_1 (.slice _ _ _) rfl) (fun bkl34 hbkl34 => ?_)
          refine apR (hd := ((some ⟨bkm8, 0, none⟩), (kk).toNat)) (x := (Math.hcWin kk.toNat i)) 4 3 0 maK.ok rfl rfl rfl (fun h => by first | rfl | (dsimp only at h; rw [h]; rfl) | (rw [h]; rfl) | exact congrArg (fun m => [Value.slice _ m _]) h) mk41 (fun _ _ h => h.pick []) rfl rfl rfl rfl (by omega) ?_
          intro aq54 cq54
          refine stl (v := .slice _ _ _) 4 rfl Try.sizeOf41 (fun _ h => h.pick []) rfl rfl rfl rfl rfl (Nat.le_of_ble_eq_true rfl) ?_
          refine fld fl43_2 rfl rfl rfl ?_
          refine stf (v := .slice _ _ _) 4 rfl Try.sizeOf41 rfl rfl rfl rfl rfl (Nat.le_of_ble_eq_true rfl) ?_
          refine rNil ?_
          refine qSeq rfl ?_
          refine hReg (sq 0 (sq 1 sz)) (by kernel_rfl) ?_
          refine add rfl rfl rfl rfl (by omega) ?_
          refine mvI rfl rfl rfl ?_
          refine rNil ?_
          rw [Math.hcW_snoc, Math.hcV_snoc]
          exact qNext rfl ((i + 1, q + 1, ((aq53, cq53), (hset hd.2 (Math.hcW kk.toNat ag i).length ((some ⟨bkm7, 0, none⟩), (kk).toNat))), ((aq54, cq54), (hset he.2 (Math.hcV kk.toNat i).length ((some ⟨bkm8, 0, none⟩), (kk).toNat))))) (by dsimp only; omega) ⟨by dsimp only; omega, by dsimp only; omega⟩ ⟨rfl, rfl, rfl, rfl, rfl, rfl, trivial⟩ (fun _ h => h.pick [0, 1, 2, 2, 2, 2])
         ·
          refine bsl (fun _ _ h => h.pick []) rfl rfl rfl (bsl41_1 (.slice _ _ _) rfl) (fun bkl35 hbkl35 => ?_)
          refine apR (hd := ((some ⟨bkm7, 0, none⟩), (kk).toNat)) (x := (Math.hcRow kk.toNat ag i)) 5 3 1 maK.ok rfl rfl rfl (fun h => by first | rfl | (dsimp only at h; rw [h]; rfl) | (rw [h]; rfl) | exact congrArg (fun m => [Value.slice _ m _]) h) mk41 (fun _ _ h => h.pick []) rfl rfl rfl rfl (by omega) ?_
          intro aq55 cq55
          refine fld fl43_1 rfl rfl rfl ?_
          refine apR (hd := ((some ⟨bkm8, 0, none⟩), (kk).toNat)) (x := (Math.hcWin kk.toNat i)) 4 3 1 maK.ok rfl rfl rfl (fun h => by first | rfl | (dsimp only at h; rw [h]; rfl) | (rw [h]; rfl) | exact congrArg (fun m => [Value.slice _ m _]) h) mk41 (fun _ _ h => h.pick []) rfl rfl rfl rfl (by omega) ?_
          intro aq56 cq56
          refine stl (v := .slice _ _ _) 4 rfl Try.sizeOf41 (fun _ h => h.pick []) rfl rfl rfl rfl rfl (Nat.le_of_ble_eq_true rfl) ?_
          refine fld fl43_2 rfl rfl rfl ?_
          refine stf (v := .slice _ _ _) 4 rfl Try.sizeOf41 rfl rfl rfl rfl rfl (Nat.le_of_ble_eq_true rfl) ?_
          refine rNil ?_
          refine qSeq rfl ?_
          refine hReg (sq 0 (sq 1 sz)) (by kernel_rfl) ?_
          refine add rfl rfl rfl rfl (by omega) ?_
          refine mvI rfl rfl rfl ?_
          refine rNil ?_
          rw [Math.hcW_snoc, Math.hcV_snoc]
          exact qNext rfl ((i + 1, q + 1, ((aq55, cq55), (hset hd.2 (Math.hcW kk.toNat ag i).length ((some ⟨bkm7, 0, none⟩), (kk).toNat))), ((aq56, cq56), (hset he.2 (Math.hcV kk.toNat i).length ((some ⟨bkm8, 0, none⟩), (kk).toNat))))) (by dsimp only; omega) ⟨by dsimp only; omega, by dsimp only; omega⟩ ⟨rfl, rfl, rfl, rfl, rfl, rfl, trivial⟩ (fun _ h => h.pick [0, 0, 2, 2, 2, 2])
        ·
         refine bsl (fun _ _ h => h.pick []) rfl rfl rfl (bsl41_1 (.slice _ _ _) rfl) (fun bkl36 hbkl36 => ?_)
         refine bsl (fun _ _ h => h.pick []) rfl rfl rfl (bsl41_1 (.slice _ _ _) rfl) (fun bkl37 hbkl37 => ?_)
         refine apR (hd := ((some ⟨bkm7, 0, none⟩), (kk).toNat)) (x := (Math.hcRow kk.toNat ag i)) 5 3 0 maK.ok rfl rfl rfl (fun h => by first | rfl | (dsimp only at h; rw [h]; rfl) | (rw [h]; rfl) | exact congrArg (fun m => [Value.slice _ m _]) h) mk41 (fun _ _ h => h.pick []) rfl rfl rfl rfl (by omega) ?_
         intro aq57 cq57
         refine fld fl43_1 rfl rfl rfl ?_
         refine apR (hd := ((some ⟨bkm8, 0, none⟩), (kk).toNat)) (x := (Math.hcWin kk.toNat i)) 4 3 2 maK.ok rfl rfl rfl (fun h => by first | rfl | (dsimp only at h; rw [h]; rfl) | (rw [h]; rfl) | exact congrArg (fun m => [Value.slice _ m _]) h) mk41 (fun _ _ h => h.pick []) rfl rfl rfl rfl (by omega) ?_
         intro aq58 cq58
         refine stl (v := .slice _ _ _) 4 rfl Try.sizeOf41 (fun _ h => h.pick []) rfl rfl rfl rfl rfl (Nat.le_of_ble_eq_true rfl) ?_
         refine fld fl43_2 rfl rfl rfl ?_
         refine stf (v := .slice _ _ _) 4 rfl Try.sizeOf41 rfl rfl rfl rfl rfl (Nat.le_of_ble_eq_true rfl) ?_
         refine rNil ?_
         refine qSeq rfl ?_
         refine hReg (sq 0 (sq 1 sz)) (by kernel_rfl) ?_
         refine add rfl rfl rfl rfl (by omega) ?_
         refine mvI rfl rfl rfl ?_
         refine rNil ?_
         rw [Math.hcW_snoc, Math.hcV_snoc]
         exact qNext rfl ((i + 1, q + 1, ((aq57, cq57), (hset hd.2 (Math.hcW kk.toNat ag i).length ((some ⟨bkm7, 0, none⟩), (kk).toNat))), ((aq58, cq58), (hset he.2 (Math.hcV kk.toNat i).length ((some ⟨bkm8, 0, none⟩), (kk).toNat))))) (by dsimp only; omega) ⟨by dsimp only; omega, by dsimp only; omega⟩ ⟨rfl, rfl, rfl, rfl, rfl, rfl, trivial⟩ (fun _ h => h.pick [0, 0, 2, 2, 2, 2])
       ·
        refine rAlt ?_ ?_
        ·
         refine bsl (fun _ _ h => h.pick []) rfl rfl rfl (bsl41_1 (.slice _ _ _) rfl) (fun bkl38 hbkl38 => ?_)
         refine rAlt ?_ ?_
         ·
          refine ldl Try.isAgg41 (cB 5 rfl rfl) (fun _ h => h.pick []) rfl rfl rfl ?_
          refine rAlt ?_ ?_
          ·
           refine apR (hd := ((some ⟨bkm7, 0, none⟩), (kk).toNat)) (x := (Math.hcRow kk.toNat ag i)) 4 2 0 maK.ok rfl rfl rfl (fun h => by first | rfl | (dsimp only at h; rw [h]; rfl) | (rw [h]; rfl) | exact congrArg (fun m => [Value.slice _ m _]) h) mk41 (fun _ _ h => h.pick []) rfl rfl rfl rfl (by omega) ?_
           intro aq59 cq59
           refine fld fl43_1 rfl rfl rfl ?_
           refine bsl (fun _ _ h => h.pick []) rfl rfl rfl (bsl41_1 (.slice _ _ _) rfl) (fun bkl39 hbkl39 => ?_)
           refine apR (hd := ((some ⟨bkm8, 0, none⟩), (kk).toNat)) (x := (Math.hcWin kk.toNat i)) 4 3 0 maK.ok rfl rfl rfl (fun h => by first | rfl | (dsimp only at h; rw [h]; rfl) | (rw [h]; rfl) | exact congrArg (fun m => [Value.slice _ m _]) h) mk41 (fun _ _ h => h.pick []) rfl rfl rfl rfl (by omega) ?_
           intro aq60 cq60
           refine stl (v := .slice _ _ _) 4 rfl Try.sizeOf41 (fun _ h => h.pick []) rfl rfl rfl rfl rfl (Nat.le_of_ble_eq_true rfl) ?_
           refine fld fl43_2 rfl rfl rfl ?_
           refine stf (v := .slice _ _ _) 4 rfl Try.sizeOf41 rfl rfl rfl rfl rfl (Nat.le_of_ble_eq_true rfl) ?_
           refine rNil ?_
           refine qSeq rfl ?_
           refine hReg (sq 0 (sq 1 sz)) (by kernel_rfl) ?_
           refine add rfl rfl rfl rfl (by omega) ?_
           refine mvI rfl rfl rfl ?_
           refine rNil ?_
           rw [Math.hcW_snoc, Math.hcV_snoc]
           exact qNext rfl ((i + 1, q + 1, ((aq59, cq59), (hset hd.2 (Math.hcW kk.toNat ag i).length ((some ⟨bkm7, 0, none⟩), (kk).toNat))), ((aq60, cq60), (hset he.2 (Math.hcV kk.toNat i).length ((some ⟨bkm8, 0, none⟩), (kk).toNat))))) (by dsimp only; omega) ⟨by dsimp only; omega, by dsimp only; omega⟩ ⟨rfl, rfl, rfl, rfl, rfl, rfl, trivial⟩ (fun _ h => h.pick [0, 1, 2, 2, 2, 2])
          ·
           refine bsl (fun _ _ h => h.pick []) rfl rfl rfl (bsl41_1 (.slice _ _ _) rfl) (fun bkl40 hbkl40 => ?_)
           refine apR (hd := ((some ⟨bkm7, 0, none⟩), (kk).toNat)) (x := (Math.hcRow kk.toNat ag i)) 5 3 1 maK.ok rfl rfl rfl (fun h => by first | rfl | (dsimp only at h; rw [h]; rfl) | (rw [h]; rfl) | exact congrArg (fun m => [Value.slice _ m _]) h) mk41 (fun _ _ h => h.pick []) rfl rfl rfl rfl (by omega) ?_
           intro aq61 cq61
           refine fld fl43_1 rfl rfl rfl ?_
           refine apR (hd := ((some ⟨bkm8, 0, none⟩), (kk).toNat)) (x := (Math.hcWin kk.toNat i)) 4 3 1 maK.ok rfl rfl rfl (fun h => by first | rfl | (dsimp only at h; rw [h]; rfl) | (rw [h]; rfl) | exact congrArg (fun m => [Value.slice _ m _]) h) mk41 (fun _ _ h => h.pick []) rfl rfl rfl rfl (by omega) ?_
           intro aq62 cq62
           refine stl (v := .slice _ _ _) 4 rfl Try.sizeOf41 (fun _ h => h.pick []) rfl rfl rfl rfl rfl (Nat.le_of_ble_eq_true rfl) ?_
           refine fld fl43_2 rfl rfl rfl ?_
           refine stf (v := .slice _ _ _) 4 rfl Try.sizeOf41 rfl rfl rfl rfl rfl (Nat.le_of_ble_eq_true rfl) ?_
           refine rNil ?_
           refine qSeq rfl ?_
           refine hReg (sq 0 (sq 1 sz)) (by kernel_rfl) ?_
           refine add rfl rfl rfl rfl (by omega) ?_
           refine mvI rfl rfl rfl ?_
           refine rNil ?_
           rw [Math.hcW_snoc, Math.hcV_snoc]
           exact qNext rfl ((i + 1, q + 1, ((aq61, cq61), (hset hd.2 (Math.hcW kk.toNat ag i).length ((some ⟨bkm7, 0, none⟩), (kk).toNat))), ((aq62, cq62), (hset he.2 (Math.hcV kk.toNat i).length ((some ⟨bkm8, 0, none⟩), (kk).toNat))))) (by dsimp only; omega) ⟨by dsimp only; omega, by dsimp only; omega⟩ ⟨rfl, rfl, rfl, rfl, rfl, rfl, trivial⟩ (fun _ h => h.pick [0, 0, 2, 2, 2, 2])
         ·
          refine bsl (fun _ _ h => h.pick []) rfl rfl rfl (bsl41_1 (.slice _ _ _) rfl) (fun bkl41 hbkl41 => ?_)
          refine ldl Try.isAgg41 (cB 6 rfl rfl) (fun _ h => h.pick []) rfl rfl rfl ?_
          refine apR (hd := ((some ⟨bkm7, 0, none⟩), (kk).toNat)) (x := (Math.hcRow kk.toNat ag i)) 5 3 1 maK.ok rfl rfl rfl (fun h => by first | rfl | (dsimp only at h; rw [h]; rfl) | (rw [h]; rfl) | exact congrArg (fun m => [Value.slice _ m _]) h) mk41 (fun _ _ h => h.pick []) rfl rfl rfl rfl (by omega) ?_
          intro aq63 cq63
          refine fld fl43_1 rfl rfl rfl ?_
          refine apR (hd := ((some ⟨bkm8, 0, none⟩), (kk).toNat)) (x := (Math.hcWin kk.toNat i)) 4 3 1 maK.ok rfl rfl rfl (fun h => by first | rfl | (dsimp only at h; rw [h]; rfl) | (rw [h]; rfl) | exact congrArg (fun m => [Value.slice _ m _]) h) mk41 (fun _ _ h => h.pick []) rfl rfl rfl rfl (by omega) ?_
          intro aq64 cq64
          refine stl (v := .slice _ _ _) 4 rfl Try.sizeOf41 (fun _ h => h.pick []) rfl rfl rfl rfl rfl (Nat.le_of_ble_eq_true rfl) ?_
          refine fld fl43_2 rfl rfl rfl ?_
          refine stf (v := .slice _ _ _) 4 rfl Try.sizeOf41 rfl rfl rfl rfl rfl (Nat.le_of_ble_eq_true rfl) ?_
          refine rNil ?_
          refine qSeq rfl ?_
          refine hReg (sq 0 (sq 1 sz)) (by kernel_rfl) ?_
          refine add rfl rfl rfl rfl (by omega) ?_
          refine mvI rfl rfl rfl ?_
          refine rNil ?_
          rw [Math.hcW_snoc, Math.hcV_snoc]
          exact qNext rfl ((i + 1, q + 1, ((aq63, cq63), (hset hd.2 (Math.hcW kk.toNat ag i).length ((some ⟨bkm7, 0, none⟩), (kk).toNat))), ((aq64, cq64), (hset he.2 (Math.hcV kk.toNat i).length ((some ⟨bkm8, 0, none⟩), (kk).toNat))))) (by dsimp only; omega) ⟨by dsimp only; omega, by dsimp only; omega⟩ ⟨rfl, rfl, rfl, rfl, rfl, rfl, trivial⟩ (fun _ h => h.pick [0, 0, 2, 2, 2, 2])
        ·
         refine bsl (fun _ _ h => h.pick []) rfl rfl rfl (bsl41_1 (.slice _ _ _) rfl) (fun bkl42 hbkl42 => ?_)
         refine rAlt ?_ ?_
         ·
          refine ldl Try.isAgg41 (cB 5 rfl rfl) (fun _ h => h.pick []) rfl rfl rfl ?_
          refine bsl (fun _ _ h => h.pick []) rfl rfl rfl (bsl41_1 (.slice _ _ _) rfl) (fun bkl43 hbkl43 => ?_)
          refine apR (hd := ((some ⟨bkm7, 0, none⟩), (kk).toNat)) (x := (Math.hcRow kk.toNat ag i)) 5 3 0 maK.ok rfl rfl rfl (fun h => by first | rfl | (dsimp only at h; rw [h]; rfl) | (rw [h]; rfl) | exact congrArg (fun m => [Value.slice _ m _]) h) mk41 (fun _ _ h => h.pick []) rfl rfl rfl rfl (by omega) ?_
          intro aq65 cq65
          refine fld fl43_1 rfl rfl rfl ?_
          refine apR (hd := ((some ⟨bkm8, 0, none⟩), (kk).toNat)) (x := (Math.hcWin kk.toNat i)) 4 3 2 maK.ok rfl rfl rfl (fun h => by first | rfl | (dsimp only at h; rw [h]; rfl) | (rw [h]; rfl) | exact congrArg (fun m => [Value.slice _ m _]) h) mk41 (fun _ _ h => h.pick []) rfl rfl rfl rfl (by omega) ?_
          intro aq66 cq66
          refine stl (v := .slice _ _ _) 4 rfl Try.sizeOf41 (fun _ h => h.pick []) rfl rfl rfl rfl rfl (Nat.le_of_ble_eq_true rfl) ?_
          refine fld fl43_2 rfl rfl rfl ?_
          refine stf (v := .slice _ _ _) 4 rfl Try.sizeOf41 rfl rfl rfl rfl rfl (Nat.le_of_ble_eq_true rfl) ?_
          refine rNil ?_
          refine qSeq rfl ?_
          refine hReg (sq 0 (sq 1 sz)) (by kernel_rfl) ?_
          refine add rfl rfl rfl rfl (by omega) ?_
          refine mvI rfl rfl rfl ?_
          refine rNil ?_
          rw [Math.hcW_snoc, Math.hcV_snoc]
          exact qNext rfl ((i + 1, q + 1, ((aq65, cq65), (hset hd.2 (Math.hcW kk.toNat ag i).length ((some ⟨bkm7, 0, none⟩), (kk).toNat))), ((aq66, cq66), (hset he.2 (Math.hcV kk.toNat i).length ((some ⟨bkm8, 0, none⟩), (kk).toNat))))) (by dsimp only; omega) ⟨by dsimp only; omega, by dsimp only; omega⟩ ⟨rfl, rfl, rfl, rfl, rfl, rfl, trivial⟩ (fun _ h => h.pick [0, 0, 2, 2, 2, 2])
         ·
          refine bsl (fun _ _ h => h.pick []) rfl rfl rfl (bsl41_1 (.slice _ _ _) rfl) (fun bkl44 hbkl44 => ?_)
          refine ldl Try.isAgg41 (cB 6 rfl rfl) (fun _ h => h.pick []) rfl rfl rfl ?_
          refine apR (hd := ((some ⟨bkm7, 0, none⟩), (kk).toNat)) (x := (Math.hcRow kk.toNat ag i)) 5 3 0 maK.ok rfl rfl rfl (fun h => by first | rfl | (dsimp only at h; rw [h]; rfl) | (rw [h]; rfl) | exact congrArg (fun m => [Value.slice _ m _]) h) mk41 (fun _ _ h => h.pick []) rfl rfl rfl rfl (by omega) ?_
          intro aq67 cq67
          refine fld fl43_1 rfl rfl rfl ?_
          refine apR (hd := ((some ⟨bkm8, 0, none⟩), (kk).toNat)) (x := (Math.hcWin kk.toNat i)) 4 3 2 maK.ok rfl rfl rfl (fun h => by first | rfl | (dsimp only at h; rw [h]; rfl) | (rw [h]; rfl) | exact congrArg (fun m => [Value.slice _ m _]) h) mk41 (fun _ _ h => h.pick []) rfl rfl rfl rfl (by omega) ?_
          intro aq68 cq68
          refine stl (v := .slice _ _ _) 4 rfl Try.sizeOf41 (fun _ h => h.pick []) rfl rfl rfl rfl rfl (Nat.le_of_ble_eq_true rfl) ?_
          refine fld fl43_2 rfl rfl rfl ?_
          refine stf (v := .slice _ _ _) 4 rfl Try.sizeOf41 rfl rfl rfl rfl rfl (Nat.le_of_ble_eq_true rfl) ?_
          refine rNil ?_
          refine qSeq rfl ?_
          refine hReg (sq 0 (sq 1 sz)) (by kernel_rfl) ?_
          refine add rfl rfl rfl rfl (by omega) ?_
          refine mvI rfl rfl rfl ?_
          refine rNil ?_
          rw [Math.hcW_snoc, Math.hcV_snoc]
          exact qNext rfl ((i + 1, q + 1, ((aq67, cq67), (hset hd.2 (Math.hcW kk.toNat ag i).length ((some ⟨bkm7, 0, none⟩), (kk).toNat))), ((aq68, cq68), (hset he.2 (Math.hcV kk.toNat i).length ((some ⟨bkm8, 0, none⟩), (kk).toNat))))) (by dsimp only; omega) ⟨by dsimp only; omega, by dsimp only; omega⟩ ⟨rfl, rfl, rfl, rfl, rfl, rfl, trivial⟩ (fun _ h => h.pick [0, 0, 2, 2, 2, 2])
      ·
       refine bsl (fun _ _ h => h.pick []) rfl rfl rfl (bsl41_1 (.slice _ _ _) rfl) (fun bkl45 hbkl45 => ?_)
       refine rAlt ?_ ?_
       ·
        refine ldl Try.isAgg41 (cB 5 rfl rfl) (fun _ h => h.pick []) rfl rfl rfl ?_
        refine rAlt ?_ ?_
        ·
         refine bsl (fun _ _ h => h.pick []) rfl rfl rfl (bsl41_1 (.slice _ _ _) rfl) (fun bkl46 hbkl46 => ?_)
         refine rAlt ?_ ?_
         ·
          refine apR (hd := ((some ⟨bkm7, 0, none⟩), (kk).toNat)) (x := (Math.hcRow kk.toNat ag i)) 5 3 0 maK.ok rfl rfl rfl (fun h => by first | rfl | (dsimp only at h; rw [h]; rfl) | (rw [h]; rfl) | exact congrArg (fun m => [Value.slice _ m _]) h) mk41 (fun _ _ h => h.pick []) rfl rfl rfl rfl (by omega) ?_
          intro aq69 cq69
          refine ldl Try.isAgg41 (cB 5 rfl rfl) (fun _ h => h.pick []) rfl rfl rfl ?_
          refine fld fl43_1 rfl rfl rfl ?_
          refine apR (hd := ((some ⟨bkm8, 0, none⟩), (kk).toNat)) (x := (Math.hcWin kk.toNat i)) 4 3 2 maK.ok rfl rfl rfl (fun h => by first | rfl | (dsimp only at h; rw [h]; rfl) | (rw [h]; rfl) | exact congrArg (fun m => [Value.slice _ m _]) h) mk41 (fun _ _ h => h.pick []) rfl rfl rfl rfl (by omega) ?_
          intro aq70 cq70
          refine stl (v := .slice _ _ _) 4 rfl Try.sizeOf41 (fun _ h => h.pick []) rfl rfl rfl rfl rfl (Nat.le_of_ble_eq_true rfl) ?_
          refine fld fl43_2 rfl rfl rfl ?_
          refine stf (v := .slice _ _ _) 4 rfl Try.sizeOf41 rfl rfl rfl rfl rfl (Nat.le_of_ble_eq_true rfl) ?_
          refine rNil ?_
          refine qSeq rfl ?_
          refine hReg (sq 0 (sq 1 sz)) (by kernel_rfl) ?_
          refine add rfl rfl rfl rfl (by omega) ?_
          refine mvI rfl rfl rfl ?_
          refine rNil ?_
          rw [Math.hcW_snoc, Math.hcV_snoc]
          exact qNext rfl ((i + 1, q + 1, ((aq69, cq69), (hset hd.2 (Math.hcW kk.toNat ag i).length ((some ⟨bkm7, 0, none⟩), (kk).toNat))), ((aq70, cq70), (hset he.2 (Math.hcV kk.toNat i).length ((some ⟨bkm8, 0, none⟩), (kk).toNat))))) (by dsimp only; omega) ⟨by dsimp only; omega, by dsimp only; omega⟩ ⟨rfl, rfl, rfl, rfl, rfl, rfl, trivial⟩ (fun _ h => h.pick [0, 0, 2, 2, 2, 2])
         ·
          refine ldl Try.isAgg41 (cB 6 rfl rfl) (fun _ h => h.pick []) rfl rfl rfl ?_
          refine apR (hd := ((some ⟨bkm7, 0, none⟩), (kk).toNat)) (x := (Math.hcRow kk.toNat ag i)) 5 3 0 maK.ok rfl rfl rfl (fun h => by first | rfl | (dsimp only at h; rw [h]; rfl) | (rw [h]; rfl) | exact congrArg (fun m => [Value.slice _ m _]) h) mk41 (fun _ _ h => h.pick []) rfl rfl rfl rfl (by omega) ?_
          intro aq71 cq71
          refine fld fl43_1 rfl rfl rfl ?_
          refine apR (hd := ((some ⟨bkm8, 0, none⟩), (kk).toNat)) (x := (Math.hcWin kk.toNat i)) 4 3 2 maK.ok rfl rfl rfl (fun h => by first | rfl | (dsimp only at h; rw [h]; rfl) | (rw [h]; rfl) | exact congrArg (fun m => [Value.slice _ m _]) h) mk41 (fun _ _ h => h.pick []) rfl rfl rfl rfl (by omega) ?_
          intro aq72 cq72
          refine stl (v := .slice _ _ _) 4 rfl Try.sizeOf41 (fun _ h => h.pick []) rfl rfl rfl rfl rfl (Nat.le_of_ble_eq_true rfl) ?_
          refine fld fl43_2 rfl rfl rfl ?_
          refine stf (v := .slice _ _ _) 4 rfl Try.sizeOf41 rfl rfl rfl rfl rfl (Nat.le_of_ble_eq_true rfl) ?_
          refine rNil ?_
          refine qSeq rfl ?_
          refine hReg (sq 0 (sq 1 sz)) (by kernel_rfl) ?_
          refine add rfl rfl rfl rfl (by omega) ?_
          refine mvI rfl rfl rfl ?_
          refine rNil ?_
          rw [Math.hcW_snoc, Math.hcV_snoc]
          exact qNext rfl ((i + 1, q + 1, ((aq71, cq71), (hset hd.2 (Math.hcW kk.toNat ag i).length ((some ⟨bkm7, 0, none⟩), (kk).toNat))), ((aq72, cq72), (hset he.2 (Math.hcV kk.toNat i).length ((some ⟨bkm8, 0, none⟩), (kk).toNat))))) (by dsimp only; omega) ⟨by dsimp only; omega, by dsimp only; omega⟩ ⟨rfl, rfl, rfl, rfl, rfl, rfl, trivial⟩ (fun _ h => h.pick [0, 0, 2, 2, 2, 2])
        ·
         refine ldl Try.isAgg41 (cB 5 rfl rfl) (fun _ h => h.pick []) rfl rfl rfl ?_
         refine bsl (fun _ _ h => h.pick []) rfl rfl rfl (bsl41_1 (.slice _ _ _) rfl) (fun bkl47 hbkl47 => ?_)
         refine apR (hd := ((some ⟨bkm7, 0, none⟩), (kk).toNat)) (x := (Math.hcRow kk.toNat ag i)) 5 3 0 maK.ok rfl rfl rfl (fun h => by first | rfl | (dsimp only at h; rw [h]; rfl) | (rw [h]; rfl) | exact congrArg (fun m => [Value.slice _ m _]) h) mk41 (fun _ _ h => h.pick []) rfl rfl rfl rfl (by omega) ?_
         intro aq73 cq73
         refine fld fl43_1 rfl rfl rfl ?_
         refine apR (hd := ((some ⟨bkm8, 0, none⟩), (kk).toNat)) (x := (Math.hcWin kk.toNat i)) 4 3 2 maK.ok rfl rfl rfl (fun h => by first | rfl | (dsimp only at h; rw [h]; rfl) | (rw [h]; rfl) | exact congrArg (fun m => [Value.slice _ m _]) h) mk41 (fun _ _ h => h.pick []) rfl rfl rfl rfl (by omega) ?_
         intro aq74 cq74
         refine stl (v := .slice _ _ _) 4 rfl Try.sizeOf41 (fun _ h => h.pick []) rfl rfl rfl rfl rfl (Nat.le_of_ble_eq_true rfl) ?_
         refine fld fl43_2 rfl rfl rfl ?_
         refine stf (v := .slice _ _ _) 4 rfl Try.sizeOf41 rfl rfl rfl rfl rfl (Nat.le_of_ble_eq_true rfl) ?_
         refine rNil ?_
         refine qSeq rfl ?_
         refine hReg (sq 0 (sq 1 sz)) (by kernel_rfl) ?_
         refine add rfl rfl rfl rfl (by omega) ?_
         refine mvI rfl rfl rfl ?_
         refine rNil ?_
         rw [Math.hcW_snoc, Math.hcV_snoc]
         exact qNext rfl ((i + 1, q + 1, ((aq73, cq73), (hset hd.2 (Math.hcW kk.toNat ag i).length ((some ⟨bkm7, 0, none⟩), (kk).toNat))), ((aq74, cq74), (hset he.2 (Math.hcV kk.toNat i).length ((some ⟨bkm8, 0, none⟩), (kk).toNat))))) (by dsimp only; omega) ⟨by dsimp only; omega, by dsimp only; omega⟩ ⟨rfl, rfl, rfl, rfl, rfl, rfl, trivial⟩ (fun _ h => h.pick [0, 0, 2, 2, 2, 2])
       ·
        refine rAlt ?_ ?_
        ·
         refine bsl (fun _ _ h => h.pick []) rfl rfl rfl (bsl41_1 (.slice _ _ _) rfl) (fun bkl48 hbkl48 => ?_)
         refine rAlt ?_ ?_
         ·
          refine ldl Try.isAgg41 (cB 6 rfl rfl) (fun _ h => h.pick []) rfl rfl rfl ?_
          refine rAlt ?_ ?_
          ·
           refine apR (hd := ((some ⟨bkm7, 0, none⟩), (kk).toNat)) (x := (Math.hcRow kk.toNat ag i)) 5 3 0 maK.ok rfl rfl rfl (fun h => by first | rfl | (dsimp only at h; rw [h]; rfl) | (rw [h]; rfl) | exact congrArg (fun m => [Value.slice _ m _]) h) mk41 (fun _ _ h => h.pick []) rfl rfl rfl rfl (by omega) ?_
           intro aq75 cq75
           refine ldl Try.isAgg41 (cB 5 rfl rfl) (fun _ h => h.pick []) rfl rfl rfl ?_
           refine fld fl43_1 rfl rfl rfl ?_
           refine apR (hd := ((some ⟨bkm8, 0, none⟩), (kk).toNat)) (x := (Math.hcWin kk.toNat i)) 4 3 2 maK.ok rfl rfl rfl (fun h => by first | rfl | (dsimp only at h; rw [h]; rfl) | (rw [h]; rfl) | exact congrArg (fun m => [Value.slice _ m _]) h) mk41 (fun _ _ h => h.pick []) rfl rfl rfl rfl (by omega) ?_
           intro aq76 cq76
           refine stl (v := .slice _ _ _) 4 rfl Try.sizeOf41 (fun _ h => h.pick []) rfl rfl rfl rfl rfl (Nat.le_of_ble_eq_true rfl) ?_
           refine fld fl43_2 rfl rfl rfl ?_
           refine stf (v := .slice _ _ _) 4 rfl Try.sizeOf41 rfl rfl rfl rfl rfl (Nat.le_of_ble_eq_true rfl) ?_
           refine rNil ?_
           refine qSeq rfl ?_
           refine hReg (sq 0 (sq 1 sz)) (by kernel_rfl) ?_
           refine add rfl rfl rfl rfl (by omega) ?_
           refine mvI rfl rfl rfl ?_
           refine rNil ?_
           rw [Math.hcW_snoc, Math.hcV_snoc]
           exact qNext rfl ((i + 1, q + 1, ((aq75, cq75), (hset hd.2 (Math.hcW kk.toNat ag i).length ((some ⟨bkm7, 0, none⟩), (kk).toNat))), ((aq76, cq76), (hset he.2 (Math.hcV kk.toNat i).length ((some ⟨bkm8, 0, none⟩), (kk).toNat))))) (by dsimp only; omega) ⟨by dsimp only; omega, by dsimp only; omega⟩ ⟨rfl, rfl, rfl, rfl, rfl, rfl, trivial⟩ (fun _ h => h.pick [0, 0, 2, 2, 2, 2])
          ·
           refine ldl Try.isAgg41 (cB 6 rfl rfl) (fun _ h => h.pick []) rfl rfl rfl ?_
           refine apR (hd := ((some ⟨bkm7, 0, none⟩), (kk).toNat)) (x := (Math.hcRow kk.toNat ag i)) 5 3 0 maK.ok rfl rfl rfl (fun h => by first | rfl | (dsimp only at h; rw [h]; rfl) | (rw [h]; rfl) | exact congrArg (fun m => [Value.slice _ m _]) h) mk41 (fun _ _ h => h.pick []) rfl rfl rfl rfl (by omega) ?_
           intro aq77 cq77
           refine fld fl43_1 rfl rfl rfl ?_
           refine apR (hd := ((some ⟨bkm8, 0, none⟩), (kk).toNat)) (x := (Math.hcWin kk.toNat i)) 4 3 2 maK.ok rfl rfl rfl (fun h => by first | rfl | (dsimp only at h; rw [h]; rfl) | (rw [h]; rfl) | exact congrArg (fun m => [Value.slice _ m _]) h) mk41 (fun _ _ h => h.pick []) rfl rfl rfl rfl (by omega) ?_
           intro aq78 cq78
           refine stl (v := .slice _ _ _) 4 rfl Try.sizeOf41 (fun _ h => h.pick []) rfl rfl rfl rfl rfl (Nat.le_of_ble_eq_true rfl) ?_
           refine fld fl43_2 rfl rfl rfl ?_
           refine stf (v := .slice _ _ _) 4 rfl Try.sizeOf41 rfl rfl rfl rfl rfl (Nat.le_of_ble_eq_true rfl) ?_
           refine rNil ?_
           refine qSeq rfl ?_
           refine hReg (sq 0 (sq 1 sz)) (by kernel_rfl) ?_
           refine add rfl rfl rfl rfl (by omega) ?_
           refine mvI rfl rfl rfl ?_
           refine rNil ?_
           rw [Math.hcW_snoc, Math.hcV_snoc]
           exact qNext rfl ((i + 1, q + 1, ((aq77, cq77), (hset hd.2 (Math.hcW kk.toNat ag i).length ((some ⟨bkm7, 0, none⟩), (kk).toNat))), ((aq78, cq78), (hset he.2 (Math.hcV kk.toNat i).length ((some ⟨bkm8, 0, none⟩), (kk).toNat))))) (by dsimp only; omega) ⟨by dsimp only; omega, by dsimp only; omega⟩ ⟨rfl, rfl, rfl, rfl, rfl, rfl, trivial⟩ (fun _ h => h.pick [0, 0, 2, 2, 2, 2])
         ·
          refine ldl Try.isAgg41 (cB 6 rfl rfl) (fun _ h => h.pick []) rfl rfl rfl ?_
          refine ldl Try.isAgg41 (cB 6 rfl rfl) (fun _ h => h.pick []) rfl rfl rfl ?_
          refine apR (hd := ((some ⟨bkm7, 0, none⟩), (kk).toNat)) (x := (Math.hcRow kk.toNat ag i)) 5 3 0 maK.ok rfl rfl rfl (fun h => by first | rfl | (dsimp only at h; rw [h]; rfl) | (rw [h]; rfl) | exact congrArg (fun m => [Value.slice _ m _]) h) mk41 (fun _ _ h => h.pick []) rfl rfl rfl rfl (by omega) ?_
          intro aq79 cq79
          refine fld fl43_1 rfl rfl rfl ?_
          refine apR (hd := ((some ⟨bkm8, 0, none⟩), (kk).toNat)) (x := (Math.hcWin kk.toNat i)) 4 3 2 maK.ok rfl rfl rfl (fun h => by first | rfl | (dsimp only at h; rw [h]; rfl) | (rw [h]; rfl) | exact congrArg (fun m => [Value.slice _ m _]) h) mk41 (fun _ _ h => h.pick []) rfl rfl rfl rfl (by omega) ?_
          intro aq80 cq80
          refine stl (v := .slice _ _ _) 4 rfl Try.sizeOf41 (fun _ h => h.pick []) rfl rfl rfl rfl rfl (Nat.le_of_ble_eq_true rfl) ?_
          refine fld fl43_2 rfl rfl rfl ?_
          refine stf (v := .slice _ _ _) 4 rfl Try.sizeOf41 rfl rfl rfl rfl rfl (Nat.le_of_ble_eq_true rfl) ?_
          refine rNil ?_
          refine qSeq rfl ?_
          refine hReg (sq 0 (sq 1 sz)) (by kernel_rfl) ?_
          refine add rfl rfl rfl rfl (by omega) ?_
          refine mvI rfl rfl rfl ?_
          refine rNil ?_
          rw [Math.hcW_snoc, Math.hcV_snoc]
          exact qNext rfl ((i + 1, q + 1, ((aq79, cq79), (hset hd.2 (Math.hcW kk.toNat ag i).length ((some ⟨bkm7, 0, none⟩), (kk).toNat))), ((aq80, cq80), (hset he.2 (Math.hcV kk.toNat i).length ((some ⟨bkm8, 0, none⟩), (kk).toNat))))) (by dsimp only; omega) ⟨by dsimp only; omega, by dsimp only; omega⟩ ⟨rfl, rfl, rfl, rfl, rfl, rfl, trivial⟩ (fun _ h => h.pick [0, 0, 2, 2, 2, 2])
        ·
         refine ldl Try.isAgg41 (cB 5 rfl rfl) (fun _ h => h.pick []) rfl rfl rfl ?_
         refine rAlt ?_ ?_
         ·
          refine ldl Try.isAgg41 (cB 5 rfl rfl) (fun _ h => h.pick []) rfl rfl rfl ?_
          refine bsl (fun _ _ h => h.pick []) rfl rfl rfl (bsl41_1 (.slice _ _ _) rfl) (fun bkl49 hbkl49 => ?_)
          refine apR (hd := ((some ⟨bkm7, 0, none⟩), (kk).toNat)) (x := (Math.hcRow kk.toNat ag i)) 5 3 0 maK.ok rfl rfl rfl (fun h => by first | rfl | (dsimp only at h; rw [h]; rfl) | (rw [h]; rfl) | exact congrArg (fun m => [Value.slice _ m _]) h) mk41 (fun _ _ h => h.pick []) rfl rfl rfl rfl (by omega) ?_
          intro aq81 cq81
          refine fld fl43_1 rfl rfl rfl ?_
          refine apR (hd := ((some ⟨bkm8, 0, none⟩), (kk).toNat)) (x := (Math.hcWin kk.toNat i)) 4 3 2 maK.ok rfl rfl rfl (fun h => by first | rfl | (dsimp only at h; rw [h]; rfl) | (rw [h]; rfl) | exact congrArg (fun m => [Value.slice _ m _]) h) mk41 (fun _ _ h => h.pick []) rfl rfl rfl rfl (by omega) ?_
          intro aq82 cq82
          refine stl (v := .slice _ _ _) 4 rfl Try.sizeOf41 (fun _ h => h.pick []) rfl rfl rfl rfl rfl (Nat.le_of_ble_eq_true rfl) ?_
          refine fld fl43_2 rfl rfl rfl ?_
          refine stf (v := .slice _ _ _) 4 rfl Try.sizeOf41 rfl rfl rfl rfl rfl (Nat.le_of_ble_eq_true rfl) ?_
          refine rNil ?_
          refine qSeq rfl ?_
          refine hReg (sq 0 (sq 1 sz)) (by kernel_rfl) ?_
          refine add rfl rfl rfl rfl (by omega) ?_
          refine mvI rfl rfl rfl ?_
          refine rNil ?_
          rw [Math.hcW_snoc, Math.hcV_snoc]
          exact qNext rfl ((i + 1, q + 1, ((aq81, cq81), (hset hd.2 (Math.hcW kk.toNat ag i).length ((some ⟨bkm7, 0, none⟩), (kk).toNat))), ((aq82, cq82), (hset he.2 (Math.hcV kk.toNat i).length ((some ⟨bkm8, 0, none⟩), (kk).toNat))))) (by dsimp only; omega) ⟨by dsimp only; omega, by dsimp only; omega⟩ ⟨rfl, rfl, rfl, rfl, rfl, rfl, trivial⟩ (fun _ h => h.pick [0, 0, 2, 2, 2, 2])
         ·
          refine bsl (fun _ _ h => h.pick []) rfl rfl rfl (bsl41_1 (.slice _ _ _) rfl) (fun bkl50 hbkl50 => ?_)
          refine ldl Try.isAgg41 (cB 6 rfl rfl) (fun _ h => h.pick []) rfl rfl rfl ?_
          refine apR (hd := ((some ⟨bkm7, 0, none⟩), (kk).toNat)) (x := (Math.hcRow kk.toNat ag i)) 5 3 0 maK.ok rfl rfl rfl (fun h => by first | rfl | (dsimp only at h; rw [h]; rfl) | (rw [h]; rfl) | exact congrArg (fun m => [Value.slice _ m _]) h) mk41 (fun _ _ h => h.pick []) rfl rfl rfl rfl (by omega) ?_
          intro aq83 cq83
          refine fld fl43_1 rfl rfl rfl ?_
          refine apR (hd := ((some ⟨bkm8, 0, none⟩), (kk).toNat)) (x := (Math.hcWin kk.toNat i)) 4 3 2 maK.ok rfl rfl rfl (fun h => by first | rfl | (dsimp only at h; rw [h]; rfl) | (rw [h]; rfl) | exact congrArg (fun m => [Value.slice _ m _]) h) mk41 (fun _ _ h => h.pick []) rfl rfl rfl rfl (by omega) ?_
          intro aq84 cq84
          refine stl (v := .slice _ _ _) 4 rfl Try.sizeOf41 (fun _ h => h.pick []) rfl rfl rfl rfl rfl (Nat.le_of_ble_eq_true rfl) ?_
          refine fld fl43_2 rfl rfl rfl ?_
          refine stf (v := .slice _ _ _) 4 rfl Try.sizeOf41 rfl rfl rfl rfl rfl (Nat.le_of_ble_eq_true rfl) ?_
          refine rNil ?_
          refine qSeq rfl ?_
          refine hReg (sq 0 (sq 1 sz)) (by kernel_rfl) ?_
          refine add rfl rfl rfl rfl (by omega) ?_
          refine mvI rfl rfl rfl ?_
          refine rNil ?_
          rw [Math.hcW_snoc, Math.hcV_snoc]
          exact qNext rfl ((i + 1, q + 1, ((aq83, cq83), (hset hd.2 (Math.hcW kk.toNat ag i).length ((some ⟨bkm7, 0, none⟩), (kk).toNat))), ((aq84, cq84), (hset he.2 (Math.hcV kk.toNat i).length ((some ⟨bkm8, 0, none⟩), (kk).toNat))))) (by dsimp only; omega) ⟨by dsimp only; omega, by dsimp only; omega⟩ ⟨rfl, rfl, rfl, rfl, rfl, rfl, trivial⟩ (fun _ h => h.pick [0, 0, 2, 2, 2, 2])
  ·
   refine mksI ((kk).toNat) mk28 (fun _ _ h => h.pick []) rfl rfl rfl rfl (by omega) (by omega) (fun bkm51 hbkm51 => ?_)
   refine mksI ((kk).toNat) mk28 (fun _ _ h => h.pick []) rfl rfl rfl rfl (by omega) (by omega) (fun bkm52 hbkm52 => ?_)
   refine asS rfl rfl rfl ?_
   refine asS rfl rfl rfl ?_
   refine rNil ?_
   refine qSeq rfl ?_
   refine hSeq ?_
   refine hSeq ?_
   refine hReg (sq 0 (sq 1 sz)) (by kernel_rfl) ?_
   refine mvI rfl rfl rfl ?_
   refine mvI rfl rfl rfl ?_
   refine rNil ?_
   refine qSeq rfl ?_
   refine hBlk ?_
   refine hLoop (α := Nat) (fun j => (j : Int) ≤ kk) (fun j => kk.toNat - j) (fun j => [OwnI 2 (some ⟨bkm52, 0, none⟩) ((kk).toNat) ((kk).toNat) (((Math.hcRow kk.toNat ag i).take j ++ List.replicate (kk.toNat - j) 0)), OwnI 2 (some ⟨bkm51, 0, none⟩) ((kk).toNat) ((kk).toNat) (((Math.hcWin kk.toNat i).take j ++ List.replicate (kk.toNat - j) 0)), OwnR maK 28 2 he.1.1 q he.1.2 he.2 (Math.hcV kk.toNat i), OwnR maK 28 2 hd.1.1 q hd.1.2 hd.2 (Math.hcW kk.toNat ag i), blk bka4 43 [.slice ay1 ny1 cy1, .slice hd.1.1 q hd.1.2, .slice he.1.1 q he.1.2], OwnR ndK 88 2 ay1 ny1 cy1 Hy1 z, blk bka2 43 [.slice none 0 0, .slice none 0 0, .slice none 0 0], blk bkb1 26 [.slice az nz cz]]) (fun j => [(1, .int .i64 kk), (2, .bool ag), (6, .pointer (some ⟨bka2, 0, none⟩)), (7, .pointer (some ⟨bka4, 0, none⟩)), (8, .int .i64 (i : Int)), (9, .slice (some ⟨bkm52, 0, none⟩) ((kk).toNat) ((kk).toNat)), (10, .slice (some ⟨bkm51, 0, none⟩) ((kk).toNat) ((kk).toNat)), (15, .int .i64 kk), (16, .int .i64 (i : Int)), (23, .int .i64 kk), (24, .int .i64 (j : Int))]) 0 (by omega) (fun _ h => (by simp only [List.take_zero, List.nil_append, Nat.sub_zero]; exact h.pick [0, 0, 0, 0, 0, 0, 0, 0])) ⟨rfl, rfl, rfl, rfl, rfl, rfl, rfl, rfl, rfl, rfl, rfl, trivial⟩ ?_
   rintro j τ3 hj
   refine hSeq ?_
   refine hReg (sq 0 sz) (by kernel_rfl) ?_
   refine lss rfl rfl rfl rfl ?_
   refine rNil ?_
   refine qSeq rfl ?_
   refine hSeq ?_
   refine hIfD rfl (fun c5 => ?_) (fun c5 => ?_)
   ·
    replace c5 : (j : Int) < kk := c5
    refine hSkip ?_
    refine qSeq rfl ?_
    refine hSeq ?_
    refine hBlk ?_
    refine hSeq ?_
    refine hReg (sq 0 (sq 1 sz)) (by kernel_rfl) ?_
    refine mvI rfl rfl rfl ?_
    refine asI rfl rfl rfl ?_
    refine rNil ?_
    refine qSeq rfl ?_
    refine hSeq ?_
    refine hSeq ?_
    refine hReg (sq 0 (sq 1 (sq 2 (sq 3 (sq 4 (sq 5 sz)))))) (by kernel_rfl) ?_
    refine mvI rfl rfl rfl ?_
    refine mvI rfl rfl rfl ?_
    refine neq rfl rfl rfl rfl ?_
    refine mvB rfl rfl rfl ?_
    refine rBoolD (d := 30) rfl (fun g6 => ?_) (fun g6 => ?_)
    ·
     replace g6 : (i : Int) ≠ (j : Int) := g6
     refine rSkipQ rfl rfl ?_
     refine pickB rfl rfl rfl rfl ?_
     refine rNil ?_
     refine qSeq rfl ?_
     refine hIfT rfl ?_
     refine hReg (sq 0 (sq 1 (sq 2 (sl 3 sz)))) (by kernel_rfl) ?_
     refine mvS rfl rfl rfl ?_
     refine mvI rfl rfl rfl ?_
     refine oxI (zn := j) 0 rfl el28 rfl rfl rfl rfl (by omega) (by omega) rfl ?_
     intro gk85 hgk85
     refine stoI (off := j) (x := 1) 0 rfl hgk85 Try.sizeOf2 trv rfl rfl rfl rfl (by omega) ?_
     refine rNil ?_
     refine qSeq rfl ?_
     refine hReg (sq 0 (sq 1 (sq 2 (sq 3 (sl 4 (sq 5 (sl 6 sz))))))) (by kernel_rfl) ?_
     refine mvS rfl rfl rfl ?_
     refine mvI rfl rfl rfl ?_
     refine mvI rfl rfl rfl ?_
     refine mvI rfl rfl rfl ?_
     refine callP (v := .int .i64 ((Math.order (i : Int) (j : Int)))) Try.call169 trv rfl rfl (fun w hs => cmp_Compare_int64_c _ _ w ) ?_
     refine oxI (zn := j) 1 rfl el28 rfl rfl rfl rfl (by omega) (by omega) rfl ?_
     intro gk86 hgk86
     refine stoI (off := j) (x := (Math.order (i : Int) (j : Int))) 1 rfl hgk86 Try.sizeOf2 trv rfl rfl rfl rfl (by omega) ?_
     refine rNil ?_
     refine qSeq rfl ?_
     refine hReg (sq 0 (sq 1 sz)) (by kernel_rfl) ?_
     refine add rfl rfl rfl rfl (by omega) ?_
     refine mvI rfl rfl rfl ?_
     refine rNil ?_
     rw [Math.fill_put 0 0 1 (Math.hcRow_len kk.toNat ag i) (by omega) (by rw [Math.hcRow_get (by omega)]; exact Math.hcCell_1 g6), Math.fill_put 0 0 (Math.order (i : Int) (j : Int)) (Math.hcWin_len kk.toNat i) (by omega) (Math.hcWin_get (by omega))]
     exact qNext rfl (j + 1) (by omega) (by omega) ⟨rfl, rfl, rfl, rfl, rfl, rfl, rfl, rfl, rfl, rfl, rfl, trivial⟩ (fun _ h => h.pick [0, 0, 0, 0, 0, 0, 0, 0])
    ·
     replace g6 : ¬ ((i : Int) ≠ (j : Int)) := g6
     refine mvB rfl rfl rfl ?_
     refine pickB rfl rfl rfl rfl ?_
     refine rNil ?_
     refine qSeq rfl ?_
     refine hIf rfl (fun c7 => ?_) (fun c7 => ?_)
     ·
      replace c7 : ag = true := c7
      refine hReg (sq 0 (sq 1 (sq 2 (sl 3 sz)))) (by kernel_rfl) ?_
      refine mvS rfl rfl rfl ?_
      refine mvI rfl rfl rfl ?_
      refine oxI (zn := j) 0 rfl el28 rfl rfl rfl rfl (by omega) (by omega) rfl ?_
      intro gk87 hgk87
      refine stoI (off := j) (x := 1) 0 rfl hgk87 Try.sizeOf2 trv rfl rfl rfl rfl (by omega) ?_
      refine rNil ?_
      refine qSeq rfl ?_
      refine hReg (sq 0 (sq 1 (sq 2 (sq 3 (sl 4 (sq 5 (sl 6 sz))))))) (by kernel_rfl) ?_
      refine mvS rfl rfl rfl ?_
      refine mvI rfl rfl rfl ?_
      refine mvI rfl rfl rfl ?_
      refine mvI rfl rfl rfl ?_
      refine callP (v := .int .i64 ((Math.order (i : Int) (j : Int)))) Try.call169 trv rfl rfl (fun w hs => cmp_Compare_int64_c _ _ w ) ?_
      refine oxI (zn := j) 1 rfl el28 rfl rfl rfl rfl (by omega) (by omega) rfl ?_
      intro gk88 hgk88
      refine stoI (off := j) (x := (Math.order (i : Int) (j : Int))) 1 rfl hgk88 Try.sizeOf2 trv rfl rfl rfl rfl (by omega) ?_
      refine rNil ?_
      refine qSeq rfl ?_
      refine hReg (sq 0 (sq 1 sz)) (by kernel_rfl) ?_
      refine add rfl rfl rfl rfl (by omega) ?_
      refine mvI rfl rfl rfl ?_
      refine rNil ?_
      rw [Math.fill_put 0 0 1 (Math.hcRow_len kk.toNat ag i) (by omega) (by rw [Math.hcRow_get (by omega)]; exact Math.hcCell_2 (by simpa using c7)), Math.fill_put 0 0 (Math.order (i : Int) (j : Int)) (Math.hcWin_len kk.toNat i) (by omega) (Math.hcWin_get (by omega))]
      exact qNext rfl (j + 1) (by omega) (by omega) ⟨rfl, rfl, rfl, rfl, rfl, rfl, rfl, rfl, rfl, rfl, rfl, trivial⟩ (fun _ h => h.pick [0, 0, 0, 0, 0, 0, 0, 0])
     ·
      replace c7 : ag = false := c7
      refine hSkip ?_
      refine qSeq rfl ?_
      refine hReg (sq 0 (sq 1 (sq 2 (sq 3 (sl 4 (sq 5 (sl 6 sz))))))) (by kernel_rfl) ?_
      refine mvS rfl rfl rfl ?_
      refine mvI rfl rfl rfl ?_
      refine mvI rfl rfl rfl ?_
      refine mvI rfl rfl rfl ?_
      refine callP (v := .int .i64 ((Math.order (i : Int) (j : Int)))) Try.call169 trv rfl rfl (fun w hs => cmp_Compare_int64_c _ _ w ) ?_
      refine oxI (zn := j) 1 rfl el28 rfl rfl rfl rfl (by omega) (by omega) rfl ?_
      intro gk89 hgk89
      refine stoI (off := j) (x := (Math.order (i : Int) (j : Int))) 1 rfl hgk89 Try.sizeOf2 trv rfl rfl rfl rfl (by omega) ?_
      refine rNil ?_
      refine qSeq rfl ?_
      refine hReg (sq 0 (sq 1 sz)) (by kernel_rfl) ?_
      refine add rfl rfl rfl rfl (by omega) ?_
      refine mvI rfl rfl rfl ?_
      refine rNil ?_
      rw [Math.fill_skip 0 0 (Math.hcRow_len kk.toNat ag i) (by omega) (by rw [Math.hcRow_get (by omega)]; exact Math.hcCell_0 (by omega) (by simpa using c7)), Math.fill_put 0 0 (Math.order (i : Int) (j : Int)) (Math.hcWin_len kk.toNat i) (by omega) (Math.hcWin_get (by omega))]
      exact qNext rfl (j + 1) (by omega) (by omega) ⟨rfl, rfl, rfl, rfl, rfl, rfl, rfl, rfl, rfl, rfl, rfl, trivial⟩ (fun _ h => h.pick [0, 0, 0, 0, 0, 0, 0, 0])
   ·
    replace c5 : ¬ ((j : Int) < kk) := c5
    rw [Math.fill_end 0 (Math.hcRow_len kk.toNat ag i) (by omega)]
    rw [Math.fill_end 0 (Math.hcWin_len kk.toNat i) (by omega)]
    refine hExit rfl ?_
    refine qSeq rfl ?_
    refine hDraw (Ls := []) (by kernel_rfl) (sq 0 (sq 2 (sq 5 (sq 7 (.alt (sl 1 (.alt (sl 3 (.alt (sl 4 (.alt (sl 6 (sq 10 (sl 8 (sl 9 (sl 11 (sq 12 (sf 13 sz))))))) (sl 8 (sl 6 (sq 10 (sl 9 (sl 11 (sq 12 (sf 13 sz))))))))) (.alt (sl 6 (.alt (sl 4 (sq 10 (sl 8 (sl 9 (sl 11 (sq 12 (sf 13 sz))))))) (sl 8 (sl 4 (sq 10 (sl 9 (sl 11 (sq 12 (sf 13 sz))))))))) (sl 8 (.alt (sl 4 (sl 6 (sq 10 (sl 9 (sl 11 (sq 12 (sf 13 sz))))))) (sl 6 (sl 4 (sq 10 (sl 9 (sl 11 (sq 12 (sf 13 sz)))))))))))) (.alt (sl 6 (.alt (sl 3 (.alt (sl 4 (sq 10 (sl 8 (sl 9 (sl 11 (sq 12 (sf 13 sz))))))) (sl 8 (sl 4 (sq 10 (sl 9 (sl 11 (sq 12 (sf 13 sz))))))))) (sl 8 (sl 3 (sl 4 (sq 10 (sl 9 (sl 11 (sq 12 (sf 13 sz)))))))))) (sl 8 (.alt (sl 3 (.alt (sl 4 (sl 6 (sq 10 (sl 9 (sl 11 (sq 12 (sf 13 sz))))))) (sl 6 (sl 4 (sq 10 (sl 9 (sl 11 (sq 12 (sf 13 sz))))))))) (sl 6 (sl 3 (sl 4 (sq 10 (sl 9 (sl 11 (sq 12 (sf 13 sz))))))))))))) (.alt (sl 3 (.alt (sl 1 (.alt (sl 4 (.alt (sl 6 (sq 10 (sl 8 (sl 9 (sl 11 (sq 12 (sf 13 sz))))))) (sl 8 (sl 6 (sq 10 (sl 9 (sl 11 (sq 12 (sf 13 sz))))))))) (.alt (sl 6 (.alt (sl 4 (sq 10 (sl 8 (sl 9 (sl 11 (sq 12 (sf 13 sz))))))) (sl 8 (sl 4 (sq 10 (sl 9 (sl 11 (sq 12 (sf 13 sz))))))))) (sl 8 (.alt (sl 4 (sl 6 (sq 10 (sl 9 (sl 11 (sq 12 (sf 13 sz))))))) (sl 6 (sl 4 (sq 10 (sl 9 (sl 11 (sq 12 (sf 13 sz)))))))))))) (.alt (sl 6 (.alt (sl 1 (.alt (sl 4 (sq 10 (sl 8 (sl 9 (sl 11 (sq 12 (sf 13 sz))))))) (sl 8 (sl 4 (sq 10 (sl 9 (sl 11 (sq 12 (sf 13 sz))))))))) (sl 8 (sl 1 (sl 4 (sq 10 (sl 9 (sl 11 (sq 12 (sf 13 sz)))))))))) (sl 8 (.alt (sl 1 (.alt (sl 4 (sl 6 (sq 10 (sl 9 (sl 11 (sq 12 (sf 13 sz))))))) (sl 6 (sl 4 (sq 10 (sl 9 (sl 11 (sq 12 (sf 13 sz))))))))) (sl 6 (sl 1 (sl 4 (sq 10 (sl 9 (sl 11 (sq 12 (sf 13 sz))))))))))))) (.alt (sl 6 (.alt (sl 1 (.alt (sl 3 (.alt (sl 4 (sq 10 (sl 8 (sl 9 (sl 11 (sq 12 (sf 13 sz))))))) (sl 8 (sl 4 (sq 10 (sl 9 (sl 11 (sq 12 (sf 13 sz))))))))) (sl 8 (sl 3 (sl 4 (sq 10 (sl 9 (sl 11 (sq 12 (sf 13 sz)))))))))) (.alt (sl 3 (.alt (sl 1 (.alt (sl 4 (sq 10 (sl 8 (sl 9 (sl 11 (sq 12 (sf 13 sz))))))) (sl 8 (sl 4 (sq 10 (sl 9 (sl 11 (sq 12 (sf 13 sz))))))))) (sl 8 (sl 1 (sl 4 (sq 10 (sl 9 (sl 11 (sq 12 (sf 13 sz)))))))))) (sl 8 (.alt (sl 1 (sl 3 (sl 4 (sq 10 (sl 9 (sl 11 (sq 12 (sf 13 sz)))))))) (sl 3 (sl 1 (sl 4 (sq 10 (sl 9 (sl 11 (sq 12 (sf 13 sz))))))))))))) (sl 8 (.alt (sl 1 (.alt (sl 3 (.alt (sl 4 (sl 6 (sq 10 (sl 9 (sl 11 (sq 12 (sf 13 sz))))))) (sl 6 (sl 4 (sq 10 (sl 9 (sl 11 (sq 12 (sf 13 sz))))))))) (sl 6 (sl 3 (sl 4 (sq 10 (sl 9 (sl 11 (sq 12 (sf 13 sz)))))))))) (.alt (sl 3 (.alt (sl 1 (.alt (sl 4 (sl 6 (sq 10 (sl 9 (sl 11 (sq 12 (sf 13 sz))))))) (sl 6 (sl 4 (sq 10 (sl 9 (sl 11 (sq 12 (sf 13 sz))))))))) (sl 6 (sl 1 (sl 4 (sq 10 (sl 9 (sl 11 (sq 12 (sf 13 sz)))))))))) (sl 6 (.alt (sl 1 (sl 3 (sl 4 (sq 10 (sl 9 (sl 11 (sq 12 (sf 13 sz)))))))) (sl 3 (sl 1 (sl 4 (sq 10 (sl 9 (sl 11 (sq 12 (sf 13 sz)))))))))))))))))))) (by kernel_rfl) (.cons _ (.cons _ (.cons _ (.cons _ (.cons _ (.cons _ (.cons _ (.cons _ .slnil)))))))) ?_
    refine fld fl43_1 rfl rfl rfl ?_
    refine mvS rfl rfl rfl ?_
    refine fld fl43_2 rfl rfl rfl ?_
    refine mvS rfl rfl rfl ?_
    refine rAlt ?_ ?_
    ·
     refine ldl Try.isAgg41 (cB 4 rfl rfl) (fun _ h => h.pick []) rfl rfl rfl ?_
     refine rAlt ?_ ?_
     ·
      refine bsl (fun _ _ h => h.pick []) rfl rfl rfl (bsl41_1 (.slice _ _ _) rfl) (fun bkl53 hbkl53 => ?_)
      refine rAlt ?_ ?_
      ·
       refine apR (hd := ((some ⟨bkm52, 0, none⟩), (kk).toNat)) (x := (Math.hcRow kk.toNat ag i)) 4 1 0 maK.ok rfl rfl rfl (fun h => by first | rfl | (dsimp only at h; rw [h]; rfl) | (rw [h]; rfl) | exact congrArg (fun m => [Value.slice _ m _]) h) mk41 (fun _ _ h => h.pick []) rfl rfl rfl rfl (by omega) ?_
       intro aq90 cq90
       refine rAlt ?_ ?_
       ·
        refine ldl Try.isAgg41 (cB 4 rfl rfl) (fun _ h => h.pick []) rfl rfl rfl ?_
        refine fld fl43_1 rfl rfl rfl ?_
        refine bsl (fun _ _ h => h.pick []) rfl rfl rfl (bsl41_1 (.slice _ _ _) rfl) (fun bkl54 hbkl54 => ?_)
        refine apR (hd := ((some ⟨bkm51, 0, none⟩), (kk).toNat)) (x := (Math.hcWin kk.toNat i)) 4 3 0 maK.ok rfl rfl rfl (fun h => by first | rfl | (dsimp only at h; rw [h]; rfl) | (rw [h]; rfl) | exact congrArg (fun m => [Value.slice _ m _]) h) mk41 (fun _ _ h => h.pick []) rfl rfl rfl rfl (by omega) ?_
        intro aq91 cq91
        refine stl (v := .slice _ _ _) 4 rfl Try.sizeOf41 (fun _ h => h.pick []) rfl rfl rfl rfl rfl (Nat.le_of_ble_eq_true rfl) ?_
        refine fld fl43_2 rfl rfl rfl ?_
        refine stf (v := .slice _ _ _) 4 rfl Try.sizeOf41 rfl rfl rfl rfl rfl (Nat.le_of_ble_eq_true rfl) ?_
        refine rNil ?_
        refine qSeq rfl ?_
        refine hReg (sq 0 (sq 1 sz)) (by kernel_rfl) ?_
        refine add rfl rfl rfl rfl (by omega) ?_
        refine mvI rfl rfl rfl ?_
        refine rNil ?_
        rw [Math.hcW_snoc, Math.hcV_snoc]
        exact qNext rfl ((i + 1, q + 1, ((aq90, cq90), (hset hd.2 (Math.hcW kk.toNat ag i).length ((some ⟨bkm52, 0, none⟩), (kk).toNat))), ((aq91, cq91), (hset he.2 (Math.hcV kk.toNat i).length ((some ⟨bkm51, 0, none⟩), (kk).toNat))))) (by dsimp only; omega) ⟨by dsimp only; omega, by dsimp only; omega⟩ ⟨rfl, rfl, rfl, rfl, rfl, rfl, trivial⟩ (fun _ h => h.pick [0, 1, 2, 2, 2, 2])
       ·
        refine bsl (fun _ _ h => h.pick []) rfl rfl rfl (bsl41_1 (.slice _ _ _) rfl) (fun bkl55 hbkl55 => ?_)
        refine ldl Try.isAgg41 (cB 5 rfl rfl) (fun _ h => h.pick []) rfl rfl rfl ?_
        refine fld fl43_1 rfl rfl rfl ?_
        refine apR (hd := ((some ⟨bkm51, 0, none⟩), (kk).toNat)) (x := (Math.hcWin kk.toNat i)) 4 3 0 maK.ok rfl rfl rfl (fun h => by first | rfl | (dsimp only at h; rw [h]; rfl) | (rw [h]; rfl) | exact congrArg (fun m => [Value.slice _ m _]) h) mk41 (fun _ _ h => h.pick []) rfl rfl rfl rfl (by omega) ?_
        intro aq92 cq92
        refine stl (v := .slice _ _ _) 4 rfl Try.sizeOf41 (fun _ h => h.pick []) rfl rfl rfl rfl rfl (Nat.le_of_ble_eq_true rfl) ?_
        refine fld fl43_2 rfl rfl rfl ?_
        refine stf (v := .slice _ _ _) 4 rfl Try.sizeOf41 rfl rfl rfl rfl rfl (Nat.le_of_ble_eq_true rfl) ?_
        refine rNil ?_
        refine qSeq rfl ?_
        refine hReg (sq 0 (sq 1 sz)) (by kernel_rfl) ?_
        refine add rfl rfl rfl rfl (by omega) ?_
        refine mvI rfl rfl rfl ?_
        refine rNil ?_
        rw [Math.hcW_snoc, Math.hcV_snoc]
        exact qNext rfl ((i + 1, q + 1, ((aq90, cq90), (hset hd.2 (Math.hcW kk.toNat ag i).length ((some ⟨bkm52, 0, none⟩), (kk).toNat))), ((aq92, cq92), (hset he.2 (Math.hcV kk.toNat i).length ((some ⟨bkm51, 0, none⟩), (kk).toNat))))) (by dsimp only; omega) ⟨by dsimp only; omega, by dsimp only; omega⟩ ⟨rfl, rfl, rfl, rfl, rfl, rfl, trivial⟩ (fun _ h => h.pick [0, 1, 2, 2, 2, 2])
      ·
       refine rAlt ?_ ?_
       ·
        refine ldl Try.isAgg41 (cB 5 rfl rfl) (fun _ h => h.pick []) rfl rfl rfl ?_
        refine rAlt ?_ ?_
        ·
         refine apR (hd := ((some ⟨bkm52, 0, none⟩), (kk).toNat)) (x := (Math.hcRow kk.toNat ag i)) 4 1 0 maK.ok rfl rfl rfl (fun h => by first | rfl | (dsimp only at h; rw [h]; rfl) | (rw [h]; rfl) | exact congrArg (fun m => [Value.slice _ m _]) h) mk41 (fun _ _ h => h.pick []) rfl rfl rfl rfl (by omega) ?_
         intro aq93 cq93
         refine fld fl43_1 rfl rfl rfl ?_
         refine bsl (fun _ _ h => h.pick []) rfl rfl rfl (bsl41_1 (.slice _ _ _) rfl) (fun bkl56 hbkl56 => ?_)
         refine apR (hd := ((some ⟨bkm51, 0, none⟩), (kk).toNat)) (x := (Math.hcWin kk.toNat i)) 4 3 0 maK.ok rfl rfl rfl (fun h => by first | rfl | (dsimp only at h; rw [h]; rfl) | (rw [h]; rfl) | exact congrArg (fun m => [Value.slice _ m _]) h) mk41 (fun _ _ h => h.pick []) rfl rfl rfl rfl (by omega) ?_
         intro aq94 cq94
         refine stl (v := .slice _ _ _) 4 rfl Try.sizeOf41 (fun _ h => h.pick []) rfl rfl rfl rfl rfl (Nat.le_of_ble_eq_true rfl) ?_
         refine fld fl43_2 rfl rfl rfl ?_
         refine stf (v := .slice _ _ _) 4 rfl Try.sizeOf41 rfl rfl rfl rfl rfl (Nat.le_of_ble_eq_true rfl) ?_
         refine rNil ?_
         refine qSeq rfl ?_
         refine hReg (sq 0 (sq 1 sz)) (by kernel_rfl) ?_
         refine add rfl rfl rfl rfl (by omega) ?_
         refine mvI rfl rfl rfl ?_
         refine rNil ?_
         rw [Math.hcW_snoc, Math.hcV_snoc]
         exact qNext rfl ((i + 1, q + 1, ((aq93, cq93), (hset hd.2 (Math.hcW kk.toNat ag i).length ((some ⟨bkm52, 0, none⟩), (kk).toNat))), ((aq94, cq94), (hset he.2 (Math.hcV kk.toNat i).length ((some ⟨bkm51, 0, none⟩), (kk).toNat))))) (by dsimp only; omega) ⟨by dsimp only; omega, by dsimp only; omega⟩ ⟨rfl, rfl, rfl, rfl, rfl, rfl, trivial⟩ (fun _ h => h.pick [0, 1, 2, 2, 2, 2])
        ·
         refine bsl (fun _ _ h => h.pick []) rfl rfl rfl (bsl41_1 (.slice _ _ _) rfl) (fun bkl57 hbkl57 => ?_)
         refine apR (hd := ((some ⟨bkm52, 0, none⟩), (kk).toNat)) (x := (Math.hcRow kk.toNat ag i)) 5 2 1 maK.ok rfl rfl rfl (fun h => by first | rfl | (dsimp only at h; rw [h]; rfl) | (rw [h]; rfl) | exact congrArg (fun m => [Value.slice _ m _]) h) mk41 (fun _ _ h => h.pick []) rfl rfl rfl rfl (by omega) ?_
         intro aq95 cq95
         refine fld fl43_1 rfl rfl rfl ?_
         refine apR (hd := ((some ⟨bkm51, 0, none⟩), (kk).toNat)) (x := (Math.hcWin kk.toNat i)) 4 3 1 maK.ok rfl rfl rfl (fun h => by first | rfl | (dsimp only at h; rw [h]; rfl) | (rw [h]; rfl) | exact congrArg (fun m => [Value.slice _ m _]) h) mk41 (fun _ _ h => h.pick []) rfl rfl rfl rfl (by omega) ?_
         intro aq96 cq96
         refine stl (v := .slice _ _ _) 4 rfl Try.sizeOf41 (fun _ h => h.pick []) rfl rfl rfl rfl rfl (Nat.le_of_ble_eq_true rfl) ?_
         refine fld fl43_2 rfl rfl rfl ?_
         refine stf (v := .slice _ _ _) 4 rfl Try.sizeOf41 rfl rfl rfl rfl rfl (Nat.le_of_ble_eq_true rfl) ?_
         refine rNil ?_
         refine qSeq rfl ?_
         refine hReg (sq 0 (sq 1 sz)) (by kernel_rfl) ?_
         refine add rfl rfl rfl rfl (by omega) ?_
         refine mvI rfl rfl rfl ?_
         refine rNil ?_
         rw [Math.hcW_snoc, Math.hcV_snoc]
         exact qNext rfl ((i + 1, q + 1, ((aq95, cq95), (hset hd.2 (Math.hcW kk.toNat ag i).length ((some ⟨bkm52, 0, none⟩), (kk).toNat))), ((aq96, cq96), (hset he.2 (Math.hcV kk.toNat i).length ((some ⟨bkm51, 0, none⟩), (kk).toNat))))) (by dsimp only; omega) ⟨by dsimp only; omega, by dsimp only; omega⟩ ⟨rfl, rfl, rfl, rfl, rfl, rfl, trivial⟩ (fun _ h => h.pick [0, 0, 2, 2, 2, 2])
       ·
        refine bsl (fun _ _ h => h.pick []) rfl rfl rfl (bsl41_1 (.slice _ _ _) rfl) (fun bkl58 hbkl58 => ?_)
        refine rAlt ?_ ?_
        ·
         refine apR (hd := ((some ⟨bkm52, 0, none⟩), (kk).toNat)) (x := (Math.hcRow kk.toNat ag i)) 5 2 1 maK.ok rfl rfl rfl (fun h => by first | rfl | (dsimp only at h; rw [h]; rfl) | (rw [h]; rfl) | exact congrArg (fun m => [Value.slice _ m _]) h) mk41 (fun _ _ h => h.pick []) rfl rfl rfl rfl (by omega) ?_
         intro aq97 cq97
         refine ldl Try.isAgg41 (cB 5 rfl rfl) (fun _ h => h.pick []) rfl rfl rfl ?_
         refine fld fl43_1 rfl rfl rfl ?_
         refine apR (hd := ((some ⟨bkm51, 0, none⟩), (kk).toNat)) (x := (Math.hcWin kk.toNat i)) 4 3 1 maK.ok rfl rfl rfl (fun h => by first | rfl | (dsimp only at h; rw [h]; rfl) | (rw [h]; rfl) | exact congrArg (fun m => [Value.slice _ m _]) h) mk41 (fun _ _ h => h.pick []) rfl rfl rfl rfl (by omega) ?_
         intro aq98 cq98
         refine stl (v := .slice _ _ _) 4 rfl Try.sizeOf41 (fun _ h => h.pick []) rfl rfl rfl rfl rfl (Nat.le_of_ble_eq_true rfl) ?_
         refine fld fl43_2 rfl rfl rfl ?_
         refine stf (v := .slice _ _ _) 4 rfl Try.sizeOf41 rfl rfl rfl rfl rfl (Nat.le_of_ble_eq_true rfl) ?_
         refine rNil ?_
         refine qSeq rfl ?_
         refine hReg (sq 0 (sq 1 sz)) (by kernel_rfl) ?_
         refine add rfl rfl rfl rfl (by omega) ?_
         refine mvI rfl rfl rfl ?_
         refine rNil ?_
         rw [Math.hcW_snoc, Math.hcV_snoc]
         exact qNext rfl ((i + 1, q + 1, ((aq97, cq97), (hset hd.2 (Math.hcW kk.toNat ag i).length ((some ⟨bkm52, 0, none⟩), (kk).toNat))), ((aq98, cq98), (hset he.2 (Math.hcV kk.toNat i).length ((some ⟨bkm51, 0, none⟩), (kk).toNat))))) (by dsimp only; omega) ⟨by dsimp only; omega, by dsimp only; omega⟩ ⟨rfl, rfl, rfl, rfl, rfl, rfl, trivial⟩ (fun _ h => h.pick [0, 0, 2, 2, 2, 2])
        ·
         refine ldl Try.isAgg41 (cB 6 rfl rfl) (fun _ h => h.pick []) rfl rfl rfl ?_
         refine apR (hd := ((some ⟨bkm52, 0, none⟩), (kk).toNat)) (x := (Math.hcRow kk.toNat ag i)) 5 2 1 maK.ok rfl rfl rfl (fun h => by first | rfl | (dsimp only at h; rw [h]; rfl) | (rw [h]; rfl) | exact congrArg (fun m => [Value.slice _ m _]) h) mk41 (fun _ _ h => h.pick []) rfl rfl rfl rfl (by omega) ?_
         intro aq99 cq99
         refine fld fl43_1 rfl rfl rfl ?_
         refine apR (hd := ((some ⟨bkm51, 0, none⟩), (kk).toNat)) (x := (Math.hcWin kk.toNat i)) 4 3 1 maK.ok rfl rfl rfl (fun h => by first | rfl | (dsimp only at h; rw [h]; rfl) | (rw [h]; rfl) | exact congrArg (fun m => [Value.slice _ m _]) h) mk41 (fun _ _ h => h.pick []) rfl rfl rfl rfl (by omega) ?_
         intro aq100 cq100
         refine stl (v := .slice _ _ _) 4 rfl Try.sizeOf41 (fun _ h => h.pick []) rfl rfl rfl rfl rfl (Nat.le_of_ble_eq_true rfl) ?_
         refine fld fl43_2 rfl rfl rfl ?_
         refine stf (v := .slice _ _ _) 4 rfl Try.sizeOf41 rfl rfl rfl rfl rfl (Nat.le_of_ble_eq_true rfl) ?_
         refine rNil ?_
         refine qSeq rfl ?_
         refine hReg (sq 0 (sq 1 sz)) (by kernel_rfl) ?_
         refine add rfl rfl rfl rfl (by omega) ?_
         refine mvI rfl rfl rfl ?_
         refine rNil ?_
         rw [Math.hcW_snoc, Math.hcV_snoc]
         exact qNext rfl ((i + 1, q + 1, ((aq99, cq99), (hset hd.2 (Math.hcW kk.toNat ag i).length ((some ⟨bkm52, 0, none⟩), (kk).toNat))), ((aq100, cq100), (hset he.2 (Math.hcV kk.toNat i).length ((some ⟨bkm51, 0, none⟩), (kk).toNat))))) (by dsimp only; omega) ⟨by dsimp only; omega, by dsimp only; omega⟩ ⟨rfl, rfl, rfl, rfl, rfl, rfl, trivial⟩ (fun _ h => h.pick [0, 0, 2, 2, 2, 2])
     ·
      refine rAlt ?_ ?_
      ·
       refine ldl Try.isAgg41 (cB 4 rfl rfl) (fun _ h => h.pick []) rfl rfl rfl ?_
       refine rAlt ?_ ?_
       ·
        refine bsl (fun _ _ h => h.pick []) rfl rfl rfl (bsl41_1 (.slice _ _ _) rfl) (fun bkl59 hbkl59 => ?_)
        refine rAlt ?_ ?_
        ·
         refine apR (hd := ((some ⟨bkm52, 0, none⟩), (kk).toNat)) (x := (Math.hcRow kk.toNat ag i)) 4 1 0 maK.ok rfl rfl rfl (fun h => by first | rfl | (dsimp only at h; rw [h]; rfl) | (rw [h]; rfl) | exact congrArg (fun m => [Value.slice _ m _]) h) mk41 (fun _ _ h => h.pick []) rfl rfl rfl rfl (by omega) ?_
         intro aq101 cq101
         refine fld fl43_1 rfl rfl rfl ?_
         refine bsl (fun _ _ h => h.pick []) rfl rfl rfl (bsl41_1 (.slice _ _ _) rfl) (fun bkl60 hbkl60 => ?_)
         refine apR (hd := ((some ⟨bkm51, 0, none⟩), (kk).toNat)) (x := (Math.hcWin kk.toNat i)) 4 3 0 maK.ok rfl rfl rfl (fun h => by first | rfl | (dsimp only at h; rw [h]; rfl) | (rw [h]; rfl) | exact congrArg (fun m => [Value.slice _ m _]) h) mk41 (fun _ _ h => h.pick []) rfl rfl rfl rfl (by omega) ?_
         intro aq102 cq102
         refine stl (v := .slice _ _ _) 4 rfl Try.sizeOf41 (fun _ h => h.pick []) rfl rfl rfl rfl rfl (Nat.le_of_ble_eq_true rfl) ?_
         refine fld fl43_2 rfl rfl rfl ?_
         refine stf (v := .slice _ _ _) 4 rfl Try.sizeOf41 rfl rfl rfl rfl rfl (Nat.le_of_ble_eq_true rfl) ?_
         refine rNil ?_
         refine qSeq rfl ?_
         refine hReg (sq 0 (sq 1 sz)) (by kernel_rfl) ?_
         refine add rfl rfl rfl rfl (by omega) ?_
         refine mvI rfl rfl rfl ?_
         refine rNil ?_
         rw [Math.hcW_snoc, Math.hcV_snoc]
         exact qNext rfl ((i + 1, q + 1, ((aq101, cq101), (hset hd.2 (Math.hcW kk.toNat ag i).length ((some ⟨bkm52, 0, none⟩), (kk).toNat))), ((aq102, cq102), (hset he.2 (Math.hcV kk.toNat i).length ((some ⟨bkm51, 0, none⟩), (kk).toNat))))) (by dsimp only; omega) ⟨by dsimp only; omega, by dsimp only; omega⟩ ⟨rfl, rfl, rfl, rfl, rfl, rfl, trivial⟩ (fun _ h => h.pick [0, 1, 2, 2, 2, 2])
        ·
         refine bsl (fun _ _ h => h.pick []) rfl rfl rfl (bsl41_1 (.slice _ _ _) rfl) (fun bkl61 hbkl61 => ?_)
         refine apR (hd := ((some ⟨bkm52, 0, none⟩), (kk).toNat)) (x := (Math.hcRow kk.toNat ag i)) 5 2 1 maK.ok rfl rfl rfl (fun h => by first | rfl | (dsimp only at h; rw [h]; rfl) | (rw [h]; rfl) | exact congrArg (fun m => [Value.slice _ m _]) h) mk41 (fun _ _ h => h.pick []) rfl rfl rfl rfl (by omega) ?_
         intro aq103 cq103
         refine fld fl43_1 rfl rfl rfl ?_
         refine apR (hd := ((some ⟨bkm51, 0, none⟩), (kk).toNat)) (x := (Math.hcWin kk.toNat i)) 4 3 1 maK.ok rfl rfl rfl (fun h => by first | rfl | (dsimp only at h; rw [h]; rfl) | (rw [h]; rfl) | exact congrArg (fun m => [Value.slice _ m _]) h) mk41 (fun _ _ h => h.pick []) rfl rfl rfl rfl (by omega) ?_
         intro aq104 cq104
         refine stl (v := .slice _ _ _) 4 rfl Try.sizeOf41 (fun _ h => h.pick []) rfl rfl rfl rfl rfl (Nat.le_of_ble_eq_true rfl) ?_
         refine fld fl43_2 rfl rfl rfl ?_
         refine stf (v := .slice _ _ _) 4 rfl Try.sizeOf41 rfl rfl rfl rfl rfl (Nat.le_of_ble_eq_true rfl) ?_
         refine rNil ?_
         refine qSeq rfl ?_
         refine hReg (sq 0 (sq 1 sz)) (by kernel_rfl) ?_
         refine add rfl rfl rfl rfl (by omega) ?_
         refine mvI rfl rfl rfl ?_
         refine rNil ?_
         rw [Math.hcW_snoc, Math.hcV_snoc]
         exact qNext rfl ((i + 1, q + 1, ((aq103, cq103), (hset hd.2 (Math.hcW kk.toNat ag i).length ((some ⟨bkm52, 0, none⟩), (kk).toNat))), ((aq104, cq104), (hset he.2 (Math.hcV kk.toNat i).length ((some ⟨bkm51, 0, none⟩), (kk).toNat))))) (by dsimp only; omega) ⟨by dsimp only; omega, by dsimp only; omega⟩ ⟨rfl, rfl, rfl, rfl, rfl, rfl, trivial⟩ (fun _ h => h.pick [0, 0, 2, 2, 2, 2])
       ·
        refine bsl (fun _ _ h => h.pick []) rfl rfl rfl (bsl41_1 (.slice _ _ _) rfl) (fun bkl62 hbkl62 => ?_)
        refine bsl (fun _ _ h => h.pick []) rfl rfl rfl (bsl41_1 (.slice _ _ _) rfl) (fun bkl63 hbkl63 => ?_)
        refine apR (hd := ((some ⟨bkm52, 0, none⟩), (kk).toNat)) (x := (Math.hcRow kk.toNat ag i)) 5 2 0 maK.ok rfl rfl rfl (fun h => by first | rfl | (dsimp only at h; rw [h]; rfl) | (rw [h]; rfl) | exact congrArg (fun m => [Value.slice _ m _]) h) mk41 (fun _ _ h => h.pick []) rfl rfl rfl rfl (by omega) ?_
        intro aq105 cq105
        refine fld fl43_1 rfl rfl rfl ?_
        refine apR (hd := ((some ⟨bkm51, 0, none⟩), (kk).toNat)) (x := (Math.hcWin kk.toNat i)) 4 3 2 maK.ok rfl rfl rfl (fun h => by first | rfl | (dsimp only at h; rw [h]; rfl) | (rw [h]; rfl) | exact congrArg (fun m => [Value.slice _ m _]) h) mk41 (fun _ _ h => h.pick []) rfl rfl rfl rfl (by omega) ?_
        intro aq106 cq106
        refine stl (v := .slice _ _ _) 4 rfl Try.sizeOf41 (fun _ h => h.pick []) rfl rfl rfl rfl rfl (Nat.le_of_ble_eq_true rfl) ?_
        refine fld fl43_2 rfl rfl rfl ?_
        refine stf (v := .slice _ _ _) 4 rfl Try.sizeOf41 rfl rfl rfl rfl rfl (Nat.le_of_ble_eq_true rfl) ?_
        refine rNil ?_
        refine qSeq rfl ?_
        refine hReg (sq 0 (sq 1 sz)) (by kernel_rfl) ?_
        refine add rfl rfl rfl rfl (by omega) ?_
        refine mvI rfl rfl rfl ?_
        refine rNil ?_
        rw [Math.hcW_snoc, Math.hcV_snoc]
        exact qNext rfl ((i + 1, q + 1, ((aq105, cq105), (hset hd.2 (Math.hcW kk.toNat ag i).length ((some ⟨bkm52, 0, none⟩), (kk).toNat))), ((aq106, cq106), (hset he.2 (Math.hcV kk.toNat i).length ((some ⟨bkm51, 0, none⟩), (kk).toNat))))) (by dsimp only; omega) ⟨by dsimp only; omega, by dsimp only; omega⟩ ⟨rfl, rfl, rfl, rfl, rfl, rfl, trivial⟩ (fun _ h => h.pick [0, 0, 2, 2, 2, 2])
      ·
       refine bsl (fun _ _ h => h.pick []) rfl rfl rfl (bsl41_1 (.slice _ _ _) rfl) (fun bkl64 hbkl64 => ?_)
       refine rAlt ?_ ?_
       ·
        refine bsl (fun _ _ h => h.pick []) rfl rfl rfl (bsl41_1 (.slice _ _ _) rfl) (fun bkl65 hbkl65 => ?_)
        refine rAlt ?_ ?_
        ·
         refine apR (hd := ((some ⟨bkm52, 0, none⟩), (kk).toNat)) (x := (Math.hcRow kk.toNat ag i)) 5 2 0 maK.ok rfl rfl rfl (fun h => by first | rfl | (dsimp only at h; rw [h]; rfl) | (rw [h]; rfl) | exact congrArg (fun m => [Value.slice _ m _]) h) mk41 (fun _ _ h => h.pick []) rfl rfl rfl rfl (by omega) ?_
         intro aq107 cq107
         refine ldl Try.isAgg41 (cB 5 rfl rfl) (fun _ h => h.pick []) rfl rfl rfl ?_
         refine fld fl43_1 rfl rfl rfl ?_
         refine apR (hd := ((some ⟨bkm51, 0, none⟩), (kk).toNat)) (x := (Math.hcWin kk.toNat i)) 4 3 2 maK.ok rfl rfl rfl (fun h => by first | rfl | (dsimp only at h; rw [h]; rfl) | (rw [h]; rfl) | exact congrArg (fun m => [Value.slice _ m _]) h) mk41 (fun _ _ h => h.pick []) rfl rfl rfl rfl (by omega) ?_
         intro aq108 cq108
         refine stl (v := .slice _ _ _) 4 rfl Try.sizeOf41 (fun _ h => h.pick []) rfl rfl rfl rfl rfl (Nat.le_of_ble_eq_true rfl) ?_
         refine fld fl43_2 rfl rfl rfl ?_
         refine stf (v := .slice _ _ _) 4 rfl Try.sizeOf41 rfl rfl rfl rfl rfl (Nat.le_of_ble_eq_true rfl) ?_
         refine rNil ?_
         refine qSeq rfl ?_
         refine hReg (sq 0 (sq 1 sz)) (by kernel_rfl) ?_
         refine add rfl rfl rfl rfl (by omega) ?_
         refine mvI rfl rfl rfl ?_
         refine rNil ?_
         rw [Math.hcW_snoc, Math.hcV_snoc]
         exact qNext rfl ((i + 1, q + 1, ((aq107, cq107), (hset hd.2 (Math.hcW kk.toNat ag i).length ((some ⟨bkm52, 0, none⟩), (kk).toNat))), ((aq108, cq108), (hset he.2 (Math.hcV kk.toNat i).length ((some ⟨bkm51, 0, none⟩), (kk).toNat))))) (by dsimp only; omega) ⟨by dsimp only; omega, by dsimp only; omega⟩ ⟨rfl, rfl, rfl, rfl, rfl, rfl, trivial⟩ (fun _ h => h.pick [0, 0, 2, 2, 2, 2])
        ·
         refine ldl Try.isAgg41 (cB 6 rfl rfl) (fun _ h => h.pick []) rfl rfl rfl ?_
         refine apR (hd := ((some ⟨bkm52, 0, none⟩), (kk).toNat)) (x := (Math.hcRow kk.toNat ag i)) 5 2 0 maK.ok rfl rfl rfl (fun h => by first | rfl | (dsimp only at h; rw [h]; rfl) | (rw [h]; rfl) | exact congrArg (fun m => [Value.slice _ m _]) h) mk41 (fun _ _ h => h.pick []) rfl rfl rfl rfl (by omega) ?_
         intro aq109 cq109
         refine fld fl43_1 rfl rfl rfl ?_
         refine apR (hd := ((some ⟨bkm51, 0, none⟩), (kk).toNat)) (x := (Math.hcWin kk.toNat i)) 4 3 2 maK.ok rfl rfl rfl (fun h => by first | rfl | (dsimp only at h; rw [h]; rfl) | (rw [h]; rfl) | exact congrArg (fun m => [Value.slice _ m _]) h) mk41 (fun _ _ h => h.pick []) rfl rfl rfl rfl (by omega) ?_
         intro aq110 cq110
         refine stl (v := .slice _ _ _) 4 rfl Try.sizeOf41 (fun _ h => h.pick []) rfl rfl rfl rfl rfl (Nat.le_of_ble_eq_true rfl) ?_
         refine fld fl43_2 rfl rfl rfl ?_
         refine stf (v := .slice _ _ _) 4 rfl Try.sizeOf41 rfl rfl rfl rfl rfl (Nat.le_of_ble_eq_true rfl) ?_
         refine rNil ?_
         refine qSeq rfl ?_
         refine hReg (sq 0 (sq 1 sz)) (by kernel_rfl) ?_
         refine add rfl rfl rfl rfl (by omega) ?_
         refine mvI rfl rfl rfl ?_
         refine rNil ?_
         rw [Math.hcW_snoc, Math.hcV_snoc]
         exact qNext rfl ((i + 1, q + 1, ((aq109, cq109), (hset hd.2 (Math.hcW kk.toNat ag i).length ((some ⟨bkm52, 0, none⟩), (kk).toNat))), ((aq110, cq110), (hset he.2 (Math.hcV kk.toNat i).length ((some ⟨bkm51, 0, none⟩), (kk).toNat))))) (by dsimp only; omega) ⟨by dsimp only; omega, by dsimp only; omega⟩ ⟨rfl, rfl, rfl, rfl, rfl, rfl, trivial⟩ (fun _ h => h.pick [0, 0, 2, 2, 2, 2])
       ·
        refine ldl Try.isAgg41 (cB 5 rfl rfl) (fun _ h => h.pick []) rfl rfl rfl ?_
        refine bsl (fun _ _ h => h.pick []) rfl rfl rfl (bsl41_1 (.slice _ _ _) rfl) (fun bkl66 hbkl66 => ?_)
        refine apR (hd := ((some ⟨bkm52, 0, none⟩), (kk).toNat)) (x := (Math.hcRow kk.toNat ag i)) 5 2 0 maK.ok rfl rfl rfl (fun h => by first | rfl | (dsimp only at h; rw [h]; rfl) | (rw [h]; rfl) | exact congrArg (fun m => [Value.slice _ m _]) h) mk41 (fun _ _ h => h.pick []) rfl rfl rfl rfl (by omega) ?_
        intro aq111 cq111
        refine fld fl43_1 rfl rfl rfl ?_
        refine apR (hd := ((some ⟨bkm51, 0, none⟩), (kk).toNat)) (x := (Math.hcWin kk.toNat i)) 4 3 2 maK.ok rfl rfl rfl (fun h => by first | rfl | (dsimp only at h; rw [h]; rfl) | (rw [h]; rfl) | exact congrArg (fun m => [Value.slice _ m _]) h) mk41 (fun _ _ h => h.pick []) rfl rfl rfl rfl (by omega) ?_
        intro aq112 cq112
        refine stl (v := .slice _ _ _) 4 rfl Try.sizeOf41 (fun _ h => h.pick []) rfl rfl rfl rfl rfl (Nat.le_of_ble_eq_true rfl) ?_
        refine fld fl43_2 rfl rfl rfl ?_
        refine stf (v := .slice _ _ _) 4 rfl Try.sizeOf41 rfl rfl rfl rfl rfl (Nat.le_of_ble_eq_true rfl) ?_
        refine rNil ?_
        refine qSeq rfl ?_
        refine hReg (sq 0 (sq 1 sz)) (by kernel_rfl) ?_
        refine add rfl rfl rfl rfl (by omega) ?_
        refine mvI rfl rfl rfl ?_
        refine rNil ?_
        rw [Math.hcW_snoc, Math.hcV_snoc]
        exact qNext rfl ((i + 1, q + 1, ((aq111, cq111), (hset hd.2 (Math.hcW kk.toNat ag i).length ((some ⟨bkm52, 0, none⟩), (kk).toNat))), ((aq112, cq112), (hset he.2 (Math.hcV kk.toNat i).length ((some ⟨bkm51, 0, none⟩), (kk).toNat))))) (by dsimp only; omega) ⟨by dsimp only; omega, by dsimp only; omega⟩ ⟨rfl, rfl, rfl, rfl, rfl, rfl, trivial⟩ (fun _ h => h.pick [0, 0, 2, 2, 2, 2])
    ·
     refine rAlt ?_ ?_
     ·
      refine bsl (fun _ _ h => h.pick []) rfl rfl rfl (bsl41_1 (.slice _ _ _) rfl) (fun bkl67 hbkl67 => ?_)
      refine rAlt ?_ ?_
      ·
       refine ldl Try.isAgg41 (cB 5 rfl rfl) (fun _ h => h.pick []) rfl rfl rfl ?_
       refine rAlt ?_ ?_
       ·
        refine apR (hd := ((some ⟨bkm52, 0, none⟩), (kk).toNat)) (x := (Math.hcRow kk.toNat ag i)) 4 1 0 maK.ok rfl rfl rfl (fun h => by first | rfl | (dsimp only at h; rw [h]; rfl) | (rw [h]; rfl) | exact congrArg (fun m => [Value.slice _ m _]) h) mk41 (fun _ _ h => h.pick []) rfl rfl rfl rfl (by omega) ?_
        intro aq113 cq113
        refine rAlt ?_ ?_
        ·
         refine ldl Try.isAgg41 (cB 4 rfl rfl) (fun _ h => h.pick []) rfl rfl rfl ?_
         refine fld fl43_1 rfl rfl rfl ?_
         refine bsl (fun _ _ h => h.pick []) rfl rfl rfl (bsl41_1 (.slice _ _ _) rfl) (fun bkl68 hbkl68 => ?_)
         refine apR (hd := ((some ⟨bkm51, 0, none⟩), (kk).toNat)) (x := (Math.hcWin kk.toNat i)) 4 3 0 maK.ok rfl rfl rfl (fun h => by first | rfl | (dsimp only at h; rw [h]; rfl) | (rw [h]; rfl) | exact congrArg (fun m => [Value.slice _ m _]) h) mk41 (fun _ _ h => h.pick []) rfl rfl rfl rfl (by omega) ?_
         intro aq114 cq114
         refine stl (v := .slice _ _ _) 4 rfl Try.sizeOf41 (fun _ h => h.pick []) rfl rfl rfl rfl rfl (Nat.le_of_ble_eq_true rfl) ?_
         refine fld fl43_2 rfl rfl rfl ?_
         refine stf (v := .slice _ _ _) 4 rfl Try.sizeOf41 rfl rfl rfl rfl rfl (Nat.le_of_ble_eq_true rfl) ?_
         refine rNil ?_
         refine qSeq rfl ?_
         refine hReg (sq 0 (sq 1 sz)) (by kernel_rfl) ?_
         refine add rfl rfl rfl rfl (by omega) ?_
         refine mvI rfl rfl rfl ?_
         refine rNil ?_
         rw [Math.hcW_snoc, Math.hcV_snoc]
         exact qNext rfl ((i + 1, q + 1, ((aq113, cq113), (hset hd.2 (Math.hcW kk.toNat ag i).length ((some ⟨bkm52, 0, none⟩), (kk).toNat))), ((aq114, cq114), (hset he.2 (Math.hcV kk.toNat i).length ((some ⟨bkm51, 0, none⟩), (kk).toNat))))) (by dsimp only; omega) ⟨by dsimp only; omega, by dsimp only; omega⟩ ⟨rfl, rfl, rfl, rfl, rfl, rfl, trivial⟩ (fun _ h => h.pick [0, 1, 2, 2, 2, 2])
        ·
         refine bsl (fun _ _ h => h.pick []) rfl rfl rfl (bsl41_1 (.slice _ _ _) rfl) (fun bkl69 hbkl69 => ?_)
         refine ldl Try.isAgg41 (cB 5 rfl rfl) (fun _ h => h.pick []) rfl rfl rfl ?_
         refine fld fl43_1 rfl rfl rfl ?_
         refine apR (hd := ((some ⟨bkm51, 0, none⟩), (kk).toNat)) (x := (Math.hcWin kk.toNat i)) 4 3 0 maK.ok rfl rfl rfl (fun h => by first | rfl | (dsimp only at h; rw [h]; rfl) | (rw [h]; rfl) | exact congrArg (fun m => [Value.slice _ m _]) h) mk41 (fun _ _ h => h.pick []) rfl rfl rfl rfl (by omega) ?_
         intro aq115 cq115
         refine stl (v := .slice _ _ _) 4 rfl Try.sizeOf41 (fun _ h => h.pick []) rfl rfl rfl rfl rfl (Nat.le_of_ble_eq_true rfl) ?_
         refine fld fl43_2 rfl rfl rfl ?_
         refine stf (v := .slice _ _ _) 4 rfl Try.sizeOf41 rfl rfl rfl rfl rfl (Nat.le_of_ble_eq_true rfl) ?_
         refine rNil ?_
         refine qSeq rfl ?_
         refine hReg (sq 0 (sq 1 sz)) (by kernel_rfl) ?_
         refine add rfl rfl rfl rfl (by omega) ?_
         refine mvI rfl rfl rfl ?_
         refine rNil ?_
         rw [Math.hcW_snoc, Math.hcV_snoc]
         exact qNext rfl ((i + 1, q + 1, ((aq113, cq113), (hset hd.2 (Math.hcW kk.toNat ag i).length ((some ⟨bkm52, 0, none⟩), (kk).toNat))), ((aq115, cq115), (hset he.2 (Math.hcV kk.toNat i).length ((some ⟨bkm51, 0, none⟩), (kk).toNat))))) (by dsimp only; omega) ⟨by dsimp only; omega, by dsimp only; omega⟩ ⟨rfl, rfl, rfl, rfl, rfl, rfl, trivial⟩ (fun _ h => h.pick [0, 1, 2, 2, 2, 2])
       ·
        refine rAlt ?_ ?_
        ·
         refine ldl Try.isAgg41 (cB 5 rfl rfl) (fun _ h => h.pick []) rfl rfl rfl ?_
         refine rAlt ?_ ?_
         ·
          refine apR (hd := ((some ⟨bkm52, 0, none⟩), (kk).toNat)) (x := (Math.hcRow kk.toNat ag i)) 4 1 0 maK.ok rfl rfl rfl (fun h => by first | rfl | (dsimp only at h; rw [h]; rfl) | (rw [h]; rfl) | exact congrArg (fun m => [Value.slice _ m _]) h) mk41 (fun _ _ h => h.pick []) rfl rfl rfl rfl (by omega) ?_
          intro aq116 cq116
          refine fld fl43_1 rfl rfl rfl ?_
          refine bsl (fun _ _ h => h.pick []) rfl rfl rfl (bsl41_1 (.slice _ _ _) rfl) (fun bkl70 hbkl70 => ?_)
          refine apR (hd := ((some ⟨bkm51, 0, none⟩), (kk).toNat)) (x := (Math.hcWin kk.toNat i)) 4 3 0 maK.ok rfl rfl rfl (fun h => by first | rfl | (dsimp only at h; rw [h]; rfl) | (rw [h]; rfl) | exact congrArg (fun m => [Value.slice _ m _]) h) mk41 (fun _ _ h => h.pick []) rfl rfl rfl rfl (by omega) ?_
          intro aq117 cq117
          refine stl (v := .slice _ _ _) 4 rfl Try.sizeOf41 (fun _ h => h.pick []) rfl rfl rfl rfl rfl (Nat.le_of_ble_eq_true rfl) ?_
          refine fld fl43_2 rfl rfl rfl ?_
          refine stf (v := .slice _ _ _) 4 rfl Try.sizeOf41 rfl rfl rfl rfl rfl (Nat.le_of_ble_eq_true rfl) ?_
          refine rNil ?_
          refine qSeq rfl ?_
          refine hReg (sq 0 (sq 1 sz)) (by kernel_rfl) ?_
          refine add rfl rfl rfl rfl (by omega) ?_
          refine mvI rfl rfl rfl ?_
          refine rNil ?_
          rw [Math.hcW_snoc, Math.hcV_snoc]
          exact qNext rfl ((i + 1, q + 1, ((aq116, cq116), (hset hd.2 (Math.hcW kk.toNat ag i).length ((some ⟨bkm52, 0, none⟩), (kk).toNat))), ((aq117, cq117), (hset he.2 (Math.hcV kk.toNat i).length ((some ⟨bkm51, 0, none⟩), (kk).toNat))))) (by dsimp only; omega) ⟨by dsimp only; omega, by dsimp only; omega⟩ ⟨rfl, rfl, rfl, rfl, rfl, rfl, trivial⟩ (fun _ h => h.pick [0, 1, 2, 2, 2, 2])
         ·
          refine bsl (fun _ _ h => h.pick []) rfl rfl rfl (bsl41_1 (.slice _ _ _) rfl) (fun bkl71 hbkl71 => ?_)
          refine apR (hd := ((some ⟨bkm52, 0, none⟩), (kk).toNat)) (x := (Math.hcRow kk.toNat ag i)) 5 2 1 maK.ok rfl rfl rfl (fun h => by first | rfl | (dsimp only at h; rw [h]; rfl) | (rw [h]; rfl) | exact congrArg (fun m => [Value.slice _ m _]) h) mk41 (fun _ _ h => h.pick []) rfl rfl rfl rfl (by omega) ?_
          intro aq118 cq118
          refine fld fl43_1 rfl rfl rfl ?_
          refine apR (hd := ((some ⟨bkm51, 0, none⟩), (kk).toNat)) (x := (Math.hcWin kk.toNat i)) 4 3 1 maK.ok rfl rfl rfl (fun h => by first | rfl | (dsimp only at h; rw [h]; rfl) | (rw [h]; rfl) | exact congrArg (fun m => [Value.slice _ m _]) h) mk41 (fun _ _ h => h.pick []) rfl rfl rfl rfl (by omega) ?_
          intro aq119 cq119
          refine stl (v := .slice _ _ _) 4 rfl Try.sizeOf41 (fun _ h => h.pick []) rfl rfl rfl rfl rfl (Nat.le_of_ble_eq_true rfl) ?_
          refine fld fl43_2 rfl rfl rfl ?_
          refine stf (v := .slice _ _ _) 4 rfl Try.sizeOf41 rfl rfl rfl rfl rfl (Nat.le_of_ble_eq_true rfl) ?_
          refine rNil ?_
          refine qSeq rfl ?_
          refine hReg (sq 0 (sq 1 sz)) (by kernel_rfl) ?_
          refine add rfl rfl rfl rfl (by omega) ?_
          refine mvI rfl rfl rfl ?_
          refine rNil ?_
          rw [Math.hcW_snoc, Math.hcV_snoc]
          exact qNext rfl ((i + 1, q + 1, ((aq118, cq118), (hset hd.2 (Math.hcW kk.toNat ag i).length ((some ⟨bkm52, 0, none⟩), (kk).toNat))), ((aq119, cq119), (hset he.2 (Math.hcV kk.toNat i).length ((some ⟨bkm51, 0, none⟩), (kk).toNat))))) (by dsimp only; omega) ⟨by dsimp only; omega, by dsimp only; omega⟩ ⟨rfl, rfl, rfl, rfl, rfl, rfl, trivial⟩ (fun _ h => h.pick [0, 0, 2, 2, 2, 2])
        ·
         refine bsl (fun _ _ h => h.pick []) rfl rfl rfl (bsl41_1 (.slice _ _ _) rfl) (fun bkl72 hbkl72 => ?_)
         refine rAlt ?_ ?_
         ·
          refine apR (hd := ((some ⟨bkm52, 0, none⟩), (kk).toNat)) (x := (Math.hcRow kk.toNat ag i)) 5 2 1 maK.ok rfl rfl rfl (fun h => by first | rfl | (dsimp only at h; rw [h]; rfl) | (rw [h]; rfl) | exact congrArg (fun m => [Value.slice _ m _]) h) mk41 (fun _ _ h => h.pick []) rfl rfl rfl rfl (by omega) ?_
          intro aq120 cq120
          refine ldl Try.isAgg41 (cB 5 rfl rfl) (fun _ h => h.pick []) rfl rfl rfl ?_
          refine fld fl43_1 rfl rfl rfl ?_
          refine apR (hd := ((some ⟨bkm51, 0, none⟩), (kk).toNat)) (x := (Math.hcWin kk.toNat i)) 4 3 1 maK.ok rfl rfl rfl (fun h => by first | rfl | (dsimp only at h; rw [h]; rfl) | (rw [h]; rfl) | exact congrArg (fun m => [Value.slice _ m _]) h) mk41 (fun _ _ h => h.pick []) rfl rfl rfl rfl (by omega) ?_
          intro aq121 cq121
          refine stl (v := .slice _ _ _) 4 rfl Try.sizeOf41 (fun _ h => h.pick []) rfl rfl rfl rfl rfl (Nat.le_of_ble_eq_true rfl) ?_
          refine fld fl43_2 rfl rfl rfl ?_
          refine stf (v := .slice _ _ _) 4 rfl Try.sizeOf41 rfl rfl rfl rfl rfl (Nat.le_of_ble_eq_true rfl) ?_
          refine rNil ?_
          refine qSeq rfl ?_
          refine hReg (sq 0 (sq 1 sz)) (by kernel_rfl) ?_
          refine add rfl rfl rfl rfl (by omega) ?_
          refine mvI rfl rfl rfl ?_
          refine rNil ?_
          rw [Math.hcW_snoc, Math.hcV_snoc]
          exact qNext rfl ((i + 1, q + 1, ((aq120, cq120), (hset hd.2 (Math.hcW kk.toNat ag i).length ((some ⟨bkm52, 0, none⟩), (kk).toNat))), ((aq121, cq121), (hset he.2 (Math.hcV kk.toNat i).length ((some ⟨bkm51, 0, none⟩), (kk).toNat))))) (by dsimp only; omega) ⟨by dsimp only; omega, by dsimp only; omega⟩ ⟨rfl, rfl, rfl, rfl, rfl, rfl, trivial⟩ (fun _ h => h.pick [0, 0, 2, 2, 2, 2])
         ·
          refine ldl Try.isAgg41 (cB 6 rfl rfl) (fun _ h => h.pick []) rfl rfl rfl ?_
          refine apR (hd := ((some ⟨bkm52, 0, none⟩), (kk).toNat)) (x := (Math.hcRow kk.toNat ag i)) 5 2 1 maK.ok rfl rfl rfl (fun h => by first | rfl | (dsimp only at h; rw [h]; rfl) | (rw [h]; rfl) | exact congrArg (fun m => [Value.slice _ m _]) h) mk41 (fun _ _ h => h.pick []) rfl rfl rfl rfl (by omega) ?_
          intro aq122 cq122
          refine fld fl43_1 rfl rfl rfl ?_
          refine apR (hd := ((some ⟨bkm51, 0, none⟩), (kk).toNat)) (x := (Math.hcWin kk.toNat i)) 4 3 1 maK.ok rfl rfl rfl (fun h => by first | rfl | (dsimp only at h; rw [h]; rfl) | (rw [h]; rfl) | exact congrArg (fun m => [Value.slice _ m _]) h) mk41 (fun _ _ h => h.pick []) rfl rfl rfl rfl (by omega) ?_
          intro aq123 cq123
          refine stl (v := .slice _ _ _) 4 rfl Try.sizeOf41 (fun _ h => h.pick []) rfl rfl rfl rfl rfl (Nat.le_of_ble_eq_true rfl) ?_
          refine fld fl43_2 rfl rfl rfl ?_
          refine stf (v := .slice _ _ _) 4 rfl Try.sizeOf41 rfl rfl rfl rfl rfl (Nat.le_of_ble_eq_true rfl) ?_
          refine rNil ?_
          refine qSeq rfl ?_
          refine hReg (sq 0 (sq 1 sz)) (by kernel_rfl) ?_
          refine add rfl rfl rfl rfl (by omega) ?_
          refine mvI rfl rfl rfl ?_
          refine rNil ?_
          rw [Math.hcW_snoc, Math.hcV_snoc]
          exact qNext rfl ((i + 1, q + 1, ((aq122, cq122), (hset hd.2 (Math.hcW kk.toNat ag i).length ((some ⟨bkm52, 0, none⟩), (kk).toNat))), ((aq123, cq123), (hset he.2 (Math.hcV kk.toNat i).length ((some ⟨bkm51, 0, none⟩), (kk).toNat))))) (by dsimp only; omega) ⟨by dsimp only; omega, by dsimp only; omega⟩ ⟨rfl, rfl, rfl, rfl, rfl, rfl, trivial⟩ (fun _ h => h.pick [0, 0, 2, 2, 2, 2])
      ·
       refine rAlt ?_ ?_
       ·
        refine ldl Try.isAgg41 (cB 5 rfl rfl) (fun _ h => h.pick []) rfl rfl rfl ?_
        refine rAlt ?_ ?_
        ·
         refine ldl Try.isAgg41 (cB 5 rfl rfl) (fun _ h => h.pick []) rfl rfl rfl ?_
         refine rAlt ?_ ?_
         ·
          refine apR (hd := ((some ⟨bkm52, 0, none⟩), (kk).toNat)) (x := (Math.hcRow kk.toNat ag i)) 4 1 0 maK.ok rfl rfl rfl (fun h => by first | rfl | (dsimp only at h; rw [h]; rfl) | (rw [h]; rfl) | exact congrArg (fun m => [Value.slice _ m _]) h) mk41 (fun _ _ h => h.pick []) rfl rfl rfl rfl (by omega) ?_
          intro aq124 cq124
          refine fld fl43_1 rfl rfl rfl ?_
          refine bsl (fun _ _ h => h.pick []) rfl rfl rfl (bsl41_1 (.slice _ _ _) rfl) (fun bkl73 hbkl73 => ?_)
          refine apR (hd := ((some ⟨bkm51, 0, none⟩), (kk).toNat)) (x := (Math.hcWin kk.toNat i)) 4 3 0 maK.ok rfl rfl rfl (fun h => by first | rfl | (dsimp only at h; rw [h]; rfl) | (rw [h]; rfl) | exact congrArg (fun m => [Value.slice _ m _]) h) mk41 (fun _ _ h => h.pick []) rfl rfl rfl rfl (by omega) ?_
          intro aq125 cq125
          refine stl (v := .slice _ _ _) 4 rfl Try.sizeOf41 (fun _ h => h.pick []) rfl rfl rfl rfl rfl (Nat.le_of_ble_eq_true rfl) ?_
          refine fld fl43_2 rfl rfl rfl ?_
          refine stf (v := .slice _ _ _) 4 rfl Try.sizeOf41 rfl rfl rfl rfl rfl (Nat.le_of_ble_eq_true rfl) ?_
          refine rNil ?_
          refine qSeq rfl ?_
          refine hReg (sq 0 (sq 1 sz)) (by kernel_rfl) ?_
          refine add rfl rfl rfl rfl (by omega) ?_
          refine mvI rfl rfl rfl ?_
          refine rNil ?_
          rw [Math.hcW_snoc, Math.hcV_snoc]
          exact qNext rfl ((i + 1, q + 1, ((aq124, cq124), (hset hd.2 (Math.hcW kk.toNat ag i).length ((some ⟨bkm52, 0, none⟩), (kk).toNat))), ((aq125, cq125), (hset he.2 (Math.hcV kk.toNat i).length ((some ⟨bkm51, 0, none⟩), (kk).toNat))))) (by dsimp only; omega) ⟨by dsimp only; omega, by dsimp only; omega⟩ ⟨rfl, rfl, rfl, rfl, rfl, rfl, trivial⟩ (fun _ h => h.pick [0, 1, 2, 2, 2, 2])
         ·
          refine bsl (fun _ _ h => h.pick []) rfl rfl rfl (bsl41_1 (.slice _ _ _) rfl) (fun bkl74 hbkl74 => ?_)
          refine apR (hd := ((some ⟨bkm52, 0, none⟩), (kk).toNat)) (x := (Math.hcRow kk.toNat ag i)) 5 2 1 maK.ok rfl rfl rfl (fun h => by first | rfl | (dsimp only at h; rw [h]; rfl) | (rw [h]; rfl) | exact congrArg (fun m => [Value.slice _ m _]) h) mk41 (fun _ _ h => h.pick []) rfl rfl rfl rfl (by omega) ?_
          intro aq126 cq126
          refine fld fl43_1 rfl rfl rfl ?_
          refine apR (hd := ((some ⟨bkm51, 0, none⟩), (kk).toNat)) (x := (Math.hcWin kk.toNat i)) 4 3 1 maK.ok rfl rfl rfl (fun h => by first | rfl | (dsimp only at h; rw [h]; rfl) | (rw [h]; rfl) | exact congrArg (fun m => [Value.slice _ m _]) h) mk41 (fun _ _ h => h.pick []) rfl rfl rfl rfl (by omega) ?_
          intro aq127 cq127
          refine stl (v := .slice _ _ _) 4 rfl Try.sizeOf41 (fun _ h => h.pick []) rfl rfl rfl rfl rfl (Nat.le_of_ble_eq_true rfl) ?_
          refine fld fl43_2 rfl rfl rfl ?_
          refine stf (v := .slice _ _ _) 4 rfl Try.sizeOf41 rfl rfl rfl rfl rfl (Nat.le_of_ble_eq_true rfl) ?_
          refine rNil ?_
          refine qSeq rfl ?_
          refine hReg (sq 0 (sq 1 sz)) (by kernel_rfl) ?_
          refine add rfl rfl rfl rfl (by omega) ?_
          refine mvI rfl rfl rfl ?_
          refine rNil ?_
          rw [Math.hcW_snoc, Math.hcV_snoc]
          exact qNext rfl ((i + 1, q + 1, ((aq126, cq126), (hset hd.2 (Math.hcW kk.toNat ag i).length ((some ⟨bkm52, 0, none⟩), (kk).toNat))), ((aq127, cq127), (hset he.2 (Math.hcV kk.toNat i).length ((some ⟨bkm51, 0, none⟩), (kk).toNat))))) (by dsimp only; omega) ⟨by dsimp only; omega, by dsimp only; omega⟩ ⟨rfl, rfl, rfl, rfl, rfl, rfl, trivial⟩ (fun _ h => h.pick [0, 0, 2, 2, 2, 2])
        ·
         refine bsl (fun _ _ h => h.pick []) rfl rfl rfl (bsl41_1 (.slice _ _ _) rfl) (fun bkl75 hbkl75 => ?_)
         refine ldl Try.isAgg41 (cB 6 rfl rfl) (fun _ h => h.pick []) rfl rfl rfl ?_
         refine apR (hd := ((some ⟨bkm52, 0, none⟩), (kk).toNat)) (x := (Math.hcRow kk.toNat ag i)) 5 2 1 maK.ok rfl rfl rfl (fun h => by first | rfl | (dsimp only at h; rw [h]; rfl) | (rw [h]; rfl) | exact congrArg (fun m => [Value.slice _ m _]) h) mk41 (fun _ _ h => h.pick []) rfl rfl rfl rfl (by omega) ?_
         intro aq128 cq128
         refine fld fl43_1 rfl rfl rfl ?_
         refine apR (hd := ((some ⟨bkm51, 0, none⟩), (kk).toNat)) (x := (Math.hcWin kk.toNat i)) 4 3 1 maK.ok rfl rfl rfl (fun h => by first | rfl | (dsimp only at h; rw [h]; rfl) | (rw [h]; rfl) | exact congrArg (fun m => [Value.slice _ m _]) h) mk41 (fun _ _ h => h.pick []) rfl rfl rfl rfl (by omega) ?_
         intro aq129 cq129
         refine stl (v := .slice _ _ _) 4 rfl Try.sizeOf41 (fun _ h => h.pick []) rfl rfl rfl rfl rfl (Nat.le_of_ble_eq_true rfl) ?_
         refine fld fl43_2 rfl rfl rfl ?_
         refine stf (v := .slice _ _ _) 4 rfl Try.sizeOf41 rfl rfl rfl rfl rfl (Nat.le_of_ble_eq_true rfl) ?_
         refine rNil ?_
         refine qSeq rfl ?_
         refine hReg (sq 0 (sq 1 sz)) (by kernel_rfl) ?_
         refine add rfl rfl rfl rfl (by omega) ?_
         refine mvI rfl rfl rfl ?_
         refine rNil ?_
         rw [Math.hcW_snoc, Math.hcV_snoc]
         exact qNext rfl ((i + 1, q + 1, ((aq128, cq128), (hset hd.2 (Math.hcW kk.toNat ag i).length ((some ⟨bkm52, 0, none⟩), (kk).toNat))), ((aq129, cq129), (hset he.2 (Math.hcV kk.toNat i).length ((some ⟨bkm51, 0, none⟩), (kk).toNat))))) (by dsimp only; omega) ⟨by dsimp only; omega, by dsimp only; omega⟩ ⟨rfl, rfl, rfl, rfl, rfl, rfl, trivial⟩ (fun _ h => h.pick [0, 0, 2, 2, 2, 2])
       ·
        refine bsl (fun _ _ h => h.pick []) rfl rfl rfl (bsl41_1 (.slice _ _ _) rfl) (fun bkl76 hbkl76 => ?_)
        refine rAlt ?_ ?_
        ·
         refine ldl Try.isAgg41 (cB 6 rfl rfl) (fun _ h => h.pick []) rfl rfl rfl ?_
         refine rAlt ?_ ?_
         ·
          refine apR (hd := ((some ⟨bkm52, 0, none⟩), (kk).toNat)) (x := (Math.hcRow kk.toNat ag i)) 5 2 1 maK.ok rfl rfl rfl (fun h => by first | rfl | (dsimp only at h; rw [h]; rfl) | (rw [h]; rfl) | exact congrArg (fun m => [Value.slice _ m _]) h) mk41 (fun _ _ h => h.pick []) rfl rfl rfl rfl (by omega) ?_
          intro aq130 cq130
          refine ldl Try.isAgg41 (cB 5 rfl rfl) (fun _ h => h.pick []) rfl rfl rfl ?_
          refine fld fl43_1 rfl rfl rfl ?_
          refine apR (hd := ((some ⟨bkm51, 0, none⟩), (kk).toNat)) (x := (Math.hcWin kk.toNat i)) 4 3 1 maK.ok rfl rfl rfl (fun h => by first | rfl | (dsimp only at h; rw [h]; rfl) | (rw [h]; rfl) | exact congrArg (fun m => [Value.slice _ m _]) h) mk41 (fun _ _ h => h.pick []) rfl rfl rfl rfl (by omega) ?_
          intro aq131 cq131
          refine stl (v := .slice _ _ _) 4 rfl Try.sizeOf41 (fun _ h => h.pick []) rfl rfl rfl rfl rfl (Nat.le_of_ble_eq_true rfl) ?_
          refine fld fl43_2 rfl rfl rfl ?_
          refine stf (v := .slice _ _ _) 4 rfl Try.sizeOf41 rfl rfl rfl rfl rfl (Nat.le_of_ble_eq_true rfl) ?_
          refine rNil ?_
          refine qSeq rfl ?_
          refine hReg (sq 0 (sq 1 sz)) (by kernel_rfl) ?_
          refine add rfl rfl rfl rfl (by omega) ?_
          refine mvI rfl rfl rfl ?_
          refine rNil ?_
          rw [Math.hcW_snoc, Math.hcV_snoc]
          exact qNext rfl ((i + 1, q + 1, ((aq130, cq130), (hset hd.2 (Math.hcW kk.toNat ag i).length ((some ⟨bkm52, 0, none⟩), (kk).toNat))), ((aq131, cq131), (hset he.2 (Math.hcV kk.toNat i).length ((some ⟨bkm51, 0, none⟩), (kk).toNat))))) (by dsimp only; omega) ⟨by dsimp only; omega, by dsimp only; omega⟩ ⟨rfl, rfl, rfl, rfl, rfl, rfl, trivial⟩ (fun _ h => h.pick [0, 0, 2, 2, 2, 2])
         ·
          refine ldl Try.isAgg41 (cB 6 rfl rfl) (fun _ h => h.pick []) rfl rfl rfl ?_
          refine apR (hd := ((some ⟨bkm52, 0, none⟩), (kk).toNat)) (x := (Math.hcRow kk.toNat ag i)) 5 2 1 maK.ok rfl rfl rfl (fun h => by first | rfl | (dsimp only at h; rw [h]; rfl) | (rw [h]; rfl) | exact congrArg (fun m => [Value.slice _ m _]) h) mk41 (fun _ _ h => h.pick []) rfl rfl rfl rfl (by omega) ?_
          intro aq132 cq132
          refine fld fl43_1 rfl rfl rfl ?_
          refine apR (hd := ((some ⟨bkm51, 0, none⟩), (kk).toNat)) (x := (Math.hcWin kk.toNat i)) 4 3 1 maK.ok rfl rfl rfl (fun h => by first | rfl | (dsimp only at h; rw [h]; rfl) | (rw [h]; rfl) | exact congrArg (fun m => [Value.slice _ m _]) h) mk41 (fun _ _ h => h.pick []) rfl rfl rfl rfl (by omega) ?_
          intro aq133 cq133
          refine stl (v := .slice _ _ _) 4 rfl Try.sizeOf41 (fun _ h => h.pick []) rfl rfl rfl rfl rfl (Nat.le_of_ble_eq_true rfl) ?_
          refine fld fl43_2 rfl rfl rfl ?_
          refine stf (v := .slice _ _ _) 4 rfl Try.sizeOf41 rfl rfl rfl rfl rfl (Nat.le_of_ble_eq_true rfl) ?_
          refine rNil ?_
          refine qSeq rfl ?_
          refine hReg (sq 0 (sq 1 sz)) (by kernel_rfl) ?_
          refine add rfl rfl rfl rfl (by omega) ?_
          refine mvI rfl rfl rfl ?_
          refine rNil ?_
          rw [Math.hcW_snoc, Math.hcV_snoc]
          exact qNext rfl ((i + 1, q + 1, ((aq132, cq132), (hset hd.2 (Math.hcW kk.toNat ag i).length ((some ⟨bkm52, 0, none⟩), (kk).toNat))), ((aq133, cq133), (hset he.2 (Math.hcV kk.toNat i).length ((some ⟨bkm51, 0, none⟩), (kk).toNat))))) (by dsimp only; omega) ⟨by dsimp only; omega, by dsimp only; omega⟩ ⟨rfl, rfl, rfl, rfl, rfl, rfl, trivial⟩ (fun _ h => h.pick [0, 0, 2, 2, 2, 2])
        ·
         refine ldl Try.isAgg41 (cB 6 rfl rfl) (fun _ h => h.pick []) rfl rfl rfl ?_
         refine ldl Try.isAgg41 (cB 6 rfl rfl) (fun _ h => h.pick []) rfl rfl rfl ?_
         refine apR (hd := ((some ⟨bkm52, 0, none⟩), (kk).toNat)) (x := (Math.hcRow kk.toNat ag i)) 5 2 1 maK.ok rfl rfl rfl (fun h => by first | rfl | (dsimp only at h; rw [h]; rfl) | (rw [h]; rfl) | exact congrArg (fun m => [Value.slice _ m _]) h) mk41 (fun _ _ h => h.pick []) rfl rfl rfl rfl (by omega) ?_
         intro aq134 cq134
         refine fld fl43_1 rfl rfl rfl ?_
         refine apR (hd := ((some ⟨bkm51, 0, none⟩), (kk).toNat)) (x := (Math.hcWin kk.toNat i)) 4 3 1 maK.ok rfl rfl rfl (fun h => by first | rfl | (dsimp only at h; rw [h]; rfl) | (rw [h]; rfl) | exact congrArg (fun m => [Value.slice _ m _]) h) mk41 (fun _ _ h => h.pick []) rfl rfl rfl rfl (by omega) ?_
         intro aq135 cq135
         refine stl (v := .slice _ _ _) 4 rfl Try.sizeOf41 (fun _ h => h.pick []) rfl rfl rfl rfl rfl (Nat.le_of_ble_eq_true rfl) ?_
         refine fld fl43_2 rfl rfl rfl ?_
         refine stf (v := .slice _ _ _) 4 rfl Try.sizeOf41 rfl rfl rfl rfl rfl (Nat.le_of_ble_eq_true rfl) ?_
         refine rNil ?_
         refine qSeq rfl ?_
         refine hReg (sq 0 (sq 1 sz)) (by kernel_rfl) ?_
         refine add rfl rfl rfl rfl (by omega) ?_
         refine mvI rfl rfl rfl ?_
         refine rNil ?_
         rw [Math.hcW_snoc, Math.hcV_snoc]
         exact qNext rfl ((i + 1, q + 1, ((aq134, cq134), (hset hd.2 (Math.hcW kk.toNat ag i).length ((some ⟨bkm52, 0, none⟩), (kk).toNat))), ((aq135, cq135), (hset he.2 (Math.hcV kk.toNat i).length ((some ⟨bkm51, 0, none⟩), (kk).toNat))))) (by dsimp only; omega) ⟨by dsimp only; omega, by dsimp only; omega⟩ ⟨rfl, rfl, rfl, rfl, rfl, rfl, trivial⟩ (fun _ h => h.pick [0, 0, 2, 2, 2, 2])
     ·
      refine rAlt ?_ ?_
      ·
       refine ldl Try.isAgg41 (cB 4 rfl rfl) (fun _ h => h.pick []) rfl rfl rfl ?_
       refine rAlt ?_ ?_
       ·
        refine ldl Try.isAgg41 (cB 4 rfl rfl) (fun _ h => h.pick []) rfl rfl rfl ?_
        refine rAlt ?_ ?_
        ·
         refine bsl (fun _ _ h => h.pick []) rfl rfl rfl (bsl41_1 (.slice _ _ _) rfl) (fun bkl77 hbkl77 => ?_)
         refine rAlt ?_ ?_
         ·
          refine apR (hd := ((some ⟨bkm52, 0, none⟩), (kk).toNat)) (x := (Math.hcRow kk.toNat ag i)) 4 1 0 maK.ok rfl rfl rfl (fun h => by first | rfl | (dsimp only at h; rw [h]; rfl) | (rw [h]; rfl) | exact congrArg (fun m => [Value.slice _ m _]) h) mk41 (fun _ _ h => h.pick []) rfl rfl rfl rfl (by omega) ?_
          intro aq136 cq136
          refine fld fl43_1 rfl rfl rfl ?_
          refine bsl (fun _ _ h => h.pick []) rfl rfl rfl (bsl41_1 (.slice _ _ _) rfl) (fun bkl78 hbkl78 => ?_)
          refine apR (hd := ((some ⟨bkm51, 0, none⟩), (kk).toNat)) (x := (Math.hcWin kk.toNat i)) 4 3 0 maK.ok rfl rfl rfl (fun h => by first | rfl | (dsimp only at h; rw [h]; rfl) | (rw [h]; rfl) | exact congrArg (fun m => [Value.slice _ m _]) h) mk41 (fun _ _ h => h.pick []) rfl rfl rfl rfl (by omega) ?_
          intro aq137 cq137
          refine stl (v := .slice _ _ _) 4 rfl Try.sizeOf41 (fun _ h => h.pick []) rfl rfl rfl rfl rfl (Nat.le_of_ble_eq_true rfl) ?_
          refine fld fl43_2 rfl rfl rfl ?_
          refine stf (v := .slice _ _ _) 4 rfl Try.sizeOf41 rfl rfl rfl rfl rfl (Nat.le_of_ble_eq_true rfl) ?_
          refine rNil ?_
          refine qSeq rfl ?_
          refine hReg (sq 0 (sq 1 sz)) (by kernel_rfl) ?_
          refine add rfl rfl rfl rfl (by omega) ?_
          refine mvI rfl rfl rfl ?_
          refine rNil ?_
          rw [Math.hcW_snoc, Math.hcV_snoc]
          exact qNext rfl ((i + 1, q + 1, ((aq136, cq136), (hset hd.2 (Math.hcW kk.toNat ag i).length ((some ⟨bkm52, 0, none⟩), (kk).toNat))), ((aq137, cq137), (hset he.2 (Math.hcV kk.toNat i).length ((some ⟨bkm51, 0, none⟩), (kk).toNat))))) (by dsimp only; omega) ⟨by dsimp only; omega, by dsimp only; omega⟩ ⟨rfl, rfl, rfl, rfl, rfl, rfl, trivial⟩ (fun _ h => h.pick [0, 1, 2, 2, 2, 2])
         ·
          refine bsl (fun _ _ h => h.pick []) rfl rfl rfl (bsl41_1 (.slice _ _ _) rfl) (fun bkl79 hbkl79 => ?_)
          refine apR (hd := ((some ⟨bkm52, 0, none⟩), (kk).toNat)) (x := (Math.hcRow kk.toNat ag i)) 5 2 1 maK.ok rfl rfl rfl (fun h => by first | rfl | (dsimp only at h; rw [h]; rfl) | (rw [h]; rfl) | exact congrArg (fun m => [Value.slice _ m _]) h) mk41 (fun _ _ h => h.pick []) rfl rfl rfl rfl (by omega) ?_
          intro aq138 cq138
          refine fld fl43_1 rfl rfl rfl ?_
          refine apR (hd := ((some ⟨bkm51, 0, none⟩), (kk).toNat)) (x := (Math.hcWin kk.toNat i)) 4 3 1 maK.ok rfl rfl rfl (fun h => by first | rfl | (dsimp only at h; rw [h]; rfl) | (rw [h]; rfl) | exact congrArg (fun m => [Value.slice _ m _]) h) mk41 (fun _ _ h => h.pick []) rfl rfl rfl rfl (by omega) ?_
          intro aq139 cq139
          refine stl (v := .slice _ _ _) 4 rfl Try.sizeOf41 (fun _ h => h.pick []) rfl rfl rfl rfl rfl (Nat.le_of_ble_eq_true rfl) ?_
          refine fld fl43_2 rfl rfl rfl ?_
          refine stf (v := .slice _ _ _) 4 rfl Try.sizeOf41 rfl rfl rfl rfl rfl (Nat.le_of_ble_eq_true rfl) ?_
          refine rNil ?_
          refine qSeq rfl ?_
          refine hReg (sq 0 (sq 1 sz)) (by kernel_rfl) ?_
          refine add rfl rfl rfl rfl (by omega) ?_
          refine mvI rfl rfl rfl ?_
          refine rNil ?_
          rw [Math.hcW_snoc, Math.hcV_snoc]
          exact qNext rfl ((i + 1, q + 1, ((aq138, cq138), (hset hd.2 (Math.hcW kk.toNat ag i).length ((some ⟨bkm52, 0, none⟩), (kk).toNat))), ((aq139, cq139), (hset he.2 (Math.hcV kk.toNat i).length ((some ⟨bkm51, 0, none⟩), (kk).toNat))))) (by dsimp only; omega) ⟨by dsimp only; omega, by dsimp only; omega⟩ ⟨rfl, rfl, rfl, rfl, rfl, rfl, trivial⟩ (fun _ h => h.pick [0, 0, 2, 2, 2, 2])
        ·
         refine bsl (fun _ _ h => h.pick []) rfl rfl rfl (bsl41_1 (.slice _ _ _) rfl) (fun bkl80 hbkl80 => ?_)
         refine bsl (fun _ _ h => h.pick []) rfl rfl rfl (bsl41_1 (.slice _ _ _) rfl) (fun bkl81 hbkl81 => ?_)
         refine apR (hd := ((some ⟨bkm52, 0, none⟩), (kk).toNat)) (x := (Math.hcRow kk.toNat ag i)) 5 2 0 maK.ok rfl rfl rfl (fun h => by first | rfl | (dsimp only at h; rw [h]; rfl) | (rw [h]; rfl) | exact congrArg (fun m => [Value.slice _ m _]) h) mk41 (fun _ _ h => h.pick []) rfl rfl rfl rfl (by omega) ?_
         intro aq140 cq140
         refine fld fl43_1 rfl rfl rfl ?_
         refine apR (hd := ((some ⟨bkm51, 0, none⟩), (kk).toNat)) (x := (Math.hcWin kk.toNat i)) 4 3 2 maK.ok rfl rfl rfl (fun h => by first | rfl | (dsimp only at h; rw [h]; rfl) | (rw [h]; rfl) | exact congrArg (fun m => [Value.slice _ m _]) h) mk41 (fun _ _ h => h.pick []) rfl rfl rfl rfl (by omega) ?_
         intro aq141 cq141
         refine stl (v := .slice _ _ _) 4 rfl Try.sizeOf41 (fun _ h => h.pick []) rfl rfl rfl rfl rfl (Nat.le_of_ble_eq_true rfl) ?_
         refine fld fl43_2 rfl rfl rfl ?_
         refine stf (v := .slice _ _ _) 4 rfl Try.sizeOf41 rfl rfl rfl rfl rfl (Nat.le_of_ble_eq_true rfl) ?_
         refine rNil ?_
         refine qSeq rfl ?_
         refine hReg (sq 0 (sq 1 sz)) (by kernel_rfl) ?_
         refine add rfl rfl rfl rfl (by omega) ?_
         refine mvI rfl rfl rfl ?_
         refine rNil ?_
         rw [Math.hcW_snoc, Math.hcV_snoc]
         exact qNext rfl ((i + 1, q + 1, ((aq140, cq140), (hset hd.2 (Math.hcW kk.toNat ag i).length ((some ⟨bkm52, 0, none⟩), (kk).toNat))), ((aq141, cq141), (hset he.2 (Math.hcV kk.toNat i).length ((some ⟨bkm51, 0, none⟩), (kk).toNat))))) (by dsimp only; omega) ⟨by dsimp only; omega, by dsimp only; omega⟩ ⟨rfl, rfl, rfl, rfl, rfl, rfl, trivial⟩ (fun _ h => h.pick [0, 0, 2, 2, 2, 2])
       ·
        refine rAlt ?_ ?_
        ·
         refine bsl (fun _ _ h => h.pick []) rfl rfl rfl (bsl41_1 (.slice _ _ _) rfl) (fun bkl82 hbkl82 => ?_)
         refine rAlt ?_ ?_
         ·
          refine ldl Try.isAgg41 (cB 5 rfl rfl) (fun _ h => h.pick []) rfl rfl rfl ?_
          refine rAlt ?_ ?_
          ·
           refine apR (hd := ((some ⟨bkm52, 0, none⟩), (kk).toNat)) (x := (Math.hcRow kk.toNat ag i)) 4 1 0 maK.ok rfl rfl rfl (fun h => by first | rfl | (dsimp only at h; rw [h]; rfl) | (rw [h]; rfl) | exact congrArg (fun m => [Value.slice _ m _]) h) mk41 (fun _ _ h => h.pick []) rfl rfl rfl rfl (by omega) ?_
           intro aq142 cq142
           refine fld fl43_1 rfl rfl rfl ?_
           refine bsl (fun _ _ h => h.pick []) rfl rfl rfl (bsl41_1 (.slice _ _ _) rfl) (fun bkl83 hbkl83 => ?_)
           refine apR (hd := ((some ⟨bkm51, 0, none⟩), (kk).toNat)) (x := (Math.hcWin kk.toNat i)) 4 3 0 maK.ok rfl rfl rfl (fun h => by first | rfl | (dsimp only at h; rw [h]; rfl) | (rw [h]; rfl) | exact congrArg (fun m => [Value.slice _ m _]) h) mk41 (fun _ _ h => h.pick []) rfl rfl rfl rfl (by omega) ?_
           intro aq143 cq143
           refine stl (v := .slice _ _ _) 4 rfl Try.sizeOf41 (fun _ h => h.pick []) rfl rfl rfl rfl rfl (Nat.le_of_ble_eq_true rfl) ?_
           refine fld fl43_2 rfl rfl rfl ?_
           refine stf (v := .slice _ _ _) 4 rfl Try.sizeOf41 rfl rfl rfl rfl rfl (Nat.le_of_ble_eq_true rfl) ?_
           refine rNil ?_
           refine qSeq rfl ?_
           refine hReg (sq 0 (sq 1 sz)) (by kernel_rfl) ?_
           refine add rfl rfl rfl rfl (by omega) ?_
           refine mvI rfl rfl rfl ?_
           refine rNil ?_
           rw [Math.hcW_snoc, Math.hcV_snoc]
           exact qNext rfl ((i + 1, q + 1, ((aq142, cq142), (hset hd.2 (Math.hcW kk.toNat ag i).length ((some ⟨bkm52, 0, none⟩), (kk).toNat))), ((aq143, cq143), (hset he.2 (Math.hcV kk.toNat i).length ((some ⟨bkm51, 0, none⟩), (kk).toNat))))) (by dsimp only; omega) ⟨by dsimp only; omega, by dsimp only; omega⟩ ⟨rfl, rfl, rfl, rfl, rfl, rfl, trivial⟩ (fun _ h => h.pick [0, 1, 2, 2, 2, 2])
          ·
           refine bsl (fun _ _ h => h.pick []) rfl rfl rfl (bsl41_1 (.slice _ _ _) rfl) (fun bkl84 hbkl84 => ?_)
           refine apR (hd := ((some ⟨bkm52, 0, none⟩), (kk).toNat)) (x := (Math.hcRow kk.toNat ag i)) 5 2 1 maK.ok rfl rfl rfl (fun h => by first | rfl | (dsimp only at h; rw [h]; rfl) | (rw [h]; rfl) | exact congrArg (fun m => [Value.slice _ m _]) h) mk41 (fun _ _ h => h.pick []) rfl rfl rfl rfl (by omega) ?_
           intro aq144 cq144
           refine fld fl43_1 rfl rfl rfl ?_
           refine apR (hd := ((some ⟨bkm51, 0, none⟩), (kk).toNat)) (x := (Math.hcWin kk.toNat i)) 4 3 1 maK.ok rfl rfl rfl (fun h => by first | rfl | (dsimp only at h; rw [h]; rfl) | (rw [h]; rfl) | exact congrArg (fun m => [Value.slice _ m _]) h) mk41 (fun _ _ h => h.pick []) rfl rfl rfl rfl (by omega) ?_
           intro aq145 cq145
           refine stl (v := .slice _ _ _) 4 rfl Try.sizeOf41 (fun _ h => h.pick []) rfl rfl rfl rfl rfl (Nat.le_of_ble_eq_true rfl) ?_
           refine fld fl43_2 rfl rfl rfl ?_
           refine stf (v := .slice _ _ _) 4 rfl Try.sizeOf41 rfl rfl rfl rfl rfl (Nat.le_of_ble_eq_true rfl) ?_
           refine rNil ?_
           refine qSeq rfl ?_
           refine hReg (sq 0 (sq 1 sz)) (by kernel_rfl) ?_
           refine add rfl rfl rfl rfl (by omega) ?_
           refine mvI rfl rfl rfl ?_
           refine rNil ?_
           rw [Math.hcW_snoc, Math.hcV_snoc]
           exact qNext rfl ((i + 1, q + 1, ((aq144, cq144), (hset hd.2 (Math.hcW kk.toNat ag i).length ((some ⟨bkm52, 0, none⟩), (kk).toNat))), ((aq145, cq145), (hset he.2 (Math.hcV kk.toNat i).length ((some ⟨bkm51, 0, none⟩), (kk).toNat))))) (by dsimp only; omega) ⟨by dsimp only; omega, by dsimp only; omega⟩ ⟨rfl, rfl, rfl, rfl, rfl, rfl, trivial⟩ (fun _ h => h.pick [0, 0, 2, 2, 2, 2])
         ·
          refine bsl (fun _ _ h => h.pick []) rfl rfl rfl (bsl41_1 (.slice _ _ _) rfl) (fun bkl85 hbkl85 => ?_)
          refine ldl Try.isAgg41 (cB 6 rfl rfl) (fun _ h => h.pick []) rfl rfl rfl ?_
          refine apR (hd := ((some ⟨bkm52, 0, none⟩), (kk).toNat)) (x := (Math.hcRow kk.toNat ag i)) 5 2 1 maK.ok rfl rfl rfl (fun h => by first | rfl | (dsimp only at h; rw [h]; rfl) | (rw [h]; rfl) | exact congrArg (fun m => [Value.slice _ m _]) h) mk41 (fun _ _ h => h.pick []) rfl rfl rfl rfl (by omega) ?_
          intro aq146 cq146
          refine fld fl43_1 rfl rfl rfl ?_
          refine apR (hd := ((some ⟨bkm51, 0, none⟩), (kk).toNat)) (x := (Math.hcWin kk.toNat i)) 4 3 1 maK.ok rfl rfl rfl (fun h => by first | rfl | (dsimp only at h; rw [h]; rfl) | (rw [h]; rfl) | exact congrArg (fun m => [Value.slice _ m _]) h) mk41 (fun _ _ h => h.pick []) rfl rfl rfl rfl (by omega) ?_
          intro aq147 cq147
          refine stl (v := .slice _ _ _) 4 rfl Try.sizeOf41 (fun _ h => h.pick []) rfl rfl rfl rfl rfl (Nat.le_of_ble_eq_true rfl) ?_
          refine fld fl43_2 rfl rfl rfl ?_
          refine stf (v := .slice _ _ _) 4 rfl Try.sizeOf41 rfl rfl rfl rfl rfl (Nat.le_of_ble_eq_true rfl) ?_
          refine rNil ?_
          refine qSeq rfl ?_
          refine hReg (sq 0 (sq 1 sz)) (by kernel_rfl) ?_
          refine add rfl rfl rfl rfl (by omega) ?_
          refine mvI rfl rfl rfl ?_
          refine rNil ?_
          rw [Math.hcW_snoc, Math.hcV_snoc]
          exact qNext rfl ((i + 1, q + 1, ((aq146, cq146), (hset hd.2 (Math.hcW kk.toNat ag i).length ((some ⟨bkm52, 0, none⟩), (kk).toNat))), ((aq147, cq147), (hset he.2 (Math.hcV kk.toNat i).length ((some ⟨bkm51, 0, none⟩), (kk).toNat))))) (by dsimp only; omega) ⟨by dsimp only; omega, by dsimp only; omega⟩ ⟨rfl, rfl, rfl, rfl, rfl, rfl, trivial⟩ (fun _ h => h.pick [0, 0, 2, 2, 2, 2])
        ·
         refine bsl (fun _ _ h => h.pick []) rfl rfl rfl (bsl41_1 (.slice _ _ _) rfl) (fun bkl86 hbkl86 => ?_)
         refine rAlt ?_ ?_
         ·
          refine ldl Try.isAgg41 (cB 5 rfl rfl) (fun _ h => h.pick []) rfl rfl rfl ?_
          refine bsl (fun _ _ h => h.pick []) rfl rfl rfl (bsl41_1 (.slice _ _ _) rfl) (fun bkl87 hbkl87 => ?_)
          refine apR (hd := ((some ⟨bkm52, 0, none⟩), (kk).toNat)) (x := (Math.hcRow kk.toNat ag i)) 5 2 0 maK.ok rfl rfl rfl (fun h => by first | rfl | (dsimp only at h; rw [h]; rfl) | (rw [h]; rfl) | exact congrArg (fun m => [Value.slice _ m _]) h) mk41 (fun _ _ h => h.pick []) rfl rfl rfl rfl (by omega) ?_
          intro aq148 cq148
          refine fld fl43_1 rfl rfl rfl ?_
          refine apR (hd := ((some ⟨bkm51, 0, none⟩), (kk).toNat)) (x := (Math.hcWin kk.toNat i)) 4 3 2 maK.ok rfl rfl rfl (fun h => by first | rfl | (dsimp only at h; rw [h]; rfl) | (rw [h]; rfl) | exact congrArg (fun m => [Value.slice _ m _]) h) mk41 (fun _ _ h => h.pick []) rfl rfl rfl rfl (by omega) ?_
          intro aq149 cq149
          refine stl (v := .slice _ _ _) 4 rfl Try.sizeOf41 (fun _ h => h.pick []) rfl rfl rfl rfl rfl (Nat.le_of_ble_eq_true rfl) ?_
          refine fld fl43_2 rfl rfl rfl ?_
          refine stf (v := .slice _ _ _) 4 rfl Try.sizeOf41 rfl rfl rfl rfl rfl (Nat.le_of_ble_eq_true rfl) ?_
          refine rNil ?_
          refine qSeq rfl ?_
          refine hReg (sq 0 (sq 1 sz)) (by kernel_rfl) ?_
          refine add rfl rfl rfl rfl (by omega) ?_
          refine mvI rfl rfl rfl ?_
          refine rNil ?_
          rw [Math.hcW_snoc, Math.hcV_snoc]
          exact qNext rfl ((i + 1, q + 1, ((aq148, cq148), (hset hd.2 (Math.hcW kk.toNat ag i).length ((some ⟨bkm52, 0, none⟩), (kk).toNat))), ((aq149, cq149), (hset he.2 (Math.hcV kk.toNat i).length ((some ⟨bkm51, 0, none⟩), (kk).toNat))))) (by dsimp only; omega) ⟨by dsimp only; omega, by dsimp only; omega⟩ ⟨rfl, rfl, rfl, rfl, rfl, rfl, trivial⟩ (fun _ h => h.pick [0, 0, 2, 2, 2, 2])
         ·
          refine bsl (fun _ _ h => h.pick []) rfl rfl rfl (bsl41_1 (.slice _ _ _) rfl) (fun bkl88 hbkl88 => ?_)
          refine ldl Try.isAgg41 (cB 6 rfl rfl) (fun _ h => h.pick []) rfl rfl rfl ?_
          refine apR (hd := ((some ⟨bkm52, 0, none⟩), (kk).toNat)) (x := (Math.hcRow kk.toNat ag i)) 5 2 0 maK.ok rfl rfl rfl (fun h => by first | rfl | (dsimp only at h; rw [h]; rfl) | (rw [h]; rfl) | exact congrArg (fun m => [Value.slice _ m _]) h) mk41 (fun _ _ h => h.pick []) rfl rfl rfl rfl (by omega) ?_
          intro aq150 cq150
          refine fld fl43_1 rfl rfl rfl ?_
          refine apR (hd := ((some ⟨bkm51, 0, none⟩), (kk).toNat)) (x := (Math.hcWin kk.toNat i)) 4 3 2 maK.ok rfl rfl rfl (fun h => by first | rfl | (dsimp only at h; rw [h]; rfl) | (rw [h]; rfl) | exact congrArg (fun m => [Value.slice _ m _]) h) mk41 (fun _ _ h => h.pick []) rfl rfl rfl rfl (by omega) ?_
          intro aq151 cq151
          refine stl (v := .slice _ _ _) 4 rfl Try.sizeOf41 (fun _ h => h.pick []) rfl rfl rfl rfl rfl (Nat.le_of_ble_eq_true rfl) ?_
          refine fld fl43_2 rfl rfl rfl ?_
          refine stf (v := .slice _ _ _) 4 rfl Try.sizeOf41 rfl rfl rfl rfl rfl (Nat.le_of_ble_eq_true rfl) ?_
          refine rNil ?_
          refine qSeq rfl ?_
          refine hReg (sq 0 (sq 1 sz)) (by kernel_rfl) ?_
          refine add rfl rfl rfl rfl (by omega) ?_
          refine mvI rfl rfl rfl ?_
          refine rNil ?_
          rw [Math.hcW_snoc, Math.hcV_snoc]
          exact qNext rfl ((i + 1, q + 1, ((aq150, cq150), (hset hd.2 (Math.hcW kk.toNat ag i).length ((some ⟨bkm52, 0, none⟩), (kk).toNat))), ((aq151, cq151), (hset he.2 (Math.hcV kk.toNat i).length ((some ⟨bkm51, 0, none⟩), (kk).toNat))))) (by dsimp only; omega) ⟨by dsimp only; omega, by dsimp only; omega⟩ ⟨rfl, rfl, rfl, rfl, rfl, rfl, trivial⟩ (fun _ h => h.pick [0, 0, 2, 2, 2, 2])
      ·
       refine bsl (fun _ _ h => h.pick []) rfl rfl rfl (bsl41_1 (.slice _ _ _) rfl) (fun bkl89 hbkl89 => ?_)
       refine rAlt ?_ ?_
       ·
        refine ldl Try.isAgg41 (cB 5 rfl rfl) (fun _ h => h.pick []) rfl rfl rfl ?_
        refine rAlt ?_ ?_
        ·
         refine bsl (fun _ _ h => h.pick []) rfl rfl rfl (bsl41_1 (.slice _ _ _) rfl) (fun bkl90 hbkl90 => ?_)
         refine rAlt ?_ ?_
         ·
          refine apR (hd := ((some ⟨bkm52, 0, none⟩), (kk).toNat)) (x := (Math.hcRow kk.toNat ag i)) 5 2 0 maK.ok rfl rfl rfl (fun h => by first | rfl | (dsimp only at h; rw [h]; rfl) | (rw [h]; rfl) | exact congrArg (fun m => [Value.slice _ m _]) h) mk41 (fun _ _ h => h.pick []) rfl rfl rfl rfl (by omega) ?_
          intro aq152 cq152
          refine ldl Try.isAgg41 (cB 5 rfl rfl) (fun _ h => h.pick []) rfl rfl rfl ?_
          refine fld fl43_1 rfl rfl rfl ?_
          refine apR (hd := ((some ⟨bkm51, 0, none⟩), (kk).toNat)) (x := (Math.hcWin kk.toNat i)) 4 3 2 maK.ok rfl rfl rfl (fun h => by first | rfl | (dsimp only at h; rw [h]; rfl) | (rw [h]; rfl) | exact congrArg (fun m => [Value.slice _ m _]) h) mk41 (fun _ _ h => h.pick []) rfl rfl rfl rfl (by omega) ?_
          intro aq153 cq153
          refine stl (v := .slice _ _ _) 4 rfl Try.sizeOf41 (fun _ h => h.pick []) rfl rfl rfl rfl rfl (Nat.le_of_ble_eq_true rfl) ?_
          refine fld fl43_2 rfl rfl rfl ?_
          refine stf (v := .slice _ _ _) 4 rfl Try.sizeOf41 rfl rfl rfl rfl rfl (Nat.le_of_ble_eq_true rfl) ?_
          refine rNil ?_
          refine qSeq rfl ?_
          refine hReg (sq 0 (sq 1 sz)) (by kernel_rfl) ?_
          refine add rfl rfl rfl rfl (by omega) ?_
          refine mvI rfl rfl rfl ?_
          refine rNil ?_
          rw [Math.hcW_snoc, Math.hcV_snoc]
          exact qNext rfl ((i + 1, q + 1, ((aq152, cq152), (hset hd.2 (Math.hcW kk.toNat ag i).length ((some ⟨bkm52, 0, none⟩), (kk).toNat))), ((aq153, cq153), (hset he.2 (Math.hcV kk.toNat i).length ((some ⟨bkm51, 0, none⟩), (kk).toNat))))) (by dsimp only; omega) ⟨by dsimp only; omega, by dsimp only; omega⟩ ⟨rfl, rfl, rfl, rfl, rfl, rfl, trivial⟩ (fun _ h => h.pick [0, 0, 2, 2, 2, 2])
         ·
          refine ldl Try.isAgg41 (cB 6 rfl rfl) (fun _ h => h.pick []) rfl rfl rfl ?_
          refine apR (hd := ((some ⟨bkm52, 0, none⟩), (kk).toNat)) (x := (Math.hcRow kk.toNat ag i)) 5 2 0 maK.ok rfl rfl rfl (fun h => by first | rfl | (dsimp only at h; rw [h]; rfl) | (rw [h]; rfl) | exact congrArg (fun m => [Value.slice _ m _]) h) mk41 (fun _ _ h => h.pick []) rfl rfl rfl rfl (by omega) ?_
          intro aq154 cq154
          refine fld fl43_1 rfl rfl rfl ?_
          refine apR (hd := ((some ⟨bkm51, 0, none⟩), (kk).toNat)) (x := (Math.hcWin kk.toNat i)) 4 3 2 maK.ok rfl rfl rfl (fun h => by first | rfl | (dsimp only at h; rw [h]; rfl) | (rw [h]; rfl) | exact congrArg (fun m => [Value.slice _ m _]) h) mk41 (fun _ _ h => h.pick []) rfl rfl rfl rfl (by omega) ?_
          intro aq155 cq155
          refine stl (v := .slice _ _ _) 4 rfl Try.sizeOf41 (fun _ h => h.pick []) rfl rfl rfl rfl rfl (Nat.le_of_ble_eq_true rfl) ?_
          refine fld fl43_2 rfl rfl rfl ?_
          refine stf (v := .slice _ _ _) 4 rfl Try.sizeOf41 rfl rfl rfl rfl rfl (Nat.le_of_ble_eq_true rfl) ?_
          refine rNil ?_
          refine qSeq rfl ?_
          refine hReg (sq 0 (sq 1 sz)) (by kernel_rfl) ?_
          refine add rfl rfl rfl rfl (by omega) ?_
          refine mvI rfl rfl rfl ?_
          refine rNil ?_
          rw [Math.hcW_snoc, Math.hcV_snoc]
          exact qNext rfl ((i + 1, q + 1, ((aq154, cq154), (hset hd.2 (Math.hcW kk.toNat ag i).length ((some ⟨bkm52, 0, none⟩), (kk).toNat))), ((aq155, cq155), (hset he.2 (Math.hcV kk.toNat i).length ((some ⟨bkm51, 0, none⟩), (kk).toNat))))) (by dsimp only; omega) ⟨by dsimp only; omega, by dsimp only; omega⟩ ⟨rfl, rfl, rfl, rfl, rfl, rfl, trivial⟩ (fun _ h => h.pick [0, 0, 2, 2, 2, 2])
        ·
         refine ldl Try.isAgg41 (cB 5 rfl rfl) (fun _ h => h.pick []) rfl rfl rfl ?_
         refine bsl (fun _ _ h => h.pick []) rfl rfl rfl (bsl41_1 (.slice _ _ _) rfl) (fun bkl91 hbkl91 => ?_)
         refine apR (hd := ((some ⟨bkm52, 0, none⟩), (kk).toNat)) (x := (Math.hcRow kk.toNat ag i)) 5 2 0 maK.ok rfl rfl rfl (fun h => by first | rfl | (dsimp only at h; rw [h]; rfl) | (rw [h]; rfl) | exact congrArg (fun m => [Value.slice _ m _]) h) mk41 (fun _ _ h => h.pick []) rfl rfl rfl rfl (by omega) ?_
         intro aq156 cq156
         refine fld fl43_1 rfl rfl rfl ?_
         refine apR (hd := ((some ⟨bkm51, 0, none⟩), (kk).toNat)) (x := (Math.hcWin kk.toNat i)) 4 3 2 maK.ok rfl rfl rfl (fun h => by first | rfl | (dsimp only at h; rw [h]; rfl) | (rw [h]; rfl) | exact congrArg (fun m => [Value.slice _ m _]) h) mk41 (fun _ _ h => h.pick []) rfl rfl rfl rfl (by omega) ?_
         intro aq157 cq157
         refine stl (v := .slice _ _ _) 4 rfl Try.sizeOf41 (fun _ h => h.pick []) rfl rfl rfl rfl rfl (Nat.le_of_ble_eq_true rfl) ?_
         refine fld fl43_2 rfl rfl rfl ?_
         refine stf (v := .slice _ _ _) 4 rfl Try.sizeOf41 rfl rfl rfl rfl rfl (Nat.le_of_ble_eq_true rfl) ?_
         refine rNil ?_
         refine qSeq rfl ?_
         refine hReg (sq 0 (sq 1 sz)) (by kernel_rfl) ?_
         refine add rfl rfl rfl rfl (by omega) ?_
         refine mvI rfl rfl rfl ?_
         refine rNil ?_
         rw [Math.hcW_snoc, Math.hcV_snoc]
         exact qNext rfl ((i + 1, q + 1, ((aq156, cq156), (hset hd.2 (Math.hcW kk.toNat ag i).length ((some ⟨bkm52, 0, none⟩), (kk).toNat))), ((aq157, cq157), (hset he.2 (Math.hcV kk.toNat i).length ((some ⟨bkm51, 0, none⟩), (kk).toNat))))) (by dsimp only; omega) ⟨by dsimp only; omega, by dsimp only; omega⟩ ⟨rfl, rfl, rfl, rfl, rfl, rfl, trivial⟩ (fun _ h => h.pick [0, 0, 2, 2, 2, 2])
       ·
        refine rAlt ?_ ?_
        ·
         refine bsl (fun _ _ h => h.pick []) rfl rfl rfl (bsl41_1 (.slice _ _ _) rfl) (fun bkl92 hbkl92 => ?_)
         refine rAlt ?_ ?_
         ·
          refine ldl Try.isAgg41 (cB 6 rfl rfl) (fun _ h => h.pick []) rfl rfl rfl ?_
          refine rAlt ?_ ?_
          ·
           refine apR (hd := ((some ⟨bkm52, 0, none⟩), (kk).toNat)) (x := (Math.hcRow kk.toNat ag i)) 5 2 0 maK.ok rfl rfl rfl (fun h => by first | rfl | (dsimp only at h; rw [h]; rfl) | (rw [h]; rfl) | exact congrArg (fun m => [Value.slice _ m _]) h) mk41 (fun _ _ h => h.pick []) rfl rfl rfl rfl (by omega) ?_
           intro aq158 cq158
           refine ldl Try.isAgg41 (cB 5 rfl rfl) (fun _ h => h.pick []) rfl rfl rfl ?_
           refine fld fl43_1 rfl rfl rfl ?_
           refine apR (hd := ((some ⟨bkm51, 0, none⟩), (kk).toNat)) (x := (Math.hcWin kk.toNat i)) 4 3 2 maK.ok rfl rfl rfl (fun h => by first | rfl | (dsimp only at h; rw [h]; rfl) | (rw [h]; rfl) | exact congrArg (fun m => [Value.slice _ m _]) h) mk41 (fun _ _ h => h.pick []) rfl rfl rfl rfl (by omega) ?_
           intro aq159 cq159
           refine stl (v := .slice _ _ _) 4 rfl Try.sizeOf41 (fun _ h => h.pick []) rfl rfl rfl rfl rfl (Nat.le_of_ble_eq_true rfl) ?_
           refine fld fl43_2 rfl rfl rfl ?_
           refine stf (v := .slice _ _ _) 4 rfl Try.sizeOf41 rfl rfl rfl rfl rfl (Nat.le_of_ble_eq_true rfl) ?_
           refine rNil ?_
           refine qSeq rfl ?_
           refine hReg (sq 0 (sq 1 sz)) (by kernel_rfl) ?_
           refine add rfl rfl rfl rfl (by omega) ?_
           refine mvI rfl rfl rfl ?_
           refine rNil ?_
           rw [Math.hcW_snoc, Math.hcV_snoc]
           exact qNext rfl ((i + 1, q + 1, ((aq158, cq158), (hset hd.2 (Math.hcW kk.toNat ag i).length ((some ⟨bkm52, 0, none⟩), (kk).toNat))), ((aq159, cq159), (hset he.2 (Math.hcV kk.toNat i).length ((some ⟨bkm51, 0, none⟩), (kk).toNat))))) (by dsimp only; omega) ⟨by dsimp only; omega, by dsimp only; omega⟩ ⟨rfl, rfl, rfl, rfl, rfl, rfl, trivial⟩ (fun _ h => h.pick [0, 0, 2, 2, 2, 2])
          ·
           refine ldl Try.isAgg41 (cB 6 rfl rfl) (fun _ h => h.pick []) rfl rfl rfl ?_
           refine apR (hd := ((some ⟨bkm52, 0, none⟩), (kk).toNat)) (x := (Math.hcRow kk.toNat ag i)) 5 2 0 maK.ok rfl rfl rfl (fun h => by first | rfl | (dsimp only at h; rw [h]; rfl) | (rw [h]; rfl) | exact congrArg (fun m => [Value.slice _ m _]) h) mk41 (fun _ _ h => h.pick []) rfl rfl rfl rfl (by omega) ?_
           intro aq160 cq160
           refine fld fl43_1 rfl rfl rfl ?_
           refine apR (hd := ((some ⟨bkm51, 0, none⟩), (kk).toNat)) (x := (Math.hcWin kk.toNat i)) 4 3 2 maK.ok rfl rfl rfl (fun h => by first | rfl | (dsimp only at h; rw [h]; rfl) | (rw [h]; rfl) | exact congrArg (fun m => [Value.slice _ m _]) h) mk41 (fun _ _ h => h.pick []) rfl rfl rfl rfl (by omega) ?_
           intro aq161 cq161
           refine stl (v := .slice _ _ _) 4 rfl Try.sizeOf41 (fun _ h => h.pick []) rfl rfl rfl rfl rfl (Nat.le_of_ble_eq_true rfl) ?_
           refine fld fl43_2 rfl rfl rfl ?_
           refine stf (v := .slice _ _ _) 4 rfl Try.sizeOf41 rfl rfl rfl rfl rfl (Nat.le_of_ble_eq_true rfl) ?_
           refine rNil ?_
           refine qSeq rfl ?_
           refine hReg (sq 0 (sq 1 sz)) (by kernel_rfl) ?_
           refine add rfl rfl rfl rfl (by omega) ?_
           refine mvI rfl rfl rfl ?_
           refine rNil ?_
           rw [Math.hcW_snoc, Math.hcV_snoc]
           exact qNext rfl ((i + 1, q + 1, ((aq160, cq160), (hset hd.2 (Math.hcW kk.toNat ag i).length ((some ⟨bkm52, 0, none⟩), (kk).toNat))), ((aq161, cq161), (hset he.2 (Math.hcV kk.toNat i).length ((some ⟨bkm51, 0, none⟩), (kk).toNat))))) (by dsimp only; omega) ⟨by dsimp only; omega, by dsimp only; omega⟩ ⟨rfl, rfl, rfl, rfl, rfl, rfl, trivial⟩ (fun _ h => h.pick [0, 0, 2, 2, 2, 2])
         ·
          refine ldl Try.isAgg41 (cB 6 rfl rfl) (fun _ h => h.pick []) rfl rfl rfl ?_
          refine ldl Try.isAgg41 (cB 6 rfl rfl) (fun _ h => h.pick []) rfl rfl rfl ?_
          refine apR (hd := ((some ⟨bkm52, 0, none⟩), (kk).toNat)) (x := (Math.hcRow kk.toNat ag i)) 5 2 0 maK.ok rfl rfl rfl (fun h => by first | rfl | (dsimp only at h; rw [h]; rfl) | (rw [h]; rfl) | exact congrArg (fun m => [Value.slice _ m _]) h) mk41 (fun _ _ h => h.pick []) rfl rfl rfl rfl (by omega) ?_
          intro aq162 cq162
          refine fld fl43_1 rfl rfl rfl ?_
          refine apR (hd := ((some ⟨bkm51, 0, none⟩), (kk).toNat)) (x := (Math.hcWin kk.toNat i)) 4 3 2 maK.ok rfl rfl rfl (fun h => by first | rfl | (dsimp only at h; rw [h]; rfl) | (rw [h]; rfl) | exact congrArg (fun m => [Value.slice _ m _]) h) mk41 (fun _ _ h => h.pick []) rfl rfl rfl rfl (by omega) ?_
          intro aq163 cq163
          refine stl (v := .slice _ _ _) 4 rfl Try.sizeOf41 (fun _ h => h.pick []) rfl rfl rfl rfl rfl (Nat.le_of_ble_eq_true rfl) ?_
          refine fld fl43_2 rfl rfl rfl ?_
          refine stf (v := .slice _ _ _) 4 rfl Try.sizeOf41 rfl rfl rfl rfl rfl (Nat.le_of_ble_eq_true rfl) ?_
          refine rNil ?_
          refine qSeq rfl ?_
          refine hReg (sq 0 (sq 1 sz)) (by kernel_rfl) ?_
          refine add rfl rfl rfl rfl (by omega) ?_
          refine mvI rfl rfl rfl ?_
          refine rNil ?_
          rw [Math.hcW_snoc, Math.hcV_snoc]
          exact qNext rfl ((i + 1, q + 1, ((aq162, cq162), (hset hd.2 (Math.hcW kk.toNat ag i).length ((some ⟨bkm52, 0, none⟩), (kk).toNat))), ((aq163, cq163), (hset he.2 (Math.hcV kk.toNat i).length ((some ⟨bkm51, 0, none⟩), (kk).toNat))))) (by dsimp only; omega) ⟨by dsimp only; omega, by dsimp only; omega⟩ ⟨rfl, rfl, rfl, rfl, rfl, rfl, trivial⟩ (fun _ h => h.pick [0, 0, 2, 2, 2, 2])
        ·
         refine ldl Try.isAgg41 (cB 5 rfl rfl) (fun _ h => h.pick []) rfl rfl rfl ?_
         refine rAlt ?_ ?_
         ·
          refine ldl Try.isAgg41 (cB 5 rfl rfl) (fun _ h => h.pick []) rfl rfl rfl ?_
          refine bsl (fun _ _ h => h.pick []) rfl rfl rfl (bsl41_1 (.slice _ _ _) rfl) (fun bkl93 hbkl93 => ?_)
          refine apR (hd := ((some ⟨bkm52, 0, none⟩), (kk).toNat)) (x := (Math.hcRow kk.toNat ag i)) 5 2 0 maK.ok rfl rfl rfl (fun h => by first | rfl | (dsimp only at h; rw [h]; rfl) | (rw [h]; rfl) | exact congrArg (fun m => [Value.slice _ m _]) h) mk41 (fun _ _ h => h.pick []) rfl rfl rfl rfl (by omega) ?_
          intro aq164 cq164
          refine fld fl43_1 rfl rfl rfl ?_
          refine apR (hd := ((some ⟨bkm51, 0, none⟩), (kk).toNat)) (x := (Math.hcWin kk.toNat i)) 4 3 2 maK.ok rfl rfl rfl (fun h => by first | rfl | (dsimp only at h; rw [h]; rfl) | (rw [h]; rfl) | exact congrArg (fun m => [Value.slice _ m _]) h) mk41 (fun _ _ h => h.pick []) rfl rfl rfl rfl (by omega) ?_
          intro aq165 cq165
          refine stl (v := .slice _ _ _) 4 rfl Try.sizeOf41 (fun _ h => h.pick []) rfl rfl rfl rfl rfl (Nat.le_of_ble_eq_true rfl) ?_
          refine fld fl43_2 rfl rfl rfl ?_
          refine stf (v := .slice _ _ _) 4 rfl Try.sizeOf41 rfl rfl rfl rfl rfl (Nat.le_of_ble_eq_true rfl) ?_
          refine rNil ?_
          refine qSeq rfl ?_
          refine hReg (sq 0 (sq 1 sz)) (by kernel_rfl) ?_
          refine add rfl rfl rfl rfl (by omega) ?_
          refine mvI rfl rfl rfl ?_
          refine rNil ?_
          rw [Math.hcW_snoc, Math.hcV_snoc]
          exact qNext rfl ((i + 1, q + 1, ((aq164, cq164), (hset hd.2 (Math.hcW kk.toNat ag i).length ((some ⟨bkm52, 0, none⟩), (kk).toNat))), ((aq165, cq165), (hset he.2 (Math.hcV kk.toNat i).length ((some ⟨bkm51, 0, none⟩), (kk).toNat))))) (by dsimp only; omega) ⟨by dsimp only; omega, by dsimp only; omega⟩ ⟨rfl, rfl, rfl, rfl, rfl, rfl, trivial⟩ (fun _ h => h.pick [0, 0, 2, 2, 2, 2])
         ·
          refine bsl (fun _ _ h => h.pick []) rfl rfl rfl (bsl41_1 (.slice _ _ _) rfl) (fun bkl94 hbkl94 => ?_)
          refine ldl Try.isAgg41 (cB 6 rfl rfl) (fun _ h => h.pick []) rfl rfl rfl ?_
          refine apR (hd := ((some ⟨bkm52, 0, none⟩), (kk).toNat)) (x := (Math.hcRow kk.toNat ag i)) 5 2 0 maK.ok rfl rfl rfl (fun h => by first | rfl | (dsimp only at h; rw [h]; rfl) | (rw [h]; rfl) | exact congrArg (fun m => [Value.slice _ m _]) h) mk41 (fun _ _ h => h.pick []) rfl rfl rfl rfl (by omega) ?_
          intro aq166 cq166
          refine fld fl43_1 rfl rfl rfl ?_
          refine apR (hd := ((some ⟨bkm51, 0, none⟩), (kk).toNat)) (x := (Math.hcWin kk.toNat i)) 4 3 2 maK.ok rfl rfl rfl (fun h => by first | rfl | (dsimp only at h; rw [h]; rfl) | (rw [h]; rfl) | exact congrArg (fun m => [Value.slice _ m _]) h) mk41 (fun _ _ h => h.pick []) rfl rfl rfl rfl (by omega) ?_
          intro aq167 cq167
          refine stl (v := .slice _ _ _) 4 rfl Try.sizeOf41 (fun _ h => h.pick []) rfl rfl rfl rfl rfl (Nat.le_of_ble_eq_true rfl) ?_
          refine fld fl43_2 rfl rfl rfl ?_
          refine stf (v := .slice _ _ _) 4 rfl Try.sizeOf41 rfl rfl rfl rfl rfl (Nat.le_of_ble_eq_true rfl) ?_
          refine rNil ?_
          refine qSeq rfl ?_
          refine hReg (sq 0 (sq 1 sz)) (by kernel_rfl) ?_
          refine add rfl rfl rfl rfl (by omega) ?_
          refine mvI rfl rfl rfl ?_
          refine rNil ?_
          rw [Math.hcW_snoc, Math.hcV_snoc]
          exact qNext rfl ((i + 1, q + 1, ((aq166, cq166), (hset hd.2 (Math.hcW kk.toNat ag i).length ((some ⟨bkm52, 0, none⟩), (kk).toNat))), ((aq167, cq167), (hset he.2 (Math.hcV kk.toNat i).length ((some ⟨bkm51, 0, none⟩), (kk).toNat))))) (by dsimp only; omega) ⟨by dsimp only; omega, by dsimp only; omega⟩ ⟨rfl, rfl, rfl, rfl, rfl, rfl, trivial⟩ (fun _ h => h.pick [0, 0, 2, 2, 2, 2])
 ·
  replace c1 : ¬ ((i : Int) < kk) := c1
  refine hExit rfl ?_
  refine qSeq rfl ?_
  refine hSeq ?_
  refine hReg (sl 0 (sl 1 sz)) (by kernel_rfl) ?_
  refine ldAl Try.isAgg43 Try.sizeOf43 (cBs 2 rfl) trv rfl rfl rfl rfl ?_
  refine stAl (vs := [.slice ay1 ny1 cy1, .slice hd.1.1 q hd.1.2, .slice he.1.1 q he.1.2]) 4 rfl Try.sizeOf43 trv rfl rfl rfl rfl rfl (by simp [Value.oneCell']) rfl ?_
  refine rNil ?_
  refine qSeq rfl ?_
  refine hRet ?_
  exact fun w hs => ⟨[_], ⟨⟨_, rfl, run_load_agg Try.isAgg43 Try.sizeOf43 rfl (cBs 4 rfl w hs)⟩, trivial⟩, ⟨(ay1, ny1, cy1, Hy1, z, hd.1.1, q, hd.1.2, hd.2, (Math.hcW kk.toNat ag i), he.1.1, q, he.1.2, he.2, (Math.hcV kk.toNat i)), rfl, ⟨rfl, by rw [show i = kk.toNat from by omega], by rw [show i = kk.toNat from by omega]⟩, hs.pick [3, 1, 0]⟩⟩
end Go.Proofs.Ytjengglpbdgmnaa
