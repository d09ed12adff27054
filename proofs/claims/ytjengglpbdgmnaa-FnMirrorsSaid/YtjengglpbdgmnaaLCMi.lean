/- Contracts of copies of trees. Their conditions stand in each. -/
import Derived.Test.YtjengglpbdgmnaaEngCMi
import Derived.Test.YtjengglpbdgmnaaTreeMi
import Derived.Test.YtjengglpbdgmnaaGameMi
import Derived.Test.YtjengglpbdgmnaaSetsMi
import Derived.Test.YtjengglpbdgmnaaHighMi
import Derived.Test.YtjengglpbdgmnaaDrawMi
import Derived.Test.YtjengglpbdgmnaaL1Mi
import Derived.Test.YtjengglpbdgmnaaL2Mi
import Derived.Test.YtjengglpbdgmnaaL3Mi
import Derived.Test.YtjengglpbdgmnaaRows
namespace Go.Proofs.Ytjengglpbdgmnaa
open Go Go.RowKit V
set_option linter.unusedVariables false
set_option linter.unusedSimpArgs false
set_option maxRecDepth 100000
theorem fl43_1 : Fld Try.prog 43 1 1 := by
 intro w ad; simp [Instr.fieldAt, Try.runUnderlying43, Instr.sureAddr, fieldPlace, Try.sizeOf41]
theorem fl43_2 : Fld Try.prog 43 2 2 := by
 intro w ad; simp [Instr.fieldAt, Try.runUnderlying43, Instr.sureAddr, fieldPlace, Try.sizeOf41]
theorem mk24 : Mk Try.prog 24 88 5 56 [.int .i64 0, .int .i64 0, .int .i64 0, .int .i64 0, .slice none 0 0] := ⟨Try.underlying24, Try.t88, _, by kernel_rfl, rfl, rfl, rfl, rfl, rfl, by decide, by decide⟩
theorem mk41 : Mk Try.prog 41 28 1 24 [.slice none 0 0] := ⟨Try.underlying41, Try.t28, _, by kernel_rfl, rfl, rfl, rfl, rfl, rfl, by decide, by decide⟩
theorem bsl24_0   : ∀ w, (Instr.buildSlice 24 0 ([] : List (Nat × Value)).toArray).run Try.prog w = .ok (.slice (some ⟨w.heap.size, 0, none⟩) 0 0) (w.alloc (.cells ([] : List Value).toArray 88)) := by
 intro w; simp [Instr.buildSlice, Instr.fill, Try.zeroValue88, Try.runUnderlying24, Try.sizeOf88, aggCells, newRow, show Array.range 0 = #[] from by decide]
theorem bsl24_1 (v0 v1 v2 v3 v4 : Value) (h0 : v0.cells = #[v0]) (h1 : v1.cells = #[v1]) (h2 : v2.cells = #[v2]) (h3 : v3.cells = #[v3]) (h4 : v4.cells = #[v4]) : ∀ w, (Instr.buildSlice 24 1 ([(0, .agg #[v0, v1, v2, v3, v4])] : List (Nat × Value)).toArray).run Try.prog w = .ok (.slice (some ⟨w.heap.size, 0, none⟩) 1 1) (w.alloc (.cells ([v0, v1, v2, v3, v4] : List Value).toArray 88)) := by
 intro w; simp [Instr.buildSlice, Instr.fill, Try.zeroValue88, Try.runUnderlying24, Try.sizeOf88, aggCells, newRow, show Array.range 5 = #[0, 1, 2, 3, 4] from by decide]
theorem bsl41_0   : ∀ w, (Instr.buildSlice 41 0 ([] : List (Nat × Value)).toArray).run Try.prog w = .ok (.slice (some ⟨w.heap.size, 0, none⟩) 0 0) (w.alloc (.cells ([] : List Value).toArray 28)) := by
 intro w; simp [Instr.buildSlice, Instr.fill, Try.zeroValue28, Try.runUnderlying41, Try.sizeOf28, Value.cells_int, newRow, show Array.range 0 = #[] from by decide]
theorem bsl41_1 (v0 : Value) (h0 : v0.cells = #[v0]) : ∀ w, (Instr.buildSlice 41 1 ([(0, v0)] : List (Nat × Value)).toArray).run Try.prog w = .ok (.slice (some ⟨w.heap.size, 0, none⟩) 1 1) (w.alloc (.cells ([v0] : List Value).toArray 28)) := by
 intro w; simp [Instr.buildSlice, Instr.fill, Try.zeroValue28, Try.runUnderlying41, Try.sizeOf28, Value.cells_int, newRow, show Array.range 1 = #[0] from by decide, h0]
theorem bld26_0 (v0 : Value) (h0 : v0.cells = #[v0]) : ∀ w, (Instr.build 26 ([(0, v0)] : List (Nat × Value)).toArray).run Try.prog w = .ok (.agg ([v0] : List Value).toArray) w := by
 intro w; simp [Instr.build, Instr.fill, Try.zeroValue26, Try.runUnderlying26, aggCells, Try.sizeOf24, h0]
theorem bld43_0 (v0_0 : Value) (h0_0 : v0_0.cells = #[v0_0]) : ∀ w, (Instr.build 43 ([(0, .agg #[v0_0])] : List (Nat × Value)).toArray).run Try.prog w = .ok (.agg ([v0_0, .slice none 0 0, .slice none 0 0] : List Value).toArray) w := by
 intro w; simp [Instr.build, Instr.fill, Try.zeroValue43, Try.runUnderlying43, aggCells, Try.sizeOf26, Try.sizeOf41]
theorem bld43_0_1_2 (v0_0 v1 v2 : Value) (h0_0 : v0_0.cells = #[v0_0]) (h1 : v1.cells = #[v1]) (h2 : v2.cells = #[v2]) : ∀ w, (Instr.build 43 ([(0, .agg #[v0_0]), (1, v1), (2, v2)] : List (Nat × Value)).toArray).run Try.prog w = .ok (.agg ([v0_0, v1, v2] : List Value).toArray) w := by
 intro w; simp [Instr.build, Instr.fill, Try.zeroValue43, Try.runUnderlying43, aggCells, Try.sizeOf26, Try.sizeOf41, h1, h2]
theorem slices_Clone_int64_int64_c (az : Option Addr) (nz : Nat) (cz : Nat) (z : List Int) (w : World) (rz : RdI az nz z w) (hl : nz ≤ 1000000) :
  Calls Try.prog 182 #[.slice az nz cz] w (Ret fun v w' => ∃ x : Option Addr × Nat × Nat × List Int, v = .slice x.1 x.2.1 x.2.2.1 ∧ (x.2.2.2 = z) ∧ Sep w none_ [OwnI 2 x.1 x.2.1 x.2.2.1 x.2.2.2] w') := by
 have kz : Kn w none_ [] (RdI az nz z) := fun w' hs => rz.ext hs.upd
 have lz : z.length = nz := rz.1
 have mz : nz ≤ 9223372036854775807 := rz.2.1
 refine fn (M := none_) (rs := [.tmp 2]) Try.func182 rfl Try.ntmps182 rfl rfl (Sep.start _ _) ?_
 refine hSeq ?_
 refine hReg (sq 0 sz) (by kernel_rfl) ?_
 refine asS rfl rfl rfl ?_
 refine rNil ?_
 refine qSeq rfl ?_
 refine hSeq ?_
 refine hSeq ?_
 refine hReg (sq 0 (sq 1 sz)) (by kernel_rfl) ?_
 refine mvS rfl rfl rfl ?_
 refine eqNil Try.underlying28 rfl rfl rfl rfl ?_
 refine rNil ?_
 refine qSeq rfl ?_
 refine hIf rfl (fun c1 => ?_) (fun c1 => ?_)
 ·
  replace c1 : az.isNone = true := c1
  have hz0 := RdI.none rz c1
  refine hSeq ?_
  refine hReg (sq 0 sz) (by kernel_rfl) ?_
  refine asS rfl rfl rfl ?_
  refine rNil ?_
  refine qSeq rfl ?_
  refine hRet ?_
  refine knP (fun _ h => Sep.nilI 2 h) ?_
  exact fun w hs => ⟨[.slice none 0 0], ⟨rfl, trivial⟩, ⟨(none, 0, 0, []), rfl, by first | exact hz0.symm | simp, hs.pick [0]⟩⟩
 ·
  replace c1 : az.isNone = false := c1
  refine hSkip ?_
  refine qSeq rfl ?_
  refine hSeq ?_
  refine hReg (sl 0 (sq 1 (sl 2 (sq 3 sz)))) (by kernel_rfl) ?_
  refine bsl trv1 rfl rfl rfl (bsl28_0) (fun bkl2 hbkl2 => ?_)
  refine mvS rfl rfl rfl ?_
  refine rPieces (fun _ h => Sep.litI h 0 [] rfl rfl rfl) ?_
  refine aplL (N := 0) (ys := z) 0 rfl (Kn.drop (k := 1) kz) mk28 trv1 rfl rfl rfl rfl (by omega) ?_
  intro aq1 cq1
  refine asS rfl rfl rfl ?_
  refine rNil ?_
  refine qSeq rfl ?_
  refine hRet ?_
  exact fun w hs => ⟨[.slice aq1 (0 + nz) cq1], ⟨rfl, trivial⟩, ⟨(aq1, (0 + nz), cq1, ([] ++ z)), rfl, by simp, hs.pick [0]⟩⟩
theorem spec_l01Own_c (az : Option Addr) (nz : Nat) (cz : Nat) (z : List Int) (w : World) (rz : RdI az nz z w) (hl : nz ≤ 1000000) :
  Calls Try.prog 160 #[.slice az nz cz] w (Ret fun v w' => ∃ x : Option Addr × Nat × Nat × List Int, v = .slice x.1 x.2.1 x.2.2.1 ∧ (x.2.2.2 = z) ∧ Sep w none_ [OwnI 2 x.1 x.2.1 x.2.2.1 x.2.2.2] w') := by
 have kz : Kn w none_ [] (RdI az nz z) := fun w' hs => rz.ext hs.upd
 have lz : z.length = nz := rz.1
 have mz : nz ≤ 9223372036854775807 := rz.2.1
 refine fn (M := none_) (rs := [.tmp 2]) Try.func160 rfl Try.ntmps160 rfl rfl (Sep.start _ _) ?_
 refine hSeq ?_
 refine hReg (sq 0 sz) (by kernel_rfl) ?_
 refine asS rfl rfl rfl ?_
 refine rNil ?_
 refine qSeq rfl ?_
 refine hSeq ?_
 refine hReg (sl 0 (sq 1 (sl 2 (sq 3 sz)))) (by kernel_rfl) ?_
 refine bsl trv1 rfl rfl rfl (bsl28_0) (fun bkl1 hbkl1 => ?_)
 refine mvS rfl rfl rfl ?_
 refine rPieces (fun _ h => Sep.litI h 0 [] rfl rfl rfl) ?_
 refine aplL (N := 0) (ys := z) 0 rfl (Kn.drop (k := 1) kz) mk28 trv1 rfl rfl rfl rfl (by omega) ?_
 intro aq1 cq1
 refine asS rfl rfl rfl ?_
 refine rNil ?_
 refine qSeq rfl ?_
 refine hRet ?_
 exact fun w hs => ⟨[.slice aq1 (0 + nz) cq1], ⟨rfl, trivial⟩, ⟨(aq1, (0 + nz), cq1, ([] ++ z)), rfl, by simp, hs.pick [0]⟩⟩
theorem impl_cloneTree_c (az : Option Addr) (nz : Nat) (cz : Nat) (Hz : Nat → Hd) (z : List Nd) (w : World) (rz : RdR ndK az nz Hz z w) (ht : Math.isTree z = true) :
  Calls Try.prog 157 #[.agg #[.slice az nz cz]] w (Ret fun v w' => ∃ x : Option Addr × Nat × Nat × (Nat → Hd) × List Nd, v = .agg #[.slice x.1 x.2.1 x.2.2.1] ∧ (x.2.2.2.2 = z) ∧ Sep w none_ [OwnR ndK 88 2 x.1 x.2.1 x.2.2.1 x.2.2.2.1 x.2.2.2.2] w') := by
 have kz : Kn w none_ [] (RdR ndK az nz Hz z) := fun w' hs => rz.ext hs.upd
 have lz : z.length = nz := rz.1
 have mz : nz ≤ 9223372036854775807 := rz.2.1
 have hT := Math.isTree_ok ht
 have hn := hT.1
 refine fn (M := none_) (rs := [.cell 2 26]) Try.func157 rfl Try.ntmps157 rfl rfl (Sep.start _ _) ?_
 refine hSeq ?_
 refine hReg (sl 0 (sl 1 sz)) (by kernel_rfl) ?_
 refine box trv1 rfl rfl rfl rfl (fun bkb1 hbkb1 => ?_)
 refine alc Try.zeroValue26 rfl trv1 rfl rfl (fun bka2 hbka2 => ?_)
 refine rNil ?_
 refine qSeq rfl ?_
 refine hSeq ?_
 refine hReg (sq 0 (sl 1 (sq 2 (sl 3 (sq 4 (sl 5 (sl 6 sz))))))) (by kernel_rfl) ?_
 refine fld fl26_0 rfl rfl rfl ?_
 refine ldl Try.isAgg24 (cB 1 rfl rfl) trv rfl rfl rfl ?_
 refine lenS Try.runUnderlying24 rfl rfl rfl ?_
 refine mksR (e1 := 2) nz dN ndK.ok rfl rfl mk24 trv1 rfl rfl rfl rfl (rfl) (by omega) (fun bkm3 hbkm3 => ?_)
 refine bld rfl rfl rfl (bld26_0 (.slice _ _ _) rfl) ?_
 refine alc Try.zeroValue26 rfl trv1 rfl rfl (fun bka4 hbka4 => ?_)
 refine stAl (vs := [.slice (some ⟨bkm3, 0, none⟩) nz nz]) 0 rfl Try.sizeOf26 trv rfl rfl rfl rfl rfl (by simp [Value.oneCell']) rfl ?_
 refine rNil ?_
 refine qSeq rfl ?_
 refine hSeq ?_
 refine hSeq ?_
 refine hReg (sq 0 (sl 1 (sq 2 (sq 3 sz)))) (by kernel_rfl) ?_
 refine fld fl26_0 rfl rfl rfl ?_
 refine ldl Try.isAgg24 (cB 3 rfl rfl) trv rfl rfl rfl ?_
 refine lenS Try.runUnderlying24 rfl rfl rfl ?_
 refine mvI rfl rfl rfl ?_
 refine rNil ?_
 refine qSeq rfl ?_
 refine hBlk ?_
 rw [Math.fill_start z nz dN]
 refine hLoop (α := Nat × (Nat → Hd)) (fun x => x.1 ≤ nz) (fun x => nz - x.1) (fun x => [blk bka4 26 [.slice (some ⟨bkm3, 0, none⟩) nz nz], OwnR ndK 88 2 (some ⟨bkm3, 0, none⟩) nz nz x.2 ((z.take x.1 ++ List.replicate (nz - x.1) dN)), blk bka2 26 [.slice none 0 0], blk bkb1 26 [.slice az nz cz]]) (fun x => [(2, .pointer (some ⟨bka2, 0, none⟩)), (3, .pointer (some ⟨bka4, 0, none⟩)), (12, .slice az nz cz), (13, .int .i64 (nz : Int)), (14, .int .i64 (x.1 : Int))]) ((0, fun _ => (none, 0))) (Nat.zero_le _) (fun _ h => h.pick [0, 0, 0, 0]) ⟨rfl, rfl, rfl, rfl, rfl, trivial⟩ ?_
 rintro ⟨i, hh⟩ τ1 hi
 dsimp only at hi
 refine hRe [(2, .pointer (some ⟨bka2, 0, none⟩)), (3, .pointer (some ⟨bka4, 0, none⟩)), (12, .slice az nz cz), (13, .int .i64 (nz : Int)), (14, .int .i64 (i : Int))] [blk bka4 26 [.slice (some ⟨bkm3, 0, none⟩) nz nz], OwnR ndK 88 2 (some ⟨bkm3, 0, none⟩) nz nz hh ((z.take i ++ List.replicate (nz - i) dN)), blk bka2 26 [.slice none 0 0], blk bkb1 26 [.slice az nz cz]] rfl rfl ?_
 refine hSeq ?_
 refine hReg (sq 0 sz) (by kernel_rfl) ?_
 refine lss rfl rfl rfl rfl ?_
 refine rNil ?_
 refine qSeq rfl ?_
 refine hSeq ?_
 refine hIfD rfl (fun c1 => ?_) (fun c1 => ?_)
 ·
  replace c1 : (i : Int) < (nz : Int) := c1
  have hch := (Math.ok_pl ((Math.allOk_iff' lz).1 hT.2.1 i (by omega))).2.2.2.2.1
  refine hSkip ?_
  refine qSeq rfl ?_
  refine hSeq ?_
  refine hBlk ?_
  refine hSeq ?_
  refine hReg (sq 0 (sq 1 (sl 2 (sl 3 (sq 4 (sl 5 sz)))))) (by kernel_rfl) ?_
  refine mvI rfl rfl rfl ?_
  refine ixRl (zn := i) (z.getD i dN) el24 (Kn.drop (k := 4) kz) rfl rfl rfl rfl (by omega) (by omega) rfl (nth dN (by omega)) ?_
  intro be1 oe1 e1
  refine ldAl Try.isAgg88 Try.sizeOf88 (e1) trv rfl rfl rfl rfl ?_
  refine alc Try.zeroValue88 rfl trv1 rfl rfl (fun bka5 hbka5 => ?_)
  refine asI rfl rfl rfl ?_
  refine stAl (vs := [.int .i64 ((z.getD i dN).pl), .int .i64 ((z.getD i dN).p0), .int .i64 ((z.getD i dN).p1), .int .i64 ((z.getD i dN).fo), .slice ((Hz i).1) (((z.getD i dN).ch).length) ((Hz i).2)]) 0 rfl Try.sizeOf88 trv rfl rfl rfl rfl rfl (by simp [Value.oneCell']) rfl ?_
  refine rNil ?_
  refine qSeq rfl ?_
  refine hSeq ?_
  refine hReg (sq 0 (sl 1 (sl 2 (sq 3 (sl 4 sz))))) (by kernel_rfl) ?_
  refine fld fl88_4 rfl rfl rfl ?_
  refine ldl Try.isAgg28 (cB 0 rfl rfl) trv rfl rfl rfl ?_
  refine callS Try.call182 trv1 rfl rfl (fun w hs => slices_Clone_int64_int64_c _ (((z.getD i dN).ch).length) ((Hz i).2) _ w (Kn.drop (k := 5) ((Kn.imp kz fun _ h => h.kidN (nth dN (by omega)))) w hs) (by omega)) ?_
  rintro ⟨ay2, ny2, cy2, y2⟩ hr2
  dsimp only at hr2
  subst y2
  refine rKnow (fun w hs => (show OwnI 2 ay2 ny2 cy2 (((((z.getD i dN).ch)))) w from hs.at_ 0 rfl).lenz) (fun lenn6 => ?_)
  refine fld fl88_4 rfl rfl rfl ?_
  refine stl (v := .slice _ _ _) 1 rfl Try.sizeOf28 trv rfl rfl rfl rfl rfl (Nat.le_of_ble_eq_true rfl) ?_
  refine rNil ?_
  refine qSeq rfl ?_
  refine hReg (sq 0 (sl 1 (sq 2 (sl 3 (sq 4 (sl 5 sz)))))) (by kernel_rfl) ?_
  refine fld fl26_0 rfl rfl rfl ?_
  refine ldl Try.isAgg24 (cB 2 rfl rfl) trv rfl rfl rfl ?_
  refine mvI rfl rfl rfl ?_
  refine ldAl Try.isAgg88 Try.sizeOf88 (cBs 1 rfl) trv rfl rfl rfl rfl ?_
  refine oxR (zn := i) 3 rfl el24 rfl rfl rfl rfl (by omega) (by omega) rfl ?_
  intro gk3 hgk3
  refine stR (hd := (ay2, cy2)) (x := (Nd.mk ((z.getD i dN).pl) ((z.getD i dN).p0) ((z.getD i dN).p1) ((z.getD i dN).fo) (((((z.getD i dN).ch)))))) (v := .agg #[.int .i64 ((z.getD i dN).pl), .int .i64 ((z.getD i dN).p0), .int .i64 ((z.getD i dN).p1), .int .i64 ((z.getD i dN).fo), .slice ay2 ny2 cy2]) i 3 0 ndK.ok rfl rfl hgk3 Try.sizeOf88 trv rfl rfl rfl rfl rfl (fun h => by first | rfl | (dsimp only at h; rw [h]; rfl) | (rw [h]; rfl) | exact congrArg (fun m => [Value.slice _ m _]) h | (simp only [maK, List.length_replicate]; rfl)) (by omega) ?_
  refine rNil ?_
  refine qSeq rfl ?_
  refine hReg (sq 0 (sq 1 sz)) (by kernel_rfl) ?_
  refine add rfl rfl rfl rfl (by omega) ?_
  refine mvI rfl rfl rfl ?_
  refine rNil ?_
  rw [Math.fill_step dN dN lz (by omega)]
  exact qNext rfl ((i + 1, (hset hh i (ay2, cy2)))) (by dsimp only; omega) (by dsimp only; omega) ⟨rfl, rfl, rfl, rfl, rfl, trivial⟩ (fun _ h => h.pick [2, 0, 1, 1])
 ·
  replace c1 : ¬ ((i : Int) < (nz : Int)) := c1
  refine hExit rfl ?_
  refine qSeq rfl ?_
  refine hSeq ?_
  refine hReg (sl 0 (sl 1 sz)) (by kernel_rfl) ?_
  refine ldAl Try.isAgg26 Try.sizeOf26 (cBs 0 rfl) trv rfl rfl rfl rfl ?_
  refine stAl (vs := [.slice (some ⟨bkm3, 0, none⟩) nz nz]) 2 rfl Try.sizeOf26 trv rfl rfl rfl rfl rfl (by simp [Value.oneCell']) rfl ?_
  refine rNil ?_
  refine qSeq rfl ?_
  refine hRet ?_
  exact fun w hs => ⟨[_], ⟨⟨_, rfl, run_load_agg Try.isAgg26 Try.sizeOf26 rfl (cBs 2 rfl w hs)⟩, trivial⟩, ⟨((some ⟨bkm3, 0, none⟩), nz, nz, hh, (z.take i ++ List.replicate (nz - i) dN)), rfl, Math.fill_end _ lz (by omega), hs.pick [1]⟩⟩
theorem spec_l21Tree_c (az : Option Addr) (nz : Nat) (cz : Nat) (Hz : Nat → Hd) (z : List Nd) (w : World) (rz : RdR ndK az nz Hz z w) (hn : nz ≤ 1000) (hkb : Math.kidsB z) :
  Calls Try.prog 171 #[.agg #[.slice az nz cz]] w (Ret fun v w' => ∃ x : Option Addr × Nat × Nat × (Nat → Hd) × List Nd, v = .agg #[.slice x.1 x.2.1 x.2.2.1] ∧ (x.2.2.2.2 = z) ∧ Sep w none_ [OwnR ndK 88 2 x.1 x.2.1 x.2.2.1 x.2.2.2.1 x.2.2.2.2] w') := by
 have kz : Kn w none_ [] (RdR ndK az nz Hz z) := fun w' hs => rz.ext hs.upd
 have lz : z.length = nz := rz.1
 have mz : nz ≤ 9223372036854775807 := rz.2.1
 refine fn (M := none_) (rs := [.cell 2 26]) Try.func171 rfl Try.ntmps171 rfl rfl (Sep.start _ _) ?_
 refine hSeq ?_
 refine hReg (sl 0 (sl 1 sz)) (by kernel_rfl) ?_
 refine box trv1 rfl rfl rfl rfl (fun bkb1 hbkb1 => ?_)
 refine alc Try.zeroValue26 rfl trv1 rfl rfl (fun bka2 hbka2 => ?_)
 refine rNil ?_
 refine qSeq rfl ?_
 refine hSeq ?_
 refine hReg (sl 0 (sq 1 sz)) (by kernel_rfl) ?_
 refine bsl trv1 rfl rfl rfl (bsl24_0) (fun bkl3 hbkl3 => ?_)
 refine asS rfl rfl rfl ?_
 refine rNil ?_
 refine qSeq rfl ?_
 refine hSeq ?_
 refine hSeq ?_
 refine hReg (sq 0 sz) (by kernel_rfl) ?_
 refine asI rfl rfl rfl ?_
 refine rNil ?_
 refine qSeq rfl ?_
 refine hBlk ?_
 refine hPieces (fun _ h => Sep.litR ndK 88 2 (fun _ => (none, 0)) h 0 rfl) ?_
 refine hLoop (α := Nat × Nat × Hd × (Nat → Hd)) (fun x => x.1 ≤ nz ∧ x.2.1 = x.1) (fun x => nz - x.1) (fun x => [OwnR ndK 88 2 x.2.2.1.1 x.2.1 x.2.2.1.2 x.2.2.2 (z.take x.1), blk bka2 26 [.slice none 0 0], blk bkb1 26 [.slice az nz cz]]) (fun x => [(1, .pointer (some ⟨bkb1, 0, none⟩)), (2, .pointer (some ⟨bka2, 0, none⟩)), (3, .slice x.2.2.1.1 x.2.1 x.2.2.1.2), (4, .int .i64 (x.1 : Int))]) ((0, 0, (((some ⟨bkl3, 0, none⟩), 0), (fun _ => (none, 0))))) ⟨Nat.zero_le _, rfl⟩ (fun _ h => h.pick [0, 0, 0]) ⟨rfl, rfl, rfl, rfl, trivial⟩ ?_
 rintro ⟨i, q, hd⟩ τ1 ⟨hi, hq⟩
 dsimp only at hi hq
 refine hRe [(1, .pointer (some ⟨bkb1, 0, none⟩)), (2, .pointer (some ⟨bka2, 0, none⟩)), (3, .slice hd.1.1 q hd.1.2), (4, .int .i64 (i : Int))] [OwnR ndK 88 2 hd.1.1 q hd.1.2 hd.2 (z.take i), blk bka2 26 [.slice none 0 0], blk bkb1 26 [.slice az nz cz]] rfl rfl ?_
 refine hSeq ?_
 refine hSeq ?_
 refine hReg (sq 0 (sq 1 (sl 2 (sq 3 (sq 4 sz))))) (by kernel_rfl) ?_
 refine mvI rfl rfl rfl ?_
 refine fld fl26_0 rfl rfl rfl ?_
 refine ldl Try.isAgg24 (cB 2 rfl rfl) trv rfl rfl rfl ?_
 refine lenS Try.runUnderlying24 rfl rfl rfl ?_
 refine lss rfl rfl rfl rfl ?_
 refine rNil ?_
 refine qSeq rfl ?_
 refine hIfD rfl (fun c1 => ?_) (fun c1 => ?_)
 ·
  replace c1 : (i : Int) < (nz : Int) := c1
  have hch := Math.kidsB_at hkb i
  refine hSkip ?_
  refine qSeq rfl ?_
  refine hSeq ?_
  refine hBlk ?_
  refine hSeq ?_
  refine hReg (sq 0 (sl 1 (sq 2 (sq 3 (sl 4 (sl 5 (sl 6 sz))))))) (by kernel_rfl) ?_
  refine fld fl26_0 rfl rfl rfl ?_
  refine ldl Try.isAgg24 (cB 2 rfl rfl) trv rfl rfl rfl ?_
  refine mvI rfl rfl rfl ?_
  refine ixRl (zn := i) (z.getD i dN) el24 (Kn.drop (k := 3) kz) rfl rfl rfl rfl (by omega) (by omega) rfl (nth dN (by omega)) ?_
  intro be1 oe1 e1
  refine ldAl Try.isAgg88 Try.sizeOf88 (e1) trv rfl rfl rfl rfl ?_
  refine alc Try.zeroValue88 rfl trv1 rfl rfl (fun bka4 hbka4 => ?_)
  refine stAl (vs := [.int .i64 ((z.getD i dN).pl), .int .i64 ((z.getD i dN).p0), .int .i64 ((z.getD i dN).p1), .int .i64 ((z.getD i dN).fo), .slice ((Hz i).1) (((z.getD i dN).ch).length) ((Hz i).2)]) 0 rfl Try.sizeOf88 trv rfl rfl rfl rfl rfl (by simp [Value.oneCell']) rfl ?_
  refine rNil ?_
  refine qSeq rfl ?_
  refine hSeq ?_
  refine hReg (sq 0 (sl 1 (sl 2 (sq 3 (sl 4 sz))))) (by kernel_rfl) ?_
  refine fld fl88_4 rfl rfl rfl ?_
  refine ldl Try.isAgg28 (cB 0 rfl rfl) trv rfl rfl rfl ?_
  refine callS Try.call160 trv1 rfl rfl (fun w hs => spec_l01Own_c _ (((z.getD i dN).ch).length) ((Hz i).2) _ w (Kn.drop (k := 4) ((Kn.imp kz fun _ h => h.kidN (nth dN (by omega)))) w hs) (by omega)) ?_
  rintro ⟨ay2, ny2, cy2, y2⟩ hr2
  dsimp only at hr2
  subst y2
  refine rKnow (fun w hs => (show OwnI 2 ay2 ny2 cy2 (((((z.getD i dN).ch)))) w from hs.at_ 0 rfl).lenz) (fun lenn5 => ?_)
  refine fld fl88_4 rfl rfl rfl ?_
  refine stl (v := .slice _ _ _) 1 rfl Try.sizeOf28 trv rfl rfl rfl rfl rfl (Nat.le_of_ble_eq_true rfl) ?_
  refine rNil ?_
  refine qSeq rfl ?_
  refine hReg (sq 0 (sl 1 (sl 2 (sl 3 (sq 4 sz))))) (by kernel_rfl) ?_
  refine mvS rfl rfl rfl ?_
  refine ldAl Try.isAgg88 Try.sizeOf88 (cBs 1 rfl) trv rfl rfl rfl rfl ?_
  refine bsl trv1 rfl rfl rfl (bsl24_1 (.int .i64 ((z.getD i dN).pl)) (.int .i64 ((z.getD i dN).p0)) (.int .i64 ((z.getD i dN).p1)) (.int .i64 ((z.getD i dN).fo)) (.slice ay2 ny2 cy2) rfl rfl rfl rfl rfl) (fun bkl6 hbkl6 => ?_)
  refine apR (hd := (ay2, cy2)) (x := (Nd.mk ((z.getD i dN).pl) ((z.getD i dN).p0) ((z.getD i dN).p1) ((z.getD i dN).fo) (((((z.getD i dN).ch)))))) 3 1 0 ndK.ok rfl rfl rfl (fun h => by first | rfl | (dsimp only at h; rw [h]; rfl) | (rw [h]; rfl) | exact congrArg (fun m => [Value.slice _ m _]) h) mk24 trv1 rfl rfl rfl rfl (by omega) ?_
  intro aq3 cq3
  refine asS rfl rfl rfl ?_
  refine rNil ?_
  refine qSeq rfl ?_
  refine hReg (sq 0 (sq 1 (sq 2 sz))) (by kernel_rfl) ?_
  refine mvI rfl rfl rfl ?_
  refine add rfl rfl rfl rfl (by omega) ?_
  refine asI rfl rfl rfl ?_
  refine rNil ?_
  rw [Math.take_snoc dN (by omega)]
  exact qNext rfl ((i + 1, q + 1, ((aq3, cq3), (hset hd.2 (z.take i).length (ay2, cy2))))) (by dsimp only; omega) ⟨by dsimp only; omega, by dsimp only; omega⟩ ⟨rfl, rfl, rfl, rfl, trivial⟩ (fun _ h => h.pick [0, 2, 2])
 ·
  replace c1 : ¬ ((i : Int) < (nz : Int)) := c1
  refine hExit rfl ?_
  refine qSeq rfl ?_
  refine hSeq ?_
  refine hReg (sq 0 (sq 1 (sl 2 sz))) (by kernel_rfl) ?_
  refine mvS rfl rfl rfl ?_
  refine bld rfl rfl rfl (bld26_0 (.slice _ _ _) rfl) ?_
  refine stAl (vs := [.slice hd.1.1 q hd.1.2]) 1 rfl Try.sizeOf26 trv rfl rfl rfl rfl rfl (by simp [Value.oneCell']) rfl ?_
  refine rNil ?_
  refine qSeq rfl ?_
  refine hRet ?_
  exact fun w hs => ⟨[_], ⟨⟨_, rfl, run_load_agg Try.isAgg26 Try.sizeOf26 rfl (cBs 1 rfl w hs)⟩, trivial⟩, ⟨(hd.1.1, q, hd.1.2, hd.2, (z.take i)), rfl, List.take_of_length_le (by omega), hs.pick [0]⟩⟩
theorem spec_l04Order_c (x0 : Int) (y0 : Int) (w : World) :
  Calls Try.prog 170 #[.int .i64 x0, .int .i64 y0] w (Ret fun v w' => v = .int .i64 (Math.order x0 y0) ∧ Ext w w') := by
 refine fn (M := none_) (rs := [.tmp 4]) Try.func170 rfl Try.ntmps170 rfl rfl (Sep.start _ _) ?_
 refine hSeq ?_
 refine hReg (sq 0 sz) (by kernel_rfl) ?_
 refine asI rfl rfl rfl ?_
 refine rNil ?_
 refine qSeq rfl ?_
 refine hSeq ?_
 refine hBlk ?_
 refine hSeq ?_
 refine hReg (sq 0 (sq 1 (sq 2 (sq 3 sz)))) (by kernel_rfl) ?_
 refine mvI rfl rfl rfl ?_
 refine mvI rfl rfl rfl ?_
 refine lss rfl rfl rfl rfl ?_
 refine asB rfl rfl rfl ?_
 refine rNil ?_
 refine qSeq rfl ?_
 refine hIfD rfl (fun c1 => ?_) (fun c1 => ?_)
 ·
  replace c1 : x0 < y0 := c1
  refine hSeq ?_
  refine hReg (sq 0 sz) (by kernel_rfl) ?_
  refine asI rfl rfl rfl ?_
  refine rNil ?_
  refine qSeq rfl ?_
  refine hRet ?_
  exact fun w hs => ⟨[.int .i64 (-1)], ⟨rfl, trivial⟩, ⟨vI (by unfold Math.order; (repeat' split) <;> omega), hs.upd⟩⟩
 ·
  replace c1 : ¬ (x0 < y0) := c1
  refine hSeq ?_
  refine hReg (sq 0 (sq 1 (sq 2 (sq 3 sz)))) (by kernel_rfl) ?_
  refine mvI rfl rfl rfl ?_
  refine mvI rfl rfl rfl ?_
  refine gtr rfl rfl rfl rfl ?_
  refine asB rfl rfl rfl ?_
  refine rNil ?_
  refine qSeq rfl ?_
  refine hIfD rfl (fun c2 => ?_) (fun c2 => ?_)
  ·
   replace c2 : y0 < x0 := c2
   refine hSeq ?_
   refine hReg (sq 0 sz) (by kernel_rfl) ?_
   refine asI rfl rfl rfl ?_
   refine rNil ?_
   refine qSeq rfl ?_
   refine hRet ?_
   exact fun w hs => ⟨[.int .i64 1], ⟨rfl, trivial⟩, ⟨vI (by unfold Math.order; (repeat' split) <;> omega), hs.upd⟩⟩
  ·
   replace c2 : ¬ (y0 < x0) := c2
   refine hSkip ?_
   refine qSeq rfl ?_
   refine hSeq ?_
   refine hReg (sq 0 sz) (by kernel_rfl) ?_
   refine asI rfl rfl rfl ?_
   refine rNil ?_
   refine qSeq rfl ?_
   refine hRet ?_
   exact fun w hs => ⟨[.int .i64 0], ⟨rfl, trivial⟩, ⟨vI (by unfold Math.order; (repeat' split) <;> omega), hs.upd⟩⟩
set_option maxHeartbeats 2000000 in
theorem spec_l21HighCard_c (az : Option Addr) (nz : Nat) (cz : Nat) (Hz : Nat → Hd) (z : List Nd) (kk : Int) (ag : Bool) (w : World) (rz : RdR ndK az nz Hz z w) (hn : nz ≤ 1000) (hkb : Math.kidsB z) (hkk : 0 ≤ kk ∧ kk ≤ 6) :
  Calls Try.prog 128 #[.agg #[.slice az nz cz], .int .i64 kk, .bool ag] w (Ret fun v w' => ∃ x : Option Addr × Nat × Nat × (Nat → Hd) × List Nd × Option Addr × Nat × Nat × (Nat → Hd) × List (List Int) × Option Addr × Nat × Nat × (Nat → Hd) × List (List Int), v = .agg #[.slice x.1 x.2.1 x.2.2.1, .slice x.2.2.2.2.2.1 x.2.2.2.2.2.2.1 x.2.2.2.2.2.2.2.1, .slice x.2.2.2.2.2.2.2.2.2.2.1 x.2.2.2.2.2.2.2.2.2.2.2.1 x.2.2.2.2.2.2.2.2.2.2.2.2.1] ∧ (x.2.2.2.2.1 = z ∧ x.2.2.2.2.2.2.2.2.2.1 = Math.hcW kk.toNat ag kk.toNat ∧ x.2.2.2.2.2.2.2.2.2.2.2.2.2.2 = Math.hcV kk.toNat kk.toNat) ∧ Sep w none_ [OwnR ndK 88 2 x.1 x.2.1 x.2.2.1 x.2.2.2.1 x.2.2.2.2.1, OwnR maK 28 2 x.2.2.2.2.2.1 x.2.2.2.2.2.2.1 x.2.2.2.2.2.2.2.1 x.2.2.2.2.2.2.2.2.1 x.2.2.2.2.2.2.2.2.2.1, OwnR maK 28 2 x.2.2.2.2.2.2.2.2.2.2.1 x.2.2.2.2.2.2.2.2.2.2.2.1 x.2.2.2.2.2.2.2.2.2.2.2.2.1 x.2.2.2.2.2.2.2.2.2.2.2.2.2.1 x.2.2.2.2.2.2.2.2.2.2.2.2.2.2] w') := by
 have kz : Kn w none_ [] (RdR ndK az nz Hz z) := fun w' hs => rz.ext hs.upd
 have lz : z.length = nz := rz.1
 have mz : nz ≤ 9223372036854775807 := rz.2.1
 refine fn (M := none_) (rs := [.cell 6 43]) Try.func128 rfl Try.ntmps128 rfl rfl (Sep.start _ _) ?_
 refine hSeq ?_
 refine hReg (sl 0 (sl 1 sz)) (by kernel_rfl) ?_
 refine box trv1 rfl rfl rfl rfl (fun bkb1 hbkb1 => ?_)
 refine alc Try.zeroValue43 rfl trv1 rfl rfl (fun bka2 hbka2 => ?_)
 refine rNil ?_
 refine qSeq rfl ?_
 refine hSeq ?_
 refine hReg (sl 0 (sl 1 (sq 2 (sq 3 sz)))) (by kernel_rfl) ?_
 refine bsl trv1 rfl rfl rfl (bsl41_0) (fun bkl3 hbkl3 => ?_)
 refine bsl trv1 rfl rfl rfl (bsl41_0) (fun bkl4 hbkl4 => ?_)
 refine asS rfl rfl rfl ?_
 refine asS rfl rfl rfl ?_
 refine rNil ?_
 refine qSeq rfl ?_
 refine hSeq ?_
 refine hSeq ?_
 refine hReg (sq 0 sz) (by kernel_rfl) ?_
 refine asI rfl rfl rfl ?_
 refine rNil ?_
 refine qSeq rfl ?_
 refine hBlk ?_
 refine hPieces (fun _ h => Sep.litR maK 28 2 (fun _ => (none, 0)) h 1 rfl) ?_
 refine hPieces (fun _ h => Sep.litR maK 28 2 (fun _ => (none, 0)) h 0 rfl) ?_
 refine hLoop (α := Nat × Nat × (Hd × (Nat → Hd)) × (Hd × (Nat → Hd))) (fun x => (x.1 : Int) ≤ kk ∧ x.2.1 = x.1) (fun x => kk.toNat - x.1) (fun x => [OwnR maK 28 2 x.2.2.2.1.1 x.2.1 x.2.2.2.1.2 x.2.2.2.2 (Math.hcV kk.toNat x.1), OwnR maK 28 2 x.2.2.1.1.1 x.2.1 x.2.2.1.1.2 x.2.2.1.2 (Math.hcW kk.toNat ag x.1), blk bka2 43 [.slice none 0 0, .slice none 0 0, .slice none 0 0], blk bkb1 26 [.slice az nz cz]]) (fun x => [(1, .int .i64 kk), (2, .bool ag), (3, .pointer (some ⟨bkb1, 0, none⟩)), (6, .pointer (some ⟨bka2, 0, none⟩)), (7, .slice x.2.2.1.1.1 x.2.1 x.2.2.1.1.2), (8, .slice x.2.2.2.1.1 x.2.1 x.2.2.2.1.2), (9, .int .i64 (x.1 : Int))]) ((0, 0, (((some ⟨bkl3, 0, none⟩), 0), (fun _ => (none, 0))), (((some ⟨bkl4, 0, none⟩), 0), (fun _ => (none, 0))))) ⟨by dsimp only; omega, rfl⟩ (fun _ h => h.pick [0, 0, 0, 0]) ⟨rfl, rfl, rfl, rfl, rfl, rfl, rfl, trivial⟩ ?_
 rintro ⟨i, q, hd, he⟩ τ1 ⟨hi, hq⟩
 dsimp only at hi hq
 refine hRe [(1, .int .i64 kk), (2, .bool ag), (3, .pointer (some ⟨bkb1, 0, none⟩)), (6, .pointer (some ⟨bka2, 0, none⟩)), (7, .slice hd.1.1 q hd.1.2), (8, .slice he.1.1 q he.1.2), (9, .int .i64 (i : Int))] [OwnR maK 28 2 he.1.1 q he.1.2 he.2 (Math.hcV kk.toNat i), OwnR maK 28 2 hd.1.1 q hd.1.2 hd.2 (Math.hcW kk.toNat ag i), blk bka2 43 [.slice none 0 0, .slice none 0 0, .slice none 0 0], blk bkb1 26 [.slice az nz cz]] rfl rfl ?_
 refine hSeq ?_
 refine hSeq ?_
 refine hReg (sq 0 (sq 1 (sq 2 sz))) (by kernel_rfl) ?_
 refine mvI rfl rfl rfl ?_
 refine mvI rfl rfl rfl ?_
 refine lss rfl rfl rfl rfl ?_
 refine rNil ?_
 refine qSeq rfl ?_
 refine hIfD rfl (fun c1 => ?_) (fun c1 => ?_)
 ·
  replace c1 : (i : Int) < kk := c1
  refine hSkip ?_
  refine qSeq rfl ?_
  refine hSeq ?_
  refine hBlk ?_
  refine hSeq ?_
  refine hReg (sl 0 (sl 1 (sq 2 (sq 3 sz)))) (by kernel_rfl) ?_
  refine bsl trv1 rfl rfl rfl (bsl28_0) (fun bkl5 hbkl5 => ?_)
  refine bsl trv1 rfl rfl rfl (bsl28_0) (fun bkl6 hbkl6 => ?_)
  refine asS rfl rfl rfl ?_
  refine asS rfl rfl rfl ?_
  refine rNil ?_
  refine qSeq rfl ?_
  refine hSeq ?_
  refine hSeq ?_
  refine hReg (sq 0 sz) (by kernel_rfl) ?_
  refine asI rfl rfl rfl ?_
  refine rNil ?_
  refine qSeq rfl ?_
  refine hBlk ?_
  refine hPieces (fun _ h => Sep.litI h 1 [] rfl rfl rfl) ?_
  refine hPieces (fun _ h => Sep.litI h 0 [] rfl rfl rfl) ?_
  refine hLoop (α := Nat × Nat × Hd × Hd) (fun x => (x.1 : Int) ≤ kk ∧ x.2.1 = x.1) (fun x => kk.toNat - x.1) (fun x => [OwnI 2 x.2.2.2.1 x.2.1 x.2.2.2.2 ((Math.mapR (fun b => Math.order (i : Int) (b : Int)) x.1)), OwnI 2 x.2.2.1.1 x.2.1 x.2.2.1.2 ((Math.mapR (Math.hcCell ag i) x.1)), OwnR maK 28 2 he.1.1 q he.1.2 he.2 (Math.hcV kk.toNat i), OwnR maK 28 2 hd.1.1 q hd.1.2 hd.2 (Math.hcW kk.toNat ag i), blk bka2 43 [.slice none 0 0, .slice none 0 0, .slice none 0 0], blk bkb1 26 [.slice az nz cz]]) (fun x => [(1, .int .i64 kk), (2, .bool ag), (3, .pointer (some ⟨bkb1, 0, none⟩)), (6, .pointer (some ⟨bka2, 0, none⟩)), (7, .slice hd.1.1 q hd.1.2), (8, .slice he.1.1 q he.1.2), (9, .int .i64 (i : Int)), (10, .slice x.2.2.1.1 x.2.1 x.2.2.1.2), (11, .slice x.2.2.2.1 x.2.1 x.2.2.2.2), (12, .int .i64 (x.1 : Int))]) ((0, 0, ((some ⟨bkl5, 0, none⟩), 0), ((some ⟨bkl6, 0, none⟩), 0))) ⟨by dsimp only; omega, rfl⟩ (fun _ h => h.pick [0, 0, 0, 0, 0, 0]) ⟨rfl, rfl, rfl, rfl, rfl, rfl, rfl, rfl, rfl, rfl, trivial⟩ ?_
  rintro ⟨j, q2, h3, h4⟩ τ2 ⟨hj, hq2⟩
  dsimp only at hj hq2
  refine hRe [(1, .int .i64 kk), (2, .bool ag), (3, .pointer (some ⟨bkb1, 0, none⟩)), (6, .pointer (some ⟨bka2, 0, none⟩)), (7, .slice hd.1.1 q hd.1.2), (8, .slice he.1.1 q he.1.2), (9, .int .i64 (i : Int)), (10, .slice h3.1 q2 h3.2), (11, .slice h4.1 q2 h4.2), (12, .int .i64 (j : Int))] [OwnI 2 h4.1 q2 h4.2 ((Math.mapR (fun b => Math.order (i : Int) (b : Int)) j)), OwnI 2 h3.1 q2 h3.2 ((Math.mapR (Math.hcCell ag i) j)), OwnR maK 28 2 he.1.1 q he.1.2 he.2 (Math.hcV kk.toNat i), OwnR maK 28 2 hd.1.1 q hd.1.2 hd.2 (Math.hcW kk.toNat ag i), blk bka2 43 [.slice none 0 0, .slice none 0 0, .slice none 0 0], blk bkb1 26 [.slice az nz cz]] rfl rfl ?_
  refine hSeq ?_
  refine hSeq ?_
  refine hReg (sq 0 (sq 1 (sq 2 sz))) (by kernel_rfl) ?_
  refine mvI rfl rfl rfl ?_
  refine mvI rfl rfl rfl ?_
  refine lss rfl rfl rfl rfl ?_
  refine rNil ?_
  refine qSeq rfl ?_
  refine hIfD rfl (fun c2 => ?_) (fun c2 => ?_)
  ·
   replace c2 : (j : Int) < kk := c2
   refine hSkip ?_
   refine qSeq rfl ?_
   refine hSeq ?_
   refine hBlk ?_
   refine hSeq ?_
   refine hSeq ?_
   refine hReg (sq 0 (sq 1 (sq 2 (sq 3 (sq 4 (sq 5 (sq 6 sz))))))) (by kernel_rfl) ?_
   refine mvI rfl rfl rfl ?_
   refine mvI rfl rfl rfl ?_
   refine eql rfl rfl rfl rfl ?_
   refine mvB rfl rfl rfl ?_
   refine rBoolD (d := 30) rfl (fun g3 => ?_) (fun g3 => ?_)
   ·
    replace g3 : (i : Int) = (j : Int) := g3
    refine mvB rfl rfl rfl ?_
    refine not rfl rfl rfl ?_
    refine pickB rfl rfl rfl rfl ?_
    refine rNil ?_
    refine qSeq rfl ?_
    refine hIfN rfl (fun c4 => ?_) (fun c4 => ?_)
    ·
     replace c4 : ag = false := c4
     refine hReg (sq 0 (sl 1 (sl 2 (sq 3 sz)))) (by kernel_rfl) ?_
     refine mvS rfl rfl rfl ?_
     refine bsl trv1 rfl rfl rfl (bsl28_1 (.int .i64 _) rfl) (fun bkl7 hbkl7 => ?_)
     refine aplI (N := q2) (x := 0) 2 0 rfl rfl mk28 trv1 rfl rfl rfl rfl (by omega) ?_
     intro aq1 cq1
     refine asS rfl rfl rfl ?_
     refine rNil ?_
     refine qSeq rfl ?_
     refine hReg (sq 0 (sq 1 (sq 2 (sl 3 (sl 4 (sl 5 (sq 6 sz))))))) (by kernel_rfl) ?_
     refine mvS rfl rfl rfl ?_
     refine mvI rfl rfl rfl ?_
     refine mvI rfl rfl rfl ?_
     refine callP (v := .int .i64 ((Math.order (i : Int) (j : Int)))) Try.call170 trv rfl rfl (fun w hs => spec_l04Order_c _ _ w ) ?_
     refine bsl trv1 rfl rfl rfl (bsl28_1 (.int .i64 _) rfl) (fun bkl8 hbkl8 => ?_)
     refine aplI (N := q2) (x := (Math.order (i : Int) (j : Int))) 2 0 rfl rfl mk28 trv1 rfl rfl rfl rfl (by omega) ?_
     intro aq2 cq2
     refine asS rfl rfl rfl ?_
     refine rNil ?_
     refine qSeq rfl ?_
     refine hReg (sq 0 (sq 1 (sq 2 sz))) (by kernel_rfl) ?_
     refine mvI rfl rfl rfl ?_
     refine add rfl rfl rfl rfl (by omega) ?_
     refine asI rfl rfl rfl ?_
     refine rNil ?_
     rw [Math.hcRow_add0 g3 (by simpa using c4), show Math.mapR (fun b => Math.order (i : Int) (b : Int)) j ++ [Math.order (i : Int) (j : Int)] = Math.mapR (fun b => Math.order (i : Int) (b : Int)) (j + 1) from Math.mapR_snoc (fun b => Math.order (i : Int) (b : Int)) j]
     exact qNext rfl ((j + 1, q2 + 1, (aq1, cq1), (aq2, cq2))) (by dsimp only; omega) ⟨by dsimp only; omega, by dsimp only; omega⟩ ⟨rfl, rfl, rfl, rfl, rfl, rfl, rfl, rfl, rfl, rfl, trivial⟩ (fun _ h => h.pick [2, 2, 2, 2, 2, 2])
    ·
     replace c4 : ag = true := c4
     refine hReg (sq 0 (sl 1 (sl 2 (sq 3 sz)))) (by kernel_rfl) ?_
     refine mvS rfl rfl rfl ?_
     refine bsl trv1 rfl rfl rfl (bsl28_1 (.int .i64 _) rfl) (fun bkl9 hbkl9 => ?_)
     refine aplI (N := q2) (x := 1) 2 0 rfl rfl mk28 trv1 rfl rfl rfl rfl (by omega) ?_
     intro aq3 cq3
     refine asS rfl rfl rfl ?_
     refine rNil ?_
     refine qSeq rfl ?_
     refine hReg (sq 0 (sq 1 (sq 2 (sl 3 (sl 4 (sl 5 (sq 6 sz))))))) (by kernel_rfl) ?_
     refine mvS rfl rfl rfl ?_
     refine mvI rfl rfl rfl ?_
     refine mvI rfl rfl rfl ?_
     refine callP (v := .int .i64 ((Math.order (i : Int) (j : Int)))) Try.call170 trv rfl rfl (fun w hs => spec_l04Order_c _ _ w ) ?_
     refine bsl trv1 rfl rfl rfl (bsl28_1 (.int .i64 _) rfl) (fun bkl10 hbkl10 => ?_)
     refine aplI (N := q2) (x := (Math.order (i : Int) (j : Int))) 2 0 rfl rfl mk28 trv1 rfl rfl rfl rfl (by omega) ?_
     intro aq4 cq4
     refine asS rfl rfl rfl ?_
     refine rNil ?_
     refine qSeq rfl ?_
     refine hReg (sq 0 (sq 1 (sq 2 sz))) (by kernel_rfl) ?_
     refine mvI rfl rfl rfl ?_
     refine add rfl rfl rfl rfl (by omega) ?_
     refine asI rfl rfl rfl ?_
     refine rNil ?_
     rw [Math.hcRow_add2 (by simpa using c4), show Math.mapR (fun b => Math.order (i : Int) (b : Int)) j ++ [Math.order (i : Int) (j : Int)] = Math.mapR (fun b => Math.order (i : Int) (b : Int)) (j + 1) from Math.mapR_snoc (fun b => Math.order (i : Int) (b : Int)) j]
     exact qNext rfl ((j + 1, q2 + 1, (aq3, cq3), (aq4, cq4))) (by dsimp only; omega) ⟨by dsimp only; omega, by dsimp only; omega⟩ ⟨rfl, rfl, rfl, rfl, rfl, rfl, rfl, rfl, rfl, rfl, trivial⟩ (fun _ h => h.pick [2, 2, 2, 2, 2, 2])
   ·
    replace g3 : ¬ ((i : Int) = (j : Int)) := g3
    refine rSkipQ rfl rfl ?_
    refine rSkipQ rfl rfl ?_
    refine pickB rfl rfl rfl rfl ?_
    refine rNil ?_
    refine qSeq rfl ?_
    refine hIfF rfl ?_
    refine hReg (sq 0 (sl 1 (sl 2 (sq 3 sz)))) (by kernel_rfl) ?_
    refine mvS rfl rfl rfl ?_
    refine bsl trv1 rfl rfl rfl (bsl28_1 (.int .i64 _) rfl) (fun bkl11 hbkl11 => ?_)
    refine aplI (N := q2) (x := 1) 2 0 rfl rfl mk28 trv1 rfl rfl rfl rfl (by omega) ?_
    intro aq5 cq5
    refine asS rfl rfl rfl ?_
    refine rNil ?_
    refine qSeq rfl ?_
    refine hReg (sq 0 (sq 1 (sq 2 (sl 3 (sl 4 (sl 5 (sq 6 sz))))))) (by kernel_rfl) ?_
    refine mvS rfl rfl rfl ?_
    refine mvI rfl rfl rfl ?_
    refine mvI rfl rfl rfl ?_
    refine callP (v := .int .i64 ((Math.order (i : Int) (j : Int)))) Try.call170 trv rfl rfl (fun w hs => spec_l04Order_c _ _ w ) ?_
    refine bsl trv1 rfl rfl rfl (bsl28_1 (.int .i64 _) rfl) (fun bkl12 hbkl12 => ?_)
    refine aplI (N := q2) (x := (Math.order (i : Int) (j : Int))) 2 0 rfl rfl mk28 trv1 rfl rfl rfl rfl (by omega) ?_
    intro aq6 cq6
    refine asS rfl rfl rfl ?_
    refine rNil ?_
    refine qSeq rfl ?_
    refine hReg (sq 0 (sq 1 (sq 2 sz))) (by kernel_rfl) ?_
    refine mvI rfl rfl rfl ?_
    refine add rfl rfl rfl rfl (by omega) ?_
    refine asI rfl rfl rfl ?_
    refine rNil ?_
    rw [Math.hcRow_add1 g3, show Math.mapR (fun b => Math.order (i : Int) (b : Int)) j ++ [Math.order (i : Int) (j : Int)] = Math.mapR (fun b => Math.order (i : Int) (b : Int)) (j + 1) from Math.mapR_snoc (fun b => Math.order (i : Int) (b : Int)) j]
    exact qNext rfl ((j + 1, q2 + 1, (aq5, cq5), (aq6, cq6))) (by dsimp only; omega) ⟨by dsimp only; omega, by dsimp only; omega⟩ ⟨rfl, rfl, rfl, rfl, rfl, rfl, rfl, rfl, rfl, rfl, trivial⟩ (fun _ h => h.pick [2, 2, 2, 2, 2, 2])
  ·
   replace c2 : ¬ ((j : Int) < kk) := c2
   refine hExit rfl ?_
   refine qSeq rfl ?_
   refine hSeq ?_
   refine hReg (sq 0 (sq 1 (sl 2 (sl 3 (sq 4 sz))))) (by kernel_rfl) ?_
   refine mvS rfl rfl rfl ?_
   refine mvS rfl rfl rfl ?_
   refine bsl trv1 rfl rfl rfl (bsl41_1 (.slice _ _ _) rfl) (fun bkl13 hbkl13 => ?_)
   refine apR (hd := (h3.1, h3.2)) (x := (Math.mapR (Math.hcCell ag i) j)) 4 2 0 maK.ok rfl rfl rfl (fun h => by first | rfl | (dsimp only at h; rw [h]; rfl) | (rw [h]; rfl) | exact congrArg (fun m => [Value.slice _ m _]) h) mk41 trv1 rfl rfl rfl rfl (by omega) ?_
   intro aq7 cq7
   refine asS rfl rfl rfl ?_
   refine rNil ?_
   refine qSeq rfl ?_
   refine hReg (sq 0 (sq 1 (sl 2 (sl 3 (sq 4 sz))))) (by kernel_rfl) ?_
   refine mvS rfl rfl rfl ?_
   refine mvS rfl rfl rfl ?_
   refine bsl trv1 rfl rfl rfl (bsl41_1 (.slice _ _ _) rfl) (fun bkl14 hbkl14 => ?_)
   refine apR (hd := (h4.1, h4.2)) (x := (Math.mapR (fun b => Math.order (i : Int) (b : Int)) j)) 4 3 0 maK.ok rfl rfl rfl (fun h => by first | rfl | (dsimp only at h; rw [h]; rfl) | (rw [h]; rfl) | exact congrArg (fun m => [Value.slice _ m _]) h) mk41 trv1 rfl rfl rfl rfl (by omega) ?_
   intro aq8 cq8
   refine asS rfl rfl rfl ?_
   refine rNil ?_
   refine qSeq rfl ?_
   refine hReg (sq 0 (sq 1 (sq 2 sz))) (by kernel_rfl) ?_
   refine mvI rfl rfl rfl ?_
   refine add rfl rfl rfl rfl (by omega) ?_
   refine asI rfl rfl rfl ?_
   refine rNil ?_
   rw [show Math.mapR (Math.hcCell ag i) j = Math.hcRow kk.toNat ag i from by unfold Math.hcRow; congr 1; omega, show Math.mapR (fun b => Math.order (i : Int) (b : Int)) j = Math.hcWin kk.toNat i from by unfold Math.hcWin; congr 1; omega, show Math.hcW kk.toNat ag i ++ [Math.hcRow kk.toNat ag i] = Math.hcW kk.toNat ag (i + 1) from Math.mapR_snoc _ _, show Math.hcV kk.toNat i ++ [Math.hcWin kk.toNat i] = Math.hcV kk.toNat (i + 1) from Math.mapR_snoc _ _]
   exact qNext rfl ((i + 1, q + 1, ((aq7, cq7), (hset hd.2 (Math.hcW kk.toNat ag i).length (h3.1, h3.2))), ((aq8, cq8), (hset he.2 (Math.hcV kk.toNat i).length (h4.1, h4.2))))) (by dsimp only; omega) ⟨by dsimp only; omega, by dsimp only; omega⟩ ⟨rfl, rfl, rfl, rfl, rfl, rfl, rfl, trivial⟩ (fun _ h => h.pick [0, 1, 2, 2])
 ·
  replace c1 : ¬ ((i : Int) < kk) := c1
  refine hExit rfl ?_
  refine qSeq rfl ?_
  refine hSeq ?_
  refine hReg (sl 0 (sl 1 (sq 2 (sq 3 (sq 4 (sl 5 sz)))))) (by kernel_rfl) ?_
  refine ldAl Try.isAgg26 Try.sizeOf26 (cBs 3 rfl) trv rfl rfl rfl rfl ?_
  refine callS Try.call171 trv1 rfl rfl (fun w hs => spec_l21Tree_c _ nz cz _ _ w (Kn.drop (k := 4) kz w hs) (by first | omega | (have := Math.tree_len (by assumption : Math.isTree _ = true); omega)) (by first | assumption | exact (by assumption : _ ∧ Math.kidsB _).2 | exact Math.tree_kids (by assumption))) ?_
  rintro ⟨ay9, ny9, cy9, Hy9, y9⟩ hr9
  dsimp only at hr9
  subst y9
  refine rKnow (fun w hs => (show OwnR ndK 88 2 ay9 ny9 cy9 Hy9 z w from hs.at_ 0 rfl).1) (fun lenn15 => ?_)
  refine mvS rfl rfl rfl ?_
  refine mvS rfl rfl rfl ?_
  refine bld rfl rfl rfl (bld43_0_1_2 (.slice ay9 ny9 cy9) (.slice _ _ _) (.slice _ _ _) rfl rfl rfl) ?_
  refine stAl (vs := [.slice ay9 ny9 cy9, .slice hd.1.1 q hd.1.2, .slice he.1.1 q he.1.2]) 3 rfl Try.sizeOf43 trv rfl rfl rfl rfl rfl (by simp [Value.oneCell']) rfl ?_
  refine rNil ?_
  refine qSeq rfl ?_
  refine hRet ?_
  exact fun w hs => ⟨[_], ⟨⟨_, rfl, run_load_agg Try.isAgg43 Try.sizeOf43 rfl (cBs 3 rfl w hs)⟩, trivial⟩, ⟨(ay9, ny9, cy9, Hy9, z, hd.1.1, q, hd.1.2, hd.2, (Math.hcW kk.toNat ag i), he.1.1, q, he.1.2, he.2, (Math.hcV kk.toNat i)), rfl, ⟨rfl, by rw [show i = kk.toNat from by omega], by rw [show i = kk.toNat from by omega]⟩, hs.pick [0, 1, 0]⟩⟩
end Go.Proofs.Ytjengglpbdgmnaa
