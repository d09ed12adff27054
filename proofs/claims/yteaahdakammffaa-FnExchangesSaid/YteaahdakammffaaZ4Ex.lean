/- Contracts of the reference: lists that are sorted, images. Their conditions stand in each. -/
import Derived.Test.YteaahdakammffaaZ3Ex
import Derived.Test.YteaahdakammffaaZ1Ex
import Derived.Test.YteaahdakammffaaZ2Ex
import Derived.Test.YteaahdakammffaaRows
import Derived.ChangeKeysEq
namespace Go.Proofs.Yteaahdakammffaa
open Go Go.RowKit V
set_option linter.unusedVariables false
set_option linter.unusedSimpArgs false
set_option maxRecDepth 100000
theorem bsl22_0   : ∀ w, (Instr.buildSlice 22 0 ([] : List (Nat × Value)).toArray).run Try.prog w = .ok (.slice (some ⟨w.heap.size, 0, none⟩) 0 0) (w.alloc (.cells ([] : List Value).toArray 23)) := by
 intro w; simp [Instr.buildSlice, Instr.fill, Try.zeroValue23, Try.runUnderlying22, Try.sizeOf23, Value.cells_int, newRow, show Array.range 0 = #[] from by decide]
theorem bsl22_1 (v0 : Value) (h0 : v0.cells = #[v0]) : ∀ w, (Instr.buildSlice 22 1 ([(0, v0)] : List (Nat × Value)).toArray).run Try.prog w = .ok (.slice (some ⟨w.heap.size, 0, none⟩) 1 1) (w.alloc (.cells ([v0] : List Value).toArray 23)) := by
 intro w; simp [Instr.buildSlice, Instr.fill, Try.zeroValue23, Try.runUnderlying22, Try.sizeOf23, Value.cells_int, newRow, show Array.range 1 = #[0] from by decide, h0]
theorem bsl23_0   : ∀ w, (Instr.buildSlice 23 0 ([] : List (Nat × Value)).toArray).run Try.prog w = .ok (.slice (some ⟨w.heap.size, 0, none⟩) 0 0) (w.alloc (.cells ([] : List Value).toArray 2)) := by
 intro w; simp [Instr.buildSlice, Instr.fill, Try.zeroValue2, Try.runUnderlying23, Try.sizeOf2, Value.cells_int, newRow, show Array.range 0 = #[] from by decide]
theorem bsl23_4 (v0 v1 v2 v3 : Value) (h0 : v0.cells = #[v0]) (h1 : v1.cells = #[v1]) (h2 : v2.cells = #[v2]) (h3 : v3.cells = #[v3]) : ∀ w, (Instr.buildSlice 23 4 ([(0, v0), (1, v1), (2, v2), (3, v3)] : List (Nat × Value)).toArray).run Try.prog w = .ok (.slice (some ⟨w.heap.size, 0, none⟩) 4 4) (w.alloc (.cells ([v0, v1, v2, v3] : List Value).toArray 2)) := by
 intro w; simp [Instr.buildSlice, Instr.fill, Try.zeroValue2, Try.runUnderlying23, Try.sizeOf2, Value.cells_int, newRow, show Array.range 4 = #[0, 1, 2, 3] from by decide, h0, h1, h2, h3]
theorem spec_l07Suits_c (w : World) :
  Calls Try.prog 86 #[] w (Ret fun v w' => ∃ x : Option Addr × Nat × Nat × (Nat → Hd) × List (List Int), v = .slice x.1 x.2.1 x.2.2.1 ∧ (x.2.2.2.2 = Iso.orders) ∧ Sep w none_ [OwnR maK 23 2 x.1 x.2.1 x.2.2.1 x.2.2.2.1 x.2.2.2.2] w') := by
 refine fn (M := none_) (rs := [.tmp 0]) Try.func86 rfl Try.ntmps86 rfl rfl (Sep.start _ _) ?_
 refine hSeq ?_
 refine hReg (sq 0 sz) (by kernel_rfl) ?_
 refine asS rfl rfl rfl ?_
 refine rNil ?_
 refine qSeq rfl ?_
 refine hSeq ?_
 refine hReg (sl 0 (sq 1 sz)) (by kernel_rfl) ?_
 refine bsl trv1 rfl rfl rfl (bsl22_0) (fun bkl1 hbkl1 => ?_)
 refine asS rfl rfl rfl ?_
 refine rNil ?_
 refine qSeq rfl ?_
 refine hSeq ?_
 refine hSeq ?_
 refine hReg (sq 0 sz) (by kernel_rfl) ?_
 refine asI rfl rfl rfl ?_
 refine rNil ?_
 refine qSeq rfl ?_
 refine hBlk ?_
 refine hPieces (fun _ h => Sep.litR maK 23 2 (fun _ => (none, 0)) h 0 rfl) ?_
 refine hLoop (α := Nat × Nat × Hd × (Nat → Hd)) (fun x => x.1 ≤ 256 ∧ x.2.1 ≤ x.1) (fun x => 256 - x.1) (fun x => [OwnR maK 23 2 x.2.2.1.1 x.2.1 x.2.2.1.2 x.2.2.2 (Iso.ords x.1)]) (fun x => [(1, .slice x.2.2.1.1 x.2.1 x.2.2.1.2), (2, .int .i64 (x.1 : Int))]) ((0, 0, (((some ⟨bkl1, 0, none⟩), 0), (fun _ => (none, 0))))) ⟨Nat.zero_le _, Nat.le_refl _⟩ (fun _ h => h.pick [0]) ⟨rfl, rfl, trivial⟩ ?_
 rintro ⟨k, q, hd⟩ τ1 ⟨hk, hq⟩
 dsimp only at hk hq
 refine hRe [(1, .slice hd.1.1 q hd.1.2), (2, .int .i64 (k : Int))] [OwnR maK 23 2 hd.1.1 q hd.1.2 hd.2 (Iso.ords k)] rfl rfl ?_
 refine hSeq ?_
 refine hSeq ?_
 refine hReg (sq 0 (sq 1 sz)) (by kernel_rfl) ?_
 refine mvI rfl rfl rfl ?_
 refine lss rfl rfl rfl rfl ?_
 refine rNil ?_
 refine qSeq rfl ?_
 refine hIfD rfl (fun c1 => ?_) (fun c1 => ?_)
 ·
  replace c1 : (k : Int) < 256 := c1
  refine hSkip ?_
  refine qSeq rfl ?_
  refine hSeq ?_
  refine hBlk ?_
  refine hSeq ?_
  refine hReg (sq 0 (sq 1 (sq 2 (sq 3 (sq 4 (sq 5 (sq 6 (sq 7 (sq 8 (sq 9 (sl 10 (sq 11 sz)))))))))))) (by kernel_rfl) ?_
  refine mvI rfl rfl rfl ?_
  refine quo rfl rfl rfl rfl (by omega) ?_
  refine mvI rfl rfl rfl ?_
  refine quo rfl rfl rfl rfl (by omega) ?_
  refine rem rfl rfl rfl rfl (by omega) ?_
  refine mvI rfl rfl rfl ?_
  refine quo rfl rfl rfl rfl (by omega) ?_
  refine rem rfl rfl rfl rfl (by omega) ?_
  refine mvI rfl rfl rfl ?_
  refine rem rfl rfl rfl rfl (by omega) ?_
  refine bsl trv1 rfl rfl rfl (bsl23_4 (.int .i64 _) (.int .i64 _) (.int .i64 _) (.int .i64 _) rfl rfl rfl rfl) (fun bkl2 hbkl2 => ?_)
  refine asS rfl rfl rfl ?_
  refine rNil ?_
  refine qSeq rfl ?_
  refine hSeq ?_
  refine hDraw (Ls := [blk bkl2 2 [.int .i64 (((k : Int) / 64)), .int .i64 (((((k : Int) / 16)) % 4)), .int .i64 (((((k : Int) / 4)) % 4)), .int .i64 (((k : Int) % 4))]]) (by kernel_rfl) (sq 0 (sq 1 (sq 2 (sq 3 (sq 4 (sq 5 (sq 6 (sq 7 (sq 8 (sq 9 (sq 10 (sq 11 (sq 12 (sq 13 (sq 14 (sq 15 (sq 16 (sq 17 (sq 18 (sq 19 (sq 20 (sq 21 (sq 22 (sq 23 (sq 24 (sq 25 (sq 26 (sq 27 (sq 28 (sq 29 (sq 30 (sq 31 (sq 32 (sq 33 (sq 34 (sq 35 (sq 36 (sq 37 (sq 38 (sq 39 (sq 40 (sq 41 (sq 42 (sq 43 (sq 44 (sq 45 (sq 46 (sq 47 (sq 48 (sq 49 (sq 50 (sq 51 sz)))))))))))))))))))))))))))))))))))))))))))))))))))) (by kernel_rfl) (.cons_cons _ (.cons _ .slnil)) ?_
  refine mvS rfl rfl rfl ?_
  refine ixIq (zn := 0) el23 ((Kn.at_ 0 rfl).imp fun _ h => RdI.lit (zs := [((k : Int) / 64), ((((k : Int) / 16)) % 4), ((((k : Int) / 4)) % 4), ((k : Int) % 4)]) (n := 4) h rfl rfl rfl) (fun _ h => h.pick [0]) rfl rfl rfl rfl (by omega) (by omega) rfl ?_
  intro ae1 e1
  refine ldq Try.isAgg2 (e1) rfl rfl rfl ?_
  refine mvS rfl rfl rfl ?_
  refine ixIq (zn := 1) el23 ((Kn.at_ 0 rfl).imp fun _ h => RdI.lit (zs := [((k : Int) / 64), ((((k : Int) / 16)) % 4), ((((k : Int) / 4)) % 4), ((k : Int) % 4)]) (n := 4) h rfl rfl rfl) (fun _ h => h.pick [0]) rfl rfl rfl rfl (by omega) (by omega) rfl ?_
  intro ae2 e2
  refine ldq Try.isAgg2 (e2) rfl rfl rfl ?_
  refine neq rfl rfl rfl rfl ?_
  refine mvB rfl rfl rfl ?_
  refine rBoolD (d := 27) rfl (fun g2 => ?_) (fun g2 => ?_)
  ·
   replace g2 : ([((k : Int) / 64), ((((k : Int) / 16)) % 4), ((((k : Int) / 4)) % 4), ((k : Int) % 4)].getD 0 0) ≠ ([((k : Int) / 64), ((((k : Int) / 16)) % 4), ((((k : Int) / 4)) % 4), ((k : Int) % 4)].getD 1 0) := g2
   refine mvS rfl rfl rfl ?_
   refine ixIq (zn := 0) el23 ((Kn.at_ 0 rfl).imp fun _ h => RdI.lit (zs := [((k : Int) / 64), ((((k : Int) / 16)) % 4), ((((k : Int) / 4)) % 4), ((k : Int) % 4)]) (n := 4) h rfl rfl rfl) (fun _ h => h.pick [0]) rfl rfl rfl rfl (by omega) (by omega) rfl ?_
   intro ae3 e3
   refine ldq Try.isAgg2 (e3) rfl rfl rfl ?_
   refine mvS rfl rfl rfl ?_
   refine ixIq (zn := 2) el23 ((Kn.at_ 0 rfl).imp fun _ h => RdI.lit (zs := [((k : Int) / 64), ((((k : Int) / 16)) % 4), ((((k : Int) / 4)) % 4), ((k : Int) % 4)]) (n := 4) h rfl rfl rfl) (fun _ h => h.pick [0]) rfl rfl rfl rfl (by omega) (by omega) rfl ?_
   intro ae4 e4
   refine ldq Try.isAgg2 (e4) rfl rfl rfl ?_
   refine neq rfl rfl rfl rfl ?_
   refine pickB rfl rfl rfl rfl ?_
   refine mvB rfl rfl rfl ?_
   refine rBoolD (d := 36) rfl (fun g3 => ?_) (fun g3 => ?_)
   ·
    replace g3 : ([((k : Int) / 64), ((((k : Int) / 16)) % 4), ((((k : Int) / 4)) % 4), ((k : Int) % 4)].getD 0 0) ≠ ([((k : Int) / 64), ((((k : Int) / 16)) % 4), ((((k : Int) / 4)) % 4), ((k : Int) % 4)].getD 2 0) := g3
    refine mvS rfl rfl rfl ?_
    refine ixIq (zn := 0) el23 ((Kn.at_ 0 rfl).imp fun _ h => RdI.lit (zs := [((k : Int) / 64), ((((k : Int) / 16)) % 4), ((((k : Int) / 4)) % 4), ((k : Int) % 4)]) (n := 4) h rfl rfl rfl) (fun _ h => h.pick [0]) rfl rfl rfl rfl (by omega) (by omega) rfl ?_
    intro ae5 e5
    refine ldq Try.isAgg2 (e5) rfl rfl rfl ?_
    refine mvS rfl rfl rfl ?_
    refine ixIq (zn := 3) el23 ((Kn.at_ 0 rfl).imp fun _ h => RdI.lit (zs := [((k : Int) / 64), ((((k : Int) / 16)) % 4), ((((k : Int) / 4)) % 4), ((k : Int) % 4)]) (n := 4) h rfl rfl rfl) (fun _ h => h.pick [0]) rfl rfl rfl rfl (by omega) (by omega) rfl ?_
    intro ae6 e6
    refine ldq Try.isAgg2 (e6) rfl rfl rfl ?_
    refine neq rfl rfl rfl rfl ?_
    refine pickB rfl rfl rfl rfl ?_
    refine mvB rfl rfl rfl ?_
    refine rBoolD (d := 45) rfl (fun g4 => ?_) (fun g4 => ?_)
    ·
     replace g4 : ([((k : Int) / 64), ((((k : Int) / 16)) % 4), ((((k : Int) / 4)) % 4), ((k : Int) % 4)].getD 0 0) ≠ ([((k : Int) / 64), ((((k : Int) / 16)) % 4), ((((k : Int) / 4)) % 4), ((k : Int) % 4)].getD 3 0) := g4
     refine mvS rfl rfl rfl ?_
     refine ixIq (zn := 1) el23 ((Kn.at_ 0 rfl).imp fun _ h => RdI.lit (zs := [((k : Int) / 64), ((((k : Int) / 16)) % 4), ((((k : Int) / 4)) % 4), ((k : Int) % 4)]) (n := 4) h rfl rfl rfl) (fun _ h => h.pick [0]) rfl rfl rfl rfl (by omega) (by omega) rfl ?_
     intro ae7 e7
     refine ldq Try.isAgg2 (e7) rfl rfl rfl ?_
     refine mvS rfl rfl rfl ?_
     refine ixIq (zn := 2) el23 ((Kn.at_ 0 rfl).imp fun _ h => RdI.lit (zs := [((k : Int) / 64), ((((k : Int) / 16)) % 4), ((((k : Int) / 4)) % 4), ((k : Int) % 4)]) (n := 4) h rfl rfl rfl) (fun _ h => h.pick [0]) rfl rfl rfl rfl (by omega) (by omega) rfl ?_
     intro ae8 e8
     refine ldq Try.isAgg2 (e8) rfl rfl rfl ?_
     refine neq rfl rfl rfl rfl ?_
     refine pickB rfl rfl rfl rfl ?_
     refine mvB rfl rfl rfl ?_
     refine rBoolD (d := 54) rfl (fun g5 => ?_) (fun g5 => ?_)
     ·
      replace g5 : ([((k : Int) / 64), ((((k : Int) / 16)) % 4), ((((k : Int) / 4)) % 4), ((k : Int) % 4)].getD 1 0) ≠ ([((k : Int) / 64), ((((k : Int) / 16)) % 4), ((((k : Int) / 4)) % 4), ((k : Int) % 4)].getD 2 0) := g5
      refine mvS rfl rfl rfl ?_
      refine ixIq (zn := 1) el23 ((Kn.at_ 0 rfl).imp fun _ h => RdI.lit (zs := [((k : Int) / 64), ((((k : Int) / 16)) % 4), ((((k : Int) / 4)) % 4), ((k : Int) % 4)]) (n := 4) h rfl rfl rfl) (fun _ h => h.pick [0]) rfl rfl rfl rfl (by omega) (by omega) rfl ?_
      intro ae9 e9
      refine ldq Try.isAgg2 (e9) rfl rfl rfl ?_
      refine mvS rfl rfl rfl ?_
      refine ixIq (zn := 3) el23 ((Kn.at_ 0 rfl).imp fun _ h => RdI.lit (zs := [((k : Int) / 64), ((((k : Int) / 16)) % 4), ((((k : Int) / 4)) % 4), ((k : Int) % 4)]) (n := 4) h rfl rfl rfl) (fun _ h => h.pick [0]) rfl rfl rfl rfl (by omega) (by omega) rfl ?_
      intro ae10 e10
      refine ldq Try.isAgg2 (e10) rfl rfl rfl ?_
      refine neq rfl rfl rfl rfl ?_
      refine pickB rfl rfl rfl rfl ?_
      refine mvB rfl rfl rfl ?_
      refine rBoolD (d := 63) rfl (fun g6 => ?_) (fun g6 => ?_)
      ·
       replace g6 : ([((k : Int) / 64), ((((k : Int) / 16)) % 4), ((((k : Int) / 4)) % 4), ((k : Int) % 4)].getD 1 0) ≠ ([((k : Int) / 64), ((((k : Int) / 16)) % 4), ((((k : Int) / 4)) % 4), ((k : Int) % 4)].getD 3 0) := g6
       refine mvS rfl rfl rfl ?_
       refine ixIq (zn := 2) el23 ((Kn.at_ 0 rfl).imp fun _ h => RdI.lit (zs := [((k : Int) / 64), ((((k : Int) / 16)) % 4), ((((k : Int) / 4)) % 4), ((k : Int) % 4)]) (n := 4) h rfl rfl rfl) (fun _ h => h.pick [0]) rfl rfl rfl rfl (by omega) (by omega) rfl ?_
       intro ae11 e11
       refine ldq Try.isAgg2 (e11) rfl rfl rfl ?_
       refine mvS rfl rfl rfl ?_
       refine ixIq (zn := 3) el23 ((Kn.at_ 0 rfl).imp fun _ h => RdI.lit (zs := [((k : Int) / 64), ((((k : Int) / 16)) % 4), ((((k : Int) / 4)) % 4), ((k : Int) % 4)]) (n := 4) h rfl rfl rfl) (fun _ h => h.pick [0]) rfl rfl rfl rfl (by omega) (by omega) rfl ?_
       intro ae12 e12
       refine ldq Try.isAgg2 (e12) rfl rfl rfl ?_
       refine neq rfl rfl rfl rfl ?_
       refine pickB rfl rfl rfl rfl ?_
       refine rNil ?_
       refine qSeq rfl ?_
       refine hIfD rfl (fun c7 => ?_) (fun c7 => ?_)
       ·
        replace c7 : ([((k : Int) / 64), ((((k : Int) / 16)) % 4), ((((k : Int) / 4)) % 4), ((k : Int) % 4)].getD 2 0) ≠ ([((k : Int) / 64), ((((k : Int) / 16)) % 4), ((((k : Int) / 4)) % 4), ((k : Int) % 4)].getD 3 0) := c7
        refine hReg (sq 0 (sq 1 (sl 2 (sl 3 (sq 4 sz))))) (by kernel_rfl) ?_
        refine mvS rfl rfl rfl ?_
        refine mvS rfl rfl rfl ?_
        refine bsl trv1 rfl rfl rfl (bsl22_1 (.slice _ _ _) rfl) (fun bkl3 hbkl3 => ?_)
        refine rPieces (fun _ h => Sep.litI h 1 [((k : Int) / 64), ((((k : Int) / 16)) % 4), ((((k : Int) / 4)) % 4), ((k : Int) % 4)] rfl rfl rfl) ?_
        refine apR (hd := ((some ⟨bkl2, 0, none⟩), 4)) (x := [((k : Int) / 64), ((((k : Int) / 16)) % 4), ((((k : Int) / 4)) % 4), ((k : Int) % 4)]) 2 1 0 maK.ok rfl rfl rfl (fun h => by first | rfl | (dsimp only at h; rw [h]; rfl) | (rw [h]; rfl) | exact congrArg (fun m => [Value.slice _ m _]) h) mk22 trv1 rfl rfl rfl rfl (by omega) ?_
        intro aq13 cq13
        refine asS rfl rfl rfl ?_
        refine rNil ?_
        refine qSeq rfl ?_
        refine hReg (sq 0 (sq 1 (sq 2 sz))) (by kernel_rfl) ?_
        refine mvI rfl rfl rfl ?_
        refine add rfl rfl rfl rfl (by omega) ?_
        refine asI rfl rfl rfl ?_
        refine rNil ?_
        rw [show ((Iso.ords k) ++ [[((k : Int) / 64), ((((k : Int) / 16)) % 4), ((((k : Int) / 4)) % 4), ((k : Int) % 4)]]) = Iso.ords (k + 1) from (Iso.ords_yes (decide_eq_true ⟨g2, g3, g4, g5, g6, c7⟩)).symm]
        exact qNext rfl ((k + 1, (q + 1), ((aq13, cq13), (hset hd.2 (Iso.ords k).length ((some ⟨bkl2, 0, none⟩), 4))))) (by dsimp only; omega) ⟨by dsimp only; omega, by dsimp only; omega⟩ ⟨rfl, rfl, trivial⟩ (fun _ h => h.pick [0])
       ·
        replace c7 : ¬ (([((k : Int) / 64), ((((k : Int) / 16)) % 4), ((((k : Int) / 4)) % 4), ((k : Int) % 4)].getD 2 0) ≠ ([((k : Int) / 64), ((((k : Int) / 16)) % 4), ((((k : Int) / 4)) % 4), ((k : Int) % 4)].getD 3 0)) := c7
        refine hSkip ?_
        refine qSeq rfl ?_
        refine hReg (sq 0 (sq 1 (sq 2 sz))) (by kernel_rfl) ?_
        refine mvI rfl rfl rfl ?_
        refine add rfl rfl rfl rfl (by omega) ?_
        refine asI rfl rfl rfl ?_
        refine rNil ?_
        rw [← Iso.ords_no (k := k) (decide_eq_false fun h => c7 h.2.2.2.2.2)]
        exact qNext rfl ((k + 1, q, ((hd.1.1, hd.1.2), hd.2))) (by dsimp only; omega) ⟨by dsimp only; omega, by dsimp only; omega⟩ ⟨rfl, rfl, trivial⟩ (fun _ h => h.pick [1])
      ·
       replace g6 : ¬ (([((k : Int) / 64), ((((k : Int) / 16)) % 4), ((((k : Int) / 4)) % 4), ((k : Int) % 4)].getD 1 0) ≠ ([((k : Int) / 64), ((((k : Int) / 16)) % 4), ((((k : Int) / 4)) % 4), ((k : Int) % 4)].getD 3 0)) := g6
       refine rSkipQ rfl rfl ?_
       refine rSkipQ rfl rfl ?_
       refine rSkipQ rfl rfl ?_
       refine rSkipQ rfl rfl ?_
       refine rSkipQ rfl rfl ?_
       refine rSkipQ rfl rfl ?_
       refine rSkipQ rfl rfl ?_
       refine pickB rfl rfl rfl rfl ?_
       refine rNil ?_
       refine qSeq rfl ?_
       refine hIfF rfl ?_
       refine hSkip ?_
       refine qSeq rfl ?_
       refine hReg (sq 0 (sq 1 (sq 2 sz))) (by kernel_rfl) ?_
       refine mvI rfl rfl rfl ?_
       refine add rfl rfl rfl rfl (by omega) ?_
       refine asI rfl rfl rfl ?_
       refine rNil ?_
       rw [← Iso.ords_no (k := k) (decide_eq_false fun h => g6 h.2.2.2.2.1)]
       exact qNext rfl ((k + 1, q, ((hd.1.1, hd.1.2), hd.2))) (by dsimp only; omega) ⟨by dsimp only; omega, by dsimp only; omega⟩ ⟨rfl, rfl, trivial⟩ (fun _ h => h.pick [1])
     ·
      replace g5 : ¬ (([((k : Int) / 64), ((((k : Int) / 16)) % 4), ((((k : Int) / 4)) % 4), ((k : Int) % 4)].getD 1 0) ≠ ([((k : Int) / 64), ((((k : Int) / 16)) % 4), ((((k : Int) / 4)) % 4), ((k : Int) % 4)].getD 2 0)) := g5
      refine rSkipQ rfl rfl ?_
      refine rSkipQ rfl rfl ?_
      refine rSkipQ rfl rfl ?_
      refine rSkipQ rfl rfl ?_
      refine rSkipQ rfl rfl ?_
      refine rSkipQ rfl rfl ?_
      refine rSkipQ rfl rfl ?_
      refine pickB rfl rfl rfl rfl ?_
      refine mvB rfl rfl rfl ?_
      refine rSkipQ rfl rfl ?_
      refine rSkipQ rfl rfl ?_
      refine rSkipQ rfl rfl ?_
      refine rSkipQ rfl rfl ?_
      refine rSkipQ rfl rfl ?_
      refine rSkipQ rfl rfl ?_
      refine rSkipQ rfl rfl ?_
      refine pickB rfl rfl rfl rfl ?_
      refine rNil ?_
      refine qSeq rfl ?_
      refine hIfF rfl ?_
      refine hSkip ?_
      refine qSeq rfl ?_
      refine hReg (sq 0 (sq 1 (sq 2 sz))) (by kernel_rfl) ?_
      refine mvI rfl rfl rfl ?_
      refine add rfl rfl rfl rfl (by omega) ?_
      refine asI rfl rfl rfl ?_
      refine rNil ?_
      rw [← Iso.ords_no (k := k) (decide_eq_false fun h => g5 h.2.2.2.1)]
      exact qNext rfl ((k + 1, q, ((hd.1.1, hd.1.2), hd.2))) (by dsimp only; omega) ⟨by dsimp only; omega, by dsimp only; omega⟩ ⟨rfl, rfl, trivial⟩ (fun _ h => h.pick [1])
    ·
     replace g4 : ¬ (([((k : Int) / 64), ((((k : Int) / 16)) % 4), ((((k : Int) / 4)) % 4), ((k : Int) % 4)].getD 0 0) ≠ ([((k : Int) / 64), ((((k : Int) / 16)) % 4), ((((k : Int) / 4)) % 4), ((k : Int) % 4)].getD 3 0)) := g4
     refine rSkipQ rfl rfl ?_
     refine rSkipQ rfl rfl ?_
     refine rSkipQ rfl rfl ?_
     refine rSkipQ rfl rfl ?_
     refine rSkipQ rfl rfl ?_
     refine rSkipQ rfl rfl ?_
     refine rSkipQ rfl rfl ?_
     refine pickB rfl rfl rfl rfl ?_
     refine mvB rfl rfl rfl ?_
     refine rSkipQ rfl rfl ?_
     refine rSkipQ rfl rfl ?_
     refine rSkipQ rfl rfl ?_
     refine rSkipQ rfl rfl ?_
     refine rSkipQ rfl rfl ?_
     refine rSkipQ rfl rfl ?_
     refine rSkipQ rfl rfl ?_
     refine pickB rfl rfl rfl rfl ?_
     refine mvB rfl rfl rfl ?_
     refine rSkipQ rfl rfl ?_
     refine rSkipQ rfl rfl ?_
     refine rSkipQ rfl rfl ?_
     refine rSkipQ rfl rfl ?_
     refine rSkipQ rfl rfl ?_
     refine rSkipQ rfl rfl ?_
     refine rSkipQ rfl rfl ?_
     refine pickB rfl rfl rfl rfl ?_
     refine rNil ?_
     refine qSeq rfl ?_
     refine hIfF rfl ?_
     refine hSkip ?_
     refine qSeq rfl ?_
     refine hReg (sq 0 (sq 1 (sq 2 sz))) (by kernel_rfl) ?_
     refine mvI rfl rfl rfl ?_
     refine add rfl rfl rfl rfl (by omega) ?_
     refine asI rfl rfl rfl ?_
     refine rNil ?_
     rw [← Iso.ords_no (k := k) (decide_eq_false fun h => g4 h.2.2.1)]
     exact qNext rfl ((k + 1, q, ((hd.1.1, hd.1.2), hd.2))) (by dsimp only; omega) ⟨by dsimp only; omega, by dsimp only; omega⟩ ⟨rfl, rfl, trivial⟩ (fun _ h => h.pick [1])
   ·
    replace g3 : ¬ (([((k : Int) / 64), ((((k : Int) / 16)) % 4), ((((k : Int) / 4)) % 4), ((k : Int) % 4)].getD 0 0) ≠ ([((k : Int) / 64), ((((k : Int) / 16)) % 4), ((((k : Int) / 4)) % 4), ((k : Int) % 4)].getD 2 0)) := g3
    refine rSkipQ rfl rfl ?_
    refine rSkipQ rfl rfl ?_
    refine rSkipQ rfl rfl ?_
    refine rSkipQ rfl rfl ?_
    refine rSkipQ rfl rfl ?_
    refine rSkipQ rfl rfl ?_
    refine rSkipQ rfl rfl ?_
    refine pickB rfl rfl rfl rfl ?_
    refine mvB rfl rfl rfl ?_
    refine rSkipQ rfl rfl ?_
    refine rSkipQ rfl rfl ?_
    refine rSkipQ rfl rfl ?_
    refine rSkipQ rfl rfl ?_
    refine rSkipQ rfl rfl ?_
    refine rSkipQ rfl rfl ?_
    refine rSkipQ rfl rfl ?_
    refine pickB rfl rfl rfl rfl ?_
    refine mvB rfl rfl rfl ?_
    refine rSkipQ rfl rfl ?_
    refine rSkipQ rfl rfl ?_
    refine rSkipQ rfl rfl ?_
    refine rSkipQ rfl rfl ?_
    refine rSkipQ rfl rfl ?_
    refine rSkipQ rfl rfl ?_
    refine rSkipQ rfl rfl ?_
    refine pickB rfl rfl rfl rfl ?_
    refine mvB rfl rfl rfl ?_
    refine rSkipQ rfl rfl ?_
    refine rSkipQ rfl rfl ?_
    refine rSkipQ rfl rfl ?_
    refine rSkipQ rfl rfl ?_
    refine rSkipQ rfl rfl ?_
    refine rSkipQ rfl rfl ?_
    refine rSkipQ rfl rfl ?_
    refine pickB rfl rfl rfl rfl ?_
    refine rNil ?_
    refine qSeq rfl ?_
    refine hIfF rfl ?_
    refine hSkip ?_
    refine qSeq rfl ?_
    refine hReg (sq 0 (sq 1 (sq 2 sz))) (by kernel_rfl) ?_
    refine mvI rfl rfl rfl ?_
    refine add rfl rfl rfl rfl (by omega) ?_
    refine asI rfl rfl rfl ?_
    refine rNil ?_
    rw [← Iso.ords_no (k := k) (decide_eq_false fun h => g3 h.2.1)]
    exact qNext rfl ((k + 1, q, ((hd.1.1, hd.1.2), hd.2))) (by dsimp only; omega) ⟨by dsimp only; omega, by dsimp only; omega⟩ ⟨rfl, rfl, trivial⟩ (fun _ h => h.pick [1])
  ·
   replace g2 : ¬ (([((k : Int) / 64), ((((k : Int) / 16)) % 4), ((((k : Int) / 4)) % 4), ((k : Int) % 4)].getD 0 0) ≠ ([((k : Int) / 64), ((((k : Int) / 16)) % 4), ((((k : Int) / 4)) % 4), ((k : Int) % 4)].getD 1 0)) := g2
   refine rSkipQ rfl rfl ?_
   refine rSkipQ rfl rfl ?_
   refine rSkipQ rfl rfl ?_
   refine rSkipQ rfl rfl ?_
   refine rSkipQ rfl rfl ?_
   refine rSkipQ rfl rfl ?_
   refine rSkipQ rfl rfl ?_
   refine pickB rfl rfl rfl rfl ?_
   refine mvB rfl rfl rfl ?_
   refine rSkipQ rfl rfl ?_
   refine rSkipQ rfl rfl ?_
   refine rSkipQ rfl rfl ?_
   refine rSkipQ rfl rfl ?_
   refine rSkipQ rfl rfl ?_
   refine rSkipQ rfl rfl ?_
   refine rSkipQ rfl rfl ?_
   refine pickB rfl rfl rfl rfl ?_
   refine mvB rfl rfl rfl ?_
   refine rSkipQ rfl rfl ?_
   refine rSkipQ rfl rfl ?_
   refine rSkipQ rfl rfl ?_
   refine rSkipQ rfl rfl ?_
   refine rSkipQ rfl rfl ?_
   refine rSkipQ rfl rfl ?_
   refine rSkipQ rfl rfl ?_
   refine pickB rfl rfl rfl rfl ?_
   refine mvB rfl rfl rfl ?_
   refine rSkipQ rfl rfl ?_
   refine rSkipQ rfl rfl ?_
   refine rSkipQ rfl rfl ?_
   refine rSkipQ rfl rfl ?_
   refine rSkipQ rfl rfl ?_
   refine rSkipQ rfl rfl ?_
   refine rSkipQ rfl rfl ?_
   refine pickB rfl rfl rfl rfl ?_
   refine mvB rfl rfl rfl ?_
   refine rSkipQ rfl rfl ?_
   refine rSkipQ rfl rfl ?_
   refine rSkipQ rfl rfl ?_
   refine rSkipQ rfl rfl ?_
   refine rSkipQ rfl rfl ?_
   refine rSkipQ rfl rfl ?_
   refine rSkipQ rfl rfl ?_
   refine pickB rfl rfl rfl rfl ?_
   refine rNil ?_
   refine qSeq rfl ?_
   refine hIfF rfl ?_
   refine hSkip ?_
   refine qSeq rfl ?_
   refine hReg (sq 0 (sq 1 (sq 2 sz))) (by kernel_rfl) ?_
   refine mvI rfl rfl rfl ?_
   refine add rfl rfl rfl rfl (by omega) ?_
   refine asI rfl rfl rfl ?_
   refine rNil ?_
   rw [← Iso.ords_no (k := k) (decide_eq_false fun h => g2 h.1)]
   exact qNext rfl ((k + 1, q, ((hd.1.1, hd.1.2), hd.2))) (by dsimp only; omega) ⟨by dsimp only; omega, by dsimp only; omega⟩ ⟨rfl, rfl, trivial⟩ (fun _ h => h.pick [1])
 ·
  replace c1 : ¬ ((k : Int) < 256) := c1
  refine hExit rfl ?_
  refine qSeq rfl ?_
  refine hSeq ?_
  refine hReg (sq 0 (sq 1 sz)) (by kernel_rfl) ?_
  refine mvS rfl rfl rfl ?_
  refine asS rfl rfl rfl ?_
  refine rNil ?_
  refine qSeq rfl ?_
  refine hRet ?_
  exact fun w hs => ⟨[.slice hd.1.1 q hd.1.2], ⟨rfl, trivial⟩, ⟨(hd.1.1, q, hd.1.2, hd.2, (Iso.ords k)), rfl, by rw [show k = 256 by omega]; rfl, hs.pick [0]⟩⟩
theorem spec_l18Take_c (c : Int) (ap : Option Addr) (np : Nat) (cp : Nat) (p : List Int) (w : World) (rp : RdI ap np p w) (hc : 0 ≤ c ∧ c ≤ 51) (hp : Iso.isP p) :
  Calls Try.prog 123 #[.int .i64 c, .slice ap np cp] w (Ret fun v w' => v = .int .i64 (Iso.take4 p c) ∧ Ext w w') := by
 have kp : Kn w none_ [] (RdI ap np p) := fun w' hs => rp.ext hs.upd
 have lp : p.length = np := rp.1
 have mp : np ≤ 9223372036854775807 := rp.2.1
 have hp4 := hp.1
 have hpx := hp.2 (c % 4).toNat
 refine fn (M := none_) (rs := [.tmp 4]) Try.func123 rfl Try.ntmps123 rfl rfl (Sep.start _ _) ?_
 refine hSeq ?_
 refine hReg (sq 0 sz) (by kernel_rfl) ?_
 refine asI rfl rfl rfl ?_
 refine rNil ?_
 refine qSeq rfl ?_
 refine hSeq ?_
 refine hReg (sq 0 (sq 1 (sq 2 (sq 3 (sq 4 (sq 5 (sq 6 (sl 7 (sq 8 (sq 9 sz)))))))))) (by kernel_rfl) ?_
 refine mvI rfl rfl rfl ?_
 refine quo rfl rfl rfl rfl (by omega) ?_
 refine mul rfl rfl rfl rfl (by omega) ?_
 refine mvS rfl rfl rfl ?_
 refine mvI rfl rfl rfl ?_
 refine rem rfl rfl rfl rfl (by omega) ?_
 refine ixIl (zn := ((c % 4)).toNat) el23 (kp) rfl rfl rfl rfl (by omega) (by omega) rfl ?_
 intro ae1 e1
 refine ldl Try.isAgg2 (e1) trv rfl rfl rfl ?_
 refine add rfl rfl rfl rfl (by omega) ?_
 refine asI rfl rfl rfl ?_
 refine rNil ?_
 refine qSeq rfl ?_
 refine hRet ?_
 exact fun w hs => ⟨[.int .i64 ((((c / 4) * 4) + (p.getD (((c % 4)).toNat) 0)))], ⟨rfl, trivial⟩, ⟨by first | rfl | exact bD (by omega) | exact bT (by omega) | exact bF (by omega) | exact vI (by omega), hs.upd⟩⟩
theorem spec_l18Image_c (az : Option Addr) (nz : Nat) (cz : Nat) (z : List Int) (ap : Option Addr) (np : Nat) (cp : Nat) (p : List Int) (w : World) (rz : RdI az nz z w) (rp : RdI ap np p w) (hz : ∀ x ∈ z, 0 ≤ x ∧ x ≤ 51) (hl : z.length ≤ 52) (hp : Iso.isP p) :
  Calls Try.prog 79 #[.slice az nz cz, .slice ap np cp] w (Ret fun v w' => ∃ x : Option Addr × Nat × Nat × List Int, v = .slice x.1 x.2.1 x.2.2.1 ∧ (x.2.2.2 = (Iso.image4 p z) ∧ x.2.1 = nz) ∧ Sep w none_ [OwnI 2 x.1 x.2.1 x.2.2.1 x.2.2.2] w') := by
 have kz : Kn w none_ [] (RdI az nz z) := fun w' hs => rz.ext hs.upd
 have lz : z.length = nz := rz.1
 have mz : nz ≤ 9223372036854775807 := rz.2.1
 have kp : Kn w none_ [] (RdI ap np p) := fun w' hs => rp.ext hs.upd
 have lp : p.length = np := rp.1
 have mp : np ≤ 9223372036854775807 := rp.2.1
 refine fn (M := none_) (rs := [.tmp 4]) Try.func79 rfl Try.ntmps79 rfl rfl (Sep.start _ _) ?_
 refine hSeq ?_
 refine hReg (sq 0 sz) (by kernel_rfl) ?_
 refine asS rfl rfl rfl ?_
 refine rNil ?_
 refine qSeq rfl ?_
 refine hSeq ?_
 refine hReg (sl 0 (sq 1 sz)) (by kernel_rfl) ?_
 refine bsl trv1 rfl rfl rfl (bsl23_0) (fun bkl1 hbkl1 => ?_)
 refine asS rfl rfl rfl ?_
 refine rNil ?_
 refine qSeq rfl ?_
 refine hSeq ?_
 refine hSeq ?_
 refine hReg (sq 0 sz) (by kernel_rfl) ?_
 refine asI rfl rfl rfl ?_
 refine rNil ?_
 refine qSeq rfl ?_
 refine hBlk ?_
 refine hPieces (fun _ h => Sep.litI h 0 [] rfl rfl rfl) ?_
 refine hLoop (α := Nat × Nat × Hd) (fun x => x.1 ≤ nz ∧ x.2.1 = x.1) (fun x => nz - x.1) (fun x => [OwnI 2 x.2.2.1 x.2.1 x.2.2.2 ((Iso.image4 p (z.take x.1)))]) (fun x => [(0, .slice az nz cz), (1, .slice ap np cp), (5, .slice x.2.2.1 x.2.1 x.2.2.2), (6, .int .i64 (x.1 : Int))]) ((0, 0, ((some ⟨bkl1, 0, none⟩), 0))) ⟨Nat.zero_le _, rfl⟩ (fun _ h => h.pick [0]) ⟨rfl, rfl, rfl, rfl, trivial⟩ ?_
 rintro ⟨i, q, hd⟩ τ1 ⟨hi, hq⟩
 dsimp only at hi hq
 refine hRe [(0, .slice az nz cz), (1, .slice ap np cp), (5, .slice hd.1 q hd.2), (6, .int .i64 (i : Int))] [OwnI 2 hd.1 q hd.2 ((Iso.image4 p (z.take i)))] rfl rfl ?_
 refine hSeq ?_
 refine hSeq ?_
 refine hReg (sq 0 (sq 1 (sq 2 (sq 3 sz)))) (by kernel_rfl) ?_
 refine mvI rfl rfl rfl ?_
 refine mvS rfl rfl rfl ?_
 refine lenS Try.runUnderlying23 rfl rfl rfl ?_
 refine lss rfl rfl rfl rfl ?_
 refine rNil ?_
 refine qSeq rfl ?_
 refine hIfD rfl (fun c1 => ?_) (fun c1 => ?_)
 ·
  replace c1 : (i : Int) < (nz : Int) := c1
  have hx := hz _ (Math.getD_mem 0 (show i < z.length by omega))
  refine hSkip ?_
  refine qSeq rfl ?_
  refine hSeq ?_
  refine hBlk ?_
  refine hReg (sq 0 (sq 1 (sq 2 (sq 3 (sl 4 (sq 5 (sl 6 (sl 7 (sl 8 (sq 9 sz)))))))))) (by kernel_rfl) ?_
  refine mvS rfl rfl rfl ?_
  refine mvS rfl rfl rfl ?_
  refine mvI rfl rfl rfl ?_
  refine ixIl (zn := i) el23 (Kn.drop (k := 1) kz) rfl rfl rfl rfl (by omega) (by omega) rfl ?_
  intro ae1 e1
  refine ldl Try.isAgg2 (e1) trv rfl rfl rfl ?_
  refine mvS rfl rfl rfl ?_
  refine callP (v := .int .i64 ((Iso.take4 p (z.getD i 0)))) Try.call123 trv rfl rfl (fun w hs => spec_l18Take_c _ _ np cp _ w (Kn.drop (k := 1) kp w hs) (by omega) (by assumption)) ?_
  refine bsl trv1 rfl rfl rfl (bsl23_1 (.int .i64 _) rfl) (fun bkl2 hbkl2 => ?_)
  refine aplI (N := q) (x := (Iso.take4 p (z.getD i 0))) 1 0 rfl rfl mk23 trv1 rfl rfl rfl rfl (by omega) ?_
  intro aq2 cq2
  refine asS rfl rfl rfl ?_
  refine rNil ?_
  refine qSeq rfl ?_
  refine hReg (sq 0 (sq 1 (sq 2 sz))) (by kernel_rfl) ?_
  refine mvI rfl rfl rfl ?_
  refine add rfl rfl rfl rfl (by omega) ?_
  refine asI rfl rfl rfl ?_
  refine rNil ?_
  rw [Iso.image4_snoc (by omega)]
  exact qNext rfl ((i + 1, (q + 1), (aq2, cq2))) (by dsimp only; omega) ⟨by dsimp only; omega, by dsimp only; omega⟩ ⟨rfl, rfl, rfl, rfl, trivial⟩ (fun _ h => h.pick [1])
 ·
  replace c1 : ¬ ((i : Int) < (nz : Int)) := c1
  refine hExit rfl ?_
  refine qSeq rfl ?_
  refine hSeq ?_
  refine hReg (sq 0 (sq 1 sz)) (by kernel_rfl) ?_
  refine mvS rfl rfl rfl ?_
  refine asS rfl rfl rfl ?_
  refine rNil ?_
  refine qSeq rfl ?_
  refine hRet ?_
  exact fun w hs => ⟨[.slice hd.1 q hd.2], ⟨rfl, trivial⟩, ⟨(hd.1, q, hd.2, (Iso.image4 p (z.take i))), rfl, ⟨by rw [List.take_of_length_le (by omega)], by dsimp only; omega⟩, hs.pick [0]⟩⟩
theorem spec_l02Sorted_c (az : Option Addr) (nz : Nat) (cz : Nat) (z : List Int) (w : World) (rz : RdI az nz z w) (hl : z.length ≤ 1000000) :
  Calls Try.prog 130 #[.slice az nz cz] w (Ret fun v w' => ∃ x : Option Addr × Nat × Nat × List Int, v = .slice x.1 x.2.1 x.2.2.1 ∧ (x.2.2.2 = srt z ∧ x.2.1 = nz) ∧ Sep w none_ [OwnI 2 x.1 x.2.1 x.2.2.1 x.2.2.2] w') := by
 have kz : Kn w none_ [] (RdI az nz z) := fun w' hs => rz.ext hs.upd
 have lz : z.length = nz := rz.1
 have mz : nz ≤ 9223372036854775807 := rz.2.1
 refine fn (M := none_) (rs := [.tmp 2]) Try.func130 rfl Try.ntmps130 rfl rfl (Sep.start _ _) ?_
 refine hSeq ?_
 refine hReg (sq 0 sz) (by kernel_rfl) ?_
 refine asS rfl rfl rfl ?_
 refine rNil ?_
 refine qSeq rfl ?_
 refine hSeq ?_
 refine hReg (sl 0 (sq 1 sz)) (by kernel_rfl) ?_
 refine bsl trv1 rfl rfl rfl (bsl23_0) (fun bkl1 hbkl1 => ?_)
 refine asS rfl rfl rfl ?_
 refine rNil ?_
 refine qSeq rfl ?_
 refine hSeq ?_
 refine hSeq ?_
 refine hReg (sq 0 sz) (by kernel_rfl) ?_
 refine asI rfl rfl rfl ?_
 refine rNil ?_
 refine qSeq rfl ?_
 refine hBlk ?_
 refine hPieces (fun _ h => Sep.litI h 0 [] rfl rfl rfl) ?_
 refine hLoop (α := Nat × Nat × Hd × List Int) (fun x => x.1 ≤ nz ∧ x.2.1 = x.1 ∧ x.2.2.2 = srt (z.take x.1)) (fun x => nz - x.1) (fun x => [OwnI 2 x.2.2.1.1 x.2.1 x.2.2.1.2 x.2.2.2]) (fun x => [(0, .slice az nz cz), (3, .slice x.2.2.1.1 x.2.1 x.2.2.1.2), (4, .int .i64 (x.1 : Int))]) ((0, 0, ((some ⟨bkl1, 0, none⟩), 0), [])) ⟨Nat.zero_le _, rfl, srt_nil.symm⟩ (fun _ h => h.pick [0]) ⟨rfl, rfl, rfl, trivial⟩ ?_
 rintro ⟨i, q, hd, r⟩ τ1 ⟨hi, hq, hr⟩
 dsimp only at hi hq hr
 refine hRe [(0, .slice az nz cz), (3, .slice hd.1 q hd.2), (4, .int .i64 (i : Int))] [OwnI 2 hd.1 q hd.2 r] rfl rfl ?_
 refine hSeq ?_
 refine hSeq ?_
 refine hReg (sq 0 (sq 1 (sq 2 (sq 3 sz)))) (by kernel_rfl) ?_
 refine mvI rfl rfl rfl ?_
 refine mvS rfl rfl rfl ?_
 refine lenS Try.runUnderlying23 rfl rfl rfl ?_
 refine lss rfl rfl rfl rfl ?_
 refine rNil ?_
 refine qSeq rfl ?_
 refine hIfD rfl (fun c1 => ?_) (fun c1 => ?_)
 ·
  replace c1 : (i : Int) < (nz : Int) := c1
  have hsl : r.length = i := by rw [hr, srt_len, List.length_take]; omega
  refine hSkip ?_
  refine qSeq rfl ?_
  refine hSeq ?_
  refine hBlk ?_
  refine hSeq ?_
  refine hReg (sq 0 sz) (by kernel_rfl) ?_
  refine asI rfl rfl rfl ?_
  refine rNil ?_
  refine qSeq rfl ?_
  refine hSeq ?_
  refine hBlk ?_
  refine hLoop (α := Nat) (fun k => k ≤ q ∧ ∀ j, j < k → j < r.length → r.getD j 0 ≤ z.getD i 0) (fun k => q - k) (fun k => [OwnI 2 hd.1 q hd.2 r]) (fun k => [(0, .slice az nz cz), (3, .slice hd.1 q hd.2), (4, .int .i64 (i : Int)), (5, .int .i64 (k : Int))]) 0 ⟨Nat.zero_le _, fun j hj => by omega⟩ (fun _ h => h.pick [0]) ⟨rfl, rfl, rfl, rfl, trivial⟩ ?_
  rintro k τ2 ⟨hk, hlo⟩
  refine hSeq ?_
  refine hSeq ?_
  refine hDraw (Ls := [OwnI 2 hd.1 q hd.2 r]) (by kernel_rfl) (sq 0 (sq 1 (sq 2 (sq 3 (sq 4 (sq 5 (sq 6 (sq 7 (sq 8 (sq 9 (sq 10 (sq 11 (sq 12 (sq 13 (sq 14 sz))))))))))))))) (by kernel_rfl) (.cons_cons _ .slnil) ?_
  refine mvI rfl rfl rfl ?_
  refine mvS rfl rfl rfl ?_
  refine lenS Try.runUnderlying23 rfl rfl rfl ?_
  refine lss rfl rfl rfl rfl ?_
  refine mvB rfl rfl rfl ?_
  refine rBoolD (d := 17) rfl (fun g2 => ?_) (fun g2 => ?_)
  ·
   replace g2 : (k : Int) < (q : Int) := g2
   refine mvS rfl rfl rfl ?_
   refine mvI rfl rfl rfl ?_
   refine ixIq (zn := k) el23 ((Kn.at_ 0 rfl).imp fun _ h => OwnI.rd h) (fun _ h => h.pick [0]) rfl rfl rfl rfl (by omega) (by omega) rfl ?_
   intro ae1 e1
   refine ldq Try.isAgg2 (e1) rfl rfl rfl ?_
   refine mvS rfl rfl rfl ?_
   refine mvI rfl rfl rfl ?_
   refine ixIq (zn := i) el23 (Kn.drop (k := 1) kz) (fun _ h => h.pick [0]) rfl rfl rfl rfl (by omega) (by omega) rfl ?_
   intro ae2 e2
   refine ldq Try.isAgg2 (e2) rfl rfl rfl ?_
   refine leq rfl rfl rfl rfl ?_
   refine pickB rfl rfl rfl rfl ?_
   refine rNil ?_
   refine qSeq rfl ?_
   refine hIfD rfl (fun c3 => ?_) (fun c3 => ?_)
   ·
    replace c3 : (r.getD k 0) ≤ (z.getD i 0) := c3
    refine hSkip ?_
    refine qSeq rfl ?_
    refine hBlk ?_
    refine hReg (sq 0 (sq 1 (sq 2 sz))) (by kernel_rfl) ?_
    refine mvI rfl rfl rfl ?_
    refine add rfl rfl rfl rfl (by omega) ?_
    refine asI rfl rfl rfl ?_
    refine rNil ?_
    exact qNext rfl (k + 1) (by omega) ⟨by omega, fun j hj hj2 => by rcases Nat.lt_or_ge j k with h | h; exact hlo j h hj2; rw [show j = k by omega]; exact c3⟩ ⟨rfl, rfl, rfl, rfl, trivial⟩ (fun _ h => h.pick [0])
   ·
    replace c3 : ¬ ((r.getD k 0) ≤ (z.getD i 0)) := c3
    refine hExit rfl ?_
    refine qSeq rfl ?_
    refine hDraw (Ls := []) (by kernel_rfl) (sq 1 (sq 2 (sq 3 (sq 5 (sq 6 (sq 7 (sq 8 (sq 11 (sq 12 (sq 13 (.alt (sl 0 (.alt (sl 4 (sl 9 (sl 10 (sl 14 (sq 15 sz))))) (sl 9 (sl 4 (sl 10 (sl 14 (sq 15 sz))))))) (sl 9 (sl 0 (sl 4 (sl 10 (sl 14 (sq 15 sz))))))))))))))))) (by kernel_rfl) (.cons _ .slnil) ?_
    refine mvS rfl rfl rfl ?_
    refine mvI rfl rfl rfl ?_
    refine slHil (zn := k) 0 rfl el23 rfl rfl rfl rfl (by omega) (by omega) rfl (fun e3 => ?_)
    refine mvS rfl rfl rfl ?_
    refine mvI rfl rfl rfl ?_
    refine ixIq (zn := i) el23 (kz) (fun _ h => h.pick []) rfl rfl rfl rfl (by omega) (by omega) rfl ?_
    intro ae4 e4
    refine ldq Try.isAgg2 (e4) rfl rfl rfl ?_
    refine mvS rfl rfl rfl ?_
    refine mvI rfl rfl rfl ?_
    refine slLol (zn := k) 0 rfl el23 rfl rfl rfl rfl (by omega) (by omega) rfl ?_
    intro ae5 e5
    refine rAlt ?_ ?_
    ·
     refine bsl (fun _ _ h => h.pick []) rfl rfl rfl (bsl23_0) (fun bkl2 hbkl2 => ?_)
     refine rAlt ?_ ?_
     ·
      refine rPieces (fun _ h => Sep.litI h 0 [] rfl rfl rfl) ?_
      refine aplL (N := 0) (ys := (r.take k)) 0 rfl (Kn.drop (k := 1) e3) mk23 (fun _ _ h => h.pick []) rfl rfl rfl rfl (by omega) ?_
      intro aq6 cq6
      refine bsl (fun _ _ h => h.pick []) rfl rfl rfl (bsl23_1 (.int .i64 _) rfl) (fun bkl3 hbkl3 => ?_)
      refine aplI (N := (0 + k)) (x := (z.getD i 0)) 1 0 rfl rfl mk23 (fun _ _ h => h.pick []) rfl rfl rfl rfl (by omega) ?_
      intro aq7 cq7
      refine aplL (N := (((0 + k) + 1))) (ys := (r.drop k)) 1 rfl (Kn.drop (k := 2) e5) mk23 (fun _ _ h => h.pick []) rfl rfl rfl rfl (by omega) ?_
      intro aq8 cq8
      refine asS rfl rfl rfl ?_
      refine rNil ?_
      refine qSeq rfl ?_
      refine hReg (sq 0 (sq 1 (sq 2 sz))) (by kernel_rfl) ?_
      refine mvI rfl rfl rfl ?_
      refine add rfl rfl rfl rfl (by omega) ?_
      refine asI rfl rfl rfl ?_
      refine rNil ?_
      exact qNext rfl ((i + 1, (((0 + k) + 1) + (q - k)), (aq8, cq8), ((([] ++ (r.take k)) ++ [(z.getD i 0)]) ++ (r.drop k)))) (by dsimp only; omega) ⟨by dsimp only; omega, by dsimp only; omega, by dsimp only; rw [Iso.take_snoc (by omega)]; exact Iso.srt_put hr hlo (fun h => by omega)⟩ ⟨rfl, rfl, rfl, trivial⟩ (fun _ h => h.pick [1])
     ·
      refine bsl (fun _ _ h => h.pick []) rfl rfl rfl (bsl23_1 (.int .i64 _) rfl) (fun bkl4 hbkl4 => ?_)
      refine rPieces (fun _ h => Sep.litI h 1 [] rfl rfl rfl) ?_
      refine aplL (N := 0) (ys := (r.take k)) 1 rfl (Kn.drop (k := 2) e3) mk23 (fun _ _ h => h.pick []) rfl rfl rfl rfl (by omega) ?_
      intro aq9 cq9
      refine aplI (N := (0 + k)) (x := (z.getD i 0)) 1 0 rfl rfl mk23 (fun _ _ h => h.pick []) rfl rfl rfl rfl (by omega) ?_
      intro aq10 cq10
      refine aplL (N := (((0 + k) + 1))) (ys := (r.drop k)) 1 rfl (Kn.drop (k := 2) e5) mk23 (fun _ _ h => h.pick []) rfl rfl rfl rfl (by omega) ?_
      intro aq11 cq11
      refine asS rfl rfl rfl ?_
      refine rNil ?_
      refine qSeq rfl ?_
      refine hReg (sq 0 (sq 1 (sq 2 sz))) (by kernel_rfl) ?_
      refine mvI rfl rfl rfl ?_
      refine add rfl rfl rfl rfl (by omega) ?_
      refine asI rfl rfl rfl ?_
      refine rNil ?_
      exact qNext rfl ((i + 1, (((0 + k) + 1) + (q - k)), (aq11, cq11), ((([] ++ (r.take k)) ++ [(z.getD i 0)]) ++ (r.drop k)))) (by dsimp only; omega) ⟨by dsimp only; omega, by dsimp only; omega, by dsimp only; rw [Iso.take_snoc (by omega)]; exact Iso.srt_put hr hlo (fun h => by omega)⟩ ⟨rfl, rfl, rfl, trivial⟩ (fun _ h => h.pick [1])
    ·
     refine bsl (fun _ _ h => h.pick []) rfl rfl rfl (bsl23_1 (.int .i64 _) rfl) (fun bkl5 hbkl5 => ?_)
     refine bsl (fun _ _ h => h.pick []) rfl rfl rfl (bsl23_0) (fun bkl6 hbkl6 => ?_)
     refine rPieces (fun _ h => Sep.litI h 0 [] rfl rfl rfl) ?_
     refine aplL (N := 0) (ys := (r.take k)) 0 rfl (Kn.drop (k := 2) e3) mk23 (fun _ _ h => h.pick []) rfl rfl rfl rfl (by omega) ?_
     intro aq12 cq12
     refine aplI (N := (0 + k)) (x := (z.getD i 0)) 0 1 rfl rfl mk23 (fun _ _ h => h.pick []) rfl rfl rfl rfl (by omega) ?_
     intro aq13 cq13
     refine aplL (N := (((0 + k) + 1))) (ys := (r.drop k)) 0 rfl (Kn.drop (k := 2) e5) mk23 (fun _ _ h => h.pick []) rfl rfl rfl rfl (by omega) ?_
     intro aq14 cq14
     refine asS rfl rfl rfl ?_
     refine rNil ?_
     refine qSeq rfl ?_
     refine hReg (sq 0 (sq 1 (sq 2 sz))) (by kernel_rfl) ?_
     refine mvI rfl rfl rfl ?_
     refine add rfl rfl rfl rfl (by omega) ?_
     refine asI rfl rfl rfl ?_
     refine rNil ?_
     exact qNext rfl ((i + 1, (((0 + k) + 1) + (q - k)), (aq14, cq14), ((([] ++ (r.take k)) ++ [(z.getD i 0)]) ++ (r.drop k)))) (by dsimp only; omega) ⟨by dsimp only; omega, by dsimp only; omega, by dsimp only; rw [Iso.take_snoc (by omega)]; exact Iso.srt_put hr hlo (fun h => by omega)⟩ ⟨rfl, rfl, rfl, trivial⟩ (fun _ h => h.pick [0])
  ·
   replace g2 : ¬ ((k : Int) < (q : Int)) := g2
   refine rSkipQ rfl rfl ?_
   refine rSkipQ rfl rfl ?_
   refine rSkipQ rfl rfl ?_
   refine rSkipQ rfl rfl ?_
   refine rSkipQ rfl rfl ?_
   refine rSkipQ rfl rfl ?_
   refine rSkipQ rfl rfl ?_
   refine rSkipQ rfl rfl ?_
   refine rSkipQ rfl rfl ?_
   refine pickB rfl rfl rfl rfl ?_
   refine rNil ?_
   refine qSeq rfl ?_
   refine hIfF rfl ?_
   refine hExit rfl ?_
   refine qSeq rfl ?_
   refine hDraw (Ls := []) (by kernel_rfl) (sq 1 (sq 2 (sq 3 (sq 5 (sq 6 (sq 7 (sq 8 (sq 11 (sq 12 (sq 13 (.alt (sl 0 (.alt (sl 4 (sl 9 (sl 10 (sl 14 (sq 15 sz))))) (sl 9 (sl 4 (sl 10 (sl 14 (sq 15 sz))))))) (sl 9 (sl 0 (sl 4 (sl 10 (sl 14 (sq 15 sz))))))))))))))))) (by kernel_rfl) (.cons _ .slnil) ?_
   refine mvS rfl rfl rfl ?_
   refine mvI rfl rfl rfl ?_
   refine slHil (zn := k) 0 rfl el23 rfl rfl rfl rfl (by omega) (by omega) rfl (fun e15 => ?_)
   refine mvS rfl rfl rfl ?_
   refine mvI rfl rfl rfl ?_
   refine ixIq (zn := i) el23 (kz) (fun _ h => h.pick []) rfl rfl rfl rfl (by omega) (by omega) rfl ?_
   intro ae16 e16
   refine ldq Try.isAgg2 (e16) rfl rfl rfl ?_
   refine mvS rfl rfl rfl ?_
   refine mvI rfl rfl rfl ?_
   refine slLol (zn := k) 0 rfl el23 rfl rfl rfl rfl (by omega) (by omega) rfl ?_
   intro ae17 e17
   refine rAlt ?_ ?_
   ·
    refine bsl (fun _ _ h => h.pick []) rfl rfl rfl (bsl23_0) (fun bkl7 hbkl7 => ?_)
    refine rAlt ?_ ?_
    ·
     refine rPieces (fun _ h => Sep.litI h 0 [] rfl rfl rfl) ?_
     refine aplL (N := 0) (ys := (r.take k)) 0 rfl (Kn.drop (k := 1) e15) mk23 (fun _ _ h => h.pick []) rfl rfl rfl rfl (by omega) ?_
     intro aq18 cq18
     refine bsl (fun _ _ h => h.pick []) rfl rfl rfl (bsl23_1 (.int .i64 _) rfl) (fun bkl8 hbkl8 => ?_)
     refine aplI (N := (0 + k)) (x := (z.getD i 0)) 1 0 rfl rfl mk23 (fun _ _ h => h.pick []) rfl rfl rfl rfl (by omega) ?_
     intro aq19 cq19
     refine aplL (N := (((0 + k) + 1))) (ys := (r.drop k)) 1 rfl (Kn.drop (k := 2) e17) mk23 (fun _ _ h => h.pick []) rfl rfl rfl rfl (by omega) ?_
     intro aq20 cq20
     refine asS rfl rfl rfl ?_
     refine rNil ?_
     refine qSeq rfl ?_
     refine hReg (sq 0 (sq 1 (sq 2 sz))) (by kernel_rfl) ?_
     refine mvI rfl rfl rfl ?_
     refine add rfl rfl rfl rfl (by omega) ?_
     refine asI rfl rfl rfl ?_
     refine rNil ?_
     exact qNext rfl ((i + 1, (((0 + k) + 1) + (q - k)), (aq20, cq20), ((([] ++ (r.take k)) ++ [(z.getD i 0)]) ++ (r.drop k)))) (by dsimp only; omega) ⟨by dsimp only; omega, by dsimp only; omega, by dsimp only; rw [Iso.take_snoc (by omega)]; exact Iso.srt_put hr hlo (fun h => by omega)⟩ ⟨rfl, rfl, rfl, trivial⟩ (fun _ h => h.pick [1])
    ·
     refine bsl (fun _ _ h => h.pick []) rfl rfl rfl (bsl23_1 (.int .i64 _) rfl) (fun bkl9 hbkl9 => ?_)
     refine rPieces (fun _ h => Sep.litI h 1 [] rfl rfl rfl) ?_
     refine aplL (N := 0) (ys := (r.take k)) 1 rfl (Kn.drop (k := 2) e15) mk23 (fun _ _ h => h.pick []) rfl rfl rfl rfl (by omega) ?_
     intro aq21 cq21
     refine aplI (N := (0 + k)) (x := (z.getD i 0)) 1 0 rfl rfl mk23 (fun _ _ h => h.pick []) rfl rfl rfl rfl (by omega) ?_
     intro aq22 cq22
     refine aplL (N := (((0 + k) + 1))) (ys := (r.drop k)) 1 rfl (Kn.drop (k := 2) e17) mk23 (fun _ _ h => h.pick []) rfl rfl rfl rfl (by omega) ?_
     intro aq23 cq23
     refine asS rfl rfl rfl ?_
     refine rNil ?_
     refine qSeq rfl ?_
     refine hReg (sq 0 (sq 1 (sq 2 sz))) (by kernel_rfl) ?_
     refine mvI rfl rfl rfl ?_
     refine add rfl rfl rfl rfl (by omega) ?_
     refine asI rfl rfl rfl ?_
     refine rNil ?_
     exact qNext rfl ((i + 1, (((0 + k) + 1) + (q - k)), (aq23, cq23), ((([] ++ (r.take k)) ++ [(z.getD i 0)]) ++ (r.drop k)))) (by dsimp only; omega) ⟨by dsimp only; omega, by dsimp only; omega, by dsimp only; rw [Iso.take_snoc (by omega)]; exact Iso.srt_put hr hlo (fun h => by omega)⟩ ⟨rfl, rfl, rfl, trivial⟩ (fun _ h => h.pick [1])
   ·
    refine bsl (fun _ _ h => h.pick []) rfl rfl rfl (bsl23_1 (.int .i64 _) rfl) (fun bkl10 hbkl10 => ?_)
    refine bsl (fun _ _ h => h.pick []) rfl rfl rfl (bsl23_0) (fun bkl11 hbkl11 => ?_)
    refine rPieces (fun _ h => Sep.litI h 0 [] rfl rfl rfl) ?_
    refine aplL (N := 0) (ys := (r.take k)) 0 rfl (Kn.drop (k := 2) e15) mk23 (fun _ _ h => h.pick []) rfl rfl rfl rfl (by omega) ?_
    intro aq24 cq24
    refine aplI (N := (0 + k)) (x := (z.getD i 0)) 0 1 rfl rfl mk23 (fun _ _ h => h.pick []) rfl rfl rfl rfl (by omega) ?_
    intro aq25 cq25
    refine aplL (N := (((0 + k) + 1))) (ys := (r.drop k)) 0 rfl (Kn.drop (k := 2) e17) mk23 (fun _ _ h => h.pick []) rfl rfl rfl rfl (by omega) ?_
    intro aq26 cq26
    refine asS rfl rfl rfl ?_
    refine rNil ?_
    refine qSeq rfl ?_
    refine hReg (sq 0 (sq 1 (sq 2 sz))) (by kernel_rfl) ?_
    refine mvI rfl rfl rfl ?_
    refine add rfl rfl rfl rfl (by omega) ?_
    refine asI rfl rfl rfl ?_
    refine rNil ?_
    exact qNext rfl ((i + 1, (((0 + k) + 1) + (q - k)), (aq26, cq26), ((([] ++ (r.take k)) ++ [(z.getD i 0)]) ++ (r.drop k)))) (by dsimp only; omega) ⟨by dsimp only; omega, by dsimp only; omega, by dsimp only; rw [Iso.take_snoc (by omega)]; exact Iso.srt_put hr hlo (fun h => by omega)⟩ ⟨rfl, rfl, rfl, trivial⟩ (fun _ h => h.pick [0])
 ·
  replace c1 : ¬ ((i : Int) < (nz : Int)) := c1
  refine hExit rfl ?_
  refine qSeq rfl ?_
  refine hSeq ?_
  refine hReg (sq 0 (sq 1 sz)) (by kernel_rfl) ?_
  refine mvS rfl rfl rfl ?_
  refine asS rfl rfl rfl ?_
  refine rNil ?_
  refine qSeq rfl ?_
  refine hRet ?_
  exact fun w hs => ⟨[.slice hd.1 q hd.2], ⟨rfl, trivial⟩, ⟨(hd.1, q, hd.2, r), rfl, ⟨by rw [hr, List.take_of_length_le (by omega)], by dsimp only; omega⟩, hs.pick [0]⟩⟩
theorem spec_l01Same_c (az : Option Addr) (nz : Nat) (cz : Nat) (z : List Int) (ay : Option Addr) (ny : Nat) (cy : Nat) (y : List Int) (w : World) (rz : RdI az nz z w) (ry : RdI ay ny y w) :
  Calls Try.prog 129 #[.slice az nz cz, .slice ay ny cy] w (Ret fun v w' => v = .bool (decide (z = y)) ∧ Ext w w') := by
 have kz : Kn w none_ [] (RdI az nz z) := fun w' hs => rz.ext hs.upd
 have lz : z.length = nz := rz.1
 have mz : nz ≤ 9223372036854775807 := rz.2.1
 have ky : Kn w none_ [] (RdI ay ny y) := fun w' hs => ry.ext hs.upd
 have ly : y.length = ny := ry.1
 have my : ny ≤ 9223372036854775807 := ry.2.1
 refine fn (M := none_) (rs := [.tmp 4]) Try.func129 rfl Try.ntmps129 rfl rfl (Sep.start _ _) ?_
 refine hSeq ?_
 refine hReg (sq 0 sz) (by kernel_rfl) ?_
 refine asB rfl rfl rfl ?_
 refine rNil ?_
 refine qSeq rfl ?_
 refine hSeq ?_
 refine hSeq ?_
 refine hReg (sq 0 (sq 1 (sq 2 (sq 3 (sq 4 sz))))) (by kernel_rfl) ?_
 refine mvS rfl rfl rfl ?_
 refine lenS Try.runUnderlying23 rfl rfl rfl ?_
 refine mvS rfl rfl rfl ?_
 refine lenS Try.runUnderlying23 rfl rfl rfl ?_
 refine neq rfl rfl rfl rfl ?_
 refine rNil ?_
 refine qSeq rfl ?_
 refine hIfD rfl (fun c1 => ?_) (fun c1 => ?_)
 ·
  replace c1 : (nz : Int) ≠ (ny : Int) := c1
  refine hSeq ?_
  refine hReg (sq 0 sz) (by kernel_rfl) ?_
  refine asB rfl rfl rfl ?_
  refine rNil ?_
  refine qSeq rfl ?_
  refine hRet ?_
  exact fun w hs => ⟨[.bool false], ⟨rfl, trivial⟩, ⟨bF (fun h => c1 (by rw [← lz, ← ly, h])), hs.upd⟩⟩
 ·
  replace c1 : ¬ ((nz : Int) ≠ (ny : Int)) := c1
  refine hSkip ?_
  refine qSeq rfl ?_
  refine hSeq ?_
  refine hSeq ?_
  refine hReg (sq 0 sz) (by kernel_rfl) ?_
  refine asI rfl rfl rfl ?_
  refine rNil ?_
  refine qSeq rfl ?_
  refine hBlk ?_
  refine hLoop (α := Nat) (fun i => i ≤ nz ∧ ∀ j, j < i → z.getD j 0 = y.getD j 0) (fun i => nz - i) (fun i => []) (fun i => [(0, .slice az nz cz), (1, .slice ay ny cy), (5, .int .i64 (i : Int))]) 0 ⟨Nat.zero_le _, fun j hj => by omega⟩ (fun _ h => h.pick []) ⟨rfl, rfl, rfl, trivial⟩ ?_
  rintro i τ1 ⟨hi, hal⟩
  refine hSeq ?_
  refine hSeq ?_
  refine hReg (sq 0 (sq 1 (sq 2 (sq 3 sz)))) (by kernel_rfl) ?_
  refine mvI rfl rfl rfl ?_
  refine mvS rfl rfl rfl ?_
  refine lenS Try.runUnderlying23 rfl rfl rfl ?_
  refine lss rfl rfl rfl rfl ?_
  refine rNil ?_
  refine qSeq rfl ?_
  refine hIfD rfl (fun c2 => ?_) (fun c2 => ?_)
  ·
   replace c2 : (i : Int) < (nz : Int) := c2
   refine hSkip ?_
   refine qSeq rfl ?_
   refine hSeq ?_
   refine hBlk ?_
   refine hSeq ?_
   refine hDraw (Ls := []) (by kernel_rfl) (sq 0 (sq 1 (sq 2 (sq 3 (sq 4 (sq 5 (sq 6 (sq 7 (sq 8 sz))))))))) (by kernel_rfl) .slnil ?_
   refine mvS rfl rfl rfl ?_
   refine mvI rfl rfl rfl ?_
   refine ixIq (zn := i) el23 (kz) (fun _ h => h.pick []) rfl rfl rfl rfl (by omega) (by omega) rfl ?_
   intro ae1 e1
   refine ldq Try.isAgg2 (e1) rfl rfl rfl ?_
   refine mvS rfl rfl rfl ?_
   refine mvI rfl rfl rfl ?_
   refine ixIq (zn := i) el23 (ky) (fun _ h => h.pick []) rfl rfl rfl rfl (by omega) (by omega) rfl ?_
   intro ae2 e2
   refine ldq Try.isAgg2 (e2) rfl rfl rfl ?_
   refine neq rfl rfl rfl rfl ?_
   refine rNil ?_
   refine qSeq rfl ?_
   refine hIfD rfl (fun c3 => ?_) (fun c3 => ?_)
   ·
    replace c3 : (z.getD i 0) ≠ (y.getD i 0) := c3
    refine hSeq ?_
    refine hReg (sq 0 sz) (by kernel_rfl) ?_
    refine asB rfl rfl rfl ?_
    refine rNil ?_
    refine qSeq rfl ?_
    refine hRet ?_
    exact fun w hs => ⟨[.bool false], ⟨rfl, trivial⟩, ⟨bF (fun h => c3 (by rw [h])), hs.upd⟩⟩
   ·
    replace c3 : ¬ ((z.getD i 0) ≠ (y.getD i 0)) := c3
    refine hSkip ?_
    refine qSeq rfl ?_
    refine hReg (sq 0 (sq 1 (sq 2 sz))) (by kernel_rfl) ?_
    refine mvI rfl rfl rfl ?_
    refine add rfl rfl rfl rfl (by omega) ?_
    refine asI rfl rfl rfl ?_
    refine rNil ?_
    exact qNext rfl (i + 1) (by omega) ⟨by omega, Math.upto hal (by simpa using c3)⟩ ⟨rfl, rfl, rfl, trivial⟩ (fun _ h => h.pick [])
  ·
   replace c2 : ¬ ((i : Int) < (nz : Int)) := c2
   refine hExit rfl ?_
   refine qSeq rfl ?_
   refine hSeq ?_
   refine hReg (sq 0 sz) (by kernel_rfl) ?_
   refine asB rfl rfl rfl ?_
   refine rNil ?_
   refine qSeq rfl ?_
   refine hRet ?_
   exact fun w hs => ⟨[.bool true], ⟨rfl, trivial⟩, ⟨bT (Iso.ext_getD (by omega) fun j hj => hal j (by omega)), hs.upd⟩⟩
theorem spec_l18SameSet_c (az : Option Addr) (nz : Nat) (cz : Nat) (z : List Int) (ay : Option Addr) (ny : Nat) (cy : Nat) (y : List Int) (w : World) (rz : RdI az nz z w) (ry : RdI ay ny y w) (hl : z.length ≤ 1000000) (hm : y.length ≤ 1000000) :
  Calls Try.prog 87 #[.slice az nz cz, .slice ay ny cy] w (Ret fun v w' => v = .bool (decide ((srt z) = (srt y))) ∧ Ext w w') := by
 have kz : Kn w none_ [] (RdI az nz z) := fun w' hs => rz.ext hs.upd
 have lz : z.length = nz := rz.1
 have mz : nz ≤ 9223372036854775807 := rz.2.1
 have ky : Kn w none_ [] (RdI ay ny y) := fun w' hs => ry.ext hs.upd
 have ly : y.length = ny := ry.1
 have my : ny ≤ 9223372036854775807 := ry.2.1
 refine fn (M := none_) (rs := [.tmp 4]) Try.func87 rfl Try.ntmps87 rfl rfl (Sep.start _ _) ?_
 refine hSeq ?_
 refine hReg (sq 0 sz) (by kernel_rfl) ?_
 refine asB rfl rfl rfl ?_
 refine rNil ?_
 refine qSeq rfl ?_
 refine hSeq ?_
 refine hReg (sq 0 (sl 1 (sq 2 (sl 3 (sl 4 (sq 5 sz)))))) (by kernel_rfl) ?_
 refine mvS rfl rfl rfl ?_
 refine callS Try.call130 trv1 rfl rfl (fun w hs => spec_l02Sorted_c _ nz cz _ w (kz w hs) (by omega)) ?_
 rintro ⟨ay1, ny1, cy1, y1⟩ ⟨hr1a, hr1b⟩
 dsimp only at hr1a hr1b
 subst y1
 subst ny1
 refine rKnow (fun w hs => (show OwnI 2 ay1 nz cy1 (srt z) w from hs.at_ 0 rfl).lenz) (fun lenn1 => ?_)
 refine mvS rfl rfl rfl ?_
 refine callS Try.call130 trv1 rfl rfl (fun w hs => spec_l02Sorted_c _ ny cy _ w (Kn.drop (k := 1) ky w hs) (by omega)) ?_
 rintro ⟨ay2, ny2, cy2, y2⟩ ⟨hr2a, hr2b⟩
 dsimp only at hr2a hr2b
 subst y2
 subst ny2
 refine rKnow (fun w hs => (show OwnI 2 ay2 ny cy2 (srt y) w from hs.at_ 0 rfl).lenz) (fun lenn2 => ?_)
 refine callP (v := .bool (decide ((srt z) = (srt y)))) Try.call129 trv rfl rfl (fun w hs => spec_l01Same_c _ nz cy1 _ _ ny cy2 _ w (OwnI.rd (hs.at_ 1 rfl)) (OwnI.rd (hs.at_ 0 rfl))) ?_
 refine asB rfl rfl rfl ?_
 refine rNil ?_
 refine qSeq rfl ?_
 refine hRet ?_
 exact fun w hs => ⟨[.bool (decide ((srt z) = (srt y)))], ⟨rfl, trivial⟩, ⟨by first | rfl | exact bD (by omega) | exact bT (by omega) | exact bF (by omega) | exact vI (by omega), hs.upd⟩⟩
theorem spec_l01Has_c (az : Option Addr) (nz : Nat) (cz : Nat) (z : List Int) (x0 : Int) (w : World) (rz : RdI az nz z w) :
  Calls Try.prog 133 #[.slice az nz cz, .int .i64 x0] w (Ret fun v w' => v = .bool (z.contains x0) ∧ Ext w w') := by
 have kz : Kn w none_ [] (RdI az nz z) := fun w' hs => rz.ext hs.upd
 have lz : z.length = nz := rz.1
 have mz : nz ≤ 9223372036854775807 := rz.2.1
 refine fn (M := none_) (rs := [.tmp 4]) Try.func133 rfl Try.ntmps133 rfl rfl (Sep.start _ _) ?_
 refine hSeq ?_
 refine hReg (sq 0 sz) (by kernel_rfl) ?_
 refine asB rfl rfl rfl ?_
 refine rNil ?_
 refine qSeq rfl ?_
 refine hSeq ?_
 refine hSeq ?_
 refine hReg (sq 0 sz) (by kernel_rfl) ?_
 refine asI rfl rfl rfl ?_
 refine rNil ?_
 refine qSeq rfl ?_
 refine hBlk ?_
 refine hLoop (α := Nat) (fun i => i ≤ nz ∧ x0 ∉ z.take i) (fun i => nz - i) (fun i => []) (fun i => [(0, .slice az nz cz), (1, .int .i64 x0), (5, .int .i64 (i : Int))]) 0 ⟨Nat.zero_le _, by simp⟩ (fun _ h => h.pick []) ⟨rfl, rfl, rfl, trivial⟩ ?_
 rintro i τ1 ⟨hi, hal⟩
 refine hSeq ?_
 refine hSeq ?_
 refine hReg (sq 0 (sq 1 (sq 2 (sq 3 sz)))) (by kernel_rfl) ?_
 refine mvI rfl rfl rfl ?_
 refine mvS rfl rfl rfl ?_
 refine lenS Try.runUnderlying23 rfl rfl rfl ?_
 refine lss rfl rfl rfl rfl ?_
 refine rNil ?_
 refine qSeq rfl ?_
 refine hIfD rfl (fun c1 => ?_) (fun c1 => ?_)
 ·
  replace c1 : (i : Int) < (nz : Int) := c1
  refine hSkip ?_
  refine qSeq rfl ?_
  refine hSeq ?_
  refine hBlk ?_
  refine hSeq ?_
  refine hReg (sq 0 (sq 1 (sq 2 (sl 3 (sq 4 (sq 5 sz)))))) (by kernel_rfl) ?_
  refine mvS rfl rfl rfl ?_
  refine mvI rfl rfl rfl ?_
  refine ixIl (zn := i) el23 (kz) rfl rfl rfl rfl (by omega) (by omega) rfl ?_
  intro ae1 e1
  refine ldl Try.isAgg2 (e1) trv rfl rfl rfl ?_
  refine mvI rfl rfl rfl ?_
  refine eql rfl rfl rfl rfl ?_
  refine rNil ?_
  refine qSeq rfl ?_
  refine hIfD rfl (fun c2 => ?_) (fun c2 => ?_)
  ·
   replace c2 : (z.getD i 0) = x0 := c2
   refine hSeq ?_
   refine hReg (sq 0 sz) (by kernel_rfl) ?_
   refine asB rfl rfl rfl ?_
   refine rNil ?_
   refine qSeq rfl ?_
   refine hRet ?_
   exact fun w hs => ⟨[.bool true], ⟨rfl, trivial⟩, ⟨bB (Iso.has_yes (i := i) (by omega) (by assumption)).symm, hs.upd⟩⟩
  ·
   replace c2 : ¬ ((z.getD i 0) = x0) := c2
   refine hSkip ?_
   refine qSeq rfl ?_
   refine hReg (sq 0 (sq 1 (sq 2 sz))) (by kernel_rfl) ?_
   refine mvI rfl rfl rfl ?_
   refine add rfl rfl rfl rfl (by omega) ?_
   refine asI rfl rfl rfl ?_
   refine rNil ?_
   exact qNext rfl (i + 1) (by omega) ⟨by omega, Iso.not_snoc (by omega) hal (by assumption)⟩ ⟨rfl, rfl, rfl, trivial⟩ (fun _ h => h.pick [])
 ·
  replace c1 : ¬ ((i : Int) < (nz : Int)) := c1
  refine hExit rfl ?_
  refine qSeq rfl ?_
  refine hSeq ?_
  refine hReg (sq 0 sz) (by kernel_rfl) ?_
  refine asB rfl rfl rfl ?_
  refine rNil ?_
  refine qSeq rfl ?_
  refine hRet ?_
  exact fun w hs => ⟨[.bool false], ⟨rfl, trivial⟩, ⟨bB (Iso.has_no (i := i) (by omega) hal).symm, hs.upd⟩⟩
end Go.Proofs.Yteaahdakammffaa
/- Contracts of the reference: fixing exchanges, cards that are alike, classes. Their conditions stand in each. -/
namespace Go.Proofs.Yteaahdakammffaa
open Go Go.RowKit V
set_option linter.unusedVariables false
set_option linter.unusedSimpArgs false
set_option maxRecDepth 100000
theorem spec_l18Fixing_c (az : Option Addr) (nz : Nat) (cz : Nat) (Hz : Nat → Hd) (z : List (List Int)) (w : World) (rz : RdR maK az nz Hz z w) (hc : Iso.codeS z = 0) :
  Calls Try.prog 91 #[.slice az nz cz] w (Ret fun v w' => ∃ x : Option Addr × Nat × Nat × (Nat → Hd) × List (List Int), v = .slice x.1 x.2.1 x.2.2.1 ∧ (x.2.2.2.2 = Iso.fixA z) ∧ Sep w none_ [RdR maK x.1 x.2.1 x.2.2.2.1 x.2.2.2.2] w') := by
 have kz : Kn w none_ [] (RdR maK az nz Hz z) := fun w' hs => rz.ext hs.upd
 have lz : z.length = nz := rz.1
 have mz : nz ≤ 9223372036854775807 := rz.2.1
 have hol := Iso.orders_len
 refine fn (M := none_) (rs := [.tmp 2]) Try.func91 rfl Try.ntmps91 rfl rfl (Sep.start _ _) ?_
 refine hSeq ?_
 refine hReg (sq 0 sz) (by kernel_rfl) ?_
 refine asS rfl rfl rfl ?_
 refine rNil ?_
 refine qSeq rfl ?_
 refine hSeq ?_
 refine hReg (sl 0 (sq 1 sz)) (by kernel_rfl) ?_
 refine callS Try.call86 trv1 rfl rfl (fun w hs => spec_l07Suits_c  w ) ?_
 rintro ⟨ay1, ny1, cy1, Hy1, y1⟩ hr1
 dsimp only at hr1
 subst y1
 refine rKnow (fun w hs => (show OwnR maK 23 2 ay1 ny1 cy1 Hy1 Iso.orders w from hs.at_ 0 rfl).1) (fun lenn1 => ?_)
 refine rVal (v' := .slice ay1 ny1 cy1) rfl ?_
 refine asS rfl rfl rfl ?_
 refine rNil ?_
 refine qSeq rfl ?_
 refine hSeq ?_
 refine hReg (sl 0 (sq 1 sz)) (by kernel_rfl) ?_
 refine bsl trv1 rfl rfl rfl (bsl22_0) (fun bkl2 hbkl2 => ?_)
 refine asS rfl rfl rfl ?_
 refine rNil ?_
 refine qSeq rfl ?_
 refine hSeq ?_
 refine hSeq ?_
 refine hReg (sq 0 sz) (by kernel_rfl) ?_
 refine asI rfl rfl rfl ?_
 refine rNil ?_
 refine qSeq rfl ?_
 refine hBlk ?_
 refine hPieces (fun _ h => Sep.subNil Hy1 Iso.orders (fun _ => (none, 0)) 0 h rfl) ?_
 refine hLoop (α := Nat × Nat × Hd × (Nat → Hd)) (fun x => x.1 ≤ ny1 ∧ x.2.1 ≤ x.1) (fun x => ny1 - x.1) (fun x => [SubR 23 Hy1 Iso.orders x.2.2.1.1 x.2.1 x.2.2.1.2 x.2.2.2 (Iso.fixL z x.1), OwnR maK 23 2 ay1 ny1 cy1 Hy1 Iso.orders]) (fun x => [(0, .slice az nz cz), (3, .slice ay1 ny1 cy1), (4, .slice x.2.2.1.1 x.2.1 x.2.2.1.2), (5, .int .i64 (x.1 : Int))]) ((0, 0, (((some ⟨bkl2, 0, none⟩), 0), (fun _ => (none, 0))))) ⟨Nat.zero_le _, Nat.le_refl _⟩ (fun _ h => h.pick [0, 0]) ⟨rfl, rfl, rfl, rfl, trivial⟩ ?_
 rintro ⟨i, q, hd⟩ τ1 ⟨hi, hq⟩
 dsimp only at hi hq
 refine hRe [(0, .slice az nz cz), (3, .slice ay1 ny1 cy1), (4, .slice hd.1.1 q hd.1.2), (5, .int .i64 (i : Int))] [SubR 23 Hy1 Iso.orders hd.1.1 q hd.1.2 hd.2 (Iso.fixL z i), OwnR maK 23 2 ay1 ny1 cy1 Hy1 Iso.orders] rfl rfl ?_
 refine hSeq ?_
 refine hSeq ?_
 refine hReg (sq 0 (sq 1 (sq 2 (sq 3 sz)))) (by kernel_rfl) ?_
 refine mvI rfl rfl rfl ?_
 refine mvS rfl rfl rfl ?_
 refine lenS Try.runUnderlying22 rfl rfl rfl ?_
 refine lss rfl rfl rfl rfl ?_
 refine rNil ?_
 refine qSeq rfl ?_
 refine hIfD rfl (fun c1 => ?_) (fun c1 => ?_)
 ·
  replace c1 : (i : Int) < (ny1 : Int) := c1
  refine hSkip ?_
  refine qSeq rfl ?_
  refine hSeq ?_
  refine hBlk ?_
  refine hSeq ?_
  refine hReg (sq 0 sz) (by kernel_rfl) ?_
  refine asB rfl rfl rfl ?_
  refine rNil ?_
  refine qSeq rfl ?_
  refine hSeq ?_
  refine hSeq ?_
  refine hReg (sq 0 sz) (by kernel_rfl) ?_
  refine asI rfl rfl rfl ?_
  refine rNil ?_
  refine qSeq rfl ?_
  refine hBlk ?_
  refine hLoop (α := Nat × Bool) (fun x => x.1 ≤ nz ∧ x.2 = Iso.fixS (Iso.orders.getD i []) (z.take x.1)) (fun x => nz - x.1) (fun x => [SubR 23 Hy1 Iso.orders hd.1.1 q hd.1.2 hd.2 (Iso.fixL z i), OwnR maK 23 2 ay1 ny1 cy1 Hy1 Iso.orders]) (fun x => [(0, .slice az nz cz), (3, .slice ay1 ny1 cy1), (4, .slice hd.1.1 q hd.1.2), (5, .int .i64 (i : Int)), (6, .bool x.2), (7, .int .i64 (x.1 : Int))]) (0, true) ⟨Nat.zero_le _, rfl⟩ (fun _ h => h.pick [0, 0]) ⟨rfl, rfl, rfl, rfl, rfl, rfl, trivial⟩ ?_
  rintro ⟨j, b⟩ τ2 ⟨hj, hb⟩
  dsimp only at hj hb
  refine hRe [(0, .slice az nz cz), (3, .slice ay1 ny1 cy1), (4, .slice hd.1.1 q hd.1.2), (5, .int .i64 (i : Int)), (6, .bool b), (7, .int .i64 (j : Int))] [SubR 23 Hy1 Iso.orders hd.1.1 q hd.1.2 hd.2 (Iso.fixL z i), OwnR maK 23 2 ay1 ny1 cy1 Hy1 Iso.orders] rfl rfl ?_
  refine hSeq ?_
  refine hSeq ?_
  refine hReg (sq 0 (sq 1 (sq 2 (sq 3 sz)))) (by kernel_rfl) ?_
  refine mvI rfl rfl rfl ?_
  refine mvS rfl rfl rfl ?_
  refine lenS Try.runUnderlying22 rfl rfl rfl ?_
  refine lss rfl rfl rfl rfl ?_
  refine rNil ?_
  refine qSeq rfl ?_
  refine hIfD rfl (fun c2 => ?_) (fun c2 => ?_)
  ·
   replace c2 : (j : Int) < (nz : Int) := c2
   have hps := Iso.codeS_at hc (show j < z.length by omega)
   have hpl := Iso.areP_len hps
   refine hSkip ?_
   refine qSeq rfl ?_
   refine hSeq ?_
   refine hBlk ?_
   refine hDraw (Ls := [OwnR maK 23 2 ay1 ny1 cy1 Hy1 Iso.orders]) (by kernel_rfl) (sq 0 (sq 1 (sq 2 (sq 3 (sq 4 (sq 5 (sq 6 (sq 7 (sq 8 (sq 9 (sq 10 (sq 11 (sq 12 (sq 13 (sl 14 (sl 15 (sq 16 (sq 17 sz)))))))))))))))))) (by kernel_rfl) (.cons _ (.cons_cons _ .slnil)) ?_
   refine mvB rfl rfl rfl ?_
   refine mvB rfl rfl rfl ?_
   refine rBool (d := 23) rfl (fun g3 => ?_) (fun g3 => ?_)
   ·
    replace g3 : b = true := g3
    refine mvS rfl rfl rfl ?_
    refine mvI rfl rfl rfl ?_
    refine ixRq (zn := j) (z.getD j []) el22 (Kn.drop (k := 1) kz) (fun _ h => h.pick [1]) rfl rfl rfl rfl (by omega) (by omega) rfl (nth [] (by omega)) ?_
    intro be2 oe2 e2
    refine ldq Try.isAgg23 (Kn.fld e2 0 rfl) rfl rfl rfl ?_
    refine mvS rfl rfl rfl ?_
    refine mvI rfl rfl rfl ?_
    refine ixRq (zn := j) (z.getD j []) el22 (Kn.drop (k := 1) kz) (fun _ h => h.pick [1]) rfl rfl rfl rfl (by omega) (by omega) rfl (nth [] (by omega)) ?_
    intro be3 oe3 e3
    refine ldq Try.isAgg23 (Kn.fld e3 0 rfl) rfl rfl rfl ?_
    refine mvS rfl rfl rfl ?_
    refine mvI rfl rfl rfl ?_
    refine ixRq (zn := i) (Iso.orders.getD i []) el22 ((Kn.at_ 0 rfl).imp fun _ h => OwnR.rd h maK.ok) (fun _ h => h.pick [1]) rfl rfl rfl rfl (by omega) (by omega) rfl (nth [] (by omega)) ?_
    intro be4 oe4 e4
    refine ldq Try.isAgg23 (Kn.fld e4 0 rfl) rfl rfl rfl ?_
    refine callS Try.call79 (by exact (fun _ _ h => h.pick [2])) rfl rfl (fun w hs => spec_l18Image_c _ ((z.getD j []).length) ((Hz j).2) _ _ ((Iso.orders.getD i []).length) ((Hy1 i).2) _ w (Kn.drop (k := 2) ((Kn.imp kz fun _ h => h.kidM (nth [] (by omega)))) w hs) (Kn.drop (k := 1) ((Kn.imp ((Kn.at_ (φ := OwnR maK 23 2 ay1 ny1 cy1 Hy1 Iso.orders) 0 rfl).imp fun _ h => OwnR.rd h maK.ok) fun _ h => h.kidM (nth [] (by omega)))) w hs) hps.1 (by omega) (Iso.orders_at (by omega))) ?_
    rintro ⟨ay5, ny5, cy5, y5⟩ ⟨hr5a, hr5b⟩
    dsimp only at hr5a hr5b
    subst y5
    subst ny5
    refine rKnow (fun w hs => (show OwnI 2 ay5 (((((z.getD j []).length)))) cy5 ((((Iso.image4 (Iso.orders.getD i []) (z.getD j []))))) w from hs.at_ 0 rfl).lenz) (fun lenn3 => ?_)
    refine rVal (v' := .slice ay5 (((((z.getD j []).length)))) cy5) rfl ?_
    refine callP (v := .bool (decide ((srt (z.getD j [])) = (srt ((((Iso.image4 (Iso.orders.getD i []) (z.getD j []))))))))) Try.call87 (fun _ h => h.pick [2]) rfl rfl (fun w hs => spec_l18SameSet_c _ ((z.getD j []).length) ((Hz j).2) _ _ (((((z.getD j []).length)))) cy5 _ w (Kn.drop (k := 3) ((Kn.imp kz fun _ h => h.kidM (nth [] (by omega)))) w hs) (OwnI.rd (hs.at_ 0 rfl)) (by omega) (by rw [Iso.image4_len]; omega)) ?_
    refine pickB rfl rfl rfl rfl ?_
    refine asB rfl rfl rfl ?_
    refine rNil ?_
    refine qSeq rfl ?_
    refine hReg (sq 0 (sq 1 (sq 2 sz))) (by kernel_rfl) ?_
    refine mvI rfl rfl rfl ?_
    refine add rfl rfl rfl rfl (by omega) ?_
    refine asI rfl rfl rfl ?_
    refine rNil ?_
    exact qNext rfl ((j + 1, decide ((srt (z.getD j [])) = (srt ((((Iso.image4 (Iso.orders.getD i []) (z.getD j []))))))))) (by dsimp only; omega) ⟨by dsimp only; omega, by dsimp only; rw [Iso.fixS_snoc (by omega), ← hb, g3]; exact Iso.fixB_flip _ _⟩ ⟨rfl, rfl, rfl, rfl, rfl, rfl, trivial⟩ (fun _ h => h.pick [1, 1])
   ·
    replace g3 : b = false := g3
    refine rSkipQ rfl rfl ?_
    refine rSkipQ rfl rfl ?_
    refine rSkipQ rfl rfl ?_
    refine rSkipQ rfl rfl ?_
    refine rSkipQ rfl rfl ?_
    refine rSkipQ rfl rfl ?_
    refine rSkipQ rfl rfl ?_
    refine rSkipQ rfl rfl ?_
    refine rSkipQ rfl rfl ?_
    refine rSkipQ rfl rfl ?_
    refine rSkipQ rfl rfl ?_
    refine rSkipQ rfl rfl ?_
    refine rSkipL (fun _ h => h.pick [1]) rfl rfl ?_
    refine rSkipL (fun _ h => h.pick [1]) rfl rfl ?_
    refine pickB rfl rfl rfl rfl ?_
    refine asB rfl rfl rfl ?_
    refine rNil ?_
    refine qSeq rfl ?_
    refine hReg (sq 0 (sq 1 (sq 2 sz))) (by kernel_rfl) ?_
    refine mvI rfl rfl rfl ?_
    refine add rfl rfl rfl rfl (by omega) ?_
    refine asI rfl rfl rfl ?_
    refine rNil ?_
    exact qNext rfl (j + 1, false) (by dsimp only; omega) ⟨by dsimp only; omega, by dsimp only; rw [Iso.fixS_snoc (by omega), ← hb, g3]; rfl⟩ ⟨rfl, rfl, rfl, rfl, rfl, rfl, trivial⟩ (fun _ h => h.pick [0, 0])
  ·
   replace c2 : ¬ ((j : Int) < (nz : Int)) := c2
   have hfx : b = Iso.fixS (Iso.orders.getD i []) z := by rw [hb, List.take_of_length_le (by omega)]
   refine hExit rfl ?_
   refine qSeq rfl ?_
   refine hSeq ?_
   refine hReg (sq 0 sz) (by kernel_rfl) ?_
   refine mvB rfl rfl rfl ?_
   refine rNil ?_
   refine qSeq rfl ?_
   refine hIf rfl (fun c4 => ?_) (fun c4 => ?_)
   ·
    replace c4 : b = true := c4
    refine hReg (sq 0 (sq 1 (sq 2 (sq 3 (sl 4 (sl 5 (sl 6 (sq 7 sz)))))))) (by kernel_rfl) ?_
    refine mvS rfl rfl rfl ?_
    refine mvS rfl rfl rfl ?_
    refine mvI rfl rfl rfl ?_
    refine ixRl (zn := i) (Iso.orders.getD i []) el22 ((Kn.at_ 1 rfl).imp fun _ h => OwnR.rd h maK.ok) rfl rfl rfl rfl (by omega) (by omega) rfl (nth [] (by omega)) ?_
    intro be6 oe6 e6
    refine ldl Try.isAgg23 (Kn.fld e6 0 rfl) trv rfl rfl rfl ?_
    refine bsl trv1 rfl rfl rfl (bsl22_1 (.slice _ _ _) rfl) (fun bkl4 hbkl4 => ?_)
    refine aplS (x := (Iso.orders.getD i [])) (q := i) 1 0 rfl rfl (nth [] (by omega)) (by decide) mk22 trv1 rfl rfl rfl rfl (by omega) ?_
    intro aq7 cq7
    refine asS rfl rfl rfl ?_
    refine rNil ?_
    refine qSeq rfl ?_
    refine hReg (sq 0 (sq 1 (sq 2 sz))) (by kernel_rfl) ?_
    refine mvI rfl rfl rfl ?_
    refine add rfl rfl rfl rfl (by omega) ?_
    refine asI rfl rfl rfl ?_
    refine rNil ?_
    rw [← Iso.fixL_yes (by omega) (by rw [← hfx]; assumption)]
    exact qNext rfl ((i + 1, (q + 1), ((aq7, cq7), (hset hd.2 (Iso.fixL z i).length (Hy1 i))))) (by dsimp only; omega) ⟨by dsimp only; omega, by dsimp only; omega⟩ ⟨rfl, rfl, rfl, rfl, trivial⟩ (fun _ h => h.pick [1, 1])
   ·
    replace c4 : b = false := c4
    refine hSkip ?_
    refine qSeq rfl ?_
    refine hReg (sq 0 (sq 1 (sq 2 sz))) (by kernel_rfl) ?_
    refine mvI rfl rfl rfl ?_
    refine add rfl rfl rfl rfl (by omega) ?_
    refine asI rfl rfl rfl ?_
    refine rNil ?_
    rw [← Iso.fixL_no (by omega) (by rw [← hfx]; assumption)]
    exact qNext rfl ((i + 1, q, ((hd.1.1, hd.1.2), hd.2))) (by dsimp only; omega) ⟨by dsimp only; omega, by dsimp only; omega⟩ ⟨rfl, rfl, rfl, rfl, trivial⟩ (fun _ h => h.pick [0, 0])
 ·
  replace c1 : ¬ ((i : Int) < (ny1 : Int)) := c1
  refine hExit rfl ?_
  refine qSeq rfl ?_
  refine hSeq ?_
  refine hReg (sq 0 (sq 1 sz)) (by kernel_rfl) ?_
  refine mvS rfl rfl rfl ?_
  refine asS rfl rfl rfl ?_
  refine rNil ?_
  refine qSeq rfl ?_
  refine hRet ?_
  refine knP (L' := [OwnR maK 23 2 ay1 ny1 cy1 Hy1 Iso.orders, SubR 23 Hy1 Iso.orders hd.1.1 q hd.1.2 hd.2 (Iso.fixL z i)]) (fun _ h => h.perm (pull (i := 1) rfl)) ?_
  refine knP (L' := [SubR 23 Hy1 Iso.orders hd.1.1 q hd.1.2 hd.2 (Iso.fixL z i), OwnR maK 23 2 ay1 ny1 cy1 Hy1 Iso.orders]) (fun _ h => h.perm (pull (i := 1) rfl)) ?_
  refine knP (L' := [RdR maK hd.1.1 q hd.2 (Iso.fixL z i)]) (fun _ h => Sep.subFuse h (by omega)) ?_
  exact fun w hs => ⟨[.slice hd.1.1 q hd.1.2], ⟨rfl, trivial⟩, ⟨(hd.1.1, q, hd.1.2, hd.2, (Iso.fixL z i)), rfl, Iso.fixL_end (by omega), hs.pick [0]⟩⟩
end Go.Proofs.Yteaahdakammffaa
/- Arguments of laws, opened. No condition. -/
namespace Go.Proofs.Yteaahdakammffaa
open Go Go.RowKit V Go.ChangeShapes Go.WideShapes Go.ChangeAt
set_option linter.unusedVariables false
set_option linter.unusedSimpArgs false
set_option maxRecDepth 100000
end Go.Proofs.Yteaahdakammffaa
/- The engine, part 14: arrays of four that are compared, read through a slice, sliced. No condition. -/
namespace Go.Proofs.Yteaahdakammffaa.V
open Go Go.RowKit
set_option linter.unusedVariables false
set_option linter.unusedSimpArgs false
def a4v (x0 x1 x2 x3 : Int) : List Value := [.int .i64 x0, .int .i64 x1, .int .i64 x2, .int .i64 x3]
/-- Arrays of four numbers are compared part by part. -/
def Eq4 (P : Program) (ty : TypeId) : Prop := P.eqGuardType P.depth ty = false ∧ ∀ (w : World) (x0 x1 x2 x3 y0 y1 y2 y3 : Int), (Op.equalIn 10000 ty (.agg (a4v x0 x1 x2 x3).toArray) (.agg (a4v y0 y1 y2 y3).toArray)).run P w = .ok (decide ([x0, x1, x2, x3] = [y0, y1, y2, y3])) w
section
variable {P : Program} {n : Nat} {w0 : World} {M : Nat → Prop} {L : List (World → Prop)} {σ : Fr} {K : Ko} {ops : Array Oper} {S : World → Prop} {r : Sch} {i : Nat}
variable {d : Nat} {t ty yt : TypeId} {p : String} {af : Array Edge} {g : Option (Nat × Bool)} {a b : Operand}
theorem eqlA4 {x0 x1 x2 x3 y0 y1 y2 y3 : Int} (hE : Eq4 P ty) (ho : ops[i]? = some ⟨some d, .binOp .eql ty a b yt, t, p, af, g⟩) (hg : go ops σ g) (ha : ev σ a = .agg #[.int .i64 x0, .int .i64 x1, .int .i64 x2, .int .i64 x3]) (hb : ev σ b = .agg #[.int .i64 y0, .int .i64 y1, .int .i64 y2, .int .i64 y3])
    (h : RG P n w0 M ops S L r (upd σ d (.bool (decide ([x0, x1, x2, x3] = [y0, y1, y2, y3])))) K) : RG P n w0 M ops S L (.op .q i r) σ K :=
  rQ ho hg (fun w _ => by
    have he := hE.2 w x0 x1 x2 x3 y0 y1 y2 y3
    simp only [a4v] at he
    simp only [execOp, ha, hb, Sem.run_bind, run_eqGuard_agg w .eql ty a b _ _ hE.1, Result.andThen_ok, run_eql_struct, he]; simp) h
theorem cells4 {q : Option Addr} {len : Nat} {zs : List Int} {w : World} (h : RdI q len zs w) (h4 : 4 ≤ len) {bk off : Nat} (hq : q = some ⟨bk, off, none⟩) : ∀ k v, (a4v (zs.getD 0 0) (zs.getD 1 0) (zs.getD 2 0) (zs.getD 3 0))[k]? = some v → w.cell? ⟨bk, off + k, none⟩ = some v := fun k v hk => by
  have hlt : k < 4 := by have := (List.getElem?_eq_some_iff.1 hk).1; simpa [a4v] using this
  have h1 : (iv zs)[k]? = some (.int .i64 (zs.getD k 0)) := iv_get (by have := h.1; omega)
  obtain ⟨b', off', hq', hc⟩ := h.2.2 k _ h1
  rw [hq] at hq'; cases hq'
  rw [show v = .int .i64 (zs.getD k 0) from Option.some.inj (hk.symm.trans (a4_get hlt))]; exact hc
/-- An array behind a slice. -/
theorem sapq {len cap k e : Nat} {q : Option Addr} {zs : List Int} (hu : P.underlying ty = some (.array k e)) (hC : ∀ w, S w → RdI q len zs w) (hS : ∀ w, Sep w0 M L w → S w) (ho : ops[i]? = some ⟨some d, .sliceToArrayPointer ty a, t, p, af, g⟩) (hg : go ops σ g) (ha : ev σ a = .slice q len cap) (hk : k = 4) (h4 : 4 ≤ len)
    (h : ∀ bk off, (∀ w, S w → ∀ k v, (a4v (zs.getD 0 0) (zs.getD 1 0) (zs.getD 2 0) (zs.getD 3 0))[k]? = some v → w.cell? ⟨bk, off + k, none⟩ = some v) → RG P n w0 M ops S L r (upd σ d (.pointer (some ⟨bk, off, none⟩))) K) : RG P n w0 M ops S L (.op .q i r) σ K := fun w hs => by
  subst hk
  obtain ⟨bk, off, hq, -⟩ := (hC w (hS w hs)).2.2 0 _ (iv_get (by have := (hC w (hS w hs)).1; omega))
  refine rQ (v := .pointer (some ⟨bk, off, none⟩)) ho hg (fun w _ => ?_) (h bk off fun w hw => cells4 (hC w hw) h4 hq) w hs
  simp [execOp, ha, Instr.arrayAt, run_underlying hu, Nat.not_lt.2 h4, hq]
/-- An array behind a pointer, as a slice. -/
theorem slAr {bk k e sz : Nat} (hu : P.underlying ty = some (.array k e)) (hs : ∀ w, (sizeOf e).run P w = .ok sz w) (ho : ops[i]? = some ⟨some d, .slice ty a none none none, t, p, af, g⟩) (hg : go ops σ g) (ha : ev σ a = .pointer (some ⟨bk, 0, none⟩))
    (h : RG P n w0 M ops S L r (upd σ d (.slice (some ⟨bk, 0, none⟩) k k)) K) : RG P n w0 M ops S L (.op .q i r) σ K :=
  rQ ho hg (fun w _ => by
    by_cases hk : k = 0
    · subst hk; simp [execOp, ha, Instr.sliceAt, Instr.sureAddr, Instr.sliceBounds, Instr.sliceBound, run_underlying hu, hs w]
    · simp [execOp, ha, Instr.sliceAt, Instr.sureAddr, Instr.sliceBounds, Instr.sliceBound, run_underlying hu, hs w, Addr.add]) h
end
section
variable {P : Program} {n : Nat} {w0 : World} {M : Nat → Prop} {L L' Lf Lr : List (World → Prop)} {σ : Fr} {K K' : Ko} {c x y : Code} {ops : Array Oper} {S : World → Prop} {r : Sch} {i : Nat}
variable {d : Nat} {t : TypeId} {p : String} {af : Array Edge} {g : Option (Nat × Bool)} {a b : Operand}
theorem callMR {α : Type} {f : FuncId} {args : Array Operand} {tys : Array TypeId} {val : α → Value} {good : α → Prop} {φs : α → List (World → Prop)} (hL : L = Lf ++ Lr) (hf : ∀ args w, (callFunc f args).run P w = .ok (.enter f args) w) (hS : ∀ x w, Sep w0 M (φs x ++ Lr) w → S w) (ho : ops[i]? = some ⟨some d, .call ⟨.value (.func f), args, tys⟩, t, p, af, g⟩) (hg : go ops σ g)
    (hc : ∀ w M0, Sep w M0 Lf w → (∀ φ, Kn w0 M Lr φ → Kn w M0 [] φ) → Calls P f (args.toList.map (ev σ)).toArray w (Ret fun v' w' => ∃ x, v' = val x ∧ good x ∧ Sep w M0 (φs x) w')) (h : ∀ x, good x → RG P n w0 M ops S (φs x ++ Lr) r (upd σ d (val x)) K) : RG P n w0 M ops S L (.op .l i r) σ K := by
  subst hL
  exact rL (Lx := fun x => φs x ++ Lr) (v := val) hS ho hg (fun w hs => by
    obtain ⟨M0, h1, h2⟩ := hs.focus
    refine call_opw hf (hc w M0 h1 fun φ hk w' hs' => hk w' (h2 [] w' hs')) fun v' w' ⟨x, he, hx, hsep⟩ => by subst he; exact ⟨x, hx, h2 _ _ hsep, rfl⟩) h
theorem Kn.nil {w0 : World} {M : Nat → Prop} {L : List (World → Prop)} {φ : World → Prop} (h : Kn w0 M [] φ) : Kn w0 M L φ := fun w hs => h w (hs.sub (List.nil_sublist _))
/-- The head of an owned slice, owned. -/
theorem OwnI.take {e : Nat} {q : Option Addr} {N C k : Nat} {zs : List Int} {w : World} (h : OwnI e q N C zs w) (hk : k ≤ N) (hq : q.isSome = true ∨ k = N) : OwnI e q k C (zs.take k) w := by
  have hl := h.lenz
  obtain ⟨h1, h2 | ⟨g', cap, cur, h2, h3, h4, h5, h6, h7, h8⟩⟩ := h
  · obtain ⟨h2, h3⟩ := h2
    cases h2
    have : k = 0 := by omega
    subst this
    exact ⟨by simp [iv], .inl ⟨rfl, rfl⟩⟩
  · cases h2
    refine ⟨by simp [iv]; omega, .inr ⟨g', C, cur, rfl, h3, h4, by omega, h6, h7, ?_⟩⟩
    rw [show iv (zs.take k) = (iv zs).take (k * 1) from by simp [iv, List.map_take], ← h8, List.take_take, Nat.min_eq_left (by omega)]
theorem slHiO {ty e N C : Nat} {q : Option Addr} {zs : List Int} {z : Int} {kk : IntKind} (j : Nat) (hj : L[j]? = some (OwnI e q N C zs)) (hE : Elt P ty 1) (ho : ops[i]? = some ⟨some d, .slice ty a none (some b) none, t, p, af, g⟩) (hg : go ops σ g) (ha : ev σ a = .slice q N C) (hb : ev σ b = .int kk z) (h0 : 0 ≤ z) (h1 : z ≤ N) {zn : Nat} (hzn : z.toNat = zn) (hz : 0 < N)
    (h : RG P n w0 M ops S (L.set j (OwnI e q zn C (zs.take zn))) r (upd σ d (.slice q zn C)) K) : RG P n w0 M ops S L (.op .q i r) σ K :=
  slHil j hj hE ho hg ha hb h0 h1 hzn fun _ => rPieces (fun w hs => hs.imp j hj fun w hw => OwnI.take hw (by omega) (.inl (by
    rcases hw.2 with ⟨h2, h3⟩ | ⟨g', cap, cur, h2, _⟩
    · cases h2; omega
    · cases h2; rfl))) h
end
end Go.Proofs.Yteaahdakammffaa.V
namespace Go.Proofs.Yteaahdakammffaa
open Go Go.RowKit V
set_option linter.unusedVariables false
set_option linter.unusedSimpArgs false
set_option maxRecDepth 100000
theorem eq4A : Eq4 Try.prog 90 := ⟨Try.eqGuardType90, fun w a b c d a' b' c' d' => by
  have e1 := fun a b => run_equalIn_int (P := Try.prog) w 9998 2 .i64 .i64 a b Try.underlying2
  rw [show (10000 : Nat) = 9999 + 1 from rfl, run_equalIn_array (P := Try.prog) (w := w) 9999 _ _ Try.underlying90 (show Try.prog.info? 2 = some Try.t2 from by kernel_rfl)]
  simp only [show List.range 4 = [0, 1, 2, 3] from rfl, show Try.prog.cellsOf 2 = 1 by kernel_rfl, a4v]
  simp [Op.eqItems, part, Try.sizeOf2, e1]
  by_cases h1 : a = a' <;> by_cases h2 : b = b' <;> by_cases h3 : c = c' <;> by_cases h4 : d = d' <;> simp [h1, h2, h3, h4]⟩
end Go.Proofs.Yteaahdakammffaa
/- Rows copied with what they lead to; rows that are read. No condition. -/
namespace Go.Proofs.Yteaahdakammffaa.V
open Go Go.RowKit
set_option linter.unusedVariables false
set_option linter.unusedSimpArgs false
section
variable {P : Program} {ty e m by_ : Nat} {zc : List Value}
end
section
variable {P : Program} {n : Nat} {w0 : World} {M : Nat → Prop} {L L' Lf Lr : List (World → Prop)} {σ : Fr} {K K' : Ko} {c x y : Code} {ops : Array Oper} {S : World → Prop} {r : Sch} {i : Nat}
variable {d : Nat} {t : TypeId} {p : String} {af : Array Edge} {g : Option (Nat × Bool)} {a b : Operand}
variable {ty e m by_ N C : Nat} {ao : Option Addr} {xs : List Value} {zc : List Value}
end
section
variable {α : Type} {k : RK α} {e e1 e2 : Nat} {a a2 : Option Addr} {n c c2 q : Nat} {hs : Nat → Hd} {xs : List α} {x : α} {w : World}
theorem OwnR.cellsAt (h : OwnR k e e1 a n c hs xs w) : CellsAt a (rowsV k hs xs).flatten w := fun i v hi => by
 obtain ⟨b, hb, hc⟩ := h.2.1.cell hi
 exact ⟨b, 0, hb, by rw [Nat.zero_add]; exact hc⟩
theorem RdR.take {hs : Nat → Hd} (h : RdR k a n hs xs w) {j : Nat} (hj : j ≤ n) : RdR k a j hs (xs.take j) w :=
 ⟨by rw [List.length_take, h.1]; omega, by have := h.2.1; omega, fun i y hy => h.2.2 i y (by
  have := (List.getElem?_eq_some_iff.1 hy).1
  rw [List.length_take] at this
  rwa [List.getElem?_take_of_lt (by omega)] at hy)⟩
end
end Go.Proofs.Yteaahdakammffaa.V
/- The engine, part 15: rows that are turned round. No condition. -/
namespace Go.Proofs.Yteaahdakammffaa.V
open Go Go.RowKit
set_option linter.unusedVariables false
set_option linter.unusedSimpArgs false
section
variable {P : Program} {n : Nat} {w0 : World} {M : Nat → Prop} {L : List (World → Prop)} {σ : Fr} {K : Ko} {ops : Array Oper} {S : World → Prop} {r : Sch} {i : Nat}
variable {d : Nat} {t ty yt : TypeId} {p : String} {af : Array Edge} {g : Option (Nat × Bool)} {a b : Operand}
end
end Go.Proofs.Yteaahdakammffaa.V
/- Plain facts: exchanges of suits form a group; fixing exchanges; classes of cards. No condition. -/
namespace Go.Proofs.Yteaahdakammffaa.Iso
open Go.Proofs.Yteaahdakammffaa.V
set_option linter.unusedVariables false
set_option linter.unusedSimpArgs false
theorem four_eq {x y : List Int} (hx : x.length = 4) (hy : y.length = 4) (h : [x.getD 0 0, x.getD 1 0, x.getD 2 0, x.getD 3 0] = [y.getD 0 0, y.getD 1 0, y.getD 2 0, y.getD 3 0]) : x = y := by
 match x, hx, y, hy with
 | [a, b, c, d], _, [a', b', c', d'], _ => simpa using h
def indexOf4 (z : List (List Int)) (p : List Int) : Int := if z.contains p then (z.findIdx (fun q => decide (q = p)) : Nat) else -1
theorem indexOf4_yes {z : List (List Int)} {p : List Int} {i : Nat} (h : i < z.length) (h1 : z.getD i [] = p) (hal : ∀ j, j < i → z.getD j [] ≠ p) : indexOf4 z p = (i : Int) := by
 unfold indexOf4
 rw [gdE h] at h1
 rw [if_pos (by rw [List.contains_iff_mem, ← h1]; exact List.getElem_mem h)]
 congr 1
 rw [List.findIdx_eq h]
 refine ⟨by simp [h1], fun j hj => ?_⟩
 have := hal j hj
 rw [gdE (by omega)] at this
 simp [this]
theorem indexOf4_no {z : List (List Int)} {p : List Int} {i : Nat} (h : z.length ≤ i) (hal : ∀ j, j < i → z.getD j [] ≠ p) : indexOf4 z p = -1 := by
 unfold indexOf4
 rw [if_neg]
 rw [List.contains_iff_mem]
 intro hm
 obtain ⟨j, hj, e⟩ := List.getElem_of_mem hm
 exact hal j (by omega) (by rw [gdE hj]; exact e)
theorem indexOf4_neg (z : List (List Int)) (p : List Int) : decide (0 ≤ indexOf4 z p) = z.contains p := by
 unfold indexOf4
 cases h : z.contains p <;> simp
/-- Exchanges are the permutations of the four suits. -/
theorem srt_iff {a b : List Int} : srt a = srt b ↔ a.Perm b := ⟨fun h => (srt_perm a).symm.trans (h ▸ srt_perm b), fun h => sorted_eq (srt_sorted a) (srt_sorted b) ((srt_perm a).trans (h.trans (srt_perm b).symm))⟩
theorem srt_id : srt [0, 1, 2, 3] = [0, 1, 2, 3] := (srt_of (by decide) (List.Perm.refl _)).symm
theorem srt_id_iff {p : List Int} : srt p = [0, 1, 2, 3] ↔ p.Perm [0, 1, 2, 3] := by rw [← srt_id, srt_iff, srt_id]
theorem orders_perm : ∀ p ∈ orders, p.Perm [0, 1, 2, 3] := by decide +kernel
theorem orders_srt (p : List Int) (h : p ∈ orders) : srt p = [0, 1, 2, 3] := srt_id_iff.2 (orders_perm p h)
theorem orders_all : ∀ a b c d : Fin 4, [(a.val : Int), b.val, c.val, d.val].Perm [0, 1, 2, 3] → [(a.val : Int), b.val, c.val, d.val] ∈ orders := by decide +kernel
theorem orders_iff {p : List Int} : orders.contains p = decide (srt p = [0, 1, 2, 3]) := by
 rw [Bool.eq_iff_iff, List.contains_iff_mem, decide_eq_true_iff]
 refine ⟨orders_srt p, fun h => ?_⟩
 have hl : p.length = 4 := by rw [← (srt_perm p).length_eq, h]; rfl
 have hm : ∀ x ∈ p, 0 ≤ x ∧ x < 4 := fun x hx => by
  have := srt_mem.2 hx
  rw [h] at this
  simp at this; omega
 match p, hl with
 | [a, b, c, d], _ =>
  have ha := hm a (by simp); have hb := hm b (by simp); have hc := hm c (by simp); have hd := hm d (by simp)
  have := orders_all ⟨a.toNat, by omega⟩ ⟨b.toNat, by omega⟩ ⟨c.toNat, by omega⟩ ⟨d.toNat, by omega⟩
  simp only [Int.toNat_of_nonneg ha.1, Int.toNat_of_nonneg hb.1, Int.toNat_of_nonneg hc.1, Int.toNat_of_nonneg hd.1] at this
  exact this (srt_id_iff.1 h)
theorem orders_nodup : orders.Nodup := by decide +kernel
theorem orders_24 : orders.length = 24 := by decide +kernel
abbrev idP : List Int := [0, 1, 2, 3]
def compP (p q : List Int) : List Int := q.map fun k => p.getD k.toNat 0
theorem comp_mem : ∀ p ∈ orders, ∀ q ∈ orders, compP p q ∈ orders := by decide +kernel
theorem inv_ex : ∀ p ∈ orders, ∃ q ∈ orders, compP p q = idP ∧ compP q p = idP := by decide +kernel
theorem comp_id {p : List Int} (h : isP p) : compP p idP = p := (isP_eq h).symm
theorem id_comp : ∀ p ∈ orders, compP idP p = p := by decide +kernel
theorem comp_get {p q : List Int} {k : Nat} (h : k < q.length) : (compP p q).getD k 0 = p.getD (q.getD k 0).toNat 0 := by
 rw [gdE (by simpa [compP] using h), gdE h]; simp [compP]
theorem comp_assoc {p q r : List Int} (hq : isP q) (hr : isP r) : compP (compP p q) r = compP p (compP q r) := by
 unfold compP
 rw [List.map_map]
 apply List.map_congr_left
 intro k hk
 show (compP p q).getD k.toNat 0 = p.getD (q.getD k.toNat 0).toNat 0
 obtain ⟨j, hj, rfl⟩ := List.getElem_of_mem hk
 have := hr.2 j
 rw [gdE hj] at this
 exact comp_get (by rw [hq.1]; omega)
theorem take4_comp {p q : List Int} {c : Int} (hq : isP q) : take4 (compP p q) c = take4 p (take4 q c) := by
 have h1 := hq.2 (c % 4).toNat
 unfold take4
 rw [comp_get (by rw [hq.1]; omega)]
 have h2 : (c / 4 * 4 + q.getD (c % 4).toNat 0) / 4 = c / 4 := by omega
 have h3 : (c / 4 * 4 + q.getD (c % 4).toNat 0) % 4 = q.getD (c % 4).toNat 0 := by omega
 rw [h2, h3]
theorem image4_comp {p q z : List Int} (hq : isP q) : image4 (compP p q) z = image4 p (image4 q z) := by
 unfold image4
 rw [List.map_map]
 exact List.map_congr_left fun c _ => take4_comp hq
theorem image4_perm {p : List Int} {a b : List Int} (h : a.Perm b) : (image4 p a).Perm (image4 p b) := h.map _
theorem fixA_iff {p : List Int} {z : List (List Int)} : p ∈ fixA z ↔ p ∈ orders ∧ ∀ s ∈ z, (image4 p s).Perm s := by
 unfold fixA fixS
 rw [List.mem_filter, List.all_eq_true]
 simp only [fixB, decide_eq_true_iff, srt_iff]
theorem fixA_nodup (z : List (List Int)) : (fixA z).Nodup := orders_nodup.filter _
theorem fix_comp {z : List (List Int)} {p q : List Int} (hp : p ∈ fixA z) (hq : q ∈ fixA z) : compP p q ∈ fixA z := by
 rw [fixA_iff] at *
 refine ⟨comp_mem _ hp.1 _ hq.1, fun s hs => ?_⟩
 rw [image4_comp (orders_isP hq.1)]
 exact (image4_perm (hq.2 s hs)).trans (hp.2 s hs)
theorem fix_inv {z : List (List Int)} {p : List Int} (hp : p ∈ fixA z) : ∃ q ∈ fixA z, compP p q = idP ∧ compP q p = idP := by
 obtain ⟨q, hq, h1, h2⟩ := inv_ex p (fixA_iff.1 hp).1
 refine ⟨q, fixA_iff.2 ⟨hq, fun s hs => ?_⟩, h1, h2⟩
 have h3 := image4_perm (p := q) ((fixA_iff.1 hp).2 s hs)
 rw [← image4_comp (fixA_isP hp), h2, image4_id] at h3
 exact h3.symm
theorem sub_len {α : Type} [DecidableEq α] : ∀ {a b : List α}, a.Nodup → (∀ x ∈ a, x ∈ b) → a.length ≤ b.length
 | [], _, _, _ => by simp
 | x :: a, b, hn, hs => by
  have hx := hs x (by simp)
  have h1 := sub_len (a := a) (b := b.erase x) (List.nodup_cons.1 hn).2 fun y hy => (List.mem_erase_of_ne (show y ≠ x from fun e => (List.nodup_cons.1 hn).1 (by rw [← e]; exact hy))).2 (hs y (by simp [hy]))
  rw [List.length_erase_of_mem hx] at h1
  have := List.length_pos_of_mem hx
  simp only [List.length_cons]; omega
theorem split_len {α : Type} (f : α → Bool) : ∀ l : List α, l.length = (l.filter f).length + (l.filter fun x => !f x).length
 | [] => rfl
 | x :: l => by
  have := split_len f l
  cases h : f x <;> simp [h] <;> omega
/-- The number of fixing exchanges divides that of all. -/
theorem lagrange (F : List (List Int)) (hF : F.Nodup) (hO : ∀ f ∈ F, f ∈ orders) (h1 : idP ∈ F) (hi : ∀ f ∈ F, ∃ f' ∈ F, compP f f' = idP) (hc : ∀ f ∈ F, ∀ f' ∈ F, compP f f' ∈ F) :
  ∀ (n : Nat) (G : List (List Int)), G.length = n → G.Nodup → (∀ g ∈ G, g ∈ orders) → (∀ g ∈ G, ∀ f ∈ F, compP g f ∈ G) → F.length ∣ G.length := by
 intro n
 induction n using Nat.strongRecOn with
 | _ n ih =>
  intro G hn hG hGO hGF
  cases G with
  | nil => exact ⟨0, rfl⟩
  | cons g G0 =>
   have hgm : g ∈ g :: G0 := by simp
   generalize hGd : g :: G0 = G at *
   let C := F.map (compP g)
   obtain ⟨g', hg', -, e2⟩ := inv_ex g (hGO g hgm)
   have hinj : ∀ f ∈ F, compP g' (compP g f) = f := fun f hf => by
    rw [← comp_assoc (orders_isP (hGO g hgm)) (orders_isP (hO f hf)), e2, id_comp f (hO f hf)]
   have hCn : C.Nodup := by
    refine List.pairwise_map.2 (List.Pairwise.imp_of_mem ?_ hF)
    intro a b ha hb hab he
    exact hab (by rw [← hinj a ha, ← hinj b hb, he])
   have hCG : ∀ x ∈ C, x ∈ G := fun x hx => by
    obtain ⟨f, hf, rfl⟩ := List.mem_map.1 hx
    exact hGF g hgm f hf
   have hsp := split_len (fun x => C.contains x) G
   have hA : (G.filter fun x => C.contains x).length = F.length := by
    rw [show F.length = (F.map (compP g)).length from (by simp)]
    refine Nat.le_antisymm (sub_len (hG.filter _) fun x hx => List.contains_iff_mem.1 (List.mem_filter.1 hx).2) (sub_len hCn fun x hx => List.mem_filter.2 ⟨hCG x hx, List.contains_iff_mem.2 hx⟩)
   have hpos : 0 < F.length := List.length_pos_of_mem h1
   have hB := ih (G.filter fun x => !C.contains x).length (by omega) _ rfl (hG.filter _) (fun x hx => hGO x (List.mem_filter.1 hx).1) (fun x hx f hf => by
    obtain ⟨hxG, hxC⟩ := List.mem_filter.1 hx
    refine List.mem_filter.2 ⟨hGF x hxG f hf, ?_⟩
    simp only [Bool.not_eq_true', List.contains_eq_mem, decide_eq_false_iff_not] at hxC ⊢
    intro hm
    apply hxC
    obtain ⟨f1, hf1, e1⟩ := List.mem_map.1 hm
    obtain ⟨f2, hf2, e3⟩ := hi f hf
    refine List.mem_map.2 ⟨compP f1 f2, hc f1 hf1 f2 hf2, ?_⟩
    rw [← comp_assoc (orders_isP (hO f1 hf1)) (orders_isP (hO f2 hf2)), e1, comp_assoc (orders_isP (hO f hf)) (orders_isP (hO f2 hf2)), e3, comp_id (orders_isP (hGO x hxG))])
   rw [hsp, hA]
   obtain ⟨k, hk⟩ := hB
   exact ⟨k + 1, by rw [hk, Nat.mul_add, Nat.mul_one, Nat.add_comm]⟩
theorem fixA_div (z : List (List Int)) : 24 % (fixA z).length = 0 := by
 have h := lagrange (fixA z) (fixA_nodup z) (fun f hf => (fixA_iff.1 hf).1) (id_fix z) (fun f hf => by obtain ⟨q, h1, h2, -⟩ := fix_inv hf; exact ⟨q, h1, h2⟩) (fun f hf f' hf' => fix_comp hf hf') 24 orders orders_24 orders_nodup (fun _ h => h) (fun g hg f hf => comp_mem g hg f (fixA_iff.1 hf).1)
 rw [orders_24] at h
 exact Nat.mod_eq_zero_of_dvd h
theorem fixA_pos (z : List (List Int)) : 0 < (fixA z).length := List.length_pos_of_mem (id_fix z)
theorem fixA_in {z : List (List Int)} {i k j : Nat} (hi : i < (fixA z).length) (hk : k < z.length) (hj : j < (z.getD k []).length) : (z.getD k []).contains ((image4 ((fixA z).getD i []) (z.getD k [])).getD j 0) = true := by
 have h := (fixA_iff.1 (show (fixA z).getD i [] ∈ fixA z by rw [gdE hi]; exact List.getElem_mem hi)).2 (z.getD k []) (by rw [gdE hk]; exact List.getElem_mem hk)
 rw [List.contains_iff_mem]
 refine h.mem_iff.1 ?_
 rw [gdE (l := image4 _ _) (by rw [image4_len]; exact hj)]
 exact List.getElem_mem _
end Go.Proofs.Yteaahdakammffaa.Iso
/- Plain facts: orbits of cards, sizes of classes, same deals, what laws on exchanges call. No condition. -/
namespace Go.Proofs.Yteaahdakammffaa.Iso
open Go.Proofs.Yteaahdakammffaa.V
set_option linter.unusedVariables false
set_option linter.unusedSimpArgs false
def rep (z : List (List Int)) (c : Int) : Int := (alk (fixA z) c).getD 0 0
/-- Cards that are in no set. -/
def unused (z : List (List Int)) (k : Nat) : List Int := ((List.range k).map Int.ofNat).filter fun c => !z.flatten.contains c
/-- What ExchangeCards returns. -/
def exE (z p : List Int) : Int := if areB z = false then 1 else if orders.contains p = false then 2 else 0
def exY (z p : List Int) : List Int := if exE z p = 0 then image4 p z else []
theorem exE_1 {z p : List Int} (h : areB z = false) : exE z p = 1 := if_pos h
theorem exE_2 {z p : List Int} (h : areB z = true) (h1 : orders.contains p = false) : exE z p = 2 := by unfold exE; rw [h, if_neg (by simp), if_pos h1]
theorem exE_0 {z p : List Int} (h : areB z = true) (h1 : orders.contains p = true) : exE z p = 0 := by unfold exE; rw [h, h1]; rfl
theorem exY_0 {z p : List Int} (h : exE z p = 0) : exY z p = image4 p z := if_pos h
theorem exY_no {z p : List Int} (h : exE z p ≠ 0) : exY z p = [] := if_neg h
theorem fixA_ord {z : List (List Int)} {i : Nat} (hi : i < (fixA z).length) : orders.contains ((fixA z).getD i []) = true := by
 rw [gdE hi]; exact List.contains_iff_mem.2 (fixA_iff.1 (List.getElem_mem hi)).1
/-- What AlikeCards returns. -/
def alE (z : List (List Int)) (c : Int) : Int := if codeS z ≠ 0 then codeS z else if 0 ≤ c ∧ c ≤ 51 then 0 else 2
def alY (z : List (List Int)) (c : Int) : List Int := if alE z c = 0 then alk (fixA z) c else []
/-- Same deals. -/
def dealB (p : List Int) (a b : List (List Int)) (k : Nat) : Bool := (List.range k).all fun i => decide (srt (image4 p (a.getD i [])) = srt (b.getD i []))
def sameTo (a b : List (List Int)) (k : Nat) : Bool := (orders.take k).any fun p => dealB p a b a.length
def sameB (a b : List (List Int)) : Bool := orders.any fun p => dealB p a b a.length
def sdE (a b : List (List Int)) : Int := if codeS a ≠ 0 then codeS a else if codeS b ≠ 0 then codeS b else if a.length ≠ b.length then 5 else 0
def sdB (a b : List (List Int)) : Bool := decide (sdE a b = 0) && sameB a b
def imgs (p : List Int) (a : List (List Int)) : List (List Int) := a.map (image4 p)
/-- Numbers of classes. -/
def cntE (n : Int) : Int := if 1 ≤ n ∧ n ≤ 3 then 0 else 2
def cntV (n : Int) : Int := if n = 1 then 13 else if n = 2 then 169 else if n = 3 then 1755 else 0
theorem take_snocR {z : List (List Int)} {i : Nat} (h : i < z.length) : z.take i ++ [z.getD i []] = z.take (i + 1) := by
 rw [List.take_add_one, gdE h, List.getElem?_eq_getElem h]; rfl
theorem ord_len {p : List Int} (h : p.length ≠ 4) : orders.contains p = false := by
 rw [← Bool.not_eq_true, List.contains_iff_mem]; exact fun hm => h (orders_isP hm).1
/-- Cards that are not in a list. -/
def others (z : List Int) (k : Nat) : List Int := ((List.range k).map Int.ofNat).filter fun c => !z.contains c
theorem others_yes {z : List Int} {k : Nat} (h : z.contains (k : Int) = true) : others z (k + 1) = others z k := by
 unfold others; rw [List.range_succ, List.map_append, List.filter_append, show [k].map Int.ofNat = [(k : Int)] from rfl, List.filter_cons_of_neg (by simp only [h]; decide)]; simp
theorem others_no {z : List Int} {k : Nat} (h : z.contains (k : Int) = false) : others z (k + 1) = others z k ++ [(k : Int)] := by
 unfold others; rw [List.range_succ, List.map_append, List.filter_append, show [k].map Int.ofNat = [(k : Int)] from rfl, List.filter_cons_of_pos (by simp only [h]; decide)]; simp
theorem others_le (z : List Int) (k : Nat) : (others z k).length ≤ k := by
 unfold others
 exact Nat.le_trans (List.length_filter_le _ _) (by simp)
theorem put_perm {o z : List Int} {i k : Nat} (h : o.Perm (z.take i)) (hi : i < z.length) : (o.take k ++ [z.getD i 0] ++ o.drop k).Perm (z.take (i + 1)) := by
 rw [take_snoc hi]
 refine List.Perm.trans ?_ (h.append_right [z.getD i 0])
 rw [List.append_assoc]
 refine (List.Perm.append_left _ (List.perm_append_comm)).trans ?_
 rw [← List.append_assoc, List.take_append_drop]
def feY (z : List (List Int)) : List (List Int) := if codeS z = 0 then fixA z else []
theorem feY_yes {z : List (List Int)} (h : codeS z = 0) : feY z = fixA z := if_pos h
theorem feY_no {z : List (List Int)} (h : codeS z ≠ 0) : feY z = [] := if_neg h
theorem fe_ex {z : List (List Int)} {i k : Nat} (h0 : codeS z = 0) (hi : i < (feY z).length) (hk : k < z.length) : exE (z.getD k []) ((feY z).getD i []) = 0 ∧ (exY (z.getD k []) ((feY z).getD i [])).length = (z.getD k []).length ∧ ∀ j, j < (exY (z.getD k []) ((feY z).getD i [])).length → (z.getD k []).contains ((exY (z.getD k []) ((feY z).getD i [])).getD j 0) = true := by
 rw [feY_yes h0] at hi ⊢
 have h1 := exE_0 (z := z.getD k []) (decide_eq_true (codeS_at h0 hk)) (fixA_ord hi)
 rw [exY_0 h1]
 exact ⟨h1, image4_len _ _, fun j hj => fixA_in hi hk (by rw [image4_len] at hj; exact hj)⟩
theorem fe_24 {z : List (List Int)} (h0 : codeS z = 0) : 0 < (feY z).length ∧ 24 % (feY z).length = 0 ∧ (feY z).length ≤ 256 := by
 rw [feY_yes h0]; exact ⟨fixA_pos z, fixA_div z, fixA_len z⟩
theorem mod24 {n : Nat} (h : 24 % n = 0) : (24 : Int) % (n : Int) = 0 := by rw [show (24 : Int) = ((24 : Nat) : Int) from rfl, ← Int.natCast_emod, h]; rfl
theorem fix4_eq {z : List (List Int)} {i : Nat} (h : i < (fixA z).length) : [((fixA z).getD i []).getD 0 0, ((fixA z).getD i []).getD 1 0, ((fixA z).getD i []).getD 2 0, ((fixA z).getD i []).getD 3 0] = (fixA z).getD i [] :=
 (isP_eq (fixA_isP (show (fixA z).getD i [] ∈ fixA z by rw [gdE h]; exact List.getElem_mem h))).symm
end Go.Proofs.Yteaahdakammffaa.Iso
/- Sources of draws: what a function that draws is handed. No condition. -/
namespace Go.Proofs.Yteaahdakammffaa
open Go Go.RowKit V
set_option linter.unusedVariables false
set_option linter.unusedSimpArgs false
def okBytes (bs : List Int) : Prop := (∀ x ∈ bs, 0 ≤ x ∧ x ≤ 255) ∧ bs.length ≤ 1000000000000000
/-- A source at block 'bk' over the bytes 'bs'. -/
def srcP (bk : Nat) (ca : Option Addr) (bs : List Int) (cc : Nat) : World → Prop := fun w =>
  ∃ p s : Int, blk bk 130 [.slice ca bs.length cc, .int .i64 p, .int .i64 s] w ∧ 0 ≤ p ∧ p ≤ bs.length ∧ 0 ≤ s ∧ s ≤ 2147483646
/-- The bytes, whatever becomes of block 'bk'. -/
def Code_ (bk : Nat) (ca : Option Addr) (bs : List Int) (w : World) : Prop := ∀ w', Upd (fun k => k = bk) w w' → CellsAt ca (bs.map (Value.int .u8)) w'
def SrcIn (bk : Nat) (ca : Option Addr) (bs : List Int) (cc : Nat) (w : World) : Prop := srcP bk ca bs cc w ∧ Code_ bk ca bs w ∧ okBytes bs
theorem srcP_mem {bk : Nat} {ca : Option Addr} {bs : List Int} {cc : Nat} : ∀ (f : Nat → Prop) (w : World), St f (srcP bk ca bs cc) w → f bk := by
  intro f w h
  refine Classical.byContradiction fun hn => ?_
  obtain ⟨p, s, h1, _⟩ := h.out
  have hlt : bk < w.heap.size := (Array.getElem?_eq_some_iff.1 h1).1
  obtain ⟨p', s', h2, _⟩ := h { w with heap := w.heap.setIfInBounds bk (.map #[] 0) } fun k hk => by
    have : bk ≠ k := fun e => hn (e ▸ hk)
    show (w.heap.setIfInBounds bk (.map #[] 0))[k]? = _
    rw [Array.getElem?_setIfInBounds_ne this]
  unfold blk at h2
  simp [hlt] at h2
theorem srcP_st {bk : Nat} {ca : Option Addr} {bs : List Int} {cc : Nat} : ∀ (f : Nat → Prop) (w : World), srcP bk ca bs cc w → f bk → St f (srcP bk ca bs cc) w := by
  rintro f w ⟨p, s, h1, h2⟩ hf w' ha
  exact ⟨p, s, (blk.St _ _ _ h1 hf) w' ha, h2⟩
theorem Code_.upd {bk : Nat} {ca : Option Addr} {bs : List Int} {w w' : World} (h : Code_ bk ca bs w) (hu : Upd (fun k => k = bk) w w') : Code_ bk ca bs w' := fun w'' hu' => h w'' (hu.trans hu')
theorem Sep.startS {w0 : World} {bk : Nat} {ca : Option Addr} {bs : List Int} {cc : Nat} (h : srcP bk ca bs cc w0) : V.Sep w0 (fun k => k = bk) [srcP bk ca bs cc] w0 :=
  ⟨.refl _ _, [fun k => k = bk], fun k hk => ⟨.inr hk, by subst hk; obtain ⟨_, _, h, _⟩ := h; exact (Array.getElem?_eq_some_iff.1 h).1⟩, by simp, srcP_st _ _ h rfl, trivial⟩
/-- Two pieces lie apart. -/
theorem SepL_ne {M : Nat → Prop} {B T : Nat} {w : World} : ∀ {fs : List (Nat → Prop)} {L : List (World → Prop)}, SepL M B T fs L w → ∀ {i j : Nat} {φ ψ : World → Prop}, L[i]? = some φ → L[j]? = some ψ → i ≠ j →
    ∃ f f', St f φ w ∧ St f' ψ w ∧ ∀ k, f k → ¬ f' k := by
  intro fs
  induction fs with
  | nil => intro L h i j φ ψ hi; cases L with | nil => simp at hi | cons _ _ => exact h.elim
  | cons f fs ih =>
    intro L h i j φ ψ hi hj hne
    cases L with
    | nil => exact h.elim
    | cons χ L =>
      obtain ⟨h1, h2, h3, h4⟩ := h
      cases i with
      | zero =>
        cases j with
        | zero => exact absurd rfl hne
        | succ j =>
          simp at hi; subst hi
          obtain ⟨f', hf', hst⟩ := h4.at_ (by simpa using hj)
          exact ⟨f, f', h3, hst, fun k hk hk' => h2 f' (List.mem_of_getElem? hf') k hk hk'⟩
      | succ i =>
        cases j with
        | zero =>
          simp at hj; subst hj
          obtain ⟨f', hf', hst⟩ := h4.at_ (by simpa using hi)
          exact ⟨f', f, hst, h3, fun k hk hk' => h2 f' (List.mem_of_getElem? hf') k hk' hk⟩
        | succ j => exact ih h4 (by simpa using hi) (by simpa using hj) (by omega)
/-- The list of a draw's choices, whatever becomes of the source. -/
def Lst (bk : Nat) (a : Option Addr) (xs : List Int) (w : World) : Prop := ∀ w', Upd (fun k => k = bk) w w' → CellsAt a (xs.map (Value.int .i64)) w'
theorem Lst.of {w0 : World} {M : Nat → Prop} {L : List (World → Prop)} {w : World} (hs : Sep w0 M L w) (i j : Nat) {lb e bk : Nat} {ca : Option Addr} {bs : List Int} {cc : Nat} {xs : List Int} {vs : List Value}
    (hi : L[i]? = some (blk lb e vs)) (hj : L[j]? = some (srcP bk ca bs cc)) (hne : i ≠ j) (hv : vs = xs.map (Value.int .i64)) : Lst bk (some ⟨lb, 0, none⟩) xs w := by
  subst hv
  intro w' hu
  obtain ⟨_, fs, h⟩ := hs
  obtain ⟨f, f', h1, h2, h3⟩ := SepL_ne h hi hj hne
  have hl := blk.mem h1
  have hb := srcP_mem f' w h2
  have hlt : lb < w.heap.size := (Array.getElem?_eq_some_iff.1 h1.out).1
  refine CellsAt.blk (e := e) ?_
  have hne' : ¬ lb = bk := fun h => h3 lb hl (h ▸ hb)
  unfold blk
  rw [hu.block lb hlt hne']
  exact h1.out
def toI : Value → Int
  | .int _ z => z
  | _ => 0
theorem Lst.of' {w0 : World} {M : Nat → Prop} {L : List (World → Prop)} {w : World} (hs : Sep w0 M L w) (i j : Nat) {lb e bk : Nat} {ca : Option Addr} {bs : List Int} {cc : Nat} {vs : List Value}
    (hi : L[i]? = some (blk lb e vs)) (hj : L[j]? = some (srcP bk ca bs cc)) (hne : i ≠ j) (hv : vs = (vs.map toI).map (Value.int .i64)) : Lst bk (some ⟨lb, 0, none⟩) (vs.map toI) w := Lst.of hs i j hi hj hne hv
theorem map_get {f : Int → Value} {l : List Int} {k : Nat} (h : k < l.length) : (l.map f)[k]? = some (f (l.getD k 0)) := by
  simp [List.getD, List.getElem?_eq_getElem h]
theorem okBytes.at_ {bs : List Int} (h : okBytes bs) (k : Nat) : 0 ≤ bs.getD k 0 ∧ bs.getD k 0 ≤ 255 := by
  by_cases hk : k < bs.length
  · have := h.1 _ (List.getElem_mem hk)
    simp [List.getD, List.getElem?_eq_getElem hk]; exact this
  · simp [List.getD, List.getElem?_eq_none (Nat.le_of_not_lt hk)]
theorem emod_bd (a : Int) {n : Int} (h : 1 < n) : 0 ≤ a % n ∧ (a % n < n ∨ a % n = 0) := ⟨Int.emod_nonneg _ (by omega), .inl (Int.emod_lt_of_pos _ (by omega))⟩
theorem getD_mem {l : List Int} {k : Nat} (h : k < l.length) : l.getD k 0 ∈ l := by
  simp [List.getD, List.getElem?_eq_getElem h]
end Go.Proofs.Yteaahdakammffaa
