/- Contracts of the reference: lists that are sorted, images. Their conditions stand in each. -/
import Derived.Test.YteaahdakammffaaZ3Al
import Derived.Test.YteaahdakammffaaZ1Al
import Derived.Test.YteaahdakammffaaZ2Al
import Derived.Test.YteaahdakammffaaRows
import Derived.ChangeKeysEq
namespace Go.Proofs.Yteaahdakammffaa
open Go Go.RowKit V
set_option linter.unusedVariables false
set_option linter.unusedSimpArgs false
set_option maxRecDepth 100000
theorem bsl22_0   : ∀ w, (Instr.buildSlice 22 0 ([] : List (Nat × Value)).toArray).run Try.prog w = .ok (.slice (some ⟨w.heap.size, 0, none⟩) 0 0) (w.alloc (.cells ([] : List Value).toArray 23)) := by
 intro w; simp [Instr.buildSlice, Instr.fill, Try.zeroValue23, Try.runUnderlying22, Try.sizeOf23, Value.cells_int, newRow, show Array.range 0 = #[] from by decide]
theorem bsl22_1 (v0 : Value) (h0 : v0.cells = #[v0]) : ∀ w, (Instr.buildSlice 22 1 ([(0, v0)] : List (Nat × Value)).toArray).run Try.prog w = .ok (.slice (some ⟨w.heap.size, 0, none⟩) 1 1) (w.alloc (.cells ([v0] : List Value).toArray 23)) := by
 intro w; simp [Instr.buildSlice, Instr.fill, Try.zeroValue23, Try.runUnderlying22, Try.sizeOf23, Value.cells_int, newRow, show Array.range 1 = #[0] from by decide, h0]
theorem bsl23_0   : ∀ w, (Instr.buildSlice 23 0 ([] : List (Nat × Value)).toArray).run Try.prog w = .ok (.slice (some ⟨w.heap.size, 0, none⟩) 0 0) (w.alloc (.cells ([] : List Value).toArray 2)) := by
 intro w; simp [Instr.buildSlice, Instr.fill, Try.zeroValue2, Try.runUnderlying23, Try.sizeOf2, Value.cells_int, newRow, show Array.range 0 = #[] from by decide]
theorem bsl23_4 (v0 v1 v2 v3 : Value) (h0 : v0.cells = #[v0]) (h1 : v1.cells = #[v1]) (h2 : v2.cells = #[v2]) (h3 : v3.cells = #[v3]) : ∀ w, (Instr.buildSlice 23 4 ([(0, v0), (1, v1), (2, v2), (3, v3)] : List (Nat × Value)).toArray).run Try.prog w = .ok (.slice (some ⟨w.heap.size, 0, none⟩) 4 4) (w.alloc (.cells ([v0, v1, v2, v3] : List Value).toArray 2)) := by
 intro w; simp [Instr.buildSlice, Instr.fill, Try.zeroValue2, Try.runUnderlying23, Try.sizeOf2, Value.cells_int, newRow, show Array.range 4 = #[0, 1, 2, 3] from by decide, h0, h1, h2, h3]
theorem spec_l07Suits_c (w : World) :
  Calls Try.prog 86 #[] w (Ret fun v w' => ∃ x : Option Addr × Nat × Nat × (Nat → Hd) × List (List Int), v = .slice x.1 x.2.1 x.2.2.1 ∧ (x.2.2.2.2 = Iso.orders) ∧ Sep w none_ [OwnR maK 23 2 x.1 x.2.1 x.2.2.1 x.2.2.2.1 x.2.2.2.2] w') := by
 refine fn (M := none_) (rs := [.tmp 0]) Try.func86 rfl Try.ntmps86 rfl rfl (Sep.start _ _) ?_
 refine hSeq ?_
 refine hReg (sq 0 sz) (by kernel_rfl) ?_
 refine asS rfl rfl rfl ?_
 refine rNil ?_
 refine qSeq rfl ?_
 refine hSeq ?_
 refine hReg (sl 0 (sq 1 sz)) (by kernel_rfl) ?_
 refine bsl trv1 rfl rfl rfl (bsl22_0) (fun bkl1 hbkl1 => ?_)
 refine asS rfl rfl rfl ?_
 refine rNil ?_
 refine qSeq rfl ?_
 refine hSeq ?_
 refine hSeq ?_
 refine hReg (sq 0 sz) (by kernel_rfl) ?_
 refine asI rfl rfl rfl ?_
 refine rNil ?_
 refine qSeq rfl ?_
 refine hBlk ?_
 refine hPieces (fun _ h => Sep.litR maK 23 2 (fun _ => (none, 0)) h 0 rfl) ?_
 refine hLoop (α := Nat × Nat × Hd × (Nat → Hd)) (fun x => x.1 ≤ 256 ∧ x.2.1 ≤ x.1) (fun x => 256 - x.1) (fun x => [OwnR maK 23 2 x.2.2.1.1 x.2.1 x.2.2.1.2 x.2.2.2 (Iso.ords x.1)]) (fun x => [(1, .slice x.2.2.1.1 x.2.1 x.2.2.1.2), (2, .int .i64 (x.1 : Int))]) ((0, 0, (((some ⟨bkl1, 0, none⟩), 0), (fun _ => (none, 0))))) ⟨Nat.zero_le _, Nat.le_refl _⟩ (fun _ h => h.pick [0]) ⟨rfl, rfl, trivial⟩ ?_
 rintro ⟨k, q, hd⟩ τ1 ⟨hk, hq⟩
 dsimp only at hk hq
 refine hRe [(1, .slice hd.1.1 q hd.1.2), (2, .int .i64 (k : Int))] [OwnR maK 23 2 hd.1.1 q hd.1.2 hd.2 (Iso.ords k)] rfl rfl ?_
 refine hSeq ?_
 refine hSeq ?_
 refine hReg (sq 0 (sq 1 sz)) (by kernel_rfl) ?_
 refine mvI rfl rfl rfl ?_
 refine lss rfl rfl rfl rfl ?_
 refine rNil ?_
 refine qSeq rfl ?_
 refine hIfD rfl (fun c1 => ?_) (fun c1 => ?_)
 ·
  replace c1 : (k : Int) < 256 := c1
  refine hSkip ?_
  refine qSeq rfl ?_
  refine hSeq ?_
  refine hBlk ?_
  refine hSeq ?_
  refine hReg (sq 0 (sq 1 (sq 2 (sq 3 (sq 4 (sq 5 (sq 6 (sq 7 (sq 8 (sq 9 (sl 10 (sq 11 sz)))))))))))) (by kernel_rfl) ?_
  refine mvI rfl rfl rfl ?_
  refine quo rfl rfl rfl rfl (by omega) ?_
  refine mvI rfl rfl rfl ?_
  refine quo rfl rfl rfl rfl (by omega) ?_
  refine rem rfl rfl rfl rfl (by omega) ?_
  refine mvI rfl rfl rfl ?_
  refine quo rfl rfl rfl rfl (by omega) ?_
  refine rem rfl rfl rfl rfl (by omega) ?_
  refine mvI rfl rfl rfl ?_
  refine rem rfl rfl rfl rfl (by omega) ?_
  refine bsl trv1 rfl rfl rfl (bsl23_4 (.int .i64 _) (.int .i64 _) (.int .i64 _) (.int .i64 _) rfl rfl rfl rfl) (fun bkl2 hbkl2 => ?_)
  refine asS rfl rfl rfl ?_
  refine rNil ?_
  refine qSeq rfl ?_
  refine hSeq ?_
  refine hDraw (Ls := [blk bkl2 2 [.int .i64 (((k : Int) / 64)), .int .i64 (((((k : Int) / 16)) % 4)), .int .i64 (((((k : Int) / 4)) % 4)), .int .i64 (((k : Int) % 4))]]) (by kernel_rfl) (sq 0 (sq 1 (sq 2 (sq 3 (sq 4 (sq 5 (sq 6 (sq 7 (sq 8 (sq 9 (sq 10 (sq 11 (sq 12 (sq 13 (sq 14 (sq 15 (sq 16 (sq 17 (sq 18 (sq 19 (sq 20 (sq 21 (sq 22 (sq 23 (sq 24 (sq 25 (sq 26 (sq 27 (sq 28 (sq 29 (sq 30 (sq 31 (sq 32 (sq 33 (sq 34 (sq 35 (sq 36 (sq 37 (sq 38 (sq 39 (sq 40 (sq 41 (sq 42 (sq 43 (sq 44 (sq 45 (sq 46 (sq 47 (sq 48 (sq 49 (sq 50 (sq 51 sz)))))))))))))))))))))))))))))))))))))))))))))))))))) (by kernel_rfl) (.cons_cons _ (.cons _ .slnil)) ?_
  refine mvS rfl rfl rfl ?_
  refine ixIq (zn := 0) el23 ((Kn.at_ 0 rfl).imp fun _ h => RdI.lit (zs := [((k : Int) / 64), ((((k : Int) / 16)) % 4), ((((k : Int) / 4)) % 4), ((k : Int) % 4)]) (n := 4) h rfl rfl rfl) (fun _ h => h.pick [0]) rfl rfl rfl rfl (by omega) (by omega) rfl ?_
  intro ae1 e1
  refine ldq Try.isAgg2 (e1) rfl rfl rfl ?_
  refine mvS rfl rfl rfl ?_
  refine ixIq (zn := 1) el23 ((Kn.at_ 0 rfl).imp fun _ h => RdI.lit (zs := [((k : Int) / 64), ((((k : Int) / 16)) % 4), ((((k : Int) / 4)) % 4), ((k : Int) % 4)]) (n := 4) h rfl rfl rfl) (fun _ h => h.pick [0]) rfl rfl rfl rfl (by omega) (by omega) rfl ?_
  intro ae2 e2
  refine ldq Try.isAgg2 (e2) rfl rfl rfl ?_
  refine neq rfl rfl rfl rfl ?_
  refine mvB rfl rfl rfl ?_
  refine rBoolD (d := 27) rfl (fun g2 => ?_) (fun g2 => ?_)
  ·
   replace g2 : ([((k : Int) / 64), ((((k : Int) / 16)) % 4), ((((k : Int) / 4)) % 4), ((k : Int) % 4)].getD 0 0) ≠ ([((k : Int) / 64), ((((k : Int) / 16)) % 4), ((((k : Int) / 4)) % 4), ((k : Int) % 4)].getD 1 0) := g2
   refine mvS rfl rfl rfl ?_
   refine ixIq (zn := 0) el23 ((Kn.at_ 0 rfl).imp fun _ h => RdI.lit (zs := [((k : Int) / 64), ((((k : Int) / 16)) % 4), ((((k : Int) / 4)) % 4), ((k : Int) % 4)]) (n := 4) h rfl rfl rfl) (fun _ h => h.pick [0]) rfl rfl rfl rfl (by omega) (by omega) rfl ?_
   intro ae3 e3
   refine ldq Try.isAgg2 (e3) rfl rfl rfl ?_
   refine mvS rfl rfl rfl ?_
   refine ixIq (zn := 2) el23 ((Kn.at_ 0 rfl).imp fun _ h => RdI.lit (zs := [((k : Int) / 64), ((((k : Int) / 16)) % 4), ((((k : Int) / 4)) % 4), ((k : Int) % 4)]) (n := 4) h rfl rfl rfl) (fun _ h => h.pick [0]) rfl rfl rfl rfl (by omega) (by omega) rfl ?_
   intro ae4 e4
   refine ldq Try.isAgg2 (e4) rfl rfl rfl ?_
   refine neq rfl rfl rfl rfl ?_
   refine pickB rfl rfl rfl rfl ?_
   refine mvB rfl rfl rfl ?_
   refine rBoolD (d := 36) rfl (fun g3 => ?_) (fun g3 => ?_)
   ·
    replace g3 : ([((k : Int) / 64), ((((k : Int) / 16)) % 4), ((((k : Int) / 4)) % 4), ((k : Int) % 4)].getD 0 0) ≠ ([((k : Int) / 64), ((((k : Int) / 16)) % 4), ((((k : Int) / 4)) % 4), ((k : Int) % 4)].getD 2 0) := g3
    refine mvS rfl rfl rfl ?_
    refine ixIq (zn := 0) el23 ((Kn.at_ 0 rfl).imp fun _ h => RdI.lit (zs := [((k : Int) / 64), ((((k : Int) / 16)) % 4), ((((k : Int) / 4)) % 4), ((k : Int) % 4)]) (n := 4) h rfl rfl rfl) (fun _ h => h.pick [0]) rfl rfl rfl rfl (by omega) (by omega) rfl ?_
    intro ae5 e5
    refine ldq Try.isAgg2 (e5) rfl rfl rfl ?_
    refine mvS rfl rfl rfl ?_
    refine ixIq (zn := 3) el23 ((Kn.at_ 0 rfl).imp fun _ h => RdI.lit (zs := [((k : Int) / 64), ((((k : Int) / 16)) % 4), ((((k : Int) / 4)) % 4), ((k : Int) % 4)]) (n := 4) h rfl rfl rfl) (fun _ h => h.pick [0]) rfl rfl rfl rfl (by omega) (by omega) rfl ?_
    intro ae6 e6
    refine ldq Try.isAgg2 (e6) rfl rfl rfl ?_
    refine neq rfl rfl rfl rfl ?_
    refine pickB rfl rfl rfl rfl ?_
    refine mvB rfl rfl rfl ?_
    refine rBoolD (d := 45) rfl (fun g4 => ?_) (fun g4 => ?_)
    ·
     replace g4 : ([((k : Int) / 64), ((((k : Int) / 16)) % 4), ((((k : Int) / 4)) % 4), ((k : Int) % 4)].getD 0 0) ≠ ([((k : Int) / 64), ((((k : Int) / 16)) % 4), ((((k : Int) / 4)) % 4), ((k : Int) % 4)].getD 3 0) := g4
     refine mvS rfl rfl rfl ?_
     refine ixIq (zn := 1) el23 ((Kn.at_ 0 rfl).imp fun _ h => RdI.lit (zs := [((k : Int) / 64), ((((k : Int) / 16)) % 4), ((((k : Int) / 4)) % 4), ((k : Int) % 4)]) (n := 4) h rfl rfl rfl) (fun _ h => h.pick [0]) rfl rfl rfl rfl (by omega) (by omega) rfl ?_
     intro ae7 e7
     refine ldq Try.isAgg2 (e7) rfl rfl rfl ?_
     refine mvS rfl rfl rfl ?_
     refine ixIq (zn := 2) el23 ((Kn.at_ 0 rfl).imp fun _ h => RdI.lit (zs := [((k : Int) / 64), ((((k : Int) / 16)) % 4), ((((k : Int) / 4)) % 4), ((k : Int) % 4)]) (n := 4) h rfl rfl rfl) (fun _ h => h.pick [0]) rfl rfl rfl rfl (by omega) (by omega) rfl ?_
     intro ae8 e8
     refine ldq Try.isAgg2 (e8) rfl rfl rfl ?_
     refine neq rfl rfl rfl rfl ?_
     refine pickB rfl rfl rfl rfl ?_
     refine mvB rfl rfl rfl ?_
     refine rBoolD (d := 54) rfl (fun g5 => ?_) (fun g5 => ?_)
     ·
      replace g5 : ([((k : Int) / 64), ((((k : Int) / 16)) % 4), ((((k : Int) / 4)) % 4), ((k : Int) % 4)].getD 1 0) ≠ ([((k : Int) / 64), ((((k : Int) / 16)) % 4), ((((k : Int) / 4)) % 4), ((k : Int) % 4)].getD 2 0) := g5
      refine mvS rfl rfl rfl ?_
      refine ixIq (zn := 1) el23 ((Kn.at_ 0 rfl).imp fun _ h => RdI.lit (zs := [((k : Int) / 64), ((((k : Int) / 16)) % 4), ((((k : Int) / 4)) % 4), ((k : Int) % 4)]) (n := 4) h rfl rfl rfl) (fun _ h => h.pick [0]) rfl rfl rfl rfl (by omega) (by omega) rfl ?_
      intro ae9 e9
      refine ldq Try.isAgg2 (e9) rfl rfl rfl ?_
      refine mvS rfl rfl rfl ?_
      refine ixIq (zn := 3) el23 ((Kn.at_ 0 rfl).imp fun _ h => RdI.lit (zs := [((k : Int) / 64), ((((k : Int) / 16)) % 4), ((((k : Int) / 4)) % 4), ((k : Int) % 4)]) (n := 4) h rfl rfl rfl) (fun _ h => h.pick [0]) rfl rfl rfl rfl (by omega) (by omega) rfl ?_
      intro ae10 e10
      refine ldq Try.isAgg2 (e10) rfl rfl rfl ?_
      refine neq rfl rfl rfl rfl ?_
      refine pickB rfl rfl rfl rfl ?_
      refine mvB rfl rfl rfl ?_
      refine rBoolD (d := 63) rfl (fun g6 => ?_) (fun g6 => ?_)
      ·
       replace g6 : ([((k : Int) / 64), ((((k : Int) / 16)) % 4), ((((k : Int) / 4)) % 4), ((k : Int) % 4)].getD 1 0) ≠ ([((k : Int) / 64), ((((k : Int) / 16)) % 4), ((((k : Int) / 4)) % 4), ((k : Int) % 4)].getD 3 0) := g6
       refine mvS rfl rfl rfl ?_
       refine ixIq (zn := 2) el23 ((Kn.at_ 0 rfl).imp fun _ h => RdI.lit (zs := [((k : Int) / 64), ((((k : Int) / 16)) % 4), ((((k : Int) / 4)) % 4), ((k : Int) % 4)]) (n := 4) h rfl rfl rfl) (fun _ h => h.pick [0]) rfl rfl rfl rfl (by omega) (by omega) rfl ?_
       intro ae11 e11
       refine ldq Try.isAgg2 (e11) rfl rfl rfl ?_
       refine mvS rfl rfl rfl ?_
       refine ixIq (zn := 3) el23 ((Kn.at_ 0 rfl).imp fun _ h => RdI.lit (zs := [((k : Int) / 64), ((((k : Int) / 16)) % 4), ((((k : Int) / 4)) % 4), ((k : Int) % 4)]) (n := 4) h rfl rfl rfl) (fun _ h => h.pick [0]) rfl rfl rfl rfl (by omega) (by omega) rfl ?_
       intro ae12 e12
       refine ldq Try.isAgg2 (e12) rfl rfl rfl ?_
       refine neq rfl rfl rfl rfl ?_
       refine pickB rfl rfl rfl rfl ?_
       refine rNil ?_
       refine qSeq rfl ?_
       refine hIfD rfl (fun c7 => ?_) (fun c7 => ?_)
       ·
        replace c7 : ([((k : Int) / 64), ((((k : Int) / 16)) % 4), ((((k : Int) / 4)) % 4), ((k : Int) % 4)].getD 2 0) ≠ ([((k : Int) / 64), ((((k : Int) / 16)) % 4), ((((k : Int) / 4)) % 4), ((k : Int) % 4)].getD 3 0) := c7
        refine hReg (sq 0 (sq 1 (sl 2 (sl 3 (sq 4 sz))))) (by kernel_rfl) ?_
        refine mvS rfl rfl rfl ?_
        refine mvS rfl rfl rfl ?_
        refine bsl trv1 rfl rfl rfl (bsl22_1 (.slice _ _ _) rfl) (fun bkl3 hbkl3 => ?_)
        refine rPieces (fun _ h => Sep.litI h 1 [((k : Int) / 64), ((((k : Int) / 16)) % 4), ((((k : Int) / 4)) % 4), ((k : Int) % 4)] rfl rfl rfl) ?_
        refine apR (hd := ((some ⟨bkl2, 0, none⟩), 4)) (x := [((k : Int) / 64), ((((k : Int) / 16)) % 4), ((((k : Int) / 4)) % 4), ((k : Int) % 4)]) 2 1 0 maK.ok rfl rfl rfl (fun h => by first | rfl | (dsimp only at h; rw [h]; rfl) | (rw [h]; rfl) | exact congrArg (fun m => [Value.slice _ m _]) h) mk22 trv1 rfl rfl rfl rfl (by omega) ?_
        intro aq13 cq13
        refine asS rfl rfl rfl ?_
        refine rNil ?_
        refine qSeq rfl ?_
        refine hReg (sq 0 (sq 1 (sq 2 sz))) (by kernel_rfl) ?_
        refine mvI rfl rfl rfl ?_
        refine add rfl rfl rfl rfl (by omega) ?_
        refine asI rfl rfl rfl ?_
        refine rNil ?_
        rw [show ((Iso.ords k) ++ [[((k : Int) / 64), ((((k : Int) / 16)) % 4), ((((k : Int) / 4)) % 4), ((k : Int) % 4)]]) = Iso.ords (k + 1) from (Iso.ords_yes (decide_eq_true ⟨g2, g3, g4, g5, g6, c7⟩)).symm]
        exact qNext rfl ((k + 1, (q + 1), ((aq13, cq13), (hset hd.2 (Iso.ords k).length ((some ⟨bkl2, 0, none⟩), 4))))) (by dsimp only; omega) ⟨by dsimp only; omega, by dsimp only; omega⟩ ⟨rfl, rfl, trivial⟩ (fun _ h => h.pick [0])
       ·
        replace c7 : ¬ (([((k : Int) / 64), ((((k : Int) / 16)) % 4), ((((k : Int) / 4)) % 4), ((k : Int) % 4)].getD 2 0) ≠ ([((k : Int) / 64), ((((k : Int) / 16)) % 4), ((((k : Int) / 4)) % 4), ((k : Int) % 4)].getD 3 0)) := c7
        refine hSkip ?_
        refine qSeq rfl ?_
        refine hReg (sq 0 (sq 1 (sq 2 sz))) (by kernel_rfl) ?_
        refine mvI rfl rfl rfl ?_
        refine add rfl rfl rfl rfl (by omega) ?_
        refine asI rfl rfl rfl ?_
        refine rNil ?_
        rw [← Iso.ords_no (k := k) (decide_eq_false fun h => c7 h.2.2.2.2.2)]
        exact qNext rfl ((k + 1, q, ((hd.1.1, hd.1.2), hd.2))) (by dsimp only; omega) ⟨by dsimp only; omega, by dsimp only; omega⟩ ⟨rfl, rfl, trivial⟩ (fun _ h => h.pick [1])
      ·
       replace g6 : ¬ (([((k : Int) / 64), ((((k : Int) / 16)) % 4), ((((k : Int) / 4)) % 4), ((k : Int) % 4)].getD 1 0) ≠ ([((k : Int) / 64), ((((k : Int) / 16)) % 4), ((((k : Int) / 4)) % 4), ((k : Int) % 4)].getD 3 0)) := g6
       refine rSkipQ rfl rfl ?_
       refine rSkipQ rfl rfl ?_
       refine rSkipQ rfl rfl ?_
       refine rSkipQ rfl rfl ?_
       refine rSkipQ rfl rfl ?_
       refine rSkipQ rfl rfl ?_
       refine rSkipQ rfl rfl ?_
       refine pickB rfl rfl rfl rfl ?_
       refine rNil ?_
       refine qSeq rfl ?_
       refine hIfF rfl ?_
       refine hSkip ?_
       refine qSeq rfl ?_
       refine hReg (sq 0 (sq 1 (sq 2 sz))) (by kernel_rfl) ?_
       refine mvI rfl rfl rfl ?_
       refine add rfl rfl rfl rfl (by omega) ?_
       refine asI rfl rfl rfl ?_
       refine rNil ?_
       rw [← Iso.ords_no (k := k) (decide_eq_false fun h => g6 h.2.2.2.2.1)]
       exact qNext rfl ((k + 1, q, ((hd.1.1, hd.1.2), hd.2))) (by dsimp only; omega) ⟨by dsimp only; omega, by dsimp only; omega⟩ ⟨rfl, rfl, trivial⟩ (fun _ h => h.pick [1])
     ·
      replace g5 : ¬ (([((k : Int) / 64), ((((k : Int) / 16)) % 4), ((((k : Int) / 4)) % 4), ((k : Int) % 4)].getD 1 0) ≠ ([((k : Int) / 64), ((((k : Int) / 16)) % 4), ((((k : Int) / 4)) % 4), ((k : Int) % 4)].getD 2 0)) := g5
      refine rSkipQ rfl rfl ?_
      refine rSkipQ rfl rfl ?_
      refine rSkipQ rfl rfl ?_
      refine rSkipQ rfl rfl ?_
      refine rSkipQ rfl rfl ?_
      refine rSkipQ rfl rfl ?_
      refine rSkipQ rfl rfl ?_
      refine pickB rfl rfl rfl rfl ?_
      refine mvB rfl rfl rfl ?_
      refine rSkipQ rfl rfl ?_
      refine rSkipQ rfl rfl ?_
      refine rSkipQ rfl rfl ?_
      refine rSkipQ rfl rfl ?_
      refine rSkipQ rfl rfl ?_
      refine rSkipQ rfl rfl ?_
      refine rSkipQ rfl rfl ?_
      refine pickB rfl rfl rfl rfl ?_
      refine rNil ?_
      refine qSeq rfl ?_
      refine hIfF rfl ?_
      refine hSkip ?_
      refine qSeq rfl ?_
      refine hReg (sq 0 (sq 1 (sq 2 sz))) (by kernel_rfl) ?_
      refine mvI rfl rfl rfl ?_
      refine add rfl rfl rfl rfl (by omega) ?_
      refine asI rfl rfl rfl ?_
      refine rNil ?_
      rw [← Iso.ords_no (k := k) (decide_eq_false fun h => g5 h.2.2.2.1)]
      exact qNext rfl ((k + 1, q, ((hd.1.1, hd.1.2), hd.2))) (by dsimp only; omega) ⟨by dsimp only; omega, by dsimp only; omega⟩ ⟨rfl, rfl, trivial⟩ (fun _ h => h.pick [1])
    ·
     replace g4 : ¬ (([((k : Int) / 64), ((((k : Int) / 16)) % 4), ((((k : Int) / 4)) % 4), ((k : Int) % 4)].getD 0 0) ≠ ([((k : Int) / 64), ((((k : Int) / 16)) % 4), ((((k : Int) / 4)) % 4), ((k : Int) % 4)].getD 3 0)) := g4
     refine rSkipQ rfl rfl ?_
     refine rSkipQ rfl rfl ?_
     refine rSkipQ rfl rfl ?_
     refine rSkipQ rfl rfl ?_
     refine rSkipQ rfl rfl ?_
     refine rSkipQ rfl rfl ?_
     refine rSkipQ rfl rfl ?_
     refine pickB rfl rfl rfl rfl ?_
     refine mvB rfl rfl rfl ?_
     refine rSkipQ rfl rfl ?_
     refine rSkipQ rfl rfl ?_
     refine rSkipQ rfl rfl ?_
     refine rSkipQ rfl rfl ?_
     refine rSkipQ rfl rfl ?_
     refine rSkipQ rfl rfl ?_
     refine rSkipQ rfl rfl ?_
     refine pickB rfl rfl rfl rfl ?_
     refine mvB rfl rfl rfl ?_
     refine rSkipQ rfl rfl ?_
     refine rSkipQ rfl rfl ?_
     refine rSkipQ rfl rfl ?_
     refine rSkipQ rfl rfl ?_
     refine rSkipQ rfl rfl ?_
     refine rSkipQ rfl rfl ?_
     refine rSkipQ rfl rfl ?_
     refine pickB rfl rfl rfl rfl ?_
     refine rNil ?_
     refine qSeq rfl ?_
     refine hIfF rfl ?_
     refine hSkip ?_
     refine qSeq rfl ?_
     refine hReg (sq 0 (sq 1 (sq 2 sz))) (by kernel_rfl) ?_
     refine mvI rfl rfl rfl ?_
     refine add rfl rfl rfl rfl (by omega) ?_
     refine asI rfl rfl rfl ?_
     refine rNil ?_
     rw [← Iso.ords_no (k := k) (decide_eq_false fun h => g4 h.2.2.1)]
     exact qNext rfl ((k + 1, q, ((hd.1.1, hd.1.2), hd.2))) (by dsimp only; omega) ⟨by dsimp only; omega, by dsimp only; omega⟩ ⟨rfl, rfl, trivial⟩ (fun _ h => h.pick [1])
   ·
    replace g3 : ¬ (([((k : Int) / 64), ((((k : Int) / 16)) % 4), ((((k : Int) / 4)) % 4), ((k : Int) % 4)].getD 0 0) ≠ ([((k : Int) / 64), ((((k : Int) / 16)) % 4), ((((k : Int) / 4)) % 4), ((k : Int) % 4)].getD 2 0)) := g3
    refine rSkipQ rfl rfl ?_
    refine rSkipQ rfl rfl ?_
    refine rSkipQ rfl rfl ?_
    refine rSkipQ rfl rfl ?_
    refine rSkipQ rfl rfl ?_
    refine rSkipQ rfl rfl ?_
    refine rSkipQ rfl rfl ?_
    refine pickB rfl rfl rfl rfl ?_
    refine mvB rfl rfl rfl ?_
    refine rSkipQ rfl rfl ?_
    refine rSkipQ rfl rfl ?_
    refine rSkipQ rfl rfl ?_
    refine rSkipQ rfl rfl ?_
    refine rSkipQ rfl rfl ?_
    refine rSkipQ rfl rfl ?_
    refine rSkipQ rfl rfl ?_
    refine pickB rfl rfl rfl rfl ?_
    refine mvB rfl rfl rfl ?_
    refine rSkipQ rfl rfl ?_
    refine rSkipQ rfl rfl ?_
    refine rSkipQ rfl rfl ?_
    refine rSkipQ rfl rfl ?_
    refine rSkipQ rfl rfl ?_
    refine rSkipQ rfl rfl ?_
    refine rSkipQ rfl rfl ?_
    refine pickB rfl rfl rfl rfl ?_
    refine mvB rfl rfl rfl ?_
    refine rSkipQ rfl rfl ?_
    refine rSkipQ rfl rfl ?_
    refine rSkipQ rfl rfl ?_
    refine rSkipQ rfl rfl ?_
    refine rSkipQ rfl rfl ?_
    refine rSkipQ rfl rfl ?_
    refine rSkipQ rfl rfl ?_
    refine pickB rfl rfl rfl rfl ?_
    refine rNil ?_
    refine qSeq rfl ?_
    refine hIfF rfl ?_
    refine hSkip ?_
    refine qSeq rfl ?_
    refine hReg (sq 0 (sq 1 (sq 2 sz))) (by kernel_rfl) ?_
    refine mvI rfl rfl rfl ?_
    refine add rfl rfl rfl rfl (by omega) ?_
    refine asI rfl rfl rfl ?_
    refine rNil ?_
    rw [← Iso.ords_no (k := k) (decide_eq_false fun h => g3 h.2.1)]
    exact qNext rfl ((k + 1, q, ((hd.1.1, hd.1.2), hd.2))) (by dsimp only; omega) ⟨by dsimp only; omega, by dsimp only; omega⟩ ⟨rfl, rfl, trivial⟩ (fun _ h => h.pick [1])
  ·
   replace g2 : ¬ (([((k : Int) / 64), ((((k : Int) / 16)) % 4), ((((k : Int) / 4)) % 4), ((k : Int) % 4)].getD 0 0) ≠ ([((k : Int) / 64), ((((k : Int) / 16)) % 4), ((((k : Int) / 4)) % 4), ((k : Int) % 4)].getD 1 0)) := g2
   refine rSkipQ rfl rfl ?_
   refine rSkipQ rfl rfl ?_
   refine rSkipQ rfl rfl ?_
   refine rSkipQ rfl rfl ?_
   refine rSkipQ rfl rfl ?_
   refine rSkipQ rfl rfl ?_
   refine rSkipQ rfl rfl ?_
   refine pickB rfl rfl rfl rfl ?_
   refine mvB rfl rfl rfl ?_
   refine rSkipQ rfl rfl ?_
   refine rSkipQ rfl rfl ?_
   refine rSkipQ rfl rfl ?_
   refine rSkipQ rfl rfl ?_
   refine rSkipQ rfl rfl ?_
   refine rSkipQ rfl rfl ?_
   refine rSkipQ rfl rfl ?_
   refine pickB rfl rfl rfl rfl ?_
   refine mvB rfl rfl rfl ?_
   refine rSkipQ rfl rfl ?_
   refine rSkipQ rfl rfl ?_
   refine rSkipQ rfl rfl ?_
   refine rSkipQ rfl rfl ?_
   refine rSkipQ rfl rfl ?_
   refine rSkipQ rfl rfl ?_
   refine rSkipQ rfl rfl ?_
   refine pickB rfl rfl rfl rfl ?_
   refine mvB rfl rfl rfl ?_
   refine rSkipQ rfl rfl ?_
   refine rSkipQ rfl rfl ?_
   refine rSkipQ rfl rfl ?_
   refine rSkipQ rfl rfl ?_
   refine rSkipQ rfl rfl ?_
   refine rSkipQ rfl rfl ?_
   refine rSkipQ rfl rfl ?_
   refine pickB rfl rfl rfl rfl ?_
   refine mvB rfl rfl rfl ?_
   refine rSkipQ rfl rfl ?_
   refine rSkipQ rfl rfl ?_
   refine rSkipQ rfl rfl ?_
   refine rSkipQ rfl rfl ?_
   refine rSkipQ rfl rfl ?_
   refine rSkipQ rfl rfl ?_
   refine rSkipQ rfl rfl ?_
   refine pickB rfl rfl rfl rfl ?_
   refine rNil ?_
   refine qSeq rfl ?_
   refine hIfF rfl ?_
   refine hSkip ?_
   refine qSeq rfl ?_
   refine hReg (sq 0 (sq 1 (sq 2 sz))) (by kernel_rfl) ?_
   refine mvI rfl rfl rfl ?_
   refine add rfl rfl rfl rfl (by omega) ?_
   refine asI rfl rfl rfl ?_
   refine rNil ?_
   rw [← Iso.ords_no (k := k) (decide_eq_false fun h => g2 h.1)]
   exact qNext rfl ((k + 1, q, ((hd.1.1, hd.1.2), hd.2))) (by dsimp only; omega) ⟨by dsimp only; omega, by dsimp only; omega⟩ ⟨rfl, rfl, trivial⟩ (fun _ h => h.pick [1])
 ·
  replace c1 : ¬ ((k : Int) < 256) := c1
  refine hExit rfl ?_
  refine qSeq rfl ?_
  refine hSeq ?_
  refine hReg (sq 0 (sq 1 sz)) (by kernel_rfl) ?_
  refine mvS rfl rfl rfl ?_
  refine asS rfl rfl rfl ?_
  refine rNil ?_
  refine qSeq rfl ?_
  refine hRet ?_
  exact fun w hs => ⟨[.slice hd.1.1 q hd.1.2], ⟨rfl, trivial⟩, ⟨(hd.1.1, q, hd.1.2, hd.2, (Iso.ords k)), rfl, by rw [show k = 256 by omega]; rfl, hs.pick [0]⟩⟩
theorem spec_l18Take_c (c : Int) (ap : Option Addr) (np : Nat) (cp : Nat) (p : List Int) (w : World) (rp : RdI ap np p w) (hc : 0 ≤ c ∧ c ≤ 51) (hp : Iso.isP p) :
  Calls Try.prog 123 #[.int .i64 c, .slice ap np cp] w (Ret fun v w' => v = .int .i64 (Iso.take4 p c) ∧ Ext w w') := by
 have kp : Kn w none_ [] (RdI ap np p) := fun w' hs => rp.ext hs.upd
 have lp : p.length = np := rp.1
 have mp : np ≤ 9223372036854775807 := rp.2.1
 have hp4 := hp.1
 have hpx := hp.2 (c % 4).toNat
 refine fn (M := none_) (rs := [.tmp 4]) Try.func123 rfl Try.ntmps123 rfl rfl (Sep.start _ _) ?_
 refine hSeq ?_
 refine hReg (sq 0 sz) (by kernel_rfl) ?_
 refine asI rfl rfl rfl ?_
 refine rNil ?_
 refine qSeq rfl ?_
 refine hSeq ?_
 refine hReg (sq 0 (sq 1 (sq 2 (sq 3 (sq 4 (sq 5 (sq 6 (sl 7 (sq 8 (sq 9 sz)))))))))) (by kernel_rfl) ?_
 refine mvI rfl rfl rfl ?_
 refine quo rfl rfl rfl rfl (by omega) ?_
 refine mul rfl rfl rfl rfl (by omega) ?_
 refine mvS rfl rfl rfl ?_
 refine mvI rfl rfl rfl ?_
 refine rem rfl rfl rfl rfl (by omega) ?_
 refine ixIl (zn := ((c % 4)).toNat) el23 (kp) rfl rfl rfl rfl (by omega) (by omega) rfl ?_
 intro ae1 e1
 refine ldl Try.isAgg2 (e1) trv rfl rfl rfl ?_
 refine add rfl rfl rfl rfl (by omega) ?_
 refine asI rfl rfl rfl ?_
 refine rNil ?_
 refine qSeq rfl ?_
 refine hRet ?_
 exact fun w hs => ⟨[.int .i64 ((((c / 4) * 4) + (p.getD (((c % 4)).toNat) 0)))], ⟨rfl, trivial⟩, ⟨by first | rfl | exact bD (by omega) | exact bT (by omega) | exact bF (by omega) | exact vI (by omega), hs.upd⟩⟩
theorem spec_l18Image_c (az : Option Addr) (nz : Nat) (cz : Nat) (z : List Int) (ap : Option Addr) (np : Nat) (cp : Nat) (p : List Int) (w : World) (rz : RdI az nz z w) (rp : RdI ap np p w) (hz : ∀ x ∈ z, 0 ≤ x ∧ x ≤ 51) (hl : z.length ≤ 52) (hp : Iso.isP p) :
  Calls Try.prog 79 #[.slice az nz cz, .slice ap np cp] w (Ret fun v w' => ∃ x : Option Addr × Nat × Nat × List Int, v = .slice x.1 x.2.1 x.2.2.1 ∧ (x.2.2.2 = (Iso.image4 p z) ∧ x.2.1 = nz) ∧ Sep w none_ [OwnI 2 x.1 x.2.1 x.2.2.1 x.2.2.2] w') := by
 have kz : Kn w none_ [] (RdI az nz z) := fun w' hs => rz.ext hs.upd
 have lz : z.length = nz := rz.1
 have mz : nz ≤ 9223372036854775807 := rz.2.1
 have kp : Kn w none_ [] (RdI ap np p) := fun w' hs => rp.ext hs.upd
 have lp : p.length = np := rp.1
 have mp : np ≤ 9223372036854775807 := rp.2.1
 refine fn (M := none_) (rs := [.tmp 4]) Try.func79 rfl Try.ntmps79 rfl rfl (Sep.start _ _) ?_
 refine hSeq ?_
 refine hReg (sq 0 sz) (by kernel_rfl) ?_
 refine asS rfl rfl rfl ?_
 refine rNil ?_
 refine qSeq rfl ?_
 refine hSeq ?_
 refine hReg (sl 0 (sq 1 sz)) (by kernel_rfl) ?_
 refine bsl trv1 rfl rfl rfl (bsl23_0) (fun bkl1 hbkl1 => ?_)
 refine asS rfl rfl rfl ?_
 refine rNil ?_
 refine qSeq rfl ?_
 refine hSeq ?_
 refine hSeq ?_
 refine hReg (sq 0 sz) (by kernel_rfl) ?_
 refine asI rfl rfl rfl ?_
 refine rNil ?_
 refine qSeq rfl ?_
 refine hBlk ?_
 refine hPieces (fun _ h => Sep.litI h 0 [] rfl rfl rfl) ?_
 refine hLoop (α := Nat × Nat × Hd) (fun x => x.1 ≤ nz ∧ x.2.1 = x.1) (fun x => nz - x.1) (fun x => [OwnI 2 x.2.2.1 x.2.1 x.2.2.2 ((Iso.image4 p (z.take x.1)))]) (fun x => [(0, .slice az nz cz), (1, .slice ap np cp), (5, .slice x.2.2.1 x.2.1 x.2.2.2), (6, .int .i64 (x.1 : Int))]) ((0, 0, ((some ⟨bkl1, 0, none⟩), 0))) ⟨Nat.zero_le _, rfl⟩ (fun _ h => h.pick [0]) ⟨rfl, rfl, rfl, rfl, trivial⟩ ?_
 rintro ⟨i, q, hd⟩ τ1 ⟨hi, hq⟩
 dsimp only at hi hq
 refine hRe [(0, .slice az nz cz), (1, .slice ap np cp), (5, .slice hd.1 q hd.2), (6, .int .i64 (i : Int))] [OwnI 2 hd.1 q hd.2 ((Iso.image4 p (z.take i)))] rfl rfl ?_
 refine hSeq ?_
 refine hSeq ?_
 refine hReg (sq 0 (sq 1 (sq 2 (sq 3 sz)))) (by kernel_rfl) ?_
 refine mvI rfl rfl rfl ?_
 refine mvS rfl rfl rfl ?_
 refine lenS Try.runUnderlying23 rfl rfl rfl ?_
 refine lss rfl rfl rfl rfl ?_
 refine rNil ?_
 refine qSeq rfl ?_
 refine hIfD rfl (fun c1 => ?_) (fun c1 => ?_)
 ·
  replace c1 : (i : Int) < (nz : Int) := c1
  have hx := hz _ (Math.getD_mem 0 (show i < z.length by omega))
  refine hSkip ?_
  refine qSeq rfl ?_
  refine hSeq ?_
  refine hBlk ?_
  refine hReg (sq 0 (sq 1 (sq 2 (sq 3 (sl 4 (sq 5 (sl 6 (sl 7 (sl 8 (sq 9 sz)))))))))) (by kernel_rfl) ?_
  refine mvS rfl rfl rfl ?_
  refine mvS rfl rfl rfl ?_
  refine mvI rfl rfl rfl ?_
  refine ixIl (zn := i) el23 (Kn.drop (k := 1) kz) rfl rfl rfl rfl (by omega) (by omega) rfl ?_
  intro ae1 e1
  refine ldl Try.isAgg2 (e1) trv rfl rfl rfl ?_
  refine mvS rfl rfl rfl ?_
  refine callP (v := .int .i64 ((Iso.take4 p (z.getD i 0)))) Try.call123 trv rfl rfl (fun w hs => spec_l18Take_c _ _ np cp _ w (Kn.drop (k := 1) kp w hs) (by omega) (by assumption)) ?_
  refine bsl trv1 rfl rfl rfl (bsl23_1 (.int .i64 _) rfl) (fun bkl2 hbkl2 => ?_)
  refine aplI (N := q) (x := (Iso.take4 p (z.getD i 0))) 1 0 rfl rfl mk23 trv1 rfl rfl rfl rfl (by omega) ?_
  intro aq2 cq2
  refine asS rfl rfl rfl ?_
  refine rNil ?_
  refine qSeq rfl ?_
  refine hReg (sq 0 (sq 1 (sq 2 sz))) (by kernel_rfl) ?_
  refine mvI rfl rfl rfl ?_
  refine add rfl rfl rfl rfl (by omega) ?_
  refine asI rfl rfl rfl ?_
  refine rNil ?_
  rw [Iso.image4_snoc (by omega)]
  exact qNext rfl ((i + 1, (q + 1), (aq2, cq2))) (by dsimp only; omega) ⟨by dsimp only; omega, by dsimp only; omega⟩ ⟨rfl, rfl, rfl, rfl, trivial⟩ (fun _ h => h.pick [1])
 ·
  replace c1 : ¬ ((i : Int) < (nz : Int)) := c1
  refine hExit rfl ?_
  refine qSeq rfl ?_
  refine hSeq ?_
  refine hReg (sq 0 (sq 1 sz)) (by kernel_rfl) ?_
  refine mvS rfl rfl rfl ?_
  refine asS rfl rfl rfl ?_
  refine rNil ?_
  refine qSeq rfl ?_
  refine hRet ?_
  exact fun w hs => ⟨[.slice hd.1 q hd.2], ⟨rfl, trivial⟩, ⟨(hd.1, q, hd.2, (Iso.image4 p (z.take i))), rfl, ⟨by rw [List.take_of_length_le (by omega)], by dsimp only; omega⟩, hs.pick [0]⟩⟩
theorem spec_l02Sorted_c (az : Option Addr) (nz : Nat) (cz : Nat) (z : List Int) (w : World) (rz : RdI az nz z w) (hl : z.length ≤ 1000000) :
  Calls Try.prog 130 #[.slice az nz cz] w (Ret fun v w' => ∃ x : Option Addr × Nat × Nat × List Int, v = .slice x.1 x.2.1 x.2.2.1 ∧ (x.2.2.2 = srt z ∧ x.2.1 = nz) ∧ Sep w none_ [OwnI 2 x.1 x.2.1 x.2.2.1 x.2.2.2] w') := by
 have kz : Kn w none_ [] (RdI az nz z) := fun w' hs => rz.ext hs.upd
 have lz : z.length = nz := rz.1
 have mz : nz ≤ 9223372036854775807 := rz.2.1
 refine fn (M := none_) (rs := [.tmp 2]) Try.func130 rfl Try.ntmps130 rfl rfl (Sep.start _ _) ?_
 refine hSeq ?_
 refine hReg (sq 0 sz) (by kernel_rfl) ?_
 refine asS rfl rfl rfl ?_
 refine rNil ?_
 refine qSeq rfl ?_
 refine hSeq ?_
 refine hReg (sl 0 (sq 1 sz)) (by kernel_rfl) ?_
 refine bsl trv1 rfl rfl rfl (bsl23_0) (fun bkl1 hbkl1 => ?_)
 refine asS rfl rfl rfl ?_
 refine rNil ?_
 refine qSeq rfl ?_
 refine hSeq ?_
 refine hSeq ?_
 refine hReg (sq 0 sz) (by kernel_rfl) ?_
 refine asI rfl rfl rfl ?_
 refine rNil ?_
 refine qSeq rfl ?_
 refine hBlk ?_
 refine hPieces (fun _ h => Sep.litI h 0 [] rfl rfl rfl) ?_
 refine hLoop (α := Nat × Nat × Hd × List Int) (fun x => x.1 ≤ nz ∧ x.2.1 = x.1 ∧ x.2.2.2 = srt (z.take x.1)) (fun x => nz - x.1) (fun x => [OwnI 2 x.2.2.1.1 x.2.1 x.2.2.1.2 x.2.2.2]) (fun x => [(0, .slice az nz cz), (3, .slice x.2.2.1.1 x.2.1 x.2.2.1.2), (4, .int .i64 (x.1 : Int))]) ((0, 0, ((some ⟨bkl1, 0, none⟩), 0), [])) ⟨Nat.zero_le _, rfl, srt_nil.symm⟩ (fun _ h => h.pick [0]) ⟨rfl, rfl, rfl, trivial⟩ ?_
 rintro ⟨i, q, hd, r⟩ τ1 ⟨hi, hq, hr⟩
 dsimp only at hi hq hr
 refine hRe [(0, .slice az nz cz), (3, .slice hd.1 q hd.2), (4, .int .i64 (i : Int))] [OwnI 2 hd.1 q hd.2 r] rfl rfl ?_
 refine hSeq ?_
 refine hSeq ?_
 refine hReg (sq 0 (sq 1 (sq 2 (sq 3 sz)))) (by kernel_rfl) ?_
 refine mvI rfl rfl rfl ?_
 refine mvS rfl rfl rfl ?_
 refine lenS Try.runUnderlying23 rfl rfl rfl ?_
 refine lss rfl rfl rfl rfl ?_
 refine rNil ?_
 refine qSeq rfl ?_
 refine hIfD rfl (fun c1 => ?_) (fun c1 => ?_)
 ·
  replace c1 : (i : Int) < (nz : Int) := c1
  have hsl : r.length = i := by rw [hr, srt_len, List.length_take]; omega
  refine hSkip ?_
  refine qSeq rfl ?_
  refine hSeq ?_
  refine hBlk ?_
  refine hSeq ?_
  refine hReg (sq 0 sz) (by kernel_rfl) ?_
  refine asI rfl rfl rfl ?_
  refine rNil ?_
  refine qSeq rfl ?_
  refine hSeq ?_
  refine hBlk ?_
  refine hLoop (α := Nat) (fun k => k ≤ q ∧ ∀ j, j < k → j < r.length → r.getD j 0 ≤ z.getD i 0) (fun k => q - k) (fun k => [OwnI 2 hd.1 q hd.2 r]) (fun k => [(0, .slice az nz cz), (3, .slice hd.1 q hd.2), (4, .int .i64 (i : Int)), (5, .int .i64 (k : Int))]) 0 ⟨Nat.zero_le _, fun j hj => by omega⟩ (fun _ h => h.pick [0]) ⟨rfl, rfl, rfl, rfl, trivial⟩ ?_
  rintro k τ2 ⟨hk, hlo⟩
  refine hSeq ?_
  refine hSeq ?_
  refine hDraw (Ls := [OwnI 2 hd.1 q hd.2 r]) (by kernel_rfl) (sq 0 (sq 1 (sq 2 (sq 3 (sq 4 (sq 5 (sq 6 (sq 7 (sq 8 (sq 9 (sq 10 (sq 11 (sq 12 (sq 13 (sq 14 sz))))))))))))))) (by kernel_rfl) (.cons_cons _ .slnil) ?_
  refine mvI rfl rfl rfl ?_
  refine mvS rfl rfl rfl ?_
  refine lenS Try.runUnderlying23 rfl rfl rfl ?_
  refine lss rfl rfl rfl rfl ?_
  refine mvB rfl rfl rfl ?_
  refine rBoolD (d := 17) rfl (fun g2 => ?_) (fun g2 => ?_)
  ·
   replace g2 : (k : Int) < (q : Int) := g2
   refine mvS rfl rfl rfl ?_
   refine mvI rfl rfl rfl ?_
   refine ixIq (zn := k) el23 ((Kn.at_ 0 rfl).imp fun _ h => OwnI.rd h) (fun _ h => h.pick [0]) rfl rfl rfl rfl (by omega) (by omega) rfl ?_
   intro ae1 e1
   refine ldq Try.isAgg2 (e1) rfl rfl rfl ?_
   refine mvS rfl rfl rfl ?_
   refine mvI rfl rfl rfl ?_
   refine ixIq (zn := i) el23 (Kn.drop (k := 1) kz) (fun _ h => h.pick [0]) rfl rfl rfl rfl (by omega) (by omega) rfl ?_
   intro ae2 e2
   refine ldq Try.isAgg2 (e2) rfl rfl rfl ?_
   refine leq rfl rfl rfl rfl ?_
   refine pickB rfl rfl rfl rfl ?_
   refine rNil ?_
   refine qSeq rfl ?_
   refine hIfD rfl (fun c3 => ?_) (fun c3 => ?_)
   ·
    replace c3 : (r.getD k 0) ≤ (z.getD i 0) := c3
    refine hSkip ?_
    refine qSeq rfl ?_
    refine hBlk ?_
    refine hReg (sq 0 (sq 1 (sq 2 sz))) (by kernel_rfl) ?_
    refine mvI rfl rfl rfl ?_
    refine add rfl rfl rfl rfl (by omega) ?_
    refine asI rfl rfl rfl ?_
    refine rNil ?_
    exact qNext rfl (k + 1) (by omega) ⟨by omega, fun j hj hj2 => by rcases Nat.lt_or_ge j k with h | h; exact hlo j h hj2; rw [show j = k by omega]; exact c3⟩ ⟨rfl, rfl, rfl, rfl, trivial⟩ (fun _ h => h.pick [0])
   ·
    replace c3 : ¬ ((r.getD k 0) ≤ (z.getD i 0)) := c3
    refine hExit rfl ?_
    refine qSeq rfl ?_
    refine hDraw (Ls := []) (by kernel_rfl) (sq 1 (sq 2 (sq 3 (sq 5 (sq 6 (sq 7 (sq 8 (sq 11 (sq 12 (sq 13 (.alt (sl 0 (.alt (sl 4 (sl 9 (sl 10 (sl 14 (sq 15 sz))))) (sl 9 (sl 4 (sl 10 (sl 14 (sq 15 sz))))))) (sl 9 (sl 0 (sl 4 (sl 10 (sl 14 (sq 15 sz))))))))))))))))) (by kernel_rfl) (.cons _ .slnil) ?_
    refine mvS rfl rfl rfl ?_
    refine mvI rfl rfl rfl ?_
    refine slHil (zn := k) 0 rfl el23 rfl rfl rfl rfl (by omega) (by omega) rfl (fun e3 => ?_)
    refine mvS rfl rfl rfl ?_
    refine mvI rfl rfl rfl ?_
    refine ixIq (zn := i) el23 (kz) (fun _ h => h.pick []) rfl rfl rfl rfl (by omega) (by omega) rfl ?_
    intro ae4 e4
    refine ldq Try.isAgg2 (e4) rfl rfl rfl ?_
    refine mvS rfl rfl rfl ?_
    refine mvI rfl rfl rfl ?_
    refine slLol (zn := k) 0 rfl el23 rfl rfl rfl rfl (by omega) (by omega) rfl ?_
    intro ae5 e5
    refine rAlt ?_ ?_
    ·
     refine bsl (fun _ _ h => h.pick []) rfl rfl rfl (bsl23_0) (fun bkl2 hbkl2 => ?_)
     refine rAlt ?_ ?_
     ·
      refine rPieces (fun _ h => Sep.litI h 0 [] rfl rfl rfl) ?_
      refine aplL (N := 0) (ys := (r.take k)) 0 rfl (Kn.drop (k := 1) e3) mk23 (fun _ _ h => h.pick []) rfl rfl rfl rfl (by omega) ?_
      intro aq6 cq6
      refine bsl (fun _ _ h => h.pick []) rfl rfl rfl (bsl23_1 (.int .i64 _) rfl) (fun bkl3 hbkl3 => ?_)
      refine aplI (N := (0 + k)) (x := (z.getD i 0)) 1 0 rfl rfl mk23 (fun _ _ h => h.pick []) rfl rfl rfl rfl (by omega) ?_
      intro aq7 cq7
      refine aplL (N := (((0 + k) + 1))) (ys := (r.drop k)) 1 rfl (Kn.drop (k := 2) e5) mk23 (fun _ _ h => h.pick []) rfl rfl rfl rfl (by omega) ?_
      intro aq8 cq8
      refine asS rfl rfl rfl ?_
      refine rNil ?_
      refine qSeq rfl ?_
      refine hReg (sq 0 (sq 1 (sq 2 sz))) (by kernel_rfl) ?_
      refine mvI rfl rfl rfl ?_
      refine add rfl rfl rfl rfl (by omega) ?_
      refine asI rfl rfl rfl ?_
      refine rNil ?_
      exact qNext rfl ((i + 1, (((0 + k) + 1) + (q - k)), (aq8, cq8), ((([] ++ (r.take k)) ++ [(z.getD i 0)]) ++ (r.drop k)))) (by dsimp only; omega) ⟨by dsimp only; omega, by dsimp only; omega, by dsimp only; rw [Iso.take_snoc (by omega)]; exact Iso.srt_put hr hlo (fun h => by omega)⟩ ⟨rfl, rfl, rfl, trivial⟩ (fun _ h => h.pick [1])
     ·
      refine bsl (fun _ _ h => h.pick []) rfl rfl rfl (bsl23_1 (.int .i64 _) rfl) (fun bkl4 hbkl4 => ?_)
      refine rPieces (fun _ h => Sep.litI h 1 [] rfl rfl rfl) ?_
      refine aplL (N := 0) (ys := (r.take k)) 1 rfl (Kn.drop (k := 2) e3) mk23 (fun _ _ h => h.pick []) rfl rfl rfl rfl (by omega) ?_
      intro aq9 cq9
      refine aplI (N := (0 + k)) (x := (z.getD i 0)) 1 0 rfl rfl mk23 (fun _ _ h => h.pick []) rfl rfl rfl rfl (by omega) ?_
      intro aq10 cq10
      refine aplL (N := (((0 + k) + 1))) (ys := (r.drop k)) 1 rfl (Kn.drop (k := 2) e5) mk23 (fun _ _ h => h.pick []) rfl rfl rfl rfl (by omega) ?_
      intro aq11 cq11
      refine asS rfl rfl rfl ?_
      refine rNil ?_
      refine qSeq rfl ?_
      refine hReg (sq 0 (sq 1 (sq 2 sz))) (by kernel_rfl) ?_
      refine mvI rfl rfl rfl ?_
      refine add rfl rfl rfl rfl (by omega) ?_
      refine asI rfl rfl rfl ?_
      refine rNil ?_
      exact qNext rfl ((i + 1, (((0 + k) + 1) + (q - k)), (aq11, cq11), ((([] ++ (r.take k)) ++ [(z.getD i 0)]) ++ (r.drop k)))) (by dsimp only; omega) ⟨by dsimp only; omega, by dsimp only; omega, by dsimp only; rw [Iso.take_snoc (by omega)]; exact Iso.srt_put hr hlo (fun h => by omega)⟩ ⟨rfl, rfl, rfl, trivial⟩ (fun _ h => h.pick [1])
    ·
     refine bsl (fun _ _ h => h.pick []) rfl rfl rfl (bsl23_1 (.int .i64 _) rfl) (fun bkl5 hbkl5 => ?_)
     refine bsl (fun _ _ h => h.pick []) rfl rfl rfl (bsl23_0) (fun bkl6 hbkl6 => ?_)
     refine rPieces (fun _ h => Sep.litI h 0 [] rfl rfl rfl) ?_
     refine aplL (N := 0) (ys := (r.take k)) 0 rfl (Kn.drop (k := 2) e3) mk23 (fun _ _ h => h.pick []) rfl rfl rfl rfl (by omega) ?_
     intro aq12 cq12
     refine aplI (N := (0 + k)) (x := (z.getD i 0)) 0 1 rfl rfl mk23 (fun _ _ h => h.pick []) rfl rfl rfl rfl (by omega) ?_
     intro aq13 cq13
     refine aplL (N := (((0 + k) + 1))) (ys := (r.drop k)) 0 rfl (Kn.drop (k := 2) e5) mk23 (fun _ _ h => h.pick []) rfl rfl rfl rfl (by omega) ?_
     intro aq14 cq14
     refine asS rfl rfl rfl ?_
     refine rNil ?_
     refine qSeq rfl ?_
     refine hReg (sq 0 (sq 1 (sq 2 sz))) (by kernel_rfl) ?_
     refine mvI rfl rfl rfl ?_
     refine add rfl rfl rfl rfl (by omega) ?_
     refine asI rfl rfl rfl ?_
     refine rNil ?_
     exact qNext rfl ((i + 1, (((0 + k) + 1) + (q - k)), (aq14, cq14), ((([] ++ (r.take k)) ++ [(z.getD i 0)]) ++ (r.drop k)))) (by dsimp only; omega) ⟨by dsimp only; omega, by dsimp only; omega, by dsimp only; rw [Iso.take_snoc (by omega)]; exact Iso.srt_put hr hlo (fun h => by omega)⟩ ⟨rfl, rfl, rfl, trivial⟩ (fun _ h => h.pick [0])
  ·
   replace g2 : ¬ ((k : Int) < (q : Int)) := g2
   refine rSkipQ rfl rfl ?_
   refine rSkipQ rfl rfl ?_
   refine rSkipQ rfl rfl ?_
   refine rSkipQ rfl rfl ?_
   refine rSkipQ rfl rfl ?_
   refine rSkipQ rfl rfl ?_
   refine rSkipQ rfl rfl ?_
   refine rSkipQ rfl rfl ?_
   refine rSkipQ rfl rfl ?_
   refine pickB rfl rfl rfl rfl ?_
   refine rNil ?_
   refine qSeq rfl ?_
   refine hIfF rfl ?_
   refine hExit rfl ?_
   refine qSeq rfl ?_
   refine hDraw (Ls := []) (by kernel_rfl) (sq 1 (sq 2 (sq 3 (sq 5 (sq 6 (sq 7 (sq 8 (sq 11 (sq 12 (sq 13 (.alt (sl 0 (.alt (sl 4 (sl 9 (sl 10 (sl 14 (sq 15 sz))))) (sl 9 (sl 4 (sl 10 (sl 14 (sq 15 sz))))))) (sl 9 (sl 0 (sl 4 (sl 10 (sl 14 (sq 15 sz))))))))))))))))) (by kernel_rfl) (.cons _ .slnil) ?_
   refine mvS rfl rfl rfl ?_
   refine mvI rfl rfl rfl ?_
   refine slHil (zn := k) 0 rfl el23 rfl rfl rfl rfl (by omega) (by omega) rfl (fun e15 => ?_)
   refine mvS rfl rfl rfl ?_
   refine mvI rfl rfl rfl ?_
   refine ixIq (zn := i) el23 (kz) (fun _ h => h.pick []) rfl rfl rfl rfl (by omega) (by omega) rfl ?_
   intro ae16 e16
   refine ldq Try.isAgg2 (e16) rfl rfl rfl ?_
   refine mvS rfl rfl rfl ?_
   refine mvI rfl rfl rfl ?_
   refine slLol (zn := k) 0 rfl el23 rfl rfl rfl rfl (by omega) (by omega) rfl ?_
   intro ae17 e17
   refine rAlt ?_ ?_
   ·
    refine bsl (fun _ _ h => h.pick []) rfl rfl rfl (bsl23_0) (fun bkl7 hbkl7 => ?_)
    refine rAlt ?_ ?_
    ·
     refine rPieces (fun _ h => Sep.litI h 0 [] rfl rfl rfl) ?_
     refine aplL (N := 0) (ys := (r.take k)) 0 rfl (Kn.drop (k := 1) e15) mk23 (fun _ _ h => h.pick []) rfl rfl rfl rfl (by omega) ?_
     intro aq18 cq18
     refine bsl (fun _ _ h => h.pick []) rfl rfl rfl (bsl23_1 (.int .i64 _) rfl) (fun bkl8 hbkl8 => ?_)
     refine aplI (N := (0 + k)) (x := (z.getD i 0)) 1 0 rfl rfl mk23 (fun _ _ h => h.pick []) rfl rfl rfl rfl (by omega) ?_
     intro aq19 cq19
     refine aplL (N := (((0 + k) + 1))) (ys := (r.drop k)) 1 rfl (Kn.drop (k := 2) e17) mk23 (fun _ _ h => h.pick []) rfl rfl rfl rfl (by omega) ?_
     intro aq20 cq20
     refine asS rfl rfl rfl ?_
     refine rNil ?_
     refine qSeq rfl ?_
     refine hReg (sq 0 (sq 1 (sq 2 sz))) (by kernel_rfl) ?_
     refine mvI rfl rfl rfl ?_
     refine add rfl rfl rfl rfl (by omega) ?_
     refine asI rfl rfl rfl ?_
     refine rNil ?_
     exact qNext rfl ((i + 1, (((0 + k) + 1) + (q - k)), (aq20, cq20), ((([] ++ (r.take k)) ++ [(z.getD i 0)]) ++ (r.drop k)))) (by dsimp only; omega) ⟨by dsimp only; omega, by dsimp only; omega, by dsimp only; rw [Iso.take_snoc (by omega)]; exact Iso.srt_put hr hlo (fun h => by omega)⟩ ⟨rfl, rfl, rfl, trivial⟩ (fun _ h => h.pick [1])
    ·
     refine bsl (fun _ _ h => h.pick []) rfl rfl rfl (bsl23_1 (.int .i64 _) rfl) (fun bkl9 hbkl9 => ?_)
     refine rPieces (fun _ h => Sep.litI h 1 [] rfl rfl rfl) ?_
     refine aplL (N := 0) (ys := (r.take k)) 1 rfl (Kn.drop (k := 2) e15) mk23 (fun _ _ h => h.pick []) rfl rfl rfl rfl (by omega) ?_
     intro aq21 cq21
     refine aplI (N := (0 + k)) (x := (z.getD i 0)) 1 0 rfl rfl mk23 (fun _ _ h => h.pick []) rfl rfl rfl rfl (by omega) ?_
     intro aq22 cq22
     refine aplL (N := (((0 + k) + 1))) (ys := (r.drop k)) 1 rfl (Kn.drop (k := 2) e17) mk23 (fun _ _ h => h.pick []) rfl rfl rfl rfl (by omega) ?_
     intro aq23 cq23
     refine asS rfl rfl rfl ?_
     refine rNil ?_
     refine qSeq rfl ?_
     refine hReg (sq 0 (sq 1 (sq 2 sz))) (by kernel_rfl) ?_
     refine mvI rfl rfl rfl ?_
     refine add rfl rfl rfl rfl (by omega) ?_
     refine asI rfl rfl rfl ?_
     refine rNil ?_
     exact qNext rfl ((i + 1, (((0 + k) + 1) + (q - k)), (aq23, cq23), ((([] ++ (r.take k)) ++ [(z.getD i 0)]) ++ (r.drop k)))) (by dsimp only; omega) ⟨by dsimp only; omega, by dsimp only; omega, by dsimp only; rw [Iso.take_snoc (by omega)]; exact Iso.srt_put hr hlo (fun h => by omega)⟩ ⟨rfl, rfl, rfl, trivial⟩ (fun _ h => h.pick [1])
   ·
    refine bsl (fun _ _ h => h.pick []) rfl rfl rfl (bsl23_1 (.int .i64 _) rfl) (fun bkl10 hbkl10 => ?_)
    refine bsl (fun _ _ h => h.pick []) rfl rfl rfl (bsl23_0) (fun bkl11 hbkl11 => ?_)
    refine rPieces (fun _ h => Sep.litI h 0 [] rfl rfl rfl) ?_
    refine aplL (N := 0) (ys := (r.take k)) 0 rfl (Kn.drop (k := 2) e15) mk23 (fun _ _ h => h.pick []) rfl rfl rfl rfl (by omega) ?_
    intro aq24 cq24
    refine aplI (N := (0 + k)) (x := (z.getD i 0)) 0 1 rfl rfl mk23 (fun _ _ h => h.pick []) rfl rfl rfl rfl (by omega) ?_
    intro aq25 cq25
    refine aplL (N := (((0 + k) + 1))) (ys := (r.drop k)) 0 rfl (Kn.drop (k := 2) e17) mk23 (fun _ _ h => h.pick []) rfl rfl rfl rfl (by omega) ?_
    intro aq26 cq26
    refine asS rfl rfl rfl ?_
    refine rNil ?_
    refine qSeq rfl ?_
    refine hReg (sq 0 (sq 1 (sq 2 sz))) (by kernel_rfl) ?_
    refine mvI rfl rfl rfl ?_
    refine add rfl rfl rfl rfl (by omega) ?_
    refine asI rfl rfl rfl ?_
    refine rNil ?_
    exact qNext rfl ((i + 1, (((0 + k) + 1) + (q - k)), (aq26, cq26), ((([] ++ (r.take k)) ++ [(z.getD i 0)]) ++ (r.drop k)))) (by dsimp only; omega) ⟨by dsimp only; omega, by dsimp only; omega, by dsimp only; rw [Iso.take_snoc (by omega)]; exact Iso.srt_put hr hlo (fun h => by omega)⟩ ⟨rfl, rfl, rfl, trivial⟩ (fun _ h => h.pick [0])
 ·
  replace c1 : ¬ ((i : Int) < (nz : Int)) := c1
  refine hExit rfl ?_
  refine qSeq rfl ?_
  refine hSeq ?_
  refine hReg (sq 0 (sq 1 sz)) (by kernel_rfl) ?_
  refine mvS rfl rfl rfl ?_
  refine asS rfl rfl rfl ?_
  refine rNil ?_
  refine qSeq rfl ?_
  refine hRet ?_
  exact fun w hs => ⟨[.slice hd.1 q hd.2], ⟨rfl, trivial⟩, ⟨(hd.1, q, hd.2, r), rfl, ⟨by rw [hr, List.take_of_length_le (by omega)], by dsimp only; omega⟩, hs.pick [0]⟩⟩
theorem spec_l01Same_c (az : Option Addr) (nz : Nat) (cz : Nat) (z : List Int) (ay : Option Addr) (ny : Nat) (cy : Nat) (y : List Int) (w : World) (rz : RdI az nz z w) (ry : RdI ay ny y w) :
  Calls Try.prog 129 #[.slice az nz cz, .slice ay ny cy] w (Ret fun v w' => v = .bool (decide (z = y)) ∧ Ext w w') := by
 have kz : Kn w none_ [] (RdI az nz z) := fun w' hs => rz.ext hs.upd
 have lz : z.length = nz := rz.1
 have mz : nz ≤ 9223372036854775807 := rz.2.1
 have ky : Kn w none_ [] (RdI ay ny y) := fun w' hs => ry.ext hs.upd
 have ly : y.length = ny := ry.1
 have my : ny ≤ 9223372036854775807 := ry.2.1
 refine fn (M := none_) (rs := [.tmp 4]) Try.func129 rfl Try.ntmps129 rfl rfl (Sep.start _ _) ?_
 refine hSeq ?_
 refine hReg (sq 0 sz) (by kernel_rfl) ?_
 refine asB rfl rfl rfl ?_
 refine rNil ?_
 refine qSeq rfl ?_
 refine hSeq ?_
 refine hSeq ?_
 refine hReg (sq 0 (sq 1 (sq 2 (sq 3 (sq 4 sz))))) (by kernel_rfl) ?_
 refine mvS rfl rfl rfl ?_
 refine lenS Try.runUnderlying23 rfl rfl rfl ?_
 refine mvS rfl rfl rfl ?_
 refine lenS Try.runUnderlying23 rfl rfl rfl ?_
 refine neq rfl rfl rfl rfl ?_
 refine rNil ?_
 refine qSeq rfl ?_
 refine hIfD rfl (fun c1 => ?_) (fun c1 => ?_)
 ·
  replace c1 : (nz : Int) ≠ (ny : Int) := c1
  refine hSeq ?_
  refine hReg (sq 0 sz) (by kernel_rfl) ?_
  refine asB rfl rfl rfl ?_
  refine rNil ?_
  refine qSeq rfl ?_
  refine hRet ?_
  exact fun w hs => ⟨[.bool false], ⟨rfl, trivial⟩, ⟨bF (fun h => c1 (by rw [← lz, ← ly, h])), hs.upd⟩⟩
 ·
  replace c1 : ¬ ((nz : Int) ≠ (ny : Int)) := c1
  refine hSkip ?_
  refine qSeq rfl ?_
  refine hSeq ?_
  refine hSeq ?_
  refine hReg (sq 0 sz) (by kernel_rfl) ?_
  refine asI rfl rfl rfl ?_
  refine rNil ?_
  refine qSeq rfl ?_
  refine hBlk ?_
  refine hLoop (α := Nat) (fun i => i ≤ nz ∧ ∀ j, j < i → z.getD j 0 = y.getD j 0) (fun i => nz - i) (fun i => []) (fun i => [(0, .slice az nz cz), (1, .slice ay ny cy), (5, .int .i64 (i : Int))]) 0 ⟨Nat.zero_le _, fun j hj => by omega⟩ (fun _ h => h.pick []) ⟨rfl, rfl, rfl, trivial⟩ ?_
  rintro i τ1 ⟨hi, hal⟩
  refine hSeq ?_
  refine hSeq ?_
  refine hReg (sq 0 (sq 1 (sq 2 (sq 3 sz)))) (by kernel_rfl) ?_
  refine mvI rfl rfl rfl ?_
  refine mvS rfl rfl rfl ?_
  refine lenS Try.runUnderlying23 rfl rfl rfl ?_
  refine lss rfl rfl rfl rfl ?_
  refine rNil ?_
  refine qSeq rfl ?_
  refine hIfD rfl (fun c2 => ?_) (fun c2 => ?_)
  ·
   replace c2 : (i : Int) < (nz : Int) := c2
   refine hSkip ?_
   refine qSeq rfl ?_
   refine hSeq ?_
   refine hBlk ?_
   refine hSeq ?_
   refine hDraw (Ls := []) (by kernel_rfl) (sq 0 (sq 1 (sq 2 (sq 3 (sq 4 (sq 5 (sq 6 (sq 7 (sq 8 sz))))))))) (by kernel_rfl) .slnil ?_
   refine mvS rfl rfl rfl ?_
   refine mvI rfl rfl rfl ?_
   refine ixIq (zn := i) el23 (kz) (fun _ h => h.pick []) rfl rfl rfl rfl (by omega) (by omega) rfl ?_
   intro ae1 e1
   refine ldq Try.isAgg2 (e1) rfl rfl rfl ?_
   refine mvS rfl rfl rfl ?_
   refine mvI rfl rfl rfl ?_
   refine ixIq (zn := i) el23 (ky) (fun _ h => h.pick []) rfl rfl rfl rfl (by omega) (by omega) rfl ?_
   intro ae2 e2
   refine ldq Try.isAgg2 (e2) rfl rfl rfl ?_
   refine neq rfl rfl rfl rfl ?_
   refine rNil ?_
   refine qSeq rfl ?_
   refine hIfD rfl (fun c3 => ?_) (fun c3 => ?_)
   ·
    replace c3 : (z.getD i 0) ≠ (y.getD i 0) := c3
    refine hSeq ?_
    refine hReg (sq 0 sz) (by kernel_rfl) ?_
    refine asB rfl rfl rfl ?_
    refine rNil ?_
    refine qSeq rfl ?_
    refine hRet ?_
    exact fun w hs => ⟨[.bool false], ⟨rfl, trivial⟩, ⟨bF (fun h => c3 (by rw [h])), hs.upd⟩⟩
   ·
    replace c3 : ¬ ((z.getD i 0) ≠ (y.getD i 0)) := c3
    refine hSkip ?_
    refine qSeq rfl ?_
    refine hReg (sq 0 (sq 1 (sq 2 sz))) (by kernel_rfl) ?_
    refine mvI rfl rfl rfl ?_
    refine add rfl rfl rfl rfl (by omega) ?_
    refine asI rfl rfl rfl ?_
    refine rNil ?_
    exact qNext rfl (i + 1) (by omega) ⟨by omega, Math.upto hal (by simpa using c3)⟩ ⟨rfl, rfl, rfl, trivial⟩ (fun _ h => h.pick [])
  ·
   replace c2 : ¬ ((i : Int) < (nz : Int)) := c2
   refine hExit rfl ?_
   refine qSeq rfl ?_
   refine hSeq ?_
   refine hReg (sq 0 sz) (by kernel_rfl) ?_
   refine asB rfl rfl rfl ?_
   refine rNil ?_
   refine qSeq rfl ?_
   refine hRet ?_
   exact fun w hs => ⟨[.bool true], ⟨rfl, trivial⟩, ⟨bT (Iso.ext_getD (by omega) fun j hj => hal j (by omega)), hs.upd⟩⟩
theorem spec_l18SameSet_c (az : Option Addr) (nz : Nat) (cz : Nat) (z : List Int) (ay : Option Addr) (ny : Nat) (cy : Nat) (y : List Int) (w : World) (rz : RdI az nz z w) (ry : RdI ay ny y w) (hl : z.length ≤ 1000000) (hm : y.length ≤ 1000000) :
  Calls Try.prog 87 #[.slice az nz cz, .slice ay ny cy] w (Ret fun v w' => v = .bool (decide ((srt z) = (srt y))) ∧ Ext w w') := by
 have kz : Kn w none_ [] (RdI az nz z) := fun w' hs => rz.ext hs.upd
 have lz : z.length = nz := rz.1
 have mz : nz ≤ 9223372036854775807 := rz.2.1
 have ky : Kn w none_ [] (RdI ay ny y) := fun w' hs => ry.ext hs.upd
 have ly : y.length = ny := ry.1
 have my : ny ≤ 9223372036854775807 := ry.2.1
 refine fn (M := none_) (rs := [.tmp 4]) Try.func87 rfl Try.ntmps87 rfl rfl (Sep.start _ _) ?_
 refine hSeq ?_
 refine hReg (sq 0 sz) (by kernel_rfl) ?_
 refine asB rfl rfl rfl ?_
 refine rNil ?_
 refine qSeq rfl ?_
 refine hSeq ?_
 refine hReg (sq 0 (sl 1 (sq 2 (sl 3 (sl 4 (sq 5 sz)))))) (by kernel_rfl) ?_
 refine mvS rfl rfl rfl ?_
 refine callS Try.call130 trv1 rfl rfl (fun w hs => spec_l02Sorted_c _ nz cz _ w (kz w hs) (by omega)) ?_
 rintro ⟨ay1, ny1, cy1, y1⟩ ⟨hr1a, hr1b⟩
 dsimp only at hr1a hr1b
 subst y1
 subst ny1
 refine rKnow (fun w hs => (show OwnI 2 ay1 nz cy1 (srt z) w from hs.at_ 0 rfl).lenz) (fun lenn1 => ?_)
 refine mvS rfl rfl rfl ?_
 refine callS Try.call130 trv1 rfl rfl (fun w hs => spec_l02Sorted_c _ ny cy _ w (Kn.drop (k := 1) ky w hs) (by omega)) ?_
 rintro ⟨ay2, ny2, cy2, y2⟩ ⟨hr2a, hr2b⟩
 dsimp only at hr2a hr2b
 subst y2
 subst ny2
 refine rKnow (fun w hs => (show OwnI 2 ay2 ny cy2 (srt y) w from hs.at_ 0 rfl).lenz) (fun lenn2 => ?_)
 refine callP (v := .bool (decide ((srt z) = (srt y)))) Try.call129 trv rfl rfl (fun w hs => spec_l01Same_c _ nz cy1 _ _ ny cy2 _ w (OwnI.rd (hs.at_ 1 rfl)) (OwnI.rd (hs.at_ 0 rfl))) ?_
 refine asB rfl rfl rfl ?_
 refine rNil ?_
 refine qSeq rfl ?_
 refine hRet ?_
 exact fun w hs => ⟨[.bool (decide ((srt z) = (srt y)))], ⟨rfl, trivial⟩, ⟨by first | rfl | exact bD (by omega) | exact bT (by omega) | exact bF (by omega) | exact vI (by omega), hs.upd⟩⟩
theorem spec_l01Has_c (az : Option Addr) (nz : Nat) (cz : Nat) (z : List Int) (x0 : Int) (w : World) (rz : RdI az nz z w) :
  Calls Try.prog 133 #[.slice az nz cz, .int .i64 x0] w (Ret fun v w' => v = .bool (z.contains x0) ∧ Ext w w') := by
 have kz : Kn w none_ [] (RdI az nz z) := fun w' hs => rz.ext hs.upd
 have lz : z.length = nz := rz.1
 have mz : nz ≤ 9223372036854775807 := rz.2.1
 refine fn (M := none_) (rs := [.tmp 4]) Try.func133 rfl Try.ntmps133 rfl rfl (Sep.start _ _) ?_
 refine hSeq ?_
 refine hReg (sq 0 sz) (by kernel_rfl) ?_
 refine asB rfl rfl rfl ?_
 refine rNil ?_
 refine qSeq rfl ?_
 refine hSeq ?_
 refine hSeq ?_
 refine hReg (sq 0 sz) (by kernel_rfl) ?_
 refine asI rfl rfl rfl ?_
 refine rNil ?_
 refine qSeq rfl ?_
 refine hBlk ?_
 refine hLoop (α := Nat) (fun i => i ≤ nz ∧ x0 ∉ z.take i) (fun i => nz - i) (fun i => []) (fun i => [(0, .slice az nz cz), (1, .int .i64 x0), (5, .int .i64 (i : Int))]) 0 ⟨Nat.zero_le _, by simp⟩ (fun _ h => h.pick []) ⟨rfl, rfl, rfl, trivial⟩ ?_
 rintro i τ1 ⟨hi, hal⟩
 refine hSeq ?_
 refine hSeq ?_
 refine hReg (sq 0 (sq 1 (sq 2 (sq 3 sz)))) (by kernel_rfl) ?_
 refine mvI rfl rfl rfl ?_
 refine mvS rfl rfl rfl ?_
 refine lenS Try.runUnderlying23 rfl rfl rfl ?_
 refine lss rfl rfl rfl rfl ?_
 refine rNil ?_
 refine qSeq rfl ?_
 refine hIfD rfl (fun c1 => ?_) (fun c1 => ?_)
 ·
  replace c1 : (i : Int) < (nz : Int) := c1
  refine hSkip ?_
  refine qSeq rfl ?_
  refine hSeq ?_
  refine hBlk ?_
  refine hSeq ?_
  refine hReg (sq 0 (sq 1 (sq 2 (sl 3 (sq 4 (sq 5 sz)))))) (by kernel_rfl) ?_
  refine mvS rfl rfl rfl ?_
  refine mvI rfl rfl rfl ?_
  refine ixIl (zn := i) el23 (kz) rfl rfl rfl rfl (by omega) (by omega) rfl ?_
  intro ae1 e1
  refine ldl Try.isAgg2 (e1) trv rfl rfl rfl ?_
  refine mvI rfl rfl rfl ?_
  refine eql rfl rfl rfl rfl ?_
  refine rNil ?_
  refine qSeq rfl ?_
  refine hIfD rfl (fun c2 => ?_) (fun c2 => ?_)
  ·
   replace c2 : (z.getD i 0) = x0 := c2
   refine hSeq ?_
   refine hReg (sq 0 sz) (by kernel_rfl) ?_
   refine asB rfl rfl rfl ?_
   refine rNil ?_
   refine qSeq rfl ?_
   refine hRet ?_
   exact fun w hs => ⟨[.bool true], ⟨rfl, trivial⟩, ⟨bB (Iso.has_yes (i := i) (by omega) (by assumption)).symm, hs.upd⟩⟩
  ·
   replace c2 : ¬ ((z.getD i 0) = x0) := c2
   refine hSkip ?_
   refine qSeq rfl ?_
   refine hReg (sq 0 (sq 1 (sq 2 sz))) (by kernel_rfl) ?_
   refine mvI rfl rfl rfl ?_
   refine add rfl rfl rfl rfl (by omega) ?_
   refine asI rfl rfl rfl ?_
   refine rNil ?_
   exact qNext rfl (i + 1) (by omega) ⟨by omega, Iso.not_snoc (by omega) hal (by assumption)⟩ ⟨rfl, rfl, rfl, trivial⟩ (fun _ h => h.pick [])
 ·
  replace c1 : ¬ ((i : Int) < (nz : Int)) := c1
  refine hExit rfl ?_
  refine qSeq rfl ?_
  refine hSeq ?_
  refine hReg (sq 0 sz) (by kernel_rfl) ?_
  refine asB rfl rfl rfl ?_
  refine rNil ?_
  refine qSeq rfl ?_
  refine hRet ?_
  exact fun w hs => ⟨[.bool false], ⟨rfl, trivial⟩, ⟨bB (Iso.has_no (i := i) (by omega) hal).symm, hs.upd⟩⟩
end Go.Proofs.Yteaahdakammffaa
/- Contracts of the reference: fixing exchanges, cards that are alike, classes. Their conditions stand in each. -/
namespace Go.Proofs.Yteaahdakammffaa
open Go Go.RowKit V
set_option linter.unusedVariables false
set_option linter.unusedSimpArgs false
set_option maxRecDepth 100000
theorem spec_l18Fixing_c (az : Option Addr) (nz : Nat) (cz : Nat) (Hz : Nat → Hd) (z : List (List Int)) (w : World) (rz : RdR maK az nz Hz z w) (hc : Iso.codeS z = 0) :
  Calls Try.prog 91 #[.slice az nz cz] w (Ret fun v w' => ∃ x : Option Addr × Nat × Nat × (Nat → Hd) × List (List Int), v = .slice x.1 x.2.1 x.2.2.1 ∧ (x.2.2.2.2 = Iso.fixA z) ∧ Sep w none_ [RdR maK x.1 x.2.1 x.2.2.2.1 x.2.2.2.2] w') := by
 have kz : Kn w none_ [] (RdR maK az nz Hz z) := fun w' hs => rz.ext hs.upd
 have lz : z.length = nz := rz.1
 have mz : nz ≤ 9223372036854775807 := rz.2.1
 have hol := Iso.orders_len
 refine fn (M := none_) (rs := [.tmp 2]) Try.func91 rfl Try.ntmps91 rfl rfl (Sep.start _ _) ?_
 refine hSeq ?_
 refine hReg (sq 0 sz) (by kernel_rfl) ?_
 refine asS rfl rfl rfl ?_
 refine rNil ?_
 refine qSeq rfl ?_
 refine hSeq ?_
 refine hReg (sl 0 (sq 1 sz)) (by kernel_rfl) ?_
 refine callS Try.call86 trv1 rfl rfl (fun w hs => spec_l07Suits_c  w ) ?_
 rintro ⟨ay1, ny1, cy1, Hy1, y1⟩ hr1
 dsimp only at hr1
 subst y1
 refine rKnow (fun w hs => (show OwnR maK 23 2 ay1 ny1 cy1 Hy1 Iso.orders w from hs.at_ 0 rfl).1) (fun lenn1 => ?_)
 refine rVal (v' := .slice ay1 ny1 cy1) rfl ?_
 refine asS rfl rfl rfl ?_
 refine rNil ?_
 refine qSeq rfl ?_
 refine hSeq ?_
 refine hReg (sl 0 (sq 1 sz)) (by kernel_rfl) ?_
 refine bsl trv1 rfl rfl rfl (bsl22_0) (fun bkl2 hbkl2 => ?_)
 refine asS rfl rfl rfl ?_
 refine rNil ?_
 refine qSeq rfl ?_
 refine hSeq ?_
 refine hSeq ?_
 refine hReg (sq 0 sz) (by kernel_rfl) ?_
 refine asI rfl rfl rfl ?_
 refine rNil ?_
 refine qSeq rfl ?_
 refine hBlk ?_
 refine hPieces (fun _ h => Sep.subNil Hy1 Iso.orders (fun _ => (none, 0)) 0 h rfl) ?_
 refine hLoop (α := Nat × Nat × Hd × (Nat → Hd)) (fun x => x.1 ≤ ny1 ∧ x.2.1 ≤ x.1) (fun x => ny1 - x.1) (fun x => [SubR 23 Hy1 Iso.orders x.2.2.1.1 x.2.1 x.2.2.1.2 x.2.2.2 (Iso.fixL z x.1), OwnR maK 23 2 ay1 ny1 cy1 Hy1 Iso.orders]) (fun x => [(0, .slice az nz cz), (3, .slice ay1 ny1 cy1), (4, .slice x.2.2.1.1 x.2.1 x.2.2.1.2), (5, .int .i64 (x.1 : Int))]) ((0, 0, (((some ⟨bkl2, 0, none⟩), 0), (fun _ => (none, 0))))) ⟨Nat.zero_le _, Nat.le_refl _⟩ (fun _ h => h.pick [0, 0]) ⟨rfl, rfl, rfl, rfl, trivial⟩ ?_
 rintro ⟨i, q, hd⟩ τ1 ⟨hi, hq⟩
 dsimp only at hi hq
 refine hRe [(0, .slice az nz cz), (3, .slice ay1 ny1 cy1), (4, .slice hd.1.1 q hd.1.2), (5, .int .i64 (i : Int))] [SubR 23 Hy1 Iso.orders hd.1.1 q hd.1.2 hd.2 (Iso.fixL z i), OwnR maK 23 2 ay1 ny1 cy1 Hy1 Iso.orders] rfl rfl ?_
 refine hSeq ?_
 refine hSeq ?_
 refine hReg (sq 0 (sq 1 (sq 2 (sq 3 sz)))) (by kernel_rfl) ?_
 refine mvI rfl rfl rfl ?_
 refine mvS rfl rfl rfl ?_
 refine lenS Try.runUnderlying22 rfl rfl rfl ?_
 refine lss rfl rfl rfl rfl ?_
 refine rNil ?_
 refine qSeq rfl ?_
 refine hIfD rfl (fun c1 => ?_) (fun c1 => ?_)
 ·
  replace c1 : (i : Int) < (ny1 : Int) := c1
  refine hSkip ?_
  refine qSeq rfl ?_
  refine hSeq ?_
  refine hBlk ?_
  refine hSeq ?_
  refine hReg (sq 0 sz) (by kernel_rfl) ?_
  refine asB rfl rfl rfl ?_
  refine rNil ?_
  refine qSeq rfl ?_
  refine hSeq ?_
  refine hSeq ?_
  refine hReg (sq 0 sz) (by kernel_rfl) ?_
  refine asI rfl rfl rfl ?_
  refine rNil ?_
  refine qSeq rfl ?_
  refine hBlk ?_
  refine hLoop (α := Nat × Bool) (fun x => x.1 ≤ nz ∧ x.2 = Iso.fixS (Iso.orders.getD i []) (z.take x.1)) (fun x => nz - x.1) (fun x => [SubR 23 Hy1 Iso.orders hd.1.1 q hd.1.2 hd.2 (Iso.fixL z i), OwnR maK 23 2 ay1 ny1 cy1 Hy1 Iso.orders]) (fun x => [(0, .slice az nz cz), (3, .slice ay1 ny1 cy1), (4, .slice hd.1.1 q hd.1.2), (5, .int .i64 (i : Int)), (6, .bool x.2), (7, .int .i64 (x.1 : Int))]) (0, true) ⟨Nat.zero_le _, rfl⟩ (fun _ h => h.pick [0, 0]) ⟨rfl, rfl, rfl, rfl, rfl, rfl, trivial⟩ ?_
  rintro ⟨j, b⟩ τ2 ⟨hj, hb⟩
  dsimp only at hj hb
  refine hRe [(0, .slice az nz cz), (3, .slice ay1 ny1 cy1), (4, .slice hd.1.1 q hd.1.2), (5, .int .i64 (i : Int)), (6, .bool b), (7, .int .i64 (j : Int))] [SubR 23 Hy1 Iso.orders hd.1.1 q hd.1.2 hd.2 (Iso.fixL z i), OwnR maK 23 2 ay1 ny1 cy1 Hy1 Iso.orders] rfl rfl ?_
  refine hSeq ?_
  refine hSeq ?_
  refine hReg (sq 0 (sq 1 (sq 2 (sq 3 sz)))) (by kernel_rfl) ?_
  refine mvI rfl rfl rfl ?_
  refine mvS rfl rfl rfl ?_
  refine lenS Try.runUnderlying22 rfl rfl rfl ?_
  refine lss rfl rfl rfl rfl ?_
  refine rNil ?_
  refine qSeq rfl ?_
  refine hIfD rfl (fun c2 => ?_) (fun c2 => ?_)
  ·
   replace c2 : (j : Int) < (nz : Int) := c2
   have hps := Iso.codeS_at hc (show j < z.length by omega)
   have hpl := Iso.areP_len hps
   refine hSkip ?_
   refine qSeq rfl ?_
   refine hSeq ?_
   refine hBlk ?_
   refine hDraw (Ls := [OwnR maK 23 2 ay1 ny1 cy1 Hy1 Iso.orders]) (by kernel_rfl) (sq 0 (sq 1 (sq 2 (sq 3 (sq 4 (sq 5 (sq 6 (sq 7 (sq 8 (sq 9 (sq 10 (sq 11 (sq 12 (sq 13 (sl 14 (sl 15 (sq 16 (sq 17 sz)))))))))))))))))) (by kernel_rfl) (.cons _ (.cons_cons _ .slnil)) ?_
   refine mvB rfl rfl rfl ?_
   refine mvB rfl rfl rfl ?_
   refine rBool (d := 23) rfl (fun g3 => ?_) (fun g3 => ?_)
   ·
    replace g3 : b = true := g3
    refine mvS rfl rfl rfl ?_
    refine mvI rfl rfl rfl ?_
    refine ixRq (zn := j) (z.getD j []) el22 (Kn.drop (k := 1) kz) (fun _ h => h.pick [1]) rfl rfl rfl rfl (by omega) (by omega) rfl (nth [] (by omega)) ?_
    intro be2 oe2 e2
    refine ldq Try.isAgg23 (Kn.fld e2 0 rfl) rfl rfl rfl ?_
    refine mvS rfl rfl rfl ?_
    refine mvI rfl rfl rfl ?_
    refine ixRq (zn := j) (z.getD j []) el22 (Kn.drop (k := 1) kz) (fun _ h => h.pick [1]) rfl rfl rfl rfl (by omega) (by omega) rfl (nth [] (by omega)) ?_
    intro be3 oe3 e3
    refine ldq Try.isAgg23 (Kn.fld e3 0 rfl) rfl rfl rfl ?_
    refine mvS rfl rfl rfl ?_
    refine mvI rfl rfl rfl ?_
    refine ixRq (zn := i) (Iso.orders.getD i []) el22 ((Kn.at_ 0 rfl).imp fun _ h => OwnR.rd h maK.ok) (fun _ h => h.pick [1]) rfl rfl rfl rfl (by omega) (by omega) rfl (nth [] (by omega)) ?_
    intro be4 oe4 e4
    refine ldq Try.isAgg23 (Kn.fld e4 0 rfl) rfl rfl rfl ?_
    refine callS Try.call79 (by exact (fun _ _ h => h.pick [2])) rfl rfl (fun w hs => spec_l18Image_c _ ((z.getD j []).length) ((Hz j).2) _ _ ((Iso.orders.getD i []).length) ((Hy1 i).2) _ w (Kn.drop (k := 2) ((Kn.imp kz fun _ h => h.kidM (nth [] (by omega)))) w hs) (Kn.drop (k := 1) ((Kn.imp ((Kn.at_ (φ := OwnR maK 23 2 ay1 ny1 cy1 Hy1 Iso.orders) 0 rfl).imp fun _ h => OwnR.rd h maK.ok) fun _ h => h.kidM (nth [] (by omega)))) w hs) hps.1 (by omega) (Iso.orders_at (by omega))) ?_
    rintro ⟨ay5, ny5, cy5, y5⟩ ⟨hr5a, hr5b⟩
    dsimp only at hr5a hr5b
    subst y5
    subst ny5
    refine rKnow (fun w hs => (show OwnI 2 ay5 (((((z.getD j []).length)))) cy5 ((((Iso.image4 (Iso.orders.getD i []) (z.getD j []))))) w from hs.at_ 0 rfl).lenz) (fun lenn3 => ?_)
    refine rVal (v' := .slice ay5 (((((z.getD j []).length)))) cy5) rfl ?_
    refine callP (v := .bool (decide ((srt (z.getD j [])) = (srt ((((Iso.image4 (Iso.orders.getD i []) (z.getD j []))))))))) Try.call87 (fun _ h => h.pick [2]) rfl rfl (fun w hs => spec_l18SameSet_c _ ((z.getD j []).length) ((Hz j).2) _ _ (((((z.getD j []).length)))) cy5 _ w (Kn.drop (k := 3) ((Kn.imp kz fun _ h => h.kidM (nth [] (by omega)))) w hs) (OwnI.rd (hs.at_ 0 rfl)) (by omega) (by rw [Iso.image4_len]; omega)) ?_
    refine pickB rfl rfl rfl rfl ?_
    refine asB rfl rfl rfl ?_
    refine rNil ?_
    refine qSeq rfl ?_
    refine hReg (sq 0 (sq 1 (sq 2 sz))) (by kernel_rfl) ?_
    refine mvI rfl rfl rfl ?_
    refine add rfl rfl rfl rfl (by omega) ?_
    refine asI rfl rfl rfl ?_
    refine rNil ?_
    exact qNext rfl ((j + 1, decide ((srt (z.getD j [])) = (srt ((((Iso.image4 (Iso.orders.getD i []) (z.getD j []))))))))) (by dsimp only; omega) ⟨by dsimp only; omega, by dsimp only; rw [Iso.fixS_snoc (by omega), ← hb, g3]; exact Iso.fixB_flip _ _⟩ ⟨rfl, rfl, rfl, rfl, rfl, rfl, trivial⟩ (fun _ h => h.pick [1, 1])
   ·
    replace g3 : b = false := g3
    refine rSkipQ rfl rfl ?_
    refine rSkipQ rfl rfl ?_
    refine rSkipQ rfl rfl ?_
    refine rSkipQ rfl rfl ?_
    refine rSkipQ rfl rfl ?_
    refine rSkipQ rfl rfl ?_
    refine rSkipQ rfl rfl ?_
    refine rSkipQ rfl rfl ?_
    refine rSkipQ rfl rfl ?_
    refine rSkipQ rfl rfl ?_
    refine rSkipQ rfl rfl ?_
    refine rSkipQ rfl rfl ?_
    refine rSkipL (fun _ h => h.pick [1]) rfl rfl ?_
    refine rSkipL (fun _ h => h.pick [1]) rfl rfl ?_
    refine pickB rfl rfl rfl rfl ?_
    refine asB rfl rfl rfl ?_
    refine rNil ?_
    refine qSeq rfl ?_
    refine hReg (sq 0 (sq 1 (sq 2 sz))) (by kernel_rfl) ?_
    refine mvI rfl rfl rfl ?_
    refine add rfl rfl rfl rfl (by omega) ?_
    refine asI rfl rfl rfl ?_
    refine rNil ?_
    exact qNext rfl (j + 1, false) (by dsimp only; omega) ⟨by dsimp only; omega, by dsimp only; rw [Iso.fixS_snoc (by omega), ← hb, g3]; rfl⟩ ⟨rfl, rfl, rfl, rfl, rfl, rfl, trivial⟩ (fun _ h => h.pick [0, 0])
  ·
   replace c2 : ¬ ((j : Int) < (nz : Int)) := c2
   have hfx : b = Iso.fixS (Iso.orders.getD i []) z := by rw [hb, List.take_of_length_le (by omega)]
   refine hExit rfl ?_
   refine qSeq rfl ?_
   refine hSeq ?_
   refine hReg (sq 0 sz) (by kernel_rfl) ?_
   refine mvB rfl rfl rfl ?_
   refine rNil ?_
   refine qSeq rfl ?_
   refine hIf rfl (fun c4 => ?_) (fun c4 => ?_)
   ·
    replace c4 : b = true := c4
    refine hReg (sq 0 (sq 1 (sq 2 (sq 3 (sl 4 (sl 5 (sl 6 (sq 7 sz)))))))) (by kernel_rfl) ?_
    refine mvS rfl rfl rfl ?_
    refine mvS rfl rfl rfl ?_
    refine mvI rfl rfl rfl ?_
    refine ixRl (zn := i) (Iso.orders.getD i []) el22 ((Kn.at_ 1 rfl).imp fun _ h => OwnR.rd h maK.ok) rfl rfl rfl rfl (by omega) (by omega) rfl (nth [] (by omega)) ?_
    intro be6 oe6 e6
    refine ldl Try.isAgg23 (Kn.fld e6 0 rfl) trv rfl rfl rfl ?_
    refine bsl trv1 rfl rfl rfl (bsl22_1 (.slice _ _ _) rfl) (fun bkl4 hbkl4 => ?_)
    refine aplS (x := (Iso.orders.getD i [])) (q := i) 1 0 rfl rfl (nth [] (by omega)) (by decide) mk22 trv1 rfl rfl rfl rfl (by omega) ?_
    intro aq7 cq7
    refine asS rfl rfl rfl ?_
    refine rNil ?_
    refine qSeq rfl ?_
    refine hReg (sq 0 (sq 1 (sq 2 sz))) (by kernel_rfl) ?_
    refine mvI rfl rfl rfl ?_
    refine add rfl rfl rfl rfl (by omega) ?_
    refine asI rfl rfl rfl ?_
    refine rNil ?_
    rw [← Iso.fixL_yes (by omega) (by rw [← hfx]; assumption)]
    exact qNext rfl ((i + 1, (q + 1), ((aq7, cq7), (hset hd.2 (Iso.fixL z i).length (Hy1 i))))) (by dsimp only; omega) ⟨by dsimp only; omega, by dsimp only; omega⟩ ⟨rfl, rfl, rfl, rfl, trivial⟩ (fun _ h => h.pick [1, 1])
   ·
    replace c4 : b = false := c4
    refine hSkip ?_
    refine qSeq rfl ?_
    refine hReg (sq 0 (sq 1 (sq 2 sz))) (by kernel_rfl) ?_
    refine mvI rfl rfl rfl ?_
    refine add rfl rfl rfl rfl (by omega) ?_
    refine asI rfl rfl rfl ?_
    refine rNil ?_
    rw [← Iso.fixL_no (by omega) (by rw [← hfx]; assumption)]
    exact qNext rfl ((i + 1, q, ((hd.1.1, hd.1.2), hd.2))) (by dsimp only; omega) ⟨by dsimp only; omega, by dsimp only; omega⟩ ⟨rfl, rfl, rfl, rfl, trivial⟩ (fun _ h => h.pick [0, 0])
 ·
  replace c1 : ¬ ((i : Int) < (ny1 : Int)) := c1
  refine hExit rfl ?_
  refine qSeq rfl ?_
  refine hSeq ?_
  refine hReg (sq 0 (sq 1 sz)) (by kernel_rfl) ?_
  refine mvS rfl rfl rfl ?_
  refine asS rfl rfl rfl ?_
  refine rNil ?_
  refine qSeq rfl ?_
  refine hRet ?_
  refine knP (L' := [OwnR maK 23 2 ay1 ny1 cy1 Hy1 Iso.orders, SubR 23 Hy1 Iso.orders hd.1.1 q hd.1.2 hd.2 (Iso.fixL z i)]) (fun _ h => h.perm (pull (i := 1) rfl)) ?_
  refine knP (L' := [SubR 23 Hy1 Iso.orders hd.1.1 q hd.1.2 hd.2 (Iso.fixL z i), OwnR maK 23 2 ay1 ny1 cy1 Hy1 Iso.orders]) (fun _ h => h.perm (pull (i := 1) rfl)) ?_
  refine knP (L' := [RdR maK hd.1.1 q hd.2 (Iso.fixL z i)]) (fun _ h => Sep.subFuse h (by omega)) ?_
  exact fun w hs => ⟨[.slice hd.1.1 q hd.1.2], ⟨rfl, trivial⟩, ⟨(hd.1.1, q, hd.1.2, hd.2, (Iso.fixL z i)), rfl, Iso.fixL_end (by omega), hs.pick [0]⟩⟩
theorem spec_l18Alike_c (az : Option Addr) (nz : Nat) (cz : Nat) (Hz : Nat → Hd) (z : List (List Int)) (c : Int) (w : World) (rz : RdR maK az nz Hz z w) (hx : ∀ p ∈ z, Iso.isP p) (hc : 0 ≤ c ∧ c ≤ 51) (hl : z.length ≤ 256) :
  Calls Try.prog 103 #[.slice az nz cz, .int .i64 c] w (Ret fun v w' => ∃ x : Option Addr × Nat × Nat × List Int, v = .slice x.1 x.2.1 x.2.2.1 ∧ (x.2.2.2 = Iso.alk z c ∧ x.2.1 = (Iso.alk z c).length) ∧ Sep w none_ [OwnI 2 x.1 x.2.1 x.2.2.1 x.2.2.2] w') := by
 have kz : Kn w none_ [] (RdR maK az nz Hz z) := fun w' hs => rz.ext hs.upd
 have lz : z.length = nz := rz.1
 have mz : nz ≤ 9223372036854775807 := rz.2.1
 refine fn (M := none_) (rs := [.tmp 4]) Try.func103 rfl Try.ntmps103 rfl rfl (Sep.start _ _) ?_
 refine hSeq ?_
 refine hReg (sq 0 sz) (by kernel_rfl) ?_
 refine asS rfl rfl rfl ?_
 refine rNil ?_
 refine qSeq rfl ?_
 refine hSeq ?_
 refine hReg (sl 0 (sq 1 sz)) (by kernel_rfl) ?_
 refine bsl trv1 rfl rfl rfl (bsl23_0) (fun bkl1 hbkl1 => ?_)
 refine asS rfl rfl rfl ?_
 refine rNil ?_
 refine qSeq rfl ?_
 refine hSeq ?_
 refine hSeq ?_
 refine hReg (sq 0 sz) (by kernel_rfl) ?_
 refine asI rfl rfl rfl ?_
 refine rNil ?_
 refine qSeq rfl ?_
 refine hBlk ?_
 refine hPieces (fun _ h => Sep.litI h 0 [] rfl rfl rfl) ?_
 refine hLoop (α := Nat × Nat × Hd) (fun x => x.1 ≤ 52 ∧ x.2.1 = (Iso.alkTo z c x.1).length) (fun x => 52 - x.1) (fun x => [OwnI 2 x.2.2.1 x.2.1 x.2.2.2 (Iso.alkTo z c x.1)]) (fun x => [(0, .slice az nz cz), (1, .int .i64 c), (5, .slice x.2.2.1 x.2.1 x.2.2.2), (6, .int .i64 (x.1 : Int))]) ((0, 0, ((some ⟨bkl1, 0, none⟩), 0))) ⟨Nat.zero_le _, rfl⟩ (fun _ h => h.pick [0]) ⟨rfl, rfl, rfl, rfl, trivial⟩ ?_
 rintro ⟨k, q, hd⟩ τ1 ⟨hk, hq⟩
 dsimp only at hk hq
 refine hRe [(0, .slice az nz cz), (1, .int .i64 c), (5, .slice hd.1 q hd.2), (6, .int .i64 (k : Int))] [OwnI 2 hd.1 q hd.2 (Iso.alkTo z c k)] rfl rfl ?_
 refine hSeq ?_
 refine hSeq ?_
 refine hReg (sq 0 (sq 1 sz)) (by kernel_rfl) ?_
 refine mvI rfl rfl rfl ?_
 refine lss rfl rfl rfl rfl ?_
 refine rNil ?_
 refine qSeq rfl ?_
 refine hIfD rfl (fun c1 => ?_) (fun c1 => ?_)
 ·
  replace c1 : (k : Int) < 52 := c1
  refine hSkip ?_
  refine qSeq rfl ?_
  refine hSeq ?_
  refine hBlk ?_
  refine hSeq ?_
  refine hReg (sq 0 sz) (by kernel_rfl) ?_
  refine asI rfl rfl rfl ?_
  refine rNil ?_
  refine qSeq rfl ?_
  refine hBlk ?_
  refine hLoop (α := Nat × Nat × Hd) (fun x => x.1 ≤ nz ∧ x.2.1 = (Iso.alkTo z c k).length ∧ (z.take x.1).any (fun p => decide (Iso.take4 p c = (k : Int))) = false) (fun x => nz - x.1) (fun x => [OwnI 2 x.2.2.1 x.2.1 x.2.2.2 (Iso.alkTo z c k)]) (fun x => [(0, .slice az nz cz), (1, .int .i64 c), (5, .slice x.2.2.1 x.2.1 x.2.2.2), (6, .int .i64 (k : Int)), (7, .int .i64 (x.1 : Int))]) (0, q, hd) ⟨Nat.zero_le _, hq, rfl⟩ (fun _ h => h.pick [0]) ⟨rfl, rfl, rfl, rfl, rfl, trivial⟩ ?_
  rintro ⟨i, q2, hd2⟩ τ2 ⟨hi, hq2, hal⟩
  dsimp only at hi hq2 hal
  refine hRe [(0, .slice az nz cz), (1, .int .i64 c), (5, .slice hd2.1 q2 hd2.2), (6, .int .i64 (k : Int)), (7, .int .i64 (i : Int))] [OwnI 2 hd2.1 q2 hd2.2 (Iso.alkTo z c k)] rfl rfl ?_
  refine hSeq ?_
  refine hSeq ?_
  refine hReg (sq 0 (sq 1 (sq 2 (sq 3 sz)))) (by kernel_rfl) ?_
  refine mvI rfl rfl rfl ?_
  refine mvS rfl rfl rfl ?_
  refine lenS Try.runUnderlying22 rfl rfl rfl ?_
  refine lss rfl rfl rfl rfl ?_
  refine rNil ?_
  refine qSeq rfl ?_
  refine hIfD rfl (fun c2 => ?_) (fun c2 => ?_)
  ·
   replace c2 : (i : Int) < (nz : Int) := c2
   have hx1 := hx _ (Math.getD_mem [] (show i < z.length by omega))
   have hkl := Iso.alk_len z c k
   refine hSkip ?_
   refine qSeq rfl ?_
   refine hSeq ?_
   refine hBlk ?_
   refine hSeq ?_
   refine hReg (sq 0 (sq 1 (sq 2 (sq 3 (sl 4 (sl 5 (sq 6 (sq 7 sz)))))))) (by kernel_rfl) ?_
   refine mvI rfl rfl rfl ?_
   refine mvS rfl rfl rfl ?_
   refine mvI rfl rfl rfl ?_
   refine ixRl (zn := i) (z.getD i []) el22 (Kn.drop (k := 1) kz) rfl rfl rfl rfl (by omega) (by omega) rfl (nth [] (by omega)) ?_
   intro be1 oe1 e1
   refine ldl Try.isAgg23 (Kn.fld e1 0 rfl) trv rfl rfl rfl ?_
   refine callP (v := .int .i64 ((Iso.take4 (z.getD i []) c))) Try.call123 trv rfl rfl (fun w hs => spec_l18Take_c _ _ ((z.getD i []).length) ((Hz i).2) _ w (Kn.drop (k := 1) ((Kn.imp kz fun _ h => h.kidM (nth [] (by omega)))) w hs) (by omega) (by assumption)) ?_
   refine mvI rfl rfl rfl ?_
   refine eql rfl rfl rfl rfl ?_
   refine rNil ?_
   refine qSeq rfl ?_
   refine hIfD rfl (fun c3 => ?_) (fun c3 => ?_)
   ·
    replace c3 : (Iso.take4 (z.getD i []) c) = (k : Int) := c3
    refine hSeq ?_
    refine hReg (sq 0 (sq 1 (sl 2 (sl 3 (sq 4 sz))))) (by kernel_rfl) ?_
    refine mvS rfl rfl rfl ?_
    refine mvI rfl rfl rfl ?_
    refine bsl trv1 rfl rfl rfl (bsl23_1 (.int .i64 _) rfl) (fun bkl2 hbkl2 => ?_)
    refine aplI (N := q2) (x := (k : Int)) 1 0 rfl rfl mk23 trv1 rfl rfl rfl rfl (by omega) ?_
    intro aq2 cq2
    refine asS rfl rfl rfl ?_
    refine rNil ?_
    refine qSeq rfl ?_
    refine hExit rfl ?_
    refine qSeq rfl ?_
    refine hReg (sq 0 (sq 1 (sq 2 sz))) (by kernel_rfl) ?_
    refine mvI rfl rfl rfl ?_
    refine add rfl rfl rfl rfl (by omega) ?_
    refine asI rfl rfl rfl ?_
    refine rNil ?_
    rw [← Iso.alkTo_yes (Iso.any_here [] (i := i) (by omega) (decide_eq_true c3))]
    exact qNext rfl ((k + 1, (q2 + 1), (aq2, cq2))) (by dsimp only; omega) ⟨by dsimp only; omega, by dsimp only; rw [Iso.alkTo_yes (Iso.any_here [] (i := i) (by omega) (decide_eq_true c3)), List.length_append, ← hq2]; rfl⟩ ⟨rfl, rfl, rfl, rfl, trivial⟩ (fun _ h => h.pick [1])
   ·
    replace c3 : ¬ ((Iso.take4 (z.getD i []) c) = (k : Int)) := c3
    refine hSkip ?_
    refine qSeq rfl ?_
    refine hReg (sq 0 (sq 1 (sq 2 sz))) (by kernel_rfl) ?_
    refine mvI rfl rfl rfl ?_
    refine add rfl rfl rfl rfl (by omega) ?_
    refine asI rfl rfl rfl ?_
    refine rNil ?_
    exact qNext rfl ((i + 1, q2, (hd2.1, hd2.2))) (by dsimp only; omega) ⟨by dsimp only; omega, hq2, Iso.any_snoc [] (by omega) hal (decide_eq_false c3)⟩ ⟨rfl, rfl, rfl, rfl, rfl, trivial⟩ (fun _ h => h.pick [0])
  ·
   replace c2 : ¬ ((i : Int) < (nz : Int)) := c2
   have hkl := Iso.alk_len z c k
   refine hExit rfl ?_
   refine qSeq rfl ?_
   refine hReg (sq 0 (sq 1 (sq 2 sz))) (by kernel_rfl) ?_
   refine mvI rfl rfl rfl ?_
   refine add rfl rfl rfl rfl (by omega) ?_
   refine asI rfl rfl rfl ?_
   refine rNil ?_
   rw [← Iso.alkTo_no (Iso.any_end (i := i) (by omega) hal)]
   exact qNext rfl ((k + 1, q2, (hd2.1, hd2.2))) (by dsimp only; omega) ⟨by dsimp only; omega, by dsimp only; rw [Iso.alkTo_no (Iso.any_end (i := i) (by omega) hal)]; exact hq2⟩ ⟨rfl, rfl, rfl, rfl, trivial⟩ (fun _ h => h.pick [0])
 ·
  replace c1 : ¬ ((k : Int) < 52) := c1
  refine hExit rfl ?_
  refine qSeq rfl ?_
  refine hSeq ?_
  refine hReg (sq 0 (sq 1 sz)) (by kernel_rfl) ?_
  refine mvS rfl rfl rfl ?_
  refine asS rfl rfl rfl ?_
  refine rNil ?_
  refine qSeq rfl ?_
  refine hRet ?_
  exact fun w hs => ⟨[.slice hd.1 q hd.2], ⟨rfl, trivial⟩, ⟨(hd.1, q, hd.2, (Iso.alkTo z c k)), rfl, ⟨by dsimp only; rw [show k = 52 by omega]; rfl, by dsimp only; rw [hq, show k = 52 by omega]; rfl⟩, hs.pick [0]⟩⟩
theorem spec_l18Classes_c (az : Option Addr) (nz : Nat) (cz : Nat) (Hz : Nat → Hd) (z : List (List Int)) (w : World) (rz : RdR maK az nz Hz z w) (hc : Iso.codeS z = 0) :
  Calls Try.prog 96 #[.slice az nz cz] w (Ret fun v w' => ∃ x : Option Addr × Nat × Nat × List Int × Option Addr × Nat × Nat × List Int, v = .tuple #[.slice x.1 x.2.1 x.2.2.1, .slice x.2.2.2.2.1 x.2.2.2.2.2.1 x.2.2.2.2.2.2.1] ∧ (x.2.2.2.1 = Iso.cls z 52 ∧ x.2.2.2.2.2.2.2 = Iso.sizL z 52) ∧ Sep w none_ [OwnI 2 x.1 x.2.1 x.2.2.1 x.2.2.2.1, OwnI 2 x.2.2.2.2.1 x.2.2.2.2.2.1 x.2.2.2.2.2.2.1 x.2.2.2.2.2.2.2] w') := by
 have kz : Kn w none_ [] (RdR maK az nz Hz z) := fun w' hs => rz.ext hs.upd
 have lz : z.length = nz := rz.1
 have mz : nz ≤ 9223372036854775807 := rz.2.1
 have hfl := Iso.codeS_flat hc
 refine fn (M := none_) (rs := [.tmp 2, .tmp 3]) Try.func96 rfl Try.ntmps96 rfl rfl (Sep.start _ _) ?_
 refine hSeq ?_
 refine hReg (sq 0 (sq 1 sz)) (by kernel_rfl) ?_
 refine asS rfl rfl rfl ?_
 refine asS rfl rfl rfl ?_
 refine rNil ?_
 refine qSeq rfl ?_
 refine hSeq ?_
 refine hReg (sq 0 (sl 1 (sq 2 sz))) (by kernel_rfl) ?_
 refine mvS rfl rfl rfl ?_
 refine callS Try.call91 trv1 rfl rfl (fun w hs => spec_l18Fixing_c _ nz cz _ _ w (kz w hs) (by assumption)) ?_
 rintro ⟨ay1, ny1, cy1, Hy1, y1⟩ hr1
 dsimp only at hr1
 subst y1
 refine rKnow (fun w hs => (show RdR maK ay1 ny1 Hy1 (Iso.fixA z) w from hs.at_ 0 rfl).1) (fun lenn1 => ?_)
 refine rVal (v' := .slice ay1 ny1 cy1) rfl ?_
 refine asS rfl rfl rfl ?_
 refine rNil ?_
 refine qSeq rfl ?_
 refine hSeq ?_
 refine hReg (sl 0 (sq 1 sz)) (by kernel_rfl) ?_
 refine bsl trv1 rfl rfl rfl (bsl23_0) (fun bkl2 hbkl2 => ?_)
 refine asS rfl rfl rfl ?_
 refine rNil ?_
 refine qSeq rfl ?_
 refine hSeq ?_
 refine hSeq ?_
 refine hReg (sq 0 sz) (by kernel_rfl) ?_
 refine asI rfl rfl rfl ?_
 refine rNil ?_
 refine qSeq rfl ?_
 refine hBlk ?_
 refine hPieces (fun _ h => Sep.litI h 0 [] rfl rfl rfl) ?_
 refine hLoop (α := Nat × Nat × Hd) (fun x => x.1 ≤ nz ∧ x.2.1 = (z.take x.1).flatten.length) (fun x => nz - x.1) (fun x => [OwnI 2 x.2.2.1 x.2.1 x.2.2.2 (((z.take x.1).flatten)), RdR maK ay1 ny1 Hy1 (Iso.fixA z)]) (fun x => [(0, .slice az nz cz), (4, .slice ay1 ny1 cy1), (5, .slice x.2.2.1 x.2.1 x.2.2.2), (6, .int .i64 (x.1 : Int))]) ((0, 0, ((some ⟨bkl2, 0, none⟩), 0))) ⟨Nat.zero_le _, rfl⟩ (fun _ h => h.pick [0, 0]) ⟨rfl, rfl, rfl, rfl, trivial⟩ ?_
 rintro ⟨i, q, hd⟩ τ1 ⟨hi, hq⟩
 dsimp only at hi hq
 refine hRe [(0, .slice az nz cz), (4, .slice ay1 ny1 cy1), (5, .slice hd.1 q hd.2), (6, .int .i64 (i : Int))] [OwnI 2 hd.1 q hd.2 (((z.take i).flatten)), RdR maK ay1 ny1 Hy1 (Iso.fixA z)] rfl rfl ?_
 refine hSeq ?_
 refine hSeq ?_
 refine hReg (sq 0 (sq 1 (sq 2 (sq 3 sz)))) (by kernel_rfl) ?_
 refine mvI rfl rfl rfl ?_
 refine mvS rfl rfl rfl ?_
 refine lenS Try.runUnderlying22 rfl rfl rfl ?_
 refine lss rfl rfl rfl rfl ?_
 refine rNil ?_
 refine qSeq rfl ?_
 refine hIfD rfl (fun c1 => ?_) (fun c1 => ?_)
 ·
  replace c1 : (i : Int) < (nz : Int) := c1
  have hfa := Iso.flat_at (z := z) (i := i) (by omega)
  refine hSkip ?_
  refine qSeq rfl ?_
  refine hSeq ?_
  refine hBlk ?_
  refine hReg (sq 0 (sq 1 (sq 2 (sq 3 (sl 4 (sl 5 (sq 6 sz))))))) (by kernel_rfl) ?_
  refine mvS rfl rfl rfl ?_
  refine mvS rfl rfl rfl ?_
  refine mvI rfl rfl rfl ?_
  refine ixRl (zn := i) (z.getD i []) el22 (Kn.drop (k := 2) kz) rfl rfl rfl rfl (by omega) (by omega) rfl (nth [] (by omega)) ?_
  intro be2 oe2 e2
  refine ldl Try.isAgg23 (Kn.fld e2 0 rfl) trv rfl rfl rfl ?_
  refine aplL (N := q) (ys := (z.getD i [])) 0 rfl (Kn.drop (k := 2) ((Kn.imp kz fun _ h => h.kidM (nth [] (by omega))))) mk23 trv1 rfl rfl rfl rfl (by omega) ?_
  intro aq3 cq3
  refine asS rfl rfl rfl ?_
  refine rNil ?_
  refine qSeq rfl ?_
  refine hReg (sq 0 (sq 1 (sq 2 sz))) (by kernel_rfl) ?_
  refine mvI rfl rfl rfl ?_
  refine add rfl rfl rfl rfl (by omega) ?_
  refine asI rfl rfl rfl ?_
  refine rNil ?_
  rw [← Iso.flat_snoc (by omega)]
  exact qNext rfl ((i + 1, (q + (z.getD i []).length), (aq3, cq3))) (by dsimp only; omega) ⟨by dsimp only; omega, by dsimp only; rw [Iso.flat_snoc (by omega), List.length_append, ← hq]⟩ ⟨rfl, rfl, rfl, rfl, trivial⟩ (fun _ h => h.pick [0, 0])
 ·
  replace c1 : ¬ ((i : Int) < (nz : Int)) := c1
  rw [Iso.flat_all (by omega)]
  refine hExit rfl ?_
  refine qSeq rfl ?_
  refine hSeq ?_
  refine hReg (sl 0 (sl 1 (sq 2 (sq 3 sz)))) (by kernel_rfl) ?_
  refine bsl trv1 rfl rfl rfl (bsl23_0) (fun bkl3 hbkl3 => ?_)
  refine bsl trv1 rfl rfl rfl (bsl23_0) (fun bkl4 hbkl4 => ?_)
  refine asS rfl rfl rfl ?_
  refine asS rfl rfl rfl ?_
  refine rNil ?_
  refine qSeq rfl ?_
  refine hSeq ?_
  refine hSeq ?_
  refine hReg (sq 0 sz) (by kernel_rfl) ?_
  refine asI rfl rfl rfl ?_
  refine rNil ?_
  refine qSeq rfl ?_
  refine hBlk ?_
  refine hPieces (fun _ h => Sep.litI h 1 [] rfl rfl rfl) ?_
  refine hPieces (fun _ h => Sep.litI h 0 [] rfl rfl rfl) ?_
  refine hLoop (α := Nat × Nat × Hd × Nat × Hd) (fun x => x.1 ≤ 52 ∧ x.2.1 ≤ x.1 ∧ x.2.2.2.1 ≤ x.1) (fun x => 52 - x.1) (fun x => [OwnI 2 x.2.2.2.2.1 x.2.2.2.1 x.2.2.2.2.2 (Iso.sizL z x.1), OwnI 2 x.2.2.1.1 x.2.1 x.2.2.1.2 (Iso.cls z x.1), OwnI 2 hd.1 q hd.2 z.flatten, RdR maK ay1 ny1 Hy1 (Iso.fixA z)]) (fun x => [(4, .slice ay1 ny1 cy1), (5, .slice hd.1 q hd.2), (7, .slice x.2.2.1.1 x.2.1 x.2.2.1.2), (8, .slice x.2.2.2.2.1 x.2.2.2.1 x.2.2.2.2.2), (9, .int .i64 (x.1 : Int))]) ((0, 0, ((some ⟨bkl3, 0, none⟩), 0), 0, ((some ⟨bkl4, 0, none⟩), 0))) ⟨Nat.zero_le _, Nat.le_refl _, Nat.le_refl _⟩ (fun _ h => h.pick [0, 0, 0, 0]) ⟨rfl, rfl, rfl, rfl, rfl, trivial⟩ ?_
  rintro ⟨k, q2, hd2, r2, he2⟩ τ2 ⟨hk, hq2, hr2⟩
  dsimp only at hk hq2 hr2
  refine hRe [(4, .slice ay1 ny1 cy1), (5, .slice hd.1 q hd.2), (7, .slice hd2.1 q2 hd2.2), (8, .slice he2.1 r2 he2.2), (9, .int .i64 (k : Int))] [OwnI 2 he2.1 r2 he2.2 (Iso.sizL z k), OwnI 2 hd2.1 q2 hd2.2 (Iso.cls z k), OwnI 2 hd.1 q hd.2 z.flatten, RdR maK ay1 ny1 Hy1 (Iso.fixA z)] rfl rfl ?_
  refine hSeq ?_
  refine hSeq ?_
  refine hReg (sq 0 (sq 1 sz)) (by kernel_rfl) ?_
  refine mvI rfl rfl rfl ?_
  refine lss rfl rfl rfl rfl ?_
  refine rNil ?_
  refine qSeq rfl ?_
  refine hIfD rfl (fun c2 => ?_) (fun c2 => ?_)
  ·
   replace c2 : (k : Int) < 52 := c2
   have hap := Iso.alk_pos (sets := z) (c := (k : Int)) (by omega)
   refine hSkip ?_
   refine qSeq rfl ?_
   refine hSeq ?_
   refine hBlk ?_
   refine hSeq ?_
   refine hReg (sq 0 (sq 1 (sl 2 (sq 3 sz)))) (by kernel_rfl) ?_
   refine mvS rfl rfl rfl ?_
   refine mvI rfl rfl rfl ?_
   refine callS Try.call103 trv1 rfl rfl (fun w hs => spec_l18Alike_c _ ny1 cy1 _ _ _ w (hs.at_ 3 rfl) (fun p hp => Iso.fixA_isP hp) (by omega) (Iso.fixA_len _)) ?_
   rintro ⟨ay4, ny4, cy4, y4⟩ ⟨hr4a, hr4b⟩
   dsimp only at hr4a hr4b
   subst y4
   subst ny4
   refine rKnow (fun w hs => (show OwnI 2 ay4 ((((Iso.alk (Iso.fixA z) (k : Int)).length))) cy4 (((Iso.alk (Iso.fixA z) (k : Int)))) w from hs.at_ 0 rfl).lenz) (fun lenn5 => ?_)
   refine rVal (v' := .slice ay4 ((((Iso.alk (Iso.fixA z) (k : Int)).length))) cy4) rfl ?_
   refine asS rfl rfl rfl ?_
   refine rNil ?_
   refine qSeq rfl ?_
   refine hSeq ?_
   refine hReg (sq 0 (sq 1 (sl 2 (sq 3 (sq 4 (sq 5 (sq 6 (sl 7 (sq 8 (sq 9 (sq 10 sz))))))))))) (by kernel_rfl) ?_
   refine mvS rfl rfl rfl ?_
   refine mvI rfl rfl rfl ?_
   refine callP (v := .bool ((z.flatten.contains (k : Int)))) Try.call133 trv rfl rfl (fun w hs => spec_l01Has_c _ q hd.2 _ _ w (OwnI.rd (hs.at_ 3 rfl))) ?_
   refine not rfl rfl rfl ?_
   refine mvB rfl rfl rfl ?_
   refine rBoolN (d := 39) rfl (fun g3 => ?_) (fun g3 => ?_)
   ·
    replace g3 : (z.flatten.contains (k : Int)) = false := g3
    refine mvS rfl rfl rfl ?_
    refine ixIl (zn := 0) el23 ((Kn.at_ 0 rfl).imp fun _ h => OwnI.rd h) rfl rfl rfl rfl (by omega) (by omega) rfl ?_
    intro ae5 e5
    refine ldl Try.isAgg2 (e5) trv rfl rfl rfl ?_
    refine mvI rfl rfl rfl ?_
    refine eql rfl rfl rfl rfl ?_
    refine pickB rfl rfl rfl rfl ?_
    refine rNil ?_
    refine qSeq rfl ?_
    refine hIfD rfl (fun c4 => ?_) (fun c4 => ?_)
    ·
     replace c4 : ((((Iso.alk (Iso.fixA z) (k : Int)))).getD 0 0) = (k : Int) := c4
     refine hSeq ?_
     refine hReg (sq 0 (sq 1 (sl 2 (sl 3 (sq 4 sz))))) (by kernel_rfl) ?_
     refine mvS rfl rfl rfl ?_
     refine mvI rfl rfl rfl ?_
     refine bsl trv1 rfl rfl rfl (bsl23_1 (.int .i64 _) rfl) (fun bkl6 hbkl6 => ?_)
     refine aplI (N := q2) (x := (k : Int)) 3 0 rfl rfl mk23 trv1 rfl rfl rfl rfl (by omega) ?_
     intro aq6 cq6
     refine asS rfl rfl rfl ?_
     refine rNil ?_
     refine qSeq rfl ?_
     refine hReg (sq 0 (sq 1 (sq 2 (sl 3 (sl 4 (sq 5 sz)))))) (by kernel_rfl) ?_
     refine mvS rfl rfl rfl ?_
     refine mvS rfl rfl rfl ?_
     refine lenS Try.runUnderlying23 rfl rfl rfl ?_
     refine bsl trv1 rfl rfl rfl (bsl23_1 (.int .i64 _) rfl) (fun bkl7 hbkl7 => ?_)
     refine aplI (N := r2) (x := (((((Iso.alk (Iso.fixA z) (k : Int)).length)) : Nat) : Int)) 3 0 rfl rfl mk23 trv1 rfl rfl rfl rfl (by omega) ?_
     intro aq7 cq7
     refine asS rfl rfl rfl ?_
     refine rNil ?_
     refine qSeq rfl ?_
     refine hReg (sq 0 (sq 1 (sq 2 sz))) (by kernel_rfl) ?_
     refine mvI rfl rfl rfl ?_
     refine add rfl rfl rfl rfl (by omega) ?_
     refine asI rfl rfl rfl ?_
     refine rNil ?_
     rw [← Iso.cls_yes (Iso.cls_hit g3 c4), ← Iso.siz_yes (Iso.cls_hit g3 c4)]
     exact qNext rfl ((k + 1, (q2 + 1), (aq6, cq6), (r2 + 1), (aq7, cq7))) (by dsimp only; omega) ⟨by dsimp only; omega, by dsimp only; omega, by dsimp only; omega⟩ ⟨rfl, rfl, rfl, rfl, rfl, trivial⟩ (fun _ h => h.pick [3, 3, 3, 3])
    ·
     replace c4 : ¬ (((((Iso.alk (Iso.fixA z) (k : Int)))).getD 0 0) = (k : Int)) := c4
     refine hSkip ?_
     refine qSeq rfl ?_
     refine hReg (sq 0 (sq 1 (sq 2 sz))) (by kernel_rfl) ?_
     refine mvI rfl rfl rfl ?_
     refine add rfl rfl rfl rfl (by omega) ?_
     refine asI rfl rfl rfl ?_
     refine rNil ?_
     rw [← Iso.cls_no (Iso.cls_other c4), ← Iso.siz_no (Iso.cls_other c4)]
     exact qNext rfl ((k + 1, q2, (hd2.1, hd2.2), r2, (he2.1, he2.2))) (by dsimp only; omega) ⟨by dsimp only; omega, by dsimp only; omega, by dsimp only; omega⟩ ⟨rfl, rfl, rfl, rfl, rfl, trivial⟩ (fun _ h => h.pick [1, 1, 1, 1])
   ·
    replace g3 : (z.flatten.contains (k : Int)) = true := g3
    refine rSkipQ rfl rfl ?_
    refine rSkipQ rfl rfl ?_
    refine rSkipL trv rfl rfl ?_
    refine rSkipQ rfl rfl ?_
    refine rSkipQ rfl rfl ?_
    refine pickB rfl rfl rfl rfl ?_
    refine rNil ?_
    refine qSeq rfl ?_
    refine hIfF rfl ?_
    refine hSkip ?_
    refine qSeq rfl ?_
    refine hReg (sq 0 (sq 1 (sq 2 sz))) (by kernel_rfl) ?_
    refine mvI rfl rfl rfl ?_
    refine add rfl rfl rfl rfl (by omega) ?_
    refine asI rfl rfl rfl ?_
    refine rNil ?_
    rw [← Iso.cls_no (Iso.cls_has g3), ← Iso.siz_no (Iso.cls_has g3)]
    exact qNext rfl ((k + 1, q2, (hd2.1, hd2.2), r2, (he2.1, he2.2))) (by dsimp only; omega) ⟨by dsimp only; omega, by dsimp only; omega, by dsimp only; omega⟩ ⟨rfl, rfl, rfl, rfl, rfl, trivial⟩ (fun _ h => h.pick [1, 1, 1, 1])
  ·
   replace c2 : ¬ ((k : Int) < 52) := c2
   refine hExit rfl ?_
   refine qSeq rfl ?_
   refine hSeq ?_
   refine hReg (sq 0 (sq 1 (sq 2 (sq 3 sz)))) (by kernel_rfl) ?_
   refine mvS rfl rfl rfl ?_
   refine mvS rfl rfl rfl ?_
   refine asS rfl rfl rfl ?_
   refine asS rfl rfl rfl ?_
   refine rNil ?_
   refine qSeq rfl ?_
   refine hRet ?_
   exact fun w hs => ⟨[.slice hd2.1 q2 hd2.2, .slice he2.1 r2 he2.2], ⟨rfl, ⟨rfl, trivial⟩⟩, ⟨(hd2.1, q2, hd2.2, (Iso.cls z k), he2.1, r2, he2.2, (Iso.sizL z k)), rfl, by rw [show k = 52 by omega]; exact ⟨rfl, rfl⟩, hs.pick [1, 0]⟩⟩
theorem spec_NextClasses_c (az : Option Addr) (nz : Nat) (cz : Nat) (Hz : Nat → Hd) (z : List (List Int)) (w : World) (rz : RdR maK az nz Hz z w) :
  Calls Try.prog 45 #[.slice az nz cz] w (Ret fun v w' => ∃ x : Option Addr × Nat × Nat × List Int × Option Addr × Nat × Nat × List Int × Int, v = .tuple #[.slice x.1 x.2.1 x.2.2.1, .slice x.2.2.2.2.1 x.2.2.2.2.2.1 x.2.2.2.2.2.2.1, .int .i64 x.2.2.2.2.2.2.2.2] ∧ (x.2.2.2.1 = Iso.nextY z ∧ x.2.2.2.2.2.2.2.1 = Iso.nextU z ∧ x.2.2.2.2.2.2.2.2 = Iso.codeS z) ∧ Sep w none_ [OwnI 2 x.1 x.2.1 x.2.2.1 x.2.2.2.1, OwnI 2 x.2.2.2.2.1 x.2.2.2.2.2.1 x.2.2.2.2.2.2.1 x.2.2.2.2.2.2.2.1] w') := by
 have kz : Kn w none_ [] (RdR maK az nz Hz z) := fun w' hs => rz.ext hs.upd
 have lz : z.length = nz := rz.1
 have mz : nz ≤ 9223372036854775807 := rz.2.1
 refine fn (M := none_) (rs := [.tmp 2, .tmp 3, .tmp 4]) Try.func45 rfl Try.ntmps45 rfl rfl (Sep.start _ _) ?_
 refine hSeq ?_
 refine hReg (sq 0 (sq 1 (sq 2 sz))) (by kernel_rfl) ?_
 refine asS rfl rfl rfl ?_
 refine asS rfl rfl rfl ?_
 refine asI rfl rfl rfl ?_
 refine rNil ?_
 refine qSeq rfl ?_
 refine hSeq ?_
 refine hReg (sq 0 (sl 1 (sq 2 sz))) (by kernel_rfl) ?_
 refine mvS rfl rfl rfl ?_
 refine callP (v := .int .i64 (Iso.codeS z)) Try.call77 trv rfl rfl (fun w hs => spec_l18Code_c _ nz cz _ _ w (kz w hs)) ?_
 refine asI rfl rfl rfl ?_
 refine rNil ?_
 refine qSeq rfl ?_
 refine hSeq ?_
 refine hSeq ?_
 refine hReg (sq 0 (sq 1 sz)) (by kernel_rfl) ?_
 refine mvI rfl rfl rfl ?_
 refine neq rfl rfl rfl rfl ?_
 refine rNil ?_
 refine qSeq rfl ?_
 refine hIfD rfl (fun c1 => ?_) (fun c1 => ?_)
 ·
  replace c1 : (Iso.codeS z) ≠ 0 := c1
  refine hSeq ?_
  refine hReg (sq 0 (sq 1 (sq 2 (sq 3 sz)))) (by kernel_rfl) ?_
  refine mvI rfl rfl rfl ?_
  refine asS rfl rfl rfl ?_
  refine asS rfl rfl rfl ?_
  refine asI rfl rfl rfl ?_
  refine rNil ?_
  refine qSeq rfl ?_
  refine hRet ?_
  refine knP (fun _ h => Sep.nilI 2 h) ?_
  refine knP (fun _ h => Sep.nilI 2 h) ?_
  exact fun w hs => ⟨[.slice none 0 0, .slice none 0 0, .int .i64 (Iso.codeS z)], ⟨rfl, ⟨rfl, ⟨rfl, trivial⟩⟩⟩, ⟨(none, 0, 0, [], none, 0, 0, [], (Iso.codeS z)), rfl, ⟨(Iso.nextY_no c1).symm, (Iso.nextU_no c1).symm, rfl⟩, hs.pick [1, 0]⟩⟩
 ·
  replace c1 : ¬ ((Iso.codeS z) ≠ 0) := c1
  have hc0 : Iso.codeS z = 0 := by simpa using c1
  refine hSkip ?_
  refine qSeq rfl ?_
  refine hSeq ?_
  refine hReg (sq 0 (sl 1 (sq 2 (sq 3 (sq 4 (sq 5 (sq 6 sz))))))) (by kernel_rfl) ?_
  refine mvS rfl rfl rfl ?_
  refine callS Try.call96 trv1 rfl rfl (fun w hs => spec_l18Classes_c _ nz cz _ _ w (kz w hs) (by assumption)) ?_
  rintro ⟨ay1, ny1, cy1, y1, au1, nu1, cu1, u1⟩ ⟨hr1a, hr1b⟩
  dsimp only at hr1a hr1b
  subst y1
  subst u1
  refine rKnow (fun w hs => (show OwnI 2 ay1 ny1 cy1 (Iso.cls z 52) w from hs.at_ 0 rfl).lenz) (fun lenn3 => ?_)
  refine rKnow (fun w hs => (show OwnI 2 au1 nu1 cu1 (Iso.sizL z 52) w from hs.at_ 1 rfl).lenz) (fun lenn4 => ?_)
  refine rVal (v' := .tuple #[.slice ay1 ny1 cy1, .slice au1 nu1 cu1]) rfl ?_
  refine mv rfl rfl rfl ?_
  refine ext rfl rfl rfl rfl ?_
  refine ext rfl rfl rfl rfl ?_
  refine asS rfl rfl rfl ?_
  refine asS rfl rfl rfl ?_
  refine rNil ?_
  refine qSeq rfl ?_
  refine hSeq ?_
  refine hReg (sq 0 (sq 1 (sq 2 (sq 3 (sq 4 sz))))) (by kernel_rfl) ?_
  refine mvS rfl rfl rfl ?_
  refine mvS rfl rfl rfl ?_
  refine asS rfl rfl rfl ?_
  refine asS rfl rfl rfl ?_
  refine asI rfl rfl rfl ?_
  refine rNil ?_
  refine qSeq rfl ?_
  refine hRet ?_
  exact fun w hs => ⟨[.slice ay1 ny1 cy1, .slice au1 nu1 cu1, .int .i64 0], ⟨rfl, ⟨rfl, ⟨rfl, trivial⟩⟩⟩, ⟨(ay1, ny1, cy1, (Iso.cls z 52), au1, nu1, cu1, (Iso.sizL z 52), 0), rfl, by rw [Iso.nextY_yes hc0, Iso.nextU_yes hc0, hc0]; exact ⟨rfl, rfl, rfl⟩, hs.pick [0, 0]⟩⟩
end Go.Proofs.Yteaahdakammffaa
/- Arguments of laws, opened. No condition. -/
namespace Go.Proofs.Yteaahdakammffaa
open Go Go.RowKit V Go.ChangeShapes Go.WideShapes Go.ChangeAt
set_option linter.unusedVariables false
set_option linter.unusedSimpArgs false
set_option maxRecDepth 100000
end Go.Proofs.Yteaahdakammffaa
/- The engine, part 14: arrays of four that are compared, read through a slice, sliced. No condition. -/
namespace Go.Proofs.Yteaahdakammffaa.V
open Go Go.RowKit
set_option linter.unusedVariables false
set_option linter.unusedSimpArgs false
def a4v (x0 x1 x2 x3 : Int) : List Value := [.int .i64 x0, .int .i64 x1, .int .i64 x2, .int .i64 x3]
/-- Arrays of four numbers are compared part by part. -/
def Eq4 (P : Program) (ty : TypeId) : Prop := P.eqGuardType P.depth ty = false ∧ ∀ (w : World) (x0 x1 x2 x3 y0 y1 y2 y3 : Int), (Op.equalIn 10000 ty (.agg (a4v x0 x1 x2 x3).toArray) (.agg (a4v y0 y1 y2 y3).toArray)).run P w = .ok (decide ([x0, x1, x2, x3] = [y0, y1, y2, y3])) w
section
variable {P : Program} {n : Nat} {w0 : World} {M : Nat → Prop} {L : List (World → Prop)} {σ : Fr} {K : Ko} {ops : Array Oper} {S : World → Prop} {r : Sch} {i : Nat}
variable {d : Nat} {t ty yt : TypeId} {p : String} {af : Array Edge} {g : Option (Nat × Bool)} {a b : Operand}
end
section
variable {P : Program} {n : Nat} {w0 : World} {M : Nat → Prop} {L L' Lf Lr : List (World → Prop)} {σ : Fr} {K K' : Ko} {c x y : Code} {ops : Array Oper} {S : World → Prop} {r : Sch} {i : Nat}
variable {d : Nat} {t : TypeId} {p : String} {af : Array Edge} {g : Option (Nat × Bool)} {a b : Operand}
theorem callMR {α : Type} {f : FuncId} {args : Array Operand} {tys : Array TypeId} {val : α → Value} {good : α → Prop} {φs : α → List (World → Prop)} (hL : L = Lf ++ Lr) (hf : ∀ args w, (callFunc f args).run P w = .ok (.enter f args) w) (hS : ∀ x w, Sep w0 M (φs x ++ Lr) w → S w) (ho : ops[i]? = some ⟨some d, .call ⟨.value (.func f), args, tys⟩, t, p, af, g⟩) (hg : go ops σ g)
    (hc : ∀ w M0, Sep w M0 Lf w → (∀ φ, Kn w0 M Lr φ → Kn w M0 [] φ) → Calls P f (args.toList.map (ev σ)).toArray w (Ret fun v' w' => ∃ x, v' = val x ∧ good x ∧ Sep w M0 (φs x) w')) (h : ∀ x, good x → RG P n w0 M ops S (φs x ++ Lr) r (upd σ d (val x)) K) : RG P n w0 M ops S L (.op .l i r) σ K := by
  subst hL
  exact rL (Lx := fun x => φs x ++ Lr) (v := val) hS ho hg (fun w hs => by
    obtain ⟨M0, h1, h2⟩ := hs.focus
    refine call_opw hf (hc w M0 h1 fun φ hk w' hs' => hk w' (h2 [] w' hs')) fun v' w' ⟨x, he, hx, hsep⟩ => by subst he; exact ⟨x, hx, h2 _ _ hsep, rfl⟩) h
theorem Kn.nil {w0 : World} {M : Nat → Prop} {L : List (World → Prop)} {φ : World → Prop} (h : Kn w0 M [] φ) : Kn w0 M L φ := fun w hs => h w (hs.sub (List.nil_sublist _))
/-- The head of an owned slice, owned. -/
theorem OwnI.take {e : Nat} {q : Option Addr} {N C k : Nat} {zs : List Int} {w : World} (h : OwnI e q N C zs w) (hk : k ≤ N) (hq : q.isSome = true ∨ k = N) : OwnI e q k C (zs.take k) w := by
  have hl := h.lenz
  obtain ⟨h1, h2 | ⟨g', cap, cur, h2, h3, h4, h5, h6, h7, h8⟩⟩ := h
  · obtain ⟨h2, h3⟩ := h2
    cases h2
    have : k = 0 := by omega
    subst this
    exact ⟨by simp [iv], .inl ⟨rfl, rfl⟩⟩
  · cases h2
    refine ⟨by simp [iv]; omega, .inr ⟨g', C, cur, rfl, h3, h4, by omega, h6, h7, ?_⟩⟩
    rw [show iv (zs.take k) = (iv zs).take (k * 1) from by simp [iv, List.map_take], ← h8, List.take_take, Nat.min_eq_left (by omega)]
end
end Go.Proofs.Yteaahdakammffaa.V
namespace Go.Proofs.Yteaahdakammffaa
open Go Go.RowKit V
set_option linter.unusedVariables false
set_option linter.unusedSimpArgs false
set_option maxRecDepth 100000
end Go.Proofs.Yteaahdakammffaa
/- Rows copied with what they lead to; rows that are read. No condition. -/
namespace Go.Proofs.Yteaahdakammffaa.V
open Go Go.RowKit
set_option linter.unusedVariables false
set_option linter.unusedSimpArgs false
section
variable {P : Program} {ty e m by_ : Nat} {zc : List Value}
end
section
variable {P : Program} {n : Nat} {w0 : World} {M : Nat → Prop} {L L' Lf Lr : List (World → Prop)} {σ : Fr} {K K' : Ko} {c x y : Code} {ops : Array Oper} {S : World → Prop} {r : Sch} {i : Nat}
variable {d : Nat} {t : TypeId} {p : String} {af : Array Edge} {g : Option (Nat × Bool)} {a b : Operand}
variable {ty e m by_ N C : Nat} {ao : Option Addr} {xs : List Value} {zc : List Value}
end
section
variable {α : Type} {k : RK α} {e e1 e2 : Nat} {a a2 : Option Addr} {n c c2 q : Nat} {hs : Nat → Hd} {xs : List α} {x : α} {w : World}
theorem OwnR.cellsAt (h : OwnR k e e1 a n c hs xs w) : CellsAt a (rowsV k hs xs).flatten w := fun i v hi => by
 obtain ⟨b, hb, hc⟩ := h.2.1.cell hi
 exact ⟨b, 0, hb, by rw [Nat.zero_add]; exact hc⟩
theorem RdR.take {hs : Nat → Hd} (h : RdR k a n hs xs w) {j : Nat} (hj : j ≤ n) : RdR k a j hs (xs.take j) w :=
 ⟨by rw [List.length_take, h.1]; omega, by have := h.2.1; omega, fun i y hy => h.2.2 i y (by
  have := (List.getElem?_eq_some_iff.1 hy).1
  rw [List.length_take] at this
  rwa [List.getElem?_take_of_lt (by omega)] at hy)⟩
end
end Go.Proofs.Yteaahdakammffaa.V
/- The engine, part 15: rows that are turned round. No condition. -/
namespace Go.Proofs.Yteaahdakammffaa.V
open Go Go.RowKit
set_option linter.unusedVariables false
set_option linter.unusedSimpArgs false
section
variable {P : Program} {n : Nat} {w0 : World} {M : Nat → Prop} {L : List (World → Prop)} {σ : Fr} {K : Ko} {ops : Array Oper} {S : World → Prop} {r : Sch} {i : Nat}
variable {d : Nat} {t ty yt : TypeId} {p : String} {af : Array Edge} {g : Option (Nat × Bool)} {a b : Operand}
end
end Go.Proofs.Yteaahdakammffaa.V
/- Plain facts: exchanges of suits form a group; fixing exchanges; classes of cards. No condition. -/
namespace Go.Proofs.Yteaahdakammffaa.Iso
open Go.Proofs.Yteaahdakammffaa.V
set_option linter.unusedVariables false
set_option linter.unusedSimpArgs false
def indexOf4 (z : List (List Int)) (p : List Int) : Int := if z.contains p then (z.findIdx (fun q => decide (q = p)) : Nat) else -1
/-- Exchanges are the permutations of the four suits. -/
theorem srt_iff {a b : List Int} : srt a = srt b ↔ a.Perm b := ⟨fun h => (srt_perm a).symm.trans (h ▸ srt_perm b), fun h => sorted_eq (srt_sorted a) (srt_sorted b) ((srt_perm a).trans (h.trans (srt_perm b).symm))⟩
abbrev idP : List Int := [0, 1, 2, 3]
def compP (p q : List Int) : List Int := q.map fun k => p.getD k.toNat 0
theorem comp_mem : ∀ p ∈ orders, ∀ q ∈ orders, compP p q ∈ orders := by decide +kernel
theorem inv_ex : ∀ p ∈ orders, ∃ q ∈ orders, compP p q = idP ∧ compP q p = idP := by decide +kernel
theorem comp_get {p q : List Int} {k : Nat} (h : k < q.length) : (compP p q).getD k 0 = p.getD (q.getD k 0).toNat 0 := by
 rw [gdE (by simpa [compP] using h), gdE h]; simp [compP]
theorem take4_comp {p q : List Int} {c : Int} (hq : isP q) : take4 (compP p q) c = take4 p (take4 q c) := by
 have h1 := hq.2 (c % 4).toNat
 unfold take4
 rw [comp_get (by rw [hq.1]; omega)]
 have h2 : (c / 4 * 4 + q.getD (c % 4).toNat 0) / 4 = c / 4 := by omega
 have h3 : (c / 4 * 4 + q.getD (c % 4).toNat 0) % 4 = q.getD (c % 4).toNat 0 := by omega
 rw [h2, h3]
theorem image4_comp {p q z : List Int} (hq : isP q) : image4 (compP p q) z = image4 p (image4 q z) := by
 unfold image4
 rw [List.map_map]
 exact List.map_congr_left fun c _ => take4_comp hq
theorem image4_perm {p : List Int} {a b : List Int} (h : a.Perm b) : (image4 p a).Perm (image4 p b) := h.map _
theorem fixA_iff {p : List Int} {z : List (List Int)} : p ∈ fixA z ↔ p ∈ orders ∧ ∀ s ∈ z, (image4 p s).Perm s := by
 unfold fixA fixS
 rw [List.mem_filter, List.all_eq_true]
 simp only [fixB, decide_eq_true_iff, srt_iff]
theorem fix_comp {z : List (List Int)} {p q : List Int} (hp : p ∈ fixA z) (hq : q ∈ fixA z) : compP p q ∈ fixA z := by
 rw [fixA_iff] at *
 refine ⟨comp_mem _ hp.1 _ hq.1, fun s hs => ?_⟩
 rw [image4_comp (orders_isP hq.1)]
 exact (image4_perm (hq.2 s hs)).trans (hp.2 s hs)
theorem fix_inv {z : List (List Int)} {p : List Int} (hp : p ∈ fixA z) : ∃ q ∈ fixA z, compP p q = idP ∧ compP q p = idP := by
 obtain ⟨q, hq, h1, h2⟩ := inv_ex p (fixA_iff.1 hp).1
 refine ⟨q, fixA_iff.2 ⟨hq, fun s hs => ?_⟩, h1, h2⟩
 have h3 := image4_perm (p := q) ((fixA_iff.1 hp).2 s hs)
 rw [← image4_comp (fixA_isP hp), h2, image4_id] at h3
 exact h3.symm
end Go.Proofs.Yteaahdakammffaa.Iso
