/- Contracts of exchanges of suits. Their conditions stand in each. -/
import Derived.Test.YteaahdakammffaaZ2Sd
import Derived.Test.YteaahdakammffaaZ1Sd
import Derived.Test.YteaahdakammffaaRows
import Derived.ChangeKeysEq
namespace Go.Proofs.Yteaahdakammffaa
open Go Go.RowKit V
set_option linter.unusedVariables false
set_option linter.unusedSimpArgs false
set_option maxRecDepth 100000
theorem mk88 : Mk Try.prog 88 90 4 32 [.int .i64 0, .int .i64 0, .int .i64 0, .int .i64 0] := ⟨Try.underlying88, Try.t90, _, by kernel_rfl, rfl, rfl, rfl, rfl, rfl, by decide, by decide⟩
theorem bsl88_1 (v0 v1 v2 v3 : Value) (h0 : v0.cells = #[v0]) (h1 : v1.cells = #[v1]) (h2 : v2.cells = #[v2]) (h3 : v3.cells = #[v3]) : ∀ w, (Instr.buildSlice 88 1 ([(0, .agg #[v0, v1, v2, v3])] : List (Nat × Value)).toArray).run Try.prog w = .ok (.slice (some ⟨w.heap.size, 0, none⟩) 1 1) (w.alloc (.cells ([v0, v1, v2, v3] : List Value).toArray 90)) := by
 intro w; simp [Instr.buildSlice, Instr.fill, Try.zeroValue90, Try.runUnderlying88, Try.sizeOf90, aggCells, newRow, show Array.range 4 = #[0, 1, 2, 3] from by decide]
theorem el88 : Elt Try.prog 88 4 := ⟨90, Try.runUnderlying88, Try.sizeOf90⟩
theorem ar90 : Arr Try.prog 90 4 1 := ⟨2, Try.runUnderlying90, Try.sizeOf2⟩
theorem bld90_0_1_2_3 (v0 v1 v2 v3 : Value) (h0 : v0.cells = #[v0]) (h1 : v1.cells = #[v1]) (h2 : v2.cells = #[v2]) (h3 : v3.cells = #[v3]) : ∀ w, (Instr.build 90 ([(0, v0), (1, v1), (2, v2), (3, v3)] : List (Nat × Value)).toArray).run Try.prog w = .ok (.agg ([v0, v1, v2, v3] : List Value).toArray) w := by
 intro w; simp [Instr.build, Instr.fill, Try.zeroValue90, Try.runUnderlying90, aggCells, Try.sizeOf2, h0, h1, h2, h3]
theorem impl_suitOrders_c (w : World) :
  Calls Try.prog 81 #[] w (Ret fun v w' => ∃ x : Option Addr × Nat × Nat × (Nat → Hd) × List (List Int), v = .slice x.1 x.2.1 x.2.2.1 ∧ (x.2.2.2.2 = Iso.orders) ∧ Sep w none_ [OwnR a4K 90 2 x.1 x.2.1 x.2.2.1 x.2.2.2.1 x.2.2.2.2] w') := by
 refine fn (M := none_) (rs := [.tmp 0]) Try.func81 rfl Try.ntmps81 rfl rfl (Sep.start _ _) ?_
 refine hSeq ?_
 refine hReg (sq 0 sz) (by kernel_rfl) ?_
 refine asS rfl rfl rfl ?_
 refine rNil ?_
 refine qSeq rfl ?_
 refine hSeq ?_
 refine hReg (sq 0 sz) (by kernel_rfl) ?_
 refine asS rfl rfl rfl ?_
 refine rNil ?_
 refine qSeq rfl ?_
 refine hSeq ?_
 refine hSeq ?_
 refine hReg (sq 0 sz) (by kernel_rfl) ?_
 refine mvI rfl rfl rfl ?_
 refine rNil ?_
 refine qSeq rfl ?_
 refine hBlk ?_
 refine hPieces (fun _ h => Sep.nilR a4K 90 2 (fun _ => (none, 0)) h) ?_
 refine hLoop (α := Nat × Nat × Hd × (Nat → Hd)) (fun x => x.1 ≤ 256 ∧ x.2.1 ≤ x.1) (fun x => 256 - x.1) (fun x => [OwnR a4K 90 2 x.2.2.1.1 x.2.1 x.2.2.1.2 x.2.2.2 (Iso.ords x.1)]) (fun x => [(1, .slice x.2.2.1.1 x.2.1 x.2.2.1.2), (4, .int .i64 (x.1 : Int))]) ((0, 0, ((none, 0), (fun _ => (none, 0))))) ⟨Nat.zero_le _, Nat.le_refl _⟩ (fun _ h => h.pick [0]) ⟨rfl, rfl, trivial⟩ ?_
 rintro ⟨k, q, hd⟩ τ1 ⟨hk, hq⟩
 dsimp only at hk hq
 refine hRe [(1, .slice hd.1.1 q hd.1.2), (4, .int .i64 (k : Int))] [OwnR a4K 90 2 hd.1.1 q hd.1.2 hd.2 (Iso.ords k)] rfl rfl ?_
 refine hSeq ?_
 refine hReg (sq 0 sz) (by kernel_rfl) ?_
 refine lss rfl rfl rfl rfl ?_
 refine rNil ?_
 refine qSeq rfl ?_
 refine hSeq ?_
 refine hIfD rfl (fun c1 => ?_) (fun c1 => ?_)
 ·
  replace c1 : (k : Int) < 256 := c1
  refine hSkip ?_
  refine qSeq rfl ?_
  refine hSeq ?_
  refine hBlk ?_
  refine hSeq ?_
  refine hReg (sq 0 (sq 1 sz)) (by kernel_rfl) ?_
  refine mvI rfl rfl rfl ?_
  refine asI rfl rfl rfl ?_
  refine rNil ?_
  refine qSeq rfl ?_
  refine hSeq ?_
  refine hReg (sq 0 (sq 1 (sq 2 (sq 3 (sq 4 (sq 5 (sq 6 (sq 7 (sq 8 (sq 9 (sq 10 (sl 11 (sl 12 sz))))))))))))) (by kernel_rfl) ?_
  refine mvI rfl rfl rfl ?_
  refine quo rfl rfl rfl rfl (by omega) ?_
  refine mvI rfl rfl rfl ?_
  refine quo rfl rfl rfl rfl (by omega) ?_
  refine rem rfl rfl rfl rfl (by omega) ?_
  refine mvI rfl rfl rfl ?_
  refine quo rfl rfl rfl rfl (by omega) ?_
  refine rem rfl rfl rfl rfl (by omega) ?_
  refine mvI rfl rfl rfl ?_
  refine rem rfl rfl rfl rfl (by omega) ?_
  refine bld rfl rfl rfl (bld90_0_1_2_3 (.int .i64 _) (.int .i64 _) (.int .i64 _) (.int .i64 _) rfl rfl rfl rfl) ?_
  refine alc Try.zeroValue90 rfl trv1 rfl rfl (fun bka2 hbka2 => ?_)
  refine stAl (vs := [.int .i64 (((k : Int) / 64)), .int .i64 (((((k : Int) / 16)) % 4)), .int .i64 (((((k : Int) / 4)) % 4)), .int .i64 (((k : Int) % 4))]) 0 rfl Try.sizeOf90 trv rfl rfl rfl rfl rfl (by simp [Value.oneCell']) rfl ?_
  refine rNil ?_
  refine qSeq rfl ?_
  refine hSeq ?_
  refine hReg (sq 0 (sl 1 (sq 2 (sl 3 (sq 4 (sq 5 (sq 6 (sl 7 (sq 8 (sl 9 (sq 10 (sq 11 (sq 12 (sq 13 (sl 14 (sq 15 (sl 16 (sq 17 (sq 18 (sq 19 (sq 20 (sl 21 (sq 22 (sl 23 (sq 24 (sq 25 (sq 26 (sq 27 (sl 28 (sq 29 (sl 30 (sq 31 (sq 32 (sq 33 (sq 34 (sl 35 (sq 36 (sl 37 (sq 38 (sq 39 sz)))))))))))))))))))))))))))))))))))))))) (by kernel_rfl) ?_
  refine ixA (z := 0) ar90 rfl rfl rfl rfl (by decide) ?_
  refine ldl Try.isAgg2 (cB 0 rfl rfl) trv rfl rfl rfl ?_
  refine ixA (z := 1) ar90 rfl rfl rfl rfl (by decide) ?_
  refine ldl Try.isAgg2 (cB 0 rfl rfl) trv rfl rfl rfl ?_
  refine neq rfl rfl rfl rfl ?_
  refine mvB rfl rfl rfl ?_
  refine rBoolD (d := 23) rfl (fun g2 => ?_) (fun g2 => ?_)
  ·
   replace g2 : ((k : Int) / 64) ≠ ((((k : Int) / 16)) % 4) := g2
   refine ixA (z := 0) ar90 rfl rfl rfl rfl (by decide) ?_
   refine ldl Try.isAgg2 (cB 0 rfl rfl) trv rfl rfl rfl ?_
   refine ixA (z := 2) ar90 rfl rfl rfl rfl (by decide) ?_
   refine ldl Try.isAgg2 (cB 0 rfl rfl) trv rfl rfl rfl ?_
   refine neq rfl rfl rfl rfl ?_
   refine pickB rfl rfl rfl rfl ?_
   refine mvB rfl rfl rfl ?_
   refine rBoolD (d := 30) rfl (fun g3 => ?_) (fun g3 => ?_)
   ·
    replace g3 : ((k : Int) / 64) ≠ ((((k : Int) / 4)) % 4) := g3
    refine ixA (z := 0) ar90 rfl rfl rfl rfl (by decide) ?_
    refine ldl Try.isAgg2 (cB 0 rfl rfl) trv rfl rfl rfl ?_
    refine ixA (z := 3) ar90 rfl rfl rfl rfl (by decide) ?_
    refine ldl Try.isAgg2 (cB 0 rfl rfl) trv rfl rfl rfl ?_
    refine neq rfl rfl rfl rfl ?_
    refine pickB rfl rfl rfl rfl ?_
    refine mvB rfl rfl rfl ?_
    refine rBoolD (d := 37) rfl (fun g4 => ?_) (fun g4 => ?_)
    ·
     replace g4 : ((k : Int) / 64) ≠ ((k : Int) % 4) := g4
     refine ixA (z := 1) ar90 rfl rfl rfl rfl (by decide) ?_
     refine ldl Try.isAgg2 (cB 0 rfl rfl) trv rfl rfl rfl ?_
     refine ixA (z := 2) ar90 rfl rfl rfl rfl (by decide) ?_
     refine ldl Try.isAgg2 (cB 0 rfl rfl) trv rfl rfl rfl ?_
     refine neq rfl rfl rfl rfl ?_
     refine pickB rfl rfl rfl rfl ?_
     refine mvB rfl rfl rfl ?_
     refine rBoolD (d := 44) rfl (fun g5 => ?_) (fun g5 => ?_)
     ·
      replace g5 : ((((k : Int) / 16)) % 4) ≠ ((((k : Int) / 4)) % 4) := g5
      refine ixA (z := 1) ar90 rfl rfl rfl rfl (by decide) ?_
      refine ldl Try.isAgg2 (cB 0 rfl rfl) trv rfl rfl rfl ?_
      refine ixA (z := 3) ar90 rfl rfl rfl rfl (by decide) ?_
      refine ldl Try.isAgg2 (cB 0 rfl rfl) trv rfl rfl rfl ?_
      refine neq rfl rfl rfl rfl ?_
      refine pickB rfl rfl rfl rfl ?_
      refine mvB rfl rfl rfl ?_
      refine rBoolD (d := 51) rfl (fun g6 => ?_) (fun g6 => ?_)
      ·
       replace g6 : ((((k : Int) / 16)) % 4) ≠ ((k : Int) % 4) := g6
       refine ixA (z := 2) ar90 rfl rfl rfl rfl (by decide) ?_
       refine ldl Try.isAgg2 (cB 0 rfl rfl) trv rfl rfl rfl ?_
       refine ixA (z := 3) ar90 rfl rfl rfl rfl (by decide) ?_
       refine ldl Try.isAgg2 (cB 0 rfl rfl) trv rfl rfl rfl ?_
       refine neq rfl rfl rfl rfl ?_
       refine pickB rfl rfl rfl rfl ?_
       refine rNil ?_
       refine qSeq rfl ?_
       refine hIfD rfl (fun c7 => ?_) (fun c7 => ?_)
       ·
        replace c7 : ((((k : Int) / 4)) % 4) ≠ ((k : Int) % 4) := c7
        refine hReg (sq 0 (sl 1 (sl 2 (sl 3 (sq 4 sz))))) (by kernel_rfl) ?_
        refine mvS rfl rfl rfl ?_
        refine ldAl Try.isAgg90 Try.sizeOf90 (cBs 0 rfl) trv rfl rfl rfl rfl ?_
        refine bsl trv1 rfl rfl rfl (bsl88_1 (.int .i64 (((k : Int) / 64))) (.int .i64 (((((k : Int) / 16)) % 4))) (.int .i64 (((((k : Int) / 4)) % 4))) (.int .i64 (((k : Int) % 4))) rfl rfl rfl rfl) (fun bkl3 hbkl3 => ?_)
        refine rPieces (fun _ h => Sep.nilI 2 h) ?_
        refine apR (hd := (none, 0)) (x := [((k : Int) / 64), ((((k : Int) / 16)) % 4), ((((k : Int) / 4)) % 4), ((k : Int) % 4)]) 3 0 1 a4K.ok rfl rfl rfl (fun _ => rfl) mk88 trv1 rfl rfl rfl rfl (by omega) ?_
        intro aq1 cq1
        refine asS rfl rfl rfl ?_
        refine rNil ?_
        refine qSeq rfl ?_
        refine hReg (sq 0 (sq 1 sz)) (by kernel_rfl) ?_
        refine add rfl rfl rfl rfl (by omega) ?_
        refine mvI rfl rfl rfl ?_
        refine rNil ?_
        rw [show ((Iso.ords k) ++ [[((k : Int) / 64), ((((k : Int) / 16)) % 4), ((((k : Int) / 4)) % 4), ((k : Int) % 4)]]) = Iso.ords (k + 1) from (Iso.ords_yes (decide_eq_true ⟨g2, g3, g4, g5, g6, c7⟩)).symm]
        exact qNext rfl ((k + 1, (q + 1), ((aq1, cq1), (hset hd.2 (Iso.ords k).length (none, 0))))) (by dsimp only; omega) ⟨by dsimp only; omega, by dsimp only; omega⟩ ⟨rfl, rfl, trivial⟩ (fun _ h => h.pick [0])
       ·
        replace c7 : ¬ (((((k : Int) / 4)) % 4) ≠ ((k : Int) % 4)) := c7
        refine hSkip ?_
        refine qSeq rfl ?_
        refine hReg (sq 0 (sq 1 sz)) (by kernel_rfl) ?_
        refine add rfl rfl rfl rfl (by omega) ?_
        refine mvI rfl rfl rfl ?_
        refine rNil ?_
        rw [← Iso.ords_no (k := k) (decide_eq_false fun h => c7 h.2.2.2.2.2)]
        exact qNext rfl ((k + 1, q, ((hd.1.1, hd.1.2), hd.2))) (by dsimp only; omega) ⟨by dsimp only; omega, by dsimp only; omega⟩ ⟨rfl, rfl, trivial⟩ (fun _ h => h.pick [1])
      ·
       replace g6 : ¬ (((((k : Int) / 16)) % 4) ≠ ((k : Int) % 4)) := g6
       refine rSkipQ rfl rfl ?_
       refine rSkipL trv rfl rfl ?_
       refine rSkipQ rfl rfl ?_
       refine rSkipL trv rfl rfl ?_
       refine rSkipQ rfl rfl ?_
       refine pickB rfl rfl rfl rfl ?_
       refine rNil ?_
       refine qSeq rfl ?_
       refine hIfF rfl ?_
       refine hSkip ?_
       refine qSeq rfl ?_
       refine hReg (sq 0 (sq 1 sz)) (by kernel_rfl) ?_
       refine add rfl rfl rfl rfl (by omega) ?_
       refine mvI rfl rfl rfl ?_
       refine rNil ?_
       rw [← Iso.ords_no (k := k) (decide_eq_false fun h => g6 h.2.2.2.2.1)]
       exact qNext rfl ((k + 1, q, ((hd.1.1, hd.1.2), hd.2))) (by dsimp only; omega) ⟨by dsimp only; omega, by dsimp only; omega⟩ ⟨rfl, rfl, trivial⟩ (fun _ h => h.pick [1])
     ·
      replace g5 : ¬ (((((k : Int) / 16)) % 4) ≠ ((((k : Int) / 4)) % 4)) := g5
      refine rSkipQ rfl rfl ?_
      refine rSkipL trv rfl rfl ?_
      refine rSkipQ rfl rfl ?_
      refine rSkipL trv rfl rfl ?_
      refine rSkipQ rfl rfl ?_
      refine pickB rfl rfl rfl rfl ?_
      refine mvB rfl rfl rfl ?_
      refine rSkipQ rfl rfl ?_
      refine rSkipL trv rfl rfl ?_
      refine rSkipQ rfl rfl ?_
      refine rSkipL trv rfl rfl ?_
      refine rSkipQ rfl rfl ?_
      refine pickB rfl rfl rfl rfl ?_
      refine rNil ?_
      refine qSeq rfl ?_
      refine hIfF rfl ?_
      refine hSkip ?_
      refine qSeq rfl ?_
      refine hReg (sq 0 (sq 1 sz)) (by kernel_rfl) ?_
      refine add rfl rfl rfl rfl (by omega) ?_
      refine mvI rfl rfl rfl ?_
      refine rNil ?_
      rw [← Iso.ords_no (k := k) (decide_eq_false fun h => g5 h.2.2.2.1)]
      exact qNext rfl ((k + 1, q, ((hd.1.1, hd.1.2), hd.2))) (by dsimp only; omega) ⟨by dsimp only; omega, by dsimp only; omega⟩ ⟨rfl, rfl, trivial⟩ (fun _ h => h.pick [1])
    ·
     replace g4 : ¬ (((k : Int) / 64) ≠ ((k : Int) % 4)) := g4
     refine rSkipQ rfl rfl ?_
     refine rSkipL trv rfl rfl ?_
     refine rSkipQ rfl rfl ?_
     refine rSkipL trv rfl rfl ?_
     refine rSkipQ rfl rfl ?_
     refine pickB rfl rfl rfl rfl ?_
     refine mvB rfl rfl rfl ?_
     refine rSkipQ rfl rfl ?_
     refine rSkipL trv rfl rfl ?_
     refine rSkipQ rfl rfl ?_
     refine rSkipL trv rfl rfl ?_
     refine rSkipQ rfl rfl ?_
     refine pickB rfl rfl rfl rfl ?_
     refine mvB rfl rfl rfl ?_
     refine rSkipQ rfl rfl ?_
     refine rSkipL trv rfl rfl ?_
     refine rSkipQ rfl rfl ?_
     refine rSkipL trv rfl rfl ?_
     refine rSkipQ rfl rfl ?_
     refine pickB rfl rfl rfl rfl ?_
     refine rNil ?_
     refine qSeq rfl ?_
     refine hIfF rfl ?_
     refine hSkip ?_
     refine qSeq rfl ?_
     refine hReg (sq 0 (sq 1 sz)) (by kernel_rfl) ?_
     refine add rfl rfl rfl rfl (by omega) ?_
     refine mvI rfl rfl rfl ?_
     refine rNil ?_
     rw [← Iso.ords_no (k := k) (decide_eq_false fun h => g4 h.2.2.1)]
     exact qNext rfl ((k + 1, q, ((hd.1.1, hd.1.2), hd.2))) (by dsimp only; omega) ⟨by dsimp only; omega, by dsimp only; omega⟩ ⟨rfl, rfl, trivial⟩ (fun _ h => h.pick [1])
   ·
    replace g3 : ¬ (((k : Int) / 64) ≠ ((((k : Int) / 4)) % 4)) := g3
    refine rSkipQ rfl rfl ?_
    refine rSkipL trv rfl rfl ?_
    refine rSkipQ rfl rfl ?_
    refine rSkipL trv rfl rfl ?_
    refine rSkipQ rfl rfl ?_
    refine pickB rfl rfl rfl rfl ?_
    refine mvB rfl rfl rfl ?_
    refine rSkipQ rfl rfl ?_
    refine rSkipL trv rfl rfl ?_
    refine rSkipQ rfl rfl ?_
    refine rSkipL trv rfl rfl ?_
    refine rSkipQ rfl rfl ?_
    refine pickB rfl rfl rfl rfl ?_
    refine mvB rfl rfl rfl ?_
    refine rSkipQ rfl rfl ?_
    refine rSkipL trv rfl rfl ?_
    refine rSkipQ rfl rfl ?_
    refine rSkipL trv rfl rfl ?_
    refine rSkipQ rfl rfl ?_
    refine pickB rfl rfl rfl rfl ?_
    refine mvB rfl rfl rfl ?_
    refine rSkipQ rfl rfl ?_
    refine rSkipL trv rfl rfl ?_
    refine rSkipQ rfl rfl ?_
    refine rSkipL trv rfl rfl ?_
    refine rSkipQ rfl rfl ?_
    refine pickB rfl rfl rfl rfl ?_
    refine rNil ?_
    refine qSeq rfl ?_
    refine hIfF rfl ?_
    refine hSkip ?_
    refine qSeq rfl ?_
    refine hReg (sq 0 (sq 1 sz)) (by kernel_rfl) ?_
    refine add rfl rfl rfl rfl (by omega) ?_
    refine mvI rfl rfl rfl ?_
    refine rNil ?_
    rw [← Iso.ords_no (k := k) (decide_eq_false fun h => g3 h.2.1)]
    exact qNext rfl ((k + 1, q, ((hd.1.1, hd.1.2), hd.2))) (by dsimp only; omega) ⟨by dsimp only; omega, by dsimp only; omega⟩ ⟨rfl, rfl, trivial⟩ (fun _ h => h.pick [1])
  ·
   replace g2 : ¬ (((k : Int) / 64) ≠ ((((k : Int) / 16)) % 4)) := g2
   refine rSkipQ rfl rfl ?_
   refine rSkipL trv rfl rfl ?_
   refine rSkipQ rfl rfl ?_
   refine rSkipL trv rfl rfl ?_
   refine rSkipQ rfl rfl ?_
   refine pickB rfl rfl rfl rfl ?_
   refine mvB rfl rfl rfl ?_
   refine rSkipQ rfl rfl ?_
   refine rSkipL trv rfl rfl ?_
   refine rSkipQ rfl rfl ?_
   refine rSkipL trv rfl rfl ?_
   refine rSkipQ rfl rfl ?_
   refine pickB rfl rfl rfl rfl ?_
   refine mvB rfl rfl rfl ?_
   refine rSkipQ rfl rfl ?_
   refine rSkipL trv rfl rfl ?_
   refine rSkipQ rfl rfl ?_
   refine rSkipL trv rfl rfl ?_
   refine rSkipQ rfl rfl ?_
   refine pickB rfl rfl rfl rfl ?_
   refine mvB rfl rfl rfl ?_
   refine rSkipQ rfl rfl ?_
   refine rSkipL trv rfl rfl ?_
   refine rSkipQ rfl rfl ?_
   refine rSkipL trv rfl rfl ?_
   refine rSkipQ rfl rfl ?_
   refine pickB rfl rfl rfl rfl ?_
   refine mvB rfl rfl rfl ?_
   refine rSkipQ rfl rfl ?_
   refine rSkipL trv rfl rfl ?_
   refine rSkipQ rfl rfl ?_
   refine rSkipL trv rfl rfl ?_
   refine rSkipQ rfl rfl ?_
   refine pickB rfl rfl rfl rfl ?_
   refine rNil ?_
   refine qSeq rfl ?_
   refine hIfF rfl ?_
   refine hSkip ?_
   refine qSeq rfl ?_
   refine hReg (sq 0 (sq 1 sz)) (by kernel_rfl) ?_
   refine add rfl rfl rfl rfl (by omega) ?_
   refine mvI rfl rfl rfl ?_
   refine rNil ?_
   rw [← Iso.ords_no (k := k) (decide_eq_false fun h => g2 h.1)]
   exact qNext rfl ((k + 1, q, ((hd.1.1, hd.1.2), hd.2))) (by dsimp only; omega) ⟨by dsimp only; omega, by dsimp only; omega⟩ ⟨rfl, rfl, trivial⟩ (fun _ h => h.pick [1])
 ·
  replace c1 : ¬ ((k : Int) < 256) := c1
  refine hExit rfl ?_
  refine qSeq rfl ?_
  refine hSeq ?_
  refine hReg (sq 0 (sq 1 sz)) (by kernel_rfl) ?_
  refine mvS rfl rfl rfl ?_
  refine asS rfl rfl rfl ?_
  refine rNil ?_
  refine qSeq rfl ?_
  refine hRet ?_
  exact fun w hs => ⟨[.slice hd.1.1 q hd.1.2], ⟨rfl, trivial⟩, ⟨(hd.1.1, q, hd.1.2, hd.2, (Iso.ords k)), rfl, by rw [show k = 256 by omega]; rfl, hs.pick [0]⟩⟩
theorem impl_exchanged_c (az : Option Addr) (nz : Nat) (cz : Nat) (z : List Int) (p : List Int) (w : World) (rz : RdI az nz z w) (hz : ∀ x ∈ z, 0 ≤ x ∧ x ≤ 51) (hl : z.length ≤ 52) (hp : Iso.isP p) :
  Calls Try.prog 83 #[.slice az nz cz, .agg #[.int .i64 (p.getD 0 0), .int .i64 (p.getD 1 0), .int .i64 (p.getD 2 0), .int .i64 (p.getD 3 0)]] w (Ret fun v w' => ∃ x : Option Addr × Nat × Nat × List Int, v = .slice x.1 x.2.1 x.2.2.1 ∧ (x.2.2.2 = srt (Iso.image4 p z) ∧ x.2.1 = nz) ∧ Sep w none_ [OwnI 2 x.1 x.2.1 x.2.2.1 x.2.2.2] w') := by
 have kz : Kn w none_ [] (RdI az nz z) := fun w' hs => rz.ext hs.upd
 have lz : z.length = nz := rz.1
 have mz : nz ≤ 9223372036854775807 := rz.2.1
 have lim : (Iso.image4 p z).length = nz := by rw [Iso.image4_len]; exact lz
 refine fn (M := none_) (rs := [.tmp 4]) Try.func83 rfl Try.ntmps83 rfl rfl (Sep.start _ _) ?_
 refine hSeq ?_
 refine hReg (sl 0 (sq 1 sz)) (by kernel_rfl) ?_
 refine box trv1 rfl rfl rfl rfl (fun bkb1 hbkb1 => ?_)
 refine asS rfl rfl rfl ?_
 refine rNil ?_
 refine qSeq rfl ?_
 refine hSeq ?_
 refine hReg (sq 0 (sq 1 (sl 2 (sq 3 sz)))) (by kernel_rfl) ?_
 refine mvS rfl rfl rfl ?_
 refine lenS Try.runUnderlying23 rfl rfl rfl ?_
 refine mksI nz mk23 trv1 rfl rfl rfl rfl (rfl) (by omega) (fun bkm2 hbkm2 => ?_)
 refine asS rfl rfl rfl ?_
 refine rNil ?_
 refine qSeq rfl ?_
 refine hSeq ?_
 refine hSeq ?_
 refine hReg (sq 0 (sq 1 (sq 2 sz))) (by kernel_rfl) ?_
 refine mvS rfl rfl rfl ?_
 refine lenS Try.runUnderlying23 rfl rfl rfl ?_
 refine mvI rfl rfl rfl ?_
 refine rNil ?_
 refine qSeq rfl ?_
 refine hBlk ?_
 rw [Math.fill_start (Iso.image4 p z) nz 0]
 refine hLoop (α := Nat) (fun i => i ≤ nz) (fun i => nz - i) (fun i => [OwnI 2 (some ⟨bkm2, 0, none⟩) nz nz (((Iso.image4 p z).take i ++ List.replicate (nz - i) 0)), blk bkb1 90 [.int .i64 (p.getD 0 0), .int .i64 (p.getD 1 0), .int .i64 (p.getD 2 0), .int .i64 (p.getD 3 0)]]) (fun i => [(3, .pointer (some ⟨bkb1, 0, none⟩)), (5, .slice (some ⟨bkm2, 0, none⟩) nz nz), (11, .slice az nz cz), (12, .int .i64 (nz : Int)), (13, .int .i64 (i : Int))]) 0 (Nat.zero_le _) (fun _ h => h.pick [0, 0]) ⟨rfl, rfl, rfl, rfl, rfl, trivial⟩ ?_
 rintro i τ1 hi
 refine hSeq ?_
 refine hReg (sq 0 sz) (by kernel_rfl) ?_
 refine lss rfl rfl rfl rfl ?_
 refine rNil ?_
 refine qSeq rfl ?_
 refine hSeq ?_
 refine hIfD rfl (fun c1 => ?_) (fun c1 => ?_)
 ·
  replace c1 : (i : Int) < (nz : Int) := c1
  have hx := hz _ (Math.getD_mem 0 (show i < z.length by omega))
  have hpx := hp.2 ((z.getD i 0) % 4).toNat
  refine hSkip ?_
  refine qSeq rfl ?_
  refine hSeq ?_
  refine hBlk ?_
  refine hSeq ?_
  refine hReg (sq 0 (sq 1 (sl 2 (sq 3 (sq 4 sz))))) (by kernel_rfl) ?_
  refine mvI rfl rfl rfl ?_
  refine ixIl (zn := i) el23 (Kn.drop (k := 2) kz) rfl rfl rfl rfl (by omega) (by omega) rfl ?_
  intro ae1 e1
  refine ldl Try.isAgg2 (e1) trv rfl rfl rfl ?_
  refine asI rfl rfl rfl ?_
  refine asI rfl rfl rfl ?_
  refine rNil ?_
  refine qSeq rfl ?_
  refine hReg (sq 0 (sq 1 (sq 2 (sq 3 (sq 4 (sq 5 (sq 6 (sq 7 (sl 8 (sq 9 (sq 10 (sl 11 sz)))))))))))) (by kernel_rfl) ?_
  refine mvS rfl rfl rfl ?_
  refine mvI rfl rfl rfl ?_
  refine mvI rfl rfl rfl ?_
  refine quo rfl rfl rfl rfl (by omega) ?_
  refine mul rfl rfl rfl rfl (by omega) ?_
  refine mvI rfl rfl rfl ?_
  refine rem rfl rfl rfl rfl (by omega) ?_
  refine ixAv ((((z.getD i 0) % 4)).toNat) (by omega) ar90 (by omega) rfl rfl rfl rfl ?_
  refine ldl Try.isAgg2 (cA4 (x := p) (z := ((((z.getD i 0) % 4)).toNat)) 1 rfl (by omega)) trv rfl rfl rfl ?_
  refine add rfl rfl rfl rfl (by omega) ?_
  refine oxI (zn := i) 0 rfl el23 rfl rfl rfl rfl (by omega) (by omega) rfl ?_
  intro gk2 hgk2
  refine stoI (off := i) (x := ((((z.getD i 0) / 4) * 4) + (p.getD ((((z.getD i 0) % 4)).toNat) 0))) 0 rfl hgk2 Try.sizeOf2 trv rfl rfl rfl rfl (by omega) ?_
  refine rNil ?_
  refine qSeq rfl ?_
  refine hReg (sq 0 (sq 1 sz)) (by kernel_rfl) ?_
  refine add rfl rfl rfl rfl (by omega) ?_
  refine mvI rfl rfl rfl ?_
  refine rNil ?_
  rw [show (((((z.getD i 0) / 4) * 4) + (p.getD ((((z.getD i 0) % 4)).toNat) 0))) = (Iso.image4 p z).getD i 0 from (Iso.image4_at (by omega)).symm, Math.fill_step 0 0 lim (by omega)]
  exact qNext rfl (i + 1) (by omega) (by omega) ⟨rfl, rfl, rfl, rfl, rfl, trivial⟩ (fun _ h => h.pick [0, 0])
 ·
  replace c1 : ¬ ((i : Int) < (nz : Int)) := c1
  refine hExit rfl ?_
  refine qSeq rfl ?_
  refine hSeq ?_
  refine hReg (sq 0 (sl 1 sz)) (by kernel_rfl) ?_
  refine mvS rfl rfl rfl ?_
  refine srtI 0 rfl (by omega) sort_c Try.call126 trv rfl rfl rfl ?_
  refine rNil ?_
  refine qSeq rfl ?_
  refine hSeq ?_
  refine hReg (sq 0 (sq 1 sz)) (by kernel_rfl) ?_
  refine mvS rfl rfl rfl ?_
  refine asS rfl rfl rfl ?_
  refine rNil ?_
  refine qSeq rfl ?_
  refine hRet ?_
  exact fun w hs => ⟨[.slice (some ⟨bkm2, 0, none⟩) nz nz], ⟨rfl, trivial⟩, ⟨((some ⟨bkm2, 0, none⟩), nz, nz, (srt (((Iso.image4 p z).take i ++ List.replicate (nz - i) 0)))), rfl, ⟨by rw [Math.fill_end 0 lim (by omega)], rfl⟩, hs.pick [0]⟩⟩
end Go.Proofs.Yteaahdakammffaa
/- A value that is spelt out. No condition. -/
namespace Go.Proofs.Yteaahdakammffaa.V
open Go Go.RowKit
set_option linter.unusedVariables false
section
variable {P : Program} {n : Nat} {w0 : World} {M : Nat → Prop} {L : List (World → Prop)} {σ : Fr} {K : Ko} {ops : Array Oper} {S : World → Prop} {r : Sch} {d : Nat} {v v' : Value}
theorem rVal (he : v' = v) (h : RG P n w0 M ops S L r (upd σ d v') K) : RG P n w0 M ops S L r (upd σ d v) K := by subst he; exact h
end
end Go.Proofs.Yteaahdakammffaa.V
/- Contracts of cards that are alike. Their conditions stand in each. -/
namespace Go.Proofs.Yteaahdakammffaa
open Go Go.RowKit V
set_option linter.unusedVariables false
set_option linter.unusedSimpArgs false
set_option maxRecDepth 100000
theorem bsl23_1 (v0 : Value) (h0 : v0.cells = #[v0]) : ∀ w, (Instr.buildSlice 23 1 ([(0, v0)] : List (Nat × Value)).toArray).run Try.prog w = .ok (.slice (some ⟨w.heap.size, 0, none⟩) 1 1) (w.alloc (.cells ([v0] : List Value).toArray 2)) := by
 intro w; simp [Instr.buildSlice, Instr.fill, Try.zeroValue2, Try.runUnderlying23, Try.sizeOf2, Value.cells_int, newRow, show Array.range 1 = #[0] from by decide, h0]
end Go.Proofs.Yteaahdakammffaa
/- Contracts of the reference: lists that are sorted, images. Their conditions stand in each. -/
namespace Go.Proofs.Yteaahdakammffaa
open Go Go.RowKit V
set_option linter.unusedVariables false
set_option linter.unusedSimpArgs false
set_option maxRecDepth 100000
theorem bsl22_0   : ∀ w, (Instr.buildSlice 22 0 ([] : List (Nat × Value)).toArray).run Try.prog w = .ok (.slice (some ⟨w.heap.size, 0, none⟩) 0 0) (w.alloc (.cells ([] : List Value).toArray 23)) := by
 intro w; simp [Instr.buildSlice, Instr.fill, Try.zeroValue23, Try.runUnderlying22, Try.sizeOf23, Value.cells_int, newRow, show Array.range 0 = #[] from by decide]
theorem bsl22_1 (v0 : Value) (h0 : v0.cells = #[v0]) : ∀ w, (Instr.buildSlice 22 1 ([(0, v0)] : List (Nat × Value)).toArray).run Try.prog w = .ok (.slice (some ⟨w.heap.size, 0, none⟩) 1 1) (w.alloc (.cells ([v0] : List Value).toArray 23)) := by
 intro w; simp [Instr.buildSlice, Instr.fill, Try.zeroValue23, Try.runUnderlying22, Try.sizeOf23, Value.cells_int, newRow, show Array.range 1 = #[0] from by decide, h0]
theorem bsl23_0   : ∀ w, (Instr.buildSlice 23 0 ([] : List (Nat × Value)).toArray).run Try.prog w = .ok (.slice (some ⟨w.heap.size, 0, none⟩) 0 0) (w.alloc (.cells ([] : List Value).toArray 2)) := by
 intro w; simp [Instr.buildSlice, Instr.fill, Try.zeroValue2, Try.runUnderlying23, Try.sizeOf2, Value.cells_int, newRow, show Array.range 0 = #[] from by decide]
theorem bsl23_4 (v0 v1 v2 v3 : Value) (h0 : v0.cells = #[v0]) (h1 : v1.cells = #[v1]) (h2 : v2.cells = #[v2]) (h3 : v3.cells = #[v3]) : ∀ w, (Instr.buildSlice 23 4 ([(0, v0), (1, v1), (2, v2), (3, v3)] : List (Nat × Value)).toArray).run Try.prog w = .ok (.slice (some ⟨w.heap.size, 0, none⟩) 4 4) (w.alloc (.cells ([v0, v1, v2, v3] : List Value).toArray 2)) := by
 intro w; simp [Instr.buildSlice, Instr.fill, Try.zeroValue2, Try.runUnderlying23, Try.sizeOf2, Value.cells_int, newRow, show Array.range 4 = #[0, 1, 2, 3] from by decide, h0, h1, h2, h3]
theorem spec_l07Suits_c (w : World) :
  Calls Try.prog 86 #[] w (Ret fun v w' => ∃ x : Option Addr × Nat × Nat × (Nat → Hd) × List (List Int), v = .slice x.1 x.2.1 x.2.2.1 ∧ (x.2.2.2.2 = Iso.orders) ∧ Sep w none_ [OwnR maK 23 2 x.1 x.2.1 x.2.2.1 x.2.2.2.1 x.2.2.2.2] w') := by
 refine fn (M := none_) (rs := [.tmp 0]) Try.func86 rfl Try.ntmps86 rfl rfl (Sep.start _ _) ?_
 refine hSeq ?_
 refine hReg (sq 0 sz) (by kernel_rfl) ?_
 refine asS rfl rfl rfl ?_
 refine rNil ?_
 refine qSeq rfl ?_
 refine hSeq ?_
 refine hReg (sl 0 (sq 1 sz)) (by kernel_rfl) ?_
 refine bsl trv1 rfl rfl rfl (bsl22_0) (fun bkl1 hbkl1 => ?_)
 refine asS rfl rfl rfl ?_
 refine rNil ?_
 refine qSeq rfl ?_
 refine hSeq ?_
 refine hSeq ?_
 refine hReg (sq 0 sz) (by kernel_rfl) ?_
 refine asI rfl rfl rfl ?_
 refine rNil ?_
 refine qSeq rfl ?_
 refine hBlk ?_
 refine hPieces (fun _ h => Sep.litR maK 23 2 (fun _ => (none, 0)) h 0 rfl) ?_
 refine hLoop (α := Nat × Nat × Hd × (Nat → Hd)) (fun x => x.1 ≤ 256 ∧ x.2.1 ≤ x.1) (fun x => 256 - x.1) (fun x => [OwnR maK 23 2 x.2.2.1.1 x.2.1 x.2.2.1.2 x.2.2.2 (Iso.ords x.1)]) (fun x => [(1, .slice x.2.2.1.1 x.2.1 x.2.2.1.2), (2, .int .i64 (x.1 : Int))]) ((0, 0, (((some ⟨bkl1, 0, none⟩), 0), (fun _ => (none, 0))))) ⟨Nat.zero_le _, Nat.le_refl _⟩ (fun _ h => h.pick [0]) ⟨rfl, rfl, trivial⟩ ?_
 rintro ⟨k, q, hd⟩ τ1 ⟨hk, hq⟩
 dsimp only at hk hq
 refine hRe [(1, .slice hd.1.1 q hd.1.2), (2, .int .i64 (k : Int))] [OwnR maK 23 2 hd.1.1 q hd.1.2 hd.2 (Iso.ords k)] rfl rfl ?_
 refine hSeq ?_
 refine hSeq ?_
 refine hReg (sq 0 (sq 1 sz)) (by kernel_rfl) ?_
 refine mvI rfl rfl rfl ?_
 refine lss rfl rfl rfl rfl ?_
 refine rNil ?_
 refine qSeq rfl ?_
 refine hIfD rfl (fun c1 => ?_) (fun c1 => ?_)
 ·
  replace c1 : (k : Int) < 256 := c1
  refine hSkip ?_
  refine qSeq rfl ?_
  refine hSeq ?_
  refine hBlk ?_
  refine hSeq ?_
  refine hReg (sq 0 (sq 1 (sq 2 (sq 3 (sq 4 (sq 5 (sq 6 (sq 7 (sq 8 (sq 9 (sl 10 (sq 11 sz)))))))))))) (by kernel_rfl) ?_
  refine mvI rfl rfl rfl ?_
  refine quo rfl rfl rfl rfl (by omega) ?_
  refine mvI rfl rfl rfl ?_
  refine quo rfl rfl rfl rfl (by omega) ?_
  refine rem rfl rfl rfl rfl (by omega) ?_
  refine mvI rfl rfl rfl ?_
  refine quo rfl rfl rfl rfl (by omega) ?_
  refine rem rfl rfl rfl rfl (by omega) ?_
  refine mvI rfl rfl rfl ?_
  refine rem rfl rfl rfl rfl (by omega) ?_
  refine bsl trv1 rfl rfl rfl (bsl23_4 (.int .i64 _) (.int .i64 _) (.int .i64 _) (.int .i64 _) rfl rfl rfl rfl) (fun bkl2 hbkl2 => ?_)
  refine asS rfl rfl rfl ?_
  refine rNil ?_
  refine qSeq rfl ?_
  refine hSeq ?_
  refine hDraw (Ls := [blk bkl2 2 [.int .i64 (((k : Int) / 64)), .int .i64 (((((k : Int) / 16)) % 4)), .int .i64 (((((k : Int) / 4)) % 4)), .int .i64 (((k : Int) % 4))]]) (by kernel_rfl) (sq 0 (sq 1 (sq 2 (sq 3 (sq 4 (sq 5 (sq 6 (sq 7 (sq 8 (sq 9 (sq 10 (sq 11 (sq 12 (sq 13 (sq 14 (sq 15 (sq 16 (sq 17 (sq 18 (sq 19 (sq 20 (sq 21 (sq 22 (sq 23 (sq 24 (sq 25 (sq 26 (sq 27 (sq 28 (sq 29 (sq 30 (sq 31 (sq 32 (sq 33 (sq 34 (sq 35 (sq 36 (sq 37 (sq 38 (sq 39 (sq 40 (sq 41 (sq 42 (sq 43 (sq 44 (sq 45 (sq 46 (sq 47 (sq 48 (sq 49 (sq 50 (sq 51 sz)))))))))))))))))))))))))))))))))))))))))))))))))))) (by kernel_rfl) (.cons_cons _ (.cons _ .slnil)) ?_
  refine mvS rfl rfl rfl ?_
  refine ixIq (zn := 0) el23 ((Kn.at_ 0 rfl).imp fun _ h => RdI.lit (zs := [((k : Int) / 64), ((((k : Int) / 16)) % 4), ((((k : Int) / 4)) % 4), ((k : Int) % 4)]) (n := 4) h rfl rfl rfl) (fun _ h => h.pick [0]) rfl rfl rfl rfl (by omega) (by omega) rfl ?_
  intro ae1 e1
  refine ldq Try.isAgg2 (e1) rfl rfl rfl ?_
  refine mvS rfl rfl rfl ?_
  refine ixIq (zn := 1) el23 ((Kn.at_ 0 rfl).imp fun _ h => RdI.lit (zs := [((k : Int) / 64), ((((k : Int) / 16)) % 4), ((((k : Int) / 4)) % 4), ((k : Int) % 4)]) (n := 4) h rfl rfl rfl) (fun _ h => h.pick [0]) rfl rfl rfl rfl (by omega) (by omega) rfl ?_
  intro ae2 e2
  refine ldq Try.isAgg2 (e2) rfl rfl rfl ?_
  refine neq rfl rfl rfl rfl ?_
  refine mvB rfl rfl rfl ?_
  refine rBoolD (d := 27) rfl (fun g2 => ?_) (fun g2 => ?_)
  ·
   replace g2 : ([((k : Int) / 64), ((((k : Int) / 16)) % 4), ((((k : Int) / 4)) % 4), ((k : Int) % 4)].getD 0 0) ≠ ([((k : Int) / 64), ((((k : Int) / 16)) % 4), ((((k : Int) / 4)) % 4), ((k : Int) % 4)].getD 1 0) := g2
   refine mvS rfl rfl rfl ?_
   refine ixIq (zn := 0) el23 ((Kn.at_ 0 rfl).imp fun _ h => RdI.lit (zs := [((k : Int) / 64), ((((k : Int) / 16)) % 4), ((((k : Int) / 4)) % 4), ((k : Int) % 4)]) (n := 4) h rfl rfl rfl) (fun _ h => h.pick [0]) rfl rfl rfl rfl (by omega) (by omega) rfl ?_
   intro ae3 e3
   refine ldq Try.isAgg2 (e3) rfl rfl rfl ?_
   refine mvS rfl rfl rfl ?_
   refine ixIq (zn := 2) el23 ((Kn.at_ 0 rfl).imp fun _ h => RdI.lit (zs := [((k : Int) / 64), ((((k : Int) / 16)) % 4), ((((k : Int) / 4)) % 4), ((k : Int) % 4)]) (n := 4) h rfl rfl rfl) (fun _ h => h.pick [0]) rfl rfl rfl rfl (by omega) (by omega) rfl ?_
   intro ae4 e4
   refine ldq Try.isAgg2 (e4) rfl rfl rfl ?_
   refine neq rfl rfl rfl rfl ?_
   refine pickB rfl rfl rfl rfl ?_
   refine mvB rfl rfl rfl ?_
   refine rBoolD (d := 36) rfl (fun g3 => ?_) (fun g3 => ?_)
   ·
    replace g3 : ([((k : Int) / 64), ((((k : Int) / 16)) % 4), ((((k : Int) / 4)) % 4), ((k : Int) % 4)].getD 0 0) ≠ ([((k : Int) / 64), ((((k : Int) / 16)) % 4), ((((k : Int) / 4)) % 4), ((k : Int) % 4)].getD 2 0) := g3
    refine mvS rfl rfl rfl ?_
    refine ixIq (zn := 0) el23 ((Kn.at_ 0 rfl).imp fun _ h => RdI.lit (zs := [((k : Int) / 64), ((((k : Int) / 16)) % 4), ((((k : Int) / 4)) % 4), ((k : Int) % 4)]) (n := 4) h rfl rfl rfl) (fun _ h => h.pick [0]) rfl rfl rfl rfl (by omega) (by omega) rfl ?_
    intro ae5 e5
    refine ldq Try.isAgg2 (e5) rfl rfl rfl ?_
    refine mvS rfl rfl rfl ?_
    refine ixIq (zn := 3) el23 ((Kn.at_ 0 rfl).imp fun _ h => RdI.lit (zs := [((k : Int) / 64), ((((k : Int) / 16)) % 4), ((((k : Int) / 4)) % 4), ((k : Int) % 4)]) (n := 4) h rfl rfl rfl) (fun _ h => h.pick [0]) rfl rfl rfl rfl (by omega) (by omega) rfl ?_
    intro ae6 e6
    refine ldq Try.isAgg2 (e6) rfl rfl rfl ?_
    refine neq rfl rfl rfl rfl ?_
    refine pickB rfl rfl rfl rfl ?_
    refine mvB rfl rfl rfl ?_
    refine rBoolD (d := 45) rfl (fun g4 => ?_) (fun g4 => ?_)
    ·
     replace g4 : ([((k : Int) / 64), ((((k : Int) / 16)) % 4), ((((k : Int) / 4)) % 4), ((k : Int) % 4)].getD 0 0) ≠ ([((k : Int) / 64), ((((k : Int) / 16)) % 4), ((((k : Int) / 4)) % 4), ((k : Int) % 4)].getD 3 0) := g4
     refine mvS rfl rfl rfl ?_
     refine ixIq (zn := 1) el23 ((Kn.at_ 0 rfl).imp fun _ h => RdI.lit (zs := [((k : Int) / 64), ((((k : Int) / 16)) % 4), ((((k : Int) / 4)) % 4), ((k : Int) % 4)]) (n := 4) h rfl rfl rfl) (fun _ h => h.pick [0]) rfl rfl rfl rfl (by omega) (by omega) rfl ?_
     intro ae7 e7
     refine ldq Try.isAgg2 (e7) rfl rfl rfl ?_
     refine mvS rfl rfl rfl ?_
     refine ixIq (zn := 2) el23 ((Kn.at_ 0 rfl).imp fun _ h => RdI.lit (zs := [((k : Int) / 64), ((((k : Int) / 16)) % 4), ((((k : Int) / 4)) % 4), ((k : Int) % 4)]) (n := 4) h rfl rfl rfl) (fun _ h => h.pick [0]) rfl rfl rfl rfl (by omega) (by omega) rfl ?_
     intro ae8 e8
     refine ldq Try.isAgg2 (e8) rfl rfl rfl ?_
     refine neq rfl rfl rfl rfl ?_
     refine pickB rfl rfl rfl rfl ?_
     refine mvB rfl rfl rfl ?_
     refine rBoolD (d := 54) rfl (fun g5 => ?_) (fun g5 => ?_)
     ·
      replace g5 : ([((k : Int) / 64), ((((k : Int) / 16)) % 4), ((((k : Int) / 4)) % 4), ((k : Int) % 4)].getD 1 0) ≠ ([((k : Int) / 64), ((((k : Int) / 16)) % 4), ((((k : Int) / 4)) % 4), ((k : Int) % 4)].getD 2 0) := g5
      refine mvS rfl rfl rfl ?_
      refine ixIq (zn := 1) el23 ((Kn.at_ 0 rfl).imp fun _ h => RdI.lit (zs := [((k : Int) / 64), ((((k : Int) / 16)) % 4), ((((k : Int) / 4)) % 4), ((k : Int) % 4)]) (n := 4) h rfl rfl rfl) (fun _ h => h.pick [0]) rfl rfl rfl rfl (by omega) (by omega) rfl ?_
      intro ae9 e9
      refine ldq Try.isAgg2 (e9) rfl rfl rfl ?_
      refine mvS rfl rfl rfl ?_
      refine ixIq (zn := 3) el23 ((Kn.at_ 0 rfl).imp fun _ h => RdI.lit (zs := [((k : Int) / 64), ((((k : Int) / 16)) % 4), ((((k : Int) / 4)) % 4), ((k : Int) % 4)]) (n := 4) h rfl rfl rfl) (fun _ h => h.pick [0]) rfl rfl rfl rfl (by omega) (by omega) rfl ?_
      intro ae10 e10
      refine ldq Try.isAgg2 (e10) rfl rfl rfl ?_
      refine neq rfl rfl rfl rfl ?_
      refine pickB rfl rfl rfl rfl ?_
      refine mvB rfl rfl rfl ?_
      refine rBoolD (d := 63) rfl (fun g6 => ?_) (fun g6 => ?_)
      ·
       replace g6 : ([((k : Int) / 64), ((((k : Int) / 16)) % 4), ((((k : Int) / 4)) % 4), ((k : Int) % 4)].getD 1 0) ≠ ([((k : Int) / 64), ((((k : Int) / 16)) % 4), ((((k : Int) / 4)) % 4), ((k : Int) % 4)].getD 3 0) := g6
       refine mvS rfl rfl rfl ?_
       refine ixIq (zn := 2) el23 ((Kn.at_ 0 rfl).imp fun _ h => RdI.lit (zs := [((k : Int) / 64), ((((k : Int) / 16)) % 4), ((((k : Int) / 4)) % 4), ((k : Int) % 4)]) (n := 4) h rfl rfl rfl) (fun _ h => h.pick [0]) rfl rfl rfl rfl (by omega) (by omega) rfl ?_
       intro ae11 e11
       refine ldq Try.isAgg2 (e11) rfl rfl rfl ?_
       refine mvS rfl rfl rfl ?_
       refine ixIq (zn := 3) el23 ((Kn.at_ 0 rfl).imp fun _ h => RdI.lit (zs := [((k : Int) / 64), ((((k : Int) / 16)) % 4), ((((k : Int) / 4)) % 4), ((k : Int) % 4)]) (n := 4) h rfl rfl rfl) (fun _ h => h.pick [0]) rfl rfl rfl rfl (by omega) (by omega) rfl ?_
       intro ae12 e12
       refine ldq Try.isAgg2 (e12) rfl rfl rfl ?_
       refine neq rfl rfl rfl rfl ?_
       refine pickB rfl rfl rfl rfl ?_
       refine rNil ?_
       refine qSeq rfl ?_
       refine hIfD rfl (fun c7 => ?_) (fun c7 => ?_)
       ·
        replace c7 : ([((k : Int) / 64), ((((k : Int) / 16)) % 4), ((((k : Int) / 4)) % 4), ((k : Int) % 4)].getD 2 0) ≠ ([((k : Int) / 64), ((((k : Int) / 16)) % 4), ((((k : Int) / 4)) % 4), ((k : Int) % 4)].getD 3 0) := c7
        refine hReg (sq 0 (sq 1 (sl 2 (sl 3 (sq 4 sz))))) (by kernel_rfl) ?_
        refine mvS rfl rfl rfl ?_
        refine mvS rfl rfl rfl ?_
        refine bsl trv1 rfl rfl rfl (bsl22_1 (.slice _ _ _) rfl) (fun bkl3 hbkl3 => ?_)
        refine rPieces (fun _ h => Sep.litI h 1 [((k : Int) / 64), ((((k : Int) / 16)) % 4), ((((k : Int) / 4)) % 4), ((k : Int) % 4)] rfl rfl rfl) ?_
        refine apR (hd := ((some ⟨bkl2, 0, none⟩), 4)) (x := [((k : Int) / 64), ((((k : Int) / 16)) % 4), ((((k : Int) / 4)) % 4), ((k : Int) % 4)]) 2 1 0 maK.ok rfl rfl rfl (fun h => by first | rfl | (dsimp only at h; rw [h]; rfl) | (rw [h]; rfl) | exact congrArg (fun m => [Value.slice _ m _]) h) mk22 trv1 rfl rfl rfl rfl (by omega) ?_
        intro aq13 cq13
        refine asS rfl rfl rfl ?_
        refine rNil ?_
        refine qSeq rfl ?_
        refine hReg (sq 0 (sq 1 (sq 2 sz))) (by kernel_rfl) ?_
        refine mvI rfl rfl rfl ?_
        refine add rfl rfl rfl rfl (by omega) ?_
        refine asI rfl rfl rfl ?_
        refine rNil ?_
        rw [show ((Iso.ords k) ++ [[((k : Int) / 64), ((((k : Int) / 16)) % 4), ((((k : Int) / 4)) % 4), ((k : Int) % 4)]]) = Iso.ords (k + 1) from (Iso.ords_yes (decide_eq_true ⟨g2, g3, g4, g5, g6, c7⟩)).symm]
        exact qNext rfl ((k + 1, (q + 1), ((aq13, cq13), (hset hd.2 (Iso.ords k).length ((some ⟨bkl2, 0, none⟩), 4))))) (by dsimp only; omega) ⟨by dsimp only; omega, by dsimp only; omega⟩ ⟨rfl, rfl, trivial⟩ (fun _ h => h.pick [0])
       ·
        replace c7 : ¬ (([((k : Int) / 64), ((((k : Int) / 16)) % 4), ((((k : Int) / 4)) % 4), ((k : Int) % 4)].getD 2 0) ≠ ([((k : Int) / 64), ((((k : Int) / 16)) % 4), ((((k : Int) / 4)) % 4), ((k : Int) % 4)].getD 3 0)) := c7
        refine hSkip ?_
        refine qSeq rfl ?_
        refine hReg (sq 0 (sq 1 (sq 2 sz))) (by kernel_rfl) ?_
        refine mvI rfl rfl rfl ?_
        refine add rfl rfl rfl rfl (by omega) ?_
        refine asI rfl rfl rfl ?_
        refine rNil ?_
        rw [← Iso.ords_no (k := k) (decide_eq_false fun h => c7 h.2.2.2.2.2)]
        exact qNext rfl ((k + 1, q, ((hd.1.1, hd.1.2), hd.2))) (by dsimp only; omega) ⟨by dsimp only; omega, by dsimp only; omega⟩ ⟨rfl, rfl, trivial⟩ (fun _ h => h.pick [1])
      ·
       replace g6 : ¬ (([((k : Int) / 64), ((((k : Int) / 16)) % 4), ((((k : Int) / 4)) % 4), ((k : Int) % 4)].getD 1 0) ≠ ([((k : Int) / 64), ((((k : Int) / 16)) % 4), ((((k : Int) / 4)) % 4), ((k : Int) % 4)].getD 3 0)) := g6
       refine rSkipQ rfl rfl ?_
       refine rSkipQ rfl rfl ?_
       refine rSkipQ rfl rfl ?_
       refine rSkipQ rfl rfl ?_
       refine rSkipQ rfl rfl ?_
       refine rSkipQ rfl rfl ?_
       refine rSkipQ rfl rfl ?_
       refine pickB rfl rfl rfl rfl ?_
       refine rNil ?_
       refine qSeq rfl ?_
       refine hIfF rfl ?_
       refine hSkip ?_
       refine qSeq rfl ?_
       refine hReg (sq 0 (sq 1 (sq 2 sz))) (by kernel_rfl) ?_
       refine mvI rfl rfl rfl ?_
       refine add rfl rfl rfl rfl (by omega) ?_
       refine asI rfl rfl rfl ?_
       refine rNil ?_
       rw [← Iso.ords_no (k := k) (decide_eq_false fun h => g6 h.2.2.2.2.1)]
       exact qNext rfl ((k + 1, q, ((hd.1.1, hd.1.2), hd.2))) (by dsimp only; omega) ⟨by dsimp only; omega, by dsimp only; omega⟩ ⟨rfl, rfl, trivial⟩ (fun _ h => h.pick [1])
     ·
      replace g5 : ¬ (([((k : Int) / 64), ((((k : Int) / 16)) % 4), ((((k : Int) / 4)) % 4), ((k : Int) % 4)].getD 1 0) ≠ ([((k : Int) / 64), ((((k : Int) / 16)) % 4), ((((k : Int) / 4)) % 4), ((k : Int) % 4)].getD 2 0)) := g5
      refine rSkipQ rfl rfl ?_
      refine rSkipQ rfl rfl ?_
      refine rSkipQ rfl rfl ?_
      refine rSkipQ rfl rfl ?_
      refine rSkipQ rfl rfl ?_
      refine rSkipQ rfl rfl ?_
      refine rSkipQ rfl rfl ?_
      refine pickB rfl rfl rfl rfl ?_
      refine mvB rfl rfl rfl ?_
      refine rSkipQ rfl rfl ?_
      refine rSkipQ rfl rfl ?_
      refine rSkipQ rfl rfl ?_
      refine rSkipQ rfl rfl ?_
      refine rSkipQ rfl rfl ?_
      refine rSkipQ rfl rfl ?_
      refine rSkipQ rfl rfl ?_
      refine pickB rfl rfl rfl rfl ?_
      refine rNil ?_
      refine qSeq rfl ?_
      refine hIfF rfl ?_
      refine hSkip ?_
      refine qSeq rfl ?_
      refine hReg (sq 0 (sq 1 (sq 2 sz))) (by kernel_rfl) ?_
      refine mvI rfl rfl rfl ?_
      refine add rfl rfl rfl rfl (by omega) ?_
      refine asI rfl rfl rfl ?_
      refine rNil ?_
      rw [← Iso.ords_no (k := k) (decide_eq_false fun h => g5 h.2.2.2.1)]
      exact qNext rfl ((k + 1, q, ((hd.1.1, hd.1.2), hd.2))) (by dsimp only; omega) ⟨by dsimp only; omega, by dsimp only; omega⟩ ⟨rfl, rfl, trivial⟩ (fun _ h => h.pick [1])
    ·
     replace g4 : ¬ (([((k : Int) / 64), ((((k : Int) / 16)) % 4), ((((k : Int) / 4)) % 4), ((k : Int) % 4)].getD 0 0) ≠ ([((k : Int) / 64), ((((k : Int) / 16)) % 4), ((((k : Int) / 4)) % 4), ((k : Int) % 4)].getD 3 0)) := g4
     refine rSkipQ rfl rfl ?_
     refine rSkipQ rfl rfl ?_
     refine rSkipQ rfl rfl ?_
     refine rSkipQ rfl rfl ?_
     refine rSkipQ rfl rfl ?_
     refine rSkipQ rfl rfl ?_
     refine rSkipQ rfl rfl ?_
     refine pickB rfl rfl rfl rfl ?_
     refine mvB rfl rfl rfl ?_
     refine rSkipQ rfl rfl ?_
     refine rSkipQ rfl rfl ?_
     refine rSkipQ rfl rfl ?_
     refine rSkipQ rfl rfl ?_
     refine rSkipQ rfl rfl ?_
     refine rSkipQ rfl rfl ?_
     refine rSkipQ rfl rfl ?_
     refine pickB rfl rfl rfl rfl ?_
     refine mvB rfl rfl rfl ?_
     refine rSkipQ rfl rfl ?_
     refine rSkipQ rfl rfl ?_
     refine rSkipQ rfl rfl ?_
     refine rSkipQ rfl rfl ?_
     refine rSkipQ rfl rfl ?_
     refine rSkipQ rfl rfl ?_
     refine rSkipQ rfl rfl ?_
     refine pickB rfl rfl rfl rfl ?_
     refine rNil ?_
     refine qSeq rfl ?_
     refine hIfF rfl ?_
     refine hSkip ?_
     refine qSeq rfl ?_
     refine hReg (sq 0 (sq 1 (sq 2 sz))) (by kernel_rfl) ?_
     refine mvI rfl rfl rfl ?_
     refine add rfl rfl rfl rfl (by omega) ?_
     refine asI rfl rfl rfl ?_
     refine rNil ?_
     rw [← Iso.ords_no (k := k) (decide_eq_false fun h => g4 h.2.2.1)]
     exact qNext rfl ((k + 1, q, ((hd.1.1, hd.1.2), hd.2))) (by dsimp only; omega) ⟨by dsimp only; omega, by dsimp only; omega⟩ ⟨rfl, rfl, trivial⟩ (fun _ h => h.pick [1])
   ·
    replace g3 : ¬ (([((k : Int) / 64), ((((k : Int) / 16)) % 4), ((((k : Int) / 4)) % 4), ((k : Int) % 4)].getD 0 0) ≠ ([((k : Int) / 64), ((((k : Int) / 16)) % 4), ((((k : Int) / 4)) % 4), ((k : Int) % 4)].getD 2 0)) := g3
    refine rSkipQ rfl rfl ?_
    refine rSkipQ rfl rfl ?_
    refine rSkipQ rfl rfl ?_
    refine rSkipQ rfl rfl ?_
    refine rSkipQ rfl rfl ?_
    refine rSkipQ rfl rfl ?_
    refine rSkipQ rfl rfl ?_
    refine pickB rfl rfl rfl rfl ?_
    refine mvB rfl rfl rfl ?_
    refine rSkipQ rfl rfl ?_
    refine rSkipQ rfl rfl ?_
    refine rSkipQ rfl rfl ?_
    refine rSkipQ rfl rfl ?_
    refine rSkipQ rfl rfl ?_
    refine rSkipQ rfl rfl ?_
    refine rSkipQ rfl rfl ?_
    refine pickB rfl rfl rfl rfl ?_
    refine mvB rfl rfl rfl ?_
    refine rSkipQ rfl rfl ?_
    refine rSkipQ rfl rfl ?_
    refine rSkipQ rfl rfl ?_
    refine rSkipQ rfl rfl ?_
    refine rSkipQ rfl rfl ?_
    refine rSkipQ rfl rfl ?_
    refine rSkipQ rfl rfl ?_
    refine pickB rfl rfl rfl rfl ?_
    refine mvB rfl rfl rfl ?_
    refine rSkipQ rfl rfl ?_
    refine rSkipQ rfl rfl ?_
    refine rSkipQ rfl rfl ?_
    refine rSkipQ rfl rfl ?_
    refine rSkipQ rfl rfl ?_
    refine rSkipQ rfl rfl ?_
    refine rSkipQ rfl rfl ?_
    refine pickB rfl rfl rfl rfl ?_
    refine rNil ?_
    refine qSeq rfl ?_
    refine hIfF rfl ?_
    refine hSkip ?_
    refine qSeq rfl ?_
    refine hReg (sq 0 (sq 1 (sq 2 sz))) (by kernel_rfl) ?_
    refine mvI rfl rfl rfl ?_
    refine add rfl rfl rfl rfl (by omega) ?_
    refine asI rfl rfl rfl ?_
    refine rNil ?_
    rw [← Iso.ords_no (k := k) (decide_eq_false fun h => g3 h.2.1)]
    exact qNext rfl ((k + 1, q, ((hd.1.1, hd.1.2), hd.2))) (by dsimp only; omega) ⟨by dsimp only; omega, by dsimp only; omega⟩ ⟨rfl, rfl, trivial⟩ (fun _ h => h.pick [1])
  ·
   replace g2 : ¬ (([((k : Int) / 64), ((((k : Int) / 16)) % 4), ((((k : Int) / 4)) % 4), ((k : Int) % 4)].getD 0 0) ≠ ([((k : Int) / 64), ((((k : Int) / 16)) % 4), ((((k : Int) / 4)) % 4), ((k : Int) % 4)].getD 1 0)) := g2
   refine rSkipQ rfl rfl ?_
   refine rSkipQ rfl rfl ?_
   refine rSkipQ rfl rfl ?_
   refine rSkipQ rfl rfl ?_
   refine rSkipQ rfl rfl ?_
   refine rSkipQ rfl rfl ?_
   refine rSkipQ rfl rfl ?_
   refine pickB rfl rfl rfl rfl ?_
   refine mvB rfl rfl rfl ?_
   refine rSkipQ rfl rfl ?_
   refine rSkipQ rfl rfl ?_
   refine rSkipQ rfl rfl ?_
   refine rSkipQ rfl rfl ?_
   refine rSkipQ rfl rfl ?_
   refine rSkipQ rfl rfl ?_
   refine rSkipQ rfl rfl ?_
   refine pickB rfl rfl rfl rfl ?_
   refine mvB rfl rfl rfl ?_
   refine rSkipQ rfl rfl ?_
   refine rSkipQ rfl rfl ?_
   refine rSkipQ rfl rfl ?_
   refine rSkipQ rfl rfl ?_
   refine rSkipQ rfl rfl ?_
   refine rSkipQ rfl rfl ?_
   refine rSkipQ rfl rfl ?_
   refine pickB rfl rfl rfl rfl ?_
   refine mvB rfl rfl rfl ?_
   refine rSkipQ rfl rfl ?_
   refine rSkipQ rfl rfl ?_
   refine rSkipQ rfl rfl ?_
   refine rSkipQ rfl rfl ?_
   refine rSkipQ rfl rfl ?_
   refine rSkipQ rfl rfl ?_
   refine rSkipQ rfl rfl ?_
   refine pickB rfl rfl rfl rfl ?_
   refine mvB rfl rfl rfl ?_
   refine rSkipQ rfl rfl ?_
   refine rSkipQ rfl rfl ?_
   refine rSkipQ rfl rfl ?_
   refine rSkipQ rfl rfl ?_
   refine rSkipQ rfl rfl ?_
   refine rSkipQ rfl rfl ?_
   refine rSkipQ rfl rfl ?_
   refine pickB rfl rfl rfl rfl ?_
   refine rNil ?_
   refine qSeq rfl ?_
   refine hIfF rfl ?_
   refine hSkip ?_
   refine qSeq rfl ?_
   refine hReg (sq 0 (sq 1 (sq 2 sz))) (by kernel_rfl) ?_
   refine mvI rfl rfl rfl ?_
   refine add rfl rfl rfl rfl (by omega) ?_
   refine asI rfl rfl rfl ?_
   refine rNil ?_
   rw [← Iso.ords_no (k := k) (decide_eq_false fun h => g2 h.1)]
   exact qNext rfl ((k + 1, q, ((hd.1.1, hd.1.2), hd.2))) (by dsimp only; omega) ⟨by dsimp only; omega, by dsimp only; omega⟩ ⟨rfl, rfl, trivial⟩ (fun _ h => h.pick [1])
 ·
  replace c1 : ¬ ((k : Int) < 256) := c1
  refine hExit rfl ?_
  refine qSeq rfl ?_
  refine hSeq ?_
  refine hReg (sq 0 (sq 1 sz)) (by kernel_rfl) ?_
  refine mvS rfl rfl rfl ?_
  refine asS rfl rfl rfl ?_
  refine rNil ?_
  refine qSeq rfl ?_
  refine hRet ?_
  exact fun w hs => ⟨[.slice hd.1.1 q hd.1.2], ⟨rfl, trivial⟩, ⟨(hd.1.1, q, hd.1.2, hd.2, (Iso.ords k)), rfl, by rw [show k = 256 by omega]; rfl, hs.pick [0]⟩⟩
theorem spec_l18Take_c (c : Int) (ap : Option Addr) (np : Nat) (cp : Nat) (p : List Int) (w : World) (rp : RdI ap np p w) (hc : 0 ≤ c ∧ c ≤ 51) (hp : Iso.isP p) :
  Calls Try.prog 123 #[.int .i64 c, .slice ap np cp] w (Ret fun v w' => v = .int .i64 (Iso.take4 p c) ∧ Ext w w') := by
 have kp : Kn w none_ [] (RdI ap np p) := fun w' hs => rp.ext hs.upd
 have lp : p.length = np := rp.1
 have mp : np ≤ 9223372036854775807 := rp.2.1
 have hp4 := hp.1
 have hpx := hp.2 (c % 4).toNat
 refine fn (M := none_) (rs := [.tmp 4]) Try.func123 rfl Try.ntmps123 rfl rfl (Sep.start _ _) ?_
 refine hSeq ?_
 refine hReg (sq 0 sz) (by kernel_rfl) ?_
 refine asI rfl rfl rfl ?_
 refine rNil ?_
 refine qSeq rfl ?_
 refine hSeq ?_
 refine hReg (sq 0 (sq 1 (sq 2 (sq 3 (sq 4 (sq 5 (sq 6 (sl 7 (sq 8 (sq 9 sz)))))))))) (by kernel_rfl) ?_
 refine mvI rfl rfl rfl ?_
 refine quo rfl rfl rfl rfl (by omega) ?_
 refine mul rfl rfl rfl rfl (by omega) ?_
 refine mvS rfl rfl rfl ?_
 refine mvI rfl rfl rfl ?_
 refine rem rfl rfl rfl rfl (by omega) ?_
 refine ixIl (zn := ((c % 4)).toNat) el23 (kp) rfl rfl rfl rfl (by omega) (by omega) rfl ?_
 intro ae1 e1
 refine ldl Try.isAgg2 (e1) trv rfl rfl rfl ?_
 refine add rfl rfl rfl rfl (by omega) ?_
 refine asI rfl rfl rfl ?_
 refine rNil ?_
 refine qSeq rfl ?_
 refine hRet ?_
 exact fun w hs => ⟨[.int .i64 ((((c / 4) * 4) + (p.getD (((c % 4)).toNat) 0)))], ⟨rfl, trivial⟩, ⟨by first | rfl | exact bD (by omega) | exact bT (by omega) | exact bF (by omega) | exact vI (by omega), hs.upd⟩⟩
theorem spec_l18Image_c (az : Option Addr) (nz : Nat) (cz : Nat) (z : List Int) (ap : Option Addr) (np : Nat) (cp : Nat) (p : List Int) (w : World) (rz : RdI az nz z w) (rp : RdI ap np p w) (hz : ∀ x ∈ z, 0 ≤ x ∧ x ≤ 51) (hl : z.length ≤ 52) (hp : Iso.isP p) :
  Calls Try.prog 79 #[.slice az nz cz, .slice ap np cp] w (Ret fun v w' => ∃ x : Option Addr × Nat × Nat × List Int, v = .slice x.1 x.2.1 x.2.2.1 ∧ (x.2.2.2 = (Iso.image4 p z) ∧ x.2.1 = nz) ∧ Sep w none_ [OwnI 2 x.1 x.2.1 x.2.2.1 x.2.2.2] w') := by
 have kz : Kn w none_ [] (RdI az nz z) := fun w' hs => rz.ext hs.upd
 have lz : z.length = nz := rz.1
 have mz : nz ≤ 9223372036854775807 := rz.2.1
 have kp : Kn w none_ [] (RdI ap np p) := fun w' hs => rp.ext hs.upd
 have lp : p.length = np := rp.1
 have mp : np ≤ 9223372036854775807 := rp.2.1
 refine fn (M := none_) (rs := [.tmp 4]) Try.func79 rfl Try.ntmps79 rfl rfl (Sep.start _ _) ?_
 refine hSeq ?_
 refine hReg (sq 0 sz) (by kernel_rfl) ?_
 refine asS rfl rfl rfl ?_
 refine rNil ?_
 refine qSeq rfl ?_
 refine hSeq ?_
 refine hReg (sl 0 (sq 1 sz)) (by kernel_rfl) ?_
 refine bsl trv1 rfl rfl rfl (bsl23_0) (fun bkl1 hbkl1 => ?_)
 refine asS rfl rfl rfl ?_
 refine rNil ?_
 refine qSeq rfl ?_
 refine hSeq ?_
 refine hSeq ?_
 refine hReg (sq 0 sz) (by kernel_rfl) ?_
 refine asI rfl rfl rfl ?_
 refine rNil ?_
 refine qSeq rfl ?_
 refine hBlk ?_
 refine hPieces (fun _ h => Sep.litI h 0 [] rfl rfl rfl) ?_
 refine hLoop (α := Nat × Nat × Hd) (fun x => x.1 ≤ nz ∧ x.2.1 = x.1) (fun x => nz - x.1) (fun x => [OwnI 2 x.2.2.1 x.2.1 x.2.2.2 ((Iso.image4 p (z.take x.1)))]) (fun x => [(0, .slice az nz cz), (1, .slice ap np cp), (5, .slice x.2.2.1 x.2.1 x.2.2.2), (6, .int .i64 (x.1 : Int))]) ((0, 0, ((some ⟨bkl1, 0, none⟩), 0))) ⟨Nat.zero_le _, rfl⟩ (fun _ h => h.pick [0]) ⟨rfl, rfl, rfl, rfl, trivial⟩ ?_
 rintro ⟨i, q, hd⟩ τ1 ⟨hi, hq⟩
 dsimp only at hi hq
 refine hRe [(0, .slice az nz cz), (1, .slice ap np cp), (5, .slice hd.1 q hd.2), (6, .int .i64 (i : Int))] [OwnI 2 hd.1 q hd.2 ((Iso.image4 p (z.take i)))] rfl rfl ?_
 refine hSeq ?_
 refine hSeq ?_
 refine hReg (sq 0 (sq 1 (sq 2 (sq 3 sz)))) (by kernel_rfl) ?_
 refine mvI rfl rfl rfl ?_
 refine mvS rfl rfl rfl ?_
 refine lenS Try.runUnderlying23 rfl rfl rfl ?_
 refine lss rfl rfl rfl rfl ?_
 refine rNil ?_
 refine qSeq rfl ?_
 refine hIfD rfl (fun c1 => ?_) (fun c1 => ?_)
 ·
  replace c1 : (i : Int) < (nz : Int) := c1
  have hx := hz _ (Math.getD_mem 0 (show i < z.length by omega))
  refine hSkip ?_
  refine qSeq rfl ?_
  refine hSeq ?_
  refine hBlk ?_
  refine hReg (sq 0 (sq 1 (sq 2 (sq 3 (sl 4 (sq 5 (sl 6 (sl 7 (sl 8 (sq 9 sz)))))))))) (by kernel_rfl) ?_
  refine mvS rfl rfl rfl ?_
  refine mvS rfl rfl rfl ?_
  refine mvI rfl rfl rfl ?_
  refine ixIl (zn := i) el23 (Kn.drop (k := 1) kz) rfl rfl rfl rfl (by omega) (by omega) rfl ?_
  intro ae1 e1
  refine ldl Try.isAgg2 (e1) trv rfl rfl rfl ?_
  refine mvS rfl rfl rfl ?_
  refine callP (v := .int .i64 ((Iso.take4 p (z.getD i 0)))) Try.call123 trv rfl rfl (fun w hs => spec_l18Take_c _ _ np cp _ w (Kn.drop (k := 1) kp w hs) (by omega) (by assumption)) ?_
  refine bsl trv1 rfl rfl rfl (bsl23_1 (.int .i64 _) rfl) (fun bkl2 hbkl2 => ?_)
  refine aplI (N := q) (x := (Iso.take4 p (z.getD i 0))) 1 0 rfl rfl mk23 trv1 rfl rfl rfl rfl (by omega) ?_
  intro aq2 cq2
  refine asS rfl rfl rfl ?_
  refine rNil ?_
  refine qSeq rfl ?_
  refine hReg (sq 0 (sq 1 (sq 2 sz))) (by kernel_rfl) ?_
  refine mvI rfl rfl rfl ?_
  refine add rfl rfl rfl rfl (by omega) ?_
  refine asI rfl rfl rfl ?_
  refine rNil ?_
  rw [Iso.image4_snoc (by omega)]
  exact qNext rfl ((i + 1, (q + 1), (aq2, cq2))) (by dsimp only; omega) ⟨by dsimp only; omega, by dsimp only; omega⟩ ⟨rfl, rfl, rfl, rfl, trivial⟩ (fun _ h => h.pick [1])
 ·
  replace c1 : ¬ ((i : Int) < (nz : Int)) := c1
  refine hExit rfl ?_
  refine qSeq rfl ?_
  refine hSeq ?_
  refine hReg (sq 0 (sq 1 sz)) (by kernel_rfl) ?_
  refine mvS rfl rfl rfl ?_
  refine asS rfl rfl rfl ?_
  refine rNil ?_
  refine qSeq rfl ?_
  refine hRet ?_
  exact fun w hs => ⟨[.slice hd.1 q hd.2], ⟨rfl, trivial⟩, ⟨(hd.1, q, hd.2, (Iso.image4 p (z.take i))), rfl, ⟨by rw [List.take_of_length_le (by omega)], by dsimp only; omega⟩, hs.pick [0]⟩⟩
theorem spec_l02Sorted_c (az : Option Addr) (nz : Nat) (cz : Nat) (z : List Int) (w : World) (rz : RdI az nz z w) (hl : z.length ≤ 1000000) :
  Calls Try.prog 130 #[.slice az nz cz] w (Ret fun v w' => ∃ x : Option Addr × Nat × Nat × List Int, v = .slice x.1 x.2.1 x.2.2.1 ∧ (x.2.2.2 = srt z ∧ x.2.1 = nz) ∧ Sep w none_ [OwnI 2 x.1 x.2.1 x.2.2.1 x.2.2.2] w') := by
 have kz : Kn w none_ [] (RdI az nz z) := fun w' hs => rz.ext hs.upd
 have lz : z.length = nz := rz.1
 have mz : nz ≤ 9223372036854775807 := rz.2.1
 refine fn (M := none_) (rs := [.tmp 2]) Try.func130 rfl Try.ntmps130 rfl rfl (Sep.start _ _) ?_
 refine hSeq ?_
 refine hReg (sq 0 sz) (by kernel_rfl) ?_
 refine asS rfl rfl rfl ?_
 refine rNil ?_
 refine qSeq rfl ?_
 refine hSeq ?_
 refine hReg (sl 0 (sq 1 sz)) (by kernel_rfl) ?_
 refine bsl trv1 rfl rfl rfl (bsl23_0) (fun bkl1 hbkl1 => ?_)
 refine asS rfl rfl rfl ?_
 refine rNil ?_
 refine qSeq rfl ?_
 refine hSeq ?_
 refine hSeq ?_
 refine hReg (sq 0 sz) (by kernel_rfl) ?_
 refine asI rfl rfl rfl ?_
 refine rNil ?_
 refine qSeq rfl ?_
 refine hBlk ?_
 refine hPieces (fun _ h => Sep.litI h 0 [] rfl rfl rfl) ?_
 refine hLoop (α := Nat × Nat × Hd × List Int) (fun x => x.1 ≤ nz ∧ x.2.1 = x.1 ∧ x.2.2.2 = srt (z.take x.1)) (fun x => nz - x.1) (fun x => [OwnI 2 x.2.2.1.1 x.2.1 x.2.2.1.2 x.2.2.2]) (fun x => [(0, .slice az nz cz), (3, .slice x.2.2.1.1 x.2.1 x.2.2.1.2), (4, .int .i64 (x.1 : Int))]) ((0, 0, ((some ⟨bkl1, 0, none⟩), 0), [])) ⟨Nat.zero_le _, rfl, srt_nil.symm⟩ (fun _ h => h.pick [0]) ⟨rfl, rfl, rfl, trivial⟩ ?_
 rintro ⟨i, q, hd, r⟩ τ1 ⟨hi, hq, hr⟩
 dsimp only at hi hq hr
 refine hRe [(0, .slice az nz cz), (3, .slice hd.1 q hd.2), (4, .int .i64 (i : Int))] [OwnI 2 hd.1 q hd.2 r] rfl rfl ?_
 refine hSeq ?_
 refine hSeq ?_
 refine hReg (sq 0 (sq 1 (sq 2 (sq 3 sz)))) (by kernel_rfl) ?_
 refine mvI rfl rfl rfl ?_
 refine mvS rfl rfl rfl ?_
 refine lenS Try.runUnderlying23 rfl rfl rfl ?_
 refine lss rfl rfl rfl rfl ?_
 refine rNil ?_
 refine qSeq rfl ?_
 refine hIfD rfl (fun c1 => ?_) (fun c1 => ?_)
 ·
  replace c1 : (i : Int) < (nz : Int) := c1
  have hsl : r.length = i := by rw [hr, srt_len, List.length_take]; omega
  refine hSkip ?_
  refine qSeq rfl ?_
  refine hSeq ?_
  refine hBlk ?_
  refine hSeq ?_
  refine hReg (sq 0 sz) (by kernel_rfl) ?_
  refine asI rfl rfl rfl ?_
  refine rNil ?_
  refine qSeq rfl ?_
  refine hSeq ?_
  refine hBlk ?_
  refine hLoop (α := Nat) (fun k => k ≤ q ∧ ∀ j, j < k → j < r.length → r.getD j 0 ≤ z.getD i 0) (fun k => q - k) (fun k => [OwnI 2 hd.1 q hd.2 r]) (fun k => [(0, .slice az nz cz), (3, .slice hd.1 q hd.2), (4, .int .i64 (i : Int)), (5, .int .i64 (k : Int))]) 0 ⟨Nat.zero_le _, fun j hj => by omega⟩ (fun _ h => h.pick [0]) ⟨rfl, rfl, rfl, rfl, trivial⟩ ?_
  rintro k τ2 ⟨hk, hlo⟩
  refine hSeq ?_
  refine hSeq ?_
  refine hDraw (Ls := [OwnI 2 hd.1 q hd.2 r]) (by kernel_rfl) (sq 0 (sq 1 (sq 2 (sq 3 (sq 4 (sq 5 (sq 6 (sq 7 (sq 8 (sq 9 (sq 10 (sq 11 (sq 12 (sq 13 (sq 14 sz))))))))))))))) (by kernel_rfl) (.cons_cons _ .slnil) ?_
  refine mvI rfl rfl rfl ?_
  refine mvS rfl rfl rfl ?_
  refine lenS Try.runUnderlying23 rfl rfl rfl ?_
  refine lss rfl rfl rfl rfl ?_
  refine mvB rfl rfl rfl ?_
  refine rBoolD (d := 17) rfl (fun g2 => ?_) (fun g2 => ?_)
  ·
   replace g2 : (k : Int) < (q : Int) := g2
   refine mvS rfl rfl rfl ?_
   refine mvI rfl rfl rfl ?_
   refine ixIq (zn := k) el23 ((Kn.at_ 0 rfl).imp fun _ h => OwnI.rd h) (fun _ h => h.pick [0]) rfl rfl rfl rfl (by omega) (by omega) rfl ?_
   intro ae1 e1
   refine ldq Try.isAgg2 (e1) rfl rfl rfl ?_
   refine mvS rfl rfl rfl ?_
   refine mvI rfl rfl rfl ?_
   refine ixIq (zn := i) el23 (Kn.drop (k := 1) kz) (fun _ h => h.pick [0]) rfl rfl rfl rfl (by omega) (by omega) rfl ?_
   intro ae2 e2
   refine ldq Try.isAgg2 (e2) rfl rfl rfl ?_
   refine leq rfl rfl rfl rfl ?_
   refine pickB rfl rfl rfl rfl ?_
   refine rNil ?_
   refine qSeq rfl ?_
   refine hIfD rfl (fun c3 => ?_) (fun c3 => ?_)
   ·
    replace c3 : (r.getD k 0) ≤ (z.getD i 0) := c3
    refine hSkip ?_
    refine qSeq rfl ?_
    refine hBlk ?_
    refine hReg (sq 0 (sq 1 (sq 2 sz))) (by kernel_rfl) ?_
    refine mvI rfl rfl rfl ?_
    refine add rfl rfl rfl rfl (by omega) ?_
    refine asI rfl rfl rfl ?_
    refine rNil ?_
    exact qNext rfl (k + 1) (by omega) ⟨by omega, fun j hj hj2 => by rcases Nat.lt_or_ge j k with h | h; exact hlo j h hj2; rw [show j = k by omega]; exact c3⟩ ⟨rfl, rfl, rfl, rfl, trivial⟩ (fun _ h => h.pick [0])
   ·
    replace c3 : ¬ ((r.getD k 0) ≤ (z.getD i 0)) := c3
    refine hExit rfl ?_
    refine qSeq rfl ?_
    refine hDraw (Ls := []) (by kernel_rfl) (sq 1 (sq 2 (sq 3 (sq 5 (sq 6 (sq 7 (sq 8 (sq 11 (sq 12 (sq 13 (.alt (sl 0 (.alt (sl 4 (sl 9 (sl 10 (sl 14 (sq 15 sz))))) (sl 9 (sl 4 (sl 10 (sl 14 (sq 15 sz))))))) (sl 9 (sl 0 (sl 4 (sl 10 (sl 14 (sq 15 sz))))))))))))))))) (by kernel_rfl) (.cons _ .slnil) ?_
    refine mvS rfl rfl rfl ?_
    refine mvI rfl rfl rfl ?_
    refine slHil (zn := k) 0 rfl el23 rfl rfl rfl rfl (by omega) (by omega) rfl (fun e3 => ?_)
    refine mvS rfl rfl rfl ?_
    refine mvI rfl rfl rfl ?_
    refine ixIq (zn := i) el23 (kz) (fun _ h => h.pick []) rfl rfl rfl rfl (by omega) (by omega) rfl ?_
    intro ae4 e4
    refine ldq Try.isAgg2 (e4) rfl rfl rfl ?_
    refine mvS rfl rfl rfl ?_
    refine mvI rfl rfl rfl ?_
    refine slLol (zn := k) 0 rfl el23 rfl rfl rfl rfl (by omega) (by omega) rfl ?_
    intro ae5 e5
    refine rAlt ?_ ?_
    ·
     refine bsl (fun _ _ h => h.pick []) rfl rfl rfl (bsl23_0) (fun bkl2 hbkl2 => ?_)
     refine rAlt ?_ ?_
     ·
      refine rPieces (fun _ h => Sep.litI h 0 [] rfl rfl rfl) ?_
      refine aplL (N := 0) (ys := (r.take k)) 0 rfl (Kn.drop (k := 1) e3) mk23 (fun _ _ h => h.pick []) rfl rfl rfl rfl (by omega) ?_
      intro aq6 cq6
      refine bsl (fun _ _ h => h.pick []) rfl rfl rfl (bsl23_1 (.int .i64 _) rfl) (fun bkl3 hbkl3 => ?_)
      refine aplI (N := (0 + k)) (x := (z.getD i 0)) 1 0 rfl rfl mk23 (fun _ _ h => h.pick []) rfl rfl rfl rfl (by omega) ?_
      intro aq7 cq7
      refine aplL (N := (((0 + k) + 1))) (ys := (r.drop k)) 1 rfl (Kn.drop (k := 2) e5) mk23 (fun _ _ h => h.pick []) rfl rfl rfl rfl (by omega) ?_
      intro aq8 cq8
      refine asS rfl rfl rfl ?_
      refine rNil ?_
      refine qSeq rfl ?_
      refine hReg (sq 0 (sq 1 (sq 2 sz))) (by kernel_rfl) ?_
      refine mvI rfl rfl rfl ?_
      refine add rfl rfl rfl rfl (by omega) ?_
      refine asI rfl rfl rfl ?_
      refine rNil ?_
      exact qNext rfl ((i + 1, (((0 + k) + 1) + (q - k)), (aq8, cq8), ((([] ++ (r.take k)) ++ [(z.getD i 0)]) ++ (r.drop k)))) (by dsimp only; omega) ⟨by dsimp only; omega, by dsimp only; omega, by dsimp only; rw [Iso.take_snoc (by omega)]; exact Iso.srt_put hr hlo (fun h => by omega)⟩ ⟨rfl, rfl, rfl, trivial⟩ (fun _ h => h.pick [1])
     ·
      refine bsl (fun _ _ h => h.pick []) rfl rfl rfl (bsl23_1 (.int .i64 _) rfl) (fun bkl4 hbkl4 => ?_)
      refine rPieces (fun _ h => Sep.litI h 1 [] rfl rfl rfl) ?_
      refine aplL (N := 0) (ys := (r.take k)) 1 rfl (Kn.drop (k := 2) e3) mk23 (fun _ _ h => h.pick []) rfl rfl rfl rfl (by omega) ?_
      intro aq9 cq9
      refine aplI (N := (0 + k)) (x := (z.getD i 0)) 1 0 rfl rfl mk23 (fun _ _ h => h.pick []) rfl rfl rfl rfl (by omega) ?_
      intro aq10 cq10
      refine aplL (N := (((0 + k) + 1))) (ys := (r.drop k)) 1 rfl (Kn.drop (k := 2) e5) mk23 (fun _ _ h => h.pick []) rfl rfl rfl rfl (by omega) ?_
      intro aq11 cq11
      refine asS rfl rfl rfl ?_
      refine rNil ?_
      refine qSeq rfl ?_
      refine hReg (sq 0 (sq 1 (sq 2 sz))) (by kernel_rfl) ?_
      refine mvI rfl rfl rfl ?_
      refine add rfl rfl rfl rfl (by omega) ?_
      refine asI rfl rfl rfl ?_
      refine rNil ?_
      exact qNext rfl ((i + 1, (((0 + k) + 1) + (q - k)), (aq11, cq11), ((([] ++ (r.take k)) ++ [(z.getD i 0)]) ++ (r.drop k)))) (by dsimp only; omega) ⟨by dsimp only; omega, by dsimp only; omega, by dsimp only; rw [Iso.take_snoc (by omega)]; exact Iso.srt_put hr hlo (fun h => by omega)⟩ ⟨rfl, rfl, rfl, trivial⟩ (fun _ h => h.pick [1])
    ·
     refine bsl (fun _ _ h => h.pick []) rfl rfl rfl (bsl23_1 (.int .i64 _) rfl) (fun bkl5 hbkl5 => ?_)
     refine bsl (fun _ _ h => h.pick []) rfl rfl rfl (bsl23_0) (fun bkl6 hbkl6 => ?_)
     refine rPieces (fun _ h => Sep.litI h 0 [] rfl rfl rfl) ?_
     refine aplL (N := 0) (ys := (r.take k)) 0 rfl (Kn.drop (k := 2) e3) mk23 (fun _ _ h => h.pick []) rfl rfl rfl rfl (by omega) ?_
     intro aq12 cq12
     refine aplI (N := (0 + k)) (x := (z.getD i 0)) 0 1 rfl rfl mk23 (fun _ _ h => h.pick []) rfl rfl rfl rfl (by omega) ?_
     intro aq13 cq13
     refine aplL (N := (((0 + k) + 1))) (ys := (r.drop k)) 0 rfl (Kn.drop (k := 2) e5) mk23 (fun _ _ h => h.pick []) rfl rfl rfl rfl (by omega) ?_
     intro aq14 cq14
     refine asS rfl rfl rfl ?_
     refine rNil ?_
     refine qSeq rfl ?_
     refine hReg (sq 0 (sq 1 (sq 2 sz))) (by kernel_rfl) ?_
     refine mvI rfl rfl rfl ?_
     refine add rfl rfl rfl rfl (by omega) ?_
     refine asI rfl rfl rfl ?_
     refine rNil ?_
     exact qNext rfl ((i + 1, (((0 + k) + 1) + (q - k)), (aq14, cq14), ((([] ++ (r.take k)) ++ [(z.getD i 0)]) ++ (r.drop k)))) (by dsimp only; omega) ⟨by dsimp only; omega, by dsimp only; omega, by dsimp only; rw [Iso.take_snoc (by omega)]; exact Iso.srt_put hr hlo (fun h => by omega)⟩ ⟨rfl, rfl, rfl, trivial⟩ (fun _ h => h.pick [0])
  ·
   replace g2 : ¬ ((k : Int) < (q : Int)) := g2
   refine rSkipQ rfl rfl ?_
   refine rSkipQ rfl rfl ?_
   refine rSkipQ rfl rfl ?_
   refine rSkipQ rfl rfl ?_
   refine rSkipQ rfl rfl ?_
   refine rSkipQ rfl rfl ?_
   refine rSkipQ rfl rfl ?_
   refine rSkipQ rfl rfl ?_
   refine rSkipQ rfl rfl ?_
   refine pickB rfl rfl rfl rfl ?_
   refine rNil ?_
   refine qSeq rfl ?_
   refine hIfF rfl ?_
   refine hExit rfl ?_
   refine qSeq rfl ?_
   refine hDraw (Ls := []) (by kernel_rfl) (sq 1 (sq 2 (sq 3 (sq 5 (sq 6 (sq 7 (sq 8 (sq 11 (sq 12 (sq 13 (.alt (sl 0 (.alt (sl 4 (sl 9 (sl 10 (sl 14 (sq 15 sz))))) (sl 9 (sl 4 (sl 10 (sl 14 (sq 15 sz))))))) (sl 9 (sl 0 (sl 4 (sl 10 (sl 14 (sq 15 sz))))))))))))))))) (by kernel_rfl) (.cons _ .slnil) ?_
   refine mvS rfl rfl rfl ?_
   refine mvI rfl rfl rfl ?_
   refine slHil (zn := k) 0 rfl el23 rfl rfl rfl rfl (by omega) (by omega) rfl (fun e15 => ?_)
   refine mvS rfl rfl rfl ?_
   refine mvI rfl rfl rfl ?_
   refine ixIq (zn := i) el23 (kz) (fun _ h => h.pick []) rfl rfl rfl rfl (by omega) (by omega) rfl ?_
   intro ae16 e16
   refine ldq Try.isAgg2 (e16) rfl rfl rfl ?_
   refine mvS rfl rfl rfl ?_
   refine mvI rfl rfl rfl ?_
   refine slLol (zn := k) 0 rfl el23 rfl rfl rfl rfl (by omega) (by omega) rfl ?_
   intro ae17 e17
   refine rAlt ?_ ?_
   ·
    refine bsl (fun _ _ h => h.pick []) rfl rfl rfl (bsl23_0) (fun bkl7 hbkl7 => ?_)
    refine rAlt ?_ ?_
    ·
     refine rPieces (fun _ h => Sep.litI h 0 [] rfl rfl rfl) ?_
     refine aplL (N := 0) (ys := (r.take k)) 0 rfl (Kn.drop (k := 1) e15) mk23 (fun _ _ h => h.pick []) rfl rfl rfl rfl (by omega) ?_
     intro aq18 cq18
     refine bsl (fun _ _ h => h.pick []) rfl rfl rfl (bsl23_1 (.int .i64 _) rfl) (fun bkl8 hbkl8 => ?_)
     refine aplI (N := (0 + k)) (x := (z.getD i 0)) 1 0 rfl rfl mk23 (fun _ _ h => h.pick []) rfl rfl rfl rfl (by omega) ?_
     intro aq19 cq19
     refine aplL (N := (((0 + k) + 1))) (ys := (r.drop k)) 1 rfl (Kn.drop (k := 2) e17) mk23 (fun _ _ h => h.pick []) rfl rfl rfl rfl (by omega) ?_
     intro aq20 cq20
     refine asS rfl rfl rfl ?_
     refine rNil ?_
     refine qSeq rfl ?_
     refine hReg (sq 0 (sq 1 (sq 2 sz))) (by kernel_rfl) ?_
     refine mvI rfl rfl rfl ?_
     refine add rfl rfl rfl rfl (by omega) ?_
     refine asI rfl rfl rfl ?_
     refine rNil ?_
     exact qNext rfl ((i + 1, (((0 + k) + 1) + (q - k)), (aq20, cq20), ((([] ++ (r.take k)) ++ [(z.getD i 0)]) ++ (r.drop k)))) (by dsimp only; omega) ⟨by dsimp only; omega, by dsimp only; omega, by dsimp only; rw [Iso.take_snoc (by omega)]; exact Iso.srt_put hr hlo (fun h => by omega)⟩ ⟨rfl, rfl, rfl, trivial⟩ (fun _ h => h.pick [1])
    ·
     refine bsl (fun _ _ h => h.pick []) rfl rfl rfl (bsl23_1 (.int .i64 _) rfl) (fun bkl9 hbkl9 => ?_)
     refine rPieces (fun _ h => Sep.litI h 1 [] rfl rfl rfl) ?_
     refine aplL (N := 0) (ys := (r.take k)) 1 rfl (Kn.drop (k := 2) e15) mk23 (fun _ _ h => h.pick []) rfl rfl rfl rfl (by omega) ?_
     intro aq21 cq21
     refine aplI (N := (0 + k)) (x := (z.getD i 0)) 1 0 rfl rfl mk23 (fun _ _ h => h.pick []) rfl rfl rfl rfl (by omega) ?_
     intro aq22 cq22
     refine aplL (N := (((0 + k) + 1))) (ys := (r.drop k)) 1 rfl (Kn.drop (k := 2) e17) mk23 (fun _ _ h => h.pick []) rfl rfl rfl rfl (by omega) ?_
     intro aq23 cq23
     refine asS rfl rfl rfl ?_
     refine rNil ?_
     refine qSeq rfl ?_
     refine hReg (sq 0 (sq 1 (sq 2 sz))) (by kernel_rfl) ?_
     refine mvI rfl rfl rfl ?_
     refine add rfl rfl rfl rfl (by omega) ?_
     refine asI rfl rfl rfl ?_
     refine rNil ?_
     exact qNext rfl ((i + 1, (((0 + k) + 1) + (q - k)), (aq23, cq23), ((([] ++ (r.take k)) ++ [(z.getD i 0)]) ++ (r.drop k)))) (by dsimp only; omega) ⟨by dsimp only; omega, by dsimp only; omega, by dsimp only; rw [Iso.take_snoc (by omega)]; exact Iso.srt_put hr hlo (fun h => by omega)⟩ ⟨rfl, rfl, rfl, trivial⟩ (fun _ h => h.pick [1])
   ·
    refine bsl (fun _ _ h => h.pick []) rfl rfl rfl (bsl23_1 (.int .i64 _) rfl) (fun bkl10 hbkl10 => ?_)
    refine bsl (fun _ _ h => h.pick []) rfl rfl rfl (bsl23_0) (fun bkl11 hbkl11 => ?_)
    refine rPieces (fun _ h => Sep.litI h 0 [] rfl rfl rfl) ?_
    refine aplL (N := 0) (ys := (r.take k)) 0 rfl (Kn.drop (k := 2) e15) mk23 (fun _ _ h => h.pick []) rfl rfl rfl rfl (by omega) ?_
    intro aq24 cq24
    refine aplI (N := (0 + k)) (x := (z.getD i 0)) 0 1 rfl rfl mk23 (fun _ _ h => h.pick []) rfl rfl rfl rfl (by omega) ?_
    intro aq25 cq25
    refine aplL (N := (((0 + k) + 1))) (ys := (r.drop k)) 0 rfl (Kn.drop (k := 2) e17) mk23 (fun _ _ h => h.pick []) rfl rfl rfl rfl (by omega) ?_
    intro aq26 cq26
    refine asS rfl rfl rfl ?_
    refine rNil ?_
    refine qSeq rfl ?_
    refine hReg (sq 0 (sq 1 (sq 2 sz))) (by kernel_rfl) ?_
    refine mvI rfl rfl rfl ?_
    refine add rfl rfl rfl rfl (by omega) ?_
    refine asI rfl rfl rfl ?_
    refine rNil ?_
    exact qNext rfl ((i + 1, (((0 + k) + 1) + (q - k)), (aq26, cq26), ((([] ++ (r.take k)) ++ [(z.getD i 0)]) ++ (r.drop k)))) (by dsimp only; omega) ⟨by dsimp only; omega, by dsimp only; omega, by dsimp only; rw [Iso.take_snoc (by omega)]; exact Iso.srt_put hr hlo (fun h => by omega)⟩ ⟨rfl, rfl, rfl, trivial⟩ (fun _ h => h.pick [0])
 ·
  replace c1 : ¬ ((i : Int) < (nz : Int)) := c1
  refine hExit rfl ?_
  refine qSeq rfl ?_
  refine hSeq ?_
  refine hReg (sq 0 (sq 1 sz)) (by kernel_rfl) ?_
  refine mvS rfl rfl rfl ?_
  refine asS rfl rfl rfl ?_
  refine rNil ?_
  refine qSeq rfl ?_
  refine hRet ?_
  exact fun w hs => ⟨[.slice hd.1 q hd.2], ⟨rfl, trivial⟩, ⟨(hd.1, q, hd.2, r), rfl, ⟨by rw [hr, List.take_of_length_le (by omega)], by dsimp only; omega⟩, hs.pick [0]⟩⟩
theorem spec_l01Same_c (az : Option Addr) (nz : Nat) (cz : Nat) (z : List Int) (ay : Option Addr) (ny : Nat) (cy : Nat) (y : List Int) (w : World) (rz : RdI az nz z w) (ry : RdI ay ny y w) :
  Calls Try.prog 129 #[.slice az nz cz, .slice ay ny cy] w (Ret fun v w' => v = .bool (decide (z = y)) ∧ Ext w w') := by
 have kz : Kn w none_ [] (RdI az nz z) := fun w' hs => rz.ext hs.upd
 have lz : z.length = nz := rz.1
 have mz : nz ≤ 9223372036854775807 := rz.2.1
 have ky : Kn w none_ [] (RdI ay ny y) := fun w' hs => ry.ext hs.upd
 have ly : y.length = ny := ry.1
 have my : ny ≤ 9223372036854775807 := ry.2.1
 refine fn (M := none_) (rs := [.tmp 4]) Try.func129 rfl Try.ntmps129 rfl rfl (Sep.start _ _) ?_
 refine hSeq ?_
 refine hReg (sq 0 sz) (by kernel_rfl) ?_
 refine asB rfl rfl rfl ?_
 refine rNil ?_
 refine qSeq rfl ?_
 refine hSeq ?_
 refine hSeq ?_
 refine hReg (sq 0 (sq 1 (sq 2 (sq 3 (sq 4 sz))))) (by kernel_rfl) ?_
 refine mvS rfl rfl rfl ?_
 refine lenS Try.runUnderlying23 rfl rfl rfl ?_
 refine mvS rfl rfl rfl ?_
 refine lenS Try.runUnderlying23 rfl rfl rfl ?_
 refine neq rfl rfl rfl rfl ?_
 refine rNil ?_
 refine qSeq rfl ?_
 refine hIfD rfl (fun c1 => ?_) (fun c1 => ?_)
 ·
  replace c1 : (nz : Int) ≠ (ny : Int) := c1
  refine hSeq ?_
  refine hReg (sq 0 sz) (by kernel_rfl) ?_
  refine asB rfl rfl rfl ?_
  refine rNil ?_
  refine qSeq rfl ?_
  refine hRet ?_
  exact fun w hs => ⟨[.bool false], ⟨rfl, trivial⟩, ⟨bF (fun h => c1 (by rw [← lz, ← ly, h])), hs.upd⟩⟩
 ·
  replace c1 : ¬ ((nz : Int) ≠ (ny : Int)) := c1
  refine hSkip ?_
  refine qSeq rfl ?_
  refine hSeq ?_
  refine hSeq ?_
  refine hReg (sq 0 sz) (by kernel_rfl) ?_
  refine asI rfl rfl rfl ?_
  refine rNil ?_
  refine qSeq rfl ?_
  refine hBlk ?_
  refine hLoop (α := Nat) (fun i => i ≤ nz ∧ ∀ j, j < i → z.getD j 0 = y.getD j 0) (fun i => nz - i) (fun i => []) (fun i => [(0, .slice az nz cz), (1, .slice ay ny cy), (5, .int .i64 (i : Int))]) 0 ⟨Nat.zero_le _, fun j hj => by omega⟩ (fun _ h => h.pick []) ⟨rfl, rfl, rfl, trivial⟩ ?_
  rintro i τ1 ⟨hi, hal⟩
  refine hSeq ?_
  refine hSeq ?_
  refine hReg (sq 0 (sq 1 (sq 2 (sq 3 sz)))) (by kernel_rfl) ?_
  refine mvI rfl rfl rfl ?_
  refine mvS rfl rfl rfl ?_
  refine lenS Try.runUnderlying23 rfl rfl rfl ?_
  refine lss rfl rfl rfl rfl ?_
  refine rNil ?_
  refine qSeq rfl ?_
  refine hIfD rfl (fun c2 => ?_) (fun c2 => ?_)
  ·
   replace c2 : (i : Int) < (nz : Int) := c2
   refine hSkip ?_
   refine qSeq rfl ?_
   refine hSeq ?_
   refine hBlk ?_
   refine hSeq ?_
   refine hDraw (Ls := []) (by kernel_rfl) (sq 0 (sq 1 (sq 2 (sq 3 (sq 4 (sq 5 (sq 6 (sq 7 (sq 8 sz))))))))) (by kernel_rfl) .slnil ?_
   refine mvS rfl rfl rfl ?_
   refine mvI rfl rfl rfl ?_
   refine ixIq (zn := i) el23 (kz) (fun _ h => h.pick []) rfl rfl rfl rfl (by omega) (by omega) rfl ?_
   intro ae1 e1
   refine ldq Try.isAgg2 (e1) rfl rfl rfl ?_
   refine mvS rfl rfl rfl ?_
   refine mvI rfl rfl rfl ?_
   refine ixIq (zn := i) el23 (ky) (fun _ h => h.pick []) rfl rfl rfl rfl (by omega) (by omega) rfl ?_
   intro ae2 e2
   refine ldq Try.isAgg2 (e2) rfl rfl rfl ?_
   refine neq rfl rfl rfl rfl ?_
   refine rNil ?_
   refine qSeq rfl ?_
   refine hIfD rfl (fun c3 => ?_) (fun c3 => ?_)
   ·
    replace c3 : (z.getD i 0) ≠ (y.getD i 0) := c3
    refine hSeq ?_
    refine hReg (sq 0 sz) (by kernel_rfl) ?_
    refine asB rfl rfl rfl ?_
    refine rNil ?_
    refine qSeq rfl ?_
    refine hRet ?_
    exact fun w hs => ⟨[.bool false], ⟨rfl, trivial⟩, ⟨bF (fun h => c3 (by rw [h])), hs.upd⟩⟩
   ·
    replace c3 : ¬ ((z.getD i 0) ≠ (y.getD i 0)) := c3
    refine hSkip ?_
    refine qSeq rfl ?_
    refine hReg (sq 0 (sq 1 (sq 2 sz))) (by kernel_rfl) ?_
    refine mvI rfl rfl rfl ?_
    refine add rfl rfl rfl rfl (by omega) ?_
    refine asI rfl rfl rfl ?_
    refine rNil ?_
    exact qNext rfl (i + 1) (by omega) ⟨by omega, Math.upto hal (by simpa using c3)⟩ ⟨rfl, rfl, rfl, trivial⟩ (fun _ h => h.pick [])
  ·
   replace c2 : ¬ ((i : Int) < (nz : Int)) := c2
   refine hExit rfl ?_
   refine qSeq rfl ?_
   refine hSeq ?_
   refine hReg (sq 0 sz) (by kernel_rfl) ?_
   refine asB rfl rfl rfl ?_
   refine rNil ?_
   refine qSeq rfl ?_
   refine hRet ?_
   exact fun w hs => ⟨[.bool true], ⟨rfl, trivial⟩, ⟨bT (Iso.ext_getD (by omega) fun j hj => hal j (by omega)), hs.upd⟩⟩
theorem spec_l18SameSet_c (az : Option Addr) (nz : Nat) (cz : Nat) (z : List Int) (ay : Option Addr) (ny : Nat) (cy : Nat) (y : List Int) (w : World) (rz : RdI az nz z w) (ry : RdI ay ny y w) (hl : z.length ≤ 1000000) (hm : y.length ≤ 1000000) :
  Calls Try.prog 87 #[.slice az nz cz, .slice ay ny cy] w (Ret fun v w' => v = .bool (decide ((srt z) = (srt y))) ∧ Ext w w') := by
 have kz : Kn w none_ [] (RdI az nz z) := fun w' hs => rz.ext hs.upd
 have lz : z.length = nz := rz.1
 have mz : nz ≤ 9223372036854775807 := rz.2.1
 have ky : Kn w none_ [] (RdI ay ny y) := fun w' hs => ry.ext hs.upd
 have ly : y.length = ny := ry.1
 have my : ny ≤ 9223372036854775807 := ry.2.1
 refine fn (M := none_) (rs := [.tmp 4]) Try.func87 rfl Try.ntmps87 rfl rfl (Sep.start _ _) ?_
 refine hSeq ?_
 refine hReg (sq 0 sz) (by kernel_rfl) ?_
 refine asB rfl rfl rfl ?_
 refine rNil ?_
 refine qSeq rfl ?_
 refine hSeq ?_
 refine hReg (sq 0 (sl 1 (sq 2 (sl 3 (sl 4 (sq 5 sz)))))) (by kernel_rfl) ?_
 refine mvS rfl rfl rfl ?_
 refine callS Try.call130 trv1 rfl rfl (fun w hs => spec_l02Sorted_c _ nz cz _ w (kz w hs) (by omega)) ?_
 rintro ⟨ay1, ny1, cy1, y1⟩ ⟨hr1a, hr1b⟩
 dsimp only at hr1a hr1b
 subst y1
 subst ny1
 refine rKnow (fun w hs => (show OwnI 2 ay1 nz cy1 (srt z) w from hs.at_ 0 rfl).lenz) (fun lenn1 => ?_)
 refine mvS rfl rfl rfl ?_
 refine callS Try.call130 trv1 rfl rfl (fun w hs => spec_l02Sorted_c _ ny cy _ w (Kn.drop (k := 1) ky w hs) (by omega)) ?_
 rintro ⟨ay2, ny2, cy2, y2⟩ ⟨hr2a, hr2b⟩
 dsimp only at hr2a hr2b
 subst y2
 subst ny2
 refine rKnow (fun w hs => (show OwnI 2 ay2 ny cy2 (srt y) w from hs.at_ 0 rfl).lenz) (fun lenn2 => ?_)
 refine callP (v := .bool (decide ((srt z) = (srt y)))) Try.call129 trv rfl rfl (fun w hs => spec_l01Same_c _ nz cy1 _ _ ny cy2 _ w (OwnI.rd (hs.at_ 1 rfl)) (OwnI.rd (hs.at_ 0 rfl))) ?_
 refine asB rfl rfl rfl ?_
 refine rNil ?_
 refine qSeq rfl ?_
 refine hRet ?_
 exact fun w hs => ⟨[.bool (decide ((srt z) = (srt y)))], ⟨rfl, trivial⟩, ⟨by first | rfl | exact bD (by omega) | exact bT (by omega) | exact bF (by omega) | exact vI (by omega), hs.upd⟩⟩
theorem spec_l01Has_c (az : Option Addr) (nz : Nat) (cz : Nat) (z : List Int) (x0 : Int) (w : World) (rz : RdI az nz z w) :
  Calls Try.prog 133 #[.slice az nz cz, .int .i64 x0] w (Ret fun v w' => v = .bool (z.contains x0) ∧ Ext w w') := by
 have kz : Kn w none_ [] (RdI az nz z) := fun w' hs => rz.ext hs.upd
 have lz : z.length = nz := rz.1
 have mz : nz ≤ 9223372036854775807 := rz.2.1
 refine fn (M := none_) (rs := [.tmp 4]) Try.func133 rfl Try.ntmps133 rfl rfl (Sep.start _ _) ?_
 refine hSeq ?_
 refine hReg (sq 0 sz) (by kernel_rfl) ?_
 refine asB rfl rfl rfl ?_
 refine rNil ?_
 refine qSeq rfl ?_
 refine hSeq ?_
 refine hSeq ?_
 refine hReg (sq 0 sz) (by kernel_rfl) ?_
 refine asI rfl rfl rfl ?_
 refine rNil ?_
 refine qSeq rfl ?_
 refine hBlk ?_
 refine hLoop (α := Nat) (fun i => i ≤ nz ∧ x0 ∉ z.take i) (fun i => nz - i) (fun i => []) (fun i => [(0, .slice az nz cz), (1, .int .i64 x0), (5, .int .i64 (i : Int))]) 0 ⟨Nat.zero_le _, by simp⟩ (fun _ h => h.pick []) ⟨rfl, rfl, rfl, trivial⟩ ?_
 rintro i τ1 ⟨hi, hal⟩
 refine hSeq ?_
 refine hSeq ?_
 refine hReg (sq 0 (sq 1 (sq 2 (sq 3 sz)))) (by kernel_rfl) ?_
 refine mvI rfl rfl rfl ?_
 refine mvS rfl rfl rfl ?_
 refine lenS Try.runUnderlying23 rfl rfl rfl ?_
 refine lss rfl rfl rfl rfl ?_
 refine rNil ?_
 refine qSeq rfl ?_
 refine hIfD rfl (fun c1 => ?_) (fun c1 => ?_)
 ·
  replace c1 : (i : Int) < (nz : Int) := c1
  refine hSkip ?_
  refine qSeq rfl ?_
  refine hSeq ?_
  refine hBlk ?_
  refine hSeq ?_
  refine hReg (sq 0 (sq 1 (sq 2 (sl 3 (sq 4 (sq 5 sz)))))) (by kernel_rfl) ?_
  refine mvS rfl rfl rfl ?_
  refine mvI rfl rfl rfl ?_
  refine ixIl (zn := i) el23 (kz) rfl rfl rfl rfl (by omega) (by omega) rfl ?_
  intro ae1 e1
  refine ldl Try.isAgg2 (e1) trv rfl rfl rfl ?_
  refine mvI rfl rfl rfl ?_
  refine eql rfl rfl rfl rfl ?_
  refine rNil ?_
  refine qSeq rfl ?_
  refine hIfD rfl (fun c2 => ?_) (fun c2 => ?_)
  ·
   replace c2 : (z.getD i 0) = x0 := c2
   refine hSeq ?_
   refine hReg (sq 0 sz) (by kernel_rfl) ?_
   refine asB rfl rfl rfl ?_
   refine rNil ?_
   refine qSeq rfl ?_
   refine hRet ?_
   exact fun w hs => ⟨[.bool true], ⟨rfl, trivial⟩, ⟨bB (Iso.has_yes (i := i) (by omega) (by assumption)).symm, hs.upd⟩⟩
  ·
   replace c2 : ¬ ((z.getD i 0) = x0) := c2
   refine hSkip ?_
   refine qSeq rfl ?_
   refine hReg (sq 0 (sq 1 (sq 2 sz))) (by kernel_rfl) ?_
   refine mvI rfl rfl rfl ?_
   refine add rfl rfl rfl rfl (by omega) ?_
   refine asI rfl rfl rfl ?_
   refine rNil ?_
   exact qNext rfl (i + 1) (by omega) ⟨by omega, Iso.not_snoc (by omega) hal (by assumption)⟩ ⟨rfl, rfl, rfl, trivial⟩ (fun _ h => h.pick [])
 ·
  replace c1 : ¬ ((i : Int) < (nz : Int)) := c1
  refine hExit rfl ?_
  refine qSeq rfl ?_
  refine hSeq ?_
  refine hReg (sq 0 sz) (by kernel_rfl) ?_
  refine asB rfl rfl rfl ?_
  refine rNil ?_
  refine qSeq rfl ?_
  refine hRet ?_
  exact fun w hs => ⟨[.bool false], ⟨rfl, trivial⟩, ⟨bB (Iso.has_no (i := i) (by omega) hal).symm, hs.upd⟩⟩
end Go.Proofs.Yteaahdakammffaa
/- Contracts of the reference: fixing exchanges, cards that are alike, classes. Their conditions stand in each. -/
namespace Go.Proofs.Yteaahdakammffaa
open Go Go.RowKit V
set_option linter.unusedVariables false
set_option linter.unusedSimpArgs false
set_option maxRecDepth 100000
end Go.Proofs.Yteaahdakammffaa
/- Arguments of laws, opened. No condition. -/
namespace Go.Proofs.Yteaahdakammffaa
open Go Go.RowKit V Go.ChangeShapes Go.WideShapes Go.ChangeAt
set_option linter.unusedVariables false
set_option linter.unusedSimpArgs false
set_option maxRecDepth 100000
end Go.Proofs.Yteaahdakammffaa
/- The engine, part 14: arrays of four that are compared, read through a slice, sliced. No condition. -/
namespace Go.Proofs.Yteaahdakammffaa.V
open Go Go.RowKit
set_option linter.unusedVariables false
set_option linter.unusedSimpArgs false
theorem tBI {a b : Bool} {x y : Int} (h : a = b) (h' : x = y) : (Value.tuple #[.bool a, .int .i64 x]) = .tuple #[.bool b, .int .i64 y] := by rw [h, h']
theorem tII {a b : Int} {x y : Int} (h : a = b) (h' : x = y) : (Value.tuple #[.int .i64 a, .int .i64 x]) = .tuple #[.int .i64 b, .int .i64 y] := by rw [h, h']
def a4v (x0 x1 x2 x3 : Int) : List Value := [.int .i64 x0, .int .i64 x1, .int .i64 x2, .int .i64 x3]
/-- Arrays of four numbers are compared part by part. -/
def Eq4 (P : Program) (ty : TypeId) : Prop := P.eqGuardType P.depth ty = false ∧ ∀ (w : World) (x0 x1 x2 x3 y0 y1 y2 y3 : Int), (Op.equalIn 10000 ty (.agg (a4v x0 x1 x2 x3).toArray) (.agg (a4v y0 y1 y2 y3).toArray)).run P w = .ok (decide ([x0, x1, x2, x3] = [y0, y1, y2, y3])) w
section
variable {P : Program} {n : Nat} {w0 : World} {M : Nat → Prop} {L : List (World → Prop)} {σ : Fr} {K : Ko} {ops : Array Oper} {S : World → Prop} {r : Sch} {i : Nat}
variable {d : Nat} {t ty yt : TypeId} {p : String} {af : Array Edge} {g : Option (Nat × Bool)} {a b : Operand}
theorem eqlA4 {x0 x1 x2 x3 y0 y1 y2 y3 : Int} (hE : Eq4 P ty) (ho : ops[i]? = some ⟨some d, .binOp .eql ty a b yt, t, p, af, g⟩) (hg : go ops σ g) (ha : ev σ a = .agg #[.int .i64 x0, .int .i64 x1, .int .i64 x2, .int .i64 x3]) (hb : ev σ b = .agg #[.int .i64 y0, .int .i64 y1, .int .i64 y2, .int .i64 y3])
    (h : RG P n w0 M ops S L r (upd σ d (.bool (decide ([x0, x1, x2, x3] = [y0, y1, y2, y3])))) K) : RG P n w0 M ops S L (.op .q i r) σ K :=
  rQ ho hg (fun w _ => by
    have he := hE.2 w x0 x1 x2 x3 y0 y1 y2 y3
    simp only [a4v] at he
    simp only [execOp, ha, hb, Sem.run_bind, run_eqGuard_agg w .eql ty a b _ _ hE.1, Result.andThen_ok, run_eql_struct, he]; simp) h
theorem cells4 {q : Option Addr} {len : Nat} {zs : List Int} {w : World} (h : RdI q len zs w) (h4 : 4 ≤ len) {bk off : Nat} (hq : q = some ⟨bk, off, none⟩) : ∀ k v, (a4v (zs.getD 0 0) (zs.getD 1 0) (zs.getD 2 0) (zs.getD 3 0))[k]? = some v → w.cell? ⟨bk, off + k, none⟩ = some v := fun k v hk => by
  have hlt : k < 4 := by have := (List.getElem?_eq_some_iff.1 hk).1; simpa [a4v] using this
  have h1 : (iv zs)[k]? = some (.int .i64 (zs.getD k 0)) := iv_get (by have := h.1; omega)
  obtain ⟨b', off', hq', hc⟩ := h.2.2 k _ h1
  rw [hq] at hq'; cases hq'
  rw [show v = .int .i64 (zs.getD k 0) from Option.some.inj (hk.symm.trans (a4_get hlt))]; exact hc
/-- An array behind a slice. -/
theorem sapq {len cap k e : Nat} {q : Option Addr} {zs : List Int} (hu : P.underlying ty = some (.array k e)) (hC : ∀ w, S w → RdI q len zs w) (hS : ∀ w, Sep w0 M L w → S w) (ho : ops[i]? = some ⟨some d, .sliceToArrayPointer ty a, t, p, af, g⟩) (hg : go ops σ g) (ha : ev σ a = .slice q len cap) (hk : k = 4) (h4 : 4 ≤ len)
    (h : ∀ bk off, (∀ w, S w → ∀ k v, (a4v (zs.getD 0 0) (zs.getD 1 0) (zs.getD 2 0) (zs.getD 3 0))[k]? = some v → w.cell? ⟨bk, off + k, none⟩ = some v) → RG P n w0 M ops S L r (upd σ d (.pointer (some ⟨bk, off, none⟩))) K) : RG P n w0 M ops S L (.op .q i r) σ K := fun w hs => by
  subst hk
  obtain ⟨bk, off, hq, -⟩ := (hC w (hS w hs)).2.2 0 _ (iv_get (by have := (hC w (hS w hs)).1; omega))
  refine rQ (v := .pointer (some ⟨bk, off, none⟩)) ho hg (fun w _ => ?_) (h bk off fun w hw => cells4 (hC w hw) h4 hq) w hs
  simp [execOp, ha, Instr.arrayAt, run_underlying hu, Nat.not_lt.2 h4, hq]
end
section
variable {P : Program} {n : Nat} {w0 : World} {M : Nat → Prop} {L L' Lf Lr : List (World → Prop)} {σ : Fr} {K K' : Ko} {c x y : Code} {ops : Array Oper} {S : World → Prop} {r : Sch} {i : Nat}
variable {d : Nat} {t : TypeId} {p : String} {af : Array Edge} {g : Option (Nat × Bool)} {a b : Operand}
theorem callMR {α : Type} {f : FuncId} {args : Array Operand} {tys : Array TypeId} {val : α → Value} {good : α → Prop} {φs : α → List (World → Prop)} (hL : L = Lf ++ Lr) (hf : ∀ args w, (callFunc f args).run P w = .ok (.enter f args) w) (hS : ∀ x w, Sep w0 M (φs x ++ Lr) w → S w) (ho : ops[i]? = some ⟨some d, .call ⟨.value (.func f), args, tys⟩, t, p, af, g⟩) (hg : go ops σ g)
    (hc : ∀ w M0, Sep w M0 Lf w → (∀ φ, Kn w0 M Lr φ → Kn w M0 [] φ) → Calls P f (args.toList.map (ev σ)).toArray w (Ret fun v' w' => ∃ x, v' = val x ∧ good x ∧ Sep w M0 (φs x) w')) (h : ∀ x, good x → RG P n w0 M ops S (φs x ++ Lr) r (upd σ d (val x)) K) : RG P n w0 M ops S L (.op .l i r) σ K := by
  subst hL
  exact rL (Lx := fun x => φs x ++ Lr) (v := val) hS ho hg (fun w hs => by
    obtain ⟨M0, h1, h2⟩ := hs.focus
    refine call_opw hf (hc w M0 h1 fun φ hk w' hs' => hk w' (h2 [] w' hs')) fun v' w' ⟨x, he, hx, hsep⟩ => by subst he; exact ⟨x, hx, h2 _ _ hsep, rfl⟩) h
theorem Kn.nil {w0 : World} {M : Nat → Prop} {L : List (World → Prop)} {φ : World → Prop} (h : Kn w0 M [] φ) : Kn w0 M L φ := fun w hs => h w (hs.sub (List.nil_sublist _))
/-- The head of an owned slice, owned. -/
theorem OwnI.take {e : Nat} {q : Option Addr} {N C k : Nat} {zs : List Int} {w : World} (h : OwnI e q N C zs w) (hk : k ≤ N) (hq : q.isSome = true ∨ k = N) : OwnI e q k C (zs.take k) w := by
  have hl := h.lenz
  obtain ⟨h1, h2 | ⟨g', cap, cur, h2, h3, h4, h5, h6, h7, h8⟩⟩ := h
  · obtain ⟨h2, h3⟩ := h2
    cases h2
    have : k = 0 := by omega
    subst this
    exact ⟨by simp [iv], .inl ⟨rfl, rfl⟩⟩
  · cases h2
    refine ⟨by simp [iv]; omega, .inr ⟨g', C, cur, rfl, h3, h4, by omega, h6, h7, ?_⟩⟩
    rw [show iv (zs.take k) = (iv zs).take (k * 1) from by simp [iv, List.map_take], ← h8, List.take_take, Nat.min_eq_left (by omega)]
end
end Go.Proofs.Yteaahdakammffaa.V
namespace Go.Proofs.Yteaahdakammffaa
open Go Go.RowKit V
set_option linter.unusedVariables false
set_option linter.unusedSimpArgs false
set_option maxRecDepth 100000
theorem eq4A : Eq4 Try.prog 90 := ⟨Try.eqGuardType90, fun w a b c d a' b' c' d' => by
  have e1 := fun a b => run_equalIn_int (P := Try.prog) w 9998 2 .i64 .i64 a b Try.underlying2
  rw [show (10000 : Nat) = 9999 + 1 from rfl, run_equalIn_array (P := Try.prog) (w := w) 9999 _ _ Try.underlying90 (show Try.prog.info? 2 = some Try.t2 from by kernel_rfl)]
  simp only [show List.range 4 = [0, 1, 2, 3] from rfl, show Try.prog.cellsOf 2 = 1 by kernel_rfl, a4v]
  simp [Op.eqItems, part, Try.sizeOf2, e1]
  by_cases h1 : a = a' <;> by_cases h2 : b = b' <;> by_cases h3 : c = c' <;> by_cases h4 : d = d' <;> simp [h1, h2, h3, h4]⟩
end Go.Proofs.Yteaahdakammffaa
/- Rows copied with what they lead to; rows that are read. No condition. -/
namespace Go.Proofs.Yteaahdakammffaa.V
open Go Go.RowKit
set_option linter.unusedVariables false
set_option linter.unusedSimpArgs false
section
variable {P : Program} {ty e m by_ : Nat} {zc : List Value}
theorem run_append_listM {w : World} (hM : Mk P ty e m by_ zc) {n c k cq : Nat} {ao q : Option Addr} {xs news : List Value} (hown : Own e m ao n c xs w) (tyr : TypeId) (hlen : news.length = k * m) (hc : CellsAt q news w) (h1 : ∀ u ∈ news, u.oneCell' = true) (hN : (n + k) * by_ ≤ 140737488355328) :
    ∃ a' c' w', (Builtin.append_ #[ty, ty] tyr #[.slice ao n c, .slice q k cq]).run P w = .ok (.slice a' (n + k) c') w' ∧ Own e m a' (n + k) c' (xs ++ news) w' ∧ Upd (fpO ao) w w' ∧ (∀ g', fpO a' g' → fpO ao g' ∨ New w w' g') := by
  obtain ⟨hu, inf, zv, hi, hz0, hs, hby, hzc, hm, hm0, hb0⟩ := hM
  have hN63 : n + k ≤ maxLen := by
    have : n + k ≤ (n + k) * by_ := Nat.le_mul_of_pos_right _ hb0
    simp only [maxLen]; omega
  have hzs : zv.cells.size = m := by rw [hzc]; simpa using hm
  cases q with
  | none =>
    have hn0 : news = [] := by
      cases news with
      | nil => rfl
      | cons x l => obtain ⟨b, off, h, _⟩ := hc 0 x rfl; cases h
    subst hn0
    have hk0 : k = 0 := by
      have h5 : k * m = 0 := by simpa using hlen.symm
      exact (Nat.mul_eq_zero.1 h5).resolve_right (by omega)
    subst hk0
    have hr := run_append_none_any (P := P) w ty tyr e inf 0 m hu hi (.slice ao n c) n xs hown cq
    exact ⟨ao, c, w, hr, by rw [List.append_nil]; exact hown, Upd.refl _ _, fun g' h => .inl h⟩
  | some ad =>
    have hnews : ∀ j u, news[j]? = some u → w.cell? (ad.add j) = some u := fun j u hj => by
      obtain ⟨b, off, h, hc'⟩ := hc j u hj
      cases h
      rw [Addr.add_lit]; exact hc'
    have fin : ∀ (v' : Value) (w' : World), (Builtin.append_ #[ty, ty] tyr #[.slice ao n c, .slice (some ad) k cq]).run P w = .ok v' w' → w'.ownsRow w.heap.size e m v' (n + k) (xs ++ news) → Upd (fpO ao) w w' →
        ∃ a' c' w', (Builtin.append_ #[ty, ty] tyr #[.slice ao n c, .slice (some ad) k cq]).run P w = .ok (.slice a' (n + k) c') w' ∧ Own e m a' (n + k) c' (xs ++ news) w' ∧ Upd (fpO ao) w w' ∧ (∀ g', fpO a' g' → fpO ao g' ∨ New w w' g') := by
      intro v' w' hr ho hup
      obtain ⟨hl', h2⟩ := ho
      rcases h2 with ⟨hv, h0⟩ | ⟨g', cap, cur, rfl, hb, hg, hnc, hcm, hcs, ht⟩
      · subst hv
        rw [h0] at hl' ⊢
        exact ⟨none, 0, w', hr, ⟨hl', .inl ⟨rfl, rfl⟩⟩, hup, fun g' h => by cases h⟩
      · exact ⟨some ⟨g', 0, none⟩, cap, w', hr, ⟨hl', .inr ⟨g', cap, cur, rfl, Nat.zero_le _, hg, hnc, hcm, hcs, ht⟩⟩, hup, fun g2 h => by
          unfold fpO at h; cases h
          exact .inr ⟨hb, (Array.getElem?_eq_some_iff.1 hg).1⟩⟩
    have up : ∀ {w' : World} {row : Option Nat}, w.grownBy w' row → (∀ k, row = some k → fpO ao k) → Upd (fpO ao) w w' := fun hgr hrow =>
      ⟨hgr.os, hgr.tape, hgr.output, hgr.size, fun q hq hn => hgr.block q hq (fun e => hn (hrow q e.symm))⟩
    rcases hown.2 with ⟨hv, h0⟩ | ⟨g0, cap, cur, hv, hb, hg, hnc, hcm, hcs, ht⟩
    · obtain ⟨rfl, hc0⟩ : ao = none ∧ c = 0 := by cases hv; exact ⟨rfl, rfl⟩
      subst h0; subst hc0
      obtain ⟨v', w', hr, ho, hgr, _⟩ := run_append_own (P := P) w w.heap.size ty tyr e inf zv m by_ hu hi hz0 hs hby hzs hm0 (.slice none 0 0) 0 xs ⟨hown.1, .inl ⟨rfl, rfl⟩⟩ ad k cq news hlen hnews h1 hN63 hN (Nat.le_refl _)
      exact fin v' w' hr ho (up hgr fun k hk => by simp [Value.ownBlock] at hk)
    · obtain ⟨rfl, rfl⟩ : ao = some ⟨g0, 0, none⟩ ∧ c = cap := by cases hv; exact ⟨rfl, rfl⟩
      by_cases hroom : n + k ≤ c
      · obtain ⟨w', hr, ho, hgr⟩ := run_append_fits (P := P) w 0 ty tyr e inf m hu hi hs g0 n c xs hown ad k cq news hlen hnews h1 hroom
        exact ⟨some ⟨g0, 0, none⟩, c, w', hr, ho, up hgr fun k hk => by cases hk; rfl, fun g' h => .inl h⟩
      · have holds : ∀ j u, xs[j]? = some u → w.cell? ((⟨g0, 0, none⟩ : Addr).add j) = some u := by
          have h3 : w.ownsRow 0 e m (.slice (some ⟨g0, 0, none⟩) n c) n xs := hown
          exact h3.cells (g := g0) rfl
        obtain ⟨v', w', hr, ho, hgr⟩ := run_append_arg_grows (P := P) w ty tyr e inf zv m by_ hu hi hz0 hs hby hzs hm0 ⟨g0, 0, none⟩ n c xs hown.1 holds ad k cq news hlen hnews (by omega) hN63 hN
        exact fin v' w' hr ho (up hgr fun k hk => by simp at hk)
end
section
variable {P : Program} {n : Nat} {w0 : World} {M : Nat → Prop} {L L' Lf Lr : List (World → Prop)} {σ : Fr} {K K' : Ko} {c x y : Code} {ops : Array Oper} {S : World → Prop} {r : Sch} {i : Nat}
variable {d : Nat} {t : TypeId} {p : String} {af : Array Edge} {g : Option (Nat × Bool)} {a b : Operand}
variable {ty e m by_ N C : Nat} {ao : Option Addr} {xs : List Value} {zc : List Value}
/-- 'append' of a list of cells to nothing. -/
theorem aplX {k lc : Nat} {q : Option Addr} {news : List Value} (j : Nat) (hj : L[j]? = some (Own e m ao 0 C [])) (hC : Kn w0 M L (CellsAt q news)) (hl : news.length = k * m) (h1 : ∀ u ∈ news, u.oneCell' = true) (hM : Mk P ty e m by_ zc) (hS : ∀ (x : Option Addr × Nat) w, Sep w0 M (L.set j (Own e m x.1 k x.2 news)) w → S w) (ho : ops[i]? = some ⟨some d, .call ⟨.builtin .append, #[a, b], #[ty, ty]⟩, t, p, af, g⟩) (hg : go ops σ g) (ha : ev σ a = .slice ao 0 C) (hb : ev σ b = .slice q k lc) (hN : (0 + k) * by_ ≤ 140737488355328)
    (h : ∀ a' c', RG P n w0 M ops S (L.set j (Own e m a' k c' news)) r (upd σ d (.slice a' k c')) K) : RG P n w0 M ops S L (.op .l i r) σ K :=
  rL (α := Option Addr × Nat) (good := fun _ => True) (Lx := fun x => L.set j (Own e m x.1 k x.2 news)) (v := fun x => .slice x.1 k x.2) hS ho hg (fun w hs => by
    have hown : Own e m ao 0 C [] w := hs.at_ j hj
    obtain ⟨a', c', w', hr, ho', hup, hg'⟩ := run_append_listM (cq := lc) hM hown t hl (hC w hs) h1 hN
    rw [Nat.zero_add, List.nil_append] at ho'
    rw [Nat.zero_add] at hr
    unfold opw
    simp only [execOp, resolve, invoke, builtin, Sem.run_bind, Sem.run_pure, Result.andThen_ok, List.map_toArray, List.map_cons, List.map_nil, ha, hb, hr]
    refine ⟨(a', c'), trivial, hs.change j hj fun f hf => ⟨fun k => f k ∨ fpO a' k, fun k hk => ?_, ?_, hup.mono fun k _ hk => Own.mem hf k hk⟩, rfl⟩
    · rcases hk with hk | hk
      · exact .inl hk
      · rcases hg' k hk with hg' | hg'
        · exact .inl (Own.mem hf _ hg')
        · exact .inr hg'
    · exact Own.St ho' fun q hq => .inr hq) (fun q _ => h q.1 q.2)
end
section
variable {α : Type} {k : RK α} {e e1 e2 : Nat} {a a2 : Option Addr} {n c c2 q : Nat} {hs : Nat → Hd} {xs : List α} {x : α} {w : World}
theorem OwnR.cellsAt (h : OwnR k e e1 a n c hs xs w) : CellsAt a (rowsV k hs xs).flatten w := fun i v hi => by
  obtain ⟨b, hb, hc⟩ := h.2.1.cell hi
  exact ⟨b, 0, hb, by rw [Nat.zero_add]; exact hc⟩
theorem rowsV_one (hk : k.Ok) : ∀ u ∈ (rowsV k hs xs).flatten, u.oneCell' = true := fun u hu => by
  obtain ⟨cs, hcs, hu⟩ := List.mem_flatten.1 hu
  unfold rowsV at hcs
  obtain ⟨i, hi, rfl⟩ := List.mem_mapIdx.1 hcs
  exact hk.one _ _ _ hu
theorem RdR.take {hs : Nat → Hd} (h : RdR k a n hs xs w) {j : Nat} (hj : j ≤ n) : RdR k a j hs (xs.take j) w :=
  ⟨by rw [List.length_take, h.1]; omega, by have := h.2.1; omega, fun i y hy => h.2.2 i y (by
    have := (List.getElem?_eq_some_iff.1 hy).1
    rw [List.length_take] at this
    rwa [List.getElem?_take_of_lt (by omega)] at hy)⟩
/-- The end of rows, to be read. -/
theorem slLoR {P : Program} {nn : Nat} {w0 : World} {M : Nat → Prop} {L : List (World → Prop)} {σ : Fr} {K : Ko} {ops : Array Oper} {S : World → Prop} {r : Sch} {i : Nat} {d : Nat} {t : TypeId} {p : String} {af : Array Edge} {g : Option (Nat × Bool)} {ao bo : Operand} {ty N C : Nat} {z : Int} {kk : IntKind} (j : Nat) (hk : k.Ok) (hj : L[j]? = some (OwnR k e e1 a N C hs xs)) (hE : Elt P ty k.m) (ho : ops[i]? = some ⟨some d, .slice ty ao (some bo) none none, t, p, af, g⟩) (hg : go ops σ g) (ha : ev σ ao = .slice a N C) (hb : ev σ bo = .int kk z) (h0 : 0 ≤ z) (h1 : z ≤ N) {zn : Nat} (hzn : z.toNat = zn)
    (h : ∀ q', (∀ w, OwnR k e e1 a N C hs xs w → RdR k q' (N - zn) (fun i => hs (i + zn)) (xs.drop zn) w) → RG P nn w0 M ops S L r (upd σ d (.slice q' (N - zn) (C - zn))) K) : RG P nn w0 M ops S L (.op .q i r) σ K := by
  subst hzn
  obtain ⟨e', he, hs'⟩ := hE
  refine rQ (v := .slice (if C = z.toNat then a else a.map (·.add (z.toNat * k.m))) (N - z.toNat) (C - z.toNat)) ho hg (fun w hw => ?_) (h _ fun w hw => ?_)
  · simp [execOp, ha, hb, Instr.sliceAt, Instr.slice, Instr.sliceBounds, Instr.sliceBound, asIntOf, he w, hs' w, h0, h1]
  · have hown : Own e k.m a N C (rowsV k hs xs).flatten w := hw.2.1
    have hrd := OwnR.rd hw hk
    obtain ⟨hl, hm, hc⟩ := hrd
    refine ⟨by rw [List.length_drop, hl], by omega, fun q x hx => ?_⟩
    rw [List.getElem?_drop] at hx
    have hlt := (List.getElem?_eq_some_iff.1 hx).1
    have hNC : N ≤ C := by
      rcases hown.2 with ⟨hv, h0'⟩ | ⟨g', cap, cur, hv, _, _, hnc, _⟩
      · omega
      · cases hv; exact hnc
    obtain ⟨⟨b, off, hq, hcell⟩, hkid⟩ := hc _ x hx
    rw [Nat.add_comm] at hkid hcell
    refine ⟨⟨b, off + z.toNat * k.m, ?_, fun j v hv => ?_⟩, hkid⟩
    · rw [if_neg (by omega), hq]; simp [add_addr]
    · have := hcell j v hv
      rw [Nat.add_mul] at this
      rwa [show off + z.toNat * k.m + q * k.m + j = off + (q * k.m + z.toNat * k.m) + j from by omega]
end
end Go.Proofs.Yteaahdakammffaa.V
/- The engine, part 15: rows that are turned round. No condition. -/
namespace Go.Proofs.Yteaahdakammffaa.V
open Go Go.RowKit
set_option linter.unusedVariables false
set_option linter.unusedSimpArgs false
theorem flat_one (f : Nat → List Int → Value) : ∀ (xs : List (List Int)), (xs.mapIdx fun i x => [f i x]).flatten = xs.mapIdx f := by
  intro xs
  induction xs generalizing f with
  | nil => rfl
  | cons x xs ih => simp only [List.mapIdx_cons, List.flatten_cons]; rw [ih fun i => f (i + 1)]; rfl
theorem RdR.flatM {q : Option Addr} {n : Nat} {hs : Nat → Hd} {xs : List (List Int)} {w : World} (h : RdR maK q n hs xs w) : CellsAt q (rowsV maK hs xs).flatten w := fun i v hi => by
  rw [show rowsV maK hs xs = xs.mapIdx fun i x => [(.slice (hs i).1 x.length (hs i).2 : Value)] from rfl, flat_one, List.getElem?_mapIdx] at hi
  cases hx : xs[i]? with
  | none => rw [hx] at hi; cases hi
  | some x =>
    rw [hx] at hi
    obtain ⟨⟨b, off, ha, hc⟩, -⟩ := h.2.2 i x hx
    have := hc 0 _ (show (maK.cells x (hs i))[0]? = some _ from rfl)
    simp only [Option.map_some, Option.some.injEq] at hi
    subst hi
    exact ⟨b, off, ha, by simpa [maK] using this⟩
section
variable {P : Program} {n : Nat} {w0 : World} {M : Nat → Prop} {L : List (World → Prop)} {σ : Fr} {K : Ko} {ops : Array Oper} {S : World → Prop} {r : Sch} {i : Nat}
variable {d : Nat} {t ty yt : TypeId} {p : String} {af : Array Edge} {g : Option (Nat × Bool)} {a b : Operand}
/-- The last rows of other rows, put into an empty slice. -/
theorem aplSx {e by_ C k lc s : Nat} {zc : List Value} {ao q : Option Addr} {Ha hs0 : Nat → Hd} {all : List (List Int)} (j : Nat) (hj : L[j]? = some (SubR e Ha all ao 0 C hs0 [])) (hC : Kn w0 M L (RdR maK q k (fun i => Ha (i + s)) (all.drop s))) (hk : (all.drop s).length = k) (hM : Mk P ty e 1 by_ zc)
    (hS : ∀ (u : Option Addr × Nat) w, Sep w0 M (L.set j (SubR e Ha all u.1 k u.2 (fun i => Ha (i + s)) (all.drop s))) w → S w)
    (ho : ops[i]? = some ⟨some d, .call ⟨.builtin .append, #[a, b], #[ty, ty]⟩, t, p, af, g⟩) (hg : go ops σ g) (ha : ev σ a = .slice ao 0 C) (hb : ev σ b = .slice q k lc) (hN : (0 + k) * by_ ≤ 140737488355328)
    (h : ∀ a' c', RG P n w0 M ops S (L.set j (SubR e Ha all a' k c' (fun i => Ha (i + s)) (all.drop s))) r (upd σ d (.slice a' k c')) K) : RG P n w0 M ops S L (.op .l i r) σ K := by
  have hjl : j < L.length := (List.getElem?_eq_some_iff.1 hj).1
  obtain ⟨news, hnews⟩ : ∃ v, v = (rowsV maK (fun i => Ha (i + s)) (all.drop s)).flatten := ⟨_, rfl⟩
  have hlen : news.length = k * 1 := by
    rw [hnews, show rowsV maK (fun i => Ha (i + s)) (all.drop s) = (all.drop s).mapIdx fun i x => [(.slice (Ha (i + s)).1 x.length (Ha (i + s)).2 : Value)] from rfl, flat_one, List.length_mapIdx, hk]; omega
  have key : ∀ (u : Option Addr × Nat) w, Own e 1 u.1 k u.2 news w → SubR e Ha all u.1 k u.2 (fun i => Ha (i + s)) (all.drop s) w := fun u w ho => by
    refine ⟨⟨hnews ▸ ho, hk⟩, fun i x hx => ⟨i + s, ?_, rfl⟩⟩
    rw [List.getElem?_drop] at hx
    rw [Nat.add_comm]; exact hx
  have hback : ∀ (u : Option Addr × Nat) w, Sep w0 M ((L.set j (Own e 1 ao 0 C [])).set j (Own e 1 u.1 k u.2 news)) w → Sep w0 M (L.set j (SubR e Ha all u.1 k u.2 (fun i => Ha (i + s)) (all.drop s))) w := fun u w h => by
    have h2 := h.imp (ψ := SubR e Ha all u.1 k u.2 (fun i => Ha (i + s)) (all.drop s)) j (List.getElem?_set_self (by simpa using hjl)) fun w hw => key u w hw
    rwa [List.set_set, List.set_set] at h2
  refine rPieces (L' := L.set j (Own e 1 ao 0 C [])) (fun w hs => hs.imp j hj fun w hw => hw.1.1) ?_
  refine aplX (k := k) (news := news) j (List.getElem?_set_self hjl) ?_ hlen ?_ hM (fun u w hs => hS u w (hback u w hs)) ho hg ha hb hN fun a' c' => rPieces (fun w hs => hback (a', c') w hs) (h a' c')
  · intro w hs
    have h1 := hs.imp (ψ := SubR e Ha all ao 0 C hs0 []) j (List.getElem?_set_self (by simpa using hjl)) fun w hw => ⟨⟨hw, rfl⟩, fun i x hx => by simp at hx⟩
    rw [List.set_set] at h1
    have h2 : L.set j (SubR e Ha all ao 0 C hs0 []) = L := by
      apply List.ext_getElem?
      intro i
      rw [List.getElem?_set]
      split
      · rename_i hi; subst hi; rw [hj]
      · rfl
    rw [h2] at h1
    rw [hnews]; exact (hC w h1).flatM
  · rw [hnews]; exact rowsV_one maK.ok
end
end Go.Proofs.Yteaahdakammffaa.V
