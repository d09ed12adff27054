/- Contracts of draws of deals. Their conditions stand in each. -/
import Derived.Test.YteaahdakammffaaZ14Ut
import Derived.Test.YteaahdakammffaaZ1Ut
import Derived.Test.YteaahdakammffaaZ2Ut
import Derived.Test.YteaahdakammffaaZ3Ut
import Derived.Test.YteaahdakammffaaZ5Ut
import Derived.Test.YteaahdakammffaaZ6Ut
import Derived.Test.YteaahdakammffaaZ10Ut
import Derived.Test.YteaahdakammffaaZ11Ut
import Derived.Test.YteaahdakammffaaRows
import Derived.Test.YteaahdakammffaaZ8Ut
namespace Go.Proofs.Yteaahdakammffaa
open Go Go.RowKit V
set_option linter.unusedVariables false
set_option linter.unusedSimpArgs false
set_option maxRecDepth 100000
theorem bsl23_6 (v0 v1 v2 v3 v4 v5 : Value) (h0 : v0.cells = #[v0]) (h1 : v1.cells = #[v1]) (h2 : v2.cells = #[v2]) (h3 : v3.cells = #[v3]) (h4 : v4.cells = #[v4]) (h5 : v5.cells = #[v5]) : ∀ w, (Instr.buildSlice 23 6 ([(0, v0), (1, v1), (2, v2), (3, v3), (4, v4), (5, v5)] : List (Nat × Value)).toArray).run Try.prog w = .ok (.slice (some ⟨w.heap.size, 0, none⟩) 6 6) (w.alloc (.cells ([v0, v1, v2, v3, v4, v5] : List Value).toArray 2)) := by
 intro w; simp [Instr.buildSlice, Instr.fill, Try.zeroValue2, Try.runUnderlying23, Try.sizeOf2, Value.cells_int, newRow, show Array.range 6 = #[0, 1, 2, 3, 4, 5] from by decide, h0, h1, h2, h3, h4, h5]
set_option maxHeartbeats 4000000 in
theorem spec_l16Draw_c (bk : Nat) (ca : Option Addr) (bs : List Int) (cc : Nat) (w : World) (M0 : Nat → Prop) (hs0 : Sep w M0 [srcP bk ca bs cc] w) (kcode : Kn w M0 [] (CellsAt ca (bs.map (Value.int .u8)))) (hok : okBytes bs) :
  Calls Try.prog 109 #[.pointer (some ⟨bk, 0, none⟩)] w (Ret fun v w' => ∃ x : Int × Option Addr × Nat × Nat × (Nat → Hd) × List (List Int) × Option Addr × Nat × Nat × List Int × Option Addr × Nat × Nat × List Int, v = .tuple #[.int .i64 x.1, .slice x.2.1 x.2.2.1 x.2.2.2.1, .slice x.2.2.2.2.2.2.1 x.2.2.2.2.2.2.2.1 x.2.2.2.2.2.2.2.2.1, .slice x.2.2.2.2.2.2.2.2.2.2.1 x.2.2.2.2.2.2.2.2.2.2.2.1 x.2.2.2.2.2.2.2.2.2.2.2.2.1] ∧ ((x.2.2.1 ≤ 3 ∧ ∀ i, i < x.2.2.2.2.2.1.length → (x.2.2.2.2.2.1.getD i []).length ≤ 4 ∧ (x.2.2.2.2.2.1.getD i []).length ≤ (x.2.2.2.2.1 i).2) ∧ x.2.2.2.2.2.2.2.1 ≤ 5 ∧ x.2.2.2.2.2.2.2.2.2.2.2.1 ≤ 60) ∧ Sep w M0 [srcP bk ca bs cc, RdR maK x.2.1 x.2.2.1 x.2.2.2.2.1 x.2.2.2.2.2.1, OwnI 2 x.2.2.2.2.2.2.1 x.2.2.2.2.2.2.2.1 x.2.2.2.2.2.2.2.2.1 x.2.2.2.2.2.2.2.2.2.1, OwnI 2 x.2.2.2.2.2.2.2.2.2.2.1 x.2.2.2.2.2.2.2.2.2.2.2.1 x.2.2.2.2.2.2.2.2.2.2.2.2.1 x.2.2.2.2.2.2.2.2.2.2.2.2.2] w') := by
 refine fn (M := M0) (rs := [.tmp 2, .tmp 3, .tmp 4, .tmp 5]) Try.func109 rfl Try.ntmps109 rfl rfl hs0 ?_
 refine hSeq ?_
 refine hReg (sq 0 (sq 1 (sq 2 (sq 3 sz)))) (by kernel_rfl) ?_
 refine asI rfl rfl rfl ?_
 refine asS rfl rfl rfl ?_
 refine asS rfl rfl rfl ?_
 refine asS rfl rfl rfl ?_
 refine rNil ?_
 refine qSeq rfl ?_
 refine hSeq ?_
 refine hReg (sq 0 (sl 1 (sl 2 (sq 3 sz)))) (by kernel_rfl) ?_
 refine mvP rfl rfl rfl ?_
 refine bsl trv1 rfl rfl rfl (bsl23_5 (.int .i64 _) (.int .i64 _) (.int .i64 _) (.int .i64 _) (.int .i64 _) rfl rfl rfl rfl rfl) (fun bkl1 hbkl1 => ?_)
 refine rPieces (L' := [srcP bk ca bs cc, blk bkl1 2 [.int .i64 0, .int .i64 0, .int .i64 0, .int .i64 1, .int .i64 2]]) (fun _ h => h.perm (pull (i := 1) rfl)) ?_
 refine callMK (α := Int) (Lf := [srcP bk ca bs cc, blk bkl1 2 [.int .i64 0, .int .i64 0, .int .i64 0, .int .i64 1, .int .i64 2]]) (Lr := []) (good := fun x => x ∈ ([.int .i64 0, .int .i64 0, .int .i64 0, .int .i64 1, .int .i64 2] : List Value).map toI) (φs := fun x => [srcP bk ca bs cc, blk bkl1 2 [.int .i64 0, .int .i64 0, .int .i64 0, .int .i64 1, .int .i64 2]]) (val := fun x => .int .i64 x) rfl Try.call132 trv1 rfl rfl (fun w M1 hs hk => src_pick bk ca bs cc bkl1 2 5 5 [.int .i64 0, .int .i64 0, .int .i64 0, .int .i64 1, .int .i64 2] w M1 hs (hk _ kcode) hok rfl rfl (by decide)) ?_
 intro x1 hx1
 try dsimp only at hx1
 refine rPieces (L' := [srcP bk ca bs cc, blk bkl1 2 [.int .i64 0, .int .i64 0, .int .i64 0, .int .i64 1, .int .i64 2]]) (fun _ h => h) ?_
 refine asI rfl rfl rfl ?_
 refine rNil ?_
 refine qSeq rfl ?_
 refine hSeq ?_
 have hvp : 0 ≤ x1 ∧ x1 ≤ 2 := by have h := hx1; simp only [List.map_cons, List.map_nil, toI, List.mem_cons, List.not_mem_nil, or_false] at h; omega
 refine hReg (sq 0 (sl 1 (sq 2 (sq 3 sz)))) (by kernel_rfl) ?_
 refine mvP rfl rfl rfl ?_
 refine callMK (α := Int) (Lf := [srcP bk ca bs cc]) (Lr := [blk bkl1 2 [.int .i64 0, .int .i64 0, .int .i64 0, .int .i64 1, .int .i64 2]]) (good := fun x => 0 ≤ x ∧ (x < (2 : Int) ∨ x = 0)) (φs := fun x => [srcP bk ca bs cc]) (val := fun x => .int .i64 x) rfl Try.call76 trv1 rfl rfl (fun w M1 hs hk => src_next bk ca bs cc (2 : Int) w M1 hs (hk _ kcode) hok) ?_
 intro x2 hx2
 try dsimp only at hx2
 refine rPieces (L' := [srcP bk ca bs cc, blk bkl1 2 [.int .i64 0, .int .i64 0, .int .i64 0, .int .i64 1, .int .i64 2]]) (fun _ h => h) ?_
 refine add rfl rfl rfl rfl (by omega) ?_
 refine asI rfl rfl rfl ?_
 refine rNil ?_
 refine qSeq rfl ?_
 refine hSeq ?_
 refine hReg (sl 0 (sq 1 (sq 2 (sq 3 (sl 4 (sq 5 sz)))))) (by kernel_rfl) ?_
 refine callS Try.call106 trv1 rfl rfl (fun w hs => spec_l06Standard_c  w ) ?_
 rintro bt3 hr3
 refine rVal (v' := .slice (some ⟨bt3, 0, none⟩) 8 8) rfl ?_
 refine mvI rfl rfl rfl ?_
 refine ixB el110 rfl rfl rfl rfl (by omega) (by omega) ?_
 refine fld fl109_0 rfl rfl rfl ?_
 refine ldl Try.isAgg2 (cB (v := .int .i64 (Hd.vHole x1)) 0 rfl (by rcases (show x1 = 0 ∨ x1 = 1 ∨ x1 = 2 by omega) with h | h | h <;> rw [h] <;> rfl)) trv rfl rfl rfl ?_
 refine asI rfl rfl rfl ?_
 refine rNil ?_
 refine qSeq rfl ?_
 refine hSeq ?_
 refine hPieces (L' := [srcP bk ca bs cc]) (fun _ h => h.sub ((.cons _ (.cons_cons _ (.cons _ .slnil))))) ?_
 have hsz : Hd.vHole x1 = 2 ∨ Hd.vHole x1 = 4 := by unfold Hd.vHole; split <;> omega
 have hps : 4 ≤ (2 + x2) * Hd.vHole x1 ∧ (2 + x2) * Hd.vHole x1 ≤ 12 := by rcases hsz with h | h <;> rw [h] <;> omega
 have ho52 : (Iso.others [] 52).length = 52 := by decide
 refine hReg (sq 0 (sq 1 (sq 2 (sq 3 (sq 4 (sq 5 (sl 6 (sq 7 (sl 8 (sq 9 sz)))))))))) (by kernel_rfl) ?_
 refine mvP rfl rfl rfl ?_
 refine mvI rfl rfl rfl ?_
 refine mvI rfl rfl rfl ?_
 refine mul rfl rfl rfl rfl (by omega) ?_
 refine add rfl rfl rfl rfl (by omega) ?_
 refine mvP rfl rfl rfl ?_
 refine callMK (α := Int) (Lf := [srcP bk ca bs cc]) (Lr := []) (good := fun x => 0 ≤ x ∧ (x < (4 : Int) ∨ x = 0)) (φs := fun x => [srcP bk ca bs cc]) (val := fun x => .int .i64 x) rfl Try.call76 trv1 rfl rfl (fun w M1 hs hk => src_next bk ca bs cc (4 : Int) w M1 hs (hk _ kcode) hok) ?_
 intro x4 hx4
 try dsimp only at hx4
 refine rPieces (L' := [srcP bk ca bs cc]) (fun _ h => h) ?_
 refine add rfl rfl rfl rfl (by omega) ?_
 refine callMR (α := Option Addr × Nat × Nat × List Int) (Lf := [srcP bk ca bs cc]) (Lr := []) (good := fun x => (x.2.1 : Int) = max 0 (min (((((2 + x2) * (Hd.vHole x1)) + 5) + x4)) ((Iso.others [] 52).length : Int))) (φs := fun x => [srcP bk ca bs cc, OwnI 2 x.1 x.2.1 x.2.2.1 x.2.2.2]) (val := fun x => .slice x.1 x.2.1 x.2.2.1) rfl Try.call122 trv1 rfl rfl (fun w M1 hs hk => spec_l02Deal_c bk ca bs cc (((((2 + x2) * (Hd.vHole x1)) + 5) + x4)) none 0 0 [] w M1 hs (hk _ (Kn.nil kcode)) hok (hk _ (fun w _ => RdI.nil _ w)) (by omega)) ?_
 rintro ⟨ay5, ny5, cy5, y5⟩ hr5
 try dsimp only at hr5
 refine rPieces (L' := [srcP bk ca bs cc, OwnI 2 ay5 ny5 cy5 y5]) (fun _ h => h) ?_
 refine rKnow (fun w hs => (show OwnI 2 ay5 ny5 cy5 y5 w from hs.at_ 1 rfl).lenz) (fun lenn3 => ?_)
 refine rVal (v' := .slice ay5 ny5 cy5) rfl ?_
 refine asS rfl rfl rfl ?_
 refine rNil ?_
 refine qSeq rfl ?_
 refine hSeq ?_
 refine hSeq ?_
 refine hReg (sq 0 (sl 1 (sq 2 sz))) (by kernel_rfl) ?_
 refine mvP rfl rfl rfl ?_
 refine callMK (α := Int) (Lf := [srcP bk ca bs cc]) (Lr := [OwnI 2 ay5 ny5 cy5 y5]) (good := fun x => 0 ≤ x ∧ (x < (3 : Int) ∨ x = 0)) (φs := fun x => [srcP bk ca bs cc]) (val := fun x => .int .i64 x) rfl Try.call76 trv1 rfl rfl (fun w M1 hs hk => src_next bk ca bs cc (3 : Int) w M1 hs (hk _ kcode) hok) ?_
 intro x6 hx6
 try dsimp only at hx6
 refine rPieces (L' := [srcP bk ca bs cc, OwnI 2 ay5 ny5 cy5 y5]) (fun _ h => h) ?_
 refine eql rfl rfl rfl rfl ?_
 refine rNil ?_
 refine qSeq rfl ?_
 refine hCut (α := Nat × Hd × List Int) (fun x => x.1 = ny5 ∧ x.2.2.length = x.1) (fun x => [srcP bk ca bs cc, OwnI 2 x.2.1.1 x.1 x.2.1.2 x.2.2]) (fun x => [(0, .pointer (some ⟨bk, 0, none⟩)), (6, .int .i64 x1), (7, .int .i64 (2 + x2)), (8, .int .i64 (Hd.vHole x1)), (9, .slice x.2.1.1 x.1 x.2.1.2)]) ?_ ?_
 ·
  refine hIfD rfl (fun c1 => ?_) (fun c1 => ?_)
  ·
   replace c1 : x6 = 0 := c1
   refine hSeq ?_
   refine hReg (sl 0 (sq 1 sz)) (by kernel_rfl) ?_
   refine bsl trv1 rfl rfl rfl (bsl23_0) (fun bkl4 hbkl4 => ?_)
   refine asS rfl rfl rfl ?_
   refine rNil ?_
   refine qSeq rfl ?_
   refine hSeq ?_
   refine hSeq ?_
   refine hReg (sq 0 sz) (by kernel_rfl) ?_
   refine asI rfl rfl rfl ?_
   refine rNil ?_
   refine qSeq rfl ?_
   refine hBlk ?_
   refine hPieces (fun _ h => Sep.litI h 0 [] rfl rfl rfl) ?_
   refine hLoop (α := Nat × Nat × Hd × List Int) (fun x => x.1 ≤ 52 ∧ (x.2.1 = 4 * (x.1 / 8) + min (x.1 % 8) 4 ∧ x.2.2.2.length = x.2.1)) (fun x => 52 - x.1) (fun x => [OwnI 2 x.2.2.1.1 x.2.1 x.2.2.1.2 x.2.2.2, srcP bk ca bs cc, OwnI 2 ay5 ny5 cy5 y5]) (fun x => [(0, .pointer (some ⟨bk, 0, none⟩)), (6, .int .i64 x1), (7, .int .i64 (2 + x2)), (8, .int .i64 (Hd.vHole x1)), (9, .slice ay5 ny5 cy5), (10, .slice x.2.2.1.1 x.2.1 x.2.2.1.2), (11, .int .i64 (x.1 : Int))]) ((0, 0, ((some ⟨bkl4, 0, none⟩), 0), [])) ⟨by dsimp only; omega, by dsimp only; decide, rfl⟩ (fun _ h => h.pick [0, 0, 0]) ⟨rfl, rfl, rfl, rfl, rfl, rfl, rfl, trivial⟩ ?_
   rintro ⟨k, fq, fh, fo⟩ τ1 ⟨hk, hfq, hfo⟩
   dsimp only at hk hfq hfo
   refine hRe [(0, .pointer (some ⟨bk, 0, none⟩)), (6, .int .i64 x1), (7, .int .i64 (2 + x2)), (8, .int .i64 (Hd.vHole x1)), (9, .slice ay5 ny5 cy5), (10, .slice fh.1 fq fh.2), (11, .int .i64 (k : Int))] [OwnI 2 fh.1 fq fh.2 fo, srcP bk ca bs cc, OwnI 2 ay5 ny5 cy5 y5] rfl rfl ?_
   refine hSeq ?_
   refine hSeq ?_
   refine hReg (sq 0 (sq 1 sz)) (by kernel_rfl) ?_
   refine mvI rfl rfl rfl ?_
   refine lss rfl rfl rfl rfl ?_
   refine rNil ?_
   refine qSeq rfl ?_
   refine hIfD rfl (fun c2 => ?_) (fun c2 => ?_)
   ·
    replace c2 : (k : Int) < 52 := c2
    refine hSkip ?_
    refine qSeq rfl ?_
    refine hSeq ?_
    refine hBlk ?_
    refine hSeq ?_
    refine hReg (sq 0 (sq 1 (sq 2 (sq 3 sz)))) (by kernel_rfl) ?_
    refine mvI rfl rfl rfl ?_
    refine quo rfl rfl rfl rfl (by omega) ?_
    refine rem rfl rfl rfl rfl (by omega) ?_
    refine eql rfl rfl rfl rfl ?_
    refine rNil ?_
    refine qSeq rfl ?_
    refine hIfD rfl (fun c3 => ?_) (fun c3 => ?_)
    ·
     replace c3 : ((((k : Int) / 4)) % 2) = 0 := c3
     refine hReg (sq 0 (sq 1 (sl 2 (sl 3 (sq 4 sz))))) (by kernel_rfl) ?_
     refine mvS rfl rfl rfl ?_
     refine mvI rfl rfl rfl ?_
     refine bsl trv1 rfl rfl rfl (bsl23_1 (.int .i64 _) rfl) (fun bkl5 hbkl5 => ?_)
     refine aplI (N := fq) (x := (k : Int)) 1 0 rfl rfl mk23 trv1 rfl rfl rfl rfl (by omega) ?_
     intro aq7 cq7
     refine rKnow (fun w hs => (show OwnI 2 aq7 (fq + 1) cq7 ((fo ++ [(k : Int)])) w from hs.at_ 1 rfl).capz) (fun lcaq7 => ?_)
     refine asS rfl rfl rfl ?_
     refine rNil ?_
     refine qSeq rfl ?_
     refine hReg (sq 0 (sq 1 (sq 2 sz))) (by kernel_rfl) ?_
     refine mvI rfl rfl rfl ?_
     refine add rfl rfl rfl rfl (by omega) ?_
     refine asI rfl rfl rfl ?_
     refine rNil ?_
     exact qNext rfl ((k + 1, (fq + 1), (aq7, cq7), (fo ++ [(k : Int)]))) (by dsimp only; omega) ⟨by dsimp only; omega, by dsimp only; omega, by dsimp only; first | omega | (rw [List.length_append]; simp; omega)⟩ ⟨rfl, rfl, rfl, rfl, rfl, rfl, rfl, trivial⟩ (fun _ h => h.pick [1, 1, 1])
    ·
     replace c3 : ¬ (((((k : Int) / 4)) % 2) = 0) := c3
     refine hSkip ?_
     refine qSeq rfl ?_
     refine hReg (sq 0 (sq 1 (sq 2 sz))) (by kernel_rfl) ?_
     refine mvI rfl rfl rfl ?_
     refine add rfl rfl rfl rfl (by omega) ?_
     refine asI rfl rfl rfl ?_
     refine rNil ?_
     exact qNext rfl ((k + 1, fq, (fh.1, fh.2), fo)) (by dsimp only; omega) ⟨by dsimp only; omega, by dsimp only; omega, by dsimp only; first | omega | (rw [List.length_append]; simp; omega)⟩ ⟨rfl, rfl, rfl, rfl, rfl, rfl, rfl, trivial⟩ (fun _ h => h.pick [0, 0, 0])
   ·
    replace c2 : ¬ ((k : Int) < 52) := c2
    refine hExit rfl ?_
    refine qSeq rfl ?_
    refine hReg (sq 0 (sq 1 (sl 2 (sq 3 (sq 4 (sq 5 (sq 6 sz))))))) (by kernel_rfl) ?_
    refine mvP rfl rfl rfl ?_
    refine mvS rfl rfl rfl ?_
    refine rPieces (L' := [srcP bk ca bs cc, OwnI 2 fh.1 fq fh.2 fo, OwnI 2 ay5 ny5 cy5 y5]) (fun _ h => h.perm (pull (i := 1) rfl)) ?_
    refine callMR (α := Option Addr × Nat × Nat × List Int) (Lf := [srcP bk ca bs cc]) (Lr := [OwnI 2 fh.1 fq fh.2 fo, OwnI 2 ay5 ny5 cy5 y5]) (good := fun x => x.2.2.2.Perm fo ∧ x.2.1 = fq) (φs := fun x => [srcP bk ca bs cc, OwnI 2 x.1 x.2.1 x.2.2.1 x.2.2.2]) (val := fun x => .slice x.1 x.2.1 x.2.2.1) rfl Try.call78 trv1 rfl rfl (fun w M1 hs hk => spec_l02Pick_c bk ca bs cc fh.1 fq fh.2 fo w M1 hs (hk _ (Kn.nil kcode)) hok (hk _ ((Kn.at_ 0 rfl).imp fun _ h => OwnI.rd h)) (by first | omega | (simp only [List.length_cons, List.length_nil]; omega))) ?_
    rintro ⟨ay8, ny8, cy8, y8⟩ hr8
    try dsimp only at hr8
    refine rPieces (L' := [srcP bk ca bs cc, OwnI 2 ay8 ny8 cy8 y8, OwnI 2 fh.1 fq fh.2 fo, OwnI 2 ay5 ny5 cy5 y5]) (fun _ h => h) ?_
    refine rKnow (fun w hs => (show OwnI 2 ay8 ny8 cy8 y8 w from hs.at_ 1 rfl).lenz) (fun lenn6 => ?_)
    refine rVal (v' := .slice ay8 ny8 cy8) rfl ?_
    refine mvS rfl rfl rfl ?_
    refine lenS Try.runUnderlying23 rfl rfl rfl ?_
    refine slHiO (zn := ny5) 1 rfl el23 rfl rfl rfl rfl (by omega) (by omega) rfl (by omega) ?_
    refine asS rfl rfl rfl ?_
    refine rNil ?_
    exact qMeet rfl ((ny5, (ay8, cy8), (y8.take ny5))) ⟨by first | rfl | (dsimp only; omega), by first | (dsimp only; omega) | (dsimp only; rw [List.length_take]; omega)⟩ ⟨rfl, rfl, rfl, rfl, rfl, trivial⟩ (fun _ h => h.pick [0, 0])
  ·
   replace c1 : ¬ (x6 = 0) := c1
   refine hSkip ?_
   exact qMeet rfl ((ny5, (ay5, cy5), y5)) ⟨by first | rfl | (dsimp only; omega), by first | (dsimp only; omega) | (dsimp only; rw [List.length_take]; omega)⟩ ⟨rfl, rfl, rfl, rfl, rfl, trivial⟩ (fun _ h => h.pick [0, 0])
 ·
  rintro ⟨qc, hc, rc⟩ τj ⟨hqc, hrc⟩
  dsimp only at hqc hrc
  refine qSeq rfl ?_
  refine hRe [(0, .pointer (some ⟨bk, 0, none⟩)), (6, .int .i64 x1), (7, .int .i64 (2 + x2)), (8, .int .i64 (Hd.vHole x1)), (9, .slice hc.1 qc hc.2)] [srcP bk ca bs cc, OwnI 2 hc.1 qc hc.2 rc] rfl rfl ?_
  refine hKnow (fun w hs => (show OwnI 2 hc.1 qc hc.2 rc w from hs.at_ 1 rfl).capz) (fun hcap => ?_)
  refine hSeq ?_
  refine hReg (sl 0 (sq 1 sz)) (by kernel_rfl) ?_
  refine bsl trv1 rfl rfl rfl (bsl22_0) (fun bkl7 hbkl7 => ?_)
  refine asS rfl rfl rfl ?_
  refine rNil ?_
  refine qSeq rfl ?_
  refine hSeq ?_
  refine hSeq ?_
  refine hReg (sq 0 sz) (by kernel_rfl) ?_
  refine asI rfl rfl rfl ?_
  refine rNil ?_
  refine qSeq rfl ?_
  refine hBlk ?_
  refine hPieces (fun _ h => Sep.litR maK 23 2 (fun _ => (none, 0)) h 0 rfl) ?_
  refine hLoop (α := Nat × Nat × (Hd × (Nat → Hd)) × List (List Int)) (fun x => (x.1 : Int) ≤ (2 + x2) ∧ (x.2.1 = x.1 ∧ (x.2.2.2.length = x.2.1 ∧ ∀ j, j < x.2.2.2.length → (x.2.2.2.getD j []).length ≤ 4 ∧ 2 ≤ (x.2.2.2.getD j []).length))) (fun x => ((2 + x2)).toNat - x.1) (fun x => [OwnR maK 23 2 x.2.2.1.1.1 x.2.1 x.2.2.1.1.2 x.2.2.1.2 x.2.2.2, srcP bk ca bs cc, OwnI 2 hc.1 qc hc.2 rc]) (fun x => [(0, .pointer (some ⟨bk, 0, none⟩)), (6, .int .i64 x1), (7, .int .i64 (2 + x2)), (8, .int .i64 (Hd.vHole x1)), (9, .slice hc.1 qc hc.2), (12, .slice x.2.2.1.1.1 x.2.1 x.2.2.1.1.2), (13, .int .i64 (x.1 : Int))]) ((0, 0, (((some ⟨bkl7, 0, none⟩), 0), (fun _ => (none, 0))), [])) ⟨by dsimp only; omega, rfl, rfl, fun j hj => absurd hj (Nat.not_lt_zero j)⟩ (fun _ h => h.pick [0, 0, 0]) ⟨rfl, rfl, rfl, rfl, rfl, rfl, rfl, trivial⟩ ?_
  rintro ⟨i, nn, hh, oo⟩ τ2 ⟨hi, hnn, hool, hor⟩
  dsimp only at hi hnn hool hor
  refine hRe [(0, .pointer (some ⟨bk, 0, none⟩)), (6, .int .i64 x1), (7, .int .i64 (2 + x2)), (8, .int .i64 (Hd.vHole x1)), (9, .slice hc.1 qc hc.2), (12, .slice hh.1.1 nn hh.1.2), (13, .int .i64 (i : Int))] [OwnR maK 23 2 hh.1.1 nn hh.1.2 hh.2 oo, srcP bk ca bs cc, OwnI 2 hc.1 qc hc.2 rc] rfl rfl ?_
  refine hSeq ?_
  refine hSeq ?_
  refine hReg (sq 0 (sq 1 (sq 2 sz))) (by kernel_rfl) ?_
  refine mvI rfl rfl rfl ?_
  refine mvI rfl rfl rfl ?_
  refine lss rfl rfl rfl rfl ?_
  refine rNil ?_
  refine qSeq rfl ?_
  refine hIfD rfl (fun c4 => ?_) (fun c4 => ?_)
  ·
   replace c4 : (i : Int) < (2 + x2) := c4
   have him : 0 ≤ (i : Int) * (Hd.vHole x1) ∧ (i : Int) * (Hd.vHole x1) + (Hd.vHole x1) ≤ (2 + x2) * (Hd.vHole x1) := by rcases hsz with h | h <;> rw [h] <;> omega
   refine hSkip ?_
   refine qSeq rfl ?_
   refine hSeq ?_
   refine hBlk ?_
   refine hReg (sq 0 (sq 1 (sq 2 (sq 3 (sq 4 (sq 5 (sq 6 (sq 7 (sq 8 (sq 9 (sq 10 (sl 11 (sl 12 (sl 13 (sq 14 sz))))))))))))))) (by kernel_rfl) ?_
   refine mvS rfl rfl rfl ?_
   refine mvS rfl rfl rfl ?_
   refine mvI rfl rfl rfl ?_
   refine mvI rfl rfl rfl ?_
   refine mul rfl rfl rfl rfl (by omega) ?_
   refine mvI rfl rfl rfl ?_
   refine mvI rfl rfl rfl ?_
   refine mul rfl rfl rfl rfl (by omega) ?_
   refine mvI rfl rfl rfl ?_
   refine add rfl rfl rfl rfl (by omega) ?_
   refine slLHl (zn := ((((i : Int) * (Hd.vHole x1))).toNat)) (un := (((((i : Int) * (Hd.vHole x1)) + (Hd.vHole x1))).toNat)) 2 rfl el23 rfl rfl rfl rfl rfl (by omega) (by omega) (by omega) (by omega) (by omega) ?_
   intro ae10 e10
   refine callS Try.call71 trv1 rfl rfl (fun w hs => spec_l01Own_c _ ((((((i : Int) * (Hd.vHole x1)) + (Hd.vHole x1))).toNat - (((i : Int) * (Hd.vHole x1))).toNat)) ((hc.2 - (((i : Int) * (Hd.vHole x1))).toNat)) _ w (e10 w hs) (by omega)) ?_
   rintro ⟨ay11, ny11, cy11, y11⟩ hr11
   dsimp only at hr11
   subst y11
   refine rPieces (L' := [OwnI 2 ay11 ny11 cy11 ((((((rc.drop ((((i : Int) * (Hd.vHole x1))).toNat)).take (((((i : Int) * (Hd.vHole x1)) + (Hd.vHole x1))).toNat - (((i : Int) * (Hd.vHole x1))).toNat)))))), OwnR maK 23 2 hh.1.1 nn hh.1.2 hh.2 oo, srcP bk ca bs cc, OwnI 2 hc.1 qc hc.2 rc]) (fun _ h => h) ?_
   refine rKnow (fun w hs => (show OwnI 2 ay11 ny11 cy11 ((((((rc.drop ((((i : Int) * (Hd.vHole x1))).toNat)).take (((((i : Int) * (Hd.vHole x1)) + (Hd.vHole x1))).toNat - (((i : Int) * (Hd.vHole x1))).toNat)))))) w from hs.at_ 0 rfl).lenz) (fun lenn8 => ?_)
   refine rKnow (fun w hs => (show OwnI 2 ay11 ny11 cy11 ((((((rc.drop ((((i : Int) * (Hd.vHole x1))).toNat)).take (((((i : Int) * (Hd.vHole x1)) + (Hd.vHole x1))).toNat - (((i : Int) * (Hd.vHole x1))).toNat)))))) w from hs.at_ 0 rfl).capz) (fun lcpn8 => ?_)
   refine rVal (v' := .slice ay11 ny11 cy11) rfl ?_
   refine bsl trv1 rfl rfl rfl (bsl22_1 (.slice _ _ _) rfl) (fun bkl9 hbkl9 => ?_)
   refine apR (hd := (ay11, cy11)) (x := (((((rc.drop ((((i : Int) * (Hd.vHole x1))).toNat)).take (((((i : Int) * (Hd.vHole x1)) + (Hd.vHole x1))).toNat - (((i : Int) * (Hd.vHole x1))).toNat)))))) 2 1 0 maK.ok rfl rfl rfl (fun h => by first | rfl | (dsimp only at h; rw [h]; rfl) | (rw [h]; rfl) | exact congrArg (fun m => [Value.slice _ m _]) h) mk22 trv1 rfl rfl rfl rfl (by omega) ?_
   intro aq12 cq12
   refine asS rfl rfl rfl ?_
   refine rNil ?_
   refine qSeq rfl ?_
   refine hReg (sq 0 (sq 1 (sq 2 sz))) (by kernel_rfl) ?_
   refine mvI rfl rfl rfl ?_
   refine add rfl rfl rfl rfl (by omega) ?_
   refine asI rfl rfl rfl ?_
   refine rNil ?_
   exact qNext rfl ((i + 1, (nn + 1), ((aq12, cq12), (hset hh.2 oo.length (ay11, cy11))), (oo ++ [(((((rc.drop ((((i : Int) * (Hd.vHole x1))).toNat)).take (((((i : Int) * (Hd.vHole x1)) + (Hd.vHole x1))).toNat - (((i : Int) * (Hd.vHole x1))).toNat)))))]))) (by dsimp only; omega) ⟨by dsimp only; omega, by dsimp only; omega, by dsimp only; rw [List.length_append]; simp; omega, Hd.rows_snoc hor (by rw [List.length_take, List.length_drop]; omega)⟩ ⟨rfl, rfl, rfl, rfl, rfl, rfl, rfl, trivial⟩ (fun _ h => h.pick [0, 1, 1])
  ·
   replace c4 : ¬ ((i : Int) < (2 + x2)) := c4
   refine hExit rfl ?_
   refine qSeq rfl ?_
   refine hSeq ?_
   refine hReg (sq 0 (sq 1 (sq 2 (sq 3 (sq 4 (sq 5 sz)))))) (by kernel_rfl) ?_
   refine mvS rfl rfl rfl ?_
   refine mvI rfl rfl rfl ?_
   refine mvI rfl rfl rfl ?_
   refine mul rfl rfl rfl rfl (by omega) ?_
   refine slLol (zn := (((2 + x2) * (Hd.vHole x1))).toNat) 2 rfl el23 rfl rfl rfl rfl (by omega) (by omega) rfl ?_
   intro ae13 e13
   refine asS rfl rfl rfl ?_
   refine rNil ?_
   refine qSeq rfl ?_
   refine hSeq ?_
   refine hReg (sq 0 (sl 1 (sl 2 (sq 3 sz)))) (by kernel_rfl) ?_
   refine mvP rfl rfl rfl ?_
   refine bsl trv1 rfl rfl rfl (bsl23_6 (.int .i64 _) (.int .i64 _) (.int .i64 _) (.int .i64 _) (.int .i64 _) (.int .i64 _) rfl rfl rfl rfl rfl rfl) (fun bkl10 hbkl10 => ?_)
   refine rPieces (L' := [srcP bk ca bs cc, blk bkl10 2 [.int .i64 5, .int .i64 4, .int .i64 4, .int .i64 5, .int .i64 4, .int .i64 4], OwnR maK 23 2 hh.1.1 nn hh.1.2 hh.2 oo, OwnI 2 hc.1 qc hc.2 rc]) (fun _ h => h.perm (pull (i := 2) rfl)) ?_
   refine callMK (α := Int) (Lf := [srcP bk ca bs cc, blk bkl10 2 [.int .i64 5, .int .i64 4, .int .i64 4, .int .i64 5, .int .i64 4, .int .i64 4]]) (Lr := [OwnR maK 23 2 hh.1.1 nn hh.1.2 hh.2 oo, OwnI 2 hc.1 qc hc.2 rc]) (good := fun x => x ∈ ([.int .i64 5, .int .i64 4, .int .i64 4, .int .i64 5, .int .i64 4, .int .i64 4] : List Value).map toI) (φs := fun x => [srcP bk ca bs cc, blk bkl10 2 [.int .i64 5, .int .i64 4, .int .i64 4, .int .i64 5, .int .i64 4, .int .i64 4]]) (val := fun x => .int .i64 x) rfl Try.call132 trv1 rfl rfl (fun w M1 hs hk => src_pick bk ca bs cc bkl10 2 6 6 [.int .i64 5, .int .i64 4, .int .i64 4, .int .i64 5, .int .i64 4, .int .i64 4] w M1 hs (hk _ kcode) hok rfl rfl (by decide)) ?_
   intro x14 hx14
   try dsimp only at hx14
   refine rPieces (L' := [srcP bk ca bs cc, blk bkl10 2 [.int .i64 5, .int .i64 4, .int .i64 4, .int .i64 5, .int .i64 4, .int .i64 4], OwnR maK 23 2 hh.1.1 nn hh.1.2 hh.2 oo, OwnI 2 hc.1 qc hc.2 rc]) (fun _ h => h) ?_
   refine asI rfl rfl rfl ?_
   refine rNil ?_
   refine qSeq rfl ?_
   refine hSeq ?_
   refine hSeq ?_
   have hnp : 3 ≤ x14 ∧ x14 ≤ 5 := by have h := hx14; simp only [List.map_cons, List.map_nil, toI, List.mem_cons, List.not_mem_nil, or_false] at h; omega
   refine hCut (α := Bool) (fun b => True) (fun b => [srcP bk ca bs cc, blk bkl10 2 [.int .i64 5, .int .i64 4, .int .i64 4, .int .i64 5, .int .i64 4, .int .i64 4], OwnR maK 23 2 hh.1.1 nn hh.1.2 hh.2 oo, OwnI 2 hc.1 qc hc.2 rc]) (fun b => [(0, .pointer (some ⟨bk, 0, none⟩)), (6, .int .i64 x1), (12, .slice hh.1.1 nn hh.1.2), (14, .slice ae13 ((qc - (((2 + x2) * (Hd.vHole x1))).toNat)) ((hc.2 - (((2 + x2) * (Hd.vHole x1))).toNat))), (15, .int .i64 x14), (95, .bool b)]) ?_ ?_
   ·
    refine hReg (sq 0 (sq 1 (sq 2 (sq 3 (sl 4 (sq 5 (sq 6 sz))))))) (by kernel_rfl) ?_
    refine mvI rfl rfl rfl ?_
    refine eql rfl rfl rfl rfl ?_
    refine mvB rfl rfl rfl ?_
    refine rBoolD (d := 91) rfl (fun g5 => ?_) (fun g5 => ?_)
    ·
     replace g5 : x1 = 0 := g5
     refine mvP rfl rfl rfl ?_
     refine callMK (α := Int) (Lf := [srcP bk ca bs cc]) (Lr := [blk bkl10 2 [.int .i64 5, .int .i64 4, .int .i64 4, .int .i64 5, .int .i64 4, .int .i64 4], OwnR maK 23 2 hh.1.1 nn hh.1.2 hh.2 oo, OwnI 2 hc.1 qc hc.2 rc]) (good := fun x => 0 ≤ x ∧ (x < (40 : Int) ∨ x = 0)) (φs := fun x => [srcP bk ca bs cc]) (val := fun x => .int .i64 x) rfl Try.call76 trv1 rfl rfl (fun w M1 hs hk => src_next bk ca bs cc (40 : Int) w M1 hs (hk _ kcode) hok) ?_
     intro x15 hx15
     try dsimp only at hx15
     refine rPieces (L' := [srcP bk ca bs cc, blk bkl10 2 [.int .i64 5, .int .i64 4, .int .i64 4, .int .i64 5, .int .i64 4, .int .i64 4], OwnR maK 23 2 hh.1.1 nn hh.1.2 hh.2 oo, OwnI 2 hc.1 qc hc.2 rc]) (fun _ h => h) ?_
     refine eql rfl rfl rfl rfl ?_
     refine pickB rfl rfl rfl rfl ?_
     refine rNil ?_
     exact qMeet rfl ((decide (x15 = 0))) trivial ⟨rfl, rfl, rfl, rfl, rfl, rfl, trivial⟩ (fun _ h => h.pick [0, 0, 0, 0])
    ·
     replace g5 : ¬ (x1 = 0) := g5
     refine rSkipQ rfl rfl ?_
     refine rSkipL trv rfl rfl ?_
     refine rSkipQ rfl rfl ?_
     refine pickB rfl rfl rfl rfl ?_
     refine rNil ?_
     exact qMeet rfl false trivial ⟨rfl, rfl, rfl, rfl, rfl, rfl, trivial⟩ (fun _ h => h.pick [0, 0, 0, 0])
   ·
    rintro b τj -
    refine qSeq rfl ?_
    refine hRe [(0, .pointer (some ⟨bk, 0, none⟩)), (6, .int .i64 x1), (12, .slice hh.1.1 nn hh.1.2), (14, .slice ae13 ((qc - (((2 + x2) * (Hd.vHole x1))).toNat)) ((hc.2 - (((2 + x2) * (Hd.vHole x1))).toNat))), (15, .int .i64 x14), (95, .bool b)] [srcP bk ca bs cc, blk bkl10 2 [.int .i64 5, .int .i64 4, .int .i64 4, .int .i64 5, .int .i64 4, .int .i64 4], OwnR maK 23 2 hh.1.1 nn hh.1.2 hh.2 oo, OwnI 2 hc.1 qc hc.2 rc] rfl rfl ?_
    refine hCut (α := Int) (fun m => 3 ≤ m ∧ m ≤ 5) (fun m => [srcP bk ca bs cc, blk bkl10 2 [.int .i64 5, .int .i64 4, .int .i64 4, .int .i64 5, .int .i64 4, .int .i64 4], OwnR maK 23 2 hh.1.1 nn hh.1.2 hh.2 oo, OwnI 2 hc.1 qc hc.2 rc]) (fun m => [(0, .pointer (some ⟨bk, 0, none⟩)), (6, .int .i64 x1), (12, .slice hh.1.1 nn hh.1.2), (14, .slice ae13 ((qc - (((2 + x2) * (Hd.vHole x1))).toNat)) ((hc.2 - (((2 + x2) * (Hd.vHole x1))).toNat))), (15, .int .i64 m)]) ?_ ?_
    ·
     refine hIf rfl (fun c6 => ?_) (fun c6 => ?_)
     ·
      replace c6 : b = true := c6
      refine hReg (sq 0 sz) (by kernel_rfl) ?_
      refine asI rfl rfl rfl ?_
      refine rNil ?_
      exact qMeet rfl 3 (by omega) ⟨rfl, rfl, rfl, rfl, rfl, trivial⟩ (fun _ h => h.pick [0, 0, 0, 0])
     ·
      replace c6 : b = false := c6
      refine hSkip ?_
      exact qMeet rfl x14 (by omega) ⟨rfl, rfl, rfl, rfl, rfl, trivial⟩ (fun _ h => h.pick [0, 0, 0, 0])
    ·
     rintro m τj hm
     refine qSeq rfl ?_
     refine hRe [(0, .pointer (some ⟨bk, 0, none⟩)), (6, .int .i64 x1), (12, .slice hh.1.1 nn hh.1.2), (14, .slice ae13 ((qc - (((2 + x2) * (Hd.vHole x1))).toNat)) ((hc.2 - (((2 + x2) * (Hd.vHole x1))).toNat))), (15, .int .i64 m)] [srcP bk ca bs cc, blk bkl10 2 [.int .i64 5, .int .i64 4, .int .i64 4, .int .i64 5, .int .i64 4, .int .i64 4], OwnR maK 23 2 hh.1.1 nn hh.1.2 hh.2 oo, OwnI 2 hc.1 qc hc.2 rc] rfl rfl ?_
     refine hSeq ?_
     refine hPieces (L' := [OwnI 2 hc.1 qc hc.2 rc, srcP bk ca bs cc, blk bkl10 2 [.int .i64 5, .int .i64 4, .int .i64 4, .int .i64 5, .int .i64 4, .int .i64 4], OwnR maK 23 2 hh.1.1 nn hh.1.2 hh.2 oo]) (fun _ h => h.perm (pull (i := 3) rfl)) ?_
     refine hPieces (L' := [srcP bk ca bs cc, OwnI 2 hc.1 qc hc.2 rc, blk bkl10 2 [.int .i64 5, .int .i64 4, .int .i64 4, .int .i64 5, .int .i64 4, .int .i64 4], OwnR maK 23 2 hh.1.1 nn hh.1.2 hh.2 oo]) (fun _ h => h.perm (pull (i := 1) rfl)) ?_
     refine hPieces (L' := [OwnR maK 23 2 hh.1.1 nn hh.1.2 hh.2 oo, srcP bk ca bs cc, OwnI 2 hc.1 qc hc.2 rc, blk bkl10 2 [.int .i64 5, .int .i64 4, .int .i64 4, .int .i64 5, .int .i64 4, .int .i64 4]]) (fun _ h => h.perm (pull (i := 3) rfl)) ?_
     refine hPieces (L' := [blk bkl10 2 [.int .i64 5, .int .i64 4, .int .i64 4, .int .i64 5, .int .i64 4, .int .i64 4], OwnR maK 23 2 hh.1.1 nn hh.1.2 hh.2 oo, srcP bk ca bs cc, OwnI 2 hc.1 qc hc.2 rc]) (fun _ h => h.perm (pull (i := 3) rfl)) ?_
     refine hDraw (Ls := [OwnR maK 23 2 hh.1.1 nn hh.1.2 hh.2 oo, srcP bk ca bs cc, OwnI 2 hc.1 qc hc.2 rc]) (by kernel_rfl) (sq 0 (sq 1 (sq 2 (sq 4 (sq 5 (sl 3 (sl 6 (sq 7 (sq 8 sz))))))))) (by kernel_rfl) (.cons _ (.cons_cons _ (.cons_cons _ (.cons_cons _ .slnil)))) ?_
     refine mvS rfl rfl rfl ?_
     refine mvI rfl rfl rfl ?_
     refine slHiRd (zn := ((m).toNat)) (Kn.drop (k := 1) e13) (by omega) el23 rfl rfl rfl rfl (by omega) (by omega) rfl (fun e16 => ?_)
     refine mvS rfl rfl rfl ?_
     refine slLoRd (zn := 5) (Kn.drop (k := 1) e13) (by omega) el23 rfl rfl rfl rfl (by omega) (by omega) rfl ?_
     intro ae17 e17
     refine callS Try.call71 (by exact (fun _ _ h => h.pick [2, 2, 2])) rfl rfl (fun w hs => spec_l01Own_c _ ((m).toNat) ((hc.2 - (((2 + x2) * (Hd.vHole x1))).toNat)) _ w (e16 w hs) (by omega)) ?_
     rintro ⟨ay18, ny18, cy18, y18⟩ hr18
     dsimp only at hr18
     subst y18
     refine rPieces (L' := [OwnI 2 ay18 ny18 cy18 (((((((rc.drop ((((2 + x2) * (Hd.vHole x1))).toNat))).take ((m).toNat)))))), blk bkl10 2 [.int .i64 5, .int .i64 4, .int .i64 4, .int .i64 5, .int .i64 4, .int .i64 4], OwnR maK 23 2 hh.1.1 nn hh.1.2 hh.2 oo, srcP bk ca bs cc, OwnI 2 hc.1 qc hc.2 rc]) (fun _ h => h) ?_
     refine rKnow (fun w hs => (show OwnI 2 ay18 ny18 cy18 (((((((rc.drop ((((2 + x2) * (Hd.vHole x1))).toNat))).take ((m).toNat)))))) w from hs.at_ 0 rfl).lenz) (fun lenn11 => ?_)
     refine rKnow (fun w hs => (show OwnI 2 ay18 ny18 cy18 (((((((rc.drop ((((2 + x2) * (Hd.vHole x1))).toNat))).take ((m).toNat)))))) w from hs.at_ 0 rfl).capz) (fun lcpn11 => ?_)
     refine rVal (v' := .slice ay18 ny18 cy18) rfl ?_
     refine callS Try.call71 (by exact (fun _ _ h => h.pick [3, 3, 3])) rfl rfl (fun w hs => spec_l01Own_c _ (((qc - (((2 + x2) * (Hd.vHole x1))).toNat) - 5)) (((hc.2 - (((2 + x2) * (Hd.vHole x1))).toNat) - 5)) _ w (Kn.drop (k := 1) e17 w hs) (by omega)) ?_
     rintro ⟨ay19, ny19, cy19, y19⟩ hr19
     dsimp only at hr19
     subst y19
     refine rPieces (L' := [OwnI 2 ay19 ny19 cy19 (((((((rc.drop ((((2 + x2) * (Hd.vHole x1))).toNat))).drop 5))))), OwnI 2 ay18 ny18 cy18 (((((((rc.drop ((((2 + x2) * (Hd.vHole x1))).toNat))).take ((m).toNat)))))), blk bkl10 2 [.int .i64 5, .int .i64 4, .int .i64 4, .int .i64 5, .int .i64 4, .int .i64 4], OwnR maK 23 2 hh.1.1 nn hh.1.2 hh.2 oo, srcP bk ca bs cc, OwnI 2 hc.1 qc hc.2 rc]) (fun _ h => h) ?_
     refine rKnow (fun w hs => (show OwnI 2 ay19 ny19 cy19 (((((((rc.drop ((((2 + x2) * (Hd.vHole x1))).toNat))).drop 5))))) w from hs.at_ 0 rfl).lenz) (fun lenn12 => ?_)
     refine rKnow (fun w hs => (show OwnI 2 ay19 ny19 cy19 (((((((rc.drop ((((2 + x2) * (Hd.vHole x1))).toNat))).drop 5))))) w from hs.at_ 0 rfl).capz) (fun lcpn12 => ?_)
     refine rVal (v' := .slice ay19 ny19 cy19) rfl ?_
     refine asS rfl rfl rfl ?_
     refine asS rfl rfl rfl ?_
     refine rNil ?_
     refine qSeq rfl ?_
     refine hSeq ?_
     refine hSeq ?_
     refine hKnow (fun w hs => OwnR.caps (show OwnR maK 23 2 hh.1.1 nn hh.1.2 hh.2 oo w from hs.at_ 3 rfl)) (fun hcaps => ?_)
     have hgd : ∀ i, i < oo.length → (oo.getD i []).length ≤ 4 ∧ (oo.getD i []).length ≤ (hh.2 i).2 := fun i hi => ⟨(hor i hi).1, hcaps i hi⟩
     have hfl4 := Hd.flat_four (z := oo) (fun j hj => (hor j hj).1)
     have hor0 := hor 0 (by omega)
     have hb1 := lenn11
     have hb2 := lenn12
     simp only [List.length_take, List.length_drop] at hb1 hb2
     refine hReg (sq 0 (sl 1 sz)) (by kernel_rfl) ?_
     refine mvP rfl rfl rfl ?_
     refine rPieces (L' := [srcP bk ca bs cc, OwnI 2 ay19 ny19 cy19 (((((((rc.drop ((((2 + x2) * (Hd.vHole x1))).toNat))).drop 5))))), OwnI 2 ay18 ny18 cy18 (((((((rc.drop ((((2 + x2) * (Hd.vHole x1))).toNat))).take ((m).toNat)))))), blk bkl10 2 [.int .i64 5, .int .i64 4, .int .i64 4, .int .i64 5, .int .i64 4, .int .i64 4], OwnR maK 23 2 hh.1.1 nn hh.1.2 hh.2 oo, OwnI 2 hc.1 qc hc.2 rc]) (fun _ h => h.perm (pull (i := 4) rfl)) ?_
     refine callMK (α := Int) (Lf := [srcP bk ca bs cc]) (Lr := [OwnI 2 ay19 ny19 cy19 (((((((rc.drop ((((2 + x2) * (Hd.vHole x1))).toNat))).drop 5))))), OwnI 2 ay18 ny18 cy18 (((((((rc.drop ((((2 + x2) * (Hd.vHole x1))).toNat))).take ((m).toNat)))))), blk bkl10 2 [.int .i64 5, .int .i64 4, .int .i64 4, .int .i64 5, .int .i64 4, .int .i64 4], OwnR maK 23 2 hh.1.1 nn hh.1.2 hh.2 oo, OwnI 2 hc.1 qc hc.2 rc]) (good := fun x => 0 ≤ x ∧ (x < (24 : Int) ∨ x = 0)) (φs := fun x => [srcP bk ca bs cc]) (val := fun x => .int .i64 x) rfl Try.call76 trv1 rfl rfl (fun w M1 hs hk => src_next bk ca bs cc (24 : Int) w M1 hs (hk _ kcode) hok) ?_
     intro x20 hx20
     try dsimp only at hx20
     refine rPieces (L' := [srcP bk ca bs cc, OwnI 2 ay19 ny19 cy19 (((((((rc.drop ((((2 + x2) * (Hd.vHole x1))).toNat))).drop 5))))), OwnI 2 ay18 ny18 cy18 (((((((rc.drop ((((2 + x2) * (Hd.vHole x1))).toNat))).take ((m).toNat)))))), blk bkl10 2 [.int .i64 5, .int .i64 4, .int .i64 4, .int .i64 5, .int .i64 4, .int .i64 4], OwnR maK 23 2 hh.1.1 nn hh.1.2 hh.2 oo, OwnI 2 hc.1 qc hc.2 rc]) (fun _ h => h) ?_
     refine rNil ?_
     refine qSeq rfl ?_
     refine hBlk ?_
     refine hSeq ?_
     refine hReg (sq 0 (sq 1 sz)) (by kernel_rfl) ?_
     refine eql rfl rfl rfl rfl ?_
     refine asB rfl rfl rfl ?_
     refine rNil ?_
     refine qSeq rfl ?_
     refine hIfD rfl (fun c7 => ?_) (fun c7 => ?_)
     ·
      replace c7 : x20 = 4 := c7
      refine hSeq ?_
      refine hReg (sq 0 (sq 1 (sl 2 (sq 3 sz)))) (by kernel_rfl) ?_
      refine mvS rfl rfl rfl ?_
      refine mvS rfl rfl rfl ?_
      refine callS Try.call69 trv1 rfl rfl (fun w hs => spec_l16Rest_c _ nn hh.1.2 _ _ _ ny18 cy18 _ _ 0 0 _ w (OwnR.rd (hs.at_ 4 rfl) maK.ok) (OwnI.rd (hs.at_ 2 rfl)) (RdI.nil _ _) (by first | assumption | omega) (by omega) (by first | assumption | omega | exact Nat.zero_le _)) ?_
      rintro ⟨ay21, ny21, cy21, y21⟩ hr21
      dsimp only at hr21
      subst y21
      refine rPieces (L' := [OwnI 2 ay21 ny21 cy21 (((Hd.restL oo (((((((rc.drop ((((2 + x2) * (Hd.vHole x1))).toNat))).take ((m).toNat)))))) []))), srcP bk ca bs cc, OwnI 2 ay19 ny19 cy19 (((((((rc.drop ((((2 + x2) * (Hd.vHole x1))).toNat))).drop 5))))), OwnI 2 ay18 ny18 cy18 (((((((rc.drop ((((2 + x2) * (Hd.vHole x1))).toNat))).take ((m).toNat)))))), blk bkl10 2 [.int .i64 5, .int .i64 4, .int .i64 4, .int .i64 5, .int .i64 4, .int .i64 4], OwnR maK 23 2 hh.1.1 nn hh.1.2 hh.2 oo, OwnI 2 hc.1 qc hc.2 rc]) (fun _ h => h) ?_
      refine rKnow (fun w hs => (show OwnI 2 ay21 ny21 cy21 (((Hd.restL oo (((((((rc.drop ((((2 + x2) * (Hd.vHole x1))).toNat))).take ((m).toNat)))))) []))) w from hs.at_ 0 rfl).lenz) (fun lenn13 => ?_)
      refine rKnow (fun w hs => (show OwnI 2 ay21 ny21 cy21 (((Hd.restL oo (((((((rc.drop ((((2 + x2) * (Hd.vHole x1))).toNat))).take ((m).toNat)))))) []))) w from hs.at_ 0 rfl).capz) (fun lcpn13 => ?_)
      refine rVal (v' := .slice ay21 ny21 cy21) rfl ?_
      refine asS rfl rfl rfl ?_
      refine rNil ?_
      refine qSeq rfl ?_
      have hal : (Hd.allC oo ((((((rc.drop ((((2 + x2) * (Hd.vHole x1))).toNat))).take ((m).toNat))))) []).length = (((((((rc.drop ((((2 + x2) * (Hd.vHole x1))).toNat))).take ((m).toNat)))))).length + oo.flatten.length := by unfold Hd.allC; simp
      have hrg : 52 ≤ (Hd.restL oo (((((((rc.drop ((((2 + x2) * (Hd.vHole x1))).toNat))).take ((m).toNat)))))) []).length + (Hd.allC oo (((((((rc.drop ((((2 + x2) * (Hd.vHole x1))).toNat))).take ((m).toNat)))))) []).length := Hd.others_ge _
      have hrl := Hd.restL_len oo (((((((rc.drop ((((2 + x2) * (Hd.vHole x1))).toNat))).take ((m).toNat)))))) []
      refine hReg (sq 0 (sq 1 (sq 2 (sq 3 (sl 4 (sq 5 (sq 6 (sq 7 sz)))))))) (by kernel_rfl) ?_
      refine mvS rfl rfl rfl ?_
      refine mvS rfl rfl rfl ?_
      refine lenS Try.runUnderlying23 rfl rfl rfl ?_
      refine mvP rfl rfl rfl ?_
      refine rPieces (L' := [srcP bk ca bs cc, OwnI 2 ay21 ny21 cy21 (((Hd.restL oo (((((((rc.drop ((((2 + x2) * (Hd.vHole x1))).toNat))).take ((m).toNat)))))) []))), OwnI 2 ay19 ny19 cy19 (((((((rc.drop ((((2 + x2) * (Hd.vHole x1))).toNat))).drop 5))))), OwnI 2 ay18 ny18 cy18 (((((((rc.drop ((((2 + x2) * (Hd.vHole x1))).toNat))).take ((m).toNat)))))), blk bkl10 2 [.int .i64 5, .int .i64 4, .int .i64 4, .int .i64 5, .int .i64 4, .int .i64 4], OwnR maK 23 2 hh.1.1 nn hh.1.2 hh.2 oo, OwnI 2 hc.1 qc hc.2 rc]) (fun _ h => h.perm (pull (i := 1) rfl)) ?_
      refine callMK (α := Int) (Lf := [srcP bk ca bs cc]) (Lr := [OwnI 2 ay21 ny21 cy21 (((Hd.restL oo (((((((rc.drop ((((2 + x2) * (Hd.vHole x1))).toNat))).take ((m).toNat)))))) []))), OwnI 2 ay19 ny19 cy19 (((((((rc.drop ((((2 + x2) * (Hd.vHole x1))).toNat))).drop 5))))), OwnI 2 ay18 ny18 cy18 (((((((rc.drop ((((2 + x2) * (Hd.vHole x1))).toNat))).take ((m).toNat)))))), blk bkl10 2 [.int .i64 5, .int .i64 4, .int .i64 4, .int .i64 5, .int .i64 4, .int .i64 4], OwnR maK 23 2 hh.1.1 nn hh.1.2 hh.2 oo, OwnI 2 hc.1 qc hc.2 rc]) (good := fun x => 0 ≤ x ∧ (x < (3 : Int) ∨ x = 0)) (φs := fun x => [srcP bk ca bs cc]) (val := fun x => .int .i64 x) rfl Try.call76 trv1 rfl rfl (fun w M1 hs hk => src_next bk ca bs cc (3 : Int) w M1 hs (hk _ kcode) hok) ?_
      intro x22 hx22
      try dsimp only at hx22
      refine rPieces (L' := [srcP bk ca bs cc, OwnI 2 ay21 ny21 cy21 (((Hd.restL oo (((((((rc.drop ((((2 + x2) * (Hd.vHole x1))).toNat))).take ((m).toNat)))))) []))), OwnI 2 ay19 ny19 cy19 (((((((rc.drop ((((2 + x2) * (Hd.vHole x1))).toNat))).drop 5))))), OwnI 2 ay18 ny18 cy18 (((((((rc.drop ((((2 + x2) * (Hd.vHole x1))).toNat))).take ((m).toNat)))))), blk bkl10 2 [.int .i64 5, .int .i64 4, .int .i64 4, .int .i64 5, .int .i64 4, .int .i64 4], OwnR maK 23 2 hh.1.1 nn hh.1.2 hh.2 oo, OwnI 2 hc.1 qc hc.2 rc]) (fun _ h => h) ?_
      refine sub rfl rfl rfl rfl (by omega) ?_
      refine slHiO (zn := ((((ny21 : Int) - x22)).toNat)) 1 rfl el23 rfl rfl rfl rfl (by omega) (by omega) rfl (by omega) ?_
      refine asS rfl rfl rfl ?_
      refine rNil ?_
      refine qSeq rfl ?_
      refine hSeq ?_
      refine hReg (sq 0 (sq 1 (sq 2 (sq 3 (sq 4 (sq 5 (sq 6 (sq 7 sz)))))))) (by kernel_rfl) ?_
      refine mvI rfl rfl rfl ?_
      refine mvS rfl rfl rfl ?_
      refine mvS rfl rfl rfl ?_
      refine mvS rfl rfl rfl ?_
      refine asI rfl rfl rfl ?_
      refine asS rfl rfl rfl ?_
      refine asS rfl rfl rfl ?_
      refine asS rfl rfl rfl ?_
      refine rNil ?_
      refine qSeq rfl ?_
      refine hRet ?_
      refine knP (L' := [srcP bk ca bs cc, OwnI 2 ay21 ((((ny21 : Int) - x22)).toNat) cy21 (((((Hd.restL oo (((((((rc.drop ((((2 + x2) * (Hd.vHole x1))).toNat))).take ((m).toNat)))))) []))).take ((((ny21 : Int) - x22)).toNat))), OwnI 2 ay19 ny19 cy19 (((((((rc.drop ((((2 + x2) * (Hd.vHole x1))).toNat))).drop 5))))), OwnI 2 ay18 ny18 cy18 (((((((rc.drop ((((2 + x2) * (Hd.vHole x1))).toNat))).take ((m).toNat)))))), blk bkl10 2 [.int .i64 5, .int .i64 4, .int .i64 4, .int .i64 5, .int .i64 4, .int .i64 4], RdR maK hh.1.1 nn hh.2 oo, OwnI 2 hc.1 qc hc.2 rc]) (fun _ h => h.imp 5 rfl fun _ h => OwnR.rd h maK.ok) ?_
      exact fun w hs => ⟨[.int .i64 x1, .slice hh.1.1 nn hh.1.2, .slice ay18 ny18 cy18, .slice ay21 ((((ny21 : Int) - x22)).toNat) cy21], ⟨rfl, ⟨rfl, ⟨rfl, ⟨rfl, trivial⟩⟩⟩⟩, ⟨(x1, hh.1.1, nn, hh.1.2, hh.2, oo, ay18, ny18, cy18, ((((((rc.drop ((((2 + x2) * (Hd.vHole x1))).toNat))).take ((m).toNat))))), ay21, (((ny21 : Int) - x22)).toNat, cy21, ((((Hd.restL oo (((((((rc.drop ((((2 + x2) * (Hd.vHole x1))).toNat))).take ((m).toNat)))))) []))).take ((((ny21 : Int) - x22)).toNat))), rfl, ⟨⟨by dsimp only; omega, by first | exact hgd | exact Hd.rows_drop hgd⟩, by dsimp only; omega, by dsimp only; omega⟩, hs.pick [0, 4, 2, 0]⟩⟩
     ·
      replace c7 : ¬ (x20 = 4) := c7
      refine hSeq ?_
      refine hReg (sq 0 (sq 1 sz)) (by kernel_rfl) ?_
      refine eql rfl rfl rfl rfl ?_
      refine asB rfl rfl rfl ?_
      refine rNil ?_
      refine qSeq rfl ?_
      refine hIfD rfl (fun c8 => ?_) (fun c8 => ?_)
      ·
       replace c8 : x20 = 0 := c8
       refine hReg (sq 0 (sq 1 (sq 2 (sl 3 (sq 4 (sl 5 (sq 6 (sl 7 sz)))))))) (by kernel_rfl) ?_
       refine mvS rfl rfl rfl ?_
       refine mvS rfl rfl rfl ?_
       refine ixRl (zn := 0) (oo.getD 0 []) el22 ((Kn.at_ 4 rfl).imp fun _ h => OwnR.rd h maK.ok) rfl rfl rfl rfl (by omega) (by omega) rfl (nth [] (by omega)) ?_
       intro be24 oe24 e24
       refine ldl Try.isAgg23 (Kn.fld e24 0 rfl) trv rfl rfl rfl ?_
       refine ixIl (zn := 0) el23 ((Kn.imp ((Kn.at_ (φ := OwnR maK 23 2 hh.1.1 nn hh.1.2 hh.2 oo) 4 rfl).imp fun _ h => OwnR.rd h maK.ok) fun _ h => h.kidM (nth [] (by omega)))) rfl rfl rfl rfl (by omega) (by omega) rfl ?_
       intro ae25 e25
       refine ldl Try.isAgg2 (e25) trv rfl rfl rfl ?_
       refine oxI (zn := 0) 2 rfl el23 rfl rfl rfl rfl (by omega) (by omega) rfl ?_
       intro gk26 hgk26
       refine stoI (off := 0) (x := ((oo.getD 0 []).getD 0 0)) 2 rfl hgk26 Try.sizeOf2 trv rfl rfl rfl rfl (by omega) ?_
       refine rNil ?_
       refine qSeq rfl ?_
       refine hSeq ?_
       refine hReg (sq 0 (sq 1 (sq 2 (sq 3 (sq 4 (sq 5 (sq 6 (sq 7 sz)))))))) (by kernel_rfl) ?_
       refine mvI rfl rfl rfl ?_
       refine mvS rfl rfl rfl ?_
       refine mvS rfl rfl rfl ?_
       refine mvS rfl rfl rfl ?_
       refine asI rfl rfl rfl ?_
       refine asS rfl rfl rfl ?_
       refine asS rfl rfl rfl ?_
       refine asS rfl rfl rfl ?_
       refine rNil ?_
       refine qSeq rfl ?_
       refine hRet ?_
       refine knP (L' := [srcP bk ca bs cc, OwnI 2 ay19 ny19 cy19 (((((((rc.drop ((((2 + x2) * (Hd.vHole x1))).toNat))).drop 5))))), OwnI 2 ay18 ny18 cy18 (((((((((rc.drop ((((2 + x2) * (Hd.vHole x1))).toNat))).take ((m).toNat)))))).set 0 (((oo.getD 0 []).getD 0 0)))), blk bkl10 2 [.int .i64 5, .int .i64 4, .int .i64 4, .int .i64 5, .int .i64 4, .int .i64 4], RdR maK hh.1.1 nn hh.2 oo, OwnI 2 hc.1 qc hc.2 rc]) (fun _ h => h.imp 4 rfl fun _ h => OwnR.rd h maK.ok) ?_
       exact fun w hs => ⟨[.int .i64 x1, .slice hh.1.1 nn hh.1.2, .slice ay18 ny18 cy18, .slice ay19 ny19 cy19], ⟨rfl, ⟨rfl, ⟨rfl, ⟨rfl, trivial⟩⟩⟩⟩, ⟨(x1, hh.1.1, nn, hh.1.2, hh.2, oo, ay18, ny18, cy18, ((((((((rc.drop ((((2 + x2) * (Hd.vHole x1))).toNat))).take ((m).toNat)))))).set 0 (((oo.getD 0 []).getD 0 0))), ay19, ny19, cy19, ((((((rc.drop ((((2 + x2) * (Hd.vHole x1))).toNat))).drop 5))))), rfl, ⟨⟨by dsimp only; omega, by first | exact hgd | exact Hd.rows_drop hgd⟩, by dsimp only; omega, by dsimp only; omega⟩, hs.pick [0, 3, 1, 0]⟩⟩
      ·
       replace c8 : ¬ (x20 = 0) := c8
       refine hSeq ?_
       refine hReg (sq 0 (sq 1 sz)) (by kernel_rfl) ?_
       refine eql rfl rfl rfl rfl ?_
       refine asB rfl rfl rfl ?_
       refine rNil ?_
       refine qSeq rfl ?_
       refine hIfD rfl (fun c9 => ?_) (fun c9 => ?_)
       ·
        replace c9 : x20 = 1 := c9
        refine hReg (sq 0 (sl 1 (sl 2 (sq 3 sz)))) (by kernel_rfl) ?_
        refine mvP rfl rfl rfl ?_
        refine bsl trv1 rfl rfl rfl (bsl23_3 (.int .i64 _) (.int .i64 _) (.int .i64 _) rfl rfl rfl) (fun bkl14 hbkl14 => ?_)
        refine rPieces (L' := [srcP bk ca bs cc, blk bkl14 2 [.int .i64 (-1), .int .i64 1, .int .i64 3], OwnI 2 ay19 ny19 cy19 (((((((rc.drop ((((2 + x2) * (Hd.vHole x1))).toNat))).drop 5))))), OwnI 2 ay18 ny18 cy18 (((((((rc.drop ((((2 + x2) * (Hd.vHole x1))).toNat))).take ((m).toNat)))))), blk bkl10 2 [.int .i64 5, .int .i64 4, .int .i64 4, .int .i64 5, .int .i64 4, .int .i64 4], OwnR maK 23 2 hh.1.1 nn hh.1.2 hh.2 oo, OwnI 2 hc.1 qc hc.2 rc]) (fun _ h => h.perm (pull (i := 1) rfl)) ?_
        refine callMK (α := Int) (Lf := [srcP bk ca bs cc, blk bkl14 2 [.int .i64 (-1), .int .i64 1, .int .i64 3]]) (Lr := [OwnI 2 ay19 ny19 cy19 (((((((rc.drop ((((2 + x2) * (Hd.vHole x1))).toNat))).drop 5))))), OwnI 2 ay18 ny18 cy18 (((((((rc.drop ((((2 + x2) * (Hd.vHole x1))).toNat))).take ((m).toNat)))))), blk bkl10 2 [.int .i64 5, .int .i64 4, .int .i64 4, .int .i64 5, .int .i64 4, .int .i64 4], OwnR maK 23 2 hh.1.1 nn hh.1.2 hh.2 oo, OwnI 2 hc.1 qc hc.2 rc]) (good := fun x => x ∈ ([.int .i64 (-1), .int .i64 1, .int .i64 3] : List Value).map toI) (φs := fun x => [srcP bk ca bs cc, blk bkl14 2 [.int .i64 (-1), .int .i64 1, .int .i64 3]]) (val := fun x => .int .i64 x) rfl Try.call132 trv1 rfl rfl (fun w M1 hs hk => src_pick bk ca bs cc bkl14 2 3 3 [.int .i64 (-1), .int .i64 1, .int .i64 3] w M1 hs (hk _ kcode) hok rfl rfl (by decide)) ?_
        intro x27 hx27
        try dsimp only at hx27
        refine rPieces (L' := [srcP bk ca bs cc, blk bkl14 2 [.int .i64 (-1), .int .i64 1, .int .i64 3], OwnI 2 ay19 ny19 cy19 (((((((rc.drop ((((2 + x2) * (Hd.vHole x1))).toNat))).drop 5))))), OwnI 2 ay18 ny18 cy18 (((((((rc.drop ((((2 + x2) * (Hd.vHole x1))).toNat))).take ((m).toNat)))))), blk bkl10 2 [.int .i64 5, .int .i64 4, .int .i64 4, .int .i64 5, .int .i64 4, .int .i64 4], OwnR maK 23 2 hh.1.1 nn hh.1.2 hh.2 oo, OwnI 2 hc.1 qc hc.2 rc]) (fun _ h => h) ?_
        refine asI rfl rfl rfl ?_
        refine rNil ?_
        refine qSeq rfl ?_
        refine hSeq ?_
        refine hReg (sq 0 (sq 1 (sq 2 (sq 3 (sq 4 (sq 5 (sq 6 (sq 7 sz)))))))) (by kernel_rfl) ?_
        refine mvI rfl rfl rfl ?_
        refine mvS rfl rfl rfl ?_
        refine mvS rfl rfl rfl ?_
        refine mvS rfl rfl rfl ?_
        refine asI rfl rfl rfl ?_
        refine asS rfl rfl rfl ?_
        refine asS rfl rfl rfl ?_
        refine asS rfl rfl rfl ?_
        refine rNil ?_
        refine qSeq rfl ?_
        refine hRet ?_
        refine knP (L' := [srcP bk ca bs cc, blk bkl14 2 [.int .i64 (-1), .int .i64 1, .int .i64 3], OwnI 2 ay19 ny19 cy19 (((((((rc.drop ((((2 + x2) * (Hd.vHole x1))).toNat))).drop 5))))), OwnI 2 ay18 ny18 cy18 (((((((rc.drop ((((2 + x2) * (Hd.vHole x1))).toNat))).take ((m).toNat)))))), blk bkl10 2 [.int .i64 5, .int .i64 4, .int .i64 4, .int .i64 5, .int .i64 4, .int .i64 4], RdR maK hh.1.1 nn hh.2 oo, OwnI 2 hc.1 qc hc.2 rc]) (fun _ h => h.imp 5 rfl fun _ h => OwnR.rd h maK.ok) ?_
        exact fun w hs => ⟨[.int .i64 x27, .slice hh.1.1 nn hh.1.2, .slice ay18 ny18 cy18, .slice ay19 ny19 cy19], ⟨rfl, ⟨rfl, ⟨rfl, ⟨rfl, trivial⟩⟩⟩⟩, ⟨(x27, hh.1.1, nn, hh.1.2, hh.2, oo, ay18, ny18, cy18, ((((((rc.drop ((((2 + x2) * (Hd.vHole x1))).toNat))).take ((m).toNat))))), ay19, ny19, cy19, ((((((rc.drop ((((2 + x2) * (Hd.vHole x1))).toNat))).drop 5))))), rfl, ⟨⟨by dsimp only; omega, by first | exact hgd | exact Hd.rows_drop hgd⟩, by dsimp only; omega, by dsimp only; omega⟩, hs.pick [0, 4, 2, 1]⟩⟩
       ·
        replace c9 : ¬ (x20 = 1) := c9
        refine hSeq ?_
        refine hReg (sq 0 (sq 1 sz)) (by kernel_rfl) ?_
        refine eql rfl rfl rfl rfl ?_
        refine asB rfl rfl rfl ?_
        refine rNil ?_
        refine qSeq rfl ?_
        refine hIfD rfl (fun c10 => ?_) (fun c10 => ?_)
        ·
         replace c10 : x20 = 2 := c10
         refine hSeq ?_
         refine hDraw (Ls := []) (by kernel_rfl) (sq 0 (sq 1 (sq 2 (sq 3 (sq 4 (sq 5 (sq 6 (sq 7 (sq 8 sz))))))))) (by kernel_rfl) (.cons _ (.cons _ (.cons _ (.cons _ (.cons _ (.cons _ .slnil)))))) ?_
         refine mvI rfl rfl rfl ?_
         refine mvS rfl rfl rfl ?_
         refine slLoR (zn := 1) 4 maK.ok rfl el22 rfl rfl rfl rfl (by omega) (by omega) rfl ?_
         intro ae28 e28
         refine mvS rfl rfl rfl ?_
         refine mvS rfl rfl rfl ?_
         refine asI rfl rfl rfl ?_
         refine asS rfl rfl rfl ?_
         refine asS rfl rfl rfl ?_
         refine asS rfl rfl rfl ?_
         refine rNil ?_
         refine qSeq rfl ?_
         refine hRet ?_
         refine knP (L' := [srcP bk ca bs cc, OwnI 2 ay19 ny19 cy19 (((((((rc.drop ((((2 + x2) * (Hd.vHole x1))).toNat))).drop 5))))), OwnI 2 ay18 ny18 cy18 (((((((rc.drop ((((2 + x2) * (Hd.vHole x1))).toNat))).take ((m).toNat)))))), blk bkl10 2 [.int .i64 5, .int .i64 4, .int .i64 4, .int .i64 5, .int .i64 4, .int .i64 4], RdR maK ae28 (nn - 1) ((fun i => hh.2 (i + 1))) (List.drop 1 oo), OwnI 2 hc.1 qc hc.2 rc]) (fun _ h => h.imp 4 rfl fun _ h => e28 _ h) ?_
         exact fun w hs => ⟨[.int .i64 x1, .slice ae28 (nn - 1) (hh.1.2 - 1), .slice ay18 ny18 cy18, .slice ay19 ny19 cy19], ⟨rfl, ⟨rfl, ⟨rfl, ⟨rfl, trivial⟩⟩⟩⟩, ⟨(x1, ae28, (nn - 1), (hh.1.2 - 1), (fun i => hh.2 (i + 1)), (List.drop 1 oo), ay18, ny18, cy18, ((((((rc.drop ((((2 + x2) * (Hd.vHole x1))).toNat))).take ((m).toNat))))), ay19, ny19, cy19, ((((((rc.drop ((((2 + x2) * (Hd.vHole x1))).toNat))).drop 5))))), rfl, ⟨⟨by dsimp only; omega, by first | exact hgd | exact Hd.rows_drop hgd⟩, by dsimp only; omega, by dsimp only; omega⟩, hs.pick [0, 3, 1, 0]⟩⟩
        ·
         replace c10 : ¬ (x20 = 2) := c10
         refine hSeq ?_
         refine hReg (sq 0 (sq 1 sz)) (by kernel_rfl) ?_
         refine eql rfl rfl rfl rfl ?_
         refine asB rfl rfl rfl ?_
         refine rNil ?_
         refine qSeq rfl ?_
         refine hIfD rfl (fun c11 => ?_) (fun c11 => ?_)
         ·
          replace c11 : x20 = 3 := c11
          refine hReg (sq 0 (sq 1 (sq 2 sz))) (by kernel_rfl) ?_
          refine mvS rfl rfl rfl ?_
          refine slHiO (zn := 2) 2 rfl el23 rfl rfl rfl rfl (by omega) (by omega) rfl (by omega) ?_
          refine asS rfl rfl rfl ?_
          refine rNil ?_
          refine qSeq rfl ?_
          refine hSeq ?_
          refine hReg (sq 0 (sq 1 (sq 2 (sq 3 (sq 4 (sq 5 (sq 6 (sq 7 sz)))))))) (by kernel_rfl) ?_
          refine mvI rfl rfl rfl ?_
          refine mvS rfl rfl rfl ?_
          refine mvS rfl rfl rfl ?_
          refine mvS rfl rfl rfl ?_
          refine asI rfl rfl rfl ?_
          refine asS rfl rfl rfl ?_
          refine asS rfl rfl rfl ?_
          refine asS rfl rfl rfl ?_
          refine rNil ?_
          refine qSeq rfl ?_
          refine hRet ?_
          refine knP (L' := [srcP bk ca bs cc, OwnI 2 ay19 ny19 cy19 (((((((rc.drop ((((2 + x2) * (Hd.vHole x1))).toNat))).drop 5))))), OwnI 2 ay18 2 cy18 (((((((((rc.drop ((((2 + x2) * (Hd.vHole x1))).toNat))).take ((m).toNat)))))).take 2)), blk bkl10 2 [.int .i64 5, .int .i64 4, .int .i64 4, .int .i64 5, .int .i64 4, .int .i64 4], RdR maK hh.1.1 nn hh.2 oo, OwnI 2 hc.1 qc hc.2 rc]) (fun _ h => h.imp 4 rfl fun _ h => OwnR.rd h maK.ok) ?_
          exact fun w hs => ⟨[.int .i64 x1, .slice hh.1.1 nn hh.1.2, .slice ay18 2 cy18, .slice ay19 ny19 cy19], ⟨rfl, ⟨rfl, ⟨rfl, ⟨rfl, trivial⟩⟩⟩⟩, ⟨(x1, hh.1.1, nn, hh.1.2, hh.2, oo, ay18, 2, cy18, ((((((((rc.drop ((((2 + x2) * (Hd.vHole x1))).toNat))).take ((m).toNat)))))).take 2), ay19, ny19, cy19, ((((((rc.drop ((((2 + x2) * (Hd.vHole x1))).toNat))).drop 5))))), rfl, ⟨⟨by dsimp only; omega, by first | exact hgd | exact Hd.rows_drop hgd⟩, by dsimp only; omega, by dsimp only; omega⟩, hs.pick [0, 3, 1, 0]⟩⟩
         ·
          replace c11 : ¬ (x20 = 3) := c11
          refine hSkip ?_
          refine qSeq rfl ?_
          refine hSeq ?_
          refine hReg (sq 0 (sq 1 (sq 2 (sq 3 (sq 4 (sq 5 (sq 6 (sq 7 sz)))))))) (by kernel_rfl) ?_
          refine mvI rfl rfl rfl ?_
          refine mvS rfl rfl rfl ?_
          refine mvS rfl rfl rfl ?_
          refine mvS rfl rfl rfl ?_
          refine asI rfl rfl rfl ?_
          refine asS rfl rfl rfl ?_
          refine asS rfl rfl rfl ?_
          refine asS rfl rfl rfl ?_
          refine rNil ?_
          refine qSeq rfl ?_
          refine hRet ?_
          refine knP (L' := [srcP bk ca bs cc, OwnI 2 ay19 ny19 cy19 (((((((rc.drop ((((2 + x2) * (Hd.vHole x1))).toNat))).drop 5))))), OwnI 2 ay18 ny18 cy18 (((((((rc.drop ((((2 + x2) * (Hd.vHole x1))).toNat))).take ((m).toNat)))))), blk bkl10 2 [.int .i64 5, .int .i64 4, .int .i64 4, .int .i64 5, .int .i64 4, .int .i64 4], RdR maK hh.1.1 nn hh.2 oo, OwnI 2 hc.1 qc hc.2 rc]) (fun _ h => h.imp 4 rfl fun _ h => OwnR.rd h maK.ok) ?_
          exact fun w hs => ⟨[.int .i64 x1, .slice hh.1.1 nn hh.1.2, .slice ay18 ny18 cy18, .slice ay19 ny19 cy19], ⟨rfl, ⟨rfl, ⟨rfl, ⟨rfl, trivial⟩⟩⟩⟩, ⟨(x1, hh.1.1, nn, hh.1.2, hh.2, oo, ay18, ny18, cy18, ((((((rc.drop ((((2 + x2) * (Hd.vHole x1))).toNat))).take ((m).toNat))))), ay19, ny19, cy19, ((((((rc.drop ((((2 + x2) * (Hd.vHole x1))).toNat))).drop 5))))), rfl, ⟨⟨by dsimp only; omega, by first | exact hgd | exact Hd.rows_drop hgd⟩, by dsimp only; omega, by dsimp only; omega⟩, hs.pick [0, 3, 1, 0]⟩⟩
theorem spec_l16DrawPlayer_c (ca : Option Addr) (bs : List Int) (cc : Nat) (w : World) (rcode : CellsAt ca (bs.map (Value.int .u8)) w) (hok : okBytes bs) :
  Calls Try.prog 64 #[.slice ca bs.length cc] w (Ret fun v w' => ∃ x : Int × Option Addr × Nat × Nat × (Nat → Hd) × List (List Int) × Option Addr × Nat × Nat × List Int × Option Addr × Nat × Nat × List Int × Int, v = .tuple #[.int .i64 x.1, .slice x.2.1 x.2.2.1 x.2.2.2.1, .slice x.2.2.2.2.2.2.1 x.2.2.2.2.2.2.2.1 x.2.2.2.2.2.2.2.2.1, .slice x.2.2.2.2.2.2.2.2.2.2.1 x.2.2.2.2.2.2.2.2.2.2.2.1 x.2.2.2.2.2.2.2.2.2.2.2.2.1, .int .i64 x.2.2.2.2.2.2.2.2.2.2.2.2.2.2] ∧ ((x.2.2.1 ≤ 3 ∧ ∀ i, i < x.2.2.2.2.2.1.length → (x.2.2.2.2.2.1.getD i []).length ≤ 4 ∧ (x.2.2.2.2.2.1.getD i []).length ≤ (x.2.2.2.2.1 i).2) ∧ x.2.2.2.2.2.2.2.1 ≤ 5 ∧ x.2.2.2.2.2.2.2.2.2.2.2.1 ≤ 60) ∧ Sep w none_ [RdR maK x.2.1 x.2.2.1 x.2.2.2.2.1 x.2.2.2.2.2.1, OwnI 2 x.2.2.2.2.2.2.1 x.2.2.2.2.2.2.2.1 x.2.2.2.2.2.2.2.2.1 x.2.2.2.2.2.2.2.2.2.1, OwnI 2 x.2.2.2.2.2.2.2.2.2.2.1 x.2.2.2.2.2.2.2.2.2.2.2.1 x.2.2.2.2.2.2.2.2.2.2.2.2.1 x.2.2.2.2.2.2.2.2.2.2.2.2.2.1] w') := by
 have kcode : Kn w none_ [] (CellsAt ca (bs.map (Value.int .u8))) := fun w' hs => rcode.ext hs.upd
 refine fn (M := none_) (rs := [.tmp 2, .tmp 3, .tmp 4, .tmp 5, .tmp 6]) Try.func64 rfl Try.ntmps64 rfl rfl (Sep.start _ _) ?_
 refine hSeq ?_
 refine hReg (sq 0 (sq 1 (sq 2 (sq 3 (sq 4 sz))))) (by kernel_rfl) ?_
 refine asI rfl rfl rfl ?_
 refine asS rfl rfl rfl ?_
 refine asS rfl rfl rfl ?_
 refine asS rfl rfl rfl ?_
 refine asI rfl rfl rfl ?_
 refine rNil ?_
 refine qSeq rfl ?_
 refine hSeq ?_
 refine hReg (sq 0 (sl 1 (sq 2 sz))) (by kernel_rfl) ?_
 refine mvS rfl rfl rfl ?_
 refine callN (α := Nat) (val := fun x => .pointer (some ⟨x, 0, none⟩)) (good := fun _ => True) (φ := fun x => srcP x ca bs cc) Try.call74 trv1 rfl rfl (fun w hs => (l01From_c ca bs cc w (kcode w (hs.sub (List.nil_sublist _))) hok).mono fun e w1 ⟨v, h0, bk, h1, h2, h3, h4⟩ => ⟨v, h0, bk, h1, trivial, h3, h4⟩) ?_
 rintro bks1 -
 refine asn rfl rfl rfl ?_
 refine rNil ?_
 refine qSeq rfl ?_
 refine hSeq ?_
 refine hReg (sq 0 (sl 1 (sq 2 (sq 3 (sq 4 (sq 5 (sq 6 (sq 7 (sq 8 (sq 9 (sq 10 sz))))))))))) (by kernel_rfl) ?_
 refine mvP rfl rfl rfl ?_
 refine callMK (α := Int × Option Addr × Nat × Nat × (Nat → Hd) × List (List Int) × Option Addr × Nat × Nat × List Int × Option Addr × Nat × Nat × List Int) (Lf := [srcP bks1 ca bs cc]) (Lr := []) (good := fun x => (x.2.2.1 ≤ 3 ∧ ∀ i, i < x.2.2.2.2.2.1.length → (x.2.2.2.2.2.1.getD i []).length ≤ 4 ∧ (x.2.2.2.2.2.1.getD i []).length ≤ (x.2.2.2.2.1 i).2) ∧ x.2.2.2.2.2.2.2.1 ≤ 5 ∧ x.2.2.2.2.2.2.2.2.2.2.2.1 ≤ 60) (φs := fun x => [srcP bks1 ca bs cc, RdR maK x.2.1 x.2.2.1 x.2.2.2.2.1 x.2.2.2.2.2.1, OwnI 2 x.2.2.2.2.2.2.1 x.2.2.2.2.2.2.2.1 x.2.2.2.2.2.2.2.2.1 x.2.2.2.2.2.2.2.2.2.1, OwnI 2 x.2.2.2.2.2.2.2.2.2.2.1 x.2.2.2.2.2.2.2.2.2.2.2.1 x.2.2.2.2.2.2.2.2.2.2.2.2.1 x.2.2.2.2.2.2.2.2.2.2.2.2.2]) (val := fun x => .tuple #[.int .i64 x.1, .slice x.2.1 x.2.2.1 x.2.2.2.1, .slice x.2.2.2.2.2.2.1 x.2.2.2.2.2.2.2.1 x.2.2.2.2.2.2.2.2.1, .slice x.2.2.2.2.2.2.2.2.2.2.1 x.2.2.2.2.2.2.2.2.2.2.2.1 x.2.2.2.2.2.2.2.2.2.2.2.2.1]) rfl Try.call109 trv1 rfl rfl (fun w M1 hs hk => spec_l16Draw_c bks1 ca bs cc  w M1 hs (hk _ kcode) hok ) ?_
 rintro ⟨v1, az1, nz1, cz1, Hz1, z1, aq1, nq1, cq1, q1, ad1, nd1, cd1, d1⟩ hr1
 try dsimp only at hr1
 refine rPieces (L' := [srcP bks1 ca bs cc, RdR maK az1 nz1 Hz1 z1, OwnI 2 aq1 nq1 cq1 q1, OwnI 2 ad1 nd1 cd1 d1]) (fun _ h => h) ?_
 refine rKnow (fun w hs => (show RdR maK az1 nz1 Hz1 z1 w from hs.at_ 1 rfl).1) (fun lenn2 => ?_)
 refine rKnow (fun w hs => (show OwnI 2 aq1 nq1 cq1 q1 w from hs.at_ 2 rfl).lenz) (fun lenn3 => ?_)
 refine rKnow (fun w hs => (show OwnI 2 ad1 nd1 cd1 d1 w from hs.at_ 3 rfl).lenz) (fun lenn4 => ?_)
 refine mv rfl rfl rfl ?_
 refine ext rfl rfl rfl rfl ?_
 refine ext rfl rfl rfl rfl ?_
 refine ext rfl rfl rfl rfl ?_
 refine ext rfl rfl rfl rfl ?_
 refine asI rfl rfl rfl ?_
 refine asS rfl rfl rfl ?_
 refine asS rfl rfl rfl ?_
 refine asS rfl rfl rfl ?_
 refine rNil ?_
 refine qSeq rfl ?_
 refine hSeq ?_
 refine hReg (sq 0 (sq 1 (sq 2 (sq 3 (sq 4 (sl 5 (sq 6 (sl 7 (sq 8 (sq 9 (sq 10 (sq 11 (sq 12 (sq 13 (sq 14 sz))))))))))))))) (by kernel_rfl) ?_
 refine mvI rfl rfl rfl ?_
 refine mvS rfl rfl rfl ?_
 refine mvS rfl rfl rfl ?_
 refine mvS rfl rfl rfl ?_
 refine mvP rfl rfl rfl ?_
 refine callMK (α := Int) (Lf := [srcP bks1 ca bs cc]) (Lr := [RdR maK az1 nz1 Hz1 z1, OwnI 2 aq1 nq1 cq1 q1, OwnI 2 ad1 nd1 cd1 d1]) (good := fun x => 0 ≤ x ∧ (x < (3 : Int) ∨ x = 0)) (φs := fun x => [srcP bks1 ca bs cc]) (val := fun x => .int .i64 x) rfl Try.call76 trv1 rfl rfl (fun w M1 hs hk => src_next bks1 ca bs cc (3 : Int) w M1 hs (hk _ kcode) hok) ?_
 intro x2 hx2
 try dsimp only at hx2
 refine rPieces (L' := [srcP bks1 ca bs cc, RdR maK az1 nz1 Hz1 z1, OwnI 2 aq1 nq1 cq1 q1, OwnI 2 ad1 nd1 cd1 d1]) (fun _ h => h) ?_
 refine mvP rfl rfl rfl ?_
 refine callMK (α := Int) (Lf := [srcP bks1 ca bs cc]) (Lr := [RdR maK az1 nz1 Hz1 z1, OwnI 2 aq1 nq1 cq1 q1, OwnI 2 ad1 nd1 cd1 d1]) (good := fun x => 0 ≤ x ∧ (x < (16 : Int) ∨ x = 0)) (φs := fun x => [srcP bks1 ca bs cc]) (val := fun x => .int .i64 x) rfl Try.call76 trv1 rfl rfl (fun w M1 hs hk => src_next bks1 ca bs cc (16 : Int) w M1 hs (hk _ kcode) hok) ?_
 intro x3 hx3
 try dsimp only at hx3
 refine rPieces (L' := [srcP bks1 ca bs cc, RdR maK az1 nz1 Hz1 z1, OwnI 2 aq1 nq1 cq1 q1, OwnI 2 ad1 nd1 cd1 d1]) (fun _ h => h) ?_
 refine quo rfl rfl rfl rfl (by omega) ?_
 refine sub rfl rfl rfl rfl (by omega) ?_
 refine asI rfl rfl rfl ?_
 refine asS rfl rfl rfl ?_
 refine asS rfl rfl rfl ?_
 refine asS rfl rfl rfl ?_
 refine asI rfl rfl rfl ?_
 refine rNil ?_
 refine qSeq rfl ?_
 refine hRet ?_
 exact fun w hs => ⟨[.int .i64 v1, .slice az1 nz1 cz1, .slice aq1 nq1 cq1, .slice ad1 nd1 cd1, .int .i64 ((x2 - (x3 / 15)))], ⟨rfl, ⟨rfl, ⟨rfl, ⟨rfl, ⟨rfl, trivial⟩⟩⟩⟩⟩, ⟨(v1, az1, nz1, cz1, Hz1, z1, aq1, nq1, cq1, q1, ad1, nd1, cd1, d1, (x2 - (x3 / 15))), rfl, by exact hr1, hs.pick [1, 1, 1]⟩⟩
theorem spec_DrawOutsOf_c (ca : Option Addr) (bs : List Int) (cc : Nat) (w : World) (rcode : CellsAt ca (bs.map (Value.int .u8)) w) (hok : okBytes bs) :
  Calls Try.prog 20 #[.slice ca bs.length cc] w (Ret fun v w' => ∃ x : Int × Option Addr × Nat × Nat × (Nat → Hd) × List (List Int) × Option Addr × Nat × Nat × List Int × Option Addr × Nat × Nat × List Int × Int, v = .tuple #[.int .i64 x.1, .slice x.2.1 x.2.2.1 x.2.2.2.1, .slice x.2.2.2.2.2.2.1 x.2.2.2.2.2.2.2.1 x.2.2.2.2.2.2.2.2.1, .slice x.2.2.2.2.2.2.2.2.2.2.1 x.2.2.2.2.2.2.2.2.2.2.2.1 x.2.2.2.2.2.2.2.2.2.2.2.2.1, .int .i64 x.2.2.2.2.2.2.2.2.2.2.2.2.2.2] ∧ ((x.2.2.1 ≤ 3 ∧ ∀ i, i < x.2.2.2.2.2.1.length → (x.2.2.2.2.2.1.getD i []).length ≤ 4 ∧ (x.2.2.2.2.2.1.getD i []).length ≤ (x.2.2.2.2.1 i).2) ∧ x.2.2.2.2.2.2.2.1 ≤ 5 ∧ x.2.2.2.2.2.2.2.2.2.2.2.1 ≤ 60) ∧ Sep w none_ [RdR maK x.2.1 x.2.2.1 x.2.2.2.2.1 x.2.2.2.2.2.1, OwnI 2 x.2.2.2.2.2.2.1 x.2.2.2.2.2.2.2.1 x.2.2.2.2.2.2.2.2.1 x.2.2.2.2.2.2.2.2.2.1, OwnI 2 x.2.2.2.2.2.2.2.2.2.2.1 x.2.2.2.2.2.2.2.2.2.2.2.1 x.2.2.2.2.2.2.2.2.2.2.2.2.1 x.2.2.2.2.2.2.2.2.2.2.2.2.2.1] w') := by
 have kcode : Kn w none_ [] (CellsAt ca (bs.map (Value.int .u8))) := fun w' hs => rcode.ext hs.upd
 refine fn (M := none_) (rs := [.tmp 2, .tmp 3, .tmp 4, .tmp 5, .tmp 6]) Try.func20 rfl Try.ntmps20 rfl rfl (Sep.start _ _) ?_
 refine hSeq ?_
 refine hReg (sq 0 (sq 1 (sq 2 (sq 3 (sq 4 sz))))) (by kernel_rfl) ?_
 refine asI rfl rfl rfl ?_
 refine asS rfl rfl rfl ?_
 refine asS rfl rfl rfl ?_
 refine asS rfl rfl rfl ?_
 refine asI rfl rfl rfl ?_
 refine rNil ?_
 refine qSeq rfl ?_
 refine hSeq ?_
 refine hReg (sq 0 (sl 1 (sq 2 (sq 3 (sq 4 (sq 5 (sq 6 (sq 7 (sq 8 (sq 9 (sq 10 (sq 11 sz)))))))))))) (by kernel_rfl) ?_
 refine mvS rfl rfl rfl ?_
 refine callS Try.call64 trv1 rfl rfl (fun w hs => spec_l16DrawPlayer_c _ _ _ w (kcode w hs) (by assumption)) ?_
 rintro ⟨v1, az1, nz1, cz1, Hz1, z1, aq1, nq1, cq1, q1, ad1, nd1, cd1, d1, p1⟩ hr1
 try dsimp only at hr1
 refine rKnow (fun w hs => (show RdR maK az1 nz1 Hz1 z1 w from hs.at_ 0 rfl).1) (fun lenn1 => ?_)
 refine rKnow (fun w hs => (show OwnI 2 aq1 nq1 cq1 q1 w from hs.at_ 1 rfl).lenz) (fun lenn2 => ?_)
 refine rKnow (fun w hs => (show OwnI 2 ad1 nd1 cd1 d1 w from hs.at_ 2 rfl).lenz) (fun lenn3 => ?_)
 refine ext rfl rfl rfl rfl ?_
 refine ext rfl rfl rfl rfl ?_
 refine ext rfl rfl rfl rfl ?_
 refine ext rfl rfl rfl rfl ?_
 refine ext rfl rfl rfl rfl ?_
 refine asI rfl rfl rfl ?_
 refine asS rfl rfl rfl ?_
 refine asS rfl rfl rfl ?_
 refine asS rfl rfl rfl ?_
 refine asI rfl rfl rfl ?_
 refine rNil ?_
 refine qSeq rfl ?_
 refine hRet ?_
 exact fun w hs => ⟨[.int .i64 v1, .slice az1 nz1 cz1, .slice aq1 nq1 cq1, .slice ad1 nd1 cd1, .int .i64 p1], ⟨rfl, ⟨rfl, ⟨rfl, ⟨rfl, ⟨rfl, trivial⟩⟩⟩⟩⟩, ⟨(v1, az1, nz1, cz1, Hz1, z1, aq1, nq1, cq1, q1, ad1, nd1, cd1, d1, p1), rfl, by exact hr1, hs.pick [0, 0, 0]⟩⟩
end Go.Proofs.Yteaahdakammffaa
/- Contracts of what the law on outs calls. Their conditions stand in each. -/
namespace Go.Proofs.Yteaahdakammffaa
open Go Go.RowKit V
set_option linter.unusedVariables false
set_option linter.unusedSimpArgs false
set_option maxRecDepth 100000
theorem die_below (bk : Nat) (ca : Option Addr) (bs : List Int) (cc : Nat) (n : Int) (w : World) (M0 : Nat → Prop) (hs0 : V.Sep w M0 [dieP bk ca bs cc] w) (hc : Kn w M0 [] (CellsAt ca (bs.map (Value.int .u8)))) (hok : okBytes bs) (hn : 1 ≤ n) :
  Calls Try.prog 26 #[.pointer (some ⟨bk, 0, none⟩), .int .i64 n] w (Ret fun v w' => ∃ x : Int, v = .int .i64 x ∧ (0 ≤ x ∧ x < n) ∧ V.Sep w M0 [dieP bk ca bs cc] w') :=
 Calls.mono (below_c bk ca bs cc n w (die_in hs0 hc hok) hn) fun e w' ⟨v, he, x, hv, hx, hu, h⟩ => ⟨v, he, x, hv, hx, die_out hs0 hu h⟩
theorem impl_OtherCards_c (az : Option Addr) (nz : Nat) (cz : Nat) (z : List Int) (w : World) (rz : RdI az nz z w) (hab : Iso.areB z = true) (hzl : z.length ≤ 1000) :
  Calls Try.prog 25 #[.slice az nz cz] w (Ret fun v w' => ∃ x : Option Addr × Nat × Nat × List Int, v = .tuple #[.slice x.1 x.2.1 x.2.2.1, .int .i64 0] ∧ (x.2.2.2 = Iso.others z 52) ∧ Sep w none_ [OwnI 2 x.1 x.2.1 x.2.2.1 x.2.2.2] w') := by
 have kz : Kn w none_ [] (RdI az nz z) := fun w' hs => rz.ext hs.upd
 have lz : z.length = nz := rz.1
 have mz : nz ≤ 9223372036854775807 := rz.2.1
 have hcz := (Iso.areB_P hab).1
 refine fn (M := none_) (rs := [.tmp 2, .tmp 3]) Try.func25 rfl Try.ntmps25 rfl rfl (Sep.start _ _) ?_
 refine hSeq ?_
 refine hReg (sq 0 (sq 1 sz)) (by kernel_rfl) ?_
 refine asS rfl rfl rfl ?_
 refine asI rfl rfl rfl ?_
 refine rNil ?_
 refine qSeq rfl ?_
 refine hSeq ?_
 refine hSeq ?_
 refine hReg (sq 0 (sl 1 (sq 2 sz))) (by kernel_rfl) ?_
 refine mvS rfl rfl rfl ?_
 refine callP (v := .bool (Iso.areB z)) Try.call72 trv rfl rfl (fun w hs => impl_AreCards_c _ nz cz _ w (kz w hs)) ?_
 refine not rfl rfl rfl ?_
 refine rNil ?_
 refine qSeq rfl ?_
 refine hIfN rfl (fun c1 => ?_) (fun c1 => ?_)
 ·
  replace c1 : (Iso.areB z) = false := c1
  exact absurd hab (by simpa using c1)
 ·
  replace c1 : (Iso.areB z) = true := c1
  refine hSkip ?_
  refine qSeq rfl ?_
  refine hSeq ?_
  refine hReg (sq 0 (sl 1 (sq 2 (sq 3 sz)))) (by kernel_rfl) ?_
  refine mvS rfl rfl rfl ?_
  refine callS Try.call73 trv1 rfl rfl (fun w hs => impl_otherCards_c _ nz cz _ w (kz w hs) (by assumption)) ?_
  rintro ⟨ay1, ny1, cy1, y1⟩ hr1
  dsimp only at hr1
  subst y1
  refine rKnow (fun w hs => (show OwnI 2 ay1 ny1 cy1 (Iso.others z 52) w from hs.at_ 0 rfl).lenz) (fun lenn1 => ?_)
  refine rVal (v' := .slice ay1 ny1 cy1) rfl ?_
  refine asS rfl rfl rfl ?_
  refine asI rfl rfl rfl ?_
  refine rNil ?_
  refine qSeq rfl ?_
  refine hRet ?_
  exact fun w hs => ⟨[.slice ay1 ny1 cy1, .int .i64 0], ⟨rfl, ⟨rfl, trivial⟩⟩, ⟨(ay1, ny1, cy1, (Iso.others z 52)), rfl, rfl, hs.pick [0]⟩⟩
end Go.Proofs.Yteaahdakammffaa
/- Arguments of laws, opened. No condition. -/
namespace Go.Proofs.Yteaahdakammffaa
open Go Go.RowKit V Go.ChangeShapes Go.WideShapes Go.ChangeAt
set_option linter.unusedVariables false
set_option linter.unusedSimpArgs false
set_option maxRecDepth 100000
end Go.Proofs.Yteaahdakammffaa
