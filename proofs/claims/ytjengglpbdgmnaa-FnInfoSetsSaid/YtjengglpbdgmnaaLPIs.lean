/- Contracts of parts of weights. Their conditions stand in each. -/
import Derived.Test.YtjengglpbdgmnaaEngCIs
import Derived.Test.YtjengglpbdgmnaaTreeIs
import Derived.Test.YtjengglpbdgmnaaPartsIs
import Derived.Test.YtjengglpbdgmnaaL1Is
import Derived.Test.YtjengglpbdgmnaaL2Is
import Derived.Test.YtjengglpbdgmnaaRows
namespace Go.Proofs.Ytjengglpbdgmnaa
open Go Go.RowKit V
set_option linter.unusedVariables false
set_option linter.unusedSimpArgs false
set_option maxRecDepth 100000
theorem mk28 : Mk Try.prog 28 2 1 8 [.int .i64 0] := ⟨Try.underlying28, Try.t2, _, by kernel_rfl, rfl, rfl, rfl, rfl, rfl, by decide, by decide⟩
theorem bsl28_0   : ∀ w, (Instr.buildSlice 28 0 ([] : List (Nat × Value)).toArray).run Try.prog w = .ok (.slice (some ⟨w.heap.size, 0, none⟩) 0 0) (w.alloc (.cells ([] : List Value).toArray 2)) := by
 intro w; simp [Instr.buildSlice, Instr.fill, Try.zeroValue2, Try.runUnderlying28, Try.sizeOf2, Value.cells_int, newRow, show Array.range 0 = #[] from by decide]
theorem bsl28_1 (v0 : Value) (h0 : v0.cells = #[v0]) : ∀ w, (Instr.buildSlice 28 1 ([(0, v0)] : List (Nat × Value)).toArray).run Try.prog w = .ok (.slice (some ⟨w.heap.size, 0, none⟩) 1 1) (w.alloc (.cells ([v0] : List Value).toArray 2)) := by
 intro w; simp [Instr.buildSlice, Instr.fill, Try.zeroValue2, Try.runUnderlying28, Try.sizeOf2, Value.cells_int, newRow, show Array.range 1 = #[0] from by decide, h0]
theorem slices_Index_int64_int64_c (az : Option Addr) (nz : Nat) (cz : Nat) (z : List Int) (x0 : Int) (w : World) (rz : RdI az nz z w) :
  Calls Try.prog 103 #[.slice az nz cz, .int .i64 x0] w (Ret fun v w' => v = .int .i64 (Math.indexOf z x0) ∧ Ext w w') := by
 have kz : Kn w none_ [] (RdI az nz z) := fun w' hs => rz.ext hs.upd
 have lz : z.length = nz := rz.1
 have mz : nz ≤ 9223372036854775807 := rz.2.1
 refine fn (M := none_) (rs := [.tmp 4]) Try.func103 rfl Try.ntmps103 rfl rfl (Sep.start _ _) ?_
 refine hSeq ?_
 refine hReg (sq 0 sz) (by kernel_rfl) ?_
 refine asI rfl rfl rfl ?_
 refine rNil ?_
 refine qSeq rfl ?_
 refine hSeq ?_
 refine hSeq ?_
 refine hReg (sq 0 (sq 1 (sq 2 sz))) (by kernel_rfl) ?_
 refine mvS rfl rfl rfl ?_
 refine lenS Try.runUnderlying28 rfl rfl rfl ?_
 refine mvI rfl rfl rfl ?_
 refine rNil ?_
 refine qSeq rfl ?_
 refine hBlk ?_
 refine hLoop (α := Nat) (fun i => i ≤ nz ∧ ∀ j, j < i → z.getD j 0 ≠ x0) (fun i => nz - i) (fun i => []) (fun i => [(0, .slice az nz cz), (1, .int .i64 x0), (7, .int .i64 (nz : Int)), (8, .int .i64 (i : Int))]) 0 ⟨Nat.zero_le _, fun j hj => by omega⟩ (fun _ h => h.pick []) ⟨rfl, rfl, rfl, rfl, trivial⟩ ?_
 rintro i τ1 ⟨hi, hal⟩
 refine hSeq ?_
 refine hReg (sq 0 sz) (by kernel_rfl) ?_
 refine lss rfl rfl rfl rfl ?_
 refine rNil ?_
 refine qSeq rfl ?_
 refine hSeq ?_
 refine hIfD rfl (fun c1 => ?_) (fun c1 => ?_)
 ·
  replace c1 : (i : Int) < (nz : Int) := c1
  refine hSkip ?_
  refine qSeq rfl ?_
  refine hSeq ?_
  refine hBlk ?_
  refine hSeq ?_
  refine hReg (sq 0 (sq 1 sz)) (by kernel_rfl) ?_
  refine mvI rfl rfl rfl ?_
  refine asI rfl rfl rfl ?_
  refine rNil ?_
  refine qSeq rfl ?_
  refine hSeq ?_
  refine hReg (sq 0 (sq 1 (sq 2 (sq 3 (sl 4 (sq 5 sz)))))) (by kernel_rfl) ?_
  refine mvI rfl rfl rfl ?_
  refine mvS rfl rfl rfl ?_
  refine mvI rfl rfl rfl ?_
  refine ixIl (zn := i) el28 (kz) rfl rfl rfl rfl (by omega) (by omega) rfl ?_
  intro ae1 e1
  refine ldl Try.isAgg2 (e1) trv rfl rfl rfl ?_
  refine eql rfl rfl rfl rfl ?_
  refine rNil ?_
  refine qSeq rfl ?_
  refine hIfD rfl (fun c2 => ?_) (fun c2 => ?_)
  ·
   replace c2 : x0 = (z.getD i 0) := c2
   refine hSeq ?_
   refine hReg (sq 0 (sq 1 sz)) (by kernel_rfl) ?_
   refine mvI rfl rfl rfl ?_
   refine asI rfl rfl rfl ?_
   refine rNil ?_
   refine qSeq rfl ?_
   refine hRet ?_
   exact fun w hs => ⟨[.int .i64 (i : Int)], ⟨rfl, trivial⟩, ⟨vI (Math.indexOf_yes (by omega) (by omega) hal).symm, hs.upd⟩⟩
  ·
   replace c2 : ¬ (x0 = (z.getD i 0)) := c2
   refine hSkip ?_
   refine qSeq rfl ?_
   refine hReg (sq 0 (sq 1 sz)) (by kernel_rfl) ?_
   refine add rfl rfl rfl rfl (by omega) ?_
   refine mvI rfl rfl rfl ?_
   refine rNil ?_
   exact qNext rfl (i + 1) (by omega) ⟨by omega, Math.upto hal (by omega)⟩ ⟨rfl, rfl, rfl, rfl, trivial⟩ (fun _ h => h.pick [])
 ·
  replace c1 : ¬ ((i : Int) < (nz : Int)) := c1
  refine hExit rfl ?_
  refine qSeq rfl ?_
  refine hSeq ?_
  refine hReg (sq 0 sz) (by kernel_rfl) ?_
  refine asI rfl rfl rfl ?_
  refine rNil ?_
  refine qSeq rfl ?_
  refine hRet ?_
  exact fun w hs => ⟨[.int .i64 (-1)], ⟨rfl, trivial⟩, ⟨vI (Math.indexOf_no fun j hj => hal j (by omega)).symm, hs.upd⟩⟩
theorem slices_Max_int64_int64_c (az : Option Addr) (nz : Nat) (cz : Nat) (z : List Int) (w : World) (rz : RdI az nz z w) (h1 : 1 ≤ nz) :
  Calls Try.prog 138 #[.slice az nz cz] w (Ret fun v w' => v = .int .i64 ((z.getD (Math.best z) 0)) ∧ Ext w w') := by
 have kz : Kn w none_ [] (RdI az nz z) := fun w' hs => rz.ext hs.upd
 have lz : z.length = nz := rz.1
 have mz : nz ≤ 9223372036854775807 := rz.2.1
 refine fn (M := none_) (rs := [.tmp 2]) Try.func138 rfl Try.ntmps138 rfl rfl (Sep.start _ _) ?_
 refine hSeq ?_
 refine hReg (sq 0 sz) (by kernel_rfl) ?_
 refine asI rfl rfl rfl ?_
 refine rNil ?_
 refine qSeq rfl ?_
 refine hSeq ?_
 refine hSeq ?_
 refine hReg (sq 0 (sq 1 (sq 2 sz))) (by kernel_rfl) ?_
 refine mvS rfl rfl rfl ?_
 refine lenS Try.runUnderlying28 rfl rfl rfl ?_
 refine lss rfl rfl rfl rfl ?_
 refine rNil ?_
 refine qSeq rfl ?_
 refine hIfD rfl (fun c1 => ?_) (fun c1 => ?_)
 ·
  replace c1 : (nz : Int) < 1 := c1
  exact absurd c1 (by omega)
 ·
  replace c1 : ¬ ((nz : Int) < 1) := c1
  refine hSkip ?_
  refine qSeq rfl ?_
  refine hSeq ?_
  refine hReg (sq 0 (sq 1 (sl 2 (sq 3 sz)))) (by kernel_rfl) ?_
  refine mvS rfl rfl rfl ?_
  refine ixIl (zn := 0) el28 (kz) rfl rfl rfl rfl (by omega) (by omega) rfl ?_
  intro ae1 e1
  refine ldl Try.isAgg2 (e1) trv rfl rfl rfl ?_
  refine asI rfl rfl rfl ?_
  refine rNil ?_
  refine qSeq rfl ?_
  refine hSeq ?_
  refine hSeq ?_
  refine hReg (sq 0 sz) (by kernel_rfl) ?_
  refine asI rfl rfl rfl ?_
  refine rNil ?_
  refine qSeq rfl ?_
  refine hBlk ?_
  refine hLoop (α := Nat × Int) (fun x => x.1 + 1 ≤ nz ∧ x.2 = z.getD (Math.bestTo z x.1) 0) (fun x => nz - x.1) (fun x => []) (fun x => [(0, .slice az nz cz), (3, .int .i64 x.2), (4, .int .i64 (((x.1 : Int) + 1)))]) (0, z.getD 0 0) ⟨by dsimp only; omega, rfl⟩ (fun _ h => h.pick []) ⟨rfl, rfl, rfl, trivial⟩ ?_
  rintro ⟨k, m⟩ τ1 ⟨hk, hm⟩
  dsimp only at hk hm
  refine hRe [(0, .slice az nz cz), (3, .int .i64 m), (4, .int .i64 (((k : Int) + 1)))] [] rfl rfl ?_
  refine hSeq ?_
  refine hSeq ?_
  refine hReg (sq 0 (sq 1 (sq 2 (sq 3 sz)))) (by kernel_rfl) ?_
  refine mvI rfl rfl rfl ?_
  refine mvS rfl rfl rfl ?_
  refine lenS Try.runUnderlying28 rfl rfl rfl ?_
  refine lss rfl rfl rfl rfl ?_
  refine rNil ?_
  refine qSeq rfl ?_
  refine hIfD rfl (fun c2 => ?_) (fun c2 => ?_)
  ·
   replace c2 : ((k : Int) + 1) < (nz : Int) := c2
   refine hSkip ?_
   refine qSeq rfl ?_
   refine hSeq ?_
   refine hBlk ?_
   refine hReg (sq 0 (sq 1 (sq 2 (sq 3 (sl 4 (sq 5 (sq 6 sz))))))) (by kernel_rfl) ?_
   refine mvI rfl rfl rfl ?_
   refine mvS rfl rfl rfl ?_
   refine mvI rfl rfl rfl ?_
   refine ixIl (zn := (k + 1)) el28 (kz) rfl rfl rfl rfl (by omega) (by omega) rfl ?_
   intro ae2 e2
   refine ldl Try.isAgg2 (e2) trv rfl rfl rfl ?_
   refine max2 rfl rfl rfl rfl ?_
   refine asI rfl rfl rfl ?_
   refine rNil ?_
   refine qSeq rfl ?_
   refine hReg (sq 0 (sq 1 (sq 2 sz))) (by kernel_rfl) ?_
   refine mvI rfl rfl rfl ?_
   refine add rfl rfl rfl rfl (by omega) ?_
   refine asI rfl rfl rfl ?_
   refine rNil ?_
   exact qNext rfl ((k + 1, max m (z.getD (k + 1) 0))) (by dsimp only; omega) ⟨by dsimp only; omega, by dsimp only [Math.bestTo]; rw [hm]; split <;> omega⟩ ⟨rfl, rfl, rfl, trivial⟩ (fun _ h => h.pick [])
  ·
   replace c2 : ¬ (((k : Int) + 1) < (nz : Int)) := c2
   refine hExit rfl ?_
   refine qSeq rfl ?_
   refine hSeq ?_
   refine hReg (sq 0 (sq 1 sz)) (by kernel_rfl) ?_
   refine mvI rfl rfl rfl ?_
   refine asI rfl rfl rfl ?_
   refine rNil ?_
   refine qSeq rfl ?_
   refine hRet ?_
   exact fun w hs => ⟨[.int .i64 m], ⟨rfl, trivial⟩, ⟨vI (by unfold Math.best; rw [hm, show z.length - 1 = k from by omega]), hs.upd⟩⟩
set_option maxHeartbeats 1000000 in
theorem spec_l22Parts_c_r (kk_ : Nat) : ∀ (az : Option Addr) (nz : Nat) (cz : Nat) (z : List Int) (w : World), (if z.sum = 0 then 1 else 0) = kk_ → RdI az nz z w → (∀ x ∈ z, 0 ≤ x ∧ x ≤ 1000000000) → (z.length ≤ 1000000) → (1 ≤ z.length) → Calls Try.prog 163 #[.slice az nz cz] w (Ret fun v w' => ∃ x : Option Addr × Nat × Nat × List Int, v = .slice x.1 x.2.1 x.2.2.1 ∧ (x.2.2.2 = Math.partsOf z) ∧ Sep w none_ [OwnI 2 x.1 x.2.1 x.2.2.1 x.2.2.2] w') := by
 induction kk_ using Nat.strongRecOn with
 | _ kk_ ih =>
  intro az nz cz z w hK rz hb hl h1
  have kz : Kn w none_ [] (RdI az nz z) := fun w' hs => rz.ext hs.upd
  have lz : z.length = nz := rz.1
  have mz : nz ≤ 9223372036854775807 := rz.2.1
  have hs0 := (Math.le_sum fun x hx => (hb x hx).1).1
  have hps := Math.pout_sum hb
  have hsz := Math.sum_bd hb z.length (Nat.le_refl _)
  rw [List.take_of_length_le (Nat.le_refl _)] at hsz
  refine fn (M := none_) (rs := [.tmp 2]) Try.func163 rfl Try.ntmps163 rfl rfl (Sep.start _ _) ?_
  refine hSeq ?_
  refine hReg (sq 0 sz) (by kernel_rfl) ?_
  refine asS rfl rfl rfl ?_
  refine rNil ?_
  refine qSeq rfl ?_
  refine hSeq ?_
  refine hReg (sq 0 (sl 1 (sq 2 sz))) (by kernel_rfl) ?_
  refine mvS rfl rfl rfl ?_
  refine callP (v := .int .i64 z.sum) Try.call125 trv rfl rfl (fun w hs => spec_l01Sum_c _ _ _ _ w (kz w hs) (by first | assumption | (intro x hx; have := Math.pout_bd hb x hx; omega)) (by first | omega | (rw [Math.pout_len]; omega))) ?_
  refine asI rfl rfl rfl ?_
  refine rNil ?_
  refine qSeq rfl ?_
  refine hSeq ?_
  refine hSeq ?_
  refine hReg (sq 0 (sq 1 sz)) (by kernel_rfl) ?_
  refine mvI rfl rfl rfl ?_
  refine eql rfl rfl rfl rfl ?_
  refine rNil ?_
  refine qSeq rfl ?_
  refine hIfD rfl (fun c1 => ?_) (fun c1 => ?_)
  ·
   replace c1 : z.sum = 0 := c1
   refine hSeq ?_
   refine hReg (sl 0 (sq 1 sz)) (by kernel_rfl) ?_
   refine bsl trv1 rfl rfl rfl (bsl28_0) (fun bkl1 hbkl1 => ?_)
   refine asS rfl rfl rfl ?_
   refine rNil ?_
   refine qSeq rfl ?_
   refine hSeq ?_
   refine hSeq ?_
   refine hReg (sq 0 sz) (by kernel_rfl) ?_
   refine asI rfl rfl rfl ?_
   refine rNil ?_
   refine qSeq rfl ?_
   refine hBlk ?_
   refine hPieces (fun _ h => Sep.litI h 0 [] rfl rfl rfl) ?_
   refine hLoop (α := Nat × Nat × Hd) (fun x => x.1 ≤ nz ∧ x.2.1 = x.1) (fun x => nz - x.1) (fun x => [OwnI 2 x.2.2.1 x.2.1 x.2.2.2 (List.replicate x.1 1)]) (fun x => [(0, .slice az nz cz), (4, .slice x.2.2.1 x.2.1 x.2.2.2), (5, .int .i64 (x.1 : Int))]) ((0, 0, ((some ⟨bkl1, 0, none⟩), 0))) ⟨Nat.zero_le _, rfl⟩ (fun _ h => h.pick [0]) ⟨rfl, rfl, rfl, trivial⟩ ?_
   rintro ⟨i, q, hd⟩ τ1 ⟨hi, hq⟩
   dsimp only at hi hq
   refine hRe [(0, .slice az nz cz), (4, .slice hd.1 q hd.2), (5, .int .i64 (i : Int))] [OwnI 2 hd.1 q hd.2 (List.replicate i 1)] rfl rfl ?_
   refine hSeq ?_
   refine hSeq ?_
   refine hReg (sq 0 (sq 1 (sq 2 (sq 3 sz)))) (by kernel_rfl) ?_
   refine mvI rfl rfl rfl ?_
   refine mvS rfl rfl rfl ?_
   refine lenS Try.runUnderlying28 rfl rfl rfl ?_
   refine lss rfl rfl rfl rfl ?_
   refine rNil ?_
   refine qSeq rfl ?_
   refine hIfD rfl (fun c2 => ?_) (fun c2 => ?_)
   ·
    replace c2 : (i : Int) < (nz : Int) := c2
    refine hSkip ?_
    refine qSeq rfl ?_
    refine hSeq ?_
    refine hBlk ?_
    refine hReg (sq 0 (sl 1 (sl 2 (sq 3 sz)))) (by kernel_rfl) ?_
    refine mvS rfl rfl rfl ?_
    refine bsl trv1 rfl rfl rfl (bsl28_1 (.int .i64 _) rfl) (fun bkl2 hbkl2 => ?_)
    refine aplI (N := q) (x := 1) 1 0 rfl rfl mk28 trv1 rfl rfl rfl rfl (by omega) ?_
    intro aq1 cq1
    refine asS rfl rfl rfl ?_
    refine rNil ?_
    refine qSeq rfl ?_
    refine hReg (sq 0 (sq 1 (sq 2 sz))) (by kernel_rfl) ?_
    refine mvI rfl rfl rfl ?_
    refine add rfl rfl rfl rfl (by omega) ?_
    refine asI rfl rfl rfl ?_
    refine rNil ?_
    rw [← List.replicate_succ']
    exact qNext rfl ((i + 1, q + 1, (aq1, cq1))) (by dsimp only; omega) ⟨by dsimp only; omega, by dsimp only; omega⟩ ⟨rfl, rfl, rfl, trivial⟩ (fun _ h => h.pick [1])
   ·
    replace c2 : ¬ ((i : Int) < (nz : Int)) := c2
    refine hExit rfl ?_
    refine qSeq rfl ?_
    refine hSeq ?_
    refine hReg (sq 0 (sl 1 (sq 2 sz))) (by kernel_rfl) ?_
    refine mvS rfl rfl rfl ?_
    refine callS Try.call163 trv1 rfl rfl (fun w hs => ih _ (by rw [← hK, if_pos c1, if_neg (by rw [Math.rep_sum]; omega)]; decide) _ _ _ _ w rfl (OwnI.rd (hs.at_ 0 rfl)) (by intro x hx; rw [List.eq_of_mem_replicate hx]; decide) (by rw [List.length_replicate]; omega) (by rw [List.length_replicate]; omega)) ?_
    rintro ⟨ay2, ny2, cy2, y2⟩ hr2
    try dsimp only at hr2
    refine asS rfl rfl rfl ?_
    refine rNil ?_
    refine qSeq rfl ?_
    refine hRet ?_
    exact fun w hs => ⟨[.slice ay2 ny2 cy2], ⟨rfl, trivial⟩, ⟨(ay2, ny2, cy2, y2), rfl, by dsimp only; rw [hr2, show i = z.length from by omega, Math.partsOf_ones c1], hs.pick [0]⟩⟩
  ·
   replace c1 : ¬ (z.sum = 0) := c1
   refine hSkip ?_
   refine qSeq rfl ?_
   refine hSeq ?_
   refine hReg (sl 0 (sl 1 (sq 2 (sq 3 sz)))) (by kernel_rfl) ?_
   refine bsl trv1 rfl rfl rfl (bsl28_0) (fun bkl4 hbkl4 => ?_)
   refine bsl trv1 rfl rfl rfl (bsl28_0) (fun bkl5 hbkl5 => ?_)
   refine asS rfl rfl rfl ?_
   refine asS rfl rfl rfl ?_
   refine rNil ?_
   refine qSeq rfl ?_
   refine hSeq ?_
   refine hSeq ?_
   refine hReg (sq 0 sz) (by kernel_rfl) ?_
   refine asI rfl rfl rfl ?_
   refine rNil ?_
   refine qSeq rfl ?_
   refine hBlk ?_
   refine hPieces (fun _ h => Sep.litI h 1 [] rfl rfl rfl) ?_
   refine hPieces (fun _ h => Sep.litI h 0 [] rfl rfl rfl) ?_
   refine hLoop (α := Nat × Nat × Hd × Hd) (fun x => x.1 ≤ nz ∧ x.2.1 = x.1) (fun x => nz - x.1) (fun x => [OwnI 2 x.2.2.2.1 x.2.1 x.2.2.2.2 (((Math.prest z).take x.1)), OwnI 2 x.2.2.1.1 x.2.1 x.2.2.1.2 (((Math.pout z).take x.1))]) (fun x => [(0, .slice az nz cz), (3, .int .i64 z.sum), (6, .slice x.2.2.1.1 x.2.1 x.2.2.1.2), (7, .slice x.2.2.2.1 x.2.1 x.2.2.2.2), (8, .int .i64 (x.1 : Int))]) ((0, 0, ((some ⟨bkl4, 0, none⟩), 0), ((some ⟨bkl5, 0, none⟩), 0))) ⟨Nat.zero_le _, rfl⟩ (fun _ h => h.pick [0, 0]) ⟨rfl, rfl, rfl, rfl, rfl, trivial⟩ ?_
   rintro ⟨i, q, hd, hd2⟩ τ2 ⟨hi, hq⟩
   dsimp only at hi hq
   refine hRe [(0, .slice az nz cz), (3, .int .i64 z.sum), (6, .slice hd.1 q hd.2), (7, .slice hd2.1 q hd2.2), (8, .int .i64 (i : Int))] [OwnI 2 hd2.1 q hd2.2 (((Math.prest z).take i)), OwnI 2 hd.1 q hd.2 (((Math.pout z).take i))] rfl rfl ?_
   refine hSeq ?_
   refine hSeq ?_
   refine hReg (sq 0 (sq 1 (sq 2 (sq 3 sz)))) (by kernel_rfl) ?_
   refine mvI rfl rfl rfl ?_
   refine mvS rfl rfl rfl ?_
   refine lenS Try.runUnderlying28 rfl rfl rfl ?_
   refine lss rfl rfl rfl rfl ?_
   refine rNil ?_
   refine qSeq rfl ?_
   refine hIfD rfl (fun c3 => ?_) (fun c3 => ?_)
   ·
    replace c3 : (i : Int) < (nz : Int) := c3
    have hzi := hb _ (Math.getD_mem 0 (show i < z.length by omega))
    refine hSkip ?_
    refine qSeq rfl ?_
    refine hSeq ?_
    refine hBlk ?_
    refine hSeq ?_
    refine hReg (sq 0 (sq 1 (sq 2 (sq 3 (sl 4 (sq 5 (sq 6 (sq 7 (sl 8 (sl 9 (sq 10 sz))))))))))) (by kernel_rfl) ?_
    refine mvS rfl rfl rfl ?_
    refine mvS rfl rfl rfl ?_
    refine mvI rfl rfl rfl ?_
    refine ixIl (zn := i) el28 (Kn.drop (k := 2) kz) rfl rfl rfl rfl (by omega) (by omega) rfl ?_
    intro ae3 e3
    refine ldl Try.isAgg2 (e3) trv rfl rfl rfl ?_
    refine mul rfl rfl rfl rfl (by omega) ?_
    refine mvI rfl rfl rfl ?_
    refine quo rfl rfl rfl rfl (by omega) ?_
    refine bsl trv1 rfl rfl rfl (bsl28_1 (.int .i64 _) rfl) (fun bkl6 hbkl6 => ?_)
    refine aplI (N := q) (x := (((60 * (z.getD i 0))) / z.sum)) 2 0 rfl rfl mk28 trv1 rfl rfl rfl rfl (by omega) ?_
    intro aq4 cq4
    refine asS rfl rfl rfl ?_
    refine rNil ?_
    refine qSeq rfl ?_
    refine hReg (sq 0 (sq 1 (sq 2 (sq 3 (sl 4 (sq 5 (sq 6 (sq 7 (sl 8 (sl 9 (sq 10 sz))))))))))) (by kernel_rfl) ?_
    refine mvS rfl rfl rfl ?_
    refine mvS rfl rfl rfl ?_
    refine mvI rfl rfl rfl ?_
    refine ixIl (zn := i) el28 (Kn.drop (k := 3) kz) rfl rfl rfl rfl (by omega) (by omega) rfl ?_
    intro ae5 e5
    refine ldl Try.isAgg2 (e5) trv rfl rfl rfl ?_
    refine mul rfl rfl rfl rfl (by omega) ?_
    refine mvI rfl rfl rfl ?_
    refine rem rfl rfl rfl rfl (by omega) ?_
    refine bsl trv1 rfl rfl rfl (bsl28_1 (.int .i64 _) rfl) (fun bkl7 hbkl7 => ?_)
    refine aplI (N := q) (x := (((60 * (z.getD i 0))) % z.sum)) 2 0 rfl rfl mk28 trv1 rfl rfl rfl rfl (by omega) ?_
    intro aq6 cq6
    refine asS rfl rfl rfl ?_
    refine rNil ?_
    refine qSeq rfl ?_
    refine hReg (sq 0 (sq 1 (sq 2 sz))) (by kernel_rfl) ?_
    refine mvI rfl rfl rfl ?_
    refine add rfl rfl rfl rfl (by omega) ?_
    refine asI rfl rfl rfl ?_
    refine rNil ?_
    rw [Math.pout_add c1 (by omega), Math.prest_add c1 (by omega)]
    exact qNext rfl ((i + 1, q + 1, (aq4, cq4), (aq6, cq6))) (by dsimp only; omega) ⟨by dsimp only; omega, by dsimp only; omega⟩ ⟨rfl, rfl, rfl, rfl, rfl, trivial⟩ (fun _ h => h.pick [2, 2])
   ·
    replace c3 : ¬ ((i : Int) < (nz : Int)) := c3
    rw [List.take_of_length_le (l := Math.pout z) (by rw [Math.pout_len]; omega)]
    rw [List.take_of_length_le (l := Math.prest z) (by rw [Math.prest_len]; omega)]
    refine hExit rfl ?_
    refine qSeq rfl ?_
    refine hSeq ?_
    refine hSeq ?_
    refine hReg (sq 0 (sl 1 (sq 2 (sq 3 sz)))) (by kernel_rfl) ?_
    refine mvS rfl rfl rfl ?_
    refine callP (v := .int .i64 ((Math.pout z).sum)) Try.call125 trv rfl rfl (fun w hs => spec_l01Sum_c _ _ _ _ w (OwnI.rd (hs.at_ 1 rfl)) (by first | assumption | (intro x hx; have := Math.pout_bd hb x hx; omega)) (by first | omega | (rw [Math.pout_len]; omega))) ?_
    refine sub rfl rfl rfl rfl (by omega) ?_
    refine asI rfl rfl rfl ?_
    refine rNil ?_
    refine qSeq rfl ?_
    refine hBlk ?_
    refine hLoop (α := Int × List Int × List Int) (fun x => Math.rounds x.1.toNat (x.2.1, x.2.2) = Math.rounds (60 - (Math.pout z).sum).toNat (Math.pout z, Math.prest z) ∧ (x.2.1.length = q ∧ x.2.2.length = q) ∧ (x.1 ≤ 60 ∧ ∀ u ∈ x.2.1, 0 ≤ u ∧ u + x.1 ≤ 120)) (fun x => x.1.toNat) (fun x => [OwnI 2 hd2.1 q hd2.2 x.2.2, OwnI 2 hd.1 q hd.2 x.2.1]) (fun x => [(6, .slice hd.1 q hd.2), (7, .slice hd2.1 q hd2.2), (9, .int .i64 x.1)]) ((60 - (Math.pout z).sum, Math.pout z, Math.prest z)) (⟨rfl, ⟨by dsimp only; rw [Math.pout_len]; omega, by dsimp only; rw [Math.prest_len]; omega⟩, by dsimp only; omega, fun u hu => by have := Math.pout_bd hb u hu; dsimp only; omega⟩) (fun _ h => h.pick [0, 0]) ⟨rfl, rfl, rfl, trivial⟩ ?_
    rintro ⟨m, o, r⟩ τ3 ⟨hro, ⟨hol, hrl⟩, hm60, hob⟩
    dsimp only at hro hol hrl hm60 hob
    refine hRe [(6, .slice hd.1 q hd.2), (7, .slice hd2.1 q hd2.2), (9, .int .i64 m)] [OwnI 2 hd2.1 q hd2.2 r, OwnI 2 hd.1 q hd.2 o] rfl rfl ?_
    refine hSeq ?_
    refine hSeq ?_
    refine hReg (sq 0 (sq 1 sz)) (by kernel_rfl) ?_
    refine mvI rfl rfl rfl ?_
    refine gtr rfl rfl rfl rfl ?_
    refine rNil ?_
    refine qSeq rfl ?_
    refine hIfD rfl (fun c4 => ?_) (fun c4 => ?_)
    ·
     replace c4 : 0 < m := c4
     refine hSkip ?_
     refine qSeq rfl ?_
     refine hSeq ?_
     refine hBlk ?_
     refine hSeq ?_
     refine hReg (sq 0 sz) (by kernel_rfl) ?_
     refine asI rfl rfl rfl ?_
     refine rNil ?_
     refine qSeq rfl ?_
     refine hSeq ?_
     refine hSeq ?_
     refine hReg (sq 0 sz) (by kernel_rfl) ?_
     refine asI rfl rfl rfl ?_
     refine rNil ?_
     refine qSeq rfl ?_
     refine hBlk ?_
     refine hLoop (α := Nat × Nat) (fun x => x.1 + 1 ≤ q ∧ x.2 = Math.bestTo r x.1) (fun x => q - x.1) (fun x => [OwnI 2 hd2.1 q hd2.2 r, OwnI 2 hd.1 q hd.2 o]) (fun x => [(6, .slice hd.1 q hd.2), (7, .slice hd2.1 q hd2.2), (9, .int .i64 m), (10, .int .i64 (x.2 : Int)), (11, .int .i64 (((x.1 : Int) + 1)))]) (0, 0) ⟨by dsimp only; omega, rfl⟩ (fun _ h => h.pick [0, 0]) ⟨rfl, rfl, rfl, rfl, rfl, trivial⟩ ?_
     rintro ⟨k, b⟩ τ4 ⟨hk, hbq⟩
     dsimp only at hk hbq
     refine hRe [(6, .slice hd.1 q hd.2), (7, .slice hd2.1 q hd2.2), (9, .int .i64 m), (10, .int .i64 (b : Int)), (11, .int .i64 (((k : Int) + 1)))] [OwnI 2 hd2.1 q hd2.2 r, OwnI 2 hd.1 q hd.2 o] rfl rfl ?_
     have hbl := Math.bestTo_le r k
     refine hSeq ?_
     refine hSeq ?_
     refine hReg (sq 0 (sq 1 (sq 2 (sq 3 sz)))) (by kernel_rfl) ?_
     refine mvI rfl rfl rfl ?_
     refine mvS rfl rfl rfl ?_
     refine lenS Try.runUnderlying28 rfl rfl rfl ?_
     refine lss rfl rfl rfl rfl ?_
     refine rNil ?_
     refine qSeq rfl ?_
     refine hIfD rfl (fun c5 => ?_) (fun c5 => ?_)
     ·
      replace c5 : ((k : Int) + 1) < (q : Int) := c5
      refine hSkip ?_
      refine qSeq rfl ?_
      refine hSeq ?_
      refine hBlk ?_
      refine hSeq ?_
      refine hDraw (Ls := [OwnI 2 hd2.1 q hd2.2 r]) (by kernel_rfl) (sq 0 (sq 1 (sq 2 (sq 3 (sq 4 (sq 5 (sq 6 (sq 7 (sq 8 sz))))))))) (by kernel_rfl) (.cons_cons _ (.cons _ .slnil)) ?_
      refine mvS rfl rfl rfl ?_
      refine mvI rfl rfl rfl ?_
      refine ixIq (zn := (k + 1)) el28 ((Kn.at_ 0 rfl).imp fun _ h => OwnI.rd h) (fun _ h => h.pick [0]) rfl rfl rfl rfl (by omega) (by omega) rfl ?_
      intro ae7 e7
      refine ldq Try.isAgg2 (e7) rfl rfl rfl ?_
      refine mvS rfl rfl rfl ?_
      refine mvI rfl rfl rfl ?_
      refine ixIq (zn := b) el28 ((Kn.at_ 0 rfl).imp fun _ h => OwnI.rd h) (fun _ h => h.pick [0]) rfl rfl rfl rfl (by omega) (by omega) rfl ?_
      intro ae8 e8
      refine ldq Try.isAgg2 (e8) rfl rfl rfl ?_
      refine gtr rfl rfl rfl rfl ?_
      refine rNil ?_
      refine qSeq rfl ?_
      refine hIfD rfl (fun c6 => ?_) (fun c6 => ?_)
      ·
       replace c6 : (r.getD b 0) < (r.getD (k + 1) 0) := c6
       refine hReg (sq 0 (sq 1 sz)) (by kernel_rfl) ?_
       refine mvI rfl rfl rfl ?_
       refine asI rfl rfl rfl ?_
       refine rNil ?_
       refine qSeq rfl ?_
       refine hReg (sq 0 (sq 1 (sq 2 sz))) (by kernel_rfl) ?_
       refine mvI rfl rfl rfl ?_
       refine add rfl rfl rfl rfl (by omega) ?_
       refine asI rfl rfl rfl ?_
       refine rNil ?_
       exact qNext rfl (k + 1, k + 1) (by dsimp only; omega) ⟨by dsimp only; omega, by dsimp only [Math.bestTo]; rw [← hbq, if_pos (by assumption)]⟩ ⟨rfl, rfl, rfl, rfl, rfl, trivial⟩ (fun _ h => h.pick [0, 0])
      ·
       replace c6 : ¬ ((r.getD b 0) < (r.getD (k + 1) 0)) := c6
       refine hSkip ?_
       refine qSeq rfl ?_
       refine hReg (sq 0 (sq 1 (sq 2 sz))) (by kernel_rfl) ?_
       refine mvI rfl rfl rfl ?_
       refine add rfl rfl rfl rfl (by omega) ?_
       refine asI rfl rfl rfl ?_
       refine rNil ?_
       exact qNext rfl (k + 1, b) (by dsimp only; omega) ⟨by dsimp only; omega, by dsimp only [Math.bestTo]; rw [← hbq, if_neg (by assumption)]⟩ ⟨rfl, rfl, rfl, rfl, rfl, trivial⟩ (fun _ h => h.pick [0, 0])
     ·
      replace c5 : ¬ (((k : Int) + 1) < (q : Int)) := c5
      have hbest : b = Math.best r := by unfold Math.best; rw [hbq, show r.length - 1 = k from by omega]
      have hob2 := hob _ (Math.getD_mem 0 (show b < o.length by omega))
      refine hExit rfl ?_
      refine qSeq rfl ?_
      refine hSeq ?_
      refine hReg (sq 0 (sq 1 (sq 2 (sl 3 (sq 4 (sq 5 (sl 6 sz))))))) (by kernel_rfl) ?_
      refine mvS rfl rfl rfl ?_
      refine mvI rfl rfl rfl ?_
      refine ixIl (zn := b) el28 ((Kn.at_ 1 rfl).imp fun _ h => OwnI.rd h) rfl rfl rfl rfl (by omega) (by omega) rfl ?_
      intro ae9 e9
      refine ldl Try.isAgg2 (e9) trv rfl rfl rfl ?_
      refine add rfl rfl rfl rfl (by omega) ?_
      refine oxI (zn := b) 1 rfl el28 rfl rfl rfl rfl (by omega) (by omega) rfl ?_
      intro gk10 hgk10
      refine stoI (off := b) (x := ((o.getD b 0) + 1)) 1 rfl hgk10 Try.sizeOf2 trv rfl rfl rfl rfl (by omega) ?_
      refine rNil ?_
      refine qSeq rfl ?_
      refine hReg (sq 0 (sq 1 (sq 2 (sl 3 sz)))) (by kernel_rfl) ?_
      refine mvS rfl rfl rfl ?_
      refine mvI rfl rfl rfl ?_
      refine oxI (zn := b) 0 rfl el28 rfl rfl rfl rfl (by omega) (by omega) rfl ?_
      intro gk11 hgk11
      refine stoI (off := b) (x := (-1)) 0 rfl hgk11 Try.sizeOf2 trv rfl rfl rfl rfl (by omega) ?_
      refine rNil ?_
      refine qSeq rfl ?_
      refine hReg (sq 0 (sq 1 (sq 2 sz))) (by kernel_rfl) ?_
      refine mvI rfl rfl rfl ?_
      refine sub rfl rfl rfl rfl (by omega) ?_
      refine asI rfl rfl rfl ?_
      refine rNil ?_
      exact qNext rfl ((m - 1, o.set b (o.getD b 0 + 1), r.set b (-1))) (by dsimp only; omega) (⟨by dsimp only; rw [hbest, ← Math.rounds_step (by omega)]; exact hro, ⟨by dsimp only; rw [List.length_set]; exact hol, by dsimp only; rw [List.length_set]; exact hrl⟩, by dsimp only; omega, by dsimp only; exact Math.bd_set hob ⟨by omega, by omega⟩⟩) ⟨rfl, rfl, rfl, trivial⟩ (fun _ h => h.pick [0, 0])
    ·
     replace c4 : ¬ (0 < m) := c4
     refine hExit rfl ?_
     refine qSeq rfl ?_
     refine hSeq ?_
     refine hReg (sq 0 (sq 1 sz)) (by kernel_rfl) ?_
     refine mvS rfl rfl rfl ?_
     refine asS rfl rfl rfl ?_
     refine rNil ?_
     refine qSeq rfl ?_
     refine hRet ?_
     exact fun w hs => ⟨[.slice hd.1 q hd.2], ⟨rfl, trivial⟩, ⟨(hd.1, q, hd.2, o), rfl, by unfold Math.partsOf; rw [← hro, Math.rounds_end (by omega)], hs.pick [1]⟩⟩
theorem spec_l22Parts_c (az : Option Addr) (nz : Nat) (cz : Nat) (z : List Int) (w : World) (rz : RdI az nz z w) (hb : ∀ x ∈ z, 0 ≤ x ∧ x ≤ 1000000000) (hl : z.length ≤ 1000000) (h1 : 1 ≤ z.length) :
  Calls Try.prog 163 #[.slice az nz cz] w (Ret fun v w' => ∃ x : Option Addr × Nat × Nat × List Int, v = .slice x.1 x.2.1 x.2.2.1 ∧ (x.2.2.2 = Math.partsOf z) ∧ Sep w none_ [OwnI 2 x.1 x.2.1 x.2.2.1 x.2.2.2] w') := spec_l22Parts_c_r _ az nz cz z w rfl rz hb hl h1
set_option maxHeartbeats 1000000 in
theorem impl_partsOf_c (az : Option Addr) (nz : Nat) (cz : Nat) (z : List Int) (w : World) (rz : RdI az nz z w) (hb : ∀ x ∈ z, 0 ≤ x ∧ x ≤ 1000000000) (hl : z.length ≤ 1000000) (h1 : 1 ≤ z.length) :
  Calls Try.prog 162 #[.slice az nz cz] w (Ret fun v w' => ∃ x : Option Addr × Nat × Nat × List Int, v = .slice x.1 x.2.1 x.2.2.1 ∧ (x.2.2.2 = Math.partsOf z) ∧ Sep w none_ [OwnI 2 x.1 x.2.1 x.2.2.1 x.2.2.2] w') := by
 have kz : Kn w none_ [] (RdI az nz z) := fun w' hs => rz.ext hs.upd
 have lz : z.length = nz := rz.1
 have mz : nz ≤ 9223372036854775807 := rz.2.1
 have hs0 := (Math.le_sum fun x hx => (hb x hx).1).1
 have hps := Math.pout_sum hb
 have hsz := Math.sum_bd hb z.length (Nat.le_refl _)
 rw [List.take_of_length_le (Nat.le_refl _)] at hsz
 refine fn (M := none_) (rs := [.tmp 2]) Try.func162 rfl Try.ntmps162 rfl rfl (Sep.start _ _) ?_
 refine hSeq ?_
 refine hReg (sq 0 sz) (by kernel_rfl) ?_
 refine asS rfl rfl rfl ?_
 refine rNil ?_
 refine qSeq rfl ?_
 refine hSeq ?_
 refine hReg (sq 0 (sl 1 (sq 2 sz))) (by kernel_rfl) ?_
 refine mvS rfl rfl rfl ?_
 refine callP (v := .int .i64 z.sum) Try.call161 trv rfl rfl (fun w hs => impl_sumOf_c _ _ _ _ w (kz w hs) (by first | assumption | (intro x hx; have := Math.pout_bd hb x hx; omega)) (by first | omega | (rw [Math.pout_len]; omega))) ?_
 refine asI rfl rfl rfl ?_
 refine rNil ?_
 refine qSeq rfl ?_
 refine hSeq ?_
 refine hDraw (Ls := []) (by kernel_rfl) (sq 0 (sq 1 (sq 3 (sq 4 (.alt (sl 2 (sq 6 (sl 5 (sq 7 sz)))) (sl 5 (sl 2 (sq 6 (sq 7 sz))))))))) (by kernel_rfl) .slnil ?_
 refine mvS rfl rfl rfl ?_
 refine lenS Try.runUnderlying28 rfl rfl rfl ?_
 refine mvS rfl rfl rfl ?_
 refine lenS Try.runUnderlying28 rfl rfl rfl ?_
 refine rAlt ?_ ?_
 ·
  refine mksI nz mk28 (fun _ _ h => h.pick []) rfl rfl rfl rfl (rfl) (by omega) (fun bkm1 hbkm1 => ?_)
  refine asS rfl rfl rfl ?_
  refine mksI nz mk28 (fun _ _ h => h.pick []) rfl rfl rfl rfl (rfl) (by omega) (fun bkm2 hbkm2 => ?_)
  refine asS rfl rfl rfl ?_
  refine rNil ?_
  refine qSeq rfl ?_
  refine hSeq ?_
  refine hReg (sq 0 sz) (by kernel_rfl) ?_
  refine asI rfl rfl rfl ?_
  refine rNil ?_
  refine qSeq rfl ?_
  refine hSeq ?_
  refine hSeq ?_
  refine hReg (sq 0 (sq 1 (sq 2 sz))) (by kernel_rfl) ?_
  refine mvS rfl rfl rfl ?_
  refine lenS Try.runUnderlying28 rfl rfl rfl ?_
  refine mvI rfl rfl rfl ?_
  refine rNil ?_
  refine qSeq rfl ?_
  refine hBlk ?_
  refine hLoop (α := Nat × Int) (fun x => x.1 ≤ nz ∧ x.2 = 60 - ((Math.pout z).take x.1).sum) (fun x => nz - x.1) (fun x => [OwnI 2 (some ⟨bkm2, 0, none⟩) nz nz (((Math.prest z).take x.1 ++ List.replicate (nz - x.1) 0)), OwnI 2 (some ⟨bkm1, 0, none⟩) nz nz (((Math.pout z).take x.1 ++ List.replicate (nz - x.1) 0))]) (fun x => [(0, .slice az nz cz), (3, .int .i64 z.sum), (4, .slice (some ⟨bkm1, 0, none⟩) nz nz), (5, .slice (some ⟨bkm2, 0, none⟩) nz nz), (6, .int .i64 x.2), (18, .slice az nz cz), (19, .int .i64 (nz : Int)), (20, .int .i64 (x.1 : Int))]) (0, 60) ⟨Nat.zero_le _, rfl⟩ (fun _ h => (by simp only [List.take_zero, List.nil_append, Nat.sub_zero]; exact h.pick [0, 0])) ⟨rfl, rfl, rfl, rfl, rfl, rfl, rfl, rfl, trivial⟩ ?_
  rintro ⟨i, l⟩ τ1 ⟨hi, hlq⟩
  dsimp only at hi hlq
  refine hRe [(0, .slice az nz cz), (3, .int .i64 z.sum), (4, .slice (some ⟨bkm1, 0, none⟩) nz nz), (5, .slice (some ⟨bkm2, 0, none⟩) nz nz), (6, .int .i64 l), (18, .slice az nz cz), (19, .int .i64 (nz : Int)), (20, .int .i64 (i : Int))] [OwnI 2 (some ⟨bkm2, 0, none⟩) nz nz (((Math.prest z).take i ++ List.replicate (nz - i) 0)), OwnI 2 (some ⟨bkm1, 0, none⟩) nz nz (((Math.pout z).take i ++ List.replicate (nz - i) 0))] rfl rfl ?_
  refine hSeq ?_
  refine hReg (sq 0 sz) (by kernel_rfl) ?_
  refine lss rfl rfl rfl rfl ?_
  refine rNil ?_
  refine qSeq rfl ?_
  refine hSeq ?_
  refine hIfD rfl (fun c1 => ?_) (fun c1 => ?_)
  ·
   replace c1 : (i : Int) < (nz : Int) := c1
   have hzi := hb _ (Math.getD_mem 0 (show i < z.length by omega))
   have hpt := Math.pout_take hb (show i ≤ z.length by omega)
   have hpi := Math.pout_bd hb _ (Math.getD_mem 0 (show i < (Math.pout z).length by rw [Math.pout_len]; omega))
   refine hSkip ?_
   refine qSeq rfl ?_
   refine hSeq ?_
   refine hBlk ?_
   refine hSeq ?_
   refine hReg (sq 0 (sq 1 (sl 2 (sq 3 (sq 4 sz))))) (by kernel_rfl) ?_
   refine mvI rfl rfl rfl ?_
   refine ixIl (zn := i) el28 (Kn.drop (k := 2) kz) rfl rfl rfl rfl (by omega) (by omega) rfl ?_
   intro ae1 e1
   refine ldl Try.isAgg2 (e1) trv rfl rfl rfl ?_
   refine asI rfl rfl rfl ?_
   refine asI rfl rfl rfl ?_
   refine rNil ?_
   refine qSeq rfl ?_
   refine hSeq ?_
   refine hSeq ?_
   refine hReg (sq 0 (sq 1 sz)) (by kernel_rfl) ?_
   refine mvI rfl rfl rfl ?_
   refine eql rfl rfl rfl rfl ?_
   refine rNil ?_
   refine qSeq rfl ?_
   refine hIfD rfl (fun c2 => ?_) (fun c2 => ?_)
   ·
    replace c2 : z.sum = 0 := c2
    have hv1 := Math.pout_at0 lz c2 (i := i) (by omega)
    have hv2 := Math.prest_at0 lz c2 (i := i) (by omega)
    have hxg : (((Math.pout z).take i ++ List.replicate (nz - i) 0).set i (60 / (nz : Int))).getD i 0 = 60 / (nz : Int) := Math.set_get (by rw [List.length_append, List.length_take, List.length_replicate, Math.pout_len]; omega)
    refine hDraw (Ls := []) (by kernel_rfl) (sq 0 (sq 1 (sq 2 (sq 3 (sq 4 (sq 5 (sq 6 (sq 7 (sq 8 (sq 9 (sq 10 (sl 11 (sq 12 (sf 13 sz)))))))))))))) (by kernel_rfl) (.cons _ (.cons _ .slnil)) ?_
    refine mvS rfl rfl rfl ?_
    refine mvI rfl rfl rfl ?_
    refine mvS rfl rfl rfl ?_
    refine mvI rfl rfl rfl ?_
    refine mvS rfl rfl rfl ?_
    refine lenS Try.runUnderlying28 rfl rfl rfl ?_
    refine quo rfl rfl rfl rfl (by omega) ?_
    refine mvS rfl rfl rfl ?_
    refine lenS Try.runUnderlying28 rfl rfl rfl ?_
    refine rem rfl rfl rfl rfl (by omega) ?_
    refine oxI (zn := i) 1 rfl el28 rfl rfl rfl rfl (by omega) (by omega) rfl ?_
    intro gk2 hgk2
    refine stoI (off := i) (x := (60 / (nz : Int))) 1 rfl hgk2 Try.sizeOf2 (fun _ h => h.pick []) rfl rfl rfl rfl (by omega) ?_
    refine oxI (zn := i) 0 rfl el28 rfl rfl rfl rfl (by omega) (by omega) rfl ?_
    intro gk3 hgk3
    refine stoIF (off := i) (x := (60 % (nz : Int))) 0 rfl hgk3 Try.sizeOf2 rfl rfl rfl rfl (by omega) ?_
    refine rNil ?_
    refine qSeq rfl ?_
    refine hReg (sq 0 (sq 1 (sq 2 (sq 3 (sl 4 (sq 5 (sq 6 sz))))))) (by kernel_rfl) ?_
    refine mvI rfl rfl rfl ?_
    refine mvS rfl rfl rfl ?_
    refine mvI rfl rfl rfl ?_
    refine ixIl (zn := i) el28 ((Kn.at_ 1 rfl).imp fun _ h => OwnI.rd h) rfl rfl rfl rfl (by omega) (by omega) rfl ?_
    intro ae4 e4
    refine ldl Try.isAgg2 (e4) trv rfl rfl rfl ?_
    refine sub rfl rfl rfl rfl (by omega) ?_
    refine asI rfl rfl rfl ?_
    refine rNil ?_
    refine qSeq rfl ?_
    refine hReg (sq 0 (sq 1 sz)) (by kernel_rfl) ?_
    refine add rfl rfl rfl rfl (by omega) ?_
    refine mvI rfl rfl rfl ?_
    refine rNil ?_
    rw [← hv1, ← hv2, Math.fill_step 0 0 (show (Math.pout z).length = nz by rw [Math.pout_len]; exact lz) (by omega), Math.fill_step 0 0 (show (Math.prest z).length = nz by rw [Math.prest_len]; exact lz) (by omega)]
    exact qNext rfl ((i + 1, l - ((Math.pout z).take (i + 1) ++ List.replicate (nz - (i + 1)) 0).getD i 0)) (by dsimp only; omega) ⟨by dsimp only; omega, by dsimp only; rw [Math.fill_get (0 : Int) (0 : Int) (by rw [Math.pout_len]; omega), Math.sum_step (by rw [Math.pout_len]; omega), hlq]; omega⟩ ⟨rfl, rfl, rfl, rfl, rfl, rfl, rfl, rfl, trivial⟩ (fun _ h => h.pick [0, 0])
   ·
    replace c2 : ¬ (z.sum = 0) := c2
    have hv1 := Math.pout_at c2 (i := i) (by omega)
    have hv2 := Math.prest_at c2 (i := i) (by omega)
    have hxg : (((Math.pout z).take i ++ List.replicate (nz - i) 0).set i (60 * z.getD i 0 / z.sum)).getD i 0 = 60 * z.getD i 0 / z.sum := Math.set_get (by rw [List.length_append, List.length_take, List.length_replicate, Math.pout_len]; omega)
    refine hDraw (Ls := []) (by kernel_rfl) (sq 0 (sq 1 (sq 2 (sq 3 (sq 4 (sq 5 (sq 6 (sq 7 (sq 8 (sq 9 (sq 10 (sq 11 (sq 12 (sl 13 (sq 14 (sf 15 sz)))))))))))))))) (by kernel_rfl) (.cons _ (.cons _ .slnil)) ?_
    refine mvS rfl rfl rfl ?_
    refine mvI rfl rfl rfl ?_
    refine mvS rfl rfl rfl ?_
    refine mvI rfl rfl rfl ?_
    refine mvI rfl rfl rfl ?_
    refine mul rfl rfl rfl rfl (by omega) ?_
    refine mvI rfl rfl rfl ?_
    refine quo rfl rfl rfl rfl (by omega) ?_
    refine mvI rfl rfl rfl ?_
    refine mul rfl rfl rfl rfl (by omega) ?_
    refine mvI rfl rfl rfl ?_
    refine rem rfl rfl rfl rfl (by omega) ?_
    refine oxI (zn := i) 1 rfl el28 rfl rfl rfl rfl (by omega) (by omega) rfl ?_
    intro gk5 hgk5
    refine stoI (off := i) (x := (((60 * (z.getD i 0))) / z.sum)) 1 rfl hgk5 Try.sizeOf2 (fun _ h => h.pick []) rfl rfl rfl rfl (by omega) ?_
    refine oxI (zn := i) 0 rfl el28 rfl rfl rfl rfl (by omega) (by omega) rfl ?_
    intro gk6 hgk6
    refine stoIF (off := i) (x := (((60 * (z.getD i 0))) % z.sum)) 0 rfl hgk6 Try.sizeOf2 rfl rfl rfl rfl (by omega) ?_
    refine rNil ?_
    refine qSeq rfl ?_
    refine hReg (sq 0 (sq 1 (sq 2 (sq 3 (sl 4 (sq 5 (sq 6 sz))))))) (by kernel_rfl) ?_
    refine mvI rfl rfl rfl ?_
    refine mvS rfl rfl rfl ?_
    refine mvI rfl rfl rfl ?_
    refine ixIl (zn := i) el28 ((Kn.at_ 1 rfl).imp fun _ h => OwnI.rd h) rfl rfl rfl rfl (by omega) (by omega) rfl ?_
    intro ae7 e7
    refine ldl Try.isAgg2 (e7) trv rfl rfl rfl ?_
    refine sub rfl rfl rfl rfl (by omega) ?_
    refine asI rfl rfl rfl ?_
    refine rNil ?_
    refine qSeq rfl ?_
    refine hReg (sq 0 (sq 1 sz)) (by kernel_rfl) ?_
    refine add rfl rfl rfl rfl (by omega) ?_
    refine mvI rfl rfl rfl ?_
    refine rNil ?_
    rw [← hv1, ← hv2, Math.fill_step 0 0 (show (Math.pout z).length = nz by rw [Math.pout_len]; exact lz) (by omega), Math.fill_step 0 0 (show (Math.prest z).length = nz by rw [Math.prest_len]; exact lz) (by omega)]
    exact qNext rfl ((i + 1, l - ((Math.pout z).take (i + 1) ++ List.replicate (nz - (i + 1)) 0).getD i 0)) (by dsimp only; omega) ⟨by dsimp only; omega, by dsimp only; rw [Math.fill_get (0 : Int) (0 : Int) (by rw [Math.pout_len]; omega), Math.sum_step (by rw [Math.pout_len]; omega), hlq]; omega⟩ ⟨rfl, rfl, rfl, rfl, rfl, rfl, rfl, rfl, trivial⟩ (fun _ h => h.pick [0, 0])
  ·
   replace c1 : ¬ ((i : Int) < (nz : Int)) := c1
   rw [Math.fill_end 0 (show (Math.pout z).length = nz by rw [Math.pout_len]; exact lz) (by omega)]
   rw [Math.fill_end 0 (show (Math.prest z).length = nz by rw [Math.prest_len]; exact lz) (by omega)]
   refine hExit rfl ?_
   refine qSeq rfl ?_
   refine hSeq ?_
   refine hBlk ?_
   refine hLoop (α := Int × List Int × List Int) (fun x => Math.rounds x.1.toNat (x.2.1, x.2.2) = Math.rounds (60 - (Math.pout z).sum).toNat (Math.pout z, Math.prest z) ∧ (x.2.1.length = nz ∧ x.2.2.length = nz) ∧ (x.1 ≤ 60 ∧ ∀ u ∈ x.2.1, 0 ≤ u ∧ u + x.1 ≤ 120)) (fun x => x.1.toNat) (fun x => [OwnI 2 (some ⟨bkm2, 0, none⟩) nz nz x.2.2, OwnI 2 (some ⟨bkm1, 0, none⟩) nz nz x.2.1]) (fun x => [(4, .slice (some ⟨bkm1, 0, none⟩) nz nz), (5, .slice (some ⟨bkm2, 0, none⟩) nz nz), (6, .int .i64 x.1)]) (l, Math.pout z, Math.prest z) (⟨by dsimp only; rw [hlq, List.take_of_length_le (by rw [Math.pout_len]; omega)], ⟨by dsimp only; rw [Math.pout_len]; omega, by dsimp only; rw [Math.prest_len]; omega⟩, by dsimp only; rw [List.take_of_length_le (by rw [Math.pout_len]; omega)] at hlq; omega, fun u hu => by have := Math.pout_bd hb u hu; rw [List.take_of_length_le (by rw [Math.pout_len]; omega)] at hlq; dsimp only; omega⟩) (fun _ h => h.pick [0, 0]) ⟨rfl, rfl, rfl, trivial⟩ ?_
   rintro ⟨m, o, r⟩ τ2 ⟨hro, ⟨hol, hrl⟩, hm60, hob⟩
   dsimp only at hro hol hrl hm60 hob
   refine hRe [(4, .slice (some ⟨bkm1, 0, none⟩) nz nz), (5, .slice (some ⟨bkm2, 0, none⟩) nz nz), (6, .int .i64 m)] [OwnI 2 (some ⟨bkm2, 0, none⟩) nz nz r, OwnI 2 (some ⟨bkm1, 0, none⟩) nz nz o] rfl rfl ?_
   have hix := Math.index_best (r := r) (by omega)
   have hbl := Math.best_lt (r := r) (by omega)
   have hob2 := hob _ (Math.getD_mem 0 (show Math.best r < o.length by omega))
   have hit : (Math.indexOf r (r.getD (Math.best r) 0)).toNat = Math.best r := by rw [hix, Int.toNat_natCast]
   have hob3 := hob2
   rw [← hit] at hob3
   refine hSeq ?_
   refine hSeq ?_
   refine hReg (sq 0 (sq 1 sz)) (by kernel_rfl) ?_
   refine mvI rfl rfl rfl ?_
   refine gtr rfl rfl rfl rfl ?_
   refine rNil ?_
   refine qSeq rfl ?_
   refine hIfD rfl (fun c3 => ?_) (fun c3 => ?_)
   ·
    replace c3 : 0 < m := c3
    refine hSkip ?_
    refine qSeq rfl ?_
    refine hSeq ?_
    refine hBlk ?_
    refine hSeq ?_
    refine hReg (sq 0 (sq 1 (sl 2 (sl 3 (sq 4 sz))))) (by kernel_rfl) ?_
    refine mvS rfl rfl rfl ?_
    refine mvS rfl rfl rfl ?_
    refine callP (v := .int .i64 ((r.getD (Math.best r) 0))) Try.call138 trv rfl rfl (fun w hs => slices_Max_int64_int64_c _ _ _ _ w (OwnI.rd (hs.at_ 0 rfl)) (by omega)) ?_
    refine callP (v := .int .i64 ((Math.indexOf r ((r.getD (Math.best r) 0))))) Try.call103 trv rfl rfl (fun w hs => slices_Index_int64_int64_c _ _ _ _ _ w (OwnI.rd (hs.at_ 0 rfl))) ?_
    refine asI rfl rfl rfl ?_
    refine rNil ?_
    refine qSeq rfl ?_
    refine hSeq ?_
    refine hReg (sq 0 (sq 1 (sq 2 (sl 3 (sq 4 (sq 5 (sl 6 sz))))))) (by kernel_rfl) ?_
    refine mvS rfl rfl rfl ?_
    refine mvI rfl rfl rfl ?_
    refine ixIl (zn := ((Math.indexOf r ((r.getD (Math.best r) 0)))).toNat) el28 ((Kn.at_ 1 rfl).imp fun _ h => OwnI.rd h) rfl rfl rfl rfl (by omega) (by omega) rfl ?_
    intro ae8 e8
    refine ldl Try.isAgg2 (e8) trv rfl rfl rfl ?_
    refine add rfl rfl rfl rfl (by omega) ?_
    refine oxI (zn := ((Math.indexOf r ((r.getD (Math.best r) 0)))).toNat) 1 rfl el28 rfl rfl rfl rfl (by omega) (by omega) rfl ?_
    intro gk9 hgk9
    refine stoI (off := ((Math.indexOf r ((r.getD (Math.best r) 0)))).toNat) (x := ((o.getD (((Math.indexOf r ((r.getD (Math.best r) 0)))).toNat) 0) + 1)) 1 rfl hgk9 Try.sizeOf2 trv rfl rfl rfl rfl (by omega) ?_
    refine rNil ?_
    refine qSeq rfl ?_
    refine hReg (sq 0 (sq 1 (sq 2 (sl 3 sz)))) (by kernel_rfl) ?_
    refine mvS rfl rfl rfl ?_
    refine mvI rfl rfl rfl ?_
    refine oxI (zn := ((Math.indexOf r ((r.getD (Math.best r) 0)))).toNat) 0 rfl el28 rfl rfl rfl rfl (by omega) (by omega) rfl ?_
    intro gk10 hgk10
    refine stoI (off := ((Math.indexOf r ((r.getD (Math.best r) 0)))).toNat) (x := (-1)) 0 rfl hgk10 Try.sizeOf2 trv rfl rfl rfl rfl (by omega) ?_
    refine rNil ?_
    refine qSeq rfl ?_
    refine hReg (sq 0 (sq 1 (sq 2 sz))) (by kernel_rfl) ?_
    refine mvI rfl rfl rfl ?_
    refine sub rfl rfl rfl rfl (by omega) ?_
    refine asI rfl rfl rfl ?_
    refine rNil ?_
    rw [hit]
    exact qNext rfl ((m - 1, o.set (Math.best r) (o.getD (Math.best r) 0 + 1), r.set (Math.best r) (-1))) (by dsimp only; omega) (⟨by dsimp only; rw [← Math.rounds_step (by omega)]; exact hro, ⟨by dsimp only; rw [List.length_set]; exact hol, by dsimp only; rw [List.length_set]; exact hrl⟩, by dsimp only; omega, by dsimp only; exact Math.bd_set hob ⟨by omega, by omega⟩⟩) ⟨rfl, rfl, rfl, trivial⟩ (fun _ h => h.pick [0, 0])
   ·
    replace c3 : ¬ (0 < m) := c3
    refine hExit rfl ?_
    refine qSeq rfl ?_
    refine hSeq ?_
    refine hReg (sq 0 (sq 1 sz)) (by kernel_rfl) ?_
    refine mvS rfl rfl rfl ?_
    refine asS rfl rfl rfl ?_
    refine rNil ?_
    refine qSeq rfl ?_
    refine hRet ?_
    exact fun w hs => ⟨[.slice (some ⟨bkm1, 0, none⟩) nz nz], ⟨rfl, trivial⟩, ⟨((some ⟨bkm1, 0, none⟩), nz, nz, o), rfl, by unfold Math.partsOf; rw [← hro, Math.rounds_end (by omega)], hs.pick [1]⟩⟩
 ·
  refine mksI nz mk28 (fun _ _ h => h.pick []) rfl rfl rfl rfl (rfl) (by omega) (fun bkm3 hbkm3 => ?_)
  refine mksI nz mk28 (fun _ _ h => h.pick []) rfl rfl rfl rfl (rfl) (by omega) (fun bkm4 hbkm4 => ?_)
  refine asS rfl rfl rfl ?_
  refine asS rfl rfl rfl ?_
  refine rNil ?_
  refine qSeq rfl ?_
  refine hSeq ?_
  refine hReg (sq 0 sz) (by kernel_rfl) ?_
  refine asI rfl rfl rfl ?_
  refine rNil ?_
  refine qSeq rfl ?_
  refine hSeq ?_
  refine hSeq ?_
  refine hReg (sq 0 (sq 1 (sq 2 sz))) (by kernel_rfl) ?_
  refine mvS rfl rfl rfl ?_
  refine lenS Try.runUnderlying28 rfl rfl rfl ?_
  refine mvI rfl rfl rfl ?_
  refine rNil ?_
  refine qSeq rfl ?_
  refine hBlk ?_
  refine hLoop (α := Nat × Int) (fun x => x.1 ≤ nz ∧ x.2 = 60 - ((Math.pout z).take x.1).sum) (fun x => nz - x.1) (fun x => [OwnI 2 (some ⟨bkm4, 0, none⟩) nz nz (((Math.pout z).take x.1 ++ List.replicate (nz - x.1) 0)), OwnI 2 (some ⟨bkm3, 0, none⟩) nz nz (((Math.prest z).take x.1 ++ List.replicate (nz - x.1) 0))]) (fun x => [(0, .slice az nz cz), (3, .int .i64 z.sum), (4, .slice (some ⟨bkm4, 0, none⟩) nz nz), (5, .slice (some ⟨bkm3, 0, none⟩) nz nz), (6, .int .i64 x.2), (18, .slice az nz cz), (19, .int .i64 (nz : Int)), (20, .int .i64 (x.1 : Int))]) (0, 60) ⟨Nat.zero_le _, rfl⟩ (fun _ h => (by simp only [List.take_zero, List.nil_append, Nat.sub_zero]; exact h.pick [0, 0])) ⟨rfl, rfl, rfl, rfl, rfl, rfl, rfl, rfl, trivial⟩ ?_
  rintro ⟨i, l⟩ τ3 ⟨hi, hlq⟩
  dsimp only at hi hlq
  refine hRe [(0, .slice az nz cz), (3, .int .i64 z.sum), (4, .slice (some ⟨bkm4, 0, none⟩) nz nz), (5, .slice (some ⟨bkm3, 0, none⟩) nz nz), (6, .int .i64 l), (18, .slice az nz cz), (19, .int .i64 (nz : Int)), (20, .int .i64 (i : Int))] [OwnI 2 (some ⟨bkm4, 0, none⟩) nz nz (((Math.pout z).take i ++ List.replicate (nz - i) 0)), OwnI 2 (some ⟨bkm3, 0, none⟩) nz nz (((Math.prest z).take i ++ List.replicate (nz - i) 0))] rfl rfl ?_
  refine hSeq ?_
  refine hReg (sq 0 sz) (by kernel_rfl) ?_
  refine lss rfl rfl rfl rfl ?_
  refine rNil ?_
  refine qSeq rfl ?_
  refine hSeq ?_
  refine hIfD rfl (fun c4 => ?_) (fun c4 => ?_)
  ·
   replace c4 : (i : Int) < (nz : Int) := c4
   have hzi := hb _ (Math.getD_mem 0 (show i < z.length by omega))
   have hpt := Math.pout_take hb (show i ≤ z.length by omega)
   have hpi := Math.pout_bd hb _ (Math.getD_mem 0 (show i < (Math.pout z).length by rw [Math.pout_len]; omega))
   refine hSkip ?_
   refine qSeq rfl ?_
   refine hSeq ?_
   refine hBlk ?_
   refine hSeq ?_
   refine hReg (sq 0 (sq 1 (sl 2 (sq 3 (sq 4 sz))))) (by kernel_rfl) ?_
   refine mvI rfl rfl rfl ?_
   refine ixIl (zn := i) el28 (Kn.drop (k := 2) kz) rfl rfl rfl rfl (by omega) (by omega) rfl ?_
   intro ae11 e11
   refine ldl Try.isAgg2 (e11) trv rfl rfl rfl ?_
   refine asI rfl rfl rfl ?_
   refine asI rfl rfl rfl ?_
   refine rNil ?_
   refine qSeq rfl ?_
   refine hSeq ?_
   refine hSeq ?_
   refine hReg (sq 0 (sq 1 sz)) (by kernel_rfl) ?_
   refine mvI rfl rfl rfl ?_
   refine eql rfl rfl rfl rfl ?_
   refine rNil ?_
   refine qSeq rfl ?_
   refine hIfD rfl (fun c5 => ?_) (fun c5 => ?_)
   ·
    replace c5 : z.sum = 0 := c5
    have hv1 := Math.pout_at0 lz c5 (i := i) (by omega)
    have hv2 := Math.prest_at0 lz c5 (i := i) (by omega)
    have hxg : (((Math.pout z).take i ++ List.replicate (nz - i) 0).set i (60 / (nz : Int))).getD i 0 = 60 / (nz : Int) := Math.set_get (by rw [List.length_append, List.length_take, List.length_replicate, Math.pout_len]; omega)
    refine hDraw (Ls := []) (by kernel_rfl) (sq 0 (sq 1 (sq 2 (sq 3 (sq 4 (sq 5 (sq 6 (sq 7 (sq 8 (sq 9 (sq 10 (sl 11 (sq 12 (sf 13 sz)))))))))))))) (by kernel_rfl) (.cons _ (.cons _ .slnil)) ?_
    refine mvS rfl rfl rfl ?_
    refine mvI rfl rfl rfl ?_
    refine mvS rfl rfl rfl ?_
    refine mvI rfl rfl rfl ?_
    refine mvS rfl rfl rfl ?_
    refine lenS Try.runUnderlying28 rfl rfl rfl ?_
    refine quo rfl rfl rfl rfl (by omega) ?_
    refine mvS rfl rfl rfl ?_
    refine lenS Try.runUnderlying28 rfl rfl rfl ?_
    refine rem rfl rfl rfl rfl (by omega) ?_
    refine oxI (zn := i) 0 rfl el28 rfl rfl rfl rfl (by omega) (by omega) rfl ?_
    intro gk12 hgk12
    refine stoI (off := i) (x := (60 / (nz : Int))) 0 rfl hgk12 Try.sizeOf2 (fun _ h => h.pick []) rfl rfl rfl rfl (by omega) ?_
    refine oxI (zn := i) 1 rfl el28 rfl rfl rfl rfl (by omega) (by omega) rfl ?_
    intro gk13 hgk13
    refine stoIF (off := i) (x := (60 % (nz : Int))) 1 rfl hgk13 Try.sizeOf2 rfl rfl rfl rfl (by omega) ?_
    refine rNil ?_
    refine qSeq rfl ?_
    refine hReg (sq 0 (sq 1 (sq 2 (sq 3 (sl 4 (sq 5 (sq 6 sz))))))) (by kernel_rfl) ?_
    refine mvI rfl rfl rfl ?_
    refine mvS rfl rfl rfl ?_
    refine mvI rfl rfl rfl ?_
    refine ixIl (zn := i) el28 ((Kn.at_ 0 rfl).imp fun _ h => OwnI.rd h) rfl rfl rfl rfl (by omega) (by omega) rfl ?_
    intro ae14 e14
    refine ldl Try.isAgg2 (e14) trv rfl rfl rfl ?_
    refine sub rfl rfl rfl rfl (by omega) ?_
    refine asI rfl rfl rfl ?_
    refine rNil ?_
    refine qSeq rfl ?_
    refine hReg (sq 0 (sq 1 sz)) (by kernel_rfl) ?_
    refine add rfl rfl rfl rfl (by omega) ?_
    refine mvI rfl rfl rfl ?_
    refine rNil ?_
    rw [← hv1, ← hv2, Math.fill_step 0 0 (show (Math.pout z).length = nz by rw [Math.pout_len]; exact lz) (by omega), Math.fill_step 0 0 (show (Math.prest z).length = nz by rw [Math.prest_len]; exact lz) (by omega)]
    exact qNext rfl ((i + 1, l - ((Math.pout z).take (i + 1) ++ List.replicate (nz - (i + 1)) 0).getD i 0)) (by dsimp only; omega) ⟨by dsimp only; omega, by dsimp only; rw [Math.fill_get (0 : Int) (0 : Int) (by rw [Math.pout_len]; omega), Math.sum_step (by rw [Math.pout_len]; omega), hlq]; omega⟩ ⟨rfl, rfl, rfl, rfl, rfl, rfl, rfl, rfl, trivial⟩ (fun _ h => h.pick [0, 0])
   ·
    replace c5 : ¬ (z.sum = 0) := c5
    have hv1 := Math.pout_at c5 (i := i) (by omega)
    have hv2 := Math.prest_at c5 (i := i) (by omega)
    have hxg : (((Math.pout z).take i ++ List.replicate (nz - i) 0).set i (60 * z.getD i 0 / z.sum)).getD i 0 = 60 * z.getD i 0 / z.sum := Math.set_get (by rw [List.length_append, List.length_take, List.length_replicate, Math.pout_len]; omega)
    refine hDraw (Ls := []) (by kernel_rfl) (sq 0 (sq 1 (sq 2 (sq 3 (sq 4 (sq 5 (sq 6 (sq 7 (sq 8 (sq 9 (sq 10 (sq 11 (sq 12 (sl 13 (sq 14 (sf 15 sz)))))))))))))))) (by kernel_rfl) (.cons _ (.cons _ .slnil)) ?_
    refine mvS rfl rfl rfl ?_
    refine mvI rfl rfl rfl ?_
    refine mvS rfl rfl rfl ?_
    refine mvI rfl rfl rfl ?_
    refine mvI rfl rfl rfl ?_
    refine mul rfl rfl rfl rfl (by omega) ?_
    refine mvI rfl rfl rfl ?_
    refine quo rfl rfl rfl rfl (by omega) ?_
    refine mvI rfl rfl rfl ?_
    refine mul rfl rfl rfl rfl (by omega) ?_
    refine mvI rfl rfl rfl ?_
    refine rem rfl rfl rfl rfl (by omega) ?_
    refine oxI (zn := i) 0 rfl el28 rfl rfl rfl rfl (by omega) (by omega) rfl ?_
    intro gk15 hgk15
    refine stoI (off := i) (x := (((60 * (z.getD i 0))) / z.sum)) 0 rfl hgk15 Try.sizeOf2 (fun _ h => h.pick []) rfl rfl rfl rfl (by omega) ?_
    refine oxI (zn := i) 1 rfl el28 rfl rfl rfl rfl (by omega) (by omega) rfl ?_
    intro gk16 hgk16
    refine stoIF (off := i) (x := (((60 * (z.getD i 0))) % z.sum)) 1 rfl hgk16 Try.sizeOf2 rfl rfl rfl rfl (by omega) ?_
    refine rNil ?_
    refine qSeq rfl ?_
    refine hReg (sq 0 (sq 1 (sq 2 (sq 3 (sl 4 (sq 5 (sq 6 sz))))))) (by kernel_rfl) ?_
    refine mvI rfl rfl rfl ?_
    refine mvS rfl rfl rfl ?_
    refine mvI rfl rfl rfl ?_
    refine ixIl (zn := i) el28 ((Kn.at_ 0 rfl).imp fun _ h => OwnI.rd h) rfl rfl rfl rfl (by omega) (by omega) rfl ?_
    intro ae17 e17
    refine ldl Try.isAgg2 (e17) trv rfl rfl rfl ?_
    refine sub rfl rfl rfl rfl (by omega) ?_
    refine asI rfl rfl rfl ?_
    refine rNil ?_
    refine qSeq rfl ?_
    refine hReg (sq 0 (sq 1 sz)) (by kernel_rfl) ?_
    refine add rfl rfl rfl rfl (by omega) ?_
    refine mvI rfl rfl rfl ?_
    refine rNil ?_
    rw [← hv1, ← hv2, Math.fill_step 0 0 (show (Math.pout z).length = nz by rw [Math.pout_len]; exact lz) (by omega), Math.fill_step 0 0 (show (Math.prest z).length = nz by rw [Math.prest_len]; exact lz) (by omega)]
    exact qNext rfl ((i + 1, l - ((Math.pout z).take (i + 1) ++ List.replicate (nz - (i + 1)) 0).getD i 0)) (by dsimp only; omega) ⟨by dsimp only; omega, by dsimp only; rw [Math.fill_get (0 : Int) (0 : Int) (by rw [Math.pout_len]; omega), Math.sum_step (by rw [Math.pout_len]; omega), hlq]; omega⟩ ⟨rfl, rfl, rfl, rfl, rfl, rfl, rfl, rfl, trivial⟩ (fun _ h => h.pick [0, 0])
  ·
   replace c4 : ¬ ((i : Int) < (nz : Int)) := c4
   rw [Math.fill_end 0 (show (Math.pout z).length = nz by rw [Math.pout_len]; exact lz) (by omega)]
   rw [Math.fill_end 0 (show (Math.prest z).length = nz by rw [Math.prest_len]; exact lz) (by omega)]
   refine hExit rfl ?_
   refine qSeq rfl ?_
   refine hSeq ?_
   refine hBlk ?_
   refine hLoop (α := Int × List Int × List Int) (fun x => Math.rounds x.1.toNat (x.2.1, x.2.2) = Math.rounds (60 - (Math.pout z).sum).toNat (Math.pout z, Math.prest z) ∧ (x.2.1.length = nz ∧ x.2.2.length = nz) ∧ (x.1 ≤ 60 ∧ ∀ u ∈ x.2.1, 0 ≤ u ∧ u + x.1 ≤ 120)) (fun x => x.1.toNat) (fun x => [OwnI 2 (some ⟨bkm4, 0, none⟩) nz nz x.2.1, OwnI 2 (some ⟨bkm3, 0, none⟩) nz nz x.2.2]) (fun x => [(4, .slice (some ⟨bkm4, 0, none⟩) nz nz), (5, .slice (some ⟨bkm3, 0, none⟩) nz nz), (6, .int .i64 x.1)]) (l, Math.pout z, Math.prest z) (⟨by dsimp only; rw [hlq, List.take_of_length_le (by rw [Math.pout_len]; omega)], ⟨by dsimp only; rw [Math.pout_len]; omega, by dsimp only; rw [Math.prest_len]; omega⟩, by dsimp only; rw [List.take_of_length_le (by rw [Math.pout_len]; omega)] at hlq; omega, fun u hu => by have := Math.pout_bd hb u hu; rw [List.take_of_length_le (by rw [Math.pout_len]; omega)] at hlq; dsimp only; omega⟩) (fun _ h => h.pick [0, 0]) ⟨rfl, rfl, rfl, trivial⟩ ?_
   rintro ⟨m, o, r⟩ τ4 ⟨hro, ⟨hol, hrl⟩, hm60, hob⟩
   dsimp only at hro hol hrl hm60 hob
   refine hRe [(4, .slice (some ⟨bkm4, 0, none⟩) nz nz), (5, .slice (some ⟨bkm3, 0, none⟩) nz nz), (6, .int .i64 m)] [OwnI 2 (some ⟨bkm4, 0, none⟩) nz nz o, OwnI 2 (some ⟨bkm3, 0, none⟩) nz nz r] rfl rfl ?_
   have hix := Math.index_best (r := r) (by omega)
   have hbl := Math.best_lt (r := r) (by omega)
   have hob2 := hob _ (Math.getD_mem 0 (show Math.best r < o.length by omega))
   have hit : (Math.indexOf r (r.getD (Math.best r) 0)).toNat = Math.best r := by rw [hix, Int.toNat_natCast]
   have hob3 := hob2
   rw [← hit] at hob3
   refine hSeq ?_
   refine hSeq ?_
   refine hReg (sq 0 (sq 1 sz)) (by kernel_rfl) ?_
   refine mvI rfl rfl rfl ?_
   refine gtr rfl rfl rfl rfl ?_
   refine rNil ?_
   refine qSeq rfl ?_
   refine hIfD rfl (fun c6 => ?_) (fun c6 => ?_)
   ·
    replace c6 : 0 < m := c6
    refine hSkip ?_
    refine qSeq rfl ?_
    refine hSeq ?_
    refine hBlk ?_
    refine hSeq ?_
    refine hReg (sq 0 (sq 1 (sl 2 (sl 3 (sq 4 sz))))) (by kernel_rfl) ?_
    refine mvS rfl rfl rfl ?_
    refine mvS rfl rfl rfl ?_
    refine callP (v := .int .i64 ((r.getD (Math.best r) 0))) Try.call138 trv rfl rfl (fun w hs => slices_Max_int64_int64_c _ _ _ _ w (OwnI.rd (hs.at_ 1 rfl)) (by omega)) ?_
    refine callP (v := .int .i64 ((Math.indexOf r ((r.getD (Math.best r) 0))))) Try.call103 trv rfl rfl (fun w hs => slices_Index_int64_int64_c _ _ _ _ _ w (OwnI.rd (hs.at_ 1 rfl))) ?_
    refine asI rfl rfl rfl ?_
    refine rNil ?_
    refine qSeq rfl ?_
    refine hSeq ?_
    refine hReg (sq 0 (sq 1 (sq 2 (sl 3 (sq 4 (sq 5 (sl 6 sz))))))) (by kernel_rfl) ?_
    refine mvS rfl rfl rfl ?_
    refine mvI rfl rfl rfl ?_
    refine ixIl (zn := ((Math.indexOf r ((r.getD (Math.best r) 0)))).toNat) el28 ((Kn.at_ 0 rfl).imp fun _ h => OwnI.rd h) rfl rfl rfl rfl (by omega) (by omega) rfl ?_
    intro ae18 e18
    refine ldl Try.isAgg2 (e18) trv rfl rfl rfl ?_
    refine add rfl rfl rfl rfl (by omega) ?_
    refine oxI (zn := ((Math.indexOf r ((r.getD (Math.best r) 0)))).toNat) 0 rfl el28 rfl rfl rfl rfl (by omega) (by omega) rfl ?_
    intro gk19 hgk19
    refine stoI (off := ((Math.indexOf r ((r.getD (Math.best r) 0)))).toNat) (x := ((o.getD (((Math.indexOf r ((r.getD (Math.best r) 0)))).toNat) 0) + 1)) 0 rfl hgk19 Try.sizeOf2 trv rfl rfl rfl rfl (by omega) ?_
    refine rNil ?_
    refine qSeq rfl ?_
    refine hReg (sq 0 (sq 1 (sq 2 (sl 3 sz)))) (by kernel_rfl) ?_
    refine mvS rfl rfl rfl ?_
    refine mvI rfl rfl rfl ?_
    refine oxI (zn := ((Math.indexOf r ((r.getD (Math.best r) 0)))).toNat) 1 rfl el28 rfl rfl rfl rfl (by omega) (by omega) rfl ?_
    intro gk20 hgk20
    refine stoI (off := ((Math.indexOf r ((r.getD (Math.best r) 0)))).toNat) (x := (-1)) 1 rfl hgk20 Try.sizeOf2 trv rfl rfl rfl rfl (by omega) ?_
    refine rNil ?_
    refine qSeq rfl ?_
    refine hReg (sq 0 (sq 1 (sq 2 sz))) (by kernel_rfl) ?_
    refine mvI rfl rfl rfl ?_
    refine sub rfl rfl rfl rfl (by omega) ?_
    refine asI rfl rfl rfl ?_
    refine rNil ?_
    rw [hit]
    exact qNext rfl ((m - 1, o.set (Math.best r) (o.getD (Math.best r) 0 + 1), r.set (Math.best r) (-1))) (by dsimp only; omega) (⟨by dsimp only; rw [← Math.rounds_step (by omega)]; exact hro, ⟨by dsimp only; rw [List.length_set]; exact hol, by dsimp only; rw [List.length_set]; exact hrl⟩, by dsimp only; omega, by dsimp only; exact Math.bd_set hob ⟨by omega, by omega⟩⟩) ⟨rfl, rfl, rfl, trivial⟩ (fun _ h => h.pick [0, 0])
   ·
    replace c6 : ¬ (0 < m) := c6
    refine hExit rfl ?_
    refine qSeq rfl ?_
    refine hSeq ?_
    refine hReg (sq 0 (sq 1 sz)) (by kernel_rfl) ?_
    refine mvS rfl rfl rfl ?_
    refine asS rfl rfl rfl ?_
    refine rNil ?_
    refine qSeq rfl ?_
    refine hRet ?_
    exact fun w hs => ⟨[.slice (some ⟨bkm4, 0, none⟩) nz nz], ⟨rfl, trivial⟩, ⟨((some ⟨bkm4, 0, none⟩), nz, nz, o), rfl, by unfold Math.partsOf; rw [← hro, Math.rounds_end (by omega)], hs.pick [0]⟩⟩
end Go.Proofs.Ytjengglpbdgmnaa
