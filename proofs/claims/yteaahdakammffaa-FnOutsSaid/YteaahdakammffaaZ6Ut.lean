/- Contracts of cards that are alike. Their conditions stand in each. -/
import Derived.Test.YteaahdakammffaaZ5Ut
import Derived.Test.YteaahdakammffaaZ1Ut
import Derived.Test.YteaahdakammffaaZ2Ut
import Derived.Test.YteaahdakammffaaZ3Ut
import Derived.Test.YteaahdakammffaaRows
namespace Go.Proofs.Yteaahdakammffaa
open Go Go.RowKit V
set_option linter.unusedVariables false
set_option linter.unusedSimpArgs false
set_option maxRecDepth 100000
theorem bsl23_1 (v0 : Value) (h0 : v0.cells = #[v0]) : ∀ w, (Instr.buildSlice 23 1 ([(0, v0)] : List (Nat × Value)).toArray).run Try.prog w = .ok (.slice (some ⟨w.heap.size, 0, none⟩) 1 1) (w.alloc (.cells ([v0] : List Value).toArray 2)) := by
 intro w; simp [Instr.buildSlice, Instr.fill, Try.zeroValue2, Try.runUnderlying23, Try.sizeOf2, Value.cells_int, newRow, show Array.range 1 = #[0] from by decide, h0]
theorem slices_Concat_int64_int64_c (az : Option Addr) (nz : Nat) (cz : Nat) (Hz : Nat → Hd) (z : List (List Int)) (w : World) (rz : RdR maK az nz Hz z w) (hf : z.flatten.length ≤ 3000000) :
  Calls Try.prog 97 #[.slice az nz cz] w (Ret fun v w' => ∃ x : Option Addr × Nat × Nat × List Int, v = .slice x.1 x.2.1 x.2.2.1 ∧ (x.2.2.2 = z.flatten) ∧ Sep w none_ [OwnI 2 x.1 x.2.1 x.2.2.1 x.2.2.2] w') := by
 have kz : Kn w none_ [] (RdR maK az nz Hz z) := fun w' hs => rz.ext hs.upd
 have lz : z.length = nz := rz.1
 have mz : nz ≤ 9223372036854775807 := rz.2.1
 refine fn (M := none_) (rs := [.tmp 2]) Try.func97 rfl Try.ntmps97 rfl rfl (Sep.start _ _) ?_
 refine hSeq ?_
 refine hReg (sq 0 sz) (by kernel_rfl) ?_
 refine asS rfl rfl rfl ?_
 refine rNil ?_
 refine qSeq rfl ?_
 refine hSeq ?_
 refine hReg (sq 0 sz) (by kernel_rfl) ?_
 refine asI rfl rfl rfl ?_
 refine rNil ?_
 refine qSeq rfl ?_
 refine hSeq ?_
 refine hSeq ?_
 refine hReg (sq 0 (sq 1 (sq 2 sz))) (by kernel_rfl) ?_
 refine mvS rfl rfl rfl ?_
 refine lenS Try.runUnderlying22 rfl rfl rfl ?_
 refine mvI rfl rfl rfl ?_
 refine rNil ?_
 refine qSeq rfl ?_
 refine hBlk ?_
 refine hLoop (α := Nat × Nat) (fun x => x.1 ≤ nz ∧ x.2 = (z.take x.1).flatten.length) (fun x => nz - x.1) (fun x => []) (fun x => [(0, .slice az nz cz), (3, .int .i64 (x.2 : Int)), (9, .slice az nz cz), (10, .int .i64 (nz : Int)), (11, .int .i64 (x.1 : Int))]) (0, 0) ⟨Nat.zero_le _, rfl⟩ (fun _ h => h.pick []) ⟨rfl, rfl, rfl, rfl, rfl, trivial⟩ ?_
 rintro ⟨i, s⟩ τ1 ⟨hi, hs⟩
 dsimp only at hi hs
 refine hRe [(0, .slice az nz cz), (3, .int .i64 (s : Int)), (9, .slice az nz cz), (10, .int .i64 (nz : Int)), (11, .int .i64 (i : Int))] [] rfl rfl ?_
 refine hSeq ?_
 refine hReg (sq 0 sz) (by kernel_rfl) ?_
 refine lss rfl rfl rfl rfl ?_
 refine rNil ?_
 refine qSeq rfl ?_
 refine hSeq ?_
 refine hIfD rfl (fun c1 => ?_) (fun c1 => ?_)
 ·
  replace c1 : (i : Int) < (nz : Int) := c1
  have hfa := Iso.flat_at (z := z) (i := i) (by omega)
  refine hSkip ?_
  refine qSeq rfl ?_
  refine hSeq ?_
  refine hBlk ?_
  refine hSeq ?_
  refine hReg (sq 0 (sl 1 (sq 2 sz))) (by kernel_rfl) ?_
  refine ixRl (zn := i) (z.getD i []) el22 (kz) rfl rfl rfl rfl (by omega) (by omega) rfl (nth [] (by omega)) ?_
  intro be1 oe1 e1
  refine ldl Try.isAgg23 (Kn.fld e1 0 rfl) trv rfl rfl rfl ?_
  refine asS rfl rfl rfl ?_
  refine rNil ?_
  refine qSeq rfl ?_
  refine hSeq ?_
  refine hReg (sq 0 (sq 1 (sq 2 (sq 3 (sq 4 sz))))) (by kernel_rfl) ?_
  refine mvI rfl rfl rfl ?_
  refine mvS rfl rfl rfl ?_
  refine lenS Try.runUnderlying23 rfl rfl rfl ?_
  refine add rfl rfl rfl rfl (by omega) ?_
  refine asI rfl rfl rfl ?_
  refine rNil ?_
  refine qSeq rfl ?_
  refine hSeq ?_
  refine hReg (sq 0 (sq 1 sz)) (by kernel_rfl) ?_
  refine mvI rfl rfl rfl ?_
  refine lss rfl rfl rfl rfl ?_
  refine rNil ?_
  refine qSeq rfl ?_
  refine hIfD rfl (fun c2 => ?_) (fun c2 => ?_)
  ·
   replace c2 : ((s : Int) + (((z.getD i []).length : Nat) : Int)) < 0 := c2
   exfalso; omega
  ·
   replace c2 : ¬ (((s : Int) + (((z.getD i []).length : Nat) : Int)) < 0) := c2
   refine hSkip ?_
   refine qSeq rfl ?_
   refine hReg (sq 0 (sq 1 sz)) (by kernel_rfl) ?_
   refine add rfl rfl rfl rfl (by omega) ?_
   refine mvI rfl rfl rfl ?_
   refine rNil ?_
   exact qNext rfl ((i + 1, s + (z.getD i []).length)) (by dsimp only; omega) ⟨by dsimp only; omega, by dsimp only; rw [Iso.flat_snoc (by omega), List.length_append, ← hs]⟩ ⟨rfl, rfl, rfl, rfl, rfl, trivial⟩ (fun _ h => h.pick [])
 ·
  replace c1 : ¬ ((i : Int) < (nz : Int)) := c1
  have hfl := Iso.flat_le z i
  refine hExit rfl ?_
  refine qSeq rfl ?_
  refine hSeq ?_
  refine hReg (sq 0 (sl 1 (sq 2 sz))) (by kernel_rfl) ?_
  refine mvI rfl rfl rfl ?_
  refine callS Try.call134 trv1 rfl rfl (fun w hs => grow_c s w (by omega)) ?_
  rintro ⟨aw2, cw2⟩ -
  refine asS rfl rfl rfl ?_
  refine rNil ?_
  refine qSeq rfl ?_
  refine hSeq ?_
  refine hSeq ?_
  refine hReg (sq 0 (sq 1 (sq 2 sz))) (by kernel_rfl) ?_
  refine mvS rfl rfl rfl ?_
  refine lenS Try.runUnderlying22 rfl rfl rfl ?_
  refine mvI rfl rfl rfl ?_
  refine rNil ?_
  refine qSeq rfl ?_
  refine hBlk ?_
  refine hLoop (α := Nat × Nat × Hd) (fun x => x.1 ≤ nz ∧ x.2.1 = (z.take x.1).flatten.length) (fun x => nz - x.1) (fun x => [OwnI 2 x.2.2.1 x.2.1 x.2.2.2 (((z.take x.1).flatten))]) (fun x => [(6, .slice x.2.2.1 x.2.1 x.2.2.2), (25, .slice az nz cz), (26, .int .i64 (nz : Int)), (27, .int .i64 (x.1 : Int))]) ((0, 0, (aw2, cw2))) ⟨Nat.zero_le _, rfl⟩ (fun _ h => h.pick [0]) ⟨rfl, rfl, rfl, rfl, trivial⟩ ?_
  rintro ⟨i, q, hd⟩ τ2 ⟨hi, hq⟩
  dsimp only at hi hq
  refine hRe [(6, .slice hd.1 q hd.2), (25, .slice az nz cz), (26, .int .i64 (nz : Int)), (27, .int .i64 (i : Int))] [OwnI 2 hd.1 q hd.2 (((z.take i).flatten))] rfl rfl ?_
  refine hSeq ?_
  refine hReg (sq 0 sz) (by kernel_rfl) ?_
  refine lss rfl rfl rfl rfl ?_
  refine rNil ?_
  refine qSeq rfl ?_
  refine hSeq ?_
  refine hIfD rfl (fun c3 => ?_) (fun c3 => ?_)
  ·
   replace c3 : (i : Int) < (nz : Int) := c3
   have hfa := Iso.flat_at (z := z) (i := i) (by omega)
   refine hSkip ?_
   refine qSeq rfl ?_
   refine hSeq ?_
   refine hBlk ?_
   refine hSeq ?_
   refine hReg (sq 0 (sl 1 (sq 2 sz))) (by kernel_rfl) ?_
   refine ixRl (zn := i) (z.getD i []) el22 (Kn.drop (k := 1) kz) rfl rfl rfl rfl (by omega) (by omega) rfl (nth [] (by omega)) ?_
   intro be3 oe3 e3
   refine ldl Try.isAgg23 (Kn.fld e3 0 rfl) trv rfl rfl rfl ?_
   refine asS rfl rfl rfl ?_
   refine rNil ?_
   refine qSeq rfl ?_
   refine hReg (sq 0 (sq 1 (sl 2 (sq 3 sz)))) (by kernel_rfl) ?_
   refine mvS rfl rfl rfl ?_
   refine mvS rfl rfl rfl ?_
   refine aplL (N := q) (ys := (z.getD i [])) 0 rfl (Kn.drop (k := 1) ((Kn.imp kz fun _ h => h.kidM (nth [] (by omega))))) mk23 trv1 rfl rfl rfl rfl (by omega) ?_
   intro aq4 cq4
   refine asS rfl rfl rfl ?_
   refine rNil ?_
   refine qSeq rfl ?_
   refine hReg (sq 0 (sq 1 sz)) (by kernel_rfl) ?_
   refine add rfl rfl rfl rfl (by omega) ?_
   refine mvI rfl rfl rfl ?_
   refine rNil ?_
   rw [← Iso.flat_snoc (by omega)]
   exact qNext rfl ((i + 1, (q + (z.getD i []).length), (aq4, cq4))) (by dsimp only; omega) ⟨by dsimp only; omega, by dsimp only; rw [Iso.flat_snoc (by omega), List.length_append, ← hq]⟩ ⟨rfl, rfl, rfl, rfl, trivial⟩ (fun _ h => h.pick [0])
  ·
   replace c3 : ¬ ((i : Int) < (nz : Int)) := c3
   refine hExit rfl ?_
   refine qSeq rfl ?_
   refine hSeq ?_
   refine hReg (sq 0 (sq 1 sz)) (by kernel_rfl) ?_
   refine mvS rfl rfl rfl ?_
   refine asS rfl rfl rfl ?_
   refine rNil ?_
   refine qSeq rfl ?_
   refine hRet ?_
   exact fun w hs => ⟨[.slice hd.1 q hd.2], ⟨rfl, trivial⟩, ⟨(hd.1, q, hd.2, ((z.take i).flatten)), rfl, Iso.flat_all (by omega), hs.pick [0]⟩⟩
end Go.Proofs.Yteaahdakammffaa
/- Contracts of values of hands. Their conditions stand in each. -/
namespace Go.Proofs.Yteaahdakammffaa
open Go Go.RowKit V
set_option linter.unusedVariables false
set_option linter.unusedSimpArgs false
set_option maxRecDepth 100000
theorem bsl23_2 (v0 v1 : Value) (h0 : v0.cells = #[v0]) (h1 : v1.cells = #[v1]) : ∀ w, (Instr.buildSlice 23 2 ([(0, v0), (1, v1)] : List (Nat × Value)).toArray).run Try.prog w = .ok (.slice (some ⟨w.heap.size, 0, none⟩) 2 2) (w.alloc (.cells ([v0, v1] : List Value).toArray 2)) := by
 intro w; simp [Instr.buildSlice, Instr.fill, Try.zeroValue2, Try.runUnderlying23, Try.sizeOf2, Value.cells_int, newRow, show Array.range 2 = #[0, 1] from by decide, h0, h1]
theorem bsl23_3 (v0 v1 v2 : Value) (h0 : v0.cells = #[v0]) (h1 : v1.cells = #[v1]) (h2 : v2.cells = #[v2]) : ∀ w, (Instr.buildSlice 23 3 ([(0, v0), (1, v1), (2, v2)] : List (Nat × Value)).toArray).run Try.prog w = .ok (.slice (some ⟨w.heap.size, 0, none⟩) 3 3) (w.alloc (.cells ([v0, v1, v2] : List Value).toArray 2)) := by
 intro w; simp [Instr.buildSlice, Instr.fill, Try.zeroValue2, Try.runUnderlying23, Try.sizeOf2, Value.cells_int, newRow, show Array.range 3 = #[0, 1, 2] from by decide, h0, h1, h2]
theorem bsl23_4 (v0 v1 v2 v3 : Value) (h0 : v0.cells = #[v0]) (h1 : v1.cells = #[v1]) (h2 : v2.cells = #[v2]) (h3 : v3.cells = #[v3]) : ∀ w, (Instr.buildSlice 23 4 ([(0, v0), (1, v1), (2, v2), (3, v3)] : List (Nat × Value)).toArray).run Try.prog w = .ok (.slice (some ⟨w.heap.size, 0, none⟩) 4 4) (w.alloc (.cells ([v0, v1, v2, v3] : List Value).toArray 2)) := by
 intro w; simp [Instr.buildSlice, Instr.fill, Try.zeroValue2, Try.runUnderlying23, Try.sizeOf2, Value.cells_int, newRow, show Array.range 4 = #[0, 1, 2, 3] from by decide, h0, h1, h2, h3]
theorem ar150 : Arr Try.prog 150 13 1 := ⟨3, Try.runUnderlying150, Try.sizeOf3⟩
theorem ar151 : Arr Try.prog 151 4 1 := ⟨80, Try.runUnderlying151, Try.sizeOf80⟩
theorem ar152 : Arr Try.prog 152 4 1 := ⟨3, Try.runUnderlying152, Try.sizeOf3⟩
theorem impl_valueOf_c (az : Option Addr) (nz : Nat) (cz : Nat) (z : List Int) (al : Bool) (w : World) (rz : RdI az nz z w) (ha : Iso.areP z) (hn : 5 ≤ z.length ∧ z.length ≤ 8) :
  Calls Try.prog 138 #[.slice az nz cz, .bool al] w (Ret fun v w' => v = .int .i64 (Hd.valN z al) ∧ Ext w w') := by
 have kz : Kn w none_ [] (RdI az nz z) := fun w' hs => rz.ext hs.upd
 have lz : z.length = nz := rz.1
 have mz : nz ≤ 9223372036854775807 := rz.2.1
 refine fn (M := none_) (rs := [.tmp 4]) Try.func138 rfl Try.ntmps138 rfl rfl (Sep.start _ _) ?_
 refine hSeq ?_
 refine hReg (sq 0 sz) (by kernel_rfl) ?_
 refine asI rfl rfl rfl ?_
 refine rNil ?_
 refine qSeq rfl ?_
 refine hSeq ?_
 refine hReg (sl 0 sz) (by kernel_rfl) ?_
 refine alc Try.zeroValue150 rfl trv1 rfl rfl (fun bka1 hbka1 => ?_)
 refine rPieces (L' := [arP bka1 150 .i64 (List.replicate 13 0)]) (fun _ h => h) ?_
 refine rNil ?_
 refine qSeq rfl ?_
 refine hSeq ?_
 refine hReg (sl 0 sz) (by kernel_rfl) ?_
 refine alc Try.zeroValue151 rfl trv1 rfl rfl (fun bka2 hbka2 => ?_)
 refine rPieces (L' := [arP bka2 151 .u64 (List.replicate 4 0), arP bka1 150 .i64 (List.replicate 13 0)]) (fun _ h => h) ?_
 refine rNil ?_
 refine qSeq rfl ?_
 refine hSeq ?_
 refine hReg (sl 0 sz) (by kernel_rfl) ?_
 refine alc Try.zeroValue152 rfl trv1 rfl rfl (fun bka3 hbka3 => ?_)
 refine rPieces (L' := [arP bka3 152 .i64 (List.replicate 4 0), arP bka2 151 .u64 (List.replicate 4 0), arP bka1 150 .i64 (List.replicate 13 0)]) (fun _ h => h) ?_
 refine rNil ?_
 refine qSeq rfl ?_
 refine hSeq ?_
 refine hReg (sq 0 sz) (by kernel_rfl) ?_
 refine asI rfl rfl rfl ?_
 refine rNil ?_
 refine qSeq rfl ?_
 refine hSeq ?_
 refine hSeq ?_
 refine hReg (sq 0 (sq 1 (sq 2 sz))) (by kernel_rfl) ?_
 refine mvS rfl rfl rfl ?_
 refine lenS Try.runUnderlying23 rfl rfl rfl ?_
 refine mvI rfl rfl rfl ?_
 refine rNil ?_
 refine qSeq rfl ?_
 refine hBlk ?_
 refine hLoop (α := Nat) (fun i => i ≤ nz) (fun i => nz - i) (fun i => [arP bka3 152 .i64 ((Hd.tally Hd.su 4 (z.take i))), arP bka2 151 .u64 (((Hd.smask (z.take i)).map Int.ofNat)), arP bka1 150 .i64 ((Hd.tally Hd.rk 13 (z.take i)))]) (fun i => [(1, .bool al), (5, .pointer (some ⟨bka1, 0, none⟩)), (6, .pointer (some ⟨bka2, 0, none⟩)), (7, .pointer (some ⟨bka3, 0, none⟩)), (8, .int .u64 (((Hd.mask (z.take i) : Nat) : Int))), (22, .slice az nz cz), (23, .int .i64 (nz : Int)), (24, .int .i64 (i : Int))]) 0 (Nat.zero_le _) (fun _ h => by rw [List.take_zero, Hd.tally_nil, Hd.tally_nil, ← Hd.smask_nil]; exact h.pick [0, 0, 0]) ⟨rfl, rfl, rfl, rfl, rfl, rfl, rfl, rfl, trivial⟩ ?_
 rintro i τ1 hi
 refine hSeq ?_
 refine hReg (sq 0 sz) (by kernel_rfl) ?_
 refine lss rfl rfl rfl rfl ?_
 refine rNil ?_
 refine qSeq rfl ?_
 refine hSeq ?_
 refine hIfD rfl (fun c1 => ?_) (fun c1 => ?_)
 ·
  replace c1 : (i : Int) < (nz : Int) := c1
  have hiz : i < z.length := by omega
  have hx := ha.1 _ (Math.getD_mem 0 hiz)
  have hb1 := Hd.tally_bd (f := Hd.rk) (n := 13) (z := (z.take i)) (r := ((z.getD i 0) / 4).toNat) (by omega)
  have hb2 := Hd.tally_bd (f := Hd.su) (n := 4) (z := (z.take i)) (r := ((z.getD i 0) % 4).toNat) (by omega)
  have hb3 := Hd.smask_lt (Hd.okC_take ha.1 i) (s := ((z.getD i 0) % 4).toNat) (by omega)
  have hb4 := Hd.mask_lt (Hd.okC_take ha.1 i)
  have hb5 : 2 ^ ((z.getD i 0) / 4).toNat ≤ 2 ^ 12 := Nat.pow_le_pow_right (by decide) (by omega)
  rw [List.length_take] at hb1 hb2
  refine hSkip ?_
  refine qSeq rfl ?_
  refine hSeq ?_
  refine hBlk ?_
  refine hSeq ?_
  refine hReg (sq 0 (sl 1 (sq 2 sz))) (by kernel_rfl) ?_
  refine ixIl (zn := i) el23 (Kn.drop (k := 3) kz) rfl rfl rfl rfl (by omega) (by omega) rfl ?_
  intro ae1 e1
  refine ldl Try.isAgg2 (e1) trv rfl rfl rfl ?_
  refine asI rfl rfl rfl ?_
  refine rNil ?_
  refine qSeq rfl ?_
  refine hSeq ?_
  refine hReg (sq 0 (sq 1 (sq 2 (sl 3 (sq 4 (sq 5 (sl 6 sz))))))) (by kernel_rfl) ?_
  refine mvI rfl rfl rfl ?_
  refine shr2 rfl rfl rfl rfl ?_
  refine ixAd (zn := ((((z.getD i 0) / 4)).toNat)) ar150 rfl rfl rfl rfl (by omega) (by omega) rfl ?_
  refine ldl Try.isAgg3 (cArr (z := ((((z.getD i 0) / 4)).toNat)) 2 rfl (by first | (rw [Hd.tally_len]; omega) | (rw [List.length_map, Hd.smask_len]; omega))) trv rfl rfl rfl ?_
  refine add rfl rfl rfl rfl (by omega) ?_
  refine ixAd (zn := ((((z.getD i 0) / 4)).toNat)) ar150 rfl rfl rfl rfl (by omega) (by omega) rfl ?_
  refine stAr (x := ((((Hd.tally Hd.rk 13 (z.take i))).getD ((((z.getD i 0) / 4)).toNat) 0) + 1)) (z := (((z.getD i 0) / 4)).toNat) 2 rfl Try.sizeOf3 trv rfl rfl rfl rfl (by first | (rw [Hd.tally_len]; omega) | (rw [List.length_map, Hd.smask_len]; omega)) ?_
  refine rNil ?_
  refine qSeq rfl ?_
  refine hSeq ?_
  refine hDraw (Ls := [arP bka2 151 .u64 (((Hd.smask (z.take i)).map Int.ofNat))]) (by kernel_rfl) (sq 0 (sq 1 (sq 2 (sq 3 (sq 4 (sq 5 (sq 6 (sq 7 (sq 8 (sf 9 sz)))))))))) (by kernel_rfl) (.cons _ (.cons_cons _ (.cons _ .slnil))) ?_
  refine mvI rfl rfl rfl ?_
  refine and3 rfl rfl rfl rfl (by omega) ?_
  refine ixAd (zn := ((((z.getD i 0) % 4)).toNat)) ar151 rfl rfl rfl rfl (by omega) (by omega) rfl ?_
  refine ldq Try.isAgg80 (cArr (z := ((((z.getD i 0) % 4)).toNat)) 0 rfl (by first | (rw [Hd.tally_len]; omega) | (rw [List.length_map, Hd.smask_len]; omega))) rfl rfl rfl ?_
  refine rVal (v' := .int .u64 (((((Hd.smask (z.take i))).getD ((((z.getD i 0) % 4)).toNat) 0 : Nat) : Int))) (by rw [Hd.natAt]) ?_
  refine mvI rfl rfl rfl ?_
  refine shr2 rfl rfl rfl rfl ?_
  refine shlU rfl rfl rfl rfl (by omega) ?_
  refine orU (x := (((Hd.smask (z.take i))).getD ((((z.getD i 0) % 4)).toNat) 0)) (y := (2 ^ (((z.getD i 0) / 4)).toNat)) rfl rfl rfl rfl (by omega) ?_
  refine ixAd (zn := ((((z.getD i 0) % 4)).toNat)) ar151 rfl rfl rfl rfl (by omega) (by omega) rfl ?_
  refine stArF (x := (((((Hd.smask (z.take i))).getD ((((z.getD i 0) % 4)).toNat) 0) ||| (2 ^ (((z.getD i 0) / 4)).toNat) : Nat) : Int)) (z := (((z.getD i 0) % 4)).toNat) 1 rfl Try.sizeOf80 rfl rfl rfl rfl (by first | (rw [Hd.tally_len]; omega) | (rw [List.length_map, Hd.smask_len]; omega)) ?_
  refine rNil ?_
  refine qSeq rfl ?_
  refine hSeq ?_
  refine hReg (sq 0 (sq 1 (sq 2 (sl 3 (sq 4 (sq 5 (sl 6 sz))))))) (by kernel_rfl) ?_
  refine mvI rfl rfl rfl ?_
  refine and3 rfl rfl rfl rfl (by omega) ?_
  refine ixAd (zn := ((((z.getD i 0) % 4)).toNat)) ar152 rfl rfl rfl rfl (by omega) (by omega) rfl ?_
  refine ldl Try.isAgg3 (cArr (z := ((((z.getD i 0) % 4)).toNat)) 0 rfl (by first | (rw [Hd.tally_len]; omega) | (rw [List.length_map, Hd.smask_len]; omega))) trv rfl rfl rfl ?_
  refine add rfl rfl rfl rfl (by omega) ?_
  refine ixAd (zn := ((((z.getD i 0) % 4)).toNat)) ar152 rfl rfl rfl rfl (by omega) (by omega) rfl ?_
  refine stAr (x := ((((Hd.tally Hd.su 4 (z.take i))).getD ((((z.getD i 0) % 4)).toNat) 0) + 1)) (z := (((z.getD i 0) % 4)).toNat) 0 rfl Try.sizeOf3 trv rfl rfl rfl rfl (by first | (rw [Hd.tally_len]; omega) | (rw [List.length_map, Hd.smask_len]; omega)) ?_
  refine rNil ?_
  refine qSeq rfl ?_
  refine hReg (sq 0 (sq 1 (sq 2 (sq 3 (sq 4 (sq 5 sz)))))) (by kernel_rfl) ?_
  refine mvI rfl rfl rfl ?_
  refine mvI rfl rfl rfl ?_
  refine shr2 rfl rfl rfl rfl ?_
  refine shlU rfl rfl rfl rfl (by omega) ?_
  refine orU (x := (Hd.mask (z.take i))) (y := (2 ^ (((z.getD i 0) / 4)).toNat)) rfl rfl rfl rfl (by omega) ?_
  refine asI rfl rfl rfl ?_
  refine rNil ?_
  refine qSeq rfl ?_
  refine hReg (sq 0 (sq 1 sz)) (by kernel_rfl) ?_
  refine add rfl rfl rfl rfl (by omega) ?_
  refine mvI rfl rfl rfl ?_
  refine rNil ?_
  rw [show (Hd.tally Hd.rk 13 (z.take i)).set ((z.getD i 0) / 4).toNat ((Hd.tally Hd.rk 13 (z.take i)).getD ((z.getD i 0) / 4).toNat 0 + 1) = Hd.tally Hd.rk 13 (z.take (i + 1)) from Hd.tally_take (f := Hd.rk) hiz (by simp only [Hd.rk]; omega), show (Hd.tally Hd.su 4 (z.take i)).set ((z.getD i 0) % 4).toNat ((Hd.tally Hd.su 4 (z.take i)).getD ((z.getD i 0) % 4).toNat 0 + 1) = Hd.tally Hd.su 4 (z.take (i + 1)) from Hd.tally_take (f := Hd.su) hiz (by simp only [Hd.su]; omega), show ((Hd.smask (z.take i)).map Int.ofNat).set ((z.getD i 0) % 4).toNat (((Hd.smask (z.take i)).getD ((z.getD i 0) % 4).toNat 0 ||| 2 ^ ((z.getD i 0) / 4).toNat : Nat) : Int) = (Hd.smask (z.take (i + 1))).map Int.ofNat from Hd.smask_take hiz hx]
  exact qNext rfl (i + 1) (by omega) (by omega) ((by repeat first | exact trivial | refine ⟨by first | rfl | exact vI (by rw [← Hd.mask_take hiz]), ?_⟩)) (fun _ h => h.pick [0, 0, 0])
 ·
  replace c1 : ¬ ((i : Int) < (nz : Int)) := c1
  rw [List.take_of_length_le (show z.length ≤ i by omega)]
  refine hExit rfl ?_
  refine qSeq rfl ?_
  refine hSeq ?_
  refine hReg (sq 0 sz) (by kernel_rfl) ?_
  refine asI rfl rfl rfl ?_
  refine rNil ?_
  refine qSeq rfl ?_
  refine hSeq ?_
  refine hSeq ?_
  refine hReg (sl 0 (sq 1 sz)) (by kernel_rfl) ?_
  refine ldAl Try.isAgg152 Try.sizeOf152 (cArs 0 rfl) trv rfl rfl rfl (by simp [Hd.tally_len]) ?_
  refine mvI rfl rfl rfl ?_
  refine rNil ?_
  refine qSeq rfl ?_
  refine hBlk ?_
  refine hLoop (α := Nat) (fun s => s ≤ 4 ∧ ∀ j, j < s → Hd.sfAt z al j = false) (fun s => 4 - s) (fun s => [arP bka3 152 .i64 (Hd.tally Hd.su 4 z), arP bka2 151 .u64 (((Hd.smask z).map Int.ofNat)), arP bka1 150 .i64 (Hd.tally Hd.rk 13 z)]) (fun s => [(1, .bool al), (5, .pointer (some ⟨bka1, 0, none⟩)), (6, .pointer (some ⟨bka2, 0, none⟩)), (8, .int .u64 (((Hd.mask z : Nat) : Int))), (11, .int .i64 ((Hd.flTo (Hd.smask z) (Hd.tally Hd.su 4 z) s))), (55, .agg ((Hd.tally Hd.su 4 z).map (Value.int .i64)).toArray), (56, .int .i64 (s : Int))]) 0 ⟨by omega, fun j h => absurd h (Nat.not_lt_zero j)⟩ (fun _ h => h.pick [0, 0, 0]) ⟨rfl, rfl, rfl, rfl, rfl, rfl, rfl, trivial⟩ ?_
  rintro s τ2 ⟨hs4, hno⟩
  refine hSeq ?_
  refine hReg (sq 0 sz) (by kernel_rfl) ?_
  refine lss rfl rfl rfl rfl ?_
  refine rNil ?_
  refine qSeq rfl ?_
  refine hSeq ?_
  refine hIfD rfl (fun c2 => ?_) (fun c2 => ?_)
  ·
   replace c2 : (s : Int) < 4 := c2
   have hs4' : s < 4 := by omega
   have hsm := Hd.smask_lt ha.1 hs4'
   have hsi := Hd.strIn_bd (c := 8) (m := (Hd.smask z).getD s 0) (al := al) (by decide)
   refine hSkip ?_
   refine qSeq rfl ?_
   refine hSeq ?_
   refine hBlk ?_
   refine hSeq ?_
   refine hReg (sq 0 (sq 1 (sq 2 (sq 3 sz)))) (by kernel_rfl) ?_
   refine mvI rfl rfl rfl ?_
   refine ixV (zs := (Hd.tally Hd.su 4 z)) (zn := s) Try.underlying152 Try.sizeOf3 Try.isAgg3 rfl rfl rfl rfl (by omega) (by omega) (by simp [Hd.tally_len]) rfl ?_
   refine asI rfl rfl rfl ?_
   refine asI rfl rfl rfl ?_
   refine rNil ?_
   refine qSeq rfl ?_
   refine hSeq ?_
   refine hSeq ?_
   refine hReg (sq 0 (sq 1 sz)) (by kernel_rfl) ?_
   refine mvI rfl rfl rfl ?_
   refine lss rfl rfl rfl rfl ?_
   refine rNil ?_
   refine qSeq rfl ?_
   refine hIfD rfl (fun c3 => ?_) (fun c3 => ?_)
   ·
    replace c3 : ((Hd.tally Hd.su 4 z).getD s 0) < 5 := c3
    have hsf : Hd.sfAt z al s = false := Hd.sfAt_lt c3
    refine hExit rfl ?_
    refine qSeq rfl ?_
    refine hReg (sq 0 (sq 1 sz)) (by kernel_rfl) ?_
    refine add rfl rfl rfl rfl (by omega) ?_
    refine mvI rfl rfl rfl ?_
    refine rNil ?_
    exact qNext rfl (s + 1) (by omega) ⟨by omega, fun j hj => by rcases (show j < s ∨ j = s by omega) with h | rfl <;> first | exact hno _ h | exact hsf⟩ ((by repeat first | exact trivial | refine ⟨by first | rfl | exact vI (Hd.flTo_lt c3), ?_⟩)) (fun _ h => h.pick [0, 0, 0])
   ·
    replace c3 : ¬ (((Hd.tally Hd.su 4 z).getD s 0) < 5) := c3
    have hp5 := Hd.pre5 ha hs4' c3
    refine hSkip ?_
    refine qSeq rfl ?_
    refine hSeq ?_
    refine hSeq ?_
    refine hReg (sq 0 (sq 1 (sl 2 (sq 3 (sl 4 (sq 5 sz)))))) (by kernel_rfl) ?_
    refine mvI rfl rfl rfl ?_
    refine ixAd (zn := s) ar151 rfl rfl rfl rfl (by omega) (by omega) rfl ?_
    refine ldl Try.isAgg80 (cArr (z := s) 1 rfl (by first | (rw [Hd.tally_len]; omega) | (rw [List.length_map, Hd.smask_len]; omega))) trv rfl rfl rfl ?_
    refine rVal (v' := .int .u64 ((((Hd.smask z).getD s 0 : Nat) : Int))) (by rw [Hd.natAt]) ?_
    refine mvB rfl rfl rfl ?_
    refine callP (v := .int .i64 ((Hd.strIn (8 : Int) ((Hd.smask z).getD s 0) al))) Try.call154 trv rfl rfl (fun w hs => impl_straightIn_c _ _ _ w (by omega) (by first | assumption | omega | exact Hd.xor_lt hmk)) ?_
    refine asI rfl rfl rfl ?_
    refine rNil ?_
    refine qSeq rfl ?_
    refine hSeq ?_
    refine hReg (sq 0 (sq 1 sz)) (by kernel_rfl) ?_
    refine mvI rfl rfl rfl ?_
    refine geq rfl rfl rfl rfl ?_
    refine rNil ?_
    refine qSeq rfl ?_
    refine hIfD rfl (fun c4 => ?_) (fun c4 => ?_)
    ·
     replace c4 : 0 ≤ (Hd.strIn (8 : Int) ((Hd.smask z).getD s 0) al) := c4
     have hsf : Hd.sfAt z al s = true := Hd.sfAt_yes c3 c4
     have hval := (Hd.valN_sf hs4' hsf hno).symm
     refine hSeq ?_
     refine hReg (sq 0 (sq 1 sz)) (by kernel_rfl) ?_
     refine mvI rfl rfl rfl ?_
     refine asI rfl rfl rfl ?_
     refine rNil ?_
     refine qSeq rfl ?_
     refine hRet ?_
     exact fun w hs => ⟨[.int .i64 ((Hd.strIn (8 : Int) ((Hd.smask z).getD s 0) al))], ⟨rfl, trivial⟩, ⟨by first | exact vI hval | (exfalso; omega) | exact vI (by rw [hR]; unfold Hd.rest; dsimp only; repeat (first | rfl | rw [if_pos (by omega)] | rw [if_neg (by omega)])), hs.upd⟩⟩
    ·
     replace c4 : ¬ (0 ≤ (Hd.strIn (8 : Int) ((Hd.smask z).getD s 0) al)) := c4
     have hsf : Hd.sfAt z al s = false := Hd.sfAt_no c4
     refine hSkip ?_
     refine qSeq rfl ?_
     refine hReg (sq 0 (sq 1 (sl 2 (sl 3 (sq 4 sz))))) (by kernel_rfl) ?_
     refine mvI rfl rfl rfl ?_
     refine ixAd (zn := s) ar151 rfl rfl rfl rfl (by omega) (by omega) rfl ?_
     refine ldl Try.isAgg80 (cArr (z := s) 1 rfl (by first | (rw [Hd.tally_len]; omega) | (rw [List.length_map, Hd.smask_len]; omega))) trv rfl rfl rfl ?_
     refine rVal (v' := .int .u64 ((((Hd.smask z).getD s 0 : Nat) : Int))) (by rw [Hd.natAt]) ?_
     refine callP (v := .int .i64 ((Hd.topR (5 : Int) ((Hd.smask z).getD s 0) []))) Try.call155 trv rfl rfl (fun w hs => impl_topRanks_c _ _ _ _ _ _ w (RdI.nil _ _) (by omega) (by first | assumption | omega | exact Hd.xor_lt hmk) (by first | assumption | exact Hd.digs_nil | (unfold Hd.digs13; simp only [List.mem_cons, List.not_mem_nil, or_false, forall_eq_or_imp, forall_eq]; omega)) (by first | omega | (simp only [List.length_cons, List.length_nil]; omega)) (by first | assumption | (exfalso; omega) | exact (Hd.pre4 ha (by omega) hSc (by omega)).2 | exact (Hd.pre3 ha (by omega) hSc (by omega) (by omega) (by omega)).2 | exact (Hd.pre2 ha (by omega) hSc (by omega) (by omega) (by omega)).2 | exact (Hd.pre1 ha (by omega) hSc (by omega) (by omega) (by omega) (by omega)).2 | exact Hd.pre0 ha (by omega) hSc (by omega) (by omega) (by omega))) ?_
     refine asI rfl rfl rfl ?_
     refine rNil ?_
     refine qSeq rfl ?_
     refine hReg (sq 0 (sq 1 sz)) (by kernel_rfl) ?_
     refine add rfl rfl rfl rfl (by omega) ?_
     refine mvI rfl rfl rfl ?_
     refine rNil ?_
     exact qNext rfl (s + 1) (by omega) ⟨by omega, fun j hj => by rcases (show j < s ∨ j = s by omega) with h | rfl <;> first | exact hno _ h | exact hsf⟩ ((by repeat first | exact trivial | refine ⟨by first | rfl | exact vI (Hd.flTo_ge c3), ?_⟩)) (fun _ h => h.pick [0, 0, 0])
  ·
   replace c2 : ¬ ((s : Int) < 4) := c2
   refine hExit rfl ?_
   refine qSeq rfl ?_
   refine hSeq ?_
   refine hReg (sq 0 (sq 1 (sq 2 (sq 3 sz)))) (by kernel_rfl) ?_
   refine asI rfl rfl rfl ?_
   refine asI rfl rfl rfl ?_
   refine asI rfl rfl rfl ?_
   refine asI rfl rfl rfl ?_
   refine rNil ?_
   refine qSeq rfl ?_
   refine hSeq ?_
   refine hSeq ?_
   refine hReg (sq 0 sz) (by kernel_rfl) ?_
   refine asI rfl rfl rfl ?_
   refine rNil ?_
   refine qSeq rfl ?_
   refine hBlk ?_
   refine hLoop (α := Nat × Int × Int × Int × Int) (fun x => x.1 ≤ 13 ∧ (x.2.1, x.2.2.1, x.2.2.2.1, x.2.2.2.2) = Hd.scanTo (Hd.tally Hd.rk 13 z) x.1) (fun x => 13 - x.1) (fun x => [arP bka3 152 .i64 (Hd.tally Hd.su 4 z), arP bka2 151 .u64 (((Hd.smask z).map Int.ofNat)), arP bka1 150 .i64 (Hd.tally Hd.rk 13 z)]) (fun x => [(1, .bool al), (5, .pointer (some ⟨bka1, 0, none⟩)), (8, .int .u64 (((Hd.mask z : Nat) : Int))), (11, .int .i64 ((Hd.flTo (Hd.smask z) (Hd.tally Hd.su 4 z) s))), (15, .int .i64 x.2.1), (16, .int .i64 x.2.2.1), (17, .int .i64 x.2.2.2.1), (18, .int .i64 x.2.2.2.2), (19, .int .i64 ((12 - (x.1 : Int))))]) (0, -1, -1, -1, -1) ⟨by dsimp only; omega, rfl⟩ (fun _ h => h.pick [0, 0, 0]) ⟨rfl, rfl, rfl, rfl, rfl, rfl, rfl, rfl, rfl, trivial⟩ ?_
   rintro ⟨j, f, t, u, v⟩ τ3 ⟨hj, hsc⟩
   dsimp only at hj hsc
   refine hRe [(1, .bool al), (5, .pointer (some ⟨bka1, 0, none⟩)), (8, .int .u64 (((Hd.mask z : Nat) : Int))), (11, .int .i64 ((Hd.flTo (Hd.smask z) (Hd.tally Hd.su 4 z) s))), (15, .int .i64 f), (16, .int .i64 t), (17, .int .i64 u), (18, .int .i64 v), (19, .int .i64 ((12 - (j : Int))))] [arP bka3 152 .i64 (Hd.tally Hd.su 4 z), arP bka2 151 .u64 (((Hd.smask z).map Int.ofNat)), arP bka1 150 .i64 (Hd.tally Hd.rk 13 z)] rfl rfl ?_
   refine hSeq ?_
   refine hSeq ?_
   refine hReg (sq 0 (sq 1 sz)) (by kernel_rfl) ?_
   refine mvI rfl rfl rfl ?_
   refine geq rfl rfl rfl rfl ?_
   refine rNil ?_
   refine qSeq rfl ?_
   refine hIfD rfl (fun c5 => ?_) (fun c5 => ?_)
   ·
    replace c5 : 0 ≤ (12 - (j : Int)) := c5
    have hj13 : j < 13 := by omega
    refine hSkip ?_
    refine qSeq rfl ?_
    refine hSeq ?_
    refine hBlk ?_
    refine hSeq ?_
    refine hReg (sq 0 (sq 1 (sl 2 (sq 3 sz)))) (by kernel_rfl) ?_
    refine mvI rfl rfl rfl ?_
    refine ixAd (zn := (((12 - (j : Int))).toNat)) ar150 rfl rfl rfl rfl (by omega) (by omega) rfl ?_
    refine ldl Try.isAgg3 (cArr (z := (((12 - (j : Int))).toNat)) 2 rfl (by first | (rw [Hd.tally_len]; omega) | (rw [List.length_map, Hd.smask_len]; omega))) trv rfl rfl rfl ?_
    refine asI rfl rfl rfl ?_
    refine rNil ?_
    refine qSeq rfl ?_
    refine hBlk ?_
    refine hSeq ?_
    refine hReg (sq 0 (sq 1 (sq 2 (sq 3 (sq 4 (sq 5 (sq 6 sz))))))) (by kernel_rfl) ?_
    refine mvI rfl rfl rfl ?_
    refine eql rfl rfl rfl rfl ?_
    refine mvB rfl rfl rfl ?_
    refine rBoolD (d := 85) rfl (fun g6 => ?_) (fun g6 => ?_)
    ·
     replace g6 : ((Hd.tally Hd.rk 13 z).getD (((12 - (j : Int))).toNat) 0) = 4 := g6
     refine mvI rfl rfl rfl ?_
     refine lss rfl rfl rfl rfl ?_
     refine pickB rfl rfl rfl rfl ?_
     refine asB rfl rfl rfl ?_
     refine rNil ?_
     refine qSeq rfl ?_
     refine hIfD rfl (fun c7 => ?_) (fun c7 => ?_)
     ·
      replace c7 : f < 0 := c7
      refine hReg (sq 0 (sq 1 sz)) (by kernel_rfl) ?_
      refine mvI rfl rfl rfl ?_
      refine asI rfl rfl rfl ?_
      refine rNil ?_
      refine qSeq rfl ?_
      refine hReg (sq 0 (sq 1 (sq 2 sz))) (by kernel_rfl) ?_
      refine mvI rfl rfl rfl ?_
      refine sub rfl rfl rfl rfl (by omega) ?_
      refine asI rfl rfl rfl ?_
      refine rNil ?_
      exact qNext rfl ((j + 1, (12 - (j : Int)), t, u, v)) (by dsimp only; omega) ⟨by dsimp only; omega, Hd.scan_next hj13 hsc (by first | (exfalso; omega) | (unfold Hd.scanStep; dsimp only; repeat (first | rfl | rw [if_pos (by omega)] | rw [if_neg (by omega)])))⟩ ((by repeat first | exact trivial | refine ⟨by first | rfl | exact vI (by push_cast; omega), ?_⟩)) (fun _ h => h.pick [0, 0, 0])
     ·
      replace c7 : ¬ (f < 0) := c7
      refine hSeq ?_
      refine hReg (sq 0 (sq 1 (sq 2 (sq 3 (sq 4 (sq 5 (sq 6 sz))))))) (by kernel_rfl) ?_
      refine mvI rfl rfl rfl ?_
      refine geq rfl rfl rfl rfl ?_
      refine mvB rfl rfl rfl ?_
      refine rBoolD (d := 93) rfl (fun g8 => ?_) (fun g8 => ?_)
      ·
       replace g8 : 3 ≤ ((Hd.tally Hd.rk 13 z).getD (((12 - (j : Int))).toNat) 0) := g8
       refine mvI rfl rfl rfl ?_
       refine lss rfl rfl rfl rfl ?_
       refine pickB rfl rfl rfl rfl ?_
       refine asB rfl rfl rfl ?_
       refine rNil ?_
       refine qSeq rfl ?_
       refine hIfD rfl (fun c9 => ?_) (fun c9 => ?_)
       ·
        replace c9 : t < 0 := c9
        refine hReg (sq 0 (sq 1 sz)) (by kernel_rfl) ?_
        refine mvI rfl rfl rfl ?_
        refine asI rfl rfl rfl ?_
        refine rNil ?_
        refine qSeq rfl ?_
        refine hReg (sq 0 (sq 1 (sq 2 sz))) (by kernel_rfl) ?_
        refine mvI rfl rfl rfl ?_
        refine sub rfl rfl rfl rfl (by omega) ?_
        refine asI rfl rfl rfl ?_
        refine rNil ?_
        exact qNext rfl ((j + 1, f, (12 - (j : Int)), u, v)) (by dsimp only; omega) ⟨by dsimp only; omega, Hd.scan_next hj13 hsc (by first | (exfalso; omega) | (unfold Hd.scanStep; dsimp only; repeat (first | rfl | rw [if_pos (by omega)] | rw [if_neg (by omega)])))⟩ ((by repeat first | exact trivial | refine ⟨by first | rfl | exact vI (by push_cast; omega), ?_⟩)) (fun _ h => h.pick [0, 0, 0])
       ·
        replace c9 : ¬ (t < 0) := c9
        refine hSeq ?_
        refine hReg (sq 0 (sq 1 (sq 2 (sq 3 (sq 4 (sq 5 (sq 6 sz))))))) (by kernel_rfl) ?_
        refine mvI rfl rfl rfl ?_
        refine geq rfl rfl rfl rfl ?_
        refine mvB rfl rfl rfl ?_
        refine rBoolD (d := 101) rfl (fun g10 => ?_) (fun g10 => ?_)
        ·
         replace g10 : 2 ≤ ((Hd.tally Hd.rk 13 z).getD (((12 - (j : Int))).toNat) 0) := g10
         refine mvI rfl rfl rfl ?_
         refine lss rfl rfl rfl rfl ?_
         refine pickB rfl rfl rfl rfl ?_
         refine asB rfl rfl rfl ?_
         refine rNil ?_
         refine qSeq rfl ?_
         refine hIfD rfl (fun c11 => ?_) (fun c11 => ?_)
         ·
          replace c11 : u < 0 := c11
          refine hReg (sq 0 (sq 1 sz)) (by kernel_rfl) ?_
          refine mvI rfl rfl rfl ?_
          refine asI rfl rfl rfl ?_
          refine rNil ?_
          refine qSeq rfl ?_
          refine hReg (sq 0 (sq 1 (sq 2 sz))) (by kernel_rfl) ?_
          refine mvI rfl rfl rfl ?_
          refine sub rfl rfl rfl rfl (by omega) ?_
          refine asI rfl rfl rfl ?_
          refine rNil ?_
          exact qNext rfl ((j + 1, f, t, (12 - (j : Int)), v)) (by dsimp only; omega) ⟨by dsimp only; omega, Hd.scan_next hj13 hsc (by first | (exfalso; omega) | (unfold Hd.scanStep; dsimp only; repeat (first | rfl | rw [if_pos (by omega)] | rw [if_neg (by omega)])))⟩ ((by repeat first | exact trivial | refine ⟨by first | rfl | exact vI (by push_cast; omega), ?_⟩)) (fun _ h => h.pick [0, 0, 0])
         ·
          replace c11 : ¬ (u < 0) := c11
          refine hSeq ?_
          refine hReg (sq 0 (sq 1 (sq 2 (sq 3 (sq 4 (sq 5 (sq 6 sz))))))) (by kernel_rfl) ?_
          refine mvI rfl rfl rfl ?_
          refine geq rfl rfl rfl rfl ?_
          refine mvB rfl rfl rfl ?_
          refine rBoolD (d := 109) rfl (fun g12 => ?_) (fun g12 => ?_)
          ·
           replace g12 : 2 ≤ ((Hd.tally Hd.rk 13 z).getD (((12 - (j : Int))).toNat) 0) := g12
           refine mvI rfl rfl rfl ?_
           refine lss rfl rfl rfl rfl ?_
           refine pickB rfl rfl rfl rfl ?_
           refine asB rfl rfl rfl ?_
           refine rNil ?_
           refine qSeq rfl ?_
           refine hIfD rfl (fun c13 => ?_) (fun c13 => ?_)
           ·
            replace c13 : v < 0 := c13
            refine hReg (sq 0 (sq 1 sz)) (by kernel_rfl) ?_
            refine mvI rfl rfl rfl ?_
            refine asI rfl rfl rfl ?_
            refine rNil ?_
            refine qSeq rfl ?_
            refine hReg (sq 0 (sq 1 (sq 2 sz))) (by kernel_rfl) ?_
            refine mvI rfl rfl rfl ?_
            refine sub rfl rfl rfl rfl (by omega) ?_
            refine asI rfl rfl rfl ?_
            refine rNil ?_
            exact qNext rfl ((j + 1, f, t, u, (12 - (j : Int)))) (by dsimp only; omega) ⟨by dsimp only; omega, Hd.scan_next hj13 hsc (by first | (exfalso; omega) | (unfold Hd.scanStep; dsimp only; repeat (first | rfl | rw [if_pos (by omega)] | rw [if_neg (by omega)])))⟩ ((by repeat first | exact trivial | refine ⟨by first | rfl | exact vI (by push_cast; omega), ?_⟩)) (fun _ h => h.pick [0, 0, 0])
           ·
            replace c13 : ¬ (v < 0) := c13
            refine hSkip ?_
            refine qSeq rfl ?_
            refine hReg (sq 0 (sq 1 (sq 2 sz))) (by kernel_rfl) ?_
            refine mvI rfl rfl rfl ?_
            refine sub rfl rfl rfl rfl (by omega) ?_
            refine asI rfl rfl rfl ?_
            refine rNil ?_
            exact qNext rfl (j + 1, f, t, u, v) (by dsimp only; omega) ⟨by dsimp only; omega, Hd.scan_next hj13 hsc (by first | (exfalso; omega) | (unfold Hd.scanStep; dsimp only; repeat (first | rfl | rw [if_pos (by omega)] | rw [if_neg (by omega)])))⟩ ((by repeat first | exact trivial | refine ⟨by first | rfl | exact vI (by push_cast; omega), ?_⟩)) (fun _ h => h.pick [0, 0, 0])
          ·
           replace g12 : ¬ (2 ≤ ((Hd.tally Hd.rk 13 z).getD (((12 - (j : Int))).toNat) 0)) := g12
           refine rSkipQ rfl rfl ?_
           refine rSkipQ rfl rfl ?_
           refine pickB rfl rfl rfl rfl ?_
           refine asB rfl rfl rfl ?_
           refine rNil ?_
           refine qSeq rfl ?_
           refine hIfF rfl ?_
           refine hSkip ?_
           refine qSeq rfl ?_
           refine hReg (sq 0 (sq 1 (sq 2 sz))) (by kernel_rfl) ?_
           refine mvI rfl rfl rfl ?_
           refine sub rfl rfl rfl rfl (by omega) ?_
           refine asI rfl rfl rfl ?_
           refine rNil ?_
           exact qNext rfl (j + 1, f, t, u, v) (by dsimp only; omega) ⟨by dsimp only; omega, Hd.scan_next hj13 hsc (by first | (exfalso; omega) | (unfold Hd.scanStep; dsimp only; repeat (first | rfl | rw [if_pos (by omega)] | rw [if_neg (by omega)])))⟩ ((by repeat first | exact trivial | refine ⟨by first | rfl | exact vI (by push_cast; omega), ?_⟩)) (fun _ h => h.pick [0, 0, 0])
        ·
         replace g10 : ¬ (2 ≤ ((Hd.tally Hd.rk 13 z).getD (((12 - (j : Int))).toNat) 0)) := g10
         refine rSkipQ rfl rfl ?_
         refine rSkipQ rfl rfl ?_
         refine pickB rfl rfl rfl rfl ?_
         refine asB rfl rfl rfl ?_
         refine rNil ?_
         refine qSeq rfl ?_
         refine hIfF rfl ?_
         refine hSeq ?_
         refine hReg (sq 0 (sq 1 (sq 2 (sq 3 (sq 4 (sq 5 (sq 6 sz))))))) (by kernel_rfl) ?_
         refine mvI rfl rfl rfl ?_
         refine geq rfl rfl rfl rfl ?_
         refine mvB rfl rfl rfl ?_
         refine rBoolD (d := 109) rfl (fun g14 => ?_) (fun g14 => ?_)
         ·
          replace g14 : 2 ≤ ((Hd.tally Hd.rk 13 z).getD (((12 - (j : Int))).toNat) 0) := g14
          refine mvI rfl rfl rfl ?_
          refine lss rfl rfl rfl rfl ?_
          refine pickB rfl rfl rfl rfl ?_
          refine asB rfl rfl rfl ?_
          refine rNil ?_
          refine qSeq rfl ?_
          refine hIfD rfl (fun c15 => ?_) (fun c15 => ?_)
          ·
           replace c15 : v < 0 := c15
           refine hReg (sq 0 (sq 1 sz)) (by kernel_rfl) ?_
           refine mvI rfl rfl rfl ?_
           refine asI rfl rfl rfl ?_
           refine rNil ?_
           refine qSeq rfl ?_
           refine hReg (sq 0 (sq 1 (sq 2 sz))) (by kernel_rfl) ?_
           refine mvI rfl rfl rfl ?_
           refine sub rfl rfl rfl rfl (by omega) ?_
           refine asI rfl rfl rfl ?_
           refine rNil ?_
           exact qNext rfl ((j + 1, f, t, u, (12 - (j : Int)))) (by dsimp only; omega) ⟨by dsimp only; omega, Hd.scan_next hj13 hsc (by first | (exfalso; omega) | (unfold Hd.scanStep; dsimp only; repeat (first | rfl | rw [if_pos (by omega)] | rw [if_neg (by omega)])))⟩ ((by repeat first | exact trivial | refine ⟨by first | rfl | exact vI (by push_cast; omega), ?_⟩)) (fun _ h => h.pick [0, 0, 0])
          ·
           replace c15 : ¬ (v < 0) := c15
           refine hSkip ?_
           refine qSeq rfl ?_
           refine hReg (sq 0 (sq 1 (sq 2 sz))) (by kernel_rfl) ?_
           refine mvI rfl rfl rfl ?_
           refine sub rfl rfl rfl rfl (by omega) ?_
           refine asI rfl rfl rfl ?_
           refine rNil ?_
           exact qNext rfl (j + 1, f, t, u, v) (by dsimp only; omega) ⟨by dsimp only; omega, Hd.scan_next hj13 hsc (by first | (exfalso; omega) | (unfold Hd.scanStep; dsimp only; repeat (first | rfl | rw [if_pos (by omega)] | rw [if_neg (by omega)])))⟩ ((by repeat first | exact trivial | refine ⟨by first | rfl | exact vI (by push_cast; omega), ?_⟩)) (fun _ h => h.pick [0, 0, 0])
         ·
          replace g14 : ¬ (2 ≤ ((Hd.tally Hd.rk 13 z).getD (((12 - (j : Int))).toNat) 0)) := g14
          refine rSkipQ rfl rfl ?_
          refine rSkipQ rfl rfl ?_
          refine pickB rfl rfl rfl rfl ?_
          refine asB rfl rfl rfl ?_
          refine rNil ?_
          refine qSeq rfl ?_
          refine hIfF rfl ?_
          refine hSkip ?_
          refine qSeq rfl ?_
          refine hReg (sq 0 (sq 1 (sq 2 sz))) (by kernel_rfl) ?_
          refine mvI rfl rfl rfl ?_
          refine sub rfl rfl rfl rfl (by omega) ?_
          refine asI rfl rfl rfl ?_
          refine rNil ?_
          exact qNext rfl (j + 1, f, t, u, v) (by dsimp only; omega) ⟨by dsimp only; omega, Hd.scan_next hj13 hsc (by first | (exfalso; omega) | (unfold Hd.scanStep; dsimp only; repeat (first | rfl | rw [if_pos (by omega)] | rw [if_neg (by omega)])))⟩ ((by repeat first | exact trivial | refine ⟨by first | rfl | exact vI (by push_cast; omega), ?_⟩)) (fun _ h => h.pick [0, 0, 0])
      ·
       replace g8 : ¬ (3 ≤ ((Hd.tally Hd.rk 13 z).getD (((12 - (j : Int))).toNat) 0)) := g8
       refine rSkipQ rfl rfl ?_
       refine rSkipQ rfl rfl ?_
       refine pickB rfl rfl rfl rfl ?_
       refine asB rfl rfl rfl ?_
       refine rNil ?_
       refine qSeq rfl ?_
       refine hIfF rfl ?_
       refine hSeq ?_
       refine hReg (sq 0 (sq 1 (sq 2 (sq 3 (sq 4 (sq 5 (sq 6 sz))))))) (by kernel_rfl) ?_
       refine mvI rfl rfl rfl ?_
       refine geq rfl rfl rfl rfl ?_
       refine mvB rfl rfl rfl ?_
       refine rBoolD (d := 101) rfl (fun g16 => ?_) (fun g16 => ?_)
       ·
        replace g16 : 2 ≤ ((Hd.tally Hd.rk 13 z).getD (((12 - (j : Int))).toNat) 0) := g16
        refine mvI rfl rfl rfl ?_
        refine lss rfl rfl rfl rfl ?_
        refine pickB rfl rfl rfl rfl ?_
        refine asB rfl rfl rfl ?_
        refine rNil ?_
        refine qSeq rfl ?_
        refine hIfD rfl (fun c17 => ?_) (fun c17 => ?_)
        ·
         replace c17 : u < 0 := c17
         refine hReg (sq 0 (sq 1 sz)) (by kernel_rfl) ?_
         refine mvI rfl rfl rfl ?_
         refine asI rfl rfl rfl ?_
         refine rNil ?_
         refine qSeq rfl ?_
         refine hReg (sq 0 (sq 1 (sq 2 sz))) (by kernel_rfl) ?_
         refine mvI rfl rfl rfl ?_
         refine sub rfl rfl rfl rfl (by omega) ?_
         refine asI rfl rfl rfl ?_
         refine rNil ?_
         exact qNext rfl ((j + 1, f, t, (12 - (j : Int)), v)) (by dsimp only; omega) ⟨by dsimp only; omega, Hd.scan_next hj13 hsc (by first | (exfalso; omega) | (unfold Hd.scanStep; dsimp only; repeat (first | rfl | rw [if_pos (by omega)] | rw [if_neg (by omega)])))⟩ ((by repeat first | exact trivial | refine ⟨by first | rfl | exact vI (by push_cast; omega), ?_⟩)) (fun _ h => h.pick [0, 0, 0])
        ·
         replace c17 : ¬ (u < 0) := c17
         refine hSeq ?_
         refine hReg (sq 0 (sq 1 (sq 2 (sq 3 (sq 4 (sq 5 (sq 6 sz))))))) (by kernel_rfl) ?_
         refine mvI rfl rfl rfl ?_
         refine geq rfl rfl rfl rfl ?_
         refine mvB rfl rfl rfl ?_
         refine rBoolD (d := 109) rfl (fun g18 => ?_) (fun g18 => ?_)
         ·
          replace g18 : 2 ≤ ((Hd.tally Hd.rk 13 z).getD (((12 - (j : Int))).toNat) 0) := g18
          refine mvI rfl rfl rfl ?_
          refine lss rfl rfl rfl rfl ?_
          refine pickB rfl rfl rfl rfl ?_
          refine asB rfl rfl rfl ?_
          refine rNil ?_
          refine qSeq rfl ?_
          refine hIfD rfl (fun c19 => ?_) (fun c19 => ?_)
          ·
           replace c19 : v < 0 := c19
           refine hReg (sq 0 (sq 1 sz)) (by kernel_rfl) ?_
           refine mvI rfl rfl rfl ?_
           refine asI rfl rfl rfl ?_
           refine rNil ?_
           refine qSeq rfl ?_
           refine hReg (sq 0 (sq 1 (sq 2 sz))) (by kernel_rfl) ?_
           refine mvI rfl rfl rfl ?_
           refine sub rfl rfl rfl rfl (by omega) ?_
           refine asI rfl rfl rfl ?_
           refine rNil ?_
           exact qNext rfl ((j + 1, f, t, u, (12 - (j : Int)))) (by dsimp only; omega) ⟨by dsimp only; omega, Hd.scan_next hj13 hsc (by first | (exfalso; omega) | (unfold Hd.scanStep; dsimp only; repeat (first | rfl | rw [if_pos (by omega)] | rw [if_neg (by omega)])))⟩ ((by repeat first | exact trivial | refine ⟨by first | rfl | exact vI (by push_cast; omega), ?_⟩)) (fun _ h => h.pick [0, 0, 0])
          ·
           replace c19 : ¬ (v < 0) := c19
           refine hSkip ?_
           refine qSeq rfl ?_
           refine hReg (sq 0 (sq 1 (sq 2 sz))) (by kernel_rfl) ?_
           refine mvI rfl rfl rfl ?_
           refine sub rfl rfl rfl rfl (by omega) ?_
           refine asI rfl rfl rfl ?_
           refine rNil ?_
           exact qNext rfl (j + 1, f, t, u, v) (by dsimp only; omega) ⟨by dsimp only; omega, Hd.scan_next hj13 hsc (by first | (exfalso; omega) | (unfold Hd.scanStep; dsimp only; repeat (first | rfl | rw [if_pos (by omega)] | rw [if_neg (by omega)])))⟩ ((by repeat first | exact trivial | refine ⟨by first | rfl | exact vI (by push_cast; omega), ?_⟩)) (fun _ h => h.pick [0, 0, 0])
         ·
          replace g18 : ¬ (2 ≤ ((Hd.tally Hd.rk 13 z).getD (((12 - (j : Int))).toNat) 0)) := g18
          refine rSkipQ rfl rfl ?_
          refine rSkipQ rfl rfl ?_
          refine pickB rfl rfl rfl rfl ?_
          refine asB rfl rfl rfl ?_
          refine rNil ?_
          refine qSeq rfl ?_
          refine hIfF rfl ?_
          refine hSkip ?_
          refine qSeq rfl ?_
          refine hReg (sq 0 (sq 1 (sq 2 sz))) (by kernel_rfl) ?_
          refine mvI rfl rfl rfl ?_
          refine sub rfl rfl rfl rfl (by omega) ?_
          refine asI rfl rfl rfl ?_
          refine rNil ?_
          exact qNext rfl (j + 1, f, t, u, v) (by dsimp only; omega) ⟨by dsimp only; omega, Hd.scan_next hj13 hsc (by first | (exfalso; omega) | (unfold Hd.scanStep; dsimp only; repeat (first | rfl | rw [if_pos (by omega)] | rw [if_neg (by omega)])))⟩ ((by repeat first | exact trivial | refine ⟨by first | rfl | exact vI (by push_cast; omega), ?_⟩)) (fun _ h => h.pick [0, 0, 0])
       ·
        replace g16 : ¬ (2 ≤ ((Hd.tally Hd.rk 13 z).getD (((12 - (j : Int))).toNat) 0)) := g16
        refine rSkipQ rfl rfl ?_
        refine rSkipQ rfl rfl ?_
        refine pickB rfl rfl rfl rfl ?_
        refine asB rfl rfl rfl ?_
        refine rNil ?_
        refine qSeq rfl ?_
        refine hIfF rfl ?_
        refine hSeq ?_
        refine hReg (sq 0 (sq 1 (sq 2 (sq 3 (sq 4 (sq 5 (sq 6 sz))))))) (by kernel_rfl) ?_
        refine mvI rfl rfl rfl ?_
        refine geq rfl rfl rfl rfl ?_
        refine mvB rfl rfl rfl ?_
        refine rBoolD (d := 109) rfl (fun g20 => ?_) (fun g20 => ?_)
        ·
         replace g20 : 2 ≤ ((Hd.tally Hd.rk 13 z).getD (((12 - (j : Int))).toNat) 0) := g20
         refine mvI rfl rfl rfl ?_
         refine lss rfl rfl rfl rfl ?_
         refine pickB rfl rfl rfl rfl ?_
         refine asB rfl rfl rfl ?_
         refine rNil ?_
         refine qSeq rfl ?_
         refine hIfD rfl (fun c21 => ?_) (fun c21 => ?_)
         ·
          replace c21 : v < 0 := c21
          refine hReg (sq 0 (sq 1 sz)) (by kernel_rfl) ?_
          refine mvI rfl rfl rfl ?_
          refine asI rfl rfl rfl ?_
          refine rNil ?_
          refine qSeq rfl ?_
          refine hReg (sq 0 (sq 1 (sq 2 sz))) (by kernel_rfl) ?_
          refine mvI rfl rfl rfl ?_
          refine sub rfl rfl rfl rfl (by omega) ?_
          refine asI rfl rfl rfl ?_
          refine rNil ?_
          exact qNext rfl ((j + 1, f, t, u, (12 - (j : Int)))) (by dsimp only; omega) ⟨by dsimp only; omega, Hd.scan_next hj13 hsc (by first | (exfalso; omega) | (unfold Hd.scanStep; dsimp only; repeat (first | rfl | rw [if_pos (by omega)] | rw [if_neg (by omega)])))⟩ ((by repeat first | exact trivial | refine ⟨by first | rfl | exact vI (by push_cast; omega), ?_⟩)) (fun _ h => h.pick [0, 0, 0])
         ·
          replace c21 : ¬ (v < 0) := c21
          refine hSkip ?_
          refine qSeq rfl ?_
          refine hReg (sq 0 (sq 1 (sq 2 sz))) (by kernel_rfl) ?_
          refine mvI rfl rfl rfl ?_
          refine sub rfl rfl rfl rfl (by omega) ?_
          refine asI rfl rfl rfl ?_
          refine rNil ?_
          exact qNext rfl (j + 1, f, t, u, v) (by dsimp only; omega) ⟨by dsimp only; omega, Hd.scan_next hj13 hsc (by first | (exfalso; omega) | (unfold Hd.scanStep; dsimp only; repeat (first | rfl | rw [if_pos (by omega)] | rw [if_neg (by omega)])))⟩ ((by repeat first | exact trivial | refine ⟨by first | rfl | exact vI (by push_cast; omega), ?_⟩)) (fun _ h => h.pick [0, 0, 0])
        ·
         replace g20 : ¬ (2 ≤ ((Hd.tally Hd.rk 13 z).getD (((12 - (j : Int))).toNat) 0)) := g20
         refine rSkipQ rfl rfl ?_
         refine rSkipQ rfl rfl ?_
         refine pickB rfl rfl rfl rfl ?_
         refine asB rfl rfl rfl ?_
         refine rNil ?_
         refine qSeq rfl ?_
         refine hIfF rfl ?_
         refine hSkip ?_
         refine qSeq rfl ?_
         refine hReg (sq 0 (sq 1 (sq 2 sz))) (by kernel_rfl) ?_
         refine mvI rfl rfl rfl ?_
         refine sub rfl rfl rfl rfl (by omega) ?_
         refine asI rfl rfl rfl ?_
         refine rNil ?_
         exact qNext rfl (j + 1, f, t, u, v) (by dsimp only; omega) ⟨by dsimp only; omega, Hd.scan_next hj13 hsc (by first | (exfalso; omega) | (unfold Hd.scanStep; dsimp only; repeat (first | rfl | rw [if_pos (by omega)] | rw [if_neg (by omega)])))⟩ ((by repeat first | exact trivial | refine ⟨by first | rfl | exact vI (by push_cast; omega), ?_⟩)) (fun _ h => h.pick [0, 0, 0])
    ·
     replace g6 : ¬ (((Hd.tally Hd.rk 13 z).getD (((12 - (j : Int))).toNat) 0) = 4) := g6
     refine rSkipQ rfl rfl ?_
     refine rSkipQ rfl rfl ?_
     refine pickB rfl rfl rfl rfl ?_
     refine asB rfl rfl rfl ?_
     refine rNil ?_
     refine qSeq rfl ?_
     refine hIfF rfl ?_
     refine hSeq ?_
     refine hReg (sq 0 (sq 1 (sq 2 (sq 3 (sq 4 (sq 5 (sq 6 sz))))))) (by kernel_rfl) ?_
     refine mvI rfl rfl rfl ?_
     refine geq rfl rfl rfl rfl ?_
     refine mvB rfl rfl rfl ?_
     refine rBoolD (d := 93) rfl (fun g22 => ?_) (fun g22 => ?_)
     ·
      replace g22 : 3 ≤ ((Hd.tally Hd.rk 13 z).getD (((12 - (j : Int))).toNat) 0) := g22
      refine mvI rfl rfl rfl ?_
      refine lss rfl rfl rfl rfl ?_
      refine pickB rfl rfl rfl rfl ?_
      refine asB rfl rfl rfl ?_
      refine rNil ?_
      refine qSeq rfl ?_
      refine hIfD rfl (fun c23 => ?_) (fun c23 => ?_)
      ·
       replace c23 : t < 0 := c23
       refine hReg (sq 0 (sq 1 sz)) (by kernel_rfl) ?_
       refine mvI rfl rfl rfl ?_
       refine asI rfl rfl rfl ?_
       refine rNil ?_
       refine qSeq rfl ?_
       refine hReg (sq 0 (sq 1 (sq 2 sz))) (by kernel_rfl) ?_
       refine mvI rfl rfl rfl ?_
       refine sub rfl rfl rfl rfl (by omega) ?_
       refine asI rfl rfl rfl ?_
       refine rNil ?_
       exact qNext rfl ((j + 1, f, (12 - (j : Int)), u, v)) (by dsimp only; omega) ⟨by dsimp only; omega, Hd.scan_next hj13 hsc (by first | (exfalso; omega) | (unfold Hd.scanStep; dsimp only; repeat (first | rfl | rw [if_pos (by omega)] | rw [if_neg (by omega)])))⟩ ((by repeat first | exact trivial | refine ⟨by first | rfl | exact vI (by push_cast; omega), ?_⟩)) (fun _ h => h.pick [0, 0, 0])
      ·
       replace c23 : ¬ (t < 0) := c23
       refine hSeq ?_
       refine hReg (sq 0 (sq 1 (sq 2 (sq 3 (sq 4 (sq 5 (sq 6 sz))))))) (by kernel_rfl) ?_
       refine mvI rfl rfl rfl ?_
       refine geq rfl rfl rfl rfl ?_
       refine mvB rfl rfl rfl ?_
       refine rBoolD (d := 101) rfl (fun g24 => ?_) (fun g24 => ?_)
       ·
        replace g24 : 2 ≤ ((Hd.tally Hd.rk 13 z).getD (((12 - (j : Int))).toNat) 0) := g24
        refine mvI rfl rfl rfl ?_
        refine lss rfl rfl rfl rfl ?_
        refine pickB rfl rfl rfl rfl ?_
        refine asB rfl rfl rfl ?_
        refine rNil ?_
        refine qSeq rfl ?_
        refine hIfD rfl (fun c25 => ?_) (fun c25 => ?_)
        ·
         replace c25 : u < 0 := c25
         refine hReg (sq 0 (sq 1 sz)) (by kernel_rfl) ?_
         refine mvI rfl rfl rfl ?_
         refine asI rfl rfl rfl ?_
         refine rNil ?_
         refine qSeq rfl ?_
         refine hReg (sq 0 (sq 1 (sq 2 sz))) (by kernel_rfl) ?_
         refine mvI rfl rfl rfl ?_
         refine sub rfl rfl rfl rfl (by omega) ?_
         refine asI rfl rfl rfl ?_
         refine rNil ?_
         exact qNext rfl ((j + 1, f, t, (12 - (j : Int)), v)) (by dsimp only; omega) ⟨by dsimp only; omega, Hd.scan_next hj13 hsc (by first | (exfalso; omega) | (unfold Hd.scanStep; dsimp only; repeat (first | rfl | rw [if_pos (by omega)] | rw [if_neg (by omega)])))⟩ ((by repeat first | exact trivial | refine ⟨by first | rfl | exact vI (by push_cast; omega), ?_⟩)) (fun _ h => h.pick [0, 0, 0])
        ·
         replace c25 : ¬ (u < 0) := c25
         refine hSeq ?_
         refine hReg (sq 0 (sq 1 (sq 2 (sq 3 (sq 4 (sq 5 (sq 6 sz))))))) (by kernel_rfl) ?_
         refine mvI rfl rfl rfl ?_
         refine geq rfl rfl rfl rfl ?_
         refine mvB rfl rfl rfl ?_
         refine rBoolD (d := 109) rfl (fun g26 => ?_) (fun g26 => ?_)
         ·
          replace g26 : 2 ≤ ((Hd.tally Hd.rk 13 z).getD (((12 - (j : Int))).toNat) 0) := g26
          refine mvI rfl rfl rfl ?_
          refine lss rfl rfl rfl rfl ?_
          refine pickB rfl rfl rfl rfl ?_
          refine asB rfl rfl rfl ?_
          refine rNil ?_
          refine qSeq rfl ?_
          refine hIfD rfl (fun c27 => ?_) (fun c27 => ?_)
          ·
           replace c27 : v < 0 := c27
           refine hReg (sq 0 (sq 1 sz)) (by kernel_rfl) ?_
           refine mvI rfl rfl rfl ?_
           refine asI rfl rfl rfl ?_
           refine rNil ?_
           refine qSeq rfl ?_
           refine hReg (sq 0 (sq 1 (sq 2 sz))) (by kernel_rfl) ?_
           refine mvI rfl rfl rfl ?_
           refine sub rfl rfl rfl rfl (by omega) ?_
           refine asI rfl rfl rfl ?_
           refine rNil ?_
           exact qNext rfl ((j + 1, f, t, u, (12 - (j : Int)))) (by dsimp only; omega) ⟨by dsimp only; omega, Hd.scan_next hj13 hsc (by first | (exfalso; omega) | (unfold Hd.scanStep; dsimp only; repeat (first | rfl | rw [if_pos (by omega)] | rw [if_neg (by omega)])))⟩ ((by repeat first | exact trivial | refine ⟨by first | rfl | exact vI (by push_cast; omega), ?_⟩)) (fun _ h => h.pick [0, 0, 0])
          ·
           replace c27 : ¬ (v < 0) := c27
           refine hSkip ?_
           refine qSeq rfl ?_
           refine hReg (sq 0 (sq 1 (sq 2 sz))) (by kernel_rfl) ?_
           refine mvI rfl rfl rfl ?_
           refine sub rfl rfl rfl rfl (by omega) ?_
           refine asI rfl rfl rfl ?_
           refine rNil ?_
           exact qNext rfl (j + 1, f, t, u, v) (by dsimp only; omega) ⟨by dsimp only; omega, Hd.scan_next hj13 hsc (by first | (exfalso; omega) | (unfold Hd.scanStep; dsimp only; repeat (first | rfl | rw [if_pos (by omega)] | rw [if_neg (by omega)])))⟩ ((by repeat first | exact trivial | refine ⟨by first | rfl | exact vI (by push_cast; omega), ?_⟩)) (fun _ h => h.pick [0, 0, 0])
         ·
          replace g26 : ¬ (2 ≤ ((Hd.tally Hd.rk 13 z).getD (((12 - (j : Int))).toNat) 0)) := g26
          refine rSkipQ rfl rfl ?_
          refine rSkipQ rfl rfl ?_
          refine pickB rfl rfl rfl rfl ?_
          refine asB rfl rfl rfl ?_
          refine rNil ?_
          refine qSeq rfl ?_
          refine hIfF rfl ?_
          refine hSkip ?_
          refine qSeq rfl ?_
          refine hReg (sq 0 (sq 1 (sq 2 sz))) (by kernel_rfl) ?_
          refine mvI rfl rfl rfl ?_
          refine sub rfl rfl rfl rfl (by omega) ?_
          refine asI rfl rfl rfl ?_
          refine rNil ?_
          exact qNext rfl (j + 1, f, t, u, v) (by dsimp only; omega) ⟨by dsimp only; omega, Hd.scan_next hj13 hsc (by first | (exfalso; omega) | (unfold Hd.scanStep; dsimp only; repeat (first | rfl | rw [if_pos (by omega)] | rw [if_neg (by omega)])))⟩ ((by repeat first | exact trivial | refine ⟨by first | rfl | exact vI (by push_cast; omega), ?_⟩)) (fun _ h => h.pick [0, 0, 0])
       ·
        replace g24 : ¬ (2 ≤ ((Hd.tally Hd.rk 13 z).getD (((12 - (j : Int))).toNat) 0)) := g24
        refine rSkipQ rfl rfl ?_
        refine rSkipQ rfl rfl ?_
        refine pickB rfl rfl rfl rfl ?_
        refine asB rfl rfl rfl ?_
        refine rNil ?_
        refine qSeq rfl ?_
        refine hIfF rfl ?_
        refine hSeq ?_
        refine hReg (sq 0 (sq 1 (sq 2 (sq 3 (sq 4 (sq 5 (sq 6 sz))))))) (by kernel_rfl) ?_
        refine mvI rfl rfl rfl ?_
        refine geq rfl rfl rfl rfl ?_
        refine mvB rfl rfl rfl ?_
        refine rBoolD (d := 109) rfl (fun g28 => ?_) (fun g28 => ?_)
        ·
         replace g28 : 2 ≤ ((Hd.tally Hd.rk 13 z).getD (((12 - (j : Int))).toNat) 0) := g28
         refine mvI rfl rfl rfl ?_
         refine lss rfl rfl rfl rfl ?_
         refine pickB rfl rfl rfl rfl ?_
         refine asB rfl rfl rfl ?_
         refine rNil ?_
         refine qSeq rfl ?_
         refine hIfD rfl (fun c29 => ?_) (fun c29 => ?_)
         ·
          replace c29 : v < 0 := c29
          refine hReg (sq 0 (sq 1 sz)) (by kernel_rfl) ?_
          refine mvI rfl rfl rfl ?_
          refine asI rfl rfl rfl ?_
          refine rNil ?_
          refine qSeq rfl ?_
          refine hReg (sq 0 (sq 1 (sq 2 sz))) (by kernel_rfl) ?_
          refine mvI rfl rfl rfl ?_
          refine sub rfl rfl rfl rfl (by omega) ?_
          refine asI rfl rfl rfl ?_
          refine rNil ?_
          exact qNext rfl ((j + 1, f, t, u, (12 - (j : Int)))) (by dsimp only; omega) ⟨by dsimp only; omega, Hd.scan_next hj13 hsc (by first | (exfalso; omega) | (unfold Hd.scanStep; dsimp only; repeat (first | rfl | rw [if_pos (by omega)] | rw [if_neg (by omega)])))⟩ ((by repeat first | exact trivial | refine ⟨by first | rfl | exact vI (by push_cast; omega), ?_⟩)) (fun _ h => h.pick [0, 0, 0])
         ·
          replace c29 : ¬ (v < 0) := c29
          refine hSkip ?_
          refine qSeq rfl ?_
          refine hReg (sq 0 (sq 1 (sq 2 sz))) (by kernel_rfl) ?_
          refine mvI rfl rfl rfl ?_
          refine sub rfl rfl rfl rfl (by omega) ?_
          refine asI rfl rfl rfl ?_
          refine rNil ?_
          exact qNext rfl (j + 1, f, t, u, v) (by dsimp only; omega) ⟨by dsimp only; omega, Hd.scan_next hj13 hsc (by first | (exfalso; omega) | (unfold Hd.scanStep; dsimp only; repeat (first | rfl | rw [if_pos (by omega)] | rw [if_neg (by omega)])))⟩ ((by repeat first | exact trivial | refine ⟨by first | rfl | exact vI (by push_cast; omega), ?_⟩)) (fun _ h => h.pick [0, 0, 0])
        ·
         replace g28 : ¬ (2 ≤ ((Hd.tally Hd.rk 13 z).getD (((12 - (j : Int))).toNat) 0)) := g28
         refine rSkipQ rfl rfl ?_
         refine rSkipQ rfl rfl ?_
         refine pickB rfl rfl rfl rfl ?_
         refine asB rfl rfl rfl ?_
         refine rNil ?_
         refine qSeq rfl ?_
         refine hIfF rfl ?_
         refine hSkip ?_
         refine qSeq rfl ?_
         refine hReg (sq 0 (sq 1 (sq 2 sz))) (by kernel_rfl) ?_
         refine mvI rfl rfl rfl ?_
         refine sub rfl rfl rfl rfl (by omega) ?_
         refine asI rfl rfl rfl ?_
         refine rNil ?_
         exact qNext rfl (j + 1, f, t, u, v) (by dsimp only; omega) ⟨by dsimp only; omega, Hd.scan_next hj13 hsc (by first | (exfalso; omega) | (unfold Hd.scanStep; dsimp only; repeat (first | rfl | rw [if_pos (by omega)] | rw [if_neg (by omega)])))⟩ ((by repeat first | exact trivial | refine ⟨by first | rfl | exact vI (by push_cast; omega), ?_⟩)) (fun _ h => h.pick [0, 0, 0])
     ·
      replace g22 : ¬ (3 ≤ ((Hd.tally Hd.rk 13 z).getD (((12 - (j : Int))).toNat) 0)) := g22
      refine rSkipQ rfl rfl ?_
      refine rSkipQ rfl rfl ?_
      refine pickB rfl rfl rfl rfl ?_
      refine asB rfl rfl rfl ?_
      refine rNil ?_
      refine qSeq rfl ?_
      refine hIfF rfl ?_
      refine hSeq ?_
      refine hReg (sq 0 (sq 1 (sq 2 (sq 3 (sq 4 (sq 5 (sq 6 sz))))))) (by kernel_rfl) ?_
      refine mvI rfl rfl rfl ?_
      refine geq rfl rfl rfl rfl ?_
      refine mvB rfl rfl rfl ?_
      refine rBoolD (d := 101) rfl (fun g30 => ?_) (fun g30 => ?_)
      ·
       replace g30 : 2 ≤ ((Hd.tally Hd.rk 13 z).getD (((12 - (j : Int))).toNat) 0) := g30
       refine mvI rfl rfl rfl ?_
       refine lss rfl rfl rfl rfl ?_
       refine pickB rfl rfl rfl rfl ?_
       refine asB rfl rfl rfl ?_
       refine rNil ?_
       refine qSeq rfl ?_
       refine hIfD rfl (fun c31 => ?_) (fun c31 => ?_)
       ·
        replace c31 : u < 0 := c31
        refine hReg (sq 0 (sq 1 sz)) (by kernel_rfl) ?_
        refine mvI rfl rfl rfl ?_
        refine asI rfl rfl rfl ?_
        refine rNil ?_
        refine qSeq rfl ?_
        refine hReg (sq 0 (sq 1 (sq 2 sz))) (by kernel_rfl) ?_
        refine mvI rfl rfl rfl ?_
        refine sub rfl rfl rfl rfl (by omega) ?_
        refine asI rfl rfl rfl ?_
        refine rNil ?_
        exact qNext rfl ((j + 1, f, t, (12 - (j : Int)), v)) (by dsimp only; omega) ⟨by dsimp only; omega, Hd.scan_next hj13 hsc (by first | (exfalso; omega) | (unfold Hd.scanStep; dsimp only; repeat (first | rfl | rw [if_pos (by omega)] | rw [if_neg (by omega)])))⟩ ((by repeat first | exact trivial | refine ⟨by first | rfl | exact vI (by push_cast; omega), ?_⟩)) (fun _ h => h.pick [0, 0, 0])
       ·
        replace c31 : ¬ (u < 0) := c31
        refine hSeq ?_
        refine hReg (sq 0 (sq 1 (sq 2 (sq 3 (sq 4 (sq 5 (sq 6 sz))))))) (by kernel_rfl) ?_
        refine mvI rfl rfl rfl ?_
        refine geq rfl rfl rfl rfl ?_
        refine mvB rfl rfl rfl ?_
        refine rBoolD (d := 109) rfl (fun g32 => ?_) (fun g32 => ?_)
        ·
         replace g32 : 2 ≤ ((Hd.tally Hd.rk 13 z).getD (((12 - (j : Int))).toNat) 0) := g32
         refine mvI rfl rfl rfl ?_
         refine lss rfl rfl rfl rfl ?_
         refine pickB rfl rfl rfl rfl ?_
         refine asB rfl rfl rfl ?_
         refine rNil ?_
         refine qSeq rfl ?_
         refine hIfD rfl (fun c33 => ?_) (fun c33 => ?_)
         ·
          replace c33 : v < 0 := c33
          refine hReg (sq 0 (sq 1 sz)) (by kernel_rfl) ?_
          refine mvI rfl rfl rfl ?_
          refine asI rfl rfl rfl ?_
          refine rNil ?_
          refine qSeq rfl ?_
          refine hReg (sq 0 (sq 1 (sq 2 sz))) (by kernel_rfl) ?_
          refine mvI rfl rfl rfl ?_
          refine sub rfl rfl rfl rfl (by omega) ?_
          refine asI rfl rfl rfl ?_
          refine rNil ?_
          exact qNext rfl ((j + 1, f, t, u, (12 - (j : Int)))) (by dsimp only; omega) ⟨by dsimp only; omega, Hd.scan_next hj13 hsc (by first | (exfalso; omega) | (unfold Hd.scanStep; dsimp only; repeat (first | rfl | rw [if_pos (by omega)] | rw [if_neg (by omega)])))⟩ ((by repeat first | exact trivial | refine ⟨by first | rfl | exact vI (by push_cast; omega), ?_⟩)) (fun _ h => h.pick [0, 0, 0])
         ·
          replace c33 : ¬ (v < 0) := c33
          refine hSkip ?_
          refine qSeq rfl ?_
          refine hReg (sq 0 (sq 1 (sq 2 sz))) (by kernel_rfl) ?_
          refine mvI rfl rfl rfl ?_
          refine sub rfl rfl rfl rfl (by omega) ?_
          refine asI rfl rfl rfl ?_
          refine rNil ?_
          exact qNext rfl (j + 1, f, t, u, v) (by dsimp only; omega) ⟨by dsimp only; omega, Hd.scan_next hj13 hsc (by first | (exfalso; omega) | (unfold Hd.scanStep; dsimp only; repeat (first | rfl | rw [if_pos (by omega)] | rw [if_neg (by omega)])))⟩ ((by repeat first | exact trivial | refine ⟨by first | rfl | exact vI (by push_cast; omega), ?_⟩)) (fun _ h => h.pick [0, 0, 0])
        ·
         replace g32 : ¬ (2 ≤ ((Hd.tally Hd.rk 13 z).getD (((12 - (j : Int))).toNat) 0)) := g32
         refine rSkipQ rfl rfl ?_
         refine rSkipQ rfl rfl ?_
         refine pickB rfl rfl rfl rfl ?_
         refine asB rfl rfl rfl ?_
         refine rNil ?_
         refine qSeq rfl ?_
         refine hIfF rfl ?_
         refine hSkip ?_
         refine qSeq rfl ?_
         refine hReg (sq 0 (sq 1 (sq 2 sz))) (by kernel_rfl) ?_
         refine mvI rfl rfl rfl ?_
         refine sub rfl rfl rfl rfl (by omega) ?_
         refine asI rfl rfl rfl ?_
         refine rNil ?_
         exact qNext rfl (j + 1, f, t, u, v) (by dsimp only; omega) ⟨by dsimp only; omega, Hd.scan_next hj13 hsc (by first | (exfalso; omega) | (unfold Hd.scanStep; dsimp only; repeat (first | rfl | rw [if_pos (by omega)] | rw [if_neg (by omega)])))⟩ ((by repeat first | exact trivial | refine ⟨by first | rfl | exact vI (by push_cast; omega), ?_⟩)) (fun _ h => h.pick [0, 0, 0])
      ·
       replace g30 : ¬ (2 ≤ ((Hd.tally Hd.rk 13 z).getD (((12 - (j : Int))).toNat) 0)) := g30
       refine rSkipQ rfl rfl ?_
       refine rSkipQ rfl rfl ?_
       refine pickB rfl rfl rfl rfl ?_
       refine asB rfl rfl rfl ?_
       refine rNil ?_
       refine qSeq rfl ?_
       refine hIfF rfl ?_
       refine hSeq ?_
       refine hReg (sq 0 (sq 1 (sq 2 (sq 3 (sq 4 (sq 5 (sq 6 sz))))))) (by kernel_rfl) ?_
       refine mvI rfl rfl rfl ?_
       refine geq rfl rfl rfl rfl ?_
       refine mvB rfl rfl rfl ?_
       refine rBoolD (d := 109) rfl (fun g34 => ?_) (fun g34 => ?_)
       ·
        replace g34 : 2 ≤ ((Hd.tally Hd.rk 13 z).getD (((12 - (j : Int))).toNat) 0) := g34
        refine mvI rfl rfl rfl ?_
        refine lss rfl rfl rfl rfl ?_
        refine pickB rfl rfl rfl rfl ?_
        refine asB rfl rfl rfl ?_
        refine rNil ?_
        refine qSeq rfl ?_
        refine hIfD rfl (fun c35 => ?_) (fun c35 => ?_)
        ·
         replace c35 : v < 0 := c35
         refine hReg (sq 0 (sq 1 sz)) (by kernel_rfl) ?_
         refine mvI rfl rfl rfl ?_
         refine asI rfl rfl rfl ?_
         refine rNil ?_
         refine qSeq rfl ?_
         refine hReg (sq 0 (sq 1 (sq 2 sz))) (by kernel_rfl) ?_
         refine mvI rfl rfl rfl ?_
         refine sub rfl rfl rfl rfl (by omega) ?_
         refine asI rfl rfl rfl ?_
         refine rNil ?_
         exact qNext rfl ((j + 1, f, t, u, (12 - (j : Int)))) (by dsimp only; omega) ⟨by dsimp only; omega, Hd.scan_next hj13 hsc (by first | (exfalso; omega) | (unfold Hd.scanStep; dsimp only; repeat (first | rfl | rw [if_pos (by omega)] | rw [if_neg (by omega)])))⟩ ((by repeat first | exact trivial | refine ⟨by first | rfl | exact vI (by push_cast; omega), ?_⟩)) (fun _ h => h.pick [0, 0, 0])
        ·
         replace c35 : ¬ (v < 0) := c35
         refine hSkip ?_
         refine qSeq rfl ?_
         refine hReg (sq 0 (sq 1 (sq 2 sz))) (by kernel_rfl) ?_
         refine mvI rfl rfl rfl ?_
         refine sub rfl rfl rfl rfl (by omega) ?_
         refine asI rfl rfl rfl ?_
         refine rNil ?_
         exact qNext rfl (j + 1, f, t, u, v) (by dsimp only; omega) ⟨by dsimp only; omega, Hd.scan_next hj13 hsc (by first | (exfalso; omega) | (unfold Hd.scanStep; dsimp only; repeat (first | rfl | rw [if_pos (by omega)] | rw [if_neg (by omega)])))⟩ ((by repeat first | exact trivial | refine ⟨by first | rfl | exact vI (by push_cast; omega), ?_⟩)) (fun _ h => h.pick [0, 0, 0])
       ·
        replace g34 : ¬ (2 ≤ ((Hd.tally Hd.rk 13 z).getD (((12 - (j : Int))).toNat) 0)) := g34
        refine rSkipQ rfl rfl ?_
        refine rSkipQ rfl rfl ?_
        refine pickB rfl rfl rfl rfl ?_
        refine asB rfl rfl rfl ?_
        refine rNil ?_
        refine qSeq rfl ?_
        refine hIfF rfl ?_
        refine hSkip ?_
        refine qSeq rfl ?_
        refine hReg (sq 0 (sq 1 (sq 2 sz))) (by kernel_rfl) ?_
        refine mvI rfl rfl rfl ?_
        refine sub rfl rfl rfl rfl (by omega) ?_
        refine asI rfl rfl rfl ?_
        refine rNil ?_
        exact qNext rfl (j + 1, f, t, u, v) (by dsimp only; omega) ⟨by dsimp only; omega, Hd.scan_next hj13 hsc (by first | (exfalso; omega) | (unfold Hd.scanStep; dsimp only; repeat (first | rfl | rw [if_pos (by omega)] | rw [if_neg (by omega)])))⟩ ((by repeat first | exact trivial | refine ⟨by first | rfl | exact vI (by push_cast; omega), ?_⟩)) (fun _ h => h.pick [0, 0, 0])
   ·
    replace c5 : ¬ (0 ≤ (12 - (j : Int))) := c5
    have hSc := Hd.scan_ok z 13 f t u v (Nat.le_refl _) (by rw [hsc, show j = 13 by omega])
    have hbd := Hd.scan_bd _ j f t u v hj hsc
    have hmk := Hd.mask_lt ha.1
    have hR := Hd.valN_end hno (by omega) (show j = 13 by omega) hsc
    have hsi := Hd.strIn_bd (c := 4) (m := Hd.mask z) (al := al) (by decide)
    have hpf := Hd.pow12 (x := f) (by omega)
    have hpt := Hd.pow12 (x := t) (by omega)
    have hpu := Hd.pow12 (x := u) (by omega)
    have hpv := Hd.pow12 (x := v) (by omega)
    have hvu := Hd.pre2u ha (by omega) hSc
    have hor := Hd.or12 (x := u) (y := v) (by omega) (by omega)
    refine hExit rfl ?_
    refine qSeq rfl ?_
    refine hSeq ?_
    refine hBlk ?_
    refine hSeq ?_
    refine hReg (sq 0 (sq 1 (sq 2 sz))) (by kernel_rfl) ?_
    refine mvI rfl rfl rfl ?_
    refine geq rfl rfl rfl rfl ?_
    refine asB rfl rfl rfl ?_
    refine rNil ?_
    refine qSeq rfl ?_
    refine hIfD rfl (fun c36 => ?_) (fun c36 => ?_)
    ·
     replace c36 : 0 ≤ f := c36
     refine hSeq ?_
     refine hReg (sq 0 (sq 1 (sq 2 (sq 3 (sq 4 (sq 5 (sq 6 (sq 7 (sl 8 (sl 9 (sq 10 sz))))))))))) (by kernel_rfl) ?_
     refine mvI rfl rfl rfl ?_
     refine mvI rfl rfl rfl ?_
     refine shlU rfl rfl rfl rfl (by omega) ?_
     refine andNotN (x := (Hd.mask z)) (y := (2 ^ f.toNat)) rfl rfl rfl rfl (by omega) ?_
     refine mvI rfl rfl rfl ?_
     refine mvI rfl rfl rfl ?_
     refine mvI rfl rfl rfl ?_
     refine mvI rfl rfl rfl ?_
     refine bsl trv1 rfl rfl rfl (bsl23_4 (.int .i64 _) (.int .i64 _) (.int .i64 _) (.int .i64 _) rfl rfl rfl rfl) (fun bkl4 hbkl4 => ?_)
     refine callP (v := .int .i64 ((Hd.topR (7 : Int) ((Hd.mask z) ^^^ ((Hd.mask z) &&& (2 ^ f.toNat))) [f, f, f, f]))) Try.call155 trv rfl rfl (fun w hs => impl_topRanks_c _ _ _ _ _ _ w (RdI.lit (zs := [f, f, f, f]) (n := 4) (hs.at_ 0 rfl) rfl rfl rfl) (by omega) (by first | assumption | omega | exact Hd.xor_lt hmk) (by first | assumption | exact Hd.digs_nil | (unfold Hd.digs13; simp only [List.mem_cons, List.not_mem_nil, or_false, forall_eq_or_imp, forall_eq]; omega)) (by first | omega | (simp only [List.length_cons, List.length_nil]; omega)) (by first | assumption | (exfalso; omega) | exact (Hd.pre4 ha (by omega) hSc (by omega)).2 | exact (Hd.pre3 ha (by omega) hSc (by omega) (by omega) (by omega)).2 | exact (Hd.pre2 ha (by omega) hSc (by omega) (by omega) (by omega)).2 | exact (Hd.pre1 ha (by omega) hSc (by omega) (by omega) (by omega) (by omega)).2 | exact Hd.pre0 ha (by omega) hSc (by omega) (by omega) (by omega))) ?_
     refine asI rfl rfl rfl ?_
     refine rNil ?_
     refine qSeq rfl ?_
     refine hRet ?_
     exact fun w hs => ⟨[.int .i64 ((Hd.topR (7 : Int) ((Hd.mask z) ^^^ ((Hd.mask z) &&& (2 ^ f.toNat))) [f, f, f, f]))], ⟨rfl, trivial⟩, ⟨by first | exact vI hval | (exfalso; omega) | exact vI (by rw [hR]; unfold Hd.rest; dsimp only; repeat (first | rfl | rw [if_pos (by omega)] | rw [if_neg (by omega)])), hs.upd⟩⟩
    ·
     replace c36 : ¬ (0 ≤ f) := c36
     refine hSeq ?_
     refine hReg (sq 0 (sq 1 (sq 2 (sq 3 (sq 4 (sq 5 (sq 6 sz))))))) (by kernel_rfl) ?_
     refine mvI rfl rfl rfl ?_
     refine geq rfl rfl rfl rfl ?_
     refine mvB rfl rfl rfl ?_
     refine rBoolD (d := 130) rfl (fun g37 => ?_) (fun g37 => ?_)
     ·
      replace g37 : 0 ≤ t := g37
      refine mvI rfl rfl rfl ?_
      refine geq rfl rfl rfl rfl ?_
      refine pickB rfl rfl rfl rfl ?_
      refine asB rfl rfl rfl ?_
      refine rNil ?_
      refine qSeq rfl ?_
      refine hIfD rfl (fun c38 => ?_) (fun c38 => ?_)
      ·
       replace c38 : 0 ≤ u := c38
       refine hSeq ?_
       refine hReg (sq 0 (sq 1 (sq 2 (sq 3 (sq 4 (sl 5 (sl 6 (sq 7 sz)))))))) (by kernel_rfl) ?_
       refine mvI rfl rfl rfl ?_
       refine mvI rfl rfl rfl ?_
       refine mvI rfl rfl rfl ?_
       refine mvI rfl rfl rfl ?_
       refine mvI rfl rfl rfl ?_
       refine bsl trv1 rfl rfl rfl (bsl23_5 (.int .i64 _) (.int .i64 _) (.int .i64 _) (.int .i64 _) (.int .i64 _) rfl rfl rfl rfl rfl) (fun bkl5 hbkl5 => ?_)
       refine callP (v := .int .i64 ((Hd.V (6 : Int) [t, t, t, u, u]))) Try.call156 trv rfl rfl (fun w hs => impl_kickerValue_c _ _ _ _ _ w (RdI.lit (zs := [t, t, t, u, u]) (n := 5) (hs.at_ 0 rfl) rfl rfl rfl) (by omega) (by first | assumption | exact Hd.digs_nil | (unfold Hd.digs13; simp only [List.mem_cons, List.not_mem_nil, or_false, forall_eq_or_imp, forall_eq]; omega)) (by first | omega | (simp only [List.length_cons, List.length_nil]; omega))) ?_
       refine asI rfl rfl rfl ?_
       refine rNil ?_
       refine qSeq rfl ?_
       refine hRet ?_
       exact fun w hs => ⟨[.int .i64 ((Hd.V (6 : Int) [t, t, t, u, u]))], ⟨rfl, trivial⟩, ⟨by first | exact vI hval | (exfalso; omega) | exact vI (by rw [hR]; unfold Hd.rest; dsimp only; repeat (first | rfl | rw [if_pos (by omega)] | rw [if_neg (by omega)])), hs.upd⟩⟩
      ·
       replace c38 : ¬ (0 ≤ u) := c38
       refine hSeq ?_
       refine hReg (sq 0 (sq 1 (sq 2 sz))) (by kernel_rfl) ?_
       refine mvI rfl rfl rfl ?_
       refine geq rfl rfl rfl rfl ?_
       refine asB rfl rfl rfl ?_
       refine rNil ?_
       refine qSeq rfl ?_
       refine hIfD rfl (fun c39 => ?_) (fun c39 => ?_)
       ·
        replace c39 : 0 ≤ (Hd.flTo (Hd.smask z) (Hd.tally Hd.su 4 z) s) := c39
        refine hSeq ?_
        refine hReg (sq 0 (sq 1 sz)) (by kernel_rfl) ?_
        refine mvI rfl rfl rfl ?_
        refine asI rfl rfl rfl ?_
        refine rNil ?_
        refine qSeq rfl ?_
        refine hRet ?_
        exact fun w hs => ⟨[.int .i64 ((Hd.flTo (Hd.smask z) (Hd.tally Hd.su 4 z) s))], ⟨rfl, trivial⟩, ⟨by first | exact vI hval | (exfalso; omega) | exact vI (by rw [hR]; unfold Hd.rest; dsimp only; repeat (first | rfl | rw [if_pos (by omega)] | rw [if_neg (by omega)])), hs.upd⟩⟩
       ·
        replace c39 : ¬ (0 ≤ (Hd.flTo (Hd.smask z) (Hd.tally Hd.su 4 z) s)) := c39
        refine hSkip ?_
        refine qSeq rfl ?_
        refine hSeq ?_
        refine hSeq ?_
        refine hReg (sq 0 (sq 1 (sl 2 (sq 3 sz)))) (by kernel_rfl) ?_
        refine mvI rfl rfl rfl ?_
        refine mvB rfl rfl rfl ?_
        refine callP (v := .int .i64 ((Hd.strIn (4 : Int) (Hd.mask z) al))) Try.call154 trv rfl rfl (fun w hs => impl_straightIn_c _ _ _ w (by omega) (by first | assumption | omega | exact Hd.xor_lt hmk)) ?_
        refine asI rfl rfl rfl ?_
        refine rNil ?_
        refine qSeq rfl ?_
        refine hSeq ?_
        refine hReg (sq 0 (sq 1 sz)) (by kernel_rfl) ?_
        refine mvI rfl rfl rfl ?_
        refine geq rfl rfl rfl rfl ?_
        refine rNil ?_
        refine qSeq rfl ?_
        refine hIfD rfl (fun c40 => ?_) (fun c40 => ?_)
        ·
         replace c40 : 0 ≤ (Hd.strIn (4 : Int) (Hd.mask z) al) := c40
         refine hSeq ?_
         refine hReg (sq 0 (sq 1 sz)) (by kernel_rfl) ?_
         refine mvI rfl rfl rfl ?_
         refine asI rfl rfl rfl ?_
         refine rNil ?_
         refine qSeq rfl ?_
         refine hRet ?_
         exact fun w hs => ⟨[.int .i64 ((Hd.strIn (4 : Int) (Hd.mask z) al))], ⟨rfl, trivial⟩, ⟨by first | exact vI hval | (exfalso; omega) | exact vI (by rw [hR]; unfold Hd.rest; dsimp only; repeat (first | rfl | rw [if_pos (by omega)] | rw [if_neg (by omega)])), hs.upd⟩⟩
        ·
         replace c40 : ¬ (0 ≤ (Hd.strIn (4 : Int) (Hd.mask z) al)) := c40
         refine hSkip ?_
         refine qSeq rfl ?_
         refine hSeq ?_
         refine hBlk ?_
         refine hSeq ?_
         refine hReg (sq 0 (sq 1 (sq 2 sz))) (by kernel_rfl) ?_
         refine mvI rfl rfl rfl ?_
         refine geq rfl rfl rfl rfl ?_
         refine asB rfl rfl rfl ?_
         refine rNil ?_
         refine qSeq rfl ?_
         refine hIfD rfl (fun c41 => ?_) (fun c41 => ?_)
         ·
          replace c41 : 0 ≤ t := c41
          refine hSeq ?_
          refine hReg (sq 0 (sq 1 (sq 2 (sq 3 (sq 4 (sq 5 (sq 6 (sl 7 (sl 8 (sq 9 sz)))))))))) (by kernel_rfl) ?_
          refine mvI rfl rfl rfl ?_
          refine mvI rfl rfl rfl ?_
          refine shlU rfl rfl rfl rfl (by omega) ?_
          refine andNotN (x := (Hd.mask z)) (y := (2 ^ t.toNat)) rfl rfl rfl rfl (by omega) ?_
          refine mvI rfl rfl rfl ?_
          refine mvI rfl rfl rfl ?_
          refine mvI rfl rfl rfl ?_
          refine bsl trv1 rfl rfl rfl (bsl23_3 (.int .i64 _) (.int .i64 _) (.int .i64 _) rfl rfl rfl) (fun bkl6 hbkl6 => ?_)
          refine callP (v := .int .i64 ((Hd.topR (3 : Int) ((Hd.mask z) ^^^ ((Hd.mask z) &&& (2 ^ t.toNat))) [t, t, t]))) Try.call155 trv rfl rfl (fun w hs => impl_topRanks_c _ _ _ _ _ _ w (RdI.lit (zs := [t, t, t]) (n := 3) (hs.at_ 0 rfl) rfl rfl rfl) (by omega) (by first | assumption | omega | exact Hd.xor_lt hmk) (by first | assumption | exact Hd.digs_nil | (unfold Hd.digs13; simp only [List.mem_cons, List.not_mem_nil, or_false, forall_eq_or_imp, forall_eq]; omega)) (by first | omega | (simp only [List.length_cons, List.length_nil]; omega)) (by first | assumption | (exfalso; omega) | exact (Hd.pre4 ha (by omega) hSc (by omega)).2 | exact (Hd.pre3 ha (by omega) hSc (by omega) (by omega) (by omega)).2 | exact (Hd.pre2 ha (by omega) hSc (by omega) (by omega) (by omega)).2 | exact (Hd.pre1 ha (by omega) hSc (by omega) (by omega) (by omega) (by omega)).2 | exact Hd.pre0 ha (by omega) hSc (by omega) (by omega) (by omega))) ?_
          refine asI rfl rfl rfl ?_
          refine rNil ?_
          refine qSeq rfl ?_
          refine hRet ?_
          exact fun w hs => ⟨[.int .i64 ((Hd.topR (3 : Int) ((Hd.mask z) ^^^ ((Hd.mask z) &&& (2 ^ t.toNat))) [t, t, t]))], ⟨rfl, trivial⟩, ⟨by first | exact vI hval | (exfalso; omega) | exact vI (by rw [hR]; unfold Hd.rest; dsimp only; repeat (first | rfl | rw [if_pos (by omega)] | rw [if_neg (by omega)])), hs.upd⟩⟩
         ·
          replace c41 : ¬ (0 ≤ t) := c41
          refine hSeq ?_
          refine hReg (sq 0 (sq 1 (sq 2 sz))) (by kernel_rfl) ?_
          refine mvI rfl rfl rfl ?_
          refine geq rfl rfl rfl rfl ?_
          refine asB rfl rfl rfl ?_
          refine rNil ?_
          refine qSeq rfl ?_
          refine hIfD rfl (fun c42 => ?_) (fun c42 => ?_)
          ·
           replace c42 : 0 ≤ v := c42
           refine hSeq ?_
           refine hDraw (Ls := []) (by kernel_rfl) (sq 0 (sq 1 (sq 2 (sq 3 (sq 4 (sq 5 (sq 6 (sq 7 (sq 8 (sq 9 (sq 10 (sl 11 (sl 12 (sq 13 sz)))))))))))))) (by kernel_rfl) (.cons _ (.cons _ (.cons _ .slnil))) ?_
           refine mvI rfl rfl rfl ?_
           refine mvI rfl rfl rfl ?_
           refine shlU rfl rfl rfl rfl (by omega) ?_
           refine mvI rfl rfl rfl ?_
           refine shlU rfl rfl rfl rfl (by omega) ?_
           refine orU (x := (2 ^ u.toNat)) (y := (2 ^ v.toNat)) rfl rfl rfl rfl (by omega) ?_
           refine andNotN (x := (Hd.mask z)) (y := ((2 ^ u.toNat) ||| (2 ^ v.toNat))) rfl rfl rfl rfl (by omega) ?_
           refine mvI rfl rfl rfl ?_
           refine mvI rfl rfl rfl ?_
           refine mvI rfl rfl rfl ?_
           refine mvI rfl rfl rfl ?_
           refine bsl (fun _ _ h => h.pick []) rfl rfl rfl (bsl23_4 (.int .i64 _) (.int .i64 _) (.int .i64 _) (.int .i64 _) rfl rfl rfl rfl) (fun bkl7 hbkl7 => ?_)
           refine callP (v := .int .i64 ((Hd.topR (2 : Int) ((Hd.mask z) ^^^ ((Hd.mask z) &&& ((2 ^ u.toNat) ||| (2 ^ v.toNat)))) [u, u, v, v]))) Try.call155 (fun _ h => h.pick []) rfl rfl (fun w hs => impl_topRanks_c _ _ _ _ _ _ w (RdI.lit (zs := [u, u, v, v]) (n := 4) (hs.at_ 0 rfl) rfl rfl rfl) (by omega) (by first | assumption | omega | exact Hd.xor_lt hmk) (by first | assumption | exact Hd.digs_nil | (unfold Hd.digs13; simp only [List.mem_cons, List.not_mem_nil, or_false, forall_eq_or_imp, forall_eq]; omega)) (by first | omega | (simp only [List.length_cons, List.length_nil]; omega)) (by first | assumption | (exfalso; omega) | exact (Hd.pre4 ha (by omega) hSc (by omega)).2 | exact (Hd.pre3 ha (by omega) hSc (by omega) (by omega) (by omega)).2 | exact (Hd.pre2 ha (by omega) hSc (by omega) (by omega) (by omega)).2 | exact (Hd.pre1 ha (by omega) hSc (by omega) (by omega) (by omega) (by omega)).2 | exact Hd.pre0 ha (by omega) hSc (by omega) (by omega) (by omega))) ?_
           refine asI rfl rfl rfl ?_
           refine rNil ?_
           refine qSeq rfl ?_
           refine hRet ?_
           exact fun w hs => ⟨[.int .i64 ((Hd.topR (2 : Int) ((Hd.mask z) ^^^ ((Hd.mask z) &&& ((2 ^ u.toNat) ||| (2 ^ v.toNat)))) [u, u, v, v]))], ⟨rfl, trivial⟩, ⟨by first | exact vI hval | (exfalso; omega) | exact vI (by rw [hR]; unfold Hd.rest; dsimp only; repeat (first | rfl | rw [if_pos (by omega)] | rw [if_neg (by omega)])), hs.upd⟩⟩
          ·
           replace c42 : ¬ (0 ≤ v) := c42
           refine hSeq ?_
           refine hReg (sq 0 (sq 1 (sq 2 sz))) (by kernel_rfl) ?_
           refine mvI rfl rfl rfl ?_
           refine geq rfl rfl rfl rfl ?_
           refine asB rfl rfl rfl ?_
           refine rNil ?_
           refine qSeq rfl ?_
           refine hIfD rfl (fun c43 => ?_) (fun c43 => ?_)
           ·
            replace c43 : 0 ≤ u := c43
            refine hSeq ?_
            refine hReg (sq 0 (sq 1 (sq 2 (sq 3 (sq 4 (sq 5 (sl 6 (sl 7 (sq 8 sz))))))))) (by kernel_rfl) ?_
            refine mvI rfl rfl rfl ?_
            refine mvI rfl rfl rfl ?_
            refine shlU rfl rfl rfl rfl (by omega) ?_
            refine andNotN (x := (Hd.mask z)) (y := (2 ^ u.toNat)) rfl rfl rfl rfl (by omega) ?_
            refine mvI rfl rfl rfl ?_
            refine mvI rfl rfl rfl ?_
            refine bsl trv1 rfl rfl rfl (bsl23_2 (.int .i64 _) (.int .i64 _) rfl rfl) (fun bkl8 hbkl8 => ?_)
            refine callP (v := .int .i64 ((Hd.topR (1 : Int) ((Hd.mask z) ^^^ ((Hd.mask z) &&& (2 ^ u.toNat))) [u, u]))) Try.call155 trv rfl rfl (fun w hs => impl_topRanks_c _ _ _ _ _ _ w (RdI.lit (zs := [u, u]) (n := 2) (hs.at_ 0 rfl) rfl rfl rfl) (by omega) (by first | assumption | omega | exact Hd.xor_lt hmk) (by first | assumption | exact Hd.digs_nil | (unfold Hd.digs13; simp only [List.mem_cons, List.not_mem_nil, or_false, forall_eq_or_imp, forall_eq]; omega)) (by first | omega | (simp only [List.length_cons, List.length_nil]; omega)) (by first | assumption | (exfalso; omega) | exact (Hd.pre4 ha (by omega) hSc (by omega)).2 | exact (Hd.pre3 ha (by omega) hSc (by omega) (by omega) (by omega)).2 | exact (Hd.pre2 ha (by omega) hSc (by omega) (by omega) (by omega)).2 | exact (Hd.pre1 ha (by omega) hSc (by omega) (by omega) (by omega) (by omega)).2 | exact Hd.pre0 ha (by omega) hSc (by omega) (by omega) (by omega))) ?_
            refine asI rfl rfl rfl ?_
            refine rNil ?_
            refine qSeq rfl ?_
            refine hRet ?_
            exact fun w hs => ⟨[.int .i64 ((Hd.topR (1 : Int) ((Hd.mask z) ^^^ ((Hd.mask z) &&& (2 ^ u.toNat))) [u, u]))], ⟨rfl, trivial⟩, ⟨by first | exact vI hval | (exfalso; omega) | exact vI (by rw [hR]; unfold Hd.rest; dsimp only; repeat (first | rfl | rw [if_pos (by omega)] | rw [if_neg (by omega)])), hs.upd⟩⟩
           ·
            replace c43 : ¬ (0 ≤ u) := c43
            refine hSkip ?_
            refine qSeq rfl ?_
            refine hSeq ?_
            refine hReg (sq 0 (sl 1 (sq 2 sz))) (by kernel_rfl) ?_
            refine mvI rfl rfl rfl ?_
            refine callP (v := .int .i64 ((Hd.topR (0 : Int) (Hd.mask z) []))) Try.call155 trv rfl rfl (fun w hs => impl_topRanks_c _ _ _ _ _ _ w (RdI.nil _ _) (by omega) (by first | assumption | omega | exact Hd.xor_lt hmk) (by first | assumption | exact Hd.digs_nil | (unfold Hd.digs13; simp only [List.mem_cons, List.not_mem_nil, or_false, forall_eq_or_imp, forall_eq]; omega)) (by first | omega | (simp only [List.length_cons, List.length_nil]; omega)) (by first | assumption | (exfalso; omega) | exact (Hd.pre4 ha (by omega) hSc (by omega)).2 | exact (Hd.pre3 ha (by omega) hSc (by omega) (by omega) (by omega)).2 | exact (Hd.pre2 ha (by omega) hSc (by omega) (by omega) (by omega)).2 | exact (Hd.pre1 ha (by omega) hSc (by omega) (by omega) (by omega) (by omega)).2 | exact Hd.pre0 ha (by omega) hSc (by omega) (by omega) (by omega))) ?_
            refine asI rfl rfl rfl ?_
            refine rNil ?_
            refine qSeq rfl ?_
            refine hRet ?_
            exact fun w hs => ⟨[.int .i64 ((Hd.topR (0 : Int) (Hd.mask z) []))], ⟨rfl, trivial⟩, ⟨by first | exact vI hval | (exfalso; omega) | exact vI (by rw [hR]; unfold Hd.rest; dsimp only; repeat (first | rfl | rw [if_pos (by omega)] | rw [if_neg (by omega)])), hs.upd⟩⟩
     ·
      replace g37 : ¬ (0 ≤ t) := g37
      refine rSkipQ rfl rfl ?_
      refine rSkipQ rfl rfl ?_
      refine pickB rfl rfl rfl rfl ?_
      refine asB rfl rfl rfl ?_
      refine rNil ?_
      refine qSeq rfl ?_
      refine hIfF rfl ?_
      refine hSeq ?_
      refine hReg (sq 0 (sq 1 (sq 2 sz))) (by kernel_rfl) ?_
      refine mvI rfl rfl rfl ?_
      refine geq rfl rfl rfl rfl ?_
      refine asB rfl rfl rfl ?_
      refine rNil ?_
      refine qSeq rfl ?_
      refine hIfD rfl (fun c44 => ?_) (fun c44 => ?_)
      ·
       replace c44 : 0 ≤ (Hd.flTo (Hd.smask z) (Hd.tally Hd.su 4 z) s) := c44
       refine hSeq ?_
       refine hReg (sq 0 (sq 1 sz)) (by kernel_rfl) ?_
       refine mvI rfl rfl rfl ?_
       refine asI rfl rfl rfl ?_
       refine rNil ?_
       refine qSeq rfl ?_
       refine hRet ?_
       exact fun w hs => ⟨[.int .i64 ((Hd.flTo (Hd.smask z) (Hd.tally Hd.su 4 z) s))], ⟨rfl, trivial⟩, ⟨by first | exact vI hval | (exfalso; omega) | exact vI (by rw [hR]; unfold Hd.rest; dsimp only; repeat (first | rfl | rw [if_pos (by omega)] | rw [if_neg (by omega)])), hs.upd⟩⟩
      ·
       replace c44 : ¬ (0 ≤ (Hd.flTo (Hd.smask z) (Hd.tally Hd.su 4 z) s)) := c44
       refine hSkip ?_
       refine qSeq rfl ?_
       refine hSeq ?_
       refine hSeq ?_
       refine hReg (sq 0 (sq 1 (sl 2 (sq 3 sz)))) (by kernel_rfl) ?_
       refine mvI rfl rfl rfl ?_
       refine mvB rfl rfl rfl ?_
       refine callP (v := .int .i64 ((Hd.strIn (4 : Int) (Hd.mask z) al))) Try.call154 trv rfl rfl (fun w hs => impl_straightIn_c _ _ _ w (by omega) (by first | assumption | omega | exact Hd.xor_lt hmk)) ?_
       refine asI rfl rfl rfl ?_
       refine rNil ?_
       refine qSeq rfl ?_
       refine hSeq ?_
       refine hReg (sq 0 (sq 1 sz)) (by kernel_rfl) ?_
       refine mvI rfl rfl rfl ?_
       refine geq rfl rfl rfl rfl ?_
       refine rNil ?_
       refine qSeq rfl ?_
       refine hIfD rfl (fun c45 => ?_) (fun c45 => ?_)
       ·
        replace c45 : 0 ≤ (Hd.strIn (4 : Int) (Hd.mask z) al) := c45
        refine hSeq ?_
        refine hReg (sq 0 (sq 1 sz)) (by kernel_rfl) ?_
        refine mvI rfl rfl rfl ?_
        refine asI rfl rfl rfl ?_
        refine rNil ?_
        refine qSeq rfl ?_
        refine hRet ?_
        exact fun w hs => ⟨[.int .i64 ((Hd.strIn (4 : Int) (Hd.mask z) al))], ⟨rfl, trivial⟩, ⟨by first | exact vI hval | (exfalso; omega) | exact vI (by rw [hR]; unfold Hd.rest; dsimp only; repeat (first | rfl | rw [if_pos (by omega)] | rw [if_neg (by omega)])), hs.upd⟩⟩
       ·
        replace c45 : ¬ (0 ≤ (Hd.strIn (4 : Int) (Hd.mask z) al)) := c45
        refine hSkip ?_
        refine qSeq rfl ?_
        refine hSeq ?_
        refine hBlk ?_
        refine hSeq ?_
        refine hReg (sq 0 (sq 1 (sq 2 sz))) (by kernel_rfl) ?_
        refine mvI rfl rfl rfl ?_
        refine geq rfl rfl rfl rfl ?_
        refine asB rfl rfl rfl ?_
        refine rNil ?_
        refine qSeq rfl ?_
        refine hIfD rfl (fun c46 => ?_) (fun c46 => ?_)
        ·
         replace c46 : 0 ≤ t := c46
         refine hSeq ?_
         refine hReg (sq 0 (sq 1 (sq 2 (sq 3 (sq 4 (sq 5 (sq 6 (sl 7 (sl 8 (sq 9 sz)))))))))) (by kernel_rfl) ?_
         refine mvI rfl rfl rfl ?_
         refine mvI rfl rfl rfl ?_
         refine shlU rfl rfl rfl rfl (by omega) ?_
         refine andNotN (x := (Hd.mask z)) (y := (2 ^ t.toNat)) rfl rfl rfl rfl (by omega) ?_
         refine mvI rfl rfl rfl ?_
         refine mvI rfl rfl rfl ?_
         refine mvI rfl rfl rfl ?_
         refine bsl trv1 rfl rfl rfl (bsl23_3 (.int .i64 _) (.int .i64 _) (.int .i64 _) rfl rfl rfl) (fun bkl9 hbkl9 => ?_)
         refine callP (v := .int .i64 ((Hd.topR (3 : Int) ((Hd.mask z) ^^^ ((Hd.mask z) &&& (2 ^ t.toNat))) [t, t, t]))) Try.call155 trv rfl rfl (fun w hs => impl_topRanks_c _ _ _ _ _ _ w (RdI.lit (zs := [t, t, t]) (n := 3) (hs.at_ 0 rfl) rfl rfl rfl) (by omega) (by first | assumption | omega | exact Hd.xor_lt hmk) (by first | assumption | exact Hd.digs_nil | (unfold Hd.digs13; simp only [List.mem_cons, List.not_mem_nil, or_false, forall_eq_or_imp, forall_eq]; omega)) (by first | omega | (simp only [List.length_cons, List.length_nil]; omega)) (by first | assumption | (exfalso; omega) | exact (Hd.pre4 ha (by omega) hSc (by omega)).2 | exact (Hd.pre3 ha (by omega) hSc (by omega) (by omega) (by omega)).2 | exact (Hd.pre2 ha (by omega) hSc (by omega) (by omega) (by omega)).2 | exact (Hd.pre1 ha (by omega) hSc (by omega) (by omega) (by omega) (by omega)).2 | exact Hd.pre0 ha (by omega) hSc (by omega) (by omega) (by omega))) ?_
         refine asI rfl rfl rfl ?_
         refine rNil ?_
         refine qSeq rfl ?_
         refine hRet ?_
         exact fun w hs => ⟨[.int .i64 ((Hd.topR (3 : Int) ((Hd.mask z) ^^^ ((Hd.mask z) &&& (2 ^ t.toNat))) [t, t, t]))], ⟨rfl, trivial⟩, ⟨by first | exact vI hval | (exfalso; omega) | exact vI (by rw [hR]; unfold Hd.rest; dsimp only; repeat (first | rfl | rw [if_pos (by omega)] | rw [if_neg (by omega)])), hs.upd⟩⟩
        ·
         replace c46 : ¬ (0 ≤ t) := c46
         refine hSeq ?_
         refine hReg (sq 0 (sq 1 (sq 2 sz))) (by kernel_rfl) ?_
         refine mvI rfl rfl rfl ?_
         refine geq rfl rfl rfl rfl ?_
         refine asB rfl rfl rfl ?_
         refine rNil ?_
         refine qSeq rfl ?_
         refine hIfD rfl (fun c47 => ?_) (fun c47 => ?_)
         ·
          replace c47 : 0 ≤ v := c47
          refine hSeq ?_
          refine hDraw (Ls := []) (by kernel_rfl) (sq 0 (sq 1 (sq 2 (sq 3 (sq 4 (sq 5 (sq 6 (sq 7 (sq 8 (sq 9 (sq 10 (sl 11 (sl 12 (sq 13 sz)))))))))))))) (by kernel_rfl) (.cons _ (.cons _ (.cons _ .slnil))) ?_
          refine mvI rfl rfl rfl ?_
          refine mvI rfl rfl rfl ?_
          refine shlU rfl rfl rfl rfl (by omega) ?_
          refine mvI rfl rfl rfl ?_
          refine shlU rfl rfl rfl rfl (by omega) ?_
          refine orU (x := (2 ^ u.toNat)) (y := (2 ^ v.toNat)) rfl rfl rfl rfl (by omega) ?_
          refine andNotN (x := (Hd.mask z)) (y := ((2 ^ u.toNat) ||| (2 ^ v.toNat))) rfl rfl rfl rfl (by omega) ?_
          refine mvI rfl rfl rfl ?_
          refine mvI rfl rfl rfl ?_
          refine mvI rfl rfl rfl ?_
          refine mvI rfl rfl rfl ?_
          refine bsl (fun _ _ h => h.pick []) rfl rfl rfl (bsl23_4 (.int .i64 _) (.int .i64 _) (.int .i64 _) (.int .i64 _) rfl rfl rfl rfl) (fun bkl10 hbkl10 => ?_)
          refine callP (v := .int .i64 ((Hd.topR (2 : Int) ((Hd.mask z) ^^^ ((Hd.mask z) &&& ((2 ^ u.toNat) ||| (2 ^ v.toNat)))) [u, u, v, v]))) Try.call155 (fun _ h => h.pick []) rfl rfl (fun w hs => impl_topRanks_c _ _ _ _ _ _ w (RdI.lit (zs := [u, u, v, v]) (n := 4) (hs.at_ 0 rfl) rfl rfl rfl) (by omega) (by first | assumption | omega | exact Hd.xor_lt hmk) (by first | assumption | exact Hd.digs_nil | (unfold Hd.digs13; simp only [List.mem_cons, List.not_mem_nil, or_false, forall_eq_or_imp, forall_eq]; omega)) (by first | omega | (simp only [List.length_cons, List.length_nil]; omega)) (by first | assumption | (exfalso; omega) | exact (Hd.pre4 ha (by omega) hSc (by omega)).2 | exact (Hd.pre3 ha (by omega) hSc (by omega) (by omega) (by omega)).2 | exact (Hd.pre2 ha (by omega) hSc (by omega) (by omega) (by omega)).2 | exact (Hd.pre1 ha (by omega) hSc (by omega) (by omega) (by omega) (by omega)).2 | exact Hd.pre0 ha (by omega) hSc (by omega) (by omega) (by omega))) ?_
          refine asI rfl rfl rfl ?_
          refine rNil ?_
          refine qSeq rfl ?_
          refine hRet ?_
          exact fun w hs => ⟨[.int .i64 ((Hd.topR (2 : Int) ((Hd.mask z) ^^^ ((Hd.mask z) &&& ((2 ^ u.toNat) ||| (2 ^ v.toNat)))) [u, u, v, v]))], ⟨rfl, trivial⟩, ⟨by first | exact vI hval | (exfalso; omega) | exact vI (by rw [hR]; unfold Hd.rest; dsimp only; repeat (first | rfl | rw [if_pos (by omega)] | rw [if_neg (by omega)])), hs.upd⟩⟩
         ·
          replace c47 : ¬ (0 ≤ v) := c47
          refine hSeq ?_
          refine hReg (sq 0 (sq 1 (sq 2 sz))) (by kernel_rfl) ?_
          refine mvI rfl rfl rfl ?_
          refine geq rfl rfl rfl rfl ?_
          refine asB rfl rfl rfl ?_
          refine rNil ?_
          refine qSeq rfl ?_
          refine hIfD rfl (fun c48 => ?_) (fun c48 => ?_)
          ·
           replace c48 : 0 ≤ u := c48
           refine hSeq ?_
           refine hReg (sq 0 (sq 1 (sq 2 (sq 3 (sq 4 (sq 5 (sl 6 (sl 7 (sq 8 sz))))))))) (by kernel_rfl) ?_
           refine mvI rfl rfl rfl ?_
           refine mvI rfl rfl rfl ?_
           refine shlU rfl rfl rfl rfl (by omega) ?_
           refine andNotN (x := (Hd.mask z)) (y := (2 ^ u.toNat)) rfl rfl rfl rfl (by omega) ?_
           refine mvI rfl rfl rfl ?_
           refine mvI rfl rfl rfl ?_
           refine bsl trv1 rfl rfl rfl (bsl23_2 (.int .i64 _) (.int .i64 _) rfl rfl) (fun bkl11 hbkl11 => ?_)
           refine callP (v := .int .i64 ((Hd.topR (1 : Int) ((Hd.mask z) ^^^ ((Hd.mask z) &&& (2 ^ u.toNat))) [u, u]))) Try.call155 trv rfl rfl (fun w hs => impl_topRanks_c _ _ _ _ _ _ w (RdI.lit (zs := [u, u]) (n := 2) (hs.at_ 0 rfl) rfl rfl rfl) (by omega) (by first | assumption | omega | exact Hd.xor_lt hmk) (by first | assumption | exact Hd.digs_nil | (unfold Hd.digs13; simp only [List.mem_cons, List.not_mem_nil, or_false, forall_eq_or_imp, forall_eq]; omega)) (by first | omega | (simp only [List.length_cons, List.length_nil]; omega)) (by first | assumption | (exfalso; omega) | exact (Hd.pre4 ha (by omega) hSc (by omega)).2 | exact (Hd.pre3 ha (by omega) hSc (by omega) (by omega) (by omega)).2 | exact (Hd.pre2 ha (by omega) hSc (by omega) (by omega) (by omega)).2 | exact (Hd.pre1 ha (by omega) hSc (by omega) (by omega) (by omega) (by omega)).2 | exact Hd.pre0 ha (by omega) hSc (by omega) (by omega) (by omega))) ?_
           refine asI rfl rfl rfl ?_
           refine rNil ?_
           refine qSeq rfl ?_
           refine hRet ?_
           exact fun w hs => ⟨[.int .i64 ((Hd.topR (1 : Int) ((Hd.mask z) ^^^ ((Hd.mask z) &&& (2 ^ u.toNat))) [u, u]))], ⟨rfl, trivial⟩, ⟨by first | exact vI hval | (exfalso; omega) | exact vI (by rw [hR]; unfold Hd.rest; dsimp only; repeat (first | rfl | rw [if_pos (by omega)] | rw [if_neg (by omega)])), hs.upd⟩⟩
          ·
           replace c48 : ¬ (0 ≤ u) := c48
           refine hSkip ?_
           refine qSeq rfl ?_
           refine hSeq ?_
           refine hReg (sq 0 (sl 1 (sq 2 sz))) (by kernel_rfl) ?_
           refine mvI rfl rfl rfl ?_
           refine callP (v := .int .i64 ((Hd.topR (0 : Int) (Hd.mask z) []))) Try.call155 trv rfl rfl (fun w hs => impl_topRanks_c _ _ _ _ _ _ w (RdI.nil _ _) (by omega) (by first | assumption | omega | exact Hd.xor_lt hmk) (by first | assumption | exact Hd.digs_nil | (unfold Hd.digs13; simp only [List.mem_cons, List.not_mem_nil, or_false, forall_eq_or_imp, forall_eq]; omega)) (by first | omega | (simp only [List.length_cons, List.length_nil]; omega)) (by first | assumption | (exfalso; omega) | exact (Hd.pre4 ha (by omega) hSc (by omega)).2 | exact (Hd.pre3 ha (by omega) hSc (by omega) (by omega) (by omega)).2 | exact (Hd.pre2 ha (by omega) hSc (by omega) (by omega) (by omega)).2 | exact (Hd.pre1 ha (by omega) hSc (by omega) (by omega) (by omega) (by omega)).2 | exact Hd.pre0 ha (by omega) hSc (by omega) (by omega) (by omega))) ?_
           refine asI rfl rfl rfl ?_
           refine rNil ?_
           refine qSeq rfl ?_
           refine hRet ?_
           exact fun w hs => ⟨[.int .i64 ((Hd.topR (0 : Int) (Hd.mask z) []))], ⟨rfl, trivial⟩, ⟨by first | exact vI hval | (exfalso; omega) | exact vI (by rw [hR]; unfold Hd.rest; dsimp only; repeat (first | rfl | rw [if_pos (by omega)] | rw [if_neg (by omega)])), hs.upd⟩⟩
end Go.Proofs.Yteaahdakammffaa
