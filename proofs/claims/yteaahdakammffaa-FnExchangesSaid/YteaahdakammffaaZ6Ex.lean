/- Contracts of what laws on exchanges draw. Their conditions stand in each. -/
import Derived.Test.YteaahdakammffaaZ5Ex
import Derived.Test.YteaahdakammffaaZ1Ex
import Derived.Test.YteaahdakammffaaZ2Ex
import Derived.Test.YteaahdakammffaaZ4Ex
import Derived.Test.YteaahdakammffaaZ3Ex
import Derived.Test.YteaahdakammffaaRows
namespace Go.Proofs.Yteaahdakammffaa
open Go Go.RowKit V
set_option linter.unusedVariables false
set_option linter.unusedSimpArgs false
set_option maxRecDepth 100000
theorem bsl23_2 (v0 v1 : Value) (h0 : v0.cells = #[v0]) (h1 : v1.cells = #[v1]) : ∀ w, (Instr.buildSlice 23 2 ([(0, v0), (1, v1)] : List (Nat × Value)).toArray).run Try.prog w = .ok (.slice (some ⟨w.heap.size, 0, none⟩) 2 2) (w.alloc (.cells ([v0, v1] : List Value).toArray 2)) := by
 intro w; simp [Instr.buildSlice, Instr.fill, Try.zeroValue2, Try.runUnderlying23, Try.sizeOf2, Value.cells_int, newRow, show Array.range 2 = #[0, 1] from by decide, h0, h1]
theorem spec_l02Others_c (az : Option Addr) (nz : Nat) (cz : Nat) (z : List Int) (w : World) (rz : RdI az nz z w) :
  Calls Try.prog 116 #[.slice az nz cz] w (Ret fun v w' => ∃ x : Option Addr × Nat × Nat × List Int, v = .slice x.1 x.2.1 x.2.2.1 ∧ (x.2.2.2 = Iso.others z 52) ∧ Sep w none_ [OwnI 2 x.1 x.2.1 x.2.2.1 x.2.2.2] w') := by
 have kz : Kn w none_ [] (RdI az nz z) := fun w' hs => rz.ext hs.upd
 have lz : z.length = nz := rz.1
 have mz : nz ≤ 9223372036854775807 := rz.2.1
 refine fn (M := none_) (rs := [.tmp 2]) Try.func116 rfl Try.ntmps116 rfl rfl (Sep.start _ _) ?_
 refine hSeq ?_
 refine hReg (sq 0 sz) (by kernel_rfl) ?_
 refine asS rfl rfl rfl ?_
 refine rNil ?_
 refine qSeq rfl ?_
 refine hSeq ?_
 refine hReg (sl 0 (sq 1 sz)) (by kernel_rfl) ?_
 refine bsl trv1 rfl rfl rfl (bsl23_0) (fun bkl1 hbkl1 => ?_)
 refine asS rfl rfl rfl ?_
 refine rNil ?_
 refine qSeq rfl ?_
 refine hSeq ?_
 refine hSeq ?_
 refine hReg (sq 0 sz) (by kernel_rfl) ?_
 refine asI rfl rfl rfl ?_
 refine rNil ?_
 refine qSeq rfl ?_
 refine hBlk ?_
 refine hPieces (fun _ h => Sep.litI h 0 [] rfl rfl rfl) ?_
 refine hLoop (α := Nat × Nat × Hd) (fun x => x.1 ≤ 52 ∧ x.2.1 ≤ x.1) (fun x => 52 - x.1) (fun x => [OwnI 2 x.2.2.1 x.2.1 x.2.2.2 (Iso.others z x.1)]) (fun x => [(0, .slice az nz cz), (3, .slice x.2.2.1 x.2.1 x.2.2.2), (4, .int .i64 (x.1 : Int))]) ((0, 0, ((some ⟨bkl1, 0, none⟩), 0))) ⟨Nat.zero_le _, Nat.le_refl _⟩ (fun _ h => h.pick [0]) ⟨rfl, rfl, rfl, trivial⟩ ?_
 rintro ⟨k, q, hd⟩ τ1 ⟨hk, hq⟩
 dsimp only at hk hq
 refine hRe [(0, .slice az nz cz), (3, .slice hd.1 q hd.2), (4, .int .i64 (k : Int))] [OwnI 2 hd.1 q hd.2 (Iso.others z k)] rfl rfl ?_
 refine hSeq ?_
 refine hSeq ?_
 refine hReg (sq 0 (sq 1 sz)) (by kernel_rfl) ?_
 refine mvI rfl rfl rfl ?_
 refine lss rfl rfl rfl rfl ?_
 refine rNil ?_
 refine qSeq rfl ?_
 refine hIfD rfl (fun c1 => ?_) (fun c1 => ?_)
 ·
  replace c1 : (k : Int) < 52 := c1
  refine hSkip ?_
  refine qSeq rfl ?_
  refine hSeq ?_
  refine hBlk ?_
  refine hSeq ?_
  refine hReg (sq 0 (sq 1 (sl 2 (sq 3 sz)))) (by kernel_rfl) ?_
  refine mvS rfl rfl rfl ?_
  refine mvI rfl rfl rfl ?_
  refine callP (v := .bool ((z.contains (k : Int)))) Try.call133 trv rfl rfl (fun w hs => spec_l01Has_c _ nz cz _ _ w (Kn.drop (k := 1) kz w hs)) ?_
  refine not rfl rfl rfl ?_
  refine rNil ?_
  refine qSeq rfl ?_
  refine hIfN rfl (fun c2 => ?_) (fun c2 => ?_)
  ·
   replace c2 : (z.contains (k : Int)) = false := c2
   replace c2 : z.contains (k : Int) = false := by simpa using c2
   refine hReg (sq 0 (sq 1 (sl 2 (sl 3 (sq 4 sz))))) (by kernel_rfl) ?_
   refine mvS rfl rfl rfl ?_
   refine mvI rfl rfl rfl ?_
   refine bsl trv1 rfl rfl rfl (bsl23_1 (.int .i64 _) rfl) (fun bkl2 hbkl2 => ?_)
   refine aplI (N := q) (x := (k : Int)) 1 0 rfl rfl mk23 trv1 rfl rfl rfl rfl (by omega) ?_
   intro aq1 cq1
   refine asS rfl rfl rfl ?_
   refine rNil ?_
   refine qSeq rfl ?_
   refine hReg (sq 0 (sq 1 (sq 2 sz))) (by kernel_rfl) ?_
   refine mvI rfl rfl rfl ?_
   refine add rfl rfl rfl rfl (by omega) ?_
   refine asI rfl rfl rfl ?_
   refine rNil ?_
   rw [← Iso.others_no c2]
   exact qNext rfl ((k + 1, (q + 1), (aq1, cq1))) (by dsimp only; omega) ⟨by dsimp only; omega, by dsimp only; omega⟩ ⟨rfl, rfl, rfl, trivial⟩ (fun _ h => h.pick [1])
  ·
   replace c2 : (z.contains (k : Int)) = true := c2
   replace c2 : z.contains (k : Int) = true := by simpa using c2
   refine hSkip ?_
   refine qSeq rfl ?_
   refine hReg (sq 0 (sq 1 (sq 2 sz))) (by kernel_rfl) ?_
   refine mvI rfl rfl rfl ?_
   refine add rfl rfl rfl rfl (by omega) ?_
   refine asI rfl rfl rfl ?_
   refine rNil ?_
   rw [← Iso.others_yes c2]
   exact qNext rfl ((k + 1, q, (hd.1, hd.2))) (by dsimp only; omega) ⟨by dsimp only; omega, by dsimp only; omega⟩ ⟨rfl, rfl, rfl, trivial⟩ (fun _ h => h.pick [0])
 ·
  replace c1 : ¬ ((k : Int) < 52) := c1
  refine hExit rfl ?_
  refine qSeq rfl ?_
  refine hSeq ?_
  refine hReg (sq 0 (sq 1 sz)) (by kernel_rfl) ?_
  refine mvS rfl rfl rfl ?_
  refine asS rfl rfl rfl ?_
  refine rNil ?_
  refine qSeq rfl ?_
  refine hRet ?_
  exact fun w hs => ⟨[.slice hd.1 q hd.2], ⟨rfl, trivial⟩, ⟨(hd.1, q, hd.2, (Iso.others z k)), rfl, by rw [show k = 52 by omega], hs.pick [0]⟩⟩
theorem spec_l02Deal_c (bk : Nat) (ca : Option Addr) (bs : List Int) (cc : Nat) (n : Int) (az : Option Addr) (nz : Nat) (cz : Nat) (z : List Int) (w : World) (M0 : Nat → Prop) (hs0 : Sep w M0 [srcP bk ca bs cc] w) (kcode : Kn w M0 [] (CellsAt ca (bs.map (Value.int .u8)))) (hok : okBytes bs) (kz : Kn w M0 [] (RdI az nz z)) (hn : -1000 ≤ n ∧ n ≤ 1000) :
  Calls Try.prog 122 #[.pointer (some ⟨bk, 0, none⟩), .int .i64 n, .slice az nz cz] w (Ret fun v w' => ∃ x : Option Addr × Nat × Nat × List Int, v = .slice x.1 x.2.1 x.2.2.1 ∧ ((x.2.1 : Int) = max 0 (min n ((Iso.others z 52).length : Int))) ∧ Sep w M0 [srcP bk ca bs cc, OwnI 2 x.1 x.2.1 x.2.2.1 x.2.2.2] w') := by
 have lz : z.length = nz := (kz w (hs0.sub (List.nil_sublist _))).1
 have mz : nz ≤ 9223372036854775807 := (kz w (hs0.sub (List.nil_sublist _))).2.1
 have hrz := Iso.others_le z 52
 refine fn (M := M0) (rs := [.tmp 6]) Try.func122 rfl Try.ntmps122 rfl rfl hs0 ?_
 refine hSeq ?_
 refine hReg (sq 0 sz) (by kernel_rfl) ?_
 refine asS rfl rfl rfl ?_
 refine rNil ?_
 refine qSeq rfl ?_
 refine hSeq ?_
 refine hReg (sq 0 (sl 1 (sq 2 sz))) (by kernel_rfl) ?_
 refine mvS rfl rfl rfl ?_
 refine callS Try.call116 trv1 rfl rfl (fun w hs => spec_l02Others_c _ nz cz _ w (Kn.drop (k := 1) kz w hs)) ?_
 rintro ⟨ay1, ny1, cy1, y1⟩ hr1
 dsimp only at hr1
 subst y1
 refine rKnow (fun w hs => (show OwnI 2 ay1 ny1 cy1 (Iso.others z 52) w from hs.at_ 0 rfl).lenz) (fun lenn1 => ?_)
 refine rVal (v' := .slice ay1 ny1 cy1) rfl ?_
 refine asS rfl rfl rfl ?_
 refine rNil ?_
 refine qSeq rfl ?_
 refine hSeq ?_
 refine hReg (sl 0 (sq 1 sz)) (by kernel_rfl) ?_
 refine bsl trv1 rfl rfl rfl (bsl23_0) (fun bkl2 hbkl2 => ?_)
 refine asS rfl rfl rfl ?_
 refine rNil ?_
 refine qSeq rfl ?_
 refine hSeq ?_
 refine hBlk ?_
 refine hPieces (fun _ h => Sep.litI h 0 [] rfl rfl rfl) ?_
 refine hLoop (α := Int × Nat × Hd × List Int × Nat × Hd × List Int) (fun x => ((x.2.1 : Int) + x.1 = n ∧ (0 ≤ x.1 ∨ x.2.1 = 0)) ∧ x.2.1 + x.2.2.2.2.1 = (Iso.others z 52).length) (fun x => x.2.2.2.2.1) (fun x => [OwnI 2 x.2.2.1.1 x.2.1 x.2.2.1.2 x.2.2.2.1, OwnI 2 x.2.2.2.2.2.1.1 x.2.2.2.2.1 x.2.2.2.2.2.1.2 x.2.2.2.2.2.2, srcP bk ca bs cc]) (fun x => [(0, .pointer (some ⟨bk, 0, none⟩)), (1, .int .i64 x.1), (7, .slice x.2.2.2.2.2.1.1 x.2.2.2.2.1 x.2.2.2.2.2.1.2), (8, .slice x.2.2.1.1 x.2.1 x.2.2.1.2)]) ((n, 0, ((some ⟨bkl2, 0, none⟩), 0), [], ny1, (ay1, cy1), (Iso.others z 52))) (⟨⟨by dsimp only; omega, by dsimp only; omega⟩, by dsimp only; omega⟩) (fun _ h => h.pick [0, 0, 0]) ⟨rfl, rfl, rfl, rfl, trivial⟩ ?_
 rintro ⟨m, q, hd, o, nr, he, r⟩ τ1 ⟨⟨hm, hm2⟩, hq⟩
 dsimp only at hm hm2 hq
 refine hRe [(0, .pointer (some ⟨bk, 0, none⟩)), (1, .int .i64 m), (7, .slice he.1 nr he.2), (8, .slice hd.1 q hd.2)] [OwnI 2 hd.1 q hd.2 o, OwnI 2 he.1 nr he.2 r, srcP bk ca bs cc] rfl rfl ?_
 refine hSeq ?_
 refine hSeq ?_
 refine hReg (sq 0 (sq 1 (sq 2 (sq 3 (sq 4 (sq 5 (sq 6 sz))))))) (by kernel_rfl) ?_
 refine mvI rfl rfl rfl ?_
 refine gtr rfl rfl rfl rfl ?_
 refine mvB rfl rfl rfl ?_
 refine rBoolD (d := 15) rfl (fun g1 => ?_) (fun g1 => ?_)
 ·
  replace g1 : 0 < m := g1
  refine mvS rfl rfl rfl ?_
  refine lenS Try.runUnderlying23 rfl rfl rfl ?_
  refine gtr rfl rfl rfl rfl ?_
  refine pickB rfl rfl rfl rfl ?_
  refine rNil ?_
  refine qSeq rfl ?_
  refine hIfD rfl (fun c2 => ?_) (fun c2 => ?_)
  ·
   replace c2 : 0 < (nr : Int) := c2
   refine hSkip ?_
   refine qSeq rfl ?_
   refine hSeq ?_
   refine hBlk ?_
   refine hSeq ?_
   refine hReg (sq 0 (sq 1 (sq 2 (sl 3 (sq 4 sz))))) (by kernel_rfl) ?_
   refine mvP rfl rfl rfl ?_
   refine mvS rfl rfl rfl ?_
   refine lenS Try.runUnderlying23 rfl rfl rfl ?_
   refine rPieces (L' := [srcP bk ca bs cc, OwnI 2 hd.1 q hd.2 o, OwnI 2 he.1 nr he.2 r]) (fun _ h => h.perm (pull (i := 2) rfl)) ?_
   refine callMK (α := Int) (Lf := [srcP bk ca bs cc]) (Lr := [OwnI 2 hd.1 q hd.2 o, OwnI 2 he.1 nr he.2 r]) (good := fun x => 0 ≤ x ∧ (x < (nr : Int) ∨ x = 0)) (φs := fun x => [srcP bk ca bs cc]) (val := fun x => .int .i64 x) rfl Try.call76 trv1 rfl rfl (fun w M1 hs hk => src_next bk ca bs cc (nr : Int) w M1 hs (hk _ kcode) hok) ?_
   intro x2 hx2
   try dsimp only at hx2
   refine rPieces (L' := [srcP bk ca bs cc, OwnI 2 hd.1 q hd.2 o, OwnI 2 he.1 nr he.2 r]) (fun _ h => h) ?_
   refine asI rfl rfl rfl ?_
   refine rNil ?_
   refine qSeq rfl ?_
   refine hSeq ?_
   refine hReg (sq 0 (sq 1 (sq 2 (sq 3 (sl 4 (sl 5 (sl 6 (sq 7 sz)))))))) (by kernel_rfl) ?_
   refine mvS rfl rfl rfl ?_
   refine mvS rfl rfl rfl ?_
   refine mvI rfl rfl rfl ?_
   refine ixIl (zn := (x2).toNat) el23 ((Kn.at_ 2 rfl).imp fun _ h => OwnI.rd h) rfl rfl rfl rfl (by omega) (by omega) rfl ?_
   intro ae3 e3
   refine ldl Try.isAgg2 (e3) trv rfl rfl rfl ?_
   refine bsl trv1 rfl rfl rfl (bsl23_1 (.int .i64 _) rfl) (fun bkl3 hbkl3 => ?_)
   refine aplI (N := q) (x := (r.getD ((x2).toNat) 0)) 2 0 rfl rfl mk23 trv1 rfl rfl rfl rfl (by omega) ?_
   intro aq4 cq4
   refine asS rfl rfl rfl ?_
   refine rNil ?_
   refine qSeq rfl ?_
   refine hDraw (Ls := []) (by kernel_rfl) (sq 1 (sq 2 (sq 3 (sq 5 (sq 6 (sq 7 (sq 8 (sl 0 (sl 4 (sl 9 (sq 10 sz))))))))))) (by kernel_rfl) (.cons _ (.cons _ (.cons _ (.cons _ .slnil)))) ?_
   refine mvS rfl rfl rfl ?_
   refine mvI rfl rfl rfl ?_
   refine slHil (zn := ((x2).toNat)) 3 rfl el23 rfl rfl rfl rfl (by omega) (by omega) rfl (fun e5 => ?_)
   refine mvS rfl rfl rfl ?_
   refine mvI rfl rfl rfl ?_
   refine add rfl rfl rfl rfl (by omega) ?_
   refine slLol (zn := ((x2 + 1)).toNat) 3 rfl el23 rfl rfl rfl rfl (by omega) (by omega) rfl ?_
   intro ae6 e6
   refine bsl (fun _ _ h => h.pick []) rfl rfl rfl (bsl23_0) (fun bkl4 hbkl4 => ?_)
   refine rPieces (fun _ h => Sep.litI h 0 [] rfl rfl rfl) ?_
   refine aplL (N := 0) (ys := ((r.take ((x2).toNat)))) 0 rfl (Kn.drop (k := 1) e5) mk23 (fun _ _ h => h.pick []) rfl rfl rfl rfl (by omega) ?_
   intro aq7 cq7
   refine aplL (N := ((0 + (x2).toNat))) (ys := ((r.drop (((x2 + 1)).toNat)))) 0 rfl (Kn.drop (k := 1) e6) mk23 (fun _ _ h => h.pick []) rfl rfl rfl rfl (by omega) ?_
   intro aq8 cq8
   refine asS rfl rfl rfl ?_
   refine rNil ?_
   refine qSeq rfl ?_
   refine hReg (sq 0 (sq 1 (sq 2 sz))) (by kernel_rfl) ?_
   refine mvI rfl rfl rfl ?_
   refine sub rfl rfl rfl rfl (by omega) ?_
   refine asI rfl rfl rfl ?_
   refine rNil ?_
   exact qNext rfl ((m - 1, (q + 1), (aq4, cq4), (o ++ [(r.getD ((x2).toNat) 0)]), ((0 + (x2).toNat) + (nr - ((x2 + 1)).toNat)), (aq8, cq8), (([] ++ (r.take ((x2).toNat))) ++ (r.drop (((x2 + 1)).toNat))))) (by dsimp only; omega) (⟨⟨by dsimp only; omega, by dsimp only; omega⟩, by dsimp only; omega⟩) ⟨rfl, rfl, rfl, rfl, trivial⟩ (fun _ h => h.pick [3, 0, 1])
  ·
   replace c2 : ¬ (0 < (nr : Int)) := c2
   refine hExit rfl ?_
   refine qSeq rfl ?_
   refine hSeq ?_
   refine hReg (sq 0 (sq 1 sz)) (by kernel_rfl) ?_
   refine mvS rfl rfl rfl ?_
   refine asS rfl rfl rfl ?_
   refine rNil ?_
   refine qSeq rfl ?_
   refine hRet ?_
   exact fun w hs => ⟨[.slice hd.1 q hd.2], ⟨rfl, trivial⟩, ⟨(hd.1, q, hd.2, o), rfl, by dsimp only; omega, hs.pick [2, 0]⟩⟩
 ·
  replace g1 : ¬ (0 < m) := g1
  refine rSkipQ rfl rfl ?_
  refine rSkipQ rfl rfl ?_
  refine rSkipQ rfl rfl ?_
  refine pickB rfl rfl rfl rfl ?_
  refine rNil ?_
  refine qSeq rfl ?_
  refine hIfF rfl ?_
  refine hExit rfl ?_
  refine qSeq rfl ?_
  refine hSeq ?_
  refine hReg (sq 0 (sq 1 sz)) (by kernel_rfl) ?_
  refine mvS rfl rfl rfl ?_
  refine asS rfl rfl rfl ?_
  refine rNil ?_
  refine qSeq rfl ?_
  refine hRet ?_
  exact fun w hs => ⟨[.slice hd.1 q hd.2], ⟨rfl, trivial⟩, ⟨(hd.1, q, hd.2, o), rfl, by dsimp only; omega, hs.pick [2, 0]⟩⟩
theorem spec_l02Pick_c (bk : Nat) (ca : Option Addr) (bs : List Int) (cc : Nat) (az : Option Addr) (nz : Nat) (cz : Nat) (z : List Int) (w : World) (M0 : Nat → Prop) (hs0 : Sep w M0 [srcP bk ca bs cc] w) (kcode : Kn w M0 [] (CellsAt ca (bs.map (Value.int .u8)))) (hok : okBytes bs) (kz : Kn w M0 [] (RdI az nz z)) (hl : z.length ≤ 1000) :
  Calls Try.prog 78 #[.pointer (some ⟨bk, 0, none⟩), .slice az nz cz] w (Ret fun v w' => ∃ x : Option Addr × Nat × Nat × List Int, v = .slice x.1 x.2.1 x.2.2.1 ∧ (x.2.2.2.Perm z ∧ x.2.1 = nz) ∧ Sep w M0 [srcP bk ca bs cc, OwnI 2 x.1 x.2.1 x.2.2.1 x.2.2.2] w') := by
 have lz : z.length = nz := (kz w (hs0.sub (List.nil_sublist _))).1
 have mz : nz ≤ 9223372036854775807 := (kz w (hs0.sub (List.nil_sublist _))).2.1
 refine fn (M := M0) (rs := [.tmp 4]) Try.func78 rfl Try.ntmps78 rfl rfl hs0 ?_
 refine hSeq ?_
 refine hReg (sq 0 sz) (by kernel_rfl) ?_
 refine asS rfl rfl rfl ?_
 refine rNil ?_
 refine qSeq rfl ?_
 refine hSeq ?_
 refine hReg (sl 0 (sq 1 sz)) (by kernel_rfl) ?_
 refine bsl trv1 rfl rfl rfl (bsl23_0) (fun bkl1 hbkl1 => ?_)
 refine asS rfl rfl rfl ?_
 refine rNil ?_
 refine qSeq rfl ?_
 refine hSeq ?_
 refine hSeq ?_
 refine hReg (sq 0 sz) (by kernel_rfl) ?_
 refine asI rfl rfl rfl ?_
 refine rNil ?_
 refine qSeq rfl ?_
 refine hBlk ?_
 refine hPieces (fun _ h => Sep.litI h 0 [] rfl rfl rfl) ?_
 refine hLoop (α := Nat × Nat × Hd × List Int) (fun x => (x.1 ≤ nz ∧ x.2.1 = x.1) ∧ x.2.2.2.Perm (z.take x.1)) (fun x => nz - x.1) (fun x => [OwnI 2 x.2.2.1.1 x.2.1 x.2.2.1.2 x.2.2.2, srcP bk ca bs cc]) (fun x => [(0, .pointer (some ⟨bk, 0, none⟩)), (1, .slice az nz cz), (5, .slice x.2.2.1.1 x.2.1 x.2.2.1.2), (6, .int .i64 (x.1 : Int))]) ((0, 0, ((some ⟨bkl1, 0, none⟩), 0), [])) (⟨⟨Nat.zero_le _, rfl⟩, by simp⟩) (fun _ h => h.pick [0, 0]) ⟨rfl, rfl, rfl, rfl, trivial⟩ ?_
 rintro ⟨i, q, hd, o⟩ τ1 ⟨⟨hi, hq⟩, hpo⟩
 dsimp only at hi hq hpo
 refine hRe [(0, .pointer (some ⟨bk, 0, none⟩)), (1, .slice az nz cz), (5, .slice hd.1 q hd.2), (6, .int .i64 (i : Int))] [OwnI 2 hd.1 q hd.2 o, srcP bk ca bs cc] rfl rfl ?_
 refine hSeq ?_
 refine hSeq ?_
 refine hReg (sq 0 (sq 1 (sq 2 (sq 3 sz)))) (by kernel_rfl) ?_
 refine mvI rfl rfl rfl ?_
 refine mvS rfl rfl rfl ?_
 refine lenS Try.runUnderlying23 rfl rfl rfl ?_
 refine lss rfl rfl rfl rfl ?_
 refine rNil ?_
 refine qSeq rfl ?_
 refine hIfD rfl (fun c1 => ?_) (fun c1 => ?_)
 ·
  replace c1 : (i : Int) < (nz : Int) := c1
  refine hSkip ?_
  refine qSeq rfl ?_
  refine hSeq ?_
  refine hBlk ?_
  refine hSeq ?_
  refine hReg (sq 0 (sq 1 (sq 2 (sq 3 (sl 4 (sq 5 sz)))))) (by kernel_rfl) ?_
  refine mvP rfl rfl rfl ?_
  refine mvS rfl rfl rfl ?_
  refine lenS Try.runUnderlying23 rfl rfl rfl ?_
  refine add rfl rfl rfl rfl (by omega) ?_
  refine rPieces (L' := [srcP bk ca bs cc, OwnI 2 hd.1 q hd.2 o]) (fun _ h => h.perm (pull (i := 1) rfl)) ?_
  refine callMK (α := Int) (Lf := [srcP bk ca bs cc]) (Lr := [OwnI 2 hd.1 q hd.2 o]) (good := fun x => 0 ≤ x ∧ (x < (((q : Int) + 1)) ∨ x = 0)) (φs := fun x => [srcP bk ca bs cc]) (val := fun x => .int .i64 x) rfl Try.call76 trv1 rfl rfl (fun w M1 hs hk => src_next bk ca bs cc (((q : Int) + 1)) w M1 hs (hk _ kcode) hok) ?_
  intro x1 hx1
  try dsimp only at hx1
  refine rPieces (L' := [srcP bk ca bs cc, OwnI 2 hd.1 q hd.2 o]) (fun _ h => h) ?_
  refine asI rfl rfl rfl ?_
  refine rNil ?_
  refine qSeq rfl ?_
  refine hDraw (Ls := []) (by kernel_rfl) (sq 1 (sq 2 (sq 3 (sq 5 (sq 6 (sq 7 (sq 8 (sq 11 (sq 12 (sq 13 (.alt (sl 0 (.alt (sl 4 (sl 9 (sl 10 (sl 14 (sq 15 sz))))) (sl 9 (sl 4 (sl 10 (sl 14 (sq 15 sz))))))) (sl 9 (sl 0 (sl 4 (sl 10 (sl 14 (sq 15 sz))))))))))))))))) (by kernel_rfl) (.cons _ (.cons _ .slnil)) ?_
  refine mvS rfl rfl rfl ?_
  refine mvI rfl rfl rfl ?_
  refine slHil (zn := ((x1).toNat)) 1 rfl el23 rfl rfl rfl rfl (by omega) (by omega) rfl (fun e2 => ?_)
  refine mvS rfl rfl rfl ?_
  refine mvI rfl rfl rfl ?_
  refine ixIq (zn := i) el23 (kz) (fun _ h => h.pick []) rfl rfl rfl rfl (by omega) (by omega) rfl ?_
  intro ae3 e3
  refine ldq Try.isAgg2 (e3) rfl rfl rfl ?_
  refine mvS rfl rfl rfl ?_
  refine mvI rfl rfl rfl ?_
  refine slLol (zn := (x1).toNat) 1 rfl el23 rfl rfl rfl rfl (by omega) (by omega) rfl ?_
  intro ae4 e4
  refine rAlt ?_ ?_
  ·
   refine bsl (fun _ _ h => h.pick []) rfl rfl rfl (bsl23_0) (fun bkl2 hbkl2 => ?_)
   refine rAlt ?_ ?_
   ·
    refine rPieces (fun _ h => Sep.litI h 0 [] rfl rfl rfl) ?_
    refine aplL (N := 0) (ys := ((o.take ((x1).toNat)))) 0 rfl (Kn.drop (k := 1) e2) mk23 (fun _ _ h => h.pick []) rfl rfl rfl rfl (by omega) ?_
    intro aq5 cq5
    refine bsl (fun _ _ h => h.pick []) rfl rfl rfl (bsl23_1 (.int .i64 _) rfl) (fun bkl3 hbkl3 => ?_)
    refine aplI (N := ((0 + (x1).toNat))) (x := (z.getD i 0)) 1 0 rfl rfl mk23 (fun _ _ h => h.pick []) rfl rfl rfl rfl (by omega) ?_
    intro aq6 cq6
    refine aplL (N := (((0 + (x1).toNat) + 1))) (ys := ((o.drop ((x1).toNat)))) 1 rfl (Kn.drop (k := 2) e4) mk23 (fun _ _ h => h.pick []) rfl rfl rfl rfl (by omega) ?_
    intro aq7 cq7
    refine asS rfl rfl rfl ?_
    refine rNil ?_
    refine qSeq rfl ?_
    refine hReg (sq 0 (sq 1 (sq 2 sz))) (by kernel_rfl) ?_
    refine mvI rfl rfl rfl ?_
    refine add rfl rfl rfl rfl (by omega) ?_
    refine asI rfl rfl rfl ?_
    refine rNil ?_
    exact qNext rfl ((i + 1, (((0 + (x1).toNat) + 1) + (q - (x1).toNat)), (aq7, cq7), ((([] ++ (o.take ((x1).toNat))) ++ [(z.getD i 0)]) ++ (o.drop ((x1).toNat))))) (by dsimp only; omega) (⟨⟨by dsimp only; omega, by dsimp only; omega⟩, Iso.put_perm hpo (by omega)⟩) ⟨rfl, rfl, rfl, rfl, trivial⟩ (fun _ h => h.pick [1, 1])
   ·
    refine bsl (fun _ _ h => h.pick []) rfl rfl rfl (bsl23_1 (.int .i64 _) rfl) (fun bkl4 hbkl4 => ?_)
    refine rPieces (fun _ h => Sep.litI h 1 [] rfl rfl rfl) ?_
    refine aplL (N := 0) (ys := ((o.take ((x1).toNat)))) 1 rfl (Kn.drop (k := 2) e2) mk23 (fun _ _ h => h.pick []) rfl rfl rfl rfl (by omega) ?_
    intro aq8 cq8
    refine aplI (N := ((0 + (x1).toNat))) (x := (z.getD i 0)) 1 0 rfl rfl mk23 (fun _ _ h => h.pick []) rfl rfl rfl rfl (by omega) ?_
    intro aq9 cq9
    refine aplL (N := (((0 + (x1).toNat) + 1))) (ys := ((o.drop ((x1).toNat)))) 1 rfl (Kn.drop (k := 2) e4) mk23 (fun _ _ h => h.pick []) rfl rfl rfl rfl (by omega) ?_
    intro aq10 cq10
    refine asS rfl rfl rfl ?_
    refine rNil ?_
    refine qSeq rfl ?_
    refine hReg (sq 0 (sq 1 (sq 2 sz))) (by kernel_rfl) ?_
    refine mvI rfl rfl rfl ?_
    refine add rfl rfl rfl rfl (by omega) ?_
    refine asI rfl rfl rfl ?_
    refine rNil ?_
    exact qNext rfl ((i + 1, (((0 + (x1).toNat) + 1) + (q - (x1).toNat)), (aq10, cq10), ((([] ++ (o.take ((x1).toNat))) ++ [(z.getD i 0)]) ++ (o.drop ((x1).toNat))))) (by dsimp only; omega) (⟨⟨by dsimp only; omega, by dsimp only; omega⟩, Iso.put_perm hpo (by omega)⟩) ⟨rfl, rfl, rfl, rfl, trivial⟩ (fun _ h => h.pick [1, 1])
  ·
   refine bsl (fun _ _ h => h.pick []) rfl rfl rfl (bsl23_1 (.int .i64 _) rfl) (fun bkl5 hbkl5 => ?_)
   refine bsl (fun _ _ h => h.pick []) rfl rfl rfl (bsl23_0) (fun bkl6 hbkl6 => ?_)
   refine rPieces (fun _ h => Sep.litI h 0 [] rfl rfl rfl) ?_
   refine aplL (N := 0) (ys := ((o.take ((x1).toNat)))) 0 rfl (Kn.drop (k := 2) e2) mk23 (fun _ _ h => h.pick []) rfl rfl rfl rfl (by omega) ?_
   intro aq11 cq11
   refine aplI (N := ((0 + (x1).toNat))) (x := (z.getD i 0)) 0 1 rfl rfl mk23 (fun _ _ h => h.pick []) rfl rfl rfl rfl (by omega) ?_
   intro aq12 cq12
   refine aplL (N := (((0 + (x1).toNat) + 1))) (ys := ((o.drop ((x1).toNat)))) 0 rfl (Kn.drop (k := 2) e4) mk23 (fun _ _ h => h.pick []) rfl rfl rfl rfl (by omega) ?_
   intro aq13 cq13
   refine asS rfl rfl rfl ?_
   refine rNil ?_
   refine qSeq rfl ?_
   refine hReg (sq 0 (sq 1 (sq 2 sz))) (by kernel_rfl) ?_
   refine mvI rfl rfl rfl ?_
   refine add rfl rfl rfl rfl (by omega) ?_
   refine asI rfl rfl rfl ?_
   refine rNil ?_
   exact qNext rfl ((i + 1, (((0 + (x1).toNat) + 1) + (q - (x1).toNat)), (aq13, cq13), ((([] ++ (o.take ((x1).toNat))) ++ [(z.getD i 0)]) ++ (o.drop ((x1).toNat))))) (by dsimp only; omega) (⟨⟨by dsimp only; omega, by dsimp only; omega⟩, Iso.put_perm hpo (by omega)⟩) ⟨rfl, rfl, rfl, rfl, trivial⟩ (fun _ h => h.pick [0, 1])
 ·
  replace c1 : ¬ ((i : Int) < (nz : Int)) := c1
  refine hExit rfl ?_
  refine qSeq rfl ?_
  refine hSeq ?_
  refine hReg (sq 0 (sq 1 sz)) (by kernel_rfl) ?_
  refine mvS rfl rfl rfl ?_
  refine asS rfl rfl rfl ?_
  refine rNil ?_
  refine qSeq rfl ?_
  refine hRet ?_
  exact fun w hs => ⟨[.slice hd.1 q hd.2], ⟨rfl, trivial⟩, ⟨(hd.1, q, hd.2, o), rfl, ⟨by rw [List.take_of_length_le (by omega)] at hpo; exact hpo, by dsimp only; omega⟩, hs.pick [1, 0]⟩⟩
theorem spec_l02DrawList_c (bk : Nat) (ca : Option Addr) (bs : List Int) (cc : Nat) (most : Int) (w : World) (M0 : Nat → Prop) (hs0 : Sep w M0 [srcP bk ca bs cc] w) (kcode : Kn w M0 [] (CellsAt ca (bs.map (Value.int .u8)))) (hok : okBytes bs) (hm : 0 ≤ most ∧ most ≤ 100) :
  Calls Try.prog 92 #[.pointer (some ⟨bk, 0, none⟩), .int .i64 most] w (Ret fun v w' => ∃ x : Option Addr × Nat × Nat × List Int, v = .slice x.1 x.2.1 x.2.2.1 ∧ (x.2.1 ≤ 60) ∧ Sep w M0 [srcP bk ca bs cc, OwnI 2 x.1 x.2.1 x.2.2.1 x.2.2.2] w') := by
 have ho52 := Iso.others_le [] 52
 refine fn (M := M0) (rs := [.tmp 4]) Try.func92 rfl Try.ntmps92 rfl rfl hs0 ?_
 refine hSeq ?_
 refine hReg (sq 0 sz) (by kernel_rfl) ?_
 refine asS rfl rfl rfl ?_
 refine rNil ?_
 refine qSeq rfl ?_
 refine hSeq ?_
 refine hReg (sq 0 (sq 1 (sq 2 (sq 3 (sl 4 (sl 5 (sq 6 sz))))))) (by kernel_rfl) ?_
 refine mvP rfl rfl rfl ?_
 refine mvP rfl rfl rfl ?_
 refine mvI rfl rfl rfl ?_
 refine add rfl rfl rfl rfl (by omega) ?_
 refine callMK (α := Int) (Lf := [srcP bk ca bs cc]) (Lr := []) (good := fun x => 0 ≤ x ∧ (x < (most + 1) ∨ x = 0)) (φs := fun x => [srcP bk ca bs cc]) (val := fun x => .int .i64 x) rfl Try.call76 trv1 rfl rfl (fun w M1 hs hk => src_next bk ca bs cc (most + 1) w M1 hs (hk _ kcode) hok) ?_
 intro x1 hx1
 try dsimp only at hx1
 refine rPieces (L' := [srcP bk ca bs cc]) (fun _ h => h) ?_
 refine callMR (α := Option Addr × Nat × Nat × List Int) (Lf := [srcP bk ca bs cc]) (Lr := []) (good := fun x => (x.2.1 : Int) = max 0 (min x1 ((Iso.others [] 52).length : Int))) (φs := fun x => [srcP bk ca bs cc, OwnI 2 x.1 x.2.1 x.2.2.1 x.2.2.2]) (val := fun x => .slice x.1 x.2.1 x.2.2.1) rfl Try.call122 trv1 rfl rfl (fun w M1 hs hk => spec_l02Deal_c bk ca bs cc x1 none 0 0 [] w M1 hs (hk _ (Kn.nil kcode)) hok (hk _ (fun w _ => RdI.nil _ w)) (by omega)) ?_
 rintro ⟨ay2, ny2, cy2, y2⟩ hr2
 try dsimp only at hr2
 refine rPieces (L' := [srcP bk ca bs cc, OwnI 2 ay2 ny2 cy2 y2]) (fun _ h => h) ?_
 refine rKnow (fun w hs => (show OwnI 2 ay2 ny2 cy2 y2 w from hs.at_ 1 rfl).lenz) (fun lenn1 => ?_)
 refine rVal (v' := .slice ay2 ny2 cy2) rfl ?_
 refine asS rfl rfl rfl ?_
 refine rNil ?_
 refine qSeq rfl ?_
 refine hSeq ?_
 refine hSeq ?_
 refine hReg (sq 0 (sl 1 sz)) (by kernel_rfl) ?_
 refine mvP rfl rfl rfl ?_
 refine callMK (α := Int) (Lf := [srcP bk ca bs cc]) (Lr := [OwnI 2 ay2 ny2 cy2 y2]) (good := fun x => 0 ≤ x ∧ (x < (24 : Int) ∨ x = 0)) (φs := fun x => [srcP bk ca bs cc]) (val := fun x => .int .i64 x) rfl Try.call76 trv1 rfl rfl (fun w M1 hs hk => src_next bk ca bs cc (24 : Int) w M1 hs (hk _ kcode) hok) ?_
 intro x3 hx3
 try dsimp only at hx3
 refine rPieces (L' := [srcP bk ca bs cc, OwnI 2 ay2 ny2 cy2 y2]) (fun _ h => h) ?_
 refine rNil ?_
 refine qSeq rfl ?_
 refine hBlk ?_
 refine hSeq ?_
 refine hReg (sq 0 (sq 1 sz)) (by kernel_rfl) ?_
 refine eql rfl rfl rfl rfl ?_
 refine asB rfl rfl rfl ?_
 refine rNil ?_
 refine qSeq rfl ?_
 refine hIfD rfl (fun c1 => ?_) (fun c1 => ?_)
 ·
  replace c1 : x3 = 0 := c1
  refine hReg (sq 0 (sq 1 (sl 2 (sl 3 (sl 4 (sl 5 (sq 6 sz))))))) (by kernel_rfl) ?_
  refine mvS rfl rfl rfl ?_
  refine mvP rfl rfl rfl ?_
  refine bsl trv1 rfl rfl rfl (bsl23_2 (.int .i64 _) (.int .i64 _) rfl rfl) (fun bkl2 hbkl2 => ?_)
  refine rPieces (L' := [srcP bk ca bs cc, blk bkl2 2 [.int .i64 (-1), .int .i64 52], OwnI 2 ay2 ny2 cy2 y2]) (fun _ h => h.perm (pull (i := 1) rfl)) ?_
  refine callMK (α := Int) (Lf := [srcP bk ca bs cc, blk bkl2 2 [.int .i64 (-1), .int .i64 52]]) (Lr := [OwnI 2 ay2 ny2 cy2 y2]) (good := fun x => x ∈ ([.int .i64 (-1), .int .i64 52] : List Value).map toI) (φs := fun x => [srcP bk ca bs cc, blk bkl2 2 [.int .i64 (-1), .int .i64 52]]) (val := fun x => .int .i64 x) rfl Try.call132 trv1 rfl rfl (fun w M1 hs hk => src_pick bk ca bs cc bkl2 2 2 2 [.int .i64 (-1), .int .i64 52] w M1 hs (hk _ kcode) hok rfl rfl (by decide)) ?_
  intro x4 hx4
  try dsimp only at hx4
  refine rPieces (L' := [srcP bk ca bs cc, blk bkl2 2 [.int .i64 (-1), .int .i64 52], OwnI 2 ay2 ny2 cy2 y2]) (fun _ h => h) ?_
  refine bsl trv1 rfl rfl rfl (bsl23_1 (.int .i64 _) rfl) (fun bkl3 hbkl3 => ?_)
  refine aplI (N := ny2) (x := x4) 3 0 rfl rfl mk23 trv1 rfl rfl rfl rfl (by omega) ?_
  intro aq5 cq5
  refine asS rfl rfl rfl ?_
  refine rNil ?_
  refine qSeq rfl ?_
  refine hSeq ?_
  refine hReg (sq 0 (sq 1 sz)) (by kernel_rfl) ?_
  refine mvS rfl rfl rfl ?_
  refine asS rfl rfl rfl ?_
  refine rNil ?_
  refine qSeq rfl ?_
  refine hRet ?_
  exact fun w hs => ⟨[.slice aq5 (ny2 + 1) cq5], ⟨rfl, trivial⟩, ⟨(aq5, (ny2 + 1), cq5, (y2 ++ [x4])), rfl, by dsimp only; omega, hs.pick [1, 2]⟩⟩
 ·
  replace c1 : ¬ (x3 = 0) := c1
  refine hSeq ?_
  refine hReg (sq 0 (sq 1 sz)) (by kernel_rfl) ?_
  refine eql rfl rfl rfl rfl ?_
  refine asB rfl rfl rfl ?_
  refine rNil ?_
  refine qSeq rfl ?_
  refine hIfD rfl (fun c2 => ?_) (fun c2 => ?_)
  ·
   replace c2 : x3 = 1 := c2
   refine hSeq ?_
   refine hReg (sq 0 (sq 1 (sq 2 sz))) (by kernel_rfl) ?_
   refine mvS rfl rfl rfl ?_
   refine lenS Try.runUnderlying23 rfl rfl rfl ?_
   refine gtr rfl rfl rfl rfl ?_
   refine rNil ?_
   refine qSeq rfl ?_
   refine hIfD rfl (fun c3 => ?_) (fun c3 => ?_)
   ·
    replace c3 : 0 < (ny2 : Int) := c3
    refine hReg (sq 0 (sq 1 (sq 2 (sl 3 (sl 4 (sl 5 (sq 6 sz))))))) (by kernel_rfl) ?_
    refine mvS rfl rfl rfl ?_
    refine mvS rfl rfl rfl ?_
    refine ixIl (zn := 0) el23 ((Kn.at_ 1 rfl).imp fun _ h => OwnI.rd h) rfl rfl rfl rfl (by omega) (by omega) rfl ?_
    intro ae6 e6
    refine ldl Try.isAgg2 (e6) trv rfl rfl rfl ?_
    refine bsl trv1 rfl rfl rfl (bsl23_1 (.int .i64 _) rfl) (fun bkl4 hbkl4 => ?_)
    refine aplI (N := ny2) (x := (y2.getD 0 0)) 2 0 rfl rfl mk23 trv1 rfl rfl rfl rfl (by omega) ?_
    intro aq7 cq7
    refine asS rfl rfl rfl ?_
    refine rNil ?_
    refine qSeq rfl ?_
    refine hSeq ?_
    refine hReg (sq 0 (sq 1 sz)) (by kernel_rfl) ?_
    refine mvS rfl rfl rfl ?_
    refine asS rfl rfl rfl ?_
    refine rNil ?_
    refine qSeq rfl ?_
    refine hRet ?_
    exact fun w hs => ⟨[.slice aq7 (ny2 + 1) cq7], ⟨rfl, trivial⟩, ⟨(aq7, (ny2 + 1), cq7, (y2 ++ [(y2.getD 0 0)])), rfl, by dsimp only; omega, hs.pick [1, 1]⟩⟩
   ·
    replace c3 : ¬ (0 < (ny2 : Int)) := c3
    refine hSkip ?_
    refine qSeq rfl ?_
    refine hSeq ?_
    refine hReg (sq 0 (sq 1 sz)) (by kernel_rfl) ?_
    refine mvS rfl rfl rfl ?_
    refine asS rfl rfl rfl ?_
    refine rNil ?_
    refine qSeq rfl ?_
    refine hRet ?_
    exact fun w hs => ⟨[.slice ay2 ny2 cy2], ⟨rfl, trivial⟩, ⟨(ay2, ny2, cy2, y2), rfl, by dsimp only; omega, hs.pick [0, 0]⟩⟩
  ·
   replace c2 : ¬ (x3 = 1) := c2
   refine hSeq ?_
   refine hReg (sq 0 (sq 1 sz)) (by kernel_rfl) ?_
   refine eql rfl rfl rfl rfl ?_
   refine asB rfl rfl rfl ?_
   refine rNil ?_
   refine qSeq rfl ?_
   refine hIfD rfl (fun c4 => ?_) (fun c4 => ?_)
   ·
    replace c4 : x3 = 2 := c4
    refine hSeq ?_
    refine hReg (sq 0 (sl 1 (sq 2 sz))) (by kernel_rfl) ?_
    refine mvP rfl rfl rfl ?_
    refine callMR (α := Option Addr × Nat × Nat × List Int) (Lf := [srcP bk ca bs cc]) (Lr := [OwnI 2 ay2 ny2 cy2 y2]) (good := fun x => (x.2.1 : Int) = max 0 (min (52 : Int) ((Iso.others [] 52).length : Int))) (φs := fun x => [srcP bk ca bs cc, OwnI 2 x.1 x.2.1 x.2.2.1 x.2.2.2]) (val := fun x => .slice x.1 x.2.1 x.2.2.1) rfl Try.call122 trv1 rfl rfl (fun w M1 hs hk => spec_l02Deal_c bk ca bs cc (52 : Int) none 0 0 [] w M1 hs (hk _ (Kn.nil kcode)) hok (hk _ (fun w _ => RdI.nil _ w)) (by omega)) ?_
    rintro ⟨ay8, ny8, cy8, y8⟩ hr8
    try dsimp only at hr8
    refine rPieces (L' := [srcP bk ca bs cc, OwnI 2 ay8 ny8 cy8 y8, OwnI 2 ay2 ny2 cy2 y2]) (fun _ h => h) ?_
    refine rKnow (fun w hs => (show OwnI 2 ay8 ny8 cy8 y8 w from hs.at_ 1 rfl).lenz) (fun lenn5 => ?_)
    refine rVal (v' := .slice ay8 ny8 cy8) rfl ?_
    refine asS rfl rfl rfl ?_
    refine rNil ?_
    refine qSeq rfl ?_
    refine hRet ?_
    exact fun w hs => ⟨[.slice ay8 ny8 cy8], ⟨rfl, trivial⟩, ⟨(ay8, ny8, cy8, y8), rfl, by dsimp only; omega, hs.pick [0, 0]⟩⟩
   ·
    replace c4 : ¬ (x3 = 2) := c4
    refine hSkip ?_
    refine qSeq rfl ?_
    refine hSeq ?_
    refine hReg (sq 0 (sq 1 sz)) (by kernel_rfl) ?_
    refine mvS rfl rfl rfl ?_
    refine asS rfl rfl rfl ?_
    refine rNil ?_
    refine qSeq rfl ?_
    refine hRet ?_
    exact fun w hs => ⟨[.slice ay2 ny2 cy2], ⟨rfl, trivial⟩, ⟨(ay2, ny2, cy2, y2), rfl, by dsimp only; omega, hs.pick [0, 0]⟩⟩
theorem spec_l18DrawExchange_c (bk : Nat) (ca : Option Addr) (bs : List Int) (cc : Nat) (w : World) (M0 : Nat → Prop) (hs0 : Sep w M0 [srcP bk ca bs cc] w) (kcode : Kn w M0 [] (CellsAt ca (bs.map (Value.int .u8)))) (hok : okBytes bs) :
  Calls Try.prog 93 #[.pointer (some ⟨bk, 0, none⟩)] w (Ret fun v w' => ∃ x : Option Addr × Nat × Nat × List Int, v = .slice x.1 x.2.1 x.2.2.1 ∧ (x.2.1 ≤ 4) ∧ Sep w M0 [srcP bk ca bs cc, OwnI 2 x.1 x.2.1 x.2.2.1 x.2.2.2] w') := by
 refine fn (M := M0) (rs := [.tmp 2]) Try.func93 rfl Try.ntmps93 rfl rfl hs0 ?_
 refine hSeq ?_
 refine hReg (sq 0 sz) (by kernel_rfl) ?_
 refine asS rfl rfl rfl ?_
 refine rNil ?_
 refine qSeq rfl ?_
 refine hSeq ?_
 refine hReg (sq 0 (sl 1 (sl 2 (sq 3 sz)))) (by kernel_rfl) ?_
 refine mvP rfl rfl rfl ?_
 refine bsl trv1 rfl rfl rfl (bsl23_4 (.int .i64 _) (.int .i64 _) (.int .i64 _) (.int .i64 _) rfl rfl rfl rfl) (fun bkl1 hbkl1 => ?_)
 refine rPieces (L' := [srcP bk ca bs cc, blk bkl1 2 [.int .i64 0, .int .i64 1, .int .i64 2, .int .i64 3]]) (fun _ h => h.perm (pull (i := 1) rfl)) ?_
 refine callMR (α := Option Addr × Nat × Nat × List Int) (Lf := [srcP bk ca bs cc]) (Lr := [blk bkl1 2 [.int .i64 0, .int .i64 1, .int .i64 2, .int .i64 3]]) (good := fun x => x.2.2.2.Perm [0, 1, 2, 3] ∧ x.2.1 = (4)) (φs := fun x => [srcP bk ca bs cc, OwnI 2 x.1 x.2.1 x.2.2.1 x.2.2.2]) (val := fun x => .slice x.1 x.2.1 x.2.2.1) rfl Try.call78 trv1 rfl rfl (fun w M1 hs hk => spec_l02Pick_c bk ca bs cc (some ⟨bkl1, 0, none⟩) 4 4 [0, 1, 2, 3] w M1 hs (hk _ (Kn.nil kcode)) hok (hk _ ((Kn.at_ 0 rfl).imp fun _ h => RdI.lit (zs := [0, 1, 2, 3]) (n := 4) h rfl rfl rfl)) (by first | omega | (simp only [List.length_cons, List.length_nil]; omega))) ?_
 rintro ⟨ay1, ny1, cy1, y1⟩ hr1
 try dsimp only at hr1
 refine rPieces (L' := [srcP bk ca bs cc, OwnI 2 ay1 ny1 cy1 y1, blk bkl1 2 [.int .i64 0, .int .i64 1, .int .i64 2, .int .i64 3]]) (fun _ h => h) ?_
 refine rKnow (fun w hs => (show OwnI 2 ay1 ny1 cy1 y1 w from hs.at_ 1 rfl).lenz) (fun lenn2 => ?_)
 refine rVal (v' := .slice ay1 ny1 cy1) rfl ?_
 refine asS rfl rfl rfl ?_
 refine rNil ?_
 refine qSeq rfl ?_
 refine hSeq ?_
 refine hSeq ?_
 refine hReg (sq 0 (sl 1 sz)) (by kernel_rfl) ?_
 refine mvP rfl rfl rfl ?_
 refine callMK (α := Int) (Lf := [srcP bk ca bs cc]) (Lr := [OwnI 2 ay1 ny1 cy1 y1, blk bkl1 2 [.int .i64 0, .int .i64 1, .int .i64 2, .int .i64 3]]) (good := fun x => 0 ≤ x ∧ (x < (16 : Int) ∨ x = 0)) (φs := fun x => [srcP bk ca bs cc]) (val := fun x => .int .i64 x) rfl Try.call76 trv1 rfl rfl (fun w M1 hs hk => src_next bk ca bs cc (16 : Int) w M1 hs (hk _ kcode) hok) ?_
 intro x2 hx2
 try dsimp only at hx2
 refine rPieces (L' := [srcP bk ca bs cc, OwnI 2 ay1 ny1 cy1 y1, blk bkl1 2 [.int .i64 0, .int .i64 1, .int .i64 2, .int .i64 3]]) (fun _ h => h) ?_
 refine rNil ?_
 refine qSeq rfl ?_
 refine hBlk ?_
 refine hSeq ?_
 refine hReg (sq 0 (sq 1 sz)) (by kernel_rfl) ?_
 refine eql rfl rfl rfl rfl ?_
 refine asB rfl rfl rfl ?_
 refine rNil ?_
 refine qSeq rfl ?_
 refine hIfD rfl (fun c1 => ?_) (fun c1 => ?_)
 ·
  replace c1 : x2 = 0 := c1
  refine hReg (sq 0 (sq 1 (sq 2 (sq 3 (sl 4 (sl 5 (sl 6 (sq 7 (sl 8 sz))))))))) (by kernel_rfl) ?_
  refine mvS rfl rfl rfl ?_
  refine mvP rfl rfl rfl ?_
  refine mvS rfl rfl rfl ?_
  refine ixIl (zn := 1) el23 ((Kn.at_ 1 rfl).imp fun _ h => OwnI.rd h) rfl rfl rfl rfl (by omega) (by omega) rfl ?_
  intro ae3 e3
  refine ldl Try.isAgg2 (e3) trv rfl rfl rfl ?_
  refine bsl trv1 rfl rfl rfl (bsl23_3 (.int .i64 _) (.int .i64 _) (.int .i64 _) rfl rfl rfl) (fun bkl3 hbkl3 => ?_)
  refine rPieces (L' := [srcP bk ca bs cc, blk bkl3 2 [.int .i64 (-1), .int .i64 (y1.getD 1 0), .int .i64 4], OwnI 2 ay1 ny1 cy1 y1, blk bkl1 2 [.int .i64 0, .int .i64 1, .int .i64 2, .int .i64 3]]) (fun _ h => h.perm (pull (i := 1) rfl)) ?_
  refine callMK (α := Int) (Lf := [srcP bk ca bs cc, blk bkl3 2 [.int .i64 (-1), .int .i64 (y1.getD 1 0), .int .i64 4]]) (Lr := [OwnI 2 ay1 ny1 cy1 y1, blk bkl1 2 [.int .i64 0, .int .i64 1, .int .i64 2, .int .i64 3]]) (good := fun x => x ∈ ([.int .i64 (-1), .int .i64 (y1.getD 1 0), .int .i64 4] : List Value).map toI) (φs := fun x => [srcP bk ca bs cc, blk bkl3 2 [.int .i64 (-1), .int .i64 (y1.getD 1 0), .int .i64 4]]) (val := fun x => .int .i64 x) rfl Try.call132 trv1 rfl rfl (fun w M1 hs hk => src_pick bk ca bs cc bkl3 2 3 3 [.int .i64 (-1), .int .i64 (y1.getD 1 0), .int .i64 4] w M1 hs (hk _ kcode) hok rfl rfl (by decide)) ?_
  intro x4 hx4
  try dsimp only at hx4
  refine rPieces (L' := [srcP bk ca bs cc, blk bkl3 2 [.int .i64 (-1), .int .i64 (y1.getD 1 0), .int .i64 4], OwnI 2 ay1 ny1 cy1 y1, blk bkl1 2 [.int .i64 0, .int .i64 1, .int .i64 2, .int .i64 3]]) (fun _ h => h) ?_
  refine oxI (zn := 0) 2 rfl el23 rfl rfl rfl rfl (by omega) (by omega) rfl ?_
  intro gk5 hgk5
  refine stoI (off := 0) (x := x4) 2 rfl hgk5 Try.sizeOf2 trv rfl rfl rfl rfl (by omega) ?_
  refine rNil ?_
  refine qSeq rfl ?_
  refine hSeq ?_
  refine hReg (sq 0 (sq 1 sz)) (by kernel_rfl) ?_
  refine mvS rfl rfl rfl ?_
  refine asS rfl rfl rfl ?_
  refine rNil ?_
  refine qSeq rfl ?_
  refine hRet ?_
  exact fun w hs => ⟨[.slice ay1 ny1 cy1], ⟨rfl, trivial⟩, ⟨(ay1, ny1, cy1, (y1.set 0 x4)), rfl, by dsimp only; omega, hs.pick [0, 1]⟩⟩
 ·
  replace c1 : ¬ (x2 = 0) := c1
  refine hSeq ?_
  refine hReg (sq 0 (sq 1 sz)) (by kernel_rfl) ?_
  refine eql rfl rfl rfl rfl ?_
  refine asB rfl rfl rfl ?_
  refine rNil ?_
  refine qSeq rfl ?_
  refine hIfD rfl (fun c2 => ?_) (fun c2 => ?_)
  ·
   replace c2 : x2 = 1 := c2
   refine hSeq ?_
   refine hReg (sq 0 (sq 1 (sq 2 sz))) (by kernel_rfl) ?_
   refine mvS rfl rfl rfl ?_
   refine slHiO (zn := 3) 1 rfl el23 rfl rfl rfl rfl (by omega) (by omega) rfl (by omega) ?_
   refine asS rfl rfl rfl ?_
   refine rNil ?_
   refine qSeq rfl ?_
   refine hRet ?_
   exact fun w hs => ⟨[.slice ay1 3 cy1], ⟨rfl, trivial⟩, ⟨(ay1, 3, cy1, (y1.take 3)), rfl, by dsimp only; omega, hs.pick [0, 0]⟩⟩
  ·
   replace c2 : ¬ (x2 = 1) := c2
   refine hSkip ?_
   refine qSeq rfl ?_
   refine hSeq ?_
   refine hReg (sq 0 (sq 1 sz)) (by kernel_rfl) ?_
   refine mvS rfl rfl rfl ?_
   refine asS rfl rfl rfl ?_
   refine rNil ?_
   refine qSeq rfl ?_
   refine hRet ?_
   exact fun w hs => ⟨[.slice ay1 ny1 cy1], ⟨rfl, trivial⟩, ⟨(ay1, ny1, cy1, y1), rfl, by dsimp only; omega, hs.pick [0, 0]⟩⟩
theorem spec_l18Draw_c (bk : Nat) (ca : Option Addr) (bs : List Int) (cc : Nat) (w : World) (M0 : Nat → Prop) (hs0 : Sep w M0 [srcP bk ca bs cc] w) (kcode : Kn w M0 [] (CellsAt ca (bs.map (Value.int .u8)))) (hok : okBytes bs) :
  Calls Try.prog 75 #[.pointer (some ⟨bk, 0, none⟩)] w (Ret fun v w' => ∃ x : Option Addr × Nat × Nat × (Nat → Hd) × List (List Int), v = .slice x.1 x.2.1 x.2.2.1 ∧ (x.2.1 ≤ 8) ∧ Sep w M0 [srcP bk ca bs cc, OwnR maK 23 2 x.1 x.2.1 x.2.2.1 x.2.2.2.1 x.2.2.2.2] w') := by
 refine fn (M := M0) (rs := [.tmp 2]) Try.func75 rfl Try.ntmps75 rfl rfl hs0 ?_
 refine hSeq ?_
 refine hReg (sq 0 sz) (by kernel_rfl) ?_
 refine asS rfl rfl rfl ?_
 refine rNil ?_
 refine qSeq rfl ?_
 refine hSeq ?_
 refine hReg (sl 0 (sq 1 sz)) (by kernel_rfl) ?_
 refine bsl trv1 rfl rfl rfl (bsl22_0) (fun bkl1 hbkl1 => ?_)
 refine asS rfl rfl rfl ?_
 refine rNil ?_
 refine qSeq rfl ?_
 refine hSeq ?_
 refine hReg (sl 0 (sq 1 sz)) (by kernel_rfl) ?_
 refine bsl trv1 rfl rfl rfl (bsl23_0) (fun bkl2 hbkl2 => ?_)
 refine asS rfl rfl rfl ?_
 refine rNil ?_
 refine qSeq rfl ?_
 refine hSeq ?_
 refine hSeq ?_
 refine hReg (sq 0 (sl 1 (sq 2 sz))) (by kernel_rfl) ?_
 refine mvP rfl rfl rfl ?_
 refine rPieces (L' := [srcP bk ca bs cc, blk bkl2 2 [], blk bkl1 23 []]) (fun _ h => h.perm (pull (i := 2) rfl)) ?_
 refine callMK (α := Int) (Lf := [srcP bk ca bs cc]) (Lr := [blk bkl2 2 [], blk bkl1 23 []]) (good := fun x => 0 ≤ x ∧ (x < (4 : Int) ∨ x = 0)) (φs := fun x => [srcP bk ca bs cc]) (val := fun x => .int .i64 x) rfl Try.call76 trv1 rfl rfl (fun w M1 hs hk => src_next bk ca bs cc (4 : Int) w M1 hs (hk _ kcode) hok) ?_
 intro x1 hx1
 try dsimp only at hx1
 refine rPieces (L' := [srcP bk ca bs cc, blk bkl2 2 [], blk bkl1 23 []]) (fun _ h => h) ?_
 refine asI rfl rfl rfl ?_
 refine rNil ?_
 refine qSeq rfl ?_
 refine hBlk ?_
 refine hPieces (fun _ h => Sep.litR maK 23 2 (fun _ => (none, 0)) h 2 rfl) ?_
 refine hPieces (fun _ h => Sep.litI h 1 [] rfl rfl rfl) ?_
 refine hLoop (α := Int × Nat × (Hd × (Nat → Hd)) × List (List Int) × Nat × Hd × List Int) (fun x => (0 ≤ x.1 ∧ x.1 ≤ 3) ∧ (x.2.1 : Int) + x.1 ≤ 3 ∧ (x.2.2.2.2.1 : Int) + 60 * x.1 ≤ 180) (fun x => x.1.toNat) (fun x => [srcP bk ca bs cc, OwnI 2 x.2.2.2.2.2.1.1 x.2.2.2.2.1 x.2.2.2.2.2.1.2 x.2.2.2.2.2.2, OwnR maK 23 2 x.2.2.1.1.1 x.2.1 x.2.2.1.1.2 x.2.2.1.2 x.2.2.2.1]) (fun x => [(0, .pointer (some ⟨bk, 0, none⟩)), (3, .slice x.2.2.1.1.1 x.2.1 x.2.2.1.1.2), (4, .slice x.2.2.2.2.2.1.1 x.2.2.2.2.1 x.2.2.2.2.2.1.2), (5, .int .i64 x.1)]) ((x1, 0, (((some ⟨bkl1, 0, none⟩), 0), (fun _ => (none, 0))), [], 0, ((some ⟨bkl2, 0, none⟩), 0), [])) ⟨by dsimp only; omega, by dsimp only; omega, by dsimp only; omega⟩ (fun _ h => h.pick [0, 0, 0]) ⟨rfl, rfl, rfl, rfl, trivial⟩ ?_
 rintro ⟨m, q, hd, o, nr, he, r⟩ τ1 ⟨hm, hq, hnr⟩
 dsimp only at hm hq hnr
 refine hRe [(0, .pointer (some ⟨bk, 0, none⟩)), (3, .slice hd.1.1 q hd.1.2), (4, .slice he.1 nr he.2), (5, .int .i64 m)] [srcP bk ca bs cc, OwnI 2 he.1 nr he.2 r, OwnR maK 23 2 hd.1.1 q hd.1.2 hd.2 o] rfl rfl ?_
 have hor := Iso.others_le r 52
 refine hSeq ?_
 refine hSeq ?_
 refine hReg (sq 0 (sq 1 sz)) (by kernel_rfl) ?_
 refine mvI rfl rfl rfl ?_
 refine gtr rfl rfl rfl rfl ?_
 refine rNil ?_
 refine qSeq rfl ?_
 refine hIfD rfl (fun c1 => ?_) (fun c1 => ?_)
 ·
  replace c1 : 0 < m := c1
  refine hSkip ?_
  refine qSeq rfl ?_
  refine hSeq ?_
  refine hBlk ?_
  refine hSeq ?_
  refine hReg (sq 0 (sq 1 (sl 2 (sq 3 (sq 4 (sl 5 (sq 6 sz))))))) (by kernel_rfl) ?_
  refine mvP rfl rfl rfl ?_
  refine mvP rfl rfl rfl ?_
  refine callMK (α := Int) (Lf := [srcP bk ca bs cc]) (Lr := [OwnI 2 he.1 nr he.2 r, OwnR maK 23 2 hd.1.1 q hd.1.2 hd.2 o]) (good := fun x => 0 ≤ x ∧ (x < (4 : Int) ∨ x = 0)) (φs := fun x => [srcP bk ca bs cc]) (val := fun x => .int .i64 x) rfl Try.call76 trv1 rfl rfl (fun w M1 hs hk => src_next bk ca bs cc (4 : Int) w M1 hs (hk _ kcode) hok) ?_
  intro x2 hx2
  try dsimp only at hx2
  refine rPieces (L' := [srcP bk ca bs cc, OwnI 2 he.1 nr he.2 r, OwnR maK 23 2 hd.1.1 q hd.1.2 hd.2 o]) (fun _ h => h) ?_
  refine add rfl rfl rfl rfl (by omega) ?_
  refine mvS rfl rfl rfl ?_
  refine callMR (α := Option Addr × Nat × Nat × List Int) (Lf := [srcP bk ca bs cc]) (Lr := [OwnI 2 he.1 nr he.2 r, OwnR maK 23 2 hd.1.1 q hd.1.2 hd.2 o]) (good := fun x => (x.2.1 : Int) = max 0 (min (1 + x2) ((Iso.others r 52).length : Int))) (φs := fun x => [srcP bk ca bs cc, OwnI 2 x.1 x.2.1 x.2.2.1 x.2.2.2]) (val := fun x => .slice x.1 x.2.1 x.2.2.1) rfl Try.call122 trv1 rfl rfl (fun w M1 hs hk => spec_l02Deal_c bk ca bs cc (1 + x2) he.1 nr he.2 r w M1 hs (hk _ (Kn.nil kcode)) hok (hk _ ((Kn.at_ 0 rfl).imp fun _ h => OwnI.rd h)) (by omega)) ?_
  rintro ⟨ay3, ny3, cy3, y3⟩ hr3
  try dsimp only at hr3
  refine rPieces (L' := [srcP bk ca bs cc, OwnI 2 ay3 ny3 cy3 y3, OwnI 2 he.1 nr he.2 r, OwnR maK 23 2 hd.1.1 q hd.1.2 hd.2 o]) (fun _ h => h) ?_
  refine rKnow (fun w hs => (show OwnI 2 ay3 ny3 cy3 y3 w from hs.at_ 1 rfl).lenz) (fun lenn3 => ?_)
  refine rVal (v' := .slice ay3 ny3 cy3) rfl ?_
  refine asS rfl rfl rfl ?_
  refine rNil ?_
  refine qSeq rfl ?_
  refine hSeq ?_
  refine hSeq ?_
  refine hReg (sq 0 (sl 1 (sq 2 sz))) (by kernel_rfl) ?_
  refine mvP rfl rfl rfl ?_
  refine callMK (α := Int) (Lf := [srcP bk ca bs cc]) (Lr := [OwnI 2 ay3 ny3 cy3 y3, OwnI 2 he.1 nr he.2 r, OwnR maK 23 2 hd.1.1 q hd.1.2 hd.2 o]) (good := fun x => 0 ≤ x ∧ (x < (4 : Int) ∨ x = 0)) (φs := fun x => [srcP bk ca bs cc]) (val := fun x => .int .i64 x) rfl Try.call76 trv1 rfl rfl (fun w M1 hs hk => src_next bk ca bs cc (4 : Int) w M1 hs (hk _ kcode) hok) ?_
  intro x4 hx4
  try dsimp only at hx4
  refine rPieces (L' := [srcP bk ca bs cc, OwnI 2 ay3 ny3 cy3 y3, OwnI 2 he.1 nr he.2 r, OwnR maK 23 2 hd.1.1 q hd.1.2 hd.2 o]) (fun _ h => h) ?_
  refine gtr rfl rfl rfl rfl ?_
  refine rNil ?_
  refine qSeq rfl ?_
  refine hIfD rfl (fun c2 => ?_) (fun c2 => ?_)
  ·
   replace c2 : 0 < x4 := c2
   refine hReg (sq 0 (sq 1 (sl 2 (sq 3 sz)))) (by kernel_rfl) ?_
   refine mvS rfl rfl rfl ?_
   refine mvS rfl rfl rfl ?_
   refine aplL (N := nr) (ys := y3) 2 rfl ((Kn.at_ 1 rfl).imp fun _ h => OwnI.rd h) mk23 trv1 rfl rfl rfl rfl (by omega) ?_
   intro aq5 cq5
   refine asS rfl rfl rfl ?_
   refine rNil ?_
   refine qSeq rfl ?_
   refine hReg (sq 0 (sq 1 (sl 2 (sl 3 (sq 4 sz))))) (by kernel_rfl) ?_
   refine mvS rfl rfl rfl ?_
   refine mvS rfl rfl rfl ?_
   refine bsl trv1 rfl rfl rfl (bsl22_1 (.slice _ _ _) rfl) (fun bkl4 hbkl4 => ?_)
   refine apR (hd := (ay3, cy3)) (x := y3) 4 2 0 maK.ok rfl rfl rfl (fun h => by first | rfl | (dsimp only at h; rw [h]; rfl) | (rw [h]; rfl) | exact congrArg (fun m => [Value.slice _ m _]) h) mk22 trv1 rfl rfl rfl rfl (by omega) ?_
   intro aq6 cq6
   refine asS rfl rfl rfl ?_
   refine rNil ?_
   refine qSeq rfl ?_
   refine hReg (sq 0 (sq 1 (sq 2 sz))) (by kernel_rfl) ?_
   refine mvI rfl rfl rfl ?_
   refine sub rfl rfl rfl rfl (by omega) ?_
   refine asI rfl rfl rfl ?_
   refine rNil ?_
   exact qNext rfl ((m - 1, (q + 1), ((aq6, cq6), (hset hd.2 o.length (ay3, cy3))), (o ++ [y3]), (nr + ny3), (aq5, cq5), (r ++ y3))) (by dsimp only; omega) ⟨by dsimp only; omega, by dsimp only; omega, by dsimp only; omega⟩ ⟨rfl, rfl, rfl, rfl, trivial⟩ (fun _ h => h.pick [2, 2, 0])
  ·
   replace c2 : ¬ (0 < x4) := c2
   refine hSkip ?_
   refine qSeq rfl ?_
   refine hReg (sq 0 (sq 1 (sl 2 (sl 3 (sq 4 sz))))) (by kernel_rfl) ?_
   refine mvS rfl rfl rfl ?_
   refine mvS rfl rfl rfl ?_
   refine bsl trv1 rfl rfl rfl (bsl22_1 (.slice _ _ _) rfl) (fun bkl5 hbkl5 => ?_)
   refine apR (hd := (ay3, cy3)) (x := y3) 4 2 0 maK.ok rfl rfl rfl (fun h => by first | rfl | (dsimp only at h; rw [h]; rfl) | (rw [h]; rfl) | exact congrArg (fun m => [Value.slice _ m _]) h) mk22 trv1 rfl rfl rfl rfl (by omega) ?_
   intro aq7 cq7
   refine asS rfl rfl rfl ?_
   refine rNil ?_
   refine qSeq rfl ?_
   refine hReg (sq 0 (sq 1 (sq 2 sz))) (by kernel_rfl) ?_
   refine mvI rfl rfl rfl ?_
   refine sub rfl rfl rfl rfl (by omega) ?_
   refine asI rfl rfl rfl ?_
   refine rNil ?_
   exact qNext rfl ((m - 1, (q + 1), ((aq7, cq7), (hset hd.2 o.length (ay3, cy3))), (o ++ [y3]), nr, (he.1, he.2), r)) (by dsimp only; omega) ⟨by dsimp only; omega, by dsimp only; omega, by dsimp only; omega⟩ ⟨rfl, rfl, rfl, rfl, trivial⟩ (fun _ h => h.pick [2, 2, 0])
 ·
  replace c1 : ¬ (0 < m) := c1
  refine hExit rfl ?_
  refine qSeq rfl ?_
  refine hSeq ?_
  refine hSeq ?_
  refine hReg (sq 0 (sl 1 sz)) (by kernel_rfl) ?_
  refine mvP rfl rfl rfl ?_
  refine callMK (α := Int) (Lf := [srcP bk ca bs cc]) (Lr := [OwnI 2 he.1 nr he.2 r, OwnR maK 23 2 hd.1.1 q hd.1.2 hd.2 o]) (good := fun x => 0 ≤ x ∧ (x < (24 : Int) ∨ x = 0)) (φs := fun x => [srcP bk ca bs cc]) (val := fun x => .int .i64 x) rfl Try.call76 trv1 rfl rfl (fun w M1 hs hk => src_next bk ca bs cc (24 : Int) w M1 hs (hk _ kcode) hok) ?_
  intro x8 hx8
  try dsimp only at hx8
  refine rPieces (L' := [srcP bk ca bs cc, OwnI 2 he.1 nr he.2 r, OwnR maK 23 2 hd.1.1 q hd.1.2 hd.2 o]) (fun _ h => h) ?_
  refine rNil ?_
  refine qSeq rfl ?_
  refine hBlk ?_
  refine hSeq ?_
  refine hReg (sq 0 (sq 1 sz)) (by kernel_rfl) ?_
  refine eql rfl rfl rfl rfl ?_
  refine asB rfl rfl rfl ?_
  refine rNil ?_
  refine qSeq rfl ?_
  refine hIfD rfl (fun c3 => ?_) (fun c3 => ?_)
  ·
   replace c3 : x8 = 0 := c3
   refine hReg (sq 0 (sl 1 (sl 2 (sl 3 (sq 4 sz))))) (by kernel_rfl) ?_
   refine mvS rfl rfl rfl ?_
   refine bsl trv1 rfl rfl rfl (bsl23_2 (.int .i64 _) (.int .i64 _) rfl rfl) (fun bkl6 hbkl6 => ?_)
   refine bsl trv1 rfl rfl rfl (bsl22_1 (.slice _ _ _) rfl) (fun bkl7 hbkl7 => ?_)
   refine rPieces (fun _ h => Sep.litI h 1 [5, 5] rfl rfl rfl) ?_
   refine apR (hd := ((some ⟨bkl6, 0, none⟩), 2)) (x := [5, 5]) 4 1 0 maK.ok rfl rfl rfl (fun h => by first | rfl | (dsimp only at h; rw [h]; rfl) | (rw [h]; rfl) | exact congrArg (fun m => [Value.slice _ m _]) h) mk22 trv1 rfl rfl rfl rfl (by omega) ?_
   intro aq9 cq9
   refine asS rfl rfl rfl ?_
   refine rNil ?_
   refine qSeq rfl ?_
   refine hSeq ?_
   refine hReg (sq 0 (sq 1 sz)) (by kernel_rfl) ?_
   refine mvS rfl rfl rfl ?_
   refine asS rfl rfl rfl ?_
   refine rNil ?_
   refine qSeq rfl ?_
   refine hRet ?_
   exact fun w hs => ⟨[.slice aq9 (q + 1) cq9], ⟨rfl, trivial⟩, ⟨(aq9, (q + 1), cq9, (hset hd.2 o.length ((some ⟨bkl6, 0, none⟩), 2)), (o ++ [[5, 5]])), rfl, by dsimp only; omega, hs.pick [2, 0]⟩⟩
  ·
   replace c3 : ¬ (x8 = 0) := c3
   refine hSeq ?_
   refine hReg (sq 0 (sq 1 sz)) (by kernel_rfl) ?_
   refine eql rfl rfl rfl rfl ?_
   refine asB rfl rfl rfl ?_
   refine rNil ?_
   refine qSeq rfl ?_
   refine hIfD rfl (fun c4 => ?_) (fun c4 => ?_)
   ·
    replace c4 : x8 = 1 := c4
    refine hBlk ?_
    refine hLoop (α := Nat × (Hd × (Nat → Hd)) × List (List Int)) (fun x => x.1 ≤ 7) (fun x => 7 - x.1) (fun x => [srcP bk ca bs cc, OwnI 2 he.1 nr he.2 r, OwnR maK 23 2 x.2.1.1.1 x.1 x.2.1.1.2 x.2.1.2 x.2.2]) (fun x => [(0, .pointer (some ⟨bk, 0, none⟩)), (3, .slice x.2.1.1.1 x.1 x.2.1.1.2)]) ((q, ((hd.1.1, hd.1.2), hd.2), o)) (by dsimp only; omega) (fun _ h => h.pick [0, 0, 0]) ⟨rfl, rfl, trivial⟩ ?_
    rintro ⟨q, hd, o⟩ τ2 hq
    dsimp only at hq
    refine hRe [(0, .pointer (some ⟨bk, 0, none⟩)), (3, .slice hd.1.1 q hd.1.2)] [srcP bk ca bs cc, OwnI 2 he.1 nr he.2 r, OwnR maK 23 2 hd.1.1 q hd.1.2 hd.2 o] rfl rfl ?_
    refine hSeq ?_
    refine hSeq ?_
    refine hReg (sq 0 (sq 1 (sq 2 (sl 3 (sq 4 (sq 5 sz)))))) (by kernel_rfl) ?_
    refine mvS rfl rfl rfl ?_
    refine lenS Try.runUnderlying22 rfl rfl rfl ?_
    refine mvP rfl rfl rfl ?_
    refine callMK (α := Int) (Lf := [srcP bk ca bs cc]) (Lr := [OwnI 2 he.1 nr he.2 r, OwnR maK 23 2 hd.1.1 q hd.1.2 hd.2 o]) (good := fun x => 0 ≤ x ∧ (x < (2 : Int) ∨ x = 0)) (φs := fun x => [srcP bk ca bs cc]) (val := fun x => .int .i64 x) rfl Try.call76 trv1 rfl rfl (fun w M1 hs hk => src_next bk ca bs cc (2 : Int) w M1 hs (hk _ kcode) hok) ?_
    intro x10 hx10
    try dsimp only at hx10
    refine rPieces (L' := [srcP bk ca bs cc, OwnI 2 he.1 nr he.2 r, OwnR maK 23 2 hd.1.1 q hd.1.2 hd.2 o]) (fun _ h => h) ?_
    refine add rfl rfl rfl rfl (by omega) ?_
    refine lss rfl rfl rfl rfl ?_
    refine rNil ?_
    refine qSeq rfl ?_
    refine hIfD rfl (fun c5 => ?_) (fun c5 => ?_)
    ·
     replace c5 : (q : Int) < (6 + x10) := c5
     refine hSkip ?_
     refine qSeq rfl ?_
     refine hBlk ?_
     refine hReg (sq 0 (sq 1 (sl 2 (sl 3 (sl 4 (sl 5 (sq 6 sz))))))) (by kernel_rfl) ?_
     refine mvS rfl rfl rfl ?_
     refine mvP rfl rfl rfl ?_
     refine callMK (α := Int) (Lf := [srcP bk ca bs cc]) (Lr := [OwnI 2 he.1 nr he.2 r, OwnR maK 23 2 hd.1.1 q hd.1.2 hd.2 o]) (good := fun x => 0 ≤ x ∧ (x < (52 : Int) ∨ x = 0)) (φs := fun x => [srcP bk ca bs cc]) (val := fun x => .int .i64 x) rfl Try.call76 trv1 rfl rfl (fun w M1 hs hk => src_next bk ca bs cc (52 : Int) w M1 hs (hk _ kcode) hok) ?_
     intro x11 hx11
     try dsimp only at hx11
     refine rPieces (L' := [srcP bk ca bs cc, OwnI 2 he.1 nr he.2 r, OwnR maK 23 2 hd.1.1 q hd.1.2 hd.2 o]) (fun _ h => h) ?_
     refine bsl trv1 rfl rfl rfl (bsl23_1 (.int .i64 _) rfl) (fun bkl8 hbkl8 => ?_)
     refine bsl trv1 rfl rfl rfl (bsl22_1 (.slice _ _ _) rfl) (fun bkl9 hbkl9 => ?_)
     refine rPieces (fun _ h => Sep.litI h 1 [x11] rfl rfl rfl) ?_
     refine apR (hd := ((some ⟨bkl8, 0, none⟩), 1)) (x := [x11]) 4 1 0 maK.ok rfl rfl rfl (fun h => by first | rfl | (dsimp only at h; rw [h]; rfl) | (rw [h]; rfl) | exact congrArg (fun m => [Value.slice _ m _]) h) mk22 trv1 rfl rfl rfl rfl (by omega) ?_
     intro aq12 cq12
     refine asS rfl rfl rfl ?_
     refine rNil ?_
     exact qNext rfl (((q + 1), ((aq12, cq12), (hset hd.2 o.length ((some ⟨bkl8, 0, none⟩), 1))), (o ++ [[x11]]))) (by dsimp only; omega) (by dsimp only; omega) ⟨rfl, rfl, trivial⟩ (fun _ h => h.pick [2, 2, 0])
    ·
     replace c5 : ¬ ((q : Int) < (6 + x10)) := c5
     refine hExit rfl ?_
     refine qSeq rfl ?_
     refine hSeq ?_
     refine hReg (sq 0 (sq 1 sz)) (by kernel_rfl) ?_
     refine mvS rfl rfl rfl ?_
     refine asS rfl rfl rfl ?_
     refine rNil ?_
     refine qSeq rfl ?_
     refine hRet ?_
     exact fun w hs => ⟨[.slice hd.1.1 q hd.1.2], ⟨rfl, trivial⟩, ⟨(hd.1.1, q, hd.1.2, hd.2, o), rfl, by dsimp only; omega, hs.pick [0, 1]⟩⟩
   ·
    replace c4 : ¬ (x8 = 1) := c4
    refine hSeq ?_
    refine hReg (sq 0 (sq 1 sz)) (by kernel_rfl) ?_
    refine eql rfl rfl rfl rfl ?_
    refine asB rfl rfl rfl ?_
    refine rNil ?_
    refine qSeq rfl ?_
    refine hIfD rfl (fun c6 => ?_) (fun c6 => ?_)
    ·
     replace c6 : x8 = 2 := c6
     refine hReg (sq 0 (sl 1 (sl 2 (sq 3 sz)))) (by kernel_rfl) ?_
     refine mvS rfl rfl rfl ?_
     refine bsl trv1 rfl rfl rfl (bsl22_1 (.slice _ _ _) rfl) (fun bkl10 hbkl10 => ?_)
     refine rPieces (fun _ h => Sep.nilI 2 h) ?_
     refine apR (hd := (none, 0)) (x := []) 4 0 1 maK.ok rfl rfl rfl (fun h => by first | rfl | (dsimp only at h; rw [h]; rfl) | (rw [h]; rfl) | exact congrArg (fun m => [Value.slice _ m _]) h) mk22 trv1 rfl rfl rfl rfl (by omega) ?_
     intro aq13 cq13
     refine asS rfl rfl rfl ?_
     refine rNil ?_
     refine qSeq rfl ?_
     refine hSeq ?_
     refine hReg (sq 0 (sq 1 sz)) (by kernel_rfl) ?_
     refine mvS rfl rfl rfl ?_
     refine asS rfl rfl rfl ?_
     refine rNil ?_
     refine qSeq rfl ?_
     refine hRet ?_
     exact fun w hs => ⟨[.slice aq13 (q + 1) cq13], ⟨rfl, trivial⟩, ⟨(aq13, (q + 1), cq13, (hset hd.2 o.length (none, 0)), (o ++ [[]])), rfl, by dsimp only; omega, hs.pick [2, 0]⟩⟩
    ·
     replace c6 : ¬ (x8 = 2) := c6
     refine hSkip ?_
     refine qSeq rfl ?_
     refine hSeq ?_
     refine hReg (sq 0 (sq 1 sz)) (by kernel_rfl) ?_
     refine mvS rfl rfl rfl ?_
     refine asS rfl rfl rfl ?_
     refine rNil ?_
     refine qSeq rfl ?_
     refine hRet ?_
     exact fun w hs => ⟨[.slice hd.1.1 q hd.1.2], ⟨rfl, trivial⟩, ⟨(hd.1.1, q, hd.1.2, hd.2, o), rfl, by dsimp only; omega, hs.pick [0, 1]⟩⟩
theorem spec_DrawFixingExchanges_c (ca : Option Addr) (bs : List Int) (cc : Nat) (w : World) (rcode : CellsAt ca (bs.map (Value.int .u8)) w) (hok : okBytes bs) :
  Calls Try.prog 39 #[.slice ca bs.length cc] w (Ret fun v w' => ∃ x : Option Addr × Nat × Nat × (Nat → Hd) × List (List Int), v = .slice x.1 x.2.1 x.2.2.1 ∧ (x.2.1 ≤ 8) ∧ Sep w none_ [OwnR maK 23 2 x.1 x.2.1 x.2.2.1 x.2.2.2.1 x.2.2.2.2] w') := by
 have kcode : Kn w none_ [] (CellsAt ca (bs.map (Value.int .u8))) := fun w' hs => rcode.ext hs.upd
 refine fn (M := none_) (rs := [.tmp 2]) Try.func39 rfl Try.ntmps39 rfl rfl (Sep.start _ _) ?_
 refine hSeq ?_
 refine hReg (sq 0 sz) (by kernel_rfl) ?_
 refine asS rfl rfl rfl ?_
 refine rNil ?_
 refine qSeq rfl ?_
 refine hSeq ?_
 refine hReg (sq 0 (sl 1 (sl 2 (sq 3 sz)))) (by kernel_rfl) ?_
 refine mvS rfl rfl rfl ?_
 refine callN (α := Nat) (val := fun x => .pointer (some ⟨x, 0, none⟩)) (good := fun _ => True) (φ := fun x => srcP x ca bs cc) Try.call74 trv1 rfl rfl (fun w hs => (l01From_c ca bs cc w (kcode w (hs.sub (List.nil_sublist _))) hok).mono fun e w1 ⟨v, h0, bk, h1, h2, h3, h4⟩ => ⟨v, h0, bk, h1, trivial, h3, h4⟩) ?_
 rintro bks1 -
 refine callMK (α := Option Addr × Nat × Nat × (Nat → Hd) × List (List Int)) (Lf := [srcP bks1 ca bs cc]) (Lr := []) (good := fun x => x.2.1 ≤ 8) (φs := fun x => [srcP bks1 ca bs cc, OwnR maK 23 2 x.1 x.2.1 x.2.2.1 x.2.2.2.1 x.2.2.2.2]) (val := fun x => .slice x.1 x.2.1 x.2.2.1) rfl Try.call75 trv1 rfl rfl (fun w M1 hs hk => spec_l18Draw_c bks1 ca bs cc  w M1 hs (hk _ kcode) hok ) ?_
 rintro ⟨ay1, ny1, cy1, Hy1, y1⟩ hr1
 try dsimp only at hr1
 refine rPieces (L' := [srcP bks1 ca bs cc, OwnR maK 23 2 ay1 ny1 cy1 Hy1 y1]) (fun _ h => h) ?_
 refine rKnow (fun w hs => (show OwnR maK 23 2 ay1 ny1 cy1 Hy1 y1 w from hs.at_ 1 rfl).1) (fun lenn2 => ?_)
 refine asS rfl rfl rfl ?_
 refine rNil ?_
 refine qSeq rfl ?_
 refine hRet ?_
 exact fun w hs => ⟨[.slice ay1 ny1 cy1], ⟨rfl, trivial⟩, ⟨(ay1, ny1, cy1, Hy1, y1), rfl, by dsimp only; omega, hs.pick [1]⟩⟩
theorem spec_DrawExchangeCards_c (ca : Option Addr) (bs : List Int) (cc : Nat) (w : World) (rcode : CellsAt ca (bs.map (Value.int .u8)) w) (hok : okBytes bs) :
  Calls Try.prog 42 #[.slice ca bs.length cc] w (Ret fun v w' => ∃ x : Option Addr × Nat × Nat × List Int × Option Addr × Nat × Nat × List Int, v = .tuple #[.slice x.1 x.2.1 x.2.2.1, .slice x.2.2.2.2.1 x.2.2.2.2.2.1 x.2.2.2.2.2.2.1] ∧ (x.2.1 ≤ 60 ∧ x.2.2.2.2.2.1 ≤ 4) ∧ Sep w none_ [OwnI 2 x.1 x.2.1 x.2.2.1 x.2.2.2.1, OwnI 2 x.2.2.2.2.1 x.2.2.2.2.2.1 x.2.2.2.2.2.2.1 x.2.2.2.2.2.2.2] w') := by
 have kcode : Kn w none_ [] (CellsAt ca (bs.map (Value.int .u8))) := fun w' hs => rcode.ext hs.upd
 refine fn (M := none_) (rs := [.tmp 2, .tmp 3]) Try.func42 rfl Try.ntmps42 rfl rfl (Sep.start _ _) ?_
 refine hSeq ?_
 refine hReg (sq 0 (sq 1 sz)) (by kernel_rfl) ?_
 refine asS rfl rfl rfl ?_
 refine asS rfl rfl rfl ?_
 refine rNil ?_
 refine qSeq rfl ?_
 refine hSeq ?_
 refine hReg (sq 0 (sl 1 (sq 2 sz))) (by kernel_rfl) ?_
 refine mvS rfl rfl rfl ?_
 refine callN (α := Nat) (val := fun x => .pointer (some ⟨x, 0, none⟩)) (good := fun _ => True) (φ := fun x => srcP x ca bs cc) Try.call74 trv1 rfl rfl (fun w hs => (l01From_c ca bs cc w (kcode w (hs.sub (List.nil_sublist _))) hok).mono fun e w1 ⟨v, h0, bk, h1, h2, h3, h4⟩ => ⟨v, h0, bk, h1, trivial, h3, h4⟩) ?_
 rintro bks1 -
 refine asn rfl rfl rfl ?_
 refine rNil ?_
 refine qSeq rfl ?_
 refine hSeq ?_
 refine hReg (sq 0 (sl 1 (sq 2 sz))) (by kernel_rfl) ?_
 refine mvP rfl rfl rfl ?_
 refine callMK (α := Option Addr × Nat × Nat × List Int) (Lf := [srcP bks1 ca bs cc]) (Lr := []) (good := fun x => x.2.1 ≤ 60) (φs := fun x => [srcP bks1 ca bs cc, OwnI 2 x.1 x.2.1 x.2.2.1 x.2.2.2]) (val := fun x => .slice x.1 x.2.1 x.2.2.1) rfl Try.call92 trv1 rfl rfl (fun w M1 hs hk => spec_l02DrawList_c bks1 ca bs cc (7 : Int) w M1 hs (hk _ kcode) hok (by omega)) ?_
 rintro ⟨ay1, ny1, cy1, y1⟩ hr1
 try dsimp only at hr1
 refine rPieces (L' := [srcP bks1 ca bs cc, OwnI 2 ay1 ny1 cy1 y1]) (fun _ h => h) ?_
 refine rKnow (fun w hs => (show OwnI 2 ay1 ny1 cy1 y1 w from hs.at_ 1 rfl).lenz) (fun lenn2 => ?_)
 refine asS rfl rfl rfl ?_
 refine rNil ?_
 refine qSeq rfl ?_
 refine hSeq ?_
 refine hReg (sq 0 (sq 1 (sl 2 (sq 3 (sq 4 sz))))) (by kernel_rfl) ?_
 refine mvS rfl rfl rfl ?_
 refine mvP rfl rfl rfl ?_
 refine callMK (α := Option Addr × Nat × Nat × List Int) (Lf := [srcP bks1 ca bs cc]) (Lr := [OwnI 2 ay1 ny1 cy1 y1]) (good := fun x => x.2.1 ≤ 4) (φs := fun x => [srcP bks1 ca bs cc, OwnI 2 x.1 x.2.1 x.2.2.1 x.2.2.2]) (val := fun x => .slice x.1 x.2.1 x.2.2.1) rfl Try.call93 trv1 rfl rfl (fun w M1 hs hk => spec_l18DrawExchange_c bks1 ca bs cc  w M1 hs (hk _ kcode) hok ) ?_
 rintro ⟨ay2, ny2, cy2, y2⟩ hr2
 try dsimp only at hr2
 refine rPieces (L' := [srcP bks1 ca bs cc, OwnI 2 ay2 ny2 cy2 y2, OwnI 2 ay1 ny1 cy1 y1]) (fun _ h => h) ?_
 refine rKnow (fun w hs => (show OwnI 2 ay2 ny2 cy2 y2 w from hs.at_ 1 rfl).lenz) (fun lenn3 => ?_)
 refine asS rfl rfl rfl ?_
 refine asS rfl rfl rfl ?_
 refine rNil ?_
 refine qSeq rfl ?_
 refine hRet ?_
 exact fun w hs => ⟨[.slice ay1 ny1 cy1, .slice ay2 ny2 cy2], ⟨rfl, ⟨rfl, trivial⟩⟩, ⟨(ay1, ny1, cy1, y1, ay2, ny2, cy2, y2), rfl, ⟨by dsimp only; omega, by dsimp only; omega⟩, hs.pick [2, 1]⟩⟩
end Go.Proofs.Yteaahdakammffaa
