/- Contracts of games that laws draw. Their conditions stand in each. -/
import Derived.Test.YtjengglpbdgmnaaDoorZ7Bt
import Derived.Test.YtjengglpbdgmnaaDoorZ1Bt
import Derived.Test.YtjengglpbdgmnaaDoorZ2Bt
import Derived.Test.YtjengglpbdgmnaaDoorZ3Bt
import Derived.Test.YtjengglpbdgmnaaDoorZ4Bt
import Derived.Test.YtjengglpbdgmnaaDoorZ5Bt
import Derived.Test.YtjengglpbdgmnaaDoorZ6Bt
import Derived.Test.YtjengglpbdgmnaaDoorRows
import Derived.Shelf.Strconv.Itoa0
import Derived.Shelf.Strconv.Itoa1
import Derived.Shelf.LaysM
import Derived.Shelf.Strconv.Itoa2
import Derived.Shelf.Strconv.Itoa3
import Derived.Shelf.Strconv.Itoa4
import Derived.Test.YtjengglpbdgmnaaDoorProg
import Derived.Laws.Concat
import Derived.Laws.Strings
import Derived.Laws.BytesArg
import Derived.Lib.LaidTab
import Derived.WalkSmall
namespace Go.Proofs.YtjengglpbdgmnaaDoor
open Go Go.RowKit V
set_option linter.unusedVariables false
set_option linter.unusedSimpArgs false
set_option maxRecDepth 100000
theorem laws_likeTrees_c (az : Option Addr) (nz : Nat) (cz : Nat) (Hz : Nat → Hd) (z : List Nd) (ay : Option Addr) (ny : Nat) (cy : Nat) (Hy : Nat → Hd) (y : List Nd) (w : World) (rz : RdR ndK az nz Hz z w) (ry : RdR ndK ay ny Hy y w) (heq : z = y) :
  Calls Tryd.prog 20 #[.agg #[.slice az nz cz], .agg #[.slice ay ny cy]] w (Ret fun v w' => v = .bool true ∧ Ext w w') := by
 have kz : Kn w none_ [] (RdR ndK az nz Hz z) := fun w' hs => rz.ext hs.upd
 have lz : z.length = nz := rz.1
 have mz : nz ≤ 9223372036854775807 := rz.2.1
 have ky : Kn w none_ [] (RdR ndK ay ny Hy y) := fun w' hs => ry.ext hs.upd
 have ly : y.length = ny := ry.1
 have my : ny ≤ 9223372036854775807 := ry.2.1
 have ly2 : y.length = nz := by rw [← heq]; exact lz
 refine fn (M := none_) (rs := [.tmp 4]) Tryd.func20 rfl Tryd.ntmps20 rfl rfl (Sep.start _ _) ?_
 refine hSeq ?_
 refine hReg (sl 0 (sl 1 (sq 2 sz))) (by kernel_rfl) ?_
 refine box trv1 rfl rfl rfl rfl (fun bkb1 hbkb1 => ?_)
 refine box trv1 rfl rfl rfl rfl (fun bkb2 hbkb2 => ?_)
 refine asB rfl rfl rfl ?_
 refine rNil ?_
 refine qSeq rfl ?_
 refine hSeq ?_
 refine hSeq ?_
 refine hReg (sq 0 (sl 1 (sq 2 (sq 3 (sl 4 (sq 5 (sq 6 sz))))))) (by kernel_rfl) ?_
 refine fld fl26_0 rfl rfl rfl ?_
 refine ldl Tryd.isAgg24 (cB 1 rfl rfl) trv rfl rfl rfl ?_
 refine lenS Tryd.runUnderlying24 rfl rfl rfl ?_
 refine fld fl26_0 rfl rfl rfl ?_
 refine ldl Tryd.isAgg24 (cB 0 rfl rfl) trv rfl rfl rfl ?_
 refine lenS Tryd.runUnderlying24 rfl rfl rfl ?_
 refine neq rfl rfl rfl rfl ?_
 refine rNil ?_
 refine qSeq rfl ?_
 refine hIfD rfl (fun c1 => ?_) (fun c1 => ?_)
 ·
  replace c1 : (nz : Int) ≠ (ny : Int) := c1
  exact absurd c1 (by omega)
 ·
  replace c1 : ¬ ((nz : Int) ≠ (ny : Int)) := c1
  refine hSkip ?_
  refine qSeq rfl ?_
  refine hSeq ?_
  refine hSeq ?_
  refine hReg (sq 0 sz) (by kernel_rfl) ?_
  refine asI rfl rfl rfl ?_
  refine rNil ?_
  refine qSeq rfl ?_
  refine hBlk ?_
  refine hLoop (α := Nat) (fun i => i ≤ nz) (fun i => nz - i) (fun i => [blk bkb2 26 [.slice ay ny cy], blk bkb1 26 [.slice az nz cz]]) (fun i => [(2, .pointer (some ⟨bkb1, 0, none⟩)), (3, .pointer (some ⟨bkb2, 0, none⟩)), (5, .int .i64 (i : Int))]) 0 (Nat.zero_le _) (fun _ h => h.pick [0, 0]) ⟨rfl, rfl, rfl, trivial⟩ ?_
  rintro i τ1 hi
  refine hSeq ?_
  refine hSeq ?_
  refine hReg (sq 0 (sq 1 (sl 2 (sq 3 (sq 4 sz))))) (by kernel_rfl) ?_
  refine mvI rfl rfl rfl ?_
  refine fld fl26_0 rfl rfl rfl ?_
  refine ldl Tryd.isAgg24 (cB 1 rfl rfl) trv rfl rfl rfl ?_
  refine lenS Tryd.runUnderlying24 rfl rfl rfl ?_
  refine lss rfl rfl rfl rfl ?_
  refine rNil ?_
  refine qSeq rfl ?_
  refine hIfD rfl (fun c2 => ?_) (fun c2 => ?_)
  ·
   replace c2 : (i : Int) < (nz : Int) := c2
   refine hSkip ?_
   refine qSeq rfl ?_
   refine hSeq ?_
   refine hBlk ?_
   refine hSeq ?_
   refine hDraw (Ls := [blk bkb2 26 [.slice ay ny cy], blk bkb1 26 [.slice az nz cz]]) (by kernel_rfl) (sq 0 (sq 1 (sq 2 (sq 3 (sq 4 (sq 5 (sq 6 (sq 7 (sq 8 (sq 9 (.alt (sl 10 (sl 11 (sl 12 (sf 13 sz)))) (sl 11 (sl 10 (sl 12 (sf 13 sz))))))))))))))) (by kernel_rfl) (.cons_cons _ (.cons_cons _ .slnil)) ?_
   refine fld fl26_0 rfl rfl rfl ?_
   refine ldq Tryd.isAgg24 (cB 1 rfl rfl) rfl rfl rfl ?_
   refine mvI rfl rfl rfl ?_
   refine ixRq (zn := i) (z.getD i dN) el24 (Kn.drop (k := 2) kz) (fun _ h => h.pick [0, 0]) rfl rfl rfl rfl (by omega) (by omega) rfl (nth dN (by omega)) ?_
   intro be1 oe1 e1
   refine ldAq Tryd.isAgg52 Tryd.sizeOf52 (e1) rfl rfl rfl rfl ?_
   refine fld fl26_0 rfl rfl rfl ?_
   refine ldq Tryd.isAgg24 (cB 0 rfl rfl) rfl rfl rfl ?_
   refine mvI rfl rfl rfl ?_
   refine ixRq (zn := i) (y.getD i dN) el24 (Kn.drop (k := 2) ky) (fun _ h => h.pick [0, 0]) rfl rfl rfl rfl (by omega) (by omega) rfl (nth dN (by omega)) ?_
   intro be2 oe2 e2
   refine ldAq Tryd.isAgg52 Tryd.sizeOf52 (e2) rfl rfl rfl rfl ?_
   refine rAlt ?_ ?_
   ·
    refine alc Tryd.zeroValue52 rfl (fun _ _ h => h.pick [1, 1]) rfl rfl (fun bka3 hbka3 => ?_)
    refine alc Tryd.zeroValue52 rfl (fun _ _ h => h.pick [2, 2]) rfl rfl (fun bka4 hbka4 => ?_)
    refine stAl (vs := [.int .i64 ((z.getD i dN).pl), .int .i64 ((z.getD i dN).p0), .int .i64 ((z.getD i dN).p1), .int .i64 ((z.getD i dN).fo), .slice ((Hz i).1) (((z.getD i dN).ch).length) ((Hz i).2)]) 1 rfl Tryd.sizeOf52 (fun _ h => h.pick [2, 2]) rfl rfl rfl rfl rfl (by simp [Value.oneCell']) rfl ?_
    refine stAf (vs := [.int .i64 ((y.getD i dN).pl), .int .i64 ((y.getD i dN).p0), .int .i64 ((y.getD i dN).p1), .int .i64 ((y.getD i dN).fo), .slice ((Hy i).1) (((y.getD i dN).ch).length) ((Hy i).2)]) 0 rfl Tryd.sizeOf52 rfl rfl rfl rfl rfl (by simp [Value.oneCell']) rfl ?_
    refine rNil ?_
    refine qSeq rfl ?_
    refine hSeq ?_
    refine hReg (sq 0 (sl 1 (sq 2 (sl 3 (sq 4 (sq 5 (sq 6 (sl 7 (sq 8 (sl 9 (sq 10 (sq 11 (sq 12 (sq 13 (sl 14 (sq 15 (sl 16 (sq 17 (sq 18 (sq 19 (sq 20 (sl 21 (sq 22 (sl 23 (sq 24 (sq 25 (sq 26 (sq 27 (sl 28 (sq 29 (sl 30 (sl 31 (sq 32 (sq 33 sz)))))))))))))))))))))))))))))))))) (by kernel_rfl) ?_
    refine fld fl52_0 rfl rfl rfl ?_
    refine ldl Tryd.isAgg2 (cB 1 rfl rfl) trv rfl rfl rfl ?_
    refine fld fl52_0 rfl rfl rfl ?_
    refine ldl Tryd.isAgg2 (cB 0 rfl rfl) trv rfl rfl rfl ?_
    refine neq rfl rfl rfl rfl ?_
    refine mvB rfl rfl rfl ?_
    refine rBoolD (d := 37) rfl (fun g3 => ?_) (fun g3 => ?_)
    ·
     replace g3 : (z.getD i dN).pl ≠ (y.getD i dN).pl := g3
     exact absurd (by rw [heq]) g3
    ·
     replace g3 : ¬ ((z.getD i dN).pl ≠ (y.getD i dN).pl) := g3
     refine fld fl52_1 rfl rfl rfl ?_
     refine ldl Tryd.isAgg2 (cB 1 rfl rfl) trv rfl rfl rfl ?_
     refine fld fl52_1 rfl rfl rfl ?_
     refine ldl Tryd.isAgg2 (cB 0 rfl rfl) trv rfl rfl rfl ?_
     refine neq rfl rfl rfl rfl ?_
     refine pickB rfl rfl rfl rfl ?_
     refine mvB rfl rfl rfl ?_
     refine rBoolD (d := 44) rfl (fun g4 => ?_) (fun g4 => ?_)
     ·
      replace g4 : (z.getD i dN).p0 ≠ (y.getD i dN).p0 := g4
      exact absurd (by rw [heq]) g4
     ·
      replace g4 : ¬ ((z.getD i dN).p0 ≠ (y.getD i dN).p0) := g4
      refine fld fl52_2 rfl rfl rfl ?_
      refine ldl Tryd.isAgg2 (cB 1 rfl rfl) trv rfl rfl rfl ?_
      refine fld fl52_2 rfl rfl rfl ?_
      refine ldl Tryd.isAgg2 (cB 0 rfl rfl) trv rfl rfl rfl ?_
      refine neq rfl rfl rfl rfl ?_
      refine pickB rfl rfl rfl rfl ?_
      refine mvB rfl rfl rfl ?_
      refine rBoolD (d := 51) rfl (fun g5 => ?_) (fun g5 => ?_)
      ·
       replace g5 : (z.getD i dN).p1 ≠ (y.getD i dN).p1 := g5
       exact absurd (by rw [heq]) g5
      ·
       replace g5 : ¬ ((z.getD i dN).p1 ≠ (y.getD i dN).p1) := g5
       refine fld fl52_3 rfl rfl rfl ?_
       refine ldl Tryd.isAgg2 (cB 1 rfl rfl) trv rfl rfl rfl ?_
       refine fld fl52_3 rfl rfl rfl ?_
       refine ldl Tryd.isAgg2 (cB 0 rfl rfl) trv rfl rfl rfl ?_
       refine neq rfl rfl rfl rfl ?_
       refine pickB rfl rfl rfl rfl ?_
       refine mvB rfl rfl rfl ?_
       refine rBoolD (d := 58) rfl (fun g6 => ?_) (fun g6 => ?_)
       ·
        replace g6 : (z.getD i dN).fo ≠ (y.getD i dN).fo := g6
        exact absurd (by rw [heq]) g6
       ·
        replace g6 : ¬ ((z.getD i dN).fo ≠ (y.getD i dN).fo) := g6
        refine fld fl52_4 rfl rfl rfl ?_
        refine ldl Tryd.isAgg50 (cB 1 rfl rfl) trv rfl rfl rfl ?_
        refine fld fl52_4 rfl rfl rfl ?_
        refine ldl Tryd.isAgg50 (cB 0 rfl rfl) trv rfl rfl rfl ?_
        refine callP (v := .bool true) Tryd.call51 trv rfl rfl (fun w hs => laws_likeInts_c _ _ _ _ _ _ _ _ w (Kn.drop (k := 4) ((Kn.imp kz fun _ h => h.kidN (nth dN (by omega)))) w hs) (Kn.drop (k := 4) ((Kn.imp ky fun _ h => h.kidN (nth dN (by omega)))) w hs) (by rw [heq])) ?_
        refine not rfl rfl rfl ?_
        refine pickB rfl rfl rfl rfl ?_
        refine rNil ?_
        refine qSeq rfl ?_
        refine hIfF rfl ?_
        refine hSkip ?_
        refine qSeq rfl ?_
        refine hReg (sq 0 (sq 1 (sq 2 sz))) (by kernel_rfl) ?_
        refine mvI rfl rfl rfl ?_
        refine add rfl rfl rfl rfl (by omega) ?_
        refine asI rfl rfl rfl ?_
        refine rNil ?_
        exact qNext rfl (i + 1) (by omega) (by omega) ⟨rfl, rfl, rfl, trivial⟩ (fun _ h => h.pick [2, 2])
   ·
    refine alc Tryd.zeroValue52 rfl (fun _ _ h => h.pick [1, 1]) rfl rfl (fun bka5 hbka5 => ?_)
    refine alc Tryd.zeroValue52 rfl (fun _ _ h => h.pick [2, 2]) rfl rfl (fun bka6 hbka6 => ?_)
    refine stAl (vs := [.int .i64 ((z.getD i dN).pl), .int .i64 ((z.getD i dN).p0), .int .i64 ((z.getD i dN).p1), .int .i64 ((z.getD i dN).fo), .slice ((Hz i).1) (((z.getD i dN).ch).length) ((Hz i).2)]) 0 rfl Tryd.sizeOf52 (fun _ h => h.pick [2, 2]) rfl rfl rfl rfl rfl (by simp [Value.oneCell']) rfl ?_
    refine stAf (vs := [.int .i64 ((y.getD i dN).pl), .int .i64 ((y.getD i dN).p0), .int .i64 ((y.getD i dN).p1), .int .i64 ((y.getD i dN).fo), .slice ((Hy i).1) (((y.getD i dN).ch).length) ((Hy i).2)]) 1 rfl Tryd.sizeOf52 rfl rfl rfl rfl rfl (by simp [Value.oneCell']) rfl ?_
    refine rNil ?_
    refine qSeq rfl ?_
    refine hSeq ?_
    refine hReg (sq 0 (sl 1 (sq 2 (sl 3 (sq 4 (sq 5 (sq 6 (sl 7 (sq 8 (sl 9 (sq 10 (sq 11 (sq 12 (sq 13 (sl 14 (sq 15 (sl 16 (sq 17 (sq 18 (sq 19 (sq 20 (sl 21 (sq 22 (sl 23 (sq 24 (sq 25 (sq 26 (sq 27 (sl 28 (sq 29 (sl 30 (sl 31 (sq 32 (sq 33 sz)))))))))))))))))))))))))))))))))) (by kernel_rfl) ?_
    refine fld fl52_0 rfl rfl rfl ?_
    refine ldl Tryd.isAgg2 (cB 0 rfl rfl) trv rfl rfl rfl ?_
    refine fld fl52_0 rfl rfl rfl ?_
    refine ldl Tryd.isAgg2 (cB 1 rfl rfl) trv rfl rfl rfl ?_
    refine neq rfl rfl rfl rfl ?_
    refine mvB rfl rfl rfl ?_
    refine rBoolD (d := 37) rfl (fun g7 => ?_) (fun g7 => ?_)
    ·
     replace g7 : (z.getD i dN).pl ≠ (y.getD i dN).pl := g7
     exact absurd (by rw [heq]) g7
    ·
     replace g7 : ¬ ((z.getD i dN).pl ≠ (y.getD i dN).pl) := g7
     refine fld fl52_1 rfl rfl rfl ?_
     refine ldl Tryd.isAgg2 (cB 0 rfl rfl) trv rfl rfl rfl ?_
     refine fld fl52_1 rfl rfl rfl ?_
     refine ldl Tryd.isAgg2 (cB 1 rfl rfl) trv rfl rfl rfl ?_
     refine neq rfl rfl rfl rfl ?_
     refine pickB rfl rfl rfl rfl ?_
     refine mvB rfl rfl rfl ?_
     refine rBoolD (d := 44) rfl (fun g8 => ?_) (fun g8 => ?_)
     ·
      replace g8 : (z.getD i dN).p0 ≠ (y.getD i dN).p0 := g8
      exact absurd (by rw [heq]) g8
     ·
      replace g8 : ¬ ((z.getD i dN).p0 ≠ (y.getD i dN).p0) := g8
      refine fld fl52_2 rfl rfl rfl ?_
      refine ldl Tryd.isAgg2 (cB 0 rfl rfl) trv rfl rfl rfl ?_
      refine fld fl52_2 rfl rfl rfl ?_
      refine ldl Tryd.isAgg2 (cB 1 rfl rfl) trv rfl rfl rfl ?_
      refine neq rfl rfl rfl rfl ?_
      refine pickB rfl rfl rfl rfl ?_
      refine mvB rfl rfl rfl ?_
      refine rBoolD (d := 51) rfl (fun g9 => ?_) (fun g9 => ?_)
      ·
       replace g9 : (z.getD i dN).p1 ≠ (y.getD i dN).p1 := g9
       exact absurd (by rw [heq]) g9
      ·
       replace g9 : ¬ ((z.getD i dN).p1 ≠ (y.getD i dN).p1) := g9
       refine fld fl52_3 rfl rfl rfl ?_
       refine ldl Tryd.isAgg2 (cB 0 rfl rfl) trv rfl rfl rfl ?_
       refine fld fl52_3 rfl rfl rfl ?_
       refine ldl Tryd.isAgg2 (cB 1 rfl rfl) trv rfl rfl rfl ?_
       refine neq rfl rfl rfl rfl ?_
       refine pickB rfl rfl rfl rfl ?_
       refine mvB rfl rfl rfl ?_
       refine rBoolD (d := 58) rfl (fun g10 => ?_) (fun g10 => ?_)
       ·
        replace g10 : (z.getD i dN).fo ≠ (y.getD i dN).fo := g10
        exact absurd (by rw [heq]) g10
       ·
        replace g10 : ¬ ((z.getD i dN).fo ≠ (y.getD i dN).fo) := g10
        refine fld fl52_4 rfl rfl rfl ?_
        refine ldl Tryd.isAgg50 (cB 0 rfl rfl) trv rfl rfl rfl ?_
        refine fld fl52_4 rfl rfl rfl ?_
        refine ldl Tryd.isAgg50 (cB 1 rfl rfl) trv rfl rfl rfl ?_
        refine callP (v := .bool true) Tryd.call51 trv rfl rfl (fun w hs => laws_likeInts_c _ _ _ _ _ _ _ _ w (Kn.drop (k := 4) ((Kn.imp kz fun _ h => h.kidN (nth dN (by omega)))) w hs) (Kn.drop (k := 4) ((Kn.imp ky fun _ h => h.kidN (nth dN (by omega)))) w hs) (by rw [heq])) ?_
        refine not rfl rfl rfl ?_
        refine pickB rfl rfl rfl rfl ?_
        refine rNil ?_
        refine qSeq rfl ?_
        refine hIfF rfl ?_
        refine hSkip ?_
        refine qSeq rfl ?_
        refine hReg (sq 0 (sq 1 (sq 2 sz))) (by kernel_rfl) ?_
        refine mvI rfl rfl rfl ?_
        refine add rfl rfl rfl rfl (by omega) ?_
        refine asI rfl rfl rfl ?_
        refine rNil ?_
        exact qNext rfl (i + 1) (by omega) (by omega) ⟨rfl, rfl, rfl, trivial⟩ (fun _ h => h.pick [2, 2])
  ·
   replace c2 : ¬ ((i : Int) < (nz : Int)) := c2
   refine hExit rfl ?_
   refine qSeq rfl ?_
   refine hSeq ?_
   refine hReg (sq 0 sz) (by kernel_rfl) ?_
   refine asB rfl rfl rfl ?_
   refine rNil ?_
   refine qSeq rfl ?_
   refine hRet ?_
   exact fun w hs => ⟨[.bool true], ⟨rfl, trivial⟩, ⟨by first | rfl | exact bD (by omega) | exact bT (by omega) | exact bF (by omega) | exact vI (by omega), hs.upd⟩⟩
end Go.Proofs.YtjengglpbdgmnaaDoor
/- Contracts of bet trees that laws draw. Their conditions stand in each. -/
namespace Go.Proofs.YtjengglpbdgmnaaDoor
open Go Go.RowKit V
set_option linter.unusedVariables false
set_option linter.unusedSimpArgs false
set_option maxRecDepth 100000
theorem bsl50_7 (v0 v1 v2 v3 v4 v5 v6 : Value) (h0 : v0.cells = #[v0]) (h1 : v1.cells = #[v1]) (h2 : v2.cells = #[v2]) (h3 : v3.cells = #[v3]) (h4 : v4.cells = #[v4]) (h5 : v5.cells = #[v5]) (h6 : v6.cells = #[v6]) : ∀ w, (Instr.buildSlice 50 7 ([(0, v0), (1, v1), (2, v2), (3, v3), (4, v4), (5, v5), (6, v6)] : List (Nat × Value)).toArray).run Tryd.prog w = .ok (.slice (some ⟨w.heap.size, 0, none⟩) 7 7) (w.alloc (.cells ([v0, v1, v2, v3, v4, v5, v6] : List Value).toArray 2)) := by
 intro w; simp [Instr.buildSlice, Instr.fill, Tryd.zeroValue2, Tryd.runUnderlying50, Tryd.sizeOf2, Value.cells_int, newRow, show Array.range 7 = #[0, 1, 2, 3, 4, 5, 6] from by decide, h0, h1, h2, h3, h4, h5, h6]
theorem spec_DrawBetTree_c (ca : Option Addr) (bs : List Int) (cc : Nat) (w : World) (rcode : CellsAt ca (bs.map (Value.int .u8)) w) (hok : okBytes bs) :
  Calls Tryd.prog 14 #[.slice ca bs.length cc] w (Ret fun v w' => ∃ x : Int × Int × Int, v = .tuple #[.int .i64 x.1, .int .i64 x.2.1, .int .i64 x.2.2] ∧ ((-1 ≤ x.1 ∧ x.1 ≤ 101) ∧ (0 ≤ x.2.1 ∧ x.2.1 ≤ 101) ∧ (-1 ≤ x.2.2 ∧ x.2.2 ≤ 3)) ∧ Sep w none_ [] w') := by
 have kcode : Kn w none_ [] (CellsAt ca (bs.map (Value.int .u8))) := fun w' hs => rcode.ext hs.upd
 refine fn (M := none_) (rs := [.tmp 2, .tmp 3, .tmp 4]) Tryd.func14 rfl Tryd.ntmps14 rfl rfl (Sep.start _ _) ?_
 refine hSeq ?_
 refine hReg (sq 0 (sq 1 (sq 2 sz))) (by kernel_rfl) ?_
 refine asI rfl rfl rfl ?_
 refine asI rfl rfl rfl ?_
 refine asI rfl rfl rfl ?_
 refine rNil ?_
 refine qSeq rfl ?_
 refine hSeq ?_
 refine hReg (sq 0 (sl 1 (sq 2 sz))) (by kernel_rfl) ?_
 refine mvS rfl rfl rfl ?_
 refine callN (α := Nat) (val := fun x => .pointer (some ⟨x, 0, none⟩)) (good := fun _ => True) (φ := fun x => srcP x ca bs cc) Tryd.call23 trv1 rfl rfl (fun w hs => (l01From_c ca bs cc w (kcode w (hs.sub (List.nil_sublist _))) hok).mono fun e w1 ⟨v, h0, bk, h1, h2, h3, h4⟩ => ⟨v, h0, bk, h1, trivial, h3, h4⟩) ?_
 rintro bks1 -
 refine asn rfl rfl rfl ?_
 refine rNil ?_
 refine qSeq rfl ?_
 refine hSeq ?_
 refine hReg (sq 0 (sl 1 (sl 2 (sq 3 sz)))) (by kernel_rfl) ?_
 refine mvP rfl rfl rfl ?_
 refine bsl trv1 rfl rfl rfl (bsl50_7 (.int .i64 _) (.int .i64 _) (.int .i64 _) (.int .i64 _) (.int .i64 _) (.int .i64 _) (.int .i64 _) rfl rfl rfl rfl rfl rfl rfl) (fun bkl2 hbkl2 => ?_)
 refine rPieces (L' := [srcP bks1 ca bs cc, blk bkl2 2 [.int .i64 (-1), .int .i64 0, .int .i64 1, .int .i64 2, .int .i64 50, .int .i64 100, .int .i64 101]]) (fun _ h => h.perm (pull (i := 1) rfl)) ?_
 refine callMK (α := Int) (Lf := [srcP bks1 ca bs cc, blk bkl2 2 [.int .i64 (-1), .int .i64 0, .int .i64 1, .int .i64 2, .int .i64 50, .int .i64 100, .int .i64 101]]) (Lr := []) (good := fun x => x ∈ ([.int .i64 (-1), .int .i64 0, .int .i64 1, .int .i64 2, .int .i64 50, .int .i64 100, .int .i64 101] : List Value).map toI) (φs := fun x => [srcP bks1 ca bs cc, blk bkl2 2 [.int .i64 (-1), .int .i64 0, .int .i64 1, .int .i64 2, .int .i64 50, .int .i64 100, .int .i64 101]]) (val := fun x => .int .i64 x) rfl Tryd.call28 trv1 rfl rfl (fun w M1 hs hk => src_pick bks1 ca bs cc bkl2 2 7 7 [.int .i64 (-1), .int .i64 0, .int .i64 1, .int .i64 2, .int .i64 50, .int .i64 100, .int .i64 101] w M1 hs (hk _ kcode) hok rfl rfl (by decide)) ?_
 intro x1 hx1
 try dsimp only at hx1
 refine rPieces (L' := [srcP bks1 ca bs cc, blk bkl2 2 [.int .i64 (-1), .int .i64 0, .int .i64 1, .int .i64 2, .int .i64 50, .int .i64 100, .int .i64 101]]) (fun _ h => h) ?_
 replace hx1 : (-1 : Int) ≤ x1 ∧ x1 ≤ (101 : Int) := by have hm_ := hx1; simp [toI] at hm_; omega
 refine asI rfl rfl rfl ?_
 refine rNil ?_
 refine qSeq rfl ?_
 refine hSeq ?_
 refine hReg (sq 0 (sl 1 (sl 2 (sq 3 sz)))) (by kernel_rfl) ?_
 refine mvP rfl rfl rfl ?_
 refine bsl trv1 rfl rfl rfl (bsl50_7 (.int .i64 _) (.int .i64 _) (.int .i64 _) (.int .i64 _) (.int .i64 _) (.int .i64 _) (.int .i64 _) rfl rfl rfl rfl rfl rfl rfl) (fun bkl3 hbkl3 => ?_)
 refine rPieces (L' := [srcP bks1 ca bs cc, blk bkl3 2 [.int .i64 0, .int .i64 1, .int .i64 2, .int .i64 3, .int .i64 25, .int .i64 50, .int .i64 100], blk bkl2 2 [.int .i64 (-1), .int .i64 0, .int .i64 1, .int .i64 2, .int .i64 50, .int .i64 100, .int .i64 101]]) (fun _ h => h.perm (pull (i := 1) rfl)) ?_
 refine callMK (α := Int) (Lf := [srcP bks1 ca bs cc, blk bkl3 2 [.int .i64 0, .int .i64 1, .int .i64 2, .int .i64 3, .int .i64 25, .int .i64 50, .int .i64 100]]) (Lr := [blk bkl2 2 [.int .i64 (-1), .int .i64 0, .int .i64 1, .int .i64 2, .int .i64 50, .int .i64 100, .int .i64 101]]) (good := fun x => x ∈ ([.int .i64 0, .int .i64 1, .int .i64 2, .int .i64 3, .int .i64 25, .int .i64 50, .int .i64 100] : List Value).map toI) (φs := fun x => [srcP bks1 ca bs cc, blk bkl3 2 [.int .i64 0, .int .i64 1, .int .i64 2, .int .i64 3, .int .i64 25, .int .i64 50, .int .i64 100]]) (val := fun x => .int .i64 x) rfl Tryd.call28 trv1 rfl rfl (fun w M1 hs hk => src_pick bks1 ca bs cc bkl3 2 7 7 [.int .i64 0, .int .i64 1, .int .i64 2, .int .i64 3, .int .i64 25, .int .i64 50, .int .i64 100] w M1 hs (hk _ kcode) hok rfl rfl (by decide)) ?_
 intro x2 hx2
 try dsimp only at hx2
 refine rPieces (L' := [srcP bks1 ca bs cc, blk bkl3 2 [.int .i64 0, .int .i64 1, .int .i64 2, .int .i64 3, .int .i64 25, .int .i64 50, .int .i64 100], blk bkl2 2 [.int .i64 (-1), .int .i64 0, .int .i64 1, .int .i64 2, .int .i64 50, .int .i64 100, .int .i64 101]]) (fun _ h => h) ?_
 replace hx2 : (0 : Int) ≤ x2 ∧ x2 ≤ (100 : Int) := by have hm_ := hx2; simp [toI] at hm_; omega
 refine asI rfl rfl rfl ?_
 refine rNil ?_
 refine qSeq rfl ?_
 refine hSeq ?_
 refine hReg (sq 0 (sq 1 (sq 2 (sl 3 (sq 4 (sq 5 (sq 6 (sq 7 sz)))))))) (by kernel_rfl) ?_
 refine mvI rfl rfl rfl ?_
 refine mvI rfl rfl rfl ?_
 refine mvP rfl rfl rfl ?_
 refine callMK (α := Int) (Lf := [srcP bks1 ca bs cc]) (Lr := [blk bkl3 2 [.int .i64 0, .int .i64 1, .int .i64 2, .int .i64 3, .int .i64 25, .int .i64 50, .int .i64 100], blk bkl2 2 [.int .i64 (-1), .int .i64 0, .int .i64 1, .int .i64 2, .int .i64 50, .int .i64 100, .int .i64 101]]) (good := fun x => 0 ≤ x ∧ (x < (5 : Int) ∨ x = 0)) (φs := fun x => [srcP bks1 ca bs cc]) (val := fun x => .int .i64 x) rfl Tryd.call24 trv1 rfl rfl (fun w M1 hs hk => src_next bks1 ca bs cc (5 : Int) w M1 hs (hk _ kcode) hok) ?_
 intro x3 hx3
 replace hx3 : 0 ≤ x3 ∧ x3 < (5 : Int) := by omega
 try dsimp only at hx3
 refine rPieces (L' := [srcP bks1 ca bs cc, blk bkl3 2 [.int .i64 0, .int .i64 1, .int .i64 2, .int .i64 3, .int .i64 25, .int .i64 50, .int .i64 100], blk bkl2 2 [.int .i64 (-1), .int .i64 0, .int .i64 1, .int .i64 2, .int .i64 50, .int .i64 100, .int .i64 101]]) (fun _ h => h) ?_
 refine sub rfl rfl rfl rfl (by omega) ?_
 refine asI rfl rfl rfl ?_
 refine asI rfl rfl rfl ?_
 refine asI rfl rfl rfl ?_
 refine rNil ?_
 refine qSeq rfl ?_
 refine hRet ?_
 exact fun w hs => ⟨[.int .i64 x1, .int .i64 x2, .int .i64 (x3 - 1)], ⟨rfl, ⟨rfl, ⟨rfl, trivial⟩⟩⟩, ⟨(x1, x2, (x3 - 1)), rfl, ⟨⟨by dsimp only; omega, by dsimp only; omega⟩, ⟨by dsimp only; omega, by dsimp only; omega⟩, by dsimp only; omega, by dsimp only; omega⟩, hs.pick []⟩⟩
theorem spec_DrawTreeText_c (ca : Option Addr) (bs : List Int) (cc : Nat) (w : World) (rcode : CellsAt ca (bs.map (Value.int .u8)) w) (hok : okBytes bs) :
  Calls Tryd.prog 17 #[.slice ca bs.length cc] w (Ret fun v w' => ∃ x : Option Addr × Nat × Nat × (Nat → Hd) × List Nd, v = .agg #[.slice x.1 x.2.1 x.2.2.1] ∧ (x.2.1 ≤ 250) ∧ Sep w none_ [RdR ndK x.1 x.2.1 x.2.2.2.1 x.2.2.2.2] w') := by
 have kcode : Kn w none_ [] (CellsAt ca (bs.map (Value.int .u8))) := fun w' hs => rcode.ext hs.upd
 refine fn (M := none_) (rs := [.cell 2 26]) Tryd.func17 rfl Tryd.ntmps17 rfl rfl (Sep.start _ _) ?_
 refine hSeq ?_
 refine hReg (sl 0 sz) (by kernel_rfl) ?_
 refine alc Tryd.zeroValue26 rfl trv1 rfl rfl (fun bka1 hbka1 => ?_)
 refine rNil ?_
 refine qSeq rfl ?_
 refine hSeq ?_
 refine hReg (sq 0 (sl 1 (sl 2 (sl 3 sz)))) (by kernel_rfl) ?_
 refine mvS rfl rfl rfl ?_
 refine callN (α := Nat) (val := fun x => .pointer (some ⟨x, 0, none⟩)) (good := fun _ => True) (φ := fun x => srcP x ca bs cc) Tryd.call23 trv1 rfl rfl (fun w hs => (l01From_c ca bs cc w (kcode w (hs.sub (List.nil_sublist _))) hok).mono fun e w1 ⟨v, h0, bk, h1, h2, h3, h4⟩ => ⟨v, h0, bk, h1, trivial, h3, h4⟩) ?_
 rintro bks2 -
 refine callMK (α := Option Addr × Nat × Nat × (Nat → Hd) × List Nd) (Lf := [srcP bks2 ca bs cc]) (Lr := [blk bka1 26 [.slice none 0 0]]) (good := fun x => x.2.1 ≤ 250) (φs := fun x => [srcP bks2 ca bs cc, RdR ndK x.1 x.2.1 x.2.2.2.1 x.2.2.2.2]) (val := fun x => .agg #[.slice x.1 x.2.1 x.2.2.1]) rfl Tryd.call47 trv1 rfl rfl (fun w M1 hs hk => spec_l20Draw_c bks2 ca bs cc  w M1 hs (hk _ kcode) hok ) ?_
 rintro ⟨ay1, ny1, cy1, Hy1, y1⟩ hr1
 try dsimp only at hr1
 refine rPieces (L' := [srcP bks2 ca bs cc, RdR ndK ay1 ny1 Hy1 y1, blk bka1 26 [.slice none 0 0]]) (fun _ h => h) ?_
 refine rKnow (fun w hs => (show RdR ndK ay1 ny1 Hy1 y1 w from hs.at_ 1 rfl).1) (fun lenn3 => ?_)
 refine stAl (vs := [.slice ay1 ny1 cy1]) 2 rfl Tryd.sizeOf26 trv rfl rfl rfl rfl rfl (by simp [Value.oneCell']) rfl ?_
 refine rNil ?_
 refine qSeq rfl ?_
 refine hRet ?_
 exact fun w hs => ⟨[_], ⟨⟨_, rfl, run_load_agg Tryd.isAgg26 Tryd.sizeOf26 rfl (cBs 2 rfl w hs)⟩, trivial⟩, ⟨(ay1, ny1, cy1, Hy1, y1), rfl, by dsimp only; omega, hs.pick [1]⟩⟩
end Go.Proofs.YtjengglpbdgmnaaDoor
/- Plain facts: bet trees are trees; what is paid in them; how deep they are. No condition. -/
namespace Go.Proofs.YtjengglpbdgmnaaDoor.Math
open Go.Proofs.YtjengglpbdgmnaaDoor.V
set_option linter.unusedVariables false
set_option linter.unusedSimpArgs false
def scaleN (an bt : Int) (x : Nd) : Nd := ⟨x.pl, an + bt * x.p0, an + bt * x.p1, x.fo, x.ch⟩
theorem grow_scale {an bt : Int} (hb : 1 ≤ bt) : ∀ (f : Nat) (pl i j r : Int) (ck : Bool) (b : Nat), growF f pl (an + bt * i) (an + bt * j) bt r ck b = (growF f pl i j 1 r ck b).map (scaleN an bt)
  | 0, _, _, _, _, _, _ => rfl
  | f + 1, pl, i, j, r, ck, b => by
    have e1 : (if pl = 0 then an + bt * j + bt else an + bt * i) = an + bt * (if pl = 0 then j + 1 else i) := by
      split
      · rw [Int.mul_add, Int.mul_one]; omega
      · rfl
    have e2 : (if pl = 0 then an + bt * j else an + bt * i + bt) = an + bt * (if pl = 0 then j else i + 1) := by
      split
      · rfl
      · rw [Int.mul_add, Int.mul_one]; omega
    have e3 : (if pl = 0 then an + bt * j else an + bt * i) = an + bt * (if pl = 0 then j else i) := by split <;> rfl
    simp only [growF, e1, e2, e3]
    by_cases h : i = j
    · subst h
      rw [if_pos rfl, if_pos rfl]
      have ih1 : (if ck = true then [(⟨2, an + bt * i, an + bt * i, -1, []⟩ : Nd)] else growF f (1 - pl) (an + bt * i) (an + bt * i) bt r true (b + 1)) = (if ck = true then [(⟨2, i, i, -1, []⟩ : Nd)] else growF f (1 - pl) i i 1 r true (b + 1)).map (scaleN an bt) := by
        split
        · rfl
        · exact grow_scale hb f _ _ _ _ _ _
      rw [ih1, grow_scale hb f, List.length_map, List.map_cons, List.map_append]
      rfl
    · have hne : ¬ an + bt * i = an + bt * j := fun e => h (Int.eq_of_mul_eq_mul_left (a := bt) (by omega) (by omega))
      rw [if_neg hne, if_neg h]
      by_cases hr : r = 0
      · rw [if_pos hr, if_pos hr]; rfl
      · rw [if_neg hr, if_neg hr, grow_scale hb f]; rfl
def baseT (ra : Int) : List Nd := growF 5 0 0 0 1 ra false 0
theorem scale_at (an bt : Int) (z : List Nd) {i : Nat} (h : i < z.length) : (z.map (scaleN an bt)).getD i dN = scaleN an bt (z.getD i dN) := by simp [List.getD, List.getElem?_eq_getElem h]
theorem scale_pl (an bt : Int) (z : List Nd) (i : Nat) : ((z.map (scaleN an bt)).getD i dN).pl = (z.getD i dN).pl := by
  by_cases h : i < z.length
  · rw [scale_at an bt z h]; rfl
  · rw [List.getD_eq_getElem?_getD, List.getD_eq_getElem?_getD, List.getElem?_eq_none (by rw [List.length_map]; omega), List.getElem?_eq_none (by omega)]
theorem scale_ch (an bt : Int) (z : List Nd) (i : Nat) : ((z.map (scaleN an bt)).getD i dN).ch = (z.getD i dN).ch := by
  by_cases h : i < z.length
  · rw [scale_at an bt z h]; rfl
  · rw [List.getD_eq_getElem?_getD, List.getD_eq_getElem?_getD, List.getElem?_eq_none (by rw [List.length_map]; omega), List.getElem?_eq_none (by omega)]
theorem depthF_scale (an bt : Int) (z : List Nd) : ∀ k i, depthF (z.map (scaleN an bt)) k i = depthF z k i
  | 0, _ => rfl
  | k + 1, i => by
    simp only [depthF, scale_pl, scale_ch]
    by_cases h : (z.getD i dN).pl = 2
    · rw [if_pos h, if_pos h]
    · rw [if_neg h, if_neg h]
      congr 1
      exact foldl_congr (fun m c _ => by rw [depthF_scale an bt z k]) 0
theorem depth_scale (an bt : Int) (z : List Nd) (i : Nat) : depth (z.map (scaleN an bt)) i = depth z i := by unfold depth; rw [List.length_map]; exact depthF_scale an bt z _ _
theorem kids_scale (an bt : Int) (z : List Nd) : kids (z.map (scaleN an bt)) = kids z := by unfold kids; rw [List.flatMap_map]; rfl
theorem oneEach_scale (an bt : Int) (z : List Nd) : oneEach (z.map (scaleN an bt)) = oneEach z := by unfold oneEach; rw [kids_scale, List.length_map]
theorem paid_in {an bt p m : Int} (ha : 0 ≤ an) (hb : 1 ≤ bt) (hp : 0 ≤ p ∧ p ≤ m) : an ≤ an + bt * p ∧ an + bt * p ≤ an + bt * m := by
  have h1 := Int.mul_nonneg (show 0 ≤ bt by omega) hp.1
  have h2 := Int.mul_le_mul_of_nonneg_left hp.2 (show 0 ≤ bt by omega)
  omega
theorem okB_scale {an bt m : Int} (ha : 0 ≤ an) (hb : 1 ≤ bt) (hm : an + bt * m ≤ 100) {n i : Nat} {x : Nd} (h : okB n i x = true) (h0 : 0 ≤ x.p0 ∧ x.p0 ≤ m) (h1 : 0 ≤ x.p1 ∧ x.p1 ≤ m) : okB n i (scaleN an bt x) = true := by
  have p0 := paid_in ha hb h0
  have p1 := paid_in ha hb h1
  simp only [okB, Bool.and_eq_true, inB, decide_eq_true_eq] at h ⊢
  obtain ⟨k1, k2, k3, k4⟩ := h
  refine ⟨k1, ?_, ?_, ?_⟩
  · show 0 ≤ an + bt * x.p0 ∧ an + bt * x.p0 ≤ 100; omega
  · show 0 ≤ an + bt * x.p1 ∧ an + bt * x.p1 ≤ 100; omega
  · by_cases he : x.pl = 2
    · have he' : (scaleN an bt x).pl = 2 := he
      simp only [he, he', decide_true, cond_true, Bool.and_eq_true, decide_eq_true_eq, Bool.or_eq_true, ne_eq] at k4 ⊢
      refine ⟨k4.1, k4.2.1, ?_⟩
      rcases k4.2.2 with h | h
      · exact .inl h
      · exact .inr (by show an + bt * x.p0 = an + bt * x.p1; rw [h])
    · have he' : ¬ (scaleN an bt x).pl = 2 := he
      simp only [he, he', decide_false, cond_false] at k4 ⊢
      exact k4
def paidB (m : Int) (z : List Nd) : Bool := z.all fun x => decide ((0 ≤ x.p0 ∧ x.p0 ≤ m) ∧ (0 ≤ x.p1 ∧ x.p1 ≤ m))
theorem base_0 : isTree (baseT 0) = true ∧ depth (baseT 0) 0 = 3 ∧ paidB 1 (baseT 0) = true := by decide +kernel
theorem base_1 : isTree (baseT 1) = true ∧ depth (baseT 1) 0 = 4 ∧ paidB 2 (baseT 1) = true := by decide +kernel
theorem base_2 : isTree (baseT 2) = true ∧ depth (baseT 2) 0 = 5 ∧ paidB 3 (baseT 2) = true := by decide +kernel
theorem base_all {ra : Int} (h : 0 ≤ ra ∧ ra ≤ 2) : isTree (baseT ra) = true ∧ depth (baseT ra) 0 = ra + 3 ∧ paidB (ra + 1) (baseT ra) = true := by
  have : ra = 0 ∨ ra = 1 ∨ ra = 2 := by omega
  rcases this with rfl | rfl | rfl
  · exact base_0
  · exact base_1
  · exact base_2
theorem bet_ok {an bt ra : Int} (h : (betAt an bt ra).2 = 0) : isTree (betAt an bt ra).1 = true ∧ depth (betAt an bt ra).1 0 = ra + 3 ∧ (∀ x ∈ (betAt an bt ra).1, (an ≤ x.p0 ∧ x.p0 ≤ an + bt * (ra + 1)) ∧ (an ≤ x.p1 ∧ x.p1 ≤ an + bt * (ra + 1))) ∧
    ((0 ≤ an ∧ an ≤ 100) ∧ (1 ≤ bt ∧ bt ≤ 100) ∧ (0 ≤ ra ∧ ra ≤ 2) ∧ (0 ≤ bt * (ra + 1) ∧ an + bt * (ra + 1) ≤ 100)) := by
  by_cases hc : (0 ≤ an ∧ an ≤ 100) ∧ (1 ≤ bt ∧ bt ≤ 100) ∧ (0 ≤ ra ∧ ra ≤ 2) ∧ an + bt * (ra + 1) ≤ 100
  · obtain ⟨c1, c2, c3, c4⟩ := hc
    have hb := base_all c3
    have e : (betAt an bt ra).1 = (baseT ra).map (scaleN an bt) := by
      rw [betAt_0 ⟨c1, c2, c3, c4⟩]
      have := grow_scale (an := an) c2.1 5 0 0 0 ra false 0
      rw [Int.mul_zero, Int.add_zero] at this
      exact this
    have hp : ∀ x ∈ baseT ra, (0 ≤ x.p0 ∧ x.p0 ≤ ra + 1) ∧ (0 ≤ x.p1 ∧ x.p1 ≤ ra + 1) := fun x hx => by
      have := List.all_eq_true.1 hb.2.2 x hx
      exact of_decide_eq_true this
    have hT := isTree_ok hb.1
    rw [e]
    refine ⟨?_, by rw [depth_scale]; exact hb.2.1, fun x hx => ?_, c1, c2, c3, Int.mul_nonneg (by omega) (by omega), c4⟩
    · have hok : allOk ((baseT ra).map (scaleN an bt)) = true := allOk_iff.2 fun i hi => by
        rw [List.length_map] at hi ⊢
        rw [scale_at an bt _ hi]
        have hm := hp _ (getD_mem dN hi)
        exact okB_scale c1.1 c2.1 c4 (allOk_iff.1 hT.2.1 i hi) hm.1 hm.2
      rw [isTree_yes (by rw [List.length_map]; exact hT.1) hok (by rw [oneEach_scale]; exact hT.2.2.1), depth_scale]
      exact decide_eq_true hT.2.2.2.2
    · obtain ⟨y, hy, rfl⟩ := List.mem_map.1 hx
      have := hp y hy
      exact ⟨paid_in c1.1 c2.1 this.1, paid_in c1.1 c2.1 this.2⟩
  · rw [betAt_2 hc] at h; cases h
theorem bet_depth {an bt ra : Int} (h : (betAt an bt ra).2 = 0) : depthOf (betAt an bt ra).1 = (ra + 3, 0) := by
  have := bet_ok h
  unfold depthOf; rw [if_pos this.1, this.2.1]
end Go.Proofs.YtjengglpbdgmnaaDoor.Math
/- Contracts of the library that the kit lays, in plain words. Their conditions stand in each. -/
namespace Go.Proofs
open Go.Shelf
def Tryd.laysM173_ren : Go.Shelf.Ren := ⟨fun | 173 => 75 | 246 => 81 | 283 => 85 | 284 => 86 | 285 => 87 | 286 => 88 | 129 => 92 | 317 => 91 | 318 => 93 | 319 => 94 | 320 => 95 | 337 => 96 | 338 => 97 | n => n, fun | 2 => 2 | 3 => 3 | 9 => 9 | 4 => 4 | 171 => 115 | 0 => 0 | 53 => 116 | 37 => 22 | 5 => 5 | 173 => 119 | 212 => 124 | 51 => 125 | 20 => 20 | 213 => 126 | 46 => 128 | 232 => 131 | 233 => 132 | n => n, fun | 17 => 0 | 18 => 2 | 19 => 3 | n => n⟩
theorem Tryd.laysM173 : Go.Proofs.LaysM.n173 Tryd.prog Tryd.laysM173_ren := {
 mixed := by kernel_rfl
 f129 := Tryd.func92.trans (congrArg some (by kernel_rfl))
 f173 := Tryd.func75.trans (congrArg some (by kernel_rfl))
 f246 := Tryd.func81.trans (congrArg some (by kernel_rfl))
 f283 := Tryd.func85.trans (congrArg some (by kernel_rfl))
 f284 := Tryd.func86.trans (congrArg some (by kernel_rfl))
 f285 := Tryd.func87.trans (congrArg some (by kernel_rfl))
 f286 := Tryd.func88.trans (congrArg some (by kernel_rfl))
 f317 := Tryd.func91.trans (congrArg some (by kernel_rfl))
 f318 := Tryd.func93.trans (congrArg some (by kernel_rfl))
 f319 := Tryd.func94.trans (congrArg some (by kernel_rfl))
 f320 := Tryd.func95.trans (congrArg some (by kernel_rfl))
 f337 := Tryd.func96.trans (congrArg some (by kernel_rfl))
 f338 := Tryd.func97.trans (congrArg some (by kernel_rfl))
 t0 := Tryd.underlying0
 a0 := Tryd.isAgg0
 z0 := Tryd.sizeOf0
 v0 := Tryd.zeroValue0
 t2 := Tryd.underlying2
 a2 := Tryd.isAgg2
 z2 := Tryd.sizeOf2
 v2 := Tryd.zeroValue2
 t3 := Tryd.underlying3
 a3 := Tryd.isAgg3
 z3 := Tryd.sizeOf3
 v3 := Tryd.zeroValue3
 t4 := Tryd.underlying4
 a4 := Tryd.isAgg4
 z4 := Tryd.sizeOf4
 v4 := Tryd.zeroValue4
 t5 := Tryd.underlying5
 a5 := Tryd.isAgg5
 z5 := Tryd.sizeOf5
 v5 := Tryd.zeroValue5
 t9 := Tryd.underlying9
 a9 := Tryd.isAgg9
 z9 := Tryd.sizeOf9
 v9 := Tryd.zeroValue9
 t20 := Tryd.underlying20
 a20 := Tryd.isAgg20
 z20 := Tryd.sizeOf20
 v20 := Tryd.zeroValue20
 t37 := Tryd.underlying22
 a37 := Tryd.isAgg22
 z37 := Tryd.sizeOf22
 v37 := Tryd.zeroValue22
 t46 := Tryd.underlying128
 a46 := Tryd.isAgg128
 z46 := Tryd.sizeOf128
 v46 := Tryd.zeroValue128
 t51 := Tryd.underlying125
 a51 := Tryd.isAgg125
 z51 := Tryd.sizeOf125
 v51 := Tryd.zeroValue125
 t53 := Tryd.underlying116
 a53 := Tryd.isAgg116
 z53 := Tryd.sizeOf116
 v53 := Tryd.zeroValue116
 t171 := Tryd.underlying115
 a171 := Tryd.isAgg115
 z171 := Tryd.sizeOf115
 v171 := Tryd.zeroValue115
 t173 := Tryd.underlying119
 a173 := Tryd.isAgg119
 z173 := Tryd.sizeOf119
 v173 := Tryd.zeroValue119
 t212 := Tryd.underlying124
 a212 := Tryd.isAgg124
 z212 := Tryd.sizeOf124
 v212 := Tryd.zeroValue124
 t213 := Tryd.underlying126
 a213 := Tryd.isAgg126
 z213 := Tryd.sizeOf126
 t232 := Tryd.underlying131
 a232 := Tryd.isAgg131
 z232 := Tryd.sizeOf131
 v232 := Tryd.zeroValue131
 t233 := Tryd.underlying132
 a233 := Tryd.isAgg132
 z233 := Tryd.sizeOf132
 v233 := Tryd.zeroValue132
 g17 := by kernel_rfl
 g18 := by kernel_rfl
 g19 := by kernel_rfl
 i0 := by kernel_rfl
 i2 := by kernel_rfl
 i3 := by kernel_rfl
 i4 := by kernel_rfl
 i5 := by kernel_rfl
 i9 := by kernel_rfl
 i20 := by kernel_rfl
 i37 := by kernel_rfl
 i46 := by kernel_rfl
 i51 := by kernel_rfl
 i53 := by kernel_rfl
 i171 := by kernel_rfl
 i173 := by kernel_rfl
 i212 := by kernel_rfl
 i232 := by kernel_rfl
 i233 := by kernel_rfl
 m17 := by kernel_rfl
 m18 := by kernel_rfl
 m19 := by kernel_rfl }
open Go.RowKit Go.Sort Go.Lib in
theorem Tryd.strconv_FormatInt_10 (n : Int) (h0 : -9223372036854775808 ≤ n) (h1 : n ≤ 9223372036854775807) (w : World) (htab : Lib.TabIs Tryd.prog w "internal/strconv.uint64pow10" .u64 Lib.pow10Tab) :
  Calls Tryd.prog 75 #[.int .i64 n, .int .i64 10] w fun e w' => e = .returned (.string ⟨(Lib.itoa n).toArray⟩) ∧ ∃ k os, w' = grow (w.drewN k) os := Any.strconv_FormatInt_10 Tryd.laysM173 n h0 h1 w htab
end Go.Proofs
/- The engine: strings. No condition. -/
namespace Go.Proofs.YtjengglpbdgmnaaDoor.V
open Go Go.RowKit
set_option linter.unusedVariables false
set_option linter.unusedSimpArgs false
/-- A string of bytes. -/
def sv (l : List UInt8) : Value := .string ⟨l.toArray⟩
theorem vS {l m : List UInt8} (h : l = m) : sv l = sv m := by rw [h]
section
variable {P : Program} {n : Nat} {w0 : World} {M : Nat → Prop} {L : List (World → Prop)} {σ : Fr} {K : Ko} {ops : Array Oper} {S : World → Prop} {r : Sch} {i : Nat}
variable {d : Nat} {t ty yt : TypeId} {p : String} {af : Array Edge} {g : Option (Nat × Bool)} {a b : Operand} {l m : List UInt8}
theorem strAdd (ho : ops[i]? = some ⟨some d, .binOp .add ty a b yt, t, p, af, g⟩) (hg : go ops σ g) (ha : ev σ a = sv l) (hb : ev σ b = sv m) (hr : l.length + m.length ≤ 9223372036854775807) (h : RG P n w0 M ops S L r (upd σ d (sv (l ++ m))) K) : RG P n w0 M ops S L (.op .q i r) σ K :=
 rQ ho hg (fun w _ => by
  have h1 := run_string_add_sum (P := P) w ⟨l.toArray⟩ ⟨m.toArray⟩ (by simpa [ByteArray.size] using hr)
  simp [execOp, ha, hb, eqGuard, sv, binOp_string_add, h1, ByteArray.mk_append_mk]) h
theorem strNeq (ho : ops[i]? = some ⟨some d, .binOp .neq ty a b yt, t, p, af, g⟩) (hg : go ops σ g) (ha : ev σ a = sv l) (hb : ev σ b = sv m) (h : RG P n w0 M ops S L r (upd σ d (.bool (decide (l ≠ m)))) K) : RG P n w0 M ops S L (.op .q i r) σ K :=
 rQ ho hg (fun w _ => by
  simp [execOp, ha, hb, eqGuard, sv, binOp_string_neq]
  try (by_cases e : l = m <;> simp [e])) h
theorem cnvU8 {src dst : TypeId} {sd : TypeDesc} {k : IntKind} {z : Int} (hs : ∀ w, (underlying src).run P w = .ok sd w) (hd : ∀ w, (underlying dst).run P w = .ok (.int .u8) w) (ho : ops[i]? = some ⟨some d, .convert src dst a, t, p, af, g⟩) (hg : go ops σ g) (ha : ev σ a = .int k z) (hr : 0 ≤ z ∧ z ≤ 255) (h : RG P n w0 M ops S L r (upd σ d (.int .u8 z)) K) : RG P n w0 M ops S L (.op .q i r) σ K :=
 cnv hs hd ho hg ha (by rw [show IntKind.u8.wrap z = z from by rw [IntKind.wrap_u8]; omega]; exact h)
theorem cnvStr {src dst eb e bk len cap : Nat} {vs : List Value} (xs : List Int) (j : Nat) (hj : L[j]? = some (blk bk e vs)) (hv : vs = xs.map (Value.int .u8)) (hl : xs.length = len) (hs : P.underlying src = some (.slice eb)) (he : P.underlying eb = some (.int .u8)) (hd : P.underlying dst = some .string) (hS : ∀ w, Sep w0 M L w → S w)
  (ho : ops[i]? = some ⟨some d, .convert src dst a, t, p, af, g⟩) (hg : go ops σ g) (ha : ev σ a = .slice (some ⟨bk, 0, none⟩) len cap) (h : RG P n w0 M ops S L r (upd σ d (sv (xs.map fun z => UInt8.ofNat z.toNat))) K) : RG P n w0 M ops S L (.op .l i r) σ K :=
 rL1 hS ho hg (fun w hs0 => by
  have hb : blk bk e vs w := hs0.at_ j hj
  have hc : ∀ i, i < len → w.cell? ⟨bk, 0 + i, none⟩ = some (.int .u8 (xs.getD i 0)) := fun i hi => by
   have hx : vs[i]? = some (.int .u8 (xs.getD i 0)) := by rw [hv, List.getElem?_map, List.getElem?_eq_getElem (show i < xs.length by omega)]; simp [List.getD, List.getElem?_eq_getElem (show i < xs.length by omega)]
   rw [Nat.zero_add]
   unfold blk at hb
   simp [World.cell?, hb, hx]
  have h1 := run_convert_bytes_arg (P := P) w src eb hs he bk 0 len cap xs hl hc dst hd
  have h2 : strOfNums xs = ⟨(xs.map fun z => UInt8.ofNat z.toNat).toArray⟩ := rfl
  unfold opw; simp [execOp, ha, h1, h2]
  exact ⟨hs0, rfl⟩) h
end
end Go.Proofs.YtjengglpbdgmnaaDoor.V
/- Decimal numbers: what the library and the reference write. No condition. -/
namespace Go.Proofs.YtjengglpbdgmnaaDoor.Math
/-- A number in decimal. -/
def dec (n : Int) : List UInt8 := Lib.decDigits n.toNat
theorem dec_small {n : Int} (h0 : 0 ≤ n) (h : n < 10) : dec n = [UInt8.ofNat (48 + n).toNat] := by
  unfold dec; rw [Lib.decDigits, dif_pos (by omega)]
  congr 2; omega
theorem dec_step {n : Int} (h : ¬ n < 10) : dec n = dec (n / 10) ++ [UInt8.ofNat (48 + n % 10).toNat] := by
  unfold dec
  rw [Lib.decDigits, dif_neg (by omega), show (n / 10).toNat = n.toNat / 10 from by omega, show (48 + n % 10).toNat = 48 + n.toNat % 10 from by omega]
theorem dec_len3 {n : Int} (h : n ≤ 999) : (dec n).length ≤ 3 := by
  unfold dec
  rw [Lib.decDigits]
  split
  · simp
  · rw [Lib.decDigits]
    split
    · simp
    · rw [Lib.decDigits, dif_pos (by omega)]; simp
end Go.Proofs.YtjengglpbdgmnaaDoor.Math
namespace Go.Proofs.YtjengglpbdgmnaaDoor
open Go Go.RowKit V
set_option linter.unusedVariables false
/-- The library's table of powers of ten. -/
def TabP (w : World) : Prop := Lib.TabIs Tryd.prog w "internal/strconv.uint64pow10" .u64 Lib.pow10Tab
theorem TabP.ext {w w' : World} (h : TabP w) (hx : Ext w w') : TabP w' := by
  have hg : ∃ g, Tryd.prog.globalNamed "internal/strconv.uint64pow10" = some g := by
    unfold TabP Lib.TabIs World.var? at h
    cases hg : Tryd.prog.globalNamed "internal/strconv.uint64pow10" with
    | none => rw [hg] at h; cases h
    | some g => exact ⟨g, rfl⟩
  obtain ⟨g, hg⟩ := hg
  have hlt : g < w.heap.size := by
    unfold TabP Lib.TabIs World.var? at h
    rw [hg] at h
    simp only [Option.bind_some] at h
    rcases Nat.lt_or_ge g w.heap.size with hl | hl
    · exact hl
    · rw [Array.getElem?_eq_none hl] at h; cases h
  exact var?_below hx.below hg hlt h
theorem Ext.drewN (w : World) (k : Nat) : Ext w (w.drewN k) := ⟨rfl, rfl, rfl, Nat.le_refl _, fun _ _ _ => rfl⟩
theorem Ext.grow (w : World) (os : Array Obj) : Ext w (Sort.grow w os) := ⟨rfl, rfl, rfl, by simp, fun k hk _ => by
  unfold Sort.grow
  show (w.heap ++ os)[k]? = _
  rw [Array.getElem?_append_left hk]⟩
theorem formatInt_c (n : Int) (w : World) (htab : TabP w) (h0 : 0 ≤ n) (h1 : n ≤ 1000000000) : Calls Tryd.prog 75 #[.int .i64 n, .int .i64 10] w (Ret fun v w' => v = sv (Math.dec n) ∧ Ext w w') :=
  Calls.mono (Tryd.strconv_FormatInt_10 n (by omega) (by omega) w htab) fun e w' ⟨he, k, os, hw⟩ => ⟨_, he, by
    unfold sv Math.dec Lib.itoa
    rw [if_neg (by omega)], by rw [hw]; exact (Ext.drewN w k).trans (Ext.grow _ os)⟩
end Go.Proofs.YtjengglpbdgmnaaDoor
/- Plain facts: texts of trees. No condition. -/
namespace Go.Proofs.YtjengglpbdgmnaaDoor.Math
open Go.Proofs.YtjengglpbdgmnaaDoor.V
set_option linter.unusedVariables false
theorem dmax_ge' {z : List Nd} {l : List Int} : ∀ {c : Int}, c ∈ l → depth z c.toNat ≤ dmax z l := by
  have key : ∀ (l : List Int) (m : Int), m ≤ l.foldl (fun m c => max m (depth z c.toNat)) m ∧ ∀ c ∈ l, depth z c.toNat ≤ l.foldl (fun m c => max m (depth z c.toNat)) m := by
    intro l
    induction l with
    | nil => intro m; exact ⟨Int.le_refl _, fun c h => by cases h⟩
    | cons d l ih =>
      intro m
      have h := ih (max m (depth z d.toNat))
      refine ⟨?_, fun c hc => ?_⟩
      · show m ≤ l.foldl _ (max m (depth z d.toNat)); omega
      · show depth z c.toNat ≤ l.foldl _ (max m (depth z d.toNat))
        rcases List.mem_cons.1 hc with rfl | hc
        · omega
        · exact h.2 c hc
  exact fun {c} hc => (key l 0).2 c hc
/-- How the text of a node begins. -/
def headT (x : Nd) : List UInt8 := if x.pl = 2 then (if x.fo < 0 then [40, 115] else [40, 102] ++ dec x.fo) else [40, 112] ++ dec x.pl
def openT (x : Nd) : List UInt8 := headT x ++ ([32] ++ dec x.p0 ++ [47] ++ dec x.p1)
def textF (z : List Nd) : Nat → Int → List UInt8
  | 0, _ => []
  | f + 1, v => openT (z.getD v.toNat dN) ++ ((z.getD v.toNat dN).ch.map fun c => textF z f c).flatten ++ [41]
def text (z : List Nd) (v : Int) : List UInt8 := textF z z.length v
def textTo (z : List Nd) (v : Int) (i : Nat) : List UInt8 := openT (z.getD v.toNat dN) ++ (((z.getD v.toNat dN).ch.take i).map fun c => text z c).flatten
theorem textF_same {z : List Nd} (hok : allOk z = true) : ∀ f f' (v : Int), 0 ≤ v → v < z.length → z.length - v.toNat ≤ f → z.length - v.toNat ≤ f' → textF z f v = textF z f' v := by
  intro f
  induction f with
  | zero => intro f' v h0 h1 h2 h3; omega
  | succ f ih =>
    intro f' v h0 h1 h2 h3
    cases f' with
    | zero => omega
    | succ f' =>
      simp only [textF]
      congr 2
      congr 1
      refine List.map_congr_left fun c hc => ?_
      have := ok_kid (allOk_iff.1 hok v.toNat (by omega)) hc
      exact ih f' c (by omega) (by omega) (by omega) (by omega)
theorem text_step {z : List Nd} (hok : allOk z = true) {v : Int} (hv : 0 ≤ v ∧ v < z.length) {i : Nat} (hi : i = (z.getD v.toNat dN).ch.length) : text z v = textTo z v i ++ [41] := by
  have h1 : text z v = textF z (z.length + 1) v := textF_same hok _ _ v hv.1 hv.2 (by omega) (by omega)
  rw [h1]
  unfold textTo
  rw [hi, List.take_of_length_le (Nat.le_refl _)]
  rfl
theorem textTo_s {z : List Nd} {v : Int} {i : Nat} (h : i < (z.getD v.toNat dN).ch.length) : textTo z v (i + 1) = textTo z v i ++ text z ((z.getD v.toNat dN).ch.getD i 0) := by
  unfold textTo
  rw [take_step 0 h, List.map_append, List.flatten_append, List.append_assoc]
  simp
theorem openT_len {x : Nd} (h0 : 0 ≤ x.pl ∧ x.pl ≤ 2) (h1 : 0 ≤ x.p0 ∧ x.p0 ≤ 100) (h2 : 0 ≤ x.p1 ∧ x.p1 ≤ 100) (h3 : -1 ≤ x.fo ∧ x.fo ≤ 1) : (openT x).length ≤ 13 := by
  have a := dec_len3 (n := x.p0) (by omega)
  have b := dec_len3 (n := x.p1) (by omega)
  have c := dec_len3 (n := x.fo) (by omega)
  have d := dec_len3 (n := x.pl) (by omega)
  unfold openT headT
  split
  · split <;> (simp only [List.length_append, List.length_cons, List.length_nil]; omega)
  · simp only [List.length_append, List.length_cons, List.length_nil]; omega
theorem flat_len {α : Type} (f : α → List UInt8) (B : Nat) : ∀ l : List α, (∀ x ∈ l, (f x).length ≤ B) → ((l.map f).flatten).length ≤ B * l.length
  | [], _ => by simp
  | x :: l, h => by
    have h1 := flat_len f B l fun y hy => h y (List.mem_cons_of_mem _ hy)
    have h2 := h x (List.mem_cons_self ..)
    rw [List.map_cons, List.flatten_cons, List.length_append, List.length_cons, Nat.mul_succ]; omega
theorem textF_len {z : List Nd} (hok : allOk z = true) : ∀ (f d : Nat) (v : Int), 0 ≤ v → v < z.length → z.length - v.toNat ≤ f → (depth z v.toNat) ≤ (d : Int) → (textF z f v).length ≤ 20 * 5 ^ d
  | 0, d, v, h0, h1, h2, _ => by omega
  | f + 1, d, v, h0, h1, h2, hd => by
    have ho := ok_pl (allOk_iff.1 hok v.toNat (by omega))
    have hh := openT_len ho.1 ho.2.1 ho.2.2.1 ho.2.2.2.1
    simp only [textF]
    rw [List.length_append, List.length_append, List.length_singleton]
    by_cases hp : (z.getD v.toNat dN).pl = 2
    · have hc := ho.2.2.2.2.2.1 hp
      have hn : (z.getD v.toNat dN).ch = [] := List.eq_nil_of_length_eq_zero hc
      rw [hn]
      have : 1 ≤ 5 ^ d := Nat.one_le_pow _ _ (by decide)
      simp only [List.map_nil, List.flatten_nil, List.length_nil]; omega
    · have hs := depth_step hok (i := v.toNat) (by omega) hp
      have hk : ∀ c ∈ (z.getD v.toNat dN).ch, depth z c.toNat + 1 ≤ depth z v.toNat := fun c hc => by
        rw [hs]
        have : depth z c.toNat ≤ dmax z (z.getD v.toNat dN).ch := dmax_ge' hc
        omega
      have hd1 : 1 ≤ d := by
        have h3 := ho.2.2.2.2.2
        rcases Nat.eq_zero_or_pos (z.getD v.toNat dN).ch.length with h4 | h4
        · exact absurd (h3.2 h4) hp
        · have hm := getD_mem 0 h4
          have hck := ok_kid (allOk_iff.1 hok v.toNat (by omega)) hm
          have := hk _ hm
          have := depth_bd' rfl hok (i := ((z.getD v.toNat dN).ch.getD 0 0).toNat) (by omega)
          omega
      have hfl := flat_len (fun c => textF z f c) (20 * 5 ^ (d - 1)) (z.getD v.toNat dN).ch fun c hc => by
        have hck := ok_kid (allOk_iff.1 hok v.toNat (by omega)) hc
        have := hk c hc
        exact textF_len hok f (d - 1) c (by omega) (by omega) (by omega) (by omega)
      have h4 : 20 * 5 ^ (d - 1) * (z.getD v.toNat dN).ch.length ≤ 20 * 5 ^ (d - 1) * 4 := Nat.mul_le_mul_left _ ho.2.2.2.2.1
      have h5 : 5 ^ d = 5 ^ (d - 1) * 5 := by rw [← Nat.pow_succ]; congr 1; omega
      have h6 : 1 ≤ 5 ^ (d - 1) := Nat.one_le_pow _ _ (by decide)
      omega
theorem text_len {z : List Nd} (ht : isTree z = true) {v : Int} (hv : 0 ≤ v ∧ v < z.length) (hd : depth z v.toNat ≤ 5) : (text z v).length ≤ 62500 := by
  have hT := isTree_ok ht
  have := textF_len hT.2.1 z.length 5 v hv.1 hv.2 (by omega) hd
  exact this
theorem textTo_len {z : List Nd} (ht : isTree z = true) {v : Int} (hv : 0 ≤ v ∧ v < z.length) (hd : depth z v.toNat ≤ 5) (i : Nat) : (textTo z v i).length ≤ 250013 := by
  have hT := isTree_ok ht
  have ho := ok_pl (allOk_iff.1 hT.2.1 v.toNat (by omega))
  have hh := openT_len ho.1 ho.2.1 ho.2.2.1 ho.2.2.2.1
  unfold textTo
  rw [List.length_append]
  have hfl := flat_len (fun c => text z c) 62500 ((z.getD v.toNat dN).ch.take i) fun c hc => by
    have hm := List.mem_of_mem_take hc
    have hck := ok_kid (allOk_iff.1 hT.2.1 v.toNat (by omega)) hm
    have hp : ¬ (z.getD v.toNat dN).pl = 2 := fun h => by
      have := List.eq_nil_of_length_eq_zero (ho.2.2.2.2.2.1 h); rw [this] at hm; cases hm
    have hs := depth_step hT.2.1 (i := v.toNat) (by omega) hp
    have : depth z c.toNat ≤ dmax z (z.getD v.toNat dN).ch := dmax_ge' hm
    exact text_len ht ⟨by omega, by omega⟩ (by omega)
  have h4 : ((z.getD v.toNat dN).ch.take i).length ≤ 4 := by rw [List.length_take]; omega
  have h5 : 62500 * ((z.getD v.toNat dN).ch.take i).length ≤ 62500 * 4 := Nat.mul_le_mul_left _ h4
  omega
theorem kid_ok {z : List Nd} (ht : isTree z = true) {v : Int} (hv : 0 ≤ v ∧ v < z.length) (hd : depth z v.toNat ≤ 5) {i : Nat} (hi : i < (z.getD v.toNat dN).ch.length) :
    (v + 1 ≤ (z.getD v.toNat dN).ch.getD i 0 ∧ (z.getD v.toNat dN).ch.getD i 0 < z.length) ∧ depth z ((z.getD v.toNat dN).ch.getD i 0).toNat ≤ 5 := by
  have hT := isTree_ok ht
  have ho := ok_pl (allOk_iff.1 hT.2.1 v.toNat (by omega))
  have hm := getD_mem 0 hi
  have hck := ok_kid (allOk_iff.1 hT.2.1 v.toNat (by omega)) hm
  have hp : ¬ (z.getD v.toNat dN).pl = 2 := fun h => by have := ho.2.2.2.2.2.1 h; omega
  have hs := depth_step hT.2.1 (i := v.toNat) (by omega) hp
  have := dmax_ge' (z := z) hm
  omega
theorem head_p {x : Nd} (h : ¬ x.pl = 2) : headT x = [40, 112] ++ dec x.pl := if_neg h
theorem head_s {x : Nd} (h : x.pl = 2) (h2 : x.fo < 0) : headT x = [40, 115] := by unfold headT; rw [if_pos h, if_pos h2]
theorem head_f {x : Nd} (h : x.pl = 2) (h2 : ¬ x.fo < 0) : headT x = [40, 102] ++ dec x.fo := by unfold headT; rw [if_pos h, if_neg h2]
theorem textTo_0 {z : List Nd} {v : Int} : textTo z v 0 = openT (z.getD v.toNat dN) := by unfold textTo; simp
def textAt (z : List Nd) : List UInt8 × Int := if isTree z = true then (text z 0, 0) else ([], 1)
theorem textAt_0 {z : List Nd} (h : isTree z = true) : textAt z = (text z 0, 0) := if_pos h
theorem textAt_1 {z : List Nd} (h : isTree z = false) : textAt z = ([], 1) := if_neg (by rw [h]; decide)
theorem textAt_iff (z : List Nd) : isTree z = decide ((textAt z).2 = 0) := by
  by_cases h : isTree z = true
  · rw [h, textAt_0 h]; rfl
  · rw [textAt_1 (by simpa using h)]; simpa using h
end Go.Proofs.YtjengglpbdgmnaaDoor.Math
