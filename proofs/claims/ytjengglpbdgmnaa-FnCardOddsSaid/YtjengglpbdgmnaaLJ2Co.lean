/- Contracts of games that laws draw. Their conditions stand in each. -/
import Derived.Test.YtjengglpbdgmnaaEngCCo
import Derived.Test.YtjengglpbdgmnaaTreeCo
import Derived.Test.YtjengglpbdgmnaaGameCo
import Derived.Test.YtjengglpbdgmnaaSetsCo
import Derived.Test.YtjengglpbdgmnaaHighCo
import Derived.Test.YtjengglpbdgmnaaGrowCo
import Derived.Test.YtjengglpbdgmnaaBetCo
import Derived.Test.YtjengglpbdgmnaaDrawCo
import Derived.Test.YtjengglpbdgmnaaCopyCo
import Derived.Test.YtjengglpbdgmnaaSrc0Co
import Derived.Test.YtjengglpbdgmnaaSrcCo
import Derived.Test.YtjengglpbdgmnaaSrc2Co
import Derived.Test.YtjengglpbdgmnaaSrcWCo
import Derived.Test.YtjengglpbdgmnaaL1Co
import Derived.Test.YtjengglpbdgmnaaL2Co
import Derived.Test.YtjengglpbdgmnaaL3Co
import Derived.Test.YtjengglpbdgmnaaL4Co
import Derived.Test.YtjengglpbdgmnaaLCCo
import Derived.Test.YtjengglpbdgmnaaLTCo
import Derived.Test.YtjengglpbdgmnaaLSCo
import Derived.Test.YtjengglpbdgmnaaLZCo
import Derived.Test.YtjengglpbdgmnaaLICo
import Derived.Test.YtjengglpbdgmnaaLJCo
import Derived.Test.YtjengglpbdgmnaaLVCo
import Derived.Test.YtjengglpbdgmnaaRows
namespace Go.Proofs.Ytjengglpbdgmnaa
open Go Go.RowKit V
set_option linter.unusedVariables false
set_option linter.unusedSimpArgs false
set_option maxRecDepth 100000
theorem laws_likeLists_c (az : Option Addr) (nz : Nat) (cz : Nat) (Hz : Nat → Hd) (z : List (List Int)) (ay : Option Addr) (ny : Nat) (cy : Nat) (Hy : Nat → Hd) (y : List (List Int)) (w : World) (rz : RdR maK az nz Hz z w) (ry : RdR maK ay ny Hy y w) (heq : z = y) :
  Calls Try.prog 45 #[.slice az nz cz, .slice ay ny cy] w (Ret fun v w' => v = .bool true ∧ Ext w w') := by
 have kz : Kn w none_ [] (RdR maK az nz Hz z) := fun w' hs => rz.ext hs.upd
 have lz : z.length = nz := rz.1
 have mz : nz ≤ 9223372036854775807 := rz.2.1
 have ky : Kn w none_ [] (RdR maK ay ny Hy y) := fun w' hs => ry.ext hs.upd
 have ly : y.length = ny := ry.1
 have my : ny ≤ 9223372036854775807 := ry.2.1
 have ly2 : y.length = nz := by rw [← heq]; exact lz
 refine fn (M := none_) (rs := [.tmp 4]) Try.func45 rfl Try.ntmps45 rfl rfl (Sep.start _ _) ?_
 refine hSeq ?_
 refine hReg (sq 0 sz) (by kernel_rfl) ?_
 refine asB rfl rfl rfl ?_
 refine rNil ?_
 refine qSeq rfl ?_
 refine hSeq ?_
 refine hSeq ?_
 refine hReg (sq 0 (sq 1 (sq 2 (sq 3 (sq 4 sz))))) (by kernel_rfl) ?_
 refine mvS rfl rfl rfl ?_
 refine lenS Try.runUnderlying41 rfl rfl rfl ?_
 refine mvS rfl rfl rfl ?_
 refine lenS Try.runUnderlying41 rfl rfl rfl ?_
 refine neq rfl rfl rfl rfl ?_
 refine rNil ?_
 refine qSeq rfl ?_
 refine hIfD rfl (fun c1 => ?_) (fun c1 => ?_)
 ·
  replace c1 : (nz : Int) ≠ (ny : Int) := c1
  exact absurd c1 (by omega)
 ·
  replace c1 : ¬ ((nz : Int) ≠ (ny : Int)) := c1
  refine hSkip ?_
  refine qSeq rfl ?_
  refine hSeq ?_
  refine hSeq ?_
  refine hReg (sq 0 sz) (by kernel_rfl) ?_
  refine asI rfl rfl rfl ?_
  refine rNil ?_
  refine qSeq rfl ?_
  refine hBlk ?_
  refine hLoop (α := Nat) (fun i => i ≤ nz) (fun i => nz - i) (fun i => []) (fun i => [(0, .slice az nz cz), (1, .slice ay ny cy), (5, .int .i64 (i : Int))]) 0 (Nat.zero_le _) (fun _ h => h.pick []) ⟨rfl, rfl, rfl, trivial⟩ ?_
  rintro i τ1 hi
  refine hSeq ?_
  refine hSeq ?_
  refine hReg (sq 0 (sq 1 (sq 2 (sq 3 sz)))) (by kernel_rfl) ?_
  refine mvI rfl rfl rfl ?_
  refine mvS rfl rfl rfl ?_
  refine lenS Try.runUnderlying41 rfl rfl rfl ?_
  refine lss rfl rfl rfl rfl ?_
  refine rNil ?_
  refine qSeq rfl ?_
  refine hIfD rfl (fun c2 => ?_) (fun c2 => ?_)
  ·
   replace c2 : (i : Int) < (nz : Int) := c2
   refine hSkip ?_
   refine qSeq rfl ?_
   refine hSeq ?_
   refine hBlk ?_
   refine hSeq ?_
   refine hDraw (Ls := []) (by kernel_rfl) (sq 0 (sq 1 (sq 2 (sq 3 (sq 4 (sq 5 (sq 6 (sq 7 (sl 8 (sq 9 sz)))))))))) (by kernel_rfl) .slnil ?_
   refine mvS rfl rfl rfl ?_
   refine mvI rfl rfl rfl ?_
   refine ixRq (zn := i) (z.getD i []) el41 (kz) (fun _ h => h.pick []) rfl rfl rfl rfl (by omega) (by omega) rfl (nth [] (by omega)) ?_
   intro be1 oe1 e1
   refine ldq Try.isAgg28 (Kn.fld e1 0 rfl) rfl rfl rfl ?_
   refine mvS rfl rfl rfl ?_
   refine mvI rfl rfl rfl ?_
   refine ixRq (zn := i) (y.getD i []) el41 (ky) (fun _ h => h.pick []) rfl rfl rfl rfl (by omega) (by omega) rfl (nth [] (by omega)) ?_
   intro be2 oe2 e2
   refine ldq Try.isAgg28 (Kn.fld e2 0 rfl) rfl rfl rfl ?_
   refine callP (v := .bool true) Try.call19 (fun _ h => h.pick []) rfl rfl (fun w hs => laws_likeInts_c _ _ _ _ _ _ _ _ w ((Kn.imp kz fun _ h => h.kidM (nth [] (by omega))) w hs) ((Kn.imp ky fun _ h => h.kidM (nth [] (by omega))) w hs) (by first | rfl | assumption | (rw [heq]) | (simp only [*]))) ?_
   refine not rfl rfl rfl ?_
   refine rNil ?_
   refine qSeq rfl ?_
   refine hIfF rfl ?_
   refine hSkip ?_
   refine qSeq rfl ?_
   refine hReg (sq 0 (sq 1 (sq 2 sz))) (by kernel_rfl) ?_
   refine mvI rfl rfl rfl ?_
   refine add rfl rfl rfl rfl (by omega) ?_
   refine asI rfl rfl rfl ?_
   refine rNil ?_
   exact qNext rfl (i + 1) (by omega) (by omega) ⟨rfl, rfl, rfl, trivial⟩ (fun _ h => h.pick [])
  ·
   replace c2 : ¬ ((i : Int) < (nz : Int)) := c2
   refine hExit rfl ?_
   refine qSeq rfl ?_
   refine hSeq ?_
   refine hReg (sq 0 sz) (by kernel_rfl) ?_
   refine asB rfl rfl rfl ?_
   refine rNil ?_
   refine qSeq rfl ?_
   refine hRet ?_
   exact fun w hs => ⟨[.bool true], ⟨rfl, trivial⟩, ⟨by first | rfl | exact bD (by omega) | exact bT (by omega) | exact bF (by omega) | exact vI (by omega), hs.upd⟩⟩
theorem laws_likeTrees_c (az : Option Addr) (nz : Nat) (cz : Nat) (Hz : Nat → Hd) (z : List Nd) (ay : Option Addr) (ny : Nat) (cy : Nat) (Hy : Nat → Hd) (y : List Nd) (w : World) (rz : RdR ndK az nz Hz z w) (ry : RdR ndK ay ny Hy y w) (heq : z = y) :
  Calls Try.prog 114 #[.agg #[.slice az nz cz], .agg #[.slice ay ny cy]] w (Ret fun v w' => v = .bool true ∧ Ext w w') := by
 have kz : Kn w none_ [] (RdR ndK az nz Hz z) := fun w' hs => rz.ext hs.upd
 have lz : z.length = nz := rz.1
 have mz : nz ≤ 9223372036854775807 := rz.2.1
 have ky : Kn w none_ [] (RdR ndK ay ny Hy y) := fun w' hs => ry.ext hs.upd
 have ly : y.length = ny := ry.1
 have my : ny ≤ 9223372036854775807 := ry.2.1
 have ly2 : y.length = nz := by rw [← heq]; exact lz
 refine fn (M := none_) (rs := [.tmp 4]) Try.func114 rfl Try.ntmps114 rfl rfl (Sep.start _ _) ?_
 refine hSeq ?_
 refine hReg (sl 0 (sl 1 (sq 2 sz))) (by kernel_rfl) ?_
 refine box trv1 rfl rfl rfl rfl (fun bkb1 hbkb1 => ?_)
 refine box trv1 rfl rfl rfl rfl (fun bkb2 hbkb2 => ?_)
 refine asB rfl rfl rfl ?_
 refine rNil ?_
 refine qSeq rfl ?_
 refine hSeq ?_
 refine hSeq ?_
 refine hReg (sq 0 (sl 1 (sq 2 (sq 3 (sl 4 (sq 5 (sq 6 sz))))))) (by kernel_rfl) ?_
 refine fld fl26_0 rfl rfl rfl ?_
 refine ldl Try.isAgg24 (cB 1 rfl rfl) trv rfl rfl rfl ?_
 refine lenS Try.runUnderlying24 rfl rfl rfl ?_
 refine fld fl26_0 rfl rfl rfl ?_
 refine ldl Try.isAgg24 (cB 0 rfl rfl) trv rfl rfl rfl ?_
 refine lenS Try.runUnderlying24 rfl rfl rfl ?_
 refine neq rfl rfl rfl rfl ?_
 refine rNil ?_
 refine qSeq rfl ?_
 refine hIfD rfl (fun c1 => ?_) (fun c1 => ?_)
 ·
  replace c1 : (nz : Int) ≠ (ny : Int) := c1
  exact absurd c1 (by omega)
 ·
  replace c1 : ¬ ((nz : Int) ≠ (ny : Int)) := c1
  refine hSkip ?_
  refine qSeq rfl ?_
  refine hSeq ?_
  refine hSeq ?_
  refine hReg (sq 0 sz) (by kernel_rfl) ?_
  refine asI rfl rfl rfl ?_
  refine rNil ?_
  refine qSeq rfl ?_
  refine hBlk ?_
  refine hLoop (α := Nat) (fun i => i ≤ nz) (fun i => nz - i) (fun i => [blk bkb2 26 [.slice ay ny cy], blk bkb1 26 [.slice az nz cz]]) (fun i => [(2, .pointer (some ⟨bkb1, 0, none⟩)), (3, .pointer (some ⟨bkb2, 0, none⟩)), (5, .int .i64 (i : Int))]) 0 (Nat.zero_le _) (fun _ h => h.pick [0, 0]) ⟨rfl, rfl, rfl, trivial⟩ ?_
  rintro i τ1 hi
  refine hSeq ?_
  refine hSeq ?_
  refine hReg (sq 0 (sq 1 (sl 2 (sq 3 (sq 4 sz))))) (by kernel_rfl) ?_
  refine mvI rfl rfl rfl ?_
  refine fld fl26_0 rfl rfl rfl ?_
  refine ldl Try.isAgg24 (cB 1 rfl rfl) trv rfl rfl rfl ?_
  refine lenS Try.runUnderlying24 rfl rfl rfl ?_
  refine lss rfl rfl rfl rfl ?_
  refine rNil ?_
  refine qSeq rfl ?_
  refine hIfD rfl (fun c2 => ?_) (fun c2 => ?_)
  ·
   replace c2 : (i : Int) < (nz : Int) := c2
   refine hSkip ?_
   refine qSeq rfl ?_
   refine hSeq ?_
   refine hBlk ?_
   refine hSeq ?_
   refine hDraw (Ls := [blk bkb2 26 [.slice ay ny cy], blk bkb1 26 [.slice az nz cz]]) (by kernel_rfl) (sq 0 (sq 1 (sq 2 (sq 3 (sq 4 (sq 5 (sq 6 (sq 7 (sq 8 (sq 9 (.alt (sl 10 (sl 11 (sl 12 (sf 13 sz)))) (sl 11 (sl 10 (sl 12 (sf 13 sz))))))))))))))) (by kernel_rfl) (.cons_cons _ (.cons_cons _ .slnil)) ?_
   refine fld fl26_0 rfl rfl rfl ?_
   refine ldq Try.isAgg24 (cB 1 rfl rfl) rfl rfl rfl ?_
   refine mvI rfl rfl rfl ?_
   refine ixRq (zn := i) (z.getD i dN) el24 (Kn.drop (k := 2) kz) (fun _ h => h.pick [0, 0]) rfl rfl rfl rfl (by omega) (by omega) rfl (nth dN (by omega)) ?_
   intro be1 oe1 e1
   refine ldAq Try.isAgg88 Try.sizeOf88 (e1) rfl rfl rfl rfl ?_
   refine fld fl26_0 rfl rfl rfl ?_
   refine ldq Try.isAgg24 (cB 0 rfl rfl) rfl rfl rfl ?_
   refine mvI rfl rfl rfl ?_
   refine ixRq (zn := i) (y.getD i dN) el24 (Kn.drop (k := 2) ky) (fun _ h => h.pick [0, 0]) rfl rfl rfl rfl (by omega) (by omega) rfl (nth dN (by omega)) ?_
   intro be2 oe2 e2
   refine ldAq Try.isAgg88 Try.sizeOf88 (e2) rfl rfl rfl rfl ?_
   refine rAlt ?_ ?_
   ·
    refine alc Try.zeroValue88 rfl (fun _ _ h => h.pick [1, 1]) rfl rfl (fun bka3 hbka3 => ?_)
    refine alc Try.zeroValue88 rfl (fun _ _ h => h.pick [2, 2]) rfl rfl (fun bka4 hbka4 => ?_)
    refine stAl (vs := [.int .i64 ((z.getD i dN).pl), .int .i64 ((z.getD i dN).p0), .int .i64 ((z.getD i dN).p1), .int .i64 ((z.getD i dN).fo), .slice ((Hz i).1) (((z.getD i dN).ch).length) ((Hz i).2)]) 1 rfl Try.sizeOf88 (fun _ h => h.pick [2, 2]) rfl rfl rfl rfl rfl (by simp [Value.oneCell']) rfl ?_
    refine stAf (vs := [.int .i64 ((y.getD i dN).pl), .int .i64 ((y.getD i dN).p0), .int .i64 ((y.getD i dN).p1), .int .i64 ((y.getD i dN).fo), .slice ((Hy i).1) (((y.getD i dN).ch).length) ((Hy i).2)]) 0 rfl Try.sizeOf88 rfl rfl rfl rfl rfl (by simp [Value.oneCell']) rfl ?_
    refine rNil ?_
    refine qSeq rfl ?_
    refine hSeq ?_
    refine hReg (sq 0 (sl 1 (sq 2 (sl 3 (sq 4 (sq 5 (sq 6 (sl 7 (sq 8 (sl 9 (sq 10 (sq 11 (sq 12 (sq 13 (sl 14 (sq 15 (sl 16 (sq 17 (sq 18 (sq 19 (sq 20 (sl 21 (sq 22 (sl 23 (sq 24 (sq 25 (sq 26 (sq 27 (sl 28 (sq 29 (sl 30 (sl 31 (sq 32 (sq 33 sz)))))))))))))))))))))))))))))))))) (by kernel_rfl) ?_
    refine fld fl88_0 rfl rfl rfl ?_
    refine ldl Try.isAgg2 (cB 1 rfl rfl) trv rfl rfl rfl ?_
    refine fld fl88_0 rfl rfl rfl ?_
    refine ldl Try.isAgg2 (cB 0 rfl rfl) trv rfl rfl rfl ?_
    refine neq rfl rfl rfl rfl ?_
    refine mvB rfl rfl rfl ?_
    refine rBoolD (d := 37) rfl (fun g3 => ?_) (fun g3 => ?_)
    ·
     replace g3 : (z.getD i dN).pl ≠ (y.getD i dN).pl := g3
     exact absurd (by rw [heq]) g3
    ·
     replace g3 : ¬ ((z.getD i dN).pl ≠ (y.getD i dN).pl) := g3
     refine fld fl88_1 rfl rfl rfl ?_
     refine ldl Try.isAgg2 (cB 1 rfl rfl) trv rfl rfl rfl ?_
     refine fld fl88_1 rfl rfl rfl ?_
     refine ldl Try.isAgg2 (cB 0 rfl rfl) trv rfl rfl rfl ?_
     refine neq rfl rfl rfl rfl ?_
     refine pickB rfl rfl rfl rfl ?_
     refine mvB rfl rfl rfl ?_
     refine rBoolD (d := 44) rfl (fun g4 => ?_) (fun g4 => ?_)
     ·
      replace g4 : (z.getD i dN).p0 ≠ (y.getD i dN).p0 := g4
      exact absurd (by rw [heq]) g4
     ·
      replace g4 : ¬ ((z.getD i dN).p0 ≠ (y.getD i dN).p0) := g4
      refine fld fl88_2 rfl rfl rfl ?_
      refine ldl Try.isAgg2 (cB 1 rfl rfl) trv rfl rfl rfl ?_
      refine fld fl88_2 rfl rfl rfl ?_
      refine ldl Try.isAgg2 (cB 0 rfl rfl) trv rfl rfl rfl ?_
      refine neq rfl rfl rfl rfl ?_
      refine pickB rfl rfl rfl rfl ?_
      refine mvB rfl rfl rfl ?_
      refine rBoolD (d := 51) rfl (fun g5 => ?_) (fun g5 => ?_)
      ·
       replace g5 : (z.getD i dN).p1 ≠ (y.getD i dN).p1 := g5
       exact absurd (by rw [heq]) g5
      ·
       replace g5 : ¬ ((z.getD i dN).p1 ≠ (y.getD i dN).p1) := g5
       refine fld fl88_3 rfl rfl rfl ?_
       refine ldl Try.isAgg2 (cB 1 rfl rfl) trv rfl rfl rfl ?_
       refine fld fl88_3 rfl rfl rfl ?_
       refine ldl Try.isAgg2 (cB 0 rfl rfl) trv rfl rfl rfl ?_
       refine neq rfl rfl rfl rfl ?_
       refine pickB rfl rfl rfl rfl ?_
       refine mvB rfl rfl rfl ?_
       refine rBoolD (d := 58) rfl (fun g6 => ?_) (fun g6 => ?_)
       ·
        replace g6 : (z.getD i dN).fo ≠ (y.getD i dN).fo := g6
        exact absurd (by rw [heq]) g6
       ·
        replace g6 : ¬ ((z.getD i dN).fo ≠ (y.getD i dN).fo) := g6
        refine fld fl88_4 rfl rfl rfl ?_
        refine ldl Try.isAgg28 (cB 1 rfl rfl) trv rfl rfl rfl ?_
        refine fld fl88_4 rfl rfl rfl ?_
        refine ldl Try.isAgg28 (cB 0 rfl rfl) trv rfl rfl rfl ?_
        refine callP (v := .bool true) Try.call19 trv rfl rfl (fun w hs => laws_likeInts_c _ _ _ _ _ _ _ _ w (Kn.drop (k := 4) ((Kn.imp kz fun _ h => h.kidN (nth dN (by omega)))) w hs) (Kn.drop (k := 4) ((Kn.imp ky fun _ h => h.kidN (nth dN (by omega)))) w hs) (by rw [heq])) ?_
        refine not rfl rfl rfl ?_
        refine pickB rfl rfl rfl rfl ?_
        refine rNil ?_
        refine qSeq rfl ?_
        refine hIfF rfl ?_
        refine hSkip ?_
        refine qSeq rfl ?_
        refine hReg (sq 0 (sq 1 (sq 2 sz))) (by kernel_rfl) ?_
        refine mvI rfl rfl rfl ?_
        refine add rfl rfl rfl rfl (by omega) ?_
        refine asI rfl rfl rfl ?_
        refine rNil ?_
        exact qNext rfl (i + 1) (by omega) (by omega) ⟨rfl, rfl, rfl, trivial⟩ (fun _ h => h.pick [2, 2])
   ·
    refine alc Try.zeroValue88 rfl (fun _ _ h => h.pick [1, 1]) rfl rfl (fun bka5 hbka5 => ?_)
    refine alc Try.zeroValue88 rfl (fun _ _ h => h.pick [2, 2]) rfl rfl (fun bka6 hbka6 => ?_)
    refine stAl (vs := [.int .i64 ((z.getD i dN).pl), .int .i64 ((z.getD i dN).p0), .int .i64 ((z.getD i dN).p1), .int .i64 ((z.getD i dN).fo), .slice ((Hz i).1) (((z.getD i dN).ch).length) ((Hz i).2)]) 0 rfl Try.sizeOf88 (fun _ h => h.pick [2, 2]) rfl rfl rfl rfl rfl (by simp [Value.oneCell']) rfl ?_
    refine stAf (vs := [.int .i64 ((y.getD i dN).pl), .int .i64 ((y.getD i dN).p0), .int .i64 ((y.getD i dN).p1), .int .i64 ((y.getD i dN).fo), .slice ((Hy i).1) (((y.getD i dN).ch).length) ((Hy i).2)]) 1 rfl Try.sizeOf88 rfl rfl rfl rfl rfl (by simp [Value.oneCell']) rfl ?_
    refine rNil ?_
    refine qSeq rfl ?_
    refine hSeq ?_
    refine hReg (sq 0 (sl 1 (sq 2 (sl 3 (sq 4 (sq 5 (sq 6 (sl 7 (sq 8 (sl 9 (sq 10 (sq 11 (sq 12 (sq 13 (sl 14 (sq 15 (sl 16 (sq 17 (sq 18 (sq 19 (sq 20 (sl 21 (sq 22 (sl 23 (sq 24 (sq 25 (sq 26 (sq 27 (sl 28 (sq 29 (sl 30 (sl 31 (sq 32 (sq 33 sz)))))))))))))))))))))))))))))))))) (by kernel_rfl) ?_
    refine fld fl88_0 rfl rfl rfl ?_
    refine ldl Try.isAgg2 (cB 0 rfl rfl) trv rfl rfl rfl ?_
    refine fld fl88_0 rfl rfl rfl ?_
    refine ldl Try.isAgg2 (cB 1 rfl rfl) trv rfl rfl rfl ?_
    refine neq rfl rfl rfl rfl ?_
    refine mvB rfl rfl rfl ?_
    refine rBoolD (d := 37) rfl (fun g7 => ?_) (fun g7 => ?_)
    ·
     replace g7 : (z.getD i dN).pl ≠ (y.getD i dN).pl := g7
     exact absurd (by rw [heq]) g7
    ·
     replace g7 : ¬ ((z.getD i dN).pl ≠ (y.getD i dN).pl) := g7
     refine fld fl88_1 rfl rfl rfl ?_
     refine ldl Try.isAgg2 (cB 0 rfl rfl) trv rfl rfl rfl ?_
     refine fld fl88_1 rfl rfl rfl ?_
     refine ldl Try.isAgg2 (cB 1 rfl rfl) trv rfl rfl rfl ?_
     refine neq rfl rfl rfl rfl ?_
     refine pickB rfl rfl rfl rfl ?_
     refine mvB rfl rfl rfl ?_
     refine rBoolD (d := 44) rfl (fun g8 => ?_) (fun g8 => ?_)
     ·
      replace g8 : (z.getD i dN).p0 ≠ (y.getD i dN).p0 := g8
      exact absurd (by rw [heq]) g8
     ·
      replace g8 : ¬ ((z.getD i dN).p0 ≠ (y.getD i dN).p0) := g8
      refine fld fl88_2 rfl rfl rfl ?_
      refine ldl Try.isAgg2 (cB 0 rfl rfl) trv rfl rfl rfl ?_
      refine fld fl88_2 rfl rfl rfl ?_
      refine ldl Try.isAgg2 (cB 1 rfl rfl) trv rfl rfl rfl ?_
      refine neq rfl rfl rfl rfl ?_
      refine pickB rfl rfl rfl rfl ?_
      refine mvB rfl rfl rfl ?_
      refine rBoolD (d := 51) rfl (fun g9 => ?_) (fun g9 => ?_)
      ·
       replace g9 : (z.getD i dN).p1 ≠ (y.getD i dN).p1 := g9
       exact absurd (by rw [heq]) g9
      ·
       replace g9 : ¬ ((z.getD i dN).p1 ≠ (y.getD i dN).p1) := g9
       refine fld fl88_3 rfl rfl rfl ?_
       refine ldl Try.isAgg2 (cB 0 rfl rfl) trv rfl rfl rfl ?_
       refine fld fl88_3 rfl rfl rfl ?_
       refine ldl Try.isAgg2 (cB 1 rfl rfl) trv rfl rfl rfl ?_
       refine neq rfl rfl rfl rfl ?_
       refine pickB rfl rfl rfl rfl ?_
       refine mvB rfl rfl rfl ?_
       refine rBoolD (d := 58) rfl (fun g10 => ?_) (fun g10 => ?_)
       ·
        replace g10 : (z.getD i dN).fo ≠ (y.getD i dN).fo := g10
        exact absurd (by rw [heq]) g10
       ·
        replace g10 : ¬ ((z.getD i dN).fo ≠ (y.getD i dN).fo) := g10
        refine fld fl88_4 rfl rfl rfl ?_
        refine ldl Try.isAgg28 (cB 0 rfl rfl) trv rfl rfl rfl ?_
        refine fld fl88_4 rfl rfl rfl ?_
        refine ldl Try.isAgg28 (cB 1 rfl rfl) trv rfl rfl rfl ?_
        refine callP (v := .bool true) Try.call19 trv rfl rfl (fun w hs => laws_likeInts_c _ _ _ _ _ _ _ _ w (Kn.drop (k := 4) ((Kn.imp kz fun _ h => h.kidN (nth dN (by omega)))) w hs) (Kn.drop (k := 4) ((Kn.imp ky fun _ h => h.kidN (nth dN (by omega)))) w hs) (by rw [heq])) ?_
        refine not rfl rfl rfl ?_
        refine pickB rfl rfl rfl rfl ?_
        refine rNil ?_
        refine qSeq rfl ?_
        refine hIfF rfl ?_
        refine hSkip ?_
        refine qSeq rfl ?_
        refine hReg (sq 0 (sq 1 (sq 2 sz))) (by kernel_rfl) ?_
        refine mvI rfl rfl rfl ?_
        refine add rfl rfl rfl rfl (by omega) ?_
        refine asI rfl rfl rfl ?_
        refine rNil ?_
        exact qNext rfl (i + 1) (by omega) (by omega) ⟨rfl, rfl, rfl, trivial⟩ (fun _ h => h.pick [2, 2])
  ·
   replace c2 : ¬ ((i : Int) < (nz : Int)) := c2
   refine hExit rfl ?_
   refine qSeq rfl ?_
   refine hSeq ?_
   refine hReg (sq 0 sz) (by kernel_rfl) ?_
   refine asB rfl rfl rfl ?_
   refine rNil ?_
   refine qSeq rfl ?_
   refine hRet ?_
   exact fun w hs => ⟨[.bool true], ⟨rfl, trivial⟩, ⟨by first | rfl | exact bD (by omega) | exact bT (by omega) | exact bF (by omega) | exact vI (by omega), hs.upd⟩⟩
theorem laws_likeGames_c (az : Option Addr) (nz : Nat) (cz : Nat) (Hz : Nat → Hd) (z : List Nd) (aws : Option Addr) (nws : Nat) (cws : Nat) (Hws : Nat → Hd) (ws : List (List Int)) (avs : Option Addr) (nvs : Nat) (cvs : Nat) (Hvs : Nat → Hd) (vs : List (List Int)) (ay : Option Addr) (ny : Nat) (cy : Nat) (Hy : Nat → Hd) (y : List Nd) (ayw : Option Addr) (nyw : Nat) (cyw : Nat) (Hyw : Nat → Hd) (yw : List (List Int)) (ayv : Option Addr) (nyv : Nat) (cyv : Nat) (Hyv : Nat → Hd) (yv : List (List Int)) (w : World) (rz : RdR ndK az nz Hz z w) (rws : RdR maK aws nws Hws ws w) (rvs : RdR maK avs nvs Hvs vs w) (ry : RdR ndK ay ny Hy y w) (ryw : RdR maK ayw nyw Hyw yw w) (ryv : RdR maK ayv nyv Hyv yv w) (heq : z = y ∧ ws = yw ∧ vs = yv) :
  Calls Try.prog 37 #[.agg #[.slice az nz cz, .slice aws nws cws, .slice avs nvs cvs], .agg #[.slice ay ny cy, .slice ayw nyw cyw, .slice ayv nyv cyv]] w (Ret fun v w' => v = .bool true ∧ Ext w w') := by
 have kz : Kn w none_ [] (RdR ndK az nz Hz z) := fun w' hs => rz.ext hs.upd
 have lz : z.length = nz := rz.1
 have mz : nz ≤ 9223372036854775807 := rz.2.1
 have kws : Kn w none_ [] (RdR maK aws nws Hws ws) := fun w' hs => rws.ext hs.upd
 have lws : ws.length = nws := rws.1
 have mws : nws ≤ 9223372036854775807 := rws.2.1
 have kvs : Kn w none_ [] (RdR maK avs nvs Hvs vs) := fun w' hs => rvs.ext hs.upd
 have lvs : vs.length = nvs := rvs.1
 have mvs : nvs ≤ 9223372036854775807 := rvs.2.1
 have ky : Kn w none_ [] (RdR ndK ay ny Hy y) := fun w' hs => ry.ext hs.upd
 have ly : y.length = ny := ry.1
 have my : ny ≤ 9223372036854775807 := ry.2.1
 have kyw : Kn w none_ [] (RdR maK ayw nyw Hyw yw) := fun w' hs => ryw.ext hs.upd
 have lyw : yw.length = nyw := ryw.1
 have myw : nyw ≤ 9223372036854775807 := ryw.2.1
 have kyv : Kn w none_ [] (RdR maK ayv nyv Hyv yv) := fun w' hs => ryv.ext hs.upd
 have lyv : yv.length = nyv := ryv.1
 have myv : nyv ≤ 9223372036854775807 := ryv.2.1
 refine fn (M := none_) (rs := [.tmp 4]) Try.func37 rfl Try.ntmps37 rfl rfl (Sep.start _ _) ?_
 refine hSeq ?_
 refine hReg (sl 0 (sl 1 (sq 2 sz))) (by kernel_rfl) ?_
 refine box trv1 rfl rfl rfl rfl (fun bkb1 hbkb1 => ?_)
 refine box trv1 rfl rfl rfl rfl (fun bkb2 hbkb2 => ?_)
 refine asB rfl rfl rfl ?_
 refine rNil ?_
 refine qSeq rfl ?_
 refine hSeq ?_
 refine hReg (sq 0 (sl 1 (sq 2 (sl 3 (sl 4 (sq 5 (sq 6 (sl 7 (sq 8 (sl 9 (sl 10 (sq 11 (sq 12 (sq 13 (sl 14 (sq 15 (sl 16 (sl 17 (sq 18 (sq 19 sz)))))))))))))))))))) (by kernel_rfl) ?_
 refine fld fl43_0 rfl rfl rfl ?_
 refine ldAl Try.isAgg26 Try.sizeOf26 (cBp (m := 1) 1 rfl rfl) trv rfl rfl rfl rfl ?_
 refine fld fl43_0 rfl rfl rfl ?_
 refine ldAl Try.isAgg26 Try.sizeOf26 (cBp (m := 1) 0 rfl rfl) trv rfl rfl rfl rfl ?_
 refine callP (v := .bool true) Try.call114 trv rfl rfl (fun w hs => laws_likeTrees_c _ _ _ _ _ _ _ _ _ _ w (Kn.drop (k := 2) kz w hs) (Kn.drop (k := 2) ky w hs) heq.1) ?_
 refine mvB rfl rfl rfl ?_
 refine fld fl43_1 rfl rfl rfl ?_
 refine ldl Try.isAgg41 (cB 1 rfl rfl) trv rfl rfl rfl ?_
 refine fld fl43_1 rfl rfl rfl ?_
 refine ldl Try.isAgg41 (cB 0 rfl rfl) trv rfl rfl rfl ?_
 refine callP (v := .bool true) Try.call45 trv rfl rfl (fun w hs => laws_likeLists_c _ _ _ _ _ _ _ _ _ _ w (Kn.drop (k := 2) kws w hs) (Kn.drop (k := 2) kyw w hs) heq.2.1) ?_
 refine pickB rfl rfl rfl rfl ?_
 refine mvB rfl rfl rfl ?_
 refine fld fl43_2 rfl rfl rfl ?_
 refine ldl Try.isAgg41 (cB 1 rfl rfl) trv rfl rfl rfl ?_
 refine fld fl43_2 rfl rfl rfl ?_
 refine ldl Try.isAgg41 (cB 0 rfl rfl) trv rfl rfl rfl ?_
 refine callP (v := .bool true) Try.call45 trv rfl rfl (fun w hs => laws_likeLists_c _ _ _ _ _ _ _ _ _ _ w (Kn.drop (k := 2) kvs w hs) (Kn.drop (k := 2) kyv w hs) heq.2.2) ?_
 refine pickB rfl rfl rfl rfl ?_
 refine asB rfl rfl rfl ?_
 refine rNil ?_
 refine qSeq rfl ?_
 refine hRet ?_
 exact fun w hs => ⟨[.bool true], ⟨rfl, trivial⟩, ⟨by first | rfl | exact bD (by omega) | exact bT (by omega) | exact bF (by omega) | exact vI (by omega), hs.upd⟩⟩
theorem spec_DrawTotalWeight_c (ca : Option Addr) (bs : List Int) (cc : Nat) (w : World) (rcode : CellsAt ca (bs.map (Value.int .u8)) w) (hok : okBytes bs) :
  Calls Try.prog 51 #[.slice ca bs.length cc] w (Ret fun v w' => ∃ x : Option Addr × Nat × Nat × (Nat → Hd) × List Nd × Option Addr × Nat × Nat × (Nat → Hd) × List (List Int) × Option Addr × Nat × Nat × (Nat → Hd) × List (List Int), v = .agg #[.slice x.1 x.2.1 x.2.2.1, .slice x.2.2.2.2.2.1 x.2.2.2.2.2.2.1 x.2.2.2.2.2.2.2.1, .slice x.2.2.2.2.2.2.2.2.2.2.1 x.2.2.2.2.2.2.2.2.2.2.2.1 x.2.2.2.2.2.2.2.2.2.2.2.2.1] ∧ (x.2.1 ≤ 250 ∧ ((1 ≤ x.2.2.2.2.2.2.1 ∧ x.2.2.2.2.2.2.1 ≤ 4) ∧ x.2.2.2.2.2.2.2.2.2.2.2.1 ≤ 4)) ∧ Sep w none_ [RdR ndK x.1 x.2.1 x.2.2.2.1 x.2.2.2.2.1, RdR maK x.2.2.2.2.2.1 x.2.2.2.2.2.2.1 x.2.2.2.2.2.2.2.2.1 x.2.2.2.2.2.2.2.2.2.1, RdR maK x.2.2.2.2.2.2.2.2.2.2.1 x.2.2.2.2.2.2.2.2.2.2.2.1 x.2.2.2.2.2.2.2.2.2.2.2.2.2.1 x.2.2.2.2.2.2.2.2.2.2.2.2.2.2] w') := by
 have kcode : Kn w none_ [] (CellsAt ca (bs.map (Value.int .u8))) := fun w' hs => rcode.ext hs.upd
 refine fn (M := none_) (rs := [.cell 2 43]) Try.func51 rfl Try.ntmps51 rfl rfl (Sep.start _ _) ?_
 refine hSeq ?_
 refine hReg (sl 0 sz) (by kernel_rfl) ?_
 refine alc Try.zeroValue43 rfl trv1 rfl rfl (fun bka1 hbka1 => ?_)
 refine rNil ?_
 refine qSeq rfl ?_
 refine hSeq ?_
 refine hReg (sq 0 (sl 1 (sl 2 (sl 3 sz)))) (by kernel_rfl) ?_
 refine mvS rfl rfl rfl ?_
 refine callN (α := Nat) (val := fun x => .pointer (some ⟨x, 0, none⟩)) (good := fun _ => True) (φ := fun x => srcP x ca bs cc) Try.call92 trv1 rfl rfl (fun w hs => (l01From_c ca bs cc w (kcode w (hs.sub (List.nil_sublist _))) hok).mono fun e w1 ⟨v, h0, bk, h1, h2, h3, h4⟩ => ⟨v, h0, bk, h1, trivial, h3, h4⟩) ?_
 rintro bks2 -
 refine callMK (α := Option Addr × Nat × Nat × (Nat → Hd) × List Nd × Option Addr × Nat × Nat × (Nat → Hd) × List (List Int) × Option Addr × Nat × Nat × (Nat → Hd) × List (List Int)) (Lf := [srcP bks2 ca bs cc]) (Lr := [blk bka1 43 [.slice none 0 0, .slice none 0 0, .slice none 0 0]]) (good := fun x => x.2.1 ≤ 250 ∧ ((1 ≤ x.2.2.2.2.2.2.1 ∧ x.2.2.2.2.2.2.1 ≤ 4) ∧ x.2.2.2.2.2.2.2.2.2.2.2.1 ≤ 4)) (φs := fun x => [srcP bks2 ca bs cc, RdR ndK x.1 x.2.1 x.2.2.2.1 x.2.2.2.2.1, RdR maK x.2.2.2.2.2.1 x.2.2.2.2.2.2.1 x.2.2.2.2.2.2.2.2.1 x.2.2.2.2.2.2.2.2.2.1, RdR maK x.2.2.2.2.2.2.2.2.2.2.1 x.2.2.2.2.2.2.2.2.2.2.2.1 x.2.2.2.2.2.2.2.2.2.2.2.2.2.1 x.2.2.2.2.2.2.2.2.2.2.2.2.2.2]) (val := fun x => .agg #[.slice x.1 x.2.1 x.2.2.1, .slice x.2.2.2.2.2.1 x.2.2.2.2.2.2.1 x.2.2.2.2.2.2.2.1, .slice x.2.2.2.2.2.2.2.2.2.2.1 x.2.2.2.2.2.2.2.2.2.2.2.1 x.2.2.2.2.2.2.2.2.2.2.2.2.1]) rfl Try.call106 trv1 rfl rfl (fun w M1 hs hk => spec_l21Draw_c bks2 ca bs cc  w M1 hs (hk _ kcode) hok ) ?_
 rintro ⟨ay1, ny1, cy1, Hy1, y1, ayw1, nyw1, cyw1, Hyw1, yw1, ayv1, nyv1, cyv1, Hyv1, yv1⟩ hr1
 try dsimp only at hr1
 refine rPieces (L' := [srcP bks2 ca bs cc, RdR ndK ay1 ny1 Hy1 y1, RdR maK ayw1 nyw1 Hyw1 yw1, RdR maK ayv1 nyv1 Hyv1 yv1, blk bka1 43 [.slice none 0 0, .slice none 0 0, .slice none 0 0]]) (fun _ h => h) ?_
 refine rKnow (fun w hs => (show RdR ndK ay1 ny1 Hy1 y1 w from hs.at_ 1 rfl).1) (fun lenn3 => ?_)
 refine rKnow (fun w hs => (show RdR maK ayw1 nyw1 Hyw1 yw1 w from hs.at_ 2 rfl).1) (fun lenn4 => ?_)
 refine rKnow (fun w hs => (show RdR maK ayv1 nyv1 Hyv1 yv1 w from hs.at_ 3 rfl).1) (fun lenn5 => ?_)
 refine stAl (vs := [.slice ay1 ny1 cy1, .slice ayw1 nyw1 cyw1, .slice ayv1 nyv1 cyv1]) 4 rfl Try.sizeOf43 trv rfl rfl rfl rfl rfl (by simp [Value.oneCell']) rfl ?_
 refine rNil ?_
 refine qSeq rfl ?_
 refine hRet ?_
 exact fun w hs => ⟨[_], ⟨⟨_, rfl, run_load_agg Try.isAgg43 Try.sizeOf43 rfl (cBs 4 rfl w hs)⟩, trivial⟩, ⟨(ay1, ny1, cy1, Hy1, y1, ayw1, nyw1, cyw1, Hyw1, yw1, ayv1, nyv1, cyv1, Hyv1, yv1), rfl, ⟨by dsimp only; omega, ⟨⟨by dsimp only; omega, by dsimp only; omega⟩, by dsimp only; omega⟩⟩, hs.pick [1, 1, 1]⟩⟩
theorem spec_DrawCardOdds_c (ca : Option Addr) (bs : List Int) (cc : Nat) (w : World) (rcode : CellsAt ca (bs.map (Value.int .u8)) w) (hok : okBytes bs) :
  Calls Try.prog 48 #[.slice ca bs.length cc] w (Ret fun v w' => ∃ x : Option Addr × Nat × Nat × (Nat → Hd) × List Nd × Option Addr × Nat × Nat × (Nat → Hd) × List (List Int) × Option Addr × Nat × Nat × (Nat → Hd) × List (List Int) × Int × Int, v = .tuple #[.agg #[.slice x.1 x.2.1 x.2.2.1, .slice x.2.2.2.2.2.1 x.2.2.2.2.2.2.1 x.2.2.2.2.2.2.2.1, .slice x.2.2.2.2.2.2.2.2.2.2.1 x.2.2.2.2.2.2.2.2.2.2.2.1 x.2.2.2.2.2.2.2.2.2.2.2.2.1], .int .i64 x.2.2.2.2.2.2.2.2.2.2.2.2.2.2.2.1, .int .i64 x.2.2.2.2.2.2.2.2.2.2.2.2.2.2.2.2] ∧ (x.2.1 ≤ 250 ∧ ((1 ≤ x.2.2.2.2.2.2.1 ∧ x.2.2.2.2.2.2.1 ≤ 4) ∧ x.2.2.2.2.2.2.2.2.2.2.2.1 ≤ 4) ∧ ((-1 ≤ x.2.2.2.2.2.2.2.2.2.2.2.2.2.2.2.1 ∧ x.2.2.2.2.2.2.2.2.2.2.2.2.2.2.2.1 ≤ 2) ∧ (-1 ≤ x.2.2.2.2.2.2.2.2.2.2.2.2.2.2.2.2 ∧ x.2.2.2.2.2.2.2.2.2.2.2.2.2.2.2.2 ≤ 5))) ∧ Sep w none_ [RdR ndK x.1 x.2.1 x.2.2.2.1 x.2.2.2.2.1, RdR maK x.2.2.2.2.2.1 x.2.2.2.2.2.2.1 x.2.2.2.2.2.2.2.2.1 x.2.2.2.2.2.2.2.2.2.1, RdR maK x.2.2.2.2.2.2.2.2.2.2.1 x.2.2.2.2.2.2.2.2.2.2.2.1 x.2.2.2.2.2.2.2.2.2.2.2.2.2.1 x.2.2.2.2.2.2.2.2.2.2.2.2.2.2.1] w') := by
 have kcode : Kn w none_ [] (CellsAt ca (bs.map (Value.int .u8))) := fun w' hs => rcode.ext hs.upd
 refine fn (M := none_) (rs := [.cell 2 43, .tmp 3, .tmp 4]) Try.func48 rfl Try.ntmps48 rfl rfl (Sep.start _ _) ?_
 refine hSeq ?_
 refine hReg (sl 0 (sq 1 (sq 2 sz))) (by kernel_rfl) ?_
 refine alc Try.zeroValue43 rfl trv1 rfl rfl (fun bka1 hbka1 => ?_)
 refine asI rfl rfl rfl ?_
 refine asI rfl rfl rfl ?_
 refine rNil ?_
 refine qSeq rfl ?_
 refine hSeq ?_
 refine hReg (sq 0 (sl 1 (sq 2 sz))) (by kernel_rfl) ?_
 refine mvS rfl rfl rfl ?_
 refine callN (α := Nat) (val := fun x => .pointer (some ⟨x, 0, none⟩)) (good := fun _ => True) (φ := fun x => srcP x ca bs cc) Try.call92 trv1 rfl rfl (fun w hs => (l01From_c ca bs cc w (kcode w (hs.sub (List.nil_sublist _))) hok).mono fun e w1 ⟨v, h0, bk, h1, h2, h3, h4⟩ => ⟨v, h0, bk, h1, trivial, h3, h4⟩) ?_
 rintro bks2 -
 refine asn rfl rfl rfl ?_
 refine rNil ?_
 refine qSeq rfl ?_
 refine hSeq ?_
 refine hReg (sq 0 (sl 1 (sl 2 (sl 3 sz)))) (by kernel_rfl) ?_
 refine mvP rfl rfl rfl ?_
 refine callMK (α := Option Addr × Nat × Nat × (Nat → Hd) × List Nd × Option Addr × Nat × Nat × (Nat → Hd) × List (List Int) × Option Addr × Nat × Nat × (Nat → Hd) × List (List Int)) (Lf := [srcP bks2 ca bs cc]) (Lr := [blk bka1 43 [.slice none 0 0, .slice none 0 0, .slice none 0 0]]) (good := fun x => x.2.1 ≤ 250 ∧ ((1 ≤ x.2.2.2.2.2.2.1 ∧ x.2.2.2.2.2.2.1 ≤ 4) ∧ x.2.2.2.2.2.2.2.2.2.2.2.1 ≤ 4)) (φs := fun x => [srcP bks2 ca bs cc, RdR ndK x.1 x.2.1 x.2.2.2.1 x.2.2.2.2.1, RdR maK x.2.2.2.2.2.1 x.2.2.2.2.2.2.1 x.2.2.2.2.2.2.2.2.1 x.2.2.2.2.2.2.2.2.2.1, RdR maK x.2.2.2.2.2.2.2.2.2.2.1 x.2.2.2.2.2.2.2.2.2.2.2.1 x.2.2.2.2.2.2.2.2.2.2.2.2.2.1 x.2.2.2.2.2.2.2.2.2.2.2.2.2.2]) (val := fun x => .agg #[.slice x.1 x.2.1 x.2.2.1, .slice x.2.2.2.2.2.1 x.2.2.2.2.2.2.1 x.2.2.2.2.2.2.2.1, .slice x.2.2.2.2.2.2.2.2.2.2.1 x.2.2.2.2.2.2.2.2.2.2.2.1 x.2.2.2.2.2.2.2.2.2.2.2.2.1]) rfl Try.call106 trv1 rfl rfl (fun w M1 hs hk => spec_l21Draw_c bks2 ca bs cc  w M1 hs (hk _ kcode) hok ) ?_
 rintro ⟨ay1, ny1, cy1, Hy1, y1, ayw1, nyw1, cyw1, Hyw1, yw1, ayv1, nyv1, cyv1, Hyv1, yv1⟩ hr1
 try dsimp only at hr1
 refine rPieces (L' := [srcP bks2 ca bs cc, RdR ndK ay1 ny1 Hy1 y1, RdR maK ayw1 nyw1 Hyw1 yw1, RdR maK ayv1 nyv1 Hyv1 yv1, blk bka1 43 [.slice none 0 0, .slice none 0 0, .slice none 0 0]]) (fun _ h => h) ?_
 refine rKnow (fun w hs => (show RdR ndK ay1 ny1 Hy1 y1 w from hs.at_ 1 rfl).1) (fun lenn3 => ?_)
 refine rKnow (fun w hs => (show RdR maK ayw1 nyw1 Hyw1 yw1 w from hs.at_ 2 rfl).1) (fun lenn4 => ?_)
 refine rKnow (fun w hs => (show RdR maK ayv1 nyv1 Hyv1 yv1 w from hs.at_ 3 rfl).1) (fun lenn5 => ?_)
 refine alc Try.zeroValue43 rfl trv1 rfl rfl (fun bka6 hbka6 => ?_)
 refine stAl (vs := [.slice ay1 ny1 cy1, .slice ayw1 nyw1 cyw1, .slice ayv1 nyv1 cyv1]) 0 rfl Try.sizeOf43 trv rfl rfl rfl rfl rfl (by simp [Value.oneCell']) rfl ?_
 refine rNil ?_
 refine qSeq rfl ?_
 refine hSeq ?_
 refine hReg (sq 0 (sl 1 (sq 2 (sl 3 (sq 4 (sq 5 (sq 6 sz))))))) (by kernel_rfl) ?_
 refine mvP rfl rfl rfl ?_
 refine rPieces (L' := [srcP bks2 ca bs cc, blk bka6 43 [.slice ay1 ny1 cy1, .slice ayw1 nyw1 cyw1, .slice ayv1 nyv1 cyv1], RdR ndK ay1 ny1 Hy1 y1, RdR maK ayw1 nyw1 Hyw1 yw1, RdR maK ayv1 nyv1 Hyv1 yv1, blk bka1 43 [.slice none 0 0, .slice none 0 0, .slice none 0 0]]) (fun _ h => h.perm (pull (i := 1) rfl)) ?_
 refine callMK (α := Int) (Lf := [srcP bks2 ca bs cc]) (Lr := [blk bka6 43 [.slice ay1 ny1 cy1, .slice ayw1 nyw1 cyw1, .slice ayv1 nyv1 cyv1], RdR ndK ay1 ny1 Hy1 y1, RdR maK ayw1 nyw1 Hyw1 yw1, RdR maK ayv1 nyv1 Hyv1 yv1, blk bka1 43 [.slice none 0 0, .slice none 0 0, .slice none 0 0]]) (good := fun x => 0 ≤ x ∧ (x < (3 : Int) ∨ x = 0)) (φs := fun x => [srcP bks2 ca bs cc]) (val := fun x => .int .i64 x) rfl Try.call95 trv1 rfl rfl (fun w M1 hs hk => src_next bks2 ca bs cc (3 : Int) w M1 hs (hk _ kcode) hok) ?_
 intro x2 hx2
 try dsimp only at hx2
 refine rPieces (L' := [srcP bks2 ca bs cc, blk bka6 43 [.slice ay1 ny1 cy1, .slice ayw1 nyw1 cyw1, .slice ayv1 nyv1 cyv1], RdR ndK ay1 ny1 Hy1 y1, RdR maK ayw1 nyw1 Hyw1 yw1, RdR maK ayv1 nyv1 Hyv1 yv1, blk bka1 43 [.slice none 0 0, .slice none 0 0, .slice none 0 0]]) (fun _ h => h) ?_
 refine mvP rfl rfl rfl ?_
 refine callMK (α := Int) (Lf := [srcP bks2 ca bs cc]) (Lr := [blk bka6 43 [.slice ay1 ny1 cy1, .slice ayw1 nyw1 cyw1, .slice ayv1 nyv1 cyv1], RdR ndK ay1 ny1 Hy1 y1, RdR maK ayw1 nyw1 Hyw1 yw1, RdR maK ayv1 nyv1 Hyv1 yv1, blk bka1 43 [.slice none 0 0, .slice none 0 0, .slice none 0 0]]) (good := fun x => 0 ≤ x ∧ (x < (16 : Int) ∨ x = 0)) (φs := fun x => [srcP bks2 ca bs cc]) (val := fun x => .int .i64 x) rfl Try.call95 trv1 rfl rfl (fun w M1 hs hk => src_next bks2 ca bs cc (16 : Int) w M1 hs (hk _ kcode) hok) ?_
 intro x3 hx3
 try dsimp only at hx3
 refine rPieces (L' := [srcP bks2 ca bs cc, blk bka6 43 [.slice ay1 ny1 cy1, .slice ayw1 nyw1 cyw1, .slice ayv1 nyv1 cyv1], RdR ndK ay1 ny1 Hy1 y1, RdR maK ayw1 nyw1 Hyw1 yw1, RdR maK ayv1 nyv1 Hyv1 yv1, blk bka1 43 [.slice none 0 0, .slice none 0 0, .slice none 0 0]]) (fun _ h => h) ?_
 refine quo rfl rfl rfl rfl (by omega) ?_
 refine sub rfl rfl rfl rfl (by omega) ?_
 refine asI rfl rfl rfl ?_
 refine rNil ?_
 refine qSeq rfl ?_
 refine hSeq ?_
 refine hDraw (Ls := [blk bka6 43 [.slice ay1 ny1 cy1, .slice ayw1 nyw1 cyw1, .slice ayv1 nyv1 cyv1]]) (by kernel_rfl) (sq 0 (sq 1 (sq 2 (sq 3 (sq 4 (sq 5 (sq 6 (sq 8 (sl 7 (sl 9 (sq 10 (sq 11 (sl 12 (sq 13 (sq 14 sz))))))))))))))) (by kernel_rfl) (.cons _ (.cons_cons _ (.cons _ (.cons _ (.cons _ (.cons _ .slnil)))))) ?_
 refine ldAq Try.isAgg43 Try.sizeOf43 (cBs 0 rfl) rfl rfl rfl rfl ?_
 refine mvI rfl rfl rfl ?_
 refine mvP rfl rfl rfl ?_
 refine fld fl43_1 rfl rfl rfl ?_
 refine ldq Try.isAgg41 (cB 0 rfl rfl) rfl rfl rfl ?_
 refine lenS Try.runUnderlying41 rfl rfl rfl ?_
 refine add rfl rfl rfl rfl (by omega) ?_
 refine mvP rfl rfl rfl ?_
 refine callMK (α := Int) (Lf := [srcP bks2 ca bs cc]) (Lr := [blk bka6 43 [.slice ay1 ny1 cy1, .slice ayw1 nyw1 cyw1, .slice ayv1 nyv1 cyv1], RdR ndK ay1 ny1 Hy1 y1, RdR maK ayw1 nyw1 Hyw1 yw1, RdR maK ayv1 nyv1 Hyv1 yv1, blk bka1 43 [.slice none 0 0, .slice none 0 0, .slice none 0 0]]) (good := fun x => 0 ≤ x ∧ (x < (((nyw1 : Int) + 1)) ∨ x = 0)) (φs := fun x => [srcP bks2 ca bs cc]) (val := fun x => .int .i64 x) rfl Try.call95 (by exact (fun _ _ h => h.pick [1])) rfl rfl (fun w M1 hs hk => src_next bks2 ca bs cc (((nyw1 : Int) + 1)) w M1 hs (hk _ kcode) hok) ?_
 intro x4 hx4
 try dsimp only at hx4
 refine rPieces (L' := [srcP bks2 ca bs cc, blk bka6 43 [.slice ay1 ny1 cy1, .slice ayw1 nyw1 cyw1, .slice ayv1 nyv1 cyv1], RdR ndK ay1 ny1 Hy1 y1, RdR maK ayw1 nyw1 Hyw1 yw1, RdR maK ayv1 nyv1 Hyv1 yv1, blk bka1 43 [.slice none 0 0, .slice none 0 0, .slice none 0 0]]) (fun _ h => h) ?_
 refine callMK (α := Int) (Lf := [srcP bks2 ca bs cc]) (Lr := [blk bka6 43 [.slice ay1 ny1 cy1, .slice ayw1 nyw1 cyw1, .slice ayv1 nyv1 cyv1], RdR ndK ay1 ny1 Hy1 y1, RdR maK ayw1 nyw1 Hyw1 yw1, RdR maK ayv1 nyv1 Hyv1 yv1, blk bka1 43 [.slice none 0 0, .slice none 0 0, .slice none 0 0]]) (good := fun x => 0 ≤ x ∧ (x < (16 : Int) ∨ x = 0)) (φs := fun x => [srcP bks2 ca bs cc]) (val := fun x => .int .i64 x) rfl Try.call95 (by exact (fun _ _ h => h.pick [1])) rfl rfl (fun w M1 hs hk => src_next bks2 ca bs cc (16 : Int) w M1 hs (hk _ kcode) hok) ?_
 intro x5 hx5
 try dsimp only at hx5
 refine rPieces (L' := [srcP bks2 ca bs cc, blk bka6 43 [.slice ay1 ny1 cy1, .slice ayw1 nyw1 cyw1, .slice ayv1 nyv1 cyv1], RdR ndK ay1 ny1 Hy1 y1, RdR maK ayw1 nyw1 Hyw1 yw1, RdR maK ayv1 nyv1 Hyv1 yv1, blk bka1 43 [.slice none 0 0, .slice none 0 0, .slice none 0 0]]) (fun _ h => h) ?_
 refine quo rfl rfl rfl rfl (by omega) ?_
 refine sub rfl rfl rfl rfl (by omega) ?_
 refine stAl (vs := [.slice ay1 ny1 cy1, .slice ayw1 nyw1 cyw1, .slice ayv1 nyv1 cyv1]) 5 rfl Try.sizeOf43 (fun _ h => h.pick [1]) rfl rfl rfl rfl rfl (by simp [Value.oneCell']) rfl ?_
 refine asI rfl rfl rfl ?_
 refine asI rfl rfl rfl ?_
 refine rNil ?_
 refine qSeq rfl ?_
 refine hRet ?_
 exact fun w hs => ⟨[_, .int .i64 ((x2 - (x3 / 15))), .int .i64 ((x4 - (x5 / 15)))], ⟨⟨_, rfl, run_load_agg Try.isAgg43 Try.sizeOf43 rfl (cBs 5 rfl w hs)⟩, ⟨rfl, ⟨rfl, trivial⟩⟩⟩, ⟨(ay1, ny1, cy1, Hy1, y1, ayw1, nyw1, cyw1, Hyw1, yw1, ayv1, nyv1, cyv1, Hyv1, yv1, (x2 - (x3 / 15)), (x4 - (x5 / 15))), rfl, ⟨by dsimp only; omega, ⟨⟨by dsimp only; omega, by dsimp only; omega⟩, by dsimp only; omega⟩, by dsimp only; omega, by dsimp only; omega⟩, hs.pick [2, 2, 2]⟩⟩
theorem spec_DrawHighCardGame_c (ca : Option Addr) (bs : List Int) (cc : Nat) (w : World) (rcode : CellsAt ca (bs.map (Value.int .u8)) w) (hok : okBytes bs) :
  Calls Try.prog 54 #[.slice ca bs.length cc] w (Ret fun v w' => ∃ x : Option Addr × Nat × Nat × (Nat → Hd) × List Nd × Int × Bool, v = .tuple #[.agg #[.slice x.1 x.2.1 x.2.2.1], .int .i64 x.2.2.2.2.2.1, .bool x.2.2.2.2.2.2] ∧ (x.2.1 ≤ 250 ∧ (0 ≤ x.2.2.2.2.2.1 ∧ x.2.2.2.2.2.1 ≤ 7)) ∧ Sep w none_ [RdR ndK x.1 x.2.1 x.2.2.2.1 x.2.2.2.2.1] w') := by
 have kcode : Kn w none_ [] (CellsAt ca (bs.map (Value.int .u8))) := fun w' hs => rcode.ext hs.upd
 refine fn (M := none_) (rs := [.cell 2 26, .tmp 3, .tmp 4]) Try.func54 rfl Try.ntmps54 rfl rfl (Sep.start _ _) ?_
 refine hSeq ?_
 refine hReg (sl 0 (sq 1 (sq 2 sz))) (by kernel_rfl) ?_
 refine alc Try.zeroValue26 rfl trv1 rfl rfl (fun bka1 hbka1 => ?_)
 refine asI rfl rfl rfl ?_
 refine asB rfl rfl rfl ?_
 refine rNil ?_
 refine qSeq rfl ?_
 refine hSeq ?_
 refine hReg (sq 0 (sl 1 (sq 2 sz))) (by kernel_rfl) ?_
 refine mvS rfl rfl rfl ?_
 refine callN (α := Nat) (val := fun x => .pointer (some ⟨x, 0, none⟩)) (good := fun _ => True) (φ := fun x => srcP x ca bs cc) Try.call92 trv1 rfl rfl (fun w hs => (l01From_c ca bs cc w (kcode w (hs.sub (List.nil_sublist _))) hok).mono fun e w1 ⟨v, h0, bk, h1, h2, h3, h4⟩ => ⟨v, h0, bk, h1, trivial, h3, h4⟩) ?_
 rintro bks2 -
 refine asn rfl rfl rfl ?_
 refine rNil ?_
 refine qSeq rfl ?_
 refine hSeq ?_
 refine hReg (sq 0 (sl 1 (sl 2 (sl 3 sz)))) (by kernel_rfl) ?_
 refine mvP rfl rfl rfl ?_
 refine callMK (α := Option Addr × Nat × Nat × (Nat → Hd) × List Nd) (Lf := [srcP bks2 ca bs cc]) (Lr := [blk bka1 26 [.slice none 0 0]]) (good := fun x => x.2.1 ≤ 250) (φs := fun x => [srcP bks2 ca bs cc, RdR ndK x.1 x.2.1 x.2.2.2.1 x.2.2.2.2]) (val := fun x => .agg #[.slice x.1 x.2.1 x.2.2.1]) rfl Try.call91 trv1 rfl rfl (fun w M1 hs hk => spec_l20Draw_c bks2 ca bs cc  w M1 hs (hk _ kcode) hok ) ?_
 rintro ⟨ay1, ny1, cy1, Hy1, y1⟩ hr1
 try dsimp only at hr1
 refine rPieces (L' := [srcP bks2 ca bs cc, RdR ndK ay1 ny1 Hy1 y1, blk bka1 26 [.slice none 0 0]]) (fun _ h => h) ?_
 refine rKnow (fun w hs => (show RdR ndK ay1 ny1 Hy1 y1 w from hs.at_ 1 rfl).1) (fun lenn3 => ?_)
 refine alc Try.zeroValue26 rfl trv1 rfl rfl (fun bka4 hbka4 => ?_)
 refine stAl (vs := [.slice ay1 ny1 cy1]) 0 rfl Try.sizeOf26 trv rfl rfl rfl rfl rfl (by simp [Value.oneCell']) rfl ?_
 refine rNil ?_
 refine qSeq rfl ?_
 refine hSeq ?_
 refine hReg (sq 0 (sl 1 (sq 2 sz))) (by kernel_rfl) ?_
 refine mvP rfl rfl rfl ?_
 refine rPieces (L' := [srcP bks2 ca bs cc, blk bka4 26 [.slice ay1 ny1 cy1], RdR ndK ay1 ny1 Hy1 y1, blk bka1 26 [.slice none 0 0]]) (fun _ h => h.perm (pull (i := 1) rfl)) ?_
 refine callMK (α := Int) (Lf := [srcP bks2 ca bs cc]) (Lr := [blk bka4 26 [.slice ay1 ny1 cy1], RdR ndK ay1 ny1 Hy1 y1, blk bka1 26 [.slice none 0 0]]) (good := fun x => 0 ≤ x ∧ (x < (8 : Int) ∨ x = 0)) (φs := fun x => [srcP bks2 ca bs cc]) (val := fun x => .int .i64 x) rfl Try.call95 trv1 rfl rfl (fun w M1 hs hk => src_next bks2 ca bs cc (8 : Int) w M1 hs (hk _ kcode) hok) ?_
 intro x2 hx2
 try dsimp only at hx2
 refine rPieces (L' := [srcP bks2 ca bs cc, blk bka4 26 [.slice ay1 ny1 cy1], RdR ndK ay1 ny1 Hy1 y1, blk bka1 26 [.slice none 0 0]]) (fun _ h => h) ?_
 refine asI rfl rfl rfl ?_
 refine rNil ?_
 refine qSeq rfl ?_
 refine hSeq ?_
 refine hDraw (Ls := [blk bka4 26 [.slice ay1 ny1 cy1]]) (by kernel_rfl) (sq 0 (sq 1 (sq 2 (sl 3 (sq 4 (sl 5 (sq 6 (sq 7 sz)))))))) (by kernel_rfl) (.cons _ (.cons_cons _ (.cons _ (.cons _ .slnil)))) ?_
 refine ldAq Try.isAgg26 Try.sizeOf26 (cBs 0 rfl) rfl rfl rfl rfl ?_
 refine mvI rfl rfl rfl ?_
 refine mvP rfl rfl rfl ?_
 refine callMK (α := Int) (Lf := [srcP bks2 ca bs cc]) (Lr := [blk bka4 26 [.slice ay1 ny1 cy1], RdR ndK ay1 ny1 Hy1 y1, blk bka1 26 [.slice none 0 0]]) (good := fun x => 0 ≤ x ∧ (x < (2 : Int) ∨ x = 0)) (φs := fun x => [srcP bks2 ca bs cc]) (val := fun x => .int .i64 x) rfl Try.call95 (by exact (fun _ _ h => h.pick [1])) rfl rfl (fun w M1 hs hk => src_next bks2 ca bs cc (2 : Int) w M1 hs (hk _ kcode) hok) ?_
 intro x3 hx3
 try dsimp only at hx3
 refine rPieces (L' := [srcP bks2 ca bs cc, blk bka4 26 [.slice ay1 ny1 cy1], RdR ndK ay1 ny1 Hy1 y1, blk bka1 26 [.slice none 0 0]]) (fun _ h => h) ?_
 refine eql rfl rfl rfl rfl ?_
 refine stAl (vs := [.slice ay1 ny1 cy1]) 3 rfl Try.sizeOf26 (fun _ h => h.pick [1]) rfl rfl rfl rfl rfl (by simp [Value.oneCell']) rfl ?_
 refine asI rfl rfl rfl ?_
 refine asB rfl rfl rfl ?_
 refine rNil ?_
 refine qSeq rfl ?_
 refine hRet ?_
 exact fun w hs => ⟨[_, .int .i64 x2, .bool (decide (x3 = 0))], ⟨⟨_, rfl, run_load_agg Try.isAgg26 Try.sizeOf26 rfl (cBs 3 rfl w hs)⟩, ⟨rfl, ⟨rfl, trivial⟩⟩⟩, ⟨(ay1, ny1, cy1, Hy1, y1, x2, decide (x3 = 0)), rfl, ⟨by dsimp only; omega, by dsimp only; omega, by dsimp only; omega⟩, hs.pick [2]⟩⟩
end Go.Proofs.Ytjengglpbdgmnaa
