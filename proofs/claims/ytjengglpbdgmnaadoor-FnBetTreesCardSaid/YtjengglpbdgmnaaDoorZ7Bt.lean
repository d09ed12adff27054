/- Contracts of bet trees of the program. Their conditions stand in each. -/
import Derived.Test.YtjengglpbdgmnaaDoorZ6Bt
import Derived.Test.YtjengglpbdgmnaaDoorZ1Bt
import Derived.Test.YtjengglpbdgmnaaDoorZ2Bt
import Derived.Test.YtjengglpbdgmnaaDoorZ3Bt
import Derived.Test.YtjengglpbdgmnaaDoorZ4Bt
import Derived.Test.YtjengglpbdgmnaaDoorZ5Bt
import Derived.Test.YtjengglpbdgmnaaDoorRows
namespace Go.Proofs.YtjengglpbdgmnaaDoor
open Go Go.RowKit V
set_option linter.unusedVariables false
set_option linter.unusedSimpArgs false
set_option maxRecDepth 100000
theorem fl78_0 : Fld Tryd.prog 78 0 0 := by
 intro w ad; simp [Instr.fieldAt, Tryd.runUnderlying78, Instr.sureAddr, fieldPlace, Tryd.sizeOf26]
theorem fl78_1 : Fld Tryd.prog 78 1 1 := by
 intro w ad; simp [Instr.fieldAt, Tryd.runUnderlying78, Instr.sureAddr, fieldPlace, Tryd.sizeOf2]
theorem fl78_2 : Fld Tryd.prog 78 2 2 := by
 intro w ad; simp [Instr.fieldAt, Tryd.runUnderlying78, Instr.sureAddr, fieldPlace, Tryd.sizeOf2]
theorem ar80 : Arr Tryd.prog 80 2 1 := ⟨2, Tryd.runUnderlying80, Tryd.sizeOf2⟩
theorem bld52_0_1_2_3_4 (v0 v1 v2 v3 v4 : Value) (h0 : v0.cells = #[v0]) (h1 : v1.cells = #[v1]) (h2 : v2.cells = #[v2]) (h3 : v3.cells = #[v3]) (h4 : v4.cells = #[v4]) : ∀ w, (Instr.build 52 ([(0, v0), (1, v1), (2, v2), (3, v3), (4, v4)] : List (Nat × Value)).toArray).run Tryd.prog w = .ok (.agg ([v0, v1, v2, v3, v4] : List Value).toArray) w := by
 intro w; simp [Instr.build, Instr.fill, Tryd.zeroValue52, Tryd.runUnderlying52, aggCells, Tryd.sizeOf2, Tryd.sizeOf50, h0, h1, h2, h3, h4]
theorem bld78_1_2 (v1 v2 : Value) (h1 : v1.cells = #[v1]) (h2 : v2.cells = #[v2]) : ∀ w, (Instr.build 78 ([(1, v1), (2, v2)] : List (Nat × Value)).toArray).run Tryd.prog w = .ok (.agg ([.slice none 0 0, v1, v2] : List Value).toArray) w := by
 intro w; simp [Instr.build, Instr.fill, Tryd.zeroValue78, Tryd.runUnderlying78, aggCells, Tryd.sizeOf2, Tryd.sizeOf26, h1, h2]
theorem bld80_0_1 (v0 v1 : Value) (h0 : v0.cells = #[v0]) (h1 : v1.cells = #[v1]) : ∀ w, (Instr.build 80 ([(0, v0), (1, v1)] : List (Nat × Value)).toArray).run Tryd.prog w = .ok (.agg ([v0, v1] : List Value).toArray) w := by
 intro w; simp [Instr.build, Instr.fill, Tryd.zeroValue80, Tryd.runUnderlying80, aggCells, Tryd.sizeOf2, h0, h1]
theorem impl_treeBuilder_add_c (be : Nat) (az : Option Addr) (nz : Nat) (cz : Nat) (Hz : Nat → Hd) (z : List Nd) (pl : Int) (p0 : Int) (p1 : Int) (fo : Int) (bet : Int) (rs : Int) (w : World) (M0 : Nat → Prop) (hs0 : Sep w M0 [blk be 78 [.slice az nz cz, .int .i64 bet, .int .i64 rs], OwnR ndK 52 2 az nz cz Hz z] w) (hn : nz ≤ 1000) :
  Calls Tryd.prog 69 #[.pointer (some ⟨be, 0, none⟩), .agg #[.int .i64 pl, .int .i64 p0, .int .i64 p1, .int .i64 fo, .slice none 0 0]] w (Ret fun v w' => ∃ x : Option Addr × Nat × (Nat → Hd), v = .int .i64 (nz : Int) ∧ True ∧ Sep w M0 [blk be 78 [.slice x.1 (nz + 1) x.2.1, .int .i64 bet, .int .i64 rs], OwnR ndK 52 2 x.1 (nz + 1) x.2.1 x.2.2 ((z ++ [(Nd.mk pl p0 p1 fo [])]))] w') := by
 have lzz := (show OwnR ndK 52 2 az nz cz Hz z w from hs0.at_ 1 rfl)
 have mmz := Own.max lzz.2.1
 have lz : z.length = nz := lzz.1
 clear lzz
 refine fn (M := M0) (rs := [.tmp 4]) Tryd.func69 rfl Tryd.ntmps69 rfl rfl hs0 ?_
 refine hSeq ?_
 refine hReg (sl 0 (sq 1 sz)) (by kernel_rfl) ?_
 refine box trv1 rfl rfl rfl rfl (fun bkb1 hbkb1 => ?_)
 refine asI rfl rfl rfl ?_
 refine rNil ?_
 refine qSeq rfl ?_
 refine hSeq ?_
 refine hDraw (Ls := []) (by kernel_rfl) (sq 0 (sq 1 (sq 2 (sq 3 (sq 4 (.alt (sl 5 (sl 6 (sl 7 (sl 8 (sq 9 (sq 10 (sq 11 (sl 12 sz)))))))) (sl 6 (.alt (sl 5 (sl 7 (sl 8 (sq 9 (sq 10 (sq 11 (sl 12 sz))))))) (sl 7 (sl 5 (sl 8 (sq 9 (sq 10 (sq 11 (sl 12 sz))))))))))))))) (by kernel_rfl) (.cons _ (.cons _ (.cons _ .slnil))) ?_
 refine mvP rfl rfl rfl ?_
 refine mvP rfl rfl rfl ?_
 refine nilc rfl rfl rfl ?_
 refine fld fl78_0 rfl rfl rfl ?_
 refine fld fl26_0 rfl rfl rfl ?_
 refine rAlt ?_ ?_
 ·
  refine ldl Tryd.isAgg24 (cB 1 rfl rfl) (fun _ h => h.pick []) rfl rfl rfl ?_
  refine ldAl Tryd.isAgg52 Tryd.sizeOf52 (cBs 0 rfl) (fun _ h => h.pick []) rfl rfl rfl rfl ?_
  refine bsl (fun _ _ h => h.pick []) rfl rfl rfl (bsl24_1 (.int .i64 pl) (.int .i64 p0) (.int .i64 p1) (.int .i64 fo) (.slice none 0 0) rfl rfl rfl rfl rfl) (fun bkl2 hbkl2 => ?_)
  refine rPieces (fun _ h => Sep.nilI 2 h) ?_
  refine apR (hd := (none, 0)) (x := (Nd.mk pl p0 p1 fo [])) 4 0 1 ndK.ok rfl rfl rfl (fun h => by first | rfl | (dsimp only at h; rw [h]; rfl) | (rw [h]; rfl) | exact congrArg (fun m => [Value.slice _ m _]) h) mk24 (fun _ _ h => h.pick []) rfl rfl rfl rfl (by omega) ?_
  intro aq1 cq1
  refine nilc rfl rfl rfl ?_
  refine fld fl78_0 rfl rfl rfl ?_
  refine fld fl26_0 rfl rfl rfl ?_
  refine stl (v := .slice _ _ _) 3 rfl Tryd.sizeOf24 (fun _ h => h.pick []) rfl rfl rfl rfl rfl (Nat.le_of_ble_eq_true rfl) ?_
  refine rNil ?_
  refine qSeq rfl ?_
  refine hSeq ?_
  refine hReg (sq 0 (sq 1 (sq 2 (sq 3 (sl 4 (sq 5 (sq 6 (sq 7 sz)))))))) (by kernel_rfl) ?_
  refine mvP rfl rfl rfl ?_
  refine nilc rfl rfl rfl ?_
  refine fld fl78_0 rfl rfl rfl ?_
  refine fld fl26_0 rfl rfl rfl ?_
  refine ldl Tryd.isAgg24 (cB 3 rfl rfl) trv rfl rfl rfl ?_
  refine lenS Tryd.runUnderlying24 rfl rfl rfl ?_
  refine sub rfl rfl rfl rfl (by omega) ?_
  refine asI rfl rfl rfl ?_
  refine rNil ?_
  refine qSeq rfl ?_
  refine hRet ?_
  exact fun w hs => ⟨[.int .i64 (((((nz + 1) : Nat) : Int) - 1))], ⟨rfl, trivial⟩, ⟨(aq1, cq1, (hset Hz z.length (none, 0))), vI (by omega), trivial, hs.pick [3, 0]⟩⟩
 ·
  refine ldAl Tryd.isAgg52 Tryd.sizeOf52 (cBs 0 rfl) (fun _ h => h.pick []) rfl rfl rfl rfl ?_
  refine rAlt ?_ ?_
  ·
   refine ldl Tryd.isAgg24 (cB 1 rfl rfl) (fun _ h => h.pick []) rfl rfl rfl ?_
   refine bsl (fun _ _ h => h.pick []) rfl rfl rfl (bsl24_1 (.int .i64 pl) (.int .i64 p0) (.int .i64 p1) (.int .i64 fo) (.slice none 0 0) rfl rfl rfl rfl rfl) (fun bkl4 hbkl4 => ?_)
   refine rPieces (fun _ h => Sep.nilI 2 h) ?_
   refine apR (hd := (none, 0)) (x := (Nd.mk pl p0 p1 fo [])) 4 0 1 ndK.ok rfl rfl rfl (fun h => by first | rfl | (dsimp only at h; rw [h]; rfl) | (rw [h]; rfl) | exact congrArg (fun m => [Value.slice _ m _]) h) mk24 (fun _ _ h => h.pick []) rfl rfl rfl rfl (by omega) ?_
   intro aq2 cq2
   refine nilc rfl rfl rfl ?_
   refine fld fl78_0 rfl rfl rfl ?_
   refine fld fl26_0 rfl rfl rfl ?_
   refine stl (v := .slice _ _ _) 3 rfl Tryd.sizeOf24 (fun _ h => h.pick []) rfl rfl rfl rfl rfl (Nat.le_of_ble_eq_true rfl) ?_
   refine rNil ?_
   refine qSeq rfl ?_
   refine hSeq ?_
   refine hReg (sq 0 (sq 1 (sq 2 (sq 3 (sl 4 (sq 5 (sq 6 (sq 7 sz)))))))) (by kernel_rfl) ?_
   refine mvP rfl rfl rfl ?_
   refine nilc rfl rfl rfl ?_
   refine fld fl78_0 rfl rfl rfl ?_
   refine fld fl26_0 rfl rfl rfl ?_
   refine ldl Tryd.isAgg24 (cB 3 rfl rfl) trv rfl rfl rfl ?_
   refine lenS Tryd.runUnderlying24 rfl rfl rfl ?_
   refine sub rfl rfl rfl rfl (by omega) ?_
   refine asI rfl rfl rfl ?_
   refine rNil ?_
   refine qSeq rfl ?_
   refine hRet ?_
   exact fun w hs => ⟨[.int .i64 (((((nz + 1) : Nat) : Int) - 1))], ⟨rfl, trivial⟩, ⟨(aq2, cq2, (hset Hz z.length (none, 0))), vI (by omega), trivial, hs.pick [3, 0]⟩⟩
  ·
   refine bsl (fun _ _ h => h.pick []) rfl rfl rfl (bsl24_1 (.int .i64 pl) (.int .i64 p0) (.int .i64 p1) (.int .i64 fo) (.slice none 0 0) rfl rfl rfl rfl rfl) (fun bkl6 hbkl6 => ?_)
   refine ldl Tryd.isAgg24 (cB 2 rfl rfl) (fun _ h => h.pick []) rfl rfl rfl ?_
   refine rPieces (fun _ h => Sep.nilI 2 h) ?_
   refine apR (hd := (none, 0)) (x := (Nd.mk pl p0 p1 fo [])) 4 0 1 ndK.ok rfl rfl rfl (fun h => by first | rfl | (dsimp only at h; rw [h]; rfl) | (rw [h]; rfl) | exact congrArg (fun m => [Value.slice _ m _]) h) mk24 (fun _ _ h => h.pick []) rfl rfl rfl rfl (by omega) ?_
   intro aq3 cq3
   refine nilc rfl rfl rfl ?_
   refine fld fl78_0 rfl rfl rfl ?_
   refine fld fl26_0 rfl rfl rfl ?_
   refine stl (v := .slice _ _ _) 3 rfl Tryd.sizeOf24 (fun _ h => h.pick []) rfl rfl rfl rfl rfl (Nat.le_of_ble_eq_true rfl) ?_
   refine rNil ?_
   refine qSeq rfl ?_
   refine hSeq ?_
   refine hReg (sq 0 (sq 1 (sq 2 (sq 3 (sl 4 (sq 5 (sq 6 (sq 7 sz)))))))) (by kernel_rfl) ?_
   refine mvP rfl rfl rfl ?_
   refine nilc rfl rfl rfl ?_
   refine fld fl78_0 rfl rfl rfl ?_
   refine fld fl26_0 rfl rfl rfl ?_
   refine ldl Tryd.isAgg24 (cB 3 rfl rfl) trv rfl rfl rfl ?_
   refine lenS Tryd.runUnderlying24 rfl rfl rfl ?_
   refine sub rfl rfl rfl rfl (by omega) ?_
   refine asI rfl rfl rfl ?_
   refine rNil ?_
   refine qSeq rfl ?_
   refine hRet ?_
   exact fun w hs => ⟨[.int .i64 (((((nz + 1) : Nat) : Int) - 1))], ⟨rfl, trivial⟩, ⟨(aq3, cq3, (hset Hz z.length (none, 0))), vI (by omega), trivial, hs.pick [3, 0]⟩⟩
set_option maxHeartbeats 4000000 in
theorem impl_treeBuilder_decide_c_r : ∀ (f : Nat) (be : Nat) (az : Option Addr) (nz : Nat) (cz : Nat) (Hz : Nat → Hd) (z : List Nd) (pl : Int) (p0 : Int) (p1 : Int) (bet : Int) (rs : Int) (made : Int) (ck : Bool) (w : World) (M0 : Nat → Prop), Sep w M0 [blk be 78 [.slice az nz cz, .int .i64 bet, .int .i64 rs], OwnR ndK 52 2 az nz cz Hz z] w → (pl = 0 ∨ pl = 1) → ((0 ≤ p0 ∧ 0 ≤ p1) ∧ (1 ≤ bet ∧ bet ≤ 100) ∧ (0 ≤ (rs - made) ∧ (rs - made) ≤ 2) ∧ (0 ≤ made ∧ rs ≤ 2)) → (p0 + 100 * f ≤ 1000 ∧ p1 + 100 * f ≤ 1000) → ((pl = 0 ∧ p0 ≤ p1) ∨ (pl = 1 ∧ p1 ≤ p0)) → ((p0 ≠ p1 ∧ (rs - made) + 1 ≤ f) ∨ (p0 = p1 ∧ (rs - made) + Math.ckN ck ≤ f)) → (nz + 4 * Math.p2 f ≤ 1000) →
  Calls Tryd.prog 45 #[.pointer (some ⟨be, 0, none⟩), .int .i64 pl, .agg #[.int .i64 p0, .int .i64 p1], .bool ck, .int .i64 made] w (Ret fun v w' => ∃ x : Option Addr × Nat × Nat × (Nat → Hd), v = .int .i64 (nz : Int) ∧ True ∧ Sep w M0 [blk be 78 [.slice x.1 x.2.1 x.2.2.1, .int .i64 bet, .int .i64 rs], OwnR ndK 52 2 x.1 x.2.1 x.2.2.1 x.2.2.2 ((z ++ Math.growF f pl p0 p1 bet (rs - made) ck nz))] w') := by
 intro f
 induction f with
 | zero =>
  intro be az nz cz Hz z pl p0 p1 bet rs made ck w M0 hs0 hpl h0 hb ho hm hn
  exfalso; have hk1 : Math.ckN true = 2 := rfl; have hk0 : Math.ckN false = 3 := rfl; cases ck <;> omega
 | succ f ih =>
   intro be az nz cz Hz z pl p0 p1 bet rs made ck w M0 hs0 hpl h0 hb ho hm hn
   have lzz := (show OwnR ndK 52 2 az nz cz Hz z w from hs0.at_ 1 rfl)
   have mmz := Own.max lzz.2.1
   have lz : z.length = nz := lzz.1
   clear lzz
   have hp2 : Math.p2 (f + 1) = Math.p2 f + Math.p2 f := rfl
   have hk1 : Math.ckN true = 2 := rfl
   have hk0 : Math.ckN false = 3 := rfl
   have hpp := Math.p2_pos f
   rcases hpl with rfl | rfl
   ·
    refine fn (M := M0) (rs := [.tmp 10]) Tryd.func45 rfl Tryd.ntmps45 rfl rfl hs0 ?_
    refine hSeq ?_
    refine hReg (sl 0 (sq 1 sz)) (by kernel_rfl) ?_
    refine box trv1 rfl rfl rfl rfl (fun bkb1 hbkb1 => ?_)
    refine asI rfl rfl rfl ?_
    refine rNil ?_
    refine qSeq rfl ?_
    refine hSeq ?_
    refine hReg (sq 0 (sq 1 (sq 2 sz))) (by kernel_rfl) ?_
    refine mvI rfl rfl rfl ?_
    refine sub rfl rfl rfl rfl (by omega) ?_
    refine asI rfl rfl rfl ?_
    refine rNil ?_
    refine qSeq rfl ?_
    refine hSeq ?_
    refine hReg (sq 0 (sq 1 (sq 2 (sl 3 (sq 4 (sl 5 (sq 6 (sl 7 (sq 8 sz))))))))) (by kernel_rfl) ?_
    refine mvP rfl rfl rfl ?_
    refine mvI rfl rfl rfl ?_
    refine ixA (z := 0) ar80 rfl rfl rfl rfl (by decide) ?_
    refine ldl Tryd.isAgg2 (cB 0 rfl rfl) trv rfl rfl rfl ?_
    refine ixA (z := 1) ar80 rfl rfl rfl rfl (by decide) ?_
    refine ldl Tryd.isAgg2 (cB 0 rfl rfl) trv rfl rfl rfl ?_
    refine bld rfl rfl rfl (bld52_0_1_2_3 (.int .i64 _) (.int .i64 _) (.int .i64 _) (.int .i64 _) rfl rfl rfl rfl) ?_
    refine rPieces (fun _ h => h.pick [1, 1, 0]) ?_
    refine callM (α := Option Addr × Nat × (Nat → Hd)) (Lf := [blk be 78 [.slice az nz cz, .int .i64 bet, .int .i64 rs], OwnR ndK 52 2 az nz cz Hz z]) (Lr := [blk bkb1 80 [.int .i64 p0, .int .i64 p1]]) (φs := fun x => [blk be 78 [.slice x.1 (nz + 1) x.2.1, .int .i64 bet, .int .i64 rs], OwnR ndK 52 2 x.1 (nz + 1) x.2.1 x.2.2 (z ++ [(Nd.mk (0 : Int) p0 p1 (-1) [])])]) (val := fun x => .int .i64 (nz : Int)) rfl Tryd.call69 trv1 rfl rfl (fun w M0 hs => impl_treeBuilder_add_c be az nz cz Hz z (0 : Int) p0 p1 (-1) bet rs w M0 hs (by omega)) ?_
    rintro ⟨ag1, cg1, Hg1⟩ -
    refine rPieces (L' := [blk be 78 [.slice ag1 (nz + 1) cg1, .int .i64 bet, .int .i64 rs], OwnR ndK 52 2 ag1 (nz + 1) cg1 Hg1 ((z ++ [(Nd.mk (0 : Int) p0 p1 (-1) [])])), blk bkb1 80 [.int .i64 p0, .int .i64 p1]]) (fun _ h => h) ?_
    refine asI rfl rfl rfl ?_
    refine rNil ?_
    refine qSeq rfl ?_
    refine hSeq ?_
    refine hReg (sq 0 sz) (by kernel_rfl) ?_
    refine asS rfl rfl rfl ?_
    refine rNil ?_
    refine qSeq rfl ?_
    refine hSeq ?_
    refine hSeq ?_
    refine hDraw (Ls := [blk bkb1 80 [.int .i64 p0, .int .i64 p1]]) (by kernel_rfl) (sq 0 (sq 1 (sq 2 (sq 3 (sq 4 (sq 5 (sq 6 sz))))))) (by kernel_rfl) (.cons _ (.cons _ (.cons_cons _ .slnil))) ?_
    refine mvI rfl rfl rfl ?_
    refine ixA (z := 0) ar80 rfl rfl rfl rfl (by decide) ?_
    refine ldq Tryd.isAgg2 (cB 0 rfl rfl) rfl rfl rfl ?_
    refine mvI rfl rfl rfl ?_
    refine ixA (z := 1) ar80 rfl rfl rfl rfl (by decide) ?_
    refine ldq Tryd.isAgg2 (cB 0 rfl rfl) rfl rfl rfl ?_
    refine eql rfl rfl rfl rfl ?_
    refine rNil ?_
    refine qSeq rfl ?_
    refine hIfD rfl (fun c1 => ?_) (fun c1 => ?_)
    ·
     replace c1 : p0 = p1 := c1
     have he : p0 = p1 := by omega
     refine hSeq ?_
     refine hSeq ?_
     refine hReg (sq 0 sz) (by kernel_rfl) ?_
     refine mvB rfl rfl rfl ?_
     refine rNil ?_
     refine qSeq rfl ?_
     refine hIf rfl (fun c2 => ?_) (fun c2 => ?_)
     ·
      replace c2 : ck = true := c2
      have hck : Math.ckN ck = 2 := by rw [c2]; rfl
      refine hReg (sq 0 (sq 1 (sq 2 (sl 3 (sq 4 (sl 5 (sq 6 (sl 7 (sl 8 (sl 9 (sq 10 sz))))))))))) (by kernel_rfl) ?_
      refine mvS rfl rfl rfl ?_
      refine mvP rfl rfl rfl ?_
      refine ixA (z := 0) ar80 rfl rfl rfl rfl (by decide) ?_
      refine ldl Tryd.isAgg2 (cB 2 rfl rfl) trv rfl rfl rfl ?_
      refine ixA (z := 1) ar80 rfl rfl rfl rfl (by decide) ?_
      refine ldl Tryd.isAgg2 (cB 2 rfl rfl) trv rfl rfl rfl ?_
      refine bld rfl rfl rfl (bld52_0_1_2_3_4 (.int .i64 _) (.int .i64 _) (.int .i64 _) (.int .i64 _) (.slice _ _ _) rfl rfl rfl rfl rfl) ?_
      refine callM (α := Option Addr × Nat × (Nat → Hd)) (Lf := [blk be 78 [.slice ag1 (nz + 1) cg1, .int .i64 bet, .int .i64 rs], OwnR ndK 52 2 ag1 (nz + 1) cg1 Hg1 ((z ++ [(Nd.mk (0 : Int) p0 p1 (-1) [])]))]) (Lr := [blk bkb1 80 [.int .i64 p0, .int .i64 p1]]) (φs := fun x => [blk be 78 [.slice x.1 ((nz + 1) + 1) x.2.1, .int .i64 bet, .int .i64 rs], OwnR ndK 52 2 x.1 ((nz + 1) + 1) x.2.1 x.2.2 ((z ++ [(Nd.mk (0 : Int) p0 p1 (-1) [])]) ++ [(Nd.mk (2 : Int) p0 p1 (-1) [])])]) (val := fun x => .int .i64 ((nz + 1) : Int)) rfl Tryd.call69 trv1 rfl rfl (fun w M0 hs => impl_treeBuilder_add_c be ag1 (nz + 1) cg1 Hg1 ((z ++ [(Nd.mk (0 : Int) p0 p1 (-1) [])])) (2 : Int) p0 p1 (-1) bet rs w M0 hs (by omega)) ?_
      rintro ⟨ag2, cg2, Hg2⟩ -
      refine rPieces (L' := [blk be 78 [.slice ag2 (((nz + 1) + 1)) cg2, .int .i64 bet, .int .i64 rs], OwnR ndK 52 2 ag2 (((nz + 1) + 1)) cg2 Hg2 (((z ++ [(Nd.mk (0 : Int) p0 p1 (-1) [])]) ++ [(Nd.mk (2 : Int) p0 p1 (-1) [])])), blk bkb1 80 [.int .i64 p0, .int .i64 p1]]) (fun _ h => h) ?_
      refine bsl trv1 rfl rfl rfl (bsl50_1 (.int .i64 _) rfl) (fun bkl2 hbkl2 => ?_)
      refine rPieces (fun _ h => Sep.nilI 2 h) ?_
      refine aplI (N := 0) (x := (((nz + 1) : Nat) : Int)) 0 1 rfl rfl mk50 trv1 rfl rfl rfl rfl (by omega) ?_
      intro aq3 cq3
      refine asS rfl rfl rfl ?_
      refine rNil ?_
      refine qSeq rfl ?_
      refine hSeq ?_
      refine hDraw (Ls := [blk be 78 [.slice ag2 (((nz + 1) + 1)) cg2, .int .i64 bet, .int .i64 rs], blk bkb1 80 [.int .i64 p0, .int .i64 p1]]) (by kernel_rfl) (sq 0 (sq 1 (sq 2 (sq 3 (sq 4 (sq 5 (sq 6 (sq 7 (sq 8 (sf 9 sz)))))))))) (by kernel_rfl) (.cons _ (.cons _ (.cons_cons _ (.cons _ (.cons_cons _ .slnil))))) ?_
      refine mvI rfl rfl rfl ?_
      refine ixA (z := 0) ar80 rfl rfl rfl rfl (by decide) ?_
      refine ldq Tryd.isAgg2 (cB 1 rfl rfl) rfl rfl rfl ?_
      refine mvP rfl rfl rfl ?_
      refine nilc rfl rfl rfl ?_
      refine fld fl78_1 rfl rfl rfl ?_
      refine ldq Tryd.isAgg2 (cB 0 rfl rfl) rfl rfl rfl ?_
      refine add rfl rfl rfl rfl (by omega) ?_
      refine ixA (z := 0) ar80 rfl rfl rfl rfl (by decide) ?_
      refine stf (v := .int .i64 _) 4 rfl Tryd.sizeOf2 rfl rfl rfl rfl rfl (Nat.le_of_ble_eq_true rfl) ?_
      refine rNil ?_
      refine qSeq rfl ?_
      refine hReg (sq 0 (sq 1 (sq 2 (sl 3 (sq 4 (sl 5 (sl 6 (sl 7 (sq 8 sz))))))))) (by kernel_rfl) ?_
      refine mvS rfl rfl rfl ?_
      refine mvP rfl rfl rfl ?_
      refine mvI rfl rfl rfl ?_
      refine ldAl Tryd.isAgg80 Tryd.sizeOf80 (cBs 4 rfl) trv rfl rfl rfl rfl ?_
      refine mvI rfl rfl rfl ?_
      refine rPieces (fun _ h => h.pick [2, 2, 0, 0, 0]) ?_
      refine callM (α := Option Addr × Nat × Nat × (Nat → Hd)) (Lf := [blk be 78 [.slice ag2 (((nz + 1) + 1)) cg2, .int .i64 bet, .int .i64 rs], OwnR ndK 52 2 ag2 (((nz + 1) + 1)) cg2 Hg2 (((z ++ [(Nd.mk (0 : Int) p0 p1 (-1) [])]) ++ [(Nd.mk (2 : Int) p0 p1 (-1) [])]))]) (Lr := [OwnI 2 aq3 (0 + 1) cq3 (([] ++ [(((nz + 1) : Nat) : Int)])), blk bkl2 2 [.int .i64 ((((nz + 1) : Nat) : Int))], blk bkb1 80 [.int .i64 (p0 + bet), .int .i64 p1]]) (φs := fun x => [blk be 78 [.slice x.1 x.2.1 x.2.2.1, .int .i64 bet, .int .i64 rs], OwnR ndK 52 2 x.1 x.2.1 x.2.2.1 x.2.2.2 (((z ++ [(Nd.mk (0 : Int) p0 p1 (-1) [])]) ++ [(Nd.mk (2 : Int) p0 p1 (-1) [])]) ++ Math.growF f (1 : Int) (p0 + bet) p1 bet (rs - made) false (((nz + 1) + 1)))]) (val := fun x => .int .i64 (((nz + 1) + 1) : Int)) rfl Tryd.call45 trv1 rfl rfl (fun w M0 hs => ih be ag2 (((nz + 1) + 1)) cg2 Hg2 (((z ++ [(Nd.mk (0 : Int) p0 p1 (-1) [])]) ++ [(Nd.mk (2 : Int) p0 p1 (-1) [])])) (1 : Int) (p0 + bet) p1 bet rs made false w M0 hs (by omega) (by omega) (by omega) (by omega) (by omega) (by omega)) ?_
      rintro ⟨ag4, ng4, cg4, Hg4⟩ -
      refine rPieces (L' := [blk be 78 [.slice ag4 ng4 cg4, .int .i64 bet, .int .i64 rs], OwnR ndK 52 2 ag4 ng4 cg4 Hg4 ((((z ++ [(Nd.mk (0 : Int) p0 p1 (-1) [])]) ++ [(Nd.mk (2 : Int) p0 p1 (-1) [])]) ++ Math.growF f (1 : Int) (p0 + bet) p1 bet (rs - made) false (((nz + 1) + 1)))), OwnI 2 aq3 (0 + 1) cq3 (([] ++ [(((nz + 1) : Nat) : Int)])), blk bkl2 2 [.int .i64 ((((nz + 1) : Nat) : Int))], blk bkb1 80 [.int .i64 (p0 + bet), .int .i64 p1]]) (fun _ h => h) ?_
      refine rKnow (fun w hs => (show OwnR ndK 52 2 ag4 ng4 cg4 Hg4 ((((z ++ [(Nd.mk (0 : Int) p0 p1 (-1) [])]) ++ [(Nd.mk (2 : Int) p0 p1 (-1) [])]) ++ Math.growF f (1 : Int) (p0 + bet) p1 bet (rs - made) false (((nz + 1) + 1)))) w from hs.at_ 1 rfl).1) (fun leng4 => ?_)
      simp only [List.length_append, List.length_cons, List.length_nil] at leng4
      have hgl4 := Math.growF_len f (1 : Int) (p0 + bet) p1 bet (rs - made) false (((nz + 1) + 1))
      refine bsl trv1 rfl rfl rfl (bsl50_1 (.int .i64 _) rfl) (fun bkl4 hbkl4 => ?_)
      refine aplI (N := (0 + 1)) (x := ((((nz + 1) + 1) : Nat) : Int)) 3 0 rfl rfl mk50 trv1 rfl rfl rfl rfl (by omega) ?_
      intro aq5 cq5
      refine asS rfl rfl rfl ?_
      refine rNil ?_
      refine qSeq rfl ?_
      refine hSeq ?_
      refine hReg (sq 0 (sq 1 (sq 2 (sq 3 (sl 4 (sq 5 (sq 6 (sq 7 (sq 8 (sl 9 sz)))))))))) (by kernel_rfl) ?_
      refine mvP rfl rfl rfl ?_
      refine nilc rfl rfl rfl ?_
      refine fld fl78_0 rfl rfl rfl ?_
      refine fld fl26_0 rfl rfl rfl ?_
      refine ldl Tryd.isAgg24 (cB 1 rfl rfl) trv rfl rfl rfl ?_
      refine mvI rfl rfl rfl ?_
      refine mvS rfl rfl rfl ?_
      refine oxR (zn := nz) 2 rfl el24 rfl rfl rfl rfl (by omega) (by omega) rfl ?_
      intro gk6 hgk6
      refine fld fl52_4 rfl rfl rfl ?_
      refine stRk (f := 4) (hd := (aq5, cq5)) (Nd.mk 0 p0 p1 (-1) []) (Nd.mk 0 p0 p1 (-1) ((([] ++ [(((nz + 1) : Nat) : Int)]) ++ [((((nz + 1) + 1) : Nat) : Int)]))) nz 2 2 ndK.ok rfl rfl hgk6 (by simp only [List.append_assoc, List.cons_append, List.nil_append]; exact Math.at_mid lz) Tryd.sizeOf50 trv rfl rfl rfl rfl rfl (fun h => by first | rfl | (dsimp only [ndK, ndC] at h ⊢; rw [h]; rfl)) rfl (by decide) ?_
      refine rNil ?_
      refine qSeq rfl ?_
      refine hSeq ?_
      refine hReg (sq 0 (sq 1 sz)) (by kernel_rfl) ?_
      refine mvI rfl rfl rfl ?_
      refine asI rfl rfl rfl ?_
      refine rNil ?_
      refine qSeq rfl ?_
      refine hRet ?_
      rw [show (((((z ++ [(Nd.mk (0 : Int) p0 p1 (-1) [])]) ++ [(Nd.mk (2 : Int) p0 p1 (-1) [])]) ++ Math.growF f (1 : Int) (p0 + bet) p1 bet (rs - made) false (((nz + 1) + 1)))).set nz ((Nd.mk 0 p0 p1 (-1) ((([] ++ [(((nz + 1) : Nat) : Int)]) ++ [((((nz + 1) + 1) : Nat) : Int)]))))) = z ++ Math.growF (f + 1) 0 p0 p1 bet (rs - made) ck nz from Math.grow_3 lz he (by assumption) (by omega) (by simp [he]) (by simp [he]) rfl]
      exact fun w hs => ⟨[.int .i64 (nz : Int)], ⟨rfl, trivial⟩, ⟨(ag4, ng4, cg4, (hset Hg4 nz (aq5, cq5))), rfl, trivial, hs.pick [2, 0]⟩⟩
     ·
      replace c2 : ck = false := c2
      have hck : Math.ckN ck = 3 := by rw [c2]; rfl
      refine hReg (sq 0 (sq 1 (sq 2 (sl 3 (sq 4 (sl 5 (sl 6 (sl 7 (sq 8 sz))))))))) (by kernel_rfl) ?_
      refine mvS rfl rfl rfl ?_
      refine mvP rfl rfl rfl ?_
      refine mvI rfl rfl rfl ?_
      refine ldAl Tryd.isAgg80 Tryd.sizeOf80 (cBs 2 rfl) trv rfl rfl rfl rfl ?_
      refine mvI rfl rfl rfl ?_
      refine callM (α := Option Addr × Nat × Nat × (Nat → Hd)) (Lf := [blk be 78 [.slice ag1 (nz + 1) cg1, .int .i64 bet, .int .i64 rs], OwnR ndK 52 2 ag1 (nz + 1) cg1 Hg1 ((z ++ [(Nd.mk (0 : Int) p0 p1 (-1) [])]))]) (Lr := [blk bkb1 80 [.int .i64 p0, .int .i64 p1]]) (φs := fun x => [blk be 78 [.slice x.1 x.2.1 x.2.2.1, .int .i64 bet, .int .i64 rs], OwnR ndK 52 2 x.1 x.2.1 x.2.2.1 x.2.2.2 ((z ++ [(Nd.mk (0 : Int) p0 p1 (-1) [])]) ++ Math.growF f (1 : Int) p0 p1 bet (rs - made) true (nz + 1))]) (val := fun x => .int .i64 ((nz + 1) : Int)) rfl Tryd.call45 trv1 rfl rfl (fun w M0 hs => ih be ag1 (nz + 1) cg1 Hg1 ((z ++ [(Nd.mk (0 : Int) p0 p1 (-1) [])])) (1 : Int) p0 p1 bet rs made true w M0 hs (by omega) (by omega) (by omega) (by omega) (by omega) (by omega)) ?_
      rintro ⟨ag7, ng7, cg7, Hg7⟩ -
      refine rPieces (L' := [blk be 78 [.slice ag7 ng7 cg7, .int .i64 bet, .int .i64 rs], OwnR ndK 52 2 ag7 ng7 cg7 Hg7 (((z ++ [(Nd.mk (0 : Int) p0 p1 (-1) [])]) ++ Math.growF f (1 : Int) p0 p1 bet (rs - made) true (nz + 1))), blk bkb1 80 [.int .i64 p0, .int .i64 p1]]) (fun _ h => h) ?_
      refine rKnow (fun w hs => (show OwnR ndK 52 2 ag7 ng7 cg7 Hg7 (((z ++ [(Nd.mk (0 : Int) p0 p1 (-1) [])]) ++ Math.growF f (1 : Int) p0 p1 bet (rs - made) true (nz + 1))) w from hs.at_ 1 rfl).1) (fun leng7 => ?_)
      simp only [List.length_append, List.length_cons, List.length_nil] at leng7
      have hgl7 := Math.growF_len f (1 : Int) p0 p1 bet (rs - made) true (nz + 1)
      refine bsl trv1 rfl rfl rfl (bsl50_1 (.int .i64 _) rfl) (fun bkl5 hbkl5 => ?_)
      refine rPieces (fun _ h => Sep.nilI 2 h) ?_
      refine aplI (N := 0) (x := (((nz + 1) : Nat) : Int)) 0 1 rfl rfl mk50 trv1 rfl rfl rfl rfl (by omega) ?_
      intro aq8 cq8
      refine asS rfl rfl rfl ?_
      refine rNil ?_
      refine qSeq rfl ?_
      refine hSeq ?_
      refine hDraw (Ls := [blk be 78 [.slice ag7 ng7 cg7, .int .i64 bet, .int .i64 rs], blk bkb1 80 [.int .i64 p0, .int .i64 p1]]) (by kernel_rfl) (sq 0 (sq 1 (sq 2 (sq 3 (sq 4 (sq 5 (sq 6 (sq 7 (sq 8 (sf 9 sz)))))))))) (by kernel_rfl) (.cons _ (.cons _ (.cons_cons _ (.cons _ (.cons_cons _ .slnil))))) ?_
      refine mvI rfl rfl rfl ?_
      refine ixA (z := 0) ar80 rfl rfl rfl rfl (by decide) ?_
      refine ldq Tryd.isAgg2 (cB 1 rfl rfl) rfl rfl rfl ?_
      refine mvP rfl rfl rfl ?_
      refine nilc rfl rfl rfl ?_
      refine fld fl78_1 rfl rfl rfl ?_
      refine ldq Tryd.isAgg2 (cB 0 rfl rfl) rfl rfl rfl ?_
      refine add rfl rfl rfl rfl (by omega) ?_
      refine ixA (z := 0) ar80 rfl rfl rfl rfl (by decide) ?_
      refine stf (v := .int .i64 _) 4 rfl Tryd.sizeOf2 rfl rfl rfl rfl rfl (Nat.le_of_ble_eq_true rfl) ?_
      refine rNil ?_
      refine qSeq rfl ?_
      refine hReg (sq 0 (sq 1 (sq 2 (sl 3 (sq 4 (sl 5 (sl 6 (sl 7 (sq 8 sz))))))))) (by kernel_rfl) ?_
      refine mvS rfl rfl rfl ?_
      refine mvP rfl rfl rfl ?_
      refine mvI rfl rfl rfl ?_
      refine ldAl Tryd.isAgg80 Tryd.sizeOf80 (cBs 4 rfl) trv rfl rfl rfl rfl ?_
      refine mvI rfl rfl rfl ?_
      refine rPieces (fun _ h => h.pick [2, 2, 0, 0, 0]) ?_
      refine callM (α := Option Addr × Nat × Nat × (Nat → Hd)) (Lf := [blk be 78 [.slice ag7 ng7 cg7, .int .i64 bet, .int .i64 rs], OwnR ndK 52 2 ag7 ng7 cg7 Hg7 (((z ++ [(Nd.mk (0 : Int) p0 p1 (-1) [])]) ++ Math.growF f (1 : Int) p0 p1 bet (rs - made) true (nz + 1)))]) (Lr := [OwnI 2 aq8 (0 + 1) cq8 (([] ++ [(((nz + 1) : Nat) : Int)])), blk bkl5 2 [.int .i64 ((((nz + 1) : Nat) : Int))], blk bkb1 80 [.int .i64 (p0 + bet), .int .i64 p1]]) (φs := fun x => [blk be 78 [.slice x.1 x.2.1 x.2.2.1, .int .i64 bet, .int .i64 rs], OwnR ndK 52 2 x.1 x.2.1 x.2.2.1 x.2.2.2 (((z ++ [(Nd.mk (0 : Int) p0 p1 (-1) [])]) ++ Math.growF f (1 : Int) p0 p1 bet (rs - made) true (nz + 1)) ++ Math.growF f (1 : Int) (p0 + bet) p1 bet (rs - made) false ng7)]) (val := fun x => .int .i64 (ng7 : Int)) rfl Tryd.call45 trv1 rfl rfl (fun w M0 hs => ih be ag7 ng7 cg7 Hg7 (((z ++ [(Nd.mk (0 : Int) p0 p1 (-1) [])]) ++ Math.growF f (1 : Int) p0 p1 bet (rs - made) true (nz + 1))) (1 : Int) (p0 + bet) p1 bet rs made false w M0 hs (by omega) (by omega) (by omega) (by omega) (by omega) (by omega)) ?_
      rintro ⟨ag9, ng9, cg9, Hg9⟩ -
      refine rPieces (L' := [blk be 78 [.slice ag9 ng9 cg9, .int .i64 bet, .int .i64 rs], OwnR ndK 52 2 ag9 ng9 cg9 Hg9 ((((z ++ [(Nd.mk (0 : Int) p0 p1 (-1) [])]) ++ Math.growF f (1 : Int) p0 p1 bet (rs - made) true (nz + 1)) ++ Math.growF f (1 : Int) (p0 + bet) p1 bet (rs - made) false ng7)), OwnI 2 aq8 (0 + 1) cq8 (([] ++ [(((nz + 1) : Nat) : Int)])), blk bkl5 2 [.int .i64 ((((nz + 1) : Nat) : Int))], blk bkb1 80 [.int .i64 (p0 + bet), .int .i64 p1]]) (fun _ h => h) ?_
      refine rKnow (fun w hs => (show OwnR ndK 52 2 ag9 ng9 cg9 Hg9 ((((z ++ [(Nd.mk (0 : Int) p0 p1 (-1) [])]) ++ Math.growF f (1 : Int) p0 p1 bet (rs - made) true (nz + 1)) ++ Math.growF f (1 : Int) (p0 + bet) p1 bet (rs - made) false ng7)) w from hs.at_ 1 rfl).1) (fun leng9 => ?_)
      simp only [List.length_append, List.length_cons, List.length_nil] at leng9
      have hgl9 := Math.growF_len f (1 : Int) (p0 + bet) p1 bet (rs - made) false ng7
      refine bsl trv1 rfl rfl rfl (bsl50_1 (.int .i64 _) rfl) (fun bkl7 hbkl7 => ?_)
      refine aplI (N := (0 + 1)) (x := (ng7 : Int)) 3 0 rfl rfl mk50 trv1 rfl rfl rfl rfl (by omega) ?_
      intro aq10 cq10
      refine asS rfl rfl rfl ?_
      refine rNil ?_
      refine qSeq rfl ?_
      refine hSeq ?_
      refine hReg (sq 0 (sq 1 (sq 2 (sq 3 (sl 4 (sq 5 (sq 6 (sq 7 (sq 8 (sl 9 sz)))))))))) (by kernel_rfl) ?_
      refine mvP rfl rfl rfl ?_
      refine nilc rfl rfl rfl ?_
      refine fld fl78_0 rfl rfl rfl ?_
      refine fld fl26_0 rfl rfl rfl ?_
      refine ldl Tryd.isAgg24 (cB 1 rfl rfl) trv rfl rfl rfl ?_
      refine mvI rfl rfl rfl ?_
      refine mvS rfl rfl rfl ?_
      refine oxR (zn := nz) 2 rfl el24 rfl rfl rfl rfl (by omega) (by omega) rfl ?_
      intro gk11 hgk11
      refine fld fl52_4 rfl rfl rfl ?_
      refine stRk (f := 4) (hd := (aq10, cq10)) (Nd.mk 0 p0 p1 (-1) []) (Nd.mk 0 p0 p1 (-1) ((([] ++ [(((nz + 1) : Nat) : Int)]) ++ [(ng7 : Int)]))) nz 2 2 ndK.ok rfl rfl hgk11 (by simp only [List.append_assoc, List.cons_append, List.nil_append]; exact Math.at_mid lz) Tryd.sizeOf50 trv rfl rfl rfl rfl rfl (fun h => by first | rfl | (dsimp only [ndK, ndC] at h ⊢; rw [h]; rfl)) rfl (by decide) ?_
      refine rNil ?_
      refine qSeq rfl ?_
      refine hSeq ?_
      refine hReg (sq 0 (sq 1 sz)) (by kernel_rfl) ?_
      refine mvI rfl rfl rfl ?_
      refine asI rfl rfl rfl ?_
      refine rNil ?_
      refine qSeq rfl ?_
      refine hRet ?_
      rw [show (((((z ++ [(Nd.mk (0 : Int) p0 p1 (-1) [])]) ++ Math.growF f (1 : Int) p0 p1 bet (rs - made) true (nz + 1)) ++ Math.growF f (1 : Int) (p0 + bet) p1 bet (rs - made) false ng7)).set nz ((Nd.mk 0 p0 p1 (-1) ((([] ++ [(((nz + 1) : Nat) : Int)]) ++ [(ng7 : Int)]))))) = z ++ Math.growF (f + 1) 0 p0 p1 bet (rs - made) ck nz from Math.grow_4 lz he (by assumption) (by omega) (by simp [he]) (by simp [he]) (by omega) rfl]
      exact fun w hs => ⟨[.int .i64 (nz : Int)], ⟨rfl, trivial⟩, ⟨(ag9, ng9, cg9, (hset Hg9 nz (aq10, cq10))), rfl, trivial, hs.pick [2, 0]⟩⟩
    ·
     replace c1 : ¬ (p0 = p1) := c1
     have he : ¬ p0 = p1 := by omega
     refine hSeq ?_
     refine hReg (sq 0 (sq 1 (sq 2 (sl 3 (sq 4 (sl 5 (sq 6 (sq 7 (sl 8 (sl 9 (sl 10 (sq 11 sz)))))))))))) (by kernel_rfl) ?_
     refine mvS rfl rfl rfl ?_
     refine mvP rfl rfl rfl ?_
     refine ixA (z := 0) ar80 rfl rfl rfl rfl (by decide) ?_
     refine ldl Tryd.isAgg2 (cB 2 rfl rfl) trv rfl rfl rfl ?_
     refine ixA (z := 1) ar80 rfl rfl rfl rfl (by decide) ?_
     refine ldl Tryd.isAgg2 (cB 2 rfl rfl) trv rfl rfl rfl ?_
     refine mvI rfl rfl rfl ?_
     refine bld rfl rfl rfl (bld52_0_1_2_3_4 (.int .i64 _) (.int .i64 _) (.int .i64 _) (.int .i64 _) (.slice _ _ _) rfl rfl rfl rfl rfl) ?_
     refine callM (α := Option Addr × Nat × (Nat → Hd)) (Lf := [blk be 78 [.slice ag1 (nz + 1) cg1, .int .i64 bet, .int .i64 rs], OwnR ndK 52 2 ag1 (nz + 1) cg1 Hg1 ((z ++ [(Nd.mk (0 : Int) p0 p1 (-1) [])]))]) (Lr := [blk bkb1 80 [.int .i64 p0, .int .i64 p1]]) (φs := fun x => [blk be 78 [.slice x.1 ((nz + 1) + 1) x.2.1, .int .i64 bet, .int .i64 rs], OwnR ndK 52 2 x.1 ((nz + 1) + 1) x.2.1 x.2.2 ((z ++ [(Nd.mk (0 : Int) p0 p1 (-1) [])]) ++ [(Nd.mk (2 : Int) p0 p1 (0 : Int) [])])]) (val := fun x => .int .i64 ((nz + 1) : Int)) rfl Tryd.call69 trv1 rfl rfl (fun w M0 hs => impl_treeBuilder_add_c be ag1 (nz + 1) cg1 Hg1 ((z ++ [(Nd.mk (0 : Int) p0 p1 (-1) [])])) (2 : Int) p0 p1 (0 : Int) bet rs w M0 hs (by omega)) ?_
     rintro ⟨ag12, cg12, Hg12⟩ -
     refine rPieces (L' := [blk be 78 [.slice ag12 (((nz + 1) + 1)) cg12, .int .i64 bet, .int .i64 rs], OwnR ndK 52 2 ag12 (((nz + 1) + 1)) cg12 Hg12 (((z ++ [(Nd.mk (0 : Int) p0 p1 (-1) [])]) ++ [(Nd.mk (2 : Int) p0 p1 (0 : Int) [])])), blk bkb1 80 [.int .i64 p0, .int .i64 p1]]) (fun _ h => h) ?_
     refine bsl trv1 rfl rfl rfl (bsl50_1 (.int .i64 _) rfl) (fun bkl8 hbkl8 => ?_)
     refine rPieces (fun _ h => Sep.nilI 2 h) ?_
     refine aplI (N := 0) (x := (((nz + 1) : Nat) : Int)) 0 1 rfl rfl mk50 trv1 rfl rfl rfl rfl (by omega) ?_
     intro aq13 cq13
     refine asS rfl rfl rfl ?_
     refine rNil ?_
     refine qSeq rfl ?_
     refine hSeq ?_
     refine hReg (sq 0 (sq 1 (sq 2 (sl 3 (sq 4 (sl 5 sz)))))) (by kernel_rfl) ?_
     refine mvI rfl rfl rfl ?_
     refine mvI rfl rfl rfl ?_
     refine ixA (z := 1) ar80 rfl rfl rfl rfl (by decide) ?_
     refine ldl Tryd.isAgg2 (cB 4 rfl rfl) trv rfl rfl rfl ?_
     refine ixA (z := 0) ar80 rfl rfl rfl rfl (by decide) ?_
     refine stl (v := .int .i64 _) 4 rfl Tryd.sizeOf2 trv rfl rfl rfl rfl rfl (Nat.le_of_ble_eq_true rfl) ?_
     refine rNil ?_
     refine qSeq rfl ?_
     refine hSeq ?_
     refine hReg (sq 0 (sq 1 (sq 2 (sl 3 (sq 4 (sl 5 (sq 6 (sl 7 (sl 8 (sl 9 (sq 10 sz))))))))))) (by kernel_rfl) ?_
     refine mvS rfl rfl rfl ?_
     refine mvP rfl rfl rfl ?_
     refine ixA (z := 0) ar80 rfl rfl rfl rfl (by decide) ?_
     refine ldl Tryd.isAgg2 (cB 4 rfl rfl) trv rfl rfl rfl ?_
     refine ixA (z := 1) ar80 rfl rfl rfl rfl (by decide) ?_
     refine ldl Tryd.isAgg2 (cB 4 rfl rfl) trv rfl rfl rfl ?_
     refine bld rfl rfl rfl (bld52_0_1_2_3_4 (.int .i64 _) (.int .i64 _) (.int .i64 _) (.int .i64 _) (.slice _ _ _) rfl rfl rfl rfl rfl) ?_
     refine rPieces (fun _ h => h.pick [2, 2, 0, 0, 0]) ?_
     refine callM (α := Option Addr × Nat × (Nat → Hd)) (Lf := [blk be 78 [.slice ag12 (((nz + 1) + 1)) cg12, .int .i64 bet, .int .i64 rs], OwnR ndK 52 2 ag12 (((nz + 1) + 1)) cg12 Hg12 (((z ++ [(Nd.mk (0 : Int) p0 p1 (-1) [])]) ++ [(Nd.mk (2 : Int) p0 p1 (0 : Int) [])]))]) (Lr := [OwnI 2 aq13 (0 + 1) cq13 (([] ++ [(((nz + 1) : Nat) : Int)])), blk bkl8 2 [.int .i64 ((((nz + 1) : Nat) : Int))], blk bkb1 80 [.int .i64 p1, .int .i64 p1]]) (φs := fun x => [blk be 78 [.slice x.1 (((nz + 1) + 1) + 1) x.2.1, .int .i64 bet, .int .i64 rs], OwnR ndK 52 2 x.1 (((nz + 1) + 1) + 1) x.2.1 x.2.2 (((z ++ [(Nd.mk (0 : Int) p0 p1 (-1) [])]) ++ [(Nd.mk (2 : Int) p0 p1 (0 : Int) [])]) ++ [(Nd.mk (2 : Int) p1 p1 (-1) [])])]) (val := fun x => .int .i64 (((nz + 1) + 1) : Int)) rfl Tryd.call69 trv1 rfl rfl (fun w M0 hs => impl_treeBuilder_add_c be ag12 (((nz + 1) + 1)) cg12 Hg12 (((z ++ [(Nd.mk (0 : Int) p0 p1 (-1) [])]) ++ [(Nd.mk (2 : Int) p0 p1 (0 : Int) [])])) (2 : Int) p1 p1 (-1) bet rs w M0 hs (by omega)) ?_
     rintro ⟨ag14, cg14, Hg14⟩ -
     refine rPieces (L' := [blk be 78 [.slice ag14 ((((nz + 1) + 1) + 1)) cg14, .int .i64 bet, .int .i64 rs], OwnR ndK 52 2 ag14 ((((nz + 1) + 1) + 1)) cg14 Hg14 ((((z ++ [(Nd.mk (0 : Int) p0 p1 (-1) [])]) ++ [(Nd.mk (2 : Int) p0 p1 (0 : Int) [])]) ++ [(Nd.mk (2 : Int) p1 p1 (-1) [])])), OwnI 2 aq13 (0 + 1) cq13 (([] ++ [(((nz + 1) : Nat) : Int)])), blk bkl8 2 [.int .i64 ((((nz + 1) : Nat) : Int))], blk bkb1 80 [.int .i64 p1, .int .i64 p1]]) (fun _ h => h) ?_
     refine bsl trv1 rfl rfl rfl (bsl50_1 (.int .i64 _) rfl) (fun bkl10 hbkl10 => ?_)
     refine aplI (N := (0 + 1)) (x := ((((nz + 1) + 1) : Nat) : Int)) 3 0 rfl rfl mk50 trv1 rfl rfl rfl rfl (by omega) ?_
     intro aq15 cq15
     refine asS rfl rfl rfl ?_
     refine rNil ?_
     refine qSeq rfl ?_
     refine hSeq ?_
     refine hReg (sq 0 (sq 1 (sq 2 (sq 3 (sl 4 (sq 5 sz)))))) (by kernel_rfl) ?_
     refine mvI rfl rfl rfl ?_
     refine mvP rfl rfl rfl ?_
     refine nilc rfl rfl rfl ?_
     refine fld fl78_2 rfl rfl rfl ?_
     refine ldl Tryd.isAgg2 (cB 1 rfl rfl) trv rfl rfl rfl ?_
     refine lss rfl rfl rfl rfl ?_
     refine rNil ?_
     refine qSeq rfl ?_
     refine hIfD rfl (fun c3 => ?_) (fun c3 => ?_)
     ·
      replace c3 : made < rs := c3
      refine hSeq ?_
      refine hDraw (Ls := [blk be 78 [.slice ag14 ((((nz + 1) + 1) + 1)) cg14, .int .i64 bet, .int .i64 rs], blk bkb1 80 [.int .i64 p1, .int .i64 p1]]) (by kernel_rfl) (sq 0 (sq 1 (sq 2 (sq 3 (sq 4 (sq 5 (sq 6 (sq 7 (sq 8 (sf 9 sz)))))))))) (by kernel_rfl) (.cons _ (.cons_cons _ (.cons _ (.cons _ (.cons _ (.cons_cons _ .slnil)))))) ?_
      refine mvI rfl rfl rfl ?_
      refine ixA (z := 0) ar80 rfl rfl rfl rfl (by decide) ?_
      refine ldq Tryd.isAgg2 (cB 1 rfl rfl) rfl rfl rfl ?_
      refine mvP rfl rfl rfl ?_
      refine nilc rfl rfl rfl ?_
      refine fld fl78_1 rfl rfl rfl ?_
      refine ldq Tryd.isAgg2 (cB 0 rfl rfl) rfl rfl rfl ?_
      refine add rfl rfl rfl rfl (by omega) ?_
      refine ixA (z := 0) ar80 rfl rfl rfl rfl (by decide) ?_
      refine stf (v := .int .i64 _) 5 rfl Tryd.sizeOf2 rfl rfl rfl rfl rfl (Nat.le_of_ble_eq_true rfl) ?_
      refine rNil ?_
      refine qSeq rfl ?_
      refine hReg (sq 0 (sq 1 (sq 2 (sl 3 (sq 4 (sq 5 (sl 6 (sl 7 (sl 8 (sq 9 sz)))))))))) (by kernel_rfl) ?_
      refine mvS rfl rfl rfl ?_
      refine mvP rfl rfl rfl ?_
      refine mvI rfl rfl rfl ?_
      refine ldAl Tryd.isAgg80 Tryd.sizeOf80 (cBs 5 rfl) trv rfl rfl rfl rfl ?_
      refine mvI rfl rfl rfl ?_
      refine add rfl rfl rfl rfl (by omega) ?_
      refine rPieces (fun _ h => h.pick [1, 1, 0, 0, 0, 0]) ?_
      refine callM (α := Option Addr × Nat × Nat × (Nat → Hd)) (Lf := [blk be 78 [.slice ag14 ((((nz + 1) + 1) + 1)) cg14, .int .i64 bet, .int .i64 rs], OwnR ndK 52 2 ag14 ((((nz + 1) + 1) + 1)) cg14 Hg14 ((((z ++ [(Nd.mk (0 : Int) p0 p1 (-1) [])]) ++ [(Nd.mk (2 : Int) p0 p1 (0 : Int) [])]) ++ [(Nd.mk (2 : Int) p1 p1 (-1) [])]))]) (Lr := [blk bkl10 2 [.int .i64 (((((nz + 1) + 1) : Nat) : Int))], OwnI 2 aq15 (((0 + 1) + 1)) cq15 ((([] ++ [(((nz + 1) : Nat) : Int)]) ++ [((((nz + 1) + 1) : Nat) : Int)])), blk bkl8 2 [.int .i64 ((((nz + 1) : Nat) : Int))], blk bkb1 80 [.int .i64 (p1 + bet), .int .i64 p1]]) (φs := fun x => [blk be 78 [.slice x.1 x.2.1 x.2.2.1, .int .i64 bet, .int .i64 rs], OwnR ndK 52 2 x.1 x.2.1 x.2.2.1 x.2.2.2 ((((z ++ [(Nd.mk (0 : Int) p0 p1 (-1) [])]) ++ [(Nd.mk (2 : Int) p0 p1 (0 : Int) [])]) ++ [(Nd.mk (2 : Int) p1 p1 (-1) [])]) ++ Math.growF f (1 : Int) (p1 + bet) p1 bet (rs - (made + 1)) false ((((nz + 1) + 1) + 1)))]) (val := fun x => .int .i64 ((((nz + 1) + 1) + 1) : Int)) rfl Tryd.call45 trv1 rfl rfl (fun w M0 hs => ih be ag14 ((((nz + 1) + 1) + 1)) cg14 Hg14 ((((z ++ [(Nd.mk (0 : Int) p0 p1 (-1) [])]) ++ [(Nd.mk (2 : Int) p0 p1 (0 : Int) [])]) ++ [(Nd.mk (2 : Int) p1 p1 (-1) [])])) (1 : Int) (p1 + bet) p1 bet rs (made + 1) false w M0 hs (by omega) (by omega) (by omega) (by omega) (by omega) (by omega)) ?_
      rintro ⟨ag16, ng16, cg16, Hg16⟩ -
      refine rPieces (L' := [blk be 78 [.slice ag16 ng16 cg16, .int .i64 bet, .int .i64 rs], OwnR ndK 52 2 ag16 ng16 cg16 Hg16 (((((z ++ [(Nd.mk (0 : Int) p0 p1 (-1) [])]) ++ [(Nd.mk (2 : Int) p0 p1 (0 : Int) [])]) ++ [(Nd.mk (2 : Int) p1 p1 (-1) [])]) ++ Math.growF f (1 : Int) (p1 + bet) p1 bet (rs - (made + 1)) false ((((nz + 1) + 1) + 1)))), blk bkl10 2 [.int .i64 (((((nz + 1) + 1) : Nat) : Int))], OwnI 2 aq15 (((0 + 1) + 1)) cq15 ((([] ++ [(((nz + 1) : Nat) : Int)]) ++ [((((nz + 1) + 1) : Nat) : Int)])), blk bkl8 2 [.int .i64 ((((nz + 1) : Nat) : Int))], blk bkb1 80 [.int .i64 (p1 + bet), .int .i64 p1]]) (fun _ h => h) ?_
      refine rKnow (fun w hs => (show OwnR ndK 52 2 ag16 ng16 cg16 Hg16 (((((z ++ [(Nd.mk (0 : Int) p0 p1 (-1) [])]) ++ [(Nd.mk (2 : Int) p0 p1 (0 : Int) [])]) ++ [(Nd.mk (2 : Int) p1 p1 (-1) [])]) ++ Math.growF f (1 : Int) (p1 + bet) p1 bet (rs - (made + 1)) false ((((nz + 1) + 1) + 1)))) w from hs.at_ 1 rfl).1) (fun leng16 => ?_)
      simp only [List.length_append, List.length_cons, List.length_nil] at leng16
      have hgl16 := Math.growF_len f (1 : Int) (p1 + bet) p1 bet (rs - (made + 1)) false ((((nz + 1) + 1) + 1))
      refine bsl trv1 rfl rfl rfl (bsl50_1 (.int .i64 _) rfl) (fun bkl11 hbkl11 => ?_)
      refine aplI (N := (((0 + 1) + 1))) (x := (((((nz + 1) + 1) + 1) : Nat) : Int)) 4 0 rfl rfl mk50 trv1 rfl rfl rfl rfl (by omega) ?_
      intro aq17 cq17
      refine asS rfl rfl rfl ?_
      refine rNil ?_
      refine qSeq rfl ?_
      refine hSeq ?_
      refine hReg (sq 0 (sq 1 (sq 2 (sq 3 (sl 4 (sq 5 (sq 6 (sq 7 (sq 8 (sl 9 sz)))))))))) (by kernel_rfl) ?_
      refine mvP rfl rfl rfl ?_
      refine nilc rfl rfl rfl ?_
      refine fld fl78_0 rfl rfl rfl ?_
      refine fld fl26_0 rfl rfl rfl ?_
      refine ldl Tryd.isAgg24 (cB 1 rfl rfl) trv rfl rfl rfl ?_
      refine mvI rfl rfl rfl ?_
      refine mvS rfl rfl rfl ?_
      refine oxR (zn := nz) 2 rfl el24 rfl rfl rfl rfl (by omega) (by omega) rfl ?_
      intro gk18 hgk18
      refine fld fl52_4 rfl rfl rfl ?_
      refine stRk (f := 4) (hd := (aq17, cq17)) (Nd.mk 0 p0 p1 (-1) []) (Nd.mk 0 p0 p1 (-1) (((([] ++ [(((nz + 1) : Nat) : Int)]) ++ [((((nz + 1) + 1) : Nat) : Int)]) ++ [(((((nz + 1) + 1) + 1) : Nat) : Int)]))) nz 2 3 ndK.ok rfl rfl hgk18 (by simp only [List.append_assoc, List.cons_append, List.nil_append]; exact Math.at_mid lz) Tryd.sizeOf50 trv rfl rfl rfl rfl rfl (fun h => by first | rfl | (dsimp only [ndK, ndC] at h ⊢; rw [h]; rfl)) rfl (by decide) ?_
      refine rNil ?_
      refine qSeq rfl ?_
      refine hSeq ?_
      refine hReg (sq 0 (sq 1 sz)) (by kernel_rfl) ?_
      refine mvI rfl rfl rfl ?_
      refine asI rfl rfl rfl ?_
      refine rNil ?_
      refine qSeq rfl ?_
      refine hRet ?_
      rw [show ((((((z ++ [(Nd.mk (0 : Int) p0 p1 (-1) [])]) ++ [(Nd.mk (2 : Int) p0 p1 (0 : Int) [])]) ++ [(Nd.mk (2 : Int) p1 p1 (-1) [])]) ++ Math.growF f (1 : Int) (p1 + bet) p1 bet (rs - (made + 1)) false ((((nz + 1) + 1) + 1)))).set nz ((Nd.mk 0 p0 p1 (-1) (((([] ++ [(((nz + 1) : Nat) : Int)]) ++ [((((nz + 1) + 1) : Nat) : Int)]) ++ [(((((nz + 1) + 1) + 1) : Nat) : Int)]))))) = z ++ Math.growF (f + 1) 0 p0 p1 bet (rs - made) ck nz from Math.grow_2 lz he (by first | assumption | omega) (by omega) (by omega) (by simp) (by simp [he]) (by simp [he]) rfl]
      exact fun w hs => ⟨[.int .i64 (nz : Int)], ⟨rfl, trivial⟩, ⟨(ag16, ng16, cg16, (hset Hg16 nz (aq17, cq17))), rfl, trivial, hs.pick [2, 0]⟩⟩
     ·
      replace c3 : ¬ (made < rs) := c3
      refine hSkip ?_
      refine qSeq rfl ?_
      refine hSeq ?_
      refine hReg (sq 0 (sq 1 (sq 2 (sq 3 (sl 4 (sq 5 (sq 6 (sq 7 (sq 8 (sl 9 sz)))))))))) (by kernel_rfl) ?_
      refine mvP rfl rfl rfl ?_
      refine nilc rfl rfl rfl ?_
      refine fld fl78_0 rfl rfl rfl ?_
      refine fld fl26_0 rfl rfl rfl ?_
      refine ldl Tryd.isAgg24 (cB 1 rfl rfl) trv rfl rfl rfl ?_
      refine mvI rfl rfl rfl ?_
      refine mvS rfl rfl rfl ?_
      refine oxR (zn := nz) 2 rfl el24 rfl rfl rfl rfl (by omega) (by omega) rfl ?_
      intro gk19 hgk19
      refine fld fl52_4 rfl rfl rfl ?_
      refine stRk (f := 4) (hd := (aq15, cq15)) (Nd.mk 0 p0 p1 (-1) []) (Nd.mk 0 p0 p1 (-1) ((([] ++ [(((nz + 1) : Nat) : Int)]) ++ [((((nz + 1) + 1) : Nat) : Int)]))) nz 2 2 ndK.ok rfl rfl hgk19 (by simp only [List.append_assoc, List.cons_append, List.nil_append]; exact Math.at_mid lz) Tryd.sizeOf50 trv rfl rfl rfl rfl rfl (fun h => by first | rfl | (dsimp only [ndK, ndC] at h ⊢; rw [h]; rfl)) rfl (by decide) ?_
      refine rNil ?_
      refine qSeq rfl ?_
      refine hSeq ?_
      refine hReg (sq 0 (sq 1 sz)) (by kernel_rfl) ?_
      refine mvI rfl rfl rfl ?_
      refine asI rfl rfl rfl ?_
      refine rNil ?_
      refine qSeq rfl ?_
      refine hRet ?_
      rw [show (((((z ++ [(Nd.mk (0 : Int) p0 p1 (-1) [])]) ++ [(Nd.mk (2 : Int) p0 p1 (0 : Int) [])]) ++ [(Nd.mk (2 : Int) p1 p1 (-1) [])])).set nz ((Nd.mk 0 p0 p1 (-1) ((([] ++ [(((nz + 1) : Nat) : Int)]) ++ [((((nz + 1) + 1) : Nat) : Int)]))))) = z ++ Math.growF (f + 1) 0 p0 p1 bet (rs - made) ck nz from Math.grow_1 lz he (by first | assumption | omega) (by simp) rfl]
      exact fun w hs => ⟨[.int .i64 (nz : Int)], ⟨rfl, trivial⟩, ⟨(ag14, (((nz + 1) + 1) + 1), cg14, (hset Hg14 nz (aq15, cq15))), rfl, trivial, hs.pick [2, 0]⟩⟩
   ·
    refine fn (M := M0) (rs := [.tmp 10]) Tryd.func45 rfl Tryd.ntmps45 rfl rfl hs0 ?_
    refine hSeq ?_
    refine hReg (sl 0 (sq 1 sz)) (by kernel_rfl) ?_
    refine box trv1 rfl rfl rfl rfl (fun bkb12 hbkb12 => ?_)
    refine asI rfl rfl rfl ?_
    refine rNil ?_
    refine qSeq rfl ?_
    refine hSeq ?_
    refine hReg (sq 0 (sq 1 (sq 2 sz))) (by kernel_rfl) ?_
    refine mvI rfl rfl rfl ?_
    refine sub rfl rfl rfl rfl (by omega) ?_
    refine asI rfl rfl rfl ?_
    refine rNil ?_
    refine qSeq rfl ?_
    refine hSeq ?_
    refine hReg (sq 0 (sq 1 (sq 2 (sl 3 (sq 4 (sl 5 (sq 6 (sl 7 (sq 8 sz))))))))) (by kernel_rfl) ?_
    refine mvP rfl rfl rfl ?_
    refine mvI rfl rfl rfl ?_
    refine ixA (z := 0) ar80 rfl rfl rfl rfl (by decide) ?_
    refine ldl Tryd.isAgg2 (cB 0 rfl rfl) trv rfl rfl rfl ?_
    refine ixA (z := 1) ar80 rfl rfl rfl rfl (by decide) ?_
    refine ldl Tryd.isAgg2 (cB 0 rfl rfl) trv rfl rfl rfl ?_
    refine bld rfl rfl rfl (bld52_0_1_2_3 (.int .i64 _) (.int .i64 _) (.int .i64 _) (.int .i64 _) rfl rfl rfl rfl) ?_
    refine rPieces (fun _ h => h.pick [1, 1, 0]) ?_
    refine callM (α := Option Addr × Nat × (Nat → Hd)) (Lf := [blk be 78 [.slice az nz cz, .int .i64 bet, .int .i64 rs], OwnR ndK 52 2 az nz cz Hz z]) (Lr := [blk bkb12 80 [.int .i64 p0, .int .i64 p1]]) (φs := fun x => [blk be 78 [.slice x.1 (nz + 1) x.2.1, .int .i64 bet, .int .i64 rs], OwnR ndK 52 2 x.1 (nz + 1) x.2.1 x.2.2 (z ++ [(Nd.mk (1 : Int) p0 p1 (-1) [])])]) (val := fun x => .int .i64 (nz : Int)) rfl Tryd.call69 trv1 rfl rfl (fun w M0 hs => impl_treeBuilder_add_c be az nz cz Hz z (1 : Int) p0 p1 (-1) bet rs w M0 hs (by omega)) ?_
    rintro ⟨ag20, cg20, Hg20⟩ -
    refine rPieces (L' := [blk be 78 [.slice ag20 (nz + 1) cg20, .int .i64 bet, .int .i64 rs], OwnR ndK 52 2 ag20 (nz + 1) cg20 Hg20 ((z ++ [(Nd.mk (1 : Int) p0 p1 (-1) [])])), blk bkb12 80 [.int .i64 p0, .int .i64 p1]]) (fun _ h => h) ?_
    refine asI rfl rfl rfl ?_
    refine rNil ?_
    refine qSeq rfl ?_
    refine hSeq ?_
    refine hReg (sq 0 sz) (by kernel_rfl) ?_
    refine asS rfl rfl rfl ?_
    refine rNil ?_
    refine qSeq rfl ?_
    refine hSeq ?_
    refine hSeq ?_
    refine hDraw (Ls := [blk bkb12 80 [.int .i64 p0, .int .i64 p1]]) (by kernel_rfl) (sq 0 (sq 1 (sq 2 (sq 3 (sq 4 (sq 5 (sq 6 sz))))))) (by kernel_rfl) (.cons _ (.cons _ (.cons_cons _ .slnil))) ?_
    refine mvI rfl rfl rfl ?_
    refine ixA (z := 1) ar80 rfl rfl rfl rfl (by decide) ?_
    refine ldq Tryd.isAgg2 (cB 0 rfl rfl) rfl rfl rfl ?_
    refine mvI rfl rfl rfl ?_
    refine ixA (z := 0) ar80 rfl rfl rfl rfl (by decide) ?_
    refine ldq Tryd.isAgg2 (cB 0 rfl rfl) rfl rfl rfl ?_
    refine eql rfl rfl rfl rfl ?_
    refine rNil ?_
    refine qSeq rfl ?_
    refine hIfD rfl (fun c4 => ?_) (fun c4 => ?_)
    ·
     replace c4 : p1 = p0 := c4
     have he : p0 = p1 := by omega
     refine hSeq ?_
     refine hSeq ?_
     refine hReg (sq 0 sz) (by kernel_rfl) ?_
     refine mvB rfl rfl rfl ?_
     refine rNil ?_
     refine qSeq rfl ?_
     refine hIf rfl (fun c5 => ?_) (fun c5 => ?_)
     ·
      replace c5 : ck = true := c5
      have hck : Math.ckN ck = 2 := by rw [c5]; rfl
      refine hReg (sq 0 (sq 1 (sq 2 (sl 3 (sq 4 (sl 5 (sq 6 (sl 7 (sl 8 (sl 9 (sq 10 sz))))))))))) (by kernel_rfl) ?_
      refine mvS rfl rfl rfl ?_
      refine mvP rfl rfl rfl ?_
      refine ixA (z := 0) ar80 rfl rfl rfl rfl (by decide) ?_
      refine ldl Tryd.isAgg2 (cB 2 rfl rfl) trv rfl rfl rfl ?_
      refine ixA (z := 1) ar80 rfl rfl rfl rfl (by decide) ?_
      refine ldl Tryd.isAgg2 (cB 2 rfl rfl) trv rfl rfl rfl ?_
      refine bld rfl rfl rfl (bld52_0_1_2_3_4 (.int .i64 _) (.int .i64 _) (.int .i64 _) (.int .i64 _) (.slice _ _ _) rfl rfl rfl rfl rfl) ?_
      refine callM (α := Option Addr × Nat × (Nat → Hd)) (Lf := [blk be 78 [.slice ag20 (nz + 1) cg20, .int .i64 bet, .int .i64 rs], OwnR ndK 52 2 ag20 (nz + 1) cg20 Hg20 ((z ++ [(Nd.mk (1 : Int) p0 p1 (-1) [])]))]) (Lr := [blk bkb12 80 [.int .i64 p0, .int .i64 p1]]) (φs := fun x => [blk be 78 [.slice x.1 ((nz + 1) + 1) x.2.1, .int .i64 bet, .int .i64 rs], OwnR ndK 52 2 x.1 ((nz + 1) + 1) x.2.1 x.2.2 ((z ++ [(Nd.mk (1 : Int) p0 p1 (-1) [])]) ++ [(Nd.mk (2 : Int) p0 p1 (-1) [])])]) (val := fun x => .int .i64 ((nz + 1) : Int)) rfl Tryd.call69 trv1 rfl rfl (fun w M0 hs => impl_treeBuilder_add_c be ag20 (nz + 1) cg20 Hg20 ((z ++ [(Nd.mk (1 : Int) p0 p1 (-1) [])])) (2 : Int) p0 p1 (-1) bet rs w M0 hs (by omega)) ?_
      rintro ⟨ag21, cg21, Hg21⟩ -
      refine rPieces (L' := [blk be 78 [.slice ag21 (((nz + 1) + 1)) cg21, .int .i64 bet, .int .i64 rs], OwnR ndK 52 2 ag21 (((nz + 1) + 1)) cg21 Hg21 (((z ++ [(Nd.mk (1 : Int) p0 p1 (-1) [])]) ++ [(Nd.mk (2 : Int) p0 p1 (-1) [])])), blk bkb12 80 [.int .i64 p0, .int .i64 p1]]) (fun _ h => h) ?_
      refine bsl trv1 rfl rfl rfl (bsl50_1 (.int .i64 _) rfl) (fun bkl13 hbkl13 => ?_)
      refine rPieces (fun _ h => Sep.nilI 2 h) ?_
      refine aplI (N := 0) (x := (((nz + 1) : Nat) : Int)) 0 1 rfl rfl mk50 trv1 rfl rfl rfl rfl (by omega) ?_
      intro aq22 cq22
      refine asS rfl rfl rfl ?_
      refine rNil ?_
      refine qSeq rfl ?_
      refine hSeq ?_
      refine hDraw (Ls := [blk be 78 [.slice ag21 (((nz + 1) + 1)) cg21, .int .i64 bet, .int .i64 rs], blk bkb12 80 [.int .i64 p0, .int .i64 p1]]) (by kernel_rfl) (sq 0 (sq 1 (sq 2 (sq 3 (sq 4 (sq 5 (sq 6 (sq 7 (sq 8 (sf 9 sz)))))))))) (by kernel_rfl) (.cons _ (.cons _ (.cons_cons _ (.cons _ (.cons_cons _ .slnil))))) ?_
      refine mvI rfl rfl rfl ?_
      refine ixA (z := 1) ar80 rfl rfl rfl rfl (by decide) ?_
      refine ldq Tryd.isAgg2 (cB 1 rfl rfl) rfl rfl rfl ?_
      refine mvP rfl rfl rfl ?_
      refine nilc rfl rfl rfl ?_
      refine fld fl78_1 rfl rfl rfl ?_
      refine ldq Tryd.isAgg2 (cB 0 rfl rfl) rfl rfl rfl ?_
      refine add rfl rfl rfl rfl (by omega) ?_
      refine ixA (z := 1) ar80 rfl rfl rfl rfl (by decide) ?_
      refine stf (v := .int .i64 _) 4 rfl Tryd.sizeOf2 rfl rfl rfl rfl rfl (Nat.le_of_ble_eq_true rfl) ?_
      refine rNil ?_
      refine qSeq rfl ?_
      refine hReg (sq 0 (sq 1 (sq 2 (sl 3 (sq 4 (sl 5 (sl 6 (sl 7 (sq 8 sz))))))))) (by kernel_rfl) ?_
      refine mvS rfl rfl rfl ?_
      refine mvP rfl rfl rfl ?_
      refine mvI rfl rfl rfl ?_
      refine ldAl Tryd.isAgg80 Tryd.sizeOf80 (cBs 4 rfl) trv rfl rfl rfl rfl ?_
      refine mvI rfl rfl rfl ?_
      refine rPieces (fun _ h => h.pick [2, 2, 0, 0, 0]) ?_
      refine callM (α := Option Addr × Nat × Nat × (Nat → Hd)) (Lf := [blk be 78 [.slice ag21 (((nz + 1) + 1)) cg21, .int .i64 bet, .int .i64 rs], OwnR ndK 52 2 ag21 (((nz + 1) + 1)) cg21 Hg21 (((z ++ [(Nd.mk (1 : Int) p0 p1 (-1) [])]) ++ [(Nd.mk (2 : Int) p0 p1 (-1) [])]))]) (Lr := [OwnI 2 aq22 (0 + 1) cq22 (([] ++ [(((nz + 1) : Nat) : Int)])), blk bkl13 2 [.int .i64 ((((nz + 1) : Nat) : Int))], blk bkb12 80 [.int .i64 p0, .int .i64 (p1 + bet)]]) (φs := fun x => [blk be 78 [.slice x.1 x.2.1 x.2.2.1, .int .i64 bet, .int .i64 rs], OwnR ndK 52 2 x.1 x.2.1 x.2.2.1 x.2.2.2 (((z ++ [(Nd.mk (1 : Int) p0 p1 (-1) [])]) ++ [(Nd.mk (2 : Int) p0 p1 (-1) [])]) ++ Math.growF f (0 : Int) p0 (p1 + bet) bet (rs - made) false (((nz + 1) + 1)))]) (val := fun x => .int .i64 (((nz + 1) + 1) : Int)) rfl Tryd.call45 trv1 rfl rfl (fun w M0 hs => ih be ag21 (((nz + 1) + 1)) cg21 Hg21 (((z ++ [(Nd.mk (1 : Int) p0 p1 (-1) [])]) ++ [(Nd.mk (2 : Int) p0 p1 (-1) [])])) (0 : Int) p0 (p1 + bet) bet rs made false w M0 hs (by omega) (by omega) (by omega) (by omega) (by omega) (by omega)) ?_
      rintro ⟨ag23, ng23, cg23, Hg23⟩ -
      refine rPieces (L' := [blk be 78 [.slice ag23 ng23 cg23, .int .i64 bet, .int .i64 rs], OwnR ndK 52 2 ag23 ng23 cg23 Hg23 ((((z ++ [(Nd.mk (1 : Int) p0 p1 (-1) [])]) ++ [(Nd.mk (2 : Int) p0 p1 (-1) [])]) ++ Math.growF f (0 : Int) p0 (p1 + bet) bet (rs - made) false (((nz + 1) + 1)))), OwnI 2 aq22 (0 + 1) cq22 (([] ++ [(((nz + 1) : Nat) : Int)])), blk bkl13 2 [.int .i64 ((((nz + 1) : Nat) : Int))], blk bkb12 80 [.int .i64 p0, .int .i64 (p1 + bet)]]) (fun _ h => h) ?_
      refine rKnow (fun w hs => (show OwnR ndK 52 2 ag23 ng23 cg23 Hg23 ((((z ++ [(Nd.mk (1 : Int) p0 p1 (-1) [])]) ++ [(Nd.mk (2 : Int) p0 p1 (-1) [])]) ++ Math.growF f (0 : Int) p0 (p1 + bet) bet (rs - made) false (((nz + 1) + 1)))) w from hs.at_ 1 rfl).1) (fun leng23 => ?_)
      simp only [List.length_append, List.length_cons, List.length_nil] at leng23
      have hgl23 := Math.growF_len f (0 : Int) p0 (p1 + bet) bet (rs - made) false (((nz + 1) + 1))
      refine bsl trv1 rfl rfl rfl (bsl50_1 (.int .i64 _) rfl) (fun bkl15 hbkl15 => ?_)
      refine aplI (N := (0 + 1)) (x := ((((nz + 1) + 1) : Nat) : Int)) 3 0 rfl rfl mk50 trv1 rfl rfl rfl rfl (by omega) ?_
      intro aq24 cq24
      refine asS rfl rfl rfl ?_
      refine rNil ?_
      refine qSeq rfl ?_
      refine hSeq ?_
      refine hReg (sq 0 (sq 1 (sq 2 (sq 3 (sl 4 (sq 5 (sq 6 (sq 7 (sq 8 (sl 9 sz)))))))))) (by kernel_rfl) ?_
      refine mvP rfl rfl rfl ?_
      refine nilc rfl rfl rfl ?_
      refine fld fl78_0 rfl rfl rfl ?_
      refine fld fl26_0 rfl rfl rfl ?_
      refine ldl Tryd.isAgg24 (cB 1 rfl rfl) trv rfl rfl rfl ?_
      refine mvI rfl rfl rfl ?_
      refine mvS rfl rfl rfl ?_
      refine oxR (zn := nz) 2 rfl el24 rfl rfl rfl rfl (by omega) (by omega) rfl ?_
      intro gk25 hgk25
      refine fld fl52_4 rfl rfl rfl ?_
      refine stRk (f := 4) (hd := (aq24, cq24)) (Nd.mk 1 p0 p1 (-1) []) (Nd.mk 1 p0 p1 (-1) ((([] ++ [(((nz + 1) : Nat) : Int)]) ++ [((((nz + 1) + 1) : Nat) : Int)]))) nz 2 2 ndK.ok rfl rfl hgk25 (by simp only [List.append_assoc, List.cons_append, List.nil_append]; exact Math.at_mid lz) Tryd.sizeOf50 trv rfl rfl rfl rfl rfl (fun h => by first | rfl | (dsimp only [ndK, ndC] at h ⊢; rw [h]; rfl)) rfl (by decide) ?_
      refine rNil ?_
      refine qSeq rfl ?_
      refine hSeq ?_
      refine hReg (sq 0 (sq 1 sz)) (by kernel_rfl) ?_
      refine mvI rfl rfl rfl ?_
      refine asI rfl rfl rfl ?_
      refine rNil ?_
      refine qSeq rfl ?_
      refine hRet ?_
      rw [show (((((z ++ [(Nd.mk (1 : Int) p0 p1 (-1) [])]) ++ [(Nd.mk (2 : Int) p0 p1 (-1) [])]) ++ Math.growF f (0 : Int) p0 (p1 + bet) bet (rs - made) false (((nz + 1) + 1)))).set nz ((Nd.mk 1 p0 p1 (-1) ((([] ++ [(((nz + 1) : Nat) : Int)]) ++ [((((nz + 1) + 1) : Nat) : Int)]))))) = z ++ Math.growF (f + 1) 1 p0 p1 bet (rs - made) ck nz from Math.grow_3 lz he (by assumption) (by omega) (by simp [he]) (by simp [he]) rfl]
      exact fun w hs => ⟨[.int .i64 (nz : Int)], ⟨rfl, trivial⟩, ⟨(ag23, ng23, cg23, (hset Hg23 nz (aq24, cq24))), rfl, trivial, hs.pick [2, 0]⟩⟩
     ·
      replace c5 : ck = false := c5
      have hck : Math.ckN ck = 3 := by rw [c5]; rfl
      refine hReg (sq 0 (sq 1 (sq 2 (sl 3 (sq 4 (sl 5 (sl 6 (sl 7 (sq 8 sz))))))))) (by kernel_rfl) ?_
      refine mvS rfl rfl rfl ?_
      refine mvP rfl rfl rfl ?_
      refine mvI rfl rfl rfl ?_
      refine ldAl Tryd.isAgg80 Tryd.sizeOf80 (cBs 2 rfl) trv rfl rfl rfl rfl ?_
      refine mvI rfl rfl rfl ?_
      refine callM (α := Option Addr × Nat × Nat × (Nat → Hd)) (Lf := [blk be 78 [.slice ag20 (nz + 1) cg20, .int .i64 bet, .int .i64 rs], OwnR ndK 52 2 ag20 (nz + 1) cg20 Hg20 ((z ++ [(Nd.mk (1 : Int) p0 p1 (-1) [])]))]) (Lr := [blk bkb12 80 [.int .i64 p0, .int .i64 p1]]) (φs := fun x => [blk be 78 [.slice x.1 x.2.1 x.2.2.1, .int .i64 bet, .int .i64 rs], OwnR ndK 52 2 x.1 x.2.1 x.2.2.1 x.2.2.2 ((z ++ [(Nd.mk (1 : Int) p0 p1 (-1) [])]) ++ Math.growF f (0 : Int) p0 p1 bet (rs - made) true (nz + 1))]) (val := fun x => .int .i64 ((nz + 1) : Int)) rfl Tryd.call45 trv1 rfl rfl (fun w M0 hs => ih be ag20 (nz + 1) cg20 Hg20 ((z ++ [(Nd.mk (1 : Int) p0 p1 (-1) [])])) (0 : Int) p0 p1 bet rs made true w M0 hs (by omega) (by omega) (by omega) (by omega) (by omega) (by omega)) ?_
      rintro ⟨ag26, ng26, cg26, Hg26⟩ -
      refine rPieces (L' := [blk be 78 [.slice ag26 ng26 cg26, .int .i64 bet, .int .i64 rs], OwnR ndK 52 2 ag26 ng26 cg26 Hg26 (((z ++ [(Nd.mk (1 : Int) p0 p1 (-1) [])]) ++ Math.growF f (0 : Int) p0 p1 bet (rs - made) true (nz + 1))), blk bkb12 80 [.int .i64 p0, .int .i64 p1]]) (fun _ h => h) ?_
      refine rKnow (fun w hs => (show OwnR ndK 52 2 ag26 ng26 cg26 Hg26 (((z ++ [(Nd.mk (1 : Int) p0 p1 (-1) [])]) ++ Math.growF f (0 : Int) p0 p1 bet (rs - made) true (nz + 1))) w from hs.at_ 1 rfl).1) (fun leng26 => ?_)
      simp only [List.length_append, List.length_cons, List.length_nil] at leng26
      have hgl26 := Math.growF_len f (0 : Int) p0 p1 bet (rs - made) true (nz + 1)
      refine bsl trv1 rfl rfl rfl (bsl50_1 (.int .i64 _) rfl) (fun bkl16 hbkl16 => ?_)
      refine rPieces (fun _ h => Sep.nilI 2 h) ?_
      refine aplI (N := 0) (x := (((nz + 1) : Nat) : Int)) 0 1 rfl rfl mk50 trv1 rfl rfl rfl rfl (by omega) ?_
      intro aq27 cq27
      refine asS rfl rfl rfl ?_
      refine rNil ?_
      refine qSeq rfl ?_
      refine hSeq ?_
      refine hDraw (Ls := [blk be 78 [.slice ag26 ng26 cg26, .int .i64 bet, .int .i64 rs], blk bkb12 80 [.int .i64 p0, .int .i64 p1]]) (by kernel_rfl) (sq 0 (sq 1 (sq 2 (sq 3 (sq 4 (sq 5 (sq 6 (sq 7 (sq 8 (sf 9 sz)))))))))) (by kernel_rfl) (.cons _ (.cons _ (.cons_cons _ (.cons _ (.cons_cons _ .slnil))))) ?_
      refine mvI rfl rfl rfl ?_
      refine ixA (z := 1) ar80 rfl rfl rfl rfl (by decide) ?_
      refine ldq Tryd.isAgg2 (cB 1 rfl rfl) rfl rfl rfl ?_
      refine mvP rfl rfl rfl ?_
      refine nilc rfl rfl rfl ?_
      refine fld fl78_1 rfl rfl rfl ?_
      refine ldq Tryd.isAgg2 (cB 0 rfl rfl) rfl rfl rfl ?_
      refine add rfl rfl rfl rfl (by omega) ?_
      refine ixA (z := 1) ar80 rfl rfl rfl rfl (by decide) ?_
      refine stf (v := .int .i64 _) 4 rfl Tryd.sizeOf2 rfl rfl rfl rfl rfl (Nat.le_of_ble_eq_true rfl) ?_
      refine rNil ?_
      refine qSeq rfl ?_
      refine hReg (sq 0 (sq 1 (sq 2 (sl 3 (sq 4 (sl 5 (sl 6 (sl 7 (sq 8 sz))))))))) (by kernel_rfl) ?_
      refine mvS rfl rfl rfl ?_
      refine mvP rfl rfl rfl ?_
      refine mvI rfl rfl rfl ?_
      refine ldAl Tryd.isAgg80 Tryd.sizeOf80 (cBs 4 rfl) trv rfl rfl rfl rfl ?_
      refine mvI rfl rfl rfl ?_
      refine rPieces (fun _ h => h.pick [2, 2, 0, 0, 0]) ?_
      refine callM (α := Option Addr × Nat × Nat × (Nat → Hd)) (Lf := [blk be 78 [.slice ag26 ng26 cg26, .int .i64 bet, .int .i64 rs], OwnR ndK 52 2 ag26 ng26 cg26 Hg26 (((z ++ [(Nd.mk (1 : Int) p0 p1 (-1) [])]) ++ Math.growF f (0 : Int) p0 p1 bet (rs - made) true (nz + 1)))]) (Lr := [OwnI 2 aq27 (0 + 1) cq27 (([] ++ [(((nz + 1) : Nat) : Int)])), blk bkl16 2 [.int .i64 ((((nz + 1) : Nat) : Int))], blk bkb12 80 [.int .i64 p0, .int .i64 (p1 + bet)]]) (φs := fun x => [blk be 78 [.slice x.1 x.2.1 x.2.2.1, .int .i64 bet, .int .i64 rs], OwnR ndK 52 2 x.1 x.2.1 x.2.2.1 x.2.2.2 (((z ++ [(Nd.mk (1 : Int) p0 p1 (-1) [])]) ++ Math.growF f (0 : Int) p0 p1 bet (rs - made) true (nz + 1)) ++ Math.growF f (0 : Int) p0 (p1 + bet) bet (rs - made) false ng26)]) (val := fun x => .int .i64 (ng26 : Int)) rfl Tryd.call45 trv1 rfl rfl (fun w M0 hs => ih be ag26 ng26 cg26 Hg26 (((z ++ [(Nd.mk (1 : Int) p0 p1 (-1) [])]) ++ Math.growF f (0 : Int) p0 p1 bet (rs - made) true (nz + 1))) (0 : Int) p0 (p1 + bet) bet rs made false w M0 hs (by omega) (by omega) (by omega) (by omega) (by omega) (by omega)) ?_
      rintro ⟨ag28, ng28, cg28, Hg28⟩ -
      refine rPieces (L' := [blk be 78 [.slice ag28 ng28 cg28, .int .i64 bet, .int .i64 rs], OwnR ndK 52 2 ag28 ng28 cg28 Hg28 ((((z ++ [(Nd.mk (1 : Int) p0 p1 (-1) [])]) ++ Math.growF f (0 : Int) p0 p1 bet (rs - made) true (nz + 1)) ++ Math.growF f (0 : Int) p0 (p1 + bet) bet (rs - made) false ng26)), OwnI 2 aq27 (0 + 1) cq27 (([] ++ [(((nz + 1) : Nat) : Int)])), blk bkl16 2 [.int .i64 ((((nz + 1) : Nat) : Int))], blk bkb12 80 [.int .i64 p0, .int .i64 (p1 + bet)]]) (fun _ h => h) ?_
      refine rKnow (fun w hs => (show OwnR ndK 52 2 ag28 ng28 cg28 Hg28 ((((z ++ [(Nd.mk (1 : Int) p0 p1 (-1) [])]) ++ Math.growF f (0 : Int) p0 p1 bet (rs - made) true (nz + 1)) ++ Math.growF f (0 : Int) p0 (p1 + bet) bet (rs - made) false ng26)) w from hs.at_ 1 rfl).1) (fun leng28 => ?_)
      simp only [List.length_append, List.length_cons, List.length_nil] at leng28
      have hgl28 := Math.growF_len f (0 : Int) p0 (p1 + bet) bet (rs - made) false ng26
      refine bsl trv1 rfl rfl rfl (bsl50_1 (.int .i64 _) rfl) (fun bkl18 hbkl18 => ?_)
      refine aplI (N := (0 + 1)) (x := (ng26 : Int)) 3 0 rfl rfl mk50 trv1 rfl rfl rfl rfl (by omega) ?_
      intro aq29 cq29
      refine asS rfl rfl rfl ?_
      refine rNil ?_
      refine qSeq rfl ?_
      refine hSeq ?_
      refine hReg (sq 0 (sq 1 (sq 2 (sq 3 (sl 4 (sq 5 (sq 6 (sq 7 (sq 8 (sl 9 sz)))))))))) (by kernel_rfl) ?_
      refine mvP rfl rfl rfl ?_
      refine nilc rfl rfl rfl ?_
      refine fld fl78_0 rfl rfl rfl ?_
      refine fld fl26_0 rfl rfl rfl ?_
      refine ldl Tryd.isAgg24 (cB 1 rfl rfl) trv rfl rfl rfl ?_
      refine mvI rfl rfl rfl ?_
      refine mvS rfl rfl rfl ?_
      refine oxR (zn := nz) 2 rfl el24 rfl rfl rfl rfl (by omega) (by omega) rfl ?_
      intro gk30 hgk30
      refine fld fl52_4 rfl rfl rfl ?_
      refine stRk (f := 4) (hd := (aq29, cq29)) (Nd.mk 1 p0 p1 (-1) []) (Nd.mk 1 p0 p1 (-1) ((([] ++ [(((nz + 1) : Nat) : Int)]) ++ [(ng26 : Int)]))) nz 2 2 ndK.ok rfl rfl hgk30 (by simp only [List.append_assoc, List.cons_append, List.nil_append]; exact Math.at_mid lz) Tryd.sizeOf50 trv rfl rfl rfl rfl rfl (fun h => by first | rfl | (dsimp only [ndK, ndC] at h ⊢; rw [h]; rfl)) rfl (by decide) ?_
      refine rNil ?_
      refine qSeq rfl ?_
      refine hSeq ?_
      refine hReg (sq 0 (sq 1 sz)) (by kernel_rfl) ?_
      refine mvI rfl rfl rfl ?_
      refine asI rfl rfl rfl ?_
      refine rNil ?_
      refine qSeq rfl ?_
      refine hRet ?_
      rw [show (((((z ++ [(Nd.mk (1 : Int) p0 p1 (-1) [])]) ++ Math.growF f (0 : Int) p0 p1 bet (rs - made) true (nz + 1)) ++ Math.growF f (0 : Int) p0 (p1 + bet) bet (rs - made) false ng26)).set nz ((Nd.mk 1 p0 p1 (-1) ((([] ++ [(((nz + 1) : Nat) : Int)]) ++ [(ng26 : Int)]))))) = z ++ Math.growF (f + 1) 1 p0 p1 bet (rs - made) ck nz from Math.grow_4 lz he (by assumption) (by omega) (by simp [he]) (by simp [he]) (by omega) rfl]
      exact fun w hs => ⟨[.int .i64 (nz : Int)], ⟨rfl, trivial⟩, ⟨(ag28, ng28, cg28, (hset Hg28 nz (aq29, cq29))), rfl, trivial, hs.pick [2, 0]⟩⟩
    ·
     replace c4 : ¬ (p1 = p0) := c4
     have he : ¬ p0 = p1 := by omega
     refine hSeq ?_
     refine hReg (sq 0 (sq 1 (sq 2 (sl 3 (sq 4 (sl 5 (sq 6 (sq 7 (sl 8 (sl 9 (sl 10 (sq 11 sz)))))))))))) (by kernel_rfl) ?_
     refine mvS rfl rfl rfl ?_
     refine mvP rfl rfl rfl ?_
     refine ixA (z := 0) ar80 rfl rfl rfl rfl (by decide) ?_
     refine ldl Tryd.isAgg2 (cB 2 rfl rfl) trv rfl rfl rfl ?_
     refine ixA (z := 1) ar80 rfl rfl rfl rfl (by decide) ?_
     refine ldl Tryd.isAgg2 (cB 2 rfl rfl) trv rfl rfl rfl ?_
     refine mvI rfl rfl rfl ?_
     refine bld rfl rfl rfl (bld52_0_1_2_3_4 (.int .i64 _) (.int .i64 _) (.int .i64 _) (.int .i64 _) (.slice _ _ _) rfl rfl rfl rfl rfl) ?_
     refine callM (α := Option Addr × Nat × (Nat → Hd)) (Lf := [blk be 78 [.slice ag20 (nz + 1) cg20, .int .i64 bet, .int .i64 rs], OwnR ndK 52 2 ag20 (nz + 1) cg20 Hg20 ((z ++ [(Nd.mk (1 : Int) p0 p1 (-1) [])]))]) (Lr := [blk bkb12 80 [.int .i64 p0, .int .i64 p1]]) (φs := fun x => [blk be 78 [.slice x.1 ((nz + 1) + 1) x.2.1, .int .i64 bet, .int .i64 rs], OwnR ndK 52 2 x.1 ((nz + 1) + 1) x.2.1 x.2.2 ((z ++ [(Nd.mk (1 : Int) p0 p1 (-1) [])]) ++ [(Nd.mk (2 : Int) p0 p1 (1 : Int) [])])]) (val := fun x => .int .i64 ((nz + 1) : Int)) rfl Tryd.call69 trv1 rfl rfl (fun w M0 hs => impl_treeBuilder_add_c be ag20 (nz + 1) cg20 Hg20 ((z ++ [(Nd.mk (1 : Int) p0 p1 (-1) [])])) (2 : Int) p0 p1 (1 : Int) bet rs w M0 hs (by omega)) ?_
     rintro ⟨ag31, cg31, Hg31⟩ -
     refine rPieces (L' := [blk be 78 [.slice ag31 (((nz + 1) + 1)) cg31, .int .i64 bet, .int .i64 rs], OwnR ndK 52 2 ag31 (((nz + 1) + 1)) cg31 Hg31 (((z ++ [(Nd.mk (1 : Int) p0 p1 (-1) [])]) ++ [(Nd.mk (2 : Int) p0 p1 (1 : Int) [])])), blk bkb12 80 [.int .i64 p0, .int .i64 p1]]) (fun _ h => h) ?_
     refine bsl trv1 rfl rfl rfl (bsl50_1 (.int .i64 _) rfl) (fun bkl19 hbkl19 => ?_)
     refine rPieces (fun _ h => Sep.nilI 2 h) ?_
     refine aplI (N := 0) (x := (((nz + 1) : Nat) : Int)) 0 1 rfl rfl mk50 trv1 rfl rfl rfl rfl (by omega) ?_
     intro aq32 cq32
     refine asS rfl rfl rfl ?_
     refine rNil ?_
     refine qSeq rfl ?_
     refine hSeq ?_
     refine hReg (sq 0 (sq 1 (sq 2 (sl 3 (sq 4 (sl 5 sz)))))) (by kernel_rfl) ?_
     refine mvI rfl rfl rfl ?_
     refine mvI rfl rfl rfl ?_
     refine ixA (z := 0) ar80 rfl rfl rfl rfl (by decide) ?_
     refine ldl Tryd.isAgg2 (cB 4 rfl rfl) trv rfl rfl rfl ?_
     refine ixA (z := 1) ar80 rfl rfl rfl rfl (by decide) ?_
     refine stl (v := .int .i64 _) 4 rfl Tryd.sizeOf2 trv rfl rfl rfl rfl rfl (Nat.le_of_ble_eq_true rfl) ?_
     refine rNil ?_
     refine qSeq rfl ?_
     refine hSeq ?_
     refine hReg (sq 0 (sq 1 (sq 2 (sl 3 (sq 4 (sl 5 (sq 6 (sl 7 (sl 8 (sl 9 (sq 10 sz))))))))))) (by kernel_rfl) ?_
     refine mvS rfl rfl rfl ?_
     refine mvP rfl rfl rfl ?_
     refine ixA (z := 0) ar80 rfl rfl rfl rfl (by decide) ?_
     refine ldl Tryd.isAgg2 (cB 4 rfl rfl) trv rfl rfl rfl ?_
     refine ixA (z := 1) ar80 rfl rfl rfl rfl (by decide) ?_
     refine ldl Tryd.isAgg2 (cB 4 rfl rfl) trv rfl rfl rfl ?_
     refine bld rfl rfl rfl (bld52_0_1_2_3_4 (.int .i64 _) (.int .i64 _) (.int .i64 _) (.int .i64 _) (.slice _ _ _) rfl rfl rfl rfl rfl) ?_
     refine rPieces (fun _ h => h.pick [2, 2, 0, 0, 0]) ?_
     refine callM (α := Option Addr × Nat × (Nat → Hd)) (Lf := [blk be 78 [.slice ag31 (((nz + 1) + 1)) cg31, .int .i64 bet, .int .i64 rs], OwnR ndK 52 2 ag31 (((nz + 1) + 1)) cg31 Hg31 (((z ++ [(Nd.mk (1 : Int) p0 p1 (-1) [])]) ++ [(Nd.mk (2 : Int) p0 p1 (1 : Int) [])]))]) (Lr := [OwnI 2 aq32 (0 + 1) cq32 (([] ++ [(((nz + 1) : Nat) : Int)])), blk bkl19 2 [.int .i64 ((((nz + 1) : Nat) : Int))], blk bkb12 80 [.int .i64 p0, .int .i64 p0]]) (φs := fun x => [blk be 78 [.slice x.1 (((nz + 1) + 1) + 1) x.2.1, .int .i64 bet, .int .i64 rs], OwnR ndK 52 2 x.1 (((nz + 1) + 1) + 1) x.2.1 x.2.2 (((z ++ [(Nd.mk (1 : Int) p0 p1 (-1) [])]) ++ [(Nd.mk (2 : Int) p0 p1 (1 : Int) [])]) ++ [(Nd.mk (2 : Int) p0 p0 (-1) [])])]) (val := fun x => .int .i64 (((nz + 1) + 1) : Int)) rfl Tryd.call69 trv1 rfl rfl (fun w M0 hs => impl_treeBuilder_add_c be ag31 (((nz + 1) + 1)) cg31 Hg31 (((z ++ [(Nd.mk (1 : Int) p0 p1 (-1) [])]) ++ [(Nd.mk (2 : Int) p0 p1 (1 : Int) [])])) (2 : Int) p0 p0 (-1) bet rs w M0 hs (by omega)) ?_
     rintro ⟨ag33, cg33, Hg33⟩ -
     refine rPieces (L' := [blk be 78 [.slice ag33 ((((nz + 1) + 1) + 1)) cg33, .int .i64 bet, .int .i64 rs], OwnR ndK 52 2 ag33 ((((nz + 1) + 1) + 1)) cg33 Hg33 ((((z ++ [(Nd.mk (1 : Int) p0 p1 (-1) [])]) ++ [(Nd.mk (2 : Int) p0 p1 (1 : Int) [])]) ++ [(Nd.mk (2 : Int) p0 p0 (-1) [])])), OwnI 2 aq32 (0 + 1) cq32 (([] ++ [(((nz + 1) : Nat) : Int)])), blk bkl19 2 [.int .i64 ((((nz + 1) : Nat) : Int))], blk bkb12 80 [.int .i64 p0, .int .i64 p0]]) (fun _ h => h) ?_
     refine bsl trv1 rfl rfl rfl (bsl50_1 (.int .i64 _) rfl) (fun bkl21 hbkl21 => ?_)
     refine aplI (N := (0 + 1)) (x := ((((nz + 1) + 1) : Nat) : Int)) 3 0 rfl rfl mk50 trv1 rfl rfl rfl rfl (by omega) ?_
     intro aq34 cq34
     refine asS rfl rfl rfl ?_
     refine rNil ?_
     refine qSeq rfl ?_
     refine hSeq ?_
     refine hReg (sq 0 (sq 1 (sq 2 (sq 3 (sl 4 (sq 5 sz)))))) (by kernel_rfl) ?_
     refine mvI rfl rfl rfl ?_
     refine mvP rfl rfl rfl ?_
     refine nilc rfl rfl rfl ?_
     refine fld fl78_2 rfl rfl rfl ?_
     refine ldl Tryd.isAgg2 (cB 1 rfl rfl) trv rfl rfl rfl ?_
     refine lss rfl rfl rfl rfl ?_
     refine rNil ?_
     refine qSeq rfl ?_
     refine hIfD rfl (fun c6 => ?_) (fun c6 => ?_)
     ·
      replace c6 : made < rs := c6
      refine hSeq ?_
      refine hDraw (Ls := [blk be 78 [.slice ag33 ((((nz + 1) + 1) + 1)) cg33, .int .i64 bet, .int .i64 rs], blk bkb12 80 [.int .i64 p0, .int .i64 p0]]) (by kernel_rfl) (sq 0 (sq 1 (sq 2 (sq 3 (sq 4 (sq 5 (sq 6 (sq 7 (sq 8 (sf 9 sz)))))))))) (by kernel_rfl) (.cons _ (.cons_cons _ (.cons _ (.cons _ (.cons _ (.cons_cons _ .slnil)))))) ?_
      refine mvI rfl rfl rfl ?_
      refine ixA (z := 1) ar80 rfl rfl rfl rfl (by decide) ?_
      refine ldq Tryd.isAgg2 (cB 1 rfl rfl) rfl rfl rfl ?_
      refine mvP rfl rfl rfl ?_
      refine nilc rfl rfl rfl ?_
      refine fld fl78_1 rfl rfl rfl ?_
      refine ldq Tryd.isAgg2 (cB 0 rfl rfl) rfl rfl rfl ?_
      refine add rfl rfl rfl rfl (by omega) ?_
      refine ixA (z := 1) ar80 rfl rfl rfl rfl (by decide) ?_
      refine stf (v := .int .i64 _) 5 rfl Tryd.sizeOf2 rfl rfl rfl rfl rfl (Nat.le_of_ble_eq_true rfl) ?_
      refine rNil ?_
      refine qSeq rfl ?_
      refine hReg (sq 0 (sq 1 (sq 2 (sl 3 (sq 4 (sq 5 (sl 6 (sl 7 (sl 8 (sq 9 sz)))))))))) (by kernel_rfl) ?_
      refine mvS rfl rfl rfl ?_
      refine mvP rfl rfl rfl ?_
      refine mvI rfl rfl rfl ?_
      refine ldAl Tryd.isAgg80 Tryd.sizeOf80 (cBs 5 rfl) trv rfl rfl rfl rfl ?_
      refine mvI rfl rfl rfl ?_
      refine add rfl rfl rfl rfl (by omega) ?_
      refine rPieces (fun _ h => h.pick [1, 1, 0, 0, 0, 0]) ?_
      refine callM (α := Option Addr × Nat × Nat × (Nat → Hd)) (Lf := [blk be 78 [.slice ag33 ((((nz + 1) + 1) + 1)) cg33, .int .i64 bet, .int .i64 rs], OwnR ndK 52 2 ag33 ((((nz + 1) + 1) + 1)) cg33 Hg33 ((((z ++ [(Nd.mk (1 : Int) p0 p1 (-1) [])]) ++ [(Nd.mk (2 : Int) p0 p1 (1 : Int) [])]) ++ [(Nd.mk (2 : Int) p0 p0 (-1) [])]))]) (Lr := [blk bkl21 2 [.int .i64 (((((nz + 1) + 1) : Nat) : Int))], OwnI 2 aq34 (((0 + 1) + 1)) cq34 ((([] ++ [(((nz + 1) : Nat) : Int)]) ++ [((((nz + 1) + 1) : Nat) : Int)])), blk bkl19 2 [.int .i64 ((((nz + 1) : Nat) : Int))], blk bkb12 80 [.int .i64 p0, .int .i64 (p0 + bet)]]) (φs := fun x => [blk be 78 [.slice x.1 x.2.1 x.2.2.1, .int .i64 bet, .int .i64 rs], OwnR ndK 52 2 x.1 x.2.1 x.2.2.1 x.2.2.2 ((((z ++ [(Nd.mk (1 : Int) p0 p1 (-1) [])]) ++ [(Nd.mk (2 : Int) p0 p1 (1 : Int) [])]) ++ [(Nd.mk (2 : Int) p0 p0 (-1) [])]) ++ Math.growF f (0 : Int) p0 (p0 + bet) bet (rs - (made + 1)) false ((((nz + 1) + 1) + 1)))]) (val := fun x => .int .i64 ((((nz + 1) + 1) + 1) : Int)) rfl Tryd.call45 trv1 rfl rfl (fun w M0 hs => ih be ag33 ((((nz + 1) + 1) + 1)) cg33 Hg33 ((((z ++ [(Nd.mk (1 : Int) p0 p1 (-1) [])]) ++ [(Nd.mk (2 : Int) p0 p1 (1 : Int) [])]) ++ [(Nd.mk (2 : Int) p0 p0 (-1) [])])) (0 : Int) p0 (p0 + bet) bet rs (made + 1) false w M0 hs (by omega) (by omega) (by omega) (by omega) (by omega) (by omega)) ?_
      rintro ⟨ag35, ng35, cg35, Hg35⟩ -
      refine rPieces (L' := [blk be 78 [.slice ag35 ng35 cg35, .int .i64 bet, .int .i64 rs], OwnR ndK 52 2 ag35 ng35 cg35 Hg35 (((((z ++ [(Nd.mk (1 : Int) p0 p1 (-1) [])]) ++ [(Nd.mk (2 : Int) p0 p1 (1 : Int) [])]) ++ [(Nd.mk (2 : Int) p0 p0 (-1) [])]) ++ Math.growF f (0 : Int) p0 (p0 + bet) bet (rs - (made + 1)) false ((((nz + 1) + 1) + 1)))), blk bkl21 2 [.int .i64 (((((nz + 1) + 1) : Nat) : Int))], OwnI 2 aq34 (((0 + 1) + 1)) cq34 ((([] ++ [(((nz + 1) : Nat) : Int)]) ++ [((((nz + 1) + 1) : Nat) : Int)])), blk bkl19 2 [.int .i64 ((((nz + 1) : Nat) : Int))], blk bkb12 80 [.int .i64 p0, .int .i64 (p0 + bet)]]) (fun _ h => h) ?_
      refine rKnow (fun w hs => (show OwnR ndK 52 2 ag35 ng35 cg35 Hg35 (((((z ++ [(Nd.mk (1 : Int) p0 p1 (-1) [])]) ++ [(Nd.mk (2 : Int) p0 p1 (1 : Int) [])]) ++ [(Nd.mk (2 : Int) p0 p0 (-1) [])]) ++ Math.growF f (0 : Int) p0 (p0 + bet) bet (rs - (made + 1)) false ((((nz + 1) + 1) + 1)))) w from hs.at_ 1 rfl).1) (fun leng35 => ?_)
      simp only [List.length_append, List.length_cons, List.length_nil] at leng35
      have hgl35 := Math.growF_len f (0 : Int) p0 (p0 + bet) bet (rs - (made + 1)) false ((((nz + 1) + 1) + 1))
      refine bsl trv1 rfl rfl rfl (bsl50_1 (.int .i64 _) rfl) (fun bkl22 hbkl22 => ?_)
      refine aplI (N := (((0 + 1) + 1))) (x := (((((nz + 1) + 1) + 1) : Nat) : Int)) 4 0 rfl rfl mk50 trv1 rfl rfl rfl rfl (by omega) ?_
      intro aq36 cq36
      refine asS rfl rfl rfl ?_
      refine rNil ?_
      refine qSeq rfl ?_
      refine hSeq ?_
      refine hReg (sq 0 (sq 1 (sq 2 (sq 3 (sl 4 (sq 5 (sq 6 (sq 7 (sq 8 (sl 9 sz)))))))))) (by kernel_rfl) ?_
      refine mvP rfl rfl rfl ?_
      refine nilc rfl rfl rfl ?_
      refine fld fl78_0 rfl rfl rfl ?_
      refine fld fl26_0 rfl rfl rfl ?_
      refine ldl Tryd.isAgg24 (cB 1 rfl rfl) trv rfl rfl rfl ?_
      refine mvI rfl rfl rfl ?_
      refine mvS rfl rfl rfl ?_
      refine oxR (zn := nz) 2 rfl el24 rfl rfl rfl rfl (by omega) (by omega) rfl ?_
      intro gk37 hgk37
      refine fld fl52_4 rfl rfl rfl ?_
      refine stRk (f := 4) (hd := (aq36, cq36)) (Nd.mk 1 p0 p1 (-1) []) (Nd.mk 1 p0 p1 (-1) (((([] ++ [(((nz + 1) : Nat) : Int)]) ++ [((((nz + 1) + 1) : Nat) : Int)]) ++ [(((((nz + 1) + 1) + 1) : Nat) : Int)]))) nz 2 3 ndK.ok rfl rfl hgk37 (by simp only [List.append_assoc, List.cons_append, List.nil_append]; exact Math.at_mid lz) Tryd.sizeOf50 trv rfl rfl rfl rfl rfl (fun h => by first | rfl | (dsimp only [ndK, ndC] at h ⊢; rw [h]; rfl)) rfl (by decide) ?_
      refine rNil ?_
      refine qSeq rfl ?_
      refine hSeq ?_
      refine hReg (sq 0 (sq 1 sz)) (by kernel_rfl) ?_
      refine mvI rfl rfl rfl ?_
      refine asI rfl rfl rfl ?_
      refine rNil ?_
      refine qSeq rfl ?_
      refine hRet ?_
      rw [show ((((((z ++ [(Nd.mk (1 : Int) p0 p1 (-1) [])]) ++ [(Nd.mk (2 : Int) p0 p1 (1 : Int) [])]) ++ [(Nd.mk (2 : Int) p0 p0 (-1) [])]) ++ Math.growF f (0 : Int) p0 (p0 + bet) bet (rs - (made + 1)) false ((((nz + 1) + 1) + 1)))).set nz ((Nd.mk 1 p0 p1 (-1) (((([] ++ [(((nz + 1) : Nat) : Int)]) ++ [((((nz + 1) + 1) : Nat) : Int)]) ++ [(((((nz + 1) + 1) + 1) : Nat) : Int)]))))) = z ++ Math.growF (f + 1) 1 p0 p1 bet (rs - made) ck nz from Math.grow_2 lz he (by first | assumption | omega) (by omega) (by omega) (by simp) (by simp [he]) (by simp [he]) rfl]
      exact fun w hs => ⟨[.int .i64 (nz : Int)], ⟨rfl, trivial⟩, ⟨(ag35, ng35, cg35, (hset Hg35 nz (aq36, cq36))), rfl, trivial, hs.pick [2, 0]⟩⟩
     ·
      replace c6 : ¬ (made < rs) := c6
      refine hSkip ?_
      refine qSeq rfl ?_
      refine hSeq ?_
      refine hReg (sq 0 (sq 1 (sq 2 (sq 3 (sl 4 (sq 5 (sq 6 (sq 7 (sq 8 (sl 9 sz)))))))))) (by kernel_rfl) ?_
      refine mvP rfl rfl rfl ?_
      refine nilc rfl rfl rfl ?_
      refine fld fl78_0 rfl rfl rfl ?_
      refine fld fl26_0 rfl rfl rfl ?_
      refine ldl Tryd.isAgg24 (cB 1 rfl rfl) trv rfl rfl rfl ?_
      refine mvI rfl rfl rfl ?_
      refine mvS rfl rfl rfl ?_
      refine oxR (zn := nz) 2 rfl el24 rfl rfl rfl rfl (by omega) (by omega) rfl ?_
      intro gk38 hgk38
      refine fld fl52_4 rfl rfl rfl ?_
      refine stRk (f := 4) (hd := (aq34, cq34)) (Nd.mk 1 p0 p1 (-1) []) (Nd.mk 1 p0 p1 (-1) ((([] ++ [(((nz + 1) : Nat) : Int)]) ++ [((((nz + 1) + 1) : Nat) : Int)]))) nz 2 2 ndK.ok rfl rfl hgk38 (by simp only [List.append_assoc, List.cons_append, List.nil_append]; exact Math.at_mid lz) Tryd.sizeOf50 trv rfl rfl rfl rfl rfl (fun h => by first | rfl | (dsimp only [ndK, ndC] at h ⊢; rw [h]; rfl)) rfl (by decide) ?_
      refine rNil ?_
      refine qSeq rfl ?_
      refine hSeq ?_
      refine hReg (sq 0 (sq 1 sz)) (by kernel_rfl) ?_
      refine mvI rfl rfl rfl ?_
      refine asI rfl rfl rfl ?_
      refine rNil ?_
      refine qSeq rfl ?_
      refine hRet ?_
      rw [show (((((z ++ [(Nd.mk (1 : Int) p0 p1 (-1) [])]) ++ [(Nd.mk (2 : Int) p0 p1 (1 : Int) [])]) ++ [(Nd.mk (2 : Int) p0 p0 (-1) [])])).set nz ((Nd.mk 1 p0 p1 (-1) ((([] ++ [(((nz + 1) : Nat) : Int)]) ++ [((((nz + 1) + 1) : Nat) : Int)]))))) = z ++ Math.growF (f + 1) 1 p0 p1 bet (rs - made) ck nz from Math.grow_1 lz he (by first | assumption | omega) (by simp) rfl]
      exact fun w hs => ⟨[.int .i64 (nz : Int)], ⟨rfl, trivial⟩, ⟨(ag33, (((nz + 1) + 1) + 1), cg33, (hset Hg33 nz (aq34, cq34))), rfl, trivial, hs.pick [2, 0]⟩⟩
theorem impl_BetTree_c (an : Int) (bt : Int) (ra : Int) (w : World) :
  Calls Tryd.prog 15 #[.int .i64 an, .int .i64 bt, .int .i64 ra] w (Ret fun v w' => ∃ x : Option Addr × Nat × Nat × (Nat → Hd) × List Nd × Int, v = .tuple #[.agg #[.slice x.1 x.2.1 x.2.2.1], .int .i64 x.2.2.2.2.2] ∧ (x.2.2.2.2.1 = (Math.betAt an bt ra).1 ∧ x.2.2.2.2.2 = (Math.betAt an bt ra).2) ∧ Sep w none_ [OwnR ndK 52 2 x.1 x.2.1 x.2.2.1 x.2.2.2.1 x.2.2.2.2.1] w') := by
 refine fn (M := none_) (rs := [.cell 6 26, .tmp 7]) Tryd.func15 rfl Tryd.ntmps15 rfl rfl (Sep.start _ _) ?_
 refine hSeq ?_
 refine hReg (sl 0 (sq 1 sz)) (by kernel_rfl) ?_
 refine alc Tryd.zeroValue26 rfl trv1 rfl rfl (fun bka1 hbka1 => ?_)
 refine asI rfl rfl rfl ?_
 refine rNil ?_
 refine qSeq rfl ?_
 refine hSeq ?_
 refine hSeq ?_
 refine hReg (sq 0 (sl 1 (sq 2 (sq 3 (sq 4 (sl 5 (sq 6 (sq 7 (sq 8 (sq 9 (sl 10 (sq 11 (sq 12 (sq 13 (sq 14 (sq 15 (sq 16 (sq 17 (sq 18 (sq 19 (sq 20 (sq 21 sz)))))))))))))))))))))) (by kernel_rfl) ?_
 refine mvI rfl rfl rfl ?_
 refine callP (v := .bool (decide ((0 : Int) ≤ an ∧ an ≤ (100 : Int)))) Tryd.call29 trv rfl rfl (fun w hs => impl_within_c _ _ _ w ) ?_
 refine notD rfl rfl rfl ?_
 refine mvB rfl rfl rfl ?_
 refine rBoolD (d := 12) rfl (fun g1 => ?_) (fun g1 => ?_)
 ·
  replace g1 : ¬ ((0 : Int) ≤ an ∧ an ≤ (100 : Int)) := g1
  refine rSkipQ rfl rfl ?_
  refine rSkipL trv rfl rfl ?_
  refine rSkipQ rfl rfl ?_
  refine pickB rfl rfl rfl rfl ?_
  refine mvB rfl rfl rfl ?_
  refine rSkipQ rfl rfl ?_
  refine rSkipL trv rfl rfl ?_
  refine rSkipQ rfl rfl ?_
  refine pickB rfl rfl rfl rfl ?_
  refine mvB rfl rfl rfl ?_
  refine rSkipQ rfl rfl ?_
  refine rSkipQ rfl rfl ?_
  refine rSkipQ rfl rfl ?_
  refine rSkipQ rfl rfl ?_
  refine rSkipQ rfl rfl ?_
  refine rSkipQ rfl rfl ?_
  refine rSkipQ rfl rfl ?_
  refine pickB rfl rfl rfl rfl ?_
  refine rNil ?_
  refine qSeq rfl ?_
  refine hIfT rfl ?_
  refine hSeq ?_
  refine hReg (sq 0 (sl 1 (sq 2 sz))) (by kernel_rfl) ?_
  refine bld rfl rfl rfl (bld26) ?_
  refine stAl (vs := [.slice none 0 0]) 0 rfl Tryd.sizeOf26 trv rfl rfl rfl rfl rfl (by simp [Value.oneCell']) rfl ?_
  refine asI rfl rfl rfl ?_
  refine rNil ?_
  refine qSeq rfl ?_
  refine hRet ?_
  refine knP (fun _ h => Sep.nilR ndK 52 2 (fun _ => (none, 0)) h) ?_
  exact fun w hs => ⟨[_, .int .i64 2], ⟨⟨_, rfl, run_load_agg Tryd.isAgg26 Tryd.sizeOf26 rfl (cBs 1 rfl w hs)⟩, ⟨rfl, trivial⟩⟩, ⟨(none, 0, 0, (fun _ => (none, 0)), [], 2), rfl, by rw [Math.betAt_2 (by omega)]; exact ⟨rfl, rfl⟩, hs.pick [0]⟩⟩
 ·
  replace g1 : ¬ (¬ ((0 : Int) ≤ an ∧ an ≤ (100 : Int))) := g1
  refine mvI rfl rfl rfl ?_
  refine callP (v := .bool (decide ((1 : Int) ≤ bt ∧ bt ≤ (100 : Int)))) Tryd.call29 trv rfl rfl (fun w hs => impl_within_c _ _ _ w ) ?_
  refine notD rfl rfl rfl ?_
  refine pickB rfl rfl rfl rfl ?_
  refine mvB rfl rfl rfl ?_
  refine rBoolD (d := 17) rfl (fun g2 => ?_) (fun g2 => ?_)
  ·
   replace g2 : ¬ ((1 : Int) ≤ bt ∧ bt ≤ (100 : Int)) := g2
   refine rSkipQ rfl rfl ?_
   refine rSkipL trv rfl rfl ?_
   refine rSkipQ rfl rfl ?_
   refine pickB rfl rfl rfl rfl ?_
   refine mvB rfl rfl rfl ?_
   refine rSkipQ rfl rfl ?_
   refine rSkipQ rfl rfl ?_
   refine rSkipQ rfl rfl ?_
   refine rSkipQ rfl rfl ?_
   refine rSkipQ rfl rfl ?_
   refine rSkipQ rfl rfl ?_
   refine rSkipQ rfl rfl ?_
   refine pickB rfl rfl rfl rfl ?_
   refine rNil ?_
   refine qSeq rfl ?_
   refine hIfT rfl ?_
   refine hSeq ?_
   refine hReg (sq 0 (sl 1 (sq 2 sz))) (by kernel_rfl) ?_
   refine bld rfl rfl rfl (bld26) ?_
   refine stAl (vs := [.slice none 0 0]) 0 rfl Tryd.sizeOf26 trv rfl rfl rfl rfl rfl (by simp [Value.oneCell']) rfl ?_
   refine asI rfl rfl rfl ?_
   refine rNil ?_
   refine qSeq rfl ?_
   refine hRet ?_
   refine knP (fun _ h => Sep.nilR ndK 52 2 (fun _ => (none, 0)) h) ?_
   exact fun w hs => ⟨[_, .int .i64 2], ⟨⟨_, rfl, run_load_agg Tryd.isAgg26 Tryd.sizeOf26 rfl (cBs 1 rfl w hs)⟩, ⟨rfl, trivial⟩⟩, ⟨(none, 0, 0, (fun _ => (none, 0)), [], 2), rfl, by rw [Math.betAt_2 (by omega)]; exact ⟨rfl, rfl⟩, hs.pick [0]⟩⟩
  ·
   replace g2 : ¬ (¬ ((1 : Int) ≤ bt ∧ bt ≤ (100 : Int))) := g2
   refine mvI rfl rfl rfl ?_
   refine callP (v := .bool (decide ((0 : Int) ≤ ra ∧ ra ≤ (2 : Int)))) Tryd.call29 trv rfl rfl (fun w hs => impl_within_c _ _ _ w ) ?_
   refine notD rfl rfl rfl ?_
   refine pickB rfl rfl rfl rfl ?_
   refine mvB rfl rfl rfl ?_
   refine rBoolD (d := 22) rfl (fun g3 => ?_) (fun g3 => ?_)
   ·
    replace g3 : ¬ ((0 : Int) ≤ ra ∧ ra ≤ (2 : Int)) := g3
    refine rSkipQ rfl rfl ?_
    refine rSkipQ rfl rfl ?_
    refine rSkipQ rfl rfl ?_
    refine rSkipQ rfl rfl ?_
    refine rSkipQ rfl rfl ?_
    refine rSkipQ rfl rfl ?_
    refine rSkipQ rfl rfl ?_
    refine pickB rfl rfl rfl rfl ?_
    refine rNil ?_
    refine qSeq rfl ?_
    refine hIfT rfl ?_
    refine hSeq ?_
    refine hReg (sq 0 (sl 1 (sq 2 sz))) (by kernel_rfl) ?_
    refine bld rfl rfl rfl (bld26) ?_
    refine stAl (vs := [.slice none 0 0]) 0 rfl Tryd.sizeOf26 trv rfl rfl rfl rfl rfl (by simp [Value.oneCell']) rfl ?_
    refine asI rfl rfl rfl ?_
    refine rNil ?_
    refine qSeq rfl ?_
    refine hRet ?_
    refine knP (fun _ h => Sep.nilR ndK 52 2 (fun _ => (none, 0)) h) ?_
    exact fun w hs => ⟨[_, .int .i64 2], ⟨⟨_, rfl, run_load_agg Tryd.isAgg26 Tryd.sizeOf26 rfl (cBs 1 rfl w hs)⟩, ⟨rfl, trivial⟩⟩, ⟨(none, 0, 0, (fun _ => (none, 0)), [], 2), rfl, by rw [Math.betAt_2 (by omega)]; exact ⟨rfl, rfl⟩, hs.pick [0]⟩⟩
   ·
    replace g3 : ¬ (¬ ((0 : Int) ≤ ra ∧ ra ≤ (2 : Int))) := g3
    have hbr := Math.mul_bd (a := bt) (A := 100) (b := ra + 1) (B := 3) (by omega) (by omega) (by omega) (by omega)
    have hk0 : Math.ckN false = 3 := rfl
    refine mvI rfl rfl rfl ?_
    refine mvI rfl rfl rfl ?_
    refine mvI rfl rfl rfl ?_
    refine add rfl rfl rfl rfl (by omega) ?_
    refine mul rfl rfl rfl rfl (by omega) ?_
    refine add rfl rfl rfl rfl (by omega) ?_
    refine gtr rfl rfl rfl rfl ?_
    refine pickB rfl rfl rfl rfl ?_
    refine rNil ?_
    refine qSeq rfl ?_
    refine hIfD rfl (fun c4 => ?_) (fun c4 => ?_)
    ·
     replace c4 : 100 < (an + (bt * (ra + 1))) := c4
     refine hSeq ?_
     refine hReg (sq 0 (sl 1 (sq 2 sz))) (by kernel_rfl) ?_
     refine bld rfl rfl rfl (bld26) ?_
     refine stAl (vs := [.slice none 0 0]) 0 rfl Tryd.sizeOf26 trv rfl rfl rfl rfl rfl (by simp [Value.oneCell']) rfl ?_
     refine asI rfl rfl rfl ?_
     refine rNil ?_
     refine qSeq rfl ?_
     refine hRet ?_
     refine knP (fun _ h => Sep.nilR ndK 52 2 (fun _ => (none, 0)) h) ?_
     exact fun w hs => ⟨[_, .int .i64 2], ⟨⟨_, rfl, run_load_agg Tryd.isAgg26 Tryd.sizeOf26 rfl (cBs 1 rfl w hs)⟩, ⟨rfl, trivial⟩⟩, ⟨(none, 0, 0, (fun _ => (none, 0)), [], 2), rfl, by rw [Math.betAt_2 (by omega)]; exact ⟨rfl, rfl⟩, hs.pick [0]⟩⟩
    ·
     replace c4 : ¬ (100 < (an + (bt * (ra + 1)))) := c4
     refine hSkip ?_
     refine qSeq rfl ?_
     refine hSeq ?_
     refine hReg (sq 0 (sq 1 (sq 2 (sl 3 (sl 4 sz))))) (by kernel_rfl) ?_
     refine mvI rfl rfl rfl ?_
     refine mvI rfl rfl rfl ?_
     refine bld rfl rfl rfl (bld78_1_2 (.int .i64 _) (.int .i64 _) rfl rfl) ?_
     refine alc Tryd.zeroValue78 rfl trv1 rfl rfl (fun bka6 hbka6 => ?_)
     refine stAl (vs := [.slice none 0 0, .int .i64 bt, .int .i64 ra]) 0 rfl Tryd.sizeOf78 trv rfl rfl rfl rfl rfl (by simp [Value.oneCell']) rfl ?_
     refine rNil ?_
     refine qSeq rfl ?_
     refine hSeq ?_
     refine hReg (sq 0 (sq 1 (sq 2 (sl 3 sz)))) (by kernel_rfl) ?_
     refine mvI rfl rfl rfl ?_
     refine mvI rfl rfl rfl ?_
     refine bld rfl rfl rfl (bld80_0_1 (.int .i64 _) (.int .i64 _) rfl rfl) ?_
     refine rPieces (fun _ h => Sep.nilR ndK 52 2 (fun _ => (none, 0)) h) ?_
     refine rPieces (fun _ h => h.pick [1, 0, 0]) ?_
     refine callM (α := Option Addr × Nat × Nat × (Nat → Hd)) (Lf := [blk bka6 78 [.slice none 0 0, .int .i64 bt, .int .i64 ra], OwnR ndK 52 2 none 0 0 ((fun _ => (none, 0))) []]) (Lr := [blk bka1 26 [.slice none 0 0]]) (φs := fun x => [blk bka6 78 [.slice x.1 x.2.1 x.2.2.1, .int .i64 bt, .int .i64 ra], OwnR ndK 52 2 x.1 x.2.1 x.2.2.1 x.2.2.2 ([] ++ Math.growF 5 (0 : Int) an an bt (ra - (0 : Int)) false 0)]) (val := fun x => .int .i64 (0 : Int)) rfl Tryd.call45 trv1 rfl rfl (fun w M0 hs => impl_treeBuilder_decide_c_r 5 bka6 none 0 0 ((fun _ => (none, 0))) [] (0 : Int) an an bt ra (0 : Int) false w M0 hs (by omega) (by omega) (by omega) (by omega) (by omega) (by decide)) ?_
     rintro ⟨ag1, ng1, cg1, Hg1⟩ -
     refine rPieces (L' := [blk bka6 78 [.slice ag1 ng1 cg1, .int .i64 bt, .int .i64 ra], OwnR ndK 52 2 ag1 ng1 cg1 Hg1 (([] ++ Math.growF 5 (0 : Int) an an bt (ra - (0 : Int)) false 0)), blk bka1 26 [.slice none 0 0]]) (fun _ h => h) ?_
     refine rKnow (fun w hs => (show OwnR ndK 52 2 ag1 ng1 cg1 Hg1 (([] ++ Math.growF 5 (0 : Int) an an bt (ra - (0 : Int)) false 0)) w from hs.at_ 1 rfl).1) (fun leng1 => ?_)
     simp only [List.length_append, List.length_cons, List.length_nil] at leng1
     have hgl1 := Math.growF_len 5 (0 : Int) an an bt (ra - (0 : Int)) false 0
     refine rNil ?_
     refine qSeq rfl ?_
     refine hSeq ?_
     refine hReg (sq 0 (sl 1 (sl 2 (sq 3 sz)))) (by kernel_rfl) ?_
     refine fld fl78_0 rfl rfl rfl ?_
     refine ldAl Tryd.isAgg26 Tryd.sizeOf26 (cBp (m := 1) 0 rfl rfl) trv rfl rfl rfl rfl ?_
     refine stAl (vs := [.slice ag1 ng1 cg1]) 2 rfl Tryd.sizeOf26 trv rfl rfl rfl rfl rfl (by simp [Value.oneCell']) rfl ?_
     refine asI rfl rfl rfl ?_
     refine rNil ?_
     refine qSeq rfl ?_
     refine hRet ?_
     exact fun w hs => ⟨[_, .int .i64 0], ⟨⟨_, rfl, run_load_agg Tryd.isAgg26 Tryd.sizeOf26 rfl (cBs 2 rfl w hs)⟩, ⟨rfl, trivial⟩⟩, ⟨(ag1, ng1, cg1, Hg1, ([] ++ Math.growF 5 (0 : Int) an an bt (ra - (0 : Int)) false 0), 0), rfl, by rw [Math.betAt_0 (by omega)]; exact ⟨by rw [Int.sub_zero]; rfl, rfl⟩, hs.pick [1]⟩⟩
end Go.Proofs.YtjengglpbdgmnaaDoor
/- Contracts of games. Their conditions stand in each. -/
namespace Go.Proofs.YtjengglpbdgmnaaDoor
open Go Go.RowKit V
set_option linter.unusedVariables false
set_option linter.unusedSimpArgs false
set_option maxRecDepth 100000
end Go.Proofs.YtjengglpbdgmnaaDoor
/- Contracts of copies of trees. Their conditions stand in each. -/
namespace Go.Proofs.YtjengglpbdgmnaaDoor
open Go Go.RowKit V
set_option linter.unusedVariables false
set_option linter.unusedSimpArgs false
set_option maxRecDepth 100000
end Go.Proofs.YtjengglpbdgmnaaDoor
/- Contracts of Kuhn's game. Their conditions stand in each. -/
namespace Go.Proofs.YtjengglpbdgmnaaDoor
open Go Go.RowKit V
set_option linter.unusedVariables false
set_option linter.unusedSimpArgs false
set_option maxRecDepth 100000
end Go.Proofs.YtjengglpbdgmnaaDoor
/- Contracts of games that are drawn. Their conditions stand in each. -/
namespace Go.Proofs.YtjengglpbdgmnaaDoor
open Go Go.RowKit V
set_option linter.unusedVariables false
set_option linter.unusedSimpArgs false
set_option maxRecDepth 100000
end Go.Proofs.YtjengglpbdgmnaaDoor
