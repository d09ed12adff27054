/- Contracts of bet trees of the reference. Their conditions stand in each. -/
import Derived.Test.YtjengglpbdgmnaaDoorZ4Mx
import Derived.Test.YtjengglpbdgmnaaDoorZ1Mx
import Derived.Test.YtjengglpbdgmnaaDoorZ2Mx
import Derived.Test.YtjengglpbdgmnaaDoorZ3Mx
import Derived.Test.YtjengglpbdgmnaaDoorRows
namespace Go.Proofs.YtjengglpbdgmnaaDoor
open Go Go.RowKit V
set_option linter.unusedVariables false
set_option linter.unusedSimpArgs false
set_option maxRecDepth 100000
theorem mk24 : Mk Tryd.prog 24 52 5 56 [.int .i64 0, .int .i64 0, .int .i64 0, .int .i64 0, .slice none 0 0] := ⟨Tryd.underlying24, Tryd.t52, _, by kernel_rfl, rfl, rfl, rfl, rfl, rfl, by decide, by decide⟩
theorem bsl24_1 (v0 v1 v2 v3 v4 : Value) (h0 : v0.cells = #[v0]) (h1 : v1.cells = #[v1]) (h2 : v2.cells = #[v2]) (h3 : v3.cells = #[v3]) (h4 : v4.cells = #[v4]) : ∀ w, (Instr.buildSlice 24 1 ([(0, .agg #[v0, v1, v2, v3, v4])] : List (Nat × Value)).toArray).run Tryd.prog w = .ok (.slice (some ⟨w.heap.size, 0, none⟩) 1 1) (w.alloc (.cells ([v0, v1, v2, v3, v4] : List Value).toArray 52)) := by
 intro w; simp [Instr.buildSlice, Instr.fill, Tryd.zeroValue52, Tryd.runUnderlying24, Tryd.sizeOf52, aggCells, newRow, show Array.range 5 = #[0, 1, 2, 3, 4] from by decide]
theorem bld26   : ∀ w, (Instr.build 26 ([] : List (Nat × Value)).toArray).run Tryd.prog w = .ok (.agg ([.slice none 0 0] : List Value).toArray) w := by
 intro w; simp [Instr.build, Instr.fill, Tryd.zeroValue26, Tryd.runUnderlying26, aggCells, Tryd.sizeOf24]
theorem bld26_0 (v0 : Value) (h0 : v0.cells = #[v0]) : ∀ w, (Instr.build 26 ([(0, v0)] : List (Nat × Value)).toArray).run Tryd.prog w = .ok (.agg ([v0] : List Value).toArray) w := by
 intro w; simp [Instr.build, Instr.fill, Tryd.zeroValue26, Tryd.runUnderlying26, aggCells, Tryd.sizeOf24, h0]
theorem bld52_0_1_2_3 (v0 v1 v2 v3 : Value) (h0 : v0.cells = #[v0]) (h1 : v1.cells = #[v1]) (h2 : v2.cells = #[v2]) (h3 : v3.cells = #[v3]) : ∀ w, (Instr.build 52 ([(0, v0), (1, v1), (2, v2), (3, v3)] : List (Nat × Value)).toArray).run Tryd.prog w = .ok (.agg ([v0, v1, v2, v3, .slice none 0 0] : List Value).toArray) w := by
 intro w; simp [Instr.build, Instr.fill, Tryd.zeroValue52, Tryd.runUnderlying52, aggCells, Tryd.sizeOf2, Tryd.sizeOf50, h0, h1, h2, h3]
set_option maxHeartbeats 2000000 in
theorem spec_l20Grow_c_r : ∀ (f : Nat) (az : Option Addr) (nz : Nat) (cz : Nat) (Hz : Nat → Hd) (z : List Nd) (pl : Int) (p0 : Int) (p1 : Int) (bet : Int) (r : Int) (ck : Bool) (w : World) (M0 : Nat → Prop), Sep w M0 [OwnR ndK 52 2 az nz cz Hz z] w → (pl = 0 ∨ pl = 1) → ((0 ≤ p0 ∧ 0 ≤ p1) ∧ (1 ≤ bet ∧ bet ≤ 100) ∧ (0 ≤ r ∧ r ≤ 2)) → (p0 + 100 * f ≤ 1000 ∧ p1 + 100 * f ≤ 1000) → ((pl = 0 ∧ p0 ≤ p1) ∨ (pl = 1 ∧ p1 ≤ p0)) → ((p0 ≠ p1 ∧ r + 1 ≤ f) ∨ (p0 = p1 ∧ r + Math.ckN ck ≤ f)) → (nz + 4 * Math.p2 f ≤ 1000) →
  Calls Tryd.prog 46 #[.slice az nz cz, .int .i64 pl, .int .i64 p0, .int .i64 p1, .int .i64 bet, .int .i64 r, .bool ck] w (Ret fun v w' => ∃ x : Option Addr × Nat × Nat × (Nat → Hd), v = .slice x.1 x.2.1 x.2.2.1 ∧ True ∧ Sep w M0 [OwnR ndK 52 2 x.1 x.2.1 x.2.2.1 x.2.2.2 (z ++ Math.growF f pl p0 p1 bet r ck nz)] w') := by
 intro f
 induction f with
 | zero =>
  intro az nz cz Hz z pl p0 p1 bet r ck w M0 hs0 hpl h0 hb ho hm hn
  exfalso; have hk1 : Math.ckN true = 2 := rfl; have hk0 : Math.ckN false = 3 := rfl; cases ck <;> omega
 | succ f ih =>
   intro az nz cz Hz z pl p0 p1 bet r ck w M0 hs0 hpl h0 hb ho hm hn
   have lzz := (show OwnR ndK 52 2 az nz cz Hz z w from hs0.at_ 0 rfl)
   have mmz := Own.max lzz.2.1
   have lz : z.length = nz := lzz.1
   clear lzz
   have hp2 : Math.p2 (f + 1) = Math.p2 f + Math.p2 f := rfl
   have hk1 : Math.ckN true = 2 := rfl
   have hk0 : Math.ckN false = 3 := rfl
   have hpp := Math.p2_pos f
   rcases hpl with rfl | rfl
   ·
    refine fn (M := M0) (rs := [.tmp 14]) Tryd.func46 rfl Tryd.ntmps46 rfl rfl hs0 ?_
    refine hSeq ?_
    refine hReg (sq 0 sz) (by kernel_rfl) ?_
    refine asS rfl rfl rfl ?_
    refine rNil ?_
    refine qSeq rfl ?_
    refine hSeq ?_
    refine hReg (sq 0 (sq 1 (sq 2 sz))) (by kernel_rfl) ?_
    refine mvS rfl rfl rfl ?_
    refine lenS Tryd.runUnderlying24 rfl rfl rfl ?_
    refine asI rfl rfl rfl ?_
    refine rNil ?_
    refine qSeq rfl ?_
    refine hSeq ?_
    refine hReg (sq 0 (sq 1 (sq 2 (sq 3 (sq 4 (sl 5 (sl 6 (sq 7 sz)))))))) (by kernel_rfl) ?_
    refine mvS rfl rfl rfl ?_
    refine mvI rfl rfl rfl ?_
    refine mvI rfl rfl rfl ?_
    refine mvI rfl rfl rfl ?_
    refine bld rfl rfl rfl (bld52_0_1_2_3 (.int .i64 _) (.int .i64 _) (.int .i64 _) (.int .i64 _) rfl rfl rfl rfl) ?_
    refine bsl trv1 rfl rfl rfl (bsl24_1 (.int .i64 0) (.int .i64 p0) (.int .i64 p1) (.int .i64 (-1)) (.slice none 0 0) rfl rfl rfl rfl rfl) (fun bkl1 hbkl1 => ?_)
    refine rPieces (fun _ h => Sep.nilI 2 h) ?_
    refine apR (hd := (none, 0)) (x := (Nd.mk 0 p0 p1 (-1) [])) 2 0 1 ndK.ok rfl rfl rfl (fun h => by first | rfl | (dsimp only at h; rw [h]; rfl) | (rw [h]; rfl) | exact congrArg (fun m => [Value.slice _ m _]) h) mk24 trv1 rfl rfl rfl rfl (by omega) ?_
    intro aq1 cq1
    refine asS rfl rfl rfl ?_
    refine rNil ?_
    refine qSeq rfl ?_
    refine hSeq ?_
    refine hReg (sq 0 (sq 1 (sq 2 (sq 3 sz)))) (by kernel_rfl) ?_
    refine mvI rfl rfl rfl ?_
    refine mvI rfl rfl rfl ?_
    refine asI rfl rfl rfl ?_
    refine asI rfl rfl rfl ?_
    refine rNil ?_
    refine qSeq rfl ?_
    refine hSeq ?_
    refine hSeq ?_
    refine hReg (sq 0 (sq 1 sz)) (by kernel_rfl) ?_
    refine mvI rfl rfl rfl ?_
    refine eql rfl rfl rfl rfl ?_
    refine rNil ?_
    refine qSeq rfl ?_
    refine hIfF rfl ?_
    refine hSkip ?_
    refine qSeq rfl ?_
    refine hSeq ?_
    refine hReg (sq 0 (sq 1 (sl 2 (sq 3 sz)))) (by kernel_rfl) ?_
    refine mvS rfl rfl rfl ?_
    refine lenS Tryd.runUnderlying24 rfl rfl rfl ?_
    refine bsl trv1 rfl rfl rfl (bsl50_1 (.int .i64 _) rfl) (fun bkl3 hbkl3 => ?_)
    refine asS rfl rfl rfl ?_
    refine rNil ?_
    refine qSeq rfl ?_
    refine hSeq ?_
    refine hBlk ?_
    refine hSeq ?_
    refine hReg (sq 0 (sq 1 (sq 2 (sq 3 sz)))) (by kernel_rfl) ?_
    refine mvI rfl rfl rfl ?_
    refine mvI rfl rfl rfl ?_
    refine lss rfl rfl rfl rfl ?_
    refine asB rfl rfl rfl ?_
    refine rNil ?_
    refine qSeq rfl ?_
    refine hIfD rfl (fun c1 => ?_) (fun c1 => ?_)
    ·
     replace c1 : p0 < p1 := c1
     have he : ¬ p0 = p1 := by omega
     refine hSeq ?_
     refine hReg (sq 0 (sq 1 (sq 2 (sq 3 (sq 4 (sl 5 (sl 6 (sq 7 sz)))))))) (by kernel_rfl) ?_
     refine mvS rfl rfl rfl ?_
     refine mvI rfl rfl rfl ?_
     refine mvI rfl rfl rfl ?_
     refine mvI rfl rfl rfl ?_
     refine bld rfl rfl rfl (bld52_0_1_2_3 (.int .i64 _) (.int .i64 _) (.int .i64 _) (.int .i64 _) rfl rfl rfl rfl) ?_
     refine bsl trv1 rfl rfl rfl (bsl24_1 (.int .i64 2) (.int .i64 p0) (.int .i64 p1) (.int .i64 0) (.slice none 0 0) rfl rfl rfl rfl rfl) (fun bkl4 hbkl4 => ?_)
     refine rPieces (fun _ h => Sep.nilI 2 h) ?_
     refine apR (hd := (none, 0)) (x := (Nd.mk 2 p0 p1 0 [])) 3 0 1 ndK.ok rfl rfl rfl (fun h => by first | rfl | (dsimp only at h; rw [h]; rfl) | (rw [h]; rfl) | exact congrArg (fun m => [Value.slice _ m _]) h) mk24 trv1 rfl rfl rfl rfl (by omega) ?_
     intro aq2 cq2
     refine asS rfl rfl rfl ?_
     refine rNil ?_
     refine qSeq rfl ?_
     refine hSeq ?_
     refine hReg (sq 0 (sq 1 (sq 2 (sl 3 (sl 4 (sq 5 sz)))))) (by kernel_rfl) ?_
     refine mvS rfl rfl rfl ?_
     refine mvS rfl rfl rfl ?_
     refine lenS Tryd.runUnderlying24 rfl rfl rfl ?_
     refine bsl trv1 rfl rfl rfl (bsl50_1 (.int .i64 _) rfl) (fun bkl6 hbkl6 => ?_)
     refine rPieces (fun _ h => Sep.litI h 3 [(((nz + 1) : Nat) : Int)] rfl rfl rfl) ?_
     refine aplI (N := 1) (x := ((((nz + 1) + 1) : Nat) : Int)) 3 0 rfl rfl mk50 trv1 rfl rfl rfl rfl (by omega) ?_
     intro aq3 cq3
     refine asS rfl rfl rfl ?_
     refine rNil ?_
     refine qSeq rfl ?_
     refine hSeq ?_
     refine hReg (sq 0 (sq 1 (sq 2 (sq 3 (sl 4 (sl 5 (sq 6 sz))))))) (by kernel_rfl) ?_
     refine mvS rfl rfl rfl ?_
     refine mvI rfl rfl rfl ?_
     refine mvI rfl rfl rfl ?_
     refine bld rfl rfl rfl (bld52_0_1_2_3 (.int .i64 _) (.int .i64 _) (.int .i64 _) (.int .i64 _) rfl rfl rfl rfl) ?_
     refine bsl trv1 rfl rfl rfl (bsl24_1 (.int .i64 2) (.int .i64 p1) (.int .i64 p1) (.int .i64 (-1)) (.slice none 0 0) rfl rfl rfl rfl rfl) (fun bkl7 hbkl7 => ?_)
     refine rPieces (fun _ h => Sep.nilI 2 h) ?_
     refine apR (hd := (none, 0)) (x := (Nd.mk 2 p1 p1 (-1) [])) 3 0 1 ndK.ok rfl rfl rfl (fun h => by first | rfl | (dsimp only at h; rw [h]; rfl) | (rw [h]; rfl) | exact congrArg (fun m => [Value.slice _ m _]) h) mk24 trv1 rfl rfl rfl rfl (by omega) ?_
     intro aq4 cq4
     refine asS rfl rfl rfl ?_
     refine rNil ?_
     refine qSeq rfl ?_
     refine hSeq ?_
     refine hSeq ?_
     refine hReg (sq 0 (sq 1 sz)) (by kernel_rfl) ?_
     refine mvI rfl rfl rfl ?_
     refine eql rfl rfl rfl rfl ?_
     refine rNil ?_
     refine qSeq rfl ?_
     refine hIfD rfl (fun c2 => ?_) (fun c2 => ?_)
     ·
      replace c2 : r = 0 := c2
      refine hSeq ?_
      refine hReg (sq 0 (sq 1 (sq 2 (sq 3 (sq 4 (sl 5 sz)))))) (by kernel_rfl) ?_
      refine mvS rfl rfl rfl ?_
      refine mvI rfl rfl rfl ?_
      refine mvS rfl rfl rfl ?_
      refine oxR (zn := nz) 0 rfl el24 rfl rfl rfl rfl (by omega) (by omega) rfl ?_
      intro gk5 hgk5
      refine fld fl52_4 rfl rfl rfl ?_
      refine stRk (f := 4) (hd := (aq3, cq3)) (Nd.mk 0 p0 p1 (-1) []) (Nd.mk 0 p0 p1 (-1) (([(((nz + 1) : Nat) : Int)] ++ [((((nz + 1) + 1) : Nat) : Int)]))) nz 0 3 ndK.ok rfl rfl hgk5 (by simp only [List.append_assoc, List.cons_append, List.nil_append]; exact Math.at_mid lz) Tryd.sizeOf50 trv rfl rfl rfl rfl rfl (fun h => by first | rfl | (dsimp only [ndK, ndC] at h ⊢; rw [h]; rfl)) rfl (by decide) ?_
      refine rNil ?_
      refine qSeq rfl ?_
      refine hSeq ?_
      refine hReg (sq 0 (sq 1 sz)) (by kernel_rfl) ?_
      refine mvS rfl rfl rfl ?_
      refine asS rfl rfl rfl ?_
      refine rNil ?_
      refine qSeq rfl ?_
      refine hRet ?_
      rw [show (((((z ++ [(Nd.mk 0 p0 p1 (-1) [])]) ++ [(Nd.mk 2 p0 p1 0 [])]) ++ [(Nd.mk 2 p1 p1 (-1) [])])).set nz ((Nd.mk 0 p0 p1 (-1) (([(((nz + 1) : Nat) : Int)] ++ [((((nz + 1) + 1) : Nat) : Int)]))))) = z ++ Math.growF (f + 1) 0 p0 p1 bet r ck nz from Math.grow_1 lz he (by first | assumption | omega) (by simp) rfl]
      exact fun w hs => ⟨[.slice aq4 ((((nz + 1) + 1) + 1)) cq4], ⟨rfl, trivial⟩, ⟨(aq4, (((nz + 1) + 1) + 1), cq4, (hset ((hset ((hset ((hset Hz z.length (none, 0))) ((z ++ [(Nd.mk 0 p0 p1 (-1) [])])).length (none, 0))) (((z ++ [(Nd.mk 0 p0 p1 (-1) [])]) ++ [(Nd.mk 2 p0 p1 0 [])])).length (none, 0))) nz (aq3, cq3))), rfl, trivial, hs.pick [0]⟩⟩
     ·
      replace c2 : ¬ (r = 0) := c2
      refine hSkip ?_
      refine qSeq rfl ?_
      refine hReg (sq 0 (sq 1 (sq 2 sz))) (by kernel_rfl) ?_
      refine mvI rfl rfl rfl ?_
      refine sub rfl rfl rfl rfl (by omega) ?_
      refine asI rfl rfl rfl ?_
      refine rNil ?_
      refine qSeq rfl ?_
      refine hSeq ?_
      refine hReg (sq 0 (sq 1 (sq 2 (sl 3 (sl 4 (sq 5 sz)))))) (by kernel_rfl) ?_
      refine mvS rfl rfl rfl ?_
      refine mvS rfl rfl rfl ?_
      refine lenS Tryd.runUnderlying24 rfl rfl rfl ?_
      refine bsl trv1 rfl rfl rfl (bsl50_1 (.int .i64 _) rfl) (fun bkl9 hbkl9 => ?_)
      refine aplI (N := (1 + 1)) (x := (((((nz + 1) + 1) + 1) : Nat) : Int)) 5 0 rfl rfl mk50 trv1 rfl rfl rfl rfl (by omega) ?_
      intro aq6 cq6
      refine asS rfl rfl rfl ?_
      refine rNil ?_
      refine qSeq rfl ?_
      refine hSeq ?_
      refine hSeq ?_
      refine hReg (sq 0 (sq 1 sz)) (by kernel_rfl) ?_
      refine mvI rfl rfl rfl ?_
      refine eql rfl rfl rfl rfl ?_
      refine rNil ?_
      refine qSeq rfl ?_
      refine hIfT rfl ?_
      refine hReg (sq 0 (sq 1 (sq 2 (sq 3 sz)))) (by kernel_rfl) ?_
      refine mvI rfl rfl rfl ?_
      refine mvI rfl rfl rfl ?_
      refine add rfl rfl rfl rfl (by omega) ?_
      refine asI rfl rfl rfl ?_
      refine rNil ?_
      refine qSeq rfl ?_
      refine hSeq ?_
      refine hReg (sq 0 (sq 1 (sq 2 (sq 3 (sq 4 (sq 5 (sq 6 (sl 7 (sq 8 sz))))))))) (by kernel_rfl) ?_
      refine mvS rfl rfl rfl ?_
      refine mvI rfl rfl rfl ?_
      refine sub rfl rfl rfl rfl (by omega) ?_
      refine mvI rfl rfl rfl ?_
      refine mvI rfl rfl rfl ?_
      refine mvI rfl rfl rfl ?_
      refine mvI rfl rfl rfl ?_
      refine rPieces (fun _ h => h.pick [1, 0, 0, 0, 0, 0, 0]) ?_
      refine callM (α := Option Addr × Nat × Nat × (Nat → Hd)) (Lf := [OwnR ndK 52 2 aq4 ((((nz + 1) + 1) + 1)) cq4 ((hset ((hset ((hset Hz z.length (none, 0))) ((z ++ [(Nd.mk 0 p0 p1 (-1) [])])).length (none, 0))) (((z ++ [(Nd.mk 0 p0 p1 (-1) [])]) ++ [(Nd.mk 2 p0 p1 0 [])])).length (none, 0))) ((((z ++ [(Nd.mk 0 p0 p1 (-1) [])]) ++ [(Nd.mk 2 p0 p1 0 [])]) ++ [(Nd.mk 2 p1 p1 (-1) [])]))]) (Lr := [blk bkl9 2 [.int .i64 ((((((nz + 1) + 1) + 1) : Nat) : Int))], blk bkl7 52 [.int .i64 2, .int .i64 p1, .int .i64 p1, .int .i64 (-1), .slice none 0 0], blk bkl6 2 [.int .i64 (((((nz + 1) + 1) : Nat) : Int))], blk bkl4 52 [.int .i64 2, .int .i64 p0, .int .i64 p1, .int .i64 0, .slice none 0 0], OwnI 2 aq6 (((1 + 1) + 1)) cq6 ((([(((nz + 1) : Nat) : Int)] ++ [((((nz + 1) + 1) : Nat) : Int)]) ++ [(((((nz + 1) + 1) + 1) : Nat) : Int)])), blk bkl1 52 [.int .i64 0, .int .i64 p0, .int .i64 p1, .int .i64 (-1), .slice none 0 0]]) (φs := fun x => [OwnR ndK 52 2 x.1 x.2.1 x.2.2.1 x.2.2.2 ((((z ++ [(Nd.mk 0 p0 p1 (-1) [])]) ++ [(Nd.mk 2 p0 p1 0 [])]) ++ [(Nd.mk 2 p1 p1 (-1) [])]) ++ Math.growF f (1 - 0) (p1 + bet) p1 bet (r - 1) false ((((nz + 1) + 1) + 1)))]) (val := fun x => .slice x.1 x.2.1 x.2.2.1) rfl Tryd.call46 trv1 rfl rfl (fun w M0 hs => ih aq4 ((((nz + 1) + 1) + 1)) cq4 ((hset ((hset ((hset Hz z.length (none, 0))) ((z ++ [(Nd.mk 0 p0 p1 (-1) [])])).length (none, 0))) (((z ++ [(Nd.mk 0 p0 p1 (-1) [])]) ++ [(Nd.mk 2 p0 p1 0 [])])).length (none, 0))) ((((z ++ [(Nd.mk 0 p0 p1 (-1) [])]) ++ [(Nd.mk 2 p0 p1 0 [])]) ++ [(Nd.mk 2 p1 p1 (-1) [])])) (1 - 0) (p1 + bet) p1 bet (r - 1) false w M0 hs (by omega) (by omega) (by omega) (by omega) (by omega) (by omega)) ?_
      rintro ⟨ag7, ng7, cg7, Hg7⟩ -
      refine rPieces (L' := [OwnR ndK 52 2 ag7 ng7 cg7 Hg7 (((((z ++ [(Nd.mk 0 p0 p1 (-1) [])]) ++ [(Nd.mk 2 p0 p1 0 [])]) ++ [(Nd.mk 2 p1 p1 (-1) [])]) ++ Math.growF f (1 - 0) (p1 + bet) p1 bet (r - 1) false ((((nz + 1) + 1) + 1)))), blk bkl9 2 [.int .i64 ((((((nz + 1) + 1) + 1) : Nat) : Int))], blk bkl7 52 [.int .i64 2, .int .i64 p1, .int .i64 p1, .int .i64 (-1), .slice none 0 0], blk bkl6 2 [.int .i64 (((((nz + 1) + 1) : Nat) : Int))], blk bkl4 52 [.int .i64 2, .int .i64 p0, .int .i64 p1, .int .i64 0, .slice none 0 0], OwnI 2 aq6 (((1 + 1) + 1)) cq6 ((([(((nz + 1) : Nat) : Int)] ++ [((((nz + 1) + 1) : Nat) : Int)]) ++ [(((((nz + 1) + 1) + 1) : Nat) : Int)])), blk bkl1 52 [.int .i64 0, .int .i64 p0, .int .i64 p1, .int .i64 (-1), .slice none 0 0]]) (fun _ h => h) ?_
      refine rKnow (fun w hs => (show OwnR ndK 52 2 ag7 ng7 cg7 Hg7 (((((z ++ [(Nd.mk 0 p0 p1 (-1) [])]) ++ [(Nd.mk 2 p0 p1 0 [])]) ++ [(Nd.mk 2 p1 p1 (-1) [])]) ++ Math.growF f (1 - 0) (p1 + bet) p1 bet (r - 1) false ((((nz + 1) + 1) + 1)))) w from hs.at_ 0 rfl).1) (fun leng7 => ?_)
      simp only [List.length_append, List.length_cons, List.length_nil] at leng7
      have hgl7 := Math.growF_len f (1 - 0) (p1 + bet) p1 bet (r - 1) false ((((nz + 1) + 1) + 1))
      refine asS rfl rfl rfl ?_
      refine rNil ?_
      refine qSeq rfl ?_
      refine hSeq ?_
      refine hReg (sq 0 (sq 1 (sq 2 (sq 3 (sq 4 (sl 5 sz)))))) (by kernel_rfl) ?_
      refine mvS rfl rfl rfl ?_
      refine mvI rfl rfl rfl ?_
      refine mvS rfl rfl rfl ?_
      refine oxR (zn := nz) 0 rfl el24 rfl rfl rfl rfl (by omega) (by omega) rfl ?_
      intro gk8 hgk8
      refine fld fl52_4 rfl rfl rfl ?_
      refine stRk (f := 4) (hd := (aq6, cq6)) (Nd.mk 0 p0 p1 (-1) []) (Nd.mk 0 p0 p1 (-1) ((([(((nz + 1) : Nat) : Int)] ++ [((((nz + 1) + 1) : Nat) : Int)]) ++ [(((((nz + 1) + 1) + 1) : Nat) : Int)]))) nz 0 4 ndK.ok rfl rfl hgk8 (by simp only [List.append_assoc, List.cons_append, List.nil_append]; exact Math.at_mid lz) Tryd.sizeOf50 trv rfl rfl rfl rfl rfl (fun h => by first | rfl | (dsimp only [ndK, ndC] at h ⊢; rw [h]; rfl)) rfl (by decide) ?_
      refine rNil ?_
      refine qSeq rfl ?_
      refine hSeq ?_
      refine hReg (sq 0 (sq 1 sz)) (by kernel_rfl) ?_
      refine mvS rfl rfl rfl ?_
      refine asS rfl rfl rfl ?_
      refine rNil ?_
      refine qSeq rfl ?_
      refine hRet ?_
      rw [show ((((((z ++ [(Nd.mk 0 p0 p1 (-1) [])]) ++ [(Nd.mk 2 p0 p1 0 [])]) ++ [(Nd.mk 2 p1 p1 (-1) [])]) ++ Math.growF f (1 - 0) (p1 + bet) p1 bet (r - 1) false ((((nz + 1) + 1) + 1)))).set nz ((Nd.mk 0 p0 p1 (-1) ((([(((nz + 1) : Nat) : Int)] ++ [((((nz + 1) + 1) : Nat) : Int)]) ++ [(((((nz + 1) + 1) + 1) : Nat) : Int)]))))) = z ++ Math.growF (f + 1) 0 p0 p1 bet r ck nz from Math.grow_2 lz he (by first | assumption | omega) (by omega) (by omega) (by simp) (by simp [he]) (by simp [he]) rfl]
      exact fun w hs => ⟨[.slice ag7 ng7 cg7], ⟨rfl, trivial⟩, ⟨(ag7, ng7, cg7, (hset Hg7 nz (aq6, cq6))), rfl, trivial, hs.pick [0]⟩⟩
    ·
     replace c1 : ¬ (p0 < p1) := c1
     have he : p0 = p1 := by omega
     refine hSeq ?_
     refine hReg (sq 0 (sq 1 sz)) (by kernel_rfl) ?_
     refine mvB rfl rfl rfl ?_
     refine asB rfl rfl rfl ?_
     refine rNil ?_
     refine qSeq rfl ?_
     refine hIf rfl (fun c3 => ?_) (fun c3 => ?_)
     ·
      replace c3 : ck = true := c3
      have hck : Math.ckN ck = 2 := by rw [c3]; rfl
      refine hReg (sq 0 (sq 1 (sq 2 (sq 3 (sl 4 (sl 5 (sq 6 sz))))))) (by kernel_rfl) ?_
      refine mvS rfl rfl rfl ?_
      refine mvI rfl rfl rfl ?_
      refine mvI rfl rfl rfl ?_
      refine bld rfl rfl rfl (bld52_0_1_2_3 (.int .i64 _) (.int .i64 _) (.int .i64 _) (.int .i64 _) rfl rfl rfl rfl) ?_
      refine bsl trv1 rfl rfl rfl (bsl24_1 (.int .i64 2) (.int .i64 p0) (.int .i64 p1) (.int .i64 (-1)) (.slice none 0 0) rfl rfl rfl rfl rfl) (fun bkl10 hbkl10 => ?_)
      refine rPieces (fun _ h => Sep.nilI 2 h) ?_
      refine apR (hd := (none, 0)) (x := (Nd.mk 2 p0 p1 (-1) [])) 3 0 1 ndK.ok rfl rfl rfl (fun h => by first | rfl | (dsimp only at h; rw [h]; rfl) | (rw [h]; rfl) | exact congrArg (fun m => [Value.slice _ m _]) h) mk24 trv1 rfl rfl rfl rfl (by omega) ?_
      intro aq9 cq9
      refine asS rfl rfl rfl ?_
      refine rNil ?_
      refine qSeq rfl ?_
      refine hSeq ?_
      refine hReg (sq 0 (sq 1 (sq 2 (sl 3 (sl 4 (sq 5 sz)))))) (by kernel_rfl) ?_
      refine mvS rfl rfl rfl ?_
      refine mvS rfl rfl rfl ?_
      refine lenS Tryd.runUnderlying24 rfl rfl rfl ?_
      refine bsl trv1 rfl rfl rfl (bsl50_1 (.int .i64 _) rfl) (fun bkl12 hbkl12 => ?_)
      refine rPieces (fun _ h => Sep.litI h 3 [(((nz + 1) : Nat) : Int)] rfl rfl rfl) ?_
      refine aplI (N := 1) (x := ((((nz + 1) + 1) : Nat) : Int)) 3 0 rfl rfl mk50 trv1 rfl rfl rfl rfl (by omega) ?_
      intro aq10 cq10
      refine asS rfl rfl rfl ?_
      refine rNil ?_
      refine qSeq rfl ?_
      refine hSeq ?_
      refine hSeq ?_
      refine hReg (sq 0 (sq 1 sz)) (by kernel_rfl) ?_
      refine mvI rfl rfl rfl ?_
      refine eql rfl rfl rfl rfl ?_
      refine rNil ?_
      refine qSeq rfl ?_
      refine hIfT rfl ?_
      refine hReg (sq 0 (sq 1 (sq 2 (sq 3 sz)))) (by kernel_rfl) ?_
      refine mvI rfl rfl rfl ?_
      refine mvI rfl rfl rfl ?_
      refine add rfl rfl rfl rfl (by omega) ?_
      refine asI rfl rfl rfl ?_
      refine rNil ?_
      refine qSeq rfl ?_
      refine hSeq ?_
      refine hReg (sq 0 (sq 1 (sq 2 (sq 3 (sq 4 (sq 5 (sq 6 (sl 7 (sq 8 sz))))))))) (by kernel_rfl) ?_
      refine mvS rfl rfl rfl ?_
      refine mvI rfl rfl rfl ?_
      refine sub rfl rfl rfl rfl (by omega) ?_
      refine mvI rfl rfl rfl ?_
      refine mvI rfl rfl rfl ?_
      refine mvI rfl rfl rfl ?_
      refine mvI rfl rfl rfl ?_
      refine rPieces (fun _ h => h.pick [1, 0, 0, 0, 0]) ?_
      refine callM (α := Option Addr × Nat × Nat × (Nat → Hd)) (Lf := [OwnR ndK 52 2 aq9 (((nz + 1) + 1)) cq9 ((hset ((hset Hz z.length (none, 0))) ((z ++ [(Nd.mk 0 p0 p1 (-1) [])])).length (none, 0))) (((z ++ [(Nd.mk 0 p0 p1 (-1) [])]) ++ [(Nd.mk 2 p0 p1 (-1) [])]))]) (Lr := [blk bkl12 2 [.int .i64 (((((nz + 1) + 1) : Nat) : Int))], blk bkl10 52 [.int .i64 2, .int .i64 p0, .int .i64 p1, .int .i64 (-1), .slice none 0 0], OwnI 2 aq10 (1 + 1) cq10 (([(((nz + 1) : Nat) : Int)] ++ [((((nz + 1) + 1) : Nat) : Int)])), blk bkl1 52 [.int .i64 0, .int .i64 p0, .int .i64 p1, .int .i64 (-1), .slice none 0 0]]) (φs := fun x => [OwnR ndK 52 2 x.1 x.2.1 x.2.2.1 x.2.2.2 (((z ++ [(Nd.mk 0 p0 p1 (-1) [])]) ++ [(Nd.mk 2 p0 p1 (-1) [])]) ++ Math.growF f (1 - 0) (p1 + bet) p1 bet r false (((nz + 1) + 1)))]) (val := fun x => .slice x.1 x.2.1 x.2.2.1) rfl Tryd.call46 trv1 rfl rfl (fun w M0 hs => ih aq9 (((nz + 1) + 1)) cq9 ((hset ((hset Hz z.length (none, 0))) ((z ++ [(Nd.mk 0 p0 p1 (-1) [])])).length (none, 0))) (((z ++ [(Nd.mk 0 p0 p1 (-1) [])]) ++ [(Nd.mk 2 p0 p1 (-1) [])])) (1 - 0) (p1 + bet) p1 bet r false w M0 hs (by omega) (by omega) (by omega) (by omega) (by omega) (by omega)) ?_
      rintro ⟨ag11, ng11, cg11, Hg11⟩ -
      refine rPieces (L' := [OwnR ndK 52 2 ag11 ng11 cg11 Hg11 ((((z ++ [(Nd.mk 0 p0 p1 (-1) [])]) ++ [(Nd.mk 2 p0 p1 (-1) [])]) ++ Math.growF f (1 - 0) (p1 + bet) p1 bet r false (((nz + 1) + 1)))), blk bkl12 2 [.int .i64 (((((nz + 1) + 1) : Nat) : Int))], blk bkl10 52 [.int .i64 2, .int .i64 p0, .int .i64 p1, .int .i64 (-1), .slice none 0 0], OwnI 2 aq10 (1 + 1) cq10 (([(((nz + 1) : Nat) : Int)] ++ [((((nz + 1) + 1) : Nat) : Int)])), blk bkl1 52 [.int .i64 0, .int .i64 p0, .int .i64 p1, .int .i64 (-1), .slice none 0 0]]) (fun _ h => h) ?_
      refine rKnow (fun w hs => (show OwnR ndK 52 2 ag11 ng11 cg11 Hg11 ((((z ++ [(Nd.mk 0 p0 p1 (-1) [])]) ++ [(Nd.mk 2 p0 p1 (-1) [])]) ++ Math.growF f (1 - 0) (p1 + bet) p1 bet r false (((nz + 1) + 1)))) w from hs.at_ 0 rfl).1) (fun leng11 => ?_)
      simp only [List.length_append, List.length_cons, List.length_nil] at leng11
      have hgl11 := Math.growF_len f (1 - 0) (p1 + bet) p1 bet r false (((nz + 1) + 1))
      refine asS rfl rfl rfl ?_
      refine rNil ?_
      refine qSeq rfl ?_
      refine hSeq ?_
      refine hReg (sq 0 (sq 1 (sq 2 (sq 3 (sq 4 (sl 5 sz)))))) (by kernel_rfl) ?_
      refine mvS rfl rfl rfl ?_
      refine mvI rfl rfl rfl ?_
      refine mvS rfl rfl rfl ?_
      refine oxR (zn := nz) 0 rfl el24 rfl rfl rfl rfl (by omega) (by omega) rfl ?_
      intro gk12 hgk12
      refine fld fl52_4 rfl rfl rfl ?_
      refine stRk (f := 4) (hd := (aq10, cq10)) (Nd.mk 0 p0 p1 (-1) []) (Nd.mk 0 p0 p1 (-1) (([(((nz + 1) : Nat) : Int)] ++ [((((nz + 1) + 1) : Nat) : Int)]))) nz 0 2 ndK.ok rfl rfl hgk12 (by simp only [List.append_assoc, List.cons_append, List.nil_append]; exact Math.at_mid lz) Tryd.sizeOf50 trv rfl rfl rfl rfl rfl (fun h => by first | rfl | (dsimp only [ndK, ndC] at h ⊢; rw [h]; rfl)) rfl (by decide) ?_
      refine rNil ?_
      refine qSeq rfl ?_
      refine hSeq ?_
      refine hReg (sq 0 (sq 1 sz)) (by kernel_rfl) ?_
      refine mvS rfl rfl rfl ?_
      refine asS rfl rfl rfl ?_
      refine rNil ?_
      refine qSeq rfl ?_
      refine hRet ?_
      rw [show (((((z ++ [(Nd.mk 0 p0 p1 (-1) [])]) ++ [(Nd.mk 2 p0 p1 (-1) [])]) ++ Math.growF f (1 - 0) (p1 + bet) p1 bet r false (((nz + 1) + 1)))).set nz ((Nd.mk 0 p0 p1 (-1) (([(((nz + 1) : Nat) : Int)] ++ [((((nz + 1) + 1) : Nat) : Int)]))))) = z ++ Math.growF (f + 1) 0 p0 p1 bet r ck nz from Math.grow_3 lz he (by assumption) (by omega) (by simp [he]) (by simp [he]) rfl]
      exact fun w hs => ⟨[.slice ag11 ng11 cg11], ⟨rfl, trivial⟩, ⟨(ag11, ng11, cg11, (hset Hg11 nz (aq10, cq10))), rfl, trivial, hs.pick [0]⟩⟩
     ·
      replace c3 : ck = false := c3
      have hck : Math.ckN ck = 3 := by rw [c3]; rfl
      refine hReg (sq 0 (sq 1 (sq 2 (sq 3 (sq 4 (sq 5 (sq 6 (sl 7 (sq 8 sz))))))))) (by kernel_rfl) ?_
      refine mvS rfl rfl rfl ?_
      refine mvI rfl rfl rfl ?_
      refine sub rfl rfl rfl rfl (by omega) ?_
      refine mvI rfl rfl rfl ?_
      refine mvI rfl rfl rfl ?_
      refine mvI rfl rfl rfl ?_
      refine mvI rfl rfl rfl ?_
      refine rPieces (fun _ h => h.pick [1, 0, 0]) ?_
      refine callM (α := Option Addr × Nat × Nat × (Nat → Hd)) (Lf := [OwnR ndK 52 2 aq1 (nz + 1) cq1 ((hset Hz z.length (none, 0))) ((z ++ [(Nd.mk 0 p0 p1 (-1) [])]))]) (Lr := [blk bkl3 2 [.int .i64 ((((nz + 1) : Nat) : Int))], blk bkl1 52 [.int .i64 0, .int .i64 p0, .int .i64 p1, .int .i64 (-1), .slice none 0 0]]) (φs := fun x => [OwnR ndK 52 2 x.1 x.2.1 x.2.2.1 x.2.2.2 ((z ++ [(Nd.mk 0 p0 p1 (-1) [])]) ++ Math.growF f (1 - 0) p0 p1 bet r true (nz + 1))]) (val := fun x => .slice x.1 x.2.1 x.2.2.1) rfl Tryd.call46 trv1 rfl rfl (fun w M0 hs => ih aq1 (nz + 1) cq1 ((hset Hz z.length (none, 0))) ((z ++ [(Nd.mk 0 p0 p1 (-1) [])])) (1 - 0) p0 p1 bet r true w M0 hs (by omega) (by omega) (by omega) (by omega) (by omega) (by omega)) ?_
      rintro ⟨ag13, ng13, cg13, Hg13⟩ -
      refine rPieces (L' := [OwnR ndK 52 2 ag13 ng13 cg13 Hg13 (((z ++ [(Nd.mk 0 p0 p1 (-1) [])]) ++ Math.growF f (1 - 0) p0 p1 bet r true (nz + 1))), blk bkl3 2 [.int .i64 ((((nz + 1) : Nat) : Int))], blk bkl1 52 [.int .i64 0, .int .i64 p0, .int .i64 p1, .int .i64 (-1), .slice none 0 0]]) (fun _ h => h) ?_
      refine rKnow (fun w hs => (show OwnR ndK 52 2 ag13 ng13 cg13 Hg13 (((z ++ [(Nd.mk 0 p0 p1 (-1) [])]) ++ Math.growF f (1 - 0) p0 p1 bet r true (nz + 1))) w from hs.at_ 0 rfl).1) (fun leng13 => ?_)
      simp only [List.length_append, List.length_cons, List.length_nil] at leng13
      have hgl13 := Math.growF_len f (1 - 0) p0 p1 bet r true (nz + 1)
      refine asS rfl rfl rfl ?_
      refine rNil ?_
      refine qSeq rfl ?_
      refine hSeq ?_
      refine hReg (sq 0 (sq 1 (sq 2 (sl 3 (sl 4 (sq 5 sz)))))) (by kernel_rfl) ?_
      refine mvS rfl rfl rfl ?_
      refine mvS rfl rfl rfl ?_
      refine lenS Tryd.runUnderlying24 rfl rfl rfl ?_
      refine bsl trv1 rfl rfl rfl (bsl50_1 (.int .i64 _) rfl) (fun bkl13 hbkl13 => ?_)
      refine rPieces (fun _ h => Sep.litI h 2 [(((nz + 1) : Nat) : Int)] rfl rfl rfl) ?_
      refine aplI (N := 1) (x := (ng13 : Int)) 2 0 rfl rfl mk50 trv1 rfl rfl rfl rfl (by omega) ?_
      intro aq14 cq14
      refine asS rfl rfl rfl ?_
      refine rNil ?_
      refine qSeq rfl ?_
      refine hSeq ?_
      refine hSeq ?_
      refine hReg (sq 0 (sq 1 sz)) (by kernel_rfl) ?_
      refine mvI rfl rfl rfl ?_
      refine eql rfl rfl rfl rfl ?_
      refine rNil ?_
      refine qSeq rfl ?_
      refine hIfT rfl ?_
      refine hReg (sq 0 (sq 1 (sq 2 (sq 3 sz)))) (by kernel_rfl) ?_
      refine mvI rfl rfl rfl ?_
      refine mvI rfl rfl rfl ?_
      refine add rfl rfl rfl rfl (by omega) ?_
      refine asI rfl rfl rfl ?_
      refine rNil ?_
      refine qSeq rfl ?_
      refine hSeq ?_
      refine hReg (sq 0 (sq 1 (sq 2 (sq 3 (sq 4 (sq 5 (sq 6 (sl 7 (sq 8 sz))))))))) (by kernel_rfl) ?_
      refine mvS rfl rfl rfl ?_
      refine mvI rfl rfl rfl ?_
      refine sub rfl rfl rfl rfl (by omega) ?_
      refine mvI rfl rfl rfl ?_
      refine mvI rfl rfl rfl ?_
      refine mvI rfl rfl rfl ?_
      refine mvI rfl rfl rfl ?_
      refine rPieces (fun _ h => h.pick [1, 0, 0, 0]) ?_
      refine callM (α := Option Addr × Nat × Nat × (Nat → Hd)) (Lf := [OwnR ndK 52 2 ag13 ng13 cg13 Hg13 (((z ++ [(Nd.mk 0 p0 p1 (-1) [])]) ++ Math.growF f (1 - 0) p0 p1 bet r true (nz + 1)))]) (Lr := [blk bkl13 2 [.int .i64 (ng13 : Int)], OwnI 2 aq14 (1 + 1) cq14 (([(((nz + 1) : Nat) : Int)] ++ [(ng13 : Int)])), blk bkl1 52 [.int .i64 0, .int .i64 p0, .int .i64 p1, .int .i64 (-1), .slice none 0 0]]) (φs := fun x => [OwnR ndK 52 2 x.1 x.2.1 x.2.2.1 x.2.2.2 (((z ++ [(Nd.mk 0 p0 p1 (-1) [])]) ++ Math.growF f (1 - 0) p0 p1 bet r true (nz + 1)) ++ Math.growF f (1 - 0) (p1 + bet) p1 bet r false ng13)]) (val := fun x => .slice x.1 x.2.1 x.2.2.1) rfl Tryd.call46 trv1 rfl rfl (fun w M0 hs => ih ag13 ng13 cg13 Hg13 (((z ++ [(Nd.mk 0 p0 p1 (-1) [])]) ++ Math.growF f (1 - 0) p0 p1 bet r true (nz + 1))) (1 - 0) (p1 + bet) p1 bet r false w M0 hs (by omega) (by omega) (by omega) (by omega) (by omega) (by omega)) ?_
      rintro ⟨ag15, ng15, cg15, Hg15⟩ -
      refine rPieces (L' := [OwnR ndK 52 2 ag15 ng15 cg15 Hg15 ((((z ++ [(Nd.mk 0 p0 p1 (-1) [])]) ++ Math.growF f (1 - 0) p0 p1 bet r true (nz + 1)) ++ Math.growF f (1 - 0) (p1 + bet) p1 bet r false ng13)), blk bkl13 2 [.int .i64 (ng13 : Int)], OwnI 2 aq14 (1 + 1) cq14 (([(((nz + 1) : Nat) : Int)] ++ [(ng13 : Int)])), blk bkl1 52 [.int .i64 0, .int .i64 p0, .int .i64 p1, .int .i64 (-1), .slice none 0 0]]) (fun _ h => h) ?_
      refine rKnow (fun w hs => (show OwnR ndK 52 2 ag15 ng15 cg15 Hg15 ((((z ++ [(Nd.mk 0 p0 p1 (-1) [])]) ++ Math.growF f (1 - 0) p0 p1 bet r true (nz + 1)) ++ Math.growF f (1 - 0) (p1 + bet) p1 bet r false ng13)) w from hs.at_ 0 rfl).1) (fun leng15 => ?_)
      simp only [List.length_append, List.length_cons, List.length_nil] at leng15
      have hgl15 := Math.growF_len f (1 - 0) (p1 + bet) p1 bet r false ng13
      refine asS rfl rfl rfl ?_
      refine rNil ?_
      refine qSeq rfl ?_
      refine hSeq ?_
      refine hReg (sq 0 (sq 1 (sq 2 (sq 3 (sq 4 (sl 5 sz)))))) (by kernel_rfl) ?_
      refine mvS rfl rfl rfl ?_
      refine mvI rfl rfl rfl ?_
      refine mvS rfl rfl rfl ?_
      refine oxR (zn := nz) 0 rfl el24 rfl rfl rfl rfl (by omega) (by omega) rfl ?_
      intro gk16 hgk16
      refine fld fl52_4 rfl rfl rfl ?_
      refine stRk (f := 4) (hd := (aq14, cq14)) (Nd.mk 0 p0 p1 (-1) []) (Nd.mk 0 p0 p1 (-1) (([(((nz + 1) : Nat) : Int)] ++ [(ng13 : Int)]))) nz 0 1 ndK.ok rfl rfl hgk16 (by simp only [List.append_assoc, List.cons_append, List.nil_append]; exact Math.at_mid lz) Tryd.sizeOf50 trv rfl rfl rfl rfl rfl (fun h => by first | rfl | (dsimp only [ndK, ndC] at h ⊢; rw [h]; rfl)) rfl (by decide) ?_
      refine rNil ?_
      refine qSeq rfl ?_
      refine hSeq ?_
      refine hReg (sq 0 (sq 1 sz)) (by kernel_rfl) ?_
      refine mvS rfl rfl rfl ?_
      refine asS rfl rfl rfl ?_
      refine rNil ?_
      refine qSeq rfl ?_
      refine hRet ?_
      rw [show (((((z ++ [(Nd.mk 0 p0 p1 (-1) [])]) ++ Math.growF f (1 - 0) p0 p1 bet r true (nz + 1)) ++ Math.growF f (1 - 0) (p1 + bet) p1 bet r false ng13)).set nz ((Nd.mk 0 p0 p1 (-1) (([(((nz + 1) : Nat) : Int)] ++ [(ng13 : Int)]))))) = z ++ Math.growF (f + 1) 0 p0 p1 bet r ck nz from Math.grow_4 lz he (by assumption) (by omega) (by simp [he]) (by simp [he]) (by omega) rfl]
      exact fun w hs => ⟨[.slice ag15 ng15 cg15], ⟨rfl, trivial⟩, ⟨(ag15, ng15, cg15, (hset Hg15 nz (aq14, cq14))), rfl, trivial, hs.pick [0]⟩⟩
   ·
    refine fn (M := M0) (rs := [.tmp 14]) Tryd.func46 rfl Tryd.ntmps46 rfl rfl hs0 ?_
    refine hSeq ?_
    refine hReg (sq 0 sz) (by kernel_rfl) ?_
    refine asS rfl rfl rfl ?_
    refine rNil ?_
    refine qSeq rfl ?_
    refine hSeq ?_
    refine hReg (sq 0 (sq 1 (sq 2 sz))) (by kernel_rfl) ?_
    refine mvS rfl rfl rfl ?_
    refine lenS Tryd.runUnderlying24 rfl rfl rfl ?_
    refine asI rfl rfl rfl ?_
    refine rNil ?_
    refine qSeq rfl ?_
    refine hSeq ?_
    refine hReg (sq 0 (sq 1 (sq 2 (sq 3 (sq 4 (sl 5 (sl 6 (sq 7 sz)))))))) (by kernel_rfl) ?_
    refine mvS rfl rfl rfl ?_
    refine mvI rfl rfl rfl ?_
    refine mvI rfl rfl rfl ?_
    refine mvI rfl rfl rfl ?_
    refine bld rfl rfl rfl (bld52_0_1_2_3 (.int .i64 _) (.int .i64 _) (.int .i64 _) (.int .i64 _) rfl rfl rfl rfl) ?_
    refine bsl trv1 rfl rfl rfl (bsl24_1 (.int .i64 1) (.int .i64 p0) (.int .i64 p1) (.int .i64 (-1)) (.slice none 0 0) rfl rfl rfl rfl rfl) (fun bkl14 hbkl14 => ?_)
    refine rPieces (fun _ h => Sep.nilI 2 h) ?_
    refine apR (hd := (none, 0)) (x := (Nd.mk 1 p0 p1 (-1) [])) 2 0 1 ndK.ok rfl rfl rfl (fun h => by first | rfl | (dsimp only at h; rw [h]; rfl) | (rw [h]; rfl) | exact congrArg (fun m => [Value.slice _ m _]) h) mk24 trv1 rfl rfl rfl rfl (by omega) ?_
    intro aq17 cq17
    refine asS rfl rfl rfl ?_
    refine rNil ?_
    refine qSeq rfl ?_
    refine hSeq ?_
    refine hReg (sq 0 (sq 1 (sq 2 (sq 3 sz)))) (by kernel_rfl) ?_
    refine mvI rfl rfl rfl ?_
    refine mvI rfl rfl rfl ?_
    refine asI rfl rfl rfl ?_
    refine asI rfl rfl rfl ?_
    refine rNil ?_
    refine qSeq rfl ?_
    refine hSeq ?_
    refine hSeq ?_
    refine hReg (sq 0 (sq 1 sz)) (by kernel_rfl) ?_
    refine mvI rfl rfl rfl ?_
    refine eql rfl rfl rfl rfl ?_
    refine rNil ?_
    refine qSeq rfl ?_
    refine hIfT rfl ?_
    refine hReg (sq 0 (sq 1 (sq 2 (sq 3 sz)))) (by kernel_rfl) ?_
    refine mvI rfl rfl rfl ?_
    refine mvI rfl rfl rfl ?_
    refine asI rfl rfl rfl ?_
    refine asI rfl rfl rfl ?_
    refine rNil ?_
    refine qSeq rfl ?_
    refine hSeq ?_
    refine hReg (sq 0 (sq 1 (sl 2 (sq 3 sz)))) (by kernel_rfl) ?_
    refine mvS rfl rfl rfl ?_
    refine lenS Tryd.runUnderlying24 rfl rfl rfl ?_
    refine bsl trv1 rfl rfl rfl (bsl50_1 (.int .i64 _) rfl) (fun bkl16 hbkl16 => ?_)
    refine asS rfl rfl rfl ?_
    refine rNil ?_
    refine qSeq rfl ?_
    refine hSeq ?_
    refine hBlk ?_
    refine hSeq ?_
    refine hReg (sq 0 (sq 1 (sq 2 (sq 3 sz)))) (by kernel_rfl) ?_
    refine mvI rfl rfl rfl ?_
    refine mvI rfl rfl rfl ?_
    refine lss rfl rfl rfl rfl ?_
    refine asB rfl rfl rfl ?_
    refine rNil ?_
    refine qSeq rfl ?_
    refine hIfD rfl (fun c4 => ?_) (fun c4 => ?_)
    ·
     replace c4 : p1 < p0 := c4
     have he : ¬ p0 = p1 := by omega
     refine hSeq ?_
     refine hReg (sq 0 (sq 1 (sq 2 (sq 3 (sq 4 (sl 5 (sl 6 (sq 7 sz)))))))) (by kernel_rfl) ?_
     refine mvS rfl rfl rfl ?_
     refine mvI rfl rfl rfl ?_
     refine mvI rfl rfl rfl ?_
     refine mvI rfl rfl rfl ?_
     refine bld rfl rfl rfl (bld52_0_1_2_3 (.int .i64 _) (.int .i64 _) (.int .i64 _) (.int .i64 _) rfl rfl rfl rfl) ?_
     refine bsl trv1 rfl rfl rfl (bsl24_1 (.int .i64 2) (.int .i64 p0) (.int .i64 p1) (.int .i64 1) (.slice none 0 0) rfl rfl rfl rfl rfl) (fun bkl17 hbkl17 => ?_)
     refine rPieces (fun _ h => Sep.nilI 2 h) ?_
     refine apR (hd := (none, 0)) (x := (Nd.mk 2 p0 p1 1 [])) 3 0 1 ndK.ok rfl rfl rfl (fun h => by first | rfl | (dsimp only at h; rw [h]; rfl) | (rw [h]; rfl) | exact congrArg (fun m => [Value.slice _ m _]) h) mk24 trv1 rfl rfl rfl rfl (by omega) ?_
     intro aq18 cq18
     refine asS rfl rfl rfl ?_
     refine rNil ?_
     refine qSeq rfl ?_
     refine hSeq ?_
     refine hReg (sq 0 (sq 1 (sq 2 (sl 3 (sl 4 (sq 5 sz)))))) (by kernel_rfl) ?_
     refine mvS rfl rfl rfl ?_
     refine mvS rfl rfl rfl ?_
     refine lenS Tryd.runUnderlying24 rfl rfl rfl ?_
     refine bsl trv1 rfl rfl rfl (bsl50_1 (.int .i64 _) rfl) (fun bkl19 hbkl19 => ?_)
     refine rPieces (fun _ h => Sep.litI h 3 [(((nz + 1) : Nat) : Int)] rfl rfl rfl) ?_
     refine aplI (N := 1) (x := ((((nz + 1) + 1) : Nat) : Int)) 3 0 rfl rfl mk50 trv1 rfl rfl rfl rfl (by omega) ?_
     intro aq19 cq19
     refine asS rfl rfl rfl ?_
     refine rNil ?_
     refine qSeq rfl ?_
     refine hSeq ?_
     refine hReg (sq 0 (sq 1 (sq 2 (sq 3 (sl 4 (sl 5 (sq 6 sz))))))) (by kernel_rfl) ?_
     refine mvS rfl rfl rfl ?_
     refine mvI rfl rfl rfl ?_
     refine mvI rfl rfl rfl ?_
     refine bld rfl rfl rfl (bld52_0_1_2_3 (.int .i64 _) (.int .i64 _) (.int .i64 _) (.int .i64 _) rfl rfl rfl rfl) ?_
     refine bsl trv1 rfl rfl rfl (bsl24_1 (.int .i64 2) (.int .i64 p0) (.int .i64 p0) (.int .i64 (-1)) (.slice none 0 0) rfl rfl rfl rfl rfl) (fun bkl20 hbkl20 => ?_)
     refine rPieces (fun _ h => Sep.nilI 2 h) ?_
     refine apR (hd := (none, 0)) (x := (Nd.mk 2 p0 p0 (-1) [])) 3 0 1 ndK.ok rfl rfl rfl (fun h => by first | rfl | (dsimp only at h; rw [h]; rfl) | (rw [h]; rfl) | exact congrArg (fun m => [Value.slice _ m _]) h) mk24 trv1 rfl rfl rfl rfl (by omega) ?_
     intro aq20 cq20
     refine asS rfl rfl rfl ?_
     refine rNil ?_
     refine qSeq rfl ?_
     refine hSeq ?_
     refine hSeq ?_
     refine hReg (sq 0 (sq 1 sz)) (by kernel_rfl) ?_
     refine mvI rfl rfl rfl ?_
     refine eql rfl rfl rfl rfl ?_
     refine rNil ?_
     refine qSeq rfl ?_
     refine hIfD rfl (fun c5 => ?_) (fun c5 => ?_)
     ·
      replace c5 : r = 0 := c5
      refine hSeq ?_
      refine hReg (sq 0 (sq 1 (sq 2 (sq 3 (sq 4 (sl 5 sz)))))) (by kernel_rfl) ?_
      refine mvS rfl rfl rfl ?_
      refine mvI rfl rfl rfl ?_
      refine mvS rfl rfl rfl ?_
      refine oxR (zn := nz) 0 rfl el24 rfl rfl rfl rfl (by omega) (by omega) rfl ?_
      intro gk21 hgk21
      refine fld fl52_4 rfl rfl rfl ?_
      refine stRk (f := 4) (hd := (aq19, cq19)) (Nd.mk 1 p0 p1 (-1) []) (Nd.mk 1 p0 p1 (-1) (([(((nz + 1) : Nat) : Int)] ++ [((((nz + 1) + 1) : Nat) : Int)]))) nz 0 3 ndK.ok rfl rfl hgk21 (by simp only [List.append_assoc, List.cons_append, List.nil_append]; exact Math.at_mid lz) Tryd.sizeOf50 trv rfl rfl rfl rfl rfl (fun h => by first | rfl | (dsimp only [ndK, ndC] at h ⊢; rw [h]; rfl)) rfl (by decide) ?_
      refine rNil ?_
      refine qSeq rfl ?_
      refine hSeq ?_
      refine hReg (sq 0 (sq 1 sz)) (by kernel_rfl) ?_
      refine mvS rfl rfl rfl ?_
      refine asS rfl rfl rfl ?_
      refine rNil ?_
      refine qSeq rfl ?_
      refine hRet ?_
      rw [show (((((z ++ [(Nd.mk 1 p0 p1 (-1) [])]) ++ [(Nd.mk 2 p0 p1 1 [])]) ++ [(Nd.mk 2 p0 p0 (-1) [])])).set nz ((Nd.mk 1 p0 p1 (-1) (([(((nz + 1) : Nat) : Int)] ++ [((((nz + 1) + 1) : Nat) : Int)]))))) = z ++ Math.growF (f + 1) 1 p0 p1 bet r ck nz from Math.grow_1 lz he (by first | assumption | omega) (by simp) rfl]
      exact fun w hs => ⟨[.slice aq20 ((((nz + 1) + 1) + 1)) cq20], ⟨rfl, trivial⟩, ⟨(aq20, (((nz + 1) + 1) + 1), cq20, (hset ((hset ((hset ((hset Hz z.length (none, 0))) ((z ++ [(Nd.mk 1 p0 p1 (-1) [])])).length (none, 0))) (((z ++ [(Nd.mk 1 p0 p1 (-1) [])]) ++ [(Nd.mk 2 p0 p1 1 [])])).length (none, 0))) nz (aq19, cq19))), rfl, trivial, hs.pick [0]⟩⟩
     ·
      replace c5 : ¬ (r = 0) := c5
      refine hSkip ?_
      refine qSeq rfl ?_
      refine hReg (sq 0 (sq 1 (sq 2 sz))) (by kernel_rfl) ?_
      refine mvI rfl rfl rfl ?_
      refine sub rfl rfl rfl rfl (by omega) ?_
      refine asI rfl rfl rfl ?_
      refine rNil ?_
      refine qSeq rfl ?_
      refine hSeq ?_
      refine hReg (sq 0 (sq 1 (sq 2 (sl 3 (sl 4 (sq 5 sz)))))) (by kernel_rfl) ?_
      refine mvS rfl rfl rfl ?_
      refine mvS rfl rfl rfl ?_
      refine lenS Tryd.runUnderlying24 rfl rfl rfl ?_
      refine bsl trv1 rfl rfl rfl (bsl50_1 (.int .i64 _) rfl) (fun bkl22 hbkl22 => ?_)
      refine aplI (N := (1 + 1)) (x := (((((nz + 1) + 1) + 1) : Nat) : Int)) 5 0 rfl rfl mk50 trv1 rfl rfl rfl rfl (by omega) ?_
      intro aq22 cq22
      refine asS rfl rfl rfl ?_
      refine rNil ?_
      refine qSeq rfl ?_
      refine hSeq ?_
      refine hSeq ?_
      refine hReg (sq 0 (sq 1 sz)) (by kernel_rfl) ?_
      refine mvI rfl rfl rfl ?_
      refine eql rfl rfl rfl rfl ?_
      refine rNil ?_
      refine qSeq rfl ?_
      refine hIfF rfl ?_
      refine hReg (sq 0 (sq 1 (sq 2 (sq 3 sz)))) (by kernel_rfl) ?_
      refine mvI rfl rfl rfl ?_
      refine mvI rfl rfl rfl ?_
      refine add rfl rfl rfl rfl (by omega) ?_
      refine asI rfl rfl rfl ?_
      refine rNil ?_
      refine qSeq rfl ?_
      refine hSeq ?_
      refine hReg (sq 0 (sq 1 (sq 2 (sq 3 (sq 4 (sq 5 (sq 6 (sl 7 (sq 8 sz))))))))) (by kernel_rfl) ?_
      refine mvS rfl rfl rfl ?_
      refine mvI rfl rfl rfl ?_
      refine sub rfl rfl rfl rfl (by omega) ?_
      refine mvI rfl rfl rfl ?_
      refine mvI rfl rfl rfl ?_
      refine mvI rfl rfl rfl ?_
      refine mvI rfl rfl rfl ?_
      refine rPieces (fun _ h => h.pick [1, 0, 0, 0, 0, 0, 0]) ?_
      refine callM (α := Option Addr × Nat × Nat × (Nat → Hd)) (Lf := [OwnR ndK 52 2 aq20 ((((nz + 1) + 1) + 1)) cq20 ((hset ((hset ((hset Hz z.length (none, 0))) ((z ++ [(Nd.mk 1 p0 p1 (-1) [])])).length (none, 0))) (((z ++ [(Nd.mk 1 p0 p1 (-1) [])]) ++ [(Nd.mk 2 p0 p1 1 [])])).length (none, 0))) ((((z ++ [(Nd.mk 1 p0 p1 (-1) [])]) ++ [(Nd.mk 2 p0 p1 1 [])]) ++ [(Nd.mk 2 p0 p0 (-1) [])]))]) (Lr := [blk bkl22 2 [.int .i64 ((((((nz + 1) + 1) + 1) : Nat) : Int))], blk bkl20 52 [.int .i64 2, .int .i64 p0, .int .i64 p0, .int .i64 (-1), .slice none 0 0], blk bkl19 2 [.int .i64 (((((nz + 1) + 1) : Nat) : Int))], blk bkl17 52 [.int .i64 2, .int .i64 p0, .int .i64 p1, .int .i64 1, .slice none 0 0], OwnI 2 aq22 (((1 + 1) + 1)) cq22 ((([(((nz + 1) : Nat) : Int)] ++ [((((nz + 1) + 1) : Nat) : Int)]) ++ [(((((nz + 1) + 1) + 1) : Nat) : Int)])), blk bkl14 52 [.int .i64 1, .int .i64 p0, .int .i64 p1, .int .i64 (-1), .slice none 0 0]]) (φs := fun x => [OwnR ndK 52 2 x.1 x.2.1 x.2.2.1 x.2.2.2 ((((z ++ [(Nd.mk 1 p0 p1 (-1) [])]) ++ [(Nd.mk 2 p0 p1 1 [])]) ++ [(Nd.mk 2 p0 p0 (-1) [])]) ++ Math.growF f (1 - 1) p0 (p0 + bet) bet (r - 1) false ((((nz + 1) + 1) + 1)))]) (val := fun x => .slice x.1 x.2.1 x.2.2.1) rfl Tryd.call46 trv1 rfl rfl (fun w M0 hs => ih aq20 ((((nz + 1) + 1) + 1)) cq20 ((hset ((hset ((hset Hz z.length (none, 0))) ((z ++ [(Nd.mk 1 p0 p1 (-1) [])])).length (none, 0))) (((z ++ [(Nd.mk 1 p0 p1 (-1) [])]) ++ [(Nd.mk 2 p0 p1 1 [])])).length (none, 0))) ((((z ++ [(Nd.mk 1 p0 p1 (-1) [])]) ++ [(Nd.mk 2 p0 p1 1 [])]) ++ [(Nd.mk 2 p0 p0 (-1) [])])) (1 - 1) p0 (p0 + bet) bet (r - 1) false w M0 hs (by omega) (by omega) (by omega) (by omega) (by omega) (by omega)) ?_
      rintro ⟨ag23, ng23, cg23, Hg23⟩ -
      refine rPieces (L' := [OwnR ndK 52 2 ag23 ng23 cg23 Hg23 (((((z ++ [(Nd.mk 1 p0 p1 (-1) [])]) ++ [(Nd.mk 2 p0 p1 1 [])]) ++ [(Nd.mk 2 p0 p0 (-1) [])]) ++ Math.growF f (1 - 1) p0 (p0 + bet) bet (r - 1) false ((((nz + 1) + 1) + 1)))), blk bkl22 2 [.int .i64 ((((((nz + 1) + 1) + 1) : Nat) : Int))], blk bkl20 52 [.int .i64 2, .int .i64 p0, .int .i64 p0, .int .i64 (-1), .slice none 0 0], blk bkl19 2 [.int .i64 (((((nz + 1) + 1) : Nat) : Int))], blk bkl17 52 [.int .i64 2, .int .i64 p0, .int .i64 p1, .int .i64 1, .slice none 0 0], OwnI 2 aq22 (((1 + 1) + 1)) cq22 ((([(((nz + 1) : Nat) : Int)] ++ [((((nz + 1) + 1) : Nat) : Int)]) ++ [(((((nz + 1) + 1) + 1) : Nat) : Int)])), blk bkl14 52 [.int .i64 1, .int .i64 p0, .int .i64 p1, .int .i64 (-1), .slice none 0 0]]) (fun _ h => h) ?_
      refine rKnow (fun w hs => (show OwnR ndK 52 2 ag23 ng23 cg23 Hg23 (((((z ++ [(Nd.mk 1 p0 p1 (-1) [])]) ++ [(Nd.mk 2 p0 p1 1 [])]) ++ [(Nd.mk 2 p0 p0 (-1) [])]) ++ Math.growF f (1 - 1) p0 (p0 + bet) bet (r - 1) false ((((nz + 1) + 1) + 1)))) w from hs.at_ 0 rfl).1) (fun leng23 => ?_)
      simp only [List.length_append, List.length_cons, List.length_nil] at leng23
      have hgl23 := Math.growF_len f (1 - 1) p0 (p0 + bet) bet (r - 1) false ((((nz + 1) + 1) + 1))
      refine asS rfl rfl rfl ?_
      refine rNil ?_
      refine qSeq rfl ?_
      refine hSeq ?_
      refine hReg (sq 0 (sq 1 (sq 2 (sq 3 (sq 4 (sl 5 sz)))))) (by kernel_rfl) ?_
      refine mvS rfl rfl rfl ?_
      refine mvI rfl rfl rfl ?_
      refine mvS rfl rfl rfl ?_
      refine oxR (zn := nz) 0 rfl el24 rfl rfl rfl rfl (by omega) (by omega) rfl ?_
      intro gk24 hgk24
      refine fld fl52_4 rfl rfl rfl ?_
      refine stRk (f := 4) (hd := (aq22, cq22)) (Nd.mk 1 p0 p1 (-1) []) (Nd.mk 1 p0 p1 (-1) ((([(((nz + 1) : Nat) : Int)] ++ [((((nz + 1) + 1) : Nat) : Int)]) ++ [(((((nz + 1) + 1) + 1) : Nat) : Int)]))) nz 0 4 ndK.ok rfl rfl hgk24 (by simp only [List.append_assoc, List.cons_append, List.nil_append]; exact Math.at_mid lz) Tryd.sizeOf50 trv rfl rfl rfl rfl rfl (fun h => by first | rfl | (dsimp only [ndK, ndC] at h ⊢; rw [h]; rfl)) rfl (by decide) ?_
      refine rNil ?_
      refine qSeq rfl ?_
      refine hSeq ?_
      refine hReg (sq 0 (sq 1 sz)) (by kernel_rfl) ?_
      refine mvS rfl rfl rfl ?_
      refine asS rfl rfl rfl ?_
      refine rNil ?_
      refine qSeq rfl ?_
      refine hRet ?_
      rw [show ((((((z ++ [(Nd.mk 1 p0 p1 (-1) [])]) ++ [(Nd.mk 2 p0 p1 1 [])]) ++ [(Nd.mk 2 p0 p0 (-1) [])]) ++ Math.growF f (1 - 1) p0 (p0 + bet) bet (r - 1) false ((((nz + 1) + 1) + 1)))).set nz ((Nd.mk 1 p0 p1 (-1) ((([(((nz + 1) : Nat) : Int)] ++ [((((nz + 1) + 1) : Nat) : Int)]) ++ [(((((nz + 1) + 1) + 1) : Nat) : Int)]))))) = z ++ Math.growF (f + 1) 1 p0 p1 bet r ck nz from Math.grow_2 lz he (by first | assumption | omega) (by omega) (by omega) (by simp) (by simp [he]) (by simp [he]) rfl]
      exact fun w hs => ⟨[.slice ag23 ng23 cg23], ⟨rfl, trivial⟩, ⟨(ag23, ng23, cg23, (hset Hg23 nz (aq22, cq22))), rfl, trivial, hs.pick [0]⟩⟩
    ·
     replace c4 : ¬ (p1 < p0) := c4
     have he : p0 = p1 := by omega
     refine hSeq ?_
     refine hReg (sq 0 (sq 1 sz)) (by kernel_rfl) ?_
     refine mvB rfl rfl rfl ?_
     refine asB rfl rfl rfl ?_
     refine rNil ?_
     refine qSeq rfl ?_
     refine hIf rfl (fun c6 => ?_) (fun c6 => ?_)
     ·
      replace c6 : ck = true := c6
      have hck : Math.ckN ck = 2 := by rw [c6]; rfl
      refine hReg (sq 0 (sq 1 (sq 2 (sq 3 (sl 4 (sl 5 (sq 6 sz))))))) (by kernel_rfl) ?_
      refine mvS rfl rfl rfl ?_
      refine mvI rfl rfl rfl ?_
      refine mvI rfl rfl rfl ?_
      refine bld rfl rfl rfl (bld52_0_1_2_3 (.int .i64 _) (.int .i64 _) (.int .i64 _) (.int .i64 _) rfl rfl rfl rfl) ?_
      refine bsl trv1 rfl rfl rfl (bsl24_1 (.int .i64 2) (.int .i64 p0) (.int .i64 p1) (.int .i64 (-1)) (.slice none 0 0) rfl rfl rfl rfl rfl) (fun bkl23 hbkl23 => ?_)
      refine rPieces (fun _ h => Sep.nilI 2 h) ?_
      refine apR (hd := (none, 0)) (x := (Nd.mk 2 p0 p1 (-1) [])) 3 0 1 ndK.ok rfl rfl rfl (fun h => by first | rfl | (dsimp only at h; rw [h]; rfl) | (rw [h]; rfl) | exact congrArg (fun m => [Value.slice _ m _]) h) mk24 trv1 rfl rfl rfl rfl (by omega) ?_
      intro aq25 cq25
      refine asS rfl rfl rfl ?_
      refine rNil ?_
      refine qSeq rfl ?_
      refine hSeq ?_
      refine hReg (sq 0 (sq 1 (sq 2 (sl 3 (sl 4 (sq 5 sz)))))) (by kernel_rfl) ?_
      refine mvS rfl rfl rfl ?_
      refine mvS rfl rfl rfl ?_
      refine lenS Tryd.runUnderlying24 rfl rfl rfl ?_
      refine bsl trv1 rfl rfl rfl (bsl50_1 (.int .i64 _) rfl) (fun bkl25 hbkl25 => ?_)
      refine rPieces (fun _ h => Sep.litI h 3 [(((nz + 1) : Nat) : Int)] rfl rfl rfl) ?_
      refine aplI (N := 1) (x := ((((nz + 1) + 1) : Nat) : Int)) 3 0 rfl rfl mk50 trv1 rfl rfl rfl rfl (by omega) ?_
      intro aq26 cq26
      refine asS rfl rfl rfl ?_
      refine rNil ?_
      refine qSeq rfl ?_
      refine hSeq ?_
      refine hSeq ?_
      refine hReg (sq 0 (sq 1 sz)) (by kernel_rfl) ?_
      refine mvI rfl rfl rfl ?_
      refine eql rfl rfl rfl rfl ?_
      refine rNil ?_
      refine qSeq rfl ?_
      refine hIfF rfl ?_
      refine hReg (sq 0 (sq 1 (sq 2 (sq 3 sz)))) (by kernel_rfl) ?_
      refine mvI rfl rfl rfl ?_
      refine mvI rfl rfl rfl ?_
      refine add rfl rfl rfl rfl (by omega) ?_
      refine asI rfl rfl rfl ?_
      refine rNil ?_
      refine qSeq rfl ?_
      refine hSeq ?_
      refine hReg (sq 0 (sq 1 (sq 2 (sq 3 (sq 4 (sq 5 (sq 6 (sl 7 (sq 8 sz))))))))) (by kernel_rfl) ?_
      refine mvS rfl rfl rfl ?_
      refine mvI rfl rfl rfl ?_
      refine sub rfl rfl rfl rfl (by omega) ?_
      refine mvI rfl rfl rfl ?_
      refine mvI rfl rfl rfl ?_
      refine mvI rfl rfl rfl ?_
      refine mvI rfl rfl rfl ?_
      refine rPieces (fun _ h => h.pick [1, 0, 0, 0, 0]) ?_
      refine callM (α := Option Addr × Nat × Nat × (Nat → Hd)) (Lf := [OwnR ndK 52 2 aq25 (((nz + 1) + 1)) cq25 ((hset ((hset Hz z.length (none, 0))) ((z ++ [(Nd.mk 1 p0 p1 (-1) [])])).length (none, 0))) (((z ++ [(Nd.mk 1 p0 p1 (-1) [])]) ++ [(Nd.mk 2 p0 p1 (-1) [])]))]) (Lr := [blk bkl25 2 [.int .i64 (((((nz + 1) + 1) : Nat) : Int))], blk bkl23 52 [.int .i64 2, .int .i64 p0, .int .i64 p1, .int .i64 (-1), .slice none 0 0], OwnI 2 aq26 (1 + 1) cq26 (([(((nz + 1) : Nat) : Int)] ++ [((((nz + 1) + 1) : Nat) : Int)])), blk bkl14 52 [.int .i64 1, .int .i64 p0, .int .i64 p1, .int .i64 (-1), .slice none 0 0]]) (φs := fun x => [OwnR ndK 52 2 x.1 x.2.1 x.2.2.1 x.2.2.2 (((z ++ [(Nd.mk 1 p0 p1 (-1) [])]) ++ [(Nd.mk 2 p0 p1 (-1) [])]) ++ Math.growF f (1 - 1) p0 (p0 + bet) bet r false (((nz + 1) + 1)))]) (val := fun x => .slice x.1 x.2.1 x.2.2.1) rfl Tryd.call46 trv1 rfl rfl (fun w M0 hs => ih aq25 (((nz + 1) + 1)) cq25 ((hset ((hset Hz z.length (none, 0))) ((z ++ [(Nd.mk 1 p0 p1 (-1) [])])).length (none, 0))) (((z ++ [(Nd.mk 1 p0 p1 (-1) [])]) ++ [(Nd.mk 2 p0 p1 (-1) [])])) (1 - 1) p0 (p0 + bet) bet r false w M0 hs (by omega) (by omega) (by omega) (by omega) (by omega) (by omega)) ?_
      rintro ⟨ag27, ng27, cg27, Hg27⟩ -
      refine rPieces (L' := [OwnR ndK 52 2 ag27 ng27 cg27 Hg27 ((((z ++ [(Nd.mk 1 p0 p1 (-1) [])]) ++ [(Nd.mk 2 p0 p1 (-1) [])]) ++ Math.growF f (1 - 1) p0 (p0 + bet) bet r false (((nz + 1) + 1)))), blk bkl25 2 [.int .i64 (((((nz + 1) + 1) : Nat) : Int))], blk bkl23 52 [.int .i64 2, .int .i64 p0, .int .i64 p1, .int .i64 (-1), .slice none 0 0], OwnI 2 aq26 (1 + 1) cq26 (([(((nz + 1) : Nat) : Int)] ++ [((((nz + 1) + 1) : Nat) : Int)])), blk bkl14 52 [.int .i64 1, .int .i64 p0, .int .i64 p1, .int .i64 (-1), .slice none 0 0]]) (fun _ h => h) ?_
      refine rKnow (fun w hs => (show OwnR ndK 52 2 ag27 ng27 cg27 Hg27 ((((z ++ [(Nd.mk 1 p0 p1 (-1) [])]) ++ [(Nd.mk 2 p0 p1 (-1) [])]) ++ Math.growF f (1 - 1) p0 (p0 + bet) bet r false (((nz + 1) + 1)))) w from hs.at_ 0 rfl).1) (fun leng27 => ?_)
      simp only [List.length_append, List.length_cons, List.length_nil] at leng27
      have hgl27 := Math.growF_len f (1 - 1) p0 (p0 + bet) bet r false (((nz + 1) + 1))
      refine asS rfl rfl rfl ?_
      refine rNil ?_
      refine qSeq rfl ?_
      refine hSeq ?_
      refine hReg (sq 0 (sq 1 (sq 2 (sq 3 (sq 4 (sl 5 sz)))))) (by kernel_rfl) ?_
      refine mvS rfl rfl rfl ?_
      refine mvI rfl rfl rfl ?_
      refine mvS rfl rfl rfl ?_
      refine oxR (zn := nz) 0 rfl el24 rfl rfl rfl rfl (by omega) (by omega) rfl ?_
      intro gk28 hgk28
      refine fld fl52_4 rfl rfl rfl ?_
      refine stRk (f := 4) (hd := (aq26, cq26)) (Nd.mk 1 p0 p1 (-1) []) (Nd.mk 1 p0 p1 (-1) (([(((nz + 1) : Nat) : Int)] ++ [((((nz + 1) + 1) : Nat) : Int)]))) nz 0 2 ndK.ok rfl rfl hgk28 (by simp only [List.append_assoc, List.cons_append, List.nil_append]; exact Math.at_mid lz) Tryd.sizeOf50 trv rfl rfl rfl rfl rfl (fun h => by first | rfl | (dsimp only [ndK, ndC] at h ⊢; rw [h]; rfl)) rfl (by decide) ?_
      refine rNil ?_
      refine qSeq rfl ?_
      refine hSeq ?_
      refine hReg (sq 0 (sq 1 sz)) (by kernel_rfl) ?_
      refine mvS rfl rfl rfl ?_
      refine asS rfl rfl rfl ?_
      refine rNil ?_
      refine qSeq rfl ?_
      refine hRet ?_
      rw [show (((((z ++ [(Nd.mk 1 p0 p1 (-1) [])]) ++ [(Nd.mk 2 p0 p1 (-1) [])]) ++ Math.growF f (1 - 1) p0 (p0 + bet) bet r false (((nz + 1) + 1)))).set nz ((Nd.mk 1 p0 p1 (-1) (([(((nz + 1) : Nat) : Int)] ++ [((((nz + 1) + 1) : Nat) : Int)]))))) = z ++ Math.growF (f + 1) 1 p0 p1 bet r ck nz from Math.grow_3 lz he (by assumption) (by omega) (by simp [he]) (by simp [he]) rfl]
      exact fun w hs => ⟨[.slice ag27 ng27 cg27], ⟨rfl, trivial⟩, ⟨(ag27, ng27, cg27, (hset Hg27 nz (aq26, cq26))), rfl, trivial, hs.pick [0]⟩⟩
     ·
      replace c6 : ck = false := c6
      have hck : Math.ckN ck = 3 := by rw [c6]; rfl
      refine hReg (sq 0 (sq 1 (sq 2 (sq 3 (sq 4 (sq 5 (sq 6 (sl 7 (sq 8 sz))))))))) (by kernel_rfl) ?_
      refine mvS rfl rfl rfl ?_
      refine mvI rfl rfl rfl ?_
      refine sub rfl rfl rfl rfl (by omega) ?_
      refine mvI rfl rfl rfl ?_
      refine mvI rfl rfl rfl ?_
      refine mvI rfl rfl rfl ?_
      refine mvI rfl rfl rfl ?_
      refine rPieces (fun _ h => h.pick [1, 0, 0]) ?_
      refine callM (α := Option Addr × Nat × Nat × (Nat → Hd)) (Lf := [OwnR ndK 52 2 aq17 (nz + 1) cq17 ((hset Hz z.length (none, 0))) ((z ++ [(Nd.mk 1 p0 p1 (-1) [])]))]) (Lr := [blk bkl16 2 [.int .i64 ((((nz + 1) : Nat) : Int))], blk bkl14 52 [.int .i64 1, .int .i64 p0, .int .i64 p1, .int .i64 (-1), .slice none 0 0]]) (φs := fun x => [OwnR ndK 52 2 x.1 x.2.1 x.2.2.1 x.2.2.2 ((z ++ [(Nd.mk 1 p0 p1 (-1) [])]) ++ Math.growF f (1 - 1) p0 p1 bet r true (nz + 1))]) (val := fun x => .slice x.1 x.2.1 x.2.2.1) rfl Tryd.call46 trv1 rfl rfl (fun w M0 hs => ih aq17 (nz + 1) cq17 ((hset Hz z.length (none, 0))) ((z ++ [(Nd.mk 1 p0 p1 (-1) [])])) (1 - 1) p0 p1 bet r true w M0 hs (by omega) (by omega) (by omega) (by omega) (by omega) (by omega)) ?_
      rintro ⟨ag29, ng29, cg29, Hg29⟩ -
      refine rPieces (L' := [OwnR ndK 52 2 ag29 ng29 cg29 Hg29 (((z ++ [(Nd.mk 1 p0 p1 (-1) [])]) ++ Math.growF f (1 - 1) p0 p1 bet r true (nz + 1))), blk bkl16 2 [.int .i64 ((((nz + 1) : Nat) : Int))], blk bkl14 52 [.int .i64 1, .int .i64 p0, .int .i64 p1, .int .i64 (-1), .slice none 0 0]]) (fun _ h => h) ?_
      refine rKnow (fun w hs => (show OwnR ndK 52 2 ag29 ng29 cg29 Hg29 (((z ++ [(Nd.mk 1 p0 p1 (-1) [])]) ++ Math.growF f (1 - 1) p0 p1 bet r true (nz + 1))) w from hs.at_ 0 rfl).1) (fun leng29 => ?_)
      simp only [List.length_append, List.length_cons, List.length_nil] at leng29
      have hgl29 := Math.growF_len f (1 - 1) p0 p1 bet r true (nz + 1)
      refine asS rfl rfl rfl ?_
      refine rNil ?_
      refine qSeq rfl ?_
      refine hSeq ?_
      refine hReg (sq 0 (sq 1 (sq 2 (sl 3 (sl 4 (sq 5 sz)))))) (by kernel_rfl) ?_
      refine mvS rfl rfl rfl ?_
      refine mvS rfl rfl rfl ?_
      refine lenS Tryd.runUnderlying24 rfl rfl rfl ?_
      refine bsl trv1 rfl rfl rfl (bsl50_1 (.int .i64 _) rfl) (fun bkl26 hbkl26 => ?_)
      refine rPieces (fun _ h => Sep.litI h 2 [(((nz + 1) : Nat) : Int)] rfl rfl rfl) ?_
      refine aplI (N := 1) (x := (ng29 : Int)) 2 0 rfl rfl mk50 trv1 rfl rfl rfl rfl (by omega) ?_
      intro aq30 cq30
      refine asS rfl rfl rfl ?_
      refine rNil ?_
      refine qSeq rfl ?_
      refine hSeq ?_
      refine hSeq ?_
      refine hReg (sq 0 (sq 1 sz)) (by kernel_rfl) ?_
      refine mvI rfl rfl rfl ?_
      refine eql rfl rfl rfl rfl ?_
      refine rNil ?_
      refine qSeq rfl ?_
      refine hIfF rfl ?_
      refine hReg (sq 0 (sq 1 (sq 2 (sq 3 sz)))) (by kernel_rfl) ?_
      refine mvI rfl rfl rfl ?_
      refine mvI rfl rfl rfl ?_
      refine add rfl rfl rfl rfl (by omega) ?_
      refine asI rfl rfl rfl ?_
      refine rNil ?_
      refine qSeq rfl ?_
      refine hSeq ?_
      refine hReg (sq 0 (sq 1 (sq 2 (sq 3 (sq 4 (sq 5 (sq 6 (sl 7 (sq 8 sz))))))))) (by kernel_rfl) ?_
      refine mvS rfl rfl rfl ?_
      refine mvI rfl rfl rfl ?_
      refine sub rfl rfl rfl rfl (by omega) ?_
      refine mvI rfl rfl rfl ?_
      refine mvI rfl rfl rfl ?_
      refine mvI rfl rfl rfl ?_
      refine mvI rfl rfl rfl ?_
      refine rPieces (fun _ h => h.pick [1, 0, 0, 0]) ?_
      refine callM (α := Option Addr × Nat × Nat × (Nat → Hd)) (Lf := [OwnR ndK 52 2 ag29 ng29 cg29 Hg29 (((z ++ [(Nd.mk 1 p0 p1 (-1) [])]) ++ Math.growF f (1 - 1) p0 p1 bet r true (nz + 1)))]) (Lr := [blk bkl26 2 [.int .i64 (ng29 : Int)], OwnI 2 aq30 (1 + 1) cq30 (([(((nz + 1) : Nat) : Int)] ++ [(ng29 : Int)])), blk bkl14 52 [.int .i64 1, .int .i64 p0, .int .i64 p1, .int .i64 (-1), .slice none 0 0]]) (φs := fun x => [OwnR ndK 52 2 x.1 x.2.1 x.2.2.1 x.2.2.2 (((z ++ [(Nd.mk 1 p0 p1 (-1) [])]) ++ Math.growF f (1 - 1) p0 p1 bet r true (nz + 1)) ++ Math.growF f (1 - 1) p0 (p0 + bet) bet r false ng29)]) (val := fun x => .slice x.1 x.2.1 x.2.2.1) rfl Tryd.call46 trv1 rfl rfl (fun w M0 hs => ih ag29 ng29 cg29 Hg29 (((z ++ [(Nd.mk 1 p0 p1 (-1) [])]) ++ Math.growF f (1 - 1) p0 p1 bet r true (nz + 1))) (1 - 1) p0 (p0 + bet) bet r false w M0 hs (by omega) (by omega) (by omega) (by omega) (by omega) (by omega)) ?_
      rintro ⟨ag31, ng31, cg31, Hg31⟩ -
      refine rPieces (L' := [OwnR ndK 52 2 ag31 ng31 cg31 Hg31 ((((z ++ [(Nd.mk 1 p0 p1 (-1) [])]) ++ Math.growF f (1 - 1) p0 p1 bet r true (nz + 1)) ++ Math.growF f (1 - 1) p0 (p0 + bet) bet r false ng29)), blk bkl26 2 [.int .i64 (ng29 : Int)], OwnI 2 aq30 (1 + 1) cq30 (([(((nz + 1) : Nat) : Int)] ++ [(ng29 : Int)])), blk bkl14 52 [.int .i64 1, .int .i64 p0, .int .i64 p1, .int .i64 (-1), .slice none 0 0]]) (fun _ h => h) ?_
      refine rKnow (fun w hs => (show OwnR ndK 52 2 ag31 ng31 cg31 Hg31 ((((z ++ [(Nd.mk 1 p0 p1 (-1) [])]) ++ Math.growF f (1 - 1) p0 p1 bet r true (nz + 1)) ++ Math.growF f (1 - 1) p0 (p0 + bet) bet r false ng29)) w from hs.at_ 0 rfl).1) (fun leng31 => ?_)
      simp only [List.length_append, List.length_cons, List.length_nil] at leng31
      have hgl31 := Math.growF_len f (1 - 1) p0 (p0 + bet) bet r false ng29
      refine asS rfl rfl rfl ?_
      refine rNil ?_
      refine qSeq rfl ?_
      refine hSeq ?_
      refine hReg (sq 0 (sq 1 (sq 2 (sq 3 (sq 4 (sl 5 sz)))))) (by kernel_rfl) ?_
      refine mvS rfl rfl rfl ?_
      refine mvI rfl rfl rfl ?_
      refine mvS rfl rfl rfl ?_
      refine oxR (zn := nz) 0 rfl el24 rfl rfl rfl rfl (by omega) (by omega) rfl ?_
      intro gk32 hgk32
      refine fld fl52_4 rfl rfl rfl ?_
      refine stRk (f := 4) (hd := (aq30, cq30)) (Nd.mk 1 p0 p1 (-1) []) (Nd.mk 1 p0 p1 (-1) (([(((nz + 1) : Nat) : Int)] ++ [(ng29 : Int)]))) nz 0 1 ndK.ok rfl rfl hgk32 (by simp only [List.append_assoc, List.cons_append, List.nil_append]; exact Math.at_mid lz) Tryd.sizeOf50 trv rfl rfl rfl rfl rfl (fun h => by first | rfl | (dsimp only [ndK, ndC] at h ⊢; rw [h]; rfl)) rfl (by decide) ?_
      refine rNil ?_
      refine qSeq rfl ?_
      refine hSeq ?_
      refine hReg (sq 0 (sq 1 sz)) (by kernel_rfl) ?_
      refine mvS rfl rfl rfl ?_
      refine asS rfl rfl rfl ?_
      refine rNil ?_
      refine qSeq rfl ?_
      refine hRet ?_
      rw [show (((((z ++ [(Nd.mk 1 p0 p1 (-1) [])]) ++ Math.growF f (1 - 1) p0 p1 bet r true (nz + 1)) ++ Math.growF f (1 - 1) p0 (p0 + bet) bet r false ng29)).set nz ((Nd.mk 1 p0 p1 (-1) (([(((nz + 1) : Nat) : Int)] ++ [(ng29 : Int)]))))) = z ++ Math.growF (f + 1) 1 p0 p1 bet r ck nz from Math.grow_4 lz he (by assumption) (by omega) (by simp [he]) (by simp [he]) (by omega) rfl]
      exact fun w hs => ⟨[.slice ag31 ng31 cg31], ⟨rfl, trivial⟩, ⟨(ag31, ng31, cg31, (hset Hg31 nz (aq30, cq30))), rfl, trivial, hs.pick [0]⟩⟩
theorem spec_BetTree_c (an : Int) (bt : Int) (ra : Int) (w : World) :
  Calls Tryd.prog 16 #[.int .i64 an, .int .i64 bt, .int .i64 ra] w (Ret fun v w' => ∃ x : Option Addr × Nat × Nat × (Nat → Hd) × List Nd × Int, v = .tuple #[.agg #[.slice x.1 x.2.1 x.2.2.1], .int .i64 x.2.2.2.2.2] ∧ (x.2.2.2.2.1 = (Math.betAt an bt ra).1 ∧ x.2.2.2.2.2 = (Math.betAt an bt ra).2) ∧ Sep w none_ [OwnR ndK 52 2 x.1 x.2.1 x.2.2.1 x.2.2.2.1 x.2.2.2.2.1] w') := by
 refine fn (M := none_) (rs := [.cell 6 26, .tmp 7]) Tryd.func16 rfl Tryd.ntmps16 rfl rfl (Sep.start _ _) ?_
 refine hSeq ?_
 refine hReg (sl 0 (sq 1 sz)) (by kernel_rfl) ?_
 refine alc Tryd.zeroValue26 rfl trv1 rfl rfl (fun bka1 hbka1 => ?_)
 refine asI rfl rfl rfl ?_
 refine rNil ?_
 refine qSeq rfl ?_
 refine hSeq ?_
 refine hSeq ?_
 refine hReg (sq 0 (sl 1 (sq 2 (sq 3 (sq 4 (sl 5 (sq 6 (sq 7 (sq 8 (sq 9 (sl 10 (sq 11 (sq 12 (sq 13 (sq 14 (sq 15 (sq 16 (sq 17 (sq 18 (sq 19 (sq 20 (sq 21 sz)))))))))))))))))))))) (by kernel_rfl) ?_
 refine mvI rfl rfl rfl ?_
 refine callP (v := .bool (decide ((0 : Int) ≤ an ∧ an ≤ (100 : Int)))) Tryd.call32 trv rfl rfl (fun w hs => spec_l01In_c _ _ _ w ) ?_
 refine notD rfl rfl rfl ?_
 refine mvB rfl rfl rfl ?_
 refine rBoolD (d := 11) rfl (fun g1 => ?_) (fun g1 => ?_)
 ·
  replace g1 : ¬ ((0 : Int) ≤ an ∧ an ≤ (100 : Int)) := g1
  refine rSkipQ rfl rfl ?_
  refine rSkipL trv rfl rfl ?_
  refine rSkipQ rfl rfl ?_
  refine pickB rfl rfl rfl rfl ?_
  refine mvB rfl rfl rfl ?_
  refine rSkipQ rfl rfl ?_
  refine rSkipL trv rfl rfl ?_
  refine rSkipQ rfl rfl ?_
  refine pickB rfl rfl rfl rfl ?_
  refine mvB rfl rfl rfl ?_
  refine rSkipQ rfl rfl ?_
  refine rSkipQ rfl rfl ?_
  refine rSkipQ rfl rfl ?_
  refine rSkipQ rfl rfl ?_
  refine rSkipQ rfl rfl ?_
  refine rSkipQ rfl rfl ?_
  refine rSkipQ rfl rfl ?_
  refine pickB rfl rfl rfl rfl ?_
  refine rNil ?_
  refine qSeq rfl ?_
  refine hIfT rfl ?_
  refine hSeq ?_
  refine hReg (sq 0 (sl 1 (sq 2 sz))) (by kernel_rfl) ?_
  refine bld rfl rfl rfl (bld26) ?_
  refine stAl (vs := [.slice none 0 0]) 0 rfl Tryd.sizeOf26 trv rfl rfl rfl rfl rfl (by simp [Value.oneCell']) rfl ?_
  refine asI rfl rfl rfl ?_
  refine rNil ?_
  refine qSeq rfl ?_
  refine hRet ?_
  refine knP (fun _ h => Sep.nilR ndK 52 2 (fun _ => (none, 0)) h) ?_
  exact fun w hs => ⟨[_, .int .i64 2], ⟨⟨_, rfl, run_load_agg Tryd.isAgg26 Tryd.sizeOf26 rfl (cBs 1 rfl w hs)⟩, ⟨rfl, trivial⟩⟩, ⟨(none, 0, 0, (fun _ => (none, 0)), [], 2), rfl, by rw [Math.betAt_2 (by omega)]; exact ⟨rfl, rfl⟩, hs.pick [0]⟩⟩
 ·
  replace g1 : ¬ (¬ ((0 : Int) ≤ an ∧ an ≤ (100 : Int))) := g1
  refine mvI rfl rfl rfl ?_
  refine callP (v := .bool (decide ((1 : Int) ≤ bt ∧ bt ≤ (100 : Int)))) Tryd.call32 trv rfl rfl (fun w hs => spec_l01In_c _ _ _ w ) ?_
  refine notD rfl rfl rfl ?_
  refine pickB rfl rfl rfl rfl ?_
  refine mvB rfl rfl rfl ?_
  refine rBoolD (d := 16) rfl (fun g2 => ?_) (fun g2 => ?_)
  ·
   replace g2 : ¬ ((1 : Int) ≤ bt ∧ bt ≤ (100 : Int)) := g2
   refine rSkipQ rfl rfl ?_
   refine rSkipL trv rfl rfl ?_
   refine rSkipQ rfl rfl ?_
   refine pickB rfl rfl rfl rfl ?_
   refine mvB rfl rfl rfl ?_
   refine rSkipQ rfl rfl ?_
   refine rSkipQ rfl rfl ?_
   refine rSkipQ rfl rfl ?_
   refine rSkipQ rfl rfl ?_
   refine rSkipQ rfl rfl ?_
   refine rSkipQ rfl rfl ?_
   refine rSkipQ rfl rfl ?_
   refine pickB rfl rfl rfl rfl ?_
   refine rNil ?_
   refine qSeq rfl ?_
   refine hIfT rfl ?_
   refine hSeq ?_
   refine hReg (sq 0 (sl 1 (sq 2 sz))) (by kernel_rfl) ?_
   refine bld rfl rfl rfl (bld26) ?_
   refine stAl (vs := [.slice none 0 0]) 0 rfl Tryd.sizeOf26 trv rfl rfl rfl rfl rfl (by simp [Value.oneCell']) rfl ?_
   refine asI rfl rfl rfl ?_
   refine rNil ?_
   refine qSeq rfl ?_
   refine hRet ?_
   refine knP (fun _ h => Sep.nilR ndK 52 2 (fun _ => (none, 0)) h) ?_
   exact fun w hs => ⟨[_, .int .i64 2], ⟨⟨_, rfl, run_load_agg Tryd.isAgg26 Tryd.sizeOf26 rfl (cBs 1 rfl w hs)⟩, ⟨rfl, trivial⟩⟩, ⟨(none, 0, 0, (fun _ => (none, 0)), [], 2), rfl, by rw [Math.betAt_2 (by omega)]; exact ⟨rfl, rfl⟩, hs.pick [0]⟩⟩
  ·
   replace g2 : ¬ (¬ ((1 : Int) ≤ bt ∧ bt ≤ (100 : Int))) := g2
   refine mvI rfl rfl rfl ?_
   refine callP (v := .bool (decide ((0 : Int) ≤ ra ∧ ra ≤ (2 : Int)))) Tryd.call32 trv rfl rfl (fun w hs => spec_l01In_c _ _ _ w ) ?_
   refine notD rfl rfl rfl ?_
   refine pickB rfl rfl rfl rfl ?_
   refine mvB rfl rfl rfl ?_
   refine rBoolD (d := 21) rfl (fun g3 => ?_) (fun g3 => ?_)
   ·
    replace g3 : ¬ ((0 : Int) ≤ ra ∧ ra ≤ (2 : Int)) := g3
    refine rSkipQ rfl rfl ?_
    refine rSkipQ rfl rfl ?_
    refine rSkipQ rfl rfl ?_
    refine rSkipQ rfl rfl ?_
    refine rSkipQ rfl rfl ?_
    refine rSkipQ rfl rfl ?_
    refine rSkipQ rfl rfl ?_
    refine pickB rfl rfl rfl rfl ?_
    refine rNil ?_
    refine qSeq rfl ?_
    refine hIfT rfl ?_
    refine hSeq ?_
    refine hReg (sq 0 (sl 1 (sq 2 sz))) (by kernel_rfl) ?_
    refine bld rfl rfl rfl (bld26) ?_
    refine stAl (vs := [.slice none 0 0]) 0 rfl Tryd.sizeOf26 trv rfl rfl rfl rfl rfl (by simp [Value.oneCell']) rfl ?_
    refine asI rfl rfl rfl ?_
    refine rNil ?_
    refine qSeq rfl ?_
    refine hRet ?_
    refine knP (fun _ h => Sep.nilR ndK 52 2 (fun _ => (none, 0)) h) ?_
    exact fun w hs => ⟨[_, .int .i64 2], ⟨⟨_, rfl, run_load_agg Tryd.isAgg26 Tryd.sizeOf26 rfl (cBs 1 rfl w hs)⟩, ⟨rfl, trivial⟩⟩, ⟨(none, 0, 0, (fun _ => (none, 0)), [], 2), rfl, by rw [Math.betAt_2 (by omega)]; exact ⟨rfl, rfl⟩, hs.pick [0]⟩⟩
   ·
    replace g3 : ¬ (¬ ((0 : Int) ≤ ra ∧ ra ≤ (2 : Int))) := g3
    have hbr := Math.mul_bd (a := bt) (A := 100) (b := ra + 1) (B := 3) (by omega) (by omega) (by omega) (by omega)
    have hk0 : Math.ckN false = 3 := rfl
    refine mvI rfl rfl rfl ?_
    refine mvI rfl rfl rfl ?_
    refine mvI rfl rfl rfl ?_
    refine add rfl rfl rfl rfl (by omega) ?_
    refine mul rfl rfl rfl rfl (by omega) ?_
    refine add rfl rfl rfl rfl (by omega) ?_
    refine gtr rfl rfl rfl rfl ?_
    refine pickB rfl rfl rfl rfl ?_
    refine rNil ?_
    refine qSeq rfl ?_
    refine hIfD rfl (fun c4 => ?_) (fun c4 => ?_)
    ·
     replace c4 : 100 < (an + (bt * (ra + 1))) := c4
     refine hSeq ?_
     refine hReg (sq 0 (sl 1 (sq 2 sz))) (by kernel_rfl) ?_
     refine bld rfl rfl rfl (bld26) ?_
     refine stAl (vs := [.slice none 0 0]) 0 rfl Tryd.sizeOf26 trv rfl rfl rfl rfl rfl (by simp [Value.oneCell']) rfl ?_
     refine asI rfl rfl rfl ?_
     refine rNil ?_
     refine qSeq rfl ?_
     refine hRet ?_
     refine knP (fun _ h => Sep.nilR ndK 52 2 (fun _ => (none, 0)) h) ?_
     exact fun w hs => ⟨[_, .int .i64 2], ⟨⟨_, rfl, run_load_agg Tryd.isAgg26 Tryd.sizeOf26 rfl (cBs 1 rfl w hs)⟩, ⟨rfl, trivial⟩⟩, ⟨(none, 0, 0, (fun _ => (none, 0)), [], 2), rfl, by rw [Math.betAt_2 (by omega)]; exact ⟨rfl, rfl⟩, hs.pick [0]⟩⟩
    ·
     replace c4 : ¬ (100 < (an + (bt * (ra + 1)))) := c4
     refine hSkip ?_
     refine qSeq rfl ?_
     refine hSeq ?_
     refine hReg (sq 0 (sq 1 (sq 2 (sq 3 (sl 4 (sq 5 (sl 6 (sq 7 sz)))))))) (by kernel_rfl) ?_
     refine mvI rfl rfl rfl ?_
     refine mvI rfl rfl rfl ?_
     refine mvI rfl rfl rfl ?_
     refine mvI rfl rfl rfl ?_
     refine rPieces (fun _ h => Sep.nilR ndK 52 2 (fun _ => (none, 0)) h) ?_
     refine callM (α := Option Addr × Nat × Nat × (Nat → Hd)) (Lf := [OwnR ndK 52 2 none 0 0 ((fun _ => (none, 0))) []]) (Lr := [blk bka1 26 [.slice none 0 0]]) (φs := fun x => [OwnR ndK 52 2 x.1 x.2.1 x.2.2.1 x.2.2.2 ([] ++ Math.growF 5 (0 : Int) an an bt ra false 0)]) (val := fun x => .slice x.1 x.2.1 x.2.2.1) rfl Tryd.call46 trv1 rfl rfl (fun w M0 hs => spec_l20Grow_c_r 5 none 0 0 ((fun _ => (none, 0))) [] (0 : Int) an an bt ra false w M0 hs (by omega) (by omega) (by omega) (by omega) (by omega) (by decide)) ?_
     rintro ⟨ag1, ng1, cg1, Hg1⟩ -
     refine rPieces (L' := [OwnR ndK 52 2 ag1 ng1 cg1 Hg1 (([] ++ Math.growF 5 (0 : Int) an an bt ra false 0)), blk bka1 26 [.slice none 0 0]]) (fun _ h => h) ?_
     refine rKnow (fun w hs => (show OwnR ndK 52 2 ag1 ng1 cg1 Hg1 (([] ++ Math.growF 5 (0 : Int) an an bt ra false 0)) w from hs.at_ 0 rfl).1) (fun leng1 => ?_)
     simp only [List.length_append, List.length_cons, List.length_nil] at leng1
     have hgl1 := Math.growF_len 5 (0 : Int) an an bt ra false 0
     refine bld rfl rfl rfl (bld26_0 (.slice _ _ _) rfl) ?_
     refine stAl (vs := [.slice ag1 ng1 cg1]) 1 rfl Tryd.sizeOf26 trv rfl rfl rfl rfl rfl (by simp [Value.oneCell']) rfl ?_
     refine asI rfl rfl rfl ?_
     refine rNil ?_
     refine qSeq rfl ?_
     refine hRet ?_
     exact fun w hs => ⟨[_, .int .i64 0], ⟨⟨_, rfl, run_load_agg Tryd.isAgg26 Tryd.sizeOf26 rfl (cBs 1 rfl w hs)⟩, ⟨rfl, trivial⟩⟩, ⟨(ag1, ng1, cg1, Hg1, ([] ++ Math.growF 5 (0 : Int) an an bt ra false 0), 0), rfl, by rw [Math.betAt_0 (by omega)]; exact ⟨rfl, rfl⟩, hs.pick [0]⟩⟩
end Go.Proofs.YtjengglpbdgmnaaDoor
