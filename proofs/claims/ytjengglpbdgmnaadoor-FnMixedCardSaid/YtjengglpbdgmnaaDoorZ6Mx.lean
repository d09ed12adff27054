/- Contracts of trees that are drawn. Their conditions stand in each. -/
import Derived.Test.YtjengglpbdgmnaaDoorZ5Mx
import Derived.Test.YtjengglpbdgmnaaDoorZ1Mx
import Derived.Test.YtjengglpbdgmnaaDoorZ2Mx
import Derived.Test.YtjengglpbdgmnaaDoorZ3Mx
import Derived.Test.YtjengglpbdgmnaaDoorZ4Mx
import Derived.Test.YtjengglpbdgmnaaDoorRows
namespace Go.Proofs.YtjengglpbdgmnaaDoor
open Go Go.RowKit V
set_option linter.unusedVariables false
set_option linter.unusedSimpArgs false
set_option maxRecDepth 100000
theorem bsl24_0   : ∀ w, (Instr.buildSlice 24 0 ([] : List (Nat × Value)).toArray).run Tryd.prog w = .ok (.slice (some ⟨w.heap.size, 0, none⟩) 0 0) (w.alloc (.cells ([] : List Value).toArray 52)) := by
 intro w; simp [Instr.buildSlice, Instr.fill, Tryd.zeroValue52, Tryd.runUnderlying24, Tryd.sizeOf52, aggCells, newRow, show Array.range 0 = #[] from by decide]
theorem bsl50_2 (v0 v1 : Value) (h0 : v0.cells = #[v0]) (h1 : v1.cells = #[v1]) : ∀ w, (Instr.buildSlice 50 2 ([(0, v0), (1, v1)] : List (Nat × Value)).toArray).run Tryd.prog w = .ok (.slice (some ⟨w.heap.size, 0, none⟩) 2 2) (w.alloc (.cells ([v0, v1] : List Value).toArray 2)) := by
 intro w; simp [Instr.buildSlice, Instr.fill, Tryd.zeroValue2, Tryd.runUnderlying50, Tryd.sizeOf2, Value.cells_int, newRow, show Array.range 2 = #[0, 1] from by decide, h0, h1]
theorem bsl50_4 (v0 v1 v2 v3 : Value) (h0 : v0.cells = #[v0]) (h1 : v1.cells = #[v1]) (h2 : v2.cells = #[v2]) (h3 : v3.cells = #[v3]) : ∀ w, (Instr.buildSlice 50 4 ([(0, v0), (1, v1), (2, v2), (3, v3)] : List (Nat × Value)).toArray).run Tryd.prog w = .ok (.slice (some ⟨w.heap.size, 0, none⟩) 4 4) (w.alloc (.cells ([v0, v1, v2, v3] : List Value).toArray 2)) := by
 intro w; simp [Instr.buildSlice, Instr.fill, Tryd.zeroValue2, Tryd.runUnderlying50, Tryd.sizeOf2, Value.cells_int, newRow, show Array.range 4 = #[0, 1, 2, 3] from by decide, h0, h1, h2, h3]
theorem bsl50_5 (v0 v1 v2 v3 v4 : Value) (h0 : v0.cells = #[v0]) (h1 : v1.cells = #[v1]) (h2 : v2.cells = #[v2]) (h3 : v3.cells = #[v3]) (h4 : v4.cells = #[v4]) : ∀ w, (Instr.buildSlice 50 5 ([(0, v0), (1, v1), (2, v2), (3, v3), (4, v4)] : List (Nat × Value)).toArray).run Tryd.prog w = .ok (.slice (some ⟨w.heap.size, 0, none⟩) 5 5) (w.alloc (.cells ([v0, v1, v2, v3, v4] : List Value).toArray 2)) := by
 intro w; simp [Instr.buildSlice, Instr.fill, Tryd.zeroValue2, Tryd.runUnderlying50, Tryd.sizeOf2, Value.cells_int, newRow, show Array.range 5 = #[0, 1, 2, 3, 4] from by decide, h0, h1, h2, h3, h4]
set_option maxHeartbeats 4000000 in
theorem spec_l20Random_c_r (kk_ : Nat) : ∀ (bk : Nat) (ca : Option Addr) (bs : List Int) (cc : Nat) (az : Option Addr) (nz : Nat) (cz : Nat) (Hz : Nat → Hd) (z : List Nd) (dp : Int) (w : World) (M0 : Nat → Prop), dp.toNat = kk_ → Sep w M0 [srcP bk ca bs cc, OwnR ndK 52 2 az nz cz Hz z] w → Kn w M0 [] (CellsAt ca (bs.map (Value.int .u8))) → okBytes bs → (0 ≤ dp ∧ dp ≤ 3) → (nz + Math.p4 dp.toNat ≤ 500) → (Math.kidsB z) → Calls Tryd.prog 77 #[.pointer (some ⟨bk, 0, none⟩), .slice az nz cz, .int .i64 dp] w (Ret fun v w' => ∃ x : Option Addr × Nat × Nat × (Nat → Hd) × List Nd, v = .slice x.1 x.2.1 x.2.2.1 ∧ ((nz < x.2.1 ∧ x.2.1 ≤ nz + Math.p4 dp.toNat) ∧ Math.kidsB x.2.2.2.2) ∧ Sep w M0 [srcP bk ca bs cc, OwnR ndK 52 2 x.1 x.2.1 x.2.2.1 x.2.2.2.1 x.2.2.2.2] w') := by
 induction kk_ using Nat.strongRecOn with
 | _ kk_ ih =>
  intro bk ca bs cc az nz cz Hz z dp w M0 hK hs0 kcode hok hdp hn hkz
  have lzz := (show OwnR ndK 52 2 az nz cz Hz z w from hs0.at_ 1 rfl)
  have mmz := Own.max lzz.2.1
  have lz : z.length = nz := lzz.1
  clear lzz
  have hp0 := Math.p4_pos dp.toNat
  refine fn (M := M0) (rs := [.tmp 6]) Tryd.func77 rfl Tryd.ntmps77 rfl rfl hs0 ?_
  refine hSeq ?_
  refine hReg (sq 0 sz) (by kernel_rfl) ?_
  refine asS rfl rfl rfl ?_
  refine rNil ?_
  refine qSeq rfl ?_
  refine hSeq ?_
  refine hReg (sq 0 (sq 1 (sq 2 sz))) (by kernel_rfl) ?_
  refine mvS rfl rfl rfl ?_
  refine lenS Tryd.runUnderlying24 rfl rfl rfl ?_
  refine asI rfl rfl rfl ?_
  refine rNil ?_
  refine qSeq rfl ?_
  refine hSeq ?_
  refine hReg (sq 0 (sl 1 (sq 2 sz))) (by kernel_rfl) ?_
  refine mvP rfl rfl rfl ?_
  refine callMK (α := Int) (Lf := [srcP bk ca bs cc]) (Lr := [OwnR ndK 52 2 az nz cz Hz z]) (good := fun x => 0 ≤ x ∧ (x < (6 : Int) ∨ x = 0)) (φs := fun x => [srcP bk ca bs cc]) (val := fun x => .int .i64 x) rfl Tryd.call24 trv1 rfl rfl (fun w M1 hs hk => src_next bk ca bs cc (6 : Int) w M1 hs (hk _ kcode) hok) ?_
  intro x1 hx1
  try dsimp only at hx1
  refine rPieces (L' := [srcP bk ca bs cc, OwnR ndK 52 2 az nz cz Hz z]) (fun _ h => h) ?_
  refine asI rfl rfl rfl ?_
  refine rNil ?_
  refine qSeq rfl ?_
  refine hSeq ?_
  refine hSeq ?_
  refine hReg (sq 0 (sq 1 (sq 2 (sq 3 (sq 4 (sq 5 (sq 6 (sq 7 (sq 8 (sq 9 (sq 10 (sq 11 (sq 12 (sl 13 (sq 14 (sq 15 (sq 16 sz))))))))))))))))) (by kernel_rfl) ?_
  refine mvI rfl rfl rfl ?_
  refine eql rfl rfl rfl rfl ?_
  refine mvB rfl rfl rfl ?_
  refine rBoolD (d := 18) rfl (fun g1 => ?_) (fun g1 => ?_)
  ·
   replace g1 : dp = 0 := g1
   refine rSkipQ rfl rfl ?_
   refine rSkipQ rfl rfl ?_
   refine rSkipQ rfl rfl ?_
   refine pickB rfl rfl rfl rfl ?_
   refine mvB rfl rfl rfl ?_
   refine rSkipQ rfl rfl ?_
   refine rSkipQ rfl rfl ?_
   refine rSkipQ rfl rfl ?_
   refine rSkipQ rfl rfl ?_
   refine rSkipQ rfl rfl ?_
   refine rSkipL trv rfl rfl ?_
   refine rSkipQ rfl rfl ?_
   refine rSkipQ rfl rfl ?_
   refine pickB rfl rfl rfl rfl ?_
   refine rNil ?_
   refine qSeq rfl ?_
   refine hIfT rfl ?_
   refine hSeq ?_
   refine hReg (sq 0 (sq 1 (sq 2 (sl 3 (sq 4 (sq 5 (sl 6 (sl 7 sz)))))))) (by kernel_rfl) ?_
   refine mvI rfl rfl rfl ?_
   refine mvI rfl rfl rfl ?_
   refine mvP rfl rfl rfl ?_
   refine callMK (α := Int) (Lf := [srcP bk ca bs cc]) (Lr := [OwnR ndK 52 2 az nz cz Hz z]) (good := fun x => 0 ≤ x ∧ (x < (3 : Int) ∨ x = 0)) (φs := fun x => [srcP bk ca bs cc]) (val := fun x => .int .i64 x) rfl Tryd.call24 trv1 rfl rfl (fun w M1 hs hk => src_next bk ca bs cc (3 : Int) w M1 hs (hk _ kcode) hok) ?_
   intro x2 hx2
   try dsimp only at hx2
   refine rPieces (L' := [srcP bk ca bs cc, OwnR ndK 52 2 az nz cz Hz z]) (fun _ h => h) ?_
   refine sub rfl rfl rfl rfl (by omega) ?_
   refine bld rfl rfl rfl (bld52_0_1_2_3 (.int .i64 _) (.int .i64 _) (.int .i64 _) (.int .i64 _) rfl rfl rfl rfl) ?_
   refine alc Tryd.zeroValue52 rfl trv1 rfl rfl (fun bka1 hbka1 => ?_)
   refine stAl (vs := [.int .i64 2, .int .i64 x1, .int .i64 x1, .int .i64 (x2 - 1), .slice none 0 0]) 0 rfl Tryd.sizeOf52 trv rfl rfl rfl rfl rfl (by simp [Value.oneCell']) rfl ?_
   refine rNil ?_
   refine qSeq rfl ?_
   refine hSeq ?_
   refine hSeq ?_
   refine hReg (sq 0 (sl 1 (sq 2 sz))) (by kernel_rfl) ?_
   refine fld fl52_3 rfl rfl rfl ?_
   refine ldl Tryd.isAgg2 (cB 0 rfl rfl) trv rfl rfl rfl ?_
   refine geq rfl rfl rfl rfl ?_
   refine rNil ?_
   refine qSeq rfl ?_
   refine hIfD rfl (fun c2 => ?_) (fun c2 => ?_)
   ·
    replace c2 : 0 ≤ (x2 - 1) := c2
    refine hReg (sq 0 (sl 1 (sq 2 (sl 3 sz)))) (by kernel_rfl) ?_
    refine mvP rfl rfl rfl ?_
    refine rPieces (L' := [srcP bk ca bs cc, blk bka1 52 [.int .i64 2, .int .i64 x1, .int .i64 x1, .int .i64 (x2 - 1), .slice none 0 0], OwnR ndK 52 2 az nz cz Hz z]) (fun _ h => h.perm (pull (i := 1) rfl)) ?_
    refine callMK (α := Int) (Lf := [srcP bk ca bs cc]) (Lr := [blk bka1 52 [.int .i64 2, .int .i64 x1, .int .i64 x1, .int .i64 (x2 - 1), .slice none 0 0], OwnR ndK 52 2 az nz cz Hz z]) (good := fun x => 0 ≤ x ∧ (x < (6 : Int) ∨ x = 0)) (φs := fun x => [srcP bk ca bs cc]) (val := fun x => .int .i64 x) rfl Tryd.call24 trv1 rfl rfl (fun w M1 hs hk => src_next bk ca bs cc (6 : Int) w M1 hs (hk _ kcode) hok) ?_
    intro x3 hx3
    try dsimp only at hx3
    refine rPieces (L' := [srcP bk ca bs cc, blk bka1 52 [.int .i64 2, .int .i64 x1, .int .i64 x1, .int .i64 (x2 - 1), .slice none 0 0], OwnR ndK 52 2 az nz cz Hz z]) (fun _ h => h) ?_
    refine fld fl52_2 rfl rfl rfl ?_
    refine stl (v := .int .i64 _) 1 rfl Tryd.sizeOf2 trv rfl rfl rfl rfl rfl (Nat.le_of_ble_eq_true rfl) ?_
    refine rNil ?_
    refine qSeq rfl ?_
    refine hSeq ?_
    refine hReg (sq 0 (sl 1 (sl 2 (sl 3 (sq 4 sz))))) (by kernel_rfl) ?_
    refine mvS rfl rfl rfl ?_
    refine ldAl Tryd.isAgg52 Tryd.sizeOf52 (cBs 1 rfl) trv rfl rfl rfl rfl ?_
    refine bsl trv1 rfl rfl rfl (bsl24_1 (.int .i64 2) (.int .i64 x1) (.int .i64 x3) (.int .i64 (x2 - 1)) (.slice none 0 0) rfl rfl rfl rfl rfl) (fun bkl2 hbkl2 => ?_)
    refine rPieces (fun _ h => Sep.nilI 2 h) ?_
    refine apR (hd := (none, 0)) (x := (Nd.mk 2 x1 x3 (x2 - 1) [])) 4 0 1 ndK.ok rfl rfl rfl (fun h => by first | rfl | (dsimp only at h; rw [h]; rfl) | (rw [h]; rfl) | exact congrArg (fun m => [Value.slice _ m _]) h) mk24 trv1 rfl rfl rfl rfl (by omega) ?_
    intro aq4 cq4
    refine asS rfl rfl rfl ?_
    refine rNil ?_
    refine qSeq rfl ?_
    refine hRet ?_
    exact fun w hs => ⟨[.slice aq4 (nz + 1) cq4], ⟨rfl, trivial⟩, ⟨(aq4, (nz + 1), cq4, (hset Hz z.length (none, 0)), (z ++ [(Nd.mk 2 x1 x3 (x2 - 1) [])])), rfl, ⟨⟨by dsimp only; omega, by dsimp only; omega⟩, by first | exact Math.kidsB_app hkz (Nat.zero_le _) | exact Math.kidsB_set hky (by dsimp only; omega)⟩, hs.pick [2, 0]⟩⟩
   ·
    replace c2 : ¬ (0 ≤ (x2 - 1)) := c2
    refine hSkip ?_
    refine qSeq rfl ?_
    refine hSeq ?_
    refine hReg (sq 0 (sl 1 (sl 2 (sl 3 (sq 4 sz))))) (by kernel_rfl) ?_
    refine mvS rfl rfl rfl ?_
    refine ldAl Tryd.isAgg52 Tryd.sizeOf52 (cBs 0 rfl) trv rfl rfl rfl rfl ?_
    refine bsl trv1 rfl rfl rfl (bsl24_1 (.int .i64 2) (.int .i64 x1) (.int .i64 x1) (.int .i64 (x2 - 1)) (.slice none 0 0) rfl rfl rfl rfl rfl) (fun bkl4 hbkl4 => ?_)
    refine rPieces (fun _ h => Sep.nilI 2 h) ?_
    refine apR (hd := (none, 0)) (x := (Nd.mk 2 x1 x1 (x2 - 1) [])) 4 0 1 ndK.ok rfl rfl rfl (fun h => by first | rfl | (dsimp only at h; rw [h]; rfl) | (rw [h]; rfl) | exact congrArg (fun m => [Value.slice _ m _]) h) mk24 trv1 rfl rfl rfl rfl (by omega) ?_
    intro aq5 cq5
    refine asS rfl rfl rfl ?_
    refine rNil ?_
    refine qSeq rfl ?_
    refine hRet ?_
    exact fun w hs => ⟨[.slice aq5 (nz + 1) cq5], ⟨rfl, trivial⟩, ⟨(aq5, (nz + 1), cq5, (hset Hz z.length (none, 0)), (z ++ [(Nd.mk 2 x1 x1 (x2 - 1) [])])), rfl, ⟨⟨by dsimp only; omega, by dsimp only; omega⟩, by first | exact Math.kidsB_app hkz (Nat.zero_le _) | exact Math.kidsB_set hky (by dsimp only; omega)⟩, hs.pick [3, 0]⟩⟩
  ·
   replace g1 : ¬ (dp = 0) := g1
   have hp4 := Math.p4_s (d := dp) (by omega)
   have hpp := Math.p4_pos (dp - 1).toNat
   refine mvS rfl rfl rfl ?_
   refine lenS Tryd.runUnderlying24 rfl rfl rfl ?_
   refine gtr rfl rfl rfl rfl ?_
   refine pickB rfl rfl rfl rfl ?_
   refine mvB rfl rfl rfl ?_
   refine rBoolD (d := 23) rfl (fun g3 => ?_) (fun g3 => ?_)
   ·
    replace g3 : 30 < (nz : Int) := g3
    refine rSkipQ rfl rfl ?_
    refine rSkipQ rfl rfl ?_
    refine rSkipQ rfl rfl ?_
    refine rSkipQ rfl rfl ?_
    refine rSkipQ rfl rfl ?_
    refine rSkipL trv rfl rfl ?_
    refine rSkipQ rfl rfl ?_
    refine rSkipQ rfl rfl ?_
    refine pickB rfl rfl rfl rfl ?_
    refine rNil ?_
    refine qSeq rfl ?_
    refine hIfT rfl ?_
    refine hSeq ?_
    refine hReg (sq 0 (sq 1 (sq 2 (sl 3 (sq 4 (sq 5 (sl 6 (sl 7 sz)))))))) (by kernel_rfl) ?_
    refine mvI rfl rfl rfl ?_
    refine mvI rfl rfl rfl ?_
    refine mvP rfl rfl rfl ?_
    refine callMK (α := Int) (Lf := [srcP bk ca bs cc]) (Lr := [OwnR ndK 52 2 az nz cz Hz z]) (good := fun x => 0 ≤ x ∧ (x < (3 : Int) ∨ x = 0)) (φs := fun x => [srcP bk ca bs cc]) (val := fun x => .int .i64 x) rfl Tryd.call24 trv1 rfl rfl (fun w M1 hs hk => src_next bk ca bs cc (3 : Int) w M1 hs (hk _ kcode) hok) ?_
    intro x6 hx6
    try dsimp only at hx6
    refine rPieces (L' := [srcP bk ca bs cc, OwnR ndK 52 2 az nz cz Hz z]) (fun _ h => h) ?_
    refine sub rfl rfl rfl rfl (by omega) ?_
    refine bld rfl rfl rfl (bld52_0_1_2_3 (.int .i64 _) (.int .i64 _) (.int .i64 _) (.int .i64 _) rfl rfl rfl rfl) ?_
    refine alc Tryd.zeroValue52 rfl trv1 rfl rfl (fun bka6 hbka6 => ?_)
    refine stAl (vs := [.int .i64 2, .int .i64 x1, .int .i64 x1, .int .i64 (x6 - 1), .slice none 0 0]) 0 rfl Tryd.sizeOf52 trv rfl rfl rfl rfl rfl (by simp [Value.oneCell']) rfl ?_
    refine rNil ?_
    refine qSeq rfl ?_
    refine hSeq ?_
    refine hSeq ?_
    refine hReg (sq 0 (sl 1 (sq 2 sz))) (by kernel_rfl) ?_
    refine fld fl52_3 rfl rfl rfl ?_
    refine ldl Tryd.isAgg2 (cB 0 rfl rfl) trv rfl rfl rfl ?_
    refine geq rfl rfl rfl rfl ?_
    refine rNil ?_
    refine qSeq rfl ?_
    refine hIfD rfl (fun c4 => ?_) (fun c4 => ?_)
    ·
     replace c4 : 0 ≤ (x6 - 1) := c4
     refine hReg (sq 0 (sl 1 (sq 2 (sl 3 sz)))) (by kernel_rfl) ?_
     refine mvP rfl rfl rfl ?_
     refine rPieces (L' := [srcP bk ca bs cc, blk bka6 52 [.int .i64 2, .int .i64 x1, .int .i64 x1, .int .i64 (x6 - 1), .slice none 0 0], OwnR ndK 52 2 az nz cz Hz z]) (fun _ h => h.perm (pull (i := 1) rfl)) ?_
     refine callMK (α := Int) (Lf := [srcP bk ca bs cc]) (Lr := [blk bka6 52 [.int .i64 2, .int .i64 x1, .int .i64 x1, .int .i64 (x6 - 1), .slice none 0 0], OwnR ndK 52 2 az nz cz Hz z]) (good := fun x => 0 ≤ x ∧ (x < (6 : Int) ∨ x = 0)) (φs := fun x => [srcP bk ca bs cc]) (val := fun x => .int .i64 x) rfl Tryd.call24 trv1 rfl rfl (fun w M1 hs hk => src_next bk ca bs cc (6 : Int) w M1 hs (hk _ kcode) hok) ?_
     intro x7 hx7
     try dsimp only at hx7
     refine rPieces (L' := [srcP bk ca bs cc, blk bka6 52 [.int .i64 2, .int .i64 x1, .int .i64 x1, .int .i64 (x6 - 1), .slice none 0 0], OwnR ndK 52 2 az nz cz Hz z]) (fun _ h => h) ?_
     refine fld fl52_2 rfl rfl rfl ?_
     refine stl (v := .int .i64 _) 1 rfl Tryd.sizeOf2 trv rfl rfl rfl rfl rfl (Nat.le_of_ble_eq_true rfl) ?_
     refine rNil ?_
     refine qSeq rfl ?_
     refine hSeq ?_
     refine hReg (sq 0 (sl 1 (sl 2 (sl 3 (sq 4 sz))))) (by kernel_rfl) ?_
     refine mvS rfl rfl rfl ?_
     refine ldAl Tryd.isAgg52 Tryd.sizeOf52 (cBs 1 rfl) trv rfl rfl rfl rfl ?_
     refine bsl trv1 rfl rfl rfl (bsl24_1 (.int .i64 2) (.int .i64 x1) (.int .i64 x7) (.int .i64 (x6 - 1)) (.slice none 0 0) rfl rfl rfl rfl rfl) (fun bkl7 hbkl7 => ?_)
     refine rPieces (fun _ h => Sep.nilI 2 h) ?_
     refine apR (hd := (none, 0)) (x := (Nd.mk 2 x1 x7 (x6 - 1) [])) 4 0 1 ndK.ok rfl rfl rfl (fun h => by first | rfl | (dsimp only at h; rw [h]; rfl) | (rw [h]; rfl) | exact congrArg (fun m => [Value.slice _ m _]) h) mk24 trv1 rfl rfl rfl rfl (by omega) ?_
     intro aq8 cq8
     refine asS rfl rfl rfl ?_
     refine rNil ?_
     refine qSeq rfl ?_
     refine hRet ?_
     exact fun w hs => ⟨[.slice aq8 (nz + 1) cq8], ⟨rfl, trivial⟩, ⟨(aq8, (nz + 1), cq8, (hset Hz z.length (none, 0)), (z ++ [(Nd.mk 2 x1 x7 (x6 - 1) [])])), rfl, ⟨⟨by dsimp only; omega, by dsimp only; omega⟩, by first | exact Math.kidsB_app hkz (Nat.zero_le _) | exact Math.kidsB_set hky (by dsimp only; omega)⟩, hs.pick [2, 0]⟩⟩
    ·
     replace c4 : ¬ (0 ≤ (x6 - 1)) := c4
     refine hSkip ?_
     refine qSeq rfl ?_
     refine hSeq ?_
     refine hReg (sq 0 (sl 1 (sl 2 (sl 3 (sq 4 sz))))) (by kernel_rfl) ?_
     refine mvS rfl rfl rfl ?_
     refine ldAl Tryd.isAgg52 Tryd.sizeOf52 (cBs 0 rfl) trv rfl rfl rfl rfl ?_
     refine bsl trv1 rfl rfl rfl (bsl24_1 (.int .i64 2) (.int .i64 x1) (.int .i64 x1) (.int .i64 (x6 - 1)) (.slice none 0 0) rfl rfl rfl rfl rfl) (fun bkl9 hbkl9 => ?_)
     refine rPieces (fun _ h => Sep.nilI 2 h) ?_
     refine apR (hd := (none, 0)) (x := (Nd.mk 2 x1 x1 (x6 - 1) [])) 4 0 1 ndK.ok rfl rfl rfl (fun h => by first | rfl | (dsimp only at h; rw [h]; rfl) | (rw [h]; rfl) | exact congrArg (fun m => [Value.slice _ m _]) h) mk24 trv1 rfl rfl rfl rfl (by omega) ?_
     intro aq9 cq9
     refine asS rfl rfl rfl ?_
     refine rNil ?_
     refine qSeq rfl ?_
     refine hRet ?_
     exact fun w hs => ⟨[.slice aq9 (nz + 1) cq9], ⟨rfl, trivial⟩, ⟨(aq9, (nz + 1), cq9, (hset Hz z.length (none, 0)), (z ++ [(Nd.mk 2 x1 x1 (x6 - 1) [])])), rfl, ⟨⟨by dsimp only; omega, by dsimp only; omega⟩, by first | exact Math.kidsB_app hkz (Nat.zero_le _) | exact Math.kidsB_set hky (by dsimp only; omega)⟩, hs.pick [3, 0]⟩⟩
   ·
    replace g3 : ¬ (30 < (nz : Int)) := g3
    refine mvS rfl rfl rfl ?_
    refine lenS Tryd.runUnderlying24 rfl rfl rfl ?_
    refine gtr rfl rfl rfl rfl ?_
    refine mvB rfl rfl rfl ?_
    refine rBoolD (d := 27) rfl (fun g5 => ?_) (fun g5 => ?_)
    ·
     replace g5 : 0 < (nz : Int) := g5
     refine mvP rfl rfl rfl ?_
     refine callMK (α := Int) (Lf := [srcP bk ca bs cc]) (Lr := [OwnR ndK 52 2 az nz cz Hz z]) (good := fun x => 0 ≤ x ∧ (x < (3 : Int) ∨ x = 0)) (φs := fun x => [srcP bk ca bs cc]) (val := fun x => .int .i64 x) rfl Tryd.call24 trv1 rfl rfl (fun w M1 hs hk => src_next bk ca bs cc (3 : Int) w M1 hs (hk _ kcode) hok) ?_
     intro x10 hx10
     try dsimp only at hx10
     refine rPieces (L' := [srcP bk ca bs cc, OwnR ndK 52 2 az nz cz Hz z]) (fun _ h => h) ?_
     refine eql rfl rfl rfl rfl ?_
     refine pickB rfl rfl rfl rfl ?_
     refine pickB rfl rfl rfl rfl ?_
     refine rNil ?_
     refine qSeq rfl ?_
     refine hIfD rfl (fun c6 => ?_) (fun c6 => ?_)
     ·
      replace c6 : x10 = 0 := c6
      refine hSeq ?_
      refine hReg (sq 0 (sq 1 (sq 2 (sl 3 (sq 4 (sq 5 (sl 6 (sl 7 sz)))))))) (by kernel_rfl) ?_
      refine mvI rfl rfl rfl ?_
      refine mvI rfl rfl rfl ?_
      refine mvP rfl rfl rfl ?_
      refine callMK (α := Int) (Lf := [srcP bk ca bs cc]) (Lr := [OwnR ndK 52 2 az nz cz Hz z]) (good := fun x => 0 ≤ x ∧ (x < (3 : Int) ∨ x = 0)) (φs := fun x => [srcP bk ca bs cc]) (val := fun x => .int .i64 x) rfl Tryd.call24 trv1 rfl rfl (fun w M1 hs hk => src_next bk ca bs cc (3 : Int) w M1 hs (hk _ kcode) hok) ?_
      intro x11 hx11
      try dsimp only at hx11
      refine rPieces (L' := [srcP bk ca bs cc, OwnR ndK 52 2 az nz cz Hz z]) (fun _ h => h) ?_
      refine sub rfl rfl rfl rfl (by omega) ?_
      refine bld rfl rfl rfl (bld52_0_1_2_3 (.int .i64 _) (.int .i64 _) (.int .i64 _) (.int .i64 _) rfl rfl rfl rfl) ?_
      refine alc Tryd.zeroValue52 rfl trv1 rfl rfl (fun bka11 hbka11 => ?_)
      refine stAl (vs := [.int .i64 2, .int .i64 x1, .int .i64 x1, .int .i64 (x11 - 1), .slice none 0 0]) 0 rfl Tryd.sizeOf52 trv rfl rfl rfl rfl rfl (by simp [Value.oneCell']) rfl ?_
      refine rNil ?_
      refine qSeq rfl ?_
      refine hSeq ?_
      refine hSeq ?_
      refine hReg (sq 0 (sl 1 (sq 2 sz))) (by kernel_rfl) ?_
      refine fld fl52_3 rfl rfl rfl ?_
      refine ldl Tryd.isAgg2 (cB 0 rfl rfl) trv rfl rfl rfl ?_
      refine geq rfl rfl rfl rfl ?_
      refine rNil ?_
      refine qSeq rfl ?_
      refine hIfD rfl (fun c7 => ?_) (fun c7 => ?_)
      ·
       replace c7 : 0 ≤ (x11 - 1) := c7
       refine hReg (sq 0 (sl 1 (sq 2 (sl 3 sz)))) (by kernel_rfl) ?_
       refine mvP rfl rfl rfl ?_
       refine rPieces (L' := [srcP bk ca bs cc, blk bka11 52 [.int .i64 2, .int .i64 x1, .int .i64 x1, .int .i64 (x11 - 1), .slice none 0 0], OwnR ndK 52 2 az nz cz Hz z]) (fun _ h => h.perm (pull (i := 1) rfl)) ?_
       refine callMK (α := Int) (Lf := [srcP bk ca bs cc]) (Lr := [blk bka11 52 [.int .i64 2, .int .i64 x1, .int .i64 x1, .int .i64 (x11 - 1), .slice none 0 0], OwnR ndK 52 2 az nz cz Hz z]) (good := fun x => 0 ≤ x ∧ (x < (6 : Int) ∨ x = 0)) (φs := fun x => [srcP bk ca bs cc]) (val := fun x => .int .i64 x) rfl Tryd.call24 trv1 rfl rfl (fun w M1 hs hk => src_next bk ca bs cc (6 : Int) w M1 hs (hk _ kcode) hok) ?_
       intro x12 hx12
       try dsimp only at hx12
       refine rPieces (L' := [srcP bk ca bs cc, blk bka11 52 [.int .i64 2, .int .i64 x1, .int .i64 x1, .int .i64 (x11 - 1), .slice none 0 0], OwnR ndK 52 2 az nz cz Hz z]) (fun _ h => h) ?_
       refine fld fl52_2 rfl rfl rfl ?_
       refine stl (v := .int .i64 _) 1 rfl Tryd.sizeOf2 trv rfl rfl rfl rfl rfl (Nat.le_of_ble_eq_true rfl) ?_
       refine rNil ?_
       refine qSeq rfl ?_
       refine hSeq ?_
       refine hReg (sq 0 (sl 1 (sl 2 (sl 3 (sq 4 sz))))) (by kernel_rfl) ?_
       refine mvS rfl rfl rfl ?_
       refine ldAl Tryd.isAgg52 Tryd.sizeOf52 (cBs 1 rfl) trv rfl rfl rfl rfl ?_
       refine bsl trv1 rfl rfl rfl (bsl24_1 (.int .i64 2) (.int .i64 x1) (.int .i64 x12) (.int .i64 (x11 - 1)) (.slice none 0 0) rfl rfl rfl rfl rfl) (fun bkl12 hbkl12 => ?_)
       refine rPieces (fun _ h => Sep.nilI 2 h) ?_
       refine apR (hd := (none, 0)) (x := (Nd.mk 2 x1 x12 (x11 - 1) [])) 4 0 1 ndK.ok rfl rfl rfl (fun h => by first | rfl | (dsimp only at h; rw [h]; rfl) | (rw [h]; rfl) | exact congrArg (fun m => [Value.slice _ m _]) h) mk24 trv1 rfl rfl rfl rfl (by omega) ?_
       intro aq13 cq13
       refine asS rfl rfl rfl ?_
       refine rNil ?_
       refine qSeq rfl ?_
       refine hRet ?_
       exact fun w hs => ⟨[.slice aq13 (nz + 1) cq13], ⟨rfl, trivial⟩, ⟨(aq13, (nz + 1), cq13, (hset Hz z.length (none, 0)), (z ++ [(Nd.mk 2 x1 x12 (x11 - 1) [])])), rfl, ⟨⟨by dsimp only; omega, by dsimp only; omega⟩, by first | exact Math.kidsB_app hkz (Nat.zero_le _) | exact Math.kidsB_set hky (by dsimp only; omega)⟩, hs.pick [2, 0]⟩⟩
      ·
       replace c7 : ¬ (0 ≤ (x11 - 1)) := c7
       refine hSkip ?_
       refine qSeq rfl ?_
       refine hSeq ?_
       refine hReg (sq 0 (sl 1 (sl 2 (sl 3 (sq 4 sz))))) (by kernel_rfl) ?_
       refine mvS rfl rfl rfl ?_
       refine ldAl Tryd.isAgg52 Tryd.sizeOf52 (cBs 0 rfl) trv rfl rfl rfl rfl ?_
       refine bsl trv1 rfl rfl rfl (bsl24_1 (.int .i64 2) (.int .i64 x1) (.int .i64 x1) (.int .i64 (x11 - 1)) (.slice none 0 0) rfl rfl rfl rfl rfl) (fun bkl14 hbkl14 => ?_)
       refine rPieces (fun _ h => Sep.nilI 2 h) ?_
       refine apR (hd := (none, 0)) (x := (Nd.mk 2 x1 x1 (x11 - 1) [])) 4 0 1 ndK.ok rfl rfl rfl (fun h => by first | rfl | (dsimp only at h; rw [h]; rfl) | (rw [h]; rfl) | exact congrArg (fun m => [Value.slice _ m _]) h) mk24 trv1 rfl rfl rfl rfl (by omega) ?_
       intro aq14 cq14
       refine asS rfl rfl rfl ?_
       refine rNil ?_
       refine qSeq rfl ?_
       refine hRet ?_
       exact fun w hs => ⟨[.slice aq14 (nz + 1) cq14], ⟨rfl, trivial⟩, ⟨(aq14, (nz + 1), cq14, (hset Hz z.length (none, 0)), (z ++ [(Nd.mk 2 x1 x1 (x11 - 1) [])])), rfl, ⟨⟨by dsimp only; omega, by dsimp only; omega⟩, by first | exact Math.kidsB_app hkz (Nat.zero_le _) | exact Math.kidsB_set hky (by dsimp only; omega)⟩, hs.pick [3, 0]⟩⟩
     ·
      replace c6 : ¬ (x10 = 0) := c6
      refine hSkip ?_
      refine qSeq rfl ?_
      refine hSeq ?_
      refine hReg (sq 0 (sq 1 (sl 2 (sq 3 (sq 4 (sq 5 (sl 6 (sl 7 (sq 8 sz))))))))) (by kernel_rfl) ?_
      refine mvS rfl rfl rfl ?_
      refine mvP rfl rfl rfl ?_
      refine callMK (α := Int) (Lf := [srcP bk ca bs cc]) (Lr := [OwnR ndK 52 2 az nz cz Hz z]) (good := fun x => 0 ≤ x ∧ (x < (2 : Int) ∨ x = 0)) (φs := fun x => [srcP bk ca bs cc]) (val := fun x => .int .i64 x) rfl Tryd.call24 trv1 rfl rfl (fun w M1 hs hk => src_next bk ca bs cc (2 : Int) w M1 hs (hk _ kcode) hok) ?_
      intro x15 hx15
      try dsimp only at hx15
      refine rPieces (L' := [srcP bk ca bs cc, OwnR ndK 52 2 az nz cz Hz z]) (fun _ h => h) ?_
      refine mvI rfl rfl rfl ?_
      refine mvI rfl rfl rfl ?_
      refine bld rfl rfl rfl (bld52_0_1_2_3 (.int .i64 _) (.int .i64 _) (.int .i64 _) (.int .i64 _) rfl rfl rfl rfl) ?_
      refine bsl trv1 rfl rfl rfl (bsl24_1 (.int .i64 x15) (.int .i64 x1) (.int .i64 x1) (.int .i64 (-1)) (.slice none 0 0) rfl rfl rfl rfl rfl) (fun bkl16 hbkl16 => ?_)
      refine rPieces (fun _ h => Sep.nilI 2 h) ?_
      refine apR (hd := (none, 0)) (x := (Nd.mk x15 x1 x1 (-1) [])) 3 0 1 ndK.ok rfl rfl rfl (fun h => by first | rfl | (dsimp only at h; rw [h]; rfl) | (rw [h]; rfl) | exact congrArg (fun m => [Value.slice _ m _]) h) mk24 trv1 rfl rfl rfl rfl (by omega) ?_
      intro aq16 cq16
      refine asS rfl rfl rfl ?_
      refine rNil ?_
      refine qSeq rfl ?_
      refine hSeq ?_
      refine hReg (sl 0 (sq 1 sz)) (by kernel_rfl) ?_
      refine bsl trv1 rfl rfl rfl (bsl50_0) (fun bkl18 hbkl18 => ?_)
      refine asS rfl rfl rfl ?_
      refine rNil ?_
      refine qSeq rfl ?_
      refine hSeq ?_
      refine hSeq ?_
      refine hReg (sq 0 (sl 1 (sq 2 (sq 3 sz)))) (by kernel_rfl) ?_
      refine mvP rfl rfl rfl ?_
      refine rPieces (L' := [srcP bk ca bs cc, blk bkl18 2 [], OwnR ndK 52 2 aq16 (nz + 1) cq16 ((hset Hz z.length (none, 0))) ((z ++ [(Nd.mk x15 x1 x1 (-1) [])])), blk bkl16 52 [.int .i64 x15, .int .i64 x1, .int .i64 x1, .int .i64 (-1), .slice none 0 0]]) (fun _ h => h.perm (pull (i := 3) rfl)) ?_
      refine callMK (α := Int) (Lf := [srcP bk ca bs cc]) (Lr := [blk bkl18 2 [], OwnR ndK 52 2 aq16 (nz + 1) cq16 ((hset Hz z.length (none, 0))) ((z ++ [(Nd.mk x15 x1 x1 (-1) [])])), blk bkl16 52 [.int .i64 x15, .int .i64 x1, .int .i64 x1, .int .i64 (-1), .slice none 0 0]]) (good := fun x => 0 ≤ x ∧ (x < (3 : Int) ∨ x = 0)) (φs := fun x => [srcP bk ca bs cc]) (val := fun x => .int .i64 x) rfl Tryd.call24 trv1 rfl rfl (fun w M1 hs hk => src_next bk ca bs cc (3 : Int) w M1 hs (hk _ kcode) hok) ?_
      intro x17 hx17
      try dsimp only at hx17
      refine rPieces (L' := [srcP bk ca bs cc, blk bkl18 2 [], OwnR ndK 52 2 aq16 (nz + 1) cq16 ((hset Hz z.length (none, 0))) ((z ++ [(Nd.mk x15 x1 x1 (-1) [])])), blk bkl16 52 [.int .i64 x15, .int .i64 x1, .int .i64 x1, .int .i64 (-1), .slice none 0 0]]) (fun _ h => h) ?_
      refine add rfl rfl rfl rfl (by omega) ?_
      refine asI rfl rfl rfl ?_
      refine rNil ?_
      refine qSeq rfl ?_
      refine hBlk ?_
      refine hPieces (fun _ h => Sep.litI h 1 [] rfl rfl rfl) ?_
      refine hLoop (α := Int × Nat × (Hd × (Nat → Hd)) × List Nd × Nat × Hd × List Int) (fun x => (0 ≤ x.1 ∧ x.1 ≤ 3) ∧ (nz < x.2.1 ∧ (x.2.2.2.2.1 : Int) + x.1 ≤ 3) ∧ (x.1 = 3 ∧ x.2.1 ≤ nz + 1 ∨ x.1 = 2 ∧ x.2.1 ≤ nz + 1 + Math.p4 (dp - 1).toNat ∨ x.1 = 1 ∧ x.2.1 ≤ nz + 1 + Math.p4 (dp - 1).toNat + Math.p4 (dp - 1).toNat ∨ x.1 = 0 ∧ x.2.1 ≤ nz + 1 + Math.p4 (dp - 1).toNat + Math.p4 (dp - 1).toNat + Math.p4 (dp - 1).toNat) ∧ Math.kidsB x.2.2.2.1) (fun x => x.1.toNat) (fun x => [srcP bk ca bs cc, OwnI 2 x.2.2.2.2.2.1.1 x.2.2.2.2.1 x.2.2.2.2.2.1.2 x.2.2.2.2.2.2, OwnR ndK 52 2 x.2.2.1.1.1 x.2.1 x.2.2.1.1.2 x.2.2.1.2 x.2.2.2.1, blk bkl16 52 [.int .i64 x15, .int .i64 x1, .int .i64 x1, .int .i64 (-1), .slice none 0 0]]) (fun x => [(0, .pointer (some ⟨bk, 0, none⟩)), (1, .slice x.2.2.1.1.1 x.2.1 x.2.2.1.1.2), (2, .int .i64 dp), (7, .int .i64 (nz : Int)), (10, .slice x.2.2.2.2.2.1.1 x.2.2.2.2.1 x.2.2.2.2.2.1.2), (11, .int .i64 x.1)]) (((1 + x17), (nz + 1), ((aq16, cq16), (hset Hz z.length (none, 0))), (z ++ [(Nd.mk x15 x1 x1 (-1) [])]), 0, ((some ⟨bkl18, 0, none⟩), 0), [])) ⟨by dsimp only; omega, by dsimp only; omega, by dsimp only; omega, Math.kidsB_app hkz (Nat.zero_le _)⟩ (fun _ h => h.pick [0, 0, 0, 0]) ⟨rfl, rfl, rfl, rfl, rfl, rfl, trivial⟩ ?_
      rintro ⟨m, nn, hd, y, q, he, ch⟩ τ1 ⟨hm, hnq, hdj, hky⟩
      dsimp only at hm hnq hdj hky
      refine hRe [(0, .pointer (some ⟨bk, 0, none⟩)), (1, .slice hd.1.1 nn hd.1.2), (2, .int .i64 dp), (7, .int .i64 (nz : Int)), (10, .slice he.1 q he.2), (11, .int .i64 m)] [srcP bk ca bs cc, OwnI 2 he.1 q he.2 ch, OwnR ndK 52 2 hd.1.1 nn hd.1.2 hd.2 y, blk bkl16 52 [.int .i64 x15, .int .i64 x1, .int .i64 x1, .int .i64 (-1), .slice none 0 0]] rfl rfl ?_
      refine hSeq ?_
      refine hSeq ?_
      refine hReg (sq 0 (sq 1 sz)) (by kernel_rfl) ?_
      refine mvI rfl rfl rfl ?_
      refine gtr rfl rfl rfl rfl ?_
      refine rNil ?_
      refine qSeq rfl ?_
      refine hIfD rfl (fun c8 => ?_) (fun c8 => ?_)
      ·
       replace c8 : 0 < m := c8
       refine hSkip ?_
       refine qSeq rfl ?_
       refine hSeq ?_
       refine hBlk ?_
       refine hSeq ?_
       refine hReg (sq 0 (sq 1 (sq 2 (sl 3 (sl 4 (sq 5 sz)))))) (by kernel_rfl) ?_
       refine mvS rfl rfl rfl ?_
       refine mvS rfl rfl rfl ?_
       refine lenS Tryd.runUnderlying24 rfl rfl rfl ?_
       refine bsl trv1 rfl rfl rfl (bsl50_1 (.int .i64 _) rfl) (fun bkl19 hbkl19 => ?_)
       refine aplI (N := q) (x := (nn : Int)) 2 0 rfl rfl mk50 trv1 rfl rfl rfl rfl (by omega) ?_
       intro aq18 cq18
       refine asS rfl rfl rfl ?_
       refine rNil ?_
       refine qSeq rfl ?_
       refine hReg (sq 0 (sq 1 (sq 2 (sq 3 (sl 4 (sq 5 sz)))))) (by kernel_rfl) ?_
       refine mvP rfl rfl rfl ?_
       refine mvS rfl rfl rfl ?_
       refine mvI rfl rfl rfl ?_
       refine sub rfl rfl rfl rfl (by omega) ?_
       refine rPieces (L' := [OwnR ndK 52 2 hd.1.1 nn hd.1.2 hd.2 y, blk bkl19 2 [.int .i64 (nn : Int)], srcP bk ca bs cc, OwnI 2 aq18 (q + 1) cq18 ((ch ++ [(nn : Int)])), blk bkl16 52 [.int .i64 x15, .int .i64 x1, .int .i64 x1, .int .i64 (-1), .slice none 0 0]]) (fun _ h => h.perm (pull (i := 3) rfl)) ?_
       refine rPieces (L' := [srcP bk ca bs cc, OwnR ndK 52 2 hd.1.1 nn hd.1.2 hd.2 y, blk bkl19 2 [.int .i64 (nn : Int)], OwnI 2 aq18 (q + 1) cq18 ((ch ++ [(nn : Int)])), blk bkl16 52 [.int .i64 x15, .int .i64 x1, .int .i64 x1, .int .i64 (-1), .slice none 0 0]]) (fun _ h => h.perm (pull (i := 2) rfl)) ?_
       refine callMK (α := Option Addr × Nat × Nat × (Nat → Hd) × List Nd) (Lf := [srcP bk ca bs cc, OwnR ndK 52 2 hd.1.1 nn hd.1.2 hd.2 y]) (Lr := [blk bkl19 2 [.int .i64 (nn : Int)], OwnI 2 aq18 (q + 1) cq18 ((ch ++ [(nn : Int)])), blk bkl16 52 [.int .i64 x15, .int .i64 x1, .int .i64 x1, .int .i64 (-1), .slice none 0 0]]) (good := fun x => (nn < x.2.1 ∧ x.2.1 ≤ nn + Math.p4 (dp - 1).toNat) ∧ Math.kidsB x.2.2.2.2) (φs := fun x => [srcP bk ca bs cc, OwnR ndK 52 2 x.1 x.2.1 x.2.2.1 x.2.2.2.1 x.2.2.2.2]) (val := fun x => .slice x.1 x.2.1 x.2.2.1) rfl Tryd.call77 trv1 rfl rfl (fun w M1 hs hk => ih _ (by omega) bk ca bs cc hd.1.1 nn hd.1.2 hd.2 y (dp - 1) w M1 rfl hs (hk _ kcode) hok (by omega) (by omega) (by assumption)) ?_
       rintro ⟨ay19, ny19, cy19, Hy19, y19⟩ hr19
       try dsimp only at hr19
       refine rPieces (L' := [srcP bk ca bs cc, OwnR ndK 52 2 ay19 ny19 cy19 Hy19 y19, blk bkl19 2 [.int .i64 (nn : Int)], OwnI 2 aq18 (q + 1) cq18 ((ch ++ [(nn : Int)])), blk bkl16 52 [.int .i64 x15, .int .i64 x1, .int .i64 x1, .int .i64 (-1), .slice none 0 0]]) (fun _ h => h) ?_
       refine rKnow (fun w hs => (show OwnR ndK 52 2 ay19 ny19 cy19 Hy19 y19 w from hs.at_ 1 rfl).1) (fun lenoz => ?_)
       refine asS rfl rfl rfl ?_
       refine rNil ?_
       refine qSeq rfl ?_
       refine hReg (sq 0 (sq 1 (sq 2 sz))) (by kernel_rfl) ?_
       refine mvI rfl rfl rfl ?_
       refine sub rfl rfl rfl rfl (by omega) ?_
       refine asI rfl rfl rfl ?_
       refine rNil ?_
       exact qNext rfl ((m - 1, ny19, ((ay19, cy19), Hy19), y19, q + 1, (aq18, cq18), (ch ++ [(nn : Int)]))) (by dsimp only; omega) ⟨by dsimp only; omega, by dsimp only; omega, by dsimp only; omega, (by assumption : _ ∧ _).2⟩ ⟨rfl, rfl, rfl, rfl, rfl, rfl, trivial⟩ (fun _ h => h.pick [0, 2, 0, 1])
      ·
       replace c8 : ¬ (0 < m) := c8
       refine hExit rfl ?_
       refine qSeq rfl ?_
       refine hSeq ?_
       refine hReg (sq 0 (sq 1 (sq 2 (sq 3 (sq 4 (sl 5 sz)))))) (by kernel_rfl) ?_
       refine mvS rfl rfl rfl ?_
       refine mvI rfl rfl rfl ?_
       refine mvS rfl rfl rfl ?_
       refine oxR (zn := nz) 2 rfl el24 rfl rfl rfl rfl (by omega) (by omega) rfl ?_
       intro gk20 hgk20
       refine fld fl52_4 rfl rfl rfl ?_
       refine rKnow (fun w hs => (show OwnR ndK 52 2 hd.1.1 nn hd.1.2 hd.2 y w from hs.at_ 2 rfl).1) (fun lstq21 => ?_)
       refine rKnow (fun w hs => (show OwnI 2 he.1 q he.2 ch w from hs.at_ 1 rfl).lenz) (fun lskq22 => ?_)
       refine stRk (f := 4) (hd := (he.1, he.2)) (y.getD nz dN) (Nd.mk ((y.getD nz dN).pl) ((y.getD nz dN).p0) ((y.getD nz dN).p1) ((y.getD nz dN).fo) ch) nz 2 1 ndK.ok rfl rfl hgk20 (nth dN (by omega)) Tryd.sizeOf50 trv rfl rfl rfl rfl rfl (fun h => by first | rfl | (dsimp only [ndK, ndC] at h ⊢; rw [h]; rfl)) rfl (by decide) ?_
       refine rNil ?_
       refine qSeq rfl ?_
       refine hSeq ?_
       refine hReg (sq 0 (sq 1 sz)) (by kernel_rfl) ?_
       refine mvS rfl rfl rfl ?_
       refine asS rfl rfl rfl ?_
       refine rNil ?_
       refine qSeq rfl ?_
       refine hRet ?_
       exact fun w hs => ⟨[.slice hd.1.1 nn hd.1.2], ⟨rfl, trivial⟩, ⟨(hd.1.1, nn, hd.1.2, (hset hd.2 nz (he.1, he.2)), (y.set nz ((Nd.mk ((y.getD nz dN).pl) ((y.getD nz dN).p0) ((y.getD nz dN).p1) ((y.getD nz dN).fo) ch)))), rfl, ⟨⟨by dsimp only; omega, by dsimp only; omega⟩, by first | exact Math.kidsB_app hkz (Nat.zero_le _) | exact Math.kidsB_set hky (by dsimp only; omega)⟩, hs.pick [1, 0]⟩⟩
    ·
     replace g5 : ¬ (0 < (nz : Int)) := g5
     refine rSkipQ rfl rfl ?_
     refine rSkipL trv rfl rfl ?_
     refine rSkipQ rfl rfl ?_
     refine pickB rfl rfl rfl rfl ?_
     refine pickB rfl rfl rfl rfl ?_
     refine rNil ?_
     refine qSeq rfl ?_
     refine hIfF rfl ?_
     refine hSkip ?_
     refine qSeq rfl ?_
     refine hSeq ?_
     refine hReg (sq 0 (sq 1 (sl 2 (sq 3 (sq 4 (sq 5 (sl 6 (sl 7 (sq 8 sz))))))))) (by kernel_rfl) ?_
     refine mvS rfl rfl rfl ?_
     refine mvP rfl rfl rfl ?_
     refine callMK (α := Int) (Lf := [srcP bk ca bs cc]) (Lr := [OwnR ndK 52 2 az nz cz Hz z]) (good := fun x => 0 ≤ x ∧ (x < (2 : Int) ∨ x = 0)) (φs := fun x => [srcP bk ca bs cc]) (val := fun x => .int .i64 x) rfl Tryd.call24 trv1 rfl rfl (fun w M1 hs hk => src_next bk ca bs cc (2 : Int) w M1 hs (hk _ kcode) hok) ?_
     intro x23 hx23
     try dsimp only at hx23
     refine rPieces (L' := [srcP bk ca bs cc, OwnR ndK 52 2 az nz cz Hz z]) (fun _ h => h) ?_
     refine mvI rfl rfl rfl ?_
     refine mvI rfl rfl rfl ?_
     refine bld rfl rfl rfl (bld52_0_1_2_3 (.int .i64 _) (.int .i64 _) (.int .i64 _) (.int .i64 _) rfl rfl rfl rfl) ?_
     refine bsl trv1 rfl rfl rfl (bsl24_1 (.int .i64 x23) (.int .i64 x1) (.int .i64 x1) (.int .i64 (-1)) (.slice none 0 0) rfl rfl rfl rfl rfl) (fun bkl20 hbkl20 => ?_)
     refine rPieces (fun _ h => Sep.nilI 2 h) ?_
     refine apR (hd := (none, 0)) (x := (Nd.mk x23 x1 x1 (-1) [])) 3 0 1 ndK.ok rfl rfl rfl (fun h => by first | rfl | (dsimp only at h; rw [h]; rfl) | (rw [h]; rfl) | exact congrArg (fun m => [Value.slice _ m _]) h) mk24 trv1 rfl rfl rfl rfl (by omega) ?_
     intro aq24 cq24
     refine asS rfl rfl rfl ?_
     refine rNil ?_
     refine qSeq rfl ?_
     refine hSeq ?_
     refine hReg (sl 0 (sq 1 sz)) (by kernel_rfl) ?_
     refine bsl trv1 rfl rfl rfl (bsl50_0) (fun bkl22 hbkl22 => ?_)
     refine asS rfl rfl rfl ?_
     refine rNil ?_
     refine qSeq rfl ?_
     refine hSeq ?_
     refine hSeq ?_
     refine hReg (sq 0 (sl 1 (sq 2 (sq 3 sz)))) (by kernel_rfl) ?_
     refine mvP rfl rfl rfl ?_
     refine rPieces (L' := [srcP bk ca bs cc, blk bkl22 2 [], OwnR ndK 52 2 aq24 (nz + 1) cq24 ((hset Hz z.length (none, 0))) ((z ++ [(Nd.mk x23 x1 x1 (-1) [])])), blk bkl20 52 [.int .i64 x23, .int .i64 x1, .int .i64 x1, .int .i64 (-1), .slice none 0 0]]) (fun _ h => h.perm (pull (i := 3) rfl)) ?_
     refine callMK (α := Int) (Lf := [srcP bk ca bs cc]) (Lr := [blk bkl22 2 [], OwnR ndK 52 2 aq24 (nz + 1) cq24 ((hset Hz z.length (none, 0))) ((z ++ [(Nd.mk x23 x1 x1 (-1) [])])), blk bkl20 52 [.int .i64 x23, .int .i64 x1, .int .i64 x1, .int .i64 (-1), .slice none 0 0]]) (good := fun x => 0 ≤ x ∧ (x < (3 : Int) ∨ x = 0)) (φs := fun x => [srcP bk ca bs cc]) (val := fun x => .int .i64 x) rfl Tryd.call24 trv1 rfl rfl (fun w M1 hs hk => src_next bk ca bs cc (3 : Int) w M1 hs (hk _ kcode) hok) ?_
     intro x25 hx25
     try dsimp only at hx25
     refine rPieces (L' := [srcP bk ca bs cc, blk bkl22 2 [], OwnR ndK 52 2 aq24 (nz + 1) cq24 ((hset Hz z.length (none, 0))) ((z ++ [(Nd.mk x23 x1 x1 (-1) [])])), blk bkl20 52 [.int .i64 x23, .int .i64 x1, .int .i64 x1, .int .i64 (-1), .slice none 0 0]]) (fun _ h => h) ?_
     refine add rfl rfl rfl rfl (by omega) ?_
     refine asI rfl rfl rfl ?_
     refine rNil ?_
     refine qSeq rfl ?_
     refine hBlk ?_
     refine hPieces (fun _ h => Sep.litI h 1 [] rfl rfl rfl) ?_
     refine hLoop (α := Int × Nat × (Hd × (Nat → Hd)) × List Nd × Nat × Hd × List Int) (fun x => (0 ≤ x.1 ∧ x.1 ≤ 3) ∧ (nz < x.2.1 ∧ (x.2.2.2.2.1 : Int) + x.1 ≤ 3) ∧ (x.1 = 3 ∧ x.2.1 ≤ nz + 1 ∨ x.1 = 2 ∧ x.2.1 ≤ nz + 1 + Math.p4 (dp - 1).toNat ∨ x.1 = 1 ∧ x.2.1 ≤ nz + 1 + Math.p4 (dp - 1).toNat + Math.p4 (dp - 1).toNat ∨ x.1 = 0 ∧ x.2.1 ≤ nz + 1 + Math.p4 (dp - 1).toNat + Math.p4 (dp - 1).toNat + Math.p4 (dp - 1).toNat) ∧ Math.kidsB x.2.2.2.1) (fun x => x.1.toNat) (fun x => [srcP bk ca bs cc, OwnI 2 x.2.2.2.2.2.1.1 x.2.2.2.2.1 x.2.2.2.2.2.1.2 x.2.2.2.2.2.2, OwnR ndK 52 2 x.2.2.1.1.1 x.2.1 x.2.2.1.1.2 x.2.2.1.2 x.2.2.2.1, blk bkl20 52 [.int .i64 x23, .int .i64 x1, .int .i64 x1, .int .i64 (-1), .slice none 0 0]]) (fun x => [(0, .pointer (some ⟨bk, 0, none⟩)), (1, .slice x.2.2.1.1.1 x.2.1 x.2.2.1.1.2), (2, .int .i64 dp), (7, .int .i64 (nz : Int)), (10, .slice x.2.2.2.2.2.1.1 x.2.2.2.2.1 x.2.2.2.2.2.1.2), (11, .int .i64 x.1)]) (((1 + x25), (nz + 1), ((aq24, cq24), (hset Hz z.length (none, 0))), (z ++ [(Nd.mk x23 x1 x1 (-1) [])]), 0, ((some ⟨bkl22, 0, none⟩), 0), [])) ⟨by dsimp only; omega, by dsimp only; omega, by dsimp only; omega, Math.kidsB_app hkz (Nat.zero_le _)⟩ (fun _ h => h.pick [0, 0, 0, 0]) ⟨rfl, rfl, rfl, rfl, rfl, rfl, trivial⟩ ?_
     rintro ⟨m, nn, hd, y, q, he, ch⟩ τ2 ⟨hm, hnq, hdj, hky⟩
     dsimp only at hm hnq hdj hky
     refine hRe [(0, .pointer (some ⟨bk, 0, none⟩)), (1, .slice hd.1.1 nn hd.1.2), (2, .int .i64 dp), (7, .int .i64 (nz : Int)), (10, .slice he.1 q he.2), (11, .int .i64 m)] [srcP bk ca bs cc, OwnI 2 he.1 q he.2 ch, OwnR ndK 52 2 hd.1.1 nn hd.1.2 hd.2 y, blk bkl20 52 [.int .i64 x23, .int .i64 x1, .int .i64 x1, .int .i64 (-1), .slice none 0 0]] rfl rfl ?_
     refine hSeq ?_
     refine hSeq ?_
     refine hReg (sq 0 (sq 1 sz)) (by kernel_rfl) ?_
     refine mvI rfl rfl rfl ?_
     refine gtr rfl rfl rfl rfl ?_
     refine rNil ?_
     refine qSeq rfl ?_
     refine hIfD rfl (fun c9 => ?_) (fun c9 => ?_)
     ·
      replace c9 : 0 < m := c9
      refine hSkip ?_
      refine qSeq rfl ?_
      refine hSeq ?_
      refine hBlk ?_
      refine hSeq ?_
      refine hReg (sq 0 (sq 1 (sq 2 (sl 3 (sl 4 (sq 5 sz)))))) (by kernel_rfl) ?_
      refine mvS rfl rfl rfl ?_
      refine mvS rfl rfl rfl ?_
      refine lenS Tryd.runUnderlying24 rfl rfl rfl ?_
      refine bsl trv1 rfl rfl rfl (bsl50_1 (.int .i64 _) rfl) (fun bkl23 hbkl23 => ?_)
      refine aplI (N := q) (x := (nn : Int)) 2 0 rfl rfl mk50 trv1 rfl rfl rfl rfl (by omega) ?_
      intro aq26 cq26
      refine asS rfl rfl rfl ?_
      refine rNil ?_
      refine qSeq rfl ?_
      refine hReg (sq 0 (sq 1 (sq 2 (sq 3 (sl 4 (sq 5 sz)))))) (by kernel_rfl) ?_
      refine mvP rfl rfl rfl ?_
      refine mvS rfl rfl rfl ?_
      refine mvI rfl rfl rfl ?_
      refine sub rfl rfl rfl rfl (by omega) ?_
      refine rPieces (L' := [OwnR ndK 52 2 hd.1.1 nn hd.1.2 hd.2 y, blk bkl23 2 [.int .i64 (nn : Int)], srcP bk ca bs cc, OwnI 2 aq26 (q + 1) cq26 ((ch ++ [(nn : Int)])), blk bkl20 52 [.int .i64 x23, .int .i64 x1, .int .i64 x1, .int .i64 (-1), .slice none 0 0]]) (fun _ h => h.perm (pull (i := 3) rfl)) ?_
      refine rPieces (L' := [srcP bk ca bs cc, OwnR ndK 52 2 hd.1.1 nn hd.1.2 hd.2 y, blk bkl23 2 [.int .i64 (nn : Int)], OwnI 2 aq26 (q + 1) cq26 ((ch ++ [(nn : Int)])), blk bkl20 52 [.int .i64 x23, .int .i64 x1, .int .i64 x1, .int .i64 (-1), .slice none 0 0]]) (fun _ h => h.perm (pull (i := 2) rfl)) ?_
      refine callMK (α := Option Addr × Nat × Nat × (Nat → Hd) × List Nd) (Lf := [srcP bk ca bs cc, OwnR ndK 52 2 hd.1.1 nn hd.1.2 hd.2 y]) (Lr := [blk bkl23 2 [.int .i64 (nn : Int)], OwnI 2 aq26 (q + 1) cq26 ((ch ++ [(nn : Int)])), blk bkl20 52 [.int .i64 x23, .int .i64 x1, .int .i64 x1, .int .i64 (-1), .slice none 0 0]]) (good := fun x => (nn < x.2.1 ∧ x.2.1 ≤ nn + Math.p4 (dp - 1).toNat) ∧ Math.kidsB x.2.2.2.2) (φs := fun x => [srcP bk ca bs cc, OwnR ndK 52 2 x.1 x.2.1 x.2.2.1 x.2.2.2.1 x.2.2.2.2]) (val := fun x => .slice x.1 x.2.1 x.2.2.1) rfl Tryd.call77 trv1 rfl rfl (fun w M1 hs hk => ih _ (by omega) bk ca bs cc hd.1.1 nn hd.1.2 hd.2 y (dp - 1) w M1 rfl hs (hk _ kcode) hok (by omega) (by omega) (by assumption)) ?_
      rintro ⟨ay27, ny27, cy27, Hy27, y27⟩ hr27
      try dsimp only at hr27
      refine rPieces (L' := [srcP bk ca bs cc, OwnR ndK 52 2 ay27 ny27 cy27 Hy27 y27, blk bkl23 2 [.int .i64 (nn : Int)], OwnI 2 aq26 (q + 1) cq26 ((ch ++ [(nn : Int)])), blk bkl20 52 [.int .i64 x23, .int .i64 x1, .int .i64 x1, .int .i64 (-1), .slice none 0 0]]) (fun _ h => h) ?_
      refine rKnow (fun w hs => (show OwnR ndK 52 2 ay27 ny27 cy27 Hy27 y27 w from hs.at_ 1 rfl).1) (fun lenoz => ?_)
      refine asS rfl rfl rfl ?_
      refine rNil ?_
      refine qSeq rfl ?_
      refine hReg (sq 0 (sq 1 (sq 2 sz))) (by kernel_rfl) ?_
      refine mvI rfl rfl rfl ?_
      refine sub rfl rfl rfl rfl (by omega) ?_
      refine asI rfl rfl rfl ?_
      refine rNil ?_
      exact qNext rfl ((m - 1, ny27, ((ay27, cy27), Hy27), y27, q + 1, (aq26, cq26), (ch ++ [(nn : Int)]))) (by dsimp only; omega) ⟨by dsimp only; omega, by dsimp only; omega, by dsimp only; omega, (by assumption : _ ∧ _).2⟩ ⟨rfl, rfl, rfl, rfl, rfl, rfl, trivial⟩ (fun _ h => h.pick [0, 2, 0, 1])
     ·
      replace c9 : ¬ (0 < m) := c9
      refine hExit rfl ?_
      refine qSeq rfl ?_
      refine hSeq ?_
      refine hReg (sq 0 (sq 1 (sq 2 (sq 3 (sq 4 (sl 5 sz)))))) (by kernel_rfl) ?_
      refine mvS rfl rfl rfl ?_
      refine mvI rfl rfl rfl ?_
      refine mvS rfl rfl rfl ?_
      refine oxR (zn := nz) 2 rfl el24 rfl rfl rfl rfl (by omega) (by omega) rfl ?_
      intro gk28 hgk28
      refine fld fl52_4 rfl rfl rfl ?_
      refine rKnow (fun w hs => (show OwnR ndK 52 2 hd.1.1 nn hd.1.2 hd.2 y w from hs.at_ 2 rfl).1) (fun lstq29 => ?_)
      refine rKnow (fun w hs => (show OwnI 2 he.1 q he.2 ch w from hs.at_ 1 rfl).lenz) (fun lskq30 => ?_)
      refine stRk (f := 4) (hd := (he.1, he.2)) (y.getD nz dN) (Nd.mk ((y.getD nz dN).pl) ((y.getD nz dN).p0) ((y.getD nz dN).p1) ((y.getD nz dN).fo) ch) nz 2 1 ndK.ok rfl rfl hgk28 (nth dN (by omega)) Tryd.sizeOf50 trv rfl rfl rfl rfl rfl (fun h => by first | rfl | (dsimp only [ndK, ndC] at h ⊢; rw [h]; rfl)) rfl (by decide) ?_
      refine rNil ?_
      refine qSeq rfl ?_
      refine hSeq ?_
      refine hReg (sq 0 (sq 1 sz)) (by kernel_rfl) ?_
      refine mvS rfl rfl rfl ?_
      refine asS rfl rfl rfl ?_
      refine rNil ?_
      refine qSeq rfl ?_
      refine hRet ?_
      exact fun w hs => ⟨[.slice hd.1.1 nn hd.1.2], ⟨rfl, trivial⟩, ⟨(hd.1.1, nn, hd.1.2, (hset hd.2 nz (he.1, he.2)), (y.set nz ((Nd.mk ((y.getD nz dN).pl) ((y.getD nz dN).p0) ((y.getD nz dN).p1) ((y.getD nz dN).fo) ch)))), rfl, ⟨⟨by dsimp only; omega, by dsimp only; omega⟩, by first | exact Math.kidsB_app hkz (Nat.zero_le _) | exact Math.kidsB_set hky (by dsimp only; omega)⟩, hs.pick [1, 0]⟩⟩
theorem spec_l20Random_c (bk : Nat) (ca : Option Addr) (bs : List Int) (cc : Nat) (az : Option Addr) (nz : Nat) (cz : Nat) (Hz : Nat → Hd) (z : List Nd) (dp : Int) (w : World) (M0 : Nat → Prop) (hs0 : Sep w M0 [srcP bk ca bs cc, OwnR ndK 52 2 az nz cz Hz z] w) (kcode : Kn w M0 [] (CellsAt ca (bs.map (Value.int .u8)))) (hok : okBytes bs) (hdp : 0 ≤ dp ∧ dp ≤ 3) (hn : nz + Math.p4 dp.toNat ≤ 500) (hkz : Math.kidsB z) :
  Calls Tryd.prog 77 #[.pointer (some ⟨bk, 0, none⟩), .slice az nz cz, .int .i64 dp] w (Ret fun v w' => ∃ x : Option Addr × Nat × Nat × (Nat → Hd) × List Nd, v = .slice x.1 x.2.1 x.2.2.1 ∧ ((nz < x.2.1 ∧ x.2.1 ≤ nz + Math.p4 dp.toNat) ∧ Math.kidsB x.2.2.2.2) ∧ Sep w M0 [srcP bk ca bs cc, OwnR ndK 52 2 x.1 x.2.1 x.2.2.1 x.2.2.2.1 x.2.2.2.2] w') := spec_l20Random_c_r _ bk ca bs cc az nz cz Hz z dp w M0 rfl hs0 kcode hok hdp hn hkz
theorem spec_l20Valid_c (bk : Nat) (ca : Option Addr) (bs : List Int) (cc : Nat) (w : World) (M0 : Nat → Prop) (hs0 : Sep w M0 [srcP bk ca bs cc] w) (kcode : Kn w M0 [] (CellsAt ca (bs.map (Value.int .u8)))) (hok : okBytes bs) :
  Calls Tryd.prog 70 #[.pointer (some ⟨bk, 0, none⟩)] w (Ret fun v w' => ∃ x : Option Addr × Nat × Nat × (Nat → Hd) × List Nd, v = .agg #[.slice x.1 x.2.1 x.2.2.1] ∧ ((1 ≤ x.2.1 ∧ x.2.1 ≤ 200) ∧ Math.kidsB x.2.2.2.2) ∧ Sep w M0 [srcP bk ca bs cc, OwnR ndK 52 2 x.1 x.2.1 x.2.2.1 x.2.2.2.1 x.2.2.2.2] w') := by
 have h64 : Math.p4 3 = 64 := rfl
 refine fn (M := M0) (rs := [.cell 2 26]) Tryd.func70 rfl Tryd.ntmps70 rfl rfl hs0 ?_
 refine hSeq ?_
 refine hReg (sl 0 sz) (by kernel_rfl) ?_
 refine alc Tryd.zeroValue26 rfl trv1 rfl rfl (fun bka1 hbka1 => ?_)
 refine rNil ?_
 refine qSeq rfl ?_
 refine hSeq ?_
 refine hSeq ?_
 refine hReg (sq 0 (sl 1 sz)) (by kernel_rfl) ?_
 refine mvP rfl rfl rfl ?_
 refine rPieces (L' := [srcP bk ca bs cc, blk bka1 26 [.slice none 0 0]]) (fun _ h => h.perm (pull (i := 1) rfl)) ?_
 refine callMK (α := Int) (Lf := [srcP bk ca bs cc]) (Lr := [blk bka1 26 [.slice none 0 0]]) (good := fun x => 0 ≤ x ∧ (x < (5 : Int) ∨ x = 0)) (φs := fun x => [srcP bk ca bs cc]) (val := fun x => .int .i64 x) rfl Tryd.call24 trv1 rfl rfl (fun w M1 hs hk => src_next bk ca bs cc (5 : Int) w M1 hs (hk _ kcode) hok) ?_
 intro x1 hx1
 try dsimp only at hx1
 refine rPieces (L' := [srcP bk ca bs cc, blk bka1 26 [.slice none 0 0]]) (fun _ h => h) ?_
 refine rNil ?_
 refine qSeq rfl ?_
 refine hBlk ?_
 refine hSeq ?_
 refine hReg (sq 0 (sq 1 sz)) (by kernel_rfl) ?_
 refine eql rfl rfl rfl rfl ?_
 refine asB rfl rfl rfl ?_
 refine rNil ?_
 refine qSeq rfl ?_
 refine hIfD rfl (fun c1 => ?_) (fun c1 => ?_)
 ·
  replace c1 : x1 = 0 := c1
  refine hSeq ?_
  refine hReg (sl 0 (sq 1 sz)) (by kernel_rfl) ?_
  refine bsl trv1 rfl rfl rfl (bsl24_0) (fun bkl2 hbkl2 => ?_)
  refine asS rfl rfl rfl ?_
  refine rNil ?_
  refine qSeq rfl ?_
  refine hSeq ?_
  refine hReg (sq 0 (sq 1 (sl 2 (sq 3 sz)))) (by kernel_rfl) ?_
  refine mvP rfl rfl rfl ?_
  refine mvS rfl rfl rfl ?_
  refine rPieces (fun _ h => Sep.litR ndK 52 2 (fun _ => (none, 0)) h 0 rfl) ?_
  refine rPieces (L' := [srcP bk ca bs cc, OwnR ndK 52 2 (some ⟨bkl2, 0, none⟩) 0 0 ((fun _ => (none, 0))) [], blk bka1 26 [.slice none 0 0]]) (fun _ h => h.perm (pull (i := 1) rfl)) ?_
  refine callMK (α := Option Addr × Nat × Nat × (Nat → Hd) × List Nd) (Lf := [srcP bk ca bs cc, OwnR ndK 52 2 (some ⟨bkl2, 0, none⟩) 0 0 ((fun _ => (none, 0))) []]) (Lr := [blk bka1 26 [.slice none 0 0]]) (good := fun x => ((0) < x.2.1 ∧ x.2.1 ≤ (0) + Math.p4 3) ∧ Math.kidsB x.2.2.2.2) (φs := fun x => [srcP bk ca bs cc, OwnR ndK 52 2 x.1 x.2.1 x.2.2.1 x.2.2.2.1 x.2.2.2.2]) (val := fun x => .slice x.1 x.2.1 x.2.2.1) rfl Tryd.call77 trv1 rfl rfl (fun w M1 hs hk => spec_l20Random_c bk ca bs cc (some ⟨bkl2, 0, none⟩) 0 0 ((fun _ => (none, 0))) [] (3 : Int) w M1 hs (hk _ kcode) hok (by omega) (by decide) Math.kidsB_nil) ?_
  rintro ⟨ay2, ny2, cy2, Hy2, y2⟩ hr2
  try dsimp only at hr2
  refine rPieces (L' := [srcP bk ca bs cc, OwnR ndK 52 2 ay2 ny2 cy2 Hy2 y2, blk bka1 26 [.slice none 0 0]]) (fun _ h => h) ?_
  refine rKnow (fun w hs => (show OwnR ndK 52 2 ay2 ny2 cy2 Hy2 y2 w from hs.at_ 1 rfl).1) (fun lenl2 => ?_)
  refine asS rfl rfl rfl ?_
  refine rNil ?_
  refine qSeq rfl ?_
  refine hSeq ?_
  refine hReg (sq 0 (sq 1 (sl 2 sz))) (by kernel_rfl) ?_
  refine mvS rfl rfl rfl ?_
  refine bld rfl rfl rfl (bld26_0 (.slice _ _ _) rfl) ?_
  refine stAl (vs := [.slice ay2 ny2 cy2]) 2 rfl Tryd.sizeOf26 trv rfl rfl rfl rfl rfl (by simp [Value.oneCell']) rfl ?_
  refine rNil ?_
  refine qSeq rfl ?_
  refine hRet ?_
  exact fun w hs => ⟨[_], ⟨⟨_, rfl, run_load_agg Tryd.isAgg26 Tryd.sizeOf26 rfl (cBs 2 rfl w hs)⟩, trivial⟩, ⟨(ay2, ny2, cy2, Hy2, y2), rfl, ⟨⟨by dsimp only; omega, by dsimp only; omega⟩, hr2.2⟩, hs.pick [0, 0]⟩⟩
 ·
  replace c1 : ¬ (x1 = 0) := c1
  refine hSeq ?_
  refine hReg (sq 0 (sq 1 sz)) (by kernel_rfl) ?_
  refine eql rfl rfl rfl rfl ?_
  refine asB rfl rfl rfl ?_
  refine rNil ?_
  refine qSeq rfl ?_
  refine hIfD rfl (fun c2 => ?_) (fun c2 => ?_)
  ·
   replace c2 : x1 = 1 := c2
   refine hSeq ?_
   refine hReg (sq 0 (sl 1 (sq 2 (sl 3 (sq 4 (sl 5 (sq 6 (sq 7 (sq 8 (sl 9 (sl 10 (sq 11 sz)))))))))))) (by kernel_rfl) ?_
   refine mvP rfl rfl rfl ?_
   refine callMK (α := Int) (Lf := [srcP bk ca bs cc]) (Lr := [blk bka1 26 [.slice none 0 0]]) (good := fun x => 0 ≤ x ∧ (x < (4 : Int) ∨ x = 0)) (φs := fun x => [srcP bk ca bs cc]) (val := fun x => .int .i64 x) rfl Tryd.call24 trv1 rfl rfl (fun w M1 hs hk => src_next bk ca bs cc (4 : Int) w M1 hs (hk _ kcode) hok) ?_
   intro x3 hx3
   try dsimp only at hx3
   refine rPieces (L' := [srcP bk ca bs cc, blk bka1 26 [.slice none 0 0]]) (fun _ h => h) ?_
   refine mvP rfl rfl rfl ?_
   refine callMK (α := Int) (Lf := [srcP bk ca bs cc]) (Lr := [blk bka1 26 [.slice none 0 0]]) (good := fun x => 0 ≤ x ∧ (x < (5 : Int) ∨ x = 0)) (φs := fun x => [srcP bk ca bs cc]) (val := fun x => .int .i64 x) rfl Tryd.call24 trv1 rfl rfl (fun w M1 hs hk => src_next bk ca bs cc (5 : Int) w M1 hs (hk _ kcode) hok) ?_
   intro x4 hx4
   try dsimp only at hx4
   refine rPieces (L' := [srcP bk ca bs cc, blk bka1 26 [.slice none 0 0]]) (fun _ h => h) ?_
   refine add rfl rfl rfl rfl (by omega) ?_
   refine callS Tryd.call16 trv1 rfl rfl (fun w hs => spec_BetTree_c _ _ _ w ) ?_
   rintro ⟨ay5, ny5, cy5, Hy5, y5, q5⟩ ⟨hr5a, hr5b⟩
   dsimp only at hr5a hr5b
   subst y5
   subst q5
   refine rKnow (fun w hs => (show OwnR ndK 52 2 ay5 ny5 cy5 Hy5 ((((Math.betAt x3 (1 + x4) (1 : Int)).1))) w from hs.at_ 0 rfl).1) (fun lenn3 => ?_)
   refine mv rfl rfl rfl ?_
   refine ext rfl rfl rfl rfl ?_
   refine ext rfl rfl rfl rfl ?_
   refine alc Tryd.zeroValue26 rfl trv1 rfl rfl (fun bka4 hbka4 => ?_)
   refine stAl (vs := [.slice ay5 ny5 cy5]) 0 rfl Tryd.sizeOf26 trv rfl rfl rfl rfl rfl (by simp [Value.oneCell']) rfl ?_
   refine asI rfl rfl rfl ?_
   refine rNil ?_
   refine qSeq rfl ?_
   refine hSeq ?_
   refine hReg (sl 0 (sl 1 sz)) (by kernel_rfl) ?_
   refine ldAl Tryd.isAgg26 Tryd.sizeOf26 (cBs 0 rfl) trv rfl rfl rfl rfl ?_
   refine stAl (vs := [.slice ay5 ny5 cy5]) 3 rfl Tryd.sizeOf26 trv rfl rfl rfl rfl rfl (by simp [Value.oneCell']) rfl ?_
   refine rNil ?_
   refine qSeq rfl ?_
   refine hRet ?_
   exact fun w hs => ⟨[_], ⟨⟨_, rfl, run_load_agg Tryd.isAgg26 Tryd.sizeOf26 rfl (cBs 3 rfl w hs)⟩, trivial⟩, ⟨(ay5, ny5, cy5, Hy5, (((Math.betAt x3 (1 + x4) (1 : Int)).1))), rfl, ⟨by have h1 := Math.betAt_bd x3 (1 + x4) (1 : Int); have h2 := Math.betAt_pos (ante := x3) (bet := (1 + x4)) (r := (1 : Int)) (by omega); dsimp only; omega, Math.betAt_kids x3 (1 + x4) (1 : Int)⟩, hs.pick [2, 1]⟩⟩
  ·
   replace c2 : ¬ (x1 = 1) := c2
   refine hSkip ?_
   refine qSeq rfl ?_
   refine hSeq ?_
   refine hReg (sq 0 (sl 1 (sq 2 (sq 3 (sl 4 (sq 5 (sl 6 (sq 7 (sq 8 (sq 9 (sl 10 (sl 11 (sq 12 sz))))))))))))) (by kernel_rfl) ?_
   refine mvP rfl rfl rfl ?_
   refine callMK (α := Int) (Lf := [srcP bk ca bs cc]) (Lr := [blk bka1 26 [.slice none 0 0]]) (good := fun x => 0 ≤ x ∧ (x < (3 : Int) ∨ x = 0)) (φs := fun x => [srcP bk ca bs cc]) (val := fun x => .int .i64 x) rfl Tryd.call24 trv1 rfl rfl (fun w M1 hs hk => src_next bk ca bs cc (3 : Int) w M1 hs (hk _ kcode) hok) ?_
   intro x6 hx6
   try dsimp only at hx6
   refine rPieces (L' := [srcP bk ca bs cc, blk bka1 26 [.slice none 0 0]]) (fun _ h => h) ?_
   refine add rfl rfl rfl rfl (by omega) ?_
   refine mvP rfl rfl rfl ?_
   refine callMK (α := Int) (Lf := [srcP bk ca bs cc]) (Lr := [blk bka1 26 [.slice none 0 0]]) (good := fun x => 0 ≤ x ∧ (x < (4 : Int) ∨ x = 0)) (φs := fun x => [srcP bk ca bs cc]) (val := fun x => .int .i64 x) rfl Tryd.call24 trv1 rfl rfl (fun w M1 hs hk => src_next bk ca bs cc (4 : Int) w M1 hs (hk _ kcode) hok) ?_
   intro x7 hx7
   try dsimp only at hx7
   refine rPieces (L' := [srcP bk ca bs cc, blk bka1 26 [.slice none 0 0]]) (fun _ h => h) ?_
   refine add rfl rfl rfl rfl (by omega) ?_
   refine callS Tryd.call16 trv1 rfl rfl (fun w hs => spec_BetTree_c _ _ _ w ) ?_
   rintro ⟨ay8, ny8, cy8, Hy8, y8, q8⟩ ⟨hr8a, hr8b⟩
   dsimp only at hr8a hr8b
   subst y8
   subst q8
   refine rKnow (fun w hs => (show OwnR ndK 52 2 ay8 ny8 cy8 Hy8 ((((Math.betAt (1 + x6) (1 + x7) (0 : Int)).1))) w from hs.at_ 0 rfl).1) (fun lenn5 => ?_)
   refine mv rfl rfl rfl ?_
   refine ext rfl rfl rfl rfl ?_
   refine ext rfl rfl rfl rfl ?_
   refine alc Tryd.zeroValue26 rfl trv1 rfl rfl (fun bka6 hbka6 => ?_)
   refine stAl (vs := [.slice ay8 ny8 cy8]) 0 rfl Tryd.sizeOf26 trv rfl rfl rfl rfl rfl (by simp [Value.oneCell']) rfl ?_
   refine asI rfl rfl rfl ?_
   refine rNil ?_
   refine qSeq rfl ?_
   refine hSeq ?_
   refine hReg (sl 0 (sl 1 sz)) (by kernel_rfl) ?_
   refine ldAl Tryd.isAgg26 Tryd.sizeOf26 (cBs 0 rfl) trv rfl rfl rfl rfl ?_
   refine stAl (vs := [.slice ay8 ny8 cy8]) 3 rfl Tryd.sizeOf26 trv rfl rfl rfl rfl rfl (by simp [Value.oneCell']) rfl ?_
   refine rNil ?_
   refine qSeq rfl ?_
   refine hRet ?_
   exact fun w hs => ⟨[_], ⟨⟨_, rfl, run_load_agg Tryd.isAgg26 Tryd.sizeOf26 rfl (cBs 3 rfl w hs)⟩, trivial⟩, ⟨(ay8, ny8, cy8, Hy8, (((Math.betAt (1 + x6) (1 + x7) (0 : Int)).1))), rfl, ⟨by have h1 := Math.betAt_bd (1 + x6) (1 + x7) (0 : Int); have h2 := Math.betAt_pos (ante := (1 + x6)) (bet := (1 + x7)) (r := (0 : Int)) (by omega); dsimp only; omega, Math.betAt_kids (1 + x6) (1 + x7) (0 : Int)⟩, hs.pick [2, 1]⟩⟩
set_option maxHeartbeats 4000000 in
theorem spec_l20Draw_c (bk : Nat) (ca : Option Addr) (bs : List Int) (cc : Nat) (w : World) (M0 : Nat → Prop) (hs0 : Sep w M0 [srcP bk ca bs cc] w) (kcode : Kn w M0 [] (CellsAt ca (bs.map (Value.int .u8)))) (hok : okBytes bs) :
  Calls Tryd.prog 47 #[.pointer (some ⟨bk, 0, none⟩)] w (Ret fun v w' => ∃ x : Option Addr × Nat × Nat × (Nat → Hd) × List Nd, v = .agg #[.slice x.1 x.2.1 x.2.2.1] ∧ (x.2.1 ≤ 250) ∧ Sep w M0 [srcP bk ca bs cc, RdR ndK x.1 x.2.1 x.2.2.2.1 x.2.2.2.2] w') := by
 refine fn (M := M0) (rs := [.cell 2 26]) Tryd.func47 rfl Tryd.ntmps47 rfl rfl hs0 ?_
 refine hSeq ?_
 refine hReg (sl 0 sz) (by kernel_rfl) ?_
 refine alc Tryd.zeroValue26 rfl trv1 rfl rfl (fun bka1 hbka1 => ?_)
 refine rNil ?_
 refine qSeq rfl ?_
 refine hSeq ?_
 refine hReg (sq 0 (sl 1 (sl 2 (sl 3 sz)))) (by kernel_rfl) ?_
 refine mvP rfl rfl rfl ?_
 refine rPieces (L' := [srcP bk ca bs cc, blk bka1 26 [.slice none 0 0]]) (fun _ h => h.perm (pull (i := 1) rfl)) ?_
 refine callMK (α := Option Addr × Nat × Nat × (Nat → Hd) × List Nd) (Lf := [srcP bk ca bs cc]) (Lr := [blk bka1 26 [.slice none 0 0]]) (good := fun x => (1 ≤ x.2.1 ∧ x.2.1 ≤ 200) ∧ Math.kidsB x.2.2.2.2) (φs := fun x => [srcP bk ca bs cc, OwnR ndK 52 2 x.1 x.2.1 x.2.2.1 x.2.2.2.1 x.2.2.2.2]) (val := fun x => .agg #[.slice x.1 x.2.1 x.2.2.1]) rfl Tryd.call70 trv1 rfl rfl (fun w M1 hs hk => spec_l20Valid_c bk ca bs cc  w M1 hs (hk _ kcode) hok ) ?_
 rintro ⟨ay1, ny1, cy1, Hy1, y1⟩ hr1
 try dsimp only at hr1
 refine rPieces (L' := [srcP bk ca bs cc, OwnR ndK 52 2 ay1 ny1 cy1 Hy1 y1, blk bka1 26 [.slice none 0 0]]) (fun _ h => h) ?_
 refine rKnow (fun w hs => (show OwnR ndK 52 2 ay1 ny1 cy1 Hy1 y1 w from hs.at_ 1 rfl).1) (fun lenn2 => ?_)
 refine alc Tryd.zeroValue26 rfl trv1 rfl rfl (fun bka3 hbka3 => ?_)
 refine stAl (vs := [.slice ay1 ny1 cy1]) 0 rfl Tryd.sizeOf26 trv rfl rfl rfl rfl rfl (by simp [Value.oneCell']) rfl ?_
 refine rNil ?_
 refine qSeq rfl ?_
 refine hSeq ?_
 refine hReg (sq 0 (sq 1 (sl 2 (sq 3 (sl 4 (sq 5 sz)))))) (by kernel_rfl) ?_
 refine mvP rfl rfl rfl ?_
 refine fld fl26_0 rfl rfl rfl ?_
 refine ldl Tryd.isAgg24 (cB 0 rfl rfl) trv rfl rfl rfl ?_
 refine lenS Tryd.runUnderlying24 rfl rfl rfl ?_
 refine rPieces (L' := [srcP bk ca bs cc, blk bka3 26 [.slice ay1 ny1 cy1], OwnR ndK 52 2 ay1 ny1 cy1 Hy1 y1, blk bka1 26 [.slice none 0 0]]) (fun _ h => h.perm (pull (i := 1) rfl)) ?_
 refine callMK (α := Int) (Lf := [srcP bk ca bs cc]) (Lr := [blk bka3 26 [.slice ay1 ny1 cy1], OwnR ndK 52 2 ay1 ny1 cy1 Hy1 y1, blk bka1 26 [.slice none 0 0]]) (good := fun x => 0 ≤ x ∧ (x < (ny1 : Int) ∨ x = 0)) (φs := fun x => [srcP bk ca bs cc]) (val := fun x => .int .i64 x) rfl Tryd.call24 trv1 rfl rfl (fun w M1 hs hk => src_next bk ca bs cc (ny1 : Int) w M1 hs (hk _ kcode) hok) ?_
 intro x2 hx2
 try dsimp only at hx2
 refine rPieces (L' := [srcP bk ca bs cc, blk bka3 26 [.slice ay1 ny1 cy1], OwnR ndK 52 2 ay1 ny1 cy1 Hy1 y1, blk bka1 26 [.slice none 0 0]]) (fun _ h => h) ?_
 refine asI rfl rfl rfl ?_
 refine rNil ?_
 refine qSeq rfl ?_
 refine hSeq ?_
 refine hSeq ?_
 refine hReg (sq 0 (sl 1 sz)) (by kernel_rfl) ?_
 refine mvP rfl rfl rfl ?_
 refine callMK (α := Int) (Lf := [srcP bk ca bs cc]) (Lr := [blk bka3 26 [.slice ay1 ny1 cy1], OwnR ndK 52 2 ay1 ny1 cy1 Hy1 y1, blk bka1 26 [.slice none 0 0]]) (good := fun x => 0 ≤ x ∧ (x < (30 : Int) ∨ x = 0)) (φs := fun x => [srcP bk ca bs cc]) (val := fun x => .int .i64 x) rfl Tryd.call24 trv1 rfl rfl (fun w M1 hs hk => src_next bk ca bs cc (30 : Int) w M1 hs (hk _ kcode) hok) ?_
 intro x3 hx3
 try dsimp only at hx3
 refine rPieces (L' := [srcP bk ca bs cc, blk bka3 26 [.slice ay1 ny1 cy1], OwnR ndK 52 2 ay1 ny1 cy1 Hy1 y1, blk bka1 26 [.slice none 0 0]]) (fun _ h => h) ?_
 refine rNil ?_
 refine qSeq rfl ?_
 refine hBlk ?_
 refine hSeq ?_
 refine hReg (sq 0 (sq 1 sz)) (by kernel_rfl) ?_
 refine eql rfl rfl rfl rfl ?_
 refine asB rfl rfl rfl ?_
 refine rNil ?_
 refine qSeq rfl ?_
 refine hIfD rfl (fun c1 => ?_) (fun c1 => ?_)
 ·
  replace c1 : x3 = 0 := c1
  refine hDraw (Ls := [blk bka3 26 [.slice ay1 ny1 cy1]]) (by kernel_rfl) (sq 0 (sq 1 (sq 2 (sq 3 (sl 4 (sl 5 (sq 6 (sq 7 (sl 8 sz))))))))) (by kernel_rfl) (.cons _ (.cons_cons _ (.cons _ (.cons _ .slnil)))) ?_
  refine fld fl26_0 rfl rfl rfl ?_
  refine ldq Tryd.isAgg24 (cB 0 rfl rfl) rfl rfl rfl ?_
  refine mvI rfl rfl rfl ?_
  refine mvP rfl rfl rfl ?_
  refine bsl (fun _ _ h => h.pick [2]) rfl rfl rfl (bsl50_5 (.int .i64 _) (.int .i64 _) (.int .i64 _) (.int .i64 _) (.int .i64 _) rfl rfl rfl rfl rfl) (fun bkl4 hbkl4 => ?_)
  refine rPieces (L' := [srcP bk ca bs cc, blk bkl4 2 [.int .i64 (-1), .int .i64 0, .int .i64 1, .int .i64 2, .int .i64 3], blk bka3 26 [.slice ay1 ny1 cy1], OwnR ndK 52 2 ay1 ny1 cy1 Hy1 y1, blk bka1 26 [.slice none 0 0]]) (fun _ h => h.perm (pull (i := 1) rfl)) ?_
  refine callMK (α := Int) (Lf := [srcP bk ca bs cc, blk bkl4 2 [.int .i64 (-1), .int .i64 0, .int .i64 1, .int .i64 2, .int .i64 3]]) (Lr := [blk bka3 26 [.slice ay1 ny1 cy1], OwnR ndK 52 2 ay1 ny1 cy1 Hy1 y1, blk bka1 26 [.slice none 0 0]]) (good := fun x => x ∈ ([.int .i64 (-1), .int .i64 0, .int .i64 1, .int .i64 2, .int .i64 3] : List Value).map toI) (φs := fun x => [srcP bk ca bs cc, blk bkl4 2 [.int .i64 (-1), .int .i64 0, .int .i64 1, .int .i64 2, .int .i64 3]]) (val := fun x => .int .i64 x) rfl Tryd.call28 (by exact (fun _ _ h => h.pick [2])) rfl rfl (fun w M1 hs hk => src_pick bk ca bs cc bkl4 2 5 5 [.int .i64 (-1), .int .i64 0, .int .i64 1, .int .i64 2, .int .i64 3] w M1 hs (hk _ kcode) hok rfl rfl (by decide)) ?_
  intro x4 hx4
  try dsimp only at hx4
  refine rPieces (L' := [srcP bk ca bs cc, blk bkl4 2 [.int .i64 (-1), .int .i64 0, .int .i64 1, .int .i64 2, .int .i64 3], blk bka3 26 [.slice ay1 ny1 cy1], OwnR ndK 52 2 ay1 ny1 cy1 Hy1 y1, blk bka1 26 [.slice none 0 0]]) (fun _ h => h) ?_
  refine oxR (zn := (x2).toNat) 3 rfl el24 rfl rfl rfl rfl (by omega) (by omega) rfl ?_
  intro gk5 hgk5
  refine fld fl52_0 rfl rfl rfl ?_
  refine stRc (f := 0) (y1.getD (x2).toNat dN) (Nd.mk x4 ((y1.getD (x2).toNat dN).p0) ((y1.getD (x2).toNat dN).p1) ((y1.getD (x2).toNat dN).fo) ((y1.getD (x2).toNat dN).ch)) ((x2).toNat) 3 ndK.ok rfl hgk5 (nth dN (by omega)) rfl rfl Tryd.sizeOf2 (fun _ h => h.pick [2]) rfl rfl rfl rfl (by decide) rfl rfl ?_
  refine rNil ?_
  refine qSeq rfl ?_
  refine hSeq ?_
  refine hReg (sl 0 (sl 1 sz)) (by kernel_rfl) ?_
  refine ldAl Tryd.isAgg26 Tryd.sizeOf26 (cBs 2 rfl) trv rfl rfl rfl rfl ?_
  refine stAl (vs := [.slice ay1 ny1 cy1]) 4 rfl Tryd.sizeOf26 trv rfl rfl rfl rfl rfl (by simp [Value.oneCell']) rfl ?_
  refine rNil ?_
  refine qSeq rfl ?_
  refine hRet ?_
  refine knP (L' := [srcP bk ca bs cc, blk bkl4 2 [.int .i64 (-1), .int .i64 0, .int .i64 1, .int .i64 2, .int .i64 3], blk bka3 26 [.slice ay1 ny1 cy1], RdR ndK ay1 ny1 Hy1 ((y1.set ((x2).toNat) (Nd.mk x4 ((y1.getD (x2).toNat dN).p0) ((y1.getD (x2).toNat dN).p1) ((y1.getD (x2).toNat dN).fo) ((y1.getD (x2).toNat dN).ch)))), blk bka1 26 [.slice ay1 ny1 cy1]]) (fun _ h => h.imp 3 rfl fun _ h => OwnR.rd h ndK.ok) ?_
  exact fun w hs => ⟨[_], ⟨⟨_, rfl, run_load_agg Tryd.isAgg26 Tryd.sizeOf26 rfl (cBs 4 rfl w hs)⟩, trivial⟩, ⟨(ay1, ny1, cy1, Hy1, (y1.set ((x2).toNat) (Nd.mk x4 ((y1.getD (x2).toNat dN).p0) ((y1.getD (x2).toNat dN).p1) ((y1.getD (x2).toNat dN).fo) ((y1.getD (x2).toNat dN).ch)))), rfl, by dsimp only; omega, hs.pick [0, 2]⟩⟩
 ·
  replace c1 : ¬ (x3 = 0) := c1
  refine hSeq ?_
  refine hReg (sq 0 (sq 1 sz)) (by kernel_rfl) ?_
  refine eql rfl rfl rfl rfl ?_
  refine asB rfl rfl rfl ?_
  refine rNil ?_
  refine qSeq rfl ?_
  refine hIfD rfl (fun c2 => ?_) (fun c2 => ?_)
  ·
   replace c2 : x3 = 1 := c2
   refine hDraw (Ls := [blk bka3 26 [.slice ay1 ny1 cy1]]) (by kernel_rfl) (sq 0 (sq 1 (sq 2 (sq 3 (sl 4 (sl 5 (sq 6 (sq 7 (sl 8 sz))))))))) (by kernel_rfl) (.cons _ (.cons_cons _ (.cons _ (.cons _ .slnil)))) ?_
   refine fld fl26_0 rfl rfl rfl ?_
   refine ldq Tryd.isAgg24 (cB 0 rfl rfl) rfl rfl rfl ?_
   refine mvI rfl rfl rfl ?_
   refine mvP rfl rfl rfl ?_
   refine bsl (fun _ _ h => h.pick [2]) rfl rfl rfl (bsl50_4 (.int .i64 _) (.int .i64 _) (.int .i64 _) (.int .i64 _) rfl rfl rfl rfl) (fun bkl5 hbkl5 => ?_)
   refine rPieces (L' := [srcP bk ca bs cc, blk bkl5 2 [.int .i64 (-1), .int .i64 0, .int .i64 100, .int .i64 101], blk bka3 26 [.slice ay1 ny1 cy1], OwnR ndK 52 2 ay1 ny1 cy1 Hy1 y1, blk bka1 26 [.slice none 0 0]]) (fun _ h => h.perm (pull (i := 1) rfl)) ?_
   refine callMK (α := Int) (Lf := [srcP bk ca bs cc, blk bkl5 2 [.int .i64 (-1), .int .i64 0, .int .i64 100, .int .i64 101]]) (Lr := [blk bka3 26 [.slice ay1 ny1 cy1], OwnR ndK 52 2 ay1 ny1 cy1 Hy1 y1, blk bka1 26 [.slice none 0 0]]) (good := fun x => x ∈ ([.int .i64 (-1), .int .i64 0, .int .i64 100, .int .i64 101] : List Value).map toI) (φs := fun x => [srcP bk ca bs cc, blk bkl5 2 [.int .i64 (-1), .int .i64 0, .int .i64 100, .int .i64 101]]) (val := fun x => .int .i64 x) rfl Tryd.call28 (by exact (fun _ _ h => h.pick [2])) rfl rfl (fun w M1 hs hk => src_pick bk ca bs cc bkl5 2 4 4 [.int .i64 (-1), .int .i64 0, .int .i64 100, .int .i64 101] w M1 hs (hk _ kcode) hok rfl rfl (by decide)) ?_
   intro x6 hx6
   try dsimp only at hx6
   refine rPieces (L' := [srcP bk ca bs cc, blk bkl5 2 [.int .i64 (-1), .int .i64 0, .int .i64 100, .int .i64 101], blk bka3 26 [.slice ay1 ny1 cy1], OwnR ndK 52 2 ay1 ny1 cy1 Hy1 y1, blk bka1 26 [.slice none 0 0]]) (fun _ h => h) ?_
   refine oxR (zn := (x2).toNat) 3 rfl el24 rfl rfl rfl rfl (by omega) (by omega) rfl ?_
   intro gk7 hgk7
   refine fld fl52_1 rfl rfl rfl ?_
   refine stRc (f := 1) (y1.getD (x2).toNat dN) (Nd.mk ((y1.getD (x2).toNat dN).pl) x6 ((y1.getD (x2).toNat dN).p1) ((y1.getD (x2).toNat dN).fo) ((y1.getD (x2).toNat dN).ch)) ((x2).toNat) 3 ndK.ok rfl hgk7 (nth dN (by omega)) rfl rfl Tryd.sizeOf2 (fun _ h => h.pick [2]) rfl rfl rfl rfl (by decide) rfl rfl ?_
   refine rNil ?_
   refine qSeq rfl ?_
   refine hSeq ?_
   refine hReg (sl 0 (sl 1 sz)) (by kernel_rfl) ?_
   refine ldAl Tryd.isAgg26 Tryd.sizeOf26 (cBs 2 rfl) trv rfl rfl rfl rfl ?_
   refine stAl (vs := [.slice ay1 ny1 cy1]) 4 rfl Tryd.sizeOf26 trv rfl rfl rfl rfl rfl (by simp [Value.oneCell']) rfl ?_
   refine rNil ?_
   refine qSeq rfl ?_
   refine hRet ?_
   refine knP (L' := [srcP bk ca bs cc, blk bkl5 2 [.int .i64 (-1), .int .i64 0, .int .i64 100, .int .i64 101], blk bka3 26 [.slice ay1 ny1 cy1], RdR ndK ay1 ny1 Hy1 ((y1.set ((x2).toNat) (Nd.mk ((y1.getD (x2).toNat dN).pl) x6 ((y1.getD (x2).toNat dN).p1) ((y1.getD (x2).toNat dN).fo) ((y1.getD (x2).toNat dN).ch)))), blk bka1 26 [.slice ay1 ny1 cy1]]) (fun _ h => h.imp 3 rfl fun _ h => OwnR.rd h ndK.ok) ?_
   exact fun w hs => ⟨[_], ⟨⟨_, rfl, run_load_agg Tryd.isAgg26 Tryd.sizeOf26 rfl (cBs 4 rfl w hs)⟩, trivial⟩, ⟨(ay1, ny1, cy1, Hy1, (y1.set ((x2).toNat) (Nd.mk ((y1.getD (x2).toNat dN).pl) x6 ((y1.getD (x2).toNat dN).p1) ((y1.getD (x2).toNat dN).fo) ((y1.getD (x2).toNat dN).ch)))), rfl, by dsimp only; omega, hs.pick [0, 2]⟩⟩
  ·
   replace c2 : ¬ (x3 = 1) := c2
   refine hSeq ?_
   refine hReg (sq 0 (sq 1 sz)) (by kernel_rfl) ?_
   refine eql rfl rfl rfl rfl ?_
   refine asB rfl rfl rfl ?_
   refine rNil ?_
   refine qSeq rfl ?_
   refine hIfD rfl (fun c3 => ?_) (fun c3 => ?_)
   ·
    replace c3 : x3 = 2 := c3
    refine hDraw (Ls := [blk bka3 26 [.slice ay1 ny1 cy1]]) (by kernel_rfl) (sq 0 (sq 1 (sq 2 (sq 3 (sl 4 (sl 5 (sq 6 (sq 7 (sl 8 sz))))))))) (by kernel_rfl) (.cons _ (.cons_cons _ (.cons _ (.cons _ .slnil)))) ?_
    refine fld fl26_0 rfl rfl rfl ?_
    refine ldq Tryd.isAgg24 (cB 0 rfl rfl) rfl rfl rfl ?_
    refine mvI rfl rfl rfl ?_
    refine mvP rfl rfl rfl ?_
    refine bsl (fun _ _ h => h.pick [2]) rfl rfl rfl (bsl50_4 (.int .i64 _) (.int .i64 _) (.int .i64 _) (.int .i64 _) rfl rfl rfl rfl) (fun bkl6 hbkl6 => ?_)
    refine rPieces (L' := [srcP bk ca bs cc, blk bkl6 2 [.int .i64 (-2), .int .i64 (-1), .int .i64 0, .int .i64 2], blk bka3 26 [.slice ay1 ny1 cy1], OwnR ndK 52 2 ay1 ny1 cy1 Hy1 y1, blk bka1 26 [.slice none 0 0]]) (fun _ h => h.perm (pull (i := 1) rfl)) ?_
    refine callMK (α := Int) (Lf := [srcP bk ca bs cc, blk bkl6 2 [.int .i64 (-2), .int .i64 (-1), .int .i64 0, .int .i64 2]]) (Lr := [blk bka3 26 [.slice ay1 ny1 cy1], OwnR ndK 52 2 ay1 ny1 cy1 Hy1 y1, blk bka1 26 [.slice none 0 0]]) (good := fun x => x ∈ ([.int .i64 (-2), .int .i64 (-1), .int .i64 0, .int .i64 2] : List Value).map toI) (φs := fun x => [srcP bk ca bs cc, blk bkl6 2 [.int .i64 (-2), .int .i64 (-1), .int .i64 0, .int .i64 2]]) (val := fun x => .int .i64 x) rfl Tryd.call28 (by exact (fun _ _ h => h.pick [2])) rfl rfl (fun w M1 hs hk => src_pick bk ca bs cc bkl6 2 4 4 [.int .i64 (-2), .int .i64 (-1), .int .i64 0, .int .i64 2] w M1 hs (hk _ kcode) hok rfl rfl (by decide)) ?_
    intro x8 hx8
    try dsimp only at hx8
    refine rPieces (L' := [srcP bk ca bs cc, blk bkl6 2 [.int .i64 (-2), .int .i64 (-1), .int .i64 0, .int .i64 2], blk bka3 26 [.slice ay1 ny1 cy1], OwnR ndK 52 2 ay1 ny1 cy1 Hy1 y1, blk bka1 26 [.slice none 0 0]]) (fun _ h => h) ?_
    refine oxR (zn := (x2).toNat) 3 rfl el24 rfl rfl rfl rfl (by omega) (by omega) rfl ?_
    intro gk9 hgk9
    refine fld fl52_3 rfl rfl rfl ?_
    refine stRc (f := 3) (y1.getD (x2).toNat dN) (Nd.mk ((y1.getD (x2).toNat dN).pl) ((y1.getD (x2).toNat dN).p0) ((y1.getD (x2).toNat dN).p1) x8 ((y1.getD (x2).toNat dN).ch)) ((x2).toNat) 3 ndK.ok rfl hgk9 (nth dN (by omega)) rfl rfl Tryd.sizeOf2 (fun _ h => h.pick [2]) rfl rfl rfl rfl (by decide) rfl rfl ?_
    refine rNil ?_
    refine qSeq rfl ?_
    refine hSeq ?_
    refine hReg (sl 0 (sl 1 sz)) (by kernel_rfl) ?_
    refine ldAl Tryd.isAgg26 Tryd.sizeOf26 (cBs 2 rfl) trv rfl rfl rfl rfl ?_
    refine stAl (vs := [.slice ay1 ny1 cy1]) 4 rfl Tryd.sizeOf26 trv rfl rfl rfl rfl rfl (by simp [Value.oneCell']) rfl ?_
    refine rNil ?_
    refine qSeq rfl ?_
    refine hRet ?_
    refine knP (L' := [srcP bk ca bs cc, blk bkl6 2 [.int .i64 (-2), .int .i64 (-1), .int .i64 0, .int .i64 2], blk bka3 26 [.slice ay1 ny1 cy1], RdR ndK ay1 ny1 Hy1 ((y1.set ((x2).toNat) (Nd.mk ((y1.getD (x2).toNat dN).pl) ((y1.getD (x2).toNat dN).p0) ((y1.getD (x2).toNat dN).p1) x8 ((y1.getD (x2).toNat dN).ch)))), blk bka1 26 [.slice ay1 ny1 cy1]]) (fun _ h => h.imp 3 rfl fun _ h => OwnR.rd h ndK.ok) ?_
    exact fun w hs => ⟨[_], ⟨⟨_, rfl, run_load_agg Tryd.isAgg26 Tryd.sizeOf26 rfl (cBs 4 rfl w hs)⟩, trivial⟩, ⟨(ay1, ny1, cy1, Hy1, (y1.set ((x2).toNat) (Nd.mk ((y1.getD (x2).toNat dN).pl) ((y1.getD (x2).toNat dN).p0) ((y1.getD (x2).toNat dN).p1) x8 ((y1.getD (x2).toNat dN).ch)))), rfl, by dsimp only; omega, hs.pick [0, 2]⟩⟩
   ·
    replace c3 : ¬ (x3 = 2) := c3
    refine hSeq ?_
    refine hReg (sq 0 (sq 1 sz)) (by kernel_rfl) ?_
    refine eql rfl rfl rfl rfl ?_
    refine asB rfl rfl rfl ?_
    refine rNil ?_
    refine qSeq rfl ?_
    refine hIfD rfl (fun c4 => ?_) (fun c4 => ?_)
    ·
     replace c4 : x3 = 3 := c4
     refine hReg (sq 0 (sl 1 (sl 2 (sq 3 (sq 4 (sl 5 sz)))))) (by kernel_rfl) ?_
     refine fld fl26_0 rfl rfl rfl ?_
     refine ldl Tryd.isAgg24 (cB 1 rfl rfl) trv rfl rfl rfl ?_
     refine bsl trv1 rfl rfl rfl (bsl50_2 (.int .i64 _) (.int .i64 _) rfl rfl) (fun bkl7 hbkl7 => ?_)
     refine oxR (zn := 0) 3 rfl el24 rfl rfl rfl rfl (by omega) (by omega) rfl ?_
     intro gk10 hgk10
     refine fld fl52_4 rfl rfl rfl ?_
     refine rPieces (fun _ h => Sep.litI h 0 [1, 1] rfl rfl rfl) ?_
     refine stRk (f := 4) (hd := ((some ⟨bkl7, 0, none⟩), 2)) (y1.getD 0 dN) (Nd.mk ((y1.getD 0 dN).pl) ((y1.getD 0 dN).p0) ((y1.getD 0 dN).p1) ((y1.getD 0 dN).fo) [1, 1]) 0 3 0 ndK.ok rfl rfl hgk10 (nth dN (by omega)) Tryd.sizeOf50 trv rfl rfl rfl rfl rfl (fun h => by first | rfl | (dsimp only [ndK, ndC] at h ⊢; rw [h]; rfl)) rfl (by decide) ?_
     refine rNil ?_
     refine qSeq rfl ?_
     refine hSeq ?_
     refine hReg (sl 0 (sl 1 sz)) (by kernel_rfl) ?_
     refine ldAl Tryd.isAgg26 Tryd.sizeOf26 (cBs 2 rfl) trv rfl rfl rfl rfl ?_
     refine stAl (vs := [.slice ay1 ny1 cy1]) 3 rfl Tryd.sizeOf26 trv rfl rfl rfl rfl rfl (by simp [Value.oneCell']) rfl ?_
     refine rNil ?_
     refine qSeq rfl ?_
     refine hRet ?_
     refine knP (L' := [RdR ndK ay1 ny1 ((hset Hy1 0 ((some ⟨bkl7, 0, none⟩), 2))) ((y1.set 0 ((Nd.mk ((y1.getD 0 dN).pl) ((y1.getD 0 dN).p0) ((y1.getD 0 dN).p1) ((y1.getD 0 dN).fo) [1, 1])))), srcP bk ca bs cc, blk bka3 26 [.slice ay1 ny1 cy1], blk bka1 26 [.slice ay1 ny1 cy1]]) (fun _ h => h.imp 0 rfl fun _ h => OwnR.rd h ndK.ok) ?_
     exact fun w hs => ⟨[_], ⟨⟨_, rfl, run_load_agg Tryd.isAgg26 Tryd.sizeOf26 rfl (cBs 3 rfl w hs)⟩, trivial⟩, ⟨(ay1, ny1, cy1, (hset Hy1 0 ((some ⟨bkl7, 0, none⟩), 2)), (y1.set 0 ((Nd.mk ((y1.getD 0 dN).pl) ((y1.getD 0 dN).p0) ((y1.getD 0 dN).p1) ((y1.getD 0 dN).fo) [1, 1])))), rfl, by dsimp only; omega, hs.pick [1, 0]⟩⟩
    ·
     replace c4 : ¬ (x3 = 3) := c4
     refine hSeq ?_
     refine hReg (sq 0 (sq 1 sz)) (by kernel_rfl) ?_
     refine eql rfl rfl rfl rfl ?_
     refine asB rfl rfl rfl ?_
     refine rNil ?_
     refine qSeq rfl ?_
     refine hIfD rfl (fun c5 => ?_) (fun c5 => ?_)
     ·
      replace c5 : x3 = 4 := c5
      refine hSeq ?_
      refine hReg (sq 0 (sl 1 (sq 2 (sq 3 (sq 4 (sl 5 sz)))))) (by kernel_rfl) ?_
      refine fld fl26_0 rfl rfl rfl ?_
      refine ldl Tryd.isAgg24 (cB 1 rfl rfl) trv rfl rfl rfl ?_
      refine mvI rfl rfl rfl ?_
      refine slHiR (zn := ((x2).toNat)) 2 rfl el24 rfl rfl rfl rfl (by omega) (by omega) rfl ?_
      refine bld rfl rfl rfl (bld26_0 (.slice _ _ _) rfl) ?_
      refine stAl (vs := [.slice ay1 ((x2).toNat) cy1]) 3 rfl Tryd.sizeOf26 trv rfl rfl rfl rfl rfl (by simp [Value.oneCell']) rfl ?_
      refine rNil ?_
      refine qSeq rfl ?_
      refine hRet ?_
      refine knP (L' := [srcP bk ca bs cc, blk bka3 26 [.slice ay1 ny1 cy1], RdR ndK ay1 ((x2).toNat) Hy1 ((List.take ((x2).toNat) y1)), blk bka1 26 [.slice ay1 ((x2).toNat) cy1]]) (fun _ h => h.imp 2 rfl fun _ h => (OwnR.rd h ndK.ok).take (by omega)) ?_
      exact fun w hs => ⟨[_], ⟨⟨_, rfl, run_load_agg Tryd.isAgg26 Tryd.sizeOf26 rfl (cBs 3 rfl w hs)⟩, trivial⟩, ⟨(ay1, (x2).toNat, cy1, Hy1, (List.take ((x2).toNat) y1)), rfl, by dsimp only; omega, hs.pick [0, 1]⟩⟩
     ·
      replace c5 : ¬ (x3 = 4) := c5
      refine hSeq ?_
      refine hReg (sq 0 (sq 1 sz)) (by kernel_rfl) ?_
      refine eql rfl rfl rfl rfl ?_
      refine asB rfl rfl rfl ?_
      refine rNil ?_
      refine qSeq rfl ?_
      refine hIfD rfl (fun c6 => ?_) (fun c6 => ?_)
      ·
       replace c6 : x3 = 5 := c6
       refine hSeq ?_
       refine hDraw (Ls := [blk bka3 26 [.slice ay1 ny1 cy1], OwnR ndK 52 2 ay1 ny1 cy1 Hy1 y1]) (by kernel_rfl) (sq 1 (sq 2 (sq 4 (sq 5 (sq 6 (sq 7 (sq 8 (sq 9 (sq 10 (sq 11 (.alt (sl 0 (.alt (sl 3 (sl 12 (sl 13 (sq 14 (sf 15 sz))))) (sl 12 (sl 3 (sl 13 (sq 14 (sf 15 sz))))))) (sl 12 (sl 0 (sl 3 (sl 13 (sq 14 (sf 15 sz))))))))))))))))) (by kernel_rfl) (.cons _ (.cons_cons _ (.cons_cons _ (.cons _ .slnil)))) ?_
       refine fld fl26_0 rfl rfl rfl ?_
       refine ldq Tryd.isAgg24 (cB 0 rfl rfl) rfl rfl rfl ?_
       refine fld fl26_0 rfl rfl rfl ?_
       refine ldq Tryd.isAgg24 (cB 0 rfl rfl) rfl rfl rfl ?_
       refine fld fl26_0 rfl rfl rfl ?_
       refine ldq Tryd.isAgg24 (cB 0 rfl rfl) rfl rfl rfl ?_
       refine lenS Tryd.runUnderlying24 rfl rfl rfl ?_
       refine sub rfl rfl rfl rfl (by omega) ?_
       refine ixRq (zn := (((ny1 : Int) - 1)).toNat) (y1.getD ((((ny1 : Int) - 1)).toNat) dN) el24 ((Kn.at_ 1 rfl).imp fun _ h => OwnR.rd h ndK.ok) (fun _ h => h.pick [1, 1]) rfl rfl rfl rfl (by omega) (by omega) rfl (nth dN (by omega)) ?_
       intro be11 oe11 e11
       refine ldAq Tryd.isAgg52 Tryd.sizeOf52 (e11) rfl rfl rfl rfl ?_
       refine rAlt ?_ ?_
       ·
        refine bsl (fun _ _ h => h.pick [2, 2]) rfl rfl rfl (bsl24_0) (fun bkl8 hbkl8 => ?_)
        refine rAlt ?_ ?_
        ·
         refine rPieces (L' := [Own 52 ndK.m (some ⟨bkl8, 0, none⟩) 0 0 [], srcP bk ca bs cc, blk bka3 26 [.slice ay1 ny1 cy1], OwnR ndK 52 2 ay1 ny1 cy1 Hy1 y1, blk bka1 26 [.slice none 0 0]]) (fun _ h => h.imp 0 rfl fun _ h => litX h) ?_
         refine rKnow (fun w hs => OwnR.flat_len (show OwnR ndK 52 2 ay1 ny1 cy1 Hy1 y1 w from hs.at_ 3 rfl)) (fun hflq12 => ?_)
         refine aplX (k := ny1) (news := (rowsV ndK Hy1 y1).flatten) 0 rfl (fun w hs => OwnR.cellsAt (show OwnR ndK 52 2 ay1 ny1 cy1 Hy1 y1 w from hs.at_ 3 rfl)) hflq12 (rowsV_one ndK.ok) mk24 (fun _ _ h => h.pick [2, 2]) rfl rfl rfl rfl (by omega) ?_
         intro aq12 cq12
         refine bsl (fun _ _ h => h.pick [3, 3]) rfl rfl rfl (bsl24_1 (.int .i64 ((y1.getD ((((ny1 : Int) - 1)).toNat) dN).pl)) (.int .i64 ((y1.getD ((((ny1 : Int) - 1)).toNat) dN).p0)) (.int .i64 ((y1.getD ((((ny1 : Int) - 1)).toNat) dN).p1)) (.int .i64 ((y1.getD ((((ny1 : Int) - 1)).toNat) dN).fo)) (.slice ((Hy1 ((((ny1 : Int) - 1)).toNat)).1) (((y1.getD ((((ny1 : Int) - 1)).toNat) dN).ch).length) ((Hy1 ((((ny1 : Int) - 1)).toNat)).2)) rfl rfl rfl rfl rfl) (fun bkl9 hbkl9 => ?_)
         refine apl (news := ndK.cells (y1.getD ((((ny1 : Int) - 1)).toNat) dN) (Hy1 (((((ny1 : Int) - 1)).toNat)))) 1 0 rfl rfl mk24 (fun _ _ h => h.pick [3, 3]) rfl rfl rfl rfl (ndK.ok.len _ _) (ndK.ok.one _ _) (by omega) ?_
         intro aq13 cq13
         refine bld rfl rfl rfl (bld26_0 (.slice _ _ _) rfl) ?_
         refine stAf (vs := [.slice aq13 (ny1 + 1) cq13]) 5 rfl Tryd.sizeOf26 rfl rfl rfl rfl rfl (by simp [Value.oneCell']) rfl ?_
         refine rNil ?_
         refine qSeq rfl ?_
         refine hRet ?_
         refine knP (L' := [OwnR ndK 52 2 ay1 ny1 cy1 Hy1 y1, blk bkl9 52 [.int .i64 ((y1.getD ((((ny1 : Int) - 1)).toNat) dN).pl), .int .i64 ((y1.getD ((((ny1 : Int) - 1)).toNat) dN).p0), .int .i64 ((y1.getD ((((ny1 : Int) - 1)).toNat) dN).p1), .int .i64 ((y1.getD ((((ny1 : Int) - 1)).toNat) dN).fo), .slice ((Hy1 ((((ny1 : Int) - 1)).toNat)).1) (((y1.getD ((((ny1 : Int) - 1)).toNat) dN).ch).length) ((Hy1 ((((ny1 : Int) - 1)).toNat)).2)], Own 52 ndK.m aq13 (ny1 + 1) cq13 (((rowsV ndK Hy1 y1).flatten ++ ndK.cells (y1.getD ((((ny1 : Int) - 1)).toNat) dN) (Hy1 (((((ny1 : Int) - 1)).toNat))))), srcP bk ca bs cc, blk bka3 26 [.slice ay1 ny1 cy1], blk bka1 26 [.slice aq13 (ny1 + 1) cq13]]) (fun _ h => h.perm (pull (i := 4) rfl)) ?_
         refine knP (L' := [Own 52 ndK.m aq13 (ny1 + 1) cq13 (((rowsV ndK Hy1 y1).flatten ++ ndK.cells (y1.getD ((((ny1 : Int) - 1)).toNat) dN) (Hy1 (((((ny1 : Int) - 1)).toNat))))), OwnR ndK 52 2 ay1 ny1 cy1 Hy1 y1, blk bkl9 52 [.int .i64 ((y1.getD ((((ny1 : Int) - 1)).toNat) dN).pl), .int .i64 ((y1.getD ((((ny1 : Int) - 1)).toNat) dN).p0), .int .i64 ((y1.getD ((((ny1 : Int) - 1)).toNat) dN).p1), .int .i64 ((y1.getD ((((ny1 : Int) - 1)).toNat) dN).fo), .slice ((Hy1 ((((ny1 : Int) - 1)).toNat)).1) (((y1.getD ((((ny1 : Int) - 1)).toNat) dN).ch).length) ((Hy1 ((((ny1 : Int) - 1)).toNat)).2)], srcP bk ca bs cc, blk bka3 26 [.slice ay1 ny1 cy1], blk bka1 26 [.slice aq13 (ny1 + 1) cq13]]) (fun _ h => h.perm (pull (i := 2) rfl)) ?_
         refine knP (L' := [RdR ndK aq13 (ny1 + 1) ((hset Hy1 ny1 (Hy1 (((((ny1 : Int) - 1)).toNat))))) ((y1 ++ [(y1.getD ((((ny1 : Int) - 1)).toNat) dN)])), blk bkl9 52 [.int .i64 ((y1.getD ((((ny1 : Int) - 1)).toNat) dN).pl), .int .i64 ((y1.getD ((((ny1 : Int) - 1)).toNat) dN).p0), .int .i64 ((y1.getD ((((ny1 : Int) - 1)).toNat) dN).p1), .int .i64 ((y1.getD ((((ny1 : Int) - 1)).toNat) dN).fo), .slice ((Hy1 ((((ny1 : Int) - 1)).toNat)).1) (((y1.getD ((((ny1 : Int) - 1)).toNat) dN).ch).length) ((Hy1 ((((ny1 : Int) - 1)).toNat)).2)], srcP bk ca bs cc, blk bka3 26 [.slice ay1 ny1 cy1], blk bka1 26 [.slice aq13 (ny1 + 1) cq13]]) (fun _ h => Sep.copyRd ndK.ok h (nth dN (by omega))) ?_
         exact fun w hs => ⟨[_], ⟨⟨_, rfl, run_load_agg Tryd.isAgg26 Tryd.sizeOf26 rfl (cBs 4 rfl w hs)⟩, trivial⟩, ⟨(aq13, (ny1 + 1), cq13, (hset Hy1 ny1 (Hy1 (((((ny1 : Int) - 1)).toNat)))), (y1 ++ [(y1.getD ((((ny1 : Int) - 1)).toNat) dN)])), rfl, by dsimp only; omega, hs.pick [2, 0]⟩⟩
        ·
         refine bsl (fun _ _ h => h.pick [3, 3]) rfl rfl rfl (bsl24_1 (.int .i64 ((y1.getD ((((ny1 : Int) - 1)).toNat) dN).pl)) (.int .i64 ((y1.getD ((((ny1 : Int) - 1)).toNat) dN).p0)) (.int .i64 ((y1.getD ((((ny1 : Int) - 1)).toNat) dN).p1)) (.int .i64 ((y1.getD ((((ny1 : Int) - 1)).toNat) dN).fo)) (.slice ((Hy1 ((((ny1 : Int) - 1)).toNat)).1) (((y1.getD ((((ny1 : Int) - 1)).toNat) dN).ch).length) ((Hy1 ((((ny1 : Int) - 1)).toNat)).2)) rfl rfl rfl rfl rfl) (fun bkl10 hbkl10 => ?_)
         refine rPieces (L' := [blk bkl10 52 [.int .i64 ((y1.getD ((((ny1 : Int) - 1)).toNat) dN).pl), .int .i64 ((y1.getD ((((ny1 : Int) - 1)).toNat) dN).p0), .int .i64 ((y1.getD ((((ny1 : Int) - 1)).toNat) dN).p1), .int .i64 ((y1.getD ((((ny1 : Int) - 1)).toNat) dN).fo), .slice ((Hy1 ((((ny1 : Int) - 1)).toNat)).1) (((y1.getD ((((ny1 : Int) - 1)).toNat) dN).ch).length) ((Hy1 ((((ny1 : Int) - 1)).toNat)).2)], Own 52 ndK.m (some ⟨bkl8, 0, none⟩) 0 0 [], srcP bk ca bs cc, blk bka3 26 [.slice ay1 ny1 cy1], OwnR ndK 52 2 ay1 ny1 cy1 Hy1 y1, blk bka1 26 [.slice none 0 0]]) (fun _ h => h.imp 1 rfl fun _ h => litX h) ?_
         refine rKnow (fun w hs => OwnR.flat_len (show OwnR ndK 52 2 ay1 ny1 cy1 Hy1 y1 w from hs.at_ 4 rfl)) (fun hflq14 => ?_)
         refine aplX (k := ny1) (news := (rowsV ndK Hy1 y1).flatten) 1 rfl (fun w hs => OwnR.cellsAt (show OwnR ndK 52 2 ay1 ny1 cy1 Hy1 y1 w from hs.at_ 4 rfl)) hflq14 (rowsV_one ndK.ok) mk24 (fun _ _ h => h.pick [3, 3]) rfl rfl rfl rfl (by omega) ?_
         intro aq14 cq14
         refine apl (news := ndK.cells (y1.getD ((((ny1 : Int) - 1)).toNat) dN) (Hy1 (((((ny1 : Int) - 1)).toNat)))) 1 0 rfl rfl mk24 (fun _ _ h => h.pick [3, 3]) rfl rfl rfl rfl (ndK.ok.len _ _) (ndK.ok.one _ _) (by omega) ?_
         intro aq15 cq15
         refine bld rfl rfl rfl (bld26_0 (.slice _ _ _) rfl) ?_
         refine stAf (vs := [.slice aq15 (ny1 + 1) cq15]) 5 rfl Tryd.sizeOf26 rfl rfl rfl rfl rfl (by simp [Value.oneCell']) rfl ?_
         refine rNil ?_
         refine qSeq rfl ?_
         refine hRet ?_
         refine knP (L' := [OwnR ndK 52 2 ay1 ny1 cy1 Hy1 y1, blk bkl10 52 [.int .i64 ((y1.getD ((((ny1 : Int) - 1)).toNat) dN).pl), .int .i64 ((y1.getD ((((ny1 : Int) - 1)).toNat) dN).p0), .int .i64 ((y1.getD ((((ny1 : Int) - 1)).toNat) dN).p1), .int .i64 ((y1.getD ((((ny1 : Int) - 1)).toNat) dN).fo), .slice ((Hy1 ((((ny1 : Int) - 1)).toNat)).1) (((y1.getD ((((ny1 : Int) - 1)).toNat) dN).ch).length) ((Hy1 ((((ny1 : Int) - 1)).toNat)).2)], Own 52 ndK.m aq15 (ny1 + 1) cq15 (((rowsV ndK Hy1 y1).flatten ++ ndK.cells (y1.getD ((((ny1 : Int) - 1)).toNat) dN) (Hy1 (((((ny1 : Int) - 1)).toNat))))), srcP bk ca bs cc, blk bka3 26 [.slice ay1 ny1 cy1], blk bka1 26 [.slice aq15 (ny1 + 1) cq15]]) (fun _ h => h.perm (pull (i := 4) rfl)) ?_
         refine knP (L' := [Own 52 ndK.m aq15 (ny1 + 1) cq15 (((rowsV ndK Hy1 y1).flatten ++ ndK.cells (y1.getD ((((ny1 : Int) - 1)).toNat) dN) (Hy1 (((((ny1 : Int) - 1)).toNat))))), OwnR ndK 52 2 ay1 ny1 cy1 Hy1 y1, blk bkl10 52 [.int .i64 ((y1.getD ((((ny1 : Int) - 1)).toNat) dN).pl), .int .i64 ((y1.getD ((((ny1 : Int) - 1)).toNat) dN).p0), .int .i64 ((y1.getD ((((ny1 : Int) - 1)).toNat) dN).p1), .int .i64 ((y1.getD ((((ny1 : Int) - 1)).toNat) dN).fo), .slice ((Hy1 ((((ny1 : Int) - 1)).toNat)).1) (((y1.getD ((((ny1 : Int) - 1)).toNat) dN).ch).length) ((Hy1 ((((ny1 : Int) - 1)).toNat)).2)], srcP bk ca bs cc, blk bka3 26 [.slice ay1 ny1 cy1], blk bka1 26 [.slice aq15 (ny1 + 1) cq15]]) (fun _ h => h.perm (pull (i := 2) rfl)) ?_
         refine knP (L' := [RdR ndK aq15 (ny1 + 1) ((hset Hy1 ny1 (Hy1 (((((ny1 : Int) - 1)).toNat))))) ((y1 ++ [(y1.getD ((((ny1 : Int) - 1)).toNat) dN)])), blk bkl10 52 [.int .i64 ((y1.getD ((((ny1 : Int) - 1)).toNat) dN).pl), .int .i64 ((y1.getD ((((ny1 : Int) - 1)).toNat) dN).p0), .int .i64 ((y1.getD ((((ny1 : Int) - 1)).toNat) dN).p1), .int .i64 ((y1.getD ((((ny1 : Int) - 1)).toNat) dN).fo), .slice ((Hy1 ((((ny1 : Int) - 1)).toNat)).1) (((y1.getD ((((ny1 : Int) - 1)).toNat) dN).ch).length) ((Hy1 ((((ny1 : Int) - 1)).toNat)).2)], srcP bk ca bs cc, blk bka3 26 [.slice ay1 ny1 cy1], blk bka1 26 [.slice aq15 (ny1 + 1) cq15]]) (fun _ h => Sep.copyRd ndK.ok h (nth dN (by omega))) ?_
         exact fun w hs => ⟨[_], ⟨⟨_, rfl, run_load_agg Tryd.isAgg26 Tryd.sizeOf26 rfl (cBs 4 rfl w hs)⟩, trivial⟩, ⟨(aq15, (ny1 + 1), cq15, (hset Hy1 ny1 (Hy1 (((((ny1 : Int) - 1)).toNat)))), (y1 ++ [(y1.getD ((((ny1 : Int) - 1)).toNat) dN)])), rfl, by dsimp only; omega, hs.pick [2, 0]⟩⟩
       ·
        refine bsl (fun _ _ h => h.pick [2, 2]) rfl rfl rfl (bsl24_1 (.int .i64 ((y1.getD ((((ny1 : Int) - 1)).toNat) dN).pl)) (.int .i64 ((y1.getD ((((ny1 : Int) - 1)).toNat) dN).p0)) (.int .i64 ((y1.getD ((((ny1 : Int) - 1)).toNat) dN).p1)) (.int .i64 ((y1.getD ((((ny1 : Int) - 1)).toNat) dN).fo)) (.slice ((Hy1 ((((ny1 : Int) - 1)).toNat)).1) (((y1.getD ((((ny1 : Int) - 1)).toNat) dN).ch).length) ((Hy1 ((((ny1 : Int) - 1)).toNat)).2)) rfl rfl rfl rfl rfl) (fun bkl11 hbkl11 => ?_)
        refine bsl (fun _ _ h => h.pick [3, 3]) rfl rfl rfl (bsl24_0) (fun bkl12 hbkl12 => ?_)
        refine rPieces (L' := [Own 52 ndK.m (some ⟨bkl12, 0, none⟩) 0 0 [], blk bkl11 52 [.int .i64 ((y1.getD ((((ny1 : Int) - 1)).toNat) dN).pl), .int .i64 ((y1.getD ((((ny1 : Int) - 1)).toNat) dN).p0), .int .i64 ((y1.getD ((((ny1 : Int) - 1)).toNat) dN).p1), .int .i64 ((y1.getD ((((ny1 : Int) - 1)).toNat) dN).fo), .slice ((Hy1 ((((ny1 : Int) - 1)).toNat)).1) (((y1.getD ((((ny1 : Int) - 1)).toNat) dN).ch).length) ((Hy1 ((((ny1 : Int) - 1)).toNat)).2)], srcP bk ca bs cc, blk bka3 26 [.slice ay1 ny1 cy1], OwnR ndK 52 2 ay1 ny1 cy1 Hy1 y1, blk bka1 26 [.slice none 0 0]]) (fun _ h => h.imp 0 rfl fun _ h => litX h) ?_
        refine rKnow (fun w hs => OwnR.flat_len (show OwnR ndK 52 2 ay1 ny1 cy1 Hy1 y1 w from hs.at_ 4 rfl)) (fun hflq16 => ?_)
        refine aplX (k := ny1) (news := (rowsV ndK Hy1 y1).flatten) 0 rfl (fun w hs => OwnR.cellsAt (show OwnR ndK 52 2 ay1 ny1 cy1 Hy1 y1 w from hs.at_ 4 rfl)) hflq16 (rowsV_one ndK.ok) mk24 (fun _ _ h => h.pick [3, 3]) rfl rfl rfl rfl (by omega) ?_
        intro aq16 cq16
        refine apl (news := ndK.cells (y1.getD ((((ny1 : Int) - 1)).toNat) dN) (Hy1 (((((ny1 : Int) - 1)).toNat)))) 0 1 rfl rfl mk24 (fun _ _ h => h.pick [3, 3]) rfl rfl rfl rfl (ndK.ok.len _ _) (ndK.ok.one _ _) (by omega) ?_
        intro aq17 cq17
        refine bld rfl rfl rfl (bld26_0 (.slice _ _ _) rfl) ?_
        refine stAf (vs := [.slice aq17 (ny1 + 1) cq17]) 5 rfl Tryd.sizeOf26 rfl rfl rfl rfl rfl (by simp [Value.oneCell']) rfl ?_
        refine rNil ?_
        refine qSeq rfl ?_
        refine hRet ?_
        refine knP (L' := [OwnR ndK 52 2 ay1 ny1 cy1 Hy1 y1, Own 52 ndK.m aq17 (ny1 + 1) cq17 (((rowsV ndK Hy1 y1).flatten ++ ndK.cells (y1.getD ((((ny1 : Int) - 1)).toNat) dN) (Hy1 (((((ny1 : Int) - 1)).toNat))))), blk bkl11 52 [.int .i64 ((y1.getD ((((ny1 : Int) - 1)).toNat) dN).pl), .int .i64 ((y1.getD ((((ny1 : Int) - 1)).toNat) dN).p0), .int .i64 ((y1.getD ((((ny1 : Int) - 1)).toNat) dN).p1), .int .i64 ((y1.getD ((((ny1 : Int) - 1)).toNat) dN).fo), .slice ((Hy1 ((((ny1 : Int) - 1)).toNat)).1) (((y1.getD ((((ny1 : Int) - 1)).toNat) dN).ch).length) ((Hy1 ((((ny1 : Int) - 1)).toNat)).2)], srcP bk ca bs cc, blk bka3 26 [.slice ay1 ny1 cy1], blk bka1 26 [.slice aq17 (ny1 + 1) cq17]]) (fun _ h => h.perm (pull (i := 4) rfl)) ?_
        refine knP (L' := [Own 52 ndK.m aq17 (ny1 + 1) cq17 (((rowsV ndK Hy1 y1).flatten ++ ndK.cells (y1.getD ((((ny1 : Int) - 1)).toNat) dN) (Hy1 (((((ny1 : Int) - 1)).toNat))))), OwnR ndK 52 2 ay1 ny1 cy1 Hy1 y1, blk bkl11 52 [.int .i64 ((y1.getD ((((ny1 : Int) - 1)).toNat) dN).pl), .int .i64 ((y1.getD ((((ny1 : Int) - 1)).toNat) dN).p0), .int .i64 ((y1.getD ((((ny1 : Int) - 1)).toNat) dN).p1), .int .i64 ((y1.getD ((((ny1 : Int) - 1)).toNat) dN).fo), .slice ((Hy1 ((((ny1 : Int) - 1)).toNat)).1) (((y1.getD ((((ny1 : Int) - 1)).toNat) dN).ch).length) ((Hy1 ((((ny1 : Int) - 1)).toNat)).2)], srcP bk ca bs cc, blk bka3 26 [.slice ay1 ny1 cy1], blk bka1 26 [.slice aq17 (ny1 + 1) cq17]]) (fun _ h => h.perm (pull (i := 1) rfl)) ?_
        refine knP (L' := [RdR ndK aq17 (ny1 + 1) ((hset Hy1 ny1 (Hy1 (((((ny1 : Int) - 1)).toNat))))) ((y1 ++ [(y1.getD ((((ny1 : Int) - 1)).toNat) dN)])), blk bkl11 52 [.int .i64 ((y1.getD ((((ny1 : Int) - 1)).toNat) dN).pl), .int .i64 ((y1.getD ((((ny1 : Int) - 1)).toNat) dN).p0), .int .i64 ((y1.getD ((((ny1 : Int) - 1)).toNat) dN).p1), .int .i64 ((y1.getD ((((ny1 : Int) - 1)).toNat) dN).fo), .slice ((Hy1 ((((ny1 : Int) - 1)).toNat)).1) (((y1.getD ((((ny1 : Int) - 1)).toNat) dN).ch).length) ((Hy1 ((((ny1 : Int) - 1)).toNat)).2)], srcP bk ca bs cc, blk bka3 26 [.slice ay1 ny1 cy1], blk bka1 26 [.slice aq17 (ny1 + 1) cq17]]) (fun _ h => Sep.copyRd ndK.ok h (nth dN (by omega))) ?_
        exact fun w hs => ⟨[_], ⟨⟨_, rfl, run_load_agg Tryd.isAgg26 Tryd.sizeOf26 rfl (cBs 4 rfl w hs)⟩, trivial⟩, ⟨(aq17, (ny1 + 1), cq17, (hset Hy1 ny1 (Hy1 (((((ny1 : Int) - 1)).toNat)))), (y1 ++ [(y1.getD ((((ny1 : Int) - 1)).toNat) dN)])), rfl, by dsimp only; omega, hs.pick [2, 0]⟩⟩
      ·
       replace c6 : ¬ (x3 = 5) := c6
       refine hSkip ?_
       refine qSeq rfl ?_
       refine hSeq ?_
       refine hReg (sl 0 (sl 1 sz)) (by kernel_rfl) ?_
       refine ldAl Tryd.isAgg26 Tryd.sizeOf26 (cBs 1 rfl) trv rfl rfl rfl rfl ?_
       refine stAl (vs := [.slice ay1 ny1 cy1]) 3 rfl Tryd.sizeOf26 trv rfl rfl rfl rfl rfl (by simp [Value.oneCell']) rfl ?_
       refine rNil ?_
       refine qSeq rfl ?_
       refine hRet ?_
       refine knP (L' := [srcP bk ca bs cc, blk bka3 26 [.slice ay1 ny1 cy1], RdR ndK ay1 ny1 Hy1 y1, blk bka1 26 [.slice ay1 ny1 cy1]]) (fun _ h => h.imp 2 rfl fun _ h => OwnR.rd h ndK.ok) ?_
       exact fun w hs => ⟨[_], ⟨⟨_, rfl, run_load_agg Tryd.isAgg26 Tryd.sizeOf26 rfl (cBs 3 rfl w hs)⟩, trivial⟩, ⟨(ay1, ny1, cy1, Hy1, y1), rfl, by dsimp only; omega, hs.pick [0, 1]⟩⟩
end Go.Proofs.YtjengglpbdgmnaaDoor
/- Contracts of what laws draw. Their conditions stand in each. -/
namespace Go.Proofs.YtjengglpbdgmnaaDoor
open Go Go.RowKit V
set_option linter.unusedVariables false
set_option linter.unusedSimpArgs false
set_option maxRecDepth 100000
theorem laws_big_c (ca : Option Addr) (bs : List Int) (cc : Nat) (w : World) (rcode : CellsAt ca (bs.map (Value.int .u8)) w) :
  Calls Tryd.prog 5 #[.slice ca bs.length cc] w (Ret fun v w' => v = .bool (decide (4096 < ((bs.length : Nat) : Int))) ∧ Ext w w') := by
 have kcode : Kn w none_ [] (CellsAt ca (bs.map (Value.int .u8))) := fun w' hs => rcode.ext hs.upd
 refine fn (M := none_) (rs := [.tmp 2]) Tryd.func5 rfl Tryd.ntmps5 rfl rfl (Sep.start _ _) ?_
 refine hSeq ?_
 refine hReg (sq 0 sz) (by kernel_rfl) ?_
 refine asB rfl rfl rfl ?_
 refine rNil ?_
 refine qSeq rfl ?_
 refine hSeq ?_
 refine hReg (sq 0 (sq 1 (sq 2 (sq 3 sz)))) (by kernel_rfl) ?_
 refine mvS rfl rfl rfl ?_
 refine lenS Tryd.runUnderlying22 rfl rfl rfl ?_
 refine gtr rfl rfl rfl rfl ?_
 refine asB rfl rfl rfl ?_
 refine rNil ?_
 refine qSeq rfl ?_
 refine hRet ?_
 exact fun w hs => ⟨[.bool (decide (4096 < ((bs.length : Nat) : Int)))], ⟨rfl, trivial⟩, ⟨by first | rfl | exact bD (by omega) | exact bT (by omega) | exact bF (by omega) | exact vI (by omega), hs.upd⟩⟩
theorem laws_likeInts_c (az : Option Addr) (nz : Nat) (cz : Nat) (z : List Int) (ay : Option Addr) (ny : Nat) (cy : Nat) (y : List Int) (w : World) (rz : RdI az nz z w) (ry : RdI ay ny y w) (heq : z = y) :
  Calls Tryd.prog 51 #[.slice az nz cz, .slice ay ny cy] w (Ret fun v w' => v = .bool true ∧ Ext w w') := by
 have kz : Kn w none_ [] (RdI az nz z) := fun w' hs => rz.ext hs.upd
 have lz : z.length = nz := rz.1
 have mz : nz ≤ 9223372036854775807 := rz.2.1
 have ky : Kn w none_ [] (RdI ay ny y) := fun w' hs => ry.ext hs.upd
 have ly : y.length = ny := ry.1
 have my : ny ≤ 9223372036854775807 := ry.2.1
 refine fn (M := none_) (rs := [.tmp 4]) Tryd.func51 rfl Tryd.ntmps51 rfl rfl (Sep.start _ _) ?_
 refine hSeq ?_
 refine hReg (sq 0 sz) (by kernel_rfl) ?_
 refine asB rfl rfl rfl ?_
 refine rNil ?_
 refine qSeq rfl ?_
 refine hSeq ?_
 refine hSeq ?_
 refine hReg (sq 0 (sq 1 (sq 2 (sq 3 (sq 4 sz))))) (by kernel_rfl) ?_
 refine mvS rfl rfl rfl ?_
 refine lenS Tryd.runUnderlying50 rfl rfl rfl ?_
 refine mvS rfl rfl rfl ?_
 refine lenS Tryd.runUnderlying50 rfl rfl rfl ?_
 refine neq rfl rfl rfl rfl ?_
 refine rNil ?_
 refine qSeq rfl ?_
 refine hIfD rfl (fun c1 => ?_) (fun c1 => ?_)
 ·
  replace c1 : (nz : Int) ≠ (ny : Int) := c1
  exact absurd c1 (by rw [heq] at lz; omega)
 ·
  replace c1 : ¬ ((nz : Int) ≠ (ny : Int)) := c1
  refine hSkip ?_
  refine qSeq rfl ?_
  refine hSeq ?_
  refine hSeq ?_
  refine hReg (sq 0 sz) (by kernel_rfl) ?_
  refine asI rfl rfl rfl ?_
  refine rNil ?_
  refine qSeq rfl ?_
  refine hBlk ?_
  refine hLoop (α := Nat) (fun i => i ≤ nz) (fun i => nz - i) (fun i => []) (fun i => [(0, .slice az nz cz), (1, .slice ay ny cy), (5, .int .i64 (i : Int))]) 0 (Nat.zero_le _) (fun _ h => h.pick []) ⟨rfl, rfl, rfl, trivial⟩ ?_
  rintro i τ1 hi
  refine hSeq ?_
  refine hSeq ?_
  refine hReg (sq 0 (sq 1 (sq 2 (sq 3 sz)))) (by kernel_rfl) ?_
  refine mvI rfl rfl rfl ?_
  refine mvS rfl rfl rfl ?_
  refine lenS Tryd.runUnderlying50 rfl rfl rfl ?_
  refine lss rfl rfl rfl rfl ?_
  refine rNil ?_
  refine qSeq rfl ?_
  refine hIfD rfl (fun c2 => ?_) (fun c2 => ?_)
  ·
   replace c2 : (i : Int) < (nz : Int) := c2
   refine hSkip ?_
   refine qSeq rfl ?_
   refine hSeq ?_
   refine hBlk ?_
   refine hSeq ?_
   refine hDraw (Ls := []) (by kernel_rfl) (sq 0 (sq 1 (sq 2 (sq 3 (sq 4 (sq 5 (sq 6 (sq 7 (sq 8 sz))))))))) (by kernel_rfl) .slnil ?_
   refine mvS rfl rfl rfl ?_
   refine mvI rfl rfl rfl ?_
   refine ixIq (zn := i) el50 (kz) (fun _ h => h.pick []) rfl rfl rfl rfl (by omega) (by omega) rfl ?_
   intro ae1 e1
   refine ldq Tryd.isAgg2 (e1) rfl rfl rfl ?_
   refine mvS rfl rfl rfl ?_
   refine mvI rfl rfl rfl ?_
   refine ixIq (zn := i) el50 (ky) (fun _ h => h.pick []) rfl rfl rfl rfl (by omega) (by omega) rfl ?_
   intro ae2 e2
   refine ldq Tryd.isAgg2 (e2) rfl rfl rfl ?_
   refine neq rfl rfl rfl rfl ?_
   refine rNil ?_
   refine qSeq rfl ?_
   refine hIfD rfl (fun c3 => ?_) (fun c3 => ?_)
   ·
    replace c3 : (z.getD i 0) ≠ (y.getD i 0) := c3
    exact absurd (by rw [heq]) c3
   ·
    replace c3 : ¬ ((z.getD i 0) ≠ (y.getD i 0)) := c3
    refine hSkip ?_
    refine qSeq rfl ?_
    refine hReg (sq 0 (sq 1 (sq 2 sz))) (by kernel_rfl) ?_
    refine mvI rfl rfl rfl ?_
    refine add rfl rfl rfl rfl (by omega) ?_
    refine asI rfl rfl rfl ?_
    refine rNil ?_
    exact qNext rfl (i + 1) (by omega) (by omega) ⟨rfl, rfl, rfl, trivial⟩ (fun _ h => h.pick [])
  ·
   replace c2 : ¬ ((i : Int) < (nz : Int)) := c2
   refine hExit rfl ?_
   refine qSeq rfl ?_
   refine hSeq ?_
   refine hReg (sq 0 sz) (by kernel_rfl) ?_
   refine asB rfl rfl rfl ?_
   refine rNil ?_
   refine qSeq rfl ?_
   refine hRet ?_
   exact fun w hs => ⟨[.bool true], ⟨rfl, trivial⟩, ⟨by first | rfl | exact bD (by omega) | exact bT (by omega) | exact bF (by omega) | exact vI (by omega), hs.upd⟩⟩
end Go.Proofs.YtjengglpbdgmnaaDoor
