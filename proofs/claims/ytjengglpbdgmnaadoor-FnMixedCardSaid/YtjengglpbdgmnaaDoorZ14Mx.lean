/- Contracts of mixed strategies that laws draw. Their conditions stand in each. -/
import Derived.Test.YtjengglpbdgmnaaDoorZ13Mx
import Derived.Test.YtjengglpbdgmnaaDoorZ1Mx
import Derived.Test.YtjengglpbdgmnaaDoorZ2Mx
import Derived.Test.YtjengglpbdgmnaaDoorZ3Mx
import Derived.Test.YtjengglpbdgmnaaDoorZ10Mx
import Derived.Test.YtjengglpbdgmnaaDoorZ12Mx
import Derived.Test.YtjengglpbdgmnaaDoorZ4Mx
import Derived.Test.YtjengglpbdgmnaaDoorZ7Mx
import Derived.Test.YtjengglpbdgmnaaDoorZ8Mx
import Derived.Test.YtjengglpbdgmnaaDoorZ5Mx
import Derived.Test.YtjengglpbdgmnaaDoorZ6Mx
import Derived.Test.YtjengglpbdgmnaaDoorZ9Mx
import Derived.Test.YtjengglpbdgmnaaDoorZ11Mx
import Derived.Test.YtjengglpbdgmnaaDoorRows
import Derived.Stop.LaidErr
namespace Go.Proofs.YtjengglpbdgmnaaDoor
open Go Go.RowKit V
set_option linter.unusedVariables false
set_option linter.unusedSimpArgs false
set_option maxRecDepth 100000
theorem bsl50_6 (v0 v1 v2 v3 v4 v5 : Value) (h0 : v0.cells = #[v0]) (h1 : v1.cells = #[v1]) (h2 : v2.cells = #[v2]) (h3 : v3.cells = #[v3]) (h4 : v4.cells = #[v4]) (h5 : v5.cells = #[v5]) : ∀ w, (Instr.buildSlice 50 6 ([(0, v0), (1, v1), (2, v2), (3, v3), (4, v4), (5, v5)] : List (Nat × Value)).toArray).run Tryd.prog w = .ok (.slice (some ⟨w.heap.size, 0, none⟩) 6 6) (w.alloc (.cells ([v0, v1, v2, v3, v4, v5] : List Value).toArray 2)) := by
 intro w; simp [Instr.buildSlice, Instr.fill, Tryd.zeroValue2, Tryd.runUnderlying50, Tryd.sizeOf2, Value.cells_int, newRow, show Array.range 6 = #[0, 1, 2, 3, 4, 5] from by decide, h0, h1, h2, h3, h4, h5]
set_option maxHeartbeats 4000000 in
theorem spec_l22DrawN_c (bk : Nat) (ca : Option Addr) (bs : List Int) (cc : Nat) (p : Int) (w : World) (M0 : Nat → Prop) (hs0 : Sep w M0 [srcP bk ca bs cc] w) (kcode : Kn w M0 [] (CellsAt ca (bs.map (Value.int .u8)))) (hok : okBytes bs) (hp : 0 ≤ p ∧ p ≤ 1) :
  Calls Tryd.prog 25 #[.pointer (some ⟨bk, 0, none⟩), .int .i64 p] w (Ret fun v w' => ∃ x : Option Addr × Nat × Nat × (Nat → Hd) × List Nd × Option Addr × Nat × Nat × (Nat → Hd) × List (List Int) × Option Addr × Nat × Nat × (Nat → Hd) × List (List Int) × Int × Option Addr × Nat × Nat × (Nat → Hd) × List (List Int), v = .tuple #[.agg #[.slice x.1 x.2.1 x.2.2.1, .slice x.2.2.2.2.2.1 x.2.2.2.2.2.2.1 x.2.2.2.2.2.2.2.1, .slice x.2.2.2.2.2.2.2.2.2.2.1 x.2.2.2.2.2.2.2.2.2.2.2.1 x.2.2.2.2.2.2.2.2.2.2.2.2.1], .agg #[.int .i64 x.2.2.2.2.2.2.2.2.2.2.2.2.2.2.2.1, .slice x.2.2.2.2.2.2.2.2.2.2.2.2.2.2.2.2.1 x.2.2.2.2.2.2.2.2.2.2.2.2.2.2.2.2.2.1 x.2.2.2.2.2.2.2.2.2.2.2.2.2.2.2.2.2.2.1]] ∧ (((x.2.1 ≤ 250 ∧ ((1 ≤ x.2.2.2.2.2.2.1 ∧ x.2.2.2.2.2.2.1 ≤ 4) ∧ x.2.2.2.2.2.2.2.2.2.2.2.1 ≤ 4)) ∧ ((-1 ≤ x.2.2.2.2.2.2.2.2.2.2.2.2.2.2.2.1 ∧ x.2.2.2.2.2.2.2.2.2.2.2.2.2.2.2.1 ≤ 2) ∧ x.2.2.2.2.2.2.2.2.2.2.2.2.2.2.2.2.2.1 ≤ 361)) ∧ (Math.isGame x.2.2.2.2.1 x.2.2.2.2.2.2.2.2.2.1 x.2.2.2.2.2.2.2.2.2.2.2.2.2.2.1 = true ∨ x.2.2.2.2.2.2.2.2.2.2.2.2.2.2.2.2.2.1 = 0)) ∧ Sep w M0 [srcP bk ca bs cc, RdR ndK x.1 x.2.1 x.2.2.2.1 x.2.2.2.2.1, RdR maK x.2.2.2.2.2.1 x.2.2.2.2.2.2.1 x.2.2.2.2.2.2.2.2.1 x.2.2.2.2.2.2.2.2.2.1, RdR maK x.2.2.2.2.2.2.2.2.2.2.1 x.2.2.2.2.2.2.2.2.2.2.2.1 x.2.2.2.2.2.2.2.2.2.2.2.2.2.1 x.2.2.2.2.2.2.2.2.2.2.2.2.2.2.1, OwnR maK 50 2 x.2.2.2.2.2.2.2.2.2.2.2.2.2.2.2.2.1 x.2.2.2.2.2.2.2.2.2.2.2.2.2.2.2.2.2.1 x.2.2.2.2.2.2.2.2.2.2.2.2.2.2.2.2.2.2.1 x.2.2.2.2.2.2.2.2.2.2.2.2.2.2.2.2.2.2.2.1 x.2.2.2.2.2.2.2.2.2.2.2.2.2.2.2.2.2.2.2.2] w') := by
 refine fn (M := M0) (rs := [.cell 4 29, .cell 5 31]) Tryd.func25 rfl Tryd.ntmps25 rfl rfl hs0 ?_
 refine hSeq ?_
 refine hReg (sl 0 (sl 1 sz)) (by kernel_rfl) ?_
 refine alc Tryd.zeroValue29 rfl trv1 rfl rfl (fun bka1 hbka1 => ?_)
 refine alc Tryd.zeroValue31 rfl trv1 rfl rfl (fun bka2 hbka2 => ?_)
 refine rNil ?_
 refine qSeq rfl ?_
 refine hSeq ?_
 refine hReg (sq 0 (sl 1 (sl 2 (sl 3 sz)))) (by kernel_rfl) ?_
 refine mvP rfl rfl rfl ?_
 refine rPieces (L' := [srcP bk ca bs cc, blk bka2 31 [.int .i64 0, .slice none 0 0], blk bka1 29 [.slice none 0 0, .slice none 0 0, .slice none 0 0]]) (fun _ h => h.perm (pull (i := 2) rfl)) ?_
 refine callMK (α := Option Addr × Nat × Nat × (Nat → Hd) × List Nd × Option Addr × Nat × Nat × (Nat → Hd) × List (List Int) × Option Addr × Nat × Nat × (Nat → Hd) × List (List Int)) (Lf := [srcP bk ca bs cc]) (Lr := [blk bka2 31 [.int .i64 0, .slice none 0 0], blk bka1 29 [.slice none 0 0, .slice none 0 0, .slice none 0 0]]) (good := fun x => x.2.1 ≤ 250 ∧ ((1 ≤ x.2.2.2.2.2.2.1 ∧ x.2.2.2.2.2.2.1 ≤ 4) ∧ x.2.2.2.2.2.2.2.2.2.2.2.1 ≤ 4)) (φs := fun x => [srcP bk ca bs cc, RdR ndK x.1 x.2.1 x.2.2.2.1 x.2.2.2.2.1, RdR maK x.2.2.2.2.2.1 x.2.2.2.2.2.2.1 x.2.2.2.2.2.2.2.2.1 x.2.2.2.2.2.2.2.2.2.1, RdR maK x.2.2.2.2.2.2.2.2.2.2.1 x.2.2.2.2.2.2.2.2.2.2.2.1 x.2.2.2.2.2.2.2.2.2.2.2.2.2.1 x.2.2.2.2.2.2.2.2.2.2.2.2.2.2]) (val := fun x => .agg #[.slice x.1 x.2.1 x.2.2.1, .slice x.2.2.2.2.2.1 x.2.2.2.2.2.2.1 x.2.2.2.2.2.2.2.1, .slice x.2.2.2.2.2.2.2.2.2.2.1 x.2.2.2.2.2.2.2.2.2.2.2.1 x.2.2.2.2.2.2.2.2.2.2.2.2.1]) rfl Tryd.call55 trv1 rfl rfl (fun w M1 hs hk => spec_l21Draw_c bk ca bs cc  w M1 hs (hk _ kcode) hok ) ?_
 rintro ⟨ay1, ny1, cy1, Hy1, y1, ayw1, nyw1, cyw1, Hyw1, yw1, ayv1, nyv1, cyv1, Hyv1, yv1⟩ hr1
 try dsimp only at hr1
 refine rPieces (L' := [srcP bk ca bs cc, RdR ndK ay1 ny1 Hy1 y1, RdR maK ayw1 nyw1 Hyw1 yw1, RdR maK ayv1 nyv1 Hyv1 yv1, blk bka2 31 [.int .i64 0, .slice none 0 0], blk bka1 29 [.slice none 0 0, .slice none 0 0, .slice none 0 0]]) (fun _ h => h) ?_
 refine rKnow (fun w hs => (show RdR ndK ay1 ny1 Hy1 y1 w from hs.at_ 1 rfl).1) (fun lenn3 => ?_)
 refine rKnow (fun w hs => (show RdR maK ayw1 nyw1 Hyw1 yw1 w from hs.at_ 2 rfl).1) (fun lenn4 => ?_)
 refine rKnow (fun w hs => (show RdR maK ayv1 nyv1 Hyv1 yv1 w from hs.at_ 3 rfl).1) (fun lenn5 => ?_)
 refine alc Tryd.zeroValue29 rfl trv1 rfl rfl (fun bka6 hbka6 => ?_)
 refine stAl (vs := [.slice ay1 ny1 cy1, .slice ayw1 nyw1 cyw1, .slice ayv1 nyv1 cyv1]) 0 rfl Tryd.sizeOf29 trv rfl rfl rfl rfl rfl (by simp [Value.oneCell']) rfl ?_
 refine rNil ?_
 refine qSeq rfl ?_
 refine hSeq ?_
 refine hSeq ?_
 refine hReg (sl 0 (sl 1 (sq 2 sz))) (by kernel_rfl) ?_
 refine ldAl Tryd.isAgg29 Tryd.sizeOf29 (cBs 0 rfl) trv rfl rfl rfl rfl ?_
 refine callP (v := .bool (Math.isGame y1 yw1 yv1)) Tryd.call26 trv rfl rfl (fun w hs => spec_IsGame_c _ ny1 cy1 _ _ _ nyw1 cyw1 _ _ _ nyv1 cyv1 _ _ w (hs.at_ 2 rfl) (hs.at_ 3 rfl) (hs.at_ 4 rfl)) ?_
 refine not rfl rfl rfl ?_
 refine rNil ?_
 refine qSeq rfl ?_
 refine hIfN rfl (fun c1 => ?_) (fun c1 => ?_)
 ·
  replace c1 : (Math.isGame y1 yw1 yv1) = false := c1
  refine hSeq ?_
  refine hReg (sl 0 (sq 1 (sq 2 (sl 3 (sl 4 sz))))) (by kernel_rfl) ?_
  refine ldAl Tryd.isAgg29 Tryd.sizeOf29 (cBs 0 rfl) trv rfl rfl rfl rfl ?_
  refine mvI rfl rfl rfl ?_
  refine bld rfl rfl rfl (bld31_0 (.int .i64 _) rfl) ?_
  refine stAl (vs := [.slice ay1 ny1 cy1, .slice ayw1 nyw1 cyw1, .slice ayv1 nyv1 cyv1]) 6 rfl Tryd.sizeOf29 trv rfl rfl rfl rfl rfl (by simp [Value.oneCell']) rfl ?_
  refine stAl (vs := [.int .i64 p, .slice none 0 0]) 5 rfl Tryd.sizeOf31 trv rfl rfl rfl rfl rfl (by simp [Value.oneCell']) rfl ?_
  refine rNil ?_
  refine qSeq rfl ?_
  refine hRet ?_
  refine knP (fun _ h => Sep.nilR maK 50 2 (fun _ => (none, 0)) h) ?_
  exact fun w hs => ⟨[_, _], ⟨⟨_, rfl, run_load_agg Tryd.isAgg29 Tryd.sizeOf29 rfl (cBs 7 rfl w hs)⟩, ⟨⟨_, rfl, run_load_agg Tryd.isAgg31 Tryd.sizeOf31 rfl (cBs 6 rfl w hs)⟩, trivial⟩⟩, ⟨(ay1, ny1, cy1, Hy1, y1, ayw1, nyw1, cyw1, Hyw1, yw1, ayv1, nyv1, cyv1, Hyv1, yv1, p, none, 0, 0, (fun _ => (none, 0)), []), rfl, ⟨⟨⟨by dsimp only; omega, ⟨by dsimp only; omega, by dsimp only; omega⟩, by dsimp only; omega⟩, by dsimp only; omega, by dsimp only; omega⟩, .inr rfl⟩, hs.pick [2, 2, 2, 2, 0]⟩⟩
 ·
  replace c1 : (Math.isGame y1 yw1 yv1) = true := c1
  refine hSkip ?_
  refine qSeq rfl ?_
  refine hSeq ?_
  refine hReg (sq 0 (sl 1 (sq 2 (sl 3 (sl 4 (sl 5 sz)))))) (by kernel_rfl) ?_
  refine mvP rfl rfl rfl ?_
  refine ldAl Tryd.isAgg29 Tryd.sizeOf29 (cBs 0 rfl) trv rfl rfl rfl rfl ?_
  refine mvI rfl rfl rfl ?_
  refine rPieces (L' := [srcP bk ca bs cc, blk bka6 29 [.slice ay1 ny1 cy1, .slice ayw1 nyw1 cyw1, .slice ayv1 nyv1 cyv1], RdR ndK ay1 ny1 Hy1 y1, RdR maK ayw1 nyw1 Hyw1 yw1, RdR maK ayv1 nyv1 Hyv1 yv1, blk bka2 31 [.int .i64 0, .slice none 0 0], blk bka1 29 [.slice none 0 0, .slice none 0 0, .slice none 0 0]]) (fun _ h => h.perm (pull (i := 1) rfl)) ?_
  refine callMR (α := Option Addr × Nat × Nat × (Nat → Hd) × List (List Int)) (Lf := [srcP bk ca bs cc]) (Lr := [blk bka6 29 [.slice ay1 ny1 cy1, .slice ayw1 nyw1 cyw1, .slice ayv1 nyv1 cyv1], RdR ndK ay1 ny1 Hy1 y1, RdR maK ayw1 nyw1 Hyw1 yw1, RdR maK ayv1 nyv1 Hyv1 yv1, blk bka2 31 [.int .i64 0, .slice none 0 0], blk bka1 29 [.slice none 0 0, .slice none 0 0, .slice none 0 0]]) (good := fun x => x.2.1 ≤ 360 ∧ Math.drawnP x.2.2.2.2) (φs := fun x => [srcP bk ca bs cc, OwnR maK 50 2 x.1 x.2.1 x.2.2.1 x.2.2.2.1 x.2.2.2.2]) (val := fun x => .agg #[.int .i64 p, .slice x.1 x.2.1 x.2.2.1]) rfl Tryd.call27 trv1 rfl rfl (fun w M1 hs hk => spec_l22Random_c bk ca bs cc ay1 ny1 cy1 Hy1 y1 ayw1 nyw1 cyw1 Hyw1 yw1 ayv1 nyv1 cyv1 Hyv1 yv1 p w M1 hs (hk _ (Kn.nil kcode)) hok (hk _ (Kn.at_ 1 rfl)) (hk _ (Kn.at_ 2 rfl)) (hk _ (Kn.at_ 3 rfl)) (by assumption) (by omega)) ?_
  rintro ⟨ay2, ny2, cy2, Hy2, y2⟩ hr2
  try dsimp only at hr2
  refine rPieces (L' := [srcP bk ca bs cc, OwnR maK 50 2 ay2 ny2 cy2 Hy2 y2, blk bka6 29 [.slice ay1 ny1 cy1, .slice ayw1 nyw1 cyw1, .slice ayv1 nyv1 cyv1], RdR ndK ay1 ny1 Hy1 y1, RdR maK ayw1 nyw1 Hyw1 yw1, RdR maK ayv1 nyv1 Hyv1 yv1, blk bka2 31 [.int .i64 0, .slice none 0 0], blk bka1 29 [.slice none 0 0, .slice none 0 0, .slice none 0 0]]) (fun _ h => h) ?_
  refine rKnow (fun w hs => (show OwnR maK 50 2 ay2 ny2 cy2 Hy2 y2 w from hs.at_ 1 rfl).1) (fun lenn8 => ?_)
  refine alc Tryd.zeroValue31 rfl trv1 rfl rfl (fun bka9 hbka9 => ?_)
  refine stAl (vs := [.int .i64 p, .slice ay2 ny2 cy2]) 0 rfl Tryd.sizeOf31 trv rfl rfl rfl rfl rfl (by simp [Value.oneCell']) rfl ?_
  refine rNil ?_
  refine qSeq rfl ?_
  refine hSeq ?_
  refine hSeq ?_
  refine hReg (sq 0 (sl 1 sz)) (by kernel_rfl) ?_
  refine mvP rfl rfl rfl ?_
  refine rPieces (L' := [srcP bk ca bs cc, blk bka9 31 [.int .i64 p, .slice ay2 ny2 cy2], OwnR maK 50 2 ay2 ny2 cy2 Hy2 y2, blk bka6 29 [.slice ay1 ny1 cy1, .slice ayw1 nyw1 cyw1, .slice ayv1 nyv1 cyv1], RdR ndK ay1 ny1 Hy1 y1, RdR maK ayw1 nyw1 Hyw1 yw1, RdR maK ayv1 nyv1 Hyv1 yv1, blk bka2 31 [.int .i64 0, .slice none 0 0], blk bka1 29 [.slice none 0 0, .slice none 0 0, .slice none 0 0]]) (fun _ h => h.perm (pull (i := 1) rfl)) ?_
  refine callMK (α := Int) (Lf := [srcP bk ca bs cc]) (Lr := [blk bka9 31 [.int .i64 p, .slice ay2 ny2 cy2], OwnR maK 50 2 ay2 ny2 cy2 Hy2 y2, blk bka6 29 [.slice ay1 ny1 cy1, .slice ayw1 nyw1 cyw1, .slice ayv1 nyv1 cyv1], RdR ndK ay1 ny1 Hy1 y1, RdR maK ayw1 nyw1 Hyw1 yw1, RdR maK ayv1 nyv1 Hyv1 yv1, blk bka2 31 [.int .i64 0, .slice none 0 0], blk bka1 29 [.slice none 0 0, .slice none 0 0, .slice none 0 0]]) (good := fun x => 0 ≤ x ∧ (x < (20 : Int) ∨ x = 0)) (φs := fun x => [srcP bk ca bs cc]) (val := fun x => .int .i64 x) rfl Tryd.call24 trv1 rfl rfl (fun w M1 hs hk => src_next bk ca bs cc (20 : Int) w M1 hs (hk _ kcode) hok) ?_
  intro x3 hx3
  replace hx3 : 0 ≤ x3 ∧ x3 < (20 : Int) := by omega
  try dsimp only at hx3
  refine rPieces (L' := [srcP bk ca bs cc, blk bka9 31 [.int .i64 p, .slice ay2 ny2 cy2], OwnR maK 50 2 ay2 ny2 cy2 Hy2 y2, blk bka6 29 [.slice ay1 ny1 cy1, .slice ayw1 nyw1 cyw1, .slice ayv1 nyv1 cyv1], RdR ndK ay1 ny1 Hy1 y1, RdR maK ayw1 nyw1 Hyw1 yw1, RdR maK ayv1 nyv1 Hyv1 yv1, blk bka2 31 [.int .i64 0, .slice none 0 0], blk bka1 29 [.slice none 0 0, .slice none 0 0, .slice none 0 0]]) (fun _ h => h) ?_
  refine rNil ?_
  refine qSeq rfl ?_
  refine hBlk ?_
  refine hSeq ?_
  refine hReg (sq 0 (sq 1 sz)) (by kernel_rfl) ?_
  refine eql rfl rfl rfl rfl ?_
  refine asB rfl rfl rfl ?_
  refine rNil ?_
  refine qSeq rfl ?_
  refine hIfD rfl (fun c2 => ?_) (fun c2 => ?_)
  ·
   replace c2 : x3 = 0 := c2
   refine hSeq ?_
   refine hReg (sq 0 (sl 1 (sq 2 (sq 3 sz)))) (by kernel_rfl) ?_
   refine fld fl31_1 rfl rfl rfl ?_
   refine ldl Tryd.isAgg27 (cB 1 rfl rfl) trv rfl rfl rfl ?_
   refine lenS Tryd.runUnderlying27 rfl rfl rfl ?_
   refine gtr rfl rfl rfl rfl ?_
   refine rNil ?_
   refine qSeq rfl ?_
   refine hIfD rfl (fun c3 => ?_) (fun c3 => ?_)
   ·
    replace c3 : 0 < (ny2 : Int) := c3
    have hdr := Math.drawnP_at hr2.2 (i := 0) (by omega)
    refine hDraw (Ls := [blk bka9 31 [.int .i64 p, .slice ay2 ny2 cy2], OwnR maK 50 2 ay2 ny2 cy2 Hy2 y2]) (by kernel_rfl) (sq 0 (sq 1 (sq 2 (sq 3 (sq 4 (sq 5 (sq 6 (sq 7 (sq 8 (sq 9 (sq 10 (sl 11 (sl 12 (sq 13 (sq 14 (sf 15 sz)))))))))))))))) (by kernel_rfl) (.cons _ (.cons_cons _ (.cons_cons _ (.cons _ (.cons _ (.cons _ (.cons _ (.cons _ (.cons _ .slnil))))))))) ?_
    refine fld fl31_1 rfl rfl rfl ?_
    refine ldq Tryd.isAgg27 (cB 0 rfl rfl) rfl rfl rfl ?_
    refine ixRq (zn := 0) (y2.getD 0 []) el27 ((Kn.at_ 1 rfl).imp fun _ h => OwnR.rd h maK.ok) (fun _ h => h.pick [1, 1]) rfl rfl rfl rfl (by omega) (by omega) rfl (nth [] (by omega)) ?_
    intro be4 oe4 e4
    refine ldq Tryd.isAgg50 (Kn.fld e4 0 rfl) rfl rfl rfl ?_
    refine fld fl31_1 rfl rfl rfl ?_
    refine ldq Tryd.isAgg27 (cB 0 rfl rfl) rfl rfl rfl ?_
    refine ixRq (zn := 0) (y2.getD 0 []) el27 ((Kn.at_ 1 rfl).imp fun _ h => OwnR.rd h maK.ok) (fun _ h => h.pick [1, 1]) rfl rfl rfl rfl (by omega) (by omega) rfl (nth [] (by omega)) ?_
    intro be5 oe5 e5
    refine ldq Tryd.isAgg50 (Kn.fld e5 0 rfl) rfl rfl rfl ?_
    refine ixIq (zn := 0) el50 ((Kn.imp ((Kn.at_ (φ := OwnR maK 50 2 ay2 ny2 cy2 Hy2 y2) 1 rfl).imp fun _ h => OwnR.rd h maK.ok) fun _ h => h.kidM (nth [] (by omega)))) (fun _ h => h.pick [1, 1]) rfl rfl rfl rfl (by omega) (by omega) rfl ?_
    intro ae6 e6
    refine ldq Tryd.isAgg2 (e6) rfl rfl rfl ?_
    refine mvP rfl rfl rfl ?_
    refine bsl (fun _ _ h => h.pick [2, 2]) rfl rfl rfl (bsl50_3 (.int .i64 _) (.int .i64 _) (.int .i64 _) rfl rfl rfl) (fun bkl10 hbkl10 => ?_)
    refine rPieces (L' := [srcP bk ca bs cc, blk bkl10 2 [.int .i64 (-1), .int .i64 1, .int .i64 60], blk bka9 31 [.int .i64 p, .slice ay2 ny2 cy2], OwnR maK 50 2 ay2 ny2 cy2 Hy2 y2, blk bka6 29 [.slice ay1 ny1 cy1, .slice ayw1 nyw1 cyw1, .slice ayv1 nyv1 cyv1], RdR ndK ay1 ny1 Hy1 y1, RdR maK ayw1 nyw1 Hyw1 yw1, RdR maK ayv1 nyv1 Hyv1 yv1, blk bka2 31 [.int .i64 0, .slice none 0 0], blk bka1 29 [.slice none 0 0, .slice none 0 0, .slice none 0 0]]) (fun _ h => h.perm (pull (i := 1) rfl)) ?_
    refine callMK (α := Int) (Lf := [srcP bk ca bs cc, blk bkl10 2 [.int .i64 (-1), .int .i64 1, .int .i64 60]]) (Lr := [blk bka9 31 [.int .i64 p, .slice ay2 ny2 cy2], OwnR maK 50 2 ay2 ny2 cy2 Hy2 y2, blk bka6 29 [.slice ay1 ny1 cy1, .slice ayw1 nyw1 cyw1, .slice ayv1 nyv1 cyv1], RdR ndK ay1 ny1 Hy1 y1, RdR maK ayw1 nyw1 Hyw1 yw1, RdR maK ayv1 nyv1 Hyv1 yv1, blk bka2 31 [.int .i64 0, .slice none 0 0], blk bka1 29 [.slice none 0 0, .slice none 0 0, .slice none 0 0]]) (good := fun x => x ∈ ([.int .i64 (-1), .int .i64 1, .int .i64 60] : List Value).map toI) (φs := fun x => [srcP bk ca bs cc, blk bkl10 2 [.int .i64 (-1), .int .i64 1, .int .i64 60]]) (val := fun x => .int .i64 x) rfl Tryd.call28 (by exact (fun _ _ h => h.pick [2, 2])) rfl rfl (fun w M1 hs hk => src_pick bk ca bs cc bkl10 2 3 3 [.int .i64 (-1), .int .i64 1, .int .i64 60] w M1 hs (hk _ kcode) hok rfl rfl (by decide)) ?_
    intro x7 hx7
    try dsimp only at hx7
    refine rPieces (L' := [srcP bk ca bs cc, blk bkl10 2 [.int .i64 (-1), .int .i64 1, .int .i64 60], blk bka9 31 [.int .i64 p, .slice ay2 ny2 cy2], OwnR maK 50 2 ay2 ny2 cy2 Hy2 y2, blk bka6 29 [.slice ay1 ny1 cy1, .slice ayw1 nyw1 cyw1, .slice ayv1 nyv1 cyv1], RdR ndK ay1 ny1 Hy1 y1, RdR maK ayw1 nyw1 Hyw1 yw1, RdR maK ayv1 nyv1 Hyv1 yv1, blk bka2 31 [.int .i64 0, .slice none 0 0], blk bka1 29 [.slice none 0 0, .slice none 0 0, .slice none 0 0]]) (fun _ h => h) ?_
    replace hx7 : (-1 : Int) ≤ x7 ∧ x7 ≤ (60 : Int) := by have hm_ := hx7; simp [toI] at hm_; omega
    refine rPieces (L' := [blk bkl10 2 [.int .i64 (-1), .int .i64 1, .int .i64 60], srcP bk ca bs cc, blk bka9 31 [.int .i64 p, .slice ay2 ny2 cy2], OwnR maK 50 2 ay2 ny2 cy2 Hy2 y2, blk bka6 29 [.slice ay1 ny1 cy1, .slice ayw1 nyw1 cyw1, .slice ayv1 nyv1 cyv1], RdR ndK ay1 ny1 Hy1 y1, RdR maK ayw1 nyw1 Hyw1 yw1, RdR maK ayv1 nyv1 Hyv1 yv1, blk bka2 31 [.int .i64 0, .slice none 0 0], blk bka1 29 [.slice none 0 0, .slice none 0 0, .slice none 0 0]]) (fun _ h => h.perm (pull (i := 1) rfl)) ?_
    refine add rfl rfl rfl rfl (by omega) ?_
    refine rPieces (L' := [OwnR maK 50 2 ay2 ny2 cy2 Hy2 y2, blk bkl10 2 [.int .i64 (-1), .int .i64 1, .int .i64 60], srcP bk ca bs cc, blk bka9 31 [.int .i64 p, .slice ay2 ny2 cy2], blk bka6 29 [.slice ay1 ny1 cy1, .slice ayw1 nyw1 cyw1, .slice ayv1 nyv1 cyv1], RdR ndK ay1 ny1 Hy1 y1, RdR maK ayw1 nyw1 Hyw1 yw1, RdR maK ayv1 nyv1 Hyv1 yv1, blk bka2 31 [.int .i64 0, .slice none 0 0], blk bka1 29 [.slice none 0 0, .slice none 0 0, .slice none 0 0]]) (fun _ h => h.pick [3, 0, 0, 0, 0, 0, 0, 0, 0, 0]) ?_
    refine rPieces (L' := [OwnI 2 ((Hy2 0).1) ((y2.getD 0 []).length) ((Hy2 0).2) (y2.getD 0 []), OwnH maK 50 2 ay2 ny2 cy2 Hy2 y2 0, blk bkl10 2 [.int .i64 (-1), .int .i64 1, .int .i64 60], srcP bk ca bs cc, blk bka9 31 [.int .i64 p, .slice ay2 ny2 cy2], blk bka6 29 [.slice ay1 ny1 cy1, .slice ayw1 nyw1 cyw1, .slice ayv1 nyv1 cyv1], RdR ndK ay1 ny1 Hy1 y1, RdR maK ayw1 nyw1 Hyw1 yw1, RdR maK ayv1 nyv1 Hyv1 yv1, blk bka2 31 [.int .i64 0, .slice none 0 0], blk bka1 29 [.slice none 0 0, .slice none 0 0, .slice none 0 0]]) (fun _ h => Sep.lend h 0 (y2.getD 0 []) (nth [] (by omega))) ?_
    refine oxI (zn := 0) 0 rfl el50 rfl rfl rfl rfl (by omega) (by omega) rfl ?_
    intro gk8 hgk8
    refine stoIF (off := 0) (x := (((y2.getD 0 []).getD 0 0) + x7)) 0 rfl hgk8 Tryd.sizeOf2 rfl rfl rfl rfl (by omega) ?_
    refine rPieces (L' := [OwnR maK 50 2 ay2 ny2 cy2 Hy2 ((y2.set 0 (((y2.getD 0 []).set 0 ((((y2.getD 0 []).getD 0 0) + x7)))))), blk bkl10 2 [.int .i64 (-1), .int .i64 1, .int .i64 60], srcP bk ca bs cc, blk bka9 31 [.int .i64 p, .slice ay2 ny2 cy2], blk bka6 29 [.slice ay1 ny1 cy1, .slice ayw1 nyw1 cyw1, .slice ayv1 nyv1 cyv1], RdR ndK ay1 ny1 Hy1 y1, RdR maK ayw1 nyw1 Hyw1 yw1, RdR maK ayv1 nyv1 Hyv1 yv1, blk bka2 31 [.int .i64 0, .slice none 0 0], blk bka1 29 [.slice none 0 0, .slice none 0 0, .slice none 0 0]]) (fun _ h => Sep.back (x := (y2.getD 0 [])) ((y2.getD 0 []).set 0 ((((y2.getD 0 []).getD 0 0) + x7))) maK.ok h (nth [] (by omega)) (fun h1 h2 => by dsimp only [ndK, ndC, maK] at h1 h2 ⊢; rw [h1, h2]) rfl rfl) ?_
    refine rNil ?_
    refine qSeq rfl ?_
    refine hSeq ?_
    refine hDraw (Ls := [blk bka9 31 [.int .i64 p, .slice ay2 ny2 cy2], blk bka6 29 [.slice ay1 ny1 cy1, .slice ayw1 nyw1 cyw1, .slice ayv1 nyv1 cyv1]]) (by kernel_rfl) (sq 0 (sq 1 (sl 2 (sf 3 sz)))) (by kernel_rfl) (.cons _ (.cons _ (.cons _ (.cons_cons _ (.cons_cons _ (.cons _ (.cons _ (.cons _ (.cons _ (.cons _ .slnil)))))))))) ?_
    refine ldAq Tryd.isAgg29 Tryd.sizeOf29 (cBs 1 rfl) rfl rfl rfl rfl ?_
    refine ldAq Tryd.isAgg31 Tryd.sizeOf31 (cBs 0 rfl) rfl rfl rfl rfl ?_
    refine stAl (vs := [.slice ay1 ny1 cy1, .slice ayw1 nyw1 cyw1, .slice ayv1 nyv1 cyv1]) 9 rfl Tryd.sizeOf29 (fun _ h => h.pick [3, 3]) rfl rfl rfl rfl rfl (by simp [Value.oneCell']) rfl ?_
    refine stAf (vs := [.int .i64 p, .slice ay2 ny2 cy2]) 8 rfl Tryd.sizeOf31 rfl rfl rfl rfl rfl (by simp [Value.oneCell']) rfl ?_
    refine rNil ?_
    refine qSeq rfl ?_
    refine hRet ?_
    exact fun w hs => ⟨[_, _], ⟨⟨_, rfl, run_load_agg Tryd.isAgg29 Tryd.sizeOf29 rfl (cBs 9 rfl w hs)⟩, ⟨⟨_, rfl, run_load_agg Tryd.isAgg31 Tryd.sizeOf31 rfl (cBs 8 rfl w hs)⟩, trivial⟩⟩, ⟨(ay1, ny1, cy1, Hy1, y1, ayw1, nyw1, cyw1, Hyw1, yw1, ayv1, nyv1, cyv1, Hyv1, yv1, p, ay2, ny2, cy2, Hy2, (y2.set 0 (((y2.getD 0 []).set 0 ((((y2.getD 0 []).getD 0 0) + x7)))))), rfl, ⟨⟨⟨by dsimp only; omega, ⟨by dsimp only; omega, by dsimp only; omega⟩, by dsimp only; omega⟩, by dsimp only; omega, by dsimp only; omega⟩, .inl (by assumption)⟩, hs.pick [2, 4, 4, 4, 0]⟩⟩
   ·
    replace c3 : ¬ (0 < (ny2 : Int)) := c3
    refine hSkip ?_
    refine qSeq rfl ?_
    refine hSeq ?_
    refine hDraw (Ls := [blk bka9 31 [.int .i64 p, .slice ay2 ny2 cy2], blk bka6 29 [.slice ay1 ny1 cy1, .slice ayw1 nyw1 cyw1, .slice ayv1 nyv1 cyv1]]) (by kernel_rfl) (sq 0 (sq 1 (sl 2 (sf 3 sz)))) (by kernel_rfl) (.cons _ (.cons_cons _ (.cons _ (.cons_cons _ (.cons _ (.cons _ (.cons _ (.cons _ (.cons _ .slnil))))))))) ?_
    refine ldAq Tryd.isAgg29 Tryd.sizeOf29 (cBs 1 rfl) rfl rfl rfl rfl ?_
    refine ldAq Tryd.isAgg31 Tryd.sizeOf31 (cBs 0 rfl) rfl rfl rfl rfl ?_
    refine stAl (vs := [.slice ay1 ny1 cy1, .slice ayw1 nyw1 cyw1, .slice ayv1 nyv1 cyv1]) 8 rfl Tryd.sizeOf29 (fun _ h => h.pick [1, 2]) rfl rfl rfl rfl rfl (by simp [Value.oneCell']) rfl ?_
    refine stAf (vs := [.int .i64 p, .slice ay2 ny2 cy2]) 7 rfl Tryd.sizeOf31 rfl rfl rfl rfl rfl (by simp [Value.oneCell']) rfl ?_
    refine rNil ?_
    refine qSeq rfl ?_
    refine hRet ?_
    exact fun w hs => ⟨[_, _], ⟨⟨_, rfl, run_load_agg Tryd.isAgg29 Tryd.sizeOf29 rfl (cBs 8 rfl w hs)⟩, ⟨⟨_, rfl, run_load_agg Tryd.isAgg31 Tryd.sizeOf31 rfl (cBs 7 rfl w hs)⟩, trivial⟩⟩, ⟨(ay1, ny1, cy1, Hy1, y1, ayw1, nyw1, cyw1, Hyw1, yw1, ayv1, nyv1, cyv1, Hyv1, yv1, p, ay2, ny2, cy2, Hy2, y2), rfl, ⟨⟨⟨by dsimp only; omega, ⟨by dsimp only; omega, by dsimp only; omega⟩, by dsimp only; omega⟩, by dsimp only; omega, by dsimp only; omega⟩, .inl (by assumption)⟩, hs.pick [0, 3, 3, 3, 1]⟩⟩
  ·
   replace c2 : ¬ (x3 = 0) := c2
   refine hSeq ?_
   refine hReg (sq 0 (sq 1 sz)) (by kernel_rfl) ?_
   refine eql rfl rfl rfl rfl ?_
   refine asB rfl rfl rfl ?_
   refine rNil ?_
   refine qSeq rfl ?_
   refine hIfD rfl (fun c4 => ?_) (fun c4 => ?_)
   ·
    replace c4 : x3 = 1 := c4
    refine hReg (sq 0 (sq 1 (sq 2 (sl 3 (sl 4 (sq 5 (sl 6 sz))))))) (by kernel_rfl) ?_
    refine mvP rfl rfl rfl ?_
    refine mvI rfl rfl rfl ?_
    refine sub rfl rfl rfl rfl (by omega) ?_
    refine bsl trv1 rfl rfl rfl (bsl50_3 (.int .i64 _) (.int .i64 _) (.int .i64 _) rfl rfl rfl) (fun bkl13 hbkl13 => ?_)
    refine rPieces (L' := [srcP bk ca bs cc, blk bkl13 2 [.int .i64 (-1), .int .i64 (1 - p), .int .i64 2], blk bka9 31 [.int .i64 p, .slice ay2 ny2 cy2], OwnR maK 50 2 ay2 ny2 cy2 Hy2 y2, blk bka6 29 [.slice ay1 ny1 cy1, .slice ayw1 nyw1 cyw1, .slice ayv1 nyv1 cyv1], RdR ndK ay1 ny1 Hy1 y1, RdR maK ayw1 nyw1 Hyw1 yw1, RdR maK ayv1 nyv1 Hyv1 yv1, blk bka2 31 [.int .i64 0, .slice none 0 0], blk bka1 29 [.slice none 0 0, .slice none 0 0, .slice none 0 0]]) (fun _ h => h.perm (pull (i := 1) rfl)) ?_
    refine callMK (α := Int) (Lf := [srcP bk ca bs cc, blk bkl13 2 [.int .i64 (-1), .int .i64 (1 - p), .int .i64 2]]) (Lr := [blk bka9 31 [.int .i64 p, .slice ay2 ny2 cy2], OwnR maK 50 2 ay2 ny2 cy2 Hy2 y2, blk bka6 29 [.slice ay1 ny1 cy1, .slice ayw1 nyw1 cyw1, .slice ayv1 nyv1 cyv1], RdR ndK ay1 ny1 Hy1 y1, RdR maK ayw1 nyw1 Hyw1 yw1, RdR maK ayv1 nyv1 Hyv1 yv1, blk bka2 31 [.int .i64 0, .slice none 0 0], blk bka1 29 [.slice none 0 0, .slice none 0 0, .slice none 0 0]]) (good := fun x => x ∈ ([.int .i64 (-1), .int .i64 (1 - p), .int .i64 2] : List Value).map toI) (φs := fun x => [srcP bk ca bs cc, blk bkl13 2 [.int .i64 (-1), .int .i64 (1 - p), .int .i64 2]]) (val := fun x => .int .i64 x) rfl Tryd.call28 trv1 rfl rfl (fun w M1 hs hk => src_pick bk ca bs cc bkl13 2 3 3 [.int .i64 (-1), .int .i64 (1 - p), .int .i64 2] w M1 hs (hk _ kcode) hok rfl rfl (by decide)) ?_
    intro x9 hx9
    try dsimp only at hx9
    refine rPieces (L' := [srcP bk ca bs cc, blk bkl13 2 [.int .i64 (-1), .int .i64 (1 - p), .int .i64 2], blk bka9 31 [.int .i64 p, .slice ay2 ny2 cy2], OwnR maK 50 2 ay2 ny2 cy2 Hy2 y2, blk bka6 29 [.slice ay1 ny1 cy1, .slice ayw1 nyw1 cyw1, .slice ayv1 nyv1 cyv1], RdR ndK ay1 ny1 Hy1 y1, RdR maK ayw1 nyw1 Hyw1 yw1, RdR maK ayv1 nyv1 Hyv1 yv1, blk bka2 31 [.int .i64 0, .slice none 0 0], blk bka1 29 [.slice none 0 0, .slice none 0 0, .slice none 0 0]]) (fun _ h => h) ?_
    replace hx9 : x9 = (-1) ∨ x9 = (1 - p) ∨ x9 = 2 := by simpa [toI] using hx9
    refine fld fl31_0 rfl rfl rfl ?_
    refine stl (v := .int .i64 _) 2 rfl Tryd.sizeOf2 trv rfl rfl rfl rfl rfl (Nat.le_of_ble_eq_true rfl) ?_
    refine rNil ?_
    refine qSeq rfl ?_
    refine hSeq ?_
    refine hDraw (Ls := [blk bka9 31 [.int .i64 x9, .slice ay2 ny2 cy2], blk bka6 29 [.slice ay1 ny1 cy1, .slice ayw1 nyw1 cyw1, .slice ayv1 nyv1 cyv1]]) (by kernel_rfl) (sq 0 (sq 1 (sl 2 (sf 3 sz)))) (by kernel_rfl) (.cons _ (.cons _ (.cons_cons _ (.cons _ (.cons_cons _ (.cons _ (.cons _ (.cons _ (.cons _ (.cons _ .slnil)))))))))) ?_
    refine ldAq Tryd.isAgg29 Tryd.sizeOf29 (cBs 1 rfl) rfl rfl rfl rfl ?_
    refine ldAq Tryd.isAgg31 Tryd.sizeOf31 (cBs 0 rfl) rfl rfl rfl rfl ?_
    refine stAl (vs := [.slice ay1 ny1 cy1, .slice ayw1 nyw1 cyw1, .slice ayv1 nyv1 cyv1]) 9 rfl Tryd.sizeOf29 (fun _ h => h.pick [2, 3]) rfl rfl rfl rfl rfl (by simp [Value.oneCell']) rfl ?_
    refine stAf (vs := [.int .i64 x9, .slice ay2 ny2 cy2]) 8 rfl Tryd.sizeOf31 rfl rfl rfl rfl rfl (by simp [Value.oneCell']) rfl ?_
    refine rNil ?_
    refine qSeq rfl ?_
    refine hRet ?_
    exact fun w hs => ⟨[_, _], ⟨⟨_, rfl, run_load_agg Tryd.isAgg29 Tryd.sizeOf29 rfl (cBs 9 rfl w hs)⟩, ⟨⟨_, rfl, run_load_agg Tryd.isAgg31 Tryd.sizeOf31 rfl (cBs 8 rfl w hs)⟩, trivial⟩⟩, ⟨(ay1, ny1, cy1, Hy1, y1, ayw1, nyw1, cyw1, Hyw1, yw1, ayv1, nyv1, cyv1, Hyv1, yv1, x9, ay2, ny2, cy2, Hy2, y2), rfl, ⟨⟨⟨by dsimp only; omega, ⟨by dsimp only; omega, by dsimp only; omega⟩, by dsimp only; omega⟩, by dsimp only; omega, by dsimp only; omega⟩, .inl (by assumption)⟩, hs.pick [0, 4, 4, 4, 2]⟩⟩
   ·
    replace c4 : ¬ (x3 = 1) := c4
    refine hSeq ?_
    refine hReg (sq 0 (sq 1 sz)) (by kernel_rfl) ?_
    refine eql rfl rfl rfl rfl ?_
    refine asB rfl rfl rfl ?_
    refine rNil ?_
    refine qSeq rfl ?_
    refine hIfD rfl (fun c5 => ?_) (fun c5 => ?_)
    ·
     replace c5 : x3 = 2 := c5
     refine hReg (sq 0 (sl 1 (sl 2 (sl 3 (sl 4 (sq 5 (sl 6 sz))))))) (by kernel_rfl) ?_
     refine fld fl31_1 rfl rfl rfl ?_
     refine ldl Tryd.isAgg27 (cB 1 rfl rfl) trv rfl rfl rfl ?_
     refine bsl trv1 rfl rfl rfl (bsl50_1 (.int .i64 _) rfl) (fun bkl14 hbkl14 => ?_)
     refine bsl trv1 rfl rfl rfl (bsl27_1 (.slice _ _ _) rfl) (fun bkl15 hbkl15 => ?_)
     refine rPieces (fun _ h => Sep.litI h 1 [60] rfl rfl rfl) ?_
     refine apR (hd := ((some ⟨bkl14, 0, none⟩), 1)) (x := [60]) 4 1 0 maK.ok rfl rfl rfl (fun h => by first | rfl | (dsimp only at h; rw [h]; rfl) | (rw [h]; rfl) | exact congrArg (fun m => [Value.slice _ m _]) h) mk27 trv1 rfl rfl rfl rfl (by omega) ?_
     intro aq10 cq10
     refine fld fl31_1 rfl rfl rfl ?_
     refine stl (v := .slice _ _ _) 3 rfl Tryd.sizeOf27 trv rfl rfl rfl rfl rfl (Nat.le_of_ble_eq_true rfl) ?_
     refine rNil ?_
     refine qSeq rfl ?_
     refine hSeq ?_
     refine hDraw (Ls := [blk bka9 31 [.int .i64 p, .slice aq10 (ny2 + 1) cq10], blk bka6 29 [.slice ay1 ny1 cy1, .slice ayw1 nyw1 cyw1, .slice ayv1 nyv1 cyv1]]) (by kernel_rfl) (sq 0 (sq 1 (sl 2 (sf 3 sz)))) (by kernel_rfl) (.cons _ (.cons _ (.cons _ (.cons_cons _ (.cons_cons _ (.cons _ (.cons _ (.cons _ (.cons _ (.cons _ .slnil)))))))))) ?_
     refine ldAq Tryd.isAgg29 Tryd.sizeOf29 (cBs 1 rfl) rfl rfl rfl rfl ?_
     refine ldAq Tryd.isAgg31 Tryd.sizeOf31 (cBs 0 rfl) rfl rfl rfl rfl ?_
     refine stAl (vs := [.slice ay1 ny1 cy1, .slice ayw1 nyw1 cyw1, .slice ayv1 nyv1 cyv1]) 9 rfl Tryd.sizeOf29 (fun _ h => h.pick [3, 3]) rfl rfl rfl rfl rfl (by simp [Value.oneCell']) rfl ?_
     refine stAf (vs := [.int .i64 p, .slice aq10 (ny2 + 1) cq10]) 8 rfl Tryd.sizeOf31 rfl rfl rfl rfl rfl (by simp [Value.oneCell']) rfl ?_
     refine rNil ?_
     refine qSeq rfl ?_
     refine hRet ?_
     exact fun w hs => ⟨[_, _], ⟨⟨_, rfl, run_load_agg Tryd.isAgg29 Tryd.sizeOf29 rfl (cBs 9 rfl w hs)⟩, ⟨⟨_, rfl, run_load_agg Tryd.isAgg31 Tryd.sizeOf31 rfl (cBs 8 rfl w hs)⟩, trivial⟩⟩, ⟨(ay1, ny1, cy1, Hy1, y1, ayw1, nyw1, cyw1, Hyw1, yw1, ayv1, nyv1, cyv1, Hyv1, yv1, p, aq10, (ny2 + 1), cq10, (hset Hy2 y2.length ((some ⟨bkl14, 0, none⟩), 1)), (y2 ++ [[60]])), rfl, ⟨⟨⟨by dsimp only; omega, ⟨by dsimp only; omega, by dsimp only; omega⟩, by dsimp only; omega⟩, by dsimp only; omega, by dsimp only; omega⟩, .inl (by assumption)⟩, hs.pick [2, 4, 4, 4, 0]⟩⟩
    ·
     replace c5 : ¬ (x3 = 2) := c5
     refine hSkip ?_
     refine qSeq rfl ?_
     refine hSeq ?_
     refine hDraw (Ls := [blk bka9 31 [.int .i64 p, .slice ay2 ny2 cy2], blk bka6 29 [.slice ay1 ny1 cy1, .slice ayw1 nyw1 cyw1, .slice ayv1 nyv1 cyv1]]) (by kernel_rfl) (sq 0 (sq 1 (sl 2 (sf 3 sz)))) (by kernel_rfl) (.cons _ (.cons_cons _ (.cons _ (.cons_cons _ (.cons _ (.cons _ (.cons _ (.cons _ (.cons _ .slnil))))))))) ?_
     refine ldAq Tryd.isAgg29 Tryd.sizeOf29 (cBs 1 rfl) rfl rfl rfl rfl ?_
     refine ldAq Tryd.isAgg31 Tryd.sizeOf31 (cBs 0 rfl) rfl rfl rfl rfl ?_
     refine stAl (vs := [.slice ay1 ny1 cy1, .slice ayw1 nyw1 cyw1, .slice ayv1 nyv1 cyv1]) 8 rfl Tryd.sizeOf29 (fun _ h => h.pick [1, 2]) rfl rfl rfl rfl rfl (by simp [Value.oneCell']) rfl ?_
     refine stAf (vs := [.int .i64 p, .slice ay2 ny2 cy2]) 7 rfl Tryd.sizeOf31 rfl rfl rfl rfl rfl (by simp [Value.oneCell']) rfl ?_
     refine rNil ?_
     refine qSeq rfl ?_
     refine hRet ?_
     exact fun w hs => ⟨[_, _], ⟨⟨_, rfl, run_load_agg Tryd.isAgg29 Tryd.sizeOf29 rfl (cBs 8 rfl w hs)⟩, ⟨⟨_, rfl, run_load_agg Tryd.isAgg31 Tryd.sizeOf31 rfl (cBs 7 rfl w hs)⟩, trivial⟩⟩, ⟨(ay1, ny1, cy1, Hy1, y1, ayw1, nyw1, cyw1, Hyw1, yw1, ayv1, nyv1, cyv1, Hyv1, yv1, p, ay2, ny2, cy2, Hy2, y2), rfl, ⟨⟨⟨by dsimp only; omega, ⟨by dsimp only; omega, by dsimp only; omega⟩, by dsimp only; omega⟩, by dsimp only; omega, by dsimp only; omega⟩, .inl (by assumption)⟩, hs.pick [0, 3, 3, 3, 1]⟩⟩
set_option maxHeartbeats 4000000 in
theorem spec_DrawMixStrategies_c (ca : Option Addr) (bs : List Int) (cc : Nat) (w : World) (rcode : CellsAt ca (bs.map (Value.int .u8)) w) (hok : okBytes bs) :
  Calls Tryd.prog 6 #[.slice ca bs.length cc] w (Ret fun v w' => ∃ x : Option Addr × Nat × Nat × (Nat → Hd) × List Nd × Option Addr × Nat × Nat × (Nat → Hd) × List (List Int) × Option Addr × Nat × Nat × (Nat → Hd) × List (List Int) × Int × Option Addr × Nat × Nat × (Nat → Hd) × List (List Int) × Int × Option Addr × Nat × Nat × (Nat → Hd) × List (List Int) × Int, v = .tuple #[.agg #[.slice x.1 x.2.1 x.2.2.1, .slice x.2.2.2.2.2.1 x.2.2.2.2.2.2.1 x.2.2.2.2.2.2.2.1, .slice x.2.2.2.2.2.2.2.2.2.2.1 x.2.2.2.2.2.2.2.2.2.2.2.1 x.2.2.2.2.2.2.2.2.2.2.2.2.1], .agg #[.int .i64 x.2.2.2.2.2.2.2.2.2.2.2.2.2.2.2.1, .slice x.2.2.2.2.2.2.2.2.2.2.2.2.2.2.2.2.1 x.2.2.2.2.2.2.2.2.2.2.2.2.2.2.2.2.2.1 x.2.2.2.2.2.2.2.2.2.2.2.2.2.2.2.2.2.2.1], .agg #[.int .i64 x.2.2.2.2.2.2.2.2.2.2.2.2.2.2.2.2.2.2.2.2.2.1, .slice x.2.2.2.2.2.2.2.2.2.2.2.2.2.2.2.2.2.2.2.2.2.2.1 x.2.2.2.2.2.2.2.2.2.2.2.2.2.2.2.2.2.2.2.2.2.2.2.1 x.2.2.2.2.2.2.2.2.2.2.2.2.2.2.2.2.2.2.2.2.2.2.2.2.1], .int .i64 x.2.2.2.2.2.2.2.2.2.2.2.2.2.2.2.2.2.2.2.2.2.2.2.2.2.2.2] ∧ (x.2.1 ≤ 250 ∧ ((1 ≤ x.2.2.2.2.2.2.1 ∧ x.2.2.2.2.2.2.1 ≤ 4) ∧ x.2.2.2.2.2.2.2.2.2.2.2.1 ≤ 4) ∧ ((-1 ≤ x.2.2.2.2.2.2.2.2.2.2.2.2.2.2.2.1 ∧ x.2.2.2.2.2.2.2.2.2.2.2.2.2.2.2.1 ≤ 2) ∧ x.2.2.2.2.2.2.2.2.2.2.2.2.2.2.2.2.2.1 ≤ 361) ∧ ((-1 ≤ x.2.2.2.2.2.2.2.2.2.2.2.2.2.2.2.2.2.2.2.2.2.1 ∧ x.2.2.2.2.2.2.2.2.2.2.2.2.2.2.2.2.2.2.2.2.2.1 ≤ 2) ∧ x.2.2.2.2.2.2.2.2.2.2.2.2.2.2.2.2.2.2.2.2.2.2.2.1 ≤ 361) ∧ (-1 ≤ x.2.2.2.2.2.2.2.2.2.2.2.2.2.2.2.2.2.2.2.2.2.2.2.2.2.2.2 ∧ x.2.2.2.2.2.2.2.2.2.2.2.2.2.2.2.2.2.2.2.2.2.2.2.2.2.2.2 ≤ 61)) ∧ Sep w none_ [RdR ndK x.1 x.2.1 x.2.2.2.1 x.2.2.2.2.1, RdR maK x.2.2.2.2.2.1 x.2.2.2.2.2.2.1 x.2.2.2.2.2.2.2.2.1 x.2.2.2.2.2.2.2.2.2.1, RdR maK x.2.2.2.2.2.2.2.2.2.2.1 x.2.2.2.2.2.2.2.2.2.2.2.1 x.2.2.2.2.2.2.2.2.2.2.2.2.2.1 x.2.2.2.2.2.2.2.2.2.2.2.2.2.2.1, OwnR maK 50 2 x.2.2.2.2.2.2.2.2.2.2.2.2.2.2.2.2.1 x.2.2.2.2.2.2.2.2.2.2.2.2.2.2.2.2.2.1 x.2.2.2.2.2.2.2.2.2.2.2.2.2.2.2.2.2.2.1 x.2.2.2.2.2.2.2.2.2.2.2.2.2.2.2.2.2.2.2.1 x.2.2.2.2.2.2.2.2.2.2.2.2.2.2.2.2.2.2.2.2.1, RdR maK x.2.2.2.2.2.2.2.2.2.2.2.2.2.2.2.2.2.2.2.2.2.2.1 x.2.2.2.2.2.2.2.2.2.2.2.2.2.2.2.2.2.2.2.2.2.2.2.1 x.2.2.2.2.2.2.2.2.2.2.2.2.2.2.2.2.2.2.2.2.2.2.2.2.2.1 x.2.2.2.2.2.2.2.2.2.2.2.2.2.2.2.2.2.2.2.2.2.2.2.2.2.2.1] w') := by
 have kcode : Kn w none_ [] (CellsAt ca (bs.map (Value.int .u8))) := fun w' hs => rcode.ext hs.upd
 refine fn (M := none_) (rs := [.cell 2 29, .cell 3 31, .cell 4 31, .tmp 5]) Tryd.func6 rfl Tryd.ntmps6 rfl rfl (Sep.start _ _) ?_
 refine hSeq ?_
 refine hReg (sl 0 (sl 1 (sl 2 (sq 3 sz)))) (by kernel_rfl) ?_
 refine alc Tryd.zeroValue29 rfl trv1 rfl rfl (fun bka1 hbka1 => ?_)
 refine alc Tryd.zeroValue31 rfl trv1 rfl rfl (fun bka2 hbka2 => ?_)
 refine alc Tryd.zeroValue31 rfl trv1 rfl rfl (fun bka3 hbka3 => ?_)
 refine asI rfl rfl rfl ?_
 refine rNil ?_
 refine qSeq rfl ?_
 refine hSeq ?_
 refine hReg (sq 0 (sl 1 (sq 2 sz))) (by kernel_rfl) ?_
 refine mvS rfl rfl rfl ?_
 refine callN (α := Nat) (val := fun x => .pointer (some ⟨x, 0, none⟩)) (good := fun _ => True) (φ := fun x => srcP x ca bs cc) Tryd.call23 trv1 rfl rfl (fun w hs => (l01From_c ca bs cc w (kcode w (hs.sub (List.nil_sublist _))) hok).mono fun e w1 ⟨v, h0, bk, h1, h2, h3, h4⟩ => ⟨v, h0, bk, h1, trivial, h3, h4⟩) ?_
 rintro bks4 -
 refine asn rfl rfl rfl ?_
 refine rNil ?_
 refine qSeq rfl ?_
 refine hSeq ?_
 refine hReg (sq 0 (sl 1 (sq 2 sz))) (by kernel_rfl) ?_
 refine mvP rfl rfl rfl ?_
 refine callMK (α := Int) (Lf := [srcP bks4 ca bs cc]) (Lr := [blk bka3 31 [.int .i64 0, .slice none 0 0], blk bka2 31 [.int .i64 0, .slice none 0 0], blk bka1 29 [.slice none 0 0, .slice none 0 0, .slice none 0 0]]) (good := fun x => 0 ≤ x ∧ (x < (2 : Int) ∨ x = 0)) (φs := fun x => [srcP bks4 ca bs cc]) (val := fun x => .int .i64 x) rfl Tryd.call24 trv1 rfl rfl (fun w M1 hs hk => src_next bks4 ca bs cc (2 : Int) w M1 hs (hk _ kcode) hok) ?_
 intro x1 hx1
 replace hx1 : 0 ≤ x1 ∧ x1 < (2 : Int) := by omega
 try dsimp only at hx1
 refine rPieces (L' := [srcP bks4 ca bs cc, blk bka3 31 [.int .i64 0, .slice none 0 0], blk bka2 31 [.int .i64 0, .slice none 0 0], blk bka1 29 [.slice none 0 0, .slice none 0 0, .slice none 0 0]]) (fun _ h => h) ?_
 refine asI rfl rfl rfl ?_
 refine rNil ?_
 refine qSeq rfl ?_
 refine hSeq ?_
 refine hReg (sq 0 (sq 1 (sl 2 (sq 3 (sq 4 (sq 5 (sl 6 (sl 7 (sl 8 (sl 9 sz)))))))))) (by kernel_rfl) ?_
 refine mvP rfl rfl rfl ?_
 refine mvI rfl rfl rfl ?_
 refine callMK (α := Option Addr × Nat × Nat × (Nat → Hd) × List Nd × Option Addr × Nat × Nat × (Nat → Hd) × List (List Int) × Option Addr × Nat × Nat × (Nat → Hd) × List (List Int) × Int × Option Addr × Nat × Nat × (Nat → Hd) × List (List Int)) (Lf := [srcP bks4 ca bs cc]) (Lr := [blk bka3 31 [.int .i64 0, .slice none 0 0], blk bka2 31 [.int .i64 0, .slice none 0 0], blk bka1 29 [.slice none 0 0, .slice none 0 0, .slice none 0 0]]) (good := fun x => ((x.2.1 ≤ 250 ∧ ((1 ≤ x.2.2.2.2.2.2.1 ∧ x.2.2.2.2.2.2.1 ≤ 4) ∧ x.2.2.2.2.2.2.2.2.2.2.2.1 ≤ 4)) ∧ ((-1 ≤ x.2.2.2.2.2.2.2.2.2.2.2.2.2.2.2.1 ∧ x.2.2.2.2.2.2.2.2.2.2.2.2.2.2.2.1 ≤ 2) ∧ x.2.2.2.2.2.2.2.2.2.2.2.2.2.2.2.2.2.1 ≤ 361)) ∧ (Math.isGame x.2.2.2.2.1 x.2.2.2.2.2.2.2.2.2.1 x.2.2.2.2.2.2.2.2.2.2.2.2.2.2.1 = true ∨ x.2.2.2.2.2.2.2.2.2.2.2.2.2.2.2.2.2.1 = 0)) (φs := fun x => [srcP bks4 ca bs cc, RdR ndK x.1 x.2.1 x.2.2.2.1 x.2.2.2.2.1, RdR maK x.2.2.2.2.2.1 x.2.2.2.2.2.2.1 x.2.2.2.2.2.2.2.2.1 x.2.2.2.2.2.2.2.2.2.1, RdR maK x.2.2.2.2.2.2.2.2.2.2.1 x.2.2.2.2.2.2.2.2.2.2.2.1 x.2.2.2.2.2.2.2.2.2.2.2.2.2.1 x.2.2.2.2.2.2.2.2.2.2.2.2.2.2.1, OwnR maK 50 2 x.2.2.2.2.2.2.2.2.2.2.2.2.2.2.2.2.1 x.2.2.2.2.2.2.2.2.2.2.2.2.2.2.2.2.2.1 x.2.2.2.2.2.2.2.2.2.2.2.2.2.2.2.2.2.2.1 x.2.2.2.2.2.2.2.2.2.2.2.2.2.2.2.2.2.2.2.1 x.2.2.2.2.2.2.2.2.2.2.2.2.2.2.2.2.2.2.2.2]) (val := fun x => .tuple #[.agg #[.slice x.1 x.2.1 x.2.2.1, .slice x.2.2.2.2.2.1 x.2.2.2.2.2.2.1 x.2.2.2.2.2.2.2.1, .slice x.2.2.2.2.2.2.2.2.2.2.1 x.2.2.2.2.2.2.2.2.2.2.2.1 x.2.2.2.2.2.2.2.2.2.2.2.2.1], .agg #[.int .i64 x.2.2.2.2.2.2.2.2.2.2.2.2.2.2.2.1, .slice x.2.2.2.2.2.2.2.2.2.2.2.2.2.2.2.2.1 x.2.2.2.2.2.2.2.2.2.2.2.2.2.2.2.2.2.1 x.2.2.2.2.2.2.2.2.2.2.2.2.2.2.2.2.2.2.1]]) rfl Tryd.call25 trv1 rfl rfl (fun w M1 hs hk => spec_l22DrawN_c bks4 ca bs cc x1 w M1 hs (hk _ kcode) hok (by omega)) ?_
 rintro ⟨ay2, ny2, cy2, Hy2, y2, ayw2, nyw2, cyw2, Hyw2, yw2, ayv2, nyv2, cyv2, Hyv2, yv2, pl2, ayp2, nyp2, cyp2, Hyp2, yp2⟩ hr2
 try dsimp only at hr2
 refine rPieces (L' := [srcP bks4 ca bs cc, RdR ndK ay2 ny2 Hy2 y2, RdR maK ayw2 nyw2 Hyw2 yw2, RdR maK ayv2 nyv2 Hyv2 yv2, OwnR maK 50 2 ayp2 nyp2 cyp2 Hyp2 yp2, blk bka3 31 [.int .i64 0, .slice none 0 0], blk bka2 31 [.int .i64 0, .slice none 0 0], blk bka1 29 [.slice none 0 0, .slice none 0 0, .slice none 0 0]]) (fun _ h => h) ?_
 refine rKnow (fun w hs => (show RdR ndK ay2 ny2 Hy2 y2 w from hs.at_ 1 rfl).1) (fun lenn5 => ?_)
 refine rKnow (fun w hs => (show RdR maK ayw2 nyw2 Hyw2 yw2 w from hs.at_ 2 rfl).1) (fun lenn6 => ?_)
 refine rKnow (fun w hs => (show RdR maK ayv2 nyv2 Hyv2 yv2 w from hs.at_ 3 rfl).1) (fun lenn7 => ?_)
 refine rKnow (fun w hs => (show OwnR maK 50 2 ayp2 nyp2 cyp2 Hyp2 yp2 w from hs.at_ 4 rfl).1) (fun lenn8 => ?_)
 refine mv rfl rfl rfl ?_
 refine ext rfl rfl rfl rfl ?_
 refine ext rfl rfl rfl rfl ?_
 refine alc Tryd.zeroValue29 rfl trv1 rfl rfl (fun bka9 hbka9 => ?_)
 refine alc Tryd.zeroValue31 rfl trv1 rfl rfl (fun bka10 hbka10 => ?_)
 refine stAl (vs := [.slice ay2 ny2 cy2, .slice ayw2 nyw2 cyw2, .slice ayv2 nyv2 cyv2]) 1 rfl Tryd.sizeOf29 trv rfl rfl rfl rfl rfl (by simp [Value.oneCell']) rfl ?_
 refine stAl (vs := [.int .i64 pl2, .slice ayp2 nyp2 cyp2]) 0 rfl Tryd.sizeOf31 trv rfl rfl rfl rfl rfl (by simp [Value.oneCell']) rfl ?_
 refine rNil ?_
 refine qSeq rfl ?_
 refine hSeq ?_
 refine hReg (sl 0 (sl 1 (sl 2 sz))) (by kernel_rfl) ?_
 refine ldAl Tryd.isAgg31 Tryd.sizeOf31 (cBs 0 rfl) trv rfl rfl rfl rfl ?_
 refine alc Tryd.zeroValue31 rfl trv1 rfl rfl (fun bka11 hbka11 => ?_)
 refine stAl (vs := [.int .i64 pl2, .slice ayp2 nyp2 cyp2]) 0 rfl Tryd.sizeOf31 trv rfl rfl rfl rfl rfl (by simp [Value.oneCell']) rfl ?_
 refine rNil ?_
 refine qSeq rfl ?_
 refine hSeq ?_
 refine hSeq ?_
 refine hReg (sl 0 (sl 1 sz)) (by kernel_rfl) ?_
 refine ldAl Tryd.isAgg29 Tryd.sizeOf29 (cBs 2 rfl) trv rfl rfl rfl rfl ?_
 refine callP (v := .bool (Math.isGame y2 yw2 yv2)) Tryd.call26 trv rfl rfl (fun w hs => spec_IsGame_c _ ny2 cy2 _ _ _ nyw2 cyw2 _ _ _ nyv2 cyv2 _ _ w (hs.at_ 4 rfl) (hs.at_ 5 rfl) (hs.at_ 6 rfl)) ?_
 refine rNil ?_
 refine qSeq rfl ?_
 refine hIf rfl (fun c1 => ?_) (fun c1 => ?_)
 ·
  replace c1 : (Math.isGame y2 yw2 yv2) = true := c1
  refine hSeq ?_
  refine hReg (sq 0 (sl 1 (sq 2 (sl 3 (sl 4 sz))))) (by kernel_rfl) ?_
  refine mvP rfl rfl rfl ?_
  refine ldAl Tryd.isAgg29 Tryd.sizeOf29 (cBs 2 rfl) trv rfl rfl rfl rfl ?_
  refine mvI rfl rfl rfl ?_
  refine rPieces (L' := [srcP bks4 ca bs cc, blk bka11 31 [.int .i64 pl2, .slice ayp2 nyp2 cyp2], blk bka10 31 [.int .i64 pl2, .slice ayp2 nyp2 cyp2], blk bka9 29 [.slice ay2 ny2 cy2, .slice ayw2 nyw2 cyw2, .slice ayv2 nyv2 cyv2], RdR ndK ay2 ny2 Hy2 y2, RdR maK ayw2 nyw2 Hyw2 yw2, RdR maK ayv2 nyv2 Hyv2 yv2, OwnR maK 50 2 ayp2 nyp2 cyp2 Hyp2 yp2, blk bka3 31 [.int .i64 0, .slice none 0 0], blk bka2 31 [.int .i64 0, .slice none 0 0], blk bka1 29 [.slice none 0 0, .slice none 0 0, .slice none 0 0]]) (fun _ h => h.perm (pull (i := 3) rfl)) ?_
  refine callMR (α := Option Addr × Nat × Nat × (Nat → Hd) × List (List Int)) (Lf := [srcP bks4 ca bs cc]) (Lr := [blk bka11 31 [.int .i64 pl2, .slice ayp2 nyp2 cyp2], blk bka10 31 [.int .i64 pl2, .slice ayp2 nyp2 cyp2], blk bka9 29 [.slice ay2 ny2 cy2, .slice ayw2 nyw2 cyw2, .slice ayv2 nyv2 cyv2], RdR ndK ay2 ny2 Hy2 y2, RdR maK ayw2 nyw2 Hyw2 yw2, RdR maK ayv2 nyv2 Hyv2 yv2, OwnR maK 50 2 ayp2 nyp2 cyp2 Hyp2 yp2, blk bka3 31 [.int .i64 0, .slice none 0 0], blk bka2 31 [.int .i64 0, .slice none 0 0], blk bka1 29 [.slice none 0 0, .slice none 0 0, .slice none 0 0]]) (good := fun x => x.2.1 ≤ 360 ∧ Math.drawnP x.2.2.2.2) (φs := fun x => [srcP bks4 ca bs cc, OwnR maK 50 2 x.1 x.2.1 x.2.2.1 x.2.2.2.1 x.2.2.2.2]) (val := fun x => .agg #[.int .i64 x1, .slice x.1 x.2.1 x.2.2.1]) rfl Tryd.call27 trv1 rfl rfl (fun w M1 hs hk => spec_l22Random_c bks4 ca bs cc ay2 ny2 cy2 Hy2 y2 ayw2 nyw2 cyw2 Hyw2 yw2 ayv2 nyv2 cyv2 Hyv2 yv2 x1 w M1 hs (hk _ (Kn.nil kcode)) hok (hk _ (Kn.at_ 3 rfl)) (hk _ (Kn.at_ 4 rfl)) (hk _ (Kn.at_ 5 rfl)) (by assumption) (by omega)) ?_
  rintro ⟨ay3, ny3, cy3, Hy3, y3⟩ hr3
  try dsimp only at hr3
  refine rPieces (L' := [srcP bks4 ca bs cc, OwnR maK 50 2 ay3 ny3 cy3 Hy3 y3, blk bka11 31 [.int .i64 pl2, .slice ayp2 nyp2 cyp2], blk bka10 31 [.int .i64 pl2, .slice ayp2 nyp2 cyp2], blk bka9 29 [.slice ay2 ny2 cy2, .slice ayw2 nyw2 cyw2, .slice ayv2 nyv2 cyv2], RdR ndK ay2 ny2 Hy2 y2, RdR maK ayw2 nyw2 Hyw2 yw2, RdR maK ayv2 nyv2 Hyv2 yv2, OwnR maK 50 2 ayp2 nyp2 cyp2 Hyp2 yp2, blk bka3 31 [.int .i64 0, .slice none 0 0], blk bka2 31 [.int .i64 0, .slice none 0 0], blk bka1 29 [.slice none 0 0, .slice none 0 0, .slice none 0 0]]) (fun _ h => h) ?_
  refine rKnow (fun w hs => (show OwnR maK 50 2 ay3 ny3 cy3 Hy3 y3 w from hs.at_ 1 rfl).1) (fun lenn12 => ?_)
  refine stAl (vs := [.int .i64 x1, .slice ay3 ny3 cy3]) 2 rfl Tryd.sizeOf31 trv rfl rfl rfl rfl rfl (by simp [Value.oneCell']) rfl ?_
  refine rNil ?_
  refine qSeq rfl ?_
  refine hSeq ?_
  refine hReg (sq 0 (sl 1 (sq 2 sz))) (by kernel_rfl) ?_
  refine mvP rfl rfl rfl ?_
  refine callMK (α := Int) (Lf := [srcP bks4 ca bs cc]) (Lr := [OwnR maK 50 2 ay3 ny3 cy3 Hy3 y3, blk bka11 31 [.int .i64 x1, .slice ay3 ny3 cy3], blk bka10 31 [.int .i64 pl2, .slice ayp2 nyp2 cyp2], blk bka9 29 [.slice ay2 ny2 cy2, .slice ayw2 nyw2 cyw2, .slice ayv2 nyv2 cyv2], RdR ndK ay2 ny2 Hy2 y2, RdR maK ayw2 nyw2 Hyw2 yw2, RdR maK ayv2 nyv2 Hyv2 yv2, OwnR maK 50 2 ayp2 nyp2 cyp2 Hyp2 yp2, blk bka3 31 [.int .i64 0, .slice none 0 0], blk bka2 31 [.int .i64 0, .slice none 0 0], blk bka1 29 [.slice none 0 0, .slice none 0 0, .slice none 0 0]]) (good := fun x => 0 ≤ x ∧ (x < (16 : Int) ∨ x = 0)) (φs := fun x => [srcP bks4 ca bs cc]) (val := fun x => .int .i64 x) rfl Tryd.call24 trv1 rfl rfl (fun w M1 hs hk => src_next bks4 ca bs cc (16 : Int) w M1 hs (hk _ kcode) hok) ?_
  intro x4 hx4
  replace hx4 : 0 ≤ x4 ∧ x4 < (16 : Int) := by omega
  try dsimp only at hx4
  refine rPieces (L' := [srcP bks4 ca bs cc, OwnR maK 50 2 ay3 ny3 cy3 Hy3 y3, blk bka11 31 [.int .i64 x1, .slice ay3 ny3 cy3], blk bka10 31 [.int .i64 pl2, .slice ayp2 nyp2 cyp2], blk bka9 29 [.slice ay2 ny2 cy2, .slice ayw2 nyw2 cyw2, .slice ayv2 nyv2 cyv2], RdR ndK ay2 ny2 Hy2 y2, RdR maK ayw2 nyw2 Hyw2 yw2, RdR maK ayv2 nyv2 Hyv2 yv2, OwnR maK 50 2 ayp2 nyp2 cyp2 Hyp2 yp2, blk bka3 31 [.int .i64 0, .slice none 0 0], blk bka2 31 [.int .i64 0, .slice none 0 0], blk bka1 29 [.slice none 0 0, .slice none 0 0, .slice none 0 0]]) (fun _ h => h) ?_
  refine eql rfl rfl rfl rfl ?_
  refine rNil ?_
  refine qSeq rfl ?_
  refine hIfD rfl (fun c2 => ?_) (fun c2 => ?_)
  ·
   replace c2 : x4 = 0 := c2
   refine hReg (sq 0 (sl 1 (sq 2 (sq 3 (sl 4 (sl 5 sz)))))) (by kernel_rfl) ?_
   refine mvP rfl rfl rfl ?_
   refine ldAl Tryd.isAgg29 Tryd.sizeOf29 (cBs 4 rfl) trv rfl rfl rfl rfl ?_
   refine mvI rfl rfl rfl ?_
   refine sub rfl rfl rfl rfl (by omega) ?_
   refine callMR (α := Option Addr × Nat × Nat × (Nat → Hd) × List (List Int)) (Lf := [srcP bks4 ca bs cc]) (Lr := [OwnR maK 50 2 ay3 ny3 cy3 Hy3 y3, blk bka11 31 [.int .i64 x1, .slice ay3 ny3 cy3], blk bka10 31 [.int .i64 pl2, .slice ayp2 nyp2 cyp2], blk bka9 29 [.slice ay2 ny2 cy2, .slice ayw2 nyw2 cyw2, .slice ayv2 nyv2 cyv2], RdR ndK ay2 ny2 Hy2 y2, RdR maK ayw2 nyw2 Hyw2 yw2, RdR maK ayv2 nyv2 Hyv2 yv2, OwnR maK 50 2 ayp2 nyp2 cyp2 Hyp2 yp2, blk bka3 31 [.int .i64 0, .slice none 0 0], blk bka2 31 [.int .i64 0, .slice none 0 0], blk bka1 29 [.slice none 0 0, .slice none 0 0, .slice none 0 0]]) (good := fun x => x.2.1 ≤ 360 ∧ Math.drawnP x.2.2.2.2) (φs := fun x => [srcP bks4 ca bs cc, OwnR maK 50 2 x.1 x.2.1 x.2.2.1 x.2.2.2.1 x.2.2.2.2]) (val := fun x => .agg #[.int .i64 (1 - x1), .slice x.1 x.2.1 x.2.2.1]) rfl Tryd.call27 trv1 rfl rfl (fun w M1 hs hk => spec_l22Random_c bks4 ca bs cc ay2 ny2 cy2 Hy2 y2 ayw2 nyw2 cyw2 Hyw2 yw2 ayv2 nyv2 cyv2 Hyv2 yv2 (1 - x1) w M1 hs (hk _ (Kn.nil kcode)) hok (hk _ (Kn.at_ 4 rfl)) (hk _ (Kn.at_ 5 rfl)) (hk _ (Kn.at_ 6 rfl)) (by assumption) (by omega)) ?_
   rintro ⟨ay5, ny5, cy5, Hy5, y5⟩ hr5
   try dsimp only at hr5
   refine rPieces (L' := [srcP bks4 ca bs cc, OwnR maK 50 2 ay5 ny5 cy5 Hy5 y5, OwnR maK 50 2 ay3 ny3 cy3 Hy3 y3, blk bka11 31 [.int .i64 x1, .slice ay3 ny3 cy3], blk bka10 31 [.int .i64 pl2, .slice ayp2 nyp2 cyp2], blk bka9 29 [.slice ay2 ny2 cy2, .slice ayw2 nyw2 cyw2, .slice ayv2 nyv2 cyv2], RdR ndK ay2 ny2 Hy2 y2, RdR maK ayw2 nyw2 Hyw2 yw2, RdR maK ayv2 nyv2 Hyv2 yv2, OwnR maK 50 2 ayp2 nyp2 cyp2 Hyp2 yp2, blk bka3 31 [.int .i64 0, .slice none 0 0], blk bka2 31 [.int .i64 0, .slice none 0 0], blk bka1 29 [.slice none 0 0, .slice none 0 0, .slice none 0 0]]) (fun _ h => h) ?_
   refine rKnow (fun w hs => (show OwnR maK 50 2 ay5 ny5 cy5 Hy5 y5 w from hs.at_ 1 rfl).1) (fun lenn13 => ?_)
   refine stAl (vs := [.int .i64 (1 - x1), .slice ay5 ny5 cy5]) 3 rfl Tryd.sizeOf31 trv rfl rfl rfl rfl rfl (by simp [Value.oneCell']) rfl ?_
   refine rNil ?_
   refine qSeq rfl ?_
   refine hSeq ?_
   refine hDraw (Ls := [blk bka11 31 [.int .i64 (1 - x1), .slice ay5 ny5 cy5], blk bka10 31 [.int .i64 pl2, .slice ayp2 nyp2 cyp2], blk bka9 29 [.slice ay2 ny2 cy2, .slice ayw2 nyw2 cyw2, .slice ayv2 nyv2 cyv2]]) (by kernel_rfl) (sq 0 (sq 1 (sq 2 (sq 3 (sq 4 (sl 5 (sl 6 (sl 7 (sl 8 (sl 9 (sl 10 (sq 11 sz)))))))))))) (by kernel_rfl) (.cons _ (.cons _ (.cons _ (.cons_cons _ (.cons_cons _ (.cons_cons _ (.cons _ (.cons _ (.cons _ (.cons _ (.cons _ (.cons _ (.cons _ .slnil))))))))))))) ?_
   refine ldAq Tryd.isAgg29 Tryd.sizeOf29 (cBs 2 rfl) rfl rfl rfl rfl ?_
   refine ldAq Tryd.isAgg31 Tryd.sizeOf31 (cBs 1 rfl) rfl rfl rfl rfl ?_
   refine ldAq Tryd.isAgg31 Tryd.sizeOf31 (cBs 0 rfl) rfl rfl rfl rfl ?_
   refine mvP rfl rfl rfl ?_
   refine mvP rfl rfl rfl ?_
   refine callMK (α := Int) (Lf := [srcP bks4 ca bs cc]) (Lr := [OwnR maK 50 2 ay5 ny5 cy5 Hy5 y5, OwnR maK 50 2 ay3 ny3 cy3 Hy3 y3, blk bka11 31 [.int .i64 (1 - x1), .slice ay5 ny5 cy5], blk bka10 31 [.int .i64 pl2, .slice ayp2 nyp2 cyp2], blk bka9 29 [.slice ay2 ny2 cy2, .slice ayw2 nyw2 cyw2, .slice ayv2 nyv2 cyv2], RdR ndK ay2 ny2 Hy2 y2, RdR maK ayw2 nyw2 Hyw2 yw2, RdR maK ayv2 nyv2 Hyv2 yv2, OwnR maK 50 2 ayp2 nyp2 cyp2 Hyp2 yp2, blk bka3 31 [.int .i64 0, .slice none 0 0], blk bka2 31 [.int .i64 0, .slice none 0 0], blk bka1 29 [.slice none 0 0, .slice none 0 0, .slice none 0 0]]) (good := fun x => 0 ≤ x ∧ (x < (61 : Int) ∨ x = 0)) (φs := fun x => [srcP bks4 ca bs cc]) (val := fun x => .int .i64 x) rfl Tryd.call24 (by exact (fun _ _ h => h.pick [3, 3, 3])) rfl rfl (fun w M1 hs hk => src_next bks4 ca bs cc (61 : Int) w M1 hs (hk _ kcode) hok) ?_
   intro x6 hx6
   replace hx6 : 0 ≤ x6 ∧ x6 < (61 : Int) := by omega
   try dsimp only at hx6
   refine rPieces (L' := [srcP bks4 ca bs cc, OwnR maK 50 2 ay5 ny5 cy5 Hy5 y5, OwnR maK 50 2 ay3 ny3 cy3 Hy3 y3, blk bka11 31 [.int .i64 (1 - x1), .slice ay5 ny5 cy5], blk bka10 31 [.int .i64 pl2, .slice ayp2 nyp2 cyp2], blk bka9 29 [.slice ay2 ny2 cy2, .slice ayw2 nyw2 cyw2, .slice ayv2 nyv2 cyv2], RdR ndK ay2 ny2 Hy2 y2, RdR maK ayw2 nyw2 Hyw2 yw2, RdR maK ayv2 nyv2 Hyv2 yv2, OwnR maK 50 2 ayp2 nyp2 cyp2 Hyp2 yp2, blk bka3 31 [.int .i64 0, .slice none 0 0], blk bka2 31 [.int .i64 0, .slice none 0 0], blk bka1 29 [.slice none 0 0, .slice none 0 0, .slice none 0 0]]) (fun _ h => h) ?_
   refine bsl (fun _ _ h => h.pick [4, 4, 4]) rfl rfl rfl (bsl50_6 (.int .i64 _) (.int .i64 _) (.int .i64 _) (.int .i64 _) (.int .i64 _) (.int .i64 _) rfl rfl rfl rfl rfl rfl) (fun bkl14 hbkl14 => ?_)
   refine rPieces (L' := [srcP bks4 ca bs cc, blk bkl14 2 [.int .i64 0, .int .i64 30, .int .i64 60, .int .i64 x6, .int .i64 (-1), .int .i64 61], OwnR maK 50 2 ay5 ny5 cy5 Hy5 y5, OwnR maK 50 2 ay3 ny3 cy3 Hy3 y3, blk bka11 31 [.int .i64 (1 - x1), .slice ay5 ny5 cy5], blk bka10 31 [.int .i64 pl2, .slice ayp2 nyp2 cyp2], blk bka9 29 [.slice ay2 ny2 cy2, .slice ayw2 nyw2 cyw2, .slice ayv2 nyv2 cyv2], RdR ndK ay2 ny2 Hy2 y2, RdR maK ayw2 nyw2 Hyw2 yw2, RdR maK ayv2 nyv2 Hyv2 yv2, OwnR maK 50 2 ayp2 nyp2 cyp2 Hyp2 yp2, blk bka3 31 [.int .i64 0, .slice none 0 0], blk bka2 31 [.int .i64 0, .slice none 0 0], blk bka1 29 [.slice none 0 0, .slice none 0 0, .slice none 0 0]]) (fun _ h => h.perm (pull (i := 1) rfl)) ?_
   refine callMK (α := Int) (Lf := [srcP bks4 ca bs cc, blk bkl14 2 [.int .i64 0, .int .i64 30, .int .i64 60, .int .i64 x6, .int .i64 (-1), .int .i64 61]]) (Lr := [OwnR maK 50 2 ay5 ny5 cy5 Hy5 y5, OwnR maK 50 2 ay3 ny3 cy3 Hy3 y3, blk bka11 31 [.int .i64 (1 - x1), .slice ay5 ny5 cy5], blk bka10 31 [.int .i64 pl2, .slice ayp2 nyp2 cyp2], blk bka9 29 [.slice ay2 ny2 cy2, .slice ayw2 nyw2 cyw2, .slice ayv2 nyv2 cyv2], RdR ndK ay2 ny2 Hy2 y2, RdR maK ayw2 nyw2 Hyw2 yw2, RdR maK ayv2 nyv2 Hyv2 yv2, OwnR maK 50 2 ayp2 nyp2 cyp2 Hyp2 yp2, blk bka3 31 [.int .i64 0, .slice none 0 0], blk bka2 31 [.int .i64 0, .slice none 0 0], blk bka1 29 [.slice none 0 0, .slice none 0 0, .slice none 0 0]]) (good := fun x => x ∈ ([.int .i64 0, .int .i64 30, .int .i64 60, .int .i64 x6, .int .i64 (-1), .int .i64 61] : List Value).map toI) (φs := fun x => [srcP bks4 ca bs cc, blk bkl14 2 [.int .i64 0, .int .i64 30, .int .i64 60, .int .i64 x6, .int .i64 (-1), .int .i64 61]]) (val := fun x => .int .i64 x) rfl Tryd.call28 (by exact (fun _ _ h => h.pick [4, 4, 4])) rfl rfl (fun w M1 hs hk => src_pick bks4 ca bs cc bkl14 2 6 6 [.int .i64 0, .int .i64 30, .int .i64 60, .int .i64 x6, .int .i64 (-1), .int .i64 61] w M1 hs (hk _ kcode) hok rfl rfl (by decide)) ?_
   intro x7 hx7
   try dsimp only at hx7
   refine rPieces (L' := [srcP bks4 ca bs cc, blk bkl14 2 [.int .i64 0, .int .i64 30, .int .i64 60, .int .i64 x6, .int .i64 (-1), .int .i64 61], OwnR maK 50 2 ay5 ny5 cy5 Hy5 y5, OwnR maK 50 2 ay3 ny3 cy3 Hy3 y3, blk bka11 31 [.int .i64 (1 - x1), .slice ay5 ny5 cy5], blk bka10 31 [.int .i64 pl2, .slice ayp2 nyp2 cyp2], blk bka9 29 [.slice ay2 ny2 cy2, .slice ayw2 nyw2 cyw2, .slice ayv2 nyv2 cyv2], RdR ndK ay2 ny2 Hy2 y2, RdR maK ayw2 nyw2 Hyw2 yw2, RdR maK ayv2 nyv2 Hyv2 yv2, OwnR maK 50 2 ayp2 nyp2 cyp2 Hyp2 yp2, blk bka3 31 [.int .i64 0, .slice none 0 0], blk bka2 31 [.int .i64 0, .slice none 0 0], blk bka1 29 [.slice none 0 0, .slice none 0 0, .slice none 0 0]]) (fun _ h => h) ?_
   replace hx7 : x7 = 0 ∨ x7 = 30 ∨ x7 = 60 ∨ x7 = x6 ∨ x7 = (-1) ∨ x7 = 61 := by simpa [toI] using hx7
   refine stAl (vs := [.slice ay2 ny2 cy2, .slice ayw2 nyw2 cyw2, .slice ayv2 nyv2 cyv2]) 13 rfl Tryd.sizeOf29 (fun _ h => h.pick [4, 4, 4]) rfl rfl rfl rfl rfl (by simp [Value.oneCell']) rfl ?_
   refine stAl (vs := [.int .i64 pl2, .slice ayp2 nyp2 cyp2]) 12 rfl Tryd.sizeOf31 (fun _ h => h.pick [4, 4, 4]) rfl rfl rfl rfl rfl (by simp [Value.oneCell']) rfl ?_
   refine stAl (vs := [.int .i64 (1 - x1), .slice ay5 ny5 cy5]) 11 rfl Tryd.sizeOf31 (fun _ h => h.pick [4, 4, 4]) rfl rfl rfl rfl rfl (by simp [Value.oneCell']) rfl ?_
   refine asI rfl rfl rfl ?_
   refine rNil ?_
   refine qSeq rfl ?_
   refine hRet ?_
   refine knP (L' := [srcP bks4 ca bs cc, blk bkl14 2 [.int .i64 0, .int .i64 30, .int .i64 60, .int .i64 x6, .int .i64 (-1), .int .i64 61], RdR maK ay5 ny5 Hy5 y5, OwnR maK 50 2 ay3 ny3 cy3 Hy3 y3, blk bka11 31 [.int .i64 (1 - x1), .slice ay5 ny5 cy5], blk bka10 31 [.int .i64 pl2, .slice ayp2 nyp2 cyp2], blk bka9 29 [.slice ay2 ny2 cy2, .slice ayw2 nyw2 cyw2, .slice ayv2 nyv2 cyv2], RdR ndK ay2 ny2 Hy2 y2, RdR maK ayw2 nyw2 Hyw2 yw2, RdR maK ayv2 nyv2 Hyv2 yv2, OwnR maK 50 2 ayp2 nyp2 cyp2 Hyp2 yp2, blk bka3 31 [.int .i64 (1 - x1), .slice ay5 ny5 cy5], blk bka2 31 [.int .i64 pl2, .slice ayp2 nyp2 cyp2], blk bka1 29 [.slice ay2 ny2 cy2, .slice ayw2 nyw2 cyw2, .slice ayv2 nyv2 cyv2]]) (fun _ h => h.imp 2 rfl fun _ h => OwnR.rd h maK.ok) ?_
   exact fun w hs => ⟨[_, _, _, .int .i64 x7], ⟨⟨_, rfl, run_load_agg Tryd.isAgg29 Tryd.sizeOf29 rfl (cBs 13 rfl w hs)⟩, ⟨⟨_, rfl, run_load_agg Tryd.isAgg31 Tryd.sizeOf31 rfl (cBs 12 rfl w hs)⟩, ⟨⟨_, rfl, run_load_agg Tryd.isAgg31 Tryd.sizeOf31 rfl (cBs 11 rfl w hs)⟩, ⟨rfl, trivial⟩⟩⟩⟩, ⟨(ay2, ny2, cy2, Hy2, y2, ayw2, nyw2, cyw2, Hyw2, yw2, ayv2, nyv2, cyv2, Hyv2, yv2, pl2, ayp2, nyp2, cyp2, Hyp2, yp2, (1 - x1), ay5, ny5, cy5, Hy5, y5, x7), rfl, ⟨by dsimp only; omega, ⟨⟨by dsimp only; omega, by dsimp only; omega⟩, by dsimp only; omega⟩, ⟨⟨by dsimp only; omega, by dsimp only; omega⟩, by dsimp only; omega⟩, ⟨⟨by dsimp only; omega, by dsimp only; omega⟩, by dsimp only; omega⟩, ⟨by dsimp only; omega, by dsimp only; omega⟩⟩, hs.pick [7, 7, 7, 7, 2]⟩⟩
  ·
   replace c2 : ¬ (x4 = 0) := c2
   refine hSkip ?_
   refine qSeq rfl ?_
   refine hSeq ?_
   refine hDraw (Ls := [blk bka11 31 [.int .i64 x1, .slice ay3 ny3 cy3], blk bka10 31 [.int .i64 pl2, .slice ayp2 nyp2 cyp2], blk bka9 29 [.slice ay2 ny2 cy2, .slice ayw2 nyw2 cyw2, .slice ayv2 nyv2 cyv2]]) (by kernel_rfl) (sq 0 (sq 1 (sq 2 (sq 3 (sq 4 (sl 5 (sl 6 (sl 7 (sl 8 (sl 9 (sl 10 (sq 11 sz)))))))))))) (by kernel_rfl) (.cons _ (.cons _ (.cons_cons _ (.cons_cons _ (.cons_cons _ (.cons _ (.cons _ (.cons _ (.cons _ (.cons _ (.cons _ (.cons _ .slnil)))))))))))) ?_
   refine ldAq Tryd.isAgg29 Tryd.sizeOf29 (cBs 2 rfl) rfl rfl rfl rfl ?_
   refine ldAq Tryd.isAgg31 Tryd.sizeOf31 (cBs 1 rfl) rfl rfl rfl rfl ?_
   refine ldAq Tryd.isAgg31 Tryd.sizeOf31 (cBs 0 rfl) rfl rfl rfl rfl ?_
   refine mvP rfl rfl rfl ?_
   refine mvP rfl rfl rfl ?_
   refine callMK (α := Int) (Lf := [srcP bks4 ca bs cc]) (Lr := [OwnR maK 50 2 ay3 ny3 cy3 Hy3 y3, blk bka11 31 [.int .i64 x1, .slice ay3 ny3 cy3], blk bka10 31 [.int .i64 pl2, .slice ayp2 nyp2 cyp2], blk bka9 29 [.slice ay2 ny2 cy2, .slice ayw2 nyw2 cyw2, .slice ayv2 nyv2 cyv2], RdR ndK ay2 ny2 Hy2 y2, RdR maK ayw2 nyw2 Hyw2 yw2, RdR maK ayv2 nyv2 Hyv2 yv2, OwnR maK 50 2 ayp2 nyp2 cyp2 Hyp2 yp2, blk bka3 31 [.int .i64 0, .slice none 0 0], blk bka2 31 [.int .i64 0, .slice none 0 0], blk bka1 29 [.slice none 0 0, .slice none 0 0, .slice none 0 0]]) (good := fun x => 0 ≤ x ∧ (x < (61 : Int) ∨ x = 0)) (φs := fun x => [srcP bks4 ca bs cc]) (val := fun x => .int .i64 x) rfl Tryd.call24 (by exact (fun _ _ h => h.pick [2, 2, 2])) rfl rfl (fun w M1 hs hk => src_next bks4 ca bs cc (61 : Int) w M1 hs (hk _ kcode) hok) ?_
   intro x8 hx8
   replace hx8 : 0 ≤ x8 ∧ x8 < (61 : Int) := by omega
   try dsimp only at hx8
   refine rPieces (L' := [srcP bks4 ca bs cc, OwnR maK 50 2 ay3 ny3 cy3 Hy3 y3, blk bka11 31 [.int .i64 x1, .slice ay3 ny3 cy3], blk bka10 31 [.int .i64 pl2, .slice ayp2 nyp2 cyp2], blk bka9 29 [.slice ay2 ny2 cy2, .slice ayw2 nyw2 cyw2, .slice ayv2 nyv2 cyv2], RdR ndK ay2 ny2 Hy2 y2, RdR maK ayw2 nyw2 Hyw2 yw2, RdR maK ayv2 nyv2 Hyv2 yv2, OwnR maK 50 2 ayp2 nyp2 cyp2 Hyp2 yp2, blk bka3 31 [.int .i64 0, .slice none 0 0], blk bka2 31 [.int .i64 0, .slice none 0 0], blk bka1 29 [.slice none 0 0, .slice none 0 0, .slice none 0 0]]) (fun _ h => h) ?_
   refine bsl (fun _ _ h => h.pick [3, 3, 3]) rfl rfl rfl (bsl50_6 (.int .i64 _) (.int .i64 _) (.int .i64 _) (.int .i64 _) (.int .i64 _) (.int .i64 _) rfl rfl rfl rfl rfl rfl) (fun bkl15 hbkl15 => ?_)
   refine rPieces (L' := [srcP bks4 ca bs cc, blk bkl15 2 [.int .i64 0, .int .i64 30, .int .i64 60, .int .i64 x8, .int .i64 (-1), .int .i64 61], OwnR maK 50 2 ay3 ny3 cy3 Hy3 y3, blk bka11 31 [.int .i64 x1, .slice ay3 ny3 cy3], blk bka10 31 [.int .i64 pl2, .slice ayp2 nyp2 cyp2], blk bka9 29 [.slice ay2 ny2 cy2, .slice ayw2 nyw2 cyw2, .slice ayv2 nyv2 cyv2], RdR ndK ay2 ny2 Hy2 y2, RdR maK ayw2 nyw2 Hyw2 yw2, RdR maK ayv2 nyv2 Hyv2 yv2, OwnR maK 50 2 ayp2 nyp2 cyp2 Hyp2 yp2, blk bka3 31 [.int .i64 0, .slice none 0 0], blk bka2 31 [.int .i64 0, .slice none 0 0], blk bka1 29 [.slice none 0 0, .slice none 0 0, .slice none 0 0]]) (fun _ h => h.perm (pull (i := 1) rfl)) ?_
   refine callMK (α := Int) (Lf := [srcP bks4 ca bs cc, blk bkl15 2 [.int .i64 0, .int .i64 30, .int .i64 60, .int .i64 x8, .int .i64 (-1), .int .i64 61]]) (Lr := [OwnR maK 50 2 ay3 ny3 cy3 Hy3 y3, blk bka11 31 [.int .i64 x1, .slice ay3 ny3 cy3], blk bka10 31 [.int .i64 pl2, .slice ayp2 nyp2 cyp2], blk bka9 29 [.slice ay2 ny2 cy2, .slice ayw2 nyw2 cyw2, .slice ayv2 nyv2 cyv2], RdR ndK ay2 ny2 Hy2 y2, RdR maK ayw2 nyw2 Hyw2 yw2, RdR maK ayv2 nyv2 Hyv2 yv2, OwnR maK 50 2 ayp2 nyp2 cyp2 Hyp2 yp2, blk bka3 31 [.int .i64 0, .slice none 0 0], blk bka2 31 [.int .i64 0, .slice none 0 0], blk bka1 29 [.slice none 0 0, .slice none 0 0, .slice none 0 0]]) (good := fun x => x ∈ ([.int .i64 0, .int .i64 30, .int .i64 60, .int .i64 x8, .int .i64 (-1), .int .i64 61] : List Value).map toI) (φs := fun x => [srcP bks4 ca bs cc, blk bkl15 2 [.int .i64 0, .int .i64 30, .int .i64 60, .int .i64 x8, .int .i64 (-1), .int .i64 61]]) (val := fun x => .int .i64 x) rfl Tryd.call28 (by exact (fun _ _ h => h.pick [3, 3, 3])) rfl rfl (fun w M1 hs hk => src_pick bks4 ca bs cc bkl15 2 6 6 [.int .i64 0, .int .i64 30, .int .i64 60, .int .i64 x8, .int .i64 (-1), .int .i64 61] w M1 hs (hk _ kcode) hok rfl rfl (by decide)) ?_
   intro x9 hx9
   try dsimp only at hx9
   refine rPieces (L' := [srcP bks4 ca bs cc, blk bkl15 2 [.int .i64 0, .int .i64 30, .int .i64 60, .int .i64 x8, .int .i64 (-1), .int .i64 61], OwnR maK 50 2 ay3 ny3 cy3 Hy3 y3, blk bka11 31 [.int .i64 x1, .slice ay3 ny3 cy3], blk bka10 31 [.int .i64 pl2, .slice ayp2 nyp2 cyp2], blk bka9 29 [.slice ay2 ny2 cy2, .slice ayw2 nyw2 cyw2, .slice ayv2 nyv2 cyv2], RdR ndK ay2 ny2 Hy2 y2, RdR maK ayw2 nyw2 Hyw2 yw2, RdR maK ayv2 nyv2 Hyv2 yv2, OwnR maK 50 2 ayp2 nyp2 cyp2 Hyp2 yp2, blk bka3 31 [.int .i64 0, .slice none 0 0], blk bka2 31 [.int .i64 0, .slice none 0 0], blk bka1 29 [.slice none 0 0, .slice none 0 0, .slice none 0 0]]) (fun _ h => h) ?_
   replace hx9 : x9 = 0 ∨ x9 = 30 ∨ x9 = 60 ∨ x9 = x8 ∨ x9 = (-1) ∨ x9 = 61 := by simpa [toI] using hx9
   refine stAl (vs := [.slice ay2 ny2 cy2, .slice ayw2 nyw2 cyw2, .slice ayv2 nyv2 cyv2]) 12 rfl Tryd.sizeOf29 (fun _ h => h.pick [3, 3, 3]) rfl rfl rfl rfl rfl (by simp [Value.oneCell']) rfl ?_
   refine stAl (vs := [.int .i64 pl2, .slice ayp2 nyp2 cyp2]) 11 rfl Tryd.sizeOf31 (fun _ h => h.pick [3, 3, 3]) rfl rfl rfl rfl rfl (by simp [Value.oneCell']) rfl ?_
   refine stAl (vs := [.int .i64 x1, .slice ay3 ny3 cy3]) 10 rfl Tryd.sizeOf31 (fun _ h => h.pick [3, 3, 3]) rfl rfl rfl rfl rfl (by simp [Value.oneCell']) rfl ?_
   refine asI rfl rfl rfl ?_
   refine rNil ?_
   refine qSeq rfl ?_
   refine hRet ?_
   refine knP (L' := [srcP bks4 ca bs cc, blk bkl15 2 [.int .i64 0, .int .i64 30, .int .i64 60, .int .i64 x8, .int .i64 (-1), .int .i64 61], RdR maK ay3 ny3 Hy3 y3, blk bka11 31 [.int .i64 x1, .slice ay3 ny3 cy3], blk bka10 31 [.int .i64 pl2, .slice ayp2 nyp2 cyp2], blk bka9 29 [.slice ay2 ny2 cy2, .slice ayw2 nyw2 cyw2, .slice ayv2 nyv2 cyv2], RdR ndK ay2 ny2 Hy2 y2, RdR maK ayw2 nyw2 Hyw2 yw2, RdR maK ayv2 nyv2 Hyv2 yv2, OwnR maK 50 2 ayp2 nyp2 cyp2 Hyp2 yp2, blk bka3 31 [.int .i64 x1, .slice ay3 ny3 cy3], blk bka2 31 [.int .i64 pl2, .slice ayp2 nyp2 cyp2], blk bka1 29 [.slice ay2 ny2 cy2, .slice ayw2 nyw2 cyw2, .slice ayv2 nyv2 cyv2]]) (fun _ h => h.imp 2 rfl fun _ h => OwnR.rd h maK.ok) ?_
   exact fun w hs => ⟨[_, _, _, .int .i64 x9], ⟨⟨_, rfl, run_load_agg Tryd.isAgg29 Tryd.sizeOf29 rfl (cBs 12 rfl w hs)⟩, ⟨⟨_, rfl, run_load_agg Tryd.isAgg31 Tryd.sizeOf31 rfl (cBs 11 rfl w hs)⟩, ⟨⟨_, rfl, run_load_agg Tryd.isAgg31 Tryd.sizeOf31 rfl (cBs 10 rfl w hs)⟩, ⟨rfl, trivial⟩⟩⟩⟩, ⟨(ay2, ny2, cy2, Hy2, y2, ayw2, nyw2, cyw2, Hyw2, yw2, ayv2, nyv2, cyv2, Hyv2, yv2, pl2, ayp2, nyp2, cyp2, Hyp2, yp2, x1, ay3, ny3, cy3, Hy3, y3, x9), rfl, ⟨by dsimp only; omega, ⟨⟨by dsimp only; omega, by dsimp only; omega⟩, by dsimp only; omega⟩, ⟨⟨by dsimp only; omega, by dsimp only; omega⟩, by dsimp only; omega⟩, ⟨⟨by dsimp only; omega, by dsimp only; omega⟩, by dsimp only; omega⟩, ⟨by dsimp only; omega, by dsimp only; omega⟩⟩, hs.pick [6, 6, 6, 6, 2]⟩⟩
 ·
  replace c1 : (Math.isGame y2 yw2 yv2) = false := c1
  have hny0 : nyp2 = 0 := hr2.2.resolve_left (by first | (rw [c1]; decide) | (simp [c1]))
  refine hPieces (L' := [RdR maK ayp2 nyp2 Hyp2 yp2, blk bka11 31 [.int .i64 pl2, .slice ayp2 nyp2 cyp2], blk bka10 31 [.int .i64 pl2, .slice ayp2 nyp2 cyp2], blk bka9 29 [.slice ay2 ny2 cy2, .slice ayw2 nyw2 cyw2, .slice ayv2 nyv2 cyv2], srcP bks4 ca bs cc, RdR ndK ay2 ny2 Hy2 y2, RdR maK ayw2 nyw2 Hyw2 yw2, RdR maK ayv2 nyv2 Hyv2 yv2, OwnR maK 50 2 ayp2 nyp2 cyp2 Hyp2 yp2, blk bka3 31 [.int .i64 0, .slice none 0 0], blk bka2 31 [.int .i64 0, .slice none 0 0], blk bka1 29 [.slice none 0 0, .slice none 0 0, .slice none 0 0]]) (fun _ h => h.bare fun _ _ _ => RdR.nil0 hny0 lenn8) ?_
  refine hSkip ?_
  refine qSeq rfl ?_
  refine hSeq ?_
  refine hDraw (Ls := [blk bka11 31 [.int .i64 pl2, .slice ayp2 nyp2 cyp2], blk bka10 31 [.int .i64 pl2, .slice ayp2 nyp2 cyp2], blk bka9 29 [.slice ay2 ny2 cy2, .slice ayw2 nyw2 cyw2, .slice ayv2 nyv2 cyv2]]) (by kernel_rfl) (sq 0 (sq 1 (sq 2 (sq 3 (sq 4 (sl 5 (sl 6 (sl 7 (sl 8 (sl 9 (sl 10 (sq 11 sz)))))))))))) (by kernel_rfl) (.cons _ (.cons_cons _ (.cons_cons _ (.cons_cons _ (.cons _ (.cons _ (.cons _ (.cons _ (.cons _ (.cons _ (.cons _ (.cons _ .slnil)))))))))))) ?_
  refine ldAq Tryd.isAgg29 Tryd.sizeOf29 (cBs 2 rfl) rfl rfl rfl rfl ?_
  refine ldAq Tryd.isAgg31 Tryd.sizeOf31 (cBs 1 rfl) rfl rfl rfl rfl ?_
  refine ldAq Tryd.isAgg31 Tryd.sizeOf31 (cBs 0 rfl) rfl rfl rfl rfl ?_
  refine mvP rfl rfl rfl ?_
  refine mvP rfl rfl rfl ?_
  refine rPieces (L' := [srcP bks4 ca bs cc, RdR maK ayp2 nyp2 Hyp2 yp2, blk bka11 31 [.int .i64 pl2, .slice ayp2 nyp2 cyp2], blk bka10 31 [.int .i64 pl2, .slice ayp2 nyp2 cyp2], blk bka9 29 [.slice ay2 ny2 cy2, .slice ayw2 nyw2 cyw2, .slice ayv2 nyv2 cyv2], RdR ndK ay2 ny2 Hy2 y2, RdR maK ayw2 nyw2 Hyw2 yw2, RdR maK ayv2 nyv2 Hyv2 yv2, OwnR maK 50 2 ayp2 nyp2 cyp2 Hyp2 yp2, blk bka3 31 [.int .i64 0, .slice none 0 0], blk bka2 31 [.int .i64 0, .slice none 0 0], blk bka1 29 [.slice none 0 0, .slice none 0 0, .slice none 0 0]]) (fun _ h => h.perm (pull (i := 4) rfl)) ?_
  refine callMK (α := Int) (Lf := [srcP bks4 ca bs cc]) (Lr := [RdR maK ayp2 nyp2 Hyp2 yp2, blk bka11 31 [.int .i64 pl2, .slice ayp2 nyp2 cyp2], blk bka10 31 [.int .i64 pl2, .slice ayp2 nyp2 cyp2], blk bka9 29 [.slice ay2 ny2 cy2, .slice ayw2 nyw2 cyw2, .slice ayv2 nyv2 cyv2], RdR ndK ay2 ny2 Hy2 y2, RdR maK ayw2 nyw2 Hyw2 yw2, RdR maK ayv2 nyv2 Hyv2 yv2, OwnR maK 50 2 ayp2 nyp2 cyp2 Hyp2 yp2, blk bka3 31 [.int .i64 0, .slice none 0 0], blk bka2 31 [.int .i64 0, .slice none 0 0], blk bka1 29 [.slice none 0 0, .slice none 0 0, .slice none 0 0]]) (good := fun x => 0 ≤ x ∧ (x < (61 : Int) ∨ x = 0)) (φs := fun x => [srcP bks4 ca bs cc]) (val := fun x => .int .i64 x) rfl Tryd.call24 (by exact (fun _ _ h => h.pick [2, 2, 2])) rfl rfl (fun w M1 hs hk => src_next bks4 ca bs cc (61 : Int) w M1 hs (hk _ kcode) hok) ?_
  intro x10 hx10
  replace hx10 : 0 ≤ x10 ∧ x10 < (61 : Int) := by omega
  try dsimp only at hx10
  refine rPieces (L' := [srcP bks4 ca bs cc, RdR maK ayp2 nyp2 Hyp2 yp2, blk bka11 31 [.int .i64 pl2, .slice ayp2 nyp2 cyp2], blk bka10 31 [.int .i64 pl2, .slice ayp2 nyp2 cyp2], blk bka9 29 [.slice ay2 ny2 cy2, .slice ayw2 nyw2 cyw2, .slice ayv2 nyv2 cyv2], RdR ndK ay2 ny2 Hy2 y2, RdR maK ayw2 nyw2 Hyw2 yw2, RdR maK ayv2 nyv2 Hyv2 yv2, OwnR maK 50 2 ayp2 nyp2 cyp2 Hyp2 yp2, blk bka3 31 [.int .i64 0, .slice none 0 0], blk bka2 31 [.int .i64 0, .slice none 0 0], blk bka1 29 [.slice none 0 0, .slice none 0 0, .slice none 0 0]]) (fun _ h => h) ?_
  refine bsl (fun _ _ h => h.pick [3, 3, 3]) rfl rfl rfl (bsl50_6 (.int .i64 _) (.int .i64 _) (.int .i64 _) (.int .i64 _) (.int .i64 _) (.int .i64 _) rfl rfl rfl rfl rfl rfl) (fun bkl17 hbkl17 => ?_)
  refine rPieces (L' := [srcP bks4 ca bs cc, blk bkl17 2 [.int .i64 0, .int .i64 30, .int .i64 60, .int .i64 x10, .int .i64 (-1), .int .i64 61], RdR maK ayp2 nyp2 Hyp2 yp2, blk bka11 31 [.int .i64 pl2, .slice ayp2 nyp2 cyp2], blk bka10 31 [.int .i64 pl2, .slice ayp2 nyp2 cyp2], blk bka9 29 [.slice ay2 ny2 cy2, .slice ayw2 nyw2 cyw2, .slice ayv2 nyv2 cyv2], RdR ndK ay2 ny2 Hy2 y2, RdR maK ayw2 nyw2 Hyw2 yw2, RdR maK ayv2 nyv2 Hyv2 yv2, OwnR maK 50 2 ayp2 nyp2 cyp2 Hyp2 yp2, blk bka3 31 [.int .i64 0, .slice none 0 0], blk bka2 31 [.int .i64 0, .slice none 0 0], blk bka1 29 [.slice none 0 0, .slice none 0 0, .slice none 0 0]]) (fun _ h => h.perm (pull (i := 1) rfl)) ?_
  refine callMK (α := Int) (Lf := [srcP bks4 ca bs cc, blk bkl17 2 [.int .i64 0, .int .i64 30, .int .i64 60, .int .i64 x10, .int .i64 (-1), .int .i64 61]]) (Lr := [RdR maK ayp2 nyp2 Hyp2 yp2, blk bka11 31 [.int .i64 pl2, .slice ayp2 nyp2 cyp2], blk bka10 31 [.int .i64 pl2, .slice ayp2 nyp2 cyp2], blk bka9 29 [.slice ay2 ny2 cy2, .slice ayw2 nyw2 cyw2, .slice ayv2 nyv2 cyv2], RdR ndK ay2 ny2 Hy2 y2, RdR maK ayw2 nyw2 Hyw2 yw2, RdR maK ayv2 nyv2 Hyv2 yv2, OwnR maK 50 2 ayp2 nyp2 cyp2 Hyp2 yp2, blk bka3 31 [.int .i64 0, .slice none 0 0], blk bka2 31 [.int .i64 0, .slice none 0 0], blk bka1 29 [.slice none 0 0, .slice none 0 0, .slice none 0 0]]) (good := fun x => x ∈ ([.int .i64 0, .int .i64 30, .int .i64 60, .int .i64 x10, .int .i64 (-1), .int .i64 61] : List Value).map toI) (φs := fun x => [srcP bks4 ca bs cc, blk bkl17 2 [.int .i64 0, .int .i64 30, .int .i64 60, .int .i64 x10, .int .i64 (-1), .int .i64 61]]) (val := fun x => .int .i64 x) rfl Tryd.call28 (by exact (fun _ _ h => h.pick [3, 3, 3])) rfl rfl (fun w M1 hs hk => src_pick bks4 ca bs cc bkl17 2 6 6 [.int .i64 0, .int .i64 30, .int .i64 60, .int .i64 x10, .int .i64 (-1), .int .i64 61] w M1 hs (hk _ kcode) hok rfl rfl (by decide)) ?_
  intro x11 hx11
  try dsimp only at hx11
  refine rPieces (L' := [srcP bks4 ca bs cc, blk bkl17 2 [.int .i64 0, .int .i64 30, .int .i64 60, .int .i64 x10, .int .i64 (-1), .int .i64 61], RdR maK ayp2 nyp2 Hyp2 yp2, blk bka11 31 [.int .i64 pl2, .slice ayp2 nyp2 cyp2], blk bka10 31 [.int .i64 pl2, .slice ayp2 nyp2 cyp2], blk bka9 29 [.slice ay2 ny2 cy2, .slice ayw2 nyw2 cyw2, .slice ayv2 nyv2 cyv2], RdR ndK ay2 ny2 Hy2 y2, RdR maK ayw2 nyw2 Hyw2 yw2, RdR maK ayv2 nyv2 Hyv2 yv2, OwnR maK 50 2 ayp2 nyp2 cyp2 Hyp2 yp2, blk bka3 31 [.int .i64 0, .slice none 0 0], blk bka2 31 [.int .i64 0, .slice none 0 0], blk bka1 29 [.slice none 0 0, .slice none 0 0, .slice none 0 0]]) (fun _ h => h) ?_
  replace hx11 : x11 = 0 ∨ x11 = 30 ∨ x11 = 60 ∨ x11 = x10 ∨ x11 = (-1) ∨ x11 = 61 := by simpa [toI] using hx11
  refine stAl (vs := [.slice ay2 ny2 cy2, .slice ayw2 nyw2 cyw2, .slice ayv2 nyv2 cyv2]) 12 rfl Tryd.sizeOf29 (fun _ h => h.pick [3, 3, 3]) rfl rfl rfl rfl rfl (by simp [Value.oneCell']) rfl ?_
  refine stAl (vs := [.int .i64 pl2, .slice ayp2 nyp2 cyp2]) 11 rfl Tryd.sizeOf31 (fun _ h => h.pick [3, 3, 3]) rfl rfl rfl rfl rfl (by simp [Value.oneCell']) rfl ?_
  refine stAl (vs := [.int .i64 pl2, .slice ayp2 nyp2 cyp2]) 10 rfl Tryd.sizeOf31 (fun _ h => h.pick [3, 3, 3]) rfl rfl rfl rfl rfl (by simp [Value.oneCell']) rfl ?_
  refine asI rfl rfl rfl ?_
  refine rNil ?_
  refine qSeq rfl ?_
  refine hRet ?_
  exact fun w hs => ⟨[_, _, _, .int .i64 x11], ⟨⟨_, rfl, run_load_agg Tryd.isAgg29 Tryd.sizeOf29 rfl (cBs 12 rfl w hs)⟩, ⟨⟨_, rfl, run_load_agg Tryd.isAgg31 Tryd.sizeOf31 rfl (cBs 11 rfl w hs)⟩, ⟨⟨_, rfl, run_load_agg Tryd.isAgg31 Tryd.sizeOf31 rfl (cBs 10 rfl w hs)⟩, ⟨rfl, trivial⟩⟩⟩⟩, ⟨(ay2, ny2, cy2, Hy2, y2, ayw2, nyw2, cyw2, Hyw2, yw2, ayv2, nyv2, cyv2, Hyv2, yv2, pl2, ayp2, nyp2, cyp2, Hyp2, yp2, pl2, ayp2, nyp2, cyp2, Hyp2, yp2, x11), rfl, ⟨by dsimp only; omega, ⟨⟨by dsimp only; omega, by dsimp only; omega⟩, by dsimp only; omega⟩, ⟨⟨by dsimp only; omega, by dsimp only; omega⟩, by dsimp only; omega⟩, ⟨⟨by dsimp only; omega, by dsimp only; omega⟩, by dsimp only; omega⟩, ⟨by dsimp only; omega, by dsimp only; omega⟩⟩, hs.pick [6, 6, 6, 6, 2]⟩⟩
set_option maxHeartbeats 4000000 in
theorem spec_DrawStrategyText_c (ca : Option Addr) (bs : List Int) (cc : Nat) (w : World) (rcode : CellsAt ca (bs.map (Value.int .u8)) w) (hok : okBytes bs) :
  Calls Tryd.prog 9 #[.slice ca bs.length cc] w (Ret fun v w' => ∃ x : Option Addr × Nat × Nat × (Nat → Hd) × List Nd × Option Addr × Nat × Nat × (Nat → Hd) × List (List Int) × Option Addr × Nat × Nat × (Nat → Hd) × List (List Int) × Int × Option Addr × Nat × Nat × (Nat → Hd) × List (List Int), v = .tuple #[.agg #[.slice x.1 x.2.1 x.2.2.1, .slice x.2.2.2.2.2.1 x.2.2.2.2.2.2.1 x.2.2.2.2.2.2.2.1, .slice x.2.2.2.2.2.2.2.2.2.2.1 x.2.2.2.2.2.2.2.2.2.2.2.1 x.2.2.2.2.2.2.2.2.2.2.2.2.1], .agg #[.int .i64 x.2.2.2.2.2.2.2.2.2.2.2.2.2.2.2.1, .slice x.2.2.2.2.2.2.2.2.2.2.2.2.2.2.2.2.1 x.2.2.2.2.2.2.2.2.2.2.2.2.2.2.2.2.2.1 x.2.2.2.2.2.2.2.2.2.2.2.2.2.2.2.2.2.2.1]] ∧ (x.2.1 ≤ 250 ∧ ((1 ≤ x.2.2.2.2.2.2.1 ∧ x.2.2.2.2.2.2.1 ≤ 4) ∧ x.2.2.2.2.2.2.2.2.2.2.2.1 ≤ 4) ∧ ((-1 ≤ x.2.2.2.2.2.2.2.2.2.2.2.2.2.2.2.1 ∧ x.2.2.2.2.2.2.2.2.2.2.2.2.2.2.2.1 ≤ 2) ∧ x.2.2.2.2.2.2.2.2.2.2.2.2.2.2.2.2.2.1 ≤ 361)) ∧ Sep w none_ [RdR ndK x.1 x.2.1 x.2.2.2.1 x.2.2.2.2.1, RdR maK x.2.2.2.2.2.1 x.2.2.2.2.2.2.1 x.2.2.2.2.2.2.2.2.1 x.2.2.2.2.2.2.2.2.2.1, RdR maK x.2.2.2.2.2.2.2.2.2.2.1 x.2.2.2.2.2.2.2.2.2.2.2.1 x.2.2.2.2.2.2.2.2.2.2.2.2.2.1 x.2.2.2.2.2.2.2.2.2.2.2.2.2.2.1, OwnR maK 50 2 x.2.2.2.2.2.2.2.2.2.2.2.2.2.2.2.2.1 x.2.2.2.2.2.2.2.2.2.2.2.2.2.2.2.2.2.1 x.2.2.2.2.2.2.2.2.2.2.2.2.2.2.2.2.2.2.1 x.2.2.2.2.2.2.2.2.2.2.2.2.2.2.2.2.2.2.2.1 x.2.2.2.2.2.2.2.2.2.2.2.2.2.2.2.2.2.2.2.2] w') := by
 have kcode : Kn w none_ [] (CellsAt ca (bs.map (Value.int .u8))) := fun w' hs => rcode.ext hs.upd
 refine fn (M := none_) (rs := [.cell 2 29, .cell 3 31]) Tryd.func9 rfl Tryd.ntmps9 rfl rfl (Sep.start _ _) ?_
 refine hSeq ?_
 refine hReg (sl 0 (sl 1 sz)) (by kernel_rfl) ?_
 refine alc Tryd.zeroValue29 rfl trv1 rfl rfl (fun bka1 hbka1 => ?_)
 refine alc Tryd.zeroValue31 rfl trv1 rfl rfl (fun bka2 hbka2 => ?_)
 refine rNil ?_
 refine qSeq rfl ?_
 refine hSeq ?_
 refine hReg (sq 0 (sl 1 (sq 2 (sq 3 (sl 4 (sl 5 sz)))))) (by kernel_rfl) ?_
 refine mvS rfl rfl rfl ?_
 refine callS Tryd.call34 trv1 rfl rfl (fun w hs => spec_DrawIsStrategy_c _ _ cc w (Kn.drop (k := 2) kcode w hs) (by assumption)) ?_
 rintro ⟨ay1, ny1, cy1, Hy1, y1, ayw1, nyw1, cyw1, Hyw1, yw1, ayv1, nyv1, cyv1, Hyv1, yv1, pl1, ayp1, nyp1, cyp1, Hyp1, yp1⟩ hr1
 try dsimp only at hr1
 refine rPieces (L' := [RdR ndK ay1 ny1 Hy1 y1, RdR maK ayw1 nyw1 Hyw1 yw1, RdR maK ayv1 nyv1 Hyv1 yv1, OwnR maK 50 2 ayp1 nyp1 cyp1 Hyp1 yp1, blk bka2 31 [.int .i64 0, .slice none 0 0], blk bka1 29 [.slice none 0 0, .slice none 0 0, .slice none 0 0]]) (fun _ h => h) ?_
 refine rKnow (fun w hs => (show RdR ndK ay1 ny1 Hy1 y1 w from hs.at_ 0 rfl).1) (fun lenn3 => ?_)
 refine rKnow (fun w hs => (show RdR maK ayw1 nyw1 Hyw1 yw1 w from hs.at_ 1 rfl).1) (fun lenn4 => ?_)
 refine rKnow (fun w hs => (show RdR maK ayv1 nyv1 Hyv1 yv1 w from hs.at_ 2 rfl).1) (fun lenn5 => ?_)
 refine rKnow (fun w hs => (show OwnR maK 50 2 ayp1 nyp1 cyp1 Hyp1 yp1 w from hs.at_ 3 rfl).1) (fun lenn6 => ?_)
 refine ext rfl rfl rfl rfl ?_
 refine ext rfl rfl rfl rfl ?_
 refine stAl (vs := [.slice ay1 ny1 cy1, .slice ayw1 nyw1 cyw1, .slice ayv1 nyv1 cyv1]) 5 rfl Tryd.sizeOf29 trv rfl rfl rfl rfl rfl (by simp [Value.oneCell']) rfl ?_
 refine stAl (vs := [.int .i64 pl1, .slice ayp1 nyp1 cyp1]) 4 rfl Tryd.sizeOf31 trv rfl rfl rfl rfl rfl (by simp [Value.oneCell']) rfl ?_
 refine rNil ?_
 refine qSeq rfl ?_
 refine hRet ?_
 exact fun w hs => ⟨[_, _], ⟨⟨_, rfl, run_load_agg Tryd.isAgg29 Tryd.sizeOf29 rfl (cBs 5 rfl w hs)⟩, ⟨⟨_, rfl, run_load_agg Tryd.isAgg31 Tryd.sizeOf31 rfl (cBs 4 rfl w hs)⟩, trivial⟩⟩, ⟨(ay1, ny1, cy1, Hy1, y1, ayw1, nyw1, cyw1, Hyw1, yw1, ayv1, nyv1, cyv1, Hyv1, yv1, pl1, ayp1, nyp1, cyp1, Hyp1, yp1), rfl, ⟨by dsimp only; omega, ⟨⟨by dsimp only; omega, by dsimp only; omega⟩, by dsimp only; omega⟩, ⟨⟨by dsimp only; omega, by dsimp only; omega⟩, by dsimp only; omega⟩⟩, hs.pick [0, 0, 0, 0]⟩⟩
end Go.Proofs.YtjengglpbdgmnaaDoor
/- Plain facts: pure strategies are strategies, they are pure, and numbers that differ give different ones. No condition. -/
namespace Go.Proofs.YtjengglpbdgmnaaDoor.Math
open Go.Proofs.YtjengglpbdgmnaaDoor.V
set_option linter.unusedVariables false
set_option linter.unusedSimpArgs false
def prodL : List Int → Int
 | [] => 1
 | x :: l => x * prodL l
/-- Lists are alike. -/
def same {α : Type} [DecidableEq α] (z y : List α) : Bool := decide (z = y)
theorem same_len {α : Type} [DecidableEq α] {z y : List α} (h : (z.length : Int) ≠ (y.length : Int)) : same z y = false := decide_eq_false fun e => h (by rw [e])
theorem same_no {α : Type} [DecidableEq α] {z y : List α} {d : α} {i : Nat} (h : z.getD i d ≠ y.getD i d) : same z y = false := decide_eq_false fun e => h (by rw [e])
theorem same_yes {α : Type} [DecidableEq α] {z y : List α} (d : α) {n : Nat} (h1 : z.length = n) (h2 : y.length = n) (h : ∀ j, j < n → z.getD j d = y.getD j d) : same z y = true := decide_eq_true (List.ext_getElem (by omega) fun j a b => by
 have := h j (by omega)
 rw [List.getD_eq_getElem?_getD, List.getD_eq_getElem?_getD, List.getElem?_eq_getElem a, List.getElem?_eq_getElem b] at this
 exact this)
theorem same_ne {α : Type} [DecidableEq α] {z y : List α} (h : same z y = false) : z ≠ y := of_decide_eq_false h
theorem same_eq {α : Type} [DecidableEq α] {z y : List α} (h : same z y = true) : z = y := of_decide_eq_true h
end Go.Proofs.YtjengglpbdgmnaaDoor.Math
/- Contracts of what laws compare, exactly. Their conditions stand in each. -/
namespace Go.Proofs.YtjengglpbdgmnaaDoor
open Go Go.RowKit V
set_option linter.unusedVariables false
set_option linter.unusedSimpArgs false
set_option maxRecDepth 100000
theorem laws_likeInts_x (az : Option Addr) (nz : Nat) (cz : Nat) (z : List Int) (ay : Option Addr) (ny : Nat) (cy : Nat) (y : List Int) (w : World) (rz : RdI az nz z w) (ry : RdI ay ny y w) :
  Calls Tryd.prog 51 #[.slice az nz cz, .slice ay ny cy] w (Ret fun v w' => v = .bool (Math.same z y) ∧ Ext w w') := by
 have kz : Kn w none_ [] (RdI az nz z) := fun w' hs => rz.ext hs.upd
 have lz : z.length = nz := rz.1
 have mz : nz ≤ 9223372036854775807 := rz.2.1
 have ky : Kn w none_ [] (RdI ay ny y) := fun w' hs => ry.ext hs.upd
 have ly : y.length = ny := ry.1
 have my : ny ≤ 9223372036854775807 := ry.2.1
 refine fn (M := none_) (rs := [.tmp 4]) Tryd.func51 rfl Tryd.ntmps51 rfl rfl (Sep.start _ _) ?_
 refine hSeq ?_
 refine hReg (sq 0 sz) (by kernel_rfl) ?_
 refine asB rfl rfl rfl ?_
 refine rNil ?_
 refine qSeq rfl ?_
 refine hSeq ?_
 refine hSeq ?_
 refine hReg (sq 0 (sq 1 (sq 2 (sq 3 (sq 4 sz))))) (by kernel_rfl) ?_
 refine mvS rfl rfl rfl ?_
 refine lenS Tryd.runUnderlying50 rfl rfl rfl ?_
 refine mvS rfl rfl rfl ?_
 refine lenS Tryd.runUnderlying50 rfl rfl rfl ?_
 refine neq rfl rfl rfl rfl ?_
 refine rNil ?_
 refine qSeq rfl ?_
 refine hIfD rfl (fun c1 => ?_) (fun c1 => ?_)
 ·
  replace c1 : (nz : Int) ≠ (ny : Int) := c1
  refine hSeq ?_
  refine hReg (sq 0 sz) (by kernel_rfl) ?_
  refine asB rfl rfl rfl ?_
  refine rNil ?_
  refine qSeq rfl ?_
  refine hRet ?_
  exact fun w hs => ⟨[.bool false], ⟨rfl, trivial⟩, ⟨bB (Math.same_len (by rw [lz, ly]; exact c1)).symm, hs.upd⟩⟩
 ·
  replace c1 : ¬ ((nz : Int) ≠ (ny : Int)) := c1
  refine hSkip ?_
  refine qSeq rfl ?_
  refine hSeq ?_
  refine hSeq ?_
  refine hReg (sq 0 sz) (by kernel_rfl) ?_
  refine asI rfl rfl rfl ?_
  refine rNil ?_
  refine qSeq rfl ?_
  refine hBlk ?_
  refine hLoop (α := Nat) (fun i => i ≤ nz ∧ ∀ j, j < i → z.getD j 0 = y.getD j 0) (fun i => nz - i) (fun i => []) (fun i => [(0, .slice az nz cz), (1, .slice ay ny cy), (5, .int .i64 (i : Int))]) 0 ⟨Nat.zero_le _, fun j hj => by omega⟩ (fun _ h => h.pick []) ⟨rfl, rfl, rfl, trivial⟩ ?_
  rintro i τ1 ⟨hi, hal⟩
  refine hSeq ?_
  refine hSeq ?_
  refine hReg (sq 0 (sq 1 (sq 2 (sq 3 sz)))) (by kernel_rfl) ?_
  refine mvI rfl rfl rfl ?_
  refine mvS rfl rfl rfl ?_
  refine lenS Tryd.runUnderlying50 rfl rfl rfl ?_
  refine lss rfl rfl rfl rfl ?_
  refine rNil ?_
  refine qSeq rfl ?_
  refine hIfD rfl (fun c2 => ?_) (fun c2 => ?_)
  ·
   replace c2 : (i : Int) < (nz : Int) := c2
   refine hSkip ?_
   refine qSeq rfl ?_
   refine hSeq ?_
   refine hBlk ?_
   refine hSeq ?_
   refine hDraw (Ls := []) (by kernel_rfl) (sq 0 (sq 1 (sq 2 (sq 3 (sq 4 (sq 5 (sq 6 (sq 7 (sq 8 sz))))))))) (by kernel_rfl) .slnil ?_
   refine mvS rfl rfl rfl ?_
   refine mvI rfl rfl rfl ?_
   refine ixIq (zn := i) el50 (kz) (fun _ h => h.pick []) rfl rfl rfl rfl (by omega) (by omega) rfl ?_
   intro ae1 e1
   refine ldq Tryd.isAgg2 (e1) rfl rfl rfl ?_
   refine mvS rfl rfl rfl ?_
   refine mvI rfl rfl rfl ?_
   refine ixIq (zn := i) el50 (ky) (fun _ h => h.pick []) rfl rfl rfl rfl (by omega) (by omega) rfl ?_
   intro ae2 e2
   refine ldq Tryd.isAgg2 (e2) rfl rfl rfl ?_
   refine neq rfl rfl rfl rfl ?_
   refine rNil ?_
   refine qSeq rfl ?_
   refine hIfD rfl (fun c3 => ?_) (fun c3 => ?_)
   ·
    replace c3 : (z.getD i 0) ≠ (y.getD i 0) := c3
    refine hSeq ?_
    refine hReg (sq 0 sz) (by kernel_rfl) ?_
    refine asB rfl rfl rfl ?_
    refine rNil ?_
    refine qSeq rfl ?_
    refine hRet ?_
    exact fun w hs => ⟨[.bool false], ⟨rfl, trivial⟩, ⟨bB (Math.same_no (d := 0) (i := i) c3).symm, hs.upd⟩⟩
   ·
    replace c3 : ¬ ((z.getD i 0) ≠ (y.getD i 0)) := c3
    refine hSkip ?_
    refine qSeq rfl ?_
    refine hReg (sq 0 (sq 1 (sq 2 sz))) (by kernel_rfl) ?_
    refine mvI rfl rfl rfl ?_
    refine add rfl rfl rfl rfl (by omega) ?_
    refine asI rfl rfl rfl ?_
    refine rNil ?_
    exact qNext rfl (i + 1) (by omega) ⟨by omega, Math.upto hal (Classical.not_not.1 c3)⟩ ⟨rfl, rfl, rfl, trivial⟩ (fun _ h => h.pick [])
  ·
   replace c2 : ¬ ((i : Int) < (nz : Int)) := c2
   refine hExit rfl ?_
   refine qSeq rfl ?_
   refine hSeq ?_
   refine hReg (sq 0 sz) (by kernel_rfl) ?_
   refine asB rfl rfl rfl ?_
   refine rNil ?_
   refine qSeq rfl ?_
   refine hRet ?_
   exact fun w hs => ⟨[.bool true], ⟨rfl, trivial⟩, ⟨bB (Math.same_yes 0 lz (by omega) (fun j hj => hal j (by omega))).symm, hs.upd⟩⟩
theorem laws_likeLists_x (az : Option Addr) (nz : Nat) (cz : Nat) (Hz : Nat → Hd) (z : List (List Int)) (ay : Option Addr) (ny : Nat) (cy : Nat) (Hy : Nat → Hd) (y : List (List Int)) (w : World) (rz : RdR maK az nz Hz z w) (ry : RdR maK ay ny Hy y w) :
  Calls Tryd.prog 42 #[.slice az nz cz, .slice ay ny cy] w (Ret fun v w' => v = .bool (Math.same z y) ∧ Ext w w') := by
 have kz : Kn w none_ [] (RdR maK az nz Hz z) := fun w' hs => rz.ext hs.upd
 have lz : z.length = nz := rz.1
 have mz : nz ≤ 9223372036854775807 := rz.2.1
 have ky : Kn w none_ [] (RdR maK ay ny Hy y) := fun w' hs => ry.ext hs.upd
 have ly : y.length = ny := ry.1
 have my : ny ≤ 9223372036854775807 := ry.2.1
 refine fn (M := none_) (rs := [.tmp 4]) Tryd.func42 rfl Tryd.ntmps42 rfl rfl (Sep.start _ _) ?_
 refine hSeq ?_
 refine hReg (sq 0 sz) (by kernel_rfl) ?_
 refine asB rfl rfl rfl ?_
 refine rNil ?_
 refine qSeq rfl ?_
 refine hSeq ?_
 refine hSeq ?_
 refine hReg (sq 0 (sq 1 (sq 2 (sq 3 (sq 4 sz))))) (by kernel_rfl) ?_
 refine mvS rfl rfl rfl ?_
 refine lenS Tryd.runUnderlying27 rfl rfl rfl ?_
 refine mvS rfl rfl rfl ?_
 refine lenS Tryd.runUnderlying27 rfl rfl rfl ?_
 refine neq rfl rfl rfl rfl ?_
 refine rNil ?_
 refine qSeq rfl ?_
 refine hIfD rfl (fun c1 => ?_) (fun c1 => ?_)
 ·
  replace c1 : (nz : Int) ≠ (ny : Int) := c1
  refine hSeq ?_
  refine hReg (sq 0 sz) (by kernel_rfl) ?_
  refine asB rfl rfl rfl ?_
  refine rNil ?_
  refine qSeq rfl ?_
  refine hRet ?_
  exact fun w hs => ⟨[.bool false], ⟨rfl, trivial⟩, ⟨bB (Math.same_len (by rw [lz, ly]; exact c1)).symm, hs.upd⟩⟩
 ·
  replace c1 : ¬ ((nz : Int) ≠ (ny : Int)) := c1
  refine hSkip ?_
  refine qSeq rfl ?_
  refine hSeq ?_
  refine hSeq ?_
  refine hReg (sq 0 sz) (by kernel_rfl) ?_
  refine asI rfl rfl rfl ?_
  refine rNil ?_
  refine qSeq rfl ?_
  refine hBlk ?_
  refine hLoop (α := Nat) (fun i => i ≤ nz ∧ ∀ j, j < i → z.getD j [] = y.getD j []) (fun i => nz - i) (fun i => []) (fun i => [(0, .slice az nz cz), (1, .slice ay ny cy), (5, .int .i64 (i : Int))]) 0 ⟨Nat.zero_le _, fun j hj => by omega⟩ (fun _ h => h.pick []) ⟨rfl, rfl, rfl, trivial⟩ ?_
  rintro i τ1 ⟨hi, hal⟩
  refine hSeq ?_
  refine hSeq ?_
  refine hReg (sq 0 (sq 1 (sq 2 (sq 3 sz)))) (by kernel_rfl) ?_
  refine mvI rfl rfl rfl ?_
  refine mvS rfl rfl rfl ?_
  refine lenS Tryd.runUnderlying27 rfl rfl rfl ?_
  refine lss rfl rfl rfl rfl ?_
  refine rNil ?_
  refine qSeq rfl ?_
  refine hIfD rfl (fun c2 => ?_) (fun c2 => ?_)
  ·
   replace c2 : (i : Int) < (nz : Int) := c2
   refine hSkip ?_
   refine qSeq rfl ?_
   refine hSeq ?_
   refine hBlk ?_
   refine hSeq ?_
   refine hDraw (Ls := []) (by kernel_rfl) (sq 0 (sq 1 (sq 2 (sq 3 (sq 4 (sq 5 (sq 6 (sq 7 (sl 8 (sq 9 sz)))))))))) (by kernel_rfl) .slnil ?_
   refine mvS rfl rfl rfl ?_
   refine mvI rfl rfl rfl ?_
   refine ixRq (zn := i) (z.getD i []) el27 (kz) (fun _ h => h.pick []) rfl rfl rfl rfl (by omega) (by omega) rfl (nth [] (by omega)) ?_
   intro be1 oe1 e1
   refine ldq Tryd.isAgg50 (Kn.fld e1 0 rfl) rfl rfl rfl ?_
   refine mvS rfl rfl rfl ?_
   refine mvI rfl rfl rfl ?_
   refine ixRq (zn := i) (y.getD i []) el27 (ky) (fun _ h => h.pick []) rfl rfl rfl rfl (by omega) (by omega) rfl (nth [] (by omega)) ?_
   intro be2 oe2 e2
   refine ldq Tryd.isAgg50 (Kn.fld e2 0 rfl) rfl rfl rfl ?_
   refine callP (v := .bool ((Math.same (z.getD i []) (y.getD i [])))) Tryd.call51 (fun _ h => h.pick []) rfl rfl (fun w hs => laws_likeInts_x _ _ _ _ _ _ _ _ w ((Kn.imp kz fun _ h => h.kidM (nth [] (by omega))) w hs) ((Kn.imp ky fun _ h => h.kidM (nth [] (by omega))) w hs)) ?_
   refine not rfl rfl rfl ?_
   refine rNil ?_
   refine qSeq rfl ?_
   refine hIfN rfl (fun c3 => ?_) (fun c3 => ?_)
   ·
    replace c3 : (Math.same (z.getD i []) (y.getD i [])) = false := c3
    refine hSeq ?_
    refine hReg (sq 0 sz) (by kernel_rfl) ?_
    refine asB rfl rfl rfl ?_
    refine rNil ?_
    refine qSeq rfl ?_
    refine hRet ?_
    exact fun w hs => ⟨[.bool false], ⟨rfl, trivial⟩, ⟨bB (Math.same_no (d := []) (i := i) (Math.same_ne c3)).symm, hs.upd⟩⟩
   ·
    replace c3 : (Math.same (z.getD i []) (y.getD i [])) = true := c3
    refine hSkip ?_
    refine qSeq rfl ?_
    refine hReg (sq 0 (sq 1 (sq 2 sz))) (by kernel_rfl) ?_
    refine mvI rfl rfl rfl ?_
    refine add rfl rfl rfl rfl (by omega) ?_
    refine asI rfl rfl rfl ?_
    refine rNil ?_
    exact qNext rfl (i + 1) (by omega) ⟨by omega, Math.upto hal (Math.same_eq c3)⟩ ⟨rfl, rfl, rfl, trivial⟩ (fun _ h => h.pick [])
  ·
   replace c2 : ¬ ((i : Int) < (nz : Int)) := c2
   refine hExit rfl ?_
   refine qSeq rfl ?_
   refine hSeq ?_
   refine hReg (sq 0 sz) (by kernel_rfl) ?_
   refine asB rfl rfl rfl ?_
   refine rNil ?_
   refine qSeq rfl ?_
   refine hRet ?_
   exact fun w hs => ⟨[.bool true], ⟨rfl, trivial⟩, ⟨bB (Math.same_yes [] lz (by omega) (fun j hj => hal j (by omega))).symm, hs.upd⟩⟩
theorem laws_likeStrategies_x (pl : Int) (aps : Option Addr) (nps : Nat) (cps : Nat) (Hps : Nat → Hd) (ps : List (List Int)) (ql : Int) (aqs : Option Addr) (nqs : Nat) (cqs : Nat) (Hqs : Nat → Hd) (qs : List (List Int)) (w : World) (rps : RdR maK aps nps Hps ps w) (rqs : RdR maK aqs nqs Hqs qs w) :
  Calls Tryd.prog 12 #[.agg #[.int .i64 pl, .slice aps nps cps], .agg #[.int .i64 ql, .slice aqs nqs cqs]] w (Ret fun v w' => v = .bool ((decide (pl = ql) && Math.same ps qs)) ∧ Ext w w') := by
 have kps : Kn w none_ [] (RdR maK aps nps Hps ps) := fun w' hs => rps.ext hs.upd
 have lps : ps.length = nps := rps.1
 have mps : nps ≤ 9223372036854775807 := rps.2.1
 have kqs : Kn w none_ [] (RdR maK aqs nqs Hqs qs) := fun w' hs => rqs.ext hs.upd
 have lqs : qs.length = nqs := rqs.1
 have mqs : nqs ≤ 9223372036854775807 := rqs.2.1
 refine fn (M := none_) (rs := [.tmp 4]) Tryd.func12 rfl Tryd.ntmps12 rfl rfl (Sep.start _ _) ?_
 refine hSeq ?_
 refine hReg (sl 0 (sl 1 (sq 2 sz))) (by kernel_rfl) ?_
 refine box trv1 rfl rfl rfl rfl (fun bkb1 hbkb1 => ?_)
 refine box trv1 rfl rfl rfl rfl (fun bkb2 hbkb2 => ?_)
 refine asB rfl rfl rfl ?_
 refine rNil ?_
 refine qSeq rfl ?_
 refine hSeq ?_
 refine hReg (sq 0 (sl 1 (sq 2 (sl 3 (sq 4 (sq 5 (sq 6 (sl 7 (sq 8 (sl 9 (sl 10 (sq 11 (sq 12 sz))))))))))))) (by kernel_rfl) ?_
 refine fld fl31_0 rfl rfl rfl ?_
 refine ldl Tryd.isAgg2 (cB 1 rfl rfl) trv rfl rfl rfl ?_
 refine fld fl31_0 rfl rfl rfl ?_
 refine ldl Tryd.isAgg2 (cB 0 rfl rfl) trv rfl rfl rfl ?_
 refine eql rfl rfl rfl rfl ?_
 refine mvB rfl rfl rfl ?_
 refine rBoolD (d := 10) rfl (fun g1 => ?_) (fun g1 => ?_)
 ·
  replace g1 : pl = ql := g1
  refine fld fl31_1 rfl rfl rfl ?_
  refine ldl Tryd.isAgg27 (cB 1 rfl rfl) trv rfl rfl rfl ?_
  refine fld fl31_1 rfl rfl rfl ?_
  refine ldl Tryd.isAgg27 (cB 0 rfl rfl) trv rfl rfl rfl ?_
  refine callP (v := .bool (Math.same ps qs)) Tryd.call42 trv rfl rfl (fun w hs => laws_likeLists_x _ _ _ _ _ _ _ _ _ _ w (Kn.drop (k := 2) kps w hs) (Kn.drop (k := 2) kqs w hs)) ?_
  refine pickB rfl rfl rfl rfl ?_
  refine asB rfl rfl rfl ?_
  refine rNil ?_
  refine qSeq rfl ?_
  refine hRet ?_
  exact fun w hs => ⟨[.bool (Math.same ps qs)], ⟨rfl, trivial⟩, ⟨bB (by rw [decide_eq_true g1]; rfl), hs.upd⟩⟩
 ·
  replace g1 : ¬ (pl = ql) := g1
  refine rSkipQ rfl rfl ?_
  refine rSkipL trv rfl rfl ?_
  refine rSkipQ rfl rfl ?_
  refine rSkipL trv rfl rfl ?_
  refine rSkipL trv rfl rfl ?_
  refine pickB rfl rfl rfl rfl ?_
  refine asB rfl rfl rfl ?_
  refine rNil ?_
  refine qSeq rfl ?_
  refine hRet ?_
  exact fun w hs => ⟨[.bool false], ⟨rfl, trivial⟩, ⟨bB (by rw [decide_eq_false g1]; rfl), hs.upd⟩⟩
end Go.Proofs.YtjengglpbdgmnaaDoor
/- The table that a row lists, as the contracts read it. No condition. -/
namespace Go.Proofs.YtjengglpbdgmnaaDoor
open Go Go.RowKit V
theorem tab_of_laid {W : World} {a b : String × DataW Unit} (h : laidMet Tryd.prog [a, b, ("internal/strconv.uint64pow10", Rows.laid_internal_strconv_uint64pow10)] W) : TabP W :=
 Lib.tabIs_of_head (g := 0) (t := 124) (e := 116) (n := 20) (by kernel_rfl) (by kernel_rfl) Tryd.underlying124 Tryd.underlying116 (by kernel_rfl) (by kernel_rfl) (rest := []) (k := .u64) (zs := Lib.pow10Tab) (show laidMet Tryd.prog (("internal/strconv.uint64pow10", Lib.tabData .u64 Lib.pow10Tab) :: []) W from (Go.laidMet.tail (Go.laidMet.tail h)))
end Go.Proofs.YtjengglpbdgmnaaDoor
