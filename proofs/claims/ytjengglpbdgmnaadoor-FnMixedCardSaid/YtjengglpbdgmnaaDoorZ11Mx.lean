/- Contracts of strategies that are drawn. Their conditions stand in each. -/
import Derived.Test.YtjengglpbdgmnaaDoorZ10Mx
import Derived.Test.YtjengglpbdgmnaaDoorZ1Mx
import Derived.Test.YtjengglpbdgmnaaDoorZ2Mx
import Derived.Test.YtjengglpbdgmnaaDoorZ3Mx
import Derived.Test.YtjengglpbdgmnaaDoorZ4Mx
import Derived.Test.YtjengglpbdgmnaaDoorZ7Mx
import Derived.Test.YtjengglpbdgmnaaDoorZ8Mx
import Derived.Test.YtjengglpbdgmnaaDoorZ5Mx
import Derived.Test.YtjengglpbdgmnaaDoorZ6Mx
import Derived.Test.YtjengglpbdgmnaaDoorZ9Mx
import Derived.Test.YtjengglpbdgmnaaDoorRows
import Derived.RowKit
namespace Go.Proofs.YtjengglpbdgmnaaDoor
open Go Go.RowKit V
set_option linter.unusedVariables false
set_option linter.unusedSimpArgs false
set_option maxRecDepth 100000
theorem bsl50_3 (v0 v1 v2 : Value) (h0 : v0.cells = #[v0]) (h1 : v1.cells = #[v1]) (h2 : v2.cells = #[v2]) : ∀ w, (Instr.buildSlice 50 3 ([(0, v0), (1, v1), (2, v2)] : List (Nat × Value)).toArray).run Tryd.prog w = .ok (.slice (some ⟨w.heap.size, 0, none⟩) 3 3) (w.alloc (.cells ([v0, v1, v2] : List Value).toArray 2)) := by
 intro w; simp [Instr.buildSlice, Instr.fill, Tryd.zeroValue2, Tryd.runUnderlying50, Tryd.sizeOf2, Value.cells_int, newRow, show Array.range 3 = #[0, 1, 2] from by decide, h0, h1, h2]
theorem bld31_0 (v0 : Value) (h0 : v0.cells = #[v0]) : ∀ w, (Instr.build 31 ([(0, v0)] : List (Nat × Value)).toArray).run Tryd.prog w = .ok (.agg ([v0, .slice none 0 0] : List Value).toArray) w := by
 intro w; simp [Instr.build, Instr.fill, Tryd.zeroValue31, Tryd.runUnderlying31, aggCells, Tryd.sizeOf2, Tryd.sizeOf27, h0]
theorem bld31_0_1 (v0 v1 : Value) (h0 : v0.cells = #[v0]) (h1 : v1.cells = #[v1]) : ∀ w, (Instr.build 31 ([(0, v0), (1, v1)] : List (Nat × Value)).toArray).run Tryd.prog w = .ok (.agg ([v0, v1] : List Value).toArray) w := by
 intro w; simp [Instr.build, Instr.fill, Tryd.zeroValue31, Tryd.runUnderlying31, aggCells, Tryd.sizeOf2, Tryd.sizeOf27, h0, h1]
set_option maxHeartbeats 4000000 in
theorem spec_l22Random_c (bk : Nat) (ca : Option Addr) (bs : List Int) (cc : Nat) (az : Option Addr) (nz : Nat) (cz : Nat) (Hz : Nat → Hd) (z : List Nd) (aws : Option Addr) (nws : Nat) (cws : Nat) (Hws : Nat → Hd) (ws : List (List Int)) (avs : Option Addr) (nvs : Nat) (cvs : Nat) (Hvs : Nat → Hd) (vs : List (List Int)) (p : Int) (w : World) (M0 : Nat → Prop) (hs0 : Sep w M0 [srcP bk ca bs cc] w) (kcode : Kn w M0 [] (CellsAt ca (bs.map (Value.int .u8)))) (hok : okBytes bs) (kz : Kn w M0 [] (RdR ndK az nz Hz z)) (kws : Kn w M0 [] (RdR maK aws nws Hws ws)) (kvs : Kn w M0 [] (RdR maK avs nvs Hvs vs)) (hg : Math.isGame z ws vs = true) (hp : 0 ≤ p ∧ p ≤ 1) :
  Calls Tryd.prog 27 #[.pointer (some ⟨bk, 0, none⟩), .agg #[.slice az nz cz, .slice aws nws cws, .slice avs nvs cvs], .int .i64 p] w (Ret fun v w' => ∃ x : Option Addr × Nat × Nat × (Nat → Hd) × List (List Int), v = .agg #[.int .i64 p, .slice x.1 x.2.1 x.2.2.1] ∧ (x.2.1 ≤ 360 ∧ Math.drawnP x.2.2.2.2) ∧ Sep w M0 [srcP bk ca bs cc, OwnR maK 50 2 x.1 x.2.1 x.2.2.1 x.2.2.2.1 x.2.2.2.2] w') := by
 have lz : z.length = nz := (kz w (hs0.sub (List.nil_sublist _))).1
 have mz : nz ≤ 9223372036854775807 := (kz w (hs0.sub (List.nil_sublist _))).2.1
 have lws : ws.length = nws := (kws w (hs0.sub (List.nil_sublist _))).1
 have mws : nws ≤ 9223372036854775807 := (kws w (hs0.sub (List.nil_sublist _))).2.1
 have lvs : vs.length = nvs := (kvs w (hs0.sub (List.nil_sublist _))).1
 have mvs : nvs ≤ 9223372036854775807 := (kvs w (hs0.sub (List.nil_sublist _))).2.1
 have hG := Math.isGame_ok hg
 rw [lws] at hG
 have hT := Math.isTree_ok hG.1
 have hvl := Math.mat_len hG.2.2.2.1
 have hsl := Math.sets_len (z := z) (p := p) (show nws ≤ 6 by omega)
 have hzl := Math.sizes_len (z := z) (ss := (Math.sets z nws p))
 refine fn (M := M0) (rs := [.cell 6 31]) Tryd.func27 rfl Tryd.ntmps27 rfl rfl hs0 ?_
 refine hSeq ?_
 refine hReg (sl 0 (sl 1 sz)) (by kernel_rfl) ?_
 refine box trv1 rfl rfl rfl rfl (fun bkb1 hbkb1 => ?_)
 refine alc Tryd.zeroValue31 rfl trv1 rfl rfl (fun bka2 hbka2 => ?_)
 refine rNil ?_
 refine qSeq rfl ?_
 refine hSeq ?_
 refine hReg (sl 0 (sq 1 (sl 2 (sq 3 sz)))) (by kernel_rfl) ?_
 refine ldAl Tryd.isAgg29 Tryd.sizeOf29 (cBs 1 rfl) trv rfl rfl rfl rfl ?_
 refine mvI rfl rfl rfl ?_
 refine callS Tryd.call58 trv1 rfl rfl (fun w hs => spec_l22Sizes_c _ nz cz _ _ _ nws cws _ _ _ nvs cvs _ _ _ w (Kn.drop (k := 3) kz w hs) (Kn.drop (k := 3) kws w hs) (Kn.drop (k := 3) kvs w hs) (by assumption)) ?_
 rintro ⟨ay1, ny1, cy1, y1⟩ hr1
 dsimp only at hr1
 subst y1
 refine rKnow (fun w hs => (show OwnI 2 ay1 ny1 cy1 (((Math.sizes z (Math.sets z nws p)))) w from hs.at_ 0 rfl).lenz) (fun lenn3 => ?_)
 refine asS rfl rfl rfl ?_
 refine rNil ?_
 refine qSeq rfl ?_
 refine hSeq ?_
 refine hReg (sl 0 (sq 1 sz)) (by kernel_rfl) ?_
 refine bsl trv1 rfl rfl rfl (bsl27_0) (fun bkl4 hbkl4 => ?_)
 refine asS rfl rfl rfl ?_
 refine rNil ?_
 refine qSeq rfl ?_
 refine hSeq ?_
 refine hSeq ?_
 refine hReg (sq 0 sz) (by kernel_rfl) ?_
 refine asI rfl rfl rfl ?_
 refine rNil ?_
 refine qSeq rfl ?_
 refine hBlk ?_
 refine hPieces (fun _ h => Sep.litR maK 50 2 (fun _ => (none, 0)) h 0 rfl) ?_
 refine hLoop (α := Nat × Nat × (Hd × (Nat → Hd)) × List (List Int)) (fun x => (x.1 ≤ (Math.sizes z (Math.sets z nws p)).length ∧ x.2.1 = x.1) ∧ Math.drawnP x.2.2.2) (fun x => (Math.sizes z (Math.sets z nws p)).length - x.1) (fun x => [OwnR maK 50 2 x.2.2.1.1.1 x.2.1 x.2.2.1.1.2 x.2.2.1.2 x.2.2.2, OwnI 2 ay1 ny1 cy1 (((Math.sizes z (Math.sets z nws p)))), blk bka2 31 [.int .i64 0, .slice none 0 0], blk bkb1 29 [.slice az nz cz, .slice aws nws cws, .slice avs nvs cvs], srcP bk ca bs cc]) (fun x => [(0, .pointer (some ⟨bk, 0, none⟩)), (2, .int .i64 p), (6, .pointer (some ⟨bka2, 0, none⟩)), (7, .slice ay1 ny1 cy1), (8, .slice x.2.2.1.1.1 x.2.1 x.2.2.1.1.2), (9, .int .i64 (x.1 : Int))]) ((0, 0, (((some ⟨bkl4, 0, none⟩), 0), (fun _ => (none, 0))), [])) (⟨⟨Nat.zero_le _, rfl⟩, Math.drawnP_nil⟩) (fun _ h => h.pick [0, 0, 0, 0, 0]) ⟨rfl, rfl, rfl, rfl, rfl, rfl, trivial⟩ ?_
 rintro ⟨i, q, hd, y⟩ τ1 ⟨⟨hi, hq⟩, hy⟩
 dsimp only at hi hq hy
 refine hRe [(0, .pointer (some ⟨bk, 0, none⟩)), (2, .int .i64 p), (6, .pointer (some ⟨bka2, 0, none⟩)), (7, .slice ay1 ny1 cy1), (8, .slice hd.1.1 q hd.1.2), (9, .int .i64 (i : Int))] [OwnR maK 50 2 hd.1.1 q hd.1.2 hd.2 y, OwnI 2 ay1 ny1 cy1 (((Math.sizes z (Math.sets z nws p)))), blk bka2 31 [.int .i64 0, .slice none 0 0], blk bkb1 29 [.slice az nz cz, .slice aws nws cws, .slice avs nvs cvs], srcP bk ca bs cc] rfl rfl ?_
 refine hSeq ?_
 refine hSeq ?_
 refine hReg (sq 0 (sq 1 (sq 2 (sq 3 sz)))) (by kernel_rfl) ?_
 refine mvI rfl rfl rfl ?_
 refine mvS rfl rfl rfl ?_
 refine lenS Tryd.runUnderlying50 rfl rfl rfl ?_
 refine lss rfl rfl rfl rfl ?_
 refine rNil ?_
 refine qSeq rfl ?_
 refine hIfD rfl (fun c1 => ?_) (fun c1 => ?_)
 ·
  replace c1 : (i : Int) < (ny1 : Int) := c1
  have hsb := Math.sizes_bd (k := nws) hg hp _ (Math.getD_mem 0 (show i < (Math.sizes z (Math.sets z nws p)).length by omega))
  refine hSkip ?_
  refine qSeq rfl ?_
  refine hSeq ?_
  refine hBlk ?_
  refine hSeq ?_
  refine hReg (sl 0 (sq 1 sz)) (by kernel_rfl) ?_
  refine bsl trv1 rfl rfl rfl (bsl50_0) (fun bkl5 hbkl5 => ?_)
  refine asS rfl rfl rfl ?_
  refine rNil ?_
  refine qSeq rfl ?_
  refine hSeq ?_
  refine hSeq ?_
  refine hReg (sq 0 sz) (by kernel_rfl) ?_
  refine asI rfl rfl rfl ?_
  refine rNil ?_
  refine qSeq rfl ?_
  refine hBlk ?_
  refine hPieces (fun _ h => Sep.litI h 0 [] rfl rfl rfl) ?_
  refine hLoop (α := Nat × Nat × Hd × List Int) (fun x => ((x.1 : Int) ≤ (Math.sizes z (Math.sets z nws p)).getD i 0 ∧ x.2.1 = x.1) ∧ (Math.small x.2.2.2 ∧ x.2.2.2.length = x.2.1)) (fun x => ((Math.sizes z (Math.sets z nws p)).getD i 0).toNat - x.1) (fun x => [OwnI 2 x.2.2.1.1 x.2.1 x.2.2.1.2 x.2.2.2, OwnR maK 50 2 hd.1.1 q hd.1.2 hd.2 y, OwnI 2 ay1 ny1 cy1 (((Math.sizes z (Math.sets z nws p)))), blk bka2 31 [.int .i64 0, .slice none 0 0], blk bkb1 29 [.slice az nz cz, .slice aws nws cws, .slice avs nvs cvs], srcP bk ca bs cc]) (fun x => [(0, .pointer (some ⟨bk, 0, none⟩)), (2, .int .i64 p), (6, .pointer (some ⟨bka2, 0, none⟩)), (7, .slice ay1 ny1 cy1), (8, .slice hd.1.1 q hd.1.2), (9, .int .i64 (i : Int)), (10, .slice x.2.2.1.1 x.2.1 x.2.2.1.2), (11, .int .i64 (x.1 : Int))]) ((0, 0, ((some ⟨bkl5, 0, none⟩), 0), [])) (⟨⟨by dsimp only; omega, rfl⟩, Math.small_nil, rfl⟩) (fun _ h => h.pick [0, 0, 0, 0, 0, 0]) ⟨rfl, rfl, rfl, rfl, rfl, rfl, rfl, rfl, trivial⟩ ?_
  rintro ⟨j, q2, he, r⟩ τ2 ⟨⟨hj, hq2⟩, hr2, hrl⟩
  dsimp only at hj hq2 hr2 hrl
  refine hRe [(0, .pointer (some ⟨bk, 0, none⟩)), (2, .int .i64 p), (6, .pointer (some ⟨bka2, 0, none⟩)), (7, .slice ay1 ny1 cy1), (8, .slice hd.1.1 q hd.1.2), (9, .int .i64 (i : Int)), (10, .slice he.1 q2 he.2), (11, .int .i64 (j : Int))] [OwnI 2 he.1 q2 he.2 r, OwnR maK 50 2 hd.1.1 q hd.1.2 hd.2 y, OwnI 2 ay1 ny1 cy1 (((Math.sizes z (Math.sets z nws p)))), blk bka2 31 [.int .i64 0, .slice none 0 0], blk bkb1 29 [.slice az nz cz, .slice aws nws cws, .slice avs nvs cvs], srcP bk ca bs cc] rfl rfl ?_
  refine hSeq ?_
  refine hSeq ?_
  refine hReg (sq 0 (sq 1 (sq 2 (sq 3 (sl 4 (sq 5 sz)))))) (by kernel_rfl) ?_
  refine mvI rfl rfl rfl ?_
  refine mvS rfl rfl rfl ?_
  refine mvI rfl rfl rfl ?_
  refine ixIl (zn := i) el50 ((Kn.at_ 2 rfl).imp fun _ h => OwnI.rd h) rfl rfl rfl rfl (by omega) (by omega) rfl ?_
  intro ae2 e2
  refine ldl Tryd.isAgg2 (e2) trv rfl rfl rfl ?_
  refine lss rfl rfl rfl rfl ?_
  refine rNil ?_
  refine qSeq rfl ?_
  refine hIfD rfl (fun c2 => ?_) (fun c2 => ?_)
  ·
   replace c2 : (j : Int) < ((((Math.sizes z (Math.sets z nws p)))).getD i 0) := c2
   refine hSkip ?_
   refine qSeq rfl ?_
   refine hSeq ?_
   refine hBlk ?_
   refine hReg (sq 0 (sq 1 (sq 2 (sl 3 (sl 4 (sl 5 (sl 6 (sl 7 (sq 8 sz))))))))) (by kernel_rfl) ?_
   refine mvS rfl rfl rfl ?_
   refine mvP rfl rfl rfl ?_
   refine mvP rfl rfl rfl ?_
   refine rPieces (L' := [srcP bk ca bs cc, OwnI 2 he.1 q2 he.2 r, OwnR maK 50 2 hd.1.1 q hd.1.2 hd.2 y, OwnI 2 ay1 ny1 cy1 (((Math.sizes z (Math.sets z nws p)))), blk bka2 31 [.int .i64 0, .slice none 0 0], blk bkb1 29 [.slice az nz cz, .slice aws nws cws, .slice avs nvs cvs]]) (fun _ h => h.perm (pull (i := 5) rfl)) ?_
   refine callMK (α := Int) (Lf := [srcP bk ca bs cc]) (Lr := [OwnI 2 he.1 q2 he.2 r, OwnR maK 50 2 hd.1.1 q hd.1.2 hd.2 y, OwnI 2 ay1 ny1 cy1 (((Math.sizes z (Math.sets z nws p)))), blk bka2 31 [.int .i64 0, .slice none 0 0], blk bkb1 29 [.slice az nz cz, .slice aws nws cws, .slice avs nvs cvs]]) (good := fun x => 0 ≤ x ∧ (x < (9 : Int) ∨ x = 0)) (φs := fun x => [srcP bk ca bs cc]) (val := fun x => .int .i64 x) rfl Tryd.call24 trv1 rfl rfl (fun w M1 hs hk => src_next bk ca bs cc (9 : Int) w M1 hs (hk _ kcode) hok) ?_
   intro x3 hx3
   try dsimp only at hx3
   refine rPieces (L' := [srcP bk ca bs cc, OwnI 2 he.1 q2 he.2 r, OwnR maK 50 2 hd.1.1 q hd.1.2 hd.2 y, OwnI 2 ay1 ny1 cy1 (((Math.sizes z (Math.sets z nws p)))), blk bka2 31 [.int .i64 0, .slice none 0 0], blk bkb1 29 [.slice az nz cz, .slice aws nws cws, .slice avs nvs cvs]]) (fun _ h => h) ?_
   refine bsl trv1 rfl rfl rfl (bsl50_5 (.int .i64 _) (.int .i64 _) (.int .i64 _) (.int .i64 _) (.int .i64 _) rfl rfl rfl rfl rfl) (fun bkl6 hbkl6 => ?_)
   refine rPieces (L' := [srcP bk ca bs cc, blk bkl6 2 [.int .i64 0, .int .i64 0, .int .i64 1, .int .i64 2, .int .i64 x3], OwnI 2 he.1 q2 he.2 r, OwnR maK 50 2 hd.1.1 q hd.1.2 hd.2 y, OwnI 2 ay1 ny1 cy1 (((Math.sizes z (Math.sets z nws p)))), blk bka2 31 [.int .i64 0, .slice none 0 0], blk bkb1 29 [.slice az nz cz, .slice aws nws cws, .slice avs nvs cvs]]) (fun _ h => h.perm (pull (i := 1) rfl)) ?_
   refine callMK (α := Int) (Lf := [srcP bk ca bs cc, blk bkl6 2 [.int .i64 0, .int .i64 0, .int .i64 1, .int .i64 2, .int .i64 x3]]) (Lr := [OwnI 2 he.1 q2 he.2 r, OwnR maK 50 2 hd.1.1 q hd.1.2 hd.2 y, OwnI 2 ay1 ny1 cy1 (((Math.sizes z (Math.sets z nws p)))), blk bka2 31 [.int .i64 0, .slice none 0 0], blk bkb1 29 [.slice az nz cz, .slice aws nws cws, .slice avs nvs cvs]]) (good := fun x => x ∈ ([.int .i64 0, .int .i64 0, .int .i64 1, .int .i64 2, .int .i64 x3] : List Value).map toI) (φs := fun x => [srcP bk ca bs cc, blk bkl6 2 [.int .i64 0, .int .i64 0, .int .i64 1, .int .i64 2, .int .i64 x3]]) (val := fun x => .int .i64 x) rfl Tryd.call28 trv1 rfl rfl (fun w M1 hs hk => src_pick bk ca bs cc bkl6 2 5 5 [.int .i64 0, .int .i64 0, .int .i64 1, .int .i64 2, .int .i64 x3] w M1 hs (hk _ kcode) hok rfl rfl (by decide)) ?_
   intro x4 hx4
   try dsimp only at hx4
   refine rPieces (L' := [srcP bk ca bs cc, blk bkl6 2 [.int .i64 0, .int .i64 0, .int .i64 1, .int .i64 2, .int .i64 x3], OwnI 2 he.1 q2 he.2 r, OwnR maK 50 2 hd.1.1 q hd.1.2 hd.2 y, OwnI 2 ay1 ny1 cy1 (((Math.sizes z (Math.sets z nws p)))), blk bka2 31 [.int .i64 0, .slice none 0 0], blk bkb1 29 [.slice az nz cz, .slice aws nws cws, .slice avs nvs cvs]]) (fun _ h => h) ?_
   refine bsl trv1 rfl rfl rfl (bsl50_1 (.int .i64 _) rfl) (fun bkl7 hbkl7 => ?_)
   refine aplI (N := q2) (x := x4) 3 0 rfl rfl mk50 trv1 rfl rfl rfl rfl (by omega) ?_
   intro aq5 cq5
   refine asS rfl rfl rfl ?_
   refine rNil ?_
   refine qSeq rfl ?_
   refine hReg (sq 0 (sq 1 (sq 2 sz))) (by kernel_rfl) ?_
   refine mvI rfl rfl rfl ?_
   refine add rfl rfl rfl rfl (by omega) ?_
   refine asI rfl rfl rfl ?_
   refine rNil ?_
   have hm_ := hx4
   have hv_ : 0 ≤ x4 ∧ x4 ≤ 8 := by simp [toI] at hm_; omega
   exact qNext rfl ((j + 1, q2 + 1, (aq5, cq5), (r ++ [x4]))) (by dsimp only; omega) (⟨⟨by dsimp only; omega, by dsimp only; omega⟩, Math.small_app hr2 hv_, by dsimp only; rw [List.length_append, hrl]; rfl⟩) ⟨rfl, rfl, rfl, rfl, rfl, rfl, rfl, rfl, trivial⟩ (fun _ h => h.pick [3, 3, 3, 3, 3, 1])
  ·
   replace c2 : ¬ ((j : Int) < ((((Math.sizes z (Math.sets z nws p)))).getD i 0)) := c2
   refine hExit rfl ?_
   refine qSeq rfl ?_
   refine hReg (sq 0 (sq 1 (sl 2 (sl 3 (sl 4 (sq 5 sz)))))) (by kernel_rfl) ?_
   refine mvS rfl rfl rfl ?_
   refine mvS rfl rfl rfl ?_
   refine callS Tryd.call33 trv1 rfl rfl (fun w hs => spec_l22Parts_c _ q2 he.2 _ w (OwnI.rd (hs.at_ 0 rfl)) (Math.small_big hr2) (by omega) (by omega)) ?_
   rintro ⟨ay6, ny6, cy6, y6⟩ hr6
   dsimp only at hr6
   subst y6
   refine rKnow (fun w hs => (show OwnI 2 ay6 ny6 cy6 (Math.partsOf r) w from hs.at_ 0 rfl).lenz) (fun lenn8 => ?_)
   refine bsl trv1 rfl rfl rfl (bsl27_1 (.slice _ _ _) rfl) (fun bkl9 hbkl9 => ?_)
   refine apR (hd := (ay6, cy6)) (x := (Math.partsOf r)) 3 1 0 maK.ok rfl rfl rfl (fun h => by first | rfl | (dsimp only at h; rw [h]; rfl) | (rw [h]; rfl) | exact congrArg (fun m => [Value.slice _ m _]) h) mk27 trv1 rfl rfl rfl rfl (by omega) ?_
   intro aq7 cq7
   refine asS rfl rfl rfl ?_
   refine rNil ?_
   refine qSeq rfl ?_
   refine hReg (sq 0 (sq 1 (sq 2 sz))) (by kernel_rfl) ?_
   refine mvI rfl rfl rfl ?_
   refine add rfl rfl rfl rfl (by omega) ?_
   refine asI rfl rfl rfl ?_
   refine rNil ?_
   exact qNext rfl ((i + 1, q + 1, ((aq7, cq7), (hset hd.2 y.length (ay6, cy6))), (y ++ [(Math.partsOf r)]))) (by dsimp only; omega) (⟨⟨by dsimp only; omega, by dsimp only; omega⟩, Math.drawnP_app hy hr2 (by omega)⟩) ⟨rfl, rfl, rfl, rfl, rfl, rfl, trivial⟩ (fun _ h => h.pick [0, 2, 2, 2, 2])
 ·
  replace c1 : ¬ ((i : Int) < (ny1 : Int)) := c1
  refine hExit rfl ?_
  refine qSeq rfl ?_
  refine hSeq ?_
  refine hReg (sq 0 (sq 1 (sq 2 (sl 3 sz)))) (by kernel_rfl) ?_
  refine mvI rfl rfl rfl ?_
  refine mvS rfl rfl rfl ?_
  refine bld rfl rfl rfl (bld31_0_1 (.int .i64 _) (.slice _ _ _) rfl rfl) ?_
  refine stAl (vs := [.int .i64 p, .slice hd.1.1 q hd.1.2]) 2 rfl Tryd.sizeOf31 trv rfl rfl rfl rfl rfl (by simp [Value.oneCell']) rfl ?_
  refine rNil ?_
  refine qSeq rfl ?_
  refine hRet ?_
  exact fun w hs => ⟨[_], ⟨⟨_, rfl, run_load_agg Tryd.isAgg31 Tryd.sizeOf31 rfl (cBs 2 rfl w hs)⟩, trivial⟩, ⟨(hd.1.1, q, hd.1.2, hd.2, y), rfl, ⟨by dsimp only; omega, hy⟩, hs.pick [4, 0]⟩⟩
set_option maxHeartbeats 4000000 in
theorem spec_l22Draw_c (bk : Nat) (ca : Option Addr) (bs : List Int) (cc : Nat) (p : Int) (w : World) (M0 : Nat → Prop) (hs0 : Sep w M0 [srcP bk ca bs cc] w) (kcode : Kn w M0 [] (CellsAt ca (bs.map (Value.int .u8)))) (hok : okBytes bs) (hp : 0 ≤ p ∧ p ≤ 1) :
  Calls Tryd.prog 25 #[.pointer (some ⟨bk, 0, none⟩), .int .i64 p] w (Ret fun v w' => ∃ x : Option Addr × Nat × Nat × (Nat → Hd) × List Nd × Option Addr × Nat × Nat × (Nat → Hd) × List (List Int) × Option Addr × Nat × Nat × (Nat → Hd) × List (List Int) × Int × Option Addr × Nat × Nat × (Nat → Hd) × List (List Int), v = .tuple #[.agg #[.slice x.1 x.2.1 x.2.2.1, .slice x.2.2.2.2.2.1 x.2.2.2.2.2.2.1 x.2.2.2.2.2.2.2.1, .slice x.2.2.2.2.2.2.2.2.2.2.1 x.2.2.2.2.2.2.2.2.2.2.2.1 x.2.2.2.2.2.2.2.2.2.2.2.2.1], .agg #[.int .i64 x.2.2.2.2.2.2.2.2.2.2.2.2.2.2.2.1, .slice x.2.2.2.2.2.2.2.2.2.2.2.2.2.2.2.2.1 x.2.2.2.2.2.2.2.2.2.2.2.2.2.2.2.2.2.1 x.2.2.2.2.2.2.2.2.2.2.2.2.2.2.2.2.2.2.1]] ∧ ((x.2.1 ≤ 250 ∧ ((1 ≤ x.2.2.2.2.2.2.1 ∧ x.2.2.2.2.2.2.1 ≤ 4) ∧ x.2.2.2.2.2.2.2.2.2.2.2.1 ≤ 4)) ∧ ((-1 ≤ x.2.2.2.2.2.2.2.2.2.2.2.2.2.2.2.1 ∧ x.2.2.2.2.2.2.2.2.2.2.2.2.2.2.2.1 ≤ 2) ∧ x.2.2.2.2.2.2.2.2.2.2.2.2.2.2.2.2.2.1 ≤ 361)) ∧ Sep w M0 [srcP bk ca bs cc, RdR ndK x.1 x.2.1 x.2.2.2.1 x.2.2.2.2.1, RdR maK x.2.2.2.2.2.1 x.2.2.2.2.2.2.1 x.2.2.2.2.2.2.2.2.1 x.2.2.2.2.2.2.2.2.2.1, RdR maK x.2.2.2.2.2.2.2.2.2.2.1 x.2.2.2.2.2.2.2.2.2.2.2.1 x.2.2.2.2.2.2.2.2.2.2.2.2.2.1 x.2.2.2.2.2.2.2.2.2.2.2.2.2.2.1, OwnR maK 50 2 x.2.2.2.2.2.2.2.2.2.2.2.2.2.2.2.2.1 x.2.2.2.2.2.2.2.2.2.2.2.2.2.2.2.2.2.1 x.2.2.2.2.2.2.2.2.2.2.2.2.2.2.2.2.2.2.1 x.2.2.2.2.2.2.2.2.2.2.2.2.2.2.2.2.2.2.2.1 x.2.2.2.2.2.2.2.2.2.2.2.2.2.2.2.2.2.2.2.2] w') := by
 refine fn (M := M0) (rs := [.cell 4 29, .cell 5 31]) Tryd.func25 rfl Tryd.ntmps25 rfl rfl hs0 ?_
 refine hSeq ?_
 refine hReg (sl 0 (sl 1 sz)) (by kernel_rfl) ?_
 refine alc Tryd.zeroValue29 rfl trv1 rfl rfl (fun bka1 hbka1 => ?_)
 refine alc Tryd.zeroValue31 rfl trv1 rfl rfl (fun bka2 hbka2 => ?_)
 refine rNil ?_
 refine qSeq rfl ?_
 refine hSeq ?_
 refine hReg (sq 0 (sl 1 (sl 2 (sl 3 sz)))) (by kernel_rfl) ?_
 refine mvP rfl rfl rfl ?_
 refine rPieces (L' := [srcP bk ca bs cc, blk bka2 31 [.int .i64 0, .slice none 0 0], blk bka1 29 [.slice none 0 0, .slice none 0 0, .slice none 0 0]]) (fun _ h => h.perm (pull (i := 2) rfl)) ?_
 refine callMK (α := Option Addr × Nat × Nat × (Nat → Hd) × List Nd × Option Addr × Nat × Nat × (Nat → Hd) × List (List Int) × Option Addr × Nat × Nat × (Nat → Hd) × List (List Int)) (Lf := [srcP bk ca bs cc]) (Lr := [blk bka2 31 [.int .i64 0, .slice none 0 0], blk bka1 29 [.slice none 0 0, .slice none 0 0, .slice none 0 0]]) (good := fun x => x.2.1 ≤ 250 ∧ ((1 ≤ x.2.2.2.2.2.2.1 ∧ x.2.2.2.2.2.2.1 ≤ 4) ∧ x.2.2.2.2.2.2.2.2.2.2.2.1 ≤ 4)) (φs := fun x => [srcP bk ca bs cc, RdR ndK x.1 x.2.1 x.2.2.2.1 x.2.2.2.2.1, RdR maK x.2.2.2.2.2.1 x.2.2.2.2.2.2.1 x.2.2.2.2.2.2.2.2.1 x.2.2.2.2.2.2.2.2.2.1, RdR maK x.2.2.2.2.2.2.2.2.2.2.1 x.2.2.2.2.2.2.2.2.2.2.2.1 x.2.2.2.2.2.2.2.2.2.2.2.2.2.1 x.2.2.2.2.2.2.2.2.2.2.2.2.2.2]) (val := fun x => .agg #[.slice x.1 x.2.1 x.2.2.1, .slice x.2.2.2.2.2.1 x.2.2.2.2.2.2.1 x.2.2.2.2.2.2.2.1, .slice x.2.2.2.2.2.2.2.2.2.2.1 x.2.2.2.2.2.2.2.2.2.2.2.1 x.2.2.2.2.2.2.2.2.2.2.2.2.1]) rfl Tryd.call55 trv1 rfl rfl (fun w M1 hs hk => spec_l21Draw_c bk ca bs cc  w M1 hs (hk _ kcode) hok ) ?_
 rintro ⟨ay1, ny1, cy1, Hy1, y1, ayw1, nyw1, cyw1, Hyw1, yw1, ayv1, nyv1, cyv1, Hyv1, yv1⟩ hr1
 try dsimp only at hr1
 refine rPieces (L' := [srcP bk ca bs cc, RdR ndK ay1 ny1 Hy1 y1, RdR maK ayw1 nyw1 Hyw1 yw1, RdR maK ayv1 nyv1 Hyv1 yv1, blk bka2 31 [.int .i64 0, .slice none 0 0], blk bka1 29 [.slice none 0 0, .slice none 0 0, .slice none 0 0]]) (fun _ h => h) ?_
 refine rKnow (fun w hs => (show RdR ndK ay1 ny1 Hy1 y1 w from hs.at_ 1 rfl).1) (fun lenn3 => ?_)
 refine rKnow (fun w hs => (show RdR maK ayw1 nyw1 Hyw1 yw1 w from hs.at_ 2 rfl).1) (fun lenn4 => ?_)
 refine rKnow (fun w hs => (show RdR maK ayv1 nyv1 Hyv1 yv1 w from hs.at_ 3 rfl).1) (fun lenn5 => ?_)
 refine alc Tryd.zeroValue29 rfl trv1 rfl rfl (fun bka6 hbka6 => ?_)
 refine stAl (vs := [.slice ay1 ny1 cy1, .slice ayw1 nyw1 cyw1, .slice ayv1 nyv1 cyv1]) 0 rfl Tryd.sizeOf29 trv rfl rfl rfl rfl rfl (by simp [Value.oneCell']) rfl ?_
 refine rNil ?_
 refine qSeq rfl ?_
 refine hSeq ?_
 refine hSeq ?_
 refine hReg (sl 0 (sl 1 (sq 2 sz))) (by kernel_rfl) ?_
 refine ldAl Tryd.isAgg29 Tryd.sizeOf29 (cBs 0 rfl) trv rfl rfl rfl rfl ?_
 refine callP (v := .bool (Math.isGame y1 yw1 yv1)) Tryd.call26 trv rfl rfl (fun w hs => spec_IsGame_c _ ny1 cy1 _ _ _ nyw1 cyw1 _ _ _ nyv1 cyv1 _ _ w (hs.at_ 2 rfl) (hs.at_ 3 rfl) (hs.at_ 4 rfl)) ?_
 refine not rfl rfl rfl ?_
 refine rNil ?_
 refine qSeq rfl ?_
 refine hIfN rfl (fun c1 => ?_) (fun c1 => ?_)
 ·
  replace c1 : (Math.isGame y1 yw1 yv1) = false := c1
  refine hSeq ?_
  refine hReg (sl 0 (sq 1 (sq 2 (sl 3 (sl 4 sz))))) (by kernel_rfl) ?_
  refine ldAl Tryd.isAgg29 Tryd.sizeOf29 (cBs 0 rfl) trv rfl rfl rfl rfl ?_
  refine mvI rfl rfl rfl ?_
  refine bld rfl rfl rfl (bld31_0 (.int .i64 _) rfl) ?_
  refine stAl (vs := [.slice ay1 ny1 cy1, .slice ayw1 nyw1 cyw1, .slice ayv1 nyv1 cyv1]) 6 rfl Tryd.sizeOf29 trv rfl rfl rfl rfl rfl (by simp [Value.oneCell']) rfl ?_
  refine stAl (vs := [.int .i64 p, .slice none 0 0]) 5 rfl Tryd.sizeOf31 trv rfl rfl rfl rfl rfl (by simp [Value.oneCell']) rfl ?_
  refine rNil ?_
  refine qSeq rfl ?_
  refine hRet ?_
  refine knP (fun _ h => Sep.nilR maK 50 2 (fun _ => (none, 0)) h) ?_
  exact fun w hs => ⟨[_, _], ⟨⟨_, rfl, run_load_agg Tryd.isAgg29 Tryd.sizeOf29 rfl (cBs 7 rfl w hs)⟩, ⟨⟨_, rfl, run_load_agg Tryd.isAgg31 Tryd.sizeOf31 rfl (cBs 6 rfl w hs)⟩, trivial⟩⟩, ⟨(ay1, ny1, cy1, Hy1, y1, ayw1, nyw1, cyw1, Hyw1, yw1, ayv1, nyv1, cyv1, Hyv1, yv1, p, none, 0, 0, (fun _ => (none, 0)), []), rfl, ⟨⟨by dsimp only; omega, ⟨by dsimp only; omega, by dsimp only; omega⟩, by dsimp only; omega⟩, by dsimp only; omega, by dsimp only; omega⟩, hs.pick [2, 2, 2, 2, 0]⟩⟩
 ·
  replace c1 : (Math.isGame y1 yw1 yv1) = true := c1
  refine hSkip ?_
  refine qSeq rfl ?_
  refine hSeq ?_
  refine hReg (sq 0 (sl 1 (sq 2 (sl 3 (sl 4 (sl 5 sz)))))) (by kernel_rfl) ?_
  refine mvP rfl rfl rfl ?_
  refine ldAl Tryd.isAgg29 Tryd.sizeOf29 (cBs 0 rfl) trv rfl rfl rfl rfl ?_
  refine mvI rfl rfl rfl ?_
  refine rPieces (L' := [srcP bk ca bs cc, blk bka6 29 [.slice ay1 ny1 cy1, .slice ayw1 nyw1 cyw1, .slice ayv1 nyv1 cyv1], RdR ndK ay1 ny1 Hy1 y1, RdR maK ayw1 nyw1 Hyw1 yw1, RdR maK ayv1 nyv1 Hyv1 yv1, blk bka2 31 [.int .i64 0, .slice none 0 0], blk bka1 29 [.slice none 0 0, .slice none 0 0, .slice none 0 0]]) (fun _ h => h.perm (pull (i := 1) rfl)) ?_
  refine callMR (α := Option Addr × Nat × Nat × (Nat → Hd) × List (List Int)) (Lf := [srcP bk ca bs cc]) (Lr := [blk bka6 29 [.slice ay1 ny1 cy1, .slice ayw1 nyw1 cyw1, .slice ayv1 nyv1 cyv1], RdR ndK ay1 ny1 Hy1 y1, RdR maK ayw1 nyw1 Hyw1 yw1, RdR maK ayv1 nyv1 Hyv1 yv1, blk bka2 31 [.int .i64 0, .slice none 0 0], blk bka1 29 [.slice none 0 0, .slice none 0 0, .slice none 0 0]]) (good := fun x => x.2.1 ≤ 360 ∧ Math.drawnP x.2.2.2.2) (φs := fun x => [srcP bk ca bs cc, OwnR maK 50 2 x.1 x.2.1 x.2.2.1 x.2.2.2.1 x.2.2.2.2]) (val := fun x => .agg #[.int .i64 p, .slice x.1 x.2.1 x.2.2.1]) rfl Tryd.call27 trv1 rfl rfl (fun w M1 hs hk => spec_l22Random_c bk ca bs cc ay1 ny1 cy1 Hy1 y1 ayw1 nyw1 cyw1 Hyw1 yw1 ayv1 nyv1 cyv1 Hyv1 yv1 p w M1 hs (hk _ (Kn.nil kcode)) hok (hk _ (Kn.at_ 1 rfl)) (hk _ (Kn.at_ 2 rfl)) (hk _ (Kn.at_ 3 rfl)) (by assumption) (by omega)) ?_
  rintro ⟨ay2, ny2, cy2, Hy2, y2⟩ hr2
  try dsimp only at hr2
  refine rPieces (L' := [srcP bk ca bs cc, OwnR maK 50 2 ay2 ny2 cy2 Hy2 y2, blk bka6 29 [.slice ay1 ny1 cy1, .slice ayw1 nyw1 cyw1, .slice ayv1 nyv1 cyv1], RdR ndK ay1 ny1 Hy1 y1, RdR maK ayw1 nyw1 Hyw1 yw1, RdR maK ayv1 nyv1 Hyv1 yv1, blk bka2 31 [.int .i64 0, .slice none 0 0], blk bka1 29 [.slice none 0 0, .slice none 0 0, .slice none 0 0]]) (fun _ h => h) ?_
  refine rKnow (fun w hs => (show OwnR maK 50 2 ay2 ny2 cy2 Hy2 y2 w from hs.at_ 1 rfl).1) (fun lenn8 => ?_)
  refine alc Tryd.zeroValue31 rfl trv1 rfl rfl (fun bka9 hbka9 => ?_)
  refine stAl (vs := [.int .i64 p, .slice ay2 ny2 cy2]) 0 rfl Tryd.sizeOf31 trv rfl rfl rfl rfl rfl (by simp [Value.oneCell']) rfl ?_
  refine rNil ?_
  refine qSeq rfl ?_
  refine hSeq ?_
  refine hSeq ?_
  refine hReg (sq 0 (sl 1 sz)) (by kernel_rfl) ?_
  refine mvP rfl rfl rfl ?_
  refine rPieces (L' := [srcP bk ca bs cc, blk bka9 31 [.int .i64 p, .slice ay2 ny2 cy2], OwnR maK 50 2 ay2 ny2 cy2 Hy2 y2, blk bka6 29 [.slice ay1 ny1 cy1, .slice ayw1 nyw1 cyw1, .slice ayv1 nyv1 cyv1], RdR ndK ay1 ny1 Hy1 y1, RdR maK ayw1 nyw1 Hyw1 yw1, RdR maK ayv1 nyv1 Hyv1 yv1, blk bka2 31 [.int .i64 0, .slice none 0 0], blk bka1 29 [.slice none 0 0, .slice none 0 0, .slice none 0 0]]) (fun _ h => h.perm (pull (i := 1) rfl)) ?_
  refine callMK (α := Int) (Lf := [srcP bk ca bs cc]) (Lr := [blk bka9 31 [.int .i64 p, .slice ay2 ny2 cy2], OwnR maK 50 2 ay2 ny2 cy2 Hy2 y2, blk bka6 29 [.slice ay1 ny1 cy1, .slice ayw1 nyw1 cyw1, .slice ayv1 nyv1 cyv1], RdR ndK ay1 ny1 Hy1 y1, RdR maK ayw1 nyw1 Hyw1 yw1, RdR maK ayv1 nyv1 Hyv1 yv1, blk bka2 31 [.int .i64 0, .slice none 0 0], blk bka1 29 [.slice none 0 0, .slice none 0 0, .slice none 0 0]]) (good := fun x => 0 ≤ x ∧ (x < (20 : Int) ∨ x = 0)) (φs := fun x => [srcP bk ca bs cc]) (val := fun x => .int .i64 x) rfl Tryd.call24 trv1 rfl rfl (fun w M1 hs hk => src_next bk ca bs cc (20 : Int) w M1 hs (hk _ kcode) hok) ?_
  intro x3 hx3
  replace hx3 : 0 ≤ x3 ∧ x3 < (20 : Int) := by omega
  try dsimp only at hx3
  refine rPieces (L' := [srcP bk ca bs cc, blk bka9 31 [.int .i64 p, .slice ay2 ny2 cy2], OwnR maK 50 2 ay2 ny2 cy2 Hy2 y2, blk bka6 29 [.slice ay1 ny1 cy1, .slice ayw1 nyw1 cyw1, .slice ayv1 nyv1 cyv1], RdR ndK ay1 ny1 Hy1 y1, RdR maK ayw1 nyw1 Hyw1 yw1, RdR maK ayv1 nyv1 Hyv1 yv1, blk bka2 31 [.int .i64 0, .slice none 0 0], blk bka1 29 [.slice none 0 0, .slice none 0 0, .slice none 0 0]]) (fun _ h => h) ?_
  refine rNil ?_
  refine qSeq rfl ?_
  refine hBlk ?_
  refine hSeq ?_
  refine hReg (sq 0 (sq 1 sz)) (by kernel_rfl) ?_
  refine eql rfl rfl rfl rfl ?_
  refine asB rfl rfl rfl ?_
  refine rNil ?_
  refine qSeq rfl ?_
  refine hIfD rfl (fun c2 => ?_) (fun c2 => ?_)
  ·
   replace c2 : x3 = 0 := c2
   refine hSeq ?_
   refine hReg (sq 0 (sl 1 (sq 2 (sq 3 sz)))) (by kernel_rfl) ?_
   refine fld fl31_1 rfl rfl rfl ?_
   refine ldl Tryd.isAgg27 (cB 1 rfl rfl) trv rfl rfl rfl ?_
   refine lenS Tryd.runUnderlying27 rfl rfl rfl ?_
   refine gtr rfl rfl rfl rfl ?_
   refine rNil ?_
   refine qSeq rfl ?_
   refine hIfD rfl (fun c3 => ?_) (fun c3 => ?_)
   ·
    replace c3 : 0 < (ny2 : Int) := c3
    have hdr := Math.drawnP_at hr2.2 (i := 0) (by omega)
    refine hDraw (Ls := [blk bka9 31 [.int .i64 p, .slice ay2 ny2 cy2], OwnR maK 50 2 ay2 ny2 cy2 Hy2 y2]) (by kernel_rfl) (sq 0 (sq 1 (sq 2 (sq 3 (sq 4 (sq 5 (sq 6 (sq 7 (sq 8 (sq 9 (sq 10 (sl 11 (sl 12 (sq 13 (sq 14 (sf 15 sz)))))))))))))))) (by kernel_rfl) (.cons _ (.cons_cons _ (.cons_cons _ (.cons _ (.cons _ (.cons _ (.cons _ (.cons _ (.cons _ .slnil))))))))) ?_
    refine fld fl31_1 rfl rfl rfl ?_
    refine ldq Tryd.isAgg27 (cB 0 rfl rfl) rfl rfl rfl ?_
    refine ixRq (zn := 0) (y2.getD 0 []) el27 ((Kn.at_ 1 rfl).imp fun _ h => OwnR.rd h maK.ok) (fun _ h => h.pick [1, 1]) rfl rfl rfl rfl (by omega) (by omega) rfl (nth [] (by omega)) ?_
    intro be4 oe4 e4
    refine ldq Tryd.isAgg50 (Kn.fld e4 0 rfl) rfl rfl rfl ?_
    refine fld fl31_1 rfl rfl rfl ?_
    refine ldq Tryd.isAgg27 (cB 0 rfl rfl) rfl rfl rfl ?_
    refine ixRq (zn := 0) (y2.getD 0 []) el27 ((Kn.at_ 1 rfl).imp fun _ h => OwnR.rd h maK.ok) (fun _ h => h.pick [1, 1]) rfl rfl rfl rfl (by omega) (by omega) rfl (nth [] (by omega)) ?_
    intro be5 oe5 e5
    refine ldq Tryd.isAgg50 (Kn.fld e5 0 rfl) rfl rfl rfl ?_
    refine ixIq (zn := 0) el50 ((Kn.imp ((Kn.at_ (φ := OwnR maK 50 2 ay2 ny2 cy2 Hy2 y2) 1 rfl).imp fun _ h => OwnR.rd h maK.ok) fun _ h => h.kidM (nth [] (by omega)))) (fun _ h => h.pick [1, 1]) rfl rfl rfl rfl (by omega) (by omega) rfl ?_
    intro ae6 e6
    refine ldq Tryd.isAgg2 (e6) rfl rfl rfl ?_
    refine mvP rfl rfl rfl ?_
    refine bsl (fun _ _ h => h.pick [2, 2]) rfl rfl rfl (bsl50_3 (.int .i64 _) (.int .i64 _) (.int .i64 _) rfl rfl rfl) (fun bkl10 hbkl10 => ?_)
    refine rPieces (L' := [srcP bk ca bs cc, blk bkl10 2 [.int .i64 (-1), .int .i64 1, .int .i64 60], blk bka9 31 [.int .i64 p, .slice ay2 ny2 cy2], OwnR maK 50 2 ay2 ny2 cy2 Hy2 y2, blk bka6 29 [.slice ay1 ny1 cy1, .slice ayw1 nyw1 cyw1, .slice ayv1 nyv1 cyv1], RdR ndK ay1 ny1 Hy1 y1, RdR maK ayw1 nyw1 Hyw1 yw1, RdR maK ayv1 nyv1 Hyv1 yv1, blk bka2 31 [.int .i64 0, .slice none 0 0], blk bka1 29 [.slice none 0 0, .slice none 0 0, .slice none 0 0]]) (fun _ h => h.perm (pull (i := 1) rfl)) ?_
    refine callMK (α := Int) (Lf := [srcP bk ca bs cc, blk bkl10 2 [.int .i64 (-1), .int .i64 1, .int .i64 60]]) (Lr := [blk bka9 31 [.int .i64 p, .slice ay2 ny2 cy2], OwnR maK 50 2 ay2 ny2 cy2 Hy2 y2, blk bka6 29 [.slice ay1 ny1 cy1, .slice ayw1 nyw1 cyw1, .slice ayv1 nyv1 cyv1], RdR ndK ay1 ny1 Hy1 y1, RdR maK ayw1 nyw1 Hyw1 yw1, RdR maK ayv1 nyv1 Hyv1 yv1, blk bka2 31 [.int .i64 0, .slice none 0 0], blk bka1 29 [.slice none 0 0, .slice none 0 0, .slice none 0 0]]) (good := fun x => x ∈ ([.int .i64 (-1), .int .i64 1, .int .i64 60] : List Value).map toI) (φs := fun x => [srcP bk ca bs cc, blk bkl10 2 [.int .i64 (-1), .int .i64 1, .int .i64 60]]) (val := fun x => .int .i64 x) rfl Tryd.call28 (by exact (fun _ _ h => h.pick [2, 2])) rfl rfl (fun w M1 hs hk => src_pick bk ca bs cc bkl10 2 3 3 [.int .i64 (-1), .int .i64 1, .int .i64 60] w M1 hs (hk _ kcode) hok rfl rfl (by decide)) ?_
    intro x7 hx7
    try dsimp only at hx7
    refine rPieces (L' := [srcP bk ca bs cc, blk bkl10 2 [.int .i64 (-1), .int .i64 1, .int .i64 60], blk bka9 31 [.int .i64 p, .slice ay2 ny2 cy2], OwnR maK 50 2 ay2 ny2 cy2 Hy2 y2, blk bka6 29 [.slice ay1 ny1 cy1, .slice ayw1 nyw1 cyw1, .slice ayv1 nyv1 cyv1], RdR ndK ay1 ny1 Hy1 y1, RdR maK ayw1 nyw1 Hyw1 yw1, RdR maK ayv1 nyv1 Hyv1 yv1, blk bka2 31 [.int .i64 0, .slice none 0 0], blk bka1 29 [.slice none 0 0, .slice none 0 0, .slice none 0 0]]) (fun _ h => h) ?_
    replace hx7 : (-1 : Int) ≤ x7 ∧ x7 ≤ (60 : Int) := by have hm_ := hx7; simp [toI] at hm_; omega
    refine rPieces (L' := [blk bkl10 2 [.int .i64 (-1), .int .i64 1, .int .i64 60], srcP bk ca bs cc, blk bka9 31 [.int .i64 p, .slice ay2 ny2 cy2], OwnR maK 50 2 ay2 ny2 cy2 Hy2 y2, blk bka6 29 [.slice ay1 ny1 cy1, .slice ayw1 nyw1 cyw1, .slice ayv1 nyv1 cyv1], RdR ndK ay1 ny1 Hy1 y1, RdR maK ayw1 nyw1 Hyw1 yw1, RdR maK ayv1 nyv1 Hyv1 yv1, blk bka2 31 [.int .i64 0, .slice none 0 0], blk bka1 29 [.slice none 0 0, .slice none 0 0, .slice none 0 0]]) (fun _ h => h.perm (pull (i := 1) rfl)) ?_
    refine add rfl rfl rfl rfl (by omega) ?_
    refine rPieces (L' := [OwnR maK 50 2 ay2 ny2 cy2 Hy2 y2, blk bkl10 2 [.int .i64 (-1), .int .i64 1, .int .i64 60], srcP bk ca bs cc, blk bka9 31 [.int .i64 p, .slice ay2 ny2 cy2], blk bka6 29 [.slice ay1 ny1 cy1, .slice ayw1 nyw1 cyw1, .slice ayv1 nyv1 cyv1], RdR ndK ay1 ny1 Hy1 y1, RdR maK ayw1 nyw1 Hyw1 yw1, RdR maK ayv1 nyv1 Hyv1 yv1, blk bka2 31 [.int .i64 0, .slice none 0 0], blk bka1 29 [.slice none 0 0, .slice none 0 0, .slice none 0 0]]) (fun _ h => h.pick [3, 0, 0, 0, 0, 0, 0, 0, 0, 0]) ?_
    refine rPieces (L' := [OwnI 2 ((Hy2 0).1) ((y2.getD 0 []).length) ((Hy2 0).2) (y2.getD 0 []), OwnH maK 50 2 ay2 ny2 cy2 Hy2 y2 0, blk bkl10 2 [.int .i64 (-1), .int .i64 1, .int .i64 60], srcP bk ca bs cc, blk bka9 31 [.int .i64 p, .slice ay2 ny2 cy2], blk bka6 29 [.slice ay1 ny1 cy1, .slice ayw1 nyw1 cyw1, .slice ayv1 nyv1 cyv1], RdR ndK ay1 ny1 Hy1 y1, RdR maK ayw1 nyw1 Hyw1 yw1, RdR maK ayv1 nyv1 Hyv1 yv1, blk bka2 31 [.int .i64 0, .slice none 0 0], blk bka1 29 [.slice none 0 0, .slice none 0 0, .slice none 0 0]]) (fun _ h => Sep.lend h 0 (y2.getD 0 []) (nth [] (by omega))) ?_
    refine oxI (zn := 0) 0 rfl el50 rfl rfl rfl rfl (by omega) (by omega) rfl ?_
    intro gk8 hgk8
    refine stoIF (off := 0) (x := (((y2.getD 0 []).getD 0 0) + x7)) 0 rfl hgk8 Tryd.sizeOf2 rfl rfl rfl rfl (by omega) ?_
    refine rPieces (L' := [OwnR maK 50 2 ay2 ny2 cy2 Hy2 ((y2.set 0 (((y2.getD 0 []).set 0 ((((y2.getD 0 []).getD 0 0) + x7)))))), blk bkl10 2 [.int .i64 (-1), .int .i64 1, .int .i64 60], srcP bk ca bs cc, blk bka9 31 [.int .i64 p, .slice ay2 ny2 cy2], blk bka6 29 [.slice ay1 ny1 cy1, .slice ayw1 nyw1 cyw1, .slice ayv1 nyv1 cyv1], RdR ndK ay1 ny1 Hy1 y1, RdR maK ayw1 nyw1 Hyw1 yw1, RdR maK ayv1 nyv1 Hyv1 yv1, blk bka2 31 [.int .i64 0, .slice none 0 0], blk bka1 29 [.slice none 0 0, .slice none 0 0, .slice none 0 0]]) (fun _ h => Sep.back (x := (y2.getD 0 [])) ((y2.getD 0 []).set 0 ((((y2.getD 0 []).getD 0 0) + x7))) maK.ok h (nth [] (by omega)) (fun h1 h2 => by dsimp only [ndK, ndC, maK] at h1 h2 ⊢; rw [h1, h2]) rfl rfl) ?_
    refine rNil ?_
    refine qSeq rfl ?_
    refine hSeq ?_
    refine hDraw (Ls := [blk bka9 31 [.int .i64 p, .slice ay2 ny2 cy2], blk bka6 29 [.slice ay1 ny1 cy1, .slice ayw1 nyw1 cyw1, .slice ayv1 nyv1 cyv1]]) (by kernel_rfl) (sq 0 (sq 1 (sl 2 (sf 3 sz)))) (by kernel_rfl) (.cons _ (.cons _ (.cons _ (.cons_cons _ (.cons_cons _ (.cons _ (.cons _ (.cons _ (.cons _ (.cons _ .slnil)))))))))) ?_
    refine ldAq Tryd.isAgg29 Tryd.sizeOf29 (cBs 1 rfl) rfl rfl rfl rfl ?_
    refine ldAq Tryd.isAgg31 Tryd.sizeOf31 (cBs 0 rfl) rfl rfl rfl rfl ?_
    refine stAl (vs := [.slice ay1 ny1 cy1, .slice ayw1 nyw1 cyw1, .slice ayv1 nyv1 cyv1]) 9 rfl Tryd.sizeOf29 (fun _ h => h.pick [3, 3]) rfl rfl rfl rfl rfl (by simp [Value.oneCell']) rfl ?_
    refine stAf (vs := [.int .i64 p, .slice ay2 ny2 cy2]) 8 rfl Tryd.sizeOf31 rfl rfl rfl rfl rfl (by simp [Value.oneCell']) rfl ?_
    refine rNil ?_
    refine qSeq rfl ?_
    refine hRet ?_
    exact fun w hs => ⟨[_, _], ⟨⟨_, rfl, run_load_agg Tryd.isAgg29 Tryd.sizeOf29 rfl (cBs 9 rfl w hs)⟩, ⟨⟨_, rfl, run_load_agg Tryd.isAgg31 Tryd.sizeOf31 rfl (cBs 8 rfl w hs)⟩, trivial⟩⟩, ⟨(ay1, ny1, cy1, Hy1, y1, ayw1, nyw1, cyw1, Hyw1, yw1, ayv1, nyv1, cyv1, Hyv1, yv1, p, ay2, ny2, cy2, Hy2, (y2.set 0 (((y2.getD 0 []).set 0 ((((y2.getD 0 []).getD 0 0) + x7)))))), rfl, ⟨⟨by dsimp only; omega, ⟨by dsimp only; omega, by dsimp only; omega⟩, by dsimp only; omega⟩, by dsimp only; omega, by dsimp only; omega⟩, hs.pick [2, 4, 4, 4, 0]⟩⟩
   ·
    replace c3 : ¬ (0 < (ny2 : Int)) := c3
    refine hSkip ?_
    refine qSeq rfl ?_
    refine hSeq ?_
    refine hDraw (Ls := [blk bka9 31 [.int .i64 p, .slice ay2 ny2 cy2], blk bka6 29 [.slice ay1 ny1 cy1, .slice ayw1 nyw1 cyw1, .slice ayv1 nyv1 cyv1]]) (by kernel_rfl) (sq 0 (sq 1 (sl 2 (sf 3 sz)))) (by kernel_rfl) (.cons _ (.cons_cons _ (.cons _ (.cons_cons _ (.cons _ (.cons _ (.cons _ (.cons _ (.cons _ .slnil))))))))) ?_
    refine ldAq Tryd.isAgg29 Tryd.sizeOf29 (cBs 1 rfl) rfl rfl rfl rfl ?_
    refine ldAq Tryd.isAgg31 Tryd.sizeOf31 (cBs 0 rfl) rfl rfl rfl rfl ?_
    refine stAl (vs := [.slice ay1 ny1 cy1, .slice ayw1 nyw1 cyw1, .slice ayv1 nyv1 cyv1]) 8 rfl Tryd.sizeOf29 (fun _ h => h.pick [1, 2]) rfl rfl rfl rfl rfl (by simp [Value.oneCell']) rfl ?_
    refine stAf (vs := [.int .i64 p, .slice ay2 ny2 cy2]) 7 rfl Tryd.sizeOf31 rfl rfl rfl rfl rfl (by simp [Value.oneCell']) rfl ?_
    refine rNil ?_
    refine qSeq rfl ?_
    refine hRet ?_
    exact fun w hs => ⟨[_, _], ⟨⟨_, rfl, run_load_agg Tryd.isAgg29 Tryd.sizeOf29 rfl (cBs 8 rfl w hs)⟩, ⟨⟨_, rfl, run_load_agg Tryd.isAgg31 Tryd.sizeOf31 rfl (cBs 7 rfl w hs)⟩, trivial⟩⟩, ⟨(ay1, ny1, cy1, Hy1, y1, ayw1, nyw1, cyw1, Hyw1, yw1, ayv1, nyv1, cyv1, Hyv1, yv1, p, ay2, ny2, cy2, Hy2, y2), rfl, ⟨⟨by dsimp only; omega, ⟨by dsimp only; omega, by dsimp only; omega⟩, by dsimp only; omega⟩, by dsimp only; omega, by dsimp only; omega⟩, hs.pick [0, 3, 3, 3, 1]⟩⟩
  ·
   replace c2 : ¬ (x3 = 0) := c2
   refine hSeq ?_
   refine hReg (sq 0 (sq 1 sz)) (by kernel_rfl) ?_
   refine eql rfl rfl rfl rfl ?_
   refine asB rfl rfl rfl ?_
   refine rNil ?_
   refine qSeq rfl ?_
   refine hIfD rfl (fun c4 => ?_) (fun c4 => ?_)
   ·
    replace c4 : x3 = 1 := c4
    refine hReg (sq 0 (sq 1 (sq 2 (sl 3 (sl 4 (sq 5 (sl 6 sz))))))) (by kernel_rfl) ?_
    refine mvP rfl rfl rfl ?_
    refine mvI rfl rfl rfl ?_
    refine sub rfl rfl rfl rfl (by omega) ?_
    refine bsl trv1 rfl rfl rfl (bsl50_3 (.int .i64 _) (.int .i64 _) (.int .i64 _) rfl rfl rfl) (fun bkl13 hbkl13 => ?_)
    refine rPieces (L' := [srcP bk ca bs cc, blk bkl13 2 [.int .i64 (-1), .int .i64 (1 - p), .int .i64 2], blk bka9 31 [.int .i64 p, .slice ay2 ny2 cy2], OwnR maK 50 2 ay2 ny2 cy2 Hy2 y2, blk bka6 29 [.slice ay1 ny1 cy1, .slice ayw1 nyw1 cyw1, .slice ayv1 nyv1 cyv1], RdR ndK ay1 ny1 Hy1 y1, RdR maK ayw1 nyw1 Hyw1 yw1, RdR maK ayv1 nyv1 Hyv1 yv1, blk bka2 31 [.int .i64 0, .slice none 0 0], blk bka1 29 [.slice none 0 0, .slice none 0 0, .slice none 0 0]]) (fun _ h => h.perm (pull (i := 1) rfl)) ?_
    refine callMK (α := Int) (Lf := [srcP bk ca bs cc, blk bkl13 2 [.int .i64 (-1), .int .i64 (1 - p), .int .i64 2]]) (Lr := [blk bka9 31 [.int .i64 p, .slice ay2 ny2 cy2], OwnR maK 50 2 ay2 ny2 cy2 Hy2 y2, blk bka6 29 [.slice ay1 ny1 cy1, .slice ayw1 nyw1 cyw1, .slice ayv1 nyv1 cyv1], RdR ndK ay1 ny1 Hy1 y1, RdR maK ayw1 nyw1 Hyw1 yw1, RdR maK ayv1 nyv1 Hyv1 yv1, blk bka2 31 [.int .i64 0, .slice none 0 0], blk bka1 29 [.slice none 0 0, .slice none 0 0, .slice none 0 0]]) (good := fun x => x ∈ ([.int .i64 (-1), .int .i64 (1 - p), .int .i64 2] : List Value).map toI) (φs := fun x => [srcP bk ca bs cc, blk bkl13 2 [.int .i64 (-1), .int .i64 (1 - p), .int .i64 2]]) (val := fun x => .int .i64 x) rfl Tryd.call28 trv1 rfl rfl (fun w M1 hs hk => src_pick bk ca bs cc bkl13 2 3 3 [.int .i64 (-1), .int .i64 (1 - p), .int .i64 2] w M1 hs (hk _ kcode) hok rfl rfl (by decide)) ?_
    intro x9 hx9
    try dsimp only at hx9
    refine rPieces (L' := [srcP bk ca bs cc, blk bkl13 2 [.int .i64 (-1), .int .i64 (1 - p), .int .i64 2], blk bka9 31 [.int .i64 p, .slice ay2 ny2 cy2], OwnR maK 50 2 ay2 ny2 cy2 Hy2 y2, blk bka6 29 [.slice ay1 ny1 cy1, .slice ayw1 nyw1 cyw1, .slice ayv1 nyv1 cyv1], RdR ndK ay1 ny1 Hy1 y1, RdR maK ayw1 nyw1 Hyw1 yw1, RdR maK ayv1 nyv1 Hyv1 yv1, blk bka2 31 [.int .i64 0, .slice none 0 0], blk bka1 29 [.slice none 0 0, .slice none 0 0, .slice none 0 0]]) (fun _ h => h) ?_
    replace hx9 : x9 = (-1) ∨ x9 = (1 - p) ∨ x9 = 2 := by simpa [toI] using hx9
    refine fld fl31_0 rfl rfl rfl ?_
    refine stl (v := .int .i64 _) 2 rfl Tryd.sizeOf2 trv rfl rfl rfl rfl rfl (Nat.le_of_ble_eq_true rfl) ?_
    refine rNil ?_
    refine qSeq rfl ?_
    refine hSeq ?_
    refine hDraw (Ls := [blk bka9 31 [.int .i64 x9, .slice ay2 ny2 cy2], blk bka6 29 [.slice ay1 ny1 cy1, .slice ayw1 nyw1 cyw1, .slice ayv1 nyv1 cyv1]]) (by kernel_rfl) (sq 0 (sq 1 (sl 2 (sf 3 sz)))) (by kernel_rfl) (.cons _ (.cons _ (.cons_cons _ (.cons _ (.cons_cons _ (.cons _ (.cons _ (.cons _ (.cons _ (.cons _ .slnil)))))))))) ?_
    refine ldAq Tryd.isAgg29 Tryd.sizeOf29 (cBs 1 rfl) rfl rfl rfl rfl ?_
    refine ldAq Tryd.isAgg31 Tryd.sizeOf31 (cBs 0 rfl) rfl rfl rfl rfl ?_
    refine stAl (vs := [.slice ay1 ny1 cy1, .slice ayw1 nyw1 cyw1, .slice ayv1 nyv1 cyv1]) 9 rfl Tryd.sizeOf29 (fun _ h => h.pick [2, 3]) rfl rfl rfl rfl rfl (by simp [Value.oneCell']) rfl ?_
    refine stAf (vs := [.int .i64 x9, .slice ay2 ny2 cy2]) 8 rfl Tryd.sizeOf31 rfl rfl rfl rfl rfl (by simp [Value.oneCell']) rfl ?_
    refine rNil ?_
    refine qSeq rfl ?_
    refine hRet ?_
    exact fun w hs => ⟨[_, _], ⟨⟨_, rfl, run_load_agg Tryd.isAgg29 Tryd.sizeOf29 rfl (cBs 9 rfl w hs)⟩, ⟨⟨_, rfl, run_load_agg Tryd.isAgg31 Tryd.sizeOf31 rfl (cBs 8 rfl w hs)⟩, trivial⟩⟩, ⟨(ay1, ny1, cy1, Hy1, y1, ayw1, nyw1, cyw1, Hyw1, yw1, ayv1, nyv1, cyv1, Hyv1, yv1, x9, ay2, ny2, cy2, Hy2, y2), rfl, ⟨⟨by dsimp only; omega, ⟨by dsimp only; omega, by dsimp only; omega⟩, by dsimp only; omega⟩, by dsimp only; omega, by dsimp only; omega⟩, hs.pick [0, 4, 4, 4, 2]⟩⟩
   ·
    replace c4 : ¬ (x3 = 1) := c4
    refine hSeq ?_
    refine hReg (sq 0 (sq 1 sz)) (by kernel_rfl) ?_
    refine eql rfl rfl rfl rfl ?_
    refine asB rfl rfl rfl ?_
    refine rNil ?_
    refine qSeq rfl ?_
    refine hIfD rfl (fun c5 => ?_) (fun c5 => ?_)
    ·
     replace c5 : x3 = 2 := c5
     refine hReg (sq 0 (sl 1 (sl 2 (sl 3 (sl 4 (sq 5 (sl 6 sz))))))) (by kernel_rfl) ?_
     refine fld fl31_1 rfl rfl rfl ?_
     refine ldl Tryd.isAgg27 (cB 1 rfl rfl) trv rfl rfl rfl ?_
     refine bsl trv1 rfl rfl rfl (bsl50_1 (.int .i64 _) rfl) (fun bkl14 hbkl14 => ?_)
     refine bsl trv1 rfl rfl rfl (bsl27_1 (.slice _ _ _) rfl) (fun bkl15 hbkl15 => ?_)
     refine rPieces (fun _ h => Sep.litI h 1 [60] rfl rfl rfl) ?_
     refine apR (hd := ((some ⟨bkl14, 0, none⟩), 1)) (x := [60]) 4 1 0 maK.ok rfl rfl rfl (fun h => by first | rfl | (dsimp only at h; rw [h]; rfl) | (rw [h]; rfl) | exact congrArg (fun m => [Value.slice _ m _]) h) mk27 trv1 rfl rfl rfl rfl (by omega) ?_
     intro aq10 cq10
     refine fld fl31_1 rfl rfl rfl ?_
     refine stl (v := .slice _ _ _) 3 rfl Tryd.sizeOf27 trv rfl rfl rfl rfl rfl (Nat.le_of_ble_eq_true rfl) ?_
     refine rNil ?_
     refine qSeq rfl ?_
     refine hSeq ?_
     refine hDraw (Ls := [blk bka9 31 [.int .i64 p, .slice aq10 (ny2 + 1) cq10], blk bka6 29 [.slice ay1 ny1 cy1, .slice ayw1 nyw1 cyw1, .slice ayv1 nyv1 cyv1]]) (by kernel_rfl) (sq 0 (sq 1 (sl 2 (sf 3 sz)))) (by kernel_rfl) (.cons _ (.cons _ (.cons _ (.cons_cons _ (.cons_cons _ (.cons _ (.cons _ (.cons _ (.cons _ (.cons _ .slnil)))))))))) ?_
     refine ldAq Tryd.isAgg29 Tryd.sizeOf29 (cBs 1 rfl) rfl rfl rfl rfl ?_
     refine ldAq Tryd.isAgg31 Tryd.sizeOf31 (cBs 0 rfl) rfl rfl rfl rfl ?_
     refine stAl (vs := [.slice ay1 ny1 cy1, .slice ayw1 nyw1 cyw1, .slice ayv1 nyv1 cyv1]) 9 rfl Tryd.sizeOf29 (fun _ h => h.pick [3, 3]) rfl rfl rfl rfl rfl (by simp [Value.oneCell']) rfl ?_
     refine stAf (vs := [.int .i64 p, .slice aq10 (ny2 + 1) cq10]) 8 rfl Tryd.sizeOf31 rfl rfl rfl rfl rfl (by simp [Value.oneCell']) rfl ?_
     refine rNil ?_
     refine qSeq rfl ?_
     refine hRet ?_
     exact fun w hs => ⟨[_, _], ⟨⟨_, rfl, run_load_agg Tryd.isAgg29 Tryd.sizeOf29 rfl (cBs 9 rfl w hs)⟩, ⟨⟨_, rfl, run_load_agg Tryd.isAgg31 Tryd.sizeOf31 rfl (cBs 8 rfl w hs)⟩, trivial⟩⟩, ⟨(ay1, ny1, cy1, Hy1, y1, ayw1, nyw1, cyw1, Hyw1, yw1, ayv1, nyv1, cyv1, Hyv1, yv1, p, aq10, (ny2 + 1), cq10, (hset Hy2 y2.length ((some ⟨bkl14, 0, none⟩), 1)), (y2 ++ [[60]])), rfl, ⟨⟨by dsimp only; omega, ⟨by dsimp only; omega, by dsimp only; omega⟩, by dsimp only; omega⟩, by dsimp only; omega, by dsimp only; omega⟩, hs.pick [2, 4, 4, 4, 0]⟩⟩
    ·
     replace c5 : ¬ (x3 = 2) := c5
     refine hSkip ?_
     refine qSeq rfl ?_
     refine hSeq ?_
     refine hDraw (Ls := [blk bka9 31 [.int .i64 p, .slice ay2 ny2 cy2], blk bka6 29 [.slice ay1 ny1 cy1, .slice ayw1 nyw1 cyw1, .slice ayv1 nyv1 cyv1]]) (by kernel_rfl) (sq 0 (sq 1 (sl 2 (sf 3 sz)))) (by kernel_rfl) (.cons _ (.cons_cons _ (.cons _ (.cons_cons _ (.cons _ (.cons _ (.cons _ (.cons _ (.cons _ .slnil))))))))) ?_
     refine ldAq Tryd.isAgg29 Tryd.sizeOf29 (cBs 1 rfl) rfl rfl rfl rfl ?_
     refine ldAq Tryd.isAgg31 Tryd.sizeOf31 (cBs 0 rfl) rfl rfl rfl rfl ?_
     refine stAl (vs := [.slice ay1 ny1 cy1, .slice ayw1 nyw1 cyw1, .slice ayv1 nyv1 cyv1]) 8 rfl Tryd.sizeOf29 (fun _ h => h.pick [1, 2]) rfl rfl rfl rfl rfl (by simp [Value.oneCell']) rfl ?_
     refine stAf (vs := [.int .i64 p, .slice ay2 ny2 cy2]) 7 rfl Tryd.sizeOf31 rfl rfl rfl rfl rfl (by simp [Value.oneCell']) rfl ?_
     refine rNil ?_
     refine qSeq rfl ?_
     refine hRet ?_
     exact fun w hs => ⟨[_, _], ⟨⟨_, rfl, run_load_agg Tryd.isAgg29 Tryd.sizeOf29 rfl (cBs 8 rfl w hs)⟩, ⟨⟨_, rfl, run_load_agg Tryd.isAgg31 Tryd.sizeOf31 rfl (cBs 7 rfl w hs)⟩, trivial⟩⟩, ⟨(ay1, ny1, cy1, Hy1, y1, ayw1, nyw1, cyw1, Hyw1, yw1, ayv1, nyv1, cyv1, Hyv1, yv1, p, ay2, ny2, cy2, Hy2, y2), rfl, ⟨⟨by dsimp only; omega, ⟨by dsimp only; omega, by dsimp only; omega⟩, by dsimp only; omega⟩, by dsimp only; omega, by dsimp only; omega⟩, hs.pick [0, 3, 3, 3, 1]⟩⟩
end Go.Proofs.YtjengglpbdgmnaaDoor
/- Contracts of games and strategies that laws draw. Their conditions stand in each. -/
namespace Go.Proofs.YtjengglpbdgmnaaDoor
open Go Go.RowKit V
set_option linter.unusedVariables false
set_option linter.unusedSimpArgs false
set_option maxRecDepth 100000
set_option maxHeartbeats 4000000 in
theorem spec_DrawIsStrategy_c (ca : Option Addr) (bs : List Int) (cc : Nat) (w : World) (rcode : CellsAt ca (bs.map (Value.int .u8)) w) (hok : okBytes bs) :
  Calls Tryd.prog 34 #[.slice ca bs.length cc] w (Ret fun v w' => ∃ x : Option Addr × Nat × Nat × (Nat → Hd) × List Nd × Option Addr × Nat × Nat × (Nat → Hd) × List (List Int) × Option Addr × Nat × Nat × (Nat → Hd) × List (List Int) × Int × Option Addr × Nat × Nat × (Nat → Hd) × List (List Int), v = .tuple #[.agg #[.slice x.1 x.2.1 x.2.2.1, .slice x.2.2.2.2.2.1 x.2.2.2.2.2.2.1 x.2.2.2.2.2.2.2.1, .slice x.2.2.2.2.2.2.2.2.2.2.1 x.2.2.2.2.2.2.2.2.2.2.2.1 x.2.2.2.2.2.2.2.2.2.2.2.2.1], .agg #[.int .i64 x.2.2.2.2.2.2.2.2.2.2.2.2.2.2.2.1, .slice x.2.2.2.2.2.2.2.2.2.2.2.2.2.2.2.2.1 x.2.2.2.2.2.2.2.2.2.2.2.2.2.2.2.2.2.1 x.2.2.2.2.2.2.2.2.2.2.2.2.2.2.2.2.2.2.1]] ∧ (x.2.1 ≤ 250 ∧ ((1 ≤ x.2.2.2.2.2.2.1 ∧ x.2.2.2.2.2.2.1 ≤ 4) ∧ x.2.2.2.2.2.2.2.2.2.2.2.1 ≤ 4) ∧ ((-1 ≤ x.2.2.2.2.2.2.2.2.2.2.2.2.2.2.2.1 ∧ x.2.2.2.2.2.2.2.2.2.2.2.2.2.2.2.1 ≤ 2) ∧ x.2.2.2.2.2.2.2.2.2.2.2.2.2.2.2.2.2.1 ≤ 361)) ∧ Sep w none_ [RdR ndK x.1 x.2.1 x.2.2.2.1 x.2.2.2.2.1, RdR maK x.2.2.2.2.2.1 x.2.2.2.2.2.2.1 x.2.2.2.2.2.2.2.2.1 x.2.2.2.2.2.2.2.2.2.1, RdR maK x.2.2.2.2.2.2.2.2.2.2.1 x.2.2.2.2.2.2.2.2.2.2.2.1 x.2.2.2.2.2.2.2.2.2.2.2.2.2.1 x.2.2.2.2.2.2.2.2.2.2.2.2.2.2.1, OwnR maK 50 2 x.2.2.2.2.2.2.2.2.2.2.2.2.2.2.2.2.1 x.2.2.2.2.2.2.2.2.2.2.2.2.2.2.2.2.2.1 x.2.2.2.2.2.2.2.2.2.2.2.2.2.2.2.2.2.2.1 x.2.2.2.2.2.2.2.2.2.2.2.2.2.2.2.2.2.2.2.1 x.2.2.2.2.2.2.2.2.2.2.2.2.2.2.2.2.2.2.2.2] w') := by
 have kcode : Kn w none_ [] (CellsAt ca (bs.map (Value.int .u8))) := fun w' hs => rcode.ext hs.upd
 refine fn (M := none_) (rs := [.cell 2 29, .cell 3 31]) Tryd.func34 rfl Tryd.ntmps34 rfl rfl (Sep.start _ _) ?_
 refine hSeq ?_
 refine hReg (sl 0 (sl 1 sz)) (by kernel_rfl) ?_
 refine alc Tryd.zeroValue29 rfl trv1 rfl rfl (fun bka1 hbka1 => ?_)
 refine alc Tryd.zeroValue31 rfl trv1 rfl rfl (fun bka2 hbka2 => ?_)
 refine rNil ?_
 refine qSeq rfl ?_
 refine hSeq ?_
 refine hReg (sq 0 (sl 1 (sq 2 sz))) (by kernel_rfl) ?_
 refine mvS rfl rfl rfl ?_
 refine callN (α := Nat) (val := fun x => .pointer (some ⟨x, 0, none⟩)) (good := fun _ => True) (φ := fun x => srcP x ca bs cc) Tryd.call23 trv1 rfl rfl (fun w hs => (l01From_c ca bs cc w (kcode w (hs.sub (List.nil_sublist _))) hok).mono fun e w1 ⟨v, h0, bk, h1, h2, h3, h4⟩ => ⟨v, h0, bk, h1, trivial, h3, h4⟩) ?_
 rintro bks3 -
 refine asn rfl rfl rfl ?_
 refine rNil ?_
 refine qSeq rfl ?_
 refine hSeq ?_
 refine hReg (sq 0 (sq 1 (sl 2 (sl 3 (sq 4 (sq 5 (sl 6 (sl 7 sz)))))))) (by kernel_rfl) ?_
 refine mvP rfl rfl rfl ?_
 refine mvP rfl rfl rfl ?_
 refine callMK (α := Int) (Lf := [srcP bks3 ca bs cc]) (Lr := [blk bka2 31 [.int .i64 0, .slice none 0 0], blk bka1 29 [.slice none 0 0, .slice none 0 0, .slice none 0 0]]) (good := fun x => 0 ≤ x ∧ (x < (2 : Int) ∨ x = 0)) (φs := fun x => [srcP bks3 ca bs cc]) (val := fun x => .int .i64 x) rfl Tryd.call24 trv1 rfl rfl (fun w M1 hs hk => src_next bks3 ca bs cc (2 : Int) w M1 hs (hk _ kcode) hok) ?_
 intro x1 hx1
 replace hx1 : 0 ≤ x1 ∧ x1 < (2 : Int) := by omega
 try dsimp only at hx1
 refine rPieces (L' := [srcP bks3 ca bs cc, blk bka2 31 [.int .i64 0, .slice none 0 0], blk bka1 29 [.slice none 0 0, .slice none 0 0, .slice none 0 0]]) (fun _ h => h) ?_
 refine callMK (α := Option Addr × Nat × Nat × (Nat → Hd) × List Nd × Option Addr × Nat × Nat × (Nat → Hd) × List (List Int) × Option Addr × Nat × Nat × (Nat → Hd) × List (List Int) × Int × Option Addr × Nat × Nat × (Nat → Hd) × List (List Int)) (Lf := [srcP bks3 ca bs cc]) (Lr := [blk bka2 31 [.int .i64 0, .slice none 0 0], blk bka1 29 [.slice none 0 0, .slice none 0 0, .slice none 0 0]]) (good := fun x => (x.2.1 ≤ 250 ∧ ((1 ≤ x.2.2.2.2.2.2.1 ∧ x.2.2.2.2.2.2.1 ≤ 4) ∧ x.2.2.2.2.2.2.2.2.2.2.2.1 ≤ 4)) ∧ ((-1 ≤ x.2.2.2.2.2.2.2.2.2.2.2.2.2.2.2.1 ∧ x.2.2.2.2.2.2.2.2.2.2.2.2.2.2.2.1 ≤ 2) ∧ x.2.2.2.2.2.2.2.2.2.2.2.2.2.2.2.2.2.1 ≤ 361)) (φs := fun x => [srcP bks3 ca bs cc, RdR ndK x.1 x.2.1 x.2.2.2.1 x.2.2.2.2.1, RdR maK x.2.2.2.2.2.1 x.2.2.2.2.2.2.1 x.2.2.2.2.2.2.2.2.1 x.2.2.2.2.2.2.2.2.2.1, RdR maK x.2.2.2.2.2.2.2.2.2.2.1 x.2.2.2.2.2.2.2.2.2.2.2.1 x.2.2.2.2.2.2.2.2.2.2.2.2.2.1 x.2.2.2.2.2.2.2.2.2.2.2.2.2.2.1, OwnR maK 50 2 x.2.2.2.2.2.2.2.2.2.2.2.2.2.2.2.2.1 x.2.2.2.2.2.2.2.2.2.2.2.2.2.2.2.2.2.1 x.2.2.2.2.2.2.2.2.2.2.2.2.2.2.2.2.2.2.1 x.2.2.2.2.2.2.2.2.2.2.2.2.2.2.2.2.2.2.2.1 x.2.2.2.2.2.2.2.2.2.2.2.2.2.2.2.2.2.2.2.2]) (val := fun x => .tuple #[.agg #[.slice x.1 x.2.1 x.2.2.1, .slice x.2.2.2.2.2.1 x.2.2.2.2.2.2.1 x.2.2.2.2.2.2.2.1, .slice x.2.2.2.2.2.2.2.2.2.2.1 x.2.2.2.2.2.2.2.2.2.2.2.1 x.2.2.2.2.2.2.2.2.2.2.2.2.1], .agg #[.int .i64 x.2.2.2.2.2.2.2.2.2.2.2.2.2.2.2.1, .slice x.2.2.2.2.2.2.2.2.2.2.2.2.2.2.2.2.1 x.2.2.2.2.2.2.2.2.2.2.2.2.2.2.2.2.2.1 x.2.2.2.2.2.2.2.2.2.2.2.2.2.2.2.2.2.2.1]]) rfl Tryd.call25 trv1 rfl rfl (fun w M1 hs hk => spec_l22Draw_c bks3 ca bs cc x1 w M1 hs (hk _ kcode) hok (by omega)) ?_
 rintro ⟨ay2, ny2, cy2, Hy2, y2, ayw2, nyw2, cyw2, Hyw2, yw2, ayv2, nyv2, cyv2, Hyv2, yv2, pl2, ayp2, nyp2, cyp2, Hyp2, yp2⟩ hr2
 try dsimp only at hr2
 refine rPieces (L' := [srcP bks3 ca bs cc, RdR ndK ay2 ny2 Hy2 y2, RdR maK ayw2 nyw2 Hyw2 yw2, RdR maK ayv2 nyv2 Hyv2 yv2, OwnR maK 50 2 ayp2 nyp2 cyp2 Hyp2 yp2, blk bka2 31 [.int .i64 0, .slice none 0 0], blk bka1 29 [.slice none 0 0, .slice none 0 0, .slice none 0 0]]) (fun _ h => h) ?_
 refine rKnow (fun w hs => (show RdR ndK ay2 ny2 Hy2 y2 w from hs.at_ 1 rfl).1) (fun lenn4 => ?_)
 refine rKnow (fun w hs => (show RdR maK ayw2 nyw2 Hyw2 yw2 w from hs.at_ 2 rfl).1) (fun lenn5 => ?_)
 refine rKnow (fun w hs => (show RdR maK ayv2 nyv2 Hyv2 yv2 w from hs.at_ 3 rfl).1) (fun lenn6 => ?_)
 refine rKnow (fun w hs => (show OwnR maK 50 2 ayp2 nyp2 cyp2 Hyp2 yp2 w from hs.at_ 4 rfl).1) (fun lenn7 => ?_)
 refine ext rfl rfl rfl rfl ?_
 refine ext rfl rfl rfl rfl ?_
 refine stAl (vs := [.slice ay2 ny2 cy2, .slice ayw2 nyw2 cyw2, .slice ayv2 nyv2 cyv2]) 6 rfl Tryd.sizeOf29 trv rfl rfl rfl rfl rfl (by simp [Value.oneCell']) rfl ?_
 refine stAl (vs := [.int .i64 pl2, .slice ayp2 nyp2 cyp2]) 5 rfl Tryd.sizeOf31 trv rfl rfl rfl rfl rfl (by simp [Value.oneCell']) rfl ?_
 refine rNil ?_
 refine qSeq rfl ?_
 refine hRet ?_
 exact fun w hs => ⟨[_, _], ⟨⟨_, rfl, run_load_agg Tryd.isAgg29 Tryd.sizeOf29 rfl (cBs 6 rfl w hs)⟩, ⟨⟨_, rfl, run_load_agg Tryd.isAgg31 Tryd.sizeOf31 rfl (cBs 5 rfl w hs)⟩, trivial⟩⟩, ⟨(ay2, ny2, cy2, Hy2, y2, ayw2, nyw2, cyw2, Hyw2, yw2, ayv2, nyv2, cyv2, Hyv2, yv2, pl2, ayp2, nyp2, cyp2, Hyp2, yp2), rfl, ⟨by dsimp only; omega, ⟨⟨by dsimp only; omega, by dsimp only; omega⟩, by dsimp only; omega⟩, ⟨⟨by dsimp only; omega, by dsimp only; omega⟩, by dsimp only; omega⟩⟩, hs.pick [1, 1, 1, 1]⟩⟩
end Go.Proofs.YtjengglpbdgmnaaDoor
/- Calls of functions that are handed in; plain facts on strategies that are pure. No condition. -/
namespace Go.Proofs.YtjengglpbdgmnaaDoor.V
open Go Go.RowKit
set_option linter.unusedVariables false
set_option linter.unusedSimpArgs false
section
variable {P : Program} {n : Nat} {w0 : World} {M : Nat → Prop} {L L' : List (World → Prop)} {σ : Fr} {K K' : Ko} {c x y : Code} {ops : Array Oper} {S : World → Prop} {r : Sch} {i : Nat}
variable {d : Nat} {t : TypeId} {p : String} {af : Array Edge} {g : Option (Nat × Bool)}
end
end Go.Proofs.YtjengglpbdgmnaaDoor.V
namespace Go.Proofs.YtjengglpbdgmnaaDoor.Math
open Go.Proofs.YtjengglpbdgmnaaDoor.V
def low (r : List Int) : Bool := decide (r.getD (best r) 0 < 60)
def hasLow (ps : List (List Int)) : Bool := ps.any low
def hasI (z : List Int) (x : Int) : Bool := decide (x ∈ z)
def pureB (ps : List (List Int)) : Bool := ps.all fun r => hasI r 60
def isPureAt (z : List Nd) (ws vs : List (List Int)) (pl : Int) (ps : List (List Int)) : Bool × Int := if isStrat z ws vs pl ps = true then (pureB ps, 0) else (false, 1)
end Go.Proofs.YtjengglpbdgmnaaDoor.Math
/- Plain facts on ways in trees. No condition. -/
namespace Go.Proofs.YtjengglpbdgmnaaDoor.Math
open Go.Proofs.YtjengglpbdgmnaaDoor.V
set_option linter.unusedVariables false
set_option linter.unusedSimpArgs false
/-- The places that lead to a node. -/
inductive Way (z : List Nd) : Int → List Int → Prop
  | root : Way z 0 []
  | step {i : Nat} {n : Int} {l : List Int} : (i : Int) < n → i < z.length → n ∈ (z.getD i dN).ch → Way z (i : Int) l → Way z n (l ++ [indexOf (z.getD i dN).ch n])
noncomputable def wayOf (z : List Nd) (n : Int) : List Int := open Classical in if h : ∃ l, Way z n l then Classical.choose h else []
theorem kids_mem {z : List Nd} {i : Nat} {n : Int} (hi : i < z.length) (h : n ∈ (z.getD i dN).ch) : n ∈ kids z := by
  unfold kids; exact List.mem_flatMap.2 ⟨_, getD_mem dN hi, h⟩
theorem kids_app (a b : List Nd) : kids (a ++ b) = kids a ++ kids b := by unfold kids; exact List.flatMap_append
/-- Only one node leads to a node. -/
theorem one_parent {z : List Nd} (h1 : oneEach z = true) {n : Int} (hn : 1 ≤ n ∧ n < z.length) {i j : Nat} (hi : i < z.length) (hj : j < z.length) (h : n ∈ (z.getD i dN).ch) (h' : n ∈ (z.getD j dN).ch) : i = j := by
  have hc := oneEach_iff.1 h1 n.toNat (by omega) (by omega)
  rw [show ((n.toNat : Nat) : Int) = n from by omega] at hc
  have key : ∀ a b : Nat, a < b → b < z.length → n ∈ (z.getD a dN).ch → n ∈ (z.getD b dN).ch → False := by
    intro a b hab hb ha hb'
    have hs : kids z = kids (z.take b) ++ kids (z.drop b) := by rw [← kids_app, List.take_append_drop]
    have m1 : n ∈ kids (z.take b) := by
      refine kids_mem (i := a) (by rw [List.length_take]; omega) ?_
      have : (z.take b).getD a dN = z.getD a dN := by simp [List.getD, List.getElem?_take, hab]
      rw [this]; exact ha
    have m2 : n ∈ kids (z.drop b) := by
      refine kids_mem (i := 0) (by rw [List.length_drop]; omega) ?_
      have : (z.drop b).getD 0 dN = z.getD b dN := by simp [List.getD, List.getElem?_drop]
      rw [this]; exact hb'
    have c1 := List.count_pos_iff.2 m1
    have c2 := List.count_pos_iff.2 m2
    rw [hs, List.count_append] at hc
    omega
  rcases Nat.lt_trichotomy i j with hlt | he | hlt
  · exact (key i j hlt hj h h').elim
  · exact he
  · exact (key j i hlt hi h' h).elim
theorem Way.len {z : List Nd} {n : Int} {l : List Int} (h : Way z n l) : 0 ≤ n ∧ (l.length : Int) ≤ n := by
  induction h with
  | root => exact ⟨Int.le_refl _, Int.le_refl _⟩
  | step h1 h2 h3 h4 ih => rw [List.length_append, List.length_singleton]; omega
theorem Way.one {z : List Nd} (h1 : oneEach z = true) {n : Int} {l : List Int} (h : Way z n l) : n < z.length → ∀ l', Way z n l' → l = l' := by
  induction h with
  | root =>
    intro _ l' h'
    cases h' with
    | root => rfl
    | step ha hb hc hd => omega
  | @step i n l ha hb hc hd ih =>
    intro hn l' h'
    cases h' with
    | root => omega
    | @step j _ l2 ha' hb' hc' hd' =>
      have : i = j := one_parent h1 ⟨by omega, hn⟩ hb hb' hc hc'
      subst this
      rw [ih (by omega) l2 hd']
theorem indexOf_nmem {l : List Int} {v : Int} (h : ¬ 0 ≤ indexOf l v) : ¬ v ∈ l := by
  intro hm
  have hex : ∃ i : Nat, i < l.length ∧ l.getD i 0 = v := by
    obtain ⟨i, hi, he⟩ := List.getElem_of_mem hm
    exact ⟨i, hi, by simp [List.getD, List.getElem?_eq_getElem hi, he]⟩
  have : ∀ k : Nat, ∀ i, i = k → i < l.length → l.getD i 0 = v → 0 ≤ indexOf l v := by
    intro k
    induction k using Nat.strongRecOn with
    | _ k ih =>
      intro i hik hi hv
      subst hik
      by_cases hf : ∀ j, j < i → l.getD j 0 ≠ v
      · rw [indexOf_yes hi hv hf]; omega
      · obtain ⟨j, hf⟩ := Classical.not_forall.1 hf
        obtain ⟨hj, hjv⟩ := Classical.not_imp.1 hf
        replace hjv := Classical.not_not.1 hjv
        exact ih j hj j rfl (by omega) hjv
  obtain ⟨i, hi, hv⟩ := hex
  exact h (this i i rfl hi hv)
theorem indexOf_le {l : List Int} {v : Int} : -1 ≤ indexOf l v ∧ indexOf l v < l.length := by
  by_cases h : 0 ≤ indexOf l v
  · unfold indexOf at h ⊢
    split
    · rename_i hx; have := (Classical.choose_spec hx).1; omega
    · omega
  · have : indexOf l v = -1 := by
      refine indexOf_no fun j hj e => indexOf_nmem h (by rw [← e]; exact getD_mem 0 hj)
    omega
noncomputable def wayAt (z : List Nd) (n : Int) : List Int × Int := if isTree z = true then if 0 ≤ n ∧ n ≤ (z.length : Int) - 1 then (wayOf z n, 0) else ([], 2) else ([], 1)
/-- A list turned around up to a place. -/
def RevTo (z c : List Int) (i : Nat) : Prop := c.length = z.length ∧ ∀ k, k < z.length → c.getD k 0 = if k < i ∨ z.length ≤ k + i then z.getD (z.length - 1 - k) 0 else z.getD k 0
end Go.Proofs.YtjengglpbdgmnaaDoor.Math
/- Plain facts on values of games. No condition. -/
namespace Go.Proofs.YtjengglpbdgmnaaDoor.Math
open Go.Proofs.YtjengglpbdgmnaaDoor.V
set_option linter.unusedVariables false
set_option linter.unusedSimpArgs false
/-- How many nodes of a player stand ahead of a node. -/
def rank (z : List Nd) (p : Int) (i : Nat) : Nat := (nodesTo z p i).length
/-- The first set of each node of a player. -/
def firstTo (z : List Nd) (k : Nat) (p : Int) : Nat → List Int
  | 0 => List.replicate z.length 0
  | i + 1 => (firstTo z k p i).set ((nodesOf z p).getD i 0).toNat ((i : Int) * (k : Int))
def firstOf (z : List Nd) (k : Nat) (p : Int) : List Int := firstTo z k p (nodesOf z p).length
/-- The parent of each node. -/
def putAll (P : List Int) (v : Int) (cs : List Int) : List Int := cs.foldl (fun P c => P.set c.toNat v) P
def parTo (z : List Nd) : Nat → List Int
  | 0 => List.replicate z.length 0
  | i + 1 => putAll (parTo z i) (i : Int) (z.getD i dN).ch
def parOf (z : List Nd) : List Int := parTo z z.length
/-- The parts at a decision. -/
def choice (z : List Nd) (k : Nat) (ps qs : List (List Int)) (v a b : Int) : List Int :=
  if (z.getD v.toNat dN).pl = 0 then ps.getD (rank z 0 v.toNat * k + a.toNat) [] else qs.getD (rank z 1 v.toNat * k + b.toNat) []
/-- Both strategies. -/
structure Pair (z : List Nd) (ws vs ps qs : List (List Int)) : Prop where
  g : isGame z ws vs = true
  p : partsB z (sets z ws.length 0) ps = true
  q : partsB z (sets z ws.length 1) qs = true
def isPair (z : List Nd) (ws vs : List (List Int)) (pl : Int) (ps : List (List Int)) (ql : Int) (qs : List (List Int)) : Bool := isGame z ws vs && (decide (pl = 0) && (decide (ql = 1) && (partsB z (sets z ws.length 0) ps && partsB z (sets z ws.length 1) qs)))
section
variable {z : List Nd} {ws vs ps qs : List (List Int)} {k : Nat}
/-- The value of a node. -/
def valF (z : List Nd) (vs : List (List Int)) (k : Nat) (ps qs : List (List Int)) (a b : Int) : Nat → Int → Int → Int
  | 0, _, _ => 0
  | f + 1, v, left => if (z.getD v.toNat dN).pl = 2 then payoffX (z.getD v.toNat dN) ((vs.getD a.toNat []).getD b.toNat 0) * p60 left.toNat
    else (mapR (fun i => (choice z k ps qs v a b).getD i 0 * valF z vs k ps qs a b f ((z.getD v.toNat dN).ch.getD i 0) (left - 1)) (z.getD v.toNat dN).ch.length).sum
def value (z : List Nd) (vs : List (List Int)) (k : Nat) (ps qs : List (List Int)) (a b v left : Int) : Int := valF z vs k ps qs a b z.length v left
def valTo (z : List Nd) (vs : List (List Int)) (k : Nat) (ps qs : List (List Int)) (a b v left : Int) (n : Nat) : Int := (mapR (fun i => (choice z k ps qs v a b).getD i 0 * value z vs k ps qs a b ((z.getD v.toNat dN).ch.getD i 0) (left - 1)) n).sum
/-- The number of a game. -/
def dealN (z : List Nd) (ws vs : List (List Int)) (k : Nat) (ps qs : List (List Int)) (a b : Nat) : Int := (ws.getD a []).getD b 0 * value z vs k ps qs (a : Int) (b : Int) 0 (depth z 0)
def numRow (z : List Nd) (ws vs : List (List Int)) (k : Nat) (ps qs : List (List Int)) (a m : Nat) : Int := (mapR (fun b => dealN z ws vs k ps qs a b) m).sum
def numTo (z : List Nd) (ws vs : List (List Int)) (k : Nat) (ps qs : List (List Int)) (i : Nat) : Int := (mapR (fun a => numRow z ws vs k ps qs a k) i).sum
/-- What a way is reached with. -/
def reW (z : List Nd) (k : Nat) (ps qs : List (List Int)) (a b : Int) : List Int → Int → Int → Int
  | [], _, p => p
  | w :: l, v, p => reW z k ps qs a b l ((z.getD v.toNat dN).ch.getD w.toNat 0) (p * (choice z k ps qs v a b).getD w.toNat 0)
/-- Places that lead from a node to a node. -/
def Leads (z : List Nd) : List Int → Int → Int → Prop
  | [], v, n => v = n
  | w :: l, v, n => ((0 ≤ v ∧ v < z.length) ∧ (0 ≤ w ∧ w < (z.getD v.toNat dN).ch.length)) ∧ Leads z l ((z.getD v.toNat dN).ch.getD w.toNat 0) n
theorem Leads.app {n m w : Int} (hn : 0 ≤ n ∧ n < z.length) (hw : 0 ≤ w ∧ w < (z.getD n.toNat dN).ch.length) (hm : (z.getD n.toNat dN).ch.getD w.toNat 0 = m) : ∀ {l : List Int} {v : Int}, Leads z l v n → Leads z (l ++ [w]) v m
  | [], v, h => by cases h; exact ⟨⟨hn, hw⟩, hm⟩
  | x :: l, v, h => ⟨h.1, Leads.app hn hw hm h.2⟩
theorem indexOf_at {l : List Int} {v : Int} (h : v ∈ l) : (0 ≤ indexOf l v ∧ indexOf l v < l.length) ∧ l.getD (indexOf l v).toNat 0 = v := by
  have h0 : 0 ≤ indexOf l v := by
    rcases Int.lt_or_le (indexOf l v) 0 with h1 | h1
    · exact absurd h (indexOf_nmem (by omega))
    · exact h1
  have hle := indexOf_le (l := l) (v := v)
  refine ⟨⟨h0, hle.2⟩, ?_⟩
  obtain ⟨j, hj, hv⟩ := mem_getD 0 h
  have key : ∀ n j, j = n → j < l.length → l.getD j 0 = v → l.getD (indexOf l v).toNat 0 = v := by
    intro n
    induction n using Nat.strongRecOn with
    | _ n ih =>
      intro j hjn hj hv
      by_cases hf : ∀ i, i < j → l.getD i 0 ≠ v
      · rw [indexOf_yes hj hv hf, Int.toNat_natCast]; exact hv
      · obtain ⟨i, hf⟩ := Classical.not_forall.1 hf
        obtain ⟨hi, hiv⟩ := Classical.not_imp.1 hf
        exact ih i (by omega) i rfl (by omega) (Classical.not_not.1 hiv)
  exact key j j rfl hj hv
theorem Way.leads (hok : allOk z = true) {n : Int} {l : List Int} (h : Way z n l) : n < z.length → Leads z l 0 n := by
  induction h with
  | root => intro _; rfl
  | @step i n l ha hb hc hd ih =>
    intro hn
    have hx := indexOf_at hc
    refine Leads.app (n := (i : Int)) (by omega) ?_ ?_ (ih (by omega))
    · rw [Int.toNat_natCast]; exact hx.1
    · rw [Int.toNat_natCast]; exact hx.2
/-- One deal, and all, that reach a node. -/
noncomputable def reN (z : List Nd) (ws : List (List Int)) (k : Nat) (ps qs : List (List Int)) (n : Int) (a b : Nat) : Int := reW z k ps qs (a : Int) (b : Int) (wayOf z n) 0 ((ws.getD a []).getD b 0) * p60 (depth z 0 - ((wayOf z n).length : Int)).toNat
noncomputable def reRow (z : List Nd) (ws : List (List Int)) (k : Nat) (ps qs : List (List Int)) (n : Int) (a m : Nat) : Int := (mapR (fun b => reN z ws k ps qs n a b) m).sum
noncomputable def reTo (z : List Nd) (ws : List (List Int)) (k : Nat) (ps qs : List (List Int)) (n : Int) (i : Nat) : Int := (mapR (fun a => reRow z ws k ps qs n a k) i).sum
end
end Go.Proofs.YtjengglpbdgmnaaDoor.Math
/- Plain facts on strategies that are read, and on ways that are walked. No condition. -/
namespace Go.Proofs.YtjengglpbdgmnaaDoor.Math
open Go Go.Proofs.YtjengglpbdgmnaaDoor.V
set_option linter.unusedVariables false
set_option linter.unusedSimpArgs false
theorem two {w0 : World} {M : Nat → Prop} {L : List (World → Prop)} {φ ψ χ : World → Prop} (h : Kn w0 M L φ) (h' : Kn w0 M L ψ) (hi : ∀ w, φ w → ψ w → χ w) : Kn w0 M L χ := fun w hs => hi w (h w hs) (h' w hs)
def chA (z : List Nd) (k : Nat) (Hp Hq : Nat → Hd) (v a b : Int) : Hd := if (z.getD v.toNat dN).pl = 0 then Hp (rank z 0 v.toNat * k + a.toNat) else Hq (rank z 1 v.toNat * k + b.toNat)
section
variable {z : List Nd} {ws vs ps qs : List (List Int)} {k : Nat} {Hp Hq : Nat → Hd} {v a b : Int}
end
/-- The answers. -/
noncomputable def reachAt (z : List Nd) (ws vs : List (List Int)) (pl : Int) (ps : List (List Int)) (ql : Int) (qs : List (List Int)) (n : Int) : Int × Int :=
 if isPair z ws vs pl ps ql qs = true then if 0 ≤ n ∧ n ≤ (z.length : Int) - 1 then (reTo z ws ws.length ps qs n ws.length, 0) else (0, 2) else (0, 1)
section
variable {z : List Nd} {ws vs ps qs : List (List Int)} {pl ql n : Int} {k m : Nat}
/-- Showdowns. -/
noncomputable def showTo (z : List Nd) (ws : List (List Int)) (k : Nat) (ps qs : List (List Int)) (i : Nat) : Int := (mapR (fun i => if (z.getD ((nodesOf z 2).getD i 0).toNat dN).fo < 0 then reTo z ws k ps qs ((nodesOf z 2).getD i 0) k else 0) i).sum
noncomputable def showAt (z : List Nd) (ws vs : List (List Int)) (pl : Int) (ps : List (List Int)) (ql : Int) (qs : List (List Int)) : Int × Int :=
 if isPair z ws vs pl ps ql qs = true then (showTo z ws ws.length ps qs (nodesOf z 2).length, 0) else (0, 1)
end
end Go.Proofs.YtjengglpbdgmnaaDoor.Math
/- Plain arithmetic on numbers, ratios and odds. No condition. -/
set_option linter.unusedVariables false
namespace Go.Proofs.YtjengglpbdgmnaaDoor.Math
theorem mod_lt {p q : Int} (hp : 0 ≤ p) (hq : 0 < q) : (p % q).toNat < q.toNat := by
 have h1 := Int.emod_nonneg p (show q ≠ 0 by omega)
 have h2 := Int.emod_lt_of_pos p hq
 omega
def gcdI (a b : Int) : Int := (Nat.gcd a.toNat b.toNat : Int)
/-- A valid ratio. -/
def isRatio (n d : Int) : Bool := decide (-1000000000 ≤ n ∧ n ≤ 1000000000) && (decide (1 ≤ d ∧ d ≤ 1000000000) && decide (gcdI n.natAbs d = 1))
/-- The ratio of two integers, the second at least 1, and a code. -/
def reduced (num den : Int) : (Int × Int) × Int :=
 if isRatio (num.tdiv (gcdI num.natAbs den)) (den / gcdI num.natAbs den) then ((num.tdiv (gcdI num.natAbs den), den / gcdI num.natAbs den), 0) else ((0, 0), 3)
def addR (a b : Int × Int) : (Int × Int) × Int := if isRatio a.1 a.2 = true ∧ isRatio b.1 b.2 = true then reduced (a.1 * b.2 + b.1 * a.2) (a.2 * b.2) else ((0, 0), 1)
def subR (a b : Int × Int) : (Int × Int) × Int := if isRatio a.1 a.2 = true ∧ isRatio b.1 b.2 = true then reduced (a.1 * b.2 - b.1 * a.2) (a.2 * b.2) else ((0, 0), 1)
def mulR (a b : Int × Int) : (Int × Int) × Int := if isRatio a.1 a.2 = true ∧ isRatio b.1 b.2 = true then reduced (a.1 * b.1) (a.2 * b.2) else ((0, 0), 1)
/-- A share. -/
def isShare (n d : Int) : Bool := isRatio n d && decide (0 ≤ n ∧ n ≤ d)
/-- A quotient of numbers of chips, and a code. -/
def quot (num den : Int) : (Int × Int) × Int := if den = 0 then ((0, 0), 5) else reduced num den
def quotR (a b num den : Int) : (Int × Int) × Int := if (0 ≤ a ∧ a ≤ 1000000) ∧ (0 ≤ b ∧ b ≤ 1000000) then quot num den else ((0, 0), 2)
/-- Several operations, of which the first error is kept. -/
def stp (f : Int × Int → Int × Int → (Int × Int) × Int) (c : Int) (a b : Int × Int) : (Int × Int) × Int := if c ≠ 0 then ((0, 1), c) else f a b
def fin (r : (Int × Int) × Int) : (Int × Int) × Int := if r.2 ≠ 0 then ((0, 0), r.2) else (r.1, 0)
def bnd (r : (Int × Int) × Int) (f : Int × Int → (Int × Int) × Int) : (Int × Int) × Int := if r.2 ≠ 0 then ((0, 0), r.2) else f r.1
def callW (pot call : Int) (e : Int × Int) : (Int × Int) × Int := bnd (mulR e (pot + call, 1)) fun x => subR x (call, 1)
def callS (pot call : Int) (e : Int × Int) : (Int × Int) × Int :=
 fin (stp addR (stp mulR 0 e (pot + call, 1)).2 (stp mulR 0 e (pot + call, 1)).1 (-call, 1))
/-- What a call wins, and a code. -/
def callV (pot call : Int) (e : Int × Int) : (Int × Int) × Int :=
 if isShare e.1 e.2 = true then (if (0 ≤ pot ∧ pot ≤ 1000000) ∧ (0 ≤ call ∧ call ≤ 1000000) then callW pot call e else ((0, 0), 2)) else ((0, 0), 1)
def betW (pot bet : Int) (f e : Int × Int) : (Int × Int) × Int :=
 bnd (mulR e (pot + 2 * bet, 1)) fun won => bnd (subR won (bet, 1)) fun called => bnd (subR (1, 1) f) fun calls => bnd (mulR calls called) fun first => bnd (mulR f (pot, 1)) fun second => addR first second
def betS (pot bet : Int) (f e : Int × Int) : (Int × Int) × Int :=
 let won := stp mulR 0 e (pot + 2 * bet, 1)
 let called := stp addR won.2 won.1 (-bet, 1)
 let stay := stp addR called.2 (1, 1) (-f.1, f.2)
 let part := stp mulR stay.2 stay.1 called.1
 let wn := stp mulR part.2 f (pot, 1)
 fin (stp addR wn.2 wn.1 part.1)
/-- What a bet wins, and a code. -/
def betV (pot bet : Int) (f e : Int × Int) : (Int × Int) × Int :=
 if isShare f.1 f.2 = true ∧ isShare e.1 e.2 = true then (if (0 ≤ pot ∧ pot ≤ 1000000) ∧ (0 ≤ bet ∧ bet ≤ 1000000) then betW pot bet f e else ((0, 0), 2)) else ((0, 0), 1)
/-- What is left of a stack behind some streets. -/
def left : Nat → Int → Int → Int → Int
 | 0, _, s, _ => s
 | k + 1, p, s, b => left k (p + 2 * min s ((b * p + 99) / 100)) (s - min s ((b * p + 99) / 100)) b
def inGeo (pot stack streets : Int) : Prop := (1 ≤ pot ∧ pot ≤ 10000) ∧ (1 ≤ stack ∧ stack ≤ 10000) ∧ (1 ≤ streets ∧ streets ≤ 4)
/-- The least bet by which the whole stack goes in. -/
def isGeo (pot stack streets n : Int) : Prop := 0 ≤ n ∧ n ≤ 1000000 ∧ left streets.toNat pot stack n = 0 ∧ ∀ b, 0 ≤ b → b < n → left streets.toNat pot stack b ≠ 0
def Geo (pot stack streets : Int) (x : Int × Int) : Prop := (inGeo pot stack streets ∧ isGeo pot stack streets x.1 ∧ x.2 = 0) ∨ (¬ inGeo pot stack streets ∧ x = (0, 2))
end Go.Proofs.YtjengglpbdgmnaaDoor.Math
/- Plain facts on the answers of values and mixed strategies. No condition. -/
namespace Go.Proofs.YtjengglpbdgmnaaDoor.Math
open Go Go.Proofs.YtjengglpbdgmnaaDoor.V
set_option linter.unusedVariables false
set_option linter.unusedSimpArgs false
def dealAt (z : List Nd) (ws vs : List (List Int)) (pl : Int) (ps : List (List Int)) (ql : Int) (qs : List (List Int)) (a b : Int) : Int × Int :=
 if isPair z ws vs pl ps ql qs = true then if (0 ≤ a ∧ a ≤ (ws.length : Int) - 1) ∧ (0 ≤ b ∧ b ≤ (ws.length : Int) - 1) then (value z vs ws.length ps qs a b 0 (depth z 0), 0) else (0, 2) else (0, 1)
def gameAt (z : List Nd) (ws vs : List (List Int)) (pl : Int) (ps : List (List Int)) (ql : Int) (qs : List (List Int)) : Int × Int × Int :=
 if isPair z ws vs pl ps ql qs = true then (numTo z ws vs ws.length ps qs ws.length, unit z ws, 0) else (0, 0, 1)
noncomputable def endsTo (z : List Nd) (ws : List (List Int)) (k : Nat) (ps qs : List (List Int)) (i : Nat) : List Int := mapR (fun i => reTo z ws k ps qs ((nodesOf z 2).getD i 0) k) i
noncomputable def endsAt (z : List Nd) (ws vs : List (List Int)) (pl : Int) (ps : List (List Int)) (ql : Int) (qs : List (List Int)) : List Int × Int :=
 if isPair z ws vs pl ps ql qs = true then (endsTo z ws ws.length ps qs (nodesOf z 2).length, 0) else ([], 1)
def ratioAt (z : List Nd) (ws vs : List (List Int)) (pl : Int) (ps : List (List Int)) (ql : Int) (qs : List (List Int)) : (Int × Int) × Int :=
 if isPair z ws vs pl ps ql qs = true then reduced (numTo z ws vs ws.length ps qs ws.length) (unit z ws) else ((0, 0), 1)
section
variable {z : List Nd} {ws vs ps qs : List (List Int)} {pl ql a b n : Int} {k m : Nat}
/-- Mixed strategies. -/
def mixRow (n : Int) (r s : List Int) (j : Nat) : List Int := mapR (fun j => n * r.getD j 0 + (60 - n) * s.getD j 0) j
noncomputable def mixTo (n : Int) (ps qs : List (List Int)) (i : Nat) : List (List Int) := mapR (fun i => partsOf (mixRow n (ps.getD i []) (qs.getD i []) (ps.getD i []).length)) i
theorem mixRow_len (n : Int) (r s : List Int) (j : Nat) : (mixRow n r s j).length = j := mapR_len _ _
theorem mixRow_get {r s : List Int} {j m : Nat} (h : j < m) : (mixRow n r s m).getD j 0 = n * r.getD j 0 + (60 - n) * s.getD j 0 := mapR_get _ 0 h
theorem mixRow_s (n : Int) (r s : List Int) (j : Nat) : mixRow n r s j ++ [n * r.getD j 0 + (60 - n) * s.getD j 0] = mixRow n r s (j + 1) := mapR_snoc (fun j => n * r.getD j 0 + (60 - n) * s.getD j 0) j
theorem mixTo_s {i j : Nat} (hj : j = (ps.getD i []).length) : mixTo n ps qs i ++ [partsOf (mixRow n (ps.getD i []) (qs.getD i []) j)] = mixTo n ps qs (i + 1) := by subst hj; exact mapR_snoc (fun i => partsOf (mixRow n (ps.getD i []) (qs.getD i []) (ps.getD i []).length)) i
theorem mix_bd {r s : List Int} {j : Nat} (hn : 0 ≤ n ∧ n ≤ 60) (hr : ∀ x ∈ r, 0 ≤ x ∧ x ≤ 60) (hs : ∀ x ∈ s, 0 ≤ x ∧ x ≤ 60) (h1 : j < r.length) (h2 : j < s.length) : (0 ≤ n * r.getD j 0 ∧ n * r.getD j 0 ≤ 3600) ∧ (0 ≤ (60 - n) * s.getD j 0 ∧ (60 - n) * s.getD j 0 ≤ 3600) := by
 have a := hr _ (getD_mem 0 h1)
 have b := hs _ (getD_mem 0 h2)
 exact ⟨mul_bd hn.1 hn.2 a.1 a.2, mul_bd (A := 60) (by omega) (by omega) b.1 b.2⟩
theorem mixRow_bd {r s : List Int} {m : Nat} (hn : 0 ≤ n ∧ n ≤ 60) (hr : ∀ x ∈ r, 0 ≤ x ∧ x ≤ 60) (hs : ∀ x ∈ s, 0 ≤ x ∧ x ≤ 60) (h1 : m ≤ r.length) (h2 : m ≤ s.length) : ∀ x ∈ mixRow n r s m, 0 ≤ x ∧ x ≤ 1000000000 := fun x hx => by
 obtain ⟨j, hj, rfl⟩ := mapR_mem hx
 have := mix_bd hn hr hs (show j < r.length by omega) (show j < s.length by omega)
 omega
/-- The rows of two strategies of a player. -/
theorem mix_rows (hg : isGame z ws vs = true) (hp : 0 ≤ pl ∧ pl ≤ 1) (h1 : partsB z (sets z k pl) ps = true) (h2 : partsB z (sets z k pl) qs = true) {i : Nat} (hi : i < ps.length) :
  i < qs.length ∧ (ps.getD i []).length = (qs.getD i []).length ∧ (1 ≤ (ps.getD i []).length ∧ (ps.getD i []).length ≤ 4) ∧ (∀ x ∈ ps.getD i [], 0 ≤ x ∧ x ≤ 60) ∧ (∀ x ∈ qs.getD i [], 0 ≤ x ∧ x ≤ 60) := by
 have l1 := parts_len h1
 have l2 := parts_len h2
 have hs := sets_at (z := z) (k := k) (p := pl) (i := i) (by omega)
 have w1 := wide_le hg hs.2.1
 have w2 := wide_pos hg hs.2.1 hs.2.2 hp.2
 obtain ⟨a1, _⟩ := part_row (parts_at h1 (i := i) (by omega))
 obtain ⟨b1, _⟩ := part_row (parts_at h2 (i := i) (by omega))
 have a2 := row_len a1
 have b2 := row_len b1
 exact ⟨by omega, by omega, ⟨by omega, by omega⟩, row_in a1, row_in b1⟩
end
noncomputable def mixAt (z : List Nd) (ws vs : List (List Int)) (pl : Int) (ps : List (List Int)) (ql : Int) (qs : List (List Int)) (n : Int) : (Int × List (List Int)) × Int :=
 if isStrat z ws vs pl ps = true ∧ isStrat z ws vs ql qs = true then if 0 ≤ n ∧ n ≤ 60 then if pl = ql then ((pl, mixTo n ps qs ps.length), 0) else ((0, []), 5) else ((0, []), 2) else ((0, []), 1)
section
variable {z : List Nd} {ws vs ps qs : List (List Int)} {pl ql n : Int} {k m : Nat}
theorem mixAt_1 (h : isStrat z ws vs pl ps = false ∨ isStrat z ws vs ql qs = false) : mixAt z ws vs pl ps ql qs n = ((0, []), 1) := if_neg fun h' => by rcases h with h | h; rw [h] at h'; cases h'.1; rw [h] at h'; cases h'.2
theorem mixAt_2 (h1 : isStrat z ws vs pl ps = true) (h2 : isStrat z ws vs ql qs = true) (hn : ¬ (0 ≤ n ∧ n ≤ 60)) : mixAt z ws vs pl ps ql qs n = ((0, []), 2) := by unfold mixAt; rw [if_pos ⟨h1, h2⟩, if_neg hn]
theorem mixAt_5 (h1 : isStrat z ws vs pl ps = true) (h2 : isStrat z ws vs ql qs = true) (hn : 0 ≤ n ∧ n ≤ 60) (hq : pl ≠ ql) : mixAt z ws vs pl ps ql qs n = ((0, []), 5) := by unfold mixAt; rw [if_pos ⟨h1, h2⟩, if_pos hn, if_neg hq]
theorem mixAt_0 (h1 : isStrat z ws vs pl ps = true) (h2 : isStrat z ws vs ql qs = true) (hn : 0 ≤ n ∧ n ≤ 60) (hq : pl = ql) {i : Nat} (hi : i = ps.length) : mixAt z ws vs pl ps ql qs n = ((pl, mixTo n ps qs i), 0) := by subst hi; unfold mixAt; rw [if_pos ⟨h1, h2⟩, if_pos hn, if_pos hq]
end
end Go.Proofs.YtjengglpbdgmnaaDoor.Math
/- Plain facts: strategies that are mixed with themselves, and with whole shares; mixed strategies are strategies. No condition. -/
namespace Go.Proofs.YtjengglpbdgmnaaDoor.Math
open Go.Proofs.YtjengglpbdgmnaaDoor.V
set_option linter.unusedVariables false
set_option linter.unusedSimpArgs false
theorem map_sum60 (r : List Int) : (r.map fun x => 60 * x).sum = 60 * r.sum := by
  induction r with
  | nil => rfl
  | cons x r ih => rw [List.map_cons, List.sum_cons, List.sum_cons, ih, Int.mul_add]
/-- Whole parts are what they are. -/
theorem parts60 {r : List Int} (h : r.sum = 60) : partsOf (r.map fun x => 60 * x) = r := by
  have hs : (r.map fun x => 60 * x).sum = 3600 := by rw [map_sum60, h]; rfl
  have hp : pws (r.map fun x => 60 * x) = r.map fun x => 60 * x := pws_1 (by rw [hs]; decide)
  have ho : pout (r.map fun x => 60 * x) = r := by
    unfold pout
    rw [hp, hs, List.map_map]
    conv => rhs; rw [← List.map_id r]
    refine List.map_congr_left fun x _ => ?_
    show 60 * (60 * x) / 3600 = x
    omega
  unfold partsOf
  rw [ho, h]
  rfl
theorem mixRow_60 {n : Int} {r s : List Int} (hl : r.length = s.length) {q : List Int} (hq : q.length = r.length) (h : ∀ j, j < r.length → n * r.getD j 0 + (60 - n) * s.getD j 0 = 60 * q.getD j 0) : mixRow n r s r.length = q.map fun x => 60 * x := by
  refine List.ext_getElem (by rw [mixRow_len, List.length_map, hq]) fun j h1 h2 => ?_
  rw [mixRow_len] at h1
  have e1 : (mixRow n r s r.length)[j] = n * r.getD j 0 + (60 - n) * s.getD j 0 := by simp [mixRow, mapR]
  rw [e1, h j h1]
  simp [List.getD, List.getElem?_eq_getElem (show j < q.length by omega)]
theorem rows_ext {ps qs : List (List Int)} {m : Nat} (h1 : ps.length = m) (h2 : qs.length = m) (h : ∀ i, i < m → ps.getD i [] = qs.getD i []) : ps = qs := by
  refine List.ext_getElem (by omega) fun i a b => ?_
  have := h i (by omega)
  simpa [List.getD, List.getElem?_eq_getElem a, List.getElem?_eq_getElem b] using this
section
variable {z : List Nd} {ws vs ps qs : List (List Int)} {pl ql n : Int}
theorem row60 {k : Nat} (h1 : partsB z (sets z k pl) ps = true) {i : Nat} (hi : i < ps.length) : (ps.getD i []).sum = 60 := by
  have hl := parts_len h1
  exact (part_row (parts_at h1 (i := i) (by omega))).2
theorem mixTo_at {i m : Nat} (h : i < m) : (mixTo n ps qs m).getD i [] = partsOf (mixRow n (ps.getD i []) (qs.getD i []) (ps.getD i []).length) := mapR_get (fun i => partsOf (mixRow n (ps.getD i []) (qs.getD i []) (ps.getD i []).length)) [] h
theorem mix_ok (h : (mixAt z ws vs pl ps ql qs n).2 = 0) : isStrat z ws vs pl ps = true ∧ isStrat z ws vs ql qs = true ∧ (0 ≤ n ∧ n ≤ 60) ∧ pl = ql := by
  unfold mixAt at h
  split at h
  · rename_i hs
    split at h
    · rename_i hn
      split at h
      · rename_i hq; exact ⟨hs.1, hs.2, hn, hq⟩
      · cases h
    · cases h
  · cases h
theorem mix_same (h : isStrat z ws vs pl ps = true) (hn : 0 ≤ n ∧ n ≤ 60) : mixAt z ws vs pl ps pl ps n = ((pl, ps), 0) := by
  rw [mixAt_0 h h hn rfl rfl]
  obtain ⟨hg, hp, hps⟩ := isStrat_ok h
  congr 2
  refine rows_ext (m := ps.length) (mapR_len _ _) rfl fun i hi => ?_
  rw [mixTo_at hi, mixRow_60 (q := ps.getD i []) rfl rfl (fun j hj => by rw [← Int.add_mul]; congr 1; omega)]
  exact parts60 (row60 hps hi)
theorem mix_first (h1 : isStrat z ws vs pl ps = true) (h2 : isStrat z ws vs pl qs = true) : mixAt z ws vs pl ps pl qs 60 = ((pl, ps), 0) := by
  rw [mixAt_0 h1 h2 (by decide) rfl rfl]
  obtain ⟨hg, hp, hps⟩ := isStrat_ok h1
  have hqs := (isStrat_ok h2).2.2
  congr 2
  refine rows_ext (m := ps.length) (mapR_len _ _) rfl fun i hi => ?_
  have hm := mix_rows hg hp hps hqs hi
  rw [mixTo_at hi, mixRow_60 (q := ps.getD i []) hm.2.1 rfl (fun j hj => by rw [show (60 : Int) - 60 = 0 from rfl, Int.zero_mul, Int.add_zero])]
  exact parts60 (row60 hps hi)
theorem mix_second (h1 : isStrat z ws vs pl ps = true) (h2 : isStrat z ws vs pl qs = true) : mixAt z ws vs pl ps pl qs 0 = ((pl, qs), 0) := by
  rw [mixAt_0 h1 h2 (by decide) rfl rfl]
  obtain ⟨hg, hp, hps⟩ := isStrat_ok h1
  have hqs := (isStrat_ok h2).2.2
  have hl1 := parts_len hps
  have hl2 := parts_len hqs
  congr 2
  refine rows_ext (m := ps.length) (mapR_len _ _) (by omega) fun i hi => ?_
  have hm := mix_rows hg hp hps hqs hi
  rw [mixTo_at hi, mixRow_60 (q := qs.getD i []) hm.2.1 hm.2.1.symm (fun j hj => by rw [Int.zero_mul, Int.zero_add, Int.sub_zero])]
  exact parts60 (row60 hqs hm.1)
theorem mix_strat (h : (mixAt z ws vs pl ps ql qs n).2 = 0) : isStrat z ws vs (mixAt z ws vs pl ps ql qs n).1.1 (mixAt z ws vs pl ps ql qs n).1.2 = true := by
  obtain ⟨h1, h2, hn, hq⟩ := mix_ok h
  subst hq
  rw [mixAt_0 h1 h2 hn rfl rfl]
  obtain ⟨hg, hp, hps⟩ := isStrat_ok h1
  have hqs := (isStrat_ok h2).2.2
  have hl := parts_len hps
  rw [strat_in rfl hg hp]
  have hml : (mixTo n ps qs ps.length).length = ps.length := mapR_len _ _
  refine parts_yes (by dsimp only; omega) fun i hi => ?_
  have hm := mix_rows hg hp hps hqs (i := i) (by omega)
  rw [mixTo_at (by omega)]
  refine partB_parts (mixRow_bd hn hm.2.2.2.1 hm.2.2.2.2 (Nat.le_refl _) (by omega)) (by rw [mixRow_len]; omega) ?_
  rw [mixRow_len]
  exact row_len (part_row (parts_at hps (i := i) (by omega))).1
theorem mix_all (h : (mixAt z ws vs pl ps ql qs n).2 = 0) : mixAt z ws vs pl ps pl ps n = ((pl, ps), 0) ∧ mixAt z ws vs pl ps ql qs 60 = ((pl, ps), 0) ∧ mixAt z ws vs pl ps ql qs 0 = ((ql, qs), 0) ∧ isStrat z ws vs (mixAt z ws vs pl ps ql qs n).1.1 (mixAt z ws vs pl ps ql qs n).1.2 = true := by
  have hs := mix_strat h
  obtain ⟨h1, h2, hn, hq⟩ := mix_ok h
  refine ⟨mix_same h1 hn, ?_, ?_, hs⟩
  · subst hq; exact mix_first h1 h2
  · subst hq; exact mix_second h1 h2
end
end Go.Proofs.YtjengglpbdgmnaaDoor.Math
