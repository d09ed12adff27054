/- Contracts of strategies that are drawn. Their conditions stand in each. -/
import Derived.Test.YtjengglpbdgmnaaZ10Vr
import Derived.Test.YtjengglpbdgmnaaZ1Vr
import Derived.Test.YtjengglpbdgmnaaZ2Vr
import Derived.Test.YtjengglpbdgmnaaZ3Vr
import Derived.Test.YtjengglpbdgmnaaZ4Vr
import Derived.Test.YtjengglpbdgmnaaZ7Vr
import Derived.Test.YtjengglpbdgmnaaZ8Vr
import Derived.Test.YtjengglpbdgmnaaZ5Vr
import Derived.Test.YtjengglpbdgmnaaZ6Vr
import Derived.Test.YtjengglpbdgmnaaZ9Vr
import Derived.Test.YtjengglpbdgmnaaRows
namespace Go.Proofs.Ytjengglpbdgmnaa
open Go Go.RowKit V
set_option linter.unusedVariables false
set_option linter.unusedSimpArgs false
set_option maxRecDepth 100000
theorem bsl28_3 (v0 v1 v2 : Value) (h0 : v0.cells = #[v0]) (h1 : v1.cells = #[v1]) (h2 : v2.cells = #[v2]) : ∀ w, (Instr.buildSlice 28 3 ([(0, v0), (1, v1), (2, v2)] : List (Nat × Value)).toArray).run Try.prog w = .ok (.slice (some ⟨w.heap.size, 0, none⟩) 3 3) (w.alloc (.cells ([v0, v1, v2] : List Value).toArray 2)) := by
 intro w; simp [Instr.buildSlice, Instr.fill, Try.zeroValue2, Try.runUnderlying28, Try.sizeOf2, Value.cells_int, newRow, show Array.range 3 = #[0, 1, 2] from by decide, h0, h1, h2]
set_option maxHeartbeats 4000000 in
theorem spec_l22Random_c (bk : Nat) (ca : Option Addr) (bs : List Int) (cc : Nat) (az : Option Addr) (nz : Nat) (cz : Nat) (Hz : Nat → Hd) (z : List Nd) (aws : Option Addr) (nws : Nat) (cws : Nat) (Hws : Nat → Hd) (ws : List (List Int)) (avs : Option Addr) (nvs : Nat) (cvs : Nat) (Hvs : Nat → Hd) (vs : List (List Int)) (p : Int) (w : World) (M0 : Nat → Prop) (hs0 : Sep w M0 [srcP bk ca bs cc] w) (kcode : Kn w M0 [] (CellsAt ca (bs.map (Value.int .u8)))) (hok : okBytes bs) (kz : Kn w M0 [] (RdR ndK az nz Hz z)) (kws : Kn w M0 [] (RdR maK aws nws Hws ws)) (kvs : Kn w M0 [] (RdR maK avs nvs Hvs vs)) (hg : Math.isGame z ws vs = true) (hp : 0 ≤ p ∧ p ≤ 1) :
  Calls Try.prog 176 #[.pointer (some ⟨bk, 0, none⟩), .agg #[.slice az nz cz, .slice aws nws cws, .slice avs nvs cvs], .int .i64 p] w (Ret fun v w' => ∃ x : Option Addr × Nat × Nat × (Nat → Hd) × List (List Int), v = .agg #[.int .i64 p, .slice x.1 x.2.1 x.2.2.1] ∧ (x.2.1 ≤ 360 ∧ Math.drawnP x.2.2.2.2) ∧ Sep w M0 [srcP bk ca bs cc, OwnR maK 28 2 x.1 x.2.1 x.2.2.1 x.2.2.2.1 x.2.2.2.2] w') := by
 have lz : z.length = nz := (kz w (hs0.sub (List.nil_sublist _))).1
 have mz : nz ≤ 9223372036854775807 := (kz w (hs0.sub (List.nil_sublist _))).2.1
 have lws : ws.length = nws := (kws w (hs0.sub (List.nil_sublist _))).1
 have mws : nws ≤ 9223372036854775807 := (kws w (hs0.sub (List.nil_sublist _))).2.1
 have lvs : vs.length = nvs := (kvs w (hs0.sub (List.nil_sublist _))).1
 have mvs : nvs ≤ 9223372036854775807 := (kvs w (hs0.sub (List.nil_sublist _))).2.1
 have hG := Math.isGame_ok hg
 rw [lws] at hG
 have hT := Math.isTree_ok hG.1
 have hvl := Math.mat_len hG.2.2.2.1
 have hsl := Math.sets_len (z := z) (p := p) (show nws ≤ 6 by omega)
 have hzl := Math.sizes_len (z := z) (ss := (Math.sets z nws p))
 refine fn (M := M0) (rs := [.cell 6 56]) Try.func176 rfl Try.ntmps176 rfl rfl hs0 ?_
 refine hSeq ?_
 refine hReg (sl 0 (sl 1 sz)) (by kernel_rfl) ?_
 refine box trv1 rfl rfl rfl rfl (fun bkb1 hbkb1 => ?_)
 refine alc Try.zeroValue56 rfl trv1 rfl rfl (fun bka2 hbka2 => ?_)
 refine rNil ?_
 refine qSeq rfl ?_
 refine hSeq ?_
 refine hReg (sl 0 (sq 1 (sl 2 (sq 3 sz)))) (by kernel_rfl) ?_
 refine ldAl Try.isAgg43 Try.sizeOf43 (cBs 1 rfl) trv rfl rfl rfl rfl ?_
 refine mvI rfl rfl rfl ?_
 refine callS Try.call132 trv1 rfl rfl (fun w hs => spec_l22Sizes_c _ nz cz _ _ _ nws cws _ _ _ nvs cvs _ _ _ w (Kn.drop (k := 3) kz w hs) (Kn.drop (k := 3) kws w hs) (Kn.drop (k := 3) kvs w hs) (by assumption)) ?_
 rintro ⟨ay1, ny1, cy1, y1⟩ hr1
 dsimp only at hr1
 subst y1
 refine rKnow (fun w hs => (show OwnI 2 ay1 ny1 cy1 (((Math.sizes z (Math.sets z nws p)))) w from hs.at_ 0 rfl).lenz) (fun lenn3 => ?_)
 refine asS rfl rfl rfl ?_
 refine rNil ?_
 refine qSeq rfl ?_
 refine hSeq ?_
 refine hReg (sl 0 (sq 1 sz)) (by kernel_rfl) ?_
 refine bsl trv1 rfl rfl rfl (bsl41_0) (fun bkl4 hbkl4 => ?_)
 refine asS rfl rfl rfl ?_
 refine rNil ?_
 refine qSeq rfl ?_
 refine hSeq ?_
 refine hSeq ?_
 refine hReg (sq 0 sz) (by kernel_rfl) ?_
 refine asI rfl rfl rfl ?_
 refine rNil ?_
 refine qSeq rfl ?_
 refine hBlk ?_
 refine hPieces (fun _ h => Sep.litR maK 28 2 (fun _ => (none, 0)) h 0 rfl) ?_
 refine hLoop (α := Nat × Nat × (Hd × (Nat → Hd)) × List (List Int)) (fun x => (x.1 ≤ (Math.sizes z (Math.sets z nws p)).length ∧ x.2.1 = x.1) ∧ Math.drawnP x.2.2.2) (fun x => (Math.sizes z (Math.sets z nws p)).length - x.1) (fun x => [OwnR maK 28 2 x.2.2.1.1.1 x.2.1 x.2.2.1.1.2 x.2.2.1.2 x.2.2.2, OwnI 2 ay1 ny1 cy1 (((Math.sizes z (Math.sets z nws p)))), blk bka2 56 [.int .i64 0, .slice none 0 0], blk bkb1 43 [.slice az nz cz, .slice aws nws cws, .slice avs nvs cvs], srcP bk ca bs cc]) (fun x => [(0, .pointer (some ⟨bk, 0, none⟩)), (2, .int .i64 p), (6, .pointer (some ⟨bka2, 0, none⟩)), (7, .slice ay1 ny1 cy1), (8, .slice x.2.2.1.1.1 x.2.1 x.2.2.1.1.2), (9, .int .i64 (x.1 : Int))]) ((0, 0, (((some ⟨bkl4, 0, none⟩), 0), (fun _ => (none, 0))), [])) (⟨⟨Nat.zero_le _, rfl⟩, Math.drawnP_nil⟩) (fun _ h => h.pick [0, 0, 0, 0, 0]) ⟨rfl, rfl, rfl, rfl, rfl, rfl, trivial⟩ ?_
 rintro ⟨i, q, hd, y⟩ τ1 ⟨⟨hi, hq⟩, hy⟩
 dsimp only at hi hq hy
 refine hRe [(0, .pointer (some ⟨bk, 0, none⟩)), (2, .int .i64 p), (6, .pointer (some ⟨bka2, 0, none⟩)), (7, .slice ay1 ny1 cy1), (8, .slice hd.1.1 q hd.1.2), (9, .int .i64 (i : Int))] [OwnR maK 28 2 hd.1.1 q hd.1.2 hd.2 y, OwnI 2 ay1 ny1 cy1 (((Math.sizes z (Math.sets z nws p)))), blk bka2 56 [.int .i64 0, .slice none 0 0], blk bkb1 43 [.slice az nz cz, .slice aws nws cws, .slice avs nvs cvs], srcP bk ca bs cc] rfl rfl ?_
 refine hSeq ?_
 refine hSeq ?_
 refine hReg (sq 0 (sq 1 (sq 2 (sq 3 sz)))) (by kernel_rfl) ?_
 refine mvI rfl rfl rfl ?_
 refine mvS rfl rfl rfl ?_
 refine lenS Try.runUnderlying28 rfl rfl rfl ?_
 refine lss rfl rfl rfl rfl ?_
 refine rNil ?_
 refine qSeq rfl ?_
 refine hIfD rfl (fun c1 => ?_) (fun c1 => ?_)
 ·
  replace c1 : (i : Int) < (ny1 : Int) := c1
  have hsb := Math.sizes_bd (k := nws) hg hp _ (Math.getD_mem 0 (show i < (Math.sizes z (Math.sets z nws p)).length by omega))
  refine hSkip ?_
  refine qSeq rfl ?_
  refine hSeq ?_
  refine hBlk ?_
  refine hSeq ?_
  refine hReg (sl 0 (sq 1 sz)) (by kernel_rfl) ?_
  refine bsl trv1 rfl rfl rfl (bsl28_0) (fun bkl5 hbkl5 => ?_)
  refine asS rfl rfl rfl ?_
  refine rNil ?_
  refine qSeq rfl ?_
  refine hSeq ?_
  refine hSeq ?_
  refine hReg (sq 0 sz) (by kernel_rfl) ?_
  refine asI rfl rfl rfl ?_
  refine rNil ?_
  refine qSeq rfl ?_
  refine hBlk ?_
  refine hPieces (fun _ h => Sep.litI h 0 [] rfl rfl rfl) ?_
  refine hLoop (α := Nat × Nat × Hd × List Int) (fun x => ((x.1 : Int) ≤ (Math.sizes z (Math.sets z nws p)).getD i 0 ∧ x.2.1 = x.1) ∧ (Math.small x.2.2.2 ∧ x.2.2.2.length = x.2.1)) (fun x => ((Math.sizes z (Math.sets z nws p)).getD i 0).toNat - x.1) (fun x => [OwnI 2 x.2.2.1.1 x.2.1 x.2.2.1.2 x.2.2.2, OwnR maK 28 2 hd.1.1 q hd.1.2 hd.2 y, OwnI 2 ay1 ny1 cy1 (((Math.sizes z (Math.sets z nws p)))), blk bka2 56 [.int .i64 0, .slice none 0 0], blk bkb1 43 [.slice az nz cz, .slice aws nws cws, .slice avs nvs cvs], srcP bk ca bs cc]) (fun x => [(0, .pointer (some ⟨bk, 0, none⟩)), (2, .int .i64 p), (6, .pointer (some ⟨bka2, 0, none⟩)), (7, .slice ay1 ny1 cy1), (8, .slice hd.1.1 q hd.1.2), (9, .int .i64 (i : Int)), (10, .slice x.2.2.1.1 x.2.1 x.2.2.1.2), (11, .int .i64 (x.1 : Int))]) ((0, 0, ((some ⟨bkl5, 0, none⟩), 0), [])) (⟨⟨by dsimp only; omega, rfl⟩, Math.small_nil, rfl⟩) (fun _ h => h.pick [0, 0, 0, 0, 0, 0]) ⟨rfl, rfl, rfl, rfl, rfl, rfl, rfl, rfl, trivial⟩ ?_
  rintro ⟨j, q2, he, r⟩ τ2 ⟨⟨hj, hq2⟩, hr2, hrl⟩
  dsimp only at hj hq2 hr2 hrl
  refine hRe [(0, .pointer (some ⟨bk, 0, none⟩)), (2, .int .i64 p), (6, .pointer (some ⟨bka2, 0, none⟩)), (7, .slice ay1 ny1 cy1), (8, .slice hd.1.1 q hd.1.2), (9, .int .i64 (i : Int)), (10, .slice he.1 q2 he.2), (11, .int .i64 (j : Int))] [OwnI 2 he.1 q2 he.2 r, OwnR maK 28 2 hd.1.1 q hd.1.2 hd.2 y, OwnI 2 ay1 ny1 cy1 (((Math.sizes z (Math.sets z nws p)))), blk bka2 56 [.int .i64 0, .slice none 0 0], blk bkb1 43 [.slice az nz cz, .slice aws nws cws, .slice avs nvs cvs], srcP bk ca bs cc] rfl rfl ?_
  refine hSeq ?_
  refine hSeq ?_
  refine hReg (sq 0 (sq 1 (sq 2 (sq 3 (sl 4 (sq 5 sz)))))) (by kernel_rfl) ?_
  refine mvI rfl rfl rfl ?_
  refine mvS rfl rfl rfl ?_
  refine mvI rfl rfl rfl ?_
  refine ixIl (zn := i) el28 ((Kn.at_ 2 rfl).imp fun _ h => OwnI.rd h) rfl rfl rfl rfl (by omega) (by omega) rfl ?_
  intro ae2 e2
  refine ldl Try.isAgg2 (e2) trv rfl rfl rfl ?_
  refine lss rfl rfl rfl rfl ?_
  refine rNil ?_
  refine qSeq rfl ?_
  refine hIfD rfl (fun c2 => ?_) (fun c2 => ?_)
  ·
   replace c2 : (j : Int) < ((((Math.sizes z (Math.sets z nws p)))).getD i 0) := c2
   refine hSkip ?_
   refine qSeq rfl ?_
   refine hSeq ?_
   refine hBlk ?_
   refine hReg (sq 0 (sq 1 (sq 2 (sl 3 (sl 4 (sl 5 (sl 6 (sl 7 (sq 8 sz))))))))) (by kernel_rfl) ?_
   refine mvS rfl rfl rfl ?_
   refine mvP rfl rfl rfl ?_
   refine mvP rfl rfl rfl ?_
   refine rPieces (L' := [srcP bk ca bs cc, OwnI 2 he.1 q2 he.2 r, OwnR maK 28 2 hd.1.1 q hd.1.2 hd.2 y, OwnI 2 ay1 ny1 cy1 (((Math.sizes z (Math.sets z nws p)))), blk bka2 56 [.int .i64 0, .slice none 0 0], blk bkb1 43 [.slice az nz cz, .slice aws nws cws, .slice avs nvs cvs]]) (fun _ h => h.perm (pull (i := 5) rfl)) ?_
   refine callMK (α := Int) (Lf := [srcP bk ca bs cc]) (Lr := [OwnI 2 he.1 q2 he.2 r, OwnR maK 28 2 hd.1.1 q hd.1.2 hd.2 y, OwnI 2 ay1 ny1 cy1 (((Math.sizes z (Math.sets z nws p)))), blk bka2 56 [.int .i64 0, .slice none 0 0], blk bkb1 43 [.slice az nz cz, .slice aws nws cws, .slice avs nvs cvs]]) (good := fun x => 0 ≤ x ∧ (x < (9 : Int) ∨ x = 0)) (φs := fun x => [srcP bk ca bs cc]) (val := fun x => .int .i64 x) rfl Try.call95 trv1 rfl rfl (fun w M1 hs hk => src_next bk ca bs cc (9 : Int) w M1 hs (hk _ kcode) hok) ?_
   intro x3 hx3
   try dsimp only at hx3
   refine rPieces (L' := [srcP bk ca bs cc, OwnI 2 he.1 q2 he.2 r, OwnR maK 28 2 hd.1.1 q hd.1.2 hd.2 y, OwnI 2 ay1 ny1 cy1 (((Math.sizes z (Math.sets z nws p)))), blk bka2 56 [.int .i64 0, .slice none 0 0], blk bkb1 43 [.slice az nz cz, .slice aws nws cws, .slice avs nvs cvs]]) (fun _ h => h) ?_
   refine bsl trv1 rfl rfl rfl (bsl28_5 (.int .i64 _) (.int .i64 _) (.int .i64 _) (.int .i64 _) (.int .i64 _) rfl rfl rfl rfl rfl) (fun bkl6 hbkl6 => ?_)
   refine rPieces (L' := [srcP bk ca bs cc, blk bkl6 2 [.int .i64 0, .int .i64 0, .int .i64 1, .int .i64 2, .int .i64 x3], OwnI 2 he.1 q2 he.2 r, OwnR maK 28 2 hd.1.1 q hd.1.2 hd.2 y, OwnI 2 ay1 ny1 cy1 (((Math.sizes z (Math.sets z nws p)))), blk bka2 56 [.int .i64 0, .slice none 0 0], blk bkb1 43 [.slice az nz cz, .slice aws nws cws, .slice avs nvs cvs]]) (fun _ h => h.perm (pull (i := 1) rfl)) ?_
   refine callMK (α := Int) (Lf := [srcP bk ca bs cc, blk bkl6 2 [.int .i64 0, .int .i64 0, .int .i64 1, .int .i64 2, .int .i64 x3]]) (Lr := [OwnI 2 he.1 q2 he.2 r, OwnR maK 28 2 hd.1.1 q hd.1.2 hd.2 y, OwnI 2 ay1 ny1 cy1 (((Math.sizes z (Math.sets z nws p)))), blk bka2 56 [.int .i64 0, .slice none 0 0], blk bkb1 43 [.slice az nz cz, .slice aws nws cws, .slice avs nvs cvs]]) (good := fun x => x ∈ ([.int .i64 0, .int .i64 0, .int .i64 1, .int .i64 2, .int .i64 x3] : List Value).map toI) (φs := fun x => [srcP bk ca bs cc, blk bkl6 2 [.int .i64 0, .int .i64 0, .int .i64 1, .int .i64 2, .int .i64 x3]]) (val := fun x => .int .i64 x) rfl Try.call155 trv1 rfl rfl (fun w M1 hs hk => src_pick bk ca bs cc bkl6 2 5 5 [.int .i64 0, .int .i64 0, .int .i64 1, .int .i64 2, .int .i64 x3] w M1 hs (hk _ kcode) hok rfl rfl (by decide)) ?_
   intro x4 hx4
   try dsimp only at hx4
   refine rPieces (L' := [srcP bk ca bs cc, blk bkl6 2 [.int .i64 0, .int .i64 0, .int .i64 1, .int .i64 2, .int .i64 x3], OwnI 2 he.1 q2 he.2 r, OwnR maK 28 2 hd.1.1 q hd.1.2 hd.2 y, OwnI 2 ay1 ny1 cy1 (((Math.sizes z (Math.sets z nws p)))), blk bka2 56 [.int .i64 0, .slice none 0 0], blk bkb1 43 [.slice az nz cz, .slice aws nws cws, .slice avs nvs cvs]]) (fun _ h => h) ?_
   refine bsl trv1 rfl rfl rfl (bsl28_1 (.int .i64 _) rfl) (fun bkl7 hbkl7 => ?_)
   refine aplI (N := q2) (x := x4) 3 0 rfl rfl mk28 trv1 rfl rfl rfl rfl (by omega) ?_
   intro aq5 cq5
   refine asS rfl rfl rfl ?_
   refine rNil ?_
   refine qSeq rfl ?_
   refine hReg (sq 0 (sq 1 (sq 2 sz))) (by kernel_rfl) ?_
   refine mvI rfl rfl rfl ?_
   refine add rfl rfl rfl rfl (by omega) ?_
   refine asI rfl rfl rfl ?_
   refine rNil ?_
   have hm_ := hx4
   have hv_ : 0 ≤ x4 ∧ x4 ≤ 8 := by simp [toI] at hm_; omega
   exact qNext rfl ((j + 1, q2 + 1, (aq5, cq5), (r ++ [x4]))) (by dsimp only; omega) (⟨⟨by dsimp only; omega, by dsimp only; omega⟩, Math.small_app hr2 hv_, by dsimp only; rw [List.length_append, hrl]; rfl⟩) ⟨rfl, rfl, rfl, rfl, rfl, rfl, rfl, rfl, trivial⟩ (fun _ h => h.pick [3, 3, 3, 3, 3, 1])
  ·
   replace c2 : ¬ ((j : Int) < ((((Math.sizes z (Math.sets z nws p)))).getD i 0)) := c2
   refine hExit rfl ?_
   refine qSeq rfl ?_
   refine hReg (sq 0 (sq 1 (sl 2 (sl 3 (sl 4 (sq 5 sz)))))) (by kernel_rfl) ?_
   refine mvS rfl rfl rfl ?_
   refine mvS rfl rfl rfl ?_
   refine callS Try.call163 trv1 rfl rfl (fun w hs => spec_l22Parts_c _ q2 he.2 _ w (OwnI.rd (hs.at_ 0 rfl)) (Math.small_big hr2) (by omega) (by omega)) ?_
   rintro ⟨ay6, ny6, cy6, y6⟩ hr6
   dsimp only at hr6
   subst y6
   refine rKnow (fun w hs => (show OwnI 2 ay6 ny6 cy6 (Math.partsOf r) w from hs.at_ 0 rfl).lenz) (fun lenn8 => ?_)
   refine bsl trv1 rfl rfl rfl (bsl41_1 (.slice _ _ _) rfl) (fun bkl9 hbkl9 => ?_)
   refine apR (hd := (ay6, cy6)) (x := (Math.partsOf r)) 3 1 0 maK.ok rfl rfl rfl (fun h => by first | rfl | (dsimp only at h; rw [h]; rfl) | (rw [h]; rfl) | exact congrArg (fun m => [Value.slice _ m _]) h) mk41 trv1 rfl rfl rfl rfl (by omega) ?_
   intro aq7 cq7
   refine asS rfl rfl rfl ?_
   refine rNil ?_
   refine qSeq rfl ?_
   refine hReg (sq 0 (sq 1 (sq 2 sz))) (by kernel_rfl) ?_
   refine mvI rfl rfl rfl ?_
   refine add rfl rfl rfl rfl (by omega) ?_
   refine asI rfl rfl rfl ?_
   refine rNil ?_
   exact qNext rfl ((i + 1, q + 1, ((aq7, cq7), (hset hd.2 y.length (ay6, cy6))), (y ++ [(Math.partsOf r)]))) (by dsimp only; omega) (⟨⟨by dsimp only; omega, by dsimp only; omega⟩, Math.drawnP_app hy hr2 (by omega)⟩) ⟨rfl, rfl, rfl, rfl, rfl, rfl, trivial⟩ (fun _ h => h.pick [0, 2, 2, 2, 2])
 ·
  replace c1 : ¬ ((i : Int) < (ny1 : Int)) := c1
  refine hExit rfl ?_
  refine qSeq rfl ?_
  refine hSeq ?_
  refine hReg (sq 0 (sq 1 (sq 2 (sl 3 sz)))) (by kernel_rfl) ?_
  refine mvI rfl rfl rfl ?_
  refine mvS rfl rfl rfl ?_
  refine bld rfl rfl rfl (bld56_0_1 (.int .i64 _) (.slice _ _ _) rfl rfl) ?_
  refine stAl (vs := [.int .i64 p, .slice hd.1.1 q hd.1.2]) 2 rfl Try.sizeOf56 trv rfl rfl rfl rfl rfl (by simp [Value.oneCell']) rfl ?_
  refine rNil ?_
  refine qSeq rfl ?_
  refine hRet ?_
  exact fun w hs => ⟨[_], ⟨⟨_, rfl, run_load_agg Try.isAgg56 Try.sizeOf56 rfl (cBs 2 rfl w hs)⟩, trivial⟩, ⟨(hd.1.1, q, hd.1.2, hd.2, y), rfl, ⟨by dsimp only; omega, hy⟩, hs.pick [4, 0]⟩⟩
set_option maxHeartbeats 4000000 in
theorem spec_l22Draw_c (bk : Nat) (ca : Option Addr) (bs : List Int) (cc : Nat) (p : Int) (w : World) (M0 : Nat → Prop) (hs0 : Sep w M0 [srcP bk ca bs cc] w) (kcode : Kn w M0 [] (CellsAt ca (bs.map (Value.int .u8)))) (hok : okBytes bs) (hp : 0 ≤ p ∧ p ≤ 1) :
  Calls Try.prog 174 #[.pointer (some ⟨bk, 0, none⟩), .int .i64 p] w (Ret fun v w' => ∃ x : Option Addr × Nat × Nat × (Nat → Hd) × List Nd × Option Addr × Nat × Nat × (Nat → Hd) × List (List Int) × Option Addr × Nat × Nat × (Nat → Hd) × List (List Int) × Int × Option Addr × Nat × Nat × (Nat → Hd) × List (List Int), v = .tuple #[.agg #[.slice x.1 x.2.1 x.2.2.1, .slice x.2.2.2.2.2.1 x.2.2.2.2.2.2.1 x.2.2.2.2.2.2.2.1, .slice x.2.2.2.2.2.2.2.2.2.2.1 x.2.2.2.2.2.2.2.2.2.2.2.1 x.2.2.2.2.2.2.2.2.2.2.2.2.1], .agg #[.int .i64 x.2.2.2.2.2.2.2.2.2.2.2.2.2.2.2.1, .slice x.2.2.2.2.2.2.2.2.2.2.2.2.2.2.2.2.1 x.2.2.2.2.2.2.2.2.2.2.2.2.2.2.2.2.2.1 x.2.2.2.2.2.2.2.2.2.2.2.2.2.2.2.2.2.2.1]] ∧ ((x.2.1 ≤ 250 ∧ ((1 ≤ x.2.2.2.2.2.2.1 ∧ x.2.2.2.2.2.2.1 ≤ 4) ∧ x.2.2.2.2.2.2.2.2.2.2.2.1 ≤ 4)) ∧ ((-1 ≤ x.2.2.2.2.2.2.2.2.2.2.2.2.2.2.2.1 ∧ x.2.2.2.2.2.2.2.2.2.2.2.2.2.2.2.1 ≤ 2) ∧ x.2.2.2.2.2.2.2.2.2.2.2.2.2.2.2.2.2.1 ≤ 361)) ∧ Sep w M0 [srcP bk ca bs cc, RdR ndK x.1 x.2.1 x.2.2.2.1 x.2.2.2.2.1, RdR maK x.2.2.2.2.2.1 x.2.2.2.2.2.2.1 x.2.2.2.2.2.2.2.2.1 x.2.2.2.2.2.2.2.2.2.1, RdR maK x.2.2.2.2.2.2.2.2.2.2.1 x.2.2.2.2.2.2.2.2.2.2.2.1 x.2.2.2.2.2.2.2.2.2.2.2.2.2.1 x.2.2.2.2.2.2.2.2.2.2.2.2.2.2.1, OwnR maK 28 2 x.2.2.2.2.2.2.2.2.2.2.2.2.2.2.2.2.1 x.2.2.2.2.2.2.2.2.2.2.2.2.2.2.2.2.2.1 x.2.2.2.2.2.2.2.2.2.2.2.2.2.2.2.2.2.2.1 x.2.2.2.2.2.2.2.2.2.2.2.2.2.2.2.2.2.2.2.1 x.2.2.2.2.2.2.2.2.2.2.2.2.2.2.2.2.2.2.2.2] w') := by
 refine fn (M := M0) (rs := [.cell 4 43, .cell 5 56]) Try.func174 rfl Try.ntmps174 rfl rfl hs0 ?_
 refine hSeq ?_
 refine hReg (sl 0 (sl 1 sz)) (by kernel_rfl) ?_
 refine alc Try.zeroValue43 rfl trv1 rfl rfl (fun bka1 hbka1 => ?_)
 refine alc Try.zeroValue56 rfl trv1 rfl rfl (fun bka2 hbka2 => ?_)
 refine rNil ?_
 refine qSeq rfl ?_
 refine hSeq ?_
 refine hReg (sq 0 (sl 1 (sl 2 (sl 3 sz)))) (by kernel_rfl) ?_
 refine mvP rfl rfl rfl ?_
 refine rPieces (L' := [srcP bk ca bs cc, blk bka2 56 [.int .i64 0, .slice none 0 0], blk bka1 43 [.slice none 0 0, .slice none 0 0, .slice none 0 0]]) (fun _ h => h.perm (pull (i := 2) rfl)) ?_
 refine callMK (α := Option Addr × Nat × Nat × (Nat → Hd) × List Nd × Option Addr × Nat × Nat × (Nat → Hd) × List (List Int) × Option Addr × Nat × Nat × (Nat → Hd) × List (List Int)) (Lf := [srcP bk ca bs cc]) (Lr := [blk bka2 56 [.int .i64 0, .slice none 0 0], blk bka1 43 [.slice none 0 0, .slice none 0 0, .slice none 0 0]]) (good := fun x => x.2.1 ≤ 250 ∧ ((1 ≤ x.2.2.2.2.2.2.1 ∧ x.2.2.2.2.2.2.1 ≤ 4) ∧ x.2.2.2.2.2.2.2.2.2.2.2.1 ≤ 4)) (φs := fun x => [srcP bk ca bs cc, RdR ndK x.1 x.2.1 x.2.2.2.1 x.2.2.2.2.1, RdR maK x.2.2.2.2.2.1 x.2.2.2.2.2.2.1 x.2.2.2.2.2.2.2.2.1 x.2.2.2.2.2.2.2.2.2.1, RdR maK x.2.2.2.2.2.2.2.2.2.2.1 x.2.2.2.2.2.2.2.2.2.2.2.1 x.2.2.2.2.2.2.2.2.2.2.2.2.2.1 x.2.2.2.2.2.2.2.2.2.2.2.2.2.2]) (val := fun x => .agg #[.slice x.1 x.2.1 x.2.2.1, .slice x.2.2.2.2.2.1 x.2.2.2.2.2.2.1 x.2.2.2.2.2.2.2.1, .slice x.2.2.2.2.2.2.2.2.2.2.1 x.2.2.2.2.2.2.2.2.2.2.2.1 x.2.2.2.2.2.2.2.2.2.2.2.2.1]) rfl Try.call106 trv1 rfl rfl (fun w M1 hs hk => spec_l21Draw_c bk ca bs cc  w M1 hs (hk _ kcode) hok ) ?_
 rintro ⟨ay1, ny1, cy1, Hy1, y1, ayw1, nyw1, cyw1, Hyw1, yw1, ayv1, nyv1, cyv1, Hyv1, yv1⟩ hr1
 try dsimp only at hr1
 refine rPieces (L' := [srcP bk ca bs cc, RdR ndK ay1 ny1 Hy1 y1, RdR maK ayw1 nyw1 Hyw1 yw1, RdR maK ayv1 nyv1 Hyv1 yv1, blk bka2 56 [.int .i64 0, .slice none 0 0], blk bka1 43 [.slice none 0 0, .slice none 0 0, .slice none 0 0]]) (fun _ h => h) ?_
 refine rKnow (fun w hs => (show RdR ndK ay1 ny1 Hy1 y1 w from hs.at_ 1 rfl).1) (fun lenn3 => ?_)
 refine rKnow (fun w hs => (show RdR maK ayw1 nyw1 Hyw1 yw1 w from hs.at_ 2 rfl).1) (fun lenn4 => ?_)
 refine rKnow (fun w hs => (show RdR maK ayv1 nyv1 Hyv1 yv1 w from hs.at_ 3 rfl).1) (fun lenn5 => ?_)
 refine alc Try.zeroValue43 rfl trv1 rfl rfl (fun bka6 hbka6 => ?_)
 refine stAl (vs := [.slice ay1 ny1 cy1, .slice ayw1 nyw1 cyw1, .slice ayv1 nyv1 cyv1]) 0 rfl Try.sizeOf43 trv rfl rfl rfl rfl rfl (by simp [Value.oneCell']) rfl ?_
 refine rNil ?_
 refine qSeq rfl ?_
 refine hSeq ?_
 refine hSeq ?_
 refine hReg (sl 0 (sl 1 (sq 2 sz))) (by kernel_rfl) ?_
 refine ldAl Try.isAgg43 Try.sizeOf43 (cBs 0 rfl) trv rfl rfl rfl rfl ?_
 refine callP (v := .bool (Math.isGame y1 yw1 yv1)) Try.call108 trv rfl rfl (fun w hs => spec_IsGame_c _ ny1 cy1 _ _ _ nyw1 cyw1 _ _ _ nyv1 cyv1 _ _ w (hs.at_ 2 rfl) (hs.at_ 3 rfl) (hs.at_ 4 rfl)) ?_
 refine not rfl rfl rfl ?_
 refine rNil ?_
 refine qSeq rfl ?_
 refine hIfN rfl (fun c1 => ?_) (fun c1 => ?_)
 ·
  replace c1 : (Math.isGame y1 yw1 yv1) = false := c1
  refine hSeq ?_
  refine hReg (sl 0 (sq 1 (sq 2 (sl 3 (sl 4 sz))))) (by kernel_rfl) ?_
  refine ldAl Try.isAgg43 Try.sizeOf43 (cBs 0 rfl) trv rfl rfl rfl rfl ?_
  refine mvI rfl rfl rfl ?_
  refine bld rfl rfl rfl (bld56_0 (.int .i64 _) rfl) ?_
  refine stAl (vs := [.slice ay1 ny1 cy1, .slice ayw1 nyw1 cyw1, .slice ayv1 nyv1 cyv1]) 6 rfl Try.sizeOf43 trv rfl rfl rfl rfl rfl (by simp [Value.oneCell']) rfl ?_
  refine stAl (vs := [.int .i64 p, .slice none 0 0]) 5 rfl Try.sizeOf56 trv rfl rfl rfl rfl rfl (by simp [Value.oneCell']) rfl ?_
  refine rNil ?_
  refine qSeq rfl ?_
  refine hRet ?_
  refine knP (fun _ h => Sep.nilR maK 28 2 (fun _ => (none, 0)) h) ?_
  exact fun w hs => ⟨[_, _], ⟨⟨_, rfl, run_load_agg Try.isAgg43 Try.sizeOf43 rfl (cBs 7 rfl w hs)⟩, ⟨⟨_, rfl, run_load_agg Try.isAgg56 Try.sizeOf56 rfl (cBs 6 rfl w hs)⟩, trivial⟩⟩, ⟨(ay1, ny1, cy1, Hy1, y1, ayw1, nyw1, cyw1, Hyw1, yw1, ayv1, nyv1, cyv1, Hyv1, yv1, p, none, 0, 0, (fun _ => (none, 0)), []), rfl, ⟨⟨by dsimp only; omega, ⟨by dsimp only; omega, by dsimp only; omega⟩, by dsimp only; omega⟩, by dsimp only; omega, by dsimp only; omega⟩, hs.pick [2, 2, 2, 2, 0]⟩⟩
 ·
  replace c1 : (Math.isGame y1 yw1 yv1) = true := c1
  refine hSkip ?_
  refine qSeq rfl ?_
  refine hSeq ?_
  refine hReg (sq 0 (sl 1 (sq 2 (sl 3 (sl 4 (sl 5 sz)))))) (by kernel_rfl) ?_
  refine mvP rfl rfl rfl ?_
  refine ldAl Try.isAgg43 Try.sizeOf43 (cBs 0 rfl) trv rfl rfl rfl rfl ?_
  refine mvI rfl rfl rfl ?_
  refine rPieces (L' := [srcP bk ca bs cc, blk bka6 43 [.slice ay1 ny1 cy1, .slice ayw1 nyw1 cyw1, .slice ayv1 nyv1 cyv1], RdR ndK ay1 ny1 Hy1 y1, RdR maK ayw1 nyw1 Hyw1 yw1, RdR maK ayv1 nyv1 Hyv1 yv1, blk bka2 56 [.int .i64 0, .slice none 0 0], blk bka1 43 [.slice none 0 0, .slice none 0 0, .slice none 0 0]]) (fun _ h => h.perm (pull (i := 1) rfl)) ?_
  refine callMR (α := Option Addr × Nat × Nat × (Nat → Hd) × List (List Int)) (Lf := [srcP bk ca bs cc]) (Lr := [blk bka6 43 [.slice ay1 ny1 cy1, .slice ayw1 nyw1 cyw1, .slice ayv1 nyv1 cyv1], RdR ndK ay1 ny1 Hy1 y1, RdR maK ayw1 nyw1 Hyw1 yw1, RdR maK ayv1 nyv1 Hyv1 yv1, blk bka2 56 [.int .i64 0, .slice none 0 0], blk bka1 43 [.slice none 0 0, .slice none 0 0, .slice none 0 0]]) (good := fun x => x.2.1 ≤ 360 ∧ Math.drawnP x.2.2.2.2) (φs := fun x => [srcP bk ca bs cc, OwnR maK 28 2 x.1 x.2.1 x.2.2.1 x.2.2.2.1 x.2.2.2.2]) (val := fun x => .agg #[.int .i64 p, .slice x.1 x.2.1 x.2.2.1]) rfl Try.call176 trv1 rfl rfl (fun w M1 hs hk => spec_l22Random_c bk ca bs cc ay1 ny1 cy1 Hy1 y1 ayw1 nyw1 cyw1 Hyw1 yw1 ayv1 nyv1 cyv1 Hyv1 yv1 p w M1 hs (hk _ (Kn.nil kcode)) hok (hk _ (Kn.at_ 1 rfl)) (hk _ (Kn.at_ 2 rfl)) (hk _ (Kn.at_ 3 rfl)) (by assumption) (by omega)) ?_
  rintro ⟨ay2, ny2, cy2, Hy2, y2⟩ hr2
  try dsimp only at hr2
  refine rPieces (L' := [srcP bk ca bs cc, OwnR maK 28 2 ay2 ny2 cy2 Hy2 y2, blk bka6 43 [.slice ay1 ny1 cy1, .slice ayw1 nyw1 cyw1, .slice ayv1 nyv1 cyv1], RdR ndK ay1 ny1 Hy1 y1, RdR maK ayw1 nyw1 Hyw1 yw1, RdR maK ayv1 nyv1 Hyv1 yv1, blk bka2 56 [.int .i64 0, .slice none 0 0], blk bka1 43 [.slice none 0 0, .slice none 0 0, .slice none 0 0]]) (fun _ h => h) ?_
  refine rKnow (fun w hs => (show OwnR maK 28 2 ay2 ny2 cy2 Hy2 y2 w from hs.at_ 1 rfl).1) (fun lenn8 => ?_)
  refine alc Try.zeroValue56 rfl trv1 rfl rfl (fun bka9 hbka9 => ?_)
  refine stAl (vs := [.int .i64 p, .slice ay2 ny2 cy2]) 0 rfl Try.sizeOf56 trv rfl rfl rfl rfl rfl (by simp [Value.oneCell']) rfl ?_
  refine rNil ?_
  refine qSeq rfl ?_
  refine hSeq ?_
  refine hSeq ?_
  refine hReg (sq 0 (sl 1 sz)) (by kernel_rfl) ?_
  refine mvP rfl rfl rfl ?_
  refine rPieces (L' := [srcP bk ca bs cc, blk bka9 56 [.int .i64 p, .slice ay2 ny2 cy2], OwnR maK 28 2 ay2 ny2 cy2 Hy2 y2, blk bka6 43 [.slice ay1 ny1 cy1, .slice ayw1 nyw1 cyw1, .slice ayv1 nyv1 cyv1], RdR ndK ay1 ny1 Hy1 y1, RdR maK ayw1 nyw1 Hyw1 yw1, RdR maK ayv1 nyv1 Hyv1 yv1, blk bka2 56 [.int .i64 0, .slice none 0 0], blk bka1 43 [.slice none 0 0, .slice none 0 0, .slice none 0 0]]) (fun _ h => h.perm (pull (i := 1) rfl)) ?_
  refine callMK (α := Int) (Lf := [srcP bk ca bs cc]) (Lr := [blk bka9 56 [.int .i64 p, .slice ay2 ny2 cy2], OwnR maK 28 2 ay2 ny2 cy2 Hy2 y2, blk bka6 43 [.slice ay1 ny1 cy1, .slice ayw1 nyw1 cyw1, .slice ayv1 nyv1 cyv1], RdR ndK ay1 ny1 Hy1 y1, RdR maK ayw1 nyw1 Hyw1 yw1, RdR maK ayv1 nyv1 Hyv1 yv1, blk bka2 56 [.int .i64 0, .slice none 0 0], blk bka1 43 [.slice none 0 0, .slice none 0 0, .slice none 0 0]]) (good := fun x => 0 ≤ x ∧ (x < (20 : Int) ∨ x = 0)) (φs := fun x => [srcP bk ca bs cc]) (val := fun x => .int .i64 x) rfl Try.call95 trv1 rfl rfl (fun w M1 hs hk => src_next bk ca bs cc (20 : Int) w M1 hs (hk _ kcode) hok) ?_
  intro x3 hx3
  replace hx3 : 0 ≤ x3 ∧ x3 < (20 : Int) := by omega
  try dsimp only at hx3
  refine rPieces (L' := [srcP bk ca bs cc, blk bka9 56 [.int .i64 p, .slice ay2 ny2 cy2], OwnR maK 28 2 ay2 ny2 cy2 Hy2 y2, blk bka6 43 [.slice ay1 ny1 cy1, .slice ayw1 nyw1 cyw1, .slice ayv1 nyv1 cyv1], RdR ndK ay1 ny1 Hy1 y1, RdR maK ayw1 nyw1 Hyw1 yw1, RdR maK ayv1 nyv1 Hyv1 yv1, blk bka2 56 [.int .i64 0, .slice none 0 0], blk bka1 43 [.slice none 0 0, .slice none 0 0, .slice none 0 0]]) (fun _ h => h) ?_
  refine rNil ?_
  refine qSeq rfl ?_
  refine hBlk ?_
  refine hSeq ?_
  refine hReg (sq 0 (sq 1 sz)) (by kernel_rfl) ?_
  refine eql rfl rfl rfl rfl ?_
  refine asB rfl rfl rfl ?_
  refine rNil ?_
  refine qSeq rfl ?_
  refine hIfD rfl (fun c2 => ?_) (fun c2 => ?_)
  ·
   replace c2 : x3 = 0 := c2
   refine hSeq ?_
   refine hReg (sq 0 (sl 1 (sq 2 (sq 3 sz)))) (by kernel_rfl) ?_
   refine fld fl56_1 rfl rfl rfl ?_
   refine ldl Try.isAgg41 (cB 1 rfl rfl) trv rfl rfl rfl ?_
   refine lenS Try.runUnderlying41 rfl rfl rfl ?_
   refine gtr rfl rfl rfl rfl ?_
   refine rNil ?_
   refine qSeq rfl ?_
   refine hIfD rfl (fun c3 => ?_) (fun c3 => ?_)
   ·
    replace c3 : 0 < (ny2 : Int) := c3
    have hdr := Math.drawnP_at hr2.2 (i := 0) (by omega)
    refine hDraw (Ls := [blk bka9 56 [.int .i64 p, .slice ay2 ny2 cy2]]) (by kernel_rfl) (sq 0 (sq 1 (sq 2 (sq 4 (sq 5 (sq 6 (sq 10 (.alt (sl 3 (.alt (sl 7 (sq 8 (.alt (sl 9 (sl 11 (sl 12 (sq 13 (sq 14 (sl 15 sz)))))) (sl 11 (.alt (sl 9 (sl 12 (sq 13 (sq 14 (sl 15 sz))))) (sl 12 (sl 9 (sq 13 (sq 14 (sl 15 sz)))))))))) (sl 11 (.alt (sl 7 (sq 8 (.alt (sl 9 (sl 12 (sq 13 (sq 14 (sl 15 sz))))) (sl 12 (sl 9 (sq 13 (sq 14 (sl 15 sz)))))))) (sl 12 (sl 7 (sq 8 (sl 9 (sq 13 (sq 14 (sl 15 sz))))))))))) (.alt (sl 7 (sq 8 (.alt (sl 3 (.alt (sl 9 (sl 11 (sl 12 (sq 13 (sq 14 (sl 15 sz)))))) (sl 11 (.alt (sl 9 (sl 12 (sq 13 (sq 14 (sl 15 sz))))) (sl 12 (sl 9 (sq 13 (sq 14 (sl 15 sz))))))))) (.alt (sl 9 (.alt (sl 3 (sl 11 (sl 12 (sq 13 (sq 14 (sl 15 sz)))))) (sl 11 (.alt (sl 3 (sl 12 (sq 13 (sq 14 (sl 15 sz))))) (sl 12 (sq 13 (sl 3 (sq 14 (sl 15 sz))))))))) (sl 11 (.alt (sl 3 (.alt (sl 9 (sl 12 (sq 13 (sq 14 (sl 15 sz))))) (sl 12 (sl 9 (sq 13 (sq 14 (sl 15 sz))))))) (.alt (sl 9 (.alt (sl 3 (sl 12 (sq 13 (sq 14 (sl 15 sz))))) (sl 12 (sq 13 (sl 3 (sq 14 (sl 15 sz))))))) (sl 12 (.alt (sl 3 (sl 9 (sq 13 (sq 14 (sl 15 sz))))) (sl 9 (sq 13 (sl 3 (sq 14 (sl 15 sz)))))))))))))) (sl 11 (.alt (sl 3 (.alt (sl 7 (sq 8 (.alt (sl 9 (sl 12 (sq 13 (sq 14 (sl 15 sz))))) (sl 12 (sl 9 (sq 13 (sq 14 (sl 15 sz)))))))) (sl 12 (sl 7 (sq 8 (sl 9 (sq 13 (sq 14 (sl 15 sz))))))))) (.alt (sl 7 (sq 8 (.alt (sl 3 (.alt (sl 9 (sl 12 (sq 13 (sq 14 (sl 15 sz))))) (sl 12 (sl 9 (sq 13 (sq 14 (sl 15 sz))))))) (.alt (sl 9 (.alt (sl 3 (sl 12 (sq 13 (sq 14 (sl 15 sz))))) (sl 12 (sq 13 (sl 3 (sq 14 (sl 15 sz))))))) (sl 12 (.alt (sl 3 (sl 9 (sq 13 (sq 14 (sl 15 sz))))) (sl 9 (sq 13 (sl 3 (sq 14 (sl 15 sz))))))))))) (sl 12 (.alt (sl 3 (sl 7 (sq 8 (sl 9 (sq 13 (sq 14 (sl 15 sz))))))) (sl 7 (sq 8 (.alt (sl 3 (sl 9 (sq 13 (sq 14 (sl 15 sz))))) (sl 9 (sq 13 (sl 3 (sq 14 (sl 15 sz)))))))))))))))))))))) (by kernel_rfl) (.cons _ (.cons_cons _ (.cons _ (.cons _ (.cons _ (.cons _ (.cons _ (.cons _ (.cons _ .slnil))))))))) ?_
    refine fld fl56_1 rfl rfl rfl ?_
    refine ldq Try.isAgg41 (cB 0 rfl rfl) rfl rfl rfl ?_
    refine ixRl (zn := 0) (y2.getD 0 []) el41 ((Kn.at_ 2 rfl).imp fun _ h => OwnR.rd h maK.ok) rfl rfl rfl rfl (by omega) (by omega) rfl (nth [] (by omega)) ?_
    intro be4 oe4 e4
    refine fld fl56_1 rfl rfl rfl ?_
    refine ldq Try.isAgg41 (cB 0 rfl rfl) rfl rfl rfl ?_
    refine ixRl (zn := 0) (y2.getD 0 []) el41 ((Kn.at_ 2 rfl).imp fun _ h => OwnR.rd h maK.ok) rfl rfl rfl rfl (by omega) (by omega) rfl (nth [] (by omega)) ?_
    intro be5 oe5 e5
    refine mvP rfl rfl rfl ?_
    refine rAlt ?_ ?_
    ·
     refine ldl Try.isAgg28 (Kn.fld e4 0 rfl) (fun _ h => h.pick [1]) rfl rfl rfl ?_
     refine rAlt ?_ ?_
     ·
      refine ldl Try.isAgg28 (Kn.fld e5 0 rfl) (fun _ h => h.pick [1]) rfl rfl rfl ?_
      refine ixIl (zn := 0) el28 ((Kn.imp ((Kn.at_ (φ := OwnR maK 28 2 ay2 ny2 cy2 Hy2 y2) 2 rfl).imp fun _ h => OwnR.rd h maK.ok) fun _ h => h.kidM (nth [] (by omega)))) rfl rfl rfl rfl (by omega) (by omega) rfl ?_
      intro ae6 e6
      refine rAlt ?_ ?_
      ·
       refine ldl Try.isAgg2 (e6) (fun _ h => h.pick [1]) rfl rfl rfl ?_
       refine bsl (fun _ _ h => h.pick [2]) rfl rfl rfl (bsl28_3 (.int .i64 _) (.int .i64 _) (.int .i64 _) rfl rfl rfl) (fun bkl10 hbkl10 => ?_)
       refine rPieces (L' := [srcP bk ca bs cc, blk bkl10 2 [.int .i64 (-1), .int .i64 1, .int .i64 60], blk bka9 56 [.int .i64 p, .slice ay2 ny2 cy2], OwnR maK 28 2 ay2 ny2 cy2 Hy2 y2, blk bka6 43 [.slice ay1 ny1 cy1, .slice ayw1 nyw1 cyw1, .slice ayv1 nyv1 cyv1], RdR ndK ay1 ny1 Hy1 y1, RdR maK ayw1 nyw1 Hyw1 yw1, RdR maK ayv1 nyv1 Hyv1 yv1, blk bka2 56 [.int .i64 0, .slice none 0 0], blk bka1 43 [.slice none 0 0, .slice none 0 0, .slice none 0 0]]) (fun _ h => h.perm (pull (i := 1) rfl)) ?_
       refine callMK (α := Int) (Lf := [srcP bk ca bs cc, blk bkl10 2 [.int .i64 (-1), .int .i64 1, .int .i64 60]]) (Lr := [blk bka9 56 [.int .i64 p, .slice ay2 ny2 cy2], OwnR maK 28 2 ay2 ny2 cy2 Hy2 y2, blk bka6 43 [.slice ay1 ny1 cy1, .slice ayw1 nyw1 cyw1, .slice ayv1 nyv1 cyv1], RdR ndK ay1 ny1 Hy1 y1, RdR maK ayw1 nyw1 Hyw1 yw1, RdR maK ayv1 nyv1 Hyv1 yv1, blk bka2 56 [.int .i64 0, .slice none 0 0], blk bka1 43 [.slice none 0 0, .slice none 0 0, .slice none 0 0]]) (good := fun x => x ∈ ([.int .i64 (-1), .int .i64 1, .int .i64 60] : List Value).map toI) (φs := fun x => [srcP bk ca bs cc, blk bkl10 2 [.int .i64 (-1), .int .i64 1, .int .i64 60]]) (val := fun x => .int .i64 x) rfl Try.call155 (by exact (fun _ _ h => h.pick [2])) rfl rfl (fun w M1 hs hk => src_pick bk ca bs cc bkl10 2 3 3 [.int .i64 (-1), .int .i64 1, .int .i64 60] w M1 hs (hk _ kcode) hok rfl rfl (by decide)) ?_
       intro x7 hx7
       try dsimp only at hx7
       refine rPieces (L' := [srcP bk ca bs cc, blk bkl10 2 [.int .i64 (-1), .int .i64 1, .int .i64 60], blk bka9 56 [.int .i64 p, .slice ay2 ny2 cy2], OwnR maK 28 2 ay2 ny2 cy2 Hy2 y2, blk bka6 43 [.slice ay1 ny1 cy1, .slice ayw1 nyw1 cyw1, .slice ayv1 nyv1 cyv1], RdR ndK ay1 ny1 Hy1 y1, RdR maK ayw1 nyw1 Hyw1 yw1, RdR maK ayv1 nyv1 Hyv1 yv1, blk bka2 56 [.int .i64 0, .slice none 0 0], blk bka1 43 [.slice none 0 0, .slice none 0 0, .slice none 0 0]]) (fun _ h => h) ?_
       replace hx7 : (-1 : Int) ≤ x7 ∧ x7 ≤ (60 : Int) := by have hm_ := hx7; simp [toI] at hm_; omega
       refine rPieces (L' := [blk bkl10 2 [.int .i64 (-1), .int .i64 1, .int .i64 60], srcP bk ca bs cc, blk bka9 56 [.int .i64 p, .slice ay2 ny2 cy2], OwnR maK 28 2 ay2 ny2 cy2 Hy2 y2, blk bka6 43 [.slice ay1 ny1 cy1, .slice ayw1 nyw1 cyw1, .slice ayv1 nyv1 cyv1], RdR ndK ay1 ny1 Hy1 y1, RdR maK ayw1 nyw1 Hyw1 yw1, RdR maK ayv1 nyv1 Hyv1 yv1, blk bka2 56 [.int .i64 0, .slice none 0 0], blk bka1 43 [.slice none 0 0, .slice none 0 0, .slice none 0 0]]) (fun _ h => h.perm (pull (i := 1) rfl)) ?_
       refine add rfl rfl rfl rfl (by omega) ?_
       refine rPieces (L' := [OwnR maK 28 2 ay2 ny2 cy2 Hy2 y2, blk bkl10 2 [.int .i64 (-1), .int .i64 1, .int .i64 60], srcP bk ca bs cc, blk bka9 56 [.int .i64 p, .slice ay2 ny2 cy2], blk bka6 43 [.slice ay1 ny1 cy1, .slice ayw1 nyw1 cyw1, .slice ayv1 nyv1 cyv1], RdR ndK ay1 ny1 Hy1 y1, RdR maK ayw1 nyw1 Hyw1 yw1, RdR maK ayv1 nyv1 Hyv1 yv1, blk bka2 56 [.int .i64 0, .slice none 0 0], blk bka1 43 [.slice none 0 0, .slice none 0 0, .slice none 0 0]]) (fun _ h => h.pick [3, 0, 0, 0, 0, 0, 0, 0, 0, 0]) ?_
       refine rPieces (L' := [OwnI 2 ((Hy2 0).1) ((y2.getD 0 []).length) ((Hy2 0).2) (y2.getD 0 []), OwnH maK 28 2 ay2 ny2 cy2 Hy2 y2 0, blk bkl10 2 [.int .i64 (-1), .int .i64 1, .int .i64 60], srcP bk ca bs cc, blk bka9 56 [.int .i64 p, .slice ay2 ny2 cy2], blk bka6 43 [.slice ay1 ny1 cy1, .slice ayw1 nyw1 cyw1, .slice ayv1 nyv1 cyv1], RdR ndK ay1 ny1 Hy1 y1, RdR maK ayw1 nyw1 Hyw1 yw1, RdR maK ayv1 nyv1 Hyv1 yv1, blk bka2 56 [.int .i64 0, .slice none 0 0], blk bka1 43 [.slice none 0 0, .slice none 0 0, .slice none 0 0]]) (fun _ h => Sep.lend h 0 (y2.getD 0 []) (nth [] (by omega))) ?_
       refine oxI (zn := 0) 0 rfl el28 rfl rfl rfl rfl (by omega) (by omega) rfl ?_
       intro gk8 hgk8
       refine stoI (off := 0) (x := (((y2.getD 0 []).getD 0 0) + x7)) 0 rfl hgk8 Try.sizeOf2 (fun _ h => h.pick [4]) rfl rfl rfl rfl (by omega) ?_
       refine rPieces (L' := [OwnR maK 28 2 ay2 ny2 cy2 Hy2 ((y2.set 0 (((y2.getD 0 []).set 0 ((((y2.getD 0 []).getD 0 0) + x7)))))), blk bkl10 2 [.int .i64 (-1), .int .i64 1, .int .i64 60], srcP bk ca bs cc, blk bka9 56 [.int .i64 p, .slice ay2 ny2 cy2], blk bka6 43 [.slice ay1 ny1 cy1, .slice ayw1 nyw1 cyw1, .slice ayv1 nyv1 cyv1], RdR ndK ay1 ny1 Hy1 y1, RdR maK ayw1 nyw1 Hyw1 yw1, RdR maK ayv1 nyv1 Hyv1 yv1, blk bka2 56 [.int .i64 0, .slice none 0 0], blk bka1 43 [.slice none 0 0, .slice none 0 0, .slice none 0 0]]) (fun _ h => Sep.back (x := (y2.getD 0 [])) ((y2.getD 0 []).set 0 ((((y2.getD 0 []).getD 0 0) + x7))) maK.ok h (nth [] (by omega)) (fun h1 h2 => by dsimp only [ndK, ndC, maK] at h1 h2 ⊢; rw [h1, h2]) rfl rfl) ?_
       refine rNil ?_
       refine qSeq rfl ?_
       refine hSeq ?_
       refine hDraw (Ls := [blk bka9 56 [.int .i64 p, .slice ay2 ny2 cy2], blk bka6 43 [.slice ay1 ny1 cy1, .slice ayw1 nyw1 cyw1, .slice ayv1 nyv1 cyv1]]) (by kernel_rfl) (sq 0 (sq 1 (sl 2 (sf 3 sz)))) (by kernel_rfl) (.cons _ (.cons _ (.cons _ (.cons_cons _ (.cons_cons _ (.cons _ (.cons _ (.cons _ (.cons _ (.cons _ .slnil)))))))))) ?_
       refine ldAq Try.isAgg43 Try.sizeOf43 (cBs 1 rfl) rfl rfl rfl rfl ?_
       refine ldAq Try.isAgg56 Try.sizeOf56 (cBs 0 rfl) rfl rfl rfl rfl ?_
       refine stAl (vs := [.slice ay1 ny1 cy1, .slice ayw1 nyw1 cyw1, .slice ayv1 nyv1 cyv1]) 9 rfl Try.sizeOf43 (fun _ h => h.pick [3, 3]) rfl rfl rfl rfl rfl (by simp [Value.oneCell']) rfl ?_
       refine stAf (vs := [.int .i64 p, .slice ay2 ny2 cy2]) 8 rfl Try.sizeOf56 rfl rfl rfl rfl rfl (by simp [Value.oneCell']) rfl ?_
       refine rNil ?_
       refine qSeq rfl ?_
       refine hRet ?_
       exact fun w hs => ⟨[_, _], ⟨⟨_, rfl, run_load_agg Try.isAgg43 Try.sizeOf43 rfl (cBs 9 rfl w hs)⟩, ⟨⟨_, rfl, run_load_agg Try.isAgg56 Try.sizeOf56 rfl (cBs 8 rfl w hs)⟩, trivial⟩⟩, ⟨(ay1, ny1, cy1, Hy1, y1, ayw1, nyw1, cyw1, Hyw1, yw1, ayv1, nyv1, cyv1, Hyv1, yv1, p, ay2, ny2, cy2, Hy2, (y2.set 0 (((y2.getD 0 []).set 0 ((((y2.getD 0 []).getD 0 0) + x7)))))), rfl, ⟨⟨by dsimp only; omega, ⟨by dsimp only; omega, by dsimp only; omega⟩, by dsimp only; omega⟩, by dsimp only; omega, by dsimp only; omega⟩, hs.pick [2, 4, 4, 4, 0]⟩⟩
      ·
       refine bsl (fun _ _ h => h.pick [2]) rfl rfl rfl (bsl28_3 (.int .i64 _) (.int .i64 _) (.int .i64 _) rfl rfl rfl) (fun bkl13 hbkl13 => ?_)
       refine rAlt ?_ ?_
       ·
        refine ldl Try.isAgg2 (Kn.drop (k := 1) e6) (fun _ h => h.pick [2]) rfl rfl rfl ?_
        refine rPieces (L' := [srcP bk ca bs cc, blk bkl13 2 [.int .i64 (-1), .int .i64 1, .int .i64 60], blk bka9 56 [.int .i64 p, .slice ay2 ny2 cy2], OwnR maK 28 2 ay2 ny2 cy2 Hy2 y2, blk bka6 43 [.slice ay1 ny1 cy1, .slice ayw1 nyw1 cyw1, .slice ayv1 nyv1 cyv1], RdR ndK ay1 ny1 Hy1 y1, RdR maK ayw1 nyw1 Hyw1 yw1, RdR maK ayv1 nyv1 Hyv1 yv1, blk bka2 56 [.int .i64 0, .slice none 0 0], blk bka1 43 [.slice none 0 0, .slice none 0 0, .slice none 0 0]]) (fun _ h => h.perm (pull (i := 1) rfl)) ?_
        refine callMK (α := Int) (Lf := [srcP bk ca bs cc, blk bkl13 2 [.int .i64 (-1), .int .i64 1, .int .i64 60]]) (Lr := [blk bka9 56 [.int .i64 p, .slice ay2 ny2 cy2], OwnR maK 28 2 ay2 ny2 cy2 Hy2 y2, blk bka6 43 [.slice ay1 ny1 cy1, .slice ayw1 nyw1 cyw1, .slice ayv1 nyv1 cyv1], RdR ndK ay1 ny1 Hy1 y1, RdR maK ayw1 nyw1 Hyw1 yw1, RdR maK ayv1 nyv1 Hyv1 yv1, blk bka2 56 [.int .i64 0, .slice none 0 0], blk bka1 43 [.slice none 0 0, .slice none 0 0, .slice none 0 0]]) (good := fun x => x ∈ ([.int .i64 (-1), .int .i64 1, .int .i64 60] : List Value).map toI) (φs := fun x => [srcP bk ca bs cc, blk bkl13 2 [.int .i64 (-1), .int .i64 1, .int .i64 60]]) (val := fun x => .int .i64 x) rfl Try.call155 (by exact (fun _ _ h => h.pick [2])) rfl rfl (fun w M1 hs hk => src_pick bk ca bs cc bkl13 2 3 3 [.int .i64 (-1), .int .i64 1, .int .i64 60] w M1 hs (hk _ kcode) hok rfl rfl (by decide)) ?_
        intro x9 hx9
        try dsimp only at hx9
        refine rPieces (L' := [srcP bk ca bs cc, blk bkl13 2 [.int .i64 (-1), .int .i64 1, .int .i64 60], blk bka9 56 [.int .i64 p, .slice ay2 ny2 cy2], OwnR maK 28 2 ay2 ny2 cy2 Hy2 y2, blk bka6 43 [.slice ay1 ny1 cy1, .slice ayw1 nyw1 cyw1, .slice ayv1 nyv1 cyv1], RdR ndK ay1 ny1 Hy1 y1, RdR maK ayw1 nyw1 Hyw1 yw1, RdR maK ayv1 nyv1 Hyv1 yv1, blk bka2 56 [.int .i64 0, .slice none 0 0], blk bka1 43 [.slice none 0 0, .slice none 0 0, .slice none 0 0]]) (fun _ h => h) ?_
        replace hx9 : (-1 : Int) ≤ x9 ∧ x9 ≤ (60 : Int) := by have hm_ := hx9; simp [toI] at hm_; omega
        refine rPieces (L' := [blk bkl13 2 [.int .i64 (-1), .int .i64 1, .int .i64 60], srcP bk ca bs cc, blk bka9 56 [.int .i64 p, .slice ay2 ny2 cy2], OwnR maK 28 2 ay2 ny2 cy2 Hy2 y2, blk bka6 43 [.slice ay1 ny1 cy1, .slice ayw1 nyw1 cyw1, .slice ayv1 nyv1 cyv1], RdR ndK ay1 ny1 Hy1 y1, RdR maK ayw1 nyw1 Hyw1 yw1, RdR maK ayv1 nyv1 Hyv1 yv1, blk bka2 56 [.int .i64 0, .slice none 0 0], blk bka1 43 [.slice none 0 0, .slice none 0 0, .slice none 0 0]]) (fun _ h => h.perm (pull (i := 1) rfl)) ?_
        refine add rfl rfl rfl rfl (by omega) ?_
        refine rPieces (L' := [OwnR maK 28 2 ay2 ny2 cy2 Hy2 y2, blk bkl13 2 [.int .i64 (-1), .int .i64 1, .int .i64 60], srcP bk ca bs cc, blk bka9 56 [.int .i64 p, .slice ay2 ny2 cy2], blk bka6 43 [.slice ay1 ny1 cy1, .slice ayw1 nyw1 cyw1, .slice ayv1 nyv1 cyv1], RdR ndK ay1 ny1 Hy1 y1, RdR maK ayw1 nyw1 Hyw1 yw1, RdR maK ayv1 nyv1 Hyv1 yv1, blk bka2 56 [.int .i64 0, .slice none 0 0], blk bka1 43 [.slice none 0 0, .slice none 0 0, .slice none 0 0]]) (fun _ h => h.pick [3, 0, 0, 0, 0, 0, 0, 0, 0, 0]) ?_
        refine rPieces (L' := [OwnI 2 ((Hy2 0).1) ((y2.getD 0 []).length) ((Hy2 0).2) (y2.getD 0 []), OwnH maK 28 2 ay2 ny2 cy2 Hy2 y2 0, blk bkl13 2 [.int .i64 (-1), .int .i64 1, .int .i64 60], srcP bk ca bs cc, blk bka9 56 [.int .i64 p, .slice ay2 ny2 cy2], blk bka6 43 [.slice ay1 ny1 cy1, .slice ayw1 nyw1 cyw1, .slice ayv1 nyv1 cyv1], RdR ndK ay1 ny1 Hy1 y1, RdR maK ayw1 nyw1 Hyw1 yw1, RdR maK ayv1 nyv1 Hyv1 yv1, blk bka2 56 [.int .i64 0, .slice none 0 0], blk bka1 43 [.slice none 0 0, .slice none 0 0, .slice none 0 0]]) (fun _ h => Sep.lend h 0 (y2.getD 0 []) (nth [] (by omega))) ?_
        refine oxI (zn := 0) 0 rfl el28 rfl rfl rfl rfl (by omega) (by omega) rfl ?_
        intro gk10 hgk10
        refine stoI (off := 0) (x := (((y2.getD 0 []).getD 0 0) + x9)) 0 rfl hgk10 Try.sizeOf2 (fun _ h => h.pick [4]) rfl rfl rfl rfl (by omega) ?_
        refine rPieces (L' := [OwnR maK 28 2 ay2 ny2 cy2 Hy2 ((y2.set 0 (((y2.getD 0 []).set 0 ((((y2.getD 0 []).getD 0 0) + x9)))))), blk bkl13 2 [.int .i64 (-1), .int .i64 1, .int .i64 60], srcP bk ca bs cc, blk bka9 56 [.int .i64 p, .slice ay2 ny2 cy2], blk bka6 43 [.slice ay1 ny1 cy1, .slice ayw1 nyw1 cyw1, .slice ayv1 nyv1 cyv1], RdR ndK ay1 ny1 Hy1 y1, RdR maK ayw1 nyw1 Hyw1 yw1, RdR maK ayv1 nyv1 Hyv1 yv1, blk bka2 56 [.int .i64 0, .slice none 0 0], blk bka1 43 [.slice none 0 0, .slice none 0 0, .slice none 0 0]]) (fun _ h => Sep.back (x := (y2.getD 0 [])) ((y2.getD 0 []).set 0 ((((y2.getD 0 []).getD 0 0) + x9))) maK.ok h (nth [] (by omega)) (fun h1 h2 => by dsimp only [ndK, ndC, maK] at h1 h2 ⊢; rw [h1, h2]) rfl rfl) ?_
        refine rNil ?_
        refine qSeq rfl ?_
        refine hSeq ?_
        refine hDraw (Ls := [blk bka9 56 [.int .i64 p, .slice ay2 ny2 cy2], blk bka6 43 [.slice ay1 ny1 cy1, .slice ayw1 nyw1 cyw1, .slice ayv1 nyv1 cyv1]]) (by kernel_rfl) (sq 0 (sq 1 (sl 2 (sf 3 sz)))) (by kernel_rfl) (.cons _ (.cons _ (.cons _ (.cons_cons _ (.cons_cons _ (.cons _ (.cons _ (.cons _ (.cons _ (.cons _ .slnil)))))))))) ?_
        refine ldAq Try.isAgg43 Try.sizeOf43 (cBs 1 rfl) rfl rfl rfl rfl ?_
        refine ldAq Try.isAgg56 Try.sizeOf56 (cBs 0 rfl) rfl rfl rfl rfl ?_
        refine stAl (vs := [.slice ay1 ny1 cy1, .slice ayw1 nyw1 cyw1, .slice ayv1 nyv1 cyv1]) 9 rfl Try.sizeOf43 (fun _ h => h.pick [3, 3]) rfl rfl rfl rfl rfl (by simp [Value.oneCell']) rfl ?_
        refine stAf (vs := [.int .i64 p, .slice ay2 ny2 cy2]) 8 rfl Try.sizeOf56 rfl rfl rfl rfl rfl (by simp [Value.oneCell']) rfl ?_
        refine rNil ?_
        refine qSeq rfl ?_
        refine hRet ?_
        exact fun w hs => ⟨[_, _], ⟨⟨_, rfl, run_load_agg Try.isAgg43 Try.sizeOf43 rfl (cBs 9 rfl w hs)⟩, ⟨⟨_, rfl, run_load_agg Try.isAgg56 Try.sizeOf56 rfl (cBs 8 rfl w hs)⟩, trivial⟩⟩, ⟨(ay1, ny1, cy1, Hy1, y1, ayw1, nyw1, cyw1, Hyw1, yw1, ayv1, nyv1, cyv1, Hyv1, yv1, p, ay2, ny2, cy2, Hy2, (y2.set 0 (((y2.getD 0 []).set 0 ((((y2.getD 0 []).getD 0 0) + x9)))))), rfl, ⟨⟨by dsimp only; omega, ⟨by dsimp only; omega, by dsimp only; omega⟩, by dsimp only; omega⟩, by dsimp only; omega, by dsimp only; omega⟩, hs.pick [2, 4, 4, 4, 0]⟩⟩
       ·
        refine rPieces (L' := [srcP bk ca bs cc, blk bkl13 2 [.int .i64 (-1), .int .i64 1, .int .i64 60], blk bka9 56 [.int .i64 p, .slice ay2 ny2 cy2], OwnR maK 28 2 ay2 ny2 cy2 Hy2 y2, blk bka6 43 [.slice ay1 ny1 cy1, .slice ayw1 nyw1 cyw1, .slice ayv1 nyv1 cyv1], RdR ndK ay1 ny1 Hy1 y1, RdR maK ayw1 nyw1 Hyw1 yw1, RdR maK ayv1 nyv1 Hyv1 yv1, blk bka2 56 [.int .i64 0, .slice none 0 0], blk bka1 43 [.slice none 0 0, .slice none 0 0, .slice none 0 0]]) (fun _ h => h.perm (pull (i := 1) rfl)) ?_
        refine callMK (α := Int) (Lf := [srcP bk ca bs cc, blk bkl13 2 [.int .i64 (-1), .int .i64 1, .int .i64 60]]) (Lr := [blk bka9 56 [.int .i64 p, .slice ay2 ny2 cy2], OwnR maK 28 2 ay2 ny2 cy2 Hy2 y2, blk bka6 43 [.slice ay1 ny1 cy1, .slice ayw1 nyw1 cyw1, .slice ayv1 nyv1 cyv1], RdR ndK ay1 ny1 Hy1 y1, RdR maK ayw1 nyw1 Hyw1 yw1, RdR maK ayv1 nyv1 Hyv1 yv1, blk bka2 56 [.int .i64 0, .slice none 0 0], blk bka1 43 [.slice none 0 0, .slice none 0 0, .slice none 0 0]]) (good := fun x => x ∈ ([.int .i64 (-1), .int .i64 1, .int .i64 60] : List Value).map toI) (φs := fun x => [srcP bk ca bs cc, blk bkl13 2 [.int .i64 (-1), .int .i64 1, .int .i64 60]]) (val := fun x => .int .i64 x) rfl Try.call155 (by exact (fun _ _ h => h.pick [2])) rfl rfl (fun w M1 hs hk => src_pick bk ca bs cc bkl13 2 3 3 [.int .i64 (-1), .int .i64 1, .int .i64 60] w M1 hs (hk _ kcode) hok rfl rfl (by decide)) ?_
        intro x11 hx11
        try dsimp only at hx11
        refine rPieces (L' := [srcP bk ca bs cc, blk bkl13 2 [.int .i64 (-1), .int .i64 1, .int .i64 60], blk bka9 56 [.int .i64 p, .slice ay2 ny2 cy2], OwnR maK 28 2 ay2 ny2 cy2 Hy2 y2, blk bka6 43 [.slice ay1 ny1 cy1, .slice ayw1 nyw1 cyw1, .slice ayv1 nyv1 cyv1], RdR ndK ay1 ny1 Hy1 y1, RdR maK ayw1 nyw1 Hyw1 yw1, RdR maK ayv1 nyv1 Hyv1 yv1, blk bka2 56 [.int .i64 0, .slice none 0 0], blk bka1 43 [.slice none 0 0, .slice none 0 0, .slice none 0 0]]) (fun _ h => h) ?_
        replace hx11 : (-1 : Int) ≤ x11 ∧ x11 ≤ (60 : Int) := by have hm_ := hx11; simp [toI] at hm_; omega
        refine rPieces (L' := [blk bkl13 2 [.int .i64 (-1), .int .i64 1, .int .i64 60], srcP bk ca bs cc, blk bka9 56 [.int .i64 p, .slice ay2 ny2 cy2], OwnR maK 28 2 ay2 ny2 cy2 Hy2 y2, blk bka6 43 [.slice ay1 ny1 cy1, .slice ayw1 nyw1 cyw1, .slice ayv1 nyv1 cyv1], RdR ndK ay1 ny1 Hy1 y1, RdR maK ayw1 nyw1 Hyw1 yw1, RdR maK ayv1 nyv1 Hyv1 yv1, blk bka2 56 [.int .i64 0, .slice none 0 0], blk bka1 43 [.slice none 0 0, .slice none 0 0, .slice none 0 0]]) (fun _ h => h.perm (pull (i := 1) rfl)) ?_
        refine ldl Try.isAgg2 (Kn.drop (k := 1) e6) (fun _ h => h.pick [2]) rfl rfl rfl ?_
        refine add rfl rfl rfl rfl (by omega) ?_
        refine rPieces (L' := [OwnR maK 28 2 ay2 ny2 cy2 Hy2 y2, blk bkl13 2 [.int .i64 (-1), .int .i64 1, .int .i64 60], srcP bk ca bs cc, blk bka9 56 [.int .i64 p, .slice ay2 ny2 cy2], blk bka6 43 [.slice ay1 ny1 cy1, .slice ayw1 nyw1 cyw1, .slice ayv1 nyv1 cyv1], RdR ndK ay1 ny1 Hy1 y1, RdR maK ayw1 nyw1 Hyw1 yw1, RdR maK ayv1 nyv1 Hyv1 yv1, blk bka2 56 [.int .i64 0, .slice none 0 0], blk bka1 43 [.slice none 0 0, .slice none 0 0, .slice none 0 0]]) (fun _ h => h.pick [3, 0, 0, 0, 0, 0, 0, 0, 0, 0]) ?_
        refine rPieces (L' := [OwnI 2 ((Hy2 0).1) ((y2.getD 0 []).length) ((Hy2 0).2) (y2.getD 0 []), OwnH maK 28 2 ay2 ny2 cy2 Hy2 y2 0, blk bkl13 2 [.int .i64 (-1), .int .i64 1, .int .i64 60], srcP bk ca bs cc, blk bka9 56 [.int .i64 p, .slice ay2 ny2 cy2], blk bka6 43 [.slice ay1 ny1 cy1, .slice ayw1 nyw1 cyw1, .slice ayv1 nyv1 cyv1], RdR ndK ay1 ny1 Hy1 y1, RdR maK ayw1 nyw1 Hyw1 yw1, RdR maK ayv1 nyv1 Hyv1 yv1, blk bka2 56 [.int .i64 0, .slice none 0 0], blk bka1 43 [.slice none 0 0, .slice none 0 0, .slice none 0 0]]) (fun _ h => Sep.lend h 0 (y2.getD 0 []) (nth [] (by omega))) ?_
        refine oxI (zn := 0) 0 rfl el28 rfl rfl rfl rfl (by omega) (by omega) rfl ?_
        intro gk12 hgk12
        refine stoI (off := 0) (x := (((y2.getD 0 []).getD 0 0) + x11)) 0 rfl hgk12 Try.sizeOf2 (fun _ h => h.pick [4]) rfl rfl rfl rfl (by omega) ?_
        refine rPieces (L' := [OwnR maK 28 2 ay2 ny2 cy2 Hy2 ((y2.set 0 (((y2.getD 0 []).set 0 ((((y2.getD 0 []).getD 0 0) + x11)))))), blk bkl13 2 [.int .i64 (-1), .int .i64 1, .int .i64 60], srcP bk ca bs cc, blk bka9 56 [.int .i64 p, .slice ay2 ny2 cy2], blk bka6 43 [.slice ay1 ny1 cy1, .slice ayw1 nyw1 cyw1, .slice ayv1 nyv1 cyv1], RdR ndK ay1 ny1 Hy1 y1, RdR maK ayw1 nyw1 Hyw1 yw1, RdR maK ayv1 nyv1 Hyv1 yv1, blk bka2 56 [.int .i64 0, .slice none 0 0], blk bka1 43 [.slice none 0 0, .slice none 0 0, .slice none 0 0]]) (fun _ h => Sep.back (x := (y2.getD 0 [])) ((y2.getD 0 []).set 0 ((((y2.getD 0 []).getD 0 0) + x11))) maK.ok h (nth [] (by omega)) (fun h1 h2 => by dsimp only [ndK, ndC, maK] at h1 h2 ⊢; rw [h1, h2]) rfl rfl) ?_
        refine rNil ?_
        refine qSeq rfl ?_
        refine hSeq ?_
        refine hDraw (Ls := [blk bka9 56 [.int .i64 p, .slice ay2 ny2 cy2], blk bka6 43 [.slice ay1 ny1 cy1, .slice ayw1 nyw1 cyw1, .slice ayv1 nyv1 cyv1]]) (by kernel_rfl) (sq 0 (sq 1 (sl 2 (sf 3 sz)))) (by kernel_rfl) (.cons _ (.cons _ (.cons _ (.cons_cons _ (.cons_cons _ (.cons _ (.cons _ (.cons _ (.cons _ (.cons _ .slnil)))))))))) ?_
        refine ldAq Try.isAgg43 Try.sizeOf43 (cBs 1 rfl) rfl rfl rfl rfl ?_
        refine ldAq Try.isAgg56 Try.sizeOf56 (cBs 0 rfl) rfl rfl rfl rfl ?_
        refine stAl (vs := [.slice ay1 ny1 cy1, .slice ayw1 nyw1 cyw1, .slice ayv1 nyv1 cyv1]) 9 rfl Try.sizeOf43 (fun _ h => h.pick [3, 3]) rfl rfl rfl rfl rfl (by simp [Value.oneCell']) rfl ?_
        refine stAf (vs := [.int .i64 p, .slice ay2 ny2 cy2]) 8 rfl Try.sizeOf56 rfl rfl rfl rfl rfl (by simp [Value.oneCell']) rfl ?_
        refine rNil ?_
        refine qSeq rfl ?_
        refine hRet ?_
        exact fun w hs => ⟨[_, _], ⟨⟨_, rfl, run_load_agg Try.isAgg43 Try.sizeOf43 rfl (cBs 9 rfl w hs)⟩, ⟨⟨_, rfl, run_load_agg Try.isAgg56 Try.sizeOf56 rfl (cBs 8 rfl w hs)⟩, trivial⟩⟩, ⟨(ay1, ny1, cy1, Hy1, y1, ayw1, nyw1, cyw1, Hyw1, yw1, ayv1, nyv1, cyv1, Hyv1, yv1, p, ay2, ny2, cy2, Hy2, (y2.set 0 (((y2.getD 0 []).set 0 ((((y2.getD 0 []).getD 0 0) + x11)))))), rfl, ⟨⟨by dsimp only; omega, ⟨by dsimp only; omega, by dsimp only; omega⟩, by dsimp only; omega⟩, by dsimp only; omega, by dsimp only; omega⟩, hs.pick [2, 4, 4, 4, 0]⟩⟩
     ·
      refine bsl (fun _ _ h => h.pick [2]) rfl rfl rfl (bsl28_3 (.int .i64 _) (.int .i64 _) (.int .i64 _) rfl rfl rfl) (fun bkl18 hbkl18 => ?_)
      refine rAlt ?_ ?_
      ·
       refine ldl Try.isAgg28 (Kn.drop (k := 1) (Kn.fld e5 0 rfl)) (fun _ h => h.pick [2]) rfl rfl rfl ?_
       refine ixIl (zn := 0) el28 (Kn.drop (k := 1) ((Kn.imp ((Kn.at_ (φ := OwnR maK 28 2 ay2 ny2 cy2 Hy2 y2) 2 rfl).imp fun _ h => OwnR.rd h maK.ok) fun _ h => h.kidM (nth [] (by omega))))) rfl rfl rfl rfl (by omega) (by omega) rfl ?_
       intro ae13 e13
       refine rAlt ?_ ?_
       ·
        refine ldl Try.isAgg2 (e13) (fun _ h => h.pick [2]) rfl rfl rfl ?_
        refine rPieces (L' := [srcP bk ca bs cc, blk bkl18 2 [.int .i64 (-1), .int .i64 1, .int .i64 60], blk bka9 56 [.int .i64 p, .slice ay2 ny2 cy2], OwnR maK 28 2 ay2 ny2 cy2 Hy2 y2, blk bka6 43 [.slice ay1 ny1 cy1, .slice ayw1 nyw1 cyw1, .slice ayv1 nyv1 cyv1], RdR ndK ay1 ny1 Hy1 y1, RdR maK ayw1 nyw1 Hyw1 yw1, RdR maK ayv1 nyv1 Hyv1 yv1, blk bka2 56 [.int .i64 0, .slice none 0 0], blk bka1 43 [.slice none 0 0, .slice none 0 0, .slice none 0 0]]) (fun _ h => h.perm (pull (i := 1) rfl)) ?_
        refine callMK (α := Int) (Lf := [srcP bk ca bs cc, blk bkl18 2 [.int .i64 (-1), .int .i64 1, .int .i64 60]]) (Lr := [blk bka9 56 [.int .i64 p, .slice ay2 ny2 cy2], OwnR maK 28 2 ay2 ny2 cy2 Hy2 y2, blk bka6 43 [.slice ay1 ny1 cy1, .slice ayw1 nyw1 cyw1, .slice ayv1 nyv1 cyv1], RdR ndK ay1 ny1 Hy1 y1, RdR maK ayw1 nyw1 Hyw1 yw1, RdR maK ayv1 nyv1 Hyv1 yv1, blk bka2 56 [.int .i64 0, .slice none 0 0], blk bka1 43 [.slice none 0 0, .slice none 0 0, .slice none 0 0]]) (good := fun x => x ∈ ([.int .i64 (-1), .int .i64 1, .int .i64 60] : List Value).map toI) (φs := fun x => [srcP bk ca bs cc, blk bkl18 2 [.int .i64 (-1), .int .i64 1, .int .i64 60]]) (val := fun x => .int .i64 x) rfl Try.call155 (by exact (fun _ _ h => h.pick [2])) rfl rfl (fun w M1 hs hk => src_pick bk ca bs cc bkl18 2 3 3 [.int .i64 (-1), .int .i64 1, .int .i64 60] w M1 hs (hk _ kcode) hok rfl rfl (by decide)) ?_
        intro x14 hx14
        try dsimp only at hx14
        refine rPieces (L' := [srcP bk ca bs cc, blk bkl18 2 [.int .i64 (-1), .int .i64 1, .int .i64 60], blk bka9 56 [.int .i64 p, .slice ay2 ny2 cy2], OwnR maK 28 2 ay2 ny2 cy2 Hy2 y2, blk bka6 43 [.slice ay1 ny1 cy1, .slice ayw1 nyw1 cyw1, .slice ayv1 nyv1 cyv1], RdR ndK ay1 ny1 Hy1 y1, RdR maK ayw1 nyw1 Hyw1 yw1, RdR maK ayv1 nyv1 Hyv1 yv1, blk bka2 56 [.int .i64 0, .slice none 0 0], blk bka1 43 [.slice none 0 0, .slice none 0 0, .slice none 0 0]]) (fun _ h => h) ?_
        replace hx14 : (-1 : Int) ≤ x14 ∧ x14 ≤ (60 : Int) := by have hm_ := hx14; simp [toI] at hm_; omega
        refine rPieces (L' := [blk bkl18 2 [.int .i64 (-1), .int .i64 1, .int .i64 60], srcP bk ca bs cc, blk bka9 56 [.int .i64 p, .slice ay2 ny2 cy2], OwnR maK 28 2 ay2 ny2 cy2 Hy2 y2, blk bka6 43 [.slice ay1 ny1 cy1, .slice ayw1 nyw1 cyw1, .slice ayv1 nyv1 cyv1], RdR ndK ay1 ny1 Hy1 y1, RdR maK ayw1 nyw1 Hyw1 yw1, RdR maK ayv1 nyv1 Hyv1 yv1, blk bka2 56 [.int .i64 0, .slice none 0 0], blk bka1 43 [.slice none 0 0, .slice none 0 0, .slice none 0 0]]) (fun _ h => h.perm (pull (i := 1) rfl)) ?_
        refine add rfl rfl rfl rfl (by omega) ?_
        refine rPieces (L' := [OwnR maK 28 2 ay2 ny2 cy2 Hy2 y2, blk bkl18 2 [.int .i64 (-1), .int .i64 1, .int .i64 60], srcP bk ca bs cc, blk bka9 56 [.int .i64 p, .slice ay2 ny2 cy2], blk bka6 43 [.slice ay1 ny1 cy1, .slice ayw1 nyw1 cyw1, .slice ayv1 nyv1 cyv1], RdR ndK ay1 ny1 Hy1 y1, RdR maK ayw1 nyw1 Hyw1 yw1, RdR maK ayv1 nyv1 Hyv1 yv1, blk bka2 56 [.int .i64 0, .slice none 0 0], blk bka1 43 [.slice none 0 0, .slice none 0 0, .slice none 0 0]]) (fun _ h => h.pick [3, 0, 0, 0, 0, 0, 0, 0, 0, 0]) ?_
        refine rPieces (L' := [OwnI 2 ((Hy2 0).1) ((y2.getD 0 []).length) ((Hy2 0).2) (y2.getD 0 []), OwnH maK 28 2 ay2 ny2 cy2 Hy2 y2 0, blk bkl18 2 [.int .i64 (-1), .int .i64 1, .int .i64 60], srcP bk ca bs cc, blk bka9 56 [.int .i64 p, .slice ay2 ny2 cy2], blk bka6 43 [.slice ay1 ny1 cy1, .slice ayw1 nyw1 cyw1, .slice ayv1 nyv1 cyv1], RdR ndK ay1 ny1 Hy1 y1, RdR maK ayw1 nyw1 Hyw1 yw1, RdR maK ayv1 nyv1 Hyv1 yv1, blk bka2 56 [.int .i64 0, .slice none 0 0], blk bka1 43 [.slice none 0 0, .slice none 0 0, .slice none 0 0]]) (fun _ h => Sep.lend h 0 (y2.getD 0 []) (nth [] (by omega))) ?_
        refine oxI (zn := 0) 0 rfl el28 rfl rfl rfl rfl (by omega) (by omega) rfl ?_
        intro gk15 hgk15
        refine stoI (off := 0) (x := (((y2.getD 0 []).getD 0 0) + x14)) 0 rfl hgk15 Try.sizeOf2 (fun _ h => h.pick [4]) rfl rfl rfl rfl (by omega) ?_
        refine rPieces (L' := [OwnR maK 28 2 ay2 ny2 cy2 Hy2 ((y2.set 0 (((y2.getD 0 []).set 0 ((((y2.getD 0 []).getD 0 0) + x14)))))), blk bkl18 2 [.int .i64 (-1), .int .i64 1, .int .i64 60], srcP bk ca bs cc, blk bka9 56 [.int .i64 p, .slice ay2 ny2 cy2], blk bka6 43 [.slice ay1 ny1 cy1, .slice ayw1 nyw1 cyw1, .slice ayv1 nyv1 cyv1], RdR ndK ay1 ny1 Hy1 y1, RdR maK ayw1 nyw1 Hyw1 yw1, RdR maK ayv1 nyv1 Hyv1 yv1, blk bka2 56 [.int .i64 0, .slice none 0 0], blk bka1 43 [.slice none 0 0, .slice none 0 0, .slice none 0 0]]) (fun _ h => Sep.back (x := (y2.getD 0 [])) ((y2.getD 0 []).set 0 ((((y2.getD 0 []).getD 0 0) + x14))) maK.ok h (nth [] (by omega)) (fun h1 h2 => by dsimp only [ndK, ndC, maK] at h1 h2 ⊢; rw [h1, h2]) rfl rfl) ?_
        refine rNil ?_
        refine qSeq rfl ?_
        refine hSeq ?_
        refine hDraw (Ls := [blk bka9 56 [.int .i64 p, .slice ay2 ny2 cy2], blk bka6 43 [.slice ay1 ny1 cy1, .slice ayw1 nyw1 cyw1, .slice ayv1 nyv1 cyv1]]) (by kernel_rfl) (sq 0 (sq 1 (sl 2 (sf 3 sz)))) (by kernel_rfl) (.cons _ (.cons _ (.cons _ (.cons_cons _ (.cons_cons _ (.cons _ (.cons _ (.cons _ (.cons _ (.cons _ .slnil)))))))))) ?_
        refine ldAq Try.isAgg43 Try.sizeOf43 (cBs 1 rfl) rfl rfl rfl rfl ?_
        refine ldAq Try.isAgg56 Try.sizeOf56 (cBs 0 rfl) rfl rfl rfl rfl ?_
        refine stAl (vs := [.slice ay1 ny1 cy1, .slice ayw1 nyw1 cyw1, .slice ayv1 nyv1 cyv1]) 9 rfl Try.sizeOf43 (fun _ h => h.pick [3, 3]) rfl rfl rfl rfl rfl (by simp [Value.oneCell']) rfl ?_
        refine stAf (vs := [.int .i64 p, .slice ay2 ny2 cy2]) 8 rfl Try.sizeOf56 rfl rfl rfl rfl rfl (by simp [Value.oneCell']) rfl ?_
        refine rNil ?_
        refine qSeq rfl ?_
        refine hRet ?_
        exact fun w hs => ⟨[_, _], ⟨⟨_, rfl, run_load_agg Try.isAgg43 Try.sizeOf43 rfl (cBs 9 rfl w hs)⟩, ⟨⟨_, rfl, run_load_agg Try.isAgg56 Try.sizeOf56 rfl (cBs 8 rfl w hs)⟩, trivial⟩⟩, ⟨(ay1, ny1, cy1, Hy1, y1, ayw1, nyw1, cyw1, Hyw1, yw1, ayv1, nyv1, cyv1, Hyv1, yv1, p, ay2, ny2, cy2, Hy2, (y2.set 0 (((y2.getD 0 []).set 0 ((((y2.getD 0 []).getD 0 0) + x14)))))), rfl, ⟨⟨by dsimp only; omega, ⟨by dsimp only; omega, by dsimp only; omega⟩, by dsimp only; omega⟩, by dsimp only; omega, by dsimp only; omega⟩, hs.pick [2, 4, 4, 4, 0]⟩⟩
       ·
        refine rPieces (L' := [srcP bk ca bs cc, blk bkl18 2 [.int .i64 (-1), .int .i64 1, .int .i64 60], blk bka9 56 [.int .i64 p, .slice ay2 ny2 cy2], OwnR maK 28 2 ay2 ny2 cy2 Hy2 y2, blk bka6 43 [.slice ay1 ny1 cy1, .slice ayw1 nyw1 cyw1, .slice ayv1 nyv1 cyv1], RdR ndK ay1 ny1 Hy1 y1, RdR maK ayw1 nyw1 Hyw1 yw1, RdR maK ayv1 nyv1 Hyv1 yv1, blk bka2 56 [.int .i64 0, .slice none 0 0], blk bka1 43 [.slice none 0 0, .slice none 0 0, .slice none 0 0]]) (fun _ h => h.perm (pull (i := 1) rfl)) ?_
        refine callMK (α := Int) (Lf := [srcP bk ca bs cc, blk bkl18 2 [.int .i64 (-1), .int .i64 1, .int .i64 60]]) (Lr := [blk bka9 56 [.int .i64 p, .slice ay2 ny2 cy2], OwnR maK 28 2 ay2 ny2 cy2 Hy2 y2, blk bka6 43 [.slice ay1 ny1 cy1, .slice ayw1 nyw1 cyw1, .slice ayv1 nyv1 cyv1], RdR ndK ay1 ny1 Hy1 y1, RdR maK ayw1 nyw1 Hyw1 yw1, RdR maK ayv1 nyv1 Hyv1 yv1, blk bka2 56 [.int .i64 0, .slice none 0 0], blk bka1 43 [.slice none 0 0, .slice none 0 0, .slice none 0 0]]) (good := fun x => x ∈ ([.int .i64 (-1), .int .i64 1, .int .i64 60] : List Value).map toI) (φs := fun x => [srcP bk ca bs cc, blk bkl18 2 [.int .i64 (-1), .int .i64 1, .int .i64 60]]) (val := fun x => .int .i64 x) rfl Try.call155 (by exact (fun _ _ h => h.pick [2])) rfl rfl (fun w M1 hs hk => src_pick bk ca bs cc bkl18 2 3 3 [.int .i64 (-1), .int .i64 1, .int .i64 60] w M1 hs (hk _ kcode) hok rfl rfl (by decide)) ?_
        intro x16 hx16
        try dsimp only at hx16
        refine rPieces (L' := [srcP bk ca bs cc, blk bkl18 2 [.int .i64 (-1), .int .i64 1, .int .i64 60], blk bka9 56 [.int .i64 p, .slice ay2 ny2 cy2], OwnR maK 28 2 ay2 ny2 cy2 Hy2 y2, blk bka6 43 [.slice ay1 ny1 cy1, .slice ayw1 nyw1 cyw1, .slice ayv1 nyv1 cyv1], RdR ndK ay1 ny1 Hy1 y1, RdR maK ayw1 nyw1 Hyw1 yw1, RdR maK ayv1 nyv1 Hyv1 yv1, blk bka2 56 [.int .i64 0, .slice none 0 0], blk bka1 43 [.slice none 0 0, .slice none 0 0, .slice none 0 0]]) (fun _ h => h) ?_
        replace hx16 : (-1 : Int) ≤ x16 ∧ x16 ≤ (60 : Int) := by have hm_ := hx16; simp [toI] at hm_; omega
        refine rPieces (L' := [blk bkl18 2 [.int .i64 (-1), .int .i64 1, .int .i64 60], srcP bk ca bs cc, blk bka9 56 [.int .i64 p, .slice ay2 ny2 cy2], OwnR maK 28 2 ay2 ny2 cy2 Hy2 y2, blk bka6 43 [.slice ay1 ny1 cy1, .slice ayw1 nyw1 cyw1, .slice ayv1 nyv1 cyv1], RdR ndK ay1 ny1 Hy1 y1, RdR maK ayw1 nyw1 Hyw1 yw1, RdR maK ayv1 nyv1 Hyv1 yv1, blk bka2 56 [.int .i64 0, .slice none 0 0], blk bka1 43 [.slice none 0 0, .slice none 0 0, .slice none 0 0]]) (fun _ h => h.perm (pull (i := 1) rfl)) ?_
        refine ldl Try.isAgg2 (e13) (fun _ h => h.pick [2]) rfl rfl rfl ?_
        refine add rfl rfl rfl rfl (by omega) ?_
        refine rPieces (L' := [OwnR maK 28 2 ay2 ny2 cy2 Hy2 y2, blk bkl18 2 [.int .i64 (-1), .int .i64 1, .int .i64 60], srcP bk ca bs cc, blk bka9 56 [.int .i64 p, .slice ay2 ny2 cy2], blk bka6 43 [.slice ay1 ny1 cy1, .slice ayw1 nyw1 cyw1, .slice ayv1 nyv1 cyv1], RdR ndK ay1 ny1 Hy1 y1, RdR maK ayw1 nyw1 Hyw1 yw1, RdR maK ayv1 nyv1 Hyv1 yv1, blk bka2 56 [.int .i64 0, .slice none 0 0], blk bka1 43 [.slice none 0 0, .slice none 0 0, .slice none 0 0]]) (fun _ h => h.pick [3, 0, 0, 0, 0, 0, 0, 0, 0, 0]) ?_
        refine rPieces (L' := [OwnI 2 ((Hy2 0).1) ((y2.getD 0 []).length) ((Hy2 0).2) (y2.getD 0 []), OwnH maK 28 2 ay2 ny2 cy2 Hy2 y2 0, blk bkl18 2 [.int .i64 (-1), .int .i64 1, .int .i64 60], srcP bk ca bs cc, blk bka9 56 [.int .i64 p, .slice ay2 ny2 cy2], blk bka6 43 [.slice ay1 ny1 cy1, .slice ayw1 nyw1 cyw1, .slice ayv1 nyv1 cyv1], RdR ndK ay1 ny1 Hy1 y1, RdR maK ayw1 nyw1 Hyw1 yw1, RdR maK ayv1 nyv1 Hyv1 yv1, blk bka2 56 [.int .i64 0, .slice none 0 0], blk bka1 43 [.slice none 0 0, .slice none 0 0, .slice none 0 0]]) (fun _ h => Sep.lend h 0 (y2.getD 0 []) (nth [] (by omega))) ?_
        refine oxI (zn := 0) 0 rfl el28 rfl rfl rfl rfl (by omega) (by omega) rfl ?_
        intro gk17 hgk17
        refine stoI (off := 0) (x := (((y2.getD 0 []).getD 0 0) + x16)) 0 rfl hgk17 Try.sizeOf2 (fun _ h => h.pick [4]) rfl rfl rfl rfl (by omega) ?_
        refine rPieces (L' := [OwnR maK 28 2 ay2 ny2 cy2 Hy2 ((y2.set 0 (((y2.getD 0 []).set 0 ((((y2.getD 0 []).getD 0 0) + x16)))))), blk bkl18 2 [.int .i64 (-1), .int .i64 1, .int .i64 60], srcP bk ca bs cc, blk bka9 56 [.int .i64 p, .slice ay2 ny2 cy2], blk bka6 43 [.slice ay1 ny1 cy1, .slice ayw1 nyw1 cyw1, .slice ayv1 nyv1 cyv1], RdR ndK ay1 ny1 Hy1 y1, RdR maK ayw1 nyw1 Hyw1 yw1, RdR maK ayv1 nyv1 Hyv1 yv1, blk bka2 56 [.int .i64 0, .slice none 0 0], blk bka1 43 [.slice none 0 0, .slice none 0 0, .slice none 0 0]]) (fun _ h => Sep.back (x := (y2.getD 0 [])) ((y2.getD 0 []).set 0 ((((y2.getD 0 []).getD 0 0) + x16))) maK.ok h (nth [] (by omega)) (fun h1 h2 => by dsimp only [ndK, ndC, maK] at h1 h2 ⊢; rw [h1, h2]) rfl rfl) ?_
        refine rNil ?_
        refine qSeq rfl ?_
        refine hSeq ?_
        refine hDraw (Ls := [blk bka9 56 [.int .i64 p, .slice ay2 ny2 cy2], blk bka6 43 [.slice ay1 ny1 cy1, .slice ayw1 nyw1 cyw1, .slice ayv1 nyv1 cyv1]]) (by kernel_rfl) (sq 0 (sq 1 (sl 2 (sf 3 sz)))) (by kernel_rfl) (.cons _ (.cons _ (.cons _ (.cons_cons _ (.cons_cons _ (.cons _ (.cons _ (.cons _ (.cons _ (.cons _ .slnil)))))))))) ?_
        refine ldAq Try.isAgg43 Try.sizeOf43 (cBs 1 rfl) rfl rfl rfl rfl ?_
        refine ldAq Try.isAgg56 Try.sizeOf56 (cBs 0 rfl) rfl rfl rfl rfl ?_
        refine stAl (vs := [.slice ay1 ny1 cy1, .slice ayw1 nyw1 cyw1, .slice ayv1 nyv1 cyv1]) 9 rfl Try.sizeOf43 (fun _ h => h.pick [3, 3]) rfl rfl rfl rfl rfl (by simp [Value.oneCell']) rfl ?_
        refine stAf (vs := [.int .i64 p, .slice ay2 ny2 cy2]) 8 rfl Try.sizeOf56 rfl rfl rfl rfl rfl (by simp [Value.oneCell']) rfl ?_
        refine rNil ?_
        refine qSeq rfl ?_
        refine hRet ?_
        exact fun w hs => ⟨[_, _], ⟨⟨_, rfl, run_load_agg Try.isAgg43 Try.sizeOf43 rfl (cBs 9 rfl w hs)⟩, ⟨⟨_, rfl, run_load_agg Try.isAgg56 Try.sizeOf56 rfl (cBs 8 rfl w hs)⟩, trivial⟩⟩, ⟨(ay1, ny1, cy1, Hy1, y1, ayw1, nyw1, cyw1, Hyw1, yw1, ayv1, nyv1, cyv1, Hyv1, yv1, p, ay2, ny2, cy2, Hy2, (y2.set 0 (((y2.getD 0 []).set 0 ((((y2.getD 0 []).getD 0 0) + x16)))))), rfl, ⟨⟨by dsimp only; omega, ⟨by dsimp only; omega, by dsimp only; omega⟩, by dsimp only; omega⟩, by dsimp only; omega, by dsimp only; omega⟩, hs.pick [2, 4, 4, 4, 0]⟩⟩
      ·
       refine rPieces (L' := [srcP bk ca bs cc, blk bkl18 2 [.int .i64 (-1), .int .i64 1, .int .i64 60], blk bka9 56 [.int .i64 p, .slice ay2 ny2 cy2], OwnR maK 28 2 ay2 ny2 cy2 Hy2 y2, blk bka6 43 [.slice ay1 ny1 cy1, .slice ayw1 nyw1 cyw1, .slice ayv1 nyv1 cyv1], RdR ndK ay1 ny1 Hy1 y1, RdR maK ayw1 nyw1 Hyw1 yw1, RdR maK ayv1 nyv1 Hyv1 yv1, blk bka2 56 [.int .i64 0, .slice none 0 0], blk bka1 43 [.slice none 0 0, .slice none 0 0, .slice none 0 0]]) (fun _ h => h.perm (pull (i := 1) rfl)) ?_
       refine callMK (α := Int) (Lf := [srcP bk ca bs cc, blk bkl18 2 [.int .i64 (-1), .int .i64 1, .int .i64 60]]) (Lr := [blk bka9 56 [.int .i64 p, .slice ay2 ny2 cy2], OwnR maK 28 2 ay2 ny2 cy2 Hy2 y2, blk bka6 43 [.slice ay1 ny1 cy1, .slice ayw1 nyw1 cyw1, .slice ayv1 nyv1 cyv1], RdR ndK ay1 ny1 Hy1 y1, RdR maK ayw1 nyw1 Hyw1 yw1, RdR maK ayv1 nyv1 Hyv1 yv1, blk bka2 56 [.int .i64 0, .slice none 0 0], blk bka1 43 [.slice none 0 0, .slice none 0 0, .slice none 0 0]]) (good := fun x => x ∈ ([.int .i64 (-1), .int .i64 1, .int .i64 60] : List Value).map toI) (φs := fun x => [srcP bk ca bs cc, blk bkl18 2 [.int .i64 (-1), .int .i64 1, .int .i64 60]]) (val := fun x => .int .i64 x) rfl Try.call155 (by exact (fun _ _ h => h.pick [2])) rfl rfl (fun w M1 hs hk => src_pick bk ca bs cc bkl18 2 3 3 [.int .i64 (-1), .int .i64 1, .int .i64 60] w M1 hs (hk _ kcode) hok rfl rfl (by decide)) ?_
       intro x18 hx18
       try dsimp only at hx18
       refine rPieces (L' := [srcP bk ca bs cc, blk bkl18 2 [.int .i64 (-1), .int .i64 1, .int .i64 60], blk bka9 56 [.int .i64 p, .slice ay2 ny2 cy2], OwnR maK 28 2 ay2 ny2 cy2 Hy2 y2, blk bka6 43 [.slice ay1 ny1 cy1, .slice ayw1 nyw1 cyw1, .slice ayv1 nyv1 cyv1], RdR ndK ay1 ny1 Hy1 y1, RdR maK ayw1 nyw1 Hyw1 yw1, RdR maK ayv1 nyv1 Hyv1 yv1, blk bka2 56 [.int .i64 0, .slice none 0 0], blk bka1 43 [.slice none 0 0, .slice none 0 0, .slice none 0 0]]) (fun _ h => h) ?_
       replace hx18 : (-1 : Int) ≤ x18 ∧ x18 ≤ (60 : Int) := by have hm_ := hx18; simp [toI] at hm_; omega
       refine rPieces (L' := [blk bkl18 2 [.int .i64 (-1), .int .i64 1, .int .i64 60], srcP bk ca bs cc, blk bka9 56 [.int .i64 p, .slice ay2 ny2 cy2], OwnR maK 28 2 ay2 ny2 cy2 Hy2 y2, blk bka6 43 [.slice ay1 ny1 cy1, .slice ayw1 nyw1 cyw1, .slice ayv1 nyv1 cyv1], RdR ndK ay1 ny1 Hy1 y1, RdR maK ayw1 nyw1 Hyw1 yw1, RdR maK ayv1 nyv1 Hyv1 yv1, blk bka2 56 [.int .i64 0, .slice none 0 0], blk bka1 43 [.slice none 0 0, .slice none 0 0, .slice none 0 0]]) (fun _ h => h.perm (pull (i := 1) rfl)) ?_
       refine ldl Try.isAgg28 (Kn.drop (k := 1) (Kn.fld e5 0 rfl)) (fun _ h => h.pick [2]) rfl rfl rfl ?_
       refine ixIl (zn := 0) el28 (Kn.drop (k := 1) ((Kn.imp ((Kn.at_ (φ := OwnR maK 28 2 ay2 ny2 cy2 Hy2 y2) 2 rfl).imp fun _ h => OwnR.rd h maK.ok) fun _ h => h.kidM (nth [] (by omega))))) rfl rfl rfl rfl (by omega) (by omega) rfl ?_
       intro ae19 e19
       refine ldl Try.isAgg2 (e19) (fun _ h => h.pick [2]) rfl rfl rfl ?_
       refine add rfl rfl rfl rfl (by omega) ?_
       refine rPieces (L' := [OwnR maK 28 2 ay2 ny2 cy2 Hy2 y2, blk bkl18 2 [.int .i64 (-1), .int .i64 1, .int .i64 60], srcP bk ca bs cc, blk bka9 56 [.int .i64 p, .slice ay2 ny2 cy2], blk bka6 43 [.slice ay1 ny1 cy1, .slice ayw1 nyw1 cyw1, .slice ayv1 nyv1 cyv1], RdR ndK ay1 ny1 Hy1 y1, RdR maK ayw1 nyw1 Hyw1 yw1, RdR maK ayv1 nyv1 Hyv1 yv1, blk bka2 56 [.int .i64 0, .slice none 0 0], blk bka1 43 [.slice none 0 0, .slice none 0 0, .slice none 0 0]]) (fun _ h => h.pick [3, 0, 0, 0, 0, 0, 0, 0, 0, 0]) ?_
       refine rPieces (L' := [OwnI 2 ((Hy2 0).1) ((y2.getD 0 []).length) ((Hy2 0).2) (y2.getD 0 []), OwnH maK 28 2 ay2 ny2 cy2 Hy2 y2 0, blk bkl18 2 [.int .i64 (-1), .int .i64 1, .int .i64 60], srcP bk ca bs cc, blk bka9 56 [.int .i64 p, .slice ay2 ny2 cy2], blk bka6 43 [.slice ay1 ny1 cy1, .slice ayw1 nyw1 cyw1, .slice ayv1 nyv1 cyv1], RdR ndK ay1 ny1 Hy1 y1, RdR maK ayw1 nyw1 Hyw1 yw1, RdR maK ayv1 nyv1 Hyv1 yv1, blk bka2 56 [.int .i64 0, .slice none 0 0], blk bka1 43 [.slice none 0 0, .slice none 0 0, .slice none 0 0]]) (fun _ h => Sep.lend h 0 (y2.getD 0 []) (nth [] (by omega))) ?_
       refine oxI (zn := 0) 0 rfl el28 rfl rfl rfl rfl (by omega) (by omega) rfl ?_
       intro gk20 hgk20
       refine stoI (off := 0) (x := (((y2.getD 0 []).getD 0 0) + x18)) 0 rfl hgk20 Try.sizeOf2 (fun _ h => h.pick [4]) rfl rfl rfl rfl (by omega) ?_
       refine rPieces (L' := [OwnR maK 28 2 ay2 ny2 cy2 Hy2 ((y2.set 0 (((y2.getD 0 []).set 0 ((((y2.getD 0 []).getD 0 0) + x18)))))), blk bkl18 2 [.int .i64 (-1), .int .i64 1, .int .i64 60], srcP bk ca bs cc, blk bka9 56 [.int .i64 p, .slice ay2 ny2 cy2], blk bka6 43 [.slice ay1 ny1 cy1, .slice ayw1 nyw1 cyw1, .slice ayv1 nyv1 cyv1], RdR ndK ay1 ny1 Hy1 y1, RdR maK ayw1 nyw1 Hyw1 yw1, RdR maK ayv1 nyv1 Hyv1 yv1, blk bka2 56 [.int .i64 0, .slice none 0 0], blk bka1 43 [.slice none 0 0, .slice none 0 0, .slice none 0 0]]) (fun _ h => Sep.back (x := (y2.getD 0 [])) ((y2.getD 0 []).set 0 ((((y2.getD 0 []).getD 0 0) + x18))) maK.ok h (nth [] (by omega)) (fun h1 h2 => by dsimp only [ndK, ndC, maK] at h1 h2 ⊢; rw [h1, h2]) rfl rfl) ?_
       refine rNil ?_
       refine qSeq rfl ?_
       refine hSeq ?_
       refine hDraw (Ls := [blk bka9 56 [.int .i64 p, .slice ay2 ny2 cy2], blk bka6 43 [.slice ay1 ny1 cy1, .slice ayw1 nyw1 cyw1, .slice ayv1 nyv1 cyv1]]) (by kernel_rfl) (sq 0 (sq 1 (sl 2 (sf 3 sz)))) (by kernel_rfl) (.cons _ (.cons _ (.cons _ (.cons_cons _ (.cons_cons _ (.cons _ (.cons _ (.cons _ (.cons _ (.cons _ .slnil)))))))))) ?_
       refine ldAq Try.isAgg43 Try.sizeOf43 (cBs 1 rfl) rfl rfl rfl rfl ?_
       refine ldAq Try.isAgg56 Try.sizeOf56 (cBs 0 rfl) rfl rfl rfl rfl ?_
       refine stAl (vs := [.slice ay1 ny1 cy1, .slice ayw1 nyw1 cyw1, .slice ayv1 nyv1 cyv1]) 9 rfl Try.sizeOf43 (fun _ h => h.pick [3, 3]) rfl rfl rfl rfl rfl (by simp [Value.oneCell']) rfl ?_
       refine stAf (vs := [.int .i64 p, .slice ay2 ny2 cy2]) 8 rfl Try.sizeOf56 rfl rfl rfl rfl rfl (by simp [Value.oneCell']) rfl ?_
       refine rNil ?_
       refine qSeq rfl ?_
       refine hRet ?_
       exact fun w hs => ⟨[_, _], ⟨⟨_, rfl, run_load_agg Try.isAgg43 Try.sizeOf43 rfl (cBs 9 rfl w hs)⟩, ⟨⟨_, rfl, run_load_agg Try.isAgg56 Try.sizeOf56 rfl (cBs 8 rfl w hs)⟩, trivial⟩⟩, ⟨(ay1, ny1, cy1, Hy1, y1, ayw1, nyw1, cyw1, Hyw1, yw1, ayv1, nyv1, cyv1, Hyv1, yv1, p, ay2, ny2, cy2, Hy2, (y2.set 0 (((y2.getD 0 []).set 0 ((((y2.getD 0 []).getD 0 0) + x18)))))), rfl, ⟨⟨by dsimp only; omega, ⟨by dsimp only; omega, by dsimp only; omega⟩, by dsimp only; omega⟩, by dsimp only; omega, by dsimp only; omega⟩, hs.pick [2, 4, 4, 4, 0]⟩⟩
    ·
     refine rAlt ?_ ?_
     ·
      refine ldl Try.isAgg28 (Kn.fld e5 0 rfl) (fun _ h => h.pick [1]) rfl rfl rfl ?_
      refine ixIl (zn := 0) el28 ((Kn.imp ((Kn.at_ (φ := OwnR maK 28 2 ay2 ny2 cy2 Hy2 y2) 2 rfl).imp fun _ h => OwnR.rd h maK.ok) fun _ h => h.kidM (nth [] (by omega)))) rfl rfl rfl rfl (by omega) (by omega) rfl ?_
      intro ae21 e21
      refine rAlt ?_ ?_
      ·
       refine ldl Try.isAgg28 (Kn.fld e4 0 rfl) (fun _ h => h.pick [1]) rfl rfl rfl ?_
       refine rAlt ?_ ?_
       ·
        refine ldl Try.isAgg2 (e21) (fun _ h => h.pick [1]) rfl rfl rfl ?_
        refine bsl (fun _ _ h => h.pick [2]) rfl rfl rfl (bsl28_3 (.int .i64 _) (.int .i64 _) (.int .i64 _) rfl rfl rfl) (fun bkl25 hbkl25 => ?_)
        refine rPieces (L' := [srcP bk ca bs cc, blk bkl25 2 [.int .i64 (-1), .int .i64 1, .int .i64 60], blk bka9 56 [.int .i64 p, .slice ay2 ny2 cy2], OwnR maK 28 2 ay2 ny2 cy2 Hy2 y2, blk bka6 43 [.slice ay1 ny1 cy1, .slice ayw1 nyw1 cyw1, .slice ayv1 nyv1 cyv1], RdR ndK ay1 ny1 Hy1 y1, RdR maK ayw1 nyw1 Hyw1 yw1, RdR maK ayv1 nyv1 Hyv1 yv1, blk bka2 56 [.int .i64 0, .slice none 0 0], blk bka1 43 [.slice none 0 0, .slice none 0 0, .slice none 0 0]]) (fun _ h => h.perm (pull (i := 1) rfl)) ?_
        refine callMK (α := Int) (Lf := [srcP bk ca bs cc, blk bkl25 2 [.int .i64 (-1), .int .i64 1, .int .i64 60]]) (Lr := [blk bka9 56 [.int .i64 p, .slice ay2 ny2 cy2], OwnR maK 28 2 ay2 ny2 cy2 Hy2 y2, blk bka6 43 [.slice ay1 ny1 cy1, .slice ayw1 nyw1 cyw1, .slice ayv1 nyv1 cyv1], RdR ndK ay1 ny1 Hy1 y1, RdR maK ayw1 nyw1 Hyw1 yw1, RdR maK ayv1 nyv1 Hyv1 yv1, blk bka2 56 [.int .i64 0, .slice none 0 0], blk bka1 43 [.slice none 0 0, .slice none 0 0, .slice none 0 0]]) (good := fun x => x ∈ ([.int .i64 (-1), .int .i64 1, .int .i64 60] : List Value).map toI) (φs := fun x => [srcP bk ca bs cc, blk bkl25 2 [.int .i64 (-1), .int .i64 1, .int .i64 60]]) (val := fun x => .int .i64 x) rfl Try.call155 (by exact (fun _ _ h => h.pick [2])) rfl rfl (fun w M1 hs hk => src_pick bk ca bs cc bkl25 2 3 3 [.int .i64 (-1), .int .i64 1, .int .i64 60] w M1 hs (hk _ kcode) hok rfl rfl (by decide)) ?_
        intro x22 hx22
        try dsimp only at hx22
        refine rPieces (L' := [srcP bk ca bs cc, blk bkl25 2 [.int .i64 (-1), .int .i64 1, .int .i64 60], blk bka9 56 [.int .i64 p, .slice ay2 ny2 cy2], OwnR maK 28 2 ay2 ny2 cy2 Hy2 y2, blk bka6 43 [.slice ay1 ny1 cy1, .slice ayw1 nyw1 cyw1, .slice ayv1 nyv1 cyv1], RdR ndK ay1 ny1 Hy1 y1, RdR maK ayw1 nyw1 Hyw1 yw1, RdR maK ayv1 nyv1 Hyv1 yv1, blk bka2 56 [.int .i64 0, .slice none 0 0], blk bka1 43 [.slice none 0 0, .slice none 0 0, .slice none 0 0]]) (fun _ h => h) ?_
        replace hx22 : (-1 : Int) ≤ x22 ∧ x22 ≤ (60 : Int) := by have hm_ := hx22; simp [toI] at hm_; omega
        refine rPieces (L' := [blk bkl25 2 [.int .i64 (-1), .int .i64 1, .int .i64 60], srcP bk ca bs cc, blk bka9 56 [.int .i64 p, .slice ay2 ny2 cy2], OwnR maK 28 2 ay2 ny2 cy2 Hy2 y2, blk bka6 43 [.slice ay1 ny1 cy1, .slice ayw1 nyw1 cyw1, .slice ayv1 nyv1 cyv1], RdR ndK ay1 ny1 Hy1 y1, RdR maK ayw1 nyw1 Hyw1 yw1, RdR maK ayv1 nyv1 Hyv1 yv1, blk bka2 56 [.int .i64 0, .slice none 0 0], blk bka1 43 [.slice none 0 0, .slice none 0 0, .slice none 0 0]]) (fun _ h => h.perm (pull (i := 1) rfl)) ?_
        refine add rfl rfl rfl rfl (by omega) ?_
        refine rPieces (L' := [OwnR maK 28 2 ay2 ny2 cy2 Hy2 y2, blk bkl25 2 [.int .i64 (-1), .int .i64 1, .int .i64 60], srcP bk ca bs cc, blk bka9 56 [.int .i64 p, .slice ay2 ny2 cy2], blk bka6 43 [.slice ay1 ny1 cy1, .slice ayw1 nyw1 cyw1, .slice ayv1 nyv1 cyv1], RdR ndK ay1 ny1 Hy1 y1, RdR maK ayw1 nyw1 Hyw1 yw1, RdR maK ayv1 nyv1 Hyv1 yv1, blk bka2 56 [.int .i64 0, .slice none 0 0], blk bka1 43 [.slice none 0 0, .slice none 0 0, .slice none 0 0]]) (fun _ h => h.pick [3, 0, 0, 0, 0, 0, 0, 0, 0, 0]) ?_
        refine rPieces (L' := [OwnI 2 ((Hy2 0).1) ((y2.getD 0 []).length) ((Hy2 0).2) (y2.getD 0 []), OwnH maK 28 2 ay2 ny2 cy2 Hy2 y2 0, blk bkl25 2 [.int .i64 (-1), .int .i64 1, .int .i64 60], srcP bk ca bs cc, blk bka9 56 [.int .i64 p, .slice ay2 ny2 cy2], blk bka6 43 [.slice ay1 ny1 cy1, .slice ayw1 nyw1 cyw1, .slice ayv1 nyv1 cyv1], RdR ndK ay1 ny1 Hy1 y1, RdR maK ayw1 nyw1 Hyw1 yw1, RdR maK ayv1 nyv1 Hyv1 yv1, blk bka2 56 [.int .i64 0, .slice none 0 0], blk bka1 43 [.slice none 0 0, .slice none 0 0, .slice none 0 0]]) (fun _ h => Sep.lend h 0 (y2.getD 0 []) (nth [] (by omega))) ?_
        refine oxI (zn := 0) 0 rfl el28 rfl rfl rfl rfl (by omega) (by omega) rfl ?_
        intro gk23 hgk23
        refine stoI (off := 0) (x := (((y2.getD 0 []).getD 0 0) + x22)) 0 rfl hgk23 Try.sizeOf2 (fun _ h => h.pick [4]) rfl rfl rfl rfl (by omega) ?_
        refine rPieces (L' := [OwnR maK 28 2 ay2 ny2 cy2 Hy2 ((y2.set 0 (((y2.getD 0 []).set 0 ((((y2.getD 0 []).getD 0 0) + x22)))))), blk bkl25 2 [.int .i64 (-1), .int .i64 1, .int .i64 60], srcP bk ca bs cc, blk bka9 56 [.int .i64 p, .slice ay2 ny2 cy2], blk bka6 43 [.slice ay1 ny1 cy1, .slice ayw1 nyw1 cyw1, .slice ayv1 nyv1 cyv1], RdR ndK ay1 ny1 Hy1 y1, RdR maK ayw1 nyw1 Hyw1 yw1, RdR maK ayv1 nyv1 Hyv1 yv1, blk bka2 56 [.int .i64 0, .slice none 0 0], blk bka1 43 [.slice none 0 0, .slice none 0 0, .slice none 0 0]]) (fun _ h => Sep.back (x := (y2.getD 0 [])) ((y2.getD 0 []).set 0 ((((y2.getD 0 []).getD 0 0) + x22))) maK.ok h (nth [] (by omega)) (fun h1 h2 => by dsimp only [ndK, ndC, maK] at h1 h2 ⊢; rw [h1, h2]) rfl rfl) ?_
        refine rNil ?_
        refine qSeq rfl ?_
        refine hSeq ?_
        refine hDraw (Ls := [blk bka9 56 [.int .i64 p, .slice ay2 ny2 cy2], blk bka6 43 [.slice ay1 ny1 cy1, .slice ayw1 nyw1 cyw1, .slice ayv1 nyv1 cyv1]]) (by kernel_rfl) (sq 0 (sq 1 (sl 2 (sf 3 sz)))) (by kernel_rfl) (.cons _ (.cons _ (.cons _ (.cons_cons _ (.cons_cons _ (.cons _ (.cons _ (.cons _ (.cons _ (.cons _ .slnil)))))))))) ?_
        refine ldAq Try.isAgg43 Try.sizeOf43 (cBs 1 rfl) rfl rfl rfl rfl ?_
        refine ldAq Try.isAgg56 Try.sizeOf56 (cBs 0 rfl) rfl rfl rfl rfl ?_
        refine stAl (vs := [.slice ay1 ny1 cy1, .slice ayw1 nyw1 cyw1, .slice ayv1 nyv1 cyv1]) 9 rfl Try.sizeOf43 (fun _ h => h.pick [3, 3]) rfl rfl rfl rfl rfl (by simp [Value.oneCell']) rfl ?_
        refine stAf (vs := [.int .i64 p, .slice ay2 ny2 cy2]) 8 rfl Try.sizeOf56 rfl rfl rfl rfl rfl (by simp [Value.oneCell']) rfl ?_
        refine rNil ?_
        refine qSeq rfl ?_
        refine hRet ?_
        exact fun w hs => ⟨[_, _], ⟨⟨_, rfl, run_load_agg Try.isAgg43 Try.sizeOf43 rfl (cBs 9 rfl w hs)⟩, ⟨⟨_, rfl, run_load_agg Try.isAgg56 Try.sizeOf56 rfl (cBs 8 rfl w hs)⟩, trivial⟩⟩, ⟨(ay1, ny1, cy1, Hy1, y1, ayw1, nyw1, cyw1, Hyw1, yw1, ayv1, nyv1, cyv1, Hyv1, yv1, p, ay2, ny2, cy2, Hy2, (y2.set 0 (((y2.getD 0 []).set 0 ((((y2.getD 0 []).getD 0 0) + x22)))))), rfl, ⟨⟨by dsimp only; omega, ⟨by dsimp only; omega, by dsimp only; omega⟩, by dsimp only; omega⟩, by dsimp only; omega, by dsimp only; omega⟩, hs.pick [2, 4, 4, 4, 0]⟩⟩
       ·
        refine bsl (fun _ _ h => h.pick [2]) rfl rfl rfl (bsl28_3 (.int .i64 _) (.int .i64 _) (.int .i64 _) rfl rfl rfl) (fun bkl28 hbkl28 => ?_)
        refine rAlt ?_ ?_
        ·
         refine ldl Try.isAgg2 (Kn.drop (k := 1) e21) (fun _ h => h.pick [2]) rfl rfl rfl ?_
         refine rPieces (L' := [srcP bk ca bs cc, blk bkl28 2 [.int .i64 (-1), .int .i64 1, .int .i64 60], blk bka9 56 [.int .i64 p, .slice ay2 ny2 cy2], OwnR maK 28 2 ay2 ny2 cy2 Hy2 y2, blk bka6 43 [.slice ay1 ny1 cy1, .slice ayw1 nyw1 cyw1, .slice ayv1 nyv1 cyv1], RdR ndK ay1 ny1 Hy1 y1, RdR maK ayw1 nyw1 Hyw1 yw1, RdR maK ayv1 nyv1 Hyv1 yv1, blk bka2 56 [.int .i64 0, .slice none 0 0], blk bka1 43 [.slice none 0 0, .slice none 0 0, .slice none 0 0]]) (fun _ h => h.perm (pull (i := 1) rfl)) ?_
         refine callMK (α := Int) (Lf := [srcP bk ca bs cc, blk bkl28 2 [.int .i64 (-1), .int .i64 1, .int .i64 60]]) (Lr := [blk bka9 56 [.int .i64 p, .slice ay2 ny2 cy2], OwnR maK 28 2 ay2 ny2 cy2 Hy2 y2, blk bka6 43 [.slice ay1 ny1 cy1, .slice ayw1 nyw1 cyw1, .slice ayv1 nyv1 cyv1], RdR ndK ay1 ny1 Hy1 y1, RdR maK ayw1 nyw1 Hyw1 yw1, RdR maK ayv1 nyv1 Hyv1 yv1, blk bka2 56 [.int .i64 0, .slice none 0 0], blk bka1 43 [.slice none 0 0, .slice none 0 0, .slice none 0 0]]) (good := fun x => x ∈ ([.int .i64 (-1), .int .i64 1, .int .i64 60] : List Value).map toI) (φs := fun x => [srcP bk ca bs cc, blk bkl28 2 [.int .i64 (-1), .int .i64 1, .int .i64 60]]) (val := fun x => .int .i64 x) rfl Try.call155 (by exact (fun _ _ h => h.pick [2])) rfl rfl (fun w M1 hs hk => src_pick bk ca bs cc bkl28 2 3 3 [.int .i64 (-1), .int .i64 1, .int .i64 60] w M1 hs (hk _ kcode) hok rfl rfl (by decide)) ?_
         intro x24 hx24
         try dsimp only at hx24
         refine rPieces (L' := [srcP bk ca bs cc, blk bkl28 2 [.int .i64 (-1), .int .i64 1, .int .i64 60], blk bka9 56 [.int .i64 p, .slice ay2 ny2 cy2], OwnR maK 28 2 ay2 ny2 cy2 Hy2 y2, blk bka6 43 [.slice ay1 ny1 cy1, .slice ayw1 nyw1 cyw1, .slice ayv1 nyv1 cyv1], RdR ndK ay1 ny1 Hy1 y1, RdR maK ayw1 nyw1 Hyw1 yw1, RdR maK ayv1 nyv1 Hyv1 yv1, blk bka2 56 [.int .i64 0, .slice none 0 0], blk bka1 43 [.slice none 0 0, .slice none 0 0, .slice none 0 0]]) (fun _ h => h) ?_
         replace hx24 : (-1 : Int) ≤ x24 ∧ x24 ≤ (60 : Int) := by have hm_ := hx24; simp [toI] at hm_; omega
         refine rPieces (L' := [blk bkl28 2 [.int .i64 (-1), .int .i64 1, .int .i64 60], srcP bk ca bs cc, blk bka9 56 [.int .i64 p, .slice ay2 ny2 cy2], OwnR maK 28 2 ay2 ny2 cy2 Hy2 y2, blk bka6 43 [.slice ay1 ny1 cy1, .slice ayw1 nyw1 cyw1, .slice ayv1 nyv1 cyv1], RdR ndK ay1 ny1 Hy1 y1, RdR maK ayw1 nyw1 Hyw1 yw1, RdR maK ayv1 nyv1 Hyv1 yv1, blk bka2 56 [.int .i64 0, .slice none 0 0], blk bka1 43 [.slice none 0 0, .slice none 0 0, .slice none 0 0]]) (fun _ h => h.perm (pull (i := 1) rfl)) ?_
         refine add rfl rfl rfl rfl (by omega) ?_
         refine rPieces (L' := [OwnR maK 28 2 ay2 ny2 cy2 Hy2 y2, blk bkl28 2 [.int .i64 (-1), .int .i64 1, .int .i64 60], srcP bk ca bs cc, blk bka9 56 [.int .i64 p, .slice ay2 ny2 cy2], blk bka6 43 [.slice ay1 ny1 cy1, .slice ayw1 nyw1 cyw1, .slice ayv1 nyv1 cyv1], RdR ndK ay1 ny1 Hy1 y1, RdR maK ayw1 nyw1 Hyw1 yw1, RdR maK ayv1 nyv1 Hyv1 yv1, blk bka2 56 [.int .i64 0, .slice none 0 0], blk bka1 43 [.slice none 0 0, .slice none 0 0, .slice none 0 0]]) (fun _ h => h.pick [3, 0, 0, 0, 0, 0, 0, 0, 0, 0]) ?_
         refine rPieces (L' := [OwnI 2 ((Hy2 0).1) ((y2.getD 0 []).length) ((Hy2 0).2) (y2.getD 0 []), OwnH maK 28 2 ay2 ny2 cy2 Hy2 y2 0, blk bkl28 2 [.int .i64 (-1), .int .i64 1, .int .i64 60], srcP bk ca bs cc, blk bka9 56 [.int .i64 p, .slice ay2 ny2 cy2], blk bka6 43 [.slice ay1 ny1 cy1, .slice ayw1 nyw1 cyw1, .slice ayv1 nyv1 cyv1], RdR ndK ay1 ny1 Hy1 y1, RdR maK ayw1 nyw1 Hyw1 yw1, RdR maK ayv1 nyv1 Hyv1 yv1, blk bka2 56 [.int .i64 0, .slice none 0 0], blk bka1 43 [.slice none 0 0, .slice none 0 0, .slice none 0 0]]) (fun _ h => Sep.lend h 0 (y2.getD 0 []) (nth [] (by omega))) ?_
         refine oxI (zn := 0) 0 rfl el28 rfl rfl rfl rfl (by omega) (by omega) rfl ?_
         intro gk25 hgk25
         refine stoI (off := 0) (x := (((y2.getD 0 []).getD 0 0) + x24)) 0 rfl hgk25 Try.sizeOf2 (fun _ h => h.pick [4]) rfl rfl rfl rfl (by omega) ?_
         refine rPieces (L' := [OwnR maK 28 2 ay2 ny2 cy2 Hy2 ((y2.set 0 (((y2.getD 0 []).set 0 ((((y2.getD 0 []).getD 0 0) + x24)))))), blk bkl28 2 [.int .i64 (-1), .int .i64 1, .int .i64 60], srcP bk ca bs cc, blk bka9 56 [.int .i64 p, .slice ay2 ny2 cy2], blk bka6 43 [.slice ay1 ny1 cy1, .slice ayw1 nyw1 cyw1, .slice ayv1 nyv1 cyv1], RdR ndK ay1 ny1 Hy1 y1, RdR maK ayw1 nyw1 Hyw1 yw1, RdR maK ayv1 nyv1 Hyv1 yv1, blk bka2 56 [.int .i64 0, .slice none 0 0], blk bka1 43 [.slice none 0 0, .slice none 0 0, .slice none 0 0]]) (fun _ h => Sep.back (x := (y2.getD 0 [])) ((y2.getD 0 []).set 0 ((((y2.getD 0 []).getD 0 0) + x24))) maK.ok h (nth [] (by omega)) (fun h1 h2 => by dsimp only [ndK, ndC, maK] at h1 h2 ⊢; rw [h1, h2]) rfl rfl) ?_
         refine rNil ?_
         refine qSeq rfl ?_
         refine hSeq ?_
         refine hDraw (Ls := [blk bka9 56 [.int .i64 p, .slice ay2 ny2 cy2], blk bka6 43 [.slice ay1 ny1 cy1, .slice ayw1 nyw1 cyw1, .slice ayv1 nyv1 cyv1]]) (by kernel_rfl) (sq 0 (sq 1 (sl 2 (sf 3 sz)))) (by kernel_rfl) (.cons _ (.cons _ (.cons _ (.cons_cons _ (.cons_cons _ (.cons _ (.cons _ (.cons _ (.cons _ (.cons _ .slnil)))))))))) ?_
         refine ldAq Try.isAgg43 Try.sizeOf43 (cBs 1 rfl) rfl rfl rfl rfl ?_
         refine ldAq Try.isAgg56 Try.sizeOf56 (cBs 0 rfl) rfl rfl rfl rfl ?_
         refine stAl (vs := [.slice ay1 ny1 cy1, .slice ayw1 nyw1 cyw1, .slice ayv1 nyv1 cyv1]) 9 rfl Try.sizeOf43 (fun _ h => h.pick [3, 3]) rfl rfl rfl rfl rfl (by simp [Value.oneCell']) rfl ?_
         refine stAf (vs := [.int .i64 p, .slice ay2 ny2 cy2]) 8 rfl Try.sizeOf56 rfl rfl rfl rfl rfl (by simp [Value.oneCell']) rfl ?_
         refine rNil ?_
         refine qSeq rfl ?_
         refine hRet ?_
         exact fun w hs => ⟨[_, _], ⟨⟨_, rfl, run_load_agg Try.isAgg43 Try.sizeOf43 rfl (cBs 9 rfl w hs)⟩, ⟨⟨_, rfl, run_load_agg Try.isAgg56 Try.sizeOf56 rfl (cBs 8 rfl w hs)⟩, trivial⟩⟩, ⟨(ay1, ny1, cy1, Hy1, y1, ayw1, nyw1, cyw1, Hyw1, yw1, ayv1, nyv1, cyv1, Hyv1, yv1, p, ay2, ny2, cy2, Hy2, (y2.set 0 (((y2.getD 0 []).set 0 ((((y2.getD 0 []).getD 0 0) + x24)))))), rfl, ⟨⟨by dsimp only; omega, ⟨by dsimp only; omega, by dsimp only; omega⟩, by dsimp only; omega⟩, by dsimp only; omega, by dsimp only; omega⟩, hs.pick [2, 4, 4, 4, 0]⟩⟩
        ·
         refine rPieces (L' := [srcP bk ca bs cc, blk bkl28 2 [.int .i64 (-1), .int .i64 1, .int .i64 60], blk bka9 56 [.int .i64 p, .slice ay2 ny2 cy2], OwnR maK 28 2 ay2 ny2 cy2 Hy2 y2, blk bka6 43 [.slice ay1 ny1 cy1, .slice ayw1 nyw1 cyw1, .slice ayv1 nyv1 cyv1], RdR ndK ay1 ny1 Hy1 y1, RdR maK ayw1 nyw1 Hyw1 yw1, RdR maK ayv1 nyv1 Hyv1 yv1, blk bka2 56 [.int .i64 0, .slice none 0 0], blk bka1 43 [.slice none 0 0, .slice none 0 0, .slice none 0 0]]) (fun _ h => h.perm (pull (i := 1) rfl)) ?_
         refine callMK (α := Int) (Lf := [srcP bk ca bs cc, blk bkl28 2 [.int .i64 (-1), .int .i64 1, .int .i64 60]]) (Lr := [blk bka9 56 [.int .i64 p, .slice ay2 ny2 cy2], OwnR maK 28 2 ay2 ny2 cy2 Hy2 y2, blk bka6 43 [.slice ay1 ny1 cy1, .slice ayw1 nyw1 cyw1, .slice ayv1 nyv1 cyv1], RdR ndK ay1 ny1 Hy1 y1, RdR maK ayw1 nyw1 Hyw1 yw1, RdR maK ayv1 nyv1 Hyv1 yv1, blk bka2 56 [.int .i64 0, .slice none 0 0], blk bka1 43 [.slice none 0 0, .slice none 0 0, .slice none 0 0]]) (good := fun x => x ∈ ([.int .i64 (-1), .int .i64 1, .int .i64 60] : List Value).map toI) (φs := fun x => [srcP bk ca bs cc, blk bkl28 2 [.int .i64 (-1), .int .i64 1, .int .i64 60]]) (val := fun x => .int .i64 x) rfl Try.call155 (by exact (fun _ _ h => h.pick [2])) rfl rfl (fun w M1 hs hk => src_pick bk ca bs cc bkl28 2 3 3 [.int .i64 (-1), .int .i64 1, .int .i64 60] w M1 hs (hk _ kcode) hok rfl rfl (by decide)) ?_
         intro x26 hx26
         try dsimp only at hx26
         refine rPieces (L' := [srcP bk ca bs cc, blk bkl28 2 [.int .i64 (-1), .int .i64 1, .int .i64 60], blk bka9 56 [.int .i64 p, .slice ay2 ny2 cy2], OwnR maK 28 2 ay2 ny2 cy2 Hy2 y2, blk bka6 43 [.slice ay1 ny1 cy1, .slice ayw1 nyw1 cyw1, .slice ayv1 nyv1 cyv1], RdR ndK ay1 ny1 Hy1 y1, RdR maK ayw1 nyw1 Hyw1 yw1, RdR maK ayv1 nyv1 Hyv1 yv1, blk bka2 56 [.int .i64 0, .slice none 0 0], blk bka1 43 [.slice none 0 0, .slice none 0 0, .slice none 0 0]]) (fun _ h => h) ?_
         replace hx26 : (-1 : Int) ≤ x26 ∧ x26 ≤ (60 : Int) := by have hm_ := hx26; simp [toI] at hm_; omega
         refine rPieces (L' := [blk bkl28 2 [.int .i64 (-1), .int .i64 1, .int .i64 60], srcP bk ca bs cc, blk bka9 56 [.int .i64 p, .slice ay2 ny2 cy2], OwnR maK 28 2 ay2 ny2 cy2 Hy2 y2, blk bka6 43 [.slice ay1 ny1 cy1, .slice ayw1 nyw1 cyw1, .slice ayv1 nyv1 cyv1], RdR ndK ay1 ny1 Hy1 y1, RdR maK ayw1 nyw1 Hyw1 yw1, RdR maK ayv1 nyv1 Hyv1 yv1, blk bka2 56 [.int .i64 0, .slice none 0 0], blk bka1 43 [.slice none 0 0, .slice none 0 0, .slice none 0 0]]) (fun _ h => h.perm (pull (i := 1) rfl)) ?_
         refine ldl Try.isAgg2 (Kn.drop (k := 1) e21) (fun _ h => h.pick [2]) rfl rfl rfl ?_
         refine add rfl rfl rfl rfl (by omega) ?_
         refine rPieces (L' := [OwnR maK 28 2 ay2 ny2 cy2 Hy2 y2, blk bkl28 2 [.int .i64 (-1), .int .i64 1, .int .i64 60], srcP bk ca bs cc, blk bka9 56 [.int .i64 p, .slice ay2 ny2 cy2], blk bka6 43 [.slice ay1 ny1 cy1, .slice ayw1 nyw1 cyw1, .slice ayv1 nyv1 cyv1], RdR ndK ay1 ny1 Hy1 y1, RdR maK ayw1 nyw1 Hyw1 yw1, RdR maK ayv1 nyv1 Hyv1 yv1, blk bka2 56 [.int .i64 0, .slice none 0 0], blk bka1 43 [.slice none 0 0, .slice none 0 0, .slice none 0 0]]) (fun _ h => h.pick [3, 0, 0, 0, 0, 0, 0, 0, 0, 0]) ?_
         refine rPieces (L' := [OwnI 2 ((Hy2 0).1) ((y2.getD 0 []).length) ((Hy2 0).2) (y2.getD 0 []), OwnH maK 28 2 ay2 ny2 cy2 Hy2 y2 0, blk bkl28 2 [.int .i64 (-1), .int .i64 1, .int .i64 60], srcP bk ca bs cc, blk bka9 56 [.int .i64 p, .slice ay2 ny2 cy2], blk bka6 43 [.slice ay1 ny1 cy1, .slice ayw1 nyw1 cyw1, .slice ayv1 nyv1 cyv1], RdR ndK ay1 ny1 Hy1 y1, RdR maK ayw1 nyw1 Hyw1 yw1, RdR maK ayv1 nyv1 Hyv1 yv1, blk bka2 56 [.int .i64 0, .slice none 0 0], blk bka1 43 [.slice none 0 0, .slice none 0 0, .slice none 0 0]]) (fun _ h => Sep.lend h 0 (y2.getD 0 []) (nth [] (by omega))) ?_
         refine oxI (zn := 0) 0 rfl el28 rfl rfl rfl rfl (by omega) (by omega) rfl ?_
         intro gk27 hgk27
         refine stoI (off := 0) (x := (((y2.getD 0 []).getD 0 0) + x26)) 0 rfl hgk27 Try.sizeOf2 (fun _ h => h.pick [4]) rfl rfl rfl rfl (by omega) ?_
         refine rPieces (L' := [OwnR maK 28 2 ay2 ny2 cy2 Hy2 ((y2.set 0 (((y2.getD 0 []).set 0 ((((y2.getD 0 []).getD 0 0) + x26)))))), blk bkl28 2 [.int .i64 (-1), .int .i64 1, .int .i64 60], srcP bk ca bs cc, blk bka9 56 [.int .i64 p, .slice ay2 ny2 cy2], blk bka6 43 [.slice ay1 ny1 cy1, .slice ayw1 nyw1 cyw1, .slice ayv1 nyv1 cyv1], RdR ndK ay1 ny1 Hy1 y1, RdR maK ayw1 nyw1 Hyw1 yw1, RdR maK ayv1 nyv1 Hyv1 yv1, blk bka2 56 [.int .i64 0, .slice none 0 0], blk bka1 43 [.slice none 0 0, .slice none 0 0, .slice none 0 0]]) (fun _ h => Sep.back (x := (y2.getD 0 [])) ((y2.getD 0 []).set 0 ((((y2.getD 0 []).getD 0 0) + x26))) maK.ok h (nth [] (by omega)) (fun h1 h2 => by dsimp only [ndK, ndC, maK] at h1 h2 ⊢; rw [h1, h2]) rfl rfl) ?_
         refine rNil ?_
         refine qSeq rfl ?_
         refine hSeq ?_
         refine hDraw (Ls := [blk bka9 56 [.int .i64 p, .slice ay2 ny2 cy2], blk bka6 43 [.slice ay1 ny1 cy1, .slice ayw1 nyw1 cyw1, .slice ayv1 nyv1 cyv1]]) (by kernel_rfl) (sq 0 (sq 1 (sl 2 (sf 3 sz)))) (by kernel_rfl) (.cons _ (.cons _ (.cons _ (.cons_cons _ (.cons_cons _ (.cons _ (.cons _ (.cons _ (.cons _ (.cons _ .slnil)))))))))) ?_
         refine ldAq Try.isAgg43 Try.sizeOf43 (cBs 1 rfl) rfl rfl rfl rfl ?_
         refine ldAq Try.isAgg56 Try.sizeOf56 (cBs 0 rfl) rfl rfl rfl rfl ?_
         refine stAl (vs := [.slice ay1 ny1 cy1, .slice ayw1 nyw1 cyw1, .slice ayv1 nyv1 cyv1]) 9 rfl Try.sizeOf43 (fun _ h => h.pick [3, 3]) rfl rfl rfl rfl rfl (by simp [Value.oneCell']) rfl ?_
         refine stAf (vs := [.int .i64 p, .slice ay2 ny2 cy2]) 8 rfl Try.sizeOf56 rfl rfl rfl rfl rfl (by simp [Value.oneCell']) rfl ?_
         refine rNil ?_
         refine qSeq rfl ?_
         refine hRet ?_
         exact fun w hs => ⟨[_, _], ⟨⟨_, rfl, run_load_agg Try.isAgg43 Try.sizeOf43 rfl (cBs 9 rfl w hs)⟩, ⟨⟨_, rfl, run_load_agg Try.isAgg56 Try.sizeOf56 rfl (cBs 8 rfl w hs)⟩, trivial⟩⟩, ⟨(ay1, ny1, cy1, Hy1, y1, ayw1, nyw1, cyw1, Hyw1, yw1, ayv1, nyv1, cyv1, Hyv1, yv1, p, ay2, ny2, cy2, Hy2, (y2.set 0 (((y2.getD 0 []).set 0 ((((y2.getD 0 []).getD 0 0) + x26)))))), rfl, ⟨⟨by dsimp only; omega, ⟨by dsimp only; omega, by dsimp only; omega⟩, by dsimp only; omega⟩, by dsimp only; omega, by dsimp only; omega⟩, hs.pick [2, 4, 4, 4, 0]⟩⟩
      ·
       refine rAlt ?_ ?_
       ·
        refine ldl Try.isAgg2 (e21) (fun _ h => h.pick [1]) rfl rfl rfl ?_
        refine rAlt ?_ ?_
        ·
         refine ldl Try.isAgg28 (Kn.fld e4 0 rfl) (fun _ h => h.pick [1]) rfl rfl rfl ?_
         refine bsl (fun _ _ h => h.pick [2]) rfl rfl rfl (bsl28_3 (.int .i64 _) (.int .i64 _) (.int .i64 _) rfl rfl rfl) (fun bkl33 hbkl33 => ?_)
         refine rPieces (L' := [srcP bk ca bs cc, blk bkl33 2 [.int .i64 (-1), .int .i64 1, .int .i64 60], blk bka9 56 [.int .i64 p, .slice ay2 ny2 cy2], OwnR maK 28 2 ay2 ny2 cy2 Hy2 y2, blk bka6 43 [.slice ay1 ny1 cy1, .slice ayw1 nyw1 cyw1, .slice ayv1 nyv1 cyv1], RdR ndK ay1 ny1 Hy1 y1, RdR maK ayw1 nyw1 Hyw1 yw1, RdR maK ayv1 nyv1 Hyv1 yv1, blk bka2 56 [.int .i64 0, .slice none 0 0], blk bka1 43 [.slice none 0 0, .slice none 0 0, .slice none 0 0]]) (fun _ h => h.perm (pull (i := 1) rfl)) ?_
         refine callMK (α := Int) (Lf := [srcP bk ca bs cc, blk bkl33 2 [.int .i64 (-1), .int .i64 1, .int .i64 60]]) (Lr := [blk bka9 56 [.int .i64 p, .slice ay2 ny2 cy2], OwnR maK 28 2 ay2 ny2 cy2 Hy2 y2, blk bka6 43 [.slice ay1 ny1 cy1, .slice ayw1 nyw1 cyw1, .slice ayv1 nyv1 cyv1], RdR ndK ay1 ny1 Hy1 y1, RdR maK ayw1 nyw1 Hyw1 yw1, RdR maK ayv1 nyv1 Hyv1 yv1, blk bka2 56 [.int .i64 0, .slice none 0 0], blk bka1 43 [.slice none 0 0, .slice none 0 0, .slice none 0 0]]) (good := fun x => x ∈ ([.int .i64 (-1), .int .i64 1, .int .i64 60] : List Value).map toI) (φs := fun x => [srcP bk ca bs cc, blk bkl33 2 [.int .i64 (-1), .int .i64 1, .int .i64 60]]) (val := fun x => .int .i64 x) rfl Try.call155 (by exact (fun _ _ h => h.pick [2])) rfl rfl (fun w M1 hs hk => src_pick bk ca bs cc bkl33 2 3 3 [.int .i64 (-1), .int .i64 1, .int .i64 60] w M1 hs (hk _ kcode) hok rfl rfl (by decide)) ?_
         intro x28 hx28
         try dsimp only at hx28
         refine rPieces (L' := [srcP bk ca bs cc, blk bkl33 2 [.int .i64 (-1), .int .i64 1, .int .i64 60], blk bka9 56 [.int .i64 p, .slice ay2 ny2 cy2], OwnR maK 28 2 ay2 ny2 cy2 Hy2 y2, blk bka6 43 [.slice ay1 ny1 cy1, .slice ayw1 nyw1 cyw1, .slice ayv1 nyv1 cyv1], RdR ndK ay1 ny1 Hy1 y1, RdR maK ayw1 nyw1 Hyw1 yw1, RdR maK ayv1 nyv1 Hyv1 yv1, blk bka2 56 [.int .i64 0, .slice none 0 0], blk bka1 43 [.slice none 0 0, .slice none 0 0, .slice none 0 0]]) (fun _ h => h) ?_
         replace hx28 : (-1 : Int) ≤ x28 ∧ x28 ≤ (60 : Int) := by have hm_ := hx28; simp [toI] at hm_; omega
         refine rPieces (L' := [blk bkl33 2 [.int .i64 (-1), .int .i64 1, .int .i64 60], srcP bk ca bs cc, blk bka9 56 [.int .i64 p, .slice ay2 ny2 cy2], OwnR maK 28 2 ay2 ny2 cy2 Hy2 y2, blk bka6 43 [.slice ay1 ny1 cy1, .slice ayw1 nyw1 cyw1, .slice ayv1 nyv1 cyv1], RdR ndK ay1 ny1 Hy1 y1, RdR maK ayw1 nyw1 Hyw1 yw1, RdR maK ayv1 nyv1 Hyv1 yv1, blk bka2 56 [.int .i64 0, .slice none 0 0], blk bka1 43 [.slice none 0 0, .slice none 0 0, .slice none 0 0]]) (fun _ h => h.perm (pull (i := 1) rfl)) ?_
         refine add rfl rfl rfl rfl (by omega) ?_
         refine rPieces (L' := [OwnR maK 28 2 ay2 ny2 cy2 Hy2 y2, blk bkl33 2 [.int .i64 (-1), .int .i64 1, .int .i64 60], srcP bk ca bs cc, blk bka9 56 [.int .i64 p, .slice ay2 ny2 cy2], blk bka6 43 [.slice ay1 ny1 cy1, .slice ayw1 nyw1 cyw1, .slice ayv1 nyv1 cyv1], RdR ndK ay1 ny1 Hy1 y1, RdR maK ayw1 nyw1 Hyw1 yw1, RdR maK ayv1 nyv1 Hyv1 yv1, blk bka2 56 [.int .i64 0, .slice none 0 0], blk bka1 43 [.slice none 0 0, .slice none 0 0, .slice none 0 0]]) (fun _ h => h.pick [3, 0, 0, 0, 0, 0, 0, 0, 0, 0]) ?_
         refine rPieces (L' := [OwnI 2 ((Hy2 0).1) ((y2.getD 0 []).length) ((Hy2 0).2) (y2.getD 0 []), OwnH maK 28 2 ay2 ny2 cy2 Hy2 y2 0, blk bkl33 2 [.int .i64 (-1), .int .i64 1, .int .i64 60], srcP bk ca bs cc, blk bka9 56 [.int .i64 p, .slice ay2 ny2 cy2], blk bka6 43 [.slice ay1 ny1 cy1, .slice ayw1 nyw1 cyw1, .slice ayv1 nyv1 cyv1], RdR ndK ay1 ny1 Hy1 y1, RdR maK ayw1 nyw1 Hyw1 yw1, RdR maK ayv1 nyv1 Hyv1 yv1, blk bka2 56 [.int .i64 0, .slice none 0 0], blk bka1 43 [.slice none 0 0, .slice none 0 0, .slice none 0 0]]) (fun _ h => Sep.lend h 0 (y2.getD 0 []) (nth [] (by omega))) ?_
         refine oxI (zn := 0) 0 rfl el28 rfl rfl rfl rfl (by omega) (by omega) rfl ?_
         intro gk29 hgk29
         refine stoI (off := 0) (x := (((y2.getD 0 []).getD 0 0) + x28)) 0 rfl hgk29 Try.sizeOf2 (fun _ h => h.pick [4]) rfl rfl rfl rfl (by omega) ?_
         refine rPieces (L' := [OwnR maK 28 2 ay2 ny2 cy2 Hy2 ((y2.set 0 (((y2.getD 0 []).set 0 ((((y2.getD 0 []).getD 0 0) + x28)))))), blk bkl33 2 [.int .i64 (-1), .int .i64 1, .int .i64 60], srcP bk ca bs cc, blk bka9 56 [.int .i64 p, .slice ay2 ny2 cy2], blk bka6 43 [.slice ay1 ny1 cy1, .slice ayw1 nyw1 cyw1, .slice ayv1 nyv1 cyv1], RdR ndK ay1 ny1 Hy1 y1, RdR maK ayw1 nyw1 Hyw1 yw1, RdR maK ayv1 nyv1 Hyv1 yv1, blk bka2 56 [.int .i64 0, .slice none 0 0], blk bka1 43 [.slice none 0 0, .slice none 0 0, .slice none 0 0]]) (fun _ h => Sep.back (x := (y2.getD 0 [])) ((y2.getD 0 []).set 0 ((((y2.getD 0 []).getD 0 0) + x28))) maK.ok h (nth [] (by omega)) (fun h1 h2 => by dsimp only [ndK, ndC, maK] at h1 h2 ⊢; rw [h1, h2]) rfl rfl) ?_
         refine rNil ?_
         refine qSeq rfl ?_
         refine hSeq ?_
         refine hDraw (Ls := [blk bka9 56 [.int .i64 p, .slice ay2 ny2 cy2], blk bka6 43 [.slice ay1 ny1 cy1, .slice ayw1 nyw1 cyw1, .slice ayv1 nyv1 cyv1]]) (by kernel_rfl) (sq 0 (sq 1 (sl 2 (sf 3 sz)))) (by kernel_rfl) (.cons _ (.cons _ (.cons _ (.cons_cons _ (.cons_cons _ (.cons _ (.cons _ (.cons _ (.cons _ (.cons _ .slnil)))))))))) ?_
         refine ldAq Try.isAgg43 Try.sizeOf43 (cBs 1 rfl) rfl rfl rfl rfl ?_
         refine ldAq Try.isAgg56 Try.sizeOf56 (cBs 0 rfl) rfl rfl rfl rfl ?_
         refine stAl (vs := [.slice ay1 ny1 cy1, .slice ayw1 nyw1 cyw1, .slice ayv1 nyv1 cyv1]) 9 rfl Try.sizeOf43 (fun _ h => h.pick [3, 3]) rfl rfl rfl rfl rfl (by simp [Value.oneCell']) rfl ?_
         refine stAf (vs := [.int .i64 p, .slice ay2 ny2 cy2]) 8 rfl Try.sizeOf56 rfl rfl rfl rfl rfl (by simp [Value.oneCell']) rfl ?_
         refine rNil ?_
         refine qSeq rfl ?_
         refine hRet ?_
         exact fun w hs => ⟨[_, _], ⟨⟨_, rfl, run_load_agg Try.isAgg43 Try.sizeOf43 rfl (cBs 9 rfl w hs)⟩, ⟨⟨_, rfl, run_load_agg Try.isAgg56 Try.sizeOf56 rfl (cBs 8 rfl w hs)⟩, trivial⟩⟩, ⟨(ay1, ny1, cy1, Hy1, y1, ayw1, nyw1, cyw1, Hyw1, yw1, ayv1, nyv1, cyv1, Hyv1, yv1, p, ay2, ny2, cy2, Hy2, (y2.set 0 (((y2.getD 0 []).set 0 ((((y2.getD 0 []).getD 0 0) + x28)))))), rfl, ⟨⟨by dsimp only; omega, ⟨by dsimp only; omega, by dsimp only; omega⟩, by dsimp only; omega⟩, by dsimp only; omega, by dsimp only; omega⟩, hs.pick [2, 4, 4, 4, 0]⟩⟩
        ·
         refine bsl (fun _ _ h => h.pick [2]) rfl rfl rfl (bsl28_3 (.int .i64 _) (.int .i64 _) (.int .i64 _) rfl rfl rfl) (fun bkl36 hbkl36 => ?_)
         refine rAlt ?_ ?_
         ·
          refine ldl Try.isAgg28 (Kn.drop (k := 1) (Kn.fld e4 0 rfl)) (fun _ h => h.pick [2]) rfl rfl rfl ?_
          refine rPieces (L' := [srcP bk ca bs cc, blk bkl36 2 [.int .i64 (-1), .int .i64 1, .int .i64 60], blk bka9 56 [.int .i64 p, .slice ay2 ny2 cy2], OwnR maK 28 2 ay2 ny2 cy2 Hy2 y2, blk bka6 43 [.slice ay1 ny1 cy1, .slice ayw1 nyw1 cyw1, .slice ayv1 nyv1 cyv1], RdR ndK ay1 ny1 Hy1 y1, RdR maK ayw1 nyw1 Hyw1 yw1, RdR maK ayv1 nyv1 Hyv1 yv1, blk bka2 56 [.int .i64 0, .slice none 0 0], blk bka1 43 [.slice none 0 0, .slice none 0 0, .slice none 0 0]]) (fun _ h => h.perm (pull (i := 1) rfl)) ?_
          refine callMK (α := Int) (Lf := [srcP bk ca bs cc, blk bkl36 2 [.int .i64 (-1), .int .i64 1, .int .i64 60]]) (Lr := [blk bka9 56 [.int .i64 p, .slice ay2 ny2 cy2], OwnR maK 28 2 ay2 ny2 cy2 Hy2 y2, blk bka6 43 [.slice ay1 ny1 cy1, .slice ayw1 nyw1 cyw1, .slice ayv1 nyv1 cyv1], RdR ndK ay1 ny1 Hy1 y1, RdR maK ayw1 nyw1 Hyw1 yw1, RdR maK ayv1 nyv1 Hyv1 yv1, blk bka2 56 [.int .i64 0, .slice none 0 0], blk bka1 43 [.slice none 0 0, .slice none 0 0, .slice none 0 0]]) (good := fun x => x ∈ ([.int .i64 (-1), .int .i64 1, .int .i64 60] : List Value).map toI) (φs := fun x => [srcP bk ca bs cc, blk bkl36 2 [.int .i64 (-1), .int .i64 1, .int .i64 60]]) (val := fun x => .int .i64 x) rfl Try.call155 (by exact (fun _ _ h => h.pick [2])) rfl rfl (fun w M1 hs hk => src_pick bk ca bs cc bkl36 2 3 3 [.int .i64 (-1), .int .i64 1, .int .i64 60] w M1 hs (hk _ kcode) hok rfl rfl (by decide)) ?_
          intro x30 hx30
          try dsimp only at hx30
          refine rPieces (L' := [srcP bk ca bs cc, blk bkl36 2 [.int .i64 (-1), .int .i64 1, .int .i64 60], blk bka9 56 [.int .i64 p, .slice ay2 ny2 cy2], OwnR maK 28 2 ay2 ny2 cy2 Hy2 y2, blk bka6 43 [.slice ay1 ny1 cy1, .slice ayw1 nyw1 cyw1, .slice ayv1 nyv1 cyv1], RdR ndK ay1 ny1 Hy1 y1, RdR maK ayw1 nyw1 Hyw1 yw1, RdR maK ayv1 nyv1 Hyv1 yv1, blk bka2 56 [.int .i64 0, .slice none 0 0], blk bka1 43 [.slice none 0 0, .slice none 0 0, .slice none 0 0]]) (fun _ h => h) ?_
          replace hx30 : (-1 : Int) ≤ x30 ∧ x30 ≤ (60 : Int) := by have hm_ := hx30; simp [toI] at hm_; omega
          refine rPieces (L' := [blk bkl36 2 [.int .i64 (-1), .int .i64 1, .int .i64 60], srcP bk ca bs cc, blk bka9 56 [.int .i64 p, .slice ay2 ny2 cy2], OwnR maK 28 2 ay2 ny2 cy2 Hy2 y2, blk bka6 43 [.slice ay1 ny1 cy1, .slice ayw1 nyw1 cyw1, .slice ayv1 nyv1 cyv1], RdR ndK ay1 ny1 Hy1 y1, RdR maK ayw1 nyw1 Hyw1 yw1, RdR maK ayv1 nyv1 Hyv1 yv1, blk bka2 56 [.int .i64 0, .slice none 0 0], blk bka1 43 [.slice none 0 0, .slice none 0 0, .slice none 0 0]]) (fun _ h => h.perm (pull (i := 1) rfl)) ?_
          refine add rfl rfl rfl rfl (by omega) ?_
          refine rPieces (L' := [OwnR maK 28 2 ay2 ny2 cy2 Hy2 y2, blk bkl36 2 [.int .i64 (-1), .int .i64 1, .int .i64 60], srcP bk ca bs cc, blk bka9 56 [.int .i64 p, .slice ay2 ny2 cy2], blk bka6 43 [.slice ay1 ny1 cy1, .slice ayw1 nyw1 cyw1, .slice ayv1 nyv1 cyv1], RdR ndK ay1 ny1 Hy1 y1, RdR maK ayw1 nyw1 Hyw1 yw1, RdR maK ayv1 nyv1 Hyv1 yv1, blk bka2 56 [.int .i64 0, .slice none 0 0], blk bka1 43 [.slice none 0 0, .slice none 0 0, .slice none 0 0]]) (fun _ h => h.pick [3, 0, 0, 0, 0, 0, 0, 0, 0, 0]) ?_
          refine rPieces (L' := [OwnI 2 ((Hy2 0).1) ((y2.getD 0 []).length) ((Hy2 0).2) (y2.getD 0 []), OwnH maK 28 2 ay2 ny2 cy2 Hy2 y2 0, blk bkl36 2 [.int .i64 (-1), .int .i64 1, .int .i64 60], srcP bk ca bs cc, blk bka9 56 [.int .i64 p, .slice ay2 ny2 cy2], blk bka6 43 [.slice ay1 ny1 cy1, .slice ayw1 nyw1 cyw1, .slice ayv1 nyv1 cyv1], RdR ndK ay1 ny1 Hy1 y1, RdR maK ayw1 nyw1 Hyw1 yw1, RdR maK ayv1 nyv1 Hyv1 yv1, blk bka2 56 [.int .i64 0, .slice none 0 0], blk bka1 43 [.slice none 0 0, .slice none 0 0, .slice none 0 0]]) (fun _ h => Sep.lend h 0 (y2.getD 0 []) (nth [] (by omega))) ?_
          refine oxI (zn := 0) 0 rfl el28 rfl rfl rfl rfl (by omega) (by omega) rfl ?_
          intro gk31 hgk31
          refine stoI (off := 0) (x := (((y2.getD 0 []).getD 0 0) + x30)) 0 rfl hgk31 Try.sizeOf2 (fun _ h => h.pick [4]) rfl rfl rfl rfl (by omega) ?_
          refine rPieces (L' := [OwnR maK 28 2 ay2 ny2 cy2 Hy2 ((y2.set 0 (((y2.getD 0 []).set 0 ((((y2.getD 0 []).getD 0 0) + x30)))))), blk bkl36 2 [.int .i64 (-1), .int .i64 1, .int .i64 60], srcP bk ca bs cc, blk bka9 56 [.int .i64 p, .slice ay2 ny2 cy2], blk bka6 43 [.slice ay1 ny1 cy1, .slice ayw1 nyw1 cyw1, .slice ayv1 nyv1 cyv1], RdR ndK ay1 ny1 Hy1 y1, RdR maK ayw1 nyw1 Hyw1 yw1, RdR maK ayv1 nyv1 Hyv1 yv1, blk bka2 56 [.int .i64 0, .slice none 0 0], blk bka1 43 [.slice none 0 0, .slice none 0 0, .slice none 0 0]]) (fun _ h => Sep.back (x := (y2.getD 0 [])) ((y2.getD 0 []).set 0 ((((y2.getD 0 []).getD 0 0) + x30))) maK.ok h (nth [] (by omega)) (fun h1 h2 => by dsimp only [ndK, ndC, maK] at h1 h2 ⊢; rw [h1, h2]) rfl rfl) ?_
          refine rNil ?_
          refine qSeq rfl ?_
          refine hSeq ?_
          refine hDraw (Ls := [blk bka9 56 [.int .i64 p, .slice ay2 ny2 cy2], blk bka6 43 [.slice ay1 ny1 cy1, .slice ayw1 nyw1 cyw1, .slice ayv1 nyv1 cyv1]]) (by kernel_rfl) (sq 0 (sq 1 (sl 2 (sf 3 sz)))) (by kernel_rfl) (.cons _ (.cons _ (.cons _ (.cons_cons _ (.cons_cons _ (.cons _ (.cons _ (.cons _ (.cons _ (.cons _ .slnil)))))))))) ?_
          refine ldAq Try.isAgg43 Try.sizeOf43 (cBs 1 rfl) rfl rfl rfl rfl ?_
          refine ldAq Try.isAgg56 Try.sizeOf56 (cBs 0 rfl) rfl rfl rfl rfl ?_
          refine stAl (vs := [.slice ay1 ny1 cy1, .slice ayw1 nyw1 cyw1, .slice ayv1 nyv1 cyv1]) 9 rfl Try.sizeOf43 (fun _ h => h.pick [3, 3]) rfl rfl rfl rfl rfl (by simp [Value.oneCell']) rfl ?_
          refine stAf (vs := [.int .i64 p, .slice ay2 ny2 cy2]) 8 rfl Try.sizeOf56 rfl rfl rfl rfl rfl (by simp [Value.oneCell']) rfl ?_
          refine rNil ?_
          refine qSeq rfl ?_
          refine hRet ?_
          exact fun w hs => ⟨[_, _], ⟨⟨_, rfl, run_load_agg Try.isAgg43 Try.sizeOf43 rfl (cBs 9 rfl w hs)⟩, ⟨⟨_, rfl, run_load_agg Try.isAgg56 Try.sizeOf56 rfl (cBs 8 rfl w hs)⟩, trivial⟩⟩, ⟨(ay1, ny1, cy1, Hy1, y1, ayw1, nyw1, cyw1, Hyw1, yw1, ayv1, nyv1, cyv1, Hyv1, yv1, p, ay2, ny2, cy2, Hy2, (y2.set 0 (((y2.getD 0 []).set 0 ((((y2.getD 0 []).getD 0 0) + x30)))))), rfl, ⟨⟨by dsimp only; omega, ⟨by dsimp only; omega, by dsimp only; omega⟩, by dsimp only; omega⟩, by dsimp only; omega, by dsimp only; omega⟩, hs.pick [2, 4, 4, 4, 0]⟩⟩
         ·
          refine rPieces (L' := [srcP bk ca bs cc, blk bkl36 2 [.int .i64 (-1), .int .i64 1, .int .i64 60], blk bka9 56 [.int .i64 p, .slice ay2 ny2 cy2], OwnR maK 28 2 ay2 ny2 cy2 Hy2 y2, blk bka6 43 [.slice ay1 ny1 cy1, .slice ayw1 nyw1 cyw1, .slice ayv1 nyv1 cyv1], RdR ndK ay1 ny1 Hy1 y1, RdR maK ayw1 nyw1 Hyw1 yw1, RdR maK ayv1 nyv1 Hyv1 yv1, blk bka2 56 [.int .i64 0, .slice none 0 0], blk bka1 43 [.slice none 0 0, .slice none 0 0, .slice none 0 0]]) (fun _ h => h.perm (pull (i := 1) rfl)) ?_
          refine callMK (α := Int) (Lf := [srcP bk ca bs cc, blk bkl36 2 [.int .i64 (-1), .int .i64 1, .int .i64 60]]) (Lr := [blk bka9 56 [.int .i64 p, .slice ay2 ny2 cy2], OwnR maK 28 2 ay2 ny2 cy2 Hy2 y2, blk bka6 43 [.slice ay1 ny1 cy1, .slice ayw1 nyw1 cyw1, .slice ayv1 nyv1 cyv1], RdR ndK ay1 ny1 Hy1 y1, RdR maK ayw1 nyw1 Hyw1 yw1, RdR maK ayv1 nyv1 Hyv1 yv1, blk bka2 56 [.int .i64 0, .slice none 0 0], blk bka1 43 [.slice none 0 0, .slice none 0 0, .slice none 0 0]]) (good := fun x => x ∈ ([.int .i64 (-1), .int .i64 1, .int .i64 60] : List Value).map toI) (φs := fun x => [srcP bk ca bs cc, blk bkl36 2 [.int .i64 (-1), .int .i64 1, .int .i64 60]]) (val := fun x => .int .i64 x) rfl Try.call155 (by exact (fun _ _ h => h.pick [2])) rfl rfl (fun w M1 hs hk => src_pick bk ca bs cc bkl36 2 3 3 [.int .i64 (-1), .int .i64 1, .int .i64 60] w M1 hs (hk _ kcode) hok rfl rfl (by decide)) ?_
          intro x32 hx32
          try dsimp only at hx32
          refine rPieces (L' := [srcP bk ca bs cc, blk bkl36 2 [.int .i64 (-1), .int .i64 1, .int .i64 60], blk bka9 56 [.int .i64 p, .slice ay2 ny2 cy2], OwnR maK 28 2 ay2 ny2 cy2 Hy2 y2, blk bka6 43 [.slice ay1 ny1 cy1, .slice ayw1 nyw1 cyw1, .slice ayv1 nyv1 cyv1], RdR ndK ay1 ny1 Hy1 y1, RdR maK ayw1 nyw1 Hyw1 yw1, RdR maK ayv1 nyv1 Hyv1 yv1, blk bka2 56 [.int .i64 0, .slice none 0 0], blk bka1 43 [.slice none 0 0, .slice none 0 0, .slice none 0 0]]) (fun _ h => h) ?_
          replace hx32 : (-1 : Int) ≤ x32 ∧ x32 ≤ (60 : Int) := by have hm_ := hx32; simp [toI] at hm_; omega
          refine rPieces (L' := [blk bkl36 2 [.int .i64 (-1), .int .i64 1, .int .i64 60], srcP bk ca bs cc, blk bka9 56 [.int .i64 p, .slice ay2 ny2 cy2], OwnR maK 28 2 ay2 ny2 cy2 Hy2 y2, blk bka6 43 [.slice ay1 ny1 cy1, .slice ayw1 nyw1 cyw1, .slice ayv1 nyv1 cyv1], RdR ndK ay1 ny1 Hy1 y1, RdR maK ayw1 nyw1 Hyw1 yw1, RdR maK ayv1 nyv1 Hyv1 yv1, blk bka2 56 [.int .i64 0, .slice none 0 0], blk bka1 43 [.slice none 0 0, .slice none 0 0, .slice none 0 0]]) (fun _ h => h.perm (pull (i := 1) rfl)) ?_
          refine add rfl rfl rfl rfl (by omega) ?_
          refine ldl Try.isAgg28 (Kn.drop (k := 1) (Kn.fld e4 0 rfl)) (fun _ h => h.pick [2]) rfl rfl rfl ?_
          refine rPieces (L' := [OwnR maK 28 2 ay2 ny2 cy2 Hy2 y2, blk bkl36 2 [.int .i64 (-1), .int .i64 1, .int .i64 60], srcP bk ca bs cc, blk bka9 56 [.int .i64 p, .slice ay2 ny2 cy2], blk bka6 43 [.slice ay1 ny1 cy1, .slice ayw1 nyw1 cyw1, .slice ayv1 nyv1 cyv1], RdR ndK ay1 ny1 Hy1 y1, RdR maK ayw1 nyw1 Hyw1 yw1, RdR maK ayv1 nyv1 Hyv1 yv1, blk bka2 56 [.int .i64 0, .slice none 0 0], blk bka1 43 [.slice none 0 0, .slice none 0 0, .slice none 0 0]]) (fun _ h => h.pick [3, 0, 0, 0, 0, 0, 0, 0, 0, 0]) ?_
          refine rPieces (L' := [OwnI 2 ((Hy2 0).1) ((y2.getD 0 []).length) ((Hy2 0).2) (y2.getD 0 []), OwnH maK 28 2 ay2 ny2 cy2 Hy2 y2 0, blk bkl36 2 [.int .i64 (-1), .int .i64 1, .int .i64 60], srcP bk ca bs cc, blk bka9 56 [.int .i64 p, .slice ay2 ny2 cy2], blk bka6 43 [.slice ay1 ny1 cy1, .slice ayw1 nyw1 cyw1, .slice ayv1 nyv1 cyv1], RdR ndK ay1 ny1 Hy1 y1, RdR maK ayw1 nyw1 Hyw1 yw1, RdR maK ayv1 nyv1 Hyv1 yv1, blk bka2 56 [.int .i64 0, .slice none 0 0], blk bka1 43 [.slice none 0 0, .slice none 0 0, .slice none 0 0]]) (fun _ h => Sep.lend h 0 (y2.getD 0 []) (nth [] (by omega))) ?_
          refine oxI (zn := 0) 0 rfl el28 rfl rfl rfl rfl (by omega) (by omega) rfl ?_
          intro gk33 hgk33
          refine stoI (off := 0) (x := (((y2.getD 0 []).getD 0 0) + x32)) 0 rfl hgk33 Try.sizeOf2 (fun _ h => h.pick [4]) rfl rfl rfl rfl (by omega) ?_
          refine rPieces (L' := [OwnR maK 28 2 ay2 ny2 cy2 Hy2 ((y2.set 0 (((y2.getD 0 []).set 0 ((((y2.getD 0 []).getD 0 0) + x32)))))), blk bkl36 2 [.int .i64 (-1), .int .i64 1, .int .i64 60], srcP bk ca bs cc, blk bka9 56 [.int .i64 p, .slice ay2 ny2 cy2], blk bka6 43 [.slice ay1 ny1 cy1, .slice ayw1 nyw1 cyw1, .slice ayv1 nyv1 cyv1], RdR ndK ay1 ny1 Hy1 y1, RdR maK ayw1 nyw1 Hyw1 yw1, RdR maK ayv1 nyv1 Hyv1 yv1, blk bka2 56 [.int .i64 0, .slice none 0 0], blk bka1 43 [.slice none 0 0, .slice none 0 0, .slice none 0 0]]) (fun _ h => Sep.back (x := (y2.getD 0 [])) ((y2.getD 0 []).set 0 ((((y2.getD 0 []).getD 0 0) + x32))) maK.ok h (nth [] (by omega)) (fun h1 h2 => by dsimp only [ndK, ndC, maK] at h1 h2 ⊢; rw [h1, h2]) rfl rfl) ?_
          refine rNil ?_
          refine qSeq rfl ?_
          refine hSeq ?_
          refine hDraw (Ls := [blk bka9 56 [.int .i64 p, .slice ay2 ny2 cy2], blk bka6 43 [.slice ay1 ny1 cy1, .slice ayw1 nyw1 cyw1, .slice ayv1 nyv1 cyv1]]) (by kernel_rfl) (sq 0 (sq 1 (sl 2 (sf 3 sz)))) (by kernel_rfl) (.cons _ (.cons _ (.cons _ (.cons_cons _ (.cons_cons _ (.cons _ (.cons _ (.cons _ (.cons _ (.cons _ .slnil)))))))))) ?_
          refine ldAq Try.isAgg43 Try.sizeOf43 (cBs 1 rfl) rfl rfl rfl rfl ?_
          refine ldAq Try.isAgg56 Try.sizeOf56 (cBs 0 rfl) rfl rfl rfl rfl ?_
          refine stAl (vs := [.slice ay1 ny1 cy1, .slice ayw1 nyw1 cyw1, .slice ayv1 nyv1 cyv1]) 9 rfl Try.sizeOf43 (fun _ h => h.pick [3, 3]) rfl rfl rfl rfl rfl (by simp [Value.oneCell']) rfl ?_
          refine stAf (vs := [.int .i64 p, .slice ay2 ny2 cy2]) 8 rfl Try.sizeOf56 rfl rfl rfl rfl rfl (by simp [Value.oneCell']) rfl ?_
          refine rNil ?_
          refine qSeq rfl ?_
          refine hRet ?_
          exact fun w hs => ⟨[_, _], ⟨⟨_, rfl, run_load_agg Try.isAgg43 Try.sizeOf43 rfl (cBs 9 rfl w hs)⟩, ⟨⟨_, rfl, run_load_agg Try.isAgg56 Try.sizeOf56 rfl (cBs 8 rfl w hs)⟩, trivial⟩⟩, ⟨(ay1, ny1, cy1, Hy1, y1, ayw1, nyw1, cyw1, Hyw1, yw1, ayv1, nyv1, cyv1, Hyv1, yv1, p, ay2, ny2, cy2, Hy2, (y2.set 0 (((y2.getD 0 []).set 0 ((((y2.getD 0 []).getD 0 0) + x32)))))), rfl, ⟨⟨by dsimp only; omega, ⟨by dsimp only; omega, by dsimp only; omega⟩, by dsimp only; omega⟩, by dsimp only; omega, by dsimp only; omega⟩, hs.pick [2, 4, 4, 4, 0]⟩⟩
       ·
        refine bsl (fun _ _ h => h.pick [2]) rfl rfl rfl (bsl28_3 (.int .i64 _) (.int .i64 _) (.int .i64 _) rfl rfl rfl) (fun bkl41 hbkl41 => ?_)
        refine rAlt ?_ ?_
        ·
         refine ldl Try.isAgg28 (Kn.drop (k := 1) (Kn.fld e4 0 rfl)) (fun _ h => h.pick [2]) rfl rfl rfl ?_
         refine rAlt ?_ ?_
         ·
          refine ldl Try.isAgg2 (Kn.drop (k := 1) e21) (fun _ h => h.pick [2]) rfl rfl rfl ?_
          refine rPieces (L' := [srcP bk ca bs cc, blk bkl41 2 [.int .i64 (-1), .int .i64 1, .int .i64 60], blk bka9 56 [.int .i64 p, .slice ay2 ny2 cy2], OwnR maK 28 2 ay2 ny2 cy2 Hy2 y2, blk bka6 43 [.slice ay1 ny1 cy1, .slice ayw1 nyw1 cyw1, .slice ayv1 nyv1 cyv1], RdR ndK ay1 ny1 Hy1 y1, RdR maK ayw1 nyw1 Hyw1 yw1, RdR maK ayv1 nyv1 Hyv1 yv1, blk bka2 56 [.int .i64 0, .slice none 0 0], blk bka1 43 [.slice none 0 0, .slice none 0 0, .slice none 0 0]]) (fun _ h => h.perm (pull (i := 1) rfl)) ?_
          refine callMK (α := Int) (Lf := [srcP bk ca bs cc, blk bkl41 2 [.int .i64 (-1), .int .i64 1, .int .i64 60]]) (Lr := [blk bka9 56 [.int .i64 p, .slice ay2 ny2 cy2], OwnR maK 28 2 ay2 ny2 cy2 Hy2 y2, blk bka6 43 [.slice ay1 ny1 cy1, .slice ayw1 nyw1 cyw1, .slice ayv1 nyv1 cyv1], RdR ndK ay1 ny1 Hy1 y1, RdR maK ayw1 nyw1 Hyw1 yw1, RdR maK ayv1 nyv1 Hyv1 yv1, blk bka2 56 [.int .i64 0, .slice none 0 0], blk bka1 43 [.slice none 0 0, .slice none 0 0, .slice none 0 0]]) (good := fun x => x ∈ ([.int .i64 (-1), .int .i64 1, .int .i64 60] : List Value).map toI) (φs := fun x => [srcP bk ca bs cc, blk bkl41 2 [.int .i64 (-1), .int .i64 1, .int .i64 60]]) (val := fun x => .int .i64 x) rfl Try.call155 (by exact (fun _ _ h => h.pick [2])) rfl rfl (fun w M1 hs hk => src_pick bk ca bs cc bkl41 2 3 3 [.int .i64 (-1), .int .i64 1, .int .i64 60] w M1 hs (hk _ kcode) hok rfl rfl (by decide)) ?_
          intro x34 hx34
          try dsimp only at hx34
          refine rPieces (L' := [srcP bk ca bs cc, blk bkl41 2 [.int .i64 (-1), .int .i64 1, .int .i64 60], blk bka9 56 [.int .i64 p, .slice ay2 ny2 cy2], OwnR maK 28 2 ay2 ny2 cy2 Hy2 y2, blk bka6 43 [.slice ay1 ny1 cy1, .slice ayw1 nyw1 cyw1, .slice ayv1 nyv1 cyv1], RdR ndK ay1 ny1 Hy1 y1, RdR maK ayw1 nyw1 Hyw1 yw1, RdR maK ayv1 nyv1 Hyv1 yv1, blk bka2 56 [.int .i64 0, .slice none 0 0], blk bka1 43 [.slice none 0 0, .slice none 0 0, .slice none 0 0]]) (fun _ h => h) ?_
          replace hx34 : (-1 : Int) ≤ x34 ∧ x34 ≤ (60 : Int) := by have hm_ := hx34; simp [toI] at hm_; omega
          refine rPieces (L' := [blk bkl41 2 [.int .i64 (-1), .int .i64 1, .int .i64 60], srcP bk ca bs cc, blk bka9 56 [.int .i64 p, .slice ay2 ny2 cy2], OwnR maK 28 2 ay2 ny2 cy2 Hy2 y2, blk bka6 43 [.slice ay1 ny1 cy1, .slice ayw1 nyw1 cyw1, .slice ayv1 nyv1 cyv1], RdR ndK ay1 ny1 Hy1 y1, RdR maK ayw1 nyw1 Hyw1 yw1, RdR maK ayv1 nyv1 Hyv1 yv1, blk bka2 56 [.int .i64 0, .slice none 0 0], blk bka1 43 [.slice none 0 0, .slice none 0 0, .slice none 0 0]]) (fun _ h => h.perm (pull (i := 1) rfl)) ?_
          refine add rfl rfl rfl rfl (by omega) ?_
          refine rPieces (L' := [OwnR maK 28 2 ay2 ny2 cy2 Hy2 y2, blk bkl41 2 [.int .i64 (-1), .int .i64 1, .int .i64 60], srcP bk ca bs cc, blk bka9 56 [.int .i64 p, .slice ay2 ny2 cy2], blk bka6 43 [.slice ay1 ny1 cy1, .slice ayw1 nyw1 cyw1, .slice ayv1 nyv1 cyv1], RdR ndK ay1 ny1 Hy1 y1, RdR maK ayw1 nyw1 Hyw1 yw1, RdR maK ayv1 nyv1 Hyv1 yv1, blk bka2 56 [.int .i64 0, .slice none 0 0], blk bka1 43 [.slice none 0 0, .slice none 0 0, .slice none 0 0]]) (fun _ h => h.pick [3, 0, 0, 0, 0, 0, 0, 0, 0, 0]) ?_
          refine rPieces (L' := [OwnI 2 ((Hy2 0).1) ((y2.getD 0 []).length) ((Hy2 0).2) (y2.getD 0 []), OwnH maK 28 2 ay2 ny2 cy2 Hy2 y2 0, blk bkl41 2 [.int .i64 (-1), .int .i64 1, .int .i64 60], srcP bk ca bs cc, blk bka9 56 [.int .i64 p, .slice ay2 ny2 cy2], blk bka6 43 [.slice ay1 ny1 cy1, .slice ayw1 nyw1 cyw1, .slice ayv1 nyv1 cyv1], RdR ndK ay1 ny1 Hy1 y1, RdR maK ayw1 nyw1 Hyw1 yw1, RdR maK ayv1 nyv1 Hyv1 yv1, blk bka2 56 [.int .i64 0, .slice none 0 0], blk bka1 43 [.slice none 0 0, .slice none 0 0, .slice none 0 0]]) (fun _ h => Sep.lend h 0 (y2.getD 0 []) (nth [] (by omega))) ?_
          refine oxI (zn := 0) 0 rfl el28 rfl rfl rfl rfl (by omega) (by omega) rfl ?_
          intro gk35 hgk35
          refine stoI (off := 0) (x := (((y2.getD 0 []).getD 0 0) + x34)) 0 rfl hgk35 Try.sizeOf2 (fun _ h => h.pick [4]) rfl rfl rfl rfl (by omega) ?_
          refine rPieces (L' := [OwnR maK 28 2 ay2 ny2 cy2 Hy2 ((y2.set 0 (((y2.getD 0 []).set 0 ((((y2.getD 0 []).getD 0 0) + x34)))))), blk bkl41 2 [.int .i64 (-1), .int .i64 1, .int .i64 60], srcP bk ca bs cc, blk bka9 56 [.int .i64 p, .slice ay2 ny2 cy2], blk bka6 43 [.slice ay1 ny1 cy1, .slice ayw1 nyw1 cyw1, .slice ayv1 nyv1 cyv1], RdR ndK ay1 ny1 Hy1 y1, RdR maK ayw1 nyw1 Hyw1 yw1, RdR maK ayv1 nyv1 Hyv1 yv1, blk bka2 56 [.int .i64 0, .slice none 0 0], blk bka1 43 [.slice none 0 0, .slice none 0 0, .slice none 0 0]]) (fun _ h => Sep.back (x := (y2.getD 0 [])) ((y2.getD 0 []).set 0 ((((y2.getD 0 []).getD 0 0) + x34))) maK.ok h (nth [] (by omega)) (fun h1 h2 => by dsimp only [ndK, ndC, maK] at h1 h2 ⊢; rw [h1, h2]) rfl rfl) ?_
          refine rNil ?_
          refine qSeq rfl ?_
          refine hSeq ?_
          refine hDraw (Ls := [blk bka9 56 [.int .i64 p, .slice ay2 ny2 cy2], blk bka6 43 [.slice ay1 ny1 cy1, .slice ayw1 nyw1 cyw1, .slice ayv1 nyv1 cyv1]]) (by kernel_rfl) (sq 0 (sq 1 (sl 2 (sf 3 sz)))) (by kernel_rfl) (.cons _ (.cons _ (.cons _ (.cons_cons _ (.cons_cons _ (.cons _ (.cons _ (.cons _ (.cons _ (.cons _ .slnil)))))))))) ?_
          refine ldAq Try.isAgg43 Try.sizeOf43 (cBs 1 rfl) rfl rfl rfl rfl ?_
          refine ldAq Try.isAgg56 Try.sizeOf56 (cBs 0 rfl) rfl rfl rfl rfl ?_
          refine stAl (vs := [.slice ay1 ny1 cy1, .slice ayw1 nyw1 cyw1, .slice ayv1 nyv1 cyv1]) 9 rfl Try.sizeOf43 (fun _ h => h.pick [3, 3]) rfl rfl rfl rfl rfl (by simp [Value.oneCell']) rfl ?_
          refine stAf (vs := [.int .i64 p, .slice ay2 ny2 cy2]) 8 rfl Try.sizeOf56 rfl rfl rfl rfl rfl (by simp [Value.oneCell']) rfl ?_
          refine rNil ?_
          refine qSeq rfl ?_
          refine hRet ?_
          exact fun w hs => ⟨[_, _], ⟨⟨_, rfl, run_load_agg Try.isAgg43 Try.sizeOf43 rfl (cBs 9 rfl w hs)⟩, ⟨⟨_, rfl, run_load_agg Try.isAgg56 Try.sizeOf56 rfl (cBs 8 rfl w hs)⟩, trivial⟩⟩, ⟨(ay1, ny1, cy1, Hy1, y1, ayw1, nyw1, cyw1, Hyw1, yw1, ayv1, nyv1, cyv1, Hyv1, yv1, p, ay2, ny2, cy2, Hy2, (y2.set 0 (((y2.getD 0 []).set 0 ((((y2.getD 0 []).getD 0 0) + x34)))))), rfl, ⟨⟨by dsimp only; omega, ⟨by dsimp only; omega, by dsimp only; omega⟩, by dsimp only; omega⟩, by dsimp only; omega, by dsimp only; omega⟩, hs.pick [2, 4, 4, 4, 0]⟩⟩
         ·
          refine rPieces (L' := [srcP bk ca bs cc, blk bkl41 2 [.int .i64 (-1), .int .i64 1, .int .i64 60], blk bka9 56 [.int .i64 p, .slice ay2 ny2 cy2], OwnR maK 28 2 ay2 ny2 cy2 Hy2 y2, blk bka6 43 [.slice ay1 ny1 cy1, .slice ayw1 nyw1 cyw1, .slice ayv1 nyv1 cyv1], RdR ndK ay1 ny1 Hy1 y1, RdR maK ayw1 nyw1 Hyw1 yw1, RdR maK ayv1 nyv1 Hyv1 yv1, blk bka2 56 [.int .i64 0, .slice none 0 0], blk bka1 43 [.slice none 0 0, .slice none 0 0, .slice none 0 0]]) (fun _ h => h.perm (pull (i := 1) rfl)) ?_
          refine callMK (α := Int) (Lf := [srcP bk ca bs cc, blk bkl41 2 [.int .i64 (-1), .int .i64 1, .int .i64 60]]) (Lr := [blk bka9 56 [.int .i64 p, .slice ay2 ny2 cy2], OwnR maK 28 2 ay2 ny2 cy2 Hy2 y2, blk bka6 43 [.slice ay1 ny1 cy1, .slice ayw1 nyw1 cyw1, .slice ayv1 nyv1 cyv1], RdR ndK ay1 ny1 Hy1 y1, RdR maK ayw1 nyw1 Hyw1 yw1, RdR maK ayv1 nyv1 Hyv1 yv1, blk bka2 56 [.int .i64 0, .slice none 0 0], blk bka1 43 [.slice none 0 0, .slice none 0 0, .slice none 0 0]]) (good := fun x => x ∈ ([.int .i64 (-1), .int .i64 1, .int .i64 60] : List Value).map toI) (φs := fun x => [srcP bk ca bs cc, blk bkl41 2 [.int .i64 (-1), .int .i64 1, .int .i64 60]]) (val := fun x => .int .i64 x) rfl Try.call155 (by exact (fun _ _ h => h.pick [2])) rfl rfl (fun w M1 hs hk => src_pick bk ca bs cc bkl41 2 3 3 [.int .i64 (-1), .int .i64 1, .int .i64 60] w M1 hs (hk _ kcode) hok rfl rfl (by decide)) ?_
          intro x36 hx36
          try dsimp only at hx36
          refine rPieces (L' := [srcP bk ca bs cc, blk bkl41 2 [.int .i64 (-1), .int .i64 1, .int .i64 60], blk bka9 56 [.int .i64 p, .slice ay2 ny2 cy2], OwnR maK 28 2 ay2 ny2 cy2 Hy2 y2, blk bka6 43 [.slice ay1 ny1 cy1, .slice ayw1 nyw1 cyw1, .slice ayv1 nyv1 cyv1], RdR ndK ay1 ny1 Hy1 y1, RdR maK ayw1 nyw1 Hyw1 yw1, RdR maK ayv1 nyv1 Hyv1 yv1, blk bka2 56 [.int .i64 0, .slice none 0 0], blk bka1 43 [.slice none 0 0, .slice none 0 0, .slice none 0 0]]) (fun _ h => h) ?_
          replace hx36 : (-1 : Int) ≤ x36 ∧ x36 ≤ (60 : Int) := by have hm_ := hx36; simp [toI] at hm_; omega
          refine rPieces (L' := [blk bkl41 2 [.int .i64 (-1), .int .i64 1, .int .i64 60], srcP bk ca bs cc, blk bka9 56 [.int .i64 p, .slice ay2 ny2 cy2], OwnR maK 28 2 ay2 ny2 cy2 Hy2 y2, blk bka6 43 [.slice ay1 ny1 cy1, .slice ayw1 nyw1 cyw1, .slice ayv1 nyv1 cyv1], RdR ndK ay1 ny1 Hy1 y1, RdR maK ayw1 nyw1 Hyw1 yw1, RdR maK ayv1 nyv1 Hyv1 yv1, blk bka2 56 [.int .i64 0, .slice none 0 0], blk bka1 43 [.slice none 0 0, .slice none 0 0, .slice none 0 0]]) (fun _ h => h.perm (pull (i := 1) rfl)) ?_
          refine ldl Try.isAgg2 (Kn.drop (k := 1) e21) (fun _ h => h.pick [2]) rfl rfl rfl ?_
          refine add rfl rfl rfl rfl (by omega) ?_
          refine rPieces (L' := [OwnR maK 28 2 ay2 ny2 cy2 Hy2 y2, blk bkl41 2 [.int .i64 (-1), .int .i64 1, .int .i64 60], srcP bk ca bs cc, blk bka9 56 [.int .i64 p, .slice ay2 ny2 cy2], blk bka6 43 [.slice ay1 ny1 cy1, .slice ayw1 nyw1 cyw1, .slice ayv1 nyv1 cyv1], RdR ndK ay1 ny1 Hy1 y1, RdR maK ayw1 nyw1 Hyw1 yw1, RdR maK ayv1 nyv1 Hyv1 yv1, blk bka2 56 [.int .i64 0, .slice none 0 0], blk bka1 43 [.slice none 0 0, .slice none 0 0, .slice none 0 0]]) (fun _ h => h.pick [3, 0, 0, 0, 0, 0, 0, 0, 0, 0]) ?_
          refine rPieces (L' := [OwnI 2 ((Hy2 0).1) ((y2.getD 0 []).length) ((Hy2 0).2) (y2.getD 0 []), OwnH maK 28 2 ay2 ny2 cy2 Hy2 y2 0, blk bkl41 2 [.int .i64 (-1), .int .i64 1, .int .i64 60], srcP bk ca bs cc, blk bka9 56 [.int .i64 p, .slice ay2 ny2 cy2], blk bka6 43 [.slice ay1 ny1 cy1, .slice ayw1 nyw1 cyw1, .slice ayv1 nyv1 cyv1], RdR ndK ay1 ny1 Hy1 y1, RdR maK ayw1 nyw1 Hyw1 yw1, RdR maK ayv1 nyv1 Hyv1 yv1, blk bka2 56 [.int .i64 0, .slice none 0 0], blk bka1 43 [.slice none 0 0, .slice none 0 0, .slice none 0 0]]) (fun _ h => Sep.lend h 0 (y2.getD 0 []) (nth [] (by omega))) ?_
          refine oxI (zn := 0) 0 rfl el28 rfl rfl rfl rfl (by omega) (by omega) rfl ?_
          intro gk37 hgk37
          refine stoI (off := 0) (x := (((y2.getD 0 []).getD 0 0) + x36)) 0 rfl hgk37 Try.sizeOf2 (fun _ h => h.pick [4]) rfl rfl rfl rfl (by omega) ?_
          refine rPieces (L' := [OwnR maK 28 2 ay2 ny2 cy2 Hy2 ((y2.set 0 (((y2.getD 0 []).set 0 ((((y2.getD 0 []).getD 0 0) + x36)))))), blk bkl41 2 [.int .i64 (-1), .int .i64 1, .int .i64 60], srcP bk ca bs cc, blk bka9 56 [.int .i64 p, .slice ay2 ny2 cy2], blk bka6 43 [.slice ay1 ny1 cy1, .slice ayw1 nyw1 cyw1, .slice ayv1 nyv1 cyv1], RdR ndK ay1 ny1 Hy1 y1, RdR maK ayw1 nyw1 Hyw1 yw1, RdR maK ayv1 nyv1 Hyv1 yv1, blk bka2 56 [.int .i64 0, .slice none 0 0], blk bka1 43 [.slice none 0 0, .slice none 0 0, .slice none 0 0]]) (fun _ h => Sep.back (x := (y2.getD 0 [])) ((y2.getD 0 []).set 0 ((((y2.getD 0 []).getD 0 0) + x36))) maK.ok h (nth [] (by omega)) (fun h1 h2 => by dsimp only [ndK, ndC, maK] at h1 h2 ⊢; rw [h1, h2]) rfl rfl) ?_
          refine rNil ?_
          refine qSeq rfl ?_
          refine hSeq ?_
          refine hDraw (Ls := [blk bka9 56 [.int .i64 p, .slice ay2 ny2 cy2], blk bka6 43 [.slice ay1 ny1 cy1, .slice ayw1 nyw1 cyw1, .slice ayv1 nyv1 cyv1]]) (by kernel_rfl) (sq 0 (sq 1 (sl 2 (sf 3 sz)))) (by kernel_rfl) (.cons _ (.cons _ (.cons _ (.cons_cons _ (.cons_cons _ (.cons _ (.cons _ (.cons _ (.cons _ (.cons _ .slnil)))))))))) ?_
          refine ldAq Try.isAgg43 Try.sizeOf43 (cBs 1 rfl) rfl rfl rfl rfl ?_
          refine ldAq Try.isAgg56 Try.sizeOf56 (cBs 0 rfl) rfl rfl rfl rfl ?_
          refine stAl (vs := [.slice ay1 ny1 cy1, .slice ayw1 nyw1 cyw1, .slice ayv1 nyv1 cyv1]) 9 rfl Try.sizeOf43 (fun _ h => h.pick [3, 3]) rfl rfl rfl rfl rfl (by simp [Value.oneCell']) rfl ?_
          refine stAf (vs := [.int .i64 p, .slice ay2 ny2 cy2]) 8 rfl Try.sizeOf56 rfl rfl rfl rfl rfl (by simp [Value.oneCell']) rfl ?_
          refine rNil ?_
          refine qSeq rfl ?_
          refine hRet ?_
          exact fun w hs => ⟨[_, _], ⟨⟨_, rfl, run_load_agg Try.isAgg43 Try.sizeOf43 rfl (cBs 9 rfl w hs)⟩, ⟨⟨_, rfl, run_load_agg Try.isAgg56 Try.sizeOf56 rfl (cBs 8 rfl w hs)⟩, trivial⟩⟩, ⟨(ay1, ny1, cy1, Hy1, y1, ayw1, nyw1, cyw1, Hyw1, yw1, ayv1, nyv1, cyv1, Hyv1, yv1, p, ay2, ny2, cy2, Hy2, (y2.set 0 (((y2.getD 0 []).set 0 ((((y2.getD 0 []).getD 0 0) + x36)))))), rfl, ⟨⟨by dsimp only; omega, ⟨by dsimp only; omega, by dsimp only; omega⟩, by dsimp only; omega⟩, by dsimp only; omega, by dsimp only; omega⟩, hs.pick [2, 4, 4, 4, 0]⟩⟩
        ·
         refine rAlt ?_ ?_
         ·
          refine ldl Try.isAgg2 (Kn.drop (k := 1) e21) (fun _ h => h.pick [2]) rfl rfl rfl ?_
          refine rAlt ?_ ?_
          ·
           refine ldl Try.isAgg28 (Kn.drop (k := 1) (Kn.fld e4 0 rfl)) (fun _ h => h.pick [2]) rfl rfl rfl ?_
           refine rPieces (L' := [srcP bk ca bs cc, blk bkl41 2 [.int .i64 (-1), .int .i64 1, .int .i64 60], blk bka9 56 [.int .i64 p, .slice ay2 ny2 cy2], OwnR maK 28 2 ay2 ny2 cy2 Hy2 y2, blk bka6 43 [.slice ay1 ny1 cy1, .slice ayw1 nyw1 cyw1, .slice ayv1 nyv1 cyv1], RdR ndK ay1 ny1 Hy1 y1, RdR maK ayw1 nyw1 Hyw1 yw1, RdR maK ayv1 nyv1 Hyv1 yv1, blk bka2 56 [.int .i64 0, .slice none 0 0], blk bka1 43 [.slice none 0 0, .slice none 0 0, .slice none 0 0]]) (fun _ h => h.perm (pull (i := 1) rfl)) ?_
           refine callMK (α := Int) (Lf := [srcP bk ca bs cc, blk bkl41 2 [.int .i64 (-1), .int .i64 1, .int .i64 60]]) (Lr := [blk bka9 56 [.int .i64 p, .slice ay2 ny2 cy2], OwnR maK 28 2 ay2 ny2 cy2 Hy2 y2, blk bka6 43 [.slice ay1 ny1 cy1, .slice ayw1 nyw1 cyw1, .slice ayv1 nyv1 cyv1], RdR ndK ay1 ny1 Hy1 y1, RdR maK ayw1 nyw1 Hyw1 yw1, RdR maK ayv1 nyv1 Hyv1 yv1, blk bka2 56 [.int .i64 0, .slice none 0 0], blk bka1 43 [.slice none 0 0, .slice none 0 0, .slice none 0 0]]) (good := fun x => x ∈ ([.int .i64 (-1), .int .i64 1, .int .i64 60] : List Value).map toI) (φs := fun x => [srcP bk ca bs cc, blk bkl41 2 [.int .i64 (-1), .int .i64 1, .int .i64 60]]) (val := fun x => .int .i64 x) rfl Try.call155 (by exact (fun _ _ h => h.pick [2])) rfl rfl (fun w M1 hs hk => src_pick bk ca bs cc bkl41 2 3 3 [.int .i64 (-1), .int .i64 1, .int .i64 60] w M1 hs (hk _ kcode) hok rfl rfl (by decide)) ?_
           intro x38 hx38
           try dsimp only at hx38
           refine rPieces (L' := [srcP bk ca bs cc, blk bkl41 2 [.int .i64 (-1), .int .i64 1, .int .i64 60], blk bka9 56 [.int .i64 p, .slice ay2 ny2 cy2], OwnR maK 28 2 ay2 ny2 cy2 Hy2 y2, blk bka6 43 [.slice ay1 ny1 cy1, .slice ayw1 nyw1 cyw1, .slice ayv1 nyv1 cyv1], RdR ndK ay1 ny1 Hy1 y1, RdR maK ayw1 nyw1 Hyw1 yw1, RdR maK ayv1 nyv1 Hyv1 yv1, blk bka2 56 [.int .i64 0, .slice none 0 0], blk bka1 43 [.slice none 0 0, .slice none 0 0, .slice none 0 0]]) (fun _ h => h) ?_
           replace hx38 : (-1 : Int) ≤ x38 ∧ x38 ≤ (60 : Int) := by have hm_ := hx38; simp [toI] at hm_; omega
           refine rPieces (L' := [blk bkl41 2 [.int .i64 (-1), .int .i64 1, .int .i64 60], srcP bk ca bs cc, blk bka9 56 [.int .i64 p, .slice ay2 ny2 cy2], OwnR maK 28 2 ay2 ny2 cy2 Hy2 y2, blk bka6 43 [.slice ay1 ny1 cy1, .slice ayw1 nyw1 cyw1, .slice ayv1 nyv1 cyv1], RdR ndK ay1 ny1 Hy1 y1, RdR maK ayw1 nyw1 Hyw1 yw1, RdR maK ayv1 nyv1 Hyv1 yv1, blk bka2 56 [.int .i64 0, .slice none 0 0], blk bka1 43 [.slice none 0 0, .slice none 0 0, .slice none 0 0]]) (fun _ h => h.perm (pull (i := 1) rfl)) ?_
           refine add rfl rfl rfl rfl (by omega) ?_
           refine rPieces (L' := [OwnR maK 28 2 ay2 ny2 cy2 Hy2 y2, blk bkl41 2 [.int .i64 (-1), .int .i64 1, .int .i64 60], srcP bk ca bs cc, blk bka9 56 [.int .i64 p, .slice ay2 ny2 cy2], blk bka6 43 [.slice ay1 ny1 cy1, .slice ayw1 nyw1 cyw1, .slice ayv1 nyv1 cyv1], RdR ndK ay1 ny1 Hy1 y1, RdR maK ayw1 nyw1 Hyw1 yw1, RdR maK ayv1 nyv1 Hyv1 yv1, blk bka2 56 [.int .i64 0, .slice none 0 0], blk bka1 43 [.slice none 0 0, .slice none 0 0, .slice none 0 0]]) (fun _ h => h.pick [3, 0, 0, 0, 0, 0, 0, 0, 0, 0]) ?_
           refine rPieces (L' := [OwnI 2 ((Hy2 0).1) ((y2.getD 0 []).length) ((Hy2 0).2) (y2.getD 0 []), OwnH maK 28 2 ay2 ny2 cy2 Hy2 y2 0, blk bkl41 2 [.int .i64 (-1), .int .i64 1, .int .i64 60], srcP bk ca bs cc, blk bka9 56 [.int .i64 p, .slice ay2 ny2 cy2], blk bka6 43 [.slice ay1 ny1 cy1, .slice ayw1 nyw1 cyw1, .slice ayv1 nyv1 cyv1], RdR ndK ay1 ny1 Hy1 y1, RdR maK ayw1 nyw1 Hyw1 yw1, RdR maK ayv1 nyv1 Hyv1 yv1, blk bka2 56 [.int .i64 0, .slice none 0 0], blk bka1 43 [.slice none 0 0, .slice none 0 0, .slice none 0 0]]) (fun _ h => Sep.lend h 0 (y2.getD 0 []) (nth [] (by omega))) ?_
           refine oxI (zn := 0) 0 rfl el28 rfl rfl rfl rfl (by omega) (by omega) rfl ?_
           intro gk39 hgk39
           refine stoI (off := 0) (x := (((y2.getD 0 []).getD 0 0) + x38)) 0 rfl hgk39 Try.sizeOf2 (fun _ h => h.pick [4]) rfl rfl rfl rfl (by omega) ?_
           refine rPieces (L' := [OwnR maK 28 2 ay2 ny2 cy2 Hy2 ((y2.set 0 (((y2.getD 0 []).set 0 ((((y2.getD 0 []).getD 0 0) + x38)))))), blk bkl41 2 [.int .i64 (-1), .int .i64 1, .int .i64 60], srcP bk ca bs cc, blk bka9 56 [.int .i64 p, .slice ay2 ny2 cy2], blk bka6 43 [.slice ay1 ny1 cy1, .slice ayw1 nyw1 cyw1, .slice ayv1 nyv1 cyv1], RdR ndK ay1 ny1 Hy1 y1, RdR maK ayw1 nyw1 Hyw1 yw1, RdR maK ayv1 nyv1 Hyv1 yv1, blk bka2 56 [.int .i64 0, .slice none 0 0], blk bka1 43 [.slice none 0 0, .slice none 0 0, .slice none 0 0]]) (fun _ h => Sep.back (x := (y2.getD 0 [])) ((y2.getD 0 []).set 0 ((((y2.getD 0 []).getD 0 0) + x38))) maK.ok h (nth [] (by omega)) (fun h1 h2 => by dsimp only [ndK, ndC, maK] at h1 h2 ⊢; rw [h1, h2]) rfl rfl) ?_
           refine rNil ?_
           refine qSeq rfl ?_
           refine hSeq ?_
           refine hDraw (Ls := [blk bka9 56 [.int .i64 p, .slice ay2 ny2 cy2], blk bka6 43 [.slice ay1 ny1 cy1, .slice ayw1 nyw1 cyw1, .slice ayv1 nyv1 cyv1]]) (by kernel_rfl) (sq 0 (sq 1 (sl 2 (sf 3 sz)))) (by kernel_rfl) (.cons _ (.cons _ (.cons _ (.cons_cons _ (.cons_cons _ (.cons _ (.cons _ (.cons _ (.cons _ (.cons _ .slnil)))))))))) ?_
           refine ldAq Try.isAgg43 Try.sizeOf43 (cBs 1 rfl) rfl rfl rfl rfl ?_
           refine ldAq Try.isAgg56 Try.sizeOf56 (cBs 0 rfl) rfl rfl rfl rfl ?_
           refine stAl (vs := [.slice ay1 ny1 cy1, .slice ayw1 nyw1 cyw1, .slice ayv1 nyv1 cyv1]) 9 rfl Try.sizeOf43 (fun _ h => h.pick [3, 3]) rfl rfl rfl rfl rfl (by simp [Value.oneCell']) rfl ?_
           refine stAf (vs := [.int .i64 p, .slice ay2 ny2 cy2]) 8 rfl Try.sizeOf56 rfl rfl rfl rfl rfl (by simp [Value.oneCell']) rfl ?_
           refine rNil ?_
           refine qSeq rfl ?_
           refine hRet ?_
           exact fun w hs => ⟨[_, _], ⟨⟨_, rfl, run_load_agg Try.isAgg43 Try.sizeOf43 rfl (cBs 9 rfl w hs)⟩, ⟨⟨_, rfl, run_load_agg Try.isAgg56 Try.sizeOf56 rfl (cBs 8 rfl w hs)⟩, trivial⟩⟩, ⟨(ay1, ny1, cy1, Hy1, y1, ayw1, nyw1, cyw1, Hyw1, yw1, ayv1, nyv1, cyv1, Hyv1, yv1, p, ay2, ny2, cy2, Hy2, (y2.set 0 (((y2.getD 0 []).set 0 ((((y2.getD 0 []).getD 0 0) + x38)))))), rfl, ⟨⟨by dsimp only; omega, ⟨by dsimp only; omega, by dsimp only; omega⟩, by dsimp only; omega⟩, by dsimp only; omega, by dsimp only; omega⟩, hs.pick [2, 4, 4, 4, 0]⟩⟩
          ·
           refine rPieces (L' := [srcP bk ca bs cc, blk bkl41 2 [.int .i64 (-1), .int .i64 1, .int .i64 60], blk bka9 56 [.int .i64 p, .slice ay2 ny2 cy2], OwnR maK 28 2 ay2 ny2 cy2 Hy2 y2, blk bka6 43 [.slice ay1 ny1 cy1, .slice ayw1 nyw1 cyw1, .slice ayv1 nyv1 cyv1], RdR ndK ay1 ny1 Hy1 y1, RdR maK ayw1 nyw1 Hyw1 yw1, RdR maK ayv1 nyv1 Hyv1 yv1, blk bka2 56 [.int .i64 0, .slice none 0 0], blk bka1 43 [.slice none 0 0, .slice none 0 0, .slice none 0 0]]) (fun _ h => h.perm (pull (i := 1) rfl)) ?_
           refine callMK (α := Int) (Lf := [srcP bk ca bs cc, blk bkl41 2 [.int .i64 (-1), .int .i64 1, .int .i64 60]]) (Lr := [blk bka9 56 [.int .i64 p, .slice ay2 ny2 cy2], OwnR maK 28 2 ay2 ny2 cy2 Hy2 y2, blk bka6 43 [.slice ay1 ny1 cy1, .slice ayw1 nyw1 cyw1, .slice ayv1 nyv1 cyv1], RdR ndK ay1 ny1 Hy1 y1, RdR maK ayw1 nyw1 Hyw1 yw1, RdR maK ayv1 nyv1 Hyv1 yv1, blk bka2 56 [.int .i64 0, .slice none 0 0], blk bka1 43 [.slice none 0 0, .slice none 0 0, .slice none 0 0]]) (good := fun x => x ∈ ([.int .i64 (-1), .int .i64 1, .int .i64 60] : List Value).map toI) (φs := fun x => [srcP bk ca bs cc, blk bkl41 2 [.int .i64 (-1), .int .i64 1, .int .i64 60]]) (val := fun x => .int .i64 x) rfl Try.call155 (by exact (fun _ _ h => h.pick [2])) rfl rfl (fun w M1 hs hk => src_pick bk ca bs cc bkl41 2 3 3 [.int .i64 (-1), .int .i64 1, .int .i64 60] w M1 hs (hk _ kcode) hok rfl rfl (by decide)) ?_
           intro x40 hx40
           try dsimp only at hx40
           refine rPieces (L' := [srcP bk ca bs cc, blk bkl41 2 [.int .i64 (-1), .int .i64 1, .int .i64 60], blk bka9 56 [.int .i64 p, .slice ay2 ny2 cy2], OwnR maK 28 2 ay2 ny2 cy2 Hy2 y2, blk bka6 43 [.slice ay1 ny1 cy1, .slice ayw1 nyw1 cyw1, .slice ayv1 nyv1 cyv1], RdR ndK ay1 ny1 Hy1 y1, RdR maK ayw1 nyw1 Hyw1 yw1, RdR maK ayv1 nyv1 Hyv1 yv1, blk bka2 56 [.int .i64 0, .slice none 0 0], blk bka1 43 [.slice none 0 0, .slice none 0 0, .slice none 0 0]]) (fun _ h => h) ?_
           replace hx40 : (-1 : Int) ≤ x40 ∧ x40 ≤ (60 : Int) := by have hm_ := hx40; simp [toI] at hm_; omega
           refine rPieces (L' := [blk bkl41 2 [.int .i64 (-1), .int .i64 1, .int .i64 60], srcP bk ca bs cc, blk bka9 56 [.int .i64 p, .slice ay2 ny2 cy2], OwnR maK 28 2 ay2 ny2 cy2 Hy2 y2, blk bka6 43 [.slice ay1 ny1 cy1, .slice ayw1 nyw1 cyw1, .slice ayv1 nyv1 cyv1], RdR ndK ay1 ny1 Hy1 y1, RdR maK ayw1 nyw1 Hyw1 yw1, RdR maK ayv1 nyv1 Hyv1 yv1, blk bka2 56 [.int .i64 0, .slice none 0 0], blk bka1 43 [.slice none 0 0, .slice none 0 0, .slice none 0 0]]) (fun _ h => h.perm (pull (i := 1) rfl)) ?_
           refine add rfl rfl rfl rfl (by omega) ?_
           refine ldl Try.isAgg28 (Kn.drop (k := 1) (Kn.fld e4 0 rfl)) (fun _ h => h.pick [2]) rfl rfl rfl ?_
           refine rPieces (L' := [OwnR maK 28 2 ay2 ny2 cy2 Hy2 y2, blk bkl41 2 [.int .i64 (-1), .int .i64 1, .int .i64 60], srcP bk ca bs cc, blk bka9 56 [.int .i64 p, .slice ay2 ny2 cy2], blk bka6 43 [.slice ay1 ny1 cy1, .slice ayw1 nyw1 cyw1, .slice ayv1 nyv1 cyv1], RdR ndK ay1 ny1 Hy1 y1, RdR maK ayw1 nyw1 Hyw1 yw1, RdR maK ayv1 nyv1 Hyv1 yv1, blk bka2 56 [.int .i64 0, .slice none 0 0], blk bka1 43 [.slice none 0 0, .slice none 0 0, .slice none 0 0]]) (fun _ h => h.pick [3, 0, 0, 0, 0, 0, 0, 0, 0, 0]) ?_
           refine rPieces (L' := [OwnI 2 ((Hy2 0).1) ((y2.getD 0 []).length) ((Hy2 0).2) (y2.getD 0 []), OwnH maK 28 2 ay2 ny2 cy2 Hy2 y2 0, blk bkl41 2 [.int .i64 (-1), .int .i64 1, .int .i64 60], srcP bk ca bs cc, blk bka9 56 [.int .i64 p, .slice ay2 ny2 cy2], blk bka6 43 [.slice ay1 ny1 cy1, .slice ayw1 nyw1 cyw1, .slice ayv1 nyv1 cyv1], RdR ndK ay1 ny1 Hy1 y1, RdR maK ayw1 nyw1 Hyw1 yw1, RdR maK ayv1 nyv1 Hyv1 yv1, blk bka2 56 [.int .i64 0, .slice none 0 0], blk bka1 43 [.slice none 0 0, .slice none 0 0, .slice none 0 0]]) (fun _ h => Sep.lend h 0 (y2.getD 0 []) (nth [] (by omega))) ?_
           refine oxI (zn := 0) 0 rfl el28 rfl rfl rfl rfl (by omega) (by omega) rfl ?_
           intro gk41 hgk41
           refine stoI (off := 0) (x := (((y2.getD 0 []).getD 0 0) + x40)) 0 rfl hgk41 Try.sizeOf2 (fun _ h => h.pick [4]) rfl rfl rfl rfl (by omega) ?_
           refine rPieces (L' := [OwnR maK 28 2 ay2 ny2 cy2 Hy2 ((y2.set 0 (((y2.getD 0 []).set 0 ((((y2.getD 0 []).getD 0 0) + x40)))))), blk bkl41 2 [.int .i64 (-1), .int .i64 1, .int .i64 60], srcP bk ca bs cc, blk bka9 56 [.int .i64 p, .slice ay2 ny2 cy2], blk bka6 43 [.slice ay1 ny1 cy1, .slice ayw1 nyw1 cyw1, .slice ayv1 nyv1 cyv1], RdR ndK ay1 ny1 Hy1 y1, RdR maK ayw1 nyw1 Hyw1 yw1, RdR maK ayv1 nyv1 Hyv1 yv1, blk bka2 56 [.int .i64 0, .slice none 0 0], blk bka1 43 [.slice none 0 0, .slice none 0 0, .slice none 0 0]]) (fun _ h => Sep.back (x := (y2.getD 0 [])) ((y2.getD 0 []).set 0 ((((y2.getD 0 []).getD 0 0) + x40))) maK.ok h (nth [] (by omega)) (fun h1 h2 => by dsimp only [ndK, ndC, maK] at h1 h2 ⊢; rw [h1, h2]) rfl rfl) ?_
           refine rNil ?_
           refine qSeq rfl ?_
           refine hSeq ?_
           refine hDraw (Ls := [blk bka9 56 [.int .i64 p, .slice ay2 ny2 cy2], blk bka6 43 [.slice ay1 ny1 cy1, .slice ayw1 nyw1 cyw1, .slice ayv1 nyv1 cyv1]]) (by kernel_rfl) (sq 0 (sq 1 (sl 2 (sf 3 sz)))) (by kernel_rfl) (.cons _ (.cons _ (.cons _ (.cons_cons _ (.cons_cons _ (.cons _ (.cons _ (.cons _ (.cons _ (.cons _ .slnil)))))))))) ?_
           refine ldAq Try.isAgg43 Try.sizeOf43 (cBs 1 rfl) rfl rfl rfl rfl ?_
           refine ldAq Try.isAgg56 Try.sizeOf56 (cBs 0 rfl) rfl rfl rfl rfl ?_
           refine stAl (vs := [.slice ay1 ny1 cy1, .slice ayw1 nyw1 cyw1, .slice ayv1 nyv1 cyv1]) 9 rfl Try.sizeOf43 (fun _ h => h.pick [3, 3]) rfl rfl rfl rfl rfl (by simp [Value.oneCell']) rfl ?_
           refine stAf (vs := [.int .i64 p, .slice ay2 ny2 cy2]) 8 rfl Try.sizeOf56 rfl rfl rfl rfl rfl (by simp [Value.oneCell']) rfl ?_
           refine rNil ?_
           refine qSeq rfl ?_
           refine hRet ?_
           exact fun w hs => ⟨[_, _], ⟨⟨_, rfl, run_load_agg Try.isAgg43 Try.sizeOf43 rfl (cBs 9 rfl w hs)⟩, ⟨⟨_, rfl, run_load_agg Try.isAgg56 Try.sizeOf56 rfl (cBs 8 rfl w hs)⟩, trivial⟩⟩, ⟨(ay1, ny1, cy1, Hy1, y1, ayw1, nyw1, cyw1, Hyw1, yw1, ayv1, nyv1, cyv1, Hyv1, yv1, p, ay2, ny2, cy2, Hy2, (y2.set 0 (((y2.getD 0 []).set 0 ((((y2.getD 0 []).getD 0 0) + x40)))))), rfl, ⟨⟨by dsimp only; omega, ⟨by dsimp only; omega, by dsimp only; omega⟩, by dsimp only; omega⟩, by dsimp only; omega, by dsimp only; omega⟩, hs.pick [2, 4, 4, 4, 0]⟩⟩
         ·
          refine rPieces (L' := [srcP bk ca bs cc, blk bkl41 2 [.int .i64 (-1), .int .i64 1, .int .i64 60], blk bka9 56 [.int .i64 p, .slice ay2 ny2 cy2], OwnR maK 28 2 ay2 ny2 cy2 Hy2 y2, blk bka6 43 [.slice ay1 ny1 cy1, .slice ayw1 nyw1 cyw1, .slice ayv1 nyv1 cyv1], RdR ndK ay1 ny1 Hy1 y1, RdR maK ayw1 nyw1 Hyw1 yw1, RdR maK ayv1 nyv1 Hyv1 yv1, blk bka2 56 [.int .i64 0, .slice none 0 0], blk bka1 43 [.slice none 0 0, .slice none 0 0, .slice none 0 0]]) (fun _ h => h.perm (pull (i := 1) rfl)) ?_
          refine callMK (α := Int) (Lf := [srcP bk ca bs cc, blk bkl41 2 [.int .i64 (-1), .int .i64 1, .int .i64 60]]) (Lr := [blk bka9 56 [.int .i64 p, .slice ay2 ny2 cy2], OwnR maK 28 2 ay2 ny2 cy2 Hy2 y2, blk bka6 43 [.slice ay1 ny1 cy1, .slice ayw1 nyw1 cyw1, .slice ayv1 nyv1 cyv1], RdR ndK ay1 ny1 Hy1 y1, RdR maK ayw1 nyw1 Hyw1 yw1, RdR maK ayv1 nyv1 Hyv1 yv1, blk bka2 56 [.int .i64 0, .slice none 0 0], blk bka1 43 [.slice none 0 0, .slice none 0 0, .slice none 0 0]]) (good := fun x => x ∈ ([.int .i64 (-1), .int .i64 1, .int .i64 60] : List Value).map toI) (φs := fun x => [srcP bk ca bs cc, blk bkl41 2 [.int .i64 (-1), .int .i64 1, .int .i64 60]]) (val := fun x => .int .i64 x) rfl Try.call155 (by exact (fun _ _ h => h.pick [2])) rfl rfl (fun w M1 hs hk => src_pick bk ca bs cc bkl41 2 3 3 [.int .i64 (-1), .int .i64 1, .int .i64 60] w M1 hs (hk _ kcode) hok rfl rfl (by decide)) ?_
          intro x42 hx42
          try dsimp only at hx42
          refine rPieces (L' := [srcP bk ca bs cc, blk bkl41 2 [.int .i64 (-1), .int .i64 1, .int .i64 60], blk bka9 56 [.int .i64 p, .slice ay2 ny2 cy2], OwnR maK 28 2 ay2 ny2 cy2 Hy2 y2, blk bka6 43 [.slice ay1 ny1 cy1, .slice ayw1 nyw1 cyw1, .slice ayv1 nyv1 cyv1], RdR ndK ay1 ny1 Hy1 y1, RdR maK ayw1 nyw1 Hyw1 yw1, RdR maK ayv1 nyv1 Hyv1 yv1, blk bka2 56 [.int .i64 0, .slice none 0 0], blk bka1 43 [.slice none 0 0, .slice none 0 0, .slice none 0 0]]) (fun _ h => h) ?_
          replace hx42 : (-1 : Int) ≤ x42 ∧ x42 ≤ (60 : Int) := by have hm_ := hx42; simp [toI] at hm_; omega
          refine rPieces (L' := [blk bkl41 2 [.int .i64 (-1), .int .i64 1, .int .i64 60], srcP bk ca bs cc, blk bka9 56 [.int .i64 p, .slice ay2 ny2 cy2], OwnR maK 28 2 ay2 ny2 cy2 Hy2 y2, blk bka6 43 [.slice ay1 ny1 cy1, .slice ayw1 nyw1 cyw1, .slice ayv1 nyv1 cyv1], RdR ndK ay1 ny1 Hy1 y1, RdR maK ayw1 nyw1 Hyw1 yw1, RdR maK ayv1 nyv1 Hyv1 yv1, blk bka2 56 [.int .i64 0, .slice none 0 0], blk bka1 43 [.slice none 0 0, .slice none 0 0, .slice none 0 0]]) (fun _ h => h.perm (pull (i := 1) rfl)) ?_
          refine rAlt ?_ ?_
          ·
           refine ldl Try.isAgg28 (Kn.drop (k := 1) (Kn.fld e4 0 rfl)) (fun _ h => h.pick [2]) rfl rfl rfl ?_
           refine ldl Try.isAgg2 (Kn.drop (k := 1) e21) (fun _ h => h.pick [2]) rfl rfl rfl ?_
           refine add rfl rfl rfl rfl (by omega) ?_
           refine rPieces (L' := [OwnR maK 28 2 ay2 ny2 cy2 Hy2 y2, blk bkl41 2 [.int .i64 (-1), .int .i64 1, .int .i64 60], srcP bk ca bs cc, blk bka9 56 [.int .i64 p, .slice ay2 ny2 cy2], blk bka6 43 [.slice ay1 ny1 cy1, .slice ayw1 nyw1 cyw1, .slice ayv1 nyv1 cyv1], RdR ndK ay1 ny1 Hy1 y1, RdR maK ayw1 nyw1 Hyw1 yw1, RdR maK ayv1 nyv1 Hyv1 yv1, blk bka2 56 [.int .i64 0, .slice none 0 0], blk bka1 43 [.slice none 0 0, .slice none 0 0, .slice none 0 0]]) (fun _ h => h.pick [3, 0, 0, 0, 0, 0, 0, 0, 0, 0]) ?_
           refine rPieces (L' := [OwnI 2 ((Hy2 0).1) ((y2.getD 0 []).length) ((Hy2 0).2) (y2.getD 0 []), OwnH maK 28 2 ay2 ny2 cy2 Hy2 y2 0, blk bkl41 2 [.int .i64 (-1), .int .i64 1, .int .i64 60], srcP bk ca bs cc, blk bka9 56 [.int .i64 p, .slice ay2 ny2 cy2], blk bka6 43 [.slice ay1 ny1 cy1, .slice ayw1 nyw1 cyw1, .slice ayv1 nyv1 cyv1], RdR ndK ay1 ny1 Hy1 y1, RdR maK ayw1 nyw1 Hyw1 yw1, RdR maK ayv1 nyv1 Hyv1 yv1, blk bka2 56 [.int .i64 0, .slice none 0 0], blk bka1 43 [.slice none 0 0, .slice none 0 0, .slice none 0 0]]) (fun _ h => Sep.lend h 0 (y2.getD 0 []) (nth [] (by omega))) ?_
           refine oxI (zn := 0) 0 rfl el28 rfl rfl rfl rfl (by omega) (by omega) rfl ?_
           intro gk43 hgk43
           refine stoI (off := 0) (x := (((y2.getD 0 []).getD 0 0) + x42)) 0 rfl hgk43 Try.sizeOf2 (fun _ h => h.pick [4]) rfl rfl rfl rfl (by omega) ?_
           refine rPieces (L' := [OwnR maK 28 2 ay2 ny2 cy2 Hy2 ((y2.set 0 (((y2.getD 0 []).set 0 ((((y2.getD 0 []).getD 0 0) + x42)))))), blk bkl41 2 [.int .i64 (-1), .int .i64 1, .int .i64 60], srcP bk ca bs cc, blk bka9 56 [.int .i64 p, .slice ay2 ny2 cy2], blk bka6 43 [.slice ay1 ny1 cy1, .slice ayw1 nyw1 cyw1, .slice ayv1 nyv1 cyv1], RdR ndK ay1 ny1 Hy1 y1, RdR maK ayw1 nyw1 Hyw1 yw1, RdR maK ayv1 nyv1 Hyv1 yv1, blk bka2 56 [.int .i64 0, .slice none 0 0], blk bka1 43 [.slice none 0 0, .slice none 0 0, .slice none 0 0]]) (fun _ h => Sep.back (x := (y2.getD 0 [])) ((y2.getD 0 []).set 0 ((((y2.getD 0 []).getD 0 0) + x42))) maK.ok h (nth [] (by omega)) (fun h1 h2 => by dsimp only [ndK, ndC, maK] at h1 h2 ⊢; rw [h1, h2]) rfl rfl) ?_
           refine rNil ?_
           refine qSeq rfl ?_
           refine hSeq ?_
           refine hDraw (Ls := [blk bka9 56 [.int .i64 p, .slice ay2 ny2 cy2], blk bka6 43 [.slice ay1 ny1 cy1, .slice ayw1 nyw1 cyw1, .slice ayv1 nyv1 cyv1]]) (by kernel_rfl) (sq 0 (sq 1 (sl 2 (sf 3 sz)))) (by kernel_rfl) (.cons _ (.cons _ (.cons _ (.cons_cons _ (.cons_cons _ (.cons _ (.cons _ (.cons _ (.cons _ (.cons _ .slnil)))))))))) ?_
           refine ldAq Try.isAgg43 Try.sizeOf43 (cBs 1 rfl) rfl rfl rfl rfl ?_
           refine ldAq Try.isAgg56 Try.sizeOf56 (cBs 0 rfl) rfl rfl rfl rfl ?_
           refine stAl (vs := [.slice ay1 ny1 cy1, .slice ayw1 nyw1 cyw1, .slice ayv1 nyv1 cyv1]) 9 rfl Try.sizeOf43 (fun _ h => h.pick [3, 3]) rfl rfl rfl rfl rfl (by simp [Value.oneCell']) rfl ?_
           refine stAf (vs := [.int .i64 p, .slice ay2 ny2 cy2]) 8 rfl Try.sizeOf56 rfl rfl rfl rfl rfl (by simp [Value.oneCell']) rfl ?_
           refine rNil ?_
           refine qSeq rfl ?_
           refine hRet ?_
           exact fun w hs => ⟨[_, _], ⟨⟨_, rfl, run_load_agg Try.isAgg43 Try.sizeOf43 rfl (cBs 9 rfl w hs)⟩, ⟨⟨_, rfl, run_load_agg Try.isAgg56 Try.sizeOf56 rfl (cBs 8 rfl w hs)⟩, trivial⟩⟩, ⟨(ay1, ny1, cy1, Hy1, y1, ayw1, nyw1, cyw1, Hyw1, yw1, ayv1, nyv1, cyv1, Hyv1, yv1, p, ay2, ny2, cy2, Hy2, (y2.set 0 (((y2.getD 0 []).set 0 ((((y2.getD 0 []).getD 0 0) + x42)))))), rfl, ⟨⟨by dsimp only; omega, ⟨by dsimp only; omega, by dsimp only; omega⟩, by dsimp only; omega⟩, by dsimp only; omega, by dsimp only; omega⟩, hs.pick [2, 4, 4, 4, 0]⟩⟩
          ·
           refine ldl Try.isAgg2 (Kn.drop (k := 1) e21) (fun _ h => h.pick [2]) rfl rfl rfl ?_
           refine add rfl rfl rfl rfl (by omega) ?_
           refine ldl Try.isAgg28 (Kn.drop (k := 1) (Kn.fld e4 0 rfl)) (fun _ h => h.pick [2]) rfl rfl rfl ?_
           refine rPieces (L' := [OwnR maK 28 2 ay2 ny2 cy2 Hy2 y2, blk bkl41 2 [.int .i64 (-1), .int .i64 1, .int .i64 60], srcP bk ca bs cc, blk bka9 56 [.int .i64 p, .slice ay2 ny2 cy2], blk bka6 43 [.slice ay1 ny1 cy1, .slice ayw1 nyw1 cyw1, .slice ayv1 nyv1 cyv1], RdR ndK ay1 ny1 Hy1 y1, RdR maK ayw1 nyw1 Hyw1 yw1, RdR maK ayv1 nyv1 Hyv1 yv1, blk bka2 56 [.int .i64 0, .slice none 0 0], blk bka1 43 [.slice none 0 0, .slice none 0 0, .slice none 0 0]]) (fun _ h => h.pick [3, 0, 0, 0, 0, 0, 0, 0, 0, 0]) ?_
           refine rPieces (L' := [OwnI 2 ((Hy2 0).1) ((y2.getD 0 []).length) ((Hy2 0).2) (y2.getD 0 []), OwnH maK 28 2 ay2 ny2 cy2 Hy2 y2 0, blk bkl41 2 [.int .i64 (-1), .int .i64 1, .int .i64 60], srcP bk ca bs cc, blk bka9 56 [.int .i64 p, .slice ay2 ny2 cy2], blk bka6 43 [.slice ay1 ny1 cy1, .slice ayw1 nyw1 cyw1, .slice ayv1 nyv1 cyv1], RdR ndK ay1 ny1 Hy1 y1, RdR maK ayw1 nyw1 Hyw1 yw1, RdR maK ayv1 nyv1 Hyv1 yv1, blk bka2 56 [.int .i64 0, .slice none 0 0], blk bka1 43 [.slice none 0 0, .slice none 0 0, .slice none 0 0]]) (fun _ h => Sep.lend h 0 (y2.getD 0 []) (nth [] (by omega))) ?_
           refine oxI (zn := 0) 0 rfl el28 rfl rfl rfl rfl (by omega) (by omega) rfl ?_
           intro gk44 hgk44
           refine stoI (off := 0) (x := (((y2.getD 0 []).getD 0 0) + x42)) 0 rfl hgk44 Try.sizeOf2 (fun _ h => h.pick [4]) rfl rfl rfl rfl (by omega) ?_
           refine rPieces (L' := [OwnR maK 28 2 ay2 ny2 cy2 Hy2 ((y2.set 0 (((y2.getD 0 []).set 0 ((((y2.getD 0 []).getD 0 0) + x42)))))), blk bkl41 2 [.int .i64 (-1), .int .i64 1, .int .i64 60], srcP bk ca bs cc, blk bka9 56 [.int .i64 p, .slice ay2 ny2 cy2], blk bka6 43 [.slice ay1 ny1 cy1, .slice ayw1 nyw1 cyw1, .slice ayv1 nyv1 cyv1], RdR ndK ay1 ny1 Hy1 y1, RdR maK ayw1 nyw1 Hyw1 yw1, RdR maK ayv1 nyv1 Hyv1 yv1, blk bka2 56 [.int .i64 0, .slice none 0 0], blk bka1 43 [.slice none 0 0, .slice none 0 0, .slice none 0 0]]) (fun _ h => Sep.back (x := (y2.getD 0 [])) ((y2.getD 0 []).set 0 ((((y2.getD 0 []).getD 0 0) + x42))) maK.ok h (nth [] (by omega)) (fun h1 h2 => by dsimp only [ndK, ndC, maK] at h1 h2 ⊢; rw [h1, h2]) rfl rfl) ?_
           refine rNil ?_
           refine qSeq rfl ?_
           refine hSeq ?_
           refine hDraw (Ls := [blk bka9 56 [.int .i64 p, .slice ay2 ny2 cy2], blk bka6 43 [.slice ay1 ny1 cy1, .slice ayw1 nyw1 cyw1, .slice ayv1 nyv1 cyv1]]) (by kernel_rfl) (sq 0 (sq 1 (sl 2 (sf 3 sz)))) (by kernel_rfl) (.cons _ (.cons _ (.cons _ (.cons_cons _ (.cons_cons _ (.cons _ (.cons _ (.cons _ (.cons _ (.cons _ .slnil)))))))))) ?_
           refine ldAq Try.isAgg43 Try.sizeOf43 (cBs 1 rfl) rfl rfl rfl rfl ?_
           refine ldAq Try.isAgg56 Try.sizeOf56 (cBs 0 rfl) rfl rfl rfl rfl ?_
           refine stAl (vs := [.slice ay1 ny1 cy1, .slice ayw1 nyw1 cyw1, .slice ayv1 nyv1 cyv1]) 9 rfl Try.sizeOf43 (fun _ h => h.pick [3, 3]) rfl rfl rfl rfl rfl (by simp [Value.oneCell']) rfl ?_
           refine stAf (vs := [.int .i64 p, .slice ay2 ny2 cy2]) 8 rfl Try.sizeOf56 rfl rfl rfl rfl rfl (by simp [Value.oneCell']) rfl ?_
           refine rNil ?_
           refine qSeq rfl ?_
           refine hRet ?_
           exact fun w hs => ⟨[_, _], ⟨⟨_, rfl, run_load_agg Try.isAgg43 Try.sizeOf43 rfl (cBs 9 rfl w hs)⟩, ⟨⟨_, rfl, run_load_agg Try.isAgg56 Try.sizeOf56 rfl (cBs 8 rfl w hs)⟩, trivial⟩⟩, ⟨(ay1, ny1, cy1, Hy1, y1, ayw1, nyw1, cyw1, Hyw1, yw1, ayv1, nyv1, cyv1, Hyv1, yv1, p, ay2, ny2, cy2, Hy2, (y2.set 0 (((y2.getD 0 []).set 0 ((((y2.getD 0 []).getD 0 0) + x42)))))), rfl, ⟨⟨by dsimp only; omega, ⟨by dsimp only; omega, by dsimp only; omega⟩, by dsimp only; omega⟩, by dsimp only; omega, by dsimp only; omega⟩, hs.pick [2, 4, 4, 4, 0]⟩⟩
     ·
      refine bsl (fun _ _ h => h.pick [2]) rfl rfl rfl (bsl28_3 (.int .i64 _) (.int .i64 _) (.int .i64 _) rfl rfl rfl) (fun bkl54 hbkl54 => ?_)
      refine rAlt ?_ ?_
      ·
       refine ldl Try.isAgg28 (Kn.drop (k := 1) (Kn.fld e4 0 rfl)) (fun _ h => h.pick [2]) rfl rfl rfl ?_
       refine rAlt ?_ ?_
       ·
        refine ldl Try.isAgg28 (Kn.drop (k := 1) (Kn.fld e5 0 rfl)) (fun _ h => h.pick [2]) rfl rfl rfl ?_
        refine ixIl (zn := 0) el28 (Kn.drop (k := 1) ((Kn.imp ((Kn.at_ (φ := OwnR maK 28 2 ay2 ny2 cy2 Hy2 y2) 2 rfl).imp fun _ h => OwnR.rd h maK.ok) fun _ h => h.kidM (nth [] (by omega))))) rfl rfl rfl rfl (by omega) (by omega) rfl ?_
        intro ae45 e45
        refine rAlt ?_ ?_
        ·
         refine ldl Try.isAgg2 (e45) (fun _ h => h.pick [2]) rfl rfl rfl ?_
         refine rPieces (L' := [srcP bk ca bs cc, blk bkl54 2 [.int .i64 (-1), .int .i64 1, .int .i64 60], blk bka9 56 [.int .i64 p, .slice ay2 ny2 cy2], OwnR maK 28 2 ay2 ny2 cy2 Hy2 y2, blk bka6 43 [.slice ay1 ny1 cy1, .slice ayw1 nyw1 cyw1, .slice ayv1 nyv1 cyv1], RdR ndK ay1 ny1 Hy1 y1, RdR maK ayw1 nyw1 Hyw1 yw1, RdR maK ayv1 nyv1 Hyv1 yv1, blk bka2 56 [.int .i64 0, .slice none 0 0], blk bka1 43 [.slice none 0 0, .slice none 0 0, .slice none 0 0]]) (fun _ h => h.perm (pull (i := 1) rfl)) ?_
         refine callMK (α := Int) (Lf := [srcP bk ca bs cc, blk bkl54 2 [.int .i64 (-1), .int .i64 1, .int .i64 60]]) (Lr := [blk bka9 56 [.int .i64 p, .slice ay2 ny2 cy2], OwnR maK 28 2 ay2 ny2 cy2 Hy2 y2, blk bka6 43 [.slice ay1 ny1 cy1, .slice ayw1 nyw1 cyw1, .slice ayv1 nyv1 cyv1], RdR ndK ay1 ny1 Hy1 y1, RdR maK ayw1 nyw1 Hyw1 yw1, RdR maK ayv1 nyv1 Hyv1 yv1, blk bka2 56 [.int .i64 0, .slice none 0 0], blk bka1 43 [.slice none 0 0, .slice none 0 0, .slice none 0 0]]) (good := fun x => x ∈ ([.int .i64 (-1), .int .i64 1, .int .i64 60] : List Value).map toI) (φs := fun x => [srcP bk ca bs cc, blk bkl54 2 [.int .i64 (-1), .int .i64 1, .int .i64 60]]) (val := fun x => .int .i64 x) rfl Try.call155 (by exact (fun _ _ h => h.pick [2])) rfl rfl (fun w M1 hs hk => src_pick bk ca bs cc bkl54 2 3 3 [.int .i64 (-1), .int .i64 1, .int .i64 60] w M1 hs (hk _ kcode) hok rfl rfl (by decide)) ?_
         intro x46 hx46
         try dsimp only at hx46
         refine rPieces (L' := [srcP bk ca bs cc, blk bkl54 2 [.int .i64 (-1), .int .i64 1, .int .i64 60], blk bka9 56 [.int .i64 p, .slice ay2 ny2 cy2], OwnR maK 28 2 ay2 ny2 cy2 Hy2 y2, blk bka6 43 [.slice ay1 ny1 cy1, .slice ayw1 nyw1 cyw1, .slice ayv1 nyv1 cyv1], RdR ndK ay1 ny1 Hy1 y1, RdR maK ayw1 nyw1 Hyw1 yw1, RdR maK ayv1 nyv1 Hyv1 yv1, blk bka2 56 [.int .i64 0, .slice none 0 0], blk bka1 43 [.slice none 0 0, .slice none 0 0, .slice none 0 0]]) (fun _ h => h) ?_
         replace hx46 : (-1 : Int) ≤ x46 ∧ x46 ≤ (60 : Int) := by have hm_ := hx46; simp [toI] at hm_; omega
         refine rPieces (L' := [blk bkl54 2 [.int .i64 (-1), .int .i64 1, .int .i64 60], srcP bk ca bs cc, blk bka9 56 [.int .i64 p, .slice ay2 ny2 cy2], OwnR maK 28 2 ay2 ny2 cy2 Hy2 y2, blk bka6 43 [.slice ay1 ny1 cy1, .slice ayw1 nyw1 cyw1, .slice ayv1 nyv1 cyv1], RdR ndK ay1 ny1 Hy1 y1, RdR maK ayw1 nyw1 Hyw1 yw1, RdR maK ayv1 nyv1 Hyv1 yv1, blk bka2 56 [.int .i64 0, .slice none 0 0], blk bka1 43 [.slice none 0 0, .slice none 0 0, .slice none 0 0]]) (fun _ h => h.perm (pull (i := 1) rfl)) ?_
         refine add rfl rfl rfl rfl (by omega) ?_
         refine rPieces (L' := [OwnR maK 28 2 ay2 ny2 cy2 Hy2 y2, blk bkl54 2 [.int .i64 (-1), .int .i64 1, .int .i64 60], srcP bk ca bs cc, blk bka9 56 [.int .i64 p, .slice ay2 ny2 cy2], blk bka6 43 [.slice ay1 ny1 cy1, .slice ayw1 nyw1 cyw1, .slice ayv1 nyv1 cyv1], RdR ndK ay1 ny1 Hy1 y1, RdR maK ayw1 nyw1 Hyw1 yw1, RdR maK ayv1 nyv1 Hyv1 yv1, blk bka2 56 [.int .i64 0, .slice none 0 0], blk bka1 43 [.slice none 0 0, .slice none 0 0, .slice none 0 0]]) (fun _ h => h.pick [3, 0, 0, 0, 0, 0, 0, 0, 0, 0]) ?_
         refine rPieces (L' := [OwnI 2 ((Hy2 0).1) ((y2.getD 0 []).length) ((Hy2 0).2) (y2.getD 0 []), OwnH maK 28 2 ay2 ny2 cy2 Hy2 y2 0, blk bkl54 2 [.int .i64 (-1), .int .i64 1, .int .i64 60], srcP bk ca bs cc, blk bka9 56 [.int .i64 p, .slice ay2 ny2 cy2], blk bka6 43 [.slice ay1 ny1 cy1, .slice ayw1 nyw1 cyw1, .slice ayv1 nyv1 cyv1], RdR ndK ay1 ny1 Hy1 y1, RdR maK ayw1 nyw1 Hyw1 yw1, RdR maK ayv1 nyv1 Hyv1 yv1, blk bka2 56 [.int .i64 0, .slice none 0 0], blk bka1 43 [.slice none 0 0, .slice none 0 0, .slice none 0 0]]) (fun _ h => Sep.lend h 0 (y2.getD 0 []) (nth [] (by omega))) ?_
         refine oxI (zn := 0) 0 rfl el28 rfl rfl rfl rfl (by omega) (by omega) rfl ?_
         intro gk47 hgk47
         refine stoI (off := 0) (x := (((y2.getD 0 []).getD 0 0) + x46)) 0 rfl hgk47 Try.sizeOf2 (fun _ h => h.pick [4]) rfl rfl rfl rfl (by omega) ?_
         refine rPieces (L' := [OwnR maK 28 2 ay2 ny2 cy2 Hy2 ((y2.set 0 (((y2.getD 0 []).set 0 ((((y2.getD 0 []).getD 0 0) + x46)))))), blk bkl54 2 [.int .i64 (-1), .int .i64 1, .int .i64 60], srcP bk ca bs cc, blk bka9 56 [.int .i64 p, .slice ay2 ny2 cy2], blk bka6 43 [.slice ay1 ny1 cy1, .slice ayw1 nyw1 cyw1, .slice ayv1 nyv1 cyv1], RdR ndK ay1 ny1 Hy1 y1, RdR maK ayw1 nyw1 Hyw1 yw1, RdR maK ayv1 nyv1 Hyv1 yv1, blk bka2 56 [.int .i64 0, .slice none 0 0], blk bka1 43 [.slice none 0 0, .slice none 0 0, .slice none 0 0]]) (fun _ h => Sep.back (x := (y2.getD 0 [])) ((y2.getD 0 []).set 0 ((((y2.getD 0 []).getD 0 0) + x46))) maK.ok h (nth [] (by omega)) (fun h1 h2 => by dsimp only [ndK, ndC, maK] at h1 h2 ⊢; rw [h1, h2]) rfl rfl) ?_
         refine rNil ?_
         refine qSeq rfl ?_
         refine hSeq ?_
         refine hDraw (Ls := [blk bka9 56 [.int .i64 p, .slice ay2 ny2 cy2], blk bka6 43 [.slice ay1 ny1 cy1, .slice ayw1 nyw1 cyw1, .slice ayv1 nyv1 cyv1]]) (by kernel_rfl) (sq 0 (sq 1 (sl 2 (sf 3 sz)))) (by kernel_rfl) (.cons _ (.cons _ (.cons _ (.cons_cons _ (.cons_cons _ (.cons _ (.cons _ (.cons _ (.cons _ (.cons _ .slnil)))))))))) ?_
         refine ldAq Try.isAgg43 Try.sizeOf43 (cBs 1 rfl) rfl rfl rfl rfl ?_
         refine ldAq Try.isAgg56 Try.sizeOf56 (cBs 0 rfl) rfl rfl rfl rfl ?_
         refine stAl (vs := [.slice ay1 ny1 cy1, .slice ayw1 nyw1 cyw1, .slice ayv1 nyv1 cyv1]) 9 rfl Try.sizeOf43 (fun _ h => h.pick [3, 3]) rfl rfl rfl rfl rfl (by simp [Value.oneCell']) rfl ?_
         refine stAf (vs := [.int .i64 p, .slice ay2 ny2 cy2]) 8 rfl Try.sizeOf56 rfl rfl rfl rfl rfl (by simp [Value.oneCell']) rfl ?_
         refine rNil ?_
         refine qSeq rfl ?_
         refine hRet ?_
         exact fun w hs => ⟨[_, _], ⟨⟨_, rfl, run_load_agg Try.isAgg43 Try.sizeOf43 rfl (cBs 9 rfl w hs)⟩, ⟨⟨_, rfl, run_load_agg Try.isAgg56 Try.sizeOf56 rfl (cBs 8 rfl w hs)⟩, trivial⟩⟩, ⟨(ay1, ny1, cy1, Hy1, y1, ayw1, nyw1, cyw1, Hyw1, yw1, ayv1, nyv1, cyv1, Hyv1, yv1, p, ay2, ny2, cy2, Hy2, (y2.set 0 (((y2.getD 0 []).set 0 ((((y2.getD 0 []).getD 0 0) + x46)))))), rfl, ⟨⟨by dsimp only; omega, ⟨by dsimp only; omega, by dsimp only; omega⟩, by dsimp only; omega⟩, by dsimp only; omega, by dsimp only; omega⟩, hs.pick [2, 4, 4, 4, 0]⟩⟩
        ·
         refine rPieces (L' := [srcP bk ca bs cc, blk bkl54 2 [.int .i64 (-1), .int .i64 1, .int .i64 60], blk bka9 56 [.int .i64 p, .slice ay2 ny2 cy2], OwnR maK 28 2 ay2 ny2 cy2 Hy2 y2, blk bka6 43 [.slice ay1 ny1 cy1, .slice ayw1 nyw1 cyw1, .slice ayv1 nyv1 cyv1], RdR ndK ay1 ny1 Hy1 y1, RdR maK ayw1 nyw1 Hyw1 yw1, RdR maK ayv1 nyv1 Hyv1 yv1, blk bka2 56 [.int .i64 0, .slice none 0 0], blk bka1 43 [.slice none 0 0, .slice none 0 0, .slice none 0 0]]) (fun _ h => h.perm (pull (i := 1) rfl)) ?_
         refine callMK (α := Int) (Lf := [srcP bk ca bs cc, blk bkl54 2 [.int .i64 (-1), .int .i64 1, .int .i64 60]]) (Lr := [blk bka9 56 [.int .i64 p, .slice ay2 ny2 cy2], OwnR maK 28 2 ay2 ny2 cy2 Hy2 y2, blk bka6 43 [.slice ay1 ny1 cy1, .slice ayw1 nyw1 cyw1, .slice ayv1 nyv1 cyv1], RdR ndK ay1 ny1 Hy1 y1, RdR maK ayw1 nyw1 Hyw1 yw1, RdR maK ayv1 nyv1 Hyv1 yv1, blk bka2 56 [.int .i64 0, .slice none 0 0], blk bka1 43 [.slice none 0 0, .slice none 0 0, .slice none 0 0]]) (good := fun x => x ∈ ([.int .i64 (-1), .int .i64 1, .int .i64 60] : List Value).map toI) (φs := fun x => [srcP bk ca bs cc, blk bkl54 2 [.int .i64 (-1), .int .i64 1, .int .i64 60]]) (val := fun x => .int .i64 x) rfl Try.call155 (by exact (fun _ _ h => h.pick [2])) rfl rfl (fun w M1 hs hk => src_pick bk ca bs cc bkl54 2 3 3 [.int .i64 (-1), .int .i64 1, .int .i64 60] w M1 hs (hk _ kcode) hok rfl rfl (by decide)) ?_
         intro x48 hx48
         try dsimp only at hx48
         refine rPieces (L' := [srcP bk ca bs cc, blk bkl54 2 [.int .i64 (-1), .int .i64 1, .int .i64 60], blk bka9 56 [.int .i64 p, .slice ay2 ny2 cy2], OwnR maK 28 2 ay2 ny2 cy2 Hy2 y2, blk bka6 43 [.slice ay1 ny1 cy1, .slice ayw1 nyw1 cyw1, .slice ayv1 nyv1 cyv1], RdR ndK ay1 ny1 Hy1 y1, RdR maK ayw1 nyw1 Hyw1 yw1, RdR maK ayv1 nyv1 Hyv1 yv1, blk bka2 56 [.int .i64 0, .slice none 0 0], blk bka1 43 [.slice none 0 0, .slice none 0 0, .slice none 0 0]]) (fun _ h => h) ?_
         replace hx48 : (-1 : Int) ≤ x48 ∧ x48 ≤ (60 : Int) := by have hm_ := hx48; simp [toI] at hm_; omega
         refine rPieces (L' := [blk bkl54 2 [.int .i64 (-1), .int .i64 1, .int .i64 60], srcP bk ca bs cc, blk bka9 56 [.int .i64 p, .slice ay2 ny2 cy2], OwnR maK 28 2 ay2 ny2 cy2 Hy2 y2, blk bka6 43 [.slice ay1 ny1 cy1, .slice ayw1 nyw1 cyw1, .slice ayv1 nyv1 cyv1], RdR ndK ay1 ny1 Hy1 y1, RdR maK ayw1 nyw1 Hyw1 yw1, RdR maK ayv1 nyv1 Hyv1 yv1, blk bka2 56 [.int .i64 0, .slice none 0 0], blk bka1 43 [.slice none 0 0, .slice none 0 0, .slice none 0 0]]) (fun _ h => h.perm (pull (i := 1) rfl)) ?_
         refine ldl Try.isAgg2 (e45) (fun _ h => h.pick [2]) rfl rfl rfl ?_
         refine add rfl rfl rfl rfl (by omega) ?_
         refine rPieces (L' := [OwnR maK 28 2 ay2 ny2 cy2 Hy2 y2, blk bkl54 2 [.int .i64 (-1), .int .i64 1, .int .i64 60], srcP bk ca bs cc, blk bka9 56 [.int .i64 p, .slice ay2 ny2 cy2], blk bka6 43 [.slice ay1 ny1 cy1, .slice ayw1 nyw1 cyw1, .slice ayv1 nyv1 cyv1], RdR ndK ay1 ny1 Hy1 y1, RdR maK ayw1 nyw1 Hyw1 yw1, RdR maK ayv1 nyv1 Hyv1 yv1, blk bka2 56 [.int .i64 0, .slice none 0 0], blk bka1 43 [.slice none 0 0, .slice none 0 0, .slice none 0 0]]) (fun _ h => h.pick [3, 0, 0, 0, 0, 0, 0, 0, 0, 0]) ?_
         refine rPieces (L' := [OwnI 2 ((Hy2 0).1) ((y2.getD 0 []).length) ((Hy2 0).2) (y2.getD 0 []), OwnH maK 28 2 ay2 ny2 cy2 Hy2 y2 0, blk bkl54 2 [.int .i64 (-1), .int .i64 1, .int .i64 60], srcP bk ca bs cc, blk bka9 56 [.int .i64 p, .slice ay2 ny2 cy2], blk bka6 43 [.slice ay1 ny1 cy1, .slice ayw1 nyw1 cyw1, .slice ayv1 nyv1 cyv1], RdR ndK ay1 ny1 Hy1 y1, RdR maK ayw1 nyw1 Hyw1 yw1, RdR maK ayv1 nyv1 Hyv1 yv1, blk bka2 56 [.int .i64 0, .slice none 0 0], blk bka1 43 [.slice none 0 0, .slice none 0 0, .slice none 0 0]]) (fun _ h => Sep.lend h 0 (y2.getD 0 []) (nth [] (by omega))) ?_
         refine oxI (zn := 0) 0 rfl el28 rfl rfl rfl rfl (by omega) (by omega) rfl ?_
         intro gk49 hgk49
         refine stoI (off := 0) (x := (((y2.getD 0 []).getD 0 0) + x48)) 0 rfl hgk49 Try.sizeOf2 (fun _ h => h.pick [4]) rfl rfl rfl rfl (by omega) ?_
         refine rPieces (L' := [OwnR maK 28 2 ay2 ny2 cy2 Hy2 ((y2.set 0 (((y2.getD 0 []).set 0 ((((y2.getD 0 []).getD 0 0) + x48)))))), blk bkl54 2 [.int .i64 (-1), .int .i64 1, .int .i64 60], srcP bk ca bs cc, blk bka9 56 [.int .i64 p, .slice ay2 ny2 cy2], blk bka6 43 [.slice ay1 ny1 cy1, .slice ayw1 nyw1 cyw1, .slice ayv1 nyv1 cyv1], RdR ndK ay1 ny1 Hy1 y1, RdR maK ayw1 nyw1 Hyw1 yw1, RdR maK ayv1 nyv1 Hyv1 yv1, blk bka2 56 [.int .i64 0, .slice none 0 0], blk bka1 43 [.slice none 0 0, .slice none 0 0, .slice none 0 0]]) (fun _ h => Sep.back (x := (y2.getD 0 [])) ((y2.getD 0 []).set 0 ((((y2.getD 0 []).getD 0 0) + x48))) maK.ok h (nth [] (by omega)) (fun h1 h2 => by dsimp only [ndK, ndC, maK] at h1 h2 ⊢; rw [h1, h2]) rfl rfl) ?_
         refine rNil ?_
         refine qSeq rfl ?_
         refine hSeq ?_
         refine hDraw (Ls := [blk bka9 56 [.int .i64 p, .slice ay2 ny2 cy2], blk bka6 43 [.slice ay1 ny1 cy1, .slice ayw1 nyw1 cyw1, .slice ayv1 nyv1 cyv1]]) (by kernel_rfl) (sq 0 (sq 1 (sl 2 (sf 3 sz)))) (by kernel_rfl) (.cons _ (.cons _ (.cons _ (.cons_cons _ (.cons_cons _ (.cons _ (.cons _ (.cons _ (.cons _ (.cons _ .slnil)))))))))) ?_
         refine ldAq Try.isAgg43 Try.sizeOf43 (cBs 1 rfl) rfl rfl rfl rfl ?_
         refine ldAq Try.isAgg56 Try.sizeOf56 (cBs 0 rfl) rfl rfl rfl rfl ?_
         refine stAl (vs := [.slice ay1 ny1 cy1, .slice ayw1 nyw1 cyw1, .slice ayv1 nyv1 cyv1]) 9 rfl Try.sizeOf43 (fun _ h => h.pick [3, 3]) rfl rfl rfl rfl rfl (by simp [Value.oneCell']) rfl ?_
         refine stAf (vs := [.int .i64 p, .slice ay2 ny2 cy2]) 8 rfl Try.sizeOf56 rfl rfl rfl rfl rfl (by simp [Value.oneCell']) rfl ?_
         refine rNil ?_
         refine qSeq rfl ?_
         refine hRet ?_
         exact fun w hs => ⟨[_, _], ⟨⟨_, rfl, run_load_agg Try.isAgg43 Try.sizeOf43 rfl (cBs 9 rfl w hs)⟩, ⟨⟨_, rfl, run_load_agg Try.isAgg56 Try.sizeOf56 rfl (cBs 8 rfl w hs)⟩, trivial⟩⟩, ⟨(ay1, ny1, cy1, Hy1, y1, ayw1, nyw1, cyw1, Hyw1, yw1, ayv1, nyv1, cyv1, Hyv1, yv1, p, ay2, ny2, cy2, Hy2, (y2.set 0 (((y2.getD 0 []).set 0 ((((y2.getD 0 []).getD 0 0) + x48)))))), rfl, ⟨⟨by dsimp only; omega, ⟨by dsimp only; omega, by dsimp only; omega⟩, by dsimp only; omega⟩, by dsimp only; omega, by dsimp only; omega⟩, hs.pick [2, 4, 4, 4, 0]⟩⟩
       ·
        refine rPieces (L' := [srcP bk ca bs cc, blk bkl54 2 [.int .i64 (-1), .int .i64 1, .int .i64 60], blk bka9 56 [.int .i64 p, .slice ay2 ny2 cy2], OwnR maK 28 2 ay2 ny2 cy2 Hy2 y2, blk bka6 43 [.slice ay1 ny1 cy1, .slice ayw1 nyw1 cyw1, .slice ayv1 nyv1 cyv1], RdR ndK ay1 ny1 Hy1 y1, RdR maK ayw1 nyw1 Hyw1 yw1, RdR maK ayv1 nyv1 Hyv1 yv1, blk bka2 56 [.int .i64 0, .slice none 0 0], blk bka1 43 [.slice none 0 0, .slice none 0 0, .slice none 0 0]]) (fun _ h => h.perm (pull (i := 1) rfl)) ?_
        refine callMK (α := Int) (Lf := [srcP bk ca bs cc, blk bkl54 2 [.int .i64 (-1), .int .i64 1, .int .i64 60]]) (Lr := [blk bka9 56 [.int .i64 p, .slice ay2 ny2 cy2], OwnR maK 28 2 ay2 ny2 cy2 Hy2 y2, blk bka6 43 [.slice ay1 ny1 cy1, .slice ayw1 nyw1 cyw1, .slice ayv1 nyv1 cyv1], RdR ndK ay1 ny1 Hy1 y1, RdR maK ayw1 nyw1 Hyw1 yw1, RdR maK ayv1 nyv1 Hyv1 yv1, blk bka2 56 [.int .i64 0, .slice none 0 0], blk bka1 43 [.slice none 0 0, .slice none 0 0, .slice none 0 0]]) (good := fun x => x ∈ ([.int .i64 (-1), .int .i64 1, .int .i64 60] : List Value).map toI) (φs := fun x => [srcP bk ca bs cc, blk bkl54 2 [.int .i64 (-1), .int .i64 1, .int .i64 60]]) (val := fun x => .int .i64 x) rfl Try.call155 (by exact (fun _ _ h => h.pick [2])) rfl rfl (fun w M1 hs hk => src_pick bk ca bs cc bkl54 2 3 3 [.int .i64 (-1), .int .i64 1, .int .i64 60] w M1 hs (hk _ kcode) hok rfl rfl (by decide)) ?_
        intro x50 hx50
        try dsimp only at hx50
        refine rPieces (L' := [srcP bk ca bs cc, blk bkl54 2 [.int .i64 (-1), .int .i64 1, .int .i64 60], blk bka9 56 [.int .i64 p, .slice ay2 ny2 cy2], OwnR maK 28 2 ay2 ny2 cy2 Hy2 y2, blk bka6 43 [.slice ay1 ny1 cy1, .slice ayw1 nyw1 cyw1, .slice ayv1 nyv1 cyv1], RdR ndK ay1 ny1 Hy1 y1, RdR maK ayw1 nyw1 Hyw1 yw1, RdR maK ayv1 nyv1 Hyv1 yv1, blk bka2 56 [.int .i64 0, .slice none 0 0], blk bka1 43 [.slice none 0 0, .slice none 0 0, .slice none 0 0]]) (fun _ h => h) ?_
        replace hx50 : (-1 : Int) ≤ x50 ∧ x50 ≤ (60 : Int) := by have hm_ := hx50; simp [toI] at hm_; omega
        refine rPieces (L' := [blk bkl54 2 [.int .i64 (-1), .int .i64 1, .int .i64 60], srcP bk ca bs cc, blk bka9 56 [.int .i64 p, .slice ay2 ny2 cy2], OwnR maK 28 2 ay2 ny2 cy2 Hy2 y2, blk bka6 43 [.slice ay1 ny1 cy1, .slice ayw1 nyw1 cyw1, .slice ayv1 nyv1 cyv1], RdR ndK ay1 ny1 Hy1 y1, RdR maK ayw1 nyw1 Hyw1 yw1, RdR maK ayv1 nyv1 Hyv1 yv1, blk bka2 56 [.int .i64 0, .slice none 0 0], blk bka1 43 [.slice none 0 0, .slice none 0 0, .slice none 0 0]]) (fun _ h => h.perm (pull (i := 1) rfl)) ?_
        refine ldl Try.isAgg28 (Kn.drop (k := 1) (Kn.fld e5 0 rfl)) (fun _ h => h.pick [2]) rfl rfl rfl ?_
        refine ixIl (zn := 0) el28 (Kn.drop (k := 1) ((Kn.imp ((Kn.at_ (φ := OwnR maK 28 2 ay2 ny2 cy2 Hy2 y2) 2 rfl).imp fun _ h => OwnR.rd h maK.ok) fun _ h => h.kidM (nth [] (by omega))))) rfl rfl rfl rfl (by omega) (by omega) rfl ?_
        intro ae51 e51
        refine ldl Try.isAgg2 (e51) (fun _ h => h.pick [2]) rfl rfl rfl ?_
        refine add rfl rfl rfl rfl (by omega) ?_
        refine rPieces (L' := [OwnR maK 28 2 ay2 ny2 cy2 Hy2 y2, blk bkl54 2 [.int .i64 (-1), .int .i64 1, .int .i64 60], srcP bk ca bs cc, blk bka9 56 [.int .i64 p, .slice ay2 ny2 cy2], blk bka6 43 [.slice ay1 ny1 cy1, .slice ayw1 nyw1 cyw1, .slice ayv1 nyv1 cyv1], RdR ndK ay1 ny1 Hy1 y1, RdR maK ayw1 nyw1 Hyw1 yw1, RdR maK ayv1 nyv1 Hyv1 yv1, blk bka2 56 [.int .i64 0, .slice none 0 0], blk bka1 43 [.slice none 0 0, .slice none 0 0, .slice none 0 0]]) (fun _ h => h.pick [3, 0, 0, 0, 0, 0, 0, 0, 0, 0]) ?_
        refine rPieces (L' := [OwnI 2 ((Hy2 0).1) ((y2.getD 0 []).length) ((Hy2 0).2) (y2.getD 0 []), OwnH maK 28 2 ay2 ny2 cy2 Hy2 y2 0, blk bkl54 2 [.int .i64 (-1), .int .i64 1, .int .i64 60], srcP bk ca bs cc, blk bka9 56 [.int .i64 p, .slice ay2 ny2 cy2], blk bka6 43 [.slice ay1 ny1 cy1, .slice ayw1 nyw1 cyw1, .slice ayv1 nyv1 cyv1], RdR ndK ay1 ny1 Hy1 y1, RdR maK ayw1 nyw1 Hyw1 yw1, RdR maK ayv1 nyv1 Hyv1 yv1, blk bka2 56 [.int .i64 0, .slice none 0 0], blk bka1 43 [.slice none 0 0, .slice none 0 0, .slice none 0 0]]) (fun _ h => Sep.lend h 0 (y2.getD 0 []) (nth [] (by omega))) ?_
        refine oxI (zn := 0) 0 rfl el28 rfl rfl rfl rfl (by omega) (by omega) rfl ?_
        intro gk52 hgk52
        refine stoI (off := 0) (x := (((y2.getD 0 []).getD 0 0) + x50)) 0 rfl hgk52 Try.sizeOf2 (fun _ h => h.pick [4]) rfl rfl rfl rfl (by omega) ?_
        refine rPieces (L' := [OwnR maK 28 2 ay2 ny2 cy2 Hy2 ((y2.set 0 (((y2.getD 0 []).set 0 ((((y2.getD 0 []).getD 0 0) + x50)))))), blk bkl54 2 [.int .i64 (-1), .int .i64 1, .int .i64 60], srcP bk ca bs cc, blk bka9 56 [.int .i64 p, .slice ay2 ny2 cy2], blk bka6 43 [.slice ay1 ny1 cy1, .slice ayw1 nyw1 cyw1, .slice ayv1 nyv1 cyv1], RdR ndK ay1 ny1 Hy1 y1, RdR maK ayw1 nyw1 Hyw1 yw1, RdR maK ayv1 nyv1 Hyv1 yv1, blk bka2 56 [.int .i64 0, .slice none 0 0], blk bka1 43 [.slice none 0 0, .slice none 0 0, .slice none 0 0]]) (fun _ h => Sep.back (x := (y2.getD 0 [])) ((y2.getD 0 []).set 0 ((((y2.getD 0 []).getD 0 0) + x50))) maK.ok h (nth [] (by omega)) (fun h1 h2 => by dsimp only [ndK, ndC, maK] at h1 h2 ⊢; rw [h1, h2]) rfl rfl) ?_
        refine rNil ?_
        refine qSeq rfl ?_
        refine hSeq ?_
        refine hDraw (Ls := [blk bka9 56 [.int .i64 p, .slice ay2 ny2 cy2], blk bka6 43 [.slice ay1 ny1 cy1, .slice ayw1 nyw1 cyw1, .slice ayv1 nyv1 cyv1]]) (by kernel_rfl) (sq 0 (sq 1 (sl 2 (sf 3 sz)))) (by kernel_rfl) (.cons _ (.cons _ (.cons _ (.cons_cons _ (.cons_cons _ (.cons _ (.cons _ (.cons _ (.cons _ (.cons _ .slnil)))))))))) ?_
        refine ldAq Try.isAgg43 Try.sizeOf43 (cBs 1 rfl) rfl rfl rfl rfl ?_
        refine ldAq Try.isAgg56 Try.sizeOf56 (cBs 0 rfl) rfl rfl rfl rfl ?_
        refine stAl (vs := [.slice ay1 ny1 cy1, .slice ayw1 nyw1 cyw1, .slice ayv1 nyv1 cyv1]) 9 rfl Try.sizeOf43 (fun _ h => h.pick [3, 3]) rfl rfl rfl rfl rfl (by simp [Value.oneCell']) rfl ?_
        refine stAf (vs := [.int .i64 p, .slice ay2 ny2 cy2]) 8 rfl Try.sizeOf56 rfl rfl rfl rfl rfl (by simp [Value.oneCell']) rfl ?_
        refine rNil ?_
        refine qSeq rfl ?_
        refine hRet ?_
        exact fun w hs => ⟨[_, _], ⟨⟨_, rfl, run_load_agg Try.isAgg43 Try.sizeOf43 rfl (cBs 9 rfl w hs)⟩, ⟨⟨_, rfl, run_load_agg Try.isAgg56 Try.sizeOf56 rfl (cBs 8 rfl w hs)⟩, trivial⟩⟩, ⟨(ay1, ny1, cy1, Hy1, y1, ayw1, nyw1, cyw1, Hyw1, yw1, ayv1, nyv1, cyv1, Hyv1, yv1, p, ay2, ny2, cy2, Hy2, (y2.set 0 (((y2.getD 0 []).set 0 ((((y2.getD 0 []).getD 0 0) + x50)))))), rfl, ⟨⟨by dsimp only; omega, ⟨by dsimp only; omega, by dsimp only; omega⟩, by dsimp only; omega⟩, by dsimp only; omega, by dsimp only; omega⟩, hs.pick [2, 4, 4, 4, 0]⟩⟩
      ·
       refine rAlt ?_ ?_
       ·
        refine ldl Try.isAgg28 (Kn.drop (k := 1) (Kn.fld e5 0 rfl)) (fun _ h => h.pick [2]) rfl rfl rfl ?_
        refine ixIl (zn := 0) el28 (Kn.drop (k := 1) ((Kn.imp ((Kn.at_ (φ := OwnR maK 28 2 ay2 ny2 cy2 Hy2 y2) 2 rfl).imp fun _ h => OwnR.rd h maK.ok) fun _ h => h.kidM (nth [] (by omega))))) rfl rfl rfl rfl (by omega) (by omega) rfl ?_
        intro ae53 e53
        refine rAlt ?_ ?_
        ·
         refine ldl Try.isAgg28 (Kn.drop (k := 1) (Kn.fld e4 0 rfl)) (fun _ h => h.pick [2]) rfl rfl rfl ?_
         refine rAlt ?_ ?_
         ·
          refine ldl Try.isAgg2 (e53) (fun _ h => h.pick [2]) rfl rfl rfl ?_
          refine rPieces (L' := [srcP bk ca bs cc, blk bkl54 2 [.int .i64 (-1), .int .i64 1, .int .i64 60], blk bka9 56 [.int .i64 p, .slice ay2 ny2 cy2], OwnR maK 28 2 ay2 ny2 cy2 Hy2 y2, blk bka6 43 [.slice ay1 ny1 cy1, .slice ayw1 nyw1 cyw1, .slice ayv1 nyv1 cyv1], RdR ndK ay1 ny1 Hy1 y1, RdR maK ayw1 nyw1 Hyw1 yw1, RdR maK ayv1 nyv1 Hyv1 yv1, blk bka2 56 [.int .i64 0, .slice none 0 0], blk bka1 43 [.slice none 0 0, .slice none 0 0, .slice none 0 0]]) (fun _ h => h.perm (pull (i := 1) rfl)) ?_
          refine callMK (α := Int) (Lf := [srcP bk ca bs cc, blk bkl54 2 [.int .i64 (-1), .int .i64 1, .int .i64 60]]) (Lr := [blk bka9 56 [.int .i64 p, .slice ay2 ny2 cy2], OwnR maK 28 2 ay2 ny2 cy2 Hy2 y2, blk bka6 43 [.slice ay1 ny1 cy1, .slice ayw1 nyw1 cyw1, .slice ayv1 nyv1 cyv1], RdR ndK ay1 ny1 Hy1 y1, RdR maK ayw1 nyw1 Hyw1 yw1, RdR maK ayv1 nyv1 Hyv1 yv1, blk bka2 56 [.int .i64 0, .slice none 0 0], blk bka1 43 [.slice none 0 0, .slice none 0 0, .slice none 0 0]]) (good := fun x => x ∈ ([.int .i64 (-1), .int .i64 1, .int .i64 60] : List Value).map toI) (φs := fun x => [srcP bk ca bs cc, blk bkl54 2 [.int .i64 (-1), .int .i64 1, .int .i64 60]]) (val := fun x => .int .i64 x) rfl Try.call155 (by exact (fun _ _ h => h.pick [2])) rfl rfl (fun w M1 hs hk => src_pick bk ca bs cc bkl54 2 3 3 [.int .i64 (-1), .int .i64 1, .int .i64 60] w M1 hs (hk _ kcode) hok rfl rfl (by decide)) ?_
          intro x54 hx54
          try dsimp only at hx54
          refine rPieces (L' := [srcP bk ca bs cc, blk bkl54 2 [.int .i64 (-1), .int .i64 1, .int .i64 60], blk bka9 56 [.int .i64 p, .slice ay2 ny2 cy2], OwnR maK 28 2 ay2 ny2 cy2 Hy2 y2, blk bka6 43 [.slice ay1 ny1 cy1, .slice ayw1 nyw1 cyw1, .slice ayv1 nyv1 cyv1], RdR ndK ay1 ny1 Hy1 y1, RdR maK ayw1 nyw1 Hyw1 yw1, RdR maK ayv1 nyv1 Hyv1 yv1, blk bka2 56 [.int .i64 0, .slice none 0 0], blk bka1 43 [.slice none 0 0, .slice none 0 0, .slice none 0 0]]) (fun _ h => h) ?_
          replace hx54 : (-1 : Int) ≤ x54 ∧ x54 ≤ (60 : Int) := by have hm_ := hx54; simp [toI] at hm_; omega
          refine rPieces (L' := [blk bkl54 2 [.int .i64 (-1), .int .i64 1, .int .i64 60], srcP bk ca bs cc, blk bka9 56 [.int .i64 p, .slice ay2 ny2 cy2], OwnR maK 28 2 ay2 ny2 cy2 Hy2 y2, blk bka6 43 [.slice ay1 ny1 cy1, .slice ayw1 nyw1 cyw1, .slice ayv1 nyv1 cyv1], RdR ndK ay1 ny1 Hy1 y1, RdR maK ayw1 nyw1 Hyw1 yw1, RdR maK ayv1 nyv1 Hyv1 yv1, blk bka2 56 [.int .i64 0, .slice none 0 0], blk bka1 43 [.slice none 0 0, .slice none 0 0, .slice none 0 0]]) (fun _ h => h.perm (pull (i := 1) rfl)) ?_
          refine add rfl rfl rfl rfl (by omega) ?_
          refine rPieces (L' := [OwnR maK 28 2 ay2 ny2 cy2 Hy2 y2, blk bkl54 2 [.int .i64 (-1), .int .i64 1, .int .i64 60], srcP bk ca bs cc, blk bka9 56 [.int .i64 p, .slice ay2 ny2 cy2], blk bka6 43 [.slice ay1 ny1 cy1, .slice ayw1 nyw1 cyw1, .slice ayv1 nyv1 cyv1], RdR ndK ay1 ny1 Hy1 y1, RdR maK ayw1 nyw1 Hyw1 yw1, RdR maK ayv1 nyv1 Hyv1 yv1, blk bka2 56 [.int .i64 0, .slice none 0 0], blk bka1 43 [.slice none 0 0, .slice none 0 0, .slice none 0 0]]) (fun _ h => h.pick [3, 0, 0, 0, 0, 0, 0, 0, 0, 0]) ?_
          refine rPieces (L' := [OwnI 2 ((Hy2 0).1) ((y2.getD 0 []).length) ((Hy2 0).2) (y2.getD 0 []), OwnH maK 28 2 ay2 ny2 cy2 Hy2 y2 0, blk bkl54 2 [.int .i64 (-1), .int .i64 1, .int .i64 60], srcP bk ca bs cc, blk bka9 56 [.int .i64 p, .slice ay2 ny2 cy2], blk bka6 43 [.slice ay1 ny1 cy1, .slice ayw1 nyw1 cyw1, .slice ayv1 nyv1 cyv1], RdR ndK ay1 ny1 Hy1 y1, RdR maK ayw1 nyw1 Hyw1 yw1, RdR maK ayv1 nyv1 Hyv1 yv1, blk bka2 56 [.int .i64 0, .slice none 0 0], blk bka1 43 [.slice none 0 0, .slice none 0 0, .slice none 0 0]]) (fun _ h => Sep.lend h 0 (y2.getD 0 []) (nth [] (by omega))) ?_
          refine oxI (zn := 0) 0 rfl el28 rfl rfl rfl rfl (by omega) (by omega) rfl ?_
          intro gk55 hgk55
          refine stoI (off := 0) (x := (((y2.getD 0 []).getD 0 0) + x54)) 0 rfl hgk55 Try.sizeOf2 (fun _ h => h.pick [4]) rfl rfl rfl rfl (by omega) ?_
          refine rPieces (L' := [OwnR maK 28 2 ay2 ny2 cy2 Hy2 ((y2.set 0 (((y2.getD 0 []).set 0 ((((y2.getD 0 []).getD 0 0) + x54)))))), blk bkl54 2 [.int .i64 (-1), .int .i64 1, .int .i64 60], srcP bk ca bs cc, blk bka9 56 [.int .i64 p, .slice ay2 ny2 cy2], blk bka6 43 [.slice ay1 ny1 cy1, .slice ayw1 nyw1 cyw1, .slice ayv1 nyv1 cyv1], RdR ndK ay1 ny1 Hy1 y1, RdR maK ayw1 nyw1 Hyw1 yw1, RdR maK ayv1 nyv1 Hyv1 yv1, blk bka2 56 [.int .i64 0, .slice none 0 0], blk bka1 43 [.slice none 0 0, .slice none 0 0, .slice none 0 0]]) (fun _ h => Sep.back (x := (y2.getD 0 [])) ((y2.getD 0 []).set 0 ((((y2.getD 0 []).getD 0 0) + x54))) maK.ok h (nth [] (by omega)) (fun h1 h2 => by dsimp only [ndK, ndC, maK] at h1 h2 ⊢; rw [h1, h2]) rfl rfl) ?_
          refine rNil ?_
          refine qSeq rfl ?_
          refine hSeq ?_
          refine hDraw (Ls := [blk bka9 56 [.int .i64 p, .slice ay2 ny2 cy2], blk bka6 43 [.slice ay1 ny1 cy1, .slice ayw1 nyw1 cyw1, .slice ayv1 nyv1 cyv1]]) (by kernel_rfl) (sq 0 (sq 1 (sl 2 (sf 3 sz)))) (by kernel_rfl) (.cons _ (.cons _ (.cons _ (.cons_cons _ (.cons_cons _ (.cons _ (.cons _ (.cons _ (.cons _ (.cons _ .slnil)))))))))) ?_
          refine ldAq Try.isAgg43 Try.sizeOf43 (cBs 1 rfl) rfl rfl rfl rfl ?_
          refine ldAq Try.isAgg56 Try.sizeOf56 (cBs 0 rfl) rfl rfl rfl rfl ?_
          refine stAl (vs := [.slice ay1 ny1 cy1, .slice ayw1 nyw1 cyw1, .slice ayv1 nyv1 cyv1]) 9 rfl Try.sizeOf43 (fun _ h => h.pick [3, 3]) rfl rfl rfl rfl rfl (by simp [Value.oneCell']) rfl ?_
          refine stAf (vs := [.int .i64 p, .slice ay2 ny2 cy2]) 8 rfl Try.sizeOf56 rfl rfl rfl rfl rfl (by simp [Value.oneCell']) rfl ?_
          refine rNil ?_
          refine qSeq rfl ?_
          refine hRet ?_
          exact fun w hs => ⟨[_, _], ⟨⟨_, rfl, run_load_agg Try.isAgg43 Try.sizeOf43 rfl (cBs 9 rfl w hs)⟩, ⟨⟨_, rfl, run_load_agg Try.isAgg56 Try.sizeOf56 rfl (cBs 8 rfl w hs)⟩, trivial⟩⟩, ⟨(ay1, ny1, cy1, Hy1, y1, ayw1, nyw1, cyw1, Hyw1, yw1, ayv1, nyv1, cyv1, Hyv1, yv1, p, ay2, ny2, cy2, Hy2, (y2.set 0 (((y2.getD 0 []).set 0 ((((y2.getD 0 []).getD 0 0) + x54)))))), rfl, ⟨⟨by dsimp only; omega, ⟨by dsimp only; omega, by dsimp only; omega⟩, by dsimp only; omega⟩, by dsimp only; omega, by dsimp only; omega⟩, hs.pick [2, 4, 4, 4, 0]⟩⟩
         ·
          refine rPieces (L' := [srcP bk ca bs cc, blk bkl54 2 [.int .i64 (-1), .int .i64 1, .int .i64 60], blk bka9 56 [.int .i64 p, .slice ay2 ny2 cy2], OwnR maK 28 2 ay2 ny2 cy2 Hy2 y2, blk bka6 43 [.slice ay1 ny1 cy1, .slice ayw1 nyw1 cyw1, .slice ayv1 nyv1 cyv1], RdR ndK ay1 ny1 Hy1 y1, RdR maK ayw1 nyw1 Hyw1 yw1, RdR maK ayv1 nyv1 Hyv1 yv1, blk bka2 56 [.int .i64 0, .slice none 0 0], blk bka1 43 [.slice none 0 0, .slice none 0 0, .slice none 0 0]]) (fun _ h => h.perm (pull (i := 1) rfl)) ?_
          refine callMK (α := Int) (Lf := [srcP bk ca bs cc, blk bkl54 2 [.int .i64 (-1), .int .i64 1, .int .i64 60]]) (Lr := [blk bka9 56 [.int .i64 p, .slice ay2 ny2 cy2], OwnR maK 28 2 ay2 ny2 cy2 Hy2 y2, blk bka6 43 [.slice ay1 ny1 cy1, .slice ayw1 nyw1 cyw1, .slice ayv1 nyv1 cyv1], RdR ndK ay1 ny1 Hy1 y1, RdR maK ayw1 nyw1 Hyw1 yw1, RdR maK ayv1 nyv1 Hyv1 yv1, blk bka2 56 [.int .i64 0, .slice none 0 0], blk bka1 43 [.slice none 0 0, .slice none 0 0, .slice none 0 0]]) (good := fun x => x ∈ ([.int .i64 (-1), .int .i64 1, .int .i64 60] : List Value).map toI) (φs := fun x => [srcP bk ca bs cc, blk bkl54 2 [.int .i64 (-1), .int .i64 1, .int .i64 60]]) (val := fun x => .int .i64 x) rfl Try.call155 (by exact (fun _ _ h => h.pick [2])) rfl rfl (fun w M1 hs hk => src_pick bk ca bs cc bkl54 2 3 3 [.int .i64 (-1), .int .i64 1, .int .i64 60] w M1 hs (hk _ kcode) hok rfl rfl (by decide)) ?_
          intro x56 hx56
          try dsimp only at hx56
          refine rPieces (L' := [srcP bk ca bs cc, blk bkl54 2 [.int .i64 (-1), .int .i64 1, .int .i64 60], blk bka9 56 [.int .i64 p, .slice ay2 ny2 cy2], OwnR maK 28 2 ay2 ny2 cy2 Hy2 y2, blk bka6 43 [.slice ay1 ny1 cy1, .slice ayw1 nyw1 cyw1, .slice ayv1 nyv1 cyv1], RdR ndK ay1 ny1 Hy1 y1, RdR maK ayw1 nyw1 Hyw1 yw1, RdR maK ayv1 nyv1 Hyv1 yv1, blk bka2 56 [.int .i64 0, .slice none 0 0], blk bka1 43 [.slice none 0 0, .slice none 0 0, .slice none 0 0]]) (fun _ h => h) ?_
          replace hx56 : (-1 : Int) ≤ x56 ∧ x56 ≤ (60 : Int) := by have hm_ := hx56; simp [toI] at hm_; omega
          refine rPieces (L' := [blk bkl54 2 [.int .i64 (-1), .int .i64 1, .int .i64 60], srcP bk ca bs cc, blk bka9 56 [.int .i64 p, .slice ay2 ny2 cy2], OwnR maK 28 2 ay2 ny2 cy2 Hy2 y2, blk bka6 43 [.slice ay1 ny1 cy1, .slice ayw1 nyw1 cyw1, .slice ayv1 nyv1 cyv1], RdR ndK ay1 ny1 Hy1 y1, RdR maK ayw1 nyw1 Hyw1 yw1, RdR maK ayv1 nyv1 Hyv1 yv1, blk bka2 56 [.int .i64 0, .slice none 0 0], blk bka1 43 [.slice none 0 0, .slice none 0 0, .slice none 0 0]]) (fun _ h => h.perm (pull (i := 1) rfl)) ?_
          refine ldl Try.isAgg2 (e53) (fun _ h => h.pick [2]) rfl rfl rfl ?_
          refine add rfl rfl rfl rfl (by omega) ?_
          refine rPieces (L' := [OwnR maK 28 2 ay2 ny2 cy2 Hy2 y2, blk bkl54 2 [.int .i64 (-1), .int .i64 1, .int .i64 60], srcP bk ca bs cc, blk bka9 56 [.int .i64 p, .slice ay2 ny2 cy2], blk bka6 43 [.slice ay1 ny1 cy1, .slice ayw1 nyw1 cyw1, .slice ayv1 nyv1 cyv1], RdR ndK ay1 ny1 Hy1 y1, RdR maK ayw1 nyw1 Hyw1 yw1, RdR maK ayv1 nyv1 Hyv1 yv1, blk bka2 56 [.int .i64 0, .slice none 0 0], blk bka1 43 [.slice none 0 0, .slice none 0 0, .slice none 0 0]]) (fun _ h => h.pick [3, 0, 0, 0, 0, 0, 0, 0, 0, 0]) ?_
          refine rPieces (L' := [OwnI 2 ((Hy2 0).1) ((y2.getD 0 []).length) ((Hy2 0).2) (y2.getD 0 []), OwnH maK 28 2 ay2 ny2 cy2 Hy2 y2 0, blk bkl54 2 [.int .i64 (-1), .int .i64 1, .int .i64 60], srcP bk ca bs cc, blk bka9 56 [.int .i64 p, .slice ay2 ny2 cy2], blk bka6 43 [.slice ay1 ny1 cy1, .slice ayw1 nyw1 cyw1, .slice ayv1 nyv1 cyv1], RdR ndK ay1 ny1 Hy1 y1, RdR maK ayw1 nyw1 Hyw1 yw1, RdR maK ayv1 nyv1 Hyv1 yv1, blk bka2 56 [.int .i64 0, .slice none 0 0], blk bka1 43 [.slice none 0 0, .slice none 0 0, .slice none 0 0]]) (fun _ h => Sep.lend h 0 (y2.getD 0 []) (nth [] (by omega))) ?_
          refine oxI (zn := 0) 0 rfl el28 rfl rfl rfl rfl (by omega) (by omega) rfl ?_
          intro gk57 hgk57
          refine stoI (off := 0) (x := (((y2.getD 0 []).getD 0 0) + x56)) 0 rfl hgk57 Try.sizeOf2 (fun _ h => h.pick [4]) rfl rfl rfl rfl (by omega) ?_
          refine rPieces (L' := [OwnR maK 28 2 ay2 ny2 cy2 Hy2 ((y2.set 0 (((y2.getD 0 []).set 0 ((((y2.getD 0 []).getD 0 0) + x56)))))), blk bkl54 2 [.int .i64 (-1), .int .i64 1, .int .i64 60], srcP bk ca bs cc, blk bka9 56 [.int .i64 p, .slice ay2 ny2 cy2], blk bka6 43 [.slice ay1 ny1 cy1, .slice ayw1 nyw1 cyw1, .slice ayv1 nyv1 cyv1], RdR ndK ay1 ny1 Hy1 y1, RdR maK ayw1 nyw1 Hyw1 yw1, RdR maK ayv1 nyv1 Hyv1 yv1, blk bka2 56 [.int .i64 0, .slice none 0 0], blk bka1 43 [.slice none 0 0, .slice none 0 0, .slice none 0 0]]) (fun _ h => Sep.back (x := (y2.getD 0 [])) ((y2.getD 0 []).set 0 ((((y2.getD 0 []).getD 0 0) + x56))) maK.ok h (nth [] (by omega)) (fun h1 h2 => by dsimp only [ndK, ndC, maK] at h1 h2 ⊢; rw [h1, h2]) rfl rfl) ?_
          refine rNil ?_
          refine qSeq rfl ?_
          refine hSeq ?_
          refine hDraw (Ls := [blk bka9 56 [.int .i64 p, .slice ay2 ny2 cy2], blk bka6 43 [.slice ay1 ny1 cy1, .slice ayw1 nyw1 cyw1, .slice ayv1 nyv1 cyv1]]) (by kernel_rfl) (sq 0 (sq 1 (sl 2 (sf 3 sz)))) (by kernel_rfl) (.cons _ (.cons _ (.cons _ (.cons_cons _ (.cons_cons _ (.cons _ (.cons _ (.cons _ (.cons _ (.cons _ .slnil)))))))))) ?_
          refine ldAq Try.isAgg43 Try.sizeOf43 (cBs 1 rfl) rfl rfl rfl rfl ?_
          refine ldAq Try.isAgg56 Try.sizeOf56 (cBs 0 rfl) rfl rfl rfl rfl ?_
          refine stAl (vs := [.slice ay1 ny1 cy1, .slice ayw1 nyw1 cyw1, .slice ayv1 nyv1 cyv1]) 9 rfl Try.sizeOf43 (fun _ h => h.pick [3, 3]) rfl rfl rfl rfl rfl (by simp [Value.oneCell']) rfl ?_
          refine stAf (vs := [.int .i64 p, .slice ay2 ny2 cy2]) 8 rfl Try.sizeOf56 rfl rfl rfl rfl rfl (by simp [Value.oneCell']) rfl ?_
          refine rNil ?_
          refine qSeq rfl ?_
          refine hRet ?_
          exact fun w hs => ⟨[_, _], ⟨⟨_, rfl, run_load_agg Try.isAgg43 Try.sizeOf43 rfl (cBs 9 rfl w hs)⟩, ⟨⟨_, rfl, run_load_agg Try.isAgg56 Try.sizeOf56 rfl (cBs 8 rfl w hs)⟩, trivial⟩⟩, ⟨(ay1, ny1, cy1, Hy1, y1, ayw1, nyw1, cyw1, Hyw1, yw1, ayv1, nyv1, cyv1, Hyv1, yv1, p, ay2, ny2, cy2, Hy2, (y2.set 0 (((y2.getD 0 []).set 0 ((((y2.getD 0 []).getD 0 0) + x56)))))), rfl, ⟨⟨by dsimp only; omega, ⟨by dsimp only; omega, by dsimp only; omega⟩, by dsimp only; omega⟩, by dsimp only; omega, by dsimp only; omega⟩, hs.pick [2, 4, 4, 4, 0]⟩⟩
        ·
         refine rAlt ?_ ?_
         ·
          refine ldl Try.isAgg2 (e53) (fun _ h => h.pick [2]) rfl rfl rfl ?_
          refine rAlt ?_ ?_
          ·
           refine ldl Try.isAgg28 (Kn.drop (k := 1) (Kn.fld e4 0 rfl)) (fun _ h => h.pick [2]) rfl rfl rfl ?_
           refine rPieces (L' := [srcP bk ca bs cc, blk bkl54 2 [.int .i64 (-1), .int .i64 1, .int .i64 60], blk bka9 56 [.int .i64 p, .slice ay2 ny2 cy2], OwnR maK 28 2 ay2 ny2 cy2 Hy2 y2, blk bka6 43 [.slice ay1 ny1 cy1, .slice ayw1 nyw1 cyw1, .slice ayv1 nyv1 cyv1], RdR ndK ay1 ny1 Hy1 y1, RdR maK ayw1 nyw1 Hyw1 yw1, RdR maK ayv1 nyv1 Hyv1 yv1, blk bka2 56 [.int .i64 0, .slice none 0 0], blk bka1 43 [.slice none 0 0, .slice none 0 0, .slice none 0 0]]) (fun _ h => h.perm (pull (i := 1) rfl)) ?_
           refine callMK (α := Int) (Lf := [srcP bk ca bs cc, blk bkl54 2 [.int .i64 (-1), .int .i64 1, .int .i64 60]]) (Lr := [blk bka9 56 [.int .i64 p, .slice ay2 ny2 cy2], OwnR maK 28 2 ay2 ny2 cy2 Hy2 y2, blk bka6 43 [.slice ay1 ny1 cy1, .slice ayw1 nyw1 cyw1, .slice ayv1 nyv1 cyv1], RdR ndK ay1 ny1 Hy1 y1, RdR maK ayw1 nyw1 Hyw1 yw1, RdR maK ayv1 nyv1 Hyv1 yv1, blk bka2 56 [.int .i64 0, .slice none 0 0], blk bka1 43 [.slice none 0 0, .slice none 0 0, .slice none 0 0]]) (good := fun x => x ∈ ([.int .i64 (-1), .int .i64 1, .int .i64 60] : List Value).map toI) (φs := fun x => [srcP bk ca bs cc, blk bkl54 2 [.int .i64 (-1), .int .i64 1, .int .i64 60]]) (val := fun x => .int .i64 x) rfl Try.call155 (by exact (fun _ _ h => h.pick [2])) rfl rfl (fun w M1 hs hk => src_pick bk ca bs cc bkl54 2 3 3 [.int .i64 (-1), .int .i64 1, .int .i64 60] w M1 hs (hk _ kcode) hok rfl rfl (by decide)) ?_
           intro x58 hx58
           try dsimp only at hx58
           refine rPieces (L' := [srcP bk ca bs cc, blk bkl54 2 [.int .i64 (-1), .int .i64 1, .int .i64 60], blk bka9 56 [.int .i64 p, .slice ay2 ny2 cy2], OwnR maK 28 2 ay2 ny2 cy2 Hy2 y2, blk bka6 43 [.slice ay1 ny1 cy1, .slice ayw1 nyw1 cyw1, .slice ayv1 nyv1 cyv1], RdR ndK ay1 ny1 Hy1 y1, RdR maK ayw1 nyw1 Hyw1 yw1, RdR maK ayv1 nyv1 Hyv1 yv1, blk bka2 56 [.int .i64 0, .slice none 0 0], blk bka1 43 [.slice none 0 0, .slice none 0 0, .slice none 0 0]]) (fun _ h => h) ?_
           replace hx58 : (-1 : Int) ≤ x58 ∧ x58 ≤ (60 : Int) := by have hm_ := hx58; simp [toI] at hm_; omega
           refine rPieces (L' := [blk bkl54 2 [.int .i64 (-1), .int .i64 1, .int .i64 60], srcP bk ca bs cc, blk bka9 56 [.int .i64 p, .slice ay2 ny2 cy2], OwnR maK 28 2 ay2 ny2 cy2 Hy2 y2, blk bka6 43 [.slice ay1 ny1 cy1, .slice ayw1 nyw1 cyw1, .slice ayv1 nyv1 cyv1], RdR ndK ay1 ny1 Hy1 y1, RdR maK ayw1 nyw1 Hyw1 yw1, RdR maK ayv1 nyv1 Hyv1 yv1, blk bka2 56 [.int .i64 0, .slice none 0 0], blk bka1 43 [.slice none 0 0, .slice none 0 0, .slice none 0 0]]) (fun _ h => h.perm (pull (i := 1) rfl)) ?_
           refine add rfl rfl rfl rfl (by omega) ?_
           refine rPieces (L' := [OwnR maK 28 2 ay2 ny2 cy2 Hy2 y2, blk bkl54 2 [.int .i64 (-1), .int .i64 1, .int .i64 60], srcP bk ca bs cc, blk bka9 56 [.int .i64 p, .slice ay2 ny2 cy2], blk bka6 43 [.slice ay1 ny1 cy1, .slice ayw1 nyw1 cyw1, .slice ayv1 nyv1 cyv1], RdR ndK ay1 ny1 Hy1 y1, RdR maK ayw1 nyw1 Hyw1 yw1, RdR maK ayv1 nyv1 Hyv1 yv1, blk bka2 56 [.int .i64 0, .slice none 0 0], blk bka1 43 [.slice none 0 0, .slice none 0 0, .slice none 0 0]]) (fun _ h => h.pick [3, 0, 0, 0, 0, 0, 0, 0, 0, 0]) ?_
           refine rPieces (L' := [OwnI 2 ((Hy2 0).1) ((y2.getD 0 []).length) ((Hy2 0).2) (y2.getD 0 []), OwnH maK 28 2 ay2 ny2 cy2 Hy2 y2 0, blk bkl54 2 [.int .i64 (-1), .int .i64 1, .int .i64 60], srcP bk ca bs cc, blk bka9 56 [.int .i64 p, .slice ay2 ny2 cy2], blk bka6 43 [.slice ay1 ny1 cy1, .slice ayw1 nyw1 cyw1, .slice ayv1 nyv1 cyv1], RdR ndK ay1 ny1 Hy1 y1, RdR maK ayw1 nyw1 Hyw1 yw1, RdR maK ayv1 nyv1 Hyv1 yv1, blk bka2 56 [.int .i64 0, .slice none 0 0], blk bka1 43 [.slice none 0 0, .slice none 0 0, .slice none 0 0]]) (fun _ h => Sep.lend h 0 (y2.getD 0 []) (nth [] (by omega))) ?_
           refine oxI (zn := 0) 0 rfl el28 rfl rfl rfl rfl (by omega) (by omega) rfl ?_
           intro gk59 hgk59
           refine stoI (off := 0) (x := (((y2.getD 0 []).getD 0 0) + x58)) 0 rfl hgk59 Try.sizeOf2 (fun _ h => h.pick [4]) rfl rfl rfl rfl (by omega) ?_
           refine rPieces (L' := [OwnR maK 28 2 ay2 ny2 cy2 Hy2 ((y2.set 0 (((y2.getD 0 []).set 0 ((((y2.getD 0 []).getD 0 0) + x58)))))), blk bkl54 2 [.int .i64 (-1), .int .i64 1, .int .i64 60], srcP bk ca bs cc, blk bka9 56 [.int .i64 p, .slice ay2 ny2 cy2], blk bka6 43 [.slice ay1 ny1 cy1, .slice ayw1 nyw1 cyw1, .slice ayv1 nyv1 cyv1], RdR ndK ay1 ny1 Hy1 y1, RdR maK ayw1 nyw1 Hyw1 yw1, RdR maK ayv1 nyv1 Hyv1 yv1, blk bka2 56 [.int .i64 0, .slice none 0 0], blk bka1 43 [.slice none 0 0, .slice none 0 0, .slice none 0 0]]) (fun _ h => Sep.back (x := (y2.getD 0 [])) ((y2.getD 0 []).set 0 ((((y2.getD 0 []).getD 0 0) + x58))) maK.ok h (nth [] (by omega)) (fun h1 h2 => by dsimp only [ndK, ndC, maK] at h1 h2 ⊢; rw [h1, h2]) rfl rfl) ?_
           refine rNil ?_
           refine qSeq rfl ?_
           refine hSeq ?_
           refine hDraw (Ls := [blk bka9 56 [.int .i64 p, .slice ay2 ny2 cy2], blk bka6 43 [.slice ay1 ny1 cy1, .slice ayw1 nyw1 cyw1, .slice ayv1 nyv1 cyv1]]) (by kernel_rfl) (sq 0 (sq 1 (sl 2 (sf 3 sz)))) (by kernel_rfl) (.cons _ (.cons _ (.cons _ (.cons_cons _ (.cons_cons _ (.cons _ (.cons _ (.cons _ (.cons _ (.cons _ .slnil)))))))))) ?_
           refine ldAq Try.isAgg43 Try.sizeOf43 (cBs 1 rfl) rfl rfl rfl rfl ?_
           refine ldAq Try.isAgg56 Try.sizeOf56 (cBs 0 rfl) rfl rfl rfl rfl ?_
           refine stAl (vs := [.slice ay1 ny1 cy1, .slice ayw1 nyw1 cyw1, .slice ayv1 nyv1 cyv1]) 9 rfl Try.sizeOf43 (fun _ h => h.pick [3, 3]) rfl rfl rfl rfl rfl (by simp [Value.oneCell']) rfl ?_
           refine stAf (vs := [.int .i64 p, .slice ay2 ny2 cy2]) 8 rfl Try.sizeOf56 rfl rfl rfl rfl rfl (by simp [Value.oneCell']) rfl ?_
           refine rNil ?_
           refine qSeq rfl ?_
           refine hRet ?_
           exact fun w hs => ⟨[_, _], ⟨⟨_, rfl, run_load_agg Try.isAgg43 Try.sizeOf43 rfl (cBs 9 rfl w hs)⟩, ⟨⟨_, rfl, run_load_agg Try.isAgg56 Try.sizeOf56 rfl (cBs 8 rfl w hs)⟩, trivial⟩⟩, ⟨(ay1, ny1, cy1, Hy1, y1, ayw1, nyw1, cyw1, Hyw1, yw1, ayv1, nyv1, cyv1, Hyv1, yv1, p, ay2, ny2, cy2, Hy2, (y2.set 0 (((y2.getD 0 []).set 0 ((((y2.getD 0 []).getD 0 0) + x58)))))), rfl, ⟨⟨by dsimp only; omega, ⟨by dsimp only; omega, by dsimp only; omega⟩, by dsimp only; omega⟩, by dsimp only; omega, by dsimp only; omega⟩, hs.pick [2, 4, 4, 4, 0]⟩⟩
          ·
           refine rPieces (L' := [srcP bk ca bs cc, blk bkl54 2 [.int .i64 (-1), .int .i64 1, .int .i64 60], blk bka9 56 [.int .i64 p, .slice ay2 ny2 cy2], OwnR maK 28 2 ay2 ny2 cy2 Hy2 y2, blk bka6 43 [.slice ay1 ny1 cy1, .slice ayw1 nyw1 cyw1, .slice ayv1 nyv1 cyv1], RdR ndK ay1 ny1 Hy1 y1, RdR maK ayw1 nyw1 Hyw1 yw1, RdR maK ayv1 nyv1 Hyv1 yv1, blk bka2 56 [.int .i64 0, .slice none 0 0], blk bka1 43 [.slice none 0 0, .slice none 0 0, .slice none 0 0]]) (fun _ h => h.perm (pull (i := 1) rfl)) ?_
           refine callMK (α := Int) (Lf := [srcP bk ca bs cc, blk bkl54 2 [.int .i64 (-1), .int .i64 1, .int .i64 60]]) (Lr := [blk bka9 56 [.int .i64 p, .slice ay2 ny2 cy2], OwnR maK 28 2 ay2 ny2 cy2 Hy2 y2, blk bka6 43 [.slice ay1 ny1 cy1, .slice ayw1 nyw1 cyw1, .slice ayv1 nyv1 cyv1], RdR ndK ay1 ny1 Hy1 y1, RdR maK ayw1 nyw1 Hyw1 yw1, RdR maK ayv1 nyv1 Hyv1 yv1, blk bka2 56 [.int .i64 0, .slice none 0 0], blk bka1 43 [.slice none 0 0, .slice none 0 0, .slice none 0 0]]) (good := fun x => x ∈ ([.int .i64 (-1), .int .i64 1, .int .i64 60] : List Value).map toI) (φs := fun x => [srcP bk ca bs cc, blk bkl54 2 [.int .i64 (-1), .int .i64 1, .int .i64 60]]) (val := fun x => .int .i64 x) rfl Try.call155 (by exact (fun _ _ h => h.pick [2])) rfl rfl (fun w M1 hs hk => src_pick bk ca bs cc bkl54 2 3 3 [.int .i64 (-1), .int .i64 1, .int .i64 60] w M1 hs (hk _ kcode) hok rfl rfl (by decide)) ?_
           intro x60 hx60
           try dsimp only at hx60
           refine rPieces (L' := [srcP bk ca bs cc, blk bkl54 2 [.int .i64 (-1), .int .i64 1, .int .i64 60], blk bka9 56 [.int .i64 p, .slice ay2 ny2 cy2], OwnR maK 28 2 ay2 ny2 cy2 Hy2 y2, blk bka6 43 [.slice ay1 ny1 cy1, .slice ayw1 nyw1 cyw1, .slice ayv1 nyv1 cyv1], RdR ndK ay1 ny1 Hy1 y1, RdR maK ayw1 nyw1 Hyw1 yw1, RdR maK ayv1 nyv1 Hyv1 yv1, blk bka2 56 [.int .i64 0, .slice none 0 0], blk bka1 43 [.slice none 0 0, .slice none 0 0, .slice none 0 0]]) (fun _ h => h) ?_
           replace hx60 : (-1 : Int) ≤ x60 ∧ x60 ≤ (60 : Int) := by have hm_ := hx60; simp [toI] at hm_; omega
           refine rPieces (L' := [blk bkl54 2 [.int .i64 (-1), .int .i64 1, .int .i64 60], srcP bk ca bs cc, blk bka9 56 [.int .i64 p, .slice ay2 ny2 cy2], OwnR maK 28 2 ay2 ny2 cy2 Hy2 y2, blk bka6 43 [.slice ay1 ny1 cy1, .slice ayw1 nyw1 cyw1, .slice ayv1 nyv1 cyv1], RdR ndK ay1 ny1 Hy1 y1, RdR maK ayw1 nyw1 Hyw1 yw1, RdR maK ayv1 nyv1 Hyv1 yv1, blk bka2 56 [.int .i64 0, .slice none 0 0], blk bka1 43 [.slice none 0 0, .slice none 0 0, .slice none 0 0]]) (fun _ h => h.perm (pull (i := 1) rfl)) ?_
           refine add rfl rfl rfl rfl (by omega) ?_
           refine ldl Try.isAgg28 (Kn.drop (k := 1) (Kn.fld e4 0 rfl)) (fun _ h => h.pick [2]) rfl rfl rfl ?_
           refine rPieces (L' := [OwnR maK 28 2 ay2 ny2 cy2 Hy2 y2, blk bkl54 2 [.int .i64 (-1), .int .i64 1, .int .i64 60], srcP bk ca bs cc, blk bka9 56 [.int .i64 p, .slice ay2 ny2 cy2], blk bka6 43 [.slice ay1 ny1 cy1, .slice ayw1 nyw1 cyw1, .slice ayv1 nyv1 cyv1], RdR ndK ay1 ny1 Hy1 y1, RdR maK ayw1 nyw1 Hyw1 yw1, RdR maK ayv1 nyv1 Hyv1 yv1, blk bka2 56 [.int .i64 0, .slice none 0 0], blk bka1 43 [.slice none 0 0, .slice none 0 0, .slice none 0 0]]) (fun _ h => h.pick [3, 0, 0, 0, 0, 0, 0, 0, 0, 0]) ?_
           refine rPieces (L' := [OwnI 2 ((Hy2 0).1) ((y2.getD 0 []).length) ((Hy2 0).2) (y2.getD 0 []), OwnH maK 28 2 ay2 ny2 cy2 Hy2 y2 0, blk bkl54 2 [.int .i64 (-1), .int .i64 1, .int .i64 60], srcP bk ca bs cc, blk bka9 56 [.int .i64 p, .slice ay2 ny2 cy2], blk bka6 43 [.slice ay1 ny1 cy1, .slice ayw1 nyw1 cyw1, .slice ayv1 nyv1 cyv1], RdR ndK ay1 ny1 Hy1 y1, RdR maK ayw1 nyw1 Hyw1 yw1, RdR maK ayv1 nyv1 Hyv1 yv1, blk bka2 56 [.int .i64 0, .slice none 0 0], blk bka1 43 [.slice none 0 0, .slice none 0 0, .slice none 0 0]]) (fun _ h => Sep.lend h 0 (y2.getD 0 []) (nth [] (by omega))) ?_
           refine oxI (zn := 0) 0 rfl el28 rfl rfl rfl rfl (by omega) (by omega) rfl ?_
           intro gk61 hgk61
           refine stoI (off := 0) (x := (((y2.getD 0 []).getD 0 0) + x60)) 0 rfl hgk61 Try.sizeOf2 (fun _ h => h.pick [4]) rfl rfl rfl rfl (by omega) ?_
           refine rPieces (L' := [OwnR maK 28 2 ay2 ny2 cy2 Hy2 ((y2.set 0 (((y2.getD 0 []).set 0 ((((y2.getD 0 []).getD 0 0) + x60)))))), blk bkl54 2 [.int .i64 (-1), .int .i64 1, .int .i64 60], srcP bk ca bs cc, blk bka9 56 [.int .i64 p, .slice ay2 ny2 cy2], blk bka6 43 [.slice ay1 ny1 cy1, .slice ayw1 nyw1 cyw1, .slice ayv1 nyv1 cyv1], RdR ndK ay1 ny1 Hy1 y1, RdR maK ayw1 nyw1 Hyw1 yw1, RdR maK ayv1 nyv1 Hyv1 yv1, blk bka2 56 [.int .i64 0, .slice none 0 0], blk bka1 43 [.slice none 0 0, .slice none 0 0, .slice none 0 0]]) (fun _ h => Sep.back (x := (y2.getD 0 [])) ((y2.getD 0 []).set 0 ((((y2.getD 0 []).getD 0 0) + x60))) maK.ok h (nth [] (by omega)) (fun h1 h2 => by dsimp only [ndK, ndC, maK] at h1 h2 ⊢; rw [h1, h2]) rfl rfl) ?_
           refine rNil ?_
           refine qSeq rfl ?_
           refine hSeq ?_
           refine hDraw (Ls := [blk bka9 56 [.int .i64 p, .slice ay2 ny2 cy2], blk bka6 43 [.slice ay1 ny1 cy1, .slice ayw1 nyw1 cyw1, .slice ayv1 nyv1 cyv1]]) (by kernel_rfl) (sq 0 (sq 1 (sl 2 (sf 3 sz)))) (by kernel_rfl) (.cons _ (.cons _ (.cons _ (.cons_cons _ (.cons_cons _ (.cons _ (.cons _ (.cons _ (.cons _ (.cons _ .slnil)))))))))) ?_
           refine ldAq Try.isAgg43 Try.sizeOf43 (cBs 1 rfl) rfl rfl rfl rfl ?_
           refine ldAq Try.isAgg56 Try.sizeOf56 (cBs 0 rfl) rfl rfl rfl rfl ?_
           refine stAl (vs := [.slice ay1 ny1 cy1, .slice ayw1 nyw1 cyw1, .slice ayv1 nyv1 cyv1]) 9 rfl Try.sizeOf43 (fun _ h => h.pick [3, 3]) rfl rfl rfl rfl rfl (by simp [Value.oneCell']) rfl ?_
           refine stAf (vs := [.int .i64 p, .slice ay2 ny2 cy2]) 8 rfl Try.sizeOf56 rfl rfl rfl rfl rfl (by simp [Value.oneCell']) rfl ?_
           refine rNil ?_
           refine qSeq rfl ?_
           refine hRet ?_
           exact fun w hs => ⟨[_, _], ⟨⟨_, rfl, run_load_agg Try.isAgg43 Try.sizeOf43 rfl (cBs 9 rfl w hs)⟩, ⟨⟨_, rfl, run_load_agg Try.isAgg56 Try.sizeOf56 rfl (cBs 8 rfl w hs)⟩, trivial⟩⟩, ⟨(ay1, ny1, cy1, Hy1, y1, ayw1, nyw1, cyw1, Hyw1, yw1, ayv1, nyv1, cyv1, Hyv1, yv1, p, ay2, ny2, cy2, Hy2, (y2.set 0 (((y2.getD 0 []).set 0 ((((y2.getD 0 []).getD 0 0) + x60)))))), rfl, ⟨⟨by dsimp only; omega, ⟨by dsimp only; omega, by dsimp only; omega⟩, by dsimp only; omega⟩, by dsimp only; omega, by dsimp only; omega⟩, hs.pick [2, 4, 4, 4, 0]⟩⟩
         ·
          refine rPieces (L' := [srcP bk ca bs cc, blk bkl54 2 [.int .i64 (-1), .int .i64 1, .int .i64 60], blk bka9 56 [.int .i64 p, .slice ay2 ny2 cy2], OwnR maK 28 2 ay2 ny2 cy2 Hy2 y2, blk bka6 43 [.slice ay1 ny1 cy1, .slice ayw1 nyw1 cyw1, .slice ayv1 nyv1 cyv1], RdR ndK ay1 ny1 Hy1 y1, RdR maK ayw1 nyw1 Hyw1 yw1, RdR maK ayv1 nyv1 Hyv1 yv1, blk bka2 56 [.int .i64 0, .slice none 0 0], blk bka1 43 [.slice none 0 0, .slice none 0 0, .slice none 0 0]]) (fun _ h => h.perm (pull (i := 1) rfl)) ?_
          refine callMK (α := Int) (Lf := [srcP bk ca bs cc, blk bkl54 2 [.int .i64 (-1), .int .i64 1, .int .i64 60]]) (Lr := [blk bka9 56 [.int .i64 p, .slice ay2 ny2 cy2], OwnR maK 28 2 ay2 ny2 cy2 Hy2 y2, blk bka6 43 [.slice ay1 ny1 cy1, .slice ayw1 nyw1 cyw1, .slice ayv1 nyv1 cyv1], RdR ndK ay1 ny1 Hy1 y1, RdR maK ayw1 nyw1 Hyw1 yw1, RdR maK ayv1 nyv1 Hyv1 yv1, blk bka2 56 [.int .i64 0, .slice none 0 0], blk bka1 43 [.slice none 0 0, .slice none 0 0, .slice none 0 0]]) (good := fun x => x ∈ ([.int .i64 (-1), .int .i64 1, .int .i64 60] : List Value).map toI) (φs := fun x => [srcP bk ca bs cc, blk bkl54 2 [.int .i64 (-1), .int .i64 1, .int .i64 60]]) (val := fun x => .int .i64 x) rfl Try.call155 (by exact (fun _ _ h => h.pick [2])) rfl rfl (fun w M1 hs hk => src_pick bk ca bs cc bkl54 2 3 3 [.int .i64 (-1), .int .i64 1, .int .i64 60] w M1 hs (hk _ kcode) hok rfl rfl (by decide)) ?_
          intro x62 hx62
          try dsimp only at hx62
          refine rPieces (L' := [srcP bk ca bs cc, blk bkl54 2 [.int .i64 (-1), .int .i64 1, .int .i64 60], blk bka9 56 [.int .i64 p, .slice ay2 ny2 cy2], OwnR maK 28 2 ay2 ny2 cy2 Hy2 y2, blk bka6 43 [.slice ay1 ny1 cy1, .slice ayw1 nyw1 cyw1, .slice ayv1 nyv1 cyv1], RdR ndK ay1 ny1 Hy1 y1, RdR maK ayw1 nyw1 Hyw1 yw1, RdR maK ayv1 nyv1 Hyv1 yv1, blk bka2 56 [.int .i64 0, .slice none 0 0], blk bka1 43 [.slice none 0 0, .slice none 0 0, .slice none 0 0]]) (fun _ h => h) ?_
          replace hx62 : (-1 : Int) ≤ x62 ∧ x62 ≤ (60 : Int) := by have hm_ := hx62; simp [toI] at hm_; omega
          refine rPieces (L' := [blk bkl54 2 [.int .i64 (-1), .int .i64 1, .int .i64 60], srcP bk ca bs cc, blk bka9 56 [.int .i64 p, .slice ay2 ny2 cy2], OwnR maK 28 2 ay2 ny2 cy2 Hy2 y2, blk bka6 43 [.slice ay1 ny1 cy1, .slice ayw1 nyw1 cyw1, .slice ayv1 nyv1 cyv1], RdR ndK ay1 ny1 Hy1 y1, RdR maK ayw1 nyw1 Hyw1 yw1, RdR maK ayv1 nyv1 Hyv1 yv1, blk bka2 56 [.int .i64 0, .slice none 0 0], blk bka1 43 [.slice none 0 0, .slice none 0 0, .slice none 0 0]]) (fun _ h => h.perm (pull (i := 1) rfl)) ?_
          refine rAlt ?_ ?_
          ·
           refine ldl Try.isAgg28 (Kn.drop (k := 1) (Kn.fld e4 0 rfl)) (fun _ h => h.pick [2]) rfl rfl rfl ?_
           refine ldl Try.isAgg2 (e53) (fun _ h => h.pick [2]) rfl rfl rfl ?_
           refine add rfl rfl rfl rfl (by omega) ?_
           refine rPieces (L' := [OwnR maK 28 2 ay2 ny2 cy2 Hy2 y2, blk bkl54 2 [.int .i64 (-1), .int .i64 1, .int .i64 60], srcP bk ca bs cc, blk bka9 56 [.int .i64 p, .slice ay2 ny2 cy2], blk bka6 43 [.slice ay1 ny1 cy1, .slice ayw1 nyw1 cyw1, .slice ayv1 nyv1 cyv1], RdR ndK ay1 ny1 Hy1 y1, RdR maK ayw1 nyw1 Hyw1 yw1, RdR maK ayv1 nyv1 Hyv1 yv1, blk bka2 56 [.int .i64 0, .slice none 0 0], blk bka1 43 [.slice none 0 0, .slice none 0 0, .slice none 0 0]]) (fun _ h => h.pick [3, 0, 0, 0, 0, 0, 0, 0, 0, 0]) ?_
           refine rPieces (L' := [OwnI 2 ((Hy2 0).1) ((y2.getD 0 []).length) ((Hy2 0).2) (y2.getD 0 []), OwnH maK 28 2 ay2 ny2 cy2 Hy2 y2 0, blk bkl54 2 [.int .i64 (-1), .int .i64 1, .int .i64 60], srcP bk ca bs cc, blk bka9 56 [.int .i64 p, .slice ay2 ny2 cy2], blk bka6 43 [.slice ay1 ny1 cy1, .slice ayw1 nyw1 cyw1, .slice ayv1 nyv1 cyv1], RdR ndK ay1 ny1 Hy1 y1, RdR maK ayw1 nyw1 Hyw1 yw1, RdR maK ayv1 nyv1 Hyv1 yv1, blk bka2 56 [.int .i64 0, .slice none 0 0], blk bka1 43 [.slice none 0 0, .slice none 0 0, .slice none 0 0]]) (fun _ h => Sep.lend h 0 (y2.getD 0 []) (nth [] (by omega))) ?_
           refine oxI (zn := 0) 0 rfl el28 rfl rfl rfl rfl (by omega) (by omega) rfl ?_
           intro gk63 hgk63
           refine stoI (off := 0) (x := (((y2.getD 0 []).getD 0 0) + x62)) 0 rfl hgk63 Try.sizeOf2 (fun _ h => h.pick [4]) rfl rfl rfl rfl (by omega) ?_
           refine rPieces (L' := [OwnR maK 28 2 ay2 ny2 cy2 Hy2 ((y2.set 0 (((y2.getD 0 []).set 0 ((((y2.getD 0 []).getD 0 0) + x62)))))), blk bkl54 2 [.int .i64 (-1), .int .i64 1, .int .i64 60], srcP bk ca bs cc, blk bka9 56 [.int .i64 p, .slice ay2 ny2 cy2], blk bka6 43 [.slice ay1 ny1 cy1, .slice ayw1 nyw1 cyw1, .slice ayv1 nyv1 cyv1], RdR ndK ay1 ny1 Hy1 y1, RdR maK ayw1 nyw1 Hyw1 yw1, RdR maK ayv1 nyv1 Hyv1 yv1, blk bka2 56 [.int .i64 0, .slice none 0 0], blk bka1 43 [.slice none 0 0, .slice none 0 0, .slice none 0 0]]) (fun _ h => Sep.back (x := (y2.getD 0 [])) ((y2.getD 0 []).set 0 ((((y2.getD 0 []).getD 0 0) + x62))) maK.ok h (nth [] (by omega)) (fun h1 h2 => by dsimp only [ndK, ndC, maK] at h1 h2 ⊢; rw [h1, h2]) rfl rfl) ?_
           refine rNil ?_
           refine qSeq rfl ?_
           refine hSeq ?_
           refine hDraw (Ls := [blk bka9 56 [.int .i64 p, .slice ay2 ny2 cy2], blk bka6 43 [.slice ay1 ny1 cy1, .slice ayw1 nyw1 cyw1, .slice ayv1 nyv1 cyv1]]) (by kernel_rfl) (sq 0 (sq 1 (sl 2 (sf 3 sz)))) (by kernel_rfl) (.cons _ (.cons _ (.cons _ (.cons_cons _ (.cons_cons _ (.cons _ (.cons _ (.cons _ (.cons _ (.cons _ .slnil)))))))))) ?_
           refine ldAq Try.isAgg43 Try.sizeOf43 (cBs 1 rfl) rfl rfl rfl rfl ?_
           refine ldAq Try.isAgg56 Try.sizeOf56 (cBs 0 rfl) rfl rfl rfl rfl ?_
           refine stAl (vs := [.slice ay1 ny1 cy1, .slice ayw1 nyw1 cyw1, .slice ayv1 nyv1 cyv1]) 9 rfl Try.sizeOf43 (fun _ h => h.pick [3, 3]) rfl rfl rfl rfl rfl (by simp [Value.oneCell']) rfl ?_
           refine stAf (vs := [.int .i64 p, .slice ay2 ny2 cy2]) 8 rfl Try.sizeOf56 rfl rfl rfl rfl rfl (by simp [Value.oneCell']) rfl ?_
           refine rNil ?_
           refine qSeq rfl ?_
           refine hRet ?_
           exact fun w hs => ⟨[_, _], ⟨⟨_, rfl, run_load_agg Try.isAgg43 Try.sizeOf43 rfl (cBs 9 rfl w hs)⟩, ⟨⟨_, rfl, run_load_agg Try.isAgg56 Try.sizeOf56 rfl (cBs 8 rfl w hs)⟩, trivial⟩⟩, ⟨(ay1, ny1, cy1, Hy1, y1, ayw1, nyw1, cyw1, Hyw1, yw1, ayv1, nyv1, cyv1, Hyv1, yv1, p, ay2, ny2, cy2, Hy2, (y2.set 0 (((y2.getD 0 []).set 0 ((((y2.getD 0 []).getD 0 0) + x62)))))), rfl, ⟨⟨by dsimp only; omega, ⟨by dsimp only; omega, by dsimp only; omega⟩, by dsimp only; omega⟩, by dsimp only; omega, by dsimp only; omega⟩, hs.pick [2, 4, 4, 4, 0]⟩⟩
          ·
           refine ldl Try.isAgg2 (e53) (fun _ h => h.pick [2]) rfl rfl rfl ?_
           refine add rfl rfl rfl rfl (by omega) ?_
           refine ldl Try.isAgg28 (Kn.drop (k := 1) (Kn.fld e4 0 rfl)) (fun _ h => h.pick [2]) rfl rfl rfl ?_
           refine rPieces (L' := [OwnR maK 28 2 ay2 ny2 cy2 Hy2 y2, blk bkl54 2 [.int .i64 (-1), .int .i64 1, .int .i64 60], srcP bk ca bs cc, blk bka9 56 [.int .i64 p, .slice ay2 ny2 cy2], blk bka6 43 [.slice ay1 ny1 cy1, .slice ayw1 nyw1 cyw1, .slice ayv1 nyv1 cyv1], RdR ndK ay1 ny1 Hy1 y1, RdR maK ayw1 nyw1 Hyw1 yw1, RdR maK ayv1 nyv1 Hyv1 yv1, blk bka2 56 [.int .i64 0, .slice none 0 0], blk bka1 43 [.slice none 0 0, .slice none 0 0, .slice none 0 0]]) (fun _ h => h.pick [3, 0, 0, 0, 0, 0, 0, 0, 0, 0]) ?_
           refine rPieces (L' := [OwnI 2 ((Hy2 0).1) ((y2.getD 0 []).length) ((Hy2 0).2) (y2.getD 0 []), OwnH maK 28 2 ay2 ny2 cy2 Hy2 y2 0, blk bkl54 2 [.int .i64 (-1), .int .i64 1, .int .i64 60], srcP bk ca bs cc, blk bka9 56 [.int .i64 p, .slice ay2 ny2 cy2], blk bka6 43 [.slice ay1 ny1 cy1, .slice ayw1 nyw1 cyw1, .slice ayv1 nyv1 cyv1], RdR ndK ay1 ny1 Hy1 y1, RdR maK ayw1 nyw1 Hyw1 yw1, RdR maK ayv1 nyv1 Hyv1 yv1, blk bka2 56 [.int .i64 0, .slice none 0 0], blk bka1 43 [.slice none 0 0, .slice none 0 0, .slice none 0 0]]) (fun _ h => Sep.lend h 0 (y2.getD 0 []) (nth [] (by omega))) ?_
           refine oxI (zn := 0) 0 rfl el28 rfl rfl rfl rfl (by omega) (by omega) rfl ?_
           intro gk64 hgk64
           refine stoI (off := 0) (x := (((y2.getD 0 []).getD 0 0) + x62)) 0 rfl hgk64 Try.sizeOf2 (fun _ h => h.pick [4]) rfl rfl rfl rfl (by omega) ?_
           refine rPieces (L' := [OwnR maK 28 2 ay2 ny2 cy2 Hy2 ((y2.set 0 (((y2.getD 0 []).set 0 ((((y2.getD 0 []).getD 0 0) + x62)))))), blk bkl54 2 [.int .i64 (-1), .int .i64 1, .int .i64 60], srcP bk ca bs cc, blk bka9 56 [.int .i64 p, .slice ay2 ny2 cy2], blk bka6 43 [.slice ay1 ny1 cy1, .slice ayw1 nyw1 cyw1, .slice ayv1 nyv1 cyv1], RdR ndK ay1 ny1 Hy1 y1, RdR maK ayw1 nyw1 Hyw1 yw1, RdR maK ayv1 nyv1 Hyv1 yv1, blk bka2 56 [.int .i64 0, .slice none 0 0], blk bka1 43 [.slice none 0 0, .slice none 0 0, .slice none 0 0]]) (fun _ h => Sep.back (x := (y2.getD 0 [])) ((y2.getD 0 []).set 0 ((((y2.getD 0 []).getD 0 0) + x62))) maK.ok h (nth [] (by omega)) (fun h1 h2 => by dsimp only [ndK, ndC, maK] at h1 h2 ⊢; rw [h1, h2]) rfl rfl) ?_
           refine rNil ?_
           refine qSeq rfl ?_
           refine hSeq ?_
           refine hDraw (Ls := [blk bka9 56 [.int .i64 p, .slice ay2 ny2 cy2], blk bka6 43 [.slice ay1 ny1 cy1, .slice ayw1 nyw1 cyw1, .slice ayv1 nyv1 cyv1]]) (by kernel_rfl) (sq 0 (sq 1 (sl 2 (sf 3 sz)))) (by kernel_rfl) (.cons _ (.cons _ (.cons _ (.cons_cons _ (.cons_cons _ (.cons _ (.cons _ (.cons _ (.cons _ (.cons _ .slnil)))))))))) ?_
           refine ldAq Try.isAgg43 Try.sizeOf43 (cBs 1 rfl) rfl rfl rfl rfl ?_
           refine ldAq Try.isAgg56 Try.sizeOf56 (cBs 0 rfl) rfl rfl rfl rfl ?_
           refine stAl (vs := [.slice ay1 ny1 cy1, .slice ayw1 nyw1 cyw1, .slice ayv1 nyv1 cyv1]) 9 rfl Try.sizeOf43 (fun _ h => h.pick [3, 3]) rfl rfl rfl rfl rfl (by simp [Value.oneCell']) rfl ?_
           refine stAf (vs := [.int .i64 p, .slice ay2 ny2 cy2]) 8 rfl Try.sizeOf56 rfl rfl rfl rfl rfl (by simp [Value.oneCell']) rfl ?_
           refine rNil ?_
           refine qSeq rfl ?_
           refine hRet ?_
           exact fun w hs => ⟨[_, _], ⟨⟨_, rfl, run_load_agg Try.isAgg43 Try.sizeOf43 rfl (cBs 9 rfl w hs)⟩, ⟨⟨_, rfl, run_load_agg Try.isAgg56 Try.sizeOf56 rfl (cBs 8 rfl w hs)⟩, trivial⟩⟩, ⟨(ay1, ny1, cy1, Hy1, y1, ayw1, nyw1, cyw1, Hyw1, yw1, ayv1, nyv1, cyv1, Hyv1, yv1, p, ay2, ny2, cy2, Hy2, (y2.set 0 (((y2.getD 0 []).set 0 ((((y2.getD 0 []).getD 0 0) + x62)))))), rfl, ⟨⟨by dsimp only; omega, ⟨by dsimp only; omega, by dsimp only; omega⟩, by dsimp only; omega⟩, by dsimp only; omega, by dsimp only; omega⟩, hs.pick [2, 4, 4, 4, 0]⟩⟩
       ·
        refine rPieces (L' := [srcP bk ca bs cc, blk bkl54 2 [.int .i64 (-1), .int .i64 1, .int .i64 60], blk bka9 56 [.int .i64 p, .slice ay2 ny2 cy2], OwnR maK 28 2 ay2 ny2 cy2 Hy2 y2, blk bka6 43 [.slice ay1 ny1 cy1, .slice ayw1 nyw1 cyw1, .slice ayv1 nyv1 cyv1], RdR ndK ay1 ny1 Hy1 y1, RdR maK ayw1 nyw1 Hyw1 yw1, RdR maK ayv1 nyv1 Hyv1 yv1, blk bka2 56 [.int .i64 0, .slice none 0 0], blk bka1 43 [.slice none 0 0, .slice none 0 0, .slice none 0 0]]) (fun _ h => h.perm (pull (i := 1) rfl)) ?_
        refine callMK (α := Int) (Lf := [srcP bk ca bs cc, blk bkl54 2 [.int .i64 (-1), .int .i64 1, .int .i64 60]]) (Lr := [blk bka9 56 [.int .i64 p, .slice ay2 ny2 cy2], OwnR maK 28 2 ay2 ny2 cy2 Hy2 y2, blk bka6 43 [.slice ay1 ny1 cy1, .slice ayw1 nyw1 cyw1, .slice ayv1 nyv1 cyv1], RdR ndK ay1 ny1 Hy1 y1, RdR maK ayw1 nyw1 Hyw1 yw1, RdR maK ayv1 nyv1 Hyv1 yv1, blk bka2 56 [.int .i64 0, .slice none 0 0], blk bka1 43 [.slice none 0 0, .slice none 0 0, .slice none 0 0]]) (good := fun x => x ∈ ([.int .i64 (-1), .int .i64 1, .int .i64 60] : List Value).map toI) (φs := fun x => [srcP bk ca bs cc, blk bkl54 2 [.int .i64 (-1), .int .i64 1, .int .i64 60]]) (val := fun x => .int .i64 x) rfl Try.call155 (by exact (fun _ _ h => h.pick [2])) rfl rfl (fun w M1 hs hk => src_pick bk ca bs cc bkl54 2 3 3 [.int .i64 (-1), .int .i64 1, .int .i64 60] w M1 hs (hk _ kcode) hok rfl rfl (by decide)) ?_
        intro x65 hx65
        try dsimp only at hx65
        refine rPieces (L' := [srcP bk ca bs cc, blk bkl54 2 [.int .i64 (-1), .int .i64 1, .int .i64 60], blk bka9 56 [.int .i64 p, .slice ay2 ny2 cy2], OwnR maK 28 2 ay2 ny2 cy2 Hy2 y2, blk bka6 43 [.slice ay1 ny1 cy1, .slice ayw1 nyw1 cyw1, .slice ayv1 nyv1 cyv1], RdR ndK ay1 ny1 Hy1 y1, RdR maK ayw1 nyw1 Hyw1 yw1, RdR maK ayv1 nyv1 Hyv1 yv1, blk bka2 56 [.int .i64 0, .slice none 0 0], blk bka1 43 [.slice none 0 0, .slice none 0 0, .slice none 0 0]]) (fun _ h => h) ?_
        replace hx65 : (-1 : Int) ≤ x65 ∧ x65 ≤ (60 : Int) := by have hm_ := hx65; simp [toI] at hm_; omega
        refine rPieces (L' := [blk bkl54 2 [.int .i64 (-1), .int .i64 1, .int .i64 60], srcP bk ca bs cc, blk bka9 56 [.int .i64 p, .slice ay2 ny2 cy2], OwnR maK 28 2 ay2 ny2 cy2 Hy2 y2, blk bka6 43 [.slice ay1 ny1 cy1, .slice ayw1 nyw1 cyw1, .slice ayv1 nyv1 cyv1], RdR ndK ay1 ny1 Hy1 y1, RdR maK ayw1 nyw1 Hyw1 yw1, RdR maK ayv1 nyv1 Hyv1 yv1, blk bka2 56 [.int .i64 0, .slice none 0 0], blk bka1 43 [.slice none 0 0, .slice none 0 0, .slice none 0 0]]) (fun _ h => h.perm (pull (i := 1) rfl)) ?_
        refine rAlt ?_ ?_
        ·
         refine ldl Try.isAgg28 (Kn.drop (k := 1) (Kn.fld e4 0 rfl)) (fun _ h => h.pick [2]) rfl rfl rfl ?_
         refine ldl Try.isAgg28 (Kn.drop (k := 1) (Kn.fld e5 0 rfl)) (fun _ h => h.pick [2]) rfl rfl rfl ?_
         refine ixIl (zn := 0) el28 (Kn.drop (k := 1) ((Kn.imp ((Kn.at_ (φ := OwnR maK 28 2 ay2 ny2 cy2 Hy2 y2) 2 rfl).imp fun _ h => OwnR.rd h maK.ok) fun _ h => h.kidM (nth [] (by omega))))) rfl rfl rfl rfl (by omega) (by omega) rfl ?_
         intro ae66 e66
         refine ldl Try.isAgg2 (e66) (fun _ h => h.pick [2]) rfl rfl rfl ?_
         refine add rfl rfl rfl rfl (by omega) ?_
         refine rPieces (L' := [OwnR maK 28 2 ay2 ny2 cy2 Hy2 y2, blk bkl54 2 [.int .i64 (-1), .int .i64 1, .int .i64 60], srcP bk ca bs cc, blk bka9 56 [.int .i64 p, .slice ay2 ny2 cy2], blk bka6 43 [.slice ay1 ny1 cy1, .slice ayw1 nyw1 cyw1, .slice ayv1 nyv1 cyv1], RdR ndK ay1 ny1 Hy1 y1, RdR maK ayw1 nyw1 Hyw1 yw1, RdR maK ayv1 nyv1 Hyv1 yv1, blk bka2 56 [.int .i64 0, .slice none 0 0], blk bka1 43 [.slice none 0 0, .slice none 0 0, .slice none 0 0]]) (fun _ h => h.pick [3, 0, 0, 0, 0, 0, 0, 0, 0, 0]) ?_
         refine rPieces (L' := [OwnI 2 ((Hy2 0).1) ((y2.getD 0 []).length) ((Hy2 0).2) (y2.getD 0 []), OwnH maK 28 2 ay2 ny2 cy2 Hy2 y2 0, blk bkl54 2 [.int .i64 (-1), .int .i64 1, .int .i64 60], srcP bk ca bs cc, blk bka9 56 [.int .i64 p, .slice ay2 ny2 cy2], blk bka6 43 [.slice ay1 ny1 cy1, .slice ayw1 nyw1 cyw1, .slice ayv1 nyv1 cyv1], RdR ndK ay1 ny1 Hy1 y1, RdR maK ayw1 nyw1 Hyw1 yw1, RdR maK ayv1 nyv1 Hyv1 yv1, blk bka2 56 [.int .i64 0, .slice none 0 0], blk bka1 43 [.slice none 0 0, .slice none 0 0, .slice none 0 0]]) (fun _ h => Sep.lend h 0 (y2.getD 0 []) (nth [] (by omega))) ?_
         refine oxI (zn := 0) 0 rfl el28 rfl rfl rfl rfl (by omega) (by omega) rfl ?_
         intro gk67 hgk67
         refine stoI (off := 0) (x := (((y2.getD 0 []).getD 0 0) + x65)) 0 rfl hgk67 Try.sizeOf2 (fun _ h => h.pick [4]) rfl rfl rfl rfl (by omega) ?_
         refine rPieces (L' := [OwnR maK 28 2 ay2 ny2 cy2 Hy2 ((y2.set 0 (((y2.getD 0 []).set 0 ((((y2.getD 0 []).getD 0 0) + x65)))))), blk bkl54 2 [.int .i64 (-1), .int .i64 1, .int .i64 60], srcP bk ca bs cc, blk bka9 56 [.int .i64 p, .slice ay2 ny2 cy2], blk bka6 43 [.slice ay1 ny1 cy1, .slice ayw1 nyw1 cyw1, .slice ayv1 nyv1 cyv1], RdR ndK ay1 ny1 Hy1 y1, RdR maK ayw1 nyw1 Hyw1 yw1, RdR maK ayv1 nyv1 Hyv1 yv1, blk bka2 56 [.int .i64 0, .slice none 0 0], blk bka1 43 [.slice none 0 0, .slice none 0 0, .slice none 0 0]]) (fun _ h => Sep.back (x := (y2.getD 0 [])) ((y2.getD 0 []).set 0 ((((y2.getD 0 []).getD 0 0) + x65))) maK.ok h (nth [] (by omega)) (fun h1 h2 => by dsimp only [ndK, ndC, maK] at h1 h2 ⊢; rw [h1, h2]) rfl rfl) ?_
         refine rNil ?_
         refine qSeq rfl ?_
         refine hSeq ?_
         refine hDraw (Ls := [blk bka9 56 [.int .i64 p, .slice ay2 ny2 cy2], blk bka6 43 [.slice ay1 ny1 cy1, .slice ayw1 nyw1 cyw1, .slice ayv1 nyv1 cyv1]]) (by kernel_rfl) (sq 0 (sq 1 (sl 2 (sf 3 sz)))) (by kernel_rfl) (.cons _ (.cons _ (.cons _ (.cons_cons _ (.cons_cons _ (.cons _ (.cons _ (.cons _ (.cons _ (.cons _ .slnil)))))))))) ?_
         refine ldAq Try.isAgg43 Try.sizeOf43 (cBs 1 rfl) rfl rfl rfl rfl ?_
         refine ldAq Try.isAgg56 Try.sizeOf56 (cBs 0 rfl) rfl rfl rfl rfl ?_
         refine stAl (vs := [.slice ay1 ny1 cy1, .slice ayw1 nyw1 cyw1, .slice ayv1 nyv1 cyv1]) 9 rfl Try.sizeOf43 (fun _ h => h.pick [3, 3]) rfl rfl rfl rfl rfl (by simp [Value.oneCell']) rfl ?_
         refine stAf (vs := [.int .i64 p, .slice ay2 ny2 cy2]) 8 rfl Try.sizeOf56 rfl rfl rfl rfl rfl (by simp [Value.oneCell']) rfl ?_
         refine rNil ?_
         refine qSeq rfl ?_
         refine hRet ?_
         exact fun w hs => ⟨[_, _], ⟨⟨_, rfl, run_load_agg Try.isAgg43 Try.sizeOf43 rfl (cBs 9 rfl w hs)⟩, ⟨⟨_, rfl, run_load_agg Try.isAgg56 Try.sizeOf56 rfl (cBs 8 rfl w hs)⟩, trivial⟩⟩, ⟨(ay1, ny1, cy1, Hy1, y1, ayw1, nyw1, cyw1, Hyw1, yw1, ayv1, nyv1, cyv1, Hyv1, yv1, p, ay2, ny2, cy2, Hy2, (y2.set 0 (((y2.getD 0 []).set 0 ((((y2.getD 0 []).getD 0 0) + x65)))))), rfl, ⟨⟨by dsimp only; omega, ⟨by dsimp only; omega, by dsimp only; omega⟩, by dsimp only; omega⟩, by dsimp only; omega, by dsimp only; omega⟩, hs.pick [2, 4, 4, 4, 0]⟩⟩
        ·
         refine ldl Try.isAgg28 (Kn.drop (k := 1) (Kn.fld e5 0 rfl)) (fun _ h => h.pick [2]) rfl rfl rfl ?_
         refine ixIl (zn := 0) el28 (Kn.drop (k := 1) ((Kn.imp ((Kn.at_ (φ := OwnR maK 28 2 ay2 ny2 cy2 Hy2 y2) 2 rfl).imp fun _ h => OwnR.rd h maK.ok) fun _ h => h.kidM (nth [] (by omega))))) rfl rfl rfl rfl (by omega) (by omega) rfl ?_
         intro ae68 e68
         refine rAlt ?_ ?_
         ·
          refine ldl Try.isAgg28 (Kn.drop (k := 1) (Kn.fld e4 0 rfl)) (fun _ h => h.pick [2]) rfl rfl rfl ?_
          refine ldl Try.isAgg2 (e68) (fun _ h => h.pick [2]) rfl rfl rfl ?_
          refine add rfl rfl rfl rfl (by omega) ?_
          refine rPieces (L' := [OwnR maK 28 2 ay2 ny2 cy2 Hy2 y2, blk bkl54 2 [.int .i64 (-1), .int .i64 1, .int .i64 60], srcP bk ca bs cc, blk bka9 56 [.int .i64 p, .slice ay2 ny2 cy2], blk bka6 43 [.slice ay1 ny1 cy1, .slice ayw1 nyw1 cyw1, .slice ayv1 nyv1 cyv1], RdR ndK ay1 ny1 Hy1 y1, RdR maK ayw1 nyw1 Hyw1 yw1, RdR maK ayv1 nyv1 Hyv1 yv1, blk bka2 56 [.int .i64 0, .slice none 0 0], blk bka1 43 [.slice none 0 0, .slice none 0 0, .slice none 0 0]]) (fun _ h => h.pick [3, 0, 0, 0, 0, 0, 0, 0, 0, 0]) ?_
          refine rPieces (L' := [OwnI 2 ((Hy2 0).1) ((y2.getD 0 []).length) ((Hy2 0).2) (y2.getD 0 []), OwnH maK 28 2 ay2 ny2 cy2 Hy2 y2 0, blk bkl54 2 [.int .i64 (-1), .int .i64 1, .int .i64 60], srcP bk ca bs cc, blk bka9 56 [.int .i64 p, .slice ay2 ny2 cy2], blk bka6 43 [.slice ay1 ny1 cy1, .slice ayw1 nyw1 cyw1, .slice ayv1 nyv1 cyv1], RdR ndK ay1 ny1 Hy1 y1, RdR maK ayw1 nyw1 Hyw1 yw1, RdR maK ayv1 nyv1 Hyv1 yv1, blk bka2 56 [.int .i64 0, .slice none 0 0], blk bka1 43 [.slice none 0 0, .slice none 0 0, .slice none 0 0]]) (fun _ h => Sep.lend h 0 (y2.getD 0 []) (nth [] (by omega))) ?_
          refine oxI (zn := 0) 0 rfl el28 rfl rfl rfl rfl (by omega) (by omega) rfl ?_
          intro gk69 hgk69
          refine stoI (off := 0) (x := (((y2.getD 0 []).getD 0 0) + x65)) 0 rfl hgk69 Try.sizeOf2 (fun _ h => h.pick [4]) rfl rfl rfl rfl (by omega) ?_
          refine rPieces (L' := [OwnR maK 28 2 ay2 ny2 cy2 Hy2 ((y2.set 0 (((y2.getD 0 []).set 0 ((((y2.getD 0 []).getD 0 0) + x65)))))), blk bkl54 2 [.int .i64 (-1), .int .i64 1, .int .i64 60], srcP bk ca bs cc, blk bka9 56 [.int .i64 p, .slice ay2 ny2 cy2], blk bka6 43 [.slice ay1 ny1 cy1, .slice ayw1 nyw1 cyw1, .slice ayv1 nyv1 cyv1], RdR ndK ay1 ny1 Hy1 y1, RdR maK ayw1 nyw1 Hyw1 yw1, RdR maK ayv1 nyv1 Hyv1 yv1, blk bka2 56 [.int .i64 0, .slice none 0 0], blk bka1 43 [.slice none 0 0, .slice none 0 0, .slice none 0 0]]) (fun _ h => Sep.back (x := (y2.getD 0 [])) ((y2.getD 0 []).set 0 ((((y2.getD 0 []).getD 0 0) + x65))) maK.ok h (nth [] (by omega)) (fun h1 h2 => by dsimp only [ndK, ndC, maK] at h1 h2 ⊢; rw [h1, h2]) rfl rfl) ?_
          refine rNil ?_
          refine qSeq rfl ?_
          refine hSeq ?_
          refine hDraw (Ls := [blk bka9 56 [.int .i64 p, .slice ay2 ny2 cy2], blk bka6 43 [.slice ay1 ny1 cy1, .slice ayw1 nyw1 cyw1, .slice ayv1 nyv1 cyv1]]) (by kernel_rfl) (sq 0 (sq 1 (sl 2 (sf 3 sz)))) (by kernel_rfl) (.cons _ (.cons _ (.cons _ (.cons_cons _ (.cons_cons _ (.cons _ (.cons _ (.cons _ (.cons _ (.cons _ .slnil)))))))))) ?_
          refine ldAq Try.isAgg43 Try.sizeOf43 (cBs 1 rfl) rfl rfl rfl rfl ?_
          refine ldAq Try.isAgg56 Try.sizeOf56 (cBs 0 rfl) rfl rfl rfl rfl ?_
          refine stAl (vs := [.slice ay1 ny1 cy1, .slice ayw1 nyw1 cyw1, .slice ayv1 nyv1 cyv1]) 9 rfl Try.sizeOf43 (fun _ h => h.pick [3, 3]) rfl rfl rfl rfl rfl (by simp [Value.oneCell']) rfl ?_
          refine stAf (vs := [.int .i64 p, .slice ay2 ny2 cy2]) 8 rfl Try.sizeOf56 rfl rfl rfl rfl rfl (by simp [Value.oneCell']) rfl ?_
          refine rNil ?_
          refine qSeq rfl ?_
          refine hRet ?_
          exact fun w hs => ⟨[_, _], ⟨⟨_, rfl, run_load_agg Try.isAgg43 Try.sizeOf43 rfl (cBs 9 rfl w hs)⟩, ⟨⟨_, rfl, run_load_agg Try.isAgg56 Try.sizeOf56 rfl (cBs 8 rfl w hs)⟩, trivial⟩⟩, ⟨(ay1, ny1, cy1, Hy1, y1, ayw1, nyw1, cyw1, Hyw1, yw1, ayv1, nyv1, cyv1, Hyv1, yv1, p, ay2, ny2, cy2, Hy2, (y2.set 0 (((y2.getD 0 []).set 0 ((((y2.getD 0 []).getD 0 0) + x65)))))), rfl, ⟨⟨by dsimp only; omega, ⟨by dsimp only; omega, by dsimp only; omega⟩, by dsimp only; omega⟩, by dsimp only; omega, by dsimp only; omega⟩, hs.pick [2, 4, 4, 4, 0]⟩⟩
         ·
          refine ldl Try.isAgg2 (e68) (fun _ h => h.pick [2]) rfl rfl rfl ?_
          refine add rfl rfl rfl rfl (by omega) ?_
          refine ldl Try.isAgg28 (Kn.drop (k := 1) (Kn.fld e4 0 rfl)) (fun _ h => h.pick [2]) rfl rfl rfl ?_
          refine rPieces (L' := [OwnR maK 28 2 ay2 ny2 cy2 Hy2 y2, blk bkl54 2 [.int .i64 (-1), .int .i64 1, .int .i64 60], srcP bk ca bs cc, blk bka9 56 [.int .i64 p, .slice ay2 ny2 cy2], blk bka6 43 [.slice ay1 ny1 cy1, .slice ayw1 nyw1 cyw1, .slice ayv1 nyv1 cyv1], RdR ndK ay1 ny1 Hy1 y1, RdR maK ayw1 nyw1 Hyw1 yw1, RdR maK ayv1 nyv1 Hyv1 yv1, blk bka2 56 [.int .i64 0, .slice none 0 0], blk bka1 43 [.slice none 0 0, .slice none 0 0, .slice none 0 0]]) (fun _ h => h.pick [3, 0, 0, 0, 0, 0, 0, 0, 0, 0]) ?_
          refine rPieces (L' := [OwnI 2 ((Hy2 0).1) ((y2.getD 0 []).length) ((Hy2 0).2) (y2.getD 0 []), OwnH maK 28 2 ay2 ny2 cy2 Hy2 y2 0, blk bkl54 2 [.int .i64 (-1), .int .i64 1, .int .i64 60], srcP bk ca bs cc, blk bka9 56 [.int .i64 p, .slice ay2 ny2 cy2], blk bka6 43 [.slice ay1 ny1 cy1, .slice ayw1 nyw1 cyw1, .slice ayv1 nyv1 cyv1], RdR ndK ay1 ny1 Hy1 y1, RdR maK ayw1 nyw1 Hyw1 yw1, RdR maK ayv1 nyv1 Hyv1 yv1, blk bka2 56 [.int .i64 0, .slice none 0 0], blk bka1 43 [.slice none 0 0, .slice none 0 0, .slice none 0 0]]) (fun _ h => Sep.lend h 0 (y2.getD 0 []) (nth [] (by omega))) ?_
          refine oxI (zn := 0) 0 rfl el28 rfl rfl rfl rfl (by omega) (by omega) rfl ?_
          intro gk70 hgk70
          refine stoI (off := 0) (x := (((y2.getD 0 []).getD 0 0) + x65)) 0 rfl hgk70 Try.sizeOf2 (fun _ h => h.pick [4]) rfl rfl rfl rfl (by omega) ?_
          refine rPieces (L' := [OwnR maK 28 2 ay2 ny2 cy2 Hy2 ((y2.set 0 (((y2.getD 0 []).set 0 ((((y2.getD 0 []).getD 0 0) + x65)))))), blk bkl54 2 [.int .i64 (-1), .int .i64 1, .int .i64 60], srcP bk ca bs cc, blk bka9 56 [.int .i64 p, .slice ay2 ny2 cy2], blk bka6 43 [.slice ay1 ny1 cy1, .slice ayw1 nyw1 cyw1, .slice ayv1 nyv1 cyv1], RdR ndK ay1 ny1 Hy1 y1, RdR maK ayw1 nyw1 Hyw1 yw1, RdR maK ayv1 nyv1 Hyv1 yv1, blk bka2 56 [.int .i64 0, .slice none 0 0], blk bka1 43 [.slice none 0 0, .slice none 0 0, .slice none 0 0]]) (fun _ h => Sep.back (x := (y2.getD 0 [])) ((y2.getD 0 []).set 0 ((((y2.getD 0 []).getD 0 0) + x65))) maK.ok h (nth [] (by omega)) (fun h1 h2 => by dsimp only [ndK, ndC, maK] at h1 h2 ⊢; rw [h1, h2]) rfl rfl) ?_
          refine rNil ?_
          refine qSeq rfl ?_
          refine hSeq ?_
          refine hDraw (Ls := [blk bka9 56 [.int .i64 p, .slice ay2 ny2 cy2], blk bka6 43 [.slice ay1 ny1 cy1, .slice ayw1 nyw1 cyw1, .slice ayv1 nyv1 cyv1]]) (by kernel_rfl) (sq 0 (sq 1 (sl 2 (sf 3 sz)))) (by kernel_rfl) (.cons _ (.cons _ (.cons _ (.cons_cons _ (.cons_cons _ (.cons _ (.cons _ (.cons _ (.cons _ (.cons _ .slnil)))))))))) ?_
          refine ldAq Try.isAgg43 Try.sizeOf43 (cBs 1 rfl) rfl rfl rfl rfl ?_
          refine ldAq Try.isAgg56 Try.sizeOf56 (cBs 0 rfl) rfl rfl rfl rfl ?_
          refine stAl (vs := [.slice ay1 ny1 cy1, .slice ayw1 nyw1 cyw1, .slice ayv1 nyv1 cyv1]) 9 rfl Try.sizeOf43 (fun _ h => h.pick [3, 3]) rfl rfl rfl rfl rfl (by simp [Value.oneCell']) rfl ?_
          refine stAf (vs := [.int .i64 p, .slice ay2 ny2 cy2]) 8 rfl Try.sizeOf56 rfl rfl rfl rfl rfl (by simp [Value.oneCell']) rfl ?_
          refine rNil ?_
          refine qSeq rfl ?_
          refine hRet ?_
          exact fun w hs => ⟨[_, _], ⟨⟨_, rfl, run_load_agg Try.isAgg43 Try.sizeOf43 rfl (cBs 9 rfl w hs)⟩, ⟨⟨_, rfl, run_load_agg Try.isAgg56 Try.sizeOf56 rfl (cBs 8 rfl w hs)⟩, trivial⟩⟩, ⟨(ay1, ny1, cy1, Hy1, y1, ayw1, nyw1, cyw1, Hyw1, yw1, ayv1, nyv1, cyv1, Hyv1, yv1, p, ay2, ny2, cy2, Hy2, (y2.set 0 (((y2.getD 0 []).set 0 ((((y2.getD 0 []).getD 0 0) + x65)))))), rfl, ⟨⟨by dsimp only; omega, ⟨by dsimp only; omega, by dsimp only; omega⟩, by dsimp only; omega⟩, by dsimp only; omega, by dsimp only; omega⟩, hs.pick [2, 4, 4, 4, 0]⟩⟩
   ·
    replace c3 : ¬ (0 < (ny2 : Int)) := c3
    refine hSkip ?_
    refine qSeq rfl ?_
    refine hSeq ?_
    refine hDraw (Ls := [blk bka9 56 [.int .i64 p, .slice ay2 ny2 cy2], blk bka6 43 [.slice ay1 ny1 cy1, .slice ayw1 nyw1 cyw1, .slice ayv1 nyv1 cyv1]]) (by kernel_rfl) (sq 0 (sq 1 (sl 2 (sf 3 sz)))) (by kernel_rfl) (.cons _ (.cons_cons _ (.cons _ (.cons_cons _ (.cons _ (.cons _ (.cons _ (.cons _ (.cons _ .slnil))))))))) ?_
    refine ldAq Try.isAgg43 Try.sizeOf43 (cBs 1 rfl) rfl rfl rfl rfl ?_
    refine ldAq Try.isAgg56 Try.sizeOf56 (cBs 0 rfl) rfl rfl rfl rfl ?_
    refine stAl (vs := [.slice ay1 ny1 cy1, .slice ayw1 nyw1 cyw1, .slice ayv1 nyv1 cyv1]) 8 rfl Try.sizeOf43 (fun _ h => h.pick [1, 2]) rfl rfl rfl rfl rfl (by simp [Value.oneCell']) rfl ?_
    refine stAf (vs := [.int .i64 p, .slice ay2 ny2 cy2]) 7 rfl Try.sizeOf56 rfl rfl rfl rfl rfl (by simp [Value.oneCell']) rfl ?_
    refine rNil ?_
    refine qSeq rfl ?_
    refine hRet ?_
    exact fun w hs => ⟨[_, _], ⟨⟨_, rfl, run_load_agg Try.isAgg43 Try.sizeOf43 rfl (cBs 8 rfl w hs)⟩, ⟨⟨_, rfl, run_load_agg Try.isAgg56 Try.sizeOf56 rfl (cBs 7 rfl w hs)⟩, trivial⟩⟩, ⟨(ay1, ny1, cy1, Hy1, y1, ayw1, nyw1, cyw1, Hyw1, yw1, ayv1, nyv1, cyv1, Hyv1, yv1, p, ay2, ny2, cy2, Hy2, y2), rfl, ⟨⟨by dsimp only; omega, ⟨by dsimp only; omega, by dsimp only; omega⟩, by dsimp only; omega⟩, by dsimp only; omega, by dsimp only; omega⟩, hs.pick [0, 3, 3, 3, 1]⟩⟩
  ·
   replace c2 : ¬ (x3 = 0) := c2
   refine hSeq ?_
   refine hReg (sq 0 (sq 1 sz)) (by kernel_rfl) ?_
   refine eql rfl rfl rfl rfl ?_
   refine asB rfl rfl rfl ?_
   refine rNil ?_
   refine qSeq rfl ?_
   refine hIfD rfl (fun c4 => ?_) (fun c4 => ?_)
   ·
    replace c4 : x3 = 1 := c4
    refine hReg (sq 0 (sq 1 (sq 2 (sl 3 (sl 4 (sq 5 (sl 6 sz))))))) (by kernel_rfl) ?_
    refine mvP rfl rfl rfl ?_
    refine mvI rfl rfl rfl ?_
    refine sub rfl rfl rfl rfl (by omega) ?_
    refine bsl trv1 rfl rfl rfl (bsl28_3 (.int .i64 _) (.int .i64 _) (.int .i64 _) rfl rfl rfl) (fun bkl79 hbkl79 => ?_)
    refine rPieces (L' := [srcP bk ca bs cc, blk bkl79 2 [.int .i64 (-1), .int .i64 (1 - p), .int .i64 2], blk bka9 56 [.int .i64 p, .slice ay2 ny2 cy2], OwnR maK 28 2 ay2 ny2 cy2 Hy2 y2, blk bka6 43 [.slice ay1 ny1 cy1, .slice ayw1 nyw1 cyw1, .slice ayv1 nyv1 cyv1], RdR ndK ay1 ny1 Hy1 y1, RdR maK ayw1 nyw1 Hyw1 yw1, RdR maK ayv1 nyv1 Hyv1 yv1, blk bka2 56 [.int .i64 0, .slice none 0 0], blk bka1 43 [.slice none 0 0, .slice none 0 0, .slice none 0 0]]) (fun _ h => h.perm (pull (i := 1) rfl)) ?_
    refine callMK (α := Int) (Lf := [srcP bk ca bs cc, blk bkl79 2 [.int .i64 (-1), .int .i64 (1 - p), .int .i64 2]]) (Lr := [blk bka9 56 [.int .i64 p, .slice ay2 ny2 cy2], OwnR maK 28 2 ay2 ny2 cy2 Hy2 y2, blk bka6 43 [.slice ay1 ny1 cy1, .slice ayw1 nyw1 cyw1, .slice ayv1 nyv1 cyv1], RdR ndK ay1 ny1 Hy1 y1, RdR maK ayw1 nyw1 Hyw1 yw1, RdR maK ayv1 nyv1 Hyv1 yv1, blk bka2 56 [.int .i64 0, .slice none 0 0], blk bka1 43 [.slice none 0 0, .slice none 0 0, .slice none 0 0]]) (good := fun x => x ∈ ([.int .i64 (-1), .int .i64 (1 - p), .int .i64 2] : List Value).map toI) (φs := fun x => [srcP bk ca bs cc, blk bkl79 2 [.int .i64 (-1), .int .i64 (1 - p), .int .i64 2]]) (val := fun x => .int .i64 x) rfl Try.call155 trv1 rfl rfl (fun w M1 hs hk => src_pick bk ca bs cc bkl79 2 3 3 [.int .i64 (-1), .int .i64 (1 - p), .int .i64 2] w M1 hs (hk _ kcode) hok rfl rfl (by decide)) ?_
    intro x71 hx71
    try dsimp only at hx71
    refine rPieces (L' := [srcP bk ca bs cc, blk bkl79 2 [.int .i64 (-1), .int .i64 (1 - p), .int .i64 2], blk bka9 56 [.int .i64 p, .slice ay2 ny2 cy2], OwnR maK 28 2 ay2 ny2 cy2 Hy2 y2, blk bka6 43 [.slice ay1 ny1 cy1, .slice ayw1 nyw1 cyw1, .slice ayv1 nyv1 cyv1], RdR ndK ay1 ny1 Hy1 y1, RdR maK ayw1 nyw1 Hyw1 yw1, RdR maK ayv1 nyv1 Hyv1 yv1, blk bka2 56 [.int .i64 0, .slice none 0 0], blk bka1 43 [.slice none 0 0, .slice none 0 0, .slice none 0 0]]) (fun _ h => h) ?_
    replace hx71 : x71 = (-1) ∨ x71 = (1 - p) ∨ x71 = 2 := by simpa [toI] using hx71
    refine fld fl56_0 rfl rfl rfl ?_
    refine stl (v := .int .i64 _) 2 rfl Try.sizeOf2 trv rfl rfl rfl rfl rfl (Nat.le_of_ble_eq_true rfl) ?_
    refine rNil ?_
    refine qSeq rfl ?_
    refine hSeq ?_
    refine hDraw (Ls := [blk bka9 56 [.int .i64 x71, .slice ay2 ny2 cy2], blk bka6 43 [.slice ay1 ny1 cy1, .slice ayw1 nyw1 cyw1, .slice ayv1 nyv1 cyv1]]) (by kernel_rfl) (sq 0 (sq 1 (sl 2 (sf 3 sz)))) (by kernel_rfl) (.cons _ (.cons _ (.cons_cons _ (.cons _ (.cons_cons _ (.cons _ (.cons _ (.cons _ (.cons _ (.cons _ .slnil)))))))))) ?_
    refine ldAq Try.isAgg43 Try.sizeOf43 (cBs 1 rfl) rfl rfl rfl rfl ?_
    refine ldAq Try.isAgg56 Try.sizeOf56 (cBs 0 rfl) rfl rfl rfl rfl ?_
    refine stAl (vs := [.slice ay1 ny1 cy1, .slice ayw1 nyw1 cyw1, .slice ayv1 nyv1 cyv1]) 9 rfl Try.sizeOf43 (fun _ h => h.pick [2, 3]) rfl rfl rfl rfl rfl (by simp [Value.oneCell']) rfl ?_
    refine stAf (vs := [.int .i64 x71, .slice ay2 ny2 cy2]) 8 rfl Try.sizeOf56 rfl rfl rfl rfl rfl (by simp [Value.oneCell']) rfl ?_
    refine rNil ?_
    refine qSeq rfl ?_
    refine hRet ?_
    exact fun w hs => ⟨[_, _], ⟨⟨_, rfl, run_load_agg Try.isAgg43 Try.sizeOf43 rfl (cBs 9 rfl w hs)⟩, ⟨⟨_, rfl, run_load_agg Try.isAgg56 Try.sizeOf56 rfl (cBs 8 rfl w hs)⟩, trivial⟩⟩, ⟨(ay1, ny1, cy1, Hy1, y1, ayw1, nyw1, cyw1, Hyw1, yw1, ayv1, nyv1, cyv1, Hyv1, yv1, x71, ay2, ny2, cy2, Hy2, y2), rfl, ⟨⟨by dsimp only; omega, ⟨by dsimp only; omega, by dsimp only; omega⟩, by dsimp only; omega⟩, by dsimp only; omega, by dsimp only; omega⟩, hs.pick [0, 4, 4, 4, 2]⟩⟩
   ·
    replace c4 : ¬ (x3 = 1) := c4
    refine hSeq ?_
    refine hReg (sq 0 (sq 1 sz)) (by kernel_rfl) ?_
    refine eql rfl rfl rfl rfl ?_
    refine asB rfl rfl rfl ?_
    refine rNil ?_
    refine qSeq rfl ?_
    refine hIfD rfl (fun c5 => ?_) (fun c5 => ?_)
    ·
     replace c5 : x3 = 2 := c5
     refine hReg (sq 0 (sl 1 (sl 2 (sl 3 (sl 4 (sq 5 (sl 6 sz))))))) (by kernel_rfl) ?_
     refine fld fl56_1 rfl rfl rfl ?_
     refine ldl Try.isAgg41 (cB 1 rfl rfl) trv rfl rfl rfl ?_
     refine bsl trv1 rfl rfl rfl (bsl28_1 (.int .i64 _) rfl) (fun bkl80 hbkl80 => ?_)
     refine bsl trv1 rfl rfl rfl (bsl41_1 (.slice _ _ _) rfl) (fun bkl81 hbkl81 => ?_)
     refine rPieces (fun _ h => Sep.litI h 1 [60] rfl rfl rfl) ?_
     refine apR (hd := ((some ⟨bkl80, 0, none⟩), 1)) (x := [60]) 4 1 0 maK.ok rfl rfl rfl (fun h => by first | rfl | (dsimp only at h; rw [h]; rfl) | (rw [h]; rfl) | exact congrArg (fun m => [Value.slice _ m _]) h) mk41 trv1 rfl rfl rfl rfl (by omega) ?_
     intro aq72 cq72
     refine fld fl56_1 rfl rfl rfl ?_
     refine stl (v := .slice _ _ _) 3 rfl Try.sizeOf41 trv rfl rfl rfl rfl rfl (Nat.le_of_ble_eq_true rfl) ?_
     refine rNil ?_
     refine qSeq rfl ?_
     refine hSeq ?_
     refine hDraw (Ls := [blk bka9 56 [.int .i64 p, .slice aq72 (ny2 + 1) cq72], blk bka6 43 [.slice ay1 ny1 cy1, .slice ayw1 nyw1 cyw1, .slice ayv1 nyv1 cyv1]]) (by kernel_rfl) (sq 0 (sq 1 (sl 2 (sf 3 sz)))) (by kernel_rfl) (.cons _ (.cons _ (.cons _ (.cons_cons _ (.cons_cons _ (.cons _ (.cons _ (.cons _ (.cons _ (.cons _ .slnil)))))))))) ?_
     refine ldAq Try.isAgg43 Try.sizeOf43 (cBs 1 rfl) rfl rfl rfl rfl ?_
     refine ldAq Try.isAgg56 Try.sizeOf56 (cBs 0 rfl) rfl rfl rfl rfl ?_
     refine stAl (vs := [.slice ay1 ny1 cy1, .slice ayw1 nyw1 cyw1, .slice ayv1 nyv1 cyv1]) 9 rfl Try.sizeOf43 (fun _ h => h.pick [3, 3]) rfl rfl rfl rfl rfl (by simp [Value.oneCell']) rfl ?_
     refine stAf (vs := [.int .i64 p, .slice aq72 (ny2 + 1) cq72]) 8 rfl Try.sizeOf56 rfl rfl rfl rfl rfl (by simp [Value.oneCell']) rfl ?_
     refine rNil ?_
     refine qSeq rfl ?_
     refine hRet ?_
     exact fun w hs => ⟨[_, _], ⟨⟨_, rfl, run_load_agg Try.isAgg43 Try.sizeOf43 rfl (cBs 9 rfl w hs)⟩, ⟨⟨_, rfl, run_load_agg Try.isAgg56 Try.sizeOf56 rfl (cBs 8 rfl w hs)⟩, trivial⟩⟩, ⟨(ay1, ny1, cy1, Hy1, y1, ayw1, nyw1, cyw1, Hyw1, yw1, ayv1, nyv1, cyv1, Hyv1, yv1, p, aq72, (ny2 + 1), cq72, (hset Hy2 y2.length ((some ⟨bkl80, 0, none⟩), 1)), (y2 ++ [[60]])), rfl, ⟨⟨by dsimp only; omega, ⟨by dsimp only; omega, by dsimp only; omega⟩, by dsimp only; omega⟩, by dsimp only; omega, by dsimp only; omega⟩, hs.pick [2, 4, 4, 4, 0]⟩⟩
    ·
     replace c5 : ¬ (x3 = 2) := c5
     refine hSkip ?_
     refine qSeq rfl ?_
     refine hSeq ?_
     refine hDraw (Ls := [blk bka9 56 [.int .i64 p, .slice ay2 ny2 cy2], blk bka6 43 [.slice ay1 ny1 cy1, .slice ayw1 nyw1 cyw1, .slice ayv1 nyv1 cyv1]]) (by kernel_rfl) (sq 0 (sq 1 (sl 2 (sf 3 sz)))) (by kernel_rfl) (.cons _ (.cons_cons _ (.cons _ (.cons_cons _ (.cons _ (.cons _ (.cons _ (.cons _ (.cons _ .slnil))))))))) ?_
     refine ldAq Try.isAgg43 Try.sizeOf43 (cBs 1 rfl) rfl rfl rfl rfl ?_
     refine ldAq Try.isAgg56 Try.sizeOf56 (cBs 0 rfl) rfl rfl rfl rfl ?_
     refine stAl (vs := [.slice ay1 ny1 cy1, .slice ayw1 nyw1 cyw1, .slice ayv1 nyv1 cyv1]) 8 rfl Try.sizeOf43 (fun _ h => h.pick [1, 2]) rfl rfl rfl rfl rfl (by simp [Value.oneCell']) rfl ?_
     refine stAf (vs := [.int .i64 p, .slice ay2 ny2 cy2]) 7 rfl Try.sizeOf56 rfl rfl rfl rfl rfl (by simp [Value.oneCell']) rfl ?_
     refine rNil ?_
     refine qSeq rfl ?_
     refine hRet ?_
     exact fun w hs => ⟨[_, _], ⟨⟨_, rfl, run_load_agg Try.isAgg43 Try.sizeOf43 rfl (cBs 8 rfl w hs)⟩, ⟨⟨_, rfl, run_load_agg Try.isAgg56 Try.sizeOf56 rfl (cBs 7 rfl w hs)⟩, trivial⟩⟩, ⟨(ay1, ny1, cy1, Hy1, y1, ayw1, nyw1, cyw1, Hyw1, yw1, ayv1, nyv1, cyv1, Hyv1, yv1, p, ay2, ny2, cy2, Hy2, y2), rfl, ⟨⟨by dsimp only; omega, ⟨by dsimp only; omega, by dsimp only; omega⟩, by dsimp only; omega⟩, by dsimp only; omega, by dsimp only; omega⟩, hs.pick [0, 3, 3, 3, 1]⟩⟩
set_option maxHeartbeats 4000000 in
theorem spec_l23Draw_c (bk : Nat) (ca : Option Addr) (bs : List Int) (cc : Nat) (w : World) (M0 : Nat → Prop) (hs0 : Sep w M0 [srcP bk ca bs cc] w) (kcode : Kn w M0 [] (CellsAt ca (bs.map (Value.int .u8)))) (hok : okBytes bs) :
  Calls Try.prog 141 #[.pointer (some ⟨bk, 0, none⟩)] w (Ret fun v w' => ∃ x : Option Addr × Nat × Nat × (Nat → Hd) × List Nd × Option Addr × Nat × Nat × (Nat → Hd) × List (List Int) × Option Addr × Nat × Nat × (Nat → Hd) × List (List Int) × Int × Option Addr × Nat × Nat × (Nat → Hd) × List (List Int) × Int × Option Addr × Nat × Nat × (Nat → Hd) × List (List Int), v = .tuple #[.agg #[.slice x.1 x.2.1 x.2.2.1, .slice x.2.2.2.2.2.1 x.2.2.2.2.2.2.1 x.2.2.2.2.2.2.2.1, .slice x.2.2.2.2.2.2.2.2.2.2.1 x.2.2.2.2.2.2.2.2.2.2.2.1 x.2.2.2.2.2.2.2.2.2.2.2.2.1], .agg #[.int .i64 x.2.2.2.2.2.2.2.2.2.2.2.2.2.2.2.1, .slice x.2.2.2.2.2.2.2.2.2.2.2.2.2.2.2.2.1 x.2.2.2.2.2.2.2.2.2.2.2.2.2.2.2.2.2.1 x.2.2.2.2.2.2.2.2.2.2.2.2.2.2.2.2.2.2.1], .agg #[.int .i64 x.2.2.2.2.2.2.2.2.2.2.2.2.2.2.2.2.2.2.2.2.2.1, .slice x.2.2.2.2.2.2.2.2.2.2.2.2.2.2.2.2.2.2.2.2.2.2.1 x.2.2.2.2.2.2.2.2.2.2.2.2.2.2.2.2.2.2.2.2.2.2.2.1 x.2.2.2.2.2.2.2.2.2.2.2.2.2.2.2.2.2.2.2.2.2.2.2.2.1]] ∧ ((x.2.1 ≤ 250 ∧ ((1 ≤ x.2.2.2.2.2.2.1 ∧ x.2.2.2.2.2.2.1 ≤ 4) ∧ x.2.2.2.2.2.2.2.2.2.2.2.1 ≤ 4)) ∧ ((-1 ≤ x.2.2.2.2.2.2.2.2.2.2.2.2.2.2.2.1 ∧ x.2.2.2.2.2.2.2.2.2.2.2.2.2.2.2.1 ≤ 2) ∧ x.2.2.2.2.2.2.2.2.2.2.2.2.2.2.2.2.2.1 ≤ 361) ∧ ((0 ≤ x.2.2.2.2.2.2.2.2.2.2.2.2.2.2.2.2.2.2.2.2.2.1 ∧ x.2.2.2.2.2.2.2.2.2.2.2.2.2.2.2.2.2.2.2.2.2.1 ≤ 1) ∧ x.2.2.2.2.2.2.2.2.2.2.2.2.2.2.2.2.2.2.2.2.2.2.2.1 ≤ 361)) ∧ Sep w M0 [srcP bk ca bs cc, RdR ndK x.1 x.2.1 x.2.2.2.1 x.2.2.2.2.1, RdR maK x.2.2.2.2.2.1 x.2.2.2.2.2.2.1 x.2.2.2.2.2.2.2.2.1 x.2.2.2.2.2.2.2.2.2.1, RdR maK x.2.2.2.2.2.2.2.2.2.2.1 x.2.2.2.2.2.2.2.2.2.2.2.1 x.2.2.2.2.2.2.2.2.2.2.2.2.2.1 x.2.2.2.2.2.2.2.2.2.2.2.2.2.2.1, OwnR maK 28 2 x.2.2.2.2.2.2.2.2.2.2.2.2.2.2.2.2.1 x.2.2.2.2.2.2.2.2.2.2.2.2.2.2.2.2.2.1 x.2.2.2.2.2.2.2.2.2.2.2.2.2.2.2.2.2.2.1 x.2.2.2.2.2.2.2.2.2.2.2.2.2.2.2.2.2.2.2.1 x.2.2.2.2.2.2.2.2.2.2.2.2.2.2.2.2.2.2.2.2.1, OwnR maK 28 2 x.2.2.2.2.2.2.2.2.2.2.2.2.2.2.2.2.2.2.2.2.2.2.1 x.2.2.2.2.2.2.2.2.2.2.2.2.2.2.2.2.2.2.2.2.2.2.2.1 x.2.2.2.2.2.2.2.2.2.2.2.2.2.2.2.2.2.2.2.2.2.2.2.2.1 x.2.2.2.2.2.2.2.2.2.2.2.2.2.2.2.2.2.2.2.2.2.2.2.2.2.1 x.2.2.2.2.2.2.2.2.2.2.2.2.2.2.2.2.2.2.2.2.2.2.2.2.2.2] w') := by
 refine fn (M := M0) (rs := [.cell 2 43, .cell 3 56, .cell 4 56]) Try.func141 rfl Try.ntmps141 rfl rfl hs0 ?_
 refine hSeq ?_
 refine hReg (sl 0 (sl 1 (sl 2 sz))) (by kernel_rfl) ?_
 refine alc Try.zeroValue43 rfl trv1 rfl rfl (fun bka1 hbka1 => ?_)
 refine alc Try.zeroValue56 rfl trv1 rfl rfl (fun bka2 hbka2 => ?_)
 refine alc Try.zeroValue56 rfl trv1 rfl rfl (fun bka3 hbka3 => ?_)
 refine rNil ?_
 refine qSeq rfl ?_
 refine hSeq ?_
 refine hReg (sq 0 (sl 1 (sq 2 (sq 3 (sq 4 (sl 5 (sl 6 (sl 7 (sl 8 sz))))))))) (by kernel_rfl) ?_
 refine mvP rfl rfl rfl ?_
 refine rPieces (L' := [srcP bk ca bs cc, blk bka3 56 [.int .i64 0, .slice none 0 0], blk bka2 56 [.int .i64 0, .slice none 0 0], blk bka1 43 [.slice none 0 0, .slice none 0 0, .slice none 0 0]]) (fun _ h => h.perm (pull (i := 3) rfl)) ?_
 refine callMK (α := Option Addr × Nat × Nat × (Nat → Hd) × List Nd × Option Addr × Nat × Nat × (Nat → Hd) × List (List Int) × Option Addr × Nat × Nat × (Nat → Hd) × List (List Int) × Int × Option Addr × Nat × Nat × (Nat → Hd) × List (List Int)) (Lf := [srcP bk ca bs cc]) (Lr := [blk bka3 56 [.int .i64 0, .slice none 0 0], blk bka2 56 [.int .i64 0, .slice none 0 0], blk bka1 43 [.slice none 0 0, .slice none 0 0, .slice none 0 0]]) (good := fun x => (x.2.1 ≤ 250 ∧ ((1 ≤ x.2.2.2.2.2.2.1 ∧ x.2.2.2.2.2.2.1 ≤ 4) ∧ x.2.2.2.2.2.2.2.2.2.2.2.1 ≤ 4)) ∧ ((-1 ≤ x.2.2.2.2.2.2.2.2.2.2.2.2.2.2.2.1 ∧ x.2.2.2.2.2.2.2.2.2.2.2.2.2.2.2.1 ≤ 2) ∧ x.2.2.2.2.2.2.2.2.2.2.2.2.2.2.2.2.2.1 ≤ 361)) (φs := fun x => [srcP bk ca bs cc, RdR ndK x.1 x.2.1 x.2.2.2.1 x.2.2.2.2.1, RdR maK x.2.2.2.2.2.1 x.2.2.2.2.2.2.1 x.2.2.2.2.2.2.2.2.1 x.2.2.2.2.2.2.2.2.2.1, RdR maK x.2.2.2.2.2.2.2.2.2.2.1 x.2.2.2.2.2.2.2.2.2.2.2.1 x.2.2.2.2.2.2.2.2.2.2.2.2.2.1 x.2.2.2.2.2.2.2.2.2.2.2.2.2.2.1, OwnR maK 28 2 x.2.2.2.2.2.2.2.2.2.2.2.2.2.2.2.2.1 x.2.2.2.2.2.2.2.2.2.2.2.2.2.2.2.2.2.1 x.2.2.2.2.2.2.2.2.2.2.2.2.2.2.2.2.2.2.1 x.2.2.2.2.2.2.2.2.2.2.2.2.2.2.2.2.2.2.2.1 x.2.2.2.2.2.2.2.2.2.2.2.2.2.2.2.2.2.2.2.2]) (val := fun x => .tuple #[.agg #[.slice x.1 x.2.1 x.2.2.1, .slice x.2.2.2.2.2.1 x.2.2.2.2.2.2.1 x.2.2.2.2.2.2.2.1, .slice x.2.2.2.2.2.2.2.2.2.2.1 x.2.2.2.2.2.2.2.2.2.2.2.1 x.2.2.2.2.2.2.2.2.2.2.2.2.1], .agg #[.int .i64 x.2.2.2.2.2.2.2.2.2.2.2.2.2.2.2.1, .slice x.2.2.2.2.2.2.2.2.2.2.2.2.2.2.2.2.1 x.2.2.2.2.2.2.2.2.2.2.2.2.2.2.2.2.2.1 x.2.2.2.2.2.2.2.2.2.2.2.2.2.2.2.2.2.2.1]]) rfl Try.call174 trv1 rfl rfl (fun w M1 hs hk => spec_l22Draw_c bk ca bs cc (0 : Int) w M1 hs (hk _ kcode) hok (by omega)) ?_
 rintro ⟨ay1, ny1, cy1, Hy1, y1, ayw1, nyw1, cyw1, Hyw1, yw1, ayv1, nyv1, cyv1, Hyv1, yv1, pl1, ayp1, nyp1, cyp1, Hyp1, yp1⟩ hr1
 try dsimp only at hr1
 refine rPieces (L' := [srcP bk ca bs cc, RdR ndK ay1 ny1 Hy1 y1, RdR maK ayw1 nyw1 Hyw1 yw1, RdR maK ayv1 nyv1 Hyv1 yv1, OwnR maK 28 2 ayp1 nyp1 cyp1 Hyp1 yp1, blk bka3 56 [.int .i64 0, .slice none 0 0], blk bka2 56 [.int .i64 0, .slice none 0 0], blk bka1 43 [.slice none 0 0, .slice none 0 0, .slice none 0 0]]) (fun _ h => h) ?_
 refine rKnow (fun w hs => (show RdR ndK ay1 ny1 Hy1 y1 w from hs.at_ 1 rfl).1) (fun lenn4 => ?_)
 refine rKnow (fun w hs => (show RdR maK ayw1 nyw1 Hyw1 yw1 w from hs.at_ 2 rfl).1) (fun lenn5 => ?_)
 refine rKnow (fun w hs => (show RdR maK ayv1 nyv1 Hyv1 yv1 w from hs.at_ 3 rfl).1) (fun lenn6 => ?_)
 refine rKnow (fun w hs => (show OwnR maK 28 2 ayp1 nyp1 cyp1 Hyp1 yp1 w from hs.at_ 4 rfl).1) (fun lenn7 => ?_)
 refine mv rfl rfl rfl ?_
 refine ext rfl rfl rfl rfl ?_
 refine ext rfl rfl rfl rfl ?_
 refine alc Try.zeroValue43 rfl trv1 rfl rfl (fun bka8 hbka8 => ?_)
 refine alc Try.zeroValue56 rfl trv1 rfl rfl (fun bka9 hbka9 => ?_)
 refine stAl (vs := [.slice ay1 ny1 cy1, .slice ayw1 nyw1 cyw1, .slice ayv1 nyv1 cyv1]) 1 rfl Try.sizeOf43 trv rfl rfl rfl rfl rfl (by simp [Value.oneCell']) rfl ?_
 refine stAl (vs := [.int .i64 pl1, .slice ayp1 nyp1 cyp1]) 0 rfl Try.sizeOf56 trv rfl rfl rfl rfl rfl (by simp [Value.oneCell']) rfl ?_
 refine rNil ?_
 refine qSeq rfl ?_
 refine hSeq ?_
 refine hSeq ?_
 refine hReg (sl 0 (sl 1 (sq 2 sz))) (by kernel_rfl) ?_
 refine ldAl Try.isAgg43 Try.sizeOf43 (cBs 1 rfl) trv rfl rfl rfl rfl ?_
 refine callP (v := .bool (Math.isGame y1 yw1 yv1)) Try.call108 trv rfl rfl (fun w hs => spec_IsGame_c _ ny1 cy1 _ _ _ nyw1 cyw1 _ _ _ nyv1 cyv1 _ _ w (hs.at_ 3 rfl) (hs.at_ 4 rfl) (hs.at_ 5 rfl)) ?_
 refine not rfl rfl rfl ?_
 refine rNil ?_
 refine qSeq rfl ?_
 refine hIfN rfl (fun c1 => ?_) (fun c1 => ?_)
 ·
  replace c1 : (Math.isGame y1 yw1 yv1) = false := c1
  refine hSeq ?_
  refine hDraw (Ls := [blk bka9 56 [.int .i64 pl1, .slice ayp1 nyp1 cyp1], blk bka8 43 [.slice ay1 ny1 cy1, .slice ayw1 nyw1 cyw1, .slice ayv1 nyv1 cyv1]]) (by kernel_rfl) (sq 0 (sq 1 (sq 2 (sl 3 (sl 4 (sf 5 sz)))))) (by kernel_rfl) (.cons_cons _ (.cons_cons _ (.cons _ (.cons _ (.cons _ (.cons _ (.cons _ (.cons _ (.cons _ (.cons _ .slnil)))))))))) ?_
  refine ldAq Try.isAgg43 Try.sizeOf43 (cBs 1 rfl) rfl rfl rfl rfl ?_
  refine ldAq Try.isAgg56 Try.sizeOf56 (cBs 0 rfl) rfl rfl rfl rfl ?_
  refine bld rfl rfl rfl (bld56_0 (.int .i64 _) rfl) ?_
  refine stAl (vs := [.slice ay1 ny1 cy1, .slice ayw1 nyw1 cyw1, .slice ayv1 nyv1 cyv1]) 9 rfl Try.sizeOf43 (fun _ h => h.pick [0, 0]) rfl rfl rfl rfl rfl (by simp [Value.oneCell']) rfl ?_
  refine stAl (vs := [.int .i64 pl1, .slice ayp1 nyp1 cyp1]) 8 rfl Try.sizeOf56 (fun _ h => h.pick [0, 0]) rfl rfl rfl rfl rfl (by simp [Value.oneCell']) rfl ?_
  refine stAf (vs := [.int .i64 1, .slice none 0 0]) 7 rfl Try.sizeOf56 rfl rfl rfl rfl rfl (by simp [Value.oneCell']) rfl ?_
  refine rNil ?_
  refine qSeq rfl ?_
  refine hRet ?_
  refine knP (fun _ h => Sep.nilR maK 28 2 (fun _ => (none, 0)) h) ?_
  exact fun w hs => ⟨[_, _, _], ⟨⟨_, rfl, run_load_agg Try.isAgg43 Try.sizeOf43 rfl (cBs 10 rfl w hs)⟩, ⟨⟨_, rfl, run_load_agg Try.isAgg56 Try.sizeOf56 rfl (cBs 9 rfl w hs)⟩, ⟨⟨_, rfl, run_load_agg Try.isAgg56 Try.sizeOf56 rfl (cBs 8 rfl w hs)⟩, trivial⟩⟩⟩, ⟨(ay1, ny1, cy1, Hy1, y1, ayw1, nyw1, cyw1, Hyw1, yw1, ayv1, nyv1, cyv1, Hyv1, yv1, pl1, ayp1, nyp1, cyp1, Hyp1, yp1, 1, none, 0, 0, (fun _ => (none, 0)), []), rfl, ⟨⟨by dsimp only; omega, ⟨by dsimp only; omega, by dsimp only; omega⟩, by dsimp only; omega⟩, ⟨by dsimp only; omega, by dsimp only; omega⟩, by dsimp only; omega, by dsimp only; omega⟩, hs.pick [3, 3, 3, 3, 3, 0]⟩⟩
 ·
  replace c1 : (Math.isGame y1 yw1 yv1) = true := c1
  refine hSkip ?_
  refine qSeq rfl ?_
  refine hSeq ?_
  refine hReg (sq 0 (sl 1 (sl 2 (sl 3 (sl 4 sz))))) (by kernel_rfl) ?_
  refine mvP rfl rfl rfl ?_
  refine ldAl Try.isAgg43 Try.sizeOf43 (cBs 1 rfl) trv rfl rfl rfl rfl ?_
  refine rPieces (L' := [srcP bk ca bs cc, blk bka9 56 [.int .i64 pl1, .slice ayp1 nyp1 cyp1], blk bka8 43 [.slice ay1 ny1 cy1, .slice ayw1 nyw1 cyw1, .slice ayv1 nyv1 cyv1], RdR ndK ay1 ny1 Hy1 y1, RdR maK ayw1 nyw1 Hyw1 yw1, RdR maK ayv1 nyv1 Hyv1 yv1, OwnR maK 28 2 ayp1 nyp1 cyp1 Hyp1 yp1, blk bka3 56 [.int .i64 0, .slice none 0 0], blk bka2 56 [.int .i64 0, .slice none 0 0], blk bka1 43 [.slice none 0 0, .slice none 0 0, .slice none 0 0]]) (fun _ h => h.perm (pull (i := 2) rfl)) ?_
  refine callMR (α := Option Addr × Nat × Nat × (Nat → Hd) × List (List Int)) (Lf := [srcP bk ca bs cc]) (Lr := [blk bka9 56 [.int .i64 pl1, .slice ayp1 nyp1 cyp1], blk bka8 43 [.slice ay1 ny1 cy1, .slice ayw1 nyw1 cyw1, .slice ayv1 nyv1 cyv1], RdR ndK ay1 ny1 Hy1 y1, RdR maK ayw1 nyw1 Hyw1 yw1, RdR maK ayv1 nyv1 Hyv1 yv1, OwnR maK 28 2 ayp1 nyp1 cyp1 Hyp1 yp1, blk bka3 56 [.int .i64 0, .slice none 0 0], blk bka2 56 [.int .i64 0, .slice none 0 0], blk bka1 43 [.slice none 0 0, .slice none 0 0, .slice none 0 0]]) (good := fun x => x.2.1 ≤ 360 ∧ Math.drawnP x.2.2.2.2) (φs := fun x => [srcP bk ca bs cc, OwnR maK 28 2 x.1 x.2.1 x.2.2.1 x.2.2.2.1 x.2.2.2.2]) (val := fun x => .agg #[.int .i64 (1 : Int), .slice x.1 x.2.1 x.2.2.1]) rfl Try.call176 trv1 rfl rfl (fun w M1 hs hk => spec_l22Random_c bk ca bs cc ay1 ny1 cy1 Hy1 y1 ayw1 nyw1 cyw1 Hyw1 yw1 ayv1 nyv1 cyv1 Hyv1 yv1 (1 : Int) w M1 hs (hk _ (Kn.nil kcode)) hok (hk _ (Kn.at_ 2 rfl)) (hk _ (Kn.at_ 3 rfl)) (hk _ (Kn.at_ 4 rfl)) (by assumption) (by omega)) ?_
  rintro ⟨ay2, ny2, cy2, Hy2, y2⟩ hr2
  try dsimp only at hr2
  refine rPieces (L' := [srcP bk ca bs cc, OwnR maK 28 2 ay2 ny2 cy2 Hy2 y2, blk bka9 56 [.int .i64 pl1, .slice ayp1 nyp1 cyp1], blk bka8 43 [.slice ay1 ny1 cy1, .slice ayw1 nyw1 cyw1, .slice ayv1 nyv1 cyv1], RdR ndK ay1 ny1 Hy1 y1, RdR maK ayw1 nyw1 Hyw1 yw1, RdR maK ayv1 nyv1 Hyv1 yv1, OwnR maK 28 2 ayp1 nyp1 cyp1 Hyp1 yp1, blk bka3 56 [.int .i64 0, .slice none 0 0], blk bka2 56 [.int .i64 0, .slice none 0 0], blk bka1 43 [.slice none 0 0, .slice none 0 0, .slice none 0 0]]) (fun _ h => h) ?_
  refine rKnow (fun w hs => (show OwnR maK 28 2 ay2 ny2 cy2 Hy2 y2 w from hs.at_ 1 rfl).1) (fun lenn11 => ?_)
  refine alc Try.zeroValue56 rfl trv1 rfl rfl (fun bka12 hbka12 => ?_)
  refine stAl (vs := [.int .i64 (1 : Int), .slice ay2 ny2 cy2]) 0 rfl Try.sizeOf56 trv rfl rfl rfl rfl rfl (by simp [Value.oneCell']) rfl ?_
  refine rNil ?_
  refine qSeq rfl ?_
  refine hSeq ?_
  refine hSeq ?_
  refine hReg (sq 0 (sl 1 (sq 2 sz))) (by kernel_rfl) ?_
  refine mvP rfl rfl rfl ?_
  refine rPieces (L' := [srcP bk ca bs cc, blk bka12 56 [.int .i64 (1 : Int), .slice ay2 ny2 cy2], OwnR maK 28 2 ay2 ny2 cy2 Hy2 y2, blk bka9 56 [.int .i64 pl1, .slice ayp1 nyp1 cyp1], blk bka8 43 [.slice ay1 ny1 cy1, .slice ayw1 nyw1 cyw1, .slice ayv1 nyv1 cyv1], RdR ndK ay1 ny1 Hy1 y1, RdR maK ayw1 nyw1 Hyw1 yw1, RdR maK ayv1 nyv1 Hyv1 yv1, OwnR maK 28 2 ayp1 nyp1 cyp1 Hyp1 yp1, blk bka3 56 [.int .i64 0, .slice none 0 0], blk bka2 56 [.int .i64 0, .slice none 0 0], blk bka1 43 [.slice none 0 0, .slice none 0 0, .slice none 0 0]]) (fun _ h => h.perm (pull (i := 1) rfl)) ?_
  refine callMK (α := Int) (Lf := [srcP bk ca bs cc]) (Lr := [blk bka12 56 [.int .i64 (1 : Int), .slice ay2 ny2 cy2], OwnR maK 28 2 ay2 ny2 cy2 Hy2 y2, blk bka9 56 [.int .i64 pl1, .slice ayp1 nyp1 cyp1], blk bka8 43 [.slice ay1 ny1 cy1, .slice ayw1 nyw1 cyw1, .slice ayv1 nyv1 cyv1], RdR ndK ay1 ny1 Hy1 y1, RdR maK ayw1 nyw1 Hyw1 yw1, RdR maK ayv1 nyv1 Hyv1 yv1, OwnR maK 28 2 ayp1 nyp1 cyp1 Hyp1 yp1, blk bka3 56 [.int .i64 0, .slice none 0 0], blk bka2 56 [.int .i64 0, .slice none 0 0], blk bka1 43 [.slice none 0 0, .slice none 0 0, .slice none 0 0]]) (good := fun x => 0 ≤ x ∧ (x < (6 : Int) ∨ x = 0)) (φs := fun x => [srcP bk ca bs cc]) (val := fun x => .int .i64 x) rfl Try.call95 trv1 rfl rfl (fun w M1 hs hk => src_next bk ca bs cc (6 : Int) w M1 hs (hk _ kcode) hok) ?_
  intro x3 hx3
  replace hx3 : 0 ≤ x3 ∧ x3 < (6 : Int) := by omega
  try dsimp only at hx3
  refine rPieces (L' := [srcP bk ca bs cc, blk bka12 56 [.int .i64 (1 : Int), .slice ay2 ny2 cy2], OwnR maK 28 2 ay2 ny2 cy2 Hy2 y2, blk bka9 56 [.int .i64 pl1, .slice ayp1 nyp1 cyp1], blk bka8 43 [.slice ay1 ny1 cy1, .slice ayw1 nyw1 cyw1, .slice ayv1 nyv1 cyv1], RdR ndK ay1 ny1 Hy1 y1, RdR maK ayw1 nyw1 Hyw1 yw1, RdR maK ayv1 nyv1 Hyv1 yv1, OwnR maK 28 2 ayp1 nyp1 cyp1 Hyp1 yp1, blk bka3 56 [.int .i64 0, .slice none 0 0], blk bka2 56 [.int .i64 0, .slice none 0 0], blk bka1 43 [.slice none 0 0, .slice none 0 0, .slice none 0 0]]) (fun _ h => h) ?_
  refine eql rfl rfl rfl rfl ?_
  refine rNil ?_
  refine qSeq rfl ?_
  refine hIfD rfl (fun c2 => ?_) (fun c2 => ?_)
  ·
   replace c2 : x3 = 0 := c2
   have hul : (Math.unif y1 (Math.sets y1 nyw1 1)).length = (Math.sets y1 nyw1 1).length := by unfold Math.unif; rw [List.length_map]
   have hsl := Math.sets_len (z := y1) (k := nyw1) (p := 1) (by omega)
   have hTl := (Math.isTree_ok (Math.isGame_ok (show Math.isGame y1 yw1 yv1 = true by assumption)).1).1
   refine hReg (sl 0 (sl 1 (sl 2 sz))) (by kernel_rfl) ?_
   refine ldAl Try.isAgg43 Try.sizeOf43 (cBs 4 rfl) trv rfl rfl rfl rfl ?_
   refine callS Try.call121 trv1 rfl rfl (fun w hs => spec_l22Uniform_c _ ny1 cy1 _ _ _ nyw1 cyw1 _ _ _ nyv1 cyv1 _ _ _ w (hs.at_ 5 rfl) (hs.at_ 6 rfl) (hs.at_ 7 rfl) (by assumption) (by omega)) ?_
   rintro ⟨ay4, ny4, cy4, Hy4, y4⟩ hr4
   dsimp only at hr4
   subst y4
   refine rPieces (L' := [OwnR maK 28 2 ay4 ny4 cy4 Hy4 (((Math.unif y1 (Math.sets y1 nyw1 (1 : Int))))), srcP bk ca bs cc, blk bka12 56 [.int .i64 (1 : Int), .slice ay2 ny2 cy2], OwnR maK 28 2 ay2 ny2 cy2 Hy2 y2, blk bka9 56 [.int .i64 pl1, .slice ayp1 nyp1 cyp1], blk bka8 43 [.slice ay1 ny1 cy1, .slice ayw1 nyw1 cyw1, .slice ayv1 nyv1 cyv1], RdR ndK ay1 ny1 Hy1 y1, RdR maK ayw1 nyw1 Hyw1 yw1, RdR maK ayv1 nyv1 Hyv1 yv1, OwnR maK 28 2 ayp1 nyp1 cyp1 Hyp1 yp1, blk bka3 56 [.int .i64 0, .slice none 0 0], blk bka2 56 [.int .i64 0, .slice none 0 0], blk bka1 43 [.slice none 0 0, .slice none 0 0, .slice none 0 0]]) (fun _ h => h) ?_
   refine rKnow (fun w hs => (show OwnR maK 28 2 ay4 ny4 cy4 Hy4 (((Math.unif y1 (Math.sets y1 nyw1 (1 : Int))))) w from hs.at_ 0 rfl).1) (fun lenn13 => ?_)
   refine stAl (vs := [.int .i64 (1 : Int), .slice ay4 ny4 cy4]) 2 rfl Try.sizeOf56 trv rfl rfl rfl rfl rfl (by simp [Value.oneCell']) rfl ?_
   refine rNil ?_
   refine qSeq rfl ?_
   refine hSeq ?_
   refine hSeq ?_
   refine hReg (sq 0 (sl 1 (sq 2 sz))) (by kernel_rfl) ?_
   refine mvP rfl rfl rfl ?_
   refine rPieces (L' := [srcP bk ca bs cc, OwnR maK 28 2 ay4 ny4 cy4 Hy4 (((Math.unif y1 (Math.sets y1 nyw1 (1 : Int))))), blk bka12 56 [.int .i64 (1 : Int), .slice ay4 ny4 cy4], OwnR maK 28 2 ay2 ny2 cy2 Hy2 y2, blk bka9 56 [.int .i64 pl1, .slice ayp1 nyp1 cyp1], blk bka8 43 [.slice ay1 ny1 cy1, .slice ayw1 nyw1 cyw1, .slice ayv1 nyv1 cyv1], RdR ndK ay1 ny1 Hy1 y1, RdR maK ayw1 nyw1 Hyw1 yw1, RdR maK ayv1 nyv1 Hyv1 yv1, OwnR maK 28 2 ayp1 nyp1 cyp1 Hyp1 yp1, blk bka3 56 [.int .i64 0, .slice none 0 0], blk bka2 56 [.int .i64 0, .slice none 0 0], blk bka1 43 [.slice none 0 0, .slice none 0 0, .slice none 0 0]]) (fun _ h => h.perm (pull (i := 1) rfl)) ?_
   refine callMK (α := Int) (Lf := [srcP bk ca bs cc]) (Lr := [OwnR maK 28 2 ay4 ny4 cy4 Hy4 (((Math.unif y1 (Math.sets y1 nyw1 (1 : Int))))), blk bka12 56 [.int .i64 (1 : Int), .slice ay4 ny4 cy4], OwnR maK 28 2 ay2 ny2 cy2 Hy2 y2, blk bka9 56 [.int .i64 pl1, .slice ayp1 nyp1 cyp1], blk bka8 43 [.slice ay1 ny1 cy1, .slice ayw1 nyw1 cyw1, .slice ayv1 nyv1 cyv1], RdR ndK ay1 ny1 Hy1 y1, RdR maK ayw1 nyw1 Hyw1 yw1, RdR maK ayv1 nyv1 Hyv1 yv1, OwnR maK 28 2 ayp1 nyp1 cyp1 Hyp1 yp1, blk bka3 56 [.int .i64 0, .slice none 0 0], blk bka2 56 [.int .i64 0, .slice none 0 0], blk bka1 43 [.slice none 0 0, .slice none 0 0, .slice none 0 0]]) (good := fun x => 0 ≤ x ∧ (x < (20 : Int) ∨ x = 0)) (φs := fun x => [srcP bk ca bs cc]) (val := fun x => .int .i64 x) rfl Try.call95 trv1 rfl rfl (fun w M1 hs hk => src_next bk ca bs cc (20 : Int) w M1 hs (hk _ kcode) hok) ?_
   intro x5 hx5
   replace hx5 : 0 ≤ x5 ∧ x5 < (20 : Int) := by omega
   try dsimp only at hx5
   refine rPieces (L' := [srcP bk ca bs cc, OwnR maK 28 2 ay4 ny4 cy4 Hy4 (((Math.unif y1 (Math.sets y1 nyw1 (1 : Int))))), blk bka12 56 [.int .i64 (1 : Int), .slice ay4 ny4 cy4], OwnR maK 28 2 ay2 ny2 cy2 Hy2 y2, blk bka9 56 [.int .i64 pl1, .slice ayp1 nyp1 cyp1], blk bka8 43 [.slice ay1 ny1 cy1, .slice ayw1 nyw1 cyw1, .slice ayv1 nyv1 cyv1], RdR ndK ay1 ny1 Hy1 y1, RdR maK ayw1 nyw1 Hyw1 yw1, RdR maK ayv1 nyv1 Hyv1 yv1, OwnR maK 28 2 ayp1 nyp1 cyp1 Hyp1 yp1, blk bka3 56 [.int .i64 0, .slice none 0 0], blk bka2 56 [.int .i64 0, .slice none 0 0], blk bka1 43 [.slice none 0 0, .slice none 0 0, .slice none 0 0]]) (fun _ h => h) ?_
   refine eql rfl rfl rfl rfl ?_
   refine rNil ?_
   refine qSeq rfl ?_
   refine hIfD rfl (fun c3 => ?_) (fun c3 => ?_)
   ·
    replace c3 : x5 = 0 := c3
    refine hReg (sq 0 (sl 1 sz)) (by kernel_rfl) ?_
    refine fld fl56_0 rfl rfl rfl ?_
    refine stl (v := .int .i64 _) 2 rfl Try.sizeOf2 trv rfl rfl rfl rfl rfl (Nat.le_of_ble_eq_true rfl) ?_
    refine rNil ?_
    refine qSeq rfl ?_
    refine hSeq ?_
    refine hDraw (Ls := [blk bka12 56 [.int .i64 0, .slice ay4 ny4 cy4], blk bka9 56 [.int .i64 pl1, .slice ayp1 nyp1 cyp1], blk bka8 43 [.slice ay1 ny1 cy1, .slice ayw1 nyw1 cyw1, .slice ayv1 nyv1 cyv1]]) (by kernel_rfl) (sq 0 (sq 1 (sq 2 (sl 3 (sl 4 (sf 5 sz)))))) (by kernel_rfl) (.cons _ (.cons _ (.cons_cons _ (.cons _ (.cons_cons _ (.cons_cons _ (.cons _ (.cons _ (.cons _ (.cons _ (.cons _ (.cons _ (.cons _ .slnil))))))))))))) ?_
    refine ldAq Try.isAgg43 Try.sizeOf43 (cBs 2 rfl) rfl rfl rfl rfl ?_
    refine ldAq Try.isAgg56 Try.sizeOf56 (cBs 1 rfl) rfl rfl rfl rfl ?_
    refine ldAq Try.isAgg56 Try.sizeOf56 (cBs 0 rfl) rfl rfl rfl rfl ?_
    refine stAl (vs := [.slice ay1 ny1 cy1, .slice ayw1 nyw1 cyw1, .slice ayv1 nyv1 cyv1]) 12 rfl Try.sizeOf43 (fun _ h => h.pick [2, 3, 3]) rfl rfl rfl rfl rfl (by simp [Value.oneCell']) rfl ?_
    refine stAl (vs := [.int .i64 pl1, .slice ayp1 nyp1 cyp1]) 11 rfl Try.sizeOf56 (fun _ h => h.pick [2, 3, 3]) rfl rfl rfl rfl rfl (by simp [Value.oneCell']) rfl ?_
    refine stAf (vs := [.int .i64 0, .slice ay4 ny4 cy4]) 10 rfl Try.sizeOf56 rfl rfl rfl rfl rfl (by simp [Value.oneCell']) rfl ?_
    refine rNil ?_
    refine qSeq rfl ?_
    refine hRet ?_
    exact fun w hs => ⟨[_, _, _], ⟨⟨_, rfl, run_load_agg Try.isAgg43 Try.sizeOf43 rfl (cBs 12 rfl w hs)⟩, ⟨⟨_, rfl, run_load_agg Try.isAgg56 Try.sizeOf56 rfl (cBs 11 rfl w hs)⟩, ⟨⟨_, rfl, run_load_agg Try.isAgg56 Try.sizeOf56 rfl (cBs 10 rfl w hs)⟩, trivial⟩⟩⟩, ⟨(ay1, ny1, cy1, Hy1, y1, ayw1, nyw1, cyw1, Hyw1, yw1, ayv1, nyv1, cyv1, Hyv1, yv1, pl1, ayp1, nyp1, cyp1, Hyp1, yp1, 0, ay4, ny4, cy4, Hy4, ((Math.unif y1 (Math.sets y1 nyw1 (1 : Int))))), rfl, ⟨⟨by dsimp only; omega, ⟨by dsimp only; omega, by dsimp only; omega⟩, by dsimp only; omega⟩, ⟨by dsimp only; omega, by dsimp only; omega⟩, by dsimp only; omega, by dsimp only; omega⟩, hs.pick [0, 5, 5, 5, 5, 0]⟩⟩
   ·
    replace c3 : ¬ (x5 = 0) := c3
    refine hSkip ?_
    refine qSeq rfl ?_
    refine hSeq ?_
    refine hDraw (Ls := [blk bka12 56 [.int .i64 (1 : Int), .slice ay4 ny4 cy4], blk bka9 56 [.int .i64 pl1, .slice ayp1 nyp1 cyp1], blk bka8 43 [.slice ay1 ny1 cy1, .slice ayw1 nyw1 cyw1, .slice ayv1 nyv1 cyv1]]) (by kernel_rfl) (sq 0 (sq 1 (sq 2 (sl 3 (sl 4 (sf 5 sz)))))) (by kernel_rfl) (.cons _ (.cons _ (.cons_cons _ (.cons _ (.cons_cons _ (.cons_cons _ (.cons _ (.cons _ (.cons _ (.cons _ (.cons _ (.cons _ (.cons _ .slnil))))))))))))) ?_
    refine ldAq Try.isAgg43 Try.sizeOf43 (cBs 2 rfl) rfl rfl rfl rfl ?_
    refine ldAq Try.isAgg56 Try.sizeOf56 (cBs 1 rfl) rfl rfl rfl rfl ?_
    refine ldAq Try.isAgg56 Try.sizeOf56 (cBs 0 rfl) rfl rfl rfl rfl ?_
    refine stAl (vs := [.slice ay1 ny1 cy1, .slice ayw1 nyw1 cyw1, .slice ayv1 nyv1 cyv1]) 12 rfl Try.sizeOf43 (fun _ h => h.pick [2, 3, 3]) rfl rfl rfl rfl rfl (by simp [Value.oneCell']) rfl ?_
    refine stAl (vs := [.int .i64 pl1, .slice ayp1 nyp1 cyp1]) 11 rfl Try.sizeOf56 (fun _ h => h.pick [2, 3, 3]) rfl rfl rfl rfl rfl (by simp [Value.oneCell']) rfl ?_
    refine stAf (vs := [.int .i64 (1 : Int), .slice ay4 ny4 cy4]) 10 rfl Try.sizeOf56 rfl rfl rfl rfl rfl (by simp [Value.oneCell']) rfl ?_
    refine rNil ?_
    refine qSeq rfl ?_
    refine hRet ?_
    exact fun w hs => ⟨[_, _, _], ⟨⟨_, rfl, run_load_agg Try.isAgg43 Try.sizeOf43 rfl (cBs 12 rfl w hs)⟩, ⟨⟨_, rfl, run_load_agg Try.isAgg56 Try.sizeOf56 rfl (cBs 11 rfl w hs)⟩, ⟨⟨_, rfl, run_load_agg Try.isAgg56 Try.sizeOf56 rfl (cBs 10 rfl w hs)⟩, trivial⟩⟩⟩, ⟨(ay1, ny1, cy1, Hy1, y1, ayw1, nyw1, cyw1, Hyw1, yw1, ayv1, nyv1, cyv1, Hyv1, yv1, pl1, ayp1, nyp1, cyp1, Hyp1, yp1, (1 : Int), ay4, ny4, cy4, Hy4, ((Math.unif y1 (Math.sets y1 nyw1 (1 : Int))))), rfl, ⟨⟨by dsimp only; omega, ⟨by dsimp only; omega, by dsimp only; omega⟩, by dsimp only; omega⟩, ⟨by dsimp only; omega, by dsimp only; omega⟩, by dsimp only; omega, by dsimp only; omega⟩, hs.pick [0, 5, 5, 5, 5, 0]⟩⟩
  ·
   replace c2 : ¬ (x3 = 0) := c2
   refine hSkip ?_
   refine qSeq rfl ?_
   refine hSeq ?_
   refine hSeq ?_
   refine hReg (sq 0 (sl 1 (sq 2 sz))) (by kernel_rfl) ?_
   refine mvP rfl rfl rfl ?_
   refine callMK (α := Int) (Lf := [srcP bk ca bs cc]) (Lr := [blk bka12 56 [.int .i64 (1 : Int), .slice ay2 ny2 cy2], OwnR maK 28 2 ay2 ny2 cy2 Hy2 y2, blk bka9 56 [.int .i64 pl1, .slice ayp1 nyp1 cyp1], blk bka8 43 [.slice ay1 ny1 cy1, .slice ayw1 nyw1 cyw1, .slice ayv1 nyv1 cyv1], RdR ndK ay1 ny1 Hy1 y1, RdR maK ayw1 nyw1 Hyw1 yw1, RdR maK ayv1 nyv1 Hyv1 yv1, OwnR maK 28 2 ayp1 nyp1 cyp1 Hyp1 yp1, blk bka3 56 [.int .i64 0, .slice none 0 0], blk bka2 56 [.int .i64 0, .slice none 0 0], blk bka1 43 [.slice none 0 0, .slice none 0 0, .slice none 0 0]]) (good := fun x => 0 ≤ x ∧ (x < (20 : Int) ∨ x = 0)) (φs := fun x => [srcP bk ca bs cc]) (val := fun x => .int .i64 x) rfl Try.call95 trv1 rfl rfl (fun w M1 hs hk => src_next bk ca bs cc (20 : Int) w M1 hs (hk _ kcode) hok) ?_
   intro x6 hx6
   replace hx6 : 0 ≤ x6 ∧ x6 < (20 : Int) := by omega
   try dsimp only at hx6
   refine rPieces (L' := [srcP bk ca bs cc, blk bka12 56 [.int .i64 (1 : Int), .slice ay2 ny2 cy2], OwnR maK 28 2 ay2 ny2 cy2 Hy2 y2, blk bka9 56 [.int .i64 pl1, .slice ayp1 nyp1 cyp1], blk bka8 43 [.slice ay1 ny1 cy1, .slice ayw1 nyw1 cyw1, .slice ayv1 nyv1 cyv1], RdR ndK ay1 ny1 Hy1 y1, RdR maK ayw1 nyw1 Hyw1 yw1, RdR maK ayv1 nyv1 Hyv1 yv1, OwnR maK 28 2 ayp1 nyp1 cyp1 Hyp1 yp1, blk bka3 56 [.int .i64 0, .slice none 0 0], blk bka2 56 [.int .i64 0, .slice none 0 0], blk bka1 43 [.slice none 0 0, .slice none 0 0, .slice none 0 0]]) (fun _ h => h) ?_
   refine eql rfl rfl rfl rfl ?_
   refine rNil ?_
   refine qSeq rfl ?_
   refine hIfD rfl (fun c4 => ?_) (fun c4 => ?_)
   ·
    replace c4 : x6 = 0 := c4
    refine hReg (sq 0 (sl 1 sz)) (by kernel_rfl) ?_
    refine fld fl56_0 rfl rfl rfl ?_
    refine stl (v := .int .i64 _) 1 rfl Try.sizeOf2 trv rfl rfl rfl rfl rfl (Nat.le_of_ble_eq_true rfl) ?_
    refine rNil ?_
    refine qSeq rfl ?_
    refine hSeq ?_
    refine hDraw (Ls := [blk bka12 56 [.int .i64 0, .slice ay2 ny2 cy2], blk bka9 56 [.int .i64 pl1, .slice ayp1 nyp1 cyp1], blk bka8 43 [.slice ay1 ny1 cy1, .slice ayw1 nyw1 cyw1, .slice ayv1 nyv1 cyv1]]) (by kernel_rfl) (sq 0 (sq 1 (sq 2 (sl 3 (sl 4 (sf 5 sz)))))) (by kernel_rfl) (.cons _ (.cons_cons _ (.cons _ (.cons_cons _ (.cons_cons _ (.cons _ (.cons _ (.cons _ (.cons _ (.cons _ (.cons _ (.cons _ .slnil)))))))))))) ?_
    refine ldAq Try.isAgg43 Try.sizeOf43 (cBs 2 rfl) rfl rfl rfl rfl ?_
    refine ldAq Try.isAgg56 Try.sizeOf56 (cBs 1 rfl) rfl rfl rfl rfl ?_
    refine ldAq Try.isAgg56 Try.sizeOf56 (cBs 0 rfl) rfl rfl rfl rfl ?_
    refine stAl (vs := [.slice ay1 ny1 cy1, .slice ayw1 nyw1 cyw1, .slice ayv1 nyv1 cyv1]) 11 rfl Try.sizeOf43 (fun _ h => h.pick [1, 2, 2]) rfl rfl rfl rfl rfl (by simp [Value.oneCell']) rfl ?_
    refine stAl (vs := [.int .i64 pl1, .slice ayp1 nyp1 cyp1]) 10 rfl Try.sizeOf56 (fun _ h => h.pick [1, 2, 2]) rfl rfl rfl rfl rfl (by simp [Value.oneCell']) rfl ?_
    refine stAf (vs := [.int .i64 0, .slice ay2 ny2 cy2]) 9 rfl Try.sizeOf56 rfl rfl rfl rfl rfl (by simp [Value.oneCell']) rfl ?_
    refine rNil ?_
    refine qSeq rfl ?_
    refine hRet ?_
    exact fun w hs => ⟨[_, _, _], ⟨⟨_, rfl, run_load_agg Try.isAgg43 Try.sizeOf43 rfl (cBs 11 rfl w hs)⟩, ⟨⟨_, rfl, run_load_agg Try.isAgg56 Try.sizeOf56 rfl (cBs 10 rfl w hs)⟩, ⟨⟨_, rfl, run_load_agg Try.isAgg56 Try.sizeOf56 rfl (cBs 9 rfl w hs)⟩, trivial⟩⟩⟩, ⟨(ay1, ny1, cy1, Hy1, y1, ayw1, nyw1, cyw1, Hyw1, yw1, ayv1, nyv1, cyv1, Hyv1, yv1, pl1, ayp1, nyp1, cyp1, Hyp1, yp1, 0, ay2, ny2, cy2, Hy2, y2), rfl, ⟨⟨by dsimp only; omega, ⟨by dsimp only; omega, by dsimp only; omega⟩, by dsimp only; omega⟩, ⟨by dsimp only; omega, by dsimp only; omega⟩, by dsimp only; omega, by dsimp only; omega⟩, hs.pick [0, 4, 4, 4, 4, 1]⟩⟩
   ·
    replace c4 : ¬ (x6 = 0) := c4
    refine hSkip ?_
    refine qSeq rfl ?_
    refine hSeq ?_
    refine hDraw (Ls := [blk bka12 56 [.int .i64 (1 : Int), .slice ay2 ny2 cy2], blk bka9 56 [.int .i64 pl1, .slice ayp1 nyp1 cyp1], blk bka8 43 [.slice ay1 ny1 cy1, .slice ayw1 nyw1 cyw1, .slice ayv1 nyv1 cyv1]]) (by kernel_rfl) (sq 0 (sq 1 (sq 2 (sl 3 (sl 4 (sf 5 sz)))))) (by kernel_rfl) (.cons _ (.cons_cons _ (.cons _ (.cons_cons _ (.cons_cons _ (.cons _ (.cons _ (.cons _ (.cons _ (.cons _ (.cons _ (.cons _ .slnil)))))))))))) ?_
    refine ldAq Try.isAgg43 Try.sizeOf43 (cBs 2 rfl) rfl rfl rfl rfl ?_
    refine ldAq Try.isAgg56 Try.sizeOf56 (cBs 1 rfl) rfl rfl rfl rfl ?_
    refine ldAq Try.isAgg56 Try.sizeOf56 (cBs 0 rfl) rfl rfl rfl rfl ?_
    refine stAl (vs := [.slice ay1 ny1 cy1, .slice ayw1 nyw1 cyw1, .slice ayv1 nyv1 cyv1]) 11 rfl Try.sizeOf43 (fun _ h => h.pick [1, 2, 2]) rfl rfl rfl rfl rfl (by simp [Value.oneCell']) rfl ?_
    refine stAl (vs := [.int .i64 pl1, .slice ayp1 nyp1 cyp1]) 10 rfl Try.sizeOf56 (fun _ h => h.pick [1, 2, 2]) rfl rfl rfl rfl rfl (by simp [Value.oneCell']) rfl ?_
    refine stAf (vs := [.int .i64 (1 : Int), .slice ay2 ny2 cy2]) 9 rfl Try.sizeOf56 rfl rfl rfl rfl rfl (by simp [Value.oneCell']) rfl ?_
    refine rNil ?_
    refine qSeq rfl ?_
    refine hRet ?_
    exact fun w hs => ⟨[_, _, _], ⟨⟨_, rfl, run_load_agg Try.isAgg43 Try.sizeOf43 rfl (cBs 11 rfl w hs)⟩, ⟨⟨_, rfl, run_load_agg Try.isAgg56 Try.sizeOf56 rfl (cBs 10 rfl w hs)⟩, ⟨⟨_, rfl, run_load_agg Try.isAgg56 Try.sizeOf56 rfl (cBs 9 rfl w hs)⟩, trivial⟩⟩⟩, ⟨(ay1, ny1, cy1, Hy1, y1, ayw1, nyw1, cyw1, Hyw1, yw1, ayv1, nyv1, cyv1, Hyv1, yv1, pl1, ayp1, nyp1, cyp1, Hyp1, yp1, (1 : Int), ay2, ny2, cy2, Hy2, y2), rfl, ⟨⟨by dsimp only; omega, ⟨by dsimp only; omega, by dsimp only; omega⟩, by dsimp only; omega⟩, ⟨by dsimp only; omega, by dsimp only; omega⟩, by dsimp only; omega, by dsimp only; omega⟩, hs.pick [0, 4, 4, 4, 4, 1]⟩⟩
end Go.Proofs.Ytjengglpbdgmnaa
