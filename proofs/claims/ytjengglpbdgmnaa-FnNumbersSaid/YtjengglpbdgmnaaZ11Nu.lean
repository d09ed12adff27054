/- Contracts of strategies that are drawn. Their conditions stand in each. -/
import Derived.Test.YtjengglpbdgmnaaZ10Nu
import Derived.Test.YtjengglpbdgmnaaZ2Nu
import Derived.Test.YtjengglpbdgmnaaZ3Nu
import Derived.Test.YtjengglpbdgmnaaZ4Nu
import Derived.Test.YtjengglpbdgmnaaZ7Nu
import Derived.Test.YtjengglpbdgmnaaZ8Nu
import Derived.Test.YtjengglpbdgmnaaZ5Nu
import Derived.Test.YtjengglpbdgmnaaZ6Nu
import Derived.Test.YtjengglpbdgmnaaZ9Nu
import Derived.Test.YtjengglpbdgmnaaRows
namespace Go.Proofs.Ytjengglpbdgmnaa
open Go Go.RowKit V
set_option linter.unusedVariables false
set_option linter.unusedSimpArgs false
set_option maxRecDepth 100000
theorem bsl28_3 (v0 v1 v2 : Value) (h0 : v0.cells = #[v0]) (h1 : v1.cells = #[v1]) (h2 : v2.cells = #[v2]) : ∀ w, (Instr.buildSlice 28 3 ([(0, v0), (1, v1), (2, v2)] : List (Nat × Value)).toArray).run Try.prog w = .ok (.slice (some ⟨w.heap.size, 0, none⟩) 3 3) (w.alloc (.cells ([v0, v1, v2] : List Value).toArray 2)) := by
 intro w; simp [Instr.buildSlice, Instr.fill, Try.zeroValue2, Try.runUnderlying28, Try.sizeOf2, Value.cells_int, newRow, show Array.range 3 = #[0, 1, 2] from by decide, h0, h1, h2]
set_option maxHeartbeats 4000000 in
theorem spec_l22Random_c (bk : Nat) (ca : Option Addr) (bs : List Int) (cc : Nat) (az : Option Addr) (nz : Nat) (cz : Nat) (Hz : Nat → Hd) (z : List Nd) (aws : Option Addr) (nws : Nat) (cws : Nat) (Hws : Nat → Hd) (ws : List (List Int)) (avs : Option Addr) (nvs : Nat) (cvs : Nat) (Hvs : Nat → Hd) (vs : List (List Int)) (p : Int) (w : World) (M0 : Nat → Prop) (hs0 : Sep w M0 [srcP bk ca bs cc] w) (kcode : Kn w M0 [] (CellsAt ca (bs.map (Value.int .u8)))) (hok : okBytes bs) (kz : Kn w M0 [] (RdR ndK az nz Hz z)) (kws : Kn w M0 [] (RdR maK aws nws Hws ws)) (kvs : Kn w M0 [] (RdR maK avs nvs Hvs vs)) (hg : Math.isGame z ws vs = true) (hp : 0 ≤ p ∧ p ≤ 1) :
  Calls Try.prog 176 #[.pointer (some ⟨bk, 0, none⟩), .agg #[.slice az nz cz, .slice aws nws cws, .slice avs nvs cvs], .int .i64 p] w (Ret fun v w' => ∃ x : Option Addr × Nat × Nat × (Nat → Hd) × List (List Int), v = .agg #[.int .i64 p, .slice x.1 x.2.1 x.2.2.1] ∧ (x.2.1 ≤ 360 ∧ Math.drawnP x.2.2.2.2) ∧ Sep w M0 [srcP bk ca bs cc, OwnR maK 28 2 x.1 x.2.1 x.2.2.1 x.2.2.2.1 x.2.2.2.2] w') := by
 have lz : z.length = nz := (kz w (hs0.sub (List.nil_sublist _))).1
 have mz : nz ≤ 9223372036854775807 := (kz w (hs0.sub (List.nil_sublist _))).2.1
 have lws : ws.length = nws := (kws w (hs0.sub (List.nil_sublist _))).1
 have mws : nws ≤ 9223372036854775807 := (kws w (hs0.sub (List.nil_sublist _))).2.1
 have lvs : vs.length = nvs := (kvs w (hs0.sub (List.nil_sublist _))).1
 have mvs : nvs ≤ 9223372036854775807 := (kvs w (hs0.sub (List.nil_sublist _))).2.1
 have hG := Math.isGame_ok hg
 rw [lws] at hG
 have hT := Math.isTree_ok hG.1
 have hvl := Math.mat_len hG.2.2.2.1
 have hsl := Math.sets_len (z := z) (p := p) (show nws ≤ 6 by omega)
 have hzl := Math.sizes_len (z := z) (ss := (Math.sets z nws p))
 refine fn (M := M0) (rs := [.cell 6 56]) Try.func176 rfl Try.ntmps176 rfl rfl hs0 ?_
 refine hSeq ?_
 refine hReg (sl 0 (sl 1 sz)) (by kernel_rfl) ?_
 refine box trv1 rfl rfl rfl rfl (fun bkb1 hbkb1 => ?_)
 refine alc Try.zeroValue56 rfl trv1 rfl rfl (fun bka2 hbka2 => ?_)
 refine rNil ?_
 refine qSeq rfl ?_
 refine hSeq ?_
 refine hReg (sl 0 (sq 1 (sl 2 (sq 3 sz)))) (by kernel_rfl) ?_
 refine ldAl Try.isAgg43 Try.sizeOf43 (cBs 1 rfl) trv rfl rfl rfl rfl ?_
 refine mvI rfl rfl rfl ?_
 refine callS Try.call132 trv1 rfl rfl (fun w hs => spec_l22Sizes_c _ nz cz _ _ _ nws cws _ _ _ nvs cvs _ _ _ w (Kn.drop (k := 3) kz w hs) (Kn.drop (k := 3) kws w hs) (Kn.drop (k := 3) kvs w hs) (by assumption)) ?_
 rintro ⟨ay1, ny1, cy1, y1⟩ hr1
 dsimp only at hr1
 subst y1
 refine rKnow (fun w hs => (show OwnI 2 ay1 ny1 cy1 (((Math.sizes z (Math.sets z nws p)))) w from hs.at_ 0 rfl).lenz) (fun lenn3 => ?_)
 refine asS rfl rfl rfl ?_
 refine rNil ?_
 refine qSeq rfl ?_
 refine hSeq ?_
 refine hReg (sl 0 (sq 1 sz)) (by kernel_rfl) ?_
 refine bsl trv1 rfl rfl rfl (bsl41_0) (fun bkl4 hbkl4 => ?_)
 refine asS rfl rfl rfl ?_
 refine rNil ?_
 refine qSeq rfl ?_
 refine hSeq ?_
 refine hSeq ?_
 refine hReg (sq 0 sz) (by kernel_rfl) ?_
 refine asI rfl rfl rfl ?_
 refine rNil ?_
 refine qSeq rfl ?_
 refine hBlk ?_
 refine hPieces (fun _ h => Sep.litR maK 28 2 (fun _ => (none, 0)) h 0 rfl) ?_
 refine hLoop (α := Nat × Nat × (Hd × (Nat → Hd)) × List (List Int)) (fun x => (x.1 ≤ (Math.sizes z (Math.sets z nws p)).length ∧ x.2.1 = x.1) ∧ Math.drawnP x.2.2.2) (fun x => (Math.sizes z (Math.sets z nws p)).length - x.1) (fun x => [OwnR maK 28 2 x.2.2.1.1.1 x.2.1 x.2.2.1.1.2 x.2.2.1.2 x.2.2.2, OwnI 2 ay1 ny1 cy1 (((Math.sizes z (Math.sets z nws p)))), blk bka2 56 [.int .i64 0, .slice none 0 0], blk bkb1 43 [.slice az nz cz, .slice aws nws cws, .slice avs nvs cvs], srcP bk ca bs cc]) (fun x => [(0, .pointer (some ⟨bk, 0, none⟩)), (2, .int .i64 p), (6, .pointer (some ⟨bka2, 0, none⟩)), (7, .slice ay1 ny1 cy1), (8, .slice x.2.2.1.1.1 x.2.1 x.2.2.1.1.2), (9, .int .i64 (x.1 : Int))]) ((0, 0, (((some ⟨bkl4, 0, none⟩), 0), (fun _ => (none, 0))), [])) (⟨⟨Nat.zero_le _, rfl⟩, Math.drawnP_nil⟩) (fun _ h => h.pick [0, 0, 0, 0, 0]) ⟨rfl, rfl, rfl, rfl, rfl, rfl, trivial⟩ ?_
 rintro ⟨i, q, hd, y⟩ τ1 ⟨⟨hi, hq⟩, hy⟩
 dsimp only at hi hq hy
 refine hRe [(0, .pointer (some ⟨bk, 0, none⟩)), (2, .int .i64 p), (6, .pointer (some ⟨bka2, 0, none⟩)), (7, .slice ay1 ny1 cy1), (8, .slice hd.1.1 q hd.1.2), (9, .int .i64 (i : Int))] [OwnR maK 28 2 hd.1.1 q hd.1.2 hd.2 y, OwnI 2 ay1 ny1 cy1 (((Math.sizes z (Math.sets z nws p)))), blk bka2 56 [.int .i64 0, .slice none 0 0], blk bkb1 43 [.slice az nz cz, .slice aws nws cws, .slice avs nvs cvs], srcP bk ca bs cc] rfl rfl ?_
 refine hSeq ?_
 refine hSeq ?_
 refine hReg (sq 0 (sq 1 (sq 2 (sq 3 sz)))) (by kernel_rfl) ?_
 refine mvI rfl rfl rfl ?_
 refine mvS rfl rfl rfl ?_
 refine lenS Try.runUnderlying28 rfl rfl rfl ?_
 refine lss rfl rfl rfl rfl ?_
 refine rNil ?_
 refine qSeq rfl ?_
 refine hIfD rfl (fun c1 => ?_) (fun c1 => ?_)
 ·
  replace c1 : (i : Int) < (ny1 : Int) := c1
  have hsb := Math.sizes_bd (k := nws) hg hp _ (Math.getD_mem 0 (show i < (Math.sizes z (Math.sets z nws p)).length by omega))
  refine hSkip ?_
  refine qSeq rfl ?_
  refine hSeq ?_
  refine hBlk ?_
  refine hSeq ?_
  refine hReg (sl 0 (sq 1 sz)) (by kernel_rfl) ?_
  refine bsl trv1 rfl rfl rfl (bsl28_0) (fun bkl5 hbkl5 => ?_)
  refine asS rfl rfl rfl ?_
  refine rNil ?_
  refine qSeq rfl ?_
  refine hSeq ?_
  refine hSeq ?_
  refine hReg (sq 0 sz) (by kernel_rfl) ?_
  refine asI rfl rfl rfl ?_
  refine rNil ?_
  refine qSeq rfl ?_
  refine hBlk ?_
  refine hPieces (fun _ h => Sep.litI h 0 [] rfl rfl rfl) ?_
  refine hLoop (α := Nat × Nat × Hd × List Int) (fun x => ((x.1 : Int) ≤ (Math.sizes z (Math.sets z nws p)).getD i 0 ∧ x.2.1 = x.1) ∧ (Math.small x.2.2.2 ∧ x.2.2.2.length = x.2.1)) (fun x => ((Math.sizes z (Math.sets z nws p)).getD i 0).toNat - x.1) (fun x => [OwnI 2 x.2.2.1.1 x.2.1 x.2.2.1.2 x.2.2.2, OwnR maK 28 2 hd.1.1 q hd.1.2 hd.2 y, OwnI 2 ay1 ny1 cy1 (((Math.sizes z (Math.sets z nws p)))), blk bka2 56 [.int .i64 0, .slice none 0 0], blk bkb1 43 [.slice az nz cz, .slice aws nws cws, .slice avs nvs cvs], srcP bk ca bs cc]) (fun x => [(0, .pointer (some ⟨bk, 0, none⟩)), (2, .int .i64 p), (6, .pointer (some ⟨bka2, 0, none⟩)), (7, .slice ay1 ny1 cy1), (8, .slice hd.1.1 q hd.1.2), (9, .int .i64 (i : Int)), (10, .slice x.2.2.1.1 x.2.1 x.2.2.1.2), (11, .int .i64 (x.1 : Int))]) ((0, 0, ((some ⟨bkl5, 0, none⟩), 0), [])) (⟨⟨by dsimp only; omega, rfl⟩, Math.small_nil, rfl⟩) (fun _ h => h.pick [0, 0, 0, 0, 0, 0]) ⟨rfl, rfl, rfl, rfl, rfl, rfl, rfl, rfl, trivial⟩ ?_
  rintro ⟨j, q2, he, r⟩ τ2 ⟨⟨hj, hq2⟩, hr2, hrl⟩
  dsimp only at hj hq2 hr2 hrl
  refine hRe [(0, .pointer (some ⟨bk, 0, none⟩)), (2, .int .i64 p), (6, .pointer (some ⟨bka2, 0, none⟩)), (7, .slice ay1 ny1 cy1), (8, .slice hd.1.1 q hd.1.2), (9, .int .i64 (i : Int)), (10, .slice he.1 q2 he.2), (11, .int .i64 (j : Int))] [OwnI 2 he.1 q2 he.2 r, OwnR maK 28 2 hd.1.1 q hd.1.2 hd.2 y, OwnI 2 ay1 ny1 cy1 (((Math.sizes z (Math.sets z nws p)))), blk bka2 56 [.int .i64 0, .slice none 0 0], blk bkb1 43 [.slice az nz cz, .slice aws nws cws, .slice avs nvs cvs], srcP bk ca bs cc] rfl rfl ?_
  refine hSeq ?_
  refine hSeq ?_
  refine hReg (sq 0 (sq 1 (sq 2 (sq 3 (sl 4 (sq 5 sz)))))) (by kernel_rfl) ?_
  refine mvI rfl rfl rfl ?_
  refine mvS rfl rfl rfl ?_
  refine mvI rfl rfl rfl ?_
  refine ixIl (zn := i) el28 ((Kn.at_ 2 rfl).imp fun _ h => OwnI.rd h) rfl rfl rfl rfl (by omega) (by omega) rfl ?_
  intro ae2 e2
  refine ldl Try.isAgg2 (e2) trv rfl rfl rfl ?_
  refine lss rfl rfl rfl rfl ?_
  refine rNil ?_
  refine qSeq rfl ?_
  refine hIfD rfl (fun c2 => ?_) (fun c2 => ?_)
  ·
   replace c2 : (j : Int) < ((((Math.sizes z (Math.sets z nws p)))).getD i 0) := c2
   refine hSkip ?_
   refine qSeq rfl ?_
   refine hSeq ?_
   refine hBlk ?_
   refine hReg (sq 0 (sq 1 (sq 2 (sl 3 (sl 4 (sl 5 (sl 6 (sl 7 (sq 8 sz))))))))) (by kernel_rfl) ?_
   refine mvS rfl rfl rfl ?_
   refine mvP rfl rfl rfl ?_
   refine mvP rfl rfl rfl ?_
   refine rPieces (L' := [srcP bk ca bs cc, OwnI 2 he.1 q2 he.2 r, OwnR maK 28 2 hd.1.1 q hd.1.2 hd.2 y, OwnI 2 ay1 ny1 cy1 (((Math.sizes z (Math.sets z nws p)))), blk bka2 56 [.int .i64 0, .slice none 0 0], blk bkb1 43 [.slice az nz cz, .slice aws nws cws, .slice avs nvs cvs]]) (fun _ h => h.perm (pull (i := 5) rfl)) ?_
   refine callMK (α := Int) (Lf := [srcP bk ca bs cc]) (Lr := [OwnI 2 he.1 q2 he.2 r, OwnR maK 28 2 hd.1.1 q hd.1.2 hd.2 y, OwnI 2 ay1 ny1 cy1 (((Math.sizes z (Math.sets z nws p)))), blk bka2 56 [.int .i64 0, .slice none 0 0], blk bkb1 43 [.slice az nz cz, .slice aws nws cws, .slice avs nvs cvs]]) (good := fun x => 0 ≤ x ∧ (x < (9 : Int) ∨ x = 0)) (φs := fun x => [srcP bk ca bs cc]) (val := fun x => .int .i64 x) rfl Try.call95 trv1 rfl rfl (fun w M1 hs hk => src_next bk ca bs cc (9 : Int) w M1 hs (hk _ kcode) hok) ?_
   intro x3 hx3
   try dsimp only at hx3
   refine rPieces (L' := [srcP bk ca bs cc, OwnI 2 he.1 q2 he.2 r, OwnR maK 28 2 hd.1.1 q hd.1.2 hd.2 y, OwnI 2 ay1 ny1 cy1 (((Math.sizes z (Math.sets z nws p)))), blk bka2 56 [.int .i64 0, .slice none 0 0], blk bkb1 43 [.slice az nz cz, .slice aws nws cws, .slice avs nvs cvs]]) (fun _ h => h) ?_
   refine bsl trv1 rfl rfl rfl (bsl28_5 (.int .i64 _) (.int .i64 _) (.int .i64 _) (.int .i64 _) (.int .i64 _) rfl rfl rfl rfl rfl) (fun bkl6 hbkl6 => ?_)
   refine rPieces (L' := [srcP bk ca bs cc, blk bkl6 2 [.int .i64 0, .int .i64 0, .int .i64 1, .int .i64 2, .int .i64 x3], OwnI 2 he.1 q2 he.2 r, OwnR maK 28 2 hd.1.1 q hd.1.2 hd.2 y, OwnI 2 ay1 ny1 cy1 (((Math.sizes z (Math.sets z nws p)))), blk bka2 56 [.int .i64 0, .slice none 0 0], blk bkb1 43 [.slice az nz cz, .slice aws nws cws, .slice avs nvs cvs]]) (fun _ h => h.perm (pull (i := 1) rfl)) ?_
   refine callMK (α := Int) (Lf := [srcP bk ca bs cc, blk bkl6 2 [.int .i64 0, .int .i64 0, .int .i64 1, .int .i64 2, .int .i64 x3]]) (Lr := [OwnI 2 he.1 q2 he.2 r, OwnR maK 28 2 hd.1.1 q hd.1.2 hd.2 y, OwnI 2 ay1 ny1 cy1 (((Math.sizes z (Math.sets z nws p)))), blk bka2 56 [.int .i64 0, .slice none 0 0], blk bkb1 43 [.slice az nz cz, .slice aws nws cws, .slice avs nvs cvs]]) (good := fun x => x ∈ ([.int .i64 0, .int .i64 0, .int .i64 1, .int .i64 2, .int .i64 x3] : List Value).map toI) (φs := fun x => [srcP bk ca bs cc, blk bkl6 2 [.int .i64 0, .int .i64 0, .int .i64 1, .int .i64 2, .int .i64 x3]]) (val := fun x => .int .i64 x) rfl Try.call155 trv1 rfl rfl (fun w M1 hs hk => src_pick bk ca bs cc bkl6 2 5 5 [.int .i64 0, .int .i64 0, .int .i64 1, .int .i64 2, .int .i64 x3] w M1 hs (hk _ kcode) hok rfl rfl (by decide)) ?_
   intro x4 hx4
   try dsimp only at hx4
   refine rPieces (L' := [srcP bk ca bs cc, blk bkl6 2 [.int .i64 0, .int .i64 0, .int .i64 1, .int .i64 2, .int .i64 x3], OwnI 2 he.1 q2 he.2 r, OwnR maK 28 2 hd.1.1 q hd.1.2 hd.2 y, OwnI 2 ay1 ny1 cy1 (((Math.sizes z (Math.sets z nws p)))), blk bka2 56 [.int .i64 0, .slice none 0 0], blk bkb1 43 [.slice az nz cz, .slice aws nws cws, .slice avs nvs cvs]]) (fun _ h => h) ?_
   refine bsl trv1 rfl rfl rfl (bsl28_1 (.int .i64 _) rfl) (fun bkl7 hbkl7 => ?_)
   refine aplI (N := q2) (x := x4) 3 0 rfl rfl mk28 trv1 rfl rfl rfl rfl (by omega) ?_
   intro aq5 cq5
   refine asS rfl rfl rfl ?_
   refine rNil ?_
   refine qSeq rfl ?_
   refine hReg (sq 0 (sq 1 (sq 2 sz))) (by kernel_rfl) ?_
   refine mvI rfl rfl rfl ?_
   refine add rfl rfl rfl rfl (by omega) ?_
   refine asI rfl rfl rfl ?_
   refine rNil ?_
   have hm_ := hx4
   have hv_ : 0 ≤ x4 ∧ x4 ≤ 8 := by simp [toI] at hm_; omega
   exact qNext rfl ((j + 1, q2 + 1, (aq5, cq5), (r ++ [x4]))) (by dsimp only; omega) (⟨⟨by dsimp only; omega, by dsimp only; omega⟩, Math.small_app hr2 hv_, by dsimp only; rw [List.length_append, hrl]; rfl⟩) ⟨rfl, rfl, rfl, rfl, rfl, rfl, rfl, rfl, trivial⟩ (fun _ h => h.pick [3, 3, 3, 3, 3, 1])
  ·
   replace c2 : ¬ ((j : Int) < ((((Math.sizes z (Math.sets z nws p)))).getD i 0)) := c2
   refine hExit rfl ?_
   refine qSeq rfl ?_
   refine hReg (sq 0 (sq 1 (sl 2 (sl 3 (sl 4 (sq 5 sz)))))) (by kernel_rfl) ?_
   refine mvS rfl rfl rfl ?_
   refine mvS rfl rfl rfl ?_
   refine callS Try.call163 trv1 rfl rfl (fun w hs => spec_l22Parts_c _ q2 he.2 _ w (OwnI.rd (hs.at_ 0 rfl)) (Math.small_big hr2) (by omega) (by omega)) ?_
   rintro ⟨ay6, ny6, cy6, y6⟩ hr6
   dsimp only at hr6
   subst y6
   refine rKnow (fun w hs => (show OwnI 2 ay6 ny6 cy6 (Math.partsOf r) w from hs.at_ 0 rfl).lenz) (fun lenn8 => ?_)
   refine bsl trv1 rfl rfl rfl (bsl41_1 (.slice _ _ _) rfl) (fun bkl9 hbkl9 => ?_)
   refine apR (hd := (ay6, cy6)) (x := (Math.partsOf r)) 3 1 0 maK.ok rfl rfl rfl (fun h => by first | rfl | (dsimp only at h; rw [h]; rfl) | (rw [h]; rfl) | exact congrArg (fun m => [Value.slice _ m _]) h) mk41 trv1 rfl rfl rfl rfl (by omega) ?_
   intro aq7 cq7
   refine asS rfl rfl rfl ?_
   refine rNil ?_
   refine qSeq rfl ?_
   refine hReg (sq 0 (sq 1 (sq 2 sz))) (by kernel_rfl) ?_
   refine mvI rfl rfl rfl ?_
   refine add rfl rfl rfl rfl (by omega) ?_
   refine asI rfl rfl rfl ?_
   refine rNil ?_
   exact qNext rfl ((i + 1, q + 1, ((aq7, cq7), (hset hd.2 y.length (ay6, cy6))), (y ++ [(Math.partsOf r)]))) (by dsimp only; omega) (⟨⟨by dsimp only; omega, by dsimp only; omega⟩, Math.drawnP_app hy hr2 (by omega)⟩) ⟨rfl, rfl, rfl, rfl, rfl, rfl, trivial⟩ (fun _ h => h.pick [0, 2, 2, 2, 2])
 ·
  replace c1 : ¬ ((i : Int) < (ny1 : Int)) := c1
  refine hExit rfl ?_
  refine qSeq rfl ?_
  refine hSeq ?_
  refine hReg (sq 0 (sq 1 (sq 2 (sl 3 sz)))) (by kernel_rfl) ?_
  refine mvI rfl rfl rfl ?_
  refine mvS rfl rfl rfl ?_
  refine bld rfl rfl rfl (bld56_0_1 (.int .i64 _) (.slice _ _ _) rfl rfl) ?_
  refine stAl (vs := [.int .i64 p, .slice hd.1.1 q hd.1.2]) 2 rfl Try.sizeOf56 trv rfl rfl rfl rfl rfl (by simp [Value.oneCell']) rfl ?_
  refine rNil ?_
  refine qSeq rfl ?_
  refine hRet ?_
  exact fun w hs => ⟨[_], ⟨⟨_, rfl, run_load_agg Try.isAgg56 Try.sizeOf56 rfl (cBs 2 rfl w hs)⟩, trivial⟩, ⟨(hd.1.1, q, hd.1.2, hd.2, y), rfl, ⟨by dsimp only; omega, hy⟩, hs.pick [4, 0]⟩⟩
set_option maxHeartbeats 4000000 in
theorem spec_l22Draw_c (bk : Nat) (ca : Option Addr) (bs : List Int) (cc : Nat) (p : Int) (w : World) (M0 : Nat → Prop) (hs0 : Sep w M0 [srcP bk ca bs cc] w) (kcode : Kn w M0 [] (CellsAt ca (bs.map (Value.int .u8)))) (hok : okBytes bs) (hp : 0 ≤ p ∧ p ≤ 1) :
  Calls Try.prog 174 #[.pointer (some ⟨bk, 0, none⟩), .int .i64 p] w (Ret fun v w' => ∃ x : Option Addr × Nat × Nat × (Nat → Hd) × List Nd × Option Addr × Nat × Nat × (Nat → Hd) × List (List Int) × Option Addr × Nat × Nat × (Nat → Hd) × List (List Int) × Int × Option Addr × Nat × Nat × (Nat → Hd) × List (List Int), v = .tuple #[.agg #[.slice x.1 x.2.1 x.2.2.1, .slice x.2.2.2.2.2.1 x.2.2.2.2.2.2.1 x.2.2.2.2.2.2.2.1, .slice x.2.2.2.2.2.2.2.2.2.2.1 x.2.2.2.2.2.2.2.2.2.2.2.1 x.2.2.2.2.2.2.2.2.2.2.2.2.1], .agg #[.int .i64 x.2.2.2.2.2.2.2.2.2.2.2.2.2.2.2.1, .slice x.2.2.2.2.2.2.2.2.2.2.2.2.2.2.2.2.1 x.2.2.2.2.2.2.2.2.2.2.2.2.2.2.2.2.2.1 x.2.2.2.2.2.2.2.2.2.2.2.2.2.2.2.2.2.2.1]] ∧ ((x.2.1 ≤ 250 ∧ ((1 ≤ x.2.2.2.2.2.2.1 ∧ x.2.2.2.2.2.2.1 ≤ 4) ∧ x.2.2.2.2.2.2.2.2.2.2.2.1 ≤ 4)) ∧ ((-1 ≤ x.2.2.2.2.2.2.2.2.2.2.2.2.2.2.2.1 ∧ x.2.2.2.2.2.2.2.2.2.2.2.2.2.2.2.1 ≤ 2) ∧ x.2.2.2.2.2.2.2.2.2.2.2.2.2.2.2.2.2.1 ≤ 361)) ∧ Sep w M0 [srcP bk ca bs cc, RdR ndK x.1 x.2.1 x.2.2.2.1 x.2.2.2.2.1, RdR maK x.2.2.2.2.2.1 x.2.2.2.2.2.2.1 x.2.2.2.2.2.2.2.2.1 x.2.2.2.2.2.2.2.2.2.1, RdR maK x.2.2.2.2.2.2.2.2.2.2.1 x.2.2.2.2.2.2.2.2.2.2.2.1 x.2.2.2.2.2.2.2.2.2.2.2.2.2.1 x.2.2.2.2.2.2.2.2.2.2.2.2.2.2.1, OwnR maK 28 2 x.2.2.2.2.2.2.2.2.2.2.2.2.2.2.2.2.1 x.2.2.2.2.2.2.2.2.2.2.2.2.2.2.2.2.2.1 x.2.2.2.2.2.2.2.2.2.2.2.2.2.2.2.2.2.2.1 x.2.2.2.2.2.2.2.2.2.2.2.2.2.2.2.2.2.2.2.1 x.2.2.2.2.2.2.2.2.2.2.2.2.2.2.2.2.2.2.2.2] w') := by
 refine fn (M := M0) (rs := [.cell 4 43, .cell 5 56]) Try.func174 rfl Try.ntmps174 rfl rfl hs0 ?_
 refine hSeq ?_
 refine hReg (sl 0 (sl 1 sz)) (by kernel_rfl) ?_
 refine alc Try.zeroValue43 rfl trv1 rfl rfl (fun bka1 hbka1 => ?_)
 refine alc Try.zeroValue56 rfl trv1 rfl rfl (fun bka2 hbka2 => ?_)
 refine rNil ?_
 refine qSeq rfl ?_
 refine hSeq ?_
 refine hReg (sq 0 (sl 1 (sl 2 (sl 3 sz)))) (by kernel_rfl) ?_
 refine mvP rfl rfl rfl ?_
 refine rPieces (L' := [srcP bk ca bs cc, blk bka2 56 [.int .i64 0, .slice none 0 0], blk bka1 43 [.slice none 0 0, .slice none 0 0, .slice none 0 0]]) (fun _ h => h.perm (pull (i := 2) rfl)) ?_
 refine callMK (α := Option Addr × Nat × Nat × (Nat → Hd) × List Nd × Option Addr × Nat × Nat × (Nat → Hd) × List (List Int) × Option Addr × Nat × Nat × (Nat → Hd) × List (List Int)) (Lf := [srcP bk ca bs cc]) (Lr := [blk bka2 56 [.int .i64 0, .slice none 0 0], blk bka1 43 [.slice none 0 0, .slice none 0 0, .slice none 0 0]]) (good := fun x => x.2.1 ≤ 250 ∧ ((1 ≤ x.2.2.2.2.2.2.1 ∧ x.2.2.2.2.2.2.1 ≤ 4) ∧ x.2.2.2.2.2.2.2.2.2.2.2.1 ≤ 4)) (φs := fun x => [srcP bk ca bs cc, RdR ndK x.1 x.2.1 x.2.2.2.1 x.2.2.2.2.1, RdR maK x.2.2.2.2.2.1 x.2.2.2.2.2.2.1 x.2.2.2.2.2.2.2.2.1 x.2.2.2.2.2.2.2.2.2.1, RdR maK x.2.2.2.2.2.2.2.2.2.2.1 x.2.2.2.2.2.2.2.2.2.2.2.1 x.2.2.2.2.2.2.2.2.2.2.2.2.2.1 x.2.2.2.2.2.2.2.2.2.2.2.2.2.2]) (val := fun x => .agg #[.slice x.1 x.2.1 x.2.2.1, .slice x.2.2.2.2.2.1 x.2.2.2.2.2.2.1 x.2.2.2.2.2.2.2.1, .slice x.2.2.2.2.2.2.2.2.2.2.1 x.2.2.2.2.2.2.2.2.2.2.2.1 x.2.2.2.2.2.2.2.2.2.2.2.2.1]) rfl Try.call106 trv1 rfl rfl (fun w M1 hs hk => spec_l21Draw_c bk ca bs cc  w M1 hs (hk _ kcode) hok ) ?_
 rintro ⟨ay1, ny1, cy1, Hy1, y1, ayw1, nyw1, cyw1, Hyw1, yw1, ayv1, nyv1, cyv1, Hyv1, yv1⟩ hr1
 try dsimp only at hr1
 refine rPieces (L' := [srcP bk ca bs cc, RdR ndK ay1 ny1 Hy1 y1, RdR maK ayw1 nyw1 Hyw1 yw1, RdR maK ayv1 nyv1 Hyv1 yv1, blk bka2 56 [.int .i64 0, .slice none 0 0], blk bka1 43 [.slice none 0 0, .slice none 0 0, .slice none 0 0]]) (fun _ h => h) ?_
 refine rKnow (fun w hs => (show RdR ndK ay1 ny1 Hy1 y1 w from hs.at_ 1 rfl).1) (fun lenn3 => ?_)
 refine rKnow (fun w hs => (show RdR maK ayw1 nyw1 Hyw1 yw1 w from hs.at_ 2 rfl).1) (fun lenn4 => ?_)
 refine rKnow (fun w hs => (show RdR maK ayv1 nyv1 Hyv1 yv1 w from hs.at_ 3 rfl).1) (fun lenn5 => ?_)
 refine alc Try.zeroValue43 rfl trv1 rfl rfl (fun bka6 hbka6 => ?_)
 refine stAl (vs := [.slice ay1 ny1 cy1, .slice ayw1 nyw1 cyw1, .slice ayv1 nyv1 cyv1]) 0 rfl Try.sizeOf43 trv rfl rfl rfl rfl rfl (by simp [Value.oneCell']) rfl ?_
 refine rNil ?_
 refine qSeq rfl ?_
 refine hSeq ?_
 refine hSeq ?_
 refine hReg (sl 0 (sl 1 (sq 2 sz))) (by kernel_rfl) ?_
 refine ldAl Try.isAgg43 Try.sizeOf43 (cBs 0 rfl) trv rfl rfl rfl rfl ?_
 refine callP (v := .bool (Math.isGame y1 yw1 yv1)) Try.call108 trv rfl rfl (fun w hs => spec_IsGame_c _ ny1 cy1 _ _ _ nyw1 cyw1 _ _ _ nyv1 cyv1 _ _ w (hs.at_ 2 rfl) (hs.at_ 3 rfl) (hs.at_ 4 rfl)) ?_
 refine not rfl rfl rfl ?_
 refine rNil ?_
 refine qSeq rfl ?_
 refine hIfN rfl (fun c1 => ?_) (fun c1 => ?_)
 ·
  replace c1 : (Math.isGame y1 yw1 yv1) = false := c1
  refine hSeq ?_
  refine hReg (sl 0 (sq 1 (sq 2 (sl 3 (sl 4 sz))))) (by kernel_rfl) ?_
  refine ldAl Try.isAgg43 Try.sizeOf43 (cBs 0 rfl) trv rfl rfl rfl rfl ?_
  refine mvI rfl rfl rfl ?_
  refine bld rfl rfl rfl (bld56_0 (.int .i64 _) rfl) ?_
  refine stAl (vs := [.slice ay1 ny1 cy1, .slice ayw1 nyw1 cyw1, .slice ayv1 nyv1 cyv1]) 6 rfl Try.sizeOf43 trv rfl rfl rfl rfl rfl (by simp [Value.oneCell']) rfl ?_
  refine stAl (vs := [.int .i64 p, .slice none 0 0]) 5 rfl Try.sizeOf56 trv rfl rfl rfl rfl rfl (by simp [Value.oneCell']) rfl ?_
  refine rNil ?_
  refine qSeq rfl ?_
  refine hRet ?_
  refine knP (fun _ h => Sep.nilR maK 28 2 (fun _ => (none, 0)) h) ?_
  exact fun w hs => ⟨[_, _], ⟨⟨_, rfl, run_load_agg Try.isAgg43 Try.sizeOf43 rfl (cBs 7 rfl w hs)⟩, ⟨⟨_, rfl, run_load_agg Try.isAgg56 Try.sizeOf56 rfl (cBs 6 rfl w hs)⟩, trivial⟩⟩, ⟨(ay1, ny1, cy1, Hy1, y1, ayw1, nyw1, cyw1, Hyw1, yw1, ayv1, nyv1, cyv1, Hyv1, yv1, p, none, 0, 0, (fun _ => (none, 0)), []), rfl, ⟨⟨by dsimp only; omega, ⟨by dsimp only; omega, by dsimp only; omega⟩, by dsimp only; omega⟩, by dsimp only; omega, by dsimp only; omega⟩, hs.pick [2, 2, 2, 2, 0]⟩⟩
 ·
  replace c1 : (Math.isGame y1 yw1 yv1) = true := c1
  refine hSkip ?_
  refine qSeq rfl ?_
  refine hSeq ?_
  refine hReg (sq 0 (sl 1 (sq 2 (sl 3 (sl 4 (sl 5 sz)))))) (by kernel_rfl) ?_
  refine mvP rfl rfl rfl ?_
  refine ldAl Try.isAgg43 Try.sizeOf43 (cBs 0 rfl) trv rfl rfl rfl rfl ?_
  refine mvI rfl rfl rfl ?_
  refine rPieces (L' := [srcP bk ca bs cc, blk bka6 43 [.slice ay1 ny1 cy1, .slice ayw1 nyw1 cyw1, .slice ayv1 nyv1 cyv1], RdR ndK ay1 ny1 Hy1 y1, RdR maK ayw1 nyw1 Hyw1 yw1, RdR maK ayv1 nyv1 Hyv1 yv1, blk bka2 56 [.int .i64 0, .slice none 0 0], blk bka1 43 [.slice none 0 0, .slice none 0 0, .slice none 0 0]]) (fun _ h => h.perm (pull (i := 1) rfl)) ?_
  refine callMR (α := Option Addr × Nat × Nat × (Nat → Hd) × List (List Int)) (Lf := [srcP bk ca bs cc]) (Lr := [blk bka6 43 [.slice ay1 ny1 cy1, .slice ayw1 nyw1 cyw1, .slice ayv1 nyv1 cyv1], RdR ndK ay1 ny1 Hy1 y1, RdR maK ayw1 nyw1 Hyw1 yw1, RdR maK ayv1 nyv1 Hyv1 yv1, blk bka2 56 [.int .i64 0, .slice none 0 0], blk bka1 43 [.slice none 0 0, .slice none 0 0, .slice none 0 0]]) (good := fun x => x.2.1 ≤ 360 ∧ Math.drawnP x.2.2.2.2) (φs := fun x => [srcP bk ca bs cc, OwnR maK 28 2 x.1 x.2.1 x.2.2.1 x.2.2.2.1 x.2.2.2.2]) (val := fun x => .agg #[.int .i64 p, .slice x.1 x.2.1 x.2.2.1]) rfl Try.call176 trv1 rfl rfl (fun w M1 hs hk => spec_l22Random_c bk ca bs cc ay1 ny1 cy1 Hy1 y1 ayw1 nyw1 cyw1 Hyw1 yw1 ayv1 nyv1 cyv1 Hyv1 yv1 p w M1 hs (hk _ (Kn.nil kcode)) hok (hk _ (Kn.at_ 1 rfl)) (hk _ (Kn.at_ 2 rfl)) (hk _ (Kn.at_ 3 rfl)) (by assumption) (by omega)) ?_
  rintro ⟨ay2, ny2, cy2, Hy2, y2⟩ hr2
  try dsimp only at hr2
  refine rPieces (L' := [srcP bk ca bs cc, OwnR maK 28 2 ay2 ny2 cy2 Hy2 y2, blk bka6 43 [.slice ay1 ny1 cy1, .slice ayw1 nyw1 cyw1, .slice ayv1 nyv1 cyv1], RdR ndK ay1 ny1 Hy1 y1, RdR maK ayw1 nyw1 Hyw1 yw1, RdR maK ayv1 nyv1 Hyv1 yv1, blk bka2 56 [.int .i64 0, .slice none 0 0], blk bka1 43 [.slice none 0 0, .slice none 0 0, .slice none 0 0]]) (fun _ h => h) ?_
  refine rKnow (fun w hs => (show OwnR maK 28 2 ay2 ny2 cy2 Hy2 y2 w from hs.at_ 1 rfl).1) (fun lenn8 => ?_)
  refine alc Try.zeroValue56 rfl trv1 rfl rfl (fun bka9 hbka9 => ?_)
  refine stAl (vs := [.int .i64 p, .slice ay2 ny2 cy2]) 0 rfl Try.sizeOf56 trv rfl rfl rfl rfl rfl (by simp [Value.oneCell']) rfl ?_
  refine rNil ?_
  refine qSeq rfl ?_
  refine hSeq ?_
  refine hSeq ?_
  refine hReg (sq 0 (sl 1 sz)) (by kernel_rfl) ?_
  refine mvP rfl rfl rfl ?_
  refine rPieces (L' := [srcP bk ca bs cc, blk bka9 56 [.int .i64 p, .slice ay2 ny2 cy2], OwnR maK 28 2 ay2 ny2 cy2 Hy2 y2, blk bka6 43 [.slice ay1 ny1 cy1, .slice ayw1 nyw1 cyw1, .slice ayv1 nyv1 cyv1], RdR ndK ay1 ny1 Hy1 y1, RdR maK ayw1 nyw1 Hyw1 yw1, RdR maK ayv1 nyv1 Hyv1 yv1, blk bka2 56 [.int .i64 0, .slice none 0 0], blk bka1 43 [.slice none 0 0, .slice none 0 0, .slice none 0 0]]) (fun _ h => h.perm (pull (i := 1) rfl)) ?_
  refine callMK (α := Int) (Lf := [srcP bk ca bs cc]) (Lr := [blk bka9 56 [.int .i64 p, .slice ay2 ny2 cy2], OwnR maK 28 2 ay2 ny2 cy2 Hy2 y2, blk bka6 43 [.slice ay1 ny1 cy1, .slice ayw1 nyw1 cyw1, .slice ayv1 nyv1 cyv1], RdR ndK ay1 ny1 Hy1 y1, RdR maK ayw1 nyw1 Hyw1 yw1, RdR maK ayv1 nyv1 Hyv1 yv1, blk bka2 56 [.int .i64 0, .slice none 0 0], blk bka1 43 [.slice none 0 0, .slice none 0 0, .slice none 0 0]]) (good := fun x => 0 ≤ x ∧ (x < (20 : Int) ∨ x = 0)) (φs := fun x => [srcP bk ca bs cc]) (val := fun x => .int .i64 x) rfl Try.call95 trv1 rfl rfl (fun w M1 hs hk => src_next bk ca bs cc (20 : Int) w M1 hs (hk _ kcode) hok) ?_
  intro x3 hx3
  replace hx3 : 0 ≤ x3 ∧ x3 < (20 : Int) := by omega
  try dsimp only at hx3
  refine rPieces (L' := [srcP bk ca bs cc, blk bka9 56 [.int .i64 p, .slice ay2 ny2 cy2], OwnR maK 28 2 ay2 ny2 cy2 Hy2 y2, blk bka6 43 [.slice ay1 ny1 cy1, .slice ayw1 nyw1 cyw1, .slice ayv1 nyv1 cyv1], RdR ndK ay1 ny1 Hy1 y1, RdR maK ayw1 nyw1 Hyw1 yw1, RdR maK ayv1 nyv1 Hyv1 yv1, blk bka2 56 [.int .i64 0, .slice none 0 0], blk bka1 43 [.slice none 0 0, .slice none 0 0, .slice none 0 0]]) (fun _ h => h) ?_
  refine rNil ?_
  refine qSeq rfl ?_
  refine hBlk ?_
  refine hSeq ?_
  refine hReg (sq 0 (sq 1 sz)) (by kernel_rfl) ?_
  refine eql rfl rfl rfl rfl ?_
  refine asB rfl rfl rfl ?_
  refine rNil ?_
  refine qSeq rfl ?_
  refine hIfD rfl (fun c2 => ?_) (fun c2 => ?_)
  ·
   replace c2 : x3 = 0 := c2
   refine hSeq ?_
   refine hReg (sq 0 (sl 1 (sq 2 (sq 3 sz)))) (by kernel_rfl) ?_
   refine fld fl56_1 rfl rfl rfl ?_
   refine ldl Try.isAgg41 (cB 1 rfl rfl) trv rfl rfl rfl ?_
   refine lenS Try.runUnderlying41 rfl rfl rfl ?_
   refine gtr rfl rfl rfl rfl ?_
   refine rNil ?_
   refine qSeq rfl ?_
   refine hIfD rfl (fun c3 => ?_) (fun c3 => ?_)
   ·
    replace c3 : 0 < (ny2 : Int) := c3
    have hdr := Math.drawnP_at hr2.2 (i := 0) (by omega)
    refine hDraw (Ls := [blk bka9 56 [.int .i64 p, .slice ay2 ny2 cy2], OwnR maK 28 2 ay2 ny2 cy2 Hy2 y2]) (by kernel_rfl) (sq 0 (sq 1 (sq 2 (sq 3 (sq 4 (sq 5 (sq 6 (sq 7 (sq 8 (sq 9 (sq 10 (sl 11 (sl 12 (sq 13 (sq 14 (sf 15 sz)))))))))))))))) (by kernel_rfl) (.cons _ (.cons_cons _ (.cons_cons _ (.cons _ (.cons _ (.cons _ (.cons _ (.cons _ (.cons _ .slnil))))))))) ?_
    refine fld fl56_1 rfl rfl rfl ?_
    refine ldq Try.isAgg41 (cB 0 rfl rfl) rfl rfl rfl ?_
    refine ixRq (zn := 0) (y2.getD 0 []) el41 ((Kn.at_ 1 rfl).imp fun _ h => OwnR.rd h maK.ok) (fun _ h => h.pick [1, 1]) rfl rfl rfl rfl (by omega) (by omega) rfl (nth [] (by omega)) ?_
    intro be4 oe4 e4
    refine ldq Try.isAgg28 (Kn.fld e4 0 rfl) rfl rfl rfl ?_
    refine fld fl56_1 rfl rfl rfl ?_
    refine ldq Try.isAgg41 (cB 0 rfl rfl) rfl rfl rfl ?_
    refine ixRq (zn := 0) (y2.getD 0 []) el41 ((Kn.at_ 1 rfl).imp fun _ h => OwnR.rd h maK.ok) (fun _ h => h.pick [1, 1]) rfl rfl rfl rfl (by omega) (by omega) rfl (nth [] (by omega)) ?_
    intro be5 oe5 e5
    refine ldq Try.isAgg28 (Kn.fld e5 0 rfl) rfl rfl rfl ?_
    refine ixIq (zn := 0) el28 ((Kn.imp ((Kn.at_ (φ := OwnR maK 28 2 ay2 ny2 cy2 Hy2 y2) 1 rfl).imp fun _ h => OwnR.rd h maK.ok) fun _ h => h.kidM (nth [] (by omega)))) (fun _ h => h.pick [1, 1]) rfl rfl rfl rfl (by omega) (by omega) rfl ?_
    intro ae6 e6
    refine ldq Try.isAgg2 (e6) rfl rfl rfl ?_
    refine mvP rfl rfl rfl ?_
    refine bsl (fun _ _ h => h.pick [2, 2]) rfl rfl rfl (bsl28_3 (.int .i64 _) (.int .i64 _) (.int .i64 _) rfl rfl rfl) (fun bkl10 hbkl10 => ?_)
    refine rPieces (L' := [srcP bk ca bs cc, blk bkl10 2 [.int .i64 (-1), .int .i64 1, .int .i64 60], blk bka9 56 [.int .i64 p, .slice ay2 ny2 cy2], OwnR maK 28 2 ay2 ny2 cy2 Hy2 y2, blk bka6 43 [.slice ay1 ny1 cy1, .slice ayw1 nyw1 cyw1, .slice ayv1 nyv1 cyv1], RdR ndK ay1 ny1 Hy1 y1, RdR maK ayw1 nyw1 Hyw1 yw1, RdR maK ayv1 nyv1 Hyv1 yv1, blk bka2 56 [.int .i64 0, .slice none 0 0], blk bka1 43 [.slice none 0 0, .slice none 0 0, .slice none 0 0]]) (fun _ h => h.perm (pull (i := 1) rfl)) ?_
    refine callMK (α := Int) (Lf := [srcP bk ca bs cc, blk bkl10 2 [.int .i64 (-1), .int .i64 1, .int .i64 60]]) (Lr := [blk bka9 56 [.int .i64 p, .slice ay2 ny2 cy2], OwnR maK 28 2 ay2 ny2 cy2 Hy2 y2, blk bka6 43 [.slice ay1 ny1 cy1, .slice ayw1 nyw1 cyw1, .slice ayv1 nyv1 cyv1], RdR ndK ay1 ny1 Hy1 y1, RdR maK ayw1 nyw1 Hyw1 yw1, RdR maK ayv1 nyv1 Hyv1 yv1, blk bka2 56 [.int .i64 0, .slice none 0 0], blk bka1 43 [.slice none 0 0, .slice none 0 0, .slice none 0 0]]) (good := fun x => x ∈ ([.int .i64 (-1), .int .i64 1, .int .i64 60] : List Value).map toI) (φs := fun x => [srcP bk ca bs cc, blk bkl10 2 [.int .i64 (-1), .int .i64 1, .int .i64 60]]) (val := fun x => .int .i64 x) rfl Try.call155 (by exact (fun _ _ h => h.pick [2, 2])) rfl rfl (fun w M1 hs hk => src_pick bk ca bs cc bkl10 2 3 3 [.int .i64 (-1), .int .i64 1, .int .i64 60] w M1 hs (hk _ kcode) hok rfl rfl (by decide)) ?_
    intro x7 hx7
    try dsimp only at hx7
    refine rPieces (L' := [srcP bk ca bs cc, blk bkl10 2 [.int .i64 (-1), .int .i64 1, .int .i64 60], blk bka9 56 [.int .i64 p, .slice ay2 ny2 cy2], OwnR maK 28 2 ay2 ny2 cy2 Hy2 y2, blk bka6 43 [.slice ay1 ny1 cy1, .slice ayw1 nyw1 cyw1, .slice ayv1 nyv1 cyv1], RdR ndK ay1 ny1 Hy1 y1, RdR maK ayw1 nyw1 Hyw1 yw1, RdR maK ayv1 nyv1 Hyv1 yv1, blk bka2 56 [.int .i64 0, .slice none 0 0], blk bka1 43 [.slice none 0 0, .slice none 0 0, .slice none 0 0]]) (fun _ h => h) ?_
    replace hx7 : (-1 : Int) ≤ x7 ∧ x7 ≤ (60 : Int) := by have hm_ := hx7; simp [toI] at hm_; omega
    refine rPieces (L' := [blk bkl10 2 [.int .i64 (-1), .int .i64 1, .int .i64 60], srcP bk ca bs cc, blk bka9 56 [.int .i64 p, .slice ay2 ny2 cy2], OwnR maK 28 2 ay2 ny2 cy2 Hy2 y2, blk bka6 43 [.slice ay1 ny1 cy1, .slice ayw1 nyw1 cyw1, .slice ayv1 nyv1 cyv1], RdR ndK ay1 ny1 Hy1 y1, RdR maK ayw1 nyw1 Hyw1 yw1, RdR maK ayv1 nyv1 Hyv1 yv1, blk bka2 56 [.int .i64 0, .slice none 0 0], blk bka1 43 [.slice none 0 0, .slice none 0 0, .slice none 0 0]]) (fun _ h => h.perm (pull (i := 1) rfl)) ?_
    refine add rfl rfl rfl rfl (by omega) ?_
    refine rPieces (L' := [OwnR maK 28 2 ay2 ny2 cy2 Hy2 y2, blk bkl10 2 [.int .i64 (-1), .int .i64 1, .int .i64 60], srcP bk ca bs cc, blk bka9 56 [.int .i64 p, .slice ay2 ny2 cy2], blk bka6 43 [.slice ay1 ny1 cy1, .slice ayw1 nyw1 cyw1, .slice ayv1 nyv1 cyv1], RdR ndK ay1 ny1 Hy1 y1, RdR maK ayw1 nyw1 Hyw1 yw1, RdR maK ayv1 nyv1 Hyv1 yv1, blk bka2 56 [.int .i64 0, .slice none 0 0], blk bka1 43 [.slice none 0 0, .slice none 0 0, .slice none 0 0]]) (fun _ h => h.pick [3, 0, 0, 0, 0, 0, 0, 0, 0, 0]) ?_
    refine rPieces (L' := [OwnI 2 ((Hy2 0).1) ((y2.getD 0 []).length) ((Hy2 0).2) (y2.getD 0 []), OwnH maK 28 2 ay2 ny2 cy2 Hy2 y2 0, blk bkl10 2 [.int .i64 (-1), .int .i64 1, .int .i64 60], srcP bk ca bs cc, blk bka9 56 [.int .i64 p, .slice ay2 ny2 cy2], blk bka6 43 [.slice ay1 ny1 cy1, .slice ayw1 nyw1 cyw1, .slice ayv1 nyv1 cyv1], RdR ndK ay1 ny1 Hy1 y1, RdR maK ayw1 nyw1 Hyw1 yw1, RdR maK ayv1 nyv1 Hyv1 yv1, blk bka2 56 [.int .i64 0, .slice none 0 0], blk bka1 43 [.slice none 0 0, .slice none 0 0, .slice none 0 0]]) (fun _ h => Sep.lend h 0 (y2.getD 0 []) (nth [] (by omega))) ?_
    refine oxI (zn := 0) 0 rfl el28 rfl rfl rfl rfl (by omega) (by omega) rfl ?_
    intro gk8 hgk8
    refine stoIF (off := 0) (x := (((y2.getD 0 []).getD 0 0) + x7)) 0 rfl hgk8 Try.sizeOf2 rfl rfl rfl rfl (by omega) ?_
    refine rPieces (L' := [OwnR maK 28 2 ay2 ny2 cy2 Hy2 ((y2.set 0 (((y2.getD 0 []).set 0 ((((y2.getD 0 []).getD 0 0) + x7)))))), blk bkl10 2 [.int .i64 (-1), .int .i64 1, .int .i64 60], srcP bk ca bs cc, blk bka9 56 [.int .i64 p, .slice ay2 ny2 cy2], blk bka6 43 [.slice ay1 ny1 cy1, .slice ayw1 nyw1 cyw1, .slice ayv1 nyv1 cyv1], RdR ndK ay1 ny1 Hy1 y1, RdR maK ayw1 nyw1 Hyw1 yw1, RdR maK ayv1 nyv1 Hyv1 yv1, blk bka2 56 [.int .i64 0, .slice none 0 0], blk bka1 43 [.slice none 0 0, .slice none 0 0, .slice none 0 0]]) (fun _ h => Sep.back (x := (y2.getD 0 [])) ((y2.getD 0 []).set 0 ((((y2.getD 0 []).getD 0 0) + x7))) maK.ok h (nth [] (by omega)) (fun h1 h2 => by dsimp only [ndK, ndC, maK] at h1 h2 ⊢; rw [h1, h2]) rfl rfl) ?_
    refine rNil ?_
    refine qSeq rfl ?_
    refine hSeq ?_
    refine hDraw (Ls := [blk bka9 56 [.int .i64 p, .slice ay2 ny2 cy2], blk bka6 43 [.slice ay1 ny1 cy1, .slice ayw1 nyw1 cyw1, .slice ayv1 nyv1 cyv1]]) (by kernel_rfl) (sq 0 (sq 1 (sl 2 (sf 3 sz)))) (by kernel_rfl) (.cons _ (.cons _ (.cons _ (.cons_cons _ (.cons_cons _ (.cons _ (.cons _ (.cons _ (.cons _ (.cons _ .slnil)))))))))) ?_
    refine ldAq Try.isAgg43 Try.sizeOf43 (cBs 1 rfl) rfl rfl rfl rfl ?_
    refine ldAq Try.isAgg56 Try.sizeOf56 (cBs 0 rfl) rfl rfl rfl rfl ?_
    refine stAl (vs := [.slice ay1 ny1 cy1, .slice ayw1 nyw1 cyw1, .slice ayv1 nyv1 cyv1]) 9 rfl Try.sizeOf43 (fun _ h => h.pick [3, 3]) rfl rfl rfl rfl rfl (by simp [Value.oneCell']) rfl ?_
    refine stAf (vs := [.int .i64 p, .slice ay2 ny2 cy2]) 8 rfl Try.sizeOf56 rfl rfl rfl rfl rfl (by simp [Value.oneCell']) rfl ?_
    refine rNil ?_
    refine qSeq rfl ?_
    refine hRet ?_
    exact fun w hs => ⟨[_, _], ⟨⟨_, rfl, run_load_agg Try.isAgg43 Try.sizeOf43 rfl (cBs 9 rfl w hs)⟩, ⟨⟨_, rfl, run_load_agg Try.isAgg56 Try.sizeOf56 rfl (cBs 8 rfl w hs)⟩, trivial⟩⟩, ⟨(ay1, ny1, cy1, Hy1, y1, ayw1, nyw1, cyw1, Hyw1, yw1, ayv1, nyv1, cyv1, Hyv1, yv1, p, ay2, ny2, cy2, Hy2, (y2.set 0 (((y2.getD 0 []).set 0 ((((y2.getD 0 []).getD 0 0) + x7)))))), rfl, ⟨⟨by dsimp only; omega, ⟨by dsimp only; omega, by dsimp only; omega⟩, by dsimp only; omega⟩, by dsimp only; omega, by dsimp only; omega⟩, hs.pick [2, 4, 4, 4, 0]⟩⟩
   ·
    replace c3 : ¬ (0 < (ny2 : Int)) := c3
    refine hSkip ?_
    refine qSeq rfl ?_
    refine hSeq ?_
    refine hDraw (Ls := [blk bka9 56 [.int .i64 p, .slice ay2 ny2 cy2], blk bka6 43 [.slice ay1 ny1 cy1, .slice ayw1 nyw1 cyw1, .slice ayv1 nyv1 cyv1]]) (by kernel_rfl) (sq 0 (sq 1 (sl 2 (sf 3 sz)))) (by kernel_rfl) (.cons _ (.cons_cons _ (.cons _ (.cons_cons _ (.cons _ (.cons _ (.cons _ (.cons _ (.cons _ .slnil))))))))) ?_
    refine ldAq Try.isAgg43 Try.sizeOf43 (cBs 1 rfl) rfl rfl rfl rfl ?_
    refine ldAq Try.isAgg56 Try.sizeOf56 (cBs 0 rfl) rfl rfl rfl rfl ?_
    refine stAl (vs := [.slice ay1 ny1 cy1, .slice ayw1 nyw1 cyw1, .slice ayv1 nyv1 cyv1]) 8 rfl Try.sizeOf43 (fun _ h => h.pick [1, 2]) rfl rfl rfl rfl rfl (by simp [Value.oneCell']) rfl ?_
    refine stAf (vs := [.int .i64 p, .slice ay2 ny2 cy2]) 7 rfl Try.sizeOf56 rfl rfl rfl rfl rfl (by simp [Value.oneCell']) rfl ?_
    refine rNil ?_
    refine qSeq rfl ?_
    refine hRet ?_
    exact fun w hs => ⟨[_, _], ⟨⟨_, rfl, run_load_agg Try.isAgg43 Try.sizeOf43 rfl (cBs 8 rfl w hs)⟩, ⟨⟨_, rfl, run_load_agg Try.isAgg56 Try.sizeOf56 rfl (cBs 7 rfl w hs)⟩, trivial⟩⟩, ⟨(ay1, ny1, cy1, Hy1, y1, ayw1, nyw1, cyw1, Hyw1, yw1, ayv1, nyv1, cyv1, Hyv1, yv1, p, ay2, ny2, cy2, Hy2, y2), rfl, ⟨⟨by dsimp only; omega, ⟨by dsimp only; omega, by dsimp only; omega⟩, by dsimp only; omega⟩, by dsimp only; omega, by dsimp only; omega⟩, hs.pick [0, 3, 3, 3, 1]⟩⟩
  ·
   replace c2 : ¬ (x3 = 0) := c2
   refine hSeq ?_
   refine hReg (sq 0 (sq 1 sz)) (by kernel_rfl) ?_
   refine eql rfl rfl rfl rfl ?_
   refine asB rfl rfl rfl ?_
   refine rNil ?_
   refine qSeq rfl ?_
   refine hIfD rfl (fun c4 => ?_) (fun c4 => ?_)
   ·
    replace c4 : x3 = 1 := c4
    refine hReg (sq 0 (sq 1 (sq 2 (sl 3 (sl 4 (sq 5 (sl 6 sz))))))) (by kernel_rfl) ?_
    refine mvP rfl rfl rfl ?_
    refine mvI rfl rfl rfl ?_
    refine sub rfl rfl rfl rfl (by omega) ?_
    refine bsl trv1 rfl rfl rfl (bsl28_3 (.int .i64 _) (.int .i64 _) (.int .i64 _) rfl rfl rfl) (fun bkl13 hbkl13 => ?_)
    refine rPieces (L' := [srcP bk ca bs cc, blk bkl13 2 [.int .i64 (-1), .int .i64 (1 - p), .int .i64 2], blk bka9 56 [.int .i64 p, .slice ay2 ny2 cy2], OwnR maK 28 2 ay2 ny2 cy2 Hy2 y2, blk bka6 43 [.slice ay1 ny1 cy1, .slice ayw1 nyw1 cyw1, .slice ayv1 nyv1 cyv1], RdR ndK ay1 ny1 Hy1 y1, RdR maK ayw1 nyw1 Hyw1 yw1, RdR maK ayv1 nyv1 Hyv1 yv1, blk bka2 56 [.int .i64 0, .slice none 0 0], blk bka1 43 [.slice none 0 0, .slice none 0 0, .slice none 0 0]]) (fun _ h => h.perm (pull (i := 1) rfl)) ?_
    refine callMK (α := Int) (Lf := [srcP bk ca bs cc, blk bkl13 2 [.int .i64 (-1), .int .i64 (1 - p), .int .i64 2]]) (Lr := [blk bka9 56 [.int .i64 p, .slice ay2 ny2 cy2], OwnR maK 28 2 ay2 ny2 cy2 Hy2 y2, blk bka6 43 [.slice ay1 ny1 cy1, .slice ayw1 nyw1 cyw1, .slice ayv1 nyv1 cyv1], RdR ndK ay1 ny1 Hy1 y1, RdR maK ayw1 nyw1 Hyw1 yw1, RdR maK ayv1 nyv1 Hyv1 yv1, blk bka2 56 [.int .i64 0, .slice none 0 0], blk bka1 43 [.slice none 0 0, .slice none 0 0, .slice none 0 0]]) (good := fun x => x ∈ ([.int .i64 (-1), .int .i64 (1 - p), .int .i64 2] : List Value).map toI) (φs := fun x => [srcP bk ca bs cc, blk bkl13 2 [.int .i64 (-1), .int .i64 (1 - p), .int .i64 2]]) (val := fun x => .int .i64 x) rfl Try.call155 trv1 rfl rfl (fun w M1 hs hk => src_pick bk ca bs cc bkl13 2 3 3 [.int .i64 (-1), .int .i64 (1 - p), .int .i64 2] w M1 hs (hk _ kcode) hok rfl rfl (by decide)) ?_
    intro x9 hx9
    try dsimp only at hx9
    refine rPieces (L' := [srcP bk ca bs cc, blk bkl13 2 [.int .i64 (-1), .int .i64 (1 - p), .int .i64 2], blk bka9 56 [.int .i64 p, .slice ay2 ny2 cy2], OwnR maK 28 2 ay2 ny2 cy2 Hy2 y2, blk bka6 43 [.slice ay1 ny1 cy1, .slice ayw1 nyw1 cyw1, .slice ayv1 nyv1 cyv1], RdR ndK ay1 ny1 Hy1 y1, RdR maK ayw1 nyw1 Hyw1 yw1, RdR maK ayv1 nyv1 Hyv1 yv1, blk bka2 56 [.int .i64 0, .slice none 0 0], blk bka1 43 [.slice none 0 0, .slice none 0 0, .slice none 0 0]]) (fun _ h => h) ?_
    replace hx9 : x9 = (-1) ∨ x9 = (1 - p) ∨ x9 = 2 := by simpa [toI] using hx9
    refine fld fl56_0 rfl rfl rfl ?_
    refine stl (v := .int .i64 _) 2 rfl Try.sizeOf2 trv rfl rfl rfl rfl rfl (Nat.le_of_ble_eq_true rfl) ?_
    refine rNil ?_
    refine qSeq rfl ?_
    refine hSeq ?_
    refine hDraw (Ls := [blk bka9 56 [.int .i64 x9, .slice ay2 ny2 cy2], blk bka6 43 [.slice ay1 ny1 cy1, .slice ayw1 nyw1 cyw1, .slice ayv1 nyv1 cyv1]]) (by kernel_rfl) (sq 0 (sq 1 (sl 2 (sf 3 sz)))) (by kernel_rfl) (.cons _ (.cons _ (.cons_cons _ (.cons _ (.cons_cons _ (.cons _ (.cons _ (.cons _ (.cons _ (.cons _ .slnil)))))))))) ?_
    refine ldAq Try.isAgg43 Try.sizeOf43 (cBs 1 rfl) rfl rfl rfl rfl ?_
    refine ldAq Try.isAgg56 Try.sizeOf56 (cBs 0 rfl) rfl rfl rfl rfl ?_
    refine stAl (vs := [.slice ay1 ny1 cy1, .slice ayw1 nyw1 cyw1, .slice ayv1 nyv1 cyv1]) 9 rfl Try.sizeOf43 (fun _ h => h.pick [2, 3]) rfl rfl rfl rfl rfl (by simp [Value.oneCell']) rfl ?_
    refine stAf (vs := [.int .i64 x9, .slice ay2 ny2 cy2]) 8 rfl Try.sizeOf56 rfl rfl rfl rfl rfl (by simp [Value.oneCell']) rfl ?_
    refine rNil ?_
    refine qSeq rfl ?_
    refine hRet ?_
    exact fun w hs => ⟨[_, _], ⟨⟨_, rfl, run_load_agg Try.isAgg43 Try.sizeOf43 rfl (cBs 9 rfl w hs)⟩, ⟨⟨_, rfl, run_load_agg Try.isAgg56 Try.sizeOf56 rfl (cBs 8 rfl w hs)⟩, trivial⟩⟩, ⟨(ay1, ny1, cy1, Hy1, y1, ayw1, nyw1, cyw1, Hyw1, yw1, ayv1, nyv1, cyv1, Hyv1, yv1, x9, ay2, ny2, cy2, Hy2, y2), rfl, ⟨⟨by dsimp only; omega, ⟨by dsimp only; omega, by dsimp only; omega⟩, by dsimp only; omega⟩, by dsimp only; omega, by dsimp only; omega⟩, hs.pick [0, 4, 4, 4, 2]⟩⟩
   ·
    replace c4 : ¬ (x3 = 1) := c4
    refine hSeq ?_
    refine hReg (sq 0 (sq 1 sz)) (by kernel_rfl) ?_
    refine eql rfl rfl rfl rfl ?_
    refine asB rfl rfl rfl ?_
    refine rNil ?_
    refine qSeq rfl ?_
    refine hIfD rfl (fun c5 => ?_) (fun c5 => ?_)
    ·
     replace c5 : x3 = 2 := c5
     refine hReg (sq 0 (sl 1 (sl 2 (sl 3 (sl 4 (sq 5 (sl 6 sz))))))) (by kernel_rfl) ?_
     refine fld fl56_1 rfl rfl rfl ?_
     refine ldl Try.isAgg41 (cB 1 rfl rfl) trv rfl rfl rfl ?_
     refine bsl trv1 rfl rfl rfl (bsl28_1 (.int .i64 _) rfl) (fun bkl14 hbkl14 => ?_)
     refine bsl trv1 rfl rfl rfl (bsl41_1 (.slice _ _ _) rfl) (fun bkl15 hbkl15 => ?_)
     refine rPieces (fun _ h => Sep.litI h 1 [60] rfl rfl rfl) ?_
     refine apR (hd := ((some ⟨bkl14, 0, none⟩), 1)) (x := [60]) 4 1 0 maK.ok rfl rfl rfl (fun h => by first | rfl | (dsimp only at h; rw [h]; rfl) | (rw [h]; rfl) | exact congrArg (fun m => [Value.slice _ m _]) h) mk41 trv1 rfl rfl rfl rfl (by omega) ?_
     intro aq10 cq10
     refine fld fl56_1 rfl rfl rfl ?_
     refine stl (v := .slice _ _ _) 3 rfl Try.sizeOf41 trv rfl rfl rfl rfl rfl (Nat.le_of_ble_eq_true rfl) ?_
     refine rNil ?_
     refine qSeq rfl ?_
     refine hSeq ?_
     refine hDraw (Ls := [blk bka9 56 [.int .i64 p, .slice aq10 (ny2 + 1) cq10], blk bka6 43 [.slice ay1 ny1 cy1, .slice ayw1 nyw1 cyw1, .slice ayv1 nyv1 cyv1]]) (by kernel_rfl) (sq 0 (sq 1 (sl 2 (sf 3 sz)))) (by kernel_rfl) (.cons _ (.cons _ (.cons _ (.cons_cons _ (.cons_cons _ (.cons _ (.cons _ (.cons _ (.cons _ (.cons _ .slnil)))))))))) ?_
     refine ldAq Try.isAgg43 Try.sizeOf43 (cBs 1 rfl) rfl rfl rfl rfl ?_
     refine ldAq Try.isAgg56 Try.sizeOf56 (cBs 0 rfl) rfl rfl rfl rfl ?_
     refine stAl (vs := [.slice ay1 ny1 cy1, .slice ayw1 nyw1 cyw1, .slice ayv1 nyv1 cyv1]) 9 rfl Try.sizeOf43 (fun _ h => h.pick [3, 3]) rfl rfl rfl rfl rfl (by simp [Value.oneCell']) rfl ?_
     refine stAf (vs := [.int .i64 p, .slice aq10 (ny2 + 1) cq10]) 8 rfl Try.sizeOf56 rfl rfl rfl rfl rfl (by simp [Value.oneCell']) rfl ?_
     refine rNil ?_
     refine qSeq rfl ?_
     refine hRet ?_
     exact fun w hs => ⟨[_, _], ⟨⟨_, rfl, run_load_agg Try.isAgg43 Try.sizeOf43 rfl (cBs 9 rfl w hs)⟩, ⟨⟨_, rfl, run_load_agg Try.isAgg56 Try.sizeOf56 rfl (cBs 8 rfl w hs)⟩, trivial⟩⟩, ⟨(ay1, ny1, cy1, Hy1, y1, ayw1, nyw1, cyw1, Hyw1, yw1, ayv1, nyv1, cyv1, Hyv1, yv1, p, aq10, (ny2 + 1), cq10, (hset Hy2 y2.length ((some ⟨bkl14, 0, none⟩), 1)), (y2 ++ [[60]])), rfl, ⟨⟨by dsimp only; omega, ⟨by dsimp only; omega, by dsimp only; omega⟩, by dsimp only; omega⟩, by dsimp only; omega, by dsimp only; omega⟩, hs.pick [2, 4, 4, 4, 0]⟩⟩
    ·
     replace c5 : ¬ (x3 = 2) := c5
     refine hSkip ?_
     refine qSeq rfl ?_
     refine hSeq ?_
     refine hDraw (Ls := [blk bka9 56 [.int .i64 p, .slice ay2 ny2 cy2], blk bka6 43 [.slice ay1 ny1 cy1, .slice ayw1 nyw1 cyw1, .slice ayv1 nyv1 cyv1]]) (by kernel_rfl) (sq 0 (sq 1 (sl 2 (sf 3 sz)))) (by kernel_rfl) (.cons _ (.cons_cons _ (.cons _ (.cons_cons _ (.cons _ (.cons _ (.cons _ (.cons _ (.cons _ .slnil))))))))) ?_
     refine ldAq Try.isAgg43 Try.sizeOf43 (cBs 1 rfl) rfl rfl rfl rfl ?_
     refine ldAq Try.isAgg56 Try.sizeOf56 (cBs 0 rfl) rfl rfl rfl rfl ?_
     refine stAl (vs := [.slice ay1 ny1 cy1, .slice ayw1 nyw1 cyw1, .slice ayv1 nyv1 cyv1]) 8 rfl Try.sizeOf43 (fun _ h => h.pick [1, 2]) rfl rfl rfl rfl rfl (by simp [Value.oneCell']) rfl ?_
     refine stAf (vs := [.int .i64 p, .slice ay2 ny2 cy2]) 7 rfl Try.sizeOf56 rfl rfl rfl rfl rfl (by simp [Value.oneCell']) rfl ?_
     refine rNil ?_
     refine qSeq rfl ?_
     refine hRet ?_
     exact fun w hs => ⟨[_, _], ⟨⟨_, rfl, run_load_agg Try.isAgg43 Try.sizeOf43 rfl (cBs 8 rfl w hs)⟩, ⟨⟨_, rfl, run_load_agg Try.isAgg56 Try.sizeOf56 rfl (cBs 7 rfl w hs)⟩, trivial⟩⟩, ⟨(ay1, ny1, cy1, Hy1, y1, ayw1, nyw1, cyw1, Hyw1, yw1, ayv1, nyv1, cyv1, Hyv1, yv1, p, ay2, ny2, cy2, Hy2, y2), rfl, ⟨⟨by dsimp only; omega, ⟨by dsimp only; omega, by dsimp only; omega⟩, by dsimp only; omega⟩, by dsimp only; omega, by dsimp only; omega⟩, hs.pick [0, 3, 3, 3, 1]⟩⟩
set_option maxHeartbeats 4000000 in
theorem spec_l23Draw_c (bk : Nat) (ca : Option Addr) (bs : List Int) (cc : Nat) (w : World) (M0 : Nat → Prop) (hs0 : Sep w M0 [srcP bk ca bs cc] w) (kcode : Kn w M0 [] (CellsAt ca (bs.map (Value.int .u8)))) (hok : okBytes bs) :
  Calls Try.prog 141 #[.pointer (some ⟨bk, 0, none⟩)] w (Ret fun v w' => ∃ x : Option Addr × Nat × Nat × (Nat → Hd) × List Nd × Option Addr × Nat × Nat × (Nat → Hd) × List (List Int) × Option Addr × Nat × Nat × (Nat → Hd) × List (List Int) × Int × Option Addr × Nat × Nat × (Nat → Hd) × List (List Int) × Int × Option Addr × Nat × Nat × (Nat → Hd) × List (List Int), v = .tuple #[.agg #[.slice x.1 x.2.1 x.2.2.1, .slice x.2.2.2.2.2.1 x.2.2.2.2.2.2.1 x.2.2.2.2.2.2.2.1, .slice x.2.2.2.2.2.2.2.2.2.2.1 x.2.2.2.2.2.2.2.2.2.2.2.1 x.2.2.2.2.2.2.2.2.2.2.2.2.1], .agg #[.int .i64 x.2.2.2.2.2.2.2.2.2.2.2.2.2.2.2.1, .slice x.2.2.2.2.2.2.2.2.2.2.2.2.2.2.2.2.1 x.2.2.2.2.2.2.2.2.2.2.2.2.2.2.2.2.2.1 x.2.2.2.2.2.2.2.2.2.2.2.2.2.2.2.2.2.2.1], .agg #[.int .i64 x.2.2.2.2.2.2.2.2.2.2.2.2.2.2.2.2.2.2.2.2.2.1, .slice x.2.2.2.2.2.2.2.2.2.2.2.2.2.2.2.2.2.2.2.2.2.2.1 x.2.2.2.2.2.2.2.2.2.2.2.2.2.2.2.2.2.2.2.2.2.2.2.1 x.2.2.2.2.2.2.2.2.2.2.2.2.2.2.2.2.2.2.2.2.2.2.2.2.1]] ∧ ((x.2.1 ≤ 250 ∧ ((1 ≤ x.2.2.2.2.2.2.1 ∧ x.2.2.2.2.2.2.1 ≤ 4) ∧ x.2.2.2.2.2.2.2.2.2.2.2.1 ≤ 4)) ∧ ((-1 ≤ x.2.2.2.2.2.2.2.2.2.2.2.2.2.2.2.1 ∧ x.2.2.2.2.2.2.2.2.2.2.2.2.2.2.2.1 ≤ 2) ∧ x.2.2.2.2.2.2.2.2.2.2.2.2.2.2.2.2.2.1 ≤ 361) ∧ ((0 ≤ x.2.2.2.2.2.2.2.2.2.2.2.2.2.2.2.2.2.2.2.2.2.1 ∧ x.2.2.2.2.2.2.2.2.2.2.2.2.2.2.2.2.2.2.2.2.2.1 ≤ 1) ∧ x.2.2.2.2.2.2.2.2.2.2.2.2.2.2.2.2.2.2.2.2.2.2.2.1 ≤ 361)) ∧ Sep w M0 [srcP bk ca bs cc, RdR ndK x.1 x.2.1 x.2.2.2.1 x.2.2.2.2.1, RdR maK x.2.2.2.2.2.1 x.2.2.2.2.2.2.1 x.2.2.2.2.2.2.2.2.1 x.2.2.2.2.2.2.2.2.2.1, RdR maK x.2.2.2.2.2.2.2.2.2.2.1 x.2.2.2.2.2.2.2.2.2.2.2.1 x.2.2.2.2.2.2.2.2.2.2.2.2.2.1 x.2.2.2.2.2.2.2.2.2.2.2.2.2.2.1, OwnR maK 28 2 x.2.2.2.2.2.2.2.2.2.2.2.2.2.2.2.2.1 x.2.2.2.2.2.2.2.2.2.2.2.2.2.2.2.2.2.1 x.2.2.2.2.2.2.2.2.2.2.2.2.2.2.2.2.2.2.1 x.2.2.2.2.2.2.2.2.2.2.2.2.2.2.2.2.2.2.2.1 x.2.2.2.2.2.2.2.2.2.2.2.2.2.2.2.2.2.2.2.2.1, OwnR maK 28 2 x.2.2.2.2.2.2.2.2.2.2.2.2.2.2.2.2.2.2.2.2.2.2.1 x.2.2.2.2.2.2.2.2.2.2.2.2.2.2.2.2.2.2.2.2.2.2.2.1 x.2.2.2.2.2.2.2.2.2.2.2.2.2.2.2.2.2.2.2.2.2.2.2.2.1 x.2.2.2.2.2.2.2.2.2.2.2.2.2.2.2.2.2.2.2.2.2.2.2.2.2.1 x.2.2.2.2.2.2.2.2.2.2.2.2.2.2.2.2.2.2.2.2.2.2.2.2.2.2] w') := by
 refine fn (M := M0) (rs := [.cell 2 43, .cell 3 56, .cell 4 56]) Try.func141 rfl Try.ntmps141 rfl rfl hs0 ?_
 refine hSeq ?_
 refine hReg (sl 0 (sl 1 (sl 2 sz))) (by kernel_rfl) ?_
 refine alc Try.zeroValue43 rfl trv1 rfl rfl (fun bka1 hbka1 => ?_)
 refine alc Try.zeroValue56 rfl trv1 rfl rfl (fun bka2 hbka2 => ?_)
 refine alc Try.zeroValue56 rfl trv1 rfl rfl (fun bka3 hbka3 => ?_)
 refine rNil ?_
 refine qSeq rfl ?_
 refine hSeq ?_
 refine hReg (sq 0 (sl 1 (sq 2 (sq 3 (sq 4 (sl 5 (sl 6 (sl 7 (sl 8 sz))))))))) (by kernel_rfl) ?_
 refine mvP rfl rfl rfl ?_
 refine rPieces (L' := [srcP bk ca bs cc, blk bka3 56 [.int .i64 0, .slice none 0 0], blk bka2 56 [.int .i64 0, .slice none 0 0], blk bka1 43 [.slice none 0 0, .slice none 0 0, .slice none 0 0]]) (fun _ h => h.perm (pull (i := 3) rfl)) ?_
 refine callMK (α := Option Addr × Nat × Nat × (Nat → Hd) × List Nd × Option Addr × Nat × Nat × (Nat → Hd) × List (List Int) × Option Addr × Nat × Nat × (Nat → Hd) × List (List Int) × Int × Option Addr × Nat × Nat × (Nat → Hd) × List (List Int)) (Lf := [srcP bk ca bs cc]) (Lr := [blk bka3 56 [.int .i64 0, .slice none 0 0], blk bka2 56 [.int .i64 0, .slice none 0 0], blk bka1 43 [.slice none 0 0, .slice none 0 0, .slice none 0 0]]) (good := fun x => (x.2.1 ≤ 250 ∧ ((1 ≤ x.2.2.2.2.2.2.1 ∧ x.2.2.2.2.2.2.1 ≤ 4) ∧ x.2.2.2.2.2.2.2.2.2.2.2.1 ≤ 4)) ∧ ((-1 ≤ x.2.2.2.2.2.2.2.2.2.2.2.2.2.2.2.1 ∧ x.2.2.2.2.2.2.2.2.2.2.2.2.2.2.2.1 ≤ 2) ∧ x.2.2.2.2.2.2.2.2.2.2.2.2.2.2.2.2.2.1 ≤ 361)) (φs := fun x => [srcP bk ca bs cc, RdR ndK x.1 x.2.1 x.2.2.2.1 x.2.2.2.2.1, RdR maK x.2.2.2.2.2.1 x.2.2.2.2.2.2.1 x.2.2.2.2.2.2.2.2.1 x.2.2.2.2.2.2.2.2.2.1, RdR maK x.2.2.2.2.2.2.2.2.2.2.1 x.2.2.2.2.2.2.2.2.2.2.2.1 x.2.2.2.2.2.2.2.2.2.2.2.2.2.1 x.2.2.2.2.2.2.2.2.2.2.2.2.2.2.1, OwnR maK 28 2 x.2.2.2.2.2.2.2.2.2.2.2.2.2.2.2.2.1 x.2.2.2.2.2.2.2.2.2.2.2.2.2.2.2.2.2.1 x.2.2.2.2.2.2.2.2.2.2.2.2.2.2.2.2.2.2.1 x.2.2.2.2.2.2.2.2.2.2.2.2.2.2.2.2.2.2.2.1 x.2.2.2.2.2.2.2.2.2.2.2.2.2.2.2.2.2.2.2.2]) (val := fun x => .tuple #[.agg #[.slice x.1 x.2.1 x.2.2.1, .slice x.2.2.2.2.2.1 x.2.2.2.2.2.2.1 x.2.2.2.2.2.2.2.1, .slice x.2.2.2.2.2.2.2.2.2.2.1 x.2.2.2.2.2.2.2.2.2.2.2.1 x.2.2.2.2.2.2.2.2.2.2.2.2.1], .agg #[.int .i64 x.2.2.2.2.2.2.2.2.2.2.2.2.2.2.2.1, .slice x.2.2.2.2.2.2.2.2.2.2.2.2.2.2.2.2.1 x.2.2.2.2.2.2.2.2.2.2.2.2.2.2.2.2.2.1 x.2.2.2.2.2.2.2.2.2.2.2.2.2.2.2.2.2.2.1]]) rfl Try.call174 trv1 rfl rfl (fun w M1 hs hk => spec_l22Draw_c bk ca bs cc (0 : Int) w M1 hs (hk _ kcode) hok (by omega)) ?_
 rintro ⟨ay1, ny1, cy1, Hy1, y1, ayw1, nyw1, cyw1, Hyw1, yw1, ayv1, nyv1, cyv1, Hyv1, yv1, pl1, ayp1, nyp1, cyp1, Hyp1, yp1⟩ hr1
 try dsimp only at hr1
 refine rPieces (L' := [srcP bk ca bs cc, RdR ndK ay1 ny1 Hy1 y1, RdR maK ayw1 nyw1 Hyw1 yw1, RdR maK ayv1 nyv1 Hyv1 yv1, OwnR maK 28 2 ayp1 nyp1 cyp1 Hyp1 yp1, blk bka3 56 [.int .i64 0, .slice none 0 0], blk bka2 56 [.int .i64 0, .slice none 0 0], blk bka1 43 [.slice none 0 0, .slice none 0 0, .slice none 0 0]]) (fun _ h => h) ?_
 refine rKnow (fun w hs => (show RdR ndK ay1 ny1 Hy1 y1 w from hs.at_ 1 rfl).1) (fun lenn4 => ?_)
 refine rKnow (fun w hs => (show RdR maK ayw1 nyw1 Hyw1 yw1 w from hs.at_ 2 rfl).1) (fun lenn5 => ?_)
 refine rKnow (fun w hs => (show RdR maK ayv1 nyv1 Hyv1 yv1 w from hs.at_ 3 rfl).1) (fun lenn6 => ?_)
 refine rKnow (fun w hs => (show OwnR maK 28 2 ayp1 nyp1 cyp1 Hyp1 yp1 w from hs.at_ 4 rfl).1) (fun lenn7 => ?_)
 refine mv rfl rfl rfl ?_
 refine ext rfl rfl rfl rfl ?_
 refine ext rfl rfl rfl rfl ?_
 refine alc Try.zeroValue43 rfl trv1 rfl rfl (fun bka8 hbka8 => ?_)
 refine alc Try.zeroValue56 rfl trv1 rfl rfl (fun bka9 hbka9 => ?_)
 refine stAl (vs := [.slice ay1 ny1 cy1, .slice ayw1 nyw1 cyw1, .slice ayv1 nyv1 cyv1]) 1 rfl Try.sizeOf43 trv rfl rfl rfl rfl rfl (by simp [Value.oneCell']) rfl ?_
 refine stAl (vs := [.int .i64 pl1, .slice ayp1 nyp1 cyp1]) 0 rfl Try.sizeOf56 trv rfl rfl rfl rfl rfl (by simp [Value.oneCell']) rfl ?_
 refine rNil ?_
 refine qSeq rfl ?_
 refine hSeq ?_
 refine hSeq ?_
 refine hReg (sl 0 (sl 1 (sq 2 sz))) (by kernel_rfl) ?_
 refine ldAl Try.isAgg43 Try.sizeOf43 (cBs 1 rfl) trv rfl rfl rfl rfl ?_
 refine callP (v := .bool (Math.isGame y1 yw1 yv1)) Try.call108 trv rfl rfl (fun w hs => spec_IsGame_c _ ny1 cy1 _ _ _ nyw1 cyw1 _ _ _ nyv1 cyv1 _ _ w (hs.at_ 3 rfl) (hs.at_ 4 rfl) (hs.at_ 5 rfl)) ?_
 refine not rfl rfl rfl ?_
 refine rNil ?_
 refine qSeq rfl ?_
 refine hIfN rfl (fun c1 => ?_) (fun c1 => ?_)
 ·
  replace c1 : (Math.isGame y1 yw1 yv1) = false := c1
  refine hSeq ?_
  refine hDraw (Ls := [blk bka9 56 [.int .i64 pl1, .slice ayp1 nyp1 cyp1], blk bka8 43 [.slice ay1 ny1 cy1, .slice ayw1 nyw1 cyw1, .slice ayv1 nyv1 cyv1]]) (by kernel_rfl) (sq 0 (sq 1 (sq 2 (sl 3 (sl 4 (sf 5 sz)))))) (by kernel_rfl) (.cons_cons _ (.cons_cons _ (.cons _ (.cons _ (.cons _ (.cons _ (.cons _ (.cons _ (.cons _ (.cons _ .slnil)))))))))) ?_
  refine ldAq Try.isAgg43 Try.sizeOf43 (cBs 1 rfl) rfl rfl rfl rfl ?_
  refine ldAq Try.isAgg56 Try.sizeOf56 (cBs 0 rfl) rfl rfl rfl rfl ?_
  refine bld rfl rfl rfl (bld56_0 (.int .i64 _) rfl) ?_
  refine stAl (vs := [.slice ay1 ny1 cy1, .slice ayw1 nyw1 cyw1, .slice ayv1 nyv1 cyv1]) 9 rfl Try.sizeOf43 (fun _ h => h.pick [0, 0]) rfl rfl rfl rfl rfl (by simp [Value.oneCell']) rfl ?_
  refine stAl (vs := [.int .i64 pl1, .slice ayp1 nyp1 cyp1]) 8 rfl Try.sizeOf56 (fun _ h => h.pick [0, 0]) rfl rfl rfl rfl rfl (by simp [Value.oneCell']) rfl ?_
  refine stAf (vs := [.int .i64 1, .slice none 0 0]) 7 rfl Try.sizeOf56 rfl rfl rfl rfl rfl (by simp [Value.oneCell']) rfl ?_
  refine rNil ?_
  refine qSeq rfl ?_
  refine hRet ?_
  refine knP (fun _ h => Sep.nilR maK 28 2 (fun _ => (none, 0)) h) ?_
  exact fun w hs => ⟨[_, _, _], ⟨⟨_, rfl, run_load_agg Try.isAgg43 Try.sizeOf43 rfl (cBs 10 rfl w hs)⟩, ⟨⟨_, rfl, run_load_agg Try.isAgg56 Try.sizeOf56 rfl (cBs 9 rfl w hs)⟩, ⟨⟨_, rfl, run_load_agg Try.isAgg56 Try.sizeOf56 rfl (cBs 8 rfl w hs)⟩, trivial⟩⟩⟩, ⟨(ay1, ny1, cy1, Hy1, y1, ayw1, nyw1, cyw1, Hyw1, yw1, ayv1, nyv1, cyv1, Hyv1, yv1, pl1, ayp1, nyp1, cyp1, Hyp1, yp1, 1, none, 0, 0, (fun _ => (none, 0)), []), rfl, ⟨⟨by dsimp only; omega, ⟨by dsimp only; omega, by dsimp only; omega⟩, by dsimp only; omega⟩, ⟨by dsimp only; omega, by dsimp only; omega⟩, by dsimp only; omega, by dsimp only; omega⟩, hs.pick [3, 3, 3, 3, 3, 0]⟩⟩
 ·
  replace c1 : (Math.isGame y1 yw1 yv1) = true := c1
  refine hSkip ?_
  refine qSeq rfl ?_
  refine hSeq ?_
  refine hReg (sq 0 (sl 1 (sl 2 (sl 3 (sl 4 sz))))) (by kernel_rfl) ?_
  refine mvP rfl rfl rfl ?_
  refine ldAl Try.isAgg43 Try.sizeOf43 (cBs 1 rfl) trv rfl rfl rfl rfl ?_
  refine rPieces (L' := [srcP bk ca bs cc, blk bka9 56 [.int .i64 pl1, .slice ayp1 nyp1 cyp1], blk bka8 43 [.slice ay1 ny1 cy1, .slice ayw1 nyw1 cyw1, .slice ayv1 nyv1 cyv1], RdR ndK ay1 ny1 Hy1 y1, RdR maK ayw1 nyw1 Hyw1 yw1, RdR maK ayv1 nyv1 Hyv1 yv1, OwnR maK 28 2 ayp1 nyp1 cyp1 Hyp1 yp1, blk bka3 56 [.int .i64 0, .slice none 0 0], blk bka2 56 [.int .i64 0, .slice none 0 0], blk bka1 43 [.slice none 0 0, .slice none 0 0, .slice none 0 0]]) (fun _ h => h.perm (pull (i := 2) rfl)) ?_
  refine callMR (α := Option Addr × Nat × Nat × (Nat → Hd) × List (List Int)) (Lf := [srcP bk ca bs cc]) (Lr := [blk bka9 56 [.int .i64 pl1, .slice ayp1 nyp1 cyp1], blk bka8 43 [.slice ay1 ny1 cy1, .slice ayw1 nyw1 cyw1, .slice ayv1 nyv1 cyv1], RdR ndK ay1 ny1 Hy1 y1, RdR maK ayw1 nyw1 Hyw1 yw1, RdR maK ayv1 nyv1 Hyv1 yv1, OwnR maK 28 2 ayp1 nyp1 cyp1 Hyp1 yp1, blk bka3 56 [.int .i64 0, .slice none 0 0], blk bka2 56 [.int .i64 0, .slice none 0 0], blk bka1 43 [.slice none 0 0, .slice none 0 0, .slice none 0 0]]) (good := fun x => x.2.1 ≤ 360 ∧ Math.drawnP x.2.2.2.2) (φs := fun x => [srcP bk ca bs cc, OwnR maK 28 2 x.1 x.2.1 x.2.2.1 x.2.2.2.1 x.2.2.2.2]) (val := fun x => .agg #[.int .i64 (1 : Int), .slice x.1 x.2.1 x.2.2.1]) rfl Try.call176 trv1 rfl rfl (fun w M1 hs hk => spec_l22Random_c bk ca bs cc ay1 ny1 cy1 Hy1 y1 ayw1 nyw1 cyw1 Hyw1 yw1 ayv1 nyv1 cyv1 Hyv1 yv1 (1 : Int) w M1 hs (hk _ (Kn.nil kcode)) hok (hk _ (Kn.at_ 2 rfl)) (hk _ (Kn.at_ 3 rfl)) (hk _ (Kn.at_ 4 rfl)) (by assumption) (by omega)) ?_
  rintro ⟨ay2, ny2, cy2, Hy2, y2⟩ hr2
  try dsimp only at hr2
  refine rPieces (L' := [srcP bk ca bs cc, OwnR maK 28 2 ay2 ny2 cy2 Hy2 y2, blk bka9 56 [.int .i64 pl1, .slice ayp1 nyp1 cyp1], blk bka8 43 [.slice ay1 ny1 cy1, .slice ayw1 nyw1 cyw1, .slice ayv1 nyv1 cyv1], RdR ndK ay1 ny1 Hy1 y1, RdR maK ayw1 nyw1 Hyw1 yw1, RdR maK ayv1 nyv1 Hyv1 yv1, OwnR maK 28 2 ayp1 nyp1 cyp1 Hyp1 yp1, blk bka3 56 [.int .i64 0, .slice none 0 0], blk bka2 56 [.int .i64 0, .slice none 0 0], blk bka1 43 [.slice none 0 0, .slice none 0 0, .slice none 0 0]]) (fun _ h => h) ?_
  refine rKnow (fun w hs => (show OwnR maK 28 2 ay2 ny2 cy2 Hy2 y2 w from hs.at_ 1 rfl).1) (fun lenn11 => ?_)
  refine alc Try.zeroValue56 rfl trv1 rfl rfl (fun bka12 hbka12 => ?_)
  refine stAl (vs := [.int .i64 (1 : Int), .slice ay2 ny2 cy2]) 0 rfl Try.sizeOf56 trv rfl rfl rfl rfl rfl (by simp [Value.oneCell']) rfl ?_
  refine rNil ?_
  refine qSeq rfl ?_
  refine hSeq ?_
  refine hSeq ?_
  refine hReg (sq 0 (sl 1 (sq 2 sz))) (by kernel_rfl) ?_
  refine mvP rfl rfl rfl ?_
  refine rPieces (L' := [srcP bk ca bs cc, blk bka12 56 [.int .i64 (1 : Int), .slice ay2 ny2 cy2], OwnR maK 28 2 ay2 ny2 cy2 Hy2 y2, blk bka9 56 [.int .i64 pl1, .slice ayp1 nyp1 cyp1], blk bka8 43 [.slice ay1 ny1 cy1, .slice ayw1 nyw1 cyw1, .slice ayv1 nyv1 cyv1], RdR ndK ay1 ny1 Hy1 y1, RdR maK ayw1 nyw1 Hyw1 yw1, RdR maK ayv1 nyv1 Hyv1 yv1, OwnR maK 28 2 ayp1 nyp1 cyp1 Hyp1 yp1, blk bka3 56 [.int .i64 0, .slice none 0 0], blk bka2 56 [.int .i64 0, .slice none 0 0], blk bka1 43 [.slice none 0 0, .slice none 0 0, .slice none 0 0]]) (fun _ h => h.perm (pull (i := 1) rfl)) ?_
  refine callMK (α := Int) (Lf := [srcP bk ca bs cc]) (Lr := [blk bka12 56 [.int .i64 (1 : Int), .slice ay2 ny2 cy2], OwnR maK 28 2 ay2 ny2 cy2 Hy2 y2, blk bka9 56 [.int .i64 pl1, .slice ayp1 nyp1 cyp1], blk bka8 43 [.slice ay1 ny1 cy1, .slice ayw1 nyw1 cyw1, .slice ayv1 nyv1 cyv1], RdR ndK ay1 ny1 Hy1 y1, RdR maK ayw1 nyw1 Hyw1 yw1, RdR maK ayv1 nyv1 Hyv1 yv1, OwnR maK 28 2 ayp1 nyp1 cyp1 Hyp1 yp1, blk bka3 56 [.int .i64 0, .slice none 0 0], blk bka2 56 [.int .i64 0, .slice none 0 0], blk bka1 43 [.slice none 0 0, .slice none 0 0, .slice none 0 0]]) (good := fun x => 0 ≤ x ∧ (x < (6 : Int) ∨ x = 0)) (φs := fun x => [srcP bk ca bs cc]) (val := fun x => .int .i64 x) rfl Try.call95 trv1 rfl rfl (fun w M1 hs hk => src_next bk ca bs cc (6 : Int) w M1 hs (hk _ kcode) hok) ?_
  intro x3 hx3
  replace hx3 : 0 ≤ x3 ∧ x3 < (6 : Int) := by omega
  try dsimp only at hx3
  refine rPieces (L' := [srcP bk ca bs cc, blk bka12 56 [.int .i64 (1 : Int), .slice ay2 ny2 cy2], OwnR maK 28 2 ay2 ny2 cy2 Hy2 y2, blk bka9 56 [.int .i64 pl1, .slice ayp1 nyp1 cyp1], blk bka8 43 [.slice ay1 ny1 cy1, .slice ayw1 nyw1 cyw1, .slice ayv1 nyv1 cyv1], RdR ndK ay1 ny1 Hy1 y1, RdR maK ayw1 nyw1 Hyw1 yw1, RdR maK ayv1 nyv1 Hyv1 yv1, OwnR maK 28 2 ayp1 nyp1 cyp1 Hyp1 yp1, blk bka3 56 [.int .i64 0, .slice none 0 0], blk bka2 56 [.int .i64 0, .slice none 0 0], blk bka1 43 [.slice none 0 0, .slice none 0 0, .slice none 0 0]]) (fun _ h => h) ?_
  refine eql rfl rfl rfl rfl ?_
  refine rNil ?_
  refine qSeq rfl ?_
  refine hIfD rfl (fun c2 => ?_) (fun c2 => ?_)
  ·
   replace c2 : x3 = 0 := c2
   have hul : (Math.unif y1 (Math.sets y1 nyw1 1)).length = (Math.sets y1 nyw1 1).length := by unfold Math.unif; rw [List.length_map]
   have hsl := Math.sets_len (z := y1) (k := nyw1) (p := 1) (by omega)
   have hTl := (Math.isTree_ok (Math.isGame_ok (show Math.isGame y1 yw1 yv1 = true by assumption)).1).1
   refine hReg (sl 0 (sl 1 (sl 2 sz))) (by kernel_rfl) ?_
   refine ldAl Try.isAgg43 Try.sizeOf43 (cBs 4 rfl) trv rfl rfl rfl rfl ?_
   refine callS Try.call121 trv1 rfl rfl (fun w hs => spec_l22Uniform_c _ ny1 cy1 _ _ _ nyw1 cyw1 _ _ _ nyv1 cyv1 _ _ _ w (hs.at_ 5 rfl) (hs.at_ 6 rfl) (hs.at_ 7 rfl) (by assumption) (by omega)) ?_
   rintro ⟨ay4, ny4, cy4, Hy4, y4⟩ hr4
   dsimp only at hr4
   subst y4
   refine rPieces (L' := [OwnR maK 28 2 ay4 ny4 cy4 Hy4 (((Math.unif y1 (Math.sets y1 nyw1 (1 : Int))))), srcP bk ca bs cc, blk bka12 56 [.int .i64 (1 : Int), .slice ay2 ny2 cy2], OwnR maK 28 2 ay2 ny2 cy2 Hy2 y2, blk bka9 56 [.int .i64 pl1, .slice ayp1 nyp1 cyp1], blk bka8 43 [.slice ay1 ny1 cy1, .slice ayw1 nyw1 cyw1, .slice ayv1 nyv1 cyv1], RdR ndK ay1 ny1 Hy1 y1, RdR maK ayw1 nyw1 Hyw1 yw1, RdR maK ayv1 nyv1 Hyv1 yv1, OwnR maK 28 2 ayp1 nyp1 cyp1 Hyp1 yp1, blk bka3 56 [.int .i64 0, .slice none 0 0], blk bka2 56 [.int .i64 0, .slice none 0 0], blk bka1 43 [.slice none 0 0, .slice none 0 0, .slice none 0 0]]) (fun _ h => h) ?_
   refine rKnow (fun w hs => (show OwnR maK 28 2 ay4 ny4 cy4 Hy4 (((Math.unif y1 (Math.sets y1 nyw1 (1 : Int))))) w from hs.at_ 0 rfl).1) (fun lenn13 => ?_)
   refine stAl (vs := [.int .i64 (1 : Int), .slice ay4 ny4 cy4]) 2 rfl Try.sizeOf56 trv rfl rfl rfl rfl rfl (by simp [Value.oneCell']) rfl ?_
   refine rNil ?_
   refine qSeq rfl ?_
   refine hSeq ?_
   refine hSeq ?_
   refine hReg (sq 0 (sl 1 (sq 2 sz))) (by kernel_rfl) ?_
   refine mvP rfl rfl rfl ?_
   refine rPieces (L' := [srcP bk ca bs cc, OwnR maK 28 2 ay4 ny4 cy4 Hy4 (((Math.unif y1 (Math.sets y1 nyw1 (1 : Int))))), blk bka12 56 [.int .i64 (1 : Int), .slice ay4 ny4 cy4], OwnR maK 28 2 ay2 ny2 cy2 Hy2 y2, blk bka9 56 [.int .i64 pl1, .slice ayp1 nyp1 cyp1], blk bka8 43 [.slice ay1 ny1 cy1, .slice ayw1 nyw1 cyw1, .slice ayv1 nyv1 cyv1], RdR ndK ay1 ny1 Hy1 y1, RdR maK ayw1 nyw1 Hyw1 yw1, RdR maK ayv1 nyv1 Hyv1 yv1, OwnR maK 28 2 ayp1 nyp1 cyp1 Hyp1 yp1, blk bka3 56 [.int .i64 0, .slice none 0 0], blk bka2 56 [.int .i64 0, .slice none 0 0], blk bka1 43 [.slice none 0 0, .slice none 0 0, .slice none 0 0]]) (fun _ h => h.perm (pull (i := 1) rfl)) ?_
   refine callMK (α := Int) (Lf := [srcP bk ca bs cc]) (Lr := [OwnR maK 28 2 ay4 ny4 cy4 Hy4 (((Math.unif y1 (Math.sets y1 nyw1 (1 : Int))))), blk bka12 56 [.int .i64 (1 : Int), .slice ay4 ny4 cy4], OwnR maK 28 2 ay2 ny2 cy2 Hy2 y2, blk bka9 56 [.int .i64 pl1, .slice ayp1 nyp1 cyp1], blk bka8 43 [.slice ay1 ny1 cy1, .slice ayw1 nyw1 cyw1, .slice ayv1 nyv1 cyv1], RdR ndK ay1 ny1 Hy1 y1, RdR maK ayw1 nyw1 Hyw1 yw1, RdR maK ayv1 nyv1 Hyv1 yv1, OwnR maK 28 2 ayp1 nyp1 cyp1 Hyp1 yp1, blk bka3 56 [.int .i64 0, .slice none 0 0], blk bka2 56 [.int .i64 0, .slice none 0 0], blk bka1 43 [.slice none 0 0, .slice none 0 0, .slice none 0 0]]) (good := fun x => 0 ≤ x ∧ (x < (20 : Int) ∨ x = 0)) (φs := fun x => [srcP bk ca bs cc]) (val := fun x => .int .i64 x) rfl Try.call95 trv1 rfl rfl (fun w M1 hs hk => src_next bk ca bs cc (20 : Int) w M1 hs (hk _ kcode) hok) ?_
   intro x5 hx5
   replace hx5 : 0 ≤ x5 ∧ x5 < (20 : Int) := by omega
   try dsimp only at hx5
   refine rPieces (L' := [srcP bk ca bs cc, OwnR maK 28 2 ay4 ny4 cy4 Hy4 (((Math.unif y1 (Math.sets y1 nyw1 (1 : Int))))), blk bka12 56 [.int .i64 (1 : Int), .slice ay4 ny4 cy4], OwnR maK 28 2 ay2 ny2 cy2 Hy2 y2, blk bka9 56 [.int .i64 pl1, .slice ayp1 nyp1 cyp1], blk bka8 43 [.slice ay1 ny1 cy1, .slice ayw1 nyw1 cyw1, .slice ayv1 nyv1 cyv1], RdR ndK ay1 ny1 Hy1 y1, RdR maK ayw1 nyw1 Hyw1 yw1, RdR maK ayv1 nyv1 Hyv1 yv1, OwnR maK 28 2 ayp1 nyp1 cyp1 Hyp1 yp1, blk bka3 56 [.int .i64 0, .slice none 0 0], blk bka2 56 [.int .i64 0, .slice none 0 0], blk bka1 43 [.slice none 0 0, .slice none 0 0, .slice none 0 0]]) (fun _ h => h) ?_
   refine eql rfl rfl rfl rfl ?_
   refine rNil ?_
   refine qSeq rfl ?_
   refine hIfD rfl (fun c3 => ?_) (fun c3 => ?_)
   ·
    replace c3 : x5 = 0 := c3
    refine hReg (sq 0 (sl 1 sz)) (by kernel_rfl) ?_
    refine fld fl56_0 rfl rfl rfl ?_
    refine stl (v := .int .i64 _) 2 rfl Try.sizeOf2 trv rfl rfl rfl rfl rfl (Nat.le_of_ble_eq_true rfl) ?_
    refine rNil ?_
    refine qSeq rfl ?_
    refine hSeq ?_
    refine hDraw (Ls := [blk bka12 56 [.int .i64 0, .slice ay4 ny4 cy4], blk bka9 56 [.int .i64 pl1, .slice ayp1 nyp1 cyp1], blk bka8 43 [.slice ay1 ny1 cy1, .slice ayw1 nyw1 cyw1, .slice ayv1 nyv1 cyv1]]) (by kernel_rfl) (sq 0 (sq 1 (sq 2 (sl 3 (sl 4 (sf 5 sz)))))) (by kernel_rfl) (.cons _ (.cons _ (.cons_cons _ (.cons _ (.cons_cons _ (.cons_cons _ (.cons _ (.cons _ (.cons _ (.cons _ (.cons _ (.cons _ (.cons _ .slnil))))))))))))) ?_
    refine ldAq Try.isAgg43 Try.sizeOf43 (cBs 2 rfl) rfl rfl rfl rfl ?_
    refine ldAq Try.isAgg56 Try.sizeOf56 (cBs 1 rfl) rfl rfl rfl rfl ?_
    refine ldAq Try.isAgg56 Try.sizeOf56 (cBs 0 rfl) rfl rfl rfl rfl ?_
    refine stAl (vs := [.slice ay1 ny1 cy1, .slice ayw1 nyw1 cyw1, .slice ayv1 nyv1 cyv1]) 12 rfl Try.sizeOf43 (fun _ h => h.pick [2, 3, 3]) rfl rfl rfl rfl rfl (by simp [Value.oneCell']) rfl ?_
    refine stAl (vs := [.int .i64 pl1, .slice ayp1 nyp1 cyp1]) 11 rfl Try.sizeOf56 (fun _ h => h.pick [2, 3, 3]) rfl rfl rfl rfl rfl (by simp [Value.oneCell']) rfl ?_
    refine stAf (vs := [.int .i64 0, .slice ay4 ny4 cy4]) 10 rfl Try.sizeOf56 rfl rfl rfl rfl rfl (by simp [Value.oneCell']) rfl ?_
    refine rNil ?_
    refine qSeq rfl ?_
    refine hRet ?_
    exact fun w hs => ⟨[_, _, _], ⟨⟨_, rfl, run_load_agg Try.isAgg43 Try.sizeOf43 rfl (cBs 12 rfl w hs)⟩, ⟨⟨_, rfl, run_load_agg Try.isAgg56 Try.sizeOf56 rfl (cBs 11 rfl w hs)⟩, ⟨⟨_, rfl, run_load_agg Try.isAgg56 Try.sizeOf56 rfl (cBs 10 rfl w hs)⟩, trivial⟩⟩⟩, ⟨(ay1, ny1, cy1, Hy1, y1, ayw1, nyw1, cyw1, Hyw1, yw1, ayv1, nyv1, cyv1, Hyv1, yv1, pl1, ayp1, nyp1, cyp1, Hyp1, yp1, 0, ay4, ny4, cy4, Hy4, ((Math.unif y1 (Math.sets y1 nyw1 (1 : Int))))), rfl, ⟨⟨by dsimp only; omega, ⟨by dsimp only; omega, by dsimp only; omega⟩, by dsimp only; omega⟩, ⟨by dsimp only; omega, by dsimp only; omega⟩, by dsimp only; omega, by dsimp only; omega⟩, hs.pick [0, 5, 5, 5, 5, 0]⟩⟩
   ·
    replace c3 : ¬ (x5 = 0) := c3
    refine hSkip ?_
    refine qSeq rfl ?_
    refine hSeq ?_
    refine hDraw (Ls := [blk bka12 56 [.int .i64 (1 : Int), .slice ay4 ny4 cy4], blk bka9 56 [.int .i64 pl1, .slice ayp1 nyp1 cyp1], blk bka8 43 [.slice ay1 ny1 cy1, .slice ayw1 nyw1 cyw1, .slice ayv1 nyv1 cyv1]]) (by kernel_rfl) (sq 0 (sq 1 (sq 2 (sl 3 (sl 4 (sf 5 sz)))))) (by kernel_rfl) (.cons _ (.cons _ (.cons_cons _ (.cons _ (.cons_cons _ (.cons_cons _ (.cons _ (.cons _ (.cons _ (.cons _ (.cons _ (.cons _ (.cons _ .slnil))))))))))))) ?_
    refine ldAq Try.isAgg43 Try.sizeOf43 (cBs 2 rfl) rfl rfl rfl rfl ?_
    refine ldAq Try.isAgg56 Try.sizeOf56 (cBs 1 rfl) rfl rfl rfl rfl ?_
    refine ldAq Try.isAgg56 Try.sizeOf56 (cBs 0 rfl) rfl rfl rfl rfl ?_
    refine stAl (vs := [.slice ay1 ny1 cy1, .slice ayw1 nyw1 cyw1, .slice ayv1 nyv1 cyv1]) 12 rfl Try.sizeOf43 (fun _ h => h.pick [2, 3, 3]) rfl rfl rfl rfl rfl (by simp [Value.oneCell']) rfl ?_
    refine stAl (vs := [.int .i64 pl1, .slice ayp1 nyp1 cyp1]) 11 rfl Try.sizeOf56 (fun _ h => h.pick [2, 3, 3]) rfl rfl rfl rfl rfl (by simp [Value.oneCell']) rfl ?_
    refine stAf (vs := [.int .i64 (1 : Int), .slice ay4 ny4 cy4]) 10 rfl Try.sizeOf56 rfl rfl rfl rfl rfl (by simp [Value.oneCell']) rfl ?_
    refine rNil ?_
    refine qSeq rfl ?_
    refine hRet ?_
    exact fun w hs => ⟨[_, _, _], ⟨⟨_, rfl, run_load_agg Try.isAgg43 Try.sizeOf43 rfl (cBs 12 rfl w hs)⟩, ⟨⟨_, rfl, run_load_agg Try.isAgg56 Try.sizeOf56 rfl (cBs 11 rfl w hs)⟩, ⟨⟨_, rfl, run_load_agg Try.isAgg56 Try.sizeOf56 rfl (cBs 10 rfl w hs)⟩, trivial⟩⟩⟩, ⟨(ay1, ny1, cy1, Hy1, y1, ayw1, nyw1, cyw1, Hyw1, yw1, ayv1, nyv1, cyv1, Hyv1, yv1, pl1, ayp1, nyp1, cyp1, Hyp1, yp1, (1 : Int), ay4, ny4, cy4, Hy4, ((Math.unif y1 (Math.sets y1 nyw1 (1 : Int))))), rfl, ⟨⟨by dsimp only; omega, ⟨by dsimp only; omega, by dsimp only; omega⟩, by dsimp only; omega⟩, ⟨by dsimp only; omega, by dsimp only; omega⟩, by dsimp only; omega, by dsimp only; omega⟩, hs.pick [0, 5, 5, 5, 5, 0]⟩⟩
  ·
   replace c2 : ¬ (x3 = 0) := c2
   refine hSkip ?_
   refine qSeq rfl ?_
   refine hSeq ?_
   refine hSeq ?_
   refine hReg (sq 0 (sl 1 (sq 2 sz))) (by kernel_rfl) ?_
   refine mvP rfl rfl rfl ?_
   refine callMK (α := Int) (Lf := [srcP bk ca bs cc]) (Lr := [blk bka12 56 [.int .i64 (1 : Int), .slice ay2 ny2 cy2], OwnR maK 28 2 ay2 ny2 cy2 Hy2 y2, blk bka9 56 [.int .i64 pl1, .slice ayp1 nyp1 cyp1], blk bka8 43 [.slice ay1 ny1 cy1, .slice ayw1 nyw1 cyw1, .slice ayv1 nyv1 cyv1], RdR ndK ay1 ny1 Hy1 y1, RdR maK ayw1 nyw1 Hyw1 yw1, RdR maK ayv1 nyv1 Hyv1 yv1, OwnR maK 28 2 ayp1 nyp1 cyp1 Hyp1 yp1, blk bka3 56 [.int .i64 0, .slice none 0 0], blk bka2 56 [.int .i64 0, .slice none 0 0], blk bka1 43 [.slice none 0 0, .slice none 0 0, .slice none 0 0]]) (good := fun x => 0 ≤ x ∧ (x < (20 : Int) ∨ x = 0)) (φs := fun x => [srcP bk ca bs cc]) (val := fun x => .int .i64 x) rfl Try.call95 trv1 rfl rfl (fun w M1 hs hk => src_next bk ca bs cc (20 : Int) w M1 hs (hk _ kcode) hok) ?_
   intro x6 hx6
   replace hx6 : 0 ≤ x6 ∧ x6 < (20 : Int) := by omega
   try dsimp only at hx6
   refine rPieces (L' := [srcP bk ca bs cc, blk bka12 56 [.int .i64 (1 : Int), .slice ay2 ny2 cy2], OwnR maK 28 2 ay2 ny2 cy2 Hy2 y2, blk bka9 56 [.int .i64 pl1, .slice ayp1 nyp1 cyp1], blk bka8 43 [.slice ay1 ny1 cy1, .slice ayw1 nyw1 cyw1, .slice ayv1 nyv1 cyv1], RdR ndK ay1 ny1 Hy1 y1, RdR maK ayw1 nyw1 Hyw1 yw1, RdR maK ayv1 nyv1 Hyv1 yv1, OwnR maK 28 2 ayp1 nyp1 cyp1 Hyp1 yp1, blk bka3 56 [.int .i64 0, .slice none 0 0], blk bka2 56 [.int .i64 0, .slice none 0 0], blk bka1 43 [.slice none 0 0, .slice none 0 0, .slice none 0 0]]) (fun _ h => h) ?_
   refine eql rfl rfl rfl rfl ?_
   refine rNil ?_
   refine qSeq rfl ?_
   refine hIfD rfl (fun c4 => ?_) (fun c4 => ?_)
   ·
    replace c4 : x6 = 0 := c4
    refine hReg (sq 0 (sl 1 sz)) (by kernel_rfl) ?_
    refine fld fl56_0 rfl rfl rfl ?_
    refine stl (v := .int .i64 _) 1 rfl Try.sizeOf2 trv rfl rfl rfl rfl rfl (Nat.le_of_ble_eq_true rfl) ?_
    refine rNil ?_
    refine qSeq rfl ?_
    refine hSeq ?_
    refine hDraw (Ls := [blk bka12 56 [.int .i64 0, .slice ay2 ny2 cy2], blk bka9 56 [.int .i64 pl1, .slice ayp1 nyp1 cyp1], blk bka8 43 [.slice ay1 ny1 cy1, .slice ayw1 nyw1 cyw1, .slice ayv1 nyv1 cyv1]]) (by kernel_rfl) (sq 0 (sq 1 (sq 2 (sl 3 (sl 4 (sf 5 sz)))))) (by kernel_rfl) (.cons _ (.cons_cons _ (.cons _ (.cons_cons _ (.cons_cons _ (.cons _ (.cons _ (.cons _ (.cons _ (.cons _ (.cons _ (.cons _ .slnil)))))))))))) ?_
    refine ldAq Try.isAgg43 Try.sizeOf43 (cBs 2 rfl) rfl rfl rfl rfl ?_
    refine ldAq Try.isAgg56 Try.sizeOf56 (cBs 1 rfl) rfl rfl rfl rfl ?_
    refine ldAq Try.isAgg56 Try.sizeOf56 (cBs 0 rfl) rfl rfl rfl rfl ?_
    refine stAl (vs := [.slice ay1 ny1 cy1, .slice ayw1 nyw1 cyw1, .slice ayv1 nyv1 cyv1]) 11 rfl Try.sizeOf43 (fun _ h => h.pick [1, 2, 2]) rfl rfl rfl rfl rfl (by simp [Value.oneCell']) rfl ?_
    refine stAl (vs := [.int .i64 pl1, .slice ayp1 nyp1 cyp1]) 10 rfl Try.sizeOf56 (fun _ h => h.pick [1, 2, 2]) rfl rfl rfl rfl rfl (by simp [Value.oneCell']) rfl ?_
    refine stAf (vs := [.int .i64 0, .slice ay2 ny2 cy2]) 9 rfl Try.sizeOf56 rfl rfl rfl rfl rfl (by simp [Value.oneCell']) rfl ?_
    refine rNil ?_
    refine qSeq rfl ?_
    refine hRet ?_
    exact fun w hs => ⟨[_, _, _], ⟨⟨_, rfl, run_load_agg Try.isAgg43 Try.sizeOf43 rfl (cBs 11 rfl w hs)⟩, ⟨⟨_, rfl, run_load_agg Try.isAgg56 Try.sizeOf56 rfl (cBs 10 rfl w hs)⟩, ⟨⟨_, rfl, run_load_agg Try.isAgg56 Try.sizeOf56 rfl (cBs 9 rfl w hs)⟩, trivial⟩⟩⟩, ⟨(ay1, ny1, cy1, Hy1, y1, ayw1, nyw1, cyw1, Hyw1, yw1, ayv1, nyv1, cyv1, Hyv1, yv1, pl1, ayp1, nyp1, cyp1, Hyp1, yp1, 0, ay2, ny2, cy2, Hy2, y2), rfl, ⟨⟨by dsimp only; omega, ⟨by dsimp only; omega, by dsimp only; omega⟩, by dsimp only; omega⟩, ⟨by dsimp only; omega, by dsimp only; omega⟩, by dsimp only; omega, by dsimp only; omega⟩, hs.pick [0, 4, 4, 4, 4, 1]⟩⟩
   ·
    replace c4 : ¬ (x6 = 0) := c4
    refine hSkip ?_
    refine qSeq rfl ?_
    refine hSeq ?_
    refine hDraw (Ls := [blk bka12 56 [.int .i64 (1 : Int), .slice ay2 ny2 cy2], blk bka9 56 [.int .i64 pl1, .slice ayp1 nyp1 cyp1], blk bka8 43 [.slice ay1 ny1 cy1, .slice ayw1 nyw1 cyw1, .slice ayv1 nyv1 cyv1]]) (by kernel_rfl) (sq 0 (sq 1 (sq 2 (sl 3 (sl 4 (sf 5 sz)))))) (by kernel_rfl) (.cons _ (.cons_cons _ (.cons _ (.cons_cons _ (.cons_cons _ (.cons _ (.cons _ (.cons _ (.cons _ (.cons _ (.cons _ (.cons _ .slnil)))))))))))) ?_
    refine ldAq Try.isAgg43 Try.sizeOf43 (cBs 2 rfl) rfl rfl rfl rfl ?_
    refine ldAq Try.isAgg56 Try.sizeOf56 (cBs 1 rfl) rfl rfl rfl rfl ?_
    refine ldAq Try.isAgg56 Try.sizeOf56 (cBs 0 rfl) rfl rfl rfl rfl ?_
    refine stAl (vs := [.slice ay1 ny1 cy1, .slice ayw1 nyw1 cyw1, .slice ayv1 nyv1 cyv1]) 11 rfl Try.sizeOf43 (fun _ h => h.pick [1, 2, 2]) rfl rfl rfl rfl rfl (by simp [Value.oneCell']) rfl ?_
    refine stAl (vs := [.int .i64 pl1, .slice ayp1 nyp1 cyp1]) 10 rfl Try.sizeOf56 (fun _ h => h.pick [1, 2, 2]) rfl rfl rfl rfl rfl (by simp [Value.oneCell']) rfl ?_
    refine stAf (vs := [.int .i64 (1 : Int), .slice ay2 ny2 cy2]) 9 rfl Try.sizeOf56 rfl rfl rfl rfl rfl (by simp [Value.oneCell']) rfl ?_
    refine rNil ?_
    refine qSeq rfl ?_
    refine hRet ?_
    exact fun w hs => ⟨[_, _, _], ⟨⟨_, rfl, run_load_agg Try.isAgg43 Try.sizeOf43 rfl (cBs 11 rfl w hs)⟩, ⟨⟨_, rfl, run_load_agg Try.isAgg56 Try.sizeOf56 rfl (cBs 10 rfl w hs)⟩, ⟨⟨_, rfl, run_load_agg Try.isAgg56 Try.sizeOf56 rfl (cBs 9 rfl w hs)⟩, trivial⟩⟩⟩, ⟨(ay1, ny1, cy1, Hy1, y1, ayw1, nyw1, cyw1, Hyw1, yw1, ayv1, nyv1, cyv1, Hyv1, yv1, pl1, ayp1, nyp1, cyp1, Hyp1, yp1, (1 : Int), ay2, ny2, cy2, Hy2, y2), rfl, ⟨⟨by dsimp only; omega, ⟨by dsimp only; omega, by dsimp only; omega⟩, by dsimp only; omega⟩, ⟨by dsimp only; omega, by dsimp only; omega⟩, by dsimp only; omega, by dsimp only; omega⟩, hs.pick [0, 4, 4, 4, 4, 1]⟩⟩
end Go.Proofs.Ytjengglpbdgmnaa
/- Contracts of games and strategies that laws draw. Their conditions stand in each. -/
namespace Go.Proofs.Ytjengglpbdgmnaa
open Go Go.RowKit V
set_option linter.unusedVariables false
set_option linter.unusedSimpArgs false
set_option maxRecDepth 100000
set_option maxHeartbeats 4000000 in
theorem spec_DrawGameNumber_c (ca : Option Addr) (bs : List Int) (cc : Nat) (w : World) (rcode : CellsAt ca (bs.map (Value.int .u8)) w) (hok : okBytes bs) :
  Calls Try.prog 79 #[.slice ca bs.length cc] w (Ret fun v w' => ∃ x : Option Addr × Nat × Nat × (Nat → Hd) × List Nd × Option Addr × Nat × Nat × (Nat → Hd) × List (List Int) × Option Addr × Nat × Nat × (Nat → Hd) × List (List Int) × Int × Option Addr × Nat × Nat × (Nat → Hd) × List (List Int) × Int × Option Addr × Nat × Nat × (Nat → Hd) × List (List Int), v = .tuple #[.agg #[.slice x.1 x.2.1 x.2.2.1, .slice x.2.2.2.2.2.1 x.2.2.2.2.2.2.1 x.2.2.2.2.2.2.2.1, .slice x.2.2.2.2.2.2.2.2.2.2.1 x.2.2.2.2.2.2.2.2.2.2.2.1 x.2.2.2.2.2.2.2.2.2.2.2.2.1], .agg #[.int .i64 x.2.2.2.2.2.2.2.2.2.2.2.2.2.2.2.1, .slice x.2.2.2.2.2.2.2.2.2.2.2.2.2.2.2.2.1 x.2.2.2.2.2.2.2.2.2.2.2.2.2.2.2.2.2.1 x.2.2.2.2.2.2.2.2.2.2.2.2.2.2.2.2.2.2.1], .agg #[.int .i64 x.2.2.2.2.2.2.2.2.2.2.2.2.2.2.2.2.2.2.2.2.2.1, .slice x.2.2.2.2.2.2.2.2.2.2.2.2.2.2.2.2.2.2.2.2.2.2.1 x.2.2.2.2.2.2.2.2.2.2.2.2.2.2.2.2.2.2.2.2.2.2.2.1 x.2.2.2.2.2.2.2.2.2.2.2.2.2.2.2.2.2.2.2.2.2.2.2.2.1]] ∧ (x.2.1 ≤ 250 ∧ ((1 ≤ x.2.2.2.2.2.2.1 ∧ x.2.2.2.2.2.2.1 ≤ 4) ∧ x.2.2.2.2.2.2.2.2.2.2.2.1 ≤ 4) ∧ ((-1 ≤ x.2.2.2.2.2.2.2.2.2.2.2.2.2.2.2.1 ∧ x.2.2.2.2.2.2.2.2.2.2.2.2.2.2.2.1 ≤ 2) ∧ x.2.2.2.2.2.2.2.2.2.2.2.2.2.2.2.2.2.1 ≤ 361) ∧ ((0 ≤ x.2.2.2.2.2.2.2.2.2.2.2.2.2.2.2.2.2.2.2.2.2.1 ∧ x.2.2.2.2.2.2.2.2.2.2.2.2.2.2.2.2.2.2.2.2.2.1 ≤ 1) ∧ x.2.2.2.2.2.2.2.2.2.2.2.2.2.2.2.2.2.2.2.2.2.2.2.1 ≤ 361)) ∧ Sep w none_ [RdR ndK x.1 x.2.1 x.2.2.2.1 x.2.2.2.2.1, RdR maK x.2.2.2.2.2.1 x.2.2.2.2.2.2.1 x.2.2.2.2.2.2.2.2.1 x.2.2.2.2.2.2.2.2.2.1, RdR maK x.2.2.2.2.2.2.2.2.2.2.1 x.2.2.2.2.2.2.2.2.2.2.2.1 x.2.2.2.2.2.2.2.2.2.2.2.2.2.1 x.2.2.2.2.2.2.2.2.2.2.2.2.2.2.1, OwnR maK 28 2 x.2.2.2.2.2.2.2.2.2.2.2.2.2.2.2.2.1 x.2.2.2.2.2.2.2.2.2.2.2.2.2.2.2.2.2.1 x.2.2.2.2.2.2.2.2.2.2.2.2.2.2.2.2.2.2.1 x.2.2.2.2.2.2.2.2.2.2.2.2.2.2.2.2.2.2.2.1 x.2.2.2.2.2.2.2.2.2.2.2.2.2.2.2.2.2.2.2.2.1, OwnR maK 28 2 x.2.2.2.2.2.2.2.2.2.2.2.2.2.2.2.2.2.2.2.2.2.2.1 x.2.2.2.2.2.2.2.2.2.2.2.2.2.2.2.2.2.2.2.2.2.2.2.1 x.2.2.2.2.2.2.2.2.2.2.2.2.2.2.2.2.2.2.2.2.2.2.2.2.1 x.2.2.2.2.2.2.2.2.2.2.2.2.2.2.2.2.2.2.2.2.2.2.2.2.2.1 x.2.2.2.2.2.2.2.2.2.2.2.2.2.2.2.2.2.2.2.2.2.2.2.2.2.2] w') := by
 have kcode : Kn w none_ [] (CellsAt ca (bs.map (Value.int .u8))) := fun w' hs => rcode.ext hs.upd
 refine fn (M := none_) (rs := [.cell 2 43, .cell 3 56, .cell 4 56]) Try.func79 rfl Try.ntmps79 rfl rfl (Sep.start _ _) ?_
 refine hSeq ?_
 refine hReg (sl 0 (sl 1 (sl 2 sz))) (by kernel_rfl) ?_
 refine alc Try.zeroValue43 rfl trv1 rfl rfl (fun bka1 hbka1 => ?_)
 refine alc Try.zeroValue56 rfl trv1 rfl rfl (fun bka2 hbka2 => ?_)
 refine alc Try.zeroValue56 rfl trv1 rfl rfl (fun bka3 hbka3 => ?_)
 refine rNil ?_
 refine qSeq rfl ?_
 refine hSeq ?_
 refine hReg (sq 0 (sl 1 (sl 2 (sq 3 (sq 4 (sq 5 (sl 6 (sl 7 (sl 8 sz))))))))) (by kernel_rfl) ?_
 refine mvS rfl rfl rfl ?_
 refine callN (α := Nat) (val := fun x => .pointer (some ⟨x, 0, none⟩)) (good := fun _ => True) (φ := fun x => srcP x ca bs cc) Try.call92 trv1 rfl rfl (fun w hs => (l01From_c ca bs cc w (kcode w (hs.sub (List.nil_sublist _))) hok).mono fun e w1 ⟨v, h0, bk, h1, h2, h3, h4⟩ => ⟨v, h0, bk, h1, trivial, h3, h4⟩) ?_
 rintro bks4 -
 refine callMK (α := Option Addr × Nat × Nat × (Nat → Hd) × List Nd × Option Addr × Nat × Nat × (Nat → Hd) × List (List Int) × Option Addr × Nat × Nat × (Nat → Hd) × List (List Int) × Int × Option Addr × Nat × Nat × (Nat → Hd) × List (List Int) × Int × Option Addr × Nat × Nat × (Nat → Hd) × List (List Int)) (Lf := [srcP bks4 ca bs cc]) (Lr := [blk bka3 56 [.int .i64 0, .slice none 0 0], blk bka2 56 [.int .i64 0, .slice none 0 0], blk bka1 43 [.slice none 0 0, .slice none 0 0, .slice none 0 0]]) (good := fun x => (x.2.1 ≤ 250 ∧ ((1 ≤ x.2.2.2.2.2.2.1 ∧ x.2.2.2.2.2.2.1 ≤ 4) ∧ x.2.2.2.2.2.2.2.2.2.2.2.1 ≤ 4)) ∧ ((-1 ≤ x.2.2.2.2.2.2.2.2.2.2.2.2.2.2.2.1 ∧ x.2.2.2.2.2.2.2.2.2.2.2.2.2.2.2.1 ≤ 2) ∧ x.2.2.2.2.2.2.2.2.2.2.2.2.2.2.2.2.2.1 ≤ 361) ∧ ((0 ≤ x.2.2.2.2.2.2.2.2.2.2.2.2.2.2.2.2.2.2.2.2.2.1 ∧ x.2.2.2.2.2.2.2.2.2.2.2.2.2.2.2.2.2.2.2.2.2.1 ≤ 1) ∧ x.2.2.2.2.2.2.2.2.2.2.2.2.2.2.2.2.2.2.2.2.2.2.2.1 ≤ 361)) (φs := fun x => [srcP bks4 ca bs cc, RdR ndK x.1 x.2.1 x.2.2.2.1 x.2.2.2.2.1, RdR maK x.2.2.2.2.2.1 x.2.2.2.2.2.2.1 x.2.2.2.2.2.2.2.2.1 x.2.2.2.2.2.2.2.2.2.1, RdR maK x.2.2.2.2.2.2.2.2.2.2.1 x.2.2.2.2.2.2.2.2.2.2.2.1 x.2.2.2.2.2.2.2.2.2.2.2.2.2.1 x.2.2.2.2.2.2.2.2.2.2.2.2.2.2.1, OwnR maK 28 2 x.2.2.2.2.2.2.2.2.2.2.2.2.2.2.2.2.1 x.2.2.2.2.2.2.2.2.2.2.2.2.2.2.2.2.2.1 x.2.2.2.2.2.2.2.2.2.2.2.2.2.2.2.2.2.2.1 x.2.2.2.2.2.2.2.2.2.2.2.2.2.2.2.2.2.2.2.1 x.2.2.2.2.2.2.2.2.2.2.2.2.2.2.2.2.2.2.2.2.1, OwnR maK 28 2 x.2.2.2.2.2.2.2.2.2.2.2.2.2.2.2.2.2.2.2.2.2.2.1 x.2.2.2.2.2.2.2.2.2.2.2.2.2.2.2.2.2.2.2.2.2.2.2.1 x.2.2.2.2.2.2.2.2.2.2.2.2.2.2.2.2.2.2.2.2.2.2.2.2.1 x.2.2.2.2.2.2.2.2.2.2.2.2.2.2.2.2.2.2.2.2.2.2.2.2.2.1 x.2.2.2.2.2.2.2.2.2.2.2.2.2.2.2.2.2.2.2.2.2.2.2.2.2.2]) (val := fun x => .tuple #[.agg #[.slice x.1 x.2.1 x.2.2.1, .slice x.2.2.2.2.2.1 x.2.2.2.2.2.2.1 x.2.2.2.2.2.2.2.1, .slice x.2.2.2.2.2.2.2.2.2.2.1 x.2.2.2.2.2.2.2.2.2.2.2.1 x.2.2.2.2.2.2.2.2.2.2.2.2.1], .agg #[.int .i64 x.2.2.2.2.2.2.2.2.2.2.2.2.2.2.2.1, .slice x.2.2.2.2.2.2.2.2.2.2.2.2.2.2.2.2.1 x.2.2.2.2.2.2.2.2.2.2.2.2.2.2.2.2.2.1 x.2.2.2.2.2.2.2.2.2.2.2.2.2.2.2.2.2.2.1], .agg #[.int .i64 x.2.2.2.2.2.2.2.2.2.2.2.2.2.2.2.2.2.2.2.2.2.1, .slice x.2.2.2.2.2.2.2.2.2.2.2.2.2.2.2.2.2.2.2.2.2.2.1 x.2.2.2.2.2.2.2.2.2.2.2.2.2.2.2.2.2.2.2.2.2.2.2.1 x.2.2.2.2.2.2.2.2.2.2.2.2.2.2.2.2.2.2.2.2.2.2.2.2.1]]) rfl Try.call141 trv1 rfl rfl (fun w M1 hs hk => spec_l23Draw_c bks4 ca bs cc  w M1 hs (hk _ kcode) hok ) ?_
 rintro ⟨ay1, ny1, cy1, Hy1, y1, ayw1, nyw1, cyw1, Hyw1, yw1, ayv1, nyv1, cyv1, Hyv1, yv1, pl1, ayp1, nyp1, cyp1, Hyp1, yp1, ql1, ayq1, nyq1, cyq1, Hyq1, yq1⟩ hr1
 try dsimp only at hr1
 refine rPieces (L' := [srcP bks4 ca bs cc, RdR ndK ay1 ny1 Hy1 y1, RdR maK ayw1 nyw1 Hyw1 yw1, RdR maK ayv1 nyv1 Hyv1 yv1, OwnR maK 28 2 ayp1 nyp1 cyp1 Hyp1 yp1, OwnR maK 28 2 ayq1 nyq1 cyq1 Hyq1 yq1, blk bka3 56 [.int .i64 0, .slice none 0 0], blk bka2 56 [.int .i64 0, .slice none 0 0], blk bka1 43 [.slice none 0 0, .slice none 0 0, .slice none 0 0]]) (fun _ h => h) ?_
 refine rKnow (fun w hs => (show RdR ndK ay1 ny1 Hy1 y1 w from hs.at_ 1 rfl).1) (fun lenn5 => ?_)
 refine rKnow (fun w hs => (show RdR maK ayw1 nyw1 Hyw1 yw1 w from hs.at_ 2 rfl).1) (fun lenn6 => ?_)
 refine rKnow (fun w hs => (show RdR maK ayv1 nyv1 Hyv1 yv1 w from hs.at_ 3 rfl).1) (fun lenn7 => ?_)
 refine rKnow (fun w hs => (show OwnR maK 28 2 ayp1 nyp1 cyp1 Hyp1 yp1 w from hs.at_ 4 rfl).1) (fun lenn8 => ?_)
 refine rKnow (fun w hs => (show OwnR maK 28 2 ayq1 nyq1 cyq1 Hyq1 yq1 w from hs.at_ 5 rfl).1) (fun lenn9 => ?_)
 refine ext rfl rfl rfl rfl ?_
 refine ext rfl rfl rfl rfl ?_
 refine ext rfl rfl rfl rfl ?_
 refine stAl (vs := [.slice ay1 ny1 cy1, .slice ayw1 nyw1 cyw1, .slice ayv1 nyv1 cyv1]) 8 rfl Try.sizeOf43 trv rfl rfl rfl rfl rfl (by simp [Value.oneCell']) rfl ?_
 refine stAl (vs := [.int .i64 pl1, .slice ayp1 nyp1 cyp1]) 7 rfl Try.sizeOf56 trv rfl rfl rfl rfl rfl (by simp [Value.oneCell']) rfl ?_
 refine stAl (vs := [.int .i64 ql1, .slice ayq1 nyq1 cyq1]) 6 rfl Try.sizeOf56 trv rfl rfl rfl rfl rfl (by simp [Value.oneCell']) rfl ?_
 refine rNil ?_
 refine qSeq rfl ?_
 refine hRet ?_
 exact fun w hs => ⟨[_, _, _], ⟨⟨_, rfl, run_load_agg Try.isAgg43 Try.sizeOf43 rfl (cBs 8 rfl w hs)⟩, ⟨⟨_, rfl, run_load_agg Try.isAgg56 Try.sizeOf56 rfl (cBs 7 rfl w hs)⟩, ⟨⟨_, rfl, run_load_agg Try.isAgg56 Try.sizeOf56 rfl (cBs 6 rfl w hs)⟩, trivial⟩⟩⟩, ⟨(ay1, ny1, cy1, Hy1, y1, ayw1, nyw1, cyw1, Hyw1, yw1, ayv1, nyv1, cyv1, Hyv1, yv1, pl1, ayp1, nyp1, cyp1, Hyp1, yp1, ql1, ayq1, nyq1, cyq1, Hyq1, yq1), rfl, ⟨by dsimp only; omega, ⟨⟨by dsimp only; omega, by dsimp only; omega⟩, by dsimp only; omega⟩, ⟨⟨by dsimp only; omega, by dsimp only; omega⟩, by dsimp only; omega⟩, ⟨⟨by dsimp only; omega, by dsimp only; omega⟩, by dsimp only; omega⟩⟩, hs.pick [1, 1, 1, 1, 1]⟩⟩
end Go.Proofs.Ytjengglpbdgmnaa
/- Plain facts on ways in trees. No condition. -/
namespace Go.Proofs.Ytjengglpbdgmnaa.Math
open Go.Proofs.Ytjengglpbdgmnaa.V
set_option linter.unusedVariables false
set_option linter.unusedSimpArgs false
/-- The places that lead to a node. -/
inductive Way (z : List Nd) : Int → List Int → Prop
  | root : Way z 0 []
  | step {i : Nat} {n : Int} {l : List Int} : (i : Int) < n → i < z.length → n ∈ (z.getD i dN).ch → Way z (i : Int) l → Way z n (l ++ [indexOf (z.getD i dN).ch n])
noncomputable def wayOf (z : List Nd) (n : Int) : List Int := open Classical in if h : ∃ l, Way z n l then Classical.choose h else []
theorem kids_mem {z : List Nd} {i : Nat} {n : Int} (hi : i < z.length) (h : n ∈ (z.getD i dN).ch) : n ∈ kids z := by
  unfold kids; exact List.mem_flatMap.2 ⟨_, getD_mem dN hi, h⟩
theorem kids_app (a b : List Nd) : kids (a ++ b) = kids a ++ kids b := by unfold kids; exact List.flatMap_append
/-- Only one node leads to a node. -/
theorem one_parent {z : List Nd} (h1 : oneEach z = true) {n : Int} (hn : 1 ≤ n ∧ n < z.length) {i j : Nat} (hi : i < z.length) (hj : j < z.length) (h : n ∈ (z.getD i dN).ch) (h' : n ∈ (z.getD j dN).ch) : i = j := by
  have hc := oneEach_iff.1 h1 n.toNat (by omega) (by omega)
  rw [show ((n.toNat : Nat) : Int) = n from by omega] at hc
  have key : ∀ a b : Nat, a < b → b < z.length → n ∈ (z.getD a dN).ch → n ∈ (z.getD b dN).ch → False := by
    intro a b hab hb ha hb'
    have hs : kids z = kids (z.take b) ++ kids (z.drop b) := by rw [← kids_app, List.take_append_drop]
    have m1 : n ∈ kids (z.take b) := by
      refine kids_mem (i := a) (by rw [List.length_take]; omega) ?_
      have : (z.take b).getD a dN = z.getD a dN := by simp [List.getD, List.getElem?_take, hab]
      rw [this]; exact ha
    have m2 : n ∈ kids (z.drop b) := by
      refine kids_mem (i := 0) (by rw [List.length_drop]; omega) ?_
      have : (z.drop b).getD 0 dN = z.getD b dN := by simp [List.getD, List.getElem?_drop]
      rw [this]; exact hb'
    have c1 := List.count_pos_iff.2 m1
    have c2 := List.count_pos_iff.2 m2
    rw [hs, List.count_append] at hc
    omega
  rcases Nat.lt_trichotomy i j with hlt | he | hlt
  · exact (key i j hlt hj h h').elim
  · exact he
  · exact (key j i hlt hi h' h).elim
theorem Way.len {z : List Nd} {n : Int} {l : List Int} (h : Way z n l) : 0 ≤ n ∧ (l.length : Int) ≤ n := by
  induction h with
  | root => exact ⟨Int.le_refl _, Int.le_refl _⟩
  | step h1 h2 h3 h4 ih => rw [List.length_append, List.length_singleton]; omega
theorem Way.one {z : List Nd} (h1 : oneEach z = true) {n : Int} {l : List Int} (h : Way z n l) : n < z.length → ∀ l', Way z n l' → l = l' := by
  induction h with
  | root =>
    intro _ l' h'
    cases h' with
    | root => rfl
    | step ha hb hc hd => omega
  | @step i n l ha hb hc hd ih =>
    intro hn l' h'
    cases h' with
    | root => omega
    | @step j _ l2 ha' hb' hc' hd' =>
      have : i = j := one_parent h1 ⟨by omega, hn⟩ hb hb' hc hc'
      subst this
      rw [ih (by omega) l2 hd']
theorem indexOf_nmem {l : List Int} {v : Int} (h : ¬ 0 ≤ indexOf l v) : ¬ v ∈ l := by
  intro hm
  have hex : ∃ i : Nat, i < l.length ∧ l.getD i 0 = v := by
    obtain ⟨i, hi, he⟩ := List.getElem_of_mem hm
    exact ⟨i, hi, by simp [List.getD, List.getElem?_eq_getElem hi, he]⟩
  have : ∀ k : Nat, ∀ i, i = k → i < l.length → l.getD i 0 = v → 0 ≤ indexOf l v := by
    intro k
    induction k using Nat.strongRecOn with
    | _ k ih =>
      intro i hik hi hv
      subst hik
      by_cases hf : ∀ j, j < i → l.getD j 0 ≠ v
      · rw [indexOf_yes hi hv hf]; omega
      · obtain ⟨j, hf⟩ := Classical.not_forall.1 hf
        obtain ⟨hj, hjv⟩ := Classical.not_imp.1 hf
        replace hjv := Classical.not_not.1 hjv
        exact ih j hj j rfl (by omega) hjv
  obtain ⟨i, hi, hv⟩ := hex
  exact h (this i i rfl hi hv)
theorem indexOf_le {l : List Int} {v : Int} : -1 ≤ indexOf l v ∧ indexOf l v < l.length := by
  by_cases h : 0 ≤ indexOf l v
  · unfold indexOf at h ⊢
    split
    · rename_i hx; have := (Classical.choose_spec hx).1; omega
    · omega
  · have : indexOf l v = -1 := by
      refine indexOf_no fun j hj e => indexOf_nmem h (by rw [← e]; exact getD_mem 0 hj)
    omega
noncomputable def wayAt (z : List Nd) (n : Int) : List Int × Int := if isTree z = true then if 0 ≤ n ∧ n ≤ (z.length : Int) - 1 then (wayOf z n, 0) else ([], 2) else ([], 1)
/-- A list turned around up to a place. -/
def RevTo (z c : List Int) (i : Nat) : Prop := c.length = z.length ∧ ∀ k, k < z.length → c.getD k 0 = if k < i ∨ z.length ≤ k + i then z.getD (z.length - 1 - k) 0 else z.getD k 0
theorem getD_set {l : List Int} {i k : Nat} {v : Int} (h : k < l.length) : (l.set i v).getD k 0 = if i = k then v else l.getD k 0 := by
  simp only [List.getD, List.getElem?_set]
  split
  · rename_i he; subst he; simp [h]
  · rfl
end Go.Proofs.Ytjengglpbdgmnaa.Math
