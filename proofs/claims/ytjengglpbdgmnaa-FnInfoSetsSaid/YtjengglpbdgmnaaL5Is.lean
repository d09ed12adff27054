/- Contracts of payoffs and information sets. Their conditions stand in each. -/
import Derived.Test.YtjengglpbdgmnaaEngCIs
import Derived.Test.YtjengglpbdgmnaaTreeIs
import Derived.Test.YtjengglpbdgmnaaGameIs
import Derived.Test.YtjengglpbdgmnaaSetsIs
import Derived.Test.YtjengglpbdgmnaaL1Is
import Derived.Test.YtjengglpbdgmnaaL2Is
import Derived.Test.YtjengglpbdgmnaaL3Is
import Derived.Test.YtjengglpbdgmnaaL4Is
import Derived.Test.YtjengglpbdgmnaaRows
namespace Go.Proofs.Ytjengglpbdgmnaa
open Go Go.RowKit V
set_option linter.unusedVariables false
set_option linter.unusedSimpArgs false
set_option maxRecDepth 100000
theorem mk41 : Mk Try.prog 41 28 1 24 [.slice none 0 0] := ⟨Try.underlying41, Try.t28, _, by kernel_rfl, rfl, rfl, rfl, rfl, rfl, by decide, by decide⟩
theorem bsl28_2 (v0 v1 : Value) (h0 : v0.cells = #[v0]) (h1 : v1.cells = #[v1]) : ∀ w, (Instr.buildSlice 28 2 ([(0, v0), (1, v1)] : List (Nat × Value)).toArray).run Try.prog w = .ok (.slice (some ⟨w.heap.size, 0, none⟩) 2 2) (w.alloc (.cells ([v0, v1] : List Value).toArray 2)) := by
 intro w; simp [Instr.buildSlice, Instr.fill, Try.zeroValue2, Try.runUnderlying28, Try.sizeOf2, Value.cells_int, newRow, show Array.range 2 = #[0, 1] from by decide, h0, h1]
theorem bsl41_0   : ∀ w, (Instr.buildSlice 41 0 ([] : List (Nat × Value)).toArray).run Try.prog w = .ok (.slice (some ⟨w.heap.size, 0, none⟩) 0 0) (w.alloc (.cells ([] : List Value).toArray 28)) := by
 intro w; simp [Instr.buildSlice, Instr.fill, Try.zeroValue28, Try.runUnderlying41, Try.sizeOf28, Value.cells_int, newRow, show Array.range 0 = #[] from by decide]
theorem bsl41_1 (v0 : Value) (h0 : v0.cells = #[v0]) : ∀ w, (Instr.buildSlice 41 1 ([(0, v0)] : List (Nat × Value)).toArray).run Try.prog w = .ok (.slice (some ⟨w.heap.size, 0, none⟩) 1 1) (w.alloc (.cells ([v0] : List Value).toArray 28)) := by
 intro w; simp [Instr.buildSlice, Instr.fill, Try.zeroValue28, Try.runUnderlying41, Try.sizeOf28, Value.cells_int, newRow, show Array.range 1 = #[0] from by decide, h0]
set_option maxHeartbeats 1000000 in
theorem impl_infoSets_c (az : Option Addr) (nz : Nat) (cz : Nat) (Hz : Nat → Hd) (z : List Nd) (aws : Option Addr) (nws : Nat) (cws : Nat) (Hws : Nat → Hd) (ws : List (List Int)) (avs : Option Addr) (nvs : Nat) (cvs : Nat) (Hvs : Nat → Hd) (vs : List (List Int)) (p : Int) (w : World) (rz : RdR ndK az nz Hz z w) (rws : RdR maK aws nws Hws ws w) (rvs : RdR maK avs nvs Hvs vs w) (hk : nws ≤ 6) (hn : nz ≤ 60) :
  Calls Try.prog 116 #[.agg #[.slice az nz cz, .slice aws nws cws, .slice avs nvs cvs], .int .i64 p] w (Ret fun v w' => ∃ x : Option Addr × Nat × Nat × (Nat → Hd) × List (List Int), v = .slice x.1 x.2.1 x.2.2.1 ∧ (x.2.2.2.2 = Math.sets z nws p) ∧ Sep w none_ [OwnR maK 28 2 x.1 x.2.1 x.2.2.1 x.2.2.2.1 x.2.2.2.2] w') := by
 have kz : Kn w none_ [] (RdR ndK az nz Hz z) := fun w' hs => rz.ext hs.upd
 have lz : z.length = nz := rz.1
 have mz : nz ≤ 9223372036854775807 := rz.2.1
 have kws : Kn w none_ [] (RdR maK aws nws Hws ws) := fun w' hs => rws.ext hs.upd
 have lws : ws.length = nws := rws.1
 have mws : nws ≤ 9223372036854775807 := rws.2.1
 have kvs : Kn w none_ [] (RdR maK avs nvs Hvs vs) := fun w' hs => rvs.ext hs.upd
 have lvs : vs.length = nvs := rvs.1
 have mvs : nvs ≤ 9223372036854775807 := rvs.2.1
 have hnl := Math.nodesOf_len z p
 refine fn (M := none_) (rs := [.tmp 4]) Try.func116 rfl Try.ntmps116 rfl rfl (Sep.start _ _) ?_
 refine hSeq ?_
 refine hReg (sl 0 (sq 1 sz)) (by kernel_rfl) ?_
 refine box trv1 rfl rfl rfl rfl (fun bkb1 hbkb1 => ?_)
 refine asS rfl rfl rfl ?_
 refine rNil ?_
 refine qSeq rfl ?_
 refine hSeq ?_
 refine hReg (sq 0 sz) (by kernel_rfl) ?_
 refine asS rfl rfl rfl ?_
 refine rNil ?_
 refine qSeq rfl ?_
 refine hSeq ?_
 refine hSeq ?_
 refine hReg (sq 0 (sl 1 (sq 2 (sl 3 (sq 4 (sq 5 sz)))))) (by kernel_rfl) ?_
 refine fld fl43_0 rfl rfl rfl ?_
 refine ldAl Try.isAgg26 Try.sizeOf26 (cBp (m := 1) 0 rfl rfl) trv rfl rfl rfl rfl ?_
 refine mvI rfl rfl rfl ?_
 refine callS Try.call93 trv1 rfl rfl (fun w hs => impl_nodesOf_c _ nz cz _ _ _ w (Kn.drop (k := 1) kz w hs) (by omega)) ?_
 rintro ⟨ay1, ny1, cy1, y1⟩ hr1
 dsimp only at hr1
 subst y1
 refine rKnow (fun w hs => (show OwnI 2 ay1 ny1 cy1 (Math.nodesOf z p) w from hs.at_ 0 rfl).lenz) (fun lenn2 => ?_)
 refine lenS Try.runUnderlying28 rfl rfl rfl ?_
 refine mvI rfl rfl rfl ?_
 refine rNil ?_
 refine qSeq rfl ?_
 refine hBlk ?_
 refine hPieces (fun _ h => Sep.nilR maK 28 2 (fun _ => (none, 0)) h) ?_
 refine hLoop (α := Nat × Nat × Hd × (Nat → Hd)) (fun x => x.1 ≤ ny1 ∧ x.2.1 ≤ 6 * x.1) (fun x => ny1 - x.1) (fun x => [OwnR maK 28 2 x.2.2.1.1 x.2.1 x.2.2.1.2 x.2.2.2 ((Math.setsTo (Math.nodesOf z p) nws x.1 0)), OwnI 2 ay1 ny1 cy1 (Math.nodesOf z p), blk bkb1 43 [.slice az nz cz, .slice aws nws cws, .slice avs nvs cvs]]) (fun x => [(2, .pointer (some ⟨bkb1, 0, none⟩)), (5, .slice x.2.2.1.1 x.2.1 x.2.2.1.2), (12, .slice ay1 ny1 cy1), (13, .int .i64 (ny1 : Int)), (14, .int .i64 (x.1 : Int))]) ((0, 0, ((none, 0), (fun _ => (none, 0))))) ⟨Nat.zero_le _, Nat.zero_le _⟩ (fun _ h => h.pick [0, 0, 0]) ⟨rfl, rfl, rfl, rfl, rfl, trivial⟩ ?_
 rintro ⟨i, q, hd⟩ τ1 ⟨hi, hq⟩
 dsimp only at hi hq
 refine hRe [(2, .pointer (some ⟨bkb1, 0, none⟩)), (5, .slice hd.1.1 q hd.1.2), (12, .slice ay1 ny1 cy1), (13, .int .i64 (ny1 : Int)), (14, .int .i64 (i : Int))] [OwnR maK 28 2 hd.1.1 q hd.1.2 hd.2 ((Math.setsTo (Math.nodesOf z p) nws i 0)), OwnI 2 ay1 ny1 cy1 (Math.nodesOf z p), blk bkb1 43 [.slice az nz cz, .slice aws nws cws, .slice avs nvs cvs]] rfl rfl ?_
 refine hSeq ?_
 refine hReg (sq 0 sz) (by kernel_rfl) ?_
 refine lss rfl rfl rfl rfl ?_
 refine rNil ?_
 refine qSeq rfl ?_
 refine hSeq ?_
 refine hIfD rfl (fun c1 => ?_) (fun c1 => ?_)
 ·
  replace c1 : (i : Int) < (ny1 : Int) := c1
  refine hSkip ?_
  refine qSeq rfl ?_
  refine hSeq ?_
  refine hBlk ?_
  refine hSeq ?_
  refine hReg (sq 0 (sl 1 (sq 2 sz))) (by kernel_rfl) ?_
  refine ixIl (zn := i) el28 ((Kn.at_ 1 rfl).imp fun _ h => OwnI.rd h) rfl rfl rfl rfl (by omega) (by omega) rfl ?_
  intro ae2 e2
  refine ldl Try.isAgg2 (e2) trv rfl rfl rfl ?_
  refine asI rfl rfl rfl ?_
  refine rNil ?_
  refine qSeq rfl ?_
  refine hSeq ?_
  refine hReg (sq 0 (sl 1 (sq 2 (sq 3 sz)))) (by kernel_rfl) ?_
  refine fld fl43_1 rfl rfl rfl ?_
  refine ldl Try.isAgg41 (cB 2 rfl rfl) trv rfl rfl rfl ?_
  refine lenS Try.runUnderlying41 rfl rfl rfl ?_
  refine mvI rfl rfl rfl ?_
  refine rNil ?_
  refine qSeq rfl ?_
  refine hBlk ?_
  refine hLoop (α := Nat × Nat × Hd × (Nat → Hd)) (fun x => x.1 ≤ nws ∧ x.2.1 ≤ 6 * i + x.1) (fun x => nws - x.1) (fun x => [OwnR maK 28 2 x.2.2.1.1 x.2.1 x.2.2.1.2 x.2.2.2 ((Math.setsTo (Math.nodesOf z p) nws i x.1)), OwnI 2 ay1 ny1 cy1 (Math.nodesOf z p), blk bkb1 43 [.slice az nz cz, .slice aws nws cws, .slice avs nvs cvs]]) (fun x => [(2, .pointer (some ⟨bkb1, 0, none⟩)), (5, .slice x.2.2.1.1 x.2.1 x.2.2.1.2), (7, .int .i64 (((Math.nodesOf z p).getD i 0))), (12, .slice ay1 ny1 cy1), (13, .int .i64 (ny1 : Int)), (14, .int .i64 (i : Int)), (20, .int .i64 (nws : Int)), (21, .int .i64 (x.1 : Int))]) (0, q, hd) ⟨Nat.zero_le _, hq⟩ (fun _ h => h.pick [0, 0, 0]) ⟨rfl, rfl, rfl, rfl, rfl, rfl, rfl, rfl, trivial⟩ ?_
  rintro ⟨j, q2, hd2⟩ τ2 ⟨hj, hq2⟩
  dsimp only at hj hq2
  refine hRe [(2, .pointer (some ⟨bkb1, 0, none⟩)), (5, .slice hd2.1.1 q2 hd2.1.2), (7, .int .i64 (((Math.nodesOf z p).getD i 0))), (12, .slice ay1 ny1 cy1), (13, .int .i64 (ny1 : Int)), (14, .int .i64 (i : Int)), (20, .int .i64 (nws : Int)), (21, .int .i64 (j : Int))] [OwnR maK 28 2 hd2.1.1 q2 hd2.1.2 hd2.2 ((Math.setsTo (Math.nodesOf z p) nws i j)), OwnI 2 ay1 ny1 cy1 (Math.nodesOf z p), blk bkb1 43 [.slice az nz cz, .slice aws nws cws, .slice avs nvs cvs]] rfl rfl ?_
  refine hSeq ?_
  refine hReg (sq 0 sz) (by kernel_rfl) ?_
  refine lss rfl rfl rfl rfl ?_
  refine rNil ?_
  refine qSeq rfl ?_
  refine hSeq ?_
  refine hIfD rfl (fun c2 => ?_) (fun c2 => ?_)
  ·
   replace c2 : (j : Int) < (nws : Int) := c2
   refine hSkip ?_
   refine qSeq rfl ?_
   refine hSeq ?_
   refine hBlk ?_
   refine hSeq ?_
   refine hReg (sq 0 (sq 1 sz)) (by kernel_rfl) ?_
   refine mvI rfl rfl rfl ?_
   refine asI rfl rfl rfl ?_
   refine rNil ?_
   refine qSeq rfl ?_
   refine hReg (sq 0 (sq 1 (sq 2 (sl 3 (sl 4 (sl 5 (sq 6 sz))))))) (by kernel_rfl) ?_
   refine mvS rfl rfl rfl ?_
   refine mvI rfl rfl rfl ?_
   refine mvI rfl rfl rfl ?_
   refine bsl trv1 rfl rfl rfl (bsl28_2 (.int .i64 _) (.int .i64 _) rfl rfl) (fun bkl4 hbkl4 => ?_)
   refine bsl trv1 rfl rfl rfl (bsl41_1 (.slice _ _ _) rfl) (fun bkl5 hbkl5 => ?_)
   refine rPieces (fun _ h => Sep.litI h 1 [((Math.nodesOf z p).getD i 0), (j : Int)] rfl rfl rfl) ?_
   refine apR (hd := ((some ⟨bkl4, 0, none⟩), 2)) (x := [((Math.nodesOf z p).getD i 0), (j : Int)]) 2 1 0 maK.ok rfl rfl rfl (fun h => by first | rfl | (dsimp only at h; rw [h]; rfl) | (rw [h]; rfl) | exact congrArg (fun m => [Value.slice _ m _]) h) mk41 trv1 rfl rfl rfl rfl (by omega) ?_
   intro aq3 cq3
   refine asS rfl rfl rfl ?_
   refine rNil ?_
   refine qSeq rfl ?_
   refine hReg (sq 0 (sq 1 sz)) (by kernel_rfl) ?_
   refine add rfl rfl rfl rfl (by omega) ?_
   refine mvI rfl rfl rfl ?_
   refine rNil ?_
   rw [← Math.setsTo_cell]
   exact qNext rfl ((j + 1, q2 + 1, ((aq3, cq3), (hset hd2.2 ((Math.setsTo (Math.nodesOf z p) nws i j)).length ((some ⟨bkl4, 0, none⟩), 2))))) (by dsimp only; omega) ⟨by dsimp only; omega, by dsimp only; omega⟩ ⟨rfl, rfl, rfl, rfl, rfl, rfl, rfl, rfl, trivial⟩ (fun _ h => h.pick [0, 1, 1])
  ·
   replace c2 : ¬ ((j : Int) < (nws : Int)) := c2
   refine hExit rfl ?_
   refine qSeq rfl ?_
   refine hReg (sq 0 (sq 1 sz)) (by kernel_rfl) ?_
   refine add rfl rfl rfl rfl (by omega) ?_
   refine mvI rfl rfl rfl ?_
   refine rNil ?_
   rw [Math.setsTo_row (by omega) (by omega)]
   exact qNext rfl (i + 1, q2, hd2) (by dsimp only; omega) ⟨by dsimp only; omega, by dsimp only; omega⟩ ⟨rfl, rfl, rfl, rfl, rfl, trivial⟩ (fun _ h => h.pick [0, 0, 0])
 ·
  replace c1 : ¬ ((i : Int) < (ny1 : Int)) := c1
  refine hExit rfl ?_
  refine qSeq rfl ?_
  refine hSeq ?_
  refine hReg (sq 0 (sq 1 sz)) (by kernel_rfl) ?_
  refine mvS rfl rfl rfl ?_
  refine asS rfl rfl rfl ?_
  refine rNil ?_
  refine qSeq rfl ?_
  refine hRet ?_
  exact fun w hs => ⟨[.slice hd.1.1 q hd.1.2], ⟨rfl, trivial⟩, ⟨(hd.1.1, q, hd.1.2, hd.2, (Math.setsTo (Math.nodesOf z p) nws i 0)), rfl, Math.setsTo_end (by omega), hs.pick [0]⟩⟩
set_option maxHeartbeats 1000000 in
theorem spec_l21Sets_c (az : Option Addr) (nz : Nat) (cz : Nat) (Hz : Nat → Hd) (z : List Nd) (aws : Option Addr) (nws : Nat) (cws : Nat) (Hws : Nat → Hd) (ws : List (List Int)) (avs : Option Addr) (nvs : Nat) (cvs : Nat) (Hvs : Nat → Hd) (vs : List (List Int)) (p : Int) (w : World) (rz : RdR ndK az nz Hz z w) (rws : RdR maK aws nws Hws ws w) (rvs : RdR maK avs nvs Hvs vs w) (hk : nws ≤ 6) (hn : nz ≤ 60) :
  Calls Try.prog 117 #[.agg #[.slice az nz cz, .slice aws nws cws, .slice avs nvs cvs], .int .i64 p] w (Ret fun v w' => ∃ x : Option Addr × Nat × Nat × (Nat → Hd) × List (List Int), v = .slice x.1 x.2.1 x.2.2.1 ∧ (x.2.2.2.2 = Math.sets z nws p) ∧ Sep w none_ [OwnR maK 28 2 x.1 x.2.1 x.2.2.1 x.2.2.2.1 x.2.2.2.2] w') := by
 have kz : Kn w none_ [] (RdR ndK az nz Hz z) := fun w' hs => rz.ext hs.upd
 have lz : z.length = nz := rz.1
 have mz : nz ≤ 9223372036854775807 := rz.2.1
 have kws : Kn w none_ [] (RdR maK aws nws Hws ws) := fun w' hs => rws.ext hs.upd
 have lws : ws.length = nws := rws.1
 have mws : nws ≤ 9223372036854775807 := rws.2.1
 have kvs : Kn w none_ [] (RdR maK avs nvs Hvs vs) := fun w' hs => rvs.ext hs.upd
 have lvs : vs.length = nvs := rvs.1
 have mvs : nvs ≤ 9223372036854775807 := rvs.2.1
 have hnl := Math.nodesOf_len z p
 refine fn (M := none_) (rs := [.tmp 4]) Try.func117 rfl Try.ntmps117 rfl rfl (Sep.start _ _) ?_
 refine hSeq ?_
 refine hReg (sl 0 (sq 1 sz)) (by kernel_rfl) ?_
 refine box trv1 rfl rfl rfl rfl (fun bkb1 hbkb1 => ?_)
 refine asS rfl rfl rfl ?_
 refine rNil ?_
 refine qSeq rfl ?_
 refine hSeq ?_
 refine hReg (sq 0 (sl 1 (sq 2 (sl 3 (sq 4 sz))))) (by kernel_rfl) ?_
 refine fld fl43_0 rfl rfl rfl ?_
 refine ldAl Try.isAgg26 Try.sizeOf26 (cBp (m := 1) 0 rfl rfl) trv rfl rfl rfl rfl ?_
 refine mvI rfl rfl rfl ?_
 refine callS Try.call94 trv1 rfl rfl (fun w hs => spec_l20Of_c _ nz cz _ _ _ w (Kn.drop (k := 1) kz w hs) (by omega)) ?_
 rintro ⟨ay1, ny1, cy1, y1⟩ hr1
 dsimp only at hr1
 subst y1
 refine rKnow (fun w hs => (show OwnI 2 ay1 ny1 cy1 (Math.nodesOf z p) w from hs.at_ 0 rfl).lenz) (fun lenn2 => ?_)
 refine asS rfl rfl rfl ?_
 refine rNil ?_
 refine qSeq rfl ?_
 refine hSeq ?_
 refine hReg (sl 0 (sq 1 sz)) (by kernel_rfl) ?_
 refine bsl trv1 rfl rfl rfl (bsl41_0) (fun bkl3 hbkl3 => ?_)
 refine asS rfl rfl rfl ?_
 refine rNil ?_
 refine qSeq rfl ?_
 refine hSeq ?_
 refine hSeq ?_
 refine hReg (sq 0 sz) (by kernel_rfl) ?_
 refine asI rfl rfl rfl ?_
 refine rNil ?_
 refine qSeq rfl ?_
 refine hBlk ?_
 refine hPieces (fun _ h => Sep.litR maK 28 2 (fun _ => (none, 0)) h 0 rfl) ?_
 refine hLoop (α := Nat × Nat × Hd × (Nat → Hd)) (fun x => x.1 ≤ ny1 ∧ x.2.1 ≤ 6 * x.1) (fun x => ny1 - x.1) (fun x => [OwnR maK 28 2 x.2.2.1.1 x.2.1 x.2.2.1.2 x.2.2.2 ((Math.setsTo (Math.nodesOf z p) nws x.1 0)), OwnI 2 ay1 ny1 cy1 (Math.nodesOf z p), blk bkb1 43 [.slice az nz cz, .slice aws nws cws, .slice avs nvs cvs]]) (fun x => [(2, .pointer (some ⟨bkb1, 0, none⟩)), (5, .slice ay1 ny1 cy1), (6, .slice x.2.2.1.1 x.2.1 x.2.2.1.2), (7, .int .i64 (x.1 : Int))]) ((0, 0, (((some ⟨bkl3, 0, none⟩), 0), (fun _ => (none, 0))))) ⟨Nat.zero_le _, Nat.zero_le _⟩ (fun _ h => h.pick [0, 0, 0]) ⟨rfl, rfl, rfl, rfl, trivial⟩ ?_
 rintro ⟨i, q, hd⟩ τ1 ⟨hi, hq⟩
 dsimp only at hi hq
 refine hRe [(2, .pointer (some ⟨bkb1, 0, none⟩)), (5, .slice ay1 ny1 cy1), (6, .slice hd.1.1 q hd.1.2), (7, .int .i64 (i : Int))] [OwnR maK 28 2 hd.1.1 q hd.1.2 hd.2 ((Math.setsTo (Math.nodesOf z p) nws i 0)), OwnI 2 ay1 ny1 cy1 (Math.nodesOf z p), blk bkb1 43 [.slice az nz cz, .slice aws nws cws, .slice avs nvs cvs]] rfl rfl ?_
 refine hSeq ?_
 refine hSeq ?_
 refine hReg (sq 0 (sq 1 (sq 2 (sq 3 sz)))) (by kernel_rfl) ?_
 refine mvI rfl rfl rfl ?_
 refine mvS rfl rfl rfl ?_
 refine lenS Try.runUnderlying28 rfl rfl rfl ?_
 refine lss rfl rfl rfl rfl ?_
 refine rNil ?_
 refine qSeq rfl ?_
 refine hIfD rfl (fun c1 => ?_) (fun c1 => ?_)
 ·
  replace c1 : (i : Int) < (ny1 : Int) := c1
  refine hSkip ?_
  refine qSeq rfl ?_
  refine hSeq ?_
  refine hBlk ?_
  refine hSeq ?_
  refine hReg (sq 0 sz) (by kernel_rfl) ?_
  refine asI rfl rfl rfl ?_
  refine rNil ?_
  refine qSeq rfl ?_
  refine hBlk ?_
  refine hLoop (α := Nat × Nat × Hd × (Nat → Hd)) (fun x => x.1 ≤ nws ∧ x.2.1 ≤ 6 * i + x.1) (fun x => nws - x.1) (fun x => [OwnR maK 28 2 x.2.2.1.1 x.2.1 x.2.2.1.2 x.2.2.2 ((Math.setsTo (Math.nodesOf z p) nws i x.1)), OwnI 2 ay1 ny1 cy1 (Math.nodesOf z p), blk bkb1 43 [.slice az nz cz, .slice aws nws cws, .slice avs nvs cvs]]) (fun x => [(2, .pointer (some ⟨bkb1, 0, none⟩)), (5, .slice ay1 ny1 cy1), (6, .slice x.2.2.1.1 x.2.1 x.2.2.1.2), (7, .int .i64 (i : Int)), (8, .int .i64 (x.1 : Int))]) (0, q, hd) ⟨Nat.zero_le _, hq⟩ (fun _ h => h.pick [0, 0, 0]) ⟨rfl, rfl, rfl, rfl, rfl, trivial⟩ ?_
  rintro ⟨j, q2, hd2⟩ τ2 ⟨hj, hq2⟩
  dsimp only at hj hq2
  refine hRe [(2, .pointer (some ⟨bkb1, 0, none⟩)), (5, .slice ay1 ny1 cy1), (6, .slice hd2.1.1 q2 hd2.1.2), (7, .int .i64 (i : Int)), (8, .int .i64 (j : Int))] [OwnR maK 28 2 hd2.1.1 q2 hd2.1.2 hd2.2 ((Math.setsTo (Math.nodesOf z p) nws i j)), OwnI 2 ay1 ny1 cy1 (Math.nodesOf z p), blk bkb1 43 [.slice az nz cz, .slice aws nws cws, .slice avs nvs cvs]] rfl rfl ?_
  refine hSeq ?_
  refine hSeq ?_
  refine hReg (sq 0 (sq 1 (sl 2 (sq 3 (sq 4 sz))))) (by kernel_rfl) ?_
  refine mvI rfl rfl rfl ?_
  refine fld fl43_1 rfl rfl rfl ?_
  refine ldl Try.isAgg41 (cB 2 rfl rfl) trv rfl rfl rfl ?_
  refine lenS Try.runUnderlying41 rfl rfl rfl ?_
  refine lss rfl rfl rfl rfl ?_
  refine rNil ?_
  refine qSeq rfl ?_
  refine hIfD rfl (fun c2 => ?_) (fun c2 => ?_)
  ·
   replace c2 : (j : Int) < (nws : Int) := c2
   refine hSkip ?_
   refine qSeq rfl ?_
   refine hSeq ?_
   refine hBlk ?_
   refine hReg (sq 0 (sq 1 (sq 2 (sq 3 (sl 4 (sq 5 (sl 6 (sl 7 (sl 8 (sq 9 sz)))))))))) (by kernel_rfl) ?_
   refine mvS rfl rfl rfl ?_
   refine mvS rfl rfl rfl ?_
   refine mvI rfl rfl rfl ?_
   refine ixIl (zn := i) el28 ((Kn.at_ 1 rfl).imp fun _ h => OwnI.rd h) rfl rfl rfl rfl (by omega) (by omega) rfl ?_
   intro ae2 e2
   refine ldl Try.isAgg2 (e2) trv rfl rfl rfl ?_
   refine mvI rfl rfl rfl ?_
   refine bsl trv1 rfl rfl rfl (bsl28_2 (.int .i64 _) (.int .i64 _) rfl rfl) (fun bkl4 hbkl4 => ?_)
   refine bsl trv1 rfl rfl rfl (bsl41_1 (.slice _ _ _) rfl) (fun bkl5 hbkl5 => ?_)
   refine rPieces (fun _ h => Sep.litI h 1 [((Math.nodesOf z p).getD i 0), (j : Int)] rfl rfl rfl) ?_
   refine apR (hd := ((some ⟨bkl4, 0, none⟩), 2)) (x := [((Math.nodesOf z p).getD i 0), (j : Int)]) 2 1 0 maK.ok rfl rfl rfl (fun h => by first | rfl | (dsimp only at h; rw [h]; rfl) | (rw [h]; rfl) | exact congrArg (fun m => [Value.slice _ m _]) h) mk41 trv1 rfl rfl rfl rfl (by omega) ?_
   intro aq3 cq3
   refine asS rfl rfl rfl ?_
   refine rNil ?_
   refine qSeq rfl ?_
   refine hReg (sq 0 (sq 1 (sq 2 sz))) (by kernel_rfl) ?_
   refine mvI rfl rfl rfl ?_
   refine add rfl rfl rfl rfl (by omega) ?_
   refine asI rfl rfl rfl ?_
   refine rNil ?_
   rw [← Math.setsTo_cell]
   exact qNext rfl ((j + 1, q2 + 1, ((aq3, cq3), (hset hd2.2 ((Math.setsTo (Math.nodesOf z p) nws i j)).length ((some ⟨bkl4, 0, none⟩), 2))))) (by dsimp only; omega) ⟨by dsimp only; omega, by dsimp only; omega⟩ ⟨rfl, rfl, rfl, rfl, rfl, trivial⟩ (fun _ h => h.pick [0, 1, 1])
  ·
   replace c2 : ¬ ((j : Int) < (nws : Int)) := c2
   refine hExit rfl ?_
   refine qSeq rfl ?_
   refine hReg (sq 0 (sq 1 (sq 2 sz))) (by kernel_rfl) ?_
   refine mvI rfl rfl rfl ?_
   refine add rfl rfl rfl rfl (by omega) ?_
   refine asI rfl rfl rfl ?_
   refine rNil ?_
   rw [Math.setsTo_row (by omega) (by omega)]
   exact qNext rfl (i + 1, q2, hd2) (by dsimp only; omega) ⟨by dsimp only; omega, by dsimp only; omega⟩ ⟨rfl, rfl, rfl, rfl, trivial⟩ (fun _ h => h.pick [0, 0, 0])
 ·
  replace c1 : ¬ ((i : Int) < (ny1 : Int)) := c1
  refine hExit rfl ?_
  refine qSeq rfl ?_
  refine hSeq ?_
  refine hReg (sq 0 (sq 1 sz)) (by kernel_rfl) ?_
  refine mvS rfl rfl rfl ?_
  refine asS rfl rfl rfl ?_
  refine rNil ?_
  refine qSeq rfl ?_
  refine hRet ?_
  exact fun w hs => ⟨[.slice hd.1.1 q hd.1.2], ⟨rfl, trivial⟩, ⟨(hd.1.1, q, hd.1.2, hd.2, (Math.setsTo (Math.nodesOf z p) nws i 0)), rfl, Math.setsTo_end (by omega), hs.pick [0]⟩⟩
end Go.Proofs.Ytjengglpbdgmnaa
