/- Contracts of strategies that are made. Their conditions stand in each. -/
import Derived.Test.YtjengglpbdgmnaaEngCIs
import Derived.Test.YtjengglpbdgmnaaTreeIs
import Derived.Test.YtjengglpbdgmnaaGameIs
import Derived.Test.YtjengglpbdgmnaaSetsIs
import Derived.Test.YtjengglpbdgmnaaPartsIs
import Derived.Test.YtjengglpbdgmnaaUniIs
import Derived.Test.YtjengglpbdgmnaaL1Is
import Derived.Test.YtjengglpbdgmnaaL2Is
import Derived.Test.YtjengglpbdgmnaaL2mIs
import Derived.Test.YtjengglpbdgmnaaL3Is
import Derived.Test.YtjengglpbdgmnaaL4Is
import Derived.Test.YtjengglpbdgmnaaL5Is
import Derived.Test.YtjengglpbdgmnaaL6Is
import Derived.Test.YtjengglpbdgmnaaLPIs
import Derived.Test.YtjengglpbdgmnaaRows
namespace Go.Proofs.Ytjengglpbdgmnaa
open Go Go.RowKit V
set_option linter.unusedVariables false
set_option linter.unusedSimpArgs false
set_option maxRecDepth 100000
theorem bld56   : ∀ w, (Instr.build 56 ([] : List (Nat × Value)).toArray).run Try.prog w = .ok (.agg ([.int .i64 0, .slice none 0 0] : List Value).toArray) w := by
 intro w; simp [Instr.build, Instr.fill, Try.zeroValue56, Try.runUnderlying56, aggCells, Try.sizeOf2, Try.sizeOf41]
theorem bld56_0 (v0 : Value) (h0 : v0.cells = #[v0]) : ∀ w, (Instr.build 56 ([(0, v0)] : List (Nat × Value)).toArray).run Try.prog w = .ok (.agg ([v0, .slice none 0 0] : List Value).toArray) w := by
 intro w; simp [Instr.build, Instr.fill, Try.zeroValue56, Try.runUnderlying56, aggCells, Try.sizeOf2, Try.sizeOf41, h0]
theorem bld56_0_1 (v0 v1 : Value) (h0 : v0.cells = #[v0]) (h1 : v1.cells = #[v1]) : ∀ w, (Instr.build 56 ([(0, v0), (1, v1)] : List (Nat × Value)).toArray).run Try.prog w = .ok (.agg ([v0, v1] : List Value).toArray) w := by
 intro w; simp [Instr.build, Instr.fill, Try.zeroValue56, Try.runUnderlying56, aggCells, Try.sizeOf2, Try.sizeOf41, h0, h1]
theorem spec_l22Uniform_c (az : Option Addr) (nz : Nat) (cz : Nat) (Hz : Nat → Hd) (z : List Nd) (aws : Option Addr) (nws : Nat) (cws : Nat) (Hws : Nat → Hd) (ws : List (List Int)) (avs : Option Addr) (nvs : Nat) (cvs : Nat) (Hvs : Nat → Hd) (vs : List (List Int)) (p : Int) (w : World) (rz : RdR ndK az nz Hz z w) (rws : RdR maK aws nws Hws ws w) (rvs : RdR maK avs nvs Hvs vs w) (hg : Math.isGame z ws vs = true) (hp : 0 ≤ p ∧ p ≤ 1) :
  Calls Try.prog 121 #[.agg #[.slice az nz cz, .slice aws nws cws, .slice avs nvs cvs], .int .i64 p] w (Ret fun v w' => ∃ x : Option Addr × Nat × Nat × (Nat → Hd) × List (List Int), v = .agg #[.int .i64 p, .slice x.1 x.2.1 x.2.2.1] ∧ (x.2.2.2.2 = Math.unif z (Math.sets z nws p)) ∧ Sep w none_ [OwnR maK 28 2 x.1 x.2.1 x.2.2.1 x.2.2.2.1 x.2.2.2.2] w') := by
 have kz : Kn w none_ [] (RdR ndK az nz Hz z) := fun w' hs => rz.ext hs.upd
 have lz : z.length = nz := rz.1
 have mz : nz ≤ 9223372036854775807 := rz.2.1
 have kws : Kn w none_ [] (RdR maK aws nws Hws ws) := fun w' hs => rws.ext hs.upd
 have lws : ws.length = nws := rws.1
 have mws : nws ≤ 9223372036854775807 := rws.2.1
 have kvs : Kn w none_ [] (RdR maK avs nvs Hvs vs) := fun w' hs => rvs.ext hs.upd
 have lvs : vs.length = nvs := rvs.1
 have mvs : nvs ≤ 9223372036854775807 := rvs.2.1
 have hG := Math.isGame_ok hg
 rw [lws] at hG
 have hT := Math.isTree_ok hG.1
 have hvl := Math.mat_len hG.2.2.2.1
 have hsl := Math.sets_len (z := z) (p := p) (show nws ≤ 6 by omega)
 have hzl := Math.sizes_len (z := z) (ss := (Math.sets z nws p))
 refine fn (M := none_) (rs := [.cell 4 56]) Try.func121 rfl Try.ntmps121 rfl rfl (Sep.start _ _) ?_
 refine hSeq ?_
 refine hReg (sl 0 (sl 1 sz)) (by kernel_rfl) ?_
 refine box trv1 rfl rfl rfl rfl (fun bkb1 hbkb1 => ?_)
 refine alc Try.zeroValue56 rfl trv1 rfl rfl (fun bka2 hbka2 => ?_)
 refine rNil ?_
 refine qSeq rfl ?_
 refine hSeq ?_
 refine hReg (sl 0 (sq 1 (sl 2 (sq 3 sz)))) (by kernel_rfl) ?_
 refine ldAl Try.isAgg43 Try.sizeOf43 (cBs 1 rfl) trv rfl rfl rfl rfl ?_
 refine mvI rfl rfl rfl ?_
 refine callS Try.call132 trv1 rfl rfl (fun w hs => spec_l22Sizes_c _ nz cz _ _ _ nws cws _ _ _ nvs cvs _ _ _ w (Kn.drop (k := 2) kz w hs) (Kn.drop (k := 2) kws w hs) (Kn.drop (k := 2) kvs w hs) (by assumption)) ?_
 rintro ⟨ay1, ny1, cy1, y1⟩ hr1
 dsimp only at hr1
 subst y1
 refine rKnow (fun w hs => (show OwnI 2 ay1 ny1 cy1 (((Math.sizes z (Math.sets z nws p)))) w from hs.at_ 0 rfl).lenz) (fun lenn3 => ?_)
 refine asS rfl rfl rfl ?_
 refine rNil ?_
 refine qSeq rfl ?_
 refine hSeq ?_
 refine hReg (sl 0 (sq 1 sz)) (by kernel_rfl) ?_
 refine bsl trv1 rfl rfl rfl (bsl41_0) (fun bkl4 hbkl4 => ?_)
 refine asS rfl rfl rfl ?_
 refine rNil ?_
 refine qSeq rfl ?_
 refine hSeq ?_
 refine hSeq ?_
 refine hReg (sq 0 sz) (by kernel_rfl) ?_
 refine asI rfl rfl rfl ?_
 refine rNil ?_
 refine qSeq rfl ?_
 refine hBlk ?_
 refine hPieces (fun _ h => Sep.litR maK 28 2 (fun _ => (none, 0)) h 0 rfl) ?_
 refine hLoop (α := Nat × Nat × Hd × (Nat → Hd)) (fun x => x.1 ≤ ny1 ∧ x.2.1 = x.1) (fun x => ny1 - x.1) (fun x => [OwnR maK 28 2 x.2.2.1.1 x.2.1 x.2.2.1.2 x.2.2.2 ((Math.unif z ((Math.sets z nws p).take x.1))), OwnI 2 ay1 ny1 cy1 (((Math.sizes z (Math.sets z nws p)))), blk bka2 56 [.int .i64 0, .slice none 0 0], blk bkb1 43 [.slice az nz cz, .slice aws nws cws, .slice avs nvs cvs]]) (fun x => [(1, .int .i64 p), (4, .pointer (some ⟨bka2, 0, none⟩)), (5, .slice ay1 ny1 cy1), (6, .slice x.2.2.1.1 x.2.1 x.2.2.1.2), (7, .int .i64 (x.1 : Int))]) ((0, 0, (((some ⟨bkl4, 0, none⟩), 0), (fun _ => (none, 0))))) ⟨Nat.zero_le _, rfl⟩ (fun _ h => h.pick [0, 0, 0, 0]) ⟨rfl, rfl, rfl, rfl, rfl, trivial⟩ ?_
 rintro ⟨i, q, hd⟩ τ1 ⟨hi, hq⟩
 dsimp only at hi hq
 refine hRe [(1, .int .i64 p), (4, .pointer (some ⟨bka2, 0, none⟩)), (5, .slice ay1 ny1 cy1), (6, .slice hd.1.1 q hd.1.2), (7, .int .i64 (i : Int))] [OwnR maK 28 2 hd.1.1 q hd.1.2 hd.2 ((Math.unif z ((Math.sets z nws p).take i))), OwnI 2 ay1 ny1 cy1 (((Math.sizes z (Math.sets z nws p)))), blk bka2 56 [.int .i64 0, .slice none 0 0], blk bkb1 43 [.slice az nz cz, .slice aws nws cws, .slice avs nvs cvs]] rfl rfl ?_
 refine hSeq ?_
 refine hSeq ?_
 refine hReg (sq 0 (sq 1 (sq 2 (sq 3 sz)))) (by kernel_rfl) ?_
 refine mvI rfl rfl rfl ?_
 refine mvS rfl rfl rfl ?_
 refine lenS Try.runUnderlying28 rfl rfl rfl ?_
 refine lss rfl rfl rfl rfl ?_
 refine rNil ?_
 refine qSeq rfl ?_
 refine hIfD rfl (fun c1 => ?_) (fun c1 => ?_)
 ·
  replace c1 : (i : Int) < (ny1 : Int) := c1
  have hsa := Math.sets_at (z := z) (k := nws) (p := p) (i := i) (by omega)
  have hwd : Math.wide z ((Math.sets z nws p).getD i []) ≤ 4 := Math.wide_le hg hsa.2.1
  have hwq : Math.wide z ((Math.sets z nws p).getD i []) = (z.getD (((Math.sets z nws p).getD i []).getD 0 0).toNat dN).ch.length := rfl
  have hwp : 1 ≤ Math.wide z ((Math.sets z nws p).getD i []) := Math.wide_pos hg hsa.2.1 hsa.2.2 hp.2
  have hsz : ((Math.sizes z (Math.sets z nws p)).getD i 0) = (Math.wide z ((Math.sets z nws p).getD i []) : Int) := Math.sizes_at (by omega)
  refine hSkip ?_
  refine qSeq rfl ?_
  refine hSeq ?_
  refine hBlk ?_
  refine hReg (sq 0 (sq 1 (sq 2 (sq 3 (sl 4 (sl 5 (sl 6 (sl 7 (sl 8 (sq 9 sz)))))))))) (by kernel_rfl) ?_
  refine mvS rfl rfl rfl ?_
  refine mvS rfl rfl rfl ?_
  refine mvI rfl rfl rfl ?_
  refine ixIl (zn := i) el28 ((Kn.at_ 1 rfl).imp fun _ h => OwnI.rd h) rfl rfl rfl rfl (by omega) (by omega) rfl ?_
  intro ae2 e2
  refine ldl Try.isAgg2 (e2) trv rfl rfl rfl ?_
  refine mksI ((((((Math.sizes z (Math.sets z nws p)))).getD i 0)).toNat) mk28 trv1 rfl rfl rfl rfl (by omega) (by omega) (fun bkm5 hbkm5 => ?_)
  refine callS Try.call163 trv1 rfl rfl (fun w hs => spec_l22Parts_c _ ((((((Math.sizes z (Math.sets z nws p)))).getD i 0)).toNat) ((((((Math.sizes z (Math.sets z nws p)))).getD i 0)).toNat) _ w (OwnI.rd (hs.at_ 0 rfl)) (by intro x hx; rw [List.eq_of_mem_replicate hx]; decide) (by rw [List.length_replicate]; omega) (by rw [List.length_replicate]; omega)) ?_
  rintro ⟨ay3, ny3, cy3, y3⟩ hr3
  dsimp only at hr3
  subst y3
  refine rKnow (fun w hs => (show OwnI 2 ay3 ny3 cy3 (((Math.partsOf ((List.replicate ((((((Math.sizes z (Math.sets z nws p)))).getD i 0)).toNat) 0))))) w from hs.at_ 0 rfl).lenz) (fun lenn6 => ?_)
  refine bsl trv1 rfl rfl rfl (bsl41_1 (.slice _ _ _) rfl) (fun bkl7 hbkl7 => ?_)
  refine apR (hd := (ay3, cy3)) (x := ((Math.partsOf ((List.replicate ((((((Math.sizes z (Math.sets z nws p)))).getD i 0)).toNat) 0))))) 3 1 0 maK.ok rfl rfl rfl (fun h => by first | rfl | (dsimp only at h; rw [h]; rfl) | (rw [h]; rfl) | exact congrArg (fun m => [Value.slice _ m _]) h) mk41 trv1 rfl rfl rfl rfl (by omega) ?_
  intro aq4 cq4
  refine asS rfl rfl rfl ?_
  refine rNil ?_
  refine qSeq rfl ?_
  refine hReg (sq 0 (sq 1 (sq 2 sz))) (by kernel_rfl) ?_
  refine mvI rfl rfl rfl ?_
  refine add rfl rfl rfl rfl (by omega) ?_
  refine asI rfl rfl rfl ?_
  refine rNil ?_
  rw [Math.unif_snoc2 (by omega)]
  exact qNext rfl ((i + 1, q + 1, ((aq4, cq4), (hset hd.2 ((Math.unif z ((Math.sets z nws p).take i))).length (ay3, cy3))))) (by dsimp only; omega) ⟨by dsimp only; omega, by dsimp only; omega⟩ ⟨rfl, rfl, rfl, rfl, rfl, trivial⟩ (fun _ h => h.pick [0, 2, 2, 2])
 ·
  replace c1 : ¬ ((i : Int) < (ny1 : Int)) := c1
  refine hExit rfl ?_
  refine qSeq rfl ?_
  refine hSeq ?_
  refine hReg (sq 0 (sq 1 (sq 2 (sl 3 sz)))) (by kernel_rfl) ?_
  refine mvI rfl rfl rfl ?_
  refine mvS rfl rfl rfl ?_
  refine bld rfl rfl rfl (bld56_0_1 (.int .i64 _) (.slice _ _ _) rfl rfl) ?_
  refine stAl (vs := [.int .i64 p, .slice hd.1.1 q hd.1.2]) 2 rfl Try.sizeOf56 trv rfl rfl rfl rfl rfl (by simp [Value.oneCell']) rfl ?_
  refine rNil ?_
  refine qSeq rfl ?_
  refine hRet ?_
  exact fun w hs => ⟨[_], ⟨⟨_, rfl, run_load_agg Try.isAgg56 Try.sizeOf56 rfl (cBs 2 rfl w hs)⟩, trivial⟩, ⟨(hd.1.1, q, hd.1.2, hd.2, (Math.unif z ((Math.sets z nws p).take i))), rfl, by rw [List.take_of_length_le (by omega)], hs.pick [0]⟩⟩
set_option maxHeartbeats 2000000 in
theorem impl_uniformStrategy_c (az : Option Addr) (nz : Nat) (cz : Nat) (Hz : Nat → Hd) (z : List Nd) (aws : Option Addr) (nws : Nat) (cws : Nat) (Hws : Nat → Hd) (ws : List (List Int)) (avs : Option Addr) (nvs : Nat) (cvs : Nat) (Hvs : Nat → Hd) (vs : List (List Int)) (p : Int) (w : World) (rz : RdR ndK az nz Hz z w) (rws : RdR maK aws nws Hws ws w) (rvs : RdR maK avs nvs Hvs vs w) (hg : Math.isGame z ws vs = true) (hp : 0 ≤ p ∧ p ≤ 1) :
  Calls Try.prog 119 #[.agg #[.slice az nz cz, .slice aws nws cws, .slice avs nvs cvs], .int .i64 p] w (Ret fun v w' => ∃ x : Option Addr × Nat × Nat × (Nat → Hd) × List (List Int), v = .agg #[.int .i64 p, .slice x.1 x.2.1 x.2.2.1] ∧ (x.2.2.2.2 = Math.unif z (Math.sets z nws p)) ∧ Sep w none_ [OwnR maK 28 2 x.1 x.2.1 x.2.2.1 x.2.2.2.1 x.2.2.2.2] w') := by
 have kz : Kn w none_ [] (RdR ndK az nz Hz z) := fun w' hs => rz.ext hs.upd
 have lz : z.length = nz := rz.1
 have mz : nz ≤ 9223372036854775807 := rz.2.1
 have kws : Kn w none_ [] (RdR maK aws nws Hws ws) := fun w' hs => rws.ext hs.upd
 have lws : ws.length = nws := rws.1
 have mws : nws ≤ 9223372036854775807 := rws.2.1
 have kvs : Kn w none_ [] (RdR maK avs nvs Hvs vs) := fun w' hs => rvs.ext hs.upd
 have lvs : vs.length = nvs := rvs.1
 have mvs : nvs ≤ 9223372036854775807 := rvs.2.1
 have hG := Math.isGame_ok hg
 rw [lws] at hG
 have hT := Math.isTree_ok hG.1
 have hvl := Math.mat_len hG.2.2.2.1
 have hsl := Math.sets_len (z := z) (p := p) (show nws ≤ 6 by omega)
 refine fn (M := none_) (rs := [.cell 4 56]) Try.func119 rfl Try.ntmps119 rfl rfl (Sep.start _ _) ?_
 refine hSeq ?_
 refine hReg (sl 0 (sl 1 sz)) (by kernel_rfl) ?_
 refine box trv1 rfl rfl rfl rfl (fun bkb1 hbkb1 => ?_)
 refine alc Try.zeroValue56 rfl trv1 rfl rfl (fun bka2 hbka2 => ?_)
 refine rNil ?_
 refine qSeq rfl ?_
 refine hSeq ?_
 refine hReg (sq 0 (sq 1 (sl 2 (sl 3 sz)))) (by kernel_rfl) ?_
 refine mvI rfl rfl rfl ?_
 refine bld rfl rfl rfl (bld56_0 (.int .i64 _) rfl) ?_
 refine alc Try.zeroValue56 rfl trv1 rfl rfl (fun bka3 hbka3 => ?_)
 refine stAl (vs := [.int .i64 p, .slice none 0 0]) 0 rfl Try.sizeOf56 trv rfl rfl rfl rfl rfl (by simp [Value.oneCell']) rfl ?_
 refine rNil ?_
 refine qSeq rfl ?_
 refine hSeq ?_
 refine hSeq ?_
 refine hReg (sl 0 (sq 1 (sl 2 (sq 3 (sq 4 sz))))) (by kernel_rfl) ?_
 refine ldAl Try.isAgg43 Try.sizeOf43 (cBs 2 rfl) trv rfl rfl rfl rfl ?_
 refine mvI rfl rfl rfl ?_
 refine callS Try.call116 trv1 rfl rfl (fun w hs => impl_infoSets_c _ nz cz _ _ _ nws cws _ _ _ nvs cvs _ _ _ w (Kn.drop (k := 3) kz w hs) (Kn.drop (k := 3) kws w hs) (Kn.drop (k := 3) kvs w hs) (by omega) (by omega)) ?_
 rintro ⟨ay1, ny1, cy1, Hy1, y1⟩ hr1
 dsimp only at hr1
 subst y1
 refine rKnow (fun w hs => (show OwnR maK 28 2 ay1 ny1 cy1 Hy1 (Math.sets z nws p) w from hs.at_ 0 rfl).1) (fun lenn4 => ?_)
 refine lenS Try.runUnderlying41 rfl rfl rfl ?_
 refine mvI rfl rfl rfl ?_
 refine rNil ?_
 refine qSeq rfl ?_
 refine hBlk ?_
 refine hPieces (fun _ h => Sep.nilR maK 28 2 (fun _ => (none, 0)) h) ?_
 refine hLoop (α := Nat × Nat × (Hd × (Nat → Hd))) (fun x => x.1 ≤ ny1 ∧ x.2.1 = x.1) (fun x => ny1 - x.1) (fun x => [OwnR maK 28 2 x.2.2.1.1 x.2.1 x.2.2.1.2 x.2.2.2 ((Math.unif z ((Math.sets z nws p).take x.1))), OwnR maK 28 2 ay1 ny1 cy1 Hy1 (Math.sets z nws p), blk bka3 56 [.int .i64 p, .slice x.2.2.1.1 x.2.1 x.2.2.1.2], blk bka2 56 [.int .i64 0, .slice none 0 0], blk bkb1 43 [.slice az nz cz, .slice aws nws cws, .slice avs nvs cvs]]) (fun x => [(2, .pointer (some ⟨bkb1, 0, none⟩)), (4, .pointer (some ⟨bka2, 0, none⟩)), (5, .pointer (some ⟨bka3, 0, none⟩)), (12, .slice ay1 ny1 cy1), (13, .int .i64 (ny1 : Int)), (14, .int .i64 (x.1 : Int))]) ((0, 0, ((none, 0), (fun _ => (none, 0))))) ⟨Nat.zero_le _, rfl⟩ (fun _ h => h.pick [0, 0, 0, 0, 0]) ⟨rfl, rfl, rfl, rfl, rfl, rfl, trivial⟩ ?_
 rintro ⟨i, q, hd⟩ τ1 ⟨hi, hq⟩
 dsimp only at hi hq
 refine hRe [(2, .pointer (some ⟨bkb1, 0, none⟩)), (4, .pointer (some ⟨bka2, 0, none⟩)), (5, .pointer (some ⟨bka3, 0, none⟩)), (12, .slice ay1 ny1 cy1), (13, .int .i64 (ny1 : Int)), (14, .int .i64 (i : Int))] [OwnR maK 28 2 hd.1.1 q hd.1.2 hd.2 ((Math.unif z ((Math.sets z nws p).take i))), OwnR maK 28 2 ay1 ny1 cy1 Hy1 (Math.sets z nws p), blk bka3 56 [.int .i64 p, .slice hd.1.1 q hd.1.2], blk bka2 56 [.int .i64 0, .slice none 0 0], blk bkb1 43 [.slice az nz cz, .slice aws nws cws, .slice avs nvs cvs]] rfl rfl ?_
 refine hSeq ?_
 refine hReg (sq 0 sz) (by kernel_rfl) ?_
 refine lss rfl rfl rfl rfl ?_
 refine rNil ?_
 refine qSeq rfl ?_
 refine hSeq ?_
 refine hIfD rfl (fun c1 => ?_) (fun c1 => ?_)
 ·
  replace c1 : (i : Int) < (ny1 : Int) := c1
  have hsa := Math.sets_at (z := z) (k := nws) (p := p) (i := i) (by omega)
  have hwd : Math.wide z ((Math.sets z nws p).getD i []) ≤ 4 := Math.wide_le hg hsa.2.1
  have hwq : Math.wide z ((Math.sets z nws p).getD i []) = (z.getD (((Math.sets z nws p).getD i []).getD 0 0).toNat dN).ch.length := rfl
  have hwp : 1 ≤ Math.wide z ((Math.sets z nws p).getD i []) := Math.wide_pos hg hsa.2.1 hsa.2.2 hp.2
  refine hSkip ?_
  refine qSeq rfl ?_
  refine hSeq ?_
  refine hBlk ?_
  refine hSeq ?_
  refine hReg (sq 0 (sl 1 (sq 2 sz))) (by kernel_rfl) ?_
  refine ixRl (zn := i) ((Math.sets z nws p).getD i []) el41 ((Kn.at_ 1 rfl).imp fun _ h => OwnR.rd h maK.ok) rfl rfl rfl rfl (by omega) (by omega) rfl (nth [] (by omega)) ?_
  intro be2 oe2 e2
  refine ldl Try.isAgg28 (Kn.fld e2 0 rfl) trv rfl rfl rfl ?_
  refine asS rfl rfl rfl ?_
  refine rNil ?_
  refine qSeq rfl ?_
  refine hDraw (Ls := []) (by kernel_rfl) (sq 0 (sq 2 (sq 3 (sq 5 (sq 6 (.alt (sl 1 (.alt (sl 4 (sl 7 (sq 8 (sq 9 (sl 10 (sq 11 (sl 12 (sl 13 (sl 14 (sl 15 (sq 16 (sf 17 sz)))))))))))) (sl 7 (sl 4 (sq 8 (sq 9 (sl 10 (sq 11 (sl 12 (sl 13 (sl 14 (sl 15 (sq 16 (sf 17 sz)))))))))))))) (.alt (sl 4 (.alt (sl 1 (sl 7 (sq 8 (sq 9 (sl 10 (sq 11 (sl 12 (sl 13 (sl 14 (sl 15 (sq 16 (sf 17 sz)))))))))))) (sl 7 (sq 8 (sq 9 (.alt (sl 1 (sl 10 (sq 11 (sl 12 (sl 13 (sl 14 (sl 15 (sq 16 (sf 17 sz))))))))) (sl 10 (sq 11 (.alt (sl 1 (sl 12 (sl 13 (sl 14 (sl 15 (sq 16 (sf 17 sz))))))) (sl 12 (.alt (sl 1 (sl 13 (sl 14 (sl 15 (sq 16 (sf 17 sz)))))) (sl 13 (.alt (sl 1 (sl 14 (sl 15 (sq 16 (sf 17 sz))))) (sl 14 (sl 1 (sl 15 (sq 16 (sf 17 sz)))))))))))))))))) (sl 7 (.alt (sl 1 (sl 4 (sq 8 (sq 9 (sl 10 (sq 11 (sl 12 (sl 13 (sl 14 (sl 15 (sq 16 (sf 17 sz)))))))))))) (sl 4 (sq 8 (sq 9 (.alt (sl 1 (sl 10 (sq 11 (sl 12 (sl 13 (sl 14 (sl 15 (sq 16 (sf 17 sz))))))))) (sl 10 (sq 11 (.alt (sl 1 (sl 12 (sl 13 (sl 14 (sl 15 (sq 16 (sf 17 sz))))))) (sl 12 (.alt (sl 1 (sl 13 (sl 14 (sl 15 (sq 16 (sf 17 sz)))))) (sl 13 (.alt (sl 1 (sl 14 (sl 15 (sq 16 (sf 17 sz))))) (sl 14 (sl 1 (sl 15 (sq 16 (sf 17 sz))))))))))))))))))))))))) (by kernel_rfl) (.cons _ (.cons _ (.cons _ (.cons _ (.cons _ .slnil))))) ?_
  refine fld fl56_1 rfl rfl rfl ?_
  refine fld fl43_0 rfl rfl rfl ?_
  refine fld fl26_0 rfl rfl rfl ?_
  refine mvS rfl rfl rfl ?_
  refine ixIl (zn := 0) el28 ((Kn.imp ((Kn.at_ (φ := OwnR maK 28 2 ay1 ny1 cy1 Hy1 (Math.sets z nws p)) 1 rfl).imp fun _ h => OwnR.rd h maK.ok) fun _ h => h.kidM (nth [] (by omega)))) rfl rfl rfl rfl (by omega) (by omega) rfl ?_
  intro ae3 e3
  refine rAlt ?_ ?_
  ·
   refine ldl Try.isAgg41 (cB 2 rfl rfl) (fun _ h => h.pick []) rfl rfl rfl ?_
   refine rAlt ?_ ?_
   ·
    refine ldl Try.isAgg24 (cB 4 rfl rfl) (fun _ h => h.pick []) rfl rfl rfl ?_
    refine ldl Try.isAgg2 (e3) (fun _ h => h.pick []) rfl rfl rfl ?_
    refine ixRl (zn := (((((Math.sets z nws p).getD i [])).getD 0 0)).toNat) (z.getD ((((((Math.sets z nws p).getD i [])).getD 0 0)).toNat) dN) el24 (Kn.drop (k := 5) kz) rfl rfl rfl rfl (by omega) (by omega) rfl (nth dN (by omega)) ?_
    intro be4 oe4 e4
    refine fld fl88_4 rfl rfl rfl ?_
    refine ldl Try.isAgg28 (Kn.fld e4 4 rfl) (fun _ h => h.pick []) rfl rfl rfl ?_
    refine lenS Try.runUnderlying28 rfl rfl rfl ?_
    refine mksI (((z.getD ((((((Math.sets z nws p).getD i [])).getD 0 0)).toNat) dN).ch).length) mk28 (fun _ _ h => h.pick []) rfl rfl rfl rfl (rfl) (by omega) (fun bkm6 hbkm6 => ?_)
    refine callS Try.call162 (by exact (fun _ _ h => h.pick [])) rfl rfl (fun w hs => impl_partsOf_c _ (((z.getD ((((((Math.sets z nws p).getD i [])).getD 0 0)).toNat) dN).ch).length) (((z.getD ((((((Math.sets z nws p).getD i [])).getD 0 0)).toNat) dN).ch).length) _ w (OwnI.rd (hs.at_ 0 rfl)) (by intro x hx; rw [List.eq_of_mem_replicate hx]; decide) (by rw [List.length_replicate]; omega) (by rw [List.length_replicate]; omega)) ?_
    rintro ⟨ay5, ny5, cy5, y5⟩ hr5
    dsimp only at hr5
    subst y5
    refine rKnow (fun w hs => (show OwnI 2 ay5 ny5 cy5 (((Math.partsOf ((List.replicate (((z.getD ((((((Math.sets z nws p).getD i [])).getD 0 0)).toNat) dN).ch).length) 0))))) w from hs.at_ 0 rfl).lenz) (fun lenn7 => ?_)
    refine bsl (fun _ _ h => h.pick []) rfl rfl rfl (bsl41_1 (.slice _ _ _) rfl) (fun bkl8 hbkl8 => ?_)
    refine apR (hd := (ay5, cy5)) (x := ((Math.partsOf ((List.replicate (((z.getD ((((((Math.sets z nws p).getD i [])).getD 0 0)).toNat) dN).ch).length) 0))))) 3 1 0 maK.ok rfl rfl rfl (fun h => by first | rfl | (dsimp only at h; rw [h]; rfl) | (rw [h]; rfl) | exact congrArg (fun m => [Value.slice _ m _]) h) mk41 (fun _ _ h => h.pick []) rfl rfl rfl rfl (by omega) ?_
    intro aq6 cq6
    refine fld fl56_1 rfl rfl rfl ?_
    refine stf (v := .slice _ _ _) 4 rfl Try.sizeOf41 rfl rfl rfl rfl rfl (Nat.le_of_ble_eq_true rfl) ?_
    refine rNil ?_
    refine qSeq rfl ?_
    refine hReg (sq 0 (sq 1 sz)) (by kernel_rfl) ?_
    refine add rfl rfl rfl rfl (by omega) ?_
    refine mvI rfl rfl rfl ?_
    refine rNil ?_
    rw [Math.unif_snoc (by omega)]
    exact qNext rfl ((i + 1, q + 1, ((aq6, cq6), (hset hd.2 ((Math.unif z ((Math.sets z nws p).take i))).length (ay5, cy5))))) (by dsimp only; omega) ⟨by dsimp only; omega, by dsimp only; omega⟩ ⟨rfl, rfl, rfl, rfl, rfl, rfl, trivial⟩ (fun _ h => h.pick [0, 2, 2, 2, 2])
   ·
    refine ldl Try.isAgg2 (e3) (fun _ h => h.pick []) rfl rfl rfl ?_
    refine ldl Try.isAgg24 (cB 4 rfl rfl) (fun _ h => h.pick []) rfl rfl rfl ?_
    refine ixRl (zn := (((((Math.sets z nws p).getD i [])).getD 0 0)).toNat) (z.getD ((((((Math.sets z nws p).getD i [])).getD 0 0)).toNat) dN) el24 (Kn.drop (k := 5) kz) rfl rfl rfl rfl (by omega) (by omega) rfl (nth dN (by omega)) ?_
    intro be7 oe7 e7
    refine fld fl88_4 rfl rfl rfl ?_
    refine ldl Try.isAgg28 (Kn.fld e7 4 rfl) (fun _ h => h.pick []) rfl rfl rfl ?_
    refine lenS Try.runUnderlying28 rfl rfl rfl ?_
    refine mksI (((z.getD ((((((Math.sets z nws p).getD i [])).getD 0 0)).toNat) dN).ch).length) mk28 (fun _ _ h => h.pick []) rfl rfl rfl rfl (rfl) (by omega) (fun bkm9 hbkm9 => ?_)
    refine callS Try.call162 (by exact (fun _ _ h => h.pick [])) rfl rfl (fun w hs => impl_partsOf_c _ (((z.getD ((((((Math.sets z nws p).getD i [])).getD 0 0)).toNat) dN).ch).length) (((z.getD ((((((Math.sets z nws p).getD i [])).getD 0 0)).toNat) dN).ch).length) _ w (OwnI.rd (hs.at_ 0 rfl)) (by intro x hx; rw [List.eq_of_mem_replicate hx]; decide) (by rw [List.length_replicate]; omega) (by rw [List.length_replicate]; omega)) ?_
    rintro ⟨ay8, ny8, cy8, y8⟩ hr8
    dsimp only at hr8
    subst y8
    refine rKnow (fun w hs => (show OwnI 2 ay8 ny8 cy8 (((Math.partsOf ((List.replicate (((z.getD ((((((Math.sets z nws p).getD i [])).getD 0 0)).toNat) dN).ch).length) 0))))) w from hs.at_ 0 rfl).lenz) (fun lenn10 => ?_)
    refine bsl (fun _ _ h => h.pick []) rfl rfl rfl (bsl41_1 (.slice _ _ _) rfl) (fun bkl11 hbkl11 => ?_)
    refine apR (hd := (ay8, cy8)) (x := ((Math.partsOf ((List.replicate (((z.getD ((((((Math.sets z nws p).getD i [])).getD 0 0)).toNat) dN).ch).length) 0))))) 3 1 0 maK.ok rfl rfl rfl (fun h => by first | rfl | (dsimp only at h; rw [h]; rfl) | (rw [h]; rfl) | exact congrArg (fun m => [Value.slice _ m _]) h) mk41 (fun _ _ h => h.pick []) rfl rfl rfl rfl (by omega) ?_
    intro aq9 cq9
    refine fld fl56_1 rfl rfl rfl ?_
    refine stf (v := .slice _ _ _) 4 rfl Try.sizeOf41 rfl rfl rfl rfl rfl (Nat.le_of_ble_eq_true rfl) ?_
    refine rNil ?_
    refine qSeq rfl ?_
    refine hReg (sq 0 (sq 1 sz)) (by kernel_rfl) ?_
    refine add rfl rfl rfl rfl (by omega) ?_
    refine mvI rfl rfl rfl ?_
    refine rNil ?_
    rw [Math.unif_snoc (by omega)]
    exact qNext rfl ((i + 1, q + 1, ((aq9, cq9), (hset hd.2 ((Math.unif z ((Math.sets z nws p).take i))).length (ay8, cy8))))) (by dsimp only; omega) ⟨by dsimp only; omega, by dsimp only; omega⟩ ⟨rfl, rfl, rfl, rfl, rfl, rfl, trivial⟩ (fun _ h => h.pick [0, 2, 2, 2, 2])
  ·
   refine rAlt ?_ ?_
   ·
    refine ldl Try.isAgg24 (cB 4 rfl rfl) (fun _ h => h.pick []) rfl rfl rfl ?_
    refine rAlt ?_ ?_
    ·
     refine ldl Try.isAgg41 (cB 2 rfl rfl) (fun _ h => h.pick []) rfl rfl rfl ?_
     refine ldl Try.isAgg2 (e3) (fun _ h => h.pick []) rfl rfl rfl ?_
     refine ixRl (zn := (((((Math.sets z nws p).getD i [])).getD 0 0)).toNat) (z.getD ((((((Math.sets z nws p).getD i [])).getD 0 0)).toNat) dN) el24 (Kn.drop (k := 5) kz) rfl rfl rfl rfl (by omega) (by omega) rfl (nth dN (by omega)) ?_
     intro be10 oe10 e10
     refine fld fl88_4 rfl rfl rfl ?_
     refine ldl Try.isAgg28 (Kn.fld e10 4 rfl) (fun _ h => h.pick []) rfl rfl rfl ?_
     refine lenS Try.runUnderlying28 rfl rfl rfl ?_
     refine mksI (((z.getD ((((((Math.sets z nws p).getD i [])).getD 0 0)).toNat) dN).ch).length) mk28 (fun _ _ h => h.pick []) rfl rfl rfl rfl (rfl) (by omega) (fun bkm12 hbkm12 => ?_)
     refine callS Try.call162 (by exact (fun _ _ h => h.pick [])) rfl rfl (fun w hs => impl_partsOf_c _ (((z.getD ((((((Math.sets z nws p).getD i [])).getD 0 0)).toNat) dN).ch).length) (((z.getD ((((((Math.sets z nws p).getD i [])).getD 0 0)).toNat) dN).ch).length) _ w (OwnI.rd (hs.at_ 0 rfl)) (by intro x hx; rw [List.eq_of_mem_replicate hx]; decide) (by rw [List.length_replicate]; omega) (by rw [List.length_replicate]; omega)) ?_
     rintro ⟨ay11, ny11, cy11, y11⟩ hr11
     dsimp only at hr11
     subst y11
     refine rKnow (fun w hs => (show OwnI 2 ay11 ny11 cy11 (((Math.partsOf ((List.replicate (((z.getD ((((((Math.sets z nws p).getD i [])).getD 0 0)).toNat) dN).ch).length) 0))))) w from hs.at_ 0 rfl).lenz) (fun lenn13 => ?_)
     refine bsl (fun _ _ h => h.pick []) rfl rfl rfl (bsl41_1 (.slice _ _ _) rfl) (fun bkl14 hbkl14 => ?_)
     refine apR (hd := (ay11, cy11)) (x := ((Math.partsOf ((List.replicate (((z.getD ((((((Math.sets z nws p).getD i [])).getD 0 0)).toNat) dN).ch).length) 0))))) 3 1 0 maK.ok rfl rfl rfl (fun h => by first | rfl | (dsimp only at h; rw [h]; rfl) | (rw [h]; rfl) | exact congrArg (fun m => [Value.slice _ m _]) h) mk41 (fun _ _ h => h.pick []) rfl rfl rfl rfl (by omega) ?_
     intro aq12 cq12
     refine fld fl56_1 rfl rfl rfl ?_
     refine stf (v := .slice _ _ _) 4 rfl Try.sizeOf41 rfl rfl rfl rfl rfl (Nat.le_of_ble_eq_true rfl) ?_
     refine rNil ?_
     refine qSeq rfl ?_
     refine hReg (sq 0 (sq 1 sz)) (by kernel_rfl) ?_
     refine add rfl rfl rfl rfl (by omega) ?_
     refine mvI rfl rfl rfl ?_
     refine rNil ?_
     rw [Math.unif_snoc (by omega)]
     exact qNext rfl ((i + 1, q + 1, ((aq12, cq12), (hset hd.2 ((Math.unif z ((Math.sets z nws p).take i))).length (ay11, cy11))))) (by dsimp only; omega) ⟨by dsimp only; omega, by dsimp only; omega⟩ ⟨rfl, rfl, rfl, rfl, rfl, rfl, trivial⟩ (fun _ h => h.pick [0, 2, 2, 2, 2])
    ·
     refine ldl Try.isAgg2 (e3) (fun _ h => h.pick []) rfl rfl rfl ?_
     refine ixRl (zn := (((((Math.sets z nws p).getD i [])).getD 0 0)).toNat) (z.getD ((((((Math.sets z nws p).getD i [])).getD 0 0)).toNat) dN) el24 (Kn.drop (k := 5) kz) rfl rfl rfl rfl (by omega) (by omega) rfl (nth dN (by omega)) ?_
     intro be13 oe13 e13
     refine fld fl88_4 rfl rfl rfl ?_
     refine rAlt ?_ ?_
     ·
      refine ldl Try.isAgg41 (cB 2 rfl rfl) (fun _ h => h.pick []) rfl rfl rfl ?_
      refine ldl Try.isAgg28 (Kn.fld e13 4 rfl) (fun _ h => h.pick []) rfl rfl rfl ?_
      refine lenS Try.runUnderlying28 rfl rfl rfl ?_
      refine mksI (((z.getD ((((((Math.sets z nws p).getD i [])).getD 0 0)).toNat) dN).ch).length) mk28 (fun _ _ h => h.pick []) rfl rfl rfl rfl (rfl) (by omega) (fun bkm15 hbkm15 => ?_)
      refine callS Try.call162 (by exact (fun _ _ h => h.pick [])) rfl rfl (fun w hs => impl_partsOf_c _ (((z.getD ((((((Math.sets z nws p).getD i [])).getD 0 0)).toNat) dN).ch).length) (((z.getD ((((((Math.sets z nws p).getD i [])).getD 0 0)).toNat) dN).ch).length) _ w (OwnI.rd (hs.at_ 0 rfl)) (by intro x hx; rw [List.eq_of_mem_replicate hx]; decide) (by rw [List.length_replicate]; omega) (by rw [List.length_replicate]; omega)) ?_
      rintro ⟨ay14, ny14, cy14, y14⟩ hr14
      dsimp only at hr14
      subst y14
      refine rKnow (fun w hs => (show OwnI 2 ay14 ny14 cy14 (((Math.partsOf ((List.replicate (((z.getD ((((((Math.sets z nws p).getD i [])).getD 0 0)).toNat) dN).ch).length) 0))))) w from hs.at_ 0 rfl).lenz) (fun lenn16 => ?_)
      refine bsl (fun _ _ h => h.pick []) rfl rfl rfl (bsl41_1 (.slice _ _ _) rfl) (fun bkl17 hbkl17 => ?_)
      refine apR (hd := (ay14, cy14)) (x := ((Math.partsOf ((List.replicate (((z.getD ((((((Math.sets z nws p).getD i [])).getD 0 0)).toNat) dN).ch).length) 0))))) 3 1 0 maK.ok rfl rfl rfl (fun h => by first | rfl | (dsimp only at h; rw [h]; rfl) | (rw [h]; rfl) | exact congrArg (fun m => [Value.slice _ m _]) h) mk41 (fun _ _ h => h.pick []) rfl rfl rfl rfl (by omega) ?_
      intro aq15 cq15
      refine fld fl56_1 rfl rfl rfl ?_
      refine stf (v := .slice _ _ _) 4 rfl Try.sizeOf41 rfl rfl rfl rfl rfl (Nat.le_of_ble_eq_true rfl) ?_
      refine rNil ?_
      refine qSeq rfl ?_
      refine hReg (sq 0 (sq 1 sz)) (by kernel_rfl) ?_
      refine add rfl rfl rfl rfl (by omega) ?_
      refine mvI rfl rfl rfl ?_
      refine rNil ?_
      rw [Math.unif_snoc (by omega)]
      exact qNext rfl ((i + 1, q + 1, ((aq15, cq15), (hset hd.2 ((Math.unif z ((Math.sets z nws p).take i))).length (ay14, cy14))))) (by dsimp only; omega) ⟨by dsimp only; omega, by dsimp only; omega⟩ ⟨rfl, rfl, rfl, rfl, rfl, rfl, trivial⟩ (fun _ h => h.pick [0, 2, 2, 2, 2])
     ·
      refine ldl Try.isAgg28 (Kn.fld e13 4 rfl) (fun _ h => h.pick []) rfl rfl rfl ?_
      refine lenS Try.runUnderlying28 rfl rfl rfl ?_
      refine rAlt ?_ ?_
      ·
       refine ldl Try.isAgg41 (cB 2 rfl rfl) (fun _ h => h.pick []) rfl rfl rfl ?_
       refine mksI (((z.getD ((((((Math.sets z nws p).getD i [])).getD 0 0)).toNat) dN).ch).length) mk28 (fun _ _ h => h.pick []) rfl rfl rfl rfl (rfl) (by omega) (fun bkm18 hbkm18 => ?_)
       refine callS Try.call162 (by exact (fun _ _ h => h.pick [])) rfl rfl (fun w hs => impl_partsOf_c _ (((z.getD ((((((Math.sets z nws p).getD i [])).getD 0 0)).toNat) dN).ch).length) (((z.getD ((((((Math.sets z nws p).getD i [])).getD 0 0)).toNat) dN).ch).length) _ w (OwnI.rd (hs.at_ 0 rfl)) (by intro x hx; rw [List.eq_of_mem_replicate hx]; decide) (by rw [List.length_replicate]; omega) (by rw [List.length_replicate]; omega)) ?_
       rintro ⟨ay16, ny16, cy16, y16⟩ hr16
       dsimp only at hr16
       subst y16
       refine rKnow (fun w hs => (show OwnI 2 ay16 ny16 cy16 (((Math.partsOf ((List.replicate (((z.getD ((((((Math.sets z nws p).getD i [])).getD 0 0)).toNat) dN).ch).length) 0))))) w from hs.at_ 0 rfl).lenz) (fun lenn19 => ?_)
       refine bsl (fun _ _ h => h.pick []) rfl rfl rfl (bsl41_1 (.slice _ _ _) rfl) (fun bkl20 hbkl20 => ?_)
       refine apR (hd := (ay16, cy16)) (x := ((Math.partsOf ((List.replicate (((z.getD ((((((Math.sets z nws p).getD i [])).getD 0 0)).toNat) dN).ch).length) 0))))) 3 1 0 maK.ok rfl rfl rfl (fun h => by first | rfl | (dsimp only at h; rw [h]; rfl) | (rw [h]; rfl) | exact congrArg (fun m => [Value.slice _ m _]) h) mk41 (fun _ _ h => h.pick []) rfl rfl rfl rfl (by omega) ?_
       intro aq17 cq17
       refine fld fl56_1 rfl rfl rfl ?_
       refine stf (v := .slice _ _ _) 4 rfl Try.sizeOf41 rfl rfl rfl rfl rfl (Nat.le_of_ble_eq_true rfl) ?_
       refine rNil ?_
       refine qSeq rfl ?_
       refine hReg (sq 0 (sq 1 sz)) (by kernel_rfl) ?_
       refine add rfl rfl rfl rfl (by omega) ?_
       refine mvI rfl rfl rfl ?_
       refine rNil ?_
       rw [Math.unif_snoc (by omega)]
       exact qNext rfl ((i + 1, q + 1, ((aq17, cq17), (hset hd.2 ((Math.unif z ((Math.sets z nws p).take i))).length (ay16, cy16))))) (by dsimp only; omega) ⟨by dsimp only; omega, by dsimp only; omega⟩ ⟨rfl, rfl, rfl, rfl, rfl, rfl, trivial⟩ (fun _ h => h.pick [0, 2, 2, 2, 2])
      ·
       refine mksI (((z.getD ((((((Math.sets z nws p).getD i [])).getD 0 0)).toNat) dN).ch).length) mk28 (fun _ _ h => h.pick []) rfl rfl rfl rfl (rfl) (by omega) (fun bkm21 hbkm21 => ?_)
       refine rAlt ?_ ?_
       ·
        refine ldl Try.isAgg41 (cB 3 rfl rfl) (fun _ h => h.pick []) rfl rfl rfl ?_
        refine callS Try.call162 (by exact (fun _ _ h => h.pick [])) rfl rfl (fun w hs => impl_partsOf_c _ (((z.getD ((((((Math.sets z nws p).getD i [])).getD 0 0)).toNat) dN).ch).length) (((z.getD ((((((Math.sets z nws p).getD i [])).getD 0 0)).toNat) dN).ch).length) _ w (OwnI.rd (hs.at_ 0 rfl)) (by intro x hx; rw [List.eq_of_mem_replicate hx]; decide) (by rw [List.length_replicate]; omega) (by rw [List.length_replicate]; omega)) ?_
        rintro ⟨ay18, ny18, cy18, y18⟩ hr18
        dsimp only at hr18
        subst y18
        refine rKnow (fun w hs => (show OwnI 2 ay18 ny18 cy18 (((Math.partsOf ((List.replicate (((z.getD ((((((Math.sets z nws p).getD i [])).getD 0 0)).toNat) dN).ch).length) 0))))) w from hs.at_ 0 rfl).lenz) (fun lenn22 => ?_)
        refine bsl (fun _ _ h => h.pick []) rfl rfl rfl (bsl41_1 (.slice _ _ _) rfl) (fun bkl23 hbkl23 => ?_)
        refine apR (hd := (ay18, cy18)) (x := ((Math.partsOf ((List.replicate (((z.getD ((((((Math.sets z nws p).getD i [])).getD 0 0)).toNat) dN).ch).length) 0))))) 3 1 0 maK.ok rfl rfl rfl (fun h => by first | rfl | (dsimp only at h; rw [h]; rfl) | (rw [h]; rfl) | exact congrArg (fun m => [Value.slice _ m _]) h) mk41 (fun _ _ h => h.pick []) rfl rfl rfl rfl (by omega) ?_
        intro aq19 cq19
        refine fld fl56_1 rfl rfl rfl ?_
        refine stf (v := .slice _ _ _) 4 rfl Try.sizeOf41 rfl rfl rfl rfl rfl (Nat.le_of_ble_eq_true rfl) ?_
        refine rNil ?_
        refine qSeq rfl ?_
        refine hReg (sq 0 (sq 1 sz)) (by kernel_rfl) ?_
        refine add rfl rfl rfl rfl (by omega) ?_
        refine mvI rfl rfl rfl ?_
        refine rNil ?_
        rw [Math.unif_snoc (by omega)]
        exact qNext rfl ((i + 1, q + 1, ((aq19, cq19), (hset hd.2 ((Math.unif z ((Math.sets z nws p).take i))).length (ay18, cy18))))) (by dsimp only; omega) ⟨by dsimp only; omega, by dsimp only; omega⟩ ⟨rfl, rfl, rfl, rfl, rfl, rfl, trivial⟩ (fun _ h => h.pick [0, 2, 2, 2, 2])
       ·
        refine callS Try.call162 (by exact (fun _ _ h => h.pick [])) rfl rfl (fun w hs => impl_partsOf_c _ (((z.getD ((((((Math.sets z nws p).getD i [])).getD 0 0)).toNat) dN).ch).length) (((z.getD ((((((Math.sets z nws p).getD i [])).getD 0 0)).toNat) dN).ch).length) _ w (OwnI.rd (hs.at_ 0 rfl)) (by intro x hx; rw [List.eq_of_mem_replicate hx]; decide) (by rw [List.length_replicate]; omega) (by rw [List.length_replicate]; omega)) ?_
        rintro ⟨ay20, ny20, cy20, y20⟩ hr20
        dsimp only at hr20
        subst y20
        refine rKnow (fun w hs => (show OwnI 2 ay20 ny20 cy20 (((Math.partsOf ((List.replicate (((z.getD ((((((Math.sets z nws p).getD i [])).getD 0 0)).toNat) dN).ch).length) 0))))) w from hs.at_ 0 rfl).lenz) (fun lenn24 => ?_)
        refine rAlt ?_ ?_
        ·
         refine ldl Try.isAgg41 (cB 4 rfl rfl) (fun _ h => h.pick []) rfl rfl rfl ?_
         refine bsl (fun _ _ h => h.pick []) rfl rfl rfl (bsl41_1 (.slice _ _ _) rfl) (fun bkl25 hbkl25 => ?_)
         refine apR (hd := (ay20, cy20)) (x := ((Math.partsOf ((List.replicate (((z.getD ((((((Math.sets z nws p).getD i [])).getD 0 0)).toNat) dN).ch).length) 0))))) 3 1 0 maK.ok rfl rfl rfl (fun h => by first | rfl | (dsimp only at h; rw [h]; rfl) | (rw [h]; rfl) | exact congrArg (fun m => [Value.slice _ m _]) h) mk41 (fun _ _ h => h.pick []) rfl rfl rfl rfl (by omega) ?_
         intro aq21 cq21
         refine fld fl56_1 rfl rfl rfl ?_
         refine stf (v := .slice _ _ _) 4 rfl Try.sizeOf41 rfl rfl rfl rfl rfl (Nat.le_of_ble_eq_true rfl) ?_
         refine rNil ?_
         refine qSeq rfl ?_
         refine hReg (sq 0 (sq 1 sz)) (by kernel_rfl) ?_
         refine add rfl rfl rfl rfl (by omega) ?_
         refine mvI rfl rfl rfl ?_
         refine rNil ?_
         rw [Math.unif_snoc (by omega)]
         exact qNext rfl ((i + 1, q + 1, ((aq21, cq21), (hset hd.2 ((Math.unif z ((Math.sets z nws p).take i))).length (ay20, cy20))))) (by dsimp only; omega) ⟨by dsimp only; omega, by dsimp only; omega⟩ ⟨rfl, rfl, rfl, rfl, rfl, rfl, trivial⟩ (fun _ h => h.pick [0, 2, 2, 2, 2])
        ·
         refine bsl (fun _ _ h => h.pick []) rfl rfl rfl (bsl41_1 (.slice _ _ _) rfl) (fun bkl26 hbkl26 => ?_)
         refine ldl Try.isAgg41 (cB 5 rfl rfl) (fun _ h => h.pick []) rfl rfl rfl ?_
         refine apR (hd := (ay20, cy20)) (x := ((Math.partsOf ((List.replicate (((z.getD ((((((Math.sets z nws p).getD i [])).getD 0 0)).toNat) dN).ch).length) 0))))) 3 1 0 maK.ok rfl rfl rfl (fun h => by first | rfl | (dsimp only at h; rw [h]; rfl) | (rw [h]; rfl) | exact congrArg (fun m => [Value.slice _ m _]) h) mk41 (fun _ _ h => h.pick []) rfl rfl rfl rfl (by omega) ?_
         intro aq22 cq22
         refine fld fl56_1 rfl rfl rfl ?_
         refine stf (v := .slice _ _ _) 4 rfl Try.sizeOf41 rfl rfl rfl rfl rfl (Nat.le_of_ble_eq_true rfl) ?_
         refine rNil ?_
         refine qSeq rfl ?_
         refine hReg (sq 0 (sq 1 sz)) (by kernel_rfl) ?_
         refine add rfl rfl rfl rfl (by omega) ?_
         refine mvI rfl rfl rfl ?_
         refine rNil ?_
         rw [Math.unif_snoc (by omega)]
         exact qNext rfl ((i + 1, q + 1, ((aq22, cq22), (hset hd.2 ((Math.unif z ((Math.sets z nws p).take i))).length (ay20, cy20))))) (by dsimp only; omega) ⟨by dsimp only; omega, by dsimp only; omega⟩ ⟨rfl, rfl, rfl, rfl, rfl, rfl, trivial⟩ (fun _ h => h.pick [0, 2, 2, 2, 2])
   ·
    refine ldl Try.isAgg2 (e3) (fun _ h => h.pick []) rfl rfl rfl ?_
    refine rAlt ?_ ?_
    ·
     refine ldl Try.isAgg41 (cB 2 rfl rfl) (fun _ h => h.pick []) rfl rfl rfl ?_
     refine ldl Try.isAgg24 (cB 4 rfl rfl) (fun _ h => h.pick []) rfl rfl rfl ?_
     refine ixRl (zn := (((((Math.sets z nws p).getD i [])).getD 0 0)).toNat) (z.getD ((((((Math.sets z nws p).getD i [])).getD 0 0)).toNat) dN) el24 (Kn.drop (k := 5) kz) rfl rfl rfl rfl (by omega) (by omega) rfl (nth dN (by omega)) ?_
     intro be23 oe23 e23
     refine fld fl88_4 rfl rfl rfl ?_
     refine ldl Try.isAgg28 (Kn.fld e23 4 rfl) (fun _ h => h.pick []) rfl rfl rfl ?_
     refine lenS Try.runUnderlying28 rfl rfl rfl ?_
     refine mksI (((z.getD ((((((Math.sets z nws p).getD i [])).getD 0 0)).toNat) dN).ch).length) mk28 (fun _ _ h => h.pick []) rfl rfl rfl rfl (rfl) (by omega) (fun bkm27 hbkm27 => ?_)
     refine callS Try.call162 (by exact (fun _ _ h => h.pick [])) rfl rfl (fun w hs => impl_partsOf_c _ (((z.getD ((((((Math.sets z nws p).getD i [])).getD 0 0)).toNat) dN).ch).length) (((z.getD ((((((Math.sets z nws p).getD i [])).getD 0 0)).toNat) dN).ch).length) _ w (OwnI.rd (hs.at_ 0 rfl)) (by intro x hx; rw [List.eq_of_mem_replicate hx]; decide) (by rw [List.length_replicate]; omega) (by rw [List.length_replicate]; omega)) ?_
     rintro ⟨ay24, ny24, cy24, y24⟩ hr24
     dsimp only at hr24
     subst y24
     refine rKnow (fun w hs => (show OwnI 2 ay24 ny24 cy24 (((Math.partsOf ((List.replicate (((z.getD ((((((Math.sets z nws p).getD i [])).getD 0 0)).toNat) dN).ch).length) 0))))) w from hs.at_ 0 rfl).lenz) (fun lenn28 => ?_)
     refine bsl (fun _ _ h => h.pick []) rfl rfl rfl (bsl41_1 (.slice _ _ _) rfl) (fun bkl29 hbkl29 => ?_)
     refine apR (hd := (ay24, cy24)) (x := ((Math.partsOf ((List.replicate (((z.getD ((((((Math.sets z nws p).getD i [])).getD 0 0)).toNat) dN).ch).length) 0))))) 3 1 0 maK.ok rfl rfl rfl (fun h => by first | rfl | (dsimp only at h; rw [h]; rfl) | (rw [h]; rfl) | exact congrArg (fun m => [Value.slice _ m _]) h) mk41 (fun _ _ h => h.pick []) rfl rfl rfl rfl (by omega) ?_
     intro aq25 cq25
     refine fld fl56_1 rfl rfl rfl ?_
     refine stf (v := .slice _ _ _) 4 rfl Try.sizeOf41 rfl rfl rfl rfl rfl (Nat.le_of_ble_eq_true rfl) ?_
     refine rNil ?_
     refine qSeq rfl ?_
     refine hReg (sq 0 (sq 1 sz)) (by kernel_rfl) ?_
     refine add rfl rfl rfl rfl (by omega) ?_
     refine mvI rfl rfl rfl ?_
     refine rNil ?_
     rw [Math.unif_snoc (by omega)]
     exact qNext rfl ((i + 1, q + 1, ((aq25, cq25), (hset hd.2 ((Math.unif z ((Math.sets z nws p).take i))).length (ay24, cy24))))) (by dsimp only; omega) ⟨by dsimp only; omega, by dsimp only; omega⟩ ⟨rfl, rfl, rfl, rfl, rfl, rfl, trivial⟩ (fun _ h => h.pick [0, 2, 2, 2, 2])
    ·
     refine ldl Try.isAgg24 (cB 4 rfl rfl) (fun _ h => h.pick []) rfl rfl rfl ?_
     refine ixRl (zn := (((((Math.sets z nws p).getD i [])).getD 0 0)).toNat) (z.getD ((((((Math.sets z nws p).getD i [])).getD 0 0)).toNat) dN) el24 (Kn.drop (k := 5) kz) rfl rfl rfl rfl (by omega) (by omega) rfl (nth dN (by omega)) ?_
     intro be26 oe26 e26
     refine fld fl88_4 rfl rfl rfl ?_
     refine rAlt ?_ ?_
     ·
      refine ldl Try.isAgg41 (cB 2 rfl rfl) (fun _ h => h.pick []) rfl rfl rfl ?_
      refine ldl Try.isAgg28 (Kn.fld e26 4 rfl) (fun _ h => h.pick []) rfl rfl rfl ?_
      refine lenS Try.runUnderlying28 rfl rfl rfl ?_
      refine mksI (((z.getD ((((((Math.sets z nws p).getD i [])).getD 0 0)).toNat) dN).ch).length) mk28 (fun _ _ h => h.pick []) rfl rfl rfl rfl (rfl) (by omega) (fun bkm30 hbkm30 => ?_)
      refine callS Try.call162 (by exact (fun _ _ h => h.pick [])) rfl rfl (fun w hs => impl_partsOf_c _ (((z.getD ((((((Math.sets z nws p).getD i [])).getD 0 0)).toNat) dN).ch).length) (((z.getD ((((((Math.sets z nws p).getD i [])).getD 0 0)).toNat) dN).ch).length) _ w (OwnI.rd (hs.at_ 0 rfl)) (by intro x hx; rw [List.eq_of_mem_replicate hx]; decide) (by rw [List.length_replicate]; omega) (by rw [List.length_replicate]; omega)) ?_
      rintro ⟨ay27, ny27, cy27, y27⟩ hr27
      dsimp only at hr27
      subst y27
      refine rKnow (fun w hs => (show OwnI 2 ay27 ny27 cy27 (((Math.partsOf ((List.replicate (((z.getD ((((((Math.sets z nws p).getD i [])).getD 0 0)).toNat) dN).ch).length) 0))))) w from hs.at_ 0 rfl).lenz) (fun lenn31 => ?_)
      refine bsl (fun _ _ h => h.pick []) rfl rfl rfl (bsl41_1 (.slice _ _ _) rfl) (fun bkl32 hbkl32 => ?_)
      refine apR (hd := (ay27, cy27)) (x := ((Math.partsOf ((List.replicate (((z.getD ((((((Math.sets z nws p).getD i [])).getD 0 0)).toNat) dN).ch).length) 0))))) 3 1 0 maK.ok rfl rfl rfl (fun h => by first | rfl | (dsimp only at h; rw [h]; rfl) | (rw [h]; rfl) | exact congrArg (fun m => [Value.slice _ m _]) h) mk41 (fun _ _ h => h.pick []) rfl rfl rfl rfl (by omega) ?_
      intro aq28 cq28
      refine fld fl56_1 rfl rfl rfl ?_
      refine stf (v := .slice _ _ _) 4 rfl Try.sizeOf41 rfl rfl rfl rfl rfl (Nat.le_of_ble_eq_true rfl) ?_
      refine rNil ?_
      refine qSeq rfl ?_
      refine hReg (sq 0 (sq 1 sz)) (by kernel_rfl) ?_
      refine add rfl rfl rfl rfl (by omega) ?_
      refine mvI rfl rfl rfl ?_
      refine rNil ?_
      rw [Math.unif_snoc (by omega)]
      exact qNext rfl ((i + 1, q + 1, ((aq28, cq28), (hset hd.2 ((Math.unif z ((Math.sets z nws p).take i))).length (ay27, cy27))))) (by dsimp only; omega) ⟨by dsimp only; omega, by dsimp only; omega⟩ ⟨rfl, rfl, rfl, rfl, rfl, rfl, trivial⟩ (fun _ h => h.pick [0, 2, 2, 2, 2])
     ·
      refine ldl Try.isAgg28 (Kn.fld e26 4 rfl) (fun _ h => h.pick []) rfl rfl rfl ?_
      refine lenS Try.runUnderlying28 rfl rfl rfl ?_
      refine rAlt ?_ ?_
      ·
       refine ldl Try.isAgg41 (cB 2 rfl rfl) (fun _ h => h.pick []) rfl rfl rfl ?_
       refine mksI (((z.getD ((((((Math.sets z nws p).getD i [])).getD 0 0)).toNat) dN).ch).length) mk28 (fun _ _ h => h.pick []) rfl rfl rfl rfl (rfl) (by omega) (fun bkm33 hbkm33 => ?_)
       refine callS Try.call162 (by exact (fun _ _ h => h.pick [])) rfl rfl (fun w hs => impl_partsOf_c _ (((z.getD ((((((Math.sets z nws p).getD i [])).getD 0 0)).toNat) dN).ch).length) (((z.getD ((((((Math.sets z nws p).getD i [])).getD 0 0)).toNat) dN).ch).length) _ w (OwnI.rd (hs.at_ 0 rfl)) (by intro x hx; rw [List.eq_of_mem_replicate hx]; decide) (by rw [List.length_replicate]; omega) (by rw [List.length_replicate]; omega)) ?_
       rintro ⟨ay29, ny29, cy29, y29⟩ hr29
       dsimp only at hr29
       subst y29
       refine rKnow (fun w hs => (show OwnI 2 ay29 ny29 cy29 (((Math.partsOf ((List.replicate (((z.getD ((((((Math.sets z nws p).getD i [])).getD 0 0)).toNat) dN).ch).length) 0))))) w from hs.at_ 0 rfl).lenz) (fun lenn34 => ?_)
       refine bsl (fun _ _ h => h.pick []) rfl rfl rfl (bsl41_1 (.slice _ _ _) rfl) (fun bkl35 hbkl35 => ?_)
       refine apR (hd := (ay29, cy29)) (x := ((Math.partsOf ((List.replicate (((z.getD ((((((Math.sets z nws p).getD i [])).getD 0 0)).toNat) dN).ch).length) 0))))) 3 1 0 maK.ok rfl rfl rfl (fun h => by first | rfl | (dsimp only at h; rw [h]; rfl) | (rw [h]; rfl) | exact congrArg (fun m => [Value.slice _ m _]) h) mk41 (fun _ _ h => h.pick []) rfl rfl rfl rfl (by omega) ?_
       intro aq30 cq30
       refine fld fl56_1 rfl rfl rfl ?_
       refine stf (v := .slice _ _ _) 4 rfl Try.sizeOf41 rfl rfl rfl rfl rfl (Nat.le_of_ble_eq_true rfl) ?_
       refine rNil ?_
       refine qSeq rfl ?_
       refine hReg (sq 0 (sq 1 sz)) (by kernel_rfl) ?_
       refine add rfl rfl rfl rfl (by omega) ?_
       refine mvI rfl rfl rfl ?_
       refine rNil ?_
       rw [Math.unif_snoc (by omega)]
       exact qNext rfl ((i + 1, q + 1, ((aq30, cq30), (hset hd.2 ((Math.unif z ((Math.sets z nws p).take i))).length (ay29, cy29))))) (by dsimp only; omega) ⟨by dsimp only; omega, by dsimp only; omega⟩ ⟨rfl, rfl, rfl, rfl, rfl, rfl, trivial⟩ (fun _ h => h.pick [0, 2, 2, 2, 2])
      ·
       refine mksI (((z.getD ((((((Math.sets z nws p).getD i [])).getD 0 0)).toNat) dN).ch).length) mk28 (fun _ _ h => h.pick []) rfl rfl rfl rfl (rfl) (by omega) (fun bkm36 hbkm36 => ?_)
       refine rAlt ?_ ?_
       ·
        refine ldl Try.isAgg41 (cB 3 rfl rfl) (fun _ h => h.pick []) rfl rfl rfl ?_
        refine callS Try.call162 (by exact (fun _ _ h => h.pick [])) rfl rfl (fun w hs => impl_partsOf_c _ (((z.getD ((((((Math.sets z nws p).getD i [])).getD 0 0)).toNat) dN).ch).length) (((z.getD ((((((Math.sets z nws p).getD i [])).getD 0 0)).toNat) dN).ch).length) _ w (OwnI.rd (hs.at_ 0 rfl)) (by intro x hx; rw [List.eq_of_mem_replicate hx]; decide) (by rw [List.length_replicate]; omega) (by rw [List.length_replicate]; omega)) ?_
        rintro ⟨ay31, ny31, cy31, y31⟩ hr31
        dsimp only at hr31
        subst y31
        refine rKnow (fun w hs => (show OwnI 2 ay31 ny31 cy31 (((Math.partsOf ((List.replicate (((z.getD ((((((Math.sets z nws p).getD i [])).getD 0 0)).toNat) dN).ch).length) 0))))) w from hs.at_ 0 rfl).lenz) (fun lenn37 => ?_)
        refine bsl (fun _ _ h => h.pick []) rfl rfl rfl (bsl41_1 (.slice _ _ _) rfl) (fun bkl38 hbkl38 => ?_)
        refine apR (hd := (ay31, cy31)) (x := ((Math.partsOf ((List.replicate (((z.getD ((((((Math.sets z nws p).getD i [])).getD 0 0)).toNat) dN).ch).length) 0))))) 3 1 0 maK.ok rfl rfl rfl (fun h => by first | rfl | (dsimp only at h; rw [h]; rfl) | (rw [h]; rfl) | exact congrArg (fun m => [Value.slice _ m _]) h) mk41 (fun _ _ h => h.pick []) rfl rfl rfl rfl (by omega) ?_
        intro aq32 cq32
        refine fld fl56_1 rfl rfl rfl ?_
        refine stf (v := .slice _ _ _) 4 rfl Try.sizeOf41 rfl rfl rfl rfl rfl (Nat.le_of_ble_eq_true rfl) ?_
        refine rNil ?_
        refine qSeq rfl ?_
        refine hReg (sq 0 (sq 1 sz)) (by kernel_rfl) ?_
        refine add rfl rfl rfl rfl (by omega) ?_
        refine mvI rfl rfl rfl ?_
        refine rNil ?_
        rw [Math.unif_snoc (by omega)]
        exact qNext rfl ((i + 1, q + 1, ((aq32, cq32), (hset hd.2 ((Math.unif z ((Math.sets z nws p).take i))).length (ay31, cy31))))) (by dsimp only; omega) ⟨by dsimp only; omega, by dsimp only; omega⟩ ⟨rfl, rfl, rfl, rfl, rfl, rfl, trivial⟩ (fun _ h => h.pick [0, 2, 2, 2, 2])
       ·
        refine callS Try.call162 (by exact (fun _ _ h => h.pick [])) rfl rfl (fun w hs => impl_partsOf_c _ (((z.getD ((((((Math.sets z nws p).getD i [])).getD 0 0)).toNat) dN).ch).length) (((z.getD ((((((Math.sets z nws p).getD i [])).getD 0 0)).toNat) dN).ch).length) _ w (OwnI.rd (hs.at_ 0 rfl)) (by intro x hx; rw [List.eq_of_mem_replicate hx]; decide) (by rw [List.length_replicate]; omega) (by rw [List.length_replicate]; omega)) ?_
        rintro ⟨ay33, ny33, cy33, y33⟩ hr33
        dsimp only at hr33
        subst y33
        refine rKnow (fun w hs => (show OwnI 2 ay33 ny33 cy33 (((Math.partsOf ((List.replicate (((z.getD ((((((Math.sets z nws p).getD i [])).getD 0 0)).toNat) dN).ch).length) 0))))) w from hs.at_ 0 rfl).lenz) (fun lenn39 => ?_)
        refine rAlt ?_ ?_
        ·
         refine ldl Try.isAgg41 (cB 4 rfl rfl) (fun _ h => h.pick []) rfl rfl rfl ?_
         refine bsl (fun _ _ h => h.pick []) rfl rfl rfl (bsl41_1 (.slice _ _ _) rfl) (fun bkl40 hbkl40 => ?_)
         refine apR (hd := (ay33, cy33)) (x := ((Math.partsOf ((List.replicate (((z.getD ((((((Math.sets z nws p).getD i [])).getD 0 0)).toNat) dN).ch).length) 0))))) 3 1 0 maK.ok rfl rfl rfl (fun h => by first | rfl | (dsimp only at h; rw [h]; rfl) | (rw [h]; rfl) | exact congrArg (fun m => [Value.slice _ m _]) h) mk41 (fun _ _ h => h.pick []) rfl rfl rfl rfl (by omega) ?_
         intro aq34 cq34
         refine fld fl56_1 rfl rfl rfl ?_
         refine stf (v := .slice _ _ _) 4 rfl Try.sizeOf41 rfl rfl rfl rfl rfl (Nat.le_of_ble_eq_true rfl) ?_
         refine rNil ?_
         refine qSeq rfl ?_
         refine hReg (sq 0 (sq 1 sz)) (by kernel_rfl) ?_
         refine add rfl rfl rfl rfl (by omega) ?_
         refine mvI rfl rfl rfl ?_
         refine rNil ?_
         rw [Math.unif_snoc (by omega)]
         exact qNext rfl ((i + 1, q + 1, ((aq34, cq34), (hset hd.2 ((Math.unif z ((Math.sets z nws p).take i))).length (ay33, cy33))))) (by dsimp only; omega) ⟨by dsimp only; omega, by dsimp only; omega⟩ ⟨rfl, rfl, rfl, rfl, rfl, rfl, trivial⟩ (fun _ h => h.pick [0, 2, 2, 2, 2])
        ·
         refine bsl (fun _ _ h => h.pick []) rfl rfl rfl (bsl41_1 (.slice _ _ _) rfl) (fun bkl41 hbkl41 => ?_)
         refine ldl Try.isAgg41 (cB 5 rfl rfl) (fun _ h => h.pick []) rfl rfl rfl ?_
         refine apR (hd := (ay33, cy33)) (x := ((Math.partsOf ((List.replicate (((z.getD ((((((Math.sets z nws p).getD i [])).getD 0 0)).toNat) dN).ch).length) 0))))) 3 1 0 maK.ok rfl rfl rfl (fun h => by first | rfl | (dsimp only at h; rw [h]; rfl) | (rw [h]; rfl) | exact congrArg (fun m => [Value.slice _ m _]) h) mk41 (fun _ _ h => h.pick []) rfl rfl rfl rfl (by omega) ?_
         intro aq35 cq35
         refine fld fl56_1 rfl rfl rfl ?_
         refine stf (v := .slice _ _ _) 4 rfl Try.sizeOf41 rfl rfl rfl rfl rfl (Nat.le_of_ble_eq_true rfl) ?_
         refine rNil ?_
         refine qSeq rfl ?_
         refine hReg (sq 0 (sq 1 sz)) (by kernel_rfl) ?_
         refine add rfl rfl rfl rfl (by omega) ?_
         refine mvI rfl rfl rfl ?_
         refine rNil ?_
         rw [Math.unif_snoc (by omega)]
         exact qNext rfl ((i + 1, q + 1, ((aq35, cq35), (hset hd.2 ((Math.unif z ((Math.sets z nws p).take i))).length (ay33, cy33))))) (by dsimp only; omega) ⟨by dsimp only; omega, by dsimp only; omega⟩ ⟨rfl, rfl, rfl, rfl, rfl, rfl, trivial⟩ (fun _ h => h.pick [0, 2, 2, 2, 2])
 ·
  replace c1 : ¬ ((i : Int) < (ny1 : Int)) := c1
  refine hExit rfl ?_
  refine qSeq rfl ?_
  refine hSeq ?_
  refine hReg (sl 0 (sl 1 sz)) (by kernel_rfl) ?_
  refine ldAl Try.isAgg56 Try.sizeOf56 (cBs 2 rfl) trv rfl rfl rfl rfl ?_
  refine stAl (vs := [.int .i64 p, .slice hd.1.1 q hd.1.2]) 3 rfl Try.sizeOf56 trv rfl rfl rfl rfl rfl (by simp [Value.oneCell']) rfl ?_
  refine rNil ?_
  refine qSeq rfl ?_
  refine hRet ?_
  exact fun w hs => ⟨[_], ⟨⟨_, rfl, run_load_agg Try.isAgg56 Try.sizeOf56 rfl (cBs 3 rfl w hs)⟩, trivial⟩, ⟨(hd.1.1, q, hd.1.2, hd.2, (Math.unif z ((Math.sets z nws p).take i))), rfl, by rw [List.take_of_length_le (by omega)], hs.pick [0]⟩⟩
theorem impl_UniformStrategy_c (az : Option Addr) (nz : Nat) (cz : Nat) (Hz : Nat → Hd) (z : List Nd) (aws : Option Addr) (nws : Nat) (cws : Nat) (Hws : Nat → Hd) (ws : List (List Int)) (avs : Option Addr) (nvs : Nat) (cvs : Nat) (Hvs : Nat → Hd) (vs : List (List Int)) (p : Int) (w : World) (rz : RdR ndK az nz Hz z w) (rws : RdR maK aws nws Hws ws w) (rvs : RdR maK avs nvs Hvs vs w) :
  Calls Try.prog 43 #[.agg #[.slice az nz cz, .slice aws nws cws, .slice avs nvs cvs], .int .i64 p] w (Ret fun v w' => ∃ x : Int × Option Addr × Nat × Nat × (Nat → Hd) × List (List Int) × Int, v = .tuple #[.agg #[.int .i64 x.1, .slice x.2.1 x.2.2.1 x.2.2.2.1], .int .i64 x.2.2.2.2.2.2] ∧ (x.1 = (Math.unifAt z ws vs p).1.1 ∧ x.2.2.2.2.2.1 = (Math.unifAt z ws vs p).1.2 ∧ x.2.2.2.2.2.2 = (Math.unifAt z ws vs p).2) ∧ Sep w none_ [OwnR maK 28 2 x.2.1 x.2.2.1 x.2.2.2.1 x.2.2.2.2.1 x.2.2.2.2.2.1] w') := by
 have kz : Kn w none_ [] (RdR ndK az nz Hz z) := fun w' hs => rz.ext hs.upd
 have lz : z.length = nz := rz.1
 have mz : nz ≤ 9223372036854775807 := rz.2.1
 have kws : Kn w none_ [] (RdR maK aws nws Hws ws) := fun w' hs => rws.ext hs.upd
 have lws : ws.length = nws := rws.1
 have mws : nws ≤ 9223372036854775807 := rws.2.1
 have kvs : Kn w none_ [] (RdR maK avs nvs Hvs vs) := fun w' hs => rvs.ext hs.upd
 have lvs : vs.length = nvs := rvs.1
 have mvs : nvs ≤ 9223372036854775807 := rvs.2.1
 refine fn (M := none_) (rs := [.cell 4 56, .tmp 5]) Try.func43 rfl Try.ntmps43 rfl rfl (Sep.start _ _) ?_
 refine hSeq ?_
 refine hReg (sl 0 (sl 1 (sq 2 sz))) (by kernel_rfl) ?_
 refine box trv1 rfl rfl rfl rfl (fun bkb1 hbkb1 => ?_)
 refine alc Try.zeroValue56 rfl trv1 rfl rfl (fun bka2 hbka2 => ?_)
 refine asI rfl rfl rfl ?_
 refine rNil ?_
 refine qSeq rfl ?_
 refine hSeq ?_
 refine hSeq ?_
 refine hReg (sl 0 (sl 1 (sq 2 sz))) (by kernel_rfl) ?_
 refine ldAl Try.isAgg43 Try.sizeOf43 (cBs 1 rfl) trv rfl rfl rfl rfl ?_
 refine callP (v := .bool (Math.isGame z ws vs)) Try.call38 trv rfl rfl (fun w hs => impl_IsGame_c _ nz cz _ _ _ nws cws _ _ _ nvs cvs _ _ w (Kn.drop (k := 2) kz w hs) (Kn.drop (k := 2) kws w hs) (Kn.drop (k := 2) kvs w hs)) ?_
 refine not rfl rfl rfl ?_
 refine rNil ?_
 refine qSeq rfl ?_
 refine hIfN rfl (fun c1 => ?_) (fun c1 => ?_)
 ·
  replace c1 : (Math.isGame z ws vs) = false := c1
  refine hSeq ?_
  refine hReg (sq 0 (sl 1 (sq 2 sz))) (by kernel_rfl) ?_
  refine bld rfl rfl rfl (bld56) ?_
  refine stAl (vs := [.int .i64 0, .slice none 0 0]) 0 rfl Try.sizeOf56 trv rfl rfl rfl rfl rfl (by simp [Value.oneCell']) rfl ?_
  refine asI rfl rfl rfl ?_
  refine rNil ?_
  refine qSeq rfl ?_
  refine hRet ?_
  refine knP (fun _ h => Sep.nilR maK 28 2 (fun _ => (none, 0)) h) ?_
  exact fun w hs => ⟨[_, .int .i64 1], ⟨⟨_, rfl, run_load_agg Try.isAgg56 Try.sizeOf56 rfl (cBs 1 rfl w hs)⟩, ⟨rfl, trivial⟩⟩, ⟨(0, none, 0, 0, (fun _ => (none, 0)), [], 1), rfl, by rw [Math.unifAt_1 c1]; exact ⟨rfl, rfl, rfl⟩, hs.pick [0]⟩⟩
 ·
  replace c1 : (Math.isGame z ws vs) = true := c1
  refine hSkip ?_
  refine qSeq rfl ?_
  refine hSeq ?_
  refine hSeq ?_
  refine hReg (sq 0 (sl 1 (sq 2 sz))) (by kernel_rfl) ?_
  refine mvI rfl rfl rfl ?_
  refine callP (v := .bool (decide ((0 : Int) ≤ p ∧ p ≤ (1 : Int)))) Try.call96 trv rfl rfl (fun w hs => impl_within_c _ _ _ w ) ?_
  refine notD rfl rfl rfl ?_
  refine rNil ?_
  refine qSeq rfl ?_
  refine hIfD rfl (fun c2 => ?_) (fun c2 => ?_)
  ·
   replace c2 : ¬ ((0 : Int) ≤ p ∧ p ≤ (1 : Int)) := c2
   refine hSeq ?_
   refine hReg (sq 0 (sl 1 (sq 2 sz))) (by kernel_rfl) ?_
   refine bld rfl rfl rfl (bld56) ?_
   refine stAl (vs := [.int .i64 0, .slice none 0 0]) 0 rfl Try.sizeOf56 trv rfl rfl rfl rfl rfl (by simp [Value.oneCell']) rfl ?_
   refine asI rfl rfl rfl ?_
   refine rNil ?_
   refine qSeq rfl ?_
   refine hRet ?_
   refine knP (fun _ h => Sep.nilR maK 28 2 (fun _ => (none, 0)) h) ?_
   exact fun w hs => ⟨[_, .int .i64 2], ⟨⟨_, rfl, run_load_agg Try.isAgg56 Try.sizeOf56 rfl (cBs 1 rfl w hs)⟩, ⟨rfl, trivial⟩⟩, ⟨(0, none, 0, 0, (fun _ => (none, 0)), [], 2), rfl, by rw [Math.unifAt_2 c1 c2]; exact ⟨rfl, rfl, rfl⟩, hs.pick [0]⟩⟩
  ·
   replace c2 : ¬ (¬ ((0 : Int) ≤ p ∧ p ≤ (1 : Int))) := c2
   replace c2 := Classical.not_not.1 c2
   refine hSkip ?_
   refine qSeq rfl ?_
   refine hSeq ?_
   refine hReg (sl 0 (sq 1 (sl 2 (sl 3 (sq 4 sz))))) (by kernel_rfl) ?_
   refine ldAl Try.isAgg43 Try.sizeOf43 (cBs 1 rfl) trv rfl rfl rfl rfl ?_
   refine mvI rfl rfl rfl ?_
   refine callS Try.call119 trv1 rfl rfl (fun w hs => impl_uniformStrategy_c _ nz cz _ _ _ nws cws _ _ _ nvs cvs _ _ _ w (Kn.drop (k := 2) kz w hs) (Kn.drop (k := 2) kws w hs) (Kn.drop (k := 2) kvs w hs) (by assumption) (by omega)) ?_
   rintro ⟨ay1, ny1, cy1, Hy1, y1⟩ hr1
   dsimp only at hr1
   subst y1
   refine rKnow (fun w hs => (show OwnR maK 28 2 ay1 ny1 cy1 Hy1 (((Math.unif z (Math.sets z nws p)))) w from hs.at_ 0 rfl).1) (fun lenn5 => ?_)
   refine stAl (vs := [.int .i64 p, .slice ay1 ny1 cy1]) 1 rfl Try.sizeOf56 trv rfl rfl rfl rfl rfl (by simp [Value.oneCell']) rfl ?_
   refine asI rfl rfl rfl ?_
   refine rNil ?_
   refine qSeq rfl ?_
   refine hRet ?_
   exact fun w hs => ⟨[_, .int .i64 0], ⟨⟨_, rfl, run_load_agg Try.isAgg56 Try.sizeOf56 rfl (cBs 1 rfl w hs)⟩, ⟨rfl, trivial⟩⟩, ⟨(p, ay1, ny1, cy1, Hy1, ((Math.unif z (Math.sets z nws p))), 0), rfl, by rw [Math.unifAt_0 lws c1 c2]; exact ⟨rfl, rfl, rfl⟩, hs.pick [0]⟩⟩
theorem spec_UniformStrategy_c (az : Option Addr) (nz : Nat) (cz : Nat) (Hz : Nat → Hd) (z : List Nd) (aws : Option Addr) (nws : Nat) (cws : Nat) (Hws : Nat → Hd) (ws : List (List Int)) (avs : Option Addr) (nvs : Nat) (cvs : Nat) (Hvs : Nat → Hd) (vs : List (List Int)) (p : Int) (w : World) (rz : RdR ndK az nz Hz z w) (rws : RdR maK aws nws Hws ws w) (rvs : RdR maK avs nvs Hvs vs w) :
  Calls Try.prog 44 #[.agg #[.slice az nz cz, .slice aws nws cws, .slice avs nvs cvs], .int .i64 p] w (Ret fun v w' => ∃ x : Int × Option Addr × Nat × Nat × (Nat → Hd) × List (List Int) × Int, v = .tuple #[.agg #[.int .i64 x.1, .slice x.2.1 x.2.2.1 x.2.2.2.1], .int .i64 x.2.2.2.2.2.2] ∧ (x.1 = (Math.unifAt z ws vs p).1.1 ∧ x.2.2.2.2.2.1 = (Math.unifAt z ws vs p).1.2 ∧ x.2.2.2.2.2.2 = (Math.unifAt z ws vs p).2) ∧ Sep w none_ [OwnR maK 28 2 x.2.1 x.2.2.1 x.2.2.2.1 x.2.2.2.2.1 x.2.2.2.2.2.1] w') := by
 have kz : Kn w none_ [] (RdR ndK az nz Hz z) := fun w' hs => rz.ext hs.upd
 have lz : z.length = nz := rz.1
 have mz : nz ≤ 9223372036854775807 := rz.2.1
 have kws : Kn w none_ [] (RdR maK aws nws Hws ws) := fun w' hs => rws.ext hs.upd
 have lws : ws.length = nws := rws.1
 have mws : nws ≤ 9223372036854775807 := rws.2.1
 have kvs : Kn w none_ [] (RdR maK avs nvs Hvs vs) := fun w' hs => rvs.ext hs.upd
 have lvs : vs.length = nvs := rvs.1
 have mvs : nvs ≤ 9223372036854775807 := rvs.2.1
 refine fn (M := none_) (rs := [.cell 4 56, .tmp 5]) Try.func44 rfl Try.ntmps44 rfl rfl (Sep.start _ _) ?_
 refine hSeq ?_
 refine hReg (sl 0 (sl 1 (sq 2 sz))) (by kernel_rfl) ?_
 refine box trv1 rfl rfl rfl rfl (fun bkb1 hbkb1 => ?_)
 refine alc Try.zeroValue56 rfl trv1 rfl rfl (fun bka2 hbka2 => ?_)
 refine asI rfl rfl rfl ?_
 refine rNil ?_
 refine qSeq rfl ?_
 refine hSeq ?_
 refine hReg (sl 0 (sq 1 (sl 2 (sq 3 sz)))) (by kernel_rfl) ?_
 refine ldAl Try.isAgg43 Try.sizeOf43 (cBs 1 rfl) trv rfl rfl rfl rfl ?_
 refine mvI rfl rfl rfl ?_
 refine callP (v := .int .i64 (Math.codeOf z ws vs p)) Try.call120 trv rfl rfl (fun w hs => spec_l22Code_c _ nz cz _ _ _ nws cws _ _ _ nvs cvs _ _ _ w (Kn.drop (k := 2) kz w hs) (Kn.drop (k := 2) kws w hs) (Kn.drop (k := 2) kvs w hs)) ?_
 refine asI rfl rfl rfl ?_
 refine rNil ?_
 refine qSeq rfl ?_
 refine hSeq ?_
 refine hSeq ?_
 refine hReg (sq 0 (sq 1 sz)) (by kernel_rfl) ?_
 refine mvI rfl rfl rfl ?_
 refine neq rfl rfl rfl rfl ?_
 refine rNil ?_
 refine qSeq rfl ?_
 refine hIfD rfl (fun c1 => ?_) (fun c1 => ?_)
 ·
  replace c1 : (Math.codeOf z ws vs p) ≠ 0 := c1
  refine hSeq ?_
  refine hReg (sq 0 (sq 1 (sl 2 (sq 3 sz)))) (by kernel_rfl) ?_
  refine bld rfl rfl rfl (bld56) ?_
  refine mvI rfl rfl rfl ?_
  refine stAl (vs := [.int .i64 0, .slice none 0 0]) 0 rfl Try.sizeOf56 trv rfl rfl rfl rfl rfl (by simp [Value.oneCell']) rfl ?_
  refine asI rfl rfl rfl ?_
  refine rNil ?_
  refine qSeq rfl ?_
  refine hRet ?_
  refine knP (fun _ h => Sep.nilR maK 28 2 (fun _ => (none, 0)) h) ?_
  exact fun w hs => ⟨[_, .int .i64 (Math.codeOf z ws vs p)], ⟨⟨_, rfl, run_load_agg Try.isAgg56 Try.sizeOf56 rfl (cBs 1 rfl w hs)⟩, ⟨rfl, trivial⟩⟩, ⟨(0, none, 0, 0, (fun _ => (none, 0)), [], (Math.codeOf z ws vs p)), rfl, by rw [Math.unifAt_c c1]; exact ⟨rfl, rfl, rfl⟩, hs.pick [0]⟩⟩
 ·
  replace c1 : ¬ ((Math.codeOf z ws vs p) ≠ 0) := c1
  have hgp := Math.code_ok (Classical.not_not.1 c1)
  have hg := hgp.1
  refine hSkip ?_
  refine qSeq rfl ?_
  refine hSeq ?_
  refine hReg (sl 0 (sq 1 (sl 2 (sl 3 (sq 4 sz))))) (by kernel_rfl) ?_
  refine ldAl Try.isAgg43 Try.sizeOf43 (cBs 1 rfl) trv rfl rfl rfl rfl ?_
  refine mvI rfl rfl rfl ?_
  refine callS Try.call121 trv1 rfl rfl (fun w hs => spec_l22Uniform_c _ nz cz _ _ _ nws cws _ _ _ nvs cvs _ _ _ w (Kn.drop (k := 2) kz w hs) (Kn.drop (k := 2) kws w hs) (Kn.drop (k := 2) kvs w hs) (by assumption) (by omega)) ?_
  rintro ⟨ay1, ny1, cy1, Hy1, y1⟩ hr1
  dsimp only at hr1
  subst y1
  refine rKnow (fun w hs => (show OwnR maK 28 2 ay1 ny1 cy1 Hy1 (((Math.unif z (Math.sets z nws p)))) w from hs.at_ 0 rfl).1) (fun lenn4 => ?_)
  refine stAl (vs := [.int .i64 p, .slice ay1 ny1 cy1]) 1 rfl Try.sizeOf56 trv rfl rfl rfl rfl rfl (by simp [Value.oneCell']) rfl ?_
  refine asI rfl rfl rfl ?_
  refine rNil ?_
  refine qSeq rfl ?_
  refine hRet ?_
  exact fun w hs => ⟨[_, .int .i64 0], ⟨⟨_, rfl, run_load_agg Try.isAgg56 Try.sizeOf56 rfl (cBs 1 rfl w hs)⟩, ⟨rfl, trivial⟩⟩, ⟨(p, ay1, ny1, cy1, Hy1, ((Math.unif z (Math.sets z nws p))), 0), rfl, by rw [Math.unifAt_0 lws hgp.1 hgp.2]; exact ⟨rfl, rfl, rfl⟩, hs.pick [0]⟩⟩
end Go.Proofs.Ytjengglpbdgmnaa
