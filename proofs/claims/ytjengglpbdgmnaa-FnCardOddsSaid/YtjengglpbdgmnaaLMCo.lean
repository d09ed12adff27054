/- Contracts of mirrored games. Their conditions stand in each. -/
import Derived.Test.YtjengglpbdgmnaaEngCCo
import Derived.Test.YtjengglpbdgmnaaTreeCo
import Derived.Test.YtjengglpbdgmnaaGameCo
import Derived.Test.YtjengglpbdgmnaaSetsCo
import Derived.Test.YtjengglpbdgmnaaHighCo
import Derived.Test.YtjengglpbdgmnaaMirrCo
import Derived.Test.YtjengglpbdgmnaaL1Co
import Derived.Test.YtjengglpbdgmnaaL2Co
import Derived.Test.YtjengglpbdgmnaaL3Co
import Derived.Test.YtjengglpbdgmnaaL4Co
import Derived.Test.YtjengglpbdgmnaaLCCo
import Derived.Test.YtjengglpbdgmnaaRows
namespace Go.Proofs.Ytjengglpbdgmnaa
open Go Go.RowKit V
set_option linter.unusedVariables false
set_option linter.unusedSimpArgs false
set_option maxRecDepth 100000
theorem bld88_0_1_2_3_4 (v0 v1 v2 v3 v4 : Value) (h0 : v0.cells = #[v0]) (h1 : v1.cells = #[v1]) (h2 : v2.cells = #[v2]) (h3 : v3.cells = #[v3]) (h4 : v4.cells = #[v4]) : ∀ w, (Instr.build 88 ([(0, v0), (1, v1), (2, v2), (3, v3), (4, v4)] : List (Nat × Value)).toArray).run Try.prog w = .ok (.agg ([v0, v1, v2, v3, v4] : List Value).toArray) w := by
 intro w; simp [Instr.build, Instr.fill, Try.zeroValue88, Try.runUnderlying88, aggCells, Try.sizeOf2, Try.sizeOf28, h0, h1, h2, h3, h4]
theorem spec_l21Swap_c (x0 : Int) (w : World) :
  Calls Try.prog 159 #[.int .i64 x0] w (Ret fun v w' => v = .int .i64 (Math.swap x0) ∧ Ext w w') := by
 refine fn (M := none_) (rs := [.tmp 2]) Try.func159 rfl Try.ntmps159 rfl rfl (Sep.start _ _) ?_
 refine hSeq ?_
 refine hReg (sq 0 sz) (by kernel_rfl) ?_
 refine asI rfl rfl rfl ?_
 refine rNil ?_
 refine qSeq rfl ?_
 refine hSeq ?_
 refine hSeq ?_
 refine hReg (sq 0 (sq 1 (sq 2 (sq 3 (sq 4 (sq 5 sz)))))) (by kernel_rfl) ?_
 refine mvI rfl rfl rfl ?_
 refine eql rfl rfl rfl rfl ?_
 refine mvB rfl rfl rfl ?_
 refine rBoolD (d := 5) rfl (fun g1 => ?_) (fun g1 => ?_)
 ·
  replace g1 : x0 = 0 := g1
  refine rSkipQ rfl rfl ?_
  refine rSkipQ rfl rfl ?_
  refine pickB rfl rfl rfl rfl ?_
  refine rNil ?_
  refine qSeq rfl ?_
  refine hIfT rfl ?_
  refine hSeq ?_
  refine hReg (sq 0 (sq 1 (sq 2 sz))) (by kernel_rfl) ?_
  refine mvI rfl rfl rfl ?_
  refine sub rfl rfl rfl rfl (by omega) ?_
  refine asI rfl rfl rfl ?_
  refine rNil ?_
  refine qSeq rfl ?_
  refine hRet ?_
  exact fun w hs => ⟨[.int .i64 (1 - x0)], ⟨rfl, trivial⟩, ⟨vI (by unfold Math.swap; split <;> omega), hs.upd⟩⟩
 ·
  replace g1 : ¬ (x0 = 0) := g1
  refine mvI rfl rfl rfl ?_
  refine eql rfl rfl rfl rfl ?_
  refine pickB rfl rfl rfl rfl ?_
  refine rNil ?_
  refine qSeq rfl ?_
  refine hIfD rfl (fun c2 => ?_) (fun c2 => ?_)
  ·
   replace c2 : x0 = 1 := c2
   refine hSeq ?_
   refine hReg (sq 0 (sq 1 (sq 2 sz))) (by kernel_rfl) ?_
   refine mvI rfl rfl rfl ?_
   refine sub rfl rfl rfl rfl (by omega) ?_
   refine asI rfl rfl rfl ?_
   refine rNil ?_
   refine qSeq rfl ?_
   refine hRet ?_
   exact fun w hs => ⟨[.int .i64 (1 - x0)], ⟨rfl, trivial⟩, ⟨vI (by unfold Math.swap; split <;> omega), hs.upd⟩⟩
  ·
   replace c2 : ¬ (x0 = 1) := c2
   refine hSkip ?_
   refine qSeq rfl ?_
   refine hSeq ?_
   refine hReg (sq 0 (sq 1 sz)) (by kernel_rfl) ?_
   refine mvI rfl rfl rfl ?_
   refine asI rfl rfl rfl ?_
   refine rNil ?_
   refine qSeq rfl ?_
   refine hRet ?_
   exact fun w hs => ⟨[.int .i64 x0], ⟨rfl, trivial⟩, ⟨vI (by unfold Math.swap; split <;> omega), hs.upd⟩⟩
set_option maxHeartbeats 2000000 in
theorem spec_l21Mirror_c (az : Option Addr) (nz : Nat) (cz : Nat) (Hz : Nat → Hd) (z : List Nd) (aws : Option Addr) (nws : Nat) (cws : Nat) (Hws : Nat → Hd) (ws : List (List Int)) (avs : Option Addr) (nvs : Nat) (cvs : Nat) (Hvs : Nat → Hd) (vs : List (List Int)) (w : World) (rz : RdR ndK az nz Hz z w) (rws : RdR maK aws nws Hws ws w) (rvs : RdR maK avs nvs Hvs vs w) (hg : Math.isGame z ws vs = true) :
  Calls Try.prog 109 #[.agg #[.slice az nz cz, .slice aws nws cws, .slice avs nvs cvs]] w (Ret fun v w' => ∃ x : Option Addr × Nat × Nat × (Nat → Hd) × List Nd × Option Addr × Nat × Nat × (Nat → Hd) × List (List Int) × Option Addr × Nat × Nat × (Nat → Hd) × List (List Int), v = .agg #[.slice x.1 x.2.1 x.2.2.1, .slice x.2.2.2.2.2.1 x.2.2.2.2.2.2.1 x.2.2.2.2.2.2.2.1, .slice x.2.2.2.2.2.2.2.2.2.2.1 x.2.2.2.2.2.2.2.2.2.2.2.1 x.2.2.2.2.2.2.2.2.2.2.2.2.1] ∧ (x.2.2.2.2.1 = z.map Math.mirN ∧ x.2.2.2.2.2.2.2.2.2.1 = Math.mirWs ws nws nws ∧ x.2.2.2.2.2.2.2.2.2.2.2.2.2.2 = Math.mirVs vs nws nws) ∧ Sep w none_ [OwnR ndK 88 2 x.1 x.2.1 x.2.2.1 x.2.2.2.1 x.2.2.2.2.1, OwnR maK 28 2 x.2.2.2.2.2.1 x.2.2.2.2.2.2.1 x.2.2.2.2.2.2.2.1 x.2.2.2.2.2.2.2.2.1 x.2.2.2.2.2.2.2.2.2.1, OwnR maK 28 2 x.2.2.2.2.2.2.2.2.2.2.1 x.2.2.2.2.2.2.2.2.2.2.2.1 x.2.2.2.2.2.2.2.2.2.2.2.2.1 x.2.2.2.2.2.2.2.2.2.2.2.2.2.1 x.2.2.2.2.2.2.2.2.2.2.2.2.2.2] w') := by
 have kz : Kn w none_ [] (RdR ndK az nz Hz z) := fun w' hs => rz.ext hs.upd
 have lz : z.length = nz := rz.1
 have mz : nz ≤ 9223372036854775807 := rz.2.1
 have kws : Kn w none_ [] (RdR maK aws nws Hws ws) := fun w' hs => rws.ext hs.upd
 have lws : ws.length = nws := rws.1
 have mws : nws ≤ 9223372036854775807 := rws.2.1
 have kvs : Kn w none_ [] (RdR maK avs nvs Hvs vs) := fun w' hs => rvs.ext hs.upd
 have lvs : vs.length = nvs := rvs.1
 have mvs : nvs ≤ 9223372036854775807 := rvs.2.1
 have hG := Math.isGame_ok hg
 rw [lws] at hG
 have hT := Math.isTree_ok hG.1
 have hvl := Math.mat_len hG.2.2.2.1
 have hzm : (z.map Math.mirN).length = nz := by rw [List.length_map]; exact lz
 refine fn (M := none_) (rs := [.cell 2 43]) Try.func109 rfl Try.ntmps109 rfl rfl (Sep.start _ _) ?_
 refine hSeq ?_
 refine hReg (sl 0 (sl 1 sz)) (by kernel_rfl) ?_
 refine box trv1 rfl rfl rfl rfl (fun bkb1 hbkb1 => ?_)
 refine alc Try.zeroValue43 rfl trv1 rfl rfl (fun bka2 hbka2 => ?_)
 refine rNil ?_
 refine qSeq rfl ?_
 refine hSeq ?_
 refine hReg (sl 0 (sq 1 sz)) (by kernel_rfl) ?_
 refine bsl trv1 rfl rfl rfl (bsl24_0) (fun bkl3 hbkl3 => ?_)
 refine asS rfl rfl rfl ?_
 refine rNil ?_
 refine qSeq rfl ?_
 refine hSeq ?_
 refine hSeq ?_
 refine hReg (sq 0 sz) (by kernel_rfl) ?_
 refine asI rfl rfl rfl ?_
 refine rNil ?_
 refine qSeq rfl ?_
 refine hBlk ?_
 refine hPieces (fun _ h => Sep.litR ndK 88 2 (fun _ => (none, 0)) h 0 rfl) ?_
 refine hLoop (α := Nat × Nat × Hd × (Nat → Hd)) (fun x => x.1 ≤ nz ∧ x.2.1 = x.1) (fun x => nz - x.1) (fun x => [OwnR ndK 88 2 x.2.2.1.1 x.2.1 x.2.2.1.2 x.2.2.2 (((z.map Math.mirN).take x.1)), blk bka2 43 [.slice none 0 0, .slice none 0 0, .slice none 0 0], blk bkb1 43 [.slice az nz cz, .slice aws nws cws, .slice avs nvs cvs]]) (fun x => [(1, .pointer (some ⟨bkb1, 0, none⟩)), (2, .pointer (some ⟨bka2, 0, none⟩)), (3, .slice x.2.2.1.1 x.2.1 x.2.2.1.2), (4, .int .i64 (x.1 : Int))]) ((0, 0, (((some ⟨bkl3, 0, none⟩), 0), (fun _ => (none, 0))))) ⟨Nat.zero_le _, rfl⟩ (fun _ h => h.pick [0, 0, 0]) ⟨rfl, rfl, rfl, rfl, trivial⟩ ?_
 rintro ⟨i1, q1, h1⟩ τ1 ⟨hi1, hq1⟩
 dsimp only at hi1 hq1
 refine hRe [(1, .pointer (some ⟨bkb1, 0, none⟩)), (2, .pointer (some ⟨bka2, 0, none⟩)), (3, .slice h1.1.1 q1 h1.1.2), (4, .int .i64 (i1 : Int))] [OwnR ndK 88 2 h1.1.1 q1 h1.1.2 h1.2 (((z.map Math.mirN).take i1)), blk bka2 43 [.slice none 0 0, .slice none 0 0, .slice none 0 0], blk bkb1 43 [.slice az nz cz, .slice aws nws cws, .slice avs nvs cvs]] rfl rfl ?_
 refine hSeq ?_
 refine hSeq ?_
 refine hReg (sq 0 (sq 1 (sq 2 (sl 3 (sq 4 (sq 5 sz)))))) (by kernel_rfl) ?_
 refine mvI rfl rfl rfl ?_
 refine fld fl43_0 rfl rfl rfl ?_
 refine fld fl26_0 rfl rfl rfl ?_
 refine ldl Try.isAgg24 (cB 2 rfl rfl) trv rfl rfl rfl ?_
 refine lenS Try.runUnderlying24 rfl rfl rfl ?_
 refine lss rfl rfl rfl rfl ?_
 refine rNil ?_
 refine qSeq rfl ?_
 refine hIfD rfl (fun c1 => ?_) (fun c1 => ?_)
 ·
  replace c1 : (i1 : Int) < (nz : Int) := c1
  have hch := (Math.ok_pl ((Math.allOk_iff' lz).1 hT.2.1 i1 (by omega))).2.2.2.2.1
  refine hSkip ?_
  refine qSeq rfl ?_
  refine hSeq ?_
  refine hBlk ?_
  refine hSeq ?_
  refine hReg (sq 0 (sq 1 (sl 2 (sq 3 (sq 4 (sl 5 (sl 6 (sl 7 sz)))))))) (by kernel_rfl) ?_
  refine fld fl43_0 rfl rfl rfl ?_
  refine fld fl26_0 rfl rfl rfl ?_
  refine ldl Try.isAgg24 (cB 2 rfl rfl) trv rfl rfl rfl ?_
  refine mvI rfl rfl rfl ?_
  refine ixRl (zn := i1) (z.getD i1 dN) el24 (Kn.drop (k := 3) kz) rfl rfl rfl rfl (by omega) (by omega) rfl (nth dN (by omega)) ?_
  intro be1 oe1 e1
  refine ldAl Try.isAgg88 Try.sizeOf88 (e1) trv rfl rfl rfl rfl ?_
  refine alc Try.zeroValue88 rfl trv1 rfl rfl (fun bka4 hbka4 => ?_)
  refine stAl (vs := [.int .i64 ((z.getD i1 dN).pl), .int .i64 ((z.getD i1 dN).p0), .int .i64 ((z.getD i1 dN).p1), .int .i64 ((z.getD i1 dN).fo), .slice ((Hz i1).1) (((z.getD i1 dN).ch).length) ((Hz i1).2)]) 0 rfl Try.sizeOf88 trv rfl rfl rfl rfl rfl (by simp [Value.oneCell']) rfl ?_
  refine rNil ?_
  refine qSeq rfl ?_
  refine hDraw (Ls := [blk bka4 88 [.int .i64 ((z.getD i1 dN).pl), .int .i64 ((z.getD i1 dN).p0), .int .i64 ((z.getD i1 dN).p1), .int .i64 ((z.getD i1 dN).fo), .slice ((Hz i1).1) (((z.getD i1 dN).ch).length) ((Hz i1).2)]]) (by kernel_rfl) (sq 0 (sq 1 (sq 2 (sq 4 (sq 5 (sq 6 (sq 7 (sq 8 (sq 9 (sq 11 (sq 12 (sl 3 (sl 10 (sl 13 (sq 14 (sl 15 (sl 16 (sq 17 sz)))))))))))))))))) (by kernel_rfl) (.cons_cons _ (.cons _ (.cons _ (.cons _ .slnil)))) ?_
  refine mvS rfl rfl rfl ?_
  refine fld fl88_0 rfl rfl rfl ?_
  refine ldq Try.isAgg2 (cB 0 rfl rfl) rfl rfl rfl ?_
  refine fld fl88_2 rfl rfl rfl ?_
  refine ldq Try.isAgg2 (cB 0 rfl rfl) rfl rfl rfl ?_
  refine fld fl88_1 rfl rfl rfl ?_
  refine ldq Try.isAgg2 (cB 0 rfl rfl) rfl rfl rfl ?_
  refine fld fl88_3 rfl rfl rfl ?_
  refine ldq Try.isAgg2 (cB 0 rfl rfl) rfl rfl rfl ?_
  refine fld fl88_4 rfl rfl rfl ?_
  refine ldq Try.isAgg28 (cB 0 rfl rfl) rfl rfl rfl ?_
  refine callP (v := .int .i64 ((Math.swap ((z.getD i1 dN).pl)))) Try.call159 (fun _ h => h.pick [0]) rfl rfl (fun w hs => spec_l21Swap_c _ w ) ?_
  refine callP (v := .int .i64 ((Math.swap ((z.getD i1 dN).fo)))) Try.call159 (fun _ h => h.pick [0]) rfl rfl (fun w hs => spec_l21Swap_c _ w ) ?_
  refine callS Try.call160 (by exact (fun _ _ h => h.pick [1])) rfl rfl (fun w hs => spec_l01Own_c _ (((z.getD i1 dN).ch).length) ((Hz i1).2) _ w (Kn.drop (k := 4) ((Kn.imp kz fun _ h => h.kidN (nth dN (by omega)))) w hs) (by omega)) ?_
  rintro ⟨ay2, ny2, cy2, y2⟩ hr2
  dsimp only at hr2
  subst y2
  refine rKnow (fun w hs => (show OwnI 2 ay2 ny2 cy2 (((((z.getD i1 dN).ch)))) w from hs.at_ 0 rfl).lenz) (fun lenn5 => ?_)
  refine bld rfl rfl rfl (bld88_0_1_2_3_4 (.int .i64 _) (.int .i64 _) (.int .i64 _) (.int .i64 _) (.slice _ _ _) rfl rfl rfl rfl rfl) ?_
  refine bsl (fun _ _ h => h.pick [2]) rfl rfl rfl (bsl24_1 (.int .i64 ((Math.swap ((z.getD i1 dN).pl)))) (.int .i64 ((z.getD i1 dN).p1)) (.int .i64 ((z.getD i1 dN).p0)) (.int .i64 ((Math.swap ((z.getD i1 dN).fo)))) (.slice ay2 ny2 cy2) rfl rfl rfl rfl rfl) (fun bkl6 hbkl6 => ?_)
  refine apR (hd := (ay2, cy2)) (x := (Nd.mk ((Math.swap ((z.getD i1 dN).pl))) ((z.getD i1 dN).p1) ((z.getD i1 dN).p0) ((Math.swap ((z.getD i1 dN).fo))) (((((z.getD i1 dN).ch)))))) 3 1 0 ndK.ok rfl rfl rfl (fun h => by first | rfl | (dsimp only at h; rw [h]; rfl) | (rw [h]; rfl) | exact congrArg (fun m => [Value.slice _ m _]) h) mk24 (fun _ _ h => h.pick [2]) rfl rfl rfl rfl (by omega) ?_
  intro aq3 cq3
  refine asS rfl rfl rfl ?_
  refine rNil ?_
  refine qSeq rfl ?_
  refine hReg (sq 0 (sq 1 (sq 2 sz))) (by kernel_rfl) ?_
  refine mvI rfl rfl rfl ?_
  refine add rfl rfl rfl rfl (by omega) ?_
  refine asI rfl rfl rfl ?_
  refine rNil ?_
  rw [Math.mirN_snoc (by omega)]
  exact qNext rfl ((i1 + 1, q1 + 1, ((aq3, cq3), (hset h1.2 (((z.map Math.mirN).take i1)).length (ay2, cy2))))) (by dsimp only; omega) ⟨by dsimp only; omega, by dsimp only; omega⟩ ⟨rfl, rfl, rfl, rfl, trivial⟩ (fun _ h => h.pick [0, 2, 2])
 ·
  replace c1 : ¬ ((i1 : Int) < (nz : Int)) := c1
  refine hExit rfl ?_
  refine qSeq rfl ?_
  refine hSeq ?_
  refine hReg (sl 0 (sl 1 (sq 2 (sq 3 sz)))) (by kernel_rfl) ?_
  refine bsl trv1 rfl rfl rfl (bsl41_0) (fun bkl7 hbkl7 => ?_)
  refine bsl trv1 rfl rfl rfl (bsl41_0) (fun bkl8 hbkl8 => ?_)
  refine asS rfl rfl rfl ?_
  refine asS rfl rfl rfl ?_
  refine rNil ?_
  refine qSeq rfl ?_
  refine hSeq ?_
  refine hSeq ?_
  refine hReg (sq 0 sz) (by kernel_rfl) ?_
  refine asI rfl rfl rfl ?_
  refine rNil ?_
  refine qSeq rfl ?_
  refine hBlk ?_
  refine hPieces (fun _ h => Sep.litR maK 28 2 (fun _ => (none, 0)) h 1 rfl) ?_
  refine hPieces (fun _ h => Sep.litR maK 28 2 (fun _ => (none, 0)) h 0 rfl) ?_
  refine hLoop (α := Nat × Nat × (Hd × (Nat → Hd)) × (Hd × (Nat → Hd))) (fun x => x.1 ≤ nws ∧ x.2.1 = x.1) (fun x => nws - x.1) (fun x => [OwnR maK 28 2 x.2.2.2.1.1 x.2.1 x.2.2.2.1.2 x.2.2.2.2 (Math.mirVs vs nws x.1), OwnR maK 28 2 x.2.2.1.1.1 x.2.1 x.2.2.1.1.2 x.2.2.1.2 (Math.mirWs ws nws x.1), OwnR ndK 88 2 h1.1.1 q1 h1.1.2 h1.2 (((z.map Math.mirN).take i1)), blk bka2 43 [.slice none 0 0, .slice none 0 0, .slice none 0 0], blk bkb1 43 [.slice az nz cz, .slice aws nws cws, .slice avs nvs cvs]]) (fun x => [(1, .pointer (some ⟨bkb1, 0, none⟩)), (2, .pointer (some ⟨bka2, 0, none⟩)), (3, .slice h1.1.1 q1 h1.1.2), (6, .slice x.2.2.1.1.1 x.2.1 x.2.2.1.1.2), (7, .slice x.2.2.2.1.1 x.2.1 x.2.2.2.1.2), (8, .int .i64 (x.1 : Int))]) ((0, 0, (((some ⟨bkl7, 0, none⟩), 0), (fun _ => (none, 0))), (((some ⟨bkl8, 0, none⟩), 0), (fun _ => (none, 0))))) ⟨Nat.zero_le _, rfl⟩ (fun _ h => h.pick [0, 0, 0, 0, 0]) ⟨rfl, rfl, rfl, rfl, rfl, rfl, trivial⟩ ?_
  rintro ⟨i, q, hd, he⟩ τ2 ⟨hi, hq⟩
  dsimp only at hi hq
  refine hRe [(1, .pointer (some ⟨bkb1, 0, none⟩)), (2, .pointer (some ⟨bka2, 0, none⟩)), (3, .slice h1.1.1 q1 h1.1.2), (6, .slice hd.1.1 q hd.1.2), (7, .slice he.1.1 q he.1.2), (8, .int .i64 (i : Int))] [OwnR maK 28 2 he.1.1 q he.1.2 he.2 (Math.mirVs vs nws i), OwnR maK 28 2 hd.1.1 q hd.1.2 hd.2 (Math.mirWs ws nws i), OwnR ndK 88 2 h1.1.1 q1 h1.1.2 h1.2 (((z.map Math.mirN).take i1)), blk bka2 43 [.slice none 0 0, .slice none 0 0, .slice none 0 0], blk bkb1 43 [.slice az nz cz, .slice aws nws cws, .slice avs nvs cvs]] rfl rfl ?_
  refine hSeq ?_
  refine hSeq ?_
  refine hReg (sq 0 (sq 1 (sl 2 (sq 3 (sq 4 sz))))) (by kernel_rfl) ?_
  refine mvI rfl rfl rfl ?_
  refine fld fl43_1 rfl rfl rfl ?_
  refine ldl Try.isAgg41 (cB 4 rfl rfl) trv rfl rfl rfl ?_
  refine lenS Try.runUnderlying41 rfl rfl rfl ?_
  refine lss rfl rfl rfl rfl ?_
  refine rNil ?_
  refine qSeq rfl ?_
  refine hIfD rfl (fun c2 => ?_) (fun c2 => ?_)
  ·
   replace c2 : (i : Int) < (nws : Int) := c2
   refine hSkip ?_
   refine qSeq rfl ?_
   refine hSeq ?_
   refine hBlk ?_
   refine hSeq ?_
   refine hReg (sl 0 (sl 1 (sq 2 (sq 3 sz)))) (by kernel_rfl) ?_
   refine bsl trv1 rfl rfl rfl (bsl28_0) (fun bkl9 hbkl9 => ?_)
   refine bsl trv1 rfl rfl rfl (bsl28_0) (fun bkl10 hbkl10 => ?_)
   refine asS rfl rfl rfl ?_
   refine asS rfl rfl rfl ?_
   refine rNil ?_
   refine qSeq rfl ?_
   refine hSeq ?_
   refine hSeq ?_
   refine hReg (sq 0 sz) (by kernel_rfl) ?_
   refine asI rfl rfl rfl ?_
   refine rNil ?_
   refine qSeq rfl ?_
   refine hBlk ?_
   refine hPieces (fun _ h => Sep.litI h 1 [] rfl rfl rfl) ?_
   refine hPieces (fun _ h => Sep.litI h 0 [] rfl rfl rfl) ?_
   refine hLoop (α := Nat × Nat × Hd × Hd) (fun x => x.1 ≤ nws ∧ x.2.1 = x.1) (fun x => nws - x.1) (fun x => [OwnI 2 x.2.2.2.1 x.2.1 x.2.2.2.2 ((Math.mapR (Math.mirVc vs i) x.1)), OwnI 2 x.2.2.1.1 x.2.1 x.2.2.1.2 ((Math.mapR (Math.mirWc ws i) x.1)), OwnR maK 28 2 he.1.1 q he.1.2 he.2 (Math.mirVs vs nws i), OwnR maK 28 2 hd.1.1 q hd.1.2 hd.2 (Math.mirWs ws nws i), OwnR ndK 88 2 h1.1.1 q1 h1.1.2 h1.2 (((z.map Math.mirN).take i1)), blk bka2 43 [.slice none 0 0, .slice none 0 0, .slice none 0 0], blk bkb1 43 [.slice az nz cz, .slice aws nws cws, .slice avs nvs cvs]]) (fun x => [(1, .pointer (some ⟨bkb1, 0, none⟩)), (2, .pointer (some ⟨bka2, 0, none⟩)), (3, .slice h1.1.1 q1 h1.1.2), (6, .slice hd.1.1 q hd.1.2), (7, .slice he.1.1 q he.1.2), (8, .int .i64 (i : Int)), (9, .slice x.2.2.1.1 x.2.1 x.2.2.1.2), (10, .slice x.2.2.2.1 x.2.1 x.2.2.2.2), (11, .int .i64 (x.1 : Int))]) ((0, 0, ((some ⟨bkl9, 0, none⟩), 0), ((some ⟨bkl10, 0, none⟩), 0))) ⟨Nat.zero_le _, rfl⟩ (fun _ h => h.pick [0, 0, 0, 0, 0, 0, 0]) ⟨rfl, rfl, rfl, rfl, rfl, rfl, rfl, rfl, rfl, trivial⟩ ?_
   rintro ⟨j, q2, h3, h4⟩ τ3 ⟨hj, hq2⟩
   dsimp only at hj hq2
   refine hRe [(1, .pointer (some ⟨bkb1, 0, none⟩)), (2, .pointer (some ⟨bka2, 0, none⟩)), (3, .slice h1.1.1 q1 h1.1.2), (6, .slice hd.1.1 q hd.1.2), (7, .slice he.1.1 q he.1.2), (8, .int .i64 (i : Int)), (9, .slice h3.1 q2 h3.2), (10, .slice h4.1 q2 h4.2), (11, .int .i64 (j : Int))] [OwnI 2 h4.1 q2 h4.2 ((Math.mapR (Math.mirVc vs i) j)), OwnI 2 h3.1 q2 h3.2 ((Math.mapR (Math.mirWc ws i) j)), OwnR maK 28 2 he.1.1 q he.1.2 he.2 (Math.mirVs vs nws i), OwnR maK 28 2 hd.1.1 q hd.1.2 hd.2 (Math.mirWs ws nws i), OwnR ndK 88 2 h1.1.1 q1 h1.1.2 h1.2 (((z.map Math.mirN).take i1)), blk bka2 43 [.slice none 0 0, .slice none 0 0, .slice none 0 0], blk bkb1 43 [.slice az nz cz, .slice aws nws cws, .slice avs nvs cvs]] rfl rfl ?_
   refine hSeq ?_
   refine hSeq ?_
   refine hReg (sq 0 (sq 1 (sl 2 (sq 3 (sq 4 sz))))) (by kernel_rfl) ?_
   refine mvI rfl rfl rfl ?_
   refine fld fl43_1 rfl rfl rfl ?_
   refine ldl Try.isAgg41 (cB 6 rfl rfl) trv rfl rfl rfl ?_
   refine lenS Try.runUnderlying41 rfl rfl rfl ?_
   refine lss rfl rfl rfl rfl ?_
   refine rNil ?_
   refine qSeq rfl ?_
   refine hIfD rfl (fun c3 => ?_) (fun c3 => ?_)
   ·
    replace c3 : (j : Int) < (nws : Int) := c3
    have hw1 := Math.row_len (Math.mat_row hG.2.2.1 (show j < nws by omega))
    have hv1 := Math.row_len (Math.mat_row hG.2.2.2.1 (show j < nws by omega))
    have hvr := Math.row_at (Math.mat_row hG.2.2.2.1 (show j < nws by omega)) (show i < nws by omega)
    refine hSkip ?_
    refine qSeq rfl ?_
    refine hSeq ?_
    refine hBlk ?_
    refine hSeq ?_
    refine hReg (sq 0 (sq 1 (sl 2 (sq 3 (sq 4 (sl 5 (sq 6 (sq 7 (sl 8 (sl 9 (sl 10 (sq 11 sz)))))))))))) (by kernel_rfl) ?_
    refine mvS rfl rfl rfl ?_
    refine fld fl43_1 rfl rfl rfl ?_
    refine ldl Try.isAgg41 (cB 6 rfl rfl) trv rfl rfl rfl ?_
    refine mvI rfl rfl rfl ?_
    refine ixRl (zn := j) (ws.getD j []) el41 (Kn.drop (k := 7) kws) rfl rfl rfl rfl (by omega) (by omega) rfl (nth [] (by omega)) ?_
    intro be4 oe4 e4
    refine ldl Try.isAgg28 (Kn.fld e4 0 rfl) trv rfl rfl rfl ?_
    refine mvI rfl rfl rfl ?_
    refine ixIl (zn := i) el28 (Kn.drop (k := 7) ((Kn.imp kws fun _ h => h.kidM (nth [] (by omega))))) rfl rfl rfl rfl (by omega) (by omega) rfl ?_
    intro ae5 e5
    refine ldl Try.isAgg2 (e5) trv rfl rfl rfl ?_
    refine bsl trv1 rfl rfl rfl (bsl28_1 (.int .i64 _) rfl) (fun bkl11 hbkl11 => ?_)
    refine aplI (N := q2) (x := ((ws.getD j []).getD i 0)) 2 0 rfl rfl mk28 trv1 rfl rfl rfl rfl (by omega) ?_
    intro aq6 cq6
    refine asS rfl rfl rfl ?_
    refine rNil ?_
    refine qSeq rfl ?_
    refine hReg (sq 0 (sq 1 (sl 2 (sq 3 (sq 4 (sl 5 (sq 6 (sq 7 (sl 8 (sq 9 (sl 10 (sl 11 (sq 12 sz))))))))))))) (by kernel_rfl) ?_
    refine mvS rfl rfl rfl ?_
    refine fld fl43_2 rfl rfl rfl ?_
    refine ldl Try.isAgg41 (cB 7 rfl rfl) trv rfl rfl rfl ?_
    refine mvI rfl rfl rfl ?_
    refine ixRl (zn := j) (vs.getD j []) el41 (Kn.drop (k := 8) kvs) rfl rfl rfl rfl (by omega) (by omega) rfl (nth [] (by omega)) ?_
    intro be7 oe7 e7
    refine ldl Try.isAgg28 (Kn.fld e7 0 rfl) trv rfl rfl rfl ?_
    refine mvI rfl rfl rfl ?_
    refine ixIl (zn := i) el28 (Kn.drop (k := 8) ((Kn.imp kvs fun _ h => h.kidM (nth [] (by omega))))) rfl rfl rfl rfl (by omega) (by omega) rfl ?_
    intro ae8 e8
    refine ldl Try.isAgg2 (e8) trv rfl rfl rfl ?_
    refine neg rfl rfl rfl (by omega) ?_
    refine bsl trv1 rfl rfl rfl (bsl28_1 (.int .i64 _) rfl) (fun bkl12 hbkl12 => ?_)
    refine aplI (N := q2) (x := (-((vs.getD j []).getD i 0))) 2 0 rfl rfl mk28 trv1 rfl rfl rfl rfl (by omega) ?_
    intro aq9 cq9
    refine asS rfl rfl rfl ?_
    refine rNil ?_
    refine qSeq rfl ?_
    refine hReg (sq 0 (sq 1 (sq 2 sz))) (by kernel_rfl) ?_
    refine mvI rfl rfl rfl ?_
    refine add rfl rfl rfl rfl (by omega) ?_
    refine asI rfl rfl rfl ?_
    refine rNil ?_
    rw [Math.mirW_add, Math.mirV_add]
    exact qNext rfl ((j + 1, q2 + 1, (aq6, cq6), (aq9, cq9))) (by dsimp only; omega) ⟨by dsimp only; omega, by dsimp only; omega⟩ ⟨rfl, rfl, rfl, rfl, rfl, rfl, rfl, rfl, rfl, trivial⟩ (fun _ h => h.pick [2, 2, 2, 2, 2, 2, 2])
   ·
    replace c3 : ¬ ((j : Int) < (nws : Int)) := c3
    refine hExit rfl ?_
    refine qSeq rfl ?_
    refine hSeq ?_
    refine hReg (sq 0 (sq 1 (sl 2 (sl 3 (sq 4 sz))))) (by kernel_rfl) ?_
    refine mvS rfl rfl rfl ?_
    refine mvS rfl rfl rfl ?_
    refine bsl trv1 rfl rfl rfl (bsl41_1 (.slice _ _ _) rfl) (fun bkl13 hbkl13 => ?_)
    refine apR (hd := (h3.1, h3.2)) (x := (Math.mapR (Math.mirWc ws i) j)) 4 2 0 maK.ok rfl rfl rfl (fun h => by first | rfl | (dsimp only at h; rw [h]; rfl) | (rw [h]; rfl) | exact congrArg (fun m => [Value.slice _ m _]) h) mk41 trv1 rfl rfl rfl rfl (by omega) ?_
    intro aq10 cq10
    refine asS rfl rfl rfl ?_
    refine rNil ?_
    refine qSeq rfl ?_
    refine hReg (sq 0 (sq 1 (sl 2 (sl 3 (sq 4 sz))))) (by kernel_rfl) ?_
    refine mvS rfl rfl rfl ?_
    refine mvS rfl rfl rfl ?_
    refine bsl trv1 rfl rfl rfl (bsl41_1 (.slice _ _ _) rfl) (fun bkl14 hbkl14 => ?_)
    refine apR (hd := (h4.1, h4.2)) (x := (Math.mapR (Math.mirVc vs i) j)) 4 3 0 maK.ok rfl rfl rfl (fun h => by first | rfl | (dsimp only at h; rw [h]; rfl) | (rw [h]; rfl) | exact congrArg (fun m => [Value.slice _ m _]) h) mk41 trv1 rfl rfl rfl rfl (by omega) ?_
    intro aq11 cq11
    refine asS rfl rfl rfl ?_
    refine rNil ?_
    refine qSeq rfl ?_
    refine hReg (sq 0 (sq 1 (sq 2 sz))) (by kernel_rfl) ?_
    refine mvI rfl rfl rfl ?_
    refine add rfl rfl rfl rfl (by omega) ?_
    refine asI rfl rfl rfl ?_
    refine rNil ?_
    rw [Math.mirWs_snoc ws (by omega), Math.mirVs_snoc vs (by omega)]
    exact qNext rfl ((i + 1, q + 1, ((aq10, cq10), (hset hd.2 (Math.mirWs ws nws i).length (h3.1, h3.2))), ((aq11, cq11), (hset he.2 (Math.mirVs vs nws i).length (h4.1, h4.2))))) (by dsimp only; omega) ⟨by dsimp only; omega, by dsimp only; omega⟩ ⟨rfl, rfl, rfl, rfl, rfl, rfl, trivial⟩ (fun _ h => h.pick [0, 1, 2, 2, 2])
  ·
   replace c2 : ¬ ((i : Int) < (nws : Int)) := c2
   refine hExit rfl ?_
   refine qSeq rfl ?_
   refine hSeq ?_
   refine hReg (sq 0 (sq 1 (sq 2 (sq 3 (sq 4 (sl 5 sz)))))) (by kernel_rfl) ?_
   refine mvS rfl rfl rfl ?_
   refine bld rfl rfl rfl (bld26_0 (.slice _ _ _) rfl) ?_
   refine mvS rfl rfl rfl ?_
   refine mvS rfl rfl rfl ?_
   refine bld rfl rfl rfl (bld43_0_1_2 (.slice h1.1.1 q1 h1.1.2) (.slice _ _ _) (.slice _ _ _) rfl rfl rfl) ?_
   refine stAl (vs := [.slice h1.1.1 q1 h1.1.2, .slice hd.1.1 q hd.1.2, .slice he.1.1 q he.1.2]) 3 rfl Try.sizeOf43 trv rfl rfl rfl rfl rfl (by simp [Value.oneCell']) rfl ?_
   refine rNil ?_
   refine qSeq rfl ?_
   refine hRet ?_
   exact fun w hs => ⟨[_], ⟨⟨_, rfl, run_load_agg Try.isAgg43 Try.sizeOf43 rfl (cBs 3 rfl w hs)⟩, trivial⟩, ⟨(h1.1.1, q1, h1.1.2, h1.2, ((z.map Math.mirN).take i1), hd.1.1, q, hd.1.2, hd.2, (Math.mirWs ws nws i), he.1.1, q, he.1.2, he.2, (Math.mirVs vs nws i)), rfl, ⟨List.take_of_length_le (by omega), by rw [show i = nws from by omega], by rw [show i = nws from by omega]⟩, hs.pick [2, 1, 0]⟩⟩
end Go.Proofs.Ytjengglpbdgmnaa
