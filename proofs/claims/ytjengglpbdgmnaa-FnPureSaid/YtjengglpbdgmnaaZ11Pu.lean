/- Contracts of pure strategies. Their conditions stand in each. -/
import Derived.Test.YtjengglpbdgmnaaZ10Pu
import Derived.Test.YtjengglpbdgmnaaZ2Pu
import Derived.Test.YtjengglpbdgmnaaZ3Pu
import Derived.Test.YtjengglpbdgmnaaZ4Pu
import Derived.Test.YtjengglpbdgmnaaZ7Pu
import Derived.Test.YtjengglpbdgmnaaZ8Pu
import Derived.Test.YtjengglpbdgmnaaRows
namespace Go.Proofs.Ytjengglpbdgmnaa
open Go Go.RowKit V
set_option linter.unusedVariables false
set_option linter.unusedSimpArgs false
set_option maxRecDepth 100000
theorem spec_l22Pure_c (p : Int) (azz : Option Addr) (nzz : Nat) (czz : Nat) (zz : List Int) (ach : Option Addr) (nch : Nat) (cch : Nat) (ch : List Int) (n0 : Int) (w : World) (rzz : RdI azz nzz zz w) (rch : RdI ach nch ch w) (hsz : ∀ x ∈ zz, 1 ≤ x ∧ x ≤ 4) (hln : zz.length ≤ 1000) (hch : ch = Math.digits zz n0) :
  Calls Try.prog 133 #[.int .i64 p, .slice azz nzz czz, .slice ach nch cch] w (Ret fun v w' => ∃ x : Option Addr × Nat × Nat × (Nat → Hd) × List (List Int), v = .agg #[.int .i64 p, .slice x.1 x.2.1 x.2.2.1] ∧ (x.2.2.2.2 = Math.pureM zz n0) ∧ Sep w none_ [OwnR maK 28 2 x.1 x.2.1 x.2.2.1 x.2.2.2.1 x.2.2.2.2] w') := by
 have kzz : Kn w none_ [] (RdI azz nzz zz) := fun w' hs => rzz.ext hs.upd
 have lzz : zz.length = nzz := rzz.1
 have mzz : nzz ≤ 9223372036854775807 := rzz.2.1
 have kch : Kn w none_ [] (RdI ach nch ch) := fun w' hs => rch.ext hs.upd
 have lch : ch.length = nch := rch.1
 have mch : nch ≤ 9223372036854775807 := rch.2.1
 have hdl := Math.digits_len zz n0
 refine fn (M := none_) (rs := [.cell 6 56]) Try.func133 rfl Try.ntmps133 rfl rfl (Sep.start _ _) ?_
 refine hSeq ?_
 refine hReg (sl 0 sz) (by kernel_rfl) ?_
 refine alc Try.zeroValue56 rfl trv1 rfl rfl (fun bka1 hbka1 => ?_)
 refine rNil ?_
 refine qSeq rfl ?_
 refine hSeq ?_
 refine hReg (sl 0 (sq 1 sz)) (by kernel_rfl) ?_
 refine bsl trv1 rfl rfl rfl (bsl41_0) (fun bkl2 hbkl2 => ?_)
 refine asS rfl rfl rfl ?_
 refine rNil ?_
 refine qSeq rfl ?_
 refine hSeq ?_
 refine hSeq ?_
 refine hReg (sq 0 sz) (by kernel_rfl) ?_
 refine asI rfl rfl rfl ?_
 refine rNil ?_
 refine qSeq rfl ?_
 refine hBlk ?_
 refine hPieces (fun _ h => Sep.litR maK 28 2 (fun _ => (none, 0)) h 0 rfl) ?_
 refine hLoop (α := Nat × Nat × Hd × (Nat → Hd)) (fun x => x.1 ≤ nzz ∧ x.2.1 = x.1) (fun x => nzz - x.1) (fun x => [OwnR maK 28 2 x.2.2.1.1 x.2.1 x.2.2.1.2 x.2.2.2 ((Math.mapR (fun j => Math.line (zz.getD j 0) (Math.digit zz n0 j)) x.1)), blk bka1 56 [.int .i64 0, .slice none 0 0]]) (fun x => [(0, .int .i64 p), (1, .slice azz nzz czz), (2, .slice ach nch cch), (6, .pointer (some ⟨bka1, 0, none⟩)), (7, .slice x.2.2.1.1 x.2.1 x.2.2.1.2), (8, .int .i64 (x.1 : Int))]) ((0, 0, (((some ⟨bkl2, 0, none⟩), 0), (fun _ => (none, 0))))) ⟨Nat.zero_le _, rfl⟩ (fun _ h => h.pick [0, 0]) ⟨rfl, rfl, rfl, rfl, rfl, rfl, trivial⟩ ?_
 rintro ⟨i, q, hd⟩ τ1 ⟨hi, hq⟩
 dsimp only at hi hq
 refine hRe [(0, .int .i64 p), (1, .slice azz nzz czz), (2, .slice ach nch cch), (6, .pointer (some ⟨bka1, 0, none⟩)), (7, .slice hd.1.1 q hd.1.2), (8, .int .i64 (i : Int))] [OwnR maK 28 2 hd.1.1 q hd.1.2 hd.2 ((Math.mapR (fun j => Math.line (zz.getD j 0) (Math.digit zz n0 j)) i)), blk bka1 56 [.int .i64 0, .slice none 0 0]] rfl rfl ?_
 refine hSeq ?_
 refine hSeq ?_
 refine hReg (sq 0 (sq 1 (sq 2 (sq 3 sz)))) (by kernel_rfl) ?_
 refine mvI rfl rfl rfl ?_
 refine mvS rfl rfl rfl ?_
 refine lenS Try.runUnderlying28 rfl rfl rfl ?_
 refine lss rfl rfl rfl rfl ?_
 refine rNil ?_
 refine qSeq rfl ?_
 refine hIfD rfl (fun c1 => ?_) (fun c1 => ?_)
 ·
  replace c1 : (i : Int) < (nzz : Int) := c1
  have hs1 := hsz _ (Math.getD_mem 0 (show i < zz.length by omega))
  have hd1 := Math.digit_bd (n := n0) hsz (show i < zz.length by omega)
  rw [← Math.digits_at (by omega), ← hch] at hd1
  have hdl2 : ch.length = nzz := by rw [hch, hdl]; exact lzz
  refine hSkip ?_
  refine qSeq rfl ?_
  refine hSeq ?_
  refine hBlk ?_
  refine hSeq ?_
  refine hReg (sq 0 (sq 1 (sq 2 (sl 3 (sl 4 (sq 5 sz)))))) (by kernel_rfl) ?_
  refine mvS rfl rfl rfl ?_
  refine mvI rfl rfl rfl ?_
  refine ixIl (zn := i) el28 (Kn.drop (k := 2) kzz) rfl rfl rfl rfl (by omega) (by omega) rfl ?_
  intro ae1 e1
  refine ldl Try.isAgg2 (e1) trv rfl rfl rfl ?_
  refine mksI (((zz.getD i 0)).toNat) mk28 trv1 rfl rfl rfl rfl (by omega) (by omega) (fun bkm3 hbkm3 => ?_)
  refine asS rfl rfl rfl ?_
  refine rNil ?_
  refine qSeq rfl ?_
  refine hSeq ?_
  refine hReg (sq 0 (sq 1 (sq 2 (sq 3 (sl 4 (sq 5 (sl 6 sz))))))) (by kernel_rfl) ?_
  refine mvS rfl rfl rfl ?_
  refine mvS rfl rfl rfl ?_
  refine mvI rfl rfl rfl ?_
  refine ixIl (zn := i) el28 (Kn.drop (k := 3) kch) rfl rfl rfl rfl (by omega) (by omega) rfl ?_
  intro ae2 e2
  refine ldl Try.isAgg2 (e2) trv rfl rfl rfl ?_
  refine oxI (zn := ((ch.getD i 0)).toNat) 0 rfl el28 rfl rfl rfl rfl (by omega) (by omega) rfl ?_
  intro gk3 hgk3
  refine stoI (off := ((ch.getD i 0)).toNat) (x := 60) 0 rfl hgk3 Try.sizeOf2 trv rfl rfl rfl rfl (by omega) ?_
  refine rNil ?_
  refine qSeq rfl ?_
  refine hReg (sq 0 (sq 1 (sl 2 (sl 3 (sq 4 sz))))) (by kernel_rfl) ?_
  refine mvS rfl rfl rfl ?_
  refine mvS rfl rfl rfl ?_
  refine bsl trv1 rfl rfl rfl (bsl41_1 (.slice _ _ _) rfl) (fun bkl4 hbkl4 => ?_)
  refine apR (hd := ((some ⟨bkm3, 0, none⟩), ((zz.getD i 0)).toNat)) (x := (((List.replicate (((zz.getD i 0)).toNat) 0)).set (((ch.getD i 0)).toNat) 60)) 2 1 0 maK.ok rfl rfl rfl (fun h => by first | rfl | (dsimp only at h; rw [h]; rfl) | (rw [h]; rfl) | exact congrArg (fun m => [Value.slice _ m _]) h) mk41 trv1 rfl rfl rfl rfl (by omega) ?_
  intro aq4 cq4
  refine asS rfl rfl rfl ?_
  refine rNil ?_
  refine qSeq rfl ?_
  refine hReg (sq 0 (sq 1 (sq 2 sz))) (by kernel_rfl) ?_
  refine mvI rfl rfl rfl ?_
  refine add rfl rfl rfl rfl (by omega) ?_
  refine asI rfl rfl rfl ?_
  refine rNil ?_
  rw [hch, Math.pure_snoc (by omega)]
  exact qNext rfl ((i + 1, q + 1, ((aq4, cq4), (hset hd.2 ((Math.mapR (fun j => Math.line (zz.getD j 0) (Math.digit zz n0 j)) i)).length ((some ⟨bkm3, 0, none⟩), ((zz.getD i 0)).toNat))))) (by dsimp only; omega) ⟨by dsimp only; omega, by dsimp only; omega⟩ ⟨rfl, rfl, rfl, rfl, rfl, rfl, trivial⟩ (fun _ h => h.pick [0, 1])
 ·
  replace c1 : ¬ ((i : Int) < (nzz : Int)) := c1
  refine hExit rfl ?_
  refine qSeq rfl ?_
  refine hSeq ?_
  refine hReg (sq 0 (sq 1 (sq 2 (sl 3 sz)))) (by kernel_rfl) ?_
  refine mvI rfl rfl rfl ?_
  refine mvS rfl rfl rfl ?_
  refine bld rfl rfl rfl (bld56_0_1 (.int .i64 _) (.slice _ _ _) rfl rfl) ?_
  refine stAl (vs := [.int .i64 p, .slice hd.1.1 q hd.1.2]) 1 rfl Try.sizeOf56 trv rfl rfl rfl rfl rfl (by simp [Value.oneCell']) rfl ?_
  refine rNil ?_
  refine qSeq rfl ?_
  refine hRet ?_
  exact fun w hs => ⟨[_], ⟨⟨_, rfl, run_load_agg Try.isAgg56 Try.sizeOf56 rfl (cBs 1 rfl w hs)⟩, trivial⟩, ⟨(hd.1.1, q, hd.1.2, hd.2, (Math.mapR (fun j => Math.line (zz.getD j 0) (Math.digit zz n0 j)) i)), rfl, by unfold Math.pureM; rw [show i = zz.length from by omega], hs.pick [0]⟩⟩
set_option maxHeartbeats 2000000 in
theorem impl_PureStrategy_c (az : Option Addr) (nz : Nat) (cz : Nat) (Hz : Nat → Hd) (z : List Nd) (aws : Option Addr) (nws : Nat) (cws : Nat) (Hws : Nat → Hd) (ws : List (List Int)) (avs : Option Addr) (nvs : Nat) (cvs : Nat) (Hvs : Nat → Hd) (vs : List (List Int)) (p : Int) (n0 : Int) (w : World) (rz : RdR ndK az nz Hz z w) (rws : RdR maK aws nws Hws ws w) (rvs : RdR maK avs nvs Hvs vs w) :
  Calls Try.prog 61 #[.agg #[.slice az nz cz, .slice aws nws cws, .slice avs nvs cvs], .int .i64 p, .int .i64 n0] w (Ret fun v w' => ∃ x : Int × Option Addr × Nat × Nat × (Nat → Hd) × List (List Int) × Int, v = .tuple #[.agg #[.int .i64 x.1, .slice x.2.1 x.2.2.1 x.2.2.2.1], .int .i64 x.2.2.2.2.2.2] ∧ (x.1 = (Math.pureAt z ws vs p n0).1.1 ∧ x.2.2.2.2.2.1 = (Math.pureAt z ws vs p n0).1.2 ∧ x.2.2.2.2.2.2 = (Math.pureAt z ws vs p n0).2) ∧ Sep w none_ [OwnR maK 28 2 x.2.1 x.2.2.1 x.2.2.2.1 x.2.2.2.2.1 x.2.2.2.2.2.1] w') := by
 have kz : Kn w none_ [] (RdR ndK az nz Hz z) := fun w' hs => rz.ext hs.upd
 have lz : z.length = nz := rz.1
 have mz : nz ≤ 9223372036854775807 := rz.2.1
 have kws : Kn w none_ [] (RdR maK aws nws Hws ws) := fun w' hs => rws.ext hs.upd
 have lws : ws.length = nws := rws.1
 have mws : nws ≤ 9223372036854775807 := rws.2.1
 have kvs : Kn w none_ [] (RdR maK avs nvs Hvs vs) := fun w' hs => rvs.ext hs.upd
 have lvs : vs.length = nvs := rvs.1
 have mvs : nvs ≤ 9223372036854775807 := rvs.2.1
 have hcb := Math.countOf_bd z ws vs p
 refine fn (M := none_) (rs := [.cell 6 56, .tmp 7]) Try.func61 rfl Try.ntmps61 rfl rfl (Sep.start _ _) ?_
 refine hSeq ?_
 refine hReg (sl 0 (sl 1 (sq 2 sz))) (by kernel_rfl) ?_
 refine box trv1 rfl rfl rfl rfl (fun bkb1 hbkb1 => ?_)
 refine alc Try.zeroValue56 rfl trv1 rfl rfl (fun bka2 hbka2 => ?_)
 refine asI rfl rfl rfl ?_
 refine rNil ?_
 refine qSeq rfl ?_
 refine hSeq ?_
 refine hReg (sl 0 (sq 1 (sl 2 (sq 3 (sq 4 (sq 5 (sq 6 (sq 7 sz)))))))) (by kernel_rfl) ?_
 refine ldAl Try.isAgg43 Try.sizeOf43 (cBs 1 rfl) trv rfl rfl rfl rfl ?_
 refine mvI rfl rfl rfl ?_
 refine callP (v := .tuple #[.int .i64 ((Math.countOf z ws vs p).1), .int .i64 ((Math.countOf z ws vs p).2)]) Try.call64 trv rfl rfl (fun w hs => impl_CountPure_c _ nz cz _ _ _ nws cws _ _ _ nvs cvs _ _ _ w (Kn.drop (k := 2) kz w hs) (Kn.drop (k := 2) kws w hs) (Kn.drop (k := 2) kvs w hs)) ?_
 refine mv rfl rfl rfl ?_
 refine ext rfl rfl rfl rfl ?_
 refine ext rfl rfl rfl rfl ?_
 refine asI rfl rfl rfl ?_
 refine asI rfl rfl rfl ?_
 refine rNil ?_
 refine qSeq rfl ?_
 refine hSeq ?_
 refine hSeq ?_
 refine hReg (sq 0 (sq 1 sz)) (by kernel_rfl) ?_
 refine mvI rfl rfl rfl ?_
 refine neq rfl rfl rfl rfl ?_
 refine rNil ?_
 refine qSeq rfl ?_
 refine hIfD rfl (fun c1 => ?_) (fun c1 => ?_)
 ·
  replace c1 : (Math.countOf z ws vs p).2 ≠ 0 := c1
  refine hSeq ?_
  refine hReg (sq 0 (sq 1 (sl 2 (sq 3 sz)))) (by kernel_rfl) ?_
  refine bld rfl rfl rfl (bld56) ?_
  refine mvI rfl rfl rfl ?_
  refine stAl (vs := [.int .i64 0, .slice none 0 0]) 0 rfl Try.sizeOf56 trv rfl rfl rfl rfl rfl (by simp [Value.oneCell']) rfl ?_
  refine asI rfl rfl rfl ?_
  refine rNil ?_
  refine qSeq rfl ?_
  refine hRet ?_
  refine knP (fun _ h => Sep.nilR maK 28 2 (fun _ => (none, 0)) h) ?_
  exact fun w hs => ⟨[_, .int .i64 ((Math.countOf z ws vs p).2)], ⟨⟨_, rfl, run_load_agg Try.isAgg56 Try.sizeOf56 rfl (cBs 1 rfl w hs)⟩, ⟨rfl, trivial⟩⟩, ⟨(0, none, 0, 0, (fun _ => (none, 0)), [], (Math.countOf z ws vs p).2), rfl, by rw [Math.pureAt_c (by assumption)]; exact ⟨rfl, rfl, rfl⟩, hs.pick [0]⟩⟩
 ·
  replace c1 : ¬ ((Math.countOf z ws vs p).2 ≠ 0) := c1
  replace c1 := Classical.not_not.1 c1
  have hco := Math.countOf_ok c1
  have hg := hco.1
  have hp := hco.2
  have hG := Math.isGame_ok hg
  rw [lws] at hG
  have hT := Math.isTree_ok hG.1
  have hvl := Math.mat_len hG.2.2.2.1
  have hsl := Math.sets_len (z := z) (p := p) (show nws ≤ 6 by omega)
  have hszb := Math.sizes_bd (k := nws) hg hp
  have hzl := Math.sizes_len (z := z) (ss := (Math.sets z nws p))
  refine hSkip ?_
  refine qSeq rfl ?_
  refine hSeq ?_
  refine hSeq ?_
  refine hReg (sq 0 (sq 1 (sq 2 (sl 3 (sq 4 sz))))) (by kernel_rfl) ?_
  refine mvI rfl rfl rfl ?_
  refine mvI rfl rfl rfl ?_
  refine sub rfl rfl rfl rfl (by omega) ?_
  refine callP (v := .bool (decide ((0 : Int) ≤ n0 ∧ n0 ≤ (((Math.countOf z ws vs p).1 - 1))))) Try.call96 trv rfl rfl (fun w hs => impl_within_c _ _ _ w ) ?_
  refine notD rfl rfl rfl ?_
  refine rNil ?_
  refine qSeq rfl ?_
  refine hIfD rfl (fun c2 => ?_) (fun c2 => ?_)
  ·
   replace c2 : ¬ ((0 : Int) ≤ n0 ∧ n0 ≤ (((Math.countOf z ws vs p).1 - 1))) := c2
   refine hSeq ?_
   refine hReg (sq 0 (sl 1 (sq 2 sz))) (by kernel_rfl) ?_
   refine bld rfl rfl rfl (bld56) ?_
   refine stAl (vs := [.int .i64 0, .slice none 0 0]) 0 rfl Try.sizeOf56 trv rfl rfl rfl rfl rfl (by simp [Value.oneCell']) rfl ?_
   refine asI rfl rfl rfl ?_
   refine rNil ?_
   refine qSeq rfl ?_
   refine hRet ?_
   refine knP (fun _ h => Sep.nilR maK 28 2 (fun _ => (none, 0)) h) ?_
   exact fun w hs => ⟨[_, .int .i64 2], ⟨⟨_, rfl, run_load_agg Try.isAgg56 Try.sizeOf56 rfl (cBs 1 rfl w hs)⟩, ⟨rfl, trivial⟩⟩, ⟨(0, none, 0, 0, (fun _ => (none, 0)), [], 2), rfl, by rw [Math.pureAt_2 (by assumption) (by assumption)]; exact ⟨rfl, rfl, rfl⟩, hs.pick [0]⟩⟩
  ·
   replace c2 : ¬ (¬ ((0 : Int) ≤ n0 ∧ n0 ≤ (((Math.countOf z ws vs p).1 - 1)))) := c2
   replace c2 := Classical.not_not.1 c2
   refine hSkip ?_
   refine qSeq rfl ?_
   refine hSeq ?_
   refine hReg (sl 0 (sq 1 (sl 2 (sq 3 sz)))) (by kernel_rfl) ?_
   refine ldAl Try.isAgg43 Try.sizeOf43 (cBs 1 rfl) trv rfl rfl rfl rfl ?_
   refine mvI rfl rfl rfl ?_
   refine callS Try.call116 trv1 rfl rfl (fun w hs => impl_infoSets_c _ nz cz _ _ _ nws cws _ _ _ nvs cvs _ _ _ w (Kn.drop (k := 2) kz w hs) (Kn.drop (k := 2) kws w hs) (Kn.drop (k := 2) kvs w hs) (by omega) (by omega)) ?_
   rintro ⟨ay1, ny1, cy1, Hy1, y1⟩ hr1
   dsimp only at hr1
   subst y1
   refine rKnow (fun w hs => (show OwnR maK 28 2 ay1 ny1 cy1 Hy1 (Math.sets z nws p) w from hs.at_ 0 rfl).1) (fun lenn5 => ?_)
   refine asS rfl rfl rfl ?_
   refine rNil ?_
   refine qSeq rfl ?_
   refine hSeq ?_
   refine hReg (sq 0 (sq 1 (sq 2 (sl 3 (sq 4 (sl 5 (sl 6 sz))))))) (by kernel_rfl) ?_
   refine mvI rfl rfl rfl ?_
   refine mvS rfl rfl rfl ?_
   refine lenS Try.runUnderlying41 rfl rfl rfl ?_
   refine mksR (e1 := 2) ny1 [] maK.ok rfl rfl mk41 trv1 rfl rfl rfl rfl (rfl) (by omega) (fun bkm6 hbkm6 => ?_)
   refine bld rfl rfl rfl (bld56_0_1 (.int .i64 _) (.slice _ _ _) rfl rfl) ?_
   refine alc Try.zeroValue56 rfl trv1 rfl rfl (fun bka7 hbka7 => ?_)
   refine stAl (vs := [.int .i64 p, .slice (some ⟨bkm6, 0, none⟩) ny1 ny1]) 0 rfl Try.sizeOf56 trv rfl rfl rfl rfl rfl (by simp [Value.oneCell']) rfl ?_
   refine rNil ?_
   refine qSeq rfl ?_
   refine hSeq ?_
   refine hSeq ?_
   refine hReg (sq 0 (sq 1 (sq 2 (sq 3 sz)))) (by kernel_rfl) ?_
   refine mvS rfl rfl rfl ?_
   refine lenS Try.runUnderlying41 rfl rfl rfl ?_
   refine sub rfl rfl rfl rfl (by dsimp only; omega) ?_
   refine asI rfl rfl rfl ?_
   refine rNil ?_
   refine qSeq rfl ?_
   refine hBlk ?_
   rw [Math.tail_start ([] : List Int) (show (Math.pureM (Math.sizes z (Math.sets z nws p)) n0).length = ny1 by rw [Math.pureM_len, Math.sizes_len]; omega)]
   refine hLoop (α := Int × Int × (Nat → Hd)) (fun x => (-1 ≤ x.1 ∧ x.1 < ny1) ∧ (0 ≤ x.2.1 ∧ x.2.1 ≤ 1000000000) ∧ x.2.1 = Math.quoL ((Math.sizes z (Math.sets z nws p)).drop (x.1 + 1).toNat) n0) (fun x => (x.1 + 1).toNat) (fun x => [blk bka7 56 [.int .i64 p, .slice (some ⟨bkm6, 0, none⟩) ny1 ny1], OwnR maK 28 2 (some ⟨bkm6, 0, none⟩) ny1 ny1 x.2.2 ((List.replicate (x.1 + 1).toNat [] ++ (Math.pureM (Math.sizes z (Math.sets z nws p)) n0).drop (x.1 + 1).toNat)), OwnR maK 28 2 ay1 ny1 cy1 Hy1 (Math.sets z nws p), blk bka2 56 [.int .i64 0, .slice none 0 0], blk bkb1 43 [.slice az nz cz, .slice aws nws cws, .slice avs nvs cvs]]) (fun x => [(2, .int .i64 x.2.1), (3, .pointer (some ⟨bkb1, 0, none⟩)), (6, .pointer (some ⟨bka2, 0, none⟩)), (10, .slice ay1 ny1 cy1), (11, .pointer (some ⟨bka7, 0, none⟩)), (12, .int .i64 x.1)]) (((ny1 : Int) - 1, n0, (fun _ => (none, 0)))) ⟨by dsimp only; omega, by dsimp only; omega, by dsimp only; exact (Math.quoL_end (by rw [Math.sizes_len]; omega)).symm⟩ (fun _ h => h.pick [0, 0, 0, 0, 0]) ⟨rfl, rfl, rfl, rfl, rfl, rfl, trivial⟩ ?_
   rintro ⟨i, n, hh⟩ τ1 ⟨hi, hnb, hnq⟩
   dsimp only at hi hnb hnq
   refine hRe [(2, .int .i64 n), (3, .pointer (some ⟨bkb1, 0, none⟩)), (6, .pointer (some ⟨bka2, 0, none⟩)), (10, .slice ay1 ny1 cy1), (11, .pointer (some ⟨bka7, 0, none⟩)), (12, .int .i64 i)] [blk bka7 56 [.int .i64 p, .slice (some ⟨bkm6, 0, none⟩) ny1 ny1], OwnR maK 28 2 (some ⟨bkm6, 0, none⟩) ny1 ny1 hh ((List.replicate (i + 1).toNat [] ++ (Math.pureM (Math.sizes z (Math.sets z nws p)) n0).drop (i + 1).toNat)), OwnR maK 28 2 ay1 ny1 cy1 Hy1 (Math.sets z nws p), blk bka2 56 [.int .i64 0, .slice none 0 0], blk bkb1 43 [.slice az nz cz, .slice aws nws cws, .slice avs nvs cvs]] rfl rfl ?_
   refine hSeq ?_
   refine hSeq ?_
   refine hReg (sq 0 (sq 1 sz)) (by kernel_rfl) ?_
   refine mvI rfl rfl rfl ?_
   refine geq rfl rfl rfl rfl ?_
   refine rNil ?_
   refine qSeq rfl ?_
   refine hIfD rfl (fun c3 => ?_) (fun c3 => ?_)
   ·
    replace c3 : 0 ≤ i := c3
    have hsa := Math.sets_at (z := z) (k := nws) (p := p) (i := i.toNat) (by omega)
    have hwd : Math.wide z ((Math.sets z nws p).getD i.toNat []) ≤ 4 := Math.wide_le hg hsa.2.1
    have hwp : 1 ≤ Math.wide z ((Math.sets z nws p).getD i.toNat []) := Math.wide_pos hg hsa.2.1 hsa.2.2 hp.2
    have hwq : Math.wide z ((Math.sets z nws p).getD i.toNat []) = (z.getD (((Math.sets z nws p).getD i.toNat []).getD 0 0).toNat dN).ch.length := rfl
    have hsz : (Math.sizes z (Math.sets z nws p)).getD i.toNat 0 = (Math.wide z ((Math.sets z nws p).getD i.toNat []) : Int) := Math.sizes_at (by omega)
    refine hSkip ?_
    refine qSeq rfl ?_
    refine hSeq ?_
    refine hBlk ?_
    refine hSeq ?_
    refine hDraw (Ls := [OwnR maK 28 2 ay1 ny1 cy1 Hy1 (Math.sets z nws p), blk bkb1 43 [.slice az nz cz, .slice aws nws cws, .slice avs nvs cvs]]) (by kernel_rfl) (sq 0 (sq 1 (sq 2 (sq 3 (sq 4 (sq 5 (sq 6 (sq 7 (sq 8 (sq 9 (sq 10 (sq 11 (sq 12 (sq 13 sz)))))))))))))) (by kernel_rfl) (.cons _ (.cons _ (.cons_cons _ (.cons _ (.cons_cons _ .slnil))))) ?_
    refine fld fl43_0 rfl rfl rfl ?_
    refine fld fl26_0 rfl rfl rfl ?_
    refine ldq Try.isAgg24 (cB 1 rfl rfl) rfl rfl rfl ?_
    refine mvS rfl rfl rfl ?_
    refine mvI rfl rfl rfl ?_
    refine ixRq (zn := (i).toNat) ((Math.sets z nws p).getD ((i).toNat) []) el41 ((Kn.at_ 0 rfl).imp fun _ h => OwnR.rd h maK.ok) (fun _ h => h.pick [2, 3]) rfl rfl rfl rfl (by omega) (by omega) rfl (nth [] (by omega)) ?_
    intro be2 oe2 e2
    refine ldq Try.isAgg28 (Kn.fld e2 0 rfl) rfl rfl rfl ?_
    refine ixIq (zn := 0) el28 ((Kn.imp ((Kn.at_ (φ := OwnR maK 28 2 ay1 ny1 cy1 Hy1 (Math.sets z nws p)) 0 rfl).imp fun _ h => OwnR.rd h maK.ok) fun _ h => h.kidM (nth [] (by omega)))) (fun _ h => h.pick [2, 3]) rfl rfl rfl rfl (by omega) (by omega) rfl ?_
    intro ae3 e3
    refine ldq Try.isAgg2 (e3) rfl rfl rfl ?_
    refine ixRq (zn := (((((Math.sets z nws p).getD ((i).toNat) [])).getD 0 0)).toNat) (z.getD ((((((Math.sets z nws p).getD ((i).toNat) [])).getD 0 0)).toNat) dN) el24 (Kn.drop (k := 2) kz) (fun _ h => h.pick [2, 3]) rfl rfl rfl rfl (by omega) (by omega) rfl (nth dN (by omega)) ?_
    intro be4 oe4 e4
    refine fld fl88_4 rfl rfl rfl ?_
    refine ldq Try.isAgg28 (Kn.fld e4 4 rfl) rfl rfl rfl ?_
    refine lenS Try.runUnderlying28 rfl rfl rfl ?_
    refine asI rfl rfl rfl ?_
    refine rNil ?_
    refine qSeq rfl ?_
    refine hSeq ?_
    refine hDraw (Ls := [blk bka7 56 [.int .i64 p, .slice (some ⟨bkm6, 0, none⟩) ny1 ny1]]) (by kernel_rfl) (sq 0 (sq 1 (sq 2 (sq 3 (sl 4 (sq 5 (sl 6 sz))))))) (by kernel_rfl) (.cons_cons _ (.cons _ (.cons _ (.cons _ (.cons _ .slnil))))) ?_
    refine fld fl56_1 rfl rfl rfl ?_
    refine ldq Try.isAgg41 (cB 0 rfl rfl) rfl rfl rfl ?_
    refine mvI rfl rfl rfl ?_
    refine mvI rfl rfl rfl ?_
    refine mksI (((z.getD ((((((Math.sets z nws p).getD ((i).toNat) [])).getD 0 0)).toNat) dN).ch).length) mk28 (fun _ _ h => h.pick [1]) rfl rfl rfl rfl (rfl) (by omega) (fun bkm8 hbkm8 => ?_)
    refine oxR (zn := (i).toNat) 2 rfl el41 rfl rfl rfl rfl (by omega) (by omega) rfl ?_
    intro gk5 hgk5
    refine stR (hd := ((some ⟨bkm8, 0, none⟩), ((z.getD ((((((Math.sets z nws p).getD ((i).toNat) [])).getD 0 0)).toNat) dN).ch).length)) (x := (List.replicate (((z.getD ((((((Math.sets z nws p).getD ((i).toNat) [])).getD 0 0)).toNat) dN).ch).length) 0)) (v := .slice (some ⟨bkm8, 0, none⟩) (((z.getD ((((((Math.sets z nws p).getD ((i).toNat) [])).getD 0 0)).toNat) dN).ch).length) (((z.getD ((((((Math.sets z nws p).getD ((i).toNat) [])).getD 0 0)).toNat) dN).ch).length)) ((i).toNat) 2 0 maK.ok rfl rfl hgk5 Try.sizeOf28 (fun _ h => h.pick [1]) rfl rfl rfl rfl rfl (fun h => by first | rfl | (dsimp only at h; rw [h]; rfl) | (rw [h]; rfl) | exact congrArg (fun m => [Value.slice _ m _]) h | (simp only [maK, List.length_replicate]; rfl)) (by omega) ?_
    refine rNil ?_
    refine qSeq rfl ?_
    refine hSeq ?_
    refine hDraw (Ls := [OwnR maK 28 2 (some ⟨bkm6, 0, none⟩) ny1 ny1 ((hset hh ((i).toNat) ((some ⟨bkm8, 0, none⟩), ((z.getD ((((((Math.sets z nws p).getD ((i).toNat) [])).getD 0 0)).toNat) dN).ch).length))) ((((List.replicate (i + 1).toNat [] ++ (Math.pureM (Math.sizes z (Math.sets z nws p)) n0).drop (i + 1).toNat)).set ((i).toNat) ((List.replicate (((z.getD ((((((Math.sets z nws p).getD ((i).toNat) [])).getD 0 0)).toNat) dN).ch).length) 0)))), blk bka7 56 [.int .i64 p, .slice (some ⟨bkm6, 0, none⟩) ny1 ny1]]) (by kernel_rfl) (sq 0 (sq 1 (sq 2 (sq 3 (sq 4 (sq 5 (sq 6 (sq 7 (sq 8 (sf 9 sz)))))))))) (by kernel_rfl) (.cons_cons _ (.cons_cons _ (.cons _ (.cons _ (.cons _ .slnil))))) ?_
    refine fld fl56_1 rfl rfl rfl ?_
    refine ldq Try.isAgg41 (cB 1 rfl rfl) rfl rfl rfl ?_
    refine mvI rfl rfl rfl ?_
    refine ixRq (zn := (i).toNat) (List.replicate (((z.getD ((((((Math.sets z nws p).getD ((i).toNat) [])).getD 0 0)).toNat) dN).ch).length) 0) el41 ((Kn.at_ 0 rfl).imp fun _ h => OwnR.rd h maK.ok) (fun _ h => h.pick [0, 0]) rfl rfl rfl rfl (by omega) (by omega) rfl (Math.set_at (l := (List.replicate (i + 1).toNat [] ++ (Math.pureM (Math.sizes z (Math.sets z nws p)) n0).drop (i + 1).toNat)) (by rw [Math.tail_len [] (by omega) (by rw [Math.pureM_len]; omega), Math.pureM_len]; omega)) ?_
    intro be6 oe6 e6
    refine ldq Try.isAgg28 (Kn.fld e6 0 rfl) rfl rfl rfl ?_
    refine mvI rfl rfl rfl ?_
    refine mvI rfl rfl rfl ?_
    refine rem rfl rfl rfl rfl (by omega) ?_
    refine rPieces (fun _ h => Sep.lend h ((i).toNat) ((List.replicate (((z.getD ((((((Math.sets z nws p).getD ((i).toNat) [])).getD 0 0)).toNat) dN).ch).length) 0)) (Math.set_at (l := (List.replicate (i + 1).toNat [] ++ (Math.pureM (Math.sizes z (Math.sets z nws p)) n0).drop (i + 1).toNat)) (by rw [Math.tail_len [] (by omega) (by rw [Math.pureM_len]; omega), Math.pureM_len]; omega))) ?_
    refine oxI (zn := ((n % (((((z.getD ((((((Math.sets z nws p).getD ((i).toNat) [])).getD 0 0)).toNat) dN).ch).length : Nat) : Int)))).toNat) 0 rfl el28 rfl rfl rfl rfl (by exact Int.emod_nonneg _ (by omega)) (by show _ < (((List.replicate (z.getD (((Math.sets z nws p).getD i.toNat []).getD 0 0).toNat dN).ch.length (0 : Int)).length : Nat) : Int); rw [List.length_replicate]; exact Int.emod_lt_of_pos _ (by omega)) rfl ?_
    intro gk7 hgk7
    refine stoIF (off := ((n % (((((z.getD ((((((Math.sets z nws p).getD ((i).toNat) [])).getD 0 0)).toNat) dN).ch).length : Nat) : Int)))).toNat) (x := 60) 0 rfl hgk7 Try.sizeOf2 rfl rfl rfl rfl (by show _ < (List.replicate (z.getD (((Math.sets z nws p).getD i.toNat []).getD 0 0).toNat dN).ch.length (0 : Int)).length; rw [List.length_replicate]; have := Int.emod_lt_of_pos n (show (0 : Int) < ((z.getD (((Math.sets z nws p).getD i.toNat []).getD 0 0).toNat dN).ch.length : Int) by omega); have := Int.emod_nonneg n (show ((z.getD (((Math.sets z nws p).getD i.toNat []).getD 0 0).toNat dN).ch.length : Int) ≠ 0 by omega); omega) ?_
    refine rPieces (fun _ h => Sep.back (x := (List.replicate (((z.getD ((((((Math.sets z nws p).getD ((i).toNat) [])).getD 0 0)).toNat) dN).ch).length) 0)) (((List.replicate (((z.getD ((((((Math.sets z nws p).getD ((i).toNat) [])).getD 0 0)).toNat) dN).ch).length) 0)).set (((n % (((((z.getD ((((((Math.sets z nws p).getD ((i).toNat) [])).getD 0 0)).toNat) dN).ch).length : Nat) : Int)))).toNat) 60) maK.ok h (Math.set_at (l := (List.replicate (i + 1).toNat [] ++ (Math.pureM (Math.sizes z (Math.sets z nws p)) n0).drop (i + 1).toNat)) (by rw [Math.tail_len [] (by omega) (by rw [Math.pureM_len]; omega), Math.pureM_len]; omega)) (fun h1 h2 => by dsimp only [ndK, ndC, maK] at h1 h2 ⊢; rw [h1, h2]) rfl rfl) ?_
    rw [Math.set_two ((List.replicate (i + 1).toNat [] ++ (Math.pureM (Math.sizes z (Math.sets z nws p)) n0).drop (i + 1).toNat))]
    refine rNil ?_
    refine qSeq rfl ?_
    refine hReg (sq 0 (sq 1 (sq 2 (sq 3 sz)))) (by kernel_rfl) ?_
    refine mvI rfl rfl rfl ?_
    refine mvI rfl rfl rfl ?_
    refine quo rfl rfl rfl rfl (by omega) ?_
    refine asI rfl rfl rfl ?_
    refine rNil ?_
    refine qSeq rfl ?_
    refine hReg (sq 0 (sq 1 (sq 2 sz))) (by kernel_rfl) ?_
    refine mvI rfl rfl rfl ?_
    refine sub rfl rfl rfl rfl (by omega) ?_
    refine asI rfl rfl rfl ?_
    refine rNil ?_
    rw [Math.tail_put' (i := i) (l := Math.pureM (Math.sizes z (Math.sets z nws p)) n0) ([] : List Int) [] _ (by omega) (by rw [Math.pureM_len]; omega) (Math.pure_now (by omega) (by omega) hnq (by omega))]
    exact qNext rfl ((i - 1, n / ((z.getD (((Math.sets z nws p).getD i.toNat []).getD 0 0).toNat dN).ch.length : Int), (hset hh ((i).toNat) ((some ⟨bkm8, 0, none⟩), ((z.getD ((((((Math.sets z nws p).getD ((i).toNat) [])).getD 0 0)).toNat) dN).ch).length)))) (by dsimp only; omega) ⟨by dsimp only; omega, by dsimp only; have h7 := Int.ediv_nonneg hnb.1 (show (0 : Int) ≤ ((z.getD (((Math.sets z nws p).getD i.toNat []).getD 0 0).toNat dN).ch.length : Int) by omega); have h8 := Int.ediv_le_self ((z.getD (((Math.sets z nws p).getD i.toNat []).getD 0 0).toNat dN).ch.length : Int) hnb.1; omega, by dsimp only; rw [← Math.quo_next (by omega) (show i < (Math.sizes z (Math.sets z nws p)).length by omega) hnq, hsz]; rfl⟩ ⟨rfl, rfl, rfl, rfl, rfl, rfl, trivial⟩ (fun _ h => h.pick [1, 0, 0, 0, 0])
   ·
    replace c3 : ¬ (0 ≤ i) := c3
    refine hExit rfl ?_
    refine qSeq rfl ?_
    refine hSeq ?_
    refine hReg (sl 0 (sl 1 (sq 2 sz))) (by kernel_rfl) ?_
    refine ldAl Try.isAgg56 Try.sizeOf56 (cBs 0 rfl) trv rfl rfl rfl rfl ?_
    refine stAl (vs := [.int .i64 p, .slice (some ⟨bkm6, 0, none⟩) ny1 ny1]) 3 rfl Try.sizeOf56 trv rfl rfl rfl rfl rfl (by simp [Value.oneCell']) rfl ?_
    refine asI rfl rfl rfl ?_
    refine rNil ?_
    refine qSeq rfl ?_
    refine hRet ?_
    exact fun w hs => ⟨[_, .int .i64 0], ⟨⟨_, rfl, run_load_agg Try.isAgg56 Try.sizeOf56 rfl (cBs 3 rfl w hs)⟩, ⟨rfl, trivial⟩⟩, ⟨(p, (some ⟨bkm6, 0, none⟩), ny1, ny1, hh, (List.replicate (i + 1).toNat [] ++ (Math.pureM (Math.sizes z (Math.sets z nws p)) n0).drop (i + 1).toNat), 0), rfl, by rw [Math.pureAt_0 lws (by assumption) (by assumption)]; exact ⟨rfl, Math.tail_end [] (by omega), rfl⟩, hs.pick [1]⟩⟩
set_option maxHeartbeats 2000000 in
theorem spec_PureStrategy_c (az : Option Addr) (nz : Nat) (cz : Nat) (Hz : Nat → Hd) (z : List Nd) (aws : Option Addr) (nws : Nat) (cws : Nat) (Hws : Nat → Hd) (ws : List (List Int)) (avs : Option Addr) (nvs : Nat) (cvs : Nat) (Hvs : Nat → Hd) (vs : List (List Int)) (p : Int) (n0 : Int) (w : World) (rz : RdR ndK az nz Hz z w) (rws : RdR maK aws nws Hws ws w) (rvs : RdR maK avs nvs Hvs vs w) :
  Calls Try.prog 62 #[.agg #[.slice az nz cz, .slice aws nws cws, .slice avs nvs cvs], .int .i64 p, .int .i64 n0] w (Ret fun v w' => ∃ x : Int × Option Addr × Nat × Nat × (Nat → Hd) × List (List Int) × Int, v = .tuple #[.agg #[.int .i64 x.1, .slice x.2.1 x.2.2.1 x.2.2.2.1], .int .i64 x.2.2.2.2.2.2] ∧ (x.1 = (Math.pureAt z ws vs p n0).1.1 ∧ x.2.2.2.2.2.1 = (Math.pureAt z ws vs p n0).1.2 ∧ x.2.2.2.2.2.2 = (Math.pureAt z ws vs p n0).2) ∧ Sep w none_ [OwnR maK 28 2 x.2.1 x.2.2.1 x.2.2.2.1 x.2.2.2.2.1 x.2.2.2.2.2.1] w') := by
 have kz : Kn w none_ [] (RdR ndK az nz Hz z) := fun w' hs => rz.ext hs.upd
 have lz : z.length = nz := rz.1
 have mz : nz ≤ 9223372036854775807 := rz.2.1
 have kws : Kn w none_ [] (RdR maK aws nws Hws ws) := fun w' hs => rws.ext hs.upd
 have lws : ws.length = nws := rws.1
 have mws : nws ≤ 9223372036854775807 := rws.2.1
 have kvs : Kn w none_ [] (RdR maK avs nvs Hvs vs) := fun w' hs => rvs.ext hs.upd
 have lvs : vs.length = nvs := rvs.1
 have mvs : nvs ≤ 9223372036854775807 := rvs.2.1
 have hcb := Math.countOf_bd z ws vs p
 refine fn (M := none_) (rs := [.cell 6 56, .tmp 7]) Try.func62 rfl Try.ntmps62 rfl rfl (Sep.start _ _) ?_
 refine hSeq ?_
 refine hReg (sl 0 (sl 1 (sq 2 sz))) (by kernel_rfl) ?_
 refine box trv1 rfl rfl rfl rfl (fun bkb1 hbkb1 => ?_)
 refine alc Try.zeroValue56 rfl trv1 rfl rfl (fun bka2 hbka2 => ?_)
 refine asI rfl rfl rfl ?_
 refine rNil ?_
 refine qSeq rfl ?_
 refine hSeq ?_
 refine hReg (sl 0 (sq 1 (sl 2 (sq 3 (sq 4 (sq 5 (sq 6 (sq 7 sz)))))))) (by kernel_rfl) ?_
 refine ldAl Try.isAgg43 Try.sizeOf43 (cBs 1 rfl) trv rfl rfl rfl rfl ?_
 refine mvI rfl rfl rfl ?_
 refine callP (v := .tuple #[.int .i64 ((Math.countOf z ws vs p).1), .int .i64 ((Math.countOf z ws vs p).2)]) Try.call65 trv rfl rfl (fun w hs => spec_CountPure_c _ nz cz _ _ _ nws cws _ _ _ nvs cvs _ _ _ w (Kn.drop (k := 2) kz w hs) (Kn.drop (k := 2) kws w hs) (Kn.drop (k := 2) kvs w hs)) ?_
 refine mv rfl rfl rfl ?_
 refine ext rfl rfl rfl rfl ?_
 refine ext rfl rfl rfl rfl ?_
 refine asI rfl rfl rfl ?_
 refine asI rfl rfl rfl ?_
 refine rNil ?_
 refine qSeq rfl ?_
 refine hSeq ?_
 refine hSeq ?_
 refine hReg (sq 0 (sq 1 (sq 2 (sq 3 (sq 4 (sq 5 (sl 6 (sq 7 (sq 8 sz))))))))) (by kernel_rfl) ?_
 refine mvI rfl rfl rfl ?_
 refine eql rfl rfl rfl rfl ?_
 refine mvB rfl rfl rfl ?_
 refine rBoolD (d := 21) rfl (fun g1 => ?_) (fun g1 => ?_)
 ·
  replace g1 : (Math.countOf z ws vs p).2 = 0 := g1
  have hco := Math.countOf_ok g1
  have hg := hco.1
  have hp := hco.2
  have hG := Math.isGame_ok hg
  rw [lws] at hG
  have hT := Math.isTree_ok hG.1
  have hvl := Math.mat_len hG.2.2.2.1
  have hsl := Math.sets_len (z := z) (p := p) (show nws ≤ 6 by omega)
  have hszb := Math.sizes_bd (k := nws) hg hp
  have hzl := Math.sizes_len (z := z) (ss := (Math.sets z nws p))
  refine mvI rfl rfl rfl ?_
  refine mvI rfl rfl rfl ?_
  refine sub rfl rfl rfl rfl (by omega) ?_
  refine callP (v := .bool (decide ((0 : Int) ≤ n0 ∧ n0 ≤ (((Math.countOf z ws vs p).1 - 1))))) Try.call97 trv rfl rfl (fun w hs => spec_l01In_c _ _ _ w ) ?_
  refine notD rfl rfl rfl ?_
  refine pickB rfl rfl rfl rfl ?_
  refine rNil ?_
  refine qSeq rfl ?_
  refine hIfD rfl (fun c2 => ?_) (fun c2 => ?_)
  ·
   replace c2 : ¬ ((0 : Int) ≤ n0 ∧ n0 ≤ (((Math.countOf z ws vs p).1 - 1))) := c2
   refine hReg (sq 0 sz) (by kernel_rfl) ?_
   refine asI rfl rfl rfl ?_
   refine rNil ?_
   refine qSeq rfl ?_
   refine hSeq ?_
   refine hSeq ?_
   refine hReg (sq 0 (sq 1 sz)) (by kernel_rfl) ?_
   refine mvI rfl rfl rfl ?_
   refine neq rfl rfl rfl rfl ?_
   refine rNil ?_
   refine qSeq rfl ?_
   refine hIfT rfl ?_
   refine hSeq ?_
   refine hReg (sq 0 (sq 1 (sl 2 (sq 3 sz)))) (by kernel_rfl) ?_
   refine bld rfl rfl rfl (bld56) ?_
   refine mvI rfl rfl rfl ?_
   refine stAl (vs := [.int .i64 0, .slice none 0 0]) 0 rfl Try.sizeOf56 trv rfl rfl rfl rfl rfl (by simp [Value.oneCell']) rfl ?_
   refine asI rfl rfl rfl ?_
   refine rNil ?_
   refine qSeq rfl ?_
   refine hRet ?_
   refine knP (fun _ h => Sep.nilR maK 28 2 (fun _ => (none, 0)) h) ?_
   exact fun w hs => ⟨[_, .int .i64 2], ⟨⟨_, rfl, run_load_agg Try.isAgg56 Try.sizeOf56 rfl (cBs 1 rfl w hs)⟩, ⟨rfl, trivial⟩⟩, ⟨(0, none, 0, 0, (fun _ => (none, 0)), [], 2), rfl, by rw [Math.pureAt_2 (by assumption) (by assumption)]; exact ⟨rfl, rfl, rfl⟩, hs.pick [0]⟩⟩
  ·
   replace c2 : ¬ (¬ ((0 : Int) ≤ n0 ∧ n0 ≤ (((Math.countOf z ws vs p).1 - 1)))) := c2
   replace c2 := Classical.not_not.1 c2
   refine hSkip ?_
   refine qSeq rfl ?_
   refine hSeq ?_
   refine hSeq ?_
   refine hReg (sq 0 (sq 1 sz)) (by kernel_rfl) ?_
   refine mvI rfl rfl rfl ?_
   refine neq rfl rfl rfl rfl ?_
   refine rNil ?_
   refine qSeq rfl ?_
   refine hIfD rfl (fun c3 => ?_) (fun c3 => ?_)
   ·
    replace c3 : (Math.countOf z ws vs p).2 ≠ 0 := c3
    exact absurd g1 c3
   ·
    replace c3 : ¬ ((Math.countOf z ws vs p).2 ≠ 0) := c3
    refine hSkip ?_
    refine qSeq rfl ?_
    refine hSeq ?_
    refine hReg (sl 0 (sq 1 (sl 2 (sq 3 sz)))) (by kernel_rfl) ?_
    refine ldAl Try.isAgg43 Try.sizeOf43 (cBs 1 rfl) trv rfl rfl rfl rfl ?_
    refine mvI rfl rfl rfl ?_
    refine callS Try.call132 trv1 rfl rfl (fun w hs => spec_l22Sizes_c _ nz cz _ _ _ nws cws _ _ _ nvs cvs _ _ _ w (Kn.drop (k := 2) kz w hs) (Kn.drop (k := 2) kws w hs) (Kn.drop (k := 2) kvs w hs) (by assumption)) ?_
    rintro ⟨ay1, ny1, cy1, y1⟩ hr1
    dsimp only at hr1
    subst y1
    refine rKnow (fun w hs => (show OwnI 2 ay1 ny1 cy1 (((Math.sizes z (Math.sets z nws p)))) w from hs.at_ 0 rfl).lenz) (fun lenn4 => ?_)
    refine asS rfl rfl rfl ?_
    refine rNil ?_
    refine qSeq rfl ?_
    refine hSeq ?_
    refine hReg (sq 0 (sq 1 (sl 2 (sq 3 sz)))) (by kernel_rfl) ?_
    refine mvS rfl rfl rfl ?_
    refine lenS Try.runUnderlying28 rfl rfl rfl ?_
    refine mksI ny1 mk28 trv1 rfl rfl rfl rfl (rfl) (by omega) (fun bkm5 hbkm5 => ?_)
    refine asS rfl rfl rfl ?_
    refine rNil ?_
    refine qSeq rfl ?_
    refine hSeq ?_
    refine hSeq ?_
    refine hReg (sq 0 (sq 1 (sq 2 (sq 3 sz)))) (by kernel_rfl) ?_
    refine mvS rfl rfl rfl ?_
    refine lenS Try.runUnderlying28 rfl rfl rfl ?_
    refine sub rfl rfl rfl rfl (by dsimp only; omega) ?_
    refine asI rfl rfl rfl ?_
    refine rNil ?_
    refine qSeq rfl ?_
    refine hBlk ?_
    rw [Math.tail_start (0 : Int) (show (Math.digits (Math.sizes z (Math.sets z nws p)) n0).length = ny1 by rw [Math.digits_len]; omega)]
    refine hLoop (α := Int × Int) (fun x => (-1 ≤ x.1 ∧ x.1 < ny1) ∧ (0 ≤ x.2 ∧ x.2 ≤ 1000000000) ∧ x.2 = Math.quoL ((Math.sizes z (Math.sets z nws p)).drop (x.1 + 1).toNat) n0) (fun x => (x.1 + 1).toNat) (fun x => [OwnI 2 (some ⟨bkm5, 0, none⟩) ny1 ny1 ((List.replicate (x.1 + 1).toNat 0 ++ (Math.digits (Math.sizes z (Math.sets z nws p)) n0).drop (x.1 + 1).toNat)), OwnI 2 ay1 ny1 cy1 (((Math.sizes z (Math.sets z nws p)))), blk bka2 56 [.int .i64 0, .slice none 0 0], blk bkb1 43 [.slice az nz cz, .slice aws nws cws, .slice avs nvs cvs]]) (fun x => [(1, .int .i64 p), (2, .int .i64 x.2), (6, .pointer (some ⟨bka2, 0, none⟩)), (10, .slice ay1 ny1 cy1), (11, .slice (some ⟨bkm5, 0, none⟩) ny1 ny1), (12, .int .i64 x.1)]) (((ny1 : Int) - 1, n0)) ⟨by dsimp only; omega, by dsimp only; omega, by dsimp only; exact (Math.quoL_end (by rw [Math.sizes_len]; omega)).symm⟩ (fun _ h => h.pick [0, 0, 0, 0]) ⟨rfl, rfl, rfl, rfl, rfl, rfl, trivial⟩ ?_
    rintro ⟨i, n⟩ τ1 ⟨hi, hnb, hnq⟩
    dsimp only at hi hnb hnq
    refine hRe [(1, .int .i64 p), (2, .int .i64 n), (6, .pointer (some ⟨bka2, 0, none⟩)), (10, .slice ay1 ny1 cy1), (11, .slice (some ⟨bkm5, 0, none⟩) ny1 ny1), (12, .int .i64 i)] [OwnI 2 (some ⟨bkm5, 0, none⟩) ny1 ny1 ((List.replicate (i + 1).toNat 0 ++ (Math.digits (Math.sizes z (Math.sets z nws p)) n0).drop (i + 1).toNat)), OwnI 2 ay1 ny1 cy1 (((Math.sizes z (Math.sets z nws p)))), blk bka2 56 [.int .i64 0, .slice none 0 0], blk bkb1 43 [.slice az nz cz, .slice aws nws cws, .slice avs nvs cvs]] rfl rfl ?_
    refine hSeq ?_
    refine hSeq ?_
    refine hReg (sq 0 (sq 1 sz)) (by kernel_rfl) ?_
    refine mvI rfl rfl rfl ?_
    refine geq rfl rfl rfl rfl ?_
    refine rNil ?_
    refine qSeq rfl ?_
    refine hIfD rfl (fun c4 => ?_) (fun c4 => ?_)
    ·
     replace c4 : 0 ≤ i := c4
     have hzb := hszb _ (Math.getD_mem 0 (show i.toNat < (Math.sizes z (Math.sets z nws p)).length by omega))
     refine hSkip ?_
     refine qSeq rfl ?_
     refine hSeq ?_
     refine hBlk ?_
     refine hSeq ?_
     refine hReg (sq 0 (sq 1 (sq 2 (sq 3 (sq 4 (sq 5 (sl 6 (sq 7 (sq 8 (sl 9 sz)))))))))) (by kernel_rfl) ?_
     refine mvS rfl rfl rfl ?_
     refine mvI rfl rfl rfl ?_
     refine mvI rfl rfl rfl ?_
     refine mvS rfl rfl rfl ?_
     refine mvI rfl rfl rfl ?_
     refine ixIl (zn := (i).toNat) el28 ((Kn.at_ 1 rfl).imp fun _ h => OwnI.rd h) rfl rfl rfl rfl (by omega) (by omega) rfl ?_
     intro ae2 e2
     refine ldl Try.isAgg2 (e2) trv rfl rfl rfl ?_
     refine rem rfl rfl rfl rfl (by omega) ?_
     refine oxI (zn := (i).toNat) 0 rfl el28 rfl rfl rfl rfl (by omega) (by omega) rfl ?_
     intro gk3 hgk3
     refine stoI (off := (i).toNat) (x := (n % (((((Math.sizes z (Math.sets z nws p)))).getD ((i).toNat) 0)))) 0 rfl hgk3 Try.sizeOf2 trv rfl rfl rfl rfl (by omega) ?_
     refine rNil ?_
     refine qSeq rfl ?_
     refine hReg (sq 0 (sq 1 (sq 2 (sq 3 (sl 4 (sq 5 (sq 6 sz))))))) (by kernel_rfl) ?_
     refine mvI rfl rfl rfl ?_
     refine mvS rfl rfl rfl ?_
     refine mvI rfl rfl rfl ?_
     refine ixIl (zn := (i).toNat) el28 ((Kn.at_ 1 rfl).imp fun _ h => OwnI.rd h) rfl rfl rfl rfl (by omega) (by omega) rfl ?_
     intro ae4 e4
     refine ldl Try.isAgg2 (e4) trv rfl rfl rfl ?_
     refine quo rfl rfl rfl rfl (by omega) ?_
     refine asI rfl rfl rfl ?_
     refine rNil ?_
     refine qSeq rfl ?_
     refine hReg (sq 0 (sq 1 (sq 2 sz))) (by kernel_rfl) ?_
     refine mvI rfl rfl rfl ?_
     refine sub rfl rfl rfl rfl (by omega) ?_
     refine asI rfl rfl rfl ?_
     refine rNil ?_
     rw [Math.tail_put' 0 0 _ (by omega) (by rw [Math.digits_len]; omega) (Math.digit_now (by omega) (by omega) hnq)]
     exact qNext rfl ((i - 1, (n / (Math.sizes z (Math.sets z nws p)).getD i.toNat 0))) (by dsimp only; omega) ⟨by dsimp only; omega, by dsimp only; have h7 := Int.ediv_nonneg hnb.1 (show 0 ≤ (Math.sizes z (Math.sets z nws p)).getD i.toNat 0 by omega); have h8 := Int.ediv_le_self ((Math.sizes z (Math.sets z nws p)).getD i.toNat 0) hnb.1; omega, by dsimp only; exact Math.quo_next (by omega) (by omega) hnq⟩ ⟨rfl, rfl, rfl, rfl, rfl, rfl, trivial⟩ (fun _ h => h.pick [0, 0, 0, 0])
    ·
     replace c4 : ¬ (0 ≤ i) := c4
     rw [Math.tail_end (0 : Int) (l := Math.digits (Math.sizes z (Math.sets z nws p)) n0) (by omega)]
     refine hExit rfl ?_
     refine qSeq rfl ?_
     refine hSeq ?_
     refine hReg (sq 0 (sq 1 (sq 2 (sl 3 (sl 4 (sq 5 sz)))))) (by kernel_rfl) ?_
     refine mvI rfl rfl rfl ?_
     refine mvS rfl rfl rfl ?_
     refine mvS rfl rfl rfl ?_
     refine callS Try.call133 trv1 rfl rfl (fun w hs => spec_l22Pure_c _ _ ny1 cy1 _ _ ny1 ny1 _ _ w (OwnI.rd (hs.at_ 1 rfl)) (OwnI.rd (hs.at_ 0 rfl)) (by assumption) (by omega) (by first | rfl | assumption)) ?_
     rintro ⟨ay5, ny5, cy5, Hy5, y5⟩ hr5
     dsimp only at hr5
     subst y5
     refine rKnow (fun w hs => (show OwnR maK 28 2 ay5 ny5 cy5 Hy5 (((Math.pureM (((Math.sizes z (Math.sets z nws p)))) n0))) w from hs.at_ 0 rfl).1) (fun lenn6 => ?_)
     refine stAl (vs := [.int .i64 p, .slice ay5 ny5 cy5]) 3 rfl Try.sizeOf56 trv rfl rfl rfl rfl rfl (by simp [Value.oneCell']) rfl ?_
     refine asI rfl rfl rfl ?_
     refine rNil ?_
     refine qSeq rfl ?_
     refine hRet ?_
     exact fun w hs => ⟨[_, .int .i64 0], ⟨⟨_, rfl, run_load_agg Try.isAgg56 Try.sizeOf56 rfl (cBs 3 rfl w hs)⟩, ⟨rfl, trivial⟩⟩, ⟨(p, ay5, ny5, cy5, Hy5, ((Math.pureM (((Math.sizes z (Math.sets z nws p)))) n0)), 0), rfl, by rw [Math.pureAt_0 lws (by assumption) (by assumption)]; exact ⟨rfl, rfl, rfl⟩, hs.pick [0]⟩⟩
 ·
  replace g1 : ¬ ((Math.countOf z ws vs p).2 = 0) := g1
  refine rSkipQ rfl rfl ?_
  refine rSkipQ rfl rfl ?_
  refine rSkipQ rfl rfl ?_
  refine rSkipL trv rfl rfl ?_
  refine rSkipQ rfl rfl ?_
  refine pickB rfl rfl rfl rfl ?_
  refine rNil ?_
  refine qSeq rfl ?_
  refine hIfF rfl ?_
  refine hSkip ?_
  refine qSeq rfl ?_
  refine hSeq ?_
  refine hSeq ?_
  refine hReg (sq 0 (sq 1 sz)) (by kernel_rfl) ?_
  refine mvI rfl rfl rfl ?_
  refine neq rfl rfl rfl rfl ?_
  refine rNil ?_
  refine qSeq rfl ?_
  refine hIfD rfl (fun c5 => ?_) (fun c5 => ?_)
  ·
   replace c5 : (Math.countOf z ws vs p).2 ≠ 0 := c5
   refine hSeq ?_
   refine hReg (sq 0 (sq 1 (sl 2 (sq 3 sz)))) (by kernel_rfl) ?_
   refine bld rfl rfl rfl (bld56) ?_
   refine mvI rfl rfl rfl ?_
   refine stAl (vs := [.int .i64 0, .slice none 0 0]) 0 rfl Try.sizeOf56 trv rfl rfl rfl rfl rfl (by simp [Value.oneCell']) rfl ?_
   refine asI rfl rfl rfl ?_
   refine rNil ?_
   refine qSeq rfl ?_
   refine hRet ?_
   refine knP (fun _ h => Sep.nilR maK 28 2 (fun _ => (none, 0)) h) ?_
   exact fun w hs => ⟨[_, .int .i64 ((Math.countOf z ws vs p).2)], ⟨⟨_, rfl, run_load_agg Try.isAgg56 Try.sizeOf56 rfl (cBs 1 rfl w hs)⟩, ⟨rfl, trivial⟩⟩, ⟨(0, none, 0, 0, (fun _ => (none, 0)), [], (Math.countOf z ws vs p).2), rfl, by rw [Math.pureAt_c (by assumption)]; exact ⟨rfl, rfl, rfl⟩, hs.pick [0]⟩⟩
  ·
   replace c5 : ¬ ((Math.countOf z ws vs p).2 ≠ 0) := c5
   exact absurd (Classical.not_not.1 c5) g1
end Go.Proofs.Ytjengglpbdgmnaa
