/- Contracts of mixed strategies. Their conditions stand in each. -/
import Derived.Test.YtjengglpbdgmnaaDoorZ11Mx
import Derived.Test.YtjengglpbdgmnaaDoorZ1Mx
import Derived.Test.YtjengglpbdgmnaaDoorZ2Mx
import Derived.Test.YtjengglpbdgmnaaDoorZ10Mx
import Derived.Test.YtjengglpbdgmnaaDoorZ3Mx
import Derived.Test.YtjengglpbdgmnaaDoorZ4Mx
import Derived.Test.YtjengglpbdgmnaaDoorZ7Mx
import Derived.Test.YtjengglpbdgmnaaDoorRows
import Derived.Shelf.Strings.Builder1
import Derived.Shelf.Strings.Builder2
import Derived.Shelf.Strings.OnBuilder
import Derived.Shelf.Strings.BuilderF
import Derived.Shelf.Strings.BuilderK
import Derived.Shelf.Strings.Builder2Cap
import Derived.Shelf.Strconv.Itoa0
import Derived.Shelf.Strconv.Itoa1
import Derived.Shelf.LaysM
import Derived.Shelf.Strconv.Itoa2
import Derived.Shelf.Strconv.Itoa3
import Derived.Shelf.Strconv.Itoa4
import Derived.Shelf.Strings.BuilderCap
import Derived.Test.YtjengglpbdgmnaaDoorProg
import Derived.Laws.Concat
import Derived.Laws.Strings
import Derived.Laws.BytesArg
import Derived.Lib.LaidTab
import Derived.WalkSmall
import Derived.Lib.OthersKept
import Derived.Lib.Join
namespace Go.Proofs.YtjengglpbdgmnaaDoor
open Go Go.RowKit V
set_option linter.unusedVariables false
set_option linter.unusedSimpArgs false
set_option maxRecDepth 100000
theorem bld31   : ∀ w, (Instr.build 31 ([] : List (Nat × Value)).toArray).run Tryd.prog w = .ok (.agg ([.int .i64 0, .slice none 0 0] : List Value).toArray) w := by
 intro w; simp [Instr.build, Instr.fill, Tryd.zeroValue31, Tryd.runUnderlying31, aggCells, Tryd.sizeOf2, Tryd.sizeOf27]
set_option maxHeartbeats 4000000 in
theorem impl_MixStrategies_c (az : Option Addr) (nz : Nat) (cz : Nat) (Hz : Nat → Hd) (z : List Nd) (aws : Option Addr) (nws : Nat) (cws : Nat) (Hws : Nat → Hd) (ws : List (List Int)) (avs : Option Addr) (nvs : Nat) (cvs : Nat) (Hvs : Nat → Hd) (vs : List (List Int)) (pl : Int) (aps : Option Addr) (nps : Nat) (cps : Nat) (Hps : Nat → Hd) (ps : List (List Int)) (ql : Int) (aqs : Option Addr) (nqs : Nat) (cqs : Nat) (Hqs : Nat → Hd) (qs : List (List Int)) (n : Int) (w : World) (rz : RdR ndK az nz Hz z w) (rws : RdR maK aws nws Hws ws w) (rvs : RdR maK avs nvs Hvs vs w) (rps : RdR maK aps nps Hps ps w) (rqs : RdR maK aqs nqs Hqs qs w) :
  Calls Tryd.prog 7 #[.agg #[.slice az nz cz, .slice aws nws cws, .slice avs nvs cvs], .agg #[.int .i64 pl, .slice aps nps cps], .agg #[.int .i64 ql, .slice aqs nqs cqs], .int .i64 n] w (Ret fun v w' => ∃ x : Int × Option Addr × Nat × Nat × (Nat → Hd) × List (List Int) × Int, v = .tuple #[.agg #[.int .i64 x.1, .slice x.2.1 x.2.2.1 x.2.2.2.1], .int .i64 x.2.2.2.2.2.2] ∧ (x.1 = (Math.mixAt z ws vs pl ps ql qs n).1.1 ∧ x.2.2.2.2.2.1 = (Math.mixAt z ws vs pl ps ql qs n).1.2 ∧ x.2.2.2.2.2.2 = (Math.mixAt z ws vs pl ps ql qs n).2) ∧ Sep w none_ [OwnR maK 50 2 x.2.1 x.2.2.1 x.2.2.2.1 x.2.2.2.2.1 x.2.2.2.2.2.1] w') := by
 have kz : Kn w none_ [] (RdR ndK az nz Hz z) := fun w' hs => rz.ext hs.upd
 have lz : z.length = nz := rz.1
 have mz : nz ≤ 9223372036854775807 := rz.2.1
 have kws : Kn w none_ [] (RdR maK aws nws Hws ws) := fun w' hs => rws.ext hs.upd
 have lws : ws.length = nws := rws.1
 have mws : nws ≤ 9223372036854775807 := rws.2.1
 have kvs : Kn w none_ [] (RdR maK avs nvs Hvs vs) := fun w' hs => rvs.ext hs.upd
 have lvs : vs.length = nvs := rvs.1
 have mvs : nvs ≤ 9223372036854775807 := rvs.2.1
 have kps : Kn w none_ [] (RdR maK aps nps Hps ps) := fun w' hs => rps.ext hs.upd
 have lps : ps.length = nps := rps.1
 have mps : nps ≤ 9223372036854775807 := rps.2.1
 have kqs : Kn w none_ [] (RdR maK aqs nqs Hqs qs) := fun w' hs => rqs.ext hs.upd
 have lqs : qs.length = nqs := rqs.1
 have mqs : nqs ≤ 9223372036854775807 := rqs.2.1
 refine fn (M := none_) (rs := [.cell 8 31, .tmp 9]) Tryd.func7 rfl Tryd.ntmps7 rfl rfl (Sep.start _ _) ?_
 refine hSeq ?_
 refine hReg (sl 0 (sl 1 (sl 2 (sl 3 (sq 4 sz))))) (by kernel_rfl) ?_
 refine box trv1 rfl rfl rfl rfl (fun bkb1 hbkb1 => ?_)
 refine box trv1 rfl rfl rfl rfl (fun bkb2 hbkb2 => ?_)
 refine box trv1 rfl rfl rfl rfl (fun bkb3 hbkb3 => ?_)
 refine alc Tryd.zeroValue31 rfl trv1 rfl rfl (fun bka4 hbka4 => ?_)
 refine asI rfl rfl rfl ?_
 refine rNil ?_
 refine qSeq rfl ?_
 refine hSeq ?_
 refine hSeq ?_
 refine hReg (sl 0 (sl 1 (sl 2 (sq 3 (sq 4 (sl 5 (sl 6 (sl 7 (sq 8 (sq 9 sz)))))))))) (by kernel_rfl) ?_
 refine ldAl Tryd.isAgg29 Tryd.sizeOf29 (cBs 3 rfl) trv rfl rfl rfl rfl ?_
 refine ldAl Tryd.isAgg31 Tryd.sizeOf31 (cBs 2 rfl) trv rfl rfl rfl rfl ?_
 refine callP (v := .bool (Math.isStrat z ws vs pl ps)) Tryd.call13 trv rfl rfl (fun w hs => impl_IsStrategy_c _ nz cz _ _ _ nws cws _ _ _ nvs cvs _ _ _ _ nps cps _ _ w (Kn.drop (k := 4) kz w hs) (Kn.drop (k := 4) kws w hs) (Kn.drop (k := 4) kvs w hs) (Kn.drop (k := 4) kps w hs)) ?_
 refine not rfl rfl rfl ?_
 refine mvB rfl rfl rfl ?_
 refine rBoolN (d := 20) rfl (fun g1 => ?_) (fun g1 => ?_)
 ·
  replace g1 : (Math.isStrat z ws vs pl ps) = false := g1
  refine rSkipL trv rfl rfl ?_
  refine rSkipL trv rfl rfl ?_
  refine rSkipL trv rfl rfl ?_
  refine rSkipQ rfl rfl ?_
  refine pickB rfl rfl rfl rfl ?_
  refine rNil ?_
  refine qSeq rfl ?_
  refine hIfT rfl ?_
  refine hSeq ?_
  refine hReg (sq 0 (sl 1 (sq 2 sz))) (by kernel_rfl) ?_
  refine bld rfl rfl rfl (bld31) ?_
  refine stAl (vs := [.int .i64 0, .slice none 0 0]) 0 rfl Tryd.sizeOf31 trv rfl rfl rfl rfl rfl (by simp [Value.oneCell']) rfl ?_
  refine asI rfl rfl rfl ?_
  refine rNil ?_
  refine qSeq rfl ?_
  refine hRet ?_
  refine knP (fun _ h => Sep.nilR maK 50 2 (fun _ => (none, 0)) h) ?_
  exact fun w hs => ⟨[_, .int .i64 1], ⟨⟨_, rfl, run_load_agg Tryd.isAgg31 Tryd.sizeOf31 rfl (cBs 1 rfl w hs)⟩, ⟨rfl, trivial⟩⟩, ⟨(0, none, 0, 0, (fun _ => (none, 0)), [], 1), rfl, by rw [Math.mixAt_1 (by first | exact .inl (by assumption) | exact .inr (by assumption))]; exact ⟨rfl, rfl, rfl⟩, hs.pick [0]⟩⟩
 ·
  replace g1 : (Math.isStrat z ws vs pl ps) = true := g1
  refine ldAl Tryd.isAgg29 Tryd.sizeOf29 (cBs 3 rfl) trv rfl rfl rfl rfl ?_
  refine ldAl Tryd.isAgg31 Tryd.sizeOf31 (cBs 1 rfl) trv rfl rfl rfl rfl ?_
  refine callP (v := .bool (Math.isStrat z ws vs ql qs)) Tryd.call13 trv rfl rfl (fun w hs => impl_IsStrategy_c _ nz cz _ _ _ nws cws _ _ _ nvs cvs _ _ _ _ nqs cqs _ _ w (Kn.drop (k := 4) kz w hs) (Kn.drop (k := 4) kws w hs) (Kn.drop (k := 4) kvs w hs) (Kn.drop (k := 4) kqs w hs)) ?_
  refine not rfl rfl rfl ?_
  refine pickB rfl rfl rfl rfl ?_
  refine rNil ?_
  refine qSeq rfl ?_
  refine hIfN rfl (fun c2 => ?_) (fun c2 => ?_)
  ·
   replace c2 : (Math.isStrat z ws vs ql qs) = false := c2
   refine hSeq ?_
   refine hReg (sq 0 (sl 1 (sq 2 sz))) (by kernel_rfl) ?_
   refine bld rfl rfl rfl (bld31) ?_
   refine stAl (vs := [.int .i64 0, .slice none 0 0]) 0 rfl Tryd.sizeOf31 trv rfl rfl rfl rfl rfl (by simp [Value.oneCell']) rfl ?_
   refine asI rfl rfl rfl ?_
   refine rNil ?_
   refine qSeq rfl ?_
   refine hRet ?_
   refine knP (fun _ h => Sep.nilR maK 50 2 (fun _ => (none, 0)) h) ?_
   exact fun w hs => ⟨[_, .int .i64 1], ⟨⟨_, rfl, run_load_agg Tryd.isAgg31 Tryd.sizeOf31 rfl (cBs 1 rfl w hs)⟩, ⟨rfl, trivial⟩⟩, ⟨(0, none, 0, 0, (fun _ => (none, 0)), [], 1), rfl, by rw [Math.mixAt_1 (by first | exact .inl (by assumption) | exact .inr (by assumption))]; exact ⟨rfl, rfl, rfl⟩, hs.pick [0]⟩⟩
  ·
   replace c2 : (Math.isStrat z ws vs ql qs) = true := c2
   have hsp := Math.isStrat_ok (show Math.isStrat z ws vs pl ps = true by assumption)
   have hg := hsp.1
   have hsq := (Math.isStrat_ok (show Math.isStrat z ws vs ql qs = true by assumption)).2.2
   have hGm := Math.isGame_ok hg
   have hTm := (Math.isTree_ok hGm.1).1
   have hpl := Math.parts_len hsp.2.2
   have hsl := Math.sets_len (z := z) (p := pl) (show ws.length ≤ 6 by omega)
   refine hSkip ?_
   refine qSeq rfl ?_
   refine hSeq ?_
   refine hSeq ?_
   refine hReg (sq 0 (sl 1 (sq 2 sz))) (by kernel_rfl) ?_
   refine mvI rfl rfl rfl ?_
   refine callP (v := .bool (decide ((0 : Int) ≤ n ∧ n ≤ (60 : Int)))) Tryd.call29 trv rfl rfl (fun w hs => impl_within_c _ _ _ w ) ?_
   refine notD rfl rfl rfl ?_
   refine rNil ?_
   refine qSeq rfl ?_
   refine hIfD rfl (fun c3 => ?_) (fun c3 => ?_)
   ·
    replace c3 : ¬ ((0 : Int) ≤ n ∧ n ≤ (60 : Int)) := c3
    refine hSeq ?_
    refine hReg (sq 0 (sl 1 (sq 2 sz))) (by kernel_rfl) ?_
    refine bld rfl rfl rfl (bld31) ?_
    refine stAl (vs := [.int .i64 0, .slice none 0 0]) 0 rfl Tryd.sizeOf31 trv rfl rfl rfl rfl rfl (by simp [Value.oneCell']) rfl ?_
    refine asI rfl rfl rfl ?_
    refine rNil ?_
    refine qSeq rfl ?_
    refine hRet ?_
    refine knP (fun _ h => Sep.nilR maK 50 2 (fun _ => (none, 0)) h) ?_
    exact fun w hs => ⟨[_, .int .i64 2], ⟨⟨_, rfl, run_load_agg Tryd.isAgg31 Tryd.sizeOf31 rfl (cBs 1 rfl w hs)⟩, ⟨rfl, trivial⟩⟩, ⟨(0, none, 0, 0, (fun _ => (none, 0)), [], 2), rfl, by rw [Math.mixAt_2 (by assumption) (by assumption) (by assumption)]; exact ⟨rfl, rfl, rfl⟩, hs.pick [0]⟩⟩
   ·
    replace c3 : ¬ (¬ ((0 : Int) ≤ n ∧ n ≤ (60 : Int))) := c3
    replace c3 := Classical.not_not.1 c3
    refine hSkip ?_
    refine qSeq rfl ?_
    refine hSeq ?_
    refine hSeq ?_
    refine hReg (sq 0 (sl 1 (sq 2 (sl 3 (sq 4 sz))))) (by kernel_rfl) ?_
    refine fld fl31_0 rfl rfl rfl ?_
    refine ldl Tryd.isAgg2 (cB 2 rfl rfl) trv rfl rfl rfl ?_
    refine fld fl31_0 rfl rfl rfl ?_
    refine ldl Tryd.isAgg2 (cB 1 rfl rfl) trv rfl rfl rfl ?_
    refine neq rfl rfl rfl rfl ?_
    refine rNil ?_
    refine qSeq rfl ?_
    refine hIfD rfl (fun c4 => ?_) (fun c4 => ?_)
    ·
     replace c4 : pl ≠ ql := c4
     refine hSeq ?_
     refine hReg (sq 0 (sl 1 (sq 2 sz))) (by kernel_rfl) ?_
     refine bld rfl rfl rfl (bld31) ?_
     refine stAl (vs := [.int .i64 0, .slice none 0 0]) 0 rfl Tryd.sizeOf31 trv rfl rfl rfl rfl rfl (by simp [Value.oneCell']) rfl ?_
     refine asI rfl rfl rfl ?_
     refine rNil ?_
     refine qSeq rfl ?_
     refine hRet ?_
     refine knP (fun _ h => Sep.nilR maK 50 2 (fun _ => (none, 0)) h) ?_
     exact fun w hs => ⟨[_, .int .i64 5], ⟨⟨_, rfl, run_load_agg Tryd.isAgg31 Tryd.sizeOf31 rfl (cBs 1 rfl w hs)⟩, ⟨rfl, trivial⟩⟩, ⟨(0, none, 0, 0, (fun _ => (none, 0)), [], 5), rfl, by rw [Math.mixAt_5 (by assumption) (by assumption) (by assumption) (by assumption)]; exact ⟨rfl, rfl, rfl⟩, hs.pick [0]⟩⟩
    ·
     replace c4 : ¬ (pl ≠ ql) := c4
     replace c4 := Classical.not_not.1 c4
     rw [← c4] at hsq
     refine hSkip ?_
     refine qSeq rfl ?_
     refine hSeq ?_
     refine hReg (sq 0 (sl 1 (sq 2 (sl 3 (sl 4 sz))))) (by kernel_rfl) ?_
     refine fld fl31_0 rfl rfl rfl ?_
     refine ldl Tryd.isAgg2 (cB 2 rfl rfl) trv rfl rfl rfl ?_
     refine bld rfl rfl rfl (bld31_0 (.int .i64 _) rfl) ?_
     refine alc Tryd.zeroValue31 rfl trv1 rfl rfl (fun bka9 hbka9 => ?_)
     refine stAl (vs := [.int .i64 pl, .slice none 0 0]) 0 rfl Tryd.sizeOf31 trv rfl rfl rfl rfl rfl (by simp [Value.oneCell']) rfl ?_
     refine rNil ?_
     refine qSeq rfl ?_
     refine hSeq ?_
     refine hSeq ?_
     refine hReg (sq 0 (sl 1 (sq 2 (sq 3 sz)))) (by kernel_rfl) ?_
     refine fld fl31_1 rfl rfl rfl ?_
     refine ldl Tryd.isAgg27 (cB 3 rfl rfl) trv rfl rfl rfl ?_
     refine lenS Tryd.runUnderlying27 rfl rfl rfl ?_
     refine mvI rfl rfl rfl ?_
     refine rNil ?_
     refine qSeq rfl ?_
     refine hBlk ?_
     refine hPieces (fun _ h => Sep.nilR maK 50 2 (fun _ => (none, 0)) h) ?_
     refine hLoop (α := Nat × Nat × (Hd × (Nat → Hd))) (fun x => x.1 ≤ nps ∧ x.2.1 = x.1) (fun x => nps - x.1) (fun x => [OwnR maK 50 2 x.2.2.1.1 x.2.1 x.2.2.1.2 x.2.2.2 (Math.mixTo n ps qs x.1), blk bka9 31 [.int .i64 pl, .slice x.2.2.1.1 x.2.1 x.2.2.1.2], blk bka4 31 [.int .i64 0, .slice none 0 0], blk bkb3 31 [.int .i64 ql, .slice aqs nqs cqs], blk bkb2 31 [.int .i64 pl, .slice aps nps cps], blk bkb1 29 [.slice az nz cz, .slice aws nws cws, .slice avs nvs cvs]]) (fun x => [(3, .int .i64 n), (6, .pointer (some ⟨bkb3, 0, none⟩)), (8, .pointer (some ⟨bka4, 0, none⟩)), (10, .pointer (some ⟨bka9, 0, none⟩)), (41, .slice aps nps cps), (42, .int .i64 (nps : Int)), (43, .int .i64 (x.1 : Int))]) ((0, 0, ((none, 0), (fun _ => (none, 0))))) ⟨Nat.zero_le _, rfl⟩ (fun _ h => h.pick [0, 0, 0, 0, 0, 0]) ⟨rfl, rfl, rfl, rfl, rfl, rfl, rfl, trivial⟩ ?_
     rintro ⟨i, q, hd⟩ τ1 ⟨hi, hq⟩
     dsimp only at hi hq
     refine hRe [(3, .int .i64 n), (6, .pointer (some ⟨bkb3, 0, none⟩)), (8, .pointer (some ⟨bka4, 0, none⟩)), (10, .pointer (some ⟨bka9, 0, none⟩)), (41, .slice aps nps cps), (42, .int .i64 (nps : Int)), (43, .int .i64 (i : Int))] [OwnR maK 50 2 hd.1.1 q hd.1.2 hd.2 (Math.mixTo n ps qs i), blk bka9 31 [.int .i64 pl, .slice hd.1.1 q hd.1.2], blk bka4 31 [.int .i64 0, .slice none 0 0], blk bkb3 31 [.int .i64 ql, .slice aqs nqs cqs], blk bkb2 31 [.int .i64 pl, .slice aps nps cps], blk bkb1 29 [.slice az nz cz, .slice aws nws cws, .slice avs nvs cvs]] rfl rfl ?_
     refine hSeq ?_
     refine hReg (sq 0 sz) (by kernel_rfl) ?_
     refine lss rfl rfl rfl rfl ?_
     refine rNil ?_
     refine qSeq rfl ?_
     refine hSeq ?_
     refine hIfD rfl (fun c5 => ?_) (fun c5 => ?_)
     ·
      replace c5 : (i : Int) < (nps : Int) := c5
      have hmr := Math.mix_rows hg hsp.2.1 hsp.2.2 hsq (show i < ps.length by omega)
      refine hSkip ?_
      refine qSeq rfl ?_
      refine hSeq ?_
      refine hBlk ?_
      refine hSeq ?_
      refine hReg (sq 0 (sq 1 (sl 2 (sq 3 (sq 4 sz))))) (by kernel_rfl) ?_
      refine mvI rfl rfl rfl ?_
      refine ixRl (zn := i) (ps.getD i []) el27 (Kn.drop (k := 6) kps) rfl rfl rfl rfl (by omega) (by omega) rfl (nth [] (by omega)) ?_
      intro be1 oe1 e1
      refine ldl Tryd.isAgg50 (Kn.fld e1 0 rfl) trv rfl rfl rfl ?_
      refine asI rfl rfl rfl ?_
      refine asS rfl rfl rfl ?_
      refine rNil ?_
      refine qSeq rfl ?_
      refine hSeq ?_
      refine hReg (sq 0 (sq 1 (sl 2 (sq 3 sz)))) (by kernel_rfl) ?_
      refine mvS rfl rfl rfl ?_
      refine lenS Tryd.runUnderlying50 rfl rfl rfl ?_
      refine mksI ((ps.getD i []).length) mk50 trv1 rfl rfl rfl rfl (rfl) (by omega) (fun bkm11 hbkm11 => ?_)
      refine asS rfl rfl rfl ?_
      refine rNil ?_
      refine qSeq rfl ?_
      refine hSeq ?_
      refine hSeq ?_
      refine hReg (sq 0 (sq 1 (sq 2 sz))) (by kernel_rfl) ?_
      refine mvS rfl rfl rfl ?_
      refine lenS Tryd.runUnderlying50 rfl rfl rfl ?_
      refine mvI rfl rfl rfl ?_
      refine rNil ?_
      refine qSeq rfl ?_
      refine hBlk ?_
      refine hLoop (α := Nat) (fun j => j ≤ (ps.getD i []).length) (fun j => (ps.getD i []).length - j) (fun j => [OwnI 2 (some ⟨bkm11, 0, none⟩) ((ps.getD i []).length) ((ps.getD i []).length) (((Math.mixRow n (ps.getD i []) (qs.getD i []) (ps.getD i []).length).take j ++ List.replicate ((ps.getD i []).length - j) 0)), OwnR maK 50 2 hd.1.1 q hd.1.2 hd.2 (Math.mixTo n ps qs i), blk bka9 31 [.int .i64 pl, .slice hd.1.1 q hd.1.2], blk bka4 31 [.int .i64 0, .slice none 0 0], blk bkb3 31 [.int .i64 ql, .slice aqs nqs cqs], blk bkb2 31 [.int .i64 pl, .slice aps nps cps], blk bkb1 29 [.slice az nz cz, .slice aws nws cws, .slice avs nvs cvs]]) (fun j => [(3, .int .i64 n), (6, .pointer (some ⟨bkb3, 0, none⟩)), (8, .pointer (some ⟨bka4, 0, none⟩)), (10, .pointer (some ⟨bka9, 0, none⟩)), (11, .int .i64 (i : Int)), (13, .slice (some ⟨bkm11, 0, none⟩) ((ps.getD i []).length) ((ps.getD i []).length)), (41, .slice aps nps cps), (42, .int .i64 (nps : Int)), (43, .int .i64 (i : Int)), (51, .slice ((Hps i).1) ((ps.getD i []).length) ((Hps i).2)), (52, .int .i64 ((((ps.getD i []).length : Nat) : Int))), (53, .int .i64 (j : Int))]) 0 (Nat.zero_le _) (fun _ h => (by simp only [List.take_zero, List.nil_append, Nat.sub_zero]; exact h.pick [0, 0, 0, 0, 0, 0, 0])) ⟨rfl, rfl, rfl, rfl, rfl, rfl, rfl, rfl, rfl, rfl, rfl, rfl, trivial⟩ ?_
      rintro j τ2 hj
      refine hSeq ?_
      refine hReg (sq 0 sz) (by kernel_rfl) ?_
      refine lss rfl rfl rfl rfl ?_
      refine rNil ?_
      refine qSeq rfl ?_
      refine hSeq ?_
      refine hIfD rfl (fun c6 => ?_) (fun c6 => ?_)
      ·
       replace c6 : (j : Int) < (((ps.getD i []).length : Nat) : Int) := c6
       have hmb := Math.mix_bd c3 hmr.2.2.2.1 hmr.2.2.2.2 (show j < (ps.getD i []).length by omega) (show j < (qs.getD i []).length by omega)
       refine hSkip ?_
       refine qSeq rfl ?_
       refine hSeq ?_
       refine hBlk ?_
       refine hSeq ?_
       refine hReg (sq 0 (sq 1 (sl 2 (sq 3 (sq 4 sz))))) (by kernel_rfl) ?_
       refine mvI rfl rfl rfl ?_
       refine ixIl (zn := j) el50 (Kn.drop (k := 7) ((Kn.imp kps fun _ h => h.kidM (nth [] (by omega))))) rfl rfl rfl rfl (by omega) (by omega) rfl ?_
       intro ae2 e2
       refine ldl Tryd.isAgg2 (e2) trv rfl rfl rfl ?_
       refine asI rfl rfl rfl ?_
       refine asI rfl rfl rfl ?_
       refine rNil ?_
       refine qSeq rfl ?_
       refine hReg (sq 0 (sq 1 (sq 2 (sq 3 (sq 4 (sq 5 (sq 6 (sq 7 (sl 8 (sq 9 (sq 10 (sl 11 (sq 12 (sq 13 (sl 14 (sq 15 (sq 16 (sq 17 (sl 18 sz))))))))))))))))))) (by kernel_rfl) ?_
       refine mvS rfl rfl rfl ?_
       refine mvI rfl rfl rfl ?_
       refine mvI rfl rfl rfl ?_
       refine mvI rfl rfl rfl ?_
       refine mul rfl rfl rfl rfl (by omega) ?_
       refine mvI rfl rfl rfl ?_
       refine sub rfl rfl rfl rfl (by omega) ?_
       refine fld fl31_1 rfl rfl rfl ?_
       refine ldl Tryd.isAgg27 (cB 4 rfl rfl) trv rfl rfl rfl ?_
       refine mvI rfl rfl rfl ?_
       refine ixRl (zn := i) (qs.getD i []) el27 (Kn.drop (k := 7) kqs) rfl rfl rfl rfl (by omega) (by omega) rfl (nth [] (by omega)) ?_
       intro be3 oe3 e3
       refine ldl Tryd.isAgg50 (Kn.fld e3 0 rfl) trv rfl rfl rfl ?_
       refine mvI rfl rfl rfl ?_
       refine ixIl (zn := j) el50 (Kn.drop (k := 7) ((Kn.imp kqs fun _ h => h.kidM (nth [] (by omega))))) rfl rfl rfl rfl (by omega) (by omega) rfl ?_
       intro ae4 e4
       refine ldl Tryd.isAgg2 (e4) trv rfl rfl rfl ?_
       refine mul rfl rfl rfl rfl (by omega) ?_
       refine add rfl rfl rfl rfl (by omega) ?_
       refine oxI (zn := j) 0 rfl el50 rfl rfl rfl rfl (by omega) (by omega) rfl ?_
       intro gk5 hgk5
       refine stoI (off := j) (x := ((n * ((ps.getD i []).getD j 0)) + ((60 - n) * ((qs.getD i []).getD j 0)))) 0 rfl hgk5 Tryd.sizeOf2 trv rfl rfl rfl rfl (by omega) ?_
       refine rNil ?_
       refine qSeq rfl ?_
       refine hReg (sq 0 (sq 1 sz)) (by kernel_rfl) ?_
       refine add rfl rfl rfl rfl (by omega) ?_
       refine mvI rfl rfl rfl ?_
       refine rNil ?_
       rw [Math.fill_put 0 0 _ (Math.mixRow_len n _ _ _) (by omega) (Math.mixRow_get (by omega))]
       exact qNext rfl (j + 1) (by omega) (by omega) ⟨rfl, rfl, rfl, rfl, rfl, rfl, rfl, rfl, rfl, rfl, rfl, rfl, trivial⟩ (fun _ h => h.pick [0, 0, 0, 0, 0, 0, 0])
      ·
       replace c6 : ¬ ((j : Int) < (((ps.getD i []).length : Nat) : Int)) := c6
       rw [Math.fill_end 0 (Math.mixRow_len n _ _ _) (by omega)]
       refine hExit rfl ?_
       refine qSeq rfl ?_
       refine hDraw (Ls := []) (by kernel_rfl) (sq 0 (sq 2 (.alt (sl 1 (sl 3 (sl 4 (sl 5 (sq 6 (sf 7 sz)))))) (sl 3 (.alt (sl 1 (sl 4 (sl 5 (sq 6 (sf 7 sz))))) (sl 4 (sl 1 (sl 5 (sq 6 (sf 7 sz)))))))))) (by kernel_rfl) (.cons _ (.cons _ (.cons _ (.cons _ (.cons _ (.cons _ (.cons _ .slnil))))))) ?_
       refine fld fl31_1 rfl rfl rfl ?_
       refine mvS rfl rfl rfl ?_
       refine rAlt ?_ ?_
       ·
        refine ldl Tryd.isAgg27 (cB 2 rfl rfl) (fun _ h => h.pick []) rfl rfl rfl ?_
        refine callS Tryd.call30 (by exact (fun _ _ h => h.pick [])) rfl rfl (fun w hs => impl_partsOf_c _ ((ps.getD i []).length) ((ps.getD i []).length) _ w (OwnI.rd (hs.at_ 0 rfl)) (Math.mixRow_bd (by assumption) hmr.2.2.2.1 hmr.2.2.2.2 (by omega) (by omega)) (by rw [Math.mixRow_len]; omega) (by rw [Math.mixRow_len]; omega)) ?_
        rintro ⟨ay6, ny6, cy6, y6⟩ hr6
        dsimp only at hr6
        subst y6
        refine rKnow (fun w hs => (show OwnI 2 ay6 ny6 cy6 (((Math.partsOf ((Math.mixRow n (ps.getD i []) (qs.getD i []) (ps.getD i []).length))))) w from hs.at_ 0 rfl).lenz) (fun lenn12 => ?_)
        refine bsl (fun _ _ h => h.pick []) rfl rfl rfl (bsl27_1 (.slice _ _ _) rfl) (fun bkl13 hbkl13 => ?_)
        refine apR (hd := (ay6, cy6)) (x := ((Math.partsOf ((Math.mixRow n (ps.getD i []) (qs.getD i []) (ps.getD i []).length))))) 3 1 0 maK.ok rfl rfl rfl (fun h => by first | rfl | (dsimp only at h; rw [h]; rfl) | (rw [h]; rfl) | exact congrArg (fun m => [Value.slice _ m _]) h) mk27 (fun _ _ h => h.pick []) rfl rfl rfl rfl (by omega) ?_
        intro aq7 cq7
        refine fld fl31_1 rfl rfl rfl ?_
        refine stf (v := .slice _ _ _) 3 rfl Tryd.sizeOf27 rfl rfl rfl rfl rfl (Nat.le_of_ble_eq_true rfl) ?_
        refine rNil ?_
        refine qSeq rfl ?_
        refine hReg (sq 0 (sq 1 sz)) (by kernel_rfl) ?_
        refine add rfl rfl rfl rfl (by omega) ?_
        refine mvI rfl rfl rfl ?_
        refine rNil ?_
        rw [Math.mixTo_s rfl]
        exact qNext rfl ((i + 1, q + 1, ((aq7, cq7), (hset hd.2 (Math.mixTo n ps qs i).length (ay6, cy6))))) (by dsimp only; omega) ⟨by dsimp only; omega, by dsimp only; omega⟩ ⟨rfl, rfl, rfl, rfl, rfl, rfl, rfl, trivial⟩ (fun _ h => h.pick [0, 2, 2, 2, 2, 2])
       ·
        refine callS Tryd.call30 (by exact (fun _ _ h => h.pick [])) rfl rfl (fun w hs => impl_partsOf_c _ ((ps.getD i []).length) ((ps.getD i []).length) _ w (OwnI.rd (hs.at_ 0 rfl)) (Math.mixRow_bd (by assumption) hmr.2.2.2.1 hmr.2.2.2.2 (by omega) (by omega)) (by rw [Math.mixRow_len]; omega) (by rw [Math.mixRow_len]; omega)) ?_
        rintro ⟨ay8, ny8, cy8, y8⟩ hr8
        dsimp only at hr8
        subst y8
        refine rKnow (fun w hs => (show OwnI 2 ay8 ny8 cy8 (((Math.partsOf ((Math.mixRow n (ps.getD i []) (qs.getD i []) (ps.getD i []).length))))) w from hs.at_ 0 rfl).lenz) (fun lenn14 => ?_)
        refine rAlt ?_ ?_
        ·
         refine ldl Tryd.isAgg27 (cB 3 rfl rfl) (fun _ h => h.pick []) rfl rfl rfl ?_
         refine bsl (fun _ _ h => h.pick []) rfl rfl rfl (bsl27_1 (.slice _ _ _) rfl) (fun bkl15 hbkl15 => ?_)
         refine apR (hd := (ay8, cy8)) (x := ((Math.partsOf ((Math.mixRow n (ps.getD i []) (qs.getD i []) (ps.getD i []).length))))) 3 1 0 maK.ok rfl rfl rfl (fun h => by first | rfl | (dsimp only at h; rw [h]; rfl) | (rw [h]; rfl) | exact congrArg (fun m => [Value.slice _ m _]) h) mk27 (fun _ _ h => h.pick []) rfl rfl rfl rfl (by omega) ?_
         intro aq9 cq9
         refine fld fl31_1 rfl rfl rfl ?_
         refine stf (v := .slice _ _ _) 3 rfl Tryd.sizeOf27 rfl rfl rfl rfl rfl (Nat.le_of_ble_eq_true rfl) ?_
         refine rNil ?_
         refine qSeq rfl ?_
         refine hReg (sq 0 (sq 1 sz)) (by kernel_rfl) ?_
         refine add rfl rfl rfl rfl (by omega) ?_
         refine mvI rfl rfl rfl ?_
         refine rNil ?_
         rw [Math.mixTo_s rfl]
         exact qNext rfl ((i + 1, q + 1, ((aq9, cq9), (hset hd.2 (Math.mixTo n ps qs i).length (ay8, cy8))))) (by dsimp only; omega) ⟨by dsimp only; omega, by dsimp only; omega⟩ ⟨rfl, rfl, rfl, rfl, rfl, rfl, rfl, trivial⟩ (fun _ h => h.pick [0, 2, 2, 2, 2, 2])
        ·
         refine bsl (fun _ _ h => h.pick []) rfl rfl rfl (bsl27_1 (.slice _ _ _) rfl) (fun bkl16 hbkl16 => ?_)
         refine ldl Tryd.isAgg27 (cB 4 rfl rfl) (fun _ h => h.pick []) rfl rfl rfl ?_
         refine apR (hd := (ay8, cy8)) (x := ((Math.partsOf ((Math.mixRow n (ps.getD i []) (qs.getD i []) (ps.getD i []).length))))) 3 1 0 maK.ok rfl rfl rfl (fun h => by first | rfl | (dsimp only at h; rw [h]; rfl) | (rw [h]; rfl) | exact congrArg (fun m => [Value.slice _ m _]) h) mk27 (fun _ _ h => h.pick []) rfl rfl rfl rfl (by omega) ?_
         intro aq10 cq10
         refine fld fl31_1 rfl rfl rfl ?_
         refine stf (v := .slice _ _ _) 3 rfl Tryd.sizeOf27 rfl rfl rfl rfl rfl (Nat.le_of_ble_eq_true rfl) ?_
         refine rNil ?_
         refine qSeq rfl ?_
         refine hReg (sq 0 (sq 1 sz)) (by kernel_rfl) ?_
         refine add rfl rfl rfl rfl (by omega) ?_
         refine mvI rfl rfl rfl ?_
         refine rNil ?_
         rw [Math.mixTo_s rfl]
         exact qNext rfl ((i + 1, q + 1, ((aq10, cq10), (hset hd.2 (Math.mixTo n ps qs i).length (ay8, cy8))))) (by dsimp only; omega) ⟨by dsimp only; omega, by dsimp only; omega⟩ ⟨rfl, rfl, rfl, rfl, rfl, rfl, rfl, trivial⟩ (fun _ h => h.pick [0, 2, 2, 2, 2, 2])
     ·
      replace c5 : ¬ ((i : Int) < (nps : Int)) := c5
      refine hExit rfl ?_
      refine qSeq rfl ?_
      refine hSeq ?_
      refine hReg (sl 0 (sl 1 (sq 2 sz))) (by kernel_rfl) ?_
      refine ldAl Tryd.isAgg31 Tryd.sizeOf31 (cBs 1 rfl) trv rfl rfl rfl rfl ?_
      refine stAl (vs := [.int .i64 pl, .slice hd.1.1 q hd.1.2]) 2 rfl Tryd.sizeOf31 trv rfl rfl rfl rfl rfl (by simp [Value.oneCell']) rfl ?_
      refine asI rfl rfl rfl ?_
      refine rNil ?_
      refine qSeq rfl ?_
      refine hRet ?_
      exact fun w hs => ⟨[_, .int .i64 0], ⟨⟨_, rfl, run_load_agg Tryd.isAgg31 Tryd.sizeOf31 rfl (cBs 2 rfl w hs)⟩, ⟨rfl, trivial⟩⟩, ⟨(pl, hd.1.1, q, hd.1.2, hd.2, (Math.mixTo n ps qs i), 0), rfl, by rw [Math.mixAt_0 (by assumption) (by assumption) (by assumption) (by assumption) (show i = ps.length by omega)]; exact ⟨rfl, rfl, rfl⟩, hs.pick [0]⟩⟩
set_option maxHeartbeats 4000000 in
theorem spec_MixStrategies_c (az : Option Addr) (nz : Nat) (cz : Nat) (Hz : Nat → Hd) (z : List Nd) (aws : Option Addr) (nws : Nat) (cws : Nat) (Hws : Nat → Hd) (ws : List (List Int)) (avs : Option Addr) (nvs : Nat) (cvs : Nat) (Hvs : Nat → Hd) (vs : List (List Int)) (pl : Int) (aps : Option Addr) (nps : Nat) (cps : Nat) (Hps : Nat → Hd) (ps : List (List Int)) (ql : Int) (aqs : Option Addr) (nqs : Nat) (cqs : Nat) (Hqs : Nat → Hd) (qs : List (List Int)) (n : Int) (w : World) (rz : RdR ndK az nz Hz z w) (rws : RdR maK aws nws Hws ws w) (rvs : RdR maK avs nvs Hvs vs w) (rps : RdR maK aps nps Hps ps w) (rqs : RdR maK aqs nqs Hqs qs w) :
  Calls Tryd.prog 8 #[.agg #[.slice az nz cz, .slice aws nws cws, .slice avs nvs cvs], .agg #[.int .i64 pl, .slice aps nps cps], .agg #[.int .i64 ql, .slice aqs nqs cqs], .int .i64 n] w (Ret fun v w' => ∃ x : Int × Option Addr × Nat × Nat × (Nat → Hd) × List (List Int) × Int, v = .tuple #[.agg #[.int .i64 x.1, .slice x.2.1 x.2.2.1 x.2.2.2.1], .int .i64 x.2.2.2.2.2.2] ∧ (x.1 = (Math.mixAt z ws vs pl ps ql qs n).1.1 ∧ x.2.2.2.2.2.1 = (Math.mixAt z ws vs pl ps ql qs n).1.2 ∧ x.2.2.2.2.2.2 = (Math.mixAt z ws vs pl ps ql qs n).2) ∧ Sep w none_ [OwnR maK 50 2 x.2.1 x.2.2.1 x.2.2.2.1 x.2.2.2.2.1 x.2.2.2.2.2.1] w') := by
 have kz : Kn w none_ [] (RdR ndK az nz Hz z) := fun w' hs => rz.ext hs.upd
 have lz : z.length = nz := rz.1
 have mz : nz ≤ 9223372036854775807 := rz.2.1
 have kws : Kn w none_ [] (RdR maK aws nws Hws ws) := fun w' hs => rws.ext hs.upd
 have lws : ws.length = nws := rws.1
 have mws : nws ≤ 9223372036854775807 := rws.2.1
 have kvs : Kn w none_ [] (RdR maK avs nvs Hvs vs) := fun w' hs => rvs.ext hs.upd
 have lvs : vs.length = nvs := rvs.1
 have mvs : nvs ≤ 9223372036854775807 := rvs.2.1
 have kps : Kn w none_ [] (RdR maK aps nps Hps ps) := fun w' hs => rps.ext hs.upd
 have lps : ps.length = nps := rps.1
 have mps : nps ≤ 9223372036854775807 := rps.2.1
 have kqs : Kn w none_ [] (RdR maK aqs nqs Hqs qs) := fun w' hs => rqs.ext hs.upd
 have lqs : qs.length = nqs := rqs.1
 have mqs : nqs ≤ 9223372036854775807 := rqs.2.1
 refine fn (M := none_) (rs := [.cell 8 31, .tmp 9]) Tryd.func8 rfl Tryd.ntmps8 rfl rfl (Sep.start _ _) ?_
 refine hSeq ?_
 refine hReg (sl 0 (sl 1 (sl 2 (sl 3 (sq 4 sz))))) (by kernel_rfl) ?_
 refine box trv1 rfl rfl rfl rfl (fun bkb1 hbkb1 => ?_)
 refine box trv1 rfl rfl rfl rfl (fun bkb2 hbkb2 => ?_)
 refine box trv1 rfl rfl rfl rfl (fun bkb3 hbkb3 => ?_)
 refine alc Tryd.zeroValue31 rfl trv1 rfl rfl (fun bka4 hbka4 => ?_)
 refine asI rfl rfl rfl ?_
 refine rNil ?_
 refine qSeq rfl ?_
 refine hSeq ?_
 refine hBlk ?_
 refine hSeq ?_
 refine hReg (sl 0 (sl 1 (sl 2 (sq 3 (sq 4 (sl 5 (sl 6 (sl 7 (sq 8 (sq 9 (sq 10 sz))))))))))) (by kernel_rfl) ?_
 refine ldAl Tryd.isAgg29 Tryd.sizeOf29 (cBs 3 rfl) trv rfl rfl rfl rfl ?_
 refine ldAl Tryd.isAgg31 Tryd.sizeOf31 (cBs 2 rfl) trv rfl rfl rfl rfl ?_
 refine callP (v := .bool (Math.isStrat z ws vs pl ps)) Tryd.call31 trv rfl rfl (fun w hs => spec_IsStrategy_c _ nz cz _ _ _ nws cws _ _ _ nvs cvs _ _ _ _ nps cps _ _ w (Kn.drop (k := 4) kz w hs) (Kn.drop (k := 4) kws w hs) (Kn.drop (k := 4) kvs w hs) (Kn.drop (k := 4) kps w hs)) ?_
 refine not rfl rfl rfl ?_
 refine mvB rfl rfl rfl ?_
 refine rBoolN (d := 19) rfl (fun g1 => ?_) (fun g1 => ?_)
 ·
  replace g1 : (Math.isStrat z ws vs pl ps) = false := g1
  refine rSkipL trv rfl rfl ?_
  refine rSkipL trv rfl rfl ?_
  refine rSkipL trv rfl rfl ?_
  refine rSkipQ rfl rfl ?_
  refine pickB rfl rfl rfl rfl ?_
  refine asB rfl rfl rfl ?_
  refine rNil ?_
  refine qSeq rfl ?_
  refine hIfT rfl ?_
  refine hSeq ?_
  refine hReg (sq 0 (sl 1 (sq 2 sz))) (by kernel_rfl) ?_
  refine bld rfl rfl rfl (bld31) ?_
  refine stAl (vs := [.int .i64 0, .slice none 0 0]) 0 rfl Tryd.sizeOf31 trv rfl rfl rfl rfl rfl (by simp [Value.oneCell']) rfl ?_
  refine asI rfl rfl rfl ?_
  refine rNil ?_
  refine qSeq rfl ?_
  refine hRet ?_
  refine knP (fun _ h => Sep.nilR maK 50 2 (fun _ => (none, 0)) h) ?_
  exact fun w hs => ⟨[_, .int .i64 1], ⟨⟨_, rfl, run_load_agg Tryd.isAgg31 Tryd.sizeOf31 rfl (cBs 1 rfl w hs)⟩, ⟨rfl, trivial⟩⟩, ⟨(0, none, 0, 0, (fun _ => (none, 0)), [], 1), rfl, by rw [Math.mixAt_1 (by first | exact .inl (by assumption) | exact .inr (by assumption))]; exact ⟨rfl, rfl, rfl⟩, hs.pick [0]⟩⟩
 ·
  replace g1 : (Math.isStrat z ws vs pl ps) = true := g1
  refine ldAl Tryd.isAgg29 Tryd.sizeOf29 (cBs 3 rfl) trv rfl rfl rfl rfl ?_
  refine ldAl Tryd.isAgg31 Tryd.sizeOf31 (cBs 1 rfl) trv rfl rfl rfl rfl ?_
  refine callP (v := .bool (Math.isStrat z ws vs ql qs)) Tryd.call31 trv rfl rfl (fun w hs => spec_IsStrategy_c _ nz cz _ _ _ nws cws _ _ _ nvs cvs _ _ _ _ nqs cqs _ _ w (Kn.drop (k := 4) kz w hs) (Kn.drop (k := 4) kws w hs) (Kn.drop (k := 4) kvs w hs) (Kn.drop (k := 4) kqs w hs)) ?_
  refine not rfl rfl rfl ?_
  refine pickB rfl rfl rfl rfl ?_
  refine asB rfl rfl rfl ?_
  refine rNil ?_
  refine qSeq rfl ?_
  refine hIfN rfl (fun c2 => ?_) (fun c2 => ?_)
  ·
   replace c2 : (Math.isStrat z ws vs ql qs) = false := c2
   refine hSeq ?_
   refine hReg (sq 0 (sl 1 (sq 2 sz))) (by kernel_rfl) ?_
   refine bld rfl rfl rfl (bld31) ?_
   refine stAl (vs := [.int .i64 0, .slice none 0 0]) 0 rfl Tryd.sizeOf31 trv rfl rfl rfl rfl rfl (by simp [Value.oneCell']) rfl ?_
   refine asI rfl rfl rfl ?_
   refine rNil ?_
   refine qSeq rfl ?_
   refine hRet ?_
   refine knP (fun _ h => Sep.nilR maK 50 2 (fun _ => (none, 0)) h) ?_
   exact fun w hs => ⟨[_, .int .i64 1], ⟨⟨_, rfl, run_load_agg Tryd.isAgg31 Tryd.sizeOf31 rfl (cBs 1 rfl w hs)⟩, ⟨rfl, trivial⟩⟩, ⟨(0, none, 0, 0, (fun _ => (none, 0)), [], 1), rfl, by rw [Math.mixAt_1 (by first | exact .inl (by assumption) | exact .inr (by assumption))]; exact ⟨rfl, rfl, rfl⟩, hs.pick [0]⟩⟩
  ·
   replace c2 : (Math.isStrat z ws vs ql qs) = true := c2
   have hsp := Math.isStrat_ok (show Math.isStrat z ws vs pl ps = true by assumption)
   have hg := hsp.1
   have hsq := (Math.isStrat_ok (show Math.isStrat z ws vs ql qs = true by assumption)).2.2
   have hGm := Math.isGame_ok hg
   have hTm := (Math.isTree_ok hGm.1).1
   have hpl := Math.parts_len hsp.2.2
   have hsl := Math.sets_len (z := z) (p := pl) (show ws.length ≤ 6 by omega)
   refine hSeq ?_
   refine hReg (sq 0 (sl 1 (sq 2 (sq 3 sz)))) (by kernel_rfl) ?_
   refine mvI rfl rfl rfl ?_
   refine callP (v := .bool (decide ((0 : Int) ≤ n ∧ n ≤ (60 : Int)))) Tryd.call32 trv rfl rfl (fun w hs => spec_l01In_c _ _ _ w ) ?_
   refine notD rfl rfl rfl ?_
   refine asB rfl rfl rfl ?_
   refine rNil ?_
   refine qSeq rfl ?_
   refine hIfD rfl (fun c3 => ?_) (fun c3 => ?_)
   ·
    replace c3 : ¬ ((0 : Int) ≤ n ∧ n ≤ (60 : Int)) := c3
    refine hSeq ?_
    refine hReg (sq 0 (sl 1 (sq 2 sz))) (by kernel_rfl) ?_
    refine bld rfl rfl rfl (bld31) ?_
    refine stAl (vs := [.int .i64 0, .slice none 0 0]) 0 rfl Tryd.sizeOf31 trv rfl rfl rfl rfl rfl (by simp [Value.oneCell']) rfl ?_
    refine asI rfl rfl rfl ?_
    refine rNil ?_
    refine qSeq rfl ?_
    refine hRet ?_
    refine knP (fun _ h => Sep.nilR maK 50 2 (fun _ => (none, 0)) h) ?_
    exact fun w hs => ⟨[_, .int .i64 2], ⟨⟨_, rfl, run_load_agg Tryd.isAgg31 Tryd.sizeOf31 rfl (cBs 1 rfl w hs)⟩, ⟨rfl, trivial⟩⟩, ⟨(0, none, 0, 0, (fun _ => (none, 0)), [], 2), rfl, by rw [Math.mixAt_2 (by assumption) (by assumption) (by assumption)]; exact ⟨rfl, rfl, rfl⟩, hs.pick [0]⟩⟩
   ·
    replace c3 : ¬ (¬ ((0 : Int) ≤ n ∧ n ≤ (60 : Int))) := c3
    replace c3 := Classical.not_not.1 c3
    refine hSeq ?_
    refine hReg (sq 0 (sl 1 (sq 2 (sl 3 (sq 4 (sq 5 sz)))))) (by kernel_rfl) ?_
    refine fld fl31_0 rfl rfl rfl ?_
    refine ldl Tryd.isAgg2 (cB 2 rfl rfl) trv rfl rfl rfl ?_
    refine fld fl31_0 rfl rfl rfl ?_
    refine ldl Tryd.isAgg2 (cB 1 rfl rfl) trv rfl rfl rfl ?_
    refine neq rfl rfl rfl rfl ?_
    refine asB rfl rfl rfl ?_
    refine rNil ?_
    refine qSeq rfl ?_
    refine hIfD rfl (fun c4 => ?_) (fun c4 => ?_)
    ·
     replace c4 : pl ≠ ql := c4
     refine hSeq ?_
     refine hReg (sq 0 (sl 1 (sq 2 sz))) (by kernel_rfl) ?_
     refine bld rfl rfl rfl (bld31) ?_
     refine stAl (vs := [.int .i64 0, .slice none 0 0]) 0 rfl Tryd.sizeOf31 trv rfl rfl rfl rfl rfl (by simp [Value.oneCell']) rfl ?_
     refine asI rfl rfl rfl ?_
     refine rNil ?_
     refine qSeq rfl ?_
     refine hRet ?_
     refine knP (fun _ h => Sep.nilR maK 50 2 (fun _ => (none, 0)) h) ?_
     exact fun w hs => ⟨[_, .int .i64 5], ⟨⟨_, rfl, run_load_agg Tryd.isAgg31 Tryd.sizeOf31 rfl (cBs 1 rfl w hs)⟩, ⟨rfl, trivial⟩⟩, ⟨(0, none, 0, 0, (fun _ => (none, 0)), [], 5), rfl, by rw [Math.mixAt_5 (by assumption) (by assumption) (by assumption) (by assumption)]; exact ⟨rfl, rfl, rfl⟩, hs.pick [0]⟩⟩
    ·
     replace c4 : ¬ (pl ≠ ql) := c4
     replace c4 := Classical.not_not.1 c4
     rw [← c4] at hsq
     refine hSkip ?_
     refine qSeq rfl ?_
     refine hSeq ?_
     refine hReg (sl 0 (sq 1 sz)) (by kernel_rfl) ?_
     refine bsl trv1 rfl rfl rfl (bsl27_0) (fun bkl9 hbkl9 => ?_)
     refine asS rfl rfl rfl ?_
     refine rNil ?_
     refine qSeq rfl ?_
     refine hSeq ?_
     refine hSeq ?_
     refine hReg (sq 0 sz) (by kernel_rfl) ?_
     refine asI rfl rfl rfl ?_
     refine rNil ?_
     refine qSeq rfl ?_
     refine hBlk ?_
     refine hPieces (fun _ h => Sep.litR maK 50 2 (fun _ => (none, 0)) h 0 rfl) ?_
     refine hLoop (α := Nat × Nat × Hd × (Nat → Hd)) (fun x => x.1 ≤ nps ∧ x.2.1 = x.1) (fun x => nps - x.1) (fun x => [OwnR maK 50 2 x.2.2.1.1 x.2.1 x.2.2.1.2 x.2.2.2 (Math.mixTo n ps qs x.1), blk bka4 31 [.int .i64 0, .slice none 0 0], blk bkb3 31 [.int .i64 ql, .slice aqs nqs cqs], blk bkb2 31 [.int .i64 pl, .slice aps nps cps], blk bkb1 29 [.slice az nz cz, .slice aws nws cws, .slice avs nvs cvs]]) (fun x => [(3, .int .i64 n), (5, .pointer (some ⟨bkb2, 0, none⟩)), (6, .pointer (some ⟨bkb3, 0, none⟩)), (8, .pointer (some ⟨bka4, 0, none⟩)), (10, .slice x.2.2.1.1 x.2.1 x.2.2.1.2), (11, .int .i64 (x.1 : Int))]) ((0, 0, (((some ⟨bkl9, 0, none⟩), 0), (fun _ => (none, 0))))) ⟨Nat.zero_le _, rfl⟩ (fun _ h => h.pick [0, 0, 0, 0, 0]) ⟨rfl, rfl, rfl, rfl, rfl, rfl, trivial⟩ ?_
     rintro ⟨i, q, hd⟩ τ1 ⟨hi, hq⟩
     dsimp only at hi hq
     refine hRe [(3, .int .i64 n), (5, .pointer (some ⟨bkb2, 0, none⟩)), (6, .pointer (some ⟨bkb3, 0, none⟩)), (8, .pointer (some ⟨bka4, 0, none⟩)), (10, .slice hd.1.1 q hd.1.2), (11, .int .i64 (i : Int))] [OwnR maK 50 2 hd.1.1 q hd.1.2 hd.2 (Math.mixTo n ps qs i), blk bka4 31 [.int .i64 0, .slice none 0 0], blk bkb3 31 [.int .i64 ql, .slice aqs nqs cqs], blk bkb2 31 [.int .i64 pl, .slice aps nps cps], blk bkb1 29 [.slice az nz cz, .slice aws nws cws, .slice avs nvs cvs]] rfl rfl ?_
     refine hSeq ?_
     refine hSeq ?_
     refine hReg (sq 0 (sq 1 (sl 2 (sq 3 (sq 4 sz))))) (by kernel_rfl) ?_
     refine mvI rfl rfl rfl ?_
     refine fld fl31_1 rfl rfl rfl ?_
     refine ldl Tryd.isAgg27 (cB 3 rfl rfl) trv rfl rfl rfl ?_
     refine lenS Tryd.runUnderlying27 rfl rfl rfl ?_
     refine lss rfl rfl rfl rfl ?_
     refine rNil ?_
     refine qSeq rfl ?_
     refine hIfD rfl (fun c5 => ?_) (fun c5 => ?_)
     ·
      replace c5 : (i : Int) < (nps : Int) := c5
      have hmr := Math.mix_rows hg hsp.2.1 hsp.2.2 hsq (show i < ps.length by omega)
      refine hSkip ?_
      refine qSeq rfl ?_
      refine hSeq ?_
      refine hBlk ?_
      refine hSeq ?_
      refine hReg (sl 0 (sq 1 sz)) (by kernel_rfl) ?_
      refine bsl trv1 rfl rfl rfl (bsl50_0) (fun bkl10 hbkl10 => ?_)
      refine asS rfl rfl rfl ?_
      refine rNil ?_
      refine qSeq rfl ?_
      refine hSeq ?_
      refine hSeq ?_
      refine hReg (sq 0 sz) (by kernel_rfl) ?_
      refine asI rfl rfl rfl ?_
      refine rNil ?_
      refine qSeq rfl ?_
      refine hBlk ?_
      refine hPieces (fun _ h => Sep.litI h 0 [] rfl rfl rfl) ?_
      refine hLoop (α := Nat × Nat × Hd) (fun x => x.1 ≤ (ps.getD i []).length ∧ x.2.1 = x.1) (fun x => (ps.getD i []).length - x.1) (fun x => [OwnI 2 x.2.2.1 x.2.1 x.2.2.2 ((Math.mixRow n (ps.getD i []) (qs.getD i []) x.1)), OwnR maK 50 2 hd.1.1 q hd.1.2 hd.2 (Math.mixTo n ps qs i), blk bka4 31 [.int .i64 0, .slice none 0 0], blk bkb3 31 [.int .i64 ql, .slice aqs nqs cqs], blk bkb2 31 [.int .i64 pl, .slice aps nps cps], blk bkb1 29 [.slice az nz cz, .slice aws nws cws, .slice avs nvs cvs]]) (fun x => [(3, .int .i64 n), (5, .pointer (some ⟨bkb2, 0, none⟩)), (6, .pointer (some ⟨bkb3, 0, none⟩)), (8, .pointer (some ⟨bka4, 0, none⟩)), (10, .slice hd.1.1 q hd.1.2), (11, .int .i64 (i : Int)), (12, .slice x.2.2.1 x.2.1 x.2.2.2), (13, .int .i64 (x.1 : Int))]) ((0, 0, ((some ⟨bkl10, 0, none⟩), 0))) ⟨Nat.zero_le _, rfl⟩ (fun _ h => h.pick [0, 0, 0, 0, 0, 0]) ⟨rfl, rfl, rfl, rfl, rfl, rfl, rfl, rfl, trivial⟩ ?_
      rintro ⟨j, q2, he⟩ τ2 ⟨hj, hq2⟩
      dsimp only at hj hq2
      refine hRe [(3, .int .i64 n), (5, .pointer (some ⟨bkb2, 0, none⟩)), (6, .pointer (some ⟨bkb3, 0, none⟩)), (8, .pointer (some ⟨bka4, 0, none⟩)), (10, .slice hd.1.1 q hd.1.2), (11, .int .i64 (i : Int)), (12, .slice he.1 q2 he.2), (13, .int .i64 (j : Int))] [OwnI 2 he.1 q2 he.2 ((Math.mixRow n (ps.getD i []) (qs.getD i []) j)), OwnR maK 50 2 hd.1.1 q hd.1.2 hd.2 (Math.mixTo n ps qs i), blk bka4 31 [.int .i64 0, .slice none 0 0], blk bkb3 31 [.int .i64 ql, .slice aqs nqs cqs], blk bkb2 31 [.int .i64 pl, .slice aps nps cps], blk bkb1 29 [.slice az nz cz, .slice aws nws cws, .slice avs nvs cvs]] rfl rfl ?_
      refine hSeq ?_
      refine hSeq ?_
      refine hReg (sq 0 (sq 1 (sl 2 (sq 3 (sq 4 (sl 5 (sq 6 (sq 7 sz)))))))) (by kernel_rfl) ?_
      refine mvI rfl rfl rfl ?_
      refine fld fl31_1 rfl rfl rfl ?_
      refine ldl Tryd.isAgg27 (cB 4 rfl rfl) trv rfl rfl rfl ?_
      refine mvI rfl rfl rfl ?_
      refine ixRl (zn := i) (ps.getD i []) el27 (Kn.drop (k := 6) kps) rfl rfl rfl rfl (by omega) (by omega) rfl (nth [] (by omega)) ?_
      intro be1 oe1 e1
      refine ldl Tryd.isAgg50 (Kn.fld e1 0 rfl) trv rfl rfl rfl ?_
      refine lenS Tryd.runUnderlying50 rfl rfl rfl ?_
      refine lss rfl rfl rfl rfl ?_
      refine rNil ?_
      refine qSeq rfl ?_
      refine hIfD rfl (fun c6 => ?_) (fun c6 => ?_)
      ·
       replace c6 : (j : Int) < (((ps.getD i []).length : Nat) : Int) := c6
       have hmb := Math.mix_bd c3 hmr.2.2.2.1 hmr.2.2.2.2 (show j < (ps.getD i []).length by omega) (show j < (qs.getD i []).length by omega)
       refine hSkip ?_
       refine qSeq rfl ?_
       refine hSeq ?_
       refine hBlk ?_
       refine hDraw (Ls := [blk bkb3 31 [.int .i64 ql, .slice aqs nqs cqs], blk bkb2 31 [.int .i64 pl, .slice aps nps cps]]) (by kernel_rfl) (sq 0 (sq 1 (sq 2 (sq 3 (sq 4 (sq 5 (sq 6 (sq 7 (sq 8 (sq 9 (sq 10 (sq 11 (sq 12 (sq 13 (sq 14 (sq 15 (sq 16 (sq 17 (sq 18 (sq 19 (sq 20 (sq 21 (sq 22 (sl 23 (sl 24 (sq 25 sz)))))))))))))))))))))))))) (by kernel_rfl) (.cons _ (.cons _ (.cons _ (.cons_cons _ (.cons_cons _ (.cons _ .slnil)))))) ?_
       refine mvS rfl rfl rfl ?_
       refine mvI rfl rfl rfl ?_
       refine fld fl31_1 rfl rfl rfl ?_
       refine ldq Tryd.isAgg27 (cB 1 rfl rfl) rfl rfl rfl ?_
       refine mvI rfl rfl rfl ?_
       refine ixRq (zn := i) (ps.getD i []) el27 (Kn.drop (k := 2) kps) (fun _ h => h.pick [3, 3]) rfl rfl rfl rfl (by omega) (by omega) rfl (nth [] (by omega)) ?_
       intro be2 oe2 e2
       refine ldq Tryd.isAgg50 (Kn.fld e2 0 rfl) rfl rfl rfl ?_
       refine mvI rfl rfl rfl ?_
       refine ixIq (zn := j) el50 (Kn.drop (k := 2) ((Kn.imp kps fun _ h => h.kidM (nth [] (by omega))))) (fun _ h => h.pick [3, 3]) rfl rfl rfl rfl (by omega) (by omega) rfl ?_
       intro ae3 e3
       refine ldq Tryd.isAgg2 (e3) rfl rfl rfl ?_
       refine mul rfl rfl rfl rfl (by omega) ?_
       refine mvI rfl rfl rfl ?_
       refine sub rfl rfl rfl rfl (by omega) ?_
       refine fld fl31_1 rfl rfl rfl ?_
       refine ldq Tryd.isAgg27 (cB 0 rfl rfl) rfl rfl rfl ?_
       refine mvI rfl rfl rfl ?_
       refine ixRq (zn := i) (qs.getD i []) el27 (Kn.drop (k := 2) kqs) (fun _ h => h.pick [3, 3]) rfl rfl rfl rfl (by omega) (by omega) rfl (nth [] (by omega)) ?_
       intro be4 oe4 e4
       refine ldq Tryd.isAgg50 (Kn.fld e4 0 rfl) rfl rfl rfl ?_
       refine mvI rfl rfl rfl ?_
       refine ixIq (zn := j) el50 (Kn.drop (k := 2) ((Kn.imp kqs fun _ h => h.kidM (nth [] (by omega))))) (fun _ h => h.pick [3, 3]) rfl rfl rfl rfl (by omega) (by omega) rfl ?_
       intro ae5 e5
       refine ldq Tryd.isAgg2 (e5) rfl rfl rfl ?_
       refine mul rfl rfl rfl rfl (by omega) ?_
       refine add rfl rfl rfl rfl (by omega) ?_
       refine bsl (fun _ _ h => h.pick [4, 4]) rfl rfl rfl (bsl50_1 (.int .i64 _) rfl) (fun bkl11 hbkl11 => ?_)
       refine aplI (N := q2) (x := ((n * ((ps.getD i []).getD j 0)) + ((60 - n) * ((qs.getD i []).getD j 0)))) 1 0 rfl rfl mk50 (fun _ _ h => h.pick [4, 4]) rfl rfl rfl rfl (by omega) ?_
       intro aq6 cq6
       refine asS rfl rfl rfl ?_
       refine rNil ?_
       refine qSeq rfl ?_
       refine hReg (sq 0 (sq 1 (sq 2 sz))) (by kernel_rfl) ?_
       refine mvI rfl rfl rfl ?_
       refine add rfl rfl rfl rfl (by omega) ?_
       refine asI rfl rfl rfl ?_
       refine rNil ?_
       rw [Math.mixRow_s]
       exact qNext rfl ((j + 1, q2 + 1, (aq6, cq6))) (by dsimp only; omega) ⟨by dsimp only; omega, by dsimp only; omega⟩ ⟨rfl, rfl, rfl, rfl, rfl, rfl, rfl, rfl, trivial⟩ (fun _ h => h.pick [1, 1, 1, 1, 1, 1])
      ·
       replace c6 : ¬ ((j : Int) < (((ps.getD i []).length : Nat) : Int)) := c6
       refine hExit rfl ?_
       refine qSeq rfl ?_
       refine hReg (sq 0 (sq 1 (sl 2 (sl 3 (sl 4 (sq 5 sz)))))) (by kernel_rfl) ?_
       refine mvS rfl rfl rfl ?_
       refine mvS rfl rfl rfl ?_
       refine callS Tryd.call33 trv1 rfl rfl (fun w hs => spec_l22Parts_c _ q2 he.2 _ w (OwnI.rd (hs.at_ 0 rfl)) (Math.mixRow_bd (by assumption) hmr.2.2.2.1 hmr.2.2.2.2 (by omega) (by omega)) (by rw [Math.mixRow_len]; omega) (by rw [Math.mixRow_len]; omega)) ?_
       rintro ⟨ay7, ny7, cy7, y7⟩ hr7
       dsimp only at hr7
       subst y7
       refine rKnow (fun w hs => (show OwnI 2 ay7 ny7 cy7 (((Math.partsOf ((Math.mixRow n (ps.getD i []) (qs.getD i []) j))))) w from hs.at_ 0 rfl).lenz) (fun lenn12 => ?_)
       refine bsl trv1 rfl rfl rfl (bsl27_1 (.slice _ _ _) rfl) (fun bkl13 hbkl13 => ?_)
       refine apR (hd := (ay7, cy7)) (x := ((Math.partsOf ((Math.mixRow n (ps.getD i []) (qs.getD i []) j))))) 3 1 0 maK.ok rfl rfl rfl (fun h => by first | rfl | (dsimp only at h; rw [h]; rfl) | (rw [h]; rfl) | exact congrArg (fun m => [Value.slice _ m _]) h) mk27 trv1 rfl rfl rfl rfl (by omega) ?_
       intro aq8 cq8
       refine asS rfl rfl rfl ?_
       refine rNil ?_
       refine qSeq rfl ?_
       refine hReg (sq 0 (sq 1 (sq 2 sz))) (by kernel_rfl) ?_
       refine mvI rfl rfl rfl ?_
       refine add rfl rfl rfl rfl (by omega) ?_
       refine asI rfl rfl rfl ?_
       refine rNil ?_
       rw [Math.mixTo_s (by omega)]
       exact qNext rfl ((i + 1, q + 1, ((aq8, cq8), (hset hd.2 (Math.mixTo n ps qs i).length (ay7, cy7))))) (by dsimp only; omega) ⟨by dsimp only; omega, by dsimp only; omega⟩ ⟨rfl, rfl, rfl, rfl, rfl, rfl, trivial⟩ (fun _ h => h.pick [0, 2, 2, 2, 2])
     ·
      replace c5 : ¬ ((i : Int) < (nps : Int)) := c5
      refine hExit rfl ?_
      refine qSeq rfl ?_
      refine hSeq ?_
      refine hReg (sq 0 (sl 1 (sq 2 (sq 3 (sl 4 (sq 5 sz)))))) (by kernel_rfl) ?_
      refine fld fl31_0 rfl rfl rfl ?_
      refine ldl Tryd.isAgg2 (cB 3 rfl rfl) trv rfl rfl rfl ?_
      refine mvS rfl rfl rfl ?_
      refine bld rfl rfl rfl (bld31_0_1 (.int .i64 _) (.slice _ _ _) rfl rfl) ?_
      refine stAl (vs := [.int .i64 pl, .slice hd.1.1 q hd.1.2]) 1 rfl Tryd.sizeOf31 trv rfl rfl rfl rfl rfl (by simp [Value.oneCell']) rfl ?_
      refine asI rfl rfl rfl ?_
      refine rNil ?_
      refine qSeq rfl ?_
      refine hRet ?_
      exact fun w hs => ⟨[_, .int .i64 0], ⟨⟨_, rfl, run_load_agg Tryd.isAgg31 Tryd.sizeOf31 rfl (cBs 1 rfl w hs)⟩, ⟨rfl, trivial⟩⟩, ⟨(pl, hd.1.1, q, hd.1.2, hd.2, (Math.mixTo n ps qs i), 0), rfl, by rw [Math.mixAt_0 (by assumption) (by assumption) (by assumption) (by assumption) (show i = ps.length by omega)]; exact ⟨rfl, rfl, rfl⟩, hs.pick [0]⟩⟩
end Go.Proofs.YtjengglpbdgmnaaDoor
/- Contracts of the library that the kit lays, in plain words. Their conditions stand in each. -/
namespace Go.Proofs
open Go.Shelf
def Tryd.lays169_ren : Go.Shelf.Ren := ⟨fun | 169 => 38 | n => n, fun | 70 => 64 | 9 => 9 | 0 => 0 | 72 => 66 | 37 => 22 | 127 => 100 | 3 => 3 | 5 => 5 | n => n, fun | n => n⟩
theorem Tryd.lays169 : Go.Proofs.Lays.n169 Tryd.prog Tryd.lays169_ren := {
 mixed := by kernel_rfl
 f169 := Tryd.func38.trans (congrArg some (by kernel_rfl))
 t0 := Tryd.underlying0
 a0 := Tryd.isAgg0
 z0 := Tryd.sizeOf0
 v0 := Tryd.zeroValue0
 t3 := Tryd.underlying3
 a3 := Tryd.isAgg3
 z3 := Tryd.sizeOf3
 v3 := Tryd.zeroValue3
 t9 := Tryd.underlying9
 a9 := Tryd.isAgg9
 z9 := Tryd.sizeOf9
 v9 := Tryd.zeroValue9
 t37 := Tryd.underlying22
 a37 := Tryd.isAgg22
 z37 := Tryd.sizeOf22
 v37 := Tryd.zeroValue22
 t70 := Tryd.underlying64
 a70 := Tryd.isAgg64
 z70 := Tryd.sizeOf64
 v70 := Tryd.zeroValue64
 t72 := Tryd.underlying66
 a72 := Tryd.isAgg66
 z72 := Tryd.sizeOf66
 v72 := Tryd.zeroValue66
 t127 := Tryd.underlying100
 a127 := Tryd.isAgg100
 z127 := Tryd.sizeOf100
 v127 := Tryd.zeroValue100 }
theorem Tryd.Builder_Extra_169 : Builder.Extra Tryd.prog Tryd.lays169_ren := {
 sizeBuilder := by kernel_rfl
 liesBuilder := by kernel_rfl
 t5 := Tryd.underlying5
 a5 := Tryd.isAgg5
 z5 := Tryd.sizeOf5
 v5 := Tryd.zeroValue5
 infoByte := by kernel_rfl
 cellsByte := by kernel_rfl
 sizeByte := by kernel_rfl
 neB5 := by decide }
def Tryd.lays156_ren : Go.Shelf.Ren := ⟨fun | 156 => 66 | 165 => 76 | 166 => 36 | 169 => 38 | 240 => 64 | 241 => 82 | 276 => 74 | 277 => 89 | n => n, fun | 31 => 98 | 9 => 9 | 3 => 3 | 4 => 4 | 0 => 0 | 20 => 20 | 72 => 66 | 76 => 70 | 70 => 64 | 37 => 22 | 75 => 69 | 127 => 100 | 164 => 104 | 5 => 5 | 80 => 73 | n => n, fun | n => n⟩
theorem Tryd.lays156 : Go.Proofs.Lays.n156 Tryd.prog Tryd.lays156_ren := {
 mixed := by kernel_rfl
 f156 := Tryd.func66.trans (congrArg some (by kernel_rfl))
 f165 := Tryd.func76.trans (congrArg some (by kernel_rfl))
 f166 := Tryd.func36.trans (congrArg some (by kernel_rfl))
 f169 := Tryd.func38.trans (congrArg some (by kernel_rfl))
 f240 := Tryd.func64.trans (congrArg some (by kernel_rfl))
 f241 := Tryd.func82.trans (congrArg some (by kernel_rfl))
 f276 := Tryd.func74.trans (congrArg some (by kernel_rfl))
 f277 := Tryd.func89.trans (congrArg some (by kernel_rfl))
 t0 := Tryd.underlying0
 a0 := Tryd.isAgg0
 z0 := Tryd.sizeOf0
 v0 := Tryd.zeroValue0
 t3 := Tryd.underlying3
 a3 := Tryd.isAgg3
 z3 := Tryd.sizeOf3
 v3 := Tryd.zeroValue3
 t4 := Tryd.underlying4
 a4 := Tryd.isAgg4
 z4 := Tryd.sizeOf4
 v4 := Tryd.zeroValue4
 t9 := Tryd.underlying9
 a9 := Tryd.isAgg9
 z9 := Tryd.sizeOf9
 v9 := Tryd.zeroValue9
 t20 := Tryd.underlying20
 a20 := Tryd.isAgg20
 z20 := Tryd.sizeOf20
 v20 := Tryd.zeroValue20
 t31 := Tryd.underlying98
 a31 := Tryd.isAgg98
 z31 := Tryd.sizeOf98
 v31 := Tryd.zeroValue98
 t37 := Tryd.underlying22
 a37 := Tryd.isAgg22
 z37 := Tryd.sizeOf22
 v37 := Tryd.zeroValue22
 t70 := Tryd.underlying64
 a70 := Tryd.isAgg64
 z70 := Tryd.sizeOf64
 v70 := Tryd.zeroValue64
 t72 := Tryd.underlying66
 a72 := Tryd.isAgg66
 z72 := Tryd.sizeOf66
 v72 := Tryd.zeroValue66
 t75 := Tryd.underlying69
 a75 := Tryd.isAgg69
 z75 := Tryd.sizeOf69
 v75 := Tryd.zeroValue69
 t76 := Tryd.underlying70
 a76 := Tryd.isAgg70
 z76 := Tryd.sizeOf70
 v76 := Tryd.zeroValue70
 t127 := Tryd.underlying100
 a127 := Tryd.isAgg100
 z127 := Tryd.sizeOf100
 v127 := Tryd.zeroValue100
 t164 := Tryd.underlying104
 a164 := Tryd.isAgg104
 z164 := Tryd.sizeOf104
 v164 := Tryd.zeroValue104 }
theorem Tryd.Builder_Extra_156 : Builder.Extra Tryd.prog Tryd.lays156_ren := {
 sizeBuilder := by kernel_rfl
 liesBuilder := by kernel_rfl
 t5 := Tryd.underlying5
 a5 := Tryd.isAgg5
 z5 := Tryd.sizeOf5
 v5 := Tryd.zeroValue5
 infoByte := by kernel_rfl
 cellsByte := by kernel_rfl
 sizeByte := by kernel_rfl
 neB5 := by decide }
open Go.RowKit in
theorem Tryd.strings_Join_none (a : Option Addr) (c : Nat) (sep : ByteArray) (w : World) :
  Calls Tryd.prog 66 #[.slice a 0 c, .string sep] w fun e w' => e = .returned (.string ⟨#[]⟩) ∧ w' = w := Any.strings_Join_none Tryd.lays156 Tryd.Builder_Extra_156 a c sep w
open Go.RowKit in
theorem Tryd.strings_Join (bk o c : Nat) (xs : List ByteArray) (sep : ByteArray) (w : World) (hcells : ∀ (j : Nat) x, xs[j]? = some x → w.cell? ⟨bk, o + j, none⟩ = some (.string x)) (hbk : bk < w.heap.size) (hN : xs.length ≤ 140737488355328) (hcap : xs.length ≤ c) (hlen : (Lib.join (xs.map (·.data.toList)) sep.data.toList).length ≤ 140737488355328) :
  Calls Tryd.prog 66 #[.slice (some ⟨bk, o, none⟩) xs.length c, .string sep] w fun e w' => e = .returned (.string ⟨(Lib.join (xs.map (·.data.toList)) sep.data.toList).toArray⟩) ∧ Below w.heap.size w w' := Any.strings_Join Tryd.lays156 Tryd.Builder_Extra_156 bk o c xs sep w hcells hbk hN hcap hlen
open Go.RowKit in
theorem Tryd.Builder_String_any_k (B b : Nat) (l : List UInt8) (w : World) (h : Lib.IsBuilderF 66 5 B b (Lib.byteCells l) w) (hBw : B ≤ w.heap.size) :
  Calls Tryd.prog 38 #[.pointer (some ⟨b, 0, none⟩)] w fun e w' => e = .returned (.string ⟨l.toArray⟩) ∧ (Lib.IsBuilderF 66 5 B b (Lib.byteCells l) w' ∧ Below B w w' ∧ Lib.OthersKept 5 (some b) w w') := Any.Builder_String_any_k Tryd.lays169 Tryd.Builder_Extra_169 B b l w h hBw
def Tryd.laysM173_ren : Go.Shelf.Ren := ⟨fun | 173 => 75 | 246 => 81 | 283 => 85 | 284 => 86 | 285 => 87 | 286 => 88 | 129 => 92 | 317 => 91 | 318 => 93 | 319 => 94 | 320 => 95 | 337 => 96 | 338 => 97 | n => n, fun | 2 => 2 | 3 => 3 | 9 => 9 | 4 => 4 | 171 => 115 | 0 => 0 | 53 => 116 | 37 => 22 | 5 => 5 | 173 => 119 | 212 => 124 | 51 => 125 | 20 => 20 | 213 => 126 | 46 => 128 | 232 => 131 | 233 => 132 | n => n, fun | 17 => 0 | 18 => 2 | 19 => 3 | n => n⟩
theorem Tryd.laysM173 : Go.Proofs.LaysM.n173 Tryd.prog Tryd.laysM173_ren := {
 mixed := by kernel_rfl
 f129 := Tryd.func92.trans (congrArg some (by kernel_rfl))
 f173 := Tryd.func75.trans (congrArg some (by kernel_rfl))
 f246 := Tryd.func81.trans (congrArg some (by kernel_rfl))
 f283 := Tryd.func85.trans (congrArg some (by kernel_rfl))
 f284 := Tryd.func86.trans (congrArg some (by kernel_rfl))
 f285 := Tryd.func87.trans (congrArg some (by kernel_rfl))
 f286 := Tryd.func88.trans (congrArg some (by kernel_rfl))
 f317 := Tryd.func91.trans (congrArg some (by kernel_rfl))
 f318 := Tryd.func93.trans (congrArg some (by kernel_rfl))
 f319 := Tryd.func94.trans (congrArg some (by kernel_rfl))
 f320 := Tryd.func95.trans (congrArg some (by kernel_rfl))
 f337 := Tryd.func96.trans (congrArg some (by kernel_rfl))
 f338 := Tryd.func97.trans (congrArg some (by kernel_rfl))
 t0 := Tryd.underlying0
 a0 := Tryd.isAgg0
 z0 := Tryd.sizeOf0
 v0 := Tryd.zeroValue0
 t2 := Tryd.underlying2
 a2 := Tryd.isAgg2
 z2 := Tryd.sizeOf2
 v2 := Tryd.zeroValue2
 t3 := Tryd.underlying3
 a3 := Tryd.isAgg3
 z3 := Tryd.sizeOf3
 v3 := Tryd.zeroValue3
 t4 := Tryd.underlying4
 a4 := Tryd.isAgg4
 z4 := Tryd.sizeOf4
 v4 := Tryd.zeroValue4
 t5 := Tryd.underlying5
 a5 := Tryd.isAgg5
 z5 := Tryd.sizeOf5
 v5 := Tryd.zeroValue5
 t9 := Tryd.underlying9
 a9 := Tryd.isAgg9
 z9 := Tryd.sizeOf9
 v9 := Tryd.zeroValue9
 t20 := Tryd.underlying20
 a20 := Tryd.isAgg20
 z20 := Tryd.sizeOf20
 v20 := Tryd.zeroValue20
 t37 := Tryd.underlying22
 a37 := Tryd.isAgg22
 z37 := Tryd.sizeOf22
 v37 := Tryd.zeroValue22
 t46 := Tryd.underlying128
 a46 := Tryd.isAgg128
 z46 := Tryd.sizeOf128
 v46 := Tryd.zeroValue128
 t51 := Tryd.underlying125
 a51 := Tryd.isAgg125
 z51 := Tryd.sizeOf125
 v51 := Tryd.zeroValue125
 t53 := Tryd.underlying116
 a53 := Tryd.isAgg116
 z53 := Tryd.sizeOf116
 v53 := Tryd.zeroValue116
 t171 := Tryd.underlying115
 a171 := Tryd.isAgg115
 z171 := Tryd.sizeOf115
 v171 := Tryd.zeroValue115
 t173 := Tryd.underlying119
 a173 := Tryd.isAgg119
 z173 := Tryd.sizeOf119
 v173 := Tryd.zeroValue119
 t212 := Tryd.underlying124
 a212 := Tryd.isAgg124
 z212 := Tryd.sizeOf124
 v212 := Tryd.zeroValue124
 t213 := Tryd.underlying126
 a213 := Tryd.isAgg126
 z213 := Tryd.sizeOf126
 t232 := Tryd.underlying131
 a232 := Tryd.isAgg131
 z232 := Tryd.sizeOf131
 v232 := Tryd.zeroValue131
 t233 := Tryd.underlying132
 a233 := Tryd.isAgg132
 z233 := Tryd.sizeOf132
 v233 := Tryd.zeroValue132
 g17 := by kernel_rfl
 g18 := by kernel_rfl
 g19 := by kernel_rfl
 i0 := by kernel_rfl
 i2 := by kernel_rfl
 i3 := by kernel_rfl
 i4 := by kernel_rfl
 i5 := by kernel_rfl
 i9 := by kernel_rfl
 i20 := by kernel_rfl
 i37 := by kernel_rfl
 i46 := by kernel_rfl
 i51 := by kernel_rfl
 i53 := by kernel_rfl
 i171 := by kernel_rfl
 i173 := by kernel_rfl
 i212 := by kernel_rfl
 i232 := by kernel_rfl
 i233 := by kernel_rfl
 m17 := by kernel_rfl
 m18 := by kernel_rfl
 m19 := by kernel_rfl }
open Go.RowKit Go.Sort Go.Lib in
theorem Tryd.strconv_FormatInt_10 (n : Int) (h0 : -9223372036854775808 ≤ n) (h1 : n ≤ 9223372036854775807) (w : World) (htab : Lib.TabIs Tryd.prog w "internal/strconv.uint64pow10" .u64 Lib.pow10Tab) :
  Calls Tryd.prog 75 #[.int .i64 n, .int .i64 10] w fun e w' => e = .returned (.string ⟨(Lib.itoa n).toArray⟩) ∧ ∃ k os, w' = grow (w.drewN k) os := Any.strconv_FormatInt_10 Tryd.laysM173 n h0 h1 w htab
end Go.Proofs
/- The engine: strings. No condition. -/
namespace Go.Proofs.YtjengglpbdgmnaaDoor.V
open Go Go.RowKit
set_option linter.unusedVariables false
set_option linter.unusedSimpArgs false
/-- A string of bytes. -/
def sv (l : List UInt8) : Value := .string ⟨l.toArray⟩
theorem vS {l m : List UInt8} (h : l = m) : sv l = sv m := by rw [h]
section
variable {P : Program} {n : Nat} {w0 : World} {M : Nat → Prop} {L : List (World → Prop)} {σ : Fr} {K : Ko} {ops : Array Oper} {S : World → Prop} {r : Sch} {i : Nat}
variable {d : Nat} {t ty yt : TypeId} {p : String} {af : Array Edge} {g : Option (Nat × Bool)} {a b : Operand} {l m : List UInt8}
theorem strAdd (ho : ops[i]? = some ⟨some d, .binOp .add ty a b yt, t, p, af, g⟩) (hg : go ops σ g) (ha : ev σ a = sv l) (hb : ev σ b = sv m) (hr : l.length + m.length ≤ 9223372036854775807) (h : RG P n w0 M ops S L r (upd σ d (sv (l ++ m))) K) : RG P n w0 M ops S L (.op .q i r) σ K :=
 rQ ho hg (fun w _ => by
  have h1 := run_string_add_sum (P := P) w ⟨l.toArray⟩ ⟨m.toArray⟩ (by simpa [ByteArray.size] using hr)
  simp [execOp, ha, hb, eqGuard, sv, binOp_string_add, h1, ByteArray.mk_append_mk]) h
theorem strNeq (ho : ops[i]? = some ⟨some d, .binOp .neq ty a b yt, t, p, af, g⟩) (hg : go ops σ g) (ha : ev σ a = sv l) (hb : ev σ b = sv m) (h : RG P n w0 M ops S L r (upd σ d (.bool (decide (l ≠ m)))) K) : RG P n w0 M ops S L (.op .q i r) σ K :=
 rQ ho hg (fun w _ => by
  simp [execOp, ha, hb, eqGuard, sv, binOp_string_neq]
  try (by_cases e : l = m <;> simp [e])) h
theorem cnvU8 {src dst : TypeId} {sd : TypeDesc} {k : IntKind} {z : Int} (hs : ∀ w, (underlying src).run P w = .ok sd w) (hd : ∀ w, (underlying dst).run P w = .ok (.int .u8) w) (ho : ops[i]? = some ⟨some d, .convert src dst a, t, p, af, g⟩) (hg : go ops σ g) (ha : ev σ a = .int k z) (hr : 0 ≤ z ∧ z ≤ 255) (h : RG P n w0 M ops S L r (upd σ d (.int .u8 z)) K) : RG P n w0 M ops S L (.op .q i r) σ K :=
 cnv hs hd ho hg ha (by rw [show IntKind.u8.wrap z = z from by rw [IntKind.wrap_u8]; omega]; exact h)
theorem cnvStr {src dst eb e bk len cap : Nat} {vs : List Value} (xs : List Int) (j : Nat) (hj : L[j]? = some (blk bk e vs)) (hv : vs = xs.map (Value.int .u8)) (hl : xs.length = len) (hs : P.underlying src = some (.slice eb)) (he : P.underlying eb = some (.int .u8)) (hd : P.underlying dst = some .string) (hS : ∀ w, Sep w0 M L w → S w)
  (ho : ops[i]? = some ⟨some d, .convert src dst a, t, p, af, g⟩) (hg : go ops σ g) (ha : ev σ a = .slice (some ⟨bk, 0, none⟩) len cap) (h : RG P n w0 M ops S L r (upd σ d (sv (xs.map fun z => UInt8.ofNat z.toNat))) K) : RG P n w0 M ops S L (.op .l i r) σ K :=
 rL1 hS ho hg (fun w hs0 => by
  have hb : blk bk e vs w := hs0.at_ j hj
  have hc : ∀ i, i < len → w.cell? ⟨bk, 0 + i, none⟩ = some (.int .u8 (xs.getD i 0)) := fun i hi => by
   have hx : vs[i]? = some (.int .u8 (xs.getD i 0)) := by rw [hv, List.getElem?_map, List.getElem?_eq_getElem (show i < xs.length by omega)]; simp [List.getD, List.getElem?_eq_getElem (show i < xs.length by omega)]
   rw [Nat.zero_add]
   unfold blk at hb
   simp [World.cell?, hb, hx]
  have h1 := run_convert_bytes_arg (P := P) w src eb hs he bk 0 len cap xs hl hc dst hd
  have h2 : strOfNums xs = ⟨(xs.map fun z => UInt8.ofNat z.toNat).toArray⟩ := rfl
  unfold opw; simp [execOp, ha, h1, h2]
  exact ⟨hs0, rfl⟩) h
end
end Go.Proofs.YtjengglpbdgmnaaDoor.V
/- Decimal numbers: what the library and the reference write. No condition. -/
namespace Go.Proofs.YtjengglpbdgmnaaDoor.Math
/-- A number in decimal. -/
def dec (n : Int) : List UInt8 := Lib.decDigits n.toNat
theorem dec_small {n : Int} (h0 : 0 ≤ n) (h : n < 10) : dec n = [UInt8.ofNat (48 + n).toNat] := by
  unfold dec; rw [Lib.decDigits, dif_pos (by omega)]
  congr 2; omega
theorem dec_step {n : Int} (h : ¬ n < 10) : dec n = dec (n / 10) ++ [UInt8.ofNat (48 + n % 10).toNat] := by
  unfold dec
  rw [Lib.decDigits, dif_neg (by omega), show (n / 10).toNat = n.toNat / 10 from by omega, show (48 + n % 10).toNat = 48 + n.toNat % 10 from by omega]
theorem dec_len3 {n : Int} (h : n ≤ 999) : (dec n).length ≤ 3 := by
  unfold dec
  rw [Lib.decDigits]
  split
  · simp
  · rw [Lib.decDigits]
    split
    · simp
    · rw [Lib.decDigits, dif_pos (by omega)]; simp
end Go.Proofs.YtjengglpbdgmnaaDoor.Math
namespace Go.Proofs.YtjengglpbdgmnaaDoor
open Go Go.RowKit V
set_option linter.unusedVariables false
/-- The library's table of powers of ten. -/
def TabP (w : World) : Prop := Lib.TabIs Tryd.prog w "internal/strconv.uint64pow10" .u64 Lib.pow10Tab
theorem TabP.ext {w w' : World} (h : TabP w) (hx : Ext w w') : TabP w' := by
  have hg : ∃ g, Tryd.prog.globalNamed "internal/strconv.uint64pow10" = some g := by
    unfold TabP Lib.TabIs World.var? at h
    cases hg : Tryd.prog.globalNamed "internal/strconv.uint64pow10" with
    | none => rw [hg] at h; cases h
    | some g => exact ⟨g, rfl⟩
  obtain ⟨g, hg⟩ := hg
  have hlt : g < w.heap.size := by
    unfold TabP Lib.TabIs World.var? at h
    rw [hg] at h
    simp only [Option.bind_some] at h
    rcases Nat.lt_or_ge g w.heap.size with hl | hl
    · exact hl
    · rw [Array.getElem?_eq_none hl] at h; cases h
  exact var?_below hx.below hg hlt h
theorem Ext.drewN (w : World) (k : Nat) : Ext w (w.drewN k) := ⟨rfl, rfl, rfl, Nat.le_refl _, fun _ _ _ => rfl⟩
theorem Ext.grow (w : World) (os : Array Obj) : Ext w (Sort.grow w os) := ⟨rfl, rfl, rfl, by simp, fun k hk _ => by
  unfold Sort.grow
  show (w.heap ++ os)[k]? = _
  rw [Array.getElem?_append_left hk]⟩
theorem formatInt_c (n : Int) (w : World) (htab : TabP w) (h0 : 0 ≤ n) (h1 : n ≤ 1000000000) : Calls Tryd.prog 75 #[.int .i64 n, .int .i64 10] w (Ret fun v w' => v = sv (Math.dec n) ∧ Ext w w') :=
  Calls.mono (Tryd.strconv_FormatInt_10 n (by omega) (by omega) w htab) fun e w' ⟨he, k, os, hw⟩ => ⟨_, he, by
    unfold sv Math.dec Lib.itoa
    rw [if_neg (by omega)], by rw [hw]; exact (Ext.drewN w k).trans (Ext.grow _ os)⟩
end Go.Proofs.YtjengglpbdgmnaaDoor
/- Plain facts: texts of trees. No condition. -/
namespace Go.Proofs.YtjengglpbdgmnaaDoor.Math
open Go.Proofs.YtjengglpbdgmnaaDoor.V
set_option linter.unusedVariables false
/-- How the text of a node begins. -/
def headT (x : Nd) : List UInt8 := if x.pl = 2 then (if x.fo < 0 then [40, 115] else [40, 102] ++ dec x.fo) else [40, 112] ++ dec x.pl
def openT (x : Nd) : List UInt8 := headT x ++ ([32] ++ dec x.p0 ++ [47] ++ dec x.p1)
def textF (z : List Nd) : Nat → Int → List UInt8
 | 0, _ => []
 | f + 1, v => openT (z.getD v.toNat dN) ++ ((z.getD v.toNat dN).ch.map fun c => textF z f c).flatten ++ [41]
def text (z : List Nd) (v : Int) : List UInt8 := textF z z.length v
def textTo (z : List Nd) (v : Int) (i : Nat) : List UInt8 := openT (z.getD v.toNat dN) ++ (((z.getD v.toNat dN).ch.take i).map fun c => text z c).flatten
theorem flat_len {α : Type} (f : α → List UInt8) (B : Nat) : ∀ l : List α, (∀ x ∈ l, (f x).length ≤ B) → ((l.map f).flatten).length ≤ B * l.length
 | [], _ => by simp
 | x :: l, h => by
  have h1 := flat_len f B l fun y hy => h y (List.mem_cons_of_mem _ hy)
  have h2 := h x (List.mem_cons_self ..)
  rw [List.map_cons, List.flatten_cons, List.length_append, List.length_cons, Nat.mul_succ]; omega
def textAt (z : List Nd) : List UInt8 × Int := if isTree z = true then (text z 0, 0) else ([], 1)
end Go.Proofs.YtjengglpbdgmnaaDoor.Math
/- The engine: builders of strings; strings joined. No condition. -/
namespace Go.Proofs.YtjengglpbdgmnaaDoor.V
open Go Go.RowKit
set_option linter.unusedVariables false
set_option linter.unusedSimpArgs false
/-- Strings in a slice. -/
def stK : RK (List UInt8) := ⟨fun l _ => [sv l], fun _ => [], 1⟩
theorem stK.ok : stK.Ok := ⟨fun _ _ => rfl, fun x h v hv => by simp [stK] at hv; subst hv; rfl, by decide⟩
theorem RdR.nil0 {α : Type} {k : RK α} {a : Option Addr} {n : Nat} {hs : Nat → Hd} {xs : List α} {w : World} (h : n = 0) (hx : xs.length = n) : RdR k a n hs xs w := by
  subst h
  have := List.eq_nil_of_length_eq_zero hx
  subst this
  exact RdR.nil k a hs w
/-- A builder that holds bytes. -/
def Bld (T e B b : Nat) (l : List UInt8) : World → Prop := fun w => Lib.IsBuilderF T e B b (Lib.byteCells l) w
theorem Bld.fp {T e B b : Nat} {l : List UInt8} {w : World} (h : Bld T e B b l w) : ∃ g : Nat → Prop, g b ∧ (∀ k, g k → B ≤ k ∧ k < w.heap.size) ∧ (∀ k, g k → k = b ∨ ∃ c fz, w.heap[k]? = some (.cells c e fz)) ∧ St g (Bld T e B b l) w := by
  have key : ∀ p, Lib.BuilderAtF T e B b p (Lib.byteCells l) w → ∃ g : Nat → Prop, g b ∧ (∀ k, g k → B ≤ k ∧ k < w.heap.size) ∧ (∀ k, g k → k = b ∨ ∃ c fz, w.heap[k]? = some (.cells c e fz)) ∧ St g (Lib.BuilderAtF T e B b p (Lib.byteCells l)) w := by
    rintro p ⟨hB, v, hb, hown, hne⟩
    have hlt : b < w.heap.size := (Array.getElem?_eq_some_iff.1 hb).1
    rcases hown.2 with ⟨hv, hn⟩ | ⟨g, cap, cur, fz, hv, hBg, hg, rest⟩
    · refine ⟨fun k => k = b, rfl, fun k hk => by subst hk; exact ⟨hB, hlt⟩, fun k hk => .inl hk, fun w' ha => ⟨hB, v, by rw [ha b rfl]; exact hb, ⟨hown.1, .inl ⟨hv, hn⟩⟩, hne⟩⟩
    · have hgl : g < w.heap.size := (Array.getElem?_eq_some_iff.1 hg).1
      refine ⟨fun k => k = b ∨ k = g, .inl rfl, fun k hk => by rcases hk with rfl | rfl <;> omega, fun k hk => ?_, fun w' ha => ⟨hB, v, by rw [ha b (.inl rfl)]; exact hb, ⟨hown.1, .inr ⟨g, cap, cur, fz, hv, hBg, by rw [ha g (.inr rfl)]; exact hg, rest⟩⟩, hne⟩⟩
      rcases hk with rfl | rfl
      · exact .inl rfl
      · exact .inr ⟨cur, fz, hg⟩
  rcases h with h | h
  · obtain ⟨g, h1, h2, h3, h4⟩ := key _ h
    exact ⟨g, h1, h2, h3, fun w' ha => .inl (h4 w' ha)⟩
  · obtain ⟨g, h1, h2, h3, h4⟩ := key _ h
    exact ⟨g, h1, h2, h3, fun w' ha => .inr (h4 w' ha)⟩
theorem Bld.lt {T e B b : Nat} {l : List UInt8} {w : World} (h : Bld T e B b l w) : b < w.heap.size := by
  obtain ⟨g, h1, h2, _⟩ := h.fp
  exact (h2 b h1).2
theorem Bld.mem {T e B b : Nat} {l : List UInt8} {w : World} {f : Nat → Prop} (h : St f (Bld T e B b l) w) : f b := by
  refine Classical.byContradiction fun hn => ?_
  have hlt := Bld.lt h.out
  have h2 := h { w with heap := w.heap.setIfInBounds b (.map #[] 0) } fun k hk => by
    have : b ≠ k := fun e => hn (e ▸ hk)
    show (w.heap.setIfInBounds b (.map #[] 0))[k]? = _
    rw [Array.getElem?_setIfInBounds_ne this]
  rcases h2 with ⟨_, v, hb, _⟩ | ⟨_, v, hb, _⟩
  · simp [hlt] at hb
  · simp [hlt] at hb
/-- A piece that no builder's buffer meets. -/
def Nu (e : Nat) (φ : World → Prop) : Prop := ∀ f w, St f φ w → ∃ g : Nat → Prop, (∀ k, g k → f k) ∧ St g φ w ∧ ∀ k, g k → ∃ o, w.heap[k]? = some o ∧ ∀ c fz, o ≠ .cells c e fz
def AllNu (e : Nat) : List (World → Prop) → Prop
  | [] => True
  | φ :: L => Nu e φ ∧ AllNu e L
theorem AllNu.nil {e : Nat} : AllNu e [] := trivial
theorem AllNu.cons {e : Nat} {φ : World → Prop} {L : List (World → Prop)} (h : Nu e φ) (k : AllNu e L) : AllNu e (φ :: L) := ⟨h, k⟩
theorem nuB {e b ty : Nat} {cs : List Value} (h : ty ≠ e) : Nu e (blk b ty cs) := fun f w hst =>
  ⟨fun k => k = b, fun k hk => by subst hk; exact blk.mem hst, blk.St _ _ _ hst.out rfl, fun k hk => by subst hk; exact ⟨_, hst.out, fun c fz he => by injection he with _ h2; exact h h2⟩⟩
theorem Own.row {e m n c : Nat} {a : Option Addr} {xs : List Value} {w : World} (h : Own e m a n c xs w) {b : Nat} (hb : fpO a b) : ∃ cur : Array Value, w.heap[b]? = some (.cells cur e (0, 0)) := by
  unfold fpO at hb
  rcases h.2 with ⟨h1, _⟩ | ⟨g', cap, cur, hv, _, hg', _⟩
  · rw [hb] at h1; cases h1
  · rw [hb] at hv; cases hv; exact ⟨cur, hg'⟩
theorem nuR {α : Type} {k : RK α} {e e1 e2 n c : Nat} {a : Option Addr} {hs : Nat → Hd} {xs : List α} (h1 : e1 ≠ e) (h2 : e2 ≠ e) : Nu e (OwnR k e1 e2 a n c hs xs) := fun f w hst =>
  ⟨fpR a hs n, OwnR.mem hst, OwnR.St hst.out fun _ h => h, fun q hq => by
    have ho := hst.out
    rcases hq with hq | ⟨i, hi, hq⟩
    · obtain ⟨cur, hc⟩ := Own.row ho.2.1 hq
      exact ⟨_, hc, fun c fz he => by injection he with _ h3; exact h1 h3⟩
    · have hx : xs[i]? = some (xs[i]'(by rw [ho.1]; exact hi)) := List.getElem?_eq_getElem (by rw [ho.1]; exact hi)
      obtain ⟨cur, hc⟩ := Own.row (ho.2.2.1 i _ hx) hq
      exact ⟨_, hc, fun c fz he => by injection he with _ h3; exact h2 h3⟩⟩
section
variable {w0 : World} {M : Nat → Prop} {L : List (World → Prop)} {w w' : World} {B T e : Nat}
theorem SepL.nu : ∀ {L : List (World → Prop)} {fs : List (Nat → Prop)}, SepL M B T fs L w → AllNu e L → ∃ gs, SepL M B T gs L w ∧ (∀ g ∈ gs, ∃ f ∈ fs, ∀ k, g k → f k) ∧ ∀ g ∈ gs, ∀ k, g k → ∃ o, w.heap[k]? = some o ∧ ∀ c fz, o ≠ .cells c e fz
  | [], [], h, _ => ⟨[], h, (fun _ h => by cases h), (fun _ h => by cases h)⟩
  | _ :: _, [], h, _ => h.elim
  | [], _ :: _, h, _ => h.elim
  | φ :: L, f :: fs, ⟨h1, h2, h3, h4⟩, ⟨n1, n2⟩ => by
    obtain ⟨g, g1, g2, g3⟩ := n1 f w h3
    obtain ⟨gs, k1, k2, k3⟩ := SepL.nu h4 n2
    refine ⟨g :: gs, ⟨fun k hk => h1 k (g1 k hk), fun q hq k hk hqk => ?_, g2, k1⟩, fun q hq => ?_, fun q hq => ?_⟩
    · obtain ⟨f', hf', hs⟩ := k2 q hq
      exact h2 f' hf' k (g1 k hk) (hs k hqk)
    · rcases List.mem_cons.1 hq with rfl | hq
      · exact ⟨f, List.mem_cons_self, g1⟩
      · obtain ⟨f', hf', hs⟩ := k2 q hq
        exact ⟨f', List.mem_cons_of_mem _ hf', hs⟩
    · rcases List.mem_cons.1 hq with rfl | hq
      · exact g3
      · exact k3 q hq
/-- What a builder's methods leave. -/
theorem Sep.wrote {Tb b : Nat} {l l' : List UInt8} (h : Sep w0 M (Bld Tb e w0.heap.size b l :: L) w) (hN : AllNu e L) (hb : Bld Tb e w0.heap.size b l' w') (hB : Below w0.heap.size w w') (hO : Lib.OthersKept e (some b) w w') : Sep w0 M (Bld Tb e w0.heap.size b l' :: L) w' := by
  obtain ⟨h1, fs, h2⟩ := h
  match fs, h2 with
  | f :: fs, ⟨k1, k2, k3, k4⟩ =>
    have hfb := Bld.mem k3
    obtain ⟨gs, g1, g2, g3⟩ := k4.nu hN
    have hkeep : ∀ g ∈ gs, ∀ k, g k → w'.heap[k]? = w.heap[k]? ∧ k ≠ b := fun g hg k hk => by
      obtain ⟨o, ho, hne⟩ := g3 g hg k hk
      have hkb : k ≠ b := fun he => by
        subst he
        obtain ⟨f', hf', hs⟩ := g2 g hg
        exact k2 f' hf' k hfb (hs k hk)
      exact ⟨by rw [ho]; exact hO k o ho (fun he => hkb (Option.some.inj he)) hne, hkb⟩
    obtain ⟨g0, a1, a2, a3, a4⟩ := hb.fp
    have hbs : w0.heap.size ≤ w.heap.size := h1.size
    refine ⟨⟨hB.os.trans h1.os, hB.tape.trans h1.tape, hB.output.trans h1.output, Nat.le_trans h1.size hB.size, fun k hk hm => (hB.block k hk).trans (h1.block k hk hm)⟩, g0 :: gs, fun k hk => ⟨.inl (a2 k hk).1, (a2 k hk).2⟩, fun g hg k hk hgk => ?_, a4, g1.keep hB.size fun g hg k hk => (hkeep g hg k hk).1⟩
    rcases a3 k hk with he | ⟨c, fz, hc⟩
    · exact (hkeep g hg k hgk).2 he
    · obtain ⟨o, ho, hne⟩ := g3 g hg k hgk
      rw [(hkeep g hg k hgk).1, ho] at hc
      exact hne c fz (Option.some.inj hc)
  | [], h => exact h.elim
/-- A new builder. -/
theorem Sep.bld {Tb b : Nat} (j : Nat) (h : Sep w0 none_ L w) (hj : L[j]? = some (blk b Tb [.pointer none, .slice none 0 0])) : Sep w0 none_ (L.set j (Bld Tb e w0.heap.size b [])) w := by
  have hb : w0.heap.size ≤ b := by
    obtain ⟨h1, fs, h2⟩ := h
    obtain ⟨f, hf, hst⟩ := h2.at_ hj
    exact ((h2.fp_lt f (List.mem_of_getElem? hf) b (blk.mem hst)).1).resolve_right fun h => h
  exact h.change j hj fun f hf => ⟨f, fun _ h => .inl h, fun w' ha => .inl ⟨hb, .slice none 0 0, by
    have h1 : blk b Tb [.pointer none, .slice none 0 0] w := hf.out
    unfold blk at h1
    rw [ha b (blk.mem hf)]; exact h1, World.ownsRowF_nil _ _ _ _, by simp [Value.ownBlock]⟩, Upd.refl _ _⟩
end
section
variable {P : Program} {n : Nat} {w0 : World} {M : Nat → Prop} {L : List (World → Prop)} {σ : Fr} {K : Ko} {ops : Array Oper} {S : World → Prop} {r : Sch} {i : Nat}
variable {d : Nat} {t : TypeId} {p : String} {af : Array Edge} {g : Option (Nat × Bool)} {a b : Operand}
theorem byteCells_app (l m : List UInt8) : Lib.byteCells (l ++ m) = Lib.byteCells l ++ Lib.byteCells m := by simp [Lib.byteCells]
theorem strCells_sv (m : List UInt8) : Lib.strCells ⟨m.toArray⟩ = Lib.byteCells m := by simp [Lib.strCells, Lib.byteCells]
/-- What WriteString says. -/
def Wr (P : Program) (f T e : Nat) : Prop := ∀ (B b : Nat) (bs : List Value) (s : ByteArray) (w : World), Lib.IsBuilderF T e B b bs w → bs.length + s.size ≤ 140737488355328 → B ≤ w.heap.size →
  Calls P f #[.pointer (some ⟨b, 0, none⟩), .string s] w fun x w' => x = .returned (.tuple #[.int .i64 s.size, .nilIface]) ∧ (Lib.BuilderAtF T e B b (.pointer (some ⟨b, 0, none⟩)) (bs ++ Lib.strCells s) w' ∧ Below B w w' ∧ Lib.OthersKept e (some b) w w')
def Stg (P : Program) (f T e : Nat) : Prop := ∀ (B b : Nat) (l : List UInt8) (w : World), Lib.IsBuilderF T e B b (Lib.byteCells l) w → B ≤ w.heap.size →
  Calls P f #[.pointer (some ⟨b, 0, none⟩)] w fun x w' => x = .returned (.string ⟨l.toArray⟩) ∧ (Lib.IsBuilderF T e B b (Lib.byteCells l) w' ∧ Below B w w' ∧ Lib.OthersKept e (some b) w w')
theorem bWrite {f T e bk : Nat} {args : Array Operand} {tys : Array TypeId} {l m : List UInt8} (hw : Wr P f T e) (hN : AllNu e L) (hl : l.length + m.length ≤ 140737488355328) (hf : ∀ args w, (callFunc f args).run P w = .ok (.enter f args) w) (hS : ∀ w, Sep w0 M (Bld T e w0.heap.size bk (l ++ m) :: L) w → S w)
    (ho : ops[i]? = some ⟨some d, .call ⟨.value (.func f), args, tys⟩, t, p, af, g⟩) (hg : go ops σ g) (ha : (args.toList.map (ev σ)) = [.pointer (some ⟨bk, 0, none⟩), sv m])
    (h : RG P n w0 M ops S (Bld T e w0.heap.size bk (l ++ m) :: L) r (upd σ d (.tuple #[.int .i64 m.length, .nilIface])) K) : RG P n w0 M ops S (Bld T e w0.heap.size bk l :: L) (.op .l i r) σ K :=
  rL1 hS ho hg (fun w hs => call_opw (R := fun v w' => v = .tuple #[.int .i64 m.length, .nilIface] ∧ Sep w0 M (Bld T e w0.heap.size bk (l ++ m) :: L) w') hf (by
    rw [ha]
    exact Calls.mono (hw w0.heap.size bk (Lib.byteCells l) ⟨m.toArray⟩ w (hs.at_ 0 rfl) (by simpa [Lib.byteCells, ByteArray.size] using hl) hs.base_le) fun x w' ⟨he, hb, hB, hO⟩ => ⟨_, he, by simp [ByteArray.size], hs.wrote hN (by
      rw [strCells_sv, ← byteCells_app] at hb; exact .inr hb) hB hO⟩) fun v w' ⟨he, hs'⟩ => by subst he; exact ⟨hs', rfl⟩) h
theorem bString {f T e bk : Nat} {args : Array Operand} {tys : Array TypeId} {l : List UInt8} (hw : Stg P f T e) (hN : AllNu e L) (hf : ∀ args w, (callFunc f args).run P w = .ok (.enter f args) w) (hS : ∀ w, Sep w0 M (Bld T e w0.heap.size bk l :: L) w → S w)
    (ho : ops[i]? = some ⟨some d, .call ⟨.value (.func f), args, tys⟩, t, p, af, g⟩) (hg : go ops σ g) (ha : (args.toList.map (ev σ)) = [.pointer (some ⟨bk, 0, none⟩)])
    (h : RG P n w0 M ops S (Bld T e w0.heap.size bk l :: L) r (upd σ d (sv l)) K) : RG P n w0 M ops S (Bld T e w0.heap.size bk l :: L) (.op .l i r) σ K :=
  rL1 hS ho hg (fun w hs => call_opw (R := fun v w' => v = sv l ∧ Sep w0 M (Bld T e w0.heap.size bk l :: L) w') hf (by
    rw [ha]
    exact Calls.mono (hw w0.heap.size bk l w (hs.at_ 0 rfl) hs.base_le) fun x w' ⟨he, hb, hB, hO⟩ => ⟨_, he, rfl, hs.wrote hN hb hB hO⟩) fun v w' ⟨he, hs'⟩ => by subst he; exact ⟨hs', rfl⟩) h
end
end Go.Proofs.YtjengglpbdgmnaaDoor.V
namespace Go.Proofs.YtjengglpbdgmnaaDoor
open Go Go.RowKit V
theorem wr_c : Wr Tryd.prog 36 66 5 := fun B b bs s w h hl hB => Any.Builder_WriteString_k { Tryd.lays156 with } Tryd.Builder_Extra_156 B b bs s w h hl hB
theorem stg_c : Stg Tryd.prog 38 66 5 := fun B b l w h hB => Tryd.Builder_String_any_k B b l w h hB
/-- Strings that are joined. -/
theorem join_c (ax : Option Addr) (nx cx : Nat) (Hx : Nat → Hd) (x : List (List UInt8)) (by_ : List UInt8) (w : World) (rx : RdR stK ax nx Hx x w) (hc : nx ≤ cx) (hn : nx ≤ 1000000) (hl : (Lib.join x by_).length ≤ 140737488355328) : Calls Tryd.prog 66 #[.slice ax nx cx, sv by_] w (Ret fun v w' => v = sv (Lib.join x by_) ∧ Ext w w') := by
  rcases Nat.eq_zero_or_pos nx with h0 | h0
  · subst h0
    have hx : x = [] := List.eq_nil_of_length_eq_zero rx.1
    subst hx
    exact Calls.mono (Tryd.strings_Join_none ax cx ⟨by_.toArray⟩ w) fun e w' ⟨he, hw⟩ => ⟨_, he, rfl, by subst hw; exact Upd.refl _ _⟩
  · have hlen := rx.1
    obtain ⟨⟨b, off, ha, hc0⟩, _⟩ := rx.2.2 0 (x[0]'(by omega)) (List.getElem?_eq_getElem (by omega))
    subst ha
    have hb : b < w.heap.size := by
      have h1 := hc0 0 _ rfl
      rcases Nat.lt_or_ge b w.heap.size with h | h
      · exact h
      · simp [World.cell?, Array.getElem?_eq_none h] at h1
    have hmap : (x.map fun l => (⟨l.toArray⟩ : ByteArray)).map (·.data.toList) = x := by
      rw [List.map_map]; conv => rhs; rw [← List.map_id x]
      exact List.map_congr_left fun _ _ => rfl
    have hcalls := Tryd.strings_Join b off cx (x.map fun l => ⟨l.toArray⟩) ⟨by_.toArray⟩ w (fun j y hy => by
      rw [List.getElem?_map] at hy
      cases hxj : x[j]? with
      | none => rw [hxj] at hy; cases hy
      | some l =>
        rw [hxj] at hy
        cases hy
        obtain ⟨⟨b', off', ha', hc'⟩, _⟩ := rx.2.2 j l hxj
        cases ha'
        have := hc' 0 _ rfl
        simpa [stK, sv] using this) hb (by simp; omega) (by simp; omega) (by rw [hmap]; simpa using hl)
    rw [hmap] at hcalls
    have he : (x.map fun l => (⟨l.toArray⟩ : ByteArray)).length = nx := by simp [hlen]
    rw [he] at hcalls
    exact Calls.mono hcalls fun e w' ⟨he, hw⟩ => ⟨_, he, by simp [sv], Ext.of_below hw⟩
end Go.Proofs.YtjengglpbdgmnaaDoor
/- Plain facts: texts of strategies. No condition. -/
namespace Go.Proofs.YtjengglpbdgmnaaDoor.Math
open Go.Proofs.YtjengglpbdgmnaaDoor.V
set_option linter.unusedVariables false
theorem join_snoc {xs : List (List UInt8)} {x sep : List UInt8} (h : xs ≠ []) : Lib.join (xs ++ [x]) sep = Lib.join xs sep ++ sep ++ x := by
  cases xs with
  | nil => exact absurd rfl h
  | cons y r =>
    rw [List.cons_append, Lib.join_cons, Lib.join_cons]
    simp [Lib.joinTail, List.append_assoc]
/-- Numbers in decimal, joined. -/
def joinD (by_ : List UInt8) (zs : List Int) : List UInt8 := Lib.join (zs.map dec) by_
def joinTo (by_ : List UInt8) (zs : List Int) (i : Nat) : List UInt8 := joinD by_ (zs.take i)
theorem joinTo_0 (by_ : List UInt8) (zs : List Int) : joinTo by_ zs 0 = [] := by unfold joinTo joinD; rw [List.take_zero]; rfl
theorem joinTo_1 {by_ : List UInt8} {zs : List Int} {i : Nat} (h : i < zs.length) (h0 : i = 0) : joinTo by_ zs (i + 1) = dec (zs.getD i 0) := by
  subst h0
  unfold joinTo joinD
  rw [take_step 0 h, List.take_zero, List.nil_append, List.map_cons, List.map_nil, Lib.join_one]
theorem joinTo_s {by_ : List UInt8} {zs : List Int} {i : Nat} (h : i < zs.length) (h0 : 0 < i) : joinTo by_ zs (i + 1) = joinTo by_ zs i ++ by_ ++ dec (zs.getD i 0) := by
  unfold joinTo joinD
  rw [take_step 0 h, List.map_append, List.map_cons, List.map_nil, join_snoc]
  intro hn
  have := congrArg List.length hn
  rw [List.length_map, List.length_take, List.length_nil] at this
  omega
theorem joinTo_z {by_ : List UInt8} {zs : List Int} {i : Nat} (h : i < zs.length) (h0 : i = 0) : joinTo by_ zs (i + 1) = joinTo by_ zs i ++ dec (zs.getD i 0) := by
  rw [joinTo_1 h h0]; subst h0; rw [joinTo_0]; rfl
theorem joinTo_end {by_ : List UInt8} {zs : List Int} {i : Nat} (h : zs.length ≤ i) : joinTo by_ zs i = joinD by_ zs := by unfold joinTo; rw [List.take_of_length_le h]
theorem joinTo_len {zs : List Int} (hb : ∀ x ∈ zs, 0 ≤ x ∧ x ≤ 999) : ∀ i, i ≤ zs.length → (joinTo [44] zs i).length ≤ 4 * i
  | 0, _ => by rw [joinTo_0]; exact Nat.le_refl _
  | i + 1, hi => by
    have ih := joinTo_len hb i (by omega)
    have hd := dec_len3 (hb _ (getD_mem 0 (show i < zs.length by omega))).2
    rcases Nat.eq_zero_or_pos i with h0 | h0
    · rw [joinTo_1 (by omega) h0]; omega
    · rw [joinTo_s (by omega) h0, List.length_append, List.length_append, List.length_singleton]; omega
theorem joinTo_len7 {zs : List Int} (hb : ∀ x ∈ zs, 0 ≤ x ∧ x ≤ 999) : ∀ i, i ≤ zs.length → (joinTo [47] zs i).length ≤ 4 * i
  | 0, _ => by rw [joinTo_0]; exact Nat.le_refl _
  | i + 1, hi => by
    have ih := joinTo_len7 hb i (by omega)
    have hd := dec_len3 (hb _ (getD_mem 0 (show i < zs.length by omega))).2
    rcases Nat.eq_zero_or_pos i with h0 | h0
    · rw [joinTo_1 (by omega) h0]; omega
    · rw [joinTo_s (by omega) h0, List.length_append, List.length_append, List.length_singleton]; omega
theorem joinD_len {zs : List Int} {by_ : List UInt8} (hy : by_ = [44] ∨ by_ = [47]) (hb : ∀ x ∈ zs, 0 ≤ x ∧ x ≤ 999) : (joinD by_ zs).length ≤ 4 * zs.length := by
  rcases hy with rfl | rfl
  · have := joinTo_len hb zs.length (Nat.le_refl _); rwa [joinTo_end (Nat.le_refl _)] at this
  · have := joinTo_len7 hb zs.length (Nat.le_refl _); rwa [joinTo_end (Nat.le_refl _)] at this
/-- The strings that are joined, so far. -/
def strs (zs : List Int) (i : Nat) : List (List UInt8) := mapR (fun j => if j < i then dec (zs.getD j 0) else []) zs.length
theorem strs_len (zs : List Int) (i : Nat) : (strs zs i).length = zs.length := mapR_len _ _
theorem strs_0 {zs : List Int} {n : Nat} (h : zs.length = n) : List.replicate n [] = strs zs 0 := by
  subst h
  unfold strs mapR
  refine List.ext_getElem (by simp) fun j h1 h2 => by simp
theorem strs_s {zs : List Int} {i : Nat} (h : i < zs.length) : (strs zs i).set i (dec (zs.getD i 0)) = strs zs (i + 1) := by
  refine List.ext_getElem (by rw [List.length_set, strs_len, strs_len]) fun j h1 h2 => ?_
  rw [List.getElem_set]
  simp only [strs, mapR, List.getElem_map, List.getElem_range]
  by_cases hj : i = j
  · subst hj; simp
  · rw [if_neg hj]
    by_cases h3 : j < i
    · rw [if_pos h3, if_pos (by omega)]
    · rw [if_neg h3, if_neg (by omega)]
theorem strs_end {zs : List Int} {i : Nat} (h : zs.length ≤ i) : strs zs i = zs.map dec := by
  refine List.ext_getElem (by rw [strs_len, List.length_map]) fun j h1 h2 => ?_
  rw [strs_len] at h1
  simp only [strs, mapR, List.getElem_map, List.getElem_range]
  rw [if_pos (by omega)]
  simp [List.getD, List.getElem?_eq_getElem h1]
/-- A line of a strategy's text. -/
def stLine (s r : List Int) : List UInt8 := dec (s.getD 0 0) ++ [47] ++ dec (s.getD 1 0) ++ [58] ++ joinD [44] r ++ [10]
theorem joinD_2 {s : List Int} (h : s.length = 2) : joinD [47] s = dec (s.getD 0 0) ++ [47] ++ dec (s.getD 1 0) := by
  match s, h with
  | [a, b], _ => simp [joinD, Lib.join_cons, Lib.joinTail]
theorem stLine_i {s : List Int} (h : s.length = 2) (r : List Int) : stLine s r = joinD [47] s ++ [58] ++ joinD [44] r ++ [10] := by
  unfold stLine; rw [joinD_2 h]
def stTo (ss ps : List (List Int)) (i : Nat) : List UInt8 := ((List.range i).map fun j => stLine (ss.getD j []) (ps.getD j [])).flatten
theorem stTo_s (ss ps : List (List Int)) (i : Nat) : stTo ss ps (i + 1) = stTo ss ps i ++ stLine (ss.getD i []) (ps.getD i []) := by
  unfold stTo; rw [List.range_succ, List.map_append, List.flatten_append]; simp
theorem stApp (t : List UInt8) (s r : List Int) : t ++ dec (s.getD 0 0) ++ [47] ++ dec (s.getD 1 0) ++ [58] ++ joinD [44] r ++ [10] = t ++ stLine s r := by
  unfold stLine; simp only [List.append_assoc]
def stText (z : List Nd) (ws vs : List (List Int)) (pl : Int) (ps : List (List Int)) : List UInt8 × Int :=
  if isStrat z ws vs pl ps = true then (stTo (sets z ws.length pl) ps (sets z ws.length pl).length, 0) else ([], 1)
theorem stText_0 {z : List Nd} {ws vs : List (List Int)} {pl : Int} {ps : List (List Int)} {k n : Nat} (h : isStrat z ws vs pl ps = true) (hk : ws.length = k) (hn : (sets z k pl).length = n) : stText z ws vs pl ps = (stTo (sets z k pl) ps n, 0) := by subst hk; subst hn; exact if_pos h
theorem stText_1 {z : List Nd} {ws vs : List (List Int)} {pl : Int} {ps : List (List Int)} (h : isStrat z ws vs pl ps = false) : stText z ws vs pl ps = ([], 1) := if_neg (by rw [h]; decide)
/-- What a line is made of. -/
theorem line_ok {z : List Nd} {ws vs : List (List Int)} {pl : Int} {ps : List (List Int)} {k : Nat} (h : isStrat z ws vs pl ps = true) (hk : ws.length = k) {i : Nat} (hi : i < (sets z k pl).length) :
    i < ps.length ∧ ((sets z k pl).getD i []).length = 2 ∧ (∀ x ∈ (sets z k pl).getD i [], 0 ≤ x ∧ x ≤ 999) ∧ (ps.getD i []).length ≤ 4 ∧ ∀ x ∈ ps.getD i [], 0 ≤ x ∧ x ≤ 999 := by
  subst hk
  obtain ⟨hg, hp, hps⟩ := isStrat_ok h
  have hG := isGame_ok hg
  have hT := isTree_ok hG.1
  have hl := parts_len hps
  have hs := sets_at hi
  obtain ⟨n, c, hn, hc, he⟩ := setsOf_at (xs := nodesOf z pl) (k := ws.length) (i := i) hi
  have he' : (sets z ws.length pl).getD i [] = [n, c] := he
  have hpr := part_row (parts_at hps hi)
  have hw : wide z ((sets z ws.length pl).getD i []) ≤ 4 := wide_le hg hs.2.1
  have hrl := row_len hpr.1
  have hz := hT.1
  have hk6 := hG.2.1
  rw [he'] at hs
  refine ⟨by omega, by rw [he']; rfl, fun x hx => ?_, by omega, fun x hx => ?_⟩
  · rw [he'] at hx
    have h1 : (0 ≤ n ∧ n < z.length) := hs.2.1
    simp only [List.mem_cons, List.not_mem_nil, or_false] at hx
    rcases hx with rfl | rfl <;> omega
  · have h2 := hpr.1
    simp only [rowB, Bool.and_eq_true, decide_eq_true_eq] at h2
    have := List.all_eq_true.1 h2.2 x hx
    simp only [inB, decide_eq_true_eq] at this
    omega
theorem stLine_len {z : List Nd} {ws vs : List (List Int)} {pl : Int} {ps : List (List Int)} {k : Nat} (h : isStrat z ws vs pl ps = true) (hk : ws.length = k) {i : Nat} (hi : i < (sets z k pl).length) : (stLine ((sets z k pl).getD i []) (ps.getD i [])).length ≤ 26 := by
  have hl := line_ok h hk hi
  rw [stLine_i hl.2.1]
  have h1 := joinD_len (.inr rfl) hl.2.2.1
  have h2 := joinD_len (.inl rfl) hl.2.2.2.2
  simp only [List.length_append, List.length_cons, List.length_nil]
  omega
theorem stTo_len {z : List Nd} {ws vs : List (List Int)} {pl : Int} {ps : List (List Int)} {k : Nat} (h : isStrat z ws vs pl ps = true) (hk : ws.length = k) : ∀ {i : Nat}, i ≤ (sets z k pl).length → (stTo (sets z k pl) ps i).length ≤ 26 * i
  | 0, _ => Nat.le_refl _
  | i + 1, hi => by
    have h1 := stLine_len h hk (i := i) (by omega)
    have h2 := stTo_len h hk (i := i) (by omega)
    rw [stTo_s, List.length_append]; omega
end Go.Proofs.YtjengglpbdgmnaaDoor.Math
/- Contracts of texts of trees. Their conditions stand in each. -/
namespace Go.Proofs.YtjengglpbdgmnaaDoor
open Go Go.RowKit V
set_option linter.unusedVariables false
set_option linter.unusedSimpArgs false
set_option maxRecDepth 100000
theorem bsl22_1 (v0 : Value) (h0 : v0.cells = #[v0]) : ∀ w, (Instr.buildSlice 22 1 ([(0, v0)] : List (Nat × Value)).toArray).run Tryd.prog w = .ok (.slice (some ⟨w.heap.size, 0, none⟩) 1 1) (w.alloc (.cells ([v0] : List Value).toArray 5)) := by
 intro w; simp [Instr.buildSlice, Instr.fill, Tryd.zeroValue5, Tryd.runUnderlying22, Tryd.sizeOf5, Value.cells_int, newRow, show Array.range 1 = #[0] from by decide, h0]
theorem impl_decimal_c (n : Int) (w : World) (rtab : TabP w) (h0 : 0 ≤ n) (h1 : n ≤ 999) :
  Calls Tryd.prog 65 #[.int .i64 n] w (Ret fun v w' => v = sv (Math.dec n) ∧ Ext w w') := by
 have ktab : Kn w none_ [] (TabP) := fun w' hs => rtab.ext hs.upd
 refine fn (M := none_) (rs := [.tmp 2]) Tryd.func65 rfl Tryd.ntmps65 rfl rfl (Sep.start _ _) ?_
 refine hSeq ?_
 refine hReg (sq 0 sz) (by kernel_rfl) ?_
 refine asn (v := sv []) rfl rfl rfl ?_
 refine rNil ?_
 refine qSeq rfl ?_
 refine hSeq ?_
 refine hReg (sq 0 (sl 1 (sq 2 sz))) (by kernel_rfl) ?_
 refine mvI rfl rfl rfl ?_
 refine callP (v := sv (Math.dec n)) Tryd.call75 trv rfl rfl (fun w hs => formatInt_c _ w (ktab w hs) (by omega) (by omega)) ?_
 refine asn (v := sv (Math.dec n)) rfl rfl rfl ?_
 refine rNil ?_
 refine qSeq rfl ?_
 refine hRet ?_
 exact fun w hs => ⟨[sv (Math.dec n)], ⟨rfl, trivial⟩, ⟨rfl, hs.upd⟩⟩
theorem spec_l01Dec_c_r (kk_ : Nat) : ∀ (n : Int) (w : World), n.toNat = kk_ → (0 ≤ n) → (n ≤ 999) → Calls Tryd.prog 40 #[.int .i64 n] w (Ret fun v w' => v = sv (Math.dec n) ∧ Ext w w') := by
 induction kk_ using Nat.strongRecOn with
 | _ kk_ ih =>
  intro n w hK h0 h1
  refine fn (M := none_) (rs := [.tmp 2]) Tryd.func40 rfl Tryd.ntmps40 rfl rfl (Sep.start _ _) ?_
  refine hSeq ?_
  refine hReg (sq 0 sz) (by kernel_rfl) ?_
  refine asn (v := sv []) rfl rfl rfl ?_
  refine rNil ?_
  refine qSeq rfl ?_
  refine hSeq ?_
  refine hSeq ?_
  refine hReg (sq 0 (sq 1 sz)) (by kernel_rfl) ?_
  refine mvI rfl rfl rfl ?_
  refine lss rfl rfl rfl rfl ?_
  refine rNil ?_
  refine qSeq rfl ?_
  refine hIfD rfl (fun c1 => ?_) (fun c1 => ?_)
  ·
   replace c1 : n < 10 := c1
   refine hSeq ?_
   refine hReg (sq 0 (sq 1 (sq 2 (sl 3 (sl 4 (sq 5 sz)))))) (by kernel_rfl) ?_
   refine mvI rfl rfl rfl ?_
   refine add rfl rfl rfl rfl (by omega) ?_
   refine cnvU8 Tryd.runUnderlying2 Tryd.runUnderlying5 rfl rfl rfl (by omega) ?_
   refine bsl trv1 rfl rfl rfl (bsl22_1 (.int .u8 _) rfl) (fun bkl1 hbkl1 => ?_)
   refine cnvStr [(48 + n)] 0 rfl rfl rfl Tryd.underlying22 Tryd.underlying5 Tryd.underlying9 trv rfl rfl rfl ?_
   refine asn (v := sv (([(48 + n)].map fun z => UInt8.ofNat z.toNat))) rfl rfl rfl ?_
   refine rNil ?_
   refine qSeq rfl ?_
   refine hRet ?_
   exact fun w hs => ⟨[sv (([(48 + n)].map fun z => UInt8.ofNat z.toNat))], ⟨rfl, trivial⟩, ⟨by exact vS (Math.dec_small h0 c1).symm, hs.upd⟩⟩
  ·
   replace c1 : ¬ (n < 10) := c1
   refine hSkip ?_
   refine qSeq rfl ?_
   refine hSeq ?_
   refine hDraw (Ls := []) (by kernel_rfl) (sq 0 (sq 1 (sq 3 (sq 4 (sq 5 (sq 6 (.alt (sl 2 (sl 7 (sl 8 (sq 9 (sq 10 sz))))) (sl 7 (.alt (sl 2 (sl 8 (sq 9 (sq 10 sz)))) (sl 8 (sl 2 (sq 9 (sq 10 sz))))))))))))) (by kernel_rfl) .slnil ?_
   refine mvI rfl rfl rfl ?_
   refine quo rfl rfl rfl rfl (by omega) ?_
   refine mvI rfl rfl rfl ?_
   refine rem rfl rfl rfl rfl (by omega) ?_
   refine add rfl rfl rfl rfl (by omega) ?_
   refine cnvU8 Tryd.runUnderlying2 Tryd.runUnderlying5 rfl rfl rfl (by omega) ?_
   refine rAlt ?_ ?_
   ·
    refine callP (v := sv ((Math.dec (n / 10)))) Tryd.call40 (fun _ h => h.pick []) rfl rfl (fun w hs => ih _ (by omega) _ w rfl (by omega) (by omega)) ?_
    have hslq1 := show (Math.dec (n / 10)).length ≤ 3 from Math.dec_len3 (by omega)
    refine bsl (fun _ _ h => h.pick []) rfl rfl rfl (bsl22_1 (.int .u8 _) rfl) (fun bkl2 hbkl2 => ?_)
    refine cnvStr [(48 + (n % 10))] 0 rfl rfl rfl Tryd.underlying22 Tryd.underlying5 Tryd.underlying9 (fun _ h => h.pick []) rfl rfl rfl ?_
    refine strAdd rfl rfl rfl rfl (by first | (simp only [List.length_append, List.length_cons, List.length_nil, List.length_map]; omega) | omega) ?_
    refine asn (v := sv (((Math.dec (n / 10)) ++ ([(48 + (n % 10))].map fun z => UInt8.ofNat z.toNat)))) rfl rfl rfl ?_
    refine rNil ?_
    refine qSeq rfl ?_
    refine hRet ?_
    exact fun w hs => ⟨[sv (((Math.dec (n / 10)) ++ ([(48 + (n % 10))].map fun z => UInt8.ofNat z.toNat)))], ⟨rfl, trivial⟩, ⟨by exact vS (Math.dec_step c1).symm, hs.upd⟩⟩
   ·
    refine bsl (fun _ _ h => h.pick []) rfl rfl rfl (bsl22_1 (.int .u8 _) rfl) (fun bkl3 hbkl3 => ?_)
    refine rAlt ?_ ?_
    ·
     refine callP (v := sv ((Math.dec (n / 10)))) Tryd.call40 (fun _ h => h.pick []) rfl rfl (fun w hs => ih _ (by omega) _ w rfl (by omega) (by omega)) ?_
     have hslq2 := show (Math.dec (n / 10)).length ≤ 3 from Math.dec_len3 (by omega)
     refine cnvStr [(48 + (n % 10))] 0 rfl rfl rfl Tryd.underlying22 Tryd.underlying5 Tryd.underlying9 (fun _ h => h.pick []) rfl rfl rfl ?_
     refine strAdd rfl rfl rfl rfl (by first | (simp only [List.length_append, List.length_cons, List.length_nil, List.length_map]; omega) | omega) ?_
     refine asn (v := sv (((Math.dec (n / 10)) ++ ([(48 + (n % 10))].map fun z => UInt8.ofNat z.toNat)))) rfl rfl rfl ?_
     refine rNil ?_
     refine qSeq rfl ?_
     refine hRet ?_
     exact fun w hs => ⟨[sv (((Math.dec (n / 10)) ++ ([(48 + (n % 10))].map fun z => UInt8.ofNat z.toNat)))], ⟨rfl, trivial⟩, ⟨by exact vS (Math.dec_step c1).symm, hs.upd⟩⟩
    ·
     refine cnvStr [(48 + (n % 10))] 0 rfl rfl rfl Tryd.underlying22 Tryd.underlying5 Tryd.underlying9 (fun _ h => h.pick []) rfl rfl rfl ?_
     refine callP (v := sv ((Math.dec (n / 10)))) Tryd.call40 (fun _ h => h.pick []) rfl rfl (fun w hs => ih _ (by omega) _ w rfl (by omega) (by omega)) ?_
     have hslq3 := show (Math.dec (n / 10)).length ≤ 3 from Math.dec_len3 (by omega)
     refine strAdd rfl rfl rfl rfl (by first | (simp only [List.length_append, List.length_cons, List.length_nil, List.length_map]; omega) | omega) ?_
     refine asn (v := sv (((Math.dec (n / 10)) ++ ([(48 + (n % 10))].map fun z => UInt8.ofNat z.toNat)))) rfl rfl rfl ?_
     refine rNil ?_
     refine qSeq rfl ?_
     refine hRet ?_
     exact fun w hs => ⟨[sv (((Math.dec (n / 10)) ++ ([(48 + (n % 10))].map fun z => UInt8.ofNat z.toNat)))], ⟨rfl, trivial⟩, ⟨by exact vS (Math.dec_step c1).symm, hs.upd⟩⟩
theorem spec_l01Dec_c (n : Int) (w : World) (h0 : 0 ≤ n) (h1 : n ≤ 999) :
  Calls Tryd.prog 40 #[.int .i64 n] w (Ret fun v w' => v = sv (Math.dec n) ∧ Ext w w') := spec_l01Dec_c_r _ n w rfl h0 h1
end Go.Proofs.YtjengglpbdgmnaaDoor
