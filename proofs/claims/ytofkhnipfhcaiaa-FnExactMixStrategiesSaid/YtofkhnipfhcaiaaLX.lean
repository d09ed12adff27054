/- Contracts of mixed strategies. Their conditions stand in each. -/
import Derived.Test.YtofkhnipfhcaiaaEngC
import Derived.Test.YtofkhnipfhcaiaaTree
import Derived.Test.YtofkhnipfhcaiaaParts
import Derived.Test.YtofkhnipfhcaiaaWay
import Derived.Test.YtofkhnipfhcaiaaGame
import Derived.Test.YtofkhnipfhcaiaaSets
import Derived.Test.YtofkhnipfhcaiaaHigh
import Derived.Test.YtofkhnipfhcaiaaUni
import Derived.Test.YtofkhnipfhcaiaaMath
import Derived.Test.YtofkhnipfhcaiaaVal
import Derived.Test.YtofkhnipfhcaiaaVal2
import Derived.Test.YtofkhnipfhcaiaaVal3
import Derived.Test.YtofkhnipfhcaiaaL1
import Derived.Test.YtofkhnipfhcaiaaL2
import Derived.Test.YtofkhnipfhcaiaaL3
import Derived.Test.YtofkhnipfhcaiaaL4
import Derived.Test.YtofkhnipfhcaiaaL5
import Derived.Test.YtofkhnipfhcaiaaL6
import Derived.Test.YtofkhnipfhcaiaaLP
import Derived.Test.YtofkhnipfhcaiaaRows
namespace Go.Proofs.Ytofkhnipfhcaiaa
open Go Go.RowKit V
set_option linter.unusedVariables false
set_option linter.unusedSimpArgs false
set_option maxRecDepth 100000

theorem bld40   : ∀ w, (Instr.build 40 ([] : List (Nat × Value)).toArray).run Try.prog w = .ok (.agg ([.int .i64 0, .slice none 0 0] : List Value).toArray) w := by
  intro w; simp [Instr.build, Instr.fill, Try.zeroValue40, Try.runUnderlying40, aggCells, Try.sizeOf2, Try.sizeOf25]
theorem bld40_0 (v0 : Value) (h0 : v0.cells = #[v0]) : ∀ w, (Instr.build 40 ([(0, v0)] : List (Nat × Value)).toArray).run Try.prog w = .ok (.agg ([v0, .slice none 0 0] : List Value).toArray) w := by
  intro w; simp [Instr.build, Instr.fill, Try.zeroValue40, Try.runUnderlying40, aggCells, Try.sizeOf2, Try.sizeOf25, h0]
theorem bld40_0_1 (v0 v1 : Value) (h0 : v0.cells = #[v0]) (h1 : v1.cells = #[v1]) : ∀ w, (Instr.build 40 ([(0, v0), (1, v1)] : List (Nat × Value)).toArray).run Try.prog w = .ok (.agg ([v0, v1] : List Value).toArray) w := by
  intro w; simp [Instr.build, Instr.fill, Try.zeroValue40, Try.runUnderlying40, aggCells, Try.sizeOf2, Try.sizeOf25, h0, h1]

set_option maxHeartbeats 4000000 in
theorem impl_MixStrategies_c (az : Option Addr) (nz : Nat) (cz : Nat) (Hz : Nat → Hd) (z : List Nd) (aws : Option Addr) (nws : Nat) (cws : Nat) (Hws : Nat → Hd) (ws : List (List Int)) (avs : Option Addr) (nvs : Nat) (cvs : Nat) (Hvs : Nat → Hd) (vs : List (List Int)) (pl : Int) (aps : Option Addr) (nps : Nat) (cps : Nat) (Hps : Nat → Hd) (ps : List (List Int)) (ql : Int) (aqs : Option Addr) (nqs : Nat) (cqs : Nat) (Hqs : Nat → Hd) (qs : List (List Int)) (n : Int) (w : World) (rz : RdR ndK az nz Hz z w) (rws : RdR maK aws nws Hws ws w) (rvs : RdR maK avs nvs Hvs vs w) (rps : RdR maK aps nps Hps ps w) (rqs : RdR maK aqs nqs Hqs qs w) :
    Calls Try.prog 19 #[.agg #[.slice az nz cz, .slice aws nws cws, .slice avs nvs cvs], .agg #[.int .i64 pl, .slice aps nps cps], .agg #[.int .i64 ql, .slice aqs nqs cqs], .int .i64 n] w (Ret fun v w' => ∃ x : Int × Option Addr × Nat × Nat × (Nat → Hd) × List (List Int) × Int, v = .tuple #[.agg #[.int .i64 x.1, .slice x.2.1 x.2.2.1 x.2.2.2.1], .int .i64 x.2.2.2.2.2.2] ∧ (x.1 = (Math.mixAt z ws vs pl ps ql qs n).1.1 ∧ x.2.2.2.2.2.1 = (Math.mixAt z ws vs pl ps ql qs n).1.2 ∧ x.2.2.2.2.2.2 = (Math.mixAt z ws vs pl ps ql qs n).2) ∧ Sep w none_ [OwnR maK 53 2 x.2.1 x.2.2.1 x.2.2.2.1 x.2.2.2.2.1 x.2.2.2.2.2.1] w') := by
  have kz : Kn w none_ [] (RdR ndK az nz Hz z) := fun w' hs => rz.ext hs.upd
  have lz : z.length = nz := rz.1
  have mz : nz ≤ 9223372036854775807 := rz.2.1
  have kws : Kn w none_ [] (RdR maK aws nws Hws ws) := fun w' hs => rws.ext hs.upd
  have lws : ws.length = nws := rws.1
  have mws : nws ≤ 9223372036854775807 := rws.2.1
  have kvs : Kn w none_ [] (RdR maK avs nvs Hvs vs) := fun w' hs => rvs.ext hs.upd
  have lvs : vs.length = nvs := rvs.1
  have mvs : nvs ≤ 9223372036854775807 := rvs.2.1
  have kps : Kn w none_ [] (RdR maK aps nps Hps ps) := fun w' hs => rps.ext hs.upd
  have lps : ps.length = nps := rps.1
  have mps : nps ≤ 9223372036854775807 := rps.2.1
  have kqs : Kn w none_ [] (RdR maK aqs nqs Hqs qs) := fun w' hs => rqs.ext hs.upd
  have lqs : qs.length = nqs := rqs.1
  have mqs : nqs ≤ 9223372036854775807 := rqs.2.1
  refine fn (M := none_) (rs := [.cell 8 40, .tmp 9]) Try.func19 rfl Try.ntmps19 rfl rfl (Sep.start _ _) ?_
  refine hSeq ?_
  refine hReg (sl 0 (sl 1 (sl 2 (sl 3 (sq 4 sz))))) (by kernel_rfl) ?_
  refine box trv1 rfl rfl rfl rfl (fun bkb1 hbkb1 => ?_)
  refine box trv1 rfl rfl rfl rfl (fun bkb2 hbkb2 => ?_)
  refine box trv1 rfl rfl rfl rfl (fun bkb3 hbkb3 => ?_)
  refine alc Try.zeroValue40 rfl trv1 rfl rfl (fun bka4 hbka4 => ?_)
  refine asI rfl rfl rfl ?_
  refine rNil ?_
  refine qSeq rfl ?_
  refine hSeq ?_
  refine hSeq ?_
  refine hReg (sl 0 (sl 1 (sl 2 (sq 3 (sq 4 (sl 5 (sl 6 (sl 7 (sq 8 (sq 9 sz)))))))))) (by kernel_rfl) ?_
  refine ldAl Try.isAgg38 Try.sizeOf38 (cBs 3 rfl) trv rfl rfl rfl rfl ?_
  refine ldAl Try.isAgg40 Try.sizeOf40 (cBs 2 rfl) trv rfl rfl rfl rfl ?_
  refine callP (v := .bool (Math.isStrat z ws vs pl ps)) Try.call53 trv rfl rfl (fun w hs => impl_IsStrategy_c _ nz cz _ _ _ nws cws _ _ _ nvs cvs _ _ _ _ nps cps _ _ w (Kn.drop (k := 4) kz w hs) (Kn.drop (k := 4) kws w hs) (Kn.drop (k := 4) kvs w hs) (Kn.drop (k := 4) kps w hs)) ?_
  refine not rfl rfl rfl ?_
  refine mvB rfl rfl rfl ?_
  refine rBoolN (d := 20) rfl (fun g1 => ?_) (fun g1 => ?_)
  · -- g1T
    replace g1 : (Math.isStrat z ws vs pl ps) = false := g1
    refine rSkipL trv rfl rfl ?_
    refine rSkipL trv rfl rfl ?_
    refine rSkipL trv rfl rfl ?_
    refine rSkipQ rfl rfl ?_
    refine pickB rfl rfl rfl rfl ?_
    refine rNil ?_
    refine qSeq rfl ?_
    refine hIfT rfl ?_
    refine hSeq ?_
    refine hReg (sq 0 (sl 1 (sq 2 sz))) (by kernel_rfl) ?_
    refine bld rfl rfl rfl (bld40) ?_
    refine stAl (vs := [.int .i64 0, .slice none 0 0]) 0 rfl Try.sizeOf40 trv rfl rfl rfl rfl rfl (by simp [Value.oneCell']) rfl ?_
    refine asI rfl rfl rfl ?_
    refine rNil ?_
    refine qSeq rfl ?_
    refine hRet ?_
    refine knP (fun _ h => Sep.nilR maK 53 2 (fun _ => (none, 0)) h) ?_
    exact fun w hs => ⟨[_, .int .i64 1], ⟨⟨_, rfl, run_load_agg Try.isAgg40 Try.sizeOf40 rfl (cBs 1 rfl w hs)⟩, ⟨rfl, trivial⟩⟩, ⟨(0, none, 0, 0, (fun _ => (none, 0)), [], 1), rfl, by rw [Math.mixAt_1 (by first | exact .inl (by assumption) | exact .inr (by assumption))]; exact ⟨rfl, rfl, rfl⟩, hs.pick [0]⟩⟩
  · -- g1F
    replace g1 : (Math.isStrat z ws vs pl ps) = true := g1
    refine ldAl Try.isAgg38 Try.sizeOf38 (cBs 3 rfl) trv rfl rfl rfl rfl ?_
    refine ldAl Try.isAgg40 Try.sizeOf40 (cBs 1 rfl) trv rfl rfl rfl rfl ?_
    refine callP (v := .bool (Math.isStrat z ws vs ql qs)) Try.call53 trv rfl rfl (fun w hs => impl_IsStrategy_c _ nz cz _ _ _ nws cws _ _ _ nvs cvs _ _ _ _ nqs cqs _ _ w (Kn.drop (k := 4) kz w hs) (Kn.drop (k := 4) kws w hs) (Kn.drop (k := 4) kvs w hs) (Kn.drop (k := 4) kqs w hs)) ?_
    refine not rfl rfl rfl ?_
    refine pickB rfl rfl rfl rfl ?_
    refine rNil ?_
    refine qSeq rfl ?_
    refine hIfN rfl (fun c2 => ?_) (fun c2 => ?_)
    · -- c2T
      replace c2 : (Math.isStrat z ws vs ql qs) = false := c2
      refine hSeq ?_
      refine hReg (sq 0 (sl 1 (sq 2 sz))) (by kernel_rfl) ?_
      refine bld rfl rfl rfl (bld40) ?_
      refine stAl (vs := [.int .i64 0, .slice none 0 0]) 0 rfl Try.sizeOf40 trv rfl rfl rfl rfl rfl (by simp [Value.oneCell']) rfl ?_
      refine asI rfl rfl rfl ?_
      refine rNil ?_
      refine qSeq rfl ?_
      refine hRet ?_
      refine knP (fun _ h => Sep.nilR maK 53 2 (fun _ => (none, 0)) h) ?_
      exact fun w hs => ⟨[_, .int .i64 1], ⟨⟨_, rfl, run_load_agg Try.isAgg40 Try.sizeOf40 rfl (cBs 1 rfl w hs)⟩, ⟨rfl, trivial⟩⟩, ⟨(0, none, 0, 0, (fun _ => (none, 0)), [], 1), rfl, by rw [Math.mixAt_1 (by first | exact .inl (by assumption) | exact .inr (by assumption))]; exact ⟨rfl, rfl, rfl⟩, hs.pick [0]⟩⟩
    · -- c2F
      replace c2 : (Math.isStrat z ws vs ql qs) = true := c2
      have hsp := Math.isStrat_ok (show Math.isStrat z ws vs pl ps = true by assumption)
      have hg := hsp.1
      have hsq := (Math.isStrat_ok (show Math.isStrat z ws vs ql qs = true by assumption)).2.2
      have hGm := Math.isGame_ok hg
      have hTm := (Math.isTree_ok hGm.1).1
      have hpl := Math.parts_len hsp.2.2
      have hsl := Math.sets_len (z := z) (p := pl) (show ws.length ≤ 6 by omega)
      refine hSkip ?_
      refine qSeq rfl ?_
      refine hSeq ?_
      refine hSeq ?_
      refine hReg (sq 0 (sl 1 (sq 2 sz))) (by kernel_rfl) ?_
      refine mvI rfl rfl rfl ?_
      refine callP (v := .bool (decide ((0 : Int) ≤ n ∧ n ≤ (60 : Int)))) Try.call54 trv rfl rfl (fun w hs => impl_within_c _ _ _ w ) ?_
      refine notD rfl rfl rfl ?_
      refine rNil ?_
      refine qSeq rfl ?_
      refine hIfD rfl (fun c3 => ?_) (fun c3 => ?_)
      · -- c3T
        replace c3 : ¬ ((0 : Int) ≤ n ∧ n ≤ (60 : Int)) := c3
        refine hSeq ?_
        refine hReg (sq 0 (sl 1 (sq 2 sz))) (by kernel_rfl) ?_
        refine bld rfl rfl rfl (bld40) ?_
        refine stAl (vs := [.int .i64 0, .slice none 0 0]) 0 rfl Try.sizeOf40 trv rfl rfl rfl rfl rfl (by simp [Value.oneCell']) rfl ?_
        refine asI rfl rfl rfl ?_
        refine rNil ?_
        refine qSeq rfl ?_
        refine hRet ?_
        refine knP (fun _ h => Sep.nilR maK 53 2 (fun _ => (none, 0)) h) ?_
        exact fun w hs => ⟨[_, .int .i64 2], ⟨⟨_, rfl, run_load_agg Try.isAgg40 Try.sizeOf40 rfl (cBs 1 rfl w hs)⟩, ⟨rfl, trivial⟩⟩, ⟨(0, none, 0, 0, (fun _ => (none, 0)), [], 2), rfl, by rw [Math.mixAt_2 (by assumption) (by assumption) (by assumption)]; exact ⟨rfl, rfl, rfl⟩, hs.pick [0]⟩⟩
      · -- c3F
        replace c3 : ¬ (¬ ((0 : Int) ≤ n ∧ n ≤ (60 : Int))) := c3
        replace c3 := Classical.not_not.1 c3
        refine hSkip ?_
        refine qSeq rfl ?_
        refine hSeq ?_
        refine hSeq ?_
        refine hReg (sq 0 (sl 1 (sq 2 (sl 3 (sq 4 sz))))) (by kernel_rfl) ?_
        refine fld fl40_0 rfl rfl rfl ?_
        refine ldl Try.isAgg2 (cB 2 rfl rfl) trv rfl rfl rfl ?_
        refine fld fl40_0 rfl rfl rfl ?_
        refine ldl Try.isAgg2 (cB 1 rfl rfl) trv rfl rfl rfl ?_
        refine neq rfl rfl rfl rfl ?_
        refine rNil ?_
        refine qSeq rfl ?_
        refine hIfD rfl (fun c4 => ?_) (fun c4 => ?_)
        · -- c4T
          replace c4 : pl ≠ ql := c4
          refine hSeq ?_
          refine hReg (sq 0 (sl 1 (sq 2 sz))) (by kernel_rfl) ?_
          refine bld rfl rfl rfl (bld40) ?_
          refine stAl (vs := [.int .i64 0, .slice none 0 0]) 0 rfl Try.sizeOf40 trv rfl rfl rfl rfl rfl (by simp [Value.oneCell']) rfl ?_
          refine asI rfl rfl rfl ?_
          refine rNil ?_
          refine qSeq rfl ?_
          refine hRet ?_
          refine knP (fun _ h => Sep.nilR maK 53 2 (fun _ => (none, 0)) h) ?_
          exact fun w hs => ⟨[_, .int .i64 5], ⟨⟨_, rfl, run_load_agg Try.isAgg40 Try.sizeOf40 rfl (cBs 1 rfl w hs)⟩, ⟨rfl, trivial⟩⟩, ⟨(0, none, 0, 0, (fun _ => (none, 0)), [], 5), rfl, by rw [Math.mixAt_5 (by assumption) (by assumption) (by assumption) (by assumption)]; exact ⟨rfl, rfl, rfl⟩, hs.pick [0]⟩⟩
        · -- c4F
          replace c4 : ¬ (pl ≠ ql) := c4
          replace c4 := Classical.not_not.1 c4
          rw [← c4] at hsq
          refine hSkip ?_
          refine qSeq rfl ?_
          refine hSeq ?_
          refine hReg (sq 0 (sl 1 (sq 2 (sl 3 (sl 4 sz))))) (by kernel_rfl) ?_
          refine fld fl40_0 rfl rfl rfl ?_
          refine ldl Try.isAgg2 (cB 2 rfl rfl) trv rfl rfl rfl ?_
          refine bld rfl rfl rfl (bld40_0 (.int .i64 _) rfl) ?_
          refine alc Try.zeroValue40 rfl trv1 rfl rfl (fun bka9 hbka9 => ?_)
          refine stAl (vs := [.int .i64 pl, .slice none 0 0]) 0 rfl Try.sizeOf40 trv rfl rfl rfl rfl rfl (by simp [Value.oneCell']) rfl ?_
          refine rNil ?_
          refine qSeq rfl ?_
          refine hSeq ?_
          refine hSeq ?_
          refine hReg (sq 0 (sl 1 (sq 2 (sq 3 sz)))) (by kernel_rfl) ?_
          refine fld fl40_1 rfl rfl rfl ?_
          refine ldl Try.isAgg25 (cB 3 rfl rfl) trv rfl rfl rfl ?_
          refine lenS Try.runUnderlying25 rfl rfl rfl ?_
          refine mvI rfl rfl rfl ?_
          refine rNil ?_
          refine qSeq rfl ?_
          refine hBlk ?_
          refine hPieces (fun _ h => Sep.nilR maK 53 2 (fun _ => (none, 0)) h) ?_
          refine hLoop (α := Nat × Nat × (Hd × (Nat → Hd))) (fun x => x.1 ≤ nps ∧ x.2.1 = x.1) (fun x => nps - x.1) (fun x => [OwnR maK 53 2 x.2.2.1.1 x.2.1 x.2.2.1.2 x.2.2.2 (Math.mixTo n ps qs x.1), blk bka9 40 [.int .i64 pl, .slice x.2.2.1.1 x.2.1 x.2.2.1.2], blk bka4 40 [.int .i64 0, .slice none 0 0], blk bkb3 40 [.int .i64 ql, .slice aqs nqs cqs], blk bkb2 40 [.int .i64 pl, .slice aps nps cps], blk bkb1 38 [.slice az nz cz, .slice aws nws cws, .slice avs nvs cvs]]) (fun x => [(3, .int .i64 n), (6, .pointer (some ⟨bkb3, 0, none⟩)), (8, .pointer (some ⟨bka4, 0, none⟩)), (10, .pointer (some ⟨bka9, 0, none⟩)), (41, .slice aps nps cps), (42, .int .i64 (nps : Int)), (43, .int .i64 (x.1 : Int))]) ((0, 0, ((none, 0), (fun _ => (none, 0))))) ⟨Nat.zero_le _, rfl⟩ (fun _ h => h.pick [0, 0, 0, 0, 0, 0]) ⟨rfl, rfl, rfl, rfl, rfl, rfl, rfl, trivial⟩ ?_
          rintro ⟨i, q, hd⟩ τ1 ⟨hi, hq⟩
          dsimp only at hi hq
          refine hRe [(3, .int .i64 n), (6, .pointer (some ⟨bkb3, 0, none⟩)), (8, .pointer (some ⟨bka4, 0, none⟩)), (10, .pointer (some ⟨bka9, 0, none⟩)), (41, .slice aps nps cps), (42, .int .i64 (nps : Int)), (43, .int .i64 (i : Int))] [OwnR maK 53 2 hd.1.1 q hd.1.2 hd.2 (Math.mixTo n ps qs i), blk bka9 40 [.int .i64 pl, .slice hd.1.1 q hd.1.2], blk bka4 40 [.int .i64 0, .slice none 0 0], blk bkb3 40 [.int .i64 ql, .slice aqs nqs cqs], blk bkb2 40 [.int .i64 pl, .slice aps nps cps], blk bkb1 38 [.slice az nz cz, .slice aws nws cws, .slice avs nvs cvs]] rfl rfl ?_
          refine hSeq ?_
          refine hReg (sq 0 sz) (by kernel_rfl) ?_
          refine lss rfl rfl rfl rfl ?_
          refine rNil ?_
          refine qSeq rfl ?_
          refine hSeq ?_
          refine hIfD rfl (fun c5 => ?_) (fun c5 => ?_)
          · -- c5T
            replace c5 : (i : Int) < (nps : Int) := c5
            have hmr := Math.mix_rows hg hsp.2.1 hsp.2.2 hsq (show i < ps.length by omega)
            refine hSkip ?_
            refine qSeq rfl ?_
            refine hSeq ?_
            refine hBlk ?_
            refine hSeq ?_
            refine hReg (sq 0 (sq 1 (sl 2 (sq 3 (sq 4 sz))))) (by kernel_rfl) ?_
            refine mvI rfl rfl rfl ?_
            refine ixRl (zn := i) (ps.getD i []) el25 (Kn.drop (k := 6) kps) rfl rfl rfl rfl (by omega) (by omega) rfl (nth [] (by omega)) ?_
            intro be1 oe1 e1
            refine ldl Try.isAgg53 (Kn.fld e1 0 rfl) trv rfl rfl rfl ?_
            refine asI rfl rfl rfl ?_
            refine asS rfl rfl rfl ?_
            refine rNil ?_
            refine qSeq rfl ?_
            refine hSeq ?_
            refine hReg (sq 0 (sq 1 (sl 2 (sq 3 sz)))) (by kernel_rfl) ?_
            refine mvS rfl rfl rfl ?_
            refine lenS Try.runUnderlying53 rfl rfl rfl ?_
            refine mksI ((ps.getD i []).length) mk53 trv1 rfl rfl rfl rfl (rfl) (by omega) (fun bkm11 hbkm11 => ?_)
            refine asS rfl rfl rfl ?_
            refine rNil ?_
            refine qSeq rfl ?_
            refine hSeq ?_
            refine hSeq ?_
            refine hReg (sq 0 (sq 1 (sq 2 sz))) (by kernel_rfl) ?_
            refine mvS rfl rfl rfl ?_
            refine lenS Try.runUnderlying53 rfl rfl rfl ?_
            refine mvI rfl rfl rfl ?_
            refine rNil ?_
            refine qSeq rfl ?_
            refine hBlk ?_
            refine hLoop (α := Nat) (fun j => j ≤ (ps.getD i []).length) (fun j => (ps.getD i []).length - j) (fun j => [OwnI 2 (some ⟨bkm11, 0, none⟩) ((ps.getD i []).length) ((ps.getD i []).length) (((Math.mixRow n (ps.getD i []) (qs.getD i []) (ps.getD i []).length).take j ++ List.replicate ((ps.getD i []).length - j) 0)), OwnR maK 53 2 hd.1.1 q hd.1.2 hd.2 (Math.mixTo n ps qs i), blk bka9 40 [.int .i64 pl, .slice hd.1.1 q hd.1.2], blk bka4 40 [.int .i64 0, .slice none 0 0], blk bkb3 40 [.int .i64 ql, .slice aqs nqs cqs], blk bkb2 40 [.int .i64 pl, .slice aps nps cps], blk bkb1 38 [.slice az nz cz, .slice aws nws cws, .slice avs nvs cvs]]) (fun j => [(3, .int .i64 n), (6, .pointer (some ⟨bkb3, 0, none⟩)), (8, .pointer (some ⟨bka4, 0, none⟩)), (10, .pointer (some ⟨bka9, 0, none⟩)), (11, .int .i64 (i : Int)), (13, .slice (some ⟨bkm11, 0, none⟩) ((ps.getD i []).length) ((ps.getD i []).length)), (41, .slice aps nps cps), (42, .int .i64 (nps : Int)), (43, .int .i64 (i : Int)), (51, .slice ((Hps i).1) ((ps.getD i []).length) ((Hps i).2)), (52, .int .i64 ((((ps.getD i []).length : Nat) : Int))), (53, .int .i64 (j : Int))]) 0 (Nat.zero_le _) (fun _ h => (by simp only [List.take_zero, List.nil_append, Nat.sub_zero]; exact h.pick [0, 0, 0, 0, 0, 0, 0])) ⟨rfl, rfl, rfl, rfl, rfl, rfl, rfl, rfl, rfl, rfl, rfl, rfl, trivial⟩ ?_
            rintro j τ2 hj
            refine hSeq ?_
            refine hReg (sq 0 sz) (by kernel_rfl) ?_
            refine lss rfl rfl rfl rfl ?_
            refine rNil ?_
            refine qSeq rfl ?_
            refine hSeq ?_
            refine hIfD rfl (fun c6 => ?_) (fun c6 => ?_)
            · -- c6T
              replace c6 : (j : Int) < (((ps.getD i []).length : Nat) : Int) := c6
              have hmb := Math.mix_bd c3 hmr.2.2.2.1 hmr.2.2.2.2 (show j < (ps.getD i []).length by omega) (show j < (qs.getD i []).length by omega)
              refine hSkip ?_
              refine qSeq rfl ?_
              refine hSeq ?_
              refine hBlk ?_
              refine hSeq ?_
              refine hReg (sq 0 (sq 1 (sl 2 (sq 3 (sq 4 sz))))) (by kernel_rfl) ?_
              refine mvI rfl rfl rfl ?_
              refine ixIl (zn := j) el53 (Kn.drop (k := 7) ((Kn.imp kps fun _ h => h.kidM (nth [] (by omega))))) rfl rfl rfl rfl (by omega) (by omega) rfl ?_
              intro ae2 e2
              refine ldl Try.isAgg2 (e2) trv rfl rfl rfl ?_
              refine asI rfl rfl rfl ?_
              refine asI rfl rfl rfl ?_
              refine rNil ?_
              refine qSeq rfl ?_
              refine hReg (sq 0 (sq 1 (sq 2 (sq 3 (sq 4 (sq 5 (sq 6 (sq 7 (sl 8 (sq 9 (sq 10 (sl 11 (sq 12 (sq 13 (sl 14 (sq 15 (sq 16 (sq 17 (sl 18 sz))))))))))))))))))) (by kernel_rfl) ?_
              refine mvS rfl rfl rfl ?_
              refine mvI rfl rfl rfl ?_
              refine mvI rfl rfl rfl ?_
              refine mvI rfl rfl rfl ?_
              refine mul rfl rfl rfl rfl (by omega) ?_
              refine mvI rfl rfl rfl ?_
              refine sub rfl rfl rfl rfl (by omega) ?_
              refine fld fl40_1 rfl rfl rfl ?_
              refine ldl Try.isAgg25 (cB 4 rfl rfl) trv rfl rfl rfl ?_
              refine mvI rfl rfl rfl ?_
              refine ixRl (zn := i) (qs.getD i []) el25 (Kn.drop (k := 7) kqs) rfl rfl rfl rfl (by omega) (by omega) rfl (nth [] (by omega)) ?_
              intro be3 oe3 e3
              refine ldl Try.isAgg53 (Kn.fld e3 0 rfl) trv rfl rfl rfl ?_
              refine mvI rfl rfl rfl ?_
              refine ixIl (zn := j) el53 (Kn.drop (k := 7) ((Kn.imp kqs fun _ h => h.kidM (nth [] (by omega))))) rfl rfl rfl rfl (by omega) (by omega) rfl ?_
              intro ae4 e4
              refine ldl Try.isAgg2 (e4) trv rfl rfl rfl ?_
              refine mul rfl rfl rfl rfl (by omega) ?_
              refine add rfl rfl rfl rfl (by omega) ?_
              refine oxI (zn := j) 0 rfl el53 rfl rfl rfl rfl (by omega) (by omega) rfl ?_
              intro gk5 hgk5
              refine stoI (off := j) (x := ((n * ((ps.getD i []).getD j 0)) + ((60 - n) * ((qs.getD i []).getD j 0)))) 0 rfl hgk5 Try.sizeOf2 trv rfl rfl rfl rfl (by omega) ?_
              refine rNil ?_
              refine qSeq rfl ?_
              refine hReg (sq 0 (sq 1 sz)) (by kernel_rfl) ?_
              refine add rfl rfl rfl rfl (by omega) ?_
              refine mvI rfl rfl rfl ?_
              refine rNil ?_
              rw [Math.fill_put 0 0 _ (Math.mixRow_len n _ _ _) (by omega) (Math.mixRow_get (by omega))]
              exact qNext rfl (j + 1) (by omega) (by omega) ⟨rfl, rfl, rfl, rfl, rfl, rfl, rfl, rfl, rfl, rfl, rfl, rfl, trivial⟩ (fun _ h => h.pick [0, 0, 0, 0, 0, 0, 0])
            · -- c6F
              replace c6 : ¬ ((j : Int) < (((ps.getD i []).length : Nat) : Int)) := c6
              rw [Math.fill_end 0 (Math.mixRow_len n _ _ _) (by omega)]
              refine hExit rfl ?_
              refine qSeq rfl ?_
              refine hDraw (Ls := []) (by kernel_rfl) (sq 0 (sq 2 (.alt (sl 1 (sl 3 (sl 4 (sl 5 (sq 6 (sf 7 sz)))))) (sl 3 (.alt (sl 1 (sl 4 (sl 5 (sq 6 (sf 7 sz))))) (sl 4 (sl 1 (sl 5 (sq 6 (sf 7 sz)))))))))) (by kernel_rfl) (.cons _ (.cons _ (.cons _ (.cons _ (.cons _ (.cons _ (.cons _ .slnil))))))) ?_
              refine fld fl40_1 rfl rfl rfl ?_
              refine mvS rfl rfl rfl ?_
              refine rAlt ?_ ?_
              ·
                refine ldl Try.isAgg25 (cB 2 rfl rfl) (fun _ h => h.pick []) rfl rfl rfl ?_
                refine callS Try.call55 (by exact (fun _ _ h => h.pick [])) rfl rfl (fun w hs => impl_partsOf_c _ ((ps.getD i []).length) ((ps.getD i []).length) _ w (OwnI.rd (hs.at_ 0 rfl)) (Math.mixRow_bd (by assumption) hmr.2.2.2.1 hmr.2.2.2.2 (by omega) (by omega)) (by rw [Math.mixRow_len]; omega) (by rw [Math.mixRow_len]; omega)) ?_
                rintro ⟨ay6, ny6, cy6, y6⟩ hr6
                dsimp only at hr6
                subst y6
                refine rKnow (fun w hs => (show OwnI 2 ay6 ny6 cy6 (((Math.partsOf ((Math.mixRow n (ps.getD i []) (qs.getD i []) (ps.getD i []).length))))) w from hs.at_ 0 rfl).lenz) (fun lenn12 => ?_)
                refine bsl (fun _ _ h => h.pick []) rfl rfl rfl (bsl25_1 (.slice _ _ _) rfl) (fun bkl13 hbkl13 => ?_)
                refine apR (hd := (ay6, cy6)) (x := ((Math.partsOf ((Math.mixRow n (ps.getD i []) (qs.getD i []) (ps.getD i []).length))))) 3 1 0 maK.ok rfl rfl rfl (fun h => by first | rfl | (dsimp only at h; rw [h]; rfl) | (rw [h]; rfl) | exact congrArg (fun m => [Value.slice _ m _]) h) mk25 (fun _ _ h => h.pick []) rfl rfl rfl rfl (by omega) ?_
                intro aq7 cq7
                refine fld fl40_1 rfl rfl rfl ?_
                refine stf (v := .slice _ _ _) 3 rfl Try.sizeOf25 rfl rfl rfl rfl rfl (Nat.le_of_ble_eq_true rfl) ?_
                refine rNil ?_
                refine qSeq rfl ?_
                refine hReg (sq 0 (sq 1 sz)) (by kernel_rfl) ?_
                refine add rfl rfl rfl rfl (by omega) ?_
                refine mvI rfl rfl rfl ?_
                refine rNil ?_
                rw [Math.mixTo_s rfl]
                exact qNext rfl ((i + 1, q + 1, ((aq7, cq7), (hset hd.2 (Math.mixTo n ps qs i).length (ay6, cy6))))) (by dsimp only; omega) ⟨by dsimp only; omega, by dsimp only; omega⟩ ⟨rfl, rfl, rfl, rfl, rfl, rfl, rfl, trivial⟩ (fun _ h => h.pick [0, 2, 2, 2, 2, 2])
              ·
                refine callS Try.call55 (by exact (fun _ _ h => h.pick [])) rfl rfl (fun w hs => impl_partsOf_c _ ((ps.getD i []).length) ((ps.getD i []).length) _ w (OwnI.rd (hs.at_ 0 rfl)) (Math.mixRow_bd (by assumption) hmr.2.2.2.1 hmr.2.2.2.2 (by omega) (by omega)) (by rw [Math.mixRow_len]; omega) (by rw [Math.mixRow_len]; omega)) ?_
                rintro ⟨ay8, ny8, cy8, y8⟩ hr8
                dsimp only at hr8
                subst y8
                refine rKnow (fun w hs => (show OwnI 2 ay8 ny8 cy8 (((Math.partsOf ((Math.mixRow n (ps.getD i []) (qs.getD i []) (ps.getD i []).length))))) w from hs.at_ 0 rfl).lenz) (fun lenn14 => ?_)
                refine rAlt ?_ ?_
                ·
                  refine ldl Try.isAgg25 (cB 3 rfl rfl) (fun _ h => h.pick []) rfl rfl rfl ?_
                  refine bsl (fun _ _ h => h.pick []) rfl rfl rfl (bsl25_1 (.slice _ _ _) rfl) (fun bkl15 hbkl15 => ?_)
                  refine apR (hd := (ay8, cy8)) (x := ((Math.partsOf ((Math.mixRow n (ps.getD i []) (qs.getD i []) (ps.getD i []).length))))) 3 1 0 maK.ok rfl rfl rfl (fun h => by first | rfl | (dsimp only at h; rw [h]; rfl) | (rw [h]; rfl) | exact congrArg (fun m => [Value.slice _ m _]) h) mk25 (fun _ _ h => h.pick []) rfl rfl rfl rfl (by omega) ?_
                  intro aq9 cq9
                  refine fld fl40_1 rfl rfl rfl ?_
                  refine stf (v := .slice _ _ _) 3 rfl Try.sizeOf25 rfl rfl rfl rfl rfl (Nat.le_of_ble_eq_true rfl) ?_
                  refine rNil ?_
                  refine qSeq rfl ?_
                  refine hReg (sq 0 (sq 1 sz)) (by kernel_rfl) ?_
                  refine add rfl rfl rfl rfl (by omega) ?_
                  refine mvI rfl rfl rfl ?_
                  refine rNil ?_
                  rw [Math.mixTo_s rfl]
                  exact qNext rfl ((i + 1, q + 1, ((aq9, cq9), (hset hd.2 (Math.mixTo n ps qs i).length (ay8, cy8))))) (by dsimp only; omega) ⟨by dsimp only; omega, by dsimp only; omega⟩ ⟨rfl, rfl, rfl, rfl, rfl, rfl, rfl, trivial⟩ (fun _ h => h.pick [0, 2, 2, 2, 2, 2])
                ·
                  refine bsl (fun _ _ h => h.pick []) rfl rfl rfl (bsl25_1 (.slice _ _ _) rfl) (fun bkl16 hbkl16 => ?_)
                  refine ldl Try.isAgg25 (cB 4 rfl rfl) (fun _ h => h.pick []) rfl rfl rfl ?_
                  refine apR (hd := (ay8, cy8)) (x := ((Math.partsOf ((Math.mixRow n (ps.getD i []) (qs.getD i []) (ps.getD i []).length))))) 3 1 0 maK.ok rfl rfl rfl (fun h => by first | rfl | (dsimp only at h; rw [h]; rfl) | (rw [h]; rfl) | exact congrArg (fun m => [Value.slice _ m _]) h) mk25 (fun _ _ h => h.pick []) rfl rfl rfl rfl (by omega) ?_
                  intro aq10 cq10
                  refine fld fl40_1 rfl rfl rfl ?_
                  refine stf (v := .slice _ _ _) 3 rfl Try.sizeOf25 rfl rfl rfl rfl rfl (Nat.le_of_ble_eq_true rfl) ?_
                  refine rNil ?_
                  refine qSeq rfl ?_
                  refine hReg (sq 0 (sq 1 sz)) (by kernel_rfl) ?_
                  refine add rfl rfl rfl rfl (by omega) ?_
                  refine mvI rfl rfl rfl ?_
                  refine rNil ?_
                  rw [Math.mixTo_s rfl]
                  exact qNext rfl ((i + 1, q + 1, ((aq10, cq10), (hset hd.2 (Math.mixTo n ps qs i).length (ay8, cy8))))) (by dsimp only; omega) ⟨by dsimp only; omega, by dsimp only; omega⟩ ⟨rfl, rfl, rfl, rfl, rfl, rfl, rfl, trivial⟩ (fun _ h => h.pick [0, 2, 2, 2, 2, 2])
          · -- c5F
            replace c5 : ¬ ((i : Int) < (nps : Int)) := c5
            refine hExit rfl ?_
            refine qSeq rfl ?_
            refine hSeq ?_
            refine hReg (sl 0 (sl 1 (sq 2 sz))) (by kernel_rfl) ?_
            refine ldAl Try.isAgg40 Try.sizeOf40 (cBs 1 rfl) trv rfl rfl rfl rfl ?_
            refine stAl (vs := [.int .i64 pl, .slice hd.1.1 q hd.1.2]) 2 rfl Try.sizeOf40 trv rfl rfl rfl rfl rfl (by simp [Value.oneCell']) rfl ?_
            refine asI rfl rfl rfl ?_
            refine rNil ?_
            refine qSeq rfl ?_
            refine hRet ?_
            exact fun w hs => ⟨[_, .int .i64 0], ⟨⟨_, rfl, run_load_agg Try.isAgg40 Try.sizeOf40 rfl (cBs 2 rfl w hs)⟩, ⟨rfl, trivial⟩⟩, ⟨(pl, hd.1.1, q, hd.1.2, hd.2, (Math.mixTo n ps qs i), 0), rfl, by rw [Math.mixAt_0 (by assumption) (by assumption) (by assumption) (by assumption) (show i = ps.length by omega)]; exact ⟨rfl, rfl, rfl⟩, hs.pick [0]⟩⟩

set_option maxHeartbeats 4000000 in
theorem spec_MixStrategies_c (az : Option Addr) (nz : Nat) (cz : Nat) (Hz : Nat → Hd) (z : List Nd) (aws : Option Addr) (nws : Nat) (cws : Nat) (Hws : Nat → Hd) (ws : List (List Int)) (avs : Option Addr) (nvs : Nat) (cvs : Nat) (Hvs : Nat → Hd) (vs : List (List Int)) (pl : Int) (aps : Option Addr) (nps : Nat) (cps : Nat) (Hps : Nat → Hd) (ps : List (List Int)) (ql : Int) (aqs : Option Addr) (nqs : Nat) (cqs : Nat) (Hqs : Nat → Hd) (qs : List (List Int)) (n : Int) (w : World) (rz : RdR ndK az nz Hz z w) (rws : RdR maK aws nws Hws ws w) (rvs : RdR maK avs nvs Hvs vs w) (rps : RdR maK aps nps Hps ps w) (rqs : RdR maK aqs nqs Hqs qs w) :
    Calls Try.prog 18 #[.agg #[.slice az nz cz, .slice aws nws cws, .slice avs nvs cvs], .agg #[.int .i64 pl, .slice aps nps cps], .agg #[.int .i64 ql, .slice aqs nqs cqs], .int .i64 n] w (Ret fun v w' => ∃ x : Int × Option Addr × Nat × Nat × (Nat → Hd) × List (List Int) × Int, v = .tuple #[.agg #[.int .i64 x.1, .slice x.2.1 x.2.2.1 x.2.2.2.1], .int .i64 x.2.2.2.2.2.2] ∧ (x.1 = (Math.mixAt z ws vs pl ps ql qs n).1.1 ∧ x.2.2.2.2.2.1 = (Math.mixAt z ws vs pl ps ql qs n).1.2 ∧ x.2.2.2.2.2.2 = (Math.mixAt z ws vs pl ps ql qs n).2) ∧ Sep w none_ [OwnR maK 53 2 x.2.1 x.2.2.1 x.2.2.2.1 x.2.2.2.2.1 x.2.2.2.2.2.1] w') := by
  have kz : Kn w none_ [] (RdR ndK az nz Hz z) := fun w' hs => rz.ext hs.upd
  have lz : z.length = nz := rz.1
  have mz : nz ≤ 9223372036854775807 := rz.2.1
  have kws : Kn w none_ [] (RdR maK aws nws Hws ws) := fun w' hs => rws.ext hs.upd
  have lws : ws.length = nws := rws.1
  have mws : nws ≤ 9223372036854775807 := rws.2.1
  have kvs : Kn w none_ [] (RdR maK avs nvs Hvs vs) := fun w' hs => rvs.ext hs.upd
  have lvs : vs.length = nvs := rvs.1
  have mvs : nvs ≤ 9223372036854775807 := rvs.2.1
  have kps : Kn w none_ [] (RdR maK aps nps Hps ps) := fun w' hs => rps.ext hs.upd
  have lps : ps.length = nps := rps.1
  have mps : nps ≤ 9223372036854775807 := rps.2.1
  have kqs : Kn w none_ [] (RdR maK aqs nqs Hqs qs) := fun w' hs => rqs.ext hs.upd
  have lqs : qs.length = nqs := rqs.1
  have mqs : nqs ≤ 9223372036854775807 := rqs.2.1
  refine fn (M := none_) (rs := [.cell 8 40, .tmp 9]) Try.func18 rfl Try.ntmps18 rfl rfl (Sep.start _ _) ?_
  refine hSeq ?_
  refine hReg (sl 0 (sl 1 (sl 2 (sl 3 (sq 4 sz))))) (by kernel_rfl) ?_
  refine box trv1 rfl rfl rfl rfl (fun bkb1 hbkb1 => ?_)
  refine box trv1 rfl rfl rfl rfl (fun bkb2 hbkb2 => ?_)
  refine box trv1 rfl rfl rfl rfl (fun bkb3 hbkb3 => ?_)
  refine alc Try.zeroValue40 rfl trv1 rfl rfl (fun bka4 hbka4 => ?_)
  refine asI rfl rfl rfl ?_
  refine rNil ?_
  refine qSeq rfl ?_
  refine hSeq ?_
  refine hBlk ?_
  refine hSeq ?_
  refine hReg (sl 0 (sl 1 (sl 2 (sq 3 (sq 4 (sl 5 (sl 6 (sl 7 (sq 8 (sq 9 (sq 10 sz))))))))))) (by kernel_rfl) ?_
  refine ldAl Try.isAgg38 Try.sizeOf38 (cBs 3 rfl) trv rfl rfl rfl rfl ?_
  refine ldAl Try.isAgg40 Try.sizeOf40 (cBs 2 rfl) trv rfl rfl rfl rfl ?_
  refine callP (v := .bool (Math.isStrat z ws vs pl ps)) Try.call50 trv rfl rfl (fun w hs => spec_IsStrategy_c _ nz cz _ _ _ nws cws _ _ _ nvs cvs _ _ _ _ nps cps _ _ w (Kn.drop (k := 4) kz w hs) (Kn.drop (k := 4) kws w hs) (Kn.drop (k := 4) kvs w hs) (Kn.drop (k := 4) kps w hs)) ?_
  refine not rfl rfl rfl ?_
  refine mvB rfl rfl rfl ?_
  refine rBoolN (d := 19) rfl (fun g1 => ?_) (fun g1 => ?_)
  · -- g1T
    replace g1 : (Math.isStrat z ws vs pl ps) = false := g1
    refine rSkipL trv rfl rfl ?_
    refine rSkipL trv rfl rfl ?_
    refine rSkipL trv rfl rfl ?_
    refine rSkipQ rfl rfl ?_
    refine pickB rfl rfl rfl rfl ?_
    refine asB rfl rfl rfl ?_
    refine rNil ?_
    refine qSeq rfl ?_
    refine hIfT rfl ?_
    refine hSeq ?_
    refine hReg (sq 0 (sl 1 (sq 2 sz))) (by kernel_rfl) ?_
    refine bld rfl rfl rfl (bld40) ?_
    refine stAl (vs := [.int .i64 0, .slice none 0 0]) 0 rfl Try.sizeOf40 trv rfl rfl rfl rfl rfl (by simp [Value.oneCell']) rfl ?_
    refine asI rfl rfl rfl ?_
    refine rNil ?_
    refine qSeq rfl ?_
    refine hRet ?_
    refine knP (fun _ h => Sep.nilR maK 53 2 (fun _ => (none, 0)) h) ?_
    exact fun w hs => ⟨[_, .int .i64 1], ⟨⟨_, rfl, run_load_agg Try.isAgg40 Try.sizeOf40 rfl (cBs 1 rfl w hs)⟩, ⟨rfl, trivial⟩⟩, ⟨(0, none, 0, 0, (fun _ => (none, 0)), [], 1), rfl, by rw [Math.mixAt_1 (by first | exact .inl (by assumption) | exact .inr (by assumption))]; exact ⟨rfl, rfl, rfl⟩, hs.pick [0]⟩⟩
  · -- g1F
    replace g1 : (Math.isStrat z ws vs pl ps) = true := g1
    refine ldAl Try.isAgg38 Try.sizeOf38 (cBs 3 rfl) trv rfl rfl rfl rfl ?_
    refine ldAl Try.isAgg40 Try.sizeOf40 (cBs 1 rfl) trv rfl rfl rfl rfl ?_
    refine callP (v := .bool (Math.isStrat z ws vs ql qs)) Try.call50 trv rfl rfl (fun w hs => spec_IsStrategy_c _ nz cz _ _ _ nws cws _ _ _ nvs cvs _ _ _ _ nqs cqs _ _ w (Kn.drop (k := 4) kz w hs) (Kn.drop (k := 4) kws w hs) (Kn.drop (k := 4) kvs w hs) (Kn.drop (k := 4) kqs w hs)) ?_
    refine not rfl rfl rfl ?_
    refine pickB rfl rfl rfl rfl ?_
    refine asB rfl rfl rfl ?_
    refine rNil ?_
    refine qSeq rfl ?_
    refine hIfN rfl (fun c2 => ?_) (fun c2 => ?_)
    · -- c2T
      replace c2 : (Math.isStrat z ws vs ql qs) = false := c2
      refine hSeq ?_
      refine hReg (sq 0 (sl 1 (sq 2 sz))) (by kernel_rfl) ?_
      refine bld rfl rfl rfl (bld40) ?_
      refine stAl (vs := [.int .i64 0, .slice none 0 0]) 0 rfl Try.sizeOf40 trv rfl rfl rfl rfl rfl (by simp [Value.oneCell']) rfl ?_
      refine asI rfl rfl rfl ?_
      refine rNil ?_
      refine qSeq rfl ?_
      refine hRet ?_
      refine knP (fun _ h => Sep.nilR maK 53 2 (fun _ => (none, 0)) h) ?_
      exact fun w hs => ⟨[_, .int .i64 1], ⟨⟨_, rfl, run_load_agg Try.isAgg40 Try.sizeOf40 rfl (cBs 1 rfl w hs)⟩, ⟨rfl, trivial⟩⟩, ⟨(0, none, 0, 0, (fun _ => (none, 0)), [], 1), rfl, by rw [Math.mixAt_1 (by first | exact .inl (by assumption) | exact .inr (by assumption))]; exact ⟨rfl, rfl, rfl⟩, hs.pick [0]⟩⟩
    · -- c2F
      replace c2 : (Math.isStrat z ws vs ql qs) = true := c2
      have hsp := Math.isStrat_ok (show Math.isStrat z ws vs pl ps = true by assumption)
      have hg := hsp.1
      have hsq := (Math.isStrat_ok (show Math.isStrat z ws vs ql qs = true by assumption)).2.2
      have hGm := Math.isGame_ok hg
      have hTm := (Math.isTree_ok hGm.1).1
      have hpl := Math.parts_len hsp.2.2
      have hsl := Math.sets_len (z := z) (p := pl) (show ws.length ≤ 6 by omega)
      refine hSeq ?_
      refine hReg (sq 0 (sl 1 (sq 2 (sq 3 sz)))) (by kernel_rfl) ?_
      refine mvI rfl rfl rfl ?_
      refine callP (v := .bool (decide ((0 : Int) ≤ n ∧ n ≤ (60 : Int)))) Try.call51 trv rfl rfl (fun w hs => spec_l01In_c _ _ _ w ) ?_
      refine notD rfl rfl rfl ?_
      refine asB rfl rfl rfl ?_
      refine rNil ?_
      refine qSeq rfl ?_
      refine hIfD rfl (fun c3 => ?_) (fun c3 => ?_)
      · -- c3T
        replace c3 : ¬ ((0 : Int) ≤ n ∧ n ≤ (60 : Int)) := c3
        refine hSeq ?_
        refine hReg (sq 0 (sl 1 (sq 2 sz))) (by kernel_rfl) ?_
        refine bld rfl rfl rfl (bld40) ?_
        refine stAl (vs := [.int .i64 0, .slice none 0 0]) 0 rfl Try.sizeOf40 trv rfl rfl rfl rfl rfl (by simp [Value.oneCell']) rfl ?_
        refine asI rfl rfl rfl ?_
        refine rNil ?_
        refine qSeq rfl ?_
        refine hRet ?_
        refine knP (fun _ h => Sep.nilR maK 53 2 (fun _ => (none, 0)) h) ?_
        exact fun w hs => ⟨[_, .int .i64 2], ⟨⟨_, rfl, run_load_agg Try.isAgg40 Try.sizeOf40 rfl (cBs 1 rfl w hs)⟩, ⟨rfl, trivial⟩⟩, ⟨(0, none, 0, 0, (fun _ => (none, 0)), [], 2), rfl, by rw [Math.mixAt_2 (by assumption) (by assumption) (by assumption)]; exact ⟨rfl, rfl, rfl⟩, hs.pick [0]⟩⟩
      · -- c3F
        replace c3 : ¬ (¬ ((0 : Int) ≤ n ∧ n ≤ (60 : Int))) := c3
        replace c3 := Classical.not_not.1 c3
        refine hSeq ?_
        refine hReg (sq 0 (sl 1 (sq 2 (sl 3 (sq 4 (sq 5 sz)))))) (by kernel_rfl) ?_
        refine fld fl40_0 rfl rfl rfl ?_
        refine ldl Try.isAgg2 (cB 2 rfl rfl) trv rfl rfl rfl ?_
        refine fld fl40_0 rfl rfl rfl ?_
        refine ldl Try.isAgg2 (cB 1 rfl rfl) trv rfl rfl rfl ?_
        refine neq rfl rfl rfl rfl ?_
        refine asB rfl rfl rfl ?_
        refine rNil ?_
        refine qSeq rfl ?_
        refine hIfD rfl (fun c4 => ?_) (fun c4 => ?_)
        · -- c4T
          replace c4 : pl ≠ ql := c4
          refine hSeq ?_
          refine hReg (sq 0 (sl 1 (sq 2 sz))) (by kernel_rfl) ?_
          refine bld rfl rfl rfl (bld40) ?_
          refine stAl (vs := [.int .i64 0, .slice none 0 0]) 0 rfl Try.sizeOf40 trv rfl rfl rfl rfl rfl (by simp [Value.oneCell']) rfl ?_
          refine asI rfl rfl rfl ?_
          refine rNil ?_
          refine qSeq rfl ?_
          refine hRet ?_
          refine knP (fun _ h => Sep.nilR maK 53 2 (fun _ => (none, 0)) h) ?_
          exact fun w hs => ⟨[_, .int .i64 5], ⟨⟨_, rfl, run_load_agg Try.isAgg40 Try.sizeOf40 rfl (cBs 1 rfl w hs)⟩, ⟨rfl, trivial⟩⟩, ⟨(0, none, 0, 0, (fun _ => (none, 0)), [], 5), rfl, by rw [Math.mixAt_5 (by assumption) (by assumption) (by assumption) (by assumption)]; exact ⟨rfl, rfl, rfl⟩, hs.pick [0]⟩⟩
        · -- c4F
          replace c4 : ¬ (pl ≠ ql) := c4
          replace c4 := Classical.not_not.1 c4
          rw [← c4] at hsq
          refine hSkip ?_
          refine qSeq rfl ?_
          refine hSeq ?_
          refine hReg (sl 0 (sq 1 sz)) (by kernel_rfl) ?_
          refine bsl trv1 rfl rfl rfl (bsl25_0) (fun bkl9 hbkl9 => ?_)
          refine asS rfl rfl rfl ?_
          refine rNil ?_
          refine qSeq rfl ?_
          refine hSeq ?_
          refine hSeq ?_
          refine hReg (sq 0 sz) (by kernel_rfl) ?_
          refine asI rfl rfl rfl ?_
          refine rNil ?_
          refine qSeq rfl ?_
          refine hBlk ?_
          refine hPieces (fun _ h => Sep.litR maK 53 2 (fun _ => (none, 0)) h 0 rfl) ?_
          refine hLoop (α := Nat × Nat × Hd × (Nat → Hd)) (fun x => x.1 ≤ nps ∧ x.2.1 = x.1) (fun x => nps - x.1) (fun x => [OwnR maK 53 2 x.2.2.1.1 x.2.1 x.2.2.1.2 x.2.2.2 (Math.mixTo n ps qs x.1), blk bka4 40 [.int .i64 0, .slice none 0 0], blk bkb3 40 [.int .i64 ql, .slice aqs nqs cqs], blk bkb2 40 [.int .i64 pl, .slice aps nps cps], blk bkb1 38 [.slice az nz cz, .slice aws nws cws, .slice avs nvs cvs]]) (fun x => [(3, .int .i64 n), (5, .pointer (some ⟨bkb2, 0, none⟩)), (6, .pointer (some ⟨bkb3, 0, none⟩)), (8, .pointer (some ⟨bka4, 0, none⟩)), (10, .slice x.2.2.1.1 x.2.1 x.2.2.1.2), (11, .int .i64 (x.1 : Int))]) ((0, 0, (((some ⟨bkl9, 0, none⟩), 0), (fun _ => (none, 0))))) ⟨Nat.zero_le _, rfl⟩ (fun _ h => h.pick [0, 0, 0, 0, 0]) ⟨rfl, rfl, rfl, rfl, rfl, rfl, trivial⟩ ?_
          rintro ⟨i, q, hd⟩ τ1 ⟨hi, hq⟩
          dsimp only at hi hq
          refine hRe [(3, .int .i64 n), (5, .pointer (some ⟨bkb2, 0, none⟩)), (6, .pointer (some ⟨bkb3, 0, none⟩)), (8, .pointer (some ⟨bka4, 0, none⟩)), (10, .slice hd.1.1 q hd.1.2), (11, .int .i64 (i : Int))] [OwnR maK 53 2 hd.1.1 q hd.1.2 hd.2 (Math.mixTo n ps qs i), blk bka4 40 [.int .i64 0, .slice none 0 0], blk bkb3 40 [.int .i64 ql, .slice aqs nqs cqs], blk bkb2 40 [.int .i64 pl, .slice aps nps cps], blk bkb1 38 [.slice az nz cz, .slice aws nws cws, .slice avs nvs cvs]] rfl rfl ?_
          refine hSeq ?_
          refine hSeq ?_
          refine hReg (sq 0 (sq 1 (sl 2 (sq 3 (sq 4 sz))))) (by kernel_rfl) ?_
          refine mvI rfl rfl rfl ?_
          refine fld fl40_1 rfl rfl rfl ?_
          refine ldl Try.isAgg25 (cB 3 rfl rfl) trv rfl rfl rfl ?_
          refine lenS Try.runUnderlying25 rfl rfl rfl ?_
          refine lss rfl rfl rfl rfl ?_
          refine rNil ?_
          refine qSeq rfl ?_
          refine hIfD rfl (fun c5 => ?_) (fun c5 => ?_)
          · -- c5T
            replace c5 : (i : Int) < (nps : Int) := c5
            have hmr := Math.mix_rows hg hsp.2.1 hsp.2.2 hsq (show i < ps.length by omega)
            refine hSkip ?_
            refine qSeq rfl ?_
            refine hSeq ?_
            refine hBlk ?_
            refine hSeq ?_
            refine hReg (sl 0 (sq 1 sz)) (by kernel_rfl) ?_
            refine bsl trv1 rfl rfl rfl (bsl53_0) (fun bkl10 hbkl10 => ?_)
            refine asS rfl rfl rfl ?_
            refine rNil ?_
            refine qSeq rfl ?_
            refine hSeq ?_
            refine hSeq ?_
            refine hReg (sq 0 sz) (by kernel_rfl) ?_
            refine asI rfl rfl rfl ?_
            refine rNil ?_
            refine qSeq rfl ?_
            refine hBlk ?_
            refine hPieces (fun _ h => Sep.litI h 0 [] rfl rfl rfl) ?_
            refine hLoop (α := Nat × Nat × Hd) (fun x => x.1 ≤ (ps.getD i []).length ∧ x.2.1 = x.1) (fun x => (ps.getD i []).length - x.1) (fun x => [OwnI 2 x.2.2.1 x.2.1 x.2.2.2 ((Math.mixRow n (ps.getD i []) (qs.getD i []) x.1)), OwnR maK 53 2 hd.1.1 q hd.1.2 hd.2 (Math.mixTo n ps qs i), blk bka4 40 [.int .i64 0, .slice none 0 0], blk bkb3 40 [.int .i64 ql, .slice aqs nqs cqs], blk bkb2 40 [.int .i64 pl, .slice aps nps cps], blk bkb1 38 [.slice az nz cz, .slice aws nws cws, .slice avs nvs cvs]]) (fun x => [(3, .int .i64 n), (5, .pointer (some ⟨bkb2, 0, none⟩)), (6, .pointer (some ⟨bkb3, 0, none⟩)), (8, .pointer (some ⟨bka4, 0, none⟩)), (10, .slice hd.1.1 q hd.1.2), (11, .int .i64 (i : Int)), (12, .slice x.2.2.1 x.2.1 x.2.2.2), (13, .int .i64 (x.1 : Int))]) ((0, 0, ((some ⟨bkl10, 0, none⟩), 0))) ⟨Nat.zero_le _, rfl⟩ (fun _ h => h.pick [0, 0, 0, 0, 0, 0]) ⟨rfl, rfl, rfl, rfl, rfl, rfl, rfl, rfl, trivial⟩ ?_
            rintro ⟨j, q2, he⟩ τ2 ⟨hj, hq2⟩
            dsimp only at hj hq2
            refine hRe [(3, .int .i64 n), (5, .pointer (some ⟨bkb2, 0, none⟩)), (6, .pointer (some ⟨bkb3, 0, none⟩)), (8, .pointer (some ⟨bka4, 0, none⟩)), (10, .slice hd.1.1 q hd.1.2), (11, .int .i64 (i : Int)), (12, .slice he.1 q2 he.2), (13, .int .i64 (j : Int))] [OwnI 2 he.1 q2 he.2 ((Math.mixRow n (ps.getD i []) (qs.getD i []) j)), OwnR maK 53 2 hd.1.1 q hd.1.2 hd.2 (Math.mixTo n ps qs i), blk bka4 40 [.int .i64 0, .slice none 0 0], blk bkb3 40 [.int .i64 ql, .slice aqs nqs cqs], blk bkb2 40 [.int .i64 pl, .slice aps nps cps], blk bkb1 38 [.slice az nz cz, .slice aws nws cws, .slice avs nvs cvs]] rfl rfl ?_
            refine hSeq ?_
            refine hSeq ?_
            refine hReg (sq 0 (sq 1 (sl 2 (sq 3 (sq 4 (sl 5 (sq 6 (sq 7 sz)))))))) (by kernel_rfl) ?_
            refine mvI rfl rfl rfl ?_
            refine fld fl40_1 rfl rfl rfl ?_
            refine ldl Try.isAgg25 (cB 4 rfl rfl) trv rfl rfl rfl ?_
            refine mvI rfl rfl rfl ?_
            refine ixRl (zn := i) (ps.getD i []) el25 (Kn.drop (k := 6) kps) rfl rfl rfl rfl (by omega) (by omega) rfl (nth [] (by omega)) ?_
            intro be1 oe1 e1
            refine ldl Try.isAgg53 (Kn.fld e1 0 rfl) trv rfl rfl rfl ?_
            refine lenS Try.runUnderlying53 rfl rfl rfl ?_
            refine lss rfl rfl rfl rfl ?_
            refine rNil ?_
            refine qSeq rfl ?_
            refine hIfD rfl (fun c6 => ?_) (fun c6 => ?_)
            · -- c6T
              replace c6 : (j : Int) < (((ps.getD i []).length : Nat) : Int) := c6
              have hmb := Math.mix_bd c3 hmr.2.2.2.1 hmr.2.2.2.2 (show j < (ps.getD i []).length by omega) (show j < (qs.getD i []).length by omega)
              refine hSkip ?_
              refine qSeq rfl ?_
              refine hSeq ?_
              refine hBlk ?_
              refine hDraw (Ls := [blk bkb3 40 [.int .i64 ql, .slice aqs nqs cqs], blk bkb2 40 [.int .i64 pl, .slice aps nps cps]]) (by kernel_rfl) (sq 0 (sq 1 (sq 2 (sq 3 (sq 4 (sq 5 (sq 6 (sq 7 (sq 8 (sq 9 (sq 10 (sq 11 (sq 12 (sq 13 (sq 14 (sq 15 (sq 16 (sq 17 (sq 18 (sq 19 (sq 20 (sq 21 (sq 22 (sl 23 (sl 24 (sq 25 sz)))))))))))))))))))))))))) (by kernel_rfl) (.cons _ (.cons _ (.cons _ (.cons_cons _ (.cons_cons _ (.cons _ .slnil)))))) ?_
              refine mvS rfl rfl rfl ?_
              refine mvI rfl rfl rfl ?_
              refine fld fl40_1 rfl rfl rfl ?_
              refine ldq Try.isAgg25 (cB 1 rfl rfl) rfl rfl rfl ?_
              refine mvI rfl rfl rfl ?_
              refine ixRq (zn := i) (ps.getD i []) el25 (Kn.drop (k := 2) kps) (fun _ h => h.pick [3, 3]) rfl rfl rfl rfl (by omega) (by omega) rfl (nth [] (by omega)) ?_
              intro be2 oe2 e2
              refine ldq Try.isAgg53 (Kn.fld e2 0 rfl) rfl rfl rfl ?_
              refine mvI rfl rfl rfl ?_
              refine ixIq (zn := j) el53 (Kn.drop (k := 2) ((Kn.imp kps fun _ h => h.kidM (nth [] (by omega))))) (fun _ h => h.pick [3, 3]) rfl rfl rfl rfl (by omega) (by omega) rfl ?_
              intro ae3 e3
              refine ldq Try.isAgg2 (e3) rfl rfl rfl ?_
              refine mul rfl rfl rfl rfl (by omega) ?_
              refine mvI rfl rfl rfl ?_
              refine sub rfl rfl rfl rfl (by omega) ?_
              refine fld fl40_1 rfl rfl rfl ?_
              refine ldq Try.isAgg25 (cB 0 rfl rfl) rfl rfl rfl ?_
              refine mvI rfl rfl rfl ?_
              refine ixRq (zn := i) (qs.getD i []) el25 (Kn.drop (k := 2) kqs) (fun _ h => h.pick [3, 3]) rfl rfl rfl rfl (by omega) (by omega) rfl (nth [] (by omega)) ?_
              intro be4 oe4 e4
              refine ldq Try.isAgg53 (Kn.fld e4 0 rfl) rfl rfl rfl ?_
              refine mvI rfl rfl rfl ?_
              refine ixIq (zn := j) el53 (Kn.drop (k := 2) ((Kn.imp kqs fun _ h => h.kidM (nth [] (by omega))))) (fun _ h => h.pick [3, 3]) rfl rfl rfl rfl (by omega) (by omega) rfl ?_
              intro ae5 e5
              refine ldq Try.isAgg2 (e5) rfl rfl rfl ?_
              refine mul rfl rfl rfl rfl (by omega) ?_
              refine add rfl rfl rfl rfl (by omega) ?_
              refine bsl (fun _ _ h => h.pick [4, 4]) rfl rfl rfl (bsl53_1 (.int .i64 _) rfl) (fun bkl11 hbkl11 => ?_)
              refine aplI (N := q2) (x := ((n * ((ps.getD i []).getD j 0)) + ((60 - n) * ((qs.getD i []).getD j 0)))) 1 0 rfl rfl mk53 (fun _ _ h => h.pick [4, 4]) rfl rfl rfl rfl (by omega) ?_
              intro aq6 cq6
              refine asS rfl rfl rfl ?_
              refine rNil ?_
              refine qSeq rfl ?_
              refine hReg (sq 0 (sq 1 (sq 2 sz))) (by kernel_rfl) ?_
              refine mvI rfl rfl rfl ?_
              refine add rfl rfl rfl rfl (by omega) ?_
              refine asI rfl rfl rfl ?_
              refine rNil ?_
              rw [Math.mixRow_s]
              exact qNext rfl ((j + 1, q2 + 1, (aq6, cq6))) (by dsimp only; omega) ⟨by dsimp only; omega, by dsimp only; omega⟩ ⟨rfl, rfl, rfl, rfl, rfl, rfl, rfl, rfl, trivial⟩ (fun _ h => h.pick [1, 1, 1, 1, 1, 1])
            · -- c6F
              replace c6 : ¬ ((j : Int) < (((ps.getD i []).length : Nat) : Int)) := c6
              refine hExit rfl ?_
              refine qSeq rfl ?_
              refine hReg (sq 0 (sq 1 (sl 2 (sl 3 (sl 4 (sq 5 sz)))))) (by kernel_rfl) ?_
              refine mvS rfl rfl rfl ?_
              refine mvS rfl rfl rfl ?_
              refine callS Try.call52 trv1 rfl rfl (fun w hs => spec_l22Parts_c _ q2 he.2 _ w (OwnI.rd (hs.at_ 0 rfl)) (Math.mixRow_bd (by assumption) hmr.2.2.2.1 hmr.2.2.2.2 (by omega) (by omega)) (by rw [Math.mixRow_len]; omega) (by rw [Math.mixRow_len]; omega)) ?_
              rintro ⟨ay7, ny7, cy7, y7⟩ hr7
              dsimp only at hr7
              subst y7
              refine rKnow (fun w hs => (show OwnI 2 ay7 ny7 cy7 (((Math.partsOf ((Math.mixRow n (ps.getD i []) (qs.getD i []) j))))) w from hs.at_ 0 rfl).lenz) (fun lenn12 => ?_)
              refine bsl trv1 rfl rfl rfl (bsl25_1 (.slice _ _ _) rfl) (fun bkl13 hbkl13 => ?_)
              refine apR (hd := (ay7, cy7)) (x := ((Math.partsOf ((Math.mixRow n (ps.getD i []) (qs.getD i []) j))))) 3 1 0 maK.ok rfl rfl rfl (fun h => by first | rfl | (dsimp only at h; rw [h]; rfl) | (rw [h]; rfl) | exact congrArg (fun m => [Value.slice _ m _]) h) mk25 trv1 rfl rfl rfl rfl (by omega) ?_
              intro aq8 cq8
              refine asS rfl rfl rfl ?_
              refine rNil ?_
              refine qSeq rfl ?_
              refine hReg (sq 0 (sq 1 (sq 2 sz))) (by kernel_rfl) ?_
              refine mvI rfl rfl rfl ?_
              refine add rfl rfl rfl rfl (by omega) ?_
              refine asI rfl rfl rfl ?_
              refine rNil ?_
              rw [Math.mixTo_s (by omega)]
              exact qNext rfl ((i + 1, q + 1, ((aq8, cq8), (hset hd.2 (Math.mixTo n ps qs i).length (ay7, cy7))))) (by dsimp only; omega) ⟨by dsimp only; omega, by dsimp only; omega⟩ ⟨rfl, rfl, rfl, rfl, rfl, rfl, trivial⟩ (fun _ h => h.pick [0, 2, 2, 2, 2])
          · -- c5F
            replace c5 : ¬ ((i : Int) < (nps : Int)) := c5
            refine hExit rfl ?_
            refine qSeq rfl ?_
            refine hSeq ?_
            refine hReg (sq 0 (sl 1 (sq 2 (sq 3 (sl 4 (sq 5 sz)))))) (by kernel_rfl) ?_
            refine fld fl40_0 rfl rfl rfl ?_
            refine ldl Try.isAgg2 (cB 3 rfl rfl) trv rfl rfl rfl ?_
            refine mvS rfl rfl rfl ?_
            refine bld rfl rfl rfl (bld40_0_1 (.int .i64 _) (.slice _ _ _) rfl rfl) ?_
            refine stAl (vs := [.int .i64 pl, .slice hd.1.1 q hd.1.2]) 1 rfl Try.sizeOf40 trv rfl rfl rfl rfl rfl (by simp [Value.oneCell']) rfl ?_
            refine asI rfl rfl rfl ?_
            refine rNil ?_
            refine qSeq rfl ?_
            refine hRet ?_
            exact fun w hs => ⟨[_, .int .i64 0], ⟨⟨_, rfl, run_load_agg Try.isAgg40 Try.sizeOf40 rfl (cBs 1 rfl w hs)⟩, ⟨rfl, trivial⟩⟩, ⟨(pl, hd.1.1, q, hd.1.2, hd.2, (Math.mixTo n ps qs i), 0), rfl, by rw [Math.mixAt_0 (by assumption) (by assumption) (by assumption) (by assumption) (show i = ps.length by omega)]; exact ⟨rfl, rfl, rfl⟩, hs.pick [0]⟩⟩

end Go.Proofs.Ytofkhnipfhcaiaa
