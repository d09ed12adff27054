/- Contracts of what reaches a node. Their conditions stand in each. -/
import Derived.Test.YtofkhnipfhcaiaaEngC
import Derived.Test.YtofkhnipfhcaiaaTree
import Derived.Test.YtofkhnipfhcaiaaParts
import Derived.Test.YtofkhnipfhcaiaaWay
import Derived.Test.YtofkhnipfhcaiaaGame
import Derived.Test.YtofkhnipfhcaiaaSets
import Derived.Test.YtofkhnipfhcaiaaVal
import Derived.Test.YtofkhnipfhcaiaaVal2
import Derived.Test.YtofkhnipfhcaiaaL1
import Derived.Test.YtofkhnipfhcaiaaL2
import Derived.Test.YtofkhnipfhcaiaaL3
import Derived.Test.YtofkhnipfhcaiaaL4
import Derived.Test.YtofkhnipfhcaiaaL5
import Derived.Test.YtofkhnipfhcaiaaL6
import Derived.Test.YtofkhnipfhcaiaaLP
import Derived.Test.YtofkhnipfhcaiaaLW
import Derived.Test.YtofkhnipfhcaiaaLE
import Derived.Test.YtofkhnipfhcaiaaRows
namespace Go.Proofs.Ytofkhnipfhcaiaa
open Go Go.RowKit V
set_option linter.unusedVariables false
set_option linter.unusedSimpArgs false
set_option maxRecDepth 100000



set_option maxHeartbeats 2000000 in
theorem spec_l23Reach_c (az : Option Addr) (nz : Nat) (cz : Nat) (Hz : Nat → Hd) (z : List Nd) (aws : Option Addr) (nws : Nat) (cws : Nat) (Hws : Nat → Hd) (ws : List (List Int)) (avs : Option Addr) (nvs : Nat) (cvs : Nat) (Hvs : Nat → Hd) (vs : List (List Int)) (pl : Int) (aps : Option Addr) (nps : Nat) (cps : Nat) (Hps : Nat → Hd) (ps : List (List Int)) (ql : Int) (aqs : Option Addr) (nqs : Nat) (cqs : Nat) (Hqs : Nat → Hd) (qs : List (List Int)) (n : Int) (w : World) (rz : RdR ndK az nz Hz z w) (rws : RdR maK aws nws Hws ws w) (rvs : RdR maK avs nvs Hvs vs w) (rps : RdR maK aps nps Hps ps w) (rqs : RdR maK aqs nqs Hqs qs w) (hP : Math.Pair z ws vs ps qs) (hn : 0 ≤ n ∧ n < (nz : Int)) :
    Calls Try.prog 60 #[.agg #[.slice az nz cz, .slice aws nws cws, .slice avs nvs cvs], .agg #[.int .i64 pl, .slice aps nps cps], .agg #[.int .i64 ql, .slice aqs nqs cqs], .int .i64 n] w (Ret fun v w' => v = .int .i64 (Math.reTo z ws nws ps qs n nws) ∧ Ext w w') := by
  have kz : Kn w none_ [] (RdR ndK az nz Hz z) := fun w' hs => rz.ext hs.upd
  have lz : z.length = nz := rz.1
  have mz : nz ≤ 9223372036854775807 := rz.2.1
  have kws : Kn w none_ [] (RdR maK aws nws Hws ws) := fun w' hs => rws.ext hs.upd
  have lws : ws.length = nws := rws.1
  have mws : nws ≤ 9223372036854775807 := rws.2.1
  have kvs : Kn w none_ [] (RdR maK avs nvs Hvs vs) := fun w' hs => rvs.ext hs.upd
  have lvs : vs.length = nvs := rvs.1
  have mvs : nvs ≤ 9223372036854775807 := rvs.2.1
  have kps : Kn w none_ [] (RdR maK aps nps Hps ps) := fun w' hs => rps.ext hs.upd
  have lps : ps.length = nps := rps.1
  have mps : nps ≤ 9223372036854775807 := rps.2.1
  have kqs : Kn w none_ [] (RdR maK aqs nqs Hqs qs) := fun w' hs => rqs.ext hs.upd
  have lqs : qs.length = nqs := rqs.1
  have mqs : nqs ≤ 9223372036854775807 := rqs.2.1
  have hg := hP.g
  have hG := Math.isGame_ok hg
  rw [lws] at hG
  have hT := Math.isTree_ok hG.1
  have hvl := Math.mat_len hG.2.2.2.1
  have hpq := Math.pair_len hP lws
  have hwl := Math.way_leads hG.1 (show 0 ≤ n ∧ n < z.length by omega)
  refine fn (M := none_) (rs := [.tmp 8]) Try.func60 rfl Try.ntmps60 rfl rfl (Sep.start _ _) ?_
  refine hSeq ?_
  refine hReg (sl 0 (sl 1 (sl 2 (sq 3 sz)))) (by kernel_rfl) ?_
  refine box trv1 rfl rfl rfl rfl (fun bkb1 hbkb1 => ?_)
  refine box trv1 rfl rfl rfl rfl (fun bkb2 hbkb2 => ?_)
  refine box trv1 rfl rfl rfl rfl (fun bkb3 hbkb3 => ?_)
  refine asI rfl rfl rfl ?_
  refine rNil ?_
  refine qSeq rfl ?_
  refine hSeq ?_
  refine hReg (sq 0 (sl 1 (sq 2 (sl 3 (sq 4 sz))))) (by kernel_rfl) ?_
  refine fld fl38_0 rfl rfl rfl ?_
  refine ldAl Try.isAgg36 Try.sizeOf36 (cBp (m := 1) 2 rfl rfl) trv rfl rfl rfl rfl ?_
  refine mvI rfl rfl rfl ?_
  refine callS Try.call87 trv1 rfl rfl (fun w hs => spec_l20Way_c _ nz cz _ _ _ w (Kn.drop (k := 3) kz w hs) hG.1 (by omega)) ?_
  rintro ⟨ay1, ny1, cy1, y1⟩ hr1
  dsimp only at hr1
  subst y1
  refine rKnow (fun w hs => (show OwnI 2 ay1 ny1 cy1 (Math.wayOf z n) w from hs.at_ 0 rfl).lenz) (fun lenn4 => ?_)
  refine asS rfl rfl rfl ?_
  refine rNil ?_
  refine qSeq rfl ?_
  refine hSeq ?_
  refine hReg (sq 0 sz) (by kernel_rfl) ?_
  refine asI rfl rfl rfl ?_
  refine rNil ?_
  refine qSeq rfl ?_
  refine hSeq ?_
  refine hSeq ?_
  refine hReg (sq 0 sz) (by kernel_rfl) ?_
  refine asI rfl rfl rfl ?_
  refine rNil ?_
  refine qSeq rfl ?_
  refine hBlk ?_
  refine hLoop (α := Nat × Int) (fun x => x.1 ≤ nws ∧ x.2 = (Math.reTo z ws nws ps qs n x.1)) (fun x => nws - x.1) (fun x => [OwnI 2 ay1 ny1 cy1 (Math.wayOf z n), blk bkb3 40 [.int .i64 ql, .slice aqs nqs cqs], blk bkb2 40 [.int .i64 pl, .slice aps nps cps], blk bkb1 38 [.slice az nz cz, .slice aws nws cws, .slice avs nvs cvs]]) (fun x => [(4, .pointer (some ⟨bkb1, 0, none⟩)), (5, .pointer (some ⟨bkb2, 0, none⟩)), (6, .pointer (some ⟨bkb3, 0, none⟩)), (9, .slice ay1 ny1 cy1), (10, .int .i64 x.2), (11, .int .i64 (x.1 : Int))]) (0, 0) ⟨Nat.zero_le _, rfl⟩ (fun _ h => h.pick [0, 0, 0, 0]) ⟨rfl, rfl, rfl, rfl, rfl, rfl, trivial⟩ ?_
  rintro ⟨i, s⟩ τ1 ⟨hi, hs_⟩
  dsimp only at hi hs_
  refine hRe [(4, .pointer (some ⟨bkb1, 0, none⟩)), (5, .pointer (some ⟨bkb2, 0, none⟩)), (6, .pointer (some ⟨bkb3, 0, none⟩)), (9, .slice ay1 ny1 cy1), (10, .int .i64 s), (11, .int .i64 (i : Int))] [OwnI 2 ay1 ny1 cy1 (Math.wayOf z n), blk bkb3 40 [.int .i64 ql, .slice aqs nqs cqs], blk bkb2 40 [.int .i64 pl, .slice aps nps cps], blk bkb1 38 [.slice az nz cz, .slice aws nws cws, .slice avs nvs cvs]] rfl rfl ?_
  refine hSeq ?_
  refine hSeq ?_
  refine hReg (sq 0 (sq 1 (sl 2 (sq 3 (sq 4 sz))))) (by kernel_rfl) ?_
  refine mvI rfl rfl rfl ?_
  refine fld fl38_1 rfl rfl rfl ?_
  refine ldl Try.isAgg25 (cB 3 rfl rfl) trv rfl rfl rfl ?_
  refine lenS Try.runUnderlying25 rfl rfl rfl ?_
  refine lss rfl rfl rfl rfl ?_
  refine rNil ?_
  refine qSeq rfl ?_
  refine hIfD rfl (fun c1 => ?_) (fun c1 => ?_)
  · -- c1T
    replace c1 : (i : Int) < (nws : Int) := c1
    have hb1 := Math.reTo_bd hP lws (show 0 ≤ n ∧ n < z.length by omega) i (by omega)
    refine hSkip ?_
    refine qSeq rfl ?_
    refine hSeq ?_
    refine hBlk ?_
    refine hSeq ?_
    refine hReg (sq 0 sz) (by kernel_rfl) ?_
    refine asI rfl rfl rfl ?_
    refine rNil ?_
    refine qSeq rfl ?_
    refine hBlk ?_
    refine hLoop (α := Nat × Int) (fun x => x.1 ≤ nws ∧ x.2 = (Math.reTo z ws nws ps qs n i) + (Math.reRow z ws nws ps qs n i x.1)) (fun x => nws - x.1) (fun x => [OwnI 2 ay1 ny1 cy1 (Math.wayOf z n), blk bkb3 40 [.int .i64 ql, .slice aqs nqs cqs], blk bkb2 40 [.int .i64 pl, .slice aps nps cps], blk bkb1 38 [.slice az nz cz, .slice aws nws cws, .slice avs nvs cvs]]) (fun x => [(4, .pointer (some ⟨bkb1, 0, none⟩)), (5, .pointer (some ⟨bkb2, 0, none⟩)), (6, .pointer (some ⟨bkb3, 0, none⟩)), (9, .slice ay1 ny1 cy1), (10, .int .i64 x.2), (11, .int .i64 (i : Int)), (12, .int .i64 (x.1 : Int))]) (0, s) ⟨Nat.zero_le _, by dsimp only; rw [hs_]; exact (Int.add_zero _).symm⟩ (fun _ h => h.pick [0, 0, 0, 0]) ⟨rfl, rfl, rfl, rfl, rfl, rfl, rfl, trivial⟩ ?_
    rintro ⟨j, t⟩ τ2 ⟨hj, ht⟩
    dsimp only at hj ht
    refine hRe [(4, .pointer (some ⟨bkb1, 0, none⟩)), (5, .pointer (some ⟨bkb2, 0, none⟩)), (6, .pointer (some ⟨bkb3, 0, none⟩)), (9, .slice ay1 ny1 cy1), (10, .int .i64 t), (11, .int .i64 (i : Int)), (12, .int .i64 (j : Int))] [OwnI 2 ay1 ny1 cy1 (Math.wayOf z n), blk bkb3 40 [.int .i64 ql, .slice aqs nqs cqs], blk bkb2 40 [.int .i64 pl, .slice aps nps cps], blk bkb1 38 [.slice az nz cz, .slice aws nws cws, .slice avs nvs cvs]] rfl rfl ?_
    refine hSeq ?_
    refine hSeq ?_
    refine hReg (sq 0 (sq 1 (sl 2 (sq 3 (sq 4 sz))))) (by kernel_rfl) ?_
    refine mvI rfl rfl rfl ?_
    refine fld fl38_1 rfl rfl rfl ?_
    refine ldl Try.isAgg25 (cB 3 rfl rfl) trv rfl rfl rfl ?_
    refine lenS Try.runUnderlying25 rfl rfl rfl ?_
    refine lss rfl rfl rfl rfl ?_
    refine rNil ?_
    refine qSeq rfl ?_
    refine hIfD rfl (fun c2 => ?_) (fun c2 => ?_)
    · -- c2T
      replace c2 : (j : Int) < (nws : Int) := c2
      have hrl := Math.row_len (Math.mat_row hG.2.2.1 (show i < nws by omega))
      have hb2 := Math.reRow_bd hP lws (show 0 ≤ n ∧ n < z.length by omega) (show i < nws by omega) j (by omega)
      have hb3 := Math.reN_bd hP lws (show 0 ≤ n ∧ n < z.length by omega) (show i < nws by omega) (show j < nws by omega)
      have hwa := Math.row_at (Math.mat_row hG.2.2.1 (show i < nws by omega)) (show j < nws by omega)
      refine hSkip ?_
      refine qSeq rfl ?_
      refine hSeq ?_
      refine hBlk ?_
      refine hSeq ?_
      refine hDraw (Ls := [blk bkb1 38 [.slice az nz cz, .slice aws nws cws, .slice avs nvs cvs]]) (by kernel_rfl) (sq 0 (sq 1 (sq 2 (sq 3 (sq 4 (sq 5 (sq 6 (sq 7 (sq 8 (sq 9 sz)))))))))) (by kernel_rfl) (.cons _ (.cons _ (.cons _ (.cons_cons _ .slnil)))) ?_
      refine fld fl38_1 rfl rfl rfl ?_
      refine ldq Try.isAgg25 (cB 0 rfl rfl) rfl rfl rfl ?_
      refine mvI rfl rfl rfl ?_
      refine ixRq (zn := i) (ws.getD i []) el25 (Kn.drop (k := 1) kws) (fun _ h => h.pick [3]) rfl rfl rfl rfl (by omega) (by omega) rfl (nth [] (by omega)) ?_
      intro be2 oe2 e2
      refine ldq Try.isAgg53 (Kn.fld e2 0 rfl) rfl rfl rfl ?_
      refine mvI rfl rfl rfl ?_
      refine ixIq (zn := j) el53 (Kn.drop (k := 1) ((Kn.imp kws fun _ h => h.kidM (nth [] (by omega))))) (fun _ h => h.pick [3]) rfl rfl rfl rfl (by omega) (by omega) rfl ?_
      intro ae3 e3
      refine ldq Try.isAgg2 (e3) rfl rfl rfl ?_
      refine asI rfl rfl rfl ?_
      refine asI rfl rfl rfl ?_
      refine rNil ?_
      refine qSeq rfl ?_
      refine hSeq ?_
      refine hSeq ?_
      refine hReg (sq 0 sz) (by kernel_rfl) ?_
      refine asI rfl rfl rfl ?_
      refine rNil ?_
      refine qSeq rfl ?_
      refine hBlk ?_
      refine hLoop (α := Nat × Int × Int) (fun x => x.1 ≤ (Math.wayOf z n).length ∧ Math.Leads z ((Math.wayOf z n).drop x.1) x.2.1 n ∧ (0 ≤ x.2.2 ∧ x.2.2 ≤ 9 * Math.p60 x.1) ∧ Math.reW z nws ps qs (i : Int) (j : Int) ((Math.wayOf z n).drop x.1) x.2.1 x.2.2 = Math.reW z nws ps qs (i : Int) (j : Int) (Math.wayOf z n) 0 ((ws.getD i []).getD j 0)) (fun x => (Math.wayOf z n).length - x.1) (fun x => [OwnI 2 ay1 ny1 cy1 (Math.wayOf z n), blk bkb3 40 [.int .i64 ql, .slice aqs nqs cqs], blk bkb2 40 [.int .i64 pl, .slice aps nps cps], blk bkb1 38 [.slice az nz cz, .slice aws nws cws, .slice avs nvs cvs]]) (fun x => [(4, .pointer (some ⟨bkb1, 0, none⟩)), (5, .pointer (some ⟨bkb2, 0, none⟩)), (6, .pointer (some ⟨bkb3, 0, none⟩)), (9, .slice ay1 ny1 cy1), (10, .int .i64 t), (11, .int .i64 (i : Int)), (12, .int .i64 (j : Int)), (13, .int .i64 x.2.1), (14, .int .i64 x.2.2), (15, .int .i64 (x.1 : Int))]) ((0, 0, ((ws.getD i []).getD j 0))) (⟨Nat.zero_le _, hwl.1, ⟨hwa.1, by dsimp only; rw [Math.p60_0]; omega⟩, rfl⟩) (fun _ h => h.pick [0, 0, 0, 0]) ⟨rfl, rfl, rfl, rfl, rfl, rfl, rfl, rfl, rfl, rfl, trivial⟩ ?_
      rintro ⟨q, v, p⟩ τ3 ⟨hq, hl, hp, hw⟩
      dsimp only at hq hl hp hw
      refine hRe [(4, .pointer (some ⟨bkb1, 0, none⟩)), (5, .pointer (some ⟨bkb2, 0, none⟩)), (6, .pointer (some ⟨bkb3, 0, none⟩)), (9, .slice ay1 ny1 cy1), (10, .int .i64 t), (11, .int .i64 (i : Int)), (12, .int .i64 (j : Int)), (13, .int .i64 v), (14, .int .i64 p), (15, .int .i64 (q : Int))] [OwnI 2 ay1 ny1 cy1 (Math.wayOf z n), blk bkb3 40 [.int .i64 ql, .slice aqs nqs cqs], blk bkb2 40 [.int .i64 pl, .slice aps nps cps], blk bkb1 38 [.slice az nz cz, .slice aws nws cws, .slice avs nvs cvs]] rfl rfl ?_
      refine hSeq ?_
      refine hSeq ?_
      refine hReg (sq 0 (sq 1 (sq 2 (sq 3 (sq 4 (sq 5 (sq 6 (sq 7 sz)))))))) (by kernel_rfl) ?_
      refine mvI rfl rfl rfl ?_
      refine mvS rfl rfl rfl ?_
      refine lenS Try.runUnderlying53 rfl rfl rfl ?_
      refine lss rfl rfl rfl rfl ?_
      refine mvB rfl rfl rfl ?_
      refine rBoolD (d := 46) rfl (fun g3 => ?_) (fun g3 => ?_)
      · -- g3T
        replace g3 : (q : Int) < (ny1 : Int) := g3
        refine mvI rfl rfl rfl ?_
        refine gtr rfl rfl rfl rfl ?_
        refine pickB rfl rfl rfl rfl ?_
        refine rNil ?_
        refine qSeq rfl ?_
        refine hIfD rfl (fun c4 => ?_) (fun c4 => ?_)
        · -- c4T
          replace c4 : 0 < p := c4
          have hst := Math.leads_step (show q < (Math.wayOf z n).length by omega) hl
          have hrs := Math.reW_step (z := z) (k := nws) (ps := ps) (qs := qs) (a := (i : Int)) (b := (j : Int)) (v := v) (p := p) (show q < (Math.wayOf z n).length by omega)
          have hdn := Math.down_bd hP lws (a := (i : Int)) (b := (j : Int)) (v := v) (by omega) (by omega) hst.1.1 hst.1.2 hp (show q < 5 by omega)
          refine hSkip ?_
          refine qSeq rfl ?_
          refine hSeq ?_
          refine hBlk ?_
          refine hSeq ?_
          refine hDraw (Ls := [OwnI 2 ay1 ny1 cy1 (Math.wayOf z n), blk bkb3 40 [.int .i64 ql, .slice aqs nqs cqs], blk bkb2 40 [.int .i64 pl, .slice aps nps cps], blk bkb1 38 [.slice az nz cz, .slice aws nws cws, .slice avs nvs cvs]]) (by kernel_rfl) (sq 0 (sq 1 (sq 2 (sq 3 (sq 4 (sq 5 (sq 6 (sq 8 (sq 9 (sq 10 (sq 11 (sl 7 (sq 12 (sq 13 (sq 14 (sq 15 sz)))))))))))))))) (by kernel_rfl) (.cons_cons _ (.cons_cons _ (.cons_cons _ (.cons_cons _ .slnil)))) ?_
          refine mvI rfl rfl rfl ?_
          refine ldAq Try.isAgg38 Try.sizeOf38 (cBs 3 rfl) rfl rfl rfl rfl ?_
          refine ldAq Try.isAgg40 Try.sizeOf40 (cBs 2 rfl) rfl rfl rfl rfl ?_
          refine ldAq Try.isAgg40 Try.sizeOf40 (cBs 1 rfl) rfl rfl rfl rfl ?_
          refine mvI rfl rfl rfl ?_
          refine mvI rfl rfl rfl ?_
          refine mvI rfl rfl rfl ?_
          refine mvS rfl rfl rfl ?_
          refine mvI rfl rfl rfl ?_
          refine ixIq (zn := q) el53 ((Kn.at_ 0 rfl).imp fun _ h => OwnI.rd h) (fun _ h => h.pick [0, 0, 0, 0]) rfl rfl rfl rfl (by omega) (by omega) rfl ?_
          intro ae4 e4
          refine ldq Try.isAgg2 (e4) rfl rfl rfl ?_
          refine callP (v := .slice ((Math.chA z nws Hps Hqs v (i : Int) (j : Int)).1) ((Math.choice z nws ps qs v (i : Int) (j : Int)).length) ((Math.chA z nws Hps Hqs v (i : Int) (j : Int)).2)) Try.call69 (fun _ h => h.pick [0, 0, 0, 0]) rfl rfl (fun w hs => spec_l23Choice_c _ nz cz _ _ _ nws cws _ _ _ nvs cvs _ _ _ _ nps cps _ _ _ _ nqs cqs _ _ _ _ _ w (Kn.drop (k := 4) kz w hs) (Kn.drop (k := 4) kws w hs) (Kn.drop (k := 4) kvs w hs) (Kn.drop (k := 4) kps w hs) (Kn.drop (k := 4) kqs w hs) (by assumption) (by omega) (by first | assumption | omega) (by omega) (by omega)) ?_
          have ka5 : Kn _ none_ [] (RdI ((Math.chA z nws Hps Hqs v (i : Int) (j : Int)).1) ((Math.choice z nws ps qs v (i : Int) (j : Int)).length) ((Math.choice z nws ps qs v (i : Int) (j : Int)))) := Math.two (kps) (kqs) fun _ h1 h2 => Math.choice_rd hP lws (by first | assumption | omega) (by first | assumption | omega) (by omega) (by omega) h1 h2
          refine ixIq (zn := (((Math.wayOf z n).getD q 0)).toNat) el53 (Kn.drop (k := 4) ka5) (fun _ h => h.pick [0, 0, 0, 0]) rfl rfl rfl rfl (by omega) (by omega) rfl ?_
          intro ae6 e6
          refine ldq Try.isAgg2 (e6) rfl rfl rfl ?_
          refine mul rfl rfl rfl rfl (by omega) ?_
          refine asI rfl rfl rfl ?_
          refine rNil ?_
          refine qSeq rfl ?_
          refine hDraw (Ls := [OwnI 2 ay1 ny1 cy1 (Math.wayOf z n), blk bkb1 38 [.slice az nz cz, .slice aws nws cws, .slice avs nvs cvs]]) (by kernel_rfl) (sq 0 (sq 1 (sq 2 (sq 3 (sq 4 (sq 5 (sq 6 (sq 7 (sq 8 (sq 9 (sq 10 (sq 11 (sq 12 (sq 13 sz)))))))))))))) (by kernel_rfl) (.cons_cons _ (.cons _ (.cons _ (.cons_cons _ .slnil)))) ?_
          refine fld fl38_0 rfl rfl rfl ?_
          refine fld fl36_0 rfl rfl rfl ?_
          refine ldq Try.isAgg34 (cB 1 rfl rfl) rfl rfl rfl ?_
          refine mvI rfl rfl rfl ?_
          refine ixRq (zn := (v).toNat) (z.getD ((v).toNat) dN) el34 (Kn.drop (k := 2) kz) (fun _ h => h.pick [0, 2]) rfl rfl rfl rfl (by omega) (by omega) rfl (nth dN (by omega)) ?_
          intro be7 oe7 e7
          refine fld fl88_4 rfl rfl rfl ?_
          refine ldq Try.isAgg53 (Kn.fld e7 4 rfl) rfl rfl rfl ?_
          refine mvS rfl rfl rfl ?_
          refine mvI rfl rfl rfl ?_
          refine ixIq (zn := q) el53 ((Kn.at_ 0 rfl).imp fun _ h => OwnI.rd h) (fun _ h => h.pick [0, 2]) rfl rfl rfl rfl (by omega) (by omega) rfl ?_
          intro ae8 e8
          refine ldq Try.isAgg2 (e8) rfl rfl rfl ?_
          refine ixIq (zn := (((Math.wayOf z n).getD q 0)).toNat) el53 (Kn.drop (k := 2) ((Kn.imp kz fun _ h => h.kidN (nth dN (by omega))))) (fun _ h => h.pick [0, 2]) rfl rfl rfl rfl (by omega) (by omega) rfl ?_
          intro ae9 e9
          refine ldq Try.isAgg2 (e9) rfl rfl rfl ?_
          refine asI rfl rfl rfl ?_
          refine rNil ?_
          refine qSeq rfl ?_
          refine hReg (sq 0 (sq 1 (sq 2 sz))) (by kernel_rfl) ?_
          refine mvI rfl rfl rfl ?_
          refine add rfl rfl rfl rfl (by omega) ?_
          refine asI rfl rfl rfl ?_
          refine rNil ?_
          exact qNext rfl ((q + 1, (((z.getD ((v).toNat) dN).ch).getD ((((Math.wayOf z n).getD q 0)).toNat) 0), (p * (((Math.choice z nws ps qs v (i : Int) (j : Int))).getD ((((Math.wayOf z n).getD q 0)).toNat) 0)))) (by dsimp only; omega) ⟨by dsimp only; omega, hst.2, hdn.2.2.1, by dsimp only; rw [← hrs]; exact hw⟩ ⟨rfl, rfl, rfl, rfl, rfl, rfl, rfl, rfl, rfl, rfl, trivial⟩ (fun _ h => h.pick [0, 0, 0, 0])
        · -- c4F
          replace c4 : ¬ (0 < p) := c4
          have hp0 : p = 0 := by omega
          have hpe : p = Math.reW z nws ps qs (i : Int) (j : Int) (Math.wayOf z n) 0 ((ws.getD i []).getD j 0) := by rw [← hw, hp0, Math.reW_0]
          have hre := Math.reN_is hpe rfl
          rw [show (Math.wayOf z n).length = ny1 by omega] at hre
          refine hExit rfl ?_
          refine qSeq rfl ?_
          refine hReg (sq 0 (sq 1 (sq 2 (sl 3 (sl 4 (sq 5 (sq 6 (sq 7 (sl 8 (sq 9 (sq 10 (sq 11 sz)))))))))))) (by kernel_rfl) ?_
          refine mvI rfl rfl rfl ?_
          refine mvI rfl rfl rfl ?_
          refine fld fl38_0 rfl rfl rfl ?_
          refine ldAl Try.isAgg36 Try.sizeOf36 (cBp (m := 1) 3 rfl rfl) trv rfl rfl rfl rfl ?_
          refine callP (v := .int .i64 (Math.depth z 0)) Try.call36 trv rfl rfl (fun w hs => spec_l20Depth_c _ nz cz _ _ _ w (Kn.drop (k := 4) kz w hs) hT.2.1 (by omega) (by omega)) ?_
          refine mvS rfl rfl rfl ?_
          refine lenS Try.runUnderlying53 rfl rfl rfl ?_
          refine sub rfl rfl rfl rfl (by omega) ?_
          refine callP (v := .int .i64 ((Math.p60 (((Math.depth z 0) - (ny1 : Int))).toNat))) Try.call68 trv rfl rfl (fun w hs => spec_l23Power_c _ w (by omega)) ?_
          refine mul rfl rfl rfl rfl (by omega) ?_
          refine add rfl rfl rfl rfl (by omega) ?_
          refine asI rfl rfl rfl ?_
          refine rNil ?_
          refine qSeq rfl ?_
          refine hReg (sq 0 (sq 1 (sq 2 sz))) (by kernel_rfl) ?_
          refine mvI rfl rfl rfl ?_
          refine add rfl rfl rfl rfl (by omega) ?_
          refine asI rfl rfl rfl ?_
          refine rNil ?_
          exact qNext rfl ((j + 1, (t + (p * (Math.p60 (((Math.depth z 0) - (ny1 : Int))).toNat))))) (by dsimp only; omega) ⟨by dsimp only; omega, by dsimp only; rw [Math.reRow_s, ← hre]; omega⟩ ⟨rfl, rfl, rfl, rfl, rfl, rfl, rfl, trivial⟩ (fun _ h => h.pick [0, 0, 0, 0])
      · -- g3F
        replace g3 : ¬ ((q : Int) < (ny1 : Int)) := g3
        have hpe : p = Math.reW z nws ps qs (i : Int) (j : Int) (Math.wayOf z n) 0 ((ws.getD i []).getD j 0) := by rw [← hw, Math.reW_end (by omega)]
        have hre := Math.reN_is hpe rfl
        rw [show (Math.wayOf z n).length = ny1 by omega] at hre
        refine rSkipQ rfl rfl ?_
        refine rSkipQ rfl rfl ?_
        refine pickB rfl rfl rfl rfl ?_
        refine rNil ?_
        refine qSeq rfl ?_
        refine hIfF rfl ?_
        refine hExit rfl ?_
        refine qSeq rfl ?_
        refine hReg (sq 0 (sq 1 (sq 2 (sl 3 (sl 4 (sq 5 (sq 6 (sq 7 (sl 8 (sq 9 (sq 10 (sq 11 sz)))))))))))) (by kernel_rfl) ?_
        refine mvI rfl rfl rfl ?_
        refine mvI rfl rfl rfl ?_
        refine fld fl38_0 rfl rfl rfl ?_
        refine ldAl Try.isAgg36 Try.sizeOf36 (cBp (m := 1) 3 rfl rfl) trv rfl rfl rfl rfl ?_
        refine callP (v := .int .i64 (Math.depth z 0)) Try.call36 trv rfl rfl (fun w hs => spec_l20Depth_c _ nz cz _ _ _ w (Kn.drop (k := 4) kz w hs) hT.2.1 (by omega) (by omega)) ?_
        refine mvS rfl rfl rfl ?_
        refine lenS Try.runUnderlying53 rfl rfl rfl ?_
        refine sub rfl rfl rfl rfl (by omega) ?_
        refine callP (v := .int .i64 ((Math.p60 (((Math.depth z 0) - (ny1 : Int))).toNat))) Try.call68 trv rfl rfl (fun w hs => spec_l23Power_c _ w (by omega)) ?_
        refine mul rfl rfl rfl rfl (by omega) ?_
        refine add rfl rfl rfl rfl (by omega) ?_
        refine asI rfl rfl rfl ?_
        refine rNil ?_
        refine qSeq rfl ?_
        refine hReg (sq 0 (sq 1 (sq 2 sz))) (by kernel_rfl) ?_
        refine mvI rfl rfl rfl ?_
        refine add rfl rfl rfl rfl (by omega) ?_
        refine asI rfl rfl rfl ?_
        refine rNil ?_
        exact qNext rfl ((j + 1, (t + (p * (Math.p60 (((Math.depth z 0) - (ny1 : Int))).toNat))))) (by dsimp only; omega) ⟨by dsimp only; omega, by dsimp only; rw [Math.reRow_s, ← hre]; omega⟩ ⟨rfl, rfl, rfl, rfl, rfl, rfl, rfl, trivial⟩ (fun _ h => h.pick [0, 0, 0, 0])
    · -- c2F
      replace c2 : ¬ ((j : Int) < (nws : Int)) := c2
      have hrl := Math.row_len (Math.mat_row hG.2.2.1 (show i < nws by omega))
      refine hExit rfl ?_
      refine qSeq rfl ?_
      refine hReg (sq 0 (sq 1 (sq 2 sz))) (by kernel_rfl) ?_
      refine mvI rfl rfl rfl ?_
      refine add rfl rfl rfl rfl (by omega) ?_
      refine asI rfl rfl rfl ?_
      refine rNil ?_
      exact qNext rfl (i + 1, t) (by dsimp only; omega) ⟨by dsimp only; omega, by dsimp only; rw [ht, Math.reTo_s]; congr 2; omega⟩ ⟨rfl, rfl, rfl, rfl, rfl, rfl, trivial⟩ (fun _ h => h.pick [0, 0, 0, 0])
  · -- c1F
    replace c1 : ¬ ((i : Int) < (nws : Int)) := c1
    refine hExit rfl ?_
    refine qSeq rfl ?_
    refine hSeq ?_
    refine hReg (sq 0 (sq 1 sz)) (by kernel_rfl) ?_
    refine mvI rfl rfl rfl ?_
    refine asI rfl rfl rfl ?_
    refine rNil ?_
    refine qSeq rfl ?_
    refine hRet ?_
    exact fun w hs => ⟨[.int .i64 s], ⟨rfl, trivial⟩, ⟨vI (by rw [hs_, show i = nws from by omega]), hs.upd⟩⟩

set_option maxHeartbeats 2000000 in
theorem impl_evaluator_reach_c (be : Nat) (az : Option Addr) (nz : Nat) (cz : Nat) (Hz : Nat → Hd) (z : List Nd) (aws : Option Addr) (nws : Nat) (cws : Nat) (Hws : Nat → Hd) (ws : List (List Int)) (avs : Option Addr) (nvs : Nat) (cvs : Nat) (Hvs : Nat → Hd) (vs : List (List Int)) (af0 : Option Addr) (nf0 : Nat) (cf0 : Nat) (f0 : List Int) (af1 : Option Addr) (nf1 : Nat) (cf1 : Nat) (f1 : List Int) (aps : Option Addr) (nps : Nat) (cps : Nat) (Hps : Nat → Hd) (ps : List (List Int)) (aqs : Option Addr) (nqs : Nat) (cqs : Nat) (Hqs : Nat → Hd) (qs : List (List Int)) (apr : Option Addr) (npr : Nat) (cpr : Nat) (pr : List Int) (n : Int) (w : World) (rbe : RdB be [.slice az nz cz, .slice aws nws cws, .slice avs nvs cvs, .slice af0 nf0 cf0, .slice af1 nf1 cf1, .slice aps nps cps, .slice aqs nqs cqs, .slice apr npr cpr] w) (rz : RdR ndK az nz Hz z w) (rws : RdR maK aws nws Hws ws w) (rvs : RdR maK avs nvs Hvs vs w) (rf0 : RdI af0 nf0 f0 w) (rf1 : RdI af1 nf1 f1 w) (rps : RdR maK aps nps Hps ps w) (rqs : RdR maK aqs nqs Hqs qs w) (rpr : RdI apr npr pr w) (hP : Math.Pair z ws vs ps qs) (hf0 : f0 = Math.firstOf z nws 0) (hf1 : f1 = Math.firstOf z nws 1) (hpr : pr = Math.parOf z) (hn : 0 ≤ n ∧ n < (nz : Int)) :
    Calls Try.prog 62 #[.pointer (some ⟨be, 0, none⟩), .int .i64 n] w (Ret fun v w' => v = .int .i64 (Math.reTo z ws nws ps qs n nws) ∧ Ext w w') := by
  have kbe : Kn w none_ [] (RdB be [.slice az nz cz, .slice aws nws cws, .slice avs nvs cvs, .slice af0 nf0 cf0, .slice af1 nf1 cf1, .slice aps nps cps, .slice aqs nqs cqs, .slice apr npr cpr]) := fun w' hs => rbe.ext hs.upd
  have kz : Kn w none_ [] (RdR ndK az nz Hz z) := fun w' hs => rz.ext hs.upd
  have lz : z.length = nz := rz.1
  have mz : nz ≤ 9223372036854775807 := rz.2.1
  have kws : Kn w none_ [] (RdR maK aws nws Hws ws) := fun w' hs => rws.ext hs.upd
  have lws : ws.length = nws := rws.1
  have mws : nws ≤ 9223372036854775807 := rws.2.1
  have kvs : Kn w none_ [] (RdR maK avs nvs Hvs vs) := fun w' hs => rvs.ext hs.upd
  have lvs : vs.length = nvs := rvs.1
  have mvs : nvs ≤ 9223372036854775807 := rvs.2.1
  have kf0 : Kn w none_ [] (RdI af0 nf0 f0) := fun w' hs => rf0.ext hs.upd
  have lf0 : f0.length = nf0 := rf0.1
  have mf0 : nf0 ≤ 9223372036854775807 := rf0.2.1
  have kf1 : Kn w none_ [] (RdI af1 nf1 f1) := fun w' hs => rf1.ext hs.upd
  have lf1 : f1.length = nf1 := rf1.1
  have mf1 : nf1 ≤ 9223372036854775807 := rf1.2.1
  have kps : Kn w none_ [] (RdR maK aps nps Hps ps) := fun w' hs => rps.ext hs.upd
  have lps : ps.length = nps := rps.1
  have mps : nps ≤ 9223372036854775807 := rps.2.1
  have kqs : Kn w none_ [] (RdR maK aqs nqs Hqs qs) := fun w' hs => rqs.ext hs.upd
  have lqs : qs.length = nqs := rqs.1
  have mqs : nqs ≤ 9223372036854775807 := rqs.2.1
  have kpr : Kn w none_ [] (RdI apr npr pr) := fun w' hs => rpr.ext hs.upd
  have lpr : pr.length = npr := rpr.1
  have mpr : npr ≤ 9223372036854775807 := rpr.2.1
  have hg := hP.g
  have hG := Math.isGame_ok hg
  rw [lws] at hG
  have hT := Math.isTree_ok hG.1
  have hvl := Math.mat_len hG.2.2.2.1
  have hpq := Math.pair_len hP lws
  have hwl := Math.way_leads hG.1 (show 0 ≤ n ∧ n < z.length by omega)
  have hlp : pr.length = z.length := by rw [hpr]; exact Math.parOf_len _
  refine fn (M := none_) (rs := [.tmp 4]) Try.func62 rfl Try.ntmps62 rfl rfl (Sep.start _ _) ?_
  refine hSeq ?_
  refine hReg (sq 0 sz) (by kernel_rfl) ?_
  refine asI rfl rfl rfl ?_
  refine rNil ?_
  refine qSeq rfl ?_
  refine hSeq ?_
  refine hReg (sq 0 (sq 1 (sq 2 (sq 3 (sl 4 (sl 5 (sq 6 sz))))))) (by kernel_rfl) ?_
  refine mvP rfl rfl rfl ?_
  refine nilc rfl rfl rfl ?_
  refine fld fl97_0 rfl rfl rfl ?_
  refine fld fl38_0 rfl rfl rfl ?_
  refine ldAl Try.isAgg36 Try.sizeOf36 (cDp (m := 1) (kbe) rfl) trv rfl rfl rfl rfl ?_
  refine callP (v := .int .i64 (Math.depth z 0)) Try.call43 trv rfl rfl (fun w hs => impl_depthFrom_c _ nz cz _ _ _ w (kz w hs) hT.2.1 (by omega) (by omega)) ?_
  refine asI rfl rfl rfl ?_
  refine rNil ?_
  refine qSeq rfl ?_
  refine hSeq ?_
  refine hReg (sq 0 sz) (by kernel_rfl) ?_
  refine asI rfl rfl rfl ?_
  refine rNil ?_
  refine qSeq rfl ?_
  refine hSeq ?_
  refine hSeq ?_
  refine hReg (sq 0 (sq 1 (sq 2 (sq 3 (sl 4 (sq 5 (sq 6 sz))))))) (by kernel_rfl) ?_
  refine mvP rfl rfl rfl ?_
  refine nilc rfl rfl rfl ?_
  refine fld fl97_0 rfl rfl rfl ?_
  refine fld fl38_1 rfl rfl rfl ?_
  refine ldl Try.isAgg25 (cD (kbe) rfl) trv rfl rfl rfl ?_
  refine lenS Try.runUnderlying25 rfl rfl rfl ?_
  refine mvI rfl rfl rfl ?_
  refine rNil ?_
  refine qSeq rfl ?_
  refine hBlk ?_
  refine hLoop (α := Nat × Int) (fun x => x.1 ≤ nws ∧ x.2 = (Math.reTo z ws nws ps qs n x.1)) (fun x => nws - x.1) (fun x => []) (fun x => [(0, .pointer (some ⟨be, 0, none⟩)), (1, .int .i64 n), (5, .int .i64 (Math.depth z 0)), (6, .int .i64 x.2), (26, .slice aws nws cws), (27, .int .i64 (nws : Int)), (28, .int .i64 (x.1 : Int))]) (0, 0) ⟨Nat.zero_le _, rfl⟩ (fun _ h => h.pick []) ⟨rfl, rfl, rfl, rfl, rfl, rfl, rfl, trivial⟩ ?_
  rintro ⟨i, s⟩ τ1 ⟨hi, hs_⟩
  dsimp only at hi hs_
  refine hRe [(0, .pointer (some ⟨be, 0, none⟩)), (1, .int .i64 n), (5, .int .i64 (Math.depth z 0)), (6, .int .i64 s), (26, .slice aws nws cws), (27, .int .i64 (nws : Int)), (28, .int .i64 (i : Int))] [] rfl rfl ?_
  refine hSeq ?_
  refine hReg (sq 0 sz) (by kernel_rfl) ?_
  refine lss rfl rfl rfl rfl ?_
  refine rNil ?_
  refine qSeq rfl ?_
  refine hSeq ?_
  refine hIfD rfl (fun c1 => ?_) (fun c1 => ?_)
  · -- c1T
    replace c1 : (i : Int) < (nws : Int) := c1
    have hb1 := Math.reTo_bd hP lws (show 0 ≤ n ∧ n < z.length by omega) i (by omega)
    refine hSkip ?_
    refine qSeq rfl ?_
    refine hSeq ?_
    refine hBlk ?_
    refine hSeq ?_
    refine hReg (sq 0 (sq 1 (sl 2 (sq 3 (sq 4 sz))))) (by kernel_rfl) ?_
    refine mvI rfl rfl rfl ?_
    refine ixRl (zn := i) (ws.getD i []) el25 (kws) rfl rfl rfl rfl (by omega) (by omega) rfl (nth [] (by omega)) ?_
    intro be1 oe1 e1
    refine ldl Try.isAgg53 (Kn.fld e1 0 rfl) trv rfl rfl rfl ?_
    refine asI rfl rfl rfl ?_
    refine asS rfl rfl rfl ?_
    refine rNil ?_
    refine qSeq rfl ?_
    refine hSeq ?_
    refine hReg (sq 0 (sq 1 (sq 2 sz))) (by kernel_rfl) ?_
    refine mvS rfl rfl rfl ?_
    refine lenS Try.runUnderlying53 rfl rfl rfl ?_
    refine mvI rfl rfl rfl ?_
    refine rNil ?_
    refine qSeq rfl ?_
    refine hBlk ?_
    refine hLoop (α := Nat × Int) (fun x => x.1 ≤ nws ∧ x.2 = (Math.reTo z ws nws ps qs n i) + (Math.reRow z ws nws ps qs n i x.1)) (fun x => nws - x.1) (fun x => []) (fun x => [(0, .pointer (some ⟨be, 0, none⟩)), (1, .int .i64 n), (5, .int .i64 (Math.depth z 0)), (6, .int .i64 x.2), (7, .int .i64 (i : Int)), (26, .slice aws nws cws), (27, .int .i64 (nws : Int)), (28, .int .i64 (i : Int)), (33, .slice ((Hws i).1) ((ws.getD i []).length) ((Hws i).2)), (34, .int .i64 ((((ws.getD i []).length : Nat) : Int))), (35, .int .i64 (x.1 : Int))]) (0, s) ⟨Nat.zero_le _, by dsimp only; rw [hs_]; exact (Int.add_zero _).symm⟩ (fun _ h => h.pick []) ⟨rfl, rfl, rfl, rfl, rfl, rfl, rfl, rfl, rfl, rfl, rfl, trivial⟩ ?_
    rintro ⟨j, t⟩ τ2 ⟨hj, ht⟩
    dsimp only at hj ht
    refine hRe [(0, .pointer (some ⟨be, 0, none⟩)), (1, .int .i64 n), (5, .int .i64 (Math.depth z 0)), (6, .int .i64 t), (7, .int .i64 (i : Int)), (26, .slice aws nws cws), (27, .int .i64 (nws : Int)), (28, .int .i64 (i : Int)), (33, .slice ((Hws i).1) ((ws.getD i []).length) ((Hws i).2)), (34, .int .i64 ((((ws.getD i []).length : Nat) : Int))), (35, .int .i64 (j : Int))] [] rfl rfl ?_
    refine hSeq ?_
    refine hReg (sq 0 sz) (by kernel_rfl) ?_
    refine lss rfl rfl rfl rfl ?_
    refine rNil ?_
    refine qSeq rfl ?_
    refine hSeq ?_
    refine hIfD rfl (fun c2 => ?_) (fun c2 => ?_)
    · -- c2T
      replace c2 : (j : Int) < (((ws.getD i []).length : Nat) : Int) := c2
      have hrl := Math.row_len (Math.mat_row hG.2.2.1 (show i < nws by omega))
      have hb2 := Math.reRow_bd hP lws (show 0 ≤ n ∧ n < z.length by omega) (show i < nws by omega) j (by omega)
      have hb3 := Math.reN_bd hP lws (show 0 ≤ n ∧ n < z.length by omega) (show i < nws by omega) (show j < nws by omega)
      have hwa := Math.row_at (Math.mat_row hG.2.2.1 (show i < nws by omega)) (show j < nws by omega)
      refine hSkip ?_
      refine qSeq rfl ?_
      refine hSeq ?_
      refine hBlk ?_
      refine hSeq ?_
      refine hReg (sq 0 (sq 1 (sl 2 (sq 3 (sq 4 sz))))) (by kernel_rfl) ?_
      refine mvI rfl rfl rfl ?_
      refine ixIl (zn := j) el53 ((Kn.imp kws fun _ h => h.kidM (nth [] (by omega)))) rfl rfl rfl rfl (by omega) (by omega) rfl ?_
      intro ae2 e2
      refine ldl Try.isAgg2 (e2) trv rfl rfl rfl ?_
      refine asI rfl rfl rfl ?_
      refine asI rfl rfl rfl ?_
      refine rNil ?_
      refine qSeq rfl ?_
      refine hSeq ?_
      refine hReg (sq 0 (sq 1 (sq 2 (sq 3 sz)))) (by kernel_rfl) ?_
      refine mvI rfl rfl rfl ?_
      refine mvI rfl rfl rfl ?_
      refine asI rfl rfl rfl ?_
      refine asI rfl rfl rfl ?_
      refine rNil ?_
      refine qSeq rfl ?_
      refine hSeq ?_
      refine hSeq ?_
      refine hReg (sq 0 (sq 1 sz)) (by kernel_rfl) ?_
      refine mvI rfl rfl rfl ?_
      refine asI rfl rfl rfl ?_
      refine rNil ?_
      refine qSeq rfl ?_
      refine hBlk ?_
      refine hLoop (α := Int × Int × Int × List Int) (fun x => (0 ≤ x.1 ∧ x.1 < (nz : Int)) ∧ Math.Leads z x.2.2.2 x.1 n ∧ (∃ l0, Math.Way z x.1 l0 ∧ l0 ++ x.2.2.2 = (Math.wayOf z n)) ∧ x.2.1 = Math.reW z nws ps qs (i : Int) (j : Int) x.2.2.2 x.1 ((ws.getD i []).getD j 0) ∧ x.2.2.1 = Math.depth z 0 - (x.2.2.2.length : Int)) (fun x => x.1.toNat) (fun x => []) (fun x => [(0, .pointer (some ⟨be, 0, none⟩)), (1, .int .i64 n), (5, .int .i64 (Math.depth z 0)), (6, .int .i64 t), (7, .int .i64 (i : Int)), (9, .int .i64 (j : Int)), (11, .int .i64 x.2.1), (12, .int .i64 x.2.2.1), (13, .int .i64 x.1), (26, .slice aws nws cws), (27, .int .i64 (nws : Int)), (28, .int .i64 (i : Int)), (33, .slice ((Hws i).1) ((ws.getD i []).length) ((Hws i).2)), (34, .int .i64 ((((ws.getD i []).length : Nat) : Int))), (35, .int .i64 (j : Int))]) ((n, ((ws.getD i []).getD j 0), Math.depth z 0, [])) (⟨hn, rfl, ⟨_, Math.wayOf_way hT.2.1 hT.2.2.1 hn.1 (by omega), List.append_nil _⟩, rfl, by simp⟩) (fun _ h => h.pick []) ⟨rfl, rfl, rfl, rfl, rfl, rfl, rfl, rfl, rfl, rfl, rfl, rfl, rfl, rfl, rfl, trivial⟩ ?_
      rintro ⟨v, p, d, l⟩ τ3 ⟨hv, hl, ⟨l0, hw0, hwe⟩, hp, hd⟩
      dsimp only at hv hl l0 hw0 hwe hp hd
      refine hRe [(0, .pointer (some ⟨be, 0, none⟩)), (1, .int .i64 n), (5, .int .i64 (Math.depth z 0)), (6, .int .i64 t), (7, .int .i64 (i : Int)), (9, .int .i64 (j : Int)), (11, .int .i64 p), (12, .int .i64 d), (13, .int .i64 v), (26, .slice aws nws cws), (27, .int .i64 (nws : Int)), (28, .int .i64 (i : Int)), (33, .slice ((Hws i).1) ((ws.getD i []).length) ((Hws i).2)), (34, .int .i64 ((((ws.getD i []).length : Nat) : Int))), (35, .int .i64 (j : Int))] [] rfl rfl ?_
      refine hSeq ?_
      refine hSeq ?_
      refine hReg (sq 0 (sq 1 sz)) (by kernel_rfl) ?_
      refine mvI rfl rfl rfl ?_
      refine gtr rfl rfl rfl rfl ?_
      refine rNil ?_
      refine qSeq rfl ?_
      refine hIfD rfl (fun c3 => ?_) (fun c3 => ?_)
      · -- c3T
        replace c3 : 0 < v := c3
        have hu := Math.step_up hP lws (a := (i : Int)) (b := (j : Int)) (by omega) (by omega) hpr (show 0 ≤ n ∧ n < z.length by omega) (rfl : pr.getD v.toNat 0 = pr.getD v.toNat 0) (show 1 ≤ v ∧ v < z.length by omega) hl hw0 hwe hwa hp
        refine hSkip ?_
        refine qSeq rfl ?_
        refine hSeq ?_
        refine hBlk ?_
        refine hSeq ?_
        refine hReg (sq 0 (sq 1 (sq 2 (sl 3 (sq 4 (sq 5 (sl 6 (sq 7 sz)))))))) (by kernel_rfl) ?_
        refine mvP rfl rfl rfl ?_
        refine nilc rfl rfl rfl ?_
        refine fld fl97_3 rfl rfl rfl ?_
        refine ldl Try.isAgg53 (cD (kbe) rfl) trv rfl rfl rfl ?_
        refine mvI rfl rfl rfl ?_
        refine ixIl (zn := (v).toNat) el53 (kpr) rfl rfl rfl rfl (by omega) (by omega) rfl ?_
        intro ae3 e3
        refine ldl Try.isAgg2 (e3) trv rfl rfl rfl ?_
        refine asI rfl rfl rfl ?_
        refine rNil ?_
        refine qSeq rfl ?_
        refine hSeq ?_
        refine hReg (sq 0 (sq 1 (sq 2 (sq 3 (sq 4 (sl 5 (sq 6 (sq 7 (sq 8 (sl 9 (sq 10 (sl 11 (sq 12 sz))))))))))))) (by kernel_rfl) ?_
        refine mvP rfl rfl rfl ?_
        refine nilc rfl rfl rfl ?_
        refine fld fl97_0 rfl rfl rfl ?_
        refine fld fl38_0 rfl rfl rfl ?_
        refine fld fl36_0 rfl rfl rfl ?_
        refine ldl Try.isAgg34 (cD (kbe) rfl) trv rfl rfl rfl ?_
        refine mvI rfl rfl rfl ?_
        refine ixRl (zn := ((pr.getD ((v).toNat) 0)).toNat) (z.getD (((pr.getD ((v).toNat) 0)).toNat) dN) el34 (kz) rfl rfl rfl rfl (by omega) (by omega) rfl (nth dN (by omega)) ?_
        intro be4 oe4 e4
        refine fld fl88_4 rfl rfl rfl ?_
        refine ldl Try.isAgg53 (Kn.fld e4 4 rfl) trv rfl rfl rfl ?_
        refine mvI rfl rfl rfl ?_
        refine callP (v := .int .i64 ((Math.indexOf ((z.getD (((pr.getD ((v).toNat) 0)).toNat) dN).ch) v))) Try.call84 trv rfl rfl (fun w hs => slices_Index_int64_int64_c _ (((z.getD (((pr.getD ((v).toNat) 0)).toNat) dN).ch).length) ((Hz (((pr.getD ((v).toNat) 0)).toNat)).2) _ _ w ((Kn.imp kz fun _ h => h.kidN (nth dN (by omega))) w hs)) ?_
        refine asI rfl rfl rfl ?_
        refine rNil ?_
        refine qSeq rfl ?_
        refine hSeq ?_
        refine hReg (sq 0 (sq 1 (sq 2 (sq 3 (sq 4 (sl 5 (sq 6 (sq 7 (sl 8 (sq 9 (sq 10 sz))))))))))) (by kernel_rfl) ?_
        refine mvI rfl rfl rfl ?_
        refine mvP rfl rfl rfl ?_
        refine mvI rfl rfl rfl ?_
        refine mvI rfl rfl rfl ?_
        refine mvI rfl rfl rfl ?_
        refine callP (v := .slice ((Math.chA z nws Hps Hqs ((pr.getD ((v).toNat) 0)) (i : Int) (j : Int)).1) ((Math.choice z nws ps qs ((pr.getD ((v).toNat) 0)) (i : Int) (j : Int)).length) ((Math.chA z nws Hps Hqs ((pr.getD ((v).toNat) 0)) (i : Int) (j : Int)).2)) Try.call76 trv rfl rfl (fun w hs => impl_evaluator_partsAt_c be _ nz cz _ _ _ nws cws _ _ _ nvs cvs _ _ _ nf0 cf0 _ _ nf1 cf1 _ _ nps cps _ _ _ nqs cqs _ _ _ npr cpr _ _ _ _ w (kbe w hs) (kz w hs) (kws w hs) (kvs w hs) (kf0 w hs) (kf1 w hs) (kps w hs) (kqs w hs) (kpr w hs) (by assumption) (by first | rfl | assumption) (by first | rfl | assumption) (by first | rfl | assumption) (by omega) (by first | assumption | omega) (by omega) (by omega)) ?_
        have ka5 : Kn _ none_ [] (RdI ((Math.chA z nws Hps Hqs ((pr.getD ((v).toNat) 0)) (i : Int) (j : Int)).1) ((Math.choice z nws ps qs ((pr.getD ((v).toNat) 0)) (i : Int) (j : Int)).length) ((Math.choice z nws ps qs ((pr.getD ((v).toNat) 0)) (i : Int) (j : Int)))) := Math.two (kps) (kqs) fun _ h1 h2 => Math.choice_rd hP lws (by first | assumption | omega) (by first | assumption | omega) (by omega) (by omega) h1 h2
        refine mvI rfl rfl rfl ?_
        refine ixIl (zn := ((Math.indexOf ((z.getD (((pr.getD ((v).toNat) 0)).toNat) dN).ch) v)).toNat) el53 (ka5) rfl rfl rfl rfl (by omega) (by omega) rfl ?_
        intro ae6 e6
        refine ldl Try.isAgg2 (e6) trv rfl rfl rfl ?_
        refine mul rfl rfl rfl rfl (by omega) ?_
        refine asI rfl rfl rfl ?_
        refine rNil ?_
        refine qSeq rfl ?_
        refine hReg (sq 0 (sq 1 (sq 2 sz))) (by kernel_rfl) ?_
        refine mvI rfl rfl rfl ?_
        refine sub rfl rfl rfl rfl (by omega) ?_
        refine asI rfl rfl rfl ?_
        refine rNil ?_
        refine qSeq rfl ?_
        refine hReg (sq 0 (sq 1 (sq 2 (sl 3 (sq 4 (sq 5 (sl 6 (sq 7 sz)))))))) (by kernel_rfl) ?_
        refine mvP rfl rfl rfl ?_
        refine nilc rfl rfl rfl ?_
        refine fld fl97_3 rfl rfl rfl ?_
        refine ldl Try.isAgg53 (cD (kbe) rfl) trv rfl rfl rfl ?_
        refine mvI rfl rfl rfl ?_
        refine ixIl (zn := (v).toNat) el53 (kpr) rfl rfl rfl rfl (by omega) (by omega) rfl ?_
        intro ae7 e7
        refine ldl Try.isAgg2 (e7) trv rfl rfl rfl ?_
        refine asI rfl rfl rfl ?_
        refine rNil ?_
        exact qNext rfl (((pr.getD ((v).toNat) 0), (p * (((Math.choice z nws ps qs ((pr.getD ((v).toNat) 0)) (i : Int) (j : Int))).getD (((Math.indexOf ((z.getD (((pr.getD ((v).toNat) 0)).toNat) dN).ch) v)).toNat) 0)), d - 1, Math.indexOf (z.getD ((pr.getD ((v).toNat) 0)).toNat dN).ch v :: l)) (by dsimp only; omega) ⟨by dsimp only; omega, hu.2.2.2.2.2.1, hu.2.2.2.2.2.2.1, hu.2.2.2.2.2.2.2, by dsimp only; rw [List.length_cons]; omega⟩ ⟨rfl, rfl, rfl, rfl, rfl, rfl, rfl, rfl, rfl, rfl, rfl, rfl, rfl, rfl, rfl, trivial⟩ (fun _ h => h.pick [])
      · -- c3F
        replace c3 : ¬ (0 < v) := c3
        have hrt := Math.root_way hG.1 hw0 (by omega) hwe
        have hpe : p = Math.reW z nws ps qs (i : Int) (j : Int) (Math.wayOf z n) 0 ((ws.getD i []).getD j 0) := by rw [hp, hrt, show v = 0 from by omega]
        have hre := Math.reN_is (d := d) hpe (by rw [hd, hrt])
        have hll : l.length = (Math.wayOf z n).length := by rw [hrt]
        refine hExit rfl ?_
        refine qSeq rfl ?_
        refine hReg (sq 0 (sq 1 (sq 2 (sl 3 (sq 4 (sq 5 (sq 6 sz))))))) (by kernel_rfl) ?_
        refine mvI rfl rfl rfl ?_
        refine mvI rfl rfl rfl ?_
        refine mvI rfl rfl rfl ?_
        refine callP (v := .int .i64 (Math.p60 d.toNat)) Try.call75 trv rfl rfl (fun w hs => impl_powerOf_c _ _ w rfl (by omega)) ?_
        refine mul rfl rfl rfl rfl (by omega) ?_
        refine add rfl rfl rfl rfl (by omega) ?_
        refine asI rfl rfl rfl ?_
        refine rNil ?_
        refine qSeq rfl ?_
        refine hReg (sq 0 (sq 1 sz)) (by kernel_rfl) ?_
        refine add rfl rfl rfl rfl (by omega) ?_
        refine mvI rfl rfl rfl ?_
        refine rNil ?_
        exact qNext rfl ((j + 1, (t + (p * (Math.p60 d.toNat))))) (by dsimp only; omega) ⟨by dsimp only; omega, by dsimp only; rw [Math.reRow_s, ← hre]; omega⟩ ⟨rfl, rfl, rfl, rfl, rfl, rfl, rfl, rfl, rfl, rfl, rfl, trivial⟩ (fun _ h => h.pick [])
    · -- c2F
      replace c2 : ¬ ((j : Int) < (((ws.getD i []).length : Nat) : Int)) := c2
      have hrl := Math.row_len (Math.mat_row hG.2.2.1 (show i < nws by omega))
      refine hExit rfl ?_
      refine qSeq rfl ?_
      refine hReg (sq 0 (sq 1 sz)) (by kernel_rfl) ?_
      refine add rfl rfl rfl rfl (by omega) ?_
      refine mvI rfl rfl rfl ?_
      refine rNil ?_
      exact qNext rfl (i + 1, t) (by dsimp only; omega) ⟨by dsimp only; omega, by dsimp only; rw [ht, Math.reTo_s]; congr 2; omega⟩ ⟨rfl, rfl, rfl, rfl, rfl, rfl, rfl, trivial⟩ (fun _ h => h.pick [])
  · -- c1F
    replace c1 : ¬ ((i : Int) < (nws : Int)) := c1
    refine hExit rfl ?_
    refine qSeq rfl ?_
    refine hSeq ?_
    refine hReg (sq 0 (sq 1 sz)) (by kernel_rfl) ?_
    refine mvI rfl rfl rfl ?_
    refine asI rfl rfl rfl ?_
    refine rNil ?_
    refine qSeq rfl ?_
    refine hRet ?_
    exact fun w hs => ⟨[.int .i64 s], ⟨rfl, trivial⟩, ⟨vI (by rw [hs_, show i = nws from by omega]), hs.upd⟩⟩

end Go.Proofs.Ytofkhnipfhcaiaa
