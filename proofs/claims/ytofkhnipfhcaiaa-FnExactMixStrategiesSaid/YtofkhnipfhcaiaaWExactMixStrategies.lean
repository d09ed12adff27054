/- The law FnExactMixStrategies returns true for all arguments. No condition. -/
import Derived.Test.YtofkhnipfhcaiaaEngC
import Derived.Test.YtofkhnipfhcaiaaFrame
import Derived.Test.YtofkhnipfhcaiaaFrm
import Derived.Test.YtofkhnipfhcaiaaTree
import Derived.Test.YtofkhnipfhcaiaaGame
import Derived.Test.YtofkhnipfhcaiaaL1
import Derived.Test.YtofkhnipfhcaiaaL2
import Derived.Test.YtofkhnipfhcaiaaL2m
import Derived.Test.YtofkhnipfhcaiaaL3
import Derived.Test.YtofkhnipfhcaiaaL4
import Derived.Test.YtofkhnipfhcaiaaSets
import Derived.Test.YtofkhnipfhcaiaaL5
import Derived.Test.YtofkhnipfhcaiaaL6
import Derived.Test.YtofkhnipfhcaiaaParts
import Derived.Test.YtofkhnipfhcaiaaWay
import Derived.Test.YtofkhnipfhcaiaaHigh
import Derived.Test.YtofkhnipfhcaiaaUni
import Derived.Test.YtofkhnipfhcaiaaMath
import Derived.Test.YtofkhnipfhcaiaaVal
import Derived.Test.YtofkhnipfhcaiaaVal2
import Derived.Test.YtofkhnipfhcaiaaVal3
import Derived.Test.YtofkhnipfhcaiaaLP
import Derived.Test.YtofkhnipfhcaiaaLX
import Derived.Test.YtofkhnipfhcaiaaOpn
import Derived.Test.YtofkhnipfhcaiaaRows
namespace Go.Proofs.Ytofkhnipfhcaiaa
open Go Go.RowKit V Go.ChangeShapes Go.WideShapes Go.ChangeAt
set_option linter.unusedVariables false
set_option linter.unusedSimpArgs false
set_option maxRecDepth 100000



set_option maxHeartbeats 4000000 in
theorem laws_FnExactMixStrategies_c (az : Option Addr) (nz : Nat) (cz : Nat) (Hz : Nat → Hd) (z : List Nd) (aws : Option Addr) (nws : Nat) (cws : Nat) (Hws : Nat → Hd) (ws : List (List Int)) (avs : Option Addr) (nvs : Nat) (cvs : Nat) (Hvs : Nat → Hd) (vs : List (List Int)) (pl : Int) (aps : Option Addr) (nps : Nat) (cps : Nat) (Hps : Nat → Hd) (ps : List (List Int)) (ql : Int) (aqs : Option Addr) (nqs : Nat) (cqs : Nat) (Hqs : Nat → Hd) (qs : List (List Int)) (n : Int) (w : World) (rz : RdR ndK az nz Hz z w) (rws : RdR maK aws nws Hws ws w) (rvs : RdR maK avs nvs Hvs vs w) (rps : RdR maK aps nps Hps ps w) (rqs : RdR maK aqs nqs Hqs qs w) :
    Calls Try.prog 5 #[.agg #[.slice az nz cz, .slice aws nws cws, .slice avs nvs cvs], .agg #[.int .i64 pl, .slice aps nps cps], .agg #[.int .i64 ql, .slice aqs nqs cqs], .int .i64 n] w (Ret fun v w' => v = .bool true ∧ Ext w w') := by
  have kz : Kn w none_ [] (RdR ndK az nz Hz z) := fun w' hs => rz.ext hs.upd
  have lz : z.length = nz := rz.1
  have mz : nz ≤ 9223372036854775807 := rz.2.1
  have kws : Kn w none_ [] (RdR maK aws nws Hws ws) := fun w' hs => rws.ext hs.upd
  have lws : ws.length = nws := rws.1
  have mws : nws ≤ 9223372036854775807 := rws.2.1
  have kvs : Kn w none_ [] (RdR maK avs nvs Hvs vs) := fun w' hs => rvs.ext hs.upd
  have lvs : vs.length = nvs := rvs.1
  have mvs : nvs ≤ 9223372036854775807 := rvs.2.1
  have kps : Kn w none_ [] (RdR maK aps nps Hps ps) := fun w' hs => rps.ext hs.upd
  have lps : ps.length = nps := rps.1
  have mps : nps ≤ 9223372036854775807 := rps.2.1
  have kqs : Kn w none_ [] (RdR maK aqs nqs Hqs qs) := fun w' hs => rqs.ext hs.upd
  have lqs : qs.length = nqs := rqs.1
  have mqs : nqs ≤ 9223372036854775807 := rqs.2.1
  refine fn (M := none_) (rs := [.tmp 8]) Try.func5 rfl Try.ntmps5 rfl rfl (Sep.start _ _) ?_
  refine hSeq ?_
  refine hReg (sl 0 (sl 1 (sl 2 (sq 3 sz)))) (by kernel_rfl) ?_
  refine box trv1 rfl rfl rfl rfl (fun bkb1 hbkb1 => ?_)
  refine box trv1 rfl rfl rfl rfl (fun bkb2 hbkb2 => ?_)
  refine box trv1 rfl rfl rfl rfl (fun bkb3 hbkb3 => ?_)
  refine asB rfl rfl rfl ?_
  refine rNil ?_
  refine qSeq rfl ?_
  refine hSeq ?_
  refine hReg (sq 0 sz) (by kernel_rfl) ?_
  refine asI rfl rfl rfl ?_
  refine rNil ?_
  refine qSeq rfl ?_
  refine hSeq ?_
  refine hReg (sl 0 (sq 1 (sl 2 (sq 3 sz)))) (by kernel_rfl) ?_
  refine ldAl Try.isAgg27 Try.sizeOf27 (cBs 2 rfl) trv rfl rfl rfl rfl ?_
  refine mvI rfl rfl rfl ?_
  refine callP (v := .int .i64 ((Math.cut (Math.cut (Math.cut (1048576 : Int) (Math.szK Math.chl z : Int)) (Math.szK Math.rwl ws : Int)) (Math.szK Math.rwl vs : Int)))) Try.call8 trv rfl rfl (fun w hs => laws_szGame_c _ nz cz _ _ _ nws cws _ _ _ nvs cvs _ _ _ w (Kn.drop (k := 3) kz w hs) (Kn.drop (k := 3) kws w hs) (Kn.drop (k := 3) kvs w hs) (by omega)) ?_
  refine asI rfl rfl rfl ?_
  refine rNil ?_
  refine qSeq rfl ?_
  refine hSeq ?_
  refine hSeq ?_
  refine hReg (sq 0 (sq 1 sz)) (by kernel_rfl) ?_
  refine mvI rfl rfl rfl ?_
  refine lss rfl rfl rfl rfl ?_
  refine rNil ?_
  refine qSeq rfl ?_
  refine hIfD rfl (fun c1 => ?_) (fun c1 => ?_)
  · -- c1T
    replace c1 : (Math.cut (Math.cut (Math.cut (1048576 : Int) (Math.szK Math.chl z : Int)) (Math.szK Math.rwl ws : Int)) (Math.szK Math.rwl vs : Int)) < 0 := c1
    refine hSeq ?_
    refine hReg (sq 0 sz) (by kernel_rfl) ?_
    refine asB rfl rfl rfl ?_
    refine rNil ?_
    refine qSeq rfl ?_
    refine hRet ?_
    exact fun w hs => ⟨[.bool true], ⟨rfl, trivial⟩, ⟨by first | rfl | exact bD (by omega) | exact bT (by omega) | exact bF (by omega) | exact vI (by omega), hs.upd⟩⟩
  · -- c1F
    replace c1 : ¬ ((Math.cut (Math.cut (Math.cut (1048576 : Int) (Math.szK Math.chl z : Int)) (Math.szK Math.rwl ws : Int)) (Math.szK Math.rwl vs : Int)) < 0) := c1
    obtain ⟨hb, hbw, hbv⟩ := Math.cut3_pos (l := 1048576) (by omega) c1
    have hble := Math.cut3_le (l := 1048576) c1 (by omega)
    have hf4 := Math.sumK_f4 z
    have hsz : Math.szK Math.chl z = z.length + Math.sumK Math.chl z := rfl
    have hsw : Math.szK Math.rwl ws = ws.length + Math.sumK Math.rwl ws := rfl
    have hsv : Math.szK Math.rwl vs = vs.length + Math.sumK Math.rwl vs := rfl
    have hsps : Math.szK Math.rwl ps = ps.length + Math.sumK Math.rwl ps := rfl
    have hsqs : Math.szK Math.rwl qs = qs.length + Math.sumK Math.rwl qs := rfl
    refine hSkip ?_
    refine qSeq rfl ?_
    refine hSeq ?_
    refine hReg (sl 0 (sq 1 (sl 2 (sq 3 sz)))) (by kernel_rfl) ?_
    refine ldAl Try.isAgg29 Try.sizeOf29 (cBs 1 rfl) trv rfl rfl rfl rfl ?_
    refine mvI rfl rfl rfl ?_
    refine callP (v := .int .i64 ((Math.cut ((Math.cut (Math.cut (Math.cut (1048576 : Int) (Math.szK Math.chl z : Int)) (Math.szK Math.rwl ws : Int)) (Math.szK Math.rwl vs : Int))) (Math.szK Math.rwl ps : Int)))) Try.call9 trv rfl rfl (fun w hs => laws_szStrategy_c _ _ nps cps _ _ _ w (Kn.drop (k := 3) kps w hs) (by omega)) ?_
    refine asI rfl rfl rfl ?_
    refine rNil ?_
    refine qSeq rfl ?_
    refine hSeq ?_
    refine hSeq ?_
    refine hReg (sq 0 (sq 1 sz)) (by kernel_rfl) ?_
    refine mvI rfl rfl rfl ?_
    refine lss rfl rfl rfl rfl ?_
    refine rNil ?_
    refine qSeq rfl ?_
    refine hIfD rfl (fun c2 => ?_) (fun c2 => ?_)
    · -- c2T
      replace c2 : (Math.cut ((Math.cut (Math.cut (Math.cut (1048576 : Int) (Math.szK Math.chl z : Int)) (Math.szK Math.rwl ws : Int)) (Math.szK Math.rwl vs : Int))) (Math.szK Math.rwl ps : Int)) < 0 := c2
      refine hSeq ?_
      refine hReg (sq 0 sz) (by kernel_rfl) ?_
      refine asB rfl rfl rfl ?_
      refine rNil ?_
      refine qSeq rfl ?_
      refine hRet ?_
      exact fun w hs => ⟨[.bool true], ⟨rfl, trivial⟩, ⟨by first | rfl | exact bD (by omega) | exact bT (by omega) | exact bF (by omega) | exact vI (by omega), hs.upd⟩⟩
    · -- c2F
      replace c2 : ¬ ((Math.cut ((Math.cut (Math.cut (Math.cut (1048576 : Int) (Math.szK Math.chl z : Int)) (Math.szK Math.rwl ws : Int)) (Math.szK Math.rwl vs : Int))) (Math.szK Math.rwl ps : Int)) < 0) := c2
      have hbps := Math.cut_pos c2
      refine hSkip ?_
      refine qSeq rfl ?_
      refine hSeq ?_
      refine hReg (sl 0 (sq 1 (sl 2 (sq 3 sz)))) (by kernel_rfl) ?_
      refine ldAl Try.isAgg29 Try.sizeOf29 (cBs 0 rfl) trv rfl rfl rfl rfl ?_
      refine mvI rfl rfl rfl ?_
      refine callP (v := .int .i64 ((Math.cut ((Math.cut ((Math.cut (Math.cut (Math.cut (1048576 : Int) (Math.szK Math.chl z : Int)) (Math.szK Math.rwl ws : Int)) (Math.szK Math.rwl vs : Int))) (Math.szK Math.rwl ps : Int))) (Math.szK Math.rwl qs : Int)))) Try.call9 trv rfl rfl (fun w hs => laws_szStrategy_c _ _ nqs cqs _ _ _ w (Kn.drop (k := 3) kqs w hs) (by omega)) ?_
      refine asI rfl rfl rfl ?_
      refine rNil ?_
      refine qSeq rfl ?_
      refine hSeq ?_
      refine hSeq ?_
      refine hReg (sq 0 (sq 1 sz)) (by kernel_rfl) ?_
      refine mvI rfl rfl rfl ?_
      refine lss rfl rfl rfl rfl ?_
      refine rNil ?_
      refine qSeq rfl ?_
      refine hIfD rfl (fun c3 => ?_) (fun c3 => ?_)
      · -- c3T
        replace c3 : (Math.cut ((Math.cut ((Math.cut (Math.cut (Math.cut (1048576 : Int) (Math.szK Math.chl z : Int)) (Math.szK Math.rwl ws : Int)) (Math.szK Math.rwl vs : Int))) (Math.szK Math.rwl ps : Int))) (Math.szK Math.rwl qs : Int)) < 0 := c3
        refine hSeq ?_
        refine hReg (sq 0 sz) (by kernel_rfl) ?_
        refine asB rfl rfl rfl ?_
        refine rNil ?_
        refine qSeq rfl ?_
        refine hRet ?_
        exact fun w hs => ⟨[.bool true], ⟨rfl, trivial⟩, ⟨by first | rfl | exact bD (by omega) | exact bT (by omega) | exact bF (by omega) | exact vI (by omega), hs.upd⟩⟩
      · -- c3F
        replace c3 : ¬ ((Math.cut ((Math.cut ((Math.cut (Math.cut (Math.cut (1048576 : Int) (Math.szK Math.chl z : Int)) (Math.szK Math.rwl ws : Int)) (Math.szK Math.rwl vs : Int))) (Math.szK Math.rwl ps : Int))) (Math.szK Math.rwl qs : Int)) < 0) := c3
        have hbqs := (Math.cut_pos c3).1
        have hbd := Math.mixAt_bd z ws vs pl ps ql qs n
        refine hSkip ?_
        refine qSeq rfl ?_
        refine hSeq ?_
        refine hCut (α := Nat × Option Addr × Nat × Nat × (Nat → Hd) × Option Addr × Nat × Nat × (Nat → Hd) × Option Addr × Nat × Nat × (Nat → Hd) × Option Addr × Nat × Nat × (Nat → Hd) × Option Addr × Nat × Nat × (Nat → Hd) × Option Addr × Nat × Nat × (Nat → Hd)) (fun x => ((((Math.mixAt z ws vs pl ps ql qs n).1.2))).length = x.2.2.1 ∧ qs.length = x.2.2.2.2.2.2.1 ∧ ps.length = x.2.2.2.2.2.2.2.2.2.2.1 ∧ z.length = x.2.2.2.2.2.2.2.2.2.2.2.2.2.2.1 ∧ ws.length = x.2.2.2.2.2.2.2.2.2.2.2.2.2.2.2.2.2.2.1 ∧ vs.length = x.2.2.2.2.2.2.2.2.2.2.2.2.2.2.2.2.2.2.2.2.2.2.1) (fun x => [blk x.1 40 [.int .i64 ((((Math.mixAt z ws vs pl ps ql qs n).1.1))), .slice x.2.1 x.2.2.1 x.2.2.2.1], OwnR maK 53 2 x.2.1 x.2.2.1 x.2.2.2.1 x.2.2.2.2.1 ((((Math.mixAt z ws vs pl ps ql qs n).1.2))), OwnR maK 53 2 x.2.2.2.2.2.1 x.2.2.2.2.2.2.1 x.2.2.2.2.2.2.2.1 x.2.2.2.2.2.2.2.2.1 qs, OwnR maK 53 2 x.2.2.2.2.2.2.2.2.2.1 x.2.2.2.2.2.2.2.2.2.2.1 x.2.2.2.2.2.2.2.2.2.2.2.1 x.2.2.2.2.2.2.2.2.2.2.2.2.1 ps, OwnR ndK 88 2 x.2.2.2.2.2.2.2.2.2.2.2.2.2.1 x.2.2.2.2.2.2.2.2.2.2.2.2.2.2.1 x.2.2.2.2.2.2.2.2.2.2.2.2.2.2.2.1 x.2.2.2.2.2.2.2.2.2.2.2.2.2.2.2.2.1 z, OwnR maK 53 2 x.2.2.2.2.2.2.2.2.2.2.2.2.2.2.2.2.2.1 x.2.2.2.2.2.2.2.2.2.2.2.2.2.2.2.2.2.2.1 x.2.2.2.2.2.2.2.2.2.2.2.2.2.2.2.2.2.2.2.1 x.2.2.2.2.2.2.2.2.2.2.2.2.2.2.2.2.2.2.2.2.1 ws, OwnR maK 53 2 x.2.2.2.2.2.2.2.2.2.2.2.2.2.2.2.2.2.2.2.2.2.1 x.2.2.2.2.2.2.2.2.2.2.2.2.2.2.2.2.2.2.2.2.2.2.1 x.2.2.2.2.2.2.2.2.2.2.2.2.2.2.2.2.2.2.2.2.2.2.2.1 x.2.2.2.2.2.2.2.2.2.2.2.2.2.2.2.2.2.2.2.2.2.2.2.2 vs, blk bkb3 29 [.int .i64 ql, .slice aqs nqs cqs], blk bkb2 29 [.int .i64 pl, .slice aps nps cps], blk bkb1 27 [.slice az nz cz, .slice aws nws cws, .slice avs nvs cvs]]) (fun x => [(3, .int .i64 n), (4, .pointer (some ⟨bkb1, 0, none⟩)), (5, .pointer (some ⟨bkb2, 0, none⟩)), (6, .pointer (some ⟨bkb3, 0, none⟩)), (10, .pointer (some ⟨x.1, 0, none⟩)), (11, .int .i64 ((((Math.mixAt z ws vs pl ps ql qs n).2))))]) ?_ ?_
        ·
          refine hDraw (Ls := [blk bkb3 29 [.int .i64 ql, .slice aqs nqs cqs], blk bkb2 29 [.int .i64 pl, .slice aps nps cps], blk bkb1 27 [.slice az nz cz, .slice aws nws cws, .slice avs nvs cvs]]) (by kernel_rfl) (sq 0 (sq 2 (sq 4 (sq 6 (.alt (sl 1 (.alt (sl 3 (.alt (sl 5 (.alt (sl 7 (sq 8 (sq 9 (sq 10 (sl 11 (sl 12 (sq 13 sz))))))) (sl 11 (sl 7 (sq 8 (sq 9 (sq 10 (sl 12 (sq 13 sz))))))))) (sl 11 (sl 5 (sl 7 (sq 8 (sq 9 (sq 10 (sl 12 (sq 13 sz)))))))))) (sl 11 (sl 3 (sl 5 (sl 7 (sq 8 (sq 9 (sq 10 (sl 12 (sq 13 sz))))))))))) (sl 11 (sl 1 (sl 3 (sl 5 (sl 7 (sq 8 (sq 9 (sq 10 (sl 12 (sq 13 sz))))))))))))))) (by kernel_rfl) (.cons_cons _ (.cons_cons _ (.cons_cons _ .slnil))) ?_
          refine ldAq Try.isAgg27 Try.sizeOf27 (cBs 2 rfl) rfl rfl rfl rfl ?_
          refine ldAq Try.isAgg29 Try.sizeOf29 (cBs 1 rfl) rfl rfl rfl rfl ?_
          refine ldAq Try.isAgg29 Try.sizeOf29 (cBs 0 rfl) rfl rfl rfl rfl ?_
          refine mvI rfl rfl rfl ?_
          refine rAlt ?_ ?_
          ·
            refine callS Try.call11 (by exact (fun _ _ h => h.pick [3, 3, 3])) rfl rfl (fun w hs => laws_toGame_c _ nz cz _ _ _ nws cws _ _ _ nvs cvs _ _ w (Kn.drop (k := 3) kz w hs) (Kn.drop (k := 3) kws w hs) (Kn.drop (k := 3) kvs w hs) (by first | assumption | omega) (by first | assumption | omega) (by first | assumption | omega)) ?_
            rintro ⟨ay1, ny1, cy1, Hy1, y1, ayw1, nyw1, cyw1, Hyw1, yw1, ayv1, nyv1, cyv1, Hyv1, yv1⟩ ⟨hr1a, hr1b, hr1c⟩
            dsimp only at hr1a hr1b hr1c
            subst y1
            subst yw1
            subst yv1
            refine rPieces (L' := [OwnR ndK 88 2 ay1 ny1 cy1 Hy1 z, OwnR maK 53 2 ayw1 nyw1 cyw1 Hyw1 ws, OwnR maK 53 2 ayv1 nyv1 cyv1 Hyv1 vs, blk bkb3 29 [.int .i64 ql, .slice aqs nqs cqs], blk bkb2 29 [.int .i64 pl, .slice aps nps cps], blk bkb1 27 [.slice az nz cz, .slice aws nws cws, .slice avs nvs cvs]]) (fun _ h => h) ?_
            refine rKnow (fun w hs => (show OwnR ndK 88 2 ay1 ny1 cy1 Hy1 z w from hs.at_ 0 rfl).1) (fun lenn4 => ?_)
            refine rKnow (fun w hs => (show OwnR maK 53 2 ayw1 nyw1 cyw1 Hyw1 ws w from hs.at_ 1 rfl).1) (fun lenn5 => ?_)
            refine rKnow (fun w hs => (show OwnR maK 53 2 ayv1 nyv1 cyv1 Hyv1 vs w from hs.at_ 2 rfl).1) (fun lenn6 => ?_)
            refine rAlt ?_ ?_
            ·
              refine callS Try.call12 (by exact (fun _ _ h => h.pick [4, 4, 4])) rfl rfl (fun w hs => laws_toStrategy_c _ _ nps cps _ _ w (Kn.drop (k := 6) kps w hs) (by first | assumption | omega)) ?_
              rintro ⟨ay2, ny2, cy2, Hy2, y2⟩ hr2
              dsimp only at hr2
              subst y2
              refine rPieces (L' := [OwnR maK 53 2 ay2 ny2 cy2 Hy2 ps, OwnR ndK 88 2 ay1 ny1 cy1 Hy1 z, OwnR maK 53 2 ayw1 nyw1 cyw1 Hyw1 ws, OwnR maK 53 2 ayv1 nyv1 cyv1 Hyv1 vs, blk bkb3 29 [.int .i64 ql, .slice aqs nqs cqs], blk bkb2 29 [.int .i64 pl, .slice aps nps cps], blk bkb1 27 [.slice az nz cz, .slice aws nws cws, .slice avs nvs cvs]]) (fun _ h => h) ?_
              refine rKnow (fun w hs => (show OwnR maK 53 2 ay2 ny2 cy2 Hy2 ps w from hs.at_ 0 rfl).1) (fun lenn7 => ?_)
              refine rAlt ?_ ?_
              ·
                refine callS Try.call12 (by exact (fun _ _ h => h.pick [5, 5, 5])) rfl rfl (fun w hs => laws_toStrategy_c _ _ nqs cqs _ _ w (Kn.drop (k := 7) kqs w hs) (by first | assumption | omega)) ?_
                rintro ⟨ay3, ny3, cy3, Hy3, y3⟩ hr3
                dsimp only at hr3
                subst y3
                refine rPieces (L' := [OwnR maK 53 2 ay3 ny3 cy3 Hy3 qs, OwnR maK 53 2 ay2 ny2 cy2 Hy2 ps, OwnR ndK 88 2 ay1 ny1 cy1 Hy1 z, OwnR maK 53 2 ayw1 nyw1 cyw1 Hyw1 ws, OwnR maK 53 2 ayv1 nyv1 cyv1 Hyv1 vs, blk bkb3 29 [.int .i64 ql, .slice aqs nqs cqs], blk bkb2 29 [.int .i64 pl, .slice aps nps cps], blk bkb1 27 [.slice az nz cz, .slice aws nws cws, .slice avs nvs cvs]]) (fun _ h => h) ?_
                refine rKnow (fun w hs => (show OwnR maK 53 2 ay3 ny3 cy3 Hy3 qs w from hs.at_ 0 rfl).1) (fun lenn8 => ?_)
                refine rAlt ?_ ?_
                ·
                  refine callS Try.call18 (by exact (fun _ _ h => h.pick [6, 6, 6])) rfl rfl (fun w hs => spec_MixStrategies_c _ ny1 cy1 _ _ _ nyw1 cyw1 _ _ _ nyv1 cyv1 _ _ _ _ ny2 cy2 _ _ _ _ ny3 cy3 _ _ _ w (OwnR.rd (hs.at_ 2 rfl) ndK.ok) (OwnR.rd (hs.at_ 3 rfl) maK.ok) (OwnR.rd (hs.at_ 4 rfl) maK.ok) (OwnR.rd (hs.at_ 1 rfl) maK.ok) (OwnR.rd (hs.at_ 0 rfl) maK.ok)) ?_
                  rintro ⟨y04, ay4, ny4, cy4, Hy4, y4, q4⟩ ⟨hr4a, hr4b, hr4c⟩
                  dsimp only at hr4a hr4b hr4c
                  subst y04
                  subst y4
                  subst q4
                  refine rPieces (L' := [OwnR maK 53 2 ay4 ny4 cy4 Hy4 ((((Math.mixAt z ws vs pl ps ql qs n).1.2))), OwnR maK 53 2 ay3 ny3 cy3 Hy3 qs, OwnR maK 53 2 ay2 ny2 cy2 Hy2 ps, OwnR ndK 88 2 ay1 ny1 cy1 Hy1 z, OwnR maK 53 2 ayw1 nyw1 cyw1 Hyw1 ws, OwnR maK 53 2 ayv1 nyv1 cyv1 Hyv1 vs, blk bkb3 29 [.int .i64 ql, .slice aqs nqs cqs], blk bkb2 29 [.int .i64 pl, .slice aps nps cps], blk bkb1 27 [.slice az nz cz, .slice aws nws cws, .slice avs nvs cvs]]) (fun _ h => h) ?_
                  refine rKnow (fun w hs => (show OwnR maK 53 2 ay4 ny4 cy4 Hy4 ((((Math.mixAt z ws vs pl ps ql qs n).1.2))) w from hs.at_ 0 rfl).1) (fun lenn9 => ?_)
                  refine mv rfl rfl rfl ?_
                  refine ext rfl rfl rfl rfl ?_
                  refine ext rfl rfl rfl rfl ?_
                  refine alc Try.zeroValue40 rfl (fun _ _ h => h.pick [7, 7, 7]) rfl rfl (fun bka10 hbka10 => ?_)
                  refine stAl (vs := [.int .i64 ((((Math.mixAt z ws vs pl ps ql qs n).1.1))), .slice ay4 ny4 cy4]) 0 rfl Try.sizeOf40 (fun _ h => h.pick [7, 7, 7]) rfl rfl rfl rfl rfl (by simp [Value.oneCell']) rfl ?_
                  refine asI rfl rfl rfl ?_
                  refine rNil ?_
                  exact qLoop rfl fun w h => ⟨(bka10, ay4, ny4, cy4, Hy4, ay3, ny3, cy3, Hy3, ay2, ny2, cy2, Hy2, ay1, ny1, cy1, Hy1, ayw1, nyw1, cyw1, Hyw1, ayv1, nyv1, cyv1, Hyv1), ⟨by dsimp only; omega, by dsimp only; omega, by dsimp only; omega, by dsimp only; omega, by dsimp only; omega, by dsimp only; omega⟩, ⟨rfl, rfl, rfl, rfl, rfl, rfl, trivial⟩, h⟩
                ·
                  refine alc Try.zeroValue40 rfl (fun _ _ h => h.pick [6, 6, 6]) rfl rfl (fun bka11 hbka11 => ?_)
                  refine callS Try.call18 (by exact (fun _ _ h => h.pick [7, 7, 7])) rfl rfl (fun w hs => spec_MixStrategies_c _ ny1 cy1 _ _ _ nyw1 cyw1 _ _ _ nyv1 cyv1 _ _ _ _ ny2 cy2 _ _ _ _ ny3 cy3 _ _ _ w (OwnR.rd (hs.at_ 3 rfl) ndK.ok) (OwnR.rd (hs.at_ 4 rfl) maK.ok) (OwnR.rd (hs.at_ 5 rfl) maK.ok) (OwnR.rd (hs.at_ 2 rfl) maK.ok) (OwnR.rd (hs.at_ 1 rfl) maK.ok)) ?_
                  rintro ⟨y05, ay5, ny5, cy5, Hy5, y5, q5⟩ ⟨hr5a, hr5b, hr5c⟩
                  dsimp only at hr5a hr5b hr5c
                  subst y05
                  subst y5
                  subst q5
                  refine rPieces (L' := [OwnR maK 53 2 ay5 ny5 cy5 Hy5 ((((Math.mixAt z ws vs pl ps ql qs n).1.2))), blk bka11 40 [.int .i64 0, .slice none 0 0], OwnR maK 53 2 ay3 ny3 cy3 Hy3 qs, OwnR maK 53 2 ay2 ny2 cy2 Hy2 ps, OwnR ndK 88 2 ay1 ny1 cy1 Hy1 z, OwnR maK 53 2 ayw1 nyw1 cyw1 Hyw1 ws, OwnR maK 53 2 ayv1 nyv1 cyv1 Hyv1 vs, blk bkb3 29 [.int .i64 ql, .slice aqs nqs cqs], blk bkb2 29 [.int .i64 pl, .slice aps nps cps], blk bkb1 27 [.slice az nz cz, .slice aws nws cws, .slice avs nvs cvs]]) (fun _ h => h) ?_
                  refine rKnow (fun w hs => (show OwnR maK 53 2 ay5 ny5 cy5 Hy5 ((((Math.mixAt z ws vs pl ps ql qs n).1.2))) w from hs.at_ 0 rfl).1) (fun lenn12 => ?_)
                  refine mv rfl rfl rfl ?_
                  refine ext rfl rfl rfl rfl ?_
                  refine ext rfl rfl rfl rfl ?_
                  refine stAl (vs := [.int .i64 ((((Math.mixAt z ws vs pl ps ql qs n).1.1))), .slice ay5 ny5 cy5]) 1 rfl Try.sizeOf40 (fun _ h => h.pick [7, 7, 7]) rfl rfl rfl rfl rfl (by simp [Value.oneCell']) rfl ?_
                  refine asI rfl rfl rfl ?_
                  refine rNil ?_
                  exact qLoop rfl fun w h => ⟨(bka11, ay5, ny5, cy5, Hy5, ay3, ny3, cy3, Hy3, ay2, ny2, cy2, Hy2, ay1, ny1, cy1, Hy1, ayw1, nyw1, cyw1, Hyw1, ayv1, nyv1, cyv1, Hyv1), ⟨by dsimp only; omega, by dsimp only; omega, by dsimp only; omega, by dsimp only; omega, by dsimp only; omega, by dsimp only; omega⟩, ⟨rfl, rfl, rfl, rfl, rfl, rfl, trivial⟩, (h.perm (pull (i := 1) rfl))⟩
              ·
                refine alc Try.zeroValue40 rfl (fun _ _ h => h.pick [5, 5, 5]) rfl rfl (fun bka13 hbka13 => ?_)
                refine callS Try.call12 (by exact (fun _ _ h => h.pick [6, 6, 6])) rfl rfl (fun w hs => laws_toStrategy_c _ _ nqs cqs _ _ w (Kn.drop (k := 8) kqs w hs) (by first | assumption | omega)) ?_
                rintro ⟨ay6, ny6, cy6, Hy6, y6⟩ hr6
                dsimp only at hr6
                subst y6
                refine rPieces (L' := [OwnR maK 53 2 ay6 ny6 cy6 Hy6 qs, blk bka13 40 [.int .i64 0, .slice none 0 0], OwnR maK 53 2 ay2 ny2 cy2 Hy2 ps, OwnR ndK 88 2 ay1 ny1 cy1 Hy1 z, OwnR maK 53 2 ayw1 nyw1 cyw1 Hyw1 ws, OwnR maK 53 2 ayv1 nyv1 cyv1 Hyv1 vs, blk bkb3 29 [.int .i64 ql, .slice aqs nqs cqs], blk bkb2 29 [.int .i64 pl, .slice aps nps cps], blk bkb1 27 [.slice az nz cz, .slice aws nws cws, .slice avs nvs cvs]]) (fun _ h => h) ?_
                refine rKnow (fun w hs => (show OwnR maK 53 2 ay6 ny6 cy6 Hy6 qs w from hs.at_ 0 rfl).1) (fun lenn14 => ?_)
                refine callS Try.call18 (by exact (fun _ _ h => h.pick [7, 7, 7])) rfl rfl (fun w hs => spec_MixStrategies_c _ ny1 cy1 _ _ _ nyw1 cyw1 _ _ _ nyv1 cyv1 _ _ _ _ ny2 cy2 _ _ _ _ ny6 cy6 _ _ _ w (OwnR.rd (hs.at_ 3 rfl) ndK.ok) (OwnR.rd (hs.at_ 4 rfl) maK.ok) (OwnR.rd (hs.at_ 5 rfl) maK.ok) (OwnR.rd (hs.at_ 2 rfl) maK.ok) (OwnR.rd (hs.at_ 0 rfl) maK.ok)) ?_
                rintro ⟨y07, ay7, ny7, cy7, Hy7, y7, q7⟩ ⟨hr7a, hr7b, hr7c⟩
                dsimp only at hr7a hr7b hr7c
                subst y07
                subst y7
                subst q7
                refine rPieces (L' := [OwnR maK 53 2 ay7 ny7 cy7 Hy7 ((((Math.mixAt z ws vs pl ps ql qs n).1.2))), OwnR maK 53 2 ay6 ny6 cy6 Hy6 qs, blk bka13 40 [.int .i64 0, .slice none 0 0], OwnR maK 53 2 ay2 ny2 cy2 Hy2 ps, OwnR ndK 88 2 ay1 ny1 cy1 Hy1 z, OwnR maK 53 2 ayw1 nyw1 cyw1 Hyw1 ws, OwnR maK 53 2 ayv1 nyv1 cyv1 Hyv1 vs, blk bkb3 29 [.int .i64 ql, .slice aqs nqs cqs], blk bkb2 29 [.int .i64 pl, .slice aps nps cps], blk bkb1 27 [.slice az nz cz, .slice aws nws cws, .slice avs nvs cvs]]) (fun _ h => h) ?_
                refine rKnow (fun w hs => (show OwnR maK 53 2 ay7 ny7 cy7 Hy7 ((((Math.mixAt z ws vs pl ps ql qs n).1.2))) w from hs.at_ 0 rfl).1) (fun lenn15 => ?_)
                refine mv rfl rfl rfl ?_
                refine ext rfl rfl rfl rfl ?_
                refine ext rfl rfl rfl rfl ?_
                refine stAl (vs := [.int .i64 ((((Math.mixAt z ws vs pl ps ql qs n).1.1))), .slice ay7 ny7 cy7]) 2 rfl Try.sizeOf40 (fun _ h => h.pick [7, 7, 7]) rfl rfl rfl rfl rfl (by simp [Value.oneCell']) rfl ?_
                refine asI rfl rfl rfl ?_
                refine rNil ?_
                exact qLoop rfl fun w h => ⟨(bka13, ay7, ny7, cy7, Hy7, ay6, ny6, cy6, Hy6, ay2, ny2, cy2, Hy2, ay1, ny1, cy1, Hy1, ayw1, nyw1, cyw1, Hyw1, ayv1, nyv1, cyv1, Hyv1), ⟨by dsimp only; omega, by dsimp only; omega, by dsimp only; omega, by dsimp only; omega, by dsimp only; omega, by dsimp only; omega⟩, ⟨rfl, rfl, rfl, rfl, rfl, rfl, trivial⟩, (h.perm (pull (i := 2) rfl))⟩
            ·
              refine alc Try.zeroValue40 rfl (fun _ _ h => h.pick [4, 4, 4]) rfl rfl (fun bka16 hbka16 => ?_)
              refine callS Try.call12 (by exact (fun _ _ h => h.pick [5, 5, 5])) rfl rfl (fun w hs => laws_toStrategy_c _ _ nps cps _ _ w (Kn.drop (k := 7) kps w hs) (by first | assumption | omega)) ?_
              rintro ⟨ay8, ny8, cy8, Hy8, y8⟩ hr8
              dsimp only at hr8
              subst y8
              refine rPieces (L' := [OwnR maK 53 2 ay8 ny8 cy8 Hy8 ps, blk bka16 40 [.int .i64 0, .slice none 0 0], OwnR ndK 88 2 ay1 ny1 cy1 Hy1 z, OwnR maK 53 2 ayw1 nyw1 cyw1 Hyw1 ws, OwnR maK 53 2 ayv1 nyv1 cyv1 Hyv1 vs, blk bkb3 29 [.int .i64 ql, .slice aqs nqs cqs], blk bkb2 29 [.int .i64 pl, .slice aps nps cps], blk bkb1 27 [.slice az nz cz, .slice aws nws cws, .slice avs nvs cvs]]) (fun _ h => h) ?_
              refine rKnow (fun w hs => (show OwnR maK 53 2 ay8 ny8 cy8 Hy8 ps w from hs.at_ 0 rfl).1) (fun lenn17 => ?_)
              refine callS Try.call12 (by exact (fun _ _ h => h.pick [6, 6, 6])) rfl rfl (fun w hs => laws_toStrategy_c _ _ nqs cqs _ _ w (Kn.drop (k := 8) kqs w hs) (by first | assumption | omega)) ?_
              rintro ⟨ay9, ny9, cy9, Hy9, y9⟩ hr9
              dsimp only at hr9
              subst y9
              refine rPieces (L' := [OwnR maK 53 2 ay9 ny9 cy9 Hy9 qs, OwnR maK 53 2 ay8 ny8 cy8 Hy8 ps, blk bka16 40 [.int .i64 0, .slice none 0 0], OwnR ndK 88 2 ay1 ny1 cy1 Hy1 z, OwnR maK 53 2 ayw1 nyw1 cyw1 Hyw1 ws, OwnR maK 53 2 ayv1 nyv1 cyv1 Hyv1 vs, blk bkb3 29 [.int .i64 ql, .slice aqs nqs cqs], blk bkb2 29 [.int .i64 pl, .slice aps nps cps], blk bkb1 27 [.slice az nz cz, .slice aws nws cws, .slice avs nvs cvs]]) (fun _ h => h) ?_
              refine rKnow (fun w hs => (show OwnR maK 53 2 ay9 ny9 cy9 Hy9 qs w from hs.at_ 0 rfl).1) (fun lenn18 => ?_)
              refine callS Try.call18 (by exact (fun _ _ h => h.pick [7, 7, 7])) rfl rfl (fun w hs => spec_MixStrategies_c _ ny1 cy1 _ _ _ nyw1 cyw1 _ _ _ nyv1 cyv1 _ _ _ _ ny8 cy8 _ _ _ _ ny9 cy9 _ _ _ w (OwnR.rd (hs.at_ 3 rfl) ndK.ok) (OwnR.rd (hs.at_ 4 rfl) maK.ok) (OwnR.rd (hs.at_ 5 rfl) maK.ok) (OwnR.rd (hs.at_ 1 rfl) maK.ok) (OwnR.rd (hs.at_ 0 rfl) maK.ok)) ?_
              rintro ⟨y010, ay10, ny10, cy10, Hy10, y10, q10⟩ ⟨hr10a, hr10b, hr10c⟩
              dsimp only at hr10a hr10b hr10c
              subst y010
              subst y10
              subst q10
              refine rPieces (L' := [OwnR maK 53 2 ay10 ny10 cy10 Hy10 ((((Math.mixAt z ws vs pl ps ql qs n).1.2))), OwnR maK 53 2 ay9 ny9 cy9 Hy9 qs, OwnR maK 53 2 ay8 ny8 cy8 Hy8 ps, blk bka16 40 [.int .i64 0, .slice none 0 0], OwnR ndK 88 2 ay1 ny1 cy1 Hy1 z, OwnR maK 53 2 ayw1 nyw1 cyw1 Hyw1 ws, OwnR maK 53 2 ayv1 nyv1 cyv1 Hyv1 vs, blk bkb3 29 [.int .i64 ql, .slice aqs nqs cqs], blk bkb2 29 [.int .i64 pl, .slice aps nps cps], blk bkb1 27 [.slice az nz cz, .slice aws nws cws, .slice avs nvs cvs]]) (fun _ h => h) ?_
              refine rKnow (fun w hs => (show OwnR maK 53 2 ay10 ny10 cy10 Hy10 ((((Math.mixAt z ws vs pl ps ql qs n).1.2))) w from hs.at_ 0 rfl).1) (fun lenn19 => ?_)
              refine mv rfl rfl rfl ?_
              refine ext rfl rfl rfl rfl ?_
              refine ext rfl rfl rfl rfl ?_
              refine stAl (vs := [.int .i64 ((((Math.mixAt z ws vs pl ps ql qs n).1.1))), .slice ay10 ny10 cy10]) 3 rfl Try.sizeOf40 (fun _ h => h.pick [7, 7, 7]) rfl rfl rfl rfl rfl (by simp [Value.oneCell']) rfl ?_
              refine asI rfl rfl rfl ?_
              refine rNil ?_
              exact qLoop rfl fun w h => ⟨(bka16, ay10, ny10, cy10, Hy10, ay9, ny9, cy9, Hy9, ay8, ny8, cy8, Hy8, ay1, ny1, cy1, Hy1, ayw1, nyw1, cyw1, Hyw1, ayv1, nyv1, cyv1, Hyv1), ⟨by dsimp only; omega, by dsimp only; omega, by dsimp only; omega, by dsimp only; omega, by dsimp only; omega, by dsimp only; omega⟩, ⟨rfl, rfl, rfl, rfl, rfl, rfl, trivial⟩, (h.perm (pull (i := 3) rfl))⟩
          ·
            refine alc Try.zeroValue40 rfl (fun _ _ h => h.pick [1, 1, 1]) rfl rfl (fun bka20 hbka20 => ?_)
            refine callS Try.call11 (by exact (fun _ _ h => h.pick [4, 4, 4])) rfl rfl (fun w hs => laws_toGame_c _ nz cz _ _ _ nws cws _ _ _ nvs cvs _ _ w (Kn.drop (k := 4) kz w hs) (Kn.drop (k := 4) kws w hs) (Kn.drop (k := 4) kvs w hs) (by first | assumption | omega) (by first | assumption | omega) (by first | assumption | omega)) ?_
            rintro ⟨ay11, ny11, cy11, Hy11, y11, ayw11, nyw11, cyw11, Hyw11, yw11, ayv11, nyv11, cyv11, Hyv11, yv11⟩ ⟨hr11a, hr11b, hr11c⟩
            dsimp only at hr11a hr11b hr11c
            subst y11
            subst yw11
            subst yv11
            refine rPieces (L' := [OwnR ndK 88 2 ay11 ny11 cy11 Hy11 z, OwnR maK 53 2 ayw11 nyw11 cyw11 Hyw11 ws, OwnR maK 53 2 ayv11 nyv11 cyv11 Hyv11 vs, blk bka20 40 [.int .i64 0, .slice none 0 0], blk bkb3 29 [.int .i64 ql, .slice aqs nqs cqs], blk bkb2 29 [.int .i64 pl, .slice aps nps cps], blk bkb1 27 [.slice az nz cz, .slice aws nws cws, .slice avs nvs cvs]]) (fun _ h => h) ?_
            refine rKnow (fun w hs => (show OwnR ndK 88 2 ay11 ny11 cy11 Hy11 z w from hs.at_ 0 rfl).1) (fun lenn21 => ?_)
            refine rKnow (fun w hs => (show OwnR maK 53 2 ayw11 nyw11 cyw11 Hyw11 ws w from hs.at_ 1 rfl).1) (fun lenn22 => ?_)
            refine rKnow (fun w hs => (show OwnR maK 53 2 ayv11 nyv11 cyv11 Hyv11 vs w from hs.at_ 2 rfl).1) (fun lenn23 => ?_)
            refine callS Try.call12 (by exact (fun _ _ h => h.pick [5, 5, 5])) rfl rfl (fun w hs => laws_toStrategy_c _ _ nps cps _ _ w (Kn.drop (k := 7) kps w hs) (by first | assumption | omega)) ?_
            rintro ⟨ay12, ny12, cy12, Hy12, y12⟩ hr12
            dsimp only at hr12
            subst y12
            refine rPieces (L' := [OwnR maK 53 2 ay12 ny12 cy12 Hy12 ps, OwnR ndK 88 2 ay11 ny11 cy11 Hy11 z, OwnR maK 53 2 ayw11 nyw11 cyw11 Hyw11 ws, OwnR maK 53 2 ayv11 nyv11 cyv11 Hyv11 vs, blk bka20 40 [.int .i64 0, .slice none 0 0], blk bkb3 29 [.int .i64 ql, .slice aqs nqs cqs], blk bkb2 29 [.int .i64 pl, .slice aps nps cps], blk bkb1 27 [.slice az nz cz, .slice aws nws cws, .slice avs nvs cvs]]) (fun _ h => h) ?_
            refine rKnow (fun w hs => (show OwnR maK 53 2 ay12 ny12 cy12 Hy12 ps w from hs.at_ 0 rfl).1) (fun lenn24 => ?_)
            refine callS Try.call12 (by exact (fun _ _ h => h.pick [6, 6, 6])) rfl rfl (fun w hs => laws_toStrategy_c _ _ nqs cqs _ _ w (Kn.drop (k := 8) kqs w hs) (by first | assumption | omega)) ?_
            rintro ⟨ay13, ny13, cy13, Hy13, y13⟩ hr13
            dsimp only at hr13
            subst y13
            refine rPieces (L' := [OwnR maK 53 2 ay13 ny13 cy13 Hy13 qs, OwnR maK 53 2 ay12 ny12 cy12 Hy12 ps, OwnR ndK 88 2 ay11 ny11 cy11 Hy11 z, OwnR maK 53 2 ayw11 nyw11 cyw11 Hyw11 ws, OwnR maK 53 2 ayv11 nyv11 cyv11 Hyv11 vs, blk bka20 40 [.int .i64 0, .slice none 0 0], blk bkb3 29 [.int .i64 ql, .slice aqs nqs cqs], blk bkb2 29 [.int .i64 pl, .slice aps nps cps], blk bkb1 27 [.slice az nz cz, .slice aws nws cws, .slice avs nvs cvs]]) (fun _ h => h) ?_
            refine rKnow (fun w hs => (show OwnR maK 53 2 ay13 ny13 cy13 Hy13 qs w from hs.at_ 0 rfl).1) (fun lenn25 => ?_)
            refine callS Try.call18 (by exact (fun _ _ h => h.pick [7, 7, 7])) rfl rfl (fun w hs => spec_MixStrategies_c _ ny11 cy11 _ _ _ nyw11 cyw11 _ _ _ nyv11 cyv11 _ _ _ _ ny12 cy12 _ _ _ _ ny13 cy13 _ _ _ w (OwnR.rd (hs.at_ 2 rfl) ndK.ok) (OwnR.rd (hs.at_ 3 rfl) maK.ok) (OwnR.rd (hs.at_ 4 rfl) maK.ok) (OwnR.rd (hs.at_ 1 rfl) maK.ok) (OwnR.rd (hs.at_ 0 rfl) maK.ok)) ?_
            rintro ⟨y014, ay14, ny14, cy14, Hy14, y14, q14⟩ ⟨hr14a, hr14b, hr14c⟩
            dsimp only at hr14a hr14b hr14c
            subst y014
            subst y14
            subst q14
            refine rPieces (L' := [OwnR maK 53 2 ay14 ny14 cy14 Hy14 ((((Math.mixAt z ws vs pl ps ql qs n).1.2))), OwnR maK 53 2 ay13 ny13 cy13 Hy13 qs, OwnR maK 53 2 ay12 ny12 cy12 Hy12 ps, OwnR ndK 88 2 ay11 ny11 cy11 Hy11 z, OwnR maK 53 2 ayw11 nyw11 cyw11 Hyw11 ws, OwnR maK 53 2 ayv11 nyv11 cyv11 Hyv11 vs, blk bka20 40 [.int .i64 0, .slice none 0 0], blk bkb3 29 [.int .i64 ql, .slice aqs nqs cqs], blk bkb2 29 [.int .i64 pl, .slice aps nps cps], blk bkb1 27 [.slice az nz cz, .slice aws nws cws, .slice avs nvs cvs]]) (fun _ h => h) ?_
            refine rKnow (fun w hs => (show OwnR maK 53 2 ay14 ny14 cy14 Hy14 ((((Math.mixAt z ws vs pl ps ql qs n).1.2))) w from hs.at_ 0 rfl).1) (fun lenn26 => ?_)
            refine mv rfl rfl rfl ?_
            refine ext rfl rfl rfl rfl ?_
            refine ext rfl rfl rfl rfl ?_
            refine stAl (vs := [.int .i64 ((((Math.mixAt z ws vs pl ps ql qs n).1.1))), .slice ay14 ny14 cy14]) 6 rfl Try.sizeOf40 (fun _ h => h.pick [7, 7, 7]) rfl rfl rfl rfl rfl (by simp [Value.oneCell']) rfl ?_
            refine asI rfl rfl rfl ?_
            refine rNil ?_
            exact qLoop rfl fun w h => ⟨(bka20, ay14, ny14, cy14, Hy14, ay13, ny13, cy13, Hy13, ay12, ny12, cy12, Hy12, ay11, ny11, cy11, Hy11, ayw11, nyw11, cyw11, Hyw11, ayv11, nyv11, cyv11, Hyv11), ⟨by dsimp only; omega, by dsimp only; omega, by dsimp only; omega, by dsimp only; omega, by dsimp only; omega, by dsimp only; omega⟩, ⟨rfl, rfl, rfl, rfl, rfl, rfl, trivial⟩, (h.perm (pull (i := 6) rfl))⟩
        ·
          rintro ⟨bka10, ay4, ny4, cy4, Hy4, ay3, ny3, cy3, Hy3, ay2, ny2, cy2, Hy2, ay1, ny1, cy1, Hy1, ayw1, nyw1, cyw1, Hyw1, ayv1, nyv1, cyv1, Hyv1⟩ τm ⟨lkn9, lkn8, lkn7, lkn4, lkn5, lkn6⟩
          dsimp only at lkn9 lkn8 lkn7 lkn4 lkn5 lkn6
          refine qSeq rfl ?_
          refine hRe [(3, .int .i64 n), (4, .pointer (some ⟨bkb1, 0, none⟩)), (5, .pointer (some ⟨bkb2, 0, none⟩)), (6, .pointer (some ⟨bkb3, 0, none⟩)), (10, .pointer (some ⟨bka10, 0, none⟩)), (11, .int .i64 ((((Math.mixAt z ws vs pl ps ql qs n).2))))] [blk bka10 40 [.int .i64 ((((Math.mixAt z ws vs pl ps ql qs n).1.1))), .slice ay4 ny4 cy4], OwnR maK 53 2 ay4 ny4 cy4 Hy4 ((((Math.mixAt z ws vs pl ps ql qs n).1.2))), OwnR maK 53 2 ay3 ny3 cy3 Hy3 qs, OwnR maK 53 2 ay2 ny2 cy2 Hy2 ps, OwnR ndK 88 2 ay1 ny1 cy1 Hy1 z, OwnR maK 53 2 ayw1 nyw1 cyw1 Hyw1 ws, OwnR maK 53 2 ayv1 nyv1 cyv1 Hyv1 vs, blk bkb3 29 [.int .i64 ql, .slice aqs nqs cqs], blk bkb2 29 [.int .i64 pl, .slice aps nps cps], blk bkb1 27 [.slice az nz cz, .slice aws nws cws, .slice avs nvs cvs]] rfl rfl ?_
          refine hSeq ?_
          refine hReg (sl 0 (sl 1 (sl 2 (sl 3 sz)))) (by kernel_rfl) ?_
          refine ldAl Try.isAgg27 Try.sizeOf27 (cBs 9 rfl) trv rfl rfl rfl rfl ?_
          refine callS Try.call11 trv1 rfl rfl (fun w hs => laws_toGame_c _ nz cz _ _ _ nws cws _ _ _ nvs cvs _ _ w (Kn.drop (k := 10) kz w hs) (Kn.drop (k := 10) kws w hs) (Kn.drop (k := 10) kvs w hs) (by first | assumption | omega) (by first | assumption | omega) (by first | assumption | omega)) ?_
          rintro ⟨ay15, ny15, cy15, Hy15, y15, ayw15, nyw15, cyw15, Hyw15, yw15, ayv15, nyv15, cyv15, Hyv15, yv15⟩ ⟨hr15a, hr15b, hr15c⟩
          dsimp only at hr15a hr15b hr15c
          subst y15
          subst yw15
          subst yv15
          refine rPieces (L' := [OwnR ndK 88 2 ay15 ny15 cy15 Hy15 z, OwnR maK 53 2 ayw15 nyw15 cyw15 Hyw15 ws, OwnR maK 53 2 ayv15 nyv15 cyv15 Hyv15 vs, blk bka10 40 [.int .i64 ((((Math.mixAt z ws vs pl ps ql qs n).1.1))), .slice ay4 ny4 cy4], OwnR maK 53 2 ay4 ny4 cy4 Hy4 ((((Math.mixAt z ws vs pl ps ql qs n).1.2))), OwnR maK 53 2 ay3 ny3 cy3 Hy3 qs, OwnR maK 53 2 ay2 ny2 cy2 Hy2 ps, OwnR ndK 88 2 ay1 ny1 cy1 Hy1 z, OwnR maK 53 2 ayw1 nyw1 cyw1 Hyw1 ws, OwnR maK 53 2 ayv1 nyv1 cyv1 Hyv1 vs, blk bkb3 29 [.int .i64 ql, .slice aqs nqs cqs], blk bkb2 29 [.int .i64 pl, .slice aps nps cps], blk bkb1 27 [.slice az nz cz, .slice aws nws cws, .slice avs nvs cvs]]) (fun _ h => h) ?_
          refine rKnow (fun w hs => (show OwnR ndK 88 2 ay15 ny15 cy15 Hy15 z w from hs.at_ 0 rfl).1) (fun lenn27 => ?_)
          refine rKnow (fun w hs => (show OwnR maK 53 2 ayw15 nyw15 cyw15 Hyw15 ws w from hs.at_ 1 rfl).1) (fun lenn28 => ?_)
          refine rKnow (fun w hs => (show OwnR maK 53 2 ayv15 nyv15 cyv15 Hyv15 vs w from hs.at_ 2 rfl).1) (fun lenn29 => ?_)
          refine alc Try.zeroValue38 rfl trv1 rfl rfl (fun bka30 hbka30 => ?_)
          refine stAl (vs := [.slice ay15 ny15 cy15, .slice ayw15 nyw15 cyw15, .slice ayv15 nyv15 cyv15]) 0 rfl Try.sizeOf38 trv rfl rfl rfl rfl rfl (by simp [Value.oneCell']) rfl ?_
          refine rNil ?_
          refine qSeq rfl ?_
          refine hSeq ?_
          refine hReg (sl 0 (sl 1 (sl 2 (sl 3 sz)))) (by kernel_rfl) ?_
          refine ldAl Try.isAgg29 Try.sizeOf29 (cBs 12 rfl) trv rfl rfl rfl rfl ?_
          refine callS Try.call12 trv1 rfl rfl (fun w hs => laws_toStrategy_c _ _ nps cps _ _ w (Kn.drop (k := 14) kps w hs) (by first | assumption | omega)) ?_
          rintro ⟨ay16, ny16, cy16, Hy16, y16⟩ hr16
          dsimp only at hr16
          subst y16
          refine rPieces (L' := [OwnR maK 53 2 ay16 ny16 cy16 Hy16 ps, blk bka30 38 [.slice ay15 ny15 cy15, .slice ayw15 nyw15 cyw15, .slice ayv15 nyv15 cyv15], OwnR ndK 88 2 ay15 ny15 cy15 Hy15 z, OwnR maK 53 2 ayw15 nyw15 cyw15 Hyw15 ws, OwnR maK 53 2 ayv15 nyv15 cyv15 Hyv15 vs, blk bka10 40 [.int .i64 ((((Math.mixAt z ws vs pl ps ql qs n).1.1))), .slice ay4 ny4 cy4], OwnR maK 53 2 ay4 ny4 cy4 Hy4 ((((Math.mixAt z ws vs pl ps ql qs n).1.2))), OwnR maK 53 2 ay3 ny3 cy3 Hy3 qs, OwnR maK 53 2 ay2 ny2 cy2 Hy2 ps, OwnR ndK 88 2 ay1 ny1 cy1 Hy1 z, OwnR maK 53 2 ayw1 nyw1 cyw1 Hyw1 ws, OwnR maK 53 2 ayv1 nyv1 cyv1 Hyv1 vs, blk bkb3 29 [.int .i64 ql, .slice aqs nqs cqs], blk bkb2 29 [.int .i64 pl, .slice aps nps cps], blk bkb1 27 [.slice az nz cz, .slice aws nws cws, .slice avs nvs cvs]]) (fun _ h => h) ?_
          refine rKnow (fun w hs => (show OwnR maK 53 2 ay16 ny16 cy16 Hy16 ps w from hs.at_ 0 rfl).1) (fun lenn31 => ?_)
          refine alc Try.zeroValue40 rfl trv1 rfl rfl (fun bka32 hbka32 => ?_)
          refine stAl (vs := [.int .i64 pl, .slice ay16 ny16 cy16]) 0 rfl Try.sizeOf40 trv rfl rfl rfl rfl rfl (by simp [Value.oneCell']) rfl ?_
          refine rNil ?_
          refine qSeq rfl ?_
          refine hSeq ?_
          refine hReg (sl 0 (sl 1 (sl 2 (sl 3 sz)))) (by kernel_rfl) ?_
          refine ldAl Try.isAgg29 Try.sizeOf29 (cBs 13 rfl) trv rfl rfl rfl rfl ?_
          refine callS Try.call12 trv1 rfl rfl (fun w hs => laws_toStrategy_c _ _ nqs cqs _ _ w (Kn.drop (k := 16) kqs w hs) (by first | assumption | omega)) ?_
          rintro ⟨ay17, ny17, cy17, Hy17, y17⟩ hr17
          dsimp only at hr17
          subst y17
          refine rPieces (L' := [OwnR maK 53 2 ay17 ny17 cy17 Hy17 qs, blk bka32 40 [.int .i64 pl, .slice ay16 ny16 cy16], OwnR maK 53 2 ay16 ny16 cy16 Hy16 ps, blk bka30 38 [.slice ay15 ny15 cy15, .slice ayw15 nyw15 cyw15, .slice ayv15 nyv15 cyv15], OwnR ndK 88 2 ay15 ny15 cy15 Hy15 z, OwnR maK 53 2 ayw15 nyw15 cyw15 Hyw15 ws, OwnR maK 53 2 ayv15 nyv15 cyv15 Hyv15 vs, blk bka10 40 [.int .i64 ((((Math.mixAt z ws vs pl ps ql qs n).1.1))), .slice ay4 ny4 cy4], OwnR maK 53 2 ay4 ny4 cy4 Hy4 ((((Math.mixAt z ws vs pl ps ql qs n).1.2))), OwnR maK 53 2 ay3 ny3 cy3 Hy3 qs, OwnR maK 53 2 ay2 ny2 cy2 Hy2 ps, OwnR ndK 88 2 ay1 ny1 cy1 Hy1 z, OwnR maK 53 2 ayw1 nyw1 cyw1 Hyw1 ws, OwnR maK 53 2 ayv1 nyv1 cyv1 Hyv1 vs, blk bkb3 29 [.int .i64 ql, .slice aqs nqs cqs], blk bkb2 29 [.int .i64 pl, .slice aps nps cps], blk bkb1 27 [.slice az nz cz, .slice aws nws cws, .slice avs nvs cvs]]) (fun _ h => h) ?_
          refine rKnow (fun w hs => (show OwnR maK 53 2 ay17 ny17 cy17 Hy17 qs w from hs.at_ 0 rfl).1) (fun lenn33 => ?_)
          refine alc Try.zeroValue40 rfl trv1 rfl rfl (fun bka34 hbka34 => ?_)
          refine stAl (vs := [.int .i64 ql, .slice ay17 ny17 cy17]) 0 rfl Try.sizeOf40 trv rfl rfl rfl rfl rfl (by simp [Value.oneCell']) rfl ?_
          refine rNil ?_
          refine qSeq rfl ?_
          refine hSeq ?_
          refine hReg (sl 0 (sl 1 (sl 2 (sq 3 (sl 4 (sq 5 (sq 6 (sq 7 (sl 8 (sl 9 (sq 10 sz))))))))))) (by kernel_rfl) ?_
          refine ldAl Try.isAgg38 Try.sizeOf38 (cBs 4 rfl) trv rfl rfl rfl rfl ?_
          refine ldAl Try.isAgg40 Try.sizeOf40 (cBs 2 rfl) trv rfl rfl rfl rfl ?_
          refine ldAl Try.isAgg40 Try.sizeOf40 (cBs 0 rfl) trv rfl rfl rfl rfl ?_
          refine mvI rfl rfl rfl ?_
          refine callS Try.call19 trv1 rfl rfl (fun w hs => impl_MixStrategies_c _ ny15 cy15 _ _ _ nyw15 cyw15 _ _ _ nyv15 cyv15 _ _ _ _ ny16 cy16 _ _ _ _ ny17 cy17 _ _ _ w (OwnR.rd (hs.at_ 5 rfl) ndK.ok) (OwnR.rd (hs.at_ 6 rfl) maK.ok) (OwnR.rd (hs.at_ 7 rfl) maK.ok) (OwnR.rd (hs.at_ 3 rfl) maK.ok) (OwnR.rd (hs.at_ 1 rfl) maK.ok)) ?_
          rintro ⟨y018, ay18, ny18, cy18, Hy18, y18, q18⟩ ⟨hr18a, hr18b, hr18c⟩
          dsimp only at hr18a hr18b hr18c
          subst y018
          subst y18
          subst q18
          refine rPieces (L' := [OwnR maK 53 2 ay18 ny18 cy18 Hy18 ((((Math.mixAt z ws vs pl ps ql qs n).1.2))), blk bka34 40 [.int .i64 ql, .slice ay17 ny17 cy17], OwnR maK 53 2 ay17 ny17 cy17 Hy17 qs, blk bka32 40 [.int .i64 pl, .slice ay16 ny16 cy16], OwnR maK 53 2 ay16 ny16 cy16 Hy16 ps, blk bka30 38 [.slice ay15 ny15 cy15, .slice ayw15 nyw15 cyw15, .slice ayv15 nyv15 cyv15], OwnR ndK 88 2 ay15 ny15 cy15 Hy15 z, OwnR maK 53 2 ayw15 nyw15 cyw15 Hyw15 ws, OwnR maK 53 2 ayv15 nyv15 cyv15 Hyv15 vs, blk bka10 40 [.int .i64 ((((Math.mixAt z ws vs pl ps ql qs n).1.1))), .slice ay4 ny4 cy4], OwnR maK 53 2 ay4 ny4 cy4 Hy4 ((((Math.mixAt z ws vs pl ps ql qs n).1.2))), OwnR maK 53 2 ay3 ny3 cy3 Hy3 qs, OwnR maK 53 2 ay2 ny2 cy2 Hy2 ps, OwnR ndK 88 2 ay1 ny1 cy1 Hy1 z, OwnR maK 53 2 ayw1 nyw1 cyw1 Hyw1 ws, OwnR maK 53 2 ayv1 nyv1 cyv1 Hyv1 vs, blk bkb3 29 [.int .i64 ql, .slice aqs nqs cqs], blk bkb2 29 [.int .i64 pl, .slice aps nps cps], blk bkb1 27 [.slice az nz cz, .slice aws nws cws, .slice avs nvs cvs]]) (fun _ h => h) ?_
          refine rKnow (fun w hs => (show OwnR maK 53 2 ay18 ny18 cy18 Hy18 ((((Math.mixAt z ws vs pl ps ql qs n).1.2))) w from hs.at_ 0 rfl).1) (fun lenn35 => ?_)
          refine mv rfl rfl rfl ?_
          refine ext rfl rfl rfl rfl ?_
          refine ext rfl rfl rfl rfl ?_
          refine alc Try.zeroValue40 rfl trv1 rfl rfl (fun bka36 hbka36 => ?_)
          refine stAl (vs := [.int .i64 ((((Math.mixAt z ws vs pl ps ql qs n).1.1))), .slice ay18 ny18 cy18]) 0 rfl Try.sizeOf40 trv rfl rfl rfl rfl rfl (by simp [Value.oneCell']) rfl ?_
          refine asI rfl rfl rfl ?_
          refine rNil ?_
          refine qSeq rfl ?_
          refine hSeq ?_
          refine hSeq ?_
          refine hReg (sl 0 (sl 1 (sl 2 (sq 3 (sq 4 (sq 5 (sq 6 (sq 7 (sq 8 sz))))))))) (by kernel_rfl) ?_
          refine ldAl Try.isAgg40 Try.sizeOf40 (cBs 0 rfl) trv rfl rfl rfl rfl ?_
          refine ldAl Try.isAgg40 Try.sizeOf40 (cBs 10 rfl) trv rfl rfl rfl rfl ?_
          refine callP (v := .bool true) Try.call15 trv rfl rfl (fun w hs => laws_eqStrategy_c _ _ ny18 cy18 _ _ _ _ ny4 cy4 _ _ w (OwnR.rd (hs.at_ 1 rfl) maK.ok) (OwnR.rd (hs.at_ 11 rfl) maK.ok) (by exact ⟨rfl, rfl⟩)) ?_
          refine not rfl rfl rfl ?_
          refine mvB rfl rfl rfl ?_
          refine mvI rfl rfl rfl ?_
          refine mvI rfl rfl rfl ?_
          refine neq rfl rfl rfl rfl ?_
          refine pickB rfl rfl rfl rfl ?_
          refine rNil ?_
          refine qSeq rfl ?_
          refine hIfD rfl (fun c4 => ?_) (fun c4 => ?_)
          · -- c4T
            replace c4 : (((Math.mixAt z ws vs pl ps ql qs n).2)) ≠ (((Math.mixAt z ws vs pl ps ql qs n).2)) := c4
            exact absurd rfl c4
          · -- c4F
            replace c4 : ¬ ((((Math.mixAt z ws vs pl ps ql qs n).2)) ≠ (((Math.mixAt z ws vs pl ps ql qs n).2))) := c4
            refine hSkip ?_
            refine qSeq rfl ?_
            refine hSeq ?_
            refine hSeq ?_
            refine hDraw (Ls := [blk bka30 38 [.slice ay15 ny15 cy15, .slice ayw15 nyw15 cyw15, .slice ayv15 nyv15 cyv15], blk bkb1 27 [.slice az nz cz, .slice aws nws cws, .slice avs nvs cvs]]) (by kernel_rfl) (sq 0 (sq 1 (sl 2 (sl 3 (sq 4 sz))))) (by kernel_rfl) (.cons _ (.cons _ (.cons _ (.cons _ (.cons _ (.cons _ (.cons_cons _ (.cons _ (.cons _ (.cons _ (.cons _ (.cons _ (.cons _ (.cons _ (.cons _ (.cons _ (.cons _ (.cons _ (.cons _ (.cons_cons _ .slnil)))))))))))))))))))) ?_
            refine ldAq Try.isAgg38 Try.sizeOf38 (cBs 0 rfl) rfl rfl rfl rfl ?_
            refine ldAq Try.isAgg27 Try.sizeOf27 (cBs 1 rfl) rfl rfl rfl rfl ?_
            refine callS Try.call11 (by exact (fun _ _ h => h.pick [9, 21])) rfl rfl (fun w hs => laws_toGame_c _ nz cz _ _ _ nws cws _ _ _ nvs cvs _ _ w (Kn.drop (k := 20) kz w hs) (Kn.drop (k := 20) kws w hs) (Kn.drop (k := 20) kvs w hs) (by first | assumption | omega) (by first | assumption | omega) (by first | assumption | omega)) ?_
            rintro ⟨ay19, ny19, cy19, Hy19, y19, ayw19, nyw19, cyw19, Hyw19, yw19, ayv19, nyv19, cyv19, Hyv19, yv19⟩ ⟨hr19a, hr19b, hr19c⟩
            dsimp only at hr19a hr19b hr19c
            subst y19
            subst yw19
            subst yv19
            refine rPieces (L' := [OwnR ndK 88 2 ay19 ny19 cy19 Hy19 z, OwnR maK 53 2 ayw19 nyw19 cyw19 Hyw19 ws, OwnR maK 53 2 ayv19 nyv19 cyv19 Hyv19 vs, blk bka36 40 [.int .i64 ((((Math.mixAt z ws vs pl ps ql qs n).1.1))), .slice ay18 ny18 cy18], OwnR maK 53 2 ay18 ny18 cy18 Hy18 ((((Math.mixAt z ws vs pl ps ql qs n).1.2))), blk bka34 40 [.int .i64 ql, .slice ay17 ny17 cy17], OwnR maK 53 2 ay17 ny17 cy17 Hy17 qs, blk bka32 40 [.int .i64 pl, .slice ay16 ny16 cy16], OwnR maK 53 2 ay16 ny16 cy16 Hy16 ps, blk bka30 38 [.slice ay15 ny15 cy15, .slice ayw15 nyw15 cyw15, .slice ayv15 nyv15 cyv15], OwnR ndK 88 2 ay15 ny15 cy15 Hy15 z, OwnR maK 53 2 ayw15 nyw15 cyw15 Hyw15 ws, OwnR maK 53 2 ayv15 nyv15 cyv15 Hyv15 vs, blk bka10 40 [.int .i64 ((((Math.mixAt z ws vs pl ps ql qs n).1.1))), .slice ay4 ny4 cy4], OwnR maK 53 2 ay4 ny4 cy4 Hy4 ((((Math.mixAt z ws vs pl ps ql qs n).1.2))), OwnR maK 53 2 ay3 ny3 cy3 Hy3 qs, OwnR maK 53 2 ay2 ny2 cy2 Hy2 ps, OwnR ndK 88 2 ay1 ny1 cy1 Hy1 z, OwnR maK 53 2 ayw1 nyw1 cyw1 Hyw1 ws, OwnR maK 53 2 ayv1 nyv1 cyv1 Hyv1 vs, blk bkb3 29 [.int .i64 ql, .slice aqs nqs cqs], blk bkb2 29 [.int .i64 pl, .slice aps nps cps], blk bkb1 27 [.slice az nz cz, .slice aws nws cws, .slice avs nvs cvs]]) (fun _ h => h) ?_
            refine rKnow (fun w hs => (show OwnR ndK 88 2 ay19 ny19 cy19 Hy19 z w from hs.at_ 0 rfl).1) (fun lenn37 => ?_)
            refine rKnow (fun w hs => (show OwnR maK 53 2 ayw19 nyw19 cyw19 Hyw19 ws w from hs.at_ 1 rfl).1) (fun lenn38 => ?_)
            refine rKnow (fun w hs => (show OwnR maK 53 2 ayv19 nyv19 cyv19 Hyv19 vs w from hs.at_ 2 rfl).1) (fun lenn39 => ?_)
            refine callP (v := .bool true) Try.call14 (fun _ h => h.pick [9, 21]) rfl rfl (fun w hs => laws_eqGame_c _ ny15 cy15 _ _ _ nyw15 cyw15 _ _ _ nyv15 cyv15 _ _ _ ny19 cy19 _ _ _ nyw19 cyw19 _ _ _ nyv19 cyv19 _ _ w (OwnR.rd (hs.at_ 10 rfl) ndK.ok) (OwnR.rd (hs.at_ 11 rfl) maK.ok) (OwnR.rd (hs.at_ 12 rfl) maK.ok) (OwnR.rd (hs.at_ 0 rfl) ndK.ok) (OwnR.rd (hs.at_ 1 rfl) maK.ok) (OwnR.rd (hs.at_ 2 rfl) maK.ok) (by exact ⟨rfl, rfl, rfl⟩)) ?_
            refine not rfl rfl rfl ?_
            refine rNil ?_
            refine qSeq rfl ?_
            refine hIfF rfl ?_
            refine hSkip ?_
            refine qSeq rfl ?_
            refine hSeq ?_
            refine hSeq ?_
            refine hDraw (Ls := [blk bka32 40 [.int .i64 pl, .slice ay16 ny16 cy16], blk bkb2 29 [.int .i64 pl, .slice aps nps cps]]) (by kernel_rfl) (sq 0 (sq 1 (sl 2 (sl 3 (sq 4 sz))))) (by kernel_rfl) (.cons _ (.cons _ (.cons _ (.cons _ (.cons _ (.cons _ (.cons _ (.cons_cons _ (.cons _ (.cons _ (.cons _ (.cons _ (.cons _ (.cons _ (.cons _ (.cons _ (.cons _ (.cons _ (.cons _ (.cons _ (.cons _ (.cons_cons _ (.cons _ .slnil))))))))))))))))))))))) ?_
            refine ldAq Try.isAgg40 Try.sizeOf40 (cBs 0 rfl) rfl rfl rfl rfl ?_
            refine ldAq Try.isAgg29 Try.sizeOf29 (cBs 1 rfl) rfl rfl rfl rfl ?_
            refine callS Try.call12 (by exact (fun _ _ h => h.pick [8, 21])) rfl rfl (fun w hs => laws_toStrategy_c _ _ nps cps _ _ w (Kn.drop (k := 23) kps w hs) (by first | assumption | omega)) ?_
            rintro ⟨ay20, ny20, cy20, Hy20, y20⟩ hr20
            dsimp only at hr20
            subst y20
            refine rPieces (L' := [OwnR maK 53 2 ay20 ny20 cy20 Hy20 ps, OwnR ndK 88 2 ay19 ny19 cy19 Hy19 z, OwnR maK 53 2 ayw19 nyw19 cyw19 Hyw19 ws, OwnR maK 53 2 ayv19 nyv19 cyv19 Hyv19 vs, blk bka36 40 [.int .i64 ((((Math.mixAt z ws vs pl ps ql qs n).1.1))), .slice ay18 ny18 cy18], OwnR maK 53 2 ay18 ny18 cy18 Hy18 ((((Math.mixAt z ws vs pl ps ql qs n).1.2))), blk bka34 40 [.int .i64 ql, .slice ay17 ny17 cy17], OwnR maK 53 2 ay17 ny17 cy17 Hy17 qs, blk bka32 40 [.int .i64 pl, .slice ay16 ny16 cy16], OwnR maK 53 2 ay16 ny16 cy16 Hy16 ps, blk bka30 38 [.slice ay15 ny15 cy15, .slice ayw15 nyw15 cyw15, .slice ayv15 nyv15 cyv15], OwnR ndK 88 2 ay15 ny15 cy15 Hy15 z, OwnR maK 53 2 ayw15 nyw15 cyw15 Hyw15 ws, OwnR maK 53 2 ayv15 nyv15 cyv15 Hyv15 vs, blk bka10 40 [.int .i64 ((((Math.mixAt z ws vs pl ps ql qs n).1.1))), .slice ay4 ny4 cy4], OwnR maK 53 2 ay4 ny4 cy4 Hy4 ((((Math.mixAt z ws vs pl ps ql qs n).1.2))), OwnR maK 53 2 ay3 ny3 cy3 Hy3 qs, OwnR maK 53 2 ay2 ny2 cy2 Hy2 ps, OwnR ndK 88 2 ay1 ny1 cy1 Hy1 z, OwnR maK 53 2 ayw1 nyw1 cyw1 Hyw1 ws, OwnR maK 53 2 ayv1 nyv1 cyv1 Hyv1 vs, blk bkb3 29 [.int .i64 ql, .slice aqs nqs cqs], blk bkb2 29 [.int .i64 pl, .slice aps nps cps], blk bkb1 27 [.slice az nz cz, .slice aws nws cws, .slice avs nvs cvs]]) (fun _ h => h) ?_
            refine rKnow (fun w hs => (show OwnR maK 53 2 ay20 ny20 cy20 Hy20 ps w from hs.at_ 0 rfl).1) (fun lenn40 => ?_)
            refine callP (v := .bool true) Try.call15 (fun _ h => h.pick [8, 21]) rfl rfl (fun w hs => laws_eqStrategy_c _ _ ny16 cy16 _ _ _ _ ny20 cy20 _ _ w (OwnR.rd (hs.at_ 9 rfl) maK.ok) (OwnR.rd (hs.at_ 0 rfl) maK.ok) (by exact ⟨rfl, rfl⟩)) ?_
            refine not rfl rfl rfl ?_
            refine rNil ?_
            refine qSeq rfl ?_
            refine hIfF rfl ?_
            refine hSkip ?_
            refine qSeq rfl ?_
            refine hSeq ?_
            refine hSeq ?_
            refine hDraw (Ls := [blk bka34 40 [.int .i64 ql, .slice ay17 ny17 cy17], blk bkb3 29 [.int .i64 ql, .slice aqs nqs cqs]]) (by kernel_rfl) (sq 0 (sq 1 (sl 2 (sl 3 (sq 4 sz))))) (by kernel_rfl) (.cons _ (.cons _ (.cons _ (.cons _ (.cons _ (.cons _ (.cons_cons _ (.cons _ (.cons _ (.cons _ (.cons _ (.cons _ (.cons _ (.cons _ (.cons _ (.cons _ (.cons _ (.cons _ (.cons _ (.cons _ (.cons _ (.cons_cons _ (.cons _ (.cons _ .slnil)))))))))))))))))))))))) ?_
            refine ldAq Try.isAgg40 Try.sizeOf40 (cBs 0 rfl) rfl rfl rfl rfl ?_
            refine ldAq Try.isAgg29 Try.sizeOf29 (cBs 1 rfl) rfl rfl rfl rfl ?_
            refine callS Try.call12 (by exact (fun _ _ h => h.pick [7, 21])) rfl rfl (fun w hs => laws_toStrategy_c _ _ nqs cqs _ _ w (Kn.drop (k := 24) kqs w hs) (by first | assumption | omega)) ?_
            rintro ⟨ay21, ny21, cy21, Hy21, y21⟩ hr21
            dsimp only at hr21
            subst y21
            refine rPieces (L' := [OwnR maK 53 2 ay21 ny21 cy21 Hy21 qs, OwnR maK 53 2 ay20 ny20 cy20 Hy20 ps, OwnR ndK 88 2 ay19 ny19 cy19 Hy19 z, OwnR maK 53 2 ayw19 nyw19 cyw19 Hyw19 ws, OwnR maK 53 2 ayv19 nyv19 cyv19 Hyv19 vs, blk bka36 40 [.int .i64 ((((Math.mixAt z ws vs pl ps ql qs n).1.1))), .slice ay18 ny18 cy18], OwnR maK 53 2 ay18 ny18 cy18 Hy18 ((((Math.mixAt z ws vs pl ps ql qs n).1.2))), blk bka34 40 [.int .i64 ql, .slice ay17 ny17 cy17], OwnR maK 53 2 ay17 ny17 cy17 Hy17 qs, blk bka32 40 [.int .i64 pl, .slice ay16 ny16 cy16], OwnR maK 53 2 ay16 ny16 cy16 Hy16 ps, blk bka30 38 [.slice ay15 ny15 cy15, .slice ayw15 nyw15 cyw15, .slice ayv15 nyv15 cyv15], OwnR ndK 88 2 ay15 ny15 cy15 Hy15 z, OwnR maK 53 2 ayw15 nyw15 cyw15 Hyw15 ws, OwnR maK 53 2 ayv15 nyv15 cyv15 Hyv15 vs, blk bka10 40 [.int .i64 ((((Math.mixAt z ws vs pl ps ql qs n).1.1))), .slice ay4 ny4 cy4], OwnR maK 53 2 ay4 ny4 cy4 Hy4 ((((Math.mixAt z ws vs pl ps ql qs n).1.2))), OwnR maK 53 2 ay3 ny3 cy3 Hy3 qs, OwnR maK 53 2 ay2 ny2 cy2 Hy2 ps, OwnR ndK 88 2 ay1 ny1 cy1 Hy1 z, OwnR maK 53 2 ayw1 nyw1 cyw1 Hyw1 ws, OwnR maK 53 2 ayv1 nyv1 cyv1 Hyv1 vs, blk bkb3 29 [.int .i64 ql, .slice aqs nqs cqs], blk bkb2 29 [.int .i64 pl, .slice aps nps cps], blk bkb1 27 [.slice az nz cz, .slice aws nws cws, .slice avs nvs cvs]]) (fun _ h => h) ?_
            refine rKnow (fun w hs => (show OwnR maK 53 2 ay21 ny21 cy21 Hy21 qs w from hs.at_ 0 rfl).1) (fun lenn41 => ?_)
            refine callP (v := .bool true) Try.call15 (fun _ h => h.pick [7, 21]) rfl rfl (fun w hs => laws_eqStrategy_c _ _ ny17 cy17 _ _ _ _ ny21 cy21 _ _ w (OwnR.rd (hs.at_ 8 rfl) maK.ok) (OwnR.rd (hs.at_ 0 rfl) maK.ok) (by exact ⟨rfl, rfl⟩)) ?_
            refine not rfl rfl rfl ?_
            refine rNil ?_
            refine qSeq rfl ?_
            refine hIfF rfl ?_
            refine hSkip ?_
            refine qSeq rfl ?_
            refine hSeq ?_
            refine hReg (sq 0 sz) (by kernel_rfl) ?_
            refine asI rfl rfl rfl ?_
            refine rNil ?_
            refine qSeq rfl ?_
            refine hSeq ?_
            refine hReg (sl 0 (sq 1 (sl 2 (sq 3 sz)))) (by kernel_rfl) ?_
            refine ldAl Try.isAgg38 Try.sizeOf38 (cBs 11 rfl) trv rfl rfl rfl rfl ?_
            refine mvI rfl rfl rfl ?_
            refine rPieces (L' := [OwnR maK 53 2 ayv15 nyv15 cyv15 Hyv15 vs, OwnR maK 53 2 ay21 ny21 cy21 Hy21 qs, OwnR maK 53 2 ay20 ny20 cy20 Hy20 ps, OwnR ndK 88 2 ay19 ny19 cy19 Hy19 z, OwnR maK 53 2 ayw19 nyw19 cyw19 Hyw19 ws, OwnR maK 53 2 ayv19 nyv19 cyv19 Hyv19 vs, blk bka36 40 [.int .i64 ((((Math.mixAt z ws vs pl ps ql qs n).1.1))), .slice ay18 ny18 cy18], OwnR maK 53 2 ay18 ny18 cy18 Hy18 ((((Math.mixAt z ws vs pl ps ql qs n).1.2))), blk bka34 40 [.int .i64 ql, .slice ay17 ny17 cy17], OwnR maK 53 2 ay17 ny17 cy17 Hy17 qs, blk bka32 40 [.int .i64 pl, .slice ay16 ny16 cy16], OwnR maK 53 2 ay16 ny16 cy16 Hy16 ps, blk bka30 38 [.slice ay15 ny15 cy15, .slice ayw15 nyw15 cyw15, .slice ayv15 nyv15 cyv15], OwnR ndK 88 2 ay15 ny15 cy15 Hy15 z, OwnR maK 53 2 ayw15 nyw15 cyw15 Hyw15 ws, blk bka10 40 [.int .i64 ((((Math.mixAt z ws vs pl ps ql qs n).1.1))), .slice ay4 ny4 cy4], OwnR maK 53 2 ay4 ny4 cy4 Hy4 ((((Math.mixAt z ws vs pl ps ql qs n).1.2))), OwnR maK 53 2 ay3 ny3 cy3 Hy3 qs, OwnR maK 53 2 ay2 ny2 cy2 Hy2 ps, OwnR ndK 88 2 ay1 ny1 cy1 Hy1 z, OwnR maK 53 2 ayw1 nyw1 cyw1 Hyw1 ws, OwnR maK 53 2 ayv1 nyv1 cyv1 Hyv1 vs, blk bkb3 29 [.int .i64 ql, .slice aqs nqs cqs], blk bkb2 29 [.int .i64 pl, .slice aps nps cps], blk bkb1 27 [.slice az nz cz, .slice aws nws cws, .slice avs nvs cvs]]) (fun _ h => h.perm (pull (i := 14) rfl)) ?_
            refine rPieces (L' := [OwnR maK 53 2 ayw15 nyw15 cyw15 Hyw15 ws, OwnR maK 53 2 ayv15 nyv15 cyv15 Hyv15 vs, OwnR maK 53 2 ay21 ny21 cy21 Hy21 qs, OwnR maK 53 2 ay20 ny20 cy20 Hy20 ps, OwnR ndK 88 2 ay19 ny19 cy19 Hy19 z, OwnR maK 53 2 ayw19 nyw19 cyw19 Hyw19 ws, OwnR maK 53 2 ayv19 nyv19 cyv19 Hyv19 vs, blk bka36 40 [.int .i64 ((((Math.mixAt z ws vs pl ps ql qs n).1.1))), .slice ay18 ny18 cy18], OwnR maK 53 2 ay18 ny18 cy18 Hy18 ((((Math.mixAt z ws vs pl ps ql qs n).1.2))), blk bka34 40 [.int .i64 ql, .slice ay17 ny17 cy17], OwnR maK 53 2 ay17 ny17 cy17 Hy17 qs, blk bka32 40 [.int .i64 pl, .slice ay16 ny16 cy16], OwnR maK 53 2 ay16 ny16 cy16 Hy16 ps, blk bka30 38 [.slice ay15 ny15 cy15, .slice ayw15 nyw15 cyw15, .slice ayv15 nyv15 cyv15], OwnR ndK 88 2 ay15 ny15 cy15 Hy15 z, blk bka10 40 [.int .i64 ((((Math.mixAt z ws vs pl ps ql qs n).1.1))), .slice ay4 ny4 cy4], OwnR maK 53 2 ay4 ny4 cy4 Hy4 ((((Math.mixAt z ws vs pl ps ql qs n).1.2))), OwnR maK 53 2 ay3 ny3 cy3 Hy3 qs, OwnR maK 53 2 ay2 ny2 cy2 Hy2 ps, OwnR ndK 88 2 ay1 ny1 cy1 Hy1 z, OwnR maK 53 2 ayw1 nyw1 cyw1 Hyw1 ws, OwnR maK 53 2 ayv1 nyv1 cyv1 Hyv1 vs, blk bkb3 29 [.int .i64 ql, .slice aqs nqs cqs], blk bkb2 29 [.int .i64 pl, .slice aps nps cps], blk bkb1 27 [.slice az nz cz, .slice aws nws cws, .slice avs nvs cvs]]) (fun _ h => h.perm (pull (i := 14) rfl)) ?_
            refine rPieces (L' := [OwnR ndK 88 2 ay15 ny15 cy15 Hy15 z, OwnR maK 53 2 ayw15 nyw15 cyw15 Hyw15 ws, OwnR maK 53 2 ayv15 nyv15 cyv15 Hyv15 vs, OwnR maK 53 2 ay21 ny21 cy21 Hy21 qs, OwnR maK 53 2 ay20 ny20 cy20 Hy20 ps, OwnR ndK 88 2 ay19 ny19 cy19 Hy19 z, OwnR maK 53 2 ayw19 nyw19 cyw19 Hyw19 ws, OwnR maK 53 2 ayv19 nyv19 cyv19 Hyv19 vs, blk bka36 40 [.int .i64 ((((Math.mixAt z ws vs pl ps ql qs n).1.1))), .slice ay18 ny18 cy18], OwnR maK 53 2 ay18 ny18 cy18 Hy18 ((((Math.mixAt z ws vs pl ps ql qs n).1.2))), blk bka34 40 [.int .i64 ql, .slice ay17 ny17 cy17], OwnR maK 53 2 ay17 ny17 cy17 Hy17 qs, blk bka32 40 [.int .i64 pl, .slice ay16 ny16 cy16], OwnR maK 53 2 ay16 ny16 cy16 Hy16 ps, blk bka30 38 [.slice ay15 ny15 cy15, .slice ayw15 nyw15 cyw15, .slice ayv15 nyv15 cyv15], blk bka10 40 [.int .i64 ((((Math.mixAt z ws vs pl ps ql qs n).1.1))), .slice ay4 ny4 cy4], OwnR maK 53 2 ay4 ny4 cy4 Hy4 ((((Math.mixAt z ws vs pl ps ql qs n).1.2))), OwnR maK 53 2 ay3 ny3 cy3 Hy3 qs, OwnR maK 53 2 ay2 ny2 cy2 Hy2 ps, OwnR ndK 88 2 ay1 ny1 cy1 Hy1 z, OwnR maK 53 2 ayw1 nyw1 cyw1 Hyw1 ws, OwnR maK 53 2 ayv1 nyv1 cyv1 Hyv1 vs, blk bkb3 29 [.int .i64 ql, .slice aqs nqs cqs], blk bkb2 29 [.int .i64 pl, .slice aps nps cps], blk bkb1 27 [.slice az nz cz, .slice aws nws cws, .slice avs nvs cvs]]) (fun _ h => h.perm (pull (i := 14) rfl)) ?_
            refine callM (Lf := [OwnR ndK 88 2 ay15 ny15 cy15 Hy15 z, OwnR maK 53 2 ayw15 nyw15 cyw15 Hyw15 ws, OwnR maK 53 2 ayv15 nyv15 cyv15 Hyv15 vs]) (Lr := [OwnR maK 53 2 ay21 ny21 cy21 Hy21 qs, OwnR maK 53 2 ay20 ny20 cy20 Hy20 ps, OwnR ndK 88 2 ay19 ny19 cy19 Hy19 z, OwnR maK 53 2 ayw19 nyw19 cyw19 Hyw19 ws, OwnR maK 53 2 ayv19 nyv19 cyv19 Hyv19 vs, blk bka36 40 [.int .i64 ((((Math.mixAt z ws vs pl ps ql qs n).1.1))), .slice ay18 ny18 cy18], OwnR maK 53 2 ay18 ny18 cy18 Hy18 ((((Math.mixAt z ws vs pl ps ql qs n).1.2))), blk bka34 40 [.int .i64 ql, .slice ay17 ny17 cy17], OwnR maK 53 2 ay17 ny17 cy17 Hy17 qs, blk bka32 40 [.int .i64 pl, .slice ay16 ny16 cy16], OwnR maK 53 2 ay16 ny16 cy16 Hy16 ps, blk bka30 38 [.slice ay15 ny15 cy15, .slice ayw15 nyw15 cyw15, .slice ayv15 nyv15 cyv15], blk bka10 40 [.int .i64 ((((Math.mixAt z ws vs pl ps ql qs n).1.1))), .slice ay4 ny4 cy4], OwnR maK 53 2 ay4 ny4 cy4 Hy4 ((((Math.mixAt z ws vs pl ps ql qs n).1.2))), OwnR maK 53 2 ay3 ny3 cy3 Hy3 qs, OwnR maK 53 2 ay2 ny2 cy2 Hy2 ps, OwnR ndK 88 2 ay1 ny1 cy1 Hy1 z, OwnR maK 53 2 ayw1 nyw1 cyw1 Hyw1 ws, OwnR maK 53 2 ayv1 nyv1 cyv1 Hyv1 vs, blk bkb3 29 [.int .i64 ql, .slice aqs nqs cqs], blk bkb2 29 [.int .i64 pl, .slice aps nps cps], blk bkb1 27 [.slice az nz cz, .slice aws nws cws, .slice avs nvs cvs]]) (φs := fun _ => [OwnR ndK 88 2 ay15 ny15 cy15 Hy15 ((Math.marksN (1 : Int) z)), OwnR maK 53 2 ayw15 nyw15 cyw15 Hyw15 ((Math.marksM ((1 : Int) + (Math.sumK Math.f4 z : Int)) ws)), OwnR maK 53 2 ayv15 nyv15 cyv15 Hyv15 ((Math.marksM (((1 : Int) + (Math.sumK Math.f4 z : Int)) + (Math.sumK Math.rwl ws : Int)) vs))]) (val := fun _ => .int .i64 (((((1 : Int) + (Math.sumK Math.f4 z : Int)) + (Math.sumK Math.rwl ws : Int)) + (Math.sumK Math.rwl vs : Int)))) rfl Try.call20 trv1 rfl rfl (fun w M0 hs => laws_markGame_c ay15 ny15 cy15 Hy15 z ayw15 nyw15 cyw15 Hyw15 ws ayv15 nyv15 cyv15 Hyv15 vs (1 : Int) w M0 hs (by omega)) ?_
            rintro _ -
            refine rPieces (L' := [OwnR ndK 88 2 ay15 ny15 cy15 Hy15 ((Math.marksN (1 : Int) z)), OwnR maK 53 2 ayw15 nyw15 cyw15 Hyw15 ((Math.marksM ((1 : Int) + (Math.sumK Math.f4 z : Int)) ws)), OwnR maK 53 2 ayv15 nyv15 cyv15 Hyv15 ((Math.marksM (((1 : Int) + (Math.sumK Math.f4 z : Int)) + (Math.sumK Math.rwl ws : Int)) vs)), OwnR maK 53 2 ay21 ny21 cy21 Hy21 qs, OwnR maK 53 2 ay20 ny20 cy20 Hy20 ps, OwnR ndK 88 2 ay19 ny19 cy19 Hy19 z, OwnR maK 53 2 ayw19 nyw19 cyw19 Hyw19 ws, OwnR maK 53 2 ayv19 nyv19 cyv19 Hyv19 vs, blk bka36 40 [.int .i64 ((((Math.mixAt z ws vs pl ps ql qs n).1.1))), .slice ay18 ny18 cy18], OwnR maK 53 2 ay18 ny18 cy18 Hy18 ((((Math.mixAt z ws vs pl ps ql qs n).1.2))), blk bka34 40 [.int .i64 ql, .slice ay17 ny17 cy17], OwnR maK 53 2 ay17 ny17 cy17 Hy17 qs, blk bka32 40 [.int .i64 pl, .slice ay16 ny16 cy16], OwnR maK 53 2 ay16 ny16 cy16 Hy16 ps, blk bka30 38 [.slice ay15 ny15 cy15, .slice ayw15 nyw15 cyw15, .slice ayv15 nyv15 cyv15], blk bka10 40 [.int .i64 ((((Math.mixAt z ws vs pl ps ql qs n).1.1))), .slice ay4 ny4 cy4], OwnR maK 53 2 ay4 ny4 cy4 Hy4 ((((Math.mixAt z ws vs pl ps ql qs n).1.2))), OwnR maK 53 2 ay3 ny3 cy3 Hy3 qs, OwnR maK 53 2 ay2 ny2 cy2 Hy2 ps, OwnR ndK 88 2 ay1 ny1 cy1 Hy1 z, OwnR maK 53 2 ayw1 nyw1 cyw1 Hyw1 ws, OwnR maK 53 2 ayv1 nyv1 cyv1 Hyv1 vs, blk bkb3 29 [.int .i64 ql, .slice aqs nqs cqs], blk bkb2 29 [.int .i64 pl, .slice aps nps cps], blk bkb1 27 [.slice az nz cz, .slice aws nws cws, .slice avs nvs cvs]]) (fun _ h => h) ?_
            refine asI rfl rfl rfl ?_
            refine rNil ?_
            refine qSeq rfl ?_
            refine hSeq ?_
            refine hReg (sl 0 (sq 1 (sl 2 (sq 3 sz)))) (by kernel_rfl) ?_
            refine ldAl Try.isAgg40 Try.sizeOf40 (cBs 12 rfl) trv rfl rfl rfl rfl ?_
            refine mvI rfl rfl rfl ?_
            refine rPieces (L' := [OwnR maK 53 2 ay16 ny16 cy16 Hy16 ps, OwnR ndK 88 2 ay15 ny15 cy15 Hy15 ((Math.marksN (1 : Int) z)), OwnR maK 53 2 ayw15 nyw15 cyw15 Hyw15 ((Math.marksM ((1 : Int) + (Math.sumK Math.f4 z : Int)) ws)), OwnR maK 53 2 ayv15 nyv15 cyv15 Hyv15 ((Math.marksM (((1 : Int) + (Math.sumK Math.f4 z : Int)) + (Math.sumK Math.rwl ws : Int)) vs)), OwnR maK 53 2 ay21 ny21 cy21 Hy21 qs, OwnR maK 53 2 ay20 ny20 cy20 Hy20 ps, OwnR ndK 88 2 ay19 ny19 cy19 Hy19 z, OwnR maK 53 2 ayw19 nyw19 cyw19 Hyw19 ws, OwnR maK 53 2 ayv19 nyv19 cyv19 Hyv19 vs, blk bka36 40 [.int .i64 ((((Math.mixAt z ws vs pl ps ql qs n).1.1))), .slice ay18 ny18 cy18], OwnR maK 53 2 ay18 ny18 cy18 Hy18 ((((Math.mixAt z ws vs pl ps ql qs n).1.2))), blk bka34 40 [.int .i64 ql, .slice ay17 ny17 cy17], OwnR maK 53 2 ay17 ny17 cy17 Hy17 qs, blk bka32 40 [.int .i64 pl, .slice ay16 ny16 cy16], blk bka30 38 [.slice ay15 ny15 cy15, .slice ayw15 nyw15 cyw15, .slice ayv15 nyv15 cyv15], blk bka10 40 [.int .i64 ((((Math.mixAt z ws vs pl ps ql qs n).1.1))), .slice ay4 ny4 cy4], OwnR maK 53 2 ay4 ny4 cy4 Hy4 ((((Math.mixAt z ws vs pl ps ql qs n).1.2))), OwnR maK 53 2 ay3 ny3 cy3 Hy3 qs, OwnR maK 53 2 ay2 ny2 cy2 Hy2 ps, OwnR ndK 88 2 ay1 ny1 cy1 Hy1 z, OwnR maK 53 2 ayw1 nyw1 cyw1 Hyw1 ws, OwnR maK 53 2 ayv1 nyv1 cyv1 Hyv1 vs, blk bkb3 29 [.int .i64 ql, .slice aqs nqs cqs], blk bkb2 29 [.int .i64 pl, .slice aps nps cps], blk bkb1 27 [.slice az nz cz, .slice aws nws cws, .slice avs nvs cvs]]) (fun _ h => h.perm (pull (i := 13) rfl)) ?_
            refine callM (Lf := [OwnR maK 53 2 ay16 ny16 cy16 Hy16 ps]) (Lr := [OwnR ndK 88 2 ay15 ny15 cy15 Hy15 ((Math.marksN (1 : Int) z)), OwnR maK 53 2 ayw15 nyw15 cyw15 Hyw15 ((Math.marksM ((1 : Int) + (Math.sumK Math.f4 z : Int)) ws)), OwnR maK 53 2 ayv15 nyv15 cyv15 Hyv15 ((Math.marksM (((1 : Int) + (Math.sumK Math.f4 z : Int)) + (Math.sumK Math.rwl ws : Int)) vs)), OwnR maK 53 2 ay21 ny21 cy21 Hy21 qs, OwnR maK 53 2 ay20 ny20 cy20 Hy20 ps, OwnR ndK 88 2 ay19 ny19 cy19 Hy19 z, OwnR maK 53 2 ayw19 nyw19 cyw19 Hyw19 ws, OwnR maK 53 2 ayv19 nyv19 cyv19 Hyv19 vs, blk bka36 40 [.int .i64 ((((Math.mixAt z ws vs pl ps ql qs n).1.1))), .slice ay18 ny18 cy18], OwnR maK 53 2 ay18 ny18 cy18 Hy18 ((((Math.mixAt z ws vs pl ps ql qs n).1.2))), blk bka34 40 [.int .i64 ql, .slice ay17 ny17 cy17], OwnR maK 53 2 ay17 ny17 cy17 Hy17 qs, blk bka32 40 [.int .i64 pl, .slice ay16 ny16 cy16], blk bka30 38 [.slice ay15 ny15 cy15, .slice ayw15 nyw15 cyw15, .slice ayv15 nyv15 cyv15], blk bka10 40 [.int .i64 ((((Math.mixAt z ws vs pl ps ql qs n).1.1))), .slice ay4 ny4 cy4], OwnR maK 53 2 ay4 ny4 cy4 Hy4 ((((Math.mixAt z ws vs pl ps ql qs n).1.2))), OwnR maK 53 2 ay3 ny3 cy3 Hy3 qs, OwnR maK 53 2 ay2 ny2 cy2 Hy2 ps, OwnR ndK 88 2 ay1 ny1 cy1 Hy1 z, OwnR maK 53 2 ayw1 nyw1 cyw1 Hyw1 ws, OwnR maK 53 2 ayv1 nyv1 cyv1 Hyv1 vs, blk bkb3 29 [.int .i64 ql, .slice aqs nqs cqs], blk bkb2 29 [.int .i64 pl, .slice aps nps cps], blk bkb1 27 [.slice az nz cz, .slice aws nws cws, .slice avs nvs cvs]]) (φs := fun _ => [OwnR maK 53 2 ay16 ny16 cy16 Hy16 ((Math.marksM (((((1 : Int) + (Math.sumK Math.f4 z : Int)) + (Math.sumK Math.rwl ws : Int)) + (Math.sumK Math.rwl vs : Int))) ps))]) (val := fun _ => .int .i64 (((((((1 : Int) + (Math.sumK Math.f4 z : Int)) + (Math.sumK Math.rwl ws : Int)) + (Math.sumK Math.rwl vs : Int))) + (Math.sumK Math.rwl ps : Int)))) rfl Try.call21 trv1 rfl rfl (fun w M0 hs => laws_markStrategy_c pl ay16 ny16 cy16 Hy16 ps (((((1 : Int) + (Math.sumK Math.f4 z : Int)) + (Math.sumK Math.rwl ws : Int)) + (Math.sumK Math.rwl vs : Int))) w M0 hs (by omega)) ?_
            rintro _ -
            refine rPieces (L' := [OwnR maK 53 2 ay16 ny16 cy16 Hy16 ((Math.marksM (((((1 : Int) + (Math.sumK Math.f4 z : Int)) + (Math.sumK Math.rwl ws : Int)) + (Math.sumK Math.rwl vs : Int))) ps)), OwnR ndK 88 2 ay15 ny15 cy15 Hy15 ((Math.marksN (1 : Int) z)), OwnR maK 53 2 ayw15 nyw15 cyw15 Hyw15 ((Math.marksM ((1 : Int) + (Math.sumK Math.f4 z : Int)) ws)), OwnR maK 53 2 ayv15 nyv15 cyv15 Hyv15 ((Math.marksM (((1 : Int) + (Math.sumK Math.f4 z : Int)) + (Math.sumK Math.rwl ws : Int)) vs)), OwnR maK 53 2 ay21 ny21 cy21 Hy21 qs, OwnR maK 53 2 ay20 ny20 cy20 Hy20 ps, OwnR ndK 88 2 ay19 ny19 cy19 Hy19 z, OwnR maK 53 2 ayw19 nyw19 cyw19 Hyw19 ws, OwnR maK 53 2 ayv19 nyv19 cyv19 Hyv19 vs, blk bka36 40 [.int .i64 ((((Math.mixAt z ws vs pl ps ql qs n).1.1))), .slice ay18 ny18 cy18], OwnR maK 53 2 ay18 ny18 cy18 Hy18 ((((Math.mixAt z ws vs pl ps ql qs n).1.2))), blk bka34 40 [.int .i64 ql, .slice ay17 ny17 cy17], OwnR maK 53 2 ay17 ny17 cy17 Hy17 qs, blk bka32 40 [.int .i64 pl, .slice ay16 ny16 cy16], blk bka30 38 [.slice ay15 ny15 cy15, .slice ayw15 nyw15 cyw15, .slice ayv15 nyv15 cyv15], blk bka10 40 [.int .i64 ((((Math.mixAt z ws vs pl ps ql qs n).1.1))), .slice ay4 ny4 cy4], OwnR maK 53 2 ay4 ny4 cy4 Hy4 ((((Math.mixAt z ws vs pl ps ql qs n).1.2))), OwnR maK 53 2 ay3 ny3 cy3 Hy3 qs, OwnR maK 53 2 ay2 ny2 cy2 Hy2 ps, OwnR ndK 88 2 ay1 ny1 cy1 Hy1 z, OwnR maK 53 2 ayw1 nyw1 cyw1 Hyw1 ws, OwnR maK 53 2 ayv1 nyv1 cyv1 Hyv1 vs, blk bkb3 29 [.int .i64 ql, .slice aqs nqs cqs], blk bkb2 29 [.int .i64 pl, .slice aps nps cps], blk bkb1 27 [.slice az nz cz, .slice aws nws cws, .slice avs nvs cvs]]) (fun _ h => h) ?_
            refine asI rfl rfl rfl ?_
            refine rNil ?_
            refine qSeq rfl ?_
            refine hSeq ?_
            refine hReg (sl 0 (sq 1 (sl 2 (sq 3 sz)))) (by kernel_rfl) ?_
            refine ldAl Try.isAgg40 Try.sizeOf40 (cBs 11 rfl) trv rfl rfl rfl rfl ?_
            refine mvI rfl rfl rfl ?_
            refine rPieces (L' := [OwnR maK 53 2 ay17 ny17 cy17 Hy17 qs, OwnR maK 53 2 ay16 ny16 cy16 Hy16 ((Math.marksM (((((1 : Int) + (Math.sumK Math.f4 z : Int)) + (Math.sumK Math.rwl ws : Int)) + (Math.sumK Math.rwl vs : Int))) ps)), OwnR ndK 88 2 ay15 ny15 cy15 Hy15 ((Math.marksN (1 : Int) z)), OwnR maK 53 2 ayw15 nyw15 cyw15 Hyw15 ((Math.marksM ((1 : Int) + (Math.sumK Math.f4 z : Int)) ws)), OwnR maK 53 2 ayv15 nyv15 cyv15 Hyv15 ((Math.marksM (((1 : Int) + (Math.sumK Math.f4 z : Int)) + (Math.sumK Math.rwl ws : Int)) vs)), OwnR maK 53 2 ay21 ny21 cy21 Hy21 qs, OwnR maK 53 2 ay20 ny20 cy20 Hy20 ps, OwnR ndK 88 2 ay19 ny19 cy19 Hy19 z, OwnR maK 53 2 ayw19 nyw19 cyw19 Hyw19 ws, OwnR maK 53 2 ayv19 nyv19 cyv19 Hyv19 vs, blk bka36 40 [.int .i64 ((((Math.mixAt z ws vs pl ps ql qs n).1.1))), .slice ay18 ny18 cy18], OwnR maK 53 2 ay18 ny18 cy18 Hy18 ((((Math.mixAt z ws vs pl ps ql qs n).1.2))), blk bka34 40 [.int .i64 ql, .slice ay17 ny17 cy17], blk bka32 40 [.int .i64 pl, .slice ay16 ny16 cy16], blk bka30 38 [.slice ay15 ny15 cy15, .slice ayw15 nyw15 cyw15, .slice ayv15 nyv15 cyv15], blk bka10 40 [.int .i64 ((((Math.mixAt z ws vs pl ps ql qs n).1.1))), .slice ay4 ny4 cy4], OwnR maK 53 2 ay4 ny4 cy4 Hy4 ((((Math.mixAt z ws vs pl ps ql qs n).1.2))), OwnR maK 53 2 ay3 ny3 cy3 Hy3 qs, OwnR maK 53 2 ay2 ny2 cy2 Hy2 ps, OwnR ndK 88 2 ay1 ny1 cy1 Hy1 z, OwnR maK 53 2 ayw1 nyw1 cyw1 Hyw1 ws, OwnR maK 53 2 ayv1 nyv1 cyv1 Hyv1 vs, blk bkb3 29 [.int .i64 ql, .slice aqs nqs cqs], blk bkb2 29 [.int .i64 pl, .slice aps nps cps], blk bkb1 27 [.slice az nz cz, .slice aws nws cws, .slice avs nvs cvs]]) (fun _ h => h.perm (pull (i := 12) rfl)) ?_
            refine callM (Lf := [OwnR maK 53 2 ay17 ny17 cy17 Hy17 qs]) (Lr := [OwnR maK 53 2 ay16 ny16 cy16 Hy16 ((Math.marksM (((((1 : Int) + (Math.sumK Math.f4 z : Int)) + (Math.sumK Math.rwl ws : Int)) + (Math.sumK Math.rwl vs : Int))) ps)), OwnR ndK 88 2 ay15 ny15 cy15 Hy15 ((Math.marksN (1 : Int) z)), OwnR maK 53 2 ayw15 nyw15 cyw15 Hyw15 ((Math.marksM ((1 : Int) + (Math.sumK Math.f4 z : Int)) ws)), OwnR maK 53 2 ayv15 nyv15 cyv15 Hyv15 ((Math.marksM (((1 : Int) + (Math.sumK Math.f4 z : Int)) + (Math.sumK Math.rwl ws : Int)) vs)), OwnR maK 53 2 ay21 ny21 cy21 Hy21 qs, OwnR maK 53 2 ay20 ny20 cy20 Hy20 ps, OwnR ndK 88 2 ay19 ny19 cy19 Hy19 z, OwnR maK 53 2 ayw19 nyw19 cyw19 Hyw19 ws, OwnR maK 53 2 ayv19 nyv19 cyv19 Hyv19 vs, blk bka36 40 [.int .i64 ((((Math.mixAt z ws vs pl ps ql qs n).1.1))), .slice ay18 ny18 cy18], OwnR maK 53 2 ay18 ny18 cy18 Hy18 ((((Math.mixAt z ws vs pl ps ql qs n).1.2))), blk bka34 40 [.int .i64 ql, .slice ay17 ny17 cy17], blk bka32 40 [.int .i64 pl, .slice ay16 ny16 cy16], blk bka30 38 [.slice ay15 ny15 cy15, .slice ayw15 nyw15 cyw15, .slice ayv15 nyv15 cyv15], blk bka10 40 [.int .i64 ((((Math.mixAt z ws vs pl ps ql qs n).1.1))), .slice ay4 ny4 cy4], OwnR maK 53 2 ay4 ny4 cy4 Hy4 ((((Math.mixAt z ws vs pl ps ql qs n).1.2))), OwnR maK 53 2 ay3 ny3 cy3 Hy3 qs, OwnR maK 53 2 ay2 ny2 cy2 Hy2 ps, OwnR ndK 88 2 ay1 ny1 cy1 Hy1 z, OwnR maK 53 2 ayw1 nyw1 cyw1 Hyw1 ws, OwnR maK 53 2 ayv1 nyv1 cyv1 Hyv1 vs, blk bkb3 29 [.int .i64 ql, .slice aqs nqs cqs], blk bkb2 29 [.int .i64 pl, .slice aps nps cps], blk bkb1 27 [.slice az nz cz, .slice aws nws cws, .slice avs nvs cvs]]) (φs := fun _ => [OwnR maK 53 2 ay17 ny17 cy17 Hy17 ((Math.marksM (((((((1 : Int) + (Math.sumK Math.f4 z : Int)) + (Math.sumK Math.rwl ws : Int)) + (Math.sumK Math.rwl vs : Int))) + (Math.sumK Math.rwl ps : Int))) qs))]) (val := fun _ => .int .i64 (((((((((1 : Int) + (Math.sumK Math.f4 z : Int)) + (Math.sumK Math.rwl ws : Int)) + (Math.sumK Math.rwl vs : Int))) + (Math.sumK Math.rwl ps : Int))) + (Math.sumK Math.rwl qs : Int)))) rfl Try.call21 trv1 rfl rfl (fun w M0 hs => laws_markStrategy_c ql ay17 ny17 cy17 Hy17 qs (((((((1 : Int) + (Math.sumK Math.f4 z : Int)) + (Math.sumK Math.rwl ws : Int)) + (Math.sumK Math.rwl vs : Int))) + (Math.sumK Math.rwl ps : Int))) w M0 hs (by omega)) ?_
            rintro _ -
            refine rPieces (L' := [OwnR maK 53 2 ay17 ny17 cy17 Hy17 ((Math.marksM (((((((1 : Int) + (Math.sumK Math.f4 z : Int)) + (Math.sumK Math.rwl ws : Int)) + (Math.sumK Math.rwl vs : Int))) + (Math.sumK Math.rwl ps : Int))) qs)), OwnR maK 53 2 ay16 ny16 cy16 Hy16 ((Math.marksM (((((1 : Int) + (Math.sumK Math.f4 z : Int)) + (Math.sumK Math.rwl ws : Int)) + (Math.sumK Math.rwl vs : Int))) ps)), OwnR ndK 88 2 ay15 ny15 cy15 Hy15 ((Math.marksN (1 : Int) z)), OwnR maK 53 2 ayw15 nyw15 cyw15 Hyw15 ((Math.marksM ((1 : Int) + (Math.sumK Math.f4 z : Int)) ws)), OwnR maK 53 2 ayv15 nyv15 cyv15 Hyv15 ((Math.marksM (((1 : Int) + (Math.sumK Math.f4 z : Int)) + (Math.sumK Math.rwl ws : Int)) vs)), OwnR maK 53 2 ay21 ny21 cy21 Hy21 qs, OwnR maK 53 2 ay20 ny20 cy20 Hy20 ps, OwnR ndK 88 2 ay19 ny19 cy19 Hy19 z, OwnR maK 53 2 ayw19 nyw19 cyw19 Hyw19 ws, OwnR maK 53 2 ayv19 nyv19 cyv19 Hyv19 vs, blk bka36 40 [.int .i64 ((((Math.mixAt z ws vs pl ps ql qs n).1.1))), .slice ay18 ny18 cy18], OwnR maK 53 2 ay18 ny18 cy18 Hy18 ((((Math.mixAt z ws vs pl ps ql qs n).1.2))), blk bka34 40 [.int .i64 ql, .slice ay17 ny17 cy17], blk bka32 40 [.int .i64 pl, .slice ay16 ny16 cy16], blk bka30 38 [.slice ay15 ny15 cy15, .slice ayw15 nyw15 cyw15, .slice ayv15 nyv15 cyv15], blk bka10 40 [.int .i64 ((((Math.mixAt z ws vs pl ps ql qs n).1.1))), .slice ay4 ny4 cy4], OwnR maK 53 2 ay4 ny4 cy4 Hy4 ((((Math.mixAt z ws vs pl ps ql qs n).1.2))), OwnR maK 53 2 ay3 ny3 cy3 Hy3 qs, OwnR maK 53 2 ay2 ny2 cy2 Hy2 ps, OwnR ndK 88 2 ay1 ny1 cy1 Hy1 z, OwnR maK 53 2 ayw1 nyw1 cyw1 Hyw1 ws, OwnR maK 53 2 ayv1 nyv1 cyv1 Hyv1 vs, blk bkb3 29 [.int .i64 ql, .slice aqs nqs cqs], blk bkb2 29 [.int .i64 pl, .slice aps nps cps], blk bkb1 27 [.slice az nz cz, .slice aws nws cws, .slice avs nvs cvs]]) (fun _ h => h) ?_
            refine asI rfl rfl rfl ?_
            refine rNil ?_
            refine qSeq rfl ?_
            refine hSeq ?_
            refine hSeq ?_
            refine hReg (sq 0 (sq 1 (sq 2 (sl 3 (sl 4 (sl 5 (sq 6 (sq 7 (sq 8 (sq 9 (sq 10 (sq 11 (sq 12 sz))))))))))))) (by kernel_rfl) ?_
            refine mvI rfl rfl rfl ?_
            refine lss rfl rfl rfl rfl ?_
            refine mvB rfl rfl rfl ?_
            refine rBoolD (d := 97) rfl (fun g5 => ?_) (fun g5 => ?_)
            · -- g5T
              replace g5 : ((((((((1 : Int) + (Math.sumK Math.f4 z : Int)) + (Math.sumK Math.rwl ws : Int)) + (Math.sumK Math.rwl vs : Int))) + (Math.sumK Math.rwl ps : Int))) + (Math.sumK Math.rwl qs : Int)) < 0 := g5
              refine rSkipL trv rfl rfl ?_
              refine rSkipL trv rfl rfl ?_
              refine rSkipL trv rfl rfl ?_
              refine rSkipQ rfl rfl ?_
              refine pickB rfl rfl rfl rfl ?_
              refine mvB rfl rfl rfl ?_
              refine rSkipQ rfl rfl ?_
              refine rSkipQ rfl rfl ?_
              refine rSkipQ rfl rfl ?_
              refine pickB rfl rfl rfl rfl ?_
              refine rNil ?_
              refine qSeq rfl ?_
              refine hIfT rfl ?_
              refine hSeq ?_
              refine hReg (sq 0 sz) (by kernel_rfl) ?_
              refine asB rfl rfl rfl ?_
              refine rNil ?_
              refine qSeq rfl ?_
              refine hRet ?_
              exact fun w hs => ⟨[.bool false], ⟨rfl, trivial⟩, ⟨by exfalso; omega, hs.upd⟩⟩
            · -- g5F
              replace g5 : ¬ (((((((((1 : Int) + (Math.sumK Math.f4 z : Int)) + (Math.sumK Math.rwl ws : Int)) + (Math.sumK Math.rwl vs : Int))) + (Math.sumK Math.rwl ps : Int))) + (Math.sumK Math.rwl qs : Int)) < 0) := g5
              refine ldAl Try.isAgg40 Try.sizeOf40 (cBs 10 rfl) trv rfl rfl rfl rfl ?_
              refine ldAl Try.isAgg40 Try.sizeOf40 (cBs 15 rfl) trv rfl rfl rfl rfl ?_
              refine callP (v := .bool true) Try.call15 trv rfl rfl (fun w hs => laws_eqStrategy_c _ _ ny18 cy18 _ _ _ _ ny4 cy4 _ _ w (OwnR.rd (hs.at_ 11 rfl) maK.ok) (OwnR.rd (hs.at_ 16 rfl) maK.ok) (by exact ⟨rfl, rfl⟩)) ?_
              refine not rfl rfl rfl ?_
              refine pickB rfl rfl rfl rfl ?_
              refine mvB rfl rfl rfl ?_
              refine mvI rfl rfl rfl ?_
              refine mvI rfl rfl rfl ?_
              refine neq rfl rfl rfl rfl ?_
              refine pickB rfl rfl rfl rfl ?_
              refine rNil ?_
              refine qSeq rfl ?_
              refine hIfD rfl (fun c6 => ?_) (fun c6 => ?_)
              · -- c6T
                replace c6 : (((Math.mixAt z ws vs pl ps ql qs n).2)) ≠ (((Math.mixAt z ws vs pl ps ql qs n).2)) := c6
                exact absurd rfl c6
              · -- c6F
                replace c6 : ¬ ((((Math.mixAt z ws vs pl ps ql qs n).2)) ≠ (((Math.mixAt z ws vs pl ps ql qs n).2))) := c6
                refine hSkip ?_
                refine qSeq rfl ?_
                refine hSeq ?_
                refine hReg (sq 0 sz) (by kernel_rfl) ?_
                refine asI rfl rfl rfl ?_
                refine rNil ?_
                refine qSeq rfl ?_
                refine hSeq ?_
                refine hReg (sl 0 (sq 1 (sl 2 (sq 3 sz)))) (by kernel_rfl) ?_
                refine ldAl Try.isAgg40 Try.sizeOf40 (cBs 10 rfl) trv rfl rfl rfl rfl ?_
                refine mvI rfl rfl rfl ?_
                refine rPieces (L' := [OwnR maK 53 2 ay18 ny18 cy18 Hy18 ((((Math.mixAt z ws vs pl ps ql qs n).1.2))), OwnR maK 53 2 ay17 ny17 cy17 Hy17 ((Math.marksM (((((((1 : Int) + (Math.sumK Math.f4 z : Int)) + (Math.sumK Math.rwl ws : Int)) + (Math.sumK Math.rwl vs : Int))) + (Math.sumK Math.rwl ps : Int))) qs)), OwnR maK 53 2 ay16 ny16 cy16 Hy16 ((Math.marksM (((((1 : Int) + (Math.sumK Math.f4 z : Int)) + (Math.sumK Math.rwl ws : Int)) + (Math.sumK Math.rwl vs : Int))) ps)), OwnR ndK 88 2 ay15 ny15 cy15 Hy15 ((Math.marksN (1 : Int) z)), OwnR maK 53 2 ayw15 nyw15 cyw15 Hyw15 ((Math.marksM ((1 : Int) + (Math.sumK Math.f4 z : Int)) ws)), OwnR maK 53 2 ayv15 nyv15 cyv15 Hyv15 ((Math.marksM (((1 : Int) + (Math.sumK Math.f4 z : Int)) + (Math.sumK Math.rwl ws : Int)) vs)), OwnR maK 53 2 ay21 ny21 cy21 Hy21 qs, OwnR maK 53 2 ay20 ny20 cy20 Hy20 ps, OwnR ndK 88 2 ay19 ny19 cy19 Hy19 z, OwnR maK 53 2 ayw19 nyw19 cyw19 Hyw19 ws, OwnR maK 53 2 ayv19 nyv19 cyv19 Hyv19 vs, blk bka36 40 [.int .i64 ((((Math.mixAt z ws vs pl ps ql qs n).1.1))), .slice ay18 ny18 cy18], blk bka34 40 [.int .i64 ql, .slice ay17 ny17 cy17], blk bka32 40 [.int .i64 pl, .slice ay16 ny16 cy16], blk bka30 38 [.slice ay15 ny15 cy15, .slice ayw15 nyw15 cyw15, .slice ayv15 nyv15 cyv15], blk bka10 40 [.int .i64 ((((Math.mixAt z ws vs pl ps ql qs n).1.1))), .slice ay4 ny4 cy4], OwnR maK 53 2 ay4 ny4 cy4 Hy4 ((((Math.mixAt z ws vs pl ps ql qs n).1.2))), OwnR maK 53 2 ay3 ny3 cy3 Hy3 qs, OwnR maK 53 2 ay2 ny2 cy2 Hy2 ps, OwnR ndK 88 2 ay1 ny1 cy1 Hy1 z, OwnR maK 53 2 ayw1 nyw1 cyw1 Hyw1 ws, OwnR maK 53 2 ayv1 nyv1 cyv1 Hyv1 vs, blk bkb3 29 [.int .i64 ql, .slice aqs nqs cqs], blk bkb2 29 [.int .i64 pl, .slice aps nps cps], blk bkb1 27 [.slice az nz cz, .slice aws nws cws, .slice avs nvs cvs]]) (fun _ h => h.perm (pull (i := 11) rfl)) ?_
                refine callM (Lf := [OwnR maK 53 2 ay18 ny18 cy18 Hy18 ((((Math.mixAt z ws vs pl ps ql qs n).1.2)))]) (Lr := [OwnR maK 53 2 ay17 ny17 cy17 Hy17 ((Math.marksM (((((((1 : Int) + (Math.sumK Math.f4 z : Int)) + (Math.sumK Math.rwl ws : Int)) + (Math.sumK Math.rwl vs : Int))) + (Math.sumK Math.rwl ps : Int))) qs)), OwnR maK 53 2 ay16 ny16 cy16 Hy16 ((Math.marksM (((((1 : Int) + (Math.sumK Math.f4 z : Int)) + (Math.sumK Math.rwl ws : Int)) + (Math.sumK Math.rwl vs : Int))) ps)), OwnR ndK 88 2 ay15 ny15 cy15 Hy15 ((Math.marksN (1 : Int) z)), OwnR maK 53 2 ayw15 nyw15 cyw15 Hyw15 ((Math.marksM ((1 : Int) + (Math.sumK Math.f4 z : Int)) ws)), OwnR maK 53 2 ayv15 nyv15 cyv15 Hyv15 ((Math.marksM (((1 : Int) + (Math.sumK Math.f4 z : Int)) + (Math.sumK Math.rwl ws : Int)) vs)), OwnR maK 53 2 ay21 ny21 cy21 Hy21 qs, OwnR maK 53 2 ay20 ny20 cy20 Hy20 ps, OwnR ndK 88 2 ay19 ny19 cy19 Hy19 z, OwnR maK 53 2 ayw19 nyw19 cyw19 Hyw19 ws, OwnR maK 53 2 ayv19 nyv19 cyv19 Hyv19 vs, blk bka36 40 [.int .i64 ((((Math.mixAt z ws vs pl ps ql qs n).1.1))), .slice ay18 ny18 cy18], blk bka34 40 [.int .i64 ql, .slice ay17 ny17 cy17], blk bka32 40 [.int .i64 pl, .slice ay16 ny16 cy16], blk bka30 38 [.slice ay15 ny15 cy15, .slice ayw15 nyw15 cyw15, .slice ayv15 nyv15 cyv15], blk bka10 40 [.int .i64 ((((Math.mixAt z ws vs pl ps ql qs n).1.1))), .slice ay4 ny4 cy4], OwnR maK 53 2 ay4 ny4 cy4 Hy4 ((((Math.mixAt z ws vs pl ps ql qs n).1.2))), OwnR maK 53 2 ay3 ny3 cy3 Hy3 qs, OwnR maK 53 2 ay2 ny2 cy2 Hy2 ps, OwnR ndK 88 2 ay1 ny1 cy1 Hy1 z, OwnR maK 53 2 ayw1 nyw1 cyw1 Hyw1 ws, OwnR maK 53 2 ayv1 nyv1 cyv1 Hyv1 vs, blk bkb3 29 [.int .i64 ql, .slice aqs nqs cqs], blk bkb2 29 [.int .i64 pl, .slice aps nps cps], blk bkb1 27 [.slice az nz cz, .slice aws nws cws, .slice avs nvs cvs]]) (φs := fun _ => [OwnR maK 53 2 ay18 ny18 cy18 Hy18 ((Math.marksM (1 : Int) ((((Math.mixAt z ws vs pl ps ql qs n).1.2)))))]) (val := fun _ => .int .i64 (((1 : Int) + (Math.sumK Math.rwl ((((Math.mixAt z ws vs pl ps ql qs n).1.2))) : Int)))) rfl Try.call21 trv1 rfl rfl (fun w M0 hs => laws_markStrategy_c ((((Math.mixAt z ws vs pl ps ql qs n).1.1))) ay18 ny18 cy18 Hy18 ((((Math.mixAt z ws vs pl ps ql qs n).1.2))) (1 : Int) w M0 hs (by omega)) ?_
                rintro _ -
                refine rPieces (L' := [OwnR maK 53 2 ay18 ny18 cy18 Hy18 ((Math.marksM (1 : Int) ((((Math.mixAt z ws vs pl ps ql qs n).1.2))))), OwnR maK 53 2 ay17 ny17 cy17 Hy17 ((Math.marksM (((((((1 : Int) + (Math.sumK Math.f4 z : Int)) + (Math.sumK Math.rwl ws : Int)) + (Math.sumK Math.rwl vs : Int))) + (Math.sumK Math.rwl ps : Int))) qs)), OwnR maK 53 2 ay16 ny16 cy16 Hy16 ((Math.marksM (((((1 : Int) + (Math.sumK Math.f4 z : Int)) + (Math.sumK Math.rwl ws : Int)) + (Math.sumK Math.rwl vs : Int))) ps)), OwnR ndK 88 2 ay15 ny15 cy15 Hy15 ((Math.marksN (1 : Int) z)), OwnR maK 53 2 ayw15 nyw15 cyw15 Hyw15 ((Math.marksM ((1 : Int) + (Math.sumK Math.f4 z : Int)) ws)), OwnR maK 53 2 ayv15 nyv15 cyv15 Hyv15 ((Math.marksM (((1 : Int) + (Math.sumK Math.f4 z : Int)) + (Math.sumK Math.rwl ws : Int)) vs)), OwnR maK 53 2 ay21 ny21 cy21 Hy21 qs, OwnR maK 53 2 ay20 ny20 cy20 Hy20 ps, OwnR ndK 88 2 ay19 ny19 cy19 Hy19 z, OwnR maK 53 2 ayw19 nyw19 cyw19 Hyw19 ws, OwnR maK 53 2 ayv19 nyv19 cyv19 Hyv19 vs, blk bka36 40 [.int .i64 ((((Math.mixAt z ws vs pl ps ql qs n).1.1))), .slice ay18 ny18 cy18], blk bka34 40 [.int .i64 ql, .slice ay17 ny17 cy17], blk bka32 40 [.int .i64 pl, .slice ay16 ny16 cy16], blk bka30 38 [.slice ay15 ny15 cy15, .slice ayw15 nyw15 cyw15, .slice ayv15 nyv15 cyv15], blk bka10 40 [.int .i64 ((((Math.mixAt z ws vs pl ps ql qs n).1.1))), .slice ay4 ny4 cy4], OwnR maK 53 2 ay4 ny4 cy4 Hy4 ((((Math.mixAt z ws vs pl ps ql qs n).1.2))), OwnR maK 53 2 ay3 ny3 cy3 Hy3 qs, OwnR maK 53 2 ay2 ny2 cy2 Hy2 ps, OwnR ndK 88 2 ay1 ny1 cy1 Hy1 z, OwnR maK 53 2 ayw1 nyw1 cyw1 Hyw1 ws, OwnR maK 53 2 ayv1 nyv1 cyv1 Hyv1 vs, blk bkb3 29 [.int .i64 ql, .slice aqs nqs cqs], blk bkb2 29 [.int .i64 pl, .slice aps nps cps], blk bkb1 27 [.slice az nz cz, .slice aws nws cws, .slice avs nvs cvs]]) (fun _ h => h) ?_
                refine asI rfl rfl rfl ?_
                refine rNil ?_
                refine qSeq rfl ?_
                refine hSeq ?_
                refine hReg (sq 0 sz) (by kernel_rfl) ?_
                refine asI rfl rfl rfl ?_
                refine rNil ?_
                refine qSeq rfl ?_
                refine hSeq ?_
                refine hReg (sl 0 (sq 1 (sl 2 (sq 3 sz)))) (by kernel_rfl) ?_
                refine ldAl Try.isAgg40 Try.sizeOf40 (cBs 11 rfl) trv rfl rfl rfl rfl ?_
                refine mvI rfl rfl rfl ?_
                refine callP (v := .int .i64 (((1 : Int) + (Math.sumK Math.rwl (((((Math.mixAt z ws vs pl ps ql qs n).1.2)))) : Int)))) Try.call22 trv rfl rfl (fun w hs => laws_heldStrategy_c _ _ ny18 cy18 _ _ _ _ w (OwnR.rd (hs.at_ 0 rfl) maK.ok) (by omega) (by first | rfl | assumption)) ?_
                refine asI rfl rfl rfl ?_
                refine rNil ?_
                refine qSeq rfl ?_
                refine hSeq ?_
                refine hSeq ?_
                refine hReg (sq 0 (sq 1 sz)) (by kernel_rfl) ?_
                refine mvI rfl rfl rfl ?_
                refine lss rfl rfl rfl rfl ?_
                refine rNil ?_
                refine qSeq rfl ?_
                refine hIfD rfl (fun c7 => ?_) (fun c7 => ?_)
                · -- c7T
                  replace c7 : ((1 : Int) + (Math.sumK Math.rwl (((((Math.mixAt z ws vs pl ps ql qs n).1.2)))) : Int)) < 0 := c7
                  refine hSeq ?_
                  refine hReg (sq 0 sz) (by kernel_rfl) ?_
                  refine asB rfl rfl rfl ?_
                  refine rNil ?_
                  refine qSeq rfl ?_
                  refine hRet ?_
                  exact fun w hs => ⟨[.bool false], ⟨rfl, trivial⟩, ⟨by exfalso; omega, hs.upd⟩⟩
                · -- c7F
                  replace c7 : ¬ (((1 : Int) + (Math.sumK Math.rwl (((((Math.mixAt z ws vs pl ps ql qs n).1.2)))) : Int)) < 0) := c7
                  refine hSkip ?_
                  refine qSeq rfl ?_
                  refine hSeq ?_
                  refine hSeq ?_
                  refine hReg (sq 0 (sq 1 (sq 2 sz))) (by kernel_rfl) ?_
                  refine mvI rfl rfl rfl ?_
                  refine mvI rfl rfl rfl ?_
                  refine neq rfl rfl rfl rfl ?_
                  refine rNil ?_
                  refine qSeq rfl ?_
                  refine hIfD rfl (fun c8 => ?_) (fun c8 => ?_)
                  · -- c8T
                    replace c8 : ((1 : Int) + (Math.sumK Math.rwl (((((Math.mixAt z ws vs pl ps ql qs n).1.2)))) : Int)) ≠ ((1 : Int) + (Math.sumK Math.rwl ((((Math.mixAt z ws vs pl ps ql qs n).1.2))) : Int)) := c8
                    refine hSeq ?_
                    refine hReg (sq 0 sz) (by kernel_rfl) ?_
                    refine asB rfl rfl rfl ?_
                    refine rNil ?_
                    refine qSeq rfl ?_
                    refine hRet ?_
                    exact fun w hs => ⟨[.bool false], ⟨rfl, trivial⟩, ⟨by exfalso; omega, hs.upd⟩⟩
                  · -- c8F
                    replace c8 : ¬ (((1 : Int) + (Math.sumK Math.rwl (((((Math.mixAt z ws vs pl ps ql qs n).1.2)))) : Int)) ≠ ((1 : Int) + (Math.sumK Math.rwl ((((Math.mixAt z ws vs pl ps ql qs n).1.2))) : Int))) := c8
                    refine hSkip ?_
                    refine qSeq rfl ?_
                    refine hSeq ?_
                    refine hCut (α := Nat × Option Addr × Nat × Nat × (Nat → Hd) × Option Addr × Nat × Nat × (Nat → Hd) × Option Addr × Nat × Nat × (Nat → Hd) × Option Addr × Nat × Nat × (Nat → Hd) × Option Addr × Nat × Nat × (Nat → Hd) × Option Addr × Nat × Nat × (Nat → Hd)) (fun x => ((((Math.mixAt z ws vs pl ps ql qs n).1.2))).length = x.2.2.1 ∧ qs.length = x.2.2.2.2.2.2.1 ∧ ps.length = x.2.2.2.2.2.2.2.2.2.2.1 ∧ z.length = x.2.2.2.2.2.2.2.2.2.2.2.2.2.2.1 ∧ ws.length = x.2.2.2.2.2.2.2.2.2.2.2.2.2.2.2.2.2.2.1 ∧ vs.length = x.2.2.2.2.2.2.2.2.2.2.2.2.2.2.2.2.2.2.2.2.2.2.1) (fun x => [blk x.1 40 [.int .i64 ((((Math.mixAt z ws vs pl ps ql qs n).1.1))), .slice x.2.1 x.2.2.1 x.2.2.2.1], OwnR maK 53 2 x.2.1 x.2.2.1 x.2.2.2.1 x.2.2.2.2.1 ((((Math.mixAt z ws vs pl ps ql qs n).1.2))), OwnR maK 53 2 x.2.2.2.2.2.1 x.2.2.2.2.2.2.1 x.2.2.2.2.2.2.2.1 x.2.2.2.2.2.2.2.2.1 qs, OwnR maK 53 2 x.2.2.2.2.2.2.2.2.2.1 x.2.2.2.2.2.2.2.2.2.2.1 x.2.2.2.2.2.2.2.2.2.2.2.1 x.2.2.2.2.2.2.2.2.2.2.2.2.1 ps, OwnR ndK 88 2 x.2.2.2.2.2.2.2.2.2.2.2.2.2.1 x.2.2.2.2.2.2.2.2.2.2.2.2.2.2.1 x.2.2.2.2.2.2.2.2.2.2.2.2.2.2.2.1 x.2.2.2.2.2.2.2.2.2.2.2.2.2.2.2.2.1 z, OwnR maK 53 2 x.2.2.2.2.2.2.2.2.2.2.2.2.2.2.2.2.2.1 x.2.2.2.2.2.2.2.2.2.2.2.2.2.2.2.2.2.2.1 x.2.2.2.2.2.2.2.2.2.2.2.2.2.2.2.2.2.2.2.1 x.2.2.2.2.2.2.2.2.2.2.2.2.2.2.2.2.2.2.2.2.1 ws, OwnR maK 53 2 x.2.2.2.2.2.2.2.2.2.2.2.2.2.2.2.2.2.2.2.2.2.1 x.2.2.2.2.2.2.2.2.2.2.2.2.2.2.2.2.2.2.2.2.2.2.1 x.2.2.2.2.2.2.2.2.2.2.2.2.2.2.2.2.2.2.2.2.2.2.2.1 x.2.2.2.2.2.2.2.2.2.2.2.2.2.2.2.2.2.2.2.2.2.2.2.2 vs, OwnR maK 53 2 ay18 ny18 cy18 Hy18 ((Math.marksM (1 : Int) ((((Math.mixAt z ws vs pl ps ql qs n).1.2))))), OwnR maK 53 2 ay17 ny17 cy17 Hy17 ((Math.marksM (((((((1 : Int) + (Math.sumK Math.f4 z : Int)) + (Math.sumK Math.rwl ws : Int)) + (Math.sumK Math.rwl vs : Int))) + (Math.sumK Math.rwl ps : Int))) qs)), OwnR maK 53 2 ay16 ny16 cy16 Hy16 ((Math.marksM (((((1 : Int) + (Math.sumK Math.f4 z : Int)) + (Math.sumK Math.rwl ws : Int)) + (Math.sumK Math.rwl vs : Int))) ps)), OwnR ndK 88 2 ay15 ny15 cy15 Hy15 ((Math.marksN (1 : Int) z)), OwnR maK 53 2 ayw15 nyw15 cyw15 Hyw15 ((Math.marksM ((1 : Int) + (Math.sumK Math.f4 z : Int)) ws)), OwnR maK 53 2 ayv15 nyv15 cyv15 Hyv15 ((Math.marksM (((1 : Int) + (Math.sumK Math.f4 z : Int)) + (Math.sumK Math.rwl ws : Int)) vs)), OwnR maK 53 2 ay21 ny21 cy21 Hy21 qs, OwnR maK 53 2 ay20 ny20 cy20 Hy20 ps, OwnR ndK 88 2 ay19 ny19 cy19 Hy19 z, OwnR maK 53 2 ayw19 nyw19 cyw19 Hyw19 ws, OwnR maK 53 2 ayv19 nyv19 cyv19 Hyv19 vs, blk bka36 40 [.int .i64 ((((Math.mixAt z ws vs pl ps ql qs n).1.1))), .slice ay18 ny18 cy18], blk bka34 40 [.int .i64 ql, .slice ay17 ny17 cy17], blk bka32 40 [.int .i64 pl, .slice ay16 ny16 cy16], blk bka30 38 [.slice ay15 ny15 cy15, .slice ayw15 nyw15 cyw15, .slice ayv15 nyv15 cyv15], blk bka10 40 [.int .i64 ((((Math.mixAt z ws vs pl ps ql qs n).1.1))), .slice ay4 ny4 cy4], OwnR maK 53 2 ay4 ny4 cy4 Hy4 ((((Math.mixAt z ws vs pl ps ql qs n).1.2))), OwnR maK 53 2 ay3 ny3 cy3 Hy3 qs, OwnR maK 53 2 ay2 ny2 cy2 Hy2 ps, OwnR ndK 88 2 ay1 ny1 cy1 Hy1 z, OwnR maK 53 2 ayw1 nyw1 cyw1 Hyw1 ws, OwnR maK 53 2 ayv1 nyv1 cyv1 Hyv1 vs, blk bkb3 29 [.int .i64 ql, .slice aqs nqs cqs], blk bkb2 29 [.int .i64 pl, .slice aps nps cps], blk bkb1 27 [.slice az nz cz, .slice aws nws cws, .slice avs nvs cvs]]) (fun x => [(10, .pointer (some ⟨bka10, 0, none⟩)), (11, .int .i64 ((((Math.mixAt z ws vs pl ps ql qs n).2)))), (15, .pointer (some ⟨bka36, 0, none⟩)), (18, .int .i64 (((1 : Int) + (Math.sumK Math.rwl ((((Math.mixAt z ws vs pl ps ql qs n).1.2))) : Int)))), (20, .pointer (some ⟨x.1, 0, none⟩)), (21, .int .i64 ((((Math.mixAt z ws vs pl ps ql qs n).2))))]) ?_ ?_
                    ·
                      refine hDraw (Ls := [blk bkb3 29 [.int .i64 ql, .slice aqs nqs cqs], blk bkb2 29 [.int .i64 pl, .slice aps nps cps], blk bkb1 27 [.slice az nz cz, .slice aws nws cws, .slice avs nvs cvs]]) (by kernel_rfl) (sq 0 (sq 2 (sq 4 (sq 6 (.alt (sl 1 (.alt (sl 3 (.alt (sl 5 (.alt (sl 7 (sq 8 (sq 9 (sq 10 (sl 11 (sl 12 (sq 13 sz))))))) (sl 11 (sl 7 (sq 8 (sq 9 (sq 10 (sl 12 (sq 13 sz))))))))) (sl 11 (sl 5 (sl 7 (sq 8 (sq 9 (sq 10 (sl 12 (sq 13 sz)))))))))) (sl 11 (sl 3 (sl 5 (sl 7 (sq 8 (sq 9 (sq 10 (sl 12 (sq 13 sz))))))))))) (sl 11 (sl 1 (sl 3 (sl 5 (sl 7 (sq 8 (sq 9 (sq 10 (sl 12 (sq 13 sz))))))))))))))) (by kernel_rfl) (.cons _ (.cons _ (.cons _ (.cons _ (.cons _ (.cons _ (.cons _ (.cons _ (.cons _ (.cons _ (.cons _ (.cons _ (.cons _ (.cons _ (.cons _ (.cons _ (.cons _ (.cons _ (.cons _ (.cons _ (.cons _ (.cons _ (.cons_cons _ (.cons_cons _ (.cons_cons _ .slnil))))))))))))))))))))))))) ?_
                      refine ldAq Try.isAgg27 Try.sizeOf27 (cBs 2 rfl) rfl rfl rfl rfl ?_
                      refine ldAq Try.isAgg29 Try.sizeOf29 (cBs 1 rfl) rfl rfl rfl rfl ?_
                      refine ldAq Try.isAgg29 Try.sizeOf29 (cBs 0 rfl) rfl rfl rfl rfl ?_
                      refine mvI rfl rfl rfl ?_
                      refine rAlt ?_ ?_
                      ·
                        refine callS Try.call11 (by exact (fun _ _ h => h.pick [25, 25, 25])) rfl rfl (fun w hs => laws_toGame_c _ nz cz _ _ _ nws cws _ _ _ nvs cvs _ _ w (Kn.drop (k := 25) kz w hs) (Kn.drop (k := 25) kws w hs) (Kn.drop (k := 25) kvs w hs) (by first | assumption | omega) (by first | assumption | omega) (by first | assumption | omega)) ?_
                        rintro ⟨ay22, ny22, cy22, Hy22, y22, ayw22, nyw22, cyw22, Hyw22, yw22, ayv22, nyv22, cyv22, Hyv22, yv22⟩ ⟨hr22a, hr22b, hr22c⟩
                        dsimp only at hr22a hr22b hr22c
                        subst y22
                        subst yw22
                        subst yv22
                        refine rPieces (L' := [OwnR ndK 88 2 ay22 ny22 cy22 Hy22 z, OwnR maK 53 2 ayw22 nyw22 cyw22 Hyw22 ws, OwnR maK 53 2 ayv22 nyv22 cyv22 Hyv22 vs, OwnR maK 53 2 ay18 ny18 cy18 Hy18 ((Math.marksM (1 : Int) ((((Math.mixAt z ws vs pl ps ql qs n).1.2))))), OwnR maK 53 2 ay17 ny17 cy17 Hy17 ((Math.marksM (((((((1 : Int) + (Math.sumK Math.f4 z : Int)) + (Math.sumK Math.rwl ws : Int)) + (Math.sumK Math.rwl vs : Int))) + (Math.sumK Math.rwl ps : Int))) qs)), OwnR maK 53 2 ay16 ny16 cy16 Hy16 ((Math.marksM (((((1 : Int) + (Math.sumK Math.f4 z : Int)) + (Math.sumK Math.rwl ws : Int)) + (Math.sumK Math.rwl vs : Int))) ps)), OwnR ndK 88 2 ay15 ny15 cy15 Hy15 ((Math.marksN (1 : Int) z)), OwnR maK 53 2 ayw15 nyw15 cyw15 Hyw15 ((Math.marksM ((1 : Int) + (Math.sumK Math.f4 z : Int)) ws)), OwnR maK 53 2 ayv15 nyv15 cyv15 Hyv15 ((Math.marksM (((1 : Int) + (Math.sumK Math.f4 z : Int)) + (Math.sumK Math.rwl ws : Int)) vs)), OwnR maK 53 2 ay21 ny21 cy21 Hy21 qs, OwnR maK 53 2 ay20 ny20 cy20 Hy20 ps, OwnR ndK 88 2 ay19 ny19 cy19 Hy19 z, OwnR maK 53 2 ayw19 nyw19 cyw19 Hyw19 ws, OwnR maK 53 2 ayv19 nyv19 cyv19 Hyv19 vs, blk bka36 40 [.int .i64 ((((Math.mixAt z ws vs pl ps ql qs n).1.1))), .slice ay18 ny18 cy18], blk bka34 40 [.int .i64 ql, .slice ay17 ny17 cy17], blk bka32 40 [.int .i64 pl, .slice ay16 ny16 cy16], blk bka30 38 [.slice ay15 ny15 cy15, .slice ayw15 nyw15 cyw15, .slice ayv15 nyv15 cyv15], blk bka10 40 [.int .i64 ((((Math.mixAt z ws vs pl ps ql qs n).1.1))), .slice ay4 ny4 cy4], OwnR maK 53 2 ay4 ny4 cy4 Hy4 ((((Math.mixAt z ws vs pl ps ql qs n).1.2))), OwnR maK 53 2 ay3 ny3 cy3 Hy3 qs, OwnR maK 53 2 ay2 ny2 cy2 Hy2 ps, OwnR ndK 88 2 ay1 ny1 cy1 Hy1 z, OwnR maK 53 2 ayw1 nyw1 cyw1 Hyw1 ws, OwnR maK 53 2 ayv1 nyv1 cyv1 Hyv1 vs, blk bkb3 29 [.int .i64 ql, .slice aqs nqs cqs], blk bkb2 29 [.int .i64 pl, .slice aps nps cps], blk bkb1 27 [.slice az nz cz, .slice aws nws cws, .slice avs nvs cvs]]) (fun _ h => h) ?_
                        refine rKnow (fun w hs => (show OwnR ndK 88 2 ay22 ny22 cy22 Hy22 z w from hs.at_ 0 rfl).1) (fun lenn42 => ?_)
                        refine rKnow (fun w hs => (show OwnR maK 53 2 ayw22 nyw22 cyw22 Hyw22 ws w from hs.at_ 1 rfl).1) (fun lenn43 => ?_)
                        refine rKnow (fun w hs => (show OwnR maK 53 2 ayv22 nyv22 cyv22 Hyv22 vs w from hs.at_ 2 rfl).1) (fun lenn44 => ?_)
                        refine rAlt ?_ ?_
                        ·
                          refine callS Try.call12 (by exact (fun _ _ h => h.pick [26, 26, 26])) rfl rfl (fun w hs => laws_toStrategy_c _ _ nps cps _ _ w (Kn.drop (k := 28) kps w hs) (by first | assumption | omega)) ?_
                          rintro ⟨ay23, ny23, cy23, Hy23, y23⟩ hr23
                          dsimp only at hr23
                          subst y23
                          refine rPieces (L' := [OwnR maK 53 2 ay23 ny23 cy23 Hy23 ps, OwnR ndK 88 2 ay22 ny22 cy22 Hy22 z, OwnR maK 53 2 ayw22 nyw22 cyw22 Hyw22 ws, OwnR maK 53 2 ayv22 nyv22 cyv22 Hyv22 vs, OwnR maK 53 2 ay18 ny18 cy18 Hy18 ((Math.marksM (1 : Int) ((((Math.mixAt z ws vs pl ps ql qs n).1.2))))), OwnR maK 53 2 ay17 ny17 cy17 Hy17 ((Math.marksM (((((((1 : Int) + (Math.sumK Math.f4 z : Int)) + (Math.sumK Math.rwl ws : Int)) + (Math.sumK Math.rwl vs : Int))) + (Math.sumK Math.rwl ps : Int))) qs)), OwnR maK 53 2 ay16 ny16 cy16 Hy16 ((Math.marksM (((((1 : Int) + (Math.sumK Math.f4 z : Int)) + (Math.sumK Math.rwl ws : Int)) + (Math.sumK Math.rwl vs : Int))) ps)), OwnR ndK 88 2 ay15 ny15 cy15 Hy15 ((Math.marksN (1 : Int) z)), OwnR maK 53 2 ayw15 nyw15 cyw15 Hyw15 ((Math.marksM ((1 : Int) + (Math.sumK Math.f4 z : Int)) ws)), OwnR maK 53 2 ayv15 nyv15 cyv15 Hyv15 ((Math.marksM (((1 : Int) + (Math.sumK Math.f4 z : Int)) + (Math.sumK Math.rwl ws : Int)) vs)), OwnR maK 53 2 ay21 ny21 cy21 Hy21 qs, OwnR maK 53 2 ay20 ny20 cy20 Hy20 ps, OwnR ndK 88 2 ay19 ny19 cy19 Hy19 z, OwnR maK 53 2 ayw19 nyw19 cyw19 Hyw19 ws, OwnR maK 53 2 ayv19 nyv19 cyv19 Hyv19 vs, blk bka36 40 [.int .i64 ((((Math.mixAt z ws vs pl ps ql qs n).1.1))), .slice ay18 ny18 cy18], blk bka34 40 [.int .i64 ql, .slice ay17 ny17 cy17], blk bka32 40 [.int .i64 pl, .slice ay16 ny16 cy16], blk bka30 38 [.slice ay15 ny15 cy15, .slice ayw15 nyw15 cyw15, .slice ayv15 nyv15 cyv15], blk bka10 40 [.int .i64 ((((Math.mixAt z ws vs pl ps ql qs n).1.1))), .slice ay4 ny4 cy4], OwnR maK 53 2 ay4 ny4 cy4 Hy4 ((((Math.mixAt z ws vs pl ps ql qs n).1.2))), OwnR maK 53 2 ay3 ny3 cy3 Hy3 qs, OwnR maK 53 2 ay2 ny2 cy2 Hy2 ps, OwnR ndK 88 2 ay1 ny1 cy1 Hy1 z, OwnR maK 53 2 ayw1 nyw1 cyw1 Hyw1 ws, OwnR maK 53 2 ayv1 nyv1 cyv1 Hyv1 vs, blk bkb3 29 [.int .i64 ql, .slice aqs nqs cqs], blk bkb2 29 [.int .i64 pl, .slice aps nps cps], blk bkb1 27 [.slice az nz cz, .slice aws nws cws, .slice avs nvs cvs]]) (fun _ h => h) ?_
                          refine rKnow (fun w hs => (show OwnR maK 53 2 ay23 ny23 cy23 Hy23 ps w from hs.at_ 0 rfl).1) (fun lenn45 => ?_)
                          refine rAlt ?_ ?_
                          ·
                            refine callS Try.call12 (by exact (fun _ _ h => h.pick [27, 27, 27])) rfl rfl (fun w hs => laws_toStrategy_c _ _ nqs cqs _ _ w (Kn.drop (k := 29) kqs w hs) (by first | assumption | omega)) ?_
                            rintro ⟨ay24, ny24, cy24, Hy24, y24⟩ hr24
                            dsimp only at hr24
                            subst y24
                            refine rPieces (L' := [OwnR maK 53 2 ay24 ny24 cy24 Hy24 qs, OwnR maK 53 2 ay23 ny23 cy23 Hy23 ps, OwnR ndK 88 2 ay22 ny22 cy22 Hy22 z, OwnR maK 53 2 ayw22 nyw22 cyw22 Hyw22 ws, OwnR maK 53 2 ayv22 nyv22 cyv22 Hyv22 vs, OwnR maK 53 2 ay18 ny18 cy18 Hy18 ((Math.marksM (1 : Int) ((((Math.mixAt z ws vs pl ps ql qs n).1.2))))), OwnR maK 53 2 ay17 ny17 cy17 Hy17 ((Math.marksM (((((((1 : Int) + (Math.sumK Math.f4 z : Int)) + (Math.sumK Math.rwl ws : Int)) + (Math.sumK Math.rwl vs : Int))) + (Math.sumK Math.rwl ps : Int))) qs)), OwnR maK 53 2 ay16 ny16 cy16 Hy16 ((Math.marksM (((((1 : Int) + (Math.sumK Math.f4 z : Int)) + (Math.sumK Math.rwl ws : Int)) + (Math.sumK Math.rwl vs : Int))) ps)), OwnR ndK 88 2 ay15 ny15 cy15 Hy15 ((Math.marksN (1 : Int) z)), OwnR maK 53 2 ayw15 nyw15 cyw15 Hyw15 ((Math.marksM ((1 : Int) + (Math.sumK Math.f4 z : Int)) ws)), OwnR maK 53 2 ayv15 nyv15 cyv15 Hyv15 ((Math.marksM (((1 : Int) + (Math.sumK Math.f4 z : Int)) + (Math.sumK Math.rwl ws : Int)) vs)), OwnR maK 53 2 ay21 ny21 cy21 Hy21 qs, OwnR maK 53 2 ay20 ny20 cy20 Hy20 ps, OwnR ndK 88 2 ay19 ny19 cy19 Hy19 z, OwnR maK 53 2 ayw19 nyw19 cyw19 Hyw19 ws, OwnR maK 53 2 ayv19 nyv19 cyv19 Hyv19 vs, blk bka36 40 [.int .i64 ((((Math.mixAt z ws vs pl ps ql qs n).1.1))), .slice ay18 ny18 cy18], blk bka34 40 [.int .i64 ql, .slice ay17 ny17 cy17], blk bka32 40 [.int .i64 pl, .slice ay16 ny16 cy16], blk bka30 38 [.slice ay15 ny15 cy15, .slice ayw15 nyw15 cyw15, .slice ayv15 nyv15 cyv15], blk bka10 40 [.int .i64 ((((Math.mixAt z ws vs pl ps ql qs n).1.1))), .slice ay4 ny4 cy4], OwnR maK 53 2 ay4 ny4 cy4 Hy4 ((((Math.mixAt z ws vs pl ps ql qs n).1.2))), OwnR maK 53 2 ay3 ny3 cy3 Hy3 qs, OwnR maK 53 2 ay2 ny2 cy2 Hy2 ps, OwnR ndK 88 2 ay1 ny1 cy1 Hy1 z, OwnR maK 53 2 ayw1 nyw1 cyw1 Hyw1 ws, OwnR maK 53 2 ayv1 nyv1 cyv1 Hyv1 vs, blk bkb3 29 [.int .i64 ql, .slice aqs nqs cqs], blk bkb2 29 [.int .i64 pl, .slice aps nps cps], blk bkb1 27 [.slice az nz cz, .slice aws nws cws, .slice avs nvs cvs]]) (fun _ h => h) ?_
                            refine rKnow (fun w hs => (show OwnR maK 53 2 ay24 ny24 cy24 Hy24 qs w from hs.at_ 0 rfl).1) (fun lenn46 => ?_)
                            refine rAlt ?_ ?_
                            ·
                              refine callS Try.call19 (by exact (fun _ _ h => h.pick [28, 28, 28])) rfl rfl (fun w hs => impl_MixStrategies_c _ ny22 cy22 _ _ _ nyw22 cyw22 _ _ _ nyv22 cyv22 _ _ _ _ ny23 cy23 _ _ _ _ ny24 cy24 _ _ _ w (OwnR.rd (hs.at_ 2 rfl) ndK.ok) (OwnR.rd (hs.at_ 3 rfl) maK.ok) (OwnR.rd (hs.at_ 4 rfl) maK.ok) (OwnR.rd (hs.at_ 1 rfl) maK.ok) (OwnR.rd (hs.at_ 0 rfl) maK.ok)) ?_
                              rintro ⟨y025, ay25, ny25, cy25, Hy25, y25, q25⟩ ⟨hr25a, hr25b, hr25c⟩
                              dsimp only at hr25a hr25b hr25c
                              subst y025
                              subst y25
                              subst q25
                              refine rPieces (L' := [OwnR maK 53 2 ay25 ny25 cy25 Hy25 ((((Math.mixAt z ws vs pl ps ql qs n).1.2))), OwnR maK 53 2 ay24 ny24 cy24 Hy24 qs, OwnR maK 53 2 ay23 ny23 cy23 Hy23 ps, OwnR ndK 88 2 ay22 ny22 cy22 Hy22 z, OwnR maK 53 2 ayw22 nyw22 cyw22 Hyw22 ws, OwnR maK 53 2 ayv22 nyv22 cyv22 Hyv22 vs, OwnR maK 53 2 ay18 ny18 cy18 Hy18 ((Math.marksM (1 : Int) ((((Math.mixAt z ws vs pl ps ql qs n).1.2))))), OwnR maK 53 2 ay17 ny17 cy17 Hy17 ((Math.marksM (((((((1 : Int) + (Math.sumK Math.f4 z : Int)) + (Math.sumK Math.rwl ws : Int)) + (Math.sumK Math.rwl vs : Int))) + (Math.sumK Math.rwl ps : Int))) qs)), OwnR maK 53 2 ay16 ny16 cy16 Hy16 ((Math.marksM (((((1 : Int) + (Math.sumK Math.f4 z : Int)) + (Math.sumK Math.rwl ws : Int)) + (Math.sumK Math.rwl vs : Int))) ps)), OwnR ndK 88 2 ay15 ny15 cy15 Hy15 ((Math.marksN (1 : Int) z)), OwnR maK 53 2 ayw15 nyw15 cyw15 Hyw15 ((Math.marksM ((1 : Int) + (Math.sumK Math.f4 z : Int)) ws)), OwnR maK 53 2 ayv15 nyv15 cyv15 Hyv15 ((Math.marksM (((1 : Int) + (Math.sumK Math.f4 z : Int)) + (Math.sumK Math.rwl ws : Int)) vs)), OwnR maK 53 2 ay21 ny21 cy21 Hy21 qs, OwnR maK 53 2 ay20 ny20 cy20 Hy20 ps, OwnR ndK 88 2 ay19 ny19 cy19 Hy19 z, OwnR maK 53 2 ayw19 nyw19 cyw19 Hyw19 ws, OwnR maK 53 2 ayv19 nyv19 cyv19 Hyv19 vs, blk bka36 40 [.int .i64 ((((Math.mixAt z ws vs pl ps ql qs n).1.1))), .slice ay18 ny18 cy18], blk bka34 40 [.int .i64 ql, .slice ay17 ny17 cy17], blk bka32 40 [.int .i64 pl, .slice ay16 ny16 cy16], blk bka30 38 [.slice ay15 ny15 cy15, .slice ayw15 nyw15 cyw15, .slice ayv15 nyv15 cyv15], blk bka10 40 [.int .i64 ((((Math.mixAt z ws vs pl ps ql qs n).1.1))), .slice ay4 ny4 cy4], OwnR maK 53 2 ay4 ny4 cy4 Hy4 ((((Math.mixAt z ws vs pl ps ql qs n).1.2))), OwnR maK 53 2 ay3 ny3 cy3 Hy3 qs, OwnR maK 53 2 ay2 ny2 cy2 Hy2 ps, OwnR ndK 88 2 ay1 ny1 cy1 Hy1 z, OwnR maK 53 2 ayw1 nyw1 cyw1 Hyw1 ws, OwnR maK 53 2 ayv1 nyv1 cyv1 Hyv1 vs, blk bkb3 29 [.int .i64 ql, .slice aqs nqs cqs], blk bkb2 29 [.int .i64 pl, .slice aps nps cps], blk bkb1 27 [.slice az nz cz, .slice aws nws cws, .slice avs nvs cvs]]) (fun _ h => h) ?_
                              refine rKnow (fun w hs => (show OwnR maK 53 2 ay25 ny25 cy25 Hy25 ((((Math.mixAt z ws vs pl ps ql qs n).1.2))) w from hs.at_ 0 rfl).1) (fun lenn47 => ?_)
                              refine mv rfl rfl rfl ?_
                              refine ext rfl rfl rfl rfl ?_
                              refine ext rfl rfl rfl rfl ?_
                              refine alc Try.zeroValue40 rfl (fun _ _ h => h.pick [29, 29, 29]) rfl rfl (fun bka48 hbka48 => ?_)
                              refine stAl (vs := [.int .i64 ((((Math.mixAt z ws vs pl ps ql qs n).1.1))), .slice ay25 ny25 cy25]) 0 rfl Try.sizeOf40 (fun _ h => h.pick [29, 29, 29]) rfl rfl rfl rfl rfl (by simp [Value.oneCell']) rfl ?_
                              refine asI rfl rfl rfl ?_
                              refine rNil ?_
                              exact qLoop rfl fun w h => ⟨(bka48, ay25, ny25, cy25, Hy25, ay24, ny24, cy24, Hy24, ay23, ny23, cy23, Hy23, ay22, ny22, cy22, Hy22, ayw22, nyw22, cyw22, Hyw22, ayv22, nyv22, cyv22, Hyv22), ⟨by dsimp only; omega, by dsimp only; omega, by dsimp only; omega, by dsimp only; omega, by dsimp only; omega, by dsimp only; omega⟩, ⟨rfl, rfl, rfl, rfl, rfl, rfl, trivial⟩, h⟩
                            ·
                              refine alc Try.zeroValue40 rfl (fun _ _ h => h.pick [28, 28, 28]) rfl rfl (fun bka49 hbka49 => ?_)
                              refine callS Try.call19 (by exact (fun _ _ h => h.pick [29, 29, 29])) rfl rfl (fun w hs => impl_MixStrategies_c _ ny22 cy22 _ _ _ nyw22 cyw22 _ _ _ nyv22 cyv22 _ _ _ _ ny23 cy23 _ _ _ _ ny24 cy24 _ _ _ w (OwnR.rd (hs.at_ 3 rfl) ndK.ok) (OwnR.rd (hs.at_ 4 rfl) maK.ok) (OwnR.rd (hs.at_ 5 rfl) maK.ok) (OwnR.rd (hs.at_ 2 rfl) maK.ok) (OwnR.rd (hs.at_ 1 rfl) maK.ok)) ?_
                              rintro ⟨y026, ay26, ny26, cy26, Hy26, y26, q26⟩ ⟨hr26a, hr26b, hr26c⟩
                              dsimp only at hr26a hr26b hr26c
                              subst y026
                              subst y26
                              subst q26
                              refine rPieces (L' := [OwnR maK 53 2 ay26 ny26 cy26 Hy26 ((((Math.mixAt z ws vs pl ps ql qs n).1.2))), blk bka49 40 [.int .i64 0, .slice none 0 0], OwnR maK 53 2 ay24 ny24 cy24 Hy24 qs, OwnR maK 53 2 ay23 ny23 cy23 Hy23 ps, OwnR ndK 88 2 ay22 ny22 cy22 Hy22 z, OwnR maK 53 2 ayw22 nyw22 cyw22 Hyw22 ws, OwnR maK 53 2 ayv22 nyv22 cyv22 Hyv22 vs, OwnR maK 53 2 ay18 ny18 cy18 Hy18 ((Math.marksM (1 : Int) ((((Math.mixAt z ws vs pl ps ql qs n).1.2))))), OwnR maK 53 2 ay17 ny17 cy17 Hy17 ((Math.marksM (((((((1 : Int) + (Math.sumK Math.f4 z : Int)) + (Math.sumK Math.rwl ws : Int)) + (Math.sumK Math.rwl vs : Int))) + (Math.sumK Math.rwl ps : Int))) qs)), OwnR maK 53 2 ay16 ny16 cy16 Hy16 ((Math.marksM (((((1 : Int) + (Math.sumK Math.f4 z : Int)) + (Math.sumK Math.rwl ws : Int)) + (Math.sumK Math.rwl vs : Int))) ps)), OwnR ndK 88 2 ay15 ny15 cy15 Hy15 ((Math.marksN (1 : Int) z)), OwnR maK 53 2 ayw15 nyw15 cyw15 Hyw15 ((Math.marksM ((1 : Int) + (Math.sumK Math.f4 z : Int)) ws)), OwnR maK 53 2 ayv15 nyv15 cyv15 Hyv15 ((Math.marksM (((1 : Int) + (Math.sumK Math.f4 z : Int)) + (Math.sumK Math.rwl ws : Int)) vs)), OwnR maK 53 2 ay21 ny21 cy21 Hy21 qs, OwnR maK 53 2 ay20 ny20 cy20 Hy20 ps, OwnR ndK 88 2 ay19 ny19 cy19 Hy19 z, OwnR maK 53 2 ayw19 nyw19 cyw19 Hyw19 ws, OwnR maK 53 2 ayv19 nyv19 cyv19 Hyv19 vs, blk bka36 40 [.int .i64 ((((Math.mixAt z ws vs pl ps ql qs n).1.1))), .slice ay18 ny18 cy18], blk bka34 40 [.int .i64 ql, .slice ay17 ny17 cy17], blk bka32 40 [.int .i64 pl, .slice ay16 ny16 cy16], blk bka30 38 [.slice ay15 ny15 cy15, .slice ayw15 nyw15 cyw15, .slice ayv15 nyv15 cyv15], blk bka10 40 [.int .i64 ((((Math.mixAt z ws vs pl ps ql qs n).1.1))), .slice ay4 ny4 cy4], OwnR maK 53 2 ay4 ny4 cy4 Hy4 ((((Math.mixAt z ws vs pl ps ql qs n).1.2))), OwnR maK 53 2 ay3 ny3 cy3 Hy3 qs, OwnR maK 53 2 ay2 ny2 cy2 Hy2 ps, OwnR ndK 88 2 ay1 ny1 cy1 Hy1 z, OwnR maK 53 2 ayw1 nyw1 cyw1 Hyw1 ws, OwnR maK 53 2 ayv1 nyv1 cyv1 Hyv1 vs, blk bkb3 29 [.int .i64 ql, .slice aqs nqs cqs], blk bkb2 29 [.int .i64 pl, .slice aps nps cps], blk bkb1 27 [.slice az nz cz, .slice aws nws cws, .slice avs nvs cvs]]) (fun _ h => h) ?_
                              refine rKnow (fun w hs => (show OwnR maK 53 2 ay26 ny26 cy26 Hy26 ((((Math.mixAt z ws vs pl ps ql qs n).1.2))) w from hs.at_ 0 rfl).1) (fun lenn50 => ?_)
                              refine mv rfl rfl rfl ?_
                              refine ext rfl rfl rfl rfl ?_
                              refine ext rfl rfl rfl rfl ?_
                              refine stAl (vs := [.int .i64 ((((Math.mixAt z ws vs pl ps ql qs n).1.1))), .slice ay26 ny26 cy26]) 1 rfl Try.sizeOf40 (fun _ h => h.pick [29, 29, 29]) rfl rfl rfl rfl rfl (by simp [Value.oneCell']) rfl ?_
                              refine asI rfl rfl rfl ?_
                              refine rNil ?_
                              exact qLoop rfl fun w h => ⟨(bka49, ay26, ny26, cy26, Hy26, ay24, ny24, cy24, Hy24, ay23, ny23, cy23, Hy23, ay22, ny22, cy22, Hy22, ayw22, nyw22, cyw22, Hyw22, ayv22, nyv22, cyv22, Hyv22), ⟨by dsimp only; omega, by dsimp only; omega, by dsimp only; omega, by dsimp only; omega, by dsimp only; omega, by dsimp only; omega⟩, ⟨rfl, rfl, rfl, rfl, rfl, rfl, trivial⟩, (h.perm (pull (i := 1) rfl))⟩
                          ·
                            refine alc Try.zeroValue40 rfl (fun _ _ h => h.pick [27, 27, 27]) rfl rfl (fun bka51 hbka51 => ?_)
                            refine callS Try.call12 (by exact (fun _ _ h => h.pick [28, 28, 28])) rfl rfl (fun w hs => laws_toStrategy_c _ _ nqs cqs _ _ w (Kn.drop (k := 30) kqs w hs) (by first | assumption | omega)) ?_
                            rintro ⟨ay27, ny27, cy27, Hy27, y27⟩ hr27
                            dsimp only at hr27
                            subst y27
                            refine rPieces (L' := [OwnR maK 53 2 ay27 ny27 cy27 Hy27 qs, blk bka51 40 [.int .i64 0, .slice none 0 0], OwnR maK 53 2 ay23 ny23 cy23 Hy23 ps, OwnR ndK 88 2 ay22 ny22 cy22 Hy22 z, OwnR maK 53 2 ayw22 nyw22 cyw22 Hyw22 ws, OwnR maK 53 2 ayv22 nyv22 cyv22 Hyv22 vs, OwnR maK 53 2 ay18 ny18 cy18 Hy18 ((Math.marksM (1 : Int) ((((Math.mixAt z ws vs pl ps ql qs n).1.2))))), OwnR maK 53 2 ay17 ny17 cy17 Hy17 ((Math.marksM (((((((1 : Int) + (Math.sumK Math.f4 z : Int)) + (Math.sumK Math.rwl ws : Int)) + (Math.sumK Math.rwl vs : Int))) + (Math.sumK Math.rwl ps : Int))) qs)), OwnR maK 53 2 ay16 ny16 cy16 Hy16 ((Math.marksM (((((1 : Int) + (Math.sumK Math.f4 z : Int)) + (Math.sumK Math.rwl ws : Int)) + (Math.sumK Math.rwl vs : Int))) ps)), OwnR ndK 88 2 ay15 ny15 cy15 Hy15 ((Math.marksN (1 : Int) z)), OwnR maK 53 2 ayw15 nyw15 cyw15 Hyw15 ((Math.marksM ((1 : Int) + (Math.sumK Math.f4 z : Int)) ws)), OwnR maK 53 2 ayv15 nyv15 cyv15 Hyv15 ((Math.marksM (((1 : Int) + (Math.sumK Math.f4 z : Int)) + (Math.sumK Math.rwl ws : Int)) vs)), OwnR maK 53 2 ay21 ny21 cy21 Hy21 qs, OwnR maK 53 2 ay20 ny20 cy20 Hy20 ps, OwnR ndK 88 2 ay19 ny19 cy19 Hy19 z, OwnR maK 53 2 ayw19 nyw19 cyw19 Hyw19 ws, OwnR maK 53 2 ayv19 nyv19 cyv19 Hyv19 vs, blk bka36 40 [.int .i64 ((((Math.mixAt z ws vs pl ps ql qs n).1.1))), .slice ay18 ny18 cy18], blk bka34 40 [.int .i64 ql, .slice ay17 ny17 cy17], blk bka32 40 [.int .i64 pl, .slice ay16 ny16 cy16], blk bka30 38 [.slice ay15 ny15 cy15, .slice ayw15 nyw15 cyw15, .slice ayv15 nyv15 cyv15], blk bka10 40 [.int .i64 ((((Math.mixAt z ws vs pl ps ql qs n).1.1))), .slice ay4 ny4 cy4], OwnR maK 53 2 ay4 ny4 cy4 Hy4 ((((Math.mixAt z ws vs pl ps ql qs n).1.2))), OwnR maK 53 2 ay3 ny3 cy3 Hy3 qs, OwnR maK 53 2 ay2 ny2 cy2 Hy2 ps, OwnR ndK 88 2 ay1 ny1 cy1 Hy1 z, OwnR maK 53 2 ayw1 nyw1 cyw1 Hyw1 ws, OwnR maK 53 2 ayv1 nyv1 cyv1 Hyv1 vs, blk bkb3 29 [.int .i64 ql, .slice aqs nqs cqs], blk bkb2 29 [.int .i64 pl, .slice aps nps cps], blk bkb1 27 [.slice az nz cz, .slice aws nws cws, .slice avs nvs cvs]]) (fun _ h => h) ?_
                            refine rKnow (fun w hs => (show OwnR maK 53 2 ay27 ny27 cy27 Hy27 qs w from hs.at_ 0 rfl).1) (fun lenn52 => ?_)
                            refine callS Try.call19 (by exact (fun _ _ h => h.pick [29, 29, 29])) rfl rfl (fun w hs => impl_MixStrategies_c _ ny22 cy22 _ _ _ nyw22 cyw22 _ _ _ nyv22 cyv22 _ _ _ _ ny23 cy23 _ _ _ _ ny27 cy27 _ _ _ w (OwnR.rd (hs.at_ 3 rfl) ndK.ok) (OwnR.rd (hs.at_ 4 rfl) maK.ok) (OwnR.rd (hs.at_ 5 rfl) maK.ok) (OwnR.rd (hs.at_ 2 rfl) maK.ok) (OwnR.rd (hs.at_ 0 rfl) maK.ok)) ?_
                            rintro ⟨y028, ay28, ny28, cy28, Hy28, y28, q28⟩ ⟨hr28a, hr28b, hr28c⟩
                            dsimp only at hr28a hr28b hr28c
                            subst y028
                            subst y28
                            subst q28
                            refine rPieces (L' := [OwnR maK 53 2 ay28 ny28 cy28 Hy28 ((((Math.mixAt z ws vs pl ps ql qs n).1.2))), OwnR maK 53 2 ay27 ny27 cy27 Hy27 qs, blk bka51 40 [.int .i64 0, .slice none 0 0], OwnR maK 53 2 ay23 ny23 cy23 Hy23 ps, OwnR ndK 88 2 ay22 ny22 cy22 Hy22 z, OwnR maK 53 2 ayw22 nyw22 cyw22 Hyw22 ws, OwnR maK 53 2 ayv22 nyv22 cyv22 Hyv22 vs, OwnR maK 53 2 ay18 ny18 cy18 Hy18 ((Math.marksM (1 : Int) ((((Math.mixAt z ws vs pl ps ql qs n).1.2))))), OwnR maK 53 2 ay17 ny17 cy17 Hy17 ((Math.marksM (((((((1 : Int) + (Math.sumK Math.f4 z : Int)) + (Math.sumK Math.rwl ws : Int)) + (Math.sumK Math.rwl vs : Int))) + (Math.sumK Math.rwl ps : Int))) qs)), OwnR maK 53 2 ay16 ny16 cy16 Hy16 ((Math.marksM (((((1 : Int) + (Math.sumK Math.f4 z : Int)) + (Math.sumK Math.rwl ws : Int)) + (Math.sumK Math.rwl vs : Int))) ps)), OwnR ndK 88 2 ay15 ny15 cy15 Hy15 ((Math.marksN (1 : Int) z)), OwnR maK 53 2 ayw15 nyw15 cyw15 Hyw15 ((Math.marksM ((1 : Int) + (Math.sumK Math.f4 z : Int)) ws)), OwnR maK 53 2 ayv15 nyv15 cyv15 Hyv15 ((Math.marksM (((1 : Int) + (Math.sumK Math.f4 z : Int)) + (Math.sumK Math.rwl ws : Int)) vs)), OwnR maK 53 2 ay21 ny21 cy21 Hy21 qs, OwnR maK 53 2 ay20 ny20 cy20 Hy20 ps, OwnR ndK 88 2 ay19 ny19 cy19 Hy19 z, OwnR maK 53 2 ayw19 nyw19 cyw19 Hyw19 ws, OwnR maK 53 2 ayv19 nyv19 cyv19 Hyv19 vs, blk bka36 40 [.int .i64 ((((Math.mixAt z ws vs pl ps ql qs n).1.1))), .slice ay18 ny18 cy18], blk bka34 40 [.int .i64 ql, .slice ay17 ny17 cy17], blk bka32 40 [.int .i64 pl, .slice ay16 ny16 cy16], blk bka30 38 [.slice ay15 ny15 cy15, .slice ayw15 nyw15 cyw15, .slice ayv15 nyv15 cyv15], blk bka10 40 [.int .i64 ((((Math.mixAt z ws vs pl ps ql qs n).1.1))), .slice ay4 ny4 cy4], OwnR maK 53 2 ay4 ny4 cy4 Hy4 ((((Math.mixAt z ws vs pl ps ql qs n).1.2))), OwnR maK 53 2 ay3 ny3 cy3 Hy3 qs, OwnR maK 53 2 ay2 ny2 cy2 Hy2 ps, OwnR ndK 88 2 ay1 ny1 cy1 Hy1 z, OwnR maK 53 2 ayw1 nyw1 cyw1 Hyw1 ws, OwnR maK 53 2 ayv1 nyv1 cyv1 Hyv1 vs, blk bkb3 29 [.int .i64 ql, .slice aqs nqs cqs], blk bkb2 29 [.int .i64 pl, .slice aps nps cps], blk bkb1 27 [.slice az nz cz, .slice aws nws cws, .slice avs nvs cvs]]) (fun _ h => h) ?_
                            refine rKnow (fun w hs => (show OwnR maK 53 2 ay28 ny28 cy28 Hy28 ((((Math.mixAt z ws vs pl ps ql qs n).1.2))) w from hs.at_ 0 rfl).1) (fun lenn53 => ?_)
                            refine mv rfl rfl rfl ?_
                            refine ext rfl rfl rfl rfl ?_
                            refine ext rfl rfl rfl rfl ?_
                            refine stAl (vs := [.int .i64 ((((Math.mixAt z ws vs pl ps ql qs n).1.1))), .slice ay28 ny28 cy28]) 2 rfl Try.sizeOf40 (fun _ h => h.pick [29, 29, 29]) rfl rfl rfl rfl rfl (by simp [Value.oneCell']) rfl ?_
                            refine asI rfl rfl rfl ?_
                            refine rNil ?_
                            exact qLoop rfl fun w h => ⟨(bka51, ay28, ny28, cy28, Hy28, ay27, ny27, cy27, Hy27, ay23, ny23, cy23, Hy23, ay22, ny22, cy22, Hy22, ayw22, nyw22, cyw22, Hyw22, ayv22, nyv22, cyv22, Hyv22), ⟨by dsimp only; omega, by dsimp only; omega, by dsimp only; omega, by dsimp only; omega, by dsimp only; omega, by dsimp only; omega⟩, ⟨rfl, rfl, rfl, rfl, rfl, rfl, trivial⟩, (h.perm (pull (i := 2) rfl))⟩
                        ·
                          refine alc Try.zeroValue40 rfl (fun _ _ h => h.pick [26, 26, 26]) rfl rfl (fun bka54 hbka54 => ?_)
                          refine callS Try.call12 (by exact (fun _ _ h => h.pick [27, 27, 27])) rfl rfl (fun w hs => laws_toStrategy_c _ _ nps cps _ _ w (Kn.drop (k := 29) kps w hs) (by first | assumption | omega)) ?_
                          rintro ⟨ay29, ny29, cy29, Hy29, y29⟩ hr29
                          dsimp only at hr29
                          subst y29
                          refine rPieces (L' := [OwnR maK 53 2 ay29 ny29 cy29 Hy29 ps, blk bka54 40 [.int .i64 0, .slice none 0 0], OwnR ndK 88 2 ay22 ny22 cy22 Hy22 z, OwnR maK 53 2 ayw22 nyw22 cyw22 Hyw22 ws, OwnR maK 53 2 ayv22 nyv22 cyv22 Hyv22 vs, OwnR maK 53 2 ay18 ny18 cy18 Hy18 ((Math.marksM (1 : Int) ((((Math.mixAt z ws vs pl ps ql qs n).1.2))))), OwnR maK 53 2 ay17 ny17 cy17 Hy17 ((Math.marksM (((((((1 : Int) + (Math.sumK Math.f4 z : Int)) + (Math.sumK Math.rwl ws : Int)) + (Math.sumK Math.rwl vs : Int))) + (Math.sumK Math.rwl ps : Int))) qs)), OwnR maK 53 2 ay16 ny16 cy16 Hy16 ((Math.marksM (((((1 : Int) + (Math.sumK Math.f4 z : Int)) + (Math.sumK Math.rwl ws : Int)) + (Math.sumK Math.rwl vs : Int))) ps)), OwnR ndK 88 2 ay15 ny15 cy15 Hy15 ((Math.marksN (1 : Int) z)), OwnR maK 53 2 ayw15 nyw15 cyw15 Hyw15 ((Math.marksM ((1 : Int) + (Math.sumK Math.f4 z : Int)) ws)), OwnR maK 53 2 ayv15 nyv15 cyv15 Hyv15 ((Math.marksM (((1 : Int) + (Math.sumK Math.f4 z : Int)) + (Math.sumK Math.rwl ws : Int)) vs)), OwnR maK 53 2 ay21 ny21 cy21 Hy21 qs, OwnR maK 53 2 ay20 ny20 cy20 Hy20 ps, OwnR ndK 88 2 ay19 ny19 cy19 Hy19 z, OwnR maK 53 2 ayw19 nyw19 cyw19 Hyw19 ws, OwnR maK 53 2 ayv19 nyv19 cyv19 Hyv19 vs, blk bka36 40 [.int .i64 ((((Math.mixAt z ws vs pl ps ql qs n).1.1))), .slice ay18 ny18 cy18], blk bka34 40 [.int .i64 ql, .slice ay17 ny17 cy17], blk bka32 40 [.int .i64 pl, .slice ay16 ny16 cy16], blk bka30 38 [.slice ay15 ny15 cy15, .slice ayw15 nyw15 cyw15, .slice ayv15 nyv15 cyv15], blk bka10 40 [.int .i64 ((((Math.mixAt z ws vs pl ps ql qs n).1.1))), .slice ay4 ny4 cy4], OwnR maK 53 2 ay4 ny4 cy4 Hy4 ((((Math.mixAt z ws vs pl ps ql qs n).1.2))), OwnR maK 53 2 ay3 ny3 cy3 Hy3 qs, OwnR maK 53 2 ay2 ny2 cy2 Hy2 ps, OwnR ndK 88 2 ay1 ny1 cy1 Hy1 z, OwnR maK 53 2 ayw1 nyw1 cyw1 Hyw1 ws, OwnR maK 53 2 ayv1 nyv1 cyv1 Hyv1 vs, blk bkb3 29 [.int .i64 ql, .slice aqs nqs cqs], blk bkb2 29 [.int .i64 pl, .slice aps nps cps], blk bkb1 27 [.slice az nz cz, .slice aws nws cws, .slice avs nvs cvs]]) (fun _ h => h) ?_
                          refine rKnow (fun w hs => (show OwnR maK 53 2 ay29 ny29 cy29 Hy29 ps w from hs.at_ 0 rfl).1) (fun lenn55 => ?_)
                          refine callS Try.call12 (by exact (fun _ _ h => h.pick [28, 28, 28])) rfl rfl (fun w hs => laws_toStrategy_c _ _ nqs cqs _ _ w (Kn.drop (k := 30) kqs w hs) (by first | assumption | omega)) ?_
                          rintro ⟨ay30, ny30, cy30, Hy30, y30⟩ hr30
                          dsimp only at hr30
                          subst y30
                          refine rPieces (L' := [OwnR maK 53 2 ay30 ny30 cy30 Hy30 qs, OwnR maK 53 2 ay29 ny29 cy29 Hy29 ps, blk bka54 40 [.int .i64 0, .slice none 0 0], OwnR ndK 88 2 ay22 ny22 cy22 Hy22 z, OwnR maK 53 2 ayw22 nyw22 cyw22 Hyw22 ws, OwnR maK 53 2 ayv22 nyv22 cyv22 Hyv22 vs, OwnR maK 53 2 ay18 ny18 cy18 Hy18 ((Math.marksM (1 : Int) ((((Math.mixAt z ws vs pl ps ql qs n).1.2))))), OwnR maK 53 2 ay17 ny17 cy17 Hy17 ((Math.marksM (((((((1 : Int) + (Math.sumK Math.f4 z : Int)) + (Math.sumK Math.rwl ws : Int)) + (Math.sumK Math.rwl vs : Int))) + (Math.sumK Math.rwl ps : Int))) qs)), OwnR maK 53 2 ay16 ny16 cy16 Hy16 ((Math.marksM (((((1 : Int) + (Math.sumK Math.f4 z : Int)) + (Math.sumK Math.rwl ws : Int)) + (Math.sumK Math.rwl vs : Int))) ps)), OwnR ndK 88 2 ay15 ny15 cy15 Hy15 ((Math.marksN (1 : Int) z)), OwnR maK 53 2 ayw15 nyw15 cyw15 Hyw15 ((Math.marksM ((1 : Int) + (Math.sumK Math.f4 z : Int)) ws)), OwnR maK 53 2 ayv15 nyv15 cyv15 Hyv15 ((Math.marksM (((1 : Int) + (Math.sumK Math.f4 z : Int)) + (Math.sumK Math.rwl ws : Int)) vs)), OwnR maK 53 2 ay21 ny21 cy21 Hy21 qs, OwnR maK 53 2 ay20 ny20 cy20 Hy20 ps, OwnR ndK 88 2 ay19 ny19 cy19 Hy19 z, OwnR maK 53 2 ayw19 nyw19 cyw19 Hyw19 ws, OwnR maK 53 2 ayv19 nyv19 cyv19 Hyv19 vs, blk bka36 40 [.int .i64 ((((Math.mixAt z ws vs pl ps ql qs n).1.1))), .slice ay18 ny18 cy18], blk bka34 40 [.int .i64 ql, .slice ay17 ny17 cy17], blk bka32 40 [.int .i64 pl, .slice ay16 ny16 cy16], blk bka30 38 [.slice ay15 ny15 cy15, .slice ayw15 nyw15 cyw15, .slice ayv15 nyv15 cyv15], blk bka10 40 [.int .i64 ((((Math.mixAt z ws vs pl ps ql qs n).1.1))), .slice ay4 ny4 cy4], OwnR maK 53 2 ay4 ny4 cy4 Hy4 ((((Math.mixAt z ws vs pl ps ql qs n).1.2))), OwnR maK 53 2 ay3 ny3 cy3 Hy3 qs, OwnR maK 53 2 ay2 ny2 cy2 Hy2 ps, OwnR ndK 88 2 ay1 ny1 cy1 Hy1 z, OwnR maK 53 2 ayw1 nyw1 cyw1 Hyw1 ws, OwnR maK 53 2 ayv1 nyv1 cyv1 Hyv1 vs, blk bkb3 29 [.int .i64 ql, .slice aqs nqs cqs], blk bkb2 29 [.int .i64 pl, .slice aps nps cps], blk bkb1 27 [.slice az nz cz, .slice aws nws cws, .slice avs nvs cvs]]) (fun _ h => h) ?_
                          refine rKnow (fun w hs => (show OwnR maK 53 2 ay30 ny30 cy30 Hy30 qs w from hs.at_ 0 rfl).1) (fun lenn56 => ?_)
                          refine callS Try.call19 (by exact (fun _ _ h => h.pick [29, 29, 29])) rfl rfl (fun w hs => impl_MixStrategies_c _ ny22 cy22 _ _ _ nyw22 cyw22 _ _ _ nyv22 cyv22 _ _ _ _ ny29 cy29 _ _ _ _ ny30 cy30 _ _ _ w (OwnR.rd (hs.at_ 3 rfl) ndK.ok) (OwnR.rd (hs.at_ 4 rfl) maK.ok) (OwnR.rd (hs.at_ 5 rfl) maK.ok) (OwnR.rd (hs.at_ 1 rfl) maK.ok) (OwnR.rd (hs.at_ 0 rfl) maK.ok)) ?_
                          rintro ⟨y031, ay31, ny31, cy31, Hy31, y31, q31⟩ ⟨hr31a, hr31b, hr31c⟩
                          dsimp only at hr31a hr31b hr31c
                          subst y031
                          subst y31
                          subst q31
                          refine rPieces (L' := [OwnR maK 53 2 ay31 ny31 cy31 Hy31 ((((Math.mixAt z ws vs pl ps ql qs n).1.2))), OwnR maK 53 2 ay30 ny30 cy30 Hy30 qs, OwnR maK 53 2 ay29 ny29 cy29 Hy29 ps, blk bka54 40 [.int .i64 0, .slice none 0 0], OwnR ndK 88 2 ay22 ny22 cy22 Hy22 z, OwnR maK 53 2 ayw22 nyw22 cyw22 Hyw22 ws, OwnR maK 53 2 ayv22 nyv22 cyv22 Hyv22 vs, OwnR maK 53 2 ay18 ny18 cy18 Hy18 ((Math.marksM (1 : Int) ((((Math.mixAt z ws vs pl ps ql qs n).1.2))))), OwnR maK 53 2 ay17 ny17 cy17 Hy17 ((Math.marksM (((((((1 : Int) + (Math.sumK Math.f4 z : Int)) + (Math.sumK Math.rwl ws : Int)) + (Math.sumK Math.rwl vs : Int))) + (Math.sumK Math.rwl ps : Int))) qs)), OwnR maK 53 2 ay16 ny16 cy16 Hy16 ((Math.marksM (((((1 : Int) + (Math.sumK Math.f4 z : Int)) + (Math.sumK Math.rwl ws : Int)) + (Math.sumK Math.rwl vs : Int))) ps)), OwnR ndK 88 2 ay15 ny15 cy15 Hy15 ((Math.marksN (1 : Int) z)), OwnR maK 53 2 ayw15 nyw15 cyw15 Hyw15 ((Math.marksM ((1 : Int) + (Math.sumK Math.f4 z : Int)) ws)), OwnR maK 53 2 ayv15 nyv15 cyv15 Hyv15 ((Math.marksM (((1 : Int) + (Math.sumK Math.f4 z : Int)) + (Math.sumK Math.rwl ws : Int)) vs)), OwnR maK 53 2 ay21 ny21 cy21 Hy21 qs, OwnR maK 53 2 ay20 ny20 cy20 Hy20 ps, OwnR ndK 88 2 ay19 ny19 cy19 Hy19 z, OwnR maK 53 2 ayw19 nyw19 cyw19 Hyw19 ws, OwnR maK 53 2 ayv19 nyv19 cyv19 Hyv19 vs, blk bka36 40 [.int .i64 ((((Math.mixAt z ws vs pl ps ql qs n).1.1))), .slice ay18 ny18 cy18], blk bka34 40 [.int .i64 ql, .slice ay17 ny17 cy17], blk bka32 40 [.int .i64 pl, .slice ay16 ny16 cy16], blk bka30 38 [.slice ay15 ny15 cy15, .slice ayw15 nyw15 cyw15, .slice ayv15 nyv15 cyv15], blk bka10 40 [.int .i64 ((((Math.mixAt z ws vs pl ps ql qs n).1.1))), .slice ay4 ny4 cy4], OwnR maK 53 2 ay4 ny4 cy4 Hy4 ((((Math.mixAt z ws vs pl ps ql qs n).1.2))), OwnR maK 53 2 ay3 ny3 cy3 Hy3 qs, OwnR maK 53 2 ay2 ny2 cy2 Hy2 ps, OwnR ndK 88 2 ay1 ny1 cy1 Hy1 z, OwnR maK 53 2 ayw1 nyw1 cyw1 Hyw1 ws, OwnR maK 53 2 ayv1 nyv1 cyv1 Hyv1 vs, blk bkb3 29 [.int .i64 ql, .slice aqs nqs cqs], blk bkb2 29 [.int .i64 pl, .slice aps nps cps], blk bkb1 27 [.slice az nz cz, .slice aws nws cws, .slice avs nvs cvs]]) (fun _ h => h) ?_
                          refine rKnow (fun w hs => (show OwnR maK 53 2 ay31 ny31 cy31 Hy31 ((((Math.mixAt z ws vs pl ps ql qs n).1.2))) w from hs.at_ 0 rfl).1) (fun lenn57 => ?_)
                          refine mv rfl rfl rfl ?_
                          refine ext rfl rfl rfl rfl ?_
                          refine ext rfl rfl rfl rfl ?_
                          refine stAl (vs := [.int .i64 ((((Math.mixAt z ws vs pl ps ql qs n).1.1))), .slice ay31 ny31 cy31]) 3 rfl Try.sizeOf40 (fun _ h => h.pick [29, 29, 29]) rfl rfl rfl rfl rfl (by simp [Value.oneCell']) rfl ?_
                          refine asI rfl rfl rfl ?_
                          refine rNil ?_
                          exact qLoop rfl fun w h => ⟨(bka54, ay31, ny31, cy31, Hy31, ay30, ny30, cy30, Hy30, ay29, ny29, cy29, Hy29, ay22, ny22, cy22, Hy22, ayw22, nyw22, cyw22, Hyw22, ayv22, nyv22, cyv22, Hyv22), ⟨by dsimp only; omega, by dsimp only; omega, by dsimp only; omega, by dsimp only; omega, by dsimp only; omega, by dsimp only; omega⟩, ⟨rfl, rfl, rfl, rfl, rfl, rfl, trivial⟩, (h.perm (pull (i := 3) rfl))⟩
                      ·
                        refine alc Try.zeroValue40 rfl (fun _ _ h => h.pick [23, 23, 23]) rfl rfl (fun bka58 hbka58 => ?_)
                        refine callS Try.call11 (by exact (fun _ _ h => h.pick [26, 26, 26])) rfl rfl (fun w hs => laws_toGame_c _ nz cz _ _ _ nws cws _ _ _ nvs cvs _ _ w (Kn.drop (k := 26) kz w hs) (Kn.drop (k := 26) kws w hs) (Kn.drop (k := 26) kvs w hs) (by first | assumption | omega) (by first | assumption | omega) (by first | assumption | omega)) ?_
                        rintro ⟨ay32, ny32, cy32, Hy32, y32, ayw32, nyw32, cyw32, Hyw32, yw32, ayv32, nyv32, cyv32, Hyv32, yv32⟩ ⟨hr32a, hr32b, hr32c⟩
                        dsimp only at hr32a hr32b hr32c
                        subst y32
                        subst yw32
                        subst yv32
                        refine rPieces (L' := [OwnR ndK 88 2 ay32 ny32 cy32 Hy32 z, OwnR maK 53 2 ayw32 nyw32 cyw32 Hyw32 ws, OwnR maK 53 2 ayv32 nyv32 cyv32 Hyv32 vs, blk bka58 40 [.int .i64 0, .slice none 0 0], OwnR maK 53 2 ay18 ny18 cy18 Hy18 ((Math.marksM (1 : Int) ((((Math.mixAt z ws vs pl ps ql qs n).1.2))))), OwnR maK 53 2 ay17 ny17 cy17 Hy17 ((Math.marksM (((((((1 : Int) + (Math.sumK Math.f4 z : Int)) + (Math.sumK Math.rwl ws : Int)) + (Math.sumK Math.rwl vs : Int))) + (Math.sumK Math.rwl ps : Int))) qs)), OwnR maK 53 2 ay16 ny16 cy16 Hy16 ((Math.marksM (((((1 : Int) + (Math.sumK Math.f4 z : Int)) + (Math.sumK Math.rwl ws : Int)) + (Math.sumK Math.rwl vs : Int))) ps)), OwnR ndK 88 2 ay15 ny15 cy15 Hy15 ((Math.marksN (1 : Int) z)), OwnR maK 53 2 ayw15 nyw15 cyw15 Hyw15 ((Math.marksM ((1 : Int) + (Math.sumK Math.f4 z : Int)) ws)), OwnR maK 53 2 ayv15 nyv15 cyv15 Hyv15 ((Math.marksM (((1 : Int) + (Math.sumK Math.f4 z : Int)) + (Math.sumK Math.rwl ws : Int)) vs)), OwnR maK 53 2 ay21 ny21 cy21 Hy21 qs, OwnR maK 53 2 ay20 ny20 cy20 Hy20 ps, OwnR ndK 88 2 ay19 ny19 cy19 Hy19 z, OwnR maK 53 2 ayw19 nyw19 cyw19 Hyw19 ws, OwnR maK 53 2 ayv19 nyv19 cyv19 Hyv19 vs, blk bka36 40 [.int .i64 ((((Math.mixAt z ws vs pl ps ql qs n).1.1))), .slice ay18 ny18 cy18], blk bka34 40 [.int .i64 ql, .slice ay17 ny17 cy17], blk bka32 40 [.int .i64 pl, .slice ay16 ny16 cy16], blk bka30 38 [.slice ay15 ny15 cy15, .slice ayw15 nyw15 cyw15, .slice ayv15 nyv15 cyv15], blk bka10 40 [.int .i64 ((((Math.mixAt z ws vs pl ps ql qs n).1.1))), .slice ay4 ny4 cy4], OwnR maK 53 2 ay4 ny4 cy4 Hy4 ((((Math.mixAt z ws vs pl ps ql qs n).1.2))), OwnR maK 53 2 ay3 ny3 cy3 Hy3 qs, OwnR maK 53 2 ay2 ny2 cy2 Hy2 ps, OwnR ndK 88 2 ay1 ny1 cy1 Hy1 z, OwnR maK 53 2 ayw1 nyw1 cyw1 Hyw1 ws, OwnR maK 53 2 ayv1 nyv1 cyv1 Hyv1 vs, blk bkb3 29 [.int .i64 ql, .slice aqs nqs cqs], blk bkb2 29 [.int .i64 pl, .slice aps nps cps], blk bkb1 27 [.slice az nz cz, .slice aws nws cws, .slice avs nvs cvs]]) (fun _ h => h) ?_
                        refine rKnow (fun w hs => (show OwnR ndK 88 2 ay32 ny32 cy32 Hy32 z w from hs.at_ 0 rfl).1) (fun lenn59 => ?_)
                        refine rKnow (fun w hs => (show OwnR maK 53 2 ayw32 nyw32 cyw32 Hyw32 ws w from hs.at_ 1 rfl).1) (fun lenn60 => ?_)
                        refine rKnow (fun w hs => (show OwnR maK 53 2 ayv32 nyv32 cyv32 Hyv32 vs w from hs.at_ 2 rfl).1) (fun lenn61 => ?_)
                        refine callS Try.call12 (by exact (fun _ _ h => h.pick [27, 27, 27])) rfl rfl (fun w hs => laws_toStrategy_c _ _ nps cps _ _ w (Kn.drop (k := 29) kps w hs) (by first | assumption | omega)) ?_
                        rintro ⟨ay33, ny33, cy33, Hy33, y33⟩ hr33
                        dsimp only at hr33
                        subst y33
                        refine rPieces (L' := [OwnR maK 53 2 ay33 ny33 cy33 Hy33 ps, OwnR ndK 88 2 ay32 ny32 cy32 Hy32 z, OwnR maK 53 2 ayw32 nyw32 cyw32 Hyw32 ws, OwnR maK 53 2 ayv32 nyv32 cyv32 Hyv32 vs, blk bka58 40 [.int .i64 0, .slice none 0 0], OwnR maK 53 2 ay18 ny18 cy18 Hy18 ((Math.marksM (1 : Int) ((((Math.mixAt z ws vs pl ps ql qs n).1.2))))), OwnR maK 53 2 ay17 ny17 cy17 Hy17 ((Math.marksM (((((((1 : Int) + (Math.sumK Math.f4 z : Int)) + (Math.sumK Math.rwl ws : Int)) + (Math.sumK Math.rwl vs : Int))) + (Math.sumK Math.rwl ps : Int))) qs)), OwnR maK 53 2 ay16 ny16 cy16 Hy16 ((Math.marksM (((((1 : Int) + (Math.sumK Math.f4 z : Int)) + (Math.sumK Math.rwl ws : Int)) + (Math.sumK Math.rwl vs : Int))) ps)), OwnR ndK 88 2 ay15 ny15 cy15 Hy15 ((Math.marksN (1 : Int) z)), OwnR maK 53 2 ayw15 nyw15 cyw15 Hyw15 ((Math.marksM ((1 : Int) + (Math.sumK Math.f4 z : Int)) ws)), OwnR maK 53 2 ayv15 nyv15 cyv15 Hyv15 ((Math.marksM (((1 : Int) + (Math.sumK Math.f4 z : Int)) + (Math.sumK Math.rwl ws : Int)) vs)), OwnR maK 53 2 ay21 ny21 cy21 Hy21 qs, OwnR maK 53 2 ay20 ny20 cy20 Hy20 ps, OwnR ndK 88 2 ay19 ny19 cy19 Hy19 z, OwnR maK 53 2 ayw19 nyw19 cyw19 Hyw19 ws, OwnR maK 53 2 ayv19 nyv19 cyv19 Hyv19 vs, blk bka36 40 [.int .i64 ((((Math.mixAt z ws vs pl ps ql qs n).1.1))), .slice ay18 ny18 cy18], blk bka34 40 [.int .i64 ql, .slice ay17 ny17 cy17], blk bka32 40 [.int .i64 pl, .slice ay16 ny16 cy16], blk bka30 38 [.slice ay15 ny15 cy15, .slice ayw15 nyw15 cyw15, .slice ayv15 nyv15 cyv15], blk bka10 40 [.int .i64 ((((Math.mixAt z ws vs pl ps ql qs n).1.1))), .slice ay4 ny4 cy4], OwnR maK 53 2 ay4 ny4 cy4 Hy4 ((((Math.mixAt z ws vs pl ps ql qs n).1.2))), OwnR maK 53 2 ay3 ny3 cy3 Hy3 qs, OwnR maK 53 2 ay2 ny2 cy2 Hy2 ps, OwnR ndK 88 2 ay1 ny1 cy1 Hy1 z, OwnR maK 53 2 ayw1 nyw1 cyw1 Hyw1 ws, OwnR maK 53 2 ayv1 nyv1 cyv1 Hyv1 vs, blk bkb3 29 [.int .i64 ql, .slice aqs nqs cqs], blk bkb2 29 [.int .i64 pl, .slice aps nps cps], blk bkb1 27 [.slice az nz cz, .slice aws nws cws, .slice avs nvs cvs]]) (fun _ h => h) ?_
                        refine rKnow (fun w hs => (show OwnR maK 53 2 ay33 ny33 cy33 Hy33 ps w from hs.at_ 0 rfl).1) (fun lenn62 => ?_)
                        refine callS Try.call12 (by exact (fun _ _ h => h.pick [28, 28, 28])) rfl rfl (fun w hs => laws_toStrategy_c _ _ nqs cqs _ _ w (Kn.drop (k := 30) kqs w hs) (by first | assumption | omega)) ?_
                        rintro ⟨ay34, ny34, cy34, Hy34, y34⟩ hr34
                        dsimp only at hr34
                        subst y34
                        refine rPieces (L' := [OwnR maK 53 2 ay34 ny34 cy34 Hy34 qs, OwnR maK 53 2 ay33 ny33 cy33 Hy33 ps, OwnR ndK 88 2 ay32 ny32 cy32 Hy32 z, OwnR maK 53 2 ayw32 nyw32 cyw32 Hyw32 ws, OwnR maK 53 2 ayv32 nyv32 cyv32 Hyv32 vs, blk bka58 40 [.int .i64 0, .slice none 0 0], OwnR maK 53 2 ay18 ny18 cy18 Hy18 ((Math.marksM (1 : Int) ((((Math.mixAt z ws vs pl ps ql qs n).1.2))))), OwnR maK 53 2 ay17 ny17 cy17 Hy17 ((Math.marksM (((((((1 : Int) + (Math.sumK Math.f4 z : Int)) + (Math.sumK Math.rwl ws : Int)) + (Math.sumK Math.rwl vs : Int))) + (Math.sumK Math.rwl ps : Int))) qs)), OwnR maK 53 2 ay16 ny16 cy16 Hy16 ((Math.marksM (((((1 : Int) + (Math.sumK Math.f4 z : Int)) + (Math.sumK Math.rwl ws : Int)) + (Math.sumK Math.rwl vs : Int))) ps)), OwnR ndK 88 2 ay15 ny15 cy15 Hy15 ((Math.marksN (1 : Int) z)), OwnR maK 53 2 ayw15 nyw15 cyw15 Hyw15 ((Math.marksM ((1 : Int) + (Math.sumK Math.f4 z : Int)) ws)), OwnR maK 53 2 ayv15 nyv15 cyv15 Hyv15 ((Math.marksM (((1 : Int) + (Math.sumK Math.f4 z : Int)) + (Math.sumK Math.rwl ws : Int)) vs)), OwnR maK 53 2 ay21 ny21 cy21 Hy21 qs, OwnR maK 53 2 ay20 ny20 cy20 Hy20 ps, OwnR ndK 88 2 ay19 ny19 cy19 Hy19 z, OwnR maK 53 2 ayw19 nyw19 cyw19 Hyw19 ws, OwnR maK 53 2 ayv19 nyv19 cyv19 Hyv19 vs, blk bka36 40 [.int .i64 ((((Math.mixAt z ws vs pl ps ql qs n).1.1))), .slice ay18 ny18 cy18], blk bka34 40 [.int .i64 ql, .slice ay17 ny17 cy17], blk bka32 40 [.int .i64 pl, .slice ay16 ny16 cy16], blk bka30 38 [.slice ay15 ny15 cy15, .slice ayw15 nyw15 cyw15, .slice ayv15 nyv15 cyv15], blk bka10 40 [.int .i64 ((((Math.mixAt z ws vs pl ps ql qs n).1.1))), .slice ay4 ny4 cy4], OwnR maK 53 2 ay4 ny4 cy4 Hy4 ((((Math.mixAt z ws vs pl ps ql qs n).1.2))), OwnR maK 53 2 ay3 ny3 cy3 Hy3 qs, OwnR maK 53 2 ay2 ny2 cy2 Hy2 ps, OwnR ndK 88 2 ay1 ny1 cy1 Hy1 z, OwnR maK 53 2 ayw1 nyw1 cyw1 Hyw1 ws, OwnR maK 53 2 ayv1 nyv1 cyv1 Hyv1 vs, blk bkb3 29 [.int .i64 ql, .slice aqs nqs cqs], blk bkb2 29 [.int .i64 pl, .slice aps nps cps], blk bkb1 27 [.slice az nz cz, .slice aws nws cws, .slice avs nvs cvs]]) (fun _ h => h) ?_
                        refine rKnow (fun w hs => (show OwnR maK 53 2 ay34 ny34 cy34 Hy34 qs w from hs.at_ 0 rfl).1) (fun lenn63 => ?_)
                        refine callS Try.call19 (by exact (fun _ _ h => h.pick [29, 29, 29])) rfl rfl (fun w hs => impl_MixStrategies_c _ ny32 cy32 _ _ _ nyw32 cyw32 _ _ _ nyv32 cyv32 _ _ _ _ ny33 cy33 _ _ _ _ ny34 cy34 _ _ _ w (OwnR.rd (hs.at_ 2 rfl) ndK.ok) (OwnR.rd (hs.at_ 3 rfl) maK.ok) (OwnR.rd (hs.at_ 4 rfl) maK.ok) (OwnR.rd (hs.at_ 1 rfl) maK.ok) (OwnR.rd (hs.at_ 0 rfl) maK.ok)) ?_
                        rintro ⟨y035, ay35, ny35, cy35, Hy35, y35, q35⟩ ⟨hr35a, hr35b, hr35c⟩
                        dsimp only at hr35a hr35b hr35c
                        subst y035
                        subst y35
                        subst q35
                        refine rPieces (L' := [OwnR maK 53 2 ay35 ny35 cy35 Hy35 ((((Math.mixAt z ws vs pl ps ql qs n).1.2))), OwnR maK 53 2 ay34 ny34 cy34 Hy34 qs, OwnR maK 53 2 ay33 ny33 cy33 Hy33 ps, OwnR ndK 88 2 ay32 ny32 cy32 Hy32 z, OwnR maK 53 2 ayw32 nyw32 cyw32 Hyw32 ws, OwnR maK 53 2 ayv32 nyv32 cyv32 Hyv32 vs, blk bka58 40 [.int .i64 0, .slice none 0 0], OwnR maK 53 2 ay18 ny18 cy18 Hy18 ((Math.marksM (1 : Int) ((((Math.mixAt z ws vs pl ps ql qs n).1.2))))), OwnR maK 53 2 ay17 ny17 cy17 Hy17 ((Math.marksM (((((((1 : Int) + (Math.sumK Math.f4 z : Int)) + (Math.sumK Math.rwl ws : Int)) + (Math.sumK Math.rwl vs : Int))) + (Math.sumK Math.rwl ps : Int))) qs)), OwnR maK 53 2 ay16 ny16 cy16 Hy16 ((Math.marksM (((((1 : Int) + (Math.sumK Math.f4 z : Int)) + (Math.sumK Math.rwl ws : Int)) + (Math.sumK Math.rwl vs : Int))) ps)), OwnR ndK 88 2 ay15 ny15 cy15 Hy15 ((Math.marksN (1 : Int) z)), OwnR maK 53 2 ayw15 nyw15 cyw15 Hyw15 ((Math.marksM ((1 : Int) + (Math.sumK Math.f4 z : Int)) ws)), OwnR maK 53 2 ayv15 nyv15 cyv15 Hyv15 ((Math.marksM (((1 : Int) + (Math.sumK Math.f4 z : Int)) + (Math.sumK Math.rwl ws : Int)) vs)), OwnR maK 53 2 ay21 ny21 cy21 Hy21 qs, OwnR maK 53 2 ay20 ny20 cy20 Hy20 ps, OwnR ndK 88 2 ay19 ny19 cy19 Hy19 z, OwnR maK 53 2 ayw19 nyw19 cyw19 Hyw19 ws, OwnR maK 53 2 ayv19 nyv19 cyv19 Hyv19 vs, blk bka36 40 [.int .i64 ((((Math.mixAt z ws vs pl ps ql qs n).1.1))), .slice ay18 ny18 cy18], blk bka34 40 [.int .i64 ql, .slice ay17 ny17 cy17], blk bka32 40 [.int .i64 pl, .slice ay16 ny16 cy16], blk bka30 38 [.slice ay15 ny15 cy15, .slice ayw15 nyw15 cyw15, .slice ayv15 nyv15 cyv15], blk bka10 40 [.int .i64 ((((Math.mixAt z ws vs pl ps ql qs n).1.1))), .slice ay4 ny4 cy4], OwnR maK 53 2 ay4 ny4 cy4 Hy4 ((((Math.mixAt z ws vs pl ps ql qs n).1.2))), OwnR maK 53 2 ay3 ny3 cy3 Hy3 qs, OwnR maK 53 2 ay2 ny2 cy2 Hy2 ps, OwnR ndK 88 2 ay1 ny1 cy1 Hy1 z, OwnR maK 53 2 ayw1 nyw1 cyw1 Hyw1 ws, OwnR maK 53 2 ayv1 nyv1 cyv1 Hyv1 vs, blk bkb3 29 [.int .i64 ql, .slice aqs nqs cqs], blk bkb2 29 [.int .i64 pl, .slice aps nps cps], blk bkb1 27 [.slice az nz cz, .slice aws nws cws, .slice avs nvs cvs]]) (fun _ h => h) ?_
                        refine rKnow (fun w hs => (show OwnR maK 53 2 ay35 ny35 cy35 Hy35 ((((Math.mixAt z ws vs pl ps ql qs n).1.2))) w from hs.at_ 0 rfl).1) (fun lenn64 => ?_)
                        refine mv rfl rfl rfl ?_
                        refine ext rfl rfl rfl rfl ?_
                        refine ext rfl rfl rfl rfl ?_
                        refine stAl (vs := [.int .i64 ((((Math.mixAt z ws vs pl ps ql qs n).1.1))), .slice ay35 ny35 cy35]) 6 rfl Try.sizeOf40 (fun _ h => h.pick [29, 29, 29]) rfl rfl rfl rfl rfl (by simp [Value.oneCell']) rfl ?_
                        refine asI rfl rfl rfl ?_
                        refine rNil ?_
                        exact qLoop rfl fun w h => ⟨(bka58, ay35, ny35, cy35, Hy35, ay34, ny34, cy34, Hy34, ay33, ny33, cy33, Hy33, ay32, ny32, cy32, Hy32, ayw32, nyw32, cyw32, Hyw32, ayv32, nyv32, cyv32, Hyv32), ⟨by dsimp only; omega, by dsimp only; omega, by dsimp only; omega, by dsimp only; omega, by dsimp only; omega, by dsimp only; omega⟩, ⟨rfl, rfl, rfl, rfl, rfl, rfl, trivial⟩, (h.perm (pull (i := 6) rfl))⟩
                    ·
                      rintro ⟨bka48, ay25, ny25, cy25, Hy25, ay24, ny24, cy24, Hy24, ay23, ny23, cy23, Hy23, ay22, ny22, cy22, Hy22, ayw22, nyw22, cyw22, Hyw22, ayv22, nyv22, cyv22, Hyv22⟩ τm ⟨lkn47, lkn46, lkn45, lkn42, lkn43, lkn44⟩
                      dsimp only at lkn47 lkn46 lkn45 lkn42 lkn43 lkn44
                      refine qSeq rfl ?_
                      refine hRe [(10, .pointer (some ⟨bka10, 0, none⟩)), (11, .int .i64 ((((Math.mixAt z ws vs pl ps ql qs n).2)))), (15, .pointer (some ⟨bka36, 0, none⟩)), (18, .int .i64 (((1 : Int) + (Math.sumK Math.rwl ((((Math.mixAt z ws vs pl ps ql qs n).1.2))) : Int)))), (20, .pointer (some ⟨bka48, 0, none⟩)), (21, .int .i64 ((((Math.mixAt z ws vs pl ps ql qs n).2))))] [blk bka48 40 [.int .i64 ((((Math.mixAt z ws vs pl ps ql qs n).1.1))), .slice ay25 ny25 cy25], OwnR maK 53 2 ay25 ny25 cy25 Hy25 ((((Math.mixAt z ws vs pl ps ql qs n).1.2))), OwnR maK 53 2 ay24 ny24 cy24 Hy24 qs, OwnR maK 53 2 ay23 ny23 cy23 Hy23 ps, OwnR ndK 88 2 ay22 ny22 cy22 Hy22 z, OwnR maK 53 2 ayw22 nyw22 cyw22 Hyw22 ws, OwnR maK 53 2 ayv22 nyv22 cyv22 Hyv22 vs, OwnR maK 53 2 ay18 ny18 cy18 Hy18 ((Math.marksM (1 : Int) ((((Math.mixAt z ws vs pl ps ql qs n).1.2))))), OwnR maK 53 2 ay17 ny17 cy17 Hy17 ((Math.marksM (((((((1 : Int) + (Math.sumK Math.f4 z : Int)) + (Math.sumK Math.rwl ws : Int)) + (Math.sumK Math.rwl vs : Int))) + (Math.sumK Math.rwl ps : Int))) qs)), OwnR maK 53 2 ay16 ny16 cy16 Hy16 ((Math.marksM (((((1 : Int) + (Math.sumK Math.f4 z : Int)) + (Math.sumK Math.rwl ws : Int)) + (Math.sumK Math.rwl vs : Int))) ps)), OwnR ndK 88 2 ay15 ny15 cy15 Hy15 ((Math.marksN (1 : Int) z)), OwnR maK 53 2 ayw15 nyw15 cyw15 Hyw15 ((Math.marksM ((1 : Int) + (Math.sumK Math.f4 z : Int)) ws)), OwnR maK 53 2 ayv15 nyv15 cyv15 Hyv15 ((Math.marksM (((1 : Int) + (Math.sumK Math.f4 z : Int)) + (Math.sumK Math.rwl ws : Int)) vs)), OwnR maK 53 2 ay21 ny21 cy21 Hy21 qs, OwnR maK 53 2 ay20 ny20 cy20 Hy20 ps, OwnR ndK 88 2 ay19 ny19 cy19 Hy19 z, OwnR maK 53 2 ayw19 nyw19 cyw19 Hyw19 ws, OwnR maK 53 2 ayv19 nyv19 cyv19 Hyv19 vs, blk bka36 40 [.int .i64 ((((Math.mixAt z ws vs pl ps ql qs n).1.1))), .slice ay18 ny18 cy18], blk bka34 40 [.int .i64 ql, .slice ay17 ny17 cy17], blk bka32 40 [.int .i64 pl, .slice ay16 ny16 cy16], blk bka30 38 [.slice ay15 ny15 cy15, .slice ayw15 nyw15 cyw15, .slice ayv15 nyv15 cyv15], blk bka10 40 [.int .i64 ((((Math.mixAt z ws vs pl ps ql qs n).1.1))), .slice ay4 ny4 cy4], OwnR maK 53 2 ay4 ny4 cy4 Hy4 ((((Math.mixAt z ws vs pl ps ql qs n).1.2))), OwnR maK 53 2 ay3 ny3 cy3 Hy3 qs, OwnR maK 53 2 ay2 ny2 cy2 Hy2 ps, OwnR ndK 88 2 ay1 ny1 cy1 Hy1 z, OwnR maK 53 2 ayw1 nyw1 cyw1 Hyw1 ws, OwnR maK 53 2 ayv1 nyv1 cyv1 Hyv1 vs, blk bkb3 29 [.int .i64 ql, .slice aqs nqs cqs], blk bkb2 29 [.int .i64 pl, .slice aps nps cps], blk bkb1 27 [.slice az nz cz, .slice aws nws cws, .slice avs nvs cvs]] rfl rfl ?_
                      refine hSeq ?_
                      refine hSeq ?_
                      refine hReg (sl 0 (sl 1 (sl 2 (sq 3 (sq 4 (sq 5 (sq 6 (sq 7 (sq 8 sz))))))))) (by kernel_rfl) ?_
                      refine ldAl Try.isAgg40 Try.sizeOf40 (cBs 0 rfl) trv rfl rfl rfl rfl ?_
                      refine ldAl Try.isAgg40 Try.sizeOf40 (cBs 22 rfl) trv rfl rfl rfl rfl ?_
                      refine callP (v := .bool true) Try.call15 trv rfl rfl (fun w hs => laws_eqStrategy_c _ _ ny25 cy25 _ _ _ _ ny4 cy4 _ _ w (OwnR.rd (hs.at_ 1 rfl) maK.ok) (OwnR.rd (hs.at_ 23 rfl) maK.ok) (by exact ⟨rfl, rfl⟩)) ?_
                      refine not rfl rfl rfl ?_
                      refine mvB rfl rfl rfl ?_
                      refine mvI rfl rfl rfl ?_
                      refine mvI rfl rfl rfl ?_
                      refine neq rfl rfl rfl rfl ?_
                      refine pickB rfl rfl rfl rfl ?_
                      refine rNil ?_
                      refine qSeq rfl ?_
                      refine hIfD rfl (fun c9 => ?_) (fun c9 => ?_)
                      · -- c9T
                        replace c9 : (((Math.mixAt z ws vs pl ps ql qs n).2)) ≠ (((Math.mixAt z ws vs pl ps ql qs n).2)) := c9
                        exact absurd rfl c9
                      · -- c9F
                        replace c9 : ¬ ((((Math.mixAt z ws vs pl ps ql qs n).2)) ≠ (((Math.mixAt z ws vs pl ps ql qs n).2))) := c9
                        refine hSkip ?_
                        refine qSeq rfl ?_
                        refine hSeq ?_
                        refine hReg (sq 0 sz) (by kernel_rfl) ?_
                        refine asI rfl rfl rfl ?_
                        refine rNil ?_
                        refine qSeq rfl ?_
                        refine hSeq ?_
                        refine hReg (sl 0 (sq 1 (sl 2 (sq 3 sz)))) (by kernel_rfl) ?_
                        refine ldAl Try.isAgg40 Try.sizeOf40 (cBs 18 rfl) trv rfl rfl rfl rfl ?_
                        refine mvI rfl rfl rfl ?_
                        refine callP (v := .int .i64 (((1 : Int) + (Math.sumK Math.rwl (((((Math.mixAt z ws vs pl ps ql qs n).1.2)))) : Int)))) Try.call22 trv rfl rfl (fun w hs => laws_heldStrategy_c _ _ ny18 cy18 _ _ _ _ w (OwnR.rd (hs.at_ 7 rfl) maK.ok) (by omega) (by first | rfl | assumption)) ?_
                        refine asI rfl rfl rfl ?_
                        refine rNil ?_
                        refine qSeq rfl ?_
                        refine hSeq ?_
                        refine hSeq ?_
                        refine hReg (sq 0 (sq 1 sz)) (by kernel_rfl) ?_
                        refine mvI rfl rfl rfl ?_
                        refine lss rfl rfl rfl rfl ?_
                        refine rNil ?_
                        refine qSeq rfl ?_
                        refine hIfD rfl (fun c10 => ?_) (fun c10 => ?_)
                        · -- c10T
                          replace c10 : ((1 : Int) + (Math.sumK Math.rwl (((((Math.mixAt z ws vs pl ps ql qs n).1.2)))) : Int)) < 0 := c10
                          refine hSeq ?_
                          refine hReg (sq 0 sz) (by kernel_rfl) ?_
                          refine asB rfl rfl rfl ?_
                          refine rNil ?_
                          refine qSeq rfl ?_
                          refine hRet ?_
                          exact fun w hs => ⟨[.bool false], ⟨rfl, trivial⟩, ⟨by exfalso; omega, hs.upd⟩⟩
                        · -- c10F
                          replace c10 : ¬ (((1 : Int) + (Math.sumK Math.rwl (((((Math.mixAt z ws vs pl ps ql qs n).1.2)))) : Int)) < 0) := c10
                          refine hSkip ?_
                          refine qSeq rfl ?_
                          refine hSeq ?_
                          refine hSeq ?_
                          refine hReg (sq 0 (sq 1 (sq 2 sz))) (by kernel_rfl) ?_
                          refine mvI rfl rfl rfl ?_
                          refine mvI rfl rfl rfl ?_
                          refine neq rfl rfl rfl rfl ?_
                          refine rNil ?_
                          refine qSeq rfl ?_
                          refine hIfD rfl (fun c11 => ?_) (fun c11 => ?_)
                          · -- c11T
                            replace c11 : ((1 : Int) + (Math.sumK Math.rwl (((((Math.mixAt z ws vs pl ps ql qs n).1.2)))) : Int)) ≠ ((1 : Int) + (Math.sumK Math.rwl ((((Math.mixAt z ws vs pl ps ql qs n).1.2))) : Int)) := c11
                            refine hSeq ?_
                            refine hReg (sq 0 sz) (by kernel_rfl) ?_
                            refine asB rfl rfl rfl ?_
                            refine rNil ?_
                            refine qSeq rfl ?_
                            refine hRet ?_
                            exact fun w hs => ⟨[.bool false], ⟨rfl, trivial⟩, ⟨by exfalso; omega, hs.upd⟩⟩
                          · -- c11F
                            replace c11 : ¬ (((1 : Int) + (Math.sumK Math.rwl (((((Math.mixAt z ws vs pl ps ql qs n).1.2)))) : Int)) ≠ ((1 : Int) + (Math.sumK Math.rwl ((((Math.mixAt z ws vs pl ps ql qs n).1.2))) : Int))) := c11
                            refine hSkip ?_
                            refine qSeq rfl ?_
                            refine hSeq ?_
                            refine hReg (sq 0 sz) (by kernel_rfl) ?_
                            refine asB rfl rfl rfl ?_
                            refine rNil ?_
                            refine qSeq rfl ?_
                            refine hRet ?_
                            exact fun w hs => ⟨[.bool true], ⟨rfl, trivial⟩, ⟨by first | rfl | exact bD (by omega) | exact bT (by omega) | exact bF (by omega) | exact vI (by omega), hs.upd⟩⟩

set_option maxHeartbeats 2000000 in
theorem fnExactMixStrategies_lifted (os : Os) (started : os.Started) (H : Type) (enc : TypeId × Value → H) :
    ReturnsInHanded {} Try.checked os 5 .any (Rows.fnExactMixStrategiesSpec.pre6 enc Try.prog Try.f5 Rows.fnExactMixStrategiesRow.domain false) (Rows.fnExactMixStrategiesSpec.post enc Try.prog Try.f5 false true false false) := by
  refine returnsInHanded_of_change (C := Try.checked) own started (by kernel_rfl) Try.func5
    (ChangeSpec.witness6 (enc := enc) (C := Try.checked) false ⟨#[], #[.agg #[.slice none 0 0, .slice none 0 0, .slice none 0 0], .agg #[.int .i64 0, .slice none 0 0], .agg #[.int .i64 0, .slice none 0 0], .int .i64 0], []⟩ 8 (by kernel_rfl) (by kernel_rfl) (by kernel_rfl) (by kernel_rfl)) ?_
  intro W base args ds gs before hval0 hW hcnd _
  have hval : ∀ (j : Nat) t v, Try.f5.params[j]? = some t → args[j]? = some v → Value.okWide Try.prog W .any base t v := hval0
  have hW' := hW
  obtain ⟨p, q, hA0, hV, rfl, hfz, hnd⟩ := hW
  have hA : DataW.TrodAll enc Try.prog W 0 (fun _ => true) true Try.f5.params.toList args.toList ds p := hA0
  rw [Try.params5] at hA hval
  obtain ⟨v0, vs0, d0, ds0, p0, q0, hargs, rfl, rfl, h0, r0⟩ := trodAll_cons hA
  obtain ⟨v1, vs1, d1, ds1, p1, q1, rfl, rfl, rfl, h1, r1⟩ := trodAll_cons r0
  obtain ⟨v2, vs2, d2, ds2, p2, q2, rfl, rfl, rfl, h2, r2⟩ := trodAll_cons r1
  obtain ⟨v3, vs3, d3, ds3, p3, q3, rfl, rfl, rfl, h3, r3⟩ := trodAll_cons r2
  obtain ⟨rfl, rfl, rfl⟩ := trodAll_nil r3
  obtain rfl : args = #[v0, v1, v2, v3] := by cases args; simp_all
  obtain ⟨rfl, rfl⟩ := trodVars_none hV
  obtain ⟨f0, g0⟩ := h0
  obtain ⟨cs0, rfl, _⟩ := okWide_struct Try.underlying27 (hval 0 27 v0 rfl rfl)
  obtain ⟨aq0_0, nq0_0, cq0_0, hq0_0, zq0_0, aq0_1, nq0_1, cq0_1, hq0_1, zq0_1, aq0_2, nq0_2, cq0_2, hq0_2, zq0_2, e0, rq0_0, rq0_1, rq0_2⟩ := inT27 g0
  obtain rfl : cs0 = #[.slice aq0_0 nq0_0 cq0_0, .slice aq0_1 nq0_1 cq0_1, .slice aq0_2 nq0_2 cq0_2] := by apply Array.ext'; exact e0
  obtain ⟨f1, g1⟩ := h1
  obtain ⟨cs1, rfl, _⟩ := okWide_struct Try.underlying29 (hval 1 29 v1 rfl rfl)
  obtain ⟨zq1_0, aq1_1, nq1_1, cq1_1, hq1_1, zq1_1, e1, rq1_1⟩ := inT29 g1
  obtain rfl : cs1 = #[.int .i64 zq1_0, .slice aq1_1 nq1_1 cq1_1] := by apply Array.ext'; exact e1
  obtain ⟨f2, g2⟩ := h2
  obtain ⟨cs2, rfl, _⟩ := okWide_struct Try.underlying29 (hval 2 29 v2 rfl rfl)
  obtain ⟨zq2_0, aq2_1, nq2_1, cq2_1, hq2_1, zq2_1, e2, rq2_1⟩ := inT29 g2
  obtain rfl : cs2 = #[.int .i64 zq2_0, .slice aq2_1 nq2_1 cq2_1] := by apply Array.ext'; exact e2
  obtain ⟨f3, g3⟩ := h3
  obtain ⟨z3_, rfl⟩ := okWide_int Try.underlying2 (hval 3 2 v3 rfl rfl)
  obtain ⟨zq3_0, e3⟩ := inT2 g3
  simp only [Value.cells, List.cons.injEq, Value.int.injEq, and_true, true_and] at e3
  subst z3_
  refine (laws_FnExactMixStrategies_c aq0_0 nq0_0 cq0_0 hq0_0 zq0_0 aq0_1 nq0_1 cq0_1 hq0_1 zq0_1 aq0_2 nq0_2 cq0_2 hq0_2 zq0_2 zq1_0 aq1_1 nq1_1 cq1_1 hq1_1 zq1_1 zq2_0 aq2_1 nq2_1 cq2_1 hq2_1 zq2_1 zq3_0 W rq0_0 rq0_1 rq0_2 rq1_1 rq2_1).mono fun e W' ⟨v, he, hv, hx⟩ => ?_
  subst he; subst hv
  exact ⟨_, rfl, law_post (tb := 4) hW' rfl rfl Try.underlying4 rfl rfl rfl (by kernel_rfl) hx⟩
theorem fnExactMixStrategies_holds : Rows.FnExactMixStrategiesSaid :=
  OpenClaim.holds_of_wide 5 Try.f5 rfl rfl rfl rfl rfl rfl rfl ⟨rfl, rfl, rfl, rfl, rfl⟩ rfl rfl rfl rfl rfl (by kernel_rfl) Try.func5 (by kernel_rfl)
    (of_decide_eq_true (by kernel_rfl)) (by unfold Func.isWrapper; first | (rw [if_pos (by decide +kernel)]; kernel_rfl) | (rw [if_neg (by decide +kernel)]; exact ⟨rfl, rfl⟩))
    (fun os started H enc _ => fnExactMixStrategies_lifted os started H enc)
#print axioms fnExactMixStrategies_holds

end Go.Proofs.Ytofkhnipfhcaiaa
