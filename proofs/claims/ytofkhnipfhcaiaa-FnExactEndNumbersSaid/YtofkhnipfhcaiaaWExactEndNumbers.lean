/- The law FnExactEndNumbers returns true for all arguments. No condition. -/
import Derived.Test.YtofkhnipfhcaiaaEngC
import Derived.Test.YtofkhnipfhcaiaaFrame
import Derived.Test.YtofkhnipfhcaiaaFrm
import Derived.Test.YtofkhnipfhcaiaaTree
import Derived.Test.YtofkhnipfhcaiaaGame
import Derived.Test.YtofkhnipfhcaiaaL1
import Derived.Test.YtofkhnipfhcaiaaL2
import Derived.Test.YtofkhnipfhcaiaaL2m
import Derived.Test.YtofkhnipfhcaiaaL3
import Derived.Test.YtofkhnipfhcaiaaL4
import Derived.Test.YtofkhnipfhcaiaaSets
import Derived.Test.YtofkhnipfhcaiaaL5
import Derived.Test.YtofkhnipfhcaiaaL6
import Derived.Test.YtofkhnipfhcaiaaParts
import Derived.Test.YtofkhnipfhcaiaaWay
import Derived.Test.YtofkhnipfhcaiaaHigh
import Derived.Test.YtofkhnipfhcaiaaVal
import Derived.Test.YtofkhnipfhcaiaaVal2
import Derived.Test.YtofkhnipfhcaiaaLP
import Derived.Test.YtofkhnipfhcaiaaLW
import Derived.Test.YtofkhnipfhcaiaaLE
import Derived.Test.YtofkhnipfhcaiaaLF
import Derived.Test.YtofkhnipfhcaiaaMath
import Derived.Test.YtofkhnipfhcaiaaUni
import Derived.Test.YtofkhnipfhcaiaaVal3
import Derived.Test.YtofkhnipfhcaiaaLR
import Derived.Test.YtofkhnipfhcaiaaLG
import Derived.Test.YtofkhnipfhcaiaaLK
import Derived.Test.YtofkhnipfhcaiaaOpn
import Derived.Test.YtofkhnipfhcaiaaRows
namespace Go.Proofs.Ytofkhnipfhcaiaa
open Go Go.RowKit V Go.ChangeShapes Go.WideShapes Go.ChangeAt
set_option linter.unusedVariables false
set_option linter.unusedSimpArgs false
set_option maxRecDepth 100000



set_option maxHeartbeats 4000000 in
theorem laws_FnExactEndNumbers_c (az : Option Addr) (nz : Nat) (cz : Nat) (Hz : Nat → Hd) (z : List Nd) (aws : Option Addr) (nws : Nat) (cws : Nat) (Hws : Nat → Hd) (ws : List (List Int)) (avs : Option Addr) (nvs : Nat) (cvs : Nat) (Hvs : Nat → Hd) (vs : List (List Int)) (pl : Int) (aps : Option Addr) (nps : Nat) (cps : Nat) (Hps : Nat → Hd) (ps : List (List Int)) (ql : Int) (aqs : Option Addr) (nqs : Nat) (cqs : Nat) (Hqs : Nat → Hd) (qs : List (List Int)) (w : World) (rz : RdR ndK az nz Hz z w) (rws : RdR maK aws nws Hws ws w) (rvs : RdR maK avs nvs Hvs vs w) (rps : RdR maK aps nps Hps ps w) (rqs : RdR maK aqs nqs Hqs qs w) :
    Calls Try.prog 6 #[.agg #[.slice az nz cz, .slice aws nws cws, .slice avs nvs cvs], .agg #[.int .i64 pl, .slice aps nps cps], .agg #[.int .i64 ql, .slice aqs nqs cqs]] w (Ret fun v w' => v = .bool true ∧ Ext w w') := by
  have kz : Kn w none_ [] (RdR ndK az nz Hz z) := fun w' hs => rz.ext hs.upd
  have lz : z.length = nz := rz.1
  have mz : nz ≤ 9223372036854775807 := rz.2.1
  have kws : Kn w none_ [] (RdR maK aws nws Hws ws) := fun w' hs => rws.ext hs.upd
  have lws : ws.length = nws := rws.1
  have mws : nws ≤ 9223372036854775807 := rws.2.1
  have kvs : Kn w none_ [] (RdR maK avs nvs Hvs vs) := fun w' hs => rvs.ext hs.upd
  have lvs : vs.length = nvs := rvs.1
  have mvs : nvs ≤ 9223372036854775807 := rvs.2.1
  have kps : Kn w none_ [] (RdR maK aps nps Hps ps) := fun w' hs => rps.ext hs.upd
  have lps : ps.length = nps := rps.1
  have mps : nps ≤ 9223372036854775807 := rps.2.1
  have kqs : Kn w none_ [] (RdR maK aqs nqs Hqs qs) := fun w' hs => rqs.ext hs.upd
  have lqs : qs.length = nqs := rqs.1
  have mqs : nqs ≤ 9223372036854775807 := rqs.2.1
  refine fn (M := none_) (rs := [.tmp 6]) Try.func6 rfl Try.ntmps6 rfl rfl (Sep.start _ _) ?_
  refine hSeq ?_
  refine hReg (sl 0 (sl 1 (sl 2 (sq 3 sz)))) (by kernel_rfl) ?_
  refine box trv1 rfl rfl rfl rfl (fun bkb1 hbkb1 => ?_)
  refine box trv1 rfl rfl rfl rfl (fun bkb2 hbkb2 => ?_)
  refine box trv1 rfl rfl rfl rfl (fun bkb3 hbkb3 => ?_)
  refine asB rfl rfl rfl ?_
  refine rNil ?_
  refine qSeq rfl ?_
  refine hSeq ?_
  refine hReg (sq 0 sz) (by kernel_rfl) ?_
  refine asI rfl rfl rfl ?_
  refine rNil ?_
  refine qSeq rfl ?_
  refine hSeq ?_
  refine hReg (sl 0 (sq 1 (sl 2 (sq 3 sz)))) (by kernel_rfl) ?_
  refine ldAl Try.isAgg27 Try.sizeOf27 (cBs 2 rfl) trv rfl rfl rfl rfl ?_
  refine mvI rfl rfl rfl ?_
  refine callP (v := .int .i64 ((Math.cut (Math.cut (Math.cut (1048576 : Int) (Math.szK Math.chl z : Int)) (Math.szK Math.rwl ws : Int)) (Math.szK Math.rwl vs : Int)))) Try.call8 trv rfl rfl (fun w hs => laws_szGame_c _ nz cz _ _ _ nws cws _ _ _ nvs cvs _ _ _ w (Kn.drop (k := 3) kz w hs) (Kn.drop (k := 3) kws w hs) (Kn.drop (k := 3) kvs w hs) (by omega)) ?_
  refine asI rfl rfl rfl ?_
  refine rNil ?_
  refine qSeq rfl ?_
  refine hSeq ?_
  refine hSeq ?_
  refine hReg (sq 0 (sq 1 sz)) (by kernel_rfl) ?_
  refine mvI rfl rfl rfl ?_
  refine lss rfl rfl rfl rfl ?_
  refine rNil ?_
  refine qSeq rfl ?_
  refine hIfD rfl (fun c1 => ?_) (fun c1 => ?_)
  · -- c1T
    replace c1 : (Math.cut (Math.cut (Math.cut (1048576 : Int) (Math.szK Math.chl z : Int)) (Math.szK Math.rwl ws : Int)) (Math.szK Math.rwl vs : Int)) < 0 := c1
    refine hSeq ?_
    refine hReg (sq 0 sz) (by kernel_rfl) ?_
    refine asB rfl rfl rfl ?_
    refine rNil ?_
    refine qSeq rfl ?_
    refine hRet ?_
    exact fun w hs => ⟨[.bool true], ⟨rfl, trivial⟩, ⟨by first | rfl | exact bD (by omega) | exact bT (by omega) | exact bF (by omega) | exact vI (by omega), hs.upd⟩⟩
  · -- c1F
    replace c1 : ¬ ((Math.cut (Math.cut (Math.cut (1048576 : Int) (Math.szK Math.chl z : Int)) (Math.szK Math.rwl ws : Int)) (Math.szK Math.rwl vs : Int)) < 0) := c1
    obtain ⟨hb, hbw, hbv⟩ := Math.cut3_pos (l := 1048576) (by omega) c1
    have hble := Math.cut3_le (l := 1048576) c1 (by omega)
    have hf4 := Math.sumK_f4 z
    have hsz : Math.szK Math.chl z = z.length + Math.sumK Math.chl z := rfl
    have hsw : Math.szK Math.rwl ws = ws.length + Math.sumK Math.rwl ws := rfl
    have hsv : Math.szK Math.rwl vs = vs.length + Math.sumK Math.rwl vs := rfl
    have hsps : Math.szK Math.rwl ps = ps.length + Math.sumK Math.rwl ps := rfl
    have hsqs : Math.szK Math.rwl qs = qs.length + Math.sumK Math.rwl qs := rfl
    refine hSkip ?_
    refine qSeq rfl ?_
    refine hSeq ?_
    refine hReg (sl 0 (sq 1 (sl 2 (sq 3 sz)))) (by kernel_rfl) ?_
    refine ldAl Try.isAgg29 Try.sizeOf29 (cBs 1 rfl) trv rfl rfl rfl rfl ?_
    refine mvI rfl rfl rfl ?_
    refine callP (v := .int .i64 ((Math.cut ((Math.cut (Math.cut (Math.cut (1048576 : Int) (Math.szK Math.chl z : Int)) (Math.szK Math.rwl ws : Int)) (Math.szK Math.rwl vs : Int))) (Math.szK Math.rwl ps : Int)))) Try.call9 trv rfl rfl (fun w hs => laws_szStrategy_c _ _ nps cps _ _ _ w (Kn.drop (k := 3) kps w hs) (by omega)) ?_
    refine asI rfl rfl rfl ?_
    refine rNil ?_
    refine qSeq rfl ?_
    refine hSeq ?_
    refine hSeq ?_
    refine hReg (sq 0 (sq 1 sz)) (by kernel_rfl) ?_
    refine mvI rfl rfl rfl ?_
    refine lss rfl rfl rfl rfl ?_
    refine rNil ?_
    refine qSeq rfl ?_
    refine hIfD rfl (fun c2 => ?_) (fun c2 => ?_)
    · -- c2T
      replace c2 : (Math.cut ((Math.cut (Math.cut (Math.cut (1048576 : Int) (Math.szK Math.chl z : Int)) (Math.szK Math.rwl ws : Int)) (Math.szK Math.rwl vs : Int))) (Math.szK Math.rwl ps : Int)) < 0 := c2
      refine hSeq ?_
      refine hReg (sq 0 sz) (by kernel_rfl) ?_
      refine asB rfl rfl rfl ?_
      refine rNil ?_
      refine qSeq rfl ?_
      refine hRet ?_
      exact fun w hs => ⟨[.bool true], ⟨rfl, trivial⟩, ⟨by first | rfl | exact bD (by omega) | exact bT (by omega) | exact bF (by omega) | exact vI (by omega), hs.upd⟩⟩
    · -- c2F
      replace c2 : ¬ ((Math.cut ((Math.cut (Math.cut (Math.cut (1048576 : Int) (Math.szK Math.chl z : Int)) (Math.szK Math.rwl ws : Int)) (Math.szK Math.rwl vs : Int))) (Math.szK Math.rwl ps : Int)) < 0) := c2
      have hbps := Math.cut_pos c2
      refine hSkip ?_
      refine qSeq rfl ?_
      refine hSeq ?_
      refine hReg (sl 0 (sq 1 (sl 2 (sq 3 sz)))) (by kernel_rfl) ?_
      refine ldAl Try.isAgg29 Try.sizeOf29 (cBs 0 rfl) trv rfl rfl rfl rfl ?_
      refine mvI rfl rfl rfl ?_
      refine callP (v := .int .i64 ((Math.cut ((Math.cut ((Math.cut (Math.cut (Math.cut (1048576 : Int) (Math.szK Math.chl z : Int)) (Math.szK Math.rwl ws : Int)) (Math.szK Math.rwl vs : Int))) (Math.szK Math.rwl ps : Int))) (Math.szK Math.rwl qs : Int)))) Try.call9 trv rfl rfl (fun w hs => laws_szStrategy_c _ _ nqs cqs _ _ _ w (Kn.drop (k := 3) kqs w hs) (by omega)) ?_
      refine asI rfl rfl rfl ?_
      refine rNil ?_
      refine qSeq rfl ?_
      refine hSeq ?_
      refine hSeq ?_
      refine hReg (sq 0 (sq 1 sz)) (by kernel_rfl) ?_
      refine mvI rfl rfl rfl ?_
      refine lss rfl rfl rfl rfl ?_
      refine rNil ?_
      refine qSeq rfl ?_
      refine hIfD rfl (fun c3 => ?_) (fun c3 => ?_)
      · -- c3T
        replace c3 : (Math.cut ((Math.cut ((Math.cut (Math.cut (Math.cut (1048576 : Int) (Math.szK Math.chl z : Int)) (Math.szK Math.rwl ws : Int)) (Math.szK Math.rwl vs : Int))) (Math.szK Math.rwl ps : Int))) (Math.szK Math.rwl qs : Int)) < 0 := c3
        refine hSeq ?_
        refine hReg (sq 0 sz) (by kernel_rfl) ?_
        refine asB rfl rfl rfl ?_
        refine rNil ?_
        refine qSeq rfl ?_
        refine hRet ?_
        exact fun w hs => ⟨[.bool true], ⟨rfl, trivial⟩, ⟨by first | rfl | exact bD (by omega) | exact bT (by omega) | exact bF (by omega) | exact vI (by omega), hs.upd⟩⟩
      · -- c3F
        replace c3 : ¬ ((Math.cut ((Math.cut ((Math.cut (Math.cut (Math.cut (1048576 : Int) (Math.szK Math.chl z : Int)) (Math.szK Math.rwl ws : Int)) (Math.szK Math.rwl vs : Int))) (Math.szK Math.rwl ps : Int))) (Math.szK Math.rwl qs : Int)) < 0) := c3
        have hbqs := (Math.cut_pos c3).1
        have hel := Math.endsAt_len z ws vs pl ps ql qs
        refine hSkip ?_
        refine qSeq rfl ?_
        refine hSeq ?_
        refine hDraw (Ls := [blk bkb3 29 [.int .i64 ql, .slice aqs nqs cqs], blk bkb2 29 [.int .i64 pl, .slice aps nps cps], blk bkb1 27 [.slice az nz cz, .slice aws nws cws, .slice avs nvs cvs]]) (by kernel_rfl) (sq 0 (sq 2 (sq 4 (sl 1 (sl 3 (sl 5 (sl 6 (sq 7 (sq 8 (sq 9 (sq 10 (sq 11 sz)))))))))))) (by kernel_rfl) (.cons_cons _ (.cons_cons _ (.cons_cons _ .slnil))) ?_
        refine ldAq Try.isAgg27 Try.sizeOf27 (cBs 2 rfl) rfl rfl rfl rfl ?_
        refine ldAq Try.isAgg29 Try.sizeOf29 (cBs 1 rfl) rfl rfl rfl rfl ?_
        refine ldAq Try.isAgg29 Try.sizeOf29 (cBs 0 rfl) rfl rfl rfl rfl ?_
        refine callS Try.call11 (by exact (fun _ _ h => h.pick [3, 3, 3])) rfl rfl (fun w hs => laws_toGame_c _ nz cz _ _ _ nws cws _ _ _ nvs cvs _ _ w (Kn.drop (k := 3) kz w hs) (Kn.drop (k := 3) kws w hs) (Kn.drop (k := 3) kvs w hs) (by first | assumption | omega) (by first | assumption | omega) (by first | assumption | omega)) ?_
        rintro ⟨ay1, ny1, cy1, Hy1, y1, ayw1, nyw1, cyw1, Hyw1, yw1, ayv1, nyv1, cyv1, Hyv1, yv1⟩ ⟨hr1a, hr1b, hr1c⟩
        dsimp only at hr1a hr1b hr1c
        subst y1
        subst yw1
        subst yv1
        refine rPieces (L' := [OwnR ndK 88 2 ay1 ny1 cy1 Hy1 z, OwnR maK 53 2 ayw1 nyw1 cyw1 Hyw1 ws, OwnR maK 53 2 ayv1 nyv1 cyv1 Hyv1 vs, blk bkb3 29 [.int .i64 ql, .slice aqs nqs cqs], blk bkb2 29 [.int .i64 pl, .slice aps nps cps], blk bkb1 27 [.slice az nz cz, .slice aws nws cws, .slice avs nvs cvs]]) (fun _ h => h) ?_
        refine rKnow (fun w hs => (show OwnR ndK 88 2 ay1 ny1 cy1 Hy1 z w from hs.at_ 0 rfl).1) (fun lenn4 => ?_)
        refine rKnow (fun w hs => (show OwnR maK 53 2 ayw1 nyw1 cyw1 Hyw1 ws w from hs.at_ 1 rfl).1) (fun lenn5 => ?_)
        refine rKnow (fun w hs => (show OwnR maK 53 2 ayv1 nyv1 cyv1 Hyv1 vs w from hs.at_ 2 rfl).1) (fun lenn6 => ?_)
        refine callS Try.call12 (by exact (fun _ _ h => h.pick [4, 4, 4])) rfl rfl (fun w hs => laws_toStrategy_c _ _ nps cps _ _ w (Kn.drop (k := 6) kps w hs) (by first | assumption | omega)) ?_
        rintro ⟨ay2, ny2, cy2, Hy2, y2⟩ hr2
        dsimp only at hr2
        subst y2
        refine rPieces (L' := [OwnR maK 53 2 ay2 ny2 cy2 Hy2 ps, OwnR ndK 88 2 ay1 ny1 cy1 Hy1 z, OwnR maK 53 2 ayw1 nyw1 cyw1 Hyw1 ws, OwnR maK 53 2 ayv1 nyv1 cyv1 Hyv1 vs, blk bkb3 29 [.int .i64 ql, .slice aqs nqs cqs], blk bkb2 29 [.int .i64 pl, .slice aps nps cps], blk bkb1 27 [.slice az nz cz, .slice aws nws cws, .slice avs nvs cvs]]) (fun _ h => h) ?_
        refine rKnow (fun w hs => (show OwnR maK 53 2 ay2 ny2 cy2 Hy2 ps w from hs.at_ 0 rfl).1) (fun lenn7 => ?_)
        refine callS Try.call12 (by exact (fun _ _ h => h.pick [5, 5, 5])) rfl rfl (fun w hs => laws_toStrategy_c _ _ nqs cqs _ _ w (Kn.drop (k := 7) kqs w hs) (by first | assumption | omega)) ?_
        rintro ⟨ay3, ny3, cy3, Hy3, y3⟩ hr3
        dsimp only at hr3
        subst y3
        refine rPieces (L' := [OwnR maK 53 2 ay3 ny3 cy3 Hy3 qs, OwnR maK 53 2 ay2 ny2 cy2 Hy2 ps, OwnR ndK 88 2 ay1 ny1 cy1 Hy1 z, OwnR maK 53 2 ayw1 nyw1 cyw1 Hyw1 ws, OwnR maK 53 2 ayv1 nyv1 cyv1 Hyv1 vs, blk bkb3 29 [.int .i64 ql, .slice aqs nqs cqs], blk bkb2 29 [.int .i64 pl, .slice aps nps cps], blk bkb1 27 [.slice az nz cz, .slice aws nws cws, .slice avs nvs cvs]]) (fun _ h => h) ?_
        refine rKnow (fun w hs => (show OwnR maK 53 2 ay3 ny3 cy3 Hy3 qs w from hs.at_ 0 rfl).1) (fun lenn8 => ?_)
        refine callS Try.call23 (by exact (fun _ _ h => h.pick [6, 6, 6])) rfl rfl (fun w hs => spec_EndNumbers_c _ ny1 cy1 _ _ _ nyw1 cyw1 _ _ _ nyv1 cyv1 _ _ _ _ ny2 cy2 _ _ _ _ ny3 cy3 _ _ w (OwnR.rd (hs.at_ 2 rfl) ndK.ok) (OwnR.rd (hs.at_ 3 rfl) maK.ok) (OwnR.rd (hs.at_ 4 rfl) maK.ok) (OwnR.rd (hs.at_ 1 rfl) maK.ok) (OwnR.rd (hs.at_ 0 rfl) maK.ok)) ?_
        rintro ⟨ay4, ny4, cy4, y4, q4⟩ ⟨hr4a, hr4b⟩
        dsimp only at hr4a hr4b
        subst y4
        subst q4
        refine rPieces (L' := [OwnI 2 ay4 ny4 cy4 ((((Math.endsAt z ws vs pl ps ql qs).1))), OwnR maK 53 2 ay3 ny3 cy3 Hy3 qs, OwnR maK 53 2 ay2 ny2 cy2 Hy2 ps, OwnR ndK 88 2 ay1 ny1 cy1 Hy1 z, OwnR maK 53 2 ayw1 nyw1 cyw1 Hyw1 ws, OwnR maK 53 2 ayv1 nyv1 cyv1 Hyv1 vs, blk bkb3 29 [.int .i64 ql, .slice aqs nqs cqs], blk bkb2 29 [.int .i64 pl, .slice aps nps cps], blk bkb1 27 [.slice az nz cz, .slice aws nws cws, .slice avs nvs cvs]]) (fun _ h => h) ?_
        refine rKnow (fun w hs => (show OwnI 2 ay4 ny4 cy4 ((((Math.endsAt z ws vs pl ps ql qs).1))) w from hs.at_ 0 rfl).lenz) (fun lenn9 => ?_)
        refine mv rfl rfl rfl ?_
        refine ext rfl rfl rfl rfl ?_
        refine ext rfl rfl rfl rfl ?_
        refine asS rfl rfl rfl ?_
        refine asI rfl rfl rfl ?_
        refine rNil ?_
        refine qSeq rfl ?_
        refine hSeq ?_
        refine hReg (sl 0 (sl 1 (sl 2 (sl 3 sz)))) (by kernel_rfl) ?_
        refine ldAl Try.isAgg27 Try.sizeOf27 (cBs 8 rfl) trv rfl rfl rfl rfl ?_
        refine callS Try.call11 trv1 rfl rfl (fun w hs => laws_toGame_c _ nz cz _ _ _ nws cws _ _ _ nvs cvs _ _ w (Kn.drop (k := 9) kz w hs) (Kn.drop (k := 9) kws w hs) (Kn.drop (k := 9) kvs w hs) (by first | assumption | omega) (by first | assumption | omega) (by first | assumption | omega)) ?_
        rintro ⟨ay5, ny5, cy5, Hy5, y5, ayw5, nyw5, cyw5, Hyw5, yw5, ayv5, nyv5, cyv5, Hyv5, yv5⟩ ⟨hr5a, hr5b, hr5c⟩
        dsimp only at hr5a hr5b hr5c
        subst y5
        subst yw5
        subst yv5
        refine rPieces (L' := [OwnR ndK 88 2 ay5 ny5 cy5 Hy5 z, OwnR maK 53 2 ayw5 nyw5 cyw5 Hyw5 ws, OwnR maK 53 2 ayv5 nyv5 cyv5 Hyv5 vs, OwnI 2 ay4 ny4 cy4 ((((Math.endsAt z ws vs pl ps ql qs).1))), OwnR maK 53 2 ay3 ny3 cy3 Hy3 qs, OwnR maK 53 2 ay2 ny2 cy2 Hy2 ps, OwnR ndK 88 2 ay1 ny1 cy1 Hy1 z, OwnR maK 53 2 ayw1 nyw1 cyw1 Hyw1 ws, OwnR maK 53 2 ayv1 nyv1 cyv1 Hyv1 vs, blk bkb3 29 [.int .i64 ql, .slice aqs nqs cqs], blk bkb2 29 [.int .i64 pl, .slice aps nps cps], blk bkb1 27 [.slice az nz cz, .slice aws nws cws, .slice avs nvs cvs]]) (fun _ h => h) ?_
        refine rKnow (fun w hs => (show OwnR ndK 88 2 ay5 ny5 cy5 Hy5 z w from hs.at_ 0 rfl).1) (fun lenn10 => ?_)
        refine rKnow (fun w hs => (show OwnR maK 53 2 ayw5 nyw5 cyw5 Hyw5 ws w from hs.at_ 1 rfl).1) (fun lenn11 => ?_)
        refine rKnow (fun w hs => (show OwnR maK 53 2 ayv5 nyv5 cyv5 Hyv5 vs w from hs.at_ 2 rfl).1) (fun lenn12 => ?_)
        refine alc Try.zeroValue38 rfl trv1 rfl rfl (fun bka13 hbka13 => ?_)
        refine stAl (vs := [.slice ay5 ny5 cy5, .slice ayw5 nyw5 cyw5, .slice ayv5 nyv5 cyv5]) 0 rfl Try.sizeOf38 trv rfl rfl rfl rfl rfl (by simp [Value.oneCell']) rfl ?_
        refine rNil ?_
        refine qSeq rfl ?_
        refine hSeq ?_
        refine hReg (sl 0 (sl 1 (sl 2 (sl 3 sz)))) (by kernel_rfl) ?_
        refine ldAl Try.isAgg29 Try.sizeOf29 (cBs 11 rfl) trv rfl rfl rfl rfl ?_
        refine callS Try.call12 trv1 rfl rfl (fun w hs => laws_toStrategy_c _ _ nps cps _ _ w (Kn.drop (k := 13) kps w hs) (by first | assumption | omega)) ?_
        rintro ⟨ay6, ny6, cy6, Hy6, y6⟩ hr6
        dsimp only at hr6
        subst y6
        refine rPieces (L' := [OwnR maK 53 2 ay6 ny6 cy6 Hy6 ps, blk bka13 38 [.slice ay5 ny5 cy5, .slice ayw5 nyw5 cyw5, .slice ayv5 nyv5 cyv5], OwnR ndK 88 2 ay5 ny5 cy5 Hy5 z, OwnR maK 53 2 ayw5 nyw5 cyw5 Hyw5 ws, OwnR maK 53 2 ayv5 nyv5 cyv5 Hyv5 vs, OwnI 2 ay4 ny4 cy4 ((((Math.endsAt z ws vs pl ps ql qs).1))), OwnR maK 53 2 ay3 ny3 cy3 Hy3 qs, OwnR maK 53 2 ay2 ny2 cy2 Hy2 ps, OwnR ndK 88 2 ay1 ny1 cy1 Hy1 z, OwnR maK 53 2 ayw1 nyw1 cyw1 Hyw1 ws, OwnR maK 53 2 ayv1 nyv1 cyv1 Hyv1 vs, blk bkb3 29 [.int .i64 ql, .slice aqs nqs cqs], blk bkb2 29 [.int .i64 pl, .slice aps nps cps], blk bkb1 27 [.slice az nz cz, .slice aws nws cws, .slice avs nvs cvs]]) (fun _ h => h) ?_
        refine rKnow (fun w hs => (show OwnR maK 53 2 ay6 ny6 cy6 Hy6 ps w from hs.at_ 0 rfl).1) (fun lenn14 => ?_)
        refine alc Try.zeroValue40 rfl trv1 rfl rfl (fun bka15 hbka15 => ?_)
        refine stAl (vs := [.int .i64 pl, .slice ay6 ny6 cy6]) 0 rfl Try.sizeOf40 trv rfl rfl rfl rfl rfl (by simp [Value.oneCell']) rfl ?_
        refine rNil ?_
        refine qSeq rfl ?_
        refine hSeq ?_
        refine hReg (sl 0 (sl 1 (sl 2 (sl 3 sz)))) (by kernel_rfl) ?_
        refine ldAl Try.isAgg29 Try.sizeOf29 (cBs 12 rfl) trv rfl rfl rfl rfl ?_
        refine callS Try.call12 trv1 rfl rfl (fun w hs => laws_toStrategy_c _ _ nqs cqs _ _ w (Kn.drop (k := 15) kqs w hs) (by first | assumption | omega)) ?_
        rintro ⟨ay7, ny7, cy7, Hy7, y7⟩ hr7
        dsimp only at hr7
        subst y7
        refine rPieces (L' := [OwnR maK 53 2 ay7 ny7 cy7 Hy7 qs, blk bka15 40 [.int .i64 pl, .slice ay6 ny6 cy6], OwnR maK 53 2 ay6 ny6 cy6 Hy6 ps, blk bka13 38 [.slice ay5 ny5 cy5, .slice ayw5 nyw5 cyw5, .slice ayv5 nyv5 cyv5], OwnR ndK 88 2 ay5 ny5 cy5 Hy5 z, OwnR maK 53 2 ayw5 nyw5 cyw5 Hyw5 ws, OwnR maK 53 2 ayv5 nyv5 cyv5 Hyv5 vs, OwnI 2 ay4 ny4 cy4 ((((Math.endsAt z ws vs pl ps ql qs).1))), OwnR maK 53 2 ay3 ny3 cy3 Hy3 qs, OwnR maK 53 2 ay2 ny2 cy2 Hy2 ps, OwnR ndK 88 2 ay1 ny1 cy1 Hy1 z, OwnR maK 53 2 ayw1 nyw1 cyw1 Hyw1 ws, OwnR maK 53 2 ayv1 nyv1 cyv1 Hyv1 vs, blk bkb3 29 [.int .i64 ql, .slice aqs nqs cqs], blk bkb2 29 [.int .i64 pl, .slice aps nps cps], blk bkb1 27 [.slice az nz cz, .slice aws nws cws, .slice avs nvs cvs]]) (fun _ h => h) ?_
        refine rKnow (fun w hs => (show OwnR maK 53 2 ay7 ny7 cy7 Hy7 qs w from hs.at_ 0 rfl).1) (fun lenn16 => ?_)
        refine alc Try.zeroValue40 rfl trv1 rfl rfl (fun bka17 hbka17 => ?_)
        refine stAl (vs := [.int .i64 ql, .slice ay7 ny7 cy7]) 0 rfl Try.sizeOf40 trv rfl rfl rfl rfl rfl (by simp [Value.oneCell']) rfl ?_
        refine rNil ?_
        refine qSeq rfl ?_
        refine hSeq ?_
        refine hReg (sl 0 (sl 1 (sl 2 (sl 3 (sq 4 (sq 5 (sq 6 (sq 7 (sq 8 sz))))))))) (by kernel_rfl) ?_
        refine ldAl Try.isAgg38 Try.sizeOf38 (cBs 4 rfl) trv rfl rfl rfl rfl ?_
        refine ldAl Try.isAgg40 Try.sizeOf40 (cBs 2 rfl) trv rfl rfl rfl rfl ?_
        refine ldAl Try.isAgg40 Try.sizeOf40 (cBs 0 rfl) trv rfl rfl rfl rfl ?_
        refine callS Try.call24 trv1 rfl rfl (fun w hs => impl_EndNumbers_c _ ny5 cy5 _ _ _ nyw5 cyw5 _ _ _ nyv5 cyv5 _ _ _ _ ny6 cy6 _ _ _ _ ny7 cy7 _ _ w (OwnR.rd (hs.at_ 5 rfl) ndK.ok) (OwnR.rd (hs.at_ 6 rfl) maK.ok) (OwnR.rd (hs.at_ 7 rfl) maK.ok) (OwnR.rd (hs.at_ 3 rfl) maK.ok) (OwnR.rd (hs.at_ 1 rfl) maK.ok)) ?_
        rintro ⟨ay8, ny8, cy8, y8, q8⟩ ⟨hr8a, hr8b⟩
        dsimp only at hr8a hr8b
        subst y8
        subst q8
        refine rPieces (L' := [OwnI 2 ay8 ny8 cy8 ((((Math.endsAt z ws vs pl ps ql qs).1))), blk bka17 40 [.int .i64 ql, .slice ay7 ny7 cy7], OwnR maK 53 2 ay7 ny7 cy7 Hy7 qs, blk bka15 40 [.int .i64 pl, .slice ay6 ny6 cy6], OwnR maK 53 2 ay6 ny6 cy6 Hy6 ps, blk bka13 38 [.slice ay5 ny5 cy5, .slice ayw5 nyw5 cyw5, .slice ayv5 nyv5 cyv5], OwnR ndK 88 2 ay5 ny5 cy5 Hy5 z, OwnR maK 53 2 ayw5 nyw5 cyw5 Hyw5 ws, OwnR maK 53 2 ayv5 nyv5 cyv5 Hyv5 vs, OwnI 2 ay4 ny4 cy4 ((((Math.endsAt z ws vs pl ps ql qs).1))), OwnR maK 53 2 ay3 ny3 cy3 Hy3 qs, OwnR maK 53 2 ay2 ny2 cy2 Hy2 ps, OwnR ndK 88 2 ay1 ny1 cy1 Hy1 z, OwnR maK 53 2 ayw1 nyw1 cyw1 Hyw1 ws, OwnR maK 53 2 ayv1 nyv1 cyv1 Hyv1 vs, blk bkb3 29 [.int .i64 ql, .slice aqs nqs cqs], blk bkb2 29 [.int .i64 pl, .slice aps nps cps], blk bkb1 27 [.slice az nz cz, .slice aws nws cws, .slice avs nvs cvs]]) (fun _ h => h) ?_
        refine rKnow (fun w hs => (show OwnI 2 ay8 ny8 cy8 ((((Math.endsAt z ws vs pl ps ql qs).1))) w from hs.at_ 0 rfl).lenz) (fun lenn18 => ?_)
        refine mv rfl rfl rfl ?_
        refine ext rfl rfl rfl rfl ?_
        refine ext rfl rfl rfl rfl ?_
        refine asS rfl rfl rfl ?_
        refine asI rfl rfl rfl ?_
        refine rNil ?_
        refine qSeq rfl ?_
        refine hSeq ?_
        refine hSeq ?_
        refine hReg (sq 0 (sq 1 (sl 2 (sq 3 (sq 4 (sq 5 (sq 6 (sq 7 (sq 8 sz))))))))) (by kernel_rfl) ?_
        refine mvS rfl rfl rfl ?_
        refine mvS rfl rfl rfl ?_
        refine callP (v := .bool true) Try.call25 trv rfl rfl (fun w hs => laws_eqInt64S_c _ ny8 cy8 _ _ ny4 cy4 _ w (OwnI.rd (hs.at_ 0 rfl)) (OwnI.rd (hs.at_ 9 rfl)) (by first | rfl | assumption | (rw [heq]) | (simp only [*]))) ?_
        refine not rfl rfl rfl ?_
        refine mvB rfl rfl rfl ?_
        refine mvI rfl rfl rfl ?_
        refine mvI rfl rfl rfl ?_
        refine neq rfl rfl rfl rfl ?_
        refine pickB rfl rfl rfl rfl ?_
        refine rNil ?_
        refine qSeq rfl ?_
        refine hIfD rfl (fun c4 => ?_) (fun c4 => ?_)
        · -- c4T
          replace c4 : (((Math.endsAt z ws vs pl ps ql qs).2)) ≠ (((Math.endsAt z ws vs pl ps ql qs).2)) := c4
          exact absurd rfl c4
        · -- c4F
          replace c4 : ¬ ((((Math.endsAt z ws vs pl ps ql qs).2)) ≠ (((Math.endsAt z ws vs pl ps ql qs).2))) := c4
          refine hSkip ?_
          refine qSeq rfl ?_
          refine hSeq ?_
          refine hSeq ?_
          refine hDraw (Ls := [blk bka13 38 [.slice ay5 ny5 cy5, .slice ayw5 nyw5 cyw5, .slice ayv5 nyv5 cyv5], blk bkb1 27 [.slice az nz cz, .slice aws nws cws, .slice avs nvs cvs]]) (by kernel_rfl) (sq 0 (sq 1 (sl 2 (sl 3 (sq 4 sz))))) (by kernel_rfl) (.cons _ (.cons _ (.cons _ (.cons _ (.cons _ (.cons_cons _ (.cons _ (.cons _ (.cons _ (.cons _ (.cons _ (.cons _ (.cons _ (.cons _ (.cons _ (.cons _ (.cons _ (.cons_cons _ .slnil)))))))))))))))))) ?_
          refine ldAq Try.isAgg38 Try.sizeOf38 (cBs 0 rfl) rfl rfl rfl rfl ?_
          refine ldAq Try.isAgg27 Try.sizeOf27 (cBs 1 rfl) rfl rfl rfl rfl ?_
          refine callS Try.call11 (by exact (fun _ _ h => h.pick [8, 19])) rfl rfl (fun w hs => laws_toGame_c _ nz cz _ _ _ nws cws _ _ _ nvs cvs _ _ w (Kn.drop (k := 18) kz w hs) (Kn.drop (k := 18) kws w hs) (Kn.drop (k := 18) kvs w hs) (by first | assumption | omega) (by first | assumption | omega) (by first | assumption | omega)) ?_
          rintro ⟨ay9, ny9, cy9, Hy9, y9, ayw9, nyw9, cyw9, Hyw9, yw9, ayv9, nyv9, cyv9, Hyv9, yv9⟩ ⟨hr9a, hr9b, hr9c⟩
          dsimp only at hr9a hr9b hr9c
          subst y9
          subst yw9
          subst yv9
          refine rPieces (L' := [OwnR ndK 88 2 ay9 ny9 cy9 Hy9 z, OwnR maK 53 2 ayw9 nyw9 cyw9 Hyw9 ws, OwnR maK 53 2 ayv9 nyv9 cyv9 Hyv9 vs, OwnI 2 ay8 ny8 cy8 ((((Math.endsAt z ws vs pl ps ql qs).1))), blk bka17 40 [.int .i64 ql, .slice ay7 ny7 cy7], OwnR maK 53 2 ay7 ny7 cy7 Hy7 qs, blk bka15 40 [.int .i64 pl, .slice ay6 ny6 cy6], OwnR maK 53 2 ay6 ny6 cy6 Hy6 ps, blk bka13 38 [.slice ay5 ny5 cy5, .slice ayw5 nyw5 cyw5, .slice ayv5 nyv5 cyv5], OwnR ndK 88 2 ay5 ny5 cy5 Hy5 z, OwnR maK 53 2 ayw5 nyw5 cyw5 Hyw5 ws, OwnR maK 53 2 ayv5 nyv5 cyv5 Hyv5 vs, OwnI 2 ay4 ny4 cy4 ((((Math.endsAt z ws vs pl ps ql qs).1))), OwnR maK 53 2 ay3 ny3 cy3 Hy3 qs, OwnR maK 53 2 ay2 ny2 cy2 Hy2 ps, OwnR ndK 88 2 ay1 ny1 cy1 Hy1 z, OwnR maK 53 2 ayw1 nyw1 cyw1 Hyw1 ws, OwnR maK 53 2 ayv1 nyv1 cyv1 Hyv1 vs, blk bkb3 29 [.int .i64 ql, .slice aqs nqs cqs], blk bkb2 29 [.int .i64 pl, .slice aps nps cps], blk bkb1 27 [.slice az nz cz, .slice aws nws cws, .slice avs nvs cvs]]) (fun _ h => h) ?_
          refine rKnow (fun w hs => (show OwnR ndK 88 2 ay9 ny9 cy9 Hy9 z w from hs.at_ 0 rfl).1) (fun lenn19 => ?_)
          refine rKnow (fun w hs => (show OwnR maK 53 2 ayw9 nyw9 cyw9 Hyw9 ws w from hs.at_ 1 rfl).1) (fun lenn20 => ?_)
          refine rKnow (fun w hs => (show OwnR maK 53 2 ayv9 nyv9 cyv9 Hyv9 vs w from hs.at_ 2 rfl).1) (fun lenn21 => ?_)
          refine callP (v := .bool true) Try.call14 (fun _ h => h.pick [8, 19]) rfl rfl (fun w hs => laws_eqGame_c _ ny5 cy5 _ _ _ nyw5 cyw5 _ _ _ nyv5 cyv5 _ _ _ ny9 cy9 _ _ _ nyw9 cyw9 _ _ _ nyv9 cyv9 _ _ w (OwnR.rd (hs.at_ 9 rfl) ndK.ok) (OwnR.rd (hs.at_ 10 rfl) maK.ok) (OwnR.rd (hs.at_ 11 rfl) maK.ok) (OwnR.rd (hs.at_ 0 rfl) ndK.ok) (OwnR.rd (hs.at_ 1 rfl) maK.ok) (OwnR.rd (hs.at_ 2 rfl) maK.ok) (by exact ⟨rfl, rfl, rfl⟩)) ?_
          refine not rfl rfl rfl ?_
          refine rNil ?_
          refine qSeq rfl ?_
          refine hIfF rfl ?_
          refine hSkip ?_
          refine qSeq rfl ?_
          refine hSeq ?_
          refine hSeq ?_
          refine hDraw (Ls := [blk bka15 40 [.int .i64 pl, .slice ay6 ny6 cy6], blk bkb2 29 [.int .i64 pl, .slice aps nps cps]]) (by kernel_rfl) (sq 0 (sq 1 (sl 2 (sl 3 (sq 4 sz))))) (by kernel_rfl) (.cons _ (.cons _ (.cons _ (.cons _ (.cons _ (.cons _ (.cons_cons _ (.cons _ (.cons _ (.cons _ (.cons _ (.cons _ (.cons _ (.cons _ (.cons _ (.cons _ (.cons _ (.cons _ (.cons _ (.cons_cons _ (.cons _ .slnil))))))))))))))))))))) ?_
          refine ldAq Try.isAgg40 Try.sizeOf40 (cBs 0 rfl) rfl rfl rfl rfl ?_
          refine ldAq Try.isAgg29 Try.sizeOf29 (cBs 1 rfl) rfl rfl rfl rfl ?_
          refine callS Try.call12 (by exact (fun _ _ h => h.pick [7, 19])) rfl rfl (fun w hs => laws_toStrategy_c _ _ nps cps _ _ w (Kn.drop (k := 21) kps w hs) (by first | assumption | omega)) ?_
          rintro ⟨ay10, ny10, cy10, Hy10, y10⟩ hr10
          dsimp only at hr10
          subst y10
          refine rPieces (L' := [OwnR maK 53 2 ay10 ny10 cy10 Hy10 ps, OwnR ndK 88 2 ay9 ny9 cy9 Hy9 z, OwnR maK 53 2 ayw9 nyw9 cyw9 Hyw9 ws, OwnR maK 53 2 ayv9 nyv9 cyv9 Hyv9 vs, OwnI 2 ay8 ny8 cy8 ((((Math.endsAt z ws vs pl ps ql qs).1))), blk bka17 40 [.int .i64 ql, .slice ay7 ny7 cy7], OwnR maK 53 2 ay7 ny7 cy7 Hy7 qs, blk bka15 40 [.int .i64 pl, .slice ay6 ny6 cy6], OwnR maK 53 2 ay6 ny6 cy6 Hy6 ps, blk bka13 38 [.slice ay5 ny5 cy5, .slice ayw5 nyw5 cyw5, .slice ayv5 nyv5 cyv5], OwnR ndK 88 2 ay5 ny5 cy5 Hy5 z, OwnR maK 53 2 ayw5 nyw5 cyw5 Hyw5 ws, OwnR maK 53 2 ayv5 nyv5 cyv5 Hyv5 vs, OwnI 2 ay4 ny4 cy4 ((((Math.endsAt z ws vs pl ps ql qs).1))), OwnR maK 53 2 ay3 ny3 cy3 Hy3 qs, OwnR maK 53 2 ay2 ny2 cy2 Hy2 ps, OwnR ndK 88 2 ay1 ny1 cy1 Hy1 z, OwnR maK 53 2 ayw1 nyw1 cyw1 Hyw1 ws, OwnR maK 53 2 ayv1 nyv1 cyv1 Hyv1 vs, blk bkb3 29 [.int .i64 ql, .slice aqs nqs cqs], blk bkb2 29 [.int .i64 pl, .slice aps nps cps], blk bkb1 27 [.slice az nz cz, .slice aws nws cws, .slice avs nvs cvs]]) (fun _ h => h) ?_
          refine rKnow (fun w hs => (show OwnR maK 53 2 ay10 ny10 cy10 Hy10 ps w from hs.at_ 0 rfl).1) (fun lenn22 => ?_)
          refine callP (v := .bool true) Try.call15 (fun _ h => h.pick [7, 19]) rfl rfl (fun w hs => laws_eqStrategy_c _ _ ny6 cy6 _ _ _ _ ny10 cy10 _ _ w (OwnR.rd (hs.at_ 8 rfl) maK.ok) (OwnR.rd (hs.at_ 0 rfl) maK.ok) (by exact ⟨rfl, rfl⟩)) ?_
          refine not rfl rfl rfl ?_
          refine rNil ?_
          refine qSeq rfl ?_
          refine hIfF rfl ?_
          refine hSkip ?_
          refine qSeq rfl ?_
          refine hSeq ?_
          refine hSeq ?_
          refine hDraw (Ls := [blk bka17 40 [.int .i64 ql, .slice ay7 ny7 cy7], blk bkb3 29 [.int .i64 ql, .slice aqs nqs cqs]]) (by kernel_rfl) (sq 0 (sq 1 (sl 2 (sl 3 (sq 4 sz))))) (by kernel_rfl) (.cons _ (.cons _ (.cons _ (.cons _ (.cons _ (.cons_cons _ (.cons _ (.cons _ (.cons _ (.cons _ (.cons _ (.cons _ (.cons _ (.cons _ (.cons _ (.cons _ (.cons _ (.cons _ (.cons _ (.cons_cons _ (.cons _ (.cons _ .slnil)))))))))))))))))))))) ?_
          refine ldAq Try.isAgg40 Try.sizeOf40 (cBs 0 rfl) rfl rfl rfl rfl ?_
          refine ldAq Try.isAgg29 Try.sizeOf29 (cBs 1 rfl) rfl rfl rfl rfl ?_
          refine callS Try.call12 (by exact (fun _ _ h => h.pick [6, 19])) rfl rfl (fun w hs => laws_toStrategy_c _ _ nqs cqs _ _ w (Kn.drop (k := 22) kqs w hs) (by first | assumption | omega)) ?_
          rintro ⟨ay11, ny11, cy11, Hy11, y11⟩ hr11
          dsimp only at hr11
          subst y11
          refine rPieces (L' := [OwnR maK 53 2 ay11 ny11 cy11 Hy11 qs, OwnR maK 53 2 ay10 ny10 cy10 Hy10 ps, OwnR ndK 88 2 ay9 ny9 cy9 Hy9 z, OwnR maK 53 2 ayw9 nyw9 cyw9 Hyw9 ws, OwnR maK 53 2 ayv9 nyv9 cyv9 Hyv9 vs, OwnI 2 ay8 ny8 cy8 ((((Math.endsAt z ws vs pl ps ql qs).1))), blk bka17 40 [.int .i64 ql, .slice ay7 ny7 cy7], OwnR maK 53 2 ay7 ny7 cy7 Hy7 qs, blk bka15 40 [.int .i64 pl, .slice ay6 ny6 cy6], OwnR maK 53 2 ay6 ny6 cy6 Hy6 ps, blk bka13 38 [.slice ay5 ny5 cy5, .slice ayw5 nyw5 cyw5, .slice ayv5 nyv5 cyv5], OwnR ndK 88 2 ay5 ny5 cy5 Hy5 z, OwnR maK 53 2 ayw5 nyw5 cyw5 Hyw5 ws, OwnR maK 53 2 ayv5 nyv5 cyv5 Hyv5 vs, OwnI 2 ay4 ny4 cy4 ((((Math.endsAt z ws vs pl ps ql qs).1))), OwnR maK 53 2 ay3 ny3 cy3 Hy3 qs, OwnR maK 53 2 ay2 ny2 cy2 Hy2 ps, OwnR ndK 88 2 ay1 ny1 cy1 Hy1 z, OwnR maK 53 2 ayw1 nyw1 cyw1 Hyw1 ws, OwnR maK 53 2 ayv1 nyv1 cyv1 Hyv1 vs, blk bkb3 29 [.int .i64 ql, .slice aqs nqs cqs], blk bkb2 29 [.int .i64 pl, .slice aps nps cps], blk bkb1 27 [.slice az nz cz, .slice aws nws cws, .slice avs nvs cvs]]) (fun _ h => h) ?_
          refine rKnow (fun w hs => (show OwnR maK 53 2 ay11 ny11 cy11 Hy11 qs w from hs.at_ 0 rfl).1) (fun lenn23 => ?_)
          refine callP (v := .bool true) Try.call15 (fun _ h => h.pick [6, 19]) rfl rfl (fun w hs => laws_eqStrategy_c _ _ ny7 cy7 _ _ _ _ ny11 cy11 _ _ w (OwnR.rd (hs.at_ 7 rfl) maK.ok) (OwnR.rd (hs.at_ 0 rfl) maK.ok) (by exact ⟨rfl, rfl⟩)) ?_
          refine not rfl rfl rfl ?_
          refine rNil ?_
          refine qSeq rfl ?_
          refine hIfF rfl ?_
          refine hSkip ?_
          refine qSeq rfl ?_
          refine hSeq ?_
          refine hReg (sq 0 sz) (by kernel_rfl) ?_
          refine asI rfl rfl rfl ?_
          refine rNil ?_
          refine qSeq rfl ?_
          refine hSeq ?_
          refine hReg (sl 0 (sq 1 (sl 2 (sq 3 sz)))) (by kernel_rfl) ?_
          refine ldAl Try.isAgg38 Try.sizeOf38 (cBs 10 rfl) trv rfl rfl rfl rfl ?_
          refine mvI rfl rfl rfl ?_
          refine rPieces (L' := [OwnR maK 53 2 ayv5 nyv5 cyv5 Hyv5 vs, OwnR maK 53 2 ay11 ny11 cy11 Hy11 qs, OwnR maK 53 2 ay10 ny10 cy10 Hy10 ps, OwnR ndK 88 2 ay9 ny9 cy9 Hy9 z, OwnR maK 53 2 ayw9 nyw9 cyw9 Hyw9 ws, OwnR maK 53 2 ayv9 nyv9 cyv9 Hyv9 vs, OwnI 2 ay8 ny8 cy8 ((((Math.endsAt z ws vs pl ps ql qs).1))), blk bka17 40 [.int .i64 ql, .slice ay7 ny7 cy7], OwnR maK 53 2 ay7 ny7 cy7 Hy7 qs, blk bka15 40 [.int .i64 pl, .slice ay6 ny6 cy6], OwnR maK 53 2 ay6 ny6 cy6 Hy6 ps, blk bka13 38 [.slice ay5 ny5 cy5, .slice ayw5 nyw5 cyw5, .slice ayv5 nyv5 cyv5], OwnR ndK 88 2 ay5 ny5 cy5 Hy5 z, OwnR maK 53 2 ayw5 nyw5 cyw5 Hyw5 ws, OwnI 2 ay4 ny4 cy4 ((((Math.endsAt z ws vs pl ps ql qs).1))), OwnR maK 53 2 ay3 ny3 cy3 Hy3 qs, OwnR maK 53 2 ay2 ny2 cy2 Hy2 ps, OwnR ndK 88 2 ay1 ny1 cy1 Hy1 z, OwnR maK 53 2 ayw1 nyw1 cyw1 Hyw1 ws, OwnR maK 53 2 ayv1 nyv1 cyv1 Hyv1 vs, blk bkb3 29 [.int .i64 ql, .slice aqs nqs cqs], blk bkb2 29 [.int .i64 pl, .slice aps nps cps], blk bkb1 27 [.slice az nz cz, .slice aws nws cws, .slice avs nvs cvs]]) (fun _ h => h.perm (pull (i := 13) rfl)) ?_
          refine rPieces (L' := [OwnR maK 53 2 ayw5 nyw5 cyw5 Hyw5 ws, OwnR maK 53 2 ayv5 nyv5 cyv5 Hyv5 vs, OwnR maK 53 2 ay11 ny11 cy11 Hy11 qs, OwnR maK 53 2 ay10 ny10 cy10 Hy10 ps, OwnR ndK 88 2 ay9 ny9 cy9 Hy9 z, OwnR maK 53 2 ayw9 nyw9 cyw9 Hyw9 ws, OwnR maK 53 2 ayv9 nyv9 cyv9 Hyv9 vs, OwnI 2 ay8 ny8 cy8 ((((Math.endsAt z ws vs pl ps ql qs).1))), blk bka17 40 [.int .i64 ql, .slice ay7 ny7 cy7], OwnR maK 53 2 ay7 ny7 cy7 Hy7 qs, blk bka15 40 [.int .i64 pl, .slice ay6 ny6 cy6], OwnR maK 53 2 ay6 ny6 cy6 Hy6 ps, blk bka13 38 [.slice ay5 ny5 cy5, .slice ayw5 nyw5 cyw5, .slice ayv5 nyv5 cyv5], OwnR ndK 88 2 ay5 ny5 cy5 Hy5 z, OwnI 2 ay4 ny4 cy4 ((((Math.endsAt z ws vs pl ps ql qs).1))), OwnR maK 53 2 ay3 ny3 cy3 Hy3 qs, OwnR maK 53 2 ay2 ny2 cy2 Hy2 ps, OwnR ndK 88 2 ay1 ny1 cy1 Hy1 z, OwnR maK 53 2 ayw1 nyw1 cyw1 Hyw1 ws, OwnR maK 53 2 ayv1 nyv1 cyv1 Hyv1 vs, blk bkb3 29 [.int .i64 ql, .slice aqs nqs cqs], blk bkb2 29 [.int .i64 pl, .slice aps nps cps], blk bkb1 27 [.slice az nz cz, .slice aws nws cws, .slice avs nvs cvs]]) (fun _ h => h.perm (pull (i := 13) rfl)) ?_
          refine rPieces (L' := [OwnR ndK 88 2 ay5 ny5 cy5 Hy5 z, OwnR maK 53 2 ayw5 nyw5 cyw5 Hyw5 ws, OwnR maK 53 2 ayv5 nyv5 cyv5 Hyv5 vs, OwnR maK 53 2 ay11 ny11 cy11 Hy11 qs, OwnR maK 53 2 ay10 ny10 cy10 Hy10 ps, OwnR ndK 88 2 ay9 ny9 cy9 Hy9 z, OwnR maK 53 2 ayw9 nyw9 cyw9 Hyw9 ws, OwnR maK 53 2 ayv9 nyv9 cyv9 Hyv9 vs, OwnI 2 ay8 ny8 cy8 ((((Math.endsAt z ws vs pl ps ql qs).1))), blk bka17 40 [.int .i64 ql, .slice ay7 ny7 cy7], OwnR maK 53 2 ay7 ny7 cy7 Hy7 qs, blk bka15 40 [.int .i64 pl, .slice ay6 ny6 cy6], OwnR maK 53 2 ay6 ny6 cy6 Hy6 ps, blk bka13 38 [.slice ay5 ny5 cy5, .slice ayw5 nyw5 cyw5, .slice ayv5 nyv5 cyv5], OwnI 2 ay4 ny4 cy4 ((((Math.endsAt z ws vs pl ps ql qs).1))), OwnR maK 53 2 ay3 ny3 cy3 Hy3 qs, OwnR maK 53 2 ay2 ny2 cy2 Hy2 ps, OwnR ndK 88 2 ay1 ny1 cy1 Hy1 z, OwnR maK 53 2 ayw1 nyw1 cyw1 Hyw1 ws, OwnR maK 53 2 ayv1 nyv1 cyv1 Hyv1 vs, blk bkb3 29 [.int .i64 ql, .slice aqs nqs cqs], blk bkb2 29 [.int .i64 pl, .slice aps nps cps], blk bkb1 27 [.slice az nz cz, .slice aws nws cws, .slice avs nvs cvs]]) (fun _ h => h.perm (pull (i := 13) rfl)) ?_
          refine callM (Lf := [OwnR ndK 88 2 ay5 ny5 cy5 Hy5 z, OwnR maK 53 2 ayw5 nyw5 cyw5 Hyw5 ws, OwnR maK 53 2 ayv5 nyv5 cyv5 Hyv5 vs]) (Lr := [OwnR maK 53 2 ay11 ny11 cy11 Hy11 qs, OwnR maK 53 2 ay10 ny10 cy10 Hy10 ps, OwnR ndK 88 2 ay9 ny9 cy9 Hy9 z, OwnR maK 53 2 ayw9 nyw9 cyw9 Hyw9 ws, OwnR maK 53 2 ayv9 nyv9 cyv9 Hyv9 vs, OwnI 2 ay8 ny8 cy8 ((((Math.endsAt z ws vs pl ps ql qs).1))), blk bka17 40 [.int .i64 ql, .slice ay7 ny7 cy7], OwnR maK 53 2 ay7 ny7 cy7 Hy7 qs, blk bka15 40 [.int .i64 pl, .slice ay6 ny6 cy6], OwnR maK 53 2 ay6 ny6 cy6 Hy6 ps, blk bka13 38 [.slice ay5 ny5 cy5, .slice ayw5 nyw5 cyw5, .slice ayv5 nyv5 cyv5], OwnI 2 ay4 ny4 cy4 ((((Math.endsAt z ws vs pl ps ql qs).1))), OwnR maK 53 2 ay3 ny3 cy3 Hy3 qs, OwnR maK 53 2 ay2 ny2 cy2 Hy2 ps, OwnR ndK 88 2 ay1 ny1 cy1 Hy1 z, OwnR maK 53 2 ayw1 nyw1 cyw1 Hyw1 ws, OwnR maK 53 2 ayv1 nyv1 cyv1 Hyv1 vs, blk bkb3 29 [.int .i64 ql, .slice aqs nqs cqs], blk bkb2 29 [.int .i64 pl, .slice aps nps cps], blk bkb1 27 [.slice az nz cz, .slice aws nws cws, .slice avs nvs cvs]]) (φs := fun _ => [OwnR ndK 88 2 ay5 ny5 cy5 Hy5 ((Math.marksN (1 : Int) z)), OwnR maK 53 2 ayw5 nyw5 cyw5 Hyw5 ((Math.marksM ((1 : Int) + (Math.sumK Math.f4 z : Int)) ws)), OwnR maK 53 2 ayv5 nyv5 cyv5 Hyv5 ((Math.marksM (((1 : Int) + (Math.sumK Math.f4 z : Int)) + (Math.sumK Math.rwl ws : Int)) vs))]) (val := fun _ => .int .i64 (((((1 : Int) + (Math.sumK Math.f4 z : Int)) + (Math.sumK Math.rwl ws : Int)) + (Math.sumK Math.rwl vs : Int)))) rfl Try.call20 trv1 rfl rfl (fun w M0 hs => laws_markGame_c ay5 ny5 cy5 Hy5 z ayw5 nyw5 cyw5 Hyw5 ws ayv5 nyv5 cyv5 Hyv5 vs (1 : Int) w M0 hs (by omega)) ?_
          rintro _ -
          refine rPieces (L' := [OwnR ndK 88 2 ay5 ny5 cy5 Hy5 ((Math.marksN (1 : Int) z)), OwnR maK 53 2 ayw5 nyw5 cyw5 Hyw5 ((Math.marksM ((1 : Int) + (Math.sumK Math.f4 z : Int)) ws)), OwnR maK 53 2 ayv5 nyv5 cyv5 Hyv5 ((Math.marksM (((1 : Int) + (Math.sumK Math.f4 z : Int)) + (Math.sumK Math.rwl ws : Int)) vs)), OwnR maK 53 2 ay11 ny11 cy11 Hy11 qs, OwnR maK 53 2 ay10 ny10 cy10 Hy10 ps, OwnR ndK 88 2 ay9 ny9 cy9 Hy9 z, OwnR maK 53 2 ayw9 nyw9 cyw9 Hyw9 ws, OwnR maK 53 2 ayv9 nyv9 cyv9 Hyv9 vs, OwnI 2 ay8 ny8 cy8 ((((Math.endsAt z ws vs pl ps ql qs).1))), blk bka17 40 [.int .i64 ql, .slice ay7 ny7 cy7], OwnR maK 53 2 ay7 ny7 cy7 Hy7 qs, blk bka15 40 [.int .i64 pl, .slice ay6 ny6 cy6], OwnR maK 53 2 ay6 ny6 cy6 Hy6 ps, blk bka13 38 [.slice ay5 ny5 cy5, .slice ayw5 nyw5 cyw5, .slice ayv5 nyv5 cyv5], OwnI 2 ay4 ny4 cy4 ((((Math.endsAt z ws vs pl ps ql qs).1))), OwnR maK 53 2 ay3 ny3 cy3 Hy3 qs, OwnR maK 53 2 ay2 ny2 cy2 Hy2 ps, OwnR ndK 88 2 ay1 ny1 cy1 Hy1 z, OwnR maK 53 2 ayw1 nyw1 cyw1 Hyw1 ws, OwnR maK 53 2 ayv1 nyv1 cyv1 Hyv1 vs, blk bkb3 29 [.int .i64 ql, .slice aqs nqs cqs], blk bkb2 29 [.int .i64 pl, .slice aps nps cps], blk bkb1 27 [.slice az nz cz, .slice aws nws cws, .slice avs nvs cvs]]) (fun _ h => h) ?_
          refine asI rfl rfl rfl ?_
          refine rNil ?_
          refine qSeq rfl ?_
          refine hSeq ?_
          refine hReg (sl 0 (sq 1 (sl 2 (sq 3 sz)))) (by kernel_rfl) ?_
          refine ldAl Try.isAgg40 Try.sizeOf40 (cBs 11 rfl) trv rfl rfl rfl rfl ?_
          refine mvI rfl rfl rfl ?_
          refine rPieces (L' := [OwnR maK 53 2 ay6 ny6 cy6 Hy6 ps, OwnR ndK 88 2 ay5 ny5 cy5 Hy5 ((Math.marksN (1 : Int) z)), OwnR maK 53 2 ayw5 nyw5 cyw5 Hyw5 ((Math.marksM ((1 : Int) + (Math.sumK Math.f4 z : Int)) ws)), OwnR maK 53 2 ayv5 nyv5 cyv5 Hyv5 ((Math.marksM (((1 : Int) + (Math.sumK Math.f4 z : Int)) + (Math.sumK Math.rwl ws : Int)) vs)), OwnR maK 53 2 ay11 ny11 cy11 Hy11 qs, OwnR maK 53 2 ay10 ny10 cy10 Hy10 ps, OwnR ndK 88 2 ay9 ny9 cy9 Hy9 z, OwnR maK 53 2 ayw9 nyw9 cyw9 Hyw9 ws, OwnR maK 53 2 ayv9 nyv9 cyv9 Hyv9 vs, OwnI 2 ay8 ny8 cy8 ((((Math.endsAt z ws vs pl ps ql qs).1))), blk bka17 40 [.int .i64 ql, .slice ay7 ny7 cy7], OwnR maK 53 2 ay7 ny7 cy7 Hy7 qs, blk bka15 40 [.int .i64 pl, .slice ay6 ny6 cy6], blk bka13 38 [.slice ay5 ny5 cy5, .slice ayw5 nyw5 cyw5, .slice ayv5 nyv5 cyv5], OwnI 2 ay4 ny4 cy4 ((((Math.endsAt z ws vs pl ps ql qs).1))), OwnR maK 53 2 ay3 ny3 cy3 Hy3 qs, OwnR maK 53 2 ay2 ny2 cy2 Hy2 ps, OwnR ndK 88 2 ay1 ny1 cy1 Hy1 z, OwnR maK 53 2 ayw1 nyw1 cyw1 Hyw1 ws, OwnR maK 53 2 ayv1 nyv1 cyv1 Hyv1 vs, blk bkb3 29 [.int .i64 ql, .slice aqs nqs cqs], blk bkb2 29 [.int .i64 pl, .slice aps nps cps], blk bkb1 27 [.slice az nz cz, .slice aws nws cws, .slice avs nvs cvs]]) (fun _ h => h.perm (pull (i := 12) rfl)) ?_
          refine callM (Lf := [OwnR maK 53 2 ay6 ny6 cy6 Hy6 ps]) (Lr := [OwnR ndK 88 2 ay5 ny5 cy5 Hy5 ((Math.marksN (1 : Int) z)), OwnR maK 53 2 ayw5 nyw5 cyw5 Hyw5 ((Math.marksM ((1 : Int) + (Math.sumK Math.f4 z : Int)) ws)), OwnR maK 53 2 ayv5 nyv5 cyv5 Hyv5 ((Math.marksM (((1 : Int) + (Math.sumK Math.f4 z : Int)) + (Math.sumK Math.rwl ws : Int)) vs)), OwnR maK 53 2 ay11 ny11 cy11 Hy11 qs, OwnR maK 53 2 ay10 ny10 cy10 Hy10 ps, OwnR ndK 88 2 ay9 ny9 cy9 Hy9 z, OwnR maK 53 2 ayw9 nyw9 cyw9 Hyw9 ws, OwnR maK 53 2 ayv9 nyv9 cyv9 Hyv9 vs, OwnI 2 ay8 ny8 cy8 ((((Math.endsAt z ws vs pl ps ql qs).1))), blk bka17 40 [.int .i64 ql, .slice ay7 ny7 cy7], OwnR maK 53 2 ay7 ny7 cy7 Hy7 qs, blk bka15 40 [.int .i64 pl, .slice ay6 ny6 cy6], blk bka13 38 [.slice ay5 ny5 cy5, .slice ayw5 nyw5 cyw5, .slice ayv5 nyv5 cyv5], OwnI 2 ay4 ny4 cy4 ((((Math.endsAt z ws vs pl ps ql qs).1))), OwnR maK 53 2 ay3 ny3 cy3 Hy3 qs, OwnR maK 53 2 ay2 ny2 cy2 Hy2 ps, OwnR ndK 88 2 ay1 ny1 cy1 Hy1 z, OwnR maK 53 2 ayw1 nyw1 cyw1 Hyw1 ws, OwnR maK 53 2 ayv1 nyv1 cyv1 Hyv1 vs, blk bkb3 29 [.int .i64 ql, .slice aqs nqs cqs], blk bkb2 29 [.int .i64 pl, .slice aps nps cps], blk bkb1 27 [.slice az nz cz, .slice aws nws cws, .slice avs nvs cvs]]) (φs := fun _ => [OwnR maK 53 2 ay6 ny6 cy6 Hy6 ((Math.marksM (((((1 : Int) + (Math.sumK Math.f4 z : Int)) + (Math.sumK Math.rwl ws : Int)) + (Math.sumK Math.rwl vs : Int))) ps))]) (val := fun _ => .int .i64 (((((((1 : Int) + (Math.sumK Math.f4 z : Int)) + (Math.sumK Math.rwl ws : Int)) + (Math.sumK Math.rwl vs : Int))) + (Math.sumK Math.rwl ps : Int)))) rfl Try.call21 trv1 rfl rfl (fun w M0 hs => laws_markStrategy_c pl ay6 ny6 cy6 Hy6 ps (((((1 : Int) + (Math.sumK Math.f4 z : Int)) + (Math.sumK Math.rwl ws : Int)) + (Math.sumK Math.rwl vs : Int))) w M0 hs (by omega)) ?_
          rintro _ -
          refine rPieces (L' := [OwnR maK 53 2 ay6 ny6 cy6 Hy6 ((Math.marksM (((((1 : Int) + (Math.sumK Math.f4 z : Int)) + (Math.sumK Math.rwl ws : Int)) + (Math.sumK Math.rwl vs : Int))) ps)), OwnR ndK 88 2 ay5 ny5 cy5 Hy5 ((Math.marksN (1 : Int) z)), OwnR maK 53 2 ayw5 nyw5 cyw5 Hyw5 ((Math.marksM ((1 : Int) + (Math.sumK Math.f4 z : Int)) ws)), OwnR maK 53 2 ayv5 nyv5 cyv5 Hyv5 ((Math.marksM (((1 : Int) + (Math.sumK Math.f4 z : Int)) + (Math.sumK Math.rwl ws : Int)) vs)), OwnR maK 53 2 ay11 ny11 cy11 Hy11 qs, OwnR maK 53 2 ay10 ny10 cy10 Hy10 ps, OwnR ndK 88 2 ay9 ny9 cy9 Hy9 z, OwnR maK 53 2 ayw9 nyw9 cyw9 Hyw9 ws, OwnR maK 53 2 ayv9 nyv9 cyv9 Hyv9 vs, OwnI 2 ay8 ny8 cy8 ((((Math.endsAt z ws vs pl ps ql qs).1))), blk bka17 40 [.int .i64 ql, .slice ay7 ny7 cy7], OwnR maK 53 2 ay7 ny7 cy7 Hy7 qs, blk bka15 40 [.int .i64 pl, .slice ay6 ny6 cy6], blk bka13 38 [.slice ay5 ny5 cy5, .slice ayw5 nyw5 cyw5, .slice ayv5 nyv5 cyv5], OwnI 2 ay4 ny4 cy4 ((((Math.endsAt z ws vs pl ps ql qs).1))), OwnR maK 53 2 ay3 ny3 cy3 Hy3 qs, OwnR maK 53 2 ay2 ny2 cy2 Hy2 ps, OwnR ndK 88 2 ay1 ny1 cy1 Hy1 z, OwnR maK 53 2 ayw1 nyw1 cyw1 Hyw1 ws, OwnR maK 53 2 ayv1 nyv1 cyv1 Hyv1 vs, blk bkb3 29 [.int .i64 ql, .slice aqs nqs cqs], blk bkb2 29 [.int .i64 pl, .slice aps nps cps], blk bkb1 27 [.slice az nz cz, .slice aws nws cws, .slice avs nvs cvs]]) (fun _ h => h) ?_
          refine asI rfl rfl rfl ?_
          refine rNil ?_
          refine qSeq rfl ?_
          refine hSeq ?_
          refine hReg (sl 0 (sq 1 (sl 2 (sq 3 sz)))) (by kernel_rfl) ?_
          refine ldAl Try.isAgg40 Try.sizeOf40 (cBs 10 rfl) trv rfl rfl rfl rfl ?_
          refine mvI rfl rfl rfl ?_
          refine rPieces (L' := [OwnR maK 53 2 ay7 ny7 cy7 Hy7 qs, OwnR maK 53 2 ay6 ny6 cy6 Hy6 ((Math.marksM (((((1 : Int) + (Math.sumK Math.f4 z : Int)) + (Math.sumK Math.rwl ws : Int)) + (Math.sumK Math.rwl vs : Int))) ps)), OwnR ndK 88 2 ay5 ny5 cy5 Hy5 ((Math.marksN (1 : Int) z)), OwnR maK 53 2 ayw5 nyw5 cyw5 Hyw5 ((Math.marksM ((1 : Int) + (Math.sumK Math.f4 z : Int)) ws)), OwnR maK 53 2 ayv5 nyv5 cyv5 Hyv5 ((Math.marksM (((1 : Int) + (Math.sumK Math.f4 z : Int)) + (Math.sumK Math.rwl ws : Int)) vs)), OwnR maK 53 2 ay11 ny11 cy11 Hy11 qs, OwnR maK 53 2 ay10 ny10 cy10 Hy10 ps, OwnR ndK 88 2 ay9 ny9 cy9 Hy9 z, OwnR maK 53 2 ayw9 nyw9 cyw9 Hyw9 ws, OwnR maK 53 2 ayv9 nyv9 cyv9 Hyv9 vs, OwnI 2 ay8 ny8 cy8 ((((Math.endsAt z ws vs pl ps ql qs).1))), blk bka17 40 [.int .i64 ql, .slice ay7 ny7 cy7], blk bka15 40 [.int .i64 pl, .slice ay6 ny6 cy6], blk bka13 38 [.slice ay5 ny5 cy5, .slice ayw5 nyw5 cyw5, .slice ayv5 nyv5 cyv5], OwnI 2 ay4 ny4 cy4 ((((Math.endsAt z ws vs pl ps ql qs).1))), OwnR maK 53 2 ay3 ny3 cy3 Hy3 qs, OwnR maK 53 2 ay2 ny2 cy2 Hy2 ps, OwnR ndK 88 2 ay1 ny1 cy1 Hy1 z, OwnR maK 53 2 ayw1 nyw1 cyw1 Hyw1 ws, OwnR maK 53 2 ayv1 nyv1 cyv1 Hyv1 vs, blk bkb3 29 [.int .i64 ql, .slice aqs nqs cqs], blk bkb2 29 [.int .i64 pl, .slice aps nps cps], blk bkb1 27 [.slice az nz cz, .slice aws nws cws, .slice avs nvs cvs]]) (fun _ h => h.perm (pull (i := 11) rfl)) ?_
          refine callM (Lf := [OwnR maK 53 2 ay7 ny7 cy7 Hy7 qs]) (Lr := [OwnR maK 53 2 ay6 ny6 cy6 Hy6 ((Math.marksM (((((1 : Int) + (Math.sumK Math.f4 z : Int)) + (Math.sumK Math.rwl ws : Int)) + (Math.sumK Math.rwl vs : Int))) ps)), OwnR ndK 88 2 ay5 ny5 cy5 Hy5 ((Math.marksN (1 : Int) z)), OwnR maK 53 2 ayw5 nyw5 cyw5 Hyw5 ((Math.marksM ((1 : Int) + (Math.sumK Math.f4 z : Int)) ws)), OwnR maK 53 2 ayv5 nyv5 cyv5 Hyv5 ((Math.marksM (((1 : Int) + (Math.sumK Math.f4 z : Int)) + (Math.sumK Math.rwl ws : Int)) vs)), OwnR maK 53 2 ay11 ny11 cy11 Hy11 qs, OwnR maK 53 2 ay10 ny10 cy10 Hy10 ps, OwnR ndK 88 2 ay9 ny9 cy9 Hy9 z, OwnR maK 53 2 ayw9 nyw9 cyw9 Hyw9 ws, OwnR maK 53 2 ayv9 nyv9 cyv9 Hyv9 vs, OwnI 2 ay8 ny8 cy8 ((((Math.endsAt z ws vs pl ps ql qs).1))), blk bka17 40 [.int .i64 ql, .slice ay7 ny7 cy7], blk bka15 40 [.int .i64 pl, .slice ay6 ny6 cy6], blk bka13 38 [.slice ay5 ny5 cy5, .slice ayw5 nyw5 cyw5, .slice ayv5 nyv5 cyv5], OwnI 2 ay4 ny4 cy4 ((((Math.endsAt z ws vs pl ps ql qs).1))), OwnR maK 53 2 ay3 ny3 cy3 Hy3 qs, OwnR maK 53 2 ay2 ny2 cy2 Hy2 ps, OwnR ndK 88 2 ay1 ny1 cy1 Hy1 z, OwnR maK 53 2 ayw1 nyw1 cyw1 Hyw1 ws, OwnR maK 53 2 ayv1 nyv1 cyv1 Hyv1 vs, blk bkb3 29 [.int .i64 ql, .slice aqs nqs cqs], blk bkb2 29 [.int .i64 pl, .slice aps nps cps], blk bkb1 27 [.slice az nz cz, .slice aws nws cws, .slice avs nvs cvs]]) (φs := fun _ => [OwnR maK 53 2 ay7 ny7 cy7 Hy7 ((Math.marksM (((((((1 : Int) + (Math.sumK Math.f4 z : Int)) + (Math.sumK Math.rwl ws : Int)) + (Math.sumK Math.rwl vs : Int))) + (Math.sumK Math.rwl ps : Int))) qs))]) (val := fun _ => .int .i64 (((((((((1 : Int) + (Math.sumK Math.f4 z : Int)) + (Math.sumK Math.rwl ws : Int)) + (Math.sumK Math.rwl vs : Int))) + (Math.sumK Math.rwl ps : Int))) + (Math.sumK Math.rwl qs : Int)))) rfl Try.call21 trv1 rfl rfl (fun w M0 hs => laws_markStrategy_c ql ay7 ny7 cy7 Hy7 qs (((((((1 : Int) + (Math.sumK Math.f4 z : Int)) + (Math.sumK Math.rwl ws : Int)) + (Math.sumK Math.rwl vs : Int))) + (Math.sumK Math.rwl ps : Int))) w M0 hs (by omega)) ?_
          rintro _ -
          refine rPieces (L' := [OwnR maK 53 2 ay7 ny7 cy7 Hy7 ((Math.marksM (((((((1 : Int) + (Math.sumK Math.f4 z : Int)) + (Math.sumK Math.rwl ws : Int)) + (Math.sumK Math.rwl vs : Int))) + (Math.sumK Math.rwl ps : Int))) qs)), OwnR maK 53 2 ay6 ny6 cy6 Hy6 ((Math.marksM (((((1 : Int) + (Math.sumK Math.f4 z : Int)) + (Math.sumK Math.rwl ws : Int)) + (Math.sumK Math.rwl vs : Int))) ps)), OwnR ndK 88 2 ay5 ny5 cy5 Hy5 ((Math.marksN (1 : Int) z)), OwnR maK 53 2 ayw5 nyw5 cyw5 Hyw5 ((Math.marksM ((1 : Int) + (Math.sumK Math.f4 z : Int)) ws)), OwnR maK 53 2 ayv5 nyv5 cyv5 Hyv5 ((Math.marksM (((1 : Int) + (Math.sumK Math.f4 z : Int)) + (Math.sumK Math.rwl ws : Int)) vs)), OwnR maK 53 2 ay11 ny11 cy11 Hy11 qs, OwnR maK 53 2 ay10 ny10 cy10 Hy10 ps, OwnR ndK 88 2 ay9 ny9 cy9 Hy9 z, OwnR maK 53 2 ayw9 nyw9 cyw9 Hyw9 ws, OwnR maK 53 2 ayv9 nyv9 cyv9 Hyv9 vs, OwnI 2 ay8 ny8 cy8 ((((Math.endsAt z ws vs pl ps ql qs).1))), blk bka17 40 [.int .i64 ql, .slice ay7 ny7 cy7], blk bka15 40 [.int .i64 pl, .slice ay6 ny6 cy6], blk bka13 38 [.slice ay5 ny5 cy5, .slice ayw5 nyw5 cyw5, .slice ayv5 nyv5 cyv5], OwnI 2 ay4 ny4 cy4 ((((Math.endsAt z ws vs pl ps ql qs).1))), OwnR maK 53 2 ay3 ny3 cy3 Hy3 qs, OwnR maK 53 2 ay2 ny2 cy2 Hy2 ps, OwnR ndK 88 2 ay1 ny1 cy1 Hy1 z, OwnR maK 53 2 ayw1 nyw1 cyw1 Hyw1 ws, OwnR maK 53 2 ayv1 nyv1 cyv1 Hyv1 vs, blk bkb3 29 [.int .i64 ql, .slice aqs nqs cqs], blk bkb2 29 [.int .i64 pl, .slice aps nps cps], blk bkb1 27 [.slice az nz cz, .slice aws nws cws, .slice avs nvs cvs]]) (fun _ h => h) ?_
          refine asI rfl rfl rfl ?_
          refine rNil ?_
          refine qSeq rfl ?_
          refine hSeq ?_
          refine hSeq ?_
          refine hReg (sq 0 (sq 1 (sq 2 (sq 3 (sq 4 (sl 5 (sq 6 (sq 7 (sq 8 (sq 9 (sq 10 (sq 11 (sq 12 sz))))))))))))) (by kernel_rfl) ?_
          refine mvI rfl rfl rfl ?_
          refine lss rfl rfl rfl rfl ?_
          refine mvB rfl rfl rfl ?_
          refine rBoolD (d := 93) rfl (fun g5 => ?_) (fun g5 => ?_)
          · -- g5T
            replace g5 : ((((((((1 : Int) + (Math.sumK Math.f4 z : Int)) + (Math.sumK Math.rwl ws : Int)) + (Math.sumK Math.rwl vs : Int))) + (Math.sumK Math.rwl ps : Int))) + (Math.sumK Math.rwl qs : Int)) < 0 := g5
            refine rSkipQ rfl rfl ?_
            refine rSkipQ rfl rfl ?_
            refine rSkipL trv rfl rfl ?_
            refine rSkipQ rfl rfl ?_
            refine pickB rfl rfl rfl rfl ?_
            refine mvB rfl rfl rfl ?_
            refine rSkipQ rfl rfl ?_
            refine rSkipQ rfl rfl ?_
            refine rSkipQ rfl rfl ?_
            refine pickB rfl rfl rfl rfl ?_
            refine rNil ?_
            refine qSeq rfl ?_
            refine hIfT rfl ?_
            refine hSeq ?_
            refine hReg (sq 0 sz) (by kernel_rfl) ?_
            refine asB rfl rfl rfl ?_
            refine rNil ?_
            refine qSeq rfl ?_
            refine hRet ?_
            exact fun w hs => ⟨[.bool false], ⟨rfl, trivial⟩, ⟨by exfalso; omega, hs.upd⟩⟩
          · -- g5F
            replace g5 : ¬ (((((((((1 : Int) + (Math.sumK Math.f4 z : Int)) + (Math.sumK Math.rwl ws : Int)) + (Math.sumK Math.rwl vs : Int))) + (Math.sumK Math.rwl ps : Int))) + (Math.sumK Math.rwl qs : Int)) < 0) := g5
            refine mvS rfl rfl rfl ?_
            refine mvS rfl rfl rfl ?_
            refine callP (v := .bool true) Try.call25 trv rfl rfl (fun w hs => laws_eqInt64S_c _ ny8 cy8 _ _ ny4 cy4 _ w (OwnI.rd (hs.at_ 10 rfl)) (OwnI.rd (hs.at_ 14 rfl)) (by first | rfl | assumption | (rw [heq]) | (simp only [*]))) ?_
            refine not rfl rfl rfl ?_
            refine pickB rfl rfl rfl rfl ?_
            refine mvB rfl rfl rfl ?_
            refine mvI rfl rfl rfl ?_
            refine mvI rfl rfl rfl ?_
            refine neq rfl rfl rfl rfl ?_
            refine pickB rfl rfl rfl rfl ?_
            refine rNil ?_
            refine qSeq rfl ?_
            refine hIfD rfl (fun c6 => ?_) (fun c6 => ?_)
            · -- c6T
              replace c6 : (((Math.endsAt z ws vs pl ps ql qs).2)) ≠ (((Math.endsAt z ws vs pl ps ql qs).2)) := c6
              exact absurd rfl c6
            · -- c6F
              replace c6 : ¬ ((((Math.endsAt z ws vs pl ps ql qs).2)) ≠ (((Math.endsAt z ws vs pl ps ql qs).2))) := c6
              refine hSkip ?_
              refine qSeq rfl ?_
              refine hSeq ?_
              refine hReg (sq 0 sz) (by kernel_rfl) ?_
              refine asI rfl rfl rfl ?_
              refine rNil ?_
              refine qSeq rfl ?_
              refine hSeq ?_
              refine hReg (sq 0 (sq 1 (sl 2 (sq 3 sz)))) (by kernel_rfl) ?_
              refine mvS rfl rfl rfl ?_
              refine mvI rfl rfl rfl ?_
              refine rPieces (L' := [OwnI 2 ay8 ny8 cy8 ((((Math.endsAt z ws vs pl ps ql qs).1))), OwnR maK 53 2 ay7 ny7 cy7 Hy7 ((Math.marksM (((((((1 : Int) + (Math.sumK Math.f4 z : Int)) + (Math.sumK Math.rwl ws : Int)) + (Math.sumK Math.rwl vs : Int))) + (Math.sumK Math.rwl ps : Int))) qs)), OwnR maK 53 2 ay6 ny6 cy6 Hy6 ((Math.marksM (((((1 : Int) + (Math.sumK Math.f4 z : Int)) + (Math.sumK Math.rwl ws : Int)) + (Math.sumK Math.rwl vs : Int))) ps)), OwnR ndK 88 2 ay5 ny5 cy5 Hy5 ((Math.marksN (1 : Int) z)), OwnR maK 53 2 ayw5 nyw5 cyw5 Hyw5 ((Math.marksM ((1 : Int) + (Math.sumK Math.f4 z : Int)) ws)), OwnR maK 53 2 ayv5 nyv5 cyv5 Hyv5 ((Math.marksM (((1 : Int) + (Math.sumK Math.f4 z : Int)) + (Math.sumK Math.rwl ws : Int)) vs)), OwnR maK 53 2 ay11 ny11 cy11 Hy11 qs, OwnR maK 53 2 ay10 ny10 cy10 Hy10 ps, OwnR ndK 88 2 ay9 ny9 cy9 Hy9 z, OwnR maK 53 2 ayw9 nyw9 cyw9 Hyw9 ws, OwnR maK 53 2 ayv9 nyv9 cyv9 Hyv9 vs, blk bka17 40 [.int .i64 ql, .slice ay7 ny7 cy7], blk bka15 40 [.int .i64 pl, .slice ay6 ny6 cy6], blk bka13 38 [.slice ay5 ny5 cy5, .slice ayw5 nyw5 cyw5, .slice ayv5 nyv5 cyv5], OwnI 2 ay4 ny4 cy4 ((((Math.endsAt z ws vs pl ps ql qs).1))), OwnR maK 53 2 ay3 ny3 cy3 Hy3 qs, OwnR maK 53 2 ay2 ny2 cy2 Hy2 ps, OwnR ndK 88 2 ay1 ny1 cy1 Hy1 z, OwnR maK 53 2 ayw1 nyw1 cyw1 Hyw1 ws, OwnR maK 53 2 ayv1 nyv1 cyv1 Hyv1 vs, blk bkb3 29 [.int .i64 ql, .slice aqs nqs cqs], blk bkb2 29 [.int .i64 pl, .slice aps nps cps], blk bkb1 27 [.slice az nz cz, .slice aws nws cws, .slice avs nvs cvs]]) (fun _ h => h.perm (pull (i := 10) rfl)) ?_
              refine callM (Lf := [OwnI 2 ay8 ny8 cy8 ((((Math.endsAt z ws vs pl ps ql qs).1)))]) (Lr := [OwnR maK 53 2 ay7 ny7 cy7 Hy7 ((Math.marksM (((((((1 : Int) + (Math.sumK Math.f4 z : Int)) + (Math.sumK Math.rwl ws : Int)) + (Math.sumK Math.rwl vs : Int))) + (Math.sumK Math.rwl ps : Int))) qs)), OwnR maK 53 2 ay6 ny6 cy6 Hy6 ((Math.marksM (((((1 : Int) + (Math.sumK Math.f4 z : Int)) + (Math.sumK Math.rwl ws : Int)) + (Math.sumK Math.rwl vs : Int))) ps)), OwnR ndK 88 2 ay5 ny5 cy5 Hy5 ((Math.marksN (1 : Int) z)), OwnR maK 53 2 ayw5 nyw5 cyw5 Hyw5 ((Math.marksM ((1 : Int) + (Math.sumK Math.f4 z : Int)) ws)), OwnR maK 53 2 ayv5 nyv5 cyv5 Hyv5 ((Math.marksM (((1 : Int) + (Math.sumK Math.f4 z : Int)) + (Math.sumK Math.rwl ws : Int)) vs)), OwnR maK 53 2 ay11 ny11 cy11 Hy11 qs, OwnR maK 53 2 ay10 ny10 cy10 Hy10 ps, OwnR ndK 88 2 ay9 ny9 cy9 Hy9 z, OwnR maK 53 2 ayw9 nyw9 cyw9 Hyw9 ws, OwnR maK 53 2 ayv9 nyv9 cyv9 Hyv9 vs, blk bka17 40 [.int .i64 ql, .slice ay7 ny7 cy7], blk bka15 40 [.int .i64 pl, .slice ay6 ny6 cy6], blk bka13 38 [.slice ay5 ny5 cy5, .slice ayw5 nyw5 cyw5, .slice ayv5 nyv5 cyv5], OwnI 2 ay4 ny4 cy4 ((((Math.endsAt z ws vs pl ps ql qs).1))), OwnR maK 53 2 ay3 ny3 cy3 Hy3 qs, OwnR maK 53 2 ay2 ny2 cy2 Hy2 ps, OwnR ndK 88 2 ay1 ny1 cy1 Hy1 z, OwnR maK 53 2 ayw1 nyw1 cyw1 Hyw1 ws, OwnR maK 53 2 ayv1 nyv1 cyv1 Hyv1 vs, blk bkb3 29 [.int .i64 ql, .slice aqs nqs cqs], blk bkb2 29 [.int .i64 pl, .slice aps nps cps], blk bkb1 27 [.slice az nz cz, .slice aws nws cws, .slice avs nvs cvs]]) (φs := fun _ => [OwnI 2 ay8 ny8 cy8 ((Math.seqL (1 : Int) ny8))]) (val := fun _ => .int .i64 (((1 : Int) + (ny8 : Int)))) rfl Try.call26 trv1 rfl rfl (fun w M0 hs => laws_markInt64S_c ay8 ny8 cy8 ((((Math.endsAt z ws vs pl ps ql qs).1))) (1 : Int) w M0 hs (by omega)) ?_
              rintro _ -
              refine rPieces (L' := [OwnI 2 ay8 ny8 cy8 ((Math.seqL (1 : Int) ny8)), OwnR maK 53 2 ay7 ny7 cy7 Hy7 ((Math.marksM (((((((1 : Int) + (Math.sumK Math.f4 z : Int)) + (Math.sumK Math.rwl ws : Int)) + (Math.sumK Math.rwl vs : Int))) + (Math.sumK Math.rwl ps : Int))) qs)), OwnR maK 53 2 ay6 ny6 cy6 Hy6 ((Math.marksM (((((1 : Int) + (Math.sumK Math.f4 z : Int)) + (Math.sumK Math.rwl ws : Int)) + (Math.sumK Math.rwl vs : Int))) ps)), OwnR ndK 88 2 ay5 ny5 cy5 Hy5 ((Math.marksN (1 : Int) z)), OwnR maK 53 2 ayw5 nyw5 cyw5 Hyw5 ((Math.marksM ((1 : Int) + (Math.sumK Math.f4 z : Int)) ws)), OwnR maK 53 2 ayv5 nyv5 cyv5 Hyv5 ((Math.marksM (((1 : Int) + (Math.sumK Math.f4 z : Int)) + (Math.sumK Math.rwl ws : Int)) vs)), OwnR maK 53 2 ay11 ny11 cy11 Hy11 qs, OwnR maK 53 2 ay10 ny10 cy10 Hy10 ps, OwnR ndK 88 2 ay9 ny9 cy9 Hy9 z, OwnR maK 53 2 ayw9 nyw9 cyw9 Hyw9 ws, OwnR maK 53 2 ayv9 nyv9 cyv9 Hyv9 vs, blk bka17 40 [.int .i64 ql, .slice ay7 ny7 cy7], blk bka15 40 [.int .i64 pl, .slice ay6 ny6 cy6], blk bka13 38 [.slice ay5 ny5 cy5, .slice ayw5 nyw5 cyw5, .slice ayv5 nyv5 cyv5], OwnI 2 ay4 ny4 cy4 ((((Math.endsAt z ws vs pl ps ql qs).1))), OwnR maK 53 2 ay3 ny3 cy3 Hy3 qs, OwnR maK 53 2 ay2 ny2 cy2 Hy2 ps, OwnR ndK 88 2 ay1 ny1 cy1 Hy1 z, OwnR maK 53 2 ayw1 nyw1 cyw1 Hyw1 ws, OwnR maK 53 2 ayv1 nyv1 cyv1 Hyv1 vs, blk bkb3 29 [.int .i64 ql, .slice aqs nqs cqs], blk bkb2 29 [.int .i64 pl, .slice aps nps cps], blk bkb1 27 [.slice az nz cz, .slice aws nws cws, .slice avs nvs cvs]]) (fun _ h => h) ?_
              refine asI rfl rfl rfl ?_
              refine rNil ?_
              refine qSeq rfl ?_
              refine hSeq ?_
              refine hReg (sq 0 sz) (by kernel_rfl) ?_
              refine asI rfl rfl rfl ?_
              refine rNil ?_
              refine qSeq rfl ?_
              refine hSeq ?_
              refine hReg (sq 0 (sq 1 (sl 2 (sq 3 sz)))) (by kernel_rfl) ?_
              refine mvS rfl rfl rfl ?_
              refine mvI rfl rfl rfl ?_
              refine callP (v := .int .i64 (((1 : Int) + (ny8 : Int)))) Try.call27 trv rfl rfl (fun w hs => laws_heldInt64S_c _ ny8 cy8 _ _ w (OwnI.rd (hs.at_ 0 rfl)) (by omega) (by first | rfl | assumption | (simp only [*]))) ?_
              refine asI rfl rfl rfl ?_
              refine rNil ?_
              refine qSeq rfl ?_
              refine hSeq ?_
              refine hSeq ?_
              refine hReg (sq 0 (sq 1 sz)) (by kernel_rfl) ?_
              refine mvI rfl rfl rfl ?_
              refine lss rfl rfl rfl rfl ?_
              refine rNil ?_
              refine qSeq rfl ?_
              refine hIfD rfl (fun c7 => ?_) (fun c7 => ?_)
              · -- c7T
                replace c7 : ((1 : Int) + (ny8 : Int)) < 0 := c7
                refine hSeq ?_
                refine hReg (sq 0 sz) (by kernel_rfl) ?_
                refine asB rfl rfl rfl ?_
                refine rNil ?_
                refine qSeq rfl ?_
                refine hRet ?_
                exact fun w hs => ⟨[.bool false], ⟨rfl, trivial⟩, ⟨by exfalso; omega, hs.upd⟩⟩
              · -- c7F
                replace c7 : ¬ (((1 : Int) + (ny8 : Int)) < 0) := c7
                refine hSkip ?_
                refine qSeq rfl ?_
                refine hSeq ?_
                refine hSeq ?_
                refine hReg (sq 0 (sq 1 (sq 2 sz))) (by kernel_rfl) ?_
                refine mvI rfl rfl rfl ?_
                refine mvI rfl rfl rfl ?_
                refine neq rfl rfl rfl rfl ?_
                refine rNil ?_
                refine qSeq rfl ?_
                refine hIfD rfl (fun c8 => ?_) (fun c8 => ?_)
                · -- c8T
                  replace c8 : ((1 : Int) + (ny8 : Int)) ≠ ((1 : Int) + (ny8 : Int)) := c8
                  exact absurd rfl c8
                · -- c8F
                  replace c8 : ¬ (((1 : Int) + (ny8 : Int)) ≠ ((1 : Int) + (ny8 : Int))) := c8
                  refine hSkip ?_
                  refine qSeq rfl ?_
                  refine hSeq ?_
                  refine hDraw (Ls := [blk bkb3 29 [.int .i64 ql, .slice aqs nqs cqs], blk bkb2 29 [.int .i64 pl, .slice aps nps cps], blk bkb1 27 [.slice az nz cz, .slice aws nws cws, .slice avs nvs cvs]]) (by kernel_rfl) (sq 0 (sq 2 (sq 4 (sl 1 (sl 3 (sl 5 (sl 6 (sq 7 (sq 8 (sq 9 (sq 10 (sq 11 sz)))))))))))) (by kernel_rfl) (.cons _ (.cons _ (.cons _ (.cons _ (.cons _ (.cons _ (.cons _ (.cons _ (.cons _ (.cons _ (.cons _ (.cons _ (.cons _ (.cons _ (.cons _ (.cons _ (.cons _ (.cons _ (.cons _ (.cons _ (.cons_cons _ (.cons_cons _ (.cons_cons _ .slnil))))))))))))))))))))))) ?_
                  refine ldAq Try.isAgg27 Try.sizeOf27 (cBs 2 rfl) rfl rfl rfl rfl ?_
                  refine ldAq Try.isAgg29 Try.sizeOf29 (cBs 1 rfl) rfl rfl rfl rfl ?_
                  refine ldAq Try.isAgg29 Try.sizeOf29 (cBs 0 rfl) rfl rfl rfl rfl ?_
                  refine callS Try.call11 (by exact (fun _ _ h => h.pick [23, 23, 23])) rfl rfl (fun w hs => laws_toGame_c _ nz cz _ _ _ nws cws _ _ _ nvs cvs _ _ w (Kn.drop (k := 23) kz w hs) (Kn.drop (k := 23) kws w hs) (Kn.drop (k := 23) kvs w hs) (by first | assumption | omega) (by first | assumption | omega) (by first | assumption | omega)) ?_
                  rintro ⟨ay12, ny12, cy12, Hy12, y12, ayw12, nyw12, cyw12, Hyw12, yw12, ayv12, nyv12, cyv12, Hyv12, yv12⟩ ⟨hr12a, hr12b, hr12c⟩
                  dsimp only at hr12a hr12b hr12c
                  subst y12
                  subst yw12
                  subst yv12
                  refine rPieces (L' := [OwnR ndK 88 2 ay12 ny12 cy12 Hy12 z, OwnR maK 53 2 ayw12 nyw12 cyw12 Hyw12 ws, OwnR maK 53 2 ayv12 nyv12 cyv12 Hyv12 vs, OwnI 2 ay8 ny8 cy8 ((Math.seqL (1 : Int) ny8)), OwnR maK 53 2 ay7 ny7 cy7 Hy7 ((Math.marksM (((((((1 : Int) + (Math.sumK Math.f4 z : Int)) + (Math.sumK Math.rwl ws : Int)) + (Math.sumK Math.rwl vs : Int))) + (Math.sumK Math.rwl ps : Int))) qs)), OwnR maK 53 2 ay6 ny6 cy6 Hy6 ((Math.marksM (((((1 : Int) + (Math.sumK Math.f4 z : Int)) + (Math.sumK Math.rwl ws : Int)) + (Math.sumK Math.rwl vs : Int))) ps)), OwnR ndK 88 2 ay5 ny5 cy5 Hy5 ((Math.marksN (1 : Int) z)), OwnR maK 53 2 ayw5 nyw5 cyw5 Hyw5 ((Math.marksM ((1 : Int) + (Math.sumK Math.f4 z : Int)) ws)), OwnR maK 53 2 ayv5 nyv5 cyv5 Hyv5 ((Math.marksM (((1 : Int) + (Math.sumK Math.f4 z : Int)) + (Math.sumK Math.rwl ws : Int)) vs)), OwnR maK 53 2 ay11 ny11 cy11 Hy11 qs, OwnR maK 53 2 ay10 ny10 cy10 Hy10 ps, OwnR ndK 88 2 ay9 ny9 cy9 Hy9 z, OwnR maK 53 2 ayw9 nyw9 cyw9 Hyw9 ws, OwnR maK 53 2 ayv9 nyv9 cyv9 Hyv9 vs, blk bka17 40 [.int .i64 ql, .slice ay7 ny7 cy7], blk bka15 40 [.int .i64 pl, .slice ay6 ny6 cy6], blk bka13 38 [.slice ay5 ny5 cy5, .slice ayw5 nyw5 cyw5, .slice ayv5 nyv5 cyv5], OwnI 2 ay4 ny4 cy4 ((((Math.endsAt z ws vs pl ps ql qs).1))), OwnR maK 53 2 ay3 ny3 cy3 Hy3 qs, OwnR maK 53 2 ay2 ny2 cy2 Hy2 ps, OwnR ndK 88 2 ay1 ny1 cy1 Hy1 z, OwnR maK 53 2 ayw1 nyw1 cyw1 Hyw1 ws, OwnR maK 53 2 ayv1 nyv1 cyv1 Hyv1 vs, blk bkb3 29 [.int .i64 ql, .slice aqs nqs cqs], blk bkb2 29 [.int .i64 pl, .slice aps nps cps], blk bkb1 27 [.slice az nz cz, .slice aws nws cws, .slice avs nvs cvs]]) (fun _ h => h) ?_
                  refine rKnow (fun w hs => (show OwnR ndK 88 2 ay12 ny12 cy12 Hy12 z w from hs.at_ 0 rfl).1) (fun lenn24 => ?_)
                  refine rKnow (fun w hs => (show OwnR maK 53 2 ayw12 nyw12 cyw12 Hyw12 ws w from hs.at_ 1 rfl).1) (fun lenn25 => ?_)
                  refine rKnow (fun w hs => (show OwnR maK 53 2 ayv12 nyv12 cyv12 Hyv12 vs w from hs.at_ 2 rfl).1) (fun lenn26 => ?_)
                  refine callS Try.call12 (by exact (fun _ _ h => h.pick [24, 24, 24])) rfl rfl (fun w hs => laws_toStrategy_c _ _ nps cps _ _ w (Kn.drop (k := 26) kps w hs) (by first | assumption | omega)) ?_
                  rintro ⟨ay13, ny13, cy13, Hy13, y13⟩ hr13
                  dsimp only at hr13
                  subst y13
                  refine rPieces (L' := [OwnR maK 53 2 ay13 ny13 cy13 Hy13 ps, OwnR ndK 88 2 ay12 ny12 cy12 Hy12 z, OwnR maK 53 2 ayw12 nyw12 cyw12 Hyw12 ws, OwnR maK 53 2 ayv12 nyv12 cyv12 Hyv12 vs, OwnI 2 ay8 ny8 cy8 ((Math.seqL (1 : Int) ny8)), OwnR maK 53 2 ay7 ny7 cy7 Hy7 ((Math.marksM (((((((1 : Int) + (Math.sumK Math.f4 z : Int)) + (Math.sumK Math.rwl ws : Int)) + (Math.sumK Math.rwl vs : Int))) + (Math.sumK Math.rwl ps : Int))) qs)), OwnR maK 53 2 ay6 ny6 cy6 Hy6 ((Math.marksM (((((1 : Int) + (Math.sumK Math.f4 z : Int)) + (Math.sumK Math.rwl ws : Int)) + (Math.sumK Math.rwl vs : Int))) ps)), OwnR ndK 88 2 ay5 ny5 cy5 Hy5 ((Math.marksN (1 : Int) z)), OwnR maK 53 2 ayw5 nyw5 cyw5 Hyw5 ((Math.marksM ((1 : Int) + (Math.sumK Math.f4 z : Int)) ws)), OwnR maK 53 2 ayv5 nyv5 cyv5 Hyv5 ((Math.marksM (((1 : Int) + (Math.sumK Math.f4 z : Int)) + (Math.sumK Math.rwl ws : Int)) vs)), OwnR maK 53 2 ay11 ny11 cy11 Hy11 qs, OwnR maK 53 2 ay10 ny10 cy10 Hy10 ps, OwnR ndK 88 2 ay9 ny9 cy9 Hy9 z, OwnR maK 53 2 ayw9 nyw9 cyw9 Hyw9 ws, OwnR maK 53 2 ayv9 nyv9 cyv9 Hyv9 vs, blk bka17 40 [.int .i64 ql, .slice ay7 ny7 cy7], blk bka15 40 [.int .i64 pl, .slice ay6 ny6 cy6], blk bka13 38 [.slice ay5 ny5 cy5, .slice ayw5 nyw5 cyw5, .slice ayv5 nyv5 cyv5], OwnI 2 ay4 ny4 cy4 ((((Math.endsAt z ws vs pl ps ql qs).1))), OwnR maK 53 2 ay3 ny3 cy3 Hy3 qs, OwnR maK 53 2 ay2 ny2 cy2 Hy2 ps, OwnR ndK 88 2 ay1 ny1 cy1 Hy1 z, OwnR maK 53 2 ayw1 nyw1 cyw1 Hyw1 ws, OwnR maK 53 2 ayv1 nyv1 cyv1 Hyv1 vs, blk bkb3 29 [.int .i64 ql, .slice aqs nqs cqs], blk bkb2 29 [.int .i64 pl, .slice aps nps cps], blk bkb1 27 [.slice az nz cz, .slice aws nws cws, .slice avs nvs cvs]]) (fun _ h => h) ?_
                  refine rKnow (fun w hs => (show OwnR maK 53 2 ay13 ny13 cy13 Hy13 ps w from hs.at_ 0 rfl).1) (fun lenn27 => ?_)
                  refine callS Try.call12 (by exact (fun _ _ h => h.pick [25, 25, 25])) rfl rfl (fun w hs => laws_toStrategy_c _ _ nqs cqs _ _ w (Kn.drop (k := 27) kqs w hs) (by first | assumption | omega)) ?_
                  rintro ⟨ay14, ny14, cy14, Hy14, y14⟩ hr14
                  dsimp only at hr14
                  subst y14
                  refine rPieces (L' := [OwnR maK 53 2 ay14 ny14 cy14 Hy14 qs, OwnR maK 53 2 ay13 ny13 cy13 Hy13 ps, OwnR ndK 88 2 ay12 ny12 cy12 Hy12 z, OwnR maK 53 2 ayw12 nyw12 cyw12 Hyw12 ws, OwnR maK 53 2 ayv12 nyv12 cyv12 Hyv12 vs, OwnI 2 ay8 ny8 cy8 ((Math.seqL (1 : Int) ny8)), OwnR maK 53 2 ay7 ny7 cy7 Hy7 ((Math.marksM (((((((1 : Int) + (Math.sumK Math.f4 z : Int)) + (Math.sumK Math.rwl ws : Int)) + (Math.sumK Math.rwl vs : Int))) + (Math.sumK Math.rwl ps : Int))) qs)), OwnR maK 53 2 ay6 ny6 cy6 Hy6 ((Math.marksM (((((1 : Int) + (Math.sumK Math.f4 z : Int)) + (Math.sumK Math.rwl ws : Int)) + (Math.sumK Math.rwl vs : Int))) ps)), OwnR ndK 88 2 ay5 ny5 cy5 Hy5 ((Math.marksN (1 : Int) z)), OwnR maK 53 2 ayw5 nyw5 cyw5 Hyw5 ((Math.marksM ((1 : Int) + (Math.sumK Math.f4 z : Int)) ws)), OwnR maK 53 2 ayv5 nyv5 cyv5 Hyv5 ((Math.marksM (((1 : Int) + (Math.sumK Math.f4 z : Int)) + (Math.sumK Math.rwl ws : Int)) vs)), OwnR maK 53 2 ay11 ny11 cy11 Hy11 qs, OwnR maK 53 2 ay10 ny10 cy10 Hy10 ps, OwnR ndK 88 2 ay9 ny9 cy9 Hy9 z, OwnR maK 53 2 ayw9 nyw9 cyw9 Hyw9 ws, OwnR maK 53 2 ayv9 nyv9 cyv9 Hyv9 vs, blk bka17 40 [.int .i64 ql, .slice ay7 ny7 cy7], blk bka15 40 [.int .i64 pl, .slice ay6 ny6 cy6], blk bka13 38 [.slice ay5 ny5 cy5, .slice ayw5 nyw5 cyw5, .slice ayv5 nyv5 cyv5], OwnI 2 ay4 ny4 cy4 ((((Math.endsAt z ws vs pl ps ql qs).1))), OwnR maK 53 2 ay3 ny3 cy3 Hy3 qs, OwnR maK 53 2 ay2 ny2 cy2 Hy2 ps, OwnR ndK 88 2 ay1 ny1 cy1 Hy1 z, OwnR maK 53 2 ayw1 nyw1 cyw1 Hyw1 ws, OwnR maK 53 2 ayv1 nyv1 cyv1 Hyv1 vs, blk bkb3 29 [.int .i64 ql, .slice aqs nqs cqs], blk bkb2 29 [.int .i64 pl, .slice aps nps cps], blk bkb1 27 [.slice az nz cz, .slice aws nws cws, .slice avs nvs cvs]]) (fun _ h => h) ?_
                  refine rKnow (fun w hs => (show OwnR maK 53 2 ay14 ny14 cy14 Hy14 qs w from hs.at_ 0 rfl).1) (fun lenn28 => ?_)
                  refine callS Try.call24 (by exact (fun _ _ h => h.pick [26, 26, 26])) rfl rfl (fun w hs => impl_EndNumbers_c _ ny12 cy12 _ _ _ nyw12 cyw12 _ _ _ nyv12 cyv12 _ _ _ _ ny13 cy13 _ _ _ _ ny14 cy14 _ _ w (OwnR.rd (hs.at_ 2 rfl) ndK.ok) (OwnR.rd (hs.at_ 3 rfl) maK.ok) (OwnR.rd (hs.at_ 4 rfl) maK.ok) (OwnR.rd (hs.at_ 1 rfl) maK.ok) (OwnR.rd (hs.at_ 0 rfl) maK.ok)) ?_
                  rintro ⟨ay15, ny15, cy15, y15, q15⟩ ⟨hr15a, hr15b⟩
                  dsimp only at hr15a hr15b
                  subst y15
                  subst q15
                  refine rPieces (L' := [OwnI 2 ay15 ny15 cy15 ((((Math.endsAt z ws vs pl ps ql qs).1))), OwnR maK 53 2 ay14 ny14 cy14 Hy14 qs, OwnR maK 53 2 ay13 ny13 cy13 Hy13 ps, OwnR ndK 88 2 ay12 ny12 cy12 Hy12 z, OwnR maK 53 2 ayw12 nyw12 cyw12 Hyw12 ws, OwnR maK 53 2 ayv12 nyv12 cyv12 Hyv12 vs, OwnI 2 ay8 ny8 cy8 ((Math.seqL (1 : Int) ny8)), OwnR maK 53 2 ay7 ny7 cy7 Hy7 ((Math.marksM (((((((1 : Int) + (Math.sumK Math.f4 z : Int)) + (Math.sumK Math.rwl ws : Int)) + (Math.sumK Math.rwl vs : Int))) + (Math.sumK Math.rwl ps : Int))) qs)), OwnR maK 53 2 ay6 ny6 cy6 Hy6 ((Math.marksM (((((1 : Int) + (Math.sumK Math.f4 z : Int)) + (Math.sumK Math.rwl ws : Int)) + (Math.sumK Math.rwl vs : Int))) ps)), OwnR ndK 88 2 ay5 ny5 cy5 Hy5 ((Math.marksN (1 : Int) z)), OwnR maK 53 2 ayw5 nyw5 cyw5 Hyw5 ((Math.marksM ((1 : Int) + (Math.sumK Math.f4 z : Int)) ws)), OwnR maK 53 2 ayv5 nyv5 cyv5 Hyv5 ((Math.marksM (((1 : Int) + (Math.sumK Math.f4 z : Int)) + (Math.sumK Math.rwl ws : Int)) vs)), OwnR maK 53 2 ay11 ny11 cy11 Hy11 qs, OwnR maK 53 2 ay10 ny10 cy10 Hy10 ps, OwnR ndK 88 2 ay9 ny9 cy9 Hy9 z, OwnR maK 53 2 ayw9 nyw9 cyw9 Hyw9 ws, OwnR maK 53 2 ayv9 nyv9 cyv9 Hyv9 vs, blk bka17 40 [.int .i64 ql, .slice ay7 ny7 cy7], blk bka15 40 [.int .i64 pl, .slice ay6 ny6 cy6], blk bka13 38 [.slice ay5 ny5 cy5, .slice ayw5 nyw5 cyw5, .slice ayv5 nyv5 cyv5], OwnI 2 ay4 ny4 cy4 ((((Math.endsAt z ws vs pl ps ql qs).1))), OwnR maK 53 2 ay3 ny3 cy3 Hy3 qs, OwnR maK 53 2 ay2 ny2 cy2 Hy2 ps, OwnR ndK 88 2 ay1 ny1 cy1 Hy1 z, OwnR maK 53 2 ayw1 nyw1 cyw1 Hyw1 ws, OwnR maK 53 2 ayv1 nyv1 cyv1 Hyv1 vs, blk bkb3 29 [.int .i64 ql, .slice aqs nqs cqs], blk bkb2 29 [.int .i64 pl, .slice aps nps cps], blk bkb1 27 [.slice az nz cz, .slice aws nws cws, .slice avs nvs cvs]]) (fun _ h => h) ?_
                  refine rKnow (fun w hs => (show OwnI 2 ay15 ny15 cy15 ((((Math.endsAt z ws vs pl ps ql qs).1))) w from hs.at_ 0 rfl).lenz) (fun lenn29 => ?_)
                  refine mv rfl rfl rfl ?_
                  refine ext rfl rfl rfl rfl ?_
                  refine ext rfl rfl rfl rfl ?_
                  refine asS rfl rfl rfl ?_
                  refine asI rfl rfl rfl ?_
                  refine rNil ?_
                  refine qSeq rfl ?_
                  refine hSeq ?_
                  refine hSeq ?_
                  refine hReg (sq 0 (sq 1 (sl 2 (sq 3 (sq 4 (sq 5 (sq 6 (sq 7 (sq 8 sz))))))))) (by kernel_rfl) ?_
                  refine mvS rfl rfl rfl ?_
                  refine mvS rfl rfl rfl ?_
                  refine callP (v := .bool true) Try.call25 trv rfl rfl (fun w hs => laws_eqInt64S_c _ ny15 cy15 _ _ ny4 cy4 _ w (OwnI.rd (hs.at_ 0 rfl)) (OwnI.rd (hs.at_ 20 rfl)) (by first | rfl | assumption | (rw [heq]) | (simp only [*]))) ?_
                  refine not rfl rfl rfl ?_
                  refine mvB rfl rfl rfl ?_
                  refine mvI rfl rfl rfl ?_
                  refine mvI rfl rfl rfl ?_
                  refine neq rfl rfl rfl rfl ?_
                  refine pickB rfl rfl rfl rfl ?_
                  refine rNil ?_
                  refine qSeq rfl ?_
                  refine hIfD rfl (fun c9 => ?_) (fun c9 => ?_)
                  · -- c9T
                    replace c9 : (((Math.endsAt z ws vs pl ps ql qs).2)) ≠ (((Math.endsAt z ws vs pl ps ql qs).2)) := c9
                    exact absurd rfl c9
                  · -- c9F
                    replace c9 : ¬ ((((Math.endsAt z ws vs pl ps ql qs).2)) ≠ (((Math.endsAt z ws vs pl ps ql qs).2))) := c9
                    refine hSkip ?_
                    refine qSeq rfl ?_
                    refine hSeq ?_
                    refine hReg (sq 0 sz) (by kernel_rfl) ?_
                    refine asI rfl rfl rfl ?_
                    refine rNil ?_
                    refine qSeq rfl ?_
                    refine hSeq ?_
                    refine hReg (sq 0 (sq 1 (sl 2 (sq 3 sz)))) (by kernel_rfl) ?_
                    refine mvS rfl rfl rfl ?_
                    refine mvI rfl rfl rfl ?_
                    refine callP (v := .int .i64 (((1 : Int) + (ny8 : Int)))) Try.call27 trv rfl rfl (fun w hs => laws_heldInt64S_c _ ny8 cy8 _ _ w (OwnI.rd (hs.at_ 6 rfl)) (by omega) (by first | rfl | assumption | (simp only [*]))) ?_
                    refine asI rfl rfl rfl ?_
                    refine rNil ?_
                    refine qSeq rfl ?_
                    refine hSeq ?_
                    refine hSeq ?_
                    refine hReg (sq 0 (sq 1 sz)) (by kernel_rfl) ?_
                    refine mvI rfl rfl rfl ?_
                    refine lss rfl rfl rfl rfl ?_
                    refine rNil ?_
                    refine qSeq rfl ?_
                    refine hIfD rfl (fun c10 => ?_) (fun c10 => ?_)
                    · -- c10T
                      replace c10 : ((1 : Int) + (ny8 : Int)) < 0 := c10
                      refine hSeq ?_
                      refine hReg (sq 0 sz) (by kernel_rfl) ?_
                      refine asB rfl rfl rfl ?_
                      refine rNil ?_
                      refine qSeq rfl ?_
                      refine hRet ?_
                      exact fun w hs => ⟨[.bool false], ⟨rfl, trivial⟩, ⟨by exfalso; omega, hs.upd⟩⟩
                    · -- c10F
                      replace c10 : ¬ (((1 : Int) + (ny8 : Int)) < 0) := c10
                      refine hSkip ?_
                      refine qSeq rfl ?_
                      refine hSeq ?_
                      refine hSeq ?_
                      refine hReg (sq 0 (sq 1 (sq 2 sz))) (by kernel_rfl) ?_
                      refine mvI rfl rfl rfl ?_
                      refine mvI rfl rfl rfl ?_
                      refine neq rfl rfl rfl rfl ?_
                      refine rNil ?_
                      refine qSeq rfl ?_
                      refine hIfD rfl (fun c11 => ?_) (fun c11 => ?_)
                      · -- c11T
                        replace c11 : ((1 : Int) + (ny8 : Int)) ≠ ((1 : Int) + (ny8 : Int)) := c11
                        exact absurd rfl c11
                      · -- c11F
                        replace c11 : ¬ (((1 : Int) + (ny8 : Int)) ≠ ((1 : Int) + (ny8 : Int))) := c11
                        refine hSkip ?_
                        refine qSeq rfl ?_
                        refine hSeq ?_
                        refine hReg (sq 0 sz) (by kernel_rfl) ?_
                        refine asB rfl rfl rfl ?_
                        refine rNil ?_
                        refine qSeq rfl ?_
                        refine hRet ?_
                        exact fun w hs => ⟨[.bool true], ⟨rfl, trivial⟩, ⟨by first | rfl | exact bD (by omega) | exact bT (by omega) | exact bF (by omega) | exact vI (by omega), hs.upd⟩⟩

set_option maxHeartbeats 2000000 in
theorem fnExactEndNumbers_lifted (os : Os) (started : os.Started) (H : Type) (enc : TypeId × Value → H) :
    ReturnsInHanded {} Try.checked os 6 .any (Rows.fnExactEndNumbersSpec.pre6 enc Try.prog Try.f6 Rows.fnExactEndNumbersRow.domain false) (Rows.fnExactEndNumbersSpec.post enc Try.prog Try.f6 false true false false) := by
  refine returnsInHanded_of_change (C := Try.checked) own started (by kernel_rfl) Try.func6
    (ChangeSpec.witness6 (enc := enc) (C := Try.checked) false ⟨#[], #[.agg #[.slice none 0 0, .slice none 0 0, .slice none 0 0], .agg #[.int .i64 0, .slice none 0 0], .agg #[.int .i64 0, .slice none 0 0]], []⟩ 8 (by kernel_rfl) (by kernel_rfl) (by kernel_rfl) (by kernel_rfl)) ?_
  intro W base args ds gs before hval0 hW hcnd _
  have hval : ∀ (j : Nat) t v, Try.f6.params[j]? = some t → args[j]? = some v → Value.okWide Try.prog W .any base t v := hval0
  have hW' := hW
  obtain ⟨p, q, hA0, hV, rfl, hfz, hnd⟩ := hW
  have hA : DataW.TrodAll enc Try.prog W 0 (fun _ => true) true Try.f6.params.toList args.toList ds p := hA0
  rw [Try.params6] at hA hval
  obtain ⟨v0, vs0, d0, ds0, p0, q0, hargs, rfl, rfl, h0, r0⟩ := trodAll_cons hA
  obtain ⟨v1, vs1, d1, ds1, p1, q1, rfl, rfl, rfl, h1, r1⟩ := trodAll_cons r0
  obtain ⟨v2, vs2, d2, ds2, p2, q2, rfl, rfl, rfl, h2, r2⟩ := trodAll_cons r1
  obtain ⟨rfl, rfl, rfl⟩ := trodAll_nil r2
  obtain rfl : args = #[v0, v1, v2] := by cases args; simp_all
  obtain ⟨rfl, rfl⟩ := trodVars_none hV
  obtain ⟨f0, g0⟩ := h0
  obtain ⟨cs0, rfl, _⟩ := okWide_struct Try.underlying27 (hval 0 27 v0 rfl rfl)
  obtain ⟨aq0_0, nq0_0, cq0_0, hq0_0, zq0_0, aq0_1, nq0_1, cq0_1, hq0_1, zq0_1, aq0_2, nq0_2, cq0_2, hq0_2, zq0_2, e0, rq0_0, rq0_1, rq0_2⟩ := inT27 g0
  obtain rfl : cs0 = #[.slice aq0_0 nq0_0 cq0_0, .slice aq0_1 nq0_1 cq0_1, .slice aq0_2 nq0_2 cq0_2] := by apply Array.ext'; exact e0
  obtain ⟨f1, g1⟩ := h1
  obtain ⟨cs1, rfl, _⟩ := okWide_struct Try.underlying29 (hval 1 29 v1 rfl rfl)
  obtain ⟨zq1_0, aq1_1, nq1_1, cq1_1, hq1_1, zq1_1, e1, rq1_1⟩ := inT29 g1
  obtain rfl : cs1 = #[.int .i64 zq1_0, .slice aq1_1 nq1_1 cq1_1] := by apply Array.ext'; exact e1
  obtain ⟨f2, g2⟩ := h2
  obtain ⟨cs2, rfl, _⟩ := okWide_struct Try.underlying29 (hval 2 29 v2 rfl rfl)
  obtain ⟨zq2_0, aq2_1, nq2_1, cq2_1, hq2_1, zq2_1, e2, rq2_1⟩ := inT29 g2
  obtain rfl : cs2 = #[.int .i64 zq2_0, .slice aq2_1 nq2_1 cq2_1] := by apply Array.ext'; exact e2
  refine (laws_FnExactEndNumbers_c aq0_0 nq0_0 cq0_0 hq0_0 zq0_0 aq0_1 nq0_1 cq0_1 hq0_1 zq0_1 aq0_2 nq0_2 cq0_2 hq0_2 zq0_2 zq1_0 aq1_1 nq1_1 cq1_1 hq1_1 zq1_1 zq2_0 aq2_1 nq2_1 cq2_1 hq2_1 zq2_1 W rq0_0 rq0_1 rq0_2 rq1_1 rq2_1).mono fun e W' ⟨v, he, hv, hx⟩ => ?_
  subst he; subst hv
  exact ⟨_, rfl, law_post (tb := 4) hW' rfl rfl Try.underlying4 rfl rfl rfl (by kernel_rfl) hx⟩
theorem fnExactEndNumbers_holds : Rows.FnExactEndNumbersSaid :=
  OpenClaim.holds_of_wide 6 Try.f6 rfl rfl rfl rfl rfl rfl rfl ⟨rfl, rfl, rfl, rfl, rfl⟩ rfl rfl rfl rfl rfl (by kernel_rfl) Try.func6 (by kernel_rfl)
    (of_decide_eq_true (by kernel_rfl)) (by unfold Func.isWrapper; first | (rw [if_pos (by decide +kernel)]; kernel_rfl) | (rw [if_neg (by decide +kernel)]; exact ⟨rfl, rfl⟩))
    (fun os started H enc _ => fnExactEndNumbers_lifted os started H enc)
#print axioms fnExactEndNumbers_holds

end Go.Proofs.Ytofkhnipfhcaiaa
