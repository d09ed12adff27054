/- The law FnExactGameNumber returns true for all arguments. No condition. -/
import Derived.Test.YtofkhnipfhcaiaaEngC
import Derived.Test.YtofkhnipfhcaiaaFrame
import Derived.Test.YtofkhnipfhcaiaaFrm
import Derived.Test.YtofkhnipfhcaiaaTree
import Derived.Test.YtofkhnipfhcaiaaGame
import Derived.Test.YtofkhnipfhcaiaaL1
import Derived.Test.YtofkhnipfhcaiaaL2
import Derived.Test.YtofkhnipfhcaiaaL2m
import Derived.Test.YtofkhnipfhcaiaaL3
import Derived.Test.YtofkhnipfhcaiaaL4
import Derived.Test.YtofkhnipfhcaiaaSets
import Derived.Test.YtofkhnipfhcaiaaL5
import Derived.Test.YtofkhnipfhcaiaaL6
import Derived.Test.YtofkhnipfhcaiaaParts
import Derived.Test.YtofkhnipfhcaiaaWay
import Derived.Test.YtofkhnipfhcaiaaHigh
import Derived.Test.YtofkhnipfhcaiaaVal
import Derived.Test.YtofkhnipfhcaiaaVal2
import Derived.Test.YtofkhnipfhcaiaaLP
import Derived.Test.YtofkhnipfhcaiaaLW
import Derived.Test.YtofkhnipfhcaiaaLE
import Derived.Test.YtofkhnipfhcaiaaLF
import Derived.Test.YtofkhnipfhcaiaaMath
import Derived.Test.YtofkhnipfhcaiaaUni
import Derived.Test.YtofkhnipfhcaiaaVal3
import Derived.Test.YtofkhnipfhcaiaaLR
import Derived.Test.YtofkhnipfhcaiaaLG
import Derived.Test.YtofkhnipfhcaiaaOpn
import Derived.Test.YtofkhnipfhcaiaaRows
namespace Go.Proofs.Ytofkhnipfhcaiaa
open Go Go.RowKit V Go.ChangeShapes Go.WideShapes Go.ChangeAt
set_option linter.unusedVariables false
set_option linter.unusedSimpArgs false
set_option maxRecDepth 100000



theorem laws_FnExactGameNumber_c (az : Option Addr) (nz : Nat) (cz : Nat) (Hz : Nat → Hd) (z : List Nd) (aws : Option Addr) (nws : Nat) (cws : Nat) (Hws : Nat → Hd) (ws : List (List Int)) (avs : Option Addr) (nvs : Nat) (cvs : Nat) (Hvs : Nat → Hd) (vs : List (List Int)) (pl : Int) (aps : Option Addr) (nps : Nat) (cps : Nat) (Hps : Nat → Hd) (ps : List (List Int)) (ql : Int) (aqs : Option Addr) (nqs : Nat) (cqs : Nat) (Hqs : Nat → Hd) (qs : List (List Int)) (w : World) (rz : RdR ndK az nz Hz z w) (rws : RdR maK aws nws Hws ws w) (rvs : RdR maK avs nvs Hvs vs w) (rps : RdR maK aps nps Hps ps w) (rqs : RdR maK aqs nqs Hqs qs w) :
    Calls Try.prog 4 #[.agg #[.slice az nz cz, .slice aws nws cws, .slice avs nvs cvs], .agg #[.int .i64 pl, .slice aps nps cps], .agg #[.int .i64 ql, .slice aqs nqs cqs]] w (Ret fun v w' => v = .bool true ∧ Ext w w') := by
  have kz : Kn w none_ [] (RdR ndK az nz Hz z) := fun w' hs => rz.ext hs.upd
  have lz : z.length = nz := rz.1
  have mz : nz ≤ 9223372036854775807 := rz.2.1
  have kws : Kn w none_ [] (RdR maK aws nws Hws ws) := fun w' hs => rws.ext hs.upd
  have lws : ws.length = nws := rws.1
  have mws : nws ≤ 9223372036854775807 := rws.2.1
  have kvs : Kn w none_ [] (RdR maK avs nvs Hvs vs) := fun w' hs => rvs.ext hs.upd
  have lvs : vs.length = nvs := rvs.1
  have mvs : nvs ≤ 9223372036854775807 := rvs.2.1
  have kps : Kn w none_ [] (RdR maK aps nps Hps ps) := fun w' hs => rps.ext hs.upd
  have lps : ps.length = nps := rps.1
  have mps : nps ≤ 9223372036854775807 := rps.2.1
  have kqs : Kn w none_ [] (RdR maK aqs nqs Hqs qs) := fun w' hs => rqs.ext hs.upd
  have lqs : qs.length = nqs := rqs.1
  have mqs : nqs ≤ 9223372036854775807 := rqs.2.1
  refine fn (M := none_) (rs := [.tmp 6]) Try.func4 rfl Try.ntmps4 rfl rfl (Sep.start _ _) ?_
  refine hSeq ?_
  refine hReg (sl 0 (sl 1 (sl 2 (sq 3 sz)))) (by kernel_rfl) ?_
  refine box trv1 rfl rfl rfl rfl (fun bkb1 hbkb1 => ?_)
  refine box trv1 rfl rfl rfl rfl (fun bkb2 hbkb2 => ?_)
  refine box trv1 rfl rfl rfl rfl (fun bkb3 hbkb3 => ?_)
  refine asB rfl rfl rfl ?_
  refine rNil ?_
  refine qSeq rfl ?_
  refine hSeq ?_
  refine hReg (sq 0 sz) (by kernel_rfl) ?_
  refine asI rfl rfl rfl ?_
  refine rNil ?_
  refine qSeq rfl ?_
  refine hSeq ?_
  refine hReg (sl 0 (sq 1 (sl 2 (sq 3 sz)))) (by kernel_rfl) ?_
  refine ldAl Try.isAgg27 Try.sizeOf27 (cBs 2 rfl) trv rfl rfl rfl rfl ?_
  refine mvI rfl rfl rfl ?_
  refine callP (v := .int .i64 ((Math.cut (Math.cut (Math.cut (1048576 : Int) (Math.szK Math.chl z : Int)) (Math.szK Math.rwl ws : Int)) (Math.szK Math.rwl vs : Int)))) Try.call8 trv rfl rfl (fun w hs => laws_szGame_c _ nz cz _ _ _ nws cws _ _ _ nvs cvs _ _ _ w (Kn.drop (k := 3) kz w hs) (Kn.drop (k := 3) kws w hs) (Kn.drop (k := 3) kvs w hs) (by omega)) ?_
  refine asI rfl rfl rfl ?_
  refine rNil ?_
  refine qSeq rfl ?_
  refine hSeq ?_
  refine hSeq ?_
  refine hReg (sq 0 (sq 1 sz)) (by kernel_rfl) ?_
  refine mvI rfl rfl rfl ?_
  refine lss rfl rfl rfl rfl ?_
  refine rNil ?_
  refine qSeq rfl ?_
  refine hIfD rfl (fun c1 => ?_) (fun c1 => ?_)
  · -- c1T
    replace c1 : (Math.cut (Math.cut (Math.cut (1048576 : Int) (Math.szK Math.chl z : Int)) (Math.szK Math.rwl ws : Int)) (Math.szK Math.rwl vs : Int)) < 0 := c1
    refine hSeq ?_
    refine hReg (sq 0 sz) (by kernel_rfl) ?_
    refine asB rfl rfl rfl ?_
    refine rNil ?_
    refine qSeq rfl ?_
    refine hRet ?_
    exact fun w hs => ⟨[.bool true], ⟨rfl, trivial⟩, ⟨by first | rfl | exact bD (by omega) | exact bT (by omega) | exact bF (by omega) | exact vI (by omega), hs.upd⟩⟩
  · -- c1F
    replace c1 : ¬ ((Math.cut (Math.cut (Math.cut (1048576 : Int) (Math.szK Math.chl z : Int)) (Math.szK Math.rwl ws : Int)) (Math.szK Math.rwl vs : Int)) < 0) := c1
    obtain ⟨hb, hbw, hbv⟩ := Math.cut3_pos (l := 1048576) (by omega) c1
    have hble := Math.cut3_le (l := 1048576) c1 (by omega)
    refine hSkip ?_
    refine qSeq rfl ?_
    refine hSeq ?_
    refine hReg (sl 0 (sq 1 (sl 2 (sq 3 sz)))) (by kernel_rfl) ?_
    refine ldAl Try.isAgg29 Try.sizeOf29 (cBs 1 rfl) trv rfl rfl rfl rfl ?_
    refine mvI rfl rfl rfl ?_
    refine callP (v := .int .i64 ((Math.cut ((Math.cut (Math.cut (Math.cut (1048576 : Int) (Math.szK Math.chl z : Int)) (Math.szK Math.rwl ws : Int)) (Math.szK Math.rwl vs : Int))) (Math.szK Math.rwl ps : Int)))) Try.call9 trv rfl rfl (fun w hs => laws_szStrategy_c _ _ nps cps _ _ _ w (Kn.drop (k := 3) kps w hs) (by omega)) ?_
    refine asI rfl rfl rfl ?_
    refine rNil ?_
    refine qSeq rfl ?_
    refine hSeq ?_
    refine hSeq ?_
    refine hReg (sq 0 (sq 1 sz)) (by kernel_rfl) ?_
    refine mvI rfl rfl rfl ?_
    refine lss rfl rfl rfl rfl ?_
    refine rNil ?_
    refine qSeq rfl ?_
    refine hIfD rfl (fun c2 => ?_) (fun c2 => ?_)
    · -- c2T
      replace c2 : (Math.cut ((Math.cut (Math.cut (Math.cut (1048576 : Int) (Math.szK Math.chl z : Int)) (Math.szK Math.rwl ws : Int)) (Math.szK Math.rwl vs : Int))) (Math.szK Math.rwl ps : Int)) < 0 := c2
      refine hSeq ?_
      refine hReg (sq 0 sz) (by kernel_rfl) ?_
      refine asB rfl rfl rfl ?_
      refine rNil ?_
      refine qSeq rfl ?_
      refine hRet ?_
      exact fun w hs => ⟨[.bool true], ⟨rfl, trivial⟩, ⟨by first | rfl | exact bD (by omega) | exact bT (by omega) | exact bF (by omega) | exact vI (by omega), hs.upd⟩⟩
    · -- c2F
      replace c2 : ¬ ((Math.cut ((Math.cut (Math.cut (Math.cut (1048576 : Int) (Math.szK Math.chl z : Int)) (Math.szK Math.rwl ws : Int)) (Math.szK Math.rwl vs : Int))) (Math.szK Math.rwl ps : Int)) < 0) := c2
      have hbps := Math.cut_pos c2
      refine hSkip ?_
      refine qSeq rfl ?_
      refine hSeq ?_
      refine hReg (sl 0 (sq 1 (sl 2 (sq 3 sz)))) (by kernel_rfl) ?_
      refine ldAl Try.isAgg29 Try.sizeOf29 (cBs 0 rfl) trv rfl rfl rfl rfl ?_
      refine mvI rfl rfl rfl ?_
      refine callP (v := .int .i64 ((Math.cut ((Math.cut ((Math.cut (Math.cut (Math.cut (1048576 : Int) (Math.szK Math.chl z : Int)) (Math.szK Math.rwl ws : Int)) (Math.szK Math.rwl vs : Int))) (Math.szK Math.rwl ps : Int))) (Math.szK Math.rwl qs : Int)))) Try.call9 trv rfl rfl (fun w hs => laws_szStrategy_c _ _ nqs cqs _ _ _ w (Kn.drop (k := 3) kqs w hs) (by omega)) ?_
      refine asI rfl rfl rfl ?_
      refine rNil ?_
      refine qSeq rfl ?_
      refine hSeq ?_
      refine hSeq ?_
      refine hReg (sq 0 (sq 1 sz)) (by kernel_rfl) ?_
      refine mvI rfl rfl rfl ?_
      refine lss rfl rfl rfl rfl ?_
      refine rNil ?_
      refine qSeq rfl ?_
      refine hIfD rfl (fun c3 => ?_) (fun c3 => ?_)
      · -- c3T
        replace c3 : (Math.cut ((Math.cut ((Math.cut (Math.cut (Math.cut (1048576 : Int) (Math.szK Math.chl z : Int)) (Math.szK Math.rwl ws : Int)) (Math.szK Math.rwl vs : Int))) (Math.szK Math.rwl ps : Int))) (Math.szK Math.rwl qs : Int)) < 0 := c3
        refine hSeq ?_
        refine hReg (sq 0 sz) (by kernel_rfl) ?_
        refine asB rfl rfl rfl ?_
        refine rNil ?_
        refine qSeq rfl ?_
        refine hRet ?_
        exact fun w hs => ⟨[.bool true], ⟨rfl, trivial⟩, ⟨by first | rfl | exact bD (by omega) | exact bT (by omega) | exact bF (by omega) | exact vI (by omega), hs.upd⟩⟩
      · -- c3F
        replace c3 : ¬ ((Math.cut ((Math.cut ((Math.cut (Math.cut (Math.cut (1048576 : Int) (Math.szK Math.chl z : Int)) (Math.szK Math.rwl ws : Int)) (Math.szK Math.rwl vs : Int))) (Math.szK Math.rwl ps : Int))) (Math.szK Math.rwl qs : Int)) < 0) := c3
        have hbqs := (Math.cut_pos c3).1
        refine hSkip ?_
        refine qSeq rfl ?_
        refine hSeq ?_
        refine hDraw (Ls := [blk bkb3 29 [.int .i64 ql, .slice aqs nqs cqs], blk bkb2 29 [.int .i64 pl, .slice aps nps cps], blk bkb1 27 [.slice az nz cz, .slice aws nws cws, .slice avs nvs cvs]]) (by kernel_rfl) (sq 0 (sq 2 (sq 4 (sl 1 (sl 3 (sl 5 (sl 6 (sq 7 (sq 8 (sq 9 (sq 10 (sq 11 (sq 12 (sq 13 sz)))))))))))))) (by kernel_rfl) (.cons_cons _ (.cons_cons _ (.cons_cons _ .slnil))) ?_
        refine ldAq Try.isAgg27 Try.sizeOf27 (cBs 2 rfl) rfl rfl rfl rfl ?_
        refine ldAq Try.isAgg29 Try.sizeOf29 (cBs 1 rfl) rfl rfl rfl rfl ?_
        refine ldAq Try.isAgg29 Try.sizeOf29 (cBs 0 rfl) rfl rfl rfl rfl ?_
        refine callS Try.call11 (by exact (fun _ _ h => h.pick [3, 3, 3])) rfl rfl (fun w hs => laws_toGame_c _ nz cz _ _ _ nws cws _ _ _ nvs cvs _ _ w (Kn.drop (k := 3) kz w hs) (Kn.drop (k := 3) kws w hs) (Kn.drop (k := 3) kvs w hs) (by first | assumption | omega) (by first | assumption | omega) (by first | assumption | omega)) ?_
        rintro ⟨ay1, ny1, cy1, Hy1, y1, ayw1, nyw1, cyw1, Hyw1, yw1, ayv1, nyv1, cyv1, Hyv1, yv1⟩ ⟨hr1a, hr1b, hr1c⟩
        dsimp only at hr1a hr1b hr1c
        subst y1
        subst yw1
        subst yv1
        refine rKnow (fun w hs => (show OwnR ndK 88 2 ay1 ny1 cy1 Hy1 z w from hs.at_ 0 rfl).1) (fun lenn4 => ?_)
        refine rKnow (fun w hs => (show OwnR maK 53 2 ayw1 nyw1 cyw1 Hyw1 ws w from hs.at_ 1 rfl).1) (fun lenn5 => ?_)
        refine rKnow (fun w hs => (show OwnR maK 53 2 ayv1 nyv1 cyv1 Hyv1 vs w from hs.at_ 2 rfl).1) (fun lenn6 => ?_)
        refine callS Try.call12 (by exact (fun _ _ h => h.pick [4, 4, 4])) rfl rfl (fun w hs => laws_toStrategy_c _ _ nps cps _ _ w (Kn.drop (k := 6) kps w hs) (by first | assumption | omega)) ?_
        rintro ⟨ay2, ny2, cy2, Hy2, y2⟩ hr2
        dsimp only at hr2
        subst y2
        refine rKnow (fun w hs => (show OwnR maK 53 2 ay2 ny2 cy2 Hy2 ps w from hs.at_ 0 rfl).1) (fun lenn7 => ?_)
        refine callS Try.call12 (by exact (fun _ _ h => h.pick [5, 5, 5])) rfl rfl (fun w hs => laws_toStrategy_c _ _ nqs cqs _ _ w (Kn.drop (k := 7) kqs w hs) (by first | assumption | omega)) ?_
        rintro ⟨ay3, ny3, cy3, Hy3, y3⟩ hr3
        dsimp only at hr3
        subst y3
        refine rKnow (fun w hs => (show OwnR maK 53 2 ay3 ny3 cy3 Hy3 qs w from hs.at_ 0 rfl).1) (fun lenn8 => ?_)
        refine callP (v := .tuple #[.int .i64 ((Math.gameAt z ws vs pl ps ql qs).1), .int .i64 ((Math.gameAt z ws vs pl ps ql qs).2.1), .int .i64 ((Math.gameAt z ws vs pl ps ql qs).2.2)]) Try.call16 (fun _ h => h.pick [5, 5, 5]) rfl rfl (fun w hs => spec_GameNumber_c _ ny1 cy1 _ _ _ nyw1 cyw1 _ _ _ nyv1 cyv1 _ _ _ _ ny2 cy2 _ _ _ _ ny3 cy3 _ _ w (OwnR.rd (hs.at_ 2 rfl) ndK.ok) (OwnR.rd (hs.at_ 3 rfl) maK.ok) (OwnR.rd (hs.at_ 4 rfl) maK.ok) (OwnR.rd (hs.at_ 1 rfl) maK.ok) (OwnR.rd (hs.at_ 0 rfl) maK.ok)) ?_
        refine mv rfl rfl rfl ?_
        refine ext rfl rfl rfl rfl ?_
        refine ext rfl rfl rfl rfl ?_
        refine ext rfl rfl rfl rfl ?_
        refine asI rfl rfl rfl ?_
        refine asI rfl rfl rfl ?_
        refine asI rfl rfl rfl ?_
        refine rNil ?_
        refine qSeq rfl ?_
        refine hSeq ?_
        refine hReg (sl 0 (sl 1 (sl 2 (sl 3 sz)))) (by kernel_rfl) ?_
        refine ldAl Try.isAgg27 Try.sizeOf27 (cBs 7 rfl) trv rfl rfl rfl rfl ?_
        refine callS Try.call11 trv1 rfl rfl (fun w hs => laws_toGame_c _ nz cz _ _ _ nws cws _ _ _ nvs cvs _ _ w (Kn.drop (k := 8) kz w hs) (Kn.drop (k := 8) kws w hs) (Kn.drop (k := 8) kvs w hs) (by first | assumption | omega) (by first | assumption | omega) (by first | assumption | omega)) ?_
        rintro ⟨ay4, ny4, cy4, Hy4, y4, ayw4, nyw4, cyw4, Hyw4, yw4, ayv4, nyv4, cyv4, Hyv4, yv4⟩ ⟨hr4a, hr4b, hr4c⟩
        dsimp only at hr4a hr4b hr4c
        subst y4
        subst yw4
        subst yv4
        refine rKnow (fun w hs => (show OwnR ndK 88 2 ay4 ny4 cy4 Hy4 z w from hs.at_ 0 rfl).1) (fun lenn9 => ?_)
        refine rKnow (fun w hs => (show OwnR maK 53 2 ayw4 nyw4 cyw4 Hyw4 ws w from hs.at_ 1 rfl).1) (fun lenn10 => ?_)
        refine rKnow (fun w hs => (show OwnR maK 53 2 ayv4 nyv4 cyv4 Hyv4 vs w from hs.at_ 2 rfl).1) (fun lenn11 => ?_)
        refine alc Try.zeroValue38 rfl trv1 rfl rfl (fun bka12 hbka12 => ?_)
        refine stAl (vs := [.slice ay4 ny4 cy4, .slice ayw4 nyw4 cyw4, .slice ayv4 nyv4 cyv4]) 0 rfl Try.sizeOf38 trv rfl rfl rfl rfl rfl (by simp [Value.oneCell']) rfl ?_
        refine rNil ?_
        refine qSeq rfl ?_
        refine hSeq ?_
        refine hReg (sl 0 (sl 1 (sl 2 (sl 3 sz)))) (by kernel_rfl) ?_
        refine ldAl Try.isAgg29 Try.sizeOf29 (cBs 10 rfl) trv rfl rfl rfl rfl ?_
        refine callS Try.call12 trv1 rfl rfl (fun w hs => laws_toStrategy_c _ _ nps cps _ _ w (Kn.drop (k := 12) kps w hs) (by first | assumption | omega)) ?_
        rintro ⟨ay5, ny5, cy5, Hy5, y5⟩ hr5
        dsimp only at hr5
        subst y5
        refine rKnow (fun w hs => (show OwnR maK 53 2 ay5 ny5 cy5 Hy5 ps w from hs.at_ 0 rfl).1) (fun lenn13 => ?_)
        refine alc Try.zeroValue40 rfl trv1 rfl rfl (fun bka14 hbka14 => ?_)
        refine stAl (vs := [.int .i64 pl, .slice ay5 ny5 cy5]) 0 rfl Try.sizeOf40 trv rfl rfl rfl rfl rfl (by simp [Value.oneCell']) rfl ?_
        refine rNil ?_
        refine qSeq rfl ?_
        refine hSeq ?_
        refine hReg (sl 0 (sl 1 (sl 2 (sl 3 sz)))) (by kernel_rfl) ?_
        refine ldAl Try.isAgg29 Try.sizeOf29 (cBs 11 rfl) trv rfl rfl rfl rfl ?_
        refine callS Try.call12 trv1 rfl rfl (fun w hs => laws_toStrategy_c _ _ nqs cqs _ _ w (Kn.drop (k := 14) kqs w hs) (by first | assumption | omega)) ?_
        rintro ⟨ay6, ny6, cy6, Hy6, y6⟩ hr6
        dsimp only at hr6
        subst y6
        refine rKnow (fun w hs => (show OwnR maK 53 2 ay6 ny6 cy6 Hy6 qs w from hs.at_ 0 rfl).1) (fun lenn15 => ?_)
        refine alc Try.zeroValue40 rfl trv1 rfl rfl (fun bka16 hbka16 => ?_)
        refine stAl (vs := [.int .i64 ql, .slice ay6 ny6 cy6]) 0 rfl Try.sizeOf40 trv rfl rfl rfl rfl rfl (by simp [Value.oneCell']) rfl ?_
        refine rNil ?_
        refine qSeq rfl ?_
        refine hSeq ?_
        refine hReg (sl 0 (sl 1 (sl 2 (sl 3 (sq 4 (sq 5 (sq 6 (sq 7 (sq 8 (sq 9 (sq 10 sz))))))))))) (by kernel_rfl) ?_
        refine ldAl Try.isAgg38 Try.sizeOf38 (cBs 4 rfl) trv rfl rfl rfl rfl ?_
        refine ldAl Try.isAgg40 Try.sizeOf40 (cBs 2 rfl) trv rfl rfl rfl rfl ?_
        refine ldAl Try.isAgg40 Try.sizeOf40 (cBs 0 rfl) trv rfl rfl rfl rfl ?_
        refine callP (v := .tuple #[.int .i64 ((Math.gameAt z ws vs pl ps ql qs).1), .int .i64 ((Math.gameAt z ws vs pl ps ql qs).2.1), .int .i64 ((Math.gameAt z ws vs pl ps ql qs).2.2)]) Try.call17 trv rfl rfl (fun w hs => impl_GameNumber_c _ ny4 cy4 _ _ _ nyw4 cyw4 _ _ _ nyv4 cyv4 _ _ _ _ ny5 cy5 _ _ _ _ ny6 cy6 _ _ w (OwnR.rd (hs.at_ 5 rfl) ndK.ok) (OwnR.rd (hs.at_ 6 rfl) maK.ok) (OwnR.rd (hs.at_ 7 rfl) maK.ok) (OwnR.rd (hs.at_ 3 rfl) maK.ok) (OwnR.rd (hs.at_ 1 rfl) maK.ok)) ?_
        refine mv rfl rfl rfl ?_
        refine ext rfl rfl rfl rfl ?_
        refine ext rfl rfl rfl rfl ?_
        refine ext rfl rfl rfl rfl ?_
        refine asI rfl rfl rfl ?_
        refine asI rfl rfl rfl ?_
        refine asI rfl rfl rfl ?_
        refine rNil ?_
        refine qSeq rfl ?_
        refine hSeq ?_
        refine hSeq ?_
        refine hReg (sq 0 (sq 1 (sq 2 (sq 3 (sq 4 (sq 5 (sq 6 (sq 7 (sq 8 (sq 9 (sq 10 (sq 11 (sq 12 sz))))))))))))) (by kernel_rfl) ?_
        refine mvI rfl rfl rfl ?_
        refine mvI rfl rfl rfl ?_
        refine neq rfl rfl rfl rfl ?_
        refine mvB rfl rfl rfl ?_
        refine rBoolD (d := 60) rfl (fun g4 => ?_) (fun g4 => ?_)
        · -- g4T
          replace g4 : (Math.gameAt z ws vs pl ps ql qs).1 ≠ (Math.gameAt z ws vs pl ps ql qs).1 := g4
          exact absurd rfl g4
        · -- g4F
          replace g4 : ¬ ((Math.gameAt z ws vs pl ps ql qs).1 ≠ (Math.gameAt z ws vs pl ps ql qs).1) := g4
          refine mvI rfl rfl rfl ?_
          refine mvI rfl rfl rfl ?_
          refine neq rfl rfl rfl rfl ?_
          refine pickB rfl rfl rfl rfl ?_
          refine mvB rfl rfl rfl ?_
          refine rBoolD (d := 65) rfl (fun g5 => ?_) (fun g5 => ?_)
          · -- g5T
            replace g5 : (Math.gameAt z ws vs pl ps ql qs).2.1 ≠ (Math.gameAt z ws vs pl ps ql qs).2.1 := g5
            exact absurd rfl g5
          · -- g5F
            replace g5 : ¬ ((Math.gameAt z ws vs pl ps ql qs).2.1 ≠ (Math.gameAt z ws vs pl ps ql qs).2.1) := g5
            refine mvI rfl rfl rfl ?_
            refine mvI rfl rfl rfl ?_
            refine neq rfl rfl rfl rfl ?_
            refine pickB rfl rfl rfl rfl ?_
            refine rNil ?_
            refine qSeq rfl ?_
            refine hIfD rfl (fun c6 => ?_) (fun c6 => ?_)
            · -- c6T
              replace c6 : (Math.gameAt z ws vs pl ps ql qs).2.2 ≠ (Math.gameAt z ws vs pl ps ql qs).2.2 := c6
              exact absurd rfl c6
            · -- c6F
              replace c6 : ¬ ((Math.gameAt z ws vs pl ps ql qs).2.2 ≠ (Math.gameAt z ws vs pl ps ql qs).2.2) := c6
              refine hSkip ?_
              refine qSeq rfl ?_
              refine hSeq ?_
              refine hSeq ?_
              refine hDraw (Ls := [blk bka12 38 [.slice ay4 ny4 cy4, .slice ayw4 nyw4 cyw4, .slice ayv4 nyv4 cyv4], blk bkb1 27 [.slice az nz cz, .slice aws nws cws, .slice avs nvs cvs]]) (by kernel_rfl) (sq 0 (sq 1 (sl 2 (sl 3 (sq 4 sz))))) (by kernel_rfl) (.cons _ (.cons _ (.cons _ (.cons _ (.cons_cons _ (.cons _ (.cons _ (.cons _ (.cons _ (.cons _ (.cons _ (.cons _ (.cons _ (.cons _ (.cons _ (.cons_cons _ .slnil)))))))))))))))) ?_
              refine ldAq Try.isAgg38 Try.sizeOf38 (cBs 0 rfl) rfl rfl rfl rfl ?_
              refine ldAq Try.isAgg27 Try.sizeOf27 (cBs 1 rfl) rfl rfl rfl rfl ?_
              refine callS Try.call11 (by exact (fun _ _ h => h.pick [7, 17])) rfl rfl (fun w hs => laws_toGame_c _ nz cz _ _ _ nws cws _ _ _ nvs cvs _ _ w (Kn.drop (k := 16) kz w hs) (Kn.drop (k := 16) kws w hs) (Kn.drop (k := 16) kvs w hs) (by first | assumption | omega) (by first | assumption | omega) (by first | assumption | omega)) ?_
              rintro ⟨ay7, ny7, cy7, Hy7, y7, ayw7, nyw7, cyw7, Hyw7, yw7, ayv7, nyv7, cyv7, Hyv7, yv7⟩ ⟨hr7a, hr7b, hr7c⟩
              dsimp only at hr7a hr7b hr7c
              subst y7
              subst yw7
              subst yv7
              refine rKnow (fun w hs => (show OwnR ndK 88 2 ay7 ny7 cy7 Hy7 z w from hs.at_ 0 rfl).1) (fun lenn17 => ?_)
              refine rKnow (fun w hs => (show OwnR maK 53 2 ayw7 nyw7 cyw7 Hyw7 ws w from hs.at_ 1 rfl).1) (fun lenn18 => ?_)
              refine rKnow (fun w hs => (show OwnR maK 53 2 ayv7 nyv7 cyv7 Hyv7 vs w from hs.at_ 2 rfl).1) (fun lenn19 => ?_)
              refine callP (v := .bool true) Try.call14 (fun _ h => h.pick [7, 17]) rfl rfl (fun w hs => laws_eqGame_c _ ny4 cy4 _ _ _ nyw4 cyw4 _ _ _ nyv4 cyv4 _ _ _ ny7 cy7 _ _ _ nyw7 cyw7 _ _ _ nyv7 cyv7 _ _ w (OwnR.rd (hs.at_ 8 rfl) ndK.ok) (OwnR.rd (hs.at_ 9 rfl) maK.ok) (OwnR.rd (hs.at_ 10 rfl) maK.ok) (OwnR.rd (hs.at_ 0 rfl) ndK.ok) (OwnR.rd (hs.at_ 1 rfl) maK.ok) (OwnR.rd (hs.at_ 2 rfl) maK.ok) (by exact ⟨rfl, rfl, rfl⟩)) ?_
              refine not rfl rfl rfl ?_
              refine rNil ?_
              refine qSeq rfl ?_
              refine hIfF rfl ?_
              refine hSkip ?_
              refine qSeq rfl ?_
              refine hSeq ?_
              refine hSeq ?_
              refine hDraw (Ls := [blk bka14 40 [.int .i64 pl, .slice ay5 ny5 cy5], blk bkb2 29 [.int .i64 pl, .slice aps nps cps]]) (by kernel_rfl) (sq 0 (sq 1 (sl 2 (sl 3 (sq 4 sz))))) (by kernel_rfl) (.cons _ (.cons _ (.cons _ (.cons _ (.cons _ (.cons_cons _ (.cons _ (.cons _ (.cons _ (.cons _ (.cons _ (.cons _ (.cons _ (.cons _ (.cons _ (.cons _ (.cons _ (.cons_cons _ (.cons _ .slnil))))))))))))))))))) ?_
              refine ldAq Try.isAgg40 Try.sizeOf40 (cBs 0 rfl) rfl rfl rfl rfl ?_
              refine ldAq Try.isAgg29 Try.sizeOf29 (cBs 1 rfl) rfl rfl rfl rfl ?_
              refine callS Try.call12 (by exact (fun _ _ h => h.pick [6, 17])) rfl rfl (fun w hs => laws_toStrategy_c _ _ nps cps _ _ w (Kn.drop (k := 19) kps w hs) (by first | assumption | omega)) ?_
              rintro ⟨ay8, ny8, cy8, Hy8, y8⟩ hr8
              dsimp only at hr8
              subst y8
              refine rKnow (fun w hs => (show OwnR maK 53 2 ay8 ny8 cy8 Hy8 ps w from hs.at_ 0 rfl).1) (fun lenn20 => ?_)
              refine callP (v := .bool true) Try.call15 (fun _ h => h.pick [6, 17]) rfl rfl (fun w hs => laws_eqStrategy_c _ _ ny5 cy5 _ _ _ _ ny8 cy8 _ _ w (OwnR.rd (hs.at_ 7 rfl) maK.ok) (OwnR.rd (hs.at_ 0 rfl) maK.ok) (by exact ⟨rfl, rfl⟩)) ?_
              refine not rfl rfl rfl ?_
              refine rNil ?_
              refine qSeq rfl ?_
              refine hIfF rfl ?_
              refine hSkip ?_
              refine qSeq rfl ?_
              refine hSeq ?_
              refine hSeq ?_
              refine hDraw (Ls := [blk bka16 40 [.int .i64 ql, .slice ay6 ny6 cy6], blk bkb3 29 [.int .i64 ql, .slice aqs nqs cqs]]) (by kernel_rfl) (sq 0 (sq 1 (sl 2 (sl 3 (sq 4 sz))))) (by kernel_rfl) (.cons _ (.cons _ (.cons _ (.cons _ (.cons_cons _ (.cons _ (.cons _ (.cons _ (.cons _ (.cons _ (.cons _ (.cons _ (.cons _ (.cons _ (.cons _ (.cons _ (.cons _ (.cons_cons _ (.cons _ (.cons _ .slnil)))))))))))))))))))) ?_
              refine ldAq Try.isAgg40 Try.sizeOf40 (cBs 0 rfl) rfl rfl rfl rfl ?_
              refine ldAq Try.isAgg29 Try.sizeOf29 (cBs 1 rfl) rfl rfl rfl rfl ?_
              refine callS Try.call12 (by exact (fun _ _ h => h.pick [5, 17])) rfl rfl (fun w hs => laws_toStrategy_c _ _ nqs cqs _ _ w (Kn.drop (k := 20) kqs w hs) (by first | assumption | omega)) ?_
              rintro ⟨ay9, ny9, cy9, Hy9, y9⟩ hr9
              dsimp only at hr9
              subst y9
              refine rKnow (fun w hs => (show OwnR maK 53 2 ay9 ny9 cy9 Hy9 qs w from hs.at_ 0 rfl).1) (fun lenn21 => ?_)
              refine callP (v := .bool true) Try.call15 (fun _ h => h.pick [5, 17]) rfl rfl (fun w hs => laws_eqStrategy_c _ _ ny6 cy6 _ _ _ _ ny9 cy9 _ _ w (OwnR.rd (hs.at_ 6 rfl) maK.ok) (OwnR.rd (hs.at_ 0 rfl) maK.ok) (by exact ⟨rfl, rfl⟩)) ?_
              refine not rfl rfl rfl ?_
              refine rNil ?_
              refine qSeq rfl ?_
              refine hIfF rfl ?_
              refine hSkip ?_
              refine qSeq rfl ?_
              refine hSeq ?_
              refine hReg (sq 0 sz) (by kernel_rfl) ?_
              refine asB rfl rfl rfl ?_
              refine rNil ?_
              refine qSeq rfl ?_
              refine hRet ?_
              exact fun w hs => ⟨[.bool true], ⟨rfl, trivial⟩, ⟨by first | rfl | exact bD (by omega) | exact bT (by omega) | exact bF (by omega) | exact vI (by omega), hs.upd⟩⟩

set_option maxHeartbeats 2000000 in
theorem fnExactGameNumber_lifted (os : Os) (started : os.Started) (H : Type) (enc : TypeId × Value → H) :
    ReturnsInHanded {} Try.checked os 4 .any (Rows.fnExactGameNumberSpec.pre6 enc Try.prog Try.f4 Rows.fnExactGameNumberRow.domain false) (Rows.fnExactGameNumberSpec.post enc Try.prog Try.f4 false true false false) := by
  refine returnsInHanded_of_change (C := Try.checked) own started (by kernel_rfl) Try.func4
    (ChangeSpec.witness6 (enc := enc) (C := Try.checked) false ⟨#[], #[.agg #[.slice none 0 0, .slice none 0 0, .slice none 0 0], .agg #[.int .i64 0, .slice none 0 0], .agg #[.int .i64 0, .slice none 0 0]], []⟩ 8 (by kernel_rfl) (by kernel_rfl) (by kernel_rfl) (by kernel_rfl)) ?_
  intro W base args ds gs before hval0 hW hcnd _
  have hval : ∀ (j : Nat) t v, Try.f4.params[j]? = some t → args[j]? = some v → Value.okWide Try.prog W .any base t v := hval0
  have hW' := hW
  obtain ⟨p, q, hA0, hV, rfl, hfz, hnd⟩ := hW
  have hA : DataW.TrodAll enc Try.prog W 0 (fun _ => true) true Try.f4.params.toList args.toList ds p := hA0
  rw [Try.params4] at hA hval
  obtain ⟨v0, vs0, d0, ds0, p0, q0, hargs, rfl, rfl, h0, r0⟩ := trodAll_cons hA
  obtain ⟨v1, vs1, d1, ds1, p1, q1, rfl, rfl, rfl, h1, r1⟩ := trodAll_cons r0
  obtain ⟨v2, vs2, d2, ds2, p2, q2, rfl, rfl, rfl, h2, r2⟩ := trodAll_cons r1
  obtain ⟨rfl, rfl, rfl⟩ := trodAll_nil r2
  obtain rfl : args = #[v0, v1, v2] := by cases args; simp_all
  obtain ⟨rfl, rfl⟩ := trodVars_none hV
  obtain ⟨f0, g0⟩ := h0
  obtain ⟨cs0, rfl, _⟩ := okWide_struct Try.underlying27 (hval 0 27 v0 rfl rfl)
  obtain ⟨aq0_0, nq0_0, cq0_0, hq0_0, zq0_0, aq0_1, nq0_1, cq0_1, hq0_1, zq0_1, aq0_2, nq0_2, cq0_2, hq0_2, zq0_2, e0, rq0_0, rq0_1, rq0_2⟩ := inT27 g0
  obtain rfl : cs0 = #[.slice aq0_0 nq0_0 cq0_0, .slice aq0_1 nq0_1 cq0_1, .slice aq0_2 nq0_2 cq0_2] := by apply Array.ext'; exact e0
  obtain ⟨f1, g1⟩ := h1
  obtain ⟨cs1, rfl, _⟩ := okWide_struct Try.underlying29 (hval 1 29 v1 rfl rfl)
  obtain ⟨zq1_0, aq1_1, nq1_1, cq1_1, hq1_1, zq1_1, e1, rq1_1⟩ := inT29 g1
  obtain rfl : cs1 = #[.int .i64 zq1_0, .slice aq1_1 nq1_1 cq1_1] := by apply Array.ext'; exact e1
  obtain ⟨f2, g2⟩ := h2
  obtain ⟨cs2, rfl, _⟩ := okWide_struct Try.underlying29 (hval 2 29 v2 rfl rfl)
  obtain ⟨zq2_0, aq2_1, nq2_1, cq2_1, hq2_1, zq2_1, e2, rq2_1⟩ := inT29 g2
  obtain rfl : cs2 = #[.int .i64 zq2_0, .slice aq2_1 nq2_1 cq2_1] := by apply Array.ext'; exact e2
  refine (laws_FnExactGameNumber_c aq0_0 nq0_0 cq0_0 hq0_0 zq0_0 aq0_1 nq0_1 cq0_1 hq0_1 zq0_1 aq0_2 nq0_2 cq0_2 hq0_2 zq0_2 zq1_0 aq1_1 nq1_1 cq1_1 hq1_1 zq1_1 zq2_0 aq2_1 nq2_1 cq2_1 hq2_1 zq2_1 W rq0_0 rq0_1 rq0_2 rq1_1 rq2_1).mono fun e W' ⟨v, he, hv, hx⟩ => ?_
  subst he; subst hv
  exact ⟨_, rfl, law_post (tb := 4) hW' rfl rfl Try.underlying4 rfl rfl rfl (by kernel_rfl) hx⟩
theorem fnExactGameNumber_holds : Rows.FnExactGameNumberSaid :=
  OpenClaim.holds_of_wide 4 Try.f4 rfl rfl rfl rfl rfl rfl rfl ⟨rfl, rfl, rfl, rfl, rfl⟩ rfl rfl rfl rfl rfl (by kernel_rfl) Try.func4 (by kernel_rfl)
    (of_decide_eq_true (by kernel_rfl)) (by unfold Func.isWrapper; first | (rw [if_pos (by decide +kernel)]; kernel_rfl) | (rw [if_neg (by decide +kernel)]; exact ⟨rfl, rfl⟩))
    (fun os started H enc _ => fnExactGameNumber_lifted os started H enc)
#print axioms fnExactGameNumber_holds

end Go.Proofs.Ytofkhnipfhcaiaa
