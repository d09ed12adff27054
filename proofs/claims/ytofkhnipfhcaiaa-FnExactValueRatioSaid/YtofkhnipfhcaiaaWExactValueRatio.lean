/- The law FnExactValueRatio returns true for all arguments. No condition. -/
import Derived.Test.YtofkhnipfhcaiaaEngC
import Derived.Test.YtofkhnipfhcaiaaFrame
import Derived.Test.YtofkhnipfhcaiaaFrm
import Derived.Test.YtofkhnipfhcaiaaTree
import Derived.Test.YtofkhnipfhcaiaaGame
import Derived.Test.YtofkhnipfhcaiaaL1
import Derived.Test.YtofkhnipfhcaiaaL2
import Derived.Test.YtofkhnipfhcaiaaL2m
import Derived.Test.YtofkhnipfhcaiaaL3
import Derived.Test.YtofkhnipfhcaiaaL4
import Derived.Test.YtofkhnipfhcaiaaSets
import Derived.Test.YtofkhnipfhcaiaaL5
import Derived.Test.YtofkhnipfhcaiaaL6
import Derived.Test.YtofkhnipfhcaiaaParts
import Derived.Test.YtofkhnipfhcaiaaWay
import Derived.Test.YtofkhnipfhcaiaaHigh
import Derived.Test.YtofkhnipfhcaiaaVal
import Derived.Test.YtofkhnipfhcaiaaVal2
import Derived.Test.YtofkhnipfhcaiaaLP
import Derived.Test.YtofkhnipfhcaiaaLW
import Derived.Test.YtofkhnipfhcaiaaLE
import Derived.Test.YtofkhnipfhcaiaaLF
import Derived.Test.YtofkhnipfhcaiaaMath
import Derived.Test.YtofkhnipfhcaiaaUni
import Derived.Test.YtofkhnipfhcaiaaVal3
import Derived.Test.YtofkhnipfhcaiaaLR
import Derived.Test.YtofkhnipfhcaiaaLG
import Derived.Test.YtofkhnipfhcaiaaLK
import Derived.Test.YtofkhnipfhcaiaaOpn
import Derived.Test.YtofkhnipfhcaiaaRows
namespace Go.Proofs.Ytofkhnipfhcaiaa
open Go Go.RowKit V Go.ChangeShapes Go.WideShapes Go.ChangeAt
set_option linter.unusedVariables false
set_option linter.unusedSimpArgs false
set_option maxRecDepth 100000



theorem laws_FnExactValueRatio_c (az : Option Addr) (nz : Nat) (cz : Nat) (Hz : Nat → Hd) (z : List Nd) (aws : Option Addr) (nws : Nat) (cws : Nat) (Hws : Nat → Hd) (ws : List (List Int)) (avs : Option Addr) (nvs : Nat) (cvs : Nat) (Hvs : Nat → Hd) (vs : List (List Int)) (pl : Int) (aps : Option Addr) (nps : Nat) (cps : Nat) (Hps : Nat → Hd) (ps : List (List Int)) (ql : Int) (aqs : Option Addr) (nqs : Nat) (cqs : Nat) (Hqs : Nat → Hd) (qs : List (List Int)) (w : World) (rz : RdR ndK az nz Hz z w) (rws : RdR maK aws nws Hws ws w) (rvs : RdR maK avs nvs Hvs vs w) (rps : RdR maK aps nps Hps ps w) (rqs : RdR maK aqs nqs Hqs qs w) :
    Calls Try.prog 7 #[.agg #[.slice az nz cz, .slice aws nws cws, .slice avs nvs cvs], .agg #[.int .i64 pl, .slice aps nps cps], .agg #[.int .i64 ql, .slice aqs nqs cqs]] w (Ret fun v w' => v = .bool true ∧ Ext w w') := by
  have kz : Kn w none_ [] (RdR ndK az nz Hz z) := fun w' hs => rz.ext hs.upd
  have lz : z.length = nz := rz.1
  have mz : nz ≤ 9223372036854775807 := rz.2.1
  have kws : Kn w none_ [] (RdR maK aws nws Hws ws) := fun w' hs => rws.ext hs.upd
  have lws : ws.length = nws := rws.1
  have mws : nws ≤ 9223372036854775807 := rws.2.1
  have kvs : Kn w none_ [] (RdR maK avs nvs Hvs vs) := fun w' hs => rvs.ext hs.upd
  have lvs : vs.length = nvs := rvs.1
  have mvs : nvs ≤ 9223372036854775807 := rvs.2.1
  have kps : Kn w none_ [] (RdR maK aps nps Hps ps) := fun w' hs => rps.ext hs.upd
  have lps : ps.length = nps := rps.1
  have mps : nps ≤ 9223372036854775807 := rps.2.1
  have kqs : Kn w none_ [] (RdR maK aqs nqs Hqs qs) := fun w' hs => rqs.ext hs.upd
  have lqs : qs.length = nqs := rqs.1
  have mqs : nqs ≤ 9223372036854775807 := rqs.2.1
  refine fn (M := none_) (rs := [.tmp 6]) Try.func7 rfl Try.ntmps7 rfl rfl (Sep.start _ _) ?_
  refine hSeq ?_
  refine hReg (sl 0 (sl 1 (sl 2 (sq 3 sz)))) (by kernel_rfl) ?_
  refine box trv1 rfl rfl rfl rfl (fun bkb1 hbkb1 => ?_)
  refine box trv1 rfl rfl rfl rfl (fun bkb2 hbkb2 => ?_)
  refine box trv1 rfl rfl rfl rfl (fun bkb3 hbkb3 => ?_)
  refine asB rfl rfl rfl ?_
  refine rNil ?_
  refine qSeq rfl ?_
  refine hSeq ?_
  refine hReg (sq 0 sz) (by kernel_rfl) ?_
  refine asI rfl rfl rfl ?_
  refine rNil ?_
  refine qSeq rfl ?_
  refine hSeq ?_
  refine hReg (sl 0 (sq 1 (sl 2 (sq 3 sz)))) (by kernel_rfl) ?_
  refine ldAl Try.isAgg27 Try.sizeOf27 (cBs 2 rfl) trv rfl rfl rfl rfl ?_
  refine mvI rfl rfl rfl ?_
  refine callP (v := .int .i64 ((Math.cut (Math.cut (Math.cut (1048576 : Int) (Math.szK Math.chl z : Int)) (Math.szK Math.rwl ws : Int)) (Math.szK Math.rwl vs : Int)))) Try.call8 trv rfl rfl (fun w hs => laws_szGame_c _ nz cz _ _ _ nws cws _ _ _ nvs cvs _ _ _ w (Kn.drop (k := 3) kz w hs) (Kn.drop (k := 3) kws w hs) (Kn.drop (k := 3) kvs w hs) (by omega)) ?_
  refine asI rfl rfl rfl ?_
  refine rNil ?_
  refine qSeq rfl ?_
  refine hSeq ?_
  refine hSeq ?_
  refine hReg (sq 0 (sq 1 sz)) (by kernel_rfl) ?_
  refine mvI rfl rfl rfl ?_
  refine lss rfl rfl rfl rfl ?_
  refine rNil ?_
  refine qSeq rfl ?_
  refine hIfD rfl (fun c1 => ?_) (fun c1 => ?_)
  · -- c1T
    replace c1 : (Math.cut (Math.cut (Math.cut (1048576 : Int) (Math.szK Math.chl z : Int)) (Math.szK Math.rwl ws : Int)) (Math.szK Math.rwl vs : Int)) < 0 := c1
    refine hSeq ?_
    refine hReg (sq 0 sz) (by kernel_rfl) ?_
    refine asB rfl rfl rfl ?_
    refine rNil ?_
    refine qSeq rfl ?_
    refine hRet ?_
    exact fun w hs => ⟨[.bool true], ⟨rfl, trivial⟩, ⟨by first | rfl | exact bD (by omega) | exact bT (by omega) | exact bF (by omega) | exact vI (by omega), hs.upd⟩⟩
  · -- c1F
    replace c1 : ¬ ((Math.cut (Math.cut (Math.cut (1048576 : Int) (Math.szK Math.chl z : Int)) (Math.szK Math.rwl ws : Int)) (Math.szK Math.rwl vs : Int)) < 0) := c1
    obtain ⟨hb, hbw, hbv⟩ := Math.cut3_pos (l := 1048576) (by omega) c1
    have hble := Math.cut3_le (l := 1048576) c1 (by omega)
    refine hSkip ?_
    refine qSeq rfl ?_
    refine hSeq ?_
    refine hReg (sl 0 (sq 1 (sl 2 (sq 3 sz)))) (by kernel_rfl) ?_
    refine ldAl Try.isAgg29 Try.sizeOf29 (cBs 1 rfl) trv rfl rfl rfl rfl ?_
    refine mvI rfl rfl rfl ?_
    refine callP (v := .int .i64 ((Math.cut ((Math.cut (Math.cut (Math.cut (1048576 : Int) (Math.szK Math.chl z : Int)) (Math.szK Math.rwl ws : Int)) (Math.szK Math.rwl vs : Int))) (Math.szK Math.rwl ps : Int)))) Try.call9 trv rfl rfl (fun w hs => laws_szStrategy_c _ _ nps cps _ _ _ w (Kn.drop (k := 3) kps w hs) (by omega)) ?_
    refine asI rfl rfl rfl ?_
    refine rNil ?_
    refine qSeq rfl ?_
    refine hSeq ?_
    refine hSeq ?_
    refine hReg (sq 0 (sq 1 sz)) (by kernel_rfl) ?_
    refine mvI rfl rfl rfl ?_
    refine lss rfl rfl rfl rfl ?_
    refine rNil ?_
    refine qSeq rfl ?_
    refine hIfD rfl (fun c2 => ?_) (fun c2 => ?_)
    · -- c2T
      replace c2 : (Math.cut ((Math.cut (Math.cut (Math.cut (1048576 : Int) (Math.szK Math.chl z : Int)) (Math.szK Math.rwl ws : Int)) (Math.szK Math.rwl vs : Int))) (Math.szK Math.rwl ps : Int)) < 0 := c2
      refine hSeq ?_
      refine hReg (sq 0 sz) (by kernel_rfl) ?_
      refine asB rfl rfl rfl ?_
      refine rNil ?_
      refine qSeq rfl ?_
      refine hRet ?_
      exact fun w hs => ⟨[.bool true], ⟨rfl, trivial⟩, ⟨by first | rfl | exact bD (by omega) | exact bT (by omega) | exact bF (by omega) | exact vI (by omega), hs.upd⟩⟩
    · -- c2F
      replace c2 : ¬ ((Math.cut ((Math.cut (Math.cut (Math.cut (1048576 : Int) (Math.szK Math.chl z : Int)) (Math.szK Math.rwl ws : Int)) (Math.szK Math.rwl vs : Int))) (Math.szK Math.rwl ps : Int)) < 0) := c2
      have hbps := Math.cut_pos c2
      refine hSkip ?_
      refine qSeq rfl ?_
      refine hSeq ?_
      refine hReg (sl 0 (sq 1 (sl 2 (sq 3 sz)))) (by kernel_rfl) ?_
      refine ldAl Try.isAgg29 Try.sizeOf29 (cBs 0 rfl) trv rfl rfl rfl rfl ?_
      refine mvI rfl rfl rfl ?_
      refine callP (v := .int .i64 ((Math.cut ((Math.cut ((Math.cut (Math.cut (Math.cut (1048576 : Int) (Math.szK Math.chl z : Int)) (Math.szK Math.rwl ws : Int)) (Math.szK Math.rwl vs : Int))) (Math.szK Math.rwl ps : Int))) (Math.szK Math.rwl qs : Int)))) Try.call9 trv rfl rfl (fun w hs => laws_szStrategy_c _ _ nqs cqs _ _ _ w (Kn.drop (k := 3) kqs w hs) (by omega)) ?_
      refine asI rfl rfl rfl ?_
      refine rNil ?_
      refine qSeq rfl ?_
      refine hSeq ?_
      refine hSeq ?_
      refine hReg (sq 0 (sq 1 sz)) (by kernel_rfl) ?_
      refine mvI rfl rfl rfl ?_
      refine lss rfl rfl rfl rfl ?_
      refine rNil ?_
      refine qSeq rfl ?_
      refine hIfD rfl (fun c3 => ?_) (fun c3 => ?_)
      · -- c3T
        replace c3 : (Math.cut ((Math.cut ((Math.cut (Math.cut (Math.cut (1048576 : Int) (Math.szK Math.chl z : Int)) (Math.szK Math.rwl ws : Int)) (Math.szK Math.rwl vs : Int))) (Math.szK Math.rwl ps : Int))) (Math.szK Math.rwl qs : Int)) < 0 := c3
        refine hSeq ?_
        refine hReg (sq 0 sz) (by kernel_rfl) ?_
        refine asB rfl rfl rfl ?_
        refine rNil ?_
        refine qSeq rfl ?_
        refine hRet ?_
        exact fun w hs => ⟨[.bool true], ⟨rfl, trivial⟩, ⟨by first | rfl | exact bD (by omega) | exact bT (by omega) | exact bF (by omega) | exact vI (by omega), hs.upd⟩⟩
      · -- c3F
        replace c3 : ¬ ((Math.cut ((Math.cut ((Math.cut (Math.cut (Math.cut (1048576 : Int) (Math.szK Math.chl z : Int)) (Math.szK Math.rwl ws : Int)) (Math.szK Math.rwl vs : Int))) (Math.szK Math.rwl ps : Int))) (Math.szK Math.rwl qs : Int)) < 0) := c3
        have hbqs := (Math.cut_pos c3).1
        refine hSkip ?_
        refine qSeq rfl ?_
        refine hSeq ?_
        refine hDraw (Ls := [blk bkb3 29 [.int .i64 ql, .slice aqs nqs cqs], blk bkb2 29 [.int .i64 pl, .slice aps nps cps], blk bkb1 27 [.slice az nz cz, .slice aws nws cws, .slice avs nvs cvs]]) (by kernel_rfl) (sq 0 (sq 2 (sq 4 (.alt (sl 1 (.alt (sl 3 (.alt (sl 5 (.alt (sl 6 (sq 7 (sq 8 (sq 9 (sl 10 (sl 11 (sq 12 sz))))))) (sl 10 (sl 6 (sq 7 (sq 8 (sq 9 (sl 11 (sq 12 sz))))))))) (sl 10 (sl 5 (sl 6 (sq 7 (sq 8 (sq 9 (sl 11 (sq 12 sz)))))))))) (sl 10 (sl 3 (sl 5 (sl 6 (sq 7 (sq 8 (sq 9 (sl 11 (sq 12 sz))))))))))) (sl 10 (sl 1 (sl 3 (sl 5 (sl 6 (sq 7 (sq 8 (sq 9 (sl 11 (sq 12 sz)))))))))))))) (by kernel_rfl) (.cons_cons _ (.cons_cons _ (.cons_cons _ .slnil))) ?_
        refine ldAq Try.isAgg27 Try.sizeOf27 (cBs 2 rfl) rfl rfl rfl rfl ?_
        refine ldAq Try.isAgg29 Try.sizeOf29 (cBs 1 rfl) rfl rfl rfl rfl ?_
        refine ldAq Try.isAgg29 Try.sizeOf29 (cBs 0 rfl) rfl rfl rfl rfl ?_
        refine rAlt ?_ ?_
        ·
          refine callS Try.call11 (by exact (fun _ _ h => h.pick [3, 3, 3])) rfl rfl (fun w hs => laws_toGame_c _ nz cz _ _ _ nws cws _ _ _ nvs cvs _ _ w (Kn.drop (k := 3) kz w hs) (Kn.drop (k := 3) kws w hs) (Kn.drop (k := 3) kvs w hs) (by first | assumption | omega) (by first | assumption | omega) (by first | assumption | omega)) ?_
          rintro ⟨ay1, ny1, cy1, Hy1, y1, ayw1, nyw1, cyw1, Hyw1, yw1, ayv1, nyv1, cyv1, Hyv1, yv1⟩ ⟨hr1a, hr1b, hr1c⟩
          dsimp only at hr1a hr1b hr1c
          subst y1
          subst yw1
          subst yv1
          refine rKnow (fun w hs => (show OwnR ndK 88 2 ay1 ny1 cy1 Hy1 z w from hs.at_ 0 rfl).1) (fun lenn4 => ?_)
          refine rKnow (fun w hs => (show OwnR maK 53 2 ayw1 nyw1 cyw1 Hyw1 ws w from hs.at_ 1 rfl).1) (fun lenn5 => ?_)
          refine rKnow (fun w hs => (show OwnR maK 53 2 ayv1 nyv1 cyv1 Hyv1 vs w from hs.at_ 2 rfl).1) (fun lenn6 => ?_)
          refine rAlt ?_ ?_
          ·
            refine callS Try.call12 (by exact (fun _ _ h => h.pick [4, 4, 4])) rfl rfl (fun w hs => laws_toStrategy_c _ _ nps cps _ _ w (Kn.drop (k := 6) kps w hs) (by first | assumption | omega)) ?_
            rintro ⟨ay2, ny2, cy2, Hy2, y2⟩ hr2
            dsimp only at hr2
            subst y2
            refine rKnow (fun w hs => (show OwnR maK 53 2 ay2 ny2 cy2 Hy2 ps w from hs.at_ 0 rfl).1) (fun lenn7 => ?_)
            refine rAlt ?_ ?_
            ·
              refine callS Try.call12 (by exact (fun _ _ h => h.pick [5, 5, 5])) rfl rfl (fun w hs => laws_toStrategy_c _ _ nqs cqs _ _ w (Kn.drop (k := 7) kqs w hs) (by first | assumption | omega)) ?_
              rintro ⟨ay3, ny3, cy3, Hy3, y3⟩ hr3
              dsimp only at hr3
              subst y3
              refine rKnow (fun w hs => (show OwnR maK 53 2 ay3 ny3 cy3 Hy3 qs w from hs.at_ 0 rfl).1) (fun lenn8 => ?_)
              refine rAlt ?_ ?_
              ·
                refine callP (v := .tuple #[.agg #[.int .i64 ((Math.ratioAt z ws vs pl ps ql qs).1.1), .int .i64 ((Math.ratioAt z ws vs pl ps ql qs).1.2)], .int .i64 ((Math.ratioAt z ws vs pl ps ql qs).2)]) Try.call28 (fun _ h => h.pick [5, 5, 5]) rfl rfl (fun w hs => spec_ValueRatio_c _ ny1 cy1 _ _ _ nyw1 cyw1 _ _ _ nyv1 cyv1 _ _ _ _ ny2 cy2 _ _ _ _ ny3 cy3 _ _ w (OwnR.rd (hs.at_ 2 rfl) ndK.ok) (OwnR.rd (hs.at_ 3 rfl) maK.ok) (OwnR.rd (hs.at_ 4 rfl) maK.ok) (OwnR.rd (hs.at_ 1 rfl) maK.ok) (OwnR.rd (hs.at_ 0 rfl) maK.ok)) ?_
                refine mv rfl rfl rfl ?_
                refine ext rfl rfl rfl rfl ?_
                refine ext rfl rfl rfl rfl ?_
                refine alc Try.zeroValue59 rfl (fun _ _ h => h.pick [6, 6, 6]) rfl rfl (fun bka9 hbka9 => ?_)
                refine stAl (vs := [.int .i64 ((Math.ratioAt z ws vs pl ps ql qs).1.1), .int .i64 ((Math.ratioAt z ws vs pl ps ql qs).1.2)]) 0 rfl Try.sizeOf59 (fun _ h => h.pick [6, 6, 6]) rfl rfl rfl rfl rfl (by simp [Value.oneCell']) rfl ?_
                refine asI rfl rfl rfl ?_
                refine rNil ?_
                refine qSeq rfl ?_
                refine hSeq ?_
                refine hReg (sl 0 (sl 1 (sl 2 (sl 3 sz)))) (by kernel_rfl) ?_
                refine ldAl Try.isAgg27 Try.sizeOf27 (cBs 8 rfl) trv rfl rfl rfl rfl ?_
                refine callS Try.call11 trv1 rfl rfl (fun w hs => laws_toGame_c _ nz cz _ _ _ nws cws _ _ _ nvs cvs _ _ w (Kn.drop (k := 9) kz w hs) (Kn.drop (k := 9) kws w hs) (Kn.drop (k := 9) kvs w hs) (by first | assumption | omega) (by first | assumption | omega) (by first | assumption | omega)) ?_
                rintro ⟨ay4, ny4, cy4, Hy4, y4, ayw4, nyw4, cyw4, Hyw4, yw4, ayv4, nyv4, cyv4, Hyv4, yv4⟩ ⟨hr4a, hr4b, hr4c⟩
                dsimp only at hr4a hr4b hr4c
                subst y4
                subst yw4
                subst yv4
                refine rKnow (fun w hs => (show OwnR ndK 88 2 ay4 ny4 cy4 Hy4 z w from hs.at_ 0 rfl).1) (fun lenn10 => ?_)
                refine rKnow (fun w hs => (show OwnR maK 53 2 ayw4 nyw4 cyw4 Hyw4 ws w from hs.at_ 1 rfl).1) (fun lenn11 => ?_)
                refine rKnow (fun w hs => (show OwnR maK 53 2 ayv4 nyv4 cyv4 Hyv4 vs w from hs.at_ 2 rfl).1) (fun lenn12 => ?_)
                refine alc Try.zeroValue38 rfl trv1 rfl rfl (fun bka13 hbka13 => ?_)
                refine stAl (vs := [.slice ay4 ny4 cy4, .slice ayw4 nyw4 cyw4, .slice ayv4 nyv4 cyv4]) 0 rfl Try.sizeOf38 trv rfl rfl rfl rfl rfl (by simp [Value.oneCell']) rfl ?_
                refine rNil ?_
                refine qSeq rfl ?_
                refine hSeq ?_
                refine hReg (sl 0 (sl 1 (sl 2 (sl 3 sz)))) (by kernel_rfl) ?_
                refine ldAl Try.isAgg29 Try.sizeOf29 (cBs 11 rfl) trv rfl rfl rfl rfl ?_
                refine callS Try.call12 trv1 rfl rfl (fun w hs => laws_toStrategy_c _ _ nps cps _ _ w (Kn.drop (k := 13) kps w hs) (by first | assumption | omega)) ?_
                rintro ⟨ay5, ny5, cy5, Hy5, y5⟩ hr5
                dsimp only at hr5
                subst y5
                refine rKnow (fun w hs => (show OwnR maK 53 2 ay5 ny5 cy5 Hy5 ps w from hs.at_ 0 rfl).1) (fun lenn14 => ?_)
                refine alc Try.zeroValue40 rfl trv1 rfl rfl (fun bka15 hbka15 => ?_)
                refine stAl (vs := [.int .i64 pl, .slice ay5 ny5 cy5]) 0 rfl Try.sizeOf40 trv rfl rfl rfl rfl rfl (by simp [Value.oneCell']) rfl ?_
                refine rNil ?_
                refine qSeq rfl ?_
                refine hSeq ?_
                refine hReg (sl 0 (sl 1 (sl 2 (sl 3 sz)))) (by kernel_rfl) ?_
                refine ldAl Try.isAgg29 Try.sizeOf29 (cBs 12 rfl) trv rfl rfl rfl rfl ?_
                refine callS Try.call12 trv1 rfl rfl (fun w hs => laws_toStrategy_c _ _ nqs cqs _ _ w (Kn.drop (k := 15) kqs w hs) (by first | assumption | omega)) ?_
                rintro ⟨ay6, ny6, cy6, Hy6, y6⟩ hr6
                dsimp only at hr6
                subst y6
                refine rKnow (fun w hs => (show OwnR maK 53 2 ay6 ny6 cy6 Hy6 qs w from hs.at_ 0 rfl).1) (fun lenn16 => ?_)
                refine alc Try.zeroValue40 rfl trv1 rfl rfl (fun bka17 hbka17 => ?_)
                refine stAl (vs := [.int .i64 ql, .slice ay6 ny6 cy6]) 0 rfl Try.sizeOf40 trv rfl rfl rfl rfl rfl (by simp [Value.oneCell']) rfl ?_
                refine rNil ?_
                refine qSeq rfl ?_
                refine hSeq ?_
                refine hReg (sl 0 (sl 1 (sl 2 (sl 3 (sq 4 (sq 5 (sq 6 (sl 7 (sl 8 (sq 9 sz)))))))))) (by kernel_rfl) ?_
                refine ldAl Try.isAgg38 Try.sizeOf38 (cBs 4 rfl) trv rfl rfl rfl rfl ?_
                refine ldAl Try.isAgg40 Try.sizeOf40 (cBs 2 rfl) trv rfl rfl rfl rfl ?_
                refine ldAl Try.isAgg40 Try.sizeOf40 (cBs 0 rfl) trv rfl rfl rfl rfl ?_
                refine callP (v := .tuple #[.agg #[.int .i64 ((Math.ratioAt z ws vs pl ps ql qs).1.1), .int .i64 ((Math.ratioAt z ws vs pl ps ql qs).1.2)], .int .i64 ((Math.ratioAt z ws vs pl ps ql qs).2)]) Try.call29 trv rfl rfl (fun w hs => impl_ValueRatio_c _ ny4 cy4 _ _ _ nyw4 cyw4 _ _ _ nyv4 cyv4 _ _ _ _ ny5 cy5 _ _ _ _ ny6 cy6 _ _ w (OwnR.rd (hs.at_ 5 rfl) ndK.ok) (OwnR.rd (hs.at_ 6 rfl) maK.ok) (OwnR.rd (hs.at_ 7 rfl) maK.ok) (OwnR.rd (hs.at_ 3 rfl) maK.ok) (OwnR.rd (hs.at_ 1 rfl) maK.ok)) ?_
                refine mv rfl rfl rfl ?_
                refine ext rfl rfl rfl rfl ?_
                refine ext rfl rfl rfl rfl ?_
                refine alc Try.zeroValue59 rfl trv1 rfl rfl (fun bka18 hbka18 => ?_)
                refine stAl (vs := [.int .i64 ((Math.ratioAt z ws vs pl ps ql qs).1.1), .int .i64 ((Math.ratioAt z ws vs pl ps ql qs).1.2)]) 0 rfl Try.sizeOf59 trv rfl rfl rfl rfl rfl (by simp [Value.oneCell']) rfl ?_
                refine asI rfl rfl rfl ?_
                refine rNil ?_
                refine qSeq rfl ?_
                refine hSeq ?_
                refine hSeq ?_
                refine hReg (sl 0 (sl 1 (sl 2 (sq 3 (sq 4 (sq 5 (sq 6 (sq 7 (sq 8 sz))))))))) (by kernel_rfl) ?_
                refine ldAl Try.isAgg59 Try.sizeOf59 (cBs 0 rfl) trv rfl rfl rfl rfl ?_
                refine ldAl Try.isAgg59 Try.sizeOf59 (cBs 9 rfl) trv rfl rfl rfl rfl ?_
                refine callP (v := .bool true) Try.call30 trv rfl rfl (fun w hs => laws_eqRatio_c _ _ _ _ w (by exact ⟨rfl, rfl⟩)) ?_
                refine not rfl rfl rfl ?_
                refine mvB rfl rfl rfl ?_
                refine mvI rfl rfl rfl ?_
                refine mvI rfl rfl rfl ?_
                refine neq rfl rfl rfl rfl ?_
                refine pickB rfl rfl rfl rfl ?_
                refine rNil ?_
                refine qSeq rfl ?_
                refine hIfD rfl (fun c4 => ?_) (fun c4 => ?_)
                · -- c4T
                  replace c4 : (Math.ratioAt z ws vs pl ps ql qs).2 ≠ (Math.ratioAt z ws vs pl ps ql qs).2 := c4
                  exact absurd rfl c4
                · -- c4F
                  replace c4 : ¬ ((Math.ratioAt z ws vs pl ps ql qs).2 ≠ (Math.ratioAt z ws vs pl ps ql qs).2) := c4
                  refine hSkip ?_
                  refine qSeq rfl ?_
                  refine hSeq ?_
                  refine hSeq ?_
                  refine hDraw (Ls := [blk bka13 38 [.slice ay4 ny4 cy4, .slice ayw4 nyw4 cyw4, .slice ayv4 nyv4 cyv4], blk bkb1 27 [.slice az nz cz, .slice aws nws cws, .slice avs nvs cvs]]) (by kernel_rfl) (sq 0 (sq 1 (sl 2 (sl 3 (sq 4 sz))))) (by kernel_rfl) (.cons _ (.cons _ (.cons _ (.cons _ (.cons _ (.cons_cons _ (.cons _ (.cons _ (.cons _ (.cons _ (.cons _ (.cons _ (.cons _ (.cons _ (.cons _ (.cons _ (.cons _ (.cons_cons _ .slnil)))))))))))))))))) ?_
                  refine ldAq Try.isAgg38 Try.sizeOf38 (cBs 0 rfl) rfl rfl rfl rfl ?_
                  refine ldAq Try.isAgg27 Try.sizeOf27 (cBs 1 rfl) rfl rfl rfl rfl ?_
                  refine callS Try.call11 (by exact (fun _ _ h => h.pick [8, 19])) rfl rfl (fun w hs => laws_toGame_c _ nz cz _ _ _ nws cws _ _ _ nvs cvs _ _ w (Kn.drop (k := 18) kz w hs) (Kn.drop (k := 18) kws w hs) (Kn.drop (k := 18) kvs w hs) (by first | assumption | omega) (by first | assumption | omega) (by first | assumption | omega)) ?_
                  rintro ⟨ay7, ny7, cy7, Hy7, y7, ayw7, nyw7, cyw7, Hyw7, yw7, ayv7, nyv7, cyv7, Hyv7, yv7⟩ ⟨hr7a, hr7b, hr7c⟩
                  dsimp only at hr7a hr7b hr7c
                  subst y7
                  subst yw7
                  subst yv7
                  refine rKnow (fun w hs => (show OwnR ndK 88 2 ay7 ny7 cy7 Hy7 z w from hs.at_ 0 rfl).1) (fun lenn19 => ?_)
                  refine rKnow (fun w hs => (show OwnR maK 53 2 ayw7 nyw7 cyw7 Hyw7 ws w from hs.at_ 1 rfl).1) (fun lenn20 => ?_)
                  refine rKnow (fun w hs => (show OwnR maK 53 2 ayv7 nyv7 cyv7 Hyv7 vs w from hs.at_ 2 rfl).1) (fun lenn21 => ?_)
                  refine callP (v := .bool true) Try.call14 (fun _ h => h.pick [8, 19]) rfl rfl (fun w hs => laws_eqGame_c _ ny4 cy4 _ _ _ nyw4 cyw4 _ _ _ nyv4 cyv4 _ _ _ ny7 cy7 _ _ _ nyw7 cyw7 _ _ _ nyv7 cyv7 _ _ w (OwnR.rd (hs.at_ 9 rfl) ndK.ok) (OwnR.rd (hs.at_ 10 rfl) maK.ok) (OwnR.rd (hs.at_ 11 rfl) maK.ok) (OwnR.rd (hs.at_ 0 rfl) ndK.ok) (OwnR.rd (hs.at_ 1 rfl) maK.ok) (OwnR.rd (hs.at_ 2 rfl) maK.ok) (by exact ⟨rfl, rfl, rfl⟩)) ?_
                  refine not rfl rfl rfl ?_
                  refine rNil ?_
                  refine qSeq rfl ?_
                  refine hIfF rfl ?_
                  refine hSkip ?_
                  refine qSeq rfl ?_
                  refine hSeq ?_
                  refine hSeq ?_
                  refine hDraw (Ls := [blk bka15 40 [.int .i64 pl, .slice ay5 ny5 cy5], blk bkb2 29 [.int .i64 pl, .slice aps nps cps]]) (by kernel_rfl) (sq 0 (sq 1 (sl 2 (sl 3 (sq 4 sz))))) (by kernel_rfl) (.cons _ (.cons _ (.cons _ (.cons _ (.cons _ (.cons _ (.cons_cons _ (.cons _ (.cons _ (.cons _ (.cons _ (.cons _ (.cons _ (.cons _ (.cons _ (.cons _ (.cons _ (.cons _ (.cons _ (.cons_cons _ (.cons _ .slnil))))))))))))))))))))) ?_
                  refine ldAq Try.isAgg40 Try.sizeOf40 (cBs 0 rfl) rfl rfl rfl rfl ?_
                  refine ldAq Try.isAgg29 Try.sizeOf29 (cBs 1 rfl) rfl rfl rfl rfl ?_
                  refine callS Try.call12 (by exact (fun _ _ h => h.pick [7, 19])) rfl rfl (fun w hs => laws_toStrategy_c _ _ nps cps _ _ w (Kn.drop (k := 21) kps w hs) (by first | assumption | omega)) ?_
                  rintro ⟨ay8, ny8, cy8, Hy8, y8⟩ hr8
                  dsimp only at hr8
                  subst y8
                  refine rKnow (fun w hs => (show OwnR maK 53 2 ay8 ny8 cy8 Hy8 ps w from hs.at_ 0 rfl).1) (fun lenn22 => ?_)
                  refine callP (v := .bool true) Try.call15 (fun _ h => h.pick [7, 19]) rfl rfl (fun w hs => laws_eqStrategy_c _ _ ny5 cy5 _ _ _ _ ny8 cy8 _ _ w (OwnR.rd (hs.at_ 8 rfl) maK.ok) (OwnR.rd (hs.at_ 0 rfl) maK.ok) (by exact ⟨rfl, rfl⟩)) ?_
                  refine not rfl rfl rfl ?_
                  refine rNil ?_
                  refine qSeq rfl ?_
                  refine hIfF rfl ?_
                  refine hSkip ?_
                  refine qSeq rfl ?_
                  refine hSeq ?_
                  refine hSeq ?_
                  refine hDraw (Ls := [blk bka17 40 [.int .i64 ql, .slice ay6 ny6 cy6], blk bkb3 29 [.int .i64 ql, .slice aqs nqs cqs]]) (by kernel_rfl) (sq 0 (sq 1 (sl 2 (sl 3 (sq 4 sz))))) (by kernel_rfl) (.cons _ (.cons _ (.cons _ (.cons _ (.cons _ (.cons_cons _ (.cons _ (.cons _ (.cons _ (.cons _ (.cons _ (.cons _ (.cons _ (.cons _ (.cons _ (.cons _ (.cons _ (.cons _ (.cons _ (.cons_cons _ (.cons _ (.cons _ .slnil)))))))))))))))))))))) ?_
                  refine ldAq Try.isAgg40 Try.sizeOf40 (cBs 0 rfl) rfl rfl rfl rfl ?_
                  refine ldAq Try.isAgg29 Try.sizeOf29 (cBs 1 rfl) rfl rfl rfl rfl ?_
                  refine callS Try.call12 (by exact (fun _ _ h => h.pick [6, 19])) rfl rfl (fun w hs => laws_toStrategy_c _ _ nqs cqs _ _ w (Kn.drop (k := 22) kqs w hs) (by first | assumption | omega)) ?_
                  rintro ⟨ay9, ny9, cy9, Hy9, y9⟩ hr9
                  dsimp only at hr9
                  subst y9
                  refine rKnow (fun w hs => (show OwnR maK 53 2 ay9 ny9 cy9 Hy9 qs w from hs.at_ 0 rfl).1) (fun lenn23 => ?_)
                  refine callP (v := .bool true) Try.call15 (fun _ h => h.pick [6, 19]) rfl rfl (fun w hs => laws_eqStrategy_c _ _ ny6 cy6 _ _ _ _ ny9 cy9 _ _ w (OwnR.rd (hs.at_ 7 rfl) maK.ok) (OwnR.rd (hs.at_ 0 rfl) maK.ok) (by exact ⟨rfl, rfl⟩)) ?_
                  refine not rfl rfl rfl ?_
                  refine rNil ?_
                  refine qSeq rfl ?_
                  refine hIfF rfl ?_
                  refine hSkip ?_
                  refine qSeq rfl ?_
                  refine hSeq ?_
                  refine hReg (sq 0 sz) (by kernel_rfl) ?_
                  refine asB rfl rfl rfl ?_
                  refine rNil ?_
                  refine qSeq rfl ?_
                  refine hRet ?_
                  exact fun w hs => ⟨[.bool true], ⟨rfl, trivial⟩, ⟨by first | rfl | exact bD (by omega) | exact bT (by omega) | exact bF (by omega) | exact vI (by omega), hs.upd⟩⟩
              ·
                refine alc Try.zeroValue59 rfl (fun _ _ h => h.pick [6, 6, 6]) rfl rfl (fun bka24 hbka24 => ?_)
                refine callP (v := .tuple #[.agg #[.int .i64 ((Math.ratioAt z ws vs pl ps ql qs).1.1), .int .i64 ((Math.ratioAt z ws vs pl ps ql qs).1.2)], .int .i64 ((Math.ratioAt z ws vs pl ps ql qs).2)]) Try.call28 (fun _ h => h.pick [6, 6, 6]) rfl rfl (fun w hs => spec_ValueRatio_c _ ny1 cy1 _ _ _ nyw1 cyw1 _ _ _ nyv1 cyv1 _ _ _ _ ny2 cy2 _ _ _ _ ny3 cy3 _ _ w (OwnR.rd (hs.at_ 3 rfl) ndK.ok) (OwnR.rd (hs.at_ 4 rfl) maK.ok) (OwnR.rd (hs.at_ 5 rfl) maK.ok) (OwnR.rd (hs.at_ 2 rfl) maK.ok) (OwnR.rd (hs.at_ 1 rfl) maK.ok)) ?_
                refine mv rfl rfl rfl ?_
                refine ext rfl rfl rfl rfl ?_
                refine ext rfl rfl rfl rfl ?_
                refine stAl (vs := [.int .i64 ((Math.ratioAt z ws vs pl ps ql qs).1.1), .int .i64 ((Math.ratioAt z ws vs pl ps ql qs).1.2)]) 0 rfl Try.sizeOf59 (fun _ h => h.pick [6, 6, 6]) rfl rfl rfl rfl rfl (by simp [Value.oneCell']) rfl ?_
                refine asI rfl rfl rfl ?_
                refine rNil ?_
                refine qSeq rfl ?_
                refine hSeq ?_
                refine hReg (sl 0 (sl 1 (sl 2 (sl 3 sz)))) (by kernel_rfl) ?_
                refine ldAl Try.isAgg27 Try.sizeOf27 (cBs 8 rfl) trv rfl rfl rfl rfl ?_
                refine callS Try.call11 trv1 rfl rfl (fun w hs => laws_toGame_c _ nz cz _ _ _ nws cws _ _ _ nvs cvs _ _ w (Kn.drop (k := 9) kz w hs) (Kn.drop (k := 9) kws w hs) (Kn.drop (k := 9) kvs w hs) (by first | assumption | omega) (by first | assumption | omega) (by first | assumption | omega)) ?_
                rintro ⟨ay10, ny10, cy10, Hy10, y10, ayw10, nyw10, cyw10, Hyw10, yw10, ayv10, nyv10, cyv10, Hyv10, yv10⟩ ⟨hr10a, hr10b, hr10c⟩
                dsimp only at hr10a hr10b hr10c
                subst y10
                subst yw10
                subst yv10
                refine rKnow (fun w hs => (show OwnR ndK 88 2 ay10 ny10 cy10 Hy10 z w from hs.at_ 0 rfl).1) (fun lenn25 => ?_)
                refine rKnow (fun w hs => (show OwnR maK 53 2 ayw10 nyw10 cyw10 Hyw10 ws w from hs.at_ 1 rfl).1) (fun lenn26 => ?_)
                refine rKnow (fun w hs => (show OwnR maK 53 2 ayv10 nyv10 cyv10 Hyv10 vs w from hs.at_ 2 rfl).1) (fun lenn27 => ?_)
                refine alc Try.zeroValue38 rfl trv1 rfl rfl (fun bka28 hbka28 => ?_)
                refine stAl (vs := [.slice ay10 ny10 cy10, .slice ayw10 nyw10 cyw10, .slice ayv10 nyv10 cyv10]) 0 rfl Try.sizeOf38 trv rfl rfl rfl rfl rfl (by simp [Value.oneCell']) rfl ?_
                refine rNil ?_
                refine qSeq rfl ?_
                refine hSeq ?_
                refine hReg (sl 0 (sl 1 (sl 2 (sl 3 sz)))) (by kernel_rfl) ?_
                refine ldAl Try.isAgg29 Try.sizeOf29 (cBs 11 rfl) trv rfl rfl rfl rfl ?_
                refine callS Try.call12 trv1 rfl rfl (fun w hs => laws_toStrategy_c _ _ nps cps _ _ w (Kn.drop (k := 13) kps w hs) (by first | assumption | omega)) ?_
                rintro ⟨ay11, ny11, cy11, Hy11, y11⟩ hr11
                dsimp only at hr11
                subst y11
                refine rKnow (fun w hs => (show OwnR maK 53 2 ay11 ny11 cy11 Hy11 ps w from hs.at_ 0 rfl).1) (fun lenn29 => ?_)
                refine alc Try.zeroValue40 rfl trv1 rfl rfl (fun bka30 hbka30 => ?_)
                refine stAl (vs := [.int .i64 pl, .slice ay11 ny11 cy11]) 0 rfl Try.sizeOf40 trv rfl rfl rfl rfl rfl (by simp [Value.oneCell']) rfl ?_
                refine rNil ?_
                refine qSeq rfl ?_
                refine hSeq ?_
                refine hReg (sl 0 (sl 1 (sl 2 (sl 3 sz)))) (by kernel_rfl) ?_
                refine ldAl Try.isAgg29 Try.sizeOf29 (cBs 12 rfl) trv rfl rfl rfl rfl ?_
                refine callS Try.call12 trv1 rfl rfl (fun w hs => laws_toStrategy_c _ _ nqs cqs _ _ w (Kn.drop (k := 15) kqs w hs) (by first | assumption | omega)) ?_
                rintro ⟨ay12, ny12, cy12, Hy12, y12⟩ hr12
                dsimp only at hr12
                subst y12
                refine rKnow (fun w hs => (show OwnR maK 53 2 ay12 ny12 cy12 Hy12 qs w from hs.at_ 0 rfl).1) (fun lenn31 => ?_)
                refine alc Try.zeroValue40 rfl trv1 rfl rfl (fun bka32 hbka32 => ?_)
                refine stAl (vs := [.int .i64 ql, .slice ay12 ny12 cy12]) 0 rfl Try.sizeOf40 trv rfl rfl rfl rfl rfl (by simp [Value.oneCell']) rfl ?_
                refine rNil ?_
                refine qSeq rfl ?_
                refine hSeq ?_
                refine hReg (sl 0 (sl 1 (sl 2 (sl 3 (sq 4 (sq 5 (sq 6 (sl 7 (sl 8 (sq 9 sz)))))))))) (by kernel_rfl) ?_
                refine ldAl Try.isAgg38 Try.sizeOf38 (cBs 4 rfl) trv rfl rfl rfl rfl ?_
                refine ldAl Try.isAgg40 Try.sizeOf40 (cBs 2 rfl) trv rfl rfl rfl rfl ?_
                refine ldAl Try.isAgg40 Try.sizeOf40 (cBs 0 rfl) trv rfl rfl rfl rfl ?_
                refine callP (v := .tuple #[.agg #[.int .i64 ((Math.ratioAt z ws vs pl ps ql qs).1.1), .int .i64 ((Math.ratioAt z ws vs pl ps ql qs).1.2)], .int .i64 ((Math.ratioAt z ws vs pl ps ql qs).2)]) Try.call29 trv rfl rfl (fun w hs => impl_ValueRatio_c _ ny10 cy10 _ _ _ nyw10 cyw10 _ _ _ nyv10 cyv10 _ _ _ _ ny11 cy11 _ _ _ _ ny12 cy12 _ _ w (OwnR.rd (hs.at_ 5 rfl) ndK.ok) (OwnR.rd (hs.at_ 6 rfl) maK.ok) (OwnR.rd (hs.at_ 7 rfl) maK.ok) (OwnR.rd (hs.at_ 3 rfl) maK.ok) (OwnR.rd (hs.at_ 1 rfl) maK.ok)) ?_
                refine mv rfl rfl rfl ?_
                refine ext rfl rfl rfl rfl ?_
                refine ext rfl rfl rfl rfl ?_
                refine alc Try.zeroValue59 rfl trv1 rfl rfl (fun bka33 hbka33 => ?_)
                refine stAl (vs := [.int .i64 ((Math.ratioAt z ws vs pl ps ql qs).1.1), .int .i64 ((Math.ratioAt z ws vs pl ps ql qs).1.2)]) 0 rfl Try.sizeOf59 trv rfl rfl rfl rfl rfl (by simp [Value.oneCell']) rfl ?_
                refine asI rfl rfl rfl ?_
                refine rNil ?_
                refine qSeq rfl ?_
                refine hSeq ?_
                refine hSeq ?_
                refine hReg (sl 0 (sl 1 (sl 2 (sq 3 (sq 4 (sq 5 (sq 6 (sq 7 (sq 8 sz))))))))) (by kernel_rfl) ?_
                refine ldAl Try.isAgg59 Try.sizeOf59 (cBs 0 rfl) trv rfl rfl rfl rfl ?_
                refine ldAl Try.isAgg59 Try.sizeOf59 (cBs 9 rfl) trv rfl rfl rfl rfl ?_
                refine callP (v := .bool true) Try.call30 trv rfl rfl (fun w hs => laws_eqRatio_c _ _ _ _ w (by exact ⟨rfl, rfl⟩)) ?_
                refine not rfl rfl rfl ?_
                refine mvB rfl rfl rfl ?_
                refine mvI rfl rfl rfl ?_
                refine mvI rfl rfl rfl ?_
                refine neq rfl rfl rfl rfl ?_
                refine pickB rfl rfl rfl rfl ?_
                refine rNil ?_
                refine qSeq rfl ?_
                refine hIfD rfl (fun c5 => ?_) (fun c5 => ?_)
                · -- c5T
                  replace c5 : (Math.ratioAt z ws vs pl ps ql qs).2 ≠ (Math.ratioAt z ws vs pl ps ql qs).2 := c5
                  exact absurd rfl c5
                · -- c5F
                  replace c5 : ¬ ((Math.ratioAt z ws vs pl ps ql qs).2 ≠ (Math.ratioAt z ws vs pl ps ql qs).2) := c5
                  refine hSkip ?_
                  refine qSeq rfl ?_
                  refine hSeq ?_
                  refine hSeq ?_
                  refine hDraw (Ls := [blk bka28 38 [.slice ay10 ny10 cy10, .slice ayw10 nyw10 cyw10, .slice ayv10 nyv10 cyv10], blk bkb1 27 [.slice az nz cz, .slice aws nws cws, .slice avs nvs cvs]]) (by kernel_rfl) (sq 0 (sq 1 (sl 2 (sl 3 (sq 4 sz))))) (by kernel_rfl) (.cons _ (.cons _ (.cons _ (.cons _ (.cons _ (.cons_cons _ (.cons _ (.cons _ (.cons _ (.cons _ (.cons _ (.cons _ (.cons _ (.cons _ (.cons _ (.cons _ (.cons _ (.cons_cons _ .slnil)))))))))))))))))) ?_
                  refine ldAq Try.isAgg38 Try.sizeOf38 (cBs 0 rfl) rfl rfl rfl rfl ?_
                  refine ldAq Try.isAgg27 Try.sizeOf27 (cBs 1 rfl) rfl rfl rfl rfl ?_
                  refine callS Try.call11 (by exact (fun _ _ h => h.pick [8, 19])) rfl rfl (fun w hs => laws_toGame_c _ nz cz _ _ _ nws cws _ _ _ nvs cvs _ _ w (Kn.drop (k := 18) kz w hs) (Kn.drop (k := 18) kws w hs) (Kn.drop (k := 18) kvs w hs) (by first | assumption | omega) (by first | assumption | omega) (by first | assumption | omega)) ?_
                  rintro ⟨ay13, ny13, cy13, Hy13, y13, ayw13, nyw13, cyw13, Hyw13, yw13, ayv13, nyv13, cyv13, Hyv13, yv13⟩ ⟨hr13a, hr13b, hr13c⟩
                  dsimp only at hr13a hr13b hr13c
                  subst y13
                  subst yw13
                  subst yv13
                  refine rKnow (fun w hs => (show OwnR ndK 88 2 ay13 ny13 cy13 Hy13 z w from hs.at_ 0 rfl).1) (fun lenn34 => ?_)
                  refine rKnow (fun w hs => (show OwnR maK 53 2 ayw13 nyw13 cyw13 Hyw13 ws w from hs.at_ 1 rfl).1) (fun lenn35 => ?_)
                  refine rKnow (fun w hs => (show OwnR maK 53 2 ayv13 nyv13 cyv13 Hyv13 vs w from hs.at_ 2 rfl).1) (fun lenn36 => ?_)
                  refine callP (v := .bool true) Try.call14 (fun _ h => h.pick [8, 19]) rfl rfl (fun w hs => laws_eqGame_c _ ny10 cy10 _ _ _ nyw10 cyw10 _ _ _ nyv10 cyv10 _ _ _ ny13 cy13 _ _ _ nyw13 cyw13 _ _ _ nyv13 cyv13 _ _ w (OwnR.rd (hs.at_ 9 rfl) ndK.ok) (OwnR.rd (hs.at_ 10 rfl) maK.ok) (OwnR.rd (hs.at_ 11 rfl) maK.ok) (OwnR.rd (hs.at_ 0 rfl) ndK.ok) (OwnR.rd (hs.at_ 1 rfl) maK.ok) (OwnR.rd (hs.at_ 2 rfl) maK.ok) (by exact ⟨rfl, rfl, rfl⟩)) ?_
                  refine not rfl rfl rfl ?_
                  refine rNil ?_
                  refine qSeq rfl ?_
                  refine hIfF rfl ?_
                  refine hSkip ?_
                  refine qSeq rfl ?_
                  refine hSeq ?_
                  refine hSeq ?_
                  refine hDraw (Ls := [blk bka30 40 [.int .i64 pl, .slice ay11 ny11 cy11], blk bkb2 29 [.int .i64 pl, .slice aps nps cps]]) (by kernel_rfl) (sq 0 (sq 1 (sl 2 (sl 3 (sq 4 sz))))) (by kernel_rfl) (.cons _ (.cons _ (.cons _ (.cons _ (.cons _ (.cons _ (.cons_cons _ (.cons _ (.cons _ (.cons _ (.cons _ (.cons _ (.cons _ (.cons _ (.cons _ (.cons _ (.cons _ (.cons _ (.cons _ (.cons_cons _ (.cons _ .slnil))))))))))))))))))))) ?_
                  refine ldAq Try.isAgg40 Try.sizeOf40 (cBs 0 rfl) rfl rfl rfl rfl ?_
                  refine ldAq Try.isAgg29 Try.sizeOf29 (cBs 1 rfl) rfl rfl rfl rfl ?_
                  refine callS Try.call12 (by exact (fun _ _ h => h.pick [7, 19])) rfl rfl (fun w hs => laws_toStrategy_c _ _ nps cps _ _ w (Kn.drop (k := 21) kps w hs) (by first | assumption | omega)) ?_
                  rintro ⟨ay14, ny14, cy14, Hy14, y14⟩ hr14
                  dsimp only at hr14
                  subst y14
                  refine rKnow (fun w hs => (show OwnR maK 53 2 ay14 ny14 cy14 Hy14 ps w from hs.at_ 0 rfl).1) (fun lenn37 => ?_)
                  refine callP (v := .bool true) Try.call15 (fun _ h => h.pick [7, 19]) rfl rfl (fun w hs => laws_eqStrategy_c _ _ ny11 cy11 _ _ _ _ ny14 cy14 _ _ w (OwnR.rd (hs.at_ 8 rfl) maK.ok) (OwnR.rd (hs.at_ 0 rfl) maK.ok) (by exact ⟨rfl, rfl⟩)) ?_
                  refine not rfl rfl rfl ?_
                  refine rNil ?_
                  refine qSeq rfl ?_
                  refine hIfF rfl ?_
                  refine hSkip ?_
                  refine qSeq rfl ?_
                  refine hSeq ?_
                  refine hSeq ?_
                  refine hDraw (Ls := [blk bka32 40 [.int .i64 ql, .slice ay12 ny12 cy12], blk bkb3 29 [.int .i64 ql, .slice aqs nqs cqs]]) (by kernel_rfl) (sq 0 (sq 1 (sl 2 (sl 3 (sq 4 sz))))) (by kernel_rfl) (.cons _ (.cons _ (.cons _ (.cons _ (.cons _ (.cons_cons _ (.cons _ (.cons _ (.cons _ (.cons _ (.cons _ (.cons _ (.cons _ (.cons _ (.cons _ (.cons _ (.cons _ (.cons _ (.cons _ (.cons_cons _ (.cons _ (.cons _ .slnil)))))))))))))))))))))) ?_
                  refine ldAq Try.isAgg40 Try.sizeOf40 (cBs 0 rfl) rfl rfl rfl rfl ?_
                  refine ldAq Try.isAgg29 Try.sizeOf29 (cBs 1 rfl) rfl rfl rfl rfl ?_
                  refine callS Try.call12 (by exact (fun _ _ h => h.pick [6, 19])) rfl rfl (fun w hs => laws_toStrategy_c _ _ nqs cqs _ _ w (Kn.drop (k := 22) kqs w hs) (by first | assumption | omega)) ?_
                  rintro ⟨ay15, ny15, cy15, Hy15, y15⟩ hr15
                  dsimp only at hr15
                  subst y15
                  refine rKnow (fun w hs => (show OwnR maK 53 2 ay15 ny15 cy15 Hy15 qs w from hs.at_ 0 rfl).1) (fun lenn38 => ?_)
                  refine callP (v := .bool true) Try.call15 (fun _ h => h.pick [6, 19]) rfl rfl (fun w hs => laws_eqStrategy_c _ _ ny12 cy12 _ _ _ _ ny15 cy15 _ _ w (OwnR.rd (hs.at_ 7 rfl) maK.ok) (OwnR.rd (hs.at_ 0 rfl) maK.ok) (by exact ⟨rfl, rfl⟩)) ?_
                  refine not rfl rfl rfl ?_
                  refine rNil ?_
                  refine qSeq rfl ?_
                  refine hIfF rfl ?_
                  refine hSkip ?_
                  refine qSeq rfl ?_
                  refine hSeq ?_
                  refine hReg (sq 0 sz) (by kernel_rfl) ?_
                  refine asB rfl rfl rfl ?_
                  refine rNil ?_
                  refine qSeq rfl ?_
                  refine hRet ?_
                  exact fun w hs => ⟨[.bool true], ⟨rfl, trivial⟩, ⟨by first | rfl | exact bD (by omega) | exact bT (by omega) | exact bF (by omega) | exact vI (by omega), hs.upd⟩⟩
            ·
              refine alc Try.zeroValue59 rfl (fun _ _ h => h.pick [5, 5, 5]) rfl rfl (fun bka39 hbka39 => ?_)
              refine callS Try.call12 (by exact (fun _ _ h => h.pick [6, 6, 6])) rfl rfl (fun w hs => laws_toStrategy_c _ _ nqs cqs _ _ w (Kn.drop (k := 8) kqs w hs) (by first | assumption | omega)) ?_
              rintro ⟨ay16, ny16, cy16, Hy16, y16⟩ hr16
              dsimp only at hr16
              subst y16
              refine rKnow (fun w hs => (show OwnR maK 53 2 ay16 ny16 cy16 Hy16 qs w from hs.at_ 0 rfl).1) (fun lenn40 => ?_)
              refine callP (v := .tuple #[.agg #[.int .i64 ((Math.ratioAt z ws vs pl ps ql qs).1.1), .int .i64 ((Math.ratioAt z ws vs pl ps ql qs).1.2)], .int .i64 ((Math.ratioAt z ws vs pl ps ql qs).2)]) Try.call28 (fun _ h => h.pick [6, 6, 6]) rfl rfl (fun w hs => spec_ValueRatio_c _ ny1 cy1 _ _ _ nyw1 cyw1 _ _ _ nyv1 cyv1 _ _ _ _ ny2 cy2 _ _ _ _ ny16 cy16 _ _ w (OwnR.rd (hs.at_ 3 rfl) ndK.ok) (OwnR.rd (hs.at_ 4 rfl) maK.ok) (OwnR.rd (hs.at_ 5 rfl) maK.ok) (OwnR.rd (hs.at_ 2 rfl) maK.ok) (OwnR.rd (hs.at_ 0 rfl) maK.ok)) ?_
              refine mv rfl rfl rfl ?_
              refine ext rfl rfl rfl rfl ?_
              refine ext rfl rfl rfl rfl ?_
              refine stAl (vs := [.int .i64 ((Math.ratioAt z ws vs pl ps ql qs).1.1), .int .i64 ((Math.ratioAt z ws vs pl ps ql qs).1.2)]) 1 rfl Try.sizeOf59 (fun _ h => h.pick [6, 6, 6]) rfl rfl rfl rfl rfl (by simp [Value.oneCell']) rfl ?_
              refine asI rfl rfl rfl ?_
              refine rNil ?_
              refine qSeq rfl ?_
              refine hSeq ?_
              refine hReg (sl 0 (sl 1 (sl 2 (sl 3 sz)))) (by kernel_rfl) ?_
              refine ldAl Try.isAgg27 Try.sizeOf27 (cBs 8 rfl) trv rfl rfl rfl rfl ?_
              refine callS Try.call11 trv1 rfl rfl (fun w hs => laws_toGame_c _ nz cz _ _ _ nws cws _ _ _ nvs cvs _ _ w (Kn.drop (k := 9) kz w hs) (Kn.drop (k := 9) kws w hs) (Kn.drop (k := 9) kvs w hs) (by first | assumption | omega) (by first | assumption | omega) (by first | assumption | omega)) ?_
              rintro ⟨ay17, ny17, cy17, Hy17, y17, ayw17, nyw17, cyw17, Hyw17, yw17, ayv17, nyv17, cyv17, Hyv17, yv17⟩ ⟨hr17a, hr17b, hr17c⟩
              dsimp only at hr17a hr17b hr17c
              subst y17
              subst yw17
              subst yv17
              refine rKnow (fun w hs => (show OwnR ndK 88 2 ay17 ny17 cy17 Hy17 z w from hs.at_ 0 rfl).1) (fun lenn41 => ?_)
              refine rKnow (fun w hs => (show OwnR maK 53 2 ayw17 nyw17 cyw17 Hyw17 ws w from hs.at_ 1 rfl).1) (fun lenn42 => ?_)
              refine rKnow (fun w hs => (show OwnR maK 53 2 ayv17 nyv17 cyv17 Hyv17 vs w from hs.at_ 2 rfl).1) (fun lenn43 => ?_)
              refine alc Try.zeroValue38 rfl trv1 rfl rfl (fun bka44 hbka44 => ?_)
              refine stAl (vs := [.slice ay17 ny17 cy17, .slice ayw17 nyw17 cyw17, .slice ayv17 nyv17 cyv17]) 0 rfl Try.sizeOf38 trv rfl rfl rfl rfl rfl (by simp [Value.oneCell']) rfl ?_
              refine rNil ?_
              refine qSeq rfl ?_
              refine hSeq ?_
              refine hReg (sl 0 (sl 1 (sl 2 (sl 3 sz)))) (by kernel_rfl) ?_
              refine ldAl Try.isAgg29 Try.sizeOf29 (cBs 11 rfl) trv rfl rfl rfl rfl ?_
              refine callS Try.call12 trv1 rfl rfl (fun w hs => laws_toStrategy_c _ _ nps cps _ _ w (Kn.drop (k := 13) kps w hs) (by first | assumption | omega)) ?_
              rintro ⟨ay18, ny18, cy18, Hy18, y18⟩ hr18
              dsimp only at hr18
              subst y18
              refine rKnow (fun w hs => (show OwnR maK 53 2 ay18 ny18 cy18 Hy18 ps w from hs.at_ 0 rfl).1) (fun lenn45 => ?_)
              refine alc Try.zeroValue40 rfl trv1 rfl rfl (fun bka46 hbka46 => ?_)
              refine stAl (vs := [.int .i64 pl, .slice ay18 ny18 cy18]) 0 rfl Try.sizeOf40 trv rfl rfl rfl rfl rfl (by simp [Value.oneCell']) rfl ?_
              refine rNil ?_
              refine qSeq rfl ?_
              refine hSeq ?_
              refine hReg (sl 0 (sl 1 (sl 2 (sl 3 sz)))) (by kernel_rfl) ?_
              refine ldAl Try.isAgg29 Try.sizeOf29 (cBs 12 rfl) trv rfl rfl rfl rfl ?_
              refine callS Try.call12 trv1 rfl rfl (fun w hs => laws_toStrategy_c _ _ nqs cqs _ _ w (Kn.drop (k := 15) kqs w hs) (by first | assumption | omega)) ?_
              rintro ⟨ay19, ny19, cy19, Hy19, y19⟩ hr19
              dsimp only at hr19
              subst y19
              refine rKnow (fun w hs => (show OwnR maK 53 2 ay19 ny19 cy19 Hy19 qs w from hs.at_ 0 rfl).1) (fun lenn47 => ?_)
              refine alc Try.zeroValue40 rfl trv1 rfl rfl (fun bka48 hbka48 => ?_)
              refine stAl (vs := [.int .i64 ql, .slice ay19 ny19 cy19]) 0 rfl Try.sizeOf40 trv rfl rfl rfl rfl rfl (by simp [Value.oneCell']) rfl ?_
              refine rNil ?_
              refine qSeq rfl ?_
              refine hSeq ?_
              refine hReg (sl 0 (sl 1 (sl 2 (sl 3 (sq 4 (sq 5 (sq 6 (sl 7 (sl 8 (sq 9 sz)))))))))) (by kernel_rfl) ?_
              refine ldAl Try.isAgg38 Try.sizeOf38 (cBs 4 rfl) trv rfl rfl rfl rfl ?_
              refine ldAl Try.isAgg40 Try.sizeOf40 (cBs 2 rfl) trv rfl rfl rfl rfl ?_
              refine ldAl Try.isAgg40 Try.sizeOf40 (cBs 0 rfl) trv rfl rfl rfl rfl ?_
              refine callP (v := .tuple #[.agg #[.int .i64 ((Math.ratioAt z ws vs pl ps ql qs).1.1), .int .i64 ((Math.ratioAt z ws vs pl ps ql qs).1.2)], .int .i64 ((Math.ratioAt z ws vs pl ps ql qs).2)]) Try.call29 trv rfl rfl (fun w hs => impl_ValueRatio_c _ ny17 cy17 _ _ _ nyw17 cyw17 _ _ _ nyv17 cyv17 _ _ _ _ ny18 cy18 _ _ _ _ ny19 cy19 _ _ w (OwnR.rd (hs.at_ 5 rfl) ndK.ok) (OwnR.rd (hs.at_ 6 rfl) maK.ok) (OwnR.rd (hs.at_ 7 rfl) maK.ok) (OwnR.rd (hs.at_ 3 rfl) maK.ok) (OwnR.rd (hs.at_ 1 rfl) maK.ok)) ?_
              refine mv rfl rfl rfl ?_
              refine ext rfl rfl rfl rfl ?_
              refine ext rfl rfl rfl rfl ?_
              refine alc Try.zeroValue59 rfl trv1 rfl rfl (fun bka49 hbka49 => ?_)
              refine stAl (vs := [.int .i64 ((Math.ratioAt z ws vs pl ps ql qs).1.1), .int .i64 ((Math.ratioAt z ws vs pl ps ql qs).1.2)]) 0 rfl Try.sizeOf59 trv rfl rfl rfl rfl rfl (by simp [Value.oneCell']) rfl ?_
              refine asI rfl rfl rfl ?_
              refine rNil ?_
              refine qSeq rfl ?_
              refine hSeq ?_
              refine hSeq ?_
              refine hReg (sl 0 (sl 1 (sl 2 (sq 3 (sq 4 (sq 5 (sq 6 (sq 7 (sq 8 sz))))))))) (by kernel_rfl) ?_
              refine ldAl Try.isAgg59 Try.sizeOf59 (cBs 0 rfl) trv rfl rfl rfl rfl ?_
              refine ldAl Try.isAgg59 Try.sizeOf59 (cBs 10 rfl) trv rfl rfl rfl rfl ?_
              refine callP (v := .bool true) Try.call30 trv rfl rfl (fun w hs => laws_eqRatio_c _ _ _ _ w (by exact ⟨rfl, rfl⟩)) ?_
              refine not rfl rfl rfl ?_
              refine mvB rfl rfl rfl ?_
              refine mvI rfl rfl rfl ?_
              refine mvI rfl rfl rfl ?_
              refine neq rfl rfl rfl rfl ?_
              refine pickB rfl rfl rfl rfl ?_
              refine rNil ?_
              refine qSeq rfl ?_
              refine hIfD rfl (fun c6 => ?_) (fun c6 => ?_)
              · -- c6T
                replace c6 : (Math.ratioAt z ws vs pl ps ql qs).2 ≠ (Math.ratioAt z ws vs pl ps ql qs).2 := c6
                exact absurd rfl c6
              · -- c6F
                replace c6 : ¬ ((Math.ratioAt z ws vs pl ps ql qs).2 ≠ (Math.ratioAt z ws vs pl ps ql qs).2) := c6
                refine hSkip ?_
                refine qSeq rfl ?_
                refine hSeq ?_
                refine hSeq ?_
                refine hDraw (Ls := [blk bka44 38 [.slice ay17 ny17 cy17, .slice ayw17 nyw17 cyw17, .slice ayv17 nyv17 cyv17], blk bkb1 27 [.slice az nz cz, .slice aws nws cws, .slice avs nvs cvs]]) (by kernel_rfl) (sq 0 (sq 1 (sl 2 (sl 3 (sq 4 sz))))) (by kernel_rfl) (.cons _ (.cons _ (.cons _ (.cons _ (.cons _ (.cons_cons _ (.cons _ (.cons _ (.cons _ (.cons _ (.cons _ (.cons _ (.cons _ (.cons _ (.cons _ (.cons _ (.cons _ (.cons_cons _ .slnil)))))))))))))))))) ?_
                refine ldAq Try.isAgg38 Try.sizeOf38 (cBs 0 rfl) rfl rfl rfl rfl ?_
                refine ldAq Try.isAgg27 Try.sizeOf27 (cBs 1 rfl) rfl rfl rfl rfl ?_
                refine callS Try.call11 (by exact (fun _ _ h => h.pick [8, 19])) rfl rfl (fun w hs => laws_toGame_c _ nz cz _ _ _ nws cws _ _ _ nvs cvs _ _ w (Kn.drop (k := 18) kz w hs) (Kn.drop (k := 18) kws w hs) (Kn.drop (k := 18) kvs w hs) (by first | assumption | omega) (by first | assumption | omega) (by first | assumption | omega)) ?_
                rintro ⟨ay20, ny20, cy20, Hy20, y20, ayw20, nyw20, cyw20, Hyw20, yw20, ayv20, nyv20, cyv20, Hyv20, yv20⟩ ⟨hr20a, hr20b, hr20c⟩
                dsimp only at hr20a hr20b hr20c
                subst y20
                subst yw20
                subst yv20
                refine rKnow (fun w hs => (show OwnR ndK 88 2 ay20 ny20 cy20 Hy20 z w from hs.at_ 0 rfl).1) (fun lenn50 => ?_)
                refine rKnow (fun w hs => (show OwnR maK 53 2 ayw20 nyw20 cyw20 Hyw20 ws w from hs.at_ 1 rfl).1) (fun lenn51 => ?_)
                refine rKnow (fun w hs => (show OwnR maK 53 2 ayv20 nyv20 cyv20 Hyv20 vs w from hs.at_ 2 rfl).1) (fun lenn52 => ?_)
                refine callP (v := .bool true) Try.call14 (fun _ h => h.pick [8, 19]) rfl rfl (fun w hs => laws_eqGame_c _ ny17 cy17 _ _ _ nyw17 cyw17 _ _ _ nyv17 cyv17 _ _ _ ny20 cy20 _ _ _ nyw20 cyw20 _ _ _ nyv20 cyv20 _ _ w (OwnR.rd (hs.at_ 9 rfl) ndK.ok) (OwnR.rd (hs.at_ 10 rfl) maK.ok) (OwnR.rd (hs.at_ 11 rfl) maK.ok) (OwnR.rd (hs.at_ 0 rfl) ndK.ok) (OwnR.rd (hs.at_ 1 rfl) maK.ok) (OwnR.rd (hs.at_ 2 rfl) maK.ok) (by exact ⟨rfl, rfl, rfl⟩)) ?_
                refine not rfl rfl rfl ?_
                refine rNil ?_
                refine qSeq rfl ?_
                refine hIfF rfl ?_
                refine hSkip ?_
                refine qSeq rfl ?_
                refine hSeq ?_
                refine hSeq ?_
                refine hDraw (Ls := [blk bka46 40 [.int .i64 pl, .slice ay18 ny18 cy18], blk bkb2 29 [.int .i64 pl, .slice aps nps cps]]) (by kernel_rfl) (sq 0 (sq 1 (sl 2 (sl 3 (sq 4 sz))))) (by kernel_rfl) (.cons _ (.cons _ (.cons _ (.cons _ (.cons _ (.cons _ (.cons_cons _ (.cons _ (.cons _ (.cons _ (.cons _ (.cons _ (.cons _ (.cons _ (.cons _ (.cons _ (.cons _ (.cons _ (.cons _ (.cons_cons _ (.cons _ .slnil))))))))))))))))))))) ?_
                refine ldAq Try.isAgg40 Try.sizeOf40 (cBs 0 rfl) rfl rfl rfl rfl ?_
                refine ldAq Try.isAgg29 Try.sizeOf29 (cBs 1 rfl) rfl rfl rfl rfl ?_
                refine callS Try.call12 (by exact (fun _ _ h => h.pick [7, 19])) rfl rfl (fun w hs => laws_toStrategy_c _ _ nps cps _ _ w (Kn.drop (k := 21) kps w hs) (by first | assumption | omega)) ?_
                rintro ⟨ay21, ny21, cy21, Hy21, y21⟩ hr21
                dsimp only at hr21
                subst y21
                refine rKnow (fun w hs => (show OwnR maK 53 2 ay21 ny21 cy21 Hy21 ps w from hs.at_ 0 rfl).1) (fun lenn53 => ?_)
                refine callP (v := .bool true) Try.call15 (fun _ h => h.pick [7, 19]) rfl rfl (fun w hs => laws_eqStrategy_c _ _ ny18 cy18 _ _ _ _ ny21 cy21 _ _ w (OwnR.rd (hs.at_ 8 rfl) maK.ok) (OwnR.rd (hs.at_ 0 rfl) maK.ok) (by exact ⟨rfl, rfl⟩)) ?_
                refine not rfl rfl rfl ?_
                refine rNil ?_
                refine qSeq rfl ?_
                refine hIfF rfl ?_
                refine hSkip ?_
                refine qSeq rfl ?_
                refine hSeq ?_
                refine hSeq ?_
                refine hDraw (Ls := [blk bka48 40 [.int .i64 ql, .slice ay19 ny19 cy19], blk bkb3 29 [.int .i64 ql, .slice aqs nqs cqs]]) (by kernel_rfl) (sq 0 (sq 1 (sl 2 (sl 3 (sq 4 sz))))) (by kernel_rfl) (.cons _ (.cons _ (.cons _ (.cons _ (.cons _ (.cons_cons _ (.cons _ (.cons _ (.cons _ (.cons _ (.cons _ (.cons _ (.cons _ (.cons _ (.cons _ (.cons _ (.cons _ (.cons _ (.cons _ (.cons_cons _ (.cons _ (.cons _ .slnil)))))))))))))))))))))) ?_
                refine ldAq Try.isAgg40 Try.sizeOf40 (cBs 0 rfl) rfl rfl rfl rfl ?_
                refine ldAq Try.isAgg29 Try.sizeOf29 (cBs 1 rfl) rfl rfl rfl rfl ?_
                refine callS Try.call12 (by exact (fun _ _ h => h.pick [6, 19])) rfl rfl (fun w hs => laws_toStrategy_c _ _ nqs cqs _ _ w (Kn.drop (k := 22) kqs w hs) (by first | assumption | omega)) ?_
                rintro ⟨ay22, ny22, cy22, Hy22, y22⟩ hr22
                dsimp only at hr22
                subst y22
                refine rKnow (fun w hs => (show OwnR maK 53 2 ay22 ny22 cy22 Hy22 qs w from hs.at_ 0 rfl).1) (fun lenn54 => ?_)
                refine callP (v := .bool true) Try.call15 (fun _ h => h.pick [6, 19]) rfl rfl (fun w hs => laws_eqStrategy_c _ _ ny19 cy19 _ _ _ _ ny22 cy22 _ _ w (OwnR.rd (hs.at_ 7 rfl) maK.ok) (OwnR.rd (hs.at_ 0 rfl) maK.ok) (by exact ⟨rfl, rfl⟩)) ?_
                refine not rfl rfl rfl ?_
                refine rNil ?_
                refine qSeq rfl ?_
                refine hIfF rfl ?_
                refine hSkip ?_
                refine qSeq rfl ?_
                refine hSeq ?_
                refine hReg (sq 0 sz) (by kernel_rfl) ?_
                refine asB rfl rfl rfl ?_
                refine rNil ?_
                refine qSeq rfl ?_
                refine hRet ?_
                exact fun w hs => ⟨[.bool true], ⟨rfl, trivial⟩, ⟨by first | rfl | exact bD (by omega) | exact bT (by omega) | exact bF (by omega) | exact vI (by omega), hs.upd⟩⟩
          ·
            refine alc Try.zeroValue59 rfl (fun _ _ h => h.pick [4, 4, 4]) rfl rfl (fun bka55 hbka55 => ?_)
            refine callS Try.call12 (by exact (fun _ _ h => h.pick [5, 5, 5])) rfl rfl (fun w hs => laws_toStrategy_c _ _ nps cps _ _ w (Kn.drop (k := 7) kps w hs) (by first | assumption | omega)) ?_
            rintro ⟨ay23, ny23, cy23, Hy23, y23⟩ hr23
            dsimp only at hr23
            subst y23
            refine rKnow (fun w hs => (show OwnR maK 53 2 ay23 ny23 cy23 Hy23 ps w from hs.at_ 0 rfl).1) (fun lenn56 => ?_)
            refine callS Try.call12 (by exact (fun _ _ h => h.pick [6, 6, 6])) rfl rfl (fun w hs => laws_toStrategy_c _ _ nqs cqs _ _ w (Kn.drop (k := 8) kqs w hs) (by first | assumption | omega)) ?_
            rintro ⟨ay24, ny24, cy24, Hy24, y24⟩ hr24
            dsimp only at hr24
            subst y24
            refine rKnow (fun w hs => (show OwnR maK 53 2 ay24 ny24 cy24 Hy24 qs w from hs.at_ 0 rfl).1) (fun lenn57 => ?_)
            refine callP (v := .tuple #[.agg #[.int .i64 ((Math.ratioAt z ws vs pl ps ql qs).1.1), .int .i64 ((Math.ratioAt z ws vs pl ps ql qs).1.2)], .int .i64 ((Math.ratioAt z ws vs pl ps ql qs).2)]) Try.call28 (fun _ h => h.pick [6, 6, 6]) rfl rfl (fun w hs => spec_ValueRatio_c _ ny1 cy1 _ _ _ nyw1 cyw1 _ _ _ nyv1 cyv1 _ _ _ _ ny23 cy23 _ _ _ _ ny24 cy24 _ _ w (OwnR.rd (hs.at_ 3 rfl) ndK.ok) (OwnR.rd (hs.at_ 4 rfl) maK.ok) (OwnR.rd (hs.at_ 5 rfl) maK.ok) (OwnR.rd (hs.at_ 1 rfl) maK.ok) (OwnR.rd (hs.at_ 0 rfl) maK.ok)) ?_
            refine mv rfl rfl rfl ?_
            refine ext rfl rfl rfl rfl ?_
            refine ext rfl rfl rfl rfl ?_
            refine stAl (vs := [.int .i64 ((Math.ratioAt z ws vs pl ps ql qs).1.1), .int .i64 ((Math.ratioAt z ws vs pl ps ql qs).1.2)]) 2 rfl Try.sizeOf59 (fun _ h => h.pick [6, 6, 6]) rfl rfl rfl rfl rfl (by simp [Value.oneCell']) rfl ?_
            refine asI rfl rfl rfl ?_
            refine rNil ?_
            refine qSeq rfl ?_
            refine hSeq ?_
            refine hReg (sl 0 (sl 1 (sl 2 (sl 3 sz)))) (by kernel_rfl) ?_
            refine ldAl Try.isAgg27 Try.sizeOf27 (cBs 8 rfl) trv rfl rfl rfl rfl ?_
            refine callS Try.call11 trv1 rfl rfl (fun w hs => laws_toGame_c _ nz cz _ _ _ nws cws _ _ _ nvs cvs _ _ w (Kn.drop (k := 9) kz w hs) (Kn.drop (k := 9) kws w hs) (Kn.drop (k := 9) kvs w hs) (by first | assumption | omega) (by first | assumption | omega) (by first | assumption | omega)) ?_
            rintro ⟨ay25, ny25, cy25, Hy25, y25, ayw25, nyw25, cyw25, Hyw25, yw25, ayv25, nyv25, cyv25, Hyv25, yv25⟩ ⟨hr25a, hr25b, hr25c⟩
            dsimp only at hr25a hr25b hr25c
            subst y25
            subst yw25
            subst yv25
            refine rKnow (fun w hs => (show OwnR ndK 88 2 ay25 ny25 cy25 Hy25 z w from hs.at_ 0 rfl).1) (fun lenn58 => ?_)
            refine rKnow (fun w hs => (show OwnR maK 53 2 ayw25 nyw25 cyw25 Hyw25 ws w from hs.at_ 1 rfl).1) (fun lenn59 => ?_)
            refine rKnow (fun w hs => (show OwnR maK 53 2 ayv25 nyv25 cyv25 Hyv25 vs w from hs.at_ 2 rfl).1) (fun lenn60 => ?_)
            refine alc Try.zeroValue38 rfl trv1 rfl rfl (fun bka61 hbka61 => ?_)
            refine stAl (vs := [.slice ay25 ny25 cy25, .slice ayw25 nyw25 cyw25, .slice ayv25 nyv25 cyv25]) 0 rfl Try.sizeOf38 trv rfl rfl rfl rfl rfl (by simp [Value.oneCell']) rfl ?_
            refine rNil ?_
            refine qSeq rfl ?_
            refine hSeq ?_
            refine hReg (sl 0 (sl 1 (sl 2 (sl 3 sz)))) (by kernel_rfl) ?_
            refine ldAl Try.isAgg29 Try.sizeOf29 (cBs 11 rfl) trv rfl rfl rfl rfl ?_
            refine callS Try.call12 trv1 rfl rfl (fun w hs => laws_toStrategy_c _ _ nps cps _ _ w (Kn.drop (k := 13) kps w hs) (by first | assumption | omega)) ?_
            rintro ⟨ay26, ny26, cy26, Hy26, y26⟩ hr26
            dsimp only at hr26
            subst y26
            refine rKnow (fun w hs => (show OwnR maK 53 2 ay26 ny26 cy26 Hy26 ps w from hs.at_ 0 rfl).1) (fun lenn62 => ?_)
            refine alc Try.zeroValue40 rfl trv1 rfl rfl (fun bka63 hbka63 => ?_)
            refine stAl (vs := [.int .i64 pl, .slice ay26 ny26 cy26]) 0 rfl Try.sizeOf40 trv rfl rfl rfl rfl rfl (by simp [Value.oneCell']) rfl ?_
            refine rNil ?_
            refine qSeq rfl ?_
            refine hSeq ?_
            refine hReg (sl 0 (sl 1 (sl 2 (sl 3 sz)))) (by kernel_rfl) ?_
            refine ldAl Try.isAgg29 Try.sizeOf29 (cBs 12 rfl) trv rfl rfl rfl rfl ?_
            refine callS Try.call12 trv1 rfl rfl (fun w hs => laws_toStrategy_c _ _ nqs cqs _ _ w (Kn.drop (k := 15) kqs w hs) (by first | assumption | omega)) ?_
            rintro ⟨ay27, ny27, cy27, Hy27, y27⟩ hr27
            dsimp only at hr27
            subst y27
            refine rKnow (fun w hs => (show OwnR maK 53 2 ay27 ny27 cy27 Hy27 qs w from hs.at_ 0 rfl).1) (fun lenn64 => ?_)
            refine alc Try.zeroValue40 rfl trv1 rfl rfl (fun bka65 hbka65 => ?_)
            refine stAl (vs := [.int .i64 ql, .slice ay27 ny27 cy27]) 0 rfl Try.sizeOf40 trv rfl rfl rfl rfl rfl (by simp [Value.oneCell']) rfl ?_
            refine rNil ?_
            refine qSeq rfl ?_
            refine hSeq ?_
            refine hReg (sl 0 (sl 1 (sl 2 (sl 3 (sq 4 (sq 5 (sq 6 (sl 7 (sl 8 (sq 9 sz)))))))))) (by kernel_rfl) ?_
            refine ldAl Try.isAgg38 Try.sizeOf38 (cBs 4 rfl) trv rfl rfl rfl rfl ?_
            refine ldAl Try.isAgg40 Try.sizeOf40 (cBs 2 rfl) trv rfl rfl rfl rfl ?_
            refine ldAl Try.isAgg40 Try.sizeOf40 (cBs 0 rfl) trv rfl rfl rfl rfl ?_
            refine callP (v := .tuple #[.agg #[.int .i64 ((Math.ratioAt z ws vs pl ps ql qs).1.1), .int .i64 ((Math.ratioAt z ws vs pl ps ql qs).1.2)], .int .i64 ((Math.ratioAt z ws vs pl ps ql qs).2)]) Try.call29 trv rfl rfl (fun w hs => impl_ValueRatio_c _ ny25 cy25 _ _ _ nyw25 cyw25 _ _ _ nyv25 cyv25 _ _ _ _ ny26 cy26 _ _ _ _ ny27 cy27 _ _ w (OwnR.rd (hs.at_ 5 rfl) ndK.ok) (OwnR.rd (hs.at_ 6 rfl) maK.ok) (OwnR.rd (hs.at_ 7 rfl) maK.ok) (OwnR.rd (hs.at_ 3 rfl) maK.ok) (OwnR.rd (hs.at_ 1 rfl) maK.ok)) ?_
            refine mv rfl rfl rfl ?_
            refine ext rfl rfl rfl rfl ?_
            refine ext rfl rfl rfl rfl ?_
            refine alc Try.zeroValue59 rfl trv1 rfl rfl (fun bka66 hbka66 => ?_)
            refine stAl (vs := [.int .i64 ((Math.ratioAt z ws vs pl ps ql qs).1.1), .int .i64 ((Math.ratioAt z ws vs pl ps ql qs).1.2)]) 0 rfl Try.sizeOf59 trv rfl rfl rfl rfl rfl (by simp [Value.oneCell']) rfl ?_
            refine asI rfl rfl rfl ?_
            refine rNil ?_
            refine qSeq rfl ?_
            refine hSeq ?_
            refine hSeq ?_
            refine hReg (sl 0 (sl 1 (sl 2 (sq 3 (sq 4 (sq 5 (sq 6 (sq 7 (sq 8 sz))))))))) (by kernel_rfl) ?_
            refine ldAl Try.isAgg59 Try.sizeOf59 (cBs 0 rfl) trv rfl rfl rfl rfl ?_
            refine ldAl Try.isAgg59 Try.sizeOf59 (cBs 11 rfl) trv rfl rfl rfl rfl ?_
            refine callP (v := .bool true) Try.call30 trv rfl rfl (fun w hs => laws_eqRatio_c _ _ _ _ w (by exact ⟨rfl, rfl⟩)) ?_
            refine not rfl rfl rfl ?_
            refine mvB rfl rfl rfl ?_
            refine mvI rfl rfl rfl ?_
            refine mvI rfl rfl rfl ?_
            refine neq rfl rfl rfl rfl ?_
            refine pickB rfl rfl rfl rfl ?_
            refine rNil ?_
            refine qSeq rfl ?_
            refine hIfD rfl (fun c7 => ?_) (fun c7 => ?_)
            · -- c7T
              replace c7 : (Math.ratioAt z ws vs pl ps ql qs).2 ≠ (Math.ratioAt z ws vs pl ps ql qs).2 := c7
              exact absurd rfl c7
            · -- c7F
              replace c7 : ¬ ((Math.ratioAt z ws vs pl ps ql qs).2 ≠ (Math.ratioAt z ws vs pl ps ql qs).2) := c7
              refine hSkip ?_
              refine qSeq rfl ?_
              refine hSeq ?_
              refine hSeq ?_
              refine hDraw (Ls := [blk bka61 38 [.slice ay25 ny25 cy25, .slice ayw25 nyw25 cyw25, .slice ayv25 nyv25 cyv25], blk bkb1 27 [.slice az nz cz, .slice aws nws cws, .slice avs nvs cvs]]) (by kernel_rfl) (sq 0 (sq 1 (sl 2 (sl 3 (sq 4 sz))))) (by kernel_rfl) (.cons _ (.cons _ (.cons _ (.cons _ (.cons _ (.cons_cons _ (.cons _ (.cons _ (.cons _ (.cons _ (.cons _ (.cons _ (.cons _ (.cons _ (.cons _ (.cons _ (.cons _ (.cons_cons _ .slnil)))))))))))))))))) ?_
              refine ldAq Try.isAgg38 Try.sizeOf38 (cBs 0 rfl) rfl rfl rfl rfl ?_
              refine ldAq Try.isAgg27 Try.sizeOf27 (cBs 1 rfl) rfl rfl rfl rfl ?_
              refine callS Try.call11 (by exact (fun _ _ h => h.pick [8, 19])) rfl rfl (fun w hs => laws_toGame_c _ nz cz _ _ _ nws cws _ _ _ nvs cvs _ _ w (Kn.drop (k := 18) kz w hs) (Kn.drop (k := 18) kws w hs) (Kn.drop (k := 18) kvs w hs) (by first | assumption | omega) (by first | assumption | omega) (by first | assumption | omega)) ?_
              rintro ⟨ay28, ny28, cy28, Hy28, y28, ayw28, nyw28, cyw28, Hyw28, yw28, ayv28, nyv28, cyv28, Hyv28, yv28⟩ ⟨hr28a, hr28b, hr28c⟩
              dsimp only at hr28a hr28b hr28c
              subst y28
              subst yw28
              subst yv28
              refine rKnow (fun w hs => (show OwnR ndK 88 2 ay28 ny28 cy28 Hy28 z w from hs.at_ 0 rfl).1) (fun lenn67 => ?_)
              refine rKnow (fun w hs => (show OwnR maK 53 2 ayw28 nyw28 cyw28 Hyw28 ws w from hs.at_ 1 rfl).1) (fun lenn68 => ?_)
              refine rKnow (fun w hs => (show OwnR maK 53 2 ayv28 nyv28 cyv28 Hyv28 vs w from hs.at_ 2 rfl).1) (fun lenn69 => ?_)
              refine callP (v := .bool true) Try.call14 (fun _ h => h.pick [8, 19]) rfl rfl (fun w hs => laws_eqGame_c _ ny25 cy25 _ _ _ nyw25 cyw25 _ _ _ nyv25 cyv25 _ _ _ ny28 cy28 _ _ _ nyw28 cyw28 _ _ _ nyv28 cyv28 _ _ w (OwnR.rd (hs.at_ 9 rfl) ndK.ok) (OwnR.rd (hs.at_ 10 rfl) maK.ok) (OwnR.rd (hs.at_ 11 rfl) maK.ok) (OwnR.rd (hs.at_ 0 rfl) ndK.ok) (OwnR.rd (hs.at_ 1 rfl) maK.ok) (OwnR.rd (hs.at_ 2 rfl) maK.ok) (by exact ⟨rfl, rfl, rfl⟩)) ?_
              refine not rfl rfl rfl ?_
              refine rNil ?_
              refine qSeq rfl ?_
              refine hIfF rfl ?_
              refine hSkip ?_
              refine qSeq rfl ?_
              refine hSeq ?_
              refine hSeq ?_
              refine hDraw (Ls := [blk bka63 40 [.int .i64 pl, .slice ay26 ny26 cy26], blk bkb2 29 [.int .i64 pl, .slice aps nps cps]]) (by kernel_rfl) (sq 0 (sq 1 (sl 2 (sl 3 (sq 4 sz))))) (by kernel_rfl) (.cons _ (.cons _ (.cons _ (.cons _ (.cons _ (.cons _ (.cons_cons _ (.cons _ (.cons _ (.cons _ (.cons _ (.cons _ (.cons _ (.cons _ (.cons _ (.cons _ (.cons _ (.cons _ (.cons _ (.cons_cons _ (.cons _ .slnil))))))))))))))))))))) ?_
              refine ldAq Try.isAgg40 Try.sizeOf40 (cBs 0 rfl) rfl rfl rfl rfl ?_
              refine ldAq Try.isAgg29 Try.sizeOf29 (cBs 1 rfl) rfl rfl rfl rfl ?_
              refine callS Try.call12 (by exact (fun _ _ h => h.pick [7, 19])) rfl rfl (fun w hs => laws_toStrategy_c _ _ nps cps _ _ w (Kn.drop (k := 21) kps w hs) (by first | assumption | omega)) ?_
              rintro ⟨ay29, ny29, cy29, Hy29, y29⟩ hr29
              dsimp only at hr29
              subst y29
              refine rKnow (fun w hs => (show OwnR maK 53 2 ay29 ny29 cy29 Hy29 ps w from hs.at_ 0 rfl).1) (fun lenn70 => ?_)
              refine callP (v := .bool true) Try.call15 (fun _ h => h.pick [7, 19]) rfl rfl (fun w hs => laws_eqStrategy_c _ _ ny26 cy26 _ _ _ _ ny29 cy29 _ _ w (OwnR.rd (hs.at_ 8 rfl) maK.ok) (OwnR.rd (hs.at_ 0 rfl) maK.ok) (by exact ⟨rfl, rfl⟩)) ?_
              refine not rfl rfl rfl ?_
              refine rNil ?_
              refine qSeq rfl ?_
              refine hIfF rfl ?_
              refine hSkip ?_
              refine qSeq rfl ?_
              refine hSeq ?_
              refine hSeq ?_
              refine hDraw (Ls := [blk bka65 40 [.int .i64 ql, .slice ay27 ny27 cy27], blk bkb3 29 [.int .i64 ql, .slice aqs nqs cqs]]) (by kernel_rfl) (sq 0 (sq 1 (sl 2 (sl 3 (sq 4 sz))))) (by kernel_rfl) (.cons _ (.cons _ (.cons _ (.cons _ (.cons _ (.cons_cons _ (.cons _ (.cons _ (.cons _ (.cons _ (.cons _ (.cons _ (.cons _ (.cons _ (.cons _ (.cons _ (.cons _ (.cons _ (.cons _ (.cons_cons _ (.cons _ (.cons _ .slnil)))))))))))))))))))))) ?_
              refine ldAq Try.isAgg40 Try.sizeOf40 (cBs 0 rfl) rfl rfl rfl rfl ?_
              refine ldAq Try.isAgg29 Try.sizeOf29 (cBs 1 rfl) rfl rfl rfl rfl ?_
              refine callS Try.call12 (by exact (fun _ _ h => h.pick [6, 19])) rfl rfl (fun w hs => laws_toStrategy_c _ _ nqs cqs _ _ w (Kn.drop (k := 22) kqs w hs) (by first | assumption | omega)) ?_
              rintro ⟨ay30, ny30, cy30, Hy30, y30⟩ hr30
              dsimp only at hr30
              subst y30
              refine rKnow (fun w hs => (show OwnR maK 53 2 ay30 ny30 cy30 Hy30 qs w from hs.at_ 0 rfl).1) (fun lenn71 => ?_)
              refine callP (v := .bool true) Try.call15 (fun _ h => h.pick [6, 19]) rfl rfl (fun w hs => laws_eqStrategy_c _ _ ny27 cy27 _ _ _ _ ny30 cy30 _ _ w (OwnR.rd (hs.at_ 7 rfl) maK.ok) (OwnR.rd (hs.at_ 0 rfl) maK.ok) (by exact ⟨rfl, rfl⟩)) ?_
              refine not rfl rfl rfl ?_
              refine rNil ?_
              refine qSeq rfl ?_
              refine hIfF rfl ?_
              refine hSkip ?_
              refine qSeq rfl ?_
              refine hSeq ?_
              refine hReg (sq 0 sz) (by kernel_rfl) ?_
              refine asB rfl rfl rfl ?_
              refine rNil ?_
              refine qSeq rfl ?_
              refine hRet ?_
              exact fun w hs => ⟨[.bool true], ⟨rfl, trivial⟩, ⟨by first | rfl | exact bD (by omega) | exact bT (by omega) | exact bF (by omega) | exact vI (by omega), hs.upd⟩⟩
        ·
          refine alc Try.zeroValue59 rfl (fun _ _ h => h.pick [1, 1, 1]) rfl rfl (fun bka72 hbka72 => ?_)
          refine callS Try.call11 (by exact (fun _ _ h => h.pick [4, 4, 4])) rfl rfl (fun w hs => laws_toGame_c _ nz cz _ _ _ nws cws _ _ _ nvs cvs _ _ w (Kn.drop (k := 4) kz w hs) (Kn.drop (k := 4) kws w hs) (Kn.drop (k := 4) kvs w hs) (by first | assumption | omega) (by first | assumption | omega) (by first | assumption | omega)) ?_
          rintro ⟨ay31, ny31, cy31, Hy31, y31, ayw31, nyw31, cyw31, Hyw31, yw31, ayv31, nyv31, cyv31, Hyv31, yv31⟩ ⟨hr31a, hr31b, hr31c⟩
          dsimp only at hr31a hr31b hr31c
          subst y31
          subst yw31
          subst yv31
          refine rKnow (fun w hs => (show OwnR ndK 88 2 ay31 ny31 cy31 Hy31 z w from hs.at_ 0 rfl).1) (fun lenn73 => ?_)
          refine rKnow (fun w hs => (show OwnR maK 53 2 ayw31 nyw31 cyw31 Hyw31 ws w from hs.at_ 1 rfl).1) (fun lenn74 => ?_)
          refine rKnow (fun w hs => (show OwnR maK 53 2 ayv31 nyv31 cyv31 Hyv31 vs w from hs.at_ 2 rfl).1) (fun lenn75 => ?_)
          refine callS Try.call12 (by exact (fun _ _ h => h.pick [5, 5, 5])) rfl rfl (fun w hs => laws_toStrategy_c _ _ nps cps _ _ w (Kn.drop (k := 7) kps w hs) (by first | assumption | omega)) ?_
          rintro ⟨ay32, ny32, cy32, Hy32, y32⟩ hr32
          dsimp only at hr32
          subst y32
          refine rKnow (fun w hs => (show OwnR maK 53 2 ay32 ny32 cy32 Hy32 ps w from hs.at_ 0 rfl).1) (fun lenn76 => ?_)
          refine callS Try.call12 (by exact (fun _ _ h => h.pick [6, 6, 6])) rfl rfl (fun w hs => laws_toStrategy_c _ _ nqs cqs _ _ w (Kn.drop (k := 8) kqs w hs) (by first | assumption | omega)) ?_
          rintro ⟨ay33, ny33, cy33, Hy33, y33⟩ hr33
          dsimp only at hr33
          subst y33
          refine rKnow (fun w hs => (show OwnR maK 53 2 ay33 ny33 cy33 Hy33 qs w from hs.at_ 0 rfl).1) (fun lenn77 => ?_)
          refine callP (v := .tuple #[.agg #[.int .i64 ((Math.ratioAt z ws vs pl ps ql qs).1.1), .int .i64 ((Math.ratioAt z ws vs pl ps ql qs).1.2)], .int .i64 ((Math.ratioAt z ws vs pl ps ql qs).2)]) Try.call28 (fun _ h => h.pick [6, 6, 6]) rfl rfl (fun w hs => spec_ValueRatio_c _ ny31 cy31 _ _ _ nyw31 cyw31 _ _ _ nyv31 cyv31 _ _ _ _ ny32 cy32 _ _ _ _ ny33 cy33 _ _ w (OwnR.rd (hs.at_ 2 rfl) ndK.ok) (OwnR.rd (hs.at_ 3 rfl) maK.ok) (OwnR.rd (hs.at_ 4 rfl) maK.ok) (OwnR.rd (hs.at_ 1 rfl) maK.ok) (OwnR.rd (hs.at_ 0 rfl) maK.ok)) ?_
          refine mv rfl rfl rfl ?_
          refine ext rfl rfl rfl rfl ?_
          refine ext rfl rfl rfl rfl ?_
          refine stAl (vs := [.int .i64 ((Math.ratioAt z ws vs pl ps ql qs).1.1), .int .i64 ((Math.ratioAt z ws vs pl ps ql qs).1.2)]) 5 rfl Try.sizeOf59 (fun _ h => h.pick [6, 6, 6]) rfl rfl rfl rfl rfl (by simp [Value.oneCell']) rfl ?_
          refine asI rfl rfl rfl ?_
          refine rNil ?_
          refine qSeq rfl ?_
          refine hSeq ?_
          refine hReg (sl 0 (sl 1 (sl 2 (sl 3 sz)))) (by kernel_rfl) ?_
          refine ldAl Try.isAgg27 Try.sizeOf27 (cBs 8 rfl) trv rfl rfl rfl rfl ?_
          refine callS Try.call11 trv1 rfl rfl (fun w hs => laws_toGame_c _ nz cz _ _ _ nws cws _ _ _ nvs cvs _ _ w (Kn.drop (k := 9) kz w hs) (Kn.drop (k := 9) kws w hs) (Kn.drop (k := 9) kvs w hs) (by first | assumption | omega) (by first | assumption | omega) (by first | assumption | omega)) ?_
          rintro ⟨ay34, ny34, cy34, Hy34, y34, ayw34, nyw34, cyw34, Hyw34, yw34, ayv34, nyv34, cyv34, Hyv34, yv34⟩ ⟨hr34a, hr34b, hr34c⟩
          dsimp only at hr34a hr34b hr34c
          subst y34
          subst yw34
          subst yv34
          refine rKnow (fun w hs => (show OwnR ndK 88 2 ay34 ny34 cy34 Hy34 z w from hs.at_ 0 rfl).1) (fun lenn78 => ?_)
          refine rKnow (fun w hs => (show OwnR maK 53 2 ayw34 nyw34 cyw34 Hyw34 ws w from hs.at_ 1 rfl).1) (fun lenn79 => ?_)
          refine rKnow (fun w hs => (show OwnR maK 53 2 ayv34 nyv34 cyv34 Hyv34 vs w from hs.at_ 2 rfl).1) (fun lenn80 => ?_)
          refine alc Try.zeroValue38 rfl trv1 rfl rfl (fun bka81 hbka81 => ?_)
          refine stAl (vs := [.slice ay34 ny34 cy34, .slice ayw34 nyw34 cyw34, .slice ayv34 nyv34 cyv34]) 0 rfl Try.sizeOf38 trv rfl rfl rfl rfl rfl (by simp [Value.oneCell']) rfl ?_
          refine rNil ?_
          refine qSeq rfl ?_
          refine hSeq ?_
          refine hReg (sl 0 (sl 1 (sl 2 (sl 3 sz)))) (by kernel_rfl) ?_
          refine ldAl Try.isAgg29 Try.sizeOf29 (cBs 11 rfl) trv rfl rfl rfl rfl ?_
          refine callS Try.call12 trv1 rfl rfl (fun w hs => laws_toStrategy_c _ _ nps cps _ _ w (Kn.drop (k := 13) kps w hs) (by first | assumption | omega)) ?_
          rintro ⟨ay35, ny35, cy35, Hy35, y35⟩ hr35
          dsimp only at hr35
          subst y35
          refine rKnow (fun w hs => (show OwnR maK 53 2 ay35 ny35 cy35 Hy35 ps w from hs.at_ 0 rfl).1) (fun lenn82 => ?_)
          refine alc Try.zeroValue40 rfl trv1 rfl rfl (fun bka83 hbka83 => ?_)
          refine stAl (vs := [.int .i64 pl, .slice ay35 ny35 cy35]) 0 rfl Try.sizeOf40 trv rfl rfl rfl rfl rfl (by simp [Value.oneCell']) rfl ?_
          refine rNil ?_
          refine qSeq rfl ?_
          refine hSeq ?_
          refine hReg (sl 0 (sl 1 (sl 2 (sl 3 sz)))) (by kernel_rfl) ?_
          refine ldAl Try.isAgg29 Try.sizeOf29 (cBs 12 rfl) trv rfl rfl rfl rfl ?_
          refine callS Try.call12 trv1 rfl rfl (fun w hs => laws_toStrategy_c _ _ nqs cqs _ _ w (Kn.drop (k := 15) kqs w hs) (by first | assumption | omega)) ?_
          rintro ⟨ay36, ny36, cy36, Hy36, y36⟩ hr36
          dsimp only at hr36
          subst y36
          refine rKnow (fun w hs => (show OwnR maK 53 2 ay36 ny36 cy36 Hy36 qs w from hs.at_ 0 rfl).1) (fun lenn84 => ?_)
          refine alc Try.zeroValue40 rfl trv1 rfl rfl (fun bka85 hbka85 => ?_)
          refine stAl (vs := [.int .i64 ql, .slice ay36 ny36 cy36]) 0 rfl Try.sizeOf40 trv rfl rfl rfl rfl rfl (by simp [Value.oneCell']) rfl ?_
          refine rNil ?_
          refine qSeq rfl ?_
          refine hSeq ?_
          refine hReg (sl 0 (sl 1 (sl 2 (sl 3 (sq 4 (sq 5 (sq 6 (sl 7 (sl 8 (sq 9 sz)))))))))) (by kernel_rfl) ?_
          refine ldAl Try.isAgg38 Try.sizeOf38 (cBs 4 rfl) trv rfl rfl rfl rfl ?_
          refine ldAl Try.isAgg40 Try.sizeOf40 (cBs 2 rfl) trv rfl rfl rfl rfl ?_
          refine ldAl Try.isAgg40 Try.sizeOf40 (cBs 0 rfl) trv rfl rfl rfl rfl ?_
          refine callP (v := .tuple #[.agg #[.int .i64 ((Math.ratioAt z ws vs pl ps ql qs).1.1), .int .i64 ((Math.ratioAt z ws vs pl ps ql qs).1.2)], .int .i64 ((Math.ratioAt z ws vs pl ps ql qs).2)]) Try.call29 trv rfl rfl (fun w hs => impl_ValueRatio_c _ ny34 cy34 _ _ _ nyw34 cyw34 _ _ _ nyv34 cyv34 _ _ _ _ ny35 cy35 _ _ _ _ ny36 cy36 _ _ w (OwnR.rd (hs.at_ 5 rfl) ndK.ok) (OwnR.rd (hs.at_ 6 rfl) maK.ok) (OwnR.rd (hs.at_ 7 rfl) maK.ok) (OwnR.rd (hs.at_ 3 rfl) maK.ok) (OwnR.rd (hs.at_ 1 rfl) maK.ok)) ?_
          refine mv rfl rfl rfl ?_
          refine ext rfl rfl rfl rfl ?_
          refine ext rfl rfl rfl rfl ?_
          refine alc Try.zeroValue59 rfl trv1 rfl rfl (fun bka86 hbka86 => ?_)
          refine stAl (vs := [.int .i64 ((Math.ratioAt z ws vs pl ps ql qs).1.1), .int .i64 ((Math.ratioAt z ws vs pl ps ql qs).1.2)]) 0 rfl Try.sizeOf59 trv rfl rfl rfl rfl rfl (by simp [Value.oneCell']) rfl ?_
          refine asI rfl rfl rfl ?_
          refine rNil ?_
          refine qSeq rfl ?_
          refine hSeq ?_
          refine hSeq ?_
          refine hReg (sl 0 (sl 1 (sl 2 (sq 3 (sq 4 (sq 5 (sq 6 (sq 7 (sq 8 sz))))))))) (by kernel_rfl) ?_
          refine ldAl Try.isAgg59 Try.sizeOf59 (cBs 0 rfl) trv rfl rfl rfl rfl ?_
          refine ldAl Try.isAgg59 Try.sizeOf59 (cBs 14 rfl) trv rfl rfl rfl rfl ?_
          refine callP (v := .bool true) Try.call30 trv rfl rfl (fun w hs => laws_eqRatio_c _ _ _ _ w (by exact ⟨rfl, rfl⟩)) ?_
          refine not rfl rfl rfl ?_
          refine mvB rfl rfl rfl ?_
          refine mvI rfl rfl rfl ?_
          refine mvI rfl rfl rfl ?_
          refine neq rfl rfl rfl rfl ?_
          refine pickB rfl rfl rfl rfl ?_
          refine rNil ?_
          refine qSeq rfl ?_
          refine hIfD rfl (fun c8 => ?_) (fun c8 => ?_)
          · -- c8T
            replace c8 : (Math.ratioAt z ws vs pl ps ql qs).2 ≠ (Math.ratioAt z ws vs pl ps ql qs).2 := c8
            exact absurd rfl c8
          · -- c8F
            replace c8 : ¬ ((Math.ratioAt z ws vs pl ps ql qs).2 ≠ (Math.ratioAt z ws vs pl ps ql qs).2) := c8
            refine hSkip ?_
            refine qSeq rfl ?_
            refine hSeq ?_
            refine hSeq ?_
            refine hDraw (Ls := [blk bka81 38 [.slice ay34 ny34 cy34, .slice ayw34 nyw34 cyw34, .slice ayv34 nyv34 cyv34], blk bkb1 27 [.slice az nz cz, .slice aws nws cws, .slice avs nvs cvs]]) (by kernel_rfl) (sq 0 (sq 1 (sl 2 (sl 3 (sq 4 sz))))) (by kernel_rfl) (.cons _ (.cons _ (.cons _ (.cons _ (.cons _ (.cons_cons _ (.cons _ (.cons _ (.cons _ (.cons _ (.cons _ (.cons _ (.cons _ (.cons _ (.cons _ (.cons _ (.cons _ (.cons_cons _ .slnil)))))))))))))))))) ?_
            refine ldAq Try.isAgg38 Try.sizeOf38 (cBs 0 rfl) rfl rfl rfl rfl ?_
            refine ldAq Try.isAgg27 Try.sizeOf27 (cBs 1 rfl) rfl rfl rfl rfl ?_
            refine callS Try.call11 (by exact (fun _ _ h => h.pick [8, 19])) rfl rfl (fun w hs => laws_toGame_c _ nz cz _ _ _ nws cws _ _ _ nvs cvs _ _ w (Kn.drop (k := 18) kz w hs) (Kn.drop (k := 18) kws w hs) (Kn.drop (k := 18) kvs w hs) (by first | assumption | omega) (by first | assumption | omega) (by first | assumption | omega)) ?_
            rintro ⟨ay37, ny37, cy37, Hy37, y37, ayw37, nyw37, cyw37, Hyw37, yw37, ayv37, nyv37, cyv37, Hyv37, yv37⟩ ⟨hr37a, hr37b, hr37c⟩
            dsimp only at hr37a hr37b hr37c
            subst y37
            subst yw37
            subst yv37
            refine rKnow (fun w hs => (show OwnR ndK 88 2 ay37 ny37 cy37 Hy37 z w from hs.at_ 0 rfl).1) (fun lenn87 => ?_)
            refine rKnow (fun w hs => (show OwnR maK 53 2 ayw37 nyw37 cyw37 Hyw37 ws w from hs.at_ 1 rfl).1) (fun lenn88 => ?_)
            refine rKnow (fun w hs => (show OwnR maK 53 2 ayv37 nyv37 cyv37 Hyv37 vs w from hs.at_ 2 rfl).1) (fun lenn89 => ?_)
            refine callP (v := .bool true) Try.call14 (fun _ h => h.pick [8, 19]) rfl rfl (fun w hs => laws_eqGame_c _ ny34 cy34 _ _ _ nyw34 cyw34 _ _ _ nyv34 cyv34 _ _ _ ny37 cy37 _ _ _ nyw37 cyw37 _ _ _ nyv37 cyv37 _ _ w (OwnR.rd (hs.at_ 9 rfl) ndK.ok) (OwnR.rd (hs.at_ 10 rfl) maK.ok) (OwnR.rd (hs.at_ 11 rfl) maK.ok) (OwnR.rd (hs.at_ 0 rfl) ndK.ok) (OwnR.rd (hs.at_ 1 rfl) maK.ok) (OwnR.rd (hs.at_ 2 rfl) maK.ok) (by exact ⟨rfl, rfl, rfl⟩)) ?_
            refine not rfl rfl rfl ?_
            refine rNil ?_
            refine qSeq rfl ?_
            refine hIfF rfl ?_
            refine hSkip ?_
            refine qSeq rfl ?_
            refine hSeq ?_
            refine hSeq ?_
            refine hDraw (Ls := [blk bka83 40 [.int .i64 pl, .slice ay35 ny35 cy35], blk bkb2 29 [.int .i64 pl, .slice aps nps cps]]) (by kernel_rfl) (sq 0 (sq 1 (sl 2 (sl 3 (sq 4 sz))))) (by kernel_rfl) (.cons _ (.cons _ (.cons _ (.cons _ (.cons _ (.cons _ (.cons_cons _ (.cons _ (.cons _ (.cons _ (.cons _ (.cons _ (.cons _ (.cons _ (.cons _ (.cons _ (.cons _ (.cons _ (.cons _ (.cons_cons _ (.cons _ .slnil))))))))))))))))))))) ?_
            refine ldAq Try.isAgg40 Try.sizeOf40 (cBs 0 rfl) rfl rfl rfl rfl ?_
            refine ldAq Try.isAgg29 Try.sizeOf29 (cBs 1 rfl) rfl rfl rfl rfl ?_
            refine callS Try.call12 (by exact (fun _ _ h => h.pick [7, 19])) rfl rfl (fun w hs => laws_toStrategy_c _ _ nps cps _ _ w (Kn.drop (k := 21) kps w hs) (by first | assumption | omega)) ?_
            rintro ⟨ay38, ny38, cy38, Hy38, y38⟩ hr38
            dsimp only at hr38
            subst y38
            refine rKnow (fun w hs => (show OwnR maK 53 2 ay38 ny38 cy38 Hy38 ps w from hs.at_ 0 rfl).1) (fun lenn90 => ?_)
            refine callP (v := .bool true) Try.call15 (fun _ h => h.pick [7, 19]) rfl rfl (fun w hs => laws_eqStrategy_c _ _ ny35 cy35 _ _ _ _ ny38 cy38 _ _ w (OwnR.rd (hs.at_ 8 rfl) maK.ok) (OwnR.rd (hs.at_ 0 rfl) maK.ok) (by exact ⟨rfl, rfl⟩)) ?_
            refine not rfl rfl rfl ?_
            refine rNil ?_
            refine qSeq rfl ?_
            refine hIfF rfl ?_
            refine hSkip ?_
            refine qSeq rfl ?_
            refine hSeq ?_
            refine hSeq ?_
            refine hDraw (Ls := [blk bka85 40 [.int .i64 ql, .slice ay36 ny36 cy36], blk bkb3 29 [.int .i64 ql, .slice aqs nqs cqs]]) (by kernel_rfl) (sq 0 (sq 1 (sl 2 (sl 3 (sq 4 sz))))) (by kernel_rfl) (.cons _ (.cons _ (.cons _ (.cons _ (.cons _ (.cons_cons _ (.cons _ (.cons _ (.cons _ (.cons _ (.cons _ (.cons _ (.cons _ (.cons _ (.cons _ (.cons _ (.cons _ (.cons _ (.cons _ (.cons_cons _ (.cons _ (.cons _ .slnil)))))))))))))))))))))) ?_
            refine ldAq Try.isAgg40 Try.sizeOf40 (cBs 0 rfl) rfl rfl rfl rfl ?_
            refine ldAq Try.isAgg29 Try.sizeOf29 (cBs 1 rfl) rfl rfl rfl rfl ?_
            refine callS Try.call12 (by exact (fun _ _ h => h.pick [6, 19])) rfl rfl (fun w hs => laws_toStrategy_c _ _ nqs cqs _ _ w (Kn.drop (k := 22) kqs w hs) (by first | assumption | omega)) ?_
            rintro ⟨ay39, ny39, cy39, Hy39, y39⟩ hr39
            dsimp only at hr39
            subst y39
            refine rKnow (fun w hs => (show OwnR maK 53 2 ay39 ny39 cy39 Hy39 qs w from hs.at_ 0 rfl).1) (fun lenn91 => ?_)
            refine callP (v := .bool true) Try.call15 (fun _ h => h.pick [6, 19]) rfl rfl (fun w hs => laws_eqStrategy_c _ _ ny36 cy36 _ _ _ _ ny39 cy39 _ _ w (OwnR.rd (hs.at_ 7 rfl) maK.ok) (OwnR.rd (hs.at_ 0 rfl) maK.ok) (by exact ⟨rfl, rfl⟩)) ?_
            refine not rfl rfl rfl ?_
            refine rNil ?_
            refine qSeq rfl ?_
            refine hIfF rfl ?_
            refine hSkip ?_
            refine qSeq rfl ?_
            refine hSeq ?_
            refine hReg (sq 0 sz) (by kernel_rfl) ?_
            refine asB rfl rfl rfl ?_
            refine rNil ?_
            refine qSeq rfl ?_
            refine hRet ?_
            exact fun w hs => ⟨[.bool true], ⟨rfl, trivial⟩, ⟨by first | rfl | exact bD (by omega) | exact bT (by omega) | exact bF (by omega) | exact vI (by omega), hs.upd⟩⟩

set_option maxHeartbeats 2000000 in
theorem fnExactValueRatio_lifted (os : Os) (started : os.Started) (H : Type) (enc : TypeId × Value → H) :
    ReturnsInHanded {} Try.checked os 7 .any (Rows.fnExactValueRatioSpec.pre6 enc Try.prog Try.f7 Rows.fnExactValueRatioRow.domain false) (Rows.fnExactValueRatioSpec.post enc Try.prog Try.f7 false true false false) := by
  refine returnsInHanded_of_change (C := Try.checked) own started (by kernel_rfl) Try.func7
    (ChangeSpec.witness6 (enc := enc) (C := Try.checked) false ⟨#[], #[.agg #[.slice none 0 0, .slice none 0 0, .slice none 0 0], .agg #[.int .i64 0, .slice none 0 0], .agg #[.int .i64 0, .slice none 0 0]], []⟩ 8 (by kernel_rfl) (by kernel_rfl) (by kernel_rfl) (by kernel_rfl)) ?_
  intro W base args ds gs before hval0 hW hcnd _
  have hval : ∀ (j : Nat) t v, Try.f7.params[j]? = some t → args[j]? = some v → Value.okWide Try.prog W .any base t v := hval0
  have hW' := hW
  obtain ⟨p, q, hA0, hV, rfl, hfz, hnd⟩ := hW
  have hA : DataW.TrodAll enc Try.prog W 0 (fun _ => true) true Try.f7.params.toList args.toList ds p := hA0
  rw [Try.params7] at hA hval
  obtain ⟨v0, vs0, d0, ds0, p0, q0, hargs, rfl, rfl, h0, r0⟩ := trodAll_cons hA
  obtain ⟨v1, vs1, d1, ds1, p1, q1, rfl, rfl, rfl, h1, r1⟩ := trodAll_cons r0
  obtain ⟨v2, vs2, d2, ds2, p2, q2, rfl, rfl, rfl, h2, r2⟩ := trodAll_cons r1
  obtain ⟨rfl, rfl, rfl⟩ := trodAll_nil r2
  obtain rfl : args = #[v0, v1, v2] := by cases args; simp_all
  obtain ⟨rfl, rfl⟩ := trodVars_none hV
  obtain ⟨f0, g0⟩ := h0
  obtain ⟨cs0, rfl, _⟩ := okWide_struct Try.underlying27 (hval 0 27 v0 rfl rfl)
  obtain ⟨aq0_0, nq0_0, cq0_0, hq0_0, zq0_0, aq0_1, nq0_1, cq0_1, hq0_1, zq0_1, aq0_2, nq0_2, cq0_2, hq0_2, zq0_2, e0, rq0_0, rq0_1, rq0_2⟩ := inT27 g0
  obtain rfl : cs0 = #[.slice aq0_0 nq0_0 cq0_0, .slice aq0_1 nq0_1 cq0_1, .slice aq0_2 nq0_2 cq0_2] := by apply Array.ext'; exact e0
  obtain ⟨f1, g1⟩ := h1
  obtain ⟨cs1, rfl, _⟩ := okWide_struct Try.underlying29 (hval 1 29 v1 rfl rfl)
  obtain ⟨zq1_0, aq1_1, nq1_1, cq1_1, hq1_1, zq1_1, e1, rq1_1⟩ := inT29 g1
  obtain rfl : cs1 = #[.int .i64 zq1_0, .slice aq1_1 nq1_1 cq1_1] := by apply Array.ext'; exact e1
  obtain ⟨f2, g2⟩ := h2
  obtain ⟨cs2, rfl, _⟩ := okWide_struct Try.underlying29 (hval 2 29 v2 rfl rfl)
  obtain ⟨zq2_0, aq2_1, nq2_1, cq2_1, hq2_1, zq2_1, e2, rq2_1⟩ := inT29 g2
  obtain rfl : cs2 = #[.int .i64 zq2_0, .slice aq2_1 nq2_1 cq2_1] := by apply Array.ext'; exact e2
  refine (laws_FnExactValueRatio_c aq0_0 nq0_0 cq0_0 hq0_0 zq0_0 aq0_1 nq0_1 cq0_1 hq0_1 zq0_1 aq0_2 nq0_2 cq0_2 hq0_2 zq0_2 zq1_0 aq1_1 nq1_1 cq1_1 hq1_1 zq1_1 zq2_0 aq2_1 nq2_1 cq2_1 hq2_1 zq2_1 W rq0_0 rq0_1 rq0_2 rq1_1 rq2_1).mono fun e W' ⟨v, he, hv, hx⟩ => ?_
  subst he; subst hv
  exact ⟨_, rfl, law_post (tb := 4) hW' rfl rfl Try.underlying4 rfl rfl rfl (by kernel_rfl) hx⟩
theorem fnExactValueRatio_holds : Rows.FnExactValueRatioSaid :=
  OpenClaim.holds_of_wide 7 Try.f7 rfl rfl rfl rfl rfl rfl rfl ⟨rfl, rfl, rfl, rfl, rfl⟩ rfl rfl rfl rfl rfl (by kernel_rfl) Try.func7 (by kernel_rfl)
    (of_decide_eq_true (by kernel_rfl)) (by unfold Func.isWrapper; first | (rw [if_pos (by decide +kernel)]; kernel_rfl) | (rw [if_neg (by decide +kernel)]; exact ⟨rfl, rfl⟩))
    (fun os started H enc _ => fnExactValueRatio_lifted os started H enc)
#print axioms fnExactValueRatio_holds

end Go.Proofs.Ytofkhnipfhcaiaa
