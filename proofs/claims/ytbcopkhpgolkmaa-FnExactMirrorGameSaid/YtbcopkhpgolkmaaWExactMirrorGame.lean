/- The law FnExactMirrorGame returns true for all arguments. No condition. -/
import Derived.Test.YtbcopkhpgolkmaaEngC
import Derived.Test.YtbcopkhpgolkmaaFrame
import Derived.Test.YtbcopkhpgolkmaaFrm
import Derived.Test.YtbcopkhpgolkmaaTree
import Derived.Test.YtbcopkhpgolkmaaGame
import Derived.Test.YtbcopkhpgolkmaaL1
import Derived.Test.YtbcopkhpgolkmaaL2
import Derived.Test.YtbcopkhpgolkmaaL2m
import Derived.Test.YtbcopkhpgolkmaaL3
import Derived.Test.YtbcopkhpgolkmaaL4
import Derived.Test.YtbcopkhpgolkmaaSets
import Derived.Test.YtbcopkhpgolkmaaL5
import Derived.Test.YtbcopkhpgolkmaaL6
import Derived.Test.YtbcopkhpgolkmaaHigh
import Derived.Test.YtbcopkhpgolkmaaMirr
import Derived.Test.YtbcopkhpgolkmaaLC
import Derived.Test.YtbcopkhpgolkmaaLH
import Derived.Test.YtbcopkhpgolkmaaLM
import Derived.Test.YtbcopkhpgolkmaaLN
import Derived.Test.YtbcopkhpgolkmaaOpn
import Derived.Test.YtbcopkhpgolkmaaRows
namespace Go.Proofs.Ytbcopkhpgolkmaa
open Go Go.RowKit V Go.ChangeShapes Go.WideShapes Go.ChangeAt
set_option linter.unusedVariables false
set_option linter.unusedSimpArgs false
set_option maxRecDepth 100000



set_option maxHeartbeats 4000000 in
theorem laws_FnExactMirrorGame_c (az : Option Addr) (nz : Nat) (cz : Nat) (Hz : Nat → Hd) (z : List Nd) (aws : Option Addr) (nws : Nat) (cws : Nat) (Hws : Nat → Hd) (ws : List (List Int)) (avs : Option Addr) (nvs : Nat) (cvs : Nat) (Hvs : Nat → Hd) (vs : List (List Int)) (w : World) (rz : RdR ndK az nz Hz z w) (rws : RdR maK aws nws Hws ws w) (rvs : RdR maK avs nvs Hvs vs w) :
    Calls Try.prog 10 #[.agg #[.slice az nz cz, .slice aws nws cws, .slice avs nvs cvs]] w (Ret fun v w' => v = .bool true ∧ Ext w w') := by
  have kz : Kn w none_ [] (RdR ndK az nz Hz z) := fun w' hs => rz.ext hs.upd
  have lz : z.length = nz := rz.1
  have mz : nz ≤ 9223372036854775807 := rz.2.1
  have kws : Kn w none_ [] (RdR maK aws nws Hws ws) := fun w' hs => rws.ext hs.upd
  have lws : ws.length = nws := rws.1
  have mws : nws ≤ 9223372036854775807 := rws.2.1
  have kvs : Kn w none_ [] (RdR maK avs nvs Hvs vs) := fun w' hs => rvs.ext hs.upd
  have lvs : vs.length = nvs := rvs.1
  have mvs : nvs ≤ 9223372036854775807 := rvs.2.1
  refine fn (M := none_) (rs := [.tmp 2]) Try.func10 rfl Try.ntmps10 rfl rfl (Sep.start _ _) ?_
  refine hSeq ?_
  refine hReg (sl 0 (sq 1 sz)) (by kernel_rfl) ?_
  refine box trv1 rfl rfl rfl rfl (fun bkb1 hbkb1 => ?_)
  refine asB rfl rfl rfl ?_
  refine rNil ?_
  refine qSeq rfl ?_
  refine hSeq ?_
  refine hReg (sq 0 sz) (by kernel_rfl) ?_
  refine asI rfl rfl rfl ?_
  refine rNil ?_
  refine qSeq rfl ?_
  refine hSeq ?_
  refine hReg (sl 0 (sq 1 (sl 2 (sq 3 sz)))) (by kernel_rfl) ?_
  refine ldAl Try.isAgg27 Try.sizeOf27 (cBs 0 rfl) trv rfl rfl rfl rfl ?_
  refine mvI rfl rfl rfl ?_
  refine callP (v := .int .i64 ((Math.cut (Math.cut (Math.cut (1048576 : Int) (Math.szK Math.chl z : Int)) (Math.szK Math.rwl ws : Int)) (Math.szK Math.rwl vs : Int)))) Try.call15 trv rfl rfl (fun w hs => laws_szGame_c _ nz cz _ _ _ nws cws _ _ _ nvs cvs _ _ _ w (Kn.drop (k := 1) kz w hs) (Kn.drop (k := 1) kws w hs) (Kn.drop (k := 1) kvs w hs) (by omega)) ?_
  refine asI rfl rfl rfl ?_
  refine rNil ?_
  refine qSeq rfl ?_
  refine hSeq ?_
  refine hSeq ?_
  refine hReg (sq 0 (sq 1 sz)) (by kernel_rfl) ?_
  refine mvI rfl rfl rfl ?_
  refine lss rfl rfl rfl rfl ?_
  refine rNil ?_
  refine qSeq rfl ?_
  refine hIfD rfl (fun c1 => ?_) (fun c1 => ?_)
  · -- c1T
    replace c1 : (Math.cut (Math.cut (Math.cut (1048576 : Int) (Math.szK Math.chl z : Int)) (Math.szK Math.rwl ws : Int)) (Math.szK Math.rwl vs : Int)) < 0 := c1
    refine hSeq ?_
    refine hReg (sq 0 sz) (by kernel_rfl) ?_
    refine asB rfl rfl rfl ?_
    refine rNil ?_
    refine qSeq rfl ?_
    refine hRet ?_
    exact fun w hs => ⟨[.bool true], ⟨rfl, trivial⟩, ⟨by first | rfl | exact bD (by omega) | exact bT (by omega) | exact bF (by omega) | exact vI (by omega), hs.upd⟩⟩
  · -- c1F
    replace c1 : ¬ ((Math.cut (Math.cut (Math.cut (1048576 : Int) (Math.szK Math.chl z : Int)) (Math.szK Math.rwl ws : Int)) (Math.szK Math.rwl vs : Int)) < 0) := c1
    obtain ⟨hb, hbw, hbv⟩ := Math.cut3_pos (l := 1048576) (by omega) c1
    have hble := Math.cut3_le (l := 1048576) c1 (by omega)
    have hf4 := Math.sumK_f4 z
    have hsz : Math.szK Math.chl z = z.length + Math.sumK Math.chl z := rfl
    have hsw : Math.szK Math.rwl ws = ws.length + Math.sumK Math.rwl ws := rfl
    have hsv : Math.szK Math.rwl vs = vs.length + Math.sumK Math.rwl vs := rfl
    have hbd := Math.mirAt_bd z ws vs
    refine hSkip ?_
    refine qSeq rfl ?_
    refine hSeq ?_
    refine hReg (sl 0 (sl 1 (sl 2 (sq 3 (sq 4 (sq 5 (sl 6 (sl 7 (sq 8 sz))))))))) (by kernel_rfl) ?_
    refine ldAl Try.isAgg27 Try.sizeOf27 (cBs 0 rfl) trv rfl rfl rfl rfl ?_
    refine callS Try.call17 trv1 rfl rfl (fun w hs => laws_toGame_c _ nz cz _ _ _ nws cws _ _ _ nvs cvs _ _ w (Kn.drop (k := 1) kz w hs) (Kn.drop (k := 1) kws w hs) (Kn.drop (k := 1) kvs w hs) (by first | assumption | omega) (by first | assumption | omega) (by first | assumption | omega)) ?_
    rintro ⟨ay1, ny1, cy1, Hy1, y1, ayw1, nyw1, cyw1, Hyw1, yw1, ayv1, nyv1, cyv1, Hyv1, yv1⟩ ⟨hr1a, hr1b, hr1c⟩
    dsimp only at hr1a hr1b hr1c
    subst y1
    subst yw1
    subst yv1
    refine rPieces (L' := [OwnR ndK 84 2 ay1 ny1 cy1 Hy1 z, OwnR maK 82 2 ayw1 nyw1 cyw1 Hyw1 ws, OwnR maK 82 2 ayv1 nyv1 cyv1 Hyv1 vs, blk bkb1 27 [.slice az nz cz, .slice aws nws cws, .slice avs nvs cvs]]) (fun _ h => h) ?_
    refine rKnow (fun w hs => (show OwnR ndK 84 2 ay1 ny1 cy1 Hy1 z w from hs.at_ 0 rfl).1) (fun lenn2 => ?_)
    refine rKnow (fun w hs => (show OwnR maK 82 2 ayw1 nyw1 cyw1 Hyw1 ws w from hs.at_ 1 rfl).1) (fun lenn3 => ?_)
    refine rKnow (fun w hs => (show OwnR maK 82 2 ayv1 nyv1 cyv1 Hyv1 vs w from hs.at_ 2 rfl).1) (fun lenn4 => ?_)
    refine callS Try.call45 trv1 rfl rfl (fun w hs => spec_MirrorGame_c _ ny1 cy1 _ _ _ nyw1 cyw1 _ _ _ nyv1 cyv1 _ _ w (OwnR.rd (hs.at_ 0 rfl) ndK.ok) (OwnR.rd (hs.at_ 1 rfl) maK.ok) (OwnR.rd (hs.at_ 2 rfl) maK.ok)) ?_
    rintro ⟨ay2, ny2, cy2, Hy2, y2, ayw2, nyw2, cyw2, Hyw2, yw2, ayv2, nyv2, cyv2, Hyv2, yv2, q2⟩ ⟨hr2a, hr2b, hr2c, hr2d⟩
    dsimp only at hr2a hr2b hr2c hr2d
    subst y2
    subst yw2
    subst yv2
    subst q2
    refine rPieces (L' := [OwnR ndK 84 2 ay2 ny2 cy2 Hy2 ((((Math.mirAt z ws vs).1.1))), OwnR maK 82 2 ayw2 nyw2 cyw2 Hyw2 ((((Math.mirAt z ws vs).1.2.1))), OwnR maK 82 2 ayv2 nyv2 cyv2 Hyv2 ((((Math.mirAt z ws vs).1.2.2))), OwnR ndK 84 2 ay1 ny1 cy1 Hy1 z, OwnR maK 82 2 ayw1 nyw1 cyw1 Hyw1 ws, OwnR maK 82 2 ayv1 nyv1 cyv1 Hyv1 vs, blk bkb1 27 [.slice az nz cz, .slice aws nws cws, .slice avs nvs cvs]]) (fun _ h => h) ?_
    refine rKnow (fun w hs => (show OwnR ndK 84 2 ay2 ny2 cy2 Hy2 ((((Math.mirAt z ws vs).1.1))) w from hs.at_ 0 rfl).1) (fun lenn5 => ?_)
    refine rKnow (fun w hs => (show OwnR maK 82 2 ayw2 nyw2 cyw2 Hyw2 ((((Math.mirAt z ws vs).1.2.1))) w from hs.at_ 1 rfl).1) (fun lenn6 => ?_)
    refine rKnow (fun w hs => (show OwnR maK 82 2 ayv2 nyv2 cyv2 Hyv2 ((((Math.mirAt z ws vs).1.2.2))) w from hs.at_ 2 rfl).1) (fun lenn7 => ?_)
    refine mv rfl rfl rfl ?_
    refine ext rfl rfl rfl rfl ?_
    refine ext rfl rfl rfl rfl ?_
    refine alc Try.zeroValue35 rfl trv1 rfl rfl (fun bka8 hbka8 => ?_)
    refine stAl (vs := [.slice ay2 ny2 cy2, .slice ayw2 nyw2 cyw2, .slice ayv2 nyv2 cyv2]) 0 rfl Try.sizeOf35 trv rfl rfl rfl rfl rfl (by simp [Value.oneCell']) rfl ?_
    refine asI rfl rfl rfl ?_
    refine rNil ?_
    refine qSeq rfl ?_
    refine hSeq ?_
    refine hReg (sl 0 (sl 1 (sl 2 (sl 3 sz)))) (by kernel_rfl) ?_
    refine ldAl Try.isAgg27 Try.sizeOf27 (cBs 7 rfl) trv rfl rfl rfl rfl ?_
    refine callS Try.call17 trv1 rfl rfl (fun w hs => laws_toGame_c _ nz cz _ _ _ nws cws _ _ _ nvs cvs _ _ w (Kn.drop (k := 8) kz w hs) (Kn.drop (k := 8) kws w hs) (Kn.drop (k := 8) kvs w hs) (by first | assumption | omega) (by first | assumption | omega) (by first | assumption | omega)) ?_
    rintro ⟨ay3, ny3, cy3, Hy3, y3, ayw3, nyw3, cyw3, Hyw3, yw3, ayv3, nyv3, cyv3, Hyv3, yv3⟩ ⟨hr3a, hr3b, hr3c⟩
    dsimp only at hr3a hr3b hr3c
    subst y3
    subst yw3
    subst yv3
    refine rPieces (L' := [OwnR ndK 84 2 ay3 ny3 cy3 Hy3 z, OwnR maK 82 2 ayw3 nyw3 cyw3 Hyw3 ws, OwnR maK 82 2 ayv3 nyv3 cyv3 Hyv3 vs, blk bka8 35 [.slice ay2 ny2 cy2, .slice ayw2 nyw2 cyw2, .slice ayv2 nyv2 cyv2], OwnR ndK 84 2 ay2 ny2 cy2 Hy2 ((((Math.mirAt z ws vs).1.1))), OwnR maK 82 2 ayw2 nyw2 cyw2 Hyw2 ((((Math.mirAt z ws vs).1.2.1))), OwnR maK 82 2 ayv2 nyv2 cyv2 Hyv2 ((((Math.mirAt z ws vs).1.2.2))), OwnR ndK 84 2 ay1 ny1 cy1 Hy1 z, OwnR maK 82 2 ayw1 nyw1 cyw1 Hyw1 ws, OwnR maK 82 2 ayv1 nyv1 cyv1 Hyv1 vs, blk bkb1 27 [.slice az nz cz, .slice aws nws cws, .slice avs nvs cvs]]) (fun _ h => h) ?_
    refine rKnow (fun w hs => (show OwnR ndK 84 2 ay3 ny3 cy3 Hy3 z w from hs.at_ 0 rfl).1) (fun lenn9 => ?_)
    refine rKnow (fun w hs => (show OwnR maK 82 2 ayw3 nyw3 cyw3 Hyw3 ws w from hs.at_ 1 rfl).1) (fun lenn10 => ?_)
    refine rKnow (fun w hs => (show OwnR maK 82 2 ayv3 nyv3 cyv3 Hyv3 vs w from hs.at_ 2 rfl).1) (fun lenn11 => ?_)
    refine alc Try.zeroValue35 rfl trv1 rfl rfl (fun bka12 hbka12 => ?_)
    refine stAl (vs := [.slice ay3 ny3 cy3, .slice ayw3 nyw3 cyw3, .slice ayv3 nyv3 cyv3]) 0 rfl Try.sizeOf35 trv rfl rfl rfl rfl rfl (by simp [Value.oneCell']) rfl ?_
    refine rNil ?_
    refine qSeq rfl ?_
    refine hSeq ?_
    refine hReg (sl 0 (sl 1 (sq 2 (sq 3 (sq 4 (sl 5 (sl 6 (sq 7 sz)))))))) (by kernel_rfl) ?_
    refine ldAl Try.isAgg35 Try.sizeOf35 (cBs 0 rfl) trv rfl rfl rfl rfl ?_
    refine callS Try.call46 trv1 rfl rfl (fun w hs => impl_MirrorGame_c _ ny3 cy3 _ _ _ nyw3 cyw3 _ _ _ nyv3 cyv3 _ _ w (OwnR.rd (hs.at_ 1 rfl) ndK.ok) (OwnR.rd (hs.at_ 2 rfl) maK.ok) (OwnR.rd (hs.at_ 3 rfl) maK.ok)) ?_
    rintro ⟨ay4, ny4, cy4, Hy4, y4, ayw4, nyw4, cyw4, Hyw4, yw4, ayv4, nyv4, cyv4, Hyv4, yv4, q4⟩ ⟨hr4a, hr4b, hr4c, hr4d⟩
    dsimp only at hr4a hr4b hr4c hr4d
    subst y4
    subst yw4
    subst yv4
    subst q4
    refine rPieces (L' := [OwnR ndK 84 2 ay4 ny4 cy4 Hy4 ((((Math.mirAt z ws vs).1.1))), OwnR maK 82 2 ayw4 nyw4 cyw4 Hyw4 ((((Math.mirAt z ws vs).1.2.1))), OwnR maK 82 2 ayv4 nyv4 cyv4 Hyv4 ((((Math.mirAt z ws vs).1.2.2))), blk bka12 35 [.slice ay3 ny3 cy3, .slice ayw3 nyw3 cyw3, .slice ayv3 nyv3 cyv3], OwnR ndK 84 2 ay3 ny3 cy3 Hy3 z, OwnR maK 82 2 ayw3 nyw3 cyw3 Hyw3 ws, OwnR maK 82 2 ayv3 nyv3 cyv3 Hyv3 vs, blk bka8 35 [.slice ay2 ny2 cy2, .slice ayw2 nyw2 cyw2, .slice ayv2 nyv2 cyv2], OwnR ndK 84 2 ay2 ny2 cy2 Hy2 ((((Math.mirAt z ws vs).1.1))), OwnR maK 82 2 ayw2 nyw2 cyw2 Hyw2 ((((Math.mirAt z ws vs).1.2.1))), OwnR maK 82 2 ayv2 nyv2 cyv2 Hyv2 ((((Math.mirAt z ws vs).1.2.2))), OwnR ndK 84 2 ay1 ny1 cy1 Hy1 z, OwnR maK 82 2 ayw1 nyw1 cyw1 Hyw1 ws, OwnR maK 82 2 ayv1 nyv1 cyv1 Hyv1 vs, blk bkb1 27 [.slice az nz cz, .slice aws nws cws, .slice avs nvs cvs]]) (fun _ h => h) ?_
    refine rKnow (fun w hs => (show OwnR ndK 84 2 ay4 ny4 cy4 Hy4 ((((Math.mirAt z ws vs).1.1))) w from hs.at_ 0 rfl).1) (fun lenn13 => ?_)
    refine rKnow (fun w hs => (show OwnR maK 82 2 ayw4 nyw4 cyw4 Hyw4 ((((Math.mirAt z ws vs).1.2.1))) w from hs.at_ 1 rfl).1) (fun lenn14 => ?_)
    refine rKnow (fun w hs => (show OwnR maK 82 2 ayv4 nyv4 cyv4 Hyv4 ((((Math.mirAt z ws vs).1.2.2))) w from hs.at_ 2 rfl).1) (fun lenn15 => ?_)
    refine mv rfl rfl rfl ?_
    refine ext rfl rfl rfl rfl ?_
    refine ext rfl rfl rfl rfl ?_
    refine alc Try.zeroValue35 rfl trv1 rfl rfl (fun bka16 hbka16 => ?_)
    refine stAl (vs := [.slice ay4 ny4 cy4, .slice ayw4 nyw4 cyw4, .slice ayv4 nyv4 cyv4]) 0 rfl Try.sizeOf35 trv rfl rfl rfl rfl rfl (by simp [Value.oneCell']) rfl ?_
    refine asI rfl rfl rfl ?_
    refine rNil ?_
    refine qSeq rfl ?_
    refine hSeq ?_
    refine hSeq ?_
    refine hReg (sl 0 (sl 1 (sl 2 (sq 3 (sq 4 (sq 5 (sq 6 (sq 7 (sq 8 sz))))))))) (by kernel_rfl) ?_
    refine ldAl Try.isAgg35 Try.sizeOf35 (cBs 0 rfl) trv rfl rfl rfl rfl ?_
    refine ldAl Try.isAgg35 Try.sizeOf35 (cBs 8 rfl) trv rfl rfl rfl rfl ?_
    refine callP (v := .bool true) Try.call19 trv rfl rfl (fun w hs => laws_eqGame_c _ ny4 cy4 _ _ _ nyw4 cyw4 _ _ _ nyv4 cyv4 _ _ _ ny2 cy2 _ _ _ nyw2 cyw2 _ _ _ nyv2 cyv2 _ _ w (OwnR.rd (hs.at_ 1 rfl) ndK.ok) (OwnR.rd (hs.at_ 2 rfl) maK.ok) (OwnR.rd (hs.at_ 3 rfl) maK.ok) (OwnR.rd (hs.at_ 9 rfl) ndK.ok) (OwnR.rd (hs.at_ 10 rfl) maK.ok) (OwnR.rd (hs.at_ 11 rfl) maK.ok) (by exact ⟨rfl, rfl, rfl⟩)) ?_
    refine not rfl rfl rfl ?_
    refine mvB rfl rfl rfl ?_
    refine mvI rfl rfl rfl ?_
    refine mvI rfl rfl rfl ?_
    refine neq rfl rfl rfl rfl ?_
    refine pickB rfl rfl rfl rfl ?_
    refine rNil ?_
    refine qSeq rfl ?_
    refine hIfD rfl (fun c2 => ?_) (fun c2 => ?_)
    · -- c2T
      replace c2 : (((Math.mirAt z ws vs).2)) ≠ (((Math.mirAt z ws vs).2)) := c2
      exact absurd rfl c2
    · -- c2F
      replace c2 : ¬ ((((Math.mirAt z ws vs).2)) ≠ (((Math.mirAt z ws vs).2))) := c2
      refine hSkip ?_
      refine qSeq rfl ?_
      refine hSeq ?_
      refine hSeq ?_
      refine hDraw (Ls := [blk bka12 35 [.slice ay3 ny3 cy3, .slice ayw3 nyw3 cyw3, .slice ayv3 nyv3 cyv3], blk bkb1 27 [.slice az nz cz, .slice aws nws cws, .slice avs nvs cvs]]) (by kernel_rfl) (sq 0 (sq 1 (sl 2 (sl 3 (sq 4 sz))))) (by kernel_rfl) (.cons _ (.cons _ (.cons _ (.cons _ (.cons_cons _ (.cons _ (.cons _ (.cons _ (.cons _ (.cons _ (.cons _ (.cons _ (.cons _ (.cons _ (.cons _ (.cons_cons _ .slnil)))))))))))))))) ?_
      refine ldAq Try.isAgg35 Try.sizeOf35 (cBs 0 rfl) rfl rfl rfl rfl ?_
      refine ldAq Try.isAgg27 Try.sizeOf27 (cBs 1 rfl) rfl rfl rfl rfl ?_
      refine callS Try.call17 (by exact (fun _ _ h => h.pick [7, 17])) rfl rfl (fun w hs => laws_toGame_c _ nz cz _ _ _ nws cws _ _ _ nvs cvs _ _ w (Kn.drop (k := 16) kz w hs) (Kn.drop (k := 16) kws w hs) (Kn.drop (k := 16) kvs w hs) (by first | assumption | omega) (by first | assumption | omega) (by first | assumption | omega)) ?_
      rintro ⟨ay5, ny5, cy5, Hy5, y5, ayw5, nyw5, cyw5, Hyw5, yw5, ayv5, nyv5, cyv5, Hyv5, yv5⟩ ⟨hr5a, hr5b, hr5c⟩
      dsimp only at hr5a hr5b hr5c
      subst y5
      subst yw5
      subst yv5
      refine rPieces (L' := [OwnR ndK 84 2 ay5 ny5 cy5 Hy5 z, OwnR maK 82 2 ayw5 nyw5 cyw5 Hyw5 ws, OwnR maK 82 2 ayv5 nyv5 cyv5 Hyv5 vs, blk bka16 35 [.slice ay4 ny4 cy4, .slice ayw4 nyw4 cyw4, .slice ayv4 nyv4 cyv4], OwnR ndK 84 2 ay4 ny4 cy4 Hy4 ((((Math.mirAt z ws vs).1.1))), OwnR maK 82 2 ayw4 nyw4 cyw4 Hyw4 ((((Math.mirAt z ws vs).1.2.1))), OwnR maK 82 2 ayv4 nyv4 cyv4 Hyv4 ((((Math.mirAt z ws vs).1.2.2))), blk bka12 35 [.slice ay3 ny3 cy3, .slice ayw3 nyw3 cyw3, .slice ayv3 nyv3 cyv3], OwnR ndK 84 2 ay3 ny3 cy3 Hy3 z, OwnR maK 82 2 ayw3 nyw3 cyw3 Hyw3 ws, OwnR maK 82 2 ayv3 nyv3 cyv3 Hyv3 vs, blk bka8 35 [.slice ay2 ny2 cy2, .slice ayw2 nyw2 cyw2, .slice ayv2 nyv2 cyv2], OwnR ndK 84 2 ay2 ny2 cy2 Hy2 ((((Math.mirAt z ws vs).1.1))), OwnR maK 82 2 ayw2 nyw2 cyw2 Hyw2 ((((Math.mirAt z ws vs).1.2.1))), OwnR maK 82 2 ayv2 nyv2 cyv2 Hyv2 ((((Math.mirAt z ws vs).1.2.2))), OwnR ndK 84 2 ay1 ny1 cy1 Hy1 z, OwnR maK 82 2 ayw1 nyw1 cyw1 Hyw1 ws, OwnR maK 82 2 ayv1 nyv1 cyv1 Hyv1 vs, blk bkb1 27 [.slice az nz cz, .slice aws nws cws, .slice avs nvs cvs]]) (fun _ h => h) ?_
      refine rKnow (fun w hs => (show OwnR ndK 84 2 ay5 ny5 cy5 Hy5 z w from hs.at_ 0 rfl).1) (fun lenn17 => ?_)
      refine rKnow (fun w hs => (show OwnR maK 82 2 ayw5 nyw5 cyw5 Hyw5 ws w from hs.at_ 1 rfl).1) (fun lenn18 => ?_)
      refine rKnow (fun w hs => (show OwnR maK 82 2 ayv5 nyv5 cyv5 Hyv5 vs w from hs.at_ 2 rfl).1) (fun lenn19 => ?_)
      refine callP (v := .bool true) Try.call19 (fun _ h => h.pick [7, 17]) rfl rfl (fun w hs => laws_eqGame_c _ ny3 cy3 _ _ _ nyw3 cyw3 _ _ _ nyv3 cyv3 _ _ _ ny5 cy5 _ _ _ nyw5 cyw5 _ _ _ nyv5 cyv5 _ _ w (OwnR.rd (hs.at_ 8 rfl) ndK.ok) (OwnR.rd (hs.at_ 9 rfl) maK.ok) (OwnR.rd (hs.at_ 10 rfl) maK.ok) (OwnR.rd (hs.at_ 0 rfl) ndK.ok) (OwnR.rd (hs.at_ 1 rfl) maK.ok) (OwnR.rd (hs.at_ 2 rfl) maK.ok) (by exact ⟨rfl, rfl, rfl⟩)) ?_
      refine not rfl rfl rfl ?_
      refine rNil ?_
      refine qSeq rfl ?_
      refine hIfF rfl ?_
      refine hSkip ?_
      refine qSeq rfl ?_
      refine hSeq ?_
      refine hReg (sq 0 sz) (by kernel_rfl) ?_
      refine asI rfl rfl rfl ?_
      refine rNil ?_
      refine qSeq rfl ?_
      refine hSeq ?_
      refine hReg (sl 0 (sq 1 (sl 2 (sq 3 sz)))) (by kernel_rfl) ?_
      refine ldAl Try.isAgg35 Try.sizeOf35 (cBs 7 rfl) trv rfl rfl rfl rfl ?_
      refine mvI rfl rfl rfl ?_
      refine rPieces (L' := [OwnR maK 82 2 ayv3 nyv3 cyv3 Hyv3 vs, OwnR ndK 84 2 ay5 ny5 cy5 Hy5 z, OwnR maK 82 2 ayw5 nyw5 cyw5 Hyw5 ws, OwnR maK 82 2 ayv5 nyv5 cyv5 Hyv5 vs, blk bka16 35 [.slice ay4 ny4 cy4, .slice ayw4 nyw4 cyw4, .slice ayv4 nyv4 cyv4], OwnR ndK 84 2 ay4 ny4 cy4 Hy4 ((((Math.mirAt z ws vs).1.1))), OwnR maK 82 2 ayw4 nyw4 cyw4 Hyw4 ((((Math.mirAt z ws vs).1.2.1))), OwnR maK 82 2 ayv4 nyv4 cyv4 Hyv4 ((((Math.mirAt z ws vs).1.2.2))), blk bka12 35 [.slice ay3 ny3 cy3, .slice ayw3 nyw3 cyw3, .slice ayv3 nyv3 cyv3], OwnR ndK 84 2 ay3 ny3 cy3 Hy3 z, OwnR maK 82 2 ayw3 nyw3 cyw3 Hyw3 ws, blk bka8 35 [.slice ay2 ny2 cy2, .slice ayw2 nyw2 cyw2, .slice ayv2 nyv2 cyv2], OwnR ndK 84 2 ay2 ny2 cy2 Hy2 ((((Math.mirAt z ws vs).1.1))), OwnR maK 82 2 ayw2 nyw2 cyw2 Hyw2 ((((Math.mirAt z ws vs).1.2.1))), OwnR maK 82 2 ayv2 nyv2 cyv2 Hyv2 ((((Math.mirAt z ws vs).1.2.2))), OwnR ndK 84 2 ay1 ny1 cy1 Hy1 z, OwnR maK 82 2 ayw1 nyw1 cyw1 Hyw1 ws, OwnR maK 82 2 ayv1 nyv1 cyv1 Hyv1 vs, blk bkb1 27 [.slice az nz cz, .slice aws nws cws, .slice avs nvs cvs]]) (fun _ h => h.perm (pull (i := 10) rfl)) ?_
      refine rPieces (L' := [OwnR maK 82 2 ayw3 nyw3 cyw3 Hyw3 ws, OwnR maK 82 2 ayv3 nyv3 cyv3 Hyv3 vs, OwnR ndK 84 2 ay5 ny5 cy5 Hy5 z, OwnR maK 82 2 ayw5 nyw5 cyw5 Hyw5 ws, OwnR maK 82 2 ayv5 nyv5 cyv5 Hyv5 vs, blk bka16 35 [.slice ay4 ny4 cy4, .slice ayw4 nyw4 cyw4, .slice ayv4 nyv4 cyv4], OwnR ndK 84 2 ay4 ny4 cy4 Hy4 ((((Math.mirAt z ws vs).1.1))), OwnR maK 82 2 ayw4 nyw4 cyw4 Hyw4 ((((Math.mirAt z ws vs).1.2.1))), OwnR maK 82 2 ayv4 nyv4 cyv4 Hyv4 ((((Math.mirAt z ws vs).1.2.2))), blk bka12 35 [.slice ay3 ny3 cy3, .slice ayw3 nyw3 cyw3, .slice ayv3 nyv3 cyv3], OwnR ndK 84 2 ay3 ny3 cy3 Hy3 z, blk bka8 35 [.slice ay2 ny2 cy2, .slice ayw2 nyw2 cyw2, .slice ayv2 nyv2 cyv2], OwnR ndK 84 2 ay2 ny2 cy2 Hy2 ((((Math.mirAt z ws vs).1.1))), OwnR maK 82 2 ayw2 nyw2 cyw2 Hyw2 ((((Math.mirAt z ws vs).1.2.1))), OwnR maK 82 2 ayv2 nyv2 cyv2 Hyv2 ((((Math.mirAt z ws vs).1.2.2))), OwnR ndK 84 2 ay1 ny1 cy1 Hy1 z, OwnR maK 82 2 ayw1 nyw1 cyw1 Hyw1 ws, OwnR maK 82 2 ayv1 nyv1 cyv1 Hyv1 vs, blk bkb1 27 [.slice az nz cz, .slice aws nws cws, .slice avs nvs cvs]]) (fun _ h => h.perm (pull (i := 10) rfl)) ?_
      refine rPieces (L' := [OwnR ndK 84 2 ay3 ny3 cy3 Hy3 z, OwnR maK 82 2 ayw3 nyw3 cyw3 Hyw3 ws, OwnR maK 82 2 ayv3 nyv3 cyv3 Hyv3 vs, OwnR ndK 84 2 ay5 ny5 cy5 Hy5 z, OwnR maK 82 2 ayw5 nyw5 cyw5 Hyw5 ws, OwnR maK 82 2 ayv5 nyv5 cyv5 Hyv5 vs, blk bka16 35 [.slice ay4 ny4 cy4, .slice ayw4 nyw4 cyw4, .slice ayv4 nyv4 cyv4], OwnR ndK 84 2 ay4 ny4 cy4 Hy4 ((((Math.mirAt z ws vs).1.1))), OwnR maK 82 2 ayw4 nyw4 cyw4 Hyw4 ((((Math.mirAt z ws vs).1.2.1))), OwnR maK 82 2 ayv4 nyv4 cyv4 Hyv4 ((((Math.mirAt z ws vs).1.2.2))), blk bka12 35 [.slice ay3 ny3 cy3, .slice ayw3 nyw3 cyw3, .slice ayv3 nyv3 cyv3], blk bka8 35 [.slice ay2 ny2 cy2, .slice ayw2 nyw2 cyw2, .slice ayv2 nyv2 cyv2], OwnR ndK 84 2 ay2 ny2 cy2 Hy2 ((((Math.mirAt z ws vs).1.1))), OwnR maK 82 2 ayw2 nyw2 cyw2 Hyw2 ((((Math.mirAt z ws vs).1.2.1))), OwnR maK 82 2 ayv2 nyv2 cyv2 Hyv2 ((((Math.mirAt z ws vs).1.2.2))), OwnR ndK 84 2 ay1 ny1 cy1 Hy1 z, OwnR maK 82 2 ayw1 nyw1 cyw1 Hyw1 ws, OwnR maK 82 2 ayv1 nyv1 cyv1 Hyv1 vs, blk bkb1 27 [.slice az nz cz, .slice aws nws cws, .slice avs nvs cvs]]) (fun _ h => h.perm (pull (i := 10) rfl)) ?_
      refine callM (Lf := [OwnR ndK 84 2 ay3 ny3 cy3 Hy3 z, OwnR maK 82 2 ayw3 nyw3 cyw3 Hyw3 ws, OwnR maK 82 2 ayv3 nyv3 cyv3 Hyv3 vs]) (Lr := [OwnR ndK 84 2 ay5 ny5 cy5 Hy5 z, OwnR maK 82 2 ayw5 nyw5 cyw5 Hyw5 ws, OwnR maK 82 2 ayv5 nyv5 cyv5 Hyv5 vs, blk bka16 35 [.slice ay4 ny4 cy4, .slice ayw4 nyw4 cyw4, .slice ayv4 nyv4 cyv4], OwnR ndK 84 2 ay4 ny4 cy4 Hy4 ((((Math.mirAt z ws vs).1.1))), OwnR maK 82 2 ayw4 nyw4 cyw4 Hyw4 ((((Math.mirAt z ws vs).1.2.1))), OwnR maK 82 2 ayv4 nyv4 cyv4 Hyv4 ((((Math.mirAt z ws vs).1.2.2))), blk bka12 35 [.slice ay3 ny3 cy3, .slice ayw3 nyw3 cyw3, .slice ayv3 nyv3 cyv3], blk bka8 35 [.slice ay2 ny2 cy2, .slice ayw2 nyw2 cyw2, .slice ayv2 nyv2 cyv2], OwnR ndK 84 2 ay2 ny2 cy2 Hy2 ((((Math.mirAt z ws vs).1.1))), OwnR maK 82 2 ayw2 nyw2 cyw2 Hyw2 ((((Math.mirAt z ws vs).1.2.1))), OwnR maK 82 2 ayv2 nyv2 cyv2 Hyv2 ((((Math.mirAt z ws vs).1.2.2))), OwnR ndK 84 2 ay1 ny1 cy1 Hy1 z, OwnR maK 82 2 ayw1 nyw1 cyw1 Hyw1 ws, OwnR maK 82 2 ayv1 nyv1 cyv1 Hyv1 vs, blk bkb1 27 [.slice az nz cz, .slice aws nws cws, .slice avs nvs cvs]]) (φs := fun _ => [OwnR ndK 84 2 ay3 ny3 cy3 Hy3 ((Math.marksN (1 : Int) z)), OwnR maK 82 2 ayw3 nyw3 cyw3 Hyw3 ((Math.marksM ((1 : Int) + (Math.sumK Math.f4 z : Int)) ws)), OwnR maK 82 2 ayv3 nyv3 cyv3 Hyv3 ((Math.marksM (((1 : Int) + (Math.sumK Math.f4 z : Int)) + (Math.sumK Math.rwl ws : Int)) vs))]) (val := fun _ => .int .i64 (((((1 : Int) + (Math.sumK Math.f4 z : Int)) + (Math.sumK Math.rwl ws : Int)) + (Math.sumK Math.rwl vs : Int)))) rfl Try.call33 trv1 rfl rfl (fun w M0 hs => laws_markGame_c ay3 ny3 cy3 Hy3 z ayw3 nyw3 cyw3 Hyw3 ws ayv3 nyv3 cyv3 Hyv3 vs (1 : Int) w M0 hs (by omega)) ?_
      rintro _ -
      refine rPieces (L' := [OwnR ndK 84 2 ay3 ny3 cy3 Hy3 ((Math.marksN (1 : Int) z)), OwnR maK 82 2 ayw3 nyw3 cyw3 Hyw3 ((Math.marksM ((1 : Int) + (Math.sumK Math.f4 z : Int)) ws)), OwnR maK 82 2 ayv3 nyv3 cyv3 Hyv3 ((Math.marksM (((1 : Int) + (Math.sumK Math.f4 z : Int)) + (Math.sumK Math.rwl ws : Int)) vs)), OwnR ndK 84 2 ay5 ny5 cy5 Hy5 z, OwnR maK 82 2 ayw5 nyw5 cyw5 Hyw5 ws, OwnR maK 82 2 ayv5 nyv5 cyv5 Hyv5 vs, blk bka16 35 [.slice ay4 ny4 cy4, .slice ayw4 nyw4 cyw4, .slice ayv4 nyv4 cyv4], OwnR ndK 84 2 ay4 ny4 cy4 Hy4 ((((Math.mirAt z ws vs).1.1))), OwnR maK 82 2 ayw4 nyw4 cyw4 Hyw4 ((((Math.mirAt z ws vs).1.2.1))), OwnR maK 82 2 ayv4 nyv4 cyv4 Hyv4 ((((Math.mirAt z ws vs).1.2.2))), blk bka12 35 [.slice ay3 ny3 cy3, .slice ayw3 nyw3 cyw3, .slice ayv3 nyv3 cyv3], blk bka8 35 [.slice ay2 ny2 cy2, .slice ayw2 nyw2 cyw2, .slice ayv2 nyv2 cyv2], OwnR ndK 84 2 ay2 ny2 cy2 Hy2 ((((Math.mirAt z ws vs).1.1))), OwnR maK 82 2 ayw2 nyw2 cyw2 Hyw2 ((((Math.mirAt z ws vs).1.2.1))), OwnR maK 82 2 ayv2 nyv2 cyv2 Hyv2 ((((Math.mirAt z ws vs).1.2.2))), OwnR ndK 84 2 ay1 ny1 cy1 Hy1 z, OwnR maK 82 2 ayw1 nyw1 cyw1 Hyw1 ws, OwnR maK 82 2 ayv1 nyv1 cyv1 Hyv1 vs, blk bkb1 27 [.slice az nz cz, .slice aws nws cws, .slice avs nvs cvs]]) (fun _ h => h) ?_
      refine asI rfl rfl rfl ?_
      refine rNil ?_
      refine qSeq rfl ?_
      refine hSeq ?_
      refine hSeq ?_
      refine hReg (sq 0 (sq 1 (sq 2 (sl 3 (sl 4 (sl 5 (sq 6 (sq 7 (sq 8 (sq 9 (sq 10 (sq 11 (sq 12 sz))))))))))))) (by kernel_rfl) ?_
      refine mvI rfl rfl rfl ?_
      refine lss rfl rfl rfl rfl ?_
      refine mvB rfl rfl rfl ?_
      refine rBoolD (d := 51) rfl (fun g3 => ?_) (fun g3 => ?_)
      · -- g3T
        replace g3 : ((((1 : Int) + (Math.sumK Math.f4 z : Int)) + (Math.sumK Math.rwl ws : Int)) + (Math.sumK Math.rwl vs : Int)) < 0 := g3
        refine rSkipL trv rfl rfl ?_
        refine rSkipL trv rfl rfl ?_
        refine rSkipL trv rfl rfl ?_
        refine rSkipQ rfl rfl ?_
        refine pickB rfl rfl rfl rfl ?_
        refine mvB rfl rfl rfl ?_
        refine rSkipQ rfl rfl ?_
        refine rSkipQ rfl rfl ?_
        refine rSkipQ rfl rfl ?_
        refine pickB rfl rfl rfl rfl ?_
        refine rNil ?_
        refine qSeq rfl ?_
        refine hIfT rfl ?_
        refine hSeq ?_
        refine hReg (sq 0 sz) (by kernel_rfl) ?_
        refine asB rfl rfl rfl ?_
        refine rNil ?_
        refine qSeq rfl ?_
        refine hRet ?_
        exact fun w hs => ⟨[.bool false], ⟨rfl, trivial⟩, ⟨by exfalso; omega, hs.upd⟩⟩
      · -- g3F
        replace g3 : ¬ (((((1 : Int) + (Math.sumK Math.f4 z : Int)) + (Math.sumK Math.rwl ws : Int)) + (Math.sumK Math.rwl vs : Int)) < 0) := g3
        refine ldAl Try.isAgg35 Try.sizeOf35 (cBs 6 rfl) trv rfl rfl rfl rfl ?_
        refine ldAl Try.isAgg35 Try.sizeOf35 (cBs 11 rfl) trv rfl rfl rfl rfl ?_
        refine callP (v := .bool true) Try.call19 trv rfl rfl (fun w hs => laws_eqGame_c _ ny4 cy4 _ _ _ nyw4 cyw4 _ _ _ nyv4 cyv4 _ _ _ ny2 cy2 _ _ _ nyw2 cyw2 _ _ _ nyv2 cyv2 _ _ w (OwnR.rd (hs.at_ 7 rfl) ndK.ok) (OwnR.rd (hs.at_ 8 rfl) maK.ok) (OwnR.rd (hs.at_ 9 rfl) maK.ok) (OwnR.rd (hs.at_ 12 rfl) ndK.ok) (OwnR.rd (hs.at_ 13 rfl) maK.ok) (OwnR.rd (hs.at_ 14 rfl) maK.ok) (by exact ⟨rfl, rfl, rfl⟩)) ?_
        refine not rfl rfl rfl ?_
        refine pickB rfl rfl rfl rfl ?_
        refine mvB rfl rfl rfl ?_
        refine mvI rfl rfl rfl ?_
        refine mvI rfl rfl rfl ?_
        refine neq rfl rfl rfl rfl ?_
        refine pickB rfl rfl rfl rfl ?_
        refine rNil ?_
        refine qSeq rfl ?_
        refine hIfD rfl (fun c4 => ?_) (fun c4 => ?_)
        · -- c4T
          replace c4 : (((Math.mirAt z ws vs).2)) ≠ (((Math.mirAt z ws vs).2)) := c4
          exact absurd rfl c4
        · -- c4F
          replace c4 : ¬ ((((Math.mirAt z ws vs).2)) ≠ (((Math.mirAt z ws vs).2))) := c4
          refine hSkip ?_
          refine qSeq rfl ?_
          refine hSeq ?_
          refine hReg (sq 0 sz) (by kernel_rfl) ?_
          refine asI rfl rfl rfl ?_
          refine rNil ?_
          refine qSeq rfl ?_
          refine hSeq ?_
          refine hReg (sl 0 (sq 1 (sl 2 (sq 3 sz)))) (by kernel_rfl) ?_
          refine ldAl Try.isAgg35 Try.sizeOf35 (cBs 6 rfl) trv rfl rfl rfl rfl ?_
          refine mvI rfl rfl rfl ?_
          refine rPieces (L' := [OwnR maK 82 2 ayv4 nyv4 cyv4 Hyv4 ((((Math.mirAt z ws vs).1.2.2))), OwnR ndK 84 2 ay3 ny3 cy3 Hy3 ((Math.marksN (1 : Int) z)), OwnR maK 82 2 ayw3 nyw3 cyw3 Hyw3 ((Math.marksM ((1 : Int) + (Math.sumK Math.f4 z : Int)) ws)), OwnR maK 82 2 ayv3 nyv3 cyv3 Hyv3 ((Math.marksM (((1 : Int) + (Math.sumK Math.f4 z : Int)) + (Math.sumK Math.rwl ws : Int)) vs)), OwnR ndK 84 2 ay5 ny5 cy5 Hy5 z, OwnR maK 82 2 ayw5 nyw5 cyw5 Hyw5 ws, OwnR maK 82 2 ayv5 nyv5 cyv5 Hyv5 vs, blk bka16 35 [.slice ay4 ny4 cy4, .slice ayw4 nyw4 cyw4, .slice ayv4 nyv4 cyv4], OwnR ndK 84 2 ay4 ny4 cy4 Hy4 ((((Math.mirAt z ws vs).1.1))), OwnR maK 82 2 ayw4 nyw4 cyw4 Hyw4 ((((Math.mirAt z ws vs).1.2.1))), blk bka12 35 [.slice ay3 ny3 cy3, .slice ayw3 nyw3 cyw3, .slice ayv3 nyv3 cyv3], blk bka8 35 [.slice ay2 ny2 cy2, .slice ayw2 nyw2 cyw2, .slice ayv2 nyv2 cyv2], OwnR ndK 84 2 ay2 ny2 cy2 Hy2 ((((Math.mirAt z ws vs).1.1))), OwnR maK 82 2 ayw2 nyw2 cyw2 Hyw2 ((((Math.mirAt z ws vs).1.2.1))), OwnR maK 82 2 ayv2 nyv2 cyv2 Hyv2 ((((Math.mirAt z ws vs).1.2.2))), OwnR ndK 84 2 ay1 ny1 cy1 Hy1 z, OwnR maK 82 2 ayw1 nyw1 cyw1 Hyw1 ws, OwnR maK 82 2 ayv1 nyv1 cyv1 Hyv1 vs, blk bkb1 27 [.slice az nz cz, .slice aws nws cws, .slice avs nvs cvs]]) (fun _ h => h.perm (pull (i := 9) rfl)) ?_
          refine rPieces (L' := [OwnR maK 82 2 ayw4 nyw4 cyw4 Hyw4 ((((Math.mirAt z ws vs).1.2.1))), OwnR maK 82 2 ayv4 nyv4 cyv4 Hyv4 ((((Math.mirAt z ws vs).1.2.2))), OwnR ndK 84 2 ay3 ny3 cy3 Hy3 ((Math.marksN (1 : Int) z)), OwnR maK 82 2 ayw3 nyw3 cyw3 Hyw3 ((Math.marksM ((1 : Int) + (Math.sumK Math.f4 z : Int)) ws)), OwnR maK 82 2 ayv3 nyv3 cyv3 Hyv3 ((Math.marksM (((1 : Int) + (Math.sumK Math.f4 z : Int)) + (Math.sumK Math.rwl ws : Int)) vs)), OwnR ndK 84 2 ay5 ny5 cy5 Hy5 z, OwnR maK 82 2 ayw5 nyw5 cyw5 Hyw5 ws, OwnR maK 82 2 ayv5 nyv5 cyv5 Hyv5 vs, blk bka16 35 [.slice ay4 ny4 cy4, .slice ayw4 nyw4 cyw4, .slice ayv4 nyv4 cyv4], OwnR ndK 84 2 ay4 ny4 cy4 Hy4 ((((Math.mirAt z ws vs).1.1))), blk bka12 35 [.slice ay3 ny3 cy3, .slice ayw3 nyw3 cyw3, .slice ayv3 nyv3 cyv3], blk bka8 35 [.slice ay2 ny2 cy2, .slice ayw2 nyw2 cyw2, .slice ayv2 nyv2 cyv2], OwnR ndK 84 2 ay2 ny2 cy2 Hy2 ((((Math.mirAt z ws vs).1.1))), OwnR maK 82 2 ayw2 nyw2 cyw2 Hyw2 ((((Math.mirAt z ws vs).1.2.1))), OwnR maK 82 2 ayv2 nyv2 cyv2 Hyv2 ((((Math.mirAt z ws vs).1.2.2))), OwnR ndK 84 2 ay1 ny1 cy1 Hy1 z, OwnR maK 82 2 ayw1 nyw1 cyw1 Hyw1 ws, OwnR maK 82 2 ayv1 nyv1 cyv1 Hyv1 vs, blk bkb1 27 [.slice az nz cz, .slice aws nws cws, .slice avs nvs cvs]]) (fun _ h => h.perm (pull (i := 9) rfl)) ?_
          refine rPieces (L' := [OwnR ndK 84 2 ay4 ny4 cy4 Hy4 ((((Math.mirAt z ws vs).1.1))), OwnR maK 82 2 ayw4 nyw4 cyw4 Hyw4 ((((Math.mirAt z ws vs).1.2.1))), OwnR maK 82 2 ayv4 nyv4 cyv4 Hyv4 ((((Math.mirAt z ws vs).1.2.2))), OwnR ndK 84 2 ay3 ny3 cy3 Hy3 ((Math.marksN (1 : Int) z)), OwnR maK 82 2 ayw3 nyw3 cyw3 Hyw3 ((Math.marksM ((1 : Int) + (Math.sumK Math.f4 z : Int)) ws)), OwnR maK 82 2 ayv3 nyv3 cyv3 Hyv3 ((Math.marksM (((1 : Int) + (Math.sumK Math.f4 z : Int)) + (Math.sumK Math.rwl ws : Int)) vs)), OwnR ndK 84 2 ay5 ny5 cy5 Hy5 z, OwnR maK 82 2 ayw5 nyw5 cyw5 Hyw5 ws, OwnR maK 82 2 ayv5 nyv5 cyv5 Hyv5 vs, blk bka16 35 [.slice ay4 ny4 cy4, .slice ayw4 nyw4 cyw4, .slice ayv4 nyv4 cyv4], blk bka12 35 [.slice ay3 ny3 cy3, .slice ayw3 nyw3 cyw3, .slice ayv3 nyv3 cyv3], blk bka8 35 [.slice ay2 ny2 cy2, .slice ayw2 nyw2 cyw2, .slice ayv2 nyv2 cyv2], OwnR ndK 84 2 ay2 ny2 cy2 Hy2 ((((Math.mirAt z ws vs).1.1))), OwnR maK 82 2 ayw2 nyw2 cyw2 Hyw2 ((((Math.mirAt z ws vs).1.2.1))), OwnR maK 82 2 ayv2 nyv2 cyv2 Hyv2 ((((Math.mirAt z ws vs).1.2.2))), OwnR ndK 84 2 ay1 ny1 cy1 Hy1 z, OwnR maK 82 2 ayw1 nyw1 cyw1 Hyw1 ws, OwnR maK 82 2 ayv1 nyv1 cyv1 Hyv1 vs, blk bkb1 27 [.slice az nz cz, .slice aws nws cws, .slice avs nvs cvs]]) (fun _ h => h.perm (pull (i := 9) rfl)) ?_
          refine callM (Lf := [OwnR ndK 84 2 ay4 ny4 cy4 Hy4 ((((Math.mirAt z ws vs).1.1))), OwnR maK 82 2 ayw4 nyw4 cyw4 Hyw4 ((((Math.mirAt z ws vs).1.2.1))), OwnR maK 82 2 ayv4 nyv4 cyv4 Hyv4 ((((Math.mirAt z ws vs).1.2.2)))]) (Lr := [OwnR ndK 84 2 ay3 ny3 cy3 Hy3 ((Math.marksN (1 : Int) z)), OwnR maK 82 2 ayw3 nyw3 cyw3 Hyw3 ((Math.marksM ((1 : Int) + (Math.sumK Math.f4 z : Int)) ws)), OwnR maK 82 2 ayv3 nyv3 cyv3 Hyv3 ((Math.marksM (((1 : Int) + (Math.sumK Math.f4 z : Int)) + (Math.sumK Math.rwl ws : Int)) vs)), OwnR ndK 84 2 ay5 ny5 cy5 Hy5 z, OwnR maK 82 2 ayw5 nyw5 cyw5 Hyw5 ws, OwnR maK 82 2 ayv5 nyv5 cyv5 Hyv5 vs, blk bka16 35 [.slice ay4 ny4 cy4, .slice ayw4 nyw4 cyw4, .slice ayv4 nyv4 cyv4], blk bka12 35 [.slice ay3 ny3 cy3, .slice ayw3 nyw3 cyw3, .slice ayv3 nyv3 cyv3], blk bka8 35 [.slice ay2 ny2 cy2, .slice ayw2 nyw2 cyw2, .slice ayv2 nyv2 cyv2], OwnR ndK 84 2 ay2 ny2 cy2 Hy2 ((((Math.mirAt z ws vs).1.1))), OwnR maK 82 2 ayw2 nyw2 cyw2 Hyw2 ((((Math.mirAt z ws vs).1.2.1))), OwnR maK 82 2 ayv2 nyv2 cyv2 Hyv2 ((((Math.mirAt z ws vs).1.2.2))), OwnR ndK 84 2 ay1 ny1 cy1 Hy1 z, OwnR maK 82 2 ayw1 nyw1 cyw1 Hyw1 ws, OwnR maK 82 2 ayv1 nyv1 cyv1 Hyv1 vs, blk bkb1 27 [.slice az nz cz, .slice aws nws cws, .slice avs nvs cvs]]) (φs := fun _ => [OwnR ndK 84 2 ay4 ny4 cy4 Hy4 ((Math.marksN (1 : Int) ((((Math.mirAt z ws vs).1.1))))), OwnR maK 82 2 ayw4 nyw4 cyw4 Hyw4 ((Math.marksM ((1 : Int) + (Math.sumK Math.f4 ((((Math.mirAt z ws vs).1.1))) : Int)) ((((Math.mirAt z ws vs).1.2.1))))), OwnR maK 82 2 ayv4 nyv4 cyv4 Hyv4 ((Math.marksM (((1 : Int) + (Math.sumK Math.f4 ((((Math.mirAt z ws vs).1.1))) : Int)) + (Math.sumK Math.rwl ((((Math.mirAt z ws vs).1.2.1))) : Int)) ((((Math.mirAt z ws vs).1.2.2)))))]) (val := fun _ => .int .i64 (((((1 : Int) + (Math.sumK Math.f4 ((((Math.mirAt z ws vs).1.1))) : Int)) + (Math.sumK Math.rwl ((((Math.mirAt z ws vs).1.2.1))) : Int)) + (Math.sumK Math.rwl ((((Math.mirAt z ws vs).1.2.2))) : Int)))) rfl Try.call33 trv1 rfl rfl (fun w M0 hs => laws_markGame_c ay4 ny4 cy4 Hy4 ((((Math.mirAt z ws vs).1.1))) ayw4 nyw4 cyw4 Hyw4 ((((Math.mirAt z ws vs).1.2.1))) ayv4 nyv4 cyv4 Hyv4 ((((Math.mirAt z ws vs).1.2.2))) (1 : Int) w M0 hs (by omega)) ?_
          rintro _ -
          refine rPieces (L' := [OwnR ndK 84 2 ay4 ny4 cy4 Hy4 ((Math.marksN (1 : Int) ((((Math.mirAt z ws vs).1.1))))), OwnR maK 82 2 ayw4 nyw4 cyw4 Hyw4 ((Math.marksM ((1 : Int) + (Math.sumK Math.f4 ((((Math.mirAt z ws vs).1.1))) : Int)) ((((Math.mirAt z ws vs).1.2.1))))), OwnR maK 82 2 ayv4 nyv4 cyv4 Hyv4 ((Math.marksM (((1 : Int) + (Math.sumK Math.f4 ((((Math.mirAt z ws vs).1.1))) : Int)) + (Math.sumK Math.rwl ((((Math.mirAt z ws vs).1.2.1))) : Int)) ((((Math.mirAt z ws vs).1.2.2))))), OwnR ndK 84 2 ay3 ny3 cy3 Hy3 ((Math.marksN (1 : Int) z)), OwnR maK 82 2 ayw3 nyw3 cyw3 Hyw3 ((Math.marksM ((1 : Int) + (Math.sumK Math.f4 z : Int)) ws)), OwnR maK 82 2 ayv3 nyv3 cyv3 Hyv3 ((Math.marksM (((1 : Int) + (Math.sumK Math.f4 z : Int)) + (Math.sumK Math.rwl ws : Int)) vs)), OwnR ndK 84 2 ay5 ny5 cy5 Hy5 z, OwnR maK 82 2 ayw5 nyw5 cyw5 Hyw5 ws, OwnR maK 82 2 ayv5 nyv5 cyv5 Hyv5 vs, blk bka16 35 [.slice ay4 ny4 cy4, .slice ayw4 nyw4 cyw4, .slice ayv4 nyv4 cyv4], blk bka12 35 [.slice ay3 ny3 cy3, .slice ayw3 nyw3 cyw3, .slice ayv3 nyv3 cyv3], blk bka8 35 [.slice ay2 ny2 cy2, .slice ayw2 nyw2 cyw2, .slice ayv2 nyv2 cyv2], OwnR ndK 84 2 ay2 ny2 cy2 Hy2 ((((Math.mirAt z ws vs).1.1))), OwnR maK 82 2 ayw2 nyw2 cyw2 Hyw2 ((((Math.mirAt z ws vs).1.2.1))), OwnR maK 82 2 ayv2 nyv2 cyv2 Hyv2 ((((Math.mirAt z ws vs).1.2.2))), OwnR ndK 84 2 ay1 ny1 cy1 Hy1 z, OwnR maK 82 2 ayw1 nyw1 cyw1 Hyw1 ws, OwnR maK 82 2 ayv1 nyv1 cyv1 Hyv1 vs, blk bkb1 27 [.slice az nz cz, .slice aws nws cws, .slice avs nvs cvs]]) (fun _ h => h) ?_
          refine asI rfl rfl rfl ?_
          refine rNil ?_
          refine qSeq rfl ?_
          refine hSeq ?_
          refine hReg (sq 0 sz) (by kernel_rfl) ?_
          refine asI rfl rfl rfl ?_
          refine rNil ?_
          refine qSeq rfl ?_
          refine hSeq ?_
          refine hReg (sl 0 (sq 1 (sl 2 (sq 3 sz)))) (by kernel_rfl) ?_
          refine ldAl Try.isAgg35 Try.sizeOf35 (cBs 9 rfl) trv rfl rfl rfl rfl ?_
          refine mvI rfl rfl rfl ?_
          refine callP (v := .int .i64 (((((1 : Int) + (Math.sumK Math.f4 (((((Math.mirAt z ws vs).1.1)))) : Int)) + (Math.sumK Math.rwl (((((Math.mirAt z ws vs).1.2.1)))) : Int)) + (Math.sumK Math.rwl (((((Math.mirAt z ws vs).1.2.2)))) : Int)))) Try.call42 trv rfl rfl (fun w hs => laws_heldGame_c _ ny4 cy4 _ _ _ nyw4 cyw4 _ _ _ nyv4 cyv4 _ _ _ _ _ _ w (OwnR.rd (hs.at_ 0 rfl) ndK.ok) (OwnR.rd (hs.at_ 1 rfl) maK.ok) (OwnR.rd (hs.at_ 2 rfl) maK.ok) (by omega) (by first | rfl | assumption) (by first | rfl | assumption) (by first | rfl | assumption)) ?_
          refine asI rfl rfl rfl ?_
          refine rNil ?_
          refine qSeq rfl ?_
          refine hSeq ?_
          refine hSeq ?_
          refine hReg (sq 0 (sq 1 sz)) (by kernel_rfl) ?_
          refine mvI rfl rfl rfl ?_
          refine lss rfl rfl rfl rfl ?_
          refine rNil ?_
          refine qSeq rfl ?_
          refine hIfD rfl (fun c5 => ?_) (fun c5 => ?_)
          · -- c5T
            replace c5 : ((((1 : Int) + (Math.sumK Math.f4 (((((Math.mirAt z ws vs).1.1)))) : Int)) + (Math.sumK Math.rwl (((((Math.mirAt z ws vs).1.2.1)))) : Int)) + (Math.sumK Math.rwl (((((Math.mirAt z ws vs).1.2.2)))) : Int)) < 0 := c5
            refine hSeq ?_
            refine hReg (sq 0 sz) (by kernel_rfl) ?_
            refine asB rfl rfl rfl ?_
            refine rNil ?_
            refine qSeq rfl ?_
            refine hRet ?_
            exact fun w hs => ⟨[.bool false], ⟨rfl, trivial⟩, ⟨by exfalso; omega, hs.upd⟩⟩
          · -- c5F
            replace c5 : ¬ (((((1 : Int) + (Math.sumK Math.f4 (((((Math.mirAt z ws vs).1.1)))) : Int)) + (Math.sumK Math.rwl (((((Math.mirAt z ws vs).1.2.1)))) : Int)) + (Math.sumK Math.rwl (((((Math.mirAt z ws vs).1.2.2)))) : Int)) < 0) := c5
            refine hSkip ?_
            refine qSeq rfl ?_
            refine hSeq ?_
            refine hSeq ?_
            refine hReg (sq 0 (sq 1 (sq 2 sz))) (by kernel_rfl) ?_
            refine mvI rfl rfl rfl ?_
            refine mvI rfl rfl rfl ?_
            refine neq rfl rfl rfl rfl ?_
            refine rNil ?_
            refine qSeq rfl ?_
            refine hIfD rfl (fun c6 => ?_) (fun c6 => ?_)
            · -- c6T
              replace c6 : ((((1 : Int) + (Math.sumK Math.f4 (((((Math.mirAt z ws vs).1.1)))) : Int)) + (Math.sumK Math.rwl (((((Math.mirAt z ws vs).1.2.1)))) : Int)) + (Math.sumK Math.rwl (((((Math.mirAt z ws vs).1.2.2)))) : Int)) ≠ ((((1 : Int) + (Math.sumK Math.f4 ((((Math.mirAt z ws vs).1.1))) : Int)) + (Math.sumK Math.rwl ((((Math.mirAt z ws vs).1.2.1))) : Int)) + (Math.sumK Math.rwl ((((Math.mirAt z ws vs).1.2.2))) : Int)) := c6
              refine hSeq ?_
              refine hReg (sq 0 sz) (by kernel_rfl) ?_
              refine asB rfl rfl rfl ?_
              refine rNil ?_
              refine qSeq rfl ?_
              refine hRet ?_
              exact fun w hs => ⟨[.bool false], ⟨rfl, trivial⟩, ⟨by exfalso; omega, hs.upd⟩⟩
            · -- c6F
              replace c6 : ¬ (((((1 : Int) + (Math.sumK Math.f4 (((((Math.mirAt z ws vs).1.1)))) : Int)) + (Math.sumK Math.rwl (((((Math.mirAt z ws vs).1.2.1)))) : Int)) + (Math.sumK Math.rwl (((((Math.mirAt z ws vs).1.2.2)))) : Int)) ≠ ((((1 : Int) + (Math.sumK Math.f4 ((((Math.mirAt z ws vs).1.1))) : Int)) + (Math.sumK Math.rwl ((((Math.mirAt z ws vs).1.2.1))) : Int)) + (Math.sumK Math.rwl ((((Math.mirAt z ws vs).1.2.2))) : Int))) := c6
              refine hSkip ?_
              refine qSeq rfl ?_
              refine hSeq ?_
              refine hReg (sl 0 (sl 1 (sl 2 (sq 3 (sq 4 (sq 5 (sl 6 (sl 7 (sq 8 sz))))))))) (by kernel_rfl) ?_
              refine ldAl Try.isAgg27 Try.sizeOf27 (cBs 18 rfl) trv rfl rfl rfl rfl ?_
              refine callS Try.call17 trv1 rfl rfl (fun w hs => laws_toGame_c _ nz cz _ _ _ nws cws _ _ _ nvs cvs _ _ w (Kn.drop (k := 19) kz w hs) (Kn.drop (k := 19) kws w hs) (Kn.drop (k := 19) kvs w hs) (by first | assumption | omega) (by first | assumption | omega) (by first | assumption | omega)) ?_
              rintro ⟨ay6, ny6, cy6, Hy6, y6, ayw6, nyw6, cyw6, Hyw6, yw6, ayv6, nyv6, cyv6, Hyv6, yv6⟩ ⟨hr6a, hr6b, hr6c⟩
              dsimp only at hr6a hr6b hr6c
              subst y6
              subst yw6
              subst yv6
              refine rPieces (L' := [OwnR ndK 84 2 ay6 ny6 cy6 Hy6 z, OwnR maK 82 2 ayw6 nyw6 cyw6 Hyw6 ws, OwnR maK 82 2 ayv6 nyv6 cyv6 Hyv6 vs, OwnR ndK 84 2 ay4 ny4 cy4 Hy4 ((Math.marksN (1 : Int) ((((Math.mirAt z ws vs).1.1))))), OwnR maK 82 2 ayw4 nyw4 cyw4 Hyw4 ((Math.marksM ((1 : Int) + (Math.sumK Math.f4 ((((Math.mirAt z ws vs).1.1))) : Int)) ((((Math.mirAt z ws vs).1.2.1))))), OwnR maK 82 2 ayv4 nyv4 cyv4 Hyv4 ((Math.marksM (((1 : Int) + (Math.sumK Math.f4 ((((Math.mirAt z ws vs).1.1))) : Int)) + (Math.sumK Math.rwl ((((Math.mirAt z ws vs).1.2.1))) : Int)) ((((Math.mirAt z ws vs).1.2.2))))), OwnR ndK 84 2 ay3 ny3 cy3 Hy3 ((Math.marksN (1 : Int) z)), OwnR maK 82 2 ayw3 nyw3 cyw3 Hyw3 ((Math.marksM ((1 : Int) + (Math.sumK Math.f4 z : Int)) ws)), OwnR maK 82 2 ayv3 nyv3 cyv3 Hyv3 ((Math.marksM (((1 : Int) + (Math.sumK Math.f4 z : Int)) + (Math.sumK Math.rwl ws : Int)) vs)), OwnR ndK 84 2 ay5 ny5 cy5 Hy5 z, OwnR maK 82 2 ayw5 nyw5 cyw5 Hyw5 ws, OwnR maK 82 2 ayv5 nyv5 cyv5 Hyv5 vs, blk bka16 35 [.slice ay4 ny4 cy4, .slice ayw4 nyw4 cyw4, .slice ayv4 nyv4 cyv4], blk bka12 35 [.slice ay3 ny3 cy3, .slice ayw3 nyw3 cyw3, .slice ayv3 nyv3 cyv3], blk bka8 35 [.slice ay2 ny2 cy2, .slice ayw2 nyw2 cyw2, .slice ayv2 nyv2 cyv2], OwnR ndK 84 2 ay2 ny2 cy2 Hy2 ((((Math.mirAt z ws vs).1.1))), OwnR maK 82 2 ayw2 nyw2 cyw2 Hyw2 ((((Math.mirAt z ws vs).1.2.1))), OwnR maK 82 2 ayv2 nyv2 cyv2 Hyv2 ((((Math.mirAt z ws vs).1.2.2))), OwnR ndK 84 2 ay1 ny1 cy1 Hy1 z, OwnR maK 82 2 ayw1 nyw1 cyw1 Hyw1 ws, OwnR maK 82 2 ayv1 nyv1 cyv1 Hyv1 vs, blk bkb1 27 [.slice az nz cz, .slice aws nws cws, .slice avs nvs cvs]]) (fun _ h => h) ?_
              refine rKnow (fun w hs => (show OwnR ndK 84 2 ay6 ny6 cy6 Hy6 z w from hs.at_ 0 rfl).1) (fun lenn20 => ?_)
              refine rKnow (fun w hs => (show OwnR maK 82 2 ayw6 nyw6 cyw6 Hyw6 ws w from hs.at_ 1 rfl).1) (fun lenn21 => ?_)
              refine rKnow (fun w hs => (show OwnR maK 82 2 ayv6 nyv6 cyv6 Hyv6 vs w from hs.at_ 2 rfl).1) (fun lenn22 => ?_)
              refine callS Try.call46 trv1 rfl rfl (fun w hs => impl_MirrorGame_c _ ny6 cy6 _ _ _ nyw6 cyw6 _ _ _ nyv6 cyv6 _ _ w (OwnR.rd (hs.at_ 0 rfl) ndK.ok) (OwnR.rd (hs.at_ 1 rfl) maK.ok) (OwnR.rd (hs.at_ 2 rfl) maK.ok)) ?_
              rintro ⟨ay7, ny7, cy7, Hy7, y7, ayw7, nyw7, cyw7, Hyw7, yw7, ayv7, nyv7, cyv7, Hyv7, yv7, q7⟩ ⟨hr7a, hr7b, hr7c, hr7d⟩
              dsimp only at hr7a hr7b hr7c hr7d
              subst y7
              subst yw7
              subst yv7
              subst q7
              refine rPieces (L' := [OwnR ndK 84 2 ay7 ny7 cy7 Hy7 ((((Math.mirAt z ws vs).1.1))), OwnR maK 82 2 ayw7 nyw7 cyw7 Hyw7 ((((Math.mirAt z ws vs).1.2.1))), OwnR maK 82 2 ayv7 nyv7 cyv7 Hyv7 ((((Math.mirAt z ws vs).1.2.2))), OwnR ndK 84 2 ay6 ny6 cy6 Hy6 z, OwnR maK 82 2 ayw6 nyw6 cyw6 Hyw6 ws, OwnR maK 82 2 ayv6 nyv6 cyv6 Hyv6 vs, OwnR ndK 84 2 ay4 ny4 cy4 Hy4 ((Math.marksN (1 : Int) ((((Math.mirAt z ws vs).1.1))))), OwnR maK 82 2 ayw4 nyw4 cyw4 Hyw4 ((Math.marksM ((1 : Int) + (Math.sumK Math.f4 ((((Math.mirAt z ws vs).1.1))) : Int)) ((((Math.mirAt z ws vs).1.2.1))))), OwnR maK 82 2 ayv4 nyv4 cyv4 Hyv4 ((Math.marksM (((1 : Int) + (Math.sumK Math.f4 ((((Math.mirAt z ws vs).1.1))) : Int)) + (Math.sumK Math.rwl ((((Math.mirAt z ws vs).1.2.1))) : Int)) ((((Math.mirAt z ws vs).1.2.2))))), OwnR ndK 84 2 ay3 ny3 cy3 Hy3 ((Math.marksN (1 : Int) z)), OwnR maK 82 2 ayw3 nyw3 cyw3 Hyw3 ((Math.marksM ((1 : Int) + (Math.sumK Math.f4 z : Int)) ws)), OwnR maK 82 2 ayv3 nyv3 cyv3 Hyv3 ((Math.marksM (((1 : Int) + (Math.sumK Math.f4 z : Int)) + (Math.sumK Math.rwl ws : Int)) vs)), OwnR ndK 84 2 ay5 ny5 cy5 Hy5 z, OwnR maK 82 2 ayw5 nyw5 cyw5 Hyw5 ws, OwnR maK 82 2 ayv5 nyv5 cyv5 Hyv5 vs, blk bka16 35 [.slice ay4 ny4 cy4, .slice ayw4 nyw4 cyw4, .slice ayv4 nyv4 cyv4], blk bka12 35 [.slice ay3 ny3 cy3, .slice ayw3 nyw3 cyw3, .slice ayv3 nyv3 cyv3], blk bka8 35 [.slice ay2 ny2 cy2, .slice ayw2 nyw2 cyw2, .slice ayv2 nyv2 cyv2], OwnR ndK 84 2 ay2 ny2 cy2 Hy2 ((((Math.mirAt z ws vs).1.1))), OwnR maK 82 2 ayw2 nyw2 cyw2 Hyw2 ((((Math.mirAt z ws vs).1.2.1))), OwnR maK 82 2 ayv2 nyv2 cyv2 Hyv2 ((((Math.mirAt z ws vs).1.2.2))), OwnR ndK 84 2 ay1 ny1 cy1 Hy1 z, OwnR maK 82 2 ayw1 nyw1 cyw1 Hyw1 ws, OwnR maK 82 2 ayv1 nyv1 cyv1 Hyv1 vs, blk bkb1 27 [.slice az nz cz, .slice aws nws cws, .slice avs nvs cvs]]) (fun _ h => h) ?_
              refine rKnow (fun w hs => (show OwnR ndK 84 2 ay7 ny7 cy7 Hy7 ((((Math.mirAt z ws vs).1.1))) w from hs.at_ 0 rfl).1) (fun lenn23 => ?_)
              refine rKnow (fun w hs => (show OwnR maK 82 2 ayw7 nyw7 cyw7 Hyw7 ((((Math.mirAt z ws vs).1.2.1))) w from hs.at_ 1 rfl).1) (fun lenn24 => ?_)
              refine rKnow (fun w hs => (show OwnR maK 82 2 ayv7 nyv7 cyv7 Hyv7 ((((Math.mirAt z ws vs).1.2.2))) w from hs.at_ 2 rfl).1) (fun lenn25 => ?_)
              refine mv rfl rfl rfl ?_
              refine ext rfl rfl rfl rfl ?_
              refine ext rfl rfl rfl rfl ?_
              refine alc Try.zeroValue35 rfl trv1 rfl rfl (fun bka26 hbka26 => ?_)
              refine stAl (vs := [.slice ay7 ny7 cy7, .slice ayw7 nyw7 cyw7, .slice ayv7 nyv7 cyv7]) 0 rfl Try.sizeOf35 trv rfl rfl rfl rfl rfl (by simp [Value.oneCell']) rfl ?_
              refine asI rfl rfl rfl ?_
              refine rNil ?_
              refine qSeq rfl ?_
              refine hSeq ?_
              refine hSeq ?_
              refine hReg (sl 0 (sl 1 (sl 2 (sq 3 (sq 4 (sq 5 (sq 6 (sq 7 (sq 8 sz))))))))) (by kernel_rfl) ?_
              refine ldAl Try.isAgg35 Try.sizeOf35 (cBs 0 rfl) trv rfl rfl rfl rfl ?_
              refine ldAl Try.isAgg35 Try.sizeOf35 (cBs 18 rfl) trv rfl rfl rfl rfl ?_
              refine callP (v := .bool true) Try.call19 trv rfl rfl (fun w hs => laws_eqGame_c _ ny7 cy7 _ _ _ nyw7 cyw7 _ _ _ nyv7 cyv7 _ _ _ ny2 cy2 _ _ _ nyw2 cyw2 _ _ _ nyv2 cyv2 _ _ w (OwnR.rd (hs.at_ 1 rfl) ndK.ok) (OwnR.rd (hs.at_ 2 rfl) maK.ok) (OwnR.rd (hs.at_ 3 rfl) maK.ok) (OwnR.rd (hs.at_ 19 rfl) ndK.ok) (OwnR.rd (hs.at_ 20 rfl) maK.ok) (OwnR.rd (hs.at_ 21 rfl) maK.ok) (by exact ⟨rfl, rfl, rfl⟩)) ?_
              refine not rfl rfl rfl ?_
              refine mvB rfl rfl rfl ?_
              refine mvI rfl rfl rfl ?_
              refine mvI rfl rfl rfl ?_
              refine neq rfl rfl rfl rfl ?_
              refine pickB rfl rfl rfl rfl ?_
              refine rNil ?_
              refine qSeq rfl ?_
              refine hIfD rfl (fun c7 => ?_) (fun c7 => ?_)
              · -- c7T
                replace c7 : (((Math.mirAt z ws vs).2)) ≠ (((Math.mirAt z ws vs).2)) := c7
                exact absurd rfl c7
              · -- c7F
                replace c7 : ¬ ((((Math.mirAt z ws vs).2)) ≠ (((Math.mirAt z ws vs).2))) := c7
                refine hSkip ?_
                refine qSeq rfl ?_
                refine hSeq ?_
                refine hReg (sq 0 sz) (by kernel_rfl) ?_
                refine asI rfl rfl rfl ?_
                refine rNil ?_
                refine qSeq rfl ?_
                refine hSeq ?_
                refine hReg (sl 0 (sq 1 (sl 2 (sq 3 sz)))) (by kernel_rfl) ?_
                refine ldAl Try.isAgg35 Try.sizeOf35 (cBs 16 rfl) trv rfl rfl rfl rfl ?_
                refine mvI rfl rfl rfl ?_
                refine callP (v := .int .i64 (((((1 : Int) + (Math.sumK Math.f4 (((((Math.mirAt z ws vs).1.1)))) : Int)) + (Math.sumK Math.rwl (((((Math.mirAt z ws vs).1.2.1)))) : Int)) + (Math.sumK Math.rwl (((((Math.mirAt z ws vs).1.2.2)))) : Int)))) Try.call42 trv rfl rfl (fun w hs => laws_heldGame_c _ ny4 cy4 _ _ _ nyw4 cyw4 _ _ _ nyv4 cyv4 _ _ _ _ _ _ w (OwnR.rd (hs.at_ 7 rfl) ndK.ok) (OwnR.rd (hs.at_ 8 rfl) maK.ok) (OwnR.rd (hs.at_ 9 rfl) maK.ok) (by omega) (by first | rfl | assumption) (by first | rfl | assumption) (by first | rfl | assumption)) ?_
                refine asI rfl rfl rfl ?_
                refine rNil ?_
                refine qSeq rfl ?_
                refine hSeq ?_
                refine hSeq ?_
                refine hReg (sq 0 (sq 1 sz)) (by kernel_rfl) ?_
                refine mvI rfl rfl rfl ?_
                refine lss rfl rfl rfl rfl ?_
                refine rNil ?_
                refine qSeq rfl ?_
                refine hIfD rfl (fun c8 => ?_) (fun c8 => ?_)
                · -- c8T
                  replace c8 : ((((1 : Int) + (Math.sumK Math.f4 (((((Math.mirAt z ws vs).1.1)))) : Int)) + (Math.sumK Math.rwl (((((Math.mirAt z ws vs).1.2.1)))) : Int)) + (Math.sumK Math.rwl (((((Math.mirAt z ws vs).1.2.2)))) : Int)) < 0 := c8
                  refine hSeq ?_
                  refine hReg (sq 0 sz) (by kernel_rfl) ?_
                  refine asB rfl rfl rfl ?_
                  refine rNil ?_
                  refine qSeq rfl ?_
                  refine hRet ?_
                  exact fun w hs => ⟨[.bool false], ⟨rfl, trivial⟩, ⟨by exfalso; omega, hs.upd⟩⟩
                · -- c8F
                  replace c8 : ¬ (((((1 : Int) + (Math.sumK Math.f4 (((((Math.mirAt z ws vs).1.1)))) : Int)) + (Math.sumK Math.rwl (((((Math.mirAt z ws vs).1.2.1)))) : Int)) + (Math.sumK Math.rwl (((((Math.mirAt z ws vs).1.2.2)))) : Int)) < 0) := c8
                  refine hSkip ?_
                  refine qSeq rfl ?_
                  refine hSeq ?_
                  refine hSeq ?_
                  refine hReg (sq 0 (sq 1 (sq 2 sz))) (by kernel_rfl) ?_
                  refine mvI rfl rfl rfl ?_
                  refine mvI rfl rfl rfl ?_
                  refine neq rfl rfl rfl rfl ?_
                  refine rNil ?_
                  refine qSeq rfl ?_
                  refine hIfD rfl (fun c9 => ?_) (fun c9 => ?_)
                  · -- c9T
                    replace c9 : ((((1 : Int) + (Math.sumK Math.f4 (((((Math.mirAt z ws vs).1.1)))) : Int)) + (Math.sumK Math.rwl (((((Math.mirAt z ws vs).1.2.1)))) : Int)) + (Math.sumK Math.rwl (((((Math.mirAt z ws vs).1.2.2)))) : Int)) ≠ ((((1 : Int) + (Math.sumK Math.f4 ((((Math.mirAt z ws vs).1.1))) : Int)) + (Math.sumK Math.rwl ((((Math.mirAt z ws vs).1.2.1))) : Int)) + (Math.sumK Math.rwl ((((Math.mirAt z ws vs).1.2.2))) : Int)) := c9
                    refine hSeq ?_
                    refine hReg (sq 0 sz) (by kernel_rfl) ?_
                    refine asB rfl rfl rfl ?_
                    refine rNil ?_
                    refine qSeq rfl ?_
                    refine hRet ?_
                    exact fun w hs => ⟨[.bool false], ⟨rfl, trivial⟩, ⟨by exfalso; omega, hs.upd⟩⟩
                  · -- c9F
                    replace c9 : ¬ (((((1 : Int) + (Math.sumK Math.f4 (((((Math.mirAt z ws vs).1.1)))) : Int)) + (Math.sumK Math.rwl (((((Math.mirAt z ws vs).1.2.1)))) : Int)) + (Math.sumK Math.rwl (((((Math.mirAt z ws vs).1.2.2)))) : Int)) ≠ ((((1 : Int) + (Math.sumK Math.f4 ((((Math.mirAt z ws vs).1.1))) : Int)) + (Math.sumK Math.rwl ((((Math.mirAt z ws vs).1.2.1))) : Int)) + (Math.sumK Math.rwl ((((Math.mirAt z ws vs).1.2.2))) : Int))) := c9
                    refine hSkip ?_
                    refine qSeq rfl ?_
                    refine hSeq ?_
                    refine hReg (sq 0 sz) (by kernel_rfl) ?_
                    refine asB rfl rfl rfl ?_
                    refine rNil ?_
                    refine qSeq rfl ?_
                    refine hRet ?_
                    exact fun w hs => ⟨[.bool true], ⟨rfl, trivial⟩, ⟨by first | rfl | exact bD (by omega) | exact bT (by omega) | exact bF (by omega) | exact vI (by omega), hs.upd⟩⟩

set_option maxHeartbeats 2000000 in
theorem fnExactMirrorGame_lifted (os : Os) (started : os.Started) (H : Type) (enc : TypeId × Value → H) :
    ReturnsInHanded {} Try.checked os 10 .any (Rows.fnExactMirrorGameSpec.pre6 enc Try.prog Try.f10 Rows.fnExactMirrorGameRow.domain false) (Rows.fnExactMirrorGameSpec.post enc Try.prog Try.f10 false true false false) := by
  refine returnsInHanded_of_change (C := Try.checked) own started (by kernel_rfl) Try.func10
    (ChangeSpec.witness6 (enc := enc) (C := Try.checked) false ⟨#[], #[.agg #[.slice none 0 0, .slice none 0 0, .slice none 0 0]], []⟩ 8 (by kernel_rfl) (by kernel_rfl) (by kernel_rfl) (by kernel_rfl)) ?_
  intro W base args ds gs before hval0 hW hcnd _
  have hval : ∀ (j : Nat) t v, Try.f10.params[j]? = some t → args[j]? = some v → Value.okWide Try.prog W .any base t v := hval0
  have hW' := hW
  obtain ⟨p, q, hA0, hV, rfl, hfz, hnd⟩ := hW
  have hA : DataW.TrodAll enc Try.prog W 0 (fun _ => true) true Try.f10.params.toList args.toList ds p := hA0
  rw [Try.params10] at hA hval
  obtain ⟨v0, vs0, d0, ds0, p0, q0, hargs, rfl, rfl, h0, r0⟩ := trodAll_cons hA
  obtain ⟨rfl, rfl, rfl⟩ := trodAll_nil r0
  obtain rfl : args = #[v0] := by cases args; simp_all
  obtain ⟨rfl, rfl⟩ := trodVars_none hV
  obtain ⟨f0, g0⟩ := h0
  obtain ⟨cs0, rfl, _⟩ := okWide_struct Try.underlying27 (hval 0 27 v0 rfl rfl)
  obtain ⟨aq0_0, nq0_0, cq0_0, hq0_0, zq0_0, aq0_1, nq0_1, cq0_1, hq0_1, zq0_1, aq0_2, nq0_2, cq0_2, hq0_2, zq0_2, e0, rq0_0, rq0_1, rq0_2⟩ := inT27 g0
  obtain rfl : cs0 = #[.slice aq0_0 nq0_0 cq0_0, .slice aq0_1 nq0_1 cq0_1, .slice aq0_2 nq0_2 cq0_2] := by apply Array.ext'; exact e0
  refine (laws_FnExactMirrorGame_c aq0_0 nq0_0 cq0_0 hq0_0 zq0_0 aq0_1 nq0_1 cq0_1 hq0_1 zq0_1 aq0_2 nq0_2 cq0_2 hq0_2 zq0_2 W rq0_0 rq0_1 rq0_2).mono fun e W' ⟨v, he, hv, hx⟩ => ?_
  subst he; subst hv
  exact ⟨_, rfl, law_post (tb := 4) hW' rfl rfl Try.underlying4 rfl rfl rfl (by kernel_rfl) hx⟩
theorem fnExactMirrorGame_holds : Rows.FnExactMirrorGameSaid :=
  OpenClaim.holds_of_wide 10 Try.f10 rfl rfl rfl rfl rfl rfl rfl ⟨rfl, rfl, rfl, rfl, rfl⟩ rfl rfl rfl rfl rfl (by kernel_rfl) Try.func10 (by kernel_rfl)
    (of_decide_eq_true (by kernel_rfl)) (by unfold Func.isWrapper; first | (rw [if_pos (by decide +kernel)]; kernel_rfl) | (rw [if_neg (by decide +kernel)]; exact ⟨rfl, rfl⟩))
    (fun os started H enc _ => fnExactMirrorGame_lifted os started H enc)
#print axioms fnExactMirrorGame_holds

end Go.Proofs.Ytbcopkhpgolkmaa
