/- The law FnExactStrategyText returns true for all arguments. No condition but what the card ties. -/
import Derived.Test.YtgnfffdenbiipaaDoorZ7St
import Derived.Test.YtgnfffdenbiipaaDoorZ1St
import Derived.Test.YtgnfffdenbiipaaDoorZ2St
import Derived.Test.YtgnfffdenbiipaaDoorZ3St
import Derived.Test.YtgnfffdenbiipaaDoorZ4St
import Derived.Test.YtgnfffdenbiipaaDoorZ5St
import Derived.Test.YtgnfffdenbiipaaDoorZ6St
import Derived.Test.YtgnfffdenbiipaaDoorRows
import Derived.Test.YtgnfffdenbiipaaDoorCards
import Derived.Test.YtgnfffdenbiipaaDoorTie
import Derived.SevenTiedAt
import Derived.LaidMore
import Derived.Lay
import Derived.Stop.Joined
namespace Go.Proofs.YtgnfffdenbiipaaDoor
open Go Go.RowKit V Go.ChangeShapes Go.WideShapes Go.ChangeAt
set_option linter.unusedVariables false
set_option linter.unusedSimpArgs false
set_option maxRecDepth 100000
theorem laws_FnExactStrategyText_c (az : Option Addr) (nz : Nat) (cz : Nat) (Hz : Nat → Hd) (z : List Nd) (aws : Option Addr) (nws : Nat) (cws : Nat) (Hws : Nat → Hd) (ws : List (List Int)) (avs : Option Addr) (nvs : Nat) (cvs : Nat) (Hvs : Nat → Hd) (vs : List (List Int)) (pl : Int) (aps : Option Addr) (nps : Nat) (cps : Nat) (Hps : Nat → Hd) (ps : List (List Int)) (w : World) (rz : RdR ndK az nz Hz z w) (rws : RdR maK aws nws Hws ws w) (rvs : RdR maK avs nvs Hvs vs w) (rps : RdR maK aps nps Hps ps w) (rtab : TabP w) :
  Calls Tryd.prog 4 #[.agg #[.slice az nz cz, .slice aws nws cws, .slice avs nvs cvs], .agg #[.int .i64 pl, .slice aps nps cps]] w (Ret fun v w' => v = .bool true ∧ Ext w w') := by
 have kz : Kn w none_ [] (RdR ndK az nz Hz z) := fun w' hs => rz.ext hs.upd
 have lz : z.length = nz := rz.1
 have mz : nz ≤ 9223372036854775807 := rz.2.1
 have kws : Kn w none_ [] (RdR maK aws nws Hws ws) := fun w' hs => rws.ext hs.upd
 have lws : ws.length = nws := rws.1
 have mws : nws ≤ 9223372036854775807 := rws.2.1
 have kvs : Kn w none_ [] (RdR maK avs nvs Hvs vs) := fun w' hs => rvs.ext hs.upd
 have lvs : vs.length = nvs := rvs.1
 have mvs : nvs ≤ 9223372036854775807 := rvs.2.1
 have kps : Kn w none_ [] (RdR maK aps nps Hps ps) := fun w' hs => rps.ext hs.upd
 have lps : ps.length = nps := rps.1
 have mps : nps ≤ 9223372036854775807 := rps.2.1
 have ktab : Kn w none_ [] (TabP) := fun w' hs => rtab.ext hs.upd
 refine fn (M := none_) (rs := [.tmp 4]) Tryd.func4 rfl Tryd.ntmps4 rfl rfl (Sep.start _ _) ?_
 refine hSeq ?_
 refine hReg (sl 0 (sl 1 (sq 2 sz))) (by kernel_rfl) ?_
 refine box trv1 rfl rfl rfl rfl (fun bkb1 hbkb1 => ?_)
 refine box trv1 rfl rfl rfl rfl (fun bkb2 hbkb2 => ?_)
 refine asB rfl rfl rfl ?_
 refine rNil ?_
 refine qSeq rfl ?_
 refine hSeq ?_
 refine hReg (sq 0 sz) (by kernel_rfl) ?_
 refine asI rfl rfl rfl ?_
 refine rNil ?_
 refine qSeq rfl ?_
 refine hSeq ?_
 refine hReg (sl 0 (sq 1 (sl 2 (sq 3 sz)))) (by kernel_rfl) ?_
 refine ldAl Tryd.isAgg36 Tryd.sizeOf36 (cBs 1 rfl) trv rfl rfl rfl rfl ?_
 refine mvI rfl rfl rfl ?_
 refine callP (v := .int .i64 ((Math.cut (Math.cut (Math.cut (1048576 : Int) (Math.szK Math.chl z : Int)) (Math.szK Math.rwl ws : Int)) (Math.szK Math.rwl vs : Int)))) Tryd.call10 trv rfl rfl (fun w hs => laws_szGame_c _ nz cz _ _ _ nws cws _ _ _ nvs cvs _ _ _ w (Kn.drop (k := 2) kz w hs) (Kn.drop (k := 2) kws w hs) (Kn.drop (k := 2) kvs w hs) (by omega)) ?_
 refine asI rfl rfl rfl ?_
 refine rNil ?_
 refine qSeq rfl ?_
 refine hSeq ?_
 refine hSeq ?_
 refine hReg (sq 0 (sq 1 sz)) (by kernel_rfl) ?_
 refine mvI rfl rfl rfl ?_
 refine lss rfl rfl rfl rfl ?_
 refine rNil ?_
 refine qSeq rfl ?_
 refine hIfD rfl (fun c1 => ?_) (fun c1 => ?_)
 ·
  replace c1 : (Math.cut (Math.cut (Math.cut (1048576 : Int) (Math.szK Math.chl z : Int)) (Math.szK Math.rwl ws : Int)) (Math.szK Math.rwl vs : Int)) < 0 := c1
  refine hSeq ?_
  refine hReg (sq 0 sz) (by kernel_rfl) ?_
  refine asB rfl rfl rfl ?_
  refine rNil ?_
  refine qSeq rfl ?_
  refine hRet ?_
  exact fun w hs => ⟨[.bool true], ⟨rfl, trivial⟩, ⟨by first | rfl | exact bD (by omega) | exact bT (by omega) | exact bF (by omega) | exact vI (by omega), hs.upd⟩⟩
 ·
  replace c1 : ¬ ((Math.cut (Math.cut (Math.cut (1048576 : Int) (Math.szK Math.chl z : Int)) (Math.szK Math.rwl ws : Int)) (Math.szK Math.rwl vs : Int)) < 0) := c1
  obtain ⟨hb, hbw, hbv⟩ := Math.cut3_pos (l := 1048576) (by omega) c1
  have hble := Math.cut3_le (l := 1048576) c1 (by omega)
  refine hSkip ?_
  refine qSeq rfl ?_
  refine hSeq ?_
  refine hReg (sl 0 (sq 1 (sl 2 (sq 3 sz)))) (by kernel_rfl) ?_
  refine ldAl Tryd.isAgg38 Tryd.sizeOf38 (cBs 0 rfl) trv rfl rfl rfl rfl ?_
  refine mvI rfl rfl rfl ?_
  refine callP (v := .int .i64 ((Math.cut ((Math.cut (Math.cut (Math.cut (1048576 : Int) (Math.szK Math.chl z : Int)) (Math.szK Math.rwl ws : Int)) (Math.szK Math.rwl vs : Int))) (Math.szK Math.rwl ps : Int)))) Tryd.call11 trv rfl rfl (fun w hs => laws_szStrategy_c _ _ nps cps _ _ _ w (Kn.drop (k := 2) kps w hs) (by omega)) ?_
  refine asI rfl rfl rfl ?_
  refine rNil ?_
  refine qSeq rfl ?_
  refine hSeq ?_
  refine hSeq ?_
  refine hReg (sq 0 (sq 1 sz)) (by kernel_rfl) ?_
  refine mvI rfl rfl rfl ?_
  refine lss rfl rfl rfl rfl ?_
  refine rNil ?_
  refine qSeq rfl ?_
  refine hIfD rfl (fun c2 => ?_) (fun c2 => ?_)
  ·
   replace c2 : (Math.cut ((Math.cut (Math.cut (Math.cut (1048576 : Int) (Math.szK Math.chl z : Int)) (Math.szK Math.rwl ws : Int)) (Math.szK Math.rwl vs : Int))) (Math.szK Math.rwl ps : Int)) < 0 := c2
   refine hSeq ?_
   refine hReg (sq 0 sz) (by kernel_rfl) ?_
   refine asB rfl rfl rfl ?_
   refine rNil ?_
   refine qSeq rfl ?_
   refine hRet ?_
   exact fun w hs => ⟨[.bool true], ⟨rfl, trivial⟩, ⟨by first | rfl | exact bD (by omega) | exact bT (by omega) | exact bF (by omega) | exact vI (by omega), hs.upd⟩⟩
  ·
   replace c2 : ¬ ((Math.cut ((Math.cut (Math.cut (Math.cut (1048576 : Int) (Math.szK Math.chl z : Int)) (Math.szK Math.rwl ws : Int)) (Math.szK Math.rwl vs : Int))) (Math.szK Math.rwl ps : Int)) < 0) := c2
   have hbps := (Math.cut_pos c2).1
   refine hSkip ?_
   refine qSeq rfl ?_
   refine hSeq ?_
   refine hDraw (Ls := [blk bkb2 38 [.int .i64 pl, .slice aps nps cps], blk bkb1 36 [.slice az nz cz, .slice aws nws cws, .slice avs nvs cvs]]) (by kernel_rfl) (sq 0 (sq 2 (sl 1 (sl 3 (sl 4 (sq 5 (sq 6 (sq 7 (sq 8 (sq 9 sz)))))))))) (by kernel_rfl) (.cons_cons _ (.cons_cons _ .slnil)) ?_
   refine ldAq Tryd.isAgg36 Tryd.sizeOf36 (cBs 1 rfl) rfl rfl rfl rfl ?_
   refine ldAq Tryd.isAgg38 Tryd.sizeOf38 (cBs 0 rfl) rfl rfl rfl rfl ?_
   refine callS Tryd.call13 (by exact (fun _ _ h => h.pick [3, 3])) rfl rfl (fun w hs => laws_toGame_c _ nz cz _ _ _ nws cws _ _ _ nvs cvs _ _ w (Kn.drop (k := 2) kz w hs) (Kn.drop (k := 2) kws w hs) (Kn.drop (k := 2) kvs w hs) (by first | assumption | omega) (by first | assumption | omega) (by first | assumption | omega)) ?_
   rintro ⟨ay1, ny1, cy1, Hy1, y1, ayw1, nyw1, cyw1, Hyw1, yw1, ayv1, nyv1, cyv1, Hyv1, yv1⟩ ⟨hr1a, hr1b, hr1c⟩
   dsimp only at hr1a hr1b hr1c
   subst y1
   subst yw1
   subst yv1
   refine rKnow (fun w hs => (show OwnR ndK 78 2 ay1 ny1 cy1 Hy1 z w from hs.at_ 0 rfl).1) (fun lenn3 => ?_)
   refine rKnow (fun w hs => (show OwnR maK 59 2 ayw1 nyw1 cyw1 Hyw1 ws w from hs.at_ 1 rfl).1) (fun lenn4 => ?_)
   refine rKnow (fun w hs => (show OwnR maK 59 2 ayv1 nyv1 cyv1 Hyv1 vs w from hs.at_ 2 rfl).1) (fun lenn5 => ?_)
   refine callS Tryd.call14 (by exact (fun _ _ h => h.pick [4, 4])) rfl rfl (fun w hs => laws_toStrategy_c _ _ nps cps _ _ w (Kn.drop (k := 5) kps w hs) (by first | assumption | omega)) ?_
   rintro ⟨ay2, ny2, cy2, Hy2, y2⟩ hr2
   dsimp only at hr2
   subst y2
   refine rKnow (fun w hs => (show OwnR maK 59 2 ay2 ny2 cy2 Hy2 ps w from hs.at_ 0 rfl).1) (fun lenn6 => ?_)
   refine callP (v := .tuple #[sv ((Math.stText z ws vs pl ps).1), .int .i64 ((Math.stText z ws vs pl ps).2)]) Tryd.call12 (fun _ h => h.pick [4, 4]) rfl rfl (fun w hs => spec_StrategyText_c _ ny1 cy1 _ _ _ nyw1 cyw1 _ _ _ nyv1 cyv1 _ _ _ _ ny2 cy2 _ _ w (OwnR.rd (hs.at_ 1 rfl) ndK.ok) (OwnR.rd (hs.at_ 2 rfl) maK.ok) (OwnR.rd (hs.at_ 3 rfl) maK.ok) (OwnR.rd (hs.at_ 0 rfl) maK.ok)) ?_
   refine mv rfl rfl rfl ?_
   refine ext rfl rfl rfl rfl ?_
   refine ext rfl rfl rfl rfl ?_
   refine asn (v := sv ((Math.stText z ws vs pl ps).1)) rfl rfl rfl ?_
   refine asI rfl rfl rfl ?_
   refine rNil ?_
   refine qSeq rfl ?_
   refine hSeq ?_
   refine hReg (sl 0 (sl 1 (sl 2 (sl 3 sz)))) (by kernel_rfl) ?_
   refine ldAl Tryd.isAgg36 Tryd.sizeOf36 (cBs 5 rfl) trv rfl rfl rfl rfl ?_
   refine callS Tryd.call13 trv1 rfl rfl (fun w hs => laws_toGame_c _ nz cz _ _ _ nws cws _ _ _ nvs cvs _ _ w (Kn.drop (k := 6) kz w hs) (Kn.drop (k := 6) kws w hs) (Kn.drop (k := 6) kvs w hs) (by first | assumption | omega) (by first | assumption | omega) (by first | assumption | omega)) ?_
   rintro ⟨ay3, ny3, cy3, Hy3, y3, ayw3, nyw3, cyw3, Hyw3, yw3, ayv3, nyv3, cyv3, Hyv3, yv3⟩ ⟨hr3a, hr3b, hr3c⟩
   dsimp only at hr3a hr3b hr3c
   subst y3
   subst yw3
   subst yv3
   refine rKnow (fun w hs => (show OwnR ndK 78 2 ay3 ny3 cy3 Hy3 z w from hs.at_ 0 rfl).1) (fun lenn7 => ?_)
   refine rKnow (fun w hs => (show OwnR maK 59 2 ayw3 nyw3 cyw3 Hyw3 ws w from hs.at_ 1 rfl).1) (fun lenn8 => ?_)
   refine rKnow (fun w hs => (show OwnR maK 59 2 ayv3 nyv3 cyv3 Hyv3 vs w from hs.at_ 2 rfl).1) (fun lenn9 => ?_)
   refine alc Tryd.zeroValue43 rfl trv1 rfl rfl (fun bka10 hbka10 => ?_)
   refine stAl (vs := [.slice ay3 ny3 cy3, .slice ayw3 nyw3 cyw3, .slice ayv3 nyv3 cyv3]) 0 rfl Tryd.sizeOf43 trv rfl rfl rfl rfl rfl (by simp [Value.oneCell']) rfl ?_
   refine rNil ?_
   refine qSeq rfl ?_
   refine hSeq ?_
   refine hReg (sl 0 (sl 1 (sl 2 (sl 3 sz)))) (by kernel_rfl) ?_
   refine ldAl Tryd.isAgg38 Tryd.sizeOf38 (cBs 8 rfl) trv rfl rfl rfl rfl ?_
   refine callS Tryd.call14 trv1 rfl rfl (fun w hs => laws_toStrategy_c _ _ nps cps _ _ w (Kn.drop (k := 10) kps w hs) (by first | assumption | omega)) ?_
   rintro ⟨ay4, ny4, cy4, Hy4, y4⟩ hr4
   dsimp only at hr4
   subst y4
   refine rKnow (fun w hs => (show OwnR maK 59 2 ay4 ny4 cy4 Hy4 ps w from hs.at_ 0 rfl).1) (fun lenn11 => ?_)
   refine alc Tryd.zeroValue45 rfl trv1 rfl rfl (fun bka12 hbka12 => ?_)
   refine stAl (vs := [.int .i64 pl, .slice ay4 ny4 cy4]) 0 rfl Tryd.sizeOf45 trv rfl rfl rfl rfl rfl (by simp [Value.oneCell']) rfl ?_
   refine rNil ?_
   refine qSeq rfl ?_
   refine hSeq ?_
   refine hReg (sl 0 (sl 1 (sl 2 (sq 3 (sq 4 (sq 5 (sq 6 (sq 7 sz)))))))) (by kernel_rfl) ?_
   refine ldAl Tryd.isAgg43 Tryd.sizeOf43 (cBs 2 rfl) trv rfl rfl rfl rfl ?_
   refine ldAl Tryd.isAgg45 Tryd.sizeOf45 (cBs 0 rfl) trv rfl rfl rfl rfl ?_
   refine callP (v := .tuple #[sv ((Math.stText z ws vs pl ps).1), .int .i64 ((Math.stText z ws vs pl ps).2)]) Tryd.call15 trv rfl rfl (fun w hs => impl_StrategyText_c _ ny3 cy3 _ _ _ nyw3 cyw3 _ _ _ nyv3 cyv3 _ _ _ _ ny4 cy4 _ _ w (OwnR.rd (hs.at_ 3 rfl) ndK.ok) (OwnR.rd (hs.at_ 4 rfl) maK.ok) (OwnR.rd (hs.at_ 5 rfl) maK.ok) (OwnR.rd (hs.at_ 1 rfl) maK.ok) (Kn.drop (k := 12) ktab w hs)) ?_
   refine mv rfl rfl rfl ?_
   refine ext rfl rfl rfl rfl ?_
   refine ext rfl rfl rfl rfl ?_
   refine asn (v := sv ((Math.stText z ws vs pl ps).1)) rfl rfl rfl ?_
   refine asI rfl rfl rfl ?_
   refine rNil ?_
   refine qSeq rfl ?_
   refine hSeq ?_
   refine hSeq ?_
   refine hReg (sq 0 (sq 1 (sq 2 (sq 3 (sq 4 (sq 5 (sq 6 (sq 7 sz)))))))) (by kernel_rfl) ?_
   refine mv (v := sv ((Math.stText z ws vs pl ps).1)) rfl rfl rfl ?_
   refine mv (v := sv ((Math.stText z ws vs pl ps).1)) rfl rfl rfl ?_
   refine strNeq rfl rfl rfl rfl ?_
   refine mvB rfl rfl rfl ?_
   refine rBoolD (d := 43) rfl (fun g3 => ?_) (fun g3 => ?_)
   ·
    replace g3 : (Math.stText z ws vs pl ps).1 ≠ (Math.stText z ws vs pl ps).1 := g3
    exact absurd rfl g3
   ·
    replace g3 : ¬ ((Math.stText z ws vs pl ps).1 ≠ (Math.stText z ws vs pl ps).1) := g3
    refine mvI rfl rfl rfl ?_
    refine mvI rfl rfl rfl ?_
    refine neq rfl rfl rfl rfl ?_
    refine pickB rfl rfl rfl rfl ?_
    refine rNil ?_
    refine qSeq rfl ?_
    refine hIfD rfl (fun c4 => ?_) (fun c4 => ?_)
    ·
     replace c4 : (Math.stText z ws vs pl ps).2 ≠ (Math.stText z ws vs pl ps).2 := c4
     exact absurd rfl c4
    ·
     replace c4 : ¬ ((Math.stText z ws vs pl ps).2 ≠ (Math.stText z ws vs pl ps).2) := c4
     refine hSkip ?_
     refine qSeq rfl ?_
     refine hSeq ?_
     refine hSeq ?_
     refine hDraw (Ls := [blk bka10 43 [.slice ay3 ny3 cy3, .slice ayw3 nyw3 cyw3, .slice ayv3 nyv3 cyv3], blk bkb1 36 [.slice az nz cz, .slice aws nws cws, .slice avs nvs cvs]]) (by kernel_rfl) (sq 0 (sq 1 (sl 2 (sl 3 (sq 4 sz))))) (by kernel_rfl) (.cons _ (.cons _ (.cons_cons _ (.cons _ (.cons _ (.cons _ (.cons _ (.cons _ (.cons _ (.cons _ (.cons _ (.cons_cons _ .slnil)))))))))))) ?_
     refine ldAq Tryd.isAgg43 Tryd.sizeOf43 (cBs 0 rfl) rfl rfl rfl rfl ?_
     refine ldAq Tryd.isAgg36 Tryd.sizeOf36 (cBs 1 rfl) rfl rfl rfl rfl ?_
     refine callS Tryd.call13 (by exact (fun _ _ h => h.pick [5, 13])) rfl rfl (fun w hs => laws_toGame_c _ nz cz _ _ _ nws cws _ _ _ nvs cvs _ _ w (Kn.drop (k := 12) kz w hs) (Kn.drop (k := 12) kws w hs) (Kn.drop (k := 12) kvs w hs) (by first | assumption | omega) (by first | assumption | omega) (by first | assumption | omega)) ?_
     rintro ⟨ay5, ny5, cy5, Hy5, y5, ayw5, nyw5, cyw5, Hyw5, yw5, ayv5, nyv5, cyv5, Hyv5, yv5⟩ ⟨hr5a, hr5b, hr5c⟩
     dsimp only at hr5a hr5b hr5c
     subst y5
     subst yw5
     subst yv5
     refine rKnow (fun w hs => (show OwnR ndK 78 2 ay5 ny5 cy5 Hy5 z w from hs.at_ 0 rfl).1) (fun lenn13 => ?_)
     refine rKnow (fun w hs => (show OwnR maK 59 2 ayw5 nyw5 cyw5 Hyw5 ws w from hs.at_ 1 rfl).1) (fun lenn14 => ?_)
     refine rKnow (fun w hs => (show OwnR maK 59 2 ayv5 nyv5 cyv5 Hyv5 vs w from hs.at_ 2 rfl).1) (fun lenn15 => ?_)
     refine callP (v := .bool true) Tryd.call16 (fun _ h => h.pick [5, 13]) rfl rfl (fun w hs => laws_eqGame_c _ ny3 cy3 _ _ _ nyw3 cyw3 _ _ _ nyv3 cyv3 _ _ _ ny5 cy5 _ _ _ nyw5 cyw5 _ _ _ nyv5 cyv5 _ _ w (OwnR.rd (hs.at_ 6 rfl) ndK.ok) (OwnR.rd (hs.at_ 7 rfl) maK.ok) (OwnR.rd (hs.at_ 8 rfl) maK.ok) (OwnR.rd (hs.at_ 0 rfl) ndK.ok) (OwnR.rd (hs.at_ 1 rfl) maK.ok) (OwnR.rd (hs.at_ 2 rfl) maK.ok) (by exact ⟨rfl, rfl, rfl⟩)) ?_
     refine not rfl rfl rfl ?_
     refine rNil ?_
     refine qSeq rfl ?_
     refine hIfF rfl ?_
     refine hSkip ?_
     refine qSeq rfl ?_
     refine hSeq ?_
     refine hSeq ?_
     refine hDraw (Ls := [blk bka12 45 [.int .i64 pl, .slice ay4 ny4 cy4], blk bkb2 38 [.int .i64 pl, .slice aps nps cps]]) (by kernel_rfl) (sq 0 (sq 1 (sl 2 (sl 3 (sq 4 sz))))) (by kernel_rfl) (.cons _ (.cons _ (.cons _ (.cons_cons _ (.cons _ (.cons _ (.cons _ (.cons _ (.cons _ (.cons _ (.cons _ (.cons _ (.cons _ (.cons_cons _ (.cons _ .slnil))))))))))))))) ?_
     refine ldAq Tryd.isAgg45 Tryd.sizeOf45 (cBs 0 rfl) rfl rfl rfl rfl ?_
     refine ldAq Tryd.isAgg38 Tryd.sizeOf38 (cBs 1 rfl) rfl rfl rfl rfl ?_
     refine callS Tryd.call14 (by exact (fun _ _ h => h.pick [4, 13])) rfl rfl (fun w hs => laws_toStrategy_c _ _ nps cps _ _ w (Kn.drop (k := 15) kps w hs) (by first | assumption | omega)) ?_
     rintro ⟨ay6, ny6, cy6, Hy6, y6⟩ hr6
     dsimp only at hr6
     subst y6
     refine rKnow (fun w hs => (show OwnR maK 59 2 ay6 ny6 cy6 Hy6 ps w from hs.at_ 0 rfl).1) (fun lenn16 => ?_)
     refine callP (v := .bool true) Tryd.call17 (fun _ h => h.pick [4, 13]) rfl rfl (fun w hs => laws_eqStrategy_c _ _ ny4 cy4 _ _ _ _ ny6 cy6 _ _ w (OwnR.rd (hs.at_ 5 rfl) maK.ok) (OwnR.rd (hs.at_ 0 rfl) maK.ok) (by exact ⟨rfl, rfl⟩)) ?_
     refine not rfl rfl rfl ?_
     refine rNil ?_
     refine qSeq rfl ?_
     refine hIfF rfl ?_
     refine hSkip ?_
     refine qSeq rfl ?_
     refine hSeq ?_
     refine hReg (sq 0 sz) (by kernel_rfl) ?_
     refine asB rfl rfl rfl ?_
     refine rNil ?_
     refine qSeq rfl ?_
     refine hRet ?_
     exact fun w hs => ⟨[.bool true], ⟨rfl, trivial⟩, ⟨by first | rfl | exact bD (by omega) | exact bT (by omega) | exact bF (by omega) | exact vI (by omega), hs.upd⟩⟩
set_option maxHeartbeats 2000000 in
theorem fnExactStrategyText_lifted (os : Os) (started : os.Started) (H : Type) (enc : TypeId × Value → H) :
  ReturnsInHanded {} Tryd.checked os 4 .any (fun w args => (Rows.fnExactStrategyTextSpec.pre enc Tryd.prog Tryd.f4 Rows.fnExactStrategyTextRow.domain false w args ∧ laidMetH Tryd.prog Rows.fnExactStrategyTextRow.laid w) ∧ sizedMet enc Tryd.prog Tryd.f4 (OpenSpec.ofChange Rows.fnExactStrategyTextSpec) false w args) (Rows.fnExactStrategyTextSpec.post enc Tryd.prog Tryd.f4 false true false false) := by
 refine returnsInHanded_of_change_and (C := Tryd.checked) (X := fun w _ => laidMetH Tryd.prog Rows.fnExactStrategyTextRow.laid w) (fun _ _ _ hh h => h.of_heap hh) own started (by kernel_rfl) Tryd.func4
  (ChangeSpec.witness_shaped (enc := enc) (C := Tryd.checked) (os := os) (X := fun w _ => laidMetH Tryd.prog Rows.fnExactStrategyTextRow.laid w) false (World.laidAll Tryd.prog os Rows.fnExactStrategyTextRow.laid) #[.agg #[.slice none 0 0, .slice none 0 0, .slice none 0 0], .agg #[.int .i64 0, .slice none 0 0]] 8 (World.laidAll_os _ _ _)
   (World.shaped_of_ZipB (by kernel_rfl) (by kernel_rfl)) (by kernel_rfl) (by kernel_rfl) (by kernel_rfl)
   (by rw [MakeChecks.laidMetH_plain _ _ _ (by kernel_rfl)]; exact laidMet_laidAll _ (by kernel_rfl) (by kernel_rfl))) ?_
 intro W base args ds gs before hval0 hW hcnd _ hL _
 have hval : ∀ (j : Nat) t v, Tryd.f4.params[j]? = some t → args[j]? = some v → Value.okWide Tryd.prog W .any base t v := hval0
 have hW' := hW
 obtain ⟨p, q, hA0, hV, rfl, hfz, hnd⟩ := hW
 have hA : DataW.TrodAll enc Tryd.prog W 0 (fun _ => true) true Tryd.f4.params.toList args.toList ds p := hA0
 rw [Tryd.params4] at hA hval
 obtain ⟨v0, vs0, d0, ds0, p0, q0, hargs, rfl, rfl, h0, r0⟩ := trodAll_cons hA
 obtain ⟨v1, vs1, d1, ds1, p1, q1, rfl, rfl, rfl, h1, r1⟩ := trodAll_cons r0
 obtain ⟨rfl, rfl, rfl⟩ := trodAll_nil r1
 obtain rfl : args = #[v0, v1] := by cases args; simp_all
 obtain ⟨rfl, rfl⟩ := trodVars_none hV
 obtain ⟨f0, g0⟩ := h0
 obtain ⟨cs0, rfl, _⟩ := okWide_struct Tryd.underlying36 (hval 0 36 v0 rfl rfl)
 obtain ⟨aq0_0, nq0_0, cq0_0, hq0_0, zq0_0, aq0_1, nq0_1, cq0_1, hq0_1, zq0_1, aq0_2, nq0_2, cq0_2, hq0_2, zq0_2, e0, rq0_0, rq0_1, rq0_2⟩ := inT36 g0
 obtain rfl : cs0 = #[.slice aq0_0 nq0_0 cq0_0, .slice aq0_1 nq0_1 cq0_1, .slice aq0_2 nq0_2 cq0_2] := by apply Array.ext'; exact e0
 obtain ⟨f1, g1⟩ := h1
 obtain ⟨cs1, rfl, _⟩ := okWide_struct Tryd.underlying38 (hval 1 38 v1 rfl rfl)
 obtain ⟨zq1_0, aq1_1, nq1_1, cq1_1, hq1_1, zq1_1, e1, rq1_1⟩ := inT38 g1
 obtain rfl : cs1 = #[.int .i64 zq1_0, .slice aq1_1 nq1_1 cq1_1] := by apply Array.ext'; exact e1
 rw [MakeChecks.laidMetH_plain _ _ _ (by kernel_rfl)] at hL
 have htab : TabP W := tab_of_laid hL
 refine (laws_FnExactStrategyText_c aq0_0 nq0_0 cq0_0 hq0_0 zq0_0 aq0_1 nq0_1 cq0_1 hq0_1 zq0_1 aq0_2 nq0_2 cq0_2 hq0_2 zq0_2 zq1_0 aq1_1 nq1_1 cq1_1 hq1_1 zq1_1 W rq0_0 rq0_1 rq0_2 rq1_1 htab).mono fun e W' ⟨v, he, hv, hx⟩ => ?_
 subst he; subst hv
 exact ⟨_, rfl, law_post (tb := 4) hW' rfl rfl Tryd.underlying4 rfl rfl rfl (by kernel_rfl) hx⟩
theorem fnExactStrategyText_said : Rows.FnExactStrategyTextSaid :=
 OpenClaim.holds_of_wide 4 Tryd.f4 rfl rfl rfl rfl rfl rfl rfl ⟨rfl, rfl, rfl, rfl, rfl⟩ rfl rfl rfl rfl rfl (by kernel_rfl) Tryd.func4 (by kernel_rfl)
  (of_decide_eq_true (by kernel_rfl)) (by unfold Func.isWrapper; first | (rw [if_pos (by decide +kernel)]; kernel_rfl) | (rw [if_neg (by decide +kernel)]; exact ⟨rfl, rfl⟩))
  (fun os started H enc _ => fnExactStrategyText_lifted os started H enc)
theorem fnExactStrategyText_holds : Rows.FnExactStrategyTextCardSaid :=
 Claim7.holds_tied_plain_at .later [] [.data, .data, .data] true (true, "6df84baad998520090038214298fc12f918dbe26b426e48e9a9dde4214fd7dfa") false fnExactStrategyText_said (fun _ h => by cases h) (by kernel_rfl) (fun _ h => by cases h) fnExactStrategyText_row_tie rfl ⟨rfl, rfl⟩ (by kernel_rfl) rfl
  (fun f fn hf hfn => by
   obtain rfl : f = 4 := Option.some.inj ((show Tryd.prog.funcNamed "loop.example/g00910/laws.FnExactStrategyText" = some 4 by kernel_rfl).symm.trans hf) |>.symm
   obtain rfl : fn = Tryd.f4 := (Option.some.inj (Tryd.func4.symm.trans hfn)).symm
   exact ⟨by kernel_rfl, fun j t ht => by
    rw [Tryd.params4] at ht
    have hm : t ∈ [36, 38] := by simpa using Array.mem_of_getElem? ht
    have hall : ([36, 38].all fun u => !Tryd.prog.wantsStandIn u) = true := by kernel_rfl
    exact (show Tryd.prog.wantsStandIn t = false by simpa using List.all_eq_true.1 hall t hm)⟩)
  (by kernel_rfl)
#print axioms fnExactStrategyText_holds
end Go.Proofs.YtgnfffdenbiipaaDoor
