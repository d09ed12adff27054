/- Contracts of evaluators. Their conditions stand in each. -/
import Derived.Test.YtjengglpbdgmnaaZ12Nu
import Derived.Test.YtjengglpbdgmnaaZ2Nu
import Derived.Test.YtjengglpbdgmnaaZ3Nu
import Derived.Test.YtjengglpbdgmnaaZ4Nu
import Derived.Test.YtjengglpbdgmnaaZ7Nu
import Derived.Test.YtjengglpbdgmnaaZ8Nu
import Derived.Test.YtjengglpbdgmnaaRows
import Derived.Test.YtjengglpbdgmnaaZ10Nu
import Derived.Test.YtjengglpbdgmnaaZ11Nu
namespace Go.Proofs.Ytjengglpbdgmnaa
open Go Go.RowKit V
set_option linter.unusedVariables false
set_option linter.unusedSimpArgs false
set_option maxRecDepth 100000
theorem fl158_0 : Fld Try.prog 158 0 0 := by
 intro w ad; simp [Instr.fieldAt, Try.runUnderlying158, Instr.sureAddr, fieldPlace, Try.sizeOf43]
theorem fl158_1 : Fld Try.prog 158 1 3 := by
 intro w ad; simp [Instr.fieldAt, Try.runUnderlying158, Instr.sureAddr, fieldPlace, Try.sizeOf156]
theorem fl158_2 : Fld Try.prog 158 2 5 := by
 intro w ad; simp [Instr.fieldAt, Try.runUnderlying158, Instr.sureAddr, fieldPlace, Try.sizeOf155]
theorem fl158_3 : Fld Try.prog 158 3 7 := by
 intro w ad; simp [Instr.fieldAt, Try.runUnderlying158, Instr.sureAddr, fieldPlace, Try.sizeOf28]
theorem ar155 : Arr Try.prog 155 2 1 := ⟨41, Try.runUnderlying155, Try.sizeOf41⟩
theorem ar156 : Arr Try.prog 156 2 1 := ⟨103, Try.runUnderlying156, Try.sizeOf103⟩
theorem bld155_0_1 (v0 v1 : Value) (h0 : v0.cells = #[v0]) (h1 : v1.cells = #[v1]) : ∀ w, (Instr.build 155 ([(0, v0), (1, v1)] : List (Nat × Value)).toArray).run Try.prog w = .ok (.agg ([v0, v1] : List Value).toArray) w := by
 intro w; simp [Instr.build, Instr.fill, Try.zeroValue155, Try.runUnderlying155, aggCells, Try.sizeOf41, h0, h1]
theorem bld158_0_2_3 (v0_0 v0_1 v0_2 v2_0 v2_1 v3 : Value) (h0_0 : v0_0.cells = #[v0_0]) (h0_1 : v0_1.cells = #[v0_1]) (h0_2 : v0_2.cells = #[v0_2]) (h2_0 : v2_0.cells = #[v2_0]) (h2_1 : v2_1.cells = #[v2_1]) (h3 : v3.cells = #[v3]) : ∀ w, (Instr.build 158 ([(0, .agg #[v0_0, v0_1, v0_2]), (2, .agg #[v2_0, v2_1]), (3, v3)] : List (Nat × Value)).toArray).run Try.prog w = .ok (.agg ([v0_0, v0_1, v0_2, .slice none 0 0, .slice none 0 0, v2_0, v2_1, v3] : List Value).toArray) w := by
 intro w; simp [Instr.build, Instr.fill, Try.zeroValue158, Try.runUnderlying158, aggCells, Try.sizeOf28, Try.sizeOf43, Try.sizeOf155, Try.sizeOf156, h3]
theorem impl_arePair_c (az : Option Addr) (nz : Nat) (cz : Nat) (Hz : Nat → Hd) (z : List Nd) (aws : Option Addr) (nws : Nat) (cws : Nat) (Hws : Nat → Hd) (ws : List (List Int)) (avs : Option Addr) (nvs : Nat) (cvs : Nat) (Hvs : Nat → Hd) (vs : List (List Int)) (pl : Int) (aps : Option Addr) (nps : Nat) (cps : Nat) (Hps : Nat → Hd) (ps : List (List Int)) (ql : Int) (aqs : Option Addr) (nqs : Nat) (cqs : Nat) (Hqs : Nat → Hd) (qs : List (List Int)) (w : World) (rz : RdR ndK az nz Hz z w) (rws : RdR maK aws nws Hws ws w) (rvs : RdR maK avs nvs Hvs vs w) (rps : RdR maK aps nps Hps ps w) (rqs : RdR maK aqs nqs Hqs qs w) :
  Calls Try.prog 142 #[.agg #[.slice az nz cz, .slice aws nws cws, .slice avs nvs cvs], .agg #[.int .i64 pl, .slice aps nps cps], .agg #[.int .i64 ql, .slice aqs nqs cqs]] w (Ret fun v w' => v = .bool (Math.isPair z ws vs pl ps ql qs) ∧ Ext w w') := by
 have kz : Kn w none_ [] (RdR ndK az nz Hz z) := fun w' hs => rz.ext hs.upd
 have lz : z.length = nz := rz.1
 have mz : nz ≤ 9223372036854775807 := rz.2.1
 have kws : Kn w none_ [] (RdR maK aws nws Hws ws) := fun w' hs => rws.ext hs.upd
 have lws : ws.length = nws := rws.1
 have mws : nws ≤ 9223372036854775807 := rws.2.1
 have kvs : Kn w none_ [] (RdR maK avs nvs Hvs vs) := fun w' hs => rvs.ext hs.upd
 have lvs : vs.length = nvs := rvs.1
 have mvs : nvs ≤ 9223372036854775807 := rvs.2.1
 have kps : Kn w none_ [] (RdR maK aps nps Hps ps) := fun w' hs => rps.ext hs.upd
 have lps : ps.length = nps := rps.1
 have mps : nps ≤ 9223372036854775807 := rps.2.1
 have kqs : Kn w none_ [] (RdR maK aqs nqs Hqs qs) := fun w' hs => rqs.ext hs.upd
 have lqs : qs.length = nqs := rqs.1
 have mqs : nqs ≤ 9223372036854775807 := rqs.2.1
 refine fn (M := none_) (rs := [.tmp 6]) Try.func142 rfl Try.ntmps142 rfl rfl (Sep.start _ _) ?_
 refine hSeq ?_
 refine hReg (sl 0 (sl 1 (sl 2 (sq 3 sz)))) (by kernel_rfl) ?_
 refine box trv1 rfl rfl rfl rfl (fun bkb1 hbkb1 => ?_)
 refine box trv1 rfl rfl rfl rfl (fun bkb2 hbkb2 => ?_)
 refine box trv1 rfl rfl rfl rfl (fun bkb3 hbkb3 => ?_)
 refine asB rfl rfl rfl ?_
 refine rNil ?_
 refine qSeq rfl ?_
 refine hSeq ?_
 refine hReg (sl 0 (sl 1 (sq 2 (sq 3 (sl 4 (sq 5 (sq 6 (sq 7 (sq 8 (sl 9 (sq 10 (sq 11 (sq 12 (sl 13 (sl 14 (sl 15 (sq 16 (sq 17 (sl 18 (sl 19 (sl 20 (sq 21 (sq 22 sz))))))))))))))))))))))) (by kernel_rfl) ?_
 refine ldAl Try.isAgg43 Try.sizeOf43 (cBs 2 rfl) trv rfl rfl rfl rfl ?_
 refine callP (v := .bool (Math.isGame z ws vs)) Try.call38 trv rfl rfl (fun w hs => impl_IsGame_c _ nz cz _ _ _ nws cws _ _ _ nvs cvs _ _ w (Kn.drop (k := 3) kz w hs) (Kn.drop (k := 3) kws w hs) (Kn.drop (k := 3) kvs w hs)) ?_
 refine mvB rfl rfl rfl ?_
 refine rBool (d := 9) rfl (fun g1 => ?_) (fun g1 => ?_)
 ·
  replace g1 : (Math.isGame z ws vs) = true := g1
  refine fld fl56_0 rfl rfl rfl ?_
  refine ldl Try.isAgg2 (cB 1 rfl rfl) trv rfl rfl rfl ?_
  refine eql rfl rfl rfl rfl ?_
  refine pickB rfl rfl rfl rfl ?_
  refine mvB rfl rfl rfl ?_
  refine rBoolD (d := 14) rfl (fun g2 => ?_) (fun g2 => ?_)
  ·
   replace g2 : pl = 0 := g2
   refine fld fl56_0 rfl rfl rfl ?_
   refine ldl Try.isAgg2 (cB 0 rfl rfl) trv rfl rfl rfl ?_
   refine eql rfl rfl rfl rfl ?_
   refine pickB rfl rfl rfl rfl ?_
   refine mvB rfl rfl rfl ?_
   refine rBoolD (d := 19) rfl (fun g3 => ?_) (fun g3 => ?_)
   ·
    replace g3 : ql = 1 := g3
    refine ldAl Try.isAgg43 Try.sizeOf43 (cBs 2 rfl) trv rfl rfl rfl rfl ?_
    refine ldAl Try.isAgg56 Try.sizeOf56 (cBs 1 rfl) trv rfl rfl rfl rfl ?_
    refine callP (v := .bool ((Math.partsB z (Math.sets z nws pl) ps))) Try.call122 trv rfl rfl (fun w hs => impl_isStrategy_c _ nz cz _ _ _ nws cws _ _ _ nvs cvs _ _ _ _ nps cps _ _ w (Kn.drop (k := 3) kz w hs) (Kn.drop (k := 3) kws w hs) (Kn.drop (k := 3) kvs w hs) (Kn.drop (k := 3) kps w hs) (by assumption)) ?_
    refine pickB rfl rfl rfl rfl ?_
    refine mvB rfl rfl rfl ?_
    refine rBool (d := 24) rfl (fun g4 => ?_) (fun g4 => ?_)
    ·
     replace g4 : (Math.partsB z (Math.sets z nws pl) ps) = true := g4
     refine ldAl Try.isAgg43 Try.sizeOf43 (cBs 2 rfl) trv rfl rfl rfl rfl ?_
     refine ldAl Try.isAgg56 Try.sizeOf56 (cBs 0 rfl) trv rfl rfl rfl rfl ?_
     refine callP (v := .bool ((Math.partsB z (Math.sets z nws ql) qs))) Try.call122 trv rfl rfl (fun w hs => impl_isStrategy_c _ nz cz _ _ _ nws cws _ _ _ nvs cvs _ _ _ _ nqs cqs _ _ w (Kn.drop (k := 3) kz w hs) (Kn.drop (k := 3) kws w hs) (Kn.drop (k := 3) kvs w hs) (Kn.drop (k := 3) kqs w hs) (by assumption)) ?_
     refine pickB rfl rfl rfl rfl ?_
     refine asB rfl rfl rfl ?_
     refine rNil ?_
     refine qSeq rfl ?_
     refine hRet ?_
     exact fun w hs => ⟨[.bool ((Math.partsB z (Math.sets z nws ql) qs))], ⟨rfl, trivial⟩, ⟨bB (by rw [Math.pair_in lws]; simp only [g1, decide_eq_true g2, decide_eq_true g3, g4, Bool.true_and, Bool.false_and, Bool.and_false, Bool.and_true]), hs.upd⟩⟩
    ·
     replace g4 : (Math.partsB z (Math.sets z nws pl) ps) = false := g4
     refine rSkipL trv rfl rfl ?_
     refine rSkipL trv rfl rfl ?_
     refine rSkipL trv rfl rfl ?_
     refine pickB rfl rfl rfl rfl ?_
     refine asB rfl rfl rfl ?_
     refine rNil ?_
     refine qSeq rfl ?_
     refine hRet ?_
     exact fun w hs => ⟨[.bool false], ⟨rfl, trivial⟩, ⟨bB (by rw [Math.pair_in lws]; simp only [g1, decide_eq_true g2, decide_eq_true g3, g4, Bool.true_and, Bool.false_and, Bool.and_false, Bool.and_true]), hs.upd⟩⟩
   ·
    replace g3 : ¬ (ql = 1) := g3
    refine rSkipL trv rfl rfl ?_
    refine rSkipL trv rfl rfl ?_
    refine rSkipL trv rfl rfl ?_
    refine pickB rfl rfl rfl rfl ?_
    refine mvB rfl rfl rfl ?_
    refine rSkipL trv rfl rfl ?_
    refine rSkipL trv rfl rfl ?_
    refine rSkipL trv rfl rfl ?_
    refine pickB rfl rfl rfl rfl ?_
    refine asB rfl rfl rfl ?_
    refine rNil ?_
    refine qSeq rfl ?_
    refine hRet ?_
    exact fun w hs => ⟨[.bool false], ⟨rfl, trivial⟩, ⟨bB (by rw [Math.pair_in lws]; simp only [g1, decide_eq_true g2, decide_eq_false g3, Bool.true_and, Bool.false_and, Bool.and_false, Bool.and_true]), hs.upd⟩⟩
  ·
   replace g2 : ¬ (pl = 0) := g2
   refine rSkipQ rfl rfl ?_
   refine rSkipL trv rfl rfl ?_
   refine rSkipQ rfl rfl ?_
   refine pickB rfl rfl rfl rfl ?_
   refine mvB rfl rfl rfl ?_
   refine rSkipL trv rfl rfl ?_
   refine rSkipL trv rfl rfl ?_
   refine rSkipL trv rfl rfl ?_
   refine pickB rfl rfl rfl rfl ?_
   refine mvB rfl rfl rfl ?_
   refine rSkipL trv rfl rfl ?_
   refine rSkipL trv rfl rfl ?_
   refine rSkipL trv rfl rfl ?_
   refine pickB rfl rfl rfl rfl ?_
   refine asB rfl rfl rfl ?_
   refine rNil ?_
   refine qSeq rfl ?_
   refine hRet ?_
   exact fun w hs => ⟨[.bool false], ⟨rfl, trivial⟩, ⟨bB (by rw [Math.pair_in lws]; simp only [g1, decide_eq_false g2, Bool.true_and, Bool.false_and, Bool.and_false, Bool.and_true]), hs.upd⟩⟩
 ·
  replace g1 : (Math.isGame z ws vs) = false := g1
  refine rSkipQ rfl rfl ?_
  refine rSkipL trv rfl rfl ?_
  refine rSkipQ rfl rfl ?_
  refine pickB rfl rfl rfl rfl ?_
  refine mvB rfl rfl rfl ?_
  refine rSkipQ rfl rfl ?_
  refine rSkipL trv rfl rfl ?_
  refine rSkipQ rfl rfl ?_
  refine pickB rfl rfl rfl rfl ?_
  refine mvB rfl rfl rfl ?_
  refine rSkipL trv rfl rfl ?_
  refine rSkipL trv rfl rfl ?_
  refine rSkipL trv rfl rfl ?_
  refine pickB rfl rfl rfl rfl ?_
  refine mvB rfl rfl rfl ?_
  refine rSkipL trv rfl rfl ?_
  refine rSkipL trv rfl rfl ?_
  refine rSkipL trv rfl rfl ?_
  refine pickB rfl rfl rfl rfl ?_
  refine asB rfl rfl rfl ?_
  refine rNil ?_
  refine qSeq rfl ?_
  refine hRet ?_
  exact fun w hs => ⟨[.bool false], ⟨rfl, trivial⟩, ⟨bB (by rw [Math.pair_in lws]; simp only [g1, Bool.true_and, Bool.false_and, Bool.and_false, Bool.and_true]), hs.upd⟩⟩
theorem spec_l23Pair_c (az : Option Addr) (nz : Nat) (cz : Nat) (Hz : Nat → Hd) (z : List Nd) (aws : Option Addr) (nws : Nat) (cws : Nat) (Hws : Nat → Hd) (ws : List (List Int)) (avs : Option Addr) (nvs : Nat) (cvs : Nat) (Hvs : Nat → Hd) (vs : List (List Int)) (pl : Int) (aps : Option Addr) (nps : Nat) (cps : Nat) (Hps : Nat → Hd) (ps : List (List Int)) (ql : Int) (aqs : Option Addr) (nqs : Nat) (cqs : Nat) (Hqs : Nat → Hd) (qs : List (List Int)) (w : World) (rz : RdR ndK az nz Hz z w) (rws : RdR maK aws nws Hws ws w) (rvs : RdR maK avs nvs Hvs vs w) (rps : RdR maK aps nps Hps ps w) (rqs : RdR maK aqs nqs Hqs qs w) :
  Calls Try.prog 145 #[.agg #[.slice az nz cz, .slice aws nws cws, .slice avs nvs cvs], .agg #[.int .i64 pl, .slice aps nps cps], .agg #[.int .i64 ql, .slice aqs nqs cqs]] w (Ret fun v w' => v = .bool (Math.isPair z ws vs pl ps ql qs) ∧ Ext w w') := by
 have kz : Kn w none_ [] (RdR ndK az nz Hz z) := fun w' hs => rz.ext hs.upd
 have lz : z.length = nz := rz.1
 have mz : nz ≤ 9223372036854775807 := rz.2.1
 have kws : Kn w none_ [] (RdR maK aws nws Hws ws) := fun w' hs => rws.ext hs.upd
 have lws : ws.length = nws := rws.1
 have mws : nws ≤ 9223372036854775807 := rws.2.1
 have kvs : Kn w none_ [] (RdR maK avs nvs Hvs vs) := fun w' hs => rvs.ext hs.upd
 have lvs : vs.length = nvs := rvs.1
 have mvs : nvs ≤ 9223372036854775807 := rvs.2.1
 have kps : Kn w none_ [] (RdR maK aps nps Hps ps) := fun w' hs => rps.ext hs.upd
 have lps : ps.length = nps := rps.1
 have mps : nps ≤ 9223372036854775807 := rps.2.1
 have kqs : Kn w none_ [] (RdR maK aqs nqs Hqs qs) := fun w' hs => rqs.ext hs.upd
 have lqs : qs.length = nqs := rqs.1
 have mqs : nqs ≤ 9223372036854775807 := rqs.2.1
 refine fn (M := none_) (rs := [.tmp 6]) Try.func145 rfl Try.ntmps145 rfl rfl (Sep.start _ _) ?_
 refine hSeq ?_
 refine hReg (sl 0 (sl 1 (sl 2 (sq 3 sz)))) (by kernel_rfl) ?_
 refine box trv1 rfl rfl rfl rfl (fun bkb1 hbkb1 => ?_)
 refine box trv1 rfl rfl rfl rfl (fun bkb2 hbkb2 => ?_)
 refine box trv1 rfl rfl rfl rfl (fun bkb3 hbkb3 => ?_)
 refine asB rfl rfl rfl ?_
 refine rNil ?_
 refine qSeq rfl ?_
 refine hSeq ?_
 refine hReg (sl 0 (sl 1 (sl 2 (sq 3 (sl 4 (sl 5 (sl 6 (sq 7 (sq 8 (sq 9 (sl 10 (sq 11 (sq 12 (sq 13 (sq 14 (sl 15 (sq 16 (sq 17 (sq 18 sz))))))))))))))))))) (by kernel_rfl) ?_
 refine ldAl Try.isAgg43 Try.sizeOf43 (cBs 2 rfl) trv rfl rfl rfl rfl ?_
 refine ldAl Try.isAgg56 Try.sizeOf56 (cBs 1 rfl) trv rfl rfl rfl rfl ?_
 refine callP (v := .bool (Math.isStrat z ws vs pl ps)) Try.call139 trv rfl rfl (fun w hs => spec_IsStrategy_c _ nz cz _ _ _ nws cws _ _ _ nvs cvs _ _ _ _ nps cps _ _ w (Kn.drop (k := 3) kz w hs) (Kn.drop (k := 3) kws w hs) (Kn.drop (k := 3) kvs w hs) (Kn.drop (k := 3) kps w hs)) ?_
 refine mvB rfl rfl rfl ?_
 refine rBool (d := 10) rfl (fun g1 => ?_) (fun g1 => ?_)
 ·
  replace g1 : (Math.isStrat z ws vs pl ps) = true := g1
  refine ldAl Try.isAgg43 Try.sizeOf43 (cBs 2 rfl) trv rfl rfl rfl rfl ?_
  refine ldAl Try.isAgg56 Try.sizeOf56 (cBs 0 rfl) trv rfl rfl rfl rfl ?_
  refine callP (v := .bool (Math.isStrat z ws vs ql qs)) Try.call139 trv rfl rfl (fun w hs => spec_IsStrategy_c _ nz cz _ _ _ nws cws _ _ _ nvs cvs _ _ _ _ nqs cqs _ _ w (Kn.drop (k := 3) kz w hs) (Kn.drop (k := 3) kws w hs) (Kn.drop (k := 3) kvs w hs) (Kn.drop (k := 3) kqs w hs)) ?_
  refine pickB rfl rfl rfl rfl ?_
  refine mvB rfl rfl rfl ?_
  refine rBool (d := 15) rfl (fun g2 => ?_) (fun g2 => ?_)
  ·
   replace g2 : (Math.isStrat z ws vs ql qs) = true := g2
   refine fld fl56_0 rfl rfl rfl ?_
   refine ldl Try.isAgg2 (cB 1 rfl rfl) trv rfl rfl rfl ?_
   refine eql rfl rfl rfl rfl ?_
   refine pickB rfl rfl rfl rfl ?_
   refine mvB rfl rfl rfl ?_
   refine rBoolD (d := 20) rfl (fun g3 => ?_) (fun g3 => ?_)
   ·
    replace g3 : pl = 0 := g3
    refine fld fl56_0 rfl rfl rfl ?_
    refine ldl Try.isAgg2 (cB 0 rfl rfl) trv rfl rfl rfl ?_
    refine eql rfl rfl rfl rfl ?_
    refine pickB rfl rfl rfl rfl ?_
    refine asB rfl rfl rfl ?_
    refine rNil ?_
    refine qSeq rfl ?_
    refine hRet ?_
    exact fun w hs => ⟨[.bool (decide (ql = 1))], ⟨rfl, trivial⟩, ⟨bB (by rw [Math.pair_is]; simp only [g1, g2, decide_eq_true g3, Bool.true_and, Bool.false_and, Bool.and_false, Bool.and_true]), hs.upd⟩⟩
   ·
    replace g3 : ¬ (pl = 0) := g3
    refine rSkipQ rfl rfl ?_
    refine rSkipL trv rfl rfl ?_
    refine rSkipQ rfl rfl ?_
    refine pickB rfl rfl rfl rfl ?_
    refine asB rfl rfl rfl ?_
    refine rNil ?_
    refine qSeq rfl ?_
    refine hRet ?_
    exact fun w hs => ⟨[.bool false], ⟨rfl, trivial⟩, ⟨bB (by rw [Math.pair_is]; simp only [g1, g2, decide_eq_false g3, Bool.true_and, Bool.false_and, Bool.and_false, Bool.and_true]), hs.upd⟩⟩
  ·
   replace g2 : (Math.isStrat z ws vs ql qs) = false := g2
   refine rSkipQ rfl rfl ?_
   refine rSkipL trv rfl rfl ?_
   refine rSkipQ rfl rfl ?_
   refine pickB rfl rfl rfl rfl ?_
   refine mvB rfl rfl rfl ?_
   refine rSkipQ rfl rfl ?_
   refine rSkipL trv rfl rfl ?_
   refine rSkipQ rfl rfl ?_
   refine pickB rfl rfl rfl rfl ?_
   refine asB rfl rfl rfl ?_
   refine rNil ?_
   refine qSeq rfl ?_
   refine hRet ?_
   exact fun w hs => ⟨[.bool false], ⟨rfl, trivial⟩, ⟨bB (by rw [Math.pair_is]; simp only [g1, g2, Bool.true_and, Bool.false_and, Bool.and_false, Bool.and_true]), hs.upd⟩⟩
 ·
  replace g1 : (Math.isStrat z ws vs pl ps) = false := g1
  refine rSkipL trv rfl rfl ?_
  refine rSkipL trv rfl rfl ?_
  refine rSkipL trv rfl rfl ?_
  refine pickB rfl rfl rfl rfl ?_
  refine mvB rfl rfl rfl ?_
  refine rSkipQ rfl rfl ?_
  refine rSkipL trv rfl rfl ?_
  refine rSkipQ rfl rfl ?_
  refine pickB rfl rfl rfl rfl ?_
  refine mvB rfl rfl rfl ?_
  refine rSkipQ rfl rfl ?_
  refine rSkipL trv rfl rfl ?_
  refine rSkipQ rfl rfl ?_
  refine pickB rfl rfl rfl rfl ?_
  refine asB rfl rfl rfl ?_
  refine rNil ?_
  refine qSeq rfl ?_
  refine hRet ?_
  exact fun w hs => ⟨[.bool false], ⟨rfl, trivial⟩, ⟨bB (by rw [Math.pair_is]; simp only [g1, Bool.true_and, Bool.false_and, Bool.and_false, Bool.and_true]), hs.upd⟩⟩
set_option maxHeartbeats 2000000 in
theorem impl_newEvaluator_c (az : Option Addr) (nz : Nat) (cz : Nat) (Hz : Nat → Hd) (z : List Nd) (aws : Option Addr) (nws : Nat) (cws : Nat) (Hws : Nat → Hd) (ws : List (List Int)) (avs : Option Addr) (nvs : Nat) (cvs : Nat) (Hvs : Nat → Hd) (vs : List (List Int)) (pl : Int) (aps : Option Addr) (nps : Nat) (cps : Nat) (Hps : Nat → Hd) (ps : List (List Int)) (ql : Int) (aqs : Option Addr) (nqs : Nat) (cqs : Nat) (Hqs : Nat → Hd) (qs : List (List Int)) (w : World) (rz : RdR ndK az nz Hz z w) (rws : RdR maK aws nws Hws ws w) (rvs : RdR maK avs nvs Hvs vs w) (rps : RdR maK aps nps Hps ps w) (rqs : RdR maK aqs nqs Hqs qs w) (hg : Math.isGame z ws vs = true) :
  Calls Try.prog 143 #[.agg #[.slice az nz cz, .slice aws nws cws, .slice avs nvs cvs], .agg #[.int .i64 pl, .slice aps nps cps], .agg #[.int .i64 ql, .slice aqs nqs cqs]] w (Ret fun v w' => ∃ x : Nat × Option Addr × Nat × Nat × List Int × Option Addr × Nat × Nat × List Int × Option Addr × Nat × Nat × List Int, v = .pointer (some ⟨x.1, 0, none⟩) ∧ (x.2.2.2.2.1 = Math.firstOf z nws 0 ∧ x.2.2.2.2.2.2.2.2.1 = Math.firstOf z nws 1 ∧ x.2.2.2.2.2.2.2.2.2.2.2.2 = Math.parOf z) ∧ Sep w none_ [blk x.1 158 [.slice az nz cz, .slice aws nws cws, .slice avs nvs cvs, .slice x.2.1 x.2.2.1 x.2.2.2.1, .slice x.2.2.2.2.2.1 x.2.2.2.2.2.2.1 x.2.2.2.2.2.2.2.1, .slice aps nps cps, .slice aqs nqs cqs, .slice x.2.2.2.2.2.2.2.2.2.1 x.2.2.2.2.2.2.2.2.2.2.1 x.2.2.2.2.2.2.2.2.2.2.2.1], OwnI 3 x.2.1 x.2.2.1 x.2.2.2.1 x.2.2.2.2.1, OwnI 3 x.2.2.2.2.2.1 x.2.2.2.2.2.2.1 x.2.2.2.2.2.2.2.1 x.2.2.2.2.2.2.2.2.1, OwnI 2 x.2.2.2.2.2.2.2.2.2.1 x.2.2.2.2.2.2.2.2.2.2.1 x.2.2.2.2.2.2.2.2.2.2.2.1 x.2.2.2.2.2.2.2.2.2.2.2.2] w') := by
 have kz : Kn w none_ [] (RdR ndK az nz Hz z) := fun w' hs => rz.ext hs.upd
 have lz : z.length = nz := rz.1
 have mz : nz ≤ 9223372036854775807 := rz.2.1
 have kws : Kn w none_ [] (RdR maK aws nws Hws ws) := fun w' hs => rws.ext hs.upd
 have lws : ws.length = nws := rws.1
 have mws : nws ≤ 9223372036854775807 := rws.2.1
 have kvs : Kn w none_ [] (RdR maK avs nvs Hvs vs) := fun w' hs => rvs.ext hs.upd
 have lvs : vs.length = nvs := rvs.1
 have mvs : nvs ≤ 9223372036854775807 := rvs.2.1
 have kps : Kn w none_ [] (RdR maK aps nps Hps ps) := fun w' hs => rps.ext hs.upd
 have lps : ps.length = nps := rps.1
 have mps : nps ≤ 9223372036854775807 := rps.2.1
 have kqs : Kn w none_ [] (RdR maK aqs nqs Hqs qs) := fun w' hs => rqs.ext hs.upd
 have lqs : qs.length = nqs := rqs.1
 have mqs : nqs ≤ 9223372036854775807 := rqs.2.1
 have hG := Math.isGame_ok hg
 rw [lws] at hG
 have hT := Math.isTree_ok hG.1
 have hvl := Math.mat_len hG.2.2.2.1
 refine fn (M := none_) (rs := [.tmp 6]) Try.func143 rfl Try.ntmps143 rfl rfl (Sep.start _ _) ?_
 refine hSeq ?_
 refine hReg (sl 0 (sl 1 (sl 2 (sq 3 sz)))) (by kernel_rfl) ?_
 refine box trv1 rfl rfl rfl rfl (fun bkb1 hbkb1 => ?_)
 refine box trv1 rfl rfl rfl rfl (fun bkb2 hbkb2 => ?_)
 refine box trv1 rfl rfl rfl rfl (fun bkb3 hbkb3 => ?_)
 refine asn rfl rfl rfl ?_
 refine rNil ?_
 refine qSeq rfl ?_
 refine hSeq ?_
 refine hDraw (Ls := [blk bkb3 56 [.int .i64 ql, .slice aqs nqs cqs], blk bkb2 56 [.int .i64 pl, .slice aps nps cps], blk bkb1 43 [.slice az nz cz, .slice aws nws cws, .slice avs nvs cvs]]) (by kernel_rfl) (sq 0 (sq 1 (sq 2 (sq 3 (sq 4 (sq 5 (sq 6 (sq 7 (sq 8 (sq 9 (sl 10 (sq 11 (sl 12 (sq 13 sz)))))))))))))) (by kernel_rfl) (.cons_cons _ (.cons_cons _ (.cons_cons _ .slnil))) ?_
 refine ldAq Try.isAgg43 Try.sizeOf43 (cBs 2 rfl) rfl rfl rfl rfl ?_
 refine fld fl56_1 rfl rfl rfl ?_
 refine ldq Try.isAgg41 (cB 1 rfl rfl) rfl rfl rfl ?_
 refine fld fl56_1 rfl rfl rfl ?_
 refine ldq Try.isAgg41 (cB 0 rfl rfl) rfl rfl rfl ?_
 refine bld rfl rfl rfl (bld155_0_1 (.slice _ _ _) (.slice _ _ _) rfl rfl) ?_
 refine fld fl43_0 rfl rfl rfl ?_
 refine fld fl26_0 rfl rfl rfl ?_
 refine ldq Try.isAgg24 (cB 2 rfl rfl) rfl rfl rfl ?_
 refine lenS Try.runUnderlying24 rfl rfl rfl ?_
 refine mksI nz mk28 (fun _ _ h => h.pick [1, 1, 1]) rfl rfl rfl rfl (rfl) (by omega) (fun bkm4 hbkm4 => ?_)
 refine bld rfl rfl rfl (bld158_0_2_3 (.slice az nz cz) (.slice aws nws cws) (.slice avs nvs cvs) (.slice aps nps cps) (.slice aqs nqs cqs) (.slice _ _ _) rfl rfl rfl rfl rfl rfl) ?_
 refine box (fun _ _ h => h.pick [2, 2, 2]) rfl rfl rfl rfl (fun bkb5 hbkb5 => ?_)
 refine asn rfl rfl rfl ?_
 refine rNil ?_
 refine qSeq rfl ?_
 refine hSeq ?_
 refine hSeq ?_
 refine hReg (sq 0 sz) (by kernel_rfl) ?_
 refine mvI rfl rfl rfl ?_
 refine rNil ?_
 refine qSeq rfl ?_
 refine hBlk ?_
 refine hPieces (fun _ h => Sep.nilI 3 h) ?_
 refine hPieces (fun _ h => Sep.nilI 3 h) ?_
 refine hLoop (α := Nat × Hd × Nat × List Int × Hd × Nat × List Int) (fun x => x.1 ≤ 2 ∧ (1 ≤ x.1 → x.2.2.1 = nz ∧ x.2.2.2.1 = Math.firstOf z nws 0) ∧ (2 ≤ x.1 → x.2.2.2.2.2.1 = nz ∧ x.2.2.2.2.2.2 = Math.firstOf z nws 1)) (fun x => 2 - x.1) (fun x => [OwnI 3 x.2.2.2.2.1.1 x.2.2.2.2.2.1 x.2.2.2.2.1.2 x.2.2.2.2.2.2, OwnI 3 x.2.1.1 x.2.2.1 x.2.1.2 x.2.2.2.1, blk bkb5 158 [.slice az nz cz, .slice aws nws cws, .slice avs nvs cvs, .slice x.2.1.1 x.2.2.1 x.2.1.2, .slice x.2.2.2.2.1.1 x.2.2.2.2.2.1 x.2.2.2.2.1.2, .slice aps nps cps, .slice aqs nqs cqs, .slice (some ⟨bkm4, 0, none⟩) nz nz], OwnI 2 (some ⟨bkm4, 0, none⟩) nz nz (List.replicate nz 0), blk bkb3 56 [.int .i64 ql, .slice aqs nqs cqs], blk bkb2 56 [.int .i64 pl, .slice aps nps cps], blk bkb1 43 [.slice az nz cz, .slice aws nws cws, .slice avs nvs cvs]]) (fun x => [(3, .pointer (some ⟨bkb1, 0, none⟩)), (7, .pointer (some ⟨bkb5, 0, none⟩)), (28, .int .i64 (x.1 : Int))]) ((0, (none, 0), 0, [], (none, 0), 0, [])) ⟨by decide, fun h => absurd h (by decide), fun h => absurd h (by decide)⟩ (fun _ h => h.pick [0, 0, 0, 0, 0, 0, 0]) ⟨rfl, rfl, rfl, trivial⟩ ?_
 rintro ⟨i, h0, n0, z0, h1, n1, z1⟩ τ1 ⟨hi, hq0, hq1⟩
 dsimp only at hi hq0 hq1
 refine hRe [(3, .pointer (some ⟨bkb1, 0, none⟩)), (7, .pointer (some ⟨bkb5, 0, none⟩)), (28, .int .i64 (i : Int))] [OwnI 3 h1.1 n1 h1.2 z1, OwnI 3 h0.1 n0 h0.2 z0, blk bkb5 158 [.slice az nz cz, .slice aws nws cws, .slice avs nvs cvs, .slice h0.1 n0 h0.2, .slice h1.1 n1 h1.2, .slice aps nps cps, .slice aqs nqs cqs, .slice (some ⟨bkm4, 0, none⟩) nz nz], OwnI 2 (some ⟨bkm4, 0, none⟩) nz nz (List.replicate nz 0), blk bkb3 56 [.int .i64 ql, .slice aqs nqs cqs], blk bkb2 56 [.int .i64 pl, .slice aps nps cps], blk bkb1 43 [.slice az nz cz, .slice aws nws cws, .slice avs nvs cvs]] rfl rfl ?_
 refine hSeq ?_
 refine hReg (sq 0 sz) (by kernel_rfl) ?_
 refine lss rfl rfl rfl rfl ?_
 refine rNil ?_
 refine qSeq rfl ?_
 refine hSeq ?_
 refine hIfD rfl (fun c1 => ?_) (fun c1 => ?_)
 ·
  replace c1 : (i : Int) < 2 := c1
  rcases (show i = 0 ∨ i = 1 by omega) with rfl | rfl
  ·
   refine hSkip ?_
   refine qSeq rfl ?_
   refine hSeq ?_
   refine hBlk ?_
   refine hSeq ?_
   refine hReg (sq 0 (sq 1 sz)) (by kernel_rfl) ?_
   refine mvI rfl rfl rfl ?_
   refine asI rfl rfl rfl ?_
   refine rNil ?_
   refine qSeq rfl ?_
   refine hSeq ?_
   refine hDraw (Ls := [blk bkb1 43 [.slice az nz cz, .slice aws nws cws, .slice avs nvs cvs]]) (by kernel_rfl) (sq 0 (sq 1 (sq 2 (sq 3 (sq 4 (sq 5 (sq 7 (sq 8 (sl 6 (sq 9 (sl 10 sz))))))))))) (by kernel_rfl) (.cons _ (.cons _ (.cons _ (.cons _ (.cons _ (.cons _ (.cons_cons _ .slnil))))))) ?_
   refine mvP rfl rfl rfl ?_
   refine mvI rfl rfl rfl ?_
   refine fld fl43_0 rfl rfl rfl ?_
   refine fld fl26_0 rfl rfl rfl ?_
   refine ldq Try.isAgg24 (cB 0 rfl rfl) rfl rfl rfl ?_
   refine lenS Try.runUnderlying24 rfl rfl rfl ?_
   refine nilc rfl rfl rfl ?_
   refine fld fl158_1 rfl rfl rfl ?_
   refine mksI nz mk103 (fun _ _ h => h.pick [7]) rfl rfl rfl rfl (rfl) (by omega) (fun bkm8 hbkm8 => ?_)
   refine ixA (z := 0) ar156 rfl rfl rfl rfl (by decide) ?_
   refine stl (v := .slice _ _ _) 3 rfl Try.sizeOf103 (fun _ h => h.pick [7]) rfl rfl rfl rfl rfl (Nat.le_of_ble_eq_true rfl) ?_
   refine rNil ?_
   refine qSeq rfl ?_
   refine hSeq ?_
   refine hReg (sq 0 (sl 1 (sq 2 (sl 3 (sq 4 (sq 5 sz)))))) (by kernel_rfl) ?_
   refine fld fl43_0 rfl rfl rfl ?_
   refine ldAl Try.isAgg26 Try.sizeOf26 (cBp (m := 1) 7 rfl rfl) trv rfl rfl rfl rfl ?_
   refine mvI rfl rfl rfl ?_
   refine callS Try.call93 trv1 rfl rfl (fun w hs => impl_nodesOf_c _ nz cz _ _ _ w (Kn.drop (k := 8) kz w hs) (by omega)) ?_
   rintro ⟨ay1, ny1, cy1, y1⟩ hr1
   dsimp only at hr1
   subst y1
   refine rKnow (fun w hs => (show OwnI 2 ay1 ny1 cy1 (((Math.nodesOf z (0 : Int)))) w from hs.at_ 0 rfl).lenz) (fun lenn9 => ?_)
   refine lenS Try.runUnderlying28 rfl rfl rfl ?_
   refine mvI rfl rfl rfl ?_
   refine rNil ?_
   refine qSeq rfl ?_
   refine hBlk ?_
   refine hLoop (α := Nat) (fun j => j ≤ ny1) (fun j => ny1 - j) (fun j => [OwnI 2 ay1 ny1 cy1 (((Math.nodesOf z (0 : Int)))), OwnI 3 (some ⟨bkm8, 0, none⟩) nz nz (Math.firstTo z nws 0 j), OwnI 3 h1.1 n1 h1.2 z1, OwnI 3 h0.1 n0 h0.2 z0, blk bkb5 158 [.slice az nz cz, .slice aws nws cws, .slice avs nvs cvs, .slice (some ⟨bkm8, 0, none⟩) nz nz, .slice h1.1 n1 h1.2, .slice aps nps cps, .slice aqs nqs cqs, .slice (some ⟨bkm4, 0, none⟩) nz nz], OwnI 2 (some ⟨bkm4, 0, none⟩) nz nz (List.replicate nz 0), blk bkb3 56 [.int .i64 ql, .slice aqs nqs cqs], blk bkb2 56 [.int .i64 pl, .slice aps nps cps], blk bkb1 43 [.slice az nz cz, .slice aws nws cws, .slice avs nvs cvs]]) (fun j => [(3, .pointer (some ⟨bkb1, 0, none⟩)), (7, .pointer (some ⟨bkb5, 0, none⟩)), (8, .int .i64 0), (28, .int .i64 0), (44, .slice ay1 ny1 cy1), (45, .int .i64 (ny1 : Int)), (46, .int .i64 (j : Int))]) 0 (Nat.zero_le _) (fun _ h => (by simp only [Math.firstTo_0 lz]; exact h.pick [0, 0, 0, 0, 0, 0, 0, 0, 0])) ⟨rfl, rfl, rfl, rfl, rfl, rfl, rfl, trivial⟩ ?_
   rintro j τ2 hj
   refine hSeq ?_
   refine hReg (sq 0 sz) (by kernel_rfl) ?_
   refine lss rfl rfl rfl rfl ?_
   refine rNil ?_
   refine qSeq rfl ?_
   refine hSeq ?_
   refine hIfD rfl (fun c2 => ?_) (fun c2 => ?_)
   ·
    replace c2 : (j : Int) < (ny1 : Int) := c2
    have hnm := (Math.nodesOf_mem (Math.getD_mem 0 (show j < (Math.nodesOf z 0).length by omega))).1
    have hnl := Math.nodesOf_len z 0
    have hjk := Math.mul_bd (a := (j : Int)) (A := 60) (b := (nws : Int)) (B := 6) (by omega) (by omega) (by omega) (by omega)
    refine hSkip ?_
    refine qSeq rfl ?_
    refine hSeq ?_
    refine hBlk ?_
    refine hSeq ?_
    refine hReg (sq 0 (sq 1 (sl 2 (sq 3 (sq 4 sz))))) (by kernel_rfl) ?_
    refine mvI rfl rfl rfl ?_
    refine ixIl (zn := j) el28 ((Kn.at_ 0 rfl).imp fun _ h => OwnI.rd h) rfl rfl rfl rfl (by omega) (by omega) rfl ?_
    intro ae2 e2
    refine ldl Try.isAgg2 (e2) trv rfl rfl rfl ?_
    refine asI rfl rfl rfl ?_
    refine asI rfl rfl rfl ?_
    refine rNil ?_
    refine qSeq rfl ?_
    refine hDraw (Ls := [blk bkb5 158 [.slice az nz cz, .slice aws nws cws, .slice avs nvs cvs, .slice (some ⟨bkm8, 0, none⟩) nz nz, .slice h1.1 n1 h1.2, .slice aps nps cps, .slice aqs nqs cqs, .slice (some ⟨bkm4, 0, none⟩) nz nz], blk bkb1 43 [.slice az nz cz, .slice aws nws cws, .slice avs nvs cvs]]) (by kernel_rfl) (sq 0 (sq 1 (sq 2 (sq 3 (sq 4 (sq 5 (sq 6 (sq 7 (sq 8 (sq 9 (sq 10 (sq 11 (sq 12 (sf 13 sz)))))))))))))) (by kernel_rfl) (.cons _ (.cons _ (.cons _ (.cons _ (.cons_cons _ (.cons _ (.cons _ (.cons _ (.cons_cons _ .slnil))))))))) ?_
    refine mvP rfl rfl rfl ?_
    refine mvI rfl rfl rfl ?_
    refine nilc rfl rfl rfl ?_
    refine fld fl158_1 rfl rfl rfl ?_
    refine ixA (z := 0) ar156 rfl rfl rfl rfl (by decide) ?_
    refine ldq Try.isAgg103 (cB 0 rfl rfl) rfl rfl rfl ?_
    refine mvI rfl rfl rfl ?_
    refine mvI rfl rfl rfl ?_
    refine fld fl43_1 rfl rfl rfl ?_
    refine ldq Try.isAgg41 (cB 1 rfl rfl) rfl rfl rfl ?_
    refine lenS Try.runUnderlying41 rfl rfl rfl ?_
    refine mul rfl rfl rfl rfl (by omega) ?_
    refine oxI (zn := (((((Math.nodesOf z (0 : Int)))).getD j 0)).toNat) 1 rfl el103 rfl rfl rfl rfl (by omega) (by omega) rfl ?_
    intro gk3 hgk3
    refine stoIF (off := (((((Math.nodesOf z (0 : Int)))).getD j 0)).toNat) (x := ((j : Int) * (nws : Int))) 1 rfl hgk3 Try.sizeOf3 rfl rfl rfl rfl (by omega) ?_
    refine rNil ?_
    refine qSeq rfl ?_
    refine hReg (sq 0 (sq 1 sz)) (by kernel_rfl) ?_
    refine add rfl rfl rfl rfl (by omega) ?_
    refine mvI rfl rfl rfl ?_
    refine rNil ?_
    rw [Math.firstTo_s]
    exact qNext rfl (j + 1) (by omega) (by omega) ⟨rfl, rfl, rfl, rfl, rfl, rfl, rfl, trivial⟩ (fun _ h => h.pick [0, 0, 0, 0, 0, 0, 0, 0, 0])
   ·
    replace c2 : ¬ ((j : Int) < (ny1 : Int)) := c2
    rw [Math.firstTo_e (show (Math.nodesOf z 0).length = j by omega)]
    refine hExit rfl ?_
    refine qSeq rfl ?_
    refine hReg (sq 0 (sq 1 sz)) (by kernel_rfl) ?_
    refine add rfl rfl rfl rfl (by omega) ?_
    refine mvI rfl rfl rfl ?_
    refine rNil ?_
    exact qNext rfl ((1, ((some ⟨bkm8, 0, none⟩), nz), nz, (Math.firstOf z nws 0), h1, n1, z1)) (by dsimp only; omega) (⟨by dsimp only; omega, fun _ => ⟨rfl, rfl⟩, fun h => absurd h (by dsimp only; omega)⟩) ⟨rfl, rfl, rfl, trivial⟩ (fun _ h => h.pick [2, 1, 2, 2, 2, 2, 2])
  ·
   refine hSkip ?_
   refine qSeq rfl ?_
   refine hSeq ?_
   refine hBlk ?_
   refine hSeq ?_
   refine hReg (sq 0 (sq 1 sz)) (by kernel_rfl) ?_
   refine mvI rfl rfl rfl ?_
   refine asI rfl rfl rfl ?_
   refine rNil ?_
   refine qSeq rfl ?_
   refine hSeq ?_
   refine hDraw (Ls := [blk bkb1 43 [.slice az nz cz, .slice aws nws cws, .slice avs nvs cvs]]) (by kernel_rfl) (sq 0 (sq 1 (sq 2 (sq 3 (sq 4 (sq 5 (sq 7 (sq 8 (sl 6 (sq 9 (sl 10 sz))))))))))) (by kernel_rfl) (.cons _ (.cons _ (.cons _ (.cons _ (.cons _ (.cons _ (.cons_cons _ .slnil))))))) ?_
   refine mvP rfl rfl rfl ?_
   refine mvI rfl rfl rfl ?_
   refine fld fl43_0 rfl rfl rfl ?_
   refine fld fl26_0 rfl rfl rfl ?_
   refine ldq Try.isAgg24 (cB 0 rfl rfl) rfl rfl rfl ?_
   refine lenS Try.runUnderlying24 rfl rfl rfl ?_
   refine nilc rfl rfl rfl ?_
   refine fld fl158_1 rfl rfl rfl ?_
   refine mksI nz mk103 (fun _ _ h => h.pick [7]) rfl rfl rfl rfl (rfl) (by omega) (fun bkm10 hbkm10 => ?_)
   refine ixA (z := 1) ar156 rfl rfl rfl rfl (by decide) ?_
   refine stl (v := .slice _ _ _) 3 rfl Try.sizeOf103 (fun _ h => h.pick [7]) rfl rfl rfl rfl rfl (Nat.le_of_ble_eq_true rfl) ?_
   refine rNil ?_
   refine qSeq rfl ?_
   refine hSeq ?_
   refine hReg (sq 0 (sl 1 (sq 2 (sl 3 (sq 4 (sq 5 sz)))))) (by kernel_rfl) ?_
   refine fld fl43_0 rfl rfl rfl ?_
   refine ldAl Try.isAgg26 Try.sizeOf26 (cBp (m := 1) 7 rfl rfl) trv rfl rfl rfl rfl ?_
   refine mvI rfl rfl rfl ?_
   refine callS Try.call93 trv1 rfl rfl (fun w hs => impl_nodesOf_c _ nz cz _ _ _ w (Kn.drop (k := 8) kz w hs) (by omega)) ?_
   rintro ⟨ay4, ny4, cy4, y4⟩ hr4
   dsimp only at hr4
   subst y4
   refine rKnow (fun w hs => (show OwnI 2 ay4 ny4 cy4 (((Math.nodesOf z (1 : Int)))) w from hs.at_ 0 rfl).lenz) (fun lenn11 => ?_)
   refine lenS Try.runUnderlying28 rfl rfl rfl ?_
   refine mvI rfl rfl rfl ?_
   refine rNil ?_
   refine qSeq rfl ?_
   refine hBlk ?_
   refine hLoop (α := Nat) (fun j => j ≤ ny4) (fun j => ny4 - j) (fun j => [OwnI 2 ay4 ny4 cy4 (((Math.nodesOf z (1 : Int)))), OwnI 3 (some ⟨bkm10, 0, none⟩) nz nz (Math.firstTo z nws 1 j), OwnI 3 h1.1 n1 h1.2 z1, OwnI 3 h0.1 n0 h0.2 z0, blk bkb5 158 [.slice az nz cz, .slice aws nws cws, .slice avs nvs cvs, .slice h0.1 n0 h0.2, .slice (some ⟨bkm10, 0, none⟩) nz nz, .slice aps nps cps, .slice aqs nqs cqs, .slice (some ⟨bkm4, 0, none⟩) nz nz], OwnI 2 (some ⟨bkm4, 0, none⟩) nz nz (List.replicate nz 0), blk bkb3 56 [.int .i64 ql, .slice aqs nqs cqs], blk bkb2 56 [.int .i64 pl, .slice aps nps cps], blk bkb1 43 [.slice az nz cz, .slice aws nws cws, .slice avs nvs cvs]]) (fun j => [(3, .pointer (some ⟨bkb1, 0, none⟩)), (7, .pointer (some ⟨bkb5, 0, none⟩)), (8, .int .i64 1), (28, .int .i64 1), (44, .slice ay4 ny4 cy4), (45, .int .i64 (ny4 : Int)), (46, .int .i64 (j : Int))]) 0 (Nat.zero_le _) (fun _ h => (by simp only [Math.firstTo_0 lz]; exact h.pick [0, 0, 0, 0, 0, 0, 0, 0, 0])) ⟨rfl, rfl, rfl, rfl, rfl, rfl, rfl, trivial⟩ ?_
   rintro j τ3 hj
   refine hSeq ?_
   refine hReg (sq 0 sz) (by kernel_rfl) ?_
   refine lss rfl rfl rfl rfl ?_
   refine rNil ?_
   refine qSeq rfl ?_
   refine hSeq ?_
   refine hIfD rfl (fun c3 => ?_) (fun c3 => ?_)
   ·
    replace c3 : (j : Int) < (ny4 : Int) := c3
    have hnm := (Math.nodesOf_mem (Math.getD_mem 0 (show j < (Math.nodesOf z 1).length by omega))).1
    have hnl := Math.nodesOf_len z 1
    have hjk := Math.mul_bd (a := (j : Int)) (A := 60) (b := (nws : Int)) (B := 6) (by omega) (by omega) (by omega) (by omega)
    refine hSkip ?_
    refine qSeq rfl ?_
    refine hSeq ?_
    refine hBlk ?_
    refine hSeq ?_
    refine hReg (sq 0 (sq 1 (sl 2 (sq 3 (sq 4 sz))))) (by kernel_rfl) ?_
    refine mvI rfl rfl rfl ?_
    refine ixIl (zn := j) el28 ((Kn.at_ 0 rfl).imp fun _ h => OwnI.rd h) rfl rfl rfl rfl (by omega) (by omega) rfl ?_
    intro ae5 e5
    refine ldl Try.isAgg2 (e5) trv rfl rfl rfl ?_
    refine asI rfl rfl rfl ?_
    refine asI rfl rfl rfl ?_
    refine rNil ?_
    refine qSeq rfl ?_
    refine hDraw (Ls := [blk bkb5 158 [.slice az nz cz, .slice aws nws cws, .slice avs nvs cvs, .slice h0.1 n0 h0.2, .slice (some ⟨bkm10, 0, none⟩) nz nz, .slice aps nps cps, .slice aqs nqs cqs, .slice (some ⟨bkm4, 0, none⟩) nz nz], blk bkb1 43 [.slice az nz cz, .slice aws nws cws, .slice avs nvs cvs]]) (by kernel_rfl) (sq 0 (sq 1 (sq 2 (sq 3 (sq 4 (sq 5 (sq 6 (sq 7 (sq 8 (sq 9 (sq 10 (sq 11 (sq 12 (sf 13 sz)))))))))))))) (by kernel_rfl) (.cons _ (.cons _ (.cons _ (.cons _ (.cons_cons _ (.cons _ (.cons _ (.cons _ (.cons_cons _ .slnil))))))))) ?_
    refine mvP rfl rfl rfl ?_
    refine mvI rfl rfl rfl ?_
    refine nilc rfl rfl rfl ?_
    refine fld fl158_1 rfl rfl rfl ?_
    refine ixA (z := 1) ar156 rfl rfl rfl rfl (by decide) ?_
    refine ldq Try.isAgg103 (cB 0 rfl rfl) rfl rfl rfl ?_
    refine mvI rfl rfl rfl ?_
    refine mvI rfl rfl rfl ?_
    refine fld fl43_1 rfl rfl rfl ?_
    refine ldq Try.isAgg41 (cB 1 rfl rfl) rfl rfl rfl ?_
    refine lenS Try.runUnderlying41 rfl rfl rfl ?_
    refine mul rfl rfl rfl rfl (by omega) ?_
    refine oxI (zn := (((((Math.nodesOf z (1 : Int)))).getD j 0)).toNat) 1 rfl el103 rfl rfl rfl rfl (by omega) (by omega) rfl ?_
    intro gk6 hgk6
    refine stoIF (off := (((((Math.nodesOf z (1 : Int)))).getD j 0)).toNat) (x := ((j : Int) * (nws : Int))) 1 rfl hgk6 Try.sizeOf3 rfl rfl rfl rfl (by omega) ?_
    refine rNil ?_
    refine qSeq rfl ?_
    refine hReg (sq 0 (sq 1 sz)) (by kernel_rfl) ?_
    refine add rfl rfl rfl rfl (by omega) ?_
    refine mvI rfl rfl rfl ?_
    refine rNil ?_
    rw [Math.firstTo_s]
    exact qNext rfl (j + 1) (by omega) (by omega) ⟨rfl, rfl, rfl, rfl, rfl, rfl, rfl, trivial⟩ (fun _ h => h.pick [0, 0, 0, 0, 0, 0, 0, 0, 0])
   ·
    replace c3 : ¬ ((j : Int) < (ny4 : Int)) := c3
    rw [Math.firstTo_e (show (Math.nodesOf z 1).length = j by omega)]
    refine hExit rfl ?_
    refine qSeq rfl ?_
    refine hReg (sq 0 (sq 1 sz)) (by kernel_rfl) ?_
    refine add rfl rfl rfl rfl (by omega) ?_
    refine mvI rfl rfl rfl ?_
    refine rNil ?_
    exact qNext rfl ((2, h0, n0, z0, ((some ⟨bkm10, 0, none⟩), nz), nz, (Math.firstOf z nws 1))) (by dsimp only; omega) (⟨by dsimp only; omega, fun _ => hq0 (by omega), fun _ => ⟨rfl, rfl⟩⟩) ⟨rfl, rfl, rfl, trivial⟩ (fun _ h => h.pick [1, 2, 2, 2, 2, 2, 2])
 ·
  replace c1 : ¬ ((i : Int) < 2) := c1
  refine hExit rfl ?_
  refine qSeq rfl ?_
  refine hSeq ?_
  refine hSeq ?_
  refine hReg (sq 0 (sq 1 (sl 2 (sq 3 (sq 4 sz))))) (by kernel_rfl) ?_
  refine fld fl43_0 rfl rfl rfl ?_
  refine fld fl26_0 rfl rfl rfl ?_
  refine ldl Try.isAgg24 (cB 6 rfl rfl) trv rfl rfl rfl ?_
  refine lenS Try.runUnderlying24 rfl rfl rfl ?_
  refine mvI rfl rfl rfl ?_
  refine rNil ?_
  refine qSeq rfl ?_
  refine hBlk ?_
  refine hLoop (α := Nat) (fun i2 => i2 ≤ nz) (fun i2 => nz - i2) (fun i2 => [OwnI 3 h1.1 n1 h1.2 z1, OwnI 3 h0.1 n0 h0.2 z0, blk bkb5 158 [.slice az nz cz, .slice aws nws cws, .slice avs nvs cvs, .slice h0.1 n0 h0.2, .slice h1.1 n1 h1.2, .slice aps nps cps, .slice aqs nqs cqs, .slice (some ⟨bkm4, 0, none⟩) nz nz], OwnI 2 (some ⟨bkm4, 0, none⟩) nz nz (Math.parTo z i2), blk bkb3 56 [.int .i64 ql, .slice aqs nqs cqs], blk bkb2 56 [.int .i64 pl, .slice aps nps cps], blk bkb1 43 [.slice az nz cz, .slice aws nws cws, .slice avs nvs cvs]]) (fun i2 => [(7, .pointer (some ⟨bkb5, 0, none⟩)), (68, .slice az nz cz), (69, .int .i64 (nz : Int)), (70, .int .i64 (i2 : Int))]) 0 (Nat.zero_le _) (fun _ h => (by simp only [Math.parTo_0 lz]; exact h.pick [0, 0, 0, 0, 0, 0, 0])) ⟨rfl, rfl, rfl, rfl, trivial⟩ ?_
  rintro i2 τ4 hi2
  refine hSeq ?_
  refine hReg (sq 0 sz) (by kernel_rfl) ?_
  refine lss rfl rfl rfl rfl ?_
  refine rNil ?_
  refine qSeq rfl ?_
  refine hSeq ?_
  refine hIfD rfl (fun c4 => ?_) (fun c4 => ?_)
  ·
   replace c4 : (i2 : Int) < (nz : Int) := c4
   refine hSkip ?_
   refine qSeq rfl ?_
   refine hSeq ?_
   refine hBlk ?_
   refine hSeq ?_
   refine hReg (sq 0 (sq 1 (sl 2 (sl 3 (sq 4 (sl 5 sz)))))) (by kernel_rfl) ?_
   refine mvI rfl rfl rfl ?_
   refine ixRl (zn := i2) (z.getD i2 dN) el24 (Kn.drop (k := 7) kz) rfl rfl rfl rfl (by omega) (by omega) rfl (nth dN (by omega)) ?_
   intro be7 oe7 e7
   refine ldAl Try.isAgg88 Try.sizeOf88 (e7) trv rfl rfl rfl rfl ?_
   refine alc Try.zeroValue88 rfl trv1 rfl rfl (fun bka12 hbka12 => ?_)
   refine asI rfl rfl rfl ?_
   refine stAl (vs := [.int .i64 ((z.getD i2 dN).pl), .int .i64 ((z.getD i2 dN).p0), .int .i64 ((z.getD i2 dN).p1), .int .i64 ((z.getD i2 dN).fo), .slice ((Hz i2).1) (((z.getD i2 dN).ch).length) ((Hz i2).2)]) 0 rfl Try.sizeOf88 trv rfl rfl rfl rfl rfl (by simp [Value.oneCell']) rfl ?_
   refine rNil ?_
   refine qSeq rfl ?_
   refine hSeq ?_
   refine hReg (sq 0 (sl 1 (sq 2 (sq 3 sz)))) (by kernel_rfl) ?_
   refine fld fl88_4 rfl rfl rfl ?_
   refine ldl Try.isAgg28 (cB 0 rfl rfl) trv rfl rfl rfl ?_
   refine lenS Try.runUnderlying28 rfl rfl rfl ?_
   refine mvI rfl rfl rfl ?_
   refine rNil ?_
   refine qSeq rfl ?_
   refine hBlk ?_
   refine hLoop (α := Nat) (fun j2 => j2 ≤ (z.getD i2 dN).ch.length) (fun j2 => (z.getD i2 dN).ch.length - j2) (fun j2 => [blk bka12 88 [.int .i64 ((z.getD i2 dN).pl), .int .i64 ((z.getD i2 dN).p0), .int .i64 ((z.getD i2 dN).p1), .int .i64 ((z.getD i2 dN).fo), .slice ((Hz i2).1) (((z.getD i2 dN).ch).length) ((Hz i2).2)], OwnI 3 h1.1 n1 h1.2 z1, OwnI 3 h0.1 n0 h0.2 z0, blk bkb5 158 [.slice az nz cz, .slice aws nws cws, .slice avs nvs cvs, .slice h0.1 n0 h0.2, .slice h1.1 n1 h1.2, .slice aps nps cps, .slice aqs nqs cqs, .slice (some ⟨bkm4, 0, none⟩) nz nz], OwnI 2 (some ⟨bkm4, 0, none⟩) nz nz ((Math.putAll (Math.parTo z i2) (i2 : Int) ((z.getD i2 dN).ch.take j2))), blk bkb3 56 [.int .i64 ql, .slice aqs nqs cqs], blk bkb2 56 [.int .i64 pl, .slice aps nps cps], blk bkb1 43 [.slice az nz cz, .slice aws nws cws, .slice avs nvs cvs]]) (fun j2 => [(7, .pointer (some ⟨bkb5, 0, none⟩)), (11, .int .i64 (i2 : Int)), (68, .slice az nz cz), (69, .int .i64 (nz : Int)), (70, .int .i64 (i2 : Int)), (76, .slice ((Hz i2).1) (((z.getD i2 dN).ch).length) ((Hz i2).2)), (77, .int .i64 (((((z.getD i2 dN).ch).length : Nat) : Int))), (78, .int .i64 (j2 : Int))]) 0 (Nat.zero_le _) (fun _ h => (by simp only [List.take_zero, Math.putAll_nil]; exact h.pick [0, 0, 0, 0, 0, 0, 0, 0])) ⟨rfl, rfl, rfl, rfl, rfl, rfl, rfl, rfl, trivial⟩ ?_
   rintro j2 τ5 hj2
   refine hSeq ?_
   refine hReg (sq 0 sz) (by kernel_rfl) ?_
   refine lss rfl rfl rfl rfl ?_
   refine rNil ?_
   refine qSeq rfl ?_
   refine hSeq ?_
   refine hIfD rfl (fun c5 => ?_) (fun c5 => ?_)
   ·
    replace c5 : (j2 : Int) < ((((z.getD i2 dN).ch).length : Nat) : Int) := c5
    have hcl := (Math.ok_pl ((Math.allOk_iff' lz).1 hT.2.1 i2 (by omega))).2.2.2.2.1
    have hck := Math.ok_kid ((Math.allOk_iff' lz).1 hT.2.1 i2 (by omega)) (Math.getD_mem 0 (show j2 < (z.getD i2 dN).ch.length by omega))
    refine hSkip ?_
    refine qSeq rfl ?_
    refine hSeq ?_
    refine hBlk ?_
    refine hSeq ?_
    refine hReg (sq 0 (sl 1 (sq 2 sz))) (by kernel_rfl) ?_
    refine ixIl (zn := j2) el28 (Kn.drop (k := 8) ((Kn.imp kz fun _ h => h.kidN (nth dN (by omega))))) rfl rfl rfl rfl (by omega) (by omega) rfl ?_
    intro ae8 e8
    refine ldl Try.isAgg2 (e8) trv rfl rfl rfl ?_
    refine asI rfl rfl rfl ?_
    refine rNil ?_
    refine qSeq rfl ?_
    refine hReg (sq 0 (sq 1 (sq 2 (sl 3 (sq 4 (sq 5 (sq 6 (sl 7 sz)))))))) (by kernel_rfl) ?_
    refine mvP rfl rfl rfl ?_
    refine nilc rfl rfl rfl ?_
    refine fld fl158_3 rfl rfl rfl ?_
    refine ldl Try.isAgg28 (cB 3 rfl rfl) trv rfl rfl rfl ?_
    refine mvI rfl rfl rfl ?_
    refine mvI rfl rfl rfl ?_
    refine oxI (zn := ((((z.getD i2 dN).ch).getD j2 0)).toNat) 4 rfl el28 rfl rfl rfl rfl (by omega) (by omega) rfl ?_
    intro gk9 hgk9
    refine stoI (off := ((((z.getD i2 dN).ch).getD j2 0)).toNat) (x := (i2 : Int)) 4 rfl hgk9 Try.sizeOf2 trv rfl rfl rfl rfl (by omega) ?_
    refine rNil ?_
    refine qSeq rfl ?_
    refine hReg (sq 0 (sq 1 sz)) (by kernel_rfl) ?_
    refine add rfl rfl rfl rfl (by omega) ?_
    refine mvI rfl rfl rfl ?_
    refine rNil ?_
    rw [Math.putAll_step (by omega)]
    exact qNext rfl (j2 + 1) (by omega) (by omega) ⟨rfl, rfl, rfl, rfl, rfl, rfl, rfl, rfl, trivial⟩ (fun _ h => h.pick [0, 0, 0, 0, 0, 0, 0, 0])
   ·
    replace c5 : ¬ ((j2 : Int) < ((((z.getD i2 dN).ch).length : Nat) : Int)) := c5
    rw [Math.parTo_s (show (z.getD i2 dN).ch.length ≤ j2 by omega)]
    refine hExit rfl ?_
    refine qSeq rfl ?_
    refine hReg (sq 0 (sq 1 sz)) (by kernel_rfl) ?_
    refine add rfl rfl rfl rfl (by omega) ?_
    refine mvI rfl rfl rfl ?_
    refine rNil ?_
    exact qNext rfl (i2 + 1) (by omega) (by omega) ⟨rfl, rfl, rfl, rfl, trivial⟩ (fun _ h => h.pick [1, 1, 1, 1, 1, 1, 1])
  ·
   replace c4 : ¬ ((i2 : Int) < (nz : Int)) := c4
   rw [Math.parTo_e (show z.length = i2 by omega)]
   refine hExit rfl ?_
   refine qSeq rfl ?_
   refine hSeq ?_
   refine hReg (sq 0 (sq 1 sz)) (by kernel_rfl) ?_
   refine mvP rfl rfl rfl ?_
   refine asn rfl rfl rfl ?_
   refine rNil ?_
   refine qSeq rfl ?_
   refine hRet ?_
   exact fun w hs => ⟨[.pointer (some ⟨bkb5, 0, none⟩)], ⟨rfl, trivial⟩, ⟨(bkb5, h0.1, n0, h0.2, z0, h1.1, n1, h1.2, z1, (some ⟨bkm4, 0, none⟩), nz, nz, (Math.parOf z)), rfl, ⟨(hq0 (by omega)).2, (hq1 (by omega)).2, rfl⟩, hs.pick [2, 1, 0, 0]⟩⟩
theorem impl_evaluator_partsAt_c (be : Nat) (az : Option Addr) (nz : Nat) (cz : Nat) (Hz : Nat → Hd) (z : List Nd) (aws : Option Addr) (nws : Nat) (cws : Nat) (Hws : Nat → Hd) (ws : List (List Int)) (avs : Option Addr) (nvs : Nat) (cvs : Nat) (Hvs : Nat → Hd) (vs : List (List Int)) (af0 : Option Addr) (nf0 : Nat) (cf0 : Nat) (f0 : List Int) (af1 : Option Addr) (nf1 : Nat) (cf1 : Nat) (f1 : List Int) (aps : Option Addr) (nps : Nat) (cps : Nat) (Hps : Nat → Hd) (ps : List (List Int)) (aqs : Option Addr) (nqs : Nat) (cqs : Nat) (Hqs : Nat → Hd) (qs : List (List Int)) (apr : Option Addr) (npr : Nat) (cpr : Nat) (pr : List Int) (u : Int) (a : Int) (b : Int) (w : World) (rbe : RdB be [.slice az nz cz, .slice aws nws cws, .slice avs nvs cvs, .slice af0 nf0 cf0, .slice af1 nf1 cf1, .slice aps nps cps, .slice aqs nqs cqs, .slice apr npr cpr] w) (rz : RdR ndK az nz Hz z w) (rws : RdR maK aws nws Hws ws w) (rvs : RdR maK avs nvs Hvs vs w) (rf0 : RdI af0 nf0 f0 w) (rf1 : RdI af1 nf1 f1 w) (rps : RdR maK aps nps Hps ps w) (rqs : RdR maK aqs nqs Hqs qs w) (rpr : RdI apr npr pr w) (hP : Math.Pair z ws vs ps qs) (hf0 : f0 = Math.firstOf z nws 0) (hf1 : f1 = Math.firstOf z nws 1) (hpr : pr = Math.parOf z) (hv : 0 ≤ u ∧ u < (nz : Int)) (hpl : (z.getD u.toNat dN).pl ≠ 2) (ha : 0 ≤ a ∧ a < (nws : Int)) (hb : 0 ≤ b ∧ b < (nws : Int)) :
  Calls Try.prog 177 #[.pointer (some ⟨be, 0, none⟩), .int .i64 u, .int .i64 a, .int .i64 b] w (Ret fun v w' => v = .slice ((Math.chA z nws Hps Hqs u a b).1) ((Math.choice z nws ps qs u a b).length) ((Math.chA z nws Hps Hqs u a b).2) ∧ Ext w w') := by
 have kbe : Kn w none_ [] (RdB be [.slice az nz cz, .slice aws nws cws, .slice avs nvs cvs, .slice af0 nf0 cf0, .slice af1 nf1 cf1, .slice aps nps cps, .slice aqs nqs cqs, .slice apr npr cpr]) := fun w' hs => rbe.ext hs.upd
 have kz : Kn w none_ [] (RdR ndK az nz Hz z) := fun w' hs => rz.ext hs.upd
 have lz : z.length = nz := rz.1
 have mz : nz ≤ 9223372036854775807 := rz.2.1
 have kws : Kn w none_ [] (RdR maK aws nws Hws ws) := fun w' hs => rws.ext hs.upd
 have lws : ws.length = nws := rws.1
 have mws : nws ≤ 9223372036854775807 := rws.2.1
 have kvs : Kn w none_ [] (RdR maK avs nvs Hvs vs) := fun w' hs => rvs.ext hs.upd
 have lvs : vs.length = nvs := rvs.1
 have mvs : nvs ≤ 9223372036854775807 := rvs.2.1
 have kf0 : Kn w none_ [] (RdI af0 nf0 f0) := fun w' hs => rf0.ext hs.upd
 have lf0 : f0.length = nf0 := rf0.1
 have mf0 : nf0 ≤ 9223372036854775807 := rf0.2.1
 have kf1 : Kn w none_ [] (RdI af1 nf1 f1) := fun w' hs => rf1.ext hs.upd
 have lf1 : f1.length = nf1 := rf1.1
 have mf1 : nf1 ≤ 9223372036854775807 := rf1.2.1
 have kps : Kn w none_ [] (RdR maK aps nps Hps ps) := fun w' hs => rps.ext hs.upd
 have lps : ps.length = nps := rps.1
 have mps : nps ≤ 9223372036854775807 := rps.2.1
 have kqs : Kn w none_ [] (RdR maK aqs nqs Hqs qs) := fun w' hs => rqs.ext hs.upd
 have lqs : qs.length = nqs := rqs.1
 have mqs : nqs ≤ 9223372036854775807 := rqs.2.1
 have kpr : Kn w none_ [] (RdI apr npr pr) := fun w' hs => rpr.ext hs.upd
 have lpr : pr.length = npr := rpr.1
 have mpr : npr ≤ 9223372036854775807 := rpr.2.1
 have hg := hP.g
 have hG := Math.isGame_ok hg
 rw [lws] at hG
 have hT := Math.isTree_ok hG.1
 have hvl := Math.mat_len hG.2.2.2.1
 have hpq := Math.pair_len hP lws
 have hok := Math.ok_pl ((Math.allOk_iff' lz).1 hT.2.1 u.toNat (by omega))
 have hix := Math.choice_ix hP lws (by omega) hpl ha hb
 have hl0 : f0.length = z.length := by rw [hf0]; exact Math.firstOf_len _ _ _
 have hl1 : f1.length = z.length := by rw [hf1]; exact Math.firstOf_len _ _ _
 refine fn (M := none_) (rs := [.tmp 8]) Try.func177 rfl Try.ntmps177 rfl rfl (Sep.start _ _) ?_
 refine hSeq ?_
 refine hReg (sq 0 sz) (by kernel_rfl) ?_
 refine asS rfl rfl rfl ?_
 refine rNil ?_
 refine qSeq rfl ?_
 refine hSeq ?_
 refine hReg (sq 0 (sq 1 (sq 2 (sq 3 (sq 4 (sl 5 (sq 6 (sq 7 (sq 8 (sl 9 (sq 10 sz))))))))))) (by kernel_rfl) ?_
 refine mvP rfl rfl rfl ?_
 refine nilc rfl rfl rfl ?_
 refine fld fl158_0 rfl rfl rfl ?_
 refine fld fl43_0 rfl rfl rfl ?_
 refine fld fl26_0 rfl rfl rfl ?_
 refine ldl Try.isAgg24 (cD (kbe) rfl) trv rfl rfl rfl ?_
 refine mvI rfl rfl rfl ?_
 refine ixRl (zn := (u).toNat) (z.getD ((u).toNat) dN) el24 (kz) rfl rfl rfl rfl (by omega) (by omega) rfl (nth dN (by omega)) ?_
 intro be1 oe1 e1
 refine fld fl88_0 rfl rfl rfl ?_
 refine ldl Try.isAgg2 (Kn.fld e1 0 rfl) trv rfl rfl rfl ?_
 refine asI rfl rfl rfl ?_
 refine rNil ?_
 refine qSeq rfl ?_
 refine hSeq ?_
 refine hReg (sq 0 (sq 1 sz)) (by kernel_rfl) ?_
 refine mvI rfl rfl rfl ?_
 refine asI rfl rfl rfl ?_
 refine rNil ?_
 refine qSeq rfl ?_
 refine hSeq ?_
 refine hSeq ?_
 refine hReg (sq 0 (sq 1 sz)) (by kernel_rfl) ?_
 refine mvI rfl rfl rfl ?_
 refine eql rfl rfl rfl rfl ?_
 refine rNil ?_
 refine qSeq rfl ?_
 refine hIfD rfl (fun c1 => ?_) (fun c1 => ?_)
 ·
  replace c1 : (z.getD ((u).toNat) dN).pl = 1 := c1
  have hp1 : (z.getD u.toNat dN).pl = 1 := by omega
  have hfx : f1.getD u.toNat 0 = ((Math.rank z 1 u.toNat * nws : Nat) : Int) := Math.firstOf_nat hf1 (by omega) hp1
  have hxx := hix.2 hp1
  have hxe : (f1.getD u.toNat 0 + b).toNat = Math.rank z 1 u.toNat * nws + b.toNat := by omega
  rw [hp1]
  refine hReg (sq 0 (sq 1 sz)) (by kernel_rfl) ?_
  refine mvI rfl rfl rfl ?_
  refine asI rfl rfl rfl ?_
  refine rNil ?_
  refine qSeq rfl ?_
  refine hSeq ?_
  refine hDraw (Ls := []) (by kernel_rfl) (sq 0 (sq 1 (sq 2 (sq 3 (sq 4 (sq 5 (sq 6 (sq 7 (sq 8 (sq 9 (sq 10 (sq 11 (sq 12 (sq 13 (sq 14 (sq 15 (sq 16 (sq 17 (sq 18 (sq 19 sz)))))))))))))))))))) (by kernel_rfl) .slnil ?_
  refine mvP rfl rfl rfl ?_
  refine mvI rfl rfl rfl ?_
  refine nilc rfl rfl rfl ?_
  refine fld fl158_2 rfl rfl rfl ?_
  refine ixA (z := 1) ar155 rfl rfl rfl rfl (by decide) ?_
  refine ldq Try.isAgg41 (cD (kbe) rfl) rfl rfl rfl ?_
  refine mvP rfl rfl rfl ?_
  refine mvI rfl rfl rfl ?_
  refine nilc rfl rfl rfl ?_
  refine fld fl158_1 rfl rfl rfl ?_
  refine ixA (z := 1) ar156 rfl rfl rfl rfl (by decide) ?_
  refine ldq Try.isAgg103 (cD (kbe) rfl) rfl rfl rfl ?_
  refine mvI rfl rfl rfl ?_
  refine ixIq (zn := (u).toNat) el103 (kf1) (fun _ h => h.pick []) rfl rfl rfl rfl (by omega) (by omega) rfl ?_
  intro ae2 e2
  refine ldq Try.isAgg3 (e2) rfl rfl rfl ?_
  refine mvI rfl rfl rfl ?_
  refine add rfl rfl rfl rfl (by omega) ?_
  refine ixRq (zn := (((f1.getD ((u).toNat) 0) + b)).toNat) (qs.getD ((((f1.getD ((u).toNat) 0) + b)).toNat) []) el41 (kqs) (fun _ h => h.pick []) rfl rfl rfl rfl (by omega) (by omega) rfl (nth [] (by omega)) ?_
  intro be3 oe3 e3
  refine ldq Try.isAgg28 (Kn.fld e3 0 rfl) rfl rfl rfl ?_
  refine asS rfl rfl rfl ?_
  refine rNil ?_
  refine qSeq rfl ?_
  refine hRet ?_
  exact fun w hs => ⟨[.slice ((Hqs ((((f1.getD ((u).toNat) 0) + b)).toNat)).1) ((qs.getD ((((f1.getD ((u).toNat) 0) + b)).toNat) []).length) ((Hqs ((((f1.getD ((u).toNat) 0) + b)).toNat)).2)], ⟨rfl, trivial⟩, ⟨by rw [Math.chA_1 hp1, Math.choice_1 hp1, ← hxe]; rfl, hs.upd⟩⟩
 ·
  replace c1 : ¬ ((z.getD ((u).toNat) dN).pl = 1) := c1
  have hp0 : (z.getD u.toNat dN).pl = 0 := by omega
  have hfx : f0.getD u.toNat 0 = ((Math.rank z 0 u.toNat * nws : Nat) : Int) := Math.firstOf_nat hf0 (by omega) hp0
  have hxx := hix.1 hp0
  have hxe : (f0.getD u.toNat 0 + a).toNat = Math.rank z 0 u.toNat * nws + a.toNat := by omega
  rw [hp0]
  refine hSkip ?_
  refine qSeq rfl ?_
  refine hSeq ?_
  refine hDraw (Ls := []) (by kernel_rfl) (sq 0 (sq 1 (sq 2 (sq 3 (sq 4 (sq 5 (sq 6 (sq 7 (sq 8 (sq 9 (sq 10 (sq 11 (sq 12 (sq 13 (sq 14 (sq 15 (sq 16 (sq 17 (sq 18 (sq 19 sz)))))))))))))))))))) (by kernel_rfl) .slnil ?_
  refine mvP rfl rfl rfl ?_
  refine mvI rfl rfl rfl ?_
  refine nilc rfl rfl rfl ?_
  refine fld fl158_2 rfl rfl rfl ?_
  refine ixA (z := 0) ar155 rfl rfl rfl rfl (by decide) ?_
  refine ldq Try.isAgg41 (cD (kbe) rfl) rfl rfl rfl ?_
  refine mvP rfl rfl rfl ?_
  refine mvI rfl rfl rfl ?_
  refine nilc rfl rfl rfl ?_
  refine fld fl158_1 rfl rfl rfl ?_
  refine ixA (z := 0) ar156 rfl rfl rfl rfl (by decide) ?_
  refine ldq Try.isAgg103 (cD (kbe) rfl) rfl rfl rfl ?_
  refine mvI rfl rfl rfl ?_
  refine ixIq (zn := (u).toNat) el103 (kf0) (fun _ h => h.pick []) rfl rfl rfl rfl (by omega) (by omega) rfl ?_
  intro ae4 e4
  refine ldq Try.isAgg3 (e4) rfl rfl rfl ?_
  refine mvI rfl rfl rfl ?_
  refine add rfl rfl rfl rfl (by omega) ?_
  refine ixRq (zn := (((f0.getD ((u).toNat) 0) + a)).toNat) (ps.getD ((((f0.getD ((u).toNat) 0) + a)).toNat) []) el41 (kps) (fun _ h => h.pick []) rfl rfl rfl rfl (by omega) (by omega) rfl (nth [] (by omega)) ?_
  intro be5 oe5 e5
  refine ldq Try.isAgg28 (Kn.fld e5 0 rfl) rfl rfl rfl ?_
  refine asS rfl rfl rfl ?_
  refine rNil ?_
  refine qSeq rfl ?_
  refine hRet ?_
  exact fun w hs => ⟨[.slice ((Hps ((((f0.getD ((u).toNat) 0) + a)).toNat)).1) ((ps.getD ((((f0.getD ((u).toNat) 0) + a)).toNat) []).length) ((Hps ((((f0.getD ((u).toNat) 0) + a)).toNat)).2)], ⟨rfl, trivial⟩, ⟨by rw [Math.chA_0 hp0, Math.choice_0 hp0, ← hxe]; rfl, hs.upd⟩⟩
theorem spec_l23Set_c (az : Option Addr) (nz : Nat) (cz : Nat) (Hz : Nat → Hd) (z : List Nd) (aws : Option Addr) (nws : Nat) (cws : Nat) (Hws : Nat → Hd) (ws : List (List Int)) (avs : Option Addr) (nvs : Nat) (cvs : Nat) (Hvs : Nat → Hd) (vs : List (List Int)) (p : Int) (u : Int) (c : Int) (w : World) (rz : RdR ndK az nz Hz z w) (rws : RdR maK aws nws Hws ws w) (rvs : RdR maK avs nvs Hvs vs w) (hg : Math.isGame z ws vs = true) (hv : 0 ≤ u ∧ u < (nz : Int)) (hpl : (z.getD u.toNat dN).pl = p) (hc : 0 ≤ c ∧ c < (nws : Int)) :
  Calls Try.prog 185 #[.agg #[.slice az nz cz, .slice aws nws cws, .slice avs nvs cvs], .int .i64 p, .int .i64 u, .int .i64 c] w (Ret fun v w' => v = .int .i64 ((((Math.rank z p u.toNat * nws : Nat) : Int) + c)) ∧ Ext w w') := by
 have kz : Kn w none_ [] (RdR ndK az nz Hz z) := fun w' hs => rz.ext hs.upd
 have lz : z.length = nz := rz.1
 have mz : nz ≤ 9223372036854775807 := rz.2.1
 have kws : Kn w none_ [] (RdR maK aws nws Hws ws) := fun w' hs => rws.ext hs.upd
 have lws : ws.length = nws := rws.1
 have mws : nws ≤ 9223372036854775807 := rws.2.1
 have kvs : Kn w none_ [] (RdR maK avs nvs Hvs vs) := fun w' hs => rvs.ext hs.upd
 have lvs : vs.length = nvs := rvs.1
 have mvs : nvs ≤ 9223372036854775807 := rvs.2.1
 have hG := Math.isGame_ok hg
 rw [lws] at hG
 have hT := Math.isTree_ok hG.1
 have hvl := Math.mat_len hG.2.2.2.1
 have hnl := Math.nodesOf_len z p
 have hrn := Math.rank_node (z := z) (i := u.toNat) (by omega) hpl
 refine fn (M := none_) (rs := [.tmp 8]) Try.func185 rfl Try.ntmps185 rfl rfl (Sep.start _ _) ?_
 refine hSeq ?_
 refine hReg (sl 0 (sq 1 sz)) (by kernel_rfl) ?_
 refine box trv1 rfl rfl rfl rfl (fun bkb1 hbkb1 => ?_)
 refine asI rfl rfl rfl ?_
 refine rNil ?_
 refine qSeq rfl ?_
 refine hSeq ?_
 refine hReg (sq 0 (sl 1 (sq 2 (sl 3 (sq 4 sz))))) (by kernel_rfl) ?_
 refine fld fl43_0 rfl rfl rfl ?_
 refine ldAl Try.isAgg26 Try.sizeOf26 (cBp (m := 1) 0 rfl rfl) trv rfl rfl rfl rfl ?_
 refine mvI rfl rfl rfl ?_
 refine callS Try.call94 trv1 rfl rfl (fun w hs => spec_l20Of_c _ nz cz _ _ _ w (Kn.drop (k := 1) kz w hs) (by omega)) ?_
 rintro ⟨ay1, ny1, cy1, y1⟩ hr1
 dsimp only at hr1
 subst y1
 refine rKnow (fun w hs => (show OwnI 2 ay1 ny1 cy1 (Math.nodesOf z p) w from hs.at_ 0 rfl).lenz) (fun lenn2 => ?_)
 refine asS rfl rfl rfl ?_
 refine rNil ?_
 refine qSeq rfl ?_
 refine hSeq ?_
 refine hSeq ?_
 refine hReg (sq 0 sz) (by kernel_rfl) ?_
 refine asI rfl rfl rfl ?_
 refine rNil ?_
 refine qSeq rfl ?_
 refine hBlk ?_
 refine hLoop (α := Nat) (fun i => i ≤ ny1 ∧ ∀ j, j < i → (Math.nodesOf z p).getD j 0 ≠ u) (fun i => ny1 - i) (fun i => [OwnI 2 ay1 ny1 cy1 (Math.nodesOf z p), blk bkb1 43 [.slice az nz cz, .slice aws nws cws, .slice avs nvs cvs]]) (fun i => [(2, .int .i64 u), (3, .int .i64 c), (4, .pointer (some ⟨bkb1, 0, none⟩)), (9, .slice ay1 ny1 cy1), (10, .int .i64 (i : Int))]) 0 ⟨Nat.zero_le _, fun j hj => by omega⟩ (fun _ h => h.pick [0, 0]) ⟨rfl, rfl, rfl, rfl, rfl, trivial⟩ ?_
 rintro i τ1 ⟨hi, hal⟩
 refine hSeq ?_
 refine hSeq ?_
 refine hReg (sq 0 (sq 1 (sq 2 (sq 3 sz)))) (by kernel_rfl) ?_
 refine mvI rfl rfl rfl ?_
 refine mvS rfl rfl rfl ?_
 refine lenS Try.runUnderlying28 rfl rfl rfl ?_
 refine lss rfl rfl rfl rfl ?_
 refine rNil ?_
 refine qSeq rfl ?_
 refine hIfD rfl (fun c1 => ?_) (fun c1 => ?_)
 ·
  replace c1 : (i : Int) < (ny1 : Int) := c1
  refine hSkip ?_
  refine qSeq rfl ?_
  refine hSeq ?_
  refine hBlk ?_
  refine hSeq ?_
  refine hReg (sq 0 (sq 1 (sq 2 (sl 3 (sq 4 (sq 5 sz)))))) (by kernel_rfl) ?_
  refine mvS rfl rfl rfl ?_
  refine mvI rfl rfl rfl ?_
  refine ixIl (zn := i) el28 ((Kn.at_ 0 rfl).imp fun _ h => OwnI.rd h) rfl rfl rfl rfl (by omega) (by omega) rfl ?_
  intro ae2 e2
  refine ldl Try.isAgg2 (e2) trv rfl rfl rfl ?_
  refine mvI rfl rfl rfl ?_
  refine eql rfl rfl rfl rfl ?_
  refine rNil ?_
  refine qSeq rfl ?_
  refine hIfD rfl (fun c2 => ?_) (fun c2 => ?_)
  ·
   replace c2 : ((Math.nodesOf z p).getD i 0) = u := c2
   have hri := Math.rank_is (z := z) (p := p) (show i < (Math.nodesOf z p).length by omega) c2
   have hjk := Math.mul_bd (a := (i : Int)) (A := 60) (b := (nws : Int)) (B := 6) (by omega) (by omega) (by omega) (by omega)
   refine hSeq ?_
   refine hReg (sq 0 (sq 1 (sl 2 (sq 3 (sq 4 (sq 5 (sq 6 (sq 7 sz)))))))) (by kernel_rfl) ?_
   refine mvI rfl rfl rfl ?_
   refine fld fl43_1 rfl rfl rfl ?_
   refine ldl Try.isAgg41 (cB 1 rfl rfl) trv rfl rfl rfl ?_
   refine lenS Try.runUnderlying41 rfl rfl rfl ?_
   refine mul rfl rfl rfl rfl (by omega) ?_
   refine mvI rfl rfl rfl ?_
   refine add rfl rfl rfl rfl (by omega) ?_
   refine asI rfl rfl rfl ?_
   refine rNil ?_
   refine qSeq rfl ?_
   refine hRet ?_
   exact fun w hs => ⟨[.int .i64 ((((i : Int) * (nws : Int)) + c))], ⟨rfl, trivial⟩, ⟨vI (by rw [hri, Int.natCast_mul]), hs.upd⟩⟩
  ·
   replace c2 : ¬ (((Math.nodesOf z p).getD i 0) = u) := c2
   refine hSkip ?_
   refine qSeq rfl ?_
   refine hReg (sq 0 (sq 1 (sq 2 sz))) (by kernel_rfl) ?_
   refine mvI rfl rfl rfl ?_
   refine add rfl rfl rfl rfl (by omega) ?_
   refine asI rfl rfl rfl ?_
   refine rNil ?_
   exact qNext rfl (i + 1) (by omega) ⟨by omega, Math.upto hal (by assumption)⟩ ⟨rfl, rfl, rfl, rfl, rfl, trivial⟩ (fun _ h => h.pick [0, 0])
 ·
  replace c1 : ¬ ((i : Int) < (ny1 : Int)) := c1
  exact absurd (show (Math.nodesOf z p).getD (Math.rank z p u.toNat) 0 = u by omega) (hal _ (by omega))
theorem spec_l23Choice_c (az : Option Addr) (nz : Nat) (cz : Nat) (Hz : Nat → Hd) (z : List Nd) (aws : Option Addr) (nws : Nat) (cws : Nat) (Hws : Nat → Hd) (ws : List (List Int)) (avs : Option Addr) (nvs : Nat) (cvs : Nat) (Hvs : Nat → Hd) (vs : List (List Int)) (pl : Int) (aps : Option Addr) (nps : Nat) (cps : Nat) (Hps : Nat → Hd) (ps : List (List Int)) (ql : Int) (aqs : Option Addr) (nqs : Nat) (cqs : Nat) (Hqs : Nat → Hd) (qs : List (List Int)) (u : Int) (a : Int) (b : Int) (w : World) (rz : RdR ndK az nz Hz z w) (rws : RdR maK aws nws Hws ws w) (rvs : RdR maK avs nvs Hvs vs w) (rps : RdR maK aps nps Hps ps w) (rqs : RdR maK aqs nqs Hqs qs w) (hP : Math.Pair z ws vs ps qs) (hv : 0 ≤ u ∧ u < (nz : Int)) (hpl : (z.getD u.toNat dN).pl ≠ 2) (ha : 0 ≤ a ∧ a < (nws : Int)) (hb : 0 ≤ b ∧ b < (nws : Int)) :
  Calls Try.prog 179 #[.agg #[.slice az nz cz, .slice aws nws cws, .slice avs nvs cvs], .agg #[.int .i64 pl, .slice aps nps cps], .agg #[.int .i64 ql, .slice aqs nqs cqs], .int .i64 u, .int .i64 a, .int .i64 b] w (Ret fun v w' => v = .slice ((Math.chA z nws Hps Hqs u a b).1) ((Math.choice z nws ps qs u a b).length) ((Math.chA z nws Hps Hqs u a b).2) ∧ Ext w w') := by
 have kz : Kn w none_ [] (RdR ndK az nz Hz z) := fun w' hs => rz.ext hs.upd
 have lz : z.length = nz := rz.1
 have mz : nz ≤ 9223372036854775807 := rz.2.1
 have kws : Kn w none_ [] (RdR maK aws nws Hws ws) := fun w' hs => rws.ext hs.upd
 have lws : ws.length = nws := rws.1
 have mws : nws ≤ 9223372036854775807 := rws.2.1
 have kvs : Kn w none_ [] (RdR maK avs nvs Hvs vs) := fun w' hs => rvs.ext hs.upd
 have lvs : vs.length = nvs := rvs.1
 have mvs : nvs ≤ 9223372036854775807 := rvs.2.1
 have kps : Kn w none_ [] (RdR maK aps nps Hps ps) := fun w' hs => rps.ext hs.upd
 have lps : ps.length = nps := rps.1
 have mps : nps ≤ 9223372036854775807 := rps.2.1
 have kqs : Kn w none_ [] (RdR maK aqs nqs Hqs qs) := fun w' hs => rqs.ext hs.upd
 have lqs : qs.length = nqs := rqs.1
 have mqs : nqs ≤ 9223372036854775807 := rqs.2.1
 have hg := hP.g
 have hG := Math.isGame_ok hg
 rw [lws] at hG
 have hT := Math.isTree_ok hG.1
 have hvl := Math.mat_len hG.2.2.2.1
 have hpq := Math.pair_len hP lws
 have hok := Math.ok_pl ((Math.allOk_iff' lz).1 hT.2.1 u.toNat (by omega))
 have hix := Math.choice_ix hP lws (by omega) hpl ha hb
 refine fn (M := none_) (rs := [.tmp 12]) Try.func179 rfl Try.ntmps179 rfl rfl (Sep.start _ _) ?_
 refine hSeq ?_
 refine hReg (sl 0 (sl 1 (sl 2 (sq 3 sz)))) (by kernel_rfl) ?_
 refine box trv1 rfl rfl rfl rfl (fun bkb1 hbkb1 => ?_)
 refine box trv1 rfl rfl rfl rfl (fun bkb2 hbkb2 => ?_)
 refine box trv1 rfl rfl rfl rfl (fun bkb3 hbkb3 => ?_)
 refine asS rfl rfl rfl ?_
 refine rNil ?_
 refine qSeq rfl ?_
 refine hSeq ?_
 refine hSeq ?_
 refine hReg (sq 0 (sq 1 (sl 2 (sq 3 (sq 4 (sq 5 (sl 6 (sq 7 sz)))))))) (by kernel_rfl) ?_
 refine fld fl43_0 rfl rfl rfl ?_
 refine fld fl26_0 rfl rfl rfl ?_
 refine ldl Try.isAgg24 (cB 2 rfl rfl) trv rfl rfl rfl ?_
 refine mvI rfl rfl rfl ?_
 refine ixRl (zn := (u).toNat) (z.getD ((u).toNat) dN) el24 (Kn.drop (k := 3) kz) rfl rfl rfl rfl (by omega) (by omega) rfl (nth dN (by omega)) ?_
 intro be1 oe1 e1
 refine fld fl88_0 rfl rfl rfl ?_
 refine ldl Try.isAgg2 (Kn.fld e1 0 rfl) trv rfl rfl rfl ?_
 refine eql rfl rfl rfl rfl ?_
 refine rNil ?_
 refine qSeq rfl ?_
 refine hIfD rfl (fun c1 => ?_) (fun c1 => ?_)
 ·
  replace c1 : (z.getD ((u).toNat) dN).pl = 0 := c1
  have hxx := hix.1 c1
  have hxe : (((Math.rank z 0 u.toNat * nws : Nat) : Int) + a).toNat = Math.rank z 0 u.toNat * nws + a.toNat := by omega
  refine hSeq ?_
  refine hDraw (Ls := [blk bkb2 56 [.int .i64 pl, .slice aps nps cps], blk bkb1 43 [.slice az nz cz, .slice aws nws cws, .slice avs nvs cvs]]) (by kernel_rfl) (sq 0 (sq 1 (sq 2 (sq 3 (sq 4 (sl 5 (sq 6 (sq 7 (sq 8 sz))))))))) (by kernel_rfl) (.cons _ (.cons_cons _ (.cons_cons _ .slnil))) ?_
  refine fld fl56_1 rfl rfl rfl ?_
  refine ldq Try.isAgg41 (cB 0 rfl rfl) rfl rfl rfl ?_
  refine ldAq Try.isAgg43 Try.sizeOf43 (cBs 1 rfl) rfl rfl rfl rfl ?_
  refine mvI rfl rfl rfl ?_
  refine mvI rfl rfl rfl ?_
  refine callP (v := .int .i64 ((((Math.rank z (0 : Int) u.toNat * nws : Nat) : Int) + a))) Try.call185 (fun _ h => h.pick [1, 1]) rfl rfl (fun w hs => spec_l23Set_c _ nz cz _ _ _ nws cws _ _ _ nvs cvs _ _ _ _ _ w (Kn.drop (k := 3) kz w hs) (Kn.drop (k := 3) kws w hs) (Kn.drop (k := 3) kvs w hs) (by assumption) (by omega) (by first | assumption | omega) (by omega)) ?_
  refine ixRq (zn := ((((Math.rank z (0 : Int) u.toNat * nws : Nat) : Int) + a)).toNat) (ps.getD (((((Math.rank z (0 : Int) u.toNat * nws : Nat) : Int) + a)).toNat) []) el41 (Kn.drop (k := 2) kps) (fun _ h => h.pick [1, 1]) rfl rfl rfl rfl (by omega) (by omega) rfl (nth [] (by omega)) ?_
  intro be2 oe2 e2
  refine ldq Try.isAgg28 (Kn.fld e2 0 rfl) rfl rfl rfl ?_
  refine asS rfl rfl rfl ?_
  refine rNil ?_
  refine qSeq rfl ?_
  refine hRet ?_
  exact fun w hs => ⟨[.slice ((Hps (((((Math.rank z (0 : Int) u.toNat * nws : Nat) : Int) + a)).toNat)).1) ((ps.getD (((((Math.rank z (0 : Int) u.toNat * nws : Nat) : Int) + a)).toNat) []).length) ((Hps (((((Math.rank z (0 : Int) u.toNat * nws : Nat) : Int) + a)).toNat)).2)], ⟨rfl, trivial⟩, ⟨by rw [Math.chA_0 c1, Math.choice_0 c1, ← hxe]; rfl, hs.upd⟩⟩
 ·
  replace c1 : ¬ ((z.getD ((u).toNat) dN).pl = 0) := c1
  have hp1 : (z.getD u.toNat dN).pl = 1 := by omega
  have hxx := hix.2 hp1
  have hxe : (((Math.rank z 1 u.toNat * nws : Nat) : Int) + b).toNat = Math.rank z 1 u.toNat * nws + b.toNat := by omega
  refine hSkip ?_
  refine qSeq rfl ?_
  refine hSeq ?_
  refine hDraw (Ls := [blk bkb3 56 [.int .i64 ql, .slice aqs nqs cqs], blk bkb1 43 [.slice az nz cz, .slice aws nws cws, .slice avs nvs cvs]]) (by kernel_rfl) (sq 0 (sq 1 (sq 2 (sq 3 (sq 4 (sl 5 (sq 6 (sq 7 (sq 8 sz))))))))) (by kernel_rfl) (.cons_cons _ (.cons _ (.cons_cons _ .slnil))) ?_
  refine fld fl56_1 rfl rfl rfl ?_
  refine ldq Try.isAgg41 (cB 0 rfl rfl) rfl rfl rfl ?_
  refine ldAq Try.isAgg43 Try.sizeOf43 (cBs 1 rfl) rfl rfl rfl rfl ?_
  refine mvI rfl rfl rfl ?_
  refine mvI rfl rfl rfl ?_
  refine callP (v := .int .i64 ((((Math.rank z (1 : Int) u.toNat * nws : Nat) : Int) + b))) Try.call185 (fun _ h => h.pick [0, 1]) rfl rfl (fun w hs => spec_l23Set_c _ nz cz _ _ _ nws cws _ _ _ nvs cvs _ _ _ _ _ w (Kn.drop (k := 3) kz w hs) (Kn.drop (k := 3) kws w hs) (Kn.drop (k := 3) kvs w hs) (by assumption) (by omega) (by first | assumption | omega) (by omega)) ?_
  refine ixRq (zn := ((((Math.rank z (1 : Int) u.toNat * nws : Nat) : Int) + b)).toNat) (qs.getD (((((Math.rank z (1 : Int) u.toNat * nws : Nat) : Int) + b)).toNat) []) el41 (Kn.drop (k := 2) kqs) (fun _ h => h.pick [0, 1]) rfl rfl rfl rfl (by omega) (by omega) rfl (nth [] (by omega)) ?_
  intro be3 oe3 e3
  refine ldq Try.isAgg28 (Kn.fld e3 0 rfl) rfl rfl rfl ?_
  refine asS rfl rfl rfl ?_
  refine rNil ?_
  refine qSeq rfl ?_
  refine hRet ?_
  exact fun w hs => ⟨[.slice ((Hqs (((((Math.rank z (1 : Int) u.toNat * nws : Nat) : Int) + b)).toNat)).1) ((qs.getD (((((Math.rank z (1 : Int) u.toNat * nws : Nat) : Int) + b)).toNat) []).length) ((Hqs (((((Math.rank z (1 : Int) u.toNat * nws : Nat) : Int) + b)).toNat)).2)], ⟨rfl, trivial⟩, ⟨by rw [Math.chA_1 hp1, Math.choice_1 hp1, ← hxe]; rfl, hs.upd⟩⟩
end Go.Proofs.Ytjengglpbdgmnaa
/- Contracts of what reaches a node. Their conditions stand in each. -/
namespace Go.Proofs.Ytjengglpbdgmnaa
open Go Go.RowKit V
set_option linter.unusedVariables false
set_option linter.unusedSimpArgs false
set_option maxRecDepth 100000
end Go.Proofs.Ytjengglpbdgmnaa
/- Plain facts: mirrored games are games; what they pay; mirrored twice. No condition. -/
namespace Go.Proofs.Ytjengglpbdgmnaa.Math
open Go.Proofs.Ytjengglpbdgmnaa.V
set_option linter.unusedVariables false
set_option linter.unusedSimpArgs false
theorem swap_2 {n : Int} : swap n = 2 ↔ n = 2 := by unfold swap; split <;> omega
theorem swap_m {n : Int} : swap n = -1 ↔ n = -1 := by unfold swap; split <;> omega
theorem swap_in {n : Int} (h : -1 ≤ n ∧ n ≤ 1) : -1 ≤ swap n ∧ swap n ≤ 1 := by unfold swap; split <;> omega
theorem swap_in2 {n : Int} (h : 0 ≤ n ∧ n ≤ 2) : 0 ≤ swap n ∧ swap n ≤ 2 := by unfold swap; split <;> omega
theorem mir_at (z : List Nd) {i : Nat} (h : i < z.length) : (z.map mirN).getD i dN = mirN (z.getD i dN) := by simp [List.getD, List.getElem?_eq_getElem h]
theorem mir_pl (z : List Nd) (i : Nat) : ((z.map mirN).getD i dN).pl = 2 ↔ (z.getD i dN).pl = 2 := by
  by_cases h : i < z.length
  · rw [mir_at z h]; exact swap_2
  · rw [List.getD_eq_getElem?_getD, List.getD_eq_getElem?_getD, List.getElem?_eq_none (by rw [List.length_map]; omega), List.getElem?_eq_none (by omega)]
theorem mir_ch (z : List Nd) (i : Nat) : ((z.map mirN).getD i dN).ch = (z.getD i dN).ch := by
  by_cases h : i < z.length
  · rw [mir_at z h]; rfl
  · rw [List.getD_eq_getElem?_getD, List.getD_eq_getElem?_getD, List.getElem?_eq_none (by rw [List.length_map]; omega), List.getElem?_eq_none (by omega)]
theorem okB_mir {n i : Nat} {x : Nd} (h : okB n i x = true) : okB n i (mirN x) = true := by
  have hp := ok_pl h
  simp only [okB, Bool.and_eq_true, inB, decide_eq_true_eq] at h ⊢
  obtain ⟨h1, h2, h3, h4⟩ := h
  refine ⟨swap_in2 h1, h3, h2, ?_⟩
  by_cases he : x.pl = 2
  · have he' : (mirN x).pl = 2 := swap_2.2 he
    simp only [he, he', decide_true, cond_true, Bool.and_eq_true, decide_eq_true_eq, Bool.or_eq_true, ne_eq] at h4 ⊢
    refine ⟨h4.1, swap_in h4.2.1, ?_⟩
    rcases h4.2.2 with h | h
    · exact .inl fun h' => h (swap_m.1 h')
    · exact .inr h.symm
  · have he' : ¬ (mirN x).pl = 2 := fun h' => he (swap_2.1 h')
    simp only [he, he', decide_false, cond_false, Bool.and_eq_true, decide_eq_true_eq] at h4 ⊢
    exact ⟨swap_m.2 h4.1, h4.2⟩
theorem allOk_mir {z : List Nd} (h : allOk z = true) : allOk (z.map mirN) = true := allOk_iff.2 fun i hi => by
  rw [List.length_map] at hi ⊢
  rw [mir_at z hi]
  exact okB_mir (allOk_iff.1 h i hi)
theorem kids_mir (z : List Nd) : kids (z.map mirN) = kids z := by
  unfold kids; rw [List.flatMap_map]; rfl
theorem oneEach_mir (z : List Nd) : oneEach (z.map mirN) = oneEach z := by unfold oneEach; rw [kids_mir, List.length_map]
theorem depthF_mir (z : List Nd) : ∀ k i, depthF (z.map mirN) k i = depthF z k i
  | 0, _ => rfl
  | k + 1, i => by
    simp only [depthF]
    by_cases h : (z.getD i dN).pl = 2
    · rw [if_pos h, if_pos ((mir_pl z i).2 h)]
    · rw [if_neg h, if_neg fun h' => h ((mir_pl z i).1 h'), mir_ch]
      congr 1
      exact foldl_congr (fun m c _ => by rw [depthF_mir z k]) 0
theorem depth_mir (z : List Nd) (i : Nat) : depth (z.map mirN) i = depth z i := by unfold depth; rw [List.length_map]; exact depthF_mir z _ _
theorem isTree_mir {z : List Nd} (h : isTree z = true) : isTree (z.map mirN) = true := by
  have hT := isTree_ok h
  rw [isTree_yes (by rw [List.length_map]; exact hT.1) (allOk_mir hT.2.1) (by rw [oneEach_mir]; exact hT.2.2.1), depth_mir]
  exact decide_eq_true hT.2.2.2.2
theorem mirW_row (ws : List (List Int)) {k a : Nat} (h : a < k) : (mirWs ws k k).getD a [] = mapR (mirWc ws a) k := mapR_get (fun a => mapR (mirWc ws a) k) [] h
theorem mirV_row (vs : List (List Int)) {k a : Nat} (h : a < k) : (mirVs vs k k).getD a [] = mapR (mirVc vs a) k := mapR_get (fun a => mapR (mirVc vs a) k) [] h
theorem mirW_cell (ws : List (List Int)) {k a b : Nat} (h : a < k) (hb : b < k) : ((mirWs ws k k).getD a []).getD b 0 = (ws.getD b []).getD a 0 := by rw [mirW_row ws h, mapR_get _ 0 hb]; rfl
theorem mirV_cell (vs : List (List Int)) {k a b : Nat} (h : a < k) (hb : b < k) : ((mirVs vs k k).getD a []).getD b 0 = -(vs.getD b []).getD a 0 := by rw [mirV_row vs h, mapR_get _ 0 hb]; rfl
theorem mirV_mat {vs : List (List Int)} {k : Nat} (h : matB k (-1) 1 vs = true) : matB k (-1) 1 (mirVs vs k k) = true := by
  refine mat_yes (mapR_len _ _) fun a ha => ?_
  rw [mirV_row vs ha]
  refine row_yes (by rw [mapR_len]) (List.all_eq_true.2 fun x hx => ?_)
  obtain ⟨b, hb, rfl⟩ := mapR_mem hx
  have := row_at (mat_row h hb) ha
  unfold inB mirVc; exact decide_eq_true (by omega)
theorem isGame_mir {z : List Nd} {ws vs : List (List Int)} {k : Nat} (hk : ws.length = k) (h : isGame z ws vs = true) : isGame (z.map mirN) (mirWs ws k k) (mirVs vs k k) = true := by
  subst hk
  obtain ⟨h1, h2, h3, h4, h5⟩ := isGame_ok h
  have hl : (mirWs ws ws.length ws.length).length = ws.length := mapR_len _ _
  unfold isGame
  rw [isTree_mir h1, hl, mir_mat h3, mirV_mat h4, total_mir h3]
  simp only [Bool.true_and, Bool.and_eq_true, inB, decide_eq_true_eq]
  exact ⟨by omega, h5⟩
theorem payoffX_mir (x : Nd) (w : Int) : payoffX (mirN x) (-w) = -payoffX x w := by
  have h0 : swap x.fo = 0 ↔ x.fo = 1 := by unfold swap; split <;> omega
  have h1 : swap x.fo = 1 ↔ x.fo = 0 := by unfold swap; split <;> omega
  show (if swap x.fo = 0 then -x.p1 else if swap x.fo = 1 then x.p0 else if -w = 1 then x.p0 else if -w = -1 then -x.p1 else 0) = -(if x.fo = 0 then -x.p0 else if x.fo = 1 then x.p1 else if w = 1 then x.p1 else if w = -1 then -x.p0 else 0)
  by_cases a : x.fo = 0
  · rw [if_neg (by rw [h0]; omega), if_pos (h1.2 a), if_pos a]; omega
  · by_cases b : x.fo = 1
    · rw [if_pos (h0.2 b), if_neg a, if_pos b]
    · rw [if_neg (by rw [h0]; exact b), if_neg (by rw [h1]; exact a), if_neg a, if_neg b]
      by_cases c : w = 1
      · rw [if_neg (by omega), if_pos (by omega), if_pos c]
      · by_cases d : w = -1
        · rw [if_pos (by omega), if_neg c, if_pos d]; omega
        · rw [if_neg (by omega), if_neg (by omega), if_neg c, if_neg d]; rfl
end Go.Proofs.Ytjengglpbdgmnaa.Math
/- Plain facts: the number of a mirrored game. No condition. -/
namespace Go.Proofs.Ytjengglpbdgmnaa.Math
open Go.Proofs.Ytjengglpbdgmnaa.V
set_option linter.unusedVariables false
set_option linter.unusedSimpArgs false
section
variable {z : List Nd} {ws vs ps qs : List (List Int)} {k : Nat}
theorem swap_is {n p : Int} (hp : 0 ≤ p ∧ p ≤ 1) : swap n = p ↔ n = 1 - p := by unfold swap; split <;> omega
theorem nodes_mir (z : List Nd) {p : Int} (hp : 0 ≤ p ∧ p ≤ 1) : ∀ i, i ≤ z.length → nodesTo (z.map mirN) p i = nodesTo z (1 - p) i
  | 0, _ => rfl
  | i + 1, h => by
    have ih := nodes_mir z hp i (by omega)
    by_cases h2 : (z.getD i dN).pl = 1 - p
    · rw [nodesTo_yes h2, nodesTo_yes (by rw [mir_at z (by omega)]; exact (swap_is hp).2 h2), ih]
    · rw [nodesTo_no h2, nodesTo_no (by rw [mir_at z (by omega)]; exact fun h' => h2 ((swap_is hp).1 h')), ih]
theorem nodesOf_mir (z : List Nd) {p : Int} (hp : 0 ≤ p ∧ p ≤ 1) : nodesOf (z.map mirN) p = nodesOf z (1 - p) := by
  have h := nodes_mir z hp z.length (Nat.le_refl _)
  rwa [nodesTo_all rfl rfl, nodesTo_all (ns := z.map mirN) (List.length_map ..) rfl] at h
theorem wide_mir (z : List Nd) (s : List Int) : wide (z.map mirN) s = wide z s := by unfold wide; rw [mir_ch]
theorem partsB_mir (z : List Nd) (ss ps : List (List Int)) : partsB (z.map mirN) ss ps = partsB z ss ps := by
  unfold partsB partB; simp only [wide_mir]
theorem sets_mir (z : List Nd) (k : Nat) {p : Int} (hp : 0 ≤ p ∧ p ≤ 1) : sets (z.map mirN) k p = sets z k (1 - p) := by unfold sets; rw [nodesOf_mir z hp]
theorem pair_mir (h : Pair z ws vs ps qs) (hk : ws.length = k) : Pair (z.map mirN) (mirWs ws k k) (mirVs vs k k) qs ps := by
  have hl : (mirWs ws k k).length = k := mapR_len _ _
  refine ⟨isGame_mir hk h.g, ?_, ?_⟩
  · rw [hl, partsB_mir, sets_mir z k (by decide)]; subst hk; exact h.q
  · rw [hl, partsB_mir, sets_mir z k (by decide)]; subst hk; exact h.p
theorem choice_mir (hT : allOk z = true) {v a b : Int} (hv : 0 ≤ v ∧ v < z.length) (hpl : ¬ (z.getD v.toNat dN).pl = 2) : choice (z.map mirN) k qs ps v b a = choice z k ps qs v a b := by
  have ho := ok_pl (allOk_iff.1 hT v.toNat (by omega))
  unfold choice rank
  rw [mir_at z (show v.toNat < z.length by omega), nodes_mir z (p := 0) (by decide) _ (by omega), nodes_mir z (p := 1) (by decide) _ (by omega)]
  show (if swap (z.getD v.toNat dN).pl = 0 then _ else _) = _
  by_cases h0 : (z.getD v.toNat dN).pl = 0
  · rw [if_pos h0, if_neg (by rw [h0]; decide)]; rfl
  · have h1 : (z.getD v.toNat dN).pl = 1 := by omega
    rw [if_neg h0, if_pos (by rw [h1]; decide)]; rfl
theorem mapR_neg (f : Nat → Int) : ∀ n, (mapR (fun i => -f i) n).sum = -(mapR f n).sum
  | 0 => rfl
  | n + 1 => by rw [mapR_suc, mapR_suc, mapR_neg f n]; omega
theorem valF_mir (hT : allOk z = true) {a b : Int} (ha : 0 ≤ a ∧ a < k) (hb : 0 ≤ b ∧ b < k) : ∀ (f : Nat) (v left : Int), 0 ≤ v → v < z.length → valF (z.map mirN) (mirVs vs k k) k qs ps b a f v left = -valF z vs k ps qs a b f v left
  | 0, _, _, _, _ => rfl
  | f + 1, v, left, h0, h1 => by
    simp only [valF]
    by_cases h2 : (z.getD v.toNat dN).pl = 2
    · rw [if_pos h2, if_pos ((mir_pl z _).2 h2), mir_at z (show v.toNat < z.length by omega), mirV_cell vs (show b.toNat < k by omega) (show a.toNat < k by omega), payoffX_mir, Int.neg_mul]
    · rw [if_neg h2, if_neg fun h => h2 ((mir_pl z _).1 h), mir_ch, ← mapR_neg]
      congr 1
      refine mapR_congr fun i hi => ?_
      have hk := ok_kid (allOk_iff.1 hT v.toNat (by omega)) (getD_mem 0 hi)
      rw [choice_mir hT ⟨h0, h1⟩ h2, valF_mir hT ha hb f _ _ (by omega) (by omega), Int.mul_neg]
theorem value_mir (hT : allOk z = true) {a b v left : Int} (ha : 0 ≤ a ∧ a < k) (hb : 0 ≤ b ∧ b < k) (h0 : 0 ≤ v) (h1 : v < z.length) : value (z.map mirN) (mirVs vs k k) k qs ps b a v left = -value z vs k ps qs a b v left := by
  unfold value; rw [List.length_map]; exact valF_mir hT ha hb _ _ _ h0 h1
theorem numTo_mir (h : Pair z ws vs ps qs) (hk : ws.length = k) : numTo (z.map mirN) (mirWs ws k k) (mirVs vs k k) k qs ps k = -numTo z ws vs k ps qs k := by
  have hT := isTree_ok (isGame_ok h.g).1
  unfold numTo numRow
  rw [sum_swap (fun a b => dealN (z.map mirN) (mirWs ws k k) (mirVs vs k k) k qs ps a b) k, ← mapR_neg]
  congr 1
  refine mapR_congr fun a ha => ?_
  rw [← mapR_neg]
  congr 1
  refine mapR_congr fun b hb => ?_
  unfold dealN
  rw [mirW_cell ws hb ha, depth_mir, value_mir hT.2.1 (a := (a : Int)) (b := (b : Int)) (by omega) (by omega) (Int.le_refl _) (by omega), Int.mul_neg]
end
theorem isPair_yes {z : List Nd} {ws vs ps qs : List (List Int)} (h : Pair z ws vs ps qs) : isPair z ws vs 0 ps 1 qs = true := by
  unfold isPair; rw [h.g, h.p, h.q]; rfl
theorem gameAt_ok {z : List Nd} {ws vs ps qs : List (List Int)} {pl ql : Int} (h : (gameAt z ws vs pl ps ql qs).2.2 = 0) : isPair z ws vs pl ps ql qs = true := by
  by_cases hp : isPair z ws vs pl ps ql qs = true
  · exact hp
  · rw [gameAt_1 (by simpa using hp)] at h; cases h
/-- The mirrored game's number. -/
theorem game_mir {z : List Nd} {ws vs ps qs : List (List Int)} {pl ql : Int} (h : (gameAt z ws vs pl ps ql qs).2.2 = 0) :
    (mirAt z ws vs).2 = 0 ∧ (gameAt (mirAt z ws vs).1.1 (mirAt z ws vs).1.2.1 (mirAt z ws vs).1.2.2 0 qs 1 ps).1 = -(gameAt z ws vs pl ps ql qs).1 ∧ (gameAt (mirAt z ws vs).1.1 (mirAt z ws vs).1.2.1 (mirAt z ws vs).1.2.2 0 qs 1 ps).2.2 = 0 := by
  have hp := gameAt_ok h
  obtain ⟨_, _, hP⟩ := isPair_ok hp
  have hm := pair_mir hP rfl
  rw [mirAt_0 rfl hP.g]
  dsimp only
  rw [gameAt_0 (k := ws.length) (show (mirWs ws ws.length ws.length).length = ws.length from mapR_len _ _) (isPair_yes hm), gameAt_0 rfl hp]
  exact ⟨rfl, numTo_mir hP rfl, rfl⟩
theorem deal_at {z : List Nd} {ws vs ps qs : List (List Int)} {pl ql : Int} {k a b : Nat} (hk : ws.length = k) (h : isPair z ws vs pl ps ql qs = true) (ha : a < k) (hb : b < k) :
    (dealAt z ws vs pl ps ql qs (a : Int) (b : Int)).2 = 0 ∧ (ws.getD a []).getD b 0 * (dealAt z ws vs pl ps ql qs (a : Int) (b : Int)).1 = dealN z ws vs k ps qs a b := by
  rw [dealAt_0 hk h (by omega) (by omega)]
  exact ⟨rfl, rfl⟩
end Go.Proofs.Ytjengglpbdgmnaa.Math
