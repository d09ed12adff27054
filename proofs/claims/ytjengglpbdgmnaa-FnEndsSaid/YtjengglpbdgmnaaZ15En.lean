/- Contracts of numbers of ends and ratios of values. Their conditions stand in each. -/
import Derived.Test.YtjengglpbdgmnaaZ14En
import Derived.Test.YtjengglpbdgmnaaZ1En
import Derived.Test.YtjengglpbdgmnaaZ2En
import Derived.Test.YtjengglpbdgmnaaZ10En
import Derived.Test.YtjengglpbdgmnaaZ12En
import Derived.Test.YtjengglpbdgmnaaZ3En
import Derived.Test.YtjengglpbdgmnaaZ4En
import Derived.Test.YtjengglpbdgmnaaZ7En
import Derived.Test.YtjengglpbdgmnaaZ8En
import Derived.Test.YtjengglpbdgmnaaZ13En
import Derived.Test.YtjengglpbdgmnaaRows
namespace Go.Proofs.Ytjengglpbdgmnaa
open Go Go.RowKit V
set_option linter.unusedVariables false
set_option linter.unusedSimpArgs false
set_option maxRecDepth 100000
theorem impl_EndNumbers_c (az : Option Addr) (nz : Nat) (cz : Nat) (Hz : Nat → Hd) (z : List Nd) (aws : Option Addr) (nws : Nat) (cws : Nat) (Hws : Nat → Hd) (ws : List (List Int)) (avs : Option Addr) (nvs : Nat) (cvs : Nat) (Hvs : Nat → Hd) (vs : List (List Int)) (pl : Int) (aps : Option Addr) (nps : Nat) (cps : Nat) (Hps : Nat → Hd) (ps : List (List Int)) (ql : Int) (aqs : Option Addr) (nqs : Nat) (cqs : Nat) (Hqs : Nat → Hd) (qs : List (List Int)) (w : World) (rz : RdR ndK az nz Hz z w) (rws : RdR maK aws nws Hws ws w) (rvs : RdR maK avs nvs Hvs vs w) (rps : RdR maK aps nps Hps ps w) (rqs : RdR maK aqs nqs Hqs qs w) :
  Calls Try.prog 70 #[.agg #[.slice az nz cz, .slice aws nws cws, .slice avs nvs cvs], .agg #[.int .i64 pl, .slice aps nps cps], .agg #[.int .i64 ql, .slice aqs nqs cqs]] w (Ret fun v w' => ∃ x : Option Addr × Nat × Nat × List Int × Int, v = .tuple #[.slice x.1 x.2.1 x.2.2.1, .int .i64 x.2.2.2.2] ∧ (x.2.2.2.1 = (Math.endsAt z ws vs pl ps ql qs).1 ∧ x.2.2.2.2 = (Math.endsAt z ws vs pl ps ql qs).2) ∧ Sep w none_ [OwnI 2 x.1 x.2.1 x.2.2.1 x.2.2.2.1] w') := by
 have kz : Kn w none_ [] (RdR ndK az nz Hz z) := fun w' hs => rz.ext hs.upd
 have lz : z.length = nz := rz.1
 have mz : nz ≤ 9223372036854775807 := rz.2.1
 have kws : Kn w none_ [] (RdR maK aws nws Hws ws) := fun w' hs => rws.ext hs.upd
 have lws : ws.length = nws := rws.1
 have mws : nws ≤ 9223372036854775807 := rws.2.1
 have kvs : Kn w none_ [] (RdR maK avs nvs Hvs vs) := fun w' hs => rvs.ext hs.upd
 have lvs : vs.length = nvs := rvs.1
 have mvs : nvs ≤ 9223372036854775807 := rvs.2.1
 have kps : Kn w none_ [] (RdR maK aps nps Hps ps) := fun w' hs => rps.ext hs.upd
 have lps : ps.length = nps := rps.1
 have mps : nps ≤ 9223372036854775807 := rps.2.1
 have kqs : Kn w none_ [] (RdR maK aqs nqs Hqs qs) := fun w' hs => rqs.ext hs.upd
 have lqs : qs.length = nqs := rqs.1
 have mqs : nqs ≤ 9223372036854775807 := rqs.2.1
 refine fn (M := none_) (rs := [.tmp 6, .tmp 7]) Try.func70 rfl Try.ntmps70 rfl rfl (Sep.start _ _) ?_
 refine hSeq ?_
 refine hReg (sl 0 (sl 1 (sl 2 (sq 3 (sq 4 sz))))) (by kernel_rfl) ?_
 refine box trv1 rfl rfl rfl rfl (fun bkb1 hbkb1 => ?_)
 refine box trv1 rfl rfl rfl rfl (fun bkb2 hbkb2 => ?_)
 refine box trv1 rfl rfl rfl rfl (fun bkb3 hbkb3 => ?_)
 refine asS rfl rfl rfl ?_
 refine asI rfl rfl rfl ?_
 refine rNil ?_
 refine qSeq rfl ?_
 refine hSeq ?_
 refine hSeq ?_
 refine hReg (sl 0 (sl 1 (sl 2 (sl 3 (sq 4 sz))))) (by kernel_rfl) ?_
 refine ldAl Try.isAgg43 Try.sizeOf43 (cBs 2 rfl) trv rfl rfl rfl rfl ?_
 refine ldAl Try.isAgg56 Try.sizeOf56 (cBs 1 rfl) trv rfl rfl rfl rfl ?_
 refine ldAl Try.isAgg56 Try.sizeOf56 (cBs 0 rfl) trv rfl rfl rfl rfl ?_
 refine callP (v := .bool (Math.isPair z ws vs pl ps ql qs)) Try.call142 trv rfl rfl (fun w hs => impl_arePair_c _ nz cz _ _ _ nws cws _ _ _ nvs cvs _ _ _ _ nps cps _ _ _ _ nqs cqs _ _ w (Kn.drop (k := 3) kz w hs) (Kn.drop (k := 3) kws w hs) (Kn.drop (k := 3) kvs w hs) (Kn.drop (k := 3) kps w hs) (Kn.drop (k := 3) kqs w hs)) ?_
 refine not rfl rfl rfl ?_
 refine rNil ?_
 refine qSeq rfl ?_
 refine hIfN rfl (fun c1 => ?_) (fun c1 => ?_)
 ·
  replace c1 : (Math.isPair z ws vs pl ps ql qs) = false := c1
  refine hSeq ?_
  refine hReg (sq 0 (sq 1 sz)) (by kernel_rfl) ?_
  refine asS rfl rfl rfl ?_
  refine asI rfl rfl rfl ?_
  refine rNil ?_
  refine qSeq rfl ?_
  refine hRet ?_
  refine knP (fun _ h => Sep.nilI 2 h) ?_
  exact fun w hs => ⟨[.slice none 0 0, .int .i64 1], ⟨rfl, ⟨rfl, trivial⟩⟩, ⟨(none, 0, 0, [], 1), rfl, by rw [Math.endsAt_1 (by assumption)]; exact ⟨rfl, rfl⟩, hs.pick [0]⟩⟩
 ·
  replace c1 : (Math.isPair z ws vs pl ps ql qs) = true := c1
  have hpo := Math.isPair_ok c1
  have hP := hpo.2.2
  have hg := hP.g
  have hG := Math.isGame_ok hg
  rw [lws] at hG
  have hT := Math.isTree_ok hG.1
  have hvl := Math.mat_len hG.2.2.2.1
  have hpq := Math.pair_len hP lws
  refine hSkip ?_
  refine qSeq rfl ?_
  refine hSeq ?_
  refine hReg (sl 0 (sl 1 (sl 2 (sl 3 (sq 4 sz))))) (by kernel_rfl) ?_
  refine ldAl Try.isAgg43 Try.sizeOf43 (cBs 2 rfl) trv rfl rfl rfl rfl ?_
  refine ldAl Try.isAgg56 Try.sizeOf56 (cBs 1 rfl) trv rfl rfl rfl rfl ?_
  refine ldAl Try.isAgg56 Try.sizeOf56 (cBs 0 rfl) trv rfl rfl rfl rfl ?_
  refine callS Try.call143 trv1 rfl rfl (fun w hs => impl_newEvaluator_c _ nz cz _ _ _ nws cws _ _ _ nvs cvs _ _ _ _ nps cps _ _ _ _ nqs cqs _ _ w (Kn.drop (k := 3) kz w hs) (Kn.drop (k := 3) kws w hs) (Kn.drop (k := 3) kvs w hs) (Kn.drop (k := 3) kps w hs) (Kn.drop (k := 3) kqs w hs) (by assumption)) ?_
  rintro ⟨be1, af01, nf01, cf01, f01, af11, nf11, cf11, f11, apr1, npr1, cpr1, pr1⟩ ⟨hr1a, hr1b, hr1c⟩
  dsimp only at hr1a hr1b hr1c
  subst f01
  subst f11
  subst pr1
  refine rKnow (fun w hs => (show OwnI 3 af01 nf01 cf01 (Math.firstOf z nws 0) w from hs.at_ 1 rfl).lenz) (fun lenn6 => ?_)
  refine rKnow (fun w hs => (show OwnI 3 af11 nf11 cf11 (Math.firstOf z nws 1) w from hs.at_ 2 rfl).lenz) (fun lenn7 => ?_)
  refine rKnow (fun w hs => (show OwnI 2 apr1 npr1 cpr1 (Math.parOf z) w from hs.at_ 3 rfl).lenz) (fun lenn8 => ?_)
  refine asn rfl rfl rfl ?_
  refine rNil ?_
  refine qSeq rfl ?_
  refine hSeq ?_
  refine hReg (sq 0 sz) (by kernel_rfl) ?_
  refine asS rfl rfl rfl ?_
  refine rNil ?_
  refine qSeq rfl ?_
  refine hSeq ?_
  refine hSeq ?_
  refine hReg (sq 0 (sl 1 (sl 2 (sq 3 (sq 4 sz))))) (by kernel_rfl) ?_
  refine fld fl43_0 rfl rfl rfl ?_
  refine ldAl Try.isAgg26 Try.sizeOf26 (cBp (m := 1) 6 rfl rfl) trv rfl rfl rfl rfl ?_
  refine callS Try.call93 trv1 rfl rfl (fun w hs => impl_nodesOf_c _ nz cz _ _ _ w (Kn.drop (k := 7) kz w hs) (by omega)) ?_
  rintro ⟨ay2, ny2, cy2, y2⟩ hr2
  dsimp only at hr2
  subst y2
  refine rKnow (fun w hs => (show OwnI 2 ay2 ny2 cy2 (((Math.nodesOf z (2 : Int)))) w from hs.at_ 0 rfl).lenz) (fun lenn9 => ?_)
  refine lenS Try.runUnderlying28 rfl rfl rfl ?_
  refine mvI rfl rfl rfl ?_
  refine rNil ?_
  refine qSeq rfl ?_
  refine hBlk ?_
  refine hPieces (fun _ h => Sep.nilI 2 h) ?_
  refine hLoop (α := Nat × Nat × Hd) (fun x => x.1 ≤ ny2 ∧ x.2.1 = x.1) (fun x => ny2 - x.1) (fun x => [OwnI 2 x.2.2.1 x.2.1 x.2.2.2 (Math.endsTo z ws nws ps qs x.1), OwnI 2 ay2 ny2 cy2 (((Math.nodesOf z (2 : Int)))), blk be1 158 [.slice az nz cz, .slice aws nws cws, .slice avs nvs cvs, .slice af01 nf01 cf01, .slice af11 nf11 cf11, .slice aps nps cps, .slice aqs nqs cqs, .slice apr1 npr1 cpr1], OwnI 3 af01 nf01 cf01 (Math.firstOf z nws 0), OwnI 3 af11 nf11 cf11 (Math.firstOf z nws 1), OwnI 2 apr1 npr1 cpr1 (Math.parOf z), blk bkb3 56 [.int .i64 ql, .slice aqs nqs cqs], blk bkb2 56 [.int .i64 pl, .slice aps nps cps], blk bkb1 43 [.slice az nz cz, .slice aws nws cws, .slice avs nvs cvs]]) (fun x => [(8, .pointer (some ⟨be1, 0, none⟩)), (9, .slice x.2.2.1 x.2.1 x.2.2.2), (23, .slice ay2 ny2 cy2), (24, .int .i64 (ny2 : Int)), (25, .int .i64 (x.1 : Int))]) ((0, 0, (none, 0))) ⟨Nat.zero_le _, rfl⟩ (fun _ h => h.pick [0, 0, 0, 0, 0, 0, 0, 0, 0]) ⟨rfl, rfl, rfl, rfl, rfl, trivial⟩ ?_
  rintro ⟨i, q, hd⟩ τ1 ⟨hi, hq⟩
  dsimp only at hi hq
  refine hRe [(8, .pointer (some ⟨be1, 0, none⟩)), (9, .slice hd.1 q hd.2), (23, .slice ay2 ny2 cy2), (24, .int .i64 (ny2 : Int)), (25, .int .i64 (i : Int))] [OwnI 2 hd.1 q hd.2 (Math.endsTo z ws nws ps qs i), OwnI 2 ay2 ny2 cy2 (((Math.nodesOf z (2 : Int)))), blk be1 158 [.slice az nz cz, .slice aws nws cws, .slice avs nvs cvs, .slice af01 nf01 cf01, .slice af11 nf11 cf11, .slice aps nps cps, .slice aqs nqs cqs, .slice apr1 npr1 cpr1], OwnI 3 af01 nf01 cf01 (Math.firstOf z nws 0), OwnI 3 af11 nf11 cf11 (Math.firstOf z nws 1), OwnI 2 apr1 npr1 cpr1 (Math.parOf z), blk bkb3 56 [.int .i64 ql, .slice aqs nqs cqs], blk bkb2 56 [.int .i64 pl, .slice aps nps cps], blk bkb1 43 [.slice az nz cz, .slice aws nws cws, .slice avs nvs cvs]] rfl rfl ?_
  refine hSeq ?_
  refine hReg (sq 0 sz) (by kernel_rfl) ?_
  refine lss rfl rfl rfl rfl ?_
  refine rNil ?_
  refine qSeq rfl ?_
  refine hSeq ?_
  refine hIfD rfl (fun c2 => ?_) (fun c2 => ?_)
  ·
   replace c2 : (i : Int) < (ny2 : Int) := c2
   have hnm := (Math.nodesOf_mem (Math.getD_mem 0 (show i < (Math.nodesOf z 2).length by omega))).1
   have hnl := Math.nodesOf_len z 2
   refine hSkip ?_
   refine qSeq rfl ?_
   refine hSeq ?_
   refine hBlk ?_
   refine hSeq ?_
   refine hReg (sq 0 (sl 1 (sq 2 sz))) (by kernel_rfl) ?_
   refine ixIl (zn := i) el28 ((Kn.at_ 1 rfl).imp fun _ h => OwnI.rd h) rfl rfl rfl rfl (by omega) (by omega) rfl ?_
   intro ae3 e3
   refine ldl Try.isAgg2 (e3) trv rfl rfl rfl ?_
   refine asI rfl rfl rfl ?_
   refine rNil ?_
   refine qSeq rfl ?_
   refine hReg (sq 0 (sq 1 (sq 2 (sl 3 (sl 4 (sl 5 (sq 6 sz))))))) (by kernel_rfl) ?_
   refine mvS rfl rfl rfl ?_
   refine mvP rfl rfl rfl ?_
   refine mvI rfl rfl rfl ?_
   refine callP (v := .int .i64 ((Math.reTo z ws nws ps qs (((((Math.nodesOf z (2 : Int)))).getD i 0)) nws))) Try.call144 trv rfl rfl (fun w hs => impl_evaluator_reach_c be1 _ nz cz _ _ _ nws cws _ _ _ nvs cvs _ _ _ nf01 cf01 _ _ nf11 cf11 _ _ nps cps _ _ _ nqs cqs _ _ _ npr1 cpr1 _ _ w (RdB.of (hs.at_ 2 rfl)) (Kn.drop (k := 9) kz w hs) (Kn.drop (k := 9) kws w hs) (Kn.drop (k := 9) kvs w hs) (OwnI.rd (hs.at_ 3 rfl)) (OwnI.rd (hs.at_ 4 rfl)) (Kn.drop (k := 9) kps w hs) (Kn.drop (k := 9) kqs w hs) (OwnI.rd (hs.at_ 5 rfl)) (by assumption) (by first | rfl | assumption) (by first | rfl | assumption) (by first | rfl | assumption) (by omega)) ?_
   refine bsl trv1 rfl rfl rfl (bsl28_1 (.int .i64 _) rfl) (fun bkl11 hbkl11 => ?_)
   refine aplI (N := q) (x := (Math.reTo z ws nws ps qs (((((Math.nodesOf z (2 : Int)))).getD i 0)) nws)) 1 0 rfl rfl mk28 trv1 rfl rfl rfl rfl (by omega) ?_
   intro aq4 cq4
   refine asS rfl rfl rfl ?_
   refine rNil ?_
   refine qSeq rfl ?_
   refine hReg (sq 0 (sq 1 sz)) (by kernel_rfl) ?_
   refine add rfl rfl rfl rfl (by omega) ?_
   refine mvI rfl rfl rfl ?_
   refine rNil ?_
   rw [Math.endsTo_s]
   exact qNext rfl ((i + 1, q + 1, (aq4, cq4))) (by dsimp only; omega) ⟨by dsimp only; omega, by dsimp only; omega⟩ ⟨rfl, rfl, rfl, rfl, rfl, trivial⟩ (fun _ h => h.pick [1, 1, 1, 1, 1, 1, 1, 1, 1])
  ·
   replace c2 : ¬ ((i : Int) < (ny2 : Int)) := c2
   refine hExit rfl ?_
   refine qSeq rfl ?_
   refine hSeq ?_
   refine hReg (sq 0 (sq 1 (sq 2 sz))) (by kernel_rfl) ?_
   refine mvS rfl rfl rfl ?_
   refine asS rfl rfl rfl ?_
   refine asI rfl rfl rfl ?_
   refine rNil ?_
   refine qSeq rfl ?_
   refine hRet ?_
   exact fun w hs => ⟨[.slice hd.1 q hd.2, .int .i64 0], ⟨rfl, ⟨rfl, trivial⟩⟩, ⟨(hd.1, q, hd.2, (Math.endsTo z ws nws ps qs i), 0), rfl, by rw [Math.endsAt_0 lws (by assumption) (show i = (Math.nodesOf z 2).length by omega)]; exact ⟨rfl, rfl⟩, hs.pick [0]⟩⟩
theorem spec_EndNumbers_c (az : Option Addr) (nz : Nat) (cz : Nat) (Hz : Nat → Hd) (z : List Nd) (aws : Option Addr) (nws : Nat) (cws : Nat) (Hws : Nat → Hd) (ws : List (List Int)) (avs : Option Addr) (nvs : Nat) (cvs : Nat) (Hvs : Nat → Hd) (vs : List (List Int)) (pl : Int) (aps : Option Addr) (nps : Nat) (cps : Nat) (Hps : Nat → Hd) (ps : List (List Int)) (ql : Int) (aqs : Option Addr) (nqs : Nat) (cqs : Nat) (Hqs : Nat → Hd) (qs : List (List Int)) (w : World) (rz : RdR ndK az nz Hz z w) (rws : RdR maK aws nws Hws ws w) (rvs : RdR maK avs nvs Hvs vs w) (rps : RdR maK aps nps Hps ps w) (rqs : RdR maK aqs nqs Hqs qs w) :
  Calls Try.prog 71 #[.agg #[.slice az nz cz, .slice aws nws cws, .slice avs nvs cvs], .agg #[.int .i64 pl, .slice aps nps cps], .agg #[.int .i64 ql, .slice aqs nqs cqs]] w (Ret fun v w' => ∃ x : Option Addr × Nat × Nat × List Int × Int, v = .tuple #[.slice x.1 x.2.1 x.2.2.1, .int .i64 x.2.2.2.2] ∧ (x.2.2.2.1 = (Math.endsAt z ws vs pl ps ql qs).1 ∧ x.2.2.2.2 = (Math.endsAt z ws vs pl ps ql qs).2) ∧ Sep w none_ [OwnI 2 x.1 x.2.1 x.2.2.1 x.2.2.2.1] w') := by
 have kz : Kn w none_ [] (RdR ndK az nz Hz z) := fun w' hs => rz.ext hs.upd
 have lz : z.length = nz := rz.1
 have mz : nz ≤ 9223372036854775807 := rz.2.1
 have kws : Kn w none_ [] (RdR maK aws nws Hws ws) := fun w' hs => rws.ext hs.upd
 have lws : ws.length = nws := rws.1
 have mws : nws ≤ 9223372036854775807 := rws.2.1
 have kvs : Kn w none_ [] (RdR maK avs nvs Hvs vs) := fun w' hs => rvs.ext hs.upd
 have lvs : vs.length = nvs := rvs.1
 have mvs : nvs ≤ 9223372036854775807 := rvs.2.1
 have kps : Kn w none_ [] (RdR maK aps nps Hps ps) := fun w' hs => rps.ext hs.upd
 have lps : ps.length = nps := rps.1
 have mps : nps ≤ 9223372036854775807 := rps.2.1
 have kqs : Kn w none_ [] (RdR maK aqs nqs Hqs qs) := fun w' hs => rqs.ext hs.upd
 have lqs : qs.length = nqs := rqs.1
 have mqs : nqs ≤ 9223372036854775807 := rqs.2.1
 refine fn (M := none_) (rs := [.tmp 6, .tmp 7]) Try.func71 rfl Try.ntmps71 rfl rfl (Sep.start _ _) ?_
 refine hSeq ?_
 refine hReg (sl 0 (sl 1 (sl 2 (sq 3 (sq 4 sz))))) (by kernel_rfl) ?_
 refine box trv1 rfl rfl rfl rfl (fun bkb1 hbkb1 => ?_)
 refine box trv1 rfl rfl rfl rfl (fun bkb2 hbkb2 => ?_)
 refine box trv1 rfl rfl rfl rfl (fun bkb3 hbkb3 => ?_)
 refine asS rfl rfl rfl ?_
 refine asI rfl rfl rfl ?_
 refine rNil ?_
 refine qSeq rfl ?_
 refine hSeq ?_
 refine hSeq ?_
 refine hReg (sl 0 (sl 1 (sl 2 (sl 3 (sq 4 sz))))) (by kernel_rfl) ?_
 refine ldAl Try.isAgg43 Try.sizeOf43 (cBs 2 rfl) trv rfl rfl rfl rfl ?_
 refine ldAl Try.isAgg56 Try.sizeOf56 (cBs 1 rfl) trv rfl rfl rfl rfl ?_
 refine ldAl Try.isAgg56 Try.sizeOf56 (cBs 0 rfl) trv rfl rfl rfl rfl ?_
 refine callP (v := .bool (Math.isPair z ws vs pl ps ql qs)) Try.call145 trv rfl rfl (fun w hs => spec_l23Pair_c _ nz cz _ _ _ nws cws _ _ _ nvs cvs _ _ _ _ nps cps _ _ _ _ nqs cqs _ _ w (Kn.drop (k := 3) kz w hs) (Kn.drop (k := 3) kws w hs) (Kn.drop (k := 3) kvs w hs) (Kn.drop (k := 3) kps w hs) (Kn.drop (k := 3) kqs w hs)) ?_
 refine not rfl rfl rfl ?_
 refine rNil ?_
 refine qSeq rfl ?_
 refine hIfN rfl (fun c1 => ?_) (fun c1 => ?_)
 ·
  replace c1 : (Math.isPair z ws vs pl ps ql qs) = false := c1
  refine hSeq ?_
  refine hReg (sq 0 (sq 1 sz)) (by kernel_rfl) ?_
  refine asS rfl rfl rfl ?_
  refine asI rfl rfl rfl ?_
  refine rNil ?_
  refine qSeq rfl ?_
  refine hRet ?_
  refine knP (fun _ h => Sep.nilI 2 h) ?_
  exact fun w hs => ⟨[.slice none 0 0, .int .i64 1], ⟨rfl, ⟨rfl, trivial⟩⟩, ⟨(none, 0, 0, [], 1), rfl, by rw [Math.endsAt_1 (by assumption)]; exact ⟨rfl, rfl⟩, hs.pick [0]⟩⟩
 ·
  replace c1 : (Math.isPair z ws vs pl ps ql qs) = true := c1
  have hpo := Math.isPair_ok c1
  have hP := hpo.2.2
  have hg := hP.g
  have hG := Math.isGame_ok hg
  rw [lws] at hG
  have hT := Math.isTree_ok hG.1
  have hvl := Math.mat_len hG.2.2.2.1
  have hpq := Math.pair_len hP lws
  refine hSkip ?_
  refine qSeq rfl ?_
  refine hSeq ?_
  refine hReg (sq 0 (sl 1 (sl 2 (sq 3 sz)))) (by kernel_rfl) ?_
  refine fld fl43_0 rfl rfl rfl ?_
  refine ldAl Try.isAgg26 Try.sizeOf26 (cBp (m := 1) 2 rfl rfl) trv rfl rfl rfl rfl ?_
  refine callS Try.call94 trv1 rfl rfl (fun w hs => spec_l20Of_c _ nz cz _ _ _ w (Kn.drop (k := 3) kz w hs) (by omega)) ?_
  rintro ⟨ay1, ny1, cy1, y1⟩ hr1
  dsimp only at hr1
  subst y1
  refine rKnow (fun w hs => (show OwnI 2 ay1 ny1 cy1 (((Math.nodesOf z (2 : Int)))) w from hs.at_ 0 rfl).lenz) (fun lenn5 => ?_)
  refine asS rfl rfl rfl ?_
  refine rNil ?_
  refine qSeq rfl ?_
  refine hSeq ?_
  refine hReg (sl 0 (sq 1 sz)) (by kernel_rfl) ?_
  refine bsl trv1 rfl rfl rfl (bsl28_0) (fun bkl6 hbkl6 => ?_)
  refine asS rfl rfl rfl ?_
  refine rNil ?_
  refine qSeq rfl ?_
  refine hSeq ?_
  refine hSeq ?_
  refine hReg (sq 0 sz) (by kernel_rfl) ?_
  refine asI rfl rfl rfl ?_
  refine rNil ?_
  refine qSeq rfl ?_
  refine hBlk ?_
  refine hPieces (fun _ h => Sep.litI h 0 [] rfl rfl rfl) ?_
  refine hLoop (α := Nat × Nat × Hd) (fun x => x.1 ≤ ny1 ∧ x.2.1 = x.1) (fun x => ny1 - x.1) (fun x => [OwnI 2 x.2.2.1 x.2.1 x.2.2.2 (Math.endsTo z ws nws ps qs x.1), OwnI 2 ay1 ny1 cy1 (((Math.nodesOf z (2 : Int)))), blk bkb3 56 [.int .i64 ql, .slice aqs nqs cqs], blk bkb2 56 [.int .i64 pl, .slice aps nps cps], blk bkb1 43 [.slice az nz cz, .slice aws nws cws, .slice avs nvs cvs]]) (fun x => [(3, .pointer (some ⟨bkb1, 0, none⟩)), (4, .pointer (some ⟨bkb2, 0, none⟩)), (5, .pointer (some ⟨bkb3, 0, none⟩)), (8, .slice ay1 ny1 cy1), (9, .slice x.2.2.1 x.2.1 x.2.2.2), (10, .int .i64 (x.1 : Int))]) ((0, 0, ((some ⟨bkl6, 0, none⟩), 0))) ⟨Nat.zero_le _, rfl⟩ (fun _ h => h.pick [0, 0, 0, 0, 0]) ⟨rfl, rfl, rfl, rfl, rfl, rfl, trivial⟩ ?_
  rintro ⟨i, q, hd⟩ τ1 ⟨hi, hq⟩
  dsimp only at hi hq
  refine hRe [(3, .pointer (some ⟨bkb1, 0, none⟩)), (4, .pointer (some ⟨bkb2, 0, none⟩)), (5, .pointer (some ⟨bkb3, 0, none⟩)), (8, .slice ay1 ny1 cy1), (9, .slice hd.1 q hd.2), (10, .int .i64 (i : Int))] [OwnI 2 hd.1 q hd.2 (Math.endsTo z ws nws ps qs i), OwnI 2 ay1 ny1 cy1 (((Math.nodesOf z (2 : Int)))), blk bkb3 56 [.int .i64 ql, .slice aqs nqs cqs], blk bkb2 56 [.int .i64 pl, .slice aps nps cps], blk bkb1 43 [.slice az nz cz, .slice aws nws cws, .slice avs nvs cvs]] rfl rfl ?_
  refine hSeq ?_
  refine hSeq ?_
  refine hReg (sq 0 (sq 1 (sq 2 (sq 3 sz)))) (by kernel_rfl) ?_
  refine mvI rfl rfl rfl ?_
  refine mvS rfl rfl rfl ?_
  refine lenS Try.runUnderlying28 rfl rfl rfl ?_
  refine lss rfl rfl rfl rfl ?_
  refine rNil ?_
  refine qSeq rfl ?_
  refine hIfD rfl (fun c2 => ?_) (fun c2 => ?_)
  ·
   replace c2 : (i : Int) < (ny1 : Int) := c2
   have hnm := (Math.nodesOf_mem (Math.getD_mem 0 (show i < (Math.nodesOf z 2).length by omega))).1
   have hnl := Math.nodesOf_len z 2
   refine hSkip ?_
   refine qSeq rfl ?_
   refine hSeq ?_
   refine hBlk ?_
   refine hDraw (Ls := [OwnI 2 ay1 ny1 cy1 (((Math.nodesOf z (2 : Int)))), blk bkb3 56 [.int .i64 ql, .slice aqs nqs cqs], blk bkb2 56 [.int .i64 pl, .slice aps nps cps], blk bkb1 43 [.slice az nz cz, .slice aws nws cws, .slice avs nvs cvs]]) (by kernel_rfl) (sq 0 (sq 1 (sq 2 (sq 3 (sq 4 (sq 5 (sq 6 (sq 7 (sl 8 (sl 9 (sl 10 (sq 11 sz)))))))))))) (by kernel_rfl) (.cons _ (.cons_cons _ (.cons_cons _ (.cons_cons _ (.cons_cons _ .slnil))))) ?_
   refine mvS rfl rfl rfl ?_
   refine ldAq Try.isAgg43 Try.sizeOf43 (cBs 3 rfl) rfl rfl rfl rfl ?_
   refine ldAq Try.isAgg56 Try.sizeOf56 (cBs 2 rfl) rfl rfl rfl rfl ?_
   refine ldAq Try.isAgg56 Try.sizeOf56 (cBs 1 rfl) rfl rfl rfl rfl ?_
   refine mvS rfl rfl rfl ?_
   refine mvI rfl rfl rfl ?_
   refine ixIq (zn := i) el28 ((Kn.at_ 0 rfl).imp fun _ h => OwnI.rd h) (fun _ h => h.pick [1, 1, 1, 1]) rfl rfl rfl rfl (by omega) (by omega) rfl ?_
   intro ae2 e2
   refine ldq Try.isAgg2 (e2) rfl rfl rfl ?_
   refine callP (v := .int .i64 ((Math.reTo z ws nws ps qs (((((Math.nodesOf z (2 : Int)))).getD i 0)) nws))) Try.call146 (fun _ h => h.pick [1, 1, 1, 1]) rfl rfl (fun w hs => spec_l23Reach_c _ nz cz _ _ _ nws cws _ _ _ nvs cvs _ _ _ _ nps cps _ _ _ _ nqs cqs _ _ _ w (Kn.drop (k := 5) kz w hs) (Kn.drop (k := 5) kws w hs) (Kn.drop (k := 5) kvs w hs) (Kn.drop (k := 5) kps w hs) (Kn.drop (k := 5) kqs w hs) (by assumption) (by omega)) ?_
   refine bsl (fun _ _ h => h.pick [2, 2, 2, 2]) rfl rfl rfl (bsl28_1 (.int .i64 _) rfl) (fun bkl7 hbkl7 => ?_)
   refine aplI (N := q) (x := (Math.reTo z ws nws ps qs (((((Math.nodesOf z (2 : Int)))).getD i 0)) nws)) 1 0 rfl rfl mk28 (fun _ _ h => h.pick [2, 2, 2, 2]) rfl rfl rfl rfl (by omega) ?_
   intro aq3 cq3
   refine asS rfl rfl rfl ?_
   refine rNil ?_
   refine qSeq rfl ?_
   refine hReg (sq 0 (sq 1 (sq 2 sz))) (by kernel_rfl) ?_
   refine mvI rfl rfl rfl ?_
   refine add rfl rfl rfl rfl (by omega) ?_
   refine asI rfl rfl rfl ?_
   refine rNil ?_
   rw [Math.endsTo_s]
   exact qNext rfl ((i + 1, q + 1, (aq3, cq3))) (by dsimp only; omega) ⟨by dsimp only; omega, by dsimp only; omega⟩ ⟨rfl, rfl, rfl, rfl, rfl, rfl, trivial⟩ (fun _ h => h.pick [1, 1, 1, 1, 1])
  ·
   replace c2 : ¬ ((i : Int) < (ny1 : Int)) := c2
   refine hExit rfl ?_
   refine qSeq rfl ?_
   refine hSeq ?_
   refine hReg (sq 0 (sq 1 (sq 2 sz))) (by kernel_rfl) ?_
   refine mvS rfl rfl rfl ?_
   refine asS rfl rfl rfl ?_
   refine asI rfl rfl rfl ?_
   refine rNil ?_
   refine qSeq rfl ?_
   refine hRet ?_
   exact fun w hs => ⟨[.slice hd.1 q hd.2, .int .i64 0], ⟨rfl, ⟨rfl, trivial⟩⟩, ⟨(hd.1, q, hd.2, (Math.endsTo z ws nws ps qs i), 0), rfl, by rw [Math.endsAt_0 lws (by assumption) (show i = (Math.nodesOf z 2).length by omega)]; exact ⟨rfl, rfl⟩, hs.pick [0]⟩⟩
end Go.Proofs.Ytjengglpbdgmnaa
/- Contracts of sums. Their conditions stand in each. -/
namespace Go.Proofs.Ytjengglpbdgmnaa
open Go Go.RowKit V
set_option linter.unusedVariables false
set_option linter.unusedSimpArgs false
set_option maxRecDepth 100000
theorem laws_sum_c (az : Option Addr) (nz : Nat) (cz : Nat) (z : List Int) (w : World) (rz : RdI az nz z w) (hb : ∀ x ∈ z, 0 ≤ x ∧ x ≤ 251942400000) (hl : z.length ≤ 1000) :
  Calls Try.prog 78 #[.slice az nz cz] w (Ret fun v w' => v = .int .i64 z.sum ∧ Ext w w') := by
 have kz : Kn w none_ [] (RdI az nz z) := fun w' hs => rz.ext hs.upd
 have lz : z.length = nz := rz.1
 have mz : nz ≤ 9223372036854775807 := rz.2.1
 refine fn (M := none_) (rs := [.tmp 2]) Try.func78 rfl Try.ntmps78 rfl rfl (Sep.start _ _) ?_
 refine hSeq ?_
 refine hReg (sq 0 sz) (by kernel_rfl) ?_
 refine asI rfl rfl rfl ?_
 refine rNil ?_
 refine qSeq rfl ?_
 refine hSeq ?_
 refine hReg (sq 0 sz) (by kernel_rfl) ?_
 refine asI rfl rfl rfl ?_
 refine rNil ?_
 refine qSeq rfl ?_
 refine hSeq ?_
 refine hSeq ?_
 refine hReg (sq 0 sz) (by kernel_rfl) ?_
 refine asI rfl rfl rfl ?_
 refine rNil ?_
 refine qSeq rfl ?_
 refine hBlk ?_
 refine hLoop (α := Nat × Int) (fun x => x.1 ≤ nz ∧ x.2 = (z.take x.1).sum) (fun x => nz - x.1) (fun x => []) (fun x => [(0, .slice az nz cz), (3, .int .i64 x.2), (4, .int .i64 (x.1 : Int))]) (0, 0) ⟨Nat.zero_le _, rfl⟩ (fun _ h => h.pick []) ⟨rfl, rfl, rfl, trivial⟩ ?_
 rintro ⟨i, a⟩ τ1 ⟨hi, ha⟩
 dsimp only at hi ha
 refine hRe [(0, .slice az nz cz), (3, .int .i64 a), (4, .int .i64 (i : Int))] [] rfl rfl ?_
 refine hSeq ?_
 refine hSeq ?_
 refine hReg (sq 0 (sq 1 (sq 2 (sq 3 sz)))) (by kernel_rfl) ?_
 refine mvI rfl rfl rfl ?_
 refine mvS rfl rfl rfl ?_
 refine lenS Try.runUnderlying28 rfl rfl rfl ?_
 refine lss rfl rfl rfl rfl ?_
 refine rNil ?_
 refine qSeq rfl ?_
 refine hIfD rfl (fun c1 => ?_) (fun c1 => ?_)
 ·
  replace c1 : (i : Int) < (nz : Int) := c1
  have hs1 := Math.sum_bd hb i (by omega)
  have hs2 := hb _ (Math.getD_mem 0 (show i < z.length by omega))
  refine hSkip ?_
  refine qSeq rfl ?_
  refine hSeq ?_
  refine hBlk ?_
  refine hReg (sq 0 (sq 1 (sq 2 (sq 3 (sl 4 (sq 5 (sq 6 sz))))))) (by kernel_rfl) ?_
  refine mvI rfl rfl rfl ?_
  refine mvS rfl rfl rfl ?_
  refine mvI rfl rfl rfl ?_
  refine ixIl (zn := i) el28 (kz) rfl rfl rfl rfl (by omega) (by omega) rfl ?_
  intro ae1 e1
  refine ldl Try.isAgg2 (e1) trv rfl rfl rfl ?_
  refine add rfl rfl rfl rfl (by omega) ?_
  refine asI rfl rfl rfl ?_
  refine rNil ?_
  refine qSeq rfl ?_
  refine hReg (sq 0 (sq 1 (sq 2 sz))) (by kernel_rfl) ?_
  refine mvI rfl rfl rfl ?_
  refine add rfl rfl rfl rfl (by omega) ?_
  refine asI rfl rfl rfl ?_
  refine rNil ?_
  exact qNext rfl (i + 1, a + z.getD i 0) (by dsimp only; omega) ⟨by omega, by dsimp only; rw [ha, Math.sum_step (by omega)]⟩ ⟨rfl, rfl, rfl, trivial⟩ (fun _ h => h.pick [])
 ·
  replace c1 : ¬ ((i : Int) < (nz : Int)) := c1
  refine hExit rfl ?_
  refine qSeq rfl ?_
  refine hSeq ?_
  refine hReg (sq 0 (sq 1 sz)) (by kernel_rfl) ?_
  refine mvI rfl rfl rfl ?_
  refine asI rfl rfl rfl ?_
  refine rNil ?_
  refine qSeq rfl ?_
  refine hRet ?_
  exact fun w hs => ⟨[.int .i64 a], ⟨rfl, trivial⟩, ⟨vI (by rw [ha, List.take_of_length_le (by omega)]), hs.upd⟩⟩
end Go.Proofs.Ytjengglpbdgmnaa
