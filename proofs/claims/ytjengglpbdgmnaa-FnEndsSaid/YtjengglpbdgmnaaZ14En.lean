/- Contracts of what reaches a node. Their conditions stand in each. -/
import Derived.Test.YtjengglpbdgmnaaZ13En
import Derived.Test.YtjengglpbdgmnaaZ1En
import Derived.Test.YtjengglpbdgmnaaZ2En
import Derived.Test.YtjengglpbdgmnaaZ10En
import Derived.Test.YtjengglpbdgmnaaZ12En
import Derived.Test.YtjengglpbdgmnaaZ3En
import Derived.Test.YtjengglpbdgmnaaZ4En
import Derived.Test.YtjengglpbdgmnaaZ7En
import Derived.Test.YtjengglpbdgmnaaZ8En
import Derived.Test.YtjengglpbdgmnaaRows
namespace Go.Proofs.Ytjengglpbdgmnaa
open Go Go.RowKit V
set_option linter.unusedVariables false
set_option linter.unusedSimpArgs false
set_option maxRecDepth 100000
set_option maxHeartbeats 2000000 in
theorem spec_l23Reach_c (az : Option Addr) (nz : Nat) (cz : Nat) (Hz : Nat → Hd) (z : List Nd) (aws : Option Addr) (nws : Nat) (cws : Nat) (Hws : Nat → Hd) (ws : List (List Int)) (avs : Option Addr) (nvs : Nat) (cvs : Nat) (Hvs : Nat → Hd) (vs : List (List Int)) (pl : Int) (aps : Option Addr) (nps : Nat) (cps : Nat) (Hps : Nat → Hd) (ps : List (List Int)) (ql : Int) (aqs : Option Addr) (nqs : Nat) (cqs : Nat) (Hqs : Nat → Hd) (qs : List (List Int)) (n : Int) (w : World) (rz : RdR ndK az nz Hz z w) (rws : RdR maK aws nws Hws ws w) (rvs : RdR maK avs nvs Hvs vs w) (rps : RdR maK aps nps Hps ps w) (rqs : RdR maK aqs nqs Hqs qs w) (hP : Math.Pair z ws vs ps qs) (hn : 0 ≤ n ∧ n < (nz : Int)) :
  Calls Try.prog 146 #[.agg #[.slice az nz cz, .slice aws nws cws, .slice avs nvs cvs], .agg #[.int .i64 pl, .slice aps nps cps], .agg #[.int .i64 ql, .slice aqs nqs cqs], .int .i64 n] w (Ret fun v w' => v = .int .i64 (Math.reTo z ws nws ps qs n nws) ∧ Ext w w') := by
 have kz : Kn w none_ [] (RdR ndK az nz Hz z) := fun w' hs => rz.ext hs.upd
 have lz : z.length = nz := rz.1
 have mz : nz ≤ 9223372036854775807 := rz.2.1
 have kws : Kn w none_ [] (RdR maK aws nws Hws ws) := fun w' hs => rws.ext hs.upd
 have lws : ws.length = nws := rws.1
 have mws : nws ≤ 9223372036854775807 := rws.2.1
 have kvs : Kn w none_ [] (RdR maK avs nvs Hvs vs) := fun w' hs => rvs.ext hs.upd
 have lvs : vs.length = nvs := rvs.1
 have mvs : nvs ≤ 9223372036854775807 := rvs.2.1
 have kps : Kn w none_ [] (RdR maK aps nps Hps ps) := fun w' hs => rps.ext hs.upd
 have lps : ps.length = nps := rps.1
 have mps : nps ≤ 9223372036854775807 := rps.2.1
 have kqs : Kn w none_ [] (RdR maK aqs nqs Hqs qs) := fun w' hs => rqs.ext hs.upd
 have lqs : qs.length = nqs := rqs.1
 have mqs : nqs ≤ 9223372036854775807 := rqs.2.1
 have hg := hP.g
 have hG := Math.isGame_ok hg
 rw [lws] at hG
 have hT := Math.isTree_ok hG.1
 have hvl := Math.mat_len hG.2.2.2.1
 have hpq := Math.pair_len hP lws
 have hwl := Math.way_leads hG.1 (show 0 ≤ n ∧ n < z.length by omega)
 refine fn (M := none_) (rs := [.tmp 8]) Try.func146 rfl Try.ntmps146 rfl rfl (Sep.start _ _) ?_
 refine hSeq ?_
 refine hReg (sl 0 (sl 1 (sl 2 (sq 3 sz)))) (by kernel_rfl) ?_
 refine box trv1 rfl rfl rfl rfl (fun bkb1 hbkb1 => ?_)
 refine box trv1 rfl rfl rfl rfl (fun bkb2 hbkb2 => ?_)
 refine box trv1 rfl rfl rfl rfl (fun bkb3 hbkb3 => ?_)
 refine asI rfl rfl rfl ?_
 refine rNil ?_
 refine qSeq rfl ?_
 refine hSeq ?_
 refine hReg (sq 0 (sl 1 (sq 2 (sl 3 (sq 4 sz))))) (by kernel_rfl) ?_
 refine fld fl43_0 rfl rfl rfl ?_
 refine ldAl Try.isAgg26 Try.sizeOf26 (cBp (m := 1) 2 rfl rfl) trv rfl rfl rfl rfl ?_
 refine mvI rfl rfl rfl ?_
 refine callS Try.call105 trv1 rfl rfl (fun w hs => spec_l20Way_c _ nz cz _ _ _ w (Kn.drop (k := 3) kz w hs) hG.1 (by omega)) ?_
 rintro ⟨ay1, ny1, cy1, y1⟩ hr1
 dsimp only at hr1
 subst y1
 refine rKnow (fun w hs => (show OwnI 2 ay1 ny1 cy1 (Math.wayOf z n) w from hs.at_ 0 rfl).lenz) (fun lenn4 => ?_)
 refine asS rfl rfl rfl ?_
 refine rNil ?_
 refine qSeq rfl ?_
 refine hSeq ?_
 refine hReg (sq 0 sz) (by kernel_rfl) ?_
 refine asI rfl rfl rfl ?_
 refine rNil ?_
 refine qSeq rfl ?_
 refine hSeq ?_
 refine hSeq ?_
 refine hReg (sq 0 sz) (by kernel_rfl) ?_
 refine asI rfl rfl rfl ?_
 refine rNil ?_
 refine qSeq rfl ?_
 refine hBlk ?_
 refine hLoop (α := Nat × Int) (fun x => x.1 ≤ nws ∧ x.2 = (Math.reTo z ws nws ps qs n x.1)) (fun x => nws - x.1) (fun x => [OwnI 2 ay1 ny1 cy1 (Math.wayOf z n), blk bkb3 56 [.int .i64 ql, .slice aqs nqs cqs], blk bkb2 56 [.int .i64 pl, .slice aps nps cps], blk bkb1 43 [.slice az nz cz, .slice aws nws cws, .slice avs nvs cvs]]) (fun x => [(4, .pointer (some ⟨bkb1, 0, none⟩)), (5, .pointer (some ⟨bkb2, 0, none⟩)), (6, .pointer (some ⟨bkb3, 0, none⟩)), (9, .slice ay1 ny1 cy1), (10, .int .i64 x.2), (11, .int .i64 (x.1 : Int))]) (0, 0) ⟨Nat.zero_le _, rfl⟩ (fun _ h => h.pick [0, 0, 0, 0]) ⟨rfl, rfl, rfl, rfl, rfl, rfl, trivial⟩ ?_
 rintro ⟨i, s⟩ τ1 ⟨hi, hs_⟩
 dsimp only at hi hs_
 refine hRe [(4, .pointer (some ⟨bkb1, 0, none⟩)), (5, .pointer (some ⟨bkb2, 0, none⟩)), (6, .pointer (some ⟨bkb3, 0, none⟩)), (9, .slice ay1 ny1 cy1), (10, .int .i64 s), (11, .int .i64 (i : Int))] [OwnI 2 ay1 ny1 cy1 (Math.wayOf z n), blk bkb3 56 [.int .i64 ql, .slice aqs nqs cqs], blk bkb2 56 [.int .i64 pl, .slice aps nps cps], blk bkb1 43 [.slice az nz cz, .slice aws nws cws, .slice avs nvs cvs]] rfl rfl ?_
 refine hSeq ?_
 refine hSeq ?_
 refine hReg (sq 0 (sq 1 (sl 2 (sq 3 (sq 4 sz))))) (by kernel_rfl) ?_
 refine mvI rfl rfl rfl ?_
 refine fld fl43_1 rfl rfl rfl ?_
 refine ldl Try.isAgg41 (cB 3 rfl rfl) trv rfl rfl rfl ?_
 refine lenS Try.runUnderlying41 rfl rfl rfl ?_
 refine lss rfl rfl rfl rfl ?_
 refine rNil ?_
 refine qSeq rfl ?_
 refine hIfD rfl (fun c1 => ?_) (fun c1 => ?_)
 ·
  replace c1 : (i : Int) < (nws : Int) := c1
  have hb1 := Math.reTo_bd hP lws (show 0 ≤ n ∧ n < z.length by omega) i (by omega)
  refine hSkip ?_
  refine qSeq rfl ?_
  refine hSeq ?_
  refine hBlk ?_
  refine hSeq ?_
  refine hReg (sq 0 sz) (by kernel_rfl) ?_
  refine asI rfl rfl rfl ?_
  refine rNil ?_
  refine qSeq rfl ?_
  refine hBlk ?_
  refine hLoop (α := Nat × Int) (fun x => x.1 ≤ nws ∧ x.2 = (Math.reTo z ws nws ps qs n i) + (Math.reRow z ws nws ps qs n i x.1)) (fun x => nws - x.1) (fun x => [OwnI 2 ay1 ny1 cy1 (Math.wayOf z n), blk bkb3 56 [.int .i64 ql, .slice aqs nqs cqs], blk bkb2 56 [.int .i64 pl, .slice aps nps cps], blk bkb1 43 [.slice az nz cz, .slice aws nws cws, .slice avs nvs cvs]]) (fun x => [(4, .pointer (some ⟨bkb1, 0, none⟩)), (5, .pointer (some ⟨bkb2, 0, none⟩)), (6, .pointer (some ⟨bkb3, 0, none⟩)), (9, .slice ay1 ny1 cy1), (10, .int .i64 x.2), (11, .int .i64 (i : Int)), (12, .int .i64 (x.1 : Int))]) (0, s) ⟨Nat.zero_le _, by dsimp only; rw [hs_]; exact (Int.add_zero _).symm⟩ (fun _ h => h.pick [0, 0, 0, 0]) ⟨rfl, rfl, rfl, rfl, rfl, rfl, rfl, trivial⟩ ?_
  rintro ⟨j, t⟩ τ2 ⟨hj, ht⟩
  dsimp only at hj ht
  refine hRe [(4, .pointer (some ⟨bkb1, 0, none⟩)), (5, .pointer (some ⟨bkb2, 0, none⟩)), (6, .pointer (some ⟨bkb3, 0, none⟩)), (9, .slice ay1 ny1 cy1), (10, .int .i64 t), (11, .int .i64 (i : Int)), (12, .int .i64 (j : Int))] [OwnI 2 ay1 ny1 cy1 (Math.wayOf z n), blk bkb3 56 [.int .i64 ql, .slice aqs nqs cqs], blk bkb2 56 [.int .i64 pl, .slice aps nps cps], blk bkb1 43 [.slice az nz cz, .slice aws nws cws, .slice avs nvs cvs]] rfl rfl ?_
  refine hSeq ?_
  refine hSeq ?_
  refine hReg (sq 0 (sq 1 (sl 2 (sq 3 (sq 4 sz))))) (by kernel_rfl) ?_
  refine mvI rfl rfl rfl ?_
  refine fld fl43_1 rfl rfl rfl ?_
  refine ldl Try.isAgg41 (cB 3 rfl rfl) trv rfl rfl rfl ?_
  refine lenS Try.runUnderlying41 rfl rfl rfl ?_
  refine lss rfl rfl rfl rfl ?_
  refine rNil ?_
  refine qSeq rfl ?_
  refine hIfD rfl (fun c2 => ?_) (fun c2 => ?_)
  ·
   replace c2 : (j : Int) < (nws : Int) := c2
   have hrl := Math.row_len (Math.mat_row hG.2.2.1 (show i < nws by omega))
   have hb2 := Math.reRow_bd hP lws (show 0 ≤ n ∧ n < z.length by omega) (show i < nws by omega) j (by omega)
   have hb3 := Math.reN_bd hP lws (show 0 ≤ n ∧ n < z.length by omega) (show i < nws by omega) (show j < nws by omega)
   have hwa := Math.row_at (Math.mat_row hG.2.2.1 (show i < nws by omega)) (show j < nws by omega)
   refine hSkip ?_
   refine qSeq rfl ?_
   refine hSeq ?_
   refine hBlk ?_
   refine hSeq ?_
   refine hDraw (Ls := [blk bkb1 43 [.slice az nz cz, .slice aws nws cws, .slice avs nvs cvs]]) (by kernel_rfl) (sq 0 (sq 1 (sq 2 (sq 3 (sq 4 (sq 5 (sq 6 (sq 7 (sq 8 (sq 9 sz)))))))))) (by kernel_rfl) (.cons _ (.cons _ (.cons _ (.cons_cons _ .slnil)))) ?_
   refine fld fl43_1 rfl rfl rfl ?_
   refine ldq Try.isAgg41 (cB 0 rfl rfl) rfl rfl rfl ?_
   refine mvI rfl rfl rfl ?_
   refine ixRq (zn := i) (ws.getD i []) el41 (Kn.drop (k := 1) kws) (fun _ h => h.pick [3]) rfl rfl rfl rfl (by omega) (by omega) rfl (nth [] (by omega)) ?_
   intro be2 oe2 e2
   refine ldq Try.isAgg28 (Kn.fld e2 0 rfl) rfl rfl rfl ?_
   refine mvI rfl rfl rfl ?_
   refine ixIq (zn := j) el28 (Kn.drop (k := 1) ((Kn.imp kws fun _ h => h.kidM (nth [] (by omega))))) (fun _ h => h.pick [3]) rfl rfl rfl rfl (by omega) (by omega) rfl ?_
   intro ae3 e3
   refine ldq Try.isAgg2 (e3) rfl rfl rfl ?_
   refine asI rfl rfl rfl ?_
   refine asI rfl rfl rfl ?_
   refine rNil ?_
   refine qSeq rfl ?_
   refine hSeq ?_
   refine hSeq ?_
   refine hReg (sq 0 sz) (by kernel_rfl) ?_
   refine asI rfl rfl rfl ?_
   refine rNil ?_
   refine qSeq rfl ?_
   refine hBlk ?_
   refine hLoop (α := Nat × Int × Int) (fun x => x.1 ≤ (Math.wayOf z n).length ∧ Math.Leads z ((Math.wayOf z n).drop x.1) x.2.1 n ∧ (0 ≤ x.2.2 ∧ x.2.2 ≤ 9 * Math.p60 x.1) ∧ Math.reW z nws ps qs (i : Int) (j : Int) ((Math.wayOf z n).drop x.1) x.2.1 x.2.2 = Math.reW z nws ps qs (i : Int) (j : Int) (Math.wayOf z n) 0 ((ws.getD i []).getD j 0)) (fun x => (Math.wayOf z n).length - x.1) (fun x => [OwnI 2 ay1 ny1 cy1 (Math.wayOf z n), blk bkb3 56 [.int .i64 ql, .slice aqs nqs cqs], blk bkb2 56 [.int .i64 pl, .slice aps nps cps], blk bkb1 43 [.slice az nz cz, .slice aws nws cws, .slice avs nvs cvs]]) (fun x => [(4, .pointer (some ⟨bkb1, 0, none⟩)), (5, .pointer (some ⟨bkb2, 0, none⟩)), (6, .pointer (some ⟨bkb3, 0, none⟩)), (9, .slice ay1 ny1 cy1), (10, .int .i64 t), (11, .int .i64 (i : Int)), (12, .int .i64 (j : Int)), (13, .int .i64 x.2.1), (14, .int .i64 x.2.2), (15, .int .i64 (x.1 : Int))]) ((0, 0, ((ws.getD i []).getD j 0))) (⟨Nat.zero_le _, hwl.1, ⟨hwa.1, by dsimp only; rw [Math.p60_0]; omega⟩, rfl⟩) (fun _ h => h.pick [0, 0, 0, 0]) ⟨rfl, rfl, rfl, rfl, rfl, rfl, rfl, rfl, rfl, rfl, trivial⟩ ?_
   rintro ⟨q, v, p⟩ τ3 ⟨hq, hl, hp, hw⟩
   dsimp only at hq hl hp hw
   refine hRe [(4, .pointer (some ⟨bkb1, 0, none⟩)), (5, .pointer (some ⟨bkb2, 0, none⟩)), (6, .pointer (some ⟨bkb3, 0, none⟩)), (9, .slice ay1 ny1 cy1), (10, .int .i64 t), (11, .int .i64 (i : Int)), (12, .int .i64 (j : Int)), (13, .int .i64 v), (14, .int .i64 p), (15, .int .i64 (q : Int))] [OwnI 2 ay1 ny1 cy1 (Math.wayOf z n), blk bkb3 56 [.int .i64 ql, .slice aqs nqs cqs], blk bkb2 56 [.int .i64 pl, .slice aps nps cps], blk bkb1 43 [.slice az nz cz, .slice aws nws cws, .slice avs nvs cvs]] rfl rfl ?_
   refine hSeq ?_
   refine hSeq ?_
   refine hReg (sq 0 (sq 1 (sq 2 (sq 3 (sq 4 (sq 5 (sq 6 (sq 7 sz)))))))) (by kernel_rfl) ?_
   refine mvI rfl rfl rfl ?_
   refine mvS rfl rfl rfl ?_
   refine lenS Try.runUnderlying28 rfl rfl rfl ?_
   refine lss rfl rfl rfl rfl ?_
   refine mvB rfl rfl rfl ?_
   refine rBoolD (d := 46) rfl (fun g3 => ?_) (fun g3 => ?_)
   ·
    replace g3 : (q : Int) < (ny1 : Int) := g3
    refine mvI rfl rfl rfl ?_
    refine gtr rfl rfl rfl rfl ?_
    refine pickB rfl rfl rfl rfl ?_
    refine rNil ?_
    refine qSeq rfl ?_
    refine hIfD rfl (fun c4 => ?_) (fun c4 => ?_)
    ·
     replace c4 : 0 < p := c4
     have hst := Math.leads_step (show q < (Math.wayOf z n).length by omega) hl
     have hrs := Math.reW_step (z := z) (k := nws) (ps := ps) (qs := qs) (a := (i : Int)) (b := (j : Int)) (v := v) (p := p) (show q < (Math.wayOf z n).length by omega)
     have hdn := Math.down_bd hP lws (a := (i : Int)) (b := (j : Int)) (v := v) (by omega) (by omega) hst.1.1 hst.1.2 hp (show q < 5 by omega)
     refine hSkip ?_
     refine qSeq rfl ?_
     refine hSeq ?_
     refine hBlk ?_
     refine hSeq ?_
     refine hDraw (Ls := [OwnI 2 ay1 ny1 cy1 (Math.wayOf z n), blk bkb3 56 [.int .i64 ql, .slice aqs nqs cqs], blk bkb2 56 [.int .i64 pl, .slice aps nps cps], blk bkb1 43 [.slice az nz cz, .slice aws nws cws, .slice avs nvs cvs]]) (by kernel_rfl) (sq 0 (sq 1 (sq 2 (sq 3 (sq 4 (sq 5 (sq 6 (sq 8 (sq 9 (sq 10 (sq 11 (sl 7 (sq 12 (sq 13 (sq 14 (sq 15 sz)))))))))))))))) (by kernel_rfl) (.cons_cons _ (.cons_cons _ (.cons_cons _ (.cons_cons _ .slnil)))) ?_
     refine mvI rfl rfl rfl ?_
     refine ldAq Try.isAgg43 Try.sizeOf43 (cBs 3 rfl) rfl rfl rfl rfl ?_
     refine ldAq Try.isAgg56 Try.sizeOf56 (cBs 2 rfl) rfl rfl rfl rfl ?_
     refine ldAq Try.isAgg56 Try.sizeOf56 (cBs 1 rfl) rfl rfl rfl rfl ?_
     refine mvI rfl rfl rfl ?_
     refine mvI rfl rfl rfl ?_
     refine mvI rfl rfl rfl ?_
     refine mvS rfl rfl rfl ?_
     refine mvI rfl rfl rfl ?_
     refine ixIq (zn := q) el28 ((Kn.at_ 0 rfl).imp fun _ h => OwnI.rd h) (fun _ h => h.pick [0, 0, 0, 0]) rfl rfl rfl rfl (by omega) (by omega) rfl ?_
     intro ae4 e4
     refine ldq Try.isAgg2 (e4) rfl rfl rfl ?_
     refine callP (v := .slice ((Math.chA z nws Hps Hqs v (i : Int) (j : Int)).1) ((Math.choice z nws ps qs v (i : Int) (j : Int)).length) ((Math.chA z nws Hps Hqs v (i : Int) (j : Int)).2)) Try.call179 (fun _ h => h.pick [0, 0, 0, 0]) rfl rfl (fun w hs => spec_l23Choice_c _ nz cz _ _ _ nws cws _ _ _ nvs cvs _ _ _ _ nps cps _ _ _ _ nqs cqs _ _ _ _ _ w (Kn.drop (k := 4) kz w hs) (Kn.drop (k := 4) kws w hs) (Kn.drop (k := 4) kvs w hs) (Kn.drop (k := 4) kps w hs) (Kn.drop (k := 4) kqs w hs) (by assumption) (by omega) (by first | assumption | omega) (by omega) (by omega)) ?_
     have ka5 : Kn _ none_ [] (RdI ((Math.chA z nws Hps Hqs v (i : Int) (j : Int)).1) ((Math.choice z nws ps qs v (i : Int) (j : Int)).length) ((Math.choice z nws ps qs v (i : Int) (j : Int)))) := Math.two (kps) (kqs) fun _ h1 h2 => Math.choice_rd hP lws (by first | assumption | omega) (by first | assumption | omega) (by omega) (by omega) h1 h2
     refine ixIq (zn := (((Math.wayOf z n).getD q 0)).toNat) el28 (Kn.drop (k := 4) ka5) (fun _ h => h.pick [0, 0, 0, 0]) rfl rfl rfl rfl (by omega) (by omega) rfl ?_
     intro ae6 e6
     refine ldq Try.isAgg2 (e6) rfl rfl rfl ?_
     refine mul rfl rfl rfl rfl (by omega) ?_
     refine asI rfl rfl rfl ?_
     refine rNil ?_
     refine qSeq rfl ?_
     refine hDraw (Ls := [OwnI 2 ay1 ny1 cy1 (Math.wayOf z n), blk bkb1 43 [.slice az nz cz, .slice aws nws cws, .slice avs nvs cvs]]) (by kernel_rfl) (sq 0 (sq 1 (sq 2 (sq 3 (sq 4 (sq 5 (sq 6 (sq 7 (sq 8 (sq 9 (sq 10 (sq 11 (sq 12 (sq 13 sz)))))))))))))) (by kernel_rfl) (.cons_cons _ (.cons _ (.cons _ (.cons_cons _ .slnil)))) ?_
     refine fld fl43_0 rfl rfl rfl ?_
     refine fld fl26_0 rfl rfl rfl ?_
     refine ldq Try.isAgg24 (cB 1 rfl rfl) rfl rfl rfl ?_
     refine mvI rfl rfl rfl ?_
     refine ixRq (zn := (v).toNat) (z.getD ((v).toNat) dN) el24 (Kn.drop (k := 2) kz) (fun _ h => h.pick [0, 2]) rfl rfl rfl rfl (by omega) (by omega) rfl (nth dN (by omega)) ?_
     intro be7 oe7 e7
     refine fld fl88_4 rfl rfl rfl ?_
     refine ldq Try.isAgg28 (Kn.fld e7 4 rfl) rfl rfl rfl ?_
     refine mvS rfl rfl rfl ?_
     refine mvI rfl rfl rfl ?_
     refine ixIq (zn := q) el28 ((Kn.at_ 0 rfl).imp fun _ h => OwnI.rd h) (fun _ h => h.pick [0, 2]) rfl rfl rfl rfl (by omega) (by omega) rfl ?_
     intro ae8 e8
     refine ldq Try.isAgg2 (e8) rfl rfl rfl ?_
     refine ixIq (zn := (((Math.wayOf z n).getD q 0)).toNat) el28 (Kn.drop (k := 2) ((Kn.imp kz fun _ h => h.kidN (nth dN (by omega))))) (fun _ h => h.pick [0, 2]) rfl rfl rfl rfl (by omega) (by omega) rfl ?_
     intro ae9 e9
     refine ldq Try.isAgg2 (e9) rfl rfl rfl ?_
     refine asI rfl rfl rfl ?_
     refine rNil ?_
     refine qSeq rfl ?_
     refine hReg (sq 0 (sq 1 (sq 2 sz))) (by kernel_rfl) ?_
     refine mvI rfl rfl rfl ?_
     refine add rfl rfl rfl rfl (by omega) ?_
     refine asI rfl rfl rfl ?_
     refine rNil ?_
     exact qNext rfl ((q + 1, (((z.getD ((v).toNat) dN).ch).getD ((((Math.wayOf z n).getD q 0)).toNat) 0), (p * (((Math.choice z nws ps qs v (i : Int) (j : Int))).getD ((((Math.wayOf z n).getD q 0)).toNat) 0)))) (by dsimp only; omega) ⟨by dsimp only; omega, hst.2, hdn.2.2.1, by dsimp only; rw [← hrs]; exact hw⟩ ⟨rfl, rfl, rfl, rfl, rfl, rfl, rfl, rfl, rfl, rfl, trivial⟩ (fun _ h => h.pick [0, 0, 0, 0])
    ·
     replace c4 : ¬ (0 < p) := c4
     have hp0 : p = 0 := by omega
     have hpe : p = Math.reW z nws ps qs (i : Int) (j : Int) (Math.wayOf z n) 0 ((ws.getD i []).getD j 0) := by rw [← hw, hp0, Math.reW_0]
     have hre := Math.reN_is hpe rfl
     rw [show (Math.wayOf z n).length = ny1 by omega] at hre
     refine hExit rfl ?_
     refine qSeq rfl ?_
     refine hReg (sq 0 (sq 1 (sq 2 (sl 3 (sl 4 (sq 5 (sq 6 (sq 7 (sl 8 (sq 9 (sq 10 (sq 11 sz)))))))))))) (by kernel_rfl) ?_
     refine mvI rfl rfl rfl ?_
     refine mvI rfl rfl rfl ?_
     refine fld fl43_0 rfl rfl rfl ?_
     refine ldAl Try.isAgg26 Try.sizeOf26 (cBp (m := 1) 3 rfl rfl) trv rfl rfl rfl rfl ?_
     refine callP (v := .int .i64 (Math.depth z 0)) Try.call102 trv rfl rfl (fun w hs => spec_l20Depth_c _ nz cz _ _ _ w (Kn.drop (k := 4) kz w hs) hT.2.1 (by omega) (by omega)) ?_
     refine mvS rfl rfl rfl ?_
     refine lenS Try.runUnderlying28 rfl rfl rfl ?_
     refine sub rfl rfl rfl rfl (by omega) ?_
     refine callP (v := .int .i64 ((Math.p60 (((Math.depth z 0) - (ny1 : Int))).toNat))) Try.call180 trv rfl rfl (fun w hs => spec_l23Power_c _ w (by omega)) ?_
     refine mul rfl rfl rfl rfl (by omega) ?_
     refine add rfl rfl rfl rfl (by omega) ?_
     refine asI rfl rfl rfl ?_
     refine rNil ?_
     refine qSeq rfl ?_
     refine hReg (sq 0 (sq 1 (sq 2 sz))) (by kernel_rfl) ?_
     refine mvI rfl rfl rfl ?_
     refine add rfl rfl rfl rfl (by omega) ?_
     refine asI rfl rfl rfl ?_
     refine rNil ?_
     exact qNext rfl ((j + 1, (t + (p * (Math.p60 (((Math.depth z 0) - (ny1 : Int))).toNat))))) (by dsimp only; omega) ⟨by dsimp only; omega, by dsimp only; rw [Math.reRow_s, ← hre]; omega⟩ ⟨rfl, rfl, rfl, rfl, rfl, rfl, rfl, trivial⟩ (fun _ h => h.pick [0, 0, 0, 0])
   ·
    replace g3 : ¬ ((q : Int) < (ny1 : Int)) := g3
    have hpe : p = Math.reW z nws ps qs (i : Int) (j : Int) (Math.wayOf z n) 0 ((ws.getD i []).getD j 0) := by rw [← hw, Math.reW_end (by omega)]
    have hre := Math.reN_is hpe rfl
    rw [show (Math.wayOf z n).length = ny1 by omega] at hre
    refine rSkipQ rfl rfl ?_
    refine rSkipQ rfl rfl ?_
    refine pickB rfl rfl rfl rfl ?_
    refine rNil ?_
    refine qSeq rfl ?_
    refine hIfF rfl ?_
    refine hExit rfl ?_
    refine qSeq rfl ?_
    refine hReg (sq 0 (sq 1 (sq 2 (sl 3 (sl 4 (sq 5 (sq 6 (sq 7 (sl 8 (sq 9 (sq 10 (sq 11 sz)))))))))))) (by kernel_rfl) ?_
    refine mvI rfl rfl rfl ?_
    refine mvI rfl rfl rfl ?_
    refine fld fl43_0 rfl rfl rfl ?_
    refine ldAl Try.isAgg26 Try.sizeOf26 (cBp (m := 1) 3 rfl rfl) trv rfl rfl rfl rfl ?_
    refine callP (v := .int .i64 (Math.depth z 0)) Try.call102 trv rfl rfl (fun w hs => spec_l20Depth_c _ nz cz _ _ _ w (Kn.drop (k := 4) kz w hs) hT.2.1 (by omega) (by omega)) ?_
    refine mvS rfl rfl rfl ?_
    refine lenS Try.runUnderlying28 rfl rfl rfl ?_
    refine sub rfl rfl rfl rfl (by omega) ?_
    refine callP (v := .int .i64 ((Math.p60 (((Math.depth z 0) - (ny1 : Int))).toNat))) Try.call180 trv rfl rfl (fun w hs => spec_l23Power_c _ w (by omega)) ?_
    refine mul rfl rfl rfl rfl (by omega) ?_
    refine add rfl rfl rfl rfl (by omega) ?_
    refine asI rfl rfl rfl ?_
    refine rNil ?_
    refine qSeq rfl ?_
    refine hReg (sq 0 (sq 1 (sq 2 sz))) (by kernel_rfl) ?_
    refine mvI rfl rfl rfl ?_
    refine add rfl rfl rfl rfl (by omega) ?_
    refine asI rfl rfl rfl ?_
    refine rNil ?_
    exact qNext rfl ((j + 1, (t + (p * (Math.p60 (((Math.depth z 0) - (ny1 : Int))).toNat))))) (by dsimp only; omega) ⟨by dsimp only; omega, by dsimp only; rw [Math.reRow_s, ← hre]; omega⟩ ⟨rfl, rfl, rfl, rfl, rfl, rfl, rfl, trivial⟩ (fun _ h => h.pick [0, 0, 0, 0])
  ·
   replace c2 : ¬ ((j : Int) < (nws : Int)) := c2
   have hrl := Math.row_len (Math.mat_row hG.2.2.1 (show i < nws by omega))
   refine hExit rfl ?_
   refine qSeq rfl ?_
   refine hReg (sq 0 (sq 1 (sq 2 sz))) (by kernel_rfl) ?_
   refine mvI rfl rfl rfl ?_
   refine add rfl rfl rfl rfl (by omega) ?_
   refine asI rfl rfl rfl ?_
   refine rNil ?_
   exact qNext rfl (i + 1, t) (by dsimp only; omega) ⟨by dsimp only; omega, by dsimp only; rw [ht, Math.reTo_s]; congr 2; omega⟩ ⟨rfl, rfl, rfl, rfl, rfl, rfl, trivial⟩ (fun _ h => h.pick [0, 0, 0, 0])
 ·
  replace c1 : ¬ ((i : Int) < (nws : Int)) := c1
  refine hExit rfl ?_
  refine qSeq rfl ?_
  refine hSeq ?_
  refine hReg (sq 0 (sq 1 sz)) (by kernel_rfl) ?_
  refine mvI rfl rfl rfl ?_
  refine asI rfl rfl rfl ?_
  refine rNil ?_
  refine qSeq rfl ?_
  refine hRet ?_
  exact fun w hs => ⟨[.int .i64 s], ⟨rfl, trivial⟩, ⟨vI (by rw [hs_, show i = nws from by omega]), hs.upd⟩⟩
set_option maxHeartbeats 2000000 in
theorem impl_evaluator_reach_c (be : Nat) (az : Option Addr) (nz : Nat) (cz : Nat) (Hz : Nat → Hd) (z : List Nd) (aws : Option Addr) (nws : Nat) (cws : Nat) (Hws : Nat → Hd) (ws : List (List Int)) (avs : Option Addr) (nvs : Nat) (cvs : Nat) (Hvs : Nat → Hd) (vs : List (List Int)) (af0 : Option Addr) (nf0 : Nat) (cf0 : Nat) (f0 : List Int) (af1 : Option Addr) (nf1 : Nat) (cf1 : Nat) (f1 : List Int) (aps : Option Addr) (nps : Nat) (cps : Nat) (Hps : Nat → Hd) (ps : List (List Int)) (aqs : Option Addr) (nqs : Nat) (cqs : Nat) (Hqs : Nat → Hd) (qs : List (List Int)) (apr : Option Addr) (npr : Nat) (cpr : Nat) (pr : List Int) (n : Int) (w : World) (rbe : RdB be [.slice az nz cz, .slice aws nws cws, .slice avs nvs cvs, .slice af0 nf0 cf0, .slice af1 nf1 cf1, .slice aps nps cps, .slice aqs nqs cqs, .slice apr npr cpr] w) (rz : RdR ndK az nz Hz z w) (rws : RdR maK aws nws Hws ws w) (rvs : RdR maK avs nvs Hvs vs w) (rf0 : RdI af0 nf0 f0 w) (rf1 : RdI af1 nf1 f1 w) (rps : RdR maK aps nps Hps ps w) (rqs : RdR maK aqs nqs Hqs qs w) (rpr : RdI apr npr pr w) (hP : Math.Pair z ws vs ps qs) (hf0 : f0 = Math.firstOf z nws 0) (hf1 : f1 = Math.firstOf z nws 1) (hpr : pr = Math.parOf z) (hn : 0 ≤ n ∧ n < (nz : Int)) :
  Calls Try.prog 144 #[.pointer (some ⟨be, 0, none⟩), .int .i64 n] w (Ret fun v w' => v = .int .i64 (Math.reTo z ws nws ps qs n nws) ∧ Ext w w') := by
 have kbe : Kn w none_ [] (RdB be [.slice az nz cz, .slice aws nws cws, .slice avs nvs cvs, .slice af0 nf0 cf0, .slice af1 nf1 cf1, .slice aps nps cps, .slice aqs nqs cqs, .slice apr npr cpr]) := fun w' hs => rbe.ext hs.upd
 have kz : Kn w none_ [] (RdR ndK az nz Hz z) := fun w' hs => rz.ext hs.upd
 have lz : z.length = nz := rz.1
 have mz : nz ≤ 9223372036854775807 := rz.2.1
 have kws : Kn w none_ [] (RdR maK aws nws Hws ws) := fun w' hs => rws.ext hs.upd
 have lws : ws.length = nws := rws.1
 have mws : nws ≤ 9223372036854775807 := rws.2.1
 have kvs : Kn w none_ [] (RdR maK avs nvs Hvs vs) := fun w' hs => rvs.ext hs.upd
 have lvs : vs.length = nvs := rvs.1
 have mvs : nvs ≤ 9223372036854775807 := rvs.2.1
 have kf0 : Kn w none_ [] (RdI af0 nf0 f0) := fun w' hs => rf0.ext hs.upd
 have lf0 : f0.length = nf0 := rf0.1
 have mf0 : nf0 ≤ 9223372036854775807 := rf0.2.1
 have kf1 : Kn w none_ [] (RdI af1 nf1 f1) := fun w' hs => rf1.ext hs.upd
 have lf1 : f1.length = nf1 := rf1.1
 have mf1 : nf1 ≤ 9223372036854775807 := rf1.2.1
 have kps : Kn w none_ [] (RdR maK aps nps Hps ps) := fun w' hs => rps.ext hs.upd
 have lps : ps.length = nps := rps.1
 have mps : nps ≤ 9223372036854775807 := rps.2.1
 have kqs : Kn w none_ [] (RdR maK aqs nqs Hqs qs) := fun w' hs => rqs.ext hs.upd
 have lqs : qs.length = nqs := rqs.1
 have mqs : nqs ≤ 9223372036854775807 := rqs.2.1
 have kpr : Kn w none_ [] (RdI apr npr pr) := fun w' hs => rpr.ext hs.upd
 have lpr : pr.length = npr := rpr.1
 have mpr : npr ≤ 9223372036854775807 := rpr.2.1
 have hg := hP.g
 have hG := Math.isGame_ok hg
 rw [lws] at hG
 have hT := Math.isTree_ok hG.1
 have hvl := Math.mat_len hG.2.2.2.1
 have hpq := Math.pair_len hP lws
 have hwl := Math.way_leads hG.1 (show 0 ≤ n ∧ n < z.length by omega)
 have hlp : pr.length = z.length := by rw [hpr]; exact Math.parOf_len _
 refine fn (M := none_) (rs := [.tmp 4]) Try.func144 rfl Try.ntmps144 rfl rfl (Sep.start _ _) ?_
 refine hSeq ?_
 refine hReg (sq 0 sz) (by kernel_rfl) ?_
 refine asI rfl rfl rfl ?_
 refine rNil ?_
 refine qSeq rfl ?_
 refine hSeq ?_
 refine hReg (sq 0 (sq 1 (sq 2 (sq 3 (sl 4 (sl 5 (sq 6 sz))))))) (by kernel_rfl) ?_
 refine mvP rfl rfl rfl ?_
 refine nilc rfl rfl rfl ?_
 refine fld fl158_0 rfl rfl rfl ?_
 refine fld fl43_0 rfl rfl rfl ?_
 refine ldAl Try.isAgg26 Try.sizeOf26 (cDp (m := 1) (kbe) rfl) trv rfl rfl rfl rfl ?_
 refine callP (v := .int .i64 (Math.depth z 0)) Try.call100 trv rfl rfl (fun w hs => impl_depthFrom_c _ nz cz _ _ _ w (kz w hs) hT.2.1 (by omega) (by omega)) ?_
 refine asI rfl rfl rfl ?_
 refine rNil ?_
 refine qSeq rfl ?_
 refine hSeq ?_
 refine hReg (sq 0 sz) (by kernel_rfl) ?_
 refine asI rfl rfl rfl ?_
 refine rNil ?_
 refine qSeq rfl ?_
 refine hSeq ?_
 refine hSeq ?_
 refine hReg (sq 0 (sq 1 (sq 2 (sq 3 (sl 4 (sq 5 (sq 6 sz))))))) (by kernel_rfl) ?_
 refine mvP rfl rfl rfl ?_
 refine nilc rfl rfl rfl ?_
 refine fld fl158_0 rfl rfl rfl ?_
 refine fld fl43_1 rfl rfl rfl ?_
 refine ldl Try.isAgg41 (cD (kbe) rfl) trv rfl rfl rfl ?_
 refine lenS Try.runUnderlying41 rfl rfl rfl ?_
 refine mvI rfl rfl rfl ?_
 refine rNil ?_
 refine qSeq rfl ?_
 refine hBlk ?_
 refine hLoop (α := Nat × Int) (fun x => x.1 ≤ nws ∧ x.2 = (Math.reTo z ws nws ps qs n x.1)) (fun x => nws - x.1) (fun x => []) (fun x => [(0, .pointer (some ⟨be, 0, none⟩)), (1, .int .i64 n), (5, .int .i64 (Math.depth z 0)), (6, .int .i64 x.2), (26, .slice aws nws cws), (27, .int .i64 (nws : Int)), (28, .int .i64 (x.1 : Int))]) (0, 0) ⟨Nat.zero_le _, rfl⟩ (fun _ h => h.pick []) ⟨rfl, rfl, rfl, rfl, rfl, rfl, rfl, trivial⟩ ?_
 rintro ⟨i, s⟩ τ1 ⟨hi, hs_⟩
 dsimp only at hi hs_
 refine hRe [(0, .pointer (some ⟨be, 0, none⟩)), (1, .int .i64 n), (5, .int .i64 (Math.depth z 0)), (6, .int .i64 s), (26, .slice aws nws cws), (27, .int .i64 (nws : Int)), (28, .int .i64 (i : Int))] [] rfl rfl ?_
 refine hSeq ?_
 refine hReg (sq 0 sz) (by kernel_rfl) ?_
 refine lss rfl rfl rfl rfl ?_
 refine rNil ?_
 refine qSeq rfl ?_
 refine hSeq ?_
 refine hIfD rfl (fun c1 => ?_) (fun c1 => ?_)
 ·
  replace c1 : (i : Int) < (nws : Int) := c1
  have hb1 := Math.reTo_bd hP lws (show 0 ≤ n ∧ n < z.length by omega) i (by omega)
  refine hSkip ?_
  refine qSeq rfl ?_
  refine hSeq ?_
  refine hBlk ?_
  refine hSeq ?_
  refine hReg (sq 0 (sq 1 (sl 2 (sq 3 (sq 4 sz))))) (by kernel_rfl) ?_
  refine mvI rfl rfl rfl ?_
  refine ixRl (zn := i) (ws.getD i []) el41 (kws) rfl rfl rfl rfl (by omega) (by omega) rfl (nth [] (by omega)) ?_
  intro be1 oe1 e1
  refine ldl Try.isAgg28 (Kn.fld e1 0 rfl) trv rfl rfl rfl ?_
  refine asI rfl rfl rfl ?_
  refine asS rfl rfl rfl ?_
  refine rNil ?_
  refine qSeq rfl ?_
  refine hSeq ?_
  refine hReg (sq 0 (sq 1 (sq 2 sz))) (by kernel_rfl) ?_
  refine mvS rfl rfl rfl ?_
  refine lenS Try.runUnderlying28 rfl rfl rfl ?_
  refine mvI rfl rfl rfl ?_
  refine rNil ?_
  refine qSeq rfl ?_
  refine hBlk ?_
  refine hLoop (α := Nat × Int) (fun x => x.1 ≤ nws ∧ x.2 = (Math.reTo z ws nws ps qs n i) + (Math.reRow z ws nws ps qs n i x.1)) (fun x => nws - x.1) (fun x => []) (fun x => [(0, .pointer (some ⟨be, 0, none⟩)), (1, .int .i64 n), (5, .int .i64 (Math.depth z 0)), (6, .int .i64 x.2), (7, .int .i64 (i : Int)), (26, .slice aws nws cws), (27, .int .i64 (nws : Int)), (28, .int .i64 (i : Int)), (33, .slice ((Hws i).1) ((ws.getD i []).length) ((Hws i).2)), (34, .int .i64 ((((ws.getD i []).length : Nat) : Int))), (35, .int .i64 (x.1 : Int))]) (0, s) ⟨Nat.zero_le _, by dsimp only; rw [hs_]; exact (Int.add_zero _).symm⟩ (fun _ h => h.pick []) ⟨rfl, rfl, rfl, rfl, rfl, rfl, rfl, rfl, rfl, rfl, rfl, trivial⟩ ?_
  rintro ⟨j, t⟩ τ2 ⟨hj, ht⟩
  dsimp only at hj ht
  refine hRe [(0, .pointer (some ⟨be, 0, none⟩)), (1, .int .i64 n), (5, .int .i64 (Math.depth z 0)), (6, .int .i64 t), (7, .int .i64 (i : Int)), (26, .slice aws nws cws), (27, .int .i64 (nws : Int)), (28, .int .i64 (i : Int)), (33, .slice ((Hws i).1) ((ws.getD i []).length) ((Hws i).2)), (34, .int .i64 ((((ws.getD i []).length : Nat) : Int))), (35, .int .i64 (j : Int))] [] rfl rfl ?_
  refine hSeq ?_
  refine hReg (sq 0 sz) (by kernel_rfl) ?_
  refine lss rfl rfl rfl rfl ?_
  refine rNil ?_
  refine qSeq rfl ?_
  refine hSeq ?_
  refine hIfD rfl (fun c2 => ?_) (fun c2 => ?_)
  ·
   replace c2 : (j : Int) < (((ws.getD i []).length : Nat) : Int) := c2
   have hrl := Math.row_len (Math.mat_row hG.2.2.1 (show i < nws by omega))
   have hb2 := Math.reRow_bd hP lws (show 0 ≤ n ∧ n < z.length by omega) (show i < nws by omega) j (by omega)
   have hb3 := Math.reN_bd hP lws (show 0 ≤ n ∧ n < z.length by omega) (show i < nws by omega) (show j < nws by omega)
   have hwa := Math.row_at (Math.mat_row hG.2.2.1 (show i < nws by omega)) (show j < nws by omega)
   refine hSkip ?_
   refine qSeq rfl ?_
   refine hSeq ?_
   refine hBlk ?_
   refine hSeq ?_
   refine hReg (sq 0 (sq 1 (sl 2 (sq 3 (sq 4 sz))))) (by kernel_rfl) ?_
   refine mvI rfl rfl rfl ?_
   refine ixIl (zn := j) el28 ((Kn.imp kws fun _ h => h.kidM (nth [] (by omega)))) rfl rfl rfl rfl (by omega) (by omega) rfl ?_
   intro ae2 e2
   refine ldl Try.isAgg2 (e2) trv rfl rfl rfl ?_
   refine asI rfl rfl rfl ?_
   refine asI rfl rfl rfl ?_
   refine rNil ?_
   refine qSeq rfl ?_
   refine hSeq ?_
   refine hReg (sq 0 (sq 1 (sq 2 (sq 3 sz)))) (by kernel_rfl) ?_
   refine mvI rfl rfl rfl ?_
   refine mvI rfl rfl rfl ?_
   refine asI rfl rfl rfl ?_
   refine asI rfl rfl rfl ?_
   refine rNil ?_
   refine qSeq rfl ?_
   refine hSeq ?_
   refine hSeq ?_
   refine hReg (sq 0 (sq 1 sz)) (by kernel_rfl) ?_
   refine mvI rfl rfl rfl ?_
   refine asI rfl rfl rfl ?_
   refine rNil ?_
   refine qSeq rfl ?_
   refine hBlk ?_
   refine hLoop (α := Int × Int × Int × List Int) (fun x => (0 ≤ x.1 ∧ x.1 < (nz : Int)) ∧ Math.Leads z x.2.2.2 x.1 n ∧ (∃ l0, Math.Way z x.1 l0 ∧ l0 ++ x.2.2.2 = (Math.wayOf z n)) ∧ x.2.1 = Math.reW z nws ps qs (i : Int) (j : Int) x.2.2.2 x.1 ((ws.getD i []).getD j 0) ∧ x.2.2.1 = Math.depth z 0 - (x.2.2.2.length : Int)) (fun x => x.1.toNat) (fun x => []) (fun x => [(0, .pointer (some ⟨be, 0, none⟩)), (1, .int .i64 n), (5, .int .i64 (Math.depth z 0)), (6, .int .i64 t), (7, .int .i64 (i : Int)), (9, .int .i64 (j : Int)), (11, .int .i64 x.2.1), (12, .int .i64 x.2.2.1), (13, .int .i64 x.1), (26, .slice aws nws cws), (27, .int .i64 (nws : Int)), (28, .int .i64 (i : Int)), (33, .slice ((Hws i).1) ((ws.getD i []).length) ((Hws i).2)), (34, .int .i64 ((((ws.getD i []).length : Nat) : Int))), (35, .int .i64 (j : Int))]) ((n, ((ws.getD i []).getD j 0), Math.depth z 0, [])) (⟨hn, rfl, ⟨_, Math.wayOf_way hT.2.1 hT.2.2.1 hn.1 (by omega), List.append_nil _⟩, rfl, by simp⟩) (fun _ h => h.pick []) ⟨rfl, rfl, rfl, rfl, rfl, rfl, rfl, rfl, rfl, rfl, rfl, rfl, rfl, rfl, rfl, trivial⟩ ?_
   rintro ⟨v, p, d, l⟩ τ3 ⟨hv, hl, ⟨l0, hw0, hwe⟩, hp, hd⟩
   dsimp only at hv hl l0 hw0 hwe hp hd
   refine hRe [(0, .pointer (some ⟨be, 0, none⟩)), (1, .int .i64 n), (5, .int .i64 (Math.depth z 0)), (6, .int .i64 t), (7, .int .i64 (i : Int)), (9, .int .i64 (j : Int)), (11, .int .i64 p), (12, .int .i64 d), (13, .int .i64 v), (26, .slice aws nws cws), (27, .int .i64 (nws : Int)), (28, .int .i64 (i : Int)), (33, .slice ((Hws i).1) ((ws.getD i []).length) ((Hws i).2)), (34, .int .i64 ((((ws.getD i []).length : Nat) : Int))), (35, .int .i64 (j : Int))] [] rfl rfl ?_
   refine hSeq ?_
   refine hSeq ?_
   refine hReg (sq 0 (sq 1 sz)) (by kernel_rfl) ?_
   refine mvI rfl rfl rfl ?_
   refine gtr rfl rfl rfl rfl ?_
   refine rNil ?_
   refine qSeq rfl ?_
   refine hIfD rfl (fun c3 => ?_) (fun c3 => ?_)
   ·
    replace c3 : 0 < v := c3
    have hu := Math.step_up hP lws (a := (i : Int)) (b := (j : Int)) (by omega) (by omega) hpr (show 0 ≤ n ∧ n < z.length by omega) (rfl : pr.getD v.toNat 0 = pr.getD v.toNat 0) (show 1 ≤ v ∧ v < z.length by omega) hl hw0 hwe hwa hp
    refine hSkip ?_
    refine qSeq rfl ?_
    refine hSeq ?_
    refine hBlk ?_
    refine hSeq ?_
    refine hReg (sq 0 (sq 1 (sq 2 (sl 3 (sq 4 (sq 5 (sl 6 (sq 7 sz)))))))) (by kernel_rfl) ?_
    refine mvP rfl rfl rfl ?_
    refine nilc rfl rfl rfl ?_
    refine fld fl158_3 rfl rfl rfl ?_
    refine ldl Try.isAgg28 (cD (kbe) rfl) trv rfl rfl rfl ?_
    refine mvI rfl rfl rfl ?_
    refine ixIl (zn := (v).toNat) el28 (kpr) rfl rfl rfl rfl (by omega) (by omega) rfl ?_
    intro ae3 e3
    refine ldl Try.isAgg2 (e3) trv rfl rfl rfl ?_
    refine asI rfl rfl rfl ?_
    refine rNil ?_
    refine qSeq rfl ?_
    refine hSeq ?_
    refine hReg (sq 0 (sq 1 (sq 2 (sq 3 (sq 4 (sl 5 (sq 6 (sq 7 (sq 8 (sl 9 (sq 10 (sl 11 (sq 12 sz))))))))))))) (by kernel_rfl) ?_
    refine mvP rfl rfl rfl ?_
    refine nilc rfl rfl rfl ?_
    refine fld fl158_0 rfl rfl rfl ?_
    refine fld fl43_0 rfl rfl rfl ?_
    refine fld fl26_0 rfl rfl rfl ?_
    refine ldl Try.isAgg24 (cD (kbe) rfl) trv rfl rfl rfl ?_
    refine mvI rfl rfl rfl ?_
    refine ixRl (zn := ((pr.getD ((v).toNat) 0)).toNat) (z.getD (((pr.getD ((v).toNat) 0)).toNat) dN) el24 (kz) rfl rfl rfl rfl (by omega) (by omega) rfl (nth dN (by omega)) ?_
    intro be4 oe4 e4
    refine fld fl88_4 rfl rfl rfl ?_
    refine ldl Try.isAgg28 (Kn.fld e4 4 rfl) trv rfl rfl rfl ?_
    refine mvI rfl rfl rfl ?_
    refine callP (v := .int .i64 ((Math.indexOf ((z.getD (((pr.getD ((v).toNat) 0)).toNat) dN).ch) v))) Try.call103 trv rfl rfl (fun w hs => slices_Index_int64_int64_c _ (((z.getD (((pr.getD ((v).toNat) 0)).toNat) dN).ch).length) ((Hz (((pr.getD ((v).toNat) 0)).toNat)).2) _ _ w ((Kn.imp kz fun _ h => h.kidN (nth dN (by omega))) w hs)) ?_
    refine asI rfl rfl rfl ?_
    refine rNil ?_
    refine qSeq rfl ?_
    refine hSeq ?_
    refine hReg (sq 0 (sq 1 (sq 2 (sq 3 (sq 4 (sl 5 (sq 6 (sq 7 (sl 8 (sq 9 (sq 10 sz))))))))))) (by kernel_rfl) ?_
    refine mvI rfl rfl rfl ?_
    refine mvP rfl rfl rfl ?_
    refine mvI rfl rfl rfl ?_
    refine mvI rfl rfl rfl ?_
    refine mvI rfl rfl rfl ?_
    refine callP (v := .slice ((Math.chA z nws Hps Hqs ((pr.getD ((v).toNat) 0)) (i : Int) (j : Int)).1) ((Math.choice z nws ps qs ((pr.getD ((v).toNat) 0)) (i : Int) (j : Int)).length) ((Math.chA z nws Hps Hqs ((pr.getD ((v).toNat) 0)) (i : Int) (j : Int)).2)) Try.call177 trv rfl rfl (fun w hs => impl_evaluator_partsAt_c be _ nz cz _ _ _ nws cws _ _ _ nvs cvs _ _ _ nf0 cf0 _ _ nf1 cf1 _ _ nps cps _ _ _ nqs cqs _ _ _ npr cpr _ _ _ _ w (kbe w hs) (kz w hs) (kws w hs) (kvs w hs) (kf0 w hs) (kf1 w hs) (kps w hs) (kqs w hs) (kpr w hs) (by assumption) (by first | rfl | assumption) (by first | rfl | assumption) (by first | rfl | assumption) (by omega) (by first | assumption | omega) (by omega) (by omega)) ?_
    have ka5 : Kn _ none_ [] (RdI ((Math.chA z nws Hps Hqs ((pr.getD ((v).toNat) 0)) (i : Int) (j : Int)).1) ((Math.choice z nws ps qs ((pr.getD ((v).toNat) 0)) (i : Int) (j : Int)).length) ((Math.choice z nws ps qs ((pr.getD ((v).toNat) 0)) (i : Int) (j : Int)))) := Math.two (kps) (kqs) fun _ h1 h2 => Math.choice_rd hP lws (by first | assumption | omega) (by first | assumption | omega) (by omega) (by omega) h1 h2
    refine mvI rfl rfl rfl ?_
    refine ixIl (zn := ((Math.indexOf ((z.getD (((pr.getD ((v).toNat) 0)).toNat) dN).ch) v)).toNat) el28 (ka5) rfl rfl rfl rfl (by omega) (by omega) rfl ?_
    intro ae6 e6
    refine ldl Try.isAgg2 (e6) trv rfl rfl rfl ?_
    refine mul rfl rfl rfl rfl (by omega) ?_
    refine asI rfl rfl rfl ?_
    refine rNil ?_
    refine qSeq rfl ?_
    refine hReg (sq 0 (sq 1 (sq 2 sz))) (by kernel_rfl) ?_
    refine mvI rfl rfl rfl ?_
    refine sub rfl rfl rfl rfl (by omega) ?_
    refine asI rfl rfl rfl ?_
    refine rNil ?_
    refine qSeq rfl ?_
    refine hReg (sq 0 (sq 1 (sq 2 (sl 3 (sq 4 (sq 5 (sl 6 (sq 7 sz)))))))) (by kernel_rfl) ?_
    refine mvP rfl rfl rfl ?_
    refine nilc rfl rfl rfl ?_
    refine fld fl158_3 rfl rfl rfl ?_
    refine ldl Try.isAgg28 (cD (kbe) rfl) trv rfl rfl rfl ?_
    refine mvI rfl rfl rfl ?_
    refine ixIl (zn := (v).toNat) el28 (kpr) rfl rfl rfl rfl (by omega) (by omega) rfl ?_
    intro ae7 e7
    refine ldl Try.isAgg2 (e7) trv rfl rfl rfl ?_
    refine asI rfl rfl rfl ?_
    refine rNil ?_
    exact qNext rfl (((pr.getD ((v).toNat) 0), (p * (((Math.choice z nws ps qs ((pr.getD ((v).toNat) 0)) (i : Int) (j : Int))).getD (((Math.indexOf ((z.getD (((pr.getD ((v).toNat) 0)).toNat) dN).ch) v)).toNat) 0)), d - 1, Math.indexOf (z.getD ((pr.getD ((v).toNat) 0)).toNat dN).ch v :: l)) (by dsimp only; omega) ⟨by dsimp only; omega, hu.2.2.2.2.2.1, hu.2.2.2.2.2.2.1, hu.2.2.2.2.2.2.2, by dsimp only; rw [List.length_cons]; omega⟩ ⟨rfl, rfl, rfl, rfl, rfl, rfl, rfl, rfl, rfl, rfl, rfl, rfl, rfl, rfl, rfl, trivial⟩ (fun _ h => h.pick [])
   ·
    replace c3 : ¬ (0 < v) := c3
    have hrt := Math.root_way hG.1 hw0 (by omega) hwe
    have hpe : p = Math.reW z nws ps qs (i : Int) (j : Int) (Math.wayOf z n) 0 ((ws.getD i []).getD j 0) := by rw [hp, hrt, show v = 0 from by omega]
    have hre := Math.reN_is (d := d) hpe (by rw [hd, hrt])
    have hll : l.length = (Math.wayOf z n).length := by rw [hrt]
    refine hExit rfl ?_
    refine qSeq rfl ?_
    refine hReg (sq 0 (sq 1 (sq 2 (sl 3 (sq 4 (sq 5 (sq 6 sz))))))) (by kernel_rfl) ?_
    refine mvI rfl rfl rfl ?_
    refine mvI rfl rfl rfl ?_
    refine mvI rfl rfl rfl ?_
    refine callP (v := .int .i64 (Math.p60 d.toNat)) Try.call178 trv rfl rfl (fun w hs => impl_powerOf_c _ _ w rfl (by omega)) ?_
    refine mul rfl rfl rfl rfl (by omega) ?_
    refine add rfl rfl rfl rfl (by omega) ?_
    refine asI rfl rfl rfl ?_
    refine rNil ?_
    refine qSeq rfl ?_
    refine hReg (sq 0 (sq 1 sz)) (by kernel_rfl) ?_
    refine add rfl rfl rfl rfl (by omega) ?_
    refine mvI rfl rfl rfl ?_
    refine rNil ?_
    exact qNext rfl ((j + 1, (t + (p * (Math.p60 d.toNat))))) (by dsimp only; omega) ⟨by dsimp only; omega, by dsimp only; rw [Math.reRow_s, ← hre]; omega⟩ ⟨rfl, rfl, rfl, rfl, rfl, rfl, rfl, rfl, rfl, rfl, rfl, trivial⟩ (fun _ h => h.pick [])
  ·
   replace c2 : ¬ ((j : Int) < (((ws.getD i []).length : Nat) : Int)) := c2
   have hrl := Math.row_len (Math.mat_row hG.2.2.1 (show i < nws by omega))
   refine hExit rfl ?_
   refine qSeq rfl ?_
   refine hReg (sq 0 (sq 1 sz)) (by kernel_rfl) ?_
   refine add rfl rfl rfl rfl (by omega) ?_
   refine mvI rfl rfl rfl ?_
   refine rNil ?_
   exact qNext rfl (i + 1, t) (by dsimp only; omega) ⟨by dsimp only; omega, by dsimp only; rw [ht, Math.reTo_s]; congr 2; omega⟩ ⟨rfl, rfl, rfl, rfl, rfl, rfl, rfl, trivial⟩ (fun _ h => h.pick [])
 ·
  replace c1 : ¬ ((i : Int) < (nws : Int)) := c1
  refine hExit rfl ?_
  refine qSeq rfl ?_
  refine hSeq ?_
  refine hReg (sq 0 (sq 1 sz)) (by kernel_rfl) ?_
  refine mvI rfl rfl rfl ?_
  refine asI rfl rfl rfl ?_
  refine rNil ?_
  refine qSeq rfl ?_
  refine hRet ?_
  exact fun w hs => ⟨[.int .i64 s], ⟨rfl, trivial⟩, ⟨vI (by rw [hs_, show i = nws from by omega]), hs.upd⟩⟩
theorem impl_ReachNumber_c (az : Option Addr) (nz : Nat) (cz : Nat) (Hz : Nat → Hd) (z : List Nd) (aws : Option Addr) (nws : Nat) (cws : Nat) (Hws : Nat → Hd) (ws : List (List Int)) (avs : Option Addr) (nvs : Nat) (cvs : Nat) (Hvs : Nat → Hd) (vs : List (List Int)) (pl : Int) (aps : Option Addr) (nps : Nat) (cps : Nat) (Hps : Nat → Hd) (ps : List (List Int)) (ql : Int) (aqs : Option Addr) (nqs : Nat) (cqs : Nat) (Hqs : Nat → Hd) (qs : List (List Int)) (n : Int) (w : World) (rz : RdR ndK az nz Hz z w) (rws : RdR maK aws nws Hws ws w) (rvs : RdR maK avs nvs Hvs vs w) (rps : RdR maK aps nps Hps ps w) (rqs : RdR maK aqs nqs Hqs qs w) :
  Calls Try.prog 75 #[.agg #[.slice az nz cz, .slice aws nws cws, .slice avs nvs cvs], .agg #[.int .i64 pl, .slice aps nps cps], .agg #[.int .i64 ql, .slice aqs nqs cqs], .int .i64 n] w (Ret fun v w' => v = .tuple #[.int .i64 ((Math.reachAt z ws vs pl ps ql qs n).1), .int .i64 ((Math.reachAt z ws vs pl ps ql qs n).2)] ∧ Ext w w') := by
 have kz : Kn w none_ [] (RdR ndK az nz Hz z) := fun w' hs => rz.ext hs.upd
 have lz : z.length = nz := rz.1
 have mz : nz ≤ 9223372036854775807 := rz.2.1
 have kws : Kn w none_ [] (RdR maK aws nws Hws ws) := fun w' hs => rws.ext hs.upd
 have lws : ws.length = nws := rws.1
 have mws : nws ≤ 9223372036854775807 := rws.2.1
 have kvs : Kn w none_ [] (RdR maK avs nvs Hvs vs) := fun w' hs => rvs.ext hs.upd
 have lvs : vs.length = nvs := rvs.1
 have mvs : nvs ≤ 9223372036854775807 := rvs.2.1
 have kps : Kn w none_ [] (RdR maK aps nps Hps ps) := fun w' hs => rps.ext hs.upd
 have lps : ps.length = nps := rps.1
 have mps : nps ≤ 9223372036854775807 := rps.2.1
 have kqs : Kn w none_ [] (RdR maK aqs nqs Hqs qs) := fun w' hs => rqs.ext hs.upd
 have lqs : qs.length = nqs := rqs.1
 have mqs : nqs ≤ 9223372036854775807 := rqs.2.1
 refine fn (M := none_) (rs := [.tmp 8, .tmp 9]) Try.func75 rfl Try.ntmps75 rfl rfl (Sep.start _ _) ?_
 refine hSeq ?_
 refine hReg (sl 0 (sl 1 (sl 2 (sq 3 (sq 4 sz))))) (by kernel_rfl) ?_
 refine box trv1 rfl rfl rfl rfl (fun bkb1 hbkb1 => ?_)
 refine box trv1 rfl rfl rfl rfl (fun bkb2 hbkb2 => ?_)
 refine box trv1 rfl rfl rfl rfl (fun bkb3 hbkb3 => ?_)
 refine asI rfl rfl rfl ?_
 refine asI rfl rfl rfl ?_
 refine rNil ?_
 refine qSeq rfl ?_
 refine hSeq ?_
 refine hSeq ?_
 refine hReg (sl 0 (sl 1 (sl 2 (sl 3 (sq 4 sz))))) (by kernel_rfl) ?_
 refine ldAl Try.isAgg43 Try.sizeOf43 (cBs 2 rfl) trv rfl rfl rfl rfl ?_
 refine ldAl Try.isAgg56 Try.sizeOf56 (cBs 1 rfl) trv rfl rfl rfl rfl ?_
 refine ldAl Try.isAgg56 Try.sizeOf56 (cBs 0 rfl) trv rfl rfl rfl rfl ?_
 refine callP (v := .bool (Math.isPair z ws vs pl ps ql qs)) Try.call142 trv rfl rfl (fun w hs => impl_arePair_c _ nz cz _ _ _ nws cws _ _ _ nvs cvs _ _ _ _ nps cps _ _ _ _ nqs cqs _ _ w (Kn.drop (k := 3) kz w hs) (Kn.drop (k := 3) kws w hs) (Kn.drop (k := 3) kvs w hs) (Kn.drop (k := 3) kps w hs) (Kn.drop (k := 3) kqs w hs)) ?_
 refine not rfl rfl rfl ?_
 refine rNil ?_
 refine qSeq rfl ?_
 refine hIfN rfl (fun c1 => ?_) (fun c1 => ?_)
 ·
  replace c1 : (Math.isPair z ws vs pl ps ql qs) = false := c1
  refine hSeq ?_
  refine hReg (sq 0 (sq 1 sz)) (by kernel_rfl) ?_
  refine asI rfl rfl rfl ?_
  refine asI rfl rfl rfl ?_
  refine rNil ?_
  refine qSeq rfl ?_
  refine hRet ?_
  exact fun w hs => ⟨[.int .i64 0, .int .i64 1], ⟨rfl, ⟨rfl, trivial⟩⟩, ⟨by rw [show Math.reachAt z ws vs pl ps ql qs n = (0, 1) from Math.reachAt_1 (by assumption)]; rfl, hs.upd⟩⟩
 ·
  replace c1 : (Math.isPair z ws vs pl ps ql qs) = true := c1
  have hpo := Math.isPair_ok c1
  have hP := hpo.2.2
  have hg := hP.g
  have hG := Math.isGame_ok hg
  rw [lws] at hG
  have hT := Math.isTree_ok hG.1
  have hvl := Math.mat_len hG.2.2.2.1
  have hpq := Math.pair_len hP lws
  refine hSkip ?_
  refine qSeq rfl ?_
  refine hSeq ?_
  refine hSeq ?_
  refine hReg (sq 0 (sq 1 (sq 2 (sl 3 (sq 4 (sq 5 (sl 6 (sq 7 sz)))))))) (by kernel_rfl) ?_
  refine mvI rfl rfl rfl ?_
  refine fld fl43_0 rfl rfl rfl ?_
  refine fld fl26_0 rfl rfl rfl ?_
  refine ldl Try.isAgg24 (cB 2 rfl rfl) trv rfl rfl rfl ?_
  refine lenS Try.runUnderlying24 rfl rfl rfl ?_
  refine sub rfl rfl rfl rfl (by omega) ?_
  refine callP (v := .bool (decide ((0 : Int) ≤ n ∧ n ≤ (((nz : Int) - 1))))) Try.call96 trv rfl rfl (fun w hs => impl_within_c _ _ _ w ) ?_
  refine notD rfl rfl rfl ?_
  refine rNil ?_
  refine qSeq rfl ?_
  refine hIfD rfl (fun c2 => ?_) (fun c2 => ?_)
  ·
   replace c2 : ¬ ((0 : Int) ≤ n ∧ n ≤ (((nz : Int) - 1))) := c2
   refine hSeq ?_
   refine hReg (sq 0 (sq 1 sz)) (by kernel_rfl) ?_
   refine asI rfl rfl rfl ?_
   refine asI rfl rfl rfl ?_
   refine rNil ?_
   refine qSeq rfl ?_
   refine hRet ?_
   exact fun w hs => ⟨[.int .i64 0, .int .i64 2], ⟨rfl, ⟨rfl, trivial⟩⟩, ⟨by rw [show Math.reachAt z ws vs pl ps ql qs n = (0, 2) from Math.reachAt_2 lz (by assumption) (by assumption)]; rfl, hs.upd⟩⟩
  ·
   replace c2 : ¬ (¬ ((0 : Int) ≤ n ∧ n ≤ (((nz : Int) - 1)))) := c2
   replace c2 := Classical.not_not.1 c2
   refine hSkip ?_
   refine qSeq rfl ?_
   refine hSeq ?_
   refine hReg (sl 0 (sl 1 (sl 2 (sl 3 (sq 4 (sl 5 (sq 6 (sq 7 sz)))))))) (by kernel_rfl) ?_
   refine ldAl Try.isAgg43 Try.sizeOf43 (cBs 2 rfl) trv rfl rfl rfl rfl ?_
   refine ldAl Try.isAgg56 Try.sizeOf56 (cBs 1 rfl) trv rfl rfl rfl rfl ?_
   refine ldAl Try.isAgg56 Try.sizeOf56 (cBs 0 rfl) trv rfl rfl rfl rfl ?_
   refine callS Try.call143 trv1 rfl rfl (fun w hs => impl_newEvaluator_c _ nz cz _ _ _ nws cws _ _ _ nvs cvs _ _ _ _ nps cps _ _ _ _ nqs cqs _ _ w (Kn.drop (k := 3) kz w hs) (Kn.drop (k := 3) kws w hs) (Kn.drop (k := 3) kvs w hs) (Kn.drop (k := 3) kps w hs) (Kn.drop (k := 3) kqs w hs) (by assumption)) ?_
   rintro ⟨be1, af01, nf01, cf01, f01, af11, nf11, cf11, f11, apr1, npr1, cpr1, pr1⟩ ⟨hr1a, hr1b, hr1c⟩
   dsimp only at hr1a hr1b hr1c
   subst f01
   subst f11
   subst pr1
   refine rKnow (fun w hs => (show OwnI 3 af01 nf01 cf01 (Math.firstOf z nws 0) w from hs.at_ 1 rfl).lenz) (fun lenn5 => ?_)
   refine rKnow (fun w hs => (show OwnI 3 af11 nf11 cf11 (Math.firstOf z nws 1) w from hs.at_ 2 rfl).lenz) (fun lenn6 => ?_)
   refine rKnow (fun w hs => (show OwnI 2 apr1 npr1 cpr1 (Math.parOf z) w from hs.at_ 3 rfl).lenz) (fun lenn7 => ?_)
   refine mvI rfl rfl rfl ?_
   refine callP (v := .int .i64 (Math.reTo z ws nws ps qs n nws)) Try.call144 trv rfl rfl (fun w hs => impl_evaluator_reach_c be1 _ nz cz _ _ _ nws cws _ _ _ nvs cvs _ _ _ nf01 cf01 _ _ nf11 cf11 _ _ nps cps _ _ _ nqs cqs _ _ _ npr1 cpr1 _ _ w (RdB.of (hs.at_ 0 rfl)) (Kn.drop (k := 7) kz w hs) (Kn.drop (k := 7) kws w hs) (Kn.drop (k := 7) kvs w hs) (OwnI.rd (hs.at_ 1 rfl)) (OwnI.rd (hs.at_ 2 rfl)) (Kn.drop (k := 7) kps w hs) (Kn.drop (k := 7) kqs w hs) (OwnI.rd (hs.at_ 3 rfl)) (by assumption) (by first | rfl | assumption) (by first | rfl | assumption) (by first | rfl | assumption) (by omega)) ?_
   refine asI rfl rfl rfl ?_
   refine asI rfl rfl rfl ?_
   refine rNil ?_
   refine qSeq rfl ?_
   refine hRet ?_
   exact fun w hs => ⟨[.int .i64 (Math.reTo z ws nws ps qs n nws), .int .i64 0], ⟨rfl, ⟨rfl, trivial⟩⟩, ⟨by rw [show Math.reachAt z ws vs pl ps ql qs n = (Math.reTo z ws nws ps qs n nws, 0) from Math.reachAt_0 lz lws (by assumption) (by assumption)]; rfl, hs.upd⟩⟩
theorem spec_ReachNumber_c (az : Option Addr) (nz : Nat) (cz : Nat) (Hz : Nat → Hd) (z : List Nd) (aws : Option Addr) (nws : Nat) (cws : Nat) (Hws : Nat → Hd) (ws : List (List Int)) (avs : Option Addr) (nvs : Nat) (cvs : Nat) (Hvs : Nat → Hd) (vs : List (List Int)) (pl : Int) (aps : Option Addr) (nps : Nat) (cps : Nat) (Hps : Nat → Hd) (ps : List (List Int)) (ql : Int) (aqs : Option Addr) (nqs : Nat) (cqs : Nat) (Hqs : Nat → Hd) (qs : List (List Int)) (n : Int) (w : World) (rz : RdR ndK az nz Hz z w) (rws : RdR maK aws nws Hws ws w) (rvs : RdR maK avs nvs Hvs vs w) (rps : RdR maK aps nps Hps ps w) (rqs : RdR maK aqs nqs Hqs qs w) :
  Calls Try.prog 76 #[.agg #[.slice az nz cz, .slice aws nws cws, .slice avs nvs cvs], .agg #[.int .i64 pl, .slice aps nps cps], .agg #[.int .i64 ql, .slice aqs nqs cqs], .int .i64 n] w (Ret fun v w' => v = .tuple #[.int .i64 ((Math.reachAt z ws vs pl ps ql qs n).1), .int .i64 ((Math.reachAt z ws vs pl ps ql qs n).2)] ∧ Ext w w') := by
 have kz : Kn w none_ [] (RdR ndK az nz Hz z) := fun w' hs => rz.ext hs.upd
 have lz : z.length = nz := rz.1
 have mz : nz ≤ 9223372036854775807 := rz.2.1
 have kws : Kn w none_ [] (RdR maK aws nws Hws ws) := fun w' hs => rws.ext hs.upd
 have lws : ws.length = nws := rws.1
 have mws : nws ≤ 9223372036854775807 := rws.2.1
 have kvs : Kn w none_ [] (RdR maK avs nvs Hvs vs) := fun w' hs => rvs.ext hs.upd
 have lvs : vs.length = nvs := rvs.1
 have mvs : nvs ≤ 9223372036854775807 := rvs.2.1
 have kps : Kn w none_ [] (RdR maK aps nps Hps ps) := fun w' hs => rps.ext hs.upd
 have lps : ps.length = nps := rps.1
 have mps : nps ≤ 9223372036854775807 := rps.2.1
 have kqs : Kn w none_ [] (RdR maK aqs nqs Hqs qs) := fun w' hs => rqs.ext hs.upd
 have lqs : qs.length = nqs := rqs.1
 have mqs : nqs ≤ 9223372036854775807 := rqs.2.1
 refine fn (M := none_) (rs := [.tmp 8, .tmp 9]) Try.func76 rfl Try.ntmps76 rfl rfl (Sep.start _ _) ?_
 refine hSeq ?_
 refine hReg (sl 0 (sl 1 (sl 2 (sq 3 (sq 4 sz))))) (by kernel_rfl) ?_
 refine box trv1 rfl rfl rfl rfl (fun bkb1 hbkb1 => ?_)
 refine box trv1 rfl rfl rfl rfl (fun bkb2 hbkb2 => ?_)
 refine box trv1 rfl rfl rfl rfl (fun bkb3 hbkb3 => ?_)
 refine asI rfl rfl rfl ?_
 refine asI rfl rfl rfl ?_
 refine rNil ?_
 refine qSeq rfl ?_
 refine hSeq ?_
 refine hSeq ?_
 refine hReg (sl 0 (sl 1 (sl 2 (sl 3 (sq 4 sz))))) (by kernel_rfl) ?_
 refine ldAl Try.isAgg43 Try.sizeOf43 (cBs 2 rfl) trv rfl rfl rfl rfl ?_
 refine ldAl Try.isAgg56 Try.sizeOf56 (cBs 1 rfl) trv rfl rfl rfl rfl ?_
 refine ldAl Try.isAgg56 Try.sizeOf56 (cBs 0 rfl) trv rfl rfl rfl rfl ?_
 refine callP (v := .bool (Math.isPair z ws vs pl ps ql qs)) Try.call145 trv rfl rfl (fun w hs => spec_l23Pair_c _ nz cz _ _ _ nws cws _ _ _ nvs cvs _ _ _ _ nps cps _ _ _ _ nqs cqs _ _ w (Kn.drop (k := 3) kz w hs) (Kn.drop (k := 3) kws w hs) (Kn.drop (k := 3) kvs w hs) (Kn.drop (k := 3) kps w hs) (Kn.drop (k := 3) kqs w hs)) ?_
 refine not rfl rfl rfl ?_
 refine rNil ?_
 refine qSeq rfl ?_
 refine hIfN rfl (fun c1 => ?_) (fun c1 => ?_)
 ·
  replace c1 : (Math.isPair z ws vs pl ps ql qs) = false := c1
  refine hSeq ?_
  refine hReg (sq 0 (sq 1 sz)) (by kernel_rfl) ?_
  refine asI rfl rfl rfl ?_
  refine asI rfl rfl rfl ?_
  refine rNil ?_
  refine qSeq rfl ?_
  refine hRet ?_
  exact fun w hs => ⟨[.int .i64 0, .int .i64 1], ⟨rfl, ⟨rfl, trivial⟩⟩, ⟨by rw [show Math.reachAt z ws vs pl ps ql qs n = (0, 1) from Math.reachAt_1 (by assumption)]; rfl, hs.upd⟩⟩
 ·
  replace c1 : (Math.isPair z ws vs pl ps ql qs) = true := c1
  have hpo := Math.isPair_ok c1
  have hP := hpo.2.2
  have hg := hP.g
  have hG := Math.isGame_ok hg
  rw [lws] at hG
  have hT := Math.isTree_ok hG.1
  have hvl := Math.mat_len hG.2.2.2.1
  have hpq := Math.pair_len hP lws
  refine hSkip ?_
  refine qSeq rfl ?_
  refine hSeq ?_
  refine hSeq ?_
  refine hReg (sq 0 (sq 1 (sq 2 (sl 3 (sq 4 (sq 5 (sl 6 (sq 7 sz)))))))) (by kernel_rfl) ?_
  refine mvI rfl rfl rfl ?_
  refine fld fl43_0 rfl rfl rfl ?_
  refine fld fl26_0 rfl rfl rfl ?_
  refine ldl Try.isAgg24 (cB 2 rfl rfl) trv rfl rfl rfl ?_
  refine lenS Try.runUnderlying24 rfl rfl rfl ?_
  refine sub rfl rfl rfl rfl (by omega) ?_
  refine callP (v := .bool (decide ((0 : Int) ≤ n ∧ n ≤ (((nz : Int) - 1))))) Try.call97 trv rfl rfl (fun w hs => spec_l01In_c _ _ _ w ) ?_
  refine notD rfl rfl rfl ?_
  refine rNil ?_
  refine qSeq rfl ?_
  refine hIfD rfl (fun c2 => ?_) (fun c2 => ?_)
  ·
   replace c2 : ¬ ((0 : Int) ≤ n ∧ n ≤ (((nz : Int) - 1))) := c2
   refine hSeq ?_
   refine hReg (sq 0 (sq 1 sz)) (by kernel_rfl) ?_
   refine asI rfl rfl rfl ?_
   refine asI rfl rfl rfl ?_
   refine rNil ?_
   refine qSeq rfl ?_
   refine hRet ?_
   exact fun w hs => ⟨[.int .i64 0, .int .i64 2], ⟨rfl, ⟨rfl, trivial⟩⟩, ⟨by rw [show Math.reachAt z ws vs pl ps ql qs n = (0, 2) from Math.reachAt_2 lz (by assumption) (by assumption)]; rfl, hs.upd⟩⟩
  ·
   replace c2 : ¬ (¬ ((0 : Int) ≤ n ∧ n ≤ (((nz : Int) - 1)))) := c2
   replace c2 := Classical.not_not.1 c2
   refine hSkip ?_
   refine qSeq rfl ?_
   refine hSeq ?_
   refine hReg (sl 0 (sl 1 (sl 2 (sq 3 (sl 4 (sq 5 (sq 6 sz))))))) (by kernel_rfl) ?_
   refine ldAl Try.isAgg43 Try.sizeOf43 (cBs 2 rfl) trv rfl rfl rfl rfl ?_
   refine ldAl Try.isAgg56 Try.sizeOf56 (cBs 1 rfl) trv rfl rfl rfl rfl ?_
   refine ldAl Try.isAgg56 Try.sizeOf56 (cBs 0 rfl) trv rfl rfl rfl rfl ?_
   refine mvI rfl rfl rfl ?_
   refine callP (v := .int .i64 (Math.reTo z ws nws ps qs n nws)) Try.call146 trv rfl rfl (fun w hs => spec_l23Reach_c _ nz cz _ _ _ nws cws _ _ _ nvs cvs _ _ _ _ nps cps _ _ _ _ nqs cqs _ _ _ w (Kn.drop (k := 3) kz w hs) (Kn.drop (k := 3) kws w hs) (Kn.drop (k := 3) kvs w hs) (Kn.drop (k := 3) kps w hs) (Kn.drop (k := 3) kqs w hs) (by assumption) (by omega)) ?_
   refine asI rfl rfl rfl ?_
   refine asI rfl rfl rfl ?_
   refine rNil ?_
   refine qSeq rfl ?_
   refine hRet ?_
   exact fun w hs => ⟨[.int .i64 (Math.reTo z ws nws ps qs n nws), .int .i64 0], ⟨rfl, ⟨rfl, trivial⟩⟩, ⟨by rw [show Math.reachAt z ws vs pl ps ql qs n = (Math.reTo z ws nws ps qs n nws, 0) from Math.reachAt_0 lz lws (by assumption) (by assumption)]; rfl, hs.upd⟩⟩
theorem impl_ShowdownNumber_c (az : Option Addr) (nz : Nat) (cz : Nat) (Hz : Nat → Hd) (z : List Nd) (aws : Option Addr) (nws : Nat) (cws : Nat) (Hws : Nat → Hd) (ws : List (List Int)) (avs : Option Addr) (nvs : Nat) (cvs : Nat) (Hvs : Nat → Hd) (vs : List (List Int)) (pl : Int) (aps : Option Addr) (nps : Nat) (cps : Nat) (Hps : Nat → Hd) (ps : List (List Int)) (ql : Int) (aqs : Option Addr) (nqs : Nat) (cqs : Nat) (Hqs : Nat → Hd) (qs : List (List Int)) (w : World) (rz : RdR ndK az nz Hz z w) (rws : RdR maK aws nws Hws ws w) (rvs : RdR maK avs nvs Hvs vs w) (rps : RdR maK aps nps Hps ps w) (rqs : RdR maK aqs nqs Hqs qs w) :
  Calls Try.prog 72 #[.agg #[.slice az nz cz, .slice aws nws cws, .slice avs nvs cvs], .agg #[.int .i64 pl, .slice aps nps cps], .agg #[.int .i64 ql, .slice aqs nqs cqs]] w (Ret fun v w' => v = .tuple #[.int .i64 ((Math.showAt z ws vs pl ps ql qs).1), .int .i64 ((Math.showAt z ws vs pl ps ql qs).2)] ∧ Ext w w') := by
 have kz : Kn w none_ [] (RdR ndK az nz Hz z) := fun w' hs => rz.ext hs.upd
 have lz : z.length = nz := rz.1
 have mz : nz ≤ 9223372036854775807 := rz.2.1
 have kws : Kn w none_ [] (RdR maK aws nws Hws ws) := fun w' hs => rws.ext hs.upd
 have lws : ws.length = nws := rws.1
 have mws : nws ≤ 9223372036854775807 := rws.2.1
 have kvs : Kn w none_ [] (RdR maK avs nvs Hvs vs) := fun w' hs => rvs.ext hs.upd
 have lvs : vs.length = nvs := rvs.1
 have mvs : nvs ≤ 9223372036854775807 := rvs.2.1
 have kps : Kn w none_ [] (RdR maK aps nps Hps ps) := fun w' hs => rps.ext hs.upd
 have lps : ps.length = nps := rps.1
 have mps : nps ≤ 9223372036854775807 := rps.2.1
 have kqs : Kn w none_ [] (RdR maK aqs nqs Hqs qs) := fun w' hs => rqs.ext hs.upd
 have lqs : qs.length = nqs := rqs.1
 have mqs : nqs ≤ 9223372036854775807 := rqs.2.1
 refine fn (M := none_) (rs := [.tmp 6, .tmp 7]) Try.func72 rfl Try.ntmps72 rfl rfl (Sep.start _ _) ?_
 refine hSeq ?_
 refine hReg (sl 0 (sl 1 (sl 2 (sq 3 (sq 4 sz))))) (by kernel_rfl) ?_
 refine box trv1 rfl rfl rfl rfl (fun bkb1 hbkb1 => ?_)
 refine box trv1 rfl rfl rfl rfl (fun bkb2 hbkb2 => ?_)
 refine box trv1 rfl rfl rfl rfl (fun bkb3 hbkb3 => ?_)
 refine asI rfl rfl rfl ?_
 refine asI rfl rfl rfl ?_
 refine rNil ?_
 refine qSeq rfl ?_
 refine hSeq ?_
 refine hSeq ?_
 refine hReg (sl 0 (sl 1 (sl 2 (sl 3 (sq 4 sz))))) (by kernel_rfl) ?_
 refine ldAl Try.isAgg43 Try.sizeOf43 (cBs 2 rfl) trv rfl rfl rfl rfl ?_
 refine ldAl Try.isAgg56 Try.sizeOf56 (cBs 1 rfl) trv rfl rfl rfl rfl ?_
 refine ldAl Try.isAgg56 Try.sizeOf56 (cBs 0 rfl) trv rfl rfl rfl rfl ?_
 refine callP (v := .bool (Math.isPair z ws vs pl ps ql qs)) Try.call142 trv rfl rfl (fun w hs => impl_arePair_c _ nz cz _ _ _ nws cws _ _ _ nvs cvs _ _ _ _ nps cps _ _ _ _ nqs cqs _ _ w (Kn.drop (k := 3) kz w hs) (Kn.drop (k := 3) kws w hs) (Kn.drop (k := 3) kvs w hs) (Kn.drop (k := 3) kps w hs) (Kn.drop (k := 3) kqs w hs)) ?_
 refine not rfl rfl rfl ?_
 refine rNil ?_
 refine qSeq rfl ?_
 refine hIfN rfl (fun c1 => ?_) (fun c1 => ?_)
 ·
  replace c1 : (Math.isPair z ws vs pl ps ql qs) = false := c1
  refine hSeq ?_
  refine hReg (sq 0 (sq 1 sz)) (by kernel_rfl) ?_
  refine asI rfl rfl rfl ?_
  refine asI rfl rfl rfl ?_
  refine rNil ?_
  refine qSeq rfl ?_
  refine hRet ?_
  exact fun w hs => ⟨[.int .i64 0, .int .i64 1], ⟨rfl, ⟨rfl, trivial⟩⟩, ⟨by rw [show Math.showAt z ws vs pl ps ql qs = (0, 1) from Math.showAt_1 (by assumption)]; rfl, hs.upd⟩⟩
 ·
  replace c1 : (Math.isPair z ws vs pl ps ql qs) = true := c1
  have hpo := Math.isPair_ok c1
  have hP := hpo.2.2
  have hg := hP.g
  have hG := Math.isGame_ok hg
  rw [lws] at hG
  have hT := Math.isTree_ok hG.1
  have hvl := Math.mat_len hG.2.2.2.1
  have hpq := Math.pair_len hP lws
  refine hSkip ?_
  refine qSeq rfl ?_
  refine hSeq ?_
  refine hReg (sl 0 (sl 1 (sl 2 (sl 3 (sq 4 sz))))) (by kernel_rfl) ?_
  refine ldAl Try.isAgg43 Try.sizeOf43 (cBs 2 rfl) trv rfl rfl rfl rfl ?_
  refine ldAl Try.isAgg56 Try.sizeOf56 (cBs 1 rfl) trv rfl rfl rfl rfl ?_
  refine ldAl Try.isAgg56 Try.sizeOf56 (cBs 0 rfl) trv rfl rfl rfl rfl ?_
  refine callS Try.call143 trv1 rfl rfl (fun w hs => impl_newEvaluator_c _ nz cz _ _ _ nws cws _ _ _ nvs cvs _ _ _ _ nps cps _ _ _ _ nqs cqs _ _ w (Kn.drop (k := 3) kz w hs) (Kn.drop (k := 3) kws w hs) (Kn.drop (k := 3) kvs w hs) (Kn.drop (k := 3) kps w hs) (Kn.drop (k := 3) kqs w hs) (by assumption)) ?_
  rintro ⟨be1, af01, nf01, cf01, f01, af11, nf11, cf11, f11, apr1, npr1, cpr1, pr1⟩ ⟨hr1a, hr1b, hr1c⟩
  dsimp only at hr1a hr1b hr1c
  subst f01
  subst f11
  subst pr1
  refine rKnow (fun w hs => (show OwnI 3 af01 nf01 cf01 (Math.firstOf z nws 0) w from hs.at_ 1 rfl).lenz) (fun lenn5 => ?_)
  refine rKnow (fun w hs => (show OwnI 3 af11 nf11 cf11 (Math.firstOf z nws 1) w from hs.at_ 2 rfl).lenz) (fun lenn6 => ?_)
  refine rKnow (fun w hs => (show OwnI 2 apr1 npr1 cpr1 (Math.parOf z) w from hs.at_ 3 rfl).lenz) (fun lenn7 => ?_)
  refine asn rfl rfl rfl ?_
  refine rNil ?_
  refine qSeq rfl ?_
  refine hSeq ?_
  refine hReg (sq 0 sz) (by kernel_rfl) ?_
  refine asI rfl rfl rfl ?_
  refine rNil ?_
  refine qSeq rfl ?_
  refine hSeq ?_
  refine hSeq ?_
  refine hReg (sq 0 (sl 1 (sl 2 (sq 3 (sq 4 sz))))) (by kernel_rfl) ?_
  refine fld fl43_0 rfl rfl rfl ?_
  refine ldAl Try.isAgg26 Try.sizeOf26 (cBp (m := 1) 6 rfl rfl) trv rfl rfl rfl rfl ?_
  refine callS Try.call93 trv1 rfl rfl (fun w hs => impl_nodesOf_c _ nz cz _ _ _ w (Kn.drop (k := 7) kz w hs) (by omega)) ?_
  rintro ⟨ay2, ny2, cy2, y2⟩ hr2
  dsimp only at hr2
  subst y2
  refine rKnow (fun w hs => (show OwnI 2 ay2 ny2 cy2 (((Math.nodesOf z (2 : Int)))) w from hs.at_ 0 rfl).lenz) (fun lenn8 => ?_)
  refine lenS Try.runUnderlying28 rfl rfl rfl ?_
  refine mvI rfl rfl rfl ?_
  refine rNil ?_
  refine qSeq rfl ?_
  refine hBlk ?_
  refine hLoop (α := Nat × Int) (fun x => x.1 ≤ ny2 ∧ x.2 = Math.showTo z ws nws ps qs x.1) (fun x => ny2 - x.1) (fun x => [OwnI 2 ay2 ny2 cy2 (((Math.nodesOf z (2 : Int)))), blk be1 158 [.slice az nz cz, .slice aws nws cws, .slice avs nvs cvs, .slice af01 nf01 cf01, .slice af11 nf11 cf11, .slice aps nps cps, .slice aqs nqs cqs, .slice apr1 npr1 cpr1], OwnI 3 af01 nf01 cf01 (Math.firstOf z nws 0), OwnI 3 af11 nf11 cf11 (Math.firstOf z nws 1), OwnI 2 apr1 npr1 cpr1 (Math.parOf z), blk bkb3 56 [.int .i64 ql, .slice aqs nqs cqs], blk bkb2 56 [.int .i64 pl, .slice aps nps cps], blk bkb1 43 [.slice az nz cz, .slice aws nws cws, .slice avs nvs cvs]]) (fun x => [(3, .pointer (some ⟨bkb1, 0, none⟩)), (8, .pointer (some ⟨be1, 0, none⟩)), (9, .int .i64 x.2), (23, .slice ay2 ny2 cy2), (24, .int .i64 (ny2 : Int)), (25, .int .i64 (x.1 : Int))]) (0, 0) ⟨Nat.zero_le _, rfl⟩ (fun _ h => h.pick [0, 0, 0, 0, 0, 0, 0, 0]) ⟨rfl, rfl, rfl, rfl, rfl, rfl, trivial⟩ ?_
  rintro ⟨i, s⟩ τ1 ⟨hi, hs_⟩
  dsimp only at hi hs_
  refine hRe [(3, .pointer (some ⟨bkb1, 0, none⟩)), (8, .pointer (some ⟨be1, 0, none⟩)), (9, .int .i64 s), (23, .slice ay2 ny2 cy2), (24, .int .i64 (ny2 : Int)), (25, .int .i64 (i : Int))] [OwnI 2 ay2 ny2 cy2 (((Math.nodesOf z (2 : Int)))), blk be1 158 [.slice az nz cz, .slice aws nws cws, .slice avs nvs cvs, .slice af01 nf01 cf01, .slice af11 nf11 cf11, .slice aps nps cps, .slice aqs nqs cqs, .slice apr1 npr1 cpr1], OwnI 3 af01 nf01 cf01 (Math.firstOf z nws 0), OwnI 3 af11 nf11 cf11 (Math.firstOf z nws 1), OwnI 2 apr1 npr1 cpr1 (Math.parOf z), blk bkb3 56 [.int .i64 ql, .slice aqs nqs cqs], blk bkb2 56 [.int .i64 pl, .slice aps nps cps], blk bkb1 43 [.slice az nz cz, .slice aws nws cws, .slice avs nvs cvs]] rfl rfl ?_
  refine hSeq ?_
  refine hReg (sq 0 sz) (by kernel_rfl) ?_
  refine lss rfl rfl rfl rfl ?_
  refine rNil ?_
  refine qSeq rfl ?_
  refine hSeq ?_
  refine hIfD rfl (fun c2 => ?_) (fun c2 => ?_)
  ·
   replace c2 : (i : Int) < (ny2 : Int) := c2
   have hnm := (Math.nodesOf_mem (Math.getD_mem 0 (show i < (Math.nodesOf z 2).length by omega))).1
   have hsb := Math.showTo_bd hP lws i (by omega)
   have hnb := Math.reTo_bd hP lws (n := (Math.nodesOf z 2).getD i 0) (by omega) nws (Nat.le_refl _)
   have hnl := Math.nodesOf_len z 2
   refine hSkip ?_
   refine qSeq rfl ?_
   refine hSeq ?_
   refine hBlk ?_
   refine hSeq ?_
   refine hReg (sq 0 (sl 1 (sq 2 sz))) (by kernel_rfl) ?_
   refine ixIl (zn := i) el28 ((Kn.at_ 0 rfl).imp fun _ h => OwnI.rd h) rfl rfl rfl rfl (by omega) (by omega) rfl ?_
   intro ae3 e3
   refine ldl Try.isAgg2 (e3) trv rfl rfl rfl ?_
   refine asI rfl rfl rfl ?_
   refine rNil ?_
   refine qSeq rfl ?_
   refine hSeq ?_
   refine hReg (sq 0 (sq 1 (sl 2 (sq 3 (sq 4 (sq 5 (sl 6 (sq 7 sz)))))))) (by kernel_rfl) ?_
   refine fld fl43_0 rfl rfl rfl ?_
   refine fld fl26_0 rfl rfl rfl ?_
   refine ldl Try.isAgg24 (cB 7 rfl rfl) trv rfl rfl rfl ?_
   refine mvI rfl rfl rfl ?_
   refine ixRl (zn := (((((Math.nodesOf z (2 : Int)))).getD i 0)).toNat) (z.getD ((((((Math.nodesOf z (2 : Int)))).getD i 0)).toNat) dN) el24 (Kn.drop (k := 8) kz) rfl rfl rfl rfl (by omega) (by omega) rfl (nth dN (by omega)) ?_
   intro be4 oe4 e4
   refine fld fl88_3 rfl rfl rfl ?_
   refine ldl Try.isAgg2 (Kn.fld e4 3 rfl) trv rfl rfl rfl ?_
   refine lss rfl rfl rfl rfl ?_
   refine rNil ?_
   refine qSeq rfl ?_
   refine hIfD rfl (fun c3 => ?_) (fun c3 => ?_)
   ·
    replace c3 : (z.getD ((((((Math.nodesOf z (2 : Int)))).getD i 0)).toNat) dN).fo < 0 := c3
    refine hReg (sq 0 (sq 1 (sq 2 (sl 3 (sq 4 (sq 5 sz)))))) (by kernel_rfl) ?_
    refine mvI rfl rfl rfl ?_
    refine mvP rfl rfl rfl ?_
    refine mvI rfl rfl rfl ?_
    refine callP (v := .int .i64 ((Math.reTo z ws nws ps qs (((((Math.nodesOf z (2 : Int)))).getD i 0)) nws))) Try.call144 trv rfl rfl (fun w hs => impl_evaluator_reach_c be1 _ nz cz _ _ _ nws cws _ _ _ nvs cvs _ _ _ nf01 cf01 _ _ nf11 cf11 _ _ nps cps _ _ _ nqs cqs _ _ _ npr1 cpr1 _ _ w (RdB.of (hs.at_ 1 rfl)) (Kn.drop (k := 8) kz w hs) (Kn.drop (k := 8) kws w hs) (Kn.drop (k := 8) kvs w hs) (OwnI.rd (hs.at_ 2 rfl)) (OwnI.rd (hs.at_ 3 rfl)) (Kn.drop (k := 8) kps w hs) (Kn.drop (k := 8) kqs w hs) (OwnI.rd (hs.at_ 4 rfl)) (by assumption) (by first | rfl | assumption) (by first | rfl | assumption) (by first | rfl | assumption) (by omega)) ?_
    refine add rfl rfl rfl rfl (by omega) ?_
    refine asI rfl rfl rfl ?_
    refine rNil ?_
    refine qSeq rfl ?_
    refine hReg (sq 0 (sq 1 sz)) (by kernel_rfl) ?_
    refine add rfl rfl rfl rfl (by omega) ?_
    refine mvI rfl rfl rfl ?_
    refine rNil ?_
    exact qNext rfl ((i + 1, (s + (Math.reTo z ws nws ps qs (((((Math.nodesOf z (2 : Int)))).getD i 0)) nws)))) (by dsimp only; omega) ⟨by dsimp only; omega, by dsimp only; rw [hs_, Math.showTo_y (by assumption)]⟩ ⟨rfl, rfl, rfl, rfl, rfl, rfl, trivial⟩ (fun _ h => h.pick [0, 0, 0, 0, 0, 0, 0, 0])
   ·
    replace c3 : ¬ ((z.getD ((((((Math.nodesOf z (2 : Int)))).getD i 0)).toNat) dN).fo < 0) := c3
    refine hSkip ?_
    refine qSeq rfl ?_
    refine hReg (sq 0 (sq 1 sz)) (by kernel_rfl) ?_
    refine add rfl rfl rfl rfl (by omega) ?_
    refine mvI rfl rfl rfl ?_
    refine rNil ?_
    exact qNext rfl (i + 1, s) (by dsimp only; omega) ⟨by dsimp only; omega, by dsimp only; rw [hs_, Math.showTo_n (by assumption)]⟩ ⟨rfl, rfl, rfl, rfl, rfl, rfl, trivial⟩ (fun _ h => h.pick [0, 0, 0, 0, 0, 0, 0, 0])
  ·
   replace c2 : ¬ ((i : Int) < (ny2 : Int)) := c2
   refine hExit rfl ?_
   refine qSeq rfl ?_
   refine hSeq ?_
   refine hReg (sq 0 (sq 1 (sq 2 sz))) (by kernel_rfl) ?_
   refine mvI rfl rfl rfl ?_
   refine asI rfl rfl rfl ?_
   refine asI rfl rfl rfl ?_
   refine rNil ?_
   refine qSeq rfl ?_
   refine hRet ?_
   exact fun w hs => ⟨[.int .i64 s, .int .i64 0], ⟨rfl, ⟨rfl, trivial⟩⟩, ⟨by rw [show Math.showAt z ws vs pl ps ql qs = (s, 0) from by rw [Math.showAt_0 lws (by assumption) (show i = (Math.nodesOf z 2).length by omega), hs_]]; rfl, hs.upd⟩⟩
theorem spec_ShowdownNumber_c (az : Option Addr) (nz : Nat) (cz : Nat) (Hz : Nat → Hd) (z : List Nd) (aws : Option Addr) (nws : Nat) (cws : Nat) (Hws : Nat → Hd) (ws : List (List Int)) (avs : Option Addr) (nvs : Nat) (cvs : Nat) (Hvs : Nat → Hd) (vs : List (List Int)) (pl : Int) (aps : Option Addr) (nps : Nat) (cps : Nat) (Hps : Nat → Hd) (ps : List (List Int)) (ql : Int) (aqs : Option Addr) (nqs : Nat) (cqs : Nat) (Hqs : Nat → Hd) (qs : List (List Int)) (w : World) (rz : RdR ndK az nz Hz z w) (rws : RdR maK aws nws Hws ws w) (rvs : RdR maK avs nvs Hvs vs w) (rps : RdR maK aps nps Hps ps w) (rqs : RdR maK aqs nqs Hqs qs w) :
  Calls Try.prog 73 #[.agg #[.slice az nz cz, .slice aws nws cws, .slice avs nvs cvs], .agg #[.int .i64 pl, .slice aps nps cps], .agg #[.int .i64 ql, .slice aqs nqs cqs]] w (Ret fun v w' => v = .tuple #[.int .i64 ((Math.showAt z ws vs pl ps ql qs).1), .int .i64 ((Math.showAt z ws vs pl ps ql qs).2)] ∧ Ext w w') := by
 have kz : Kn w none_ [] (RdR ndK az nz Hz z) := fun w' hs => rz.ext hs.upd
 have lz : z.length = nz := rz.1
 have mz : nz ≤ 9223372036854775807 := rz.2.1
 have kws : Kn w none_ [] (RdR maK aws nws Hws ws) := fun w' hs => rws.ext hs.upd
 have lws : ws.length = nws := rws.1
 have mws : nws ≤ 9223372036854775807 := rws.2.1
 have kvs : Kn w none_ [] (RdR maK avs nvs Hvs vs) := fun w' hs => rvs.ext hs.upd
 have lvs : vs.length = nvs := rvs.1
 have mvs : nvs ≤ 9223372036854775807 := rvs.2.1
 have kps : Kn w none_ [] (RdR maK aps nps Hps ps) := fun w' hs => rps.ext hs.upd
 have lps : ps.length = nps := rps.1
 have mps : nps ≤ 9223372036854775807 := rps.2.1
 have kqs : Kn w none_ [] (RdR maK aqs nqs Hqs qs) := fun w' hs => rqs.ext hs.upd
 have lqs : qs.length = nqs := rqs.1
 have mqs : nqs ≤ 9223372036854775807 := rqs.2.1
 refine fn (M := none_) (rs := [.tmp 6, .tmp 7]) Try.func73 rfl Try.ntmps73 rfl rfl (Sep.start _ _) ?_
 refine hSeq ?_
 refine hReg (sl 0 (sl 1 (sl 2 (sq 3 (sq 4 sz))))) (by kernel_rfl) ?_
 refine box trv1 rfl rfl rfl rfl (fun bkb1 hbkb1 => ?_)
 refine box trv1 rfl rfl rfl rfl (fun bkb2 hbkb2 => ?_)
 refine box trv1 rfl rfl rfl rfl (fun bkb3 hbkb3 => ?_)
 refine asI rfl rfl rfl ?_
 refine asI rfl rfl rfl ?_
 refine rNil ?_
 refine qSeq rfl ?_
 refine hSeq ?_
 refine hSeq ?_
 refine hReg (sl 0 (sl 1 (sl 2 (sl 3 (sq 4 sz))))) (by kernel_rfl) ?_
 refine ldAl Try.isAgg43 Try.sizeOf43 (cBs 2 rfl) trv rfl rfl rfl rfl ?_
 refine ldAl Try.isAgg56 Try.sizeOf56 (cBs 1 rfl) trv rfl rfl rfl rfl ?_
 refine ldAl Try.isAgg56 Try.sizeOf56 (cBs 0 rfl) trv rfl rfl rfl rfl ?_
 refine callP (v := .bool (Math.isPair z ws vs pl ps ql qs)) Try.call145 trv rfl rfl (fun w hs => spec_l23Pair_c _ nz cz _ _ _ nws cws _ _ _ nvs cvs _ _ _ _ nps cps _ _ _ _ nqs cqs _ _ w (Kn.drop (k := 3) kz w hs) (Kn.drop (k := 3) kws w hs) (Kn.drop (k := 3) kvs w hs) (Kn.drop (k := 3) kps w hs) (Kn.drop (k := 3) kqs w hs)) ?_
 refine not rfl rfl rfl ?_
 refine rNil ?_
 refine qSeq rfl ?_
 refine hIfN rfl (fun c1 => ?_) (fun c1 => ?_)
 ·
  replace c1 : (Math.isPair z ws vs pl ps ql qs) = false := c1
  refine hSeq ?_
  refine hReg (sq 0 (sq 1 sz)) (by kernel_rfl) ?_
  refine asI rfl rfl rfl ?_
  refine asI rfl rfl rfl ?_
  refine rNil ?_
  refine qSeq rfl ?_
  refine hRet ?_
  exact fun w hs => ⟨[.int .i64 0, .int .i64 1], ⟨rfl, ⟨rfl, trivial⟩⟩, ⟨by rw [show Math.showAt z ws vs pl ps ql qs = (0, 1) from Math.showAt_1 (by assumption)]; rfl, hs.upd⟩⟩
 ·
  replace c1 : (Math.isPair z ws vs pl ps ql qs) = true := c1
  have hpo := Math.isPair_ok c1
  have hP := hpo.2.2
  have hg := hP.g
  have hG := Math.isGame_ok hg
  rw [lws] at hG
  have hT := Math.isTree_ok hG.1
  have hvl := Math.mat_len hG.2.2.2.1
  have hpq := Math.pair_len hP lws
  refine hSkip ?_
  refine qSeq rfl ?_
  refine hSeq ?_
  refine hReg (sq 0 (sl 1 (sl 2 (sq 3 sz)))) (by kernel_rfl) ?_
  refine fld fl43_0 rfl rfl rfl ?_
  refine ldAl Try.isAgg26 Try.sizeOf26 (cBp (m := 1) 2 rfl rfl) trv rfl rfl rfl rfl ?_
  refine callS Try.call94 trv1 rfl rfl (fun w hs => spec_l20Of_c _ nz cz _ _ _ w (Kn.drop (k := 3) kz w hs) (by omega)) ?_
  rintro ⟨ay1, ny1, cy1, y1⟩ hr1
  dsimp only at hr1
  subst y1
  refine rKnow (fun w hs => (show OwnI 2 ay1 ny1 cy1 (((Math.nodesOf z (2 : Int)))) w from hs.at_ 0 rfl).lenz) (fun lenn4 => ?_)
  refine asS rfl rfl rfl ?_
  refine rNil ?_
  refine qSeq rfl ?_
  refine hSeq ?_
  refine hReg (sq 0 sz) (by kernel_rfl) ?_
  refine asI rfl rfl rfl ?_
  refine rNil ?_
  refine qSeq rfl ?_
  refine hSeq ?_
  refine hSeq ?_
  refine hReg (sq 0 sz) (by kernel_rfl) ?_
  refine asI rfl rfl rfl ?_
  refine rNil ?_
  refine qSeq rfl ?_
  refine hBlk ?_
  refine hLoop (α := Nat × Int) (fun x => x.1 ≤ ny1 ∧ x.2 = Math.showTo z ws nws ps qs x.1) (fun x => ny1 - x.1) (fun x => [OwnI 2 ay1 ny1 cy1 (((Math.nodesOf z (2 : Int)))), blk bkb3 56 [.int .i64 ql, .slice aqs nqs cqs], blk bkb2 56 [.int .i64 pl, .slice aps nps cps], blk bkb1 43 [.slice az nz cz, .slice aws nws cws, .slice avs nvs cvs]]) (fun x => [(3, .pointer (some ⟨bkb1, 0, none⟩)), (4, .pointer (some ⟨bkb2, 0, none⟩)), (5, .pointer (some ⟨bkb3, 0, none⟩)), (8, .slice ay1 ny1 cy1), (9, .int .i64 x.2), (10, .int .i64 (x.1 : Int))]) (0, 0) ⟨Nat.zero_le _, rfl⟩ (fun _ h => h.pick [0, 0, 0, 0]) ⟨rfl, rfl, rfl, rfl, rfl, rfl, trivial⟩ ?_
  rintro ⟨i, s⟩ τ1 ⟨hi, hs_⟩
  dsimp only at hi hs_
  refine hRe [(3, .pointer (some ⟨bkb1, 0, none⟩)), (4, .pointer (some ⟨bkb2, 0, none⟩)), (5, .pointer (some ⟨bkb3, 0, none⟩)), (8, .slice ay1 ny1 cy1), (9, .int .i64 s), (10, .int .i64 (i : Int))] [OwnI 2 ay1 ny1 cy1 (((Math.nodesOf z (2 : Int)))), blk bkb3 56 [.int .i64 ql, .slice aqs nqs cqs], blk bkb2 56 [.int .i64 pl, .slice aps nps cps], blk bkb1 43 [.slice az nz cz, .slice aws nws cws, .slice avs nvs cvs]] rfl rfl ?_
  refine hSeq ?_
  refine hSeq ?_
  refine hReg (sq 0 (sq 1 (sq 2 (sq 3 sz)))) (by kernel_rfl) ?_
  refine mvI rfl rfl rfl ?_
  refine mvS rfl rfl rfl ?_
  refine lenS Try.runUnderlying28 rfl rfl rfl ?_
  refine lss rfl rfl rfl rfl ?_
  refine rNil ?_
  refine qSeq rfl ?_
  refine hIfD rfl (fun c2 => ?_) (fun c2 => ?_)
  ·
   replace c2 : (i : Int) < (ny1 : Int) := c2
   have hnm := (Math.nodesOf_mem (Math.getD_mem 0 (show i < (Math.nodesOf z 2).length by omega))).1
   have hsb := Math.showTo_bd hP lws i (by omega)
   have hnb := Math.reTo_bd hP lws (n := (Math.nodesOf z 2).getD i 0) (by omega) nws (Nat.le_refl _)
   have hnl := Math.nodesOf_len z 2
   refine hSkip ?_
   refine qSeq rfl ?_
   refine hSeq ?_
   refine hBlk ?_
   refine hSeq ?_
   refine hDraw (Ls := [OwnI 2 ay1 ny1 cy1 (((Math.nodesOf z (2 : Int)))), blk bkb1 43 [.slice az nz cz, .slice aws nws cws, .slice avs nvs cvs]]) (by kernel_rfl) (sq 0 (sq 1 (sq 2 (sq 3 (sq 4 (sq 5 (sq 6 (sq 7 (sq 8 (sq 9 (sq 10 sz))))))))))) (by kernel_rfl) (.cons_cons _ (.cons _ (.cons _ (.cons_cons _ .slnil)))) ?_
   refine fld fl43_0 rfl rfl rfl ?_
   refine fld fl26_0 rfl rfl rfl ?_
   refine ldq Try.isAgg24 (cB 1 rfl rfl) rfl rfl rfl ?_
   refine mvS rfl rfl rfl ?_
   refine mvI rfl rfl rfl ?_
   refine ixIq (zn := i) el28 ((Kn.at_ 0 rfl).imp fun _ h => OwnI.rd h) (fun _ h => h.pick [0, 2]) rfl rfl rfl rfl (by omega) (by omega) rfl ?_
   intro ae2 e2
   refine ldq Try.isAgg2 (e2) rfl rfl rfl ?_
   refine ixRq (zn := (((((Math.nodesOf z (2 : Int)))).getD i 0)).toNat) (z.getD ((((((Math.nodesOf z (2 : Int)))).getD i 0)).toNat) dN) el24 (Kn.drop (k := 2) kz) (fun _ h => h.pick [0, 2]) rfl rfl rfl rfl (by omega) (by omega) rfl (nth dN (by omega)) ?_
   intro be3 oe3 e3
   refine fld fl88_3 rfl rfl rfl ?_
   refine ldq Try.isAgg2 (Kn.fld e3 3 rfl) rfl rfl rfl ?_
   refine lss rfl rfl rfl rfl ?_
   refine rNil ?_
   refine qSeq rfl ?_
   refine hIfD rfl (fun c3 => ?_) (fun c3 => ?_)
   ·
    replace c3 : (z.getD ((((((Math.nodesOf z (2 : Int)))).getD i 0)).toNat) dN).fo < 0 := c3
    refine hDraw (Ls := [OwnI 2 ay1 ny1 cy1 (((Math.nodesOf z (2 : Int)))), blk bkb3 56 [.int .i64 ql, .slice aqs nqs cqs], blk bkb2 56 [.int .i64 pl, .slice aps nps cps], blk bkb1 43 [.slice az nz cz, .slice aws nws cws, .slice avs nvs cvs]]) (by kernel_rfl) (sq 0 (sq 1 (sq 2 (sq 3 (sq 4 (sq 5 (sq 6 (sq 7 (sl 8 (sq 9 (sq 10 sz))))))))))) (by kernel_rfl) (.cons_cons _ (.cons_cons _ (.cons_cons _ (.cons_cons _ .slnil)))) ?_
    refine mvI rfl rfl rfl ?_
    refine ldAq Try.isAgg43 Try.sizeOf43 (cBs 3 rfl) rfl rfl rfl rfl ?_
    refine ldAq Try.isAgg56 Try.sizeOf56 (cBs 2 rfl) rfl rfl rfl rfl ?_
    refine ldAq Try.isAgg56 Try.sizeOf56 (cBs 1 rfl) rfl rfl rfl rfl ?_
    refine mvS rfl rfl rfl ?_
    refine mvI rfl rfl rfl ?_
    refine ixIq (zn := i) el28 ((Kn.at_ 0 rfl).imp fun _ h => OwnI.rd h) (fun _ h => h.pick [0, 0, 0, 0]) rfl rfl rfl rfl (by omega) (by omega) rfl ?_
    intro ae4 e4
    refine ldq Try.isAgg2 (e4) rfl rfl rfl ?_
    refine callP (v := .int .i64 ((Math.reTo z ws nws ps qs (((((Math.nodesOf z (2 : Int)))).getD i 0)) nws))) Try.call146 (fun _ h => h.pick [0, 0, 0, 0]) rfl rfl (fun w hs => spec_l23Reach_c _ nz cz _ _ _ nws cws _ _ _ nvs cvs _ _ _ _ nps cps _ _ _ _ nqs cqs _ _ _ w (Kn.drop (k := 4) kz w hs) (Kn.drop (k := 4) kws w hs) (Kn.drop (k := 4) kvs w hs) (Kn.drop (k := 4) kps w hs) (Kn.drop (k := 4) kqs w hs) (by assumption) (by omega)) ?_
    refine add rfl rfl rfl rfl (by omega) ?_
    refine asI rfl rfl rfl ?_
    refine rNil ?_
    refine qSeq rfl ?_
    refine hReg (sq 0 (sq 1 (sq 2 sz))) (by kernel_rfl) ?_
    refine mvI rfl rfl rfl ?_
    refine add rfl rfl rfl rfl (by omega) ?_
    refine asI rfl rfl rfl ?_
    refine rNil ?_
    exact qNext rfl ((i + 1, (s + (Math.reTo z ws nws ps qs (((((Math.nodesOf z (2 : Int)))).getD i 0)) nws)))) (by dsimp only; omega) ⟨by dsimp only; omega, by dsimp only; rw [hs_, Math.showTo_y (by assumption)]⟩ ⟨rfl, rfl, rfl, rfl, rfl, rfl, trivial⟩ (fun _ h => h.pick [0, 0, 0, 0])
   ·
    replace c3 : ¬ ((z.getD ((((((Math.nodesOf z (2 : Int)))).getD i 0)).toNat) dN).fo < 0) := c3
    refine hSkip ?_
    refine qSeq rfl ?_
    refine hReg (sq 0 (sq 1 (sq 2 sz))) (by kernel_rfl) ?_
    refine mvI rfl rfl rfl ?_
    refine add rfl rfl rfl rfl (by omega) ?_
    refine asI rfl rfl rfl ?_
    refine rNil ?_
    exact qNext rfl (i + 1, s) (by dsimp only; omega) ⟨by dsimp only; omega, by dsimp only; rw [hs_, Math.showTo_n (by assumption)]⟩ ⟨rfl, rfl, rfl, rfl, rfl, rfl, trivial⟩ (fun _ h => h.pick [0, 0, 0, 0])
  ·
   replace c2 : ¬ ((i : Int) < (ny1 : Int)) := c2
   refine hExit rfl ?_
   refine qSeq rfl ?_
   refine hSeq ?_
   refine hReg (sq 0 (sq 1 (sq 2 sz))) (by kernel_rfl) ?_
   refine mvI rfl rfl rfl ?_
   refine asI rfl rfl rfl ?_
   refine asI rfl rfl rfl ?_
   refine rNil ?_
   refine qSeq rfl ?_
   refine hRet ?_
   exact fun w hs => ⟨[.int .i64 s, .int .i64 0], ⟨rfl, ⟨rfl, trivial⟩⟩, ⟨by rw [show Math.showAt z ws vs pl ps ql qs = (s, 0) from by rw [Math.showAt_0 lws (by assumption) (show i = (Math.nodesOf z 2).length by omega), hs_]]; rfl, hs.upd⟩⟩
end Go.Proofs.Ytjengglpbdgmnaa
/- Plain facts: what leads to a decision leads on to its children; what leads to all ends is the unit. No condition. -/
namespace Go.Proofs.Ytjengglpbdgmnaa.Math
open Go.Proofs.Ytjengglpbdgmnaa.V
set_option linter.unusedVariables false
set_option linter.unusedSimpArgs false
section
variable {z : List Nd} {ws vs ps qs : List (List Int)} {k : Nat}
theorem reW_app {n w : Int} (a b : Int) : ∀ {l : List Int} {v p : Int}, Leads z l v n → reW z k ps qs a b (l ++ [w]) v p = reW z k ps qs a b l v p * (choice z k ps qs n a b).getD w.toNat 0
  | [], v, p, h => by cases h; rfl
  | x :: l, v, p, h => by
    have := reW_app (n := n) (w := w) a b (l := l) (p := p * (choice z k ps qs v a b).getD x.toNat 0) h.2
    exact this
theorem kid_place {v : Int} (hok : allOk z = true) (hv : 0 ≤ v ∧ v < z.length) {i : Nat} (hi : i < (z.getD v.toNat dN).ch.length) : indexOf (z.getD v.toNat dN).ch ((z.getD v.toNat dN).ch.getD i 0) = (i : Int) := by
  refine indexOf_yes hi rfl fun j hj => ?_
  have hr := allOk_iff.1 hok v.toNat (by omega)
  have hp := ok_pl hr
  have h2 : ¬ (z.getD v.toNat dN).pl = 2 := fun h => by have := hp.2.2.2.2.2.1 h; omega
  simp only [okB, h2, decide_false, cond_false, Bool.and_eq_true] at hr
  have := rising_lt hr.2.2.2.2.2.2 hj hi
  omega
theorem way_kid (ht : isTree z = true) {v : Int} (hv : 0 ≤ v ∧ v < z.length) {i : Nat} (hi : i < (z.getD v.toNat dN).ch.length) :
    wayOf z ((z.getD v.toNat dN).ch.getD i 0) = wayOf z v ++ [(i : Int)] ∧ (v + 1 ≤ (z.getD v.toNat dN).ch.getD i 0 ∧ (z.getD v.toNat dN).ch.getD i 0 < z.length) := by
  have hT := isTree_ok ht
  have hm := getD_mem 0 hi
  have hk := ok_kid (allOk_iff.1 hT.2.1 v.toNat (by omega)) hm
  have hw := wayOf_way hT.2.1 hT.2.2.1 hv.1 hv.2
  rw [← show ((v.toNat : Nat) : Int) = v from by omega] at hw
  have h2 := Way.step (z := z) (i := v.toNat) (n := (z.getD v.toNat dN).ch.getD i 0) (by omega) (by omega) hm hw
  rw [kid_place hT.2.1 hv hi] at h2
  refine ⟨?_, by omega⟩
  rw [← wayOf_eq hT.2.2.1 (by omega) h2, show ((v.toNat : Nat) : Int) = v from by omega]
theorem reN_kid (ht : isTree z = true) {v : Int} (hv : 0 ≤ v ∧ v < z.length) (a b : Nat) {i : Nat} (hi : i < (z.getD v.toNat dN).ch.length) :
    reN z ws k ps qs ((z.getD v.toNat dN).ch.getD i 0) a b = (choice z k ps qs v (a : Int) (b : Int)).getD i 0 * (reW z k ps qs (a : Int) (b : Int) (wayOf z v) 0 ((ws.getD a []).getD b 0) * p60 (depth z 0 - ((wayOf z v).length : Int) - 1).toNat) := by
  have hw := way_kid ht hv hi
  have hl := way_leads ht hv
  unfold reN
  rw [hw.1, reW_app (a : Int) (b : Int) hl.1, List.length_append, List.length_singleton, Int.toNat_natCast]
  rw [show depth z 0 - (((wayOf z v).length + 1 : Nat) : Int) = depth z 0 - ((wayOf z v).length : Int) - 1 from by omega]
  simp only [Int.mul_assoc, Int.mul_comm, Int.mul_left_comm]
theorem mapR_mulr (f : Nat → Int) (c : Int) : ∀ n, (mapR (fun i => f i * c) n).sum = (mapR f n).sum * c
  | 0 => by show (0 : Int) = 0 * c; rw [Int.zero_mul]
  | n + 1 => by rw [mapR_suc, mapR_suc, mapR_mulr f c n, Int.add_mul]
theorem reN_kids (h : Pair z ws vs ps qs) (hk : ws.length = k) {v : Int} (hv : 0 ≤ v ∧ v < z.length) (hpl : ¬ (z.getD v.toNat dN).pl = 2) {a b : Nat} (ha : a < k) (hb : b < k) :
    (mapR (fun i => reN z ws k ps qs ((z.getD v.toNat dN).ch.getD i 0) a b) (z.getD v.toNat dN).ch.length).sum = reN z ws k ps qs v a b := by
  have ht := (isGame_ok h.g).1
  have hT := isTree_ok ht
  have hc := choice_ok h hk hv hpl (a := (a : Int)) (b := (b : Int)) (by omega) (by omega)
  rw [mapR_congr fun i hi => reN_kid (ws := ws) (ps := ps) (qs := qs) (k := k) ht hv a b hi, mapR_mulr, ← hc.1, mapR_list _ _ (Nat.le_refl _), List.take_of_length_le (Nat.le_refl _), hc.2.2]
  have hp := ok_pl (allOk_iff.1 hT.2.1 v.toNat (by omega))
  have h0 : 0 < (z.getD v.toNat dN).ch.length := by
    rcases Nat.eq_zero_or_pos (z.getD v.toNat dN).ch.length with h0 | h0
    · exact absurd (hp.2.2.2.2.2.2 h0) hpl
    · exact h0
  have hw := way_kid ht hv h0
  have hl := way_leads ht (show 0 ≤ (z.getD v.toNat dN).ch.getD 0 0 ∧ (z.getD v.toNat dN).ch.getD 0 0 < z.length from ⟨by omega, hw.2.2⟩)
  rw [hw.1, List.length_append, List.length_singleton] at hl
  have hd : 1 ≤ depth z 0 - ((wayOf z v).length : Int) := by omega
  unfold reN
  have hs : p60 (depth z 0 - ((wayOf z v).length : Int)).toNat = p60 (depth z 0 - ((wayOf z v).length : Int) - 1).toNat * 60 := by rw [← p60_s]; congr 1; omega
  rw [hs]
  simp only [Int.mul_assoc, Int.mul_comm, Int.mul_left_comm]
/-- What leads to the children of a decision. -/
noncomputable def kidTo (z : List Nd) (ws : List (List Int)) (k : Nat) (ps qs : List (List Int)) (v : Int) (m : Nat) : Int := (mapR (fun i => reTo z ws k ps qs ((z.getD v.toNat dN).ch.getD i 0) k) m).sum
theorem kidTo_s (v : Int) (m : Nat) : kidTo z ws k ps qs v (m + 1) = kidTo z ws k ps qs v m + reTo z ws k ps qs ((z.getD v.toNat dN).ch.getD m 0) k := mapR_suc _ _
theorem kidTo_all (h : Pair z ws vs ps qs) (hk : ws.length = k) {v : Int} (hv : 0 ≤ v ∧ v < z.length) (hpl : ¬ (z.getD v.toNat dN).pl = 2) : kidTo z ws k ps qs v (z.getD v.toNat dN).ch.length = reTo z ws k ps qs v k := by
  unfold kidTo reTo
  rw [sum_swap (fun i a => reRow z ws k ps qs ((z.getD v.toNat dN).ch.getD i 0) a k) k]
  congr 1
  refine mapR_congr fun a ha => ?_
  unfold reRow
  rw [sum_swap (fun i b => reN z ws k ps qs ((z.getD v.toNat dN).ch.getD i 0) a b) k]
  congr 1
  exact mapR_congr fun b hb => reN_kids h hk hv hpl ha hb
theorem kidTo_bd (h : Pair z ws vs ps qs) (hk : ws.length = k) {v : Int} (hv : 0 ≤ v ∧ v < z.length) : ∀ m, m ≤ (z.getD v.toNat dN).ch.length → 0 ≤ kidTo z ws k ps qs v m ∧ kidTo z ws k ps qs v m ≤ 251942400000 * m
  | 0, _ => by show 0 ≤ (0 : Int) ∧ (0 : Int) ≤ _; omega
  | m + 1, hm => by
    have h1 := kidTo_bd h hk hv m (by omega)
    have hw := way_kid (isGame_ok h.g).1 hv (show m < (z.getD v.toNat dN).ch.length by omega)
    have h2 := reTo_bd h hk (n := (z.getD v.toNat dN).ch.getD m 0) (by omega) k (Nat.le_refl _)
    have h3 := (isGame_ok h.g).2.1
    rw [kidTo_s]; omega
theorem perm_sum {l m : List Int} (h : l.Perm m) (f : Int → Int) : (l.map f).sum = (m.map f).sum := by
  induction h with
  | nil => rfl
  | cons x _ ih => rw [List.map_cons, List.map_cons, List.sum_cons, List.sum_cons, ih]
  | swap x y l => simp only [List.map_cons, List.sum_cons]; omega
  | trans _ _ h1 h2 => rw [h1, h2]
theorem kids_range {z : List Nd} (hok : allOk z = true) {c : Int} (h : c ∈ kids z) : 1 ≤ c ∧ c < z.length := by
  unfold kids at h
  obtain ⟨x, hx, hc⟩ := List.mem_flatMap.1 h
  obtain ⟨i, hi, he⟩ := List.getElem_of_mem hx
  have hg : z.getD i dN = x := by simp [List.getD, List.getElem?_eq_getElem hi, he]
  rw [← hg] at hc
  have := ok_kid (allOk_iff.1 hok i hi) hc
  omega
/-- The numbers 1, 2, .., n. -/
def upTo : Nat → List Int
  | 0 => []
  | n + 1 => upTo n ++ [((n + 1 : Nat) : Int)]
theorem upTo_count : ∀ (n : Nat) (c : Int), (upTo n).count c = if 1 ≤ c ∧ c ≤ n then 1 else 0
  | 0, c => by unfold upTo; rw [List.count_nil, if_neg (by omega)]
  | n + 1, c => by
    unfold upTo
    rw [List.count_append, upTo_count n c]
    by_cases h : c = ((n + 1 : Nat) : Int)
    · have e : [((n + 1 : Nat) : Int)].count c = 1 := by rw [h]; exact List.count_singleton_self
      rw [e, if_neg (show ¬ (1 ≤ c ∧ c ≤ (n : Int)) by omega), if_pos (show 1 ≤ c ∧ c ≤ ((n + 1 : Nat) : Int) by omega)]
    · have e : [((n + 1 : Nat) : Int)].count c = 0 := List.count_eq_zero.2 fun hm => h (List.mem_singleton.1 hm)
      rw [e]
      by_cases h2 : 1 ≤ c ∧ c ≤ (n : Int)
      · rw [if_pos h2, if_pos (show 1 ≤ c ∧ c ≤ ((n + 1 : Nat) : Int) by omega)]
      · rw [if_neg h2, if_neg (show ¬ (1 ≤ c ∧ c ≤ ((n + 1 : Nat) : Int)) by omega)]
theorem kids_perm {z : List Nd} (ht : isTree z = true) : (kids z).Perm (upTo (z.length - 1)) := by
  have hT := isTree_ok ht
  refine List.perm_iff_count.2 fun c => ?_
  rw [upTo_count]
  by_cases hc : 1 ≤ c ∧ c ≤ ((z.length - 1 : Nat) : Int)
  · rw [if_pos hc]
    have := oneEach_iff.1 hT.2.2.1 c.toNat (by omega) (by omega)
    rwa [show ((c.toNat : Nat) : Int) = c from by omega] at this
  · rw [if_neg hc]
    exact List.count_eq_zero.2 fun hm => hc (by have := kids_range hT.2.1 hm; omega)
theorem upTo_sum (f : Int → Int) : ∀ n, ((upTo n).map f).sum + f 0 = (mapR (fun i => f (i : Int)) (n + 1)).sum
  | 0 => by rw [mapR_suc]; rfl
  | n + 1 => by
    have e : upTo (n + 1) = upTo n ++ [((n + 1 : Nat) : Int)] := rfl
    rw [mapR_suc, ← upTo_sum f n, e, List.map_append, List.sum_append]
    show _ + (f ((n + 1 : Nat) : Int) + 0) + _ = _
    omega
theorem kids_sum {z : List Nd} (f : Int → Int) : ∀ n, n ≤ z.length → ((kids (z.take n)).map f).sum = (mapR (fun i => ((z.getD i dN).ch.map f).sum) n).sum
  | 0, _ => rfl
  | n + 1, h => by
    rw [kids_step (by omega), List.map_append, List.sum_append, kids_sum f n (by omega), mapR_suc]
theorem ch_sum (l : List Int) (f : Int → Int) : (l.map f).sum = (mapR (fun i => f (l.getD i 0)) l.length).sum := by
  conv => lhs; rw [list_mapR l 0]
  unfold mapR; rw [List.map_map]; rfl
theorem nodes_part {z : List Nd} (hok : allOk z = true) (f : Int → Int) : ∀ n, n ≤ z.length → (mapR (fun i => f (i : Int)) n).sum = ((nodesTo z 2 n).map f).sum + (mapR (fun i => if (z.getD i dN).pl = 2 then 0 else f (i : Int)) n).sum
  | 0, _ => rfl
  | n + 1, h => by
    rw [mapR_suc, nodes_part hok f n (by omega), mapR_suc]
    by_cases h2 : (z.getD n dN).pl = 2
    · rw [nodesTo_yes h2, if_pos h2, List.map_append, List.sum_append]
      show _ = _ + (f (n : Int) + 0) + _
      omega
    · rw [nodesTo_no h2, if_neg h2]; omega
/-- All ends together. -/
theorem ends_sum (h : Pair z ws vs ps qs) (hk : ws.length = k) : ((nodesOf z 2).map fun v => reTo z ws k ps qs v k).sum = reTo z ws k ps qs 0 k := by
  have ht := (isGame_ok h.g).1
  have hT := isTree_ok ht
  have h1 := perm_sum (kids_perm ht) fun v => reTo z ws k ps qs v k
  have h2 := upTo_sum (fun v => reTo z ws k ps qs v k) (z.length - 1)
  rw [show z.length - 1 + 1 = z.length from by omega, nodes_part hT.2.1 (fun v => reTo z ws k ps qs v k) _ (Nat.le_refl _), nodesTo_all rfl rfl] at h2
  have h3 := kids_sum (z := z) (fun v => reTo z ws k ps qs v k) z.length (Nat.le_refl _)
  rw [List.take_of_length_le (Nat.le_refl _)] at h3
  have h4 : mapR (fun i => ((z.getD i dN).ch.map fun v => reTo z ws k ps qs v k).sum) z.length = mapR (fun i => if (z.getD i dN).pl = 2 then 0 else reTo z ws k ps qs (i : Int) k) z.length := mapR_congr fun i hi => by
    by_cases h2 : (z.getD i dN).pl = 2
    · rw [if_pos h2, ok_empty (allOk_iff.1 hT.2.1 i hi) h2]; rfl
    · rw [if_neg h2, ch_sum]
      exact kidTo_all h hk (v := (i : Int)) (by omega) (by rw [Int.toNat_natCast]; exact h2)
  rw [h4] at h3
  omega
theorem way_root (ht : isTree z = true) : wayOf z 0 = [] := by
  have hT := isTree_ok ht
  exact (wayOf_eq hT.2.2.1 (by omega) .root).symm
theorem root_unit (h : Pair z ws vs ps qs) (hk : ws.length = k) : reTo z ws k ps qs 0 k = unit z ws := by
  have hG := isGame_ok h.g
  subst hk
  unfold unit
  rw [total_mapR hG.2.2.1, ← mapR_mulr]
  unfold reTo
  congr 1
  refine mapR_congr fun a ha => ?_
  rw [← mapR_mulr]
  unfold reRow
  congr 1
  refine mapR_congr fun b hb => ?_
  unfold reN
  rw [way_root hG.1]
  show _ * p60 (depth z 0 - ((0 : Nat) : Int)).toNat = _
  rw [show depth z 0 - ((0 : Nat) : Int) = depth z 0 from by omega]; rfl
end
theorem endsTo_map (z : List Nd) (ws : List (List Int)) (k : Nat) (ps qs : List (List Int)) : endsTo z ws k ps qs (nodesOf z 2).length = (nodesOf z 2).map fun v => reTo z ws k ps qs v k := by
  conv => rhs; rw [list_mapR (nodesOf z 2) 0]
  unfold endsTo mapR; rw [List.map_map]; rfl
theorem ends_unit {z : List Nd} {ws vs ps qs : List (List Int)} {pl ql : Int} (h : (endsAt z ws vs pl ps ql qs).2 = 0) : isPair z ws vs pl ps ql qs = true ∧ (endsAt z ws vs pl ps ql qs).1.sum = unit z ws ∧ isGame z ws vs = true ∧ ∀ x ∈ (endsAt z ws vs pl ps ql qs).1, 0 ≤ x ∧ x ≤ 251942400000 := by
  by_cases hp : isPair z ws vs pl ps ql qs = true
  · obtain ⟨_, _, hP⟩ := isPair_ok hp
    have h3 := (isGame_ok hP.g).2.1
    refine ⟨hp, ?_, hP.g, ?_⟩
    · rw [endsAt_0 rfl hp rfl]
      show (endsTo _ _ _ _ _ _).sum = _
      rw [endsTo_map, ends_sum hP rfl, root_unit hP rfl]
    · rw [endsAt_0 rfl hp rfl]
      intro x hx
      obtain ⟨i, hi, rfl⟩ := mapR_mem hx
      have hm := (nodesOf_mem (getD_mem 0 hi)).1
      have := reTo_bd hP rfl (n := (nodesOf z 2).getD i 0) (by omega) ws.length (Nat.le_refl _)
      omega
  · rw [endsAt_1 (by simpa using hp)] at h; cases h
section
variable {z : List Nd} {ws vs ps qs : List (List Int)} {pl ql n : Int}
theorem reach_ok (h : (reachAt z ws vs pl ps ql qs n).2 = 0) : isPair z ws vs pl ps ql qs = true ∧ (0 ≤ n ∧ n < z.length) := by
  by_cases hp : isPair z ws vs pl ps ql qs = true
  · by_cases hn : 0 ≤ n ∧ n ≤ (z.length : Int) - 1
    · exact ⟨hp, by omega⟩
    · rw [reachAt_2 rfl hp hn] at h; cases h
  · rw [reachAt_1 (by simpa using hp)] at h; cases h
theorem reach_is (hp : isPair z ws vs pl ps ql qs = true) (hn : 0 ≤ n ∧ n < z.length) : reachAt z ws vs pl ps ql qs n = (reTo z ws ws.length ps qs n ws.length, 0) := reachAt_0 rfl rfl hp (by omega)
theorem reach_kid (h : (reachAt z ws vs pl ps ql qs n).2 = 0) {i : Nat} (hi : i < (z.getD n.toNat dN).ch.length) :
    (reachAt z ws vs pl ps ql qs ((z.getD n.toNat dN).ch.getD i 0)).2 = 0 ∧ kidTo z ws ws.length ps qs n i + (reachAt z ws vs pl ps ql qs ((z.getD n.toNat dN).ch.getD i 0)).1 = kidTo z ws ws.length ps qs n (i + 1) ∧
    (0 ≤ kidTo z ws ws.length ps qs n (i + 1) ∧ kidTo z ws ws.length ps qs n (i + 1) ≤ 1007769600000) ∧ i < 4 := by
  obtain ⟨hp, hn⟩ := reach_ok h
  obtain ⟨_, _, hP⟩ := isPair_ok hp
  have hT := isTree_ok (isGame_ok hP.g).1
  have hk := way_kid (isGame_ok hP.g).1 hn hi
  have hc := (ok_pl (allOk_iff.1 hT.2.1 n.toNat (by omega))).2.2.2.2.1
  have hb := kidTo_bd hP rfl hn (i + 1) (by omega)
  rw [reach_is hp ⟨by omega, hk.2.2⟩]
  exact ⟨rfl, (kidTo_s n i).symm, by omega, by omega⟩
theorem reach_all (h : (reachAt z ws vs pl ps ql qs n).2 = 0) (h0 : 0 < (z.getD n.toNat dN).ch.length) : kidTo z ws ws.length ps qs n (z.getD n.toNat dN).ch.length = (reachAt z ws vs pl ps ql qs n).1 := by
  obtain ⟨hp, hn⟩ := reach_ok h
  obtain ⟨_, _, hP⟩ := isPair_ok hp
  have hT := isTree_ok (isGame_ok hP.g).1
  rw [reach_is hp hn]
  exact kidTo_all hP rfl hn fun h2 => by have := (ok_pl (allOk_iff.1 hT.2.1 n.toNat (by omega))).2.2.2.2.2.1 h2; omega
theorem mapR_le {f g : Nat → Int} : ∀ m, (∀ i, i < m → f i ≤ g i) → (mapR f m).sum ≤ (mapR g m).sum
  | 0, _ => Int.le_refl _
  | m + 1, h => by
    have h1 := mapR_le m fun i hi => h i (by omega)
    have h2 := h m (by omega)
    rw [mapR_suc, mapR_suc]; omega
theorem show_ok (h : (endsAt z ws vs pl ps ql qs).2 = 0) : (0 ≤ (showAt z ws vs pl ps ql qs).1 ∧ (showAt z ws vs pl ps ql qs).1 ≤ unit z ws) ∧ unitOf z ws vs = (unit z ws, 0) := by
  obtain ⟨hp, hs, hg, _⟩ := ends_unit h
  obtain ⟨_, _, hP⟩ := isPair_ok hp
  rw [showAt_0 rfl hp rfl]
  refine ⟨⟨(showTo_bd hP rfl _ (Nat.le_refl _)).1, ?_⟩, if_pos hg⟩
  rw [endsAt_0 rfl hp rfl] at hs
  rw [← hs]
  show showTo _ _ _ _ _ _ ≤ (endsTo _ _ _ _ _ _).sum
  unfold showTo endsTo
  refine mapR_le _ fun i hi => ?_
  have hm := (nodesOf_mem (getD_mem 0 hi)).1
  have h2 := reTo_bd hP rfl (n := (nodesOf z 2).getD i 0) (by omega) ws.length (Nat.le_refl _)
  split <;> omega
end
end Go.Proofs.Ytjengglpbdgmnaa.Math
/- Contracts of values of games. Their conditions stand in each. -/
namespace Go.Proofs.Ytjengglpbdgmnaa
open Go Go.RowKit V
set_option linter.unusedVariables false
set_option linter.unusedSimpArgs false
set_option maxRecDepth 100000
end Go.Proofs.Ytjengglpbdgmnaa
/- Contracts of ratios. Their conditions stand in each. -/
namespace Go.Proofs.Ytjengglpbdgmnaa
open Go Go.RowKit V
set_option linter.unusedVariables false
set_option linter.unusedSimpArgs false
set_option maxRecDepth 100000
end Go.Proofs.Ytjengglpbdgmnaa
