/- Contracts of values of games. Their conditions stand in each. -/
import Derived.Test.YtjengglpbdgmnaaZ13Nu
import Derived.Test.YtjengglpbdgmnaaZ2Nu
import Derived.Test.YtjengglpbdgmnaaZ10Nu
import Derived.Test.YtjengglpbdgmnaaZ11Nu
import Derived.Test.YtjengglpbdgmnaaZ12Nu
import Derived.Test.YtjengglpbdgmnaaZ3Nu
import Derived.Test.YtjengglpbdgmnaaZ4Nu
import Derived.Test.YtjengglpbdgmnaaZ7Nu
import Derived.Test.YtjengglpbdgmnaaZ8Nu
import Derived.Test.YtjengglpbdgmnaaRows
namespace Go.Proofs.Ytjengglpbdgmnaa
open Go Go.RowKit V
set_option linter.unusedVariables false
set_option linter.unusedSimpArgs false
set_option maxRecDepth 100000
set_option maxHeartbeats 1000000 in
theorem spec_l23Value_c_r (kk_ : Nat) : ∀ (az : Option Addr) (nz : Nat) (cz : Nat) (Hz : Nat → Hd) (z : List Nd) (aws : Option Addr) (nws : Nat) (cws : Nat) (Hws : Nat → Hd) (ws : List (List Int)) (avs : Option Addr) (nvs : Nat) (cvs : Nat) (Hvs : Nat → Hd) (vs : List (List Int)) (pl : Int) (aps : Option Addr) (nps : Nat) (cps : Nat) (Hps : Nat → Hd) (ps : List (List Int)) (ql : Int) (aqs : Option Addr) (nqs : Nat) (cqs : Nat) (Hqs : Nat → Hd) (qs : List (List Int)) (u : Int) (a : Int) (b : Int) (d : Int) (w : World), nz - u.toNat = kk_ → RdR ndK az nz Hz z w → RdR maK aws nws Hws ws w → RdR maK avs nvs Hvs vs w → RdR maK aps nps Hps ps w → RdR maK aqs nqs Hqs qs w → (Math.Pair z ws vs ps qs) → (0 ≤ u ∧ u < (nz : Int)) → (0 ≤ a ∧ a < (nws : Int)) → (0 ≤ b ∧ b < (nws : Int)) → (Math.depth z u.toNat ≤ d) → (0 ≤ d ∧ d ≤ 5) → Calls Try.prog 152 #[.agg #[.slice az nz cz, .slice aws nws cws, .slice avs nvs cvs], .agg #[.int .i64 pl, .slice aps nps cps], .agg #[.int .i64 ql, .slice aqs nqs cqs], .int .i64 u, .int .i64 a, .int .i64 b, .int .i64 d] w (Ret fun v w' => v = .int .i64 (Math.value z vs nws ps qs a b u d) ∧ Ext w w') := by
 induction kk_ using Nat.strongRecOn with
 | _ kk_ ih =>
  intro az nz cz Hz z aws nws cws Hws ws avs nvs cvs Hvs vs pl aps nps cps Hps ps ql aqs nqs cqs Hqs qs u a b d w hK rz rws rvs rps rqs hP hv ha hb hd hd5
  have kz : Kn w none_ [] (RdR ndK az nz Hz z) := fun w' hs => rz.ext hs.upd
  have lz : z.length = nz := rz.1
  have mz : nz ≤ 9223372036854775807 := rz.2.1
  have kws : Kn w none_ [] (RdR maK aws nws Hws ws) := fun w' hs => rws.ext hs.upd
  have lws : ws.length = nws := rws.1
  have mws : nws ≤ 9223372036854775807 := rws.2.1
  have kvs : Kn w none_ [] (RdR maK avs nvs Hvs vs) := fun w' hs => rvs.ext hs.upd
  have lvs : vs.length = nvs := rvs.1
  have mvs : nvs ≤ 9223372036854775807 := rvs.2.1
  have kps : Kn w none_ [] (RdR maK aps nps Hps ps) := fun w' hs => rps.ext hs.upd
  have lps : ps.length = nps := rps.1
  have mps : nps ≤ 9223372036854775807 := rps.2.1
  have kqs : Kn w none_ [] (RdR maK aqs nqs Hqs qs) := fun w' hs => rqs.ext hs.upd
  have lqs : qs.length = nqs := rqs.1
  have mqs : nqs ≤ 9223372036854775807 := rqs.2.1
  have hg := hP.g
  have hG := Math.isGame_ok hg
  rw [lws] at hG
  have hT := Math.isTree_ok hG.1
  have hvl := Math.mat_len hG.2.2.2.1
  have hpq := Math.pair_len hP lws
  have hok := Math.ok_pl ((Math.allOk_iff' lz).1 hT.2.1 u.toNat (by omega))
  have hv5 := Math.value_bd5 hP lws ha hb (show 0 ≤ u ∧ u < z.length by omega) hd hd5
  have hv2 := (Math.value_bd hP lws ha hb _ u d (Nat.le_refl _) hv.1 (by omega) hd hd5.1).2
  have hp5 := Math.p60_5 (show d.toNat ≤ 5 by omega)
  refine fn (M := none_) (rs := [.tmp 14]) Try.func152 rfl Try.ntmps152 rfl rfl (Sep.start _ _) ?_
  refine hSeq ?_
  refine hReg (sl 0 (sl 1 (sl 2 (sq 3 sz)))) (by kernel_rfl) ?_
  refine box trv1 rfl rfl rfl rfl (fun bkb1 hbkb1 => ?_)
  refine box trv1 rfl rfl rfl rfl (fun bkb2 hbkb2 => ?_)
  refine box trv1 rfl rfl rfl rfl (fun bkb3 hbkb3 => ?_)
  refine asI rfl rfl rfl ?_
  refine rNil ?_
  refine qSeq rfl ?_
  refine hSeq ?_
  refine hReg (sq 0 (sq 1 (sl 2 (sq 3 (sq 4 (sl 5 (sl 6 (sl 7 sz)))))))) (by kernel_rfl) ?_
  refine fld fl43_0 rfl rfl rfl ?_
  refine fld fl26_0 rfl rfl rfl ?_
  refine ldl Try.isAgg24 (cB 2 rfl rfl) trv rfl rfl rfl ?_
  refine mvI rfl rfl rfl ?_
  refine ixRl (zn := (u).toNat) (z.getD ((u).toNat) dN) el24 (Kn.drop (k := 3) kz) rfl rfl rfl rfl (by omega) (by omega) rfl (nth dN (by omega)) ?_
  intro be1 oe1 e1
  refine ldAl Try.isAgg88 Try.sizeOf88 (e1) trv rfl rfl rfl rfl ?_
  refine alc Try.zeroValue88 rfl trv1 rfl rfl (fun bka4 hbka4 => ?_)
  refine stAl (vs := [.int .i64 ((z.getD ((u).toNat) dN).pl), .int .i64 ((z.getD ((u).toNat) dN).p0), .int .i64 ((z.getD ((u).toNat) dN).p1), .int .i64 ((z.getD ((u).toNat) dN).fo), .slice ((Hz ((u).toNat)).1) (((z.getD ((u).toNat) dN).ch).length) ((Hz ((u).toNat)).2)]) 0 rfl Try.sizeOf88 trv rfl rfl rfl rfl rfl (by simp [Value.oneCell']) rfl ?_
  refine rNil ?_
  refine qSeq rfl ?_
  refine hSeq ?_
  refine hSeq ?_
  refine hReg (sq 0 (sl 1 (sq 2 sz))) (by kernel_rfl) ?_
  refine fld fl88_0 rfl rfl rfl ?_
  refine ldl Try.isAgg2 (cB 0 rfl rfl) trv rfl rfl rfl ?_
  refine eql rfl rfl rfl rfl ?_
  refine rNil ?_
  refine qSeq rfl ?_
  refine hIfD rfl (fun c1 => ?_) (fun c1 => ?_)
  ·
   replace c1 : (z.getD ((u).toNat) dN).pl = 2 := c1
   have hve := Math.value_end (z := z) (vs := vs) (ps := ps) (qs := qs) (k := nws) (a := a) (b := b) (left := d) (show 0 ≤ u ∧ u < z.length by omega) c1
   refine hSeq ?_
   refine hReg (sl 0 (sq 1 (sq 2 (sq 3 (sl 4 (sq 5 (sl 6 (sq 7 (sq 8 sz))))))))) (by kernel_rfl) ?_
   refine ldAl Try.isAgg43 Try.sizeOf43 (cBs 3 rfl) trv rfl rfl rfl rfl ?_
   refine mvI rfl rfl rfl ?_
   refine mvI rfl rfl rfl ?_
   refine mvI rfl rfl rfl ?_
   refine callP (v := .int .i64 ((Math.payoffX (z.getD u.toNat dN) ((vs.getD a.toNat []).getD b.toNat 0)))) Try.call113 trv rfl rfl (fun w hs => spec_l21Payoff_c _ nz cz _ _ _ nws cws _ _ _ nvs cvs _ _ _ _ _ w (Kn.drop (k := 4) kz w hs) (Kn.drop (k := 4) kws w hs) (Kn.drop (k := 4) kvs w hs) (by assumption) (by omega) (by omega) (by omega)) ?_
   refine mvI rfl rfl rfl ?_
   refine callP (v := .int .i64 (Math.p60 d.toNat)) Try.call180 trv rfl rfl (fun w hs => spec_l23Power_c _ w (by omega)) ?_
   refine mul rfl rfl rfl rfl (by omega) ?_
   refine asI rfl rfl rfl ?_
   refine rNil ?_
   refine qSeq rfl ?_
   refine hRet ?_
   exact fun w hs => ⟨[.int .i64 (((Math.payoffX (z.getD u.toNat dN) ((vs.getD a.toNat []).getD b.toNat 0)) * (Math.p60 d.toNat)))], ⟨rfl, trivial⟩, ⟨vI (Math.value_end (by omega) c1).symm, hs.upd⟩⟩
  ·
   replace c1 : ¬ ((z.getD ((u).toNat) dN).pl = 2) := c1
   have hco := Math.choice_ok hP lws (show 0 ≤ u ∧ u < z.length by omega) c1 ha hb
   have hst : Math.value z vs nws ps qs a b u d = _ := Math.value_step hT.2.1 (show 0 ≤ u ∧ u < z.length by omega) c1
   have h1d := (hv2 c1).1
   refine hSkip ?_
   refine qSeq rfl ?_
   refine hSeq ?_
   refine hReg (sl 0 (sl 1 (sl 2 (sq 3 (sq 4 (sq 5 (sl 6 (sq 7 sz)))))))) (by kernel_rfl) ?_
   refine ldAl Try.isAgg43 Try.sizeOf43 (cBs 3 rfl) trv rfl rfl rfl rfl ?_
   refine ldAl Try.isAgg56 Try.sizeOf56 (cBs 2 rfl) trv rfl rfl rfl rfl ?_
   refine ldAl Try.isAgg56 Try.sizeOf56 (cBs 1 rfl) trv rfl rfl rfl rfl ?_
   refine mvI rfl rfl rfl ?_
   refine mvI rfl rfl rfl ?_
   refine mvI rfl rfl rfl ?_
   refine callP (v := .slice ((Math.chA z nws Hps Hqs u a b).1) ((Math.choice z nws ps qs u a b).length) ((Math.chA z nws Hps Hqs u a b).2)) Try.call179 trv rfl rfl (fun w hs => spec_l23Choice_c _ nz cz _ _ _ nws cws _ _ _ nvs cvs _ _ _ _ nps cps _ _ _ _ nqs cqs _ _ _ _ _ w (Kn.drop (k := 4) kz w hs) (Kn.drop (k := 4) kws w hs) (Kn.drop (k := 4) kvs w hs) (Kn.drop (k := 4) kps w hs) (Kn.drop (k := 4) kqs w hs) (by assumption) (by omega) (by first | assumption | omega) (by omega) (by omega)) ?_
   have ka2 : Kn _ none_ [] (RdI ((Math.chA z nws Hps Hqs u a b).1) ((Math.choice z nws ps qs u a b).length) ((Math.choice z nws ps qs u a b))) := Math.two (kps) (kqs) fun _ h1 h2 => Math.choice_rd hP lws (by first | assumption | omega) (by first | assumption | omega) (by omega) (by omega) h1 h2
   refine asS rfl rfl rfl ?_
   refine rNil ?_
   refine qSeq rfl ?_
   refine hSeq ?_
   refine hReg (sq 0 sz) (by kernel_rfl) ?_
   refine asI rfl rfl rfl ?_
   refine rNil ?_
   refine qSeq rfl ?_
   refine hSeq ?_
   refine hSeq ?_
   refine hReg (sq 0 sz) (by kernel_rfl) ?_
   refine asI rfl rfl rfl ?_
   refine rNil ?_
   refine qSeq rfl ?_
   refine hBlk ?_
   refine hLoop (α := Nat × Int) (fun x => x.1 ≤ (z.getD u.toNat dN).ch.length ∧ x.2 = Math.valTo z vs nws ps qs a b u d x.1) (fun x => (z.getD u.toNat dN).ch.length - x.1) (fun x => [blk bka4 88 [.int .i64 ((z.getD ((u).toNat) dN).pl), .int .i64 ((z.getD ((u).toNat) dN).p0), .int .i64 ((z.getD ((u).toNat) dN).p1), .int .i64 ((z.getD ((u).toNat) dN).fo), .slice ((Hz ((u).toNat)).1) (((z.getD ((u).toNat) dN).ch).length) ((Hz ((u).toNat)).2)], blk bkb3 56 [.int .i64 ql, .slice aqs nqs cqs], blk bkb2 56 [.int .i64 pl, .slice aps nps cps], blk bkb1 43 [.slice az nz cz, .slice aws nws cws, .slice avs nvs cvs]]) (fun x => [(4, .int .i64 a), (5, .int .i64 b), (6, .int .i64 d), (7, .pointer (some ⟨bkb1, 0, none⟩)), (8, .pointer (some ⟨bkb2, 0, none⟩)), (9, .pointer (some ⟨bkb3, 0, none⟩)), (15, .pointer (some ⟨bka4, 0, none⟩)), (16, .slice ((Math.chA z nws Hps Hqs u a b).1) ((Math.choice z nws ps qs u a b).length) ((Math.chA z nws Hps Hqs u a b).2)), (17, .int .i64 x.2), (18, .int .i64 (x.1 : Int))]) (0, 0) ⟨Nat.zero_le _, rfl⟩ (fun _ h => h.pick [0, 0, 0, 0]) ⟨rfl, rfl, rfl, rfl, rfl, rfl, rfl, rfl, rfl, rfl, trivial⟩ ?_
   rintro ⟨i, s⟩ τ1 ⟨hi, hs_⟩
   dsimp only at hi hs_
   refine hRe [(4, .int .i64 a), (5, .int .i64 b), (6, .int .i64 d), (7, .pointer (some ⟨bkb1, 0, none⟩)), (8, .pointer (some ⟨bkb2, 0, none⟩)), (9, .pointer (some ⟨bkb3, 0, none⟩)), (15, .pointer (some ⟨bka4, 0, none⟩)), (16, .slice ((Math.chA z nws Hps Hqs u a b).1) ((Math.choice z nws ps qs u a b).length) ((Math.chA z nws Hps Hqs u a b).2)), (17, .int .i64 s), (18, .int .i64 (i : Int))] [blk bka4 88 [.int .i64 ((z.getD ((u).toNat) dN).pl), .int .i64 ((z.getD ((u).toNat) dN).p0), .int .i64 ((z.getD ((u).toNat) dN).p1), .int .i64 ((z.getD ((u).toNat) dN).fo), .slice ((Hz ((u).toNat)).1) (((z.getD ((u).toNat) dN).ch).length) ((Hz ((u).toNat)).2)], blk bkb3 56 [.int .i64 ql, .slice aqs nqs cqs], blk bkb2 56 [.int .i64 pl, .slice aps nps cps], blk bkb1 43 [.slice az nz cz, .slice aws nws cws, .slice avs nvs cvs]] rfl rfl ?_
   refine hSeq ?_
   refine hSeq ?_
   refine hReg (sq 0 (sq 1 (sl 2 (sq 3 (sq 4 sz))))) (by kernel_rfl) ?_
   refine mvI rfl rfl rfl ?_
   refine fld fl88_4 rfl rfl rfl ?_
   refine ldl Try.isAgg28 (cB 0 rfl rfl) trv rfl rfl rfl ?_
   refine lenS Try.runUnderlying28 rfl rfl rfl ?_
   refine lss rfl rfl rfl rfl ?_
   refine rNil ?_
   refine qSeq rfl ?_
   refine hIfD rfl (fun c2 => ?_) (fun c2 => ?_)
   ·
    replace c2 : (i : Int) < ((((z.getD ((u).toNat) dN).ch).length : Nat) : Int) := c2
    have hkm := Math.getD_mem 0 (show i < (z.getD u.toNat dN).ch.length by omega)
    have hck := Math.ok_kid ((Math.allOk_iff' lz).1 hT.2.1 u.toNat (by omega)) hkm
    have hdk := Math.depth_kid hT.2.1 (show 0 ≤ u ∧ u < z.length by omega) c1 hkm
    have hb1 := (hv2 c1).2 i (by omega)
    have hb2 := (hv2 c1).2 (i + 1) (by omega)
    rw [Math.valTo_s] at hb2
    have hcm := hco.2.1 _ (Math.getD_mem 0 (show i < (Math.choice z nws ps qs u a b).length by omega))
    refine hSkip ?_
    refine qSeq rfl ?_
    refine hSeq ?_
    refine hBlk ?_
    refine hDraw (Ls := [blk bka4 88 [.int .i64 ((z.getD ((u).toNat) dN).pl), .int .i64 ((z.getD ((u).toNat) dN).p0), .int .i64 ((z.getD ((u).toNat) dN).p1), .int .i64 ((z.getD ((u).toNat) dN).fo), .slice ((Hz ((u).toNat)).1) (((z.getD ((u).toNat) dN).ch).length) ((Hz ((u).toNat)).2)], blk bkb3 56 [.int .i64 ql, .slice aqs nqs cqs], blk bkb2 56 [.int .i64 pl, .slice aps nps cps], blk bkb1 43 [.slice az nz cz, .slice aws nws cws, .slice avs nvs cvs]]) (by kernel_rfl) (sq 0 (sq 1 (sq 2 (sq 3 (sq 4 (sq 5 (sq 6 (sq 7 (sq 8 (sq 9 (sq 10 (sq 11 (sq 12 (sq 13 (sq 14 (sq 15 (sq 16 (sl 17 (sq 18 (sq 19 (sq 20 sz))))))))))))))))))))) (by kernel_rfl) (.cons_cons _ (.cons_cons _ (.cons_cons _ (.cons_cons _ .slnil)))) ?_
    refine mvI rfl rfl rfl ?_
    refine mvS rfl rfl rfl ?_
    refine mvI rfl rfl rfl ?_
    refine ixIq (zn := i) el28 (Kn.drop (k := 4) ka2) (fun _ h => h.pick [0, 0, 0, 0]) rfl rfl rfl rfl (by omega) (by omega) rfl ?_
    intro ae3 e3
    refine ldq Try.isAgg2 (e3) rfl rfl rfl ?_
    refine ldAq Try.isAgg43 Try.sizeOf43 (cBs 3 rfl) rfl rfl rfl rfl ?_
    refine ldAq Try.isAgg56 Try.sizeOf56 (cBs 2 rfl) rfl rfl rfl rfl ?_
    refine ldAq Try.isAgg56 Try.sizeOf56 (cBs 1 rfl) rfl rfl rfl rfl ?_
    refine fld fl88_4 rfl rfl rfl ?_
    refine ldq Try.isAgg28 (cB 0 rfl rfl) rfl rfl rfl ?_
    refine mvI rfl rfl rfl ?_
    refine ixIq (zn := i) el28 (Kn.drop (k := 4) ((Kn.imp kz fun _ h => h.kidN (nth dN (by omega))))) (fun _ h => h.pick [0, 0, 0, 0]) rfl rfl rfl rfl (by omega) (by omega) rfl ?_
    intro ae4 e4
    refine ldq Try.isAgg2 (e4) rfl rfl rfl ?_
    refine mvI rfl rfl rfl ?_
    refine mvI rfl rfl rfl ?_
    refine mvI rfl rfl rfl ?_
    refine sub rfl rfl rfl rfl (by omega) ?_
    refine callP (v := .int .i64 ((Math.value z vs nws ps qs a b ((((z.getD ((u).toNat) dN).ch).getD i 0)) (d - 1)))) Try.call152 (fun _ h => h.pick [0, 0, 0, 0]) rfl rfl (fun w hs => ih _ (by omega) _ nz cz _ _ _ nws cws _ _ _ nvs cvs _ _ _ _ nps cps _ _ _ _ nqs cqs _ _ _ _ _ _ w rfl (Kn.drop (k := 4) kz w hs) (Kn.drop (k := 4) kws w hs) (Kn.drop (k := 4) kvs w hs) (Kn.drop (k := 4) kps w hs) (Kn.drop (k := 4) kqs w hs) (by assumption) (by omega) (by omega) (by omega) (by first | omega | exact Int.le_refl _) (by omega)) ?_
    refine mul rfl rfl rfl rfl (by omega) ?_
    refine add rfl rfl rfl rfl (by omega) ?_
    refine asI rfl rfl rfl ?_
    refine rNil ?_
    refine qSeq rfl ?_
    refine hReg (sq 0 (sq 1 (sq 2 sz))) (by kernel_rfl) ?_
    refine mvI rfl rfl rfl ?_
    refine add rfl rfl rfl rfl (by omega) ?_
    refine asI rfl rfl rfl ?_
    refine rNil ?_
    exact qNext rfl ((i + 1, (s + (((Math.choice z nws ps qs u a b).getD i 0) * (Math.value z vs nws ps qs a b ((((z.getD ((u).toNat) dN).ch).getD i 0)) (d - 1)))))) (by dsimp only; omega) ⟨by dsimp only; omega, by dsimp only; rw [hs_, Math.valTo_s]⟩ ⟨rfl, rfl, rfl, rfl, rfl, rfl, rfl, rfl, rfl, rfl, trivial⟩ (fun _ h => h.pick [0, 0, 0, 0])
   ·
    replace c2 : ¬ ((i : Int) < ((((z.getD ((u).toNat) dN).ch).length : Nat) : Int)) := c2
    refine hExit rfl ?_
    refine qSeq rfl ?_
    refine hSeq ?_
    refine hReg (sq 0 (sq 1 sz)) (by kernel_rfl) ?_
    refine mvI rfl rfl rfl ?_
    refine asI rfl rfl rfl ?_
    refine rNil ?_
    refine qSeq rfl ?_
    refine hRet ?_
    exact fun w hs => ⟨[.int .i64 s], ⟨rfl, trivial⟩, ⟨vI (by rw [hst, hs_, show i = (z.getD u.toNat dN).ch.length from by omega]), hs.upd⟩⟩
theorem spec_l23Value_c (az : Option Addr) (nz : Nat) (cz : Nat) (Hz : Nat → Hd) (z : List Nd) (aws : Option Addr) (nws : Nat) (cws : Nat) (Hws : Nat → Hd) (ws : List (List Int)) (avs : Option Addr) (nvs : Nat) (cvs : Nat) (Hvs : Nat → Hd) (vs : List (List Int)) (pl : Int) (aps : Option Addr) (nps : Nat) (cps : Nat) (Hps : Nat → Hd) (ps : List (List Int)) (ql : Int) (aqs : Option Addr) (nqs : Nat) (cqs : Nat) (Hqs : Nat → Hd) (qs : List (List Int)) (u : Int) (a : Int) (b : Int) (d : Int) (w : World) (rz : RdR ndK az nz Hz z w) (rws : RdR maK aws nws Hws ws w) (rvs : RdR maK avs nvs Hvs vs w) (rps : RdR maK aps nps Hps ps w) (rqs : RdR maK aqs nqs Hqs qs w) (hP : Math.Pair z ws vs ps qs) (hv : 0 ≤ u ∧ u < (nz : Int)) (ha : 0 ≤ a ∧ a < (nws : Int)) (hb : 0 ≤ b ∧ b < (nws : Int)) (hd : Math.depth z u.toNat ≤ d) (hd5 : 0 ≤ d ∧ d ≤ 5) :
  Calls Try.prog 152 #[.agg #[.slice az nz cz, .slice aws nws cws, .slice avs nvs cvs], .agg #[.int .i64 pl, .slice aps nps cps], .agg #[.int .i64 ql, .slice aqs nqs cqs], .int .i64 u, .int .i64 a, .int .i64 b, .int .i64 d] w (Ret fun v w' => v = .int .i64 (Math.value z vs nws ps qs a b u d) ∧ Ext w w') := spec_l23Value_c_r _ az nz cz Hz z aws nws cws Hws ws avs nvs cvs Hvs vs pl aps nps cps Hps ps ql aqs nqs cqs Hqs qs u a b d w rfl rz rws rvs rps rqs hP hv ha hb hd hd5
set_option maxHeartbeats 1000000 in
theorem impl_evaluator_value_c_r (kk_ : Nat) : ∀ (be : Nat) (az : Option Addr) (nz : Nat) (cz : Nat) (Hz : Nat → Hd) (z : List Nd) (aws : Option Addr) (nws : Nat) (cws : Nat) (Hws : Nat → Hd) (ws : List (List Int)) (avs : Option Addr) (nvs : Nat) (cvs : Nat) (Hvs : Nat → Hd) (vs : List (List Int)) (af0 : Option Addr) (nf0 : Nat) (cf0 : Nat) (f0 : List Int) (af1 : Option Addr) (nf1 : Nat) (cf1 : Nat) (f1 : List Int) (aps : Option Addr) (nps : Nat) (cps : Nat) (Hps : Nat → Hd) (ps : List (List Int)) (aqs : Option Addr) (nqs : Nat) (cqs : Nat) (Hqs : Nat → Hd) (qs : List (List Int)) (apr : Option Addr) (npr : Nat) (cpr : Nat) (pr : List Int) (u : Int) (a : Int) (b : Int) (d : Int) (w : World), nz - u.toNat = kk_ → RdB be [.slice az nz cz, .slice aws nws cws, .slice avs nvs cvs, .slice af0 nf0 cf0, .slice af1 nf1 cf1, .slice aps nps cps, .slice aqs nqs cqs, .slice apr npr cpr] w → RdR ndK az nz Hz z w → RdR maK aws nws Hws ws w → RdR maK avs nvs Hvs vs w → RdI af0 nf0 f0 w → RdI af1 nf1 f1 w → RdR maK aps nps Hps ps w → RdR maK aqs nqs Hqs qs w → RdI apr npr pr w → (Math.Pair z ws vs ps qs) → (f0 = Math.firstOf z nws 0) → (f1 = Math.firstOf z nws 1) → (pr = Math.parOf z) → (0 ≤ u ∧ u < (nz : Int)) → (0 ≤ a ∧ a < (nws : Int)) → (0 ≤ b ∧ b < (nws : Int)) → (Math.depth z u.toNat ≤ d) → (0 ≤ d ∧ d ≤ 5) → Calls Try.prog 151 #[.pointer (some ⟨be, 0, none⟩), .int .i64 u, .int .i64 a, .int .i64 b, .int .i64 d] w (Ret fun v w' => v = .int .i64 (Math.value z vs nws ps qs a b u d) ∧ Ext w w') := by
 induction kk_ using Nat.strongRecOn with
 | _ kk_ ih =>
  intro be az nz cz Hz z aws nws cws Hws ws avs nvs cvs Hvs vs af0 nf0 cf0 f0 af1 nf1 cf1 f1 aps nps cps Hps ps aqs nqs cqs Hqs qs apr npr cpr pr u a b d w hK rbe rz rws rvs rf0 rf1 rps rqs rpr hP hf0 hf1 hpr hv ha hb hd hd5
  have kbe : Kn w none_ [] (RdB be [.slice az nz cz, .slice aws nws cws, .slice avs nvs cvs, .slice af0 nf0 cf0, .slice af1 nf1 cf1, .slice aps nps cps, .slice aqs nqs cqs, .slice apr npr cpr]) := fun w' hs => rbe.ext hs.upd
  have kz : Kn w none_ [] (RdR ndK az nz Hz z) := fun w' hs => rz.ext hs.upd
  have lz : z.length = nz := rz.1
  have mz : nz ≤ 9223372036854775807 := rz.2.1
  have kws : Kn w none_ [] (RdR maK aws nws Hws ws) := fun w' hs => rws.ext hs.upd
  have lws : ws.length = nws := rws.1
  have mws : nws ≤ 9223372036854775807 := rws.2.1
  have kvs : Kn w none_ [] (RdR maK avs nvs Hvs vs) := fun w' hs => rvs.ext hs.upd
  have lvs : vs.length = nvs := rvs.1
  have mvs : nvs ≤ 9223372036854775807 := rvs.2.1
  have kf0 : Kn w none_ [] (RdI af0 nf0 f0) := fun w' hs => rf0.ext hs.upd
  have lf0 : f0.length = nf0 := rf0.1
  have mf0 : nf0 ≤ 9223372036854775807 := rf0.2.1
  have kf1 : Kn w none_ [] (RdI af1 nf1 f1) := fun w' hs => rf1.ext hs.upd
  have lf1 : f1.length = nf1 := rf1.1
  have mf1 : nf1 ≤ 9223372036854775807 := rf1.2.1
  have kps : Kn w none_ [] (RdR maK aps nps Hps ps) := fun w' hs => rps.ext hs.upd
  have lps : ps.length = nps := rps.1
  have mps : nps ≤ 9223372036854775807 := rps.2.1
  have kqs : Kn w none_ [] (RdR maK aqs nqs Hqs qs) := fun w' hs => rqs.ext hs.upd
  have lqs : qs.length = nqs := rqs.1
  have mqs : nqs ≤ 9223372036854775807 := rqs.2.1
  have kpr : Kn w none_ [] (RdI apr npr pr) := fun w' hs => rpr.ext hs.upd
  have lpr : pr.length = npr := rpr.1
  have mpr : npr ≤ 9223372036854775807 := rpr.2.1
  have hg := hP.g
  have hG := Math.isGame_ok hg
  rw [lws] at hG
  have hT := Math.isTree_ok hG.1
  have hvl := Math.mat_len hG.2.2.2.1
  have hpq := Math.pair_len hP lws
  have hok := Math.ok_pl ((Math.allOk_iff' lz).1 hT.2.1 u.toNat (by omega))
  have hv5 := Math.value_bd5 hP lws ha hb (show 0 ≤ u ∧ u < z.length by omega) hd hd5
  have hv2 := (Math.value_bd hP lws ha hb _ u d (Nat.le_refl _) hv.1 (by omega) hd hd5.1).2
  have hp5 := Math.p60_5 (show d.toNat ≤ 5 by omega)
  refine fn (M := none_) (rs := [.tmp 10]) Try.func151 rfl Try.ntmps151 rfl rfl (Sep.start _ _) ?_
  refine hSeq ?_
  refine hReg (sq 0 sz) (by kernel_rfl) ?_
  refine asI rfl rfl rfl ?_
  refine rNil ?_
  refine qSeq rfl ?_
  refine hSeq ?_
  refine hReg (sq 0 (sq 1 (sq 2 (sq 3 (sq 4 (sl 5 (sq 6 (sq 7 (sl 8 (sl 9 (sl 10 sz))))))))))) (by kernel_rfl) ?_
  refine mvP rfl rfl rfl ?_
  refine nilc rfl rfl rfl ?_
  refine fld fl158_0 rfl rfl rfl ?_
  refine fld fl43_0 rfl rfl rfl ?_
  refine fld fl26_0 rfl rfl rfl ?_
  refine ldl Try.isAgg24 (cD (kbe) rfl) trv rfl rfl rfl ?_
  refine mvI rfl rfl rfl ?_
  refine ixRl (zn := (u).toNat) (z.getD ((u).toNat) dN) el24 (kz) rfl rfl rfl rfl (by omega) (by omega) rfl (nth dN (by omega)) ?_
  intro be1 oe1 e1
  refine ldAl Try.isAgg88 Try.sizeOf88 (e1) trv rfl rfl rfl rfl ?_
  refine alc Try.zeroValue88 rfl trv1 rfl rfl (fun bka1 hbka1 => ?_)
  refine stAl (vs := [.int .i64 ((z.getD ((u).toNat) dN).pl), .int .i64 ((z.getD ((u).toNat) dN).p0), .int .i64 ((z.getD ((u).toNat) dN).p1), .int .i64 ((z.getD ((u).toNat) dN).fo), .slice ((Hz ((u).toNat)).1) (((z.getD ((u).toNat) dN).ch).length) ((Hz ((u).toNat)).2)]) 0 rfl Try.sizeOf88 trv rfl rfl rfl rfl rfl (by simp [Value.oneCell']) rfl ?_
  refine rNil ?_
  refine qSeq rfl ?_
  refine hSeq ?_
  refine hSeq ?_
  refine hReg (sq 0 (sl 1 (sq 2 sz))) (by kernel_rfl) ?_
  refine fld fl88_0 rfl rfl rfl ?_
  refine ldl Try.isAgg2 (cB 0 rfl rfl) trv rfl rfl rfl ?_
  refine eql rfl rfl rfl rfl ?_
  refine rNil ?_
  refine qSeq rfl ?_
  refine hIfD rfl (fun c1 => ?_) (fun c1 => ?_)
  ·
   replace c1 : (z.getD ((u).toNat) dN).pl = 2 := c1
   have hve := Math.value_end (z := z) (vs := vs) (ps := ps) (qs := qs) (k := nws) (a := a) (b := b) (left := d) (show 0 ≤ u ∧ u < z.length by omega) c1
   refine hSeq ?_
   refine hReg (sq 0 (sq 1 (sq 2 (sl 3 (sq 4 (sq 5 (sq 6 (sl 7 (sq 8 (sl 9 (sq 10 (sq 11 sz)))))))))))) (by kernel_rfl) ?_
   refine mvP rfl rfl rfl ?_
   refine nilc rfl rfl rfl ?_
   refine fld fl158_0 rfl rfl rfl ?_
   refine ldAl Try.isAgg43 Try.sizeOf43 (cDp (m := 3) (Kn.drop (k := 1) kbe) rfl) trv rfl rfl rfl rfl ?_
   refine mvI rfl rfl rfl ?_
   refine mvI rfl rfl rfl ?_
   refine mvI rfl rfl rfl ?_
   refine callP (v := .int .i64 ((Math.payoffX (z.getD u.toNat dN) ((vs.getD a.toNat []).getD b.toNat 0)))) Try.call111 trv rfl rfl (fun w hs => impl_payoffAt_c _ nz cz _ _ _ nws cws _ _ _ nvs cvs _ _ _ _ _ w (Kn.drop (k := 1) kz w hs) (Kn.drop (k := 1) kws w hs) (Kn.drop (k := 1) kvs w hs) (by assumption) (by omega) (by omega) (by omega)) ?_
   refine mvI rfl rfl rfl ?_
   refine callP (v := .int .i64 (Math.p60 d.toNat)) Try.call178 trv rfl rfl (fun w hs => impl_powerOf_c _ _ w rfl (by omega)) ?_
   refine mul rfl rfl rfl rfl (by omega) ?_
   refine asI rfl rfl rfl ?_
   refine rNil ?_
   refine qSeq rfl ?_
   refine hRet ?_
   exact fun w hs => ⟨[.int .i64 (((Math.payoffX (z.getD u.toNat dN) ((vs.getD a.toNat []).getD b.toNat 0)) * (Math.p60 d.toNat)))], ⟨rfl, trivial⟩, ⟨vI (Math.value_end (by omega) c1).symm, hs.upd⟩⟩
  ·
   replace c1 : ¬ ((z.getD ((u).toNat) dN).pl = 2) := c1
   have hco := Math.choice_ok hP lws (show 0 ≤ u ∧ u < z.length by omega) c1 ha hb
   have hst : Math.value z vs nws ps qs a b u d = _ := Math.value_step hT.2.1 (show 0 ≤ u ∧ u < z.length by omega) c1
   have h1d := (hv2 c1).1
   refine hSkip ?_
   refine qSeq rfl ?_
   refine hSeq ?_
   refine hReg (sq 0 sz) (by kernel_rfl) ?_
   refine asI rfl rfl rfl ?_
   refine rNil ?_
   refine qSeq rfl ?_
   refine hSeq ?_
   refine hSeq ?_
   refine hReg (sq 0 (sq 1 (sq 2 (sq 3 (sl 4 (sq 5 (sq 6 sz))))))) (by kernel_rfl) ?_
   refine mvP rfl rfl rfl ?_
   refine mvI rfl rfl rfl ?_
   refine mvI rfl rfl rfl ?_
   refine mvI rfl rfl rfl ?_
   refine callP (v := .slice ((Math.chA z nws Hps Hqs u a b).1) ((Math.choice z nws ps qs u a b).length) ((Math.chA z nws Hps Hqs u a b).2)) Try.call177 trv rfl rfl (fun w hs => impl_evaluator_partsAt_c be _ nz cz _ _ _ nws cws _ _ _ nvs cvs _ _ _ nf0 cf0 _ _ nf1 cf1 _ _ nps cps _ _ _ nqs cqs _ _ _ npr cpr _ _ _ _ w (Kn.drop (k := 1) kbe w hs) (Kn.drop (k := 1) kz w hs) (Kn.drop (k := 1) kws w hs) (Kn.drop (k := 1) kvs w hs) (Kn.drop (k := 1) kf0 w hs) (Kn.drop (k := 1) kf1 w hs) (Kn.drop (k := 1) kps w hs) (Kn.drop (k := 1) kqs w hs) (Kn.drop (k := 1) kpr w hs) (by assumption) (by first | rfl | assumption) (by first | rfl | assumption) (by first | rfl | assumption) (by omega) (by first | assumption | omega) (by omega) (by omega)) ?_
   have ka2 : Kn _ none_ [] (RdI ((Math.chA z nws Hps Hqs u a b).1) ((Math.choice z nws ps qs u a b).length) ((Math.choice z nws ps qs u a b))) := Math.two (kps) (kqs) fun _ h1 h2 => Math.choice_rd hP lws (by first | assumption | omega) (by first | assumption | omega) (by omega) (by omega) h1 h2
   refine lenS Try.runUnderlying28 rfl rfl rfl ?_
   refine mvI rfl rfl rfl ?_
   refine rNil ?_
   refine qSeq rfl ?_
   refine hBlk ?_
   refine hLoop (α := Nat × Int) (fun x => x.1 ≤ (z.getD u.toNat dN).ch.length ∧ x.2 = Math.valTo z vs nws ps qs a b u d x.1) (fun x => (z.getD u.toNat dN).ch.length - x.1) (fun x => [blk bka1 88 [.int .i64 ((z.getD ((u).toNat) dN).pl), .int .i64 ((z.getD ((u).toNat) dN).p0), .int .i64 ((z.getD ((u).toNat) dN).p1), .int .i64 ((z.getD ((u).toNat) dN).fo), .slice ((Hz ((u).toNat)).1) (((z.getD ((u).toNat) dN).ch).length) ((Hz ((u).toNat)).2)]]) (fun x => [(0, .pointer (some ⟨be, 0, none⟩)), (2, .int .i64 a), (3, .int .i64 b), (4, .int .i64 d), (11, .pointer (some ⟨bka1, 0, none⟩)), (12, .int .i64 x.2), (42, .slice ((Math.chA z nws Hps Hqs u a b).1) ((Math.choice z nws ps qs u a b).length) ((Math.chA z nws Hps Hqs u a b).2)), (43, .int .i64 ((((Math.choice z nws ps qs u a b).length : Nat) : Int))), (44, .int .i64 (x.1 : Int))]) (0, 0) ⟨Nat.zero_le _, rfl⟩ (fun _ h => h.pick [0]) ⟨rfl, rfl, rfl, rfl, rfl, rfl, rfl, rfl, rfl, trivial⟩ ?_
   rintro ⟨i, s⟩ τ1 ⟨hi, hs_⟩
   dsimp only at hi hs_
   refine hRe [(0, .pointer (some ⟨be, 0, none⟩)), (2, .int .i64 a), (3, .int .i64 b), (4, .int .i64 d), (11, .pointer (some ⟨bka1, 0, none⟩)), (12, .int .i64 s), (42, .slice ((Math.chA z nws Hps Hqs u a b).1) ((Math.choice z nws ps qs u a b).length) ((Math.chA z nws Hps Hqs u a b).2)), (43, .int .i64 ((((Math.choice z nws ps qs u a b).length : Nat) : Int))), (44, .int .i64 (i : Int))] [blk bka1 88 [.int .i64 ((z.getD ((u).toNat) dN).pl), .int .i64 ((z.getD ((u).toNat) dN).p0), .int .i64 ((z.getD ((u).toNat) dN).p1), .int .i64 ((z.getD ((u).toNat) dN).fo), .slice ((Hz ((u).toNat)).1) (((z.getD ((u).toNat) dN).ch).length) ((Hz ((u).toNat)).2)]] rfl rfl ?_
   refine hSeq ?_
   refine hReg (sq 0 sz) (by kernel_rfl) ?_
   refine lss rfl rfl rfl rfl ?_
   refine rNil ?_
   refine qSeq rfl ?_
   refine hSeq ?_
   refine hIfD rfl (fun c2 => ?_) (fun c2 => ?_)
   ·
    replace c2 : (i : Int) < (((Math.choice z nws ps qs u a b).length : Nat) : Int) := c2
    have hkm := Math.getD_mem 0 (show i < (z.getD u.toNat dN).ch.length by omega)
    have hck := Math.ok_kid ((Math.allOk_iff' lz).1 hT.2.1 u.toNat (by omega)) hkm
    have hdk := Math.depth_kid hT.2.1 (show 0 ≤ u ∧ u < z.length by omega) c1 hkm
    have hb1 := (hv2 c1).2 i (by omega)
    have hb2 := (hv2 c1).2 (i + 1) (by omega)
    rw [Math.valTo_s] at hb2
    have hcm := hco.2.1 _ (Math.getD_mem 0 (show i < (Math.choice z nws ps qs u a b).length by omega))
    refine hSkip ?_
    refine qSeq rfl ?_
    refine hSeq ?_
    refine hBlk ?_
    refine hSeq ?_
    refine hReg (sq 0 (sq 1 (sl 2 (sq 3 (sq 4 sz))))) (by kernel_rfl) ?_
    refine mvI rfl rfl rfl ?_
    refine ixIl (zn := i) el28 (Kn.drop (k := 1) ka2) rfl rfl rfl rfl (by omega) (by omega) rfl ?_
    intro ae3 e3
    refine ldl Try.isAgg2 (e3) trv rfl rfl rfl ?_
    refine asI rfl rfl rfl ?_
    refine asI rfl rfl rfl ?_
    refine rNil ?_
    refine qSeq rfl ?_
    refine hSeq ?_
    refine hReg (sq 0 (sq 1 sz)) (by kernel_rfl) ?_
    refine mvI rfl rfl rfl ?_
    refine gtr rfl rfl rfl rfl ?_
    refine rNil ?_
    refine qSeq rfl ?_
    refine hIfD rfl (fun c3 => ?_) (fun c3 => ?_)
    ·
     replace c3 : 0 < ((Math.choice z nws ps qs u a b).getD i 0) := c3
     refine hReg (sq 0 (sq 1 (sq 2 (sq 3 (sl 4 (sq 5 (sq 6 (sl 7 (sq 8 (sq 9 (sq 10 (sq 11 (sl 12 (sq 13 (sq 14 (sq 15 sz)))))))))))))))) (by kernel_rfl) ?_
     refine mvI rfl rfl rfl ?_
     refine mvI rfl rfl rfl ?_
     refine mvP rfl rfl rfl ?_
     refine fld fl88_4 rfl rfl rfl ?_
     refine ldl Try.isAgg28 (cB 0 rfl rfl) trv rfl rfl rfl ?_
     refine mvI rfl rfl rfl ?_
     refine ixIl (zn := i) el28 (Kn.drop (k := 1) ((Kn.imp kz fun _ h => h.kidN (nth dN (by omega))))) rfl rfl rfl rfl (by omega) (by omega) rfl ?_
     intro ae4 e4
     refine ldl Try.isAgg2 (e4) trv rfl rfl rfl ?_
     refine mvI rfl rfl rfl ?_
     refine mvI rfl rfl rfl ?_
     refine mvI rfl rfl rfl ?_
     refine sub rfl rfl rfl rfl (by omega) ?_
     refine callP (v := .int .i64 ((Math.value z vs nws ps qs a b ((((z.getD ((u).toNat) dN).ch).getD i 0)) (d - 1)))) Try.call151 trv rfl rfl (fun w hs => ih _ (by omega) be _ nz cz _ _ _ nws cws _ _ _ nvs cvs _ _ _ nf0 cf0 _ _ nf1 cf1 _ _ nps cps _ _ _ nqs cqs _ _ _ npr cpr _ _ _ _ _ w rfl (Kn.drop (k := 1) kbe w hs) (Kn.drop (k := 1) kz w hs) (Kn.drop (k := 1) kws w hs) (Kn.drop (k := 1) kvs w hs) (Kn.drop (k := 1) kf0 w hs) (Kn.drop (k := 1) kf1 w hs) (Kn.drop (k := 1) kps w hs) (Kn.drop (k := 1) kqs w hs) (Kn.drop (k := 1) kpr w hs) (by assumption) (by first | rfl | assumption) (by first | rfl | assumption) (by first | rfl | assumption) (by omega) (by omega) (by omega) (by first | omega | exact Int.le_refl _) (by omega)) ?_
     refine mul rfl rfl rfl rfl (by omega) ?_
     refine add rfl rfl rfl rfl (by omega) ?_
     refine asI rfl rfl rfl ?_
     refine rNil ?_
     refine qSeq rfl ?_
     refine hReg (sq 0 (sq 1 sz)) (by kernel_rfl) ?_
     refine add rfl rfl rfl rfl (by omega) ?_
     refine mvI rfl rfl rfl ?_
     refine rNil ?_
     exact qNext rfl ((i + 1, (s + (((Math.choice z nws ps qs u a b).getD i 0) * (Math.value z vs nws ps qs a b ((((z.getD ((u).toNat) dN).ch).getD i 0)) (d - 1)))))) (by dsimp only; omega) ⟨by dsimp only; omega, by dsimp only; rw [hs_, Math.valTo_s]⟩ ⟨rfl, rfl, rfl, rfl, rfl, rfl, rfl, rfl, rfl, trivial⟩ (fun _ h => h.pick [0])
    ·
     replace c3 : ¬ (0 < ((Math.choice z nws ps qs u a b).getD i 0)) := c3
     refine hSkip ?_
     refine qSeq rfl ?_
     refine hReg (sq 0 (sq 1 sz)) (by kernel_rfl) ?_
     refine add rfl rfl rfl rfl (by omega) ?_
     refine mvI rfl rfl rfl ?_
     refine rNil ?_
     exact qNext rfl (i + 1, s) (by dsimp only; omega) ⟨by dsimp only; omega, by dsimp only; rw [hs_, Math.valTo_s, show (Math.choice z nws ps qs u a b).getD i 0 = 0 from by omega, Int.zero_mul, Int.add_zero]⟩ ⟨rfl, rfl, rfl, rfl, rfl, rfl, rfl, rfl, rfl, trivial⟩ (fun _ h => h.pick [0])
   ·
    replace c2 : ¬ ((i : Int) < (((Math.choice z nws ps qs u a b).length : Nat) : Int)) := c2
    refine hExit rfl ?_
    refine qSeq rfl ?_
    refine hSeq ?_
    refine hReg (sq 0 (sq 1 sz)) (by kernel_rfl) ?_
    refine mvI rfl rfl rfl ?_
    refine asI rfl rfl rfl ?_
    refine rNil ?_
    refine qSeq rfl ?_
    refine hRet ?_
    exact fun w hs => ⟨[.int .i64 s], ⟨rfl, trivial⟩, ⟨vI (by rw [hst, hs_, show i = (z.getD u.toNat dN).ch.length from by omega]), hs.upd⟩⟩
theorem impl_evaluator_value_c (be : Nat) (az : Option Addr) (nz : Nat) (cz : Nat) (Hz : Nat → Hd) (z : List Nd) (aws : Option Addr) (nws : Nat) (cws : Nat) (Hws : Nat → Hd) (ws : List (List Int)) (avs : Option Addr) (nvs : Nat) (cvs : Nat) (Hvs : Nat → Hd) (vs : List (List Int)) (af0 : Option Addr) (nf0 : Nat) (cf0 : Nat) (f0 : List Int) (af1 : Option Addr) (nf1 : Nat) (cf1 : Nat) (f1 : List Int) (aps : Option Addr) (nps : Nat) (cps : Nat) (Hps : Nat → Hd) (ps : List (List Int)) (aqs : Option Addr) (nqs : Nat) (cqs : Nat) (Hqs : Nat → Hd) (qs : List (List Int)) (apr : Option Addr) (npr : Nat) (cpr : Nat) (pr : List Int) (u : Int) (a : Int) (b : Int) (d : Int) (w : World) (rbe : RdB be [.slice az nz cz, .slice aws nws cws, .slice avs nvs cvs, .slice af0 nf0 cf0, .slice af1 nf1 cf1, .slice aps nps cps, .slice aqs nqs cqs, .slice apr npr cpr] w) (rz : RdR ndK az nz Hz z w) (rws : RdR maK aws nws Hws ws w) (rvs : RdR maK avs nvs Hvs vs w) (rf0 : RdI af0 nf0 f0 w) (rf1 : RdI af1 nf1 f1 w) (rps : RdR maK aps nps Hps ps w) (rqs : RdR maK aqs nqs Hqs qs w) (rpr : RdI apr npr pr w) (hP : Math.Pair z ws vs ps qs) (hf0 : f0 = Math.firstOf z nws 0) (hf1 : f1 = Math.firstOf z nws 1) (hpr : pr = Math.parOf z) (hv : 0 ≤ u ∧ u < (nz : Int)) (ha : 0 ≤ a ∧ a < (nws : Int)) (hb : 0 ≤ b ∧ b < (nws : Int)) (hd : Math.depth z u.toNat ≤ d) (hd5 : 0 ≤ d ∧ d ≤ 5) :
  Calls Try.prog 151 #[.pointer (some ⟨be, 0, none⟩), .int .i64 u, .int .i64 a, .int .i64 b, .int .i64 d] w (Ret fun v w' => v = .int .i64 (Math.value z vs nws ps qs a b u d) ∧ Ext w w') := impl_evaluator_value_c_r _ be az nz cz Hz z aws nws cws Hws ws avs nvs cvs Hvs vs af0 nf0 cf0 f0 af1 nf1 cf1 f1 aps nps cps Hps ps aqs nqs cqs Hqs qs apr npr cpr pr u a b d w rfl rbe rz rws rvs rf0 rf1 rps rqs rpr hP hf0 hf1 hpr hv ha hb hd hd5
set_option maxHeartbeats 1000000 in
theorem spec_l23Number_c (az : Option Addr) (nz : Nat) (cz : Nat) (Hz : Nat → Hd) (z : List Nd) (aws : Option Addr) (nws : Nat) (cws : Nat) (Hws : Nat → Hd) (ws : List (List Int)) (avs : Option Addr) (nvs : Nat) (cvs : Nat) (Hvs : Nat → Hd) (vs : List (List Int)) (pl : Int) (aps : Option Addr) (nps : Nat) (cps : Nat) (Hps : Nat → Hd) (ps : List (List Int)) (ql : Int) (aqs : Option Addr) (nqs : Nat) (cqs : Nat) (Hqs : Nat → Hd) (qs : List (List Int)) (w : World) (rz : RdR ndK az nz Hz z w) (rws : RdR maK aws nws Hws ws w) (rvs : RdR maK avs nvs Hvs vs w) (rps : RdR maK aps nps Hps ps w) (rqs : RdR maK aqs nqs Hqs qs w) (hP : Math.Pair z ws vs ps qs) :
  Calls Try.prog 149 #[.agg #[.slice az nz cz, .slice aws nws cws, .slice avs nvs cvs], .agg #[.int .i64 pl, .slice aps nps cps], .agg #[.int .i64 ql, .slice aqs nqs cqs]] w (Ret fun v w' => v = .int .i64 (Math.numTo z ws vs nws ps qs nws) ∧ Ext w w') := by
 have kz : Kn w none_ [] (RdR ndK az nz Hz z) := fun w' hs => rz.ext hs.upd
 have lz : z.length = nz := rz.1
 have mz : nz ≤ 9223372036854775807 := rz.2.1
 have kws : Kn w none_ [] (RdR maK aws nws Hws ws) := fun w' hs => rws.ext hs.upd
 have lws : ws.length = nws := rws.1
 have mws : nws ≤ 9223372036854775807 := rws.2.1
 have kvs : Kn w none_ [] (RdR maK avs nvs Hvs vs) := fun w' hs => rvs.ext hs.upd
 have lvs : vs.length = nvs := rvs.1
 have mvs : nvs ≤ 9223372036854775807 := rvs.2.1
 have kps : Kn w none_ [] (RdR maK aps nps Hps ps) := fun w' hs => rps.ext hs.upd
 have lps : ps.length = nps := rps.1
 have mps : nps ≤ 9223372036854775807 := rps.2.1
 have kqs : Kn w none_ [] (RdR maK aqs nqs Hqs qs) := fun w' hs => rqs.ext hs.upd
 have lqs : qs.length = nqs := rqs.1
 have mqs : nqs ≤ 9223372036854775807 := rqs.2.1
 have hg := hP.g
 have hG := Math.isGame_ok hg
 rw [lws] at hG
 have hT := Math.isTree_ok hG.1
 have hvl := Math.mat_len hG.2.2.2.1
 have hpq := Math.pair_len hP lws
 refine fn (M := none_) (rs := [.tmp 6]) Try.func149 rfl Try.ntmps149 rfl rfl (Sep.start _ _) ?_
 refine hSeq ?_
 refine hReg (sl 0 (sl 1 (sl 2 (sq 3 sz)))) (by kernel_rfl) ?_
 refine box trv1 rfl rfl rfl rfl (fun bkb1 hbkb1 => ?_)
 refine box trv1 rfl rfl rfl rfl (fun bkb2 hbkb2 => ?_)
 refine box trv1 rfl rfl rfl rfl (fun bkb3 hbkb3 => ?_)
 refine asI rfl rfl rfl ?_
 refine rNil ?_
 refine qSeq rfl ?_
 refine hSeq ?_
 refine hReg (sq 0 (sl 1 (sl 2 (sq 3 sz)))) (by kernel_rfl) ?_
 refine fld fl43_0 rfl rfl rfl ?_
 refine ldAl Try.isAgg26 Try.sizeOf26 (cBp (m := 1) 2 rfl rfl) trv rfl rfl rfl rfl ?_
 refine callP (v := .int .i64 (Math.depth z 0)) Try.call102 trv rfl rfl (fun w hs => spec_l20Depth_c _ nz cz _ _ _ w (Kn.drop (k := 3) kz w hs) hT.2.1 (by omega) (by omega)) ?_
 refine asI rfl rfl rfl ?_
 refine rNil ?_
 refine qSeq rfl ?_
 refine hSeq ?_
 refine hReg (sq 0 sz) (by kernel_rfl) ?_
 refine asI rfl rfl rfl ?_
 refine rNil ?_
 refine qSeq rfl ?_
 refine hSeq ?_
 refine hSeq ?_
 refine hReg (sq 0 sz) (by kernel_rfl) ?_
 refine asI rfl rfl rfl ?_
 refine rNil ?_
 refine qSeq rfl ?_
 refine hBlk ?_
 refine hLoop (α := Nat × Int) (fun x => x.1 ≤ nws ∧ x.2 = (Math.numTo z ws vs nws ps qs x.1)) (fun x => nws - x.1) (fun x => [blk bkb3 56 [.int .i64 ql, .slice aqs nqs cqs], blk bkb2 56 [.int .i64 pl, .slice aps nps cps], blk bkb1 43 [.slice az nz cz, .slice aws nws cws, .slice avs nvs cvs]]) (fun x => [(3, .pointer (some ⟨bkb1, 0, none⟩)), (4, .pointer (some ⟨bkb2, 0, none⟩)), (5, .pointer (some ⟨bkb3, 0, none⟩)), (7, .int .i64 (Math.depth z 0)), (8, .int .i64 x.2), (9, .int .i64 (x.1 : Int))]) (0, 0) ⟨Nat.zero_le _, rfl⟩ (fun _ h => h.pick [0, 0, 0]) ⟨rfl, rfl, rfl, rfl, rfl, rfl, trivial⟩ ?_
 rintro ⟨i, s⟩ τ1 ⟨hi, hs_⟩
 dsimp only at hi hs_
 refine hRe [(3, .pointer (some ⟨bkb1, 0, none⟩)), (4, .pointer (some ⟨bkb2, 0, none⟩)), (5, .pointer (some ⟨bkb3, 0, none⟩)), (7, .int .i64 (Math.depth z 0)), (8, .int .i64 s), (9, .int .i64 (i : Int))] [blk bkb3 56 [.int .i64 ql, .slice aqs nqs cqs], blk bkb2 56 [.int .i64 pl, .slice aps nps cps], blk bkb1 43 [.slice az nz cz, .slice aws nws cws, .slice avs nvs cvs]] rfl rfl ?_
 refine hSeq ?_
 refine hSeq ?_
 refine hReg (sq 0 (sq 1 (sl 2 (sq 3 (sq 4 sz))))) (by kernel_rfl) ?_
 refine mvI rfl rfl rfl ?_
 refine fld fl43_1 rfl rfl rfl ?_
 refine ldl Try.isAgg41 (cB 2 rfl rfl) trv rfl rfl rfl ?_
 refine lenS Try.runUnderlying41 rfl rfl rfl ?_
 refine lss rfl rfl rfl rfl ?_
 refine rNil ?_
 refine qSeq rfl ?_
 refine hIfD rfl (fun c1 => ?_) (fun c1 => ?_)
 ·
  replace c1 : (i : Int) < (nws : Int) := c1
  have hb1 := Math.numTo_bd hP lws i (by omega)
  refine hSkip ?_
  refine qSeq rfl ?_
  refine hSeq ?_
  refine hBlk ?_
  refine hSeq ?_
  refine hReg (sq 0 sz) (by kernel_rfl) ?_
  refine asI rfl rfl rfl ?_
  refine rNil ?_
  refine qSeq rfl ?_
  refine hBlk ?_
  refine hLoop (α := Nat × Int) (fun x => x.1 ≤ nws ∧ x.2 = (Math.numTo z ws vs nws ps qs i) + (Math.numRow z ws vs nws ps qs i x.1)) (fun x => nws - x.1) (fun x => [blk bkb3 56 [.int .i64 ql, .slice aqs nqs cqs], blk bkb2 56 [.int .i64 pl, .slice aps nps cps], blk bkb1 43 [.slice az nz cz, .slice aws nws cws, .slice avs nvs cvs]]) (fun x => [(3, .pointer (some ⟨bkb1, 0, none⟩)), (4, .pointer (some ⟨bkb2, 0, none⟩)), (5, .pointer (some ⟨bkb3, 0, none⟩)), (7, .int .i64 (Math.depth z 0)), (8, .int .i64 x.2), (9, .int .i64 (i : Int)), (10, .int .i64 (x.1 : Int))]) (0, s) ⟨Nat.zero_le _, by dsimp only; rw [hs_]; exact (Int.add_zero _).symm⟩ (fun _ h => h.pick [0, 0, 0]) ⟨rfl, rfl, rfl, rfl, rfl, rfl, rfl, trivial⟩ ?_
  rintro ⟨j, t⟩ τ2 ⟨hj, ht⟩
  dsimp only at hj ht
  refine hRe [(3, .pointer (some ⟨bkb1, 0, none⟩)), (4, .pointer (some ⟨bkb2, 0, none⟩)), (5, .pointer (some ⟨bkb3, 0, none⟩)), (7, .int .i64 (Math.depth z 0)), (8, .int .i64 t), (9, .int .i64 (i : Int)), (10, .int .i64 (j : Int))] [blk bkb3 56 [.int .i64 ql, .slice aqs nqs cqs], blk bkb2 56 [.int .i64 pl, .slice aps nps cps], blk bkb1 43 [.slice az nz cz, .slice aws nws cws, .slice avs nvs cvs]] rfl rfl ?_
  refine hSeq ?_
  refine hSeq ?_
  refine hReg (sq 0 (sq 1 (sl 2 (sq 3 (sq 4 sz))))) (by kernel_rfl) ?_
  refine mvI rfl rfl rfl ?_
  refine fld fl43_1 rfl rfl rfl ?_
  refine ldl Try.isAgg41 (cB 2 rfl rfl) trv rfl rfl rfl ?_
  refine lenS Try.runUnderlying41 rfl rfl rfl ?_
  refine lss rfl rfl rfl rfl ?_
  refine rNil ?_
  refine qSeq rfl ?_
  refine hIfD rfl (fun c2 => ?_) (fun c2 => ?_)
  ·
   replace c2 : (j : Int) < (nws : Int) := c2
   have hrl := Math.row_len (Math.mat_row hG.2.2.1 (show i < nws by omega))
   have hb2 := Math.numRow_bd hP lws (show i < nws by omega) j (by omega)
   have hb3 := Math.dealN_bd hP lws (show i < nws by omega) (show j < nws by omega)
   unfold Math.dealN at hb3
   have hwa := Math.row_at (Math.mat_row hG.2.2.1 (show i < nws by omega)) (show j < nws by omega)
   refine hSkip ?_
   refine qSeq rfl ?_
   refine hSeq ?_
   refine hBlk ?_
   refine hSeq ?_
   refine hReg (sq 0 (sl 1 (sq 2 (sq 3 (sl 4 (sq 5 (sq 6 (sl 7 (sq 8 sz))))))))) (by kernel_rfl) ?_
   refine fld fl43_1 rfl rfl rfl ?_
   refine ldl Try.isAgg41 (cB 2 rfl rfl) trv rfl rfl rfl ?_
   refine mvI rfl rfl rfl ?_
   refine ixRl (zn := i) (ws.getD i []) el41 (Kn.drop (k := 3) kws) rfl rfl rfl rfl (by omega) (by omega) rfl (nth [] (by omega)) ?_
   intro be1 oe1 e1
   refine ldl Try.isAgg28 (Kn.fld e1 0 rfl) trv rfl rfl rfl ?_
   refine mvI rfl rfl rfl ?_
   refine ixIl (zn := j) el28 (Kn.drop (k := 3) ((Kn.imp kws fun _ h => h.kidM (nth [] (by omega))))) rfl rfl rfl rfl (by omega) (by omega) rfl ?_
   intro ae2 e2
   refine ldl Try.isAgg2 (e2) trv rfl rfl rfl ?_
   refine gtr rfl rfl rfl rfl ?_
   refine rNil ?_
   refine qSeq rfl ?_
   refine hIfD rfl (fun c3 => ?_) (fun c3 => ?_)
   ·
    replace c3 : 0 < ((ws.getD i []).getD j 0) := c3
    refine hDraw (Ls := [blk bkb3 56 [.int .i64 ql, .slice aqs nqs cqs], blk bkb2 56 [.int .i64 pl, .slice aps nps cps], blk bkb1 43 [.slice az nz cz, .slice aws nws cws, .slice avs nvs cvs]]) (by kernel_rfl) (sq 0 (sq 1 (sq 2 (sq 3 (sq 4 (sq 5 (sq 6 (sq 7 (sq 8 (sq 9 (sq 10 (sq 11 (sq 12 (sq 13 (sq 14 (sl 15 (sq 16 (sq 17 (sq 18 sz))))))))))))))))))) (by kernel_rfl) (.cons_cons _ (.cons_cons _ (.cons_cons _ .slnil))) ?_
    refine mvI rfl rfl rfl ?_
    refine fld fl43_1 rfl rfl rfl ?_
    refine ldq Try.isAgg41 (cB 2 rfl rfl) rfl rfl rfl ?_
    refine mvI rfl rfl rfl ?_
    refine ixRq (zn := i) (ws.getD i []) el41 (Kn.drop (k := 3) kws) (fun _ h => h.pick [0, 0, 0]) rfl rfl rfl rfl (by omega) (by omega) rfl (nth [] (by omega)) ?_
    intro be3 oe3 e3
    refine ldq Try.isAgg28 (Kn.fld e3 0 rfl) rfl rfl rfl ?_
    refine mvI rfl rfl rfl ?_
    refine ixIq (zn := j) el28 (Kn.drop (k := 3) ((Kn.imp kws fun _ h => h.kidM (nth [] (by omega))))) (fun _ h => h.pick [0, 0, 0]) rfl rfl rfl rfl (by omega) (by omega) rfl ?_
    intro ae4 e4
    refine ldq Try.isAgg2 (e4) rfl rfl rfl ?_
    refine ldAq Try.isAgg43 Try.sizeOf43 (cBs 2 rfl) rfl rfl rfl rfl ?_
    refine ldAq Try.isAgg56 Try.sizeOf56 (cBs 1 rfl) rfl rfl rfl rfl ?_
    refine ldAq Try.isAgg56 Try.sizeOf56 (cBs 0 rfl) rfl rfl rfl rfl ?_
    refine mvI rfl rfl rfl ?_
    refine mvI rfl rfl rfl ?_
    refine mvI rfl rfl rfl ?_
    refine callP (v := .int .i64 ((Math.value z vs nws ps qs (i : Int) (j : Int) (0 : Int) (Math.depth z 0)))) Try.call152 (fun _ h => h.pick [0, 0, 0]) rfl rfl (fun w hs => spec_l23Value_c _ nz cz _ _ _ nws cws _ _ _ nvs cvs _ _ _ _ nps cps _ _ _ _ nqs cqs _ _ _ _ _ _ w (Kn.drop (k := 3) kz w hs) (Kn.drop (k := 3) kws w hs) (Kn.drop (k := 3) kvs w hs) (Kn.drop (k := 3) kps w hs) (Kn.drop (k := 3) kqs w hs) (by assumption) (by omega) (by omega) (by omega) (by first | omega | exact Int.le_refl _) (by omega)) ?_
    refine mul rfl rfl rfl rfl (by omega) ?_
    refine add rfl rfl rfl rfl (by omega) ?_
    refine asI rfl rfl rfl ?_
    refine rNil ?_
    refine qSeq rfl ?_
    refine hReg (sq 0 (sq 1 (sq 2 sz))) (by kernel_rfl) ?_
    refine mvI rfl rfl rfl ?_
    refine add rfl rfl rfl rfl (by omega) ?_
    refine asI rfl rfl rfl ?_
    refine rNil ?_
    exact qNext rfl ((j + 1, (t + (((ws.getD i []).getD j 0) * (Math.value z vs nws ps qs (i : Int) (j : Int) (0 : Int) (Math.depth z 0)))))) (by dsimp only; omega) ⟨by dsimp only; omega, by dsimp only; rw [ht, Math.numRow_s]; unfold Math.dealN; omega⟩ ⟨rfl, rfl, rfl, rfl, rfl, rfl, rfl, trivial⟩ (fun _ h => h.pick [0, 0, 0])
   ·
    replace c3 : ¬ (0 < ((ws.getD i []).getD j 0)) := c3
    refine hSkip ?_
    refine qSeq rfl ?_
    refine hReg (sq 0 (sq 1 (sq 2 sz))) (by kernel_rfl) ?_
    refine mvI rfl rfl rfl ?_
    refine add rfl rfl rfl rfl (by omega) ?_
    refine asI rfl rfl rfl ?_
    refine rNil ?_
    exact qNext rfl (j + 1, t) (by dsimp only; omega) ⟨by dsimp only; omega, by dsimp only; rw [ht, Math.numRow_s, Math.dealN_0 (by omega), Int.add_zero]⟩ ⟨rfl, rfl, rfl, rfl, rfl, rfl, rfl, trivial⟩ (fun _ h => h.pick [0, 0, 0])
  ·
   replace c2 : ¬ ((j : Int) < (nws : Int)) := c2
   have hrl := Math.row_len (Math.mat_row hG.2.2.1 (show i < nws by omega))
   refine hExit rfl ?_
   refine qSeq rfl ?_
   refine hReg (sq 0 (sq 1 (sq 2 sz))) (by kernel_rfl) ?_
   refine mvI rfl rfl rfl ?_
   refine add rfl rfl rfl rfl (by omega) ?_
   refine asI rfl rfl rfl ?_
   refine rNil ?_
   exact qNext rfl (i + 1, t) (by dsimp only; omega) ⟨by dsimp only; omega, by dsimp only; rw [ht, Math.numTo_s]; congr 2; omega⟩ ⟨rfl, rfl, rfl, rfl, rfl, rfl, trivial⟩ (fun _ h => h.pick [0, 0, 0])
 ·
  replace c1 : ¬ ((i : Int) < (nws : Int)) := c1
  refine hExit rfl ?_
  refine qSeq rfl ?_
  refine hSeq ?_
  refine hReg (sq 0 (sq 1 sz)) (by kernel_rfl) ?_
  refine mvI rfl rfl rfl ?_
  refine asI rfl rfl rfl ?_
  refine rNil ?_
  refine qSeq rfl ?_
  refine hRet ?_
  exact fun w hs => ⟨[.int .i64 s], ⟨rfl, trivial⟩, ⟨vI (by rw [hs_, show i = nws from by omega]), hs.upd⟩⟩
set_option maxHeartbeats 1000000 in
theorem impl_gameNumber_c (az : Option Addr) (nz : Nat) (cz : Nat) (Hz : Nat → Hd) (z : List Nd) (aws : Option Addr) (nws : Nat) (cws : Nat) (Hws : Nat → Hd) (ws : List (List Int)) (avs : Option Addr) (nvs : Nat) (cvs : Nat) (Hvs : Nat → Hd) (vs : List (List Int)) (pl : Int) (aps : Option Addr) (nps : Nat) (cps : Nat) (Hps : Nat → Hd) (ps : List (List Int)) (ql : Int) (aqs : Option Addr) (nqs : Nat) (cqs : Nat) (Hqs : Nat → Hd) (qs : List (List Int)) (w : World) (rz : RdR ndK az nz Hz z w) (rws : RdR maK aws nws Hws ws w) (rvs : RdR maK avs nvs Hvs vs w) (rps : RdR maK aps nps Hps ps w) (rqs : RdR maK aqs nqs Hqs qs w) (hP : Math.Pair z ws vs ps qs) :
  Calls Try.prog 148 #[.agg #[.slice az nz cz, .slice aws nws cws, .slice avs nvs cvs], .agg #[.int .i64 pl, .slice aps nps cps], .agg #[.int .i64 ql, .slice aqs nqs cqs]] w (Ret fun v w' => v = .int .i64 (Math.numTo z ws vs nws ps qs nws) ∧ Ext w w') := by
 have kz : Kn w none_ [] (RdR ndK az nz Hz z) := fun w' hs => rz.ext hs.upd
 have lz : z.length = nz := rz.1
 have mz : nz ≤ 9223372036854775807 := rz.2.1
 have kws : Kn w none_ [] (RdR maK aws nws Hws ws) := fun w' hs => rws.ext hs.upd
 have lws : ws.length = nws := rws.1
 have mws : nws ≤ 9223372036854775807 := rws.2.1
 have kvs : Kn w none_ [] (RdR maK avs nvs Hvs vs) := fun w' hs => rvs.ext hs.upd
 have lvs : vs.length = nvs := rvs.1
 have mvs : nvs ≤ 9223372036854775807 := rvs.2.1
 have kps : Kn w none_ [] (RdR maK aps nps Hps ps) := fun w' hs => rps.ext hs.upd
 have lps : ps.length = nps := rps.1
 have mps : nps ≤ 9223372036854775807 := rps.2.1
 have kqs : Kn w none_ [] (RdR maK aqs nqs Hqs qs) := fun w' hs => rqs.ext hs.upd
 have lqs : qs.length = nqs := rqs.1
 have mqs : nqs ≤ 9223372036854775807 := rqs.2.1
 have hg := hP.g
 have hG := Math.isGame_ok hg
 rw [lws] at hG
 have hT := Math.isTree_ok hG.1
 have hvl := Math.mat_len hG.2.2.2.1
 have hpq := Math.pair_len hP lws
 refine fn (M := none_) (rs := [.tmp 6]) Try.func148 rfl Try.ntmps148 rfl rfl (Sep.start _ _) ?_
 refine hSeq ?_
 refine hReg (sl 0 (sl 1 (sl 2 (sq 3 sz)))) (by kernel_rfl) ?_
 refine box trv1 rfl rfl rfl rfl (fun bkb1 hbkb1 => ?_)
 refine box trv1 rfl rfl rfl rfl (fun bkb2 hbkb2 => ?_)
 refine box trv1 rfl rfl rfl rfl (fun bkb3 hbkb3 => ?_)
 refine asI rfl rfl rfl ?_
 refine rNil ?_
 refine qSeq rfl ?_
 refine hSeq ?_
 refine hReg (sl 0 (sl 1 (sl 2 (sl 3 (sq 4 sz))))) (by kernel_rfl) ?_
 refine ldAl Try.isAgg43 Try.sizeOf43 (cBs 2 rfl) trv rfl rfl rfl rfl ?_
 refine ldAl Try.isAgg56 Try.sizeOf56 (cBs 1 rfl) trv rfl rfl rfl rfl ?_
 refine ldAl Try.isAgg56 Try.sizeOf56 (cBs 0 rfl) trv rfl rfl rfl rfl ?_
 refine callS Try.call143 trv1 rfl rfl (fun w hs => impl_newEvaluator_c _ nz cz _ _ _ nws cws _ _ _ nvs cvs _ _ _ _ nps cps _ _ _ _ nqs cqs _ _ w (Kn.drop (k := 3) kz w hs) (Kn.drop (k := 3) kws w hs) (Kn.drop (k := 3) kvs w hs) (Kn.drop (k := 3) kps w hs) (Kn.drop (k := 3) kqs w hs) (by assumption)) ?_
 rintro ⟨be1, af01, nf01, cf01, f01, af11, nf11, cf11, f11, apr1, npr1, cpr1, pr1⟩ ⟨hr1a, hr1b, hr1c⟩
 dsimp only at hr1a hr1b hr1c
 subst f01
 subst f11
 subst pr1
 refine rKnow (fun w hs => (show OwnI 3 af01 nf01 cf01 (Math.firstOf z nws 0) w from hs.at_ 1 rfl).lenz) (fun lenn5 => ?_)
 refine rKnow (fun w hs => (show OwnI 3 af11 nf11 cf11 (Math.firstOf z nws 1) w from hs.at_ 2 rfl).lenz) (fun lenn6 => ?_)
 refine rKnow (fun w hs => (show OwnI 2 apr1 npr1 cpr1 (Math.parOf z) w from hs.at_ 3 rfl).lenz) (fun lenn7 => ?_)
 refine asn rfl rfl rfl ?_
 refine rNil ?_
 refine qSeq rfl ?_
 refine hSeq ?_
 refine hReg (sq 0 (sl 1 (sl 2 (sq 3 sz)))) (by kernel_rfl) ?_
 refine fld fl43_0 rfl rfl rfl ?_
 refine ldAl Try.isAgg26 Try.sizeOf26 (cBp (m := 1) 6 rfl rfl) trv rfl rfl rfl rfl ?_
 refine callP (v := .int .i64 (Math.depth z 0)) Try.call100 trv rfl rfl (fun w hs => impl_depthFrom_c _ nz cz _ _ _ w (Kn.drop (k := 7) kz w hs) hT.2.1 (by omega) (by omega)) ?_
 refine asI rfl rfl rfl ?_
 refine rNil ?_
 refine qSeq rfl ?_
 refine hSeq ?_
 refine hReg (sq 0 sz) (by kernel_rfl) ?_
 refine asI rfl rfl rfl ?_
 refine rNil ?_
 refine qSeq rfl ?_
 refine hSeq ?_
 refine hSeq ?_
 refine hReg (sq 0 (sl 1 (sq 2 (sq 3 sz)))) (by kernel_rfl) ?_
 refine fld fl43_1 rfl rfl rfl ?_
 refine ldl Try.isAgg41 (cB 6 rfl rfl) trv rfl rfl rfl ?_
 refine lenS Try.runUnderlying41 rfl rfl rfl ?_
 refine mvI rfl rfl rfl ?_
 refine rNil ?_
 refine qSeq rfl ?_
 refine hBlk ?_
 refine hLoop (α := Nat × Int) (fun x => x.1 ≤ nws ∧ x.2 = (Math.numTo z ws vs nws ps qs x.1)) (fun x => nws - x.1) (fun x => [blk be1 158 [.slice az nz cz, .slice aws nws cws, .slice avs nvs cvs, .slice af01 nf01 cf01, .slice af11 nf11 cf11, .slice aps nps cps, .slice aqs nqs cqs, .slice apr1 npr1 cpr1], OwnI 3 af01 nf01 cf01 (Math.firstOf z nws 0), OwnI 3 af11 nf11 cf11 (Math.firstOf z nws 1), OwnI 2 apr1 npr1 cpr1 (Math.parOf z), blk bkb3 56 [.int .i64 ql, .slice aqs nqs cqs], blk bkb2 56 [.int .i64 pl, .slice aps nps cps], blk bkb1 43 [.slice az nz cz, .slice aws nws cws, .slice avs nvs cvs]]) (fun x => [(7, .pointer (some ⟨be1, 0, none⟩)), (8, .int .i64 (Math.depth z 0)), (9, .int .i64 x.2), (22, .slice aws nws cws), (23, .int .i64 (nws : Int)), (24, .int .i64 (x.1 : Int))]) (0, 0) ⟨Nat.zero_le _, rfl⟩ (fun _ h => h.pick [0, 0, 0, 0, 0, 0, 0]) ⟨rfl, rfl, rfl, rfl, rfl, rfl, trivial⟩ ?_
 rintro ⟨i, s⟩ τ1 ⟨hi, hs_⟩
 dsimp only at hi hs_
 refine hRe [(7, .pointer (some ⟨be1, 0, none⟩)), (8, .int .i64 (Math.depth z 0)), (9, .int .i64 s), (22, .slice aws nws cws), (23, .int .i64 (nws : Int)), (24, .int .i64 (i : Int))] [blk be1 158 [.slice az nz cz, .slice aws nws cws, .slice avs nvs cvs, .slice af01 nf01 cf01, .slice af11 nf11 cf11, .slice aps nps cps, .slice aqs nqs cqs, .slice apr1 npr1 cpr1], OwnI 3 af01 nf01 cf01 (Math.firstOf z nws 0), OwnI 3 af11 nf11 cf11 (Math.firstOf z nws 1), OwnI 2 apr1 npr1 cpr1 (Math.parOf z), blk bkb3 56 [.int .i64 ql, .slice aqs nqs cqs], blk bkb2 56 [.int .i64 pl, .slice aps nps cps], blk bkb1 43 [.slice az nz cz, .slice aws nws cws, .slice avs nvs cvs]] rfl rfl ?_
 refine hSeq ?_
 refine hReg (sq 0 sz) (by kernel_rfl) ?_
 refine lss rfl rfl rfl rfl ?_
 refine rNil ?_
 refine qSeq rfl ?_
 refine hSeq ?_
 refine hIfD rfl (fun c1 => ?_) (fun c1 => ?_)
 ·
  replace c1 : (i : Int) < (nws : Int) := c1
  have hb1 := Math.numTo_bd hP lws i (by omega)
  refine hSkip ?_
  refine qSeq rfl ?_
  refine hSeq ?_
  refine hBlk ?_
  refine hSeq ?_
  refine hReg (sq 0 (sq 1 (sl 2 (sq 3 (sq 4 sz))))) (by kernel_rfl) ?_
  refine mvI rfl rfl rfl ?_
  refine ixRl (zn := i) (ws.getD i []) el41 (Kn.drop (k := 7) kws) rfl rfl rfl rfl (by omega) (by omega) rfl (nth [] (by omega)) ?_
  intro be2 oe2 e2
  refine ldl Try.isAgg28 (Kn.fld e2 0 rfl) trv rfl rfl rfl ?_
  refine asI rfl rfl rfl ?_
  refine asS rfl rfl rfl ?_
  refine rNil ?_
  refine qSeq rfl ?_
  refine hSeq ?_
  refine hReg (sq 0 (sq 1 (sq 2 sz))) (by kernel_rfl) ?_
  refine mvS rfl rfl rfl ?_
  refine lenS Try.runUnderlying28 rfl rfl rfl ?_
  refine mvI rfl rfl rfl ?_
  refine rNil ?_
  refine qSeq rfl ?_
  refine hBlk ?_
  refine hLoop (α := Nat × Int) (fun x => x.1 ≤ nws ∧ x.2 = (Math.numTo z ws vs nws ps qs i) + (Math.numRow z ws vs nws ps qs i x.1)) (fun x => nws - x.1) (fun x => [blk be1 158 [.slice az nz cz, .slice aws nws cws, .slice avs nvs cvs, .slice af01 nf01 cf01, .slice af11 nf11 cf11, .slice aps nps cps, .slice aqs nqs cqs, .slice apr1 npr1 cpr1], OwnI 3 af01 nf01 cf01 (Math.firstOf z nws 0), OwnI 3 af11 nf11 cf11 (Math.firstOf z nws 1), OwnI 2 apr1 npr1 cpr1 (Math.parOf z), blk bkb3 56 [.int .i64 ql, .slice aqs nqs cqs], blk bkb2 56 [.int .i64 pl, .slice aps nps cps], blk bkb1 43 [.slice az nz cz, .slice aws nws cws, .slice avs nvs cvs]]) (fun x => [(7, .pointer (some ⟨be1, 0, none⟩)), (8, .int .i64 (Math.depth z 0)), (9, .int .i64 x.2), (10, .int .i64 (i : Int)), (22, .slice aws nws cws), (23, .int .i64 (nws : Int)), (24, .int .i64 (i : Int)), (29, .slice ((Hws i).1) ((ws.getD i []).length) ((Hws i).2)), (30, .int .i64 ((((ws.getD i []).length : Nat) : Int))), (31, .int .i64 (x.1 : Int))]) (0, s) ⟨Nat.zero_le _, by dsimp only; rw [hs_]; exact (Int.add_zero _).symm⟩ (fun _ h => h.pick [0, 0, 0, 0, 0, 0, 0]) ⟨rfl, rfl, rfl, rfl, rfl, rfl, rfl, rfl, rfl, rfl, trivial⟩ ?_
  rintro ⟨j, t⟩ τ2 ⟨hj, ht⟩
  dsimp only at hj ht
  refine hRe [(7, .pointer (some ⟨be1, 0, none⟩)), (8, .int .i64 (Math.depth z 0)), (9, .int .i64 t), (10, .int .i64 (i : Int)), (22, .slice aws nws cws), (23, .int .i64 (nws : Int)), (24, .int .i64 (i : Int)), (29, .slice ((Hws i).1) ((ws.getD i []).length) ((Hws i).2)), (30, .int .i64 ((((ws.getD i []).length : Nat) : Int))), (31, .int .i64 (j : Int))] [blk be1 158 [.slice az nz cz, .slice aws nws cws, .slice avs nvs cvs, .slice af01 nf01 cf01, .slice af11 nf11 cf11, .slice aps nps cps, .slice aqs nqs cqs, .slice apr1 npr1 cpr1], OwnI 3 af01 nf01 cf01 (Math.firstOf z nws 0), OwnI 3 af11 nf11 cf11 (Math.firstOf z nws 1), OwnI 2 apr1 npr1 cpr1 (Math.parOf z), blk bkb3 56 [.int .i64 ql, .slice aqs nqs cqs], blk bkb2 56 [.int .i64 pl, .slice aps nps cps], blk bkb1 43 [.slice az nz cz, .slice aws nws cws, .slice avs nvs cvs]] rfl rfl ?_
  refine hSeq ?_
  refine hReg (sq 0 sz) (by kernel_rfl) ?_
  refine lss rfl rfl rfl rfl ?_
  refine rNil ?_
  refine qSeq rfl ?_
  refine hSeq ?_
  refine hIfD rfl (fun c2 => ?_) (fun c2 => ?_)
  ·
   replace c2 : (j : Int) < (((ws.getD i []).length : Nat) : Int) := c2
   have hrl := Math.row_len (Math.mat_row hG.2.2.1 (show i < nws by omega))
   have hb2 := Math.numRow_bd hP lws (show i < nws by omega) j (by omega)
   have hb3 := Math.dealN_bd hP lws (show i < nws by omega) (show j < nws by omega)
   unfold Math.dealN at hb3
   have hwa := Math.row_at (Math.mat_row hG.2.2.1 (show i < nws by omega)) (show j < nws by omega)
   refine hSkip ?_
   refine qSeq rfl ?_
   refine hSeq ?_
   refine hBlk ?_
   refine hSeq ?_
   refine hReg (sq 0 (sq 1 (sl 2 (sq 3 (sq 4 sz))))) (by kernel_rfl) ?_
   refine mvI rfl rfl rfl ?_
   refine ixIl (zn := j) el28 (Kn.drop (k := 7) ((Kn.imp kws fun _ h => h.kidM (nth [] (by omega))))) rfl rfl rfl rfl (by omega) (by omega) rfl ?_
   intro ae3 e3
   refine ldl Try.isAgg2 (e3) trv rfl rfl rfl ?_
   refine asI rfl rfl rfl ?_
   refine asI rfl rfl rfl ?_
   refine rNil ?_
   refine qSeq rfl ?_
   refine hSeq ?_
   refine hReg (sq 0 (sq 1 sz)) (by kernel_rfl) ?_
   refine mvI rfl rfl rfl ?_
   refine gtr rfl rfl rfl rfl ?_
   refine rNil ?_
   refine qSeq rfl ?_
   refine hIfD rfl (fun c3 => ?_) (fun c3 => ?_)
   ·
    replace c3 : 0 < ((ws.getD i []).getD j 0) := c3
    refine hReg (sq 0 (sq 1 (sq 2 (sq 3 (sq 4 (sq 5 (sl 6 (sq 7 (sq 8 (sq 9 sz)))))))))) (by kernel_rfl) ?_
    refine mvI rfl rfl rfl ?_
    refine mvI rfl rfl rfl ?_
    refine mvP rfl rfl rfl ?_
    refine mvI rfl rfl rfl ?_
    refine mvI rfl rfl rfl ?_
    refine mvI rfl rfl rfl ?_
    refine callP (v := .int .i64 ((Math.value z vs nws ps qs (i : Int) (j : Int) (0 : Int) (Math.depth z 0)))) Try.call151 trv rfl rfl (fun w hs => impl_evaluator_value_c be1 _ nz cz _ _ _ nws cws _ _ _ nvs cvs _ _ _ nf01 cf01 _ _ nf11 cf11 _ _ nps cps _ _ _ nqs cqs _ _ _ npr1 cpr1 _ _ _ _ _ w (RdB.of (hs.at_ 0 rfl)) (Kn.drop (k := 7) kz w hs) (Kn.drop (k := 7) kws w hs) (Kn.drop (k := 7) kvs w hs) (OwnI.rd (hs.at_ 1 rfl)) (OwnI.rd (hs.at_ 2 rfl)) (Kn.drop (k := 7) kps w hs) (Kn.drop (k := 7) kqs w hs) (OwnI.rd (hs.at_ 3 rfl)) (by assumption) (by first | rfl | assumption) (by first | rfl | assumption) (by first | rfl | assumption) (by omega) (by omega) (by omega) (by first | omega | exact Int.le_refl _) (by omega)) ?_
    refine mul rfl rfl rfl rfl (by omega) ?_
    refine add rfl rfl rfl rfl (by omega) ?_
    refine asI rfl rfl rfl ?_
    refine rNil ?_
    refine qSeq rfl ?_
    refine hReg (sq 0 (sq 1 sz)) (by kernel_rfl) ?_
    refine add rfl rfl rfl rfl (by omega) ?_
    refine mvI rfl rfl rfl ?_
    refine rNil ?_
    exact qNext rfl ((j + 1, (t + (((ws.getD i []).getD j 0) * (Math.value z vs nws ps qs (i : Int) (j : Int) (0 : Int) (Math.depth z 0)))))) (by dsimp only; omega) ⟨by dsimp only; omega, by dsimp only; rw [ht, Math.numRow_s]; unfold Math.dealN; omega⟩ ⟨rfl, rfl, rfl, rfl, rfl, rfl, rfl, rfl, rfl, rfl, trivial⟩ (fun _ h => h.pick [0, 0, 0, 0, 0, 0, 0])
   ·
    replace c3 : ¬ (0 < ((ws.getD i []).getD j 0)) := c3
    refine hSkip ?_
    refine qSeq rfl ?_
    refine hReg (sq 0 (sq 1 sz)) (by kernel_rfl) ?_
    refine add rfl rfl rfl rfl (by omega) ?_
    refine mvI rfl rfl rfl ?_
    refine rNil ?_
    exact qNext rfl (j + 1, t) (by dsimp only; omega) ⟨by dsimp only; omega, by dsimp only; rw [ht, Math.numRow_s, Math.dealN_0 (by omega), Int.add_zero]⟩ ⟨rfl, rfl, rfl, rfl, rfl, rfl, rfl, rfl, rfl, rfl, trivial⟩ (fun _ h => h.pick [0, 0, 0, 0, 0, 0, 0])
  ·
   replace c2 : ¬ ((j : Int) < (((ws.getD i []).length : Nat) : Int)) := c2
   have hrl := Math.row_len (Math.mat_row hG.2.2.1 (show i < nws by omega))
   refine hExit rfl ?_
   refine qSeq rfl ?_
   refine hReg (sq 0 (sq 1 sz)) (by kernel_rfl) ?_
   refine add rfl rfl rfl rfl (by omega) ?_
   refine mvI rfl rfl rfl ?_
   refine rNil ?_
   exact qNext rfl (i + 1, t) (by dsimp only; omega) ⟨by dsimp only; omega, by dsimp only; rw [ht, Math.numTo_s]; congr 2; omega⟩ ⟨rfl, rfl, rfl, rfl, rfl, rfl, trivial⟩ (fun _ h => h.pick [0, 0, 0, 0, 0, 0, 0])
 ·
  replace c1 : ¬ ((i : Int) < (nws : Int)) := c1
  refine hExit rfl ?_
  refine qSeq rfl ?_
  refine hSeq ?_
  refine hReg (sq 0 (sq 1 sz)) (by kernel_rfl) ?_
  refine mvI rfl rfl rfl ?_
  refine asI rfl rfl rfl ?_
  refine rNil ?_
  refine qSeq rfl ?_
  refine hRet ?_
  exact fun w hs => ⟨[.int .i64 s], ⟨rfl, trivial⟩, ⟨vI (by rw [hs_, show i = nws from by omega]), hs.upd⟩⟩
theorem impl_DealNumber_c (az : Option Addr) (nz : Nat) (cz : Nat) (Hz : Nat → Hd) (z : List Nd) (aws : Option Addr) (nws : Nat) (cws : Nat) (Hws : Nat → Hd) (ws : List (List Int)) (avs : Option Addr) (nvs : Nat) (cvs : Nat) (Hvs : Nat → Hd) (vs : List (List Int)) (pl : Int) (aps : Option Addr) (nps : Nat) (cps : Nat) (Hps : Nat → Hd) (ps : List (List Int)) (ql : Int) (aqs : Option Addr) (nqs : Nat) (cqs : Nat) (Hqs : Nat → Hd) (qs : List (List Int)) (a : Int) (b : Int) (w : World) (rz : RdR ndK az nz Hz z w) (rws : RdR maK aws nws Hws ws w) (rvs : RdR maK avs nvs Hvs vs w) (rps : RdR maK aps nps Hps ps w) (rqs : RdR maK aqs nqs Hqs qs w) :
  Calls Try.prog 84 #[.agg #[.slice az nz cz, .slice aws nws cws, .slice avs nvs cvs], .agg #[.int .i64 pl, .slice aps nps cps], .agg #[.int .i64 ql, .slice aqs nqs cqs], .int .i64 a, .int .i64 b] w (Ret fun v w' => v = .tuple #[.int .i64 ((Math.dealAt z ws vs pl ps ql qs a b).1), .int .i64 ((Math.dealAt z ws vs pl ps ql qs a b).2)] ∧ Ext w w') := by
 have kz : Kn w none_ [] (RdR ndK az nz Hz z) := fun w' hs => rz.ext hs.upd
 have lz : z.length = nz := rz.1
 have mz : nz ≤ 9223372036854775807 := rz.2.1
 have kws : Kn w none_ [] (RdR maK aws nws Hws ws) := fun w' hs => rws.ext hs.upd
 have lws : ws.length = nws := rws.1
 have mws : nws ≤ 9223372036854775807 := rws.2.1
 have kvs : Kn w none_ [] (RdR maK avs nvs Hvs vs) := fun w' hs => rvs.ext hs.upd
 have lvs : vs.length = nvs := rvs.1
 have mvs : nvs ≤ 9223372036854775807 := rvs.2.1
 have kps : Kn w none_ [] (RdR maK aps nps Hps ps) := fun w' hs => rps.ext hs.upd
 have lps : ps.length = nps := rps.1
 have mps : nps ≤ 9223372036854775807 := rps.2.1
 have kqs : Kn w none_ [] (RdR maK aqs nqs Hqs qs) := fun w' hs => rqs.ext hs.upd
 have lqs : qs.length = nqs := rqs.1
 have mqs : nqs ≤ 9223372036854775807 := rqs.2.1
 refine fn (M := none_) (rs := [.tmp 10, .tmp 11]) Try.func84 rfl Try.ntmps84 rfl rfl (Sep.start _ _) ?_
 refine hSeq ?_
 refine hReg (sl 0 (sl 1 (sl 2 (sq 3 (sq 4 sz))))) (by kernel_rfl) ?_
 refine box trv1 rfl rfl rfl rfl (fun bkb1 hbkb1 => ?_)
 refine box trv1 rfl rfl rfl rfl (fun bkb2 hbkb2 => ?_)
 refine box trv1 rfl rfl rfl rfl (fun bkb3 hbkb3 => ?_)
 refine asI rfl rfl rfl ?_
 refine asI rfl rfl rfl ?_
 refine rNil ?_
 refine qSeq rfl ?_
 refine hSeq ?_
 refine hSeq ?_
 refine hReg (sl 0 (sl 1 (sl 2 (sl 3 (sq 4 sz))))) (by kernel_rfl) ?_
 refine ldAl Try.isAgg43 Try.sizeOf43 (cBs 2 rfl) trv rfl rfl rfl rfl ?_
 refine ldAl Try.isAgg56 Try.sizeOf56 (cBs 1 rfl) trv rfl rfl rfl rfl ?_
 refine ldAl Try.isAgg56 Try.sizeOf56 (cBs 0 rfl) trv rfl rfl rfl rfl ?_
 refine callP (v := .bool (Math.isPair z ws vs pl ps ql qs)) Try.call142 trv rfl rfl (fun w hs => impl_arePair_c _ nz cz _ _ _ nws cws _ _ _ nvs cvs _ _ _ _ nps cps _ _ _ _ nqs cqs _ _ w (Kn.drop (k := 3) kz w hs) (Kn.drop (k := 3) kws w hs) (Kn.drop (k := 3) kvs w hs) (Kn.drop (k := 3) kps w hs) (Kn.drop (k := 3) kqs w hs)) ?_
 refine not rfl rfl rfl ?_
 refine rNil ?_
 refine qSeq rfl ?_
 refine hIfN rfl (fun c1 => ?_) (fun c1 => ?_)
 ·
  replace c1 : (Math.isPair z ws vs pl ps ql qs) = false := c1
  refine hSeq ?_
  refine hReg (sq 0 (sq 1 sz)) (by kernel_rfl) ?_
  refine asI rfl rfl rfl ?_
  refine asI rfl rfl rfl ?_
  refine rNil ?_
  refine qSeq rfl ?_
  refine hRet ?_
  exact fun w hs => ⟨[.int .i64 0, .int .i64 1], ⟨rfl, ⟨rfl, trivial⟩⟩, ⟨by rw [show Math.dealAt z ws vs pl ps ql qs a b = (0, 1) from Math.dealAt_1 (by assumption)]; rfl, hs.upd⟩⟩
 ·
  replace c1 : (Math.isPair z ws vs pl ps ql qs) = true := c1
  have hpo := Math.isPair_ok c1
  have hP := hpo.2.2
  have hg := hP.g
  have hG := Math.isGame_ok hg
  rw [lws] at hG
  have hT := Math.isTree_ok hG.1
  have hvl := Math.mat_len hG.2.2.2.1
  have hpq := Math.pair_len hP lws
  refine hSkip ?_
  refine qSeq rfl ?_
  refine hSeq ?_
  refine hSeq ?_
  refine hReg (sl 0 (sq 1 (sl 2 (sq 3 (sq 4 (sl 5 (sq 6 (sl 7 (sq 8 (sq 9 sz)))))))))) (by kernel_rfl) ?_
  refine ldAl Try.isAgg43 Try.sizeOf43 (cBs 2 rfl) trv rfl rfl rfl rfl ?_
  refine mvI rfl rfl rfl ?_
  refine callP (v := .bool (decide (0 ≤ a ∧ a ≤ (nws : Int) - 1))) Try.call110 trv rfl rfl (fun w hs => impl_isKind_c _ nz cz _ _ _ nws cws _ _ _ nvs cvs _ _ _ w (Kn.drop (k := 3) kz w hs) (Kn.drop (k := 3) kws w hs) (Kn.drop (k := 3) kvs w hs)) ?_
  refine notD rfl rfl rfl ?_
  refine mvB rfl rfl rfl ?_
  refine rBoolD (d := 21) rfl (fun g2 => ?_) (fun g2 => ?_)
  ·
   replace g2 : ¬ (0 ≤ a ∧ a ≤ (nws : Int) - 1) := g2
   refine rSkipL trv rfl rfl ?_
   refine rSkipQ rfl rfl ?_
   refine rSkipL trv rfl rfl ?_
   refine rSkipQ rfl rfl ?_
   refine pickB rfl rfl rfl rfl ?_
   refine rNil ?_
   refine qSeq rfl ?_
   refine hIfT rfl ?_
   refine hSeq ?_
   refine hReg (sq 0 (sq 1 sz)) (by kernel_rfl) ?_
   refine asI rfl rfl rfl ?_
   refine asI rfl rfl rfl ?_
   refine rNil ?_
   refine qSeq rfl ?_
   refine hRet ?_
   exact fun w hs => ⟨[.int .i64 0, .int .i64 2], ⟨rfl, ⟨rfl, trivial⟩⟩, ⟨by rw [show Math.dealAt z ws vs pl ps ql qs a b = (0, 2) from Math.dealAt_2 lws (by assumption) (by omega)]; rfl, hs.upd⟩⟩
  ·
   replace g2 : ¬ (¬ (0 ≤ a ∧ a ≤ (nws : Int) - 1)) := g2
   refine ldAl Try.isAgg43 Try.sizeOf43 (cBs 2 rfl) trv rfl rfl rfl rfl ?_
   refine mvI rfl rfl rfl ?_
   refine callP (v := .bool (decide (0 ≤ b ∧ b ≤ (nws : Int) - 1))) Try.call110 trv rfl rfl (fun w hs => impl_isKind_c _ nz cz _ _ _ nws cws _ _ _ nvs cvs _ _ _ w (Kn.drop (k := 3) kz w hs) (Kn.drop (k := 3) kws w hs) (Kn.drop (k := 3) kvs w hs)) ?_
   refine notD rfl rfl rfl ?_
   refine pickB rfl rfl rfl rfl ?_
   refine rNil ?_
   refine qSeq rfl ?_
   refine hIfD rfl (fun c3 => ?_) (fun c3 => ?_)
   ·
    replace c3 : ¬ (0 ≤ b ∧ b ≤ (nws : Int) - 1) := c3
    refine hSeq ?_
    refine hReg (sq 0 (sq 1 sz)) (by kernel_rfl) ?_
    refine asI rfl rfl rfl ?_
    refine asI rfl rfl rfl ?_
    refine rNil ?_
    refine qSeq rfl ?_
    refine hRet ?_
    exact fun w hs => ⟨[.int .i64 0, .int .i64 2], ⟨rfl, ⟨rfl, trivial⟩⟩, ⟨by rw [show Math.dealAt z ws vs pl ps ql qs a b = (0, 2) from Math.dealAt_2 lws (by assumption) (by omega)]; rfl, hs.upd⟩⟩
   ·
    replace c3 : ¬ (¬ (0 ≤ b ∧ b ≤ (nws : Int) - 1)) := c3
    refine hSkip ?_
    refine qSeq rfl ?_
    refine hSeq ?_
    refine hDraw (Ls := [blk bkb3 56 [.int .i64 ql, .slice aqs nqs cqs], blk bkb2 56 [.int .i64 pl, .slice aps nps cps], blk bkb1 43 [.slice az nz cz, .slice aws nws cws, .slice avs nvs cvs]]) (by kernel_rfl) (sq 0 (sq 1 (sq 2 (sq 4 (sq 5 (sq 6 (sq 7 (sl 3 (sl 8 (sl 9 (sq 10 (sq 11 sz)))))))))))) (by kernel_rfl) (.cons_cons _ (.cons_cons _ (.cons_cons _ .slnil))) ?_
    refine ldAq Try.isAgg43 Try.sizeOf43 (cBs 2 rfl) rfl rfl rfl rfl ?_
    refine ldAq Try.isAgg56 Try.sizeOf56 (cBs 1 rfl) rfl rfl rfl rfl ?_
    refine ldAq Try.isAgg56 Try.sizeOf56 (cBs 0 rfl) rfl rfl rfl rfl ?_
    refine mvI rfl rfl rfl ?_
    refine mvI rfl rfl rfl ?_
    refine fld fl43_0 rfl rfl rfl ?_
    refine ldAq Try.isAgg26 Try.sizeOf26 (cBp (m := 1) 2 rfl rfl) rfl rfl rfl rfl ?_
    refine callS Try.call143 (by exact (fun _ _ h => h.pick [4, 4, 4])) rfl rfl (fun w hs => impl_newEvaluator_c _ nz cz _ _ _ nws cws _ _ _ nvs cvs _ _ _ _ nps cps _ _ _ _ nqs cqs _ _ w (Kn.drop (k := 3) kz w hs) (Kn.drop (k := 3) kws w hs) (Kn.drop (k := 3) kvs w hs) (Kn.drop (k := 3) kps w hs) (Kn.drop (k := 3) kqs w hs) (by assumption)) ?_
    rintro ⟨be1, af01, nf01, cf01, f01, af11, nf11, cf11, f11, apr1, npr1, cpr1, pr1⟩ ⟨hr1a, hr1b, hr1c⟩
    dsimp only at hr1a hr1b hr1c
    subst f01
    subst f11
    subst pr1
    refine rKnow (fun w hs => (show OwnI 3 af01 nf01 cf01 (Math.firstOf z nws 0) w from hs.at_ 1 rfl).lenz) (fun lenn5 => ?_)
    refine rKnow (fun w hs => (show OwnI 3 af11 nf11 cf11 (Math.firstOf z nws 1) w from hs.at_ 2 rfl).lenz) (fun lenn6 => ?_)
    refine rKnow (fun w hs => (show OwnI 2 apr1 npr1 cpr1 (Math.parOf z) w from hs.at_ 3 rfl).lenz) (fun lenn7 => ?_)
    refine callP (v := .int .i64 (Math.depth z 0)) Try.call100 (fun _ h => h.pick [4, 4, 4]) rfl rfl (fun w hs => impl_depthFrom_c _ nz cz _ _ _ w (Kn.drop (k := 7) kz w hs) hT.2.1 (by omega) (by omega)) ?_
    refine callP (v := .int .i64 ((Math.value z vs nws ps qs a b (0 : Int) (Math.depth z 0)))) Try.call151 (fun _ h => h.pick [4, 4, 4]) rfl rfl (fun w hs => impl_evaluator_value_c be1 _ nz cz _ _ _ nws cws _ _ _ nvs cvs _ _ _ nf01 cf01 _ _ nf11 cf11 _ _ nps cps _ _ _ nqs cqs _ _ _ npr1 cpr1 _ _ _ _ _ w (RdB.of (hs.at_ 0 rfl)) (Kn.drop (k := 7) kz w hs) (Kn.drop (k := 7) kws w hs) (Kn.drop (k := 7) kvs w hs) (OwnI.rd (hs.at_ 1 rfl)) (OwnI.rd (hs.at_ 2 rfl)) (Kn.drop (k := 7) kps w hs) (Kn.drop (k := 7) kqs w hs) (OwnI.rd (hs.at_ 3 rfl)) (by assumption) (by first | rfl | assumption) (by first | rfl | assumption) (by first | rfl | assumption) (by omega) (by omega) (by omega) (by first | omega | exact Int.le_refl _) (by omega)) ?_
    refine asI rfl rfl rfl ?_
    refine asI rfl rfl rfl ?_
    refine rNil ?_
    refine qSeq rfl ?_
    refine hRet ?_
    exact fun w hs => ⟨[.int .i64 ((Math.value z vs nws ps qs a b (0 : Int) (Math.depth z 0))), .int .i64 0], ⟨rfl, ⟨rfl, trivial⟩⟩, ⟨by rw [show Math.dealAt z ws vs pl ps ql qs a b = ((Math.value z vs nws ps qs a b (0 : Int) (Math.depth z 0)), 0) from Math.dealAt_0 lws (by assumption) (by omega) (by omega)]; rfl, hs.upd⟩⟩
theorem impl_GameNumber_c (az : Option Addr) (nz : Nat) (cz : Nat) (Hz : Nat → Hd) (z : List Nd) (aws : Option Addr) (nws : Nat) (cws : Nat) (Hws : Nat → Hd) (ws : List (List Int)) (avs : Option Addr) (nvs : Nat) (cvs : Nat) (Hvs : Nat → Hd) (vs : List (List Int)) (pl : Int) (aps : Option Addr) (nps : Nat) (cps : Nat) (Hps : Nat → Hd) (ps : List (List Int)) (ql : Int) (aqs : Option Addr) (nqs : Nat) (cqs : Nat) (Hqs : Nat → Hd) (qs : List (List Int)) (w : World) (rz : RdR ndK az nz Hz z w) (rws : RdR maK aws nws Hws ws w) (rvs : RdR maK avs nvs Hvs vs w) (rps : RdR maK aps nps Hps ps w) (rqs : RdR maK aqs nqs Hqs qs w) :
  Calls Try.prog 80 #[.agg #[.slice az nz cz, .slice aws nws cws, .slice avs nvs cvs], .agg #[.int .i64 pl, .slice aps nps cps], .agg #[.int .i64 ql, .slice aqs nqs cqs]] w (Ret fun v w' => v = .tuple #[.int .i64 ((Math.gameAt z ws vs pl ps ql qs).1), .int .i64 ((Math.gameAt z ws vs pl ps ql qs).2.1), .int .i64 ((Math.gameAt z ws vs pl ps ql qs).2.2)] ∧ Ext w w') := by
 have kz : Kn w none_ [] (RdR ndK az nz Hz z) := fun w' hs => rz.ext hs.upd
 have lz : z.length = nz := rz.1
 have mz : nz ≤ 9223372036854775807 := rz.2.1
 have kws : Kn w none_ [] (RdR maK aws nws Hws ws) := fun w' hs => rws.ext hs.upd
 have lws : ws.length = nws := rws.1
 have mws : nws ≤ 9223372036854775807 := rws.2.1
 have kvs : Kn w none_ [] (RdR maK avs nvs Hvs vs) := fun w' hs => rvs.ext hs.upd
 have lvs : vs.length = nvs := rvs.1
 have mvs : nvs ≤ 9223372036854775807 := rvs.2.1
 have kps : Kn w none_ [] (RdR maK aps nps Hps ps) := fun w' hs => rps.ext hs.upd
 have lps : ps.length = nps := rps.1
 have mps : nps ≤ 9223372036854775807 := rps.2.1
 have kqs : Kn w none_ [] (RdR maK aqs nqs Hqs qs) := fun w' hs => rqs.ext hs.upd
 have lqs : qs.length = nqs := rqs.1
 have mqs : nqs ≤ 9223372036854775807 := rqs.2.1
 refine fn (M := none_) (rs := [.tmp 6, .tmp 7, .tmp 8]) Try.func80 rfl Try.ntmps80 rfl rfl (Sep.start _ _) ?_
 refine hSeq ?_
 refine hReg (sl 0 (sl 1 (sl 2 (sq 3 (sq 4 (sq 5 sz)))))) (by kernel_rfl) ?_
 refine box trv1 rfl rfl rfl rfl (fun bkb1 hbkb1 => ?_)
 refine box trv1 rfl rfl rfl rfl (fun bkb2 hbkb2 => ?_)
 refine box trv1 rfl rfl rfl rfl (fun bkb3 hbkb3 => ?_)
 refine asI rfl rfl rfl ?_
 refine asI rfl rfl rfl ?_
 refine asI rfl rfl rfl ?_
 refine rNil ?_
 refine qSeq rfl ?_
 refine hSeq ?_
 refine hSeq ?_
 refine hReg (sl 0 (sl 1 (sl 2 (sl 3 (sq 4 sz))))) (by kernel_rfl) ?_
 refine ldAl Try.isAgg43 Try.sizeOf43 (cBs 2 rfl) trv rfl rfl rfl rfl ?_
 refine ldAl Try.isAgg56 Try.sizeOf56 (cBs 1 rfl) trv rfl rfl rfl rfl ?_
 refine ldAl Try.isAgg56 Try.sizeOf56 (cBs 0 rfl) trv rfl rfl rfl rfl ?_
 refine callP (v := .bool (Math.isPair z ws vs pl ps ql qs)) Try.call142 trv rfl rfl (fun w hs => impl_arePair_c _ nz cz _ _ _ nws cws _ _ _ nvs cvs _ _ _ _ nps cps _ _ _ _ nqs cqs _ _ w (Kn.drop (k := 3) kz w hs) (Kn.drop (k := 3) kws w hs) (Kn.drop (k := 3) kvs w hs) (Kn.drop (k := 3) kps w hs) (Kn.drop (k := 3) kqs w hs)) ?_
 refine not rfl rfl rfl ?_
 refine rNil ?_
 refine qSeq rfl ?_
 refine hIfN rfl (fun c1 => ?_) (fun c1 => ?_)
 ·
  replace c1 : (Math.isPair z ws vs pl ps ql qs) = false := c1
  refine hSeq ?_
  refine hReg (sq 0 (sq 1 (sq 2 sz))) (by kernel_rfl) ?_
  refine asI rfl rfl rfl ?_
  refine asI rfl rfl rfl ?_
  refine asI rfl rfl rfl ?_
  refine rNil ?_
  refine qSeq rfl ?_
  refine hRet ?_
  exact fun w hs => ⟨[.int .i64 0, .int .i64 0, .int .i64 1], ⟨rfl, ⟨rfl, ⟨rfl, trivial⟩⟩⟩, ⟨by rw [Math.gameAt_1 (by assumption)]; rfl, hs.upd⟩⟩
 ·
  replace c1 : (Math.isPair z ws vs pl ps ql qs) = true := c1
  have hpo := Math.isPair_ok c1
  have hP := hpo.2.2
  have hg := hP.g
  have hG := Math.isGame_ok hg
  rw [lws] at hG
  have hT := Math.isTree_ok hG.1
  have hvl := Math.mat_len hG.2.2.2.1
  have hpq := Math.pair_len hP lws
  refine hSkip ?_
  refine qSeq rfl ?_
  refine hSeq ?_
  refine hDraw (Ls := [blk bkb3 56 [.int .i64 ql, .slice aqs nqs cqs], blk bkb2 56 [.int .i64 pl, .slice aps nps cps], blk bkb1 43 [.slice az nz cz, .slice aws nws cws, .slice avs nvs cvs]]) (by kernel_rfl) (sq 0 (sq 1 (sq 2 (sq 4 (sl 3 (sl 5 (sq 6 (sq 7 (sq 8 sz))))))))) (by kernel_rfl) (.cons_cons _ (.cons_cons _ (.cons_cons _ .slnil))) ?_
  refine ldAq Try.isAgg43 Try.sizeOf43 (cBs 2 rfl) rfl rfl rfl rfl ?_
  refine ldAq Try.isAgg56 Try.sizeOf56 (cBs 1 rfl) rfl rfl rfl rfl ?_
  refine ldAq Try.isAgg56 Try.sizeOf56 (cBs 0 rfl) rfl rfl rfl rfl ?_
  refine ldAq Try.isAgg43 Try.sizeOf43 (cBs 2 rfl) rfl rfl rfl rfl ?_
  refine callP (v := .int .i64 (Math.numTo z ws vs nws ps qs nws)) Try.call148 (fun _ h => h.pick [0, 0, 0]) rfl rfl (fun w hs => impl_gameNumber_c _ nz cz _ _ _ nws cws _ _ _ nvs cvs _ _ _ _ nps cps _ _ _ _ nqs cqs _ _ w (Kn.drop (k := 3) kz w hs) (Kn.drop (k := 3) kws w hs) (Kn.drop (k := 3) kvs w hs) (Kn.drop (k := 3) kps w hs) (Kn.drop (k := 3) kqs w hs) (by assumption)) ?_
  refine callP (v := .int .i64 (Math.unit z ws)) Try.call147 (fun _ h => h.pick [0, 0, 0]) rfl rfl (fun w hs => impl_unitOf_c _ nz cz _ _ _ nws cws _ _ _ nvs cvs _ _ w (Kn.drop (k := 3) kz w hs) (Kn.drop (k := 3) kws w hs) (Kn.drop (k := 3) kvs w hs) (by assumption)) ?_
  refine asI rfl rfl rfl ?_
  refine asI rfl rfl rfl ?_
  refine asI rfl rfl rfl ?_
  refine rNil ?_
  refine qSeq rfl ?_
  refine hRet ?_
  exact fun w hs => ⟨[.int .i64 (Math.numTo z ws vs nws ps qs nws), .int .i64 (Math.unit z ws), .int .i64 0], ⟨rfl, ⟨rfl, ⟨rfl, trivial⟩⟩⟩, ⟨by rw [Math.gameAt_0 lws (by assumption)]; rfl, hs.upd⟩⟩
theorem spec_GameNumber_c (az : Option Addr) (nz : Nat) (cz : Nat) (Hz : Nat → Hd) (z : List Nd) (aws : Option Addr) (nws : Nat) (cws : Nat) (Hws : Nat → Hd) (ws : List (List Int)) (avs : Option Addr) (nvs : Nat) (cvs : Nat) (Hvs : Nat → Hd) (vs : List (List Int)) (pl : Int) (aps : Option Addr) (nps : Nat) (cps : Nat) (Hps : Nat → Hd) (ps : List (List Int)) (ql : Int) (aqs : Option Addr) (nqs : Nat) (cqs : Nat) (Hqs : Nat → Hd) (qs : List (List Int)) (w : World) (rz : RdR ndK az nz Hz z w) (rws : RdR maK aws nws Hws ws w) (rvs : RdR maK avs nvs Hvs vs w) (rps : RdR maK aps nps Hps ps w) (rqs : RdR maK aqs nqs Hqs qs w) :
  Calls Try.prog 81 #[.agg #[.slice az nz cz, .slice aws nws cws, .slice avs nvs cvs], .agg #[.int .i64 pl, .slice aps nps cps], .agg #[.int .i64 ql, .slice aqs nqs cqs]] w (Ret fun v w' => v = .tuple #[.int .i64 ((Math.gameAt z ws vs pl ps ql qs).1), .int .i64 ((Math.gameAt z ws vs pl ps ql qs).2.1), .int .i64 ((Math.gameAt z ws vs pl ps ql qs).2.2)] ∧ Ext w w') := by
 have kz : Kn w none_ [] (RdR ndK az nz Hz z) := fun w' hs => rz.ext hs.upd
 have lz : z.length = nz := rz.1
 have mz : nz ≤ 9223372036854775807 := rz.2.1
 have kws : Kn w none_ [] (RdR maK aws nws Hws ws) := fun w' hs => rws.ext hs.upd
 have lws : ws.length = nws := rws.1
 have mws : nws ≤ 9223372036854775807 := rws.2.1
 have kvs : Kn w none_ [] (RdR maK avs nvs Hvs vs) := fun w' hs => rvs.ext hs.upd
 have lvs : vs.length = nvs := rvs.1
 have mvs : nvs ≤ 9223372036854775807 := rvs.2.1
 have kps : Kn w none_ [] (RdR maK aps nps Hps ps) := fun w' hs => rps.ext hs.upd
 have lps : ps.length = nps := rps.1
 have mps : nps ≤ 9223372036854775807 := rps.2.1
 have kqs : Kn w none_ [] (RdR maK aqs nqs Hqs qs) := fun w' hs => rqs.ext hs.upd
 have lqs : qs.length = nqs := rqs.1
 have mqs : nqs ≤ 9223372036854775807 := rqs.2.1
 refine fn (M := none_) (rs := [.tmp 6, .tmp 7, .tmp 8]) Try.func81 rfl Try.ntmps81 rfl rfl (Sep.start _ _) ?_
 refine hSeq ?_
 refine hReg (sl 0 (sl 1 (sl 2 (sq 3 (sq 4 (sq 5 sz)))))) (by kernel_rfl) ?_
 refine box trv1 rfl rfl rfl rfl (fun bkb1 hbkb1 => ?_)
 refine box trv1 rfl rfl rfl rfl (fun bkb2 hbkb2 => ?_)
 refine box trv1 rfl rfl rfl rfl (fun bkb3 hbkb3 => ?_)
 refine asI rfl rfl rfl ?_
 refine asI rfl rfl rfl ?_
 refine asI rfl rfl rfl ?_
 refine rNil ?_
 refine qSeq rfl ?_
 refine hSeq ?_
 refine hSeq ?_
 refine hReg (sl 0 (sl 1 (sl 2 (sl 3 (sq 4 sz))))) (by kernel_rfl) ?_
 refine ldAl Try.isAgg43 Try.sizeOf43 (cBs 2 rfl) trv rfl rfl rfl rfl ?_
 refine ldAl Try.isAgg56 Try.sizeOf56 (cBs 1 rfl) trv rfl rfl rfl rfl ?_
 refine ldAl Try.isAgg56 Try.sizeOf56 (cBs 0 rfl) trv rfl rfl rfl rfl ?_
 refine callP (v := .bool (Math.isPair z ws vs pl ps ql qs)) Try.call145 trv rfl rfl (fun w hs => spec_l23Pair_c _ nz cz _ _ _ nws cws _ _ _ nvs cvs _ _ _ _ nps cps _ _ _ _ nqs cqs _ _ w (Kn.drop (k := 3) kz w hs) (Kn.drop (k := 3) kws w hs) (Kn.drop (k := 3) kvs w hs) (Kn.drop (k := 3) kps w hs) (Kn.drop (k := 3) kqs w hs)) ?_
 refine not rfl rfl rfl ?_
 refine rNil ?_
 refine qSeq rfl ?_
 refine hIfN rfl (fun c1 => ?_) (fun c1 => ?_)
 ·
  replace c1 : (Math.isPair z ws vs pl ps ql qs) = false := c1
  refine hSeq ?_
  refine hReg (sq 0 (sq 1 (sq 2 sz))) (by kernel_rfl) ?_
  refine asI rfl rfl rfl ?_
  refine asI rfl rfl rfl ?_
  refine asI rfl rfl rfl ?_
  refine rNil ?_
  refine qSeq rfl ?_
  refine hRet ?_
  exact fun w hs => ⟨[.int .i64 0, .int .i64 0, .int .i64 1], ⟨rfl, ⟨rfl, ⟨rfl, trivial⟩⟩⟩, ⟨by rw [Math.gameAt_1 (by assumption)]; rfl, hs.upd⟩⟩
 ·
  replace c1 : (Math.isPair z ws vs pl ps ql qs) = true := c1
  have hpo := Math.isPair_ok c1
  have hP := hpo.2.2
  have hg := hP.g
  have hG := Math.isGame_ok hg
  rw [lws] at hG
  have hT := Math.isTree_ok hG.1
  have hvl := Math.mat_len hG.2.2.2.1
  have hpq := Math.pair_len hP lws
  refine hSkip ?_
  refine qSeq rfl ?_
  refine hSeq ?_
  refine hDraw (Ls := [blk bkb3 56 [.int .i64 ql, .slice aqs nqs cqs], blk bkb2 56 [.int .i64 pl, .slice aps nps cps], blk bkb1 43 [.slice az nz cz, .slice aws nws cws, .slice avs nvs cvs]]) (by kernel_rfl) (sq 0 (sq 1 (sq 2 (sq 4 (sl 3 (sl 5 (sq 6 (sq 7 (sq 8 sz))))))))) (by kernel_rfl) (.cons_cons _ (.cons_cons _ (.cons_cons _ .slnil))) ?_
  refine ldAq Try.isAgg43 Try.sizeOf43 (cBs 2 rfl) rfl rfl rfl rfl ?_
  refine ldAq Try.isAgg56 Try.sizeOf56 (cBs 1 rfl) rfl rfl rfl rfl ?_
  refine ldAq Try.isAgg56 Try.sizeOf56 (cBs 0 rfl) rfl rfl rfl rfl ?_
  refine ldAq Try.isAgg43 Try.sizeOf43 (cBs 2 rfl) rfl rfl rfl rfl ?_
  refine callP (v := .int .i64 (Math.numTo z ws vs nws ps qs nws)) Try.call149 (fun _ h => h.pick [0, 0, 0]) rfl rfl (fun w hs => spec_l23Number_c _ nz cz _ _ _ nws cws _ _ _ nvs cvs _ _ _ _ nps cps _ _ _ _ nqs cqs _ _ w (Kn.drop (k := 3) kz w hs) (Kn.drop (k := 3) kws w hs) (Kn.drop (k := 3) kvs w hs) (Kn.drop (k := 3) kps w hs) (Kn.drop (k := 3) kqs w hs) (by assumption)) ?_
  refine callP (v := .int .i64 (Math.unit z ws)) Try.call150 (fun _ h => h.pick [0, 0, 0]) rfl rfl (fun w hs => spec_l23Unit_c _ nz cz _ _ _ nws cws _ _ _ nvs cvs _ _ w (Kn.drop (k := 3) kz w hs) (Kn.drop (k := 3) kws w hs) (Kn.drop (k := 3) kvs w hs) (by assumption)) ?_
  refine asI rfl rfl rfl ?_
  refine asI rfl rfl rfl ?_
  refine asI rfl rfl rfl ?_
  refine rNil ?_
  refine qSeq rfl ?_
  refine hRet ?_
  exact fun w hs => ⟨[.int .i64 (Math.numTo z ws vs nws ps qs nws), .int .i64 (Math.unit z ws), .int .i64 0], ⟨rfl, ⟨rfl, ⟨rfl, trivial⟩⟩⟩, ⟨by rw [Math.gameAt_0 lws (by assumption)]; rfl, hs.upd⟩⟩
end Go.Proofs.Ytjengglpbdgmnaa
/- Contracts of games with high cards. Their conditions stand in each. -/
namespace Go.Proofs.Ytjengglpbdgmnaa
open Go Go.RowKit V
set_option linter.unusedVariables false
set_option linter.unusedSimpArgs false
set_option maxRecDepth 100000
theorem bld43   : ∀ w, (Instr.build 43 ([] : List (Nat × Value)).toArray).run Try.prog w = .ok (.agg ([.slice none 0 0, .slice none 0 0, .slice none 0 0] : List Value).toArray) w := by
 intro w; simp [Instr.build, Instr.fill, Try.zeroValue43, Try.runUnderlying43, aggCells, Try.sizeOf26, Try.sizeOf41]
end Go.Proofs.Ytjengglpbdgmnaa
/- Contracts of mirrored games. Their conditions stand in each. -/
namespace Go.Proofs.Ytjengglpbdgmnaa
open Go Go.RowKit V
set_option linter.unusedVariables false
set_option linter.unusedSimpArgs false
set_option maxRecDepth 100000
end Go.Proofs.Ytjengglpbdgmnaa
