/- Contracts of strategies. Their conditions stand in each. -/
import Derived.Test.YtofkhnipfhcaiaaEngC
import Derived.Test.YtofkhnipfhcaiaaTree
import Derived.Test.YtofkhnipfhcaiaaGame
import Derived.Test.YtofkhnipfhcaiaaSets
import Derived.Test.YtofkhnipfhcaiaaL1
import Derived.Test.YtofkhnipfhcaiaaL2
import Derived.Test.YtofkhnipfhcaiaaL3
import Derived.Test.YtofkhnipfhcaiaaL4
import Derived.Test.YtofkhnipfhcaiaaL5
import Derived.Test.YtofkhnipfhcaiaaRows
namespace Go.Proofs.Ytofkhnipfhcaiaa
open Go Go.RowKit V
set_option linter.unusedVariables false
set_option linter.unusedSimpArgs false
set_option maxRecDepth 100000



theorem impl_isStrategy_c (az : Option Addr) (nz : Nat) (cz : Nat) (Hz : Nat → Hd) (z : List Nd) (aws : Option Addr) (nws : Nat) (cws : Nat) (Hws : Nat → Hd) (ws : List (List Int)) (avs : Option Addr) (nvs : Nat) (cvs : Nat) (Hvs : Nat → Hd) (vs : List (List Int)) (pl : Int) (aps : Option Addr) (nps : Nat) (cps : Nat) (Hps : Nat → Hd) (ps : List (List Int)) (w : World) (rz : RdR ndK az nz Hz z w) (rws : RdR maK aws nws Hws ws w) (rvs : RdR maK avs nvs Hvs vs w) (rps : RdR maK aps nps Hps ps w) (hg : Math.isGame z ws vs = true) :
    Calls Try.prog 73 #[.agg #[.slice az nz cz, .slice aws nws cws, .slice avs nvs cvs], .agg #[.int .i64 pl, .slice aps nps cps]] w (Ret fun v w' => v = .bool ((Math.partsB z (Math.sets z nws pl) ps)) ∧ Ext w w') := by
  have kz : Kn w none_ [] (RdR ndK az nz Hz z) := fun w' hs => rz.ext hs.upd
  have lz : z.length = nz := rz.1
  have mz : nz ≤ 9223372036854775807 := rz.2.1
  have kws : Kn w none_ [] (RdR maK aws nws Hws ws) := fun w' hs => rws.ext hs.upd
  have lws : ws.length = nws := rws.1
  have mws : nws ≤ 9223372036854775807 := rws.2.1
  have kvs : Kn w none_ [] (RdR maK avs nvs Hvs vs) := fun w' hs => rvs.ext hs.upd
  have lvs : vs.length = nvs := rvs.1
  have mvs : nvs ≤ 9223372036854775807 := rvs.2.1
  have kps : Kn w none_ [] (RdR maK aps nps Hps ps) := fun w' hs => rps.ext hs.upd
  have lps : ps.length = nps := rps.1
  have mps : nps ≤ 9223372036854775807 := rps.2.1
  have hG := Math.isGame_ok hg
  rw [lws] at hG
  have hT := Math.isTree_ok hG.1
  have hvl := Math.mat_len hG.2.2.2.1
  have hsl := Math.sets_len (z := z) (p := pl) (show nws ≤ 6 by omega)
  refine fn (M := none_) (rs := [.tmp 4]) Try.func73 rfl Try.ntmps73 rfl rfl (Sep.start _ _) ?_
  refine hSeq ?_
  refine hReg (sl 0 (sl 1 (sq 2 sz))) (by kernel_rfl) ?_
  refine box trv1 rfl rfl rfl rfl (fun bkb1 hbkb1 => ?_)
  refine box trv1 rfl rfl rfl rfl (fun bkb2 hbkb2 => ?_)
  refine asB rfl rfl rfl ?_
  refine rNil ?_
  refine qSeq rfl ?_
  refine hSeq ?_
  refine hReg (sl 0 (sq 1 (sl 2 (sl 3 (sq 4 sz))))) (by kernel_rfl) ?_
  refine ldAl Try.isAgg38 Try.sizeOf38 (cBs 1 rfl) trv rfl rfl rfl rfl ?_
  refine fld fl40_0 rfl rfl rfl ?_
  refine ldl Try.isAgg2 (cB 0 rfl rfl) trv rfl rfl rfl ?_
  refine callS Try.call99 trv1 rfl rfl (fun w hs => impl_infoSets_c _ nz cz _ _ _ nws cws _ _ _ nvs cvs _ _ _ w (Kn.drop (k := 2) kz w hs) (Kn.drop (k := 2) kws w hs) (Kn.drop (k := 2) kvs w hs) (by omega) (by omega)) ?_
  rintro ⟨ay1, ny1, cy1, Hy1, y1⟩ hr1
  dsimp only at hr1
  subst y1
  refine rKnow (fun w hs => (show OwnR maK 53 2 ay1 ny1 cy1 Hy1 (Math.sets z nws pl) w from hs.at_ 0 rfl).1) (fun lenn3 => ?_)
  refine asS rfl rfl rfl ?_
  refine rNil ?_
  refine qSeq rfl ?_
  refine hSeq ?_
  refine hSeq ?_
  refine hReg (sq 0 (sl 1 (sq 2 (sq 3 (sq 4 (sq 5 sz)))))) (by kernel_rfl) ?_
  refine fld fl40_1 rfl rfl rfl ?_
  refine ldl Try.isAgg25 (cB 1 rfl rfl) trv rfl rfl rfl ?_
  refine lenS Try.runUnderlying25 rfl rfl rfl ?_
  refine mvS rfl rfl rfl ?_
  refine lenS Try.runUnderlying25 rfl rfl rfl ?_
  refine neq rfl rfl rfl rfl ?_
  refine rNil ?_
  refine qSeq rfl ?_
  refine hIfD rfl (fun c1 => ?_) (fun c1 => ?_)
  · -- c1T
    replace c1 : (nps : Int) ≠ (ny1 : Int) := c1
    refine hSeq ?_
    refine hReg (sq 0 sz) (by kernel_rfl) ?_
    refine asB rfl rfl rfl ?_
    refine rNil ?_
    refine qSeq rfl ?_
    refine hRet ?_
    exact fun w hs => ⟨[.bool false], ⟨rfl, trivial⟩, ⟨bB (Math.parts_no0 (by omega)).symm, hs.upd⟩⟩
  · -- c1F
    replace c1 : ¬ ((nps : Int) ≠ (ny1 : Int)) := c1
    refine hSkip ?_
    refine qSeq rfl ?_
    refine hSeq ?_
    refine hSeq ?_
    refine hReg (sq 0 (sq 1 (sq 2 sz))) (by kernel_rfl) ?_
    refine mvS rfl rfl rfl ?_
    refine lenS Try.runUnderlying25 rfl rfl rfl ?_
    refine mvI rfl rfl rfl ?_
    refine rNil ?_
    refine qSeq rfl ?_
    refine hBlk ?_
    refine hLoop (α := Nat) (fun i => i ≤ ny1 ∧ ∀ j, j < i → Math.partB z ((Math.sets z nws pl).getD j []) (ps.getD j []) = true) (fun i => ny1 - i) (fun i => [OwnR maK 53 2 ay1 ny1 cy1 Hy1 (Math.sets z nws pl), blk bkb2 40 [.int .i64 pl, .slice aps nps cps], blk bkb1 38 [.slice az nz cz, .slice aws nws cws, .slice avs nvs cvs]]) (fun i => [(2, .pointer (some ⟨bkb1, 0, none⟩)), (3, .pointer (some ⟨bkb2, 0, none⟩)), (19, .slice ay1 ny1 cy1), (20, .int .i64 (ny1 : Int)), (21, .int .i64 (i : Int))]) 0 ⟨Nat.zero_le _, fun j hj => by omega⟩ (fun _ h => h.pick [0, 0, 0]) ⟨rfl, rfl, rfl, rfl, rfl, trivial⟩ ?_
    rintro i τ1 ⟨hi, hal⟩
    refine hSeq ?_
    refine hReg (sq 0 sz) (by kernel_rfl) ?_
    refine lss rfl rfl rfl rfl ?_
    refine rNil ?_
    refine qSeq rfl ?_
    refine hSeq ?_
    refine hIfD rfl (fun c2 => ?_) (fun c2 => ?_)
    · -- c2T
      replace c2 : (i : Int) < (ny1 : Int) := c2
      have hsa := Math.sets_at (z := z) (k := nws) (p := pl) (i := i) (by omega)
      have hwd : Math.wide z ((Math.sets z nws pl).getD i []) ≤ 4 := Math.wide_le hg hsa.2.1
      have hwq : Math.wide z ((Math.sets z nws pl).getD i []) = (z.getD (((Math.sets z nws pl).getD i []).getD 0 0).toNat dN).ch.length := rfl
      refine hSkip ?_
      refine qSeq rfl ?_
      refine hSeq ?_
      refine hBlk ?_
      refine hSeq ?_
      refine hReg (sq 0 (sq 1 (sl 2 (sq 3 (sq 4 sz))))) (by kernel_rfl) ?_
      refine mvI rfl rfl rfl ?_
      refine ixRl (zn := i) ((Math.sets z nws pl).getD i []) el25 ((Kn.at_ 0 rfl).imp fun _ h => OwnR.rd h maK.ok) rfl rfl rfl rfl (by omega) (by omega) rfl (nth [] (by omega)) ?_
      intro be2 oe2 e2
      refine ldl Try.isAgg53 (Kn.fld e2 0 rfl) trv rfl rfl rfl ?_
      refine asI rfl rfl rfl ?_
      refine asS rfl rfl rfl ?_
      refine rNil ?_
      refine qSeq rfl ?_
      refine hSeq ?_
      refine hReg (sq 0 (sl 1 (sq 2 (sq 3 (sl 4 (sq 5 sz)))))) (by kernel_rfl) ?_
      refine fld fl40_1 rfl rfl rfl ?_
      refine ldl Try.isAgg25 (cB 1 rfl rfl) trv rfl rfl rfl ?_
      refine mvI rfl rfl rfl ?_
      refine ixRl (zn := i) (ps.getD i []) el25 (Kn.drop (k := 3) kps) rfl rfl rfl rfl (by omega) (by omega) rfl (nth [] (by omega)) ?_
      intro be3 oe3 e3
      refine ldl Try.isAgg53 (Kn.fld e3 0 rfl) trv rfl rfl rfl ?_
      refine asS rfl rfl rfl ?_
      refine rNil ?_
      refine qSeq rfl ?_
      refine hSeq ?_
      refine hDraw (Ls := [OwnR maK 53 2 ay1 ny1 cy1 Hy1 (Math.sets z nws pl), blk bkb2 40 [.int .i64 pl, .slice aps nps cps], blk bkb1 38 [.slice az nz cz, .slice aws nws cws, .slice avs nvs cvs]]) (by kernel_rfl) (sq 0 (sq 1 (sq 2 (sq 3 (sq 4 (sq 5 (sq 6 (sq 7 (sq 8 (sq 9 (sq 10 (sq 11 (sq 12 (sq 13 (sq 14 (sl 15 (sq 16 (sq 17 (sq 18 (sq 19 (sl 20 (sq 21 (sq 22 sz))))))))))))))))))))))) (by kernel_rfl) (.cons_cons _ (.cons_cons _ (.cons_cons _ .slnil))) ?_
      refine mvS rfl rfl rfl ?_
      refine lenS Try.runUnderlying53 rfl rfl rfl ?_
      refine fld fl38_0 rfl rfl rfl ?_
      refine fld fl36_0 rfl rfl rfl ?_
      refine ldq Try.isAgg34 (cB 2 rfl rfl) rfl rfl rfl ?_
      refine mvS rfl rfl rfl ?_
      refine ixIq (zn := 0) el53 ((Kn.imp ((Kn.at_ (φ := OwnR maK 53 2 ay1 ny1 cy1 Hy1 (Math.sets z nws pl)) 0 rfl).imp fun _ h => OwnR.rd h maK.ok) fun _ h => h.kidM (nth [] (by omega)))) (fun _ h => h.pick [0, 0, 0]) rfl rfl rfl rfl (by omega) (by omega) rfl ?_
      intro ae4 e4
      refine ldq Try.isAgg2 (e4) rfl rfl rfl ?_
      refine ixRq (zn := (((((Math.sets z nws pl).getD i [])).getD 0 0)).toNat) (z.getD ((((((Math.sets z nws pl).getD i [])).getD 0 0)).toNat) dN) el34 (Kn.drop (k := 3) kz) (fun _ h => h.pick [0, 0, 0]) rfl rfl rfl rfl (by omega) (by omega) rfl (nth dN (by omega)) ?_
      intro be5 oe5 e5
      refine fld fl88_4 rfl rfl rfl ?_
      refine ldq Try.isAgg53 (Kn.fld e5 4 rfl) rfl rfl rfl ?_
      refine lenS Try.runUnderlying53 rfl rfl rfl ?_
      refine neq rfl rfl rfl rfl ?_
      refine mvB rfl rfl rfl ?_
      refine rBoolD (d := 44) rfl (fun g3 => ?_) (fun g3 => ?_)
      · -- g3T
        replace g3 : (((ps.getD i []).length : Nat) : Int) ≠ ((((z.getD ((((((Math.sets z nws pl).getD i [])).getD 0 0)).toNat) dN).ch).length : Nat) : Int) := g3
        refine rSkipQ rfl rfl ?_
        refine rSkipL (fun _ h => h.pick [0, 0, 0]) rfl rfl ?_
        refine rSkipQ rfl rfl ?_
        refine pickB rfl rfl rfl rfl ?_
        refine mvB rfl rfl rfl ?_
        refine rSkipQ rfl rfl ?_
        refine rSkipL (fun _ h => h.pick [0, 0, 0]) rfl rfl ?_
        refine rSkipQ rfl rfl ?_
        refine pickB rfl rfl rfl rfl ?_
        refine rNil ?_
        refine qSeq rfl ?_
        refine hIfT rfl ?_
        refine hSeq ?_
        refine hReg (sq 0 sz) (by kernel_rfl) ?_
        refine asB rfl rfl rfl ?_
        refine rNil ?_
        refine qSeq rfl ?_
        refine hRet ?_
        exact fun w hs => ⟨[.bool false], ⟨rfl, trivial⟩, ⟨bB (Math.parts_no (i := i) (by omega) (Math.part_no1 g3)).symm, hs.upd⟩⟩
      · -- g3F
        replace g3 : ¬ ((((ps.getD i []).length : Nat) : Int) ≠ ((((z.getD ((((((Math.sets z nws pl).getD i [])).getD 0 0)).toNat) dN).ch).length : Nat) : Int)) := g3
        refine mvS rfl rfl rfl ?_
        refine callP (v := .bool (((ps.getD i []).all (Math.inB (0 : Int) (60 : Int))))) Try.call98 (fun _ h => h.pick [0, 0, 0]) rfl rfl (fun w hs => impl_allWithin_c _ ((ps.getD i []).length) ((Hps i).2) _ _ _ w (Kn.drop (k := 3) ((Kn.imp kps fun _ h => h.kidM (nth [] (by omega)))) w hs)) ?_
        refine not rfl rfl rfl ?_
        refine pickB rfl rfl rfl rfl ?_
        refine mvB rfl rfl rfl ?_
        refine rBoolN (d := 49) rfl (fun g4 => ?_) (fun g4 => ?_)
        · -- g4T
          replace g4 : ((ps.getD i []).all (Math.inB (0 : Int) (60 : Int))) = false := g4
          refine rSkipQ rfl rfl ?_
          refine rSkipL (fun _ h => h.pick [0, 0, 0]) rfl rfl ?_
          refine rSkipQ rfl rfl ?_
          refine pickB rfl rfl rfl rfl ?_
          refine rNil ?_
          refine qSeq rfl ?_
          refine hIfT rfl ?_
          refine hSeq ?_
          refine hReg (sq 0 sz) (by kernel_rfl) ?_
          refine asB rfl rfl rfl ?_
          refine rNil ?_
          refine qSeq rfl ?_
          refine hRet ?_
          exact fun w hs => ⟨[.bool false], ⟨rfl, trivial⟩, ⟨bB (Math.parts_no (i := i) (by omega) (Math.part_no2 g4)).symm, hs.upd⟩⟩
        · -- g4F
          replace g4 : ((ps.getD i []).all (Math.inB (0 : Int) (60 : Int))) = true := g4
          have hb := Math.all60 g4
          refine mvS rfl rfl rfl ?_
          refine callP (v := .int .i64 ((ps.getD i []).sum)) Try.call83 (fun _ h => h.pick [0, 0, 0]) rfl rfl (fun w hs => impl_sumOf_c _ ((ps.getD i []).length) ((Hps i).2) _ w (Kn.drop (k := 3) ((Kn.imp kps fun _ h => h.kidM (nth [] (by omega)))) w hs) (by assumption) (by omega)) ?_
          refine neq rfl rfl rfl rfl ?_
          refine pickB rfl rfl rfl rfl ?_
          refine rNil ?_
          refine qSeq rfl ?_
          refine hIfD rfl (fun c5 => ?_) (fun c5 => ?_)
          · -- c5T
            replace c5 : (ps.getD i []).sum ≠ 60 := c5
            refine hSeq ?_
            refine hReg (sq 0 sz) (by kernel_rfl) ?_
            refine asB rfl rfl rfl ?_
            refine rNil ?_
            refine qSeq rfl ?_
            refine hRet ?_
            exact fun w hs => ⟨[.bool false], ⟨rfl, trivial⟩, ⟨bB (Math.parts_no (i := i) (by omega) (Math.part_no3 c5)).symm, hs.upd⟩⟩
          · -- c5F
            replace c5 : ¬ ((ps.getD i []).sum ≠ 60) := c5
            refine hSkip ?_
            refine qSeq rfl ?_
            refine hReg (sq 0 (sq 1 sz)) (by kernel_rfl) ?_
            refine add rfl rfl rfl rfl (by omega) ?_
            refine mvI rfl rfl rfl ?_
            refine rNil ?_
            exact qNext rfl (i + 1) (by omega) ⟨by omega, Math.upto hal (Math.part_yes (by omega) (by assumption) (by omega))⟩ ⟨rfl, rfl, rfl, rfl, rfl, trivial⟩ (fun _ h => h.pick [0, 0, 0])
    · -- c2F
      replace c2 : ¬ ((i : Int) < (ny1 : Int)) := c2
      refine hExit rfl ?_
      refine qSeq rfl ?_
      refine hSeq ?_
      refine hReg (sq 0 sz) (by kernel_rfl) ?_
      refine asB rfl rfl rfl ?_
      refine rNil ?_
      refine qSeq rfl ?_
      refine hRet ?_
      exact fun w hs => ⟨[.bool true], ⟨rfl, trivial⟩, ⟨bB (Math.parts_yes (by omega) fun j hj => hal j (by omega)).symm, hs.upd⟩⟩

theorem spec_IsStrategy_c (az : Option Addr) (nz : Nat) (cz : Nat) (Hz : Nat → Hd) (z : List Nd) (aws : Option Addr) (nws : Nat) (cws : Nat) (Hws : Nat → Hd) (ws : List (List Int)) (avs : Option Addr) (nvs : Nat) (cvs : Nat) (Hvs : Nat → Hd) (vs : List (List Int)) (pl : Int) (aps : Option Addr) (nps : Nat) (cps : Nat) (Hps : Nat → Hd) (ps : List (List Int)) (w : World) (rz : RdR ndK az nz Hz z w) (rws : RdR maK aws nws Hws ws w) (rvs : RdR maK avs nvs Hvs vs w) (rps : RdR maK aps nps Hps ps w) :
    Calls Try.prog 50 #[.agg #[.slice az nz cz, .slice aws nws cws, .slice avs nvs cvs], .agg #[.int .i64 pl, .slice aps nps cps]] w (Ret fun v w' => v = .bool (Math.isStrat z ws vs pl ps) ∧ Ext w w') := by
  have kz : Kn w none_ [] (RdR ndK az nz Hz z) := fun w' hs => rz.ext hs.upd
  have lz : z.length = nz := rz.1
  have mz : nz ≤ 9223372036854775807 := rz.2.1
  have kws : Kn w none_ [] (RdR maK aws nws Hws ws) := fun w' hs => rws.ext hs.upd
  have lws : ws.length = nws := rws.1
  have mws : nws ≤ 9223372036854775807 := rws.2.1
  have kvs : Kn w none_ [] (RdR maK avs nvs Hvs vs) := fun w' hs => rvs.ext hs.upd
  have lvs : vs.length = nvs := rvs.1
  have mvs : nvs ≤ 9223372036854775807 := rvs.2.1
  have kps : Kn w none_ [] (RdR maK aps nps Hps ps) := fun w' hs => rps.ext hs.upd
  have lps : ps.length = nps := rps.1
  have mps : nps ≤ 9223372036854775807 := rps.2.1
  refine fn (M := none_) (rs := [.tmp 4]) Try.func50 rfl Try.ntmps50 rfl rfl (Sep.start _ _) ?_
  refine hSeq ?_
  refine hReg (sl 0 (sl 1 (sq 2 sz))) (by kernel_rfl) ?_
  refine box trv1 rfl rfl rfl rfl (fun bkb1 hbkb1 => ?_)
  refine box trv1 rfl rfl rfl rfl (fun bkb2 hbkb2 => ?_)
  refine asB rfl rfl rfl ?_
  refine rNil ?_
  refine qSeq rfl ?_
  refine hSeq ?_
  refine hSeq ?_
  refine hReg (sl 0 (sl 1 (sq 2 (sq 3 (sq 4 (sl 5 (sl 6 (sq 7 (sq 8 sz))))))))) (by kernel_rfl) ?_
  refine ldAl Try.isAgg38 Try.sizeOf38 (cBs 1 rfl) trv rfl rfl rfl rfl ?_
  refine callP (v := .bool (Math.isGame z ws vs)) Try.call80 trv rfl rfl (fun w hs => spec_IsGame_c _ nz cz _ _ _ nws cws _ _ _ nvs cvs _ _ w (Kn.drop (k := 2) kz w hs) (Kn.drop (k := 2) kws w hs) (Kn.drop (k := 2) kvs w hs)) ?_
  refine not rfl rfl rfl ?_
  refine mvB rfl rfl rfl ?_
  refine rBoolN (d := 11) rfl (fun g1 => ?_) (fun g1 => ?_)
  · -- g1T
    replace g1 : (Math.isGame z ws vs) = false := g1
    refine rSkipQ rfl rfl ?_
    refine rSkipL trv rfl rfl ?_
    refine rSkipL trv rfl rfl ?_
    refine rSkipQ rfl rfl ?_
    refine pickB rfl rfl rfl rfl ?_
    refine rNil ?_
    refine qSeq rfl ?_
    refine hIfT rfl ?_
    refine hSeq ?_
    refine hReg (sq 0 sz) (by kernel_rfl) ?_
    refine asB rfl rfl rfl ?_
    refine rNil ?_
    refine qSeq rfl ?_
    refine hRet ?_
    exact fun w hs => ⟨[.bool false], ⟨rfl, trivial⟩, ⟨bB (Math.strat_no1 g1).symm, hs.upd⟩⟩
  · -- g1F
    replace g1 : (Math.isGame z ws vs) = true := g1
    refine fld fl40_0 rfl rfl rfl ?_
    refine ldl Try.isAgg2 (cB 0 rfl rfl) trv rfl rfl rfl ?_
    refine callP (v := .bool ((Math.inB (0 : Int) (1 : Int) pl))) Try.call51 trv rfl rfl (fun w hs => spec_l01In_c _ _ _ w ) ?_
    refine not rfl rfl rfl ?_
    refine pickB rfl rfl rfl rfl ?_
    refine rNil ?_
    refine qSeq rfl ?_
    refine hIfN rfl (fun c2 => ?_) (fun c2 => ?_)
    · -- c2T
      replace c2 : (Math.inB (0 : Int) (1 : Int) pl) = false := c2
      replace c2 : ¬ (0 ≤ pl ∧ pl ≤ 1) := of_decide_eq_false c2
      refine hSeq ?_
      refine hReg (sq 0 sz) (by kernel_rfl) ?_
      refine asB rfl rfl rfl ?_
      refine rNil ?_
      refine qSeq rfl ?_
      refine hRet ?_
      exact fun w hs => ⟨[.bool false], ⟨rfl, trivial⟩, ⟨bB (Math.strat_no2 c2).symm, hs.upd⟩⟩
    · -- c2F
      replace c2 : (Math.inB (0 : Int) (1 : Int) pl) = true := c2
      have hpl := of_decide_eq_true (show decide (0 ≤ pl ∧ pl ≤ 1) = true from c2)
      have hG := Math.isGame_ok g1
      rw [lws] at hG
      have hT := Math.isTree_ok hG.1
      have hvl := Math.mat_len hG.2.2.2.1
      have hsl := Math.sets_len (z := z) (p := pl) (show nws ≤ 6 by omega)
      refine hSkip ?_
      refine qSeq rfl ?_
      refine hSeq ?_
      refine hReg (sl 0 (sq 1 (sl 2 (sl 3 (sq 4 sz))))) (by kernel_rfl) ?_
      refine ldAl Try.isAgg38 Try.sizeOf38 (cBs 1 rfl) trv rfl rfl rfl rfl ?_
      refine fld fl40_0 rfl rfl rfl ?_
      refine ldl Try.isAgg2 (cB 0 rfl rfl) trv rfl rfl rfl ?_
      refine callS Try.call81 trv1 rfl rfl (fun w hs => spec_l21Sets_c _ nz cz _ _ _ nws cws _ _ _ nvs cvs _ _ _ w (Kn.drop (k := 2) kz w hs) (Kn.drop (k := 2) kws w hs) (Kn.drop (k := 2) kvs w hs) (by omega) (by omega)) ?_
      rintro ⟨ay1, ny1, cy1, Hy1, y1⟩ hr1
      dsimp only at hr1
      subst y1
      refine rKnow (fun w hs => (show OwnR maK 53 2 ay1 ny1 cy1 Hy1 (Math.sets z nws pl) w from hs.at_ 0 rfl).1) (fun lenn3 => ?_)
      refine asS rfl rfl rfl ?_
      refine rNil ?_
      refine qSeq rfl ?_
      refine hSeq ?_
      refine hSeq ?_
      refine hReg (sq 0 (sl 1 (sq 2 (sq 3 (sq 4 (sq 5 sz)))))) (by kernel_rfl) ?_
      refine fld fl40_1 rfl rfl rfl ?_
      refine ldl Try.isAgg25 (cB 1 rfl rfl) trv rfl rfl rfl ?_
      refine lenS Try.runUnderlying25 rfl rfl rfl ?_
      refine mvS rfl rfl rfl ?_
      refine lenS Try.runUnderlying25 rfl rfl rfl ?_
      refine neq rfl rfl rfl rfl ?_
      refine rNil ?_
      refine qSeq rfl ?_
      refine hIfD rfl (fun c3 => ?_) (fun c3 => ?_)
      · -- c3T
        replace c3 : (nps : Int) ≠ (ny1 : Int) := c3
        refine hSeq ?_
        refine hReg (sq 0 sz) (by kernel_rfl) ?_
        refine asB rfl rfl rfl ?_
        refine rNil ?_
        refine qSeq rfl ?_
        refine hRet ?_
        exact fun w hs => ⟨[.bool false], ⟨rfl, trivial⟩, ⟨bB (((Math.parts_no0 (by omega) : Math.partsB z (Math.sets z nws pl) ps = false)).symm.trans (Math.strat_in lws g1 (by omega)).symm), hs.upd⟩⟩
      · -- c3F
        replace c3 : ¬ ((nps : Int) ≠ (ny1 : Int)) := c3
        refine hSkip ?_
        refine qSeq rfl ?_
        refine hSeq ?_
        refine hSeq ?_
        refine hReg (sq 0 sz) (by kernel_rfl) ?_
        refine asI rfl rfl rfl ?_
        refine rNil ?_
        refine qSeq rfl ?_
        refine hBlk ?_
        refine hLoop (α := Nat) (fun i => i ≤ ny1 ∧ ∀ j, j < i → Math.partB z ((Math.sets z nws pl).getD j []) (ps.getD j []) = true) (fun i => ny1 - i) (fun i => [OwnR maK 53 2 ay1 ny1 cy1 Hy1 (Math.sets z nws pl), blk bkb2 40 [.int .i64 pl, .slice aps nps cps], blk bkb1 38 [.slice az nz cz, .slice aws nws cws, .slice avs nvs cvs]]) (fun i => [(2, .pointer (some ⟨bkb1, 0, none⟩)), (3, .pointer (some ⟨bkb2, 0, none⟩)), (5, .slice ay1 ny1 cy1), (6, .int .i64 (i : Int))]) 0 ⟨Nat.zero_le _, fun j hj => by omega⟩ (fun _ h => h.pick [0, 0, 0]) ⟨rfl, rfl, rfl, rfl, trivial⟩ ?_
        rintro i τ1 ⟨hi, hal⟩
        refine hSeq ?_
        refine hSeq ?_
        refine hReg (sq 0 (sq 1 (sq 2 (sq 3 sz)))) (by kernel_rfl) ?_
        refine mvI rfl rfl rfl ?_
        refine mvS rfl rfl rfl ?_
        refine lenS Try.runUnderlying25 rfl rfl rfl ?_
        refine lss rfl rfl rfl rfl ?_
        refine rNil ?_
        refine qSeq rfl ?_
        refine hIfD rfl (fun c4 => ?_) (fun c4 => ?_)
        · -- c4T
          replace c4 : (i : Int) < (ny1 : Int) := c4
          have hsa := Math.sets_at (z := z) (k := nws) (p := pl) (i := i) (by omega)
          have hwd : Math.wide z ((Math.sets z nws pl).getD i []) ≤ 4 := Math.wide_le g1 hsa.2.1
          have hwq : Math.wide z ((Math.sets z nws pl).getD i []) = (z.getD (((Math.sets z nws pl).getD i []).getD 0 0).toNat dN).ch.length := rfl
          refine hSkip ?_
          refine qSeq rfl ?_
          refine hSeq ?_
          refine hBlk ?_
          refine hSeq ?_
          refine hSeq ?_
          refine hDraw (Ls := [OwnR maK 53 2 ay1 ny1 cy1 Hy1 (Math.sets z nws pl), blk bkb2 40 [.int .i64 pl, .slice aps nps cps], blk bkb1 38 [.slice az nz cz, .slice aws nws cws, .slice avs nvs cvs]]) (by kernel_rfl) (sq 0 (sq 1 (sq 2 (sq 3 (sq 4 (sq 5 (sq 6 (sq 7 (sq 8 (sq 9 (sq 10 (sq 11 (sq 12 (sq 13 (sq 14 (sq 15 (sq 16 (sq 17 (sq 18 (sq 19 sz)))))))))))))))))))) (by kernel_rfl) (.cons_cons _ (.cons_cons _ (.cons_cons _ .slnil))) ?_
          refine fld fl40_1 rfl rfl rfl ?_
          refine ldq Try.isAgg25 (cB 1 rfl rfl) rfl rfl rfl ?_
          refine mvI rfl rfl rfl ?_
          refine ixRq (zn := i) (ps.getD i []) el25 (Kn.drop (k := 3) kps) (fun _ h => h.pick [0, 0, 0]) rfl rfl rfl rfl (by omega) (by omega) rfl (nth [] (by omega)) ?_
          intro be2 oe2 e2
          refine ldq Try.isAgg53 (Kn.fld e2 0 rfl) rfl rfl rfl ?_
          refine lenS Try.runUnderlying53 rfl rfl rfl ?_
          refine fld fl38_0 rfl rfl rfl ?_
          refine fld fl36_0 rfl rfl rfl ?_
          refine ldq Try.isAgg34 (cB 2 rfl rfl) rfl rfl rfl ?_
          refine mvS rfl rfl rfl ?_
          refine mvI rfl rfl rfl ?_
          refine ixRq (zn := i) ((Math.sets z nws pl).getD i []) el25 ((Kn.at_ 0 rfl).imp fun _ h => OwnR.rd h maK.ok) (fun _ h => h.pick [0, 0, 0]) rfl rfl rfl rfl (by omega) (by omega) rfl (nth [] (by omega)) ?_
          intro be3 oe3 e3
          refine ldq Try.isAgg53 (Kn.fld e3 0 rfl) rfl rfl rfl ?_
          refine ixIq (zn := 0) el53 ((Kn.imp ((Kn.at_ (φ := OwnR maK 53 2 ay1 ny1 cy1 Hy1 (Math.sets z nws pl)) 0 rfl).imp fun _ h => OwnR.rd h maK.ok) fun _ h => h.kidM (nth [] (by omega)))) (fun _ h => h.pick [0, 0, 0]) rfl rfl rfl rfl (by omega) (by omega) rfl ?_
          intro ae4 e4
          refine ldq Try.isAgg2 (e4) rfl rfl rfl ?_
          refine ixRq (zn := (((((Math.sets z nws pl).getD i [])).getD 0 0)).toNat) (z.getD ((((((Math.sets z nws pl).getD i [])).getD 0 0)).toNat) dN) el34 (Kn.drop (k := 3) kz) (fun _ h => h.pick [0, 0, 0]) rfl rfl rfl rfl (by omega) (by omega) rfl (nth dN (by omega)) ?_
          intro be5 oe5 e5
          refine fld fl88_4 rfl rfl rfl ?_
          refine ldq Try.isAgg53 (Kn.fld e5 4 rfl) rfl rfl rfl ?_
          refine lenS Try.runUnderlying53 rfl rfl rfl ?_
          refine neq rfl rfl rfl rfl ?_
          refine rNil ?_
          refine qSeq rfl ?_
          refine hIfD rfl (fun c5 => ?_) (fun c5 => ?_)
          · -- c5T
            replace c5 : (((ps.getD i []).length : Nat) : Int) ≠ ((((z.getD ((((((Math.sets z nws pl).getD i [])).getD 0 0)).toNat) dN).ch).length : Nat) : Int) := c5
            refine hSeq ?_
            refine hReg (sq 0 sz) (by kernel_rfl) ?_
            refine asB rfl rfl rfl ?_
            refine rNil ?_
            refine qSeq rfl ?_
            refine hRet ?_
            exact fun w hs => ⟨[.bool false], ⟨rfl, trivial⟩, ⟨bB (((Math.parts_no (i := i) (by omega) (Math.part_no1 c5) : Math.partsB z (Math.sets z nws pl) ps = false)).symm.trans (Math.strat_in lws g1 (by omega)).symm), hs.upd⟩⟩
          · -- c5F
            replace c5 : ¬ ((((ps.getD i []).length : Nat) : Int) ≠ ((((z.getD ((((((Math.sets z nws pl).getD i [])).getD 0 0)).toNat) dN).ch).length : Nat) : Int)) := c5
            refine hSkip ?_
            refine qSeq rfl ?_
            refine hSeq ?_
            refine hSeq ?_
            refine hReg (sq 0 sz) (by kernel_rfl) ?_
            refine asI rfl rfl rfl ?_
            refine rNil ?_
            refine qSeq rfl ?_
            refine hBlk ?_
            refine hLoop (α := Nat) (fun j => j ≤ (ps.getD i []).length ∧ ∀ q, q < j → Math.inB 0 60 ((ps.getD i []).getD q 0) = true) (fun j => (ps.getD i []).length - j) (fun j => [OwnR maK 53 2 ay1 ny1 cy1 Hy1 (Math.sets z nws pl), blk bkb2 40 [.int .i64 pl, .slice aps nps cps], blk bkb1 38 [.slice az nz cz, .slice aws nws cws, .slice avs nvs cvs]]) (fun j => [(2, .pointer (some ⟨bkb1, 0, none⟩)), (3, .pointer (some ⟨bkb2, 0, none⟩)), (5, .slice ay1 ny1 cy1), (6, .int .i64 (i : Int)), (7, .int .i64 (j : Int))]) 0 ⟨Nat.zero_le _, fun q hq => by omega⟩ (fun _ h => h.pick [0, 0, 0]) ⟨rfl, rfl, rfl, rfl, rfl, trivial⟩ ?_
            rintro j τ2 ⟨hj, hin⟩
            refine hSeq ?_
            refine hSeq ?_
            refine hReg (sq 0 (sq 1 (sl 2 (sq 3 (sq 4 (sl 5 (sq 6 (sq 7 sz)))))))) (by kernel_rfl) ?_
            refine mvI rfl rfl rfl ?_
            refine fld fl40_1 rfl rfl rfl ?_
            refine ldl Try.isAgg25 (cB 1 rfl rfl) trv rfl rfl rfl ?_
            refine mvI rfl rfl rfl ?_
            refine ixRl (zn := i) (ps.getD i []) el25 (Kn.drop (k := 3) kps) rfl rfl rfl rfl (by omega) (by omega) rfl (nth [] (by omega)) ?_
            intro be6 oe6 e6
            refine ldl Try.isAgg53 (Kn.fld e6 0 rfl) trv rfl rfl rfl ?_
            refine lenS Try.runUnderlying53 rfl rfl rfl ?_
            refine lss rfl rfl rfl rfl ?_
            refine rNil ?_
            refine qSeq rfl ?_
            refine hIfD rfl (fun c6 => ?_) (fun c6 => ?_)
            · -- c6T
              replace c6 : (j : Int) < (((ps.getD i []).length : Nat) : Int) := c6
              refine hSkip ?_
              refine qSeq rfl ?_
              refine hSeq ?_
              refine hBlk ?_
              refine hSeq ?_
              refine hReg (sq 0 (sl 1 (sq 2 (sq 3 (sl 4 (sq 5 (sq 6 (sl 7 (sl 8 (sq 9 sz)))))))))) (by kernel_rfl) ?_
              refine fld fl40_1 rfl rfl rfl ?_
              refine ldl Try.isAgg25 (cB 1 rfl rfl) trv rfl rfl rfl ?_
              refine mvI rfl rfl rfl ?_
              refine ixRl (zn := i) (ps.getD i []) el25 (Kn.drop (k := 3) kps) rfl rfl rfl rfl (by omega) (by omega) rfl (nth [] (by omega)) ?_
              intro be7 oe7 e7
              refine ldl Try.isAgg53 (Kn.fld e7 0 rfl) trv rfl rfl rfl ?_
              refine mvI rfl rfl rfl ?_
              refine ixIl (zn := j) el53 (Kn.drop (k := 3) ((Kn.imp kps fun _ h => h.kidM (nth [] (by omega))))) rfl rfl rfl rfl (by omega) (by omega) rfl ?_
              intro ae8 e8
              refine ldl Try.isAgg2 (e8) trv rfl rfl rfl ?_
              refine callP (v := .bool ((Math.inB (0 : Int) (60 : Int) (((ps.getD i []).getD j 0))))) Try.call51 trv rfl rfl (fun w hs => spec_l01In_c _ _ _ w ) ?_
              refine not rfl rfl rfl ?_
              refine rNil ?_
              refine qSeq rfl ?_
              refine hIfN rfl (fun c7 => ?_) (fun c7 => ?_)
              · -- c7T
                replace c7 : (Math.inB (0 : Int) (60 : Int) (((ps.getD i []).getD j 0))) = false := c7
                refine hSeq ?_
                refine hReg (sq 0 sz) (by kernel_rfl) ?_
                refine asB rfl rfl rfl ?_
                refine rNil ?_
                refine qSeq rfl ?_
                refine hRet ?_
                exact fun w hs => ⟨[.bool false], ⟨rfl, trivial⟩, ⟨bB (((Math.parts_no (i := i) (by omega) (Math.part_no2 (Math.all_no 0 (i := j) (by omega) c7)) : Math.partsB z (Math.sets z nws pl) ps = false)).symm.trans (Math.strat_in lws g1 (by omega)).symm), hs.upd⟩⟩
              · -- c7F
                replace c7 : (Math.inB (0 : Int) (60 : Int) (((ps.getD i []).getD j 0))) = true := c7
                refine hSkip ?_
                refine qSeq rfl ?_
                refine hReg (sq 0 (sq 1 (sq 2 sz))) (by kernel_rfl) ?_
                refine mvI rfl rfl rfl ?_
                refine add rfl rfl rfl rfl (by omega) ?_
                refine asI rfl rfl rfl ?_
                refine rNil ?_
                exact qNext rfl (j + 1) (by omega) ⟨by omega, Math.upto hin (by assumption)⟩ ⟨rfl, rfl, rfl, rfl, rfl, trivial⟩ (fun _ h => h.pick [0, 0, 0])
            · -- c6F
              replace c6 : ¬ ((j : Int) < (((ps.getD i []).length : Nat) : Int)) := c6
              have hb2 : (ps.getD i []).all (Math.inB 0 60) = true := (Math.all_getD 0).2 fun q hq => hin q (by omega)
              have hb := Math.all60 hb2
              refine hExit rfl ?_
              refine qSeq rfl ?_
              refine hSeq ?_
              refine hReg (sq 0 (sl 1 (sq 2 (sq 3 (sl 4 (sl 5 (sq 6 sz))))))) (by kernel_rfl) ?_
              refine fld fl40_1 rfl rfl rfl ?_
              refine ldl Try.isAgg25 (cB 1 rfl rfl) trv rfl rfl rfl ?_
              refine mvI rfl rfl rfl ?_
              refine ixRl (zn := i) (ps.getD i []) el25 (Kn.drop (k := 3) kps) rfl rfl rfl rfl (by omega) (by omega) rfl (nth [] (by omega)) ?_
              intro be9 oe9 e9
              refine ldl Try.isAgg53 (Kn.fld e9 0 rfl) trv rfl rfl rfl ?_
              refine callP (v := .int .i64 ((ps.getD i []).sum)) Try.call82 trv rfl rfl (fun w hs => spec_l01Sum_c _ ((ps.getD i []).length) ((Hps i).2) _ w (Kn.drop (k := 3) ((Kn.imp kps fun _ h => h.kidM (nth [] (by omega)))) w hs) (by assumption) (by omega)) ?_
              refine neq rfl rfl rfl rfl ?_
              refine rNil ?_
              refine qSeq rfl ?_
              refine hIfD rfl (fun c8 => ?_) (fun c8 => ?_)
              · -- c8T
                replace c8 : (ps.getD i []).sum ≠ 60 := c8
                refine hSeq ?_
                refine hReg (sq 0 sz) (by kernel_rfl) ?_
                refine asB rfl rfl rfl ?_
                refine rNil ?_
                refine qSeq rfl ?_
                refine hRet ?_
                exact fun w hs => ⟨[.bool false], ⟨rfl, trivial⟩, ⟨bB (((Math.parts_no (i := i) (by omega) (Math.part_no3 c8) : Math.partsB z (Math.sets z nws pl) ps = false)).symm.trans (Math.strat_in lws g1 (by omega)).symm), hs.upd⟩⟩
              · -- c8F
                replace c8 : ¬ ((ps.getD i []).sum ≠ 60) := c8
                refine hSkip ?_
                refine qSeq rfl ?_
                refine hReg (sq 0 (sq 1 (sq 2 sz))) (by kernel_rfl) ?_
                refine mvI rfl rfl rfl ?_
                refine add rfl rfl rfl rfl (by omega) ?_
                refine asI rfl rfl rfl ?_
                refine rNil ?_
                exact qNext rfl (i + 1) (by omega) ⟨by omega, Math.upto hal (Math.part_yes (by omega) hb2 (by omega))⟩ ⟨rfl, rfl, rfl, rfl, trivial⟩ (fun _ h => h.pick [0, 0, 0])
        · -- c4F
          replace c4 : ¬ ((i : Int) < (ny1 : Int)) := c4
          refine hExit rfl ?_
          refine qSeq rfl ?_
          refine hSeq ?_
          refine hReg (sq 0 sz) (by kernel_rfl) ?_
          refine asB rfl rfl rfl ?_
          refine rNil ?_
          refine qSeq rfl ?_
          refine hRet ?_
          exact fun w hs => ⟨[.bool true], ⟨rfl, trivial⟩, ⟨bB (((Math.parts_yes (by omega) (fun j hj => hal j (by omega)) : Math.partsB z (Math.sets z nws pl) ps = true)).symm.trans (Math.strat_in lws g1 (by omega)).symm), hs.upd⟩⟩

theorem impl_IsStrategy_c (az : Option Addr) (nz : Nat) (cz : Nat) (Hz : Nat → Hd) (z : List Nd) (aws : Option Addr) (nws : Nat) (cws : Nat) (Hws : Nat → Hd) (ws : List (List Int)) (avs : Option Addr) (nvs : Nat) (cvs : Nat) (Hvs : Nat → Hd) (vs : List (List Int)) (pl : Int) (aps : Option Addr) (nps : Nat) (cps : Nat) (Hps : Nat → Hd) (ps : List (List Int)) (w : World) (rz : RdR ndK az nz Hz z w) (rws : RdR maK aws nws Hws ws w) (rvs : RdR maK avs nvs Hvs vs w) (rps : RdR maK aps nps Hps ps w) :
    Calls Try.prog 53 #[.agg #[.slice az nz cz, .slice aws nws cws, .slice avs nvs cvs], .agg #[.int .i64 pl, .slice aps nps cps]] w (Ret fun v w' => v = .bool (Math.isStrat z ws vs pl ps) ∧ Ext w w') := by
  have kz : Kn w none_ [] (RdR ndK az nz Hz z) := fun w' hs => rz.ext hs.upd
  have lz : z.length = nz := rz.1
  have mz : nz ≤ 9223372036854775807 := rz.2.1
  have kws : Kn w none_ [] (RdR maK aws nws Hws ws) := fun w' hs => rws.ext hs.upd
  have lws : ws.length = nws := rws.1
  have mws : nws ≤ 9223372036854775807 := rws.2.1
  have kvs : Kn w none_ [] (RdR maK avs nvs Hvs vs) := fun w' hs => rvs.ext hs.upd
  have lvs : vs.length = nvs := rvs.1
  have mvs : nvs ≤ 9223372036854775807 := rvs.2.1
  have kps : Kn w none_ [] (RdR maK aps nps Hps ps) := fun w' hs => rps.ext hs.upd
  have lps : ps.length = nps := rps.1
  have mps : nps ≤ 9223372036854775807 := rps.2.1
  refine fn (M := none_) (rs := [.tmp 4]) Try.func53 rfl Try.ntmps53 rfl rfl (Sep.start _ _) ?_
  refine hSeq ?_
  refine hReg (sl 0 (sl 1 (sq 2 sz))) (by kernel_rfl) ?_
  refine box trv1 rfl rfl rfl rfl (fun bkb1 hbkb1 => ?_)
  refine box trv1 rfl rfl rfl rfl (fun bkb2 hbkb2 => ?_)
  refine asB rfl rfl rfl ?_
  refine rNil ?_
  refine qSeq rfl ?_
  refine hSeq ?_
  refine hSeq ?_
  refine hReg (sl 0 (sl 1 (sq 2 (sq 3 (sq 4 (sl 5 (sl 6 (sq 7 (sq 8 sz))))))))) (by kernel_rfl) ?_
  refine ldAl Try.isAgg38 Try.sizeOf38 (cBs 1 rfl) trv rfl rfl rfl rfl ?_
  refine callP (v := .bool (Math.isGame z ws vs)) Try.call72 trv rfl rfl (fun w hs => impl_IsGame_c _ nz cz _ _ _ nws cws _ _ _ nvs cvs _ _ w (Kn.drop (k := 2) kz w hs) (Kn.drop (k := 2) kws w hs) (Kn.drop (k := 2) kvs w hs)) ?_
  refine not rfl rfl rfl ?_
  refine mvB rfl rfl rfl ?_
  refine rBoolN (d := 8) rfl (fun g1 => ?_) (fun g1 => ?_)
  · -- g1T
    replace g1 : (Math.isGame z ws vs) = false := g1
    refine rSkipQ rfl rfl ?_
    refine rSkipL trv rfl rfl ?_
    refine rSkipL trv rfl rfl ?_
    refine rSkipQ rfl rfl ?_
    refine pickB rfl rfl rfl rfl ?_
    refine rNil ?_
    refine qSeq rfl ?_
    refine hIfT rfl ?_
    refine hSeq ?_
    refine hReg (sq 0 sz) (by kernel_rfl) ?_
    refine asB rfl rfl rfl ?_
    refine rNil ?_
    refine qSeq rfl ?_
    refine hRet ?_
    exact fun w hs => ⟨[.bool false], ⟨rfl, trivial⟩, ⟨bB (Math.strat_no1 g1).symm, hs.upd⟩⟩
  · -- g1F
    replace g1 : (Math.isGame z ws vs) = true := g1
    refine fld fl40_0 rfl rfl rfl ?_
    refine ldl Try.isAgg2 (cB 0 rfl rfl) trv rfl rfl rfl ?_
    refine callP (v := .bool ((Math.inB (0 : Int) (1 : Int) pl))) Try.call54 trv rfl rfl (fun w hs => impl_within_c _ _ _ w ) ?_
    refine not rfl rfl rfl ?_
    refine pickB rfl rfl rfl rfl ?_
    refine rNil ?_
    refine qSeq rfl ?_
    refine hIfN rfl (fun c2 => ?_) (fun c2 => ?_)
    · -- c2T
      replace c2 : (Math.inB (0 : Int) (1 : Int) pl) = false := c2
      replace c2 : ¬ (0 ≤ pl ∧ pl ≤ 1) := of_decide_eq_false c2
      refine hSeq ?_
      refine hReg (sq 0 sz) (by kernel_rfl) ?_
      refine asB rfl rfl rfl ?_
      refine rNil ?_
      refine qSeq rfl ?_
      refine hRet ?_
      exact fun w hs => ⟨[.bool false], ⟨rfl, trivial⟩, ⟨bB (Math.strat_no2 c2).symm, hs.upd⟩⟩
    · -- c2F
      replace c2 : (Math.inB (0 : Int) (1 : Int) pl) = true := c2
      have hpl := of_decide_eq_true (show decide (0 ≤ pl ∧ pl ≤ 1) = true from c2)
      refine hSkip ?_
      refine qSeq rfl ?_
      refine hSeq ?_
      refine hReg (sl 0 (sl 1 (sl 2 (sq 3 sz)))) (by kernel_rfl) ?_
      refine ldAl Try.isAgg38 Try.sizeOf38 (cBs 1 rfl) trv rfl rfl rfl rfl ?_
      refine ldAl Try.isAgg40 Try.sizeOf40 (cBs 0 rfl) trv rfl rfl rfl rfl ?_
      refine callP (v := .bool ((Math.partsB z (Math.sets z nws pl) ps))) Try.call73 trv rfl rfl (fun w hs => impl_isStrategy_c _ nz cz _ _ _ nws cws _ _ _ nvs cvs _ _ _ _ nps cps _ _ w (Kn.drop (k := 2) kz w hs) (Kn.drop (k := 2) kws w hs) (Kn.drop (k := 2) kvs w hs) (Kn.drop (k := 2) kps w hs) (by assumption)) ?_
      refine asB rfl rfl rfl ?_
      refine rNil ?_
      refine qSeq rfl ?_
      refine hRet ?_
      exact fun w hs => ⟨[.bool ((Math.partsB z (Math.sets z nws pl) ps))], ⟨rfl, trivial⟩, ⟨bB (Math.strat_in lws g1 hpl).symm, hs.upd⟩⟩

end Go.Proofs.Ytofkhnipfhcaiaa
