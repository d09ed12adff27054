/- Contracts of strategies. Their conditions stand in each. -/
import Derived.Test.YtgnfffdenbiipaaDoorZ5St
import Derived.Test.YtgnfffdenbiipaaDoorZ1St
import Derived.Test.YtgnfffdenbiipaaDoorZ2St
import Derived.Test.YtgnfffdenbiipaaDoorZ3St
import Derived.Test.YtgnfffdenbiipaaDoorZ4St
import Derived.Test.YtgnfffdenbiipaaDoorRows
import Derived.Laws.Concat
import Derived.Laws.Strings
import Derived.Laws.BytesArg
import Derived.Shelf.Strings.Builder1
import Derived.Shelf.Strings.Builder2
import Derived.Shelf.Strings.OnBuilder
import Derived.Shelf.Strings.BuilderF
import Derived.Shelf.Strings.BuilderK
import Derived.Shelf.Strings.Builder2Cap
import Derived.Shelf.Strconv.Itoa0
import Derived.Shelf.Strconv.Itoa1
import Derived.Shelf.LaysM
import Derived.Shelf.Strconv.Itoa2
import Derived.Shelf.Strconv.Itoa3
import Derived.Shelf.Strconv.Itoa4
import Derived.Shelf.Strings.BuilderCap
import Derived.Test.YtgnfffdenbiipaaDoorProg
import Derived.Lib.LaidTab
import Derived.WalkSmall
import Derived.Lib.OthersKept
import Derived.Lib.Join
namespace Go.Proofs.YtgnfffdenbiipaaDoor
open Go Go.RowKit V
set_option linter.unusedVariables false
set_option linter.unusedSimpArgs false
set_option maxRecDepth 100000
theorem impl_isStrategy_c (az : Option Addr) (nz : Nat) (cz : Nat) (Hz : Nat → Hd) (z : List Nd) (aws : Option Addr) (nws : Nat) (cws : Nat) (Hws : Nat → Hd) (ws : List (List Int)) (avs : Option Addr) (nvs : Nat) (cvs : Nat) (Hvs : Nat → Hd) (vs : List (List Int)) (pl : Int) (aps : Option Addr) (nps : Nat) (cps : Nat) (Hps : Nat → Hd) (ps : List (List Int)) (w : World) (rz : RdR ndK az nz Hz z w) (rws : RdR maK aws nws Hws ws w) (rvs : RdR maK avs nvs Hvs vs w) (rps : RdR maK aps nps Hps ps w) (hg : Math.isGame z ws vs = true) :
  Calls Tryd.prog 54 #[.agg #[.slice az nz cz, .slice aws nws cws, .slice avs nvs cvs], .agg #[.int .i64 pl, .slice aps nps cps]] w (Ret fun v w' => v = .bool ((Math.partsB z (Math.sets z nws pl) ps)) ∧ Ext w w') := by
 have kz : Kn w none_ [] (RdR ndK az nz Hz z) := fun w' hs => rz.ext hs.upd
 have lz : z.length = nz := rz.1
 have mz : nz ≤ 9223372036854775807 := rz.2.1
 have kws : Kn w none_ [] (RdR maK aws nws Hws ws) := fun w' hs => rws.ext hs.upd
 have lws : ws.length = nws := rws.1
 have mws : nws ≤ 9223372036854775807 := rws.2.1
 have kvs : Kn w none_ [] (RdR maK avs nvs Hvs vs) := fun w' hs => rvs.ext hs.upd
 have lvs : vs.length = nvs := rvs.1
 have mvs : nvs ≤ 9223372036854775807 := rvs.2.1
 have kps : Kn w none_ [] (RdR maK aps nps Hps ps) := fun w' hs => rps.ext hs.upd
 have lps : ps.length = nps := rps.1
 have mps : nps ≤ 9223372036854775807 := rps.2.1
 have hG := Math.isGame_ok hg
 rw [lws] at hG
 have hT := Math.isTree_ok hG.1
 have hvl := Math.mat_len hG.2.2.2.1
 have hsl := Math.sets_len (z := z) (p := pl) (show nws ≤ 6 by omega)
 refine fn (M := none_) (rs := [.tmp 4]) Tryd.func54 rfl Tryd.ntmps54 rfl rfl (Sep.start _ _) ?_
 refine hSeq ?_
 refine hReg (sl 0 (sl 1 (sq 2 sz))) (by kernel_rfl) ?_
 refine box trv1 rfl rfl rfl rfl (fun bkb1 hbkb1 => ?_)
 refine box trv1 rfl rfl rfl rfl (fun bkb2 hbkb2 => ?_)
 refine asB rfl rfl rfl ?_
 refine rNil ?_
 refine qSeq rfl ?_
 refine hSeq ?_
 refine hReg (sl 0 (sq 1 (sl 2 (sl 3 (sq 4 sz))))) (by kernel_rfl) ?_
 refine ldAl Tryd.isAgg43 Tryd.sizeOf43 (cBs 1 rfl) trv rfl rfl rfl rfl ?_
 refine fld fl45_0 rfl rfl rfl ?_
 refine ldl Tryd.isAgg2 (cB 0 rfl rfl) trv rfl rfl rfl ?_
 refine callS Tryd.call32 trv1 rfl rfl (fun w hs => impl_infoSets_c _ nz cz _ _ _ nws cws _ _ _ nvs cvs _ _ _ w (Kn.drop (k := 2) kz w hs) (Kn.drop (k := 2) kws w hs) (Kn.drop (k := 2) kvs w hs) (by omega) (by omega)) ?_
 rintro ⟨ay1, ny1, cy1, Hy1, y1⟩ hr1
 dsimp only at hr1
 subst y1
 refine rKnow (fun w hs => (show OwnR maK 59 2 ay1 ny1 cy1 Hy1 (Math.sets z nws pl) w from hs.at_ 0 rfl).1) (fun lenn3 => ?_)
 refine asS rfl rfl rfl ?_
 refine rNil ?_
 refine qSeq rfl ?_
 refine hSeq ?_
 refine hSeq ?_
 refine hReg (sq 0 (sl 1 (sq 2 (sq 3 (sq 4 (sq 5 sz)))))) (by kernel_rfl) ?_
 refine fld fl45_1 rfl rfl rfl ?_
 refine ldl Tryd.isAgg34 (cB 1 rfl rfl) trv rfl rfl rfl ?_
 refine lenS Tryd.runUnderlying34 rfl rfl rfl ?_
 refine mvS rfl rfl rfl ?_
 refine lenS Tryd.runUnderlying34 rfl rfl rfl ?_
 refine neq rfl rfl rfl rfl ?_
 refine rNil ?_
 refine qSeq rfl ?_
 refine hIfD rfl (fun c1 => ?_) (fun c1 => ?_)
 ·
  replace c1 : (nps : Int) ≠ (ny1 : Int) := c1
  refine hSeq ?_
  refine hReg (sq 0 sz) (by kernel_rfl) ?_
  refine asB rfl rfl rfl ?_
  refine rNil ?_
  refine qSeq rfl ?_
  refine hRet ?_
  exact fun w hs => ⟨[.bool false], ⟨rfl, trivial⟩, ⟨bB (Math.parts_no0 (by omega)).symm, hs.upd⟩⟩
 ·
  replace c1 : ¬ ((nps : Int) ≠ (ny1 : Int)) := c1
  refine hSkip ?_
  refine qSeq rfl ?_
  refine hSeq ?_
  refine hSeq ?_
  refine hReg (sq 0 (sq 1 (sq 2 sz))) (by kernel_rfl) ?_
  refine mvS rfl rfl rfl ?_
  refine lenS Tryd.runUnderlying34 rfl rfl rfl ?_
  refine mvI rfl rfl rfl ?_
  refine rNil ?_
  refine qSeq rfl ?_
  refine hBlk ?_
  refine hLoop (α := Nat) (fun i => i ≤ ny1 ∧ ∀ j, j < i → Math.partB z ((Math.sets z nws pl).getD j []) (ps.getD j []) = true) (fun i => ny1 - i) (fun i => [OwnR maK 59 2 ay1 ny1 cy1 Hy1 (Math.sets z nws pl), blk bkb2 45 [.int .i64 pl, .slice aps nps cps], blk bkb1 43 [.slice az nz cz, .slice aws nws cws, .slice avs nvs cvs]]) (fun i => [(2, .pointer (some ⟨bkb1, 0, none⟩)), (3, .pointer (some ⟨bkb2, 0, none⟩)), (19, .slice ay1 ny1 cy1), (20, .int .i64 (ny1 : Int)), (21, .int .i64 (i : Int))]) 0 ⟨Nat.zero_le _, fun j hj => by omega⟩ (fun _ h => h.pick [0, 0, 0]) ⟨rfl, rfl, rfl, rfl, rfl, trivial⟩ ?_
  rintro i τ1 ⟨hi, hal⟩
  refine hSeq ?_
  refine hReg (sq 0 sz) (by kernel_rfl) ?_
  refine lss rfl rfl rfl rfl ?_
  refine rNil ?_
  refine qSeq rfl ?_
  refine hSeq ?_
  refine hIfD rfl (fun c2 => ?_) (fun c2 => ?_)
  ·
   replace c2 : (i : Int) < (ny1 : Int) := c2
   have hsa := Math.sets_at (z := z) (k := nws) (p := pl) (i := i) (by omega)
   have hwd : Math.wide z ((Math.sets z nws pl).getD i []) ≤ 4 := Math.wide_le hg hsa.2.1
   have hwq : Math.wide z ((Math.sets z nws pl).getD i []) = (z.getD (((Math.sets z nws pl).getD i []).getD 0 0).toNat dN).ch.length := rfl
   refine hSkip ?_
   refine qSeq rfl ?_
   refine hSeq ?_
   refine hBlk ?_
   refine hSeq ?_
   refine hReg (sq 0 (sq 1 (sl 2 (sq 3 (sq 4 sz))))) (by kernel_rfl) ?_
   refine mvI rfl rfl rfl ?_
   refine ixRl (zn := i) ((Math.sets z nws pl).getD i []) el34 ((Kn.at_ 0 rfl).imp fun _ h => OwnR.rd h maK.ok) rfl rfl rfl rfl (by omega) (by omega) rfl (nth [] (by omega)) ?_
   intro be2 oe2 e2
   refine ldl Tryd.isAgg59 (Kn.fld e2 0 rfl) trv rfl rfl rfl ?_
   refine asI rfl rfl rfl ?_
   refine asS rfl rfl rfl ?_
   refine rNil ?_
   refine qSeq rfl ?_
   refine hSeq ?_
   refine hReg (sq 0 (sl 1 (sq 2 (sq 3 (sl 4 (sq 5 sz)))))) (by kernel_rfl) ?_
   refine fld fl45_1 rfl rfl rfl ?_
   refine ldl Tryd.isAgg34 (cB 1 rfl rfl) trv rfl rfl rfl ?_
   refine mvI rfl rfl rfl ?_
   refine ixRl (zn := i) (ps.getD i []) el34 (Kn.drop (k := 3) kps) rfl rfl rfl rfl (by omega) (by omega) rfl (nth [] (by omega)) ?_
   intro be3 oe3 e3
   refine ldl Tryd.isAgg59 (Kn.fld e3 0 rfl) trv rfl rfl rfl ?_
   refine asS rfl rfl rfl ?_
   refine rNil ?_
   refine qSeq rfl ?_
   refine hSeq ?_
   refine hDraw (Ls := [OwnR maK 59 2 ay1 ny1 cy1 Hy1 (Math.sets z nws pl), blk bkb2 45 [.int .i64 pl, .slice aps nps cps], blk bkb1 43 [.slice az nz cz, .slice aws nws cws, .slice avs nvs cvs]]) (by kernel_rfl) (sq 0 (sq 1 (sq 2 (sq 3 (sq 4 (sq 5 (sq 6 (sq 7 (sq 8 (sq 9 (sq 10 (sq 11 (sq 12 (sq 13 (sq 14 (sl 15 (sq 16 (sq 17 (sq 18 (sq 19 (sl 20 (sq 21 (sq 22 sz))))))))))))))))))))))) (by kernel_rfl) (.cons_cons _ (.cons_cons _ (.cons_cons _ .slnil))) ?_
   refine mvS rfl rfl rfl ?_
   refine lenS Tryd.runUnderlying59 rfl rfl rfl ?_
   refine fld fl43_0 rfl rfl rfl ?_
   refine fld fl30_0 rfl rfl rfl ?_
   refine ldq Tryd.isAgg28 (cB 2 rfl rfl) rfl rfl rfl ?_
   refine mvS rfl rfl rfl ?_
   refine ixIq (zn := 0) el59 ((Kn.imp ((Kn.at_ (φ := OwnR maK 59 2 ay1 ny1 cy1 Hy1 (Math.sets z nws pl)) 0 rfl).imp fun _ h => OwnR.rd h maK.ok) fun _ h => h.kidM (nth [] (by omega)))) (fun _ h => h.pick [0, 0, 0]) rfl rfl rfl rfl (by omega) (by omega) rfl ?_
   intro ae4 e4
   refine ldq Tryd.isAgg2 (e4) rfl rfl rfl ?_
   refine ixRq (zn := (((((Math.sets z nws pl).getD i [])).getD 0 0)).toNat) (z.getD ((((((Math.sets z nws pl).getD i [])).getD 0 0)).toNat) dN) el28 (Kn.drop (k := 3) kz) (fun _ h => h.pick [0, 0, 0]) rfl rfl rfl rfl (by omega) (by omega) rfl (nth dN (by omega)) ?_
   intro be5 oe5 e5
   refine fld fl78_4 rfl rfl rfl ?_
   refine ldq Tryd.isAgg59 (Kn.fld e5 4 rfl) rfl rfl rfl ?_
   refine lenS Tryd.runUnderlying59 rfl rfl rfl ?_
   refine neq rfl rfl rfl rfl ?_
   refine mvB rfl rfl rfl ?_
   refine rBoolD (d := 44) rfl (fun g3 => ?_) (fun g3 => ?_)
   ·
    replace g3 : (((ps.getD i []).length : Nat) : Int) ≠ ((((z.getD ((((((Math.sets z nws pl).getD i [])).getD 0 0)).toNat) dN).ch).length : Nat) : Int) := g3
    refine rSkipQ rfl rfl ?_
    refine rSkipL (fun _ h => h.pick [0, 0, 0]) rfl rfl ?_
    refine rSkipQ rfl rfl ?_
    refine pickB rfl rfl rfl rfl ?_
    refine mvB rfl rfl rfl ?_
    refine rSkipQ rfl rfl ?_
    refine rSkipL (fun _ h => h.pick [0, 0, 0]) rfl rfl ?_
    refine rSkipQ rfl rfl ?_
    refine pickB rfl rfl rfl rfl ?_
    refine rNil ?_
    refine qSeq rfl ?_
    refine hIfT rfl ?_
    refine hSeq ?_
    refine hReg (sq 0 sz) (by kernel_rfl) ?_
    refine asB rfl rfl rfl ?_
    refine rNil ?_
    refine qSeq rfl ?_
    refine hRet ?_
    exact fun w hs => ⟨[.bool false], ⟨rfl, trivial⟩, ⟨bB (Math.parts_no (i := i) (by omega) (Math.part_no1 g3)).symm, hs.upd⟩⟩
   ·
    replace g3 : ¬ ((((ps.getD i []).length : Nat) : Int) ≠ ((((z.getD ((((((Math.sets z nws pl).getD i [])).getD 0 0)).toNat) dN).ch).length : Nat) : Int)) := g3
    refine mvS rfl rfl rfl ?_
    refine callP (v := .bool (((ps.getD i []).all (Math.inB (0 : Int) (60 : Int))))) Tryd.call43 (fun _ h => h.pick [0, 0, 0]) rfl rfl (fun w hs => impl_allWithin_c _ ((ps.getD i []).length) ((Hps i).2) _ _ _ w (Kn.drop (k := 3) ((Kn.imp kps fun _ h => h.kidM (nth [] (by omega)))) w hs)) ?_
    refine not rfl rfl rfl ?_
    refine pickB rfl rfl rfl rfl ?_
    refine mvB rfl rfl rfl ?_
    refine rBoolN (d := 49) rfl (fun g4 => ?_) (fun g4 => ?_)
    ·
     replace g4 : ((ps.getD i []).all (Math.inB (0 : Int) (60 : Int))) = false := g4
     refine rSkipQ rfl rfl ?_
     refine rSkipL (fun _ h => h.pick [0, 0, 0]) rfl rfl ?_
     refine rSkipQ rfl rfl ?_
     refine pickB rfl rfl rfl rfl ?_
     refine rNil ?_
     refine qSeq rfl ?_
     refine hIfT rfl ?_
     refine hSeq ?_
     refine hReg (sq 0 sz) (by kernel_rfl) ?_
     refine asB rfl rfl rfl ?_
     refine rNil ?_
     refine qSeq rfl ?_
     refine hRet ?_
     exact fun w hs => ⟨[.bool false], ⟨rfl, trivial⟩, ⟨bB (Math.parts_no (i := i) (by omega) (Math.part_no2 g4)).symm, hs.upd⟩⟩
    ·
     replace g4 : ((ps.getD i []).all (Math.inB (0 : Int) (60 : Int))) = true := g4
     have hb := Math.all60 g4
     refine mvS rfl rfl rfl ?_
     refine callP (v := .int .i64 ((ps.getD i []).sum)) Tryd.call64 (fun _ h => h.pick [0, 0, 0]) rfl rfl (fun w hs => impl_sumOf_c _ ((ps.getD i []).length) ((Hps i).2) _ w (Kn.drop (k := 3) ((Kn.imp kps fun _ h => h.kidM (nth [] (by omega)))) w hs) (by assumption) (by omega)) ?_
     refine neq rfl rfl rfl rfl ?_
     refine pickB rfl rfl rfl rfl ?_
     refine rNil ?_
     refine qSeq rfl ?_
     refine hIfD rfl (fun c5 => ?_) (fun c5 => ?_)
     ·
      replace c5 : (ps.getD i []).sum ≠ 60 := c5
      refine hSeq ?_
      refine hReg (sq 0 sz) (by kernel_rfl) ?_
      refine asB rfl rfl rfl ?_
      refine rNil ?_
      refine qSeq rfl ?_
      refine hRet ?_
      exact fun w hs => ⟨[.bool false], ⟨rfl, trivial⟩, ⟨bB (Math.parts_no (i := i) (by omega) (Math.part_no3 c5)).symm, hs.upd⟩⟩
     ·
      replace c5 : ¬ ((ps.getD i []).sum ≠ 60) := c5
      refine hSkip ?_
      refine qSeq rfl ?_
      refine hReg (sq 0 (sq 1 sz)) (by kernel_rfl) ?_
      refine add rfl rfl rfl rfl (by omega) ?_
      refine mvI rfl rfl rfl ?_
      refine rNil ?_
      exact qNext rfl (i + 1) (by omega) ⟨by omega, Math.upto hal (Math.part_yes (by omega) (by assumption) (by omega))⟩ ⟨rfl, rfl, rfl, rfl, rfl, trivial⟩ (fun _ h => h.pick [0, 0, 0])
  ·
   replace c2 : ¬ ((i : Int) < (ny1 : Int)) := c2
   refine hExit rfl ?_
   refine qSeq rfl ?_
   refine hSeq ?_
   refine hReg (sq 0 sz) (by kernel_rfl) ?_
   refine asB rfl rfl rfl ?_
   refine rNil ?_
   refine qSeq rfl ?_
   refine hRet ?_
   exact fun w hs => ⟨[.bool true], ⟨rfl, trivial⟩, ⟨bB (Math.parts_yes (by omega) fun j hj => hal j (by omega)).symm, hs.upd⟩⟩
theorem spec_IsStrategy_c (az : Option Addr) (nz : Nat) (cz : Nat) (Hz : Nat → Hd) (z : List Nd) (aws : Option Addr) (nws : Nat) (cws : Nat) (Hws : Nat → Hd) (ws : List (List Int)) (avs : Option Addr) (nvs : Nat) (cvs : Nat) (Hvs : Nat → Hd) (vs : List (List Int)) (pl : Int) (aps : Option Addr) (nps : Nat) (cps : Nat) (Hps : Nat → Hd) (ps : List (List Int)) (w : World) (rz : RdR ndK az nz Hz z w) (rws : RdR maK aws nws Hws ws w) (rvs : RdR maK avs nvs Hvs vs w) (rps : RdR maK aps nps Hps ps w) :
  Calls Tryd.prog 26 #[.agg #[.slice az nz cz, .slice aws nws cws, .slice avs nvs cvs], .agg #[.int .i64 pl, .slice aps nps cps]] w (Ret fun v w' => v = .bool (Math.isStrat z ws vs pl ps) ∧ Ext w w') := by
 have kz : Kn w none_ [] (RdR ndK az nz Hz z) := fun w' hs => rz.ext hs.upd
 have lz : z.length = nz := rz.1
 have mz : nz ≤ 9223372036854775807 := rz.2.1
 have kws : Kn w none_ [] (RdR maK aws nws Hws ws) := fun w' hs => rws.ext hs.upd
 have lws : ws.length = nws := rws.1
 have mws : nws ≤ 9223372036854775807 := rws.2.1
 have kvs : Kn w none_ [] (RdR maK avs nvs Hvs vs) := fun w' hs => rvs.ext hs.upd
 have lvs : vs.length = nvs := rvs.1
 have mvs : nvs ≤ 9223372036854775807 := rvs.2.1
 have kps : Kn w none_ [] (RdR maK aps nps Hps ps) := fun w' hs => rps.ext hs.upd
 have lps : ps.length = nps := rps.1
 have mps : nps ≤ 9223372036854775807 := rps.2.1
 refine fn (M := none_) (rs := [.tmp 4]) Tryd.func26 rfl Tryd.ntmps26 rfl rfl (Sep.start _ _) ?_
 refine hSeq ?_
 refine hReg (sl 0 (sl 1 (sq 2 sz))) (by kernel_rfl) ?_
 refine box trv1 rfl rfl rfl rfl (fun bkb1 hbkb1 => ?_)
 refine box trv1 rfl rfl rfl rfl (fun bkb2 hbkb2 => ?_)
 refine asB rfl rfl rfl ?_
 refine rNil ?_
 refine qSeq rfl ?_
 refine hSeq ?_
 refine hSeq ?_
 refine hReg (sl 0 (sl 1 (sq 2 (sq 3 (sq 4 (sl 5 (sl 6 (sq 7 (sq 8 sz))))))))) (by kernel_rfl) ?_
 refine ldAl Tryd.isAgg43 Tryd.sizeOf43 (cBs 1 rfl) trv rfl rfl rfl rfl ?_
 refine callP (v := .bool (Math.isGame z ws vs)) Tryd.call49 trv rfl rfl (fun w hs => spec_IsGame_c _ nz cz _ _ _ nws cws _ _ _ nvs cvs _ _ w (Kn.drop (k := 2) kz w hs) (Kn.drop (k := 2) kws w hs) (Kn.drop (k := 2) kvs w hs)) ?_
 refine not rfl rfl rfl ?_
 refine mvB rfl rfl rfl ?_
 refine rBoolN (d := 11) rfl (fun g1 => ?_) (fun g1 => ?_)
 ·
  replace g1 : (Math.isGame z ws vs) = false := g1
  refine rSkipQ rfl rfl ?_
  refine rSkipL trv rfl rfl ?_
  refine rSkipL trv rfl rfl ?_
  refine rSkipQ rfl rfl ?_
  refine pickB rfl rfl rfl rfl ?_
  refine rNil ?_
  refine qSeq rfl ?_
  refine hIfT rfl ?_
  refine hSeq ?_
  refine hReg (sq 0 sz) (by kernel_rfl) ?_
  refine asB rfl rfl rfl ?_
  refine rNil ?_
  refine qSeq rfl ?_
  refine hRet ?_
  exact fun w hs => ⟨[.bool false], ⟨rfl, trivial⟩, ⟨bB (Math.strat_no1 g1).symm, hs.upd⟩⟩
 ·
  replace g1 : (Math.isGame z ws vs) = true := g1
  refine fld fl45_0 rfl rfl rfl ?_
  refine ldl Tryd.isAgg2 (cB 0 rfl rfl) trv rfl rfl rfl ?_
  refine callP (v := .bool ((Math.inB (0 : Int) (1 : Int) pl))) Tryd.call38 trv rfl rfl (fun w hs => spec_l01In_c _ _ _ w ) ?_
  refine not rfl rfl rfl ?_
  refine pickB rfl rfl rfl rfl ?_
  refine rNil ?_
  refine qSeq rfl ?_
  refine hIfN rfl (fun c2 => ?_) (fun c2 => ?_)
  ·
   replace c2 : (Math.inB (0 : Int) (1 : Int) pl) = false := c2
   replace c2 : ¬ (0 ≤ pl ∧ pl ≤ 1) := of_decide_eq_false c2
   refine hSeq ?_
   refine hReg (sq 0 sz) (by kernel_rfl) ?_
   refine asB rfl rfl rfl ?_
   refine rNil ?_
   refine qSeq rfl ?_
   refine hRet ?_
   exact fun w hs => ⟨[.bool false], ⟨rfl, trivial⟩, ⟨bB (Math.strat_no2 c2).symm, hs.upd⟩⟩
  ·
   replace c2 : (Math.inB (0 : Int) (1 : Int) pl) = true := c2
   have hpl := of_decide_eq_true (show decide (0 ≤ pl ∧ pl ≤ 1) = true from c2)
   have hG := Math.isGame_ok g1
   rw [lws] at hG
   have hT := Math.isTree_ok hG.1
   have hvl := Math.mat_len hG.2.2.2.1
   have hsl := Math.sets_len (z := z) (p := pl) (show nws ≤ 6 by omega)
   refine hSkip ?_
   refine qSeq rfl ?_
   refine hSeq ?_
   refine hReg (sl 0 (sq 1 (sl 2 (sl 3 (sq 4 sz))))) (by kernel_rfl) ?_
   refine ldAl Tryd.isAgg43 Tryd.sizeOf43 (cBs 1 rfl) trv rfl rfl rfl rfl ?_
   refine fld fl45_0 rfl rfl rfl ?_
   refine ldl Tryd.isAgg2 (cB 0 rfl rfl) trv rfl rfl rfl ?_
   refine callS Tryd.call27 trv1 rfl rfl (fun w hs => spec_l21Sets_c _ nz cz _ _ _ nws cws _ _ _ nvs cvs _ _ _ w (Kn.drop (k := 2) kz w hs) (Kn.drop (k := 2) kws w hs) (Kn.drop (k := 2) kvs w hs) (by omega) (by omega)) ?_
   rintro ⟨ay1, ny1, cy1, Hy1, y1⟩ hr1
   dsimp only at hr1
   subst y1
   refine rKnow (fun w hs => (show OwnR maK 59 2 ay1 ny1 cy1 Hy1 (Math.sets z nws pl) w from hs.at_ 0 rfl).1) (fun lenn3 => ?_)
   refine asS rfl rfl rfl ?_
   refine rNil ?_
   refine qSeq rfl ?_
   refine hSeq ?_
   refine hSeq ?_
   refine hReg (sq 0 (sl 1 (sq 2 (sq 3 (sq 4 (sq 5 sz)))))) (by kernel_rfl) ?_
   refine fld fl45_1 rfl rfl rfl ?_
   refine ldl Tryd.isAgg34 (cB 1 rfl rfl) trv rfl rfl rfl ?_
   refine lenS Tryd.runUnderlying34 rfl rfl rfl ?_
   refine mvS rfl rfl rfl ?_
   refine lenS Tryd.runUnderlying34 rfl rfl rfl ?_
   refine neq rfl rfl rfl rfl ?_
   refine rNil ?_
   refine qSeq rfl ?_
   refine hIfD rfl (fun c3 => ?_) (fun c3 => ?_)
   ·
    replace c3 : (nps : Int) ≠ (ny1 : Int) := c3
    refine hSeq ?_
    refine hReg (sq 0 sz) (by kernel_rfl) ?_
    refine asB rfl rfl rfl ?_
    refine rNil ?_
    refine qSeq rfl ?_
    refine hRet ?_
    exact fun w hs => ⟨[.bool false], ⟨rfl, trivial⟩, ⟨bB (((Math.parts_no0 (by omega) : Math.partsB z (Math.sets z nws pl) ps = false)).symm.trans (Math.strat_in lws g1 (by omega)).symm), hs.upd⟩⟩
   ·
    replace c3 : ¬ ((nps : Int) ≠ (ny1 : Int)) := c3
    refine hSkip ?_
    refine qSeq rfl ?_
    refine hSeq ?_
    refine hSeq ?_
    refine hReg (sq 0 sz) (by kernel_rfl) ?_
    refine asI rfl rfl rfl ?_
    refine rNil ?_
    refine qSeq rfl ?_
    refine hBlk ?_
    refine hLoop (α := Nat) (fun i => i ≤ ny1 ∧ ∀ j, j < i → Math.partB z ((Math.sets z nws pl).getD j []) (ps.getD j []) = true) (fun i => ny1 - i) (fun i => [OwnR maK 59 2 ay1 ny1 cy1 Hy1 (Math.sets z nws pl), blk bkb2 45 [.int .i64 pl, .slice aps nps cps], blk bkb1 43 [.slice az nz cz, .slice aws nws cws, .slice avs nvs cvs]]) (fun i => [(2, .pointer (some ⟨bkb1, 0, none⟩)), (3, .pointer (some ⟨bkb2, 0, none⟩)), (5, .slice ay1 ny1 cy1), (6, .int .i64 (i : Int))]) 0 ⟨Nat.zero_le _, fun j hj => by omega⟩ (fun _ h => h.pick [0, 0, 0]) ⟨rfl, rfl, rfl, rfl, trivial⟩ ?_
    rintro i τ1 ⟨hi, hal⟩
    refine hSeq ?_
    refine hSeq ?_
    refine hReg (sq 0 (sq 1 (sq 2 (sq 3 sz)))) (by kernel_rfl) ?_
    refine mvI rfl rfl rfl ?_
    refine mvS rfl rfl rfl ?_
    refine lenS Tryd.runUnderlying34 rfl rfl rfl ?_
    refine lss rfl rfl rfl rfl ?_
    refine rNil ?_
    refine qSeq rfl ?_
    refine hIfD rfl (fun c4 => ?_) (fun c4 => ?_)
    ·
     replace c4 : (i : Int) < (ny1 : Int) := c4
     have hsa := Math.sets_at (z := z) (k := nws) (p := pl) (i := i) (by omega)
     have hwd : Math.wide z ((Math.sets z nws pl).getD i []) ≤ 4 := Math.wide_le g1 hsa.2.1
     have hwq : Math.wide z ((Math.sets z nws pl).getD i []) = (z.getD (((Math.sets z nws pl).getD i []).getD 0 0).toNat dN).ch.length := rfl
     refine hSkip ?_
     refine qSeq rfl ?_
     refine hSeq ?_
     refine hBlk ?_
     refine hSeq ?_
     refine hSeq ?_
     refine hDraw (Ls := [OwnR maK 59 2 ay1 ny1 cy1 Hy1 (Math.sets z nws pl), blk bkb2 45 [.int .i64 pl, .slice aps nps cps], blk bkb1 43 [.slice az nz cz, .slice aws nws cws, .slice avs nvs cvs]]) (by kernel_rfl) (sq 0 (sq 1 (sq 2 (sq 3 (sq 4 (sq 5 (sq 6 (sq 7 (sq 8 (sq 9 (sq 10 (sq 11 (sq 12 (sq 13 (sq 14 (sq 15 (sq 16 (sq 17 (sq 18 (sq 19 sz)))))))))))))))))))) (by kernel_rfl) (.cons_cons _ (.cons_cons _ (.cons_cons _ .slnil))) ?_
     refine fld fl45_1 rfl rfl rfl ?_
     refine ldq Tryd.isAgg34 (cB 1 rfl rfl) rfl rfl rfl ?_
     refine mvI rfl rfl rfl ?_
     refine ixRq (zn := i) (ps.getD i []) el34 (Kn.drop (k := 3) kps) (fun _ h => h.pick [0, 0, 0]) rfl rfl rfl rfl (by omega) (by omega) rfl (nth [] (by omega)) ?_
     intro be2 oe2 e2
     refine ldq Tryd.isAgg59 (Kn.fld e2 0 rfl) rfl rfl rfl ?_
     refine lenS Tryd.runUnderlying59 rfl rfl rfl ?_
     refine fld fl43_0 rfl rfl rfl ?_
     refine fld fl30_0 rfl rfl rfl ?_
     refine ldq Tryd.isAgg28 (cB 2 rfl rfl) rfl rfl rfl ?_
     refine mvS rfl rfl rfl ?_
     refine mvI rfl rfl rfl ?_
     refine ixRq (zn := i) ((Math.sets z nws pl).getD i []) el34 ((Kn.at_ 0 rfl).imp fun _ h => OwnR.rd h maK.ok) (fun _ h => h.pick [0, 0, 0]) rfl rfl rfl rfl (by omega) (by omega) rfl (nth [] (by omega)) ?_
     intro be3 oe3 e3
     refine ldq Tryd.isAgg59 (Kn.fld e3 0 rfl) rfl rfl rfl ?_
     refine ixIq (zn := 0) el59 ((Kn.imp ((Kn.at_ (φ := OwnR maK 59 2 ay1 ny1 cy1 Hy1 (Math.sets z nws pl)) 0 rfl).imp fun _ h => OwnR.rd h maK.ok) fun _ h => h.kidM (nth [] (by omega)))) (fun _ h => h.pick [0, 0, 0]) rfl rfl rfl rfl (by omega) (by omega) rfl ?_
     intro ae4 e4
     refine ldq Tryd.isAgg2 (e4) rfl rfl rfl ?_
     refine ixRq (zn := (((((Math.sets z nws pl).getD i [])).getD 0 0)).toNat) (z.getD ((((((Math.sets z nws pl).getD i [])).getD 0 0)).toNat) dN) el28 (Kn.drop (k := 3) kz) (fun _ h => h.pick [0, 0, 0]) rfl rfl rfl rfl (by omega) (by omega) rfl (nth dN (by omega)) ?_
     intro be5 oe5 e5
     refine fld fl78_4 rfl rfl rfl ?_
     refine ldq Tryd.isAgg59 (Kn.fld e5 4 rfl) rfl rfl rfl ?_
     refine lenS Tryd.runUnderlying59 rfl rfl rfl ?_
     refine neq rfl rfl rfl rfl ?_
     refine rNil ?_
     refine qSeq rfl ?_
     refine hIfD rfl (fun c5 => ?_) (fun c5 => ?_)
     ·
      replace c5 : (((ps.getD i []).length : Nat) : Int) ≠ ((((z.getD ((((((Math.sets z nws pl).getD i [])).getD 0 0)).toNat) dN).ch).length : Nat) : Int) := c5
      refine hSeq ?_
      refine hReg (sq 0 sz) (by kernel_rfl) ?_
      refine asB rfl rfl rfl ?_
      refine rNil ?_
      refine qSeq rfl ?_
      refine hRet ?_
      exact fun w hs => ⟨[.bool false], ⟨rfl, trivial⟩, ⟨bB (((Math.parts_no (i := i) (by omega) (Math.part_no1 c5) : Math.partsB z (Math.sets z nws pl) ps = false)).symm.trans (Math.strat_in lws g1 (by omega)).symm), hs.upd⟩⟩
     ·
      replace c5 : ¬ ((((ps.getD i []).length : Nat) : Int) ≠ ((((z.getD ((((((Math.sets z nws pl).getD i [])).getD 0 0)).toNat) dN).ch).length : Nat) : Int)) := c5
      refine hSkip ?_
      refine qSeq rfl ?_
      refine hSeq ?_
      refine hSeq ?_
      refine hReg (sq 0 sz) (by kernel_rfl) ?_
      refine asI rfl rfl rfl ?_
      refine rNil ?_
      refine qSeq rfl ?_
      refine hBlk ?_
      refine hLoop (α := Nat) (fun j => j ≤ (ps.getD i []).length ∧ ∀ q, q < j → Math.inB 0 60 ((ps.getD i []).getD q 0) = true) (fun j => (ps.getD i []).length - j) (fun j => [OwnR maK 59 2 ay1 ny1 cy1 Hy1 (Math.sets z nws pl), blk bkb2 45 [.int .i64 pl, .slice aps nps cps], blk bkb1 43 [.slice az nz cz, .slice aws nws cws, .slice avs nvs cvs]]) (fun j => [(2, .pointer (some ⟨bkb1, 0, none⟩)), (3, .pointer (some ⟨bkb2, 0, none⟩)), (5, .slice ay1 ny1 cy1), (6, .int .i64 (i : Int)), (7, .int .i64 (j : Int))]) 0 ⟨Nat.zero_le _, fun q hq => by omega⟩ (fun _ h => h.pick [0, 0, 0]) ⟨rfl, rfl, rfl, rfl, rfl, trivial⟩ ?_
      rintro j τ2 ⟨hj, hin⟩
      refine hSeq ?_
      refine hSeq ?_
      refine hReg (sq 0 (sq 1 (sl 2 (sq 3 (sq 4 (sl 5 (sq 6 (sq 7 sz)))))))) (by kernel_rfl) ?_
      refine mvI rfl rfl rfl ?_
      refine fld fl45_1 rfl rfl rfl ?_
      refine ldl Tryd.isAgg34 (cB 1 rfl rfl) trv rfl rfl rfl ?_
      refine mvI rfl rfl rfl ?_
      refine ixRl (zn := i) (ps.getD i []) el34 (Kn.drop (k := 3) kps) rfl rfl rfl rfl (by omega) (by omega) rfl (nth [] (by omega)) ?_
      intro be6 oe6 e6
      refine ldl Tryd.isAgg59 (Kn.fld e6 0 rfl) trv rfl rfl rfl ?_
      refine lenS Tryd.runUnderlying59 rfl rfl rfl ?_
      refine lss rfl rfl rfl rfl ?_
      refine rNil ?_
      refine qSeq rfl ?_
      refine hIfD rfl (fun c6 => ?_) (fun c6 => ?_)
      ·
       replace c6 : (j : Int) < (((ps.getD i []).length : Nat) : Int) := c6
       refine hSkip ?_
       refine qSeq rfl ?_
       refine hSeq ?_
       refine hBlk ?_
       refine hSeq ?_
       refine hReg (sq 0 (sl 1 (sq 2 (sq 3 (sl 4 (sq 5 (sq 6 (sl 7 (sl 8 (sq 9 sz)))))))))) (by kernel_rfl) ?_
       refine fld fl45_1 rfl rfl rfl ?_
       refine ldl Tryd.isAgg34 (cB 1 rfl rfl) trv rfl rfl rfl ?_
       refine mvI rfl rfl rfl ?_
       refine ixRl (zn := i) (ps.getD i []) el34 (Kn.drop (k := 3) kps) rfl rfl rfl rfl (by omega) (by omega) rfl (nth [] (by omega)) ?_
       intro be7 oe7 e7
       refine ldl Tryd.isAgg59 (Kn.fld e7 0 rfl) trv rfl rfl rfl ?_
       refine mvI rfl rfl rfl ?_
       refine ixIl (zn := j) el59 (Kn.drop (k := 3) ((Kn.imp kps fun _ h => h.kidM (nth [] (by omega))))) rfl rfl rfl rfl (by omega) (by omega) rfl ?_
       intro ae8 e8
       refine ldl Tryd.isAgg2 (e8) trv rfl rfl rfl ?_
       refine callP (v := .bool ((Math.inB (0 : Int) (60 : Int) (((ps.getD i []).getD j 0))))) Tryd.call38 trv rfl rfl (fun w hs => spec_l01In_c _ _ _ w ) ?_
       refine not rfl rfl rfl ?_
       refine rNil ?_
       refine qSeq rfl ?_
       refine hIfN rfl (fun c7 => ?_) (fun c7 => ?_)
       ·
        replace c7 : (Math.inB (0 : Int) (60 : Int) (((ps.getD i []).getD j 0))) = false := c7
        refine hSeq ?_
        refine hReg (sq 0 sz) (by kernel_rfl) ?_
        refine asB rfl rfl rfl ?_
        refine rNil ?_
        refine qSeq rfl ?_
        refine hRet ?_
        exact fun w hs => ⟨[.bool false], ⟨rfl, trivial⟩, ⟨bB (((Math.parts_no (i := i) (by omega) (Math.part_no2 (Math.all_no 0 (i := j) (by omega) c7)) : Math.partsB z (Math.sets z nws pl) ps = false)).symm.trans (Math.strat_in lws g1 (by omega)).symm), hs.upd⟩⟩
       ·
        replace c7 : (Math.inB (0 : Int) (60 : Int) (((ps.getD i []).getD j 0))) = true := c7
        refine hSkip ?_
        refine qSeq rfl ?_
        refine hReg (sq 0 (sq 1 (sq 2 sz))) (by kernel_rfl) ?_
        refine mvI rfl rfl rfl ?_
        refine add rfl rfl rfl rfl (by omega) ?_
        refine asI rfl rfl rfl ?_
        refine rNil ?_
        exact qNext rfl (j + 1) (by omega) ⟨by omega, Math.upto hin (by assumption)⟩ ⟨rfl, rfl, rfl, rfl, rfl, trivial⟩ (fun _ h => h.pick [0, 0, 0])
      ·
       replace c6 : ¬ ((j : Int) < (((ps.getD i []).length : Nat) : Int)) := c6
       have hb2 : (ps.getD i []).all (Math.inB 0 60) = true := (Math.all_getD 0).2 fun q hq => hin q (by omega)
       have hb := Math.all60 hb2
       refine hExit rfl ?_
       refine qSeq rfl ?_
       refine hSeq ?_
       refine hReg (sq 0 (sl 1 (sq 2 (sq 3 (sl 4 (sl 5 (sq 6 sz))))))) (by kernel_rfl) ?_
       refine fld fl45_1 rfl rfl rfl ?_
       refine ldl Tryd.isAgg34 (cB 1 rfl rfl) trv rfl rfl rfl ?_
       refine mvI rfl rfl rfl ?_
       refine ixRl (zn := i) (ps.getD i []) el34 (Kn.drop (k := 3) kps) rfl rfl rfl rfl (by omega) (by omega) rfl (nth [] (by omega)) ?_
       intro be9 oe9 e9
       refine ldl Tryd.isAgg59 (Kn.fld e9 0 rfl) trv rfl rfl rfl ?_
       refine callP (v := .int .i64 ((ps.getD i []).sum)) Tryd.call50 trv rfl rfl (fun w hs => spec_l01Sum_c _ ((ps.getD i []).length) ((Hps i).2) _ w (Kn.drop (k := 3) ((Kn.imp kps fun _ h => h.kidM (nth [] (by omega)))) w hs) (by assumption) (by omega)) ?_
       refine neq rfl rfl rfl rfl ?_
       refine rNil ?_
       refine qSeq rfl ?_
       refine hIfD rfl (fun c8 => ?_) (fun c8 => ?_)
       ·
        replace c8 : (ps.getD i []).sum ≠ 60 := c8
        refine hSeq ?_
        refine hReg (sq 0 sz) (by kernel_rfl) ?_
        refine asB rfl rfl rfl ?_
        refine rNil ?_
        refine qSeq rfl ?_
        refine hRet ?_
        exact fun w hs => ⟨[.bool false], ⟨rfl, trivial⟩, ⟨bB (((Math.parts_no (i := i) (by omega) (Math.part_no3 c8) : Math.partsB z (Math.sets z nws pl) ps = false)).symm.trans (Math.strat_in lws g1 (by omega)).symm), hs.upd⟩⟩
       ·
        replace c8 : ¬ ((ps.getD i []).sum ≠ 60) := c8
        refine hSkip ?_
        refine qSeq rfl ?_
        refine hReg (sq 0 (sq 1 (sq 2 sz))) (by kernel_rfl) ?_
        refine mvI rfl rfl rfl ?_
        refine add rfl rfl rfl rfl (by omega) ?_
        refine asI rfl rfl rfl ?_
        refine rNil ?_
        exact qNext rfl (i + 1) (by omega) ⟨by omega, Math.upto hal (Math.part_yes (by omega) hb2 (by omega))⟩ ⟨rfl, rfl, rfl, rfl, trivial⟩ (fun _ h => h.pick [0, 0, 0])
    ·
     replace c4 : ¬ ((i : Int) < (ny1 : Int)) := c4
     refine hExit rfl ?_
     refine qSeq rfl ?_
     refine hSeq ?_
     refine hReg (sq 0 sz) (by kernel_rfl) ?_
     refine asB rfl rfl rfl ?_
     refine rNil ?_
     refine qSeq rfl ?_
     refine hRet ?_
     exact fun w hs => ⟨[.bool true], ⟨rfl, trivial⟩, ⟨bB (((Math.parts_yes (by omega) (fun j hj => hal j (by omega)) : Math.partsB z (Math.sets z nws pl) ps = true)).symm.trans (Math.strat_in lws g1 (by omega)).symm), hs.upd⟩⟩
theorem impl_IsStrategy_c (az : Option Addr) (nz : Nat) (cz : Nat) (Hz : Nat → Hd) (z : List Nd) (aws : Option Addr) (nws : Nat) (cws : Nat) (Hws : Nat → Hd) (ws : List (List Int)) (avs : Option Addr) (nvs : Nat) (cvs : Nat) (Hvs : Nat → Hd) (vs : List (List Int)) (pl : Int) (aps : Option Addr) (nps : Nat) (cps : Nat) (Hps : Nat → Hd) (ps : List (List Int)) (w : World) (rz : RdR ndK az nz Hz z w) (rws : RdR maK aws nws Hws ws w) (rvs : RdR maK avs nvs Hvs vs w) (rps : RdR maK aps nps Hps ps w) :
  Calls Tryd.prog 31 #[.agg #[.slice az nz cz, .slice aws nws cws, .slice avs nvs cvs], .agg #[.int .i64 pl, .slice aps nps cps]] w (Ret fun v w' => v = .bool (Math.isStrat z ws vs pl ps) ∧ Ext w w') := by
 have kz : Kn w none_ [] (RdR ndK az nz Hz z) := fun w' hs => rz.ext hs.upd
 have lz : z.length = nz := rz.1
 have mz : nz ≤ 9223372036854775807 := rz.2.1
 have kws : Kn w none_ [] (RdR maK aws nws Hws ws) := fun w' hs => rws.ext hs.upd
 have lws : ws.length = nws := rws.1
 have mws : nws ≤ 9223372036854775807 := rws.2.1
 have kvs : Kn w none_ [] (RdR maK avs nvs Hvs vs) := fun w' hs => rvs.ext hs.upd
 have lvs : vs.length = nvs := rvs.1
 have mvs : nvs ≤ 9223372036854775807 := rvs.2.1
 have kps : Kn w none_ [] (RdR maK aps nps Hps ps) := fun w' hs => rps.ext hs.upd
 have lps : ps.length = nps := rps.1
 have mps : nps ≤ 9223372036854775807 := rps.2.1
 refine fn (M := none_) (rs := [.tmp 4]) Tryd.func31 rfl Tryd.ntmps31 rfl rfl (Sep.start _ _) ?_
 refine hSeq ?_
 refine hReg (sl 0 (sl 1 (sq 2 sz))) (by kernel_rfl) ?_
 refine box trv1 rfl rfl rfl rfl (fun bkb1 hbkb1 => ?_)
 refine box trv1 rfl rfl rfl rfl (fun bkb2 hbkb2 => ?_)
 refine asB rfl rfl rfl ?_
 refine rNil ?_
 refine qSeq rfl ?_
 refine hSeq ?_
 refine hSeq ?_
 refine hReg (sl 0 (sl 1 (sq 2 (sq 3 (sq 4 (sl 5 (sl 6 (sq 7 (sq 8 sz))))))))) (by kernel_rfl) ?_
 refine ldAl Tryd.isAgg43 Tryd.sizeOf43 (cBs 1 rfl) trv rfl rfl rfl rfl ?_
 refine callP (v := .bool (Math.isGame z ws vs)) Tryd.call53 trv rfl rfl (fun w hs => impl_IsGame_c _ nz cz _ _ _ nws cws _ _ _ nvs cvs _ _ w (Kn.drop (k := 2) kz w hs) (Kn.drop (k := 2) kws w hs) (Kn.drop (k := 2) kvs w hs)) ?_
 refine not rfl rfl rfl ?_
 refine mvB rfl rfl rfl ?_
 refine rBoolN (d := 8) rfl (fun g1 => ?_) (fun g1 => ?_)
 ·
  replace g1 : (Math.isGame z ws vs) = false := g1
  refine rSkipQ rfl rfl ?_
  refine rSkipL trv rfl rfl ?_
  refine rSkipL trv rfl rfl ?_
  refine rSkipQ rfl rfl ?_
  refine pickB rfl rfl rfl rfl ?_
  refine rNil ?_
  refine qSeq rfl ?_
  refine hIfT rfl ?_
  refine hSeq ?_
  refine hReg (sq 0 sz) (by kernel_rfl) ?_
  refine asB rfl rfl rfl ?_
  refine rNil ?_
  refine qSeq rfl ?_
  refine hRet ?_
  exact fun w hs => ⟨[.bool false], ⟨rfl, trivial⟩, ⟨bB (Math.strat_no1 g1).symm, hs.upd⟩⟩
 ·
  replace g1 : (Math.isGame z ws vs) = true := g1
  refine fld fl45_0 rfl rfl rfl ?_
  refine ldl Tryd.isAgg2 (cB 0 rfl rfl) trv rfl rfl rfl ?_
  refine callP (v := .bool ((Math.inB (0 : Int) (1 : Int) pl))) Tryd.call42 trv rfl rfl (fun w hs => impl_within_c _ _ _ w ) ?_
  refine not rfl rfl rfl ?_
  refine pickB rfl rfl rfl rfl ?_
  refine rNil ?_
  refine qSeq rfl ?_
  refine hIfN rfl (fun c2 => ?_) (fun c2 => ?_)
  ·
   replace c2 : (Math.inB (0 : Int) (1 : Int) pl) = false := c2
   replace c2 : ¬ (0 ≤ pl ∧ pl ≤ 1) := of_decide_eq_false c2
   refine hSeq ?_
   refine hReg (sq 0 sz) (by kernel_rfl) ?_
   refine asB rfl rfl rfl ?_
   refine rNil ?_
   refine qSeq rfl ?_
   refine hRet ?_
   exact fun w hs => ⟨[.bool false], ⟨rfl, trivial⟩, ⟨bB (Math.strat_no2 c2).symm, hs.upd⟩⟩
  ·
   replace c2 : (Math.inB (0 : Int) (1 : Int) pl) = true := c2
   have hpl := of_decide_eq_true (show decide (0 ≤ pl ∧ pl ≤ 1) = true from c2)
   refine hSkip ?_
   refine qSeq rfl ?_
   refine hSeq ?_
   refine hReg (sl 0 (sl 1 (sl 2 (sq 3 sz)))) (by kernel_rfl) ?_
   refine ldAl Tryd.isAgg43 Tryd.sizeOf43 (cBs 1 rfl) trv rfl rfl rfl rfl ?_
   refine ldAl Tryd.isAgg45 Tryd.sizeOf45 (cBs 0 rfl) trv rfl rfl rfl rfl ?_
   refine callP (v := .bool ((Math.partsB z (Math.sets z nws pl) ps))) Tryd.call54 trv rfl rfl (fun w hs => impl_isStrategy_c _ nz cz _ _ _ nws cws _ _ _ nvs cvs _ _ _ _ nps cps _ _ w (Kn.drop (k := 2) kz w hs) (Kn.drop (k := 2) kws w hs) (Kn.drop (k := 2) kvs w hs) (Kn.drop (k := 2) kps w hs) (by assumption)) ?_
   refine asB rfl rfl rfl ?_
   refine rNil ?_
   refine qSeq rfl ?_
   refine hRet ?_
   exact fun w hs => ⟨[.bool ((Math.partsB z (Math.sets z nws pl) ps))], ⟨rfl, trivial⟩, ⟨bB (Math.strat_in lws g1 hpl).symm, hs.upd⟩⟩
end Go.Proofs.YtgnfffdenbiipaaDoor
/- Plain facts on games with high cards and mirrored games. No condition. -/
namespace Go.Proofs.YtgnfffdenbiipaaDoor.Math
open Go.Proofs.YtgnfffdenbiipaaDoor.V
set_option linter.unusedVariables false
set_option linter.unusedSimpArgs false
def mapR {α : Type} (f : Nat → α) (k : Nat) : List α := (List.range k).map f
theorem mapR_len {α : Type} (f : Nat → α) (k : Nat) : (mapR f k).length = k := by simp [mapR]
def order (a b : Int) : Int := if a < b then -1 else if b < a then 1 else 0
def hcCell (ag : Bool) (a b : Nat) : Int := if a = b ∧ ag = false then 0 else 1
def hcRow (k : Nat) (ag : Bool) (a : Nat) : List Int := mapR (hcCell ag a) k
def hcWin (k : Nat) (a : Nat) : List Int := mapR (fun b => order (a : Int) (b : Int)) k
def hcW (k : Nat) (ag : Bool) (i : Nat) : List (List Int) := mapR (hcRow k ag) i
def hcV (k : Nat) (i : Nat) : List (List Int) := mapR (hcWin k) i
abbrev G3 := List Nd × List (List Int) × List (List Int)
def highAt (z : List Nd) (kk : Int) (ag : Bool) : G3 × Int :=
 if isTree z = true then if (1 ≤ kk ∧ kk ≤ 6) ∧ ¬ (kk = 1 ∧ ag = false) then ((z, hcW kk.toNat ag kk.toNat, hcV kk.toNat kk.toNat), 0) else (([], [], []), 2) else (([], [], []), 1)
end Go.Proofs.YtgnfffdenbiipaaDoor.Math
/- The engine: strings. No condition. -/
namespace Go.Proofs.YtgnfffdenbiipaaDoor.V
open Go Go.RowKit
set_option linter.unusedVariables false
set_option linter.unusedSimpArgs false
/-- A string of bytes. -/
def sv (l : List UInt8) : Value := .string ⟨l.toArray⟩
theorem vS {l m : List UInt8} (h : l = m) : sv l = sv m := by rw [h]
section
variable {P : Program} {n : Nat} {w0 : World} {M : Nat → Prop} {L : List (World → Prop)} {σ : Fr} {K : Ko} {ops : Array Oper} {S : World → Prop} {r : Sch} {i : Nat}
variable {d : Nat} {t ty yt : TypeId} {p : String} {af : Array Edge} {g : Option (Nat × Bool)} {a b : Operand} {l m : List UInt8}
theorem strAdd (ho : ops[i]? = some ⟨some d, .binOp .add ty a b yt, t, p, af, g⟩) (hg : go ops σ g) (ha : ev σ a = sv l) (hb : ev σ b = sv m) (hr : l.length + m.length ≤ 9223372036854775807) (h : RG P n w0 M ops S L r (upd σ d (sv (l ++ m))) K) : RG P n w0 M ops S L (.op .q i r) σ K :=
 rQ ho hg (fun w _ => by
  have h1 := run_string_add_sum (P := P) w ⟨l.toArray⟩ ⟨m.toArray⟩ (by simpa [ByteArray.size] using hr)
  simp [execOp, ha, hb, eqGuard, sv, binOp_string_add, h1, ByteArray.mk_append_mk]) h
theorem strNeq (ho : ops[i]? = some ⟨some d, .binOp .neq ty a b yt, t, p, af, g⟩) (hg : go ops σ g) (ha : ev σ a = sv l) (hb : ev σ b = sv m) (h : RG P n w0 M ops S L r (upd σ d (.bool (decide (l ≠ m)))) K) : RG P n w0 M ops S L (.op .q i r) σ K :=
 rQ ho hg (fun w _ => by
  simp [execOp, ha, hb, eqGuard, sv, binOp_string_neq]
  try (by_cases e : l = m <;> simp [e])) h
theorem cnvU8 {src dst : TypeId} {sd : TypeDesc} {k : IntKind} {z : Int} (hs : ∀ w, (underlying src).run P w = .ok sd w) (hd : ∀ w, (underlying dst).run P w = .ok (.int .u8) w) (ho : ops[i]? = some ⟨some d, .convert src dst a, t, p, af, g⟩) (hg : go ops σ g) (ha : ev σ a = .int k z) (hr : 0 ≤ z ∧ z ≤ 255) (h : RG P n w0 M ops S L r (upd σ d (.int .u8 z)) K) : RG P n w0 M ops S L (.op .q i r) σ K :=
 cnv hs hd ho hg ha (by rw [show IntKind.u8.wrap z = z from by rw [IntKind.wrap_u8]; omega]; exact h)
theorem cnvStr {src dst eb e bk len cap : Nat} {vs : List Value} (xs : List Int) (j : Nat) (hj : L[j]? = some (blk bk e vs)) (hv : vs = xs.map (Value.int .u8)) (hl : xs.length = len) (hs : P.underlying src = some (.slice eb)) (he : P.underlying eb = some (.int .u8)) (hd : P.underlying dst = some .string) (hS : ∀ w, Sep w0 M L w → S w)
  (ho : ops[i]? = some ⟨some d, .convert src dst a, t, p, af, g⟩) (hg : go ops σ g) (ha : ev σ a = .slice (some ⟨bk, 0, none⟩) len cap) (h : RG P n w0 M ops S L r (upd σ d (sv (xs.map fun z => UInt8.ofNat z.toNat))) K) : RG P n w0 M ops S L (.op .l i r) σ K :=
 rL1 hS ho hg (fun w hs0 => by
  have hb : blk bk e vs w := hs0.at_ j hj
  have hc : ∀ i, i < len → w.cell? ⟨bk, 0 + i, none⟩ = some (.int .u8 (xs.getD i 0)) := fun i hi => by
   have hx : vs[i]? = some (.int .u8 (xs.getD i 0)) := by rw [hv, List.getElem?_map, List.getElem?_eq_getElem (show i < xs.length by omega)]; simp [List.getD, List.getElem?_eq_getElem (show i < xs.length by omega)]
   rw [Nat.zero_add]
   unfold blk at hb
   simp [World.cell?, hb, hx]
  have h1 := run_convert_bytes_arg (P := P) w src eb hs he bk 0 len cap xs hl hc dst hd
  have h2 : strOfNums xs = ⟨(xs.map fun z => UInt8.ofNat z.toNat).toArray⟩ := rfl
  unfold opw; simp [execOp, ha, h1, h2]
  exact ⟨hs0, rfl⟩) h
end
end Go.Proofs.YtgnfffdenbiipaaDoor.V
/- Contracts of the library that the kit lays, in plain words. Their conditions stand in each. -/
namespace Go.Proofs
open Go.Shelf
def Tryd.lays169_ren : Go.Shelf.Ren := ⟨fun | 169 => 35 | n => n, fun | 70 => 62 | 9 => 9 | 0 => 0 | 72 => 65 | 37 => 63 | 127 => 92 | 3 => 3 | 5 => 5 | n => n, fun | n => n⟩
theorem Tryd.lays169 : Go.Proofs.Lays.n169 Tryd.prog Tryd.lays169_ren := {
 mixed := by kernel_rfl
 f169 := Tryd.func35.trans (congrArg some (by kernel_rfl))
 t0 := Tryd.underlying0
 a0 := Tryd.isAgg0
 z0 := Tryd.sizeOf0
 v0 := Tryd.zeroValue0
 t3 := Tryd.underlying3
 a3 := Tryd.isAgg3
 z3 := Tryd.sizeOf3
 v3 := Tryd.zeroValue3
 t9 := Tryd.underlying9
 a9 := Tryd.isAgg9
 z9 := Tryd.sizeOf9
 v9 := Tryd.zeroValue9
 t37 := Tryd.underlying63
 a37 := Tryd.isAgg63
 z37 := Tryd.sizeOf63
 v37 := Tryd.zeroValue63
 t70 := Tryd.underlying62
 a70 := Tryd.isAgg62
 z70 := Tryd.sizeOf62
 v70 := Tryd.zeroValue62
 t72 := Tryd.underlying65
 a72 := Tryd.isAgg65
 z72 := Tryd.sizeOf65
 v72 := Tryd.zeroValue65
 t127 := Tryd.underlying92
 a127 := Tryd.isAgg92
 z127 := Tryd.sizeOf92
 v127 := Tryd.zeroValue92 }
theorem Tryd.Builder_Extra_169 : Builder.Extra Tryd.prog Tryd.lays169_ren := {
 sizeBuilder := by kernel_rfl
 liesBuilder := by kernel_rfl
 t5 := Tryd.underlying5
 a5 := Tryd.isAgg5
 z5 := Tryd.sizeOf5
 v5 := Tryd.zeroValue5
 infoByte := by kernel_rfl
 cellsByte := by kernel_rfl
 sizeByte := by kernel_rfl
 neB5 := by decide }
def Tryd.lays156_ren : Go.Shelf.Ren := ⟨fun | 156 => 57 | 165 => 66 | 166 => 33 | 169 => 35 | 240 => 56 | 241 => 68 | 276 => 65 | 277 => 73 | n => n, fun | 31 => 90 | 9 => 9 | 3 => 3 | 4 => 4 | 0 => 0 | 20 => 20 | 72 => 65 | 76 => 68 | 70 => 62 | 37 => 63 | 75 => 67 | 127 => 92 | 164 => 98 | 5 => 5 | 80 => 71 | n => n, fun | n => n⟩
theorem Tryd.lays156 : Go.Proofs.Lays.n156 Tryd.prog Tryd.lays156_ren := {
 mixed := by kernel_rfl
 f156 := Tryd.func57.trans (congrArg some (by kernel_rfl))
 f165 := Tryd.func66.trans (congrArg some (by kernel_rfl))
 f166 := Tryd.func33.trans (congrArg some (by kernel_rfl))
 f169 := Tryd.func35.trans (congrArg some (by kernel_rfl))
 f240 := Tryd.func56.trans (congrArg some (by kernel_rfl))
 f241 := Tryd.func68.trans (congrArg some (by kernel_rfl))
 f276 := Tryd.func65.trans (congrArg some (by kernel_rfl))
 f277 := Tryd.func73.trans (congrArg some (by kernel_rfl))
 t0 := Tryd.underlying0
 a0 := Tryd.isAgg0
 z0 := Tryd.sizeOf0
 v0 := Tryd.zeroValue0
 t3 := Tryd.underlying3
 a3 := Tryd.isAgg3
 z3 := Tryd.sizeOf3
 v3 := Tryd.zeroValue3
 t4 := Tryd.underlying4
 a4 := Tryd.isAgg4
 z4 := Tryd.sizeOf4
 v4 := Tryd.zeroValue4
 t9 := Tryd.underlying9
 a9 := Tryd.isAgg9
 z9 := Tryd.sizeOf9
 v9 := Tryd.zeroValue9
 t20 := Tryd.underlying20
 a20 := Tryd.isAgg20
 z20 := Tryd.sizeOf20
 v20 := Tryd.zeroValue20
 t31 := Tryd.underlying90
 a31 := Tryd.isAgg90
 z31 := Tryd.sizeOf90
 v31 := Tryd.zeroValue90
 t37 := Tryd.underlying63
 a37 := Tryd.isAgg63
 z37 := Tryd.sizeOf63
 v37 := Tryd.zeroValue63
 t70 := Tryd.underlying62
 a70 := Tryd.isAgg62
 z70 := Tryd.sizeOf62
 v70 := Tryd.zeroValue62
 t72 := Tryd.underlying65
 a72 := Tryd.isAgg65
 z72 := Tryd.sizeOf65
 v72 := Tryd.zeroValue65
 t75 := Tryd.underlying67
 a75 := Tryd.isAgg67
 z75 := Tryd.sizeOf67
 v75 := Tryd.zeroValue67
 t76 := Tryd.underlying68
 a76 := Tryd.isAgg68
 z76 := Tryd.sizeOf68
 v76 := Tryd.zeroValue68
 t127 := Tryd.underlying92
 a127 := Tryd.isAgg92
 z127 := Tryd.sizeOf92
 v127 := Tryd.zeroValue92
 t164 := Tryd.underlying98
 a164 := Tryd.isAgg98
 z164 := Tryd.sizeOf98
 v164 := Tryd.zeroValue98 }
theorem Tryd.Builder_Extra_156 : Builder.Extra Tryd.prog Tryd.lays156_ren := {
 sizeBuilder := by kernel_rfl
 liesBuilder := by kernel_rfl
 t5 := Tryd.underlying5
 a5 := Tryd.isAgg5
 z5 := Tryd.sizeOf5
 v5 := Tryd.zeroValue5
 infoByte := by kernel_rfl
 cellsByte := by kernel_rfl
 sizeByte := by kernel_rfl
 neB5 := by decide }
open Go.RowKit in
theorem Tryd.strings_Join_none (a : Option Addr) (c : Nat) (sep : ByteArray) (w : World) :
  Calls Tryd.prog 57 #[.slice a 0 c, .string sep] w fun e w' => e = .returned (.string ⟨#[]⟩) ∧ w' = w := Any.strings_Join_none Tryd.lays156 Tryd.Builder_Extra_156 a c sep w
open Go.RowKit in
theorem Tryd.strings_Join (bk o c : Nat) (xs : List ByteArray) (sep : ByteArray) (w : World) (hcells : ∀ (j : Nat) x, xs[j]? = some x → w.cell? ⟨bk, o + j, none⟩ = some (.string x)) (hbk : bk < w.heap.size) (hN : xs.length ≤ 140737488355328) (hcap : xs.length ≤ c) (hlen : (Lib.join (xs.map (·.data.toList)) sep.data.toList).length ≤ 140737488355328) :
  Calls Tryd.prog 57 #[.slice (some ⟨bk, o, none⟩) xs.length c, .string sep] w fun e w' => e = .returned (.string ⟨(Lib.join (xs.map (·.data.toList)) sep.data.toList).toArray⟩) ∧ Below w.heap.size w w' := Any.strings_Join Tryd.lays156 Tryd.Builder_Extra_156 bk o c xs sep w hcells hbk hN hcap hlen
open Go.RowKit in
theorem Tryd.Builder_String_any_k (B b : Nat) (l : List UInt8) (w : World) (h : Lib.IsBuilderF 65 5 B b (Lib.byteCells l) w) (hBw : B ≤ w.heap.size) :
  Calls Tryd.prog 35 #[.pointer (some ⟨b, 0, none⟩)] w fun e w' => e = .returned (.string ⟨l.toArray⟩) ∧ (Lib.IsBuilderF 65 5 B b (Lib.byteCells l) w' ∧ Below B w w' ∧ Lib.OthersKept 5 (some b) w w') := Any.Builder_String_any_k Tryd.lays169 Tryd.Builder_Extra_169 B b l w h hBw
def Tryd.laysM173_ren : Go.Shelf.Ren := ⟨fun | 173 => 60 | 246 => 67 | 283 => 69 | 284 => 70 | 285 => 71 | 286 => 72 | 129 => 75 | 317 => 74 | 318 => 76 | 319 => 77 | 320 => 78 | 337 => 79 | 338 => 80 | n => n, fun | 2 => 2 | 3 => 3 | 9 => 9 | 4 => 4 | 171 => 102 | 0 => 0 | 53 => 103 | 37 => 63 | 5 => 5 | 173 => 106 | 212 => 111 | 51 => 112 | 20 => 20 | 213 => 113 | 46 => 115 | 232 => 118 | 233 => 119 | n => n, fun | 17 => 0 | 18 => 2 | 19 => 3 | n => n⟩
theorem Tryd.laysM173 : Go.Proofs.LaysM.n173 Tryd.prog Tryd.laysM173_ren := {
 mixed := by kernel_rfl
 f129 := Tryd.func75.trans (congrArg some (by kernel_rfl))
 f173 := Tryd.func60.trans (congrArg some (by kernel_rfl))
 f246 := Tryd.func67.trans (congrArg some (by kernel_rfl))
 f283 := Tryd.func69.trans (congrArg some (by kernel_rfl))
 f284 := Tryd.func70.trans (congrArg some (by kernel_rfl))
 f285 := Tryd.func71.trans (congrArg some (by kernel_rfl))
 f286 := Tryd.func72.trans (congrArg some (by kernel_rfl))
 f317 := Tryd.func74.trans (congrArg some (by kernel_rfl))
 f318 := Tryd.func76.trans (congrArg some (by kernel_rfl))
 f319 := Tryd.func77.trans (congrArg some (by kernel_rfl))
 f320 := Tryd.func78.trans (congrArg some (by kernel_rfl))
 f337 := Tryd.func79.trans (congrArg some (by kernel_rfl))
 f338 := Tryd.func80.trans (congrArg some (by kernel_rfl))
 t0 := Tryd.underlying0
 a0 := Tryd.isAgg0
 z0 := Tryd.sizeOf0
 v0 := Tryd.zeroValue0
 t2 := Tryd.underlying2
 a2 := Tryd.isAgg2
 z2 := Tryd.sizeOf2
 v2 := Tryd.zeroValue2
 t3 := Tryd.underlying3
 a3 := Tryd.isAgg3
 z3 := Tryd.sizeOf3
 v3 := Tryd.zeroValue3
 t4 := Tryd.underlying4
 a4 := Tryd.isAgg4
 z4 := Tryd.sizeOf4
 v4 := Tryd.zeroValue4
 t5 := Tryd.underlying5
 a5 := Tryd.isAgg5
 z5 := Tryd.sizeOf5
 v5 := Tryd.zeroValue5
 t9 := Tryd.underlying9
 a9 := Tryd.isAgg9
 z9 := Tryd.sizeOf9
 v9 := Tryd.zeroValue9
 t20 := Tryd.underlying20
 a20 := Tryd.isAgg20
 z20 := Tryd.sizeOf20
 v20 := Tryd.zeroValue20
 t37 := Tryd.underlying63
 a37 := Tryd.isAgg63
 z37 := Tryd.sizeOf63
 v37 := Tryd.zeroValue63
 t46 := Tryd.underlying115
 a46 := Tryd.isAgg115
 z46 := Tryd.sizeOf115
 v46 := Tryd.zeroValue115
 t51 := Tryd.underlying112
 a51 := Tryd.isAgg112
 z51 := Tryd.sizeOf112
 v51 := Tryd.zeroValue112
 t53 := Tryd.underlying103
 a53 := Tryd.isAgg103
 z53 := Tryd.sizeOf103
 v53 := Tryd.zeroValue103
 t171 := Tryd.underlying102
 a171 := Tryd.isAgg102
 z171 := Tryd.sizeOf102
 v171 := Tryd.zeroValue102
 t173 := Tryd.underlying106
 a173 := Tryd.isAgg106
 z173 := Tryd.sizeOf106
 v173 := Tryd.zeroValue106
 t212 := Tryd.underlying111
 a212 := Tryd.isAgg111
 z212 := Tryd.sizeOf111
 v212 := Tryd.zeroValue111
 t213 := Tryd.underlying113
 a213 := Tryd.isAgg113
 z213 := Tryd.sizeOf113
 t232 := Tryd.underlying118
 a232 := Tryd.isAgg118
 z232 := Tryd.sizeOf118
 v232 := Tryd.zeroValue118
 t233 := Tryd.underlying119
 a233 := Tryd.isAgg119
 z233 := Tryd.sizeOf119
 v233 := Tryd.zeroValue119
 g17 := by kernel_rfl
 g18 := by kernel_rfl
 g19 := by kernel_rfl
 i0 := by kernel_rfl
 i2 := by kernel_rfl
 i3 := by kernel_rfl
 i4 := by kernel_rfl
 i5 := by kernel_rfl
 i9 := by kernel_rfl
 i20 := by kernel_rfl
 i37 := by kernel_rfl
 i46 := by kernel_rfl
 i51 := by kernel_rfl
 i53 := by kernel_rfl
 i171 := by kernel_rfl
 i173 := by kernel_rfl
 i212 := by kernel_rfl
 i232 := by kernel_rfl
 i233 := by kernel_rfl
 m17 := by kernel_rfl
 m18 := by kernel_rfl
 m19 := by kernel_rfl }
open Go.RowKit Go.Sort Go.Lib in
theorem Tryd.strconv_FormatInt_10 (n : Int) (h0 : -9223372036854775808 ≤ n) (h1 : n ≤ 9223372036854775807) (w : World) (htab : Lib.TabIs Tryd.prog w "internal/strconv.uint64pow10" .u64 Lib.pow10Tab) :
  Calls Tryd.prog 60 #[.int .i64 n, .int .i64 10] w fun e w' => e = .returned (.string ⟨(Lib.itoa n).toArray⟩) ∧ ∃ k os, w' = grow (w.drewN k) os := Any.strconv_FormatInt_10 Tryd.laysM173 n h0 h1 w htab
end Go.Proofs
/- Decimal numbers: what the library and the reference write. No condition. -/
namespace Go.Proofs.YtgnfffdenbiipaaDoor.Math
/-- A number in decimal. -/
def dec (n : Int) : List UInt8 := Lib.decDigits n.toNat
theorem dec_small {n : Int} (h0 : 0 ≤ n) (h : n < 10) : dec n = [UInt8.ofNat (48 + n).toNat] := by
  unfold dec; rw [Lib.decDigits, dif_pos (by omega)]
  congr 2; omega
theorem dec_step {n : Int} (h : ¬ n < 10) : dec n = dec (n / 10) ++ [UInt8.ofNat (48 + n % 10).toNat] := by
  unfold dec
  rw [Lib.decDigits, dif_neg (by omega), show (n / 10).toNat = n.toNat / 10 from by omega, show (48 + n % 10).toNat = 48 + n.toNat % 10 from by omega]
theorem dec_len3 {n : Int} (h : n ≤ 999) : (dec n).length ≤ 3 := by
  unfold dec
  rw [Lib.decDigits]
  split
  · simp
  · rw [Lib.decDigits]
    split
    · simp
    · rw [Lib.decDigits, dif_pos (by omega)]; simp
end Go.Proofs.YtgnfffdenbiipaaDoor.Math
namespace Go.Proofs.YtgnfffdenbiipaaDoor
open Go Go.RowKit V
set_option linter.unusedVariables false
/-- The library's table of powers of ten. -/
def TabP (w : World) : Prop := Lib.TabIs Tryd.prog w "internal/strconv.uint64pow10" .u64 Lib.pow10Tab
theorem TabP.ext {w w' : World} (h : TabP w) (hx : Ext w w') : TabP w' := by
  have hg : ∃ g, Tryd.prog.globalNamed "internal/strconv.uint64pow10" = some g := by
    unfold TabP Lib.TabIs World.var? at h
    cases hg : Tryd.prog.globalNamed "internal/strconv.uint64pow10" with
    | none => rw [hg] at h; cases h
    | some g => exact ⟨g, rfl⟩
  obtain ⟨g, hg⟩ := hg
  have hlt : g < w.heap.size := by
    unfold TabP Lib.TabIs World.var? at h
    rw [hg] at h
    simp only [Option.bind_some] at h
    rcases Nat.lt_or_ge g w.heap.size with hl | hl
    · exact hl
    · rw [Array.getElem?_eq_none hl] at h; cases h
  exact var?_below hx.below hg hlt h
theorem Ext.drewN (w : World) (k : Nat) : Ext w (w.drewN k) := ⟨rfl, rfl, rfl, Nat.le_refl _, fun _ _ _ => rfl⟩
theorem Ext.grow (w : World) (os : Array Obj) : Ext w (Sort.grow w os) := ⟨rfl, rfl, rfl, by simp, fun k hk _ => by
  unfold Sort.grow
  show (w.heap ++ os)[k]? = _
  rw [Array.getElem?_append_left hk]⟩
theorem formatInt_c (n : Int) (w : World) (htab : TabP w) (h0 : 0 ≤ n) (h1 : n ≤ 1000000000) : Calls Tryd.prog 60 #[.int .i64 n, .int .i64 10] w (Ret fun v w' => v = sv (Math.dec n) ∧ Ext w w') :=
  Calls.mono (Tryd.strconv_FormatInt_10 n (by omega) (by omega) w htab) fun e w' ⟨he, k, os, hw⟩ => ⟨_, he, by
    unfold sv Math.dec Lib.itoa
    rw [if_neg (by omega)], by rw [hw]; exact (Ext.drewN w k).trans (Ext.grow _ os)⟩
end Go.Proofs.YtgnfffdenbiipaaDoor
/- The engine: builders of strings; strings joined. No condition. -/
namespace Go.Proofs.YtgnfffdenbiipaaDoor.V
open Go Go.RowKit
set_option linter.unusedVariables false
set_option linter.unusedSimpArgs false
/-- Strings in a slice. -/
def stK : RK (List UInt8) := ⟨fun l _ => [sv l], fun _ => [], 1⟩
theorem stK.ok : stK.Ok := ⟨fun _ _ => rfl, fun x h v hv => by simp [stK] at hv; subst hv; rfl, by decide⟩
/-- A builder that holds bytes. -/
def Bld (T e B b : Nat) (l : List UInt8) : World → Prop := fun w => Lib.IsBuilderF T e B b (Lib.byteCells l) w
theorem Bld.fp {T e B b : Nat} {l : List UInt8} {w : World} (h : Bld T e B b l w) : ∃ g : Nat → Prop, g b ∧ (∀ k, g k → B ≤ k ∧ k < w.heap.size) ∧ (∀ k, g k → k = b ∨ ∃ c fz, w.heap[k]? = some (.cells c e fz)) ∧ St g (Bld T e B b l) w := by
  have key : ∀ p, Lib.BuilderAtF T e B b p (Lib.byteCells l) w → ∃ g : Nat → Prop, g b ∧ (∀ k, g k → B ≤ k ∧ k < w.heap.size) ∧ (∀ k, g k → k = b ∨ ∃ c fz, w.heap[k]? = some (.cells c e fz)) ∧ St g (Lib.BuilderAtF T e B b p (Lib.byteCells l)) w := by
    rintro p ⟨hB, v, hb, hown, hne⟩
    have hlt : b < w.heap.size := (Array.getElem?_eq_some_iff.1 hb).1
    rcases hown.2 with ⟨hv, hn⟩ | ⟨g, cap, cur, fz, hv, hBg, hg, rest⟩
    · refine ⟨fun k => k = b, rfl, fun k hk => by subst hk; exact ⟨hB, hlt⟩, fun k hk => .inl hk, fun w' ha => ⟨hB, v, by rw [ha b rfl]; exact hb, ⟨hown.1, .inl ⟨hv, hn⟩⟩, hne⟩⟩
    · have hgl : g < w.heap.size := (Array.getElem?_eq_some_iff.1 hg).1
      refine ⟨fun k => k = b ∨ k = g, .inl rfl, fun k hk => by rcases hk with rfl | rfl <;> omega, fun k hk => ?_, fun w' ha => ⟨hB, v, by rw [ha b (.inl rfl)]; exact hb, ⟨hown.1, .inr ⟨g, cap, cur, fz, hv, hBg, by rw [ha g (.inr rfl)]; exact hg, rest⟩⟩, hne⟩⟩
      rcases hk with rfl | rfl
      · exact .inl rfl
      · exact .inr ⟨cur, fz, hg⟩
  rcases h with h | h
  · obtain ⟨g, h1, h2, h3, h4⟩ := key _ h
    exact ⟨g, h1, h2, h3, fun w' ha => .inl (h4 w' ha)⟩
  · obtain ⟨g, h1, h2, h3, h4⟩ := key _ h
    exact ⟨g, h1, h2, h3, fun w' ha => .inr (h4 w' ha)⟩
theorem Bld.lt {T e B b : Nat} {l : List UInt8} {w : World} (h : Bld T e B b l w) : b < w.heap.size := by
  obtain ⟨g, h1, h2, _⟩ := h.fp
  exact (h2 b h1).2
theorem Bld.mem {T e B b : Nat} {l : List UInt8} {w : World} {f : Nat → Prop} (h : St f (Bld T e B b l) w) : f b := by
  refine Classical.byContradiction fun hn => ?_
  have hlt := Bld.lt h.out
  have h2 := h { w with heap := w.heap.setIfInBounds b (.map #[] 0) } fun k hk => by
    have : b ≠ k := fun e => hn (e ▸ hk)
    show (w.heap.setIfInBounds b (.map #[] 0))[k]? = _
    rw [Array.getElem?_setIfInBounds_ne this]
  rcases h2 with ⟨_, v, hb, _⟩ | ⟨_, v, hb, _⟩
  · simp [hlt] at hb
  · simp [hlt] at hb
/-- A piece that no builder's buffer meets. -/
def Nu (e : Nat) (φ : World → Prop) : Prop := ∀ f w, St f φ w → ∃ g : Nat → Prop, (∀ k, g k → f k) ∧ St g φ w ∧ ∀ k, g k → ∃ o, w.heap[k]? = some o ∧ ∀ c fz, o ≠ .cells c e fz
def AllNu (e : Nat) : List (World → Prop) → Prop
  | [] => True
  | φ :: L => Nu e φ ∧ AllNu e L
theorem AllNu.nil {e : Nat} : AllNu e [] := trivial
theorem AllNu.cons {e : Nat} {φ : World → Prop} {L : List (World → Prop)} (h : Nu e φ) (k : AllNu e L) : AllNu e (φ :: L) := ⟨h, k⟩
theorem nuB {e b ty : Nat} {cs : List Value} (h : ty ≠ e) : Nu e (blk b ty cs) := fun f w hst =>
  ⟨fun k => k = b, fun k hk => by subst hk; exact blk.mem hst, blk.St _ _ _ hst.out rfl, fun k hk => by subst hk; exact ⟨_, hst.out, fun c fz he => by injection he with _ h2; exact h h2⟩⟩
theorem Own.row {e m n c : Nat} {a : Option Addr} {xs : List Value} {w : World} (h : Own e m a n c xs w) {b : Nat} (hb : fpO a b) : ∃ cur : Array Value, w.heap[b]? = some (.cells cur e (0, 0)) := by
  unfold fpO at hb
  rcases h.2 with ⟨h1, _⟩ | ⟨g', cap, cur, hv, _, hg', _⟩
  · rw [hb] at h1; cases h1
  · rw [hb] at hv; cases hv; exact ⟨cur, hg'⟩
theorem nuR {α : Type} {k : RK α} {e e1 e2 n c : Nat} {a : Option Addr} {hs : Nat → Hd} {xs : List α} (h1 : e1 ≠ e) (h2 : e2 ≠ e) : Nu e (OwnR k e1 e2 a n c hs xs) := fun f w hst =>
  ⟨fpR a hs n, OwnR.mem hst, OwnR.St hst.out fun _ h => h, fun q hq => by
    have ho := hst.out
    rcases hq with hq | ⟨i, hi, hq⟩
    · obtain ⟨cur, hc⟩ := Own.row ho.2.1 hq
      exact ⟨_, hc, fun c fz he => by injection he with _ h3; exact h1 h3⟩
    · have hx : xs[i]? = some (xs[i]'(by rw [ho.1]; exact hi)) := List.getElem?_eq_getElem (by rw [ho.1]; exact hi)
      obtain ⟨cur, hc⟩ := Own.row (ho.2.2.1 i _ hx) hq
      exact ⟨_, hc, fun c fz he => by injection he with _ h3; exact h2 h3⟩⟩
section
variable {w0 : World} {M : Nat → Prop} {L : List (World → Prop)} {w w' : World} {B T e : Nat}
theorem SepL.nu : ∀ {L : List (World → Prop)} {fs : List (Nat → Prop)}, SepL M B T fs L w → AllNu e L → ∃ gs, SepL M B T gs L w ∧ (∀ g ∈ gs, ∃ f ∈ fs, ∀ k, g k → f k) ∧ ∀ g ∈ gs, ∀ k, g k → ∃ o, w.heap[k]? = some o ∧ ∀ c fz, o ≠ .cells c e fz
  | [], [], h, _ => ⟨[], h, (fun _ h => by cases h), (fun _ h => by cases h)⟩
  | _ :: _, [], h, _ => h.elim
  | [], _ :: _, h, _ => h.elim
  | φ :: L, f :: fs, ⟨h1, h2, h3, h4⟩, ⟨n1, n2⟩ => by
    obtain ⟨g, g1, g2, g3⟩ := n1 f w h3
    obtain ⟨gs, k1, k2, k3⟩ := SepL.nu h4 n2
    refine ⟨g :: gs, ⟨fun k hk => h1 k (g1 k hk), fun q hq k hk hqk => ?_, g2, k1⟩, fun q hq => ?_, fun q hq => ?_⟩
    · obtain ⟨f', hf', hs⟩ := k2 q hq
      exact h2 f' hf' k (g1 k hk) (hs k hqk)
    · rcases List.mem_cons.1 hq with rfl | hq
      · exact ⟨f, List.mem_cons_self, g1⟩
      · obtain ⟨f', hf', hs⟩ := k2 q hq
        exact ⟨f', List.mem_cons_of_mem _ hf', hs⟩
    · rcases List.mem_cons.1 hq with rfl | hq
      · exact g3
      · exact k3 q hq
/-- What a builder's methods leave. -/
theorem Sep.wrote {Tb b : Nat} {l l' : List UInt8} (h : Sep w0 M (Bld Tb e w0.heap.size b l :: L) w) (hN : AllNu e L) (hb : Bld Tb e w0.heap.size b l' w') (hB : Below w0.heap.size w w') (hO : Lib.OthersKept e (some b) w w') : Sep w0 M (Bld Tb e w0.heap.size b l' :: L) w' := by
  obtain ⟨h1, fs, h2⟩ := h
  match fs, h2 with
  | f :: fs, ⟨k1, k2, k3, k4⟩ =>
    have hfb := Bld.mem k3
    obtain ⟨gs, g1, g2, g3⟩ := k4.nu hN
    have hkeep : ∀ g ∈ gs, ∀ k, g k → w'.heap[k]? = w.heap[k]? ∧ k ≠ b := fun g hg k hk => by
      obtain ⟨o, ho, hne⟩ := g3 g hg k hk
      have hkb : k ≠ b := fun he => by
        subst he
        obtain ⟨f', hf', hs⟩ := g2 g hg
        exact k2 f' hf' k hfb (hs k hk)
      exact ⟨by rw [ho]; exact hO k o ho (fun he => hkb (Option.some.inj he)) hne, hkb⟩
    obtain ⟨g0, a1, a2, a3, a4⟩ := hb.fp
    have hbs : w0.heap.size ≤ w.heap.size := h1.size
    refine ⟨⟨hB.os.trans h1.os, hB.tape.trans h1.tape, hB.output.trans h1.output, Nat.le_trans h1.size hB.size, fun k hk hm => (hB.block k hk).trans (h1.block k hk hm)⟩, g0 :: gs, fun k hk => ⟨.inl (a2 k hk).1, (a2 k hk).2⟩, fun g hg k hk hgk => ?_, a4, g1.keep hB.size fun g hg k hk => (hkeep g hg k hk).1⟩
    rcases a3 k hk with he | ⟨c, fz, hc⟩
    · exact (hkeep g hg k hgk).2 he
    · obtain ⟨o, ho, hne⟩ := g3 g hg k hgk
      rw [(hkeep g hg k hgk).1, ho] at hc
      exact hne c fz (Option.some.inj hc)
  | [], h => exact h.elim
/-- A new builder. -/
theorem Sep.bld {Tb b : Nat} (j : Nat) (h : Sep w0 none_ L w) (hj : L[j]? = some (blk b Tb [.pointer none, .slice none 0 0])) : Sep w0 none_ (L.set j (Bld Tb e w0.heap.size b [])) w := by
  have hb : w0.heap.size ≤ b := by
    obtain ⟨h1, fs, h2⟩ := h
    obtain ⟨f, hf, hst⟩ := h2.at_ hj
    exact ((h2.fp_lt f (List.mem_of_getElem? hf) b (blk.mem hst)).1).resolve_right fun h => h
  exact h.change j hj fun f hf => ⟨f, fun _ h => .inl h, fun w' ha => .inl ⟨hb, .slice none 0 0, by
    have h1 : blk b Tb [.pointer none, .slice none 0 0] w := hf.out
    unfold blk at h1
    rw [ha b (blk.mem hf)]; exact h1, World.ownsRowF_nil _ _ _ _, by simp [Value.ownBlock]⟩, Upd.refl _ _⟩
end
section
variable {P : Program} {n : Nat} {w0 : World} {M : Nat → Prop} {L : List (World → Prop)} {σ : Fr} {K : Ko} {ops : Array Oper} {S : World → Prop} {r : Sch} {i : Nat}
variable {d : Nat} {t : TypeId} {p : String} {af : Array Edge} {g : Option (Nat × Bool)} {a b : Operand}
theorem byteCells_app (l m : List UInt8) : Lib.byteCells (l ++ m) = Lib.byteCells l ++ Lib.byteCells m := by simp [Lib.byteCells]
theorem strCells_sv (m : List UInt8) : Lib.strCells ⟨m.toArray⟩ = Lib.byteCells m := by simp [Lib.strCells, Lib.byteCells]
/-- What WriteString says. -/
def Wr (P : Program) (f T e : Nat) : Prop := ∀ (B b : Nat) (bs : List Value) (s : ByteArray) (w : World), Lib.IsBuilderF T e B b bs w → bs.length + s.size ≤ 140737488355328 → B ≤ w.heap.size →
  Calls P f #[.pointer (some ⟨b, 0, none⟩), .string s] w fun x w' => x = .returned (.tuple #[.int .i64 s.size, .nilIface]) ∧ (Lib.BuilderAtF T e B b (.pointer (some ⟨b, 0, none⟩)) (bs ++ Lib.strCells s) w' ∧ Below B w w' ∧ Lib.OthersKept e (some b) w w')
def Stg (P : Program) (f T e : Nat) : Prop := ∀ (B b : Nat) (l : List UInt8) (w : World), Lib.IsBuilderF T e B b (Lib.byteCells l) w → B ≤ w.heap.size →
  Calls P f #[.pointer (some ⟨b, 0, none⟩)] w fun x w' => x = .returned (.string ⟨l.toArray⟩) ∧ (Lib.IsBuilderF T e B b (Lib.byteCells l) w' ∧ Below B w w' ∧ Lib.OthersKept e (some b) w w')
theorem bWrite {f T e bk : Nat} {args : Array Operand} {tys : Array TypeId} {l m : List UInt8} (hw : Wr P f T e) (hN : AllNu e L) (hl : l.length + m.length ≤ 140737488355328) (hf : ∀ args w, (callFunc f args).run P w = .ok (.enter f args) w) (hS : ∀ w, Sep w0 M (Bld T e w0.heap.size bk (l ++ m) :: L) w → S w)
    (ho : ops[i]? = some ⟨some d, .call ⟨.value (.func f), args, tys⟩, t, p, af, g⟩) (hg : go ops σ g) (ha : (args.toList.map (ev σ)) = [.pointer (some ⟨bk, 0, none⟩), sv m])
    (h : RG P n w0 M ops S (Bld T e w0.heap.size bk (l ++ m) :: L) r (upd σ d (.tuple #[.int .i64 m.length, .nilIface])) K) : RG P n w0 M ops S (Bld T e w0.heap.size bk l :: L) (.op .l i r) σ K :=
  rL1 hS ho hg (fun w hs => call_opw (R := fun v w' => v = .tuple #[.int .i64 m.length, .nilIface] ∧ Sep w0 M (Bld T e w0.heap.size bk (l ++ m) :: L) w') hf (by
    rw [ha]
    exact Calls.mono (hw w0.heap.size bk (Lib.byteCells l) ⟨m.toArray⟩ w (hs.at_ 0 rfl) (by simpa [Lib.byteCells, ByteArray.size] using hl) hs.base_le) fun x w' ⟨he, hb, hB, hO⟩ => ⟨_, he, by simp [ByteArray.size], hs.wrote hN (by
      rw [strCells_sv, ← byteCells_app] at hb; exact .inr hb) hB hO⟩) fun v w' ⟨he, hs'⟩ => by subst he; exact ⟨hs', rfl⟩) h
theorem bString {f T e bk : Nat} {args : Array Operand} {tys : Array TypeId} {l : List UInt8} (hw : Stg P f T e) (hN : AllNu e L) (hf : ∀ args w, (callFunc f args).run P w = .ok (.enter f args) w) (hS : ∀ w, Sep w0 M (Bld T e w0.heap.size bk l :: L) w → S w)
    (ho : ops[i]? = some ⟨some d, .call ⟨.value (.func f), args, tys⟩, t, p, af, g⟩) (hg : go ops σ g) (ha : (args.toList.map (ev σ)) = [.pointer (some ⟨bk, 0, none⟩)])
    (h : RG P n w0 M ops S (Bld T e w0.heap.size bk l :: L) r (upd σ d (sv l)) K) : RG P n w0 M ops S (Bld T e w0.heap.size bk l :: L) (.op .l i r) σ K :=
  rL1 hS ho hg (fun w hs => call_opw (R := fun v w' => v = sv l ∧ Sep w0 M (Bld T e w0.heap.size bk l :: L) w') hf (by
    rw [ha]
    exact Calls.mono (hw w0.heap.size bk l w (hs.at_ 0 rfl) hs.base_le) fun x w' ⟨he, hb, hB, hO⟩ => ⟨_, he, rfl, hs.wrote hN hb hB hO⟩) fun v w' ⟨he, hs'⟩ => by subst he; exact ⟨hs', rfl⟩) h
end
end Go.Proofs.YtgnfffdenbiipaaDoor.V
namespace Go.Proofs.YtgnfffdenbiipaaDoor
open Go Go.RowKit V
theorem wr_c : Wr Tryd.prog 33 65 5 := fun B b bs s w h hl hB => Any.Builder_WriteString_k { Tryd.lays156 with } Tryd.Builder_Extra_156 B b bs s w h hl hB
theorem stg_c : Stg Tryd.prog 35 65 5 := fun B b l w h hB => Tryd.Builder_String_any_k B b l w h hB
/-- Strings that are joined. -/
theorem join_c (ax : Option Addr) (nx cx : Nat) (Hx : Nat → Hd) (x : List (List UInt8)) (by_ : List UInt8) (w : World) (rx : RdR stK ax nx Hx x w) (hc : nx ≤ cx) (hn : nx ≤ 1000000) (hl : (Lib.join x by_).length ≤ 140737488355328) : Calls Tryd.prog 57 #[.slice ax nx cx, sv by_] w (Ret fun v w' => v = sv (Lib.join x by_) ∧ Ext w w') := by
  rcases Nat.eq_zero_or_pos nx with h0 | h0
  · subst h0
    have hx : x = [] := List.eq_nil_of_length_eq_zero rx.1
    subst hx
    exact Calls.mono (Tryd.strings_Join_none ax cx ⟨by_.toArray⟩ w) fun e w' ⟨he, hw⟩ => ⟨_, he, rfl, by subst hw; exact Upd.refl _ _⟩
  · have hlen := rx.1
    obtain ⟨⟨b, off, ha, hc0⟩, _⟩ := rx.2.2 0 (x[0]'(by omega)) (List.getElem?_eq_getElem (by omega))
    subst ha
    have hb : b < w.heap.size := by
      have h1 := hc0 0 _ rfl
      rcases Nat.lt_or_ge b w.heap.size with h | h
      · exact h
      · simp [World.cell?, Array.getElem?_eq_none h] at h1
    have hmap : (x.map fun l => (⟨l.toArray⟩ : ByteArray)).map (·.data.toList) = x := by
      rw [List.map_map]; conv => rhs; rw [← List.map_id x]
      exact List.map_congr_left fun _ _ => rfl
    have hcalls := Tryd.strings_Join b off cx (x.map fun l => ⟨l.toArray⟩) ⟨by_.toArray⟩ w (fun j y hy => by
      rw [List.getElem?_map] at hy
      cases hxj : x[j]? with
      | none => rw [hxj] at hy; cases hy
      | some l =>
        rw [hxj] at hy
        cases hy
        obtain ⟨⟨b', off', ha', hc'⟩, _⟩ := rx.2.2 j l hxj
        cases ha'
        have := hc' 0 _ rfl
        simpa [stK, sv] using this) hb (by simp; omega) (by simp; omega) (by rw [hmap]; simpa using hl)
    rw [hmap] at hcalls
    have he : (x.map fun l => (⟨l.toArray⟩ : ByteArray)).length = nx := by simp [hlen]
    rw [he] at hcalls
    exact Calls.mono hcalls fun e w' ⟨he, hw⟩ => ⟨_, he, by simp [sv], Ext.of_below hw⟩
end Go.Proofs.YtgnfffdenbiipaaDoor
/- Plain facts: texts of strategies. No condition. -/
namespace Go.Proofs.YtgnfffdenbiipaaDoor.Math
open Go.Proofs.YtgnfffdenbiipaaDoor.V
set_option linter.unusedVariables false
theorem join_snoc {xs : List (List UInt8)} {x sep : List UInt8} (h : xs ≠ []) : Lib.join (xs ++ [x]) sep = Lib.join xs sep ++ sep ++ x := by
  cases xs with
  | nil => exact absurd rfl h
  | cons y r =>
    rw [List.cons_append, Lib.join_cons, Lib.join_cons]
    simp [Lib.joinTail, List.append_assoc]
/-- Numbers in decimal, joined. -/
def joinD (by_ : List UInt8) (zs : List Int) : List UInt8 := Lib.join (zs.map dec) by_
def joinTo (by_ : List UInt8) (zs : List Int) (i : Nat) : List UInt8 := joinD by_ (zs.take i)
theorem joinTo_0 (by_ : List UInt8) (zs : List Int) : joinTo by_ zs 0 = [] := by unfold joinTo joinD; rw [List.take_zero]; rfl
theorem joinTo_1 {by_ : List UInt8} {zs : List Int} {i : Nat} (h : i < zs.length) (h0 : i = 0) : joinTo by_ zs (i + 1) = dec (zs.getD i 0) := by
  subst h0
  unfold joinTo joinD
  rw [take_step 0 h, List.take_zero, List.nil_append, List.map_cons, List.map_nil, Lib.join_one]
theorem joinTo_s {by_ : List UInt8} {zs : List Int} {i : Nat} (h : i < zs.length) (h0 : 0 < i) : joinTo by_ zs (i + 1) = joinTo by_ zs i ++ by_ ++ dec (zs.getD i 0) := by
  unfold joinTo joinD
  rw [take_step 0 h, List.map_append, List.map_cons, List.map_nil, join_snoc]
  intro hn
  have := congrArg List.length hn
  rw [List.length_map, List.length_take, List.length_nil] at this
  omega
theorem joinTo_z {by_ : List UInt8} {zs : List Int} {i : Nat} (h : i < zs.length) (h0 : i = 0) : joinTo by_ zs (i + 1) = joinTo by_ zs i ++ dec (zs.getD i 0) := by
  rw [joinTo_1 h h0]; subst h0; rw [joinTo_0]; rfl
theorem joinTo_end {by_ : List UInt8} {zs : List Int} {i : Nat} (h : zs.length ≤ i) : joinTo by_ zs i = joinD by_ zs := by unfold joinTo; rw [List.take_of_length_le h]
theorem joinTo_len {zs : List Int} (hb : ∀ x ∈ zs, 0 ≤ x ∧ x ≤ 999) : ∀ i, i ≤ zs.length → (joinTo [44] zs i).length ≤ 4 * i
  | 0, _ => by rw [joinTo_0]; exact Nat.le_refl _
  | i + 1, hi => by
    have ih := joinTo_len hb i (by omega)
    have hd := dec_len3 (hb _ (getD_mem 0 (show i < zs.length by omega))).2
    rcases Nat.eq_zero_or_pos i with h0 | h0
    · rw [joinTo_1 (by omega) h0]; omega
    · rw [joinTo_s (by omega) h0, List.length_append, List.length_append, List.length_singleton]; omega
theorem joinTo_len7 {zs : List Int} (hb : ∀ x ∈ zs, 0 ≤ x ∧ x ≤ 999) : ∀ i, i ≤ zs.length → (joinTo [47] zs i).length ≤ 4 * i
  | 0, _ => by rw [joinTo_0]; exact Nat.le_refl _
  | i + 1, hi => by
    have ih := joinTo_len7 hb i (by omega)
    have hd := dec_len3 (hb _ (getD_mem 0 (show i < zs.length by omega))).2
    rcases Nat.eq_zero_or_pos i with h0 | h0
    · rw [joinTo_1 (by omega) h0]; omega
    · rw [joinTo_s (by omega) h0, List.length_append, List.length_append, List.length_singleton]; omega
theorem joinD_len {zs : List Int} {by_ : List UInt8} (hy : by_ = [44] ∨ by_ = [47]) (hb : ∀ x ∈ zs, 0 ≤ x ∧ x ≤ 999) : (joinD by_ zs).length ≤ 4 * zs.length := by
  rcases hy with rfl | rfl
  · have := joinTo_len hb zs.length (Nat.le_refl _); rwa [joinTo_end (Nat.le_refl _)] at this
  · have := joinTo_len7 hb zs.length (Nat.le_refl _); rwa [joinTo_end (Nat.le_refl _)] at this
/-- The strings that are joined, so far. -/
def strs (zs : List Int) (i : Nat) : List (List UInt8) := mapR (fun j => if j < i then dec (zs.getD j 0) else []) zs.length
theorem strs_len (zs : List Int) (i : Nat) : (strs zs i).length = zs.length := mapR_len _ _
theorem strs_0 {zs : List Int} {n : Nat} (h : zs.length = n) : List.replicate n [] = strs zs 0 := by
  subst h
  unfold strs mapR
  refine List.ext_getElem (by simp) fun j h1 h2 => by simp
theorem strs_s {zs : List Int} {i : Nat} (h : i < zs.length) : (strs zs i).set i (dec (zs.getD i 0)) = strs zs (i + 1) := by
  refine List.ext_getElem (by rw [List.length_set, strs_len, strs_len]) fun j h1 h2 => ?_
  rw [List.getElem_set]
  simp only [strs, mapR, List.getElem_map, List.getElem_range]
  by_cases hj : i = j
  · subst hj; simp
  · rw [if_neg hj]
    by_cases h3 : j < i
    · rw [if_pos h3, if_pos (by omega)]
    · rw [if_neg h3, if_neg (by omega)]
theorem strs_end {zs : List Int} {i : Nat} (h : zs.length ≤ i) : strs zs i = zs.map dec := by
  refine List.ext_getElem (by rw [strs_len, List.length_map]) fun j h1 h2 => ?_
  rw [strs_len] at h1
  simp only [strs, mapR, List.getElem_map, List.getElem_range]
  rw [if_pos (by omega)]
  simp [List.getD, List.getElem?_eq_getElem h1]
/-- A line of a strategy's text. -/
def stLine (s r : List Int) : List UInt8 := dec (s.getD 0 0) ++ [47] ++ dec (s.getD 1 0) ++ [58] ++ joinD [44] r ++ [10]
theorem joinD_2 {s : List Int} (h : s.length = 2) : joinD [47] s = dec (s.getD 0 0) ++ [47] ++ dec (s.getD 1 0) := by
  match s, h with
  | [a, b], _ => simp [joinD, Lib.join_cons, Lib.joinTail]
theorem stLine_i {s : List Int} (h : s.length = 2) (r : List Int) : stLine s r = joinD [47] s ++ [58] ++ joinD [44] r ++ [10] := by
  unfold stLine; rw [joinD_2 h]
def stTo (ss ps : List (List Int)) (i : Nat) : List UInt8 := ((List.range i).map fun j => stLine (ss.getD j []) (ps.getD j [])).flatten
theorem stTo_s (ss ps : List (List Int)) (i : Nat) : stTo ss ps (i + 1) = stTo ss ps i ++ stLine (ss.getD i []) (ps.getD i []) := by
  unfold stTo; rw [List.range_succ, List.map_append, List.flatten_append]; simp
theorem stApp (t : List UInt8) (s r : List Int) : t ++ dec (s.getD 0 0) ++ [47] ++ dec (s.getD 1 0) ++ [58] ++ joinD [44] r ++ [10] = t ++ stLine s r := by
  unfold stLine; simp only [List.append_assoc]
def stText (z : List Nd) (ws vs : List (List Int)) (pl : Int) (ps : List (List Int)) : List UInt8 × Int :=
  if isStrat z ws vs pl ps = true then (stTo (sets z ws.length pl) ps (sets z ws.length pl).length, 0) else ([], 1)
theorem stText_0 {z : List Nd} {ws vs : List (List Int)} {pl : Int} {ps : List (List Int)} {k n : Nat} (h : isStrat z ws vs pl ps = true) (hk : ws.length = k) (hn : (sets z k pl).length = n) : stText z ws vs pl ps = (stTo (sets z k pl) ps n, 0) := by subst hk; subst hn; exact if_pos h
theorem stText_1 {z : List Nd} {ws vs : List (List Int)} {pl : Int} {ps : List (List Int)} (h : isStrat z ws vs pl ps = false) : stText z ws vs pl ps = ([], 1) := if_neg (by rw [h]; decide)
/-- What a line is made of. -/
theorem line_ok {z : List Nd} {ws vs : List (List Int)} {pl : Int} {ps : List (List Int)} {k : Nat} (h : isStrat z ws vs pl ps = true) (hk : ws.length = k) {i : Nat} (hi : i < (sets z k pl).length) :
    i < ps.length ∧ ((sets z k pl).getD i []).length = 2 ∧ (∀ x ∈ (sets z k pl).getD i [], 0 ≤ x ∧ x ≤ 999) ∧ (ps.getD i []).length ≤ 4 ∧ ∀ x ∈ ps.getD i [], 0 ≤ x ∧ x ≤ 999 := by
  subst hk
  obtain ⟨hg, hp, hps⟩ := isStrat_ok h
  have hG := isGame_ok hg
  have hT := isTree_ok hG.1
  have hl := parts_len hps
  have hs := sets_at hi
  obtain ⟨n, c, hn, hc, he⟩ := setsOf_at (xs := nodesOf z pl) (k := ws.length) (i := i) hi
  have he' : (sets z ws.length pl).getD i [] = [n, c] := he
  have hpr := part_row (parts_at hps hi)
  have hw : wide z ((sets z ws.length pl).getD i []) ≤ 4 := wide_le hg hs.2.1
  have hrl := row_len hpr.1
  have hz := hT.1
  have hk6 := hG.2.1
  rw [he'] at hs
  refine ⟨by omega, by rw [he']; rfl, fun x hx => ?_, by omega, fun x hx => ?_⟩
  · rw [he'] at hx
    have h1 : (0 ≤ n ∧ n < z.length) := hs.2.1
    simp only [List.mem_cons, List.not_mem_nil, or_false] at hx
    rcases hx with rfl | rfl <;> omega
  · have h2 := hpr.1
    simp only [rowB, Bool.and_eq_true, decide_eq_true_eq] at h2
    have := List.all_eq_true.1 h2.2 x hx
    simp only [inB, decide_eq_true_eq] at this
    omega
theorem stLine_len {z : List Nd} {ws vs : List (List Int)} {pl : Int} {ps : List (List Int)} {k : Nat} (h : isStrat z ws vs pl ps = true) (hk : ws.length = k) {i : Nat} (hi : i < (sets z k pl).length) : (stLine ((sets z k pl).getD i []) (ps.getD i [])).length ≤ 26 := by
  have hl := line_ok h hk hi
  rw [stLine_i hl.2.1]
  have h1 := joinD_len (.inr rfl) hl.2.2.1
  have h2 := joinD_len (.inl rfl) hl.2.2.2.2
  simp only [List.length_append, List.length_cons, List.length_nil]
  omega
theorem stTo_len {z : List Nd} {ws vs : List (List Int)} {pl : Int} {ps : List (List Int)} {k : Nat} (h : isStrat z ws vs pl ps = true) (hk : ws.length = k) : ∀ {i : Nat}, i ≤ (sets z k pl).length → (stTo (sets z k pl) ps i).length ≤ 26 * i
  | 0, _ => Nat.le_refl _
  | i + 1, hi => by
    have h1 := stLine_len h hk (i := i) (by omega)
    have h2 := stTo_len h hk (i := i) (by omega)
    rw [stTo_s, List.length_append]; omega
end Go.Proofs.YtgnfffdenbiipaaDoor.Math
/- Plain facts: texts of trees. No condition. -/
namespace Go.Proofs.YtgnfffdenbiipaaDoor.Math
open Go.Proofs.YtgnfffdenbiipaaDoor.V
set_option linter.unusedVariables false
/-- How the text of a node begins. -/
def headT (x : Nd) : List UInt8 := if x.pl = 2 then (if x.fo < 0 then [40, 115] else [40, 102] ++ dec x.fo) else [40, 112] ++ dec x.pl
def openT (x : Nd) : List UInt8 := headT x ++ ([32] ++ dec x.p0 ++ [47] ++ dec x.p1)
def textF (z : List Nd) : Nat → Int → List UInt8
 | 0, _ => []
 | f + 1, v => openT (z.getD v.toNat dN) ++ ((z.getD v.toNat dN).ch.map fun c => textF z f c).flatten ++ [41]
def text (z : List Nd) (v : Int) : List UInt8 := textF z z.length v
def textTo (z : List Nd) (v : Int) (i : Nat) : List UInt8 := openT (z.getD v.toNat dN) ++ (((z.getD v.toNat dN).ch.take i).map fun c => text z c).flatten
def textAt (z : List Nd) : List UInt8 × Int := if isTree z = true then (text z 0, 0) else ([], 1)
end Go.Proofs.YtgnfffdenbiipaaDoor.Math
/- Contracts of texts of trees. Their conditions stand in each. -/
namespace Go.Proofs.YtgnfffdenbiipaaDoor
open Go Go.RowKit V
set_option linter.unusedVariables false
set_option linter.unusedSimpArgs false
set_option maxRecDepth 100000
theorem bsl63_1 (v0 : Value) (h0 : v0.cells = #[v0]) : ∀ w, (Instr.buildSlice 63 1 ([(0, v0)] : List (Nat × Value)).toArray).run Tryd.prog w = .ok (.slice (some ⟨w.heap.size, 0, none⟩) 1 1) (w.alloc (.cells ([v0] : List Value).toArray 5)) := by
 intro w; simp [Instr.buildSlice, Instr.fill, Tryd.zeroValue5, Tryd.runUnderlying63, Tryd.sizeOf5, Value.cells_int, newRow, show Array.range 1 = #[0] from by decide, h0]
theorem impl_decimal_c (n : Int) (w : World) (rtab : TabP w) (h0 : 0 ≤ n) (h1 : n ≤ 999) :
  Calls Tryd.prog 46 #[.int .i64 n] w (Ret fun v w' => v = sv (Math.dec n) ∧ Ext w w') := by
 have ktab : Kn w none_ [] (TabP) := fun w' hs => rtab.ext hs.upd
 refine fn (M := none_) (rs := [.tmp 2]) Tryd.func46 rfl Tryd.ntmps46 rfl rfl (Sep.start _ _) ?_
 refine hSeq ?_
 refine hReg (sq 0 sz) (by kernel_rfl) ?_
 refine asn (v := sv []) rfl rfl rfl ?_
 refine rNil ?_
 refine qSeq rfl ?_
 refine hSeq ?_
 refine hReg (sq 0 (sl 1 (sq 2 sz))) (by kernel_rfl) ?_
 refine mvI rfl rfl rfl ?_
 refine callP (v := sv (Math.dec n)) Tryd.call60 trv rfl rfl (fun w hs => formatInt_c _ w (ktab w hs) (by omega) (by omega)) ?_
 refine asn (v := sv (Math.dec n)) rfl rfl rfl ?_
 refine rNil ?_
 refine qSeq rfl ?_
 refine hRet ?_
 exact fun w hs => ⟨[sv (Math.dec n)], ⟨rfl, trivial⟩, ⟨rfl, hs.upd⟩⟩
theorem spec_l01Dec_c_r (kk_ : Nat) : ∀ (n : Int) (w : World), n.toNat = kk_ → (0 ≤ n) → (n ≤ 999) → Calls Tryd.prog 28 #[.int .i64 n] w (Ret fun v w' => v = sv (Math.dec n) ∧ Ext w w') := by
 induction kk_ using Nat.strongRecOn with
 | _ kk_ ih =>
  intro n w hK h0 h1
  refine fn (M := none_) (rs := [.tmp 2]) Tryd.func28 rfl Tryd.ntmps28 rfl rfl (Sep.start _ _) ?_
  refine hSeq ?_
  refine hReg (sq 0 sz) (by kernel_rfl) ?_
  refine asn (v := sv []) rfl rfl rfl ?_
  refine rNil ?_
  refine qSeq rfl ?_
  refine hSeq ?_
  refine hSeq ?_
  refine hReg (sq 0 (sq 1 sz)) (by kernel_rfl) ?_
  refine mvI rfl rfl rfl ?_
  refine lss rfl rfl rfl rfl ?_
  refine rNil ?_
  refine qSeq rfl ?_
  refine hIfD rfl (fun c1 => ?_) (fun c1 => ?_)
  ·
   replace c1 : n < 10 := c1
   refine hSeq ?_
   refine hReg (sq 0 (sq 1 (sq 2 (sl 3 (sl 4 (sq 5 sz)))))) (by kernel_rfl) ?_
   refine mvI rfl rfl rfl ?_
   refine add rfl rfl rfl rfl (by omega) ?_
   refine cnvU8 Tryd.runUnderlying2 Tryd.runUnderlying5 rfl rfl rfl (by omega) ?_
   refine bsl trv1 rfl rfl rfl (bsl63_1 (.int .u8 _) rfl) (fun bkl1 hbkl1 => ?_)
   refine cnvStr [(48 + n)] 0 rfl rfl rfl Tryd.underlying63 Tryd.underlying5 Tryd.underlying9 trv rfl rfl rfl ?_
   refine asn (v := sv (([(48 + n)].map fun z => UInt8.ofNat z.toNat))) rfl rfl rfl ?_
   refine rNil ?_
   refine qSeq rfl ?_
   refine hRet ?_
   exact fun w hs => ⟨[sv (([(48 + n)].map fun z => UInt8.ofNat z.toNat))], ⟨rfl, trivial⟩, ⟨by exact vS (Math.dec_small h0 c1).symm, hs.upd⟩⟩
  ·
   replace c1 : ¬ (n < 10) := c1
   refine hSkip ?_
   refine qSeq rfl ?_
   refine hSeq ?_
   refine hDraw (Ls := []) (by kernel_rfl) (sq 0 (sq 1 (sq 3 (sq 4 (sq 5 (sq 6 (.alt (sl 2 (sl 7 (sl 8 (sq 9 (sq 10 sz))))) (sl 7 (.alt (sl 2 (sl 8 (sq 9 (sq 10 sz)))) (sl 8 (sl 2 (sq 9 (sq 10 sz))))))))))))) (by kernel_rfl) .slnil ?_
   refine mvI rfl rfl rfl ?_
   refine quo rfl rfl rfl rfl (by omega) ?_
   refine mvI rfl rfl rfl ?_
   refine rem rfl rfl rfl rfl (by omega) ?_
   refine add rfl rfl rfl rfl (by omega) ?_
   refine cnvU8 Tryd.runUnderlying2 Tryd.runUnderlying5 rfl rfl rfl (by omega) ?_
   refine rAlt ?_ ?_
   ·
    refine callP (v := sv ((Math.dec (n / 10)))) Tryd.call28 (fun _ h => h.pick []) rfl rfl (fun w hs => ih _ (by omega) _ w rfl (by omega) (by omega)) ?_
    have hslq1 := show (Math.dec (n / 10)).length ≤ 3 from Math.dec_len3 (by omega)
    refine bsl (fun _ _ h => h.pick []) rfl rfl rfl (bsl63_1 (.int .u8 _) rfl) (fun bkl2 hbkl2 => ?_)
    refine cnvStr [(48 + (n % 10))] 0 rfl rfl rfl Tryd.underlying63 Tryd.underlying5 Tryd.underlying9 (fun _ h => h.pick []) rfl rfl rfl ?_
    refine strAdd rfl rfl rfl rfl (by first | (simp only [List.length_append, List.length_cons, List.length_nil, List.length_map]; omega) | omega) ?_
    refine asn (v := sv (((Math.dec (n / 10)) ++ ([(48 + (n % 10))].map fun z => UInt8.ofNat z.toNat)))) rfl rfl rfl ?_
    refine rNil ?_
    refine qSeq rfl ?_
    refine hRet ?_
    exact fun w hs => ⟨[sv (((Math.dec (n / 10)) ++ ([(48 + (n % 10))].map fun z => UInt8.ofNat z.toNat)))], ⟨rfl, trivial⟩, ⟨by exact vS (Math.dec_step c1).symm, hs.upd⟩⟩
   ·
    refine bsl (fun _ _ h => h.pick []) rfl rfl rfl (bsl63_1 (.int .u8 _) rfl) (fun bkl3 hbkl3 => ?_)
    refine rAlt ?_ ?_
    ·
     refine callP (v := sv ((Math.dec (n / 10)))) Tryd.call28 (fun _ h => h.pick []) rfl rfl (fun w hs => ih _ (by omega) _ w rfl (by omega) (by omega)) ?_
     have hslq2 := show (Math.dec (n / 10)).length ≤ 3 from Math.dec_len3 (by omega)
     refine cnvStr [(48 + (n % 10))] 0 rfl rfl rfl Tryd.underlying63 Tryd.underlying5 Tryd.underlying9 (fun _ h => h.pick []) rfl rfl rfl ?_
     refine strAdd rfl rfl rfl rfl (by first | (simp only [List.length_append, List.length_cons, List.length_nil, List.length_map]; omega) | omega) ?_
     refine asn (v := sv (((Math.dec (n / 10)) ++ ([(48 + (n % 10))].map fun z => UInt8.ofNat z.toNat)))) rfl rfl rfl ?_
     refine rNil ?_
     refine qSeq rfl ?_
     refine hRet ?_
     exact fun w hs => ⟨[sv (((Math.dec (n / 10)) ++ ([(48 + (n % 10))].map fun z => UInt8.ofNat z.toNat)))], ⟨rfl, trivial⟩, ⟨by exact vS (Math.dec_step c1).symm, hs.upd⟩⟩
    ·
     refine cnvStr [(48 + (n % 10))] 0 rfl rfl rfl Tryd.underlying63 Tryd.underlying5 Tryd.underlying9 (fun _ h => h.pick []) rfl rfl rfl ?_
     refine callP (v := sv ((Math.dec (n / 10)))) Tryd.call28 (fun _ h => h.pick []) rfl rfl (fun w hs => ih _ (by omega) _ w rfl (by omega) (by omega)) ?_
     have hslq3 := show (Math.dec (n / 10)).length ≤ 3 from Math.dec_len3 (by omega)
     refine strAdd rfl rfl rfl rfl (by first | (simp only [List.length_append, List.length_cons, List.length_nil, List.length_map]; omega) | omega) ?_
     refine asn (v := sv (((Math.dec (n / 10)) ++ ([(48 + (n % 10))].map fun z => UInt8.ofNat z.toNat)))) rfl rfl rfl ?_
     refine rNil ?_
     refine qSeq rfl ?_
     refine hRet ?_
     exact fun w hs => ⟨[sv (((Math.dec (n / 10)) ++ ([(48 + (n % 10))].map fun z => UInt8.ofNat z.toNat)))], ⟨rfl, trivial⟩, ⟨by exact vS (Math.dec_step c1).symm, hs.upd⟩⟩
theorem spec_l01Dec_c (n : Int) (w : World) (h0 : 0 ≤ n) (h1 : n ≤ 999) :
  Calls Tryd.prog 28 #[.int .i64 n] w (Ret fun v w' => v = sv (Math.dec n) ∧ Ext w w') := spec_l01Dec_c_r _ n w rfl h0 h1
end Go.Proofs.YtgnfffdenbiipaaDoor
