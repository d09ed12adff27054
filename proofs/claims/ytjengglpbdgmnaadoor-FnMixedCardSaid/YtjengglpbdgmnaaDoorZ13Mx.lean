/- Contracts of texts of strategies. Their conditions stand in each. -/
import Derived.Test.YtjengglpbdgmnaaDoorZ12Mx
import Derived.Test.YtjengglpbdgmnaaDoorZ1Mx
import Derived.Test.YtjengglpbdgmnaaDoorZ2Mx
import Derived.Test.YtjengglpbdgmnaaDoorZ3Mx
import Derived.Test.YtjengglpbdgmnaaDoorZ4Mx
import Derived.Test.YtjengglpbdgmnaaDoorZ7Mx
import Derived.Test.YtjengglpbdgmnaaDoorRows
namespace Go.Proofs.YtjengglpbdgmnaaDoor
open Go Go.RowKit V
set_option linter.unusedVariables false
set_option linter.unusedSimpArgs false
set_option maxRecDepth 100000
theorem mk98 : Mk Tryd.prog 98 9 1 16 [.string ByteArray.empty] := ⟨Tryd.underlying98, Tryd.t9, _, by kernel_rfl, rfl, rfl, rfl, rfl, rfl, by decide, by decide⟩
theorem el98 : Elt Tryd.prog 98 1 := ⟨9, Tryd.runUnderlying98, Tryd.sizeOf9⟩
theorem impl_joinNumbers_c (az : Option Addr) (nz : Nat) (cz : Nat) (z : List Int) (by_ : List UInt8) (w : World) (rz : RdI az nz z w) (rtab : TabP w) (hy : by_ = [44] ∨ by_ = [47]) (hb : ∀ v ∈ z, 0 ≤ v ∧ v ≤ 999) (hn : nz ≤ 1000) :
  Calls Tryd.prog 37 #[.slice az nz cz, sv by_] w (Ret fun v w' => v = sv (Math.joinD by_ z) ∧ Ext w w') := by
 have kz : Kn w none_ [] (RdI az nz z) := fun w' hs => rz.ext hs.upd
 have lz : z.length = nz := rz.1
 have mz : nz ≤ 9223372036854775807 := rz.2.1
 have ktab : Kn w none_ [] (TabP) := fun w' hs => rtab.ext hs.upd
 refine fn (M := none_) (rs := [.tmp 4]) Tryd.func37 rfl Tryd.ntmps37 rfl rfl (Sep.start _ _) ?_
 refine hSeq ?_
 refine hReg (sq 0 sz) (by kernel_rfl) ?_
 refine asn (v := sv []) rfl rfl rfl ?_
 refine rNil ?_
 refine qSeq rfl ?_
 refine hSeq ?_
 refine hReg (sq 0 (sq 1 (sl 2 (sq 3 sz)))) (by kernel_rfl) ?_
 refine mvS rfl rfl rfl ?_
 refine lenS Tryd.runUnderlying50 rfl rfl rfl ?_
 refine mksR (e1 := 2) nz [] stK.ok rfl rfl mk98 trv1 rfl rfl rfl rfl (rfl) (by omega) (fun bkm1 hbkm1 => ?_)
 refine asS rfl rfl rfl ?_
 refine rNil ?_
 refine qSeq rfl ?_
 refine hSeq ?_
 refine hSeq ?_
 refine hReg (sq 0 (sq 1 (sq 2 sz))) (by kernel_rfl) ?_
 refine mvS rfl rfl rfl ?_
 refine lenS Tryd.runUnderlying50 rfl rfl rfl ?_
 refine mvI rfl rfl rfl ?_
 refine rNil ?_
 refine qSeq rfl ?_
 refine hBlk ?_
 rw [Math.strs_0 lz]
 refine hLoop (α := Nat) (fun i => i ≤ nz) (fun i => nz - i) (fun i => [OwnR stK 9 2 (some ⟨bkm1, 0, none⟩) nz nz ((fun _ => (none, 0))) (Math.strs z i)]) (fun i => [(1, sv by_), (5, .slice (some ⟨bkm1, 0, none⟩) nz nz), (11, .slice az nz cz), (12, .int .i64 (nz : Int)), (13, .int .i64 (i : Int))]) 0 (Nat.zero_le _) (fun _ h => h.pick [0]) ⟨rfl, rfl, rfl, rfl, rfl, trivial⟩ ?_
 rintro i τ1 hi
 refine hSeq ?_
 refine hReg (sq 0 sz) (by kernel_rfl) ?_
 refine lss rfl rfl rfl rfl ?_
 refine rNil ?_
 refine qSeq rfl ?_
 refine hSeq ?_
 refine hIfD rfl (fun c1 => ?_) (fun c1 => ?_)
 ·
  replace c1 : (i : Int) < (nz : Int) := c1
  have hel := hb _ (Math.getD_mem 0 (show i < z.length by omega))
  refine hSkip ?_
  refine qSeq rfl ?_
  refine hSeq ?_
  refine hBlk ?_
  refine hSeq ?_
  refine hReg (sq 0 (sq 1 (sl 2 (sq 3 (sq 4 sz))))) (by kernel_rfl) ?_
  refine mvI rfl rfl rfl ?_
  refine ixIl (zn := i) el50 (Kn.drop (k := 1) kz) rfl rfl rfl rfl (by omega) (by omega) rfl ?_
  intro ae1 e1
  refine ldl Tryd.isAgg2 (e1) trv rfl rfl rfl ?_
  refine asI rfl rfl rfl ?_
  refine asI rfl rfl rfl ?_
  refine rNil ?_
  refine qSeq rfl ?_
  refine hReg (sq 0 (sq 1 (sq 2 (sl 3 (sq 4 (sl 5 sz)))))) (by kernel_rfl) ?_
  refine mvS rfl rfl rfl ?_
  refine mvI rfl rfl rfl ?_
  refine mvI rfl rfl rfl ?_
  refine callP (v := sv ((Math.dec (z.getD i 0)))) Tryd.call65 trv rfl rfl (fun w hs => impl_decimal_c _ w (Kn.drop (k := 1) ktab w hs) (by omega) (by omega)) ?_
  have hslq2 := show (Math.dec (z.getD i 0)).length ≤ 3 from Math.dec_len3 (by omega)
  refine oxR (zn := i) 0 rfl el98 rfl rfl rfl rfl (by omega) (by omega) rfl ?_
  intro gk3 hgk3
  refine stRc (f := 0) (v := sv ((Math.dec (z.getD i 0)))) ((Math.strs z i).getD i []) ((Math.dec (z.getD i 0))) i 0 stK.ok rfl hgk3 (nth [] (by rw [Math.strs_len]; omega)) rfl rfl Tryd.sizeOf9 trv rfl rfl rfl rfl (by decide) rfl rfl ?_
  refine rNil ?_
  refine qSeq rfl ?_
  refine hReg (sq 0 (sq 1 sz)) (by kernel_rfl) ?_
  refine add rfl rfl rfl rfl (by omega) ?_
  refine mvI rfl rfl rfl ?_
  refine rNil ?_
  rw [Math.strs_s (by omega)]
  exact qNext rfl (i + 1) (by omega) (by omega) ⟨rfl, rfl, rfl, rfl, rfl, trivial⟩ (fun _ h => h.pick [0])
 ·
  replace c1 : ¬ ((i : Int) < (nz : Int)) := c1
  have hjl : (Lib.join (Math.strs z i) by_).length ≤ 4 * z.length := by rw [Math.strs_end (by omega)]; exact Math.joinD_len hy hb
  refine hExit rfl ?_
  refine qSeq rfl ?_
  refine hSeq ?_
  refine hReg (sq 0 (sq 1 (sl 2 (sq 3 sz)))) (by kernel_rfl) ?_
  refine mvS rfl rfl rfl ?_
  refine mv (v := sv by_) rfl rfl rfl ?_
  refine callP (v := sv ((Lib.join (Math.strs z i) by_))) Tryd.call66 trv rfl rfl (fun w hs => join_c _ nz nz _ _ _ w (OwnR.rd (hs.at_ 0 rfl) stK.ok) (by omega) (by omega) (by omega)) ?_
  refine asn (v := sv ((Lib.join (Math.strs z i) by_))) rfl rfl rfl ?_
  refine rNil ?_
  refine qSeq rfl ?_
  refine hRet ?_
  exact fun w hs => ⟨[sv ((Lib.join (Math.strs z i) by_))], ⟨rfl, trivial⟩, ⟨by rw [Math.strs_end (by omega)]; rfl, hs.upd⟩⟩
theorem spec_l15List_c (az : Option Addr) (nz : Nat) (cz : Nat) (z : List Int) (w : World) (rz : RdI az nz z w) (hb : ∀ v ∈ z, 0 ≤ v ∧ v ≤ 999) (hn : nz ≤ 1000) :
  Calls Tryd.prog 41 #[.slice az nz cz] w (Ret fun v w' => v = sv (Math.joinD [44] z) ∧ Ext w w') := by
 have kz : Kn w none_ [] (RdI az nz z) := fun w' hs => rz.ext hs.upd
 have lz : z.length = nz := rz.1
 have mz : nz ≤ 9223372036854775807 := rz.2.1
 refine fn (M := none_) (rs := [.tmp 2]) Tryd.func41 rfl Tryd.ntmps41 rfl rfl (Sep.start _ _) ?_
 refine hSeq ?_
 refine hReg (sq 0 sz) (by kernel_rfl) ?_
 refine asn (v := sv []) rfl rfl rfl ?_
 refine rNil ?_
 refine qSeq rfl ?_
 refine hSeq ?_
 refine hReg (sq 0 sz) (by kernel_rfl) ?_
 refine asn (v := sv []) rfl rfl rfl ?_
 refine rNil ?_
 refine qSeq rfl ?_
 refine hSeq ?_
 refine hSeq ?_
 refine hReg (sq 0 sz) (by kernel_rfl) ?_
 refine asI rfl rfl rfl ?_
 refine rNil ?_
 refine qSeq rfl ?_
 refine hBlk ?_
 refine hLoop (α := Nat) (fun i => i ≤ nz) (fun i => nz - i) (fun i => []) (fun i => [(0, .slice az nz cz), (3, sv (Math.joinTo [44] z i)), (4, .int .i64 (i : Int))]) 0 (Nat.zero_le _) (fun _ h => h.pick []) ⟨rfl, rfl, rfl, trivial⟩ ?_
 rintro i τ1 hi
 have hjl := Math.joinTo_len hb i (by omega)
 refine hSeq ?_
 refine hSeq ?_
 refine hReg (sq 0 (sq 1 (sq 2 (sq 3 sz)))) (by kernel_rfl) ?_
 refine mvI rfl rfl rfl ?_
 refine mvS rfl rfl rfl ?_
 refine lenS Tryd.runUnderlying50 rfl rfl rfl ?_
 refine lss rfl rfl rfl rfl ?_
 refine rNil ?_
 refine qSeq rfl ?_
 refine hIfD rfl (fun c1 => ?_) (fun c1 => ?_)
 ·
  replace c1 : (i : Int) < (nz : Int) := c1
  have hel := hb _ (Math.getD_mem 0 (show i < z.length by omega))
  refine hSkip ?_
  refine qSeq rfl ?_
  refine hSeq ?_
  refine hBlk ?_
  refine hSeq ?_
  refine hSeq ?_
  refine hReg (sq 0 (sq 1 sz)) (by kernel_rfl) ?_
  refine mvI rfl rfl rfl ?_
  refine gtr rfl rfl rfl rfl ?_
  refine rNil ?_
  refine qSeq rfl ?_
  refine hIfD rfl (fun c2 => ?_) (fun c2 => ?_)
  ·
   replace c2 : 0 < (i : Int) := c2
   refine hReg (sq 0 (sq 1 (sq 2 sz))) (by kernel_rfl) ?_
   refine mv (v := sv (Math.joinTo [44] z i)) rfl rfl rfl ?_
   refine strAdd rfl rfl rfl rfl (by first | (simp only [List.length_append, List.length_cons, List.length_nil, List.length_map]; omega) | omega) ?_
   refine asn (v := sv (((Math.joinTo [44] z i) ++ [44]))) rfl rfl rfl ?_
   refine rNil ?_
   refine qSeq rfl ?_
   refine hReg (sq 0 (sq 1 (sq 2 (sq 3 (sl 4 (sl 5 (sq 6 (sq 7 sz)))))))) (by kernel_rfl) ?_
   refine mv (v := sv (((Math.joinTo [44] z i) ++ [44]))) rfl rfl rfl ?_
   refine mvS rfl rfl rfl ?_
   refine mvI rfl rfl rfl ?_
   refine ixIl (zn := i) el50 (kz) rfl rfl rfl rfl (by omega) (by omega) rfl ?_
   intro ae1 e1
   refine ldl Tryd.isAgg2 (e1) trv rfl rfl rfl ?_
   refine callP (v := sv ((Math.dec (z.getD i 0)))) Tryd.call40 trv rfl rfl (fun w hs => spec_l01Dec_c _ w (by omega) (by omega)) ?_
   have hslq2 := show (Math.dec (z.getD i 0)).length ≤ 3 from Math.dec_len3 (by omega)
   refine strAdd rfl rfl rfl rfl (by first | (simp only [List.length_append, List.length_cons, List.length_nil, List.length_map]; omega) | omega) ?_
   refine asn (v := sv ((((Math.joinTo [44] z i) ++ [44]) ++ (Math.dec (z.getD i 0))))) rfl rfl rfl ?_
   refine rNil ?_
   refine qSeq rfl ?_
   refine hReg (sq 0 (sq 1 (sq 2 sz))) (by kernel_rfl) ?_
   refine mvI rfl rfl rfl ?_
   refine add rfl rfl rfl rfl (by omega) ?_
   refine asI rfl rfl rfl ?_
   refine rNil ?_
   rw [← Math.joinTo_s (by omega) (by omega)]
   exact qNext rfl (i + 1) (by omega) (by omega) ⟨rfl, rfl, rfl, trivial⟩ (fun _ h => h.pick [])
  ·
   replace c2 : ¬ (0 < (i : Int)) := c2
   refine hSkip ?_
   refine qSeq rfl ?_
   refine hReg (sq 0 (sq 1 (sq 2 (sq 3 (sl 4 (sl 5 (sq 6 (sq 7 sz)))))))) (by kernel_rfl) ?_
   refine mv (v := sv (Math.joinTo [44] z i)) rfl rfl rfl ?_
   refine mvS rfl rfl rfl ?_
   refine mvI rfl rfl rfl ?_
   refine ixIl (zn := i) el50 (kz) rfl rfl rfl rfl (by omega) (by omega) rfl ?_
   intro ae3 e3
   refine ldl Tryd.isAgg2 (e3) trv rfl rfl rfl ?_
   refine callP (v := sv ((Math.dec (z.getD i 0)))) Tryd.call40 trv rfl rfl (fun w hs => spec_l01Dec_c _ w (by omega) (by omega)) ?_
   have hslq4 := show (Math.dec (z.getD i 0)).length ≤ 3 from Math.dec_len3 (by omega)
   refine strAdd rfl rfl rfl rfl (by first | (simp only [List.length_append, List.length_cons, List.length_nil, List.length_map]; omega) | omega) ?_
   refine asn (v := sv (((Math.joinTo [44] z i) ++ (Math.dec (z.getD i 0))))) rfl rfl rfl ?_
   refine rNil ?_
   refine qSeq rfl ?_
   refine hReg (sq 0 (sq 1 (sq 2 sz))) (by kernel_rfl) ?_
   refine mvI rfl rfl rfl ?_
   refine add rfl rfl rfl rfl (by omega) ?_
   refine asI rfl rfl rfl ?_
   refine rNil ?_
   rw [← Math.joinTo_z (by omega) (by omega)]
   exact qNext rfl (i + 1) (by omega) (by omega) ⟨rfl, rfl, rfl, trivial⟩ (fun _ h => h.pick [])
 ·
  replace c1 : ¬ ((i : Int) < (nz : Int)) := c1
  refine hExit rfl ?_
  refine qSeq rfl ?_
  refine hSeq ?_
  refine hReg (sq 0 (sq 1 sz)) (by kernel_rfl) ?_
  refine mv (v := sv (Math.joinTo [44] z i)) rfl rfl rfl ?_
  refine asn (v := sv (Math.joinTo [44] z i)) rfl rfl rfl ?_
  refine rNil ?_
  refine qSeq rfl ?_
  refine hRet ?_
  exact fun w hs => ⟨[sv (Math.joinTo [44] z i)], ⟨rfl, trivial⟩, ⟨by rw [Math.joinTo_end (by omega)]; rfl, hs.upd⟩⟩
theorem impl_StrategyText_c (az : Option Addr) (nz : Nat) (cz : Nat) (Hz : Nat → Hd) (z : List Nd) (aws : Option Addr) (nws : Nat) (cws : Nat) (Hws : Nat → Hd) (ws : List (List Int)) (avs : Option Addr) (nvs : Nat) (cvs : Nat) (Hvs : Nat → Hd) (vs : List (List Int)) (pl : Int) (aps : Option Addr) (nps : Nat) (cps : Nat) (Hps : Nat → Hd) (ps : List (List Int)) (w : World) (rz : RdR ndK az nz Hz z w) (rws : RdR maK aws nws Hws ws w) (rvs : RdR maK avs nvs Hvs vs w) (rps : RdR maK aps nps Hps ps w) (rtab : TabP w) :
  Calls Tryd.prog 10 #[.agg #[.slice az nz cz, .slice aws nws cws, .slice avs nvs cvs], .agg #[.int .i64 pl, .slice aps nps cps]] w (Ret fun v w' => v = .tuple #[sv ((Math.stText z ws vs pl ps).1), .int .i64 ((Math.stText z ws vs pl ps).2)] ∧ Ext w w') := by
 have kz : Kn w none_ [] (RdR ndK az nz Hz z) := fun w' hs => rz.ext hs.upd
 have lz : z.length = nz := rz.1
 have mz : nz ≤ 9223372036854775807 := rz.2.1
 have kws : Kn w none_ [] (RdR maK aws nws Hws ws) := fun w' hs => rws.ext hs.upd
 have lws : ws.length = nws := rws.1
 have mws : nws ≤ 9223372036854775807 := rws.2.1
 have kvs : Kn w none_ [] (RdR maK avs nvs Hvs vs) := fun w' hs => rvs.ext hs.upd
 have lvs : vs.length = nvs := rvs.1
 have mvs : nvs ≤ 9223372036854775807 := rvs.2.1
 have kps : Kn w none_ [] (RdR maK aps nps Hps ps) := fun w' hs => rps.ext hs.upd
 have lps : ps.length = nps := rps.1
 have mps : nps ≤ 9223372036854775807 := rps.2.1
 have ktab : Kn w none_ [] (TabP) := fun w' hs => rtab.ext hs.upd
 refine fn (M := none_) (rs := [.tmp 4, .tmp 5]) Tryd.func10 rfl Tryd.ntmps10 rfl rfl (Sep.start _ _) ?_
 refine hSeq ?_
 refine hReg (sl 0 (sl 1 (sq 2 (sq 3 sz)))) (by kernel_rfl) ?_
 refine box trv1 rfl rfl rfl rfl (fun bkb1 hbkb1 => ?_)
 refine box trv1 rfl rfl rfl rfl (fun bkb2 hbkb2 => ?_)
 refine asn (v := sv []) rfl rfl rfl ?_
 refine asI rfl rfl rfl ?_
 refine rNil ?_
 refine qSeq rfl ?_
 refine hSeq ?_
 refine hSeq ?_
 refine hReg (sl 0 (sl 1 (sl 2 (sq 3 sz)))) (by kernel_rfl) ?_
 refine ldAl Tryd.isAgg29 Tryd.sizeOf29 (cBs 1 rfl) trv rfl rfl rfl rfl ?_
 refine ldAl Tryd.isAgg31 Tryd.sizeOf31 (cBs 0 rfl) trv rfl rfl rfl rfl ?_
 refine callP (v := .bool (Math.isStrat z ws vs pl ps)) Tryd.call13 trv rfl rfl (fun w hs => impl_IsStrategy_c _ nz cz _ _ _ nws cws _ _ _ nvs cvs _ _ _ _ nps cps _ _ w (Kn.drop (k := 2) kz w hs) (Kn.drop (k := 2) kws w hs) (Kn.drop (k := 2) kvs w hs) (Kn.drop (k := 2) kps w hs)) ?_
 refine not rfl rfl rfl ?_
 refine rNil ?_
 refine qSeq rfl ?_
 refine hIfN rfl (fun c1 => ?_) (fun c1 => ?_)
 ·
  replace c1 : (Math.isStrat z ws vs pl ps) = false := c1
  refine hSeq ?_
  refine hReg (sq 0 (sq 1 sz)) (by kernel_rfl) ?_
  refine asn (v := sv []) rfl rfl rfl ?_
  refine asI rfl rfl rfl ?_
  refine rNil ?_
  refine qSeq rfl ?_
  refine hRet ?_
  exact fun w hs => ⟨[sv [], .int .i64 1], ⟨rfl, ⟨rfl, trivial⟩⟩, ⟨by rw [Math.stText_1 (by assumption)]; rfl, hs.upd⟩⟩
 ·
  replace c1 : (Math.isStrat z ws vs pl ps) = true := c1
  have hG := Math.isGame_ok (Math.isStrat_ok c1).1
  rw [lws] at hG
  have hT := Math.isTree_ok hG.1
  have hvl := Math.mat_len hG.2.2.2.1
  have hsl := Math.sets_len (z := z) (p := pl) (show nws ≤ 6 by omega)
  refine hSkip ?_
  refine qSeq rfl ?_
  refine hSeq ?_
  refine hReg (sl 0 sz) (by kernel_rfl) ?_
  refine alc Tryd.zeroValue66 rfl trv1 rfl rfl (fun bka3 hbka3 => ?_)
  refine rNil ?_
  refine qSeq rfl ?_
  refine hSeq ?_
  refine hSeq ?_
  refine hReg (sl 0 (sq 1 (sl 2 (sl 3 (sq 4 (sq 5 sz)))))) (by kernel_rfl) ?_
  refine ldAl Tryd.isAgg29 Tryd.sizeOf29 (cBs 2 rfl) trv rfl rfl rfl rfl ?_
  refine fld fl31_0 rfl rfl rfl ?_
  refine ldl Tryd.isAgg2 (cB 1 rfl rfl) trv rfl rfl rfl ?_
  refine callS Tryd.call35 trv1 rfl rfl (fun w hs => impl_infoSets_c _ nz cz _ _ _ nws cws _ _ _ nvs cvs _ _ _ w (Kn.drop (k := 3) kz w hs) (Kn.drop (k := 3) kws w hs) (Kn.drop (k := 3) kvs w hs) (by omega) (by omega)) ?_
  rintro ⟨ay1, ny1, cy1, Hy1, y1⟩ hr1
  dsimp only at hr1
  subst y1
  refine rPieces (L' := [OwnR maK 50 2 ay1 ny1 cy1 Hy1 (Math.sets z nws pl), blk bka3 66 [.pointer none, .slice none 0 0], blk bkb2 31 [.int .i64 pl, .slice aps nps cps], blk bkb1 29 [.slice az nz cz, .slice aws nws cws, .slice avs nvs cvs]]) (fun _ h => h) ?_
  refine rKnow (fun w hs => (show OwnR maK 50 2 ay1 ny1 cy1 Hy1 (Math.sets z nws pl) w from hs.at_ 0 rfl).1) (fun lenn4 => ?_)
  refine lenS Tryd.runUnderlying27 rfl rfl rfl ?_
  refine mvI rfl rfl rfl ?_
  refine rNil ?_
  refine qSeq rfl ?_
  refine hBlk ?_
  refine hPieces (L' := [OwnR maK 50 2 ay1 ny1 cy1 Hy1 (Math.sets z nws pl), Bld 66 5 w.heap.size bka3 [], blk bkb2 31 [.int .i64 pl, .slice aps nps cps], blk bkb1 29 [.slice az nz cz, .slice aws nws cws, .slice avs nvs cvs]]) (fun _ h => h.bld 1 rfl) ?_
  refine hLoop (α := Nat) (fun i => i ≤ ny1) (fun i => ny1 - i) (fun i => [OwnR maK 50 2 ay1 ny1 cy1 Hy1 (Math.sets z nws pl), Bld 66 5 w.heap.size bka3 ((Math.stTo (Math.sets z nws pl) ps i)), blk bkb2 31 [.int .i64 pl, .slice aps nps cps], blk bkb1 29 [.slice az nz cz, .slice aws nws cws, .slice avs nvs cvs]]) (fun i => [(3, .pointer (some ⟨bkb2, 0, none⟩)), (6, .pointer (some ⟨bka3, 0, none⟩)), (16, .slice ay1 ny1 cy1), (17, .int .i64 (ny1 : Int)), (18, .int .i64 (i : Int))]) 0 (Nat.zero_le _) (fun _ h => h.pick [0, 0, 0, 0]) ⟨rfl, rfl, rfl, rfl, rfl, trivial⟩ ?_
  rintro i τ1 hi
  refine hSeq ?_
  refine hReg (sq 0 sz) (by kernel_rfl) ?_
  refine lss rfl rfl rfl rfl ?_
  refine rNil ?_
  refine qSeq rfl ?_
  refine hSeq ?_
  refine hIfD rfl (fun c2 => ?_) (fun c2 => ?_)
  ·
   replace c2 : (i : Int) < (ny1 : Int) := c2
   have hln := Math.line_ok c1 lws (i := i) (by omega)
   have hd0 := hln.2.2.1 _ (Math.getD_mem 0 (show 0 < ((Math.sets z nws pl).getD i []).length by omega))
   have hd1 := hln.2.2.1 _ (Math.getD_mem 0 (show 1 < ((Math.sets z nws pl).getD i []).length by omega))
   have hll := hln.2.2.1
   have hlr := hln.2.2.2.2
   have htl := Math.stTo_len c1 lws (i := i) (by omega)
   refine hSkip ?_
   refine qSeq rfl ?_
   refine hSeq ?_
   refine hBlk ?_
   refine hSeq ?_
   refine hReg (sq 0 (sq 1 (sl 2 (sq 3 (sq 4 sz))))) (by kernel_rfl) ?_
   refine mvI rfl rfl rfl ?_
   refine ixRl (zn := i) ((Math.sets z nws pl).getD i []) el27 ((Kn.at_ 0 rfl).imp fun _ h => OwnR.rd h maK.ok) rfl rfl rfl rfl (by omega) (by omega) rfl (nth [] (by omega)) ?_
   intro be2 oe2 e2
   refine ldl Tryd.isAgg50 (Kn.fld e2 0 rfl) trv rfl rfl rfl ?_
   refine asI rfl rfl rfl ?_
   refine asS rfl rfl rfl ?_
   refine rNil ?_
   refine qSeq rfl ?_
   refine hDraw (Ls := [blk bkb2 31 [.int .i64 pl, .slice aps nps cps]]) (by kernel_rfl) (sq 0 (sq 3 (sq 4 (sq 5 (sq 6 (sq 7 (sl 1 (sq 2 (sl 8 (sq 9 (sq 10 (sl 11 sz)))))))))))) (by kernel_rfl) (.cons _ (.cons _ (.cons_cons _ (.cons _ .slnil)))) ?_
   refine mvS rfl rfl rfl ?_
   refine fld fl31_1 rfl rfl rfl ?_
   refine ldq Tryd.isAgg27 (cB 0 rfl rfl) rfl rfl rfl ?_
   refine mvI rfl rfl rfl ?_
   refine ixRq (zn := i) (ps.getD i []) el27 (Kn.drop (k := 1) kps) (fun _ h => h.pick [2]) rfl rfl rfl rfl (by omega) (by omega) rfl (nth [] (by omega)) ?_
   intro be3 oe3 e3
   refine ldq Tryd.isAgg50 (Kn.fld e3 0 rfl) rfl rfl rfl ?_
   refine callP (v := sv ((Math.joinD [47] (((Math.sets z nws pl).getD i []))))) Tryd.call37 (fun _ h => h.pick [2]) rfl rfl (fun w hs => impl_joinNumbers_c _ (((Math.sets z nws pl).getD i []).length) ((Hy1 i).2) _ _ w ((Kn.imp ((Kn.at_ (φ := OwnR maK 50 2 ay1 ny1 cy1 Hy1 (Math.sets z nws pl)) 0 rfl).imp fun _ h => OwnR.rd h maK.ok) fun _ h => h.kidM (nth [] (by omega))) w hs) (Kn.drop (k := 4) ktab w hs) (by first | exact .inl rfl | exact .inr rfl) (by assumption) (by omega)) ?_
   have hslq4 := show (Math.joinD [47] (((Math.sets z nws pl).getD i []))).length ≤ 4 * (((Math.sets z nws pl).getD i [])).length from Math.joinD_len (by first | assumption | exact .inl rfl | exact .inr rfl) (by assumption)
   refine strAdd rfl rfl rfl rfl (by first | (simp only [List.length_append, List.length_cons, List.length_nil, List.length_map]; omega) | omega) ?_
   refine callP (v := sv ((Math.joinD [44] (ps.getD i [])))) Tryd.call37 (fun _ h => h.pick [2]) rfl rfl (fun w hs => impl_joinNumbers_c _ ((ps.getD i []).length) ((Hps i).2) _ _ w (Kn.drop (k := 4) ((Kn.imp kps fun _ h => h.kidM (nth [] (by omega)))) w hs) (Kn.drop (k := 4) ktab w hs) (by first | exact .inl rfl | exact .inr rfl) (by assumption) (by omega)) ?_
   have hslq5 := show (Math.joinD [44] (ps.getD i [])).length ≤ 4 * (ps.getD i []).length from Math.joinD_len (by first | assumption | exact .inl rfl | exact .inr rfl) (by assumption)
   refine strAdd rfl rfl rfl rfl (by first | (simp only [List.length_append, List.length_cons, List.length_nil, List.length_map]; omega) | omega) ?_
   refine strAdd rfl rfl rfl rfl (by first | (simp only [List.length_append, List.length_cons, List.length_nil, List.length_map]; omega) | omega) ?_
   refine rPieces (L' := [Bld 66 5 w.heap.size bka3 ((Math.stTo (Math.sets z nws pl) ps i)), OwnR maK 50 2 ay1 ny1 cy1 Hy1 (Math.sets z nws pl), blk bkb2 31 [.int .i64 pl, .slice aps nps cps], blk bkb1 29 [.slice az nz cz, .slice aws nws cws, .slice avs nvs cvs]]) (fun _ h => h.perm (pull (i := 1) rfl)) ?_
   refine bWrite (l := (Math.stTo (Math.sets z nws pl) ps i)) (m := ((((Math.joinD [47] (((Math.sets z nws pl).getD i []))) ++ [58]) ++ (Math.joinD [44] (ps.getD i []))) ++ [10])) wr_c (AllNu.cons (nuR (by decide) (by decide)) (AllNu.cons (nuB (by decide)) (AllNu.cons (nuB (by decide)) (AllNu.nil)))) (by first | omega | (simp only [List.length_append, List.length_cons, List.length_nil]; omega)) Tryd.call36 (fun _ h => h.pick [2]) rfl rfl rfl ?_
   refine rNil ?_
   refine qSeq rfl ?_
   refine hReg (sq 0 (sq 1 sz)) (by kernel_rfl) ?_
   refine add rfl rfl rfl rfl (by omega) ?_
   refine mvI rfl rfl rfl ?_
   refine rNil ?_
   rw [← Math.stLine_i hln.2.1, ← Math.stTo_s]
   exact qNext rfl (i + 1) (by omega) (by omega) ⟨rfl, rfl, rfl, rfl, rfl, trivial⟩ (fun _ h => h.pick [1, 0, 0, 0])
  ·
   replace c2 : ¬ ((i : Int) < (ny1 : Int)) := c2
   refine hExit rfl ?_
   refine qSeq rfl ?_
   refine hSeq ?_
   refine hReg (sl 0 (sq 1 (sq 2 sz))) (by kernel_rfl) ?_
   refine rPieces (L' := [Bld 66 5 w.heap.size bka3 ((Math.stTo (Math.sets z nws pl) ps i)), OwnR maK 50 2 ay1 ny1 cy1 Hy1 (Math.sets z nws pl), blk bkb2 31 [.int .i64 pl, .slice aps nps cps], blk bkb1 29 [.slice az nz cz, .slice aws nws cws, .slice avs nvs cvs]]) (fun _ h => h.perm (pull (i := 1) rfl)) ?_
   refine bString (l := (Math.stTo (Math.sets z nws pl) ps i)) stg_c (AllNu.cons (nuR (by decide) (by decide)) (AllNu.cons (nuB (by decide)) (AllNu.cons (nuB (by decide)) (AllNu.nil)))) Tryd.call38 trv rfl rfl rfl ?_
   refine asn (v := sv ((Math.stTo (Math.sets z nws pl) ps i))) rfl rfl rfl ?_
   refine asI rfl rfl rfl ?_
   refine rNil ?_
   refine qSeq rfl ?_
   refine hRet ?_
   exact fun w hs => ⟨[sv ((Math.stTo (Math.sets z nws pl) ps i)), .int .i64 0], ⟨rfl, ⟨rfl, trivial⟩⟩, ⟨by rw [Math.stText_0 (by assumption) lws (show _ = i by omega)]; rfl, hs.upd⟩⟩
theorem spec_StrategyText_c (az : Option Addr) (nz : Nat) (cz : Nat) (Hz : Nat → Hd) (z : List Nd) (aws : Option Addr) (nws : Nat) (cws : Nat) (Hws : Nat → Hd) (ws : List (List Int)) (avs : Option Addr) (nvs : Nat) (cvs : Nat) (Hvs : Nat → Hd) (vs : List (List Int)) (pl : Int) (aps : Option Addr) (nps : Nat) (cps : Nat) (Hps : Nat → Hd) (ps : List (List Int)) (w : World) (rz : RdR ndK az nz Hz z w) (rws : RdR maK aws nws Hws ws w) (rvs : RdR maK avs nvs Hvs vs w) (rps : RdR maK aps nps Hps ps w) :
  Calls Tryd.prog 11 #[.agg #[.slice az nz cz, .slice aws nws cws, .slice avs nvs cvs], .agg #[.int .i64 pl, .slice aps nps cps]] w (Ret fun v w' => v = .tuple #[sv ((Math.stText z ws vs pl ps).1), .int .i64 ((Math.stText z ws vs pl ps).2)] ∧ Ext w w') := by
 have kz : Kn w none_ [] (RdR ndK az nz Hz z) := fun w' hs => rz.ext hs.upd
 have lz : z.length = nz := rz.1
 have mz : nz ≤ 9223372036854775807 := rz.2.1
 have kws : Kn w none_ [] (RdR maK aws nws Hws ws) := fun w' hs => rws.ext hs.upd
 have lws : ws.length = nws := rws.1
 have mws : nws ≤ 9223372036854775807 := rws.2.1
 have kvs : Kn w none_ [] (RdR maK avs nvs Hvs vs) := fun w' hs => rvs.ext hs.upd
 have lvs : vs.length = nvs := rvs.1
 have mvs : nvs ≤ 9223372036854775807 := rvs.2.1
 have kps : Kn w none_ [] (RdR maK aps nps Hps ps) := fun w' hs => rps.ext hs.upd
 have lps : ps.length = nps := rps.1
 have mps : nps ≤ 9223372036854775807 := rps.2.1
 refine fn (M := none_) (rs := [.tmp 4, .tmp 5]) Tryd.func11 rfl Tryd.ntmps11 rfl rfl (Sep.start _ _) ?_
 refine hSeq ?_
 refine hReg (sl 0 (sl 1 (sq 2 (sq 3 sz)))) (by kernel_rfl) ?_
 refine box trv1 rfl rfl rfl rfl (fun bkb1 hbkb1 => ?_)
 refine box trv1 rfl rfl rfl rfl (fun bkb2 hbkb2 => ?_)
 refine asn (v := sv []) rfl rfl rfl ?_
 refine asI rfl rfl rfl ?_
 refine rNil ?_
 refine qSeq rfl ?_
 refine hSeq ?_
 refine hSeq ?_
 refine hReg (sl 0 (sl 1 (sl 2 (sq 3 sz)))) (by kernel_rfl) ?_
 refine ldAl Tryd.isAgg29 Tryd.sizeOf29 (cBs 1 rfl) trv rfl rfl rfl rfl ?_
 refine ldAl Tryd.isAgg31 Tryd.sizeOf31 (cBs 0 rfl) trv rfl rfl rfl rfl ?_
 refine callP (v := .bool (Math.isStrat z ws vs pl ps)) Tryd.call31 trv rfl rfl (fun w hs => spec_IsStrategy_c _ nz cz _ _ _ nws cws _ _ _ nvs cvs _ _ _ _ nps cps _ _ w (Kn.drop (k := 2) kz w hs) (Kn.drop (k := 2) kws w hs) (Kn.drop (k := 2) kvs w hs) (Kn.drop (k := 2) kps w hs)) ?_
 refine not rfl rfl rfl ?_
 refine rNil ?_
 refine qSeq rfl ?_
 refine hIfN rfl (fun c1 => ?_) (fun c1 => ?_)
 ·
  replace c1 : (Math.isStrat z ws vs pl ps) = false := c1
  refine hSeq ?_
  refine hReg (sq 0 (sq 1 sz)) (by kernel_rfl) ?_
  refine asn (v := sv []) rfl rfl rfl ?_
  refine asI rfl rfl rfl ?_
  refine rNil ?_
  refine qSeq rfl ?_
  refine hRet ?_
  exact fun w hs => ⟨[sv [], .int .i64 1], ⟨rfl, ⟨rfl, trivial⟩⟩, ⟨by rw [Math.stText_1 (by assumption)]; rfl, hs.upd⟩⟩
 ·
  replace c1 : (Math.isStrat z ws vs pl ps) = true := c1
  have hG := Math.isGame_ok (Math.isStrat_ok c1).1
  rw [lws] at hG
  have hT := Math.isTree_ok hG.1
  have hvl := Math.mat_len hG.2.2.2.1
  have hsl := Math.sets_len (z := z) (p := pl) (show nws ≤ 6 by omega)
  refine hSkip ?_
  refine qSeq rfl ?_
  refine hSeq ?_
  refine hReg (sl 0 (sq 1 (sl 2 (sl 3 (sq 4 sz))))) (by kernel_rfl) ?_
  refine ldAl Tryd.isAgg29 Tryd.sizeOf29 (cBs 1 rfl) trv rfl rfl rfl rfl ?_
  refine fld fl31_0 rfl rfl rfl ?_
  refine ldl Tryd.isAgg2 (cB 0 rfl rfl) trv rfl rfl rfl ?_
  refine callS Tryd.call39 trv1 rfl rfl (fun w hs => spec_l21Sets_c _ nz cz _ _ _ nws cws _ _ _ nvs cvs _ _ _ w (Kn.drop (k := 2) kz w hs) (Kn.drop (k := 2) kws w hs) (Kn.drop (k := 2) kvs w hs) (by omega) (by omega)) ?_
  rintro ⟨ay1, ny1, cy1, Hy1, y1⟩ hr1
  dsimp only at hr1
  subst y1
  refine rPieces (L' := [OwnR maK 50 2 ay1 ny1 cy1 Hy1 (Math.sets z nws pl), blk bkb2 31 [.int .i64 pl, .slice aps nps cps], blk bkb1 29 [.slice az nz cz, .slice aws nws cws, .slice avs nvs cvs]]) (fun _ h => h) ?_
  refine rKnow (fun w hs => (show OwnR maK 50 2 ay1 ny1 cy1 Hy1 (Math.sets z nws pl) w from hs.at_ 0 rfl).1) (fun lenn3 => ?_)
  refine asS rfl rfl rfl ?_
  refine rNil ?_
  refine qSeq rfl ?_
  refine hSeq ?_
  refine hReg (sq 0 sz) (by kernel_rfl) ?_
  refine asn (v := sv []) rfl rfl rfl ?_
  refine rNil ?_
  refine qSeq rfl ?_
  refine hSeq ?_
  refine hSeq ?_
  refine hReg (sq 0 sz) (by kernel_rfl) ?_
  refine asI rfl rfl rfl ?_
  refine rNil ?_
  refine qSeq rfl ?_
  refine hBlk ?_
  refine hLoop (α := Nat) (fun i => i ≤ ny1) (fun i => ny1 - i) (fun i => [OwnR maK 50 2 ay1 ny1 cy1 Hy1 (Math.sets z nws pl), blk bkb2 31 [.int .i64 pl, .slice aps nps cps], blk bkb1 29 [.slice az nz cz, .slice aws nws cws, .slice avs nvs cvs]]) (fun i => [(3, .pointer (some ⟨bkb2, 0, none⟩)), (6, .slice ay1 ny1 cy1), (7, sv ((Math.stTo (Math.sets z nws pl) ps i))), (8, .int .i64 (i : Int))]) 0 (Nat.zero_le _) (fun _ h => h.pick [0, 0, 0]) ⟨rfl, rfl, rfl, rfl, trivial⟩ ?_
  rintro i τ1 hi
  refine hSeq ?_
  refine hSeq ?_
  refine hReg (sq 0 (sq 1 (sq 2 (sq 3 sz)))) (by kernel_rfl) ?_
  refine mvI rfl rfl rfl ?_
  refine mvS rfl rfl rfl ?_
  refine lenS Tryd.runUnderlying27 rfl rfl rfl ?_
  refine lss rfl rfl rfl rfl ?_
  refine rNil ?_
  refine qSeq rfl ?_
  refine hIfD rfl (fun c2 => ?_) (fun c2 => ?_)
  ·
   replace c2 : (i : Int) < (ny1 : Int) := c2
   have hln := Math.line_ok c1 lws (i := i) (by omega)
   have hd0 := hln.2.2.1 _ (Math.getD_mem 0 (show 0 < ((Math.sets z nws pl).getD i []).length by omega))
   have hd1 := hln.2.2.1 _ (Math.getD_mem 0 (show 1 < ((Math.sets z nws pl).getD i []).length by omega))
   have hll := hln.2.2.1
   have hlr := hln.2.2.2.2
   have htl := Math.stTo_len c1 lws (i := i) (by omega)
   refine hSkip ?_
   refine qSeq rfl ?_
   refine hSeq ?_
   refine hBlk ?_
   refine hDraw (Ls := [OwnR maK 50 2 ay1 ny1 cy1 Hy1 (Math.sets z nws pl), blk bkb2 31 [.int .i64 pl, .slice aps nps cps]]) (by kernel_rfl) (sq 0 (sq 1 (sq 2 (sq 3 (sq 4 (sq 5 (sq 6 (sq 10 (sq 11 (sq 12 (sq 13 (sq 14 (sq 15 (sq 19 (sq 20 (sq 21 (sq 22 (sq 23 (sl 7 (sq 8 (sq 9 (sl 16 (sq 17 (sq 18 (sl 24 (sq 25 (sq 26 (sq 27 sz)))))))))))))))))))))))))))) (by kernel_rfl) (.cons_cons _ (.cons_cons _ (.cons _ .slnil))) ?_
   refine mv (v := sv ((Math.stTo (Math.sets z nws pl) ps i))) rfl rfl rfl ?_
   refine mvS rfl rfl rfl ?_
   refine mvI rfl rfl rfl ?_
   refine ixRq (zn := i) ((Math.sets z nws pl).getD i []) el27 ((Kn.at_ 0 rfl).imp fun _ h => OwnR.rd h maK.ok) (fun _ h => h.pick [0, 0]) rfl rfl rfl rfl (by omega) (by omega) rfl (nth [] (by omega)) ?_
   intro be2 oe2 e2
   refine ldq Tryd.isAgg50 (Kn.fld e2 0 rfl) rfl rfl rfl ?_
   refine ixIq (zn := 0) el50 ((Kn.imp ((Kn.at_ (φ := OwnR maK 50 2 ay1 ny1 cy1 Hy1 (Math.sets z nws pl)) 0 rfl).imp fun _ h => OwnR.rd h maK.ok) fun _ h => h.kidM (nth [] (by omega)))) (fun _ h => h.pick [0, 0]) rfl rfl rfl rfl (by omega) (by omega) rfl ?_
   intro ae3 e3
   refine ldq Tryd.isAgg2 (e3) rfl rfl rfl ?_
   refine mvS rfl rfl rfl ?_
   refine mvI rfl rfl rfl ?_
   refine ixRq (zn := i) ((Math.sets z nws pl).getD i []) el27 ((Kn.at_ 0 rfl).imp fun _ h => OwnR.rd h maK.ok) (fun _ h => h.pick [0, 0]) rfl rfl rfl rfl (by omega) (by omega) rfl (nth [] (by omega)) ?_
   intro be4 oe4 e4
   refine ldq Tryd.isAgg50 (Kn.fld e4 0 rfl) rfl rfl rfl ?_
   refine ixIq (zn := 1) el50 ((Kn.imp ((Kn.at_ (φ := OwnR maK 50 2 ay1 ny1 cy1 Hy1 (Math.sets z nws pl)) 0 rfl).imp fun _ h => OwnR.rd h maK.ok) fun _ h => h.kidM (nth [] (by omega)))) (fun _ h => h.pick [0, 0]) rfl rfl rfl rfl (by omega) (by omega) rfl ?_
   intro ae5 e5
   refine ldq Tryd.isAgg2 (e5) rfl rfl rfl ?_
   refine fld fl31_1 rfl rfl rfl ?_
   refine ldq Tryd.isAgg27 (cB 1 rfl rfl) rfl rfl rfl ?_
   refine mvI rfl rfl rfl ?_
   refine ixRq (zn := i) (ps.getD i []) el27 (Kn.drop (k := 2) kps) (fun _ h => h.pick [0, 0]) rfl rfl rfl rfl (by omega) (by omega) rfl (nth [] (by omega)) ?_
   intro be6 oe6 e6
   refine ldq Tryd.isAgg50 (Kn.fld e6 0 rfl) rfl rfl rfl ?_
   refine callP (v := sv ((Math.dec (((((Math.sets z nws pl).getD i [])).getD 0 0))))) Tryd.call40 (fun _ h => h.pick [0, 0]) rfl rfl (fun w hs => spec_l01Dec_c _ w (by omega) (by omega)) ?_
   have hslq7 := show (Math.dec (((((Math.sets z nws pl).getD i [])).getD 0 0))).length ≤ 3 from Math.dec_len3 (by omega)
   refine strAdd rfl rfl rfl rfl (by first | (simp only [List.length_append, List.length_cons, List.length_nil, List.length_map]; omega) | omega) ?_
   refine strAdd rfl rfl rfl rfl (by first | (simp only [List.length_append, List.length_cons, List.length_nil, List.length_map]; omega) | omega) ?_
   refine callP (v := sv ((Math.dec (((((Math.sets z nws pl).getD i [])).getD 1 0))))) Tryd.call40 (fun _ h => h.pick [0, 0]) rfl rfl (fun w hs => spec_l01Dec_c _ w (by omega) (by omega)) ?_
   have hslq8 := show (Math.dec (((((Math.sets z nws pl).getD i [])).getD 1 0))).length ≤ 3 from Math.dec_len3 (by omega)
   refine strAdd rfl rfl rfl rfl (by first | (simp only [List.length_append, List.length_cons, List.length_nil, List.length_map]; omega) | omega) ?_
   refine strAdd rfl rfl rfl rfl (by first | (simp only [List.length_append, List.length_cons, List.length_nil, List.length_map]; omega) | omega) ?_
   refine callP (v := sv ((Math.joinD [44] (ps.getD i [])))) Tryd.call41 (fun _ h => h.pick [0, 0]) rfl rfl (fun w hs => spec_l15List_c _ ((ps.getD i []).length) ((Hps i).2) _ w (Kn.drop (k := 3) ((Kn.imp kps fun _ h => h.kidM (nth [] (by omega)))) w hs) (by assumption) (by omega)) ?_
   have hslq9 := show (Math.joinD [44] (ps.getD i [])).length ≤ 4 * (ps.getD i []).length from Math.joinD_len (.inl rfl) (by assumption)
   refine strAdd rfl rfl rfl rfl (by first | (simp only [List.length_append, List.length_cons, List.length_nil, List.length_map]; omega) | omega) ?_
   refine strAdd rfl rfl rfl rfl (by first | (simp only [List.length_append, List.length_cons, List.length_nil, List.length_map]; omega) | omega) ?_
   refine asn (v := sv ((((((((Math.stTo (Math.sets z nws pl) ps i) ++ (Math.dec (((((Math.sets z nws pl).getD i [])).getD 0 0)))) ++ [47]) ++ (Math.dec (((((Math.sets z nws pl).getD i [])).getD 1 0)))) ++ [58]) ++ (Math.joinD [44] (ps.getD i []))) ++ [10]))) rfl rfl rfl ?_
   refine rNil ?_
   refine qSeq rfl ?_
   refine hReg (sq 0 (sq 1 (sq 2 sz))) (by kernel_rfl) ?_
   refine mvI rfl rfl rfl ?_
   refine add rfl rfl rfl rfl (by omega) ?_
   refine asI rfl rfl rfl ?_
   refine rNil ?_
   rw [Math.stApp, ← Math.stTo_s]
   exact qNext rfl (i + 1) (by omega) (by omega) ⟨rfl, rfl, rfl, rfl, trivial⟩ (fun _ h => h.pick [0, 0, 0])
  ·
   replace c2 : ¬ ((i : Int) < (ny1 : Int)) := c2
   refine hExit rfl ?_
   refine qSeq rfl ?_
   refine hSeq ?_
   refine hReg (sq 0 (sq 1 (sq 2 sz))) (by kernel_rfl) ?_
   refine mv (v := sv ((Math.stTo (Math.sets z nws pl) ps i))) rfl rfl rfl ?_
   refine asn (v := sv ((Math.stTo (Math.sets z nws pl) ps i))) rfl rfl rfl ?_
   refine asI rfl rfl rfl ?_
   refine rNil ?_
   refine qSeq rfl ?_
   refine hRet ?_
   exact fun w hs => ⟨[sv ((Math.stTo (Math.sets z nws pl) ps i)), .int .i64 0], ⟨rfl, ⟨rfl, trivial⟩⟩, ⟨by rw [Math.stText_0 (by assumption) lws (show _ = i by omega)]; rfl, hs.upd⟩⟩
end Go.Proofs.YtjengglpbdgmnaaDoor
