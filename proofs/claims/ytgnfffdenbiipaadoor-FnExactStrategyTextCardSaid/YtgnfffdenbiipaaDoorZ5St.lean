/- Contracts of games. Their conditions stand in each. -/
import Derived.Test.YtgnfffdenbiipaaDoorZ4St
import Derived.Test.YtgnfffdenbiipaaDoorZ1St
import Derived.Test.YtgnfffdenbiipaaDoorZ2St
import Derived.Test.YtgnfffdenbiipaaDoorZ3St
import Derived.Test.YtgnfffdenbiipaaDoorRows
namespace Go.Proofs.YtgnfffdenbiipaaDoor
open Go Go.RowKit V
set_option linter.unusedVariables false
set_option linter.unusedSimpArgs false
set_option maxRecDepth 100000
theorem laws_szGame_c (az : Option Addr) (nz : Nat) (cz : Nat) (Hz : Nat → Hd) (z : List Nd) (aws : Option Addr) (nws : Nat) (cws : Nat) (Hws : Nat → Hd) (ws : List (List Int)) (avs : Option Addr) (nvs : Nat) (cvs : Nat) (Hvs : Nat → Hd) (vs : List (List Int)) (left : Int) (w : World) (rz : RdR ndK az nz Hz z w) (rws : RdR maK aws nws Hws ws w) (rvs : RdR maK avs nvs Hvs vs w) (hl : 0 ≤ left ∧ left ≤ 1048576) :
  Calls Tryd.prog 10 #[.agg #[.slice az nz cz, .slice aws nws cws, .slice avs nvs cvs], .int .i64 left] w (Ret fun v w' => v = .int .i64 ((Math.cut (Math.cut (Math.cut left (Math.szK Math.chl z : Int)) (Math.szK Math.rwl ws : Int)) (Math.szK Math.rwl vs : Int))) ∧ Ext w w') := by
 have kz : Kn w none_ [] (RdR ndK az nz Hz z) := fun w' hs => rz.ext hs.upd
 have lz : z.length = nz := rz.1
 have mz : nz ≤ 9223372036854775807 := rz.2.1
 have kws : Kn w none_ [] (RdR maK aws nws Hws ws) := fun w' hs => rws.ext hs.upd
 have lws : ws.length = nws := rws.1
 have mws : nws ≤ 9223372036854775807 := rws.2.1
 have kvs : Kn w none_ [] (RdR maK avs nvs Hvs vs) := fun w' hs => rvs.ext hs.upd
 have lvs : vs.length = nvs := rvs.1
 have mvs : nvs ≤ 9223372036854775807 := rvs.2.1
 refine fn (M := none_) (rs := [.tmp 4]) Tryd.func10 rfl Tryd.ntmps10 rfl rfl (Sep.start _ _) ?_
 refine hSeq ?_
 refine hReg (sl 0 (sq 1 sz)) (by kernel_rfl) ?_
 refine box trv1 rfl rfl rfl rfl (fun bkb1 hbkb1 => ?_)
 refine asI rfl rfl rfl ?_
 refine rNil ?_
 refine qSeq rfl ?_
 refine hSeq ?_
 refine hReg (sq 0 (sl 1 (sq 2 (sl 3 (sq 4 sz))))) (by kernel_rfl) ?_
 refine fld fl36_0 rfl rfl rfl ?_
 refine ldAl Tryd.isAgg24 Tryd.sizeOf24 (cBp (m := 1) 0 rfl rfl) trv rfl rfl rfl rfl ?_
 refine mvI rfl rfl rfl ?_
 refine callP (v := .int .i64 ((Math.cut left (Math.szK Math.chl z : Int)))) Tryd.call5 trv rfl rfl (fun w hs => laws_szTree_c _ _ _ _ _ _ w (Kn.drop (k := 1) kz w hs) (by omega)) ?_
 refine asI rfl rfl rfl ?_
 refine rNil ?_
 refine qSeq rfl ?_
 refine hSeq ?_
 refine hSeq ?_
 refine hReg (sq 0 (sq 1 sz)) (by kernel_rfl) ?_
 refine mvI rfl rfl rfl ?_
 refine lss rfl rfl rfl rfl ?_
 refine rNil ?_
 refine qSeq rfl ?_
 refine hIfD rfl (fun c1 => ?_) (fun c1 => ?_)
 ·
  replace c1 : (Math.cut left (Math.szK Math.chl z : Int)) < 0 := c1
  have hq1 := Math.cut_neg c1 hl.1
  have hq2 := Math.cut3_no (b := (Math.szK Math.rwl ws : Int)) (c := (Math.szK Math.rwl vs : Int)) hl.1 hq1 (by omega) (by omega)
  refine hSeq ?_
  refine hReg (sq 0 sz) (by kernel_rfl) ?_
  refine asI rfl rfl rfl ?_
  refine rNil ?_
  refine qSeq rfl ?_
  refine hRet ?_
  exact fun w hs => ⟨[.int .i64 (-1)], ⟨rfl, trivial⟩, ⟨by first | rfl | exact vI hq2.symm | exact vI hq4.symm | exact vI (Math.cut_no hq5).symm, hs.upd⟩⟩
 ·
  replace c1 : ¬ ((Math.cut left (Math.szK Math.chl z : Int)) < 0) := c1
  have hq1 := Math.cut_pos c1
  refine hSkip ?_
  refine qSeq rfl ?_
  refine hSeq ?_
  refine hReg (sq 0 (sl 1 (sq 2 (sl 3 (sq 4 sz))))) (by kernel_rfl) ?_
  refine fld fl36_1 rfl rfl rfl ?_
  refine ldl Tryd.isAgg34 (cB 0 rfl rfl) trv rfl rfl rfl ?_
  refine mvI rfl rfl rfl ?_
  refine callP (v := .int .i64 ((Math.cut ((Math.cut left (Math.szK Math.chl z : Int))) (Math.szK Math.rwl ws : Int)))) Tryd.call25 trv rfl rfl (fun w hs => laws_szInt64SS_c _ _ _ _ _ _ w (Kn.drop (k := 1) kws w hs) (by omega)) ?_
  refine asI rfl rfl rfl ?_
  refine rNil ?_
  refine qSeq rfl ?_
  refine hSeq ?_
  refine hSeq ?_
  refine hReg (sq 0 (sq 1 sz)) (by kernel_rfl) ?_
  refine mvI rfl rfl rfl ?_
  refine lss rfl rfl rfl rfl ?_
  refine rNil ?_
  refine qSeq rfl ?_
  refine hIfD rfl (fun c2 => ?_) (fun c2 => ?_)
  ·
   replace c2 : (Math.cut ((Math.cut left (Math.szK Math.chl z : Int))) (Math.szK Math.rwl ws : Int)) < 0 := c2
   have hq3 := Math.cut_neg c2 (by omega)
   have hq4 := Math.cut2_no (b := (Math.szK Math.rwl vs : Int)) (show (0 : Int) ≤ Math.cut left (Math.szK Math.chl z : Int) by omega) hq3 (by omega)
   refine hSeq ?_
   refine hReg (sq 0 sz) (by kernel_rfl) ?_
   refine asI rfl rfl rfl ?_
   refine rNil ?_
   refine qSeq rfl ?_
   refine hRet ?_
   exact fun w hs => ⟨[.int .i64 (-1)], ⟨rfl, trivial⟩, ⟨by first | rfl | exact vI hq2.symm | exact vI hq4.symm | exact vI (Math.cut_no hq5).symm, hs.upd⟩⟩
  ·
   replace c2 : ¬ ((Math.cut ((Math.cut left (Math.szK Math.chl z : Int))) (Math.szK Math.rwl ws : Int)) < 0) := c2
   have hq2 := Math.cut_pos c2
   refine hSkip ?_
   refine qSeq rfl ?_
   refine hSeq ?_
   refine hReg (sq 0 (sl 1 (sq 2 (sl 3 (sq 4 sz))))) (by kernel_rfl) ?_
   refine fld fl36_2 rfl rfl rfl ?_
   refine ldl Tryd.isAgg34 (cB 0 rfl rfl) trv rfl rfl rfl ?_
   refine mvI rfl rfl rfl ?_
   refine callP (v := .int .i64 ((Math.cut ((Math.cut ((Math.cut left (Math.szK Math.chl z : Int))) (Math.szK Math.rwl ws : Int))) (Math.szK Math.rwl vs : Int)))) Tryd.call25 trv rfl rfl (fun w hs => laws_szInt64SS_c _ _ _ _ _ _ w (Kn.drop (k := 1) kvs w hs) (by omega)) ?_
   refine asI rfl rfl rfl ?_
   refine rNil ?_
   refine qSeq rfl ?_
   refine hSeq ?_
   refine hSeq ?_
   refine hReg (sq 0 (sq 1 sz)) (by kernel_rfl) ?_
   refine mvI rfl rfl rfl ?_
   refine lss rfl rfl rfl rfl ?_
   refine rNil ?_
   refine qSeq rfl ?_
   refine hIfD rfl (fun c3 => ?_) (fun c3 => ?_)
   ·
    replace c3 : (Math.cut ((Math.cut ((Math.cut left (Math.szK Math.chl z : Int))) (Math.szK Math.rwl ws : Int))) (Math.szK Math.rwl vs : Int)) < 0 := c3
    have hq5 := Math.cut_neg c3 (by omega)
    refine hSeq ?_
    refine hReg (sq 0 sz) (by kernel_rfl) ?_
    refine asI rfl rfl rfl ?_
    refine rNil ?_
    refine qSeq rfl ?_
    refine hRet ?_
    exact fun w hs => ⟨[.int .i64 (-1)], ⟨rfl, trivial⟩, ⟨by first | rfl | exact vI hq2.symm | exact vI hq4.symm | exact vI (Math.cut_no hq5).symm, hs.upd⟩⟩
   ·
    replace c3 : ¬ ((Math.cut ((Math.cut ((Math.cut left (Math.szK Math.chl z : Int))) (Math.szK Math.rwl ws : Int))) (Math.szK Math.rwl vs : Int)) < 0) := c3
    refine hSkip ?_
    refine qSeq rfl ?_
    refine hSeq ?_
    refine hReg (sq 0 (sq 1 sz)) (by kernel_rfl) ?_
    refine mvI rfl rfl rfl ?_
    refine asI rfl rfl rfl ?_
    refine rNil ?_
    refine qSeq rfl ?_
    refine hRet ?_
    exact fun w hs => ⟨[.int .i64 ((Math.cut ((Math.cut ((Math.cut left (Math.szK Math.chl z : Int))) (Math.szK Math.rwl ws : Int))) (Math.szK Math.rwl vs : Int)))], ⟨rfl, trivial⟩, ⟨by first | rfl | exact vI hq2.symm | exact vI hq4.symm | exact vI (Math.cut_no hq5).symm, hs.upd⟩⟩
theorem impl_totalWeight_c (az : Option Addr) (nz : Nat) (cz : Nat) (Hz : Nat → Hd) (z : List Nd) (aws : Option Addr) (nws : Nat) (cws : Nat) (Hws : Nat → Hd) (ws : List (List Int)) (avs : Option Addr) (nvs : Nat) (cvs : Nat) (Hvs : Nat → Hd) (vs : List (List Int)) (w : World) (rz : RdR ndK az nz Hz z w) (rws : RdR maK aws nws Hws ws w) (rvs : RdR maK avs nvs Hvs vs w) (hm : Math.matB nws 0 9 ws = true) (hk : nws ≤ 6) :
  Calls Tryd.prog 63 #[.agg #[.slice az nz cz, .slice aws nws cws, .slice avs nvs cvs]] w (Ret fun v w' => v = .int .i64 (Math.total ws) ∧ Ext w w') := by
 have kz : Kn w none_ [] (RdR ndK az nz Hz z) := fun w' hs => rz.ext hs.upd
 have lz : z.length = nz := rz.1
 have mz : nz ≤ 9223372036854775807 := rz.2.1
 have kws : Kn w none_ [] (RdR maK aws nws Hws ws) := fun w' hs => rws.ext hs.upd
 have lws : ws.length = nws := rws.1
 have mws : nws ≤ 9223372036854775807 := rws.2.1
 have kvs : Kn w none_ [] (RdR maK avs nvs Hvs vs) := fun w' hs => rvs.ext hs.upd
 have lvs : vs.length = nvs := rvs.1
 have mvs : nvs ≤ 9223372036854775807 := rvs.2.1
 refine fn (M := none_) (rs := [.tmp 2]) Tryd.func63 rfl Tryd.ntmps63 rfl rfl (Sep.start _ _) ?_
 refine hSeq ?_
 refine hReg (sl 0 (sq 1 sz)) (by kernel_rfl) ?_
 refine box trv1 rfl rfl rfl rfl (fun bkb1 hbkb1 => ?_)
 refine asI rfl rfl rfl ?_
 refine rNil ?_
 refine qSeq rfl ?_
 refine hSeq ?_
 refine hReg (sq 0 sz) (by kernel_rfl) ?_
 refine asI rfl rfl rfl ?_
 refine rNil ?_
 refine qSeq rfl ?_
 refine hSeq ?_
 refine hSeq ?_
 refine hReg (sq 0 (sl 1 (sq 2 (sq 3 sz)))) (by kernel_rfl) ?_
 refine fld fl43_1 rfl rfl rfl ?_
 refine ldl Tryd.isAgg34 (cB 0 rfl rfl) trv rfl rfl rfl ?_
 refine lenS Tryd.runUnderlying34 rfl rfl rfl ?_
 refine mvI rfl rfl rfl ?_
 refine rNil ?_
 refine qSeq rfl ?_
 refine hBlk ?_
 refine hLoop (α := Nat × Int) (fun x => x.1 ≤ nws ∧ x.2 = Math.total (ws.take x.1)) (fun x => nws - x.1) (fun x => [blk bkb1 43 [.slice az nz cz, .slice aws nws cws, .slice avs nvs cvs]]) (fun x => [(3, .int .i64 x.2), (7, .slice aws nws cws), (8, .int .i64 (nws : Int)), (9, .int .i64 (x.1 : Int))]) (0, 0) ⟨Nat.zero_le _, rfl⟩ (fun _ h => h.pick [0]) ⟨rfl, rfl, rfl, rfl, trivial⟩ ?_
 rintro ⟨i, s⟩ τ1 ⟨hi, hs_⟩
 dsimp only at hi hs_
 refine hRe [(3, .int .i64 s), (7, .slice aws nws cws), (8, .int .i64 (nws : Int)), (9, .int .i64 (i : Int))] [blk bkb1 43 [.slice az nz cz, .slice aws nws cws, .slice avs nvs cvs]] rfl rfl ?_
 refine hSeq ?_
 refine hReg (sq 0 sz) (by kernel_rfl) ?_
 refine lss rfl rfl rfl rfl ?_
 refine rNil ?_
 refine qSeq rfl ?_
 refine hSeq ?_
 refine hIfD rfl (fun c1 => ?_) (fun c1 => ?_)
 ·
  replace c1 : (i : Int) < (nws : Int) := c1
  have hrow := Math.mat_row hm (show i < nws by omega)
  have hrl := Math.row_len hrow
  have hbig := Math.row_big hrow
  have htb := Math.total_bd hk hm i (by omega)
  have hrs := Math.rowsum hk hrow
  refine hSkip ?_
  refine qSeq rfl ?_
  refine hSeq ?_
  refine hBlk ?_
  refine hSeq ?_
  refine hReg (sq 0 (sl 1 (sq 2 sz))) (by kernel_rfl) ?_
  refine ixRl (zn := i) (ws.getD i []) el34 (Kn.drop (k := 1) kws) rfl rfl rfl rfl (by omega) (by omega) rfl (nth [] (by omega)) ?_
  intro be1 oe1 e1
  refine ldl Tryd.isAgg59 (Kn.fld e1 0 rfl) trv rfl rfl rfl ?_
  refine asS rfl rfl rfl ?_
  refine rNil ?_
  refine qSeq rfl ?_
  refine hReg (sq 0 (sq 1 (sl 2 (sq 3 (sq 4 sz))))) (by kernel_rfl) ?_
  refine mvI rfl rfl rfl ?_
  refine mvS rfl rfl rfl ?_
  refine callP (v := .int .i64 ((ws.getD i []).sum)) Tryd.call64 trv rfl rfl (fun w hs => impl_sumOf_c _ _ _ _ w (Kn.drop (k := 1) ((Kn.imp kws fun _ h => h.kidM (nth [] (by omega)))) w hs) (by assumption) (by omega)) ?_
  refine add rfl rfl rfl rfl (by omega) ?_
  refine asI rfl rfl rfl ?_
  refine rNil ?_
  refine qSeq rfl ?_
  refine hReg (sq 0 (sq 1 sz)) (by kernel_rfl) ?_
  refine add rfl rfl rfl rfl (by omega) ?_
  refine mvI rfl rfl rfl ?_
  refine rNil ?_
  exact qNext rfl ((i + 1, s + (ws.getD i []).sum)) (by dsimp only; omega) ⟨by dsimp only; omega, by dsimp only; rw [hs_, Math.total_step (by omega)]⟩ ⟨rfl, rfl, rfl, rfl, trivial⟩ (fun _ h => h.pick [0])
 ·
  replace c1 : ¬ ((i : Int) < (nws : Int)) := c1
  refine hExit rfl ?_
  refine qSeq rfl ?_
  refine hSeq ?_
  refine hReg (sq 0 (sq 1 sz)) (by kernel_rfl) ?_
  refine mvI rfl rfl rfl ?_
  refine asI rfl rfl rfl ?_
  refine rNil ?_
  refine qSeq rfl ?_
  refine hRet ?_
  exact fun w hs => ⟨[.int .i64 s], ⟨rfl, trivial⟩, ⟨vI (by rw [hs_, Math.total_all (by omega)]), hs.upd⟩⟩
theorem spec_l21Total_c (az : Option Addr) (nz : Nat) (cz : Nat) (Hz : Nat → Hd) (z : List Nd) (aws : Option Addr) (nws : Nat) (cws : Nat) (Hws : Nat → Hd) (ws : List (List Int)) (avs : Option Addr) (nvs : Nat) (cvs : Nat) (Hvs : Nat → Hd) (vs : List (List Int)) (w : World) (rz : RdR ndK az nz Hz z w) (rws : RdR maK aws nws Hws ws w) (rvs : RdR maK avs nvs Hvs vs w) (hm : Math.matB nws 0 9 ws = true) (hk : nws ≤ 6) :
  Calls Tryd.prog 62 #[.agg #[.slice az nz cz, .slice aws nws cws, .slice avs nvs cvs]] w (Ret fun v w' => v = .int .i64 (Math.total ws) ∧ Ext w w') := by
 have kz : Kn w none_ [] (RdR ndK az nz Hz z) := fun w' hs => rz.ext hs.upd
 have lz : z.length = nz := rz.1
 have mz : nz ≤ 9223372036854775807 := rz.2.1
 have kws : Kn w none_ [] (RdR maK aws nws Hws ws) := fun w' hs => rws.ext hs.upd
 have lws : ws.length = nws := rws.1
 have mws : nws ≤ 9223372036854775807 := rws.2.1
 have kvs : Kn w none_ [] (RdR maK avs nvs Hvs vs) := fun w' hs => rvs.ext hs.upd
 have lvs : vs.length = nvs := rvs.1
 have mvs : nvs ≤ 9223372036854775807 := rvs.2.1
 refine fn (M := none_) (rs := [.tmp 2]) Tryd.func62 rfl Tryd.ntmps62 rfl rfl (Sep.start _ _) ?_
 refine hSeq ?_
 refine hReg (sl 0 (sq 1 sz)) (by kernel_rfl) ?_
 refine box trv1 rfl rfl rfl rfl (fun bkb1 hbkb1 => ?_)
 refine asI rfl rfl rfl ?_
 refine rNil ?_
 refine qSeq rfl ?_
 refine hSeq ?_
 refine hReg (sq 0 sz) (by kernel_rfl) ?_
 refine asI rfl rfl rfl ?_
 refine rNil ?_
 refine qSeq rfl ?_
 refine hSeq ?_
 refine hSeq ?_
 refine hReg (sq 0 sz) (by kernel_rfl) ?_
 refine asI rfl rfl rfl ?_
 refine rNil ?_
 refine qSeq rfl ?_
 refine hBlk ?_
 refine hLoop (α := Nat × Int) (fun x => x.1 ≤ nws ∧ x.2 = Math.total (ws.take x.1)) (fun x => nws - x.1) (fun x => [blk bkb1 43 [.slice az nz cz, .slice aws nws cws, .slice avs nvs cvs]]) (fun x => [(1, .pointer (some ⟨bkb1, 0, none⟩)), (3, .int .i64 x.2), (4, .int .i64 (x.1 : Int))]) (0, 0) ⟨Nat.zero_le _, rfl⟩ (fun _ h => h.pick [0]) ⟨rfl, rfl, rfl, trivial⟩ ?_
 rintro ⟨i, s⟩ τ1 ⟨hi, hs_⟩
 dsimp only at hi hs_
 refine hRe [(1, .pointer (some ⟨bkb1, 0, none⟩)), (3, .int .i64 s), (4, .int .i64 (i : Int))] [blk bkb1 43 [.slice az nz cz, .slice aws nws cws, .slice avs nvs cvs]] rfl rfl ?_
 refine hSeq ?_
 refine hSeq ?_
 refine hReg (sq 0 (sq 1 (sl 2 (sq 3 (sq 4 sz))))) (by kernel_rfl) ?_
 refine mvI rfl rfl rfl ?_
 refine fld fl43_1 rfl rfl rfl ?_
 refine ldl Tryd.isAgg34 (cB 0 rfl rfl) trv rfl rfl rfl ?_
 refine lenS Tryd.runUnderlying34 rfl rfl rfl ?_
 refine lss rfl rfl rfl rfl ?_
 refine rNil ?_
 refine qSeq rfl ?_
 refine hIfD rfl (fun c1 => ?_) (fun c1 => ?_)
 ·
  replace c1 : (i : Int) < (nws : Int) := c1
  have hrow := Math.mat_row hm (show i < nws by omega)
  have hrl := Math.row_len hrow
  have hbig := Math.row_big hrow
  have htb := Math.total_bd hk hm i (by omega)
  have hrs := Math.rowsum hk hrow
  refine hSkip ?_
  refine qSeq rfl ?_
  refine hSeq ?_
  refine hBlk ?_
  refine hReg (sq 0 (sq 1 (sl 2 (sq 3 (sq 4 (sl 5 (sl 6 (sq 7 (sq 8 sz))))))))) (by kernel_rfl) ?_
  refine mvI rfl rfl rfl ?_
  refine fld fl43_1 rfl rfl rfl ?_
  refine ldl Tryd.isAgg34 (cB 0 rfl rfl) trv rfl rfl rfl ?_
  refine mvI rfl rfl rfl ?_
  refine ixRl (zn := i) (ws.getD i []) el34 (Kn.drop (k := 1) kws) rfl rfl rfl rfl (by omega) (by omega) rfl (nth [] (by omega)) ?_
  intro be1 oe1 e1
  refine ldl Tryd.isAgg59 (Kn.fld e1 0 rfl) trv rfl rfl rfl ?_
  refine callP (v := .int .i64 ((ws.getD i []).sum)) Tryd.call50 trv rfl rfl (fun w hs => spec_l01Sum_c _ _ _ _ w (Kn.drop (k := 1) ((Kn.imp kws fun _ h => h.kidM (nth [] (by omega)))) w hs) (by assumption) (by omega)) ?_
  refine add rfl rfl rfl rfl (by omega) ?_
  refine asI rfl rfl rfl ?_
  refine rNil ?_
  refine qSeq rfl ?_
  refine hReg (sq 0 (sq 1 (sq 2 sz))) (by kernel_rfl) ?_
  refine mvI rfl rfl rfl ?_
  refine add rfl rfl rfl rfl (by omega) ?_
  refine asI rfl rfl rfl ?_
  refine rNil ?_
  exact qNext rfl ((i + 1, s + (ws.getD i []).sum)) (by dsimp only; omega) ⟨by dsimp only; omega, by dsimp only; rw [hs_, Math.total_step (by omega)]⟩ ⟨rfl, rfl, rfl, trivial⟩ (fun _ h => h.pick [0])
 ·
  replace c1 : ¬ ((i : Int) < (nws : Int)) := c1
  refine hExit rfl ?_
  refine qSeq rfl ?_
  refine hSeq ?_
  refine hReg (sq 0 (sq 1 sz)) (by kernel_rfl) ?_
  refine mvI rfl rfl rfl ?_
  refine asI rfl rfl rfl ?_
  refine rNil ?_
  refine qSeq rfl ?_
  refine hRet ?_
  exact fun w hs => ⟨[.int .i64 s], ⟨rfl, trivial⟩, ⟨vI (by rw [hs_, Math.total_all (by omega)]), hs.upd⟩⟩
theorem spec_l21Matrix_c (aws : Option Addr) (nws : Nat) (cws : Nat) (Hws : Nat → Hd) (ws : List (List Int)) (kk : Int) (lo : Int) (up : Int) (w : World) (rws : RdR maK aws nws Hws ws w) (hkk : 0 ≤ kk ∧ kk ≤ 1000) :
  Calls Tryd.prog 61 #[.slice aws nws cws, .int .i64 kk, .int .i64 lo, .int .i64 up] w (Ret fun v w' => v = .bool (Math.matB kk.toNat lo up ws) ∧ Ext w w') := by
 have kws : Kn w none_ [] (RdR maK aws nws Hws ws) := fun w' hs => rws.ext hs.upd
 have lws : ws.length = nws := rws.1
 have mws : nws ≤ 9223372036854775807 := rws.2.1
 refine fn (M := none_) (rs := [.tmp 8]) Tryd.func61 rfl Tryd.ntmps61 rfl rfl (Sep.start _ _) ?_
 refine hSeq ?_
 refine hReg (sq 0 sz) (by kernel_rfl) ?_
 refine asB rfl rfl rfl ?_
 refine rNil ?_
 refine qSeq rfl ?_
 refine hSeq ?_
 refine hSeq ?_
 refine hReg (sq 0 sz) (by kernel_rfl) ?_
 refine asI rfl rfl rfl ?_
 refine rNil ?_
 refine qSeq rfl ?_
 refine hBlk ?_
 refine hLoop (α := Nat) (fun i => i ≤ nws ∧ ∀ j, j < i → Math.rowB kk.toNat lo up (ws.getD j []) = true) (fun i => nws - i) (fun i => []) (fun i => [(0, .slice aws nws cws), (1, .int .i64 kk), (2, .int .i64 lo), (3, .int .i64 up), (9, .int .i64 (i : Int))]) 0 ⟨Nat.zero_le _, fun j hj => by omega⟩ (fun _ h => h.pick []) ⟨rfl, rfl, rfl, rfl, rfl, trivial⟩ ?_
 rintro i τ1 ⟨hi, hal⟩
 refine hSeq ?_
 refine hSeq ?_
 refine hReg (sq 0 (sq 1 (sq 2 (sq 3 sz)))) (by kernel_rfl) ?_
 refine mvI rfl rfl rfl ?_
 refine mvS rfl rfl rfl ?_
 refine lenS Tryd.runUnderlying34 rfl rfl rfl ?_
 refine lss rfl rfl rfl rfl ?_
 refine rNil ?_
 refine qSeq rfl ?_
 refine hIfD rfl (fun c1 => ?_) (fun c1 => ?_)
 ·
  replace c1 : (i : Int) < (nws : Int) := c1
  refine hSkip ?_
  refine qSeq rfl ?_
  refine hSeq ?_
  refine hBlk ?_
  refine hSeq ?_
  refine hSeq ?_
  refine hReg (sq 0 (sq 1 (sq 2 (sl 3 (sq 4 (sq 5 (sq 6 sz))))))) (by kernel_rfl) ?_
  refine mvS rfl rfl rfl ?_
  refine mvI rfl rfl rfl ?_
  refine ixRl (zn := i) (ws.getD i []) el34 (kws) rfl rfl rfl rfl (by omega) (by omega) rfl (nth [] (by omega)) ?_
  intro be1 oe1 e1
  refine ldl Tryd.isAgg59 (Kn.fld e1 0 rfl) trv rfl rfl rfl ?_
  refine lenS Tryd.runUnderlying59 rfl rfl rfl ?_
  refine mvI rfl rfl rfl ?_
  refine neq rfl rfl rfl rfl ?_
  refine rNil ?_
  refine qSeq rfl ?_
  refine hIfD rfl (fun c2 => ?_) (fun c2 => ?_)
  ·
   replace c2 : (((ws.getD i []).length : Nat) : Int) ≠ kk := c2
   refine hSeq ?_
   refine hReg (sq 0 sz) (by kernel_rfl) ?_
   refine asB rfl rfl rfl ?_
   refine rNil ?_
   refine qSeq rfl ?_
   refine hRet ?_
   exact fun w hs => ⟨[.bool false], ⟨rfl, trivial⟩, ⟨bB (Math.mat_no (i := i) (by omega) (Math.row_no1 (by omega))).symm, hs.upd⟩⟩
  ·
   replace c2 : ¬ ((((ws.getD i []).length : Nat) : Int) ≠ kk) := c2
   refine hSkip ?_
   refine qSeq rfl ?_
   refine hSeq ?_
   refine hReg (sq 0 sz) (by kernel_rfl) ?_
   refine asI rfl rfl rfl ?_
   refine rNil ?_
   refine qSeq rfl ?_
   refine hBlk ?_
   refine hLoop (α := Nat) (fun j => j ≤ kk.toNat ∧ ∀ q, q < j → Math.inB lo up ((ws.getD i []).getD q 0) = true) (fun j => kk.toNat - j) (fun j => []) (fun j => [(0, .slice aws nws cws), (1, .int .i64 kk), (2, .int .i64 lo), (3, .int .i64 up), (9, .int .i64 (i : Int)), (10, .int .i64 (j : Int))]) 0 ⟨Nat.zero_le _, fun q hq => by omega⟩ (fun _ h => h.pick []) ⟨rfl, rfl, rfl, rfl, rfl, rfl, trivial⟩ ?_
   rintro j τ2 ⟨hj, hin⟩
   refine hSeq ?_
   refine hSeq ?_
   refine hReg (sq 0 (sq 1 (sq 2 sz))) (by kernel_rfl) ?_
   refine mvI rfl rfl rfl ?_
   refine mvI rfl rfl rfl ?_
   refine lss rfl rfl rfl rfl ?_
   refine rNil ?_
   refine qSeq rfl ?_
   refine hIfD rfl (fun c3 => ?_) (fun c3 => ?_)
   ·
    replace c3 : (j : Int) < kk := c3
    refine hSkip ?_
    refine qSeq rfl ?_
    refine hSeq ?_
    refine hBlk ?_
    refine hSeq ?_
    refine hReg (sq 0 (sq 1 (sq 2 (sl 3 (sq 4 (sq 5 (sl 6 (sq 7 (sq 8 (sl 9 (sq 10 sz))))))))))) (by kernel_rfl) ?_
    refine mvS rfl rfl rfl ?_
    refine mvI rfl rfl rfl ?_
    refine ixRl (zn := i) (ws.getD i []) el34 (kws) rfl rfl rfl rfl (by omega) (by omega) rfl (nth [] (by omega)) ?_
    intro be2 oe2 e2
    refine ldl Tryd.isAgg59 (Kn.fld e2 0 rfl) trv rfl rfl rfl ?_
    refine mvI rfl rfl rfl ?_
    refine ixIl (zn := j) el59 ((Kn.imp kws fun _ h => h.kidM (nth [] (by omega)))) rfl rfl rfl rfl (by omega) (by omega) rfl ?_
    intro ae3 e3
    refine ldl Tryd.isAgg2 (e3) trv rfl rfl rfl ?_
    refine mvI rfl rfl rfl ?_
    refine mvI rfl rfl rfl ?_
    refine callP (v := .bool ((Math.inB lo up (((ws.getD i []).getD j 0))))) Tryd.call38 trv rfl rfl (fun w hs => spec_l01In_c _ _ _ w ) ?_
    refine not rfl rfl rfl ?_
    refine rNil ?_
    refine qSeq rfl ?_
    refine hIfN rfl (fun c4 => ?_) (fun c4 => ?_)
    ·
     replace c4 : (Math.inB lo up (((ws.getD i []).getD j 0))) = false := c4
     refine hSeq ?_
     refine hReg (sq 0 sz) (by kernel_rfl) ?_
     refine asB rfl rfl rfl ?_
     refine rNil ?_
     refine qSeq rfl ?_
     refine hRet ?_
     exact fun w hs => ⟨[.bool false], ⟨rfl, trivial⟩, ⟨bB (Math.mat_no (i := i) (by omega) (Math.row_no2 (Math.all_no 0 (i := j) (by omega) c4))).symm, hs.upd⟩⟩
    ·
     replace c4 : (Math.inB lo up (((ws.getD i []).getD j 0))) = true := c4
     refine hSkip ?_
     refine qSeq rfl ?_
     refine hReg (sq 0 (sq 1 (sq 2 sz))) (by kernel_rfl) ?_
     refine mvI rfl rfl rfl ?_
     refine add rfl rfl rfl rfl (by omega) ?_
     refine asI rfl rfl rfl ?_
     refine rNil ?_
     exact qNext rfl (j + 1) (by omega) ⟨by omega, Math.upto hin c4⟩ ⟨rfl, rfl, rfl, rfl, rfl, rfl, trivial⟩ (fun _ h => h.pick [])
   ·
    replace c3 : ¬ ((j : Int) < kk) := c3
    refine hExit rfl ?_
    refine qSeq rfl ?_
    refine hReg (sq 0 (sq 1 (sq 2 sz))) (by kernel_rfl) ?_
    refine mvI rfl rfl rfl ?_
    refine add rfl rfl rfl rfl (by omega) ?_
    refine asI rfl rfl rfl ?_
    refine rNil ?_
    exact qNext rfl (i + 1) (by omega) ⟨by omega, Math.upto hal (Math.row_yes (by omega) ((Math.all_getD 0).2 fun q hq => hin q (by omega)))⟩ ⟨rfl, rfl, rfl, rfl, rfl, trivial⟩ (fun _ h => h.pick [])
 ·
  replace c1 : ¬ ((i : Int) < (nws : Int)) := c1
  refine hExit rfl ?_
  refine qSeq rfl ?_
  refine hSeq ?_
  refine hReg (sq 0 (sq 1 (sq 2 (sq 3 (sq 4 sz))))) (by kernel_rfl) ?_
  refine mvS rfl rfl rfl ?_
  refine lenS Tryd.runUnderlying34 rfl rfl rfl ?_
  refine mvI rfl rfl rfl ?_
  refine eql rfl rfl rfl rfl ?_
  refine asB rfl rfl rfl ?_
  refine rNil ?_
  refine qSeq rfl ?_
  refine hRet ?_
  exact fun w hs => ⟨[.bool (decide ((nws : Int) = kk))], ⟨rfl, trivial⟩, ⟨bB ((decide_eq_decide.2 (by omega)).trans (Math.mat_if fun j hj => hal j (by omega)).symm), hs.upd⟩⟩
theorem spec_IsGame_c (az : Option Addr) (nz : Nat) (cz : Nat) (Hz : Nat → Hd) (z : List Nd) (aws : Option Addr) (nws : Nat) (cws : Nat) (Hws : Nat → Hd) (ws : List (List Int)) (avs : Option Addr) (nvs : Nat) (cvs : Nat) (Hvs : Nat → Hd) (vs : List (List Int)) (w : World) (rz : RdR ndK az nz Hz z w) (rws : RdR maK aws nws Hws ws w) (rvs : RdR maK avs nvs Hvs vs w) :
  Calls Tryd.prog 49 #[.agg #[.slice az nz cz, .slice aws nws cws, .slice avs nvs cvs]] w (Ret fun v w' => v = .bool (Math.isGame z ws vs) ∧ Ext w w') := by
 have kz : Kn w none_ [] (RdR ndK az nz Hz z) := fun w' hs => rz.ext hs.upd
 have lz : z.length = nz := rz.1
 have mz : nz ≤ 9223372036854775807 := rz.2.1
 have kws : Kn w none_ [] (RdR maK aws nws Hws ws) := fun w' hs => rws.ext hs.upd
 have lws : ws.length = nws := rws.1
 have mws : nws ≤ 9223372036854775807 := rws.2.1
 have kvs : Kn w none_ [] (RdR maK avs nvs Hvs vs) := fun w' hs => rvs.ext hs.upd
 have lvs : vs.length = nvs := rvs.1
 have mvs : nvs ≤ 9223372036854775807 := rvs.2.1
 refine fn (M := none_) (rs := [.tmp 2]) Tryd.func49 rfl Tryd.ntmps49 rfl rfl (Sep.start _ _) ?_
 refine hSeq ?_
 refine hReg (sl 0 (sq 1 sz)) (by kernel_rfl) ?_
 refine box trv1 rfl rfl rfl rfl (fun bkb1 hbkb1 => ?_)
 refine asB rfl rfl rfl ?_
 refine rNil ?_
 refine qSeq rfl ?_
 refine hSeq ?_
 refine hReg (sq 0 (sl 1 (sq 2 (sq 3 sz)))) (by kernel_rfl) ?_
 refine fld fl43_1 rfl rfl rfl ?_
 refine ldl Tryd.isAgg34 (cB 0 rfl rfl) trv rfl rfl rfl ?_
 refine lenS Tryd.runUnderlying34 rfl rfl rfl ?_
 refine asI rfl rfl rfl ?_
 refine rNil ?_
 refine qSeq rfl ?_
 refine hSeq ?_
 refine hReg (sq 0 (sl 1 (sl 2 (sq 3 (sq 4 (sl 5 (sq 6 (sq 7 (sq 8 (sl 9 (sq 10 (sl 11 (sq 12 (sq 13 (sq 14 (sl 15 (sq 16 (sl 17 (sq 18 (sq 19 (sl 20 (sl 21 (sq 22 (sq 23 (sq 24 sz))))))))))))))))))))))))) (by kernel_rfl) ?_
 refine fld fl43_0 rfl rfl rfl ?_
 refine ldAl Tryd.isAgg30 Tryd.sizeOf30 (cBp (m := 1) 0 rfl rfl) trv rfl rfl rfl rfl ?_
 refine callP (v := .bool (Math.isTree z)) Tryd.call19 trv rfl rfl (fun w hs => spec_IsTree_c _ _ _ _ _ w (Kn.drop (k := 1) kz w hs)) ?_
 refine mvB rfl rfl rfl ?_
 refine rBool (d := 10) rfl (fun g1 => ?_) (fun g1 => ?_)
 ·
  replace g1 : (Math.isTree z) = true := g1
  refine mvI rfl rfl rfl ?_
  refine callP (v := .bool ((Math.inB (1 : Int) (6 : Int) (nws : Int)))) Tryd.call38 trv rfl rfl (fun w hs => spec_l01In_c _ _ _ w ) ?_
  refine pickB rfl rfl rfl rfl ?_
  refine mvB rfl rfl rfl ?_
  refine rBool (d := 14) rfl (fun g2 => ?_) (fun g2 => ?_)
  ·
   replace g2 : (Math.inB (1 : Int) (6 : Int) (nws : Int)) = true := g2
   have hk := of_decide_eq_true (show decide (1 ≤ (nws : Int) ∧ (nws : Int) ≤ 6) = true from g2)
   refine fld fl43_1 rfl rfl rfl ?_
   refine ldl Tryd.isAgg34 (cB 0 rfl rfl) trv rfl rfl rfl ?_
   refine mvI rfl rfl rfl ?_
   refine callP (v := .bool ((Math.matB nws (0 : Int) (9 : Int) ws))) Tryd.call61 trv rfl rfl (fun w hs => spec_l21Matrix_c _ _ _ _ _ _ _ _ w (Kn.drop (k := 1) kws w hs) (by omega)) ?_
   refine pickB rfl rfl rfl rfl ?_
   refine mvB rfl rfl rfl ?_
   refine rBool (d := 20) rfl (fun g3 => ?_) (fun g3 => ?_)
   ·
    replace g3 : (Math.matB nws (0 : Int) (9 : Int) ws) = true := g3
    replace g3 : Math.matB nws 0 9 ws = true := g3
    refine fld fl43_2 rfl rfl rfl ?_
    refine ldl Tryd.isAgg34 (cB 0 rfl rfl) trv rfl rfl rfl ?_
    refine mvI rfl rfl rfl ?_
    refine callP (v := .bool ((Math.matB nws (-1) (1 : Int) vs))) Tryd.call61 trv rfl rfl (fun w hs => spec_l21Matrix_c _ _ _ _ _ _ _ _ w (Kn.drop (k := 1) kvs w hs) (by omega)) ?_
    refine pickB rfl rfl rfl rfl ?_
    refine mvB rfl rfl rfl ?_
    refine rBool (d := 26) rfl (fun g4 => ?_) (fun g4 => ?_)
    ·
     replace g4 : (Math.matB nws (-1) (1 : Int) vs) = true := g4
     replace g4 : Math.matB nws (-1) 1 vs = true := g4
     refine ldAl Tryd.isAgg43 Tryd.sizeOf43 (cBs 0 rfl) trv rfl rfl rfl rfl ?_
     refine callP (v := .int .i64 (Math.total ws)) Tryd.call62 trv rfl rfl (fun w hs => spec_l21Total_c _ _ _ _ _ _ _ _ _ _ _ _ _ _ _ w (Kn.drop (k := 1) kz w hs) (Kn.drop (k := 1) kws w hs) (Kn.drop (k := 1) kvs w hs) (by assumption) (by omega)) ?_
     refine gtr rfl rfl rfl rfl ?_
     refine pickB rfl rfl rfl rfl ?_
     refine asB rfl rfl rfl ?_
     refine rNil ?_
     refine qSeq rfl ?_
     refine hRet ?_
     exact fun w hs => ⟨[.bool (decide (0 < (Math.total ws)))], ⟨rfl, trivial⟩, ⟨bB (by unfold Math.isGame; rw [lws]; simp only [g1, g2, g3, g4, Bool.false_and, Bool.and_false, Bool.true_and, Bool.and_true]), hs.upd⟩⟩
    ·
     replace g4 : (Math.matB nws (-1) (1 : Int) vs) = false := g4
     replace g4 : Math.matB nws (-1) 1 vs = false := g4
     refine rSkipL trv rfl rfl ?_
     refine rSkipL trv rfl rfl ?_
     refine rSkipQ rfl rfl ?_
     refine pickB rfl rfl rfl rfl ?_
     refine asB rfl rfl rfl ?_
     refine rNil ?_
     refine qSeq rfl ?_
     refine hRet ?_
     exact fun w hs => ⟨[.bool false], ⟨rfl, trivial⟩, ⟨bB (by unfold Math.isGame; rw [lws]; simp only [g1, g2, g3, g4, Bool.false_and, Bool.and_false, Bool.true_and, Bool.and_true]), hs.upd⟩⟩
   ·
    replace g3 : (Math.matB nws (0 : Int) (9 : Int) ws) = false := g3
    replace g3 : Math.matB nws 0 9 ws = false := g3
    refine rSkipQ rfl rfl ?_
    refine rSkipL trv rfl rfl ?_
    refine rSkipQ rfl rfl ?_
    refine rSkipL trv rfl rfl ?_
    refine pickB rfl rfl rfl rfl ?_
    refine mvB rfl rfl rfl ?_
    refine rSkipL trv rfl rfl ?_
    refine rSkipL trv rfl rfl ?_
    refine rSkipQ rfl rfl ?_
    refine pickB rfl rfl rfl rfl ?_
    refine asB rfl rfl rfl ?_
    refine rNil ?_
    refine qSeq rfl ?_
    refine hRet ?_
    exact fun w hs => ⟨[.bool false], ⟨rfl, trivial⟩, ⟨bB (by unfold Math.isGame; rw [lws]; simp only [g1, g2, g3, Bool.false_and, Bool.and_false, Bool.true_and, Bool.and_true]), hs.upd⟩⟩
  ·
   replace g2 : (Math.inB (1 : Int) (6 : Int) (nws : Int)) = false := g2
   refine rSkipQ rfl rfl ?_
   refine rSkipL trv rfl rfl ?_
   refine rSkipQ rfl rfl ?_
   refine rSkipL trv rfl rfl ?_
   refine pickB rfl rfl rfl rfl ?_
   refine mvB rfl rfl rfl ?_
   refine rSkipQ rfl rfl ?_
   refine rSkipL trv rfl rfl ?_
   refine rSkipQ rfl rfl ?_
   refine rSkipL trv rfl rfl ?_
   refine pickB rfl rfl rfl rfl ?_
   refine mvB rfl rfl rfl ?_
   refine rSkipL trv rfl rfl ?_
   refine rSkipL trv rfl rfl ?_
   refine rSkipQ rfl rfl ?_
   refine pickB rfl rfl rfl rfl ?_
   refine asB rfl rfl rfl ?_
   refine rNil ?_
   refine qSeq rfl ?_
   refine hRet ?_
   exact fun w hs => ⟨[.bool false], ⟨rfl, trivial⟩, ⟨bB (by unfold Math.isGame; rw [lws]; simp only [g1, g2, Bool.false_and, Bool.and_false, Bool.true_and, Bool.and_true]), hs.upd⟩⟩
 ·
  replace g1 : (Math.isTree z) = false := g1
  refine rSkipQ rfl rfl ?_
  refine rSkipL trv rfl rfl ?_
  refine pickB rfl rfl rfl rfl ?_
  refine mvB rfl rfl rfl ?_
  refine rSkipQ rfl rfl ?_
  refine rSkipL trv rfl rfl ?_
  refine rSkipQ rfl rfl ?_
  refine rSkipL trv rfl rfl ?_
  refine pickB rfl rfl rfl rfl ?_
  refine mvB rfl rfl rfl ?_
  refine rSkipQ rfl rfl ?_
  refine rSkipL trv rfl rfl ?_
  refine rSkipQ rfl rfl ?_
  refine rSkipL trv rfl rfl ?_
  refine pickB rfl rfl rfl rfl ?_
  refine mvB rfl rfl rfl ?_
  refine rSkipL trv rfl rfl ?_
  refine rSkipL trv rfl rfl ?_
  refine rSkipQ rfl rfl ?_
  refine pickB rfl rfl rfl rfl ?_
  refine asB rfl rfl rfl ?_
  refine rNil ?_
  refine qSeq rfl ?_
  refine hRet ?_
  exact fun w hs => ⟨[.bool false], ⟨rfl, trivial⟩, ⟨bB (by unfold Math.isGame; rw [lws]; simp only [g1, Bool.false_and, Bool.and_false, Bool.true_and, Bool.and_true]), hs.upd⟩⟩
theorem impl_IsGame_c (az : Option Addr) (nz : Nat) (cz : Nat) (Hz : Nat → Hd) (z : List Nd) (aws : Option Addr) (nws : Nat) (cws : Nat) (Hws : Nat → Hd) (ws : List (List Int)) (avs : Option Addr) (nvs : Nat) (cvs : Nat) (Hvs : Nat → Hd) (vs : List (List Int)) (w : World) (rz : RdR ndK az nz Hz z w) (rws : RdR maK aws nws Hws ws w) (rvs : RdR maK avs nvs Hvs vs w) :
  Calls Tryd.prog 53 #[.agg #[.slice az nz cz, .slice aws nws cws, .slice avs nvs cvs]] w (Ret fun v w' => v = .bool (Math.isGame z ws vs) ∧ Ext w w') := by
 have kz : Kn w none_ [] (RdR ndK az nz Hz z) := fun w' hs => rz.ext hs.upd
 have lz : z.length = nz := rz.1
 have mz : nz ≤ 9223372036854775807 := rz.2.1
 have kws : Kn w none_ [] (RdR maK aws nws Hws ws) := fun w' hs => rws.ext hs.upd
 have lws : ws.length = nws := rws.1
 have mws : nws ≤ 9223372036854775807 := rws.2.1
 have kvs : Kn w none_ [] (RdR maK avs nvs Hvs vs) := fun w' hs => rvs.ext hs.upd
 have lvs : vs.length = nvs := rvs.1
 have mvs : nvs ≤ 9223372036854775807 := rvs.2.1
 refine fn (M := none_) (rs := [.tmp 2]) Tryd.func53 rfl Tryd.ntmps53 rfl rfl (Sep.start _ _) ?_
 refine hSeq ?_
 refine hReg (sl 0 (sq 1 sz)) (by kernel_rfl) ?_
 refine box trv1 rfl rfl rfl rfl (fun bkb1 hbkb1 => ?_)
 refine asB rfl rfl rfl ?_
 refine rNil ?_
 refine qSeq rfl ?_
 refine hSeq ?_
 refine hReg (sq 0 (sl 1 (sq 2 (sq 3 sz)))) (by kernel_rfl) ?_
 refine fld fl43_1 rfl rfl rfl ?_
 refine ldl Tryd.isAgg34 (cB 0 rfl rfl) trv rfl rfl rfl ?_
 refine lenS Tryd.runUnderlying34 rfl rfl rfl ?_
 refine asI rfl rfl rfl ?_
 refine rNil ?_
 refine qSeq rfl ?_
 refine hSeq ?_
 refine hSeq ?_
 refine hReg (sq 0 (sl 1 (sl 2 (sq 3 (sq 4 (sq 5 (sl 6 (sq 7 (sq 8 (sq 9 (sq 10 (sl 11 (sq 12 (sq 13 (sq 14 (sq 15 sz)))))))))))))))) (by kernel_rfl) ?_
 refine fld fl43_0 rfl rfl rfl ?_
 refine ldAl Tryd.isAgg30 Tryd.sizeOf30 (cBp (m := 1) 0 rfl rfl) trv rfl rfl rfl rfl ?_
 refine callP (v := .bool (Math.isTree z)) Tryd.call22 trv rfl rfl (fun w hs => impl_IsTree_c _ _ _ _ _ w (Kn.drop (k := 1) kz w hs)) ?_
 refine not rfl rfl rfl ?_
 refine mvB rfl rfl rfl ?_
 refine rBoolN (d := 12) rfl (fun g1 => ?_) (fun g1 => ?_)
 ·
  replace g1 : (Math.isTree z) = false := g1
  refine rSkipQ rfl rfl ?_
  refine rSkipL trv rfl rfl ?_
  refine rSkipQ rfl rfl ?_
  refine pickB rfl rfl rfl rfl ?_
  refine mvB rfl rfl rfl ?_
  refine rSkipQ rfl rfl ?_
  refine rSkipL trv rfl rfl ?_
  refine rSkipQ rfl rfl ?_
  refine rSkipQ rfl rfl ?_
  refine rSkipQ rfl rfl ?_
  refine pickB rfl rfl rfl rfl ?_
  refine rNil ?_
  refine qSeq rfl ?_
  refine hIfT rfl ?_
  refine hSeq ?_
  refine hReg (sq 0 sz) (by kernel_rfl) ?_
  refine asB rfl rfl rfl ?_
  refine rNil ?_
  refine qSeq rfl ?_
  refine hRet ?_
  exact fun w hs => ⟨[.bool false], ⟨rfl, trivial⟩, ⟨bB (by unfold Math.isGame; rw [lws]; simp only [g1, Bool.false_and, Bool.and_false, Bool.true_and, Bool.and_true]), hs.upd⟩⟩
 ·
  replace g1 : (Math.isTree z) = true := g1
  refine mvI rfl rfl rfl ?_
  refine callP (v := .bool ((Math.inB (1 : Int) (6 : Int) (nws : Int)))) Tryd.call42 trv rfl rfl (fun w hs => impl_within_c _ _ _ w ) ?_
  refine not rfl rfl rfl ?_
  refine pickB rfl rfl rfl rfl ?_
  refine mvB rfl rfl rfl ?_
  refine rBoolN (d := 17) rfl (fun g2 => ?_) (fun g2 => ?_)
  ·
   replace g2 : (Math.inB (1 : Int) (6 : Int) (nws : Int)) = false := g2
   refine rSkipQ rfl rfl ?_
   refine rSkipL trv rfl rfl ?_
   refine rSkipQ rfl rfl ?_
   refine rSkipQ rfl rfl ?_
   refine rSkipQ rfl rfl ?_
   refine pickB rfl rfl rfl rfl ?_
   refine rNil ?_
   refine qSeq rfl ?_
   refine hIfT rfl ?_
   refine hSeq ?_
   refine hReg (sq 0 sz) (by kernel_rfl) ?_
   refine asB rfl rfl rfl ?_
   refine rNil ?_
   refine qSeq rfl ?_
   refine hRet ?_
   exact fun w hs => ⟨[.bool false], ⟨rfl, trivial⟩, ⟨bB (by unfold Math.isGame; rw [lws]; simp only [g1, g2, Bool.false_and, Bool.and_false, Bool.true_and, Bool.and_true]), hs.upd⟩⟩
  ·
   replace g2 : (Math.inB (1 : Int) (6 : Int) (nws : Int)) = true := g2
   have hk := of_decide_eq_true (show decide (1 ≤ (nws : Int) ∧ (nws : Int) ≤ 6) = true from g2)
   refine fld fl43_2 rfl rfl rfl ?_
   refine ldl Tryd.isAgg34 (cB 0 rfl rfl) trv rfl rfl rfl ?_
   refine lenS Tryd.runUnderlying34 rfl rfl rfl ?_
   refine mvI rfl rfl rfl ?_
   refine neq rfl rfl rfl rfl ?_
   refine pickB rfl rfl rfl rfl ?_
   refine rNil ?_
   refine qSeq rfl ?_
   refine hIfD rfl (fun c3 => ?_) (fun c3 => ?_)
   ·
    replace c3 : (nvs : Int) ≠ (nws : Int) := c3
    refine hSeq ?_
    refine hReg (sq 0 sz) (by kernel_rfl) ?_
    refine asB rfl rfl rfl ?_
    refine rNil ?_
    refine qSeq rfl ?_
    refine hRet ?_
    exact fun w hs => ⟨[.bool false], ⟨rfl, trivial⟩, ⟨bB (by unfold Math.isGame; rw [lws, Math.mat_no0 (m := vs) (by omega)]; simp), hs.upd⟩⟩
   ·
    replace c3 : ¬ ((nvs : Int) ≠ (nws : Int)) := c3
    refine hSkip ?_
    refine qSeq rfl ?_
    refine hSeq ?_
    refine hSeq ?_
    refine hReg (sq 0 (sq 1 sz)) (by kernel_rfl) ?_
    refine mvI rfl rfl rfl ?_
    refine mvI rfl rfl rfl ?_
    refine rNil ?_
    refine qSeq rfl ?_
    refine hBlk ?_
    refine hLoop (α := Nat) (fun i => i ≤ nws ∧ ∀ j, j < i → Math.rowB nws 0 9 (ws.getD j []) = true ∧ Math.rowB nws (-1) 1 (vs.getD j []) = true) (fun i => nws - i) (fun i => [blk bkb1 43 [.slice az nz cz, .slice aws nws cws, .slice avs nvs cvs]]) (fun i => [(1, .pointer (some ⟨bkb1, 0, none⟩)), (3, .int .i64 (nws : Int)), (24, .int .i64 (nws : Int)), (25, .int .i64 (i : Int))]) 0 ⟨Nat.zero_le _, fun j hj => by omega⟩ (fun _ h => h.pick [0]) ⟨rfl, rfl, rfl, rfl, trivial⟩ ?_
    rintro i τ1 ⟨hi, hal⟩
    refine hSeq ?_
    refine hReg (sq 0 sz) (by kernel_rfl) ?_
    refine lss rfl rfl rfl rfl ?_
    refine rNil ?_
    refine qSeq rfl ?_
    refine hSeq ?_
    refine hIfD rfl (fun c4 => ?_) (fun c4 => ?_)
    ·
     replace c4 : (i : Int) < (nws : Int) := c4
     refine hSkip ?_
     refine qSeq rfl ?_
     refine hSeq ?_
     refine hBlk ?_
     refine hSeq ?_
     refine hReg (sq 0 (sq 1 sz)) (by kernel_rfl) ?_
     refine mvI rfl rfl rfl ?_
     refine asI rfl rfl rfl ?_
     refine rNil ?_
     refine qSeq rfl ?_
     refine hSeq ?_
     refine hReg (sq 0 (sl 1 (sq 2 (sq 3 (sl 4 (sq 5 (sq 6 (sq 7 (sq 8 (sq 9 (sl 10 (sq 11 (sq 12 (sl 13 (sq 14 (sq 15 (sq 16 (sq 17 (sq 18 (sq 19 (sl 20 (sq 21 (sq 22 (sl 23 (sl 24 (sq 25 (sq 26 (sq 27 (sq 28 (sl 29 (sq 30 (sq 31 (sl 32 (sl 33 (sq 34 (sq 35 sz)))))))))))))))))))))))))))))))))))) (by kernel_rfl) ?_
     refine fld fl43_1 rfl rfl rfl ?_
     refine ldl Tryd.isAgg34 (cB 0 rfl rfl) trv rfl rfl rfl ?_
     refine mvI rfl rfl rfl ?_
     refine ixRl (zn := i) (ws.getD i []) el34 (Kn.drop (k := 1) kws) rfl rfl rfl rfl (by omega) (by omega) rfl (nth [] (by omega)) ?_
     intro be1 oe1 e1
     refine ldl Tryd.isAgg59 (Kn.fld e1 0 rfl) trv rfl rfl rfl ?_
     refine lenS Tryd.runUnderlying59 rfl rfl rfl ?_
     refine mvI rfl rfl rfl ?_
     refine neq rfl rfl rfl rfl ?_
     refine mvB rfl rfl rfl ?_
     refine rBoolD (d := 36) rfl (fun g5 => ?_) (fun g5 => ?_)
     ·
      replace g5 : (((ws.getD i []).length : Nat) : Int) ≠ (nws : Int) := g5
      refine rSkipQ rfl rfl ?_
      refine rSkipL trv rfl rfl ?_
      refine rSkipQ rfl rfl ?_
      refine rSkipQ rfl rfl ?_
      refine rSkipL trv rfl rfl ?_
      refine rSkipQ rfl rfl ?_
      refine rSkipQ rfl rfl ?_
      refine rSkipQ rfl rfl ?_
      refine pickB rfl rfl rfl rfl ?_
      refine mvB rfl rfl rfl ?_
      refine rSkipQ rfl rfl ?_
      refine rSkipL trv rfl rfl ?_
      refine rSkipQ rfl rfl ?_
      refine rSkipQ rfl rfl ?_
      refine rSkipL trv rfl rfl ?_
      refine rSkipL trv rfl rfl ?_
      refine rSkipQ rfl rfl ?_
      refine pickB rfl rfl rfl rfl ?_
      refine mvB rfl rfl rfl ?_
      refine rSkipQ rfl rfl ?_
      refine rSkipL trv rfl rfl ?_
      refine rSkipQ rfl rfl ?_
      refine rSkipQ rfl rfl ?_
      refine rSkipL trv rfl rfl ?_
      refine rSkipL trv rfl rfl ?_
      refine rSkipQ rfl rfl ?_
      refine pickB rfl rfl rfl rfl ?_
      refine rNil ?_
      refine qSeq rfl ?_
      refine hIfT rfl ?_
      refine hSeq ?_
      refine hReg (sq 0 sz) (by kernel_rfl) ?_
      refine asB rfl rfl rfl ?_
      refine rNil ?_
      refine qSeq rfl ?_
      refine hRet ?_
      exact fun w hs => ⟨[.bool false], ⟨rfl, trivial⟩, ⟨bB (by unfold Math.isGame; rw [lws, Math.mat_no (m := ws) (i := i) (by omega) (Math.row_no1 g5)]; simp), hs.upd⟩⟩
     ·
      replace g5 : ¬ ((((ws.getD i []).length : Nat) : Int) ≠ (nws : Int)) := g5
      refine fld fl43_2 rfl rfl rfl ?_
      refine ldl Tryd.isAgg34 (cB 0 rfl rfl) trv rfl rfl rfl ?_
      refine mvI rfl rfl rfl ?_
      refine ixRl (zn := i) (vs.getD i []) el34 (Kn.drop (k := 1) kvs) rfl rfl rfl rfl (by omega) (by omega) rfl (nth [] (by omega)) ?_
      intro be2 oe2 e2
      refine ldl Tryd.isAgg59 (Kn.fld e2 0 rfl) trv rfl rfl rfl ?_
      refine lenS Tryd.runUnderlying59 rfl rfl rfl ?_
      refine mvI rfl rfl rfl ?_
      refine neq rfl rfl rfl rfl ?_
      refine pickB rfl rfl rfl rfl ?_
      refine mvB rfl rfl rfl ?_
      refine rBoolD (d := 46) rfl (fun g6 => ?_) (fun g6 => ?_)
      ·
       replace g6 : (((vs.getD i []).length : Nat) : Int) ≠ (nws : Int) := g6
       refine rSkipQ rfl rfl ?_
       refine rSkipL trv rfl rfl ?_
       refine rSkipQ rfl rfl ?_
       refine rSkipQ rfl rfl ?_
       refine rSkipL trv rfl rfl ?_
       refine rSkipL trv rfl rfl ?_
       refine rSkipQ rfl rfl ?_
       refine pickB rfl rfl rfl rfl ?_
       refine mvB rfl rfl rfl ?_
       refine rSkipQ rfl rfl ?_
       refine rSkipL trv rfl rfl ?_
       refine rSkipQ rfl rfl ?_
       refine rSkipQ rfl rfl ?_
       refine rSkipL trv rfl rfl ?_
       refine rSkipL trv rfl rfl ?_
       refine rSkipQ rfl rfl ?_
       refine pickB rfl rfl rfl rfl ?_
       refine rNil ?_
       refine qSeq rfl ?_
       refine hIfT rfl ?_
       refine hSeq ?_
       refine hReg (sq 0 sz) (by kernel_rfl) ?_
       refine asB rfl rfl rfl ?_
       refine rNil ?_
       refine qSeq rfl ?_
       refine hRet ?_
       exact fun w hs => ⟨[.bool false], ⟨rfl, trivial⟩, ⟨bB (by unfold Math.isGame; rw [lws, Math.mat_no (m := vs) (i := i) (by omega) (Math.row_no1 g6)]; simp), hs.upd⟩⟩
      ·
       replace g6 : ¬ ((((vs.getD i []).length : Nat) : Int) ≠ (nws : Int)) := g6
       refine fld fl43_1 rfl rfl rfl ?_
       refine ldl Tryd.isAgg34 (cB 0 rfl rfl) trv rfl rfl rfl ?_
       refine mvI rfl rfl rfl ?_
       refine ixRl (zn := i) (ws.getD i []) el34 (Kn.drop (k := 1) kws) rfl rfl rfl rfl (by omega) (by omega) rfl (nth [] (by omega)) ?_
       intro be3 oe3 e3
       refine ldl Tryd.isAgg59 (Kn.fld e3 0 rfl) trv rfl rfl rfl ?_
       refine callP (v := .bool (((ws.getD i []).all (Math.inB (0 : Int) (9 : Int))))) Tryd.call43 trv rfl rfl (fun w hs => impl_allWithin_c _ _ _ _ _ _ w (Kn.drop (k := 1) ((Kn.imp kws fun _ h => h.kidM (nth [] (by omega)))) w hs)) ?_
       refine not rfl rfl rfl ?_
       refine pickB rfl rfl rfl rfl ?_
       refine mvB rfl rfl rfl ?_
       refine rBoolN (d := 55) rfl (fun g7 => ?_) (fun g7 => ?_)
       ·
        replace g7 : ((ws.getD i []).all (Math.inB (0 : Int) (9 : Int))) = false := g7
        refine rSkipQ rfl rfl ?_
        refine rSkipL trv rfl rfl ?_
        refine rSkipQ rfl rfl ?_
        refine rSkipQ rfl rfl ?_
        refine rSkipL trv rfl rfl ?_
        refine rSkipL trv rfl rfl ?_
        refine rSkipQ rfl rfl ?_
        refine pickB rfl rfl rfl rfl ?_
        refine rNil ?_
        refine qSeq rfl ?_
        refine hIfT rfl ?_
        refine hSeq ?_
        refine hReg (sq 0 sz) (by kernel_rfl) ?_
        refine asB rfl rfl rfl ?_
        refine rNil ?_
        refine qSeq rfl ?_
        refine hRet ?_
        exact fun w hs => ⟨[.bool false], ⟨rfl, trivial⟩, ⟨bB (by unfold Math.isGame; rw [lws, Math.mat_no (m := ws) (i := i) (by omega) (Math.row_no2 g7)]; simp), hs.upd⟩⟩
       ·
        replace g7 : ((ws.getD i []).all (Math.inB (0 : Int) (9 : Int))) = true := g7
        refine fld fl43_2 rfl rfl rfl ?_
        refine ldl Tryd.isAgg34 (cB 0 rfl rfl) trv rfl rfl rfl ?_
        refine mvI rfl rfl rfl ?_
        refine ixRl (zn := i) (vs.getD i []) el34 (Kn.drop (k := 1) kvs) rfl rfl rfl rfl (by omega) (by omega) rfl (nth [] (by omega)) ?_
        intro be4 oe4 e4
        refine ldl Tryd.isAgg59 (Kn.fld e4 0 rfl) trv rfl rfl rfl ?_
        refine callP (v := .bool (((vs.getD i []).all (Math.inB (-1) (1 : Int))))) Tryd.call43 trv rfl rfl (fun w hs => impl_allWithin_c _ _ _ _ _ _ w (Kn.drop (k := 1) ((Kn.imp kvs fun _ h => h.kidM (nth [] (by omega)))) w hs)) ?_
        refine not rfl rfl rfl ?_
        refine pickB rfl rfl rfl rfl ?_
        refine rNil ?_
        refine qSeq rfl ?_
        refine hIfN rfl (fun c8 => ?_) (fun c8 => ?_)
        ·
         replace c8 : ((vs.getD i []).all (Math.inB (-1) (1 : Int))) = false := c8
         refine hSeq ?_
         refine hReg (sq 0 sz) (by kernel_rfl) ?_
         refine asB rfl rfl rfl ?_
         refine rNil ?_
         refine qSeq rfl ?_
         refine hRet ?_
         exact fun w hs => ⟨[.bool false], ⟨rfl, trivial⟩, ⟨bB (by unfold Math.isGame; rw [lws, Math.mat_no (m := vs) (i := i) (by omega) (Math.row_no2 c8)]; simp), hs.upd⟩⟩
        ·
         replace c8 : ((vs.getD i []).all (Math.inB (-1) (1 : Int))) = true := c8
         refine hSkip ?_
         refine qSeq rfl ?_
         refine hReg (sq 0 (sq 1 sz)) (by kernel_rfl) ?_
         refine add rfl rfl rfl rfl (by omega) ?_
         refine mvI rfl rfl rfl ?_
         refine rNil ?_
         exact qNext rfl (i + 1) (by omega) (⟨by omega, Math.upto hal ⟨Math.row_yes (by omega) g7, Math.row_yes (by omega) c8⟩⟩) ⟨rfl, rfl, rfl, rfl, trivial⟩ (fun _ h => h.pick [0])
    ·
     replace c4 : ¬ ((i : Int) < (nws : Int)) := c4
     have hm : Math.matB nws 0 9 ws = true := Math.mat_yes lws fun j hj => (hal j (by omega)).1
     have hv : Math.matB nws (-1) 1 vs = true := Math.mat_yes (by omega) fun j hj => (hal j (by omega)).2
     refine hExit rfl ?_
     refine qSeq rfl ?_
     refine hSeq ?_
     refine hReg (sl 0 (sl 1 (sq 2 (sq 3 sz)))) (by kernel_rfl) ?_
     refine ldAl Tryd.isAgg43 Tryd.sizeOf43 (cBs 0 rfl) trv rfl rfl rfl rfl ?_
     refine callP (v := .int .i64 (Math.total ws)) Tryd.call63 trv rfl rfl (fun w hs => impl_totalWeight_c _ _ _ _ _ _ _ _ _ _ _ _ _ _ _ w (Kn.drop (k := 1) kz w hs) (Kn.drop (k := 1) kws w hs) (Kn.drop (k := 1) kvs w hs) (by assumption) (by omega)) ?_
     refine gtr rfl rfl rfl rfl ?_
     refine asB rfl rfl rfl ?_
     refine rNil ?_
     refine qSeq rfl ?_
     refine hRet ?_
     exact fun w hs => ⟨[.bool (decide (0 < (Math.total ws)))], ⟨rfl, trivial⟩, ⟨bB (by unfold Math.isGame; rw [lws, hm, hv, g1, g2]; rfl), hs.upd⟩⟩
end Go.Proofs.YtgnfffdenbiipaaDoor
/- Plain facts on payoffs, information sets, strategies. No condition. -/
namespace Go.Proofs.YtgnfffdenbiipaaDoor.Math
open Go.Proofs.YtgnfffdenbiipaaDoor.V
set_option linter.unusedVariables false
set_option linter.unusedSimpArgs false
/-- What player 0 gets at an end. -/
def payoffX (x : Nd) (w : Int) : Int :=
 if x.fo = 0 then -x.p0 else if x.fo = 1 then x.p1 else if w = 1 then x.p1 else if w = -1 then -x.p0 else 0
def payoffOf (z : List Nd) (ws vs : List (List Int)) (node a b : Int) : Int × Int :=
 if isGame z ws vs = true then
  if (0 ≤ node ∧ node ≤ (z.length : Int) - 1) ∧ (0 ≤ a ∧ a ≤ (ws.length : Int) - 1) ∧ (0 ≤ b ∧ b ≤ (ws.length : Int) - 1) then
   if (z.getD node.toNat dN).pl = 2 then (payoffX (z.getD node.toNat dN) ((vs.getD a.toNat []).getD b.toNat 0), 0) else (0, 5)
  else (0, 2)
 else (0, 1)
/-- Information sets: nodes and cards. -/
def setsOf (xs : List Int) (k : Nat) : List (List Int) := xs.flatMap fun n => (List.range k).map fun (c : Nat) => [n, (c : Int)]
def setsTo (xs : List Int) (k i j : Nat) : List (List Int) := setsOf (xs.take i) k ++ (List.range j).map fun (c : Nat) => [xs.getD i 0, (c : Int)]
theorem setsTo_cell {xs : List Int} {k i j : Nat} : setsTo xs k i (j + 1) = setsTo xs k i j ++ [[xs.getD i 0, (j : Int)]] := by
 unfold setsTo; rw [List.range_succ, List.map_append, ← List.append_assoc]; rfl
theorem setsTo_row {xs : List Int} {k i j : Nat} (h : i < xs.length) (hj : j = k) : setsTo xs k i j = setsTo xs k (i + 1) 0 := by
 subst hj; unfold setsTo; rw [take_step 0 h]; simp [setsOf, List.flatMap_append]
theorem setsTo_end {xs : List Int} {k i : Nat} (h : xs.length ≤ i) : setsTo xs k i 0 = setsOf xs k := by
 unfold setsTo; rw [List.take_of_length_le h]; simp
theorem setsOf_len (xs : List Int) (k : Nat) : (setsOf xs k).length = xs.length * k := by
 induction xs with
 | nil => simp [setsOf]
 | cons x xs ih =>
  have h : setsOf (x :: xs) k = ((List.range k).map fun (c : Nat) => [x, (c : Int)]) ++ setsOf xs k := rfl
  rw [h, List.length_append, ih, List.length_map, List.length_range, List.length_cons, Nat.succ_mul, Nat.add_comm]
theorem setsOf_at {xs : List Int} {k i : Nat} (h : i < (setsOf xs k).length) : ∃ n c : Int, n ∈ xs ∧ (0 ≤ c ∧ c < k) ∧ (setsOf xs k).getD i [] = [n, c] := by
 have hm := getD_mem [] h
 generalize (setsOf xs k).getD i [] = s at hm
 simp only [setsOf, List.mem_flatMap, List.mem_map, List.mem_range] at hm
 obtain ⟨n, hn, c, hc, rfl⟩ := hm
 exact ⟨n, c, hn, by omega, rfl⟩
theorem nodesOf_mem {z : List Nd} {p n : Int} (h : n ∈ nodesOf z p) : (0 ≤ n ∧ n < z.length) ∧ (z.getD n.toNat dN).pl = p := by
 simp only [nodesOf, List.mem_map, List.mem_filter, List.mem_range, decide_eq_true_eq] at h
 obtain ⟨i, ⟨hi, hp⟩, rfl⟩ := h
 exact ⟨by omega, by simpa using hp⟩
/-- The sets of a player. -/
def sets (z : List Nd) (k : Nat) (p : Int) : List (List Int) := setsOf (nodesOf z p) k
theorem sets_at {z : List Nd} {k : Nat} {p : Int} {i : Nat} (h : i < (sets z k p).length) : ((sets z k p).getD i []).length = 2 ∧ (0 ≤ ((sets z k p).getD i []).getD 0 0 ∧ ((sets z k p).getD i []).getD 0 0 < z.length) ∧ (z.getD (((sets z k p).getD i []).getD 0 0).toNat dN).pl = p := by
 obtain ⟨n, c, hn, hc, hs⟩ := setsOf_at h
 have he : (sets z k p).getD i [] = [n, c] := hs
 rw [he]
 exact ⟨rfl, (nodesOf_mem hn).1, (nodesOf_mem hn).2⟩
theorem sets_len {z : List Nd} {k : Nat} {p : Int} (hk : k ≤ 6) : (sets z k p).length ≤ 6 * z.length := by
 unfold sets; rw [setsOf_len]
 have := nodesOf_len z p
 calc (nodesOf z p).length * k ≤ z.length * 6 := Nat.mul_le_mul this hk
  _ = 6 * z.length := Nat.mul_comm _ _
def setsAt (z : List Nd) (ws vs : List (List Int)) (p : Int) : List (List Int) × Int :=
 if isGame z ws vs = true then if 0 ≤ p ∧ p ≤ 1 then (sets z ws.length p, 0) else ([], 2) else ([], 1)
/-- The children of the node of a set. -/
def wide (z : List Nd) (s : List Int) : Nat := (z.getD (s.getD 0 0).toNat dN).ch.length
/-- Parts of one set. -/
def partB (z : List Nd) (s r : List Int) : Bool := rowB (wide z s) 0 60 r && decide (r.sum = 60)
def partsB (z : List Nd) (ss ps : List (List Int)) : Bool := decide (ps.length = ss.length) && (List.range ss.length).all fun i => partB z (ss.getD i []) (ps.getD i [])
section
variable {z : List Nd} {s r : List Int} {ss ps : List (List Int)} {i : Nat}
theorem part_no1 (h : (r.length : Int) ≠ (wide z s : Int)) : partB z s r = false := by unfold partB; rw [row_no1 h, Bool.false_and]
theorem part_no2 (h : r.all (inB 0 60) = false) : partB z s r = false := by unfold partB; rw [row_no2 h, Bool.false_and]
theorem part_no3 (h : r.sum ≠ 60) : partB z s r = false := by unfold partB; rw [decide_eq_false h, Bool.and_false]
theorem part_yes (h1 : (r.length : Int) = (wide z s : Int)) (h2 : r.all (inB 0 60) = true) (h3 : r.sum = 60) : partB z s r = true := by
 unfold partB; rw [row_yes h1 h2, decide_eq_true h3]; rfl
theorem part_row (h : partB z s r = true) : rowB (wide z s) 0 60 r = true ∧ r.sum = 60 := by simpa [partB] using h
theorem parts_no0 (h : (ps.length : Int) ≠ (ss.length : Int)) : partsB z ss ps = false := by
 have : ¬ ps.length = ss.length := by omega
 simp [partsB, this]
theorem parts_no (hi : i < ss.length) (h : partB z (ss.getD i []) (ps.getD i []) = false) : partsB z ss ps = false := by
 unfold partsB
 rw [Bool.eq_false_iff]; intro h'
 rw [Bool.and_eq_true] at h'
 have := List.all_eq_true.1 h'.2 i (List.mem_range.2 hi)
 rw [h] at this; cases this
theorem parts_yes (h : ps.length = ss.length) (h2 : ∀ i, i < ss.length → partB z (ss.getD i []) (ps.getD i []) = true) : partsB z ss ps = true := by
 unfold partsB; rw [decide_eq_true h, Bool.true_and]
 exact List.all_eq_true.2 fun i hi => h2 i (List.mem_range.1 hi)
theorem parts_len (h : partsB z ss ps = true) : ps.length = ss.length := by simp only [partsB, Bool.and_eq_true, decide_eq_true_eq] at h; exact h.1
theorem parts_at (h : partsB z ss ps = true) (hi : i < ss.length) : partB z (ss.getD i []) (ps.getD i []) = true := by
 simp only [partsB, Bool.and_eq_true] at h
 exact List.all_eq_true.1 h.2 i (List.mem_range.2 hi)
theorem all60 (h : r.all (inB 0 60) = true) : ∀ x ∈ r, 0 ≤ x ∧ x ≤ 1000000000 := fun x hx => by
 have := List.all_eq_true.1 h x hx
 simp only [inB, decide_eq_true_eq] at this
 omega
end
def isStrat (z : List Nd) (ws vs : List (List Int)) (pl : Int) (ps : List (List Int)) : Bool :=
 isGame z ws vs && (decide (0 ≤ pl ∧ pl ≤ 1) && partsB z (sets z ws.length pl) ps)
theorem isStrat_ok {z : List Nd} {ws vs : List (List Int)} {pl : Int} {ps : List (List Int)} (h : isStrat z ws vs pl ps = true) : isGame z ws vs = true ∧ (0 ≤ pl ∧ pl ≤ 1) ∧ partsB z (sets z ws.length pl) ps = true := by
 simp only [isStrat, Bool.and_eq_true, decide_eq_true_eq] at h; exact h
/-- The number of pure strategies. -/
def countL : List Int → Int → Option Int
 | [], n => some n
 | x :: l, n => if n * x > 1000000000 then none else countL l (n * x)
def sizes (z : List Nd) (ss : List (List Int)) : List Int := ss.map fun s => (wide z s : Int)
def countOf (z : List Nd) (ws vs : List (List Int)) (p : Int) : Int × Int :=
 if isGame z ws vs = true then
  if 0 ≤ p ∧ p ≤ 1 then
   match countL (sizes z (sets z ws.length p)) 1 with
   | some n => (n, 0)
   | none => (0, 3)
  else (0, 2)
 else (0, 1)
def codeOf (z : List Nd) (ws vs : List (List Int)) (p : Int) : Int := if isGame z ws vs = true then if 0 ≤ p ∧ p ≤ 1 then 0 else 2 else 1
theorem wide_le {z : List Nd} {ws vs : List (List Int)} {s : List Int} (hg : isGame z ws vs = true) (h : 0 ≤ s.getD 0 0 ∧ s.getD 0 0 < z.length) : wide z s ≤ 4 :=
 (ok_pl (allOk_iff.1 (isTree_ok (isGame_ok hg).1).2.1 (s.getD 0 0).toNat (by omega))).2.2.2.2.1
theorem strat_no1 {z : List Nd} {ws vs : List (List Int)} {pl : Int} {ps : List (List Int)} (h : isGame z ws vs = false) : isStrat z ws vs pl ps = false := by unfold isStrat; rw [h, Bool.false_and]
theorem strat_no2 {z : List Nd} {ws vs : List (List Int)} {pl : Int} {ps : List (List Int)} (h : ¬ (0 ≤ pl ∧ pl ≤ 1)) : isStrat z ws vs pl ps = false := by unfold isStrat; rw [decide_eq_false h, Bool.false_and, Bool.and_false]
theorem strat_in {z : List Nd} {ws vs : List (List Int)} {pl : Int} {ps : List (List Int)} {k : Nat} (hk : ws.length = k) (hg : isGame z ws vs = true) (h : 0 ≤ pl ∧ pl ≤ 1) : isStrat z ws vs pl ps = partsB z (sets z k pl) ps := by subst hk; unfold isStrat; rw [hg, decide_eq_true h, Bool.true_and, Bool.true_and]
end Go.Proofs.YtgnfffdenbiipaaDoor.Math
/- Contracts of payoffs and information sets. Their conditions stand in each. -/
namespace Go.Proofs.YtgnfffdenbiipaaDoor
open Go Go.RowKit V
set_option linter.unusedVariables false
set_option linter.unusedSimpArgs false
set_option maxRecDepth 100000
theorem bsl34_0   : ∀ w, (Instr.buildSlice 34 0 ([] : List (Nat × Value)).toArray).run Tryd.prog w = .ok (.slice (some ⟨w.heap.size, 0, none⟩) 0 0) (w.alloc (.cells ([] : List Value).toArray 59)) := by
 intro w; simp [Instr.buildSlice, Instr.fill, Tryd.zeroValue59, Tryd.runUnderlying34, Tryd.sizeOf59, Value.cells_int, newRow, show Array.range 0 = #[] from by decide]
theorem bsl34_1 (v0 : Value) (h0 : v0.cells = #[v0]) : ∀ w, (Instr.buildSlice 34 1 ([(0, v0)] : List (Nat × Value)).toArray).run Tryd.prog w = .ok (.slice (some ⟨w.heap.size, 0, none⟩) 1 1) (w.alloc (.cells ([v0] : List Value).toArray 59)) := by
 intro w; simp [Instr.buildSlice, Instr.fill, Tryd.zeroValue59, Tryd.runUnderlying34, Tryd.sizeOf59, Value.cells_int, newRow, show Array.range 1 = #[0] from by decide, h0]
theorem bsl59_2 (v0 v1 : Value) (h0 : v0.cells = #[v0]) (h1 : v1.cells = #[v1]) : ∀ w, (Instr.buildSlice 59 2 ([(0, v0), (1, v1)] : List (Nat × Value)).toArray).run Tryd.prog w = .ok (.slice (some ⟨w.heap.size, 0, none⟩) 2 2) (w.alloc (.cells ([v0, v1] : List Value).toArray 2)) := by
 intro w; simp [Instr.buildSlice, Instr.fill, Tryd.zeroValue2, Tryd.runUnderlying59, Tryd.sizeOf2, Value.cells_int, newRow, show Array.range 2 = #[0, 1] from by decide, h0, h1]
set_option maxHeartbeats 1000000 in
theorem impl_infoSets_c (az : Option Addr) (nz : Nat) (cz : Nat) (Hz : Nat → Hd) (z : List Nd) (aws : Option Addr) (nws : Nat) (cws : Nat) (Hws : Nat → Hd) (ws : List (List Int)) (avs : Option Addr) (nvs : Nat) (cvs : Nat) (Hvs : Nat → Hd) (vs : List (List Int)) (p : Int) (w : World) (rz : RdR ndK az nz Hz z w) (rws : RdR maK aws nws Hws ws w) (rvs : RdR maK avs nvs Hvs vs w) (hk : nws ≤ 6) (hn : nz ≤ 60) :
  Calls Tryd.prog 32 #[.agg #[.slice az nz cz, .slice aws nws cws, .slice avs nvs cvs], .int .i64 p] w (Ret fun v w' => ∃ x : Option Addr × Nat × Nat × (Nat → Hd) × List (List Int), v = .slice x.1 x.2.1 x.2.2.1 ∧ (x.2.2.2.2 = Math.sets z nws p) ∧ Sep w none_ [OwnR maK 59 2 x.1 x.2.1 x.2.2.1 x.2.2.2.1 x.2.2.2.2] w') := by
 have kz : Kn w none_ [] (RdR ndK az nz Hz z) := fun w' hs => rz.ext hs.upd
 have lz : z.length = nz := rz.1
 have mz : nz ≤ 9223372036854775807 := rz.2.1
 have kws : Kn w none_ [] (RdR maK aws nws Hws ws) := fun w' hs => rws.ext hs.upd
 have lws : ws.length = nws := rws.1
 have mws : nws ≤ 9223372036854775807 := rws.2.1
 have kvs : Kn w none_ [] (RdR maK avs nvs Hvs vs) := fun w' hs => rvs.ext hs.upd
 have lvs : vs.length = nvs := rvs.1
 have mvs : nvs ≤ 9223372036854775807 := rvs.2.1
 have hnl := Math.nodesOf_len z p
 refine fn (M := none_) (rs := [.tmp 4]) Tryd.func32 rfl Tryd.ntmps32 rfl rfl (Sep.start _ _) ?_
 refine hSeq ?_
 refine hReg (sl 0 (sq 1 sz)) (by kernel_rfl) ?_
 refine box trv1 rfl rfl rfl rfl (fun bkb1 hbkb1 => ?_)
 refine asS rfl rfl rfl ?_
 refine rNil ?_
 refine qSeq rfl ?_
 refine hSeq ?_
 refine hReg (sq 0 sz) (by kernel_rfl) ?_
 refine asS rfl rfl rfl ?_
 refine rNil ?_
 refine qSeq rfl ?_
 refine hSeq ?_
 refine hSeq ?_
 refine hReg (sq 0 (sl 1 (sq 2 (sl 3 (sq 4 (sq 5 sz)))))) (by kernel_rfl) ?_
 refine fld fl43_0 rfl rfl rfl ?_
 refine ldAl Tryd.isAgg30 Tryd.sizeOf30 (cBp (m := 1) 0 rfl rfl) trv rfl rfl rfl rfl ?_
 refine mvI rfl rfl rfl ?_
 refine callS Tryd.call55 trv1 rfl rfl (fun w hs => impl_nodesOf_c _ nz cz _ _ _ w (Kn.drop (k := 1) kz w hs) (by omega)) ?_
 rintro ⟨ay1, ny1, cy1, y1⟩ hr1
 dsimp only at hr1
 subst y1
 refine rKnow (fun w hs => (show OwnI 2 ay1 ny1 cy1 (Math.nodesOf z p) w from hs.at_ 0 rfl).lenz) (fun lenn2 => ?_)
 refine lenS Tryd.runUnderlying59 rfl rfl rfl ?_
 refine mvI rfl rfl rfl ?_
 refine rNil ?_
 refine qSeq rfl ?_
 refine hBlk ?_
 refine hPieces (fun _ h => Sep.nilR maK 59 2 (fun _ => (none, 0)) h) ?_
 refine hLoop (α := Nat × Nat × Hd × (Nat → Hd)) (fun x => x.1 ≤ ny1 ∧ x.2.1 ≤ 6 * x.1) (fun x => ny1 - x.1) (fun x => [OwnR maK 59 2 x.2.2.1.1 x.2.1 x.2.2.1.2 x.2.2.2 ((Math.setsTo (Math.nodesOf z p) nws x.1 0)), OwnI 2 ay1 ny1 cy1 (Math.nodesOf z p), blk bkb1 43 [.slice az nz cz, .slice aws nws cws, .slice avs nvs cvs]]) (fun x => [(2, .pointer (some ⟨bkb1, 0, none⟩)), (5, .slice x.2.2.1.1 x.2.1 x.2.2.1.2), (12, .slice ay1 ny1 cy1), (13, .int .i64 (ny1 : Int)), (14, .int .i64 (x.1 : Int))]) ((0, 0, ((none, 0), (fun _ => (none, 0))))) ⟨Nat.zero_le _, Nat.zero_le _⟩ (fun _ h => h.pick [0, 0, 0]) ⟨rfl, rfl, rfl, rfl, rfl, trivial⟩ ?_
 rintro ⟨i, q, hd⟩ τ1 ⟨hi, hq⟩
 dsimp only at hi hq
 refine hRe [(2, .pointer (some ⟨bkb1, 0, none⟩)), (5, .slice hd.1.1 q hd.1.2), (12, .slice ay1 ny1 cy1), (13, .int .i64 (ny1 : Int)), (14, .int .i64 (i : Int))] [OwnR maK 59 2 hd.1.1 q hd.1.2 hd.2 ((Math.setsTo (Math.nodesOf z p) nws i 0)), OwnI 2 ay1 ny1 cy1 (Math.nodesOf z p), blk bkb1 43 [.slice az nz cz, .slice aws nws cws, .slice avs nvs cvs]] rfl rfl ?_
 refine hSeq ?_
 refine hReg (sq 0 sz) (by kernel_rfl) ?_
 refine lss rfl rfl rfl rfl ?_
 refine rNil ?_
 refine qSeq rfl ?_
 refine hSeq ?_
 refine hIfD rfl (fun c1 => ?_) (fun c1 => ?_)
 ·
  replace c1 : (i : Int) < (ny1 : Int) := c1
  refine hSkip ?_
  refine qSeq rfl ?_
  refine hSeq ?_
  refine hBlk ?_
  refine hSeq ?_
  refine hReg (sq 0 (sl 1 (sq 2 sz))) (by kernel_rfl) ?_
  refine ixIl (zn := i) el59 ((Kn.at_ 1 rfl).imp fun _ h => OwnI.rd h) rfl rfl rfl rfl (by omega) (by omega) rfl ?_
  intro ae2 e2
  refine ldl Tryd.isAgg2 (e2) trv rfl rfl rfl ?_
  refine asI rfl rfl rfl ?_
  refine rNil ?_
  refine qSeq rfl ?_
  refine hSeq ?_
  refine hReg (sq 0 (sl 1 (sq 2 (sq 3 sz)))) (by kernel_rfl) ?_
  refine fld fl43_1 rfl rfl rfl ?_
  refine ldl Tryd.isAgg34 (cB 2 rfl rfl) trv rfl rfl rfl ?_
  refine lenS Tryd.runUnderlying34 rfl rfl rfl ?_
  refine mvI rfl rfl rfl ?_
  refine rNil ?_
  refine qSeq rfl ?_
  refine hBlk ?_
  refine hLoop (α := Nat × Nat × Hd × (Nat → Hd)) (fun x => x.1 ≤ nws ∧ x.2.1 ≤ 6 * i + x.1) (fun x => nws - x.1) (fun x => [OwnR maK 59 2 x.2.2.1.1 x.2.1 x.2.2.1.2 x.2.2.2 ((Math.setsTo (Math.nodesOf z p) nws i x.1)), OwnI 2 ay1 ny1 cy1 (Math.nodesOf z p), blk bkb1 43 [.slice az nz cz, .slice aws nws cws, .slice avs nvs cvs]]) (fun x => [(2, .pointer (some ⟨bkb1, 0, none⟩)), (5, .slice x.2.2.1.1 x.2.1 x.2.2.1.2), (7, .int .i64 (((Math.nodesOf z p).getD i 0))), (12, .slice ay1 ny1 cy1), (13, .int .i64 (ny1 : Int)), (14, .int .i64 (i : Int)), (20, .int .i64 (nws : Int)), (21, .int .i64 (x.1 : Int))]) (0, q, hd) ⟨Nat.zero_le _, hq⟩ (fun _ h => h.pick [0, 0, 0]) ⟨rfl, rfl, rfl, rfl, rfl, rfl, rfl, rfl, trivial⟩ ?_
  rintro ⟨j, q2, hd2⟩ τ2 ⟨hj, hq2⟩
  dsimp only at hj hq2
  refine hRe [(2, .pointer (some ⟨bkb1, 0, none⟩)), (5, .slice hd2.1.1 q2 hd2.1.2), (7, .int .i64 (((Math.nodesOf z p).getD i 0))), (12, .slice ay1 ny1 cy1), (13, .int .i64 (ny1 : Int)), (14, .int .i64 (i : Int)), (20, .int .i64 (nws : Int)), (21, .int .i64 (j : Int))] [OwnR maK 59 2 hd2.1.1 q2 hd2.1.2 hd2.2 ((Math.setsTo (Math.nodesOf z p) nws i j)), OwnI 2 ay1 ny1 cy1 (Math.nodesOf z p), blk bkb1 43 [.slice az nz cz, .slice aws nws cws, .slice avs nvs cvs]] rfl rfl ?_
  refine hSeq ?_
  refine hReg (sq 0 sz) (by kernel_rfl) ?_
  refine lss rfl rfl rfl rfl ?_
  refine rNil ?_
  refine qSeq rfl ?_
  refine hSeq ?_
  refine hIfD rfl (fun c2 => ?_) (fun c2 => ?_)
  ·
   replace c2 : (j : Int) < (nws : Int) := c2
   refine hSkip ?_
   refine qSeq rfl ?_
   refine hSeq ?_
   refine hBlk ?_
   refine hSeq ?_
   refine hReg (sq 0 (sq 1 sz)) (by kernel_rfl) ?_
   refine mvI rfl rfl rfl ?_
   refine asI rfl rfl rfl ?_
   refine rNil ?_
   refine qSeq rfl ?_
   refine hReg (sq 0 (sq 1 (sq 2 (sl 3 (sl 4 (sl 5 (sq 6 sz))))))) (by kernel_rfl) ?_
   refine mvS rfl rfl rfl ?_
   refine mvI rfl rfl rfl ?_
   refine mvI rfl rfl rfl ?_
   refine bsl trv1 rfl rfl rfl (bsl59_2 (.int .i64 _) (.int .i64 _) rfl rfl) (fun bkl4 hbkl4 => ?_)
   refine bsl trv1 rfl rfl rfl (bsl34_1 (.slice _ _ _) rfl) (fun bkl5 hbkl5 => ?_)
   refine rPieces (fun _ h => Sep.litI h 1 [((Math.nodesOf z p).getD i 0), (j : Int)] rfl rfl rfl) ?_
   refine apR (hd := ((some ⟨bkl4, 0, none⟩), 2)) (x := [((Math.nodesOf z p).getD i 0), (j : Int)]) 2 1 0 maK.ok rfl rfl rfl (fun h => by first | rfl | (dsimp only at h; rw [h]; rfl) | (rw [h]; rfl) | exact congrArg (fun m => [Value.slice _ m _]) h) mk34 trv1 rfl rfl rfl rfl (by omega) ?_
   intro aq3 cq3
   refine asS rfl rfl rfl ?_
   refine rNil ?_
   refine qSeq rfl ?_
   refine hReg (sq 0 (sq 1 sz)) (by kernel_rfl) ?_
   refine add rfl rfl rfl rfl (by omega) ?_
   refine mvI rfl rfl rfl ?_
   refine rNil ?_
   rw [← Math.setsTo_cell]
   exact qNext rfl ((j + 1, q2 + 1, ((aq3, cq3), (hset hd2.2 ((Math.setsTo (Math.nodesOf z p) nws i j)).length ((some ⟨bkl4, 0, none⟩), 2))))) (by dsimp only; omega) ⟨by dsimp only; omega, by dsimp only; omega⟩ ⟨rfl, rfl, rfl, rfl, rfl, rfl, rfl, rfl, trivial⟩ (fun _ h => h.pick [0, 1, 1])
  ·
   replace c2 : ¬ ((j : Int) < (nws : Int)) := c2
   refine hExit rfl ?_
   refine qSeq rfl ?_
   refine hReg (sq 0 (sq 1 sz)) (by kernel_rfl) ?_
   refine add rfl rfl rfl rfl (by omega) ?_
   refine mvI rfl rfl rfl ?_
   refine rNil ?_
   rw [Math.setsTo_row (by omega) (by omega)]
   exact qNext rfl (i + 1, q2, hd2) (by dsimp only; omega) ⟨by dsimp only; omega, by dsimp only; omega⟩ ⟨rfl, rfl, rfl, rfl, rfl, trivial⟩ (fun _ h => h.pick [0, 0, 0])
 ·
  replace c1 : ¬ ((i : Int) < (ny1 : Int)) := c1
  refine hExit rfl ?_
  refine qSeq rfl ?_
  refine hSeq ?_
  refine hReg (sq 0 (sq 1 sz)) (by kernel_rfl) ?_
  refine mvS rfl rfl rfl ?_
  refine asS rfl rfl rfl ?_
  refine rNil ?_
  refine qSeq rfl ?_
  refine hRet ?_
  exact fun w hs => ⟨[.slice hd.1.1 q hd.1.2], ⟨rfl, trivial⟩, ⟨(hd.1.1, q, hd.1.2, hd.2, (Math.setsTo (Math.nodesOf z p) nws i 0)), rfl, Math.setsTo_end (by omega), hs.pick [0]⟩⟩
set_option maxHeartbeats 1000000 in
theorem spec_l21Sets_c (az : Option Addr) (nz : Nat) (cz : Nat) (Hz : Nat → Hd) (z : List Nd) (aws : Option Addr) (nws : Nat) (cws : Nat) (Hws : Nat → Hd) (ws : List (List Int)) (avs : Option Addr) (nvs : Nat) (cvs : Nat) (Hvs : Nat → Hd) (vs : List (List Int)) (p : Int) (w : World) (rz : RdR ndK az nz Hz z w) (rws : RdR maK aws nws Hws ws w) (rvs : RdR maK avs nvs Hvs vs w) (hk : nws ≤ 6) (hn : nz ≤ 60) :
  Calls Tryd.prog 27 #[.agg #[.slice az nz cz, .slice aws nws cws, .slice avs nvs cvs], .int .i64 p] w (Ret fun v w' => ∃ x : Option Addr × Nat × Nat × (Nat → Hd) × List (List Int), v = .slice x.1 x.2.1 x.2.2.1 ∧ (x.2.2.2.2 = Math.sets z nws p) ∧ Sep w none_ [OwnR maK 59 2 x.1 x.2.1 x.2.2.1 x.2.2.2.1 x.2.2.2.2] w') := by
 have kz : Kn w none_ [] (RdR ndK az nz Hz z) := fun w' hs => rz.ext hs.upd
 have lz : z.length = nz := rz.1
 have mz : nz ≤ 9223372036854775807 := rz.2.1
 have kws : Kn w none_ [] (RdR maK aws nws Hws ws) := fun w' hs => rws.ext hs.upd
 have lws : ws.length = nws := rws.1
 have mws : nws ≤ 9223372036854775807 := rws.2.1
 have kvs : Kn w none_ [] (RdR maK avs nvs Hvs vs) := fun w' hs => rvs.ext hs.upd
 have lvs : vs.length = nvs := rvs.1
 have mvs : nvs ≤ 9223372036854775807 := rvs.2.1
 have hnl := Math.nodesOf_len z p
 refine fn (M := none_) (rs := [.tmp 4]) Tryd.func27 rfl Tryd.ntmps27 rfl rfl (Sep.start _ _) ?_
 refine hSeq ?_
 refine hReg (sl 0 (sq 1 sz)) (by kernel_rfl) ?_
 refine box trv1 rfl rfl rfl rfl (fun bkb1 hbkb1 => ?_)
 refine asS rfl rfl rfl ?_
 refine rNil ?_
 refine qSeq rfl ?_
 refine hSeq ?_
 refine hReg (sq 0 (sl 1 (sq 2 (sl 3 (sq 4 sz))))) (by kernel_rfl) ?_
 refine fld fl43_0 rfl rfl rfl ?_
 refine ldAl Tryd.isAgg30 Tryd.sizeOf30 (cBp (m := 1) 0 rfl rfl) trv rfl rfl rfl rfl ?_
 refine mvI rfl rfl rfl ?_
 refine callS Tryd.call51 trv1 rfl rfl (fun w hs => spec_l20Of_c _ nz cz _ _ _ w (Kn.drop (k := 1) kz w hs) (by omega)) ?_
 rintro ⟨ay1, ny1, cy1, y1⟩ hr1
 dsimp only at hr1
 subst y1
 refine rKnow (fun w hs => (show OwnI 2 ay1 ny1 cy1 (Math.nodesOf z p) w from hs.at_ 0 rfl).lenz) (fun lenn2 => ?_)
 refine asS rfl rfl rfl ?_
 refine rNil ?_
 refine qSeq rfl ?_
 refine hSeq ?_
 refine hReg (sl 0 (sq 1 sz)) (by kernel_rfl) ?_
 refine bsl trv1 rfl rfl rfl (bsl34_0) (fun bkl3 hbkl3 => ?_)
 refine asS rfl rfl rfl ?_
 refine rNil ?_
 refine qSeq rfl ?_
 refine hSeq ?_
 refine hSeq ?_
 refine hReg (sq 0 sz) (by kernel_rfl) ?_
 refine asI rfl rfl rfl ?_
 refine rNil ?_
 refine qSeq rfl ?_
 refine hBlk ?_
 refine hPieces (fun _ h => Sep.litR maK 59 2 (fun _ => (none, 0)) h 0 rfl) ?_
 refine hLoop (α := Nat × Nat × Hd × (Nat → Hd)) (fun x => x.1 ≤ ny1 ∧ x.2.1 ≤ 6 * x.1) (fun x => ny1 - x.1) (fun x => [OwnR maK 59 2 x.2.2.1.1 x.2.1 x.2.2.1.2 x.2.2.2 ((Math.setsTo (Math.nodesOf z p) nws x.1 0)), OwnI 2 ay1 ny1 cy1 (Math.nodesOf z p), blk bkb1 43 [.slice az nz cz, .slice aws nws cws, .slice avs nvs cvs]]) (fun x => [(2, .pointer (some ⟨bkb1, 0, none⟩)), (5, .slice ay1 ny1 cy1), (6, .slice x.2.2.1.1 x.2.1 x.2.2.1.2), (7, .int .i64 (x.1 : Int))]) ((0, 0, (((some ⟨bkl3, 0, none⟩), 0), (fun _ => (none, 0))))) ⟨Nat.zero_le _, Nat.zero_le _⟩ (fun _ h => h.pick [0, 0, 0]) ⟨rfl, rfl, rfl, rfl, trivial⟩ ?_
 rintro ⟨i, q, hd⟩ τ1 ⟨hi, hq⟩
 dsimp only at hi hq
 refine hRe [(2, .pointer (some ⟨bkb1, 0, none⟩)), (5, .slice ay1 ny1 cy1), (6, .slice hd.1.1 q hd.1.2), (7, .int .i64 (i : Int))] [OwnR maK 59 2 hd.1.1 q hd.1.2 hd.2 ((Math.setsTo (Math.nodesOf z p) nws i 0)), OwnI 2 ay1 ny1 cy1 (Math.nodesOf z p), blk bkb1 43 [.slice az nz cz, .slice aws nws cws, .slice avs nvs cvs]] rfl rfl ?_
 refine hSeq ?_
 refine hSeq ?_
 refine hReg (sq 0 (sq 1 (sq 2 (sq 3 sz)))) (by kernel_rfl) ?_
 refine mvI rfl rfl rfl ?_
 refine mvS rfl rfl rfl ?_
 refine lenS Tryd.runUnderlying59 rfl rfl rfl ?_
 refine lss rfl rfl rfl rfl ?_
 refine rNil ?_
 refine qSeq rfl ?_
 refine hIfD rfl (fun c1 => ?_) (fun c1 => ?_)
 ·
  replace c1 : (i : Int) < (ny1 : Int) := c1
  refine hSkip ?_
  refine qSeq rfl ?_
  refine hSeq ?_
  refine hBlk ?_
  refine hSeq ?_
  refine hReg (sq 0 sz) (by kernel_rfl) ?_
  refine asI rfl rfl rfl ?_
  refine rNil ?_
  refine qSeq rfl ?_
  refine hBlk ?_
  refine hLoop (α := Nat × Nat × Hd × (Nat → Hd)) (fun x => x.1 ≤ nws ∧ x.2.1 ≤ 6 * i + x.1) (fun x => nws - x.1) (fun x => [OwnR maK 59 2 x.2.2.1.1 x.2.1 x.2.2.1.2 x.2.2.2 ((Math.setsTo (Math.nodesOf z p) nws i x.1)), OwnI 2 ay1 ny1 cy1 (Math.nodesOf z p), blk bkb1 43 [.slice az nz cz, .slice aws nws cws, .slice avs nvs cvs]]) (fun x => [(2, .pointer (some ⟨bkb1, 0, none⟩)), (5, .slice ay1 ny1 cy1), (6, .slice x.2.2.1.1 x.2.1 x.2.2.1.2), (7, .int .i64 (i : Int)), (8, .int .i64 (x.1 : Int))]) (0, q, hd) ⟨Nat.zero_le _, hq⟩ (fun _ h => h.pick [0, 0, 0]) ⟨rfl, rfl, rfl, rfl, rfl, trivial⟩ ?_
  rintro ⟨j, q2, hd2⟩ τ2 ⟨hj, hq2⟩
  dsimp only at hj hq2
  refine hRe [(2, .pointer (some ⟨bkb1, 0, none⟩)), (5, .slice ay1 ny1 cy1), (6, .slice hd2.1.1 q2 hd2.1.2), (7, .int .i64 (i : Int)), (8, .int .i64 (j : Int))] [OwnR maK 59 2 hd2.1.1 q2 hd2.1.2 hd2.2 ((Math.setsTo (Math.nodesOf z p) nws i j)), OwnI 2 ay1 ny1 cy1 (Math.nodesOf z p), blk bkb1 43 [.slice az nz cz, .slice aws nws cws, .slice avs nvs cvs]] rfl rfl ?_
  refine hSeq ?_
  refine hSeq ?_
  refine hReg (sq 0 (sq 1 (sl 2 (sq 3 (sq 4 sz))))) (by kernel_rfl) ?_
  refine mvI rfl rfl rfl ?_
  refine fld fl43_1 rfl rfl rfl ?_
  refine ldl Tryd.isAgg34 (cB 2 rfl rfl) trv rfl rfl rfl ?_
  refine lenS Tryd.runUnderlying34 rfl rfl rfl ?_
  refine lss rfl rfl rfl rfl ?_
  refine rNil ?_
  refine qSeq rfl ?_
  refine hIfD rfl (fun c2 => ?_) (fun c2 => ?_)
  ·
   replace c2 : (j : Int) < (nws : Int) := c2
   refine hSkip ?_
   refine qSeq rfl ?_
   refine hSeq ?_
   refine hBlk ?_
   refine hReg (sq 0 (sq 1 (sq 2 (sq 3 (sl 4 (sq 5 (sl 6 (sl 7 (sl 8 (sq 9 sz)))))))))) (by kernel_rfl) ?_
   refine mvS rfl rfl rfl ?_
   refine mvS rfl rfl rfl ?_
   refine mvI rfl rfl rfl ?_
   refine ixIl (zn := i) el59 ((Kn.at_ 1 rfl).imp fun _ h => OwnI.rd h) rfl rfl rfl rfl (by omega) (by omega) rfl ?_
   intro ae2 e2
   refine ldl Tryd.isAgg2 (e2) trv rfl rfl rfl ?_
   refine mvI rfl rfl rfl ?_
   refine bsl trv1 rfl rfl rfl (bsl59_2 (.int .i64 _) (.int .i64 _) rfl rfl) (fun bkl4 hbkl4 => ?_)
   refine bsl trv1 rfl rfl rfl (bsl34_1 (.slice _ _ _) rfl) (fun bkl5 hbkl5 => ?_)
   refine rPieces (fun _ h => Sep.litI h 1 [((Math.nodesOf z p).getD i 0), (j : Int)] rfl rfl rfl) ?_
   refine apR (hd := ((some ⟨bkl4, 0, none⟩), 2)) (x := [((Math.nodesOf z p).getD i 0), (j : Int)]) 2 1 0 maK.ok rfl rfl rfl (fun h => by first | rfl | (dsimp only at h; rw [h]; rfl) | (rw [h]; rfl) | exact congrArg (fun m => [Value.slice _ m _]) h) mk34 trv1 rfl rfl rfl rfl (by omega) ?_
   intro aq3 cq3
   refine asS rfl rfl rfl ?_
   refine rNil ?_
   refine qSeq rfl ?_
   refine hReg (sq 0 (sq 1 (sq 2 sz))) (by kernel_rfl) ?_
   refine mvI rfl rfl rfl ?_
   refine add rfl rfl rfl rfl (by omega) ?_
   refine asI rfl rfl rfl ?_
   refine rNil ?_
   rw [← Math.setsTo_cell]
   exact qNext rfl ((j + 1, q2 + 1, ((aq3, cq3), (hset hd2.2 ((Math.setsTo (Math.nodesOf z p) nws i j)).length ((some ⟨bkl4, 0, none⟩), 2))))) (by dsimp only; omega) ⟨by dsimp only; omega, by dsimp only; omega⟩ ⟨rfl, rfl, rfl, rfl, rfl, trivial⟩ (fun _ h => h.pick [0, 1, 1])
  ·
   replace c2 : ¬ ((j : Int) < (nws : Int)) := c2
   refine hExit rfl ?_
   refine qSeq rfl ?_
   refine hReg (sq 0 (sq 1 (sq 2 sz))) (by kernel_rfl) ?_
   refine mvI rfl rfl rfl ?_
   refine add rfl rfl rfl rfl (by omega) ?_
   refine asI rfl rfl rfl ?_
   refine rNil ?_
   rw [Math.setsTo_row (by omega) (by omega)]
   exact qNext rfl (i + 1, q2, hd2) (by dsimp only; omega) ⟨by dsimp only; omega, by dsimp only; omega⟩ ⟨rfl, rfl, rfl, rfl, trivial⟩ (fun _ h => h.pick [0, 0, 0])
 ·
  replace c1 : ¬ ((i : Int) < (ny1 : Int)) := c1
  refine hExit rfl ?_
  refine qSeq rfl ?_
  refine hSeq ?_
  refine hReg (sq 0 (sq 1 sz)) (by kernel_rfl) ?_
  refine mvS rfl rfl rfl ?_
  refine asS rfl rfl rfl ?_
  refine rNil ?_
  refine qSeq rfl ?_
  refine hRet ?_
  exact fun w hs => ⟨[.slice hd.1.1 q hd.1.2], ⟨rfl, trivial⟩, ⟨(hd.1.1, q, hd.1.2, hd.2, (Math.setsTo (Math.nodesOf z p) nws i 0)), rfl, Math.setsTo_end (by omega), hs.pick [0]⟩⟩
end Go.Proofs.YtgnfffdenbiipaaDoor
