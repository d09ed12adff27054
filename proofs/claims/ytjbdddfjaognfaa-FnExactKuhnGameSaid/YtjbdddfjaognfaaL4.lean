/- Contracts of games. Their conditions stand in each. -/
import Derived.Test.YtjbdddfjaognfaaEngC
import Derived.Test.YtjbdddfjaognfaaTree
import Derived.Test.YtjbdddfjaognfaaGame
import Derived.Test.YtjbdddfjaognfaaL1
import Derived.Test.YtjbdddfjaognfaaL2
import Derived.Test.YtjbdddfjaognfaaL3
import Derived.Test.YtjbdddfjaognfaaRows
namespace Go.Proofs.Ytjbdddfjaognfaa
open Go Go.RowKit V
set_option linter.unusedVariables false
set_option linter.unusedSimpArgs false
set_option maxRecDepth 100000



theorem laws_szGame_c (az : Option Addr) (nz : Nat) (cz : Nat) (Hz : Nat → Hd) (z : List Nd) (aws : Option Addr) (nws : Nat) (cws : Nat) (Hws : Nat → Hd) (ws : List (List Int)) (avs : Option Addr) (nvs : Nat) (cvs : Nat) (Hvs : Nat → Hd) (vs : List (List Int)) (left : Int) (w : World) (rz : RdR ndK az nz Hz z w) (rws : RdR maK aws nws Hws ws w) (rvs : RdR maK avs nvs Hvs vs w) (hl : 0 ≤ left ∧ left ≤ 1048576) :
    Calls Try.prog 40 #[.agg #[.slice az nz cz, .slice aws nws cws, .slice avs nvs cvs], .int .i64 left] w (Ret fun v w' => v = .int .i64 ((Math.cut (Math.cut (Math.cut left (Math.szK Math.chl z : Int)) (Math.szK Math.rwl ws : Int)) (Math.szK Math.rwl vs : Int))) ∧ Ext w w') := by
  have kz : Kn w none_ [] (RdR ndK az nz Hz z) := fun w' hs => rz.ext hs.upd
  have lz : z.length = nz := rz.1
  have mz : nz ≤ 9223372036854775807 := rz.2.1
  have kws : Kn w none_ [] (RdR maK aws nws Hws ws) := fun w' hs => rws.ext hs.upd
  have lws : ws.length = nws := rws.1
  have mws : nws ≤ 9223372036854775807 := rws.2.1
  have kvs : Kn w none_ [] (RdR maK avs nvs Hvs vs) := fun w' hs => rvs.ext hs.upd
  have lvs : vs.length = nvs := rvs.1
  have mvs : nvs ≤ 9223372036854775807 := rvs.2.1
  refine fn (M := none_) (rs := [.tmp 4]) Try.func40 rfl Try.ntmps40 rfl rfl (Sep.start _ _) ?_
  refine hSeq ?_
  refine hReg (sl 0 (sq 1 sz)) (by kernel_rfl) ?_
  refine box trv1 rfl rfl rfl rfl (fun bkb1 hbkb1 => ?_)
  refine asI rfl rfl rfl ?_
  refine rNil ?_
  refine qSeq rfl ?_
  refine hSeq ?_
  refine hReg (sq 0 (sl 1 (sq 2 (sl 3 (sq 4 sz))))) (by kernel_rfl) ?_
  refine fld fl53_0 rfl rfl rfl ?_
  refine ldAl Try.isAgg39 Try.sizeOf39 (cBp (m := 1) 0 rfl rfl) trv rfl rfl rfl rfl ?_
  refine mvI rfl rfl rfl ?_
  refine callP (v := .int .i64 ((Math.cut left (Math.szK Math.chl z : Int)))) Try.call26 trv rfl rfl (fun w hs => laws_szTree_c _ _ _ _ _ _ w (Kn.drop (k := 1) kz w hs) (by omega)) ?_
  refine asI rfl rfl rfl ?_
  refine rNil ?_
  refine qSeq rfl ?_
  refine hSeq ?_
  refine hSeq ?_
  refine hReg (sq 0 (sq 1 sz)) (by kernel_rfl) ?_
  refine mvI rfl rfl rfl ?_
  refine lss rfl rfl rfl rfl ?_
  refine rNil ?_
  refine qSeq rfl ?_
  refine hIfD rfl (fun c1 => ?_) (fun c1 => ?_)
  · -- c1T
    replace c1 : (Math.cut left (Math.szK Math.chl z : Int)) < 0 := c1
    have hq1 := Math.cut_neg c1 hl.1
    have hq2 := Math.cut3_no (b := (Math.szK Math.rwl ws : Int)) (c := (Math.szK Math.rwl vs : Int)) hl.1 hq1 (by omega) (by omega)
    refine hSeq ?_
    refine hReg (sq 0 sz) (by kernel_rfl) ?_
    refine asI rfl rfl rfl ?_
    refine rNil ?_
    refine qSeq rfl ?_
    refine hRet ?_
    exact fun w hs => ⟨[.int .i64 (-1)], ⟨rfl, trivial⟩, ⟨by first | rfl | exact vI hq2.symm | exact vI hq4.symm | exact vI (Math.cut_no hq5).symm, hs.upd⟩⟩
  · -- c1F
    replace c1 : ¬ ((Math.cut left (Math.szK Math.chl z : Int)) < 0) := c1
    have hq1 := Math.cut_pos c1
    refine hSkip ?_
    refine qSeq rfl ?_
    refine hSeq ?_
    refine hReg (sq 0 (sl 1 (sq 2 (sl 3 (sq 4 sz))))) (by kernel_rfl) ?_
    refine fld fl53_1 rfl rfl rfl ?_
    refine ldl Try.isAgg51 (cB 0 rfl rfl) trv rfl rfl rfl ?_
    refine mvI rfl rfl rfl ?_
    refine callP (v := .int .i64 ((Math.cut ((Math.cut left (Math.szK Math.chl z : Int))) (Math.szK Math.rwl ws : Int)))) Try.call74 trv rfl rfl (fun w hs => laws_szInt64SS_c _ _ _ _ _ _ w (Kn.drop (k := 1) kws w hs) (by omega)) ?_
    refine asI rfl rfl rfl ?_
    refine rNil ?_
    refine qSeq rfl ?_
    refine hSeq ?_
    refine hSeq ?_
    refine hReg (sq 0 (sq 1 sz)) (by kernel_rfl) ?_
    refine mvI rfl rfl rfl ?_
    refine lss rfl rfl rfl rfl ?_
    refine rNil ?_
    refine qSeq rfl ?_
    refine hIfD rfl (fun c2 => ?_) (fun c2 => ?_)
    · -- c2T
      replace c2 : (Math.cut ((Math.cut left (Math.szK Math.chl z : Int))) (Math.szK Math.rwl ws : Int)) < 0 := c2
      have hq3 := Math.cut_neg c2 (by omega)
      have hq4 := Math.cut2_no (b := (Math.szK Math.rwl vs : Int)) (show (0 : Int) ≤ Math.cut left (Math.szK Math.chl z : Int) by omega) hq3 (by omega)
      refine hSeq ?_
      refine hReg (sq 0 sz) (by kernel_rfl) ?_
      refine asI rfl rfl rfl ?_
      refine rNil ?_
      refine qSeq rfl ?_
      refine hRet ?_
      exact fun w hs => ⟨[.int .i64 (-1)], ⟨rfl, trivial⟩, ⟨by first | rfl | exact vI hq2.symm | exact vI hq4.symm | exact vI (Math.cut_no hq5).symm, hs.upd⟩⟩
    · -- c2F
      replace c2 : ¬ ((Math.cut ((Math.cut left (Math.szK Math.chl z : Int))) (Math.szK Math.rwl ws : Int)) < 0) := c2
      have hq2 := Math.cut_pos c2
      refine hSkip ?_
      refine qSeq rfl ?_
      refine hSeq ?_
      refine hReg (sq 0 (sl 1 (sq 2 (sl 3 (sq 4 sz))))) (by kernel_rfl) ?_
      refine fld fl53_2 rfl rfl rfl ?_
      refine ldl Try.isAgg51 (cB 0 rfl rfl) trv rfl rfl rfl ?_
      refine mvI rfl rfl rfl ?_
      refine callP (v := .int .i64 ((Math.cut ((Math.cut ((Math.cut left (Math.szK Math.chl z : Int))) (Math.szK Math.rwl ws : Int))) (Math.szK Math.rwl vs : Int)))) Try.call74 trv rfl rfl (fun w hs => laws_szInt64SS_c _ _ _ _ _ _ w (Kn.drop (k := 1) kvs w hs) (by omega)) ?_
      refine asI rfl rfl rfl ?_
      refine rNil ?_
      refine qSeq rfl ?_
      refine hSeq ?_
      refine hSeq ?_
      refine hReg (sq 0 (sq 1 sz)) (by kernel_rfl) ?_
      refine mvI rfl rfl rfl ?_
      refine lss rfl rfl rfl rfl ?_
      refine rNil ?_
      refine qSeq rfl ?_
      refine hIfD rfl (fun c3 => ?_) (fun c3 => ?_)
      · -- c3T
        replace c3 : (Math.cut ((Math.cut ((Math.cut left (Math.szK Math.chl z : Int))) (Math.szK Math.rwl ws : Int))) (Math.szK Math.rwl vs : Int)) < 0 := c3
        have hq5 := Math.cut_neg c3 (by omega)
        refine hSeq ?_
        refine hReg (sq 0 sz) (by kernel_rfl) ?_
        refine asI rfl rfl rfl ?_
        refine rNil ?_
        refine qSeq rfl ?_
        refine hRet ?_
        exact fun w hs => ⟨[.int .i64 (-1)], ⟨rfl, trivial⟩, ⟨by first | rfl | exact vI hq2.symm | exact vI hq4.symm | exact vI (Math.cut_no hq5).symm, hs.upd⟩⟩
      · -- c3F
        replace c3 : ¬ ((Math.cut ((Math.cut ((Math.cut left (Math.szK Math.chl z : Int))) (Math.szK Math.rwl ws : Int))) (Math.szK Math.rwl vs : Int)) < 0) := c3
        refine hSkip ?_
        refine qSeq rfl ?_
        refine hSeq ?_
        refine hReg (sq 0 (sq 1 sz)) (by kernel_rfl) ?_
        refine mvI rfl rfl rfl ?_
        refine asI rfl rfl rfl ?_
        refine rNil ?_
        refine qSeq rfl ?_
        refine hRet ?_
        exact fun w hs => ⟨[.int .i64 ((Math.cut ((Math.cut ((Math.cut left (Math.szK Math.chl z : Int))) (Math.szK Math.rwl ws : Int))) (Math.szK Math.rwl vs : Int)))], ⟨rfl, trivial⟩, ⟨by first | rfl | exact vI hq2.symm | exact vI hq4.symm | exact vI (Math.cut_no hq5).symm, hs.upd⟩⟩

theorem impl_totalWeight_c (az : Option Addr) (nz : Nat) (cz : Nat) (Hz : Nat → Hd) (z : List Nd) (aws : Option Addr) (nws : Nat) (cws : Nat) (Hws : Nat → Hd) (ws : List (List Int)) (avs : Option Addr) (nvs : Nat) (cvs : Nat) (Hvs : Nat → Hd) (vs : List (List Int)) (w : World) (rz : RdR ndK az nz Hz z w) (rws : RdR maK aws nws Hws ws w) (rvs : RdR maK avs nvs Hvs vs w) (hm : Math.matB nws 0 9 ws = true) (hk : nws ≤ 6) :
    Calls Try.prog 78 #[.agg #[.slice az nz cz, .slice aws nws cws, .slice avs nvs cvs]] w (Ret fun v w' => v = .int .i64 (Math.total ws) ∧ Ext w w') := by
  have kz : Kn w none_ [] (RdR ndK az nz Hz z) := fun w' hs => rz.ext hs.upd
  have lz : z.length = nz := rz.1
  have mz : nz ≤ 9223372036854775807 := rz.2.1
  have kws : Kn w none_ [] (RdR maK aws nws Hws ws) := fun w' hs => rws.ext hs.upd
  have lws : ws.length = nws := rws.1
  have mws : nws ≤ 9223372036854775807 := rws.2.1
  have kvs : Kn w none_ [] (RdR maK avs nvs Hvs vs) := fun w' hs => rvs.ext hs.upd
  have lvs : vs.length = nvs := rvs.1
  have mvs : nvs ≤ 9223372036854775807 := rvs.2.1
  refine fn (M := none_) (rs := [.tmp 2]) Try.func78 rfl Try.ntmps78 rfl rfl (Sep.start _ _) ?_
  refine hSeq ?_
  refine hReg (sl 0 (sq 1 sz)) (by kernel_rfl) ?_
  refine box trv1 rfl rfl rfl rfl (fun bkb1 hbkb1 => ?_)
  refine asI rfl rfl rfl ?_
  refine rNil ?_
  refine qSeq rfl ?_
  refine hSeq ?_
  refine hReg (sq 0 sz) (by kernel_rfl) ?_
  refine asI rfl rfl rfl ?_
  refine rNil ?_
  refine qSeq rfl ?_
  refine hSeq ?_
  refine hSeq ?_
  refine hReg (sq 0 (sl 1 (sq 2 (sq 3 sz)))) (by kernel_rfl) ?_
  refine fld fl57_1 rfl rfl rfl ?_
  refine ldl Try.isAgg51 (cB 0 rfl rfl) trv rfl rfl rfl ?_
  refine lenS Try.runUnderlying51 rfl rfl rfl ?_
  refine mvI rfl rfl rfl ?_
  refine rNil ?_
  refine qSeq rfl ?_
  refine hBlk ?_
  refine hLoop (α := Nat × Int) (fun x => x.1 ≤ nws ∧ x.2 = Math.total (ws.take x.1)) (fun x => nws - x.1) (fun x => [blk bkb1 57 [.slice az nz cz, .slice aws nws cws, .slice avs nvs cvs]]) (fun x => [(3, .int .i64 x.2), (7, .slice aws nws cws), (8, .int .i64 (nws : Int)), (9, .int .i64 (x.1 : Int))]) (0, 0) ⟨Nat.zero_le _, rfl⟩ (fun _ h => h.pick [0]) ⟨rfl, rfl, rfl, rfl, trivial⟩ ?_
  rintro ⟨i, s⟩ τ1 ⟨hi, hs_⟩
  dsimp only at hi hs_
  refine hRe [(3, .int .i64 s), (7, .slice aws nws cws), (8, .int .i64 (nws : Int)), (9, .int .i64 (i : Int))] [blk bkb1 57 [.slice az nz cz, .slice aws nws cws, .slice avs nvs cvs]] rfl rfl ?_
  refine hSeq ?_
  refine hReg (sq 0 sz) (by kernel_rfl) ?_
  refine lss rfl rfl rfl rfl ?_
  refine rNil ?_
  refine qSeq rfl ?_
  refine hSeq ?_
  refine hIfD rfl (fun c1 => ?_) (fun c1 => ?_)
  · -- c1T
    replace c1 : (i : Int) < (nws : Int) := c1
    have hrow := Math.mat_row hm (show i < nws by omega)
    have hrl := Math.row_len hrow
    have hbig := Math.row_big hrow
    have htb := Math.total_bd hk hm i (by omega)
    have hrs := Math.rowsum hk hrow
    refine hSkip ?_
    refine qSeq rfl ?_
    refine hSeq ?_
    refine hBlk ?_
    refine hSeq ?_
    refine hReg (sq 0 (sl 1 (sq 2 sz))) (by kernel_rfl) ?_
    refine ixRl (zn := i) (ws.getD i []) el51 (Kn.drop (k := 1) kws) rfl rfl rfl rfl (by omega) (by omega) rfl (nth [] (by omega)) ?_
    intro be1 oe1 e1
    refine ldl Try.isAgg22 (Kn.fld e1 0 rfl) trv rfl rfl rfl ?_
    refine asS rfl rfl rfl ?_
    refine rNil ?_
    refine qSeq rfl ?_
    refine hReg (sq 0 (sq 1 (sl 2 (sq 3 (sq 4 sz))))) (by kernel_rfl) ?_
    refine mvI rfl rfl rfl ?_
    refine mvS rfl rfl rfl ?_
    refine callP (v := .int .i64 ((ws.getD i []).sum)) Try.call87 trv rfl rfl (fun w hs => impl_sumOf_c _ _ _ _ w (Kn.drop (k := 1) ((Kn.imp kws fun _ h => h.kidM (nth [] (by omega)))) w hs) (by assumption) (by omega)) ?_
    refine add rfl rfl rfl rfl (by omega) ?_
    refine asI rfl rfl rfl ?_
    refine rNil ?_
    refine qSeq rfl ?_
    refine hReg (sq 0 (sq 1 sz)) (by kernel_rfl) ?_
    refine add rfl rfl rfl rfl (by omega) ?_
    refine mvI rfl rfl rfl ?_
    refine rNil ?_
    exact qNext rfl ((i + 1, s + (ws.getD i []).sum)) (by dsimp only; omega) ⟨by dsimp only; omega, by dsimp only; rw [hs_, Math.total_step (by omega)]⟩ ⟨rfl, rfl, rfl, rfl, trivial⟩ (fun _ h => h.pick [0])
  · -- c1F
    replace c1 : ¬ ((i : Int) < (nws : Int)) := c1
    refine hExit rfl ?_
    refine qSeq rfl ?_
    refine hSeq ?_
    refine hReg (sq 0 (sq 1 sz)) (by kernel_rfl) ?_
    refine mvI rfl rfl rfl ?_
    refine asI rfl rfl rfl ?_
    refine rNil ?_
    refine qSeq rfl ?_
    refine hRet ?_
    exact fun w hs => ⟨[.int .i64 s], ⟨rfl, trivial⟩, ⟨vI (by rw [hs_, Math.total_all (by omega)]), hs.upd⟩⟩

theorem spec_l21Total_c (az : Option Addr) (nz : Nat) (cz : Nat) (Hz : Nat → Hd) (z : List Nd) (aws : Option Addr) (nws : Nat) (cws : Nat) (Hws : Nat → Hd) (ws : List (List Int)) (avs : Option Addr) (nvs : Nat) (cvs : Nat) (Hvs : Nat → Hd) (vs : List (List Int)) (w : World) (rz : RdR ndK az nz Hz z w) (rws : RdR maK aws nws Hws ws w) (rvs : RdR maK avs nvs Hvs vs w) (hm : Math.matB nws 0 9 ws = true) (hk : nws ≤ 6) :
    Calls Try.prog 76 #[.agg #[.slice az nz cz, .slice aws nws cws, .slice avs nvs cvs]] w (Ret fun v w' => v = .int .i64 (Math.total ws) ∧ Ext w w') := by
  have kz : Kn w none_ [] (RdR ndK az nz Hz z) := fun w' hs => rz.ext hs.upd
  have lz : z.length = nz := rz.1
  have mz : nz ≤ 9223372036854775807 := rz.2.1
  have kws : Kn w none_ [] (RdR maK aws nws Hws ws) := fun w' hs => rws.ext hs.upd
  have lws : ws.length = nws := rws.1
  have mws : nws ≤ 9223372036854775807 := rws.2.1
  have kvs : Kn w none_ [] (RdR maK avs nvs Hvs vs) := fun w' hs => rvs.ext hs.upd
  have lvs : vs.length = nvs := rvs.1
  have mvs : nvs ≤ 9223372036854775807 := rvs.2.1
  refine fn (M := none_) (rs := [.tmp 2]) Try.func76 rfl Try.ntmps76 rfl rfl (Sep.start _ _) ?_
  refine hSeq ?_
  refine hReg (sl 0 (sq 1 sz)) (by kernel_rfl) ?_
  refine box trv1 rfl rfl rfl rfl (fun bkb1 hbkb1 => ?_)
  refine asI rfl rfl rfl ?_
  refine rNil ?_
  refine qSeq rfl ?_
  refine hSeq ?_
  refine hReg (sq 0 sz) (by kernel_rfl) ?_
  refine asI rfl rfl rfl ?_
  refine rNil ?_
  refine qSeq rfl ?_
  refine hSeq ?_
  refine hSeq ?_
  refine hReg (sq 0 sz) (by kernel_rfl) ?_
  refine asI rfl rfl rfl ?_
  refine rNil ?_
  refine qSeq rfl ?_
  refine hBlk ?_
  refine hLoop (α := Nat × Int) (fun x => x.1 ≤ nws ∧ x.2 = Math.total (ws.take x.1)) (fun x => nws - x.1) (fun x => [blk bkb1 57 [.slice az nz cz, .slice aws nws cws, .slice avs nvs cvs]]) (fun x => [(1, .pointer (some ⟨bkb1, 0, none⟩)), (3, .int .i64 x.2), (4, .int .i64 (x.1 : Int))]) (0, 0) ⟨Nat.zero_le _, rfl⟩ (fun _ h => h.pick [0]) ⟨rfl, rfl, rfl, trivial⟩ ?_
  rintro ⟨i, s⟩ τ1 ⟨hi, hs_⟩
  dsimp only at hi hs_
  refine hRe [(1, .pointer (some ⟨bkb1, 0, none⟩)), (3, .int .i64 s), (4, .int .i64 (i : Int))] [blk bkb1 57 [.slice az nz cz, .slice aws nws cws, .slice avs nvs cvs]] rfl rfl ?_
  refine hSeq ?_
  refine hSeq ?_
  refine hReg (sq 0 (sq 1 (sl 2 (sq 3 (sq 4 sz))))) (by kernel_rfl) ?_
  refine mvI rfl rfl rfl ?_
  refine fld fl57_1 rfl rfl rfl ?_
  refine ldl Try.isAgg51 (cB 0 rfl rfl) trv rfl rfl rfl ?_
  refine lenS Try.runUnderlying51 rfl rfl rfl ?_
  refine lss rfl rfl rfl rfl ?_
  refine rNil ?_
  refine qSeq rfl ?_
  refine hIfD rfl (fun c1 => ?_) (fun c1 => ?_)
  · -- c1T
    replace c1 : (i : Int) < (nws : Int) := c1
    have hrow := Math.mat_row hm (show i < nws by omega)
    have hrl := Math.row_len hrow
    have hbig := Math.row_big hrow
    have htb := Math.total_bd hk hm i (by omega)
    have hrs := Math.rowsum hk hrow
    refine hSkip ?_
    refine qSeq rfl ?_
    refine hSeq ?_
    refine hBlk ?_
    refine hReg (sq 0 (sq 1 (sl 2 (sq 3 (sq 4 (sl 5 (sl 6 (sq 7 (sq 8 sz))))))))) (by kernel_rfl) ?_
    refine mvI rfl rfl rfl ?_
    refine fld fl57_1 rfl rfl rfl ?_
    refine ldl Try.isAgg51 (cB 0 rfl rfl) trv rfl rfl rfl ?_
    refine mvI rfl rfl rfl ?_
    refine ixRl (zn := i) (ws.getD i []) el51 (Kn.drop (k := 1) kws) rfl rfl rfl rfl (by omega) (by omega) rfl (nth [] (by omega)) ?_
    intro be1 oe1 e1
    refine ldl Try.isAgg22 (Kn.fld e1 0 rfl) trv rfl rfl rfl ?_
    refine callP (v := .int .i64 ((ws.getD i []).sum)) Try.call86 trv rfl rfl (fun w hs => spec_l01Sum_c _ _ _ _ w (Kn.drop (k := 1) ((Kn.imp kws fun _ h => h.kidM (nth [] (by omega)))) w hs) (by assumption) (by omega)) ?_
    refine add rfl rfl rfl rfl (by omega) ?_
    refine asI rfl rfl rfl ?_
    refine rNil ?_
    refine qSeq rfl ?_
    refine hReg (sq 0 (sq 1 (sq 2 sz))) (by kernel_rfl) ?_
    refine mvI rfl rfl rfl ?_
    refine add rfl rfl rfl rfl (by omega) ?_
    refine asI rfl rfl rfl ?_
    refine rNil ?_
    exact qNext rfl ((i + 1, s + (ws.getD i []).sum)) (by dsimp only; omega) ⟨by dsimp only; omega, by dsimp only; rw [hs_, Math.total_step (by omega)]⟩ ⟨rfl, rfl, rfl, trivial⟩ (fun _ h => h.pick [0])
  · -- c1F
    replace c1 : ¬ ((i : Int) < (nws : Int)) := c1
    refine hExit rfl ?_
    refine qSeq rfl ?_
    refine hSeq ?_
    refine hReg (sq 0 (sq 1 sz)) (by kernel_rfl) ?_
    refine mvI rfl rfl rfl ?_
    refine asI rfl rfl rfl ?_
    refine rNil ?_
    refine qSeq rfl ?_
    refine hRet ?_
    exact fun w hs => ⟨[.int .i64 s], ⟨rfl, trivial⟩, ⟨vI (by rw [hs_, Math.total_all (by omega)]), hs.upd⟩⟩

theorem spec_l21Matrix_c (aws : Option Addr) (nws : Nat) (cws : Nat) (Hws : Nat → Hd) (ws : List (List Int)) (kk : Int) (lo : Int) (up : Int) (w : World) (rws : RdR maK aws nws Hws ws w) (hkk : 0 ≤ kk ∧ kk ≤ 1000) :
    Calls Try.prog 75 #[.slice aws nws cws, .int .i64 kk, .int .i64 lo, .int .i64 up] w (Ret fun v w' => v = .bool (Math.matB kk.toNat lo up ws) ∧ Ext w w') := by
  have kws : Kn w none_ [] (RdR maK aws nws Hws ws) := fun w' hs => rws.ext hs.upd
  have lws : ws.length = nws := rws.1
  have mws : nws ≤ 9223372036854775807 := rws.2.1
  refine fn (M := none_) (rs := [.tmp 8]) Try.func75 rfl Try.ntmps75 rfl rfl (Sep.start _ _) ?_
  refine hSeq ?_
  refine hReg (sq 0 sz) (by kernel_rfl) ?_
  refine asB rfl rfl rfl ?_
  refine rNil ?_
  refine qSeq rfl ?_
  refine hSeq ?_
  refine hSeq ?_
  refine hReg (sq 0 sz) (by kernel_rfl) ?_
  refine asI rfl rfl rfl ?_
  refine rNil ?_
  refine qSeq rfl ?_
  refine hBlk ?_
  refine hLoop (α := Nat) (fun i => i ≤ nws ∧ ∀ j, j < i → Math.rowB kk.toNat lo up (ws.getD j []) = true) (fun i => nws - i) (fun i => []) (fun i => [(0, .slice aws nws cws), (1, .int .i64 kk), (2, .int .i64 lo), (3, .int .i64 up), (9, .int .i64 (i : Int))]) 0 ⟨Nat.zero_le _, fun j hj => by omega⟩ (fun _ h => h.pick []) ⟨rfl, rfl, rfl, rfl, rfl, trivial⟩ ?_
  rintro i τ1 ⟨hi, hal⟩
  refine hSeq ?_
  refine hSeq ?_
  refine hReg (sq 0 (sq 1 (sq 2 (sq 3 sz)))) (by kernel_rfl) ?_
  refine mvI rfl rfl rfl ?_
  refine mvS rfl rfl rfl ?_
  refine lenS Try.runUnderlying51 rfl rfl rfl ?_
  refine lss rfl rfl rfl rfl ?_
  refine rNil ?_
  refine qSeq rfl ?_
  refine hIfD rfl (fun c1 => ?_) (fun c1 => ?_)
  · -- c1T
    replace c1 : (i : Int) < (nws : Int) := c1
    refine hSkip ?_
    refine qSeq rfl ?_
    refine hSeq ?_
    refine hBlk ?_
    refine hSeq ?_
    refine hSeq ?_
    refine hReg (sq 0 (sq 1 (sq 2 (sl 3 (sq 4 (sq 5 (sq 6 sz))))))) (by kernel_rfl) ?_
    refine mvS rfl rfl rfl ?_
    refine mvI rfl rfl rfl ?_
    refine ixRl (zn := i) (ws.getD i []) el51 (kws) rfl rfl rfl rfl (by omega) (by omega) rfl (nth [] (by omega)) ?_
    intro be1 oe1 e1
    refine ldl Try.isAgg22 (Kn.fld e1 0 rfl) trv rfl rfl rfl ?_
    refine lenS Try.runUnderlying22 rfl rfl rfl ?_
    refine mvI rfl rfl rfl ?_
    refine neq rfl rfl rfl rfl ?_
    refine rNil ?_
    refine qSeq rfl ?_
    refine hIfD rfl (fun c2 => ?_) (fun c2 => ?_)
    · -- c2T
      replace c2 : (((ws.getD i []).length : Nat) : Int) ≠ kk := c2
      refine hSeq ?_
      refine hReg (sq 0 sz) (by kernel_rfl) ?_
      refine asB rfl rfl rfl ?_
      refine rNil ?_
      refine qSeq rfl ?_
      refine hRet ?_
      exact fun w hs => ⟨[.bool false], ⟨rfl, trivial⟩, ⟨bB (Math.mat_no (i := i) (by omega) (Math.row_no1 (by omega))).symm, hs.upd⟩⟩
    · -- c2F
      replace c2 : ¬ ((((ws.getD i []).length : Nat) : Int) ≠ kk) := c2
      refine hSkip ?_
      refine qSeq rfl ?_
      refine hSeq ?_
      refine hReg (sq 0 sz) (by kernel_rfl) ?_
      refine asI rfl rfl rfl ?_
      refine rNil ?_
      refine qSeq rfl ?_
      refine hBlk ?_
      refine hLoop (α := Nat) (fun j => j ≤ kk.toNat ∧ ∀ q, q < j → Math.inB lo up ((ws.getD i []).getD q 0) = true) (fun j => kk.toNat - j) (fun j => []) (fun j => [(0, .slice aws nws cws), (1, .int .i64 kk), (2, .int .i64 lo), (3, .int .i64 up), (9, .int .i64 (i : Int)), (10, .int .i64 (j : Int))]) 0 ⟨Nat.zero_le _, fun q hq => by omega⟩ (fun _ h => h.pick []) ⟨rfl, rfl, rfl, rfl, rfl, rfl, trivial⟩ ?_
      rintro j τ2 ⟨hj, hin⟩
      refine hSeq ?_
      refine hSeq ?_
      refine hReg (sq 0 (sq 1 (sq 2 sz))) (by kernel_rfl) ?_
      refine mvI rfl rfl rfl ?_
      refine mvI rfl rfl rfl ?_
      refine lss rfl rfl rfl rfl ?_
      refine rNil ?_
      refine qSeq rfl ?_
      refine hIfD rfl (fun c3 => ?_) (fun c3 => ?_)
      · -- c3T
        replace c3 : (j : Int) < kk := c3
        refine hSkip ?_
        refine qSeq rfl ?_
        refine hSeq ?_
        refine hBlk ?_
        refine hSeq ?_
        refine hReg (sq 0 (sq 1 (sq 2 (sl 3 (sq 4 (sq 5 (sl 6 (sq 7 (sq 8 (sl 9 (sq 10 sz))))))))))) (by kernel_rfl) ?_
        refine mvS rfl rfl rfl ?_
        refine mvI rfl rfl rfl ?_
        refine ixRl (zn := i) (ws.getD i []) el51 (kws) rfl rfl rfl rfl (by omega) (by omega) rfl (nth [] (by omega)) ?_
        intro be2 oe2 e2
        refine ldl Try.isAgg22 (Kn.fld e2 0 rfl) trv rfl rfl rfl ?_
        refine mvI rfl rfl rfl ?_
        refine ixIl (zn := j) el22 ((Kn.imp kws fun _ h => h.kidM (nth [] (by omega)))) rfl rfl rfl rfl (by omega) (by omega) rfl ?_
        intro ae3 e3
        refine ldl Try.isAgg2 (e3) trv rfl rfl rfl ?_
        refine mvI rfl rfl rfl ?_
        refine mvI rfl rfl rfl ?_
        refine callP (v := .bool ((Math.inB lo up (((ws.getD i []).getD j 0))))) Try.call53 trv rfl rfl (fun w hs => spec_l01In_c _ _ _ w ) ?_
        refine not rfl rfl rfl ?_
        refine rNil ?_
        refine qSeq rfl ?_
        refine hIfN rfl (fun c4 => ?_) (fun c4 => ?_)
        · -- c4T
          replace c4 : (Math.inB lo up (((ws.getD i []).getD j 0))) = false := c4
          refine hSeq ?_
          refine hReg (sq 0 sz) (by kernel_rfl) ?_
          refine asB rfl rfl rfl ?_
          refine rNil ?_
          refine qSeq rfl ?_
          refine hRet ?_
          exact fun w hs => ⟨[.bool false], ⟨rfl, trivial⟩, ⟨bB (Math.mat_no (i := i) (by omega) (Math.row_no2 (Math.all_no 0 (i := j) (by omega) c4))).symm, hs.upd⟩⟩
        · -- c4F
          replace c4 : (Math.inB lo up (((ws.getD i []).getD j 0))) = true := c4
          refine hSkip ?_
          refine qSeq rfl ?_
          refine hReg (sq 0 (sq 1 (sq 2 sz))) (by kernel_rfl) ?_
          refine mvI rfl rfl rfl ?_
          refine add rfl rfl rfl rfl (by omega) ?_
          refine asI rfl rfl rfl ?_
          refine rNil ?_
          exact qNext rfl (j + 1) (by omega) ⟨by omega, Math.upto hin c4⟩ ⟨rfl, rfl, rfl, rfl, rfl, rfl, trivial⟩ (fun _ h => h.pick [])
      · -- c3F
        replace c3 : ¬ ((j : Int) < kk) := c3
        refine hExit rfl ?_
        refine qSeq rfl ?_
        refine hReg (sq 0 (sq 1 (sq 2 sz))) (by kernel_rfl) ?_
        refine mvI rfl rfl rfl ?_
        refine add rfl rfl rfl rfl (by omega) ?_
        refine asI rfl rfl rfl ?_
        refine rNil ?_
        exact qNext rfl (i + 1) (by omega) ⟨by omega, Math.upto hal (Math.row_yes (by omega) ((Math.all_getD 0).2 fun q hq => hin q (by omega)))⟩ ⟨rfl, rfl, rfl, rfl, rfl, trivial⟩ (fun _ h => h.pick [])
  · -- c1F
    replace c1 : ¬ ((i : Int) < (nws : Int)) := c1
    refine hExit rfl ?_
    refine qSeq rfl ?_
    refine hSeq ?_
    refine hReg (sq 0 (sq 1 (sq 2 (sq 3 (sq 4 sz))))) (by kernel_rfl) ?_
    refine mvS rfl rfl rfl ?_
    refine lenS Try.runUnderlying51 rfl rfl rfl ?_
    refine mvI rfl rfl rfl ?_
    refine eql rfl rfl rfl rfl ?_
    refine asB rfl rfl rfl ?_
    refine rNil ?_
    refine qSeq rfl ?_
    refine hRet ?_
    exact fun w hs => ⟨[.bool (decide ((nws : Int) = kk))], ⟨rfl, trivial⟩, ⟨bB ((decide_eq_decide.2 (by omega)).trans (Math.mat_if fun j hj => hal j (by omega)).symm), hs.upd⟩⟩

theorem spec_IsGame_c (az : Option Addr) (nz : Nat) (cz : Nat) (Hz : Nat → Hd) (z : List Nd) (aws : Option Addr) (nws : Nat) (cws : Nat) (Hws : Nat → Hd) (ws : List (List Int)) (avs : Option Addr) (nvs : Nat) (cvs : Nat) (Hvs : Nat → Hd) (vs : List (List Int)) (w : World) (rz : RdR ndK az nz Hz z w) (rws : RdR maK aws nws Hws ws w) (rvs : RdR maK avs nvs Hvs vs w) :
    Calls Try.prog 41 #[.agg #[.slice az nz cz, .slice aws nws cws, .slice avs nvs cvs]] w (Ret fun v w' => v = .bool (Math.isGame z ws vs) ∧ Ext w w') := by
  have kz : Kn w none_ [] (RdR ndK az nz Hz z) := fun w' hs => rz.ext hs.upd
  have lz : z.length = nz := rz.1
  have mz : nz ≤ 9223372036854775807 := rz.2.1
  have kws : Kn w none_ [] (RdR maK aws nws Hws ws) := fun w' hs => rws.ext hs.upd
  have lws : ws.length = nws := rws.1
  have mws : nws ≤ 9223372036854775807 := rws.2.1
  have kvs : Kn w none_ [] (RdR maK avs nvs Hvs vs) := fun w' hs => rvs.ext hs.upd
  have lvs : vs.length = nvs := rvs.1
  have mvs : nvs ≤ 9223372036854775807 := rvs.2.1
  refine fn (M := none_) (rs := [.tmp 2]) Try.func41 rfl Try.ntmps41 rfl rfl (Sep.start _ _) ?_
  refine hSeq ?_
  refine hReg (sl 0 (sq 1 sz)) (by kernel_rfl) ?_
  refine box trv1 rfl rfl rfl rfl (fun bkb1 hbkb1 => ?_)
  refine asB rfl rfl rfl ?_
  refine rNil ?_
  refine qSeq rfl ?_
  refine hSeq ?_
  refine hReg (sq 0 (sl 1 (sq 2 (sq 3 sz)))) (by kernel_rfl) ?_
  refine fld fl57_1 rfl rfl rfl ?_
  refine ldl Try.isAgg51 (cB 0 rfl rfl) trv rfl rfl rfl ?_
  refine lenS Try.runUnderlying51 rfl rfl rfl ?_
  refine asI rfl rfl rfl ?_
  refine rNil ?_
  refine qSeq rfl ?_
  refine hSeq ?_
  refine hReg (sq 0 (sl 1 (sl 2 (sq 3 (sq 4 (sl 5 (sq 6 (sq 7 (sq 8 (sl 9 (sq 10 (sl 11 (sq 12 (sq 13 (sq 14 (sl 15 (sq 16 (sl 17 (sq 18 (sq 19 (sl 20 (sl 21 (sq 22 (sq 23 (sq 24 sz))))))))))))))))))))))))) (by kernel_rfl) ?_
  refine fld fl57_0 rfl rfl rfl ?_
  refine ldAl Try.isAgg31 Try.sizeOf31 (cBp (m := 1) 0 rfl rfl) trv rfl rfl rfl rfl ?_
  refine callP (v := .bool (Math.isTree z)) Try.call27 trv rfl rfl (fun w hs => spec_IsTree_c _ _ _ _ _ w (Kn.drop (k := 1) kz w hs)) ?_
  refine mvB rfl rfl rfl ?_
  refine rBool (d := 10) rfl (fun g1 => ?_) (fun g1 => ?_)
  · -- g1T
    replace g1 : (Math.isTree z) = true := g1
    refine mvI rfl rfl rfl ?_
    refine callP (v := .bool ((Math.inB (1 : Int) (6 : Int) (nws : Int)))) Try.call53 trv rfl rfl (fun w hs => spec_l01In_c _ _ _ w ) ?_
    refine pickB rfl rfl rfl rfl ?_
    refine mvB rfl rfl rfl ?_
    refine rBool (d := 14) rfl (fun g2 => ?_) (fun g2 => ?_)
    · -- g2T
      replace g2 : (Math.inB (1 : Int) (6 : Int) (nws : Int)) = true := g2
      have hk := of_decide_eq_true (show decide (1 ≤ (nws : Int) ∧ (nws : Int) ≤ 6) = true from g2)
      refine fld fl57_1 rfl rfl rfl ?_
      refine ldl Try.isAgg51 (cB 0 rfl rfl) trv rfl rfl rfl ?_
      refine mvI rfl rfl rfl ?_
      refine callP (v := .bool ((Math.matB nws (0 : Int) (9 : Int) ws))) Try.call75 trv rfl rfl (fun w hs => spec_l21Matrix_c _ _ _ _ _ _ _ _ w (Kn.drop (k := 1) kws w hs) (by omega)) ?_
      refine pickB rfl rfl rfl rfl ?_
      refine mvB rfl rfl rfl ?_
      refine rBool (d := 20) rfl (fun g3 => ?_) (fun g3 => ?_)
      · -- g3T
        replace g3 : (Math.matB nws (0 : Int) (9 : Int) ws) = true := g3
        replace g3 : Math.matB nws 0 9 ws = true := g3
        refine fld fl57_2 rfl rfl rfl ?_
        refine ldl Try.isAgg51 (cB 0 rfl rfl) trv rfl rfl rfl ?_
        refine mvI rfl rfl rfl ?_
        refine callP (v := .bool ((Math.matB nws (-1) (1 : Int) vs))) Try.call75 trv rfl rfl (fun w hs => spec_l21Matrix_c _ _ _ _ _ _ _ _ w (Kn.drop (k := 1) kvs w hs) (by omega)) ?_
        refine pickB rfl rfl rfl rfl ?_
        refine mvB rfl rfl rfl ?_
        refine rBool (d := 26) rfl (fun g4 => ?_) (fun g4 => ?_)
        · -- g4T
          replace g4 : (Math.matB nws (-1) (1 : Int) vs) = true := g4
          replace g4 : Math.matB nws (-1) 1 vs = true := g4
          refine ldAl Try.isAgg57 Try.sizeOf57 (cBs 0 rfl) trv rfl rfl rfl rfl ?_
          refine callP (v := .int .i64 (Math.total ws)) Try.call76 trv rfl rfl (fun w hs => spec_l21Total_c _ _ _ _ _ _ _ _ _ _ _ _ _ _ _ w (Kn.drop (k := 1) kz w hs) (Kn.drop (k := 1) kws w hs) (Kn.drop (k := 1) kvs w hs) (by assumption) (by omega)) ?_
          refine gtr rfl rfl rfl rfl ?_
          refine pickB rfl rfl rfl rfl ?_
          refine asB rfl rfl rfl ?_
          refine rNil ?_
          refine qSeq rfl ?_
          refine hRet ?_
          exact fun w hs => ⟨[.bool (decide (0 < (Math.total ws)))], ⟨rfl, trivial⟩, ⟨bB (by unfold Math.isGame; rw [lws]; simp only [g1, g2, g3, g4, Bool.false_and, Bool.and_false, Bool.true_and, Bool.and_true]), hs.upd⟩⟩
        · -- g4F
          replace g4 : (Math.matB nws (-1) (1 : Int) vs) = false := g4
          replace g4 : Math.matB nws (-1) 1 vs = false := g4
          refine rSkipL trv rfl rfl ?_
          refine rSkipL trv rfl rfl ?_
          refine rSkipQ rfl rfl ?_
          refine pickB rfl rfl rfl rfl ?_
          refine asB rfl rfl rfl ?_
          refine rNil ?_
          refine qSeq rfl ?_
          refine hRet ?_
          exact fun w hs => ⟨[.bool false], ⟨rfl, trivial⟩, ⟨bB (by unfold Math.isGame; rw [lws]; simp only [g1, g2, g3, g4, Bool.false_and, Bool.and_false, Bool.true_and, Bool.and_true]), hs.upd⟩⟩
      · -- g3F
        replace g3 : (Math.matB nws (0 : Int) (9 : Int) ws) = false := g3
        replace g3 : Math.matB nws 0 9 ws = false := g3
        refine rSkipQ rfl rfl ?_
        refine rSkipL trv rfl rfl ?_
        refine rSkipQ rfl rfl ?_
        refine rSkipL trv rfl rfl ?_
        refine pickB rfl rfl rfl rfl ?_
        refine mvB rfl rfl rfl ?_
        refine rSkipL trv rfl rfl ?_
        refine rSkipL trv rfl rfl ?_
        refine rSkipQ rfl rfl ?_
        refine pickB rfl rfl rfl rfl ?_
        refine asB rfl rfl rfl ?_
        refine rNil ?_
        refine qSeq rfl ?_
        refine hRet ?_
        exact fun w hs => ⟨[.bool false], ⟨rfl, trivial⟩, ⟨bB (by unfold Math.isGame; rw [lws]; simp only [g1, g2, g3, Bool.false_and, Bool.and_false, Bool.true_and, Bool.and_true]), hs.upd⟩⟩
    · -- g2F
      replace g2 : (Math.inB (1 : Int) (6 : Int) (nws : Int)) = false := g2
      refine rSkipQ rfl rfl ?_
      refine rSkipL trv rfl rfl ?_
      refine rSkipQ rfl rfl ?_
      refine rSkipL trv rfl rfl ?_
      refine pickB rfl rfl rfl rfl ?_
      refine mvB rfl rfl rfl ?_
      refine rSkipQ rfl rfl ?_
      refine rSkipL trv rfl rfl ?_
      refine rSkipQ rfl rfl ?_
      refine rSkipL trv rfl rfl ?_
      refine pickB rfl rfl rfl rfl ?_
      refine mvB rfl rfl rfl ?_
      refine rSkipL trv rfl rfl ?_
      refine rSkipL trv rfl rfl ?_
      refine rSkipQ rfl rfl ?_
      refine pickB rfl rfl rfl rfl ?_
      refine asB rfl rfl rfl ?_
      refine rNil ?_
      refine qSeq rfl ?_
      refine hRet ?_
      exact fun w hs => ⟨[.bool false], ⟨rfl, trivial⟩, ⟨bB (by unfold Math.isGame; rw [lws]; simp only [g1, g2, Bool.false_and, Bool.and_false, Bool.true_and, Bool.and_true]), hs.upd⟩⟩
  · -- g1F
    replace g1 : (Math.isTree z) = false := g1
    refine rSkipQ rfl rfl ?_
    refine rSkipL trv rfl rfl ?_
    refine pickB rfl rfl rfl rfl ?_
    refine mvB rfl rfl rfl ?_
    refine rSkipQ rfl rfl ?_
    refine rSkipL trv rfl rfl ?_
    refine rSkipQ rfl rfl ?_
    refine rSkipL trv rfl rfl ?_
    refine pickB rfl rfl rfl rfl ?_
    refine mvB rfl rfl rfl ?_
    refine rSkipQ rfl rfl ?_
    refine rSkipL trv rfl rfl ?_
    refine rSkipQ rfl rfl ?_
    refine rSkipL trv rfl rfl ?_
    refine pickB rfl rfl rfl rfl ?_
    refine mvB rfl rfl rfl ?_
    refine rSkipL trv rfl rfl ?_
    refine rSkipL trv rfl rfl ?_
    refine rSkipQ rfl rfl ?_
    refine pickB rfl rfl rfl rfl ?_
    refine asB rfl rfl rfl ?_
    refine rNil ?_
    refine qSeq rfl ?_
    refine hRet ?_
    exact fun w hs => ⟨[.bool false], ⟨rfl, trivial⟩, ⟨bB (by unfold Math.isGame; rw [lws]; simp only [g1, Bool.false_and, Bool.and_false, Bool.true_and, Bool.and_true]), hs.upd⟩⟩

theorem impl_IsGame_c (az : Option Addr) (nz : Nat) (cz : Nat) (Hz : Nat → Hd) (z : List Nd) (aws : Option Addr) (nws : Nat) (cws : Nat) (Hws : Nat → Hd) (ws : List (List Int)) (avs : Option Addr) (nvs : Nat) (cvs : Nat) (Hvs : Nat → Hd) (vs : List (List Int)) (w : World) (rz : RdR ndK az nz Hz z w) (rws : RdR maK aws nws Hws ws w) (rvs : RdR maK avs nvs Hvs vs w) :
    Calls Try.prog 43 #[.agg #[.slice az nz cz, .slice aws nws cws, .slice avs nvs cvs]] w (Ret fun v w' => v = .bool (Math.isGame z ws vs) ∧ Ext w w') := by
  have kz : Kn w none_ [] (RdR ndK az nz Hz z) := fun w' hs => rz.ext hs.upd
  have lz : z.length = nz := rz.1
  have mz : nz ≤ 9223372036854775807 := rz.2.1
  have kws : Kn w none_ [] (RdR maK aws nws Hws ws) := fun w' hs => rws.ext hs.upd
  have lws : ws.length = nws := rws.1
  have mws : nws ≤ 9223372036854775807 := rws.2.1
  have kvs : Kn w none_ [] (RdR maK avs nvs Hvs vs) := fun w' hs => rvs.ext hs.upd
  have lvs : vs.length = nvs := rvs.1
  have mvs : nvs ≤ 9223372036854775807 := rvs.2.1
  refine fn (M := none_) (rs := [.tmp 2]) Try.func43 rfl Try.ntmps43 rfl rfl (Sep.start _ _) ?_
  refine hSeq ?_
  refine hReg (sl 0 (sq 1 sz)) (by kernel_rfl) ?_
  refine box trv1 rfl rfl rfl rfl (fun bkb1 hbkb1 => ?_)
  refine asB rfl rfl rfl ?_
  refine rNil ?_
  refine qSeq rfl ?_
  refine hSeq ?_
  refine hReg (sq 0 (sl 1 (sq 2 (sq 3 sz)))) (by kernel_rfl) ?_
  refine fld fl57_1 rfl rfl rfl ?_
  refine ldl Try.isAgg51 (cB 0 rfl rfl) trv rfl rfl rfl ?_
  refine lenS Try.runUnderlying51 rfl rfl rfl ?_
  refine asI rfl rfl rfl ?_
  refine rNil ?_
  refine qSeq rfl ?_
  refine hSeq ?_
  refine hSeq ?_
  refine hReg (sq 0 (sl 1 (sl 2 (sq 3 (sq 4 (sq 5 (sl 6 (sq 7 (sq 8 (sq 9 (sq 10 (sl 11 (sq 12 (sq 13 (sq 14 (sq 15 sz)))))))))))))))) (by kernel_rfl) ?_
  refine fld fl57_0 rfl rfl rfl ?_
  refine ldAl Try.isAgg31 Try.sizeOf31 (cBp (m := 1) 0 rfl rfl) trv rfl rfl rfl rfl ?_
  refine callP (v := .bool (Math.isTree z)) Try.call29 trv rfl rfl (fun w hs => impl_IsTree_c _ _ _ _ _ w (Kn.drop (k := 1) kz w hs)) ?_
  refine not rfl rfl rfl ?_
  refine mvB rfl rfl rfl ?_
  refine rBoolN (d := 12) rfl (fun g1 => ?_) (fun g1 => ?_)
  · -- g1T
    replace g1 : (Math.isTree z) = false := g1
    refine rSkipQ rfl rfl ?_
    refine rSkipL trv rfl rfl ?_
    refine rSkipQ rfl rfl ?_
    refine pickB rfl rfl rfl rfl ?_
    refine mvB rfl rfl rfl ?_
    refine rSkipQ rfl rfl ?_
    refine rSkipL trv rfl rfl ?_
    refine rSkipQ rfl rfl ?_
    refine rSkipQ rfl rfl ?_
    refine rSkipQ rfl rfl ?_
    refine pickB rfl rfl rfl rfl ?_
    refine rNil ?_
    refine qSeq rfl ?_
    refine hIfT rfl ?_
    refine hSeq ?_
    refine hReg (sq 0 sz) (by kernel_rfl) ?_
    refine asB rfl rfl rfl ?_
    refine rNil ?_
    refine qSeq rfl ?_
    refine hRet ?_
    exact fun w hs => ⟨[.bool false], ⟨rfl, trivial⟩, ⟨bB (by unfold Math.isGame; rw [lws]; simp only [g1, Bool.false_and, Bool.and_false, Bool.true_and, Bool.and_true]), hs.upd⟩⟩
  · -- g1F
    replace g1 : (Math.isTree z) = true := g1
    refine mvI rfl rfl rfl ?_
    refine callP (v := .bool ((Math.inB (1 : Int) (6 : Int) (nws : Int)))) Try.call55 trv rfl rfl (fun w hs => impl_within_c _ _ _ w ) ?_
    refine not rfl rfl rfl ?_
    refine pickB rfl rfl rfl rfl ?_
    refine mvB rfl rfl rfl ?_
    refine rBoolN (d := 17) rfl (fun g2 => ?_) (fun g2 => ?_)
    · -- g2T
      replace g2 : (Math.inB (1 : Int) (6 : Int) (nws : Int)) = false := g2
      refine rSkipQ rfl rfl ?_
      refine rSkipL trv rfl rfl ?_
      refine rSkipQ rfl rfl ?_
      refine rSkipQ rfl rfl ?_
      refine rSkipQ rfl rfl ?_
      refine pickB rfl rfl rfl rfl ?_
      refine rNil ?_
      refine qSeq rfl ?_
      refine hIfT rfl ?_
      refine hSeq ?_
      refine hReg (sq 0 sz) (by kernel_rfl) ?_
      refine asB rfl rfl rfl ?_
      refine rNil ?_
      refine qSeq rfl ?_
      refine hRet ?_
      exact fun w hs => ⟨[.bool false], ⟨rfl, trivial⟩, ⟨bB (by unfold Math.isGame; rw [lws]; simp only [g1, g2, Bool.false_and, Bool.and_false, Bool.true_and, Bool.and_true]), hs.upd⟩⟩
    · -- g2F
      replace g2 : (Math.inB (1 : Int) (6 : Int) (nws : Int)) = true := g2
      have hk := of_decide_eq_true (show decide (1 ≤ (nws : Int) ∧ (nws : Int) ≤ 6) = true from g2)
      refine fld fl57_2 rfl rfl rfl ?_
      refine ldl Try.isAgg51 (cB 0 rfl rfl) trv rfl rfl rfl ?_
      refine lenS Try.runUnderlying51 rfl rfl rfl ?_
      refine mvI rfl rfl rfl ?_
      refine neq rfl rfl rfl rfl ?_
      refine pickB rfl rfl rfl rfl ?_
      refine rNil ?_
      refine qSeq rfl ?_
      refine hIfD rfl (fun c3 => ?_) (fun c3 => ?_)
      · -- c3T
        replace c3 : (nvs : Int) ≠ (nws : Int) := c3
        refine hSeq ?_
        refine hReg (sq 0 sz) (by kernel_rfl) ?_
        refine asB rfl rfl rfl ?_
        refine rNil ?_
        refine qSeq rfl ?_
        refine hRet ?_
        exact fun w hs => ⟨[.bool false], ⟨rfl, trivial⟩, ⟨bB (by unfold Math.isGame; rw [lws, Math.mat_no0 (m := vs) (by omega)]; simp), hs.upd⟩⟩
      · -- c3F
        replace c3 : ¬ ((nvs : Int) ≠ (nws : Int)) := c3
        refine hSkip ?_
        refine qSeq rfl ?_
        refine hSeq ?_
        refine hSeq ?_
        refine hReg (sq 0 (sq 1 sz)) (by kernel_rfl) ?_
        refine mvI rfl rfl rfl ?_
        refine mvI rfl rfl rfl ?_
        refine rNil ?_
        refine qSeq rfl ?_
        refine hBlk ?_
        refine hLoop (α := Nat) (fun i => i ≤ nws ∧ ∀ j, j < i → Math.rowB nws 0 9 (ws.getD j []) = true ∧ Math.rowB nws (-1) 1 (vs.getD j []) = true) (fun i => nws - i) (fun i => [blk bkb1 57 [.slice az nz cz, .slice aws nws cws, .slice avs nvs cvs]]) (fun i => [(1, .pointer (some ⟨bkb1, 0, none⟩)), (3, .int .i64 (nws : Int)), (24, .int .i64 (nws : Int)), (25, .int .i64 (i : Int))]) 0 ⟨Nat.zero_le _, fun j hj => by omega⟩ (fun _ h => h.pick [0]) ⟨rfl, rfl, rfl, rfl, trivial⟩ ?_
        rintro i τ1 ⟨hi, hal⟩
        refine hSeq ?_
        refine hReg (sq 0 sz) (by kernel_rfl) ?_
        refine lss rfl rfl rfl rfl ?_
        refine rNil ?_
        refine qSeq rfl ?_
        refine hSeq ?_
        refine hIfD rfl (fun c4 => ?_) (fun c4 => ?_)
        · -- c4T
          replace c4 : (i : Int) < (nws : Int) := c4
          refine hSkip ?_
          refine qSeq rfl ?_
          refine hSeq ?_
          refine hBlk ?_
          refine hSeq ?_
          refine hReg (sq 0 (sq 1 sz)) (by kernel_rfl) ?_
          refine mvI rfl rfl rfl ?_
          refine asI rfl rfl rfl ?_
          refine rNil ?_
          refine qSeq rfl ?_
          refine hSeq ?_
          refine hReg (sq 0 (sl 1 (sq 2 (sq 3 (sl 4 (sq 5 (sq 6 (sq 7 (sq 8 (sq 9 (sl 10 (sq 11 (sq 12 (sl 13 (sq 14 (sq 15 (sq 16 (sq 17 (sq 18 (sq 19 (sl 20 (sq 21 (sq 22 (sl 23 (sl 24 (sq 25 (sq 26 (sq 27 (sq 28 (sl 29 (sq 30 (sq 31 (sl 32 (sl 33 (sq 34 (sq 35 sz)))))))))))))))))))))))))))))))))))) (by kernel_rfl) ?_
          refine fld fl57_1 rfl rfl rfl ?_
          refine ldl Try.isAgg51 (cB 0 rfl rfl) trv rfl rfl rfl ?_
          refine mvI rfl rfl rfl ?_
          refine ixRl (zn := i) (ws.getD i []) el51 (Kn.drop (k := 1) kws) rfl rfl rfl rfl (by omega) (by omega) rfl (nth [] (by omega)) ?_
          intro be1 oe1 e1
          refine ldl Try.isAgg22 (Kn.fld e1 0 rfl) trv rfl rfl rfl ?_
          refine lenS Try.runUnderlying22 rfl rfl rfl ?_
          refine mvI rfl rfl rfl ?_
          refine neq rfl rfl rfl rfl ?_
          refine mvB rfl rfl rfl ?_
          refine rBoolD (d := 36) rfl (fun g5 => ?_) (fun g5 => ?_)
          · -- g5T
            replace g5 : (((ws.getD i []).length : Nat) : Int) ≠ (nws : Int) := g5
            refine rSkipQ rfl rfl ?_
            refine rSkipL trv rfl rfl ?_
            refine rSkipQ rfl rfl ?_
            refine rSkipQ rfl rfl ?_
            refine rSkipL trv rfl rfl ?_
            refine rSkipQ rfl rfl ?_
            refine rSkipQ rfl rfl ?_
            refine rSkipQ rfl rfl ?_
            refine pickB rfl rfl rfl rfl ?_
            refine mvB rfl rfl rfl ?_
            refine rSkipQ rfl rfl ?_
            refine rSkipL trv rfl rfl ?_
            refine rSkipQ rfl rfl ?_
            refine rSkipQ rfl rfl ?_
            refine rSkipL trv rfl rfl ?_
            refine rSkipL trv rfl rfl ?_
            refine rSkipQ rfl rfl ?_
            refine pickB rfl rfl rfl rfl ?_
            refine mvB rfl rfl rfl ?_
            refine rSkipQ rfl rfl ?_
            refine rSkipL trv rfl rfl ?_
            refine rSkipQ rfl rfl ?_
            refine rSkipQ rfl rfl ?_
            refine rSkipL trv rfl rfl ?_
            refine rSkipL trv rfl rfl ?_
            refine rSkipQ rfl rfl ?_
            refine pickB rfl rfl rfl rfl ?_
            refine rNil ?_
            refine qSeq rfl ?_
            refine hIfT rfl ?_
            refine hSeq ?_
            refine hReg (sq 0 sz) (by kernel_rfl) ?_
            refine asB rfl rfl rfl ?_
            refine rNil ?_
            refine qSeq rfl ?_
            refine hRet ?_
            exact fun w hs => ⟨[.bool false], ⟨rfl, trivial⟩, ⟨bB (by unfold Math.isGame; rw [lws, Math.mat_no (m := ws) (i := i) (by omega) (Math.row_no1 g5)]; simp), hs.upd⟩⟩
          · -- g5F
            replace g5 : ¬ ((((ws.getD i []).length : Nat) : Int) ≠ (nws : Int)) := g5
            refine fld fl57_2 rfl rfl rfl ?_
            refine ldl Try.isAgg51 (cB 0 rfl rfl) trv rfl rfl rfl ?_
            refine mvI rfl rfl rfl ?_
            refine ixRl (zn := i) (vs.getD i []) el51 (Kn.drop (k := 1) kvs) rfl rfl rfl rfl (by omega) (by omega) rfl (nth [] (by omega)) ?_
            intro be2 oe2 e2
            refine ldl Try.isAgg22 (Kn.fld e2 0 rfl) trv rfl rfl rfl ?_
            refine lenS Try.runUnderlying22 rfl rfl rfl ?_
            refine mvI rfl rfl rfl ?_
            refine neq rfl rfl rfl rfl ?_
            refine pickB rfl rfl rfl rfl ?_
            refine mvB rfl rfl rfl ?_
            refine rBoolD (d := 46) rfl (fun g6 => ?_) (fun g6 => ?_)
            · -- g6T
              replace g6 : (((vs.getD i []).length : Nat) : Int) ≠ (nws : Int) := g6
              refine rSkipQ rfl rfl ?_
              refine rSkipL trv rfl rfl ?_
              refine rSkipQ rfl rfl ?_
              refine rSkipQ rfl rfl ?_
              refine rSkipL trv rfl rfl ?_
              refine rSkipL trv rfl rfl ?_
              refine rSkipQ rfl rfl ?_
              refine pickB rfl rfl rfl rfl ?_
              refine mvB rfl rfl rfl ?_
              refine rSkipQ rfl rfl ?_
              refine rSkipL trv rfl rfl ?_
              refine rSkipQ rfl rfl ?_
              refine rSkipQ rfl rfl ?_
              refine rSkipL trv rfl rfl ?_
              refine rSkipL trv rfl rfl ?_
              refine rSkipQ rfl rfl ?_
              refine pickB rfl rfl rfl rfl ?_
              refine rNil ?_
              refine qSeq rfl ?_
              refine hIfT rfl ?_
              refine hSeq ?_
              refine hReg (sq 0 sz) (by kernel_rfl) ?_
              refine asB rfl rfl rfl ?_
              refine rNil ?_
              refine qSeq rfl ?_
              refine hRet ?_
              exact fun w hs => ⟨[.bool false], ⟨rfl, trivial⟩, ⟨bB (by unfold Math.isGame; rw [lws, Math.mat_no (m := vs) (i := i) (by omega) (Math.row_no1 g6)]; simp), hs.upd⟩⟩
            · -- g6F
              replace g6 : ¬ ((((vs.getD i []).length : Nat) : Int) ≠ (nws : Int)) := g6
              refine fld fl57_1 rfl rfl rfl ?_
              refine ldl Try.isAgg51 (cB 0 rfl rfl) trv rfl rfl rfl ?_
              refine mvI rfl rfl rfl ?_
              refine ixRl (zn := i) (ws.getD i []) el51 (Kn.drop (k := 1) kws) rfl rfl rfl rfl (by omega) (by omega) rfl (nth [] (by omega)) ?_
              intro be3 oe3 e3
              refine ldl Try.isAgg22 (Kn.fld e3 0 rfl) trv rfl rfl rfl ?_
              refine callP (v := .bool (((ws.getD i []).all (Math.inB (0 : Int) (9 : Int))))) Try.call56 trv rfl rfl (fun w hs => impl_allWithin_c _ _ _ _ _ _ w (Kn.drop (k := 1) ((Kn.imp kws fun _ h => h.kidM (nth [] (by omega)))) w hs)) ?_
              refine not rfl rfl rfl ?_
              refine pickB rfl rfl rfl rfl ?_
              refine mvB rfl rfl rfl ?_
              refine rBoolN (d := 55) rfl (fun g7 => ?_) (fun g7 => ?_)
              · -- g7T
                replace g7 : ((ws.getD i []).all (Math.inB (0 : Int) (9 : Int))) = false := g7
                refine rSkipQ rfl rfl ?_
                refine rSkipL trv rfl rfl ?_
                refine rSkipQ rfl rfl ?_
                refine rSkipQ rfl rfl ?_
                refine rSkipL trv rfl rfl ?_
                refine rSkipL trv rfl rfl ?_
                refine rSkipQ rfl rfl ?_
                refine pickB rfl rfl rfl rfl ?_
                refine rNil ?_
                refine qSeq rfl ?_
                refine hIfT rfl ?_
                refine hSeq ?_
                refine hReg (sq 0 sz) (by kernel_rfl) ?_
                refine asB rfl rfl rfl ?_
                refine rNil ?_
                refine qSeq rfl ?_
                refine hRet ?_
                exact fun w hs => ⟨[.bool false], ⟨rfl, trivial⟩, ⟨bB (by unfold Math.isGame; rw [lws, Math.mat_no (m := ws) (i := i) (by omega) (Math.row_no2 g7)]; simp), hs.upd⟩⟩
              · -- g7F
                replace g7 : ((ws.getD i []).all (Math.inB (0 : Int) (9 : Int))) = true := g7
                refine fld fl57_2 rfl rfl rfl ?_
                refine ldl Try.isAgg51 (cB 0 rfl rfl) trv rfl rfl rfl ?_
                refine mvI rfl rfl rfl ?_
                refine ixRl (zn := i) (vs.getD i []) el51 (Kn.drop (k := 1) kvs) rfl rfl rfl rfl (by omega) (by omega) rfl (nth [] (by omega)) ?_
                intro be4 oe4 e4
                refine ldl Try.isAgg22 (Kn.fld e4 0 rfl) trv rfl rfl rfl ?_
                refine callP (v := .bool (((vs.getD i []).all (Math.inB (-1) (1 : Int))))) Try.call56 trv rfl rfl (fun w hs => impl_allWithin_c _ _ _ _ _ _ w (Kn.drop (k := 1) ((Kn.imp kvs fun _ h => h.kidM (nth [] (by omega)))) w hs)) ?_
                refine not rfl rfl rfl ?_
                refine pickB rfl rfl rfl rfl ?_
                refine rNil ?_
                refine qSeq rfl ?_
                refine hIfN rfl (fun c8 => ?_) (fun c8 => ?_)
                · -- c8T
                  replace c8 : ((vs.getD i []).all (Math.inB (-1) (1 : Int))) = false := c8
                  refine hSeq ?_
                  refine hReg (sq 0 sz) (by kernel_rfl) ?_
                  refine asB rfl rfl rfl ?_
                  refine rNil ?_
                  refine qSeq rfl ?_
                  refine hRet ?_
                  exact fun w hs => ⟨[.bool false], ⟨rfl, trivial⟩, ⟨bB (by unfold Math.isGame; rw [lws, Math.mat_no (m := vs) (i := i) (by omega) (Math.row_no2 c8)]; simp), hs.upd⟩⟩
                · -- c8F
                  replace c8 : ((vs.getD i []).all (Math.inB (-1) (1 : Int))) = true := c8
                  refine hSkip ?_
                  refine qSeq rfl ?_
                  refine hReg (sq 0 (sq 1 sz)) (by kernel_rfl) ?_
                  refine add rfl rfl rfl rfl (by omega) ?_
                  refine mvI rfl rfl rfl ?_
                  refine rNil ?_
                  exact qNext rfl (i + 1) (by omega) (⟨by omega, Math.upto hal ⟨Math.row_yes (by omega) g7, Math.row_yes (by omega) c8⟩⟩) ⟨rfl, rfl, rfl, rfl, trivial⟩ (fun _ h => h.pick [0])
        · -- c4F
          replace c4 : ¬ ((i : Int) < (nws : Int)) := c4
          have hm : Math.matB nws 0 9 ws = true := Math.mat_yes lws fun j hj => (hal j (by omega)).1
          have hv : Math.matB nws (-1) 1 vs = true := Math.mat_yes (by omega) fun j hj => (hal j (by omega)).2
          refine hExit rfl ?_
          refine qSeq rfl ?_
          refine hSeq ?_
          refine hReg (sl 0 (sl 1 (sq 2 (sq 3 sz)))) (by kernel_rfl) ?_
          refine ldAl Try.isAgg57 Try.sizeOf57 (cBs 0 rfl) trv rfl rfl rfl rfl ?_
          refine callP (v := .int .i64 (Math.total ws)) Try.call78 trv rfl rfl (fun w hs => impl_totalWeight_c _ _ _ _ _ _ _ _ _ _ _ _ _ _ _ w (Kn.drop (k := 1) kz w hs) (Kn.drop (k := 1) kws w hs) (Kn.drop (k := 1) kvs w hs) (by assumption) (by omega)) ?_
          refine gtr rfl rfl rfl rfl ?_
          refine asB rfl rfl rfl ?_
          refine rNil ?_
          refine qSeq rfl ?_
          refine hRet ?_
          exact fun w hs => ⟨[.bool (decide (0 < (Math.total ws)))], ⟨rfl, trivial⟩, ⟨bB (by unfold Math.isGame; rw [lws, hm, hv, g1, g2]; rfl), hs.upd⟩⟩

theorem impl_powerOf_c (n : Int) (k : Int) (w : World) (hn : n = 60) (hk : 0 ≤ k ∧ k ≤ 10) :
    Calls Try.prog 100 #[.int .i64 n, .int .i64 k] w (Ret fun v w' => v = .int .i64 (Math.p60 k.toNat) ∧ Ext w w') := by
  refine fn (M := none_) (rs := [.tmp 4]) Try.func100 rfl Try.ntmps100 rfl rfl (Sep.start _ _) ?_
  refine hSeq ?_
  refine hReg (sq 0 sz) (by kernel_rfl) ?_
  refine asI rfl rfl rfl ?_
  refine rNil ?_
  refine qSeq rfl ?_
  refine hSeq ?_
  refine hReg (sq 0 sz) (by kernel_rfl) ?_
  refine asI rfl rfl rfl ?_
  refine rNil ?_
  refine qSeq rfl ?_
  refine hSeq ?_
  refine hSeq ?_
  refine hReg (sq 0 (sq 1 sz)) (by kernel_rfl) ?_
  refine mvI rfl rfl rfl ?_
  refine mvI rfl rfl rfl ?_
  refine rNil ?_
  refine qSeq rfl ?_
  refine hBlk ?_
  refine hLoop (α := Nat × Int) (fun x => x.1 ≤ k.toNat ∧ x.2 = Math.p60 x.1) (fun x => k.toNat - x.1) (fun x => []) (fun x => [(0, .int .i64 n), (5, .int .i64 x.2), (6, .int .i64 k), (7, .int .i64 (x.1 : Int))]) (0, 1) ⟨Nat.zero_le _, rfl⟩ (fun _ h => h.pick []) ⟨rfl, rfl, rfl, rfl, trivial⟩ ?_
  rintro ⟨i, p⟩ τ1 ⟨hi, hp⟩
  dsimp only at hi hp
  refine hRe [(0, .int .i64 n), (5, .int .i64 p), (6, .int .i64 k), (7, .int .i64 (i : Int))] [] rfl rfl ?_
  refine hSeq ?_
  refine hReg (sq 0 sz) (by kernel_rfl) ?_
  refine lss rfl rfl rfl rfl ?_
  refine rNil ?_
  refine qSeq rfl ?_
  refine hSeq ?_
  refine hIfD rfl (fun c1 => ?_) (fun c1 => ?_)
  · -- c1T
    replace c1 : (i : Int) < k := c1
    have hpb := Math.p60_bd (show i ≤ 9 by omega)
    refine hSkip ?_
    refine qSeq rfl ?_
    refine hSeq ?_
    refine hBlk ?_
    refine hReg (sq 0 (sq 1 (sq 2 (sq 3 sz)))) (by kernel_rfl) ?_
    refine mvI rfl rfl rfl ?_
    refine mvI rfl rfl rfl ?_
    refine mul rfl rfl rfl rfl (by rw [hn]; omega) ?_
    refine asI rfl rfl rfl ?_
    refine rNil ?_
    refine qSeq rfl ?_
    refine hReg (sq 0 (sq 1 sz)) (by kernel_rfl) ?_
    refine add rfl rfl rfl rfl (by omega) ?_
    refine mvI rfl rfl rfl ?_
    refine rNil ?_
    exact qNext rfl (i + 1, p * n) (by dsimp only; omega) ⟨by dsimp only; omega, by dsimp only; rw [hn, hp, Math.p60_s]⟩ ⟨rfl, rfl, rfl, rfl, trivial⟩ (fun _ h => h.pick [])
  · -- c1F
    replace c1 : ¬ ((i : Int) < k) := c1
    refine hExit rfl ?_
    refine qSeq rfl ?_
    refine hSeq ?_
    refine hReg (sq 0 (sq 1 sz)) (by kernel_rfl) ?_
    refine mvI rfl rfl rfl ?_
    refine asI rfl rfl rfl ?_
    refine rNil ?_
    refine qSeq rfl ?_
    refine hRet ?_
    exact fun w hs => ⟨[.int .i64 p], ⟨rfl, trivial⟩, ⟨vI (by rw [hp]; congr 1; omega), hs.upd⟩⟩

theorem spec_l23Power_c (k : Int) (w : World) (hk : 0 ≤ k ∧ k ≤ 10) :
    Calls Try.prog 99 #[.int .i64 k] w (Ret fun v w' => v = .int .i64 (Math.p60 k.toNat) ∧ Ext w w') := by
  refine fn (M := none_) (rs := [.tmp 2]) Try.func99 rfl Try.ntmps99 rfl rfl (Sep.start _ _) ?_
  refine hSeq ?_
  refine hReg (sq 0 sz) (by kernel_rfl) ?_
  refine asI rfl rfl rfl ?_
  refine rNil ?_
  refine qSeq rfl ?_
  refine hSeq ?_
  refine hReg (sq 0 sz) (by kernel_rfl) ?_
  refine asI rfl rfl rfl ?_
  refine rNil ?_
  refine qSeq rfl ?_
  refine hSeq ?_
  refine hBlk ?_
  refine hLoop (α := Int × Int) (fun x => 0 ≤ x.1 ∧ x.1 ≤ k ∧ x.2 = Math.p60 (k - x.1).toNat) (fun x => x.1.toNat) (fun x => []) (fun x => [(0, .int .i64 x.1), (3, .int .i64 x.2)]) (k, 1) ⟨hk.1, Int.le_refl _, by simp [Math.p60]⟩ (fun _ h => h.pick []) ⟨rfl, rfl, trivial⟩ ?_
  rintro ⟨q, p⟩ τ1 ⟨hq, hqk, hp⟩
  dsimp only at hq hqk hp
  refine hRe [(0, .int .i64 q), (3, .int .i64 p)] [] rfl rfl ?_
  refine hSeq ?_
  refine hSeq ?_
  refine hReg (sq 0 (sq 1 sz)) (by kernel_rfl) ?_
  refine mvI rfl rfl rfl ?_
  refine gtr rfl rfl rfl rfl ?_
  refine rNil ?_
  refine qSeq rfl ?_
  refine hIfD rfl (fun c1 => ?_) (fun c1 => ?_)
  · -- c1T
    replace c1 : 0 < q := c1
    have hpb := Math.p60_bd (show (k - q).toNat ≤ 9 by omega)
    refine hSkip ?_
    refine qSeq rfl ?_
    refine hSeq ?_
    refine hBlk ?_
    refine hReg (sq 0 (sq 1 (sq 2 sz))) (by kernel_rfl) ?_
    refine mvI rfl rfl rfl ?_
    refine mul rfl rfl rfl rfl (by omega) ?_
    refine asI rfl rfl rfl ?_
    refine rNil ?_
    refine qSeq rfl ?_
    refine hReg (sq 0 (sq 1 (sq 2 sz))) (by kernel_rfl) ?_
    refine mvI rfl rfl rfl ?_
    refine sub rfl rfl rfl rfl (by omega) ?_
    refine asI rfl rfl rfl ?_
    refine rNil ?_
    exact qNext rfl (q - 1, p * 60) (by dsimp only; omega) ⟨by dsimp only; omega, by dsimp only; omega, by dsimp only; rw [hp, show (k - (q - 1)).toNat = (k - q).toNat + 1 from by omega, Math.p60_s]⟩ ⟨rfl, rfl, trivial⟩ (fun _ h => h.pick [])
  · -- c1F
    replace c1 : ¬ (0 < q) := c1
    refine hExit rfl ?_
    refine qSeq rfl ?_
    refine hSeq ?_
    refine hReg (sq 0 (sq 1 sz)) (by kernel_rfl) ?_
    refine mvI rfl rfl rfl ?_
    refine asI rfl rfl rfl ?_
    refine rNil ?_
    refine qSeq rfl ?_
    refine hRet ?_
    exact fun w hs => ⟨[.int .i64 p], ⟨rfl, trivial⟩, ⟨vI (by rw [hp]; congr 1; omega), hs.upd⟩⟩

theorem impl_unitOf_c (az : Option Addr) (nz : Nat) (cz : Nat) (Hz : Nat → Hd) (z : List Nd) (aws : Option Addr) (nws : Nat) (cws : Nat) (Hws : Nat → Hd) (ws : List (List Int)) (avs : Option Addr) (nvs : Nat) (cvs : Nat) (Hvs : Nat → Hd) (vs : List (List Int)) (w : World) (rz : RdR ndK az nz Hz z w) (rws : RdR maK aws nws Hws ws w) (rvs : RdR maK avs nvs Hvs vs w) (hg : Math.isGame z ws vs = true) :
    Calls Try.prog 85 #[.agg #[.slice az nz cz, .slice aws nws cws, .slice avs nvs cvs]] w (Ret fun v w' => v = .int .i64 (Math.unit z ws) ∧ Ext w w') := by
  have kz : Kn w none_ [] (RdR ndK az nz Hz z) := fun w' hs => rz.ext hs.upd
  have lz : z.length = nz := rz.1
  have mz : nz ≤ 9223372036854775807 := rz.2.1
  have kws : Kn w none_ [] (RdR maK aws nws Hws ws) := fun w' hs => rws.ext hs.upd
  have lws : ws.length = nws := rws.1
  have mws : nws ≤ 9223372036854775807 := rws.2.1
  have kvs : Kn w none_ [] (RdR maK avs nvs Hvs vs) := fun w' hs => rvs.ext hs.upd
  have lvs : vs.length = nvs := rvs.1
  have mvs : nvs ≤ 9223372036854775807 := rvs.2.1
  have hG := Math.isGame_ok hg
  rw [lws] at hG
  have hT := Math.isTree_ok hG.1
  have hok := hT.2.1
  have hm := hG.2.2.1
  have htl := Math.total_le hG.2.1.2 hm
  have hp5 := Math.p60_5 (show (Math.depth z 0).toNat ≤ 5 by omega)
  have hmb := Math.mul_bd htl.1 htl.2 (show 0 ≤ Math.p60 (Math.depth z 0).toNat by omega) hp5.2
  refine fn (M := none_) (rs := [.tmp 2]) Try.func85 rfl Try.ntmps85 rfl rfl (Sep.start _ _) ?_
  refine hSeq ?_
  refine hReg (sl 0 (sq 1 sz)) (by kernel_rfl) ?_
  refine box trv1 rfl rfl rfl rfl (fun bkb1 hbkb1 => ?_)
  refine asI rfl rfl rfl ?_
  refine rNil ?_
  refine qSeq rfl ?_
  refine hSeq ?_
  refine hDraw (Ls := [blk bkb1 57 [.slice az nz cz, .slice aws nws cws, .slice avs nvs cvs]]) (by kernel_rfl) (sq 0 (sq 2 (sq 3 (sl 1 (sl 4 (sl 5 (sq 6 (sq 7 sz)))))))) (by kernel_rfl) (.cons_cons _ .slnil) ?_
  refine ldAq Try.isAgg57 Try.sizeOf57 (cBs 0 rfl) rfl rfl rfl rfl ?_
  refine fld fl57_0 rfl rfl rfl ?_
  refine ldAq Try.isAgg31 Try.sizeOf31 (cBp (m := 1) 0 rfl rfl) rfl rfl rfl rfl ?_
  refine callP (v := .int .i64 (Math.total ws)) Try.call78 (fun _ h => h.pick [0]) rfl rfl (fun w hs => impl_totalWeight_c _ _ _ _ _ _ _ _ _ _ _ _ _ _ _ w (Kn.drop (k := 1) kz w hs) (Kn.drop (k := 1) kws w hs) (Kn.drop (k := 1) kvs w hs) (by assumption) (by omega)) ?_
  refine callP (v := .int .i64 (Math.depth z 0)) Try.call68 (fun _ h => h.pick [0]) rfl rfl (fun w hs => impl_depthFrom_c _ _ _ _ _ _ w (Kn.drop (k := 1) kz w hs) (by assumption) (by omega) (by omega)) ?_
  refine callP (v := .int .i64 ((Math.p60 (Math.depth z 0).toNat))) Try.call100 (fun _ h => h.pick [0]) rfl rfl (fun w hs => impl_powerOf_c _ _ w rfl (by omega)) ?_
  refine mul rfl rfl rfl rfl (by have := hmb; exact ⟨by omega, by omega⟩) ?_
  refine asI rfl rfl rfl ?_
  refine rNil ?_
  refine qSeq rfl ?_
  refine hRet ?_
  exact fun w hs => ⟨[.int .i64 (((Math.total ws) * (Math.p60 (Math.depth z 0).toNat)))], ⟨rfl, trivial⟩, ⟨rfl, hs.upd⟩⟩

theorem spec_l23Unit_c (az : Option Addr) (nz : Nat) (cz : Nat) (Hz : Nat → Hd) (z : List Nd) (aws : Option Addr) (nws : Nat) (cws : Nat) (Hws : Nat → Hd) (ws : List (List Int)) (avs : Option Addr) (nvs : Nat) (cvs : Nat) (Hvs : Nat → Hd) (vs : List (List Int)) (w : World) (rz : RdR ndK az nz Hz z w) (rws : RdR maK aws nws Hws ws w) (rvs : RdR maK avs nvs Hvs vs w) (hg : Math.isGame z ws vs = true) :
    Calls Try.prog 84 #[.agg #[.slice az nz cz, .slice aws nws cws, .slice avs nvs cvs]] w (Ret fun v w' => v = .int .i64 (Math.unit z ws) ∧ Ext w w') := by
  have kz : Kn w none_ [] (RdR ndK az nz Hz z) := fun w' hs => rz.ext hs.upd
  have lz : z.length = nz := rz.1
  have mz : nz ≤ 9223372036854775807 := rz.2.1
  have kws : Kn w none_ [] (RdR maK aws nws Hws ws) := fun w' hs => rws.ext hs.upd
  have lws : ws.length = nws := rws.1
  have mws : nws ≤ 9223372036854775807 := rws.2.1
  have kvs : Kn w none_ [] (RdR maK avs nvs Hvs vs) := fun w' hs => rvs.ext hs.upd
  have lvs : vs.length = nvs := rvs.1
  have mvs : nvs ≤ 9223372036854775807 := rvs.2.1
  have hG := Math.isGame_ok hg
  rw [lws] at hG
  have hT := Math.isTree_ok hG.1
  have hok := hT.2.1
  have hm := hG.2.2.1
  have htl := Math.total_le hG.2.1.2 hm
  have hp5 := Math.p60_5 (show (Math.depth z 0).toNat ≤ 5 by omega)
  have hmb := Math.mul_bd htl.1 htl.2 (show 0 ≤ Math.p60 (Math.depth z 0).toNat by omega) hp5.2
  refine fn (M := none_) (rs := [.tmp 2]) Try.func84 rfl Try.ntmps84 rfl rfl (Sep.start _ _) ?_
  refine hSeq ?_
  refine hReg (sl 0 (sq 1 sz)) (by kernel_rfl) ?_
  refine box trv1 rfl rfl rfl rfl (fun bkb1 hbkb1 => ?_)
  refine asI rfl rfl rfl ?_
  refine rNil ?_
  refine qSeq rfl ?_
  refine hSeq ?_
  refine hDraw (Ls := [blk bkb1 57 [.slice az nz cz, .slice aws nws cws, .slice avs nvs cvs]]) (by kernel_rfl) (sq 0 (sq 2 (sq 3 (sl 1 (sl 4 (sl 5 (sq 6 (sq 7 sz)))))))) (by kernel_rfl) (.cons_cons _ .slnil) ?_
  refine ldAq Try.isAgg57 Try.sizeOf57 (cBs 0 rfl) rfl rfl rfl rfl ?_
  refine fld fl57_0 rfl rfl rfl ?_
  refine ldAq Try.isAgg31 Try.sizeOf31 (cBp (m := 1) 0 rfl rfl) rfl rfl rfl rfl ?_
  refine callP (v := .int .i64 (Math.total ws)) Try.call76 (fun _ h => h.pick [0]) rfl rfl (fun w hs => spec_l21Total_c _ _ _ _ _ _ _ _ _ _ _ _ _ _ _ w (Kn.drop (k := 1) kz w hs) (Kn.drop (k := 1) kws w hs) (Kn.drop (k := 1) kvs w hs) (by assumption) (by omega)) ?_
  refine callP (v := .int .i64 (Math.depth z 0)) Try.call65 (fun _ h => h.pick [0]) rfl rfl (fun w hs => spec_l20Depth_c _ _ _ _ _ _ w (Kn.drop (k := 1) kz w hs) (by assumption) (by omega) (by omega)) ?_
  refine callP (v := .int .i64 ((Math.p60 (Math.depth z 0).toNat))) Try.call99 (fun _ h => h.pick [0]) rfl rfl (fun w hs => spec_l23Power_c _ w (by omega)) ?_
  refine mul rfl rfl rfl rfl (by have := hmb; exact ⟨by omega, by omega⟩) ?_
  refine asI rfl rfl rfl ?_
  refine rNil ?_
  refine qSeq rfl ?_
  refine hRet ?_
  exact fun w hs => ⟨[.int .i64 (((Math.total ws) * (Math.p60 (Math.depth z 0).toNat)))], ⟨rfl, trivial⟩, ⟨rfl, hs.upd⟩⟩

theorem impl_TotalWeight_c (az : Option Addr) (nz : Nat) (cz : Nat) (Hz : Nat → Hd) (z : List Nd) (aws : Option Addr) (nws : Nat) (cws : Nat) (Hws : Nat → Hd) (ws : List (List Int)) (avs : Option Addr) (nvs : Nat) (cvs : Nat) (Hvs : Nat → Hd) (vs : List (List Int)) (w : World) (rz : RdR ndK az nz Hz z w) (rws : RdR maK aws nws Hws ws w) (rvs : RdR maK avs nvs Hvs vs w) :
    Calls Try.prog 50 #[.agg #[.slice az nz cz, .slice aws nws cws, .slice avs nvs cvs]] w (Ret fun v w' => v = .tuple #[.int .i64 ((Math.totalOf z ws vs).1), .int .i64 ((Math.totalOf z ws vs).2)] ∧ Ext w w') := by
  have kz : Kn w none_ [] (RdR ndK az nz Hz z) := fun w' hs => rz.ext hs.upd
  have lz : z.length = nz := rz.1
  have mz : nz ≤ 9223372036854775807 := rz.2.1
  have kws : Kn w none_ [] (RdR maK aws nws Hws ws) := fun w' hs => rws.ext hs.upd
  have lws : ws.length = nws := rws.1
  have mws : nws ≤ 9223372036854775807 := rws.2.1
  have kvs : Kn w none_ [] (RdR maK avs nvs Hvs vs) := fun w' hs => rvs.ext hs.upd
  have lvs : vs.length = nvs := rvs.1
  have mvs : nvs ≤ 9223372036854775807 := rvs.2.1
  refine fn (M := none_) (rs := [.tmp 2, .tmp 3]) Try.func50 rfl Try.ntmps50 rfl rfl (Sep.start _ _) ?_
  refine hSeq ?_
  refine hReg (sl 0 (sq 1 (sq 2 sz))) (by kernel_rfl) ?_
  refine box trv1 rfl rfl rfl rfl (fun bkb1 hbkb1 => ?_)
  refine asI rfl rfl rfl ?_
  refine asI rfl rfl rfl ?_
  refine rNil ?_
  refine qSeq rfl ?_
  refine hSeq ?_
  refine hSeq ?_
  refine hReg (sl 0 (sl 1 (sq 2 sz))) (by kernel_rfl) ?_
  refine ldAl Try.isAgg57 Try.sizeOf57 (cBs 0 rfl) trv rfl rfl rfl rfl ?_
  refine callP (v := .bool (Math.isGame z ws vs)) Try.call43 trv rfl rfl (fun w hs => impl_IsGame_c _ _ _ _ _ _ _ _ _ _ _ _ _ _ _ w (Kn.drop (k := 1) kz w hs) (Kn.drop (k := 1) kws w hs) (Kn.drop (k := 1) kvs w hs)) ?_
  refine not rfl rfl rfl ?_
  refine rNil ?_
  refine qSeq rfl ?_
  refine hIfN rfl (fun c1 => ?_) (fun c1 => ?_)
  · -- c1T
    replace c1 : (Math.isGame z ws vs) = false := c1
    refine hSeq ?_
    refine hReg (sq 0 (sq 1 sz)) (by kernel_rfl) ?_
    refine asI rfl rfl rfl ?_
    refine asI rfl rfl rfl ?_
    refine rNil ?_
    refine qSeq rfl ?_
    refine hRet ?_
    exact fun w hs => ⟨[.int .i64 0, .int .i64 1], ⟨rfl, ⟨rfl, trivial⟩⟩, ⟨by rw [show Math.totalOf z ws vs = (0, 1) from by simp [Math.totalOf, c1]]; rfl, hs.upd⟩⟩
  · -- c1F
    replace c1 : (Math.isGame z ws vs) = true := c1
    have hG := Math.isGame_ok c1
    rw [lws] at hG
    have hm := hG.2.2.1
    refine hSkip ?_
    refine qSeq rfl ?_
    refine hSeq ?_
    refine hReg (sl 0 (sl 1 (sq 2 (sq 3 sz)))) (by kernel_rfl) ?_
    refine ldAl Try.isAgg57 Try.sizeOf57 (cBs 0 rfl) trv rfl rfl rfl rfl ?_
    refine callP (v := .int .i64 (Math.total ws)) Try.call78 trv rfl rfl (fun w hs => impl_totalWeight_c _ _ _ _ _ _ _ _ _ _ _ _ _ _ _ w (Kn.drop (k := 1) kz w hs) (Kn.drop (k := 1) kws w hs) (Kn.drop (k := 1) kvs w hs) (by assumption) (by omega)) ?_
    refine asI rfl rfl rfl ?_
    refine asI rfl rfl rfl ?_
    refine rNil ?_
    refine qSeq rfl ?_
    refine hRet ?_
    exact fun w hs => ⟨[.int .i64 (Math.total ws), .int .i64 0], ⟨rfl, ⟨rfl, trivial⟩⟩, ⟨by rw [show Math.totalOf z ws vs = (Math.total ws, 0) from by simp [Math.totalOf, c1]]; rfl, hs.upd⟩⟩

theorem impl_UnitOf_c (az : Option Addr) (nz : Nat) (cz : Nat) (Hz : Nat → Hd) (z : List Nd) (aws : Option Addr) (nws : Nat) (cws : Nat) (Hws : Nat → Hd) (ws : List (List Int)) (avs : Option Addr) (nvs : Nat) (cvs : Nat) (Hvs : Nat → Hd) (vs : List (List Int)) (w : World) (rz : RdR ndK az nz Hz z w) (rws : RdR maK aws nws Hws ws w) (rvs : RdR maK avs nvs Hvs vs w) :
    Calls Try.prog 52 #[.agg #[.slice az nz cz, .slice aws nws cws, .slice avs nvs cvs]] w (Ret fun v w' => v = .tuple #[.int .i64 ((Math.unitOf z ws vs).1), .int .i64 ((Math.unitOf z ws vs).2)] ∧ Ext w w') := by
  have kz : Kn w none_ [] (RdR ndK az nz Hz z) := fun w' hs => rz.ext hs.upd
  have lz : z.length = nz := rz.1
  have mz : nz ≤ 9223372036854775807 := rz.2.1
  have kws : Kn w none_ [] (RdR maK aws nws Hws ws) := fun w' hs => rws.ext hs.upd
  have lws : ws.length = nws := rws.1
  have mws : nws ≤ 9223372036854775807 := rws.2.1
  have kvs : Kn w none_ [] (RdR maK avs nvs Hvs vs) := fun w' hs => rvs.ext hs.upd
  have lvs : vs.length = nvs := rvs.1
  have mvs : nvs ≤ 9223372036854775807 := rvs.2.1
  refine fn (M := none_) (rs := [.tmp 2, .tmp 3]) Try.func52 rfl Try.ntmps52 rfl rfl (Sep.start _ _) ?_
  refine hSeq ?_
  refine hReg (sl 0 (sq 1 (sq 2 sz))) (by kernel_rfl) ?_
  refine box trv1 rfl rfl rfl rfl (fun bkb1 hbkb1 => ?_)
  refine asI rfl rfl rfl ?_
  refine asI rfl rfl rfl ?_
  refine rNil ?_
  refine qSeq rfl ?_
  refine hSeq ?_
  refine hSeq ?_
  refine hReg (sl 0 (sl 1 (sq 2 sz))) (by kernel_rfl) ?_
  refine ldAl Try.isAgg57 Try.sizeOf57 (cBs 0 rfl) trv rfl rfl rfl rfl ?_
  refine callP (v := .bool (Math.isGame z ws vs)) Try.call43 trv rfl rfl (fun w hs => impl_IsGame_c _ _ _ _ _ _ _ _ _ _ _ _ _ _ _ w (Kn.drop (k := 1) kz w hs) (Kn.drop (k := 1) kws w hs) (Kn.drop (k := 1) kvs w hs)) ?_
  refine not rfl rfl rfl ?_
  refine rNil ?_
  refine qSeq rfl ?_
  refine hIfN rfl (fun c1 => ?_) (fun c1 => ?_)
  · -- c1T
    replace c1 : (Math.isGame z ws vs) = false := c1
    refine hSeq ?_
    refine hReg (sq 0 (sq 1 sz)) (by kernel_rfl) ?_
    refine asI rfl rfl rfl ?_
    refine asI rfl rfl rfl ?_
    refine rNil ?_
    refine qSeq rfl ?_
    refine hRet ?_
    exact fun w hs => ⟨[.int .i64 0, .int .i64 1], ⟨rfl, ⟨rfl, trivial⟩⟩, ⟨by rw [show Math.unitOf z ws vs = (0, 1) from by simp [Math.unitOf, c1]]; rfl, hs.upd⟩⟩
  · -- c1F
    replace c1 : (Math.isGame z ws vs) = true := c1
    refine hSkip ?_
    refine qSeq rfl ?_
    refine hSeq ?_
    refine hReg (sl 0 (sl 1 (sq 2 (sq 3 sz)))) (by kernel_rfl) ?_
    refine ldAl Try.isAgg57 Try.sizeOf57 (cBs 0 rfl) trv rfl rfl rfl rfl ?_
    refine callP (v := .int .i64 (Math.unit z ws)) Try.call85 trv rfl rfl (fun w hs => impl_unitOf_c _ _ _ _ _ _ _ _ _ _ _ _ _ _ _ w (Kn.drop (k := 1) kz w hs) (Kn.drop (k := 1) kws w hs) (Kn.drop (k := 1) kvs w hs) (by assumption)) ?_
    refine asI rfl rfl rfl ?_
    refine asI rfl rfl rfl ?_
    refine rNil ?_
    refine qSeq rfl ?_
    refine hRet ?_
    exact fun w hs => ⟨[.int .i64 (Math.unit z ws), .int .i64 0], ⟨rfl, ⟨rfl, trivial⟩⟩, ⟨by rw [show Math.unitOf z ws vs = (Math.unit z ws, 0) from by simp [Math.unitOf, c1]]; rfl, hs.upd⟩⟩

theorem spec_TotalWeight_c (az : Option Addr) (nz : Nat) (cz : Nat) (Hz : Nat → Hd) (z : List Nd) (aws : Option Addr) (nws : Nat) (cws : Nat) (Hws : Nat → Hd) (ws : List (List Int)) (avs : Option Addr) (nvs : Nat) (cvs : Nat) (Hvs : Nat → Hd) (vs : List (List Int)) (w : World) (rz : RdR ndK az nz Hz z w) (rws : RdR maK aws nws Hws ws w) (rvs : RdR maK avs nvs Hvs vs w) :
    Calls Try.prog 49 #[.agg #[.slice az nz cz, .slice aws nws cws, .slice avs nvs cvs]] w (Ret fun v w' => v = .tuple #[.int .i64 ((Math.totalOf z ws vs).1), .int .i64 ((Math.totalOf z ws vs).2)] ∧ Ext w w') := by
  have kz : Kn w none_ [] (RdR ndK az nz Hz z) := fun w' hs => rz.ext hs.upd
  have lz : z.length = nz := rz.1
  have mz : nz ≤ 9223372036854775807 := rz.2.1
  have kws : Kn w none_ [] (RdR maK aws nws Hws ws) := fun w' hs => rws.ext hs.upd
  have lws : ws.length = nws := rws.1
  have mws : nws ≤ 9223372036854775807 := rws.2.1
  have kvs : Kn w none_ [] (RdR maK avs nvs Hvs vs) := fun w' hs => rvs.ext hs.upd
  have lvs : vs.length = nvs := rvs.1
  have mvs : nvs ≤ 9223372036854775807 := rvs.2.1
  refine fn (M := none_) (rs := [.tmp 2, .tmp 3]) Try.func49 rfl Try.ntmps49 rfl rfl (Sep.start _ _) ?_
  refine hSeq ?_
  refine hReg (sl 0 (sq 1 (sq 2 sz))) (by kernel_rfl) ?_
  refine box trv1 rfl rfl rfl rfl (fun bkb1 hbkb1 => ?_)
  refine asI rfl rfl rfl ?_
  refine asI rfl rfl rfl ?_
  refine rNil ?_
  refine qSeq rfl ?_
  refine hSeq ?_
  refine hSeq ?_
  refine hReg (sl 0 (sl 1 (sq 2 sz))) (by kernel_rfl) ?_
  refine ldAl Try.isAgg57 Try.sizeOf57 (cBs 0 rfl) trv rfl rfl rfl rfl ?_
  refine callP (v := .bool (Math.isGame z ws vs)) Try.call41 trv rfl rfl (fun w hs => spec_IsGame_c _ _ _ _ _ _ _ _ _ _ _ _ _ _ _ w (Kn.drop (k := 1) kz w hs) (Kn.drop (k := 1) kws w hs) (Kn.drop (k := 1) kvs w hs)) ?_
  refine not rfl rfl rfl ?_
  refine rNil ?_
  refine qSeq rfl ?_
  refine hIfN rfl (fun c1 => ?_) (fun c1 => ?_)
  · -- c1T
    replace c1 : (Math.isGame z ws vs) = false := c1
    refine hSeq ?_
    refine hReg (sq 0 (sq 1 sz)) (by kernel_rfl) ?_
    refine asI rfl rfl rfl ?_
    refine asI rfl rfl rfl ?_
    refine rNil ?_
    refine qSeq rfl ?_
    refine hRet ?_
    exact fun w hs => ⟨[.int .i64 0, .int .i64 1], ⟨rfl, ⟨rfl, trivial⟩⟩, ⟨by rw [show Math.totalOf z ws vs = (0, 1) from by simp [Math.totalOf, c1]]; rfl, hs.upd⟩⟩
  · -- c1F
    replace c1 : (Math.isGame z ws vs) = true := c1
    have hG := Math.isGame_ok c1
    rw [lws] at hG
    have hm := hG.2.2.1
    refine hSkip ?_
    refine qSeq rfl ?_
    refine hSeq ?_
    refine hReg (sl 0 (sl 1 (sq 2 (sq 3 sz)))) (by kernel_rfl) ?_
    refine ldAl Try.isAgg57 Try.sizeOf57 (cBs 0 rfl) trv rfl rfl rfl rfl ?_
    refine callP (v := .int .i64 (Math.total ws)) Try.call76 trv rfl rfl (fun w hs => spec_l21Total_c _ _ _ _ _ _ _ _ _ _ _ _ _ _ _ w (Kn.drop (k := 1) kz w hs) (Kn.drop (k := 1) kws w hs) (Kn.drop (k := 1) kvs w hs) (by assumption) (by omega)) ?_
    refine asI rfl rfl rfl ?_
    refine asI rfl rfl rfl ?_
    refine rNil ?_
    refine qSeq rfl ?_
    refine hRet ?_
    exact fun w hs => ⟨[.int .i64 (Math.total ws), .int .i64 0], ⟨rfl, ⟨rfl, trivial⟩⟩, ⟨by rw [show Math.totalOf z ws vs = (Math.total ws, 0) from by simp [Math.totalOf, c1]]; rfl, hs.upd⟩⟩

theorem spec_UnitOf_c (az : Option Addr) (nz : Nat) (cz : Nat) (Hz : Nat → Hd) (z : List Nd) (aws : Option Addr) (nws : Nat) (cws : Nat) (Hws : Nat → Hd) (ws : List (List Int)) (avs : Option Addr) (nvs : Nat) (cvs : Nat) (Hvs : Nat → Hd) (vs : List (List Int)) (w : World) (rz : RdR ndK az nz Hz z w) (rws : RdR maK aws nws Hws ws w) (rvs : RdR maK avs nvs Hvs vs w) :
    Calls Try.prog 51 #[.agg #[.slice az nz cz, .slice aws nws cws, .slice avs nvs cvs]] w (Ret fun v w' => v = .tuple #[.int .i64 ((Math.unitOf z ws vs).1), .int .i64 ((Math.unitOf z ws vs).2)] ∧ Ext w w') := by
  have kz : Kn w none_ [] (RdR ndK az nz Hz z) := fun w' hs => rz.ext hs.upd
  have lz : z.length = nz := rz.1
  have mz : nz ≤ 9223372036854775807 := rz.2.1
  have kws : Kn w none_ [] (RdR maK aws nws Hws ws) := fun w' hs => rws.ext hs.upd
  have lws : ws.length = nws := rws.1
  have mws : nws ≤ 9223372036854775807 := rws.2.1
  have kvs : Kn w none_ [] (RdR maK avs nvs Hvs vs) := fun w' hs => rvs.ext hs.upd
  have lvs : vs.length = nvs := rvs.1
  have mvs : nvs ≤ 9223372036854775807 := rvs.2.1
  refine fn (M := none_) (rs := [.tmp 2, .tmp 3]) Try.func51 rfl Try.ntmps51 rfl rfl (Sep.start _ _) ?_
  refine hSeq ?_
  refine hReg (sl 0 (sq 1 (sq 2 sz))) (by kernel_rfl) ?_
  refine box trv1 rfl rfl rfl rfl (fun bkb1 hbkb1 => ?_)
  refine asI rfl rfl rfl ?_
  refine asI rfl rfl rfl ?_
  refine rNil ?_
  refine qSeq rfl ?_
  refine hSeq ?_
  refine hSeq ?_
  refine hReg (sl 0 (sl 1 (sq 2 sz))) (by kernel_rfl) ?_
  refine ldAl Try.isAgg57 Try.sizeOf57 (cBs 0 rfl) trv rfl rfl rfl rfl ?_
  refine callP (v := .bool (Math.isGame z ws vs)) Try.call41 trv rfl rfl (fun w hs => spec_IsGame_c _ _ _ _ _ _ _ _ _ _ _ _ _ _ _ w (Kn.drop (k := 1) kz w hs) (Kn.drop (k := 1) kws w hs) (Kn.drop (k := 1) kvs w hs)) ?_
  refine not rfl rfl rfl ?_
  refine rNil ?_
  refine qSeq rfl ?_
  refine hIfN rfl (fun c1 => ?_) (fun c1 => ?_)
  · -- c1T
    replace c1 : (Math.isGame z ws vs) = false := c1
    refine hSeq ?_
    refine hReg (sq 0 (sq 1 sz)) (by kernel_rfl) ?_
    refine asI rfl rfl rfl ?_
    refine asI rfl rfl rfl ?_
    refine rNil ?_
    refine qSeq rfl ?_
    refine hRet ?_
    exact fun w hs => ⟨[.int .i64 0, .int .i64 1], ⟨rfl, ⟨rfl, trivial⟩⟩, ⟨by rw [show Math.unitOf z ws vs = (0, 1) from by simp [Math.unitOf, c1]]; rfl, hs.upd⟩⟩
  · -- c1F
    replace c1 : (Math.isGame z ws vs) = true := c1
    refine hSkip ?_
    refine qSeq rfl ?_
    refine hSeq ?_
    refine hReg (sl 0 (sl 1 (sq 2 (sq 3 sz)))) (by kernel_rfl) ?_
    refine ldAl Try.isAgg57 Try.sizeOf57 (cBs 0 rfl) trv rfl rfl rfl rfl ?_
    refine callP (v := .int .i64 (Math.unit z ws)) Try.call84 trv rfl rfl (fun w hs => spec_l23Unit_c _ _ _ _ _ _ _ _ _ _ _ _ _ _ _ w (Kn.drop (k := 1) kz w hs) (Kn.drop (k := 1) kws w hs) (Kn.drop (k := 1) kvs w hs) (by assumption)) ?_
    refine asI rfl rfl rfl ?_
    refine asI rfl rfl rfl ?_
    refine rNil ?_
    refine qSeq rfl ?_
    refine hRet ?_
    exact fun w hs => ⟨[.int .i64 (Math.unit z ws), .int .i64 0], ⟨rfl, ⟨rfl, trivial⟩⟩, ⟨by rw [show Math.unitOf z ws vs = (Math.unit z ws, 0) from by simp [Math.unitOf, c1]]; rfl, hs.upd⟩⟩

end Go.Proofs.Ytjbdddfjaognfaa
