/- Contracts of games. Their conditions stand in each. -/
import Derived.Test.YtjengglpbdgmnaaDoorZ6Mx
import Derived.Test.YtjengglpbdgmnaaDoorZ1Mx
import Derived.Test.YtjengglpbdgmnaaDoorZ2Mx
import Derived.Test.YtjengglpbdgmnaaDoorZ3Mx
import Derived.Test.YtjengglpbdgmnaaDoorZ4Mx
import Derived.Test.YtjengglpbdgmnaaDoorRows
namespace Go.Proofs.YtjengglpbdgmnaaDoor
open Go Go.RowKit V
set_option linter.unusedVariables false
set_option linter.unusedSimpArgs false
set_option maxRecDepth 100000
theorem fl29_0 : Fld Tryd.prog 29 0 0 := by
 intro w ad; simp [Instr.fieldAt, Tryd.runUnderlying29, Instr.sureAddr, fieldPlace, Tryd.sizeOf26]
theorem fl29_1 : Fld Tryd.prog 29 1 1 := by
 intro w ad; simp [Instr.fieldAt, Tryd.runUnderlying29, Instr.sureAddr, fieldPlace, Tryd.sizeOf27]
theorem fl29_2 : Fld Tryd.prog 29 2 2 := by
 intro w ad; simp [Instr.fieldAt, Tryd.runUnderlying29, Instr.sureAddr, fieldPlace, Tryd.sizeOf27]
theorem el27 : Elt Tryd.prog 27 1 := ⟨50, Tryd.runUnderlying27, Tryd.sizeOf50⟩
theorem impl_totalWeight_c (az : Option Addr) (nz : Nat) (cz : Nat) (Hz : Nat → Hd) (z : List Nd) (aws : Option Addr) (nws : Nat) (cws : Nat) (Hws : Nat → Hd) (ws : List (List Int)) (avs : Option Addr) (nvs : Nat) (cvs : Nat) (Hvs : Nat → Hd) (vs : List (List Int)) (w : World) (rz : RdR ndK az nz Hz z w) (rws : RdR maK aws nws Hws ws w) (rvs : RdR maK avs nvs Hvs vs w) (hm : Math.matB nws 0 9 ws = true) (hk : nws ≤ 6) :
  Calls Tryd.prog 68 #[.agg #[.slice az nz cz, .slice aws nws cws, .slice avs nvs cvs]] w (Ret fun v w' => v = .int .i64 (Math.total ws) ∧ Ext w w') := by
 have kz : Kn w none_ [] (RdR ndK az nz Hz z) := fun w' hs => rz.ext hs.upd
 have lz : z.length = nz := rz.1
 have mz : nz ≤ 9223372036854775807 := rz.2.1
 have kws : Kn w none_ [] (RdR maK aws nws Hws ws) := fun w' hs => rws.ext hs.upd
 have lws : ws.length = nws := rws.1
 have mws : nws ≤ 9223372036854775807 := rws.2.1
 have kvs : Kn w none_ [] (RdR maK avs nvs Hvs vs) := fun w' hs => rvs.ext hs.upd
 have lvs : vs.length = nvs := rvs.1
 have mvs : nvs ≤ 9223372036854775807 := rvs.2.1
 refine fn (M := none_) (rs := [.tmp 2]) Tryd.func68 rfl Tryd.ntmps68 rfl rfl (Sep.start _ _) ?_
 refine hSeq ?_
 refine hReg (sl 0 (sq 1 sz)) (by kernel_rfl) ?_
 refine box trv1 rfl rfl rfl rfl (fun bkb1 hbkb1 => ?_)
 refine asI rfl rfl rfl ?_
 refine rNil ?_
 refine qSeq rfl ?_
 refine hSeq ?_
 refine hReg (sq 0 sz) (by kernel_rfl) ?_
 refine asI rfl rfl rfl ?_
 refine rNil ?_
 refine qSeq rfl ?_
 refine hSeq ?_
 refine hSeq ?_
 refine hReg (sq 0 (sl 1 (sq 2 (sq 3 sz)))) (by kernel_rfl) ?_
 refine fld fl29_1 rfl rfl rfl ?_
 refine ldl Tryd.isAgg27 (cB 0 rfl rfl) trv rfl rfl rfl ?_
 refine lenS Tryd.runUnderlying27 rfl rfl rfl ?_
 refine mvI rfl rfl rfl ?_
 refine rNil ?_
 refine qSeq rfl ?_
 refine hBlk ?_
 refine hLoop (α := Nat × Int) (fun x => x.1 ≤ nws ∧ x.2 = Math.total (ws.take x.1)) (fun x => nws - x.1) (fun x => [blk bkb1 29 [.slice az nz cz, .slice aws nws cws, .slice avs nvs cvs]]) (fun x => [(3, .int .i64 x.2), (7, .slice aws nws cws), (8, .int .i64 (nws : Int)), (9, .int .i64 (x.1 : Int))]) (0, 0) ⟨Nat.zero_le _, rfl⟩ (fun _ h => h.pick [0]) ⟨rfl, rfl, rfl, rfl, trivial⟩ ?_
 rintro ⟨i, s⟩ τ1 ⟨hi, hs_⟩
 dsimp only at hi hs_
 refine hRe [(3, .int .i64 s), (7, .slice aws nws cws), (8, .int .i64 (nws : Int)), (9, .int .i64 (i : Int))] [blk bkb1 29 [.slice az nz cz, .slice aws nws cws, .slice avs nvs cvs]] rfl rfl ?_
 refine hSeq ?_
 refine hReg (sq 0 sz) (by kernel_rfl) ?_
 refine lss rfl rfl rfl rfl ?_
 refine rNil ?_
 refine qSeq rfl ?_
 refine hSeq ?_
 refine hIfD rfl (fun c1 => ?_) (fun c1 => ?_)
 ·
  replace c1 : (i : Int) < (nws : Int) := c1
  have hrow := Math.mat_row hm (show i < nws by omega)
  have hrl := Math.row_len hrow
  have hbig := Math.row_big hrow
  have htb := Math.total_bd hk hm i (by omega)
  have hrs := Math.rowsum hk hrow
  refine hSkip ?_
  refine qSeq rfl ?_
  refine hSeq ?_
  refine hBlk ?_
  refine hSeq ?_
  refine hReg (sq 0 (sl 1 (sq 2 sz))) (by kernel_rfl) ?_
  refine ixRl (zn := i) (ws.getD i []) el27 (Kn.drop (k := 1) kws) rfl rfl rfl rfl (by omega) (by omega) rfl (nth [] (by omega)) ?_
  intro be1 oe1 e1
  refine ldl Tryd.isAgg50 (Kn.fld e1 0 rfl) trv rfl rfl rfl ?_
  refine asS rfl rfl rfl ?_
  refine rNil ?_
  refine qSeq rfl ?_
  refine hReg (sq 0 (sq 1 (sl 2 (sq 3 (sq 4 sz))))) (by kernel_rfl) ?_
  refine mvI rfl rfl rfl ?_
  refine mvS rfl rfl rfl ?_
  refine callP (v := .int .i64 ((ws.getD i []).sum)) Tryd.call59 trv rfl rfl (fun w hs => impl_sumOf_c _ _ _ _ w (Kn.drop (k := 1) ((Kn.imp kws fun _ h => h.kidM (nth [] (by omega)))) w hs) (by assumption) (by omega)) ?_
  refine add rfl rfl rfl rfl (by omega) ?_
  refine asI rfl rfl rfl ?_
  refine rNil ?_
  refine qSeq rfl ?_
  refine hReg (sq 0 (sq 1 sz)) (by kernel_rfl) ?_
  refine add rfl rfl rfl rfl (by omega) ?_
  refine mvI rfl rfl rfl ?_
  refine rNil ?_
  exact qNext rfl ((i + 1, s + (ws.getD i []).sum)) (by dsimp only; omega) ⟨by dsimp only; omega, by dsimp only; rw [hs_, Math.total_step (by omega)]⟩ ⟨rfl, rfl, rfl, rfl, trivial⟩ (fun _ h => h.pick [0])
 ·
  replace c1 : ¬ ((i : Int) < (nws : Int)) := c1
  refine hExit rfl ?_
  refine qSeq rfl ?_
  refine hSeq ?_
  refine hReg (sq 0 (sq 1 sz)) (by kernel_rfl) ?_
  refine mvI rfl rfl rfl ?_
  refine asI rfl rfl rfl ?_
  refine rNil ?_
  refine qSeq rfl ?_
  refine hRet ?_
  exact fun w hs => ⟨[.int .i64 s], ⟨rfl, trivial⟩, ⟨vI (by rw [hs_, Math.total_all (by omega)]), hs.upd⟩⟩
theorem spec_l21Total_c (az : Option Addr) (nz : Nat) (cz : Nat) (Hz : Nat → Hd) (z : List Nd) (aws : Option Addr) (nws : Nat) (cws : Nat) (Hws : Nat → Hd) (ws : List (List Int)) (avs : Option Addr) (nvs : Nat) (cvs : Nat) (Hvs : Nat → Hd) (vs : List (List Int)) (w : World) (rz : RdR ndK az nz Hz z w) (rws : RdR maK aws nws Hws ws w) (rvs : RdR maK avs nvs Hvs vs w) (hm : Math.matB nws 0 9 ws = true) (hk : nws ≤ 6) :
  Calls Tryd.prog 57 #[.agg #[.slice az nz cz, .slice aws nws cws, .slice avs nvs cvs]] w (Ret fun v w' => v = .int .i64 (Math.total ws) ∧ Ext w w') := by
 have kz : Kn w none_ [] (RdR ndK az nz Hz z) := fun w' hs => rz.ext hs.upd
 have lz : z.length = nz := rz.1
 have mz : nz ≤ 9223372036854775807 := rz.2.1
 have kws : Kn w none_ [] (RdR maK aws nws Hws ws) := fun w' hs => rws.ext hs.upd
 have lws : ws.length = nws := rws.1
 have mws : nws ≤ 9223372036854775807 := rws.2.1
 have kvs : Kn w none_ [] (RdR maK avs nvs Hvs vs) := fun w' hs => rvs.ext hs.upd
 have lvs : vs.length = nvs := rvs.1
 have mvs : nvs ≤ 9223372036854775807 := rvs.2.1
 refine fn (M := none_) (rs := [.tmp 2]) Tryd.func57 rfl Tryd.ntmps57 rfl rfl (Sep.start _ _) ?_
 refine hSeq ?_
 refine hReg (sl 0 (sq 1 sz)) (by kernel_rfl) ?_
 refine box trv1 rfl rfl rfl rfl (fun bkb1 hbkb1 => ?_)
 refine asI rfl rfl rfl ?_
 refine rNil ?_
 refine qSeq rfl ?_
 refine hSeq ?_
 refine hReg (sq 0 sz) (by kernel_rfl) ?_
 refine asI rfl rfl rfl ?_
 refine rNil ?_
 refine qSeq rfl ?_
 refine hSeq ?_
 refine hSeq ?_
 refine hReg (sq 0 sz) (by kernel_rfl) ?_
 refine asI rfl rfl rfl ?_
 refine rNil ?_
 refine qSeq rfl ?_
 refine hBlk ?_
 refine hLoop (α := Nat × Int) (fun x => x.1 ≤ nws ∧ x.2 = Math.total (ws.take x.1)) (fun x => nws - x.1) (fun x => [blk bkb1 29 [.slice az nz cz, .slice aws nws cws, .slice avs nvs cvs]]) (fun x => [(1, .pointer (some ⟨bkb1, 0, none⟩)), (3, .int .i64 x.2), (4, .int .i64 (x.1 : Int))]) (0, 0) ⟨Nat.zero_le _, rfl⟩ (fun _ h => h.pick [0]) ⟨rfl, rfl, rfl, trivial⟩ ?_
 rintro ⟨i, s⟩ τ1 ⟨hi, hs_⟩
 dsimp only at hi hs_
 refine hRe [(1, .pointer (some ⟨bkb1, 0, none⟩)), (3, .int .i64 s), (4, .int .i64 (i : Int))] [blk bkb1 29 [.slice az nz cz, .slice aws nws cws, .slice avs nvs cvs]] rfl rfl ?_
 refine hSeq ?_
 refine hSeq ?_
 refine hReg (sq 0 (sq 1 (sl 2 (sq 3 (sq 4 sz))))) (by kernel_rfl) ?_
 refine mvI rfl rfl rfl ?_
 refine fld fl29_1 rfl rfl rfl ?_
 refine ldl Tryd.isAgg27 (cB 0 rfl rfl) trv rfl rfl rfl ?_
 refine lenS Tryd.runUnderlying27 rfl rfl rfl ?_
 refine lss rfl rfl rfl rfl ?_
 refine rNil ?_
 refine qSeq rfl ?_
 refine hIfD rfl (fun c1 => ?_) (fun c1 => ?_)
 ·
  replace c1 : (i : Int) < (nws : Int) := c1
  have hrow := Math.mat_row hm (show i < nws by omega)
  have hrl := Math.row_len hrow
  have hbig := Math.row_big hrow
  have htb := Math.total_bd hk hm i (by omega)
  have hrs := Math.rowsum hk hrow
  refine hSkip ?_
  refine qSeq rfl ?_
  refine hSeq ?_
  refine hBlk ?_
  refine hReg (sq 0 (sq 1 (sl 2 (sq 3 (sq 4 (sl 5 (sl 6 (sq 7 (sq 8 sz))))))))) (by kernel_rfl) ?_
  refine mvI rfl rfl rfl ?_
  refine fld fl29_1 rfl rfl rfl ?_
  refine ldl Tryd.isAgg27 (cB 0 rfl rfl) trv rfl rfl rfl ?_
  refine mvI rfl rfl rfl ?_
  refine ixRl (zn := i) (ws.getD i []) el27 (Kn.drop (k := 1) kws) rfl rfl rfl rfl (by omega) (by omega) rfl (nth [] (by omega)) ?_
  intro be1 oe1 e1
  refine ldl Tryd.isAgg50 (Kn.fld e1 0 rfl) trv rfl rfl rfl ?_
  refine callP (v := .int .i64 ((ws.getD i []).sum)) Tryd.call62 trv rfl rfl (fun w hs => spec_l01Sum_c _ _ _ _ w (Kn.drop (k := 1) ((Kn.imp kws fun _ h => h.kidM (nth [] (by omega)))) w hs) (by assumption) (by omega)) ?_
  refine add rfl rfl rfl rfl (by omega) ?_
  refine asI rfl rfl rfl ?_
  refine rNil ?_
  refine qSeq rfl ?_
  refine hReg (sq 0 (sq 1 (sq 2 sz))) (by kernel_rfl) ?_
  refine mvI rfl rfl rfl ?_
  refine add rfl rfl rfl rfl (by omega) ?_
  refine asI rfl rfl rfl ?_
  refine rNil ?_
  exact qNext rfl ((i + 1, s + (ws.getD i []).sum)) (by dsimp only; omega) ⟨by dsimp only; omega, by dsimp only; rw [hs_, Math.total_step (by omega)]⟩ ⟨rfl, rfl, rfl, trivial⟩ (fun _ h => h.pick [0])
 ·
  replace c1 : ¬ ((i : Int) < (nws : Int)) := c1
  refine hExit rfl ?_
  refine qSeq rfl ?_
  refine hSeq ?_
  refine hReg (sq 0 (sq 1 sz)) (by kernel_rfl) ?_
  refine mvI rfl rfl rfl ?_
  refine asI rfl rfl rfl ?_
  refine rNil ?_
  refine qSeq rfl ?_
  refine hRet ?_
  exact fun w hs => ⟨[.int .i64 s], ⟨rfl, trivial⟩, ⟨vI (by rw [hs_, Math.total_all (by omega)]), hs.upd⟩⟩
theorem spec_l21Matrix_c (aws : Option Addr) (nws : Nat) (cws : Nat) (Hws : Nat → Hd) (ws : List (List Int)) (kk : Int) (lo : Int) (up : Int) (w : World) (rws : RdR maK aws nws Hws ws w) (hkk : 0 ≤ kk ∧ kk ≤ 1000) :
  Calls Tryd.prog 56 #[.slice aws nws cws, .int .i64 kk, .int .i64 lo, .int .i64 up] w (Ret fun v w' => v = .bool (Math.matB kk.toNat lo up ws) ∧ Ext w w') := by
 have kws : Kn w none_ [] (RdR maK aws nws Hws ws) := fun w' hs => rws.ext hs.upd
 have lws : ws.length = nws := rws.1
 have mws : nws ≤ 9223372036854775807 := rws.2.1
 refine fn (M := none_) (rs := [.tmp 8]) Tryd.func56 rfl Tryd.ntmps56 rfl rfl (Sep.start _ _) ?_
 refine hSeq ?_
 refine hReg (sq 0 sz) (by kernel_rfl) ?_
 refine asB rfl rfl rfl ?_
 refine rNil ?_
 refine qSeq rfl ?_
 refine hSeq ?_
 refine hSeq ?_
 refine hReg (sq 0 sz) (by kernel_rfl) ?_
 refine asI rfl rfl rfl ?_
 refine rNil ?_
 refine qSeq rfl ?_
 refine hBlk ?_
 refine hLoop (α := Nat) (fun i => i ≤ nws ∧ ∀ j, j < i → Math.rowB kk.toNat lo up (ws.getD j []) = true) (fun i => nws - i) (fun i => []) (fun i => [(0, .slice aws nws cws), (1, .int .i64 kk), (2, .int .i64 lo), (3, .int .i64 up), (9, .int .i64 (i : Int))]) 0 ⟨Nat.zero_le _, fun j hj => by omega⟩ (fun _ h => h.pick []) ⟨rfl, rfl, rfl, rfl, rfl, trivial⟩ ?_
 rintro i τ1 ⟨hi, hal⟩
 refine hSeq ?_
 refine hSeq ?_
 refine hReg (sq 0 (sq 1 (sq 2 (sq 3 sz)))) (by kernel_rfl) ?_
 refine mvI rfl rfl rfl ?_
 refine mvS rfl rfl rfl ?_
 refine lenS Tryd.runUnderlying27 rfl rfl rfl ?_
 refine lss rfl rfl rfl rfl ?_
 refine rNil ?_
 refine qSeq rfl ?_
 refine hIfD rfl (fun c1 => ?_) (fun c1 => ?_)
 ·
  replace c1 : (i : Int) < (nws : Int) := c1
  refine hSkip ?_
  refine qSeq rfl ?_
  refine hSeq ?_
  refine hBlk ?_
  refine hSeq ?_
  refine hSeq ?_
  refine hReg (sq 0 (sq 1 (sq 2 (sl 3 (sq 4 (sq 5 (sq 6 sz))))))) (by kernel_rfl) ?_
  refine mvS rfl rfl rfl ?_
  refine mvI rfl rfl rfl ?_
  refine ixRl (zn := i) (ws.getD i []) el27 (kws) rfl rfl rfl rfl (by omega) (by omega) rfl (nth [] (by omega)) ?_
  intro be1 oe1 e1
  refine ldl Tryd.isAgg50 (Kn.fld e1 0 rfl) trv rfl rfl rfl ?_
  refine lenS Tryd.runUnderlying50 rfl rfl rfl ?_
  refine mvI rfl rfl rfl ?_
  refine neq rfl rfl rfl rfl ?_
  refine rNil ?_
  refine qSeq rfl ?_
  refine hIfD rfl (fun c2 => ?_) (fun c2 => ?_)
  ·
   replace c2 : (((ws.getD i []).length : Nat) : Int) ≠ kk := c2
   refine hSeq ?_
   refine hReg (sq 0 sz) (by kernel_rfl) ?_
   refine asB rfl rfl rfl ?_
   refine rNil ?_
   refine qSeq rfl ?_
   refine hRet ?_
   exact fun w hs => ⟨[.bool false], ⟨rfl, trivial⟩, ⟨bB (Math.mat_no (i := i) (by omega) (Math.row_no1 (by omega))).symm, hs.upd⟩⟩
  ·
   replace c2 : ¬ ((((ws.getD i []).length : Nat) : Int) ≠ kk) := c2
   refine hSkip ?_
   refine qSeq rfl ?_
   refine hSeq ?_
   refine hReg (sq 0 sz) (by kernel_rfl) ?_
   refine asI rfl rfl rfl ?_
   refine rNil ?_
   refine qSeq rfl ?_
   refine hBlk ?_
   refine hLoop (α := Nat) (fun j => j ≤ kk.toNat ∧ ∀ q, q < j → Math.inB lo up ((ws.getD i []).getD q 0) = true) (fun j => kk.toNat - j) (fun j => []) (fun j => [(0, .slice aws nws cws), (1, .int .i64 kk), (2, .int .i64 lo), (3, .int .i64 up), (9, .int .i64 (i : Int)), (10, .int .i64 (j : Int))]) 0 ⟨Nat.zero_le _, fun q hq => by omega⟩ (fun _ h => h.pick []) ⟨rfl, rfl, rfl, rfl, rfl, rfl, trivial⟩ ?_
   rintro j τ2 ⟨hj, hin⟩
   refine hSeq ?_
   refine hSeq ?_
   refine hReg (sq 0 (sq 1 (sq 2 sz))) (by kernel_rfl) ?_
   refine mvI rfl rfl rfl ?_
   refine mvI rfl rfl rfl ?_
   refine lss rfl rfl rfl rfl ?_
   refine rNil ?_
   refine qSeq rfl ?_
   refine hIfD rfl (fun c3 => ?_) (fun c3 => ?_)
   ·
    replace c3 : (j : Int) < kk := c3
    refine hSkip ?_
    refine qSeq rfl ?_
    refine hSeq ?_
    refine hBlk ?_
    refine hSeq ?_
    refine hReg (sq 0 (sq 1 (sq 2 (sl 3 (sq 4 (sq 5 (sl 6 (sq 7 (sq 8 (sl 9 (sq 10 sz))))))))))) (by kernel_rfl) ?_
    refine mvS rfl rfl rfl ?_
    refine mvI rfl rfl rfl ?_
    refine ixRl (zn := i) (ws.getD i []) el27 (kws) rfl rfl rfl rfl (by omega) (by omega) rfl (nth [] (by omega)) ?_
    intro be2 oe2 e2
    refine ldl Tryd.isAgg50 (Kn.fld e2 0 rfl) trv rfl rfl rfl ?_
    refine mvI rfl rfl rfl ?_
    refine ixIl (zn := j) el50 ((Kn.imp kws fun _ h => h.kidM (nth [] (by omega)))) rfl rfl rfl rfl (by omega) (by omega) rfl ?_
    intro ae3 e3
    refine ldl Tryd.isAgg2 (e3) trv rfl rfl rfl ?_
    refine mvI rfl rfl rfl ?_
    refine mvI rfl rfl rfl ?_
    refine callP (v := .bool ((Math.inB lo up (((ws.getD i []).getD j 0))))) Tryd.call32 trv rfl rfl (fun w hs => spec_l01In_c _ _ _ w ) ?_
    refine not rfl rfl rfl ?_
    refine rNil ?_
    refine qSeq rfl ?_
    refine hIfN rfl (fun c4 => ?_) (fun c4 => ?_)
    ·
     replace c4 : (Math.inB lo up (((ws.getD i []).getD j 0))) = false := c4
     refine hSeq ?_
     refine hReg (sq 0 sz) (by kernel_rfl) ?_
     refine asB rfl rfl rfl ?_
     refine rNil ?_
     refine qSeq rfl ?_
     refine hRet ?_
     exact fun w hs => ⟨[.bool false], ⟨rfl, trivial⟩, ⟨bB (Math.mat_no (i := i) (by omega) (Math.row_no2 (Math.all_no 0 (i := j) (by omega) c4))).symm, hs.upd⟩⟩
    ·
     replace c4 : (Math.inB lo up (((ws.getD i []).getD j 0))) = true := c4
     refine hSkip ?_
     refine qSeq rfl ?_
     refine hReg (sq 0 (sq 1 (sq 2 sz))) (by kernel_rfl) ?_
     refine mvI rfl rfl rfl ?_
     refine add rfl rfl rfl rfl (by omega) ?_
     refine asI rfl rfl rfl ?_
     refine rNil ?_
     exact qNext rfl (j + 1) (by omega) ⟨by omega, Math.upto hin c4⟩ ⟨rfl, rfl, rfl, rfl, rfl, rfl, trivial⟩ (fun _ h => h.pick [])
   ·
    replace c3 : ¬ ((j : Int) < kk) := c3
    refine hExit rfl ?_
    refine qSeq rfl ?_
    refine hReg (sq 0 (sq 1 (sq 2 sz))) (by kernel_rfl) ?_
    refine mvI rfl rfl rfl ?_
    refine add rfl rfl rfl rfl (by omega) ?_
    refine asI rfl rfl rfl ?_
    refine rNil ?_
    exact qNext rfl (i + 1) (by omega) ⟨by omega, Math.upto hal (Math.row_yes (by omega) ((Math.all_getD 0).2 fun q hq => hin q (by omega)))⟩ ⟨rfl, rfl, rfl, rfl, rfl, trivial⟩ (fun _ h => h.pick [])
 ·
  replace c1 : ¬ ((i : Int) < (nws : Int)) := c1
  refine hExit rfl ?_
  refine qSeq rfl ?_
  refine hSeq ?_
  refine hReg (sq 0 (sq 1 (sq 2 (sq 3 (sq 4 sz))))) (by kernel_rfl) ?_
  refine mvS rfl rfl rfl ?_
  refine lenS Tryd.runUnderlying27 rfl rfl rfl ?_
  refine mvI rfl rfl rfl ?_
  refine eql rfl rfl rfl rfl ?_
  refine asB rfl rfl rfl ?_
  refine rNil ?_
  refine qSeq rfl ?_
  refine hRet ?_
  exact fun w hs => ⟨[.bool (decide ((nws : Int) = kk))], ⟨rfl, trivial⟩, ⟨bB ((decide_eq_decide.2 (by omega)).trans (Math.mat_if fun j hj => hal j (by omega)).symm), hs.upd⟩⟩
theorem spec_IsGame_c (az : Option Addr) (nz : Nat) (cz : Nat) (Hz : Nat → Hd) (z : List Nd) (aws : Option Addr) (nws : Nat) (cws : Nat) (Hws : Nat → Hd) (ws : List (List Int)) (avs : Option Addr) (nvs : Nat) (cvs : Nat) (Hvs : Nat → Hd) (vs : List (List Int)) (w : World) (rz : RdR ndK az nz Hz z w) (rws : RdR maK aws nws Hws ws w) (rvs : RdR maK avs nvs Hvs vs w) :
  Calls Tryd.prog 26 #[.agg #[.slice az nz cz, .slice aws nws cws, .slice avs nvs cvs]] w (Ret fun v w' => v = .bool (Math.isGame z ws vs) ∧ Ext w w') := by
 have kz : Kn w none_ [] (RdR ndK az nz Hz z) := fun w' hs => rz.ext hs.upd
 have lz : z.length = nz := rz.1
 have mz : nz ≤ 9223372036854775807 := rz.2.1
 have kws : Kn w none_ [] (RdR maK aws nws Hws ws) := fun w' hs => rws.ext hs.upd
 have lws : ws.length = nws := rws.1
 have mws : nws ≤ 9223372036854775807 := rws.2.1
 have kvs : Kn w none_ [] (RdR maK avs nvs Hvs vs) := fun w' hs => rvs.ext hs.upd
 have lvs : vs.length = nvs := rvs.1
 have mvs : nvs ≤ 9223372036854775807 := rvs.2.1
 refine fn (M := none_) (rs := [.tmp 2]) Tryd.func26 rfl Tryd.ntmps26 rfl rfl (Sep.start _ _) ?_
 refine hSeq ?_
 refine hReg (sl 0 (sq 1 sz)) (by kernel_rfl) ?_
 refine box trv1 rfl rfl rfl rfl (fun bkb1 hbkb1 => ?_)
 refine asB rfl rfl rfl ?_
 refine rNil ?_
 refine qSeq rfl ?_
 refine hSeq ?_
 refine hReg (sq 0 (sl 1 (sq 2 (sq 3 sz)))) (by kernel_rfl) ?_
 refine fld fl29_1 rfl rfl rfl ?_
 refine ldl Tryd.isAgg27 (cB 0 rfl rfl) trv rfl rfl rfl ?_
 refine lenS Tryd.runUnderlying27 rfl rfl rfl ?_
 refine asI rfl rfl rfl ?_
 refine rNil ?_
 refine qSeq rfl ?_
 refine hSeq ?_
 refine hReg (sq 0 (sl 1 (sl 2 (sq 3 (sq 4 (sl 5 (sq 6 (sq 7 (sq 8 (sl 9 (sq 10 (sl 11 (sq 12 (sq 13 (sq 14 (sl 15 (sq 16 (sl 17 (sq 18 (sq 19 (sl 20 (sl 21 (sq 22 (sq 23 (sq 24 sz))))))))))))))))))))))))) (by kernel_rfl) ?_
 refine fld fl29_0 rfl rfl rfl ?_
 refine ldAl Tryd.isAgg26 Tryd.sizeOf26 (cBp (m := 1) 0 rfl rfl) trv rfl rfl rfl rfl ?_
 refine callP (v := .bool (Math.isTree z)) Tryd.call49 trv rfl rfl (fun w hs => spec_IsTree_c _ _ _ _ _ w (Kn.drop (k := 1) kz w hs)) ?_
 refine mvB rfl rfl rfl ?_
 refine rBool (d := 10) rfl (fun g1 => ?_) (fun g1 => ?_)
 ·
  replace g1 : (Math.isTree z) = true := g1
  refine mvI rfl rfl rfl ?_
  refine callP (v := .bool ((Math.inB (1 : Int) (6 : Int) (nws : Int)))) Tryd.call32 trv rfl rfl (fun w hs => spec_l01In_c _ _ _ w ) ?_
  refine pickB rfl rfl rfl rfl ?_
  refine mvB rfl rfl rfl ?_
  refine rBool (d := 14) rfl (fun g2 => ?_) (fun g2 => ?_)
  ·
   replace g2 : (Math.inB (1 : Int) (6 : Int) (nws : Int)) = true := g2
   have hk := of_decide_eq_true (show decide (1 ≤ (nws : Int) ∧ (nws : Int) ≤ 6) = true from g2)
   refine fld fl29_1 rfl rfl rfl ?_
   refine ldl Tryd.isAgg27 (cB 0 rfl rfl) trv rfl rfl rfl ?_
   refine mvI rfl rfl rfl ?_
   refine callP (v := .bool ((Math.matB nws (0 : Int) (9 : Int) ws))) Tryd.call56 trv rfl rfl (fun w hs => spec_l21Matrix_c _ _ _ _ _ _ _ _ w (Kn.drop (k := 1) kws w hs) (by omega)) ?_
   refine pickB rfl rfl rfl rfl ?_
   refine mvB rfl rfl rfl ?_
   refine rBool (d := 20) rfl (fun g3 => ?_) (fun g3 => ?_)
   ·
    replace g3 : (Math.matB nws (0 : Int) (9 : Int) ws) = true := g3
    replace g3 : Math.matB nws 0 9 ws = true := g3
    refine fld fl29_2 rfl rfl rfl ?_
    refine ldl Tryd.isAgg27 (cB 0 rfl rfl) trv rfl rfl rfl ?_
    refine mvI rfl rfl rfl ?_
    refine callP (v := .bool ((Math.matB nws (-1) (1 : Int) vs))) Tryd.call56 trv rfl rfl (fun w hs => spec_l21Matrix_c _ _ _ _ _ _ _ _ w (Kn.drop (k := 1) kvs w hs) (by omega)) ?_
    refine pickB rfl rfl rfl rfl ?_
    refine mvB rfl rfl rfl ?_
    refine rBool (d := 26) rfl (fun g4 => ?_) (fun g4 => ?_)
    ·
     replace g4 : (Math.matB nws (-1) (1 : Int) vs) = true := g4
     replace g4 : Math.matB nws (-1) 1 vs = true := g4
     refine ldAl Tryd.isAgg29 Tryd.sizeOf29 (cBs 0 rfl) trv rfl rfl rfl rfl ?_
     refine callP (v := .int .i64 (Math.total ws)) Tryd.call57 trv rfl rfl (fun w hs => spec_l21Total_c _ _ _ _ _ _ _ _ _ _ _ _ _ _ _ w (Kn.drop (k := 1) kz w hs) (Kn.drop (k := 1) kws w hs) (Kn.drop (k := 1) kvs w hs) (by assumption) (by omega)) ?_
     refine gtr rfl rfl rfl rfl ?_
     refine pickB rfl rfl rfl rfl ?_
     refine asB rfl rfl rfl ?_
     refine rNil ?_
     refine qSeq rfl ?_
     refine hRet ?_
     exact fun w hs => ⟨[.bool (decide (0 < (Math.total ws)))], ⟨rfl, trivial⟩, ⟨bB (by unfold Math.isGame; rw [lws]; simp only [g1, g2, g3, g4, Bool.false_and, Bool.and_false, Bool.true_and, Bool.and_true]), hs.upd⟩⟩
    ·
     replace g4 : (Math.matB nws (-1) (1 : Int) vs) = false := g4
     replace g4 : Math.matB nws (-1) 1 vs = false := g4
     refine rSkipL trv rfl rfl ?_
     refine rSkipL trv rfl rfl ?_
     refine rSkipQ rfl rfl ?_
     refine pickB rfl rfl rfl rfl ?_
     refine asB rfl rfl rfl ?_
     refine rNil ?_
     refine qSeq rfl ?_
     refine hRet ?_
     exact fun w hs => ⟨[.bool false], ⟨rfl, trivial⟩, ⟨bB (by unfold Math.isGame; rw [lws]; simp only [g1, g2, g3, g4, Bool.false_and, Bool.and_false, Bool.true_and, Bool.and_true]), hs.upd⟩⟩
   ·
    replace g3 : (Math.matB nws (0 : Int) (9 : Int) ws) = false := g3
    replace g3 : Math.matB nws 0 9 ws = false := g3
    refine rSkipQ rfl rfl ?_
    refine rSkipL trv rfl rfl ?_
    refine rSkipQ rfl rfl ?_
    refine rSkipL trv rfl rfl ?_
    refine pickB rfl rfl rfl rfl ?_
    refine mvB rfl rfl rfl ?_
    refine rSkipL trv rfl rfl ?_
    refine rSkipL trv rfl rfl ?_
    refine rSkipQ rfl rfl ?_
    refine pickB rfl rfl rfl rfl ?_
    refine asB rfl rfl rfl ?_
    refine rNil ?_
    refine qSeq rfl ?_
    refine hRet ?_
    exact fun w hs => ⟨[.bool false], ⟨rfl, trivial⟩, ⟨bB (by unfold Math.isGame; rw [lws]; simp only [g1, g2, g3, Bool.false_and, Bool.and_false, Bool.true_and, Bool.and_true]), hs.upd⟩⟩
  ·
   replace g2 : (Math.inB (1 : Int) (6 : Int) (nws : Int)) = false := g2
   refine rSkipQ rfl rfl ?_
   refine rSkipL trv rfl rfl ?_
   refine rSkipQ rfl rfl ?_
   refine rSkipL trv rfl rfl ?_
   refine pickB rfl rfl rfl rfl ?_
   refine mvB rfl rfl rfl ?_
   refine rSkipQ rfl rfl ?_
   refine rSkipL trv rfl rfl ?_
   refine rSkipQ rfl rfl ?_
   refine rSkipL trv rfl rfl ?_
   refine pickB rfl rfl rfl rfl ?_
   refine mvB rfl rfl rfl ?_
   refine rSkipL trv rfl rfl ?_
   refine rSkipL trv rfl rfl ?_
   refine rSkipQ rfl rfl ?_
   refine pickB rfl rfl rfl rfl ?_
   refine asB rfl rfl rfl ?_
   refine rNil ?_
   refine qSeq rfl ?_
   refine hRet ?_
   exact fun w hs => ⟨[.bool false], ⟨rfl, trivial⟩, ⟨bB (by unfold Math.isGame; rw [lws]; simp only [g1, g2, Bool.false_and, Bool.and_false, Bool.true_and, Bool.and_true]), hs.upd⟩⟩
 ·
  replace g1 : (Math.isTree z) = false := g1
  refine rSkipQ rfl rfl ?_
  refine rSkipL trv rfl rfl ?_
  refine pickB rfl rfl rfl rfl ?_
  refine mvB rfl rfl rfl ?_
  refine rSkipQ rfl rfl ?_
  refine rSkipL trv rfl rfl ?_
  refine rSkipQ rfl rfl ?_
  refine rSkipL trv rfl rfl ?_
  refine pickB rfl rfl rfl rfl ?_
  refine mvB rfl rfl rfl ?_
  refine rSkipQ rfl rfl ?_
  refine rSkipL trv rfl rfl ?_
  refine rSkipQ rfl rfl ?_
  refine rSkipL trv rfl rfl ?_
  refine pickB rfl rfl rfl rfl ?_
  refine mvB rfl rfl rfl ?_
  refine rSkipL trv rfl rfl ?_
  refine rSkipL trv rfl rfl ?_
  refine rSkipQ rfl rfl ?_
  refine pickB rfl rfl rfl rfl ?_
  refine asB rfl rfl rfl ?_
  refine rNil ?_
  refine qSeq rfl ?_
  refine hRet ?_
  exact fun w hs => ⟨[.bool false], ⟨rfl, trivial⟩, ⟨bB (by unfold Math.isGame; rw [lws]; simp only [g1, Bool.false_and, Bool.and_false, Bool.true_and, Bool.and_true]), hs.upd⟩⟩
theorem impl_IsGame_c (az : Option Addr) (nz : Nat) (cz : Nat) (Hz : Nat → Hd) (z : List Nd) (aws : Option Addr) (nws : Nat) (cws : Nat) (Hws : Nat → Hd) (ws : List (List Int)) (avs : Option Addr) (nvs : Nat) (cvs : Nat) (Hvs : Nat → Hd) (vs : List (List Int)) (w : World) (rz : RdR ndK az nz Hz z w) (rws : RdR maK aws nws Hws ws w) (rvs : RdR maK avs nvs Hvs vs w) :
  Calls Tryd.prog 43 #[.agg #[.slice az nz cz, .slice aws nws cws, .slice avs nvs cvs]] w (Ret fun v w' => v = .bool (Math.isGame z ws vs) ∧ Ext w w') := by
 have kz : Kn w none_ [] (RdR ndK az nz Hz z) := fun w' hs => rz.ext hs.upd
 have lz : z.length = nz := rz.1
 have mz : nz ≤ 9223372036854775807 := rz.2.1
 have kws : Kn w none_ [] (RdR maK aws nws Hws ws) := fun w' hs => rws.ext hs.upd
 have lws : ws.length = nws := rws.1
 have mws : nws ≤ 9223372036854775807 := rws.2.1
 have kvs : Kn w none_ [] (RdR maK avs nvs Hvs vs) := fun w' hs => rvs.ext hs.upd
 have lvs : vs.length = nvs := rvs.1
 have mvs : nvs ≤ 9223372036854775807 := rvs.2.1
 refine fn (M := none_) (rs := [.tmp 2]) Tryd.func43 rfl Tryd.ntmps43 rfl rfl (Sep.start _ _) ?_
 refine hSeq ?_
 refine hReg (sl 0 (sq 1 sz)) (by kernel_rfl) ?_
 refine box trv1 rfl rfl rfl rfl (fun bkb1 hbkb1 => ?_)
 refine asB rfl rfl rfl ?_
 refine rNil ?_
 refine qSeq rfl ?_
 refine hSeq ?_
 refine hReg (sq 0 (sl 1 (sq 2 (sq 3 sz)))) (by kernel_rfl) ?_
 refine fld fl29_1 rfl rfl rfl ?_
 refine ldl Tryd.isAgg27 (cB 0 rfl rfl) trv rfl rfl rfl ?_
 refine lenS Tryd.runUnderlying27 rfl rfl rfl ?_
 refine asI rfl rfl rfl ?_
 refine rNil ?_
 refine qSeq rfl ?_
 refine hSeq ?_
 refine hSeq ?_
 refine hReg (sq 0 (sl 1 (sl 2 (sq 3 (sq 4 (sq 5 (sl 6 (sq 7 (sq 8 (sq 9 (sq 10 (sl 11 (sq 12 (sq 13 (sq 14 (sq 15 sz)))))))))))))))) (by kernel_rfl) ?_
 refine fld fl29_0 rfl rfl rfl ?_
 refine ldAl Tryd.isAgg26 Tryd.sizeOf26 (cBp (m := 1) 0 rfl rfl) trv rfl rfl rfl rfl ?_
 refine callP (v := .bool (Math.isTree z)) Tryd.call21 trv rfl rfl (fun w hs => impl_IsTree_c _ _ _ _ _ w (Kn.drop (k := 1) kz w hs)) ?_
 refine not rfl rfl rfl ?_
 refine mvB rfl rfl rfl ?_
 refine rBoolN (d := 12) rfl (fun g1 => ?_) (fun g1 => ?_)
 ·
  replace g1 : (Math.isTree z) = false := g1
  refine rSkipQ rfl rfl ?_
  refine rSkipL trv rfl rfl ?_
  refine rSkipQ rfl rfl ?_
  refine pickB rfl rfl rfl rfl ?_
  refine mvB rfl rfl rfl ?_
  refine rSkipQ rfl rfl ?_
  refine rSkipL trv rfl rfl ?_
  refine rSkipQ rfl rfl ?_
  refine rSkipQ rfl rfl ?_
  refine rSkipQ rfl rfl ?_
  refine pickB rfl rfl rfl rfl ?_
  refine rNil ?_
  refine qSeq rfl ?_
  refine hIfT rfl ?_
  refine hSeq ?_
  refine hReg (sq 0 sz) (by kernel_rfl) ?_
  refine asB rfl rfl rfl ?_
  refine rNil ?_
  refine qSeq rfl ?_
  refine hRet ?_
  exact fun w hs => ⟨[.bool false], ⟨rfl, trivial⟩, ⟨bB (by unfold Math.isGame; rw [lws]; simp only [g1, Bool.false_and, Bool.and_false, Bool.true_and, Bool.and_true]), hs.upd⟩⟩
 ·
  replace g1 : (Math.isTree z) = true := g1
  refine mvI rfl rfl rfl ?_
  refine callP (v := .bool ((Math.inB (1 : Int) (6 : Int) (nws : Int)))) Tryd.call29 trv rfl rfl (fun w hs => impl_within_c _ _ _ w ) ?_
  refine not rfl rfl rfl ?_
  refine pickB rfl rfl rfl rfl ?_
  refine mvB rfl rfl rfl ?_
  refine rBoolN (d := 17) rfl (fun g2 => ?_) (fun g2 => ?_)
  ·
   replace g2 : (Math.inB (1 : Int) (6 : Int) (nws : Int)) = false := g2
   refine rSkipQ rfl rfl ?_
   refine rSkipL trv rfl rfl ?_
   refine rSkipQ rfl rfl ?_
   refine rSkipQ rfl rfl ?_
   refine rSkipQ rfl rfl ?_
   refine pickB rfl rfl rfl rfl ?_
   refine rNil ?_
   refine qSeq rfl ?_
   refine hIfT rfl ?_
   refine hSeq ?_
   refine hReg (sq 0 sz) (by kernel_rfl) ?_
   refine asB rfl rfl rfl ?_
   refine rNil ?_
   refine qSeq rfl ?_
   refine hRet ?_
   exact fun w hs => ⟨[.bool false], ⟨rfl, trivial⟩, ⟨bB (by unfold Math.isGame; rw [lws]; simp only [g1, g2, Bool.false_and, Bool.and_false, Bool.true_and, Bool.and_true]), hs.upd⟩⟩
  ·
   replace g2 : (Math.inB (1 : Int) (6 : Int) (nws : Int)) = true := g2
   have hk := of_decide_eq_true (show decide (1 ≤ (nws : Int) ∧ (nws : Int) ≤ 6) = true from g2)
   refine fld fl29_2 rfl rfl rfl ?_
   refine ldl Tryd.isAgg27 (cB 0 rfl rfl) trv rfl rfl rfl ?_
   refine lenS Tryd.runUnderlying27 rfl rfl rfl ?_
   refine mvI rfl rfl rfl ?_
   refine neq rfl rfl rfl rfl ?_
   refine pickB rfl rfl rfl rfl ?_
   refine rNil ?_
   refine qSeq rfl ?_
   refine hIfD rfl (fun c3 => ?_) (fun c3 => ?_)
   ·
    replace c3 : (nvs : Int) ≠ (nws : Int) := c3
    refine hSeq ?_
    refine hReg (sq 0 sz) (by kernel_rfl) ?_
    refine asB rfl rfl rfl ?_
    refine rNil ?_
    refine qSeq rfl ?_
    refine hRet ?_
    exact fun w hs => ⟨[.bool false], ⟨rfl, trivial⟩, ⟨bB (by unfold Math.isGame; rw [lws, Math.mat_no0 (m := vs) (by omega)]; simp), hs.upd⟩⟩
   ·
    replace c3 : ¬ ((nvs : Int) ≠ (nws : Int)) := c3
    refine hSkip ?_
    refine qSeq rfl ?_
    refine hSeq ?_
    refine hSeq ?_
    refine hReg (sq 0 (sq 1 sz)) (by kernel_rfl) ?_
    refine mvI rfl rfl rfl ?_
    refine mvI rfl rfl rfl ?_
    refine rNil ?_
    refine qSeq rfl ?_
    refine hBlk ?_
    refine hLoop (α := Nat) (fun i => i ≤ nws ∧ ∀ j, j < i → Math.rowB nws 0 9 (ws.getD j []) = true ∧ Math.rowB nws (-1) 1 (vs.getD j []) = true) (fun i => nws - i) (fun i => [blk bkb1 29 [.slice az nz cz, .slice aws nws cws, .slice avs nvs cvs]]) (fun i => [(1, .pointer (some ⟨bkb1, 0, none⟩)), (3, .int .i64 (nws : Int)), (24, .int .i64 (nws : Int)), (25, .int .i64 (i : Int))]) 0 ⟨Nat.zero_le _, fun j hj => by omega⟩ (fun _ h => h.pick [0]) ⟨rfl, rfl, rfl, rfl, trivial⟩ ?_
    rintro i τ1 ⟨hi, hal⟩
    refine hSeq ?_
    refine hReg (sq 0 sz) (by kernel_rfl) ?_
    refine lss rfl rfl rfl rfl ?_
    refine rNil ?_
    refine qSeq rfl ?_
    refine hSeq ?_
    refine hIfD rfl (fun c4 => ?_) (fun c4 => ?_)
    ·
     replace c4 : (i : Int) < (nws : Int) := c4
     refine hSkip ?_
     refine qSeq rfl ?_
     refine hSeq ?_
     refine hBlk ?_
     refine hSeq ?_
     refine hReg (sq 0 (sq 1 sz)) (by kernel_rfl) ?_
     refine mvI rfl rfl rfl ?_
     refine asI rfl rfl rfl ?_
     refine rNil ?_
     refine qSeq rfl ?_
     refine hSeq ?_
     refine hReg (sq 0 (sl 1 (sq 2 (sq 3 (sl 4 (sq 5 (sq 6 (sq 7 (sq 8 (sq 9 (sl 10 (sq 11 (sq 12 (sl 13 (sq 14 (sq 15 (sq 16 (sq 17 (sq 18 (sq 19 (sl 20 (sq 21 (sq 22 (sl 23 (sl 24 (sq 25 (sq 26 (sq 27 (sq 28 (sl 29 (sq 30 (sq 31 (sl 32 (sl 33 (sq 34 (sq 35 sz)))))))))))))))))))))))))))))))))))) (by kernel_rfl) ?_
     refine fld fl29_1 rfl rfl rfl ?_
     refine ldl Tryd.isAgg27 (cB 0 rfl rfl) trv rfl rfl rfl ?_
     refine mvI rfl rfl rfl ?_
     refine ixRl (zn := i) (ws.getD i []) el27 (Kn.drop (k := 1) kws) rfl rfl rfl rfl (by omega) (by omega) rfl (nth [] (by omega)) ?_
     intro be1 oe1 e1
     refine ldl Tryd.isAgg50 (Kn.fld e1 0 rfl) trv rfl rfl rfl ?_
     refine lenS Tryd.runUnderlying50 rfl rfl rfl ?_
     refine mvI rfl rfl rfl ?_
     refine neq rfl rfl rfl rfl ?_
     refine mvB rfl rfl rfl ?_
     refine rBoolD (d := 36) rfl (fun g5 => ?_) (fun g5 => ?_)
     ·
      replace g5 : (((ws.getD i []).length : Nat) : Int) ≠ (nws : Int) := g5
      refine rSkipQ rfl rfl ?_
      refine rSkipL trv rfl rfl ?_
      refine rSkipQ rfl rfl ?_
      refine rSkipQ rfl rfl ?_
      refine rSkipL trv rfl rfl ?_
      refine rSkipQ rfl rfl ?_
      refine rSkipQ rfl rfl ?_
      refine rSkipQ rfl rfl ?_
      refine pickB rfl rfl rfl rfl ?_
      refine mvB rfl rfl rfl ?_
      refine rSkipQ rfl rfl ?_
      refine rSkipL trv rfl rfl ?_
      refine rSkipQ rfl rfl ?_
      refine rSkipQ rfl rfl ?_
      refine rSkipL trv rfl rfl ?_
      refine rSkipL trv rfl rfl ?_
      refine rSkipQ rfl rfl ?_
      refine pickB rfl rfl rfl rfl ?_
      refine mvB rfl rfl rfl ?_
      refine rSkipQ rfl rfl ?_
      refine rSkipL trv rfl rfl ?_
      refine rSkipQ rfl rfl ?_
      refine rSkipQ rfl rfl ?_
      refine rSkipL trv rfl rfl ?_
      refine rSkipL trv rfl rfl ?_
      refine rSkipQ rfl rfl ?_
      refine pickB rfl rfl rfl rfl ?_
      refine rNil ?_
      refine qSeq rfl ?_
      refine hIfT rfl ?_
      refine hSeq ?_
      refine hReg (sq 0 sz) (by kernel_rfl) ?_
      refine asB rfl rfl rfl ?_
      refine rNil ?_
      refine qSeq rfl ?_
      refine hRet ?_
      exact fun w hs => ⟨[.bool false], ⟨rfl, trivial⟩, ⟨bB (by unfold Math.isGame; rw [lws, Math.mat_no (m := ws) (i := i) (by omega) (Math.row_no1 g5)]; simp), hs.upd⟩⟩
     ·
      replace g5 : ¬ ((((ws.getD i []).length : Nat) : Int) ≠ (nws : Int)) := g5
      refine fld fl29_2 rfl rfl rfl ?_
      refine ldl Tryd.isAgg27 (cB 0 rfl rfl) trv rfl rfl rfl ?_
      refine mvI rfl rfl rfl ?_
      refine ixRl (zn := i) (vs.getD i []) el27 (Kn.drop (k := 1) kvs) rfl rfl rfl rfl (by omega) (by omega) rfl (nth [] (by omega)) ?_
      intro be2 oe2 e2
      refine ldl Tryd.isAgg50 (Kn.fld e2 0 rfl) trv rfl rfl rfl ?_
      refine lenS Tryd.runUnderlying50 rfl rfl rfl ?_
      refine mvI rfl rfl rfl ?_
      refine neq rfl rfl rfl rfl ?_
      refine pickB rfl rfl rfl rfl ?_
      refine mvB rfl rfl rfl ?_
      refine rBoolD (d := 46) rfl (fun g6 => ?_) (fun g6 => ?_)
      ·
       replace g6 : (((vs.getD i []).length : Nat) : Int) ≠ (nws : Int) := g6
       refine rSkipQ rfl rfl ?_
       refine rSkipL trv rfl rfl ?_
       refine rSkipQ rfl rfl ?_
       refine rSkipQ rfl rfl ?_
       refine rSkipL trv rfl rfl ?_
       refine rSkipL trv rfl rfl ?_
       refine rSkipQ rfl rfl ?_
       refine pickB rfl rfl rfl rfl ?_
       refine mvB rfl rfl rfl ?_
       refine rSkipQ rfl rfl ?_
       refine rSkipL trv rfl rfl ?_
       refine rSkipQ rfl rfl ?_
       refine rSkipQ rfl rfl ?_
       refine rSkipL trv rfl rfl ?_
       refine rSkipL trv rfl rfl ?_
       refine rSkipQ rfl rfl ?_
       refine pickB rfl rfl rfl rfl ?_
       refine rNil ?_
       refine qSeq rfl ?_
       refine hIfT rfl ?_
       refine hSeq ?_
       refine hReg (sq 0 sz) (by kernel_rfl) ?_
       refine asB rfl rfl rfl ?_
       refine rNil ?_
       refine qSeq rfl ?_
       refine hRet ?_
       exact fun w hs => ⟨[.bool false], ⟨rfl, trivial⟩, ⟨bB (by unfold Math.isGame; rw [lws, Math.mat_no (m := vs) (i := i) (by omega) (Math.row_no1 g6)]; simp), hs.upd⟩⟩
      ·
       replace g6 : ¬ ((((vs.getD i []).length : Nat) : Int) ≠ (nws : Int)) := g6
       refine fld fl29_1 rfl rfl rfl ?_
       refine ldl Tryd.isAgg27 (cB 0 rfl rfl) trv rfl rfl rfl ?_
       refine mvI rfl rfl rfl ?_
       refine ixRl (zn := i) (ws.getD i []) el27 (Kn.drop (k := 1) kws) rfl rfl rfl rfl (by omega) (by omega) rfl (nth [] (by omega)) ?_
       intro be3 oe3 e3
       refine ldl Tryd.isAgg50 (Kn.fld e3 0 rfl) trv rfl rfl rfl ?_
       refine callP (v := .bool (((ws.getD i []).all (Math.inB (0 : Int) (9 : Int))))) Tryd.call52 trv rfl rfl (fun w hs => impl_allWithin_c _ _ _ _ _ _ w (Kn.drop (k := 1) ((Kn.imp kws fun _ h => h.kidM (nth [] (by omega)))) w hs)) ?_
       refine not rfl rfl rfl ?_
       refine pickB rfl rfl rfl rfl ?_
       refine mvB rfl rfl rfl ?_
       refine rBoolN (d := 55) rfl (fun g7 => ?_) (fun g7 => ?_)
       ·
        replace g7 : ((ws.getD i []).all (Math.inB (0 : Int) (9 : Int))) = false := g7
        refine rSkipQ rfl rfl ?_
        refine rSkipL trv rfl rfl ?_
        refine rSkipQ rfl rfl ?_
        refine rSkipQ rfl rfl ?_
        refine rSkipL trv rfl rfl ?_
        refine rSkipL trv rfl rfl ?_
        refine rSkipQ rfl rfl ?_
        refine pickB rfl rfl rfl rfl ?_
        refine rNil ?_
        refine qSeq rfl ?_
        refine hIfT rfl ?_
        refine hSeq ?_
        refine hReg (sq 0 sz) (by kernel_rfl) ?_
        refine asB rfl rfl rfl ?_
        refine rNil ?_
        refine qSeq rfl ?_
        refine hRet ?_
        exact fun w hs => ⟨[.bool false], ⟨rfl, trivial⟩, ⟨bB (by unfold Math.isGame; rw [lws, Math.mat_no (m := ws) (i := i) (by omega) (Math.row_no2 g7)]; simp), hs.upd⟩⟩
       ·
        replace g7 : ((ws.getD i []).all (Math.inB (0 : Int) (9 : Int))) = true := g7
        refine fld fl29_2 rfl rfl rfl ?_
        refine ldl Tryd.isAgg27 (cB 0 rfl rfl) trv rfl rfl rfl ?_
        refine mvI rfl rfl rfl ?_
        refine ixRl (zn := i) (vs.getD i []) el27 (Kn.drop (k := 1) kvs) rfl rfl rfl rfl (by omega) (by omega) rfl (nth [] (by omega)) ?_
        intro be4 oe4 e4
        refine ldl Tryd.isAgg50 (Kn.fld e4 0 rfl) trv rfl rfl rfl ?_
        refine callP (v := .bool (((vs.getD i []).all (Math.inB (-1) (1 : Int))))) Tryd.call52 trv rfl rfl (fun w hs => impl_allWithin_c _ _ _ _ _ _ w (Kn.drop (k := 1) ((Kn.imp kvs fun _ h => h.kidM (nth [] (by omega)))) w hs)) ?_
        refine not rfl rfl rfl ?_
        refine pickB rfl rfl rfl rfl ?_
        refine rNil ?_
        refine qSeq rfl ?_
        refine hIfN rfl (fun c8 => ?_) (fun c8 => ?_)
        ·
         replace c8 : ((vs.getD i []).all (Math.inB (-1) (1 : Int))) = false := c8
         refine hSeq ?_
         refine hReg (sq 0 sz) (by kernel_rfl) ?_
         refine asB rfl rfl rfl ?_
         refine rNil ?_
         refine qSeq rfl ?_
         refine hRet ?_
         exact fun w hs => ⟨[.bool false], ⟨rfl, trivial⟩, ⟨bB (by unfold Math.isGame; rw [lws, Math.mat_no (m := vs) (i := i) (by omega) (Math.row_no2 c8)]; simp), hs.upd⟩⟩
        ·
         replace c8 : ((vs.getD i []).all (Math.inB (-1) (1 : Int))) = true := c8
         refine hSkip ?_
         refine qSeq rfl ?_
         refine hReg (sq 0 (sq 1 sz)) (by kernel_rfl) ?_
         refine add rfl rfl rfl rfl (by omega) ?_
         refine mvI rfl rfl rfl ?_
         refine rNil ?_
         exact qNext rfl (i + 1) (by omega) (⟨by omega, Math.upto hal ⟨Math.row_yes (by omega) g7, Math.row_yes (by omega) c8⟩⟩) ⟨rfl, rfl, rfl, rfl, trivial⟩ (fun _ h => h.pick [0])
    ·
     replace c4 : ¬ ((i : Int) < (nws : Int)) := c4
     have hm : Math.matB nws 0 9 ws = true := Math.mat_yes lws fun j hj => (hal j (by omega)).1
     have hv : Math.matB nws (-1) 1 vs = true := Math.mat_yes (by omega) fun j hj => (hal j (by omega)).2
     refine hExit rfl ?_
     refine qSeq rfl ?_
     refine hSeq ?_
     refine hReg (sl 0 (sl 1 (sq 2 (sq 3 sz)))) (by kernel_rfl) ?_
     refine ldAl Tryd.isAgg29 Tryd.sizeOf29 (cBs 0 rfl) trv rfl rfl rfl rfl ?_
     refine callP (v := .int .i64 (Math.total ws)) Tryd.call68 trv rfl rfl (fun w hs => impl_totalWeight_c _ _ _ _ _ _ _ _ _ _ _ _ _ _ _ w (Kn.drop (k := 1) kz w hs) (Kn.drop (k := 1) kws w hs) (Kn.drop (k := 1) kvs w hs) (by assumption) (by omega)) ?_
     refine gtr rfl rfl rfl rfl ?_
     refine asB rfl rfl rfl ?_
     refine rNil ?_
     refine qSeq rfl ?_
     refine hRet ?_
     exact fun w hs => ⟨[.bool (decide (0 < (Math.total ws)))], ⟨rfl, trivial⟩, ⟨bB (by unfold Math.isGame; rw [lws, hm, hv, g1, g2]; rfl), hs.upd⟩⟩
end Go.Proofs.YtjengglpbdgmnaaDoor
/- Contracts of payoffs and information sets. Their conditions stand in each. -/
namespace Go.Proofs.YtjengglpbdgmnaaDoor
open Go Go.RowKit V
set_option linter.unusedVariables false
set_option linter.unusedSimpArgs false
set_option maxRecDepth 100000
theorem mk27 : Mk Tryd.prog 27 50 1 24 [.slice none 0 0] := ⟨Tryd.underlying27, Tryd.t50, _, by kernel_rfl, rfl, rfl, rfl, rfl, rfl, by decide, by decide⟩
theorem bsl27_0   : ∀ w, (Instr.buildSlice 27 0 ([] : List (Nat × Value)).toArray).run Tryd.prog w = .ok (.slice (some ⟨w.heap.size, 0, none⟩) 0 0) (w.alloc (.cells ([] : List Value).toArray 50)) := by
 intro w; simp [Instr.buildSlice, Instr.fill, Tryd.zeroValue50, Tryd.runUnderlying27, Tryd.sizeOf50, Value.cells_int, newRow, show Array.range 0 = #[] from by decide]
theorem bsl27_1 (v0 : Value) (h0 : v0.cells = #[v0]) : ∀ w, (Instr.buildSlice 27 1 ([(0, v0)] : List (Nat × Value)).toArray).run Tryd.prog w = .ok (.slice (some ⟨w.heap.size, 0, none⟩) 1 1) (w.alloc (.cells ([v0] : List Value).toArray 50)) := by
 intro w; simp [Instr.buildSlice, Instr.fill, Tryd.zeroValue50, Tryd.runUnderlying27, Tryd.sizeOf50, Value.cells_int, newRow, show Array.range 1 = #[0] from by decide, h0]
set_option maxHeartbeats 1000000 in
theorem impl_infoSets_c (az : Option Addr) (nz : Nat) (cz : Nat) (Hz : Nat → Hd) (z : List Nd) (aws : Option Addr) (nws : Nat) (cws : Nat) (Hws : Nat → Hd) (ws : List (List Int)) (avs : Option Addr) (nvs : Nat) (cvs : Nat) (Hvs : Nat → Hd) (vs : List (List Int)) (p : Int) (w : World) (rz : RdR ndK az nz Hz z w) (rws : RdR maK aws nws Hws ws w) (rvs : RdR maK avs nvs Hvs vs w) (hk : nws ≤ 6) (hn : nz ≤ 60) :
  Calls Tryd.prog 35 #[.agg #[.slice az nz cz, .slice aws nws cws, .slice avs nvs cvs], .int .i64 p] w (Ret fun v w' => ∃ x : Option Addr × Nat × Nat × (Nat → Hd) × List (List Int), v = .slice x.1 x.2.1 x.2.2.1 ∧ (x.2.2.2.2 = Math.sets z nws p) ∧ Sep w none_ [OwnR maK 50 2 x.1 x.2.1 x.2.2.1 x.2.2.2.1 x.2.2.2.2] w') := by
 have kz : Kn w none_ [] (RdR ndK az nz Hz z) := fun w' hs => rz.ext hs.upd
 have lz : z.length = nz := rz.1
 have mz : nz ≤ 9223372036854775807 := rz.2.1
 have kws : Kn w none_ [] (RdR maK aws nws Hws ws) := fun w' hs => rws.ext hs.upd
 have lws : ws.length = nws := rws.1
 have mws : nws ≤ 9223372036854775807 := rws.2.1
 have kvs : Kn w none_ [] (RdR maK avs nvs Hvs vs) := fun w' hs => rvs.ext hs.upd
 have lvs : vs.length = nvs := rvs.1
 have mvs : nvs ≤ 9223372036854775807 := rvs.2.1
 have hnl := Math.nodesOf_len z p
 refine fn (M := none_) (rs := [.tmp 4]) Tryd.func35 rfl Tryd.ntmps35 rfl rfl (Sep.start _ _) ?_
 refine hSeq ?_
 refine hReg (sl 0 (sq 1 sz)) (by kernel_rfl) ?_
 refine box trv1 rfl rfl rfl rfl (fun bkb1 hbkb1 => ?_)
 refine asS rfl rfl rfl ?_
 refine rNil ?_
 refine qSeq rfl ?_
 refine hSeq ?_
 refine hReg (sq 0 sz) (by kernel_rfl) ?_
 refine asS rfl rfl rfl ?_
 refine rNil ?_
 refine qSeq rfl ?_
 refine hSeq ?_
 refine hSeq ?_
 refine hReg (sq 0 (sl 1 (sq 2 (sl 3 (sq 4 (sq 5 sz)))))) (by kernel_rfl) ?_
 refine fld fl29_0 rfl rfl rfl ?_
 refine ldAl Tryd.isAgg26 Tryd.sizeOf26 (cBp (m := 1) 0 rfl rfl) trv rfl rfl rfl rfl ?_
 refine mvI rfl rfl rfl ?_
 refine callS Tryd.call63 trv1 rfl rfl (fun w hs => impl_nodesOf_c _ nz cz _ _ _ w (Kn.drop (k := 1) kz w hs) (by omega)) ?_
 rintro ⟨ay1, ny1, cy1, y1⟩ hr1
 dsimp only at hr1
 subst y1
 refine rKnow (fun w hs => (show OwnI 2 ay1 ny1 cy1 (Math.nodesOf z p) w from hs.at_ 0 rfl).lenz) (fun lenn2 => ?_)
 refine lenS Tryd.runUnderlying50 rfl rfl rfl ?_
 refine mvI rfl rfl rfl ?_
 refine rNil ?_
 refine qSeq rfl ?_
 refine hBlk ?_
 refine hPieces (fun _ h => Sep.nilR maK 50 2 (fun _ => (none, 0)) h) ?_
 refine hLoop (α := Nat × Nat × Hd × (Nat → Hd)) (fun x => x.1 ≤ ny1 ∧ x.2.1 ≤ 6 * x.1) (fun x => ny1 - x.1) (fun x => [OwnR maK 50 2 x.2.2.1.1 x.2.1 x.2.2.1.2 x.2.2.2 ((Math.setsTo (Math.nodesOf z p) nws x.1 0)), OwnI 2 ay1 ny1 cy1 (Math.nodesOf z p), blk bkb1 29 [.slice az nz cz, .slice aws nws cws, .slice avs nvs cvs]]) (fun x => [(2, .pointer (some ⟨bkb1, 0, none⟩)), (5, .slice x.2.2.1.1 x.2.1 x.2.2.1.2), (12, .slice ay1 ny1 cy1), (13, .int .i64 (ny1 : Int)), (14, .int .i64 (x.1 : Int))]) ((0, 0, ((none, 0), (fun _ => (none, 0))))) ⟨Nat.zero_le _, Nat.zero_le _⟩ (fun _ h => h.pick [0, 0, 0]) ⟨rfl, rfl, rfl, rfl, rfl, trivial⟩ ?_
 rintro ⟨i, q, hd⟩ τ1 ⟨hi, hq⟩
 dsimp only at hi hq
 refine hRe [(2, .pointer (some ⟨bkb1, 0, none⟩)), (5, .slice hd.1.1 q hd.1.2), (12, .slice ay1 ny1 cy1), (13, .int .i64 (ny1 : Int)), (14, .int .i64 (i : Int))] [OwnR maK 50 2 hd.1.1 q hd.1.2 hd.2 ((Math.setsTo (Math.nodesOf z p) nws i 0)), OwnI 2 ay1 ny1 cy1 (Math.nodesOf z p), blk bkb1 29 [.slice az nz cz, .slice aws nws cws, .slice avs nvs cvs]] rfl rfl ?_
 refine hSeq ?_
 refine hReg (sq 0 sz) (by kernel_rfl) ?_
 refine lss rfl rfl rfl rfl ?_
 refine rNil ?_
 refine qSeq rfl ?_
 refine hSeq ?_
 refine hIfD rfl (fun c1 => ?_) (fun c1 => ?_)
 ·
  replace c1 : (i : Int) < (ny1 : Int) := c1
  refine hSkip ?_
  refine qSeq rfl ?_
  refine hSeq ?_
  refine hBlk ?_
  refine hSeq ?_
  refine hReg (sq 0 (sl 1 (sq 2 sz))) (by kernel_rfl) ?_
  refine ixIl (zn := i) el50 ((Kn.at_ 1 rfl).imp fun _ h => OwnI.rd h) rfl rfl rfl rfl (by omega) (by omega) rfl ?_
  intro ae2 e2
  refine ldl Tryd.isAgg2 (e2) trv rfl rfl rfl ?_
  refine asI rfl rfl rfl ?_
  refine rNil ?_
  refine qSeq rfl ?_
  refine hSeq ?_
  refine hReg (sq 0 (sl 1 (sq 2 (sq 3 sz)))) (by kernel_rfl) ?_
  refine fld fl29_1 rfl rfl rfl ?_
  refine ldl Tryd.isAgg27 (cB 2 rfl rfl) trv rfl rfl rfl ?_
  refine lenS Tryd.runUnderlying27 rfl rfl rfl ?_
  refine mvI rfl rfl rfl ?_
  refine rNil ?_
  refine qSeq rfl ?_
  refine hBlk ?_
  refine hLoop (α := Nat × Nat × Hd × (Nat → Hd)) (fun x => x.1 ≤ nws ∧ x.2.1 ≤ 6 * i + x.1) (fun x => nws - x.1) (fun x => [OwnR maK 50 2 x.2.2.1.1 x.2.1 x.2.2.1.2 x.2.2.2 ((Math.setsTo (Math.nodesOf z p) nws i x.1)), OwnI 2 ay1 ny1 cy1 (Math.nodesOf z p), blk bkb1 29 [.slice az nz cz, .slice aws nws cws, .slice avs nvs cvs]]) (fun x => [(2, .pointer (some ⟨bkb1, 0, none⟩)), (5, .slice x.2.2.1.1 x.2.1 x.2.2.1.2), (7, .int .i64 (((Math.nodesOf z p).getD i 0))), (12, .slice ay1 ny1 cy1), (13, .int .i64 (ny1 : Int)), (14, .int .i64 (i : Int)), (20, .int .i64 (nws : Int)), (21, .int .i64 (x.1 : Int))]) (0, q, hd) ⟨Nat.zero_le _, hq⟩ (fun _ h => h.pick [0, 0, 0]) ⟨rfl, rfl, rfl, rfl, rfl, rfl, rfl, rfl, trivial⟩ ?_
  rintro ⟨j, q2, hd2⟩ τ2 ⟨hj, hq2⟩
  dsimp only at hj hq2
  refine hRe [(2, .pointer (some ⟨bkb1, 0, none⟩)), (5, .slice hd2.1.1 q2 hd2.1.2), (7, .int .i64 (((Math.nodesOf z p).getD i 0))), (12, .slice ay1 ny1 cy1), (13, .int .i64 (ny1 : Int)), (14, .int .i64 (i : Int)), (20, .int .i64 (nws : Int)), (21, .int .i64 (j : Int))] [OwnR maK 50 2 hd2.1.1 q2 hd2.1.2 hd2.2 ((Math.setsTo (Math.nodesOf z p) nws i j)), OwnI 2 ay1 ny1 cy1 (Math.nodesOf z p), blk bkb1 29 [.slice az nz cz, .slice aws nws cws, .slice avs nvs cvs]] rfl rfl ?_
  refine hSeq ?_
  refine hReg (sq 0 sz) (by kernel_rfl) ?_
  refine lss rfl rfl rfl rfl ?_
  refine rNil ?_
  refine qSeq rfl ?_
  refine hSeq ?_
  refine hIfD rfl (fun c2 => ?_) (fun c2 => ?_)
  ·
   replace c2 : (j : Int) < (nws : Int) := c2
   refine hSkip ?_
   refine qSeq rfl ?_
   refine hSeq ?_
   refine hBlk ?_
   refine hSeq ?_
   refine hReg (sq 0 (sq 1 sz)) (by kernel_rfl) ?_
   refine mvI rfl rfl rfl ?_
   refine asI rfl rfl rfl ?_
   refine rNil ?_
   refine qSeq rfl ?_
   refine hReg (sq 0 (sq 1 (sq 2 (sl 3 (sl 4 (sl 5 (sq 6 sz))))))) (by kernel_rfl) ?_
   refine mvS rfl rfl rfl ?_
   refine mvI rfl rfl rfl ?_
   refine mvI rfl rfl rfl ?_
   refine bsl trv1 rfl rfl rfl (bsl50_2 (.int .i64 _) (.int .i64 _) rfl rfl) (fun bkl4 hbkl4 => ?_)
   refine bsl trv1 rfl rfl rfl (bsl27_1 (.slice _ _ _) rfl) (fun bkl5 hbkl5 => ?_)
   refine rPieces (fun _ h => Sep.litI h 1 [((Math.nodesOf z p).getD i 0), (j : Int)] rfl rfl rfl) ?_
   refine apR (hd := ((some ⟨bkl4, 0, none⟩), 2)) (x := [((Math.nodesOf z p).getD i 0), (j : Int)]) 2 1 0 maK.ok rfl rfl rfl (fun h => by first | rfl | (dsimp only at h; rw [h]; rfl) | (rw [h]; rfl) | exact congrArg (fun m => [Value.slice _ m _]) h) mk27 trv1 rfl rfl rfl rfl (by omega) ?_
   intro aq3 cq3
   refine asS rfl rfl rfl ?_
   refine rNil ?_
   refine qSeq rfl ?_
   refine hReg (sq 0 (sq 1 sz)) (by kernel_rfl) ?_
   refine add rfl rfl rfl rfl (by omega) ?_
   refine mvI rfl rfl rfl ?_
   refine rNil ?_
   rw [← Math.setsTo_cell]
   exact qNext rfl ((j + 1, q2 + 1, ((aq3, cq3), (hset hd2.2 ((Math.setsTo (Math.nodesOf z p) nws i j)).length ((some ⟨bkl4, 0, none⟩), 2))))) (by dsimp only; omega) ⟨by dsimp only; omega, by dsimp only; omega⟩ ⟨rfl, rfl, rfl, rfl, rfl, rfl, rfl, rfl, trivial⟩ (fun _ h => h.pick [0, 1, 1])
  ·
   replace c2 : ¬ ((j : Int) < (nws : Int)) := c2
   refine hExit rfl ?_
   refine qSeq rfl ?_
   refine hReg (sq 0 (sq 1 sz)) (by kernel_rfl) ?_
   refine add rfl rfl rfl rfl (by omega) ?_
   refine mvI rfl rfl rfl ?_
   refine rNil ?_
   rw [Math.setsTo_row (by omega) (by omega)]
   exact qNext rfl (i + 1, q2, hd2) (by dsimp only; omega) ⟨by dsimp only; omega, by dsimp only; omega⟩ ⟨rfl, rfl, rfl, rfl, rfl, trivial⟩ (fun _ h => h.pick [0, 0, 0])
 ·
  replace c1 : ¬ ((i : Int) < (ny1 : Int)) := c1
  refine hExit rfl ?_
  refine qSeq rfl ?_
  refine hSeq ?_
  refine hReg (sq 0 (sq 1 sz)) (by kernel_rfl) ?_
  refine mvS rfl rfl rfl ?_
  refine asS rfl rfl rfl ?_
  refine rNil ?_
  refine qSeq rfl ?_
  refine hRet ?_
  exact fun w hs => ⟨[.slice hd.1.1 q hd.1.2], ⟨rfl, trivial⟩, ⟨(hd.1.1, q, hd.1.2, hd.2, (Math.setsTo (Math.nodesOf z p) nws i 0)), rfl, Math.setsTo_end (by omega), hs.pick [0]⟩⟩
set_option maxHeartbeats 1000000 in
theorem spec_l21Sets_c (az : Option Addr) (nz : Nat) (cz : Nat) (Hz : Nat → Hd) (z : List Nd) (aws : Option Addr) (nws : Nat) (cws : Nat) (Hws : Nat → Hd) (ws : List (List Int)) (avs : Option Addr) (nvs : Nat) (cvs : Nat) (Hvs : Nat → Hd) (vs : List (List Int)) (p : Int) (w : World) (rz : RdR ndK az nz Hz z w) (rws : RdR maK aws nws Hws ws w) (rvs : RdR maK avs nvs Hvs vs w) (hk : nws ≤ 6) (hn : nz ≤ 60) :
  Calls Tryd.prog 39 #[.agg #[.slice az nz cz, .slice aws nws cws, .slice avs nvs cvs], .int .i64 p] w (Ret fun v w' => ∃ x : Option Addr × Nat × Nat × (Nat → Hd) × List (List Int), v = .slice x.1 x.2.1 x.2.2.1 ∧ (x.2.2.2.2 = Math.sets z nws p) ∧ Sep w none_ [OwnR maK 50 2 x.1 x.2.1 x.2.2.1 x.2.2.2.1 x.2.2.2.2] w') := by
 have kz : Kn w none_ [] (RdR ndK az nz Hz z) := fun w' hs => rz.ext hs.upd
 have lz : z.length = nz := rz.1
 have mz : nz ≤ 9223372036854775807 := rz.2.1
 have kws : Kn w none_ [] (RdR maK aws nws Hws ws) := fun w' hs => rws.ext hs.upd
 have lws : ws.length = nws := rws.1
 have mws : nws ≤ 9223372036854775807 := rws.2.1
 have kvs : Kn w none_ [] (RdR maK avs nvs Hvs vs) := fun w' hs => rvs.ext hs.upd
 have lvs : vs.length = nvs := rvs.1
 have mvs : nvs ≤ 9223372036854775807 := rvs.2.1
 have hnl := Math.nodesOf_len z p
 refine fn (M := none_) (rs := [.tmp 4]) Tryd.func39 rfl Tryd.ntmps39 rfl rfl (Sep.start _ _) ?_
 refine hSeq ?_
 refine hReg (sl 0 (sq 1 sz)) (by kernel_rfl) ?_
 refine box trv1 rfl rfl rfl rfl (fun bkb1 hbkb1 => ?_)
 refine asS rfl rfl rfl ?_
 refine rNil ?_
 refine qSeq rfl ?_
 refine hSeq ?_
 refine hReg (sq 0 (sl 1 (sq 2 (sl 3 (sq 4 sz))))) (by kernel_rfl) ?_
 refine fld fl29_0 rfl rfl rfl ?_
 refine ldAl Tryd.isAgg26 Tryd.sizeOf26 (cBp (m := 1) 0 rfl rfl) trv rfl rfl rfl rfl ?_
 refine mvI rfl rfl rfl ?_
 refine callS Tryd.call67 trv1 rfl rfl (fun w hs => spec_l20Of_c _ nz cz _ _ _ w (Kn.drop (k := 1) kz w hs) (by omega)) ?_
 rintro ⟨ay1, ny1, cy1, y1⟩ hr1
 dsimp only at hr1
 subst y1
 refine rKnow (fun w hs => (show OwnI 2 ay1 ny1 cy1 (Math.nodesOf z p) w from hs.at_ 0 rfl).lenz) (fun lenn2 => ?_)
 refine asS rfl rfl rfl ?_
 refine rNil ?_
 refine qSeq rfl ?_
 refine hSeq ?_
 refine hReg (sl 0 (sq 1 sz)) (by kernel_rfl) ?_
 refine bsl trv1 rfl rfl rfl (bsl27_0) (fun bkl3 hbkl3 => ?_)
 refine asS rfl rfl rfl ?_
 refine rNil ?_
 refine qSeq rfl ?_
 refine hSeq ?_
 refine hSeq ?_
 refine hReg (sq 0 sz) (by kernel_rfl) ?_
 refine asI rfl rfl rfl ?_
 refine rNil ?_
 refine qSeq rfl ?_
 refine hBlk ?_
 refine hPieces (fun _ h => Sep.litR maK 50 2 (fun _ => (none, 0)) h 0 rfl) ?_
 refine hLoop (α := Nat × Nat × Hd × (Nat → Hd)) (fun x => x.1 ≤ ny1 ∧ x.2.1 ≤ 6 * x.1) (fun x => ny1 - x.1) (fun x => [OwnR maK 50 2 x.2.2.1.1 x.2.1 x.2.2.1.2 x.2.2.2 ((Math.setsTo (Math.nodesOf z p) nws x.1 0)), OwnI 2 ay1 ny1 cy1 (Math.nodesOf z p), blk bkb1 29 [.slice az nz cz, .slice aws nws cws, .slice avs nvs cvs]]) (fun x => [(2, .pointer (some ⟨bkb1, 0, none⟩)), (5, .slice ay1 ny1 cy1), (6, .slice x.2.2.1.1 x.2.1 x.2.2.1.2), (7, .int .i64 (x.1 : Int))]) ((0, 0, (((some ⟨bkl3, 0, none⟩), 0), (fun _ => (none, 0))))) ⟨Nat.zero_le _, Nat.zero_le _⟩ (fun _ h => h.pick [0, 0, 0]) ⟨rfl, rfl, rfl, rfl, trivial⟩ ?_
 rintro ⟨i, q, hd⟩ τ1 ⟨hi, hq⟩
 dsimp only at hi hq
 refine hRe [(2, .pointer (some ⟨bkb1, 0, none⟩)), (5, .slice ay1 ny1 cy1), (6, .slice hd.1.1 q hd.1.2), (7, .int .i64 (i : Int))] [OwnR maK 50 2 hd.1.1 q hd.1.2 hd.2 ((Math.setsTo (Math.nodesOf z p) nws i 0)), OwnI 2 ay1 ny1 cy1 (Math.nodesOf z p), blk bkb1 29 [.slice az nz cz, .slice aws nws cws, .slice avs nvs cvs]] rfl rfl ?_
 refine hSeq ?_
 refine hSeq ?_
 refine hReg (sq 0 (sq 1 (sq 2 (sq 3 sz)))) (by kernel_rfl) ?_
 refine mvI rfl rfl rfl ?_
 refine mvS rfl rfl rfl ?_
 refine lenS Tryd.runUnderlying50 rfl rfl rfl ?_
 refine lss rfl rfl rfl rfl ?_
 refine rNil ?_
 refine qSeq rfl ?_
 refine hIfD rfl (fun c1 => ?_) (fun c1 => ?_)
 ·
  replace c1 : (i : Int) < (ny1 : Int) := c1
  refine hSkip ?_
  refine qSeq rfl ?_
  refine hSeq ?_
  refine hBlk ?_
  refine hSeq ?_
  refine hReg (sq 0 sz) (by kernel_rfl) ?_
  refine asI rfl rfl rfl ?_
  refine rNil ?_
  refine qSeq rfl ?_
  refine hBlk ?_
  refine hLoop (α := Nat × Nat × Hd × (Nat → Hd)) (fun x => x.1 ≤ nws ∧ x.2.1 ≤ 6 * i + x.1) (fun x => nws - x.1) (fun x => [OwnR maK 50 2 x.2.2.1.1 x.2.1 x.2.2.1.2 x.2.2.2 ((Math.setsTo (Math.nodesOf z p) nws i x.1)), OwnI 2 ay1 ny1 cy1 (Math.nodesOf z p), blk bkb1 29 [.slice az nz cz, .slice aws nws cws, .slice avs nvs cvs]]) (fun x => [(2, .pointer (some ⟨bkb1, 0, none⟩)), (5, .slice ay1 ny1 cy1), (6, .slice x.2.2.1.1 x.2.1 x.2.2.1.2), (7, .int .i64 (i : Int)), (8, .int .i64 (x.1 : Int))]) (0, q, hd) ⟨Nat.zero_le _, hq⟩ (fun _ h => h.pick [0, 0, 0]) ⟨rfl, rfl, rfl, rfl, rfl, trivial⟩ ?_
  rintro ⟨j, q2, hd2⟩ τ2 ⟨hj, hq2⟩
  dsimp only at hj hq2
  refine hRe [(2, .pointer (some ⟨bkb1, 0, none⟩)), (5, .slice ay1 ny1 cy1), (6, .slice hd2.1.1 q2 hd2.1.2), (7, .int .i64 (i : Int)), (8, .int .i64 (j : Int))] [OwnR maK 50 2 hd2.1.1 q2 hd2.1.2 hd2.2 ((Math.setsTo (Math.nodesOf z p) nws i j)), OwnI 2 ay1 ny1 cy1 (Math.nodesOf z p), blk bkb1 29 [.slice az nz cz, .slice aws nws cws, .slice avs nvs cvs]] rfl rfl ?_
  refine hSeq ?_
  refine hSeq ?_
  refine hReg (sq 0 (sq 1 (sl 2 (sq 3 (sq 4 sz))))) (by kernel_rfl) ?_
  refine mvI rfl rfl rfl ?_
  refine fld fl29_1 rfl rfl rfl ?_
  refine ldl Tryd.isAgg27 (cB 2 rfl rfl) trv rfl rfl rfl ?_
  refine lenS Tryd.runUnderlying27 rfl rfl rfl ?_
  refine lss rfl rfl rfl rfl ?_
  refine rNil ?_
  refine qSeq rfl ?_
  refine hIfD rfl (fun c2 => ?_) (fun c2 => ?_)
  ·
   replace c2 : (j : Int) < (nws : Int) := c2
   refine hSkip ?_
   refine qSeq rfl ?_
   refine hSeq ?_
   refine hBlk ?_
   refine hReg (sq 0 (sq 1 (sq 2 (sq 3 (sl 4 (sq 5 (sl 6 (sl 7 (sl 8 (sq 9 sz)))))))))) (by kernel_rfl) ?_
   refine mvS rfl rfl rfl ?_
   refine mvS rfl rfl rfl ?_
   refine mvI rfl rfl rfl ?_
   refine ixIl (zn := i) el50 ((Kn.at_ 1 rfl).imp fun _ h => OwnI.rd h) rfl rfl rfl rfl (by omega) (by omega) rfl ?_
   intro ae2 e2
   refine ldl Tryd.isAgg2 (e2) trv rfl rfl rfl ?_
   refine mvI rfl rfl rfl ?_
   refine bsl trv1 rfl rfl rfl (bsl50_2 (.int .i64 _) (.int .i64 _) rfl rfl) (fun bkl4 hbkl4 => ?_)
   refine bsl trv1 rfl rfl rfl (bsl27_1 (.slice _ _ _) rfl) (fun bkl5 hbkl5 => ?_)
   refine rPieces (fun _ h => Sep.litI h 1 [((Math.nodesOf z p).getD i 0), (j : Int)] rfl rfl rfl) ?_
   refine apR (hd := ((some ⟨bkl4, 0, none⟩), 2)) (x := [((Math.nodesOf z p).getD i 0), (j : Int)]) 2 1 0 maK.ok rfl rfl rfl (fun h => by first | rfl | (dsimp only at h; rw [h]; rfl) | (rw [h]; rfl) | exact congrArg (fun m => [Value.slice _ m _]) h) mk27 trv1 rfl rfl rfl rfl (by omega) ?_
   intro aq3 cq3
   refine asS rfl rfl rfl ?_
   refine rNil ?_
   refine qSeq rfl ?_
   refine hReg (sq 0 (sq 1 (sq 2 sz))) (by kernel_rfl) ?_
   refine mvI rfl rfl rfl ?_
   refine add rfl rfl rfl rfl (by omega) ?_
   refine asI rfl rfl rfl ?_
   refine rNil ?_
   rw [← Math.setsTo_cell]
   exact qNext rfl ((j + 1, q2 + 1, ((aq3, cq3), (hset hd2.2 ((Math.setsTo (Math.nodesOf z p) nws i j)).length ((some ⟨bkl4, 0, none⟩), 2))))) (by dsimp only; omega) ⟨by dsimp only; omega, by dsimp only; omega⟩ ⟨rfl, rfl, rfl, rfl, rfl, trivial⟩ (fun _ h => h.pick [0, 1, 1])
  ·
   replace c2 : ¬ ((j : Int) < (nws : Int)) := c2
   refine hExit rfl ?_
   refine qSeq rfl ?_
   refine hReg (sq 0 (sq 1 (sq 2 sz))) (by kernel_rfl) ?_
   refine mvI rfl rfl rfl ?_
   refine add rfl rfl rfl rfl (by omega) ?_
   refine asI rfl rfl rfl ?_
   refine rNil ?_
   rw [Math.setsTo_row (by omega) (by omega)]
   exact qNext rfl (i + 1, q2, hd2) (by dsimp only; omega) ⟨by dsimp only; omega, by dsimp only; omega⟩ ⟨rfl, rfl, rfl, rfl, trivial⟩ (fun _ h => h.pick [0, 0, 0])
 ·
  replace c1 : ¬ ((i : Int) < (ny1 : Int)) := c1
  refine hExit rfl ?_
  refine qSeq rfl ?_
  refine hSeq ?_
  refine hReg (sq 0 (sq 1 sz)) (by kernel_rfl) ?_
  refine mvS rfl rfl rfl ?_
  refine asS rfl rfl rfl ?_
  refine rNil ?_
  refine qSeq rfl ?_
  refine hRet ?_
  exact fun w hs => ⟨[.slice hd.1.1 q hd.1.2], ⟨rfl, trivial⟩, ⟨(hd.1.1, q, hd.1.2, hd.2, (Math.setsTo (Math.nodesOf z p) nws i 0)), rfl, Math.setsTo_end (by omega), hs.pick [0]⟩⟩
end Go.Proofs.YtjengglpbdgmnaaDoor
/- Contracts of strategies. Their conditions stand in each. -/
namespace Go.Proofs.YtjengglpbdgmnaaDoor
open Go Go.RowKit V
set_option linter.unusedVariables false
set_option linter.unusedSimpArgs false
set_option maxRecDepth 100000
theorem fl31_0 : Fld Tryd.prog 31 0 0 := by
 intro w ad; simp [Instr.fieldAt, Tryd.runUnderlying31, Instr.sureAddr, fieldPlace, Tryd.sizeOf2]
theorem fl31_1 : Fld Tryd.prog 31 1 1 := by
 intro w ad; simp [Instr.fieldAt, Tryd.runUnderlying31, Instr.sureAddr, fieldPlace, Tryd.sizeOf27]
theorem spec_l22Sizes_c (az : Option Addr) (nz : Nat) (cz : Nat) (Hz : Nat → Hd) (z : List Nd) (aws : Option Addr) (nws : Nat) (cws : Nat) (Hws : Nat → Hd) (ws : List (List Int)) (avs : Option Addr) (nvs : Nat) (cvs : Nat) (Hvs : Nat → Hd) (vs : List (List Int)) (p : Int) (w : World) (rz : RdR ndK az nz Hz z w) (rws : RdR maK aws nws Hws ws w) (rvs : RdR maK avs nvs Hvs vs w) (hg : Math.isGame z ws vs = true) :
  Calls Tryd.prog 58 #[.agg #[.slice az nz cz, .slice aws nws cws, .slice avs nvs cvs], .int .i64 p] w (Ret fun v w' => ∃ x : Option Addr × Nat × Nat × List Int, v = .slice x.1 x.2.1 x.2.2.1 ∧ (x.2.2.2 = Math.sizes z (Math.sets z nws p)) ∧ Sep w none_ [OwnI 2 x.1 x.2.1 x.2.2.1 x.2.2.2] w') := by
 have kz : Kn w none_ [] (RdR ndK az nz Hz z) := fun w' hs => rz.ext hs.upd
 have lz : z.length = nz := rz.1
 have mz : nz ≤ 9223372036854775807 := rz.2.1
 have kws : Kn w none_ [] (RdR maK aws nws Hws ws) := fun w' hs => rws.ext hs.upd
 have lws : ws.length = nws := rws.1
 have mws : nws ≤ 9223372036854775807 := rws.2.1
 have kvs : Kn w none_ [] (RdR maK avs nvs Hvs vs) := fun w' hs => rvs.ext hs.upd
 have lvs : vs.length = nvs := rvs.1
 have mvs : nvs ≤ 9223372036854775807 := rvs.2.1
 have hG := Math.isGame_ok hg
 rw [lws] at hG
 have hT := Math.isTree_ok hG.1
 have hvl := Math.mat_len hG.2.2.2.1
 have hsl := Math.sets_len (z := z) (p := p) (show nws ≤ 6 by omega)
 refine fn (M := none_) (rs := [.tmp 4]) Tryd.func58 rfl Tryd.ntmps58 rfl rfl (Sep.start _ _) ?_
 refine hSeq ?_
 refine hReg (sl 0 (sq 1 sz)) (by kernel_rfl) ?_
 refine box trv1 rfl rfl rfl rfl (fun bkb1 hbkb1 => ?_)
 refine asS rfl rfl rfl ?_
 refine rNil ?_
 refine qSeq rfl ?_
 refine hSeq ?_
 refine hReg (sl 0 (sq 1 (sl 2 (sq 3 sz)))) (by kernel_rfl) ?_
 refine ldAl Tryd.isAgg29 Tryd.sizeOf29 (cBs 0 rfl) trv rfl rfl rfl rfl ?_
 refine mvI rfl rfl rfl ?_
 refine callS Tryd.call39 trv1 rfl rfl (fun w hs => spec_l21Sets_c _ nz cz _ _ _ nws cws _ _ _ nvs cvs _ _ _ w (Kn.drop (k := 1) kz w hs) (Kn.drop (k := 1) kws w hs) (Kn.drop (k := 1) kvs w hs) (by omega) (by omega)) ?_
 rintro ⟨ay1, ny1, cy1, Hy1, y1⟩ hr1
 dsimp only at hr1
 subst y1
 refine rKnow (fun w hs => (show OwnR maK 50 2 ay1 ny1 cy1 Hy1 (Math.sets z nws p) w from hs.at_ 0 rfl).1) (fun lenn2 => ?_)
 refine asS rfl rfl rfl ?_
 refine rNil ?_
 refine qSeq rfl ?_
 refine hSeq ?_
 refine hReg (sl 0 (sq 1 sz)) (by kernel_rfl) ?_
 refine bsl trv1 rfl rfl rfl (bsl50_0) (fun bkl3 hbkl3 => ?_)
 refine asS rfl rfl rfl ?_
 refine rNil ?_
 refine qSeq rfl ?_
 refine hSeq ?_
 refine hSeq ?_
 refine hReg (sq 0 sz) (by kernel_rfl) ?_
 refine asI rfl rfl rfl ?_
 refine rNil ?_
 refine qSeq rfl ?_
 refine hBlk ?_
 refine hPieces (fun _ h => Sep.litI h 0 [] rfl rfl rfl) ?_
 refine hLoop (α := Nat × Nat × Hd) (fun x => x.1 ≤ ny1 ∧ x.2.1 = x.1) (fun x => ny1 - x.1) (fun x => [OwnI 2 x.2.2.1 x.2.1 x.2.2.2 ((Math.sizes z ((Math.sets z nws p).take x.1))), OwnR maK 50 2 ay1 ny1 cy1 Hy1 (Math.sets z nws p), blk bkb1 29 [.slice az nz cz, .slice aws nws cws, .slice avs nvs cvs]]) (fun x => [(2, .pointer (some ⟨bkb1, 0, none⟩)), (5, .slice ay1 ny1 cy1), (6, .slice x.2.2.1 x.2.1 x.2.2.2), (7, .int .i64 (x.1 : Int))]) ((0, 0, ((some ⟨bkl3, 0, none⟩), 0))) ⟨Nat.zero_le _, rfl⟩ (fun _ h => h.pick [0, 0, 0]) ⟨rfl, rfl, rfl, rfl, trivial⟩ ?_
 rintro ⟨i, q, hd⟩ τ1 ⟨hi, hq⟩
 dsimp only at hi hq
 refine hRe [(2, .pointer (some ⟨bkb1, 0, none⟩)), (5, .slice ay1 ny1 cy1), (6, .slice hd.1 q hd.2), (7, .int .i64 (i : Int))] [OwnI 2 hd.1 q hd.2 ((Math.sizes z ((Math.sets z nws p).take i))), OwnR maK 50 2 ay1 ny1 cy1 Hy1 (Math.sets z nws p), blk bkb1 29 [.slice az nz cz, .slice aws nws cws, .slice avs nvs cvs]] rfl rfl ?_
 refine hSeq ?_
 refine hSeq ?_
 refine hReg (sq 0 (sq 1 (sq 2 (sq 3 sz)))) (by kernel_rfl) ?_
 refine mvI rfl rfl rfl ?_
 refine mvS rfl rfl rfl ?_
 refine lenS Tryd.runUnderlying27 rfl rfl rfl ?_
 refine lss rfl rfl rfl rfl ?_
 refine rNil ?_
 refine qSeq rfl ?_
 refine hIfD rfl (fun c1 => ?_) (fun c1 => ?_)
 ·
  replace c1 : (i : Int) < (ny1 : Int) := c1
  have hsa := Math.sets_at (z := z) (k := nws) (p := p) (i := i) (by omega)
  have hwd : Math.wide z ((Math.sets z nws p).getD i []) ≤ 4 := Math.wide_le hg hsa.2.1
  have hwq : Math.wide z ((Math.sets z nws p).getD i []) = (z.getD (((Math.sets z nws p).getD i []).getD 0 0).toNat dN).ch.length := rfl
  refine hSkip ?_
  refine qSeq rfl ?_
  refine hSeq ?_
  refine hBlk ?_
  refine hDraw (Ls := [OwnR maK 50 2 ay1 ny1 cy1 Hy1 (Math.sets z nws p), blk bkb1 29 [.slice az nz cz, .slice aws nws cws, .slice avs nvs cvs]]) (by kernel_rfl) (sq 0 (sq 1 (sq 2 (sq 3 (sq 4 (sq 5 (sq 6 (sq 7 (sq 8 (sq 9 (sq 10 (sq 11 (sq 12 (sq 13 (sl 14 (sl 15 (sq 16 sz))))))))))))))))) (by kernel_rfl) (.cons _ (.cons_cons _ (.cons_cons _ .slnil))) ?_
  refine mvS rfl rfl rfl ?_
  refine fld fl29_0 rfl rfl rfl ?_
  refine fld fl26_0 rfl rfl rfl ?_
  refine ldq Tryd.isAgg24 (cB 1 rfl rfl) rfl rfl rfl ?_
  refine mvS rfl rfl rfl ?_
  refine mvI rfl rfl rfl ?_
  refine ixRq (zn := i) ((Math.sets z nws p).getD i []) el27 ((Kn.at_ 0 rfl).imp fun _ h => OwnR.rd h maK.ok) (fun _ h => h.pick [1, 1]) rfl rfl rfl rfl (by omega) (by omega) rfl (nth [] (by omega)) ?_
  intro be2 oe2 e2
  refine ldq Tryd.isAgg50 (Kn.fld e2 0 rfl) rfl rfl rfl ?_
  refine ixIq (zn := 0) el50 ((Kn.imp ((Kn.at_ (φ := OwnR maK 50 2 ay1 ny1 cy1 Hy1 (Math.sets z nws p)) 0 rfl).imp fun _ h => OwnR.rd h maK.ok) fun _ h => h.kidM (nth [] (by omega)))) (fun _ h => h.pick [1, 1]) rfl rfl rfl rfl (by omega) (by omega) rfl ?_
  intro ae3 e3
  refine ldq Tryd.isAgg2 (e3) rfl rfl rfl ?_
  refine ixRq (zn := (((((Math.sets z nws p).getD i [])).getD 0 0)).toNat) (z.getD ((((((Math.sets z nws p).getD i [])).getD 0 0)).toNat) dN) el24 (Kn.drop (k := 2) kz) (fun _ h => h.pick [1, 1]) rfl rfl rfl rfl (by omega) (by omega) rfl (nth dN (by omega)) ?_
  intro be4 oe4 e4
  refine fld fl52_4 rfl rfl rfl ?_
  refine ldq Tryd.isAgg50 (Kn.fld e4 4 rfl) rfl rfl rfl ?_
  refine lenS Tryd.runUnderlying50 rfl rfl rfl ?_
  refine bsl (fun _ _ h => h.pick [2, 2]) rfl rfl rfl (bsl50_1 (.int .i64 _) rfl) (fun bkl4 hbkl4 => ?_)
  refine aplI (N := q) (x := ((((z.getD ((((((Math.sets z nws p).getD i [])).getD 0 0)).toNat) dN).ch).length : Nat) : Int)) 1 0 rfl rfl mk50 (fun _ _ h => h.pick [2, 2]) rfl rfl rfl rfl (by omega) ?_
  intro aq5 cq5
  refine asS rfl rfl rfl ?_
  refine rNil ?_
  refine qSeq rfl ?_
  refine hReg (sq 0 (sq 1 (sq 2 sz))) (by kernel_rfl) ?_
  refine mvI rfl rfl rfl ?_
  refine add rfl rfl rfl rfl (by omega) ?_
  refine asI rfl rfl rfl ?_
  refine rNil ?_
  rw [← Math.sizes_step (by omega)]
  exact qNext rfl ((i + 1, q + 1, (aq5, cq5))) (by dsimp only; omega) ⟨by dsimp only; omega, by dsimp only; omega⟩ ⟨rfl, rfl, rfl, rfl, trivial⟩ (fun _ h => h.pick [1, 1, 1])
 ·
  replace c1 : ¬ ((i : Int) < (ny1 : Int)) := c1
  refine hExit rfl ?_
  refine qSeq rfl ?_
  refine hSeq ?_
  refine hReg (sq 0 (sq 1 sz)) (by kernel_rfl) ?_
  refine mvS rfl rfl rfl ?_
  refine asS rfl rfl rfl ?_
  refine rNil ?_
  refine qSeq rfl ?_
  refine hRet ?_
  exact fun w hs => ⟨[.slice hd.1 q hd.2], ⟨rfl, trivial⟩, ⟨(hd.1, q, hd.2, (Math.sizes z ((Math.sets z nws p).take i))), rfl, by rw [List.take_of_length_le (by omega)], hs.pick [0]⟩⟩
theorem impl_isStrategy_c (az : Option Addr) (nz : Nat) (cz : Nat) (Hz : Nat → Hd) (z : List Nd) (aws : Option Addr) (nws : Nat) (cws : Nat) (Hws : Nat → Hd) (ws : List (List Int)) (avs : Option Addr) (nvs : Nat) (cvs : Nat) (Hvs : Nat → Hd) (vs : List (List Int)) (pl : Int) (aps : Option Addr) (nps : Nat) (cps : Nat) (Hps : Nat → Hd) (ps : List (List Int)) (w : World) (rz : RdR ndK az nz Hz z w) (rws : RdR maK aws nws Hws ws w) (rvs : RdR maK avs nvs Hvs vs w) (rps : RdR maK aps nps Hps ps w) (hg : Math.isGame z ws vs = true) :
  Calls Tryd.prog 44 #[.agg #[.slice az nz cz, .slice aws nws cws, .slice avs nvs cvs], .agg #[.int .i64 pl, .slice aps nps cps]] w (Ret fun v w' => v = .bool ((Math.partsB z (Math.sets z nws pl) ps)) ∧ Ext w w') := by
 have kz : Kn w none_ [] (RdR ndK az nz Hz z) := fun w' hs => rz.ext hs.upd
 have lz : z.length = nz := rz.1
 have mz : nz ≤ 9223372036854775807 := rz.2.1
 have kws : Kn w none_ [] (RdR maK aws nws Hws ws) := fun w' hs => rws.ext hs.upd
 have lws : ws.length = nws := rws.1
 have mws : nws ≤ 9223372036854775807 := rws.2.1
 have kvs : Kn w none_ [] (RdR maK avs nvs Hvs vs) := fun w' hs => rvs.ext hs.upd
 have lvs : vs.length = nvs := rvs.1
 have mvs : nvs ≤ 9223372036854775807 := rvs.2.1
 have kps : Kn w none_ [] (RdR maK aps nps Hps ps) := fun w' hs => rps.ext hs.upd
 have lps : ps.length = nps := rps.1
 have mps : nps ≤ 9223372036854775807 := rps.2.1
 have hG := Math.isGame_ok hg
 rw [lws] at hG
 have hT := Math.isTree_ok hG.1
 have hvl := Math.mat_len hG.2.2.2.1
 have hsl := Math.sets_len (z := z) (p := pl) (show nws ≤ 6 by omega)
 refine fn (M := none_) (rs := [.tmp 4]) Tryd.func44 rfl Tryd.ntmps44 rfl rfl (Sep.start _ _) ?_
 refine hSeq ?_
 refine hReg (sl 0 (sl 1 (sq 2 sz))) (by kernel_rfl) ?_
 refine box trv1 rfl rfl rfl rfl (fun bkb1 hbkb1 => ?_)
 refine box trv1 rfl rfl rfl rfl (fun bkb2 hbkb2 => ?_)
 refine asB rfl rfl rfl ?_
 refine rNil ?_
 refine qSeq rfl ?_
 refine hSeq ?_
 refine hReg (sl 0 (sq 1 (sl 2 (sl 3 (sq 4 sz))))) (by kernel_rfl) ?_
 refine ldAl Tryd.isAgg29 Tryd.sizeOf29 (cBs 1 rfl) trv rfl rfl rfl rfl ?_
 refine fld fl31_0 rfl rfl rfl ?_
 refine ldl Tryd.isAgg2 (cB 0 rfl rfl) trv rfl rfl rfl ?_
 refine callS Tryd.call35 trv1 rfl rfl (fun w hs => impl_infoSets_c _ nz cz _ _ _ nws cws _ _ _ nvs cvs _ _ _ w (Kn.drop (k := 2) kz w hs) (Kn.drop (k := 2) kws w hs) (Kn.drop (k := 2) kvs w hs) (by omega) (by omega)) ?_
 rintro ⟨ay1, ny1, cy1, Hy1, y1⟩ hr1
 dsimp only at hr1
 subst y1
 refine rKnow (fun w hs => (show OwnR maK 50 2 ay1 ny1 cy1 Hy1 (Math.sets z nws pl) w from hs.at_ 0 rfl).1) (fun lenn3 => ?_)
 refine asS rfl rfl rfl ?_
 refine rNil ?_
 refine qSeq rfl ?_
 refine hSeq ?_
 refine hSeq ?_
 refine hReg (sq 0 (sl 1 (sq 2 (sq 3 (sq 4 (sq 5 sz)))))) (by kernel_rfl) ?_
 refine fld fl31_1 rfl rfl rfl ?_
 refine ldl Tryd.isAgg27 (cB 1 rfl rfl) trv rfl rfl rfl ?_
 refine lenS Tryd.runUnderlying27 rfl rfl rfl ?_
 refine mvS rfl rfl rfl ?_
 refine lenS Tryd.runUnderlying27 rfl rfl rfl ?_
 refine neq rfl rfl rfl rfl ?_
 refine rNil ?_
 refine qSeq rfl ?_
 refine hIfD rfl (fun c1 => ?_) (fun c1 => ?_)
 ·
  replace c1 : (nps : Int) ≠ (ny1 : Int) := c1
  refine hSeq ?_
  refine hReg (sq 0 sz) (by kernel_rfl) ?_
  refine asB rfl rfl rfl ?_
  refine rNil ?_
  refine qSeq rfl ?_
  refine hRet ?_
  exact fun w hs => ⟨[.bool false], ⟨rfl, trivial⟩, ⟨bB (Math.parts_no0 (by omega)).symm, hs.upd⟩⟩
 ·
  replace c1 : ¬ ((nps : Int) ≠ (ny1 : Int)) := c1
  refine hSkip ?_
  refine qSeq rfl ?_
  refine hSeq ?_
  refine hSeq ?_
  refine hReg (sq 0 (sq 1 (sq 2 sz))) (by kernel_rfl) ?_
  refine mvS rfl rfl rfl ?_
  refine lenS Tryd.runUnderlying27 rfl rfl rfl ?_
  refine mvI rfl rfl rfl ?_
  refine rNil ?_
  refine qSeq rfl ?_
  refine hBlk ?_
  refine hLoop (α := Nat) (fun i => i ≤ ny1 ∧ ∀ j, j < i → Math.partB z ((Math.sets z nws pl).getD j []) (ps.getD j []) = true) (fun i => ny1 - i) (fun i => [OwnR maK 50 2 ay1 ny1 cy1 Hy1 (Math.sets z nws pl), blk bkb2 31 [.int .i64 pl, .slice aps nps cps], blk bkb1 29 [.slice az nz cz, .slice aws nws cws, .slice avs nvs cvs]]) (fun i => [(2, .pointer (some ⟨bkb1, 0, none⟩)), (3, .pointer (some ⟨bkb2, 0, none⟩)), (19, .slice ay1 ny1 cy1), (20, .int .i64 (ny1 : Int)), (21, .int .i64 (i : Int))]) 0 ⟨Nat.zero_le _, fun j hj => by omega⟩ (fun _ h => h.pick [0, 0, 0]) ⟨rfl, rfl, rfl, rfl, rfl, trivial⟩ ?_
  rintro i τ1 ⟨hi, hal⟩
  refine hSeq ?_
  refine hReg (sq 0 sz) (by kernel_rfl) ?_
  refine lss rfl rfl rfl rfl ?_
  refine rNil ?_
  refine qSeq rfl ?_
  refine hSeq ?_
  refine hIfD rfl (fun c2 => ?_) (fun c2 => ?_)
  ·
   replace c2 : (i : Int) < (ny1 : Int) := c2
   have hsa := Math.sets_at (z := z) (k := nws) (p := pl) (i := i) (by omega)
   have hwd : Math.wide z ((Math.sets z nws pl).getD i []) ≤ 4 := Math.wide_le hg hsa.2.1
   have hwq : Math.wide z ((Math.sets z nws pl).getD i []) = (z.getD (((Math.sets z nws pl).getD i []).getD 0 0).toNat dN).ch.length := rfl
   refine hSkip ?_
   refine qSeq rfl ?_
   refine hSeq ?_
   refine hBlk ?_
   refine hSeq ?_
   refine hReg (sq 0 (sq 1 (sl 2 (sq 3 (sq 4 sz))))) (by kernel_rfl) ?_
   refine mvI rfl rfl rfl ?_
   refine ixRl (zn := i) ((Math.sets z nws pl).getD i []) el27 ((Kn.at_ 0 rfl).imp fun _ h => OwnR.rd h maK.ok) rfl rfl rfl rfl (by omega) (by omega) rfl (nth [] (by omega)) ?_
   intro be2 oe2 e2
   refine ldl Tryd.isAgg50 (Kn.fld e2 0 rfl) trv rfl rfl rfl ?_
   refine asI rfl rfl rfl ?_
   refine asS rfl rfl rfl ?_
   refine rNil ?_
   refine qSeq rfl ?_
   refine hSeq ?_
   refine hReg (sq 0 (sl 1 (sq 2 (sq 3 (sl 4 (sq 5 sz)))))) (by kernel_rfl) ?_
   refine fld fl31_1 rfl rfl rfl ?_
   refine ldl Tryd.isAgg27 (cB 1 rfl rfl) trv rfl rfl rfl ?_
   refine mvI rfl rfl rfl ?_
   refine ixRl (zn := i) (ps.getD i []) el27 (Kn.drop (k := 3) kps) rfl rfl rfl rfl (by omega) (by omega) rfl (nth [] (by omega)) ?_
   intro be3 oe3 e3
   refine ldl Tryd.isAgg50 (Kn.fld e3 0 rfl) trv rfl rfl rfl ?_
   refine asS rfl rfl rfl ?_
   refine rNil ?_
   refine qSeq rfl ?_
   refine hSeq ?_
   refine hDraw (Ls := [OwnR maK 50 2 ay1 ny1 cy1 Hy1 (Math.sets z nws pl), blk bkb2 31 [.int .i64 pl, .slice aps nps cps], blk bkb1 29 [.slice az nz cz, .slice aws nws cws, .slice avs nvs cvs]]) (by kernel_rfl) (sq 0 (sq 1 (sq 2 (sq 3 (sq 4 (sq 5 (sq 6 (sq 7 (sq 8 (sq 9 (sq 10 (sq 11 (sq 12 (sq 13 (sq 14 (sl 15 (sq 16 (sq 17 (sq 18 (sq 19 (sl 20 (sq 21 (sq 22 sz))))))))))))))))))))))) (by kernel_rfl) (.cons_cons _ (.cons_cons _ (.cons_cons _ .slnil))) ?_
   refine mvS rfl rfl rfl ?_
   refine lenS Tryd.runUnderlying50 rfl rfl rfl ?_
   refine fld fl29_0 rfl rfl rfl ?_
   refine fld fl26_0 rfl rfl rfl ?_
   refine ldq Tryd.isAgg24 (cB 2 rfl rfl) rfl rfl rfl ?_
   refine mvS rfl rfl rfl ?_
   refine ixIq (zn := 0) el50 ((Kn.imp ((Kn.at_ (φ := OwnR maK 50 2 ay1 ny1 cy1 Hy1 (Math.sets z nws pl)) 0 rfl).imp fun _ h => OwnR.rd h maK.ok) fun _ h => h.kidM (nth [] (by omega)))) (fun _ h => h.pick [0, 0, 0]) rfl rfl rfl rfl (by omega) (by omega) rfl ?_
   intro ae4 e4
   refine ldq Tryd.isAgg2 (e4) rfl rfl rfl ?_
   refine ixRq (zn := (((((Math.sets z nws pl).getD i [])).getD 0 0)).toNat) (z.getD ((((((Math.sets z nws pl).getD i [])).getD 0 0)).toNat) dN) el24 (Kn.drop (k := 3) kz) (fun _ h => h.pick [0, 0, 0]) rfl rfl rfl rfl (by omega) (by omega) rfl (nth dN (by omega)) ?_
   intro be5 oe5 e5
   refine fld fl52_4 rfl rfl rfl ?_
   refine ldq Tryd.isAgg50 (Kn.fld e5 4 rfl) rfl rfl rfl ?_
   refine lenS Tryd.runUnderlying50 rfl rfl rfl ?_
   refine neq rfl rfl rfl rfl ?_
   refine mvB rfl rfl rfl ?_
   refine rBoolD (d := 44) rfl (fun g3 => ?_) (fun g3 => ?_)
   ·
    replace g3 : (((ps.getD i []).length : Nat) : Int) ≠ ((((z.getD ((((((Math.sets z nws pl).getD i [])).getD 0 0)).toNat) dN).ch).length : Nat) : Int) := g3
    refine rSkipQ rfl rfl ?_
    refine rSkipL (fun _ h => h.pick [0, 0, 0]) rfl rfl ?_
    refine rSkipQ rfl rfl ?_
    refine pickB rfl rfl rfl rfl ?_
    refine mvB rfl rfl rfl ?_
    refine rSkipQ rfl rfl ?_
    refine rSkipL (fun _ h => h.pick [0, 0, 0]) rfl rfl ?_
    refine rSkipQ rfl rfl ?_
    refine pickB rfl rfl rfl rfl ?_
    refine rNil ?_
    refine qSeq rfl ?_
    refine hIfT rfl ?_
    refine hSeq ?_
    refine hReg (sq 0 sz) (by kernel_rfl) ?_
    refine asB rfl rfl rfl ?_
    refine rNil ?_
    refine qSeq rfl ?_
    refine hRet ?_
    exact fun w hs => ⟨[.bool false], ⟨rfl, trivial⟩, ⟨bB (Math.parts_no (i := i) (by omega) (Math.part_no1 g3)).symm, hs.upd⟩⟩
   ·
    replace g3 : ¬ ((((ps.getD i []).length : Nat) : Int) ≠ ((((z.getD ((((((Math.sets z nws pl).getD i [])).getD 0 0)).toNat) dN).ch).length : Nat) : Int)) := g3
    refine mvS rfl rfl rfl ?_
    refine callP (v := .bool (((ps.getD i []).all (Math.inB (0 : Int) (60 : Int))))) Tryd.call52 (fun _ h => h.pick [0, 0, 0]) rfl rfl (fun w hs => impl_allWithin_c _ ((ps.getD i []).length) ((Hps i).2) _ _ _ w (Kn.drop (k := 3) ((Kn.imp kps fun _ h => h.kidM (nth [] (by omega)))) w hs)) ?_
    refine not rfl rfl rfl ?_
    refine pickB rfl rfl rfl rfl ?_
    refine mvB rfl rfl rfl ?_
    refine rBoolN (d := 49) rfl (fun g4 => ?_) (fun g4 => ?_)
    ·
     replace g4 : ((ps.getD i []).all (Math.inB (0 : Int) (60 : Int))) = false := g4
     refine rSkipQ rfl rfl ?_
     refine rSkipL (fun _ h => h.pick [0, 0, 0]) rfl rfl ?_
     refine rSkipQ rfl rfl ?_
     refine pickB rfl rfl rfl rfl ?_
     refine rNil ?_
     refine qSeq rfl ?_
     refine hIfT rfl ?_
     refine hSeq ?_
     refine hReg (sq 0 sz) (by kernel_rfl) ?_
     refine asB rfl rfl rfl ?_
     refine rNil ?_
     refine qSeq rfl ?_
     refine hRet ?_
     exact fun w hs => ⟨[.bool false], ⟨rfl, trivial⟩, ⟨bB (Math.parts_no (i := i) (by omega) (Math.part_no2 g4)).symm, hs.upd⟩⟩
    ·
     replace g4 : ((ps.getD i []).all (Math.inB (0 : Int) (60 : Int))) = true := g4
     have hb := Math.all60 g4
     refine mvS rfl rfl rfl ?_
     refine callP (v := .int .i64 ((ps.getD i []).sum)) Tryd.call59 (fun _ h => h.pick [0, 0, 0]) rfl rfl (fun w hs => impl_sumOf_c _ ((ps.getD i []).length) ((Hps i).2) _ w (Kn.drop (k := 3) ((Kn.imp kps fun _ h => h.kidM (nth [] (by omega)))) w hs) (by assumption) (by omega)) ?_
     refine neq rfl rfl rfl rfl ?_
     refine pickB rfl rfl rfl rfl ?_
     refine rNil ?_
     refine qSeq rfl ?_
     refine hIfD rfl (fun c5 => ?_) (fun c5 => ?_)
     ·
      replace c5 : (ps.getD i []).sum ≠ 60 := c5
      refine hSeq ?_
      refine hReg (sq 0 sz) (by kernel_rfl) ?_
      refine asB rfl rfl rfl ?_
      refine rNil ?_
      refine qSeq rfl ?_
      refine hRet ?_
      exact fun w hs => ⟨[.bool false], ⟨rfl, trivial⟩, ⟨bB (Math.parts_no (i := i) (by omega) (Math.part_no3 c5)).symm, hs.upd⟩⟩
     ·
      replace c5 : ¬ ((ps.getD i []).sum ≠ 60) := c5
      refine hSkip ?_
      refine qSeq rfl ?_
      refine hReg (sq 0 (sq 1 sz)) (by kernel_rfl) ?_
      refine add rfl rfl rfl rfl (by omega) ?_
      refine mvI rfl rfl rfl ?_
      refine rNil ?_
      exact qNext rfl (i + 1) (by omega) ⟨by omega, Math.upto hal (Math.part_yes (by omega) (by assumption) (by omega))⟩ ⟨rfl, rfl, rfl, rfl, rfl, trivial⟩ (fun _ h => h.pick [0, 0, 0])
  ·
   replace c2 : ¬ ((i : Int) < (ny1 : Int)) := c2
   refine hExit rfl ?_
   refine qSeq rfl ?_
   refine hSeq ?_
   refine hReg (sq 0 sz) (by kernel_rfl) ?_
   refine asB rfl rfl rfl ?_
   refine rNil ?_
   refine qSeq rfl ?_
   refine hRet ?_
   exact fun w hs => ⟨[.bool true], ⟨rfl, trivial⟩, ⟨bB (Math.parts_yes (by omega) fun j hj => hal j (by omega)).symm, hs.upd⟩⟩
theorem spec_IsStrategy_c (az : Option Addr) (nz : Nat) (cz : Nat) (Hz : Nat → Hd) (z : List Nd) (aws : Option Addr) (nws : Nat) (cws : Nat) (Hws : Nat → Hd) (ws : List (List Int)) (avs : Option Addr) (nvs : Nat) (cvs : Nat) (Hvs : Nat → Hd) (vs : List (List Int)) (pl : Int) (aps : Option Addr) (nps : Nat) (cps : Nat) (Hps : Nat → Hd) (ps : List (List Int)) (w : World) (rz : RdR ndK az nz Hz z w) (rws : RdR maK aws nws Hws ws w) (rvs : RdR maK avs nvs Hvs vs w) (rps : RdR maK aps nps Hps ps w) :
  Calls Tryd.prog 31 #[.agg #[.slice az nz cz, .slice aws nws cws, .slice avs nvs cvs], .agg #[.int .i64 pl, .slice aps nps cps]] w (Ret fun v w' => v = .bool (Math.isStrat z ws vs pl ps) ∧ Ext w w') := by
 have kz : Kn w none_ [] (RdR ndK az nz Hz z) := fun w' hs => rz.ext hs.upd
 have lz : z.length = nz := rz.1
 have mz : nz ≤ 9223372036854775807 := rz.2.1
 have kws : Kn w none_ [] (RdR maK aws nws Hws ws) := fun w' hs => rws.ext hs.upd
 have lws : ws.length = nws := rws.1
 have mws : nws ≤ 9223372036854775807 := rws.2.1
 have kvs : Kn w none_ [] (RdR maK avs nvs Hvs vs) := fun w' hs => rvs.ext hs.upd
 have lvs : vs.length = nvs := rvs.1
 have mvs : nvs ≤ 9223372036854775807 := rvs.2.1
 have kps : Kn w none_ [] (RdR maK aps nps Hps ps) := fun w' hs => rps.ext hs.upd
 have lps : ps.length = nps := rps.1
 have mps : nps ≤ 9223372036854775807 := rps.2.1
 refine fn (M := none_) (rs := [.tmp 4]) Tryd.func31 rfl Tryd.ntmps31 rfl rfl (Sep.start _ _) ?_
 refine hSeq ?_
 refine hReg (sl 0 (sl 1 (sq 2 sz))) (by kernel_rfl) ?_
 refine box trv1 rfl rfl rfl rfl (fun bkb1 hbkb1 => ?_)
 refine box trv1 rfl rfl rfl rfl (fun bkb2 hbkb2 => ?_)
 refine asB rfl rfl rfl ?_
 refine rNil ?_
 refine qSeq rfl ?_
 refine hSeq ?_
 refine hSeq ?_
 refine hReg (sl 0 (sl 1 (sq 2 (sq 3 (sq 4 (sl 5 (sl 6 (sq 7 (sq 8 sz))))))))) (by kernel_rfl) ?_
 refine ldAl Tryd.isAgg29 Tryd.sizeOf29 (cBs 1 rfl) trv rfl rfl rfl rfl ?_
 refine callP (v := .bool (Math.isGame z ws vs)) Tryd.call26 trv rfl rfl (fun w hs => spec_IsGame_c _ nz cz _ _ _ nws cws _ _ _ nvs cvs _ _ w (Kn.drop (k := 2) kz w hs) (Kn.drop (k := 2) kws w hs) (Kn.drop (k := 2) kvs w hs)) ?_
 refine not rfl rfl rfl ?_
 refine mvB rfl rfl rfl ?_
 refine rBoolN (d := 11) rfl (fun g1 => ?_) (fun g1 => ?_)
 ·
  replace g1 : (Math.isGame z ws vs) = false := g1
  refine rSkipQ rfl rfl ?_
  refine rSkipL trv rfl rfl ?_
  refine rSkipL trv rfl rfl ?_
  refine rSkipQ rfl rfl ?_
  refine pickB rfl rfl rfl rfl ?_
  refine rNil ?_
  refine qSeq rfl ?_
  refine hIfT rfl ?_
  refine hSeq ?_
  refine hReg (sq 0 sz) (by kernel_rfl) ?_
  refine asB rfl rfl rfl ?_
  refine rNil ?_
  refine qSeq rfl ?_
  refine hRet ?_
  exact fun w hs => ⟨[.bool false], ⟨rfl, trivial⟩, ⟨bB (Math.strat_no1 g1).symm, hs.upd⟩⟩
 ·
  replace g1 : (Math.isGame z ws vs) = true := g1
  refine fld fl31_0 rfl rfl rfl ?_
  refine ldl Tryd.isAgg2 (cB 0 rfl rfl) trv rfl rfl rfl ?_
  refine callP (v := .bool ((Math.inB (0 : Int) (1 : Int) pl))) Tryd.call32 trv rfl rfl (fun w hs => spec_l01In_c _ _ _ w ) ?_
  refine not rfl rfl rfl ?_
  refine pickB rfl rfl rfl rfl ?_
  refine rNil ?_
  refine qSeq rfl ?_
  refine hIfN rfl (fun c2 => ?_) (fun c2 => ?_)
  ·
   replace c2 : (Math.inB (0 : Int) (1 : Int) pl) = false := c2
   replace c2 : ¬ (0 ≤ pl ∧ pl ≤ 1) := of_decide_eq_false c2
   refine hSeq ?_
   refine hReg (sq 0 sz) (by kernel_rfl) ?_
   refine asB rfl rfl rfl ?_
   refine rNil ?_
   refine qSeq rfl ?_
   refine hRet ?_
   exact fun w hs => ⟨[.bool false], ⟨rfl, trivial⟩, ⟨bB (Math.strat_no2 c2).symm, hs.upd⟩⟩
  ·
   replace c2 : (Math.inB (0 : Int) (1 : Int) pl) = true := c2
   have hpl := of_decide_eq_true (show decide (0 ≤ pl ∧ pl ≤ 1) = true from c2)
   have hG := Math.isGame_ok g1
   rw [lws] at hG
   have hT := Math.isTree_ok hG.1
   have hvl := Math.mat_len hG.2.2.2.1
   have hsl := Math.sets_len (z := z) (p := pl) (show nws ≤ 6 by omega)
   refine hSkip ?_
   refine qSeq rfl ?_
   refine hSeq ?_
   refine hReg (sl 0 (sq 1 (sl 2 (sl 3 (sq 4 sz))))) (by kernel_rfl) ?_
   refine ldAl Tryd.isAgg29 Tryd.sizeOf29 (cBs 1 rfl) trv rfl rfl rfl rfl ?_
   refine fld fl31_0 rfl rfl rfl ?_
   refine ldl Tryd.isAgg2 (cB 0 rfl rfl) trv rfl rfl rfl ?_
   refine callS Tryd.call39 trv1 rfl rfl (fun w hs => spec_l21Sets_c _ nz cz _ _ _ nws cws _ _ _ nvs cvs _ _ _ w (Kn.drop (k := 2) kz w hs) (Kn.drop (k := 2) kws w hs) (Kn.drop (k := 2) kvs w hs) (by omega) (by omega)) ?_
   rintro ⟨ay1, ny1, cy1, Hy1, y1⟩ hr1
   dsimp only at hr1
   subst y1
   refine rKnow (fun w hs => (show OwnR maK 50 2 ay1 ny1 cy1 Hy1 (Math.sets z nws pl) w from hs.at_ 0 rfl).1) (fun lenn3 => ?_)
   refine asS rfl rfl rfl ?_
   refine rNil ?_
   refine qSeq rfl ?_
   refine hSeq ?_
   refine hSeq ?_
   refine hReg (sq 0 (sl 1 (sq 2 (sq 3 (sq 4 (sq 5 sz)))))) (by kernel_rfl) ?_
   refine fld fl31_1 rfl rfl rfl ?_
   refine ldl Tryd.isAgg27 (cB 1 rfl rfl) trv rfl rfl rfl ?_
   refine lenS Tryd.runUnderlying27 rfl rfl rfl ?_
   refine mvS rfl rfl rfl ?_
   refine lenS Tryd.runUnderlying27 rfl rfl rfl ?_
   refine neq rfl rfl rfl rfl ?_
   refine rNil ?_
   refine qSeq rfl ?_
   refine hIfD rfl (fun c3 => ?_) (fun c3 => ?_)
   ·
    replace c3 : (nps : Int) ≠ (ny1 : Int) := c3
    refine hSeq ?_
    refine hReg (sq 0 sz) (by kernel_rfl) ?_
    refine asB rfl rfl rfl ?_
    refine rNil ?_
    refine qSeq rfl ?_
    refine hRet ?_
    exact fun w hs => ⟨[.bool false], ⟨rfl, trivial⟩, ⟨bB (((Math.parts_no0 (by omega) : Math.partsB z (Math.sets z nws pl) ps = false)).symm.trans (Math.strat_in lws g1 (by omega)).symm), hs.upd⟩⟩
   ·
    replace c3 : ¬ ((nps : Int) ≠ (ny1 : Int)) := c3
    refine hSkip ?_
    refine qSeq rfl ?_
    refine hSeq ?_
    refine hSeq ?_
    refine hReg (sq 0 sz) (by kernel_rfl) ?_
    refine asI rfl rfl rfl ?_
    refine rNil ?_
    refine qSeq rfl ?_
    refine hBlk ?_
    refine hLoop (α := Nat) (fun i => i ≤ ny1 ∧ ∀ j, j < i → Math.partB z ((Math.sets z nws pl).getD j []) (ps.getD j []) = true) (fun i => ny1 - i) (fun i => [OwnR maK 50 2 ay1 ny1 cy1 Hy1 (Math.sets z nws pl), blk bkb2 31 [.int .i64 pl, .slice aps nps cps], blk bkb1 29 [.slice az nz cz, .slice aws nws cws, .slice avs nvs cvs]]) (fun i => [(2, .pointer (some ⟨bkb1, 0, none⟩)), (3, .pointer (some ⟨bkb2, 0, none⟩)), (5, .slice ay1 ny1 cy1), (6, .int .i64 (i : Int))]) 0 ⟨Nat.zero_le _, fun j hj => by omega⟩ (fun _ h => h.pick [0, 0, 0]) ⟨rfl, rfl, rfl, rfl, trivial⟩ ?_
    rintro i τ1 ⟨hi, hal⟩
    refine hSeq ?_
    refine hSeq ?_
    refine hReg (sq 0 (sq 1 (sq 2 (sq 3 sz)))) (by kernel_rfl) ?_
    refine mvI rfl rfl rfl ?_
    refine mvS rfl rfl rfl ?_
    refine lenS Tryd.runUnderlying27 rfl rfl rfl ?_
    refine lss rfl rfl rfl rfl ?_
    refine rNil ?_
    refine qSeq rfl ?_
    refine hIfD rfl (fun c4 => ?_) (fun c4 => ?_)
    ·
     replace c4 : (i : Int) < (ny1 : Int) := c4
     have hsa := Math.sets_at (z := z) (k := nws) (p := pl) (i := i) (by omega)
     have hwd : Math.wide z ((Math.sets z nws pl).getD i []) ≤ 4 := Math.wide_le g1 hsa.2.1
     have hwq : Math.wide z ((Math.sets z nws pl).getD i []) = (z.getD (((Math.sets z nws pl).getD i []).getD 0 0).toNat dN).ch.length := rfl
     refine hSkip ?_
     refine qSeq rfl ?_
     refine hSeq ?_
     refine hBlk ?_
     refine hSeq ?_
     refine hSeq ?_
     refine hDraw (Ls := [OwnR maK 50 2 ay1 ny1 cy1 Hy1 (Math.sets z nws pl), blk bkb2 31 [.int .i64 pl, .slice aps nps cps], blk bkb1 29 [.slice az nz cz, .slice aws nws cws, .slice avs nvs cvs]]) (by kernel_rfl) (sq 0 (sq 1 (sq 2 (sq 3 (sq 4 (sq 5 (sq 6 (sq 7 (sq 8 (sq 9 (sq 10 (sq 11 (sq 12 (sq 13 (sq 14 (sq 15 (sq 16 (sq 17 (sq 18 (sq 19 sz)))))))))))))))))))) (by kernel_rfl) (.cons_cons _ (.cons_cons _ (.cons_cons _ .slnil))) ?_
     refine fld fl31_1 rfl rfl rfl ?_
     refine ldq Tryd.isAgg27 (cB 1 rfl rfl) rfl rfl rfl ?_
     refine mvI rfl rfl rfl ?_
     refine ixRq (zn := i) (ps.getD i []) el27 (Kn.drop (k := 3) kps) (fun _ h => h.pick [0, 0, 0]) rfl rfl rfl rfl (by omega) (by omega) rfl (nth [] (by omega)) ?_
     intro be2 oe2 e2
     refine ldq Tryd.isAgg50 (Kn.fld e2 0 rfl) rfl rfl rfl ?_
     refine lenS Tryd.runUnderlying50 rfl rfl rfl ?_
     refine fld fl29_0 rfl rfl rfl ?_
     refine fld fl26_0 rfl rfl rfl ?_
     refine ldq Tryd.isAgg24 (cB 2 rfl rfl) rfl rfl rfl ?_
     refine mvS rfl rfl rfl ?_
     refine mvI rfl rfl rfl ?_
     refine ixRq (zn := i) ((Math.sets z nws pl).getD i []) el27 ((Kn.at_ 0 rfl).imp fun _ h => OwnR.rd h maK.ok) (fun _ h => h.pick [0, 0, 0]) rfl rfl rfl rfl (by omega) (by omega) rfl (nth [] (by omega)) ?_
     intro be3 oe3 e3
     refine ldq Tryd.isAgg50 (Kn.fld e3 0 rfl) rfl rfl rfl ?_
     refine ixIq (zn := 0) el50 ((Kn.imp ((Kn.at_ (φ := OwnR maK 50 2 ay1 ny1 cy1 Hy1 (Math.sets z nws pl)) 0 rfl).imp fun _ h => OwnR.rd h maK.ok) fun _ h => h.kidM (nth [] (by omega)))) (fun _ h => h.pick [0, 0, 0]) rfl rfl rfl rfl (by omega) (by omega) rfl ?_
     intro ae4 e4
     refine ldq Tryd.isAgg2 (e4) rfl rfl rfl ?_
     refine ixRq (zn := (((((Math.sets z nws pl).getD i [])).getD 0 0)).toNat) (z.getD ((((((Math.sets z nws pl).getD i [])).getD 0 0)).toNat) dN) el24 (Kn.drop (k := 3) kz) (fun _ h => h.pick [0, 0, 0]) rfl rfl rfl rfl (by omega) (by omega) rfl (nth dN (by omega)) ?_
     intro be5 oe5 e5
     refine fld fl52_4 rfl rfl rfl ?_
     refine ldq Tryd.isAgg50 (Kn.fld e5 4 rfl) rfl rfl rfl ?_
     refine lenS Tryd.runUnderlying50 rfl rfl rfl ?_
     refine neq rfl rfl rfl rfl ?_
     refine rNil ?_
     refine qSeq rfl ?_
     refine hIfD rfl (fun c5 => ?_) (fun c5 => ?_)
     ·
      replace c5 : (((ps.getD i []).length : Nat) : Int) ≠ ((((z.getD ((((((Math.sets z nws pl).getD i [])).getD 0 0)).toNat) dN).ch).length : Nat) : Int) := c5
      refine hSeq ?_
      refine hReg (sq 0 sz) (by kernel_rfl) ?_
      refine asB rfl rfl rfl ?_
      refine rNil ?_
      refine qSeq rfl ?_
      refine hRet ?_
      exact fun w hs => ⟨[.bool false], ⟨rfl, trivial⟩, ⟨bB (((Math.parts_no (i := i) (by omega) (Math.part_no1 c5) : Math.partsB z (Math.sets z nws pl) ps = false)).symm.trans (Math.strat_in lws g1 (by omega)).symm), hs.upd⟩⟩
     ·
      replace c5 : ¬ ((((ps.getD i []).length : Nat) : Int) ≠ ((((z.getD ((((((Math.sets z nws pl).getD i [])).getD 0 0)).toNat) dN).ch).length : Nat) : Int)) := c5
      refine hSkip ?_
      refine qSeq rfl ?_
      refine hSeq ?_
      refine hSeq ?_
      refine hReg (sq 0 sz) (by kernel_rfl) ?_
      refine asI rfl rfl rfl ?_
      refine rNil ?_
      refine qSeq rfl ?_
      refine hBlk ?_
      refine hLoop (α := Nat) (fun j => j ≤ (ps.getD i []).length ∧ ∀ q, q < j → Math.inB 0 60 ((ps.getD i []).getD q 0) = true) (fun j => (ps.getD i []).length - j) (fun j => [OwnR maK 50 2 ay1 ny1 cy1 Hy1 (Math.sets z nws pl), blk bkb2 31 [.int .i64 pl, .slice aps nps cps], blk bkb1 29 [.slice az nz cz, .slice aws nws cws, .slice avs nvs cvs]]) (fun j => [(2, .pointer (some ⟨bkb1, 0, none⟩)), (3, .pointer (some ⟨bkb2, 0, none⟩)), (5, .slice ay1 ny1 cy1), (6, .int .i64 (i : Int)), (7, .int .i64 (j : Int))]) 0 ⟨Nat.zero_le _, fun q hq => by omega⟩ (fun _ h => h.pick [0, 0, 0]) ⟨rfl, rfl, rfl, rfl, rfl, trivial⟩ ?_
      rintro j τ2 ⟨hj, hin⟩
      refine hSeq ?_
      refine hSeq ?_
      refine hReg (sq 0 (sq 1 (sl 2 (sq 3 (sq 4 (sl 5 (sq 6 (sq 7 sz)))))))) (by kernel_rfl) ?_
      refine mvI rfl rfl rfl ?_
      refine fld fl31_1 rfl rfl rfl ?_
      refine ldl Tryd.isAgg27 (cB 1 rfl rfl) trv rfl rfl rfl ?_
      refine mvI rfl rfl rfl ?_
      refine ixRl (zn := i) (ps.getD i []) el27 (Kn.drop (k := 3) kps) rfl rfl rfl rfl (by omega) (by omega) rfl (nth [] (by omega)) ?_
      intro be6 oe6 e6
      refine ldl Tryd.isAgg50 (Kn.fld e6 0 rfl) trv rfl rfl rfl ?_
      refine lenS Tryd.runUnderlying50 rfl rfl rfl ?_
      refine lss rfl rfl rfl rfl ?_
      refine rNil ?_
      refine qSeq rfl ?_
      refine hIfD rfl (fun c6 => ?_) (fun c6 => ?_)
      ·
       replace c6 : (j : Int) < (((ps.getD i []).length : Nat) : Int) := c6
       refine hSkip ?_
       refine qSeq rfl ?_
       refine hSeq ?_
       refine hBlk ?_
       refine hSeq ?_
       refine hReg (sq 0 (sl 1 (sq 2 (sq 3 (sl 4 (sq 5 (sq 6 (sl 7 (sl 8 (sq 9 sz)))))))))) (by kernel_rfl) ?_
       refine fld fl31_1 rfl rfl rfl ?_
       refine ldl Tryd.isAgg27 (cB 1 rfl rfl) trv rfl rfl rfl ?_
       refine mvI rfl rfl rfl ?_
       refine ixRl (zn := i) (ps.getD i []) el27 (Kn.drop (k := 3) kps) rfl rfl rfl rfl (by omega) (by omega) rfl (nth [] (by omega)) ?_
       intro be7 oe7 e7
       refine ldl Tryd.isAgg50 (Kn.fld e7 0 rfl) trv rfl rfl rfl ?_
       refine mvI rfl rfl rfl ?_
       refine ixIl (zn := j) el50 (Kn.drop (k := 3) ((Kn.imp kps fun _ h => h.kidM (nth [] (by omega))))) rfl rfl rfl rfl (by omega) (by omega) rfl ?_
       intro ae8 e8
       refine ldl Tryd.isAgg2 (e8) trv rfl rfl rfl ?_
       refine callP (v := .bool ((Math.inB (0 : Int) (60 : Int) (((ps.getD i []).getD j 0))))) Tryd.call32 trv rfl rfl (fun w hs => spec_l01In_c _ _ _ w ) ?_
       refine not rfl rfl rfl ?_
       refine rNil ?_
       refine qSeq rfl ?_
       refine hIfN rfl (fun c7 => ?_) (fun c7 => ?_)
       ·
        replace c7 : (Math.inB (0 : Int) (60 : Int) (((ps.getD i []).getD j 0))) = false := c7
        refine hSeq ?_
        refine hReg (sq 0 sz) (by kernel_rfl) ?_
        refine asB rfl rfl rfl ?_
        refine rNil ?_
        refine qSeq rfl ?_
        refine hRet ?_
        exact fun w hs => ⟨[.bool false], ⟨rfl, trivial⟩, ⟨bB (((Math.parts_no (i := i) (by omega) (Math.part_no2 (Math.all_no 0 (i := j) (by omega) c7)) : Math.partsB z (Math.sets z nws pl) ps = false)).symm.trans (Math.strat_in lws g1 (by omega)).symm), hs.upd⟩⟩
       ·
        replace c7 : (Math.inB (0 : Int) (60 : Int) (((ps.getD i []).getD j 0))) = true := c7
        refine hSkip ?_
        refine qSeq rfl ?_
        refine hReg (sq 0 (sq 1 (sq 2 sz))) (by kernel_rfl) ?_
        refine mvI rfl rfl rfl ?_
        refine add rfl rfl rfl rfl (by omega) ?_
        refine asI rfl rfl rfl ?_
        refine rNil ?_
        exact qNext rfl (j + 1) (by omega) ⟨by omega, Math.upto hin (by assumption)⟩ ⟨rfl, rfl, rfl, rfl, rfl, trivial⟩ (fun _ h => h.pick [0, 0, 0])
      ·
       replace c6 : ¬ ((j : Int) < (((ps.getD i []).length : Nat) : Int)) := c6
       have hb2 : (ps.getD i []).all (Math.inB 0 60) = true := (Math.all_getD 0).2 fun q hq => hin q (by omega)
       have hb := Math.all60 hb2
       refine hExit rfl ?_
       refine qSeq rfl ?_
       refine hSeq ?_
       refine hReg (sq 0 (sl 1 (sq 2 (sq 3 (sl 4 (sl 5 (sq 6 sz))))))) (by kernel_rfl) ?_
       refine fld fl31_1 rfl rfl rfl ?_
       refine ldl Tryd.isAgg27 (cB 1 rfl rfl) trv rfl rfl rfl ?_
       refine mvI rfl rfl rfl ?_
       refine ixRl (zn := i) (ps.getD i []) el27 (Kn.drop (k := 3) kps) rfl rfl rfl rfl (by omega) (by omega) rfl (nth [] (by omega)) ?_
       intro be9 oe9 e9
       refine ldl Tryd.isAgg50 (Kn.fld e9 0 rfl) trv rfl rfl rfl ?_
       refine callP (v := .int .i64 ((ps.getD i []).sum)) Tryd.call62 trv rfl rfl (fun w hs => spec_l01Sum_c _ ((ps.getD i []).length) ((Hps i).2) _ w (Kn.drop (k := 3) ((Kn.imp kps fun _ h => h.kidM (nth [] (by omega)))) w hs) (by assumption) (by omega)) ?_
       refine neq rfl rfl rfl rfl ?_
       refine rNil ?_
       refine qSeq rfl ?_
       refine hIfD rfl (fun c8 => ?_) (fun c8 => ?_)
       ·
        replace c8 : (ps.getD i []).sum ≠ 60 := c8
        refine hSeq ?_
        refine hReg (sq 0 sz) (by kernel_rfl) ?_
        refine asB rfl rfl rfl ?_
        refine rNil ?_
        refine qSeq rfl ?_
        refine hRet ?_
        exact fun w hs => ⟨[.bool false], ⟨rfl, trivial⟩, ⟨bB (((Math.parts_no (i := i) (by omega) (Math.part_no3 c8) : Math.partsB z (Math.sets z nws pl) ps = false)).symm.trans (Math.strat_in lws g1 (by omega)).symm), hs.upd⟩⟩
       ·
        replace c8 : ¬ ((ps.getD i []).sum ≠ 60) := c8
        refine hSkip ?_
        refine qSeq rfl ?_
        refine hReg (sq 0 (sq 1 (sq 2 sz))) (by kernel_rfl) ?_
        refine mvI rfl rfl rfl ?_
        refine add rfl rfl rfl rfl (by omega) ?_
        refine asI rfl rfl rfl ?_
        refine rNil ?_
        exact qNext rfl (i + 1) (by omega) ⟨by omega, Math.upto hal (Math.part_yes (by omega) hb2 (by omega))⟩ ⟨rfl, rfl, rfl, rfl, trivial⟩ (fun _ h => h.pick [0, 0, 0])
    ·
     replace c4 : ¬ ((i : Int) < (ny1 : Int)) := c4
     refine hExit rfl ?_
     refine qSeq rfl ?_
     refine hSeq ?_
     refine hReg (sq 0 sz) (by kernel_rfl) ?_
     refine asB rfl rfl rfl ?_
     refine rNil ?_
     refine qSeq rfl ?_
     refine hRet ?_
     exact fun w hs => ⟨[.bool true], ⟨rfl, trivial⟩, ⟨bB (((Math.parts_yes (by omega) (fun j hj => hal j (by omega)) : Math.partsB z (Math.sets z nws pl) ps = true)).symm.trans (Math.strat_in lws g1 (by omega)).symm), hs.upd⟩⟩
theorem impl_IsStrategy_c (az : Option Addr) (nz : Nat) (cz : Nat) (Hz : Nat → Hd) (z : List Nd) (aws : Option Addr) (nws : Nat) (cws : Nat) (Hws : Nat → Hd) (ws : List (List Int)) (avs : Option Addr) (nvs : Nat) (cvs : Nat) (Hvs : Nat → Hd) (vs : List (List Int)) (pl : Int) (aps : Option Addr) (nps : Nat) (cps : Nat) (Hps : Nat → Hd) (ps : List (List Int)) (w : World) (rz : RdR ndK az nz Hz z w) (rws : RdR maK aws nws Hws ws w) (rvs : RdR maK avs nvs Hvs vs w) (rps : RdR maK aps nps Hps ps w) :
  Calls Tryd.prog 13 #[.agg #[.slice az nz cz, .slice aws nws cws, .slice avs nvs cvs], .agg #[.int .i64 pl, .slice aps nps cps]] w (Ret fun v w' => v = .bool (Math.isStrat z ws vs pl ps) ∧ Ext w w') := by
 have kz : Kn w none_ [] (RdR ndK az nz Hz z) := fun w' hs => rz.ext hs.upd
 have lz : z.length = nz := rz.1
 have mz : nz ≤ 9223372036854775807 := rz.2.1
 have kws : Kn w none_ [] (RdR maK aws nws Hws ws) := fun w' hs => rws.ext hs.upd
 have lws : ws.length = nws := rws.1
 have mws : nws ≤ 9223372036854775807 := rws.2.1
 have kvs : Kn w none_ [] (RdR maK avs nvs Hvs vs) := fun w' hs => rvs.ext hs.upd
 have lvs : vs.length = nvs := rvs.1
 have mvs : nvs ≤ 9223372036854775807 := rvs.2.1
 have kps : Kn w none_ [] (RdR maK aps nps Hps ps) := fun w' hs => rps.ext hs.upd
 have lps : ps.length = nps := rps.1
 have mps : nps ≤ 9223372036854775807 := rps.2.1
 refine fn (M := none_) (rs := [.tmp 4]) Tryd.func13 rfl Tryd.ntmps13 rfl rfl (Sep.start _ _) ?_
 refine hSeq ?_
 refine hReg (sl 0 (sl 1 (sq 2 sz))) (by kernel_rfl) ?_
 refine box trv1 rfl rfl rfl rfl (fun bkb1 hbkb1 => ?_)
 refine box trv1 rfl rfl rfl rfl (fun bkb2 hbkb2 => ?_)
 refine asB rfl rfl rfl ?_
 refine rNil ?_
 refine qSeq rfl ?_
 refine hSeq ?_
 refine hSeq ?_
 refine hReg (sl 0 (sl 1 (sq 2 (sq 3 (sq 4 (sl 5 (sl 6 (sq 7 (sq 8 sz))))))))) (by kernel_rfl) ?_
 refine ldAl Tryd.isAgg29 Tryd.sizeOf29 (cBs 1 rfl) trv rfl rfl rfl rfl ?_
 refine callP (v := .bool (Math.isGame z ws vs)) Tryd.call43 trv rfl rfl (fun w hs => impl_IsGame_c _ nz cz _ _ _ nws cws _ _ _ nvs cvs _ _ w (Kn.drop (k := 2) kz w hs) (Kn.drop (k := 2) kws w hs) (Kn.drop (k := 2) kvs w hs)) ?_
 refine not rfl rfl rfl ?_
 refine mvB rfl rfl rfl ?_
 refine rBoolN (d := 8) rfl (fun g1 => ?_) (fun g1 => ?_)
 ·
  replace g1 : (Math.isGame z ws vs) = false := g1
  refine rSkipQ rfl rfl ?_
  refine rSkipL trv rfl rfl ?_
  refine rSkipL trv rfl rfl ?_
  refine rSkipQ rfl rfl ?_
  refine pickB rfl rfl rfl rfl ?_
  refine rNil ?_
  refine qSeq rfl ?_
  refine hIfT rfl ?_
  refine hSeq ?_
  refine hReg (sq 0 sz) (by kernel_rfl) ?_
  refine asB rfl rfl rfl ?_
  refine rNil ?_
  refine qSeq rfl ?_
  refine hRet ?_
  exact fun w hs => ⟨[.bool false], ⟨rfl, trivial⟩, ⟨bB (Math.strat_no1 g1).symm, hs.upd⟩⟩
 ·
  replace g1 : (Math.isGame z ws vs) = true := g1
  refine fld fl31_0 rfl rfl rfl ?_
  refine ldl Tryd.isAgg2 (cB 0 rfl rfl) trv rfl rfl rfl ?_
  refine callP (v := .bool ((Math.inB (0 : Int) (1 : Int) pl))) Tryd.call29 trv rfl rfl (fun w hs => impl_within_c _ _ _ w ) ?_
  refine not rfl rfl rfl ?_
  refine pickB rfl rfl rfl rfl ?_
  refine rNil ?_
  refine qSeq rfl ?_
  refine hIfN rfl (fun c2 => ?_) (fun c2 => ?_)
  ·
   replace c2 : (Math.inB (0 : Int) (1 : Int) pl) = false := c2
   replace c2 : ¬ (0 ≤ pl ∧ pl ≤ 1) := of_decide_eq_false c2
   refine hSeq ?_
   refine hReg (sq 0 sz) (by kernel_rfl) ?_
   refine asB rfl rfl rfl ?_
   refine rNil ?_
   refine qSeq rfl ?_
   refine hRet ?_
   exact fun w hs => ⟨[.bool false], ⟨rfl, trivial⟩, ⟨bB (Math.strat_no2 c2).symm, hs.upd⟩⟩
  ·
   replace c2 : (Math.inB (0 : Int) (1 : Int) pl) = true := c2
   have hpl := of_decide_eq_true (show decide (0 ≤ pl ∧ pl ≤ 1) = true from c2)
   refine hSkip ?_
   refine qSeq rfl ?_
   refine hSeq ?_
   refine hReg (sl 0 (sl 1 (sl 2 (sq 3 sz)))) (by kernel_rfl) ?_
   refine ldAl Tryd.isAgg29 Tryd.sizeOf29 (cBs 1 rfl) trv rfl rfl rfl rfl ?_
   refine ldAl Tryd.isAgg31 Tryd.sizeOf31 (cBs 0 rfl) trv rfl rfl rfl rfl ?_
   refine callP (v := .bool ((Math.partsB z (Math.sets z nws pl) ps))) Tryd.call44 trv rfl rfl (fun w hs => impl_isStrategy_c _ nz cz _ _ _ nws cws _ _ _ nvs cvs _ _ _ _ nps cps _ _ w (Kn.drop (k := 2) kz w hs) (Kn.drop (k := 2) kws w hs) (Kn.drop (k := 2) kvs w hs) (Kn.drop (k := 2) kps w hs) (by assumption)) ?_
   refine asB rfl rfl rfl ?_
   refine rNil ?_
   refine qSeq rfl ?_
   refine hRet ?_
   exact fun w hs => ⟨[.bool ((Math.partsB z (Math.sets z nws pl) ps))], ⟨rfl, trivial⟩, ⟨bB (Math.strat_in lws g1 hpl).symm, hs.upd⟩⟩
end Go.Proofs.YtjengglpbdgmnaaDoor
