/- Contracts of games. Their conditions stand in each. -/
import Derived.Test.YtjengglpbdgmnaaZ6Nu
import Derived.Test.YtjengglpbdgmnaaZ2Nu
import Derived.Test.YtjengglpbdgmnaaZ3Nu
import Derived.Test.YtjengglpbdgmnaaZ4Nu
import Derived.Test.YtjengglpbdgmnaaRows
namespace Go.Proofs.Ytjengglpbdgmnaa
open Go Go.RowKit V
set_option linter.unusedVariables false
set_option linter.unusedSimpArgs false
set_option maxRecDepth 100000
theorem fl43_0 : Fld Try.prog 43 0 0 := by
 intro w ad; simp [Instr.fieldAt, Try.runUnderlying43, Instr.sureAddr, fieldPlace, Try.sizeOf26]
theorem fl43_1 : Fld Try.prog 43 1 1 := by
 intro w ad; simp [Instr.fieldAt, Try.runUnderlying43, Instr.sureAddr, fieldPlace, Try.sizeOf41]
theorem fl43_2 : Fld Try.prog 43 2 2 := by
 intro w ad; simp [Instr.fieldAt, Try.runUnderlying43, Instr.sureAddr, fieldPlace, Try.sizeOf41]
theorem el41 : Elt Try.prog 41 1 := ⟨28, Try.runUnderlying41, Try.sizeOf28⟩
theorem impl_totalWeight_c (az : Option Addr) (nz : Nat) (cz : Nat) (Hz : Nat → Hd) (z : List Nd) (aws : Option Addr) (nws : Nat) (cws : Nat) (Hws : Nat → Hd) (ws : List (List Int)) (avs : Option Addr) (nvs : Nat) (cvs : Nat) (Hvs : Nat → Hd) (vs : List (List Int)) (w : World) (rz : RdR ndK az nz Hz z w) (rws : RdR maK aws nws Hws ws w) (rvs : RdR maK avs nvs Hvs vs w) (hm : Math.matB nws 0 9 ws = true) (hk : nws ≤ 6) :
  Calls Try.prog 115 #[.agg #[.slice az nz cz, .slice aws nws cws, .slice avs nvs cvs]] w (Ret fun v w' => v = .int .i64 (Math.total ws) ∧ Ext w w') := by
 have kz : Kn w none_ [] (RdR ndK az nz Hz z) := fun w' hs => rz.ext hs.upd
 have lz : z.length = nz := rz.1
 have mz : nz ≤ 9223372036854775807 := rz.2.1
 have kws : Kn w none_ [] (RdR maK aws nws Hws ws) := fun w' hs => rws.ext hs.upd
 have lws : ws.length = nws := rws.1
 have mws : nws ≤ 9223372036854775807 := rws.2.1
 have kvs : Kn w none_ [] (RdR maK avs nvs Hvs vs) := fun w' hs => rvs.ext hs.upd
 have lvs : vs.length = nvs := rvs.1
 have mvs : nvs ≤ 9223372036854775807 := rvs.2.1
 refine fn (M := none_) (rs := [.tmp 2]) Try.func115 rfl Try.ntmps115 rfl rfl (Sep.start _ _) ?_
 refine hSeq ?_
 refine hReg (sl 0 (sq 1 sz)) (by kernel_rfl) ?_
 refine box trv1 rfl rfl rfl rfl (fun bkb1 hbkb1 => ?_)
 refine asI rfl rfl rfl ?_
 refine rNil ?_
 refine qSeq rfl ?_
 refine hSeq ?_
 refine hReg (sq 0 sz) (by kernel_rfl) ?_
 refine asI rfl rfl rfl ?_
 refine rNil ?_
 refine qSeq rfl ?_
 refine hSeq ?_
 refine hSeq ?_
 refine hReg (sq 0 (sl 1 (sq 2 (sq 3 sz)))) (by kernel_rfl) ?_
 refine fld fl43_1 rfl rfl rfl ?_
 refine ldl Try.isAgg41 (cB 0 rfl rfl) trv rfl rfl rfl ?_
 refine lenS Try.runUnderlying41 rfl rfl rfl ?_
 refine mvI rfl rfl rfl ?_
 refine rNil ?_
 refine qSeq rfl ?_
 refine hBlk ?_
 refine hLoop (α := Nat × Int) (fun x => x.1 ≤ nws ∧ x.2 = Math.total (ws.take x.1)) (fun x => nws - x.1) (fun x => [blk bkb1 43 [.slice az nz cz, .slice aws nws cws, .slice avs nvs cvs]]) (fun x => [(3, .int .i64 x.2), (7, .slice aws nws cws), (8, .int .i64 (nws : Int)), (9, .int .i64 (x.1 : Int))]) (0, 0) ⟨Nat.zero_le _, rfl⟩ (fun _ h => h.pick [0]) ⟨rfl, rfl, rfl, rfl, trivial⟩ ?_
 rintro ⟨i, s⟩ τ1 ⟨hi, hs_⟩
 dsimp only at hi hs_
 refine hRe [(3, .int .i64 s), (7, .slice aws nws cws), (8, .int .i64 (nws : Int)), (9, .int .i64 (i : Int))] [blk bkb1 43 [.slice az nz cz, .slice aws nws cws, .slice avs nvs cvs]] rfl rfl ?_
 refine hSeq ?_
 refine hReg (sq 0 sz) (by kernel_rfl) ?_
 refine lss rfl rfl rfl rfl ?_
 refine rNil ?_
 refine qSeq rfl ?_
 refine hSeq ?_
 refine hIfD rfl (fun c1 => ?_) (fun c1 => ?_)
 ·
  replace c1 : (i : Int) < (nws : Int) := c1
  have hrow := Math.mat_row hm (show i < nws by omega)
  have hrl := Math.row_len hrow
  have hbig := Math.row_big hrow
  have htb := Math.total_bd hk hm i (by omega)
  have hrs := Math.rowsum hk hrow
  refine hSkip ?_
  refine qSeq rfl ?_
  refine hSeq ?_
  refine hBlk ?_
  refine hSeq ?_
  refine hReg (sq 0 (sl 1 (sq 2 sz))) (by kernel_rfl) ?_
  refine ixRl (zn := i) (ws.getD i []) el41 (Kn.drop (k := 1) kws) rfl rfl rfl rfl (by omega) (by omega) rfl (nth [] (by omega)) ?_
  intro be1 oe1 e1
  refine ldl Try.isAgg28 (Kn.fld e1 0 rfl) trv rfl rfl rfl ?_
  refine asS rfl rfl rfl ?_
  refine rNil ?_
  refine qSeq rfl ?_
  refine hReg (sq 0 (sq 1 (sl 2 (sq 3 (sq 4 sz))))) (by kernel_rfl) ?_
  refine mvI rfl rfl rfl ?_
  refine mvS rfl rfl rfl ?_
  refine callP (v := .int .i64 ((ws.getD i []).sum)) Try.call161 trv rfl rfl (fun w hs => impl_sumOf_c _ _ _ _ w (Kn.drop (k := 1) ((Kn.imp kws fun _ h => h.kidM (nth [] (by omega)))) w hs) (by assumption) (by omega)) ?_
  refine add rfl rfl rfl rfl (by omega) ?_
  refine asI rfl rfl rfl ?_
  refine rNil ?_
  refine qSeq rfl ?_
  refine hReg (sq 0 (sq 1 sz)) (by kernel_rfl) ?_
  refine add rfl rfl rfl rfl (by omega) ?_
  refine mvI rfl rfl rfl ?_
  refine rNil ?_
  exact qNext rfl ((i + 1, s + (ws.getD i []).sum)) (by dsimp only; omega) ⟨by dsimp only; omega, by dsimp only; rw [hs_, Math.total_step (by omega)]⟩ ⟨rfl, rfl, rfl, rfl, trivial⟩ (fun _ h => h.pick [0])
 ·
  replace c1 : ¬ ((i : Int) < (nws : Int)) := c1
  refine hExit rfl ?_
  refine qSeq rfl ?_
  refine hSeq ?_
  refine hReg (sq 0 (sq 1 sz)) (by kernel_rfl) ?_
  refine mvI rfl rfl rfl ?_
  refine asI rfl rfl rfl ?_
  refine rNil ?_
  refine qSeq rfl ?_
  refine hRet ?_
  exact fun w hs => ⟨[.int .i64 s], ⟨rfl, trivial⟩, ⟨vI (by rw [hs_, Math.total_all (by omega)]), hs.upd⟩⟩
theorem spec_l21Total_c (az : Option Addr) (nz : Nat) (cz : Nat) (Hz : Nat → Hd) (z : List Nd) (aws : Option Addr) (nws : Nat) (cws : Nat) (Hws : Nat → Hd) (ws : List (List Int)) (avs : Option Addr) (nvs : Nat) (cvs : Nat) (Hvs : Nat → Hd) (vs : List (List Int)) (w : World) (rz : RdR ndK az nz Hz z w) (rws : RdR maK aws nws Hws ws w) (rvs : RdR maK avs nvs Hvs vs w) (hm : Math.matB nws 0 9 ws = true) (hk : nws ≤ 6) :
  Calls Try.prog 126 #[.agg #[.slice az nz cz, .slice aws nws cws, .slice avs nvs cvs]] w (Ret fun v w' => v = .int .i64 (Math.total ws) ∧ Ext w w') := by
 have kz : Kn w none_ [] (RdR ndK az nz Hz z) := fun w' hs => rz.ext hs.upd
 have lz : z.length = nz := rz.1
 have mz : nz ≤ 9223372036854775807 := rz.2.1
 have kws : Kn w none_ [] (RdR maK aws nws Hws ws) := fun w' hs => rws.ext hs.upd
 have lws : ws.length = nws := rws.1
 have mws : nws ≤ 9223372036854775807 := rws.2.1
 have kvs : Kn w none_ [] (RdR maK avs nvs Hvs vs) := fun w' hs => rvs.ext hs.upd
 have lvs : vs.length = nvs := rvs.1
 have mvs : nvs ≤ 9223372036854775807 := rvs.2.1
 refine fn (M := none_) (rs := [.tmp 2]) Try.func126 rfl Try.ntmps126 rfl rfl (Sep.start _ _) ?_
 refine hSeq ?_
 refine hReg (sl 0 (sq 1 sz)) (by kernel_rfl) ?_
 refine box trv1 rfl rfl rfl rfl (fun bkb1 hbkb1 => ?_)
 refine asI rfl rfl rfl ?_
 refine rNil ?_
 refine qSeq rfl ?_
 refine hSeq ?_
 refine hReg (sq 0 sz) (by kernel_rfl) ?_
 refine asI rfl rfl rfl ?_
 refine rNil ?_
 refine qSeq rfl ?_
 refine hSeq ?_
 refine hSeq ?_
 refine hReg (sq 0 sz) (by kernel_rfl) ?_
 refine asI rfl rfl rfl ?_
 refine rNil ?_
 refine qSeq rfl ?_
 refine hBlk ?_
 refine hLoop (α := Nat × Int) (fun x => x.1 ≤ nws ∧ x.2 = Math.total (ws.take x.1)) (fun x => nws - x.1) (fun x => [blk bkb1 43 [.slice az nz cz, .slice aws nws cws, .slice avs nvs cvs]]) (fun x => [(1, .pointer (some ⟨bkb1, 0, none⟩)), (3, .int .i64 x.2), (4, .int .i64 (x.1 : Int))]) (0, 0) ⟨Nat.zero_le _, rfl⟩ (fun _ h => h.pick [0]) ⟨rfl, rfl, rfl, trivial⟩ ?_
 rintro ⟨i, s⟩ τ1 ⟨hi, hs_⟩
 dsimp only at hi hs_
 refine hRe [(1, .pointer (some ⟨bkb1, 0, none⟩)), (3, .int .i64 s), (4, .int .i64 (i : Int))] [blk bkb1 43 [.slice az nz cz, .slice aws nws cws, .slice avs nvs cvs]] rfl rfl ?_
 refine hSeq ?_
 refine hSeq ?_
 refine hReg (sq 0 (sq 1 (sl 2 (sq 3 (sq 4 sz))))) (by kernel_rfl) ?_
 refine mvI rfl rfl rfl ?_
 refine fld fl43_1 rfl rfl rfl ?_
 refine ldl Try.isAgg41 (cB 0 rfl rfl) trv rfl rfl rfl ?_
 refine lenS Try.runUnderlying41 rfl rfl rfl ?_
 refine lss rfl rfl rfl rfl ?_
 refine rNil ?_
 refine qSeq rfl ?_
 refine hIfD rfl (fun c1 => ?_) (fun c1 => ?_)
 ·
  replace c1 : (i : Int) < (nws : Int) := c1
  have hrow := Math.mat_row hm (show i < nws by omega)
  have hrl := Math.row_len hrow
  have hbig := Math.row_big hrow
  have htb := Math.total_bd hk hm i (by omega)
  have hrs := Math.rowsum hk hrow
  refine hSkip ?_
  refine qSeq rfl ?_
  refine hSeq ?_
  refine hBlk ?_
  refine hReg (sq 0 (sq 1 (sl 2 (sq 3 (sq 4 (sl 5 (sl 6 (sq 7 (sq 8 sz))))))))) (by kernel_rfl) ?_
  refine mvI rfl rfl rfl ?_
  refine fld fl43_1 rfl rfl rfl ?_
  refine ldl Try.isAgg41 (cB 0 rfl rfl) trv rfl rfl rfl ?_
  refine mvI rfl rfl rfl ?_
  refine ixRl (zn := i) (ws.getD i []) el41 (Kn.drop (k := 1) kws) rfl rfl rfl rfl (by omega) (by omega) rfl (nth [] (by omega)) ?_
  intro be1 oe1 e1
  refine ldl Try.isAgg28 (Kn.fld e1 0 rfl) trv rfl rfl rfl ?_
  refine callP (v := .int .i64 ((ws.getD i []).sum)) Try.call125 trv rfl rfl (fun w hs => spec_l01Sum_c _ _ _ _ w (Kn.drop (k := 1) ((Kn.imp kws fun _ h => h.kidM (nth [] (by omega)))) w hs) (by assumption) (by omega)) ?_
  refine add rfl rfl rfl rfl (by omega) ?_
  refine asI rfl rfl rfl ?_
  refine rNil ?_
  refine qSeq rfl ?_
  refine hReg (sq 0 (sq 1 (sq 2 sz))) (by kernel_rfl) ?_
  refine mvI rfl rfl rfl ?_
  refine add rfl rfl rfl rfl (by omega) ?_
  refine asI rfl rfl rfl ?_
  refine rNil ?_
  exact qNext rfl ((i + 1, s + (ws.getD i []).sum)) (by dsimp only; omega) ⟨by dsimp only; omega, by dsimp only; rw [hs_, Math.total_step (by omega)]⟩ ⟨rfl, rfl, rfl, trivial⟩ (fun _ h => h.pick [0])
 ·
  replace c1 : ¬ ((i : Int) < (nws : Int)) := c1
  refine hExit rfl ?_
  refine qSeq rfl ?_
  refine hSeq ?_
  refine hReg (sq 0 (sq 1 sz)) (by kernel_rfl) ?_
  refine mvI rfl rfl rfl ?_
  refine asI rfl rfl rfl ?_
  refine rNil ?_
  refine qSeq rfl ?_
  refine hRet ?_
  exact fun w hs => ⟨[.int .i64 s], ⟨rfl, trivial⟩, ⟨vI (by rw [hs_, Math.total_all (by omega)]), hs.upd⟩⟩
theorem spec_l21Matrix_c (aws : Option Addr) (nws : Nat) (cws : Nat) (Hws : Nat → Hd) (ws : List (List Int)) (kk : Int) (lo : Int) (up : Int) (w : World) (rws : RdR maK aws nws Hws ws w) (hkk : 0 ≤ kk ∧ kk ≤ 1000) :
  Calls Try.prog 158 #[.slice aws nws cws, .int .i64 kk, .int .i64 lo, .int .i64 up] w (Ret fun v w' => v = .bool (Math.matB kk.toNat lo up ws) ∧ Ext w w') := by
 have kws : Kn w none_ [] (RdR maK aws nws Hws ws) := fun w' hs => rws.ext hs.upd
 have lws : ws.length = nws := rws.1
 have mws : nws ≤ 9223372036854775807 := rws.2.1
 refine fn (M := none_) (rs := [.tmp 8]) Try.func158 rfl Try.ntmps158 rfl rfl (Sep.start _ _) ?_
 refine hSeq ?_
 refine hReg (sq 0 sz) (by kernel_rfl) ?_
 refine asB rfl rfl rfl ?_
 refine rNil ?_
 refine qSeq rfl ?_
 refine hSeq ?_
 refine hSeq ?_
 refine hReg (sq 0 sz) (by kernel_rfl) ?_
 refine asI rfl rfl rfl ?_
 refine rNil ?_
 refine qSeq rfl ?_
 refine hBlk ?_
 refine hLoop (α := Nat) (fun i => i ≤ nws ∧ ∀ j, j < i → Math.rowB kk.toNat lo up (ws.getD j []) = true) (fun i => nws - i) (fun i => []) (fun i => [(0, .slice aws nws cws), (1, .int .i64 kk), (2, .int .i64 lo), (3, .int .i64 up), (9, .int .i64 (i : Int))]) 0 ⟨Nat.zero_le _, fun j hj => by omega⟩ (fun _ h => h.pick []) ⟨rfl, rfl, rfl, rfl, rfl, trivial⟩ ?_
 rintro i τ1 ⟨hi, hal⟩
 refine hSeq ?_
 refine hSeq ?_
 refine hReg (sq 0 (sq 1 (sq 2 (sq 3 sz)))) (by kernel_rfl) ?_
 refine mvI rfl rfl rfl ?_
 refine mvS rfl rfl rfl ?_
 refine lenS Try.runUnderlying41 rfl rfl rfl ?_
 refine lss rfl rfl rfl rfl ?_
 refine rNil ?_
 refine qSeq rfl ?_
 refine hIfD rfl (fun c1 => ?_) (fun c1 => ?_)
 ·
  replace c1 : (i : Int) < (nws : Int) := c1
  refine hSkip ?_
  refine qSeq rfl ?_
  refine hSeq ?_
  refine hBlk ?_
  refine hSeq ?_
  refine hSeq ?_
  refine hReg (sq 0 (sq 1 (sq 2 (sl 3 (sq 4 (sq 5 (sq 6 sz))))))) (by kernel_rfl) ?_
  refine mvS rfl rfl rfl ?_
  refine mvI rfl rfl rfl ?_
  refine ixRl (zn := i) (ws.getD i []) el41 (kws) rfl rfl rfl rfl (by omega) (by omega) rfl (nth [] (by omega)) ?_
  intro be1 oe1 e1
  refine ldl Try.isAgg28 (Kn.fld e1 0 rfl) trv rfl rfl rfl ?_
  refine lenS Try.runUnderlying28 rfl rfl rfl ?_
  refine mvI rfl rfl rfl ?_
  refine neq rfl rfl rfl rfl ?_
  refine rNil ?_
  refine qSeq rfl ?_
  refine hIfD rfl (fun c2 => ?_) (fun c2 => ?_)
  ·
   replace c2 : (((ws.getD i []).length : Nat) : Int) ≠ kk := c2
   refine hSeq ?_
   refine hReg (sq 0 sz) (by kernel_rfl) ?_
   refine asB rfl rfl rfl ?_
   refine rNil ?_
   refine qSeq rfl ?_
   refine hRet ?_
   exact fun w hs => ⟨[.bool false], ⟨rfl, trivial⟩, ⟨bB (Math.mat_no (i := i) (by omega) (Math.row_no1 (by omega))).symm, hs.upd⟩⟩
  ·
   replace c2 : ¬ ((((ws.getD i []).length : Nat) : Int) ≠ kk) := c2
   refine hSkip ?_
   refine qSeq rfl ?_
   refine hSeq ?_
   refine hReg (sq 0 sz) (by kernel_rfl) ?_
   refine asI rfl rfl rfl ?_
   refine rNil ?_
   refine qSeq rfl ?_
   refine hBlk ?_
   refine hLoop (α := Nat) (fun j => j ≤ kk.toNat ∧ ∀ q, q < j → Math.inB lo up ((ws.getD i []).getD q 0) = true) (fun j => kk.toNat - j) (fun j => []) (fun j => [(0, .slice aws nws cws), (1, .int .i64 kk), (2, .int .i64 lo), (3, .int .i64 up), (9, .int .i64 (i : Int)), (10, .int .i64 (j : Int))]) 0 ⟨Nat.zero_le _, fun q hq => by omega⟩ (fun _ h => h.pick []) ⟨rfl, rfl, rfl, rfl, rfl, rfl, trivial⟩ ?_
   rintro j τ2 ⟨hj, hin⟩
   refine hSeq ?_
   refine hSeq ?_
   refine hReg (sq 0 (sq 1 (sq 2 sz))) (by kernel_rfl) ?_
   refine mvI rfl rfl rfl ?_
   refine mvI rfl rfl rfl ?_
   refine lss rfl rfl rfl rfl ?_
   refine rNil ?_
   refine qSeq rfl ?_
   refine hIfD rfl (fun c3 => ?_) (fun c3 => ?_)
   ·
    replace c3 : (j : Int) < kk := c3
    refine hSkip ?_
    refine qSeq rfl ?_
    refine hSeq ?_
    refine hBlk ?_
    refine hSeq ?_
    refine hReg (sq 0 (sq 1 (sq 2 (sl 3 (sq 4 (sq 5 (sl 6 (sq 7 (sq 8 (sl 9 (sq 10 sz))))))))))) (by kernel_rfl) ?_
    refine mvS rfl rfl rfl ?_
    refine mvI rfl rfl rfl ?_
    refine ixRl (zn := i) (ws.getD i []) el41 (kws) rfl rfl rfl rfl (by omega) (by omega) rfl (nth [] (by omega)) ?_
    intro be2 oe2 e2
    refine ldl Try.isAgg28 (Kn.fld e2 0 rfl) trv rfl rfl rfl ?_
    refine mvI rfl rfl rfl ?_
    refine ixIl (zn := j) el28 ((Kn.imp kws fun _ h => h.kidM (nth [] (by omega)))) rfl rfl rfl rfl (by omega) (by omega) rfl ?_
    intro ae3 e3
    refine ldl Try.isAgg2 (e3) trv rfl rfl rfl ?_
    refine mvI rfl rfl rfl ?_
    refine mvI rfl rfl rfl ?_
    refine callP (v := .bool ((Math.inB lo up (((ws.getD i []).getD j 0))))) Try.call97 trv rfl rfl (fun w hs => spec_l01In_c _ _ _ w ) ?_
    refine not rfl rfl rfl ?_
    refine rNil ?_
    refine qSeq rfl ?_
    refine hIfN rfl (fun c4 => ?_) (fun c4 => ?_)
    ·
     replace c4 : (Math.inB lo up (((ws.getD i []).getD j 0))) = false := c4
     refine hSeq ?_
     refine hReg (sq 0 sz) (by kernel_rfl) ?_
     refine asB rfl rfl rfl ?_
     refine rNil ?_
     refine qSeq rfl ?_
     refine hRet ?_
     exact fun w hs => ⟨[.bool false], ⟨rfl, trivial⟩, ⟨bB (Math.mat_no (i := i) (by omega) (Math.row_no2 (Math.all_no 0 (i := j) (by omega) c4))).symm, hs.upd⟩⟩
    ·
     replace c4 : (Math.inB lo up (((ws.getD i []).getD j 0))) = true := c4
     refine hSkip ?_
     refine qSeq rfl ?_
     refine hReg (sq 0 (sq 1 (sq 2 sz))) (by kernel_rfl) ?_
     refine mvI rfl rfl rfl ?_
     refine add rfl rfl rfl rfl (by omega) ?_
     refine asI rfl rfl rfl ?_
     refine rNil ?_
     exact qNext rfl (j + 1) (by omega) ⟨by omega, Math.upto hin c4⟩ ⟨rfl, rfl, rfl, rfl, rfl, rfl, trivial⟩ (fun _ h => h.pick [])
   ·
    replace c3 : ¬ ((j : Int) < kk) := c3
    refine hExit rfl ?_
    refine qSeq rfl ?_
    refine hReg (sq 0 (sq 1 (sq 2 sz))) (by kernel_rfl) ?_
    refine mvI rfl rfl rfl ?_
    refine add rfl rfl rfl rfl (by omega) ?_
    refine asI rfl rfl rfl ?_
    refine rNil ?_
    exact qNext rfl (i + 1) (by omega) ⟨by omega, Math.upto hal (Math.row_yes (by omega) ((Math.all_getD 0).2 fun q hq => hin q (by omega)))⟩ ⟨rfl, rfl, rfl, rfl, rfl, trivial⟩ (fun _ h => h.pick [])
 ·
  replace c1 : ¬ ((i : Int) < (nws : Int)) := c1
  refine hExit rfl ?_
  refine qSeq rfl ?_
  refine hSeq ?_
  refine hReg (sq 0 (sq 1 (sq 2 (sq 3 (sq 4 sz))))) (by kernel_rfl) ?_
  refine mvS rfl rfl rfl ?_
  refine lenS Try.runUnderlying41 rfl rfl rfl ?_
  refine mvI rfl rfl rfl ?_
  refine eql rfl rfl rfl rfl ?_
  refine asB rfl rfl rfl ?_
  refine rNil ?_
  refine qSeq rfl ?_
  refine hRet ?_
  exact fun w hs => ⟨[.bool (decide ((nws : Int) = kk))], ⟨rfl, trivial⟩, ⟨bB ((decide_eq_decide.2 (by omega)).trans (Math.mat_if fun j hj => hal j (by omega)).symm), hs.upd⟩⟩
theorem spec_IsGame_c (az : Option Addr) (nz : Nat) (cz : Nat) (Hz : Nat → Hd) (z : List Nd) (aws : Option Addr) (nws : Nat) (cws : Nat) (Hws : Nat → Hd) (ws : List (List Int)) (avs : Option Addr) (nvs : Nat) (cvs : Nat) (Hvs : Nat → Hd) (vs : List (List Int)) (w : World) (rz : RdR ndK az nz Hz z w) (rws : RdR maK aws nws Hws ws w) (rvs : RdR maK avs nvs Hvs vs w) :
  Calls Try.prog 108 #[.agg #[.slice az nz cz, .slice aws nws cws, .slice avs nvs cvs]] w (Ret fun v w' => v = .bool (Math.isGame z ws vs) ∧ Ext w w') := by
 have kz : Kn w none_ [] (RdR ndK az nz Hz z) := fun w' hs => rz.ext hs.upd
 have lz : z.length = nz := rz.1
 have mz : nz ≤ 9223372036854775807 := rz.2.1
 have kws : Kn w none_ [] (RdR maK aws nws Hws ws) := fun w' hs => rws.ext hs.upd
 have lws : ws.length = nws := rws.1
 have mws : nws ≤ 9223372036854775807 := rws.2.1
 have kvs : Kn w none_ [] (RdR maK avs nvs Hvs vs) := fun w' hs => rvs.ext hs.upd
 have lvs : vs.length = nvs := rvs.1
 have mvs : nvs ≤ 9223372036854775807 := rvs.2.1
 refine fn (M := none_) (rs := [.tmp 2]) Try.func108 rfl Try.ntmps108 rfl rfl (Sep.start _ _) ?_
 refine hSeq ?_
 refine hReg (sl 0 (sq 1 sz)) (by kernel_rfl) ?_
 refine box trv1 rfl rfl rfl rfl (fun bkb1 hbkb1 => ?_)
 refine asB rfl rfl rfl ?_
 refine rNil ?_
 refine qSeq rfl ?_
 refine hSeq ?_
 refine hReg (sq 0 (sl 1 (sq 2 (sq 3 sz)))) (by kernel_rfl) ?_
 refine fld fl43_1 rfl rfl rfl ?_
 refine ldl Try.isAgg41 (cB 0 rfl rfl) trv rfl rfl rfl ?_
 refine lenS Try.runUnderlying41 rfl rfl rfl ?_
 refine asI rfl rfl rfl ?_
 refine rNil ?_
 refine qSeq rfl ?_
 refine hSeq ?_
 refine hReg (sq 0 (sl 1 (sl 2 (sq 3 (sq 4 (sl 5 (sq 6 (sq 7 (sq 8 (sl 9 (sq 10 (sl 11 (sq 12 (sq 13 (sq 14 (sl 15 (sq 16 (sl 17 (sq 18 (sq 19 (sl 20 (sl 21 (sq 22 (sq 23 (sq 24 sz))))))))))))))))))))))))) (by kernel_rfl) ?_
 refine fld fl43_0 rfl rfl rfl ?_
 refine ldAl Try.isAgg26 Try.sizeOf26 (cBp (m := 1) 0 rfl rfl) trv rfl rfl rfl rfl ?_
 refine callP (v := .bool (Math.isTree z)) Try.call21 trv rfl rfl (fun w hs => spec_IsTree_c _ _ _ _ _ w (Kn.drop (k := 1) kz w hs)) ?_
 refine mvB rfl rfl rfl ?_
 refine rBool (d := 10) rfl (fun g1 => ?_) (fun g1 => ?_)
 ·
  replace g1 : (Math.isTree z) = true := g1
  refine mvI rfl rfl rfl ?_
  refine callP (v := .bool ((Math.inB (1 : Int) (6 : Int) (nws : Int)))) Try.call97 trv rfl rfl (fun w hs => spec_l01In_c _ _ _ w ) ?_
  refine pickB rfl rfl rfl rfl ?_
  refine mvB rfl rfl rfl ?_
  refine rBool (d := 14) rfl (fun g2 => ?_) (fun g2 => ?_)
  ·
   replace g2 : (Math.inB (1 : Int) (6 : Int) (nws : Int)) = true := g2
   have hk := of_decide_eq_true (show decide (1 ≤ (nws : Int) ∧ (nws : Int) ≤ 6) = true from g2)
   refine fld fl43_1 rfl rfl rfl ?_
   refine ldl Try.isAgg41 (cB 0 rfl rfl) trv rfl rfl rfl ?_
   refine mvI rfl rfl rfl ?_
   refine callP (v := .bool ((Math.matB nws (0 : Int) (9 : Int) ws))) Try.call158 trv rfl rfl (fun w hs => spec_l21Matrix_c _ _ _ _ _ _ _ _ w (Kn.drop (k := 1) kws w hs) (by omega)) ?_
   refine pickB rfl rfl rfl rfl ?_
   refine mvB rfl rfl rfl ?_
   refine rBool (d := 20) rfl (fun g3 => ?_) (fun g3 => ?_)
   ·
    replace g3 : (Math.matB nws (0 : Int) (9 : Int) ws) = true := g3
    replace g3 : Math.matB nws 0 9 ws = true := g3
    refine fld fl43_2 rfl rfl rfl ?_
    refine ldl Try.isAgg41 (cB 0 rfl rfl) trv rfl rfl rfl ?_
    refine mvI rfl rfl rfl ?_
    refine callP (v := .bool ((Math.matB nws (-1) (1 : Int) vs))) Try.call158 trv rfl rfl (fun w hs => spec_l21Matrix_c _ _ _ _ _ _ _ _ w (Kn.drop (k := 1) kvs w hs) (by omega)) ?_
    refine pickB rfl rfl rfl rfl ?_
    refine mvB rfl rfl rfl ?_
    refine rBool (d := 26) rfl (fun g4 => ?_) (fun g4 => ?_)
    ·
     replace g4 : (Math.matB nws (-1) (1 : Int) vs) = true := g4
     replace g4 : Math.matB nws (-1) 1 vs = true := g4
     refine ldAl Try.isAgg43 Try.sizeOf43 (cBs 0 rfl) trv rfl rfl rfl rfl ?_
     refine callP (v := .int .i64 (Math.total ws)) Try.call126 trv rfl rfl (fun w hs => spec_l21Total_c _ _ _ _ _ _ _ _ _ _ _ _ _ _ _ w (Kn.drop (k := 1) kz w hs) (Kn.drop (k := 1) kws w hs) (Kn.drop (k := 1) kvs w hs) (by assumption) (by omega)) ?_
     refine gtr rfl rfl rfl rfl ?_
     refine pickB rfl rfl rfl rfl ?_
     refine asB rfl rfl rfl ?_
     refine rNil ?_
     refine qSeq rfl ?_
     refine hRet ?_
     exact fun w hs => ⟨[.bool (decide (0 < (Math.total ws)))], ⟨rfl, trivial⟩, ⟨bB (by unfold Math.isGame; rw [lws]; simp only [g1, g2, g3, g4, Bool.false_and, Bool.and_false, Bool.true_and, Bool.and_true]), hs.upd⟩⟩
    ·
     replace g4 : (Math.matB nws (-1) (1 : Int) vs) = false := g4
     replace g4 : Math.matB nws (-1) 1 vs = false := g4
     refine rSkipL trv rfl rfl ?_
     refine rSkipL trv rfl rfl ?_
     refine rSkipQ rfl rfl ?_
     refine pickB rfl rfl rfl rfl ?_
     refine asB rfl rfl rfl ?_
     refine rNil ?_
     refine qSeq rfl ?_
     refine hRet ?_
     exact fun w hs => ⟨[.bool false], ⟨rfl, trivial⟩, ⟨bB (by unfold Math.isGame; rw [lws]; simp only [g1, g2, g3, g4, Bool.false_and, Bool.and_false, Bool.true_and, Bool.and_true]), hs.upd⟩⟩
   ·
    replace g3 : (Math.matB nws (0 : Int) (9 : Int) ws) = false := g3
    replace g3 : Math.matB nws 0 9 ws = false := g3
    refine rSkipQ rfl rfl ?_
    refine rSkipL trv rfl rfl ?_
    refine rSkipQ rfl rfl ?_
    refine rSkipL trv rfl rfl ?_
    refine pickB rfl rfl rfl rfl ?_
    refine mvB rfl rfl rfl ?_
    refine rSkipL trv rfl rfl ?_
    refine rSkipL trv rfl rfl ?_
    refine rSkipQ rfl rfl ?_
    refine pickB rfl rfl rfl rfl ?_
    refine asB rfl rfl rfl ?_
    refine rNil ?_
    refine qSeq rfl ?_
    refine hRet ?_
    exact fun w hs => ⟨[.bool false], ⟨rfl, trivial⟩, ⟨bB (by unfold Math.isGame; rw [lws]; simp only [g1, g2, g3, Bool.false_and, Bool.and_false, Bool.true_and, Bool.and_true]), hs.upd⟩⟩
  ·
   replace g2 : (Math.inB (1 : Int) (6 : Int) (nws : Int)) = false := g2
   refine rSkipQ rfl rfl ?_
   refine rSkipL trv rfl rfl ?_
   refine rSkipQ rfl rfl ?_
   refine rSkipL trv rfl rfl ?_
   refine pickB rfl rfl rfl rfl ?_
   refine mvB rfl rfl rfl ?_
   refine rSkipQ rfl rfl ?_
   refine rSkipL trv rfl rfl ?_
   refine rSkipQ rfl rfl ?_
   refine rSkipL trv rfl rfl ?_
   refine pickB rfl rfl rfl rfl ?_
   refine mvB rfl rfl rfl ?_
   refine rSkipL trv rfl rfl ?_
   refine rSkipL trv rfl rfl ?_
   refine rSkipQ rfl rfl ?_
   refine pickB rfl rfl rfl rfl ?_
   refine asB rfl rfl rfl ?_
   refine rNil ?_
   refine qSeq rfl ?_
   refine hRet ?_
   exact fun w hs => ⟨[.bool false], ⟨rfl, trivial⟩, ⟨bB (by unfold Math.isGame; rw [lws]; simp only [g1, g2, Bool.false_and, Bool.and_false, Bool.true_and, Bool.and_true]), hs.upd⟩⟩
 ·
  replace g1 : (Math.isTree z) = false := g1
  refine rSkipQ rfl rfl ?_
  refine rSkipL trv rfl rfl ?_
  refine pickB rfl rfl rfl rfl ?_
  refine mvB rfl rfl rfl ?_
  refine rSkipQ rfl rfl ?_
  refine rSkipL trv rfl rfl ?_
  refine rSkipQ rfl rfl ?_
  refine rSkipL trv rfl rfl ?_
  refine pickB rfl rfl rfl rfl ?_
  refine mvB rfl rfl rfl ?_
  refine rSkipQ rfl rfl ?_
  refine rSkipL trv rfl rfl ?_
  refine rSkipQ rfl rfl ?_
  refine rSkipL trv rfl rfl ?_
  refine pickB rfl rfl rfl rfl ?_
  refine mvB rfl rfl rfl ?_
  refine rSkipL trv rfl rfl ?_
  refine rSkipL trv rfl rfl ?_
  refine rSkipQ rfl rfl ?_
  refine pickB rfl rfl rfl rfl ?_
  refine asB rfl rfl rfl ?_
  refine rNil ?_
  refine qSeq rfl ?_
  refine hRet ?_
  exact fun w hs => ⟨[.bool false], ⟨rfl, trivial⟩, ⟨bB (by unfold Math.isGame; rw [lws]; simp only [g1, Bool.false_and, Bool.and_false, Bool.true_and, Bool.and_true]), hs.upd⟩⟩
theorem impl_IsGame_c (az : Option Addr) (nz : Nat) (cz : Nat) (Hz : Nat → Hd) (z : List Nd) (aws : Option Addr) (nws : Nat) (cws : Nat) (Hws : Nat → Hd) (ws : List (List Int)) (avs : Option Addr) (nvs : Nat) (cvs : Nat) (Hvs : Nat → Hd) (vs : List (List Int)) (w : World) (rz : RdR ndK az nz Hz z w) (rws : RdR maK aws nws Hws ws w) (rvs : RdR maK avs nvs Hvs vs w) :
  Calls Try.prog 38 #[.agg #[.slice az nz cz, .slice aws nws cws, .slice avs nvs cvs]] w (Ret fun v w' => v = .bool (Math.isGame z ws vs) ∧ Ext w w') := by
 have kz : Kn w none_ [] (RdR ndK az nz Hz z) := fun w' hs => rz.ext hs.upd
 have lz : z.length = nz := rz.1
 have mz : nz ≤ 9223372036854775807 := rz.2.1
 have kws : Kn w none_ [] (RdR maK aws nws Hws ws) := fun w' hs => rws.ext hs.upd
 have lws : ws.length = nws := rws.1
 have mws : nws ≤ 9223372036854775807 := rws.2.1
 have kvs : Kn w none_ [] (RdR maK avs nvs Hvs vs) := fun w' hs => rvs.ext hs.upd
 have lvs : vs.length = nvs := rvs.1
 have mvs : nvs ≤ 9223372036854775807 := rvs.2.1
 refine fn (M := none_) (rs := [.tmp 2]) Try.func38 rfl Try.ntmps38 rfl rfl (Sep.start _ _) ?_
 refine hSeq ?_
 refine hReg (sl 0 (sq 1 sz)) (by kernel_rfl) ?_
 refine box trv1 rfl rfl rfl rfl (fun bkb1 hbkb1 => ?_)
 refine asB rfl rfl rfl ?_
 refine rNil ?_
 refine qSeq rfl ?_
 refine hSeq ?_
 refine hReg (sq 0 (sl 1 (sq 2 (sq 3 sz)))) (by kernel_rfl) ?_
 refine fld fl43_1 rfl rfl rfl ?_
 refine ldl Try.isAgg41 (cB 0 rfl rfl) trv rfl rfl rfl ?_
 refine lenS Try.runUnderlying41 rfl rfl rfl ?_
 refine asI rfl rfl rfl ?_
 refine rNil ?_
 refine qSeq rfl ?_
 refine hSeq ?_
 refine hSeq ?_
 refine hReg (sq 0 (sl 1 (sl 2 (sq 3 (sq 4 (sq 5 (sl 6 (sq 7 (sq 8 (sq 9 (sq 10 (sl 11 (sq 12 (sq 13 (sq 14 (sq 15 sz)))))))))))))))) (by kernel_rfl) ?_
 refine fld fl43_0 rfl rfl rfl ?_
 refine ldAl Try.isAgg26 Try.sizeOf26 (cBp (m := 1) 0 rfl rfl) trv rfl rfl rfl rfl ?_
 refine callP (v := .bool (Math.isTree z)) Try.call20 trv rfl rfl (fun w hs => impl_IsTree_c _ _ _ _ _ w (Kn.drop (k := 1) kz w hs)) ?_
 refine not rfl rfl rfl ?_
 refine mvB rfl rfl rfl ?_
 refine rBoolN (d := 12) rfl (fun g1 => ?_) (fun g1 => ?_)
 ·
  replace g1 : (Math.isTree z) = false := g1
  refine rSkipQ rfl rfl ?_
  refine rSkipL trv rfl rfl ?_
  refine rSkipQ rfl rfl ?_
  refine pickB rfl rfl rfl rfl ?_
  refine mvB rfl rfl rfl ?_
  refine rSkipQ rfl rfl ?_
  refine rSkipL trv rfl rfl ?_
  refine rSkipQ rfl rfl ?_
  refine rSkipQ rfl rfl ?_
  refine rSkipQ rfl rfl ?_
  refine pickB rfl rfl rfl rfl ?_
  refine rNil ?_
  refine qSeq rfl ?_
  refine hIfT rfl ?_
  refine hSeq ?_
  refine hReg (sq 0 sz) (by kernel_rfl) ?_
  refine asB rfl rfl rfl ?_
  refine rNil ?_
  refine qSeq rfl ?_
  refine hRet ?_
  exact fun w hs => ⟨[.bool false], ⟨rfl, trivial⟩, ⟨bB (by unfold Math.isGame; rw [lws]; simp only [g1, Bool.false_and, Bool.and_false, Bool.true_and, Bool.and_true]), hs.upd⟩⟩
 ·
  replace g1 : (Math.isTree z) = true := g1
  refine mvI rfl rfl rfl ?_
  refine callP (v := .bool ((Math.inB (1 : Int) (6 : Int) (nws : Int)))) Try.call96 trv rfl rfl (fun w hs => impl_within_c _ _ _ w ) ?_
  refine not rfl rfl rfl ?_
  refine pickB rfl rfl rfl rfl ?_
  refine mvB rfl rfl rfl ?_
  refine rBoolN (d := 17) rfl (fun g2 => ?_) (fun g2 => ?_)
  ·
   replace g2 : (Math.inB (1 : Int) (6 : Int) (nws : Int)) = false := g2
   refine rSkipQ rfl rfl ?_
   refine rSkipL trv rfl rfl ?_
   refine rSkipQ rfl rfl ?_
   refine rSkipQ rfl rfl ?_
   refine rSkipQ rfl rfl ?_
   refine pickB rfl rfl rfl rfl ?_
   refine rNil ?_
   refine qSeq rfl ?_
   refine hIfT rfl ?_
   refine hSeq ?_
   refine hReg (sq 0 sz) (by kernel_rfl) ?_
   refine asB rfl rfl rfl ?_
   refine rNil ?_
   refine qSeq rfl ?_
   refine hRet ?_
   exact fun w hs => ⟨[.bool false], ⟨rfl, trivial⟩, ⟨bB (by unfold Math.isGame; rw [lws]; simp only [g1, g2, Bool.false_and, Bool.and_false, Bool.true_and, Bool.and_true]), hs.upd⟩⟩
  ·
   replace g2 : (Math.inB (1 : Int) (6 : Int) (nws : Int)) = true := g2
   have hk := of_decide_eq_true (show decide (1 ≤ (nws : Int) ∧ (nws : Int) ≤ 6) = true from g2)
   refine fld fl43_2 rfl rfl rfl ?_
   refine ldl Try.isAgg41 (cB 0 rfl rfl) trv rfl rfl rfl ?_
   refine lenS Try.runUnderlying41 rfl rfl rfl ?_
   refine mvI rfl rfl rfl ?_
   refine neq rfl rfl rfl rfl ?_
   refine pickB rfl rfl rfl rfl ?_
   refine rNil ?_
   refine qSeq rfl ?_
   refine hIfD rfl (fun c3 => ?_) (fun c3 => ?_)
   ·
    replace c3 : (nvs : Int) ≠ (nws : Int) := c3
    refine hSeq ?_
    refine hReg (sq 0 sz) (by kernel_rfl) ?_
    refine asB rfl rfl rfl ?_
    refine rNil ?_
    refine qSeq rfl ?_
    refine hRet ?_
    exact fun w hs => ⟨[.bool false], ⟨rfl, trivial⟩, ⟨bB (by unfold Math.isGame; rw [lws, Math.mat_no0 (m := vs) (by omega)]; simp), hs.upd⟩⟩
   ·
    replace c3 : ¬ ((nvs : Int) ≠ (nws : Int)) := c3
    refine hSkip ?_
    refine qSeq rfl ?_
    refine hSeq ?_
    refine hSeq ?_
    refine hReg (sq 0 (sq 1 sz)) (by kernel_rfl) ?_
    refine mvI rfl rfl rfl ?_
    refine mvI rfl rfl rfl ?_
    refine rNil ?_
    refine qSeq rfl ?_
    refine hBlk ?_
    refine hLoop (α := Nat) (fun i => i ≤ nws ∧ ∀ j, j < i → Math.rowB nws 0 9 (ws.getD j []) = true ∧ Math.rowB nws (-1) 1 (vs.getD j []) = true) (fun i => nws - i) (fun i => [blk bkb1 43 [.slice az nz cz, .slice aws nws cws, .slice avs nvs cvs]]) (fun i => [(1, .pointer (some ⟨bkb1, 0, none⟩)), (3, .int .i64 (nws : Int)), (24, .int .i64 (nws : Int)), (25, .int .i64 (i : Int))]) 0 ⟨Nat.zero_le _, fun j hj => by omega⟩ (fun _ h => h.pick [0]) ⟨rfl, rfl, rfl, rfl, trivial⟩ ?_
    rintro i τ1 ⟨hi, hal⟩
    refine hSeq ?_
    refine hReg (sq 0 sz) (by kernel_rfl) ?_
    refine lss rfl rfl rfl rfl ?_
    refine rNil ?_
    refine qSeq rfl ?_
    refine hSeq ?_
    refine hIfD rfl (fun c4 => ?_) (fun c4 => ?_)
    ·
     replace c4 : (i : Int) < (nws : Int) := c4
     refine hSkip ?_
     refine qSeq rfl ?_
     refine hSeq ?_
     refine hBlk ?_
     refine hSeq ?_
     refine hReg (sq 0 (sq 1 sz)) (by kernel_rfl) ?_
     refine mvI rfl rfl rfl ?_
     refine asI rfl rfl rfl ?_
     refine rNil ?_
     refine qSeq rfl ?_
     refine hSeq ?_
     refine hReg (sq 0 (sl 1 (sq 2 (sq 3 (sl 4 (sq 5 (sq 6 (sq 7 (sq 8 (sq 9 (sl 10 (sq 11 (sq 12 (sl 13 (sq 14 (sq 15 (sq 16 (sq 17 (sq 18 (sq 19 (sl 20 (sq 21 (sq 22 (sl 23 (sl 24 (sq 25 (sq 26 (sq 27 (sq 28 (sl 29 (sq 30 (sq 31 (sl 32 (sl 33 (sq 34 (sq 35 sz)))))))))))))))))))))))))))))))))))) (by kernel_rfl) ?_
     refine fld fl43_1 rfl rfl rfl ?_
     refine ldl Try.isAgg41 (cB 0 rfl rfl) trv rfl rfl rfl ?_
     refine mvI rfl rfl rfl ?_
     refine ixRl (zn := i) (ws.getD i []) el41 (Kn.drop (k := 1) kws) rfl rfl rfl rfl (by omega) (by omega) rfl (nth [] (by omega)) ?_
     intro be1 oe1 e1
     refine ldl Try.isAgg28 (Kn.fld e1 0 rfl) trv rfl rfl rfl ?_
     refine lenS Try.runUnderlying28 rfl rfl rfl ?_
     refine mvI rfl rfl rfl ?_
     refine neq rfl rfl rfl rfl ?_
     refine mvB rfl rfl rfl ?_
     refine rBoolD (d := 36) rfl (fun g5 => ?_) (fun g5 => ?_)
     ·
      replace g5 : (((ws.getD i []).length : Nat) : Int) ≠ (nws : Int) := g5
      refine rSkipQ rfl rfl ?_
      refine rSkipL trv rfl rfl ?_
      refine rSkipQ rfl rfl ?_
      refine rSkipQ rfl rfl ?_
      refine rSkipL trv rfl rfl ?_
      refine rSkipQ rfl rfl ?_
      refine rSkipQ rfl rfl ?_
      refine rSkipQ rfl rfl ?_
      refine pickB rfl rfl rfl rfl ?_
      refine mvB rfl rfl rfl ?_
      refine rSkipQ rfl rfl ?_
      refine rSkipL trv rfl rfl ?_
      refine rSkipQ rfl rfl ?_
      refine rSkipQ rfl rfl ?_
      refine rSkipL trv rfl rfl ?_
      refine rSkipL trv rfl rfl ?_
      refine rSkipQ rfl rfl ?_
      refine pickB rfl rfl rfl rfl ?_
      refine mvB rfl rfl rfl ?_
      refine rSkipQ rfl rfl ?_
      refine rSkipL trv rfl rfl ?_
      refine rSkipQ rfl rfl ?_
      refine rSkipQ rfl rfl ?_
      refine rSkipL trv rfl rfl ?_
      refine rSkipL trv rfl rfl ?_
      refine rSkipQ rfl rfl ?_
      refine pickB rfl rfl rfl rfl ?_
      refine rNil ?_
      refine qSeq rfl ?_
      refine hIfT rfl ?_
      refine hSeq ?_
      refine hReg (sq 0 sz) (by kernel_rfl) ?_
      refine asB rfl rfl rfl ?_
      refine rNil ?_
      refine qSeq rfl ?_
      refine hRet ?_
      exact fun w hs => ⟨[.bool false], ⟨rfl, trivial⟩, ⟨bB (by unfold Math.isGame; rw [lws, Math.mat_no (m := ws) (i := i) (by omega) (Math.row_no1 g5)]; simp), hs.upd⟩⟩
     ·
      replace g5 : ¬ ((((ws.getD i []).length : Nat) : Int) ≠ (nws : Int)) := g5
      refine fld fl43_2 rfl rfl rfl ?_
      refine ldl Try.isAgg41 (cB 0 rfl rfl) trv rfl rfl rfl ?_
      refine mvI rfl rfl rfl ?_
      refine ixRl (zn := i) (vs.getD i []) el41 (Kn.drop (k := 1) kvs) rfl rfl rfl rfl (by omega) (by omega) rfl (nth [] (by omega)) ?_
      intro be2 oe2 e2
      refine ldl Try.isAgg28 (Kn.fld e2 0 rfl) trv rfl rfl rfl ?_
      refine lenS Try.runUnderlying28 rfl rfl rfl ?_
      refine mvI rfl rfl rfl ?_
      refine neq rfl rfl rfl rfl ?_
      refine pickB rfl rfl rfl rfl ?_
      refine mvB rfl rfl rfl ?_
      refine rBoolD (d := 46) rfl (fun g6 => ?_) (fun g6 => ?_)
      ·
       replace g6 : (((vs.getD i []).length : Nat) : Int) ≠ (nws : Int) := g6
       refine rSkipQ rfl rfl ?_
       refine rSkipL trv rfl rfl ?_
       refine rSkipQ rfl rfl ?_
       refine rSkipQ rfl rfl ?_
       refine rSkipL trv rfl rfl ?_
       refine rSkipL trv rfl rfl ?_
       refine rSkipQ rfl rfl ?_
       refine pickB rfl rfl rfl rfl ?_
       refine mvB rfl rfl rfl ?_
       refine rSkipQ rfl rfl ?_
       refine rSkipL trv rfl rfl ?_
       refine rSkipQ rfl rfl ?_
       refine rSkipQ rfl rfl ?_
       refine rSkipL trv rfl rfl ?_
       refine rSkipL trv rfl rfl ?_
       refine rSkipQ rfl rfl ?_
       refine pickB rfl rfl rfl rfl ?_
       refine rNil ?_
       refine qSeq rfl ?_
       refine hIfT rfl ?_
       refine hSeq ?_
       refine hReg (sq 0 sz) (by kernel_rfl) ?_
       refine asB rfl rfl rfl ?_
       refine rNil ?_
       refine qSeq rfl ?_
       refine hRet ?_
       exact fun w hs => ⟨[.bool false], ⟨rfl, trivial⟩, ⟨bB (by unfold Math.isGame; rw [lws, Math.mat_no (m := vs) (i := i) (by omega) (Math.row_no1 g6)]; simp), hs.upd⟩⟩
      ·
       replace g6 : ¬ ((((vs.getD i []).length : Nat) : Int) ≠ (nws : Int)) := g6
       refine fld fl43_1 rfl rfl rfl ?_
       refine ldl Try.isAgg41 (cB 0 rfl rfl) trv rfl rfl rfl ?_
       refine mvI rfl rfl rfl ?_
       refine ixRl (zn := i) (ws.getD i []) el41 (Kn.drop (k := 1) kws) rfl rfl rfl rfl (by omega) (by omega) rfl (nth [] (by omega)) ?_
       intro be3 oe3 e3
       refine ldl Try.isAgg28 (Kn.fld e3 0 rfl) trv rfl rfl rfl ?_
       refine callP (v := .bool (((ws.getD i []).all (Math.inB (0 : Int) (9 : Int))))) Try.call98 trv rfl rfl (fun w hs => impl_allWithin_c _ _ _ _ _ _ w (Kn.drop (k := 1) ((Kn.imp kws fun _ h => h.kidM (nth [] (by omega)))) w hs)) ?_
       refine not rfl rfl rfl ?_
       refine pickB rfl rfl rfl rfl ?_
       refine mvB rfl rfl rfl ?_
       refine rBoolN (d := 55) rfl (fun g7 => ?_) (fun g7 => ?_)
       ·
        replace g7 : ((ws.getD i []).all (Math.inB (0 : Int) (9 : Int))) = false := g7
        refine rSkipQ rfl rfl ?_
        refine rSkipL trv rfl rfl ?_
        refine rSkipQ rfl rfl ?_
        refine rSkipQ rfl rfl ?_
        refine rSkipL trv rfl rfl ?_
        refine rSkipL trv rfl rfl ?_
        refine rSkipQ rfl rfl ?_
        refine pickB rfl rfl rfl rfl ?_
        refine rNil ?_
        refine qSeq rfl ?_
        refine hIfT rfl ?_
        refine hSeq ?_
        refine hReg (sq 0 sz) (by kernel_rfl) ?_
        refine asB rfl rfl rfl ?_
        refine rNil ?_
        refine qSeq rfl ?_
        refine hRet ?_
        exact fun w hs => ⟨[.bool false], ⟨rfl, trivial⟩, ⟨bB (by unfold Math.isGame; rw [lws, Math.mat_no (m := ws) (i := i) (by omega) (Math.row_no2 g7)]; simp), hs.upd⟩⟩
       ·
        replace g7 : ((ws.getD i []).all (Math.inB (0 : Int) (9 : Int))) = true := g7
        refine fld fl43_2 rfl rfl rfl ?_
        refine ldl Try.isAgg41 (cB 0 rfl rfl) trv rfl rfl rfl ?_
        refine mvI rfl rfl rfl ?_
        refine ixRl (zn := i) (vs.getD i []) el41 (Kn.drop (k := 1) kvs) rfl rfl rfl rfl (by omega) (by omega) rfl (nth [] (by omega)) ?_
        intro be4 oe4 e4
        refine ldl Try.isAgg28 (Kn.fld e4 0 rfl) trv rfl rfl rfl ?_
        refine callP (v := .bool (((vs.getD i []).all (Math.inB (-1) (1 : Int))))) Try.call98 trv rfl rfl (fun w hs => impl_allWithin_c _ _ _ _ _ _ w (Kn.drop (k := 1) ((Kn.imp kvs fun _ h => h.kidM (nth [] (by omega)))) w hs)) ?_
        refine not rfl rfl rfl ?_
        refine pickB rfl rfl rfl rfl ?_
        refine rNil ?_
        refine qSeq rfl ?_
        refine hIfN rfl (fun c8 => ?_) (fun c8 => ?_)
        ·
         replace c8 : ((vs.getD i []).all (Math.inB (-1) (1 : Int))) = false := c8
         refine hSeq ?_
         refine hReg (sq 0 sz) (by kernel_rfl) ?_
         refine asB rfl rfl rfl ?_
         refine rNil ?_
         refine qSeq rfl ?_
         refine hRet ?_
         exact fun w hs => ⟨[.bool false], ⟨rfl, trivial⟩, ⟨bB (by unfold Math.isGame; rw [lws, Math.mat_no (m := vs) (i := i) (by omega) (Math.row_no2 c8)]; simp), hs.upd⟩⟩
        ·
         replace c8 : ((vs.getD i []).all (Math.inB (-1) (1 : Int))) = true := c8
         refine hSkip ?_
         refine qSeq rfl ?_
         refine hReg (sq 0 (sq 1 sz)) (by kernel_rfl) ?_
         refine add rfl rfl rfl rfl (by omega) ?_
         refine mvI rfl rfl rfl ?_
         refine rNil ?_
         exact qNext rfl (i + 1) (by omega) (⟨by omega, Math.upto hal ⟨Math.row_yes (by omega) g7, Math.row_yes (by omega) c8⟩⟩) ⟨rfl, rfl, rfl, rfl, trivial⟩ (fun _ h => h.pick [0])
    ·
     replace c4 : ¬ ((i : Int) < (nws : Int)) := c4
     have hm : Math.matB nws 0 9 ws = true := Math.mat_yes lws fun j hj => (hal j (by omega)).1
     have hv : Math.matB nws (-1) 1 vs = true := Math.mat_yes (by omega) fun j hj => (hal j (by omega)).2
     refine hExit rfl ?_
     refine qSeq rfl ?_
     refine hSeq ?_
     refine hReg (sl 0 (sl 1 (sq 2 (sq 3 sz)))) (by kernel_rfl) ?_
     refine ldAl Try.isAgg43 Try.sizeOf43 (cBs 0 rfl) trv rfl rfl rfl rfl ?_
     refine callP (v := .int .i64 (Math.total ws)) Try.call115 trv rfl rfl (fun w hs => impl_totalWeight_c _ _ _ _ _ _ _ _ _ _ _ _ _ _ _ w (Kn.drop (k := 1) kz w hs) (Kn.drop (k := 1) kws w hs) (Kn.drop (k := 1) kvs w hs) (by assumption) (by omega)) ?_
     refine gtr rfl rfl rfl rfl ?_
     refine asB rfl rfl rfl ?_
     refine rNil ?_
     refine qSeq rfl ?_
     refine hRet ?_
     exact fun w hs => ⟨[.bool (decide (0 < (Math.total ws)))], ⟨rfl, trivial⟩, ⟨bB (by unfold Math.isGame; rw [lws, hm, hv, g1, g2]; rfl), hs.upd⟩⟩
theorem impl_powerOf_c (n : Int) (k : Int) (w : World) (hn : n = 60) (hk : 0 ≤ k ∧ k ≤ 10) :
  Calls Try.prog 178 #[.int .i64 n, .int .i64 k] w (Ret fun v w' => v = .int .i64 (Math.p60 k.toNat) ∧ Ext w w') := by
 refine fn (M := none_) (rs := [.tmp 4]) Try.func178 rfl Try.ntmps178 rfl rfl (Sep.start _ _) ?_
 refine hSeq ?_
 refine hReg (sq 0 sz) (by kernel_rfl) ?_
 refine asI rfl rfl rfl ?_
 refine rNil ?_
 refine qSeq rfl ?_
 refine hSeq ?_
 refine hReg (sq 0 sz) (by kernel_rfl) ?_
 refine asI rfl rfl rfl ?_
 refine rNil ?_
 refine qSeq rfl ?_
 refine hSeq ?_
 refine hSeq ?_
 refine hReg (sq 0 (sq 1 sz)) (by kernel_rfl) ?_
 refine mvI rfl rfl rfl ?_
 refine mvI rfl rfl rfl ?_
 refine rNil ?_
 refine qSeq rfl ?_
 refine hBlk ?_
 refine hLoop (α := Nat × Int) (fun x => x.1 ≤ k.toNat ∧ x.2 = Math.p60 x.1) (fun x => k.toNat - x.1) (fun x => []) (fun x => [(0, .int .i64 n), (5, .int .i64 x.2), (6, .int .i64 k), (7, .int .i64 (x.1 : Int))]) (0, 1) ⟨Nat.zero_le _, rfl⟩ (fun _ h => h.pick []) ⟨rfl, rfl, rfl, rfl, trivial⟩ ?_
 rintro ⟨i, p⟩ τ1 ⟨hi, hp⟩
 dsimp only at hi hp
 refine hRe [(0, .int .i64 n), (5, .int .i64 p), (6, .int .i64 k), (7, .int .i64 (i : Int))] [] rfl rfl ?_
 refine hSeq ?_
 refine hReg (sq 0 sz) (by kernel_rfl) ?_
 refine lss rfl rfl rfl rfl ?_
 refine rNil ?_
 refine qSeq rfl ?_
 refine hSeq ?_
 refine hIfD rfl (fun c1 => ?_) (fun c1 => ?_)
 ·
  replace c1 : (i : Int) < k := c1
  have hpb := Math.p60_bd (show i ≤ 9 by omega)
  refine hSkip ?_
  refine qSeq rfl ?_
  refine hSeq ?_
  refine hBlk ?_
  refine hReg (sq 0 (sq 1 (sq 2 (sq 3 sz)))) (by kernel_rfl) ?_
  refine mvI rfl rfl rfl ?_
  refine mvI rfl rfl rfl ?_
  refine mul rfl rfl rfl rfl (by rw [hn]; omega) ?_
  refine asI rfl rfl rfl ?_
  refine rNil ?_
  refine qSeq rfl ?_
  refine hReg (sq 0 (sq 1 sz)) (by kernel_rfl) ?_
  refine add rfl rfl rfl rfl (by omega) ?_
  refine mvI rfl rfl rfl ?_
  refine rNil ?_
  exact qNext rfl (i + 1, p * n) (by dsimp only; omega) ⟨by dsimp only; omega, by dsimp only; rw [hn, hp, Math.p60_s]⟩ ⟨rfl, rfl, rfl, rfl, trivial⟩ (fun _ h => h.pick [])
 ·
  replace c1 : ¬ ((i : Int) < k) := c1
  refine hExit rfl ?_
  refine qSeq rfl ?_
  refine hSeq ?_
  refine hReg (sq 0 (sq 1 sz)) (by kernel_rfl) ?_
  refine mvI rfl rfl rfl ?_
  refine asI rfl rfl rfl ?_
  refine rNil ?_
  refine qSeq rfl ?_
  refine hRet ?_
  exact fun w hs => ⟨[.int .i64 p], ⟨rfl, trivial⟩, ⟨vI (by rw [hp]; congr 1; omega), hs.upd⟩⟩
theorem spec_l23Power_c (k : Int) (w : World) (hk : 0 ≤ k ∧ k ≤ 10) :
  Calls Try.prog 180 #[.int .i64 k] w (Ret fun v w' => v = .int .i64 (Math.p60 k.toNat) ∧ Ext w w') := by
 refine fn (M := none_) (rs := [.tmp 2]) Try.func180 rfl Try.ntmps180 rfl rfl (Sep.start _ _) ?_
 refine hSeq ?_
 refine hReg (sq 0 sz) (by kernel_rfl) ?_
 refine asI rfl rfl rfl ?_
 refine rNil ?_
 refine qSeq rfl ?_
 refine hSeq ?_
 refine hReg (sq 0 sz) (by kernel_rfl) ?_
 refine asI rfl rfl rfl ?_
 refine rNil ?_
 refine qSeq rfl ?_
 refine hSeq ?_
 refine hBlk ?_
 refine hLoop (α := Int × Int) (fun x => 0 ≤ x.1 ∧ x.1 ≤ k ∧ x.2 = Math.p60 (k - x.1).toNat) (fun x => x.1.toNat) (fun x => []) (fun x => [(0, .int .i64 x.1), (3, .int .i64 x.2)]) (k, 1) ⟨hk.1, Int.le_refl _, by simp [Math.p60]⟩ (fun _ h => h.pick []) ⟨rfl, rfl, trivial⟩ ?_
 rintro ⟨q, p⟩ τ1 ⟨hq, hqk, hp⟩
 dsimp only at hq hqk hp
 refine hRe [(0, .int .i64 q), (3, .int .i64 p)] [] rfl rfl ?_
 refine hSeq ?_
 refine hSeq ?_
 refine hReg (sq 0 (sq 1 sz)) (by kernel_rfl) ?_
 refine mvI rfl rfl rfl ?_
 refine gtr rfl rfl rfl rfl ?_
 refine rNil ?_
 refine qSeq rfl ?_
 refine hIfD rfl (fun c1 => ?_) (fun c1 => ?_)
 ·
  replace c1 : 0 < q := c1
  have hpb := Math.p60_bd (show (k - q).toNat ≤ 9 by omega)
  refine hSkip ?_
  refine qSeq rfl ?_
  refine hSeq ?_
  refine hBlk ?_
  refine hReg (sq 0 (sq 1 (sq 2 sz))) (by kernel_rfl) ?_
  refine mvI rfl rfl rfl ?_
  refine mul rfl rfl rfl rfl (by omega) ?_
  refine asI rfl rfl rfl ?_
  refine rNil ?_
  refine qSeq rfl ?_
  refine hReg (sq 0 (sq 1 (sq 2 sz))) (by kernel_rfl) ?_
  refine mvI rfl rfl rfl ?_
  refine sub rfl rfl rfl rfl (by omega) ?_
  refine asI rfl rfl rfl ?_
  refine rNil ?_
  exact qNext rfl (q - 1, p * 60) (by dsimp only; omega) ⟨by dsimp only; omega, by dsimp only; omega, by dsimp only; rw [hp, show (k - (q - 1)).toNat = (k - q).toNat + 1 from by omega, Math.p60_s]⟩ ⟨rfl, rfl, trivial⟩ (fun _ h => h.pick [])
 ·
  replace c1 : ¬ (0 < q) := c1
  refine hExit rfl ?_
  refine qSeq rfl ?_
  refine hSeq ?_
  refine hReg (sq 0 (sq 1 sz)) (by kernel_rfl) ?_
  refine mvI rfl rfl rfl ?_
  refine asI rfl rfl rfl ?_
  refine rNil ?_
  refine qSeq rfl ?_
  refine hRet ?_
  exact fun w hs => ⟨[.int .i64 p], ⟨rfl, trivial⟩, ⟨vI (by rw [hp]; congr 1; omega), hs.upd⟩⟩
theorem impl_unitOf_c (az : Option Addr) (nz : Nat) (cz : Nat) (Hz : Nat → Hd) (z : List Nd) (aws : Option Addr) (nws : Nat) (cws : Nat) (Hws : Nat → Hd) (ws : List (List Int)) (avs : Option Addr) (nvs : Nat) (cvs : Nat) (Hvs : Nat → Hd) (vs : List (List Int)) (w : World) (rz : RdR ndK az nz Hz z w) (rws : RdR maK aws nws Hws ws w) (rvs : RdR maK avs nvs Hvs vs w) (hg : Math.isGame z ws vs = true) :
  Calls Try.prog 147 #[.agg #[.slice az nz cz, .slice aws nws cws, .slice avs nvs cvs]] w (Ret fun v w' => v = .int .i64 (Math.unit z ws) ∧ Ext w w') := by
 have kz : Kn w none_ [] (RdR ndK az nz Hz z) := fun w' hs => rz.ext hs.upd
 have lz : z.length = nz := rz.1
 have mz : nz ≤ 9223372036854775807 := rz.2.1
 have kws : Kn w none_ [] (RdR maK aws nws Hws ws) := fun w' hs => rws.ext hs.upd
 have lws : ws.length = nws := rws.1
 have mws : nws ≤ 9223372036854775807 := rws.2.1
 have kvs : Kn w none_ [] (RdR maK avs nvs Hvs vs) := fun w' hs => rvs.ext hs.upd
 have lvs : vs.length = nvs := rvs.1
 have mvs : nvs ≤ 9223372036854775807 := rvs.2.1
 have hG := Math.isGame_ok hg
 rw [lws] at hG
 have hT := Math.isTree_ok hG.1
 have hok := hT.2.1
 have hm := hG.2.2.1
 have htl := Math.total_le hG.2.1.2 hm
 have hp5 := Math.p60_5 (show (Math.depth z 0).toNat ≤ 5 by omega)
 have hmb := Math.mul_bd htl.1 htl.2 (show 0 ≤ Math.p60 (Math.depth z 0).toNat by omega) hp5.2
 refine fn (M := none_) (rs := [.tmp 2]) Try.func147 rfl Try.ntmps147 rfl rfl (Sep.start _ _) ?_
 refine hSeq ?_
 refine hReg (sl 0 (sq 1 sz)) (by kernel_rfl) ?_
 refine box trv1 rfl rfl rfl rfl (fun bkb1 hbkb1 => ?_)
 refine asI rfl rfl rfl ?_
 refine rNil ?_
 refine qSeq rfl ?_
 refine hSeq ?_
 refine hDraw (Ls := [blk bkb1 43 [.slice az nz cz, .slice aws nws cws, .slice avs nvs cvs]]) (by kernel_rfl) (sq 0 (sq 2 (sq 3 (sl 1 (sl 4 (sl 5 (sq 6 (sq 7 sz)))))))) (by kernel_rfl) (.cons_cons _ .slnil) ?_
 refine ldAq Try.isAgg43 Try.sizeOf43 (cBs 0 rfl) rfl rfl rfl rfl ?_
 refine fld fl43_0 rfl rfl rfl ?_
 refine ldAq Try.isAgg26 Try.sizeOf26 (cBp (m := 1) 0 rfl rfl) rfl rfl rfl rfl ?_
 refine callP (v := .int .i64 (Math.total ws)) Try.call115 (fun _ h => h.pick [0]) rfl rfl (fun w hs => impl_totalWeight_c _ _ _ _ _ _ _ _ _ _ _ _ _ _ _ w (Kn.drop (k := 1) kz w hs) (Kn.drop (k := 1) kws w hs) (Kn.drop (k := 1) kvs w hs) (by assumption) (by omega)) ?_
 refine callP (v := .int .i64 (Math.depth z 0)) Try.call100 (fun _ h => h.pick [0]) rfl rfl (fun w hs => impl_depthFrom_c _ _ _ _ _ _ w (Kn.drop (k := 1) kz w hs) (by assumption) (by omega) (by omega)) ?_
 refine callP (v := .int .i64 ((Math.p60 (Math.depth z 0).toNat))) Try.call178 (fun _ h => h.pick [0]) rfl rfl (fun w hs => impl_powerOf_c _ _ w rfl (by omega)) ?_
 refine mul rfl rfl rfl rfl (by have := hmb; exact ⟨by omega, by omega⟩) ?_
 refine asI rfl rfl rfl ?_
 refine rNil ?_
 refine qSeq rfl ?_
 refine hRet ?_
 exact fun w hs => ⟨[.int .i64 (((Math.total ws) * (Math.p60 (Math.depth z 0).toNat)))], ⟨rfl, trivial⟩, ⟨rfl, hs.upd⟩⟩
theorem spec_l23Unit_c (az : Option Addr) (nz : Nat) (cz : Nat) (Hz : Nat → Hd) (z : List Nd) (aws : Option Addr) (nws : Nat) (cws : Nat) (Hws : Nat → Hd) (ws : List (List Int)) (avs : Option Addr) (nvs : Nat) (cvs : Nat) (Hvs : Nat → Hd) (vs : List (List Int)) (w : World) (rz : RdR ndK az nz Hz z w) (rws : RdR maK aws nws Hws ws w) (rvs : RdR maK avs nvs Hvs vs w) (hg : Math.isGame z ws vs = true) :
  Calls Try.prog 150 #[.agg #[.slice az nz cz, .slice aws nws cws, .slice avs nvs cvs]] w (Ret fun v w' => v = .int .i64 (Math.unit z ws) ∧ Ext w w') := by
 have kz : Kn w none_ [] (RdR ndK az nz Hz z) := fun w' hs => rz.ext hs.upd
 have lz : z.length = nz := rz.1
 have mz : nz ≤ 9223372036854775807 := rz.2.1
 have kws : Kn w none_ [] (RdR maK aws nws Hws ws) := fun w' hs => rws.ext hs.upd
 have lws : ws.length = nws := rws.1
 have mws : nws ≤ 9223372036854775807 := rws.2.1
 have kvs : Kn w none_ [] (RdR maK avs nvs Hvs vs) := fun w' hs => rvs.ext hs.upd
 have lvs : vs.length = nvs := rvs.1
 have mvs : nvs ≤ 9223372036854775807 := rvs.2.1
 have hG := Math.isGame_ok hg
 rw [lws] at hG
 have hT := Math.isTree_ok hG.1
 have hok := hT.2.1
 have hm := hG.2.2.1
 have htl := Math.total_le hG.2.1.2 hm
 have hp5 := Math.p60_5 (show (Math.depth z 0).toNat ≤ 5 by omega)
 have hmb := Math.mul_bd htl.1 htl.2 (show 0 ≤ Math.p60 (Math.depth z 0).toNat by omega) hp5.2
 refine fn (M := none_) (rs := [.tmp 2]) Try.func150 rfl Try.ntmps150 rfl rfl (Sep.start _ _) ?_
 refine hSeq ?_
 refine hReg (sl 0 (sq 1 sz)) (by kernel_rfl) ?_
 refine box trv1 rfl rfl rfl rfl (fun bkb1 hbkb1 => ?_)
 refine asI rfl rfl rfl ?_
 refine rNil ?_
 refine qSeq rfl ?_
 refine hSeq ?_
 refine hDraw (Ls := [blk bkb1 43 [.slice az nz cz, .slice aws nws cws, .slice avs nvs cvs]]) (by kernel_rfl) (sq 0 (sq 2 (sq 3 (sl 1 (sl 4 (sl 5 (sq 6 (sq 7 sz)))))))) (by kernel_rfl) (.cons_cons _ .slnil) ?_
 refine ldAq Try.isAgg43 Try.sizeOf43 (cBs 0 rfl) rfl rfl rfl rfl ?_
 refine fld fl43_0 rfl rfl rfl ?_
 refine ldAq Try.isAgg26 Try.sizeOf26 (cBp (m := 1) 0 rfl rfl) rfl rfl rfl rfl ?_
 refine callP (v := .int .i64 (Math.total ws)) Try.call126 (fun _ h => h.pick [0]) rfl rfl (fun w hs => spec_l21Total_c _ _ _ _ _ _ _ _ _ _ _ _ _ _ _ w (Kn.drop (k := 1) kz w hs) (Kn.drop (k := 1) kws w hs) (Kn.drop (k := 1) kvs w hs) (by assumption) (by omega)) ?_
 refine callP (v := .int .i64 (Math.depth z 0)) Try.call102 (fun _ h => h.pick [0]) rfl rfl (fun w hs => spec_l20Depth_c _ _ _ _ _ _ w (Kn.drop (k := 1) kz w hs) (by assumption) (by omega) (by omega)) ?_
 refine callP (v := .int .i64 ((Math.p60 (Math.depth z 0).toNat))) Try.call180 (fun _ h => h.pick [0]) rfl rfl (fun w hs => spec_l23Power_c _ w (by omega)) ?_
 refine mul rfl rfl rfl rfl (by have := hmb; exact ⟨by omega, by omega⟩) ?_
 refine asI rfl rfl rfl ?_
 refine rNil ?_
 refine qSeq rfl ?_
 refine hRet ?_
 exact fun w hs => ⟨[.int .i64 (((Math.total ws) * (Math.p60 (Math.depth z 0).toNat)))], ⟨rfl, trivial⟩, ⟨rfl, hs.upd⟩⟩
theorem impl_UnitOf_c (az : Option Addr) (nz : Nat) (cz : Nat) (Hz : Nat → Hd) (z : List Nd) (aws : Option Addr) (nws : Nat) (cws : Nat) (Hws : Nat → Hd) (ws : List (List Int)) (avs : Option Addr) (nvs : Nat) (cvs : Nat) (Hvs : Nat → Hd) (vs : List (List Int)) (w : World) (rz : RdR ndK az nz Hz z w) (rws : RdR maK aws nws Hws ws w) (rvs : RdR maK avs nvs Hvs vs w) :
  Calls Try.prog 77 #[.agg #[.slice az nz cz, .slice aws nws cws, .slice avs nvs cvs]] w (Ret fun v w' => v = .tuple #[.int .i64 ((Math.unitOf z ws vs).1), .int .i64 ((Math.unitOf z ws vs).2)] ∧ Ext w w') := by
 have kz : Kn w none_ [] (RdR ndK az nz Hz z) := fun w' hs => rz.ext hs.upd
 have lz : z.length = nz := rz.1
 have mz : nz ≤ 9223372036854775807 := rz.2.1
 have kws : Kn w none_ [] (RdR maK aws nws Hws ws) := fun w' hs => rws.ext hs.upd
 have lws : ws.length = nws := rws.1
 have mws : nws ≤ 9223372036854775807 := rws.2.1
 have kvs : Kn w none_ [] (RdR maK avs nvs Hvs vs) := fun w' hs => rvs.ext hs.upd
 have lvs : vs.length = nvs := rvs.1
 have mvs : nvs ≤ 9223372036854775807 := rvs.2.1
 refine fn (M := none_) (rs := [.tmp 2, .tmp 3]) Try.func77 rfl Try.ntmps77 rfl rfl (Sep.start _ _) ?_
 refine hSeq ?_
 refine hReg (sl 0 (sq 1 (sq 2 sz))) (by kernel_rfl) ?_
 refine box trv1 rfl rfl rfl rfl (fun bkb1 hbkb1 => ?_)
 refine asI rfl rfl rfl ?_
 refine asI rfl rfl rfl ?_
 refine rNil ?_
 refine qSeq rfl ?_
 refine hSeq ?_
 refine hSeq ?_
 refine hReg (sl 0 (sl 1 (sq 2 sz))) (by kernel_rfl) ?_
 refine ldAl Try.isAgg43 Try.sizeOf43 (cBs 0 rfl) trv rfl rfl rfl rfl ?_
 refine callP (v := .bool (Math.isGame z ws vs)) Try.call38 trv rfl rfl (fun w hs => impl_IsGame_c _ _ _ _ _ _ _ _ _ _ _ _ _ _ _ w (Kn.drop (k := 1) kz w hs) (Kn.drop (k := 1) kws w hs) (Kn.drop (k := 1) kvs w hs)) ?_
 refine not rfl rfl rfl ?_
 refine rNil ?_
 refine qSeq rfl ?_
 refine hIfN rfl (fun c1 => ?_) (fun c1 => ?_)
 ·
  replace c1 : (Math.isGame z ws vs) = false := c1
  refine hSeq ?_
  refine hReg (sq 0 (sq 1 sz)) (by kernel_rfl) ?_
  refine asI rfl rfl rfl ?_
  refine asI rfl rfl rfl ?_
  refine rNil ?_
  refine qSeq rfl ?_
  refine hRet ?_
  exact fun w hs => ⟨[.int .i64 0, .int .i64 1], ⟨rfl, ⟨rfl, trivial⟩⟩, ⟨by rw [show Math.unitOf z ws vs = (0, 1) from by simp [Math.unitOf, c1]]; rfl, hs.upd⟩⟩
 ·
  replace c1 : (Math.isGame z ws vs) = true := c1
  refine hSkip ?_
  refine qSeq rfl ?_
  refine hSeq ?_
  refine hReg (sl 0 (sl 1 (sq 2 (sq 3 sz)))) (by kernel_rfl) ?_
  refine ldAl Try.isAgg43 Try.sizeOf43 (cBs 0 rfl) trv rfl rfl rfl rfl ?_
  refine callP (v := .int .i64 (Math.unit z ws)) Try.call147 trv rfl rfl (fun w hs => impl_unitOf_c _ _ _ _ _ _ _ _ _ _ _ _ _ _ _ w (Kn.drop (k := 1) kz w hs) (Kn.drop (k := 1) kws w hs) (Kn.drop (k := 1) kvs w hs) (by assumption)) ?_
  refine asI rfl rfl rfl ?_
  refine asI rfl rfl rfl ?_
  refine rNil ?_
  refine qSeq rfl ?_
  refine hRet ?_
  exact fun w hs => ⟨[.int .i64 (Math.unit z ws), .int .i64 0], ⟨rfl, ⟨rfl, trivial⟩⟩, ⟨by rw [show Math.unitOf z ws vs = (Math.unit z ws, 0) from by simp [Math.unitOf, c1]]; rfl, hs.upd⟩⟩
theorem spec_UnitOf_c (az : Option Addr) (nz : Nat) (cz : Nat) (Hz : Nat → Hd) (z : List Nd) (aws : Option Addr) (nws : Nat) (cws : Nat) (Hws : Nat → Hd) (ws : List (List Int)) (avs : Option Addr) (nvs : Nat) (cvs : Nat) (Hvs : Nat → Hd) (vs : List (List Int)) (w : World) (rz : RdR ndK az nz Hz z w) (rws : RdR maK aws nws Hws ws w) (rvs : RdR maK avs nvs Hvs vs w) :
  Calls Try.prog 83 #[.agg #[.slice az nz cz, .slice aws nws cws, .slice avs nvs cvs]] w (Ret fun v w' => v = .tuple #[.int .i64 ((Math.unitOf z ws vs).1), .int .i64 ((Math.unitOf z ws vs).2)] ∧ Ext w w') := by
 have kz : Kn w none_ [] (RdR ndK az nz Hz z) := fun w' hs => rz.ext hs.upd
 have lz : z.length = nz := rz.1
 have mz : nz ≤ 9223372036854775807 := rz.2.1
 have kws : Kn w none_ [] (RdR maK aws nws Hws ws) := fun w' hs => rws.ext hs.upd
 have lws : ws.length = nws := rws.1
 have mws : nws ≤ 9223372036854775807 := rws.2.1
 have kvs : Kn w none_ [] (RdR maK avs nvs Hvs vs) := fun w' hs => rvs.ext hs.upd
 have lvs : vs.length = nvs := rvs.1
 have mvs : nvs ≤ 9223372036854775807 := rvs.2.1
 refine fn (M := none_) (rs := [.tmp 2, .tmp 3]) Try.func83 rfl Try.ntmps83 rfl rfl (Sep.start _ _) ?_
 refine hSeq ?_
 refine hReg (sl 0 (sq 1 (sq 2 sz))) (by kernel_rfl) ?_
 refine box trv1 rfl rfl rfl rfl (fun bkb1 hbkb1 => ?_)
 refine asI rfl rfl rfl ?_
 refine asI rfl rfl rfl ?_
 refine rNil ?_
 refine qSeq rfl ?_
 refine hSeq ?_
 refine hSeq ?_
 refine hReg (sl 0 (sl 1 (sq 2 sz))) (by kernel_rfl) ?_
 refine ldAl Try.isAgg43 Try.sizeOf43 (cBs 0 rfl) trv rfl rfl rfl rfl ?_
 refine callP (v := .bool (Math.isGame z ws vs)) Try.call108 trv rfl rfl (fun w hs => spec_IsGame_c _ _ _ _ _ _ _ _ _ _ _ _ _ _ _ w (Kn.drop (k := 1) kz w hs) (Kn.drop (k := 1) kws w hs) (Kn.drop (k := 1) kvs w hs)) ?_
 refine not rfl rfl rfl ?_
 refine rNil ?_
 refine qSeq rfl ?_
 refine hIfN rfl (fun c1 => ?_) (fun c1 => ?_)
 ·
  replace c1 : (Math.isGame z ws vs) = false := c1
  refine hSeq ?_
  refine hReg (sq 0 (sq 1 sz)) (by kernel_rfl) ?_
  refine asI rfl rfl rfl ?_
  refine asI rfl rfl rfl ?_
  refine rNil ?_
  refine qSeq rfl ?_
  refine hRet ?_
  exact fun w hs => ⟨[.int .i64 0, .int .i64 1], ⟨rfl, ⟨rfl, trivial⟩⟩, ⟨by rw [show Math.unitOf z ws vs = (0, 1) from by simp [Math.unitOf, c1]]; rfl, hs.upd⟩⟩
 ·
  replace c1 : (Math.isGame z ws vs) = true := c1
  refine hSkip ?_
  refine qSeq rfl ?_
  refine hSeq ?_
  refine hReg (sl 0 (sl 1 (sq 2 (sq 3 sz)))) (by kernel_rfl) ?_
  refine ldAl Try.isAgg43 Try.sizeOf43 (cBs 0 rfl) trv rfl rfl rfl rfl ?_
  refine callP (v := .int .i64 (Math.unit z ws)) Try.call150 trv rfl rfl (fun w hs => spec_l23Unit_c _ _ _ _ _ _ _ _ _ _ _ _ _ _ _ w (Kn.drop (k := 1) kz w hs) (Kn.drop (k := 1) kws w hs) (Kn.drop (k := 1) kvs w hs) (by assumption)) ?_
  refine asI rfl rfl rfl ?_
  refine asI rfl rfl rfl ?_
  refine rNil ?_
  refine qSeq rfl ?_
  refine hRet ?_
  exact fun w hs => ⟨[.int .i64 (Math.unit z ws), .int .i64 0], ⟨rfl, ⟨rfl, trivial⟩⟩, ⟨by rw [show Math.unitOf z ws vs = (Math.unit z ws, 0) from by simp [Math.unitOf, c1]]; rfl, hs.upd⟩⟩
end Go.Proofs.Ytjengglpbdgmnaa
/- Contracts of payoffs and information sets. Their conditions stand in each. -/
namespace Go.Proofs.Ytjengglpbdgmnaa
open Go Go.RowKit V
set_option linter.unusedVariables false
set_option linter.unusedSimpArgs false
set_option maxRecDepth 100000
theorem mk41 : Mk Try.prog 41 28 1 24 [.slice none 0 0] := ⟨Try.underlying41, Try.t28, _, by kernel_rfl, rfl, rfl, rfl, rfl, rfl, by decide, by decide⟩
theorem bsl41_0   : ∀ w, (Instr.buildSlice 41 0 ([] : List (Nat × Value)).toArray).run Try.prog w = .ok (.slice (some ⟨w.heap.size, 0, none⟩) 0 0) (w.alloc (.cells ([] : List Value).toArray 28)) := by
 intro w; simp [Instr.buildSlice, Instr.fill, Try.zeroValue28, Try.runUnderlying41, Try.sizeOf28, Value.cells_int, newRow, show Array.range 0 = #[] from by decide]
theorem bsl41_1 (v0 : Value) (h0 : v0.cells = #[v0]) : ∀ w, (Instr.buildSlice 41 1 ([(0, v0)] : List (Nat × Value)).toArray).run Try.prog w = .ok (.slice (some ⟨w.heap.size, 0, none⟩) 1 1) (w.alloc (.cells ([v0] : List Value).toArray 28)) := by
 intro w; simp [Instr.buildSlice, Instr.fill, Try.zeroValue28, Try.runUnderlying41, Try.sizeOf28, Value.cells_int, newRow, show Array.range 1 = #[0] from by decide, h0]
theorem impl_isKind_c (az : Option Addr) (nz : Nat) (cz : Nat) (Hz : Nat → Hd) (z : List Nd) (aws : Option Addr) (nws : Nat) (cws : Nat) (Hws : Nat → Hd) (ws : List (List Int)) (avs : Option Addr) (nvs : Nat) (cvs : Nat) (Hvs : Nat → Hd) (vs : List (List Int)) (card : Int) (w : World) (rz : RdR ndK az nz Hz z w) (rws : RdR maK aws nws Hws ws w) (rvs : RdR maK avs nvs Hvs vs w) :
  Calls Try.prog 110 #[.agg #[.slice az nz cz, .slice aws nws cws, .slice avs nvs cvs], .int .i64 card] w (Ret fun v w' => v = .bool (decide (0 ≤ card ∧ card ≤ (nws : Int) - 1)) ∧ Ext w w') := by
 have kz : Kn w none_ [] (RdR ndK az nz Hz z) := fun w' hs => rz.ext hs.upd
 have lz : z.length = nz := rz.1
 have mz : nz ≤ 9223372036854775807 := rz.2.1
 have kws : Kn w none_ [] (RdR maK aws nws Hws ws) := fun w' hs => rws.ext hs.upd
 have lws : ws.length = nws := rws.1
 have mws : nws ≤ 9223372036854775807 := rws.2.1
 have kvs : Kn w none_ [] (RdR maK avs nvs Hvs vs) := fun w' hs => rvs.ext hs.upd
 have lvs : vs.length = nvs := rvs.1
 have mvs : nvs ≤ 9223372036854775807 := rvs.2.1
 refine fn (M := none_) (rs := [.tmp 4]) Try.func110 rfl Try.ntmps110 rfl rfl (Sep.start _ _) ?_
 refine hSeq ?_
 refine hReg (sl 0 (sq 1 sz)) (by kernel_rfl) ?_
 refine box trv1 rfl rfl rfl rfl (fun bkb1 hbkb1 => ?_)
 refine asB rfl rfl rfl ?_
 refine rNil ?_
 refine qSeq rfl ?_
 refine hSeq ?_
 refine hReg (sq 0 (sq 1 (sl 2 (sq 3 (sq 4 (sl 5 (sq 6 sz))))))) (by kernel_rfl) ?_
 refine mvI rfl rfl rfl ?_
 refine fld fl43_1 rfl rfl rfl ?_
 refine ldl Try.isAgg41 (cB 0 rfl rfl) trv rfl rfl rfl ?_
 refine lenS Try.runUnderlying41 rfl rfl rfl ?_
 refine sub rfl rfl rfl rfl (by omega) ?_
 refine callP (v := .bool (decide ((0 : Int) ≤ card ∧ card ≤ (((nws : Int) - 1))))) Try.call96 trv rfl rfl (fun w hs => impl_within_c _ _ _ w ) ?_
 refine asB rfl rfl rfl ?_
 refine rNil ?_
 refine qSeq rfl ?_
 refine hRet ?_
 exact fun w hs => ⟨[.bool (decide ((0 : Int) ≤ card ∧ card ≤ (((nws : Int) - 1))))], ⟨rfl, trivial⟩, ⟨by first | rfl | exact bD (by omega) | exact bT (by omega) | exact bF (by omega) | exact vI (by omega), hs.upd⟩⟩
theorem impl_payoffAt_c (az : Option Addr) (nz : Nat) (cz : Nat) (Hz : Nat → Hd) (z : List Nd) (aws : Option Addr) (nws : Nat) (cws : Nat) (Hws : Nat → Hd) (ws : List (List Int)) (avs : Option Addr) (nvs : Nat) (cvs : Nat) (Hvs : Nat → Hd) (vs : List (List Int)) (node : Int) (a : Int) (b : Int) (w : World) (rz : RdR ndK az nz Hz z w) (rws : RdR maK aws nws Hws ws w) (rvs : RdR maK avs nvs Hvs vs w) (hg : Math.isGame z ws vs = true) (hn : 0 ≤ node ∧ node < (nz : Int)) (ha : 0 ≤ a ∧ a < (nws : Int)) (hb : 0 ≤ b ∧ b < (nws : Int)) :
  Calls Try.prog 111 #[.agg #[.slice az nz cz, .slice aws nws cws, .slice avs nvs cvs], .int .i64 node, .int .i64 a, .int .i64 b] w (Ret fun v w' => v = .int .i64 ((Math.payoffX (z.getD node.toNat dN) ((vs.getD a.toNat []).getD b.toNat 0))) ∧ Ext w w') := by
 have kz : Kn w none_ [] (RdR ndK az nz Hz z) := fun w' hs => rz.ext hs.upd
 have lz : z.length = nz := rz.1
 have mz : nz ≤ 9223372036854775807 := rz.2.1
 have kws : Kn w none_ [] (RdR maK aws nws Hws ws) := fun w' hs => rws.ext hs.upd
 have lws : ws.length = nws := rws.1
 have mws : nws ≤ 9223372036854775807 := rws.2.1
 have kvs : Kn w none_ [] (RdR maK avs nvs Hvs vs) := fun w' hs => rvs.ext hs.upd
 have lvs : vs.length = nvs := rvs.1
 have mvs : nvs ≤ 9223372036854775807 := rvs.2.1
 have hG := Math.isGame_ok hg
 rw [lws] at hG
 have hT := Math.isTree_ok hG.1
 have hvl := Math.mat_len hG.2.2.2.1
 have hrl := Math.row_len (Math.mat_row hG.2.2.2.1 (show a.toNat < nws by omega))
 have hpl := Math.ok_pl ((Math.allOk_iff' lz).1 hT.2.1 node.toNat (by omega))
 refine fn (M := none_) (rs := [.tmp 8]) Try.func111 rfl Try.ntmps111 rfl rfl (Sep.start _ _) ?_
 refine hSeq ?_
 refine hReg (sl 0 (sq 1 sz)) (by kernel_rfl) ?_
 refine box trv1 rfl rfl rfl rfl (fun bkb1 hbkb1 => ?_)
 refine asI rfl rfl rfl ?_
 refine rNil ?_
 refine qSeq rfl ?_
 refine hSeq ?_
 refine hReg (sq 0 (sq 1 (sl 2 (sq 3 (sq 4 (sl 5 (sl 6 (sl 7 sz)))))))) (by kernel_rfl) ?_
 refine fld fl43_0 rfl rfl rfl ?_
 refine fld fl26_0 rfl rfl rfl ?_
 refine ldl Try.isAgg24 (cB 0 rfl rfl) trv rfl rfl rfl ?_
 refine mvI rfl rfl rfl ?_
 refine ixRl (zn := (node).toNat) (z.getD ((node).toNat) dN) el24 (Kn.drop (k := 1) kz) rfl rfl rfl rfl (by omega) (by omega) rfl (nth dN (by omega)) ?_
 intro be1 oe1 e1
 refine ldAl Try.isAgg88 Try.sizeOf88 (e1) trv rfl rfl rfl rfl ?_
 refine alc Try.zeroValue88 rfl trv1 rfl rfl (fun bka2 hbka2 => ?_)
 refine stAl (vs := [.int .i64 ((z.getD ((node).toNat) dN).pl), .int .i64 ((z.getD ((node).toNat) dN).p0), .int .i64 ((z.getD ((node).toNat) dN).p1), .int .i64 ((z.getD ((node).toNat) dN).fo), .slice ((Hz ((node).toNat)).1) (((z.getD ((node).toNat) dN).ch).length) ((Hz ((node).toNat)).2)]) 0 rfl Try.sizeOf88 trv rfl rfl rfl rfl rfl (by simp [Value.oneCell']) rfl ?_
 refine rNil ?_
 refine qSeq rfl ?_
 refine hSeq ?_
 refine hReg (sq 0 (sl 1 (sq 2 (sq 3 (sl 4 (sq 5 (sq 6 (sl 7 (sq 8 sz))))))))) (by kernel_rfl) ?_
 refine fld fl43_2 rfl rfl rfl ?_
 refine ldl Try.isAgg41 (cB 1 rfl rfl) trv rfl rfl rfl ?_
 refine mvI rfl rfl rfl ?_
 refine ixRl (zn := (a).toNat) (vs.getD ((a).toNat) []) el41 (Kn.drop (k := 2) kvs) rfl rfl rfl rfl (by omega) (by omega) rfl (nth [] (by omega)) ?_
 intro be2 oe2 e2
 refine ldl Try.isAgg28 (Kn.fld e2 0 rfl) trv rfl rfl rfl ?_
 refine mvI rfl rfl rfl ?_
 refine ixIl (zn := (b).toNat) el28 (Kn.drop (k := 2) ((Kn.imp kvs fun _ h => h.kidM (nth [] (by omega))))) rfl rfl rfl rfl (by omega) (by omega) rfl ?_
 intro ae3 e3
 refine ldl Try.isAgg2 (e3) trv rfl rfl rfl ?_
 refine asI rfl rfl rfl ?_
 refine rNil ?_
 refine qSeq rfl ?_
 refine hSeq ?_
 refine hSeq ?_
 refine hReg (sq 0 (sl 1 sz)) (by kernel_rfl) ?_
 refine fld fl88_3 rfl rfl rfl ?_
 refine ldl Try.isAgg2 (cB 0 rfl rfl) trv rfl rfl rfl ?_
 refine rNil ?_
 refine qSeq rfl ?_
 refine hBlk ?_
 refine hSeq ?_
 refine hReg (sq 0 (sq 1 sz)) (by kernel_rfl) ?_
 refine eql rfl rfl rfl rfl ?_
 refine asB rfl rfl rfl ?_
 refine rNil ?_
 refine qSeq rfl ?_
 refine hIfD rfl (fun c1 => ?_) (fun c1 => ?_)
 ·
  replace c1 : (z.getD ((node).toNat) dN).fo = 0 := c1
  refine hReg (sq 0 sz) (by kernel_rfl) ?_
  refine asI rfl rfl rfl ?_
  refine rNil ?_
  refine qSeq rfl ?_
  refine hSeq ?_
  refine hSeq ?_
  refine hReg (sq 0 sz) (by kernel_rfl) ?_
  refine mvI rfl rfl rfl ?_
  refine rNil ?_
  refine qSeq rfl ?_
  refine hBlk ?_
  refine hSeq ?_
  refine hReg (sq 0 (sq 1 sz)) (by kernel_rfl) ?_
  refine eql rfl rfl rfl rfl ?_
  refine asB rfl rfl rfl ?_
  refine rNil ?_
  refine qSeq rfl ?_
  refine hIfF rfl ?_
  refine hSeq ?_
  refine hReg (sq 0 (sq 1 sz)) (by kernel_rfl) ?_
  refine eql rfl rfl rfl rfl ?_
  refine asB rfl rfl rfl ?_
  refine rNil ?_
  refine qSeq rfl ?_
  refine hIfT rfl ?_
  refine hSeq ?_
  refine hReg (sq 0 (sl 1 (sq 2 (sq 3 sz)))) (by kernel_rfl) ?_
  refine fld fl88_1 rfl rfl rfl ?_
  refine ldl Try.isAgg2 (cB 0 rfl rfl) trv rfl rfl rfl ?_
  refine neg rfl rfl rfl (by omega) ?_
  refine asI rfl rfl rfl ?_
  refine rNil ?_
  refine qSeq rfl ?_
  refine hRet ?_
  exact fun w hs => ⟨[.int .i64 ((-(z.getD ((node).toNat) dN).p0))], ⟨rfl, trivial⟩, ⟨vI (by unfold Math.payoffX; (repeat' split) <;> omega), hs.upd⟩⟩
 ·
  replace c1 : ¬ ((z.getD ((node).toNat) dN).fo = 0) := c1
  refine hSeq ?_
  refine hReg (sq 0 (sq 1 sz)) (by kernel_rfl) ?_
  refine eql rfl rfl rfl rfl ?_
  refine asB rfl rfl rfl ?_
  refine rNil ?_
  refine qSeq rfl ?_
  refine hIfD rfl (fun c2 => ?_) (fun c2 => ?_)
  ·
   replace c2 : (z.getD ((node).toNat) dN).fo = 1 := c2
   refine hReg (sq 0 sz) (by kernel_rfl) ?_
   refine asI rfl rfl rfl ?_
   refine rNil ?_
   refine qSeq rfl ?_
   refine hSeq ?_
   refine hSeq ?_
   refine hReg (sq 0 sz) (by kernel_rfl) ?_
   refine mvI rfl rfl rfl ?_
   refine rNil ?_
   refine qSeq rfl ?_
   refine hBlk ?_
   refine hSeq ?_
   refine hReg (sq 0 (sq 1 sz)) (by kernel_rfl) ?_
   refine eql rfl rfl rfl rfl ?_
   refine asB rfl rfl rfl ?_
   refine rNil ?_
   refine qSeq rfl ?_
   refine hIfT rfl ?_
   refine hSeq ?_
   refine hReg (sq 0 (sl 1 (sq 2 sz))) (by kernel_rfl) ?_
   refine fld fl88_2 rfl rfl rfl ?_
   refine ldl Try.isAgg2 (cB 0 rfl rfl) trv rfl rfl rfl ?_
   refine asI rfl rfl rfl ?_
   refine rNil ?_
   refine qSeq rfl ?_
   refine hRet ?_
   exact fun w hs => ⟨[.int .i64 ((z.getD ((node).toNat) dN).p1)], ⟨rfl, trivial⟩, ⟨vI (by unfold Math.payoffX; (repeat' split) <;> omega), hs.upd⟩⟩
  ·
   replace c2 : ¬ ((z.getD ((node).toNat) dN).fo = 1) := c2
   refine hSkip ?_
   refine qSeq rfl ?_
   refine hSeq ?_
   refine hSeq ?_
   refine hReg (sq 0 sz) (by kernel_rfl) ?_
   refine mvI rfl rfl rfl ?_
   refine rNil ?_
   refine qSeq rfl ?_
   refine hBlk ?_
   refine hSeq ?_
   refine hReg (sq 0 (sq 1 sz)) (by kernel_rfl) ?_
   refine eql rfl rfl rfl rfl ?_
   refine asB rfl rfl rfl ?_
   refine rNil ?_
   refine qSeq rfl ?_
   refine hIfD rfl (fun c3 => ?_) (fun c3 => ?_)
   ·
    replace c3 : (((vs.getD ((a).toNat) [])).getD ((b).toNat) 0) = 1 := c3
    refine hSeq ?_
    refine hReg (sq 0 (sl 1 (sq 2 sz))) (by kernel_rfl) ?_
    refine fld fl88_2 rfl rfl rfl ?_
    refine ldl Try.isAgg2 (cB 0 rfl rfl) trv rfl rfl rfl ?_
    refine asI rfl rfl rfl ?_
    refine rNil ?_
    refine qSeq rfl ?_
    refine hRet ?_
    exact fun w hs => ⟨[.int .i64 ((z.getD ((node).toNat) dN).p1)], ⟨rfl, trivial⟩, ⟨vI (by unfold Math.payoffX; (repeat' split) <;> omega), hs.upd⟩⟩
   ·
    replace c3 : ¬ ((((vs.getD ((a).toNat) [])).getD ((b).toNat) 0) = 1) := c3
    refine hSeq ?_
    refine hReg (sq 0 (sq 1 sz)) (by kernel_rfl) ?_
    refine eql rfl rfl rfl rfl ?_
    refine asB rfl rfl rfl ?_
    refine rNil ?_
    refine qSeq rfl ?_
    refine hIfD rfl (fun c4 => ?_) (fun c4 => ?_)
    ·
     replace c4 : (((vs.getD ((a).toNat) [])).getD ((b).toNat) 0) = (-1) := c4
     refine hSeq ?_
     refine hReg (sq 0 (sl 1 (sq 2 (sq 3 sz)))) (by kernel_rfl) ?_
     refine fld fl88_1 rfl rfl rfl ?_
     refine ldl Try.isAgg2 (cB 0 rfl rfl) trv rfl rfl rfl ?_
     refine neg rfl rfl rfl (by omega) ?_
     refine asI rfl rfl rfl ?_
     refine rNil ?_
     refine qSeq rfl ?_
     refine hRet ?_
     exact fun w hs => ⟨[.int .i64 ((-(z.getD ((node).toNat) dN).p0))], ⟨rfl, trivial⟩, ⟨vI (by unfold Math.payoffX; (repeat' split) <;> omega), hs.upd⟩⟩
    ·
     replace c4 : ¬ ((((vs.getD ((a).toNat) [])).getD ((b).toNat) 0) = (-1)) := c4
     refine hSkip ?_
     refine qSeq rfl ?_
     refine hSeq ?_
     refine hReg (sq 0 sz) (by kernel_rfl) ?_
     refine asI rfl rfl rfl ?_
     refine rNil ?_
     refine qSeq rfl ?_
     refine hRet ?_
     exact fun w hs => ⟨[.int .i64 0], ⟨rfl, trivial⟩, ⟨vI (by unfold Math.payoffX; (repeat' split) <;> omega), hs.upd⟩⟩
theorem spec_l21Payoff_c (az : Option Addr) (nz : Nat) (cz : Nat) (Hz : Nat → Hd) (z : List Nd) (aws : Option Addr) (nws : Nat) (cws : Nat) (Hws : Nat → Hd) (ws : List (List Int)) (avs : Option Addr) (nvs : Nat) (cvs : Nat) (Hvs : Nat → Hd) (vs : List (List Int)) (node : Int) (a : Int) (b : Int) (w : World) (rz : RdR ndK az nz Hz z w) (rws : RdR maK aws nws Hws ws w) (rvs : RdR maK avs nvs Hvs vs w) (hg : Math.isGame z ws vs = true) (hn : 0 ≤ node ∧ node < (nz : Int)) (ha : 0 ≤ a ∧ a < (nws : Int)) (hb : 0 ≤ b ∧ b < (nws : Int)) :
  Calls Try.prog 113 #[.agg #[.slice az nz cz, .slice aws nws cws, .slice avs nvs cvs], .int .i64 node, .int .i64 a, .int .i64 b] w (Ret fun v w' => v = .int .i64 ((Math.payoffX (z.getD node.toNat dN) ((vs.getD a.toNat []).getD b.toNat 0))) ∧ Ext w w') := by
 have kz : Kn w none_ [] (RdR ndK az nz Hz z) := fun w' hs => rz.ext hs.upd
 have lz : z.length = nz := rz.1
 have mz : nz ≤ 9223372036854775807 := rz.2.1
 have kws : Kn w none_ [] (RdR maK aws nws Hws ws) := fun w' hs => rws.ext hs.upd
 have lws : ws.length = nws := rws.1
 have mws : nws ≤ 9223372036854775807 := rws.2.1
 have kvs : Kn w none_ [] (RdR maK avs nvs Hvs vs) := fun w' hs => rvs.ext hs.upd
 have lvs : vs.length = nvs := rvs.1
 have mvs : nvs ≤ 9223372036854775807 := rvs.2.1
 have hG := Math.isGame_ok hg
 rw [lws] at hG
 have hT := Math.isTree_ok hG.1
 have hvl := Math.mat_len hG.2.2.2.1
 have hrl := Math.row_len (Math.mat_row hG.2.2.2.1 (show a.toNat < nws by omega))
 have hpl := Math.ok_pl ((Math.allOk_iff' lz).1 hT.2.1 node.toNat (by omega))
 refine fn (M := none_) (rs := [.tmp 8]) Try.func113 rfl Try.ntmps113 rfl rfl (Sep.start _ _) ?_
 refine hSeq ?_
 refine hReg (sl 0 (sq 1 sz)) (by kernel_rfl) ?_
 refine box trv1 rfl rfl rfl rfl (fun bkb1 hbkb1 => ?_)
 refine asI rfl rfl rfl ?_
 refine rNil ?_
 refine qSeq rfl ?_
 refine hSeq ?_
 refine hReg (sq 0 (sq 1 (sl 2 (sq 3 (sq 4 (sl 5 (sl 6 (sl 7 sz)))))))) (by kernel_rfl) ?_
 refine fld fl43_0 rfl rfl rfl ?_
 refine fld fl26_0 rfl rfl rfl ?_
 refine ldl Try.isAgg24 (cB 0 rfl rfl) trv rfl rfl rfl ?_
 refine mvI rfl rfl rfl ?_
 refine ixRl (zn := (node).toNat) (z.getD ((node).toNat) dN) el24 (Kn.drop (k := 1) kz) rfl rfl rfl rfl (by omega) (by omega) rfl (nth dN (by omega)) ?_
 intro be1 oe1 e1
 refine ldAl Try.isAgg88 Try.sizeOf88 (e1) trv rfl rfl rfl rfl ?_
 refine alc Try.zeroValue88 rfl trv1 rfl rfl (fun bka2 hbka2 => ?_)
 refine stAl (vs := [.int .i64 ((z.getD ((node).toNat) dN).pl), .int .i64 ((z.getD ((node).toNat) dN).p0), .int .i64 ((z.getD ((node).toNat) dN).p1), .int .i64 ((z.getD ((node).toNat) dN).fo), .slice ((Hz ((node).toNat)).1) (((z.getD ((node).toNat) dN).ch).length) ((Hz ((node).toNat)).2)]) 0 rfl Try.sizeOf88 trv rfl rfl rfl rfl rfl (by simp [Value.oneCell']) rfl ?_
 refine rNil ?_
 refine qSeq rfl ?_
 refine hSeq ?_
 refine hReg (sq 0 (sl 1 (sq 2 (sq 3 (sl 4 (sq 5 (sq 6 (sl 7 (sq 8 sz))))))))) (by kernel_rfl) ?_
 refine fld fl43_2 rfl rfl rfl ?_
 refine ldl Try.isAgg41 (cB 1 rfl rfl) trv rfl rfl rfl ?_
 refine mvI rfl rfl rfl ?_
 refine ixRl (zn := (a).toNat) (vs.getD ((a).toNat) []) el41 (Kn.drop (k := 2) kvs) rfl rfl rfl rfl (by omega) (by omega) rfl (nth [] (by omega)) ?_
 intro be2 oe2 e2
 refine ldl Try.isAgg28 (Kn.fld e2 0 rfl) trv rfl rfl rfl ?_
 refine mvI rfl rfl rfl ?_
 refine ixIl (zn := (b).toNat) el28 (Kn.drop (k := 2) ((Kn.imp kvs fun _ h => h.kidM (nth [] (by omega))))) rfl rfl rfl rfl (by omega) (by omega) rfl ?_
 intro ae3 e3
 refine ldl Try.isAgg2 (e3) trv rfl rfl rfl ?_
 refine asI rfl rfl rfl ?_
 refine rNil ?_
 refine qSeq rfl ?_
 refine hSeq ?_
 refine hSeq ?_
 refine hReg (sq 0 (sl 1 sz)) (by kernel_rfl) ?_
 refine fld fl88_3 rfl rfl rfl ?_
 refine ldl Try.isAgg2 (cB 0 rfl rfl) trv rfl rfl rfl ?_
 refine rNil ?_
 refine qSeq rfl ?_
 refine hBlk ?_
 refine hSeq ?_
 refine hReg (sq 0 (sq 1 sz)) (by kernel_rfl) ?_
 refine eql rfl rfl rfl rfl ?_
 refine asB rfl rfl rfl ?_
 refine rNil ?_
 refine qSeq rfl ?_
 refine hIfD rfl (fun c1 => ?_) (fun c1 => ?_)
 ·
  replace c1 : (z.getD ((node).toNat) dN).fo = 0 := c1
  refine hReg (sq 0 sz) (by kernel_rfl) ?_
  refine asI rfl rfl rfl ?_
  refine rNil ?_
  refine qSeq rfl ?_
  refine hSeq ?_
  refine hSeq ?_
  refine hReg (sq 0 sz) (by kernel_rfl) ?_
  refine mvI rfl rfl rfl ?_
  refine rNil ?_
  refine qSeq rfl ?_
  refine hBlk ?_
  refine hSeq ?_
  refine hReg (sq 0 (sq 1 sz)) (by kernel_rfl) ?_
  refine eql rfl rfl rfl rfl ?_
  refine asB rfl rfl rfl ?_
  refine rNil ?_
  refine qSeq rfl ?_
  refine hIfT rfl ?_
  refine hSeq ?_
  refine hReg (sq 0 (sl 1 (sq 2 (sq 3 sz)))) (by kernel_rfl) ?_
  refine fld fl88_1 rfl rfl rfl ?_
  refine ldl Try.isAgg2 (cB 0 rfl rfl) trv rfl rfl rfl ?_
  refine neg rfl rfl rfl (by omega) ?_
  refine asI rfl rfl rfl ?_
  refine rNil ?_
  refine qSeq rfl ?_
  refine hRet ?_
  exact fun w hs => ⟨[.int .i64 ((-(z.getD ((node).toNat) dN).p0))], ⟨rfl, trivial⟩, ⟨vI (by unfold Math.payoffX; (repeat' split) <;> omega), hs.upd⟩⟩
 ·
  replace c1 : ¬ ((z.getD ((node).toNat) dN).fo = 0) := c1
  refine hSeq ?_
  refine hReg (sq 0 (sq 1 sz)) (by kernel_rfl) ?_
  refine eql rfl rfl rfl rfl ?_
  refine asB rfl rfl rfl ?_
  refine rNil ?_
  refine qSeq rfl ?_
  refine hIfD rfl (fun c2 => ?_) (fun c2 => ?_)
  ·
   replace c2 : (z.getD ((node).toNat) dN).fo = 1 := c2
   refine hReg (sq 0 sz) (by kernel_rfl) ?_
   refine asI rfl rfl rfl ?_
   refine rNil ?_
   refine qSeq rfl ?_
   refine hSeq ?_
   refine hSeq ?_
   refine hReg (sq 0 sz) (by kernel_rfl) ?_
   refine mvI rfl rfl rfl ?_
   refine rNil ?_
   refine qSeq rfl ?_
   refine hBlk ?_
   refine hSeq ?_
   refine hReg (sq 0 (sq 1 sz)) (by kernel_rfl) ?_
   refine eql rfl rfl rfl rfl ?_
   refine asB rfl rfl rfl ?_
   refine rNil ?_
   refine qSeq rfl ?_
   refine hIfF rfl ?_
   refine hSeq ?_
   refine hReg (sq 0 (sq 1 sz)) (by kernel_rfl) ?_
   refine eql rfl rfl rfl rfl ?_
   refine asB rfl rfl rfl ?_
   refine rNil ?_
   refine qSeq rfl ?_
   refine hIfT rfl ?_
   refine hSeq ?_
   refine hReg (sq 0 (sl 1 (sq 2 sz))) (by kernel_rfl) ?_
   refine fld fl88_2 rfl rfl rfl ?_
   refine ldl Try.isAgg2 (cB 0 rfl rfl) trv rfl rfl rfl ?_
   refine asI rfl rfl rfl ?_
   refine rNil ?_
   refine qSeq rfl ?_
   refine hRet ?_
   exact fun w hs => ⟨[.int .i64 ((z.getD ((node).toNat) dN).p1)], ⟨rfl, trivial⟩, ⟨vI (by unfold Math.payoffX; (repeat' split) <;> omega), hs.upd⟩⟩
  ·
   replace c2 : ¬ ((z.getD ((node).toNat) dN).fo = 1) := c2
   refine hSkip ?_
   refine qSeq rfl ?_
   refine hSeq ?_
   refine hSeq ?_
   refine hReg (sq 0 sz) (by kernel_rfl) ?_
   refine mvI rfl rfl rfl ?_
   refine rNil ?_
   refine qSeq rfl ?_
   refine hBlk ?_
   refine hSeq ?_
   refine hReg (sq 0 (sq 1 sz)) (by kernel_rfl) ?_
   refine eql rfl rfl rfl rfl ?_
   refine asB rfl rfl rfl ?_
   refine rNil ?_
   refine qSeq rfl ?_
   refine hIfD rfl (fun c3 => ?_) (fun c3 => ?_)
   ·
    replace c3 : (((vs.getD ((a).toNat) [])).getD ((b).toNat) 0) = (-1) := c3
    refine hSeq ?_
    refine hReg (sq 0 (sl 1 (sq 2 (sq 3 sz)))) (by kernel_rfl) ?_
    refine fld fl88_1 rfl rfl rfl ?_
    refine ldl Try.isAgg2 (cB 0 rfl rfl) trv rfl rfl rfl ?_
    refine neg rfl rfl rfl (by omega) ?_
    refine asI rfl rfl rfl ?_
    refine rNil ?_
    refine qSeq rfl ?_
    refine hRet ?_
    exact fun w hs => ⟨[.int .i64 ((-(z.getD ((node).toNat) dN).p0))], ⟨rfl, trivial⟩, ⟨vI (by unfold Math.payoffX; (repeat' split) <;> omega), hs.upd⟩⟩
   ·
    replace c3 : ¬ ((((vs.getD ((a).toNat) [])).getD ((b).toNat) 0) = (-1)) := c3
    refine hSeq ?_
    refine hReg (sq 0 (sq 1 sz)) (by kernel_rfl) ?_
    refine eql rfl rfl rfl rfl ?_
    refine asB rfl rfl rfl ?_
    refine rNil ?_
    refine qSeq rfl ?_
    refine hIfD rfl (fun c4 => ?_) (fun c4 => ?_)
    ·
     replace c4 : (((vs.getD ((a).toNat) [])).getD ((b).toNat) 0) = 1 := c4
     refine hSeq ?_
     refine hReg (sq 0 (sl 1 (sq 2 sz))) (by kernel_rfl) ?_
     refine fld fl88_2 rfl rfl rfl ?_
     refine ldl Try.isAgg2 (cB 0 rfl rfl) trv rfl rfl rfl ?_
     refine asI rfl rfl rfl ?_
     refine rNil ?_
     refine qSeq rfl ?_
     refine hRet ?_
     exact fun w hs => ⟨[.int .i64 ((z.getD ((node).toNat) dN).p1)], ⟨rfl, trivial⟩, ⟨vI (by unfold Math.payoffX; (repeat' split) <;> omega), hs.upd⟩⟩
    ·
     replace c4 : ¬ ((((vs.getD ((a).toNat) [])).getD ((b).toNat) 0) = 1) := c4
     refine hSkip ?_
     refine qSeq rfl ?_
     refine hSeq ?_
     refine hReg (sq 0 sz) (by kernel_rfl) ?_
     refine asI rfl rfl rfl ?_
     refine rNil ?_
     refine qSeq rfl ?_
     refine hRet ?_
     exact fun w hs => ⟨[.int .i64 0], ⟨rfl, trivial⟩, ⟨vI (by unfold Math.payoffX; (repeat' split) <;> omega), hs.upd⟩⟩
set_option maxHeartbeats 1000000 in
theorem impl_infoSets_c (az : Option Addr) (nz : Nat) (cz : Nat) (Hz : Nat → Hd) (z : List Nd) (aws : Option Addr) (nws : Nat) (cws : Nat) (Hws : Nat → Hd) (ws : List (List Int)) (avs : Option Addr) (nvs : Nat) (cvs : Nat) (Hvs : Nat → Hd) (vs : List (List Int)) (p : Int) (w : World) (rz : RdR ndK az nz Hz z w) (rws : RdR maK aws nws Hws ws w) (rvs : RdR maK avs nvs Hvs vs w) (hk : nws ≤ 6) (hn : nz ≤ 60) :
  Calls Try.prog 116 #[.agg #[.slice az nz cz, .slice aws nws cws, .slice avs nvs cvs], .int .i64 p] w (Ret fun v w' => ∃ x : Option Addr × Nat × Nat × (Nat → Hd) × List (List Int), v = .slice x.1 x.2.1 x.2.2.1 ∧ (x.2.2.2.2 = Math.sets z nws p) ∧ Sep w none_ [OwnR maK 28 2 x.1 x.2.1 x.2.2.1 x.2.2.2.1 x.2.2.2.2] w') := by
 have kz : Kn w none_ [] (RdR ndK az nz Hz z) := fun w' hs => rz.ext hs.upd
 have lz : z.length = nz := rz.1
 have mz : nz ≤ 9223372036854775807 := rz.2.1
 have kws : Kn w none_ [] (RdR maK aws nws Hws ws) := fun w' hs => rws.ext hs.upd
 have lws : ws.length = nws := rws.1
 have mws : nws ≤ 9223372036854775807 := rws.2.1
 have kvs : Kn w none_ [] (RdR maK avs nvs Hvs vs) := fun w' hs => rvs.ext hs.upd
 have lvs : vs.length = nvs := rvs.1
 have mvs : nvs ≤ 9223372036854775807 := rvs.2.1
 have hnl := Math.nodesOf_len z p
 refine fn (M := none_) (rs := [.tmp 4]) Try.func116 rfl Try.ntmps116 rfl rfl (Sep.start _ _) ?_
 refine hSeq ?_
 refine hReg (sl 0 (sq 1 sz)) (by kernel_rfl) ?_
 refine box trv1 rfl rfl rfl rfl (fun bkb1 hbkb1 => ?_)
 refine asS rfl rfl rfl ?_
 refine rNil ?_
 refine qSeq rfl ?_
 refine hSeq ?_
 refine hReg (sq 0 sz) (by kernel_rfl) ?_
 refine asS rfl rfl rfl ?_
 refine rNil ?_
 refine qSeq rfl ?_
 refine hSeq ?_
 refine hSeq ?_
 refine hReg (sq 0 (sl 1 (sq 2 (sl 3 (sq 4 (sq 5 sz)))))) (by kernel_rfl) ?_
 refine fld fl43_0 rfl rfl rfl ?_
 refine ldAl Try.isAgg26 Try.sizeOf26 (cBp (m := 1) 0 rfl rfl) trv rfl rfl rfl rfl ?_
 refine mvI rfl rfl rfl ?_
 refine callS Try.call93 trv1 rfl rfl (fun w hs => impl_nodesOf_c _ nz cz _ _ _ w (Kn.drop (k := 1) kz w hs) (by omega)) ?_
 rintro ⟨ay1, ny1, cy1, y1⟩ hr1
 dsimp only at hr1
 subst y1
 refine rKnow (fun w hs => (show OwnI 2 ay1 ny1 cy1 (Math.nodesOf z p) w from hs.at_ 0 rfl).lenz) (fun lenn2 => ?_)
 refine lenS Try.runUnderlying28 rfl rfl rfl ?_
 refine mvI rfl rfl rfl ?_
 refine rNil ?_
 refine qSeq rfl ?_
 refine hBlk ?_
 refine hPieces (fun _ h => Sep.nilR maK 28 2 (fun _ => (none, 0)) h) ?_
 refine hLoop (α := Nat × Nat × Hd × (Nat → Hd)) (fun x => x.1 ≤ ny1 ∧ x.2.1 ≤ 6 * x.1) (fun x => ny1 - x.1) (fun x => [OwnR maK 28 2 x.2.2.1.1 x.2.1 x.2.2.1.2 x.2.2.2 ((Math.setsTo (Math.nodesOf z p) nws x.1 0)), OwnI 2 ay1 ny1 cy1 (Math.nodesOf z p), blk bkb1 43 [.slice az nz cz, .slice aws nws cws, .slice avs nvs cvs]]) (fun x => [(2, .pointer (some ⟨bkb1, 0, none⟩)), (5, .slice x.2.2.1.1 x.2.1 x.2.2.1.2), (12, .slice ay1 ny1 cy1), (13, .int .i64 (ny1 : Int)), (14, .int .i64 (x.1 : Int))]) ((0, 0, ((none, 0), (fun _ => (none, 0))))) ⟨Nat.zero_le _, Nat.zero_le _⟩ (fun _ h => h.pick [0, 0, 0]) ⟨rfl, rfl, rfl, rfl, rfl, trivial⟩ ?_
 rintro ⟨i, q, hd⟩ τ1 ⟨hi, hq⟩
 dsimp only at hi hq
 refine hRe [(2, .pointer (some ⟨bkb1, 0, none⟩)), (5, .slice hd.1.1 q hd.1.2), (12, .slice ay1 ny1 cy1), (13, .int .i64 (ny1 : Int)), (14, .int .i64 (i : Int))] [OwnR maK 28 2 hd.1.1 q hd.1.2 hd.2 ((Math.setsTo (Math.nodesOf z p) nws i 0)), OwnI 2 ay1 ny1 cy1 (Math.nodesOf z p), blk bkb1 43 [.slice az nz cz, .slice aws nws cws, .slice avs nvs cvs]] rfl rfl ?_
 refine hSeq ?_
 refine hReg (sq 0 sz) (by kernel_rfl) ?_
 refine lss rfl rfl rfl rfl ?_
 refine rNil ?_
 refine qSeq rfl ?_
 refine hSeq ?_
 refine hIfD rfl (fun c1 => ?_) (fun c1 => ?_)
 ·
  replace c1 : (i : Int) < (ny1 : Int) := c1
  refine hSkip ?_
  refine qSeq rfl ?_
  refine hSeq ?_
  refine hBlk ?_
  refine hSeq ?_
  refine hReg (sq 0 (sl 1 (sq 2 sz))) (by kernel_rfl) ?_
  refine ixIl (zn := i) el28 ((Kn.at_ 1 rfl).imp fun _ h => OwnI.rd h) rfl rfl rfl rfl (by omega) (by omega) rfl ?_
  intro ae2 e2
  refine ldl Try.isAgg2 (e2) trv rfl rfl rfl ?_
  refine asI rfl rfl rfl ?_
  refine rNil ?_
  refine qSeq rfl ?_
  refine hSeq ?_
  refine hReg (sq 0 (sl 1 (sq 2 (sq 3 sz)))) (by kernel_rfl) ?_
  refine fld fl43_1 rfl rfl rfl ?_
  refine ldl Try.isAgg41 (cB 2 rfl rfl) trv rfl rfl rfl ?_
  refine lenS Try.runUnderlying41 rfl rfl rfl ?_
  refine mvI rfl rfl rfl ?_
  refine rNil ?_
  refine qSeq rfl ?_
  refine hBlk ?_
  refine hLoop (α := Nat × Nat × Hd × (Nat → Hd)) (fun x => x.1 ≤ nws ∧ x.2.1 ≤ 6 * i + x.1) (fun x => nws - x.1) (fun x => [OwnR maK 28 2 x.2.2.1.1 x.2.1 x.2.2.1.2 x.2.2.2 ((Math.setsTo (Math.nodesOf z p) nws i x.1)), OwnI 2 ay1 ny1 cy1 (Math.nodesOf z p), blk bkb1 43 [.slice az nz cz, .slice aws nws cws, .slice avs nvs cvs]]) (fun x => [(2, .pointer (some ⟨bkb1, 0, none⟩)), (5, .slice x.2.2.1.1 x.2.1 x.2.2.1.2), (7, .int .i64 (((Math.nodesOf z p).getD i 0))), (12, .slice ay1 ny1 cy1), (13, .int .i64 (ny1 : Int)), (14, .int .i64 (i : Int)), (20, .int .i64 (nws : Int)), (21, .int .i64 (x.1 : Int))]) (0, q, hd) ⟨Nat.zero_le _, hq⟩ (fun _ h => h.pick [0, 0, 0]) ⟨rfl, rfl, rfl, rfl, rfl, rfl, rfl, rfl, trivial⟩ ?_
  rintro ⟨j, q2, hd2⟩ τ2 ⟨hj, hq2⟩
  dsimp only at hj hq2
  refine hRe [(2, .pointer (some ⟨bkb1, 0, none⟩)), (5, .slice hd2.1.1 q2 hd2.1.2), (7, .int .i64 (((Math.nodesOf z p).getD i 0))), (12, .slice ay1 ny1 cy1), (13, .int .i64 (ny1 : Int)), (14, .int .i64 (i : Int)), (20, .int .i64 (nws : Int)), (21, .int .i64 (j : Int))] [OwnR maK 28 2 hd2.1.1 q2 hd2.1.2 hd2.2 ((Math.setsTo (Math.nodesOf z p) nws i j)), OwnI 2 ay1 ny1 cy1 (Math.nodesOf z p), blk bkb1 43 [.slice az nz cz, .slice aws nws cws, .slice avs nvs cvs]] rfl rfl ?_
  refine hSeq ?_
  refine hReg (sq 0 sz) (by kernel_rfl) ?_
  refine lss rfl rfl rfl rfl ?_
  refine rNil ?_
  refine qSeq rfl ?_
  refine hSeq ?_
  refine hIfD rfl (fun c2 => ?_) (fun c2 => ?_)
  ·
   replace c2 : (j : Int) < (nws : Int) := c2
   refine hSkip ?_
   refine qSeq rfl ?_
   refine hSeq ?_
   refine hBlk ?_
   refine hSeq ?_
   refine hReg (sq 0 (sq 1 sz)) (by kernel_rfl) ?_
   refine mvI rfl rfl rfl ?_
   refine asI rfl rfl rfl ?_
   refine rNil ?_
   refine qSeq rfl ?_
   refine hReg (sq 0 (sq 1 (sq 2 (sl 3 (sl 4 (sl 5 (sq 6 sz))))))) (by kernel_rfl) ?_
   refine mvS rfl rfl rfl ?_
   refine mvI rfl rfl rfl ?_
   refine mvI rfl rfl rfl ?_
   refine bsl trv1 rfl rfl rfl (bsl28_2 (.int .i64 _) (.int .i64 _) rfl rfl) (fun bkl4 hbkl4 => ?_)
   refine bsl trv1 rfl rfl rfl (bsl41_1 (.slice _ _ _) rfl) (fun bkl5 hbkl5 => ?_)
   refine rPieces (fun _ h => Sep.litI h 1 [((Math.nodesOf z p).getD i 0), (j : Int)] rfl rfl rfl) ?_
   refine apR (hd := ((some ⟨bkl4, 0, none⟩), 2)) (x := [((Math.nodesOf z p).getD i 0), (j : Int)]) 2 1 0 maK.ok rfl rfl rfl (fun h => by first | rfl | (dsimp only at h; rw [h]; rfl) | (rw [h]; rfl) | exact congrArg (fun m => [Value.slice _ m _]) h) mk41 trv1 rfl rfl rfl rfl (by omega) ?_
   intro aq3 cq3
   refine asS rfl rfl rfl ?_
   refine rNil ?_
   refine qSeq rfl ?_
   refine hReg (sq 0 (sq 1 sz)) (by kernel_rfl) ?_
   refine add rfl rfl rfl rfl (by omega) ?_
   refine mvI rfl rfl rfl ?_
   refine rNil ?_
   rw [← Math.setsTo_cell]
   exact qNext rfl ((j + 1, q2 + 1, ((aq3, cq3), (hset hd2.2 ((Math.setsTo (Math.nodesOf z p) nws i j)).length ((some ⟨bkl4, 0, none⟩), 2))))) (by dsimp only; omega) ⟨by dsimp only; omega, by dsimp only; omega⟩ ⟨rfl, rfl, rfl, rfl, rfl, rfl, rfl, rfl, trivial⟩ (fun _ h => h.pick [0, 1, 1])
  ·
   replace c2 : ¬ ((j : Int) < (nws : Int)) := c2
   refine hExit rfl ?_
   refine qSeq rfl ?_
   refine hReg (sq 0 (sq 1 sz)) (by kernel_rfl) ?_
   refine add rfl rfl rfl rfl (by omega) ?_
   refine mvI rfl rfl rfl ?_
   refine rNil ?_
   rw [Math.setsTo_row (by omega) (by omega)]
   exact qNext rfl (i + 1, q2, hd2) (by dsimp only; omega) ⟨by dsimp only; omega, by dsimp only; omega⟩ ⟨rfl, rfl, rfl, rfl, rfl, trivial⟩ (fun _ h => h.pick [0, 0, 0])
 ·
  replace c1 : ¬ ((i : Int) < (ny1 : Int)) := c1
  refine hExit rfl ?_
  refine qSeq rfl ?_
  refine hSeq ?_
  refine hReg (sq 0 (sq 1 sz)) (by kernel_rfl) ?_
  refine mvS rfl rfl rfl ?_
  refine asS rfl rfl rfl ?_
  refine rNil ?_
  refine qSeq rfl ?_
  refine hRet ?_
  exact fun w hs => ⟨[.slice hd.1.1 q hd.1.2], ⟨rfl, trivial⟩, ⟨(hd.1.1, q, hd.1.2, hd.2, (Math.setsTo (Math.nodesOf z p) nws i 0)), rfl, Math.setsTo_end (by omega), hs.pick [0]⟩⟩
set_option maxHeartbeats 1000000 in
theorem spec_l21Sets_c (az : Option Addr) (nz : Nat) (cz : Nat) (Hz : Nat → Hd) (z : List Nd) (aws : Option Addr) (nws : Nat) (cws : Nat) (Hws : Nat → Hd) (ws : List (List Int)) (avs : Option Addr) (nvs : Nat) (cvs : Nat) (Hvs : Nat → Hd) (vs : List (List Int)) (p : Int) (w : World) (rz : RdR ndK az nz Hz z w) (rws : RdR maK aws nws Hws ws w) (rvs : RdR maK avs nvs Hvs vs w) (hk : nws ≤ 6) (hn : nz ≤ 60) :
  Calls Try.prog 117 #[.agg #[.slice az nz cz, .slice aws nws cws, .slice avs nvs cvs], .int .i64 p] w (Ret fun v w' => ∃ x : Option Addr × Nat × Nat × (Nat → Hd) × List (List Int), v = .slice x.1 x.2.1 x.2.2.1 ∧ (x.2.2.2.2 = Math.sets z nws p) ∧ Sep w none_ [OwnR maK 28 2 x.1 x.2.1 x.2.2.1 x.2.2.2.1 x.2.2.2.2] w') := by
 have kz : Kn w none_ [] (RdR ndK az nz Hz z) := fun w' hs => rz.ext hs.upd
 have lz : z.length = nz := rz.1
 have mz : nz ≤ 9223372036854775807 := rz.2.1
 have kws : Kn w none_ [] (RdR maK aws nws Hws ws) := fun w' hs => rws.ext hs.upd
 have lws : ws.length = nws := rws.1
 have mws : nws ≤ 9223372036854775807 := rws.2.1
 have kvs : Kn w none_ [] (RdR maK avs nvs Hvs vs) := fun w' hs => rvs.ext hs.upd
 have lvs : vs.length = nvs := rvs.1
 have mvs : nvs ≤ 9223372036854775807 := rvs.2.1
 have hnl := Math.nodesOf_len z p
 refine fn (M := none_) (rs := [.tmp 4]) Try.func117 rfl Try.ntmps117 rfl rfl (Sep.start _ _) ?_
 refine hSeq ?_
 refine hReg (sl 0 (sq 1 sz)) (by kernel_rfl) ?_
 refine box trv1 rfl rfl rfl rfl (fun bkb1 hbkb1 => ?_)
 refine asS rfl rfl rfl ?_
 refine rNil ?_
 refine qSeq rfl ?_
 refine hSeq ?_
 refine hReg (sq 0 (sl 1 (sq 2 (sl 3 (sq 4 sz))))) (by kernel_rfl) ?_
 refine fld fl43_0 rfl rfl rfl ?_
 refine ldAl Try.isAgg26 Try.sizeOf26 (cBp (m := 1) 0 rfl rfl) trv rfl rfl rfl rfl ?_
 refine mvI rfl rfl rfl ?_
 refine callS Try.call94 trv1 rfl rfl (fun w hs => spec_l20Of_c _ nz cz _ _ _ w (Kn.drop (k := 1) kz w hs) (by omega)) ?_
 rintro ⟨ay1, ny1, cy1, y1⟩ hr1
 dsimp only at hr1
 subst y1
 refine rKnow (fun w hs => (show OwnI 2 ay1 ny1 cy1 (Math.nodesOf z p) w from hs.at_ 0 rfl).lenz) (fun lenn2 => ?_)
 refine asS rfl rfl rfl ?_
 refine rNil ?_
 refine qSeq rfl ?_
 refine hSeq ?_
 refine hReg (sl 0 (sq 1 sz)) (by kernel_rfl) ?_
 refine bsl trv1 rfl rfl rfl (bsl41_0) (fun bkl3 hbkl3 => ?_)
 refine asS rfl rfl rfl ?_
 refine rNil ?_
 refine qSeq rfl ?_
 refine hSeq ?_
 refine hSeq ?_
 refine hReg (sq 0 sz) (by kernel_rfl) ?_
 refine asI rfl rfl rfl ?_
 refine rNil ?_
 refine qSeq rfl ?_
 refine hBlk ?_
 refine hPieces (fun _ h => Sep.litR maK 28 2 (fun _ => (none, 0)) h 0 rfl) ?_
 refine hLoop (α := Nat × Nat × Hd × (Nat → Hd)) (fun x => x.1 ≤ ny1 ∧ x.2.1 ≤ 6 * x.1) (fun x => ny1 - x.1) (fun x => [OwnR maK 28 2 x.2.2.1.1 x.2.1 x.2.2.1.2 x.2.2.2 ((Math.setsTo (Math.nodesOf z p) nws x.1 0)), OwnI 2 ay1 ny1 cy1 (Math.nodesOf z p), blk bkb1 43 [.slice az nz cz, .slice aws nws cws, .slice avs nvs cvs]]) (fun x => [(2, .pointer (some ⟨bkb1, 0, none⟩)), (5, .slice ay1 ny1 cy1), (6, .slice x.2.2.1.1 x.2.1 x.2.2.1.2), (7, .int .i64 (x.1 : Int))]) ((0, 0, (((some ⟨bkl3, 0, none⟩), 0), (fun _ => (none, 0))))) ⟨Nat.zero_le _, Nat.zero_le _⟩ (fun _ h => h.pick [0, 0, 0]) ⟨rfl, rfl, rfl, rfl, trivial⟩ ?_
 rintro ⟨i, q, hd⟩ τ1 ⟨hi, hq⟩
 dsimp only at hi hq
 refine hRe [(2, .pointer (some ⟨bkb1, 0, none⟩)), (5, .slice ay1 ny1 cy1), (6, .slice hd.1.1 q hd.1.2), (7, .int .i64 (i : Int))] [OwnR maK 28 2 hd.1.1 q hd.1.2 hd.2 ((Math.setsTo (Math.nodesOf z p) nws i 0)), OwnI 2 ay1 ny1 cy1 (Math.nodesOf z p), blk bkb1 43 [.slice az nz cz, .slice aws nws cws, .slice avs nvs cvs]] rfl rfl ?_
 refine hSeq ?_
 refine hSeq ?_
 refine hReg (sq 0 (sq 1 (sq 2 (sq 3 sz)))) (by kernel_rfl) ?_
 refine mvI rfl rfl rfl ?_
 refine mvS rfl rfl rfl ?_
 refine lenS Try.runUnderlying28 rfl rfl rfl ?_
 refine lss rfl rfl rfl rfl ?_
 refine rNil ?_
 refine qSeq rfl ?_
 refine hIfD rfl (fun c1 => ?_) (fun c1 => ?_)
 ·
  replace c1 : (i : Int) < (ny1 : Int) := c1
  refine hSkip ?_
  refine qSeq rfl ?_
  refine hSeq ?_
  refine hBlk ?_
  refine hSeq ?_
  refine hReg (sq 0 sz) (by kernel_rfl) ?_
  refine asI rfl rfl rfl ?_
  refine rNil ?_
  refine qSeq rfl ?_
  refine hBlk ?_
  refine hLoop (α := Nat × Nat × Hd × (Nat → Hd)) (fun x => x.1 ≤ nws ∧ x.2.1 ≤ 6 * i + x.1) (fun x => nws - x.1) (fun x => [OwnR maK 28 2 x.2.2.1.1 x.2.1 x.2.2.1.2 x.2.2.2 ((Math.setsTo (Math.nodesOf z p) nws i x.1)), OwnI 2 ay1 ny1 cy1 (Math.nodesOf z p), blk bkb1 43 [.slice az nz cz, .slice aws nws cws, .slice avs nvs cvs]]) (fun x => [(2, .pointer (some ⟨bkb1, 0, none⟩)), (5, .slice ay1 ny1 cy1), (6, .slice x.2.2.1.1 x.2.1 x.2.2.1.2), (7, .int .i64 (i : Int)), (8, .int .i64 (x.1 : Int))]) (0, q, hd) ⟨Nat.zero_le _, hq⟩ (fun _ h => h.pick [0, 0, 0]) ⟨rfl, rfl, rfl, rfl, rfl, trivial⟩ ?_
  rintro ⟨j, q2, hd2⟩ τ2 ⟨hj, hq2⟩
  dsimp only at hj hq2
  refine hRe [(2, .pointer (some ⟨bkb1, 0, none⟩)), (5, .slice ay1 ny1 cy1), (6, .slice hd2.1.1 q2 hd2.1.2), (7, .int .i64 (i : Int)), (8, .int .i64 (j : Int))] [OwnR maK 28 2 hd2.1.1 q2 hd2.1.2 hd2.2 ((Math.setsTo (Math.nodesOf z p) nws i j)), OwnI 2 ay1 ny1 cy1 (Math.nodesOf z p), blk bkb1 43 [.slice az nz cz, .slice aws nws cws, .slice avs nvs cvs]] rfl rfl ?_
  refine hSeq ?_
  refine hSeq ?_
  refine hReg (sq 0 (sq 1 (sl 2 (sq 3 (sq 4 sz))))) (by kernel_rfl) ?_
  refine mvI rfl rfl rfl ?_
  refine fld fl43_1 rfl rfl rfl ?_
  refine ldl Try.isAgg41 (cB 2 rfl rfl) trv rfl rfl rfl ?_
  refine lenS Try.runUnderlying41 rfl rfl rfl ?_
  refine lss rfl rfl rfl rfl ?_
  refine rNil ?_
  refine qSeq rfl ?_
  refine hIfD rfl (fun c2 => ?_) (fun c2 => ?_)
  ·
   replace c2 : (j : Int) < (nws : Int) := c2
   refine hSkip ?_
   refine qSeq rfl ?_
   refine hSeq ?_
   refine hBlk ?_
   refine hReg (sq 0 (sq 1 (sq 2 (sq 3 (sl 4 (sq 5 (sl 6 (sl 7 (sl 8 (sq 9 sz)))))))))) (by kernel_rfl) ?_
   refine mvS rfl rfl rfl ?_
   refine mvS rfl rfl rfl ?_
   refine mvI rfl rfl rfl ?_
   refine ixIl (zn := i) el28 ((Kn.at_ 1 rfl).imp fun _ h => OwnI.rd h) rfl rfl rfl rfl (by omega) (by omega) rfl ?_
   intro ae2 e2
   refine ldl Try.isAgg2 (e2) trv rfl rfl rfl ?_
   refine mvI rfl rfl rfl ?_
   refine bsl trv1 rfl rfl rfl (bsl28_2 (.int .i64 _) (.int .i64 _) rfl rfl) (fun bkl4 hbkl4 => ?_)
   refine bsl trv1 rfl rfl rfl (bsl41_1 (.slice _ _ _) rfl) (fun bkl5 hbkl5 => ?_)
   refine rPieces (fun _ h => Sep.litI h 1 [((Math.nodesOf z p).getD i 0), (j : Int)] rfl rfl rfl) ?_
   refine apR (hd := ((some ⟨bkl4, 0, none⟩), 2)) (x := [((Math.nodesOf z p).getD i 0), (j : Int)]) 2 1 0 maK.ok rfl rfl rfl (fun h => by first | rfl | (dsimp only at h; rw [h]; rfl) | (rw [h]; rfl) | exact congrArg (fun m => [Value.slice _ m _]) h) mk41 trv1 rfl rfl rfl rfl (by omega) ?_
   intro aq3 cq3
   refine asS rfl rfl rfl ?_
   refine rNil ?_
   refine qSeq rfl ?_
   refine hReg (sq 0 (sq 1 (sq 2 sz))) (by kernel_rfl) ?_
   refine mvI rfl rfl rfl ?_
   refine add rfl rfl rfl rfl (by omega) ?_
   refine asI rfl rfl rfl ?_
   refine rNil ?_
   rw [← Math.setsTo_cell]
   exact qNext rfl ((j + 1, q2 + 1, ((aq3, cq3), (hset hd2.2 ((Math.setsTo (Math.nodesOf z p) nws i j)).length ((some ⟨bkl4, 0, none⟩), 2))))) (by dsimp only; omega) ⟨by dsimp only; omega, by dsimp only; omega⟩ ⟨rfl, rfl, rfl, rfl, rfl, trivial⟩ (fun _ h => h.pick [0, 1, 1])
  ·
   replace c2 : ¬ ((j : Int) < (nws : Int)) := c2
   refine hExit rfl ?_
   refine qSeq rfl ?_
   refine hReg (sq 0 (sq 1 (sq 2 sz))) (by kernel_rfl) ?_
   refine mvI rfl rfl rfl ?_
   refine add rfl rfl rfl rfl (by omega) ?_
   refine asI rfl rfl rfl ?_
   refine rNil ?_
   rw [Math.setsTo_row (by omega) (by omega)]
   exact qNext rfl (i + 1, q2, hd2) (by dsimp only; omega) ⟨by dsimp only; omega, by dsimp only; omega⟩ ⟨rfl, rfl, rfl, rfl, trivial⟩ (fun _ h => h.pick [0, 0, 0])
 ·
  replace c1 : ¬ ((i : Int) < (ny1 : Int)) := c1
  refine hExit rfl ?_
  refine qSeq rfl ?_
  refine hSeq ?_
  refine hReg (sq 0 (sq 1 sz)) (by kernel_rfl) ?_
  refine mvS rfl rfl rfl ?_
  refine asS rfl rfl rfl ?_
  refine rNil ?_
  refine qSeq rfl ?_
  refine hRet ?_
  exact fun w hs => ⟨[.slice hd.1.1 q hd.1.2], ⟨rfl, trivial⟩, ⟨(hd.1.1, q, hd.1.2, hd.2, (Math.setsTo (Math.nodesOf z p) nws i 0)), rfl, Math.setsTo_end (by omega), hs.pick [0]⟩⟩
end Go.Proofs.Ytjengglpbdgmnaa
