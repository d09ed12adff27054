/- Contracts of payoffs and information sets. Their conditions stand in each. -/
import Derived.Test.YtjengglpbdgmnaaEngCMi
import Derived.Test.YtjengglpbdgmnaaTreeMi
import Derived.Test.YtjengglpbdgmnaaGameMi
import Derived.Test.YtjengglpbdgmnaaSetsMi
import Derived.Test.YtjengglpbdgmnaaL1Mi
import Derived.Test.YtjengglpbdgmnaaL2Mi
import Derived.Test.YtjengglpbdgmnaaL3Mi
import Derived.Test.YtjengglpbdgmnaaL4Mi
import Derived.Test.YtjengglpbdgmnaaRows
namespace Go.Proofs.Ytjengglpbdgmnaa
open Go Go.RowKit V
set_option linter.unusedVariables false
set_option linter.unusedSimpArgs false
set_option maxRecDepth 100000
theorem mk41 : Mk Try.prog 41 28 1 24 [.slice none 0 0] := ⟨Try.underlying41, Try.t28, _, by kernel_rfl, rfl, rfl, rfl, rfl, rfl, by decide, by decide⟩
theorem bsl28_2 (v0 v1 : Value) (h0 : v0.cells = #[v0]) (h1 : v1.cells = #[v1]) : ∀ w, (Instr.buildSlice 28 2 ([(0, v0), (1, v1)] : List (Nat × Value)).toArray).run Try.prog w = .ok (.slice (some ⟨w.heap.size, 0, none⟩) 2 2) (w.alloc (.cells ([v0, v1] : List Value).toArray 2)) := by
 intro w; simp [Instr.buildSlice, Instr.fill, Try.zeroValue2, Try.runUnderlying28, Try.sizeOf2, Value.cells_int, newRow, show Array.range 2 = #[0, 1] from by decide, h0, h1]
theorem bsl41_0   : ∀ w, (Instr.buildSlice 41 0 ([] : List (Nat × Value)).toArray).run Try.prog w = .ok (.slice (some ⟨w.heap.size, 0, none⟩) 0 0) (w.alloc (.cells ([] : List Value).toArray 28)) := by
 intro w; simp [Instr.buildSlice, Instr.fill, Try.zeroValue28, Try.runUnderlying41, Try.sizeOf28, Value.cells_int, newRow, show Array.range 0 = #[] from by decide]
theorem bsl41_1 (v0 : Value) (h0 : v0.cells = #[v0]) : ∀ w, (Instr.buildSlice 41 1 ([(0, v0)] : List (Nat × Value)).toArray).run Try.prog w = .ok (.slice (some ⟨w.heap.size, 0, none⟩) 1 1) (w.alloc (.cells ([v0] : List Value).toArray 28)) := by
 intro w; simp [Instr.buildSlice, Instr.fill, Try.zeroValue28, Try.runUnderlying41, Try.sizeOf28, Value.cells_int, newRow, show Array.range 1 = #[0] from by decide, h0]
theorem impl_isKind_c (az : Option Addr) (nz : Nat) (cz : Nat) (Hz : Nat → Hd) (z : List Nd) (aws : Option Addr) (nws : Nat) (cws : Nat) (Hws : Nat → Hd) (ws : List (List Int)) (avs : Option Addr) (nvs : Nat) (cvs : Nat) (Hvs : Nat → Hd) (vs : List (List Int)) (card : Int) (w : World) (rz : RdR ndK az nz Hz z w) (rws : RdR maK aws nws Hws ws w) (rvs : RdR maK avs nvs Hvs vs w) :
  Calls Try.prog 110 #[.agg #[.slice az nz cz, .slice aws nws cws, .slice avs nvs cvs], .int .i64 card] w (Ret fun v w' => v = .bool (decide (0 ≤ card ∧ card ≤ (nws : Int) - 1)) ∧ Ext w w') := by
 have kz : Kn w none_ [] (RdR ndK az nz Hz z) := fun w' hs => rz.ext hs.upd
 have lz : z.length = nz := rz.1
 have mz : nz ≤ 9223372036854775807 := rz.2.1
 have kws : Kn w none_ [] (RdR maK aws nws Hws ws) := fun w' hs => rws.ext hs.upd
 have lws : ws.length = nws := rws.1
 have mws : nws ≤ 9223372036854775807 := rws.2.1
 have kvs : Kn w none_ [] (RdR maK avs nvs Hvs vs) := fun w' hs => rvs.ext hs.upd
 have lvs : vs.length = nvs := rvs.1
 have mvs : nvs ≤ 9223372036854775807 := rvs.2.1
 refine fn (M := none_) (rs := [.tmp 4]) Try.func110 rfl Try.ntmps110 rfl rfl (Sep.start _ _) ?_
 refine hSeq ?_
 refine hReg (sl 0 (sq 1 sz)) (by kernel_rfl) ?_
 refine box trv1 rfl rfl rfl rfl (fun bkb1 hbkb1 => ?_)
 refine asB rfl rfl rfl ?_
 refine rNil ?_
 refine qSeq rfl ?_
 refine hSeq ?_
 refine hReg (sq 0 (sq 1 (sl 2 (sq 3 (sq 4 (sl 5 (sq 6 sz))))))) (by kernel_rfl) ?_
 refine mvI rfl rfl rfl ?_
 refine fld fl43_1 rfl rfl rfl ?_
 refine ldl Try.isAgg41 (cB 0 rfl rfl) trv rfl rfl rfl ?_
 refine lenS Try.runUnderlying41 rfl rfl rfl ?_
 refine sub rfl rfl rfl rfl (by omega) ?_
 refine callP (v := .bool (decide ((0 : Int) ≤ card ∧ card ≤ (((nws : Int) - 1))))) Try.call96 trv rfl rfl (fun w hs => impl_within_c _ _ _ w ) ?_
 refine asB rfl rfl rfl ?_
 refine rNil ?_
 refine qSeq rfl ?_
 refine hRet ?_
 exact fun w hs => ⟨[.bool (decide ((0 : Int) ≤ card ∧ card ≤ (((nws : Int) - 1))))], ⟨rfl, trivial⟩, ⟨by first | rfl | exact bD (by omega) | exact bT (by omega) | exact bF (by omega) | exact vI (by omega), hs.upd⟩⟩
theorem spec_l21Card_c (az : Option Addr) (nz : Nat) (cz : Nat) (Hz : Nat → Hd) (z : List Nd) (aws : Option Addr) (nws : Nat) (cws : Nat) (Hws : Nat → Hd) (ws : List (List Int)) (avs : Option Addr) (nvs : Nat) (cvs : Nat) (Hvs : Nat → Hd) (vs : List (List Int)) (card : Int) (w : World) (rz : RdR ndK az nz Hz z w) (rws : RdR maK aws nws Hws ws w) (rvs : RdR maK avs nvs Hvs vs w) :
  Calls Try.prog 112 #[.agg #[.slice az nz cz, .slice aws nws cws, .slice avs nvs cvs], .int .i64 card] w (Ret fun v w' => v = .bool (decide (0 ≤ card ∧ card ≤ (nws : Int) - 1)) ∧ Ext w w') := by
 have kz : Kn w none_ [] (RdR ndK az nz Hz z) := fun w' hs => rz.ext hs.upd
 have lz : z.length = nz := rz.1
 have mz : nz ≤ 9223372036854775807 := rz.2.1
 have kws : Kn w none_ [] (RdR maK aws nws Hws ws) := fun w' hs => rws.ext hs.upd
 have lws : ws.length = nws := rws.1
 have mws : nws ≤ 9223372036854775807 := rws.2.1
 have kvs : Kn w none_ [] (RdR maK avs nvs Hvs vs) := fun w' hs => rvs.ext hs.upd
 have lvs : vs.length = nvs := rvs.1
 have mvs : nvs ≤ 9223372036854775807 := rvs.2.1
 refine fn (M := none_) (rs := [.tmp 4]) Try.func112 rfl Try.ntmps112 rfl rfl (Sep.start _ _) ?_
 refine hSeq ?_
 refine hReg (sl 0 (sq 1 sz)) (by kernel_rfl) ?_
 refine box trv1 rfl rfl rfl rfl (fun bkb1 hbkb1 => ?_)
 refine asB rfl rfl rfl ?_
 refine rNil ?_
 refine qSeq rfl ?_
 refine hSeq ?_
 refine hReg (sq 0 (sq 1 (sl 2 (sq 3 (sq 4 (sl 5 (sq 6 sz))))))) (by kernel_rfl) ?_
 refine mvI rfl rfl rfl ?_
 refine fld fl43_1 rfl rfl rfl ?_
 refine ldl Try.isAgg41 (cB 0 rfl rfl) trv rfl rfl rfl ?_
 refine lenS Try.runUnderlying41 rfl rfl rfl ?_
 refine sub rfl rfl rfl rfl (by omega) ?_
 refine callP (v := .bool (decide ((0 : Int) ≤ card ∧ card ≤ (((nws : Int) - 1))))) Try.call97 trv rfl rfl (fun w hs => spec_l01In_c _ _ _ w ) ?_
 refine asB rfl rfl rfl ?_
 refine rNil ?_
 refine qSeq rfl ?_
 refine hRet ?_
 exact fun w hs => ⟨[.bool (decide ((0 : Int) ≤ card ∧ card ≤ (((nws : Int) - 1))))], ⟨rfl, trivial⟩, ⟨by first | rfl | exact bD (by omega) | exact bT (by omega) | exact bF (by omega) | exact vI (by omega), hs.upd⟩⟩
theorem impl_payoffAt_c (az : Option Addr) (nz : Nat) (cz : Nat) (Hz : Nat → Hd) (z : List Nd) (aws : Option Addr) (nws : Nat) (cws : Nat) (Hws : Nat → Hd) (ws : List (List Int)) (avs : Option Addr) (nvs : Nat) (cvs : Nat) (Hvs : Nat → Hd) (vs : List (List Int)) (node : Int) (a : Int) (b : Int) (w : World) (rz : RdR ndK az nz Hz z w) (rws : RdR maK aws nws Hws ws w) (rvs : RdR maK avs nvs Hvs vs w) (hg : Math.isGame z ws vs = true) (hn : 0 ≤ node ∧ node < (nz : Int)) (ha : 0 ≤ a ∧ a < (nws : Int)) (hb : 0 ≤ b ∧ b < (nws : Int)) :
  Calls Try.prog 111 #[.agg #[.slice az nz cz, .slice aws nws cws, .slice avs nvs cvs], .int .i64 node, .int .i64 a, .int .i64 b] w (Ret fun v w' => v = .int .i64 ((Math.payoffX (z.getD node.toNat dN) ((vs.getD a.toNat []).getD b.toNat 0))) ∧ Ext w w') := by
 have kz : Kn w none_ [] (RdR ndK az nz Hz z) := fun w' hs => rz.ext hs.upd
 have lz : z.length = nz := rz.1
 have mz : nz ≤ 9223372036854775807 := rz.2.1
 have kws : Kn w none_ [] (RdR maK aws nws Hws ws) := fun w' hs => rws.ext hs.upd
 have lws : ws.length = nws := rws.1
 have mws : nws ≤ 9223372036854775807 := rws.2.1
 have kvs : Kn w none_ [] (RdR maK avs nvs Hvs vs) := fun w' hs => rvs.ext hs.upd
 have lvs : vs.length = nvs := rvs.1
 have mvs : nvs ≤ 9223372036854775807 := rvs.2.1
 have hG := Math.isGame_ok hg
 rw [lws] at hG
 have hT := Math.isTree_ok hG.1
 have hvl := Math.mat_len hG.2.2.2.1
 have hrl := Math.row_len (Math.mat_row hG.2.2.2.1 (show a.toNat < nws by omega))
 have hpl := Math.ok_pl ((Math.allOk_iff' lz).1 hT.2.1 node.toNat (by omega))
 refine fn (M := none_) (rs := [.tmp 8]) Try.func111 rfl Try.ntmps111 rfl rfl (Sep.start _ _) ?_
 refine hSeq ?_
 refine hReg (sl 0 (sq 1 sz)) (by kernel_rfl) ?_
 refine box trv1 rfl rfl rfl rfl (fun bkb1 hbkb1 => ?_)
 refine asI rfl rfl rfl ?_
 refine rNil ?_
 refine qSeq rfl ?_
 refine hSeq ?_
 refine hReg (sq 0 (sq 1 (sl 2 (sq 3 (sq 4 (sl 5 (sl 6 (sl 7 sz)))))))) (by kernel_rfl) ?_
 refine fld fl43_0 rfl rfl rfl ?_
 refine fld fl26_0 rfl rfl rfl ?_
 refine ldl Try.isAgg24 (cB 0 rfl rfl) trv rfl rfl rfl ?_
 refine mvI rfl rfl rfl ?_
 refine ixRl (zn := (node).toNat) (z.getD ((node).toNat) dN) el24 (Kn.drop (k := 1) kz) rfl rfl rfl rfl (by omega) (by omega) rfl (nth dN (by omega)) ?_
 intro be1 oe1 e1
 refine ldAl Try.isAgg88 Try.sizeOf88 (e1) trv rfl rfl rfl rfl ?_
 refine alc Try.zeroValue88 rfl trv1 rfl rfl (fun bka2 hbka2 => ?_)
 refine stAl (vs := [.int .i64 ((z.getD ((node).toNat) dN).pl), .int .i64 ((z.getD ((node).toNat) dN).p0), .int .i64 ((z.getD ((node).toNat) dN).p1), .int .i64 ((z.getD ((node).toNat) dN).fo), .slice ((Hz ((node).toNat)).1) (((z.getD ((node).toNat) dN).ch).length) ((Hz ((node).toNat)).2)]) 0 rfl Try.sizeOf88 trv rfl rfl rfl rfl rfl (by simp [Value.oneCell']) rfl ?_
 refine rNil ?_
 refine qSeq rfl ?_
 refine hSeq ?_
 refine hReg (sq 0 (sl 1 (sq 2 (sq 3 (sl 4 (sq 5 (sq 6 (sl 7 (sq 8 sz))))))))) (by kernel_rfl) ?_
 refine fld fl43_2 rfl rfl rfl ?_
 refine ldl Try.isAgg41 (cB 1 rfl rfl) trv rfl rfl rfl ?_
 refine mvI rfl rfl rfl ?_
 refine ixRl (zn := (a).toNat) (vs.getD ((a).toNat) []) el41 (Kn.drop (k := 2) kvs) rfl rfl rfl rfl (by omega) (by omega) rfl (nth [] (by omega)) ?_
 intro be2 oe2 e2
 refine ldl Try.isAgg28 (Kn.fld e2 0 rfl) trv rfl rfl rfl ?_
 refine mvI rfl rfl rfl ?_
 refine ixIl (zn := (b).toNat) el28 (Kn.drop (k := 2) ((Kn.imp kvs fun _ h => h.kidM (nth [] (by omega))))) rfl rfl rfl rfl (by omega) (by omega) rfl ?_
 intro ae3 e3
 refine ldl Try.isAgg2 (e3) trv rfl rfl rfl ?_
 refine asI rfl rfl rfl ?_
 refine rNil ?_
 refine qSeq rfl ?_
 refine hSeq ?_
 refine hSeq ?_
 refine hReg (sq 0 (sl 1 sz)) (by kernel_rfl) ?_
 refine fld fl88_3 rfl rfl rfl ?_
 refine ldl Try.isAgg2 (cB 0 rfl rfl) trv rfl rfl rfl ?_
 refine rNil ?_
 refine qSeq rfl ?_
 refine hBlk ?_
 refine hSeq ?_
 refine hReg (sq 0 (sq 1 sz)) (by kernel_rfl) ?_
 refine eql rfl rfl rfl rfl ?_
 refine asB rfl rfl rfl ?_
 refine rNil ?_
 refine qSeq rfl ?_
 refine hIfD rfl (fun c1 => ?_) (fun c1 => ?_)
 ·
  replace c1 : (z.getD ((node).toNat) dN).fo = 0 := c1
  refine hReg (sq 0 sz) (by kernel_rfl) ?_
  refine asI rfl rfl rfl ?_
  refine rNil ?_
  refine qSeq rfl ?_
  refine hSeq ?_
  refine hSeq ?_
  refine hReg (sq 0 sz) (by kernel_rfl) ?_
  refine mvI rfl rfl rfl ?_
  refine rNil ?_
  refine qSeq rfl ?_
  refine hBlk ?_
  refine hSeq ?_
  refine hReg (sq 0 (sq 1 sz)) (by kernel_rfl) ?_
  refine eql rfl rfl rfl rfl ?_
  refine asB rfl rfl rfl ?_
  refine rNil ?_
  refine qSeq rfl ?_
  refine hIfF rfl ?_
  refine hSeq ?_
  refine hReg (sq 0 (sq 1 sz)) (by kernel_rfl) ?_
  refine eql rfl rfl rfl rfl ?_
  refine asB rfl rfl rfl ?_
  refine rNil ?_
  refine qSeq rfl ?_
  refine hIfT rfl ?_
  refine hSeq ?_
  refine hReg (sq 0 (sl 1 (sq 2 (sq 3 sz)))) (by kernel_rfl) ?_
  refine fld fl88_1 rfl rfl rfl ?_
  refine ldl Try.isAgg2 (cB 0 rfl rfl) trv rfl rfl rfl ?_
  refine neg rfl rfl rfl (by omega) ?_
  refine asI rfl rfl rfl ?_
  refine rNil ?_
  refine qSeq rfl ?_
  refine hRet ?_
  exact fun w hs => ⟨[.int .i64 ((-(z.getD ((node).toNat) dN).p0))], ⟨rfl, trivial⟩, ⟨vI (by unfold Math.payoffX; (repeat' split) <;> omega), hs.upd⟩⟩
 ·
  replace c1 : ¬ ((z.getD ((node).toNat) dN).fo = 0) := c1
  refine hSeq ?_
  refine hReg (sq 0 (sq 1 sz)) (by kernel_rfl) ?_
  refine eql rfl rfl rfl rfl ?_
  refine asB rfl rfl rfl ?_
  refine rNil ?_
  refine qSeq rfl ?_
  refine hIfD rfl (fun c2 => ?_) (fun c2 => ?_)
  ·
   replace c2 : (z.getD ((node).toNat) dN).fo = 1 := c2
   refine hReg (sq 0 sz) (by kernel_rfl) ?_
   refine asI rfl rfl rfl ?_
   refine rNil ?_
   refine qSeq rfl ?_
   refine hSeq ?_
   refine hSeq ?_
   refine hReg (sq 0 sz) (by kernel_rfl) ?_
   refine mvI rfl rfl rfl ?_
   refine rNil ?_
   refine qSeq rfl ?_
   refine hBlk ?_
   refine hSeq ?_
   refine hReg (sq 0 (sq 1 sz)) (by kernel_rfl) ?_
   refine eql rfl rfl rfl rfl ?_
   refine asB rfl rfl rfl ?_
   refine rNil ?_
   refine qSeq rfl ?_
   refine hIfT rfl ?_
   refine hSeq ?_
   refine hReg (sq 0 (sl 1 (sq 2 sz))) (by kernel_rfl) ?_
   refine fld fl88_2 rfl rfl rfl ?_
   refine ldl Try.isAgg2 (cB 0 rfl rfl) trv rfl rfl rfl ?_
   refine asI rfl rfl rfl ?_
   refine rNil ?_
   refine qSeq rfl ?_
   refine hRet ?_
   exact fun w hs => ⟨[.int .i64 ((z.getD ((node).toNat) dN).p1)], ⟨rfl, trivial⟩, ⟨vI (by unfold Math.payoffX; (repeat' split) <;> omega), hs.upd⟩⟩
  ·
   replace c2 : ¬ ((z.getD ((node).toNat) dN).fo = 1) := c2
   refine hSkip ?_
   refine qSeq rfl ?_
   refine hSeq ?_
   refine hSeq ?_
   refine hReg (sq 0 sz) (by kernel_rfl) ?_
   refine mvI rfl rfl rfl ?_
   refine rNil ?_
   refine qSeq rfl ?_
   refine hBlk ?_
   refine hSeq ?_
   refine hReg (sq 0 (sq 1 sz)) (by kernel_rfl) ?_
   refine eql rfl rfl rfl rfl ?_
   refine asB rfl rfl rfl ?_
   refine rNil ?_
   refine qSeq rfl ?_
   refine hIfD rfl (fun c3 => ?_) (fun c3 => ?_)
   ·
    replace c3 : (((vs.getD ((a).toNat) [])).getD ((b).toNat) 0) = 1 := c3
    refine hSeq ?_
    refine hReg (sq 0 (sl 1 (sq 2 sz))) (by kernel_rfl) ?_
    refine fld fl88_2 rfl rfl rfl ?_
    refine ldl Try.isAgg2 (cB 0 rfl rfl) trv rfl rfl rfl ?_
    refine asI rfl rfl rfl ?_
    refine rNil ?_
    refine qSeq rfl ?_
    refine hRet ?_
    exact fun w hs => ⟨[.int .i64 ((z.getD ((node).toNat) dN).p1)], ⟨rfl, trivial⟩, ⟨vI (by unfold Math.payoffX; (repeat' split) <;> omega), hs.upd⟩⟩
   ·
    replace c3 : ¬ ((((vs.getD ((a).toNat) [])).getD ((b).toNat) 0) = 1) := c3
    refine hSeq ?_
    refine hReg (sq 0 (sq 1 sz)) (by kernel_rfl) ?_
    refine eql rfl rfl rfl rfl ?_
    refine asB rfl rfl rfl ?_
    refine rNil ?_
    refine qSeq rfl ?_
    refine hIfD rfl (fun c4 => ?_) (fun c4 => ?_)
    ·
     replace c4 : (((vs.getD ((a).toNat) [])).getD ((b).toNat) 0) = (-1) := c4
     refine hSeq ?_
     refine hReg (sq 0 (sl 1 (sq 2 (sq 3 sz)))) (by kernel_rfl) ?_
     refine fld fl88_1 rfl rfl rfl ?_
     refine ldl Try.isAgg2 (cB 0 rfl rfl) trv rfl rfl rfl ?_
     refine neg rfl rfl rfl (by omega) ?_
     refine asI rfl rfl rfl ?_
     refine rNil ?_
     refine qSeq rfl ?_
     refine hRet ?_
     exact fun w hs => ⟨[.int .i64 ((-(z.getD ((node).toNat) dN).p0))], ⟨rfl, trivial⟩, ⟨vI (by unfold Math.payoffX; (repeat' split) <;> omega), hs.upd⟩⟩
    ·
     replace c4 : ¬ ((((vs.getD ((a).toNat) [])).getD ((b).toNat) 0) = (-1)) := c4
     refine hSkip ?_
     refine qSeq rfl ?_
     refine hSeq ?_
     refine hReg (sq 0 sz) (by kernel_rfl) ?_
     refine asI rfl rfl rfl ?_
     refine rNil ?_
     refine qSeq rfl ?_
     refine hRet ?_
     exact fun w hs => ⟨[.int .i64 0], ⟨rfl, trivial⟩, ⟨vI (by unfold Math.payoffX; (repeat' split) <;> omega), hs.upd⟩⟩
theorem spec_l21Payoff_c (az : Option Addr) (nz : Nat) (cz : Nat) (Hz : Nat → Hd) (z : List Nd) (aws : Option Addr) (nws : Nat) (cws : Nat) (Hws : Nat → Hd) (ws : List (List Int)) (avs : Option Addr) (nvs : Nat) (cvs : Nat) (Hvs : Nat → Hd) (vs : List (List Int)) (node : Int) (a : Int) (b : Int) (w : World) (rz : RdR ndK az nz Hz z w) (rws : RdR maK aws nws Hws ws w) (rvs : RdR maK avs nvs Hvs vs w) (hg : Math.isGame z ws vs = true) (hn : 0 ≤ node ∧ node < (nz : Int)) (ha : 0 ≤ a ∧ a < (nws : Int)) (hb : 0 ≤ b ∧ b < (nws : Int)) :
  Calls Try.prog 113 #[.agg #[.slice az nz cz, .slice aws nws cws, .slice avs nvs cvs], .int .i64 node, .int .i64 a, .int .i64 b] w (Ret fun v w' => v = .int .i64 ((Math.payoffX (z.getD node.toNat dN) ((vs.getD a.toNat []).getD b.toNat 0))) ∧ Ext w w') := by
 have kz : Kn w none_ [] (RdR ndK az nz Hz z) := fun w' hs => rz.ext hs.upd
 have lz : z.length = nz := rz.1
 have mz : nz ≤ 9223372036854775807 := rz.2.1
 have kws : Kn w none_ [] (RdR maK aws nws Hws ws) := fun w' hs => rws.ext hs.upd
 have lws : ws.length = nws := rws.1
 have mws : nws ≤ 9223372036854775807 := rws.2.1
 have kvs : Kn w none_ [] (RdR maK avs nvs Hvs vs) := fun w' hs => rvs.ext hs.upd
 have lvs : vs.length = nvs := rvs.1
 have mvs : nvs ≤ 9223372036854775807 := rvs.2.1
 have hG := Math.isGame_ok hg
 rw [lws] at hG
 have hT := Math.isTree_ok hG.1
 have hvl := Math.mat_len hG.2.2.2.1
 have hrl := Math.row_len (Math.mat_row hG.2.2.2.1 (show a.toNat < nws by omega))
 have hpl := Math.ok_pl ((Math.allOk_iff' lz).1 hT.2.1 node.toNat (by omega))
 refine fn (M := none_) (rs := [.tmp 8]) Try.func113 rfl Try.ntmps113 rfl rfl (Sep.start _ _) ?_
 refine hSeq ?_
 refine hReg (sl 0 (sq 1 sz)) (by kernel_rfl) ?_
 refine box trv1 rfl rfl rfl rfl (fun bkb1 hbkb1 => ?_)
 refine asI rfl rfl rfl ?_
 refine rNil ?_
 refine qSeq rfl ?_
 refine hSeq ?_
 refine hReg (sq 0 (sq 1 (sl 2 (sq 3 (sq 4 (sl 5 (sl 6 (sl 7 sz)))))))) (by kernel_rfl) ?_
 refine fld fl43_0 rfl rfl rfl ?_
 refine fld fl26_0 rfl rfl rfl ?_
 refine ldl Try.isAgg24 (cB 0 rfl rfl) trv rfl rfl rfl ?_
 refine mvI rfl rfl rfl ?_
 refine ixRl (zn := (node).toNat) (z.getD ((node).toNat) dN) el24 (Kn.drop (k := 1) kz) rfl rfl rfl rfl (by omega) (by omega) rfl (nth dN (by omega)) ?_
 intro be1 oe1 e1
 refine ldAl Try.isAgg88 Try.sizeOf88 (e1) trv rfl rfl rfl rfl ?_
 refine alc Try.zeroValue88 rfl trv1 rfl rfl (fun bka2 hbka2 => ?_)
 refine stAl (vs := [.int .i64 ((z.getD ((node).toNat) dN).pl), .int .i64 ((z.getD ((node).toNat) dN).p0), .int .i64 ((z.getD ((node).toNat) dN).p1), .int .i64 ((z.getD ((node).toNat) dN).fo), .slice ((Hz ((node).toNat)).1) (((z.getD ((node).toNat) dN).ch).length) ((Hz ((node).toNat)).2)]) 0 rfl Try.sizeOf88 trv rfl rfl rfl rfl rfl (by simp [Value.oneCell']) rfl ?_
 refine rNil ?_
 refine qSeq rfl ?_
 refine hSeq ?_
 refine hReg (sq 0 (sl 1 (sq 2 (sq 3 (sl 4 (sq 5 (sq 6 (sl 7 (sq 8 sz))))))))) (by kernel_rfl) ?_
 refine fld fl43_2 rfl rfl rfl ?_
 refine ldl Try.isAgg41 (cB 1 rfl rfl) trv rfl rfl rfl ?_
 refine mvI rfl rfl rfl ?_
 refine ixRl (zn := (a).toNat) (vs.getD ((a).toNat) []) el41 (Kn.drop (k := 2) kvs) rfl rfl rfl rfl (by omega) (by omega) rfl (nth [] (by omega)) ?_
 intro be2 oe2 e2
 refine ldl Try.isAgg28 (Kn.fld e2 0 rfl) trv rfl rfl rfl ?_
 refine mvI rfl rfl rfl ?_
 refine ixIl (zn := (b).toNat) el28 (Kn.drop (k := 2) ((Kn.imp kvs fun _ h => h.kidM (nth [] (by omega))))) rfl rfl rfl rfl (by omega) (by omega) rfl ?_
 intro ae3 e3
 refine ldl Try.isAgg2 (e3) trv rfl rfl rfl ?_
 refine asI rfl rfl rfl ?_
 refine rNil ?_
 refine qSeq rfl ?_
 refine hSeq ?_
 refine hSeq ?_
 refine hReg (sq 0 (sl 1 sz)) (by kernel_rfl) ?_
 refine fld fl88_3 rfl rfl rfl ?_
 refine ldl Try.isAgg2 (cB 0 rfl rfl) trv rfl rfl rfl ?_
 refine rNil ?_
 refine qSeq rfl ?_
 refine hBlk ?_
 refine hSeq ?_
 refine hReg (sq 0 (sq 1 sz)) (by kernel_rfl) ?_
 refine eql rfl rfl rfl rfl ?_
 refine asB rfl rfl rfl ?_
 refine rNil ?_
 refine qSeq rfl ?_
 refine hIfD rfl (fun c1 => ?_) (fun c1 => ?_)
 ·
  replace c1 : (z.getD ((node).toNat) dN).fo = 0 := c1
  refine hReg (sq 0 sz) (by kernel_rfl) ?_
  refine asI rfl rfl rfl ?_
  refine rNil ?_
  refine qSeq rfl ?_
  refine hSeq ?_
  refine hSeq ?_
  refine hReg (sq 0 sz) (by kernel_rfl) ?_
  refine mvI rfl rfl rfl ?_
  refine rNil ?_
  refine qSeq rfl ?_
  refine hBlk ?_
  refine hSeq ?_
  refine hReg (sq 0 (sq 1 sz)) (by kernel_rfl) ?_
  refine eql rfl rfl rfl rfl ?_
  refine asB rfl rfl rfl ?_
  refine rNil ?_
  refine qSeq rfl ?_
  refine hIfT rfl ?_
  refine hSeq ?_
  refine hReg (sq 0 (sl 1 (sq 2 (sq 3 sz)))) (by kernel_rfl) ?_
  refine fld fl88_1 rfl rfl rfl ?_
  refine ldl Try.isAgg2 (cB 0 rfl rfl) trv rfl rfl rfl ?_
  refine neg rfl rfl rfl (by omega) ?_
  refine asI rfl rfl rfl ?_
  refine rNil ?_
  refine qSeq rfl ?_
  refine hRet ?_
  exact fun w hs => ⟨[.int .i64 ((-(z.getD ((node).toNat) dN).p0))], ⟨rfl, trivial⟩, ⟨vI (by unfold Math.payoffX; (repeat' split) <;> omega), hs.upd⟩⟩
 ·
  replace c1 : ¬ ((z.getD ((node).toNat) dN).fo = 0) := c1
  refine hSeq ?_
  refine hReg (sq 0 (sq 1 sz)) (by kernel_rfl) ?_
  refine eql rfl rfl rfl rfl ?_
  refine asB rfl rfl rfl ?_
  refine rNil ?_
  refine qSeq rfl ?_
  refine hIfD rfl (fun c2 => ?_) (fun c2 => ?_)
  ·
   replace c2 : (z.getD ((node).toNat) dN).fo = 1 := c2
   refine hReg (sq 0 sz) (by kernel_rfl) ?_
   refine asI rfl rfl rfl ?_
   refine rNil ?_
   refine qSeq rfl ?_
   refine hSeq ?_
   refine hSeq ?_
   refine hReg (sq 0 sz) (by kernel_rfl) ?_
   refine mvI rfl rfl rfl ?_
   refine rNil ?_
   refine qSeq rfl ?_
   refine hBlk ?_
   refine hSeq ?_
   refine hReg (sq 0 (sq 1 sz)) (by kernel_rfl) ?_
   refine eql rfl rfl rfl rfl ?_
   refine asB rfl rfl rfl ?_
   refine rNil ?_
   refine qSeq rfl ?_
   refine hIfF rfl ?_
   refine hSeq ?_
   refine hReg (sq 0 (sq 1 sz)) (by kernel_rfl) ?_
   refine eql rfl rfl rfl rfl ?_
   refine asB rfl rfl rfl ?_
   refine rNil ?_
   refine qSeq rfl ?_
   refine hIfT rfl ?_
   refine hSeq ?_
   refine hReg (sq 0 (sl 1 (sq 2 sz))) (by kernel_rfl) ?_
   refine fld fl88_2 rfl rfl rfl ?_
   refine ldl Try.isAgg2 (cB 0 rfl rfl) trv rfl rfl rfl ?_
   refine asI rfl rfl rfl ?_
   refine rNil ?_
   refine qSeq rfl ?_
   refine hRet ?_
   exact fun w hs => ⟨[.int .i64 ((z.getD ((node).toNat) dN).p1)], ⟨rfl, trivial⟩, ⟨vI (by unfold Math.payoffX; (repeat' split) <;> omega), hs.upd⟩⟩
  ·
   replace c2 : ¬ ((z.getD ((node).toNat) dN).fo = 1) := c2
   refine hSkip ?_
   refine qSeq rfl ?_
   refine hSeq ?_
   refine hSeq ?_
   refine hReg (sq 0 sz) (by kernel_rfl) ?_
   refine mvI rfl rfl rfl ?_
   refine rNil ?_
   refine qSeq rfl ?_
   refine hBlk ?_
   refine hSeq ?_
   refine hReg (sq 0 (sq 1 sz)) (by kernel_rfl) ?_
   refine eql rfl rfl rfl rfl ?_
   refine asB rfl rfl rfl ?_
   refine rNil ?_
   refine qSeq rfl ?_
   refine hIfD rfl (fun c3 => ?_) (fun c3 => ?_)
   ·
    replace c3 : (((vs.getD ((a).toNat) [])).getD ((b).toNat) 0) = (-1) := c3
    refine hSeq ?_
    refine hReg (sq 0 (sl 1 (sq 2 (sq 3 sz)))) (by kernel_rfl) ?_
    refine fld fl88_1 rfl rfl rfl ?_
    refine ldl Try.isAgg2 (cB 0 rfl rfl) trv rfl rfl rfl ?_
    refine neg rfl rfl rfl (by omega) ?_
    refine asI rfl rfl rfl ?_
    refine rNil ?_
    refine qSeq rfl ?_
    refine hRet ?_
    exact fun w hs => ⟨[.int .i64 ((-(z.getD ((node).toNat) dN).p0))], ⟨rfl, trivial⟩, ⟨vI (by unfold Math.payoffX; (repeat' split) <;> omega), hs.upd⟩⟩
   ·
    replace c3 : ¬ ((((vs.getD ((a).toNat) [])).getD ((b).toNat) 0) = (-1)) := c3
    refine hSeq ?_
    refine hReg (sq 0 (sq 1 sz)) (by kernel_rfl) ?_
    refine eql rfl rfl rfl rfl ?_
    refine asB rfl rfl rfl ?_
    refine rNil ?_
    refine qSeq rfl ?_
    refine hIfD rfl (fun c4 => ?_) (fun c4 => ?_)
    ·
     replace c4 : (((vs.getD ((a).toNat) [])).getD ((b).toNat) 0) = 1 := c4
     refine hSeq ?_
     refine hReg (sq 0 (sl 1 (sq 2 sz))) (by kernel_rfl) ?_
     refine fld fl88_2 rfl rfl rfl ?_
     refine ldl Try.isAgg2 (cB 0 rfl rfl) trv rfl rfl rfl ?_
     refine asI rfl rfl rfl ?_
     refine rNil ?_
     refine qSeq rfl ?_
     refine hRet ?_
     exact fun w hs => ⟨[.int .i64 ((z.getD ((node).toNat) dN).p1)], ⟨rfl, trivial⟩, ⟨vI (by unfold Math.payoffX; (repeat' split) <;> omega), hs.upd⟩⟩
    ·
     replace c4 : ¬ ((((vs.getD ((a).toNat) [])).getD ((b).toNat) 0) = 1) := c4
     refine hSkip ?_
     refine qSeq rfl ?_
     refine hSeq ?_
     refine hReg (sq 0 sz) (by kernel_rfl) ?_
     refine asI rfl rfl rfl ?_
     refine rNil ?_
     refine qSeq rfl ?_
     refine hRet ?_
     exact fun w hs => ⟨[.int .i64 0], ⟨rfl, trivial⟩, ⟨vI (by unfold Math.payoffX; (repeat' split) <;> omega), hs.upd⟩⟩
theorem impl_PayoffAt_c (az : Option Addr) (nz : Nat) (cz : Nat) (Hz : Nat → Hd) (z : List Nd) (aws : Option Addr) (nws : Nat) (cws : Nat) (Hws : Nat → Hd) (ws : List (List Int)) (avs : Option Addr) (nvs : Nat) (cvs : Nat) (Hvs : Nat → Hd) (vs : List (List Int)) (node : Int) (a : Int) (b : Int) (w : World) (rz : RdR ndK az nz Hz z w) (rws : RdR maK aws nws Hws ws w) (rvs : RdR maK avs nvs Hvs vs w) :
  Calls Try.prog 35 #[.agg #[.slice az nz cz, .slice aws nws cws, .slice avs nvs cvs], .int .i64 node, .int .i64 a, .int .i64 b] w (Ret fun v w' => v = .tuple #[.int .i64 ((Math.payoffOf z ws vs node a b).1), .int .i64 ((Math.payoffOf z ws vs node a b).2)] ∧ Ext w w') := by
 have kz : Kn w none_ [] (RdR ndK az nz Hz z) := fun w' hs => rz.ext hs.upd
 have lz : z.length = nz := rz.1
 have mz : nz ≤ 9223372036854775807 := rz.2.1
 have kws : Kn w none_ [] (RdR maK aws nws Hws ws) := fun w' hs => rws.ext hs.upd
 have lws : ws.length = nws := rws.1
 have mws : nws ≤ 9223372036854775807 := rws.2.1
 have kvs : Kn w none_ [] (RdR maK avs nvs Hvs vs) := fun w' hs => rvs.ext hs.upd
 have lvs : vs.length = nvs := rvs.1
 have mvs : nvs ≤ 9223372036854775807 := rvs.2.1
 refine fn (M := none_) (rs := [.tmp 8, .tmp 9]) Try.func35 rfl Try.ntmps35 rfl rfl (Sep.start _ _) ?_
 refine hSeq ?_
 refine hReg (sl 0 (sq 1 (sq 2 sz))) (by kernel_rfl) ?_
 refine box trv1 rfl rfl rfl rfl (fun bkb1 hbkb1 => ?_)
 refine asI rfl rfl rfl ?_
 refine asI rfl rfl rfl ?_
 refine rNil ?_
 refine qSeq rfl ?_
 refine hSeq ?_
 refine hSeq ?_
 refine hReg (sl 0 (sl 1 (sq 2 sz))) (by kernel_rfl) ?_
 refine ldAl Try.isAgg43 Try.sizeOf43 (cBs 0 rfl) trv rfl rfl rfl rfl ?_
 refine callP (v := .bool (Math.isGame z ws vs)) Try.call38 trv rfl rfl (fun w hs => impl_IsGame_c _ _ _ _ _ _ _ _ _ _ _ _ _ _ _ w (Kn.drop (k := 1) kz w hs) (Kn.drop (k := 1) kws w hs) (Kn.drop (k := 1) kvs w hs)) ?_
 refine not rfl rfl rfl ?_
 refine rNil ?_
 refine qSeq rfl ?_
 refine hIfN rfl (fun c1 => ?_) (fun c1 => ?_)
 ·
  replace c1 : (Math.isGame z ws vs) = false := c1
  refine hSeq ?_
  refine hReg (sq 0 (sq 1 sz)) (by kernel_rfl) ?_
  refine asI rfl rfl rfl ?_
  refine asI rfl rfl rfl ?_
  refine rNil ?_
  refine qSeq rfl ?_
  refine hRet ?_
  exact fun w hs => ⟨[.int .i64 0, .int .i64 1], ⟨rfl, ⟨rfl, trivial⟩⟩, ⟨by rw [show Math.payoffOf z ws vs node a b = (0, 1) from by simp [Math.payoffOf, c1]]; rfl, hs.upd⟩⟩
 ·
  replace c1 : (Math.isGame z ws vs) = true := c1
  have hG := Math.isGame_ok c1
  rw [lws] at hG
  have hT := Math.isTree_ok hG.1
  have hvl := Math.mat_len hG.2.2.2.1
  refine hSkip ?_
  refine qSeq rfl ?_
  refine hSeq ?_
  refine hSeq ?_
  refine hReg (sq 0 (sq 1 (sq 2 (sl 3 (sq 4 (sq 5 (sl 6 (sq 7 (sq 8 (sl 9 (sq 10 (sl 11 (sq 12 (sq 13 (sq 14 (sl 15 (sq 16 (sl 17 (sq 18 (sq 19 sz)))))))))))))))))))) (by kernel_rfl) ?_
  refine mvI rfl rfl rfl ?_
  refine fld fl43_0 rfl rfl rfl ?_
  refine fld fl26_0 rfl rfl rfl ?_
  refine ldl Try.isAgg24 (cB 0 rfl rfl) trv rfl rfl rfl ?_
  refine lenS Try.runUnderlying24 rfl rfl rfl ?_
  refine sub rfl rfl rfl rfl (by omega) ?_
  refine callP (v := .bool (decide ((0 : Int) ≤ node ∧ node ≤ (((nz : Int) - 1))))) Try.call96 trv rfl rfl (fun w hs => impl_within_c _ _ _ w ) ?_
  refine notD rfl rfl rfl ?_
  refine mvB rfl rfl rfl ?_
  refine rBoolD (d := 21) rfl (fun g2 => ?_) (fun g2 => ?_)
  ·
   replace g2 : ¬ ((0 : Int) ≤ node ∧ node ≤ (((nz : Int) - 1))) := g2
   refine rSkipL trv rfl rfl ?_
   refine rSkipQ rfl rfl ?_
   refine rSkipL trv rfl rfl ?_
   refine rSkipQ rfl rfl ?_
   refine pickB rfl rfl rfl rfl ?_
   refine mvB rfl rfl rfl ?_
   refine rSkipL trv rfl rfl ?_
   refine rSkipQ rfl rfl ?_
   refine rSkipL trv rfl rfl ?_
   refine rSkipQ rfl rfl ?_
   refine pickB rfl rfl rfl rfl ?_
   refine rNil ?_
   refine qSeq rfl ?_
   refine hIfT rfl ?_
   refine hSeq ?_
   refine hReg (sq 0 (sq 1 sz)) (by kernel_rfl) ?_
   refine asI rfl rfl rfl ?_
   refine asI rfl rfl rfl ?_
   refine rNil ?_
   refine qSeq rfl ?_
   refine hRet ?_
   exact fun w hs => ⟨[.int .i64 0, .int .i64 2], ⟨rfl, ⟨rfl, trivial⟩⟩, ⟨by rw [show Math.payoffOf z ws vs node a b = (0, 2) from by unfold Math.payoffOf; rw [if_pos c1, if_neg (by omega)]]; rfl, hs.upd⟩⟩
  ·
   replace g2 : ¬ (¬ ((0 : Int) ≤ node ∧ node ≤ (((nz : Int) - 1)))) := g2
   refine ldAl Try.isAgg43 Try.sizeOf43 (cBs 0 rfl) trv rfl rfl rfl rfl ?_
   refine mvI rfl rfl rfl ?_
   refine callP (v := .bool (decide (0 ≤ a ∧ a ≤ (nws : Int) - 1))) Try.call110 trv rfl rfl (fun w hs => impl_isKind_c _ _ _ _ _ _ _ _ _ _ _ _ _ _ _ _ w (Kn.drop (k := 1) kz w hs) (Kn.drop (k := 1) kws w hs) (Kn.drop (k := 1) kvs w hs)) ?_
   refine notD rfl rfl rfl ?_
   refine pickB rfl rfl rfl rfl ?_
   refine mvB rfl rfl rfl ?_
   refine rBoolD (d := 27) rfl (fun g3 => ?_) (fun g3 => ?_)
   ·
    replace g3 : ¬ (0 ≤ a ∧ a ≤ (nws : Int) - 1) := g3
    refine rSkipL trv rfl rfl ?_
    refine rSkipQ rfl rfl ?_
    refine rSkipL trv rfl rfl ?_
    refine rSkipQ rfl rfl ?_
    refine pickB rfl rfl rfl rfl ?_
    refine rNil ?_
    refine qSeq rfl ?_
    refine hIfT rfl ?_
    refine hSeq ?_
    refine hReg (sq 0 (sq 1 sz)) (by kernel_rfl) ?_
    refine asI rfl rfl rfl ?_
    refine asI rfl rfl rfl ?_
    refine rNil ?_
    refine qSeq rfl ?_
    refine hRet ?_
    exact fun w hs => ⟨[.int .i64 0, .int .i64 2], ⟨rfl, ⟨rfl, trivial⟩⟩, ⟨by rw [show Math.payoffOf z ws vs node a b = (0, 2) from by unfold Math.payoffOf; rw [if_pos c1, if_neg (by omega)]]; rfl, hs.upd⟩⟩
   ·
    replace g3 : ¬ (¬ (0 ≤ a ∧ a ≤ (nws : Int) - 1)) := g3
    refine ldAl Try.isAgg43 Try.sizeOf43 (cBs 0 rfl) trv rfl rfl rfl rfl ?_
    refine mvI rfl rfl rfl ?_
    refine callP (v := .bool (decide (0 ≤ b ∧ b ≤ (nws : Int) - 1))) Try.call110 trv rfl rfl (fun w hs => impl_isKind_c _ _ _ _ _ _ _ _ _ _ _ _ _ _ _ _ w (Kn.drop (k := 1) kz w hs) (Kn.drop (k := 1) kws w hs) (Kn.drop (k := 1) kvs w hs)) ?_
    refine notD rfl rfl rfl ?_
    refine pickB rfl rfl rfl rfl ?_
    refine rNil ?_
    refine qSeq rfl ?_
    refine hIfD rfl (fun c4 => ?_) (fun c4 => ?_)
    ·
     replace c4 : ¬ (0 ≤ b ∧ b ≤ (nws : Int) - 1) := c4
     refine hSeq ?_
     refine hReg (sq 0 (sq 1 sz)) (by kernel_rfl) ?_
     refine asI rfl rfl rfl ?_
     refine asI rfl rfl rfl ?_
     refine rNil ?_
     refine qSeq rfl ?_
     refine hRet ?_
     exact fun w hs => ⟨[.int .i64 0, .int .i64 2], ⟨rfl, ⟨rfl, trivial⟩⟩, ⟨by rw [show Math.payoffOf z ws vs node a b = (0, 2) from by unfold Math.payoffOf; rw [if_pos c1, if_neg (by omega)]]; rfl, hs.upd⟩⟩
    ·
     replace c4 : ¬ (¬ (0 ≤ b ∧ b ≤ (nws : Int) - 1)) := c4
     refine hSkip ?_
     refine qSeq rfl ?_
     refine hSeq ?_
     refine hSeq ?_
     refine hReg (sq 0 (sq 1 (sl 2 (sq 3 (sq 4 (sq 5 (sl 6 (sq 7 sz)))))))) (by kernel_rfl) ?_
     refine fld fl43_0 rfl rfl rfl ?_
     refine fld fl26_0 rfl rfl rfl ?_
     refine ldl Try.isAgg24 (cB 0 rfl rfl) trv rfl rfl rfl ?_
     refine mvI rfl rfl rfl ?_
     refine ixRl (zn := (node).toNat) (z.getD ((node).toNat) dN) el24 (Kn.drop (k := 1) kz) rfl rfl rfl rfl (by omega) (by omega) rfl (nth dN (by omega)) ?_
     intro be1 oe1 e1
     refine fld fl88_0 rfl rfl rfl ?_
     refine ldl Try.isAgg2 (Kn.fld e1 0 rfl) trv rfl rfl rfl ?_
     refine neq rfl rfl rfl rfl ?_
     refine rNil ?_
     refine qSeq rfl ?_
     refine hIfD rfl (fun c5 => ?_) (fun c5 => ?_)
     ·
      replace c5 : (z.getD ((node).toNat) dN).pl ≠ 2 := c5
      refine hSeq ?_
      refine hReg (sq 0 (sq 1 sz)) (by kernel_rfl) ?_
      refine asI rfl rfl rfl ?_
      refine asI rfl rfl rfl ?_
      refine rNil ?_
      refine qSeq rfl ?_
      refine hRet ?_
      exact fun w hs => ⟨[.int .i64 0, .int .i64 5], ⟨rfl, ⟨rfl, trivial⟩⟩, ⟨by rw [show Math.payoffOf z ws vs node a b = (0, 5) from by unfold Math.payoffOf; rw [if_pos c1, if_pos (by omega), if_neg (by assumption)]]; rfl, hs.upd⟩⟩
     ·
      replace c5 : ¬ ((z.getD ((node).toNat) dN).pl ≠ 2) := c5
      refine hSkip ?_
      refine qSeq rfl ?_
      refine hSeq ?_
      refine hReg (sl 0 (sq 1 (sq 2 (sq 3 (sl 4 (sq 5 (sq 6 sz))))))) (by kernel_rfl) ?_
      refine ldAl Try.isAgg43 Try.sizeOf43 (cBs 0 rfl) trv rfl rfl rfl rfl ?_
      refine mvI rfl rfl rfl ?_
      refine mvI rfl rfl rfl ?_
      refine mvI rfl rfl rfl ?_
      refine callP (v := .int .i64 ((Math.payoffX (z.getD node.toNat dN) ((vs.getD a.toNat []).getD b.toNat 0)))) Try.call111 trv rfl rfl (fun w hs => impl_payoffAt_c _ _ _ _ _ _ _ _ _ _ _ _ _ _ _ _ _ _ w (Kn.drop (k := 1) kz w hs) (Kn.drop (k := 1) kws w hs) (Kn.drop (k := 1) kvs w hs) (by assumption) (by omega) (by omega) (by omega)) ?_
      refine asI rfl rfl rfl ?_
      refine asI rfl rfl rfl ?_
      refine rNil ?_
      refine qSeq rfl ?_
      refine hRet ?_
      exact fun w hs => ⟨[.int .i64 ((Math.payoffX (z.getD node.toNat dN) ((vs.getD a.toNat []).getD b.toNat 0))), .int .i64 0], ⟨rfl, ⟨rfl, trivial⟩⟩, ⟨by rw [show Math.payoffOf z ws vs node a b = ((Math.payoffX (z.getD node.toNat dN) ((vs.getD a.toNat []).getD b.toNat 0)), 0) from by unfold Math.payoffOf; rw [if_pos c1, if_pos (by omega), if_pos (by first | assumption | (apply Classical.not_not.1; assumption))]]; rfl, hs.upd⟩⟩
theorem spec_PayoffAt_c (az : Option Addr) (nz : Nat) (cz : Nat) (Hz : Nat → Hd) (z : List Nd) (aws : Option Addr) (nws : Nat) (cws : Nat) (Hws : Nat → Hd) (ws : List (List Int)) (avs : Option Addr) (nvs : Nat) (cvs : Nat) (Hvs : Nat → Hd) (vs : List (List Int)) (node : Int) (a : Int) (b : Int) (w : World) (rz : RdR ndK az nz Hz z w) (rws : RdR maK aws nws Hws ws w) (rvs : RdR maK avs nvs Hvs vs w) :
  Calls Try.prog 36 #[.agg #[.slice az nz cz, .slice aws nws cws, .slice avs nvs cvs], .int .i64 node, .int .i64 a, .int .i64 b] w (Ret fun v w' => v = .tuple #[.int .i64 ((Math.payoffOf z ws vs node a b).1), .int .i64 ((Math.payoffOf z ws vs node a b).2)] ∧ Ext w w') := by
 have kz : Kn w none_ [] (RdR ndK az nz Hz z) := fun w' hs => rz.ext hs.upd
 have lz : z.length = nz := rz.1
 have mz : nz ≤ 9223372036854775807 := rz.2.1
 have kws : Kn w none_ [] (RdR maK aws nws Hws ws) := fun w' hs => rws.ext hs.upd
 have lws : ws.length = nws := rws.1
 have mws : nws ≤ 9223372036854775807 := rws.2.1
 have kvs : Kn w none_ [] (RdR maK avs nvs Hvs vs) := fun w' hs => rvs.ext hs.upd
 have lvs : vs.length = nvs := rvs.1
 have mvs : nvs ≤ 9223372036854775807 := rvs.2.1
 refine fn (M := none_) (rs := [.tmp 8, .tmp 9]) Try.func36 rfl Try.ntmps36 rfl rfl (Sep.start _ _) ?_
 refine hSeq ?_
 refine hReg (sl 0 (sq 1 (sq 2 sz))) (by kernel_rfl) ?_
 refine box trv1 rfl rfl rfl rfl (fun bkb1 hbkb1 => ?_)
 refine asI rfl rfl rfl ?_
 refine asI rfl rfl rfl ?_
 refine rNil ?_
 refine qSeq rfl ?_
 refine hSeq ?_
 refine hBlk ?_
 refine hSeq ?_
 refine hReg (sl 0 (sl 1 (sq 2 (sq 3 sz)))) (by kernel_rfl) ?_
 refine ldAl Try.isAgg43 Try.sizeOf43 (cBs 0 rfl) trv rfl rfl rfl rfl ?_
 refine callP (v := .bool (Math.isGame z ws vs)) Try.call108 trv rfl rfl (fun w hs => spec_IsGame_c _ _ _ _ _ _ _ _ _ _ _ _ _ _ _ w (Kn.drop (k := 1) kz w hs) (Kn.drop (k := 1) kws w hs) (Kn.drop (k := 1) kvs w hs)) ?_
 refine not rfl rfl rfl ?_
 refine asB rfl rfl rfl ?_
 refine rNil ?_
 refine qSeq rfl ?_
 refine hIfN rfl (fun c1 => ?_) (fun c1 => ?_)
 ·
  replace c1 : (Math.isGame z ws vs) = false := c1
  refine hSeq ?_
  refine hReg (sq 0 (sq 1 sz)) (by kernel_rfl) ?_
  refine asI rfl rfl rfl ?_
  refine asI rfl rfl rfl ?_
  refine rNil ?_
  refine qSeq rfl ?_
  refine hRet ?_
  exact fun w hs => ⟨[.int .i64 0, .int .i64 1], ⟨rfl, ⟨rfl, trivial⟩⟩, ⟨by rw [show Math.payoffOf z ws vs node a b = (0, 1) from by simp [Math.payoffOf, c1]]; rfl, hs.upd⟩⟩
 ·
  replace c1 : (Math.isGame z ws vs) = true := c1
  have hG := Math.isGame_ok c1
  rw [lws] at hG
  have hT := Math.isTree_ok hG.1
  have hvl := Math.mat_len hG.2.2.2.1
  refine hSeq ?_
  refine hReg (sq 0 (sq 1 (sq 2 (sl 3 (sq 4 (sq 5 (sl 6 (sq 7 (sq 8 (sl 9 (sq 10 (sl 11 (sq 12 (sq 13 (sq 14 (sl 15 (sq 16 (sl 17 (sq 18 (sq 19 (sq 20 sz))))))))))))))))))))) (by kernel_rfl) ?_
  refine mvI rfl rfl rfl ?_
  refine fld fl43_0 rfl rfl rfl ?_
  refine fld fl26_0 rfl rfl rfl ?_
  refine ldl Try.isAgg24 (cB 0 rfl rfl) trv rfl rfl rfl ?_
  refine lenS Try.runUnderlying24 rfl rfl rfl ?_
  refine sub rfl rfl rfl rfl (by omega) ?_
  refine callP (v := .bool (decide ((0 : Int) ≤ node ∧ node ≤ (((nz : Int) - 1))))) Try.call97 trv rfl rfl (fun w hs => spec_l01In_c _ _ _ w ) ?_
  refine notD rfl rfl rfl ?_
  refine mvB rfl rfl rfl ?_
  refine rBoolD (d := 23) rfl (fun g2 => ?_) (fun g2 => ?_)
  ·
   replace g2 : ¬ ((0 : Int) ≤ node ∧ node ≤ (((nz : Int) - 1))) := g2
   refine rSkipL trv rfl rfl ?_
   refine rSkipQ rfl rfl ?_
   refine rSkipL trv rfl rfl ?_
   refine rSkipQ rfl rfl ?_
   refine pickB rfl rfl rfl rfl ?_
   refine mvB rfl rfl rfl ?_
   refine rSkipL trv rfl rfl ?_
   refine rSkipQ rfl rfl ?_
   refine rSkipL trv rfl rfl ?_
   refine rSkipQ rfl rfl ?_
   refine pickB rfl rfl rfl rfl ?_
   refine asB rfl rfl rfl ?_
   refine rNil ?_
   refine qSeq rfl ?_
   refine hIfT rfl ?_
   refine hSeq ?_
   refine hReg (sq 0 (sq 1 sz)) (by kernel_rfl) ?_
   refine asI rfl rfl rfl ?_
   refine asI rfl rfl rfl ?_
   refine rNil ?_
   refine qSeq rfl ?_
   refine hRet ?_
   exact fun w hs => ⟨[.int .i64 0, .int .i64 2], ⟨rfl, ⟨rfl, trivial⟩⟩, ⟨by rw [show Math.payoffOf z ws vs node a b = (0, 2) from by unfold Math.payoffOf; rw [if_pos c1, if_neg (by omega)]]; rfl, hs.upd⟩⟩
  ·
   replace g2 : ¬ (¬ ((0 : Int) ≤ node ∧ node ≤ (((nz : Int) - 1)))) := g2
   refine ldAl Try.isAgg43 Try.sizeOf43 (cBs 0 rfl) trv rfl rfl rfl rfl ?_
   refine mvI rfl rfl rfl ?_
   refine callP (v := .bool (decide (0 ≤ a ∧ a ≤ (nws : Int) - 1))) Try.call112 trv rfl rfl (fun w hs => spec_l21Card_c _ _ _ _ _ _ _ _ _ _ _ _ _ _ _ _ w (Kn.drop (k := 1) kz w hs) (Kn.drop (k := 1) kws w hs) (Kn.drop (k := 1) kvs w hs)) ?_
   refine notD rfl rfl rfl ?_
   refine pickB rfl rfl rfl rfl ?_
   refine mvB rfl rfl rfl ?_
   refine rBoolD (d := 29) rfl (fun g3 => ?_) (fun g3 => ?_)
   ·
    replace g3 : ¬ (0 ≤ a ∧ a ≤ (nws : Int) - 1) := g3
    refine rSkipL trv rfl rfl ?_
    refine rSkipQ rfl rfl ?_
    refine rSkipL trv rfl rfl ?_
    refine rSkipQ rfl rfl ?_
    refine pickB rfl rfl rfl rfl ?_
    refine asB rfl rfl rfl ?_
    refine rNil ?_
    refine qSeq rfl ?_
    refine hIfT rfl ?_
    refine hSeq ?_
    refine hReg (sq 0 (sq 1 sz)) (by kernel_rfl) ?_
    refine asI rfl rfl rfl ?_
    refine asI rfl rfl rfl ?_
    refine rNil ?_
    refine qSeq rfl ?_
    refine hRet ?_
    exact fun w hs => ⟨[.int .i64 0, .int .i64 2], ⟨rfl, ⟨rfl, trivial⟩⟩, ⟨by rw [show Math.payoffOf z ws vs node a b = (0, 2) from by unfold Math.payoffOf; rw [if_pos c1, if_neg (by omega)]]; rfl, hs.upd⟩⟩
   ·
    replace g3 : ¬ (¬ (0 ≤ a ∧ a ≤ (nws : Int) - 1)) := g3
    refine ldAl Try.isAgg43 Try.sizeOf43 (cBs 0 rfl) trv rfl rfl rfl rfl ?_
    refine mvI rfl rfl rfl ?_
    refine callP (v := .bool (decide (0 ≤ b ∧ b ≤ (nws : Int) - 1))) Try.call112 trv rfl rfl (fun w hs => spec_l21Card_c _ _ _ _ _ _ _ _ _ _ _ _ _ _ _ _ w (Kn.drop (k := 1) kz w hs) (Kn.drop (k := 1) kws w hs) (Kn.drop (k := 1) kvs w hs)) ?_
    refine notD rfl rfl rfl ?_
    refine pickB rfl rfl rfl rfl ?_
    refine asB rfl rfl rfl ?_
    refine rNil ?_
    refine qSeq rfl ?_
    refine hIfD rfl (fun c4 => ?_) (fun c4 => ?_)
    ·
     replace c4 : ¬ (0 ≤ b ∧ b ≤ (nws : Int) - 1) := c4
     refine hSeq ?_
     refine hReg (sq 0 (sq 1 sz)) (by kernel_rfl) ?_
     refine asI rfl rfl rfl ?_
     refine asI rfl rfl rfl ?_
     refine rNil ?_
     refine qSeq rfl ?_
     refine hRet ?_
     exact fun w hs => ⟨[.int .i64 0, .int .i64 2], ⟨rfl, ⟨rfl, trivial⟩⟩, ⟨by rw [show Math.payoffOf z ws vs node a b = (0, 2) from by unfold Math.payoffOf; rw [if_pos c1, if_neg (by omega)]]; rfl, hs.upd⟩⟩
    ·
     replace c4 : ¬ (¬ (0 ≤ b ∧ b ≤ (nws : Int) - 1)) := c4
     refine hSeq ?_
     refine hReg (sq 0 (sq 1 (sl 2 (sq 3 (sq 4 (sq 5 (sl 6 (sq 7 (sq 8 sz))))))))) (by kernel_rfl) ?_
     refine fld fl43_0 rfl rfl rfl ?_
     refine fld fl26_0 rfl rfl rfl ?_
     refine ldl Try.isAgg24 (cB 0 rfl rfl) trv rfl rfl rfl ?_
     refine mvI rfl rfl rfl ?_
     refine ixRl (zn := (node).toNat) (z.getD ((node).toNat) dN) el24 (Kn.drop (k := 1) kz) rfl rfl rfl rfl (by omega) (by omega) rfl (nth dN (by omega)) ?_
     intro be1 oe1 e1
     refine fld fl88_0 rfl rfl rfl ?_
     refine ldl Try.isAgg2 (Kn.fld e1 0 rfl) trv rfl rfl rfl ?_
     refine neq rfl rfl rfl rfl ?_
     refine asB rfl rfl rfl ?_
     refine rNil ?_
     refine qSeq rfl ?_
     refine hIfD rfl (fun c5 => ?_) (fun c5 => ?_)
     ·
      replace c5 : (z.getD ((node).toNat) dN).pl ≠ 2 := c5
      refine hSeq ?_
      refine hReg (sq 0 (sq 1 sz)) (by kernel_rfl) ?_
      refine asI rfl rfl rfl ?_
      refine asI rfl rfl rfl ?_
      refine rNil ?_
      refine qSeq rfl ?_
      refine hRet ?_
      exact fun w hs => ⟨[.int .i64 0, .int .i64 5], ⟨rfl, ⟨rfl, trivial⟩⟩, ⟨by rw [show Math.payoffOf z ws vs node a b = (0, 5) from by unfold Math.payoffOf; rw [if_pos c1, if_pos (by omega), if_neg (by assumption)]]; rfl, hs.upd⟩⟩
     ·
      replace c5 : ¬ ((z.getD ((node).toNat) dN).pl ≠ 2) := c5
      refine hSkip ?_
      refine qSeq rfl ?_
      refine hSeq ?_
      refine hReg (sl 0 (sq 1 (sq 2 (sq 3 (sl 4 (sq 5 (sq 6 sz))))))) (by kernel_rfl) ?_
      refine ldAl Try.isAgg43 Try.sizeOf43 (cBs 0 rfl) trv rfl rfl rfl rfl ?_
      refine mvI rfl rfl rfl ?_
      refine mvI rfl rfl rfl ?_
      refine mvI rfl rfl rfl ?_
      refine callP (v := .int .i64 ((Math.payoffX (z.getD node.toNat dN) ((vs.getD a.toNat []).getD b.toNat 0)))) Try.call113 trv rfl rfl (fun w hs => spec_l21Payoff_c _ _ _ _ _ _ _ _ _ _ _ _ _ _ _ _ _ _ w (Kn.drop (k := 1) kz w hs) (Kn.drop (k := 1) kws w hs) (Kn.drop (k := 1) kvs w hs) (by assumption) (by omega) (by omega) (by omega)) ?_
      refine asI rfl rfl rfl ?_
      refine asI rfl rfl rfl ?_
      refine rNil ?_
      refine qSeq rfl ?_
      refine hRet ?_
      exact fun w hs => ⟨[.int .i64 ((Math.payoffX (z.getD node.toNat dN) ((vs.getD a.toNat []).getD b.toNat 0))), .int .i64 0], ⟨rfl, ⟨rfl, trivial⟩⟩, ⟨by rw [show Math.payoffOf z ws vs node a b = ((Math.payoffX (z.getD node.toNat dN) ((vs.getD a.toNat []).getD b.toNat 0)), 0) from by unfold Math.payoffOf; rw [if_pos c1, if_pos (by omega), if_pos (by first | assumption | (apply Classical.not_not.1; assumption))]]; rfl, hs.upd⟩⟩
end Go.Proofs.Ytjengglpbdgmnaa
