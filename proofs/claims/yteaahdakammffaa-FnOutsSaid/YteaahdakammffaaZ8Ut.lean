/- Contracts of deals. Their conditions stand in each. -/
import Derived.Test.YteaahdakammffaaZ7Ut
import Derived.Test.YteaahdakammffaaZ1Ut
import Derived.Test.YteaahdakammffaaZ2Ut
import Derived.Test.YteaahdakammffaaZ3Ut
import Derived.Test.YteaahdakammffaaZ4Ut
import Derived.Test.YteaahdakammffaaZ6Ut
import Derived.Test.YteaahdakammffaaRows
namespace Go.Proofs.Yteaahdakammffaa
open Go Go.RowKit V
set_option linter.unusedVariables false
set_option linter.unusedSimpArgs false
set_option maxRecDepth 100000
theorem impl_IsDeal_c (vn : Int) (az : Option Addr) (nz : Nat) (cz : Nat) (Hz : Nat → Hd) (z : List (List Int)) (aq : Option Addr) (nq : Nat) (cq : Nat) (q : List Int) (ad : Option Addr) (nd : Nat) (cd : Nat) (d : List Int) (w : World) (rz : RdR maK az nz Hz z w) (rq : RdI aq nq q w) (rd : RdI ad nd d w) (hql : q.length ≤ 1048576) (hdl : d.length ≤ 1048576) (hzf : z.flatten.length ≤ 1048576) :
  Calls Try.prog 60 #[.int .i64 vn, .slice az nz cz, .slice aq nq cq, .slice ad nd cd] w (Ret fun v w' => v = .bool (Hd.isDeal vn z q d) ∧ Ext w w') := by
 have kz : Kn w none_ [] (RdR maK az nz Hz z) := fun w' hs => rz.ext hs.upd
 have lz : z.length = nz := rz.1
 have mz : nz ≤ 9223372036854775807 := rz.2.1
 have kq : Kn w none_ [] (RdI aq nq q) := fun w' hs => rq.ext hs.upd
 have lq : q.length = nq := rq.1
 have mq : nq ≤ 9223372036854775807 := rq.2.1
 have kd : Kn w none_ [] (RdI ad nd d) := fun w' hs => rd.ext hs.upd
 have ld : d.length = nd := rd.1
 have md : nd ≤ 9223372036854775807 := rd.2.1
 have hfl : [q, d].flatten.length = q.length + d.length := by simp
 refine fn (M := none_) (rs := [.tmp 8]) Try.func60 rfl Try.ntmps60 rfl rfl (Sep.start _ _) ?_
 refine hSeq ?_
 refine hReg (sq 0 sz) (by kernel_rfl) ?_
 refine asB rfl rfl rfl ?_
 refine rNil ?_
 refine qSeq rfl ?_
 refine hSeq ?_
 refine hSeq ?_
 refine hReg (sq 0 (sl 1 (sq 2 (sq 3 (sq 4 (sq 5 (sl 6 (sq 7 (sq 8 (sq 9 (sq 10 (sq 11 (sl 12 (sq 13 (sq 14 sz))))))))))))))) (by kernel_rfl) ?_
 refine mvI rfl rfl rfl ?_
 refine callP (v := .bool (decide ((0 : Int) ≤ vn ∧ vn ≤ (2 : Int)))) Try.call65 trv rfl rfl (fun w hs => impl_within_c _ _ _ w ) ?_
 refine notD rfl rfl rfl ?_
 refine mvB rfl rfl rfl ?_
 refine rBoolD (d := 15) rfl (fun g1 => ?_) (fun g1 => ?_)
 ·
  replace g1 : ¬ ((0 : Int) ≤ vn ∧ vn ≤ (2 : Int)) := g1
  refine rSkipQ rfl rfl ?_
  refine rSkipQ rfl rfl ?_
  refine rSkipL trv rfl rfl ?_
  refine rSkipQ rfl rfl ?_
  refine pickB rfl rfl rfl rfl ?_
  refine mvB rfl rfl rfl ?_
  refine rSkipQ rfl rfl ?_
  refine rSkipQ rfl rfl ?_
  refine rSkipL trv rfl rfl ?_
  refine rSkipQ rfl rfl ?_
  refine pickB rfl rfl rfl rfl ?_
  refine rNil ?_
  refine qSeq rfl ?_
  refine hIfT rfl ?_
  refine hSeq ?_
  refine hReg (sq 0 sz) (by kernel_rfl) ?_
  refine asB rfl rfl rfl ?_
  refine rNil ?_
  refine qSeq rfl ?_
  refine hRet ?_
  exact fun w hs => ⟨[.bool false], ⟨rfl, trivial⟩, ⟨bB (by first | exact Hd.isDeal_no1 (by omega) | exact Hd.isDeal_no2 hiz (by omega)), hs.upd⟩⟩
 ·
  replace g1 : ¬ (¬ ((0 : Int) ≤ vn ∧ vn ≤ (2 : Int))) := g1
  refine mvS rfl rfl rfl ?_
  refine lenS Try.runUnderlying22 rfl rfl rfl ?_
  refine callP (v := .bool (decide ((2 : Int) ≤ (nz : Int) ∧ (nz : Int) ≤ (4 : Int)))) Try.call65 trv rfl rfl (fun w hs => impl_within_c _ _ _ w ) ?_
  refine notD rfl rfl rfl ?_
  refine pickB rfl rfl rfl rfl ?_
  refine mvB rfl rfl rfl ?_
  refine rBoolD (d := 21) rfl (fun g2 => ?_) (fun g2 => ?_)
  ·
   replace g2 : ¬ ((2 : Int) ≤ (nz : Int) ∧ (nz : Int) ≤ (4 : Int)) := g2
   refine rSkipQ rfl rfl ?_
   refine rSkipQ rfl rfl ?_
   refine rSkipL trv rfl rfl ?_
   refine rSkipQ rfl rfl ?_
   refine pickB rfl rfl rfl rfl ?_
   refine rNil ?_
   refine qSeq rfl ?_
   refine hIfT rfl ?_
   refine hSeq ?_
   refine hReg (sq 0 sz) (by kernel_rfl) ?_
   refine asB rfl rfl rfl ?_
   refine rNil ?_
   refine qSeq rfl ?_
   refine hRet ?_
   exact fun w hs => ⟨[.bool false], ⟨rfl, trivial⟩, ⟨bB (by first | exact Hd.isDeal_no1 (by omega) | exact Hd.isDeal_no2 hiz (by omega)), hs.upd⟩⟩
  ·
   replace g2 : ¬ (¬ ((2 : Int) ≤ (nz : Int) ∧ (nz : Int) ≤ (4 : Int))) := g2
   refine mvS rfl rfl rfl ?_
   refine lenS Try.runUnderlying23 rfl rfl rfl ?_
   refine callP (v := .bool (decide ((3 : Int) ≤ (nq : Int) ∧ (nq : Int) ≤ (5 : Int)))) Try.call65 trv rfl rfl (fun w hs => impl_within_c _ _ _ w ) ?_
   refine notD rfl rfl rfl ?_
   refine pickB rfl rfl rfl rfl ?_
   refine rNil ?_
   refine qSeq rfl ?_
   refine hIfD rfl (fun c3 => ?_) (fun c3 => ?_)
   ·
    replace c3 : ¬ ((3 : Int) ≤ (nq : Int) ∧ (nq : Int) ≤ (5 : Int)) := c3
    refine hSeq ?_
    refine hReg (sq 0 sz) (by kernel_rfl) ?_
    refine asB rfl rfl rfl ?_
    refine rNil ?_
    refine qSeq rfl ?_
    refine hRet ?_
    exact fun w hs => ⟨[.bool false], ⟨rfl, trivial⟩, ⟨bB (by first | exact Hd.isDeal_no1 (by omega) | exact Hd.isDeal_no2 hiz (by omega)), hs.upd⟩⟩
   ·
    replace c3 : ¬ (¬ ((3 : Int) ≤ (nq : Int) ∧ (nq : Int) ≤ (5 : Int))) := c3
    refine hSkip ?_
    refine qSeq rfl ?_
    refine hSeq ?_
    refine hReg (sq 0 (sq 1 (sl 2 (sl 3 (sq 4 sz))))) (by kernel_rfl) ?_
    refine mvS rfl rfl rfl ?_
    refine mvS rfl rfl rfl ?_
    refine bsl trv1 rfl rfl rfl (bsl22_2 (.slice _ _ _) (.slice _ _ _) rfl rfl) (fun bkl1 hbkl1 => ?_)
    refine callS Try.call97 trv1 rfl rfl (fun w hs => slices_Concat_int64_int64_c _ 2 2 _ _ w (RdR.lit2 (hs.at_ 0 rfl) (Kn.drop (k := 1) kq w hs) (Kn.drop (k := 1) kd w hs)) (by omega)) ?_
    rintro ⟨ay1, ny1, cy1, y1⟩ hr1
    dsimp only at hr1
    subst y1
    refine rPieces (L' := [OwnI 2 ay1 ny1 cy1 ([q, d].flatten), blk bkl1 23 [.slice aq nq cq, .slice ad nd cd]]) (fun _ h => h) ?_
    refine rKnow (fun w hs => (show OwnI 2 ay1 ny1 cy1 ([q, d].flatten) w from hs.at_ 0 rfl).lenz) (fun lenn2 => ?_)
    refine rVal (v' := .slice ay1 ny1 cy1) rfl ?_
    refine asS rfl rfl rfl ?_
    refine rNil ?_
    refine qSeq rfl ?_
    refine hSeq ?_
    refine hSeq ?_
    refine hReg (sq 0 (sq 1 (sq 2 sz))) (by kernel_rfl) ?_
    refine mvS rfl rfl rfl ?_
    refine lenS Try.runUnderlying22 rfl rfl rfl ?_
    refine mvI rfl rfl rfl ?_
    refine rNil ?_
    refine qSeq rfl ?_
    refine hBlk ?_
    refine hLoop (α := Nat × Nat × Hd) (fun x => x.1 ≤ nz ∧ (x.2.1 = ([q, d].flatten ++ (z.take x.1).flatten).length ∧ ∀ u ∈ z.take x.1, (u.length : Int) = Hd.vHole vn)) (fun x => nz - x.1) (fun x => [OwnI 2 x.2.2.1 x.2.1 x.2.2.2 (([q, d].flatten ++ (z.take x.1).flatten)), blk bkl1 23 [.slice aq nq cq, .slice ad nd cd]]) (fun x => [(0, .int .i64 vn), (9, .slice x.2.2.1 x.2.1 x.2.2.2), (31, .slice az nz cz), (32, .int .i64 (nz : Int)), (33, .int .i64 (x.1 : Int))]) ((0, ny1, (ay1, cy1))) ⟨Nat.zero_le _, by dsimp only; rw [List.take_zero, List.flatten_nil, List.append_nil]; omega, fun x hx => absurd hx (by simp)⟩ (fun _ h => by rw [List.take_zero, List.flatten_nil, List.append_nil]; exact h.pick [0, 0]) ⟨rfl, rfl, rfl, rfl, rfl, trivial⟩ ?_
    rintro ⟨i, n, hd⟩ τ1 ⟨hi, hn, hall⟩
    dsimp only at hi hn hall
    refine hRe [(0, .int .i64 vn), (9, .slice hd.1 n hd.2), (31, .slice az nz cz), (32, .int .i64 (nz : Int)), (33, .int .i64 (i : Int))] [OwnI 2 hd.1 n hd.2 (([q, d].flatten ++ (z.take i).flatten)), blk bkl1 23 [.slice aq nq cq, .slice ad nd cd]] rfl rfl ?_
    refine hSeq ?_
    refine hReg (sq 0 sz) (by kernel_rfl) ?_
    refine lss rfl rfl rfl rfl ?_
    refine rNil ?_
    refine qSeq rfl ?_
    refine hSeq ?_
    refine hIfD rfl (fun c4 => ?_) (fun c4 => ?_)
    ·
     replace c4 : (i : Int) < (nz : Int) := c4
     have hiz : i < z.length := by omega
     have hfz2 := Iso.flat_le z i
     have hvh : Hd.vHole vn ≤ 4 := by unfold Hd.vHole; split <;> omega
     have hlz : ([q, d].flatten ++ (z.take i).flatten).length = q.length + d.length + (z.take i).flatten.length := by rw [List.length_append, hfl]
     refine hSkip ?_
     refine qSeq rfl ?_
     refine hSeq ?_
     refine hBlk ?_
     refine hSeq ?_
     refine hReg (sq 0 (sl 1 (sq 2 sz))) (by kernel_rfl) ?_
     refine ixRl (zn := i) (z.getD i []) el22 (Kn.drop (k := 2) kz) rfl rfl rfl rfl (by omega) (by omega) rfl (nth [] (by omega)) ?_
     intro be2 oe2 e2
     refine ldl Try.isAgg23 (Kn.fld e2 0 rfl) trv rfl rfl rfl ?_
     refine asS rfl rfl rfl ?_
     refine rNil ?_
     refine qSeq rfl ?_
     refine hSeq ?_
     refine hSeq ?_
     refine hReg (sq 0 (sq 1 (sq 2 (sl 3 (sq 4 (sq 5 sz)))))) (by kernel_rfl) ?_
     refine mvS rfl rfl rfl ?_
     refine lenS Try.runUnderlying23 rfl rfl rfl ?_
     refine mvI rfl rfl rfl ?_
     refine callP (v := .agg #[.int .i64 (Hd.vHole vn), .int .i64 (Hd.vLeast vn), .int .i64 2, .int .i64 5, .bool true, .int .i64 (Hd.vLow vn)]) Try.call108 trv rfl rfl (fun w hs => impl_standardVariant_c _ w (by omega)) ?_
     refine fldV (vs := [.int .i64 (Hd.vHole vn), .int .i64 (Hd.vLeast vn), .int .i64 2, .int .i64 5, .bool true, .int .i64 (Hd.vLow vn)]) (v := .int .i64 (Hd.vHole vn)) (fun w => by simp [Instr.field, part, Try.runUnderlying109, Try.isAgg2, Try.sizeOf2, asAgg]) rfl rfl rfl ?_
     refine neq rfl rfl rfl rfl ?_
     refine rNil ?_
     refine qSeq rfl ?_
     refine hIfD rfl (fun c5 => ?_) (fun c5 => ?_)
     ·
      replace c5 : (((z.getD i []).length : Nat) : Int) ≠ (Hd.vHole vn) := c5
      refine hSeq ?_
      refine hReg (sq 0 sz) (by kernel_rfl) ?_
      refine asB rfl rfl rfl ?_
      refine rNil ?_
      refine qSeq rfl ?_
      refine hRet ?_
      exact fun w hs => ⟨[.bool false], ⟨rfl, trivial⟩, ⟨bB (by first | exact Hd.isDeal_no1 (by omega) | exact Hd.isDeal_no2 hiz (by omega)), hs.upd⟩⟩
     ·
      replace c5 : ¬ ((((z.getD i []).length : Nat) : Int) ≠ (Hd.vHole vn)) := c5
      have hhl : ((z.getD i []).length : Int) = Hd.vHole vn := by omega
      refine hSkip ?_
      refine qSeq rfl ?_
      refine hReg (sq 0 (sq 1 (sl 2 (sq 3 sz)))) (by kernel_rfl) ?_
      refine mvS rfl rfl rfl ?_
      refine mvS rfl rfl rfl ?_
      refine aplL (N := n) (ys := (z.getD i [])) 0 rfl (Kn.drop (k := 2) ((Kn.imp kz fun _ h => h.kidM (nth [] (by omega))))) mk23 trv1 rfl rfl rfl rfl (by omega) ?_
      intro aq3 cq3
      refine asS rfl rfl rfl ?_
      refine rNil ?_
      refine qSeq rfl ?_
      refine hReg (sq 0 (sq 1 sz)) (by kernel_rfl) ?_
      refine add rfl rfl rfl rfl (by omega) ?_
      refine mvI rfl rfl rfl ?_
      refine rNil ?_
      rw [List.append_assoc, ← Iso.flat_snoc (by omega)]
      exact qNext rfl ((i + 1, (n + (z.getD i []).length), (aq3, cq3))) (by dsimp only; omega) ⟨by dsimp only; omega, by dsimp only; rw [Iso.flat_snoc (by omega), ← List.append_assoc, List.length_append, ← hn], fun x hx => by rw [List.take_succ_eq_append_getElem hiz] at hx; rcases List.mem_append.1 hx with h | h; exact hall x h; rw [List.mem_singleton.1 h]; rw [List.getD_eq_getElem?_getD, List.getElem?_eq_getElem hiz] at hhl; exact hhl⟩ ⟨rfl, rfl, rfl, rfl, rfl, trivial⟩ (fun _ h => h.pick [0, 0])
    ·
     replace c4 : ¬ ((i : Int) < (nz : Int)) := c4
     have hte : z.take i = z := List.take_of_length_le (by omega)
     refine hExit rfl ?_
     refine qSeq rfl ?_
     refine hSeq ?_
     refine hReg (sq 0 (sl 1 (sq 2 sz))) (by kernel_rfl) ?_
     refine mvS rfl rfl rfl ?_
     refine callP (v := .bool ((Iso.areB (([q, d].flatten ++ (z.take i).flatten))))) Try.call72 trv rfl rfl (fun w hs => impl_AreCards_c _ n hd.2 _ w (OwnI.rd (hs.at_ 0 rfl))) ?_
     refine asB rfl rfl rfl ?_
     refine rNil ?_
     refine qSeq rfl ?_
     refine hRet ?_
     exact fun w hs => ⟨[.bool ((Iso.areB (([q, d].flatten ++ (z.take i).flatten))))], ⟨rfl, trivial⟩, ⟨bB (by rw [hte]; exact Hd.isDeal_end (by omega) (hte ▸ hall)), hs.upd⟩⟩
end Go.Proofs.Yteaahdakammffaa
/- Contracts of awards. Their conditions stand in each. -/
namespace Go.Proofs.Yteaahdakammffaa
open Go Go.RowKit V
set_option linter.unusedVariables false
set_option linter.unusedSimpArgs false
set_option maxRecDepth 100000
theorem impl_highWinners_c (az : Option Addr) (nz : Nat) (cz : Nat) (z : List Int) (avs : Option Addr) (nvs : Nat) (cvs : Nat) (vs : List Int) (w : World) (rz : RdI az nz z w) (rvs : RdI avs nvs vs w) (hw : ∀ x ∈ z, 0 ≤ x ∧ x < vs.length) (hzl : z.length ≤ 1000) (hp : ∀ x ∈ z, 0 ≤ vs.getD x.toNat 0) :
  Calls Try.prog 144 #[.slice az nz cz, .slice avs nvs cvs] w (Ret fun v w' => ∃ x : Option Addr × Nat × Nat × List Int, v = .slice x.1 x.2.1 x.2.2.1 ∧ (x.2.2.2 = (Hd.bst true z vs).1) ∧ Sep w none_ [OwnI 2 x.1 x.2.1 x.2.2.1 x.2.2.2] w') := by
 have kz : Kn w none_ [] (RdI az nz z) := fun w' hs => rz.ext hs.upd
 have lz : z.length = nz := rz.1
 have mz : nz ≤ 9223372036854775807 := rz.2.1
 have kvs : Kn w none_ [] (RdI avs nvs vs) := fun w' hs => rvs.ext hs.upd
 have lvs : vs.length = nvs := rvs.1
 have mvs : nvs ≤ 9223372036854775807 := rvs.2.1
 refine fn (M := none_) (rs := [.tmp 4]) Try.func144 rfl Try.ntmps144 rfl rfl (Sep.start _ _) ?_
 refine hSeq ?_
 refine hReg (sq 0 sz) (by kernel_rfl) ?_
 refine asS rfl rfl rfl ?_
 refine rNil ?_
 refine qSeq rfl ?_
 refine hSeq ?_
 refine hReg (sq 0 sz) (by kernel_rfl) ?_
 refine asS rfl rfl rfl ?_
 refine rNil ?_
 refine qSeq rfl ?_
 refine hSeq ?_
 refine hReg (sq 0 sz) (by kernel_rfl) ?_
 refine asI rfl rfl rfl ?_
 refine rNil ?_
 refine qSeq rfl ?_
 refine hSeq ?_
 refine hSeq ?_
 refine hReg (sq 0 (sq 1 (sq 2 sz))) (by kernel_rfl) ?_
 refine mvS rfl rfl rfl ?_
 refine lenS Try.runUnderlying23 rfl rfl rfl ?_
 refine mvI rfl rfl rfl ?_
 refine rNil ?_
 refine qSeq rfl ?_
 refine hBlk ?_
 refine hPieces (fun _ h => Sep.nilI 2 h) ?_
 refine hLoop (α := Nat × Nat × Hd) (fun x => x.1 ≤ nz ∧ x.2.1 = (Hd.bst true (z.take x.1) vs).1.length) (fun x => nz - x.1) (fun x => [OwnI 2 x.2.2.1 x.2.1 x.2.2.2 ((Hd.bst true (z.take x.1) vs).1)]) (fun x => [(1, .slice avs nvs cvs), (5, .slice x.2.2.1 x.2.1 x.2.2.2), (6, .int .i64 ((max (Hd.bst true (z.take x.1) vs).2 0))), (9, .slice az nz cz), (10, .int .i64 (nz : Int)), (11, .int .i64 (x.1 : Int))]) ((0, 0, (none, 0))) ⟨Nat.zero_le _, rfl⟩ (fun _ h => h.pick [0]) ⟨rfl, rfl, rfl, rfl, rfl, rfl, trivial⟩ ?_
 rintro ⟨i, q, hd⟩ τ1 ⟨hi, hq⟩
 dsimp only at hi hq
 refine hRe [(1, .slice avs nvs cvs), (5, .slice hd.1 q hd.2), (6, .int .i64 ((max (Hd.bst true (z.take i) vs).2 0))), (9, .slice az nz cz), (10, .int .i64 (nz : Int)), (11, .int .i64 (i : Int))] [OwnI 2 hd.1 q hd.2 ((Hd.bst true (z.take i) vs).1)] rfl rfl ?_
 refine hSeq ?_
 refine hReg (sq 0 sz) (by kernel_rfl) ?_
 refine lss rfl rfl rfl rfl ?_
 refine rNil ?_
 refine qSeq rfl ?_
 refine hSeq ?_
 refine hIfD rfl (fun c1 => ?_) (fun c1 => ?_)
 ·
  replace c1 : (i : Int) < (nz : Int) := c1
  have hiz : i < z.length := by omega
  have hx := hw _ (Math.getD_mem 0 hiz)
  have hvp := hp _ (Math.getD_mem 0 hiz)
  have hbl := (Hd.bst_inv true vs (z.take i)).2
  rw [List.length_take] at hbl
  refine hSkip ?_
  refine qSeq rfl ?_
  refine hSeq ?_
  refine hBlk ?_
  refine hSeq ?_
  refine hReg (sq 0 (sl 1 (sq 2 sz))) (by kernel_rfl) ?_
  refine ixIl (zn := i) el23 (Kn.drop (k := 1) kz) rfl rfl rfl rfl (by omega) (by omega) rfl ?_
  intro ae1 e1
  refine ldl Try.isAgg2 (e1) trv rfl rfl rfl ?_
  refine asI rfl rfl rfl ?_
  refine rNil ?_
  refine qSeq rfl ?_
  refine hSeq ?_
  refine hSeq ?_
  refine hReg (sq 0 (sq 1 (sq 2 (sl 3 (sq 4 (sq 5 sz)))))) (by kernel_rfl) ?_
  refine mvS rfl rfl rfl ?_
  refine mvI rfl rfl rfl ?_
  refine ixIl (zn := ((z.getD i 0)).toNat) el23 (Kn.drop (k := 1) kvs) rfl rfl rfl rfl (by omega) (by omega) rfl ?_
  intro ae2 e2
  refine ldl Try.isAgg2 (e2) trv rfl rfl rfl ?_
  refine mvI rfl rfl rfl ?_
  refine gtr rfl rfl rfl rfl ?_
  refine rNil ?_
  refine qSeq rfl ?_
  refine hIfD rfl (fun c2 => ?_) (fun c2 => ?_)
  ·
   replace c2 : (max (Hd.bst true (z.take i) vs).2 0) < (vs.getD (((z.getD i 0)).toNat) 0) := c2
   have hbe := Hd.hw_hit hiz c2
   refine hDraw (Ls := []) (by kernel_rfl) (sq 0 (sq 1 (sq 2 (sq 3 (sq 4 (sq 5 sz)))))) (by kernel_rfl) (.cons _ .slnil) ?_
   refine mvS rfl rfl rfl ?_
   refine mvI rfl rfl rfl ?_
   refine ixIq (zn := ((z.getD i 0)).toNat) el23 (kvs) (fun _ h => h.pick []) rfl rfl rfl rfl (by omega) (by omega) rfl ?_
   intro ae3 e3
   refine ldq Try.isAgg2 (e3) rfl rfl rfl ?_
   refine asS rfl rfl rfl ?_
   refine asI rfl rfl rfl ?_
   refine rNil ?_
   refine qSeq rfl ?_
   refine hSeq ?_
   refine hReg (sq 0 (sq 1 (sq 2 (sl 3 (sq 4 (sq 5 sz)))))) (by kernel_rfl) ?_
   refine mvS rfl rfl rfl ?_
   refine mvI rfl rfl rfl ?_
   refine ixIl (zn := ((z.getD i 0)).toNat) el23 (Kn.drop (k := 1) kvs) rfl rfl rfl rfl (by omega) (by omega) rfl ?_
   intro ae4 e4
   refine ldl Try.isAgg2 (e4) trv rfl rfl rfl ?_
   refine mvI rfl rfl rfl ?_
   refine eql rfl rfl rfl rfl ?_
   refine rNil ?_
   refine qSeq rfl ?_
   refine hIfD rfl (fun c3 => ?_) (fun c3 => ?_)
   ·
    replace c3 : (vs.getD (((z.getD i 0)).toNat) 0) = (vs.getD (((z.getD i 0)).toNat) 0) := c3
    refine hReg (sq 0 (sq 1 (sl 2 (sl 3 (sq 4 sz))))) (by kernel_rfl) ?_
    refine mvS rfl rfl rfl ?_
    refine mvI rfl rfl rfl ?_
    refine bsl trv1 rfl rfl rfl (bsl23_1 (.int .i64 _) rfl) (fun bkl2 hbkl2 => ?_)
    refine rPieces (fun _ h => Sep.nilI 2 h) ?_
    refine aplI (N := 0) (x := (z.getD i 0)) 0 1 rfl rfl mk23 trv1 rfl rfl rfl rfl (by omega) ?_
    intro aq5 cq5
    refine asS rfl rfl rfl ?_
    refine rNil ?_
    refine qSeq rfl ?_
    refine hReg (sq 0 (sq 1 sz)) (by kernel_rfl) ?_
    refine add rfl rfl rfl rfl (by omega) ?_
    refine mvI rfl rfl rfl ?_
    refine rNil ?_
    rw [show ([] ++ [(z.getD i 0)]) = (Hd.bst true (z.take (i + 1)) vs).1 from by rw [hbe]; rfl]
    exact qNext rfl ((i + 1, (0 + 1), (aq5, cq5))) (by dsimp only; omega) ⟨by dsimp only; omega, by dsimp only; rw [hbe]; first | omega | rfl | (simp; omega)⟩ ((by repeat first | exact trivial | refine ⟨by first | rfl | exact vI (by rw [hbe] <;> first | omega | rfl), ?_⟩)) (fun _ h => h.pick [0])
   ·
    replace c3 : ¬ ((vs.getD (((z.getD i 0)).toNat) 0) = (vs.getD (((z.getD i 0)).toNat) 0)) := c3
    exact absurd rfl c3
  ·
   replace c2 : ¬ ((max (Hd.bst true (z.take i) vs).2 0) < (vs.getD (((z.getD i 0)).toNat) 0)) := c2
   refine hSkip ?_
   refine qSeq rfl ?_
   refine hSeq ?_
   refine hReg (sq 0 (sq 1 (sq 2 (sl 3 (sq 4 (sq 5 sz)))))) (by kernel_rfl) ?_
   refine mvS rfl rfl rfl ?_
   refine mvI rfl rfl rfl ?_
   refine ixIl (zn := ((z.getD i 0)).toNat) el23 (Kn.drop (k := 1) kvs) rfl rfl rfl rfl (by omega) (by omega) rfl ?_
   intro ae6 e6
   refine ldl Try.isAgg2 (e6) trv rfl rfl rfl ?_
   refine mvI rfl rfl rfl ?_
   refine eql rfl rfl rfl rfl ?_
   refine rNil ?_
   refine qSeq rfl ?_
   refine hIfD rfl (fun c4 => ?_) (fun c4 => ?_)
   ·
    replace c4 : (vs.getD (((z.getD i 0)).toNat) 0) = (max (Hd.bst true (z.take i) vs).2 0) := c4
    have hbe := Hd.hw_tie hiz c4
    refine hReg (sq 0 (sq 1 (sl 2 (sl 3 (sq 4 sz))))) (by kernel_rfl) ?_
    refine mvS rfl rfl rfl ?_
    refine mvI rfl rfl rfl ?_
    refine bsl trv1 rfl rfl rfl (bsl23_1 (.int .i64 _) rfl) (fun bkl4 hbkl4 => ?_)
    refine aplI (N := q) (x := (z.getD i 0)) 1 0 rfl rfl mk23 trv1 rfl rfl rfl rfl (by omega) ?_
    intro aq7 cq7
    refine asS rfl rfl rfl ?_
    refine rNil ?_
    refine qSeq rfl ?_
    refine hReg (sq 0 (sq 1 sz)) (by kernel_rfl) ?_
    refine add rfl rfl rfl rfl (by omega) ?_
    refine mvI rfl rfl rfl ?_
    refine rNil ?_
    rw [show ((Hd.bst true (z.take i) vs).1 ++ [(z.getD i 0)]) = (Hd.bst true (z.take (i + 1)) vs).1 from by rw [hbe]]
    exact qNext rfl ((i + 1, (q + 1), (aq7, cq7))) (by dsimp only; omega) ⟨by dsimp only; omega, by dsimp only; rw [hbe]; first | omega | rfl | (simp; omega)⟩ ((by repeat first | exact trivial | refine ⟨by first | rfl | exact vI (by rw [hbe] <;> first | omega | rfl), ?_⟩)) (fun _ h => h.pick [1])
   ·
    replace c4 : ¬ ((vs.getD (((z.getD i 0)).toNat) 0) = (max (Hd.bst true (z.take i) vs).2 0)) := c4
    have hbe := Hd.hw_no hiz hvp c2 c4
    refine hSkip ?_
    refine qSeq rfl ?_
    refine hReg (sq 0 (sq 1 sz)) (by kernel_rfl) ?_
    refine add rfl rfl rfl rfl (by omega) ?_
    refine mvI rfl rfl rfl ?_
    refine rNil ?_
    rw [show (Hd.bst true (z.take i) vs).1 = (Hd.bst true (z.take (i + 1)) vs).1 from by rw [hbe]]
    exact qNext rfl ((i + 1, q, (hd.1, hd.2))) (by dsimp only; omega) ⟨by dsimp only; omega, by dsimp only; rw [hbe]; first | omega | rfl | (simp; omega)⟩ ((by repeat first | exact trivial | refine ⟨by first | rfl | exact vI (by rw [hbe] <;> first | omega | rfl), ?_⟩)) (fun _ h => h.pick [0])
 ·
  replace c1 : ¬ ((i : Int) < (nz : Int)) := c1
  have hte : z.take i = z := List.take_of_length_le (by omega)
  refine hExit rfl ?_
  refine qSeq rfl ?_
  refine hSeq ?_
  refine hReg (sq 0 (sq 1 sz)) (by kernel_rfl) ?_
  refine mvS rfl rfl rfl ?_
  refine asS rfl rfl rfl ?_
  refine rNil ?_
  refine qSeq rfl ?_
  refine hRet ?_
  exact fun w hs => ⟨[.slice hd.1 q hd.2], ⟨rfl, trivial⟩, ⟨(hd.1, q, hd.2, (Hd.bst true (z.take i) vs).1), rfl, by rw [hte], hs.pick [0]⟩⟩
theorem impl_lowWinners_c (az : Option Addr) (nz : Nat) (cz : Nat) (z : List Int) (avs : Option Addr) (nvs : Nat) (cvs : Nat) (vs : List Int) (w : World) (rz : RdI az nz z w) (rvs : RdI avs nvs vs w) (hw : ∀ x ∈ z, 0 ≤ x ∧ x < vs.length) (hzl : z.length ≤ 1000) :
  Calls Try.prog 145 #[.slice az nz cz, .slice avs nvs cvs] w (Ret fun v w' => ∃ x : Option Addr × Nat × Nat × List Int, v = .slice x.1 x.2.1 x.2.2.1 ∧ (x.2.2.2 = (Hd.bst false z vs).1) ∧ Sep w none_ [OwnI 2 x.1 x.2.1 x.2.2.1 x.2.2.2] w') := by
 have kz : Kn w none_ [] (RdI az nz z) := fun w' hs => rz.ext hs.upd
 have lz : z.length = nz := rz.1
 have mz : nz ≤ 9223372036854775807 := rz.2.1
 have kvs : Kn w none_ [] (RdI avs nvs vs) := fun w' hs => rvs.ext hs.upd
 have lvs : vs.length = nvs := rvs.1
 have mvs : nvs ≤ 9223372036854775807 := rvs.2.1
 refine fn (M := none_) (rs := [.tmp 4]) Try.func145 rfl Try.ntmps145 rfl rfl (Sep.start _ _) ?_
 refine hSeq ?_
 refine hReg (sq 0 sz) (by kernel_rfl) ?_
 refine asS rfl rfl rfl ?_
 refine rNil ?_
 refine qSeq rfl ?_
 refine hSeq ?_
 refine hReg (sq 0 sz) (by kernel_rfl) ?_
 refine asS rfl rfl rfl ?_
 refine rNil ?_
 refine qSeq rfl ?_
 refine hSeq ?_
 refine hReg (sq 0 sz) (by kernel_rfl) ?_
 refine asI rfl rfl rfl ?_
 refine rNil ?_
 refine qSeq rfl ?_
 refine hSeq ?_
 refine hSeq ?_
 refine hReg (sq 0 (sq 1 (sq 2 sz))) (by kernel_rfl) ?_
 refine mvS rfl rfl rfl ?_
 refine lenS Try.runUnderlying23 rfl rfl rfl ?_
 refine mvI rfl rfl rfl ?_
 refine rNil ?_
 refine qSeq rfl ?_
 refine hBlk ?_
 refine hPieces (fun _ h => Sep.nilI 2 h) ?_
 refine hLoop (α := Nat × Nat × Hd) (fun x => x.1 ≤ nz ∧ x.2.1 = (Hd.bst false (z.take x.1) vs).1.length) (fun x => nz - x.1) (fun x => [OwnI 2 x.2.2.1 x.2.1 x.2.2.2 ((Hd.bst false (z.take x.1) vs).1)]) (fun x => [(1, .slice avs nvs cvs), (5, .slice x.2.2.1 x.2.1 x.2.2.2), (6, .int .i64 ((Hd.bst false (z.take x.1) vs).2)), (9, .slice az nz cz), (10, .int .i64 (nz : Int)), (11, .int .i64 (x.1 : Int))]) ((0, 0, (none, 0))) ⟨Nat.zero_le _, rfl⟩ (fun _ h => h.pick [0]) ⟨rfl, rfl, rfl, rfl, rfl, rfl, trivial⟩ ?_
 rintro ⟨i, q, hd⟩ τ1 ⟨hi, hq⟩
 dsimp only at hi hq
 refine hRe [(1, .slice avs nvs cvs), (5, .slice hd.1 q hd.2), (6, .int .i64 ((Hd.bst false (z.take i) vs).2)), (9, .slice az nz cz), (10, .int .i64 (nz : Int)), (11, .int .i64 (i : Int))] [OwnI 2 hd.1 q hd.2 ((Hd.bst false (z.take i) vs).1)] rfl rfl ?_
 refine hSeq ?_
 refine hReg (sq 0 sz) (by kernel_rfl) ?_
 refine lss rfl rfl rfl rfl ?_
 refine rNil ?_
 refine qSeq rfl ?_
 refine hSeq ?_
 refine hIfD rfl (fun c1 => ?_) (fun c1 => ?_)
 ·
  replace c1 : (i : Int) < (nz : Int) := c1
  have hiz : i < z.length := by omega
  have hx := hw _ (Math.getD_mem 0 hiz)
  have hbl := (Hd.bst_inv false vs (z.take i)).2
  rw [List.length_take] at hbl
  refine hSkip ?_
  refine qSeq rfl ?_
  refine hSeq ?_
  refine hBlk ?_
  refine hSeq ?_
  refine hReg (sq 0 (sl 1 (sq 2 sz))) (by kernel_rfl) ?_
  refine ixIl (zn := i) el23 (Kn.drop (k := 1) kz) rfl rfl rfl rfl (by omega) (by omega) rfl ?_
  intro ae1 e1
  refine ldl Try.isAgg2 (e1) trv rfl rfl rfl ?_
  refine asI rfl rfl rfl ?_
  refine rNil ?_
  refine qSeq rfl ?_
  refine hSeq ?_
  refine hSeq ?_
  refine hReg (sq 0 (sq 1 (sq 2 (sl 3 (sq 4 sz))))) (by kernel_rfl) ?_
  refine mvS rfl rfl rfl ?_
  refine mvI rfl rfl rfl ?_
  refine ixIl (zn := ((z.getD i 0)).toNat) el23 (Kn.drop (k := 1) kvs) rfl rfl rfl rfl (by omega) (by omega) rfl ?_
  intro ae2 e2
  refine ldl Try.isAgg2 (e2) trv rfl rfl rfl ?_
  refine lss rfl rfl rfl rfl ?_
  refine rNil ?_
  refine qSeq rfl ?_
  refine hIfD rfl (fun c2 => ?_) (fun c2 => ?_)
  ·
   replace c2 : (vs.getD (((z.getD i 0)).toNat) 0) < 0 := c2
   have hbe := Hd.lw_neg hiz c2
   refine hExit rfl ?_
   refine qSeq rfl ?_
   refine hReg (sq 0 (sq 1 sz)) (by kernel_rfl) ?_
   refine add rfl rfl rfl rfl (by omega) ?_
   refine mvI rfl rfl rfl ?_
   refine rNil ?_
   rw [show (Hd.bst false (z.take i) vs).1 = (Hd.bst false (z.take (i + 1)) vs).1 from by rw [hbe]]
   exact qNext rfl ((i + 1, q, (hd.1, hd.2))) (by dsimp only; omega) ⟨by dsimp only; omega, by dsimp only; rw [hbe]; first | omega | rfl | (simp; omega)⟩ ((by repeat first | exact trivial | refine ⟨by first | rfl | exact vI (by rw [hbe]), ?_⟩)) (fun _ h => h.pick [0])
  ·
   replace c2 : ¬ ((vs.getD (((z.getD i 0)).toNat) 0) < 0) := c2
   refine hSkip ?_
   refine qSeq rfl ?_
   refine hSeq ?_
   refine hSeq ?_
   refine hReg (sq 0 (sq 1 (sq 2 (sq 3 (sq 4 (sq 5 (sl 6 (sq 7 (sq 8 (sq 9 sz)))))))))) (by kernel_rfl) ?_
   refine mvI rfl rfl rfl ?_
   refine lss rfl rfl rfl rfl ?_
   refine mvB rfl rfl rfl ?_
   refine rBoolD (d := 22) rfl (fun g3 => ?_) (fun g3 => ?_)
   ·
    replace g3 : (Hd.bst false (z.take i) vs).2 < 0 := g3
    have hbe := Hd.lw_hit hiz c2 (Or.inl g3)
    refine rSkipQ rfl rfl ?_
    refine rSkipQ rfl rfl ?_
    refine rSkipQ rfl rfl ?_
    refine rSkipL trv rfl rfl ?_
    refine rSkipQ rfl rfl ?_
    refine rSkipQ rfl rfl ?_
    refine pickB rfl rfl rfl rfl ?_
    refine rNil ?_
    refine qSeq rfl ?_
    refine hIfT rfl ?_
    refine hDraw (Ls := []) (by kernel_rfl) (sq 0 (sq 1 (sq 2 (sq 3 (sq 4 (sq 5 sz)))))) (by kernel_rfl) (.cons _ .slnil) ?_
    refine mvS rfl rfl rfl ?_
    refine mvI rfl rfl rfl ?_
    refine ixIq (zn := ((z.getD i 0)).toNat) el23 (kvs) (fun _ h => h.pick []) rfl rfl rfl rfl (by omega) (by omega) rfl ?_
    intro ae3 e3
    refine ldq Try.isAgg2 (e3) rfl rfl rfl ?_
    refine asS rfl rfl rfl ?_
    refine asI rfl rfl rfl ?_
    refine rNil ?_
    refine qSeq rfl ?_
    refine hSeq ?_
    refine hReg (sq 0 (sq 1 (sq 2 (sl 3 (sq 4 (sq 5 sz)))))) (by kernel_rfl) ?_
    refine mvS rfl rfl rfl ?_
    refine mvI rfl rfl rfl ?_
    refine ixIl (zn := ((z.getD i 0)).toNat) el23 (Kn.drop (k := 1) kvs) rfl rfl rfl rfl (by omega) (by omega) rfl ?_
    intro ae4 e4
    refine ldl Try.isAgg2 (e4) trv rfl rfl rfl ?_
    refine mvI rfl rfl rfl ?_
    refine eql rfl rfl rfl rfl ?_
    refine rNil ?_
    refine qSeq rfl ?_
    refine hIfD rfl (fun c4 => ?_) (fun c4 => ?_)
    ·
     replace c4 : (vs.getD (((z.getD i 0)).toNat) 0) = (vs.getD (((z.getD i 0)).toNat) 0) := c4
     refine hReg (sq 0 (sq 1 (sl 2 (sl 3 (sq 4 sz))))) (by kernel_rfl) ?_
     refine mvS rfl rfl rfl ?_
     refine mvI rfl rfl rfl ?_
     refine bsl trv1 rfl rfl rfl (bsl23_1 (.int .i64 _) rfl) (fun bkl2 hbkl2 => ?_)
     refine rPieces (fun _ h => Sep.nilI 2 h) ?_
     refine aplI (N := 0) (x := (z.getD i 0)) 0 1 rfl rfl mk23 trv1 rfl rfl rfl rfl (by omega) ?_
     intro aq5 cq5
     refine asS rfl rfl rfl ?_
     refine rNil ?_
     refine qSeq rfl ?_
     refine hReg (sq 0 (sq 1 sz)) (by kernel_rfl) ?_
     refine add rfl rfl rfl rfl (by omega) ?_
     refine mvI rfl rfl rfl ?_
     refine rNil ?_
     rw [show ([] ++ [(z.getD i 0)]) = (Hd.bst false (z.take (i + 1)) vs).1 from by rw [hbe]; rfl]
     exact qNext rfl ((i + 1, (0 + 1), (aq5, cq5))) (by dsimp only; omega) ⟨by dsimp only; omega, by dsimp only; rw [hbe]; first | omega | rfl | (simp; omega)⟩ ((by repeat first | exact trivial | refine ⟨by first | rfl | exact vI (by rw [hbe]), ?_⟩)) (fun _ h => h.pick [0])
    ·
     replace c4 : ¬ ((vs.getD (((z.getD i 0)).toNat) 0) = (vs.getD (((z.getD i 0)).toNat) 0)) := c4
     exact absurd rfl c4
   ·
    replace g3 : ¬ ((Hd.bst false (z.take i) vs).2 < 0) := g3
    refine mvS rfl rfl rfl ?_
    refine mvI rfl rfl rfl ?_
    refine ixIl (zn := ((z.getD i 0)).toNat) el23 (Kn.drop (k := 1) kvs) rfl rfl rfl rfl (by omega) (by omega) rfl ?_
    intro ae6 e6
    refine ldl Try.isAgg2 (e6) trv rfl rfl rfl ?_
    refine mvI rfl rfl rfl ?_
    refine lss rfl rfl rfl rfl ?_
    refine pickB rfl rfl rfl rfl ?_
    refine rNil ?_
    refine qSeq rfl ?_
    refine hIfD rfl (fun c5 => ?_) (fun c5 => ?_)
    ·
     replace c5 : (vs.getD (((z.getD i 0)).toNat) 0) < (Hd.bst false (z.take i) vs).2 := c5
     have hbe := Hd.lw_hit hiz c2 (Or.inr c5)
     refine hDraw (Ls := []) (by kernel_rfl) (sq 0 (sq 1 (sq 2 (sq 3 (sq 4 (sq 5 sz)))))) (by kernel_rfl) (.cons _ .slnil) ?_
     refine mvS rfl rfl rfl ?_
     refine mvI rfl rfl rfl ?_
     refine ixIq (zn := ((z.getD i 0)).toNat) el23 (kvs) (fun _ h => h.pick []) rfl rfl rfl rfl (by omega) (by omega) rfl ?_
     intro ae7 e7
     refine ldq Try.isAgg2 (e7) rfl rfl rfl ?_
     refine asS rfl rfl rfl ?_
     refine asI rfl rfl rfl ?_
     refine rNil ?_
     refine qSeq rfl ?_
     refine hSeq ?_
     refine hReg (sq 0 (sq 1 (sq 2 (sl 3 (sq 4 (sq 5 sz)))))) (by kernel_rfl) ?_
     refine mvS rfl rfl rfl ?_
     refine mvI rfl rfl rfl ?_
     refine ixIl (zn := ((z.getD i 0)).toNat) el23 (Kn.drop (k := 1) kvs) rfl rfl rfl rfl (by omega) (by omega) rfl ?_
     intro ae8 e8
     refine ldl Try.isAgg2 (e8) trv rfl rfl rfl ?_
     refine mvI rfl rfl rfl ?_
     refine eql rfl rfl rfl rfl ?_
     refine rNil ?_
     refine qSeq rfl ?_
     refine hIfD rfl (fun c6 => ?_) (fun c6 => ?_)
     ·
      replace c6 : (vs.getD (((z.getD i 0)).toNat) 0) = (vs.getD (((z.getD i 0)).toNat) 0) := c6
      refine hReg (sq 0 (sq 1 (sl 2 (sl 3 (sq 4 sz))))) (by kernel_rfl) ?_
      refine mvS rfl rfl rfl ?_
      refine mvI rfl rfl rfl ?_
      refine bsl trv1 rfl rfl rfl (bsl23_1 (.int .i64 _) rfl) (fun bkl4 hbkl4 => ?_)
      refine rPieces (fun _ h => Sep.nilI 2 h) ?_
      refine aplI (N := 0) (x := (z.getD i 0)) 0 1 rfl rfl mk23 trv1 rfl rfl rfl rfl (by omega) ?_
      intro aq9 cq9
      refine asS rfl rfl rfl ?_
      refine rNil ?_
      refine qSeq rfl ?_
      refine hReg (sq 0 (sq 1 sz)) (by kernel_rfl) ?_
      refine add rfl rfl rfl rfl (by omega) ?_
      refine mvI rfl rfl rfl ?_
      refine rNil ?_
      rw [show ([] ++ [(z.getD i 0)]) = (Hd.bst false (z.take (i + 1)) vs).1 from by rw [hbe]; rfl]
      exact qNext rfl ((i + 1, (0 + 1), (aq9, cq9))) (by dsimp only; omega) ⟨by dsimp only; omega, by dsimp only; rw [hbe]; first | omega | rfl | (simp; omega)⟩ ((by repeat first | exact trivial | refine ⟨by first | rfl | exact vI (by rw [hbe]), ?_⟩)) (fun _ h => h.pick [0])
     ·
      replace c6 : ¬ ((vs.getD (((z.getD i 0)).toNat) 0) = (vs.getD (((z.getD i 0)).toNat) 0)) := c6
      exact absurd rfl c6
    ·
     replace c5 : ¬ ((vs.getD (((z.getD i 0)).toNat) 0) < (Hd.bst false (z.take i) vs).2) := c5
     refine hSkip ?_
     refine qSeq rfl ?_
     refine hSeq ?_
     refine hReg (sq 0 (sq 1 (sq 2 (sl 3 (sq 4 (sq 5 sz)))))) (by kernel_rfl) ?_
     refine mvS rfl rfl rfl ?_
     refine mvI rfl rfl rfl ?_
     refine ixIl (zn := ((z.getD i 0)).toNat) el23 (Kn.drop (k := 1) kvs) rfl rfl rfl rfl (by omega) (by omega) rfl ?_
     intro ae10 e10
     refine ldl Try.isAgg2 (e10) trv rfl rfl rfl ?_
     refine mvI rfl rfl rfl ?_
     refine eql rfl rfl rfl rfl ?_
     refine rNil ?_
     refine qSeq rfl ?_
     refine hIfD rfl (fun c7 => ?_) (fun c7 => ?_)
     ·
      replace c7 : (vs.getD (((z.getD i 0)).toNat) 0) = (Hd.bst false (z.take i) vs).2 := c7
      have hbe := Hd.lw_tie hiz c2 c7
      refine hReg (sq 0 (sq 1 (sl 2 (sl 3 (sq 4 sz))))) (by kernel_rfl) ?_
      refine mvS rfl rfl rfl ?_
      refine mvI rfl rfl rfl ?_
      refine bsl trv1 rfl rfl rfl (bsl23_1 (.int .i64 _) rfl) (fun bkl6 hbkl6 => ?_)
      refine aplI (N := q) (x := (z.getD i 0)) 1 0 rfl rfl mk23 trv1 rfl rfl rfl rfl (by omega) ?_
      intro aq11 cq11
      refine asS rfl rfl rfl ?_
      refine rNil ?_
      refine qSeq rfl ?_
      refine hReg (sq 0 (sq 1 sz)) (by kernel_rfl) ?_
      refine add rfl rfl rfl rfl (by omega) ?_
      refine mvI rfl rfl rfl ?_
      refine rNil ?_
      rw [show ((Hd.bst false (z.take i) vs).1 ++ [(z.getD i 0)]) = (Hd.bst false (z.take (i + 1)) vs).1 from by rw [hbe]]
      exact qNext rfl ((i + 1, (q + 1), (aq11, cq11))) (by dsimp only; omega) ⟨by dsimp only; omega, by dsimp only; rw [hbe]; first | omega | rfl | (simp; omega)⟩ ((by repeat first | exact trivial | refine ⟨by first | rfl | exact vI (by rw [hbe]), ?_⟩)) (fun _ h => h.pick [1])
     ·
      replace c7 : ¬ ((vs.getD (((z.getD i 0)).toNat) 0) = (Hd.bst false (z.take i) vs).2) := c7
      have hbe := Hd.lw_no hiz c2 g3 c5 c7
      refine hSkip ?_
      refine qSeq rfl ?_
      refine hReg (sq 0 (sq 1 sz)) (by kernel_rfl) ?_
      refine add rfl rfl rfl rfl (by omega) ?_
      refine mvI rfl rfl rfl ?_
      refine rNil ?_
      rw [show (Hd.bst false (z.take i) vs).1 = (Hd.bst false (z.take (i + 1)) vs).1 from by rw [hbe]]
      exact qNext rfl ((i + 1, q, (hd.1, hd.2))) (by dsimp only; omega) ⟨by dsimp only; omega, by dsimp only; rw [hbe]; first | omega | rfl | (simp; omega)⟩ ((by repeat first | exact trivial | refine ⟨by first | rfl | exact vI (by rw [hbe]), ?_⟩)) (fun _ h => h.pick [0])
 ·
  replace c1 : ¬ ((i : Int) < (nz : Int)) := c1
  have hte : z.take i = z := List.take_of_length_le (by omega)
  refine hExit rfl ?_
  refine qSeq rfl ?_
  refine hSeq ?_
  refine hReg (sq 0 (sq 1 sz)) (by kernel_rfl) ?_
  refine mvS rfl rfl rfl ?_
  refine asS rfl rfl rfl ?_
  refine rNil ?_
  refine qSeq rfl ?_
  refine hRet ?_
  exact fun w hs => ⟨[.slice hd.1 q hd.2], ⟨rfl, trivial⟩, ⟨(hd.1, q, hd.2, (Hd.bst false (z.take i) vs).1), rfl, by rw [hte], hs.pick [0]⟩⟩
end Go.Proofs.Yteaahdakammffaa
/- Contracts of shares. Their conditions stand in each. -/
namespace Go.Proofs.Yteaahdakammffaa
open Go Go.RowKit V
set_option linter.unusedVariables false
set_option linter.unusedSimpArgs false
set_option maxRecDepth 100000
theorem impl_splitChips_c (am : Int) (az : Option Addr) (nz : Nat) (cz : Nat) (z : List Int) (se : Int) (fi : Int) (w : World) (rz : RdI az nz z w) (hfi : fi = 0) (ham : 0 ≤ am ∧ am ≤ 24) (hdv : am % (z.length : Int) = 0) (hz : 1 ≤ z.length ∧ z.length ≤ 4) (hse : 1 ≤ se ∧ se ≤ 4) :
  Calls Try.prog 143 #[.int .i64 am, .slice az nz cz, .int .i64 se, .int .i64 fi] w (Ret fun v w' => ∃ x : Option Addr × Nat × Nat × List Int, v = .slice x.1 x.2.1 x.2.2.1 ∧ (x.2.2.2 = Hd.split am z se.toNat) ∧ Sep w none_ [OwnI 2 x.1 x.2.1 x.2.2.1 x.2.2.2] w') := by
 have kz : Kn w none_ [] (RdI az nz z) := fun w' hs => rz.ext hs.upd
 have lz : z.length = nz := rz.1
 have mz : nz ≤ 9223372036854775807 := rz.2.1
 subst hfi
 rw [lz] at hdv
 refine fn (M := none_) (rs := [.tmp 8]) Try.func143 rfl Try.ntmps143 rfl rfl (Sep.start _ _) ?_
 refine hSeq ?_
 refine hReg (sq 0 sz) (by kernel_rfl) ?_
 refine asS rfl rfl rfl ?_
 refine rNil ?_
 refine qSeq rfl ?_
 refine hSeq ?_
 refine hReg (sq 0 (sl 1 (sq 2 sz))) (by kernel_rfl) ?_
 refine mvI rfl rfl rfl ?_
 refine mksI ((se).toNat) mk23 trv1 rfl rfl rfl rfl (by omega) (by omega) (fun bkm1 hbkm1 => ?_)
 refine asS rfl rfl rfl ?_
 refine rNil ?_
 refine qSeq rfl ?_
 refine hSeq ?_
 refine hReg (sq 0 (sq 1 (sq 2 sz))) (by kernel_rfl) ?_
 refine mvS rfl rfl rfl ?_
 refine lenS Try.runUnderlying23 rfl rfl rfl ?_
 refine asI rfl rfl rfl ?_
 refine rNil ?_
 refine qSeq rfl ?_
 refine hSeq ?_
 refine hReg (sq 0 (sq 1 (sq 2 (sq 3 sz)))) (by kernel_rfl) ?_
 refine mvI rfl rfl rfl ?_
 refine mvI rfl rfl rfl ?_
 refine rem rfl rfl rfl rfl (by omega) ?_
 refine asI rfl rfl rfl ?_
 refine rNil ?_
 refine qSeq rfl ?_
 refine hSeq ?_
 refine hSeq ?_
 refine hReg (sq 0 (sq 1 sz)) (by kernel_rfl) ?_
 refine mvI rfl rfl rfl ?_
 refine mvI rfl rfl rfl ?_
 refine rNil ?_
 refine qSeq rfl ?_
 refine hBlk ?_
 refine hLoop (α := Nat) (fun i => i ≤ se.toNat) (fun i => se.toNat - i) (fun i => [OwnI 2 (some ⟨bkm1, 0, none⟩) ((se).toNat) ((se).toNat) (((Hd.split am z se.toNat).take i ++ List.replicate (se.toNat - i) 0))]) (fun i => [(0, .int .i64 am), (1, .slice az nz cz), (2, .int .i64 se), (3, .int .i64 0), (9, .slice (some ⟨bkm1, 0, none⟩) ((se).toNat) ((se).toNat)), (10, .int .i64 (nz : Int)), (11, .int .i64 0), (21, .int .i64 se), (22, .int .i64 (i : Int))]) 0 (Nat.zero_le _) (fun _ h => by rw [← Math.fill_start]; exact h.pick [0]) (by repeat first | exact trivial | refine ⟨by first | rfl | exact vI (by first | exact hdv | omega), ?_⟩) ?_
 rintro i τ1 hi
 refine hSeq ?_
 refine hReg (sq 0 sz) (by kernel_rfl) ?_
 refine lss rfl rfl rfl rfl ?_
 refine rNil ?_
 refine qSeq rfl ?_
 refine hSeq ?_
 refine hIfD rfl (fun c1 => ?_) (fun c1 => ?_)
 ·
  replace c1 : (i : Int) < se := c1
  have hsl := Hd.split_len am z se.toNat
  have hsg := Hd.split_get (am := am) (z := z) (show i < se.toNat by omega)
  have hix0 : (0 + (i : Int)) % se = i := by rw [Int.zero_add, Int.emod_eq_of_lt (by omega) (by omega)]
  have hix : ((0 + (i : Int)) % se).toNat = i := by rw [hix0]; omega
  refine hSkip ?_
  refine qSeq rfl ?_
  refine hSeq ?_
  refine hBlk ?_
  refine hSeq ?_
  refine hReg (sq 0 (sq 1 sz)) (by kernel_rfl) ?_
  refine mvI rfl rfl rfl ?_
  refine asI rfl rfl rfl ?_
  refine rNil ?_
  refine qSeq rfl ?_
  refine hSeq ?_
  refine hReg (sq 0 (sq 1 (sq 2 (sq 3 (sq 4 (sq 5 sz)))))) (by kernel_rfl) ?_
  refine mvI rfl rfl rfl ?_
  refine mvI rfl rfl rfl ?_
  refine add rfl rfl rfl rfl (by omega) ?_
  refine mvI rfl rfl rfl ?_
  refine rem rfl rfl rfl rfl (by omega) ?_
  refine asI rfl rfl rfl ?_
  refine rNil ?_
  refine qSeq rfl ?_
  refine hSeq ?_
  refine hSeq ?_
  refine hReg (sq 0 (sq 1 (sl 2 (sq 3 sz)))) (by kernel_rfl) ?_
  refine mvS rfl rfl rfl ?_
  refine mvI rfl rfl rfl ?_
  refine callP (v := .bool ((z.contains ((((0 + (i : Int))) % se))))) Try.call98 trv rfl rfl (fun w hs => contains_c _ nz cz _ _ w (Kn.drop (k := 1) kz w hs)) ?_
  refine not rfl rfl rfl ?_
  refine rNil ?_
  refine qSeq rfl ?_
  refine hIfN rfl (fun c2 => ?_) (fun c2 => ?_)
  ·
   replace c2 : (z.contains ((((0 + (i : Int))) % se))) = false := c2
   rw [hix0] at c2
   rw [if_neg (by rw [c2]; decide)] at hsg
   refine hExit rfl ?_
   refine qSeq rfl ?_
   refine hReg (sq 0 (sq 1 sz)) (by kernel_rfl) ?_
   refine add rfl rfl rfl rfl (by omega) ?_
   refine mvI rfl rfl rfl ?_
   refine rNil ?_
   first | rw [Hd.fill_skip 0 0 hsl (show i < se.toNat by omega) hsg] | rw [hix, Hd.fill_put 0 0 _ hsl (show i < se.toNat by omega) hsg]
   exact qNext rfl (i + 1) (by omega) (by omega) ⟨rfl, rfl, rfl, rfl, rfl, rfl, rfl, rfl, rfl, trivial⟩ (fun _ h => h.pick [0])
  ·
   replace c2 : (z.contains ((((0 + (i : Int))) % se))) = true := c2
   rw [hix0] at c2
   rw [if_pos c2, lz] at hsg
   refine hSkip ?_
   refine qSeq rfl ?_
   refine hSeq ?_
   refine hReg (sq 0 (sq 1 (sq 2 (sq 3 (sq 4 (sq 5 (sl 6 sz))))))) (by kernel_rfl) ?_
   refine mvS rfl rfl rfl ?_
   refine mvI rfl rfl rfl ?_
   refine mvI rfl rfl rfl ?_
   refine mvI rfl rfl rfl ?_
   refine quo rfl rfl rfl rfl (by omega) ?_
   refine oxI (zn := ((((0 + (i : Int))) % se)).toNat) 0 rfl el23 rfl rfl rfl rfl (by omega) (by omega) rfl ?_
   intro gk1 hgk1
   refine stoI (off := ((((0 + (i : Int))) % se)).toNat) (x := (am / (nz : Int))) 0 rfl hgk1 Try.sizeOf2 trv rfl rfl rfl rfl (by omega) ?_
   refine rNil ?_
   refine qSeq rfl ?_
   refine hSeq ?_
   refine hReg (sq 0 (sq 1 sz)) (by kernel_rfl) ?_
   refine mvI rfl rfl rfl ?_
   refine gtr rfl rfl rfl rfl ?_
   refine rNil ?_
   refine qSeq rfl ?_
   refine hIfF rfl ?_
   refine hSkip ?_
   refine qSeq rfl ?_
   refine hReg (sq 0 (sq 1 sz)) (by kernel_rfl) ?_
   refine add rfl rfl rfl rfl (by omega) ?_
   refine mvI rfl rfl rfl ?_
   refine rNil ?_
   first | rw [Hd.fill_skip 0 0 hsl (show i < se.toNat by omega) hsg] | rw [hix, Hd.fill_put 0 0 _ hsl (show i < se.toNat by omega) hsg]
   exact qNext rfl (i + 1) (by omega) (by omega) ⟨rfl, rfl, rfl, rfl, rfl, rfl, rfl, rfl, rfl, trivial⟩ (fun _ h => h.pick [0])
 ·
  replace c1 : ¬ ((i : Int) < se) := c1
  rw [Math.fill_end 0 (Hd.split_len am z se.toNat) (by omega)]
  refine hExit rfl ?_
  refine qSeq rfl ?_
  refine hSeq ?_
  refine hReg (sq 0 (sq 1 sz)) (by kernel_rfl) ?_
  refine mvS rfl rfl rfl ?_
  refine asS rfl rfl rfl ?_
  refine rNil ?_
  refine qSeq rfl ?_
  refine hRet ?_
  exact fun w hs => ⟨[.slice (some ⟨bkm1, 0, none⟩) ((se).toNat) ((se).toNat)], ⟨rfl, trivial⟩, ⟨((some ⟨bkm1, 0, none⟩), (se).toNat, (se).toNat, (Hd.split am z se.toNat)), rfl, rfl, hs.pick [0]⟩⟩
theorem impl_awarded_1_c (am : Int) (az : Option Addr) (nz : Nat) (cz : Nat) (z : List Int) (b1 : Nat) (se : Int) (b2 : Nat) (b3 : Nat) (ays : Option Addr) (nys : Nat) (cys : Nat) (ys : List Int) (w : World) (M : Nat → Prop) (kz : Kn w M [] (RdI az nz z)) (kb1 : Kn w M [] (RdB b1 [.int .i64 se])) (kb2 : Kn w M [] (RdB b2 [.int .i64 0])) (kb3 : Kn w M [] (RdB b3 [.slice ays nys cys])) (ham : 0 ≤ am ∧ am ≤ 24) (hdv : am % (z.length : Int) = 0) (hz : 1 ≤ z.length ∧ z.length ≤ 4) (hse : 1 ≤ se ∧ se ≤ 4) (hyl : ys.length = se.toNat) (hyb : ∀ i, 0 ≤ ys.getD i 0 ∧ ys.getD i 0 ≤ 1000) (hs : Sep w M [OwnI 2 ays nys cys ys] w) :
  Calls Try.prog 142 #[.int .i64 am, .slice az nz cz, .pointer (some ⟨b1, 0, none⟩), .pointer (some ⟨b2, 0, none⟩), .pointer (some ⟨b3, 0, none⟩)] w (Ret fun v w' => v = V.one [] ∧ Sep w M [OwnI 2 ays nys cys ((Hd.addL ys (Hd.split am z se.toNat)))] w') := by
 have lz : z.length = nz := (kz _ (Sep.pick [] hs)).1
 have mz : nz ≤ 9223372036854775807 := (kz _ (Sep.pick [] hs)).2.1
 have lys : ys.length = nys := (hs.at_ 0 rfl : OwnI _ _ _ _ _ w).lenz
 have hspl := Hd.split_len am z se.toNat
 refine fn (M := M) (rs := []) Try.func142 rfl Try.ntmps142 rfl rfl hs ?_
 refine hSeq ?_
 refine hReg (sq 0 (sq 1 (sl 2 (sl 3 (sl 4 (sq 5 (sq 6 sz))))))) (by kernel_rfl) ?_
 refine mvI rfl rfl rfl ?_
 refine mvS rfl rfl rfl ?_
 refine ldl Try.isAgg2 (cD (Kn.drop (k := 1) kb1) rfl) trv rfl rfl rfl ?_
 refine ldl Try.isAgg2 (cD (Kn.drop (k := 1) kb2) rfl) trv rfl rfl rfl ?_
 refine callS Try.call143 trv1 rfl rfl (fun w hs => impl_splitChips_c _ _ nz cz _ _ _ w (Kn.drop (k := 1) kz w hs) (by first | rfl | omega) (by omega) (by first | assumption | omega) (by omega) (by omega)) ?_
 rintro ⟨ay1, ny1, cy1, y1⟩ hr1
 dsimp only at hr1
 subst y1
 refine rKnow (fun w hs => (show OwnI 2 ay1 ny1 cy1 (Hd.split am z se.toNat) w from hs.at_ 0 rfl).lenz) (fun lenn1 => ?_)
 refine rVal (v' := .slice ay1 ny1 cy1) rfl ?_
 refine lenS Try.runUnderlying23 rfl rfl rfl ?_
 refine mvI rfl rfl rfl ?_
 refine rNil ?_
 refine qSeq rfl ?_
 refine hBlk ?_
 refine hLoop (α := Nat) (fun i => i ≤ nys) (fun i => nys - i) (fun i => [OwnI 2 ay1 ny1 cy1 (Hd.split am z se.toNat), OwnI 2 ays nys cys ((Hd.addTo ys (Hd.split am z se.toNat) i))]) (fun i => [(4, .pointer (some ⟨b3, 0, none⟩)), (13, .slice ay1 ny1 cy1), (14, .int .i64 (ny1 : Int)), (15, .int .i64 (i : Int))]) 0 (Nat.zero_le _) (fun _ h => by rw [Hd.addTo_zero]; exact h.pick [0, 0]) ⟨rfl, rfl, rfl, rfl, trivial⟩ ?_
 rintro i τ1 hi
 refine hSeq ?_
 refine hReg (sq 0 sz) (by kernel_rfl) ?_
 refine lss rfl rfl rfl rfl ?_
 refine rNil ?_
 refine qSeq rfl ?_
 refine hSeq ?_
 refine hIfD rfl (fun c1 => ?_) (fun c1 => ?_)
 ·
  replace c1 : (i : Int) < (ny1 : Int) := c1
  have hsb := Hd.split_bd (am := am) (z := z) (n := se.toNat) (i := i) ham
  have hyb2 := hyb i
  have hat := Hd.addTo_get (a := ys) (b := Hd.split am z se.toNat) (i := i) (k := i) (by omega)
  rw [if_neg (Nat.lt_irrefl i)] at hat
  have hal := Hd.addTo_len ys (Hd.split am z se.toNat) i
  refine hSkip ?_
  refine qSeq rfl ?_
  refine hSeq ?_
  refine hBlk ?_
  refine hSeq ?_
  refine hReg (sq 0 (sq 1 (sl 2 (sq 3 (sq 4 sz))))) (by kernel_rfl) ?_
  refine mvI rfl rfl rfl ?_
  refine ixIl (zn := i) el23 ((Kn.at_ 0 rfl).imp fun _ h => OwnI.rd h) rfl rfl rfl rfl (by omega) (by omega) rfl ?_
  intro ae2 e2
  refine ldl Try.isAgg2 (e2) trv rfl rfl rfl ?_
  refine asI rfl rfl rfl ?_
  refine asI rfl rfl rfl ?_
  refine rNil ?_
  refine qSeq rfl ?_
  refine hReg (sl 0 (sq 1 (sq 2 (sl 3 (sq 4 (sq 5 (sq 6 (sl 7 sz)))))))) (by kernel_rfl) ?_
  refine ldl Try.isAgg23 (cD (Kn.drop (k := 2) kb3) rfl) trv rfl rfl rfl ?_
  refine mvI rfl rfl rfl ?_
  refine ixIl (zn := i) el23 ((Kn.at_ 1 rfl).imp fun _ h => OwnI.rd h) rfl rfl rfl rfl (by omega) (by omega) rfl ?_
  intro ae3 e3
  refine ldl Try.isAgg2 (e3) trv rfl rfl rfl ?_
  refine mvI rfl rfl rfl ?_
  refine add rfl rfl rfl rfl (by omega) ?_
  refine oxI (zn := i) 1 rfl el23 rfl rfl rfl rfl (by omega) (by omega) rfl ?_
  intro gk4 hgk4
  refine stoI (off := i) (x := ((((Hd.addTo ys (Hd.split am z se.toNat) i)).getD i 0) + ((Hd.split am z se.toNat).getD i 0))) 1 rfl hgk4 Try.sizeOf2 trv rfl rfl rfl rfl (by omega) ?_
  refine rNil ?_
  refine qSeq rfl ?_
  refine hReg (sq 0 (sq 1 sz)) (by kernel_rfl) ?_
  refine add rfl rfl rfl rfl (by omega) ?_
  refine mvI rfl rfl rfl ?_
  refine rNil ?_
  rw [Hd.addTo_step (show i < ys.length by omega)]
  exact qNext rfl (i + 1) (by omega) (by omega) ⟨rfl, rfl, rfl, rfl, trivial⟩ (fun _ h => h.pick [0, 0])
 ·
  replace c1 : ¬ ((i : Int) < (ny1 : Int)) := c1
  rw [Hd.addTo_end (show ys.length ≤ i by omega)]
  refine hExit rfl ?_
  refine qRet rfl ?_
  exact fun w hs => ⟨[], trivial, ⟨rfl, hs.pick [1]⟩⟩
end Go.Proofs.Yteaahdakammffaa
/- Contracts of awards. Their conditions stand in each. -/
namespace Go.Proofs.Yteaahdakammffaa
open Go Go.RowKit V
set_option linter.unusedVariables false
set_option linter.unusedSimpArgs false
set_option maxRecDepth 100000
theorem fl121_0 : Fld Try.prog 121 0 0 := by
 intro w ad; simp [Instr.fieldAt, Try.runUnderlying121, Instr.sureAddr, fieldPlace, Try.sizeOf2]
theorem fl121_1 : Fld Try.prog 121 1 1 := by
 intro w ad; simp [Instr.fieldAt, Try.runUnderlying121, Instr.sureAddr, fieldPlace, Try.sizeOf23]
theorem el122 : Elt Try.prog 122 2 := ⟨121, Try.runUnderlying122, Try.sizeOf121⟩
theorem impl_awarded_c (bl : Nat) (aws : Option Addr) (nws : Nat) (cws : Nat) (ws : List Int) (avh : Option Addr) (nvh : Nat) (cvh : Nat) (vh : List Int) (avl : Option Addr) (nvl : Nat) (cvl : Nat) (vl : List Int) (fi : Int) (w : World) (rbl : RdB bl [.int .i64 24, .slice aws nws cws] w) (rws : RdI aws nws ws w) (rvh : RdI avh nvh vh w) (rvl : RdI avl nvl vl w) (hfi : fi = 0) (hws : ws = Hd.nums vh.length) (hll : vl.length = vh.length) (hn : 2 ≤ vh.length ∧ vh.length ≤ 4) (hp : ∀ x ∈ ws, 0 ≤ vh.getD x.toNat 0) :
  Calls Try.prog 115 #[.slice (some ⟨bl, 0, none⟩) 1 1, .slice avh nvh cvh, .slice avl nvl cvl, .int .i64 fi] w (Ret fun v w' => ∃ x : Option Addr × Nat × Nat × List Int, v = .slice x.1 x.2.1 x.2.2.1 ∧ (x.2.2.2 = Hd.awd 24 ws vh vl nvh) ∧ Sep w none_ [OwnI 2 x.1 x.2.1 x.2.2.1 x.2.2.2] w') := by
 have kbl : Kn w none_ [] (RdB bl [.int .i64 24, .slice aws nws cws]) := fun w' hs => rbl.ext hs.upd
 have kws : Kn w none_ [] (RdI aws nws ws) := fun w' hs => rws.ext hs.upd
 have lws : ws.length = nws := rws.1
 have mws : nws ≤ 9223372036854775807 := rws.2.1
 have kvh : Kn w none_ [] (RdI avh nvh vh) := fun w' hs => rvh.ext hs.upd
 have lvh : vh.length = nvh := rvh.1
 have mvh : nvh ≤ 9223372036854775807 := rvh.2.1
 have kvl : Kn w none_ [] (RdI avl nvl vl) := fun w' hs => rvl.ext hs.upd
 have lvl : vl.length = nvl := rvl.1
 have mvl : nvl ≤ 9223372036854775807 := rvl.2.1
 subst hfi
 have hwl : ws.length = vh.length := by rw [hws, Hd.nums_len]
 have hwb : ∀ x ∈ ws, 0 ≤ x ∧ x < vh.length := fun x hx => by rw [hws] at hx; exact Hd.nums_bd hx
 have hwb2 : ∀ x ∈ ws, 0 ≤ x ∧ x < vl.length := by rw [hll]; exact hwb
 have hH : (Hd.bst true ws vh).1 ≠ [] := Hd.bst_some true vh ws ⟨0, by rw [hws]; exact List.mem_map.2 ⟨0, List.mem_range.2 (by omega), rfl⟩, hp 0 (by rw [hws]; exact List.mem_map.2 ⟨0, List.mem_range.2 (by omega), rfl⟩)⟩
 have hHp := List.length_pos_iff.2 hH
 have hHl := (Hd.bst_inv true vh ws).2
 have hLl := (Hd.bst_inv false vl ws).2
 refine fn (M := none_) (rs := [.tmp 8]) Try.func115 rfl Try.ntmps115 rfl rfl (Sep.start _ _) ?_
 refine hSeq ?_
 refine hReg (sl 0 (sq 1 sz)) (by kernel_rfl) ?_
 refine box trv1 rfl rfl rfl rfl (fun bkb1 hbkb1 => ?_)
 refine asS rfl rfl rfl ?_
 refine rNil ?_
 refine qSeq rfl ?_
 refine hSeq ?_
 refine hReg (sq 0 (sq 1 (sl 2 (sl 3 sz)))) (by kernel_rfl) ?_
 refine mvS rfl rfl rfl ?_
 refine lenS Try.runUnderlying23 rfl rfl rfl ?_
 refine alc Try.zeroValue2 rfl trv1 rfl rfl (fun bka2 hbka2 => ?_)
 refine stl (v := .int .i64 _) 0 rfl Try.sizeOf2 trv rfl rfl rfl rfl rfl (Nat.le_of_ble_eq_true rfl) ?_
 refine rNil ?_
 refine qSeq rfl ?_
 refine hSeq ?_
 refine hReg (sl 0 (sl 1 (sl 2 (sl 3 sz)))) (by kernel_rfl) ?_
 refine ldl Try.isAgg2 (cB 0 rfl rfl) trv rfl rfl rfl ?_
 refine mksI nvh mk23 trv1 rfl rfl rfl rfl (rfl) (by omega) (fun bkm3 hbkm3 => ?_)
 refine alc Try.zeroValue23 rfl trv1 rfl rfl (fun bka4 hbka4 => ?_)
 refine stl (v := .slice _ _ _) 0 rfl Try.sizeOf23 trv rfl rfl rfl rfl rfl (Nat.le_of_ble_eq_true rfl) ?_
 refine rNil ?_
 refine qSeq rfl ?_
 refine hSeq ?_
 refine hReg (sq 0 (sq 1 sz)) (by kernel_rfl) ?_
 refine mkFn (vs := #[.pointer (some ⟨bka2, 0, none⟩), .pointer (some ⟨bkb1, 0, none⟩), .pointer (some ⟨bka4, 0, none⟩)]) rfl rfl rfl ?_
 refine asn rfl rfl rfl ?_
 refine rNil ?_
 refine qSeq rfl ?_
 refine hSeq ?_
 refine hSeq ?_
 refine hReg (sq 0 (sq 1 (sq 2 sz))) (by kernel_rfl) ?_
 refine mvS rfl rfl rfl ?_
 refine lenS Try.runUnderlying122 rfl rfl rfl ?_
 refine mvI rfl rfl rfl ?_
 refine rNil ?_
 refine qSeq rfl ?_
 refine hBlk ?_
 refine hLoop2 ?_
 refine hSeq ?_
 refine hReg (sq 0 sz) (by kernel_rfl) ?_
 refine lss rfl rfl rfl rfl ?_
 refine rNil ?_
 refine qSeq rfl ?_
 refine hSeq ?_
 refine hIfD rfl (fun c1 => ?_) (fun c1 => ?_)
 ·
  replace c1 : 0 < (1 : Int) := c1
  refine hSkip ?_
  refine qSeq rfl ?_
  refine hSeq ?_
  refine hBlk ?_
  refine hSeq ?_
  refine hReg (sq 0 (sl 1 (sl 2 (sl 3 sz)))) (by kernel_rfl) ?_
  refine ix0 el122 rfl rfl rfl rfl (by decide) ?_
  refine ldAl Try.isAgg121 Try.sizeOf121 (cDp (m := 2) (Kn.drop (k := 4) kbl) rfl) trv rfl rfl rfl rfl ?_
  refine alc Try.zeroValue121 rfl trv1 rfl rfl (fun bka5 hbka5 => ?_)
  refine stAl (vs := [.int .i64 24, .slice aws nws cws]) 0 rfl Try.sizeOf121 trv rfl rfl rfl rfl rfl (by simp [Value.oneCell']) rfl ?_
  refine rNil ?_
  refine qSeq rfl ?_
  refine hSeq ?_
  refine hDraw (Ls := [blk bka5 121 [.int .i64 24, .slice aws nws cws]]) (by kernel_rfl) (sq 0 (sq 1 (sq 2 (sq 4 (sq 5 (sq 6 (sl 3 (sl 7 (sq 8 (sq 9 sz)))))))))) (by kernel_rfl) (.cons_cons _ (.cons _ (.cons _ (.cons _ (.cons _ .slnil))))) ?_
  refine fld fl121_1 rfl rfl rfl ?_
  refine ldq Try.isAgg23 (cB 0 rfl rfl) rfl rfl rfl ?_
  refine mvS rfl rfl rfl ?_
  refine fld fl121_1 rfl rfl rfl ?_
  refine ldq Try.isAgg23 (cB 0 rfl rfl) rfl rfl rfl ?_
  refine mvS rfl rfl rfl ?_
  refine callS Try.call144 (by exact (fun _ _ h => h.pick [1])) rfl rfl (fun w hs => impl_highWinners_c _ nws cws _ _ nvh cvh _ w (Kn.drop (k := 5) kws w hs) (Kn.drop (k := 5) kvh w hs) (by assumption) (by omega) (by assumption)) ?_
  rintro ⟨ay1, ny1, cy1, y1⟩ hr1
  dsimp only at hr1
  subst y1
  refine rPieces (L' := [OwnI 2 ay1 ny1 cy1 ((((Hd.bst true ws vh).1))), blk bka5 121 [.int .i64 24, .slice aws nws cws], blk bka4 23 [.slice (some ⟨bkm3, 0, none⟩) nvh nvh], OwnI 2 (some ⟨bkm3, 0, none⟩) nvh nvh (List.replicate nvh 0), blk bka2 2 [.int .i64 (nvh : Int)], blk bkb1 2 [.int .i64 0]]) (fun _ h => h) ?_
  refine rKnow (fun w hs => (show OwnI 2 ay1 ny1 cy1 ((((Hd.bst true ws vh).1))) w from hs.at_ 0 rfl).lenz) (fun lenn6 => ?_)
  refine rVal (v' := .slice ay1 ny1 cy1) rfl ?_
  refine callS Try.call145 (by exact (fun _ _ h => h.pick [2])) rfl rfl (fun w hs => impl_lowWinners_c _ nws cws _ _ nvl cvl _ w (Kn.drop (k := 6) kws w hs) (Kn.drop (k := 6) kvl w hs) (by assumption) (by omega)) ?_
  rintro ⟨ay2, ny2, cy2, y2⟩ hr2
  dsimp only at hr2
  subst y2
  refine rPieces (L' := [OwnI 2 ay2 ny2 cy2 ((((Hd.bst false ws vl).1))), OwnI 2 ay1 ny1 cy1 ((((Hd.bst true ws vh).1))), blk bka5 121 [.int .i64 24, .slice aws nws cws], blk bka4 23 [.slice (some ⟨bkm3, 0, none⟩) nvh nvh], OwnI 2 (some ⟨bkm3, 0, none⟩) nvh nvh (List.replicate nvh 0), blk bka2 2 [.int .i64 (nvh : Int)], blk bkb1 2 [.int .i64 0]]) (fun _ h => h) ?_
  refine rKnow (fun w hs => (show OwnI 2 ay2 ny2 cy2 ((((Hd.bst false ws vl).1))) w from hs.at_ 0 rfl).lenz) (fun lenn7 => ?_)
  refine rVal (v' := .slice ay2 ny2 cy2) rfl ?_
  refine asS rfl rfl rfl ?_
  refine asS rfl rfl rfl ?_
  refine rNil ?_
  refine qSeq rfl ?_
  refine hBlk ?_
  refine hSeq ?_
  refine hReg (sq 0 (sq 1 (sq 2 (sq 3 (sq 4 (sq 5 (sq 6 (sq 7 (sq 8 sz))))))))) (by kernel_rfl) ?_
  refine mvS rfl rfl rfl ?_
  refine lenS Try.runUnderlying23 rfl rfl rfl ?_
  refine gtr rfl rfl rfl rfl ?_
  refine mvB rfl rfl rfl ?_
  refine rBoolD (d := 45) rfl (fun g2 => ?_) (fun g2 => ?_)
  ·
   replace g2 : 0 < (ny1 : Int) := g2
   refine mvS rfl rfl rfl ?_
   refine lenS Try.runUnderlying23 rfl rfl rfl ?_
   refine gtr rfl rfl rfl rfl ?_
   refine pickB rfl rfl rfl rfl ?_
   refine asB rfl rfl rfl ?_
   refine rNil ?_
   refine qSeq rfl ?_
   refine hIfD rfl (fun c3 => ?_) (fun c3 => ?_)
   ·
    replace c3 : 0 < (ny2 : Int) := c3
    refine hSeq ?_
    refine hReg (sq 0 (sq 1 (sl 2 (sq 3 (sq 4 (sl 5 sz)))))) (by kernel_rfl) ?_
    refine mv rfl rfl rfl ?_
    refine fld fl121_0 rfl rfl rfl ?_
    refine ldl Try.isAgg2 (cB 2 rfl rfl) trv rfl rfl rfl ?_
    refine quo rfl rfl rfl rfl (by omega) ?_
    refine mvS rfl rfl rfl ?_
    refine rPieces (fun _ h => h.pick [0, 0, 0, 0, 1, 1, 0]) ?_
    refine callCU (f := 142) (av := #[.int .i64 (24 / 2), .slice ay2 ny2 cy2, .pointer (some ⟨bka2, 0, none⟩), .pointer (some ⟨bkb1, 0, none⟩), .pointer (some ⟨bka4, 0, none⟩)]) (v0 := V.one []) (J' := [OwnI 2 (some ⟨bkm3, 0, none⟩) nvh nvh ((Hd.addL (List.replicate nvh 0) (Hd.split (24 / 2) ((((Hd.bst false ws vl).1))) nvh)))]) [OwnI 2 ay2 ny2 cy2 ((((Hd.bst false ws vl).1))), OwnI 2 ay1 ny1 cy1 ((((Hd.bst true ws vh).1))), blk bka5 121 [.int .i64 24, .slice aws nws cws], blk bka4 23 [.slice (some ⟨bkm3, 0, none⟩) nvh nvh], blk bka2 2 [.int .i64 (nvh : Int)], blk bkb1 2 [.int .i64 0]] [OwnI 2 (some ⟨bkm3, 0, none⟩) nvh nvh (List.replicate nvh 0)] rfl Try.call142 trv rfl rfl rfl rfl (fun w M0 hs hk => impl_awarded_1_c (24 / 2) ay2 ny2 cy2 ((((Hd.bst false ws vl).1))) bka2 (nvh : Int) bkb1 bka4 (some ⟨bkm3, 0, none⟩) nvh nvh (List.replicate nvh 0) w M0 (hk _ ((Kn.at_ 0 rfl).imp fun _ h => OwnI.rd h)) (hk _ ((Kn.at_ 4 rfl).imp fun _ h => RdB.of h)) (hk _ ((Kn.at_ 5 rfl).imp fun _ h => RdB.of h)) (hk _ ((Kn.at_ 3 rfl).imp fun _ h => RdB.of h)) (by omega) (by first | assumption | exact Hd.dv12 (by omega) | exact Hd.dv24 (by omega)) (by omega) (by omega) (by first | omega | (rw [List.length_replicate]; omega) | (rw [Hd.addL_len, List.length_replicate]; omega)) (by first | assumption | exact fun i => by rw [Hd.zero_bd]; omega | exact Hd.add0_bd (by omega)) hs) ?_
    refine rNil ?_
    refine qSeq rfl ?_
    refine hReg (sq 0 (sq 1 (sl 2 (sq 3 (sl 4 (sq 5 (sq 6 (sq 7 (sl 8 sz))))))))) (by kernel_rfl) ?_
    refine mv rfl rfl rfl ?_
    refine fld fl121_0 rfl rfl rfl ?_
    refine ldl Try.isAgg2 (cB 2 rfl rfl) trv rfl rfl rfl ?_
    refine fld fl121_0 rfl rfl rfl ?_
    refine ldl Try.isAgg2 (cB 2 rfl rfl) trv rfl rfl rfl ?_
    refine quo rfl rfl rfl rfl (by omega) ?_
    refine sub rfl rfl rfl rfl (by omega) ?_
    refine mvS rfl rfl rfl ?_
    refine callCU (f := 142) (av := #[.int .i64 ((24 - (24 / 2))), .slice ay1 ny1 cy1, .pointer (some ⟨bka2, 0, none⟩), .pointer (some ⟨bkb1, 0, none⟩), .pointer (some ⟨bka4, 0, none⟩)]) (v0 := V.one []) (J' := [OwnI 2 (some ⟨bkm3, 0, none⟩) nvh nvh ((Hd.addL ((Hd.addL (List.replicate nvh 0) (Hd.split (24 / 2) ((((Hd.bst false ws vl).1))) nvh))) (Hd.split ((24 - (24 / 2))) ((((Hd.bst true ws vh).1))) nvh)))]) [OwnI 2 ay2 ny2 cy2 ((((Hd.bst false ws vl).1))), OwnI 2 ay1 ny1 cy1 ((((Hd.bst true ws vh).1))), blk bka5 121 [.int .i64 24, .slice aws nws cws], blk bka4 23 [.slice (some ⟨bkm3, 0, none⟩) nvh nvh], blk bka2 2 [.int .i64 (nvh : Int)], blk bkb1 2 [.int .i64 0]] [OwnI 2 (some ⟨bkm3, 0, none⟩) nvh nvh ((Hd.addL (List.replicate nvh 0) (Hd.split (24 / 2) ((((Hd.bst false ws vl).1))) nvh)))] rfl Try.call142 trv rfl rfl rfl rfl (fun w M0 hs hk => impl_awarded_1_c ((24 - (24 / 2))) ay1 ny1 cy1 ((((Hd.bst true ws vh).1))) bka2 (nvh : Int) bkb1 bka4 (some ⟨bkm3, 0, none⟩) nvh nvh ((Hd.addL (List.replicate nvh 0) (Hd.split (24 / 2) ((((Hd.bst false ws vl).1))) nvh))) w M0 (hk _ ((Kn.at_ 1 rfl).imp fun _ h => OwnI.rd h)) (hk _ ((Kn.at_ 4 rfl).imp fun _ h => RdB.of h)) (hk _ ((Kn.at_ 5 rfl).imp fun _ h => RdB.of h)) (hk _ ((Kn.at_ 3 rfl).imp fun _ h => RdB.of h)) (by omega) (by first | assumption | exact Hd.dv12 (by omega) | exact Hd.dv24 (by omega)) (by omega) (by omega) (by first | omega | (rw [List.length_replicate]; omega) | (rw [Hd.addL_len, List.length_replicate]; omega)) (by first | assumption | exact fun i => by rw [Hd.zero_bd]; omega | exact Hd.add0_bd (by omega)) hs) ?_
    refine rNil ?_
    refine qSeq rfl ?_
    refine hReg (sq 0 (sq 1 sz)) (by kernel_rfl) ?_
    refine add rfl rfl rfl rfl (by omega) ?_
    refine mvI rfl rfl rfl ?_
    refine rNil ?_
    refine qSeq rfl ?_
    refine hSeq ?_
    refine hReg (sq 0 sz) (by kernel_rfl) ?_
    refine lss rfl rfl rfl rfl ?_
    refine rNil ?_
    refine qSeq rfl ?_
    refine hSeq ?_
    refine hIfD rfl (fun c4 => ?_) (fun c4 => ?_)
    ·
     replace c4 : (0 + 1) < (1 : Int) := c4
     exfalso; omega
    ·
     replace c4 : ¬ ((0 + 1) < (1 : Int)) := c4
     refine hExit rfl ?_
     refine qSeq rfl ?_
     refine hSeq ?_
     refine hReg (sl 0 (sq 1 sz)) (by kernel_rfl) ?_
     refine ldl Try.isAgg23 (cB 3 rfl rfl) trv rfl rfl rfl ?_
     refine asS rfl rfl rfl ?_
     refine rNil ?_
     refine qSeq rfl ?_
     refine hRet ?_
     exact fun w hs => ⟨[.slice (some ⟨bkm3, 0, none⟩) nvh nvh], ⟨rfl, trivial⟩, ⟨((some ⟨bkm3, 0, none⟩), nvh, nvh, (Hd.addL ((Hd.addL (List.replicate nvh 0) (Hd.split (24 / 2) ((((Hd.bst false ws vl).1))) nvh))) (Hd.split ((24 - (24 / 2))) ((((Hd.bst true ws vh).1))) nvh))), rfl, by unfold Hd.awd; first | (rw [if_neg (by rw [← List.length_eq_zero_iff]; omega)]) | (rw [if_pos (by rw [← List.length_eq_zero_iff]; omega)]), hs.pick [6]⟩⟩
   ·
    replace c3 : ¬ (0 < (ny2 : Int)) := c3
    refine hSeq ?_
    refine hReg (sq 0 (sq 1 (sq 2 (sq 3 sz)))) (by kernel_rfl) ?_
    refine mvS rfl rfl rfl ?_
    refine lenS Try.runUnderlying23 rfl rfl rfl ?_
    refine gtr rfl rfl rfl rfl ?_
    refine asB rfl rfl rfl ?_
    refine rNil ?_
    refine qSeq rfl ?_
    refine hIfD rfl (fun c5 => ?_) (fun c5 => ?_)
    ·
     replace c5 : 0 < (ny1 : Int) := c5
     refine hReg (sq 0 (sq 1 (sl 2 (sq 3 (sl 4 sz))))) (by kernel_rfl) ?_
     refine mv rfl rfl rfl ?_
     refine fld fl121_0 rfl rfl rfl ?_
     refine ldl Try.isAgg2 (cB 2 rfl rfl) trv rfl rfl rfl ?_
     refine mvS rfl rfl rfl ?_
     refine rPieces (fun _ h => h.pick [0, 0, 0, 0, 1, 1, 0]) ?_
     refine callCU (f := 142) (av := #[.int .i64 24, .slice ay1 ny1 cy1, .pointer (some ⟨bka2, 0, none⟩), .pointer (some ⟨bkb1, 0, none⟩), .pointer (some ⟨bka4, 0, none⟩)]) (v0 := V.one []) (J' := [OwnI 2 (some ⟨bkm3, 0, none⟩) nvh nvh ((Hd.addL (List.replicate nvh 0) (Hd.split (24 : Int) ((((Hd.bst true ws vh).1))) nvh)))]) [OwnI 2 ay2 ny2 cy2 ((((Hd.bst false ws vl).1))), OwnI 2 ay1 ny1 cy1 ((((Hd.bst true ws vh).1))), blk bka5 121 [.int .i64 24, .slice aws nws cws], blk bka4 23 [.slice (some ⟨bkm3, 0, none⟩) nvh nvh], blk bka2 2 [.int .i64 (nvh : Int)], blk bkb1 2 [.int .i64 0]] [OwnI 2 (some ⟨bkm3, 0, none⟩) nvh nvh (List.replicate nvh 0)] rfl Try.call142 trv rfl rfl rfl rfl (fun w M0 hs hk => impl_awarded_1_c (24 : Int) ay1 ny1 cy1 ((((Hd.bst true ws vh).1))) bka2 (nvh : Int) bkb1 bka4 (some ⟨bkm3, 0, none⟩) nvh nvh (List.replicate nvh 0) w M0 (hk _ ((Kn.at_ 1 rfl).imp fun _ h => OwnI.rd h)) (hk _ ((Kn.at_ 4 rfl).imp fun _ h => RdB.of h)) (hk _ ((Kn.at_ 5 rfl).imp fun _ h => RdB.of h)) (hk _ ((Kn.at_ 3 rfl).imp fun _ h => RdB.of h)) (by omega) (by first | assumption | exact Hd.dv12 (by omega) | exact Hd.dv24 (by omega)) (by omega) (by omega) (by first | omega | (rw [List.length_replicate]; omega) | (rw [Hd.addL_len, List.length_replicate]; omega)) (by first | assumption | exact fun i => by rw [Hd.zero_bd]; omega | exact Hd.add0_bd (by omega)) hs) ?_
     refine rNil ?_
     refine qSeq rfl ?_
     refine hReg (sq 0 (sq 1 sz)) (by kernel_rfl) ?_
     refine add rfl rfl rfl rfl (by omega) ?_
     refine mvI rfl rfl rfl ?_
     refine rNil ?_
     refine qSeq rfl ?_
     refine hSeq ?_
     refine hReg (sq 0 sz) (by kernel_rfl) ?_
     refine lss rfl rfl rfl rfl ?_
     refine rNil ?_
     refine qSeq rfl ?_
     refine hSeq ?_
     refine hIfD rfl (fun c6 => ?_) (fun c6 => ?_)
     ·
      replace c6 : (0 + 1) < (1 : Int) := c6
      exfalso; omega
     ·
      replace c6 : ¬ ((0 + 1) < (1 : Int)) := c6
      refine hExit rfl ?_
      refine qSeq rfl ?_
      refine hSeq ?_
      refine hReg (sl 0 (sq 1 sz)) (by kernel_rfl) ?_
      refine ldl Try.isAgg23 (cB 3 rfl rfl) trv rfl rfl rfl ?_
      refine asS rfl rfl rfl ?_
      refine rNil ?_
      refine qSeq rfl ?_
      refine hRet ?_
      exact fun w hs => ⟨[.slice (some ⟨bkm3, 0, none⟩) nvh nvh], ⟨rfl, trivial⟩, ⟨((some ⟨bkm3, 0, none⟩), nvh, nvh, (Hd.addL (List.replicate nvh 0) (Hd.split (24 : Int) ((((Hd.bst true ws vh).1))) nvh))), rfl, by unfold Hd.awd; first | (rw [if_neg (by rw [← List.length_eq_zero_iff]; omega)]) | (rw [if_pos (by rw [← List.length_eq_zero_iff]; omega)]), hs.pick [6]⟩⟩
    ·
     replace c5 : ¬ (0 < (ny1 : Int)) := c5
     exfalso; omega
  ·
   replace g2 : ¬ (0 < (ny1 : Int)) := g2
   exfalso; omega
 ·
  replace c1 : ¬ (0 < (1 : Int)) := c1
  exfalso; omega
end Go.Proofs.Yteaahdakammffaa
/- Contracts of parts. Their conditions stand in each. -/
namespace Go.Proofs.Yteaahdakammffaa
open Go Go.RowKit V
set_option linter.unusedVariables false
set_option linter.unusedSimpArgs false
set_option maxRecDepth 100000
theorem bsl122_1 (v0 v1 : Value) (h0 : v0.cells = #[v0]) (h1 : v1.cells = #[v1]) : ∀ w, (Instr.buildSlice 122 1 ([(0, .agg #[v0, v1])] : List (Nat × Value)).toArray).run Try.prog w = .ok (.slice (some ⟨w.heap.size, 0, none⟩) 1 1) (w.alloc (.cells ([v0, v1] : List Value).toArray 121)) := by
 intro w; simp [Instr.buildSlice, Instr.fill, Try.zeroValue121, Try.runUnderlying122, Try.sizeOf121, aggCells, newRow, show Array.range 2 = #[0, 1] from by decide]
theorem bld121_0_1 (v0 v1 : Value) (h0 : v0.cells = #[v0]) (h1 : v1.cells = #[v1]) : ∀ w, (Instr.build 121 ([(0, v0), (1, v1)] : List (Nat × Value)).toArray).run Try.prog w = .ok (.agg ([v0, v1] : List Value).toArray) w := by
 intro w; simp [Instr.build, Instr.fill, Try.zeroValue121, Try.runUnderlying121, aggCells, Try.sizeOf2, Try.sizeOf23, h0, h1]
theorem impl_partsAt_c (vn : Int) (az : Option Addr) (nz : Nat) (cz : Nat) (Hz : Nat → Hd) (z : List (List Int)) (aq : Option Addr) (nq : Nat) (cq : Nat) (q : List Int) (w : World) (rz : RdR maK az nz Hz z w) (rq : RdI aq nq q w) (hv : 0 ≤ vn ∧ vn ≤ 2) (hzn : 2 ≤ z.length ∧ z.length ≤ 4) (hq5 : q.length = 5) (hdl : Hd.dealP vn z q) :
  Calls Try.prog 67 #[.int .i64 vn, .slice az nz cz, .slice aq nq cq] w (Ret fun v w' => ∃ x : Option Addr × Nat × Nat × List Int, v = .slice x.1 x.2.1 x.2.2.1 ∧ (x.2.2.2 = Hd.parts vn z q) ∧ Sep w none_ [OwnI 2 x.1 x.2.1 x.2.2.1 x.2.2.2] w') := by
 have kz : Kn w none_ [] (RdR maK az nz Hz z) := fun w' hs => rz.ext hs.upd
 have lz : z.length = nz := rz.1
 have mz : nz ≤ 9223372036854775807 := rz.2.1
 have kq : Kn w none_ [] (RdI aq nq q) := fun w' hs => rq.ext hs.upd
 have lq : q.length = nq := rq.1
 have mq : nq ≤ 9223372036854775807 := rq.2.1
 refine fn (M := none_) (rs := [.tmp 6]) Try.func67 rfl Try.ntmps67 rfl rfl (Sep.start _ _) ?_
 refine hSeq ?_
 refine hReg (sq 0 sz) (by kernel_rfl) ?_
 refine asS rfl rfl rfl ?_
 refine rNil ?_
 refine qSeq rfl ?_
 refine hSeq ?_
 refine hReg (sq 0 (sl 1 (sl 2 (sl 3 sz)))) (by kernel_rfl) ?_
 refine mvI rfl rfl rfl ?_
 refine callP (v := .agg #[.int .i64 (Hd.vHole vn), .int .i64 (Hd.vLeast vn), .int .i64 2, .int .i64 5, .bool true, .int .i64 (Hd.vLow vn)]) Try.call108 trv rfl rfl (fun w hs => impl_standardVariant_c _ w (by omega)) ?_
 refine alc Try.zeroValue109 rfl trv1 rfl rfl (fun bka1 hbka1 => ?_)
 refine stAl (vs := [.int .i64 (Hd.vHole vn), .int .i64 (Hd.vLeast vn), .int .i64 2, .int .i64 5, .bool true, .int .i64 (Hd.vLow vn)]) 0 rfl Try.sizeOf109 trv rfl rfl rfl rfl rfl (by simp [Value.oneCell']) rfl ?_
 refine rNil ?_
 refine qSeq rfl ?_
 refine hSeq ?_
 refine hReg (sq 0 (sq 1 (sl 2 (sq 3 sz)))) (by kernel_rfl) ?_
 refine mvS rfl rfl rfl ?_
 refine lenS Try.runUnderlying22 rfl rfl rfl ?_
 refine mksI nz mk23 trv1 rfl rfl rfl rfl (rfl) (by omega) (fun bkm2 hbkm2 => ?_)
 refine asS rfl rfl rfl ?_
 refine rNil ?_
 refine qSeq rfl ?_
 refine hSeq ?_
 refine hCut (α := Nat × Nat) (fun x => (List.replicate nz 0).length = nz ∧ (List.replicate nz 0).length = nz) (fun x => [OwnI 2 (some ⟨x.2, 0, none⟩) nz nz (List.replicate nz 0), OwnI 2 (some ⟨x.1, 0, none⟩) nz nz (List.replicate nz 0), OwnI 2 (some ⟨bkm2, 0, none⟩) nz nz (List.replicate nz 0), blk bka1 109 [.int .i64 (Hd.vHole vn), .int .i64 (Hd.vLeast vn), .int .i64 2, .int .i64 5, .bool true, .int .i64 (Hd.vLow vn)]]) (fun x => [(1, .slice az nz cz), (2, .slice aq nq cq), (7, .pointer (some ⟨bka1, 0, none⟩)), (8, .slice (some ⟨bkm2, 0, none⟩) nz nz), (9, .slice (some ⟨x.1, 0, none⟩) nz nz), (10, .slice (some ⟨x.2, 0, none⟩) nz nz)]) ?_ ?_
 ·
  refine hDraw (Ls := []) (by kernel_rfl) (sq 0 (sq 1 (sq 3 (sq 4 (.alt (sl 2 (sq 6 (sl 5 (sq 7 sz)))) (sl 5 (sl 2 (sq 6 (sq 7 sz))))))))) (by kernel_rfl) (.cons _ (.cons _ .slnil)) ?_
  refine mvS rfl rfl rfl ?_
  refine lenS Try.runUnderlying22 rfl rfl rfl ?_
  refine mvS rfl rfl rfl ?_
  refine lenS Try.runUnderlying22 rfl rfl rfl ?_
  refine rAlt ?_ ?_
  ·
   refine mksI nz mk23 (fun _ _ h => h.pick []) rfl rfl rfl rfl (rfl) (by omega) (fun bkm3 hbkm3 => ?_)
   refine asS rfl rfl rfl ?_
   refine mksI nz mk23 (fun _ _ h => h.pick []) rfl rfl rfl rfl (rfl) (by omega) (fun bkm4 hbkm4 => ?_)
   refine asS rfl rfl rfl ?_
   refine rNil ?_
   exact qLoop rfl fun w h => ⟨(bkm3, bkm4), ⟨by first | omega | (dsimp only; omega) | simp, by first | omega | (dsimp only; omega) | simp⟩, ⟨rfl, rfl, rfl, rfl, rfl, rfl, trivial⟩, h⟩
  ·
   refine mksI nz mk23 (fun _ _ h => h.pick []) rfl rfl rfl rfl (rfl) (by omega) (fun bkm5 hbkm5 => ?_)
   refine mksI nz mk23 (fun _ _ h => h.pick []) rfl rfl rfl rfl (rfl) (by omega) (fun bkm6 hbkm6 => ?_)
   refine asS rfl rfl rfl ?_
   refine asS rfl rfl rfl ?_
   refine rNil ?_
   exact qLoop rfl fun w h => ⟨(bkm6, bkm5), ⟨by first | omega | (dsimp only; omega) | simp, by first | omega | (dsimp only; omega) | simp⟩, ⟨rfl, rfl, rfl, rfl, rfl, rfl, trivial⟩, (h.perm (pull (i := 1) rfl))⟩
 ·
  rintro ⟨bkm3, bkm4⟩ τm ⟨lkm4, lkm3⟩
  try dsimp only at lkm4 lkm3
  refine qSeq rfl ?_
  refine hRe [(1, .slice az nz cz), (2, .slice aq nq cq), (7, .pointer (some ⟨bka1, 0, none⟩)), (8, .slice (some ⟨bkm2, 0, none⟩) nz nz), (9, .slice (some ⟨bkm3, 0, none⟩) nz nz), (10, .slice (some ⟨bkm4, 0, none⟩) nz nz)] [OwnI 2 (some ⟨bkm4, 0, none⟩) nz nz (List.replicate nz 0), OwnI 2 (some ⟨bkm3, 0, none⟩) nz nz (List.replicate nz 0), OwnI 2 (some ⟨bkm2, 0, none⟩) nz nz (List.replicate nz 0), blk bka1 109 [.int .i64 (Hd.vHole vn), .int .i64 (Hd.vLeast vn), .int .i64 2, .int .i64 5, .bool true, .int .i64 (Hd.vLow vn)]] rfl rfl ?_
  refine hSeq ?_
  refine hSeq ?_
  refine hReg (sq 0 (sq 1 (sq 2 sz))) (by kernel_rfl) ?_
  refine mvS rfl rfl rfl ?_
  refine lenS Try.runUnderlying22 rfl rfl rfl ?_
  refine mvI rfl rfl rfl ?_
  refine rNil ?_
  refine qSeq rfl ?_
  refine hBlk ?_
  refine hLoop (α := Nat) (fun i => i ≤ nz) (fun i => nz - i) (fun i => [OwnI 2 (some ⟨bkm4, 0, none⟩) nz nz (((Hd.losL vn z q).take i ++ List.replicate (nz - i) 0)), OwnI 2 (some ⟨bkm3, 0, none⟩) nz nz (((Hd.hisL vn z q).take i ++ List.replicate (nz - i) 0)), OwnI 2 (some ⟨bkm2, 0, none⟩) nz nz (((Hd.nums z.length).take i ++ List.replicate (nz - i) 0)), blk bka1 109 [.int .i64 (Hd.vHole vn), .int .i64 (Hd.vLeast vn), .int .i64 2, .int .i64 5, .bool true, .int .i64 (Hd.vLow vn)]]) (fun i => [(2, .slice aq nq cq), (7, .pointer (some ⟨bka1, 0, none⟩)), (8, .slice (some ⟨bkm2, 0, none⟩) nz nz), (9, .slice (some ⟨bkm3, 0, none⟩) nz nz), (10, .slice (some ⟨bkm4, 0, none⟩) nz nz), (24, .slice az nz cz), (25, .int .i64 (nz : Int)), (26, .int .i64 (i : Int))]) 0 (Nat.zero_le _) (fun _ h => by rw [← Math.fill_start, ← Math.fill_start, ← Math.fill_start]; exact h.pick [0, 0, 0, 0]) ⟨rfl, rfl, rfl, rfl, rfl, rfl, rfl, rfl, trivial⟩ ?_
  rintro i τ1 hi
  refine hSeq ?_
  refine hReg (sq 0 sz) (by kernel_rfl) ?_
  refine lss rfl rfl rfl rfl ?_
  refine rNil ?_
  refine qSeq rfl ?_
  refine hSeq ?_
  refine hIfD rfl (fun c1 => ?_) (fun c1 => ?_)
  ·
   replace c1 : (i : Int) < (nz : Int) := c1
   have hiz : i < z.length := by omega
   obtain ⟨hl1, hl2⟩ := hdl _ (Math.getD_mem [] hiz)
   have hlc := Hd.hole_cases hv hl1
   have hh1 := Hd.hisL_len vn z q
   have hh2 := Hd.losL_len vn z q
   have hh3 := Hd.nums_len z.length
   refine hSkip ?_
   refine qSeq rfl ?_
   refine hSeq ?_
   refine hBlk ?_
   refine hSeq ?_
   refine hReg (sq 0 (sq 1 (sl 2 (sq 3 (sq 4 sz))))) (by kernel_rfl) ?_
   refine mvI rfl rfl rfl ?_
   refine ixRl (zn := i) (z.getD i []) el22 (Kn.drop (k := 4) kz) rfl rfl rfl rfl (by omega) (by omega) rfl (nth [] (by omega)) ?_
   intro be1 oe1 e1
   refine ldl Try.isAgg23 (Kn.fld e1 0 rfl) trv rfl rfl rfl ?_
   refine asI rfl rfl rfl ?_
   refine asS rfl rfl rfl ?_
   refine rNil ?_
   refine qSeq rfl ?_
   refine hSeq ?_
   refine hReg (sq 0 (sq 1 (sq 2 (sq 3 (sl 4 sz))))) (by kernel_rfl) ?_
   refine mvS rfl rfl rfl ?_
   refine mvI rfl rfl rfl ?_
   refine mvI rfl rfl rfl ?_
   refine oxI (zn := i) 2 rfl el23 rfl rfl rfl rfl (by omega) (by omega) rfl ?_
   intro gk2 hgk2
   refine stoI (off := i) (x := (i : Int)) 2 rfl hgk2 Try.sizeOf2 trv rfl rfl rfl rfl (by omega) ?_
   refine rNil ?_
   refine qSeq rfl ?_
   refine hSeq ?_
   refine hReg (sq 0 (sq 1 (sq 2 (sq 3 (sl 4 (sq 5 (sq 6 (sl 7 (sq 8 (sl 9 (sq 10 (sl 11 sz)))))))))))) (by kernel_rfl) ?_
   refine mvS rfl rfl rfl ?_
   refine mvI rfl rfl rfl ?_
   refine mvS rfl rfl rfl ?_
   refine mvI rfl rfl rfl ?_
   refine ldAl Try.isAgg109 Try.sizeOf109 (cBs 3 rfl) trv rfl rfl rfl rfl ?_
   refine mvS rfl rfl rfl ?_
   refine mvS rfl rfl rfl ?_
   refine callP (v := .int .i64 ((Hd.hiN (Hd.vLeast vn) (z.getD i []) q))) Try.call113 trv rfl rfl (fun w hs => impl_highIn_c _ _ _ _ _ _ _ ((z.getD i []).length) ((Hz i).2) _ _ nq cq _ w (Kn.drop (k := 4) ((Kn.imp kz fun _ h => h.kidM (nth [] (by omega)))) w hs) (Kn.drop (k := 4) kq w hs) (by omega) (by omega) (by first | rfl | omega) (by first | rfl | assumption | omega) (by assumption) (by omega)) ?_
   refine oxI (zn := i) 1 rfl el23 rfl rfl rfl rfl (by omega) (by omega) rfl ?_
   intro gk3 hgk3
   refine stoI (off := i) (x := (Hd.hiN (Hd.vLeast vn) (z.getD i []) q)) 1 rfl hgk3 Try.sizeOf2 trv rfl rfl rfl rfl (by omega) ?_
   refine oxI (zn := i) 0 rfl el23 rfl rfl rfl rfl (by omega) (by omega) rfl ?_
   intro gk4 hgk4
   refine stoI (off := i) (x := (-1)) 0 rfl hgk4 Try.sizeOf2 trv rfl rfl rfl rfl (by omega) ?_
   refine rNil ?_
   refine qSeq rfl ?_
   refine hSeq ?_
   refine hReg (sq 0 (sl 1 (sq 2 sz))) (by kernel_rfl) ?_
   refine fld fl109_5 rfl rfl rfl ?_
   refine ldl Try.isAgg2 (cB 3 rfl rfl) trv rfl rfl rfl ?_
   refine neq rfl rfl rfl rfl ?_
   refine rNil ?_
   refine qSeq rfl ?_
   refine hIfD rfl (fun c2 => ?_) (fun c2 => ?_)
   ·
    replace c2 : (Hd.vLow vn) ≠ 0 := c2
    have hlw := Hd.low_cases c2
    refine hReg (sq 0 (sq 1 (sl 2 (sq 3 (sq 4 (sl 5 (sq 6 (sl 7 sz)))))))) (by kernel_rfl) ?_
    refine mvS rfl rfl rfl ?_
    refine mvI rfl rfl rfl ?_
    refine ldAl Try.isAgg109 Try.sizeOf109 (cBs 3 rfl) trv rfl rfl rfl rfl ?_
    refine mvS rfl rfl rfl ?_
    refine mvS rfl rfl rfl ?_
    refine callP (v := .int .i64 ((Hd.loN (Hd.vLow vn) (z.getD i []) q))) Try.call114 trv rfl rfl (fun w hs => impl_lowIn_c _ _ _ _ _ _ _ ((z.getD i []).length) ((Hz i).2) _ _ nq cq _ w (Kn.drop (k := 4) ((Kn.imp kz fun _ h => h.kidM (nth [] (by omega)))) w hs) (Kn.drop (k := 4) kq w hs) (by first | assumption | omega) (by omega) (by omega) (by first | rfl | assumption | omega) (by assumption) (by omega)) ?_
    refine oxI (zn := i) 0 rfl el23 rfl rfl rfl rfl (by omega) (by omega) rfl ?_
    intro gk5 hgk5
    refine stoI (off := i) (x := (Hd.loN (Hd.vLow vn) (z.getD i []) q)) 0 rfl hgk5 Try.sizeOf2 trv rfl rfl rfl rfl (by omega) ?_
    refine rNil ?_
    refine qSeq rfl ?_
    refine hReg (sq 0 (sq 1 sz)) (by kernel_rfl) ?_
    refine add rfl rfl rfl rfl (by omega) ?_
    refine mvI rfl rfl rfl ?_
    refine rNil ?_
    rw [Hd.fill_put 0 0 _ (show (Hd.nums z.length).length = nz by rw [Hd.nums_len]; exact lz) (show i < nz by omega) (Hd.nums_get (by omega)), Hd.fill_put 0 0 _ (show (Hd.hisL vn z q).length = nz by rw [Hd.hisL_len]; exact lz) (show i < nz by omega) (Hd.hisL_get (by omega)), List.set_set, List.set_set, Hd.fill_put 0 0 _ (show (Hd.losL vn z q).length = nz by rw [Hd.losL_len]; exact lz) (show i < nz by omega) (by rw [Hd.losL_get (by omega), if_neg c2])]
    exact qNext rfl (i + 1) (by omega) (by omega) ⟨rfl, rfl, rfl, rfl, rfl, rfl, rfl, rfl, trivial⟩ (fun _ h => h.pick [0, 0, 0, 0])
   ·
    replace c2 : ¬ ((Hd.vLow vn) ≠ 0) := c2
    refine hSkip ?_
    refine qSeq rfl ?_
    refine hReg (sq 0 (sq 1 sz)) (by kernel_rfl) ?_
    refine add rfl rfl rfl rfl (by omega) ?_
    refine mvI rfl rfl rfl ?_
    refine rNil ?_
    rw [Hd.fill_put 0 0 _ (show (Hd.nums z.length).length = nz by rw [Hd.nums_len]; exact lz) (show i < nz by omega) (Hd.nums_get (by omega)), Hd.fill_put 0 0 _ (show (Hd.hisL vn z q).length = nz by rw [Hd.hisL_len]; exact lz) (show i < nz by omega) (Hd.hisL_get (by omega)), Hd.fill_put 0 0 _ (show (Hd.losL vn z q).length = nz by rw [Hd.losL_len]; exact lz) (show i < nz by omega) (by rw [Hd.losL_get (by omega), if_pos (Classical.not_not.1 c2)])]
    exact qNext rfl (i + 1) (by omega) (by omega) ⟨rfl, rfl, rfl, rfl, rfl, rfl, rfl, rfl, trivial⟩ (fun _ h => h.pick [0, 0, 0, 0])
  ·
   replace c1 : ¬ ((i : Int) < (nz : Int)) := c1
   rw [Math.fill_end 0 (show (Hd.nums z.length).length = nz by rw [Hd.nums_len]; exact lz) (by omega), Math.fill_end 0 (show (Hd.hisL vn z q).length = nz by rw [Hd.hisL_len]; exact lz) (by omega), Math.fill_end 0 (show (Hd.losL vn z q).length = nz by rw [Hd.losL_len]; exact lz) (by omega)]
   have hh1 := Hd.hisL_len vn z q
   have hh2 := Hd.losL_len vn z q
   have hh3 : Hd.nums z.length = Hd.nums (Hd.hisL vn z q).length := by rw [hh1]
   have hh4 := Hd.his_nonneg hv hdl hq5
   skip
   skip
   refine hExit rfl ?_
   refine qSeq rfl ?_
   refine hSeq ?_
   refine hReg (sq 0 (sq 1 (sl 2 (sq 3 (sq 4 (sl 5 (sq 6 sz))))))) (by kernel_rfl) ?_
   refine mvS rfl rfl rfl ?_
   refine bld rfl rfl rfl (bld121_0_1 (.int .i64 _) (.slice _ _ _) rfl rfl) ?_
   refine bsl trv1 rfl rfl rfl (bsl122_1 (.int .i64 24) (.slice (some ⟨bkm2, 0, none⟩) nz nz) rfl rfl) (fun bkl7 hbkl7 => ?_)
   refine mvS rfl rfl rfl ?_
   refine mvS rfl rfl rfl ?_
   refine callS Try.call115 trv1 rfl rfl (fun w hs => impl_awarded_c bkl7 _ nz nz _ _ nz nz _ _ nz nz _ _ w (RdB.of (hs.at_ 0 rfl)) (OwnI.rd (hs.at_ 3 rfl)) (OwnI.rd (hs.at_ 2 rfl)) (OwnI.rd (hs.at_ 1 rfl)) (by first | rfl | omega) (by assumption) (by omega) (by omega) (by assumption)) ?_
   rintro ⟨ay6, ny6, cy6, y6⟩ hr6
   dsimp only at hr6
   subst y6
   refine rPieces (L' := [OwnI 2 ay6 ny6 cy6 (((Hd.awd 24 (Hd.nums z.length) (Hd.hisL vn z q) (Hd.losL vn z q) nz))), blk bkl7 121 [.int .i64 24, .slice (some ⟨bkm2, 0, none⟩) nz nz], OwnI 2 (some ⟨bkm4, 0, none⟩) nz nz (Hd.losL vn z q), OwnI 2 (some ⟨bkm3, 0, none⟩) nz nz (Hd.hisL vn z q), OwnI 2 (some ⟨bkm2, 0, none⟩) nz nz (Hd.nums z.length), blk bka1 109 [.int .i64 (Hd.vHole vn), .int .i64 (Hd.vLeast vn), .int .i64 2, .int .i64 5, .bool true, .int .i64 (Hd.vLow vn)]]) (fun _ h => h) ?_
   refine rKnow (fun w hs => (show OwnI 2 ay6 ny6 cy6 (((Hd.awd 24 (Hd.nums z.length) (Hd.hisL vn z q) (Hd.losL vn z q) nz))) w from hs.at_ 0 rfl).lenz) (fun lenn8 => ?_)
   refine rVal (v' := .slice ay6 ny6 cy6) rfl ?_
   refine asS rfl rfl rfl ?_
   refine rNil ?_
   refine qSeq rfl ?_
   refine hRet ?_
   exact fun w hs => ⟨[.slice ay6 ny6 cy6], ⟨rfl, trivial⟩, ⟨(ay6, ny6, cy6, ((Hd.awd 24 (Hd.nums z.length) (Hd.hisL vn z q) (Hd.losL vn z q) nz))), rfl, by unfold Hd.parts; rw [lz], hs.pick [0]⟩⟩
end Go.Proofs.Yteaahdakammffaa
/- Contracts of cards that are left. Their conditions stand in each. -/
namespace Go.Proofs.Yteaahdakammffaa
open Go Go.RowKit V
set_option linter.unusedVariables false
set_option linter.unusedSimpArgs false
set_option maxRecDepth 100000
theorem bsl22_3 (v0 v1 v2 : Value) (h0 : v0.cells = #[v0]) (h1 : v1.cells = #[v1]) (h2 : v2.cells = #[v2]) : ∀ w, (Instr.buildSlice 22 3 ([(0, v0), (1, v1), (2, v2)] : List (Nat × Value)).toArray).run Try.prog w = .ok (.slice (some ⟨w.heap.size, 0, none⟩) 3 3) (w.alloc (.cells ([v0, v1, v2] : List Value).toArray 23)) := by
 intro w; simp [Instr.buildSlice, Instr.fill, Try.zeroValue23, Try.runUnderlying22, Try.sizeOf23, Value.cells_int, newRow, show Array.range 3 = #[0, 1, 2] from by decide, h0, h1, h2]
theorem impl_otherCards_c (az : Option Addr) (nz : Nat) (cz : Nat) (z : List Int) (w : World) (rz : RdI az nz z w) (hc : ∀ x ∈ z, 0 ≤ x ∧ x ≤ 51) :
  Calls Try.prog 73 #[.slice az nz cz] w (Ret fun v w' => ∃ x : Option Addr × Nat × Nat × List Int, v = .slice x.1 x.2.1 x.2.2.1 ∧ (x.2.2.2 = Iso.others z 52) ∧ Sep w none_ [OwnI 2 x.1 x.2.1 x.2.2.1 x.2.2.2] w') := by
 have kz : Kn w none_ [] (RdI az nz z) := fun w' hs => rz.ext hs.upd
 have lz : z.length = nz := rz.1
 have mz : nz ≤ 9223372036854775807 := rz.2.1
 refine fn (M := none_) (rs := [.tmp 2]) Try.func73 rfl Try.ntmps73 rfl rfl (Sep.start _ _) ?_
 refine hSeq ?_
 refine hReg (sq 0 sz) (by kernel_rfl) ?_
 refine asS rfl rfl rfl ?_
 refine rNil ?_
 refine qSeq rfl ?_
 refine hSeq ?_
 refine hReg (sq 0 sz) (by kernel_rfl) ?_
 refine asI rfl rfl rfl ?_
 refine rNil ?_
 refine qSeq rfl ?_
 refine hSeq ?_
 refine hSeq ?_
 refine hReg (sq 0 (sq 1 (sq 2 sz))) (by kernel_rfl) ?_
 refine mvS rfl rfl rfl ?_
 refine lenS Try.runUnderlying23 rfl rfl rfl ?_
 refine mvI rfl rfl rfl ?_
 refine rNil ?_
 refine qSeq rfl ?_
 refine hBlk ?_
 refine hLoop (α := Nat × Nat) (fun x => x.1 ≤ nz ∧ Iso.maskOk x.2 (z.take x.1)) (fun x => nz - x.1) (fun x => []) (fun x => [(3, .int .u64 (x.2 : Int)), (8, .slice az nz cz), (9, .int .i64 (nz : Int)), (10, .int .i64 (x.1 : Int))]) (0, 0) ⟨Nat.zero_le _, Iso.mask0⟩ (fun _ h => h.pick []) ⟨rfl, rfl, rfl, rfl, trivial⟩ ?_
 rintro ⟨i, m⟩ τ1 ⟨hi, hm⟩
 dsimp only at hi hm
 refine hRe [(3, .int .u64 (m : Int)), (8, .slice az nz cz), (9, .int .i64 (nz : Int)), (10, .int .i64 (i : Int))] [] rfl rfl ?_
 refine hSeq ?_
 refine hReg (sq 0 sz) (by kernel_rfl) ?_
 refine lss rfl rfl rfl rfl ?_
 refine rNil ?_
 refine qSeq rfl ?_
 refine hSeq ?_
 refine hIfD rfl (fun c1 => ?_) (fun c1 => ?_)
 ·
  replace c1 : (i : Int) < (nz : Int) := c1
  have hcx := hc _ (Math.getD_mem 0 (show i < z.length by omega))
  refine hSkip ?_
  refine qSeq rfl ?_
  refine hSeq ?_
  refine hBlk ?_
  refine hSeq ?_
  refine hReg (sq 0 (sl 1 (sq 2 sz))) (by kernel_rfl) ?_
  refine ixIl (zn := i) el23 (kz) rfl rfl rfl rfl (by omega) (by omega) rfl ?_
  intro ae1 e1
  refine ldl Try.isAgg2 (e1) trv rfl rfl rfl ?_
  refine asI rfl rfl rfl ?_
  refine rNil ?_
  refine qSeq rfl ?_
  refine hReg (sq 0 (sq 1 (sq 2 (sq 3 (sq 4 sz))))) (by kernel_rfl) ?_
  refine mvI rfl rfl rfl ?_
  refine mvI rfl rfl rfl ?_
  refine shlU rfl rfl rfl rfl (by omega) ?_
  refine orU (x := m) (y := (2 ^ (z.getD i 0).toNat)) rfl rfl rfl rfl (⟨Iso.mask_lt hm, Nat.lt_trans (Iso.pow_lt (by omega)) (by decide)⟩) ?_
  refine asI rfl rfl rfl ?_
  refine rNil ?_
  refine qSeq rfl ?_
  refine hReg (sq 0 (sq 1 sz)) (by kernel_rfl) ?_
  refine add rfl rfl rfl rfl (by omega) ?_
  refine mvI rfl rfl rfl ?_
  refine rNil ?_
  exact qNext rfl ((i + 1, m ||| 2 ^ (z.getD i 0).toNat)) (by dsimp only; omega) ⟨by dsimp only; omega, by dsimp only; rw [Iso.take_snoc (by omega)]; exact Iso.mask_step hm (by omega)⟩ ⟨rfl, rfl, rfl, rfl, trivial⟩ (fun _ h => h.pick [])
 ·
  replace c1 : ¬ ((i : Int) < (nz : Int)) := c1
  have hm2 : Iso.maskOk m z := by rwa [List.take_of_length_le (by omega)] at hm
  refine hExit rfl ?_
  refine qSeq rfl ?_
  refine hSeq ?_
  refine hReg (sq 0 sz) (by kernel_rfl) ?_
  refine asS rfl rfl rfl ?_
  refine rNil ?_
  refine qSeq rfl ?_
  refine hSeq ?_
  refine hSeq ?_
  refine hReg (sq 0 sz) (by kernel_rfl) ?_
  refine mvI rfl rfl rfl ?_
  refine rNil ?_
  refine qSeq rfl ?_
  refine hBlk ?_
  refine hPieces (fun _ h => Sep.nilI 2 h) ?_
  refine hLoop (α := Nat × Nat × Hd) (fun x => x.1 ≤ 52 ∧ x.2.1 ≤ x.1) (fun x => 52 - x.1) (fun x => [OwnI 2 x.2.2.1 x.2.1 x.2.2.2 (Iso.others z x.1)]) (fun x => [(3, .int .u64 (m : Int)), (6, .slice x.2.2.1 x.2.1 x.2.2.2), (19, .int .i64 (x.1 : Int))]) ((0, 0, (none, 0))) ⟨Nat.zero_le _, Nat.le_refl _⟩ (fun _ h => h.pick [0]) ⟨rfl, rfl, rfl, trivial⟩ ?_
  rintro ⟨k, q, hd⟩ τ2 ⟨hk, hq⟩
  dsimp only at hk hq
  refine hRe [(3, .int .u64 (m : Int)), (6, .slice hd.1 q hd.2), (19, .int .i64 (k : Int))] [OwnI 2 hd.1 q hd.2 (Iso.others z k)] rfl rfl ?_
  refine hSeq ?_
  refine hReg (sq 0 sz) (by kernel_rfl) ?_
  refine lss rfl rfl rfl rfl ?_
  refine rNil ?_
  refine qSeq rfl ?_
  refine hSeq ?_
  refine hIfD rfl (fun c2 => ?_) (fun c2 => ?_)
  ·
   replace c2 : (k : Int) < 52 := c2
   refine hSkip ?_
   refine qSeq rfl ?_
   refine hSeq ?_
   refine hBlk ?_
   refine hSeq ?_
   refine hReg (sq 0 (sq 1 sz)) (by kernel_rfl) ?_
   refine mvI rfl rfl rfl ?_
   refine asI rfl rfl rfl ?_
   refine rNil ?_
   refine qSeq rfl ?_
   refine hSeq ?_
   refine hReg (sq 0 (sq 1 (sq 2 (sq 3 (sq 4 sz))))) (by kernel_rfl) ?_
   refine mvI rfl rfl rfl ?_
   refine mvI rfl rfl rfl ?_
   refine shrU rfl rfl rfl rfl (by omega) ?_
   refine andU rfl rfl rfl rfl (Iso.mask_div hm2) ?_
   refine eql rfl rfl rfl rfl ?_
   refine rNil ?_
   refine qSeq rfl ?_
   refine hIfD rfl (fun c3 => ?_) (fun c3 => ?_)
   ·
    replace c3 : ((((m : Int) / 2 ^ (k : Int).toNat)) % 2) = 0 := c3
    replace c3 : z.contains (k : Int) = false := by
     have h0 := Iso.mask_bit hm2 (c := (k : Int)) (by omega)
     rw [← Bool.not_eq_true, List.contains_iff_mem]; intro h1; have := h0.2 h1; omega
    refine hReg (sq 0 (sq 1 (sl 2 (sl 3 (sq 4 sz))))) (by kernel_rfl) ?_
    refine mvS rfl rfl rfl ?_
    refine mvI rfl rfl rfl ?_
    refine bsl trv1 rfl rfl rfl (bsl23_1 (.int .i64 _) rfl) (fun bkl2 hbkl2 => ?_)
    refine aplI (N := q) (x := (k : Int)) 1 0 rfl rfl mk23 trv1 rfl rfl rfl rfl (by omega) ?_
    intro aq2 cq2
    refine asS rfl rfl rfl ?_
    refine rNil ?_
    refine qSeq rfl ?_
    refine hReg (sq 0 (sq 1 sz)) (by kernel_rfl) ?_
    refine add rfl rfl rfl rfl (by omega) ?_
    refine mvI rfl rfl rfl ?_
    refine rNil ?_
    rw [← Iso.others_no c3]
    exact qNext rfl ((k + 1, (q + 1), (aq2, cq2))) (by dsimp only; omega) ⟨by dsimp only; omega, by dsimp only; omega⟩ ⟨rfl, rfl, rfl, trivial⟩ (fun _ h => h.pick [1])
   ·
    replace c3 : ¬ (((((m : Int) / 2 ^ (k : Int).toNat)) % 2) = 0) := c3
    replace c3 : z.contains (k : Int) = true := by
     have h0 := Iso.mask_bit hm2 (c := (k : Int)) (by omega)
     rw [List.contains_iff_mem]; exact h0.1 (by omega)
    refine hSkip ?_
    refine qSeq rfl ?_
    refine hReg (sq 0 (sq 1 sz)) (by kernel_rfl) ?_
    refine add rfl rfl rfl rfl (by omega) ?_
    refine mvI rfl rfl rfl ?_
    refine rNil ?_
    rw [← Iso.others_yes c3]
    exact qNext rfl ((k + 1, q, (hd.1, hd.2))) (by dsimp only; omega) ⟨by dsimp only; omega, by dsimp only; omega⟩ ⟨rfl, rfl, rfl, trivial⟩ (fun _ h => h.pick [0])
  ·
   replace c2 : ¬ ((k : Int) < 52) := c2
   refine hExit rfl ?_
   refine qSeq rfl ?_
   refine hSeq ?_
   refine hReg (sq 0 (sq 1 sz)) (by kernel_rfl) ?_
   refine mvS rfl rfl rfl ?_
   refine asS rfl rfl rfl ?_
   refine rNil ?_
   refine qSeq rfl ?_
   refine hRet ?_
   exact fun w hs => ⟨[.slice hd.1 q hd.2], ⟨rfl, trivial⟩, ⟨(hd.1, q, hd.2, (Iso.others z k)), rfl, by rw [show k = 52 by omega], hs.pick [0]⟩⟩
theorem impl_restOf_c (az : Option Addr) (nz : Nat) (cz : Nat) (Hz : Nat → Hd) (z : List (List Int)) (aq : Option Addr) (nq : Nat) (cq : Nat) (q : List Int) (ad : Option Addr) (nd : Nat) (cd : Nat) (d : List Int) (w : World) (rz : RdR maK az nz Hz z w) (rq : RdI aq nq q w) (rd : RdI ad nd d w) (hf : z.flatten.length ≤ 1000) (hql : q.length ≤ 1000) (hdl : d.length ≤ 1000) (hc : ∀ x ∈ [z.flatten, q, d].flatten, 0 ≤ x ∧ x ≤ 51) :
  Calls Try.prog 111 #[.slice az nz cz, .slice aq nq cq, .slice ad nd cd] w (Ret fun v w' => ∃ x : Option Addr × Nat × Nat × List Int, v = .slice x.1 x.2.1 x.2.2.1 ∧ (x.2.2.2 = Hd.restL z q d) ∧ Sep w none_ [OwnI 2 x.1 x.2.1 x.2.2.1 x.2.2.2] w') := by
 have kz : Kn w none_ [] (RdR maK az nz Hz z) := fun w' hs => rz.ext hs.upd
 have lz : z.length = nz := rz.1
 have mz : nz ≤ 9223372036854775807 := rz.2.1
 have kq : Kn w none_ [] (RdI aq nq q) := fun w' hs => rq.ext hs.upd
 have lq : q.length = nq := rq.1
 have mq : nq ≤ 9223372036854775807 := rq.2.1
 have kd : Kn w none_ [] (RdI ad nd d) := fun w' hs => rd.ext hs.upd
 have ld : d.length = nd := rd.1
 have md : nd ≤ 9223372036854775807 := rd.2.1
 have hfl : [z.flatten, q, d].flatten.length = z.flatten.length + (q.length + d.length) := by rw [Hd.flat3, List.length_append, List.length_append]
 refine fn (M := none_) (rs := [.tmp 6]) Try.func111 rfl Try.ntmps111 rfl rfl (Sep.start _ _) ?_
 refine hSeq ?_
 refine hReg (sq 0 sz) (by kernel_rfl) ?_
 refine asS rfl rfl rfl ?_
 refine rNil ?_
 refine qSeq rfl ?_
 refine hSeq ?_
 refine hReg (sq 0 (sl 1 (sq 2 (sq 3 (sl 4 (sl 5 (sl 6 (sq 7 sz)))))))) (by kernel_rfl) ?_
 refine mvS rfl rfl rfl ?_
 refine callS Try.call97 trv1 rfl rfl (fun w hs => slices_Concat_int64_int64_c _ nz cz _ _ w (kz w hs) (by omega)) ?_
 rintro ⟨ay1, ny1, cy1, y1⟩ hr1
 dsimp only at hr1
 subst y1
 refine rPieces (L' := [OwnI 2 ay1 ny1 cy1 z.flatten]) (fun _ h => h) ?_
 refine rKnow (fun w hs => (show OwnI 2 ay1 ny1 cy1 z.flatten w from hs.at_ 0 rfl).lenz) (fun lenn1 => ?_)
 refine rVal (v' := .slice ay1 ny1 cy1) rfl ?_
 refine mvS rfl rfl rfl ?_
 refine mvS rfl rfl rfl ?_
 refine bsl trv1 rfl rfl rfl (bsl22_3 (.slice _ _ _) (.slice _ _ _) (.slice _ _ _) rfl rfl rfl) (fun bkl2 hbkl2 => ?_)
 refine callS Try.call97 trv1 rfl rfl (fun w hs => slices_Concat_int64_int64_c _ 3 3 _ _ w (RdR.lit3 (hs.at_ 0 rfl) (OwnI.rd (hs.at_ 1 rfl)) (Kn.drop (k := 2) kq w hs) (Kn.drop (k := 2) kd w hs)) (by omega)) ?_
 rintro ⟨ay2, ny2, cy2, y2⟩ hr2
 dsimp only at hr2
 subst y2
 refine rPieces (L' := [OwnI 2 ay2 ny2 cy2 ([z.flatten, q, d].flatten), blk bkl2 23 [.slice ay1 ny1 cy1, .slice aq nq cq, .slice ad nd cd], OwnI 2 ay1 ny1 cy1 z.flatten]) (fun _ h => h) ?_
 refine rKnow (fun w hs => (show OwnI 2 ay2 ny2 cy2 ([z.flatten, q, d].flatten) w from hs.at_ 0 rfl).lenz) (fun lenn3 => ?_)
 refine rVal (v' := .slice ay2 ny2 cy2) rfl ?_
 refine callS Try.call73 trv1 rfl rfl (fun w hs => impl_otherCards_c _ ny2 cy2 _ w (OwnI.rd (hs.at_ 0 rfl)) (by assumption)) ?_
 rintro ⟨ay3, ny3, cy3, y3⟩ hr3
 dsimp only at hr3
 subst y3
 refine rPieces (L' := [OwnI 2 ay3 ny3 cy3 (((Iso.others ([z.flatten, q, d].flatten) 52))), OwnI 2 ay2 ny2 cy2 ([z.flatten, q, d].flatten), blk bkl2 23 [.slice ay1 ny1 cy1, .slice aq nq cq, .slice ad nd cd], OwnI 2 ay1 ny1 cy1 z.flatten]) (fun _ h => h) ?_
 refine rKnow (fun w hs => (show OwnI 2 ay3 ny3 cy3 (((Iso.others ([z.flatten, q, d].flatten) 52))) w from hs.at_ 0 rfl).lenz) (fun lenn4 => ?_)
 refine rVal (v' := .slice ay3 ny3 cy3) rfl ?_
 refine asS rfl rfl rfl ?_
 refine rNil ?_
 refine qSeq rfl ?_
 refine hRet ?_
 exact fun w hs => ⟨[.slice ay3 ny3 cy3], ⟨rfl, trivial⟩, ⟨(ay3, ny3, cy3, ((Iso.others ([z.flatten, q, d].flatten) 52))), rfl, Hd.rest_eq z q d, hs.pick [0]⟩⟩
end Go.Proofs.Yteaahdakammffaa
