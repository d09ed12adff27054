/- Contracts of copies of trees. Their conditions stand in each. -/
import Derived.Test.YtjengglpbdgmnaaDoorZ7Mx
import Derived.Test.YtjengglpbdgmnaaDoorZ1Mx
import Derived.Test.YtjengglpbdgmnaaDoorZ2Mx
import Derived.Test.YtjengglpbdgmnaaDoorZ3Mx
import Derived.Test.YtjengglpbdgmnaaDoorZ4Mx
import Derived.Test.YtjengglpbdgmnaaDoorRows
import Derived.Test.YtjengglpbdgmnaaDoorZ5Mx
namespace Go.Proofs.YtjengglpbdgmnaaDoor
open Go Go.RowKit V
set_option linter.unusedVariables false
set_option linter.unusedSimpArgs false
set_option maxRecDepth 100000
theorem bld29_0_1_2 (v0_0 v1 v2 : Value) (h0_0 : v0_0.cells = #[v0_0]) (h1 : v1.cells = #[v1]) (h2 : v2.cells = #[v2]) : ∀ w, (Instr.build 29 ([(0, .agg #[v0_0]), (1, v1), (2, v2)] : List (Nat × Value)).toArray).run Tryd.prog w = .ok (.agg ([v0_0, v1, v2] : List Value).toArray) w := by
 intro w; simp [Instr.build, Instr.fill, Tryd.zeroValue29, Tryd.runUnderlying29, aggCells, Tryd.sizeOf26, Tryd.sizeOf27, h1, h2]
theorem spec_l01Own_c (az : Option Addr) (nz : Nat) (cz : Nat) (z : List Int) (w : World) (rz : RdI az nz z w) (hl : nz ≤ 1000000) :
  Calls Tryd.prog 90 #[.slice az nz cz] w (Ret fun v w' => ∃ x : Option Addr × Nat × Nat × List Int, v = .slice x.1 x.2.1 x.2.2.1 ∧ (x.2.2.2 = z) ∧ Sep w none_ [OwnI 2 x.1 x.2.1 x.2.2.1 x.2.2.2] w') := by
 have kz : Kn w none_ [] (RdI az nz z) := fun w' hs => rz.ext hs.upd
 have lz : z.length = nz := rz.1
 have mz : nz ≤ 9223372036854775807 := rz.2.1
 refine fn (M := none_) (rs := [.tmp 2]) Tryd.func90 rfl Tryd.ntmps90 rfl rfl (Sep.start _ _) ?_
 refine hSeq ?_
 refine hReg (sq 0 sz) (by kernel_rfl) ?_
 refine asS rfl rfl rfl ?_
 refine rNil ?_
 refine qSeq rfl ?_
 refine hSeq ?_
 refine hReg (sl 0 (sq 1 (sl 2 (sq 3 sz)))) (by kernel_rfl) ?_
 refine bsl trv1 rfl rfl rfl (bsl50_0) (fun bkl1 hbkl1 => ?_)
 refine mvS rfl rfl rfl ?_
 refine rPieces (fun _ h => Sep.litI h 0 [] rfl rfl rfl) ?_
 refine aplL (N := 0) (ys := z) 0 rfl (Kn.drop (k := 1) kz) mk50 trv1 rfl rfl rfl rfl (by omega) ?_
 intro aq1 cq1
 refine asS rfl rfl rfl ?_
 refine rNil ?_
 refine qSeq rfl ?_
 refine hRet ?_
 exact fun w hs => ⟨[.slice aq1 (0 + nz) cq1], ⟨rfl, trivial⟩, ⟨(aq1, (0 + nz), cq1, ([] ++ z)), rfl, by simp, hs.pick [0]⟩⟩
theorem spec_l21Tree_c (az : Option Addr) (nz : Nat) (cz : Nat) (Hz : Nat → Hd) (z : List Nd) (w : World) (rz : RdR ndK az nz Hz z w) (hn : nz ≤ 1000) (hkb : Math.kidsB z) :
  Calls Tryd.prog 84 #[.agg #[.slice az nz cz]] w (Ret fun v w' => ∃ x : Option Addr × Nat × Nat × (Nat → Hd) × List Nd, v = .agg #[.slice x.1 x.2.1 x.2.2.1] ∧ (x.2.2.2.2 = z) ∧ Sep w none_ [OwnR ndK 52 2 x.1 x.2.1 x.2.2.1 x.2.2.2.1 x.2.2.2.2] w') := by
 have kz : Kn w none_ [] (RdR ndK az nz Hz z) := fun w' hs => rz.ext hs.upd
 have lz : z.length = nz := rz.1
 have mz : nz ≤ 9223372036854775807 := rz.2.1
 refine fn (M := none_) (rs := [.cell 2 26]) Tryd.func84 rfl Tryd.ntmps84 rfl rfl (Sep.start _ _) ?_
 refine hSeq ?_
 refine hReg (sl 0 (sl 1 sz)) (by kernel_rfl) ?_
 refine box trv1 rfl rfl rfl rfl (fun bkb1 hbkb1 => ?_)
 refine alc Tryd.zeroValue26 rfl trv1 rfl rfl (fun bka2 hbka2 => ?_)
 refine rNil ?_
 refine qSeq rfl ?_
 refine hSeq ?_
 refine hReg (sl 0 (sq 1 sz)) (by kernel_rfl) ?_
 refine bsl trv1 rfl rfl rfl (bsl24_0) (fun bkl3 hbkl3 => ?_)
 refine asS rfl rfl rfl ?_
 refine rNil ?_
 refine qSeq rfl ?_
 refine hSeq ?_
 refine hSeq ?_
 refine hReg (sq 0 sz) (by kernel_rfl) ?_
 refine asI rfl rfl rfl ?_
 refine rNil ?_
 refine qSeq rfl ?_
 refine hBlk ?_
 refine hPieces (fun _ h => Sep.litR ndK 52 2 (fun _ => (none, 0)) h 0 rfl) ?_
 refine hLoop (α := Nat × Nat × Hd × (Nat → Hd)) (fun x => x.1 ≤ nz ∧ x.2.1 = x.1) (fun x => nz - x.1) (fun x => [OwnR ndK 52 2 x.2.2.1.1 x.2.1 x.2.2.1.2 x.2.2.2 (z.take x.1), blk bka2 26 [.slice none 0 0], blk bkb1 26 [.slice az nz cz]]) (fun x => [(1, .pointer (some ⟨bkb1, 0, none⟩)), (2, .pointer (some ⟨bka2, 0, none⟩)), (3, .slice x.2.2.1.1 x.2.1 x.2.2.1.2), (4, .int .i64 (x.1 : Int))]) ((0, 0, (((some ⟨bkl3, 0, none⟩), 0), (fun _ => (none, 0))))) ⟨Nat.zero_le _, rfl⟩ (fun _ h => h.pick [0, 0, 0]) ⟨rfl, rfl, rfl, rfl, trivial⟩ ?_
 rintro ⟨i, q, hd⟩ τ1 ⟨hi, hq⟩
 dsimp only at hi hq
 refine hRe [(1, .pointer (some ⟨bkb1, 0, none⟩)), (2, .pointer (some ⟨bka2, 0, none⟩)), (3, .slice hd.1.1 q hd.1.2), (4, .int .i64 (i : Int))] [OwnR ndK 52 2 hd.1.1 q hd.1.2 hd.2 (z.take i), blk bka2 26 [.slice none 0 0], blk bkb1 26 [.slice az nz cz]] rfl rfl ?_
 refine hSeq ?_
 refine hSeq ?_
 refine hReg (sq 0 (sq 1 (sl 2 (sq 3 (sq 4 sz))))) (by kernel_rfl) ?_
 refine mvI rfl rfl rfl ?_
 refine fld fl26_0 rfl rfl rfl ?_
 refine ldl Tryd.isAgg24 (cB 2 rfl rfl) trv rfl rfl rfl ?_
 refine lenS Tryd.runUnderlying24 rfl rfl rfl ?_
 refine lss rfl rfl rfl rfl ?_
 refine rNil ?_
 refine qSeq rfl ?_
 refine hIfD rfl (fun c1 => ?_) (fun c1 => ?_)
 ·
  replace c1 : (i : Int) < (nz : Int) := c1
  have hch := Math.kidsB_at hkb i
  refine hSkip ?_
  refine qSeq rfl ?_
  refine hSeq ?_
  refine hBlk ?_
  refine hSeq ?_
  refine hReg (sq 0 (sl 1 (sq 2 (sq 3 (sl 4 (sl 5 (sl 6 sz))))))) (by kernel_rfl) ?_
  refine fld fl26_0 rfl rfl rfl ?_
  refine ldl Tryd.isAgg24 (cB 2 rfl rfl) trv rfl rfl rfl ?_
  refine mvI rfl rfl rfl ?_
  refine ixRl (zn := i) (z.getD i dN) el24 (Kn.drop (k := 3) kz) rfl rfl rfl rfl (by omega) (by omega) rfl (nth dN (by omega)) ?_
  intro be1 oe1 e1
  refine ldAl Tryd.isAgg52 Tryd.sizeOf52 (e1) trv rfl rfl rfl rfl ?_
  refine alc Tryd.zeroValue52 rfl trv1 rfl rfl (fun bka4 hbka4 => ?_)
  refine stAl (vs := [.int .i64 ((z.getD i dN).pl), .int .i64 ((z.getD i dN).p0), .int .i64 ((z.getD i dN).p1), .int .i64 ((z.getD i dN).fo), .slice ((Hz i).1) (((z.getD i dN).ch).length) ((Hz i).2)]) 0 rfl Tryd.sizeOf52 trv rfl rfl rfl rfl rfl (by simp [Value.oneCell']) rfl ?_
  refine rNil ?_
  refine qSeq rfl ?_
  refine hSeq ?_
  refine hReg (sq 0 (sl 1 (sl 2 (sq 3 (sl 4 sz))))) (by kernel_rfl) ?_
  refine fld fl52_4 rfl rfl rfl ?_
  refine ldl Tryd.isAgg50 (cB 0 rfl rfl) trv rfl rfl rfl ?_
  refine callS Tryd.call90 trv1 rfl rfl (fun w hs => spec_l01Own_c _ (((z.getD i dN).ch).length) ((Hz i).2) _ w (Kn.drop (k := 4) ((Kn.imp kz fun _ h => h.kidN (nth dN (by omega)))) w hs) (by omega)) ?_
  rintro ⟨ay2, ny2, cy2, y2⟩ hr2
  dsimp only at hr2
  subst y2
  refine rKnow (fun w hs => (show OwnI 2 ay2 ny2 cy2 (((((z.getD i dN).ch)))) w from hs.at_ 0 rfl).lenz) (fun lenn5 => ?_)
  refine fld fl52_4 rfl rfl rfl ?_
  refine stl (v := .slice _ _ _) 1 rfl Tryd.sizeOf50 trv rfl rfl rfl rfl rfl (Nat.le_of_ble_eq_true rfl) ?_
  refine rNil ?_
  refine qSeq rfl ?_
  refine hReg (sq 0 (sl 1 (sl 2 (sl 3 (sq 4 sz))))) (by kernel_rfl) ?_
  refine mvS rfl rfl rfl ?_
  refine ldAl Tryd.isAgg52 Tryd.sizeOf52 (cBs 1 rfl) trv rfl rfl rfl rfl ?_
  refine bsl trv1 rfl rfl rfl (bsl24_1 (.int .i64 ((z.getD i dN).pl)) (.int .i64 ((z.getD i dN).p0)) (.int .i64 ((z.getD i dN).p1)) (.int .i64 ((z.getD i dN).fo)) (.slice ay2 ny2 cy2) rfl rfl rfl rfl rfl) (fun bkl6 hbkl6 => ?_)
  refine apR (hd := (ay2, cy2)) (x := (Nd.mk ((z.getD i dN).pl) ((z.getD i dN).p0) ((z.getD i dN).p1) ((z.getD i dN).fo) (((((z.getD i dN).ch)))))) 3 1 0 ndK.ok rfl rfl rfl (fun h => by first | rfl | (dsimp only at h; rw [h]; rfl) | (rw [h]; rfl) | exact congrArg (fun m => [Value.slice _ m _]) h) mk24 trv1 rfl rfl rfl rfl (by omega) ?_
  intro aq3 cq3
  refine asS rfl rfl rfl ?_
  refine rNil ?_
  refine qSeq rfl ?_
  refine hReg (sq 0 (sq 1 (sq 2 sz))) (by kernel_rfl) ?_
  refine mvI rfl rfl rfl ?_
  refine add rfl rfl rfl rfl (by omega) ?_
  refine asI rfl rfl rfl ?_
  refine rNil ?_
  rw [Math.take_snoc dN (by omega)]
  exact qNext rfl ((i + 1, q + 1, ((aq3, cq3), (hset hd.2 (z.take i).length (ay2, cy2))))) (by dsimp only; omega) ⟨by dsimp only; omega, by dsimp only; omega⟩ ⟨rfl, rfl, rfl, rfl, trivial⟩ (fun _ h => h.pick [0, 2, 2])
 ·
  replace c1 : ¬ ((i : Int) < (nz : Int)) := c1
  refine hExit rfl ?_
  refine qSeq rfl ?_
  refine hSeq ?_
  refine hReg (sq 0 (sq 1 (sl 2 sz))) (by kernel_rfl) ?_
  refine mvS rfl rfl rfl ?_
  refine bld rfl rfl rfl (bld26_0 (.slice _ _ _) rfl) ?_
  refine stAl (vs := [.slice hd.1.1 q hd.1.2]) 1 rfl Tryd.sizeOf26 trv rfl rfl rfl rfl rfl (by simp [Value.oneCell']) rfl ?_
  refine rNil ?_
  refine qSeq rfl ?_
  refine hRet ?_
  exact fun w hs => ⟨[_], ⟨⟨_, rfl, run_load_agg Tryd.isAgg26 Tryd.sizeOf26 rfl (cBs 1 rfl w hs)⟩, trivial⟩, ⟨(hd.1.1, q, hd.1.2, hd.2, (z.take i)), rfl, List.take_of_length_le (by omega), hs.pick [0]⟩⟩
theorem spec_l04Order_c (x0 : Int) (y0 : Int) (w : World) :
  Calls Tryd.prog 83 #[.int .i64 x0, .int .i64 y0] w (Ret fun v w' => v = .int .i64 (Math.order x0 y0) ∧ Ext w w') := by
 refine fn (M := none_) (rs := [.tmp 4]) Tryd.func83 rfl Tryd.ntmps83 rfl rfl (Sep.start _ _) ?_
 refine hSeq ?_
 refine hReg (sq 0 sz) (by kernel_rfl) ?_
 refine asI rfl rfl rfl ?_
 refine rNil ?_
 refine qSeq rfl ?_
 refine hSeq ?_
 refine hBlk ?_
 refine hSeq ?_
 refine hReg (sq 0 (sq 1 (sq 2 (sq 3 sz)))) (by kernel_rfl) ?_
 refine mvI rfl rfl rfl ?_
 refine mvI rfl rfl rfl ?_
 refine lss rfl rfl rfl rfl ?_
 refine asB rfl rfl rfl ?_
 refine rNil ?_
 refine qSeq rfl ?_
 refine hIfD rfl (fun c1 => ?_) (fun c1 => ?_)
 ·
  replace c1 : x0 < y0 := c1
  refine hSeq ?_
  refine hReg (sq 0 sz) (by kernel_rfl) ?_
  refine asI rfl rfl rfl ?_
  refine rNil ?_
  refine qSeq rfl ?_
  refine hRet ?_
  exact fun w hs => ⟨[.int .i64 (-1)], ⟨rfl, trivial⟩, ⟨vI (by unfold Math.order; (repeat' split) <;> omega), hs.upd⟩⟩
 ·
  replace c1 : ¬ (x0 < y0) := c1
  refine hSeq ?_
  refine hReg (sq 0 (sq 1 (sq 2 (sq 3 sz)))) (by kernel_rfl) ?_
  refine mvI rfl rfl rfl ?_
  refine mvI rfl rfl rfl ?_
  refine gtr rfl rfl rfl rfl ?_
  refine asB rfl rfl rfl ?_
  refine rNil ?_
  refine qSeq rfl ?_
  refine hIfD rfl (fun c2 => ?_) (fun c2 => ?_)
  ·
   replace c2 : y0 < x0 := c2
   refine hSeq ?_
   refine hReg (sq 0 sz) (by kernel_rfl) ?_
   refine asI rfl rfl rfl ?_
   refine rNil ?_
   refine qSeq rfl ?_
   refine hRet ?_
   exact fun w hs => ⟨[.int .i64 1], ⟨rfl, trivial⟩, ⟨vI (by unfold Math.order; (repeat' split) <;> omega), hs.upd⟩⟩
  ·
   replace c2 : ¬ (y0 < x0) := c2
   refine hSkip ?_
   refine qSeq rfl ?_
   refine hSeq ?_
   refine hReg (sq 0 sz) (by kernel_rfl) ?_
   refine asI rfl rfl rfl ?_
   refine rNil ?_
   refine qSeq rfl ?_
   refine hRet ?_
   exact fun w hs => ⟨[.int .i64 0], ⟨rfl, trivial⟩, ⟨vI (by unfold Math.order; (repeat' split) <;> omega), hs.upd⟩⟩
set_option maxHeartbeats 2000000 in
theorem spec_l21HighCard_c (az : Option Addr) (nz : Nat) (cz : Nat) (Hz : Nat → Hd) (z : List Nd) (kk : Int) (ag : Bool) (w : World) (rz : RdR ndK az nz Hz z w) (hn : nz ≤ 1000) (hkb : Math.kidsB z) (hkk : 0 ≤ kk ∧ kk ≤ 6) :
  Calls Tryd.prog 80 #[.agg #[.slice az nz cz], .int .i64 kk, .bool ag] w (Ret fun v w' => ∃ x : Option Addr × Nat × Nat × (Nat → Hd) × List Nd × Option Addr × Nat × Nat × (Nat → Hd) × List (List Int) × Option Addr × Nat × Nat × (Nat → Hd) × List (List Int), v = .agg #[.slice x.1 x.2.1 x.2.2.1, .slice x.2.2.2.2.2.1 x.2.2.2.2.2.2.1 x.2.2.2.2.2.2.2.1, .slice x.2.2.2.2.2.2.2.2.2.2.1 x.2.2.2.2.2.2.2.2.2.2.2.1 x.2.2.2.2.2.2.2.2.2.2.2.2.1] ∧ (x.2.2.2.2.1 = z ∧ x.2.2.2.2.2.2.2.2.2.1 = Math.hcW kk.toNat ag kk.toNat ∧ x.2.2.2.2.2.2.2.2.2.2.2.2.2.2 = Math.hcV kk.toNat kk.toNat) ∧ Sep w none_ [OwnR ndK 52 2 x.1 x.2.1 x.2.2.1 x.2.2.2.1 x.2.2.2.2.1, OwnR maK 50 2 x.2.2.2.2.2.1 x.2.2.2.2.2.2.1 x.2.2.2.2.2.2.2.1 x.2.2.2.2.2.2.2.2.1 x.2.2.2.2.2.2.2.2.2.1, OwnR maK 50 2 x.2.2.2.2.2.2.2.2.2.2.1 x.2.2.2.2.2.2.2.2.2.2.2.1 x.2.2.2.2.2.2.2.2.2.2.2.2.1 x.2.2.2.2.2.2.2.2.2.2.2.2.2.1 x.2.2.2.2.2.2.2.2.2.2.2.2.2.2] w') := by
 have kz : Kn w none_ [] (RdR ndK az nz Hz z) := fun w' hs => rz.ext hs.upd
 have lz : z.length = nz := rz.1
 have mz : nz ≤ 9223372036854775807 := rz.2.1
 refine fn (M := none_) (rs := [.cell 6 29]) Tryd.func80 rfl Tryd.ntmps80 rfl rfl (Sep.start _ _) ?_
 refine hSeq ?_
 refine hReg (sl 0 (sl 1 sz)) (by kernel_rfl) ?_
 refine box trv1 rfl rfl rfl rfl (fun bkb1 hbkb1 => ?_)
 refine alc Tryd.zeroValue29 rfl trv1 rfl rfl (fun bka2 hbka2 => ?_)
 refine rNil ?_
 refine qSeq rfl ?_
 refine hSeq ?_
 refine hReg (sl 0 (sl 1 (sq 2 (sq 3 sz)))) (by kernel_rfl) ?_
 refine bsl trv1 rfl rfl rfl (bsl27_0) (fun bkl3 hbkl3 => ?_)
 refine bsl trv1 rfl rfl rfl (bsl27_0) (fun bkl4 hbkl4 => ?_)
 refine asS rfl rfl rfl ?_
 refine asS rfl rfl rfl ?_
 refine rNil ?_
 refine qSeq rfl ?_
 refine hSeq ?_
 refine hSeq ?_
 refine hReg (sq 0 sz) (by kernel_rfl) ?_
 refine asI rfl rfl rfl ?_
 refine rNil ?_
 refine qSeq rfl ?_
 refine hBlk ?_
 refine hPieces (fun _ h => Sep.litR maK 50 2 (fun _ => (none, 0)) h 1 rfl) ?_
 refine hPieces (fun _ h => Sep.litR maK 50 2 (fun _ => (none, 0)) h 0 rfl) ?_
 refine hLoop (α := Nat × Nat × (Hd × (Nat → Hd)) × (Hd × (Nat → Hd))) (fun x => (x.1 : Int) ≤ kk ∧ x.2.1 = x.1) (fun x => kk.toNat - x.1) (fun x => [OwnR maK 50 2 x.2.2.2.1.1 x.2.1 x.2.2.2.1.2 x.2.2.2.2 (Math.hcV kk.toNat x.1), OwnR maK 50 2 x.2.2.1.1.1 x.2.1 x.2.2.1.1.2 x.2.2.1.2 (Math.hcW kk.toNat ag x.1), blk bka2 29 [.slice none 0 0, .slice none 0 0, .slice none 0 0], blk bkb1 26 [.slice az nz cz]]) (fun x => [(1, .int .i64 kk), (2, .bool ag), (3, .pointer (some ⟨bkb1, 0, none⟩)), (6, .pointer (some ⟨bka2, 0, none⟩)), (7, .slice x.2.2.1.1.1 x.2.1 x.2.2.1.1.2), (8, .slice x.2.2.2.1.1 x.2.1 x.2.2.2.1.2), (9, .int .i64 (x.1 : Int))]) ((0, 0, (((some ⟨bkl3, 0, none⟩), 0), (fun _ => (none, 0))), (((some ⟨bkl4, 0, none⟩), 0), (fun _ => (none, 0))))) ⟨by dsimp only; omega, rfl⟩ (fun _ h => h.pick [0, 0, 0, 0]) ⟨rfl, rfl, rfl, rfl, rfl, rfl, rfl, trivial⟩ ?_
 rintro ⟨i, q, hd, he⟩ τ1 ⟨hi, hq⟩
 dsimp only at hi hq
 refine hRe [(1, .int .i64 kk), (2, .bool ag), (3, .pointer (some ⟨bkb1, 0, none⟩)), (6, .pointer (some ⟨bka2, 0, none⟩)), (7, .slice hd.1.1 q hd.1.2), (8, .slice he.1.1 q he.1.2), (9, .int .i64 (i : Int))] [OwnR maK 50 2 he.1.1 q he.1.2 he.2 (Math.hcV kk.toNat i), OwnR maK 50 2 hd.1.1 q hd.1.2 hd.2 (Math.hcW kk.toNat ag i), blk bka2 29 [.slice none 0 0, .slice none 0 0, .slice none 0 0], blk bkb1 26 [.slice az nz cz]] rfl rfl ?_
 refine hSeq ?_
 refine hSeq ?_
 refine hReg (sq 0 (sq 1 (sq 2 sz))) (by kernel_rfl) ?_
 refine mvI rfl rfl rfl ?_
 refine mvI rfl rfl rfl ?_
 refine lss rfl rfl rfl rfl ?_
 refine rNil ?_
 refine qSeq rfl ?_
 refine hIfD rfl (fun c1 => ?_) (fun c1 => ?_)
 ·
  replace c1 : (i : Int) < kk := c1
  refine hSkip ?_
  refine qSeq rfl ?_
  refine hSeq ?_
  refine hBlk ?_
  refine hSeq ?_
  refine hReg (sl 0 (sl 1 (sq 2 (sq 3 sz)))) (by kernel_rfl) ?_
  refine bsl trv1 rfl rfl rfl (bsl50_0) (fun bkl5 hbkl5 => ?_)
  refine bsl trv1 rfl rfl rfl (bsl50_0) (fun bkl6 hbkl6 => ?_)
  refine asS rfl rfl rfl ?_
  refine asS rfl rfl rfl ?_
  refine rNil ?_
  refine qSeq rfl ?_
  refine hSeq ?_
  refine hSeq ?_
  refine hReg (sq 0 sz) (by kernel_rfl) ?_
  refine asI rfl rfl rfl ?_
  refine rNil ?_
  refine qSeq rfl ?_
  refine hBlk ?_
  refine hPieces (fun _ h => Sep.litI h 1 [] rfl rfl rfl) ?_
  refine hPieces (fun _ h => Sep.litI h 0 [] rfl rfl rfl) ?_
  refine hLoop (α := Nat × Nat × Hd × Hd) (fun x => (x.1 : Int) ≤ kk ∧ x.2.1 = x.1) (fun x => kk.toNat - x.1) (fun x => [OwnI 2 x.2.2.2.1 x.2.1 x.2.2.2.2 ((Math.mapR (fun b => Math.order (i : Int) (b : Int)) x.1)), OwnI 2 x.2.2.1.1 x.2.1 x.2.2.1.2 ((Math.mapR (Math.hcCell ag i) x.1)), OwnR maK 50 2 he.1.1 q he.1.2 he.2 (Math.hcV kk.toNat i), OwnR maK 50 2 hd.1.1 q hd.1.2 hd.2 (Math.hcW kk.toNat ag i), blk bka2 29 [.slice none 0 0, .slice none 0 0, .slice none 0 0], blk bkb1 26 [.slice az nz cz]]) (fun x => [(1, .int .i64 kk), (2, .bool ag), (3, .pointer (some ⟨bkb1, 0, none⟩)), (6, .pointer (some ⟨bka2, 0, none⟩)), (7, .slice hd.1.1 q hd.1.2), (8, .slice he.1.1 q he.1.2), (9, .int .i64 (i : Int)), (10, .slice x.2.2.1.1 x.2.1 x.2.2.1.2), (11, .slice x.2.2.2.1 x.2.1 x.2.2.2.2), (12, .int .i64 (x.1 : Int))]) ((0, 0, ((some ⟨bkl5, 0, none⟩), 0), ((some ⟨bkl6, 0, none⟩), 0))) ⟨by dsimp only; omega, rfl⟩ (fun _ h => h.pick [0, 0, 0, 0, 0, 0]) ⟨rfl, rfl, rfl, rfl, rfl, rfl, rfl, rfl, rfl, rfl, trivial⟩ ?_
  rintro ⟨j, q2, h3, h4⟩ τ2 ⟨hj, hq2⟩
  dsimp only at hj hq2
  refine hRe [(1, .int .i64 kk), (2, .bool ag), (3, .pointer (some ⟨bkb1, 0, none⟩)), (6, .pointer (some ⟨bka2, 0, none⟩)), (7, .slice hd.1.1 q hd.1.2), (8, .slice he.1.1 q he.1.2), (9, .int .i64 (i : Int)), (10, .slice h3.1 q2 h3.2), (11, .slice h4.1 q2 h4.2), (12, .int .i64 (j : Int))] [OwnI 2 h4.1 q2 h4.2 ((Math.mapR (fun b => Math.order (i : Int) (b : Int)) j)), OwnI 2 h3.1 q2 h3.2 ((Math.mapR (Math.hcCell ag i) j)), OwnR maK 50 2 he.1.1 q he.1.2 he.2 (Math.hcV kk.toNat i), OwnR maK 50 2 hd.1.1 q hd.1.2 hd.2 (Math.hcW kk.toNat ag i), blk bka2 29 [.slice none 0 0, .slice none 0 0, .slice none 0 0], blk bkb1 26 [.slice az nz cz]] rfl rfl ?_
  refine hSeq ?_
  refine hSeq ?_
  refine hReg (sq 0 (sq 1 (sq 2 sz))) (by kernel_rfl) ?_
  refine mvI rfl rfl rfl ?_
  refine mvI rfl rfl rfl ?_
  refine lss rfl rfl rfl rfl ?_
  refine rNil ?_
  refine qSeq rfl ?_
  refine hIfD rfl (fun c2 => ?_) (fun c2 => ?_)
  ·
   replace c2 : (j : Int) < kk := c2
   refine hSkip ?_
   refine qSeq rfl ?_
   refine hSeq ?_
   refine hBlk ?_
   refine hSeq ?_
   refine hSeq ?_
   refine hReg (sq 0 (sq 1 (sq 2 (sq 3 (sq 4 (sq 5 (sq 6 sz))))))) (by kernel_rfl) ?_
   refine mvI rfl rfl rfl ?_
   refine mvI rfl rfl rfl ?_
   refine eql rfl rfl rfl rfl ?_
   refine mvB rfl rfl rfl ?_
   refine rBoolD (d := 30) rfl (fun g3 => ?_) (fun g3 => ?_)
   ·
    replace g3 : (i : Int) = (j : Int) := g3
    refine mvB rfl rfl rfl ?_
    refine not rfl rfl rfl ?_
    refine pickB rfl rfl rfl rfl ?_
    refine rNil ?_
    refine qSeq rfl ?_
    refine hIfN rfl (fun c4 => ?_) (fun c4 => ?_)
    ·
     replace c4 : ag = false := c4
     refine hReg (sq 0 (sl 1 (sl 2 (sq 3 sz)))) (by kernel_rfl) ?_
     refine mvS rfl rfl rfl ?_
     refine bsl trv1 rfl rfl rfl (bsl50_1 (.int .i64 _) rfl) (fun bkl7 hbkl7 => ?_)
     refine aplI (N := q2) (x := 0) 2 0 rfl rfl mk50 trv1 rfl rfl rfl rfl (by omega) ?_
     intro aq1 cq1
     refine asS rfl rfl rfl ?_
     refine rNil ?_
     refine qSeq rfl ?_
     refine hReg (sq 0 (sq 1 (sq 2 (sl 3 (sl 4 (sl 5 (sq 6 sz))))))) (by kernel_rfl) ?_
     refine mvS rfl rfl rfl ?_
     refine mvI rfl rfl rfl ?_
     refine mvI rfl rfl rfl ?_
     refine callP (v := .int .i64 ((Math.order (i : Int) (j : Int)))) Tryd.call83 trv rfl rfl (fun w hs => spec_l04Order_c _ _ w ) ?_
     refine bsl trv1 rfl rfl rfl (bsl50_1 (.int .i64 _) rfl) (fun bkl8 hbkl8 => ?_)
     refine aplI (N := q2) (x := (Math.order (i : Int) (j : Int))) 2 0 rfl rfl mk50 trv1 rfl rfl rfl rfl (by omega) ?_
     intro aq2 cq2
     refine asS rfl rfl rfl ?_
     refine rNil ?_
     refine qSeq rfl ?_
     refine hReg (sq 0 (sq 1 (sq 2 sz))) (by kernel_rfl) ?_
     refine mvI rfl rfl rfl ?_
     refine add rfl rfl rfl rfl (by omega) ?_
     refine asI rfl rfl rfl ?_
     refine rNil ?_
     rw [Math.hcRow_add0 g3 (by simpa using c4), show Math.mapR (fun b => Math.order (i : Int) (b : Int)) j ++ [Math.order (i : Int) (j : Int)] = Math.mapR (fun b => Math.order (i : Int) (b : Int)) (j + 1) from Math.mapR_snoc (fun b => Math.order (i : Int) (b : Int)) j]
     exact qNext rfl ((j + 1, q2 + 1, (aq1, cq1), (aq2, cq2))) (by dsimp only; omega) ⟨by dsimp only; omega, by dsimp only; omega⟩ ⟨rfl, rfl, rfl, rfl, rfl, rfl, rfl, rfl, rfl, rfl, trivial⟩ (fun _ h => h.pick [2, 2, 2, 2, 2, 2])
    ·
     replace c4 : ag = true := c4
     refine hReg (sq 0 (sl 1 (sl 2 (sq 3 sz)))) (by kernel_rfl) ?_
     refine mvS rfl rfl rfl ?_
     refine bsl trv1 rfl rfl rfl (bsl50_1 (.int .i64 _) rfl) (fun bkl9 hbkl9 => ?_)
     refine aplI (N := q2) (x := 1) 2 0 rfl rfl mk50 trv1 rfl rfl rfl rfl (by omega) ?_
     intro aq3 cq3
     refine asS rfl rfl rfl ?_
     refine rNil ?_
     refine qSeq rfl ?_
     refine hReg (sq 0 (sq 1 (sq 2 (sl 3 (sl 4 (sl 5 (sq 6 sz))))))) (by kernel_rfl) ?_
     refine mvS rfl rfl rfl ?_
     refine mvI rfl rfl rfl ?_
     refine mvI rfl rfl rfl ?_
     refine callP (v := .int .i64 ((Math.order (i : Int) (j : Int)))) Tryd.call83 trv rfl rfl (fun w hs => spec_l04Order_c _ _ w ) ?_
     refine bsl trv1 rfl rfl rfl (bsl50_1 (.int .i64 _) rfl) (fun bkl10 hbkl10 => ?_)
     refine aplI (N := q2) (x := (Math.order (i : Int) (j : Int))) 2 0 rfl rfl mk50 trv1 rfl rfl rfl rfl (by omega) ?_
     intro aq4 cq4
     refine asS rfl rfl rfl ?_
     refine rNil ?_
     refine qSeq rfl ?_
     refine hReg (sq 0 (sq 1 (sq 2 sz))) (by kernel_rfl) ?_
     refine mvI rfl rfl rfl ?_
     refine add rfl rfl rfl rfl (by omega) ?_
     refine asI rfl rfl rfl ?_
     refine rNil ?_
     rw [Math.hcRow_add2 (by simpa using c4), show Math.mapR (fun b => Math.order (i : Int) (b : Int)) j ++ [Math.order (i : Int) (j : Int)] = Math.mapR (fun b => Math.order (i : Int) (b : Int)) (j + 1) from Math.mapR_snoc (fun b => Math.order (i : Int) (b : Int)) j]
     exact qNext rfl ((j + 1, q2 + 1, (aq3, cq3), (aq4, cq4))) (by dsimp only; omega) ⟨by dsimp only; omega, by dsimp only; omega⟩ ⟨rfl, rfl, rfl, rfl, rfl, rfl, rfl, rfl, rfl, rfl, trivial⟩ (fun _ h => h.pick [2, 2, 2, 2, 2, 2])
   ·
    replace g3 : ¬ ((i : Int) = (j : Int)) := g3
    refine rSkipQ rfl rfl ?_
    refine rSkipQ rfl rfl ?_
    refine pickB rfl rfl rfl rfl ?_
    refine rNil ?_
    refine qSeq rfl ?_
    refine hIfF rfl ?_
    refine hReg (sq 0 (sl 1 (sl 2 (sq 3 sz)))) (by kernel_rfl) ?_
    refine mvS rfl rfl rfl ?_
    refine bsl trv1 rfl rfl rfl (bsl50_1 (.int .i64 _) rfl) (fun bkl11 hbkl11 => ?_)
    refine aplI (N := q2) (x := 1) 2 0 rfl rfl mk50 trv1 rfl rfl rfl rfl (by omega) ?_
    intro aq5 cq5
    refine asS rfl rfl rfl ?_
    refine rNil ?_
    refine qSeq rfl ?_
    refine hReg (sq 0 (sq 1 (sq 2 (sl 3 (sl 4 (sl 5 (sq 6 sz))))))) (by kernel_rfl) ?_
    refine mvS rfl rfl rfl ?_
    refine mvI rfl rfl rfl ?_
    refine mvI rfl rfl rfl ?_
    refine callP (v := .int .i64 ((Math.order (i : Int) (j : Int)))) Tryd.call83 trv rfl rfl (fun w hs => spec_l04Order_c _ _ w ) ?_
    refine bsl trv1 rfl rfl rfl (bsl50_1 (.int .i64 _) rfl) (fun bkl12 hbkl12 => ?_)
    refine aplI (N := q2) (x := (Math.order (i : Int) (j : Int))) 2 0 rfl rfl mk50 trv1 rfl rfl rfl rfl (by omega) ?_
    intro aq6 cq6
    refine asS rfl rfl rfl ?_
    refine rNil ?_
    refine qSeq rfl ?_
    refine hReg (sq 0 (sq 1 (sq 2 sz))) (by kernel_rfl) ?_
    refine mvI rfl rfl rfl ?_
    refine add rfl rfl rfl rfl (by omega) ?_
    refine asI rfl rfl rfl ?_
    refine rNil ?_
    rw [Math.hcRow_add1 g3, show Math.mapR (fun b => Math.order (i : Int) (b : Int)) j ++ [Math.order (i : Int) (j : Int)] = Math.mapR (fun b => Math.order (i : Int) (b : Int)) (j + 1) from Math.mapR_snoc (fun b => Math.order (i : Int) (b : Int)) j]
    exact qNext rfl ((j + 1, q2 + 1, (aq5, cq5), (aq6, cq6))) (by dsimp only; omega) ⟨by dsimp only; omega, by dsimp only; omega⟩ ⟨rfl, rfl, rfl, rfl, rfl, rfl, rfl, rfl, rfl, rfl, trivial⟩ (fun _ h => h.pick [2, 2, 2, 2, 2, 2])
  ·
   replace c2 : ¬ ((j : Int) < kk) := c2
   refine hExit rfl ?_
   refine qSeq rfl ?_
   refine hSeq ?_
   refine hReg (sq 0 (sq 1 (sl 2 (sl 3 (sq 4 sz))))) (by kernel_rfl) ?_
   refine mvS rfl rfl rfl ?_
   refine mvS rfl rfl rfl ?_
   refine bsl trv1 rfl rfl rfl (bsl27_1 (.slice _ _ _) rfl) (fun bkl13 hbkl13 => ?_)
   refine apR (hd := (h3.1, h3.2)) (x := (Math.mapR (Math.hcCell ag i) j)) 4 2 0 maK.ok rfl rfl rfl (fun h => by first | rfl | (dsimp only at h; rw [h]; rfl) | (rw [h]; rfl) | exact congrArg (fun m => [Value.slice _ m _]) h) mk27 trv1 rfl rfl rfl rfl (by omega) ?_
   intro aq7 cq7
   refine asS rfl rfl rfl ?_
   refine rNil ?_
   refine qSeq rfl ?_
   refine hReg (sq 0 (sq 1 (sl 2 (sl 3 (sq 4 sz))))) (by kernel_rfl) ?_
   refine mvS rfl rfl rfl ?_
   refine mvS rfl rfl rfl ?_
   refine bsl trv1 rfl rfl rfl (bsl27_1 (.slice _ _ _) rfl) (fun bkl14 hbkl14 => ?_)
   refine apR (hd := (h4.1, h4.2)) (x := (Math.mapR (fun b => Math.order (i : Int) (b : Int)) j)) 4 3 0 maK.ok rfl rfl rfl (fun h => by first | rfl | (dsimp only at h; rw [h]; rfl) | (rw [h]; rfl) | exact congrArg (fun m => [Value.slice _ m _]) h) mk27 trv1 rfl rfl rfl rfl (by omega) ?_
   intro aq8 cq8
   refine asS rfl rfl rfl ?_
   refine rNil ?_
   refine qSeq rfl ?_
   refine hReg (sq 0 (sq 1 (sq 2 sz))) (by kernel_rfl) ?_
   refine mvI rfl rfl rfl ?_
   refine add rfl rfl rfl rfl (by omega) ?_
   refine asI rfl rfl rfl ?_
   refine rNil ?_
   rw [show Math.mapR (Math.hcCell ag i) j = Math.hcRow kk.toNat ag i from by unfold Math.hcRow; congr 1; omega, show Math.mapR (fun b => Math.order (i : Int) (b : Int)) j = Math.hcWin kk.toNat i from by unfold Math.hcWin; congr 1; omega, show Math.hcW kk.toNat ag i ++ [Math.hcRow kk.toNat ag i] = Math.hcW kk.toNat ag (i + 1) from Math.mapR_snoc _ _, show Math.hcV kk.toNat i ++ [Math.hcWin kk.toNat i] = Math.hcV kk.toNat (i + 1) from Math.mapR_snoc _ _]
   exact qNext rfl ((i + 1, q + 1, ((aq7, cq7), (hset hd.2 (Math.hcW kk.toNat ag i).length (h3.1, h3.2))), ((aq8, cq8), (hset he.2 (Math.hcV kk.toNat i).length (h4.1, h4.2))))) (by dsimp only; omega) ⟨by dsimp only; omega, by dsimp only; omega⟩ ⟨rfl, rfl, rfl, rfl, rfl, rfl, rfl, trivial⟩ (fun _ h => h.pick [0, 1, 2, 2])
 ·
  replace c1 : ¬ ((i : Int) < kk) := c1
  refine hExit rfl ?_
  refine qSeq rfl ?_
  refine hSeq ?_
  refine hReg (sl 0 (sl 1 (sq 2 (sq 3 (sq 4 (sl 5 sz)))))) (by kernel_rfl) ?_
  refine ldAl Tryd.isAgg26 Tryd.sizeOf26 (cBs 3 rfl) trv rfl rfl rfl rfl ?_
  refine callS Tryd.call84 trv1 rfl rfl (fun w hs => spec_l21Tree_c _ nz cz _ _ w (Kn.drop (k := 4) kz w hs) (by first | omega | (have := Math.tree_len (by assumption : Math.isTree _ = true); omega)) (by first | assumption | exact (by assumption : _ ∧ Math.kidsB _).2 | exact Math.tree_kids (by assumption))) ?_
  rintro ⟨ay9, ny9, cy9, Hy9, y9⟩ hr9
  dsimp only at hr9
  subst y9
  refine rKnow (fun w hs => (show OwnR ndK 52 2 ay9 ny9 cy9 Hy9 z w from hs.at_ 0 rfl).1) (fun lenn15 => ?_)
  refine mvS rfl rfl rfl ?_
  refine mvS rfl rfl rfl ?_
  refine bld rfl rfl rfl (bld29_0_1_2 (.slice ay9 ny9 cy9) (.slice _ _ _) (.slice _ _ _) rfl rfl rfl) ?_
  refine stAl (vs := [.slice ay9 ny9 cy9, .slice hd.1.1 q hd.1.2, .slice he.1.1 q he.1.2]) 3 rfl Tryd.sizeOf29 trv rfl rfl rfl rfl rfl (by simp [Value.oneCell']) rfl ?_
  refine rNil ?_
  refine qSeq rfl ?_
  refine hRet ?_
  exact fun w hs => ⟨[_], ⟨⟨_, rfl, run_load_agg Tryd.isAgg29 Tryd.sizeOf29 rfl (cBs 3 rfl w hs)⟩, trivial⟩, ⟨(ay9, ny9, cy9, Hy9, z, hd.1.1, q, hd.1.2, hd.2, (Math.hcW kk.toNat ag i), he.1.1, q, he.1.2, he.2, (Math.hcV kk.toNat i)), rfl, ⟨rfl, by rw [show i = kk.toNat from by omega], by rw [show i = kk.toNat from by omega]⟩, hs.pick [0, 1, 0]⟩⟩
end Go.Proofs.YtjengglpbdgmnaaDoor
/- Contracts of bet trees of the program. Their conditions stand in each. -/
namespace Go.Proofs.YtjengglpbdgmnaaDoor
open Go Go.RowKit V
set_option linter.unusedVariables false
set_option linter.unusedSimpArgs false
set_option maxRecDepth 100000
end Go.Proofs.YtjengglpbdgmnaaDoor
/- Contracts of Kuhn's game. Their conditions stand in each. -/
namespace Go.Proofs.YtjengglpbdgmnaaDoor
open Go Go.RowKit V
set_option linter.unusedVariables false
set_option linter.unusedSimpArgs false
set_option maxRecDepth 100000
theorem spec_KuhnGame_c (w : World) :
  Calls Tryd.prog 79 #[] w (Ret fun v w' => ∃ x : Option Addr × Nat × Nat × (Nat → Hd) × List Nd × Option Addr × Nat × Nat × (Nat → Hd) × List (List Int) × Option Addr × Nat × Nat × (Nat → Hd) × List (List Int), v = .agg #[.slice x.1 x.2.1 x.2.2.1, .slice x.2.2.2.2.2.1 x.2.2.2.2.2.2.1 x.2.2.2.2.2.2.2.1, .slice x.2.2.2.2.2.2.2.2.2.2.1 x.2.2.2.2.2.2.2.2.2.2.2.1 x.2.2.2.2.2.2.2.2.2.2.2.2.1] ∧ (x.2.2.2.2.1 = (Math.betAt 1 1 0).1 ∧ x.2.2.2.2.2.2.2.2.2.1 = Math.hcW 3 false 3 ∧ x.2.2.2.2.2.2.2.2.2.2.2.2.2.2 = Math.hcV 3 3) ∧ Sep w none_ [OwnR ndK 52 2 x.1 x.2.1 x.2.2.1 x.2.2.2.1 x.2.2.2.2.1, OwnR maK 50 2 x.2.2.2.2.2.1 x.2.2.2.2.2.2.1 x.2.2.2.2.2.2.2.1 x.2.2.2.2.2.2.2.2.1 x.2.2.2.2.2.2.2.2.2.1, OwnR maK 50 2 x.2.2.2.2.2.2.2.2.2.2.1 x.2.2.2.2.2.2.2.2.2.2.2.1 x.2.2.2.2.2.2.2.2.2.2.2.2.1 x.2.2.2.2.2.2.2.2.2.2.2.2.2.1 x.2.2.2.2.2.2.2.2.2.2.2.2.2.2] w') := by
 refine fn (M := none_) (rs := [.cell 0 29]) Tryd.func79 rfl Tryd.ntmps79 rfl rfl (Sep.start _ _) ?_
 refine hSeq ?_
 refine hReg (sl 0 sz) (by kernel_rfl) ?_
 refine alc Tryd.zeroValue29 rfl trv1 rfl rfl (fun bka1 hbka1 => ?_)
 refine rNil ?_
 refine qSeq rfl ?_
 refine hSeq ?_
 refine hReg (sl 0 (sq 1 (sq 2 (sq 3 (sl 4 (sl 5 (sq 6 sz))))))) (by kernel_rfl) ?_
 refine callS Tryd.call16 trv1 rfl rfl (fun w hs => spec_BetTree_c _ _ _ w ) ?_
 rintro ⟨ay1, ny1, cy1, Hy1, y1, q1⟩ ⟨hr1a, hr1b⟩
 dsimp only at hr1a hr1b
 subst y1
 subst q1
 refine rKnow (fun w hs => (show OwnR ndK 52 2 ay1 ny1 cy1 Hy1 ((((Math.betAt (1 : Int) (1 : Int) (0 : Int)).1))) w from hs.at_ 0 rfl).1) (fun lenn2 => ?_)
 refine mv rfl rfl rfl ?_
 refine ext rfl rfl rfl rfl ?_
 refine ext rfl rfl rfl rfl ?_
 refine alc Tryd.zeroValue26 rfl trv1 rfl rfl (fun bka3 hbka3 => ?_)
 refine stAl (vs := [.slice ay1 ny1 cy1]) 0 rfl Tryd.sizeOf26 trv rfl rfl rfl rfl rfl (by simp [Value.oneCell']) rfl ?_
 refine asI rfl rfl rfl ?_
 refine rNil ?_
 refine qSeq rfl ?_
 refine hSeq ?_
 refine hReg (sl 0 (sl 1 (sl 2 sz))) (by kernel_rfl) ?_
 refine ldAl Tryd.isAgg26 Tryd.sizeOf26 (cBs 0 rfl) trv rfl rfl rfl rfl ?_
 refine callS Tryd.call80 trv1 rfl rfl (fun w hs => spec_l21HighCard_c _ ny1 cy1 _ _ _ _ w (OwnR.rd (hs.at_ 1 rfl) ndK.ok) (by have := Math.betAt_bd 1 1 0; omega) (Math.betAt_kids 1 1 0) (by omega)) ?_
 rintro ⟨ay2, ny2, cy2, Hy2, y2, ayw2, nyw2, cyw2, Hyw2, yw2, ayv2, nyv2, cyv2, Hyv2, yv2⟩ ⟨hr2a, hr2b, hr2c⟩
 dsimp only at hr2a hr2b hr2c
 subst y2
 subst yw2
 subst yv2
 refine rKnow (fun w hs => (show OwnR ndK 52 2 ay2 ny2 cy2 Hy2 (((((((Math.betAt (1 : Int) (1 : Int) (0 : Int)).1)))))) w from hs.at_ 0 rfl).1) (fun lenn4 => ?_)
 refine rKnow (fun w hs => (show OwnR maK 50 2 ayw2 nyw2 cyw2 Hyw2 (Math.hcW 3 false 3) w from hs.at_ 1 rfl).1) (fun lenn5 => ?_)
 refine rKnow (fun w hs => (show OwnR maK 50 2 ayv2 nyv2 cyv2 Hyv2 (Math.hcV 3 3) w from hs.at_ 2 rfl).1) (fun lenn6 => ?_)
 refine stAl (vs := [.slice ay2 ny2 cy2, .slice ayw2 nyw2 cyw2, .slice ayv2 nyv2 cyv2]) 5 rfl Tryd.sizeOf29 trv rfl rfl rfl rfl rfl (by simp [Value.oneCell']) rfl ?_
 refine rNil ?_
 refine qSeq rfl ?_
 refine hRet ?_
 exact fun w hs => ⟨[_], ⟨⟨_, rfl, run_load_agg Tryd.isAgg29 Tryd.sizeOf29 rfl (cBs 5 rfl w hs)⟩, trivial⟩, ⟨(ay2, ny2, cy2, Hy2, ((((((Math.betAt (1 : Int) (1 : Int) (0 : Int)).1))))), ayw2, nyw2, cyw2, Hyw2, (Math.hcW 3 false 3), ayv2, nyv2, cyv2, Hyv2, (Math.hcV 3 3)), rfl, ⟨rfl, rfl, rfl⟩, hs.pick [0, 0, 0]⟩⟩
end Go.Proofs.YtjengglpbdgmnaaDoor
