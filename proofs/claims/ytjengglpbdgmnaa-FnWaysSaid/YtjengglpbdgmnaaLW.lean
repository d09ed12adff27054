/- Contracts of ways. Their conditions stand in each. -/
import Derived.Test.YtjengglpbdgmnaaEngC
import Derived.Test.YtjengglpbdgmnaaTree
import Derived.Test.YtjengglpbdgmnaaParts
import Derived.Test.YtjengglpbdgmnaaWay
import Derived.Test.YtjengglpbdgmnaaL1
import Derived.Test.YtjengglpbdgmnaaL2
import Derived.Test.YtjengglpbdgmnaaL3
import Derived.Test.YtjengglpbdgmnaaLP
import Derived.Test.YtjengglpbdgmnaaRows
namespace Go.Proofs.Ytjengglpbdgmnaa
open Go Go.RowKit V
set_option linter.unusedVariables false
set_option linter.unusedSimpArgs false
set_option maxRecDepth 100000



theorem slices_Reverse_int64_int64_c (az : Option Addr) (nz : Nat) (cz : Nat) (z : List Int) (w : World) (M0 : Nat → Prop) (hs0 : Sep w M0 [OwnI 2 az nz cz z] w) :
    Calls Try.prog 104 #[.slice az nz cz] w (Ret fun v w' => ∃ x : Unit, v = .tuple #[] ∧ True ∧ Sep w M0 [OwnI 2 az nz cz z.reverse] w') := by
  have lzz := (show OwnI 2 az nz cz z w from hs0.at_ 0 rfl)
  have mmz := Own.max lzz
  have lz : z.length = nz := lzz.lenz
  clear lzz
  refine fn (M := M0) (rs := []) Try.func104 rfl Try.ntmps104 rfl rfl hs0 ?_
  refine hSeq ?_
  refine hReg (sq 0 (sq 1 (sq 2 (sq 3 (sq 4 sz))))) (by kernel_rfl) ?_
  refine mvS rfl rfl rfl ?_
  refine lenS Try.runUnderlying28 rfl rfl rfl ?_
  refine sub rfl rfl rfl rfl (by omega) ?_
  refine asI rfl rfl rfl ?_
  refine asI rfl rfl rfl ?_
  refine rNil ?_
  refine qSeq rfl ?_
  refine hBlk ?_
  refine hLoop (α := Nat × Int × List Int) (fun x => (x.1 ≤ nz ∧ x.2.1 = (nz : Int) - 1 - (x.1 : Int)) ∧ Math.RevTo z x.2.2 x.1) (fun x => nz - x.1) (fun x => [OwnI 2 az nz cz x.2.2]) (fun x => [(0, .slice az nz cz), (2, .int .i64 (x.1 : Int)), (3, .int .i64 x.2.1)]) ((0, (nz : Int) - 1, z)) (⟨⟨Nat.zero_le _, by dsimp only; omega⟩, Math.rev_start z⟩) (fun _ h => h.pick [0]) ⟨rfl, rfl, rfl, trivial⟩ ?_
  rintro ⟨i, j, c⟩ τ1 ⟨⟨hi, hj⟩, hr⟩
  dsimp only at hi hj hr
  refine hRe [(0, .slice az nz cz), (2, .int .i64 (i : Int)), (3, .int .i64 j)] [OwnI 2 az nz cz c] rfl rfl ?_
  refine hSeq ?_
  refine hSeq ?_
  refine hReg (sq 0 (sq 1 (sq 2 sz))) (by kernel_rfl) ?_
  refine mvI rfl rfl rfl ?_
  refine mvI rfl rfl rfl ?_
  refine lss rfl rfl rfl rfl ?_
  refine rNil ?_
  refine qSeq rfl ?_
  refine hIfD rfl (fun c1 => ?_) (fun c1 => ?_)
  · -- c1T
    replace c1 : (i : Int) < j := c1
    have hcl := hr.1
    refine hSkip ?_
    refine qSeq rfl ?_
    refine hSeq ?_
    refine hBlk ?_
    refine hDraw (Ls := []) (by kernel_rfl) (sq 0 (sq 1 (sq 2 (sq 3 (sq 4 (sq 5 (sq 6 (sq 8 (sq 9 (sq 10 (.alt (sl 7 (sl 11 (sq 12 (sl 13 (sq 14 (sf 15 sz)))))) (sl 11 (sl 7 (sq 12 (sl 13 (sq 14 (sf 15 sz))))))))))))))))) (by kernel_rfl) (.cons _ .slnil) ?_
    refine mvS rfl rfl rfl ?_
    refine mvI rfl rfl rfl ?_
    refine mvS rfl rfl rfl ?_
    refine mvI rfl rfl rfl ?_
    refine mvS rfl rfl rfl ?_
    refine mvI rfl rfl rfl ?_
    refine ixIl (zn := (j).toNat) el28 ((Kn.at_ 0 rfl).imp fun _ h => OwnI.rd h) rfl rfl rfl rfl (by omega) (by omega) rfl ?_
    intro ae1 e1
    refine mvS rfl rfl rfl ?_
    refine mvI rfl rfl rfl ?_
    refine ixIl (zn := i) el28 ((Kn.at_ 0 rfl).imp fun _ h => OwnI.rd h) rfl rfl rfl rfl (by omega) (by omega) rfl ?_
    intro ae2 e2
    refine rAlt ?_ ?_
    ·
      refine ldl Try.isAgg2 (e1) (fun _ h => h.pick []) rfl rfl rfl ?_
      refine ldl Try.isAgg2 (e2) (fun _ h => h.pick []) rfl rfl rfl ?_
      refine oxI (zn := i) 0 rfl el28 rfl rfl rfl rfl (by omega) (by omega) rfl ?_
      intro gk3 hgk3
      refine stoI (off := i) (x := (c.getD ((j).toNat) 0)) 0 rfl hgk3 Try.sizeOf2 (fun _ h => h.pick []) rfl rfl rfl rfl (by omega) ?_
      refine oxI (zn := (j).toNat) 0 rfl el28 rfl rfl rfl rfl (by omega) (by omega) rfl ?_
      intro gk4 hgk4
      refine stoIF (off := (j).toNat) (x := (c.getD i 0)) 0 rfl hgk4 Try.sizeOf2 rfl rfl rfl rfl (by omega) ?_
      refine rNil ?_
      refine qSeq rfl ?_
      refine hReg (sq 0 (sq 1 (sq 2 (sq 3 (sq 4 (sq 5 sz)))))) (by kernel_rfl) ?_
      refine mvI rfl rfl rfl ?_
      refine add rfl rfl rfl rfl (by omega) ?_
      refine mvI rfl rfl rfl ?_
      refine sub rfl rfl rfl rfl (by omega) ?_
      refine asI rfl rfl rfl ?_
      refine asI rfl rfl rfl ?_
      refine rNil ?_
      exact qNext rfl ((i + 1, j - 1, (((c.set i ((c.getD ((j).toNat) 0)))).set ((j).toNat) (c.getD i 0)))) (by dsimp only; omega) (⟨⟨by dsimp only; omega, by dsimp only; omega⟩, Math.rev_swap hr (by omega) (by omega)⟩) ⟨rfl, rfl, rfl, trivial⟩ (fun _ h => h.pick [0])
    ·
      refine ldl Try.isAgg2 (e2) (fun _ h => h.pick []) rfl rfl rfl ?_
      refine ldl Try.isAgg2 (e1) (fun _ h => h.pick []) rfl rfl rfl ?_
      refine oxI (zn := i) 0 rfl el28 rfl rfl rfl rfl (by omega) (by omega) rfl ?_
      intro gk5 hgk5
      refine stoI (off := i) (x := (c.getD ((j).toNat) 0)) 0 rfl hgk5 Try.sizeOf2 (fun _ h => h.pick []) rfl rfl rfl rfl (by omega) ?_
      refine oxI (zn := (j).toNat) 0 rfl el28 rfl rfl rfl rfl (by omega) (by omega) rfl ?_
      intro gk6 hgk6
      refine stoIF (off := (j).toNat) (x := (c.getD i 0)) 0 rfl hgk6 Try.sizeOf2 rfl rfl rfl rfl (by omega) ?_
      refine rNil ?_
      refine qSeq rfl ?_
      refine hReg (sq 0 (sq 1 (sq 2 (sq 3 (sq 4 (sq 5 sz)))))) (by kernel_rfl) ?_
      refine mvI rfl rfl rfl ?_
      refine add rfl rfl rfl rfl (by omega) ?_
      refine mvI rfl rfl rfl ?_
      refine sub rfl rfl rfl rfl (by omega) ?_
      refine asI rfl rfl rfl ?_
      refine asI rfl rfl rfl ?_
      refine rNil ?_
      exact qNext rfl ((i + 1, j - 1, (((c.set i ((c.getD ((j).toNat) 0)))).set ((j).toNat) (c.getD i 0)))) (by dsimp only; omega) (⟨⟨by dsimp only; omega, by dsimp only; omega⟩, Math.rev_swap hr (by omega) (by omega)⟩) ⟨rfl, rfl, rfl, trivial⟩ (fun _ h => h.pick [0])
  · -- c1F
    replace c1 : ¬ ((i : Int) < j) := c1
    refine hExit rfl ?_
    refine qRet rfl ?_
    rw [Math.rev_end hr (by omega)]
    exact fun w hs => ⟨[], trivial, ⟨(), rfl, trivial, hs.pick [0]⟩⟩

theorem spec_l20Way_c_r (kk_ : Nat) : ∀ (az : Option Addr) (nz : Nat) (cz : Nat) (Hz : Nat → Hd) (z : List Nd) (u : Int) (w : World), u.toNat = kk_ → RdR ndK az nz Hz z w → (Math.isTree z = true) → (0 ≤ u ∧ u < (nz : Int)) → Calls Try.prog 105 #[.agg #[.slice az nz cz], .int .i64 u] w (Ret fun v w' => ∃ x : Option Addr × Nat × Nat × List Int, v = .slice x.1 x.2.1 x.2.2.1 ∧ (x.2.2.2 = Math.wayOf z u) ∧ Sep w none_ [OwnI 2 x.1 x.2.1 x.2.2.1 x.2.2.2] w') := by
  induction kk_ using Nat.strongRecOn with
  | _ kk_ ih =>
    intro az nz cz Hz z u w hK rz ht hu
    have kz : Kn w none_ [] (RdR ndK az nz Hz z) := fun w' hs => rz.ext hs.upd
    have lz : z.length = nz := rz.1
    have mz : nz ≤ 9223372036854775807 := rz.2.1
    have hn := (Math.isTree_ok ht).1

    refine fn (M := none_) (rs := [.tmp 4]) Try.func105 rfl Try.ntmps105 rfl rfl (Sep.start _ _) ?_
    refine hSeq ?_
    refine hReg (sl 0 (sq 1 sz)) (by kernel_rfl) ?_
    refine box trv1 rfl rfl rfl rfl (fun bkb1 hbkb1 => ?_)
    refine asS rfl rfl rfl ?_
    refine rNil ?_
    refine qSeq rfl ?_
    refine hSeq ?_
    refine hSeq ?_
    refine hReg (sq 0 (sq 1 sz)) (by kernel_rfl) ?_
    refine mvI rfl rfl rfl ?_
    refine eql rfl rfl rfl rfl ?_
    refine rNil ?_
    refine qSeq rfl ?_
    refine hIfD rfl (fun c1 => ?_) (fun c1 => ?_)
    · -- c1T
      replace c1 : u = 0 := c1
      refine hSeq ?_
      refine hReg (sl 0 (sq 1 sz)) (by kernel_rfl) ?_
      refine bsl trv1 rfl rfl rfl (bsl28_0) (fun bkl2 hbkl2 => ?_)
      refine asS rfl rfl rfl ?_
      refine rNil ?_
      refine qSeq rfl ?_
      refine hRet ?_
      refine knP (fun _ h => Sep.litI h 0 [] rfl rfl rfl) ?_
      exact fun w hs => ⟨[.slice (some ⟨bkl2, 0, none⟩) 0 0], ⟨rfl, trivial⟩, ⟨((some ⟨bkl2, 0, none⟩), 0, 0, []), rfl, by rw [c1]; exact (Math.wayOf_0 ht).symm, hs.pick [0]⟩⟩
    · -- c1F
      replace c1 : ¬ (u = 0) := c1
      refine hSkip ?_
      refine qSeq rfl ?_
      refine hSeq ?_
      refine hSeq ?_
      refine hReg (sq 0 sz) (by kernel_rfl) ?_
      refine asI rfl rfl rfl ?_
      refine rNil ?_
      refine qSeq rfl ?_
      refine hBlk ?_
      refine hLoop (α := Nat) (fun i => (i : Int) ≤ u ∧ ∀ j, j < i → ¬ u ∈ (z.getD j dN).ch) (fun i => u.toNat - i) (fun i => [blk bkb1 26 [.slice az nz cz]]) (fun i => [(1, .int .i64 u), (2, .pointer (some ⟨bkb1, 0, none⟩)), (5, .int .i64 (i : Int))]) 0 ⟨by omega, fun j hj => by omega⟩ (fun _ h => h.pick [0]) ⟨rfl, rfl, rfl, trivial⟩ ?_
      rintro i τ1 ⟨hi, hal⟩
      refine hSeq ?_
      refine hSeq ?_
      refine hReg (sq 0 (sq 1 (sq 2 sz))) (by kernel_rfl) ?_
      refine mvI rfl rfl rfl ?_
      refine mvI rfl rfl rfl ?_
      refine lss rfl rfl rfl rfl ?_
      refine rNil ?_
      refine qSeq rfl ?_
      refine hIfD rfl (fun c2 => ?_) (fun c2 => ?_)
      · -- c2T
        replace c2 : (i : Int) < u := c2
        have hch := Math.ok_pl ((Math.allOk_iff' lz).1 (Math.isTree_ok ht).2.1 i (by omega))
        have hyl := Math.wayAt_len z (i : Int)
        rw [Math.wayAt_yes lz ht (by omega)] at hyl
        dsimp only at hyl
        refine hSkip ?_
        refine qSeq rfl ?_
        refine hSeq ?_
        refine hBlk ?_
        refine hSeq ?_
        refine hReg (sq 0 sz) (by kernel_rfl) ?_
        refine asI rfl rfl rfl ?_
        refine rNil ?_
        refine qSeq rfl ?_
        refine hBlk ?_
        refine hLoop (α := Nat) (fun k => k ≤ (z.getD i dN).ch.length ∧ ∀ q, q < k → (z.getD i dN).ch.getD q 0 ≠ u) (fun k => (z.getD i dN).ch.length - k) (fun k => [blk bkb1 26 [.slice az nz cz]]) (fun k => [(1, .int .i64 u), (2, .pointer (some ⟨bkb1, 0, none⟩)), (5, .int .i64 (i : Int)), (6, .int .i64 (k : Int))]) 0 ⟨Nat.zero_le _, fun q hq => by omega⟩ (fun _ h => h.pick [0]) ⟨rfl, rfl, rfl, rfl, trivial⟩ ?_
        rintro k τ2 ⟨hk, hin⟩
        refine hSeq ?_
        refine hSeq ?_
        refine hReg (sq 0 (sq 1 (sl 2 (sq 3 (sq 4 (sq 5 (sl 6 (sq 7 (sq 8 sz))))))))) (by kernel_rfl) ?_
        refine mvI rfl rfl rfl ?_
        refine fld fl26_0 rfl rfl rfl ?_
        refine ldl Try.isAgg24 (cB 0 rfl rfl) trv rfl rfl rfl ?_
        refine mvI rfl rfl rfl ?_
        refine ixRl (zn := i) (z.getD i dN) el24 (Kn.drop (k := 1) kz) rfl rfl rfl rfl (by omega) (by omega) rfl (nth dN (by omega)) ?_
        intro be1 oe1 e1
        refine fld fl88_4 rfl rfl rfl ?_
        refine ldl Try.isAgg28 (Kn.fld e1 4 rfl) trv rfl rfl rfl ?_
        refine lenS Try.runUnderlying28 rfl rfl rfl ?_
        refine lss rfl rfl rfl rfl ?_
        refine rNil ?_
        refine qSeq rfl ?_
        refine hIfD rfl (fun c3 => ?_) (fun c3 => ?_)
        · -- c3T
          replace c3 : (k : Int) < ((((z.getD i dN).ch).length : Nat) : Int) := c3
          refine hSkip ?_
          refine qSeq rfl ?_
          refine hSeq ?_
          refine hBlk ?_
          refine hSeq ?_
          refine hReg (sq 0 (sl 1 (sq 2 (sq 3 (sq 4 (sl 5 (sq 6 (sq 7 (sl 8 (sq 9 (sq 10 sz))))))))))) (by kernel_rfl) ?_
          refine fld fl26_0 rfl rfl rfl ?_
          refine ldl Try.isAgg24 (cB 0 rfl rfl) trv rfl rfl rfl ?_
          refine mvI rfl rfl rfl ?_
          refine ixRl (zn := i) (z.getD i dN) el24 (Kn.drop (k := 1) kz) rfl rfl rfl rfl (by omega) (by omega) rfl (nth dN (by omega)) ?_
          intro be2 oe2 e2
          refine fld fl88_4 rfl rfl rfl ?_
          refine ldl Try.isAgg28 (Kn.fld e2 4 rfl) trv rfl rfl rfl ?_
          refine mvI rfl rfl rfl ?_
          refine ixIl (zn := k) el28 (Kn.drop (k := 1) ((Kn.imp kz fun _ h => h.kidN (nth dN (by omega))))) rfl rfl rfl rfl (by omega) (by omega) rfl ?_
          intro ae3 e3
          refine ldl Try.isAgg2 (e3) trv rfl rfl rfl ?_
          refine mvI rfl rfl rfl ?_
          refine eql rfl rfl rfl rfl ?_
          refine rNil ?_
          refine qSeq rfl ?_
          refine hIfD rfl (fun c4 => ?_) (fun c4 => ?_)
          · -- c4T
            replace c4 : (((z.getD i dN).ch).getD k 0) = u := c4
            refine hSeq ?_
            refine hReg (sl 0 (sq 1 (sl 2 (sq 3 (sl 4 (sl 5 (sq 6 sz))))))) (by kernel_rfl) ?_
            refine ldAl Try.isAgg26 Try.sizeOf26 (cBs 0 rfl) trv rfl rfl rfl rfl ?_
            refine mvI rfl rfl rfl ?_
            refine callS Try.call105 trv1 rfl rfl (fun w hs => ih _ (by omega) _ nz cz _ _ _ w rfl (Kn.drop (k := 1) kz w hs) (by assumption) (by omega)) ?_
            rintro ⟨ay4, ny4, cy4, y4⟩ hr4
            dsimp only at hr4
            subst y4
            refine rKnow (fun w hs => (show OwnI 2 ay4 ny4 cy4 (((Math.wayOf z (i : Int)))) w from hs.at_ 0 rfl).lenz) (fun lenn4 => ?_)
            refine mvI rfl rfl rfl ?_
            refine bsl trv1 rfl rfl rfl (bsl28_1 (.int .i64 _) rfl) (fun bkl5 hbkl5 => ?_)
            refine aplI (N := ny4) (x := (k : Int)) 1 0 rfl rfl mk28 trv1 rfl rfl rfl rfl (by omega) ?_
            intro aq5 cq5
            refine asS rfl rfl rfl ?_
            refine rNil ?_
            refine qSeq rfl ?_
            refine hRet ?_
            exact fun w hs => ⟨[.slice aq5 (ny4 + 1) cq5], ⟨rfl, trivial⟩, ⟨(aq5, (ny4 + 1), cq5, (((Math.wayOf z (i : Int))) ++ [(k : Int)])), rfl, Math.way_found ht (by omega) (by omega) (by omega) c4 hin, hs.pick [1]⟩⟩
          · -- c4F
            replace c4 : ¬ ((((z.getD i dN).ch).getD k 0) = u) := c4
            refine hSkip ?_
            refine qSeq rfl ?_
            refine hReg (sq 0 (sq 1 (sq 2 sz))) (by kernel_rfl) ?_
            refine mvI rfl rfl rfl ?_
            refine add rfl rfl rfl rfl (by omega) ?_
            refine asI rfl rfl rfl ?_
            refine rNil ?_
            exact qNext rfl (k + 1) (by omega) ⟨by omega, Math.upto hin (by assumption)⟩ ⟨rfl, rfl, rfl, rfl, trivial⟩ (fun _ h => h.pick [0])
        · -- c3F
          replace c3 : ¬ ((k : Int) < ((((z.getD i dN).ch).length : Nat) : Int)) := c3
          refine hExit rfl ?_
          refine qSeq rfl ?_
          refine hReg (sq 0 (sq 1 (sq 2 sz))) (by kernel_rfl) ?_
          refine mvI rfl rfl rfl ?_
          refine add rfl rfl rfl rfl (by omega) ?_
          refine asI rfl rfl rfl ?_
          refine rNil ?_
          exact qNext rfl (i + 1) (by omega) ⟨by omega, Math.upto hal (Math.not_kid fun q hq => hin q (by omega))⟩ ⟨rfl, rfl, rfl, trivial⟩ (fun _ h => h.pick [0])
      · -- c2F
        replace c2 : ¬ ((i : Int) < u) := c2
        exact (Math.no_way ht (i := i) (u := u) (by omega) (by omega) hal).elim

theorem spec_l20Way_c (az : Option Addr) (nz : Nat) (cz : Nat) (Hz : Nat → Hd) (z : List Nd) (u : Int) (w : World) (rz : RdR ndK az nz Hz z w) (ht : Math.isTree z = true) (hu : 0 ≤ u ∧ u < (nz : Int)) :
    Calls Try.prog 105 #[.agg #[.slice az nz cz], .int .i64 u] w (Ret fun v w' => ∃ x : Option Addr × Nat × Nat × List Int, v = .slice x.1 x.2.1 x.2.2.1 ∧ (x.2.2.2 = Math.wayOf z u) ∧ Sep w none_ [OwnI 2 x.1 x.2.1 x.2.2.1 x.2.2.2] w') := spec_l20Way_c_r _ az nz cz Hz z u w rfl rz ht hu

theorem spec_WayTo_c (az : Option Addr) (nz : Nat) (cz : Nat) (Hz : Nat → Hd) (z : List Nd) (u : Int) (w : World) (rz : RdR ndK az nz Hz z w) :
    Calls Try.prog 24 #[.agg #[.slice az nz cz], .int .i64 u] w (Ret fun v w' => ∃ x : Option Addr × Nat × Nat × List Int × Int, v = .tuple #[.slice x.1 x.2.1 x.2.2.1, .int .i64 x.2.2.2.2] ∧ (x.2.2.2.1 = (Math.wayAt z u).1 ∧ x.2.2.2.2 = (Math.wayAt z u).2) ∧ Sep w none_ [OwnI 2 x.1 x.2.1 x.2.2.1 x.2.2.2.1] w') := by
  have kz : Kn w none_ [] (RdR ndK az nz Hz z) := fun w' hs => rz.ext hs.upd
  have lz : z.length = nz := rz.1
  have mz : nz ≤ 9223372036854775807 := rz.2.1
  refine fn (M := none_) (rs := [.tmp 4, .tmp 5]) Try.func24 rfl Try.ntmps24 rfl rfl (Sep.start _ _) ?_
  refine hSeq ?_
  refine hReg (sl 0 (sq 1 (sq 2 sz))) (by kernel_rfl) ?_
  refine box trv1 rfl rfl rfl rfl (fun bkb1 hbkb1 => ?_)
  refine asS rfl rfl rfl ?_
  refine asI rfl rfl rfl ?_
  refine rNil ?_
  refine qSeq rfl ?_
  refine hSeq ?_
  refine hSeq ?_
  refine hReg (sl 0 (sl 1 (sq 2 sz))) (by kernel_rfl) ?_
  refine ldAl Try.isAgg26 Try.sizeOf26 (cBs 0 rfl) trv rfl rfl rfl rfl ?_
  refine callP (v := .bool (Math.isTree z)) Try.call21 trv rfl rfl (fun w hs => spec_IsTree_c _ _ _ _ _ w (Kn.drop (k := 1) kz w hs)) ?_
  refine not rfl rfl rfl ?_
  refine rNil ?_
  refine qSeq rfl ?_
  refine hIfN rfl (fun c1 => ?_) (fun c1 => ?_)
  · -- c1T
    replace c1 : (Math.isTree z) = false := c1
    refine hSeq ?_
    refine hReg (sq 0 (sq 1 sz)) (by kernel_rfl) ?_
    refine asS rfl rfl rfl ?_
    refine asI rfl rfl rfl ?_
    refine rNil ?_
    refine qSeq rfl ?_
    refine hRet ?_
    refine knP (fun _ h => Sep.nilI 2 h) ?_
    exact fun w hs => ⟨[.slice none 0 0, .int .i64 1], ⟨rfl, ⟨rfl, trivial⟩⟩, ⟨(none, 0, 0, [], 1), rfl, by rw [Math.wayAt_no1 c1]; exact ⟨rfl, rfl⟩, hs.pick [0]⟩⟩
  · -- c1F
    replace c1 : (Math.isTree z) = true := c1
    refine hSkip ?_
    refine qSeq rfl ?_
    refine hSeq ?_
    refine hSeq ?_
    refine hReg (sq 0 (sq 1 (sl 2 (sq 3 (sq 4 (sl 5 (sq 6 sz))))))) (by kernel_rfl) ?_
    refine mvI rfl rfl rfl ?_
    refine fld fl26_0 rfl rfl rfl ?_
    refine ldl Try.isAgg24 (cB 0 rfl rfl) trv rfl rfl rfl ?_
    refine lenS Try.runUnderlying24 rfl rfl rfl ?_
    refine sub rfl rfl rfl rfl (by omega) ?_
    refine callP (v := .bool (decide ((0 : Int) ≤ u ∧ u ≤ (((nz : Int) - 1))))) Try.call97 trv rfl rfl (fun w hs => spec_l01In_c _ _ _ w ) ?_
    refine notD rfl rfl rfl ?_
    refine rNil ?_
    refine qSeq rfl ?_
    refine hIfD rfl (fun c2 => ?_) (fun c2 => ?_)
    · -- c2T
      replace c2 : ¬ ((0 : Int) ≤ u ∧ u ≤ (((nz : Int) - 1))) := c2
      refine hSeq ?_
      refine hReg (sq 0 (sq 1 sz)) (by kernel_rfl) ?_
      refine asS rfl rfl rfl ?_
      refine asI rfl rfl rfl ?_
      refine rNil ?_
      refine qSeq rfl ?_
      refine hRet ?_
      refine knP (fun _ h => Sep.nilI 2 h) ?_
      exact fun w hs => ⟨[.slice none 0 0, .int .i64 2], ⟨rfl, ⟨rfl, trivial⟩⟩, ⟨(none, 0, 0, [], 2), rfl, by rw [Math.wayAt_no2 lz c1 c2]; exact ⟨rfl, rfl⟩, hs.pick [0]⟩⟩
    · -- c2F
      replace c2 : ¬ (¬ ((0 : Int) ≤ u ∧ u ≤ (((nz : Int) - 1)))) := c2
      refine hSkip ?_
      refine qSeq rfl ?_
      refine hSeq ?_
      refine hReg (sl 0 (sq 1 (sl 2 (sq 3 (sq 4 sz))))) (by kernel_rfl) ?_
      refine ldAl Try.isAgg26 Try.sizeOf26 (cBs 0 rfl) trv rfl rfl rfl rfl ?_
      refine mvI rfl rfl rfl ?_
      refine callS Try.call105 trv1 rfl rfl (fun w hs => spec_l20Way_c _ _ _ _ _ _ w (Kn.drop (k := 1) kz w hs) (by assumption) (by omega)) ?_
      rintro ⟨ay1, ny1, cy1, y1⟩ hr1
      try dsimp only at hr1
      refine asS rfl rfl rfl ?_
      refine asI rfl rfl rfl ?_
      refine rNil ?_
      refine qSeq rfl ?_
      refine hRet ?_
      exact fun w hs => ⟨[.slice ay1 ny1 cy1, .int .i64 0], ⟨rfl, ⟨rfl, trivial⟩⟩, ⟨(ay1, ny1, cy1, y1, 0), rfl, by rw [Math.wayAt_yes lz c1 (Classical.not_not.1 c2)]; exact ⟨hr1, rfl⟩, hs.pick [0]⟩⟩

theorem impl_WayTo_c (az : Option Addr) (nz : Nat) (cz : Nat) (Hz : Nat → Hd) (z : List Nd) (u : Int) (w : World) (rz : RdR ndK az nz Hz z w) :
    Calls Try.prog 23 #[.agg #[.slice az nz cz], .int .i64 u] w (Ret fun v w' => ∃ x : Option Addr × Nat × Nat × List Int × Int, v = .tuple #[.slice x.1 x.2.1 x.2.2.1, .int .i64 x.2.2.2.2] ∧ (x.2.2.2.1 = (Math.wayAt z u).1 ∧ x.2.2.2.2 = (Math.wayAt z u).2) ∧ Sep w none_ [OwnI 2 x.1 x.2.1 x.2.2.1 x.2.2.2.1] w') := by
  have kz : Kn w none_ [] (RdR ndK az nz Hz z) := fun w' hs => rz.ext hs.upd
  have lz : z.length = nz := rz.1
  have mz : nz ≤ 9223372036854775807 := rz.2.1
  refine fn (M := none_) (rs := [.tmp 4, .tmp 5]) Try.func23 rfl Try.ntmps23 rfl rfl (Sep.start _ _) ?_
  refine hSeq ?_
  refine hReg (sl 0 (sq 1 (sq 2 sz))) (by kernel_rfl) ?_
  refine box trv1 rfl rfl rfl rfl (fun bkb1 hbkb1 => ?_)
  refine asS rfl rfl rfl ?_
  refine asI rfl rfl rfl ?_
  refine rNil ?_
  refine qSeq rfl ?_
  refine hSeq ?_
  refine hSeq ?_
  refine hReg (sl 0 (sl 1 (sq 2 sz))) (by kernel_rfl) ?_
  refine ldAl Try.isAgg26 Try.sizeOf26 (cBs 0 rfl) trv rfl rfl rfl rfl ?_
  refine callP (v := .bool (Math.isTree z)) Try.call20 trv rfl rfl (fun w hs => impl_IsTree_c _ _ _ _ _ w (Kn.drop (k := 1) kz w hs)) ?_
  refine not rfl rfl rfl ?_
  refine rNil ?_
  refine qSeq rfl ?_
  refine hIfN rfl (fun c1 => ?_) (fun c1 => ?_)
  · -- c1T
    replace c1 : (Math.isTree z) = false := c1
    refine hSeq ?_
    refine hReg (sq 0 (sq 1 sz)) (by kernel_rfl) ?_
    refine asS rfl rfl rfl ?_
    refine asI rfl rfl rfl ?_
    refine rNil ?_
    refine qSeq rfl ?_
    refine hRet ?_
    refine knP (fun _ h => Sep.nilI 2 h) ?_
    exact fun w hs => ⟨[.slice none 0 0, .int .i64 1], ⟨rfl, ⟨rfl, trivial⟩⟩, ⟨(none, 0, 0, [], 1), rfl, by rw [Math.wayAt_no1 c1]; exact ⟨rfl, rfl⟩, hs.pick [0]⟩⟩
  · -- c1F
    replace c1 : (Math.isTree z) = true := c1
    have hn := (Math.isTree_ok c1).1
    refine hSkip ?_
    refine qSeq rfl ?_
    refine hSeq ?_
    refine hSeq ?_
    refine hReg (sq 0 (sq 1 (sl 2 (sq 3 (sq 4 (sl 5 (sq 6 sz))))))) (by kernel_rfl) ?_
    refine mvI rfl rfl rfl ?_
    refine fld fl26_0 rfl rfl rfl ?_
    refine ldl Try.isAgg24 (cB 0 rfl rfl) trv rfl rfl rfl ?_
    refine lenS Try.runUnderlying24 rfl rfl rfl ?_
    refine sub rfl rfl rfl rfl (by omega) ?_
    refine callP (v := .bool (decide ((0 : Int) ≤ u ∧ u ≤ (((nz : Int) - 1))))) Try.call96 trv rfl rfl (fun w hs => impl_within_c _ _ _ w ) ?_
    refine notD rfl rfl rfl ?_
    refine rNil ?_
    refine qSeq rfl ?_
    refine hIfD rfl (fun c2 => ?_) (fun c2 => ?_)
    · -- c2T
      replace c2 : ¬ ((0 : Int) ≤ u ∧ u ≤ (((nz : Int) - 1))) := c2
      refine hSeq ?_
      refine hReg (sq 0 (sq 1 sz)) (by kernel_rfl) ?_
      refine asS rfl rfl rfl ?_
      refine asI rfl rfl rfl ?_
      refine rNil ?_
      refine qSeq rfl ?_
      refine hRet ?_
      refine knP (fun _ h => Sep.nilI 2 h) ?_
      exact fun w hs => ⟨[.slice none 0 0, .int .i64 2], ⟨rfl, ⟨rfl, trivial⟩⟩, ⟨(none, 0, 0, [], 2), rfl, by rw [Math.wayAt_no2 lz c1 c2]; exact ⟨rfl, rfl⟩, hs.pick [0]⟩⟩
    · -- c2F
      replace c2 : ¬ (¬ ((0 : Int) ≤ u ∧ u ≤ (((nz : Int) - 1)))) := c2
      refine hSkip ?_
      refine qSeq rfl ?_
      refine hSeq ?_
      refine hReg (sq 0 sz) (by kernel_rfl) ?_
      refine asS rfl rfl rfl ?_
      refine rNil ?_
      refine qSeq rfl ?_
      refine hSeq ?_
      refine hSeq ?_
      refine hReg (sq 0 (sq 1 (sq 2 sz))) (by kernel_rfl) ?_
      refine mvI rfl rfl rfl ?_
      refine sub rfl rfl rfl rfl (by omega) ?_
      refine asI rfl rfl rfl ?_
      refine rNil ?_
      refine qSeq rfl ?_
      refine hBlk ?_
      refine hPieces (fun _ h => Sep.nilI 2 h) ?_
      refine hLoop (α := Int × Int × Nat × Hd × List Int) (fun x => (-1 ≤ x.1 ∧ x.1 < x.2.1 ∧ (x.2.2.1 : Int) + x.1 ≤ nz) ∧ (0 ≤ x.2.1 ∧ x.2.1 < nz) ∧ (∀ j : Nat, x.1 < j → (j : Int) < x.2.1 → ¬ x.2.1 ∈ (z.getD j dN).ch) ∧ (∀ l, Math.Way z x.2.1 l → Math.Way z u (l ++ x.2.2.2.2.reverse))) (fun x => (x.1 + 1).toNat) (fun x => [OwnI 2 x.2.2.2.1.1 x.2.2.1 x.2.2.2.1.2 x.2.2.2.2, blk bkb1 26 [.slice az nz cz]]) (fun x => [(1, .int .i64 x.2.1), (2, .pointer (some ⟨bkb1, 0, none⟩)), (6, .slice x.2.2.2.1.1 x.2.2.1 x.2.2.2.1.2), (7, .int .i64 x.1)]) ((u - 1, u, 0, (none, 0), [])) ⟨by dsimp only; omega, by dsimp only; omega, fun j hj hj2 => by dsimp only at hj hj2; omega, fun l hl => by simpa using hl⟩ (fun _ h => h.pick [0, 0]) ⟨rfl, rfl, rfl, rfl, trivial⟩ ?_
      rintro ⟨i, nd, q, hd, r⟩ τ1 ⟨hi, hnd, hal, hw⟩
      dsimp only at hi hnd hal hw
      refine hRe [(1, .int .i64 nd), (2, .pointer (some ⟨bkb1, 0, none⟩)), (6, .slice hd.1 q hd.2), (7, .int .i64 i)] [OwnI 2 hd.1 q hd.2 r, blk bkb1 26 [.slice az nz cz]] rfl rfl ?_
      refine hSeq ?_
      refine hSeq ?_
      refine hReg (sq 0 (sq 1 sz)) (by kernel_rfl) ?_
      refine mvI rfl rfl rfl ?_
      refine geq rfl rfl rfl rfl ?_
      refine rNil ?_
      refine qSeq rfl ?_
      refine hIfD rfl (fun c3 => ?_) (fun c3 => ?_)
      · -- c3T
        replace c3 : 0 ≤ i := c3
        have hil := Math.indexOf_le (l := (z.getD i.toNat dN).ch) (v := nd)
        have hch := Math.ok_pl ((Math.allOk_iff' lz).1 (Math.isTree_ok c1).2.1 i.toNat (by omega))
        refine hSkip ?_
        refine qSeq rfl ?_
        refine hSeq ?_
        refine hBlk ?_
        refine hSeq ?_
        refine hReg (sq 0 (sl 1 (sq 2 (sq 3 (sq 4 (sl 5 (sq 6 (sl 7 (sq 8 sz))))))))) (by kernel_rfl) ?_
        refine fld fl26_0 rfl rfl rfl ?_
        refine ldl Try.isAgg24 (cB 1 rfl rfl) trv rfl rfl rfl ?_
        refine mvI rfl rfl rfl ?_
        refine ixRl (zn := (i).toNat) (z.getD ((i).toNat) dN) el24 (Kn.drop (k := 2) kz) rfl rfl rfl rfl (by omega) (by omega) rfl (nth dN (by omega)) ?_
        intro be1 oe1 e1
        refine fld fl88_4 rfl rfl rfl ?_
        refine ldl Try.isAgg28 (Kn.fld e1 4 rfl) trv rfl rfl rfl ?_
        refine mvI rfl rfl rfl ?_
        refine callP (v := .int .i64 ((Math.indexOf ((z.getD ((i).toNat) dN).ch) nd))) Try.call103 trv rfl rfl (fun w hs => slices_Index_int64_int64_c _ _ _ _ _ w (Kn.drop (k := 2) ((Kn.imp kz fun _ h => h.kidN (nth dN (by omega)))) w hs)) ?_
        refine asI rfl rfl rfl ?_
        refine rNil ?_
        refine qSeq rfl ?_
        refine hSeq ?_
        refine hReg (sq 0 (sq 1 sz)) (by kernel_rfl) ?_
        refine mvI rfl rfl rfl ?_
        refine geq rfl rfl rfl rfl ?_
        refine rNil ?_
        refine qSeq rfl ?_
        refine hIfD rfl (fun c4 => ?_) (fun c4 => ?_)
        · -- c4T
          replace c4 : 0 ≤ (Math.indexOf ((z.getD ((i).toNat) dN).ch) nd) := c4
          refine hSeq ?_
          refine hReg (sq 0 (sq 1 (sl 2 (sl 3 (sq 4 sz))))) (by kernel_rfl) ?_
          refine mvS rfl rfl rfl ?_
          refine mvI rfl rfl rfl ?_
          refine bsl trv1 rfl rfl rfl (bsl28_1 (.int .i64 _) rfl) (fun bkl5 hbkl5 => ?_)
          refine aplI (N := q) (x := (Math.indexOf ((z.getD ((i).toNat) dN).ch) nd)) 1 0 rfl rfl mk28 trv1 rfl rfl rfl rfl (by omega) ?_
          intro aq2 cq2
          refine asS rfl rfl rfl ?_
          refine rNil ?_
          refine qSeq rfl ?_
          refine hReg (sq 0 (sq 1 sz)) (by kernel_rfl) ?_
          refine mvI rfl rfl rfl ?_
          refine asI rfl rfl rfl ?_
          refine rNil ?_
          refine qSeq rfl ?_
          refine hReg (sq 0 (sq 1 (sq 2 sz))) (by kernel_rfl) ?_
          refine mvI rfl rfl rfl ?_
          refine sub rfl rfl rfl rfl (by omega) ?_
          refine asI rfl rfl rfl ?_
          refine rNil ?_
          exact qNext rfl ((i - 1, i, q + 1, (aq2, cq2), (r ++ [(Math.indexOf ((z.getD ((i).toNat) dN).ch) nd)]))) (by dsimp only; omega) ⟨by dsimp only; omega, by dsimp only; omega, fun j hj hj2 => by dsimp only at hj hj2; omega, Math.up_rev (i := i) hw (by omega) (by omega) (by omega) (by omega)⟩ ⟨rfl, rfl, rfl, rfl, trivial⟩ (fun _ h => h.pick [1, 1])
        · -- c4F
          replace c4 : ¬ (0 ≤ (Math.indexOf ((z.getD ((i).toNat) dN).ch) nd)) := c4
          refine hSkip ?_
          refine qSeq rfl ?_
          refine hReg (sq 0 (sq 1 (sq 2 sz))) (by kernel_rfl) ?_
          refine mvI rfl rfl rfl ?_
          refine sub rfl rfl rfl rfl (by omega) ?_
          refine asI rfl rfl rfl ?_
          refine rNil ?_
          exact qNext rfl (i - 1, nd, q, hd, r) (by dsimp only; omega) ⟨by dsimp only; omega, hnd, Math.hal_step c3 hal c4, hw⟩ ⟨rfl, rfl, rfl, rfl, trivial⟩ (fun _ h => h.pick [0, 0])
      · -- c3F
        replace c3 : ¬ (0 ≤ i) := c3
        refine hExit rfl ?_
        refine qSeq rfl ?_
        refine hSeq ?_
        refine hReg (sq 0 (sl 1 sz)) (by kernel_rfl) ?_
        refine mvS rfl rfl rfl ?_
        refine callM (Lf := [OwnI 2 hd.1 q hd.2 r]) (Lr := [blk bkb1 26 [.slice az nz cz]]) (φs := fun _ => [OwnI 2 hd.1 q hd.2 r.reverse]) (val := fun _ => .tuple #[]) rfl Try.call104 trv1 rfl rfl (fun w M0 hs => slices_Reverse_int64_int64_c hd.1 q hd.2 r w M0 hs ) ?_
        rintro _ -
        refine rNil ?_
        refine qSeq rfl ?_
        refine hSeq ?_
        refine hReg (sq 0 (sq 1 (sq 2 sz))) (by kernel_rfl) ?_
        refine mvS rfl rfl rfl ?_
        refine asS rfl rfl rfl ?_
        refine asI rfl rfl rfl ?_
        refine rNil ?_
        refine qSeq rfl ?_
        refine hRet ?_
        exact fun w hs => ⟨[.slice hd.1 q hd.2, .int .i64 0], ⟨rfl, ⟨rfl, trivial⟩⟩, ⟨(hd.1, q, hd.2, r.reverse, 0), rfl, by rw [Math.wayAt_yes lz c1 (Classical.not_not.1 c2)]; exact ⟨Math.way_done c1 (by omega) (by omega) (by omega) hal hw, rfl⟩, hs.pick [0]⟩⟩

end Go.Proofs.Ytjengglpbdgmnaa
