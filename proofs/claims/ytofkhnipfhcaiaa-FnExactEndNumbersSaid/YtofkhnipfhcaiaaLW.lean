/- Contracts of ways. Their conditions stand in each. -/
import Derived.Test.YtofkhnipfhcaiaaEngC
import Derived.Test.YtofkhnipfhcaiaaTree
import Derived.Test.YtofkhnipfhcaiaaParts
import Derived.Test.YtofkhnipfhcaiaaWay
import Derived.Test.YtofkhnipfhcaiaaL1
import Derived.Test.YtofkhnipfhcaiaaL2
import Derived.Test.YtofkhnipfhcaiaaL3
import Derived.Test.YtofkhnipfhcaiaaLP
import Derived.Test.YtofkhnipfhcaiaaRows
namespace Go.Proofs.Ytofkhnipfhcaiaa
open Go Go.RowKit V
set_option linter.unusedVariables false
set_option linter.unusedSimpArgs false
set_option maxRecDepth 100000



theorem spec_l20Way_c_r (kk_ : Nat) : ∀ (az : Option Addr) (nz : Nat) (cz : Nat) (Hz : Nat → Hd) (z : List Nd) (u : Int) (w : World), u.toNat = kk_ → RdR ndK az nz Hz z w → (Math.isTree z = true) → (0 ≤ u ∧ u < (nz : Int)) → Calls Try.prog 87 #[.agg #[.slice az nz cz], .int .i64 u] w (Ret fun v w' => ∃ x : Option Addr × Nat × Nat × List Int, v = .slice x.1 x.2.1 x.2.2.1 ∧ (x.2.2.2 = Math.wayOf z u) ∧ Sep w none_ [OwnI 2 x.1 x.2.1 x.2.2.1 x.2.2.2] w') := by
  induction kk_ using Nat.strongRecOn with
  | _ kk_ ih =>
    intro az nz cz Hz z u w hK rz ht hu
    have kz : Kn w none_ [] (RdR ndK az nz Hz z) := fun w' hs => rz.ext hs.upd
    have lz : z.length = nz := rz.1
    have mz : nz ≤ 9223372036854775807 := rz.2.1
    have hn := (Math.isTree_ok ht).1

    refine fn (M := none_) (rs := [.tmp 4]) Try.func87 rfl Try.ntmps87 rfl rfl (Sep.start _ _) ?_
    refine hSeq ?_
    refine hReg (sl 0 (sq 1 sz)) (by kernel_rfl) ?_
    refine box trv1 rfl rfl rfl rfl (fun bkb1 hbkb1 => ?_)
    refine asS rfl rfl rfl ?_
    refine rNil ?_
    refine qSeq rfl ?_
    refine hSeq ?_
    refine hSeq ?_
    refine hReg (sq 0 (sq 1 sz)) (by kernel_rfl) ?_
    refine mvI rfl rfl rfl ?_
    refine eql rfl rfl rfl rfl ?_
    refine rNil ?_
    refine qSeq rfl ?_
    refine hIfD rfl (fun c1 => ?_) (fun c1 => ?_)
    · -- c1T
      replace c1 : u = 0 := c1
      refine hSeq ?_
      refine hReg (sl 0 (sq 1 sz)) (by kernel_rfl) ?_
      refine bsl trv1 rfl rfl rfl (bsl53_0) (fun bkl2 hbkl2 => ?_)
      refine asS rfl rfl rfl ?_
      refine rNil ?_
      refine qSeq rfl ?_
      refine hRet ?_
      refine knP (fun _ h => Sep.litI h 0 [] rfl rfl rfl) ?_
      exact fun w hs => ⟨[.slice (some ⟨bkl2, 0, none⟩) 0 0], ⟨rfl, trivial⟩, ⟨((some ⟨bkl2, 0, none⟩), 0, 0, []), rfl, by rw [c1]; exact (Math.wayOf_0 ht).symm, hs.pick [0]⟩⟩
    · -- c1F
      replace c1 : ¬ (u = 0) := c1
      refine hSkip ?_
      refine qSeq rfl ?_
      refine hSeq ?_
      refine hSeq ?_
      refine hReg (sq 0 sz) (by kernel_rfl) ?_
      refine asI rfl rfl rfl ?_
      refine rNil ?_
      refine qSeq rfl ?_
      refine hBlk ?_
      refine hLoop (α := Nat) (fun i => (i : Int) ≤ u ∧ ∀ j, j < i → ¬ u ∈ (z.getD j dN).ch) (fun i => u.toNat - i) (fun i => [blk bkb1 36 [.slice az nz cz]]) (fun i => [(1, .int .i64 u), (2, .pointer (some ⟨bkb1, 0, none⟩)), (5, .int .i64 (i : Int))]) 0 ⟨by omega, fun j hj => by omega⟩ (fun _ h => h.pick [0]) ⟨rfl, rfl, rfl, trivial⟩ ?_
      rintro i τ1 ⟨hi, hal⟩
      refine hSeq ?_
      refine hSeq ?_
      refine hReg (sq 0 (sq 1 (sq 2 sz))) (by kernel_rfl) ?_
      refine mvI rfl rfl rfl ?_
      refine mvI rfl rfl rfl ?_
      refine lss rfl rfl rfl rfl ?_
      refine rNil ?_
      refine qSeq rfl ?_
      refine hIfD rfl (fun c2 => ?_) (fun c2 => ?_)
      · -- c2T
        replace c2 : (i : Int) < u := c2
        have hch := Math.ok_pl ((Math.allOk_iff' lz).1 (Math.isTree_ok ht).2.1 i (by omega))
        have hyl := Math.wayAt_len z (i : Int)
        rw [Math.wayAt_yes lz ht (by omega)] at hyl
        dsimp only at hyl
        refine hSkip ?_
        refine qSeq rfl ?_
        refine hSeq ?_
        refine hBlk ?_
        refine hSeq ?_
        refine hReg (sq 0 sz) (by kernel_rfl) ?_
        refine asI rfl rfl rfl ?_
        refine rNil ?_
        refine qSeq rfl ?_
        refine hBlk ?_
        refine hLoop (α := Nat) (fun k => k ≤ (z.getD i dN).ch.length ∧ ∀ q, q < k → (z.getD i dN).ch.getD q 0 ≠ u) (fun k => (z.getD i dN).ch.length - k) (fun k => [blk bkb1 36 [.slice az nz cz]]) (fun k => [(1, .int .i64 u), (2, .pointer (some ⟨bkb1, 0, none⟩)), (5, .int .i64 (i : Int)), (6, .int .i64 (k : Int))]) 0 ⟨Nat.zero_le _, fun q hq => by omega⟩ (fun _ h => h.pick [0]) ⟨rfl, rfl, rfl, rfl, trivial⟩ ?_
        rintro k τ2 ⟨hk, hin⟩
        refine hSeq ?_
        refine hSeq ?_
        refine hReg (sq 0 (sq 1 (sl 2 (sq 3 (sq 4 (sq 5 (sl 6 (sq 7 (sq 8 sz))))))))) (by kernel_rfl) ?_
        refine mvI rfl rfl rfl ?_
        refine fld fl36_0 rfl rfl rfl ?_
        refine ldl Try.isAgg34 (cB 0 rfl rfl) trv rfl rfl rfl ?_
        refine mvI rfl rfl rfl ?_
        refine ixRl (zn := i) (z.getD i dN) el34 (Kn.drop (k := 1) kz) rfl rfl rfl rfl (by omega) (by omega) rfl (nth dN (by omega)) ?_
        intro be1 oe1 e1
        refine fld fl88_4 rfl rfl rfl ?_
        refine ldl Try.isAgg53 (Kn.fld e1 4 rfl) trv rfl rfl rfl ?_
        refine lenS Try.runUnderlying53 rfl rfl rfl ?_
        refine lss rfl rfl rfl rfl ?_
        refine rNil ?_
        refine qSeq rfl ?_
        refine hIfD rfl (fun c3 => ?_) (fun c3 => ?_)
        · -- c3T
          replace c3 : (k : Int) < ((((z.getD i dN).ch).length : Nat) : Int) := c3
          refine hSkip ?_
          refine qSeq rfl ?_
          refine hSeq ?_
          refine hBlk ?_
          refine hSeq ?_
          refine hReg (sq 0 (sl 1 (sq 2 (sq 3 (sq 4 (sl 5 (sq 6 (sq 7 (sl 8 (sq 9 (sq 10 sz))))))))))) (by kernel_rfl) ?_
          refine fld fl36_0 rfl rfl rfl ?_
          refine ldl Try.isAgg34 (cB 0 rfl rfl) trv rfl rfl rfl ?_
          refine mvI rfl rfl rfl ?_
          refine ixRl (zn := i) (z.getD i dN) el34 (Kn.drop (k := 1) kz) rfl rfl rfl rfl (by omega) (by omega) rfl (nth dN (by omega)) ?_
          intro be2 oe2 e2
          refine fld fl88_4 rfl rfl rfl ?_
          refine ldl Try.isAgg53 (Kn.fld e2 4 rfl) trv rfl rfl rfl ?_
          refine mvI rfl rfl rfl ?_
          refine ixIl (zn := k) el53 (Kn.drop (k := 1) ((Kn.imp kz fun _ h => h.kidN (nth dN (by omega))))) rfl rfl rfl rfl (by omega) (by omega) rfl ?_
          intro ae3 e3
          refine ldl Try.isAgg2 (e3) trv rfl rfl rfl ?_
          refine mvI rfl rfl rfl ?_
          refine eql rfl rfl rfl rfl ?_
          refine rNil ?_
          refine qSeq rfl ?_
          refine hIfD rfl (fun c4 => ?_) (fun c4 => ?_)
          · -- c4T
            replace c4 : (((z.getD i dN).ch).getD k 0) = u := c4
            refine hSeq ?_
            refine hReg (sl 0 (sq 1 (sl 2 (sq 3 (sl 4 (sl 5 (sq 6 sz))))))) (by kernel_rfl) ?_
            refine ldAl Try.isAgg36 Try.sizeOf36 (cBs 0 rfl) trv rfl rfl rfl rfl ?_
            refine mvI rfl rfl rfl ?_
            refine callS Try.call87 trv1 rfl rfl (fun w hs => ih _ (by omega) _ nz cz _ _ _ w rfl (Kn.drop (k := 1) kz w hs) (by assumption) (by omega)) ?_
            rintro ⟨ay4, ny4, cy4, y4⟩ hr4
            dsimp only at hr4
            subst y4
            refine rKnow (fun w hs => (show OwnI 2 ay4 ny4 cy4 (((Math.wayOf z (i : Int)))) w from hs.at_ 0 rfl).lenz) (fun lenn4 => ?_)
            refine mvI rfl rfl rfl ?_
            refine bsl trv1 rfl rfl rfl (bsl53_1 (.int .i64 _) rfl) (fun bkl5 hbkl5 => ?_)
            refine aplI (N := ny4) (x := (k : Int)) 1 0 rfl rfl mk53 trv1 rfl rfl rfl rfl (by omega) ?_
            intro aq5 cq5
            refine asS rfl rfl rfl ?_
            refine rNil ?_
            refine qSeq rfl ?_
            refine hRet ?_
            exact fun w hs => ⟨[.slice aq5 (ny4 + 1) cq5], ⟨rfl, trivial⟩, ⟨(aq5, (ny4 + 1), cq5, (((Math.wayOf z (i : Int))) ++ [(k : Int)])), rfl, Math.way_found ht (by omega) (by omega) (by omega) c4 hin, hs.pick [1]⟩⟩
          · -- c4F
            replace c4 : ¬ ((((z.getD i dN).ch).getD k 0) = u) := c4
            refine hSkip ?_
            refine qSeq rfl ?_
            refine hReg (sq 0 (sq 1 (sq 2 sz))) (by kernel_rfl) ?_
            refine mvI rfl rfl rfl ?_
            refine add rfl rfl rfl rfl (by omega) ?_
            refine asI rfl rfl rfl ?_
            refine rNil ?_
            exact qNext rfl (k + 1) (by omega) ⟨by omega, Math.upto hin (by assumption)⟩ ⟨rfl, rfl, rfl, rfl, trivial⟩ (fun _ h => h.pick [0])
        · -- c3F
          replace c3 : ¬ ((k : Int) < ((((z.getD i dN).ch).length : Nat) : Int)) := c3
          refine hExit rfl ?_
          refine qSeq rfl ?_
          refine hReg (sq 0 (sq 1 (sq 2 sz))) (by kernel_rfl) ?_
          refine mvI rfl rfl rfl ?_
          refine add rfl rfl rfl rfl (by omega) ?_
          refine asI rfl rfl rfl ?_
          refine rNil ?_
          exact qNext rfl (i + 1) (by omega) ⟨by omega, Math.upto hal (Math.not_kid fun q hq => hin q (by omega))⟩ ⟨rfl, rfl, rfl, trivial⟩ (fun _ h => h.pick [0])
      · -- c2F
        replace c2 : ¬ ((i : Int) < u) := c2
        exact (Math.no_way ht (i := i) (u := u) (by omega) (by omega) hal).elim

theorem spec_l20Way_c (az : Option Addr) (nz : Nat) (cz : Nat) (Hz : Nat → Hd) (z : List Nd) (u : Int) (w : World) (rz : RdR ndK az nz Hz z w) (ht : Math.isTree z = true) (hu : 0 ≤ u ∧ u < (nz : Int)) :
    Calls Try.prog 87 #[.agg #[.slice az nz cz], .int .i64 u] w (Ret fun v w' => ∃ x : Option Addr × Nat × Nat × List Int, v = .slice x.1 x.2.1 x.2.2.1 ∧ (x.2.2.2 = Math.wayOf z u) ∧ Sep w none_ [OwnI 2 x.1 x.2.1 x.2.2.1 x.2.2.2] w') := spec_l20Way_c_r _ az nz cz Hz z u w rfl rz ht hu

end Go.Proofs.Ytofkhnipfhcaiaa
