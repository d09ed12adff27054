/- Contracts of the marks that the laws lay. Their conditions stand in each. -/
import Derived.Test.YtofkhnipfhcaiaaEngC
import Derived.Test.YtofkhnipfhcaiaaTree
import Derived.Test.YtofkhnipfhcaiaaL1
import Derived.Test.YtofkhnipfhcaiaaL2
import Derived.Test.YtofkhnipfhcaiaaRows
namespace Go.Proofs.Ytofkhnipfhcaiaa
open Go Go.RowKit V
set_option linter.unusedVariables false
set_option linter.unusedSimpArgs false
set_option maxRecDepth 100000



theorem laws_markInt64S_c (az : Option Addr) (nz : Nat) (cz : Nat) (z : List Int) (k : Int) (w : World) (M0 : Nat → Prop) (hs0 : Sep w M0 [OwnI 2 az nz cz z] w) (hk : 0 ≤ k ∧ k + (nz : Int) ≤ 1000000000) :
    Calls Try.prog 26 #[.slice az nz cz, .int .i64 k] w (Ret fun v w' => ∃ x : Unit, v = .int .i64 ((k + (nz : Int))) ∧ True ∧ Sep w M0 [OwnI 2 az nz cz (Math.seqL k nz)] w') := by
  have lzz := (show OwnI 2 az nz cz z w from hs0.at_ 0 rfl)
  have mmz := Own.max lzz
  have lz : z.length = nz := lzz.lenz
  clear lzz
  have hsl := Math.seqL_len k nz
  refine fn (M := M0) (rs := [.tmp 4]) Try.func26 rfl Try.ntmps26 rfl rfl hs0 ?_
  refine hSeq ?_
  refine hReg (sq 0 sz) (by kernel_rfl) ?_
  refine asI rfl rfl rfl ?_
  refine rNil ?_
  refine qSeq rfl ?_
  refine hSeq ?_
  refine hSeq ?_
  refine hReg (sq 0 sz) (by kernel_rfl) ?_
  refine asI rfl rfl rfl ?_
  refine rNil ?_
  refine qSeq rfl ?_
  refine hBlk ?_
  rw [Math.turn_start (Math.seqL k nz) z]
  refine hLoop (α := Nat × Int) (fun x => x.1 ≤ nz ∧ x.2 = k + (x.1 : Int)) (fun x => nz - x.1) (fun x => [OwnI 2 az nz cz (((Math.seqL k nz).take x.1 ++ z.drop x.1))]) (fun x => [(0, .slice az nz cz), (1, .int .i64 x.2), (5, .int .i64 (x.1 : Int))]) (0, k) ⟨Nat.zero_le _, by simp⟩ (fun _ h => h.pick [0]) ⟨rfl, rfl, rfl, trivial⟩ ?_
  rintro ⟨i, q⟩ τ1 ⟨hi, hq⟩
  dsimp only at hi hq
  refine hRe [(0, .slice az nz cz), (1, .int .i64 q), (5, .int .i64 (i : Int))] [OwnI 2 az nz cz (((Math.seqL k nz).take i ++ z.drop i))] rfl rfl ?_
  refine hSeq ?_
  refine hSeq ?_
  refine hReg (sq 0 (sq 1 (sq 2 (sq 3 sz)))) (by kernel_rfl) ?_
  refine mvI rfl rfl rfl ?_
  refine mvS rfl rfl rfl ?_
  refine lenS Try.runUnderlying53 rfl rfl rfl ?_
  refine lss rfl rfl rfl rfl ?_
  refine rNil ?_
  refine qSeq rfl ?_
  refine hIfD rfl (fun c1 => ?_) (fun c1 => ?_)
  · -- c1T
    replace c1 : (i : Int) < (nz : Int) := c1
    refine hSkip ?_
    refine qSeq rfl ?_
    refine hSeq ?_
    refine hBlk ?_
    refine hSeq ?_
    refine hReg (sq 0 (sq 1 (sq 2 (sq 3 (sl 4 sz))))) (by kernel_rfl) ?_
    refine mvS rfl rfl rfl ?_
    refine mvI rfl rfl rfl ?_
    refine mvI rfl rfl rfl ?_
    refine oxI (zn := i) 0 rfl el53 rfl rfl rfl rfl (by omega) (by omega) rfl ?_
    intro gk1 hgk1
    refine stoI (off := i) (x := q) 0 rfl hgk1 Try.sizeOf2 trv rfl rfl rfl rfl (by omega) ?_
    refine rNil ?_
    refine qSeq rfl ?_
    refine hReg (sq 0 (sq 1 (sq 2 sz))) (by kernel_rfl) ?_
    refine mvI rfl rfl rfl ?_
    refine add rfl rfl rfl rfl (by omega) ?_
    refine asI rfl rfl rfl ?_
    refine rNil ?_
    refine qSeq rfl ?_
    refine hReg (sq 0 (sq 1 (sq 2 sz))) (by kernel_rfl) ?_
    refine mvI rfl rfl rfl ?_
    refine add rfl rfl rfl rfl (by omega) ?_
    refine asI rfl rfl rfl ?_
    refine rNil ?_
    rw [hq, ← Math.seqL_get (k := k) (n := nz) (by omega), Math.turn_step 0 hsl lz (by omega), Math.seqL_get (by omega)]
    exact qNext rfl ((i + 1, k + (i : Int) + 1)) (by dsimp only; omega) ⟨by dsimp only; omega, by dsimp only; omega⟩ ⟨rfl, rfl, rfl, trivial⟩ (fun _ h => h.pick [0])
  · -- c1F
    replace c1 : ¬ ((i : Int) < (nz : Int)) := c1
    refine hExit rfl ?_
    refine qSeq rfl ?_
    refine hSeq ?_
    refine hReg (sq 0 (sq 1 sz)) (by kernel_rfl) ?_
    refine mvI rfl rfl rfl ?_
    refine asI rfl rfl rfl ?_
    refine rNil ?_
    refine qSeq rfl ?_
    refine hRet ?_
    rw [Math.turn_end hsl lz (by omega)]
    exact fun w hs => ⟨[.int .i64 q], ⟨rfl, trivial⟩, ⟨(), vI (by omega), trivial, hs.pick [0]⟩⟩

theorem laws_heldInt64S_c (az : Option Addr) (nz : Nat) (cz : Nat) (z : List Int) (k : Int) (w : World) (rz : RdI az nz z w) (hk : 0 ≤ k ∧ k + (nz : Int) ≤ 1000000000) (heq : z = Math.seqL k nz) :
    Calls Try.prog 27 #[.slice az nz cz, .int .i64 k] w (Ret fun v w' => v = .int .i64 ((k + (nz : Int))) ∧ Ext w w') := by
  have kz : Kn w none_ [] (RdI az nz z) := fun w' hs => rz.ext hs.upd
  have lz : z.length = nz := rz.1
  have mz : nz ≤ 9223372036854775807 := rz.2.1
  refine fn (M := none_) (rs := [.tmp 4]) Try.func27 rfl Try.ntmps27 rfl rfl (Sep.start _ _) ?_
  refine hSeq ?_
  refine hReg (sq 0 sz) (by kernel_rfl) ?_
  refine asI rfl rfl rfl ?_
  refine rNil ?_
  refine qSeq rfl ?_
  refine hSeq ?_
  refine hSeq ?_
  refine hReg (sq 0 sz) (by kernel_rfl) ?_
  refine asI rfl rfl rfl ?_
  refine rNil ?_
  refine qSeq rfl ?_
  refine hBlk ?_
  refine hLoop (α := Nat × Int) (fun x => x.1 ≤ nz ∧ x.2 = k + (x.1 : Int)) (fun x => nz - x.1) (fun x => []) (fun x => [(0, .slice az nz cz), (1, .int .i64 x.2), (5, .int .i64 (x.1 : Int))]) (0, k) ⟨Nat.zero_le _, by simp⟩ (fun _ h => h.pick []) ⟨rfl, rfl, rfl, trivial⟩ ?_
  rintro ⟨i, q⟩ τ1 ⟨hi, hq⟩
  dsimp only at hi hq
  refine hRe [(0, .slice az nz cz), (1, .int .i64 q), (5, .int .i64 (i : Int))] [] rfl rfl ?_
  refine hSeq ?_
  refine hSeq ?_
  refine hReg (sq 0 (sq 1 (sq 2 (sq 3 sz)))) (by kernel_rfl) ?_
  refine mvI rfl rfl rfl ?_
  refine mvS rfl rfl rfl ?_
  refine lenS Try.runUnderlying53 rfl rfl rfl ?_
  refine lss rfl rfl rfl rfl ?_
  refine rNil ?_
  refine qSeq rfl ?_
  refine hIfD rfl (fun c1 => ?_) (fun c1 => ?_)
  · -- c1T
    replace c1 : (i : Int) < (nz : Int) := c1
    refine hSkip ?_
    refine qSeq rfl ?_
    refine hSeq ?_
    refine hBlk ?_
    refine hSeq ?_
    refine hSeq ?_
    refine hReg (sq 0 (sq 1 (sq 2 (sl 3 (sq 4 (sq 5 sz)))))) (by kernel_rfl) ?_
    refine mvS rfl rfl rfl ?_
    refine mvI rfl rfl rfl ?_
    refine ixIl (zn := i) el53 (kz) rfl rfl rfl rfl (by omega) (by omega) rfl ?_
    intro ae1 e1
    refine ldl Try.isAgg2 (e1) trv rfl rfl rfl ?_
    refine mvI rfl rfl rfl ?_
    refine neq rfl rfl rfl rfl ?_
    refine rNil ?_
    refine qSeq rfl ?_
    refine hIfD rfl (fun c2 => ?_) (fun c2 => ?_)
    · -- c2T
      replace c2 : (z.getD i 0) ≠ q := c2
      exact absurd (by rw [heq, Math.seqL_get (by omega), hq]) c2
    · -- c2F
      replace c2 : ¬ ((z.getD i 0) ≠ q) := c2
      refine hSkip ?_
      refine qSeq rfl ?_
      refine hReg (sq 0 (sq 1 (sq 2 sz))) (by kernel_rfl) ?_
      refine mvI rfl rfl rfl ?_
      refine add rfl rfl rfl rfl (by omega) ?_
      refine asI rfl rfl rfl ?_
      refine rNil ?_
      refine qSeq rfl ?_
      refine hReg (sq 0 (sq 1 (sq 2 sz))) (by kernel_rfl) ?_
      refine mvI rfl rfl rfl ?_
      refine add rfl rfl rfl rfl (by omega) ?_
      refine asI rfl rfl rfl ?_
      refine rNil ?_
      exact qNext rfl (i + 1, q + 1) (by dsimp only; omega) ⟨by dsimp only; omega, by dsimp only; omega⟩ ⟨rfl, rfl, rfl, trivial⟩ (fun _ h => h.pick [])
  · -- c1F
    replace c1 : ¬ ((i : Int) < (nz : Int)) := c1
    refine hExit rfl ?_
    refine qSeq rfl ?_
    refine hSeq ?_
    refine hReg (sq 0 (sq 1 sz)) (by kernel_rfl) ?_
    refine mvI rfl rfl rfl ?_
    refine asI rfl rfl rfl ?_
    refine rNil ?_
    refine qSeq rfl ?_
    refine hRet ?_
    exact fun w hs => ⟨[.int .i64 q], ⟨rfl, trivial⟩, ⟨vI (by omega), hs.upd⟩⟩

theorem laws_markTreeNodeS_c (az : Option Addr) (nz : Nat) (cz : Nat) (Hz : Nat → Hd) (z : List Nd) (k : Int) (w : World) (M0 : Nat → Prop) (hs0 : Sep w M0 [OwnR ndK 88 2 az nz cz Hz z] w) (hk : 0 ≤ k ∧ k + (Math.sumK Math.f4 z : Int) ≤ 1000000000) :
    Calls Try.prog 86 #[.slice az nz cz, .int .i64 k] w (Ret fun v w' => ∃ x : Unit, v = .int .i64 ((k + (Math.sumK Math.f4 z : Int))) ∧ True ∧ Sep w M0 [OwnR ndK 88 2 az nz cz Hz (Math.marksN k z)] w') := by
  have lzz := (show OwnR ndK 88 2 az nz cz Hz z w from hs0.at_ 0 rfl)
  have mmz := Own.max lzz.2.1
  have lz : z.length = nz := lzz.1
  clear lzz
  have hml : (Math.marksN k z).length = nz := by rw [Math.marksN_len]; exact lz
  obtain ⟨tot, htot⟩ : ∃ t : Int, (Math.sumK Math.f4 z : Int) = t := ⟨_, rfl⟩
  rw [htot]
  refine fn (M := M0) (rs := [.tmp 4]) Try.func86 rfl Try.ntmps86 rfl rfl hs0 ?_
  refine hSeq ?_
  refine hReg (sq 0 sz) (by kernel_rfl) ?_
  refine asI rfl rfl rfl ?_
  refine rNil ?_
  refine qSeq rfl ?_
  refine hSeq ?_
  refine hSeq ?_
  refine hReg (sq 0 sz) (by kernel_rfl) ?_
  refine asI rfl rfl rfl ?_
  refine rNil ?_
  refine qSeq rfl ?_
  refine hBlk ?_
  rw [Math.turn_start (Math.marksN k z) z]
  refine hLoop (α := Nat × Int) (fun x => x.1 ≤ nz ∧ x.2 = k + (Math.sumK Math.f4 (z.take x.1) : Int)) (fun x => nz - x.1) (fun x => [OwnR ndK 88 2 az nz cz Hz (((Math.marksN k z).take x.1 ++ z.drop x.1))]) (fun x => [(0, .slice az nz cz), (1, .int .i64 x.2), (5, .int .i64 (x.1 : Int))]) (0, k) ⟨Nat.zero_le _, by simp [Math.sumK]⟩ (fun _ h => h.pick [0]) ⟨rfl, rfl, rfl, trivial⟩ ?_
  rintro ⟨i, q⟩ τ1 ⟨hi, hq⟩
  dsimp only at hi hq
  refine hRe [(0, .slice az nz cz), (1, .int .i64 q), (5, .int .i64 (i : Int))] [OwnR ndK 88 2 az nz cz Hz (((Math.marksN k z).take i ++ z.drop i))] rfl rfl ?_
  refine hSeq ?_
  refine hSeq ?_
  refine hReg (sq 0 (sq 1 (sq 2 (sq 3 sz)))) (by kernel_rfl) ?_
  refine mvI rfl rfl rfl ?_
  refine mvS rfl rfl rfl ?_
  refine lenS Try.runUnderlying34 rfl rfl rfl ?_
  refine lss rfl rfl rfl rfl ?_
  refine rNil ?_
  refine qSeq rfl ?_
  refine hIfD rfl (fun c1 => ?_) (fun c1 => ?_)
  · -- c1T
    replace c1 : (i : Int) < (nz : Int) := c1
    have hst := Math.sumK_step Math.f4 (l := z) (i := i) dN (by omega)
    have hle := Math.sumK_le Math.f4 z (i + 1)
    have hf4 : Math.f4 (z.getD i dN) = 4 + (z.getD i dN).ch.length := rfl
    refine hSkip ?_
    refine qSeq rfl ?_
    refine hSeq ?_
    refine hBlk ?_
    refine hSeq ?_
    refine hReg (sq 0 (sq 1 (sq 2 (sq 3 (sq 4 (sl 5 sz)))))) (by kernel_rfl) ?_
    refine mvS rfl rfl rfl ?_
    refine mvI rfl rfl rfl ?_
    refine mvI rfl rfl rfl ?_
    refine oxR (zn := i) 0 rfl el34 rfl rfl rfl rfl (by omega) (by omega) rfl ?_
    intro gk1 hgk1
    refine fld fl88_0 rfl rfl rfl ?_
    refine stRc (f := 0) (z.getD i dN) (Nd.mk q ((z.getD i dN).p0) ((z.getD i dN).p1) ((z.getD i dN).fo) ((z.getD i dN).ch)) i 0 ndK.ok rfl hgk1 (Math.turn_at dN hml lz (by omega)) rfl rfl Try.sizeOf2 trv rfl rfl rfl rfl (by decide) rfl rfl ?_
    refine rNil ?_
    refine qSeq rfl ?_
    refine hSeq ?_
    refine hReg (sq 0 (sq 1 (sq 2 sz))) (by kernel_rfl) ?_
    refine mvI rfl rfl rfl ?_
    refine add rfl rfl rfl rfl (by omega) ?_
    refine asI rfl rfl rfl ?_
    refine rNil ?_
    refine qSeq rfl ?_
    refine hSeq ?_
    refine hReg (sq 0 (sq 1 (sq 2 (sq 3 (sq 4 (sl 5 sz)))))) (by kernel_rfl) ?_
    refine mvS rfl rfl rfl ?_
    refine mvI rfl rfl rfl ?_
    refine mvI rfl rfl rfl ?_
    refine oxR (zn := i) 0 rfl el34 rfl rfl rfl rfl (by omega) (by omega) rfl ?_
    intro gk2 hgk2
    refine fld fl88_1 rfl rfl rfl ?_
    refine stRc (f := 1) (Nd.mk q ((z.getD i dN).p0) ((z.getD i dN).p1) ((z.getD i dN).fo) ((z.getD i dN).ch)) (Nd.mk q (q + 1) (((z.getD i dN).p1)) (((z.getD i dN).fo)) (((z.getD i dN).ch))) i 0 ndK.ok rfl hgk2 (Math.set_at (l := ((Math.marksN k z).take i ++ z.drop i)) (by rw [Math.turn_len hml lz]; omega)) rfl rfl Try.sizeOf2 trv rfl rfl rfl rfl (by decide) rfl rfl ?_
    rw [Math.set_two (((Math.marksN k z).take i ++ z.drop i))]
    refine rNil ?_
    refine qSeq rfl ?_
    refine hSeq ?_
    refine hReg (sq 0 (sq 1 (sq 2 sz))) (by kernel_rfl) ?_
    refine mvI rfl rfl rfl ?_
    refine add rfl rfl rfl rfl (by omega) ?_
    refine asI rfl rfl rfl ?_
    refine rNil ?_
    refine qSeq rfl ?_
    refine hSeq ?_
    refine hReg (sq 0 (sq 1 (sq 2 (sq 3 (sq 4 (sl 5 sz)))))) (by kernel_rfl) ?_
    refine mvS rfl rfl rfl ?_
    refine mvI rfl rfl rfl ?_
    refine mvI rfl rfl rfl ?_
    refine oxR (zn := i) 0 rfl el34 rfl rfl rfl rfl (by omega) (by omega) rfl ?_
    intro gk3 hgk3
    refine fld fl88_2 rfl rfl rfl ?_
    refine stRc (f := 2) (Nd.mk q (q + 1) (((z.getD i dN).p1)) (((z.getD i dN).fo)) (((z.getD i dN).ch))) (Nd.mk q (q + 1) (((q + 1) + 1)) ((((z.getD i dN).fo))) ((((z.getD i dN).ch)))) i 0 ndK.ok rfl hgk3 (Math.set_at (l := ((Math.marksN k z).take i ++ z.drop i)) (by rw [Math.turn_len hml lz]; omega)) rfl rfl Try.sizeOf2 trv rfl rfl rfl rfl (by decide) rfl rfl ?_
    rw [Math.set_two (((Math.marksN k z).take i ++ z.drop i))]
    refine rNil ?_
    refine qSeq rfl ?_
    refine hSeq ?_
    refine hReg (sq 0 (sq 1 (sq 2 sz))) (by kernel_rfl) ?_
    refine mvI rfl rfl rfl ?_
    refine add rfl rfl rfl rfl (by omega) ?_
    refine asI rfl rfl rfl ?_
    refine rNil ?_
    refine qSeq rfl ?_
    refine hSeq ?_
    refine hReg (sq 0 (sq 1 (sq 2 (sq 3 (sq 4 (sl 5 sz)))))) (by kernel_rfl) ?_
    refine mvS rfl rfl rfl ?_
    refine mvI rfl rfl rfl ?_
    refine mvI rfl rfl rfl ?_
    refine oxR (zn := i) 0 rfl el34 rfl rfl rfl rfl (by omega) (by omega) rfl ?_
    intro gk4 hgk4
    refine fld fl88_3 rfl rfl rfl ?_
    refine stRc (f := 3) (Nd.mk q (q + 1) (((q + 1) + 1)) ((((z.getD i dN).fo))) ((((z.getD i dN).ch)))) (Nd.mk q (q + 1) ((((q + 1) + 1))) ((((q + 1) + 1) + 1)) (((((z.getD i dN).ch))))) i 0 ndK.ok rfl hgk4 (Math.set_at (l := ((Math.marksN k z).take i ++ z.drop i)) (by rw [Math.turn_len hml lz]; omega)) rfl rfl Try.sizeOf2 trv rfl rfl rfl rfl (by decide) rfl rfl ?_
    rw [Math.set_two (((Math.marksN k z).take i ++ z.drop i))]
    refine rNil ?_
    refine qSeq rfl ?_
    refine hSeq ?_
    refine hReg (sq 0 (sq 1 (sq 2 sz))) (by kernel_rfl) ?_
    refine mvI rfl rfl rfl ?_
    refine add rfl rfl rfl rfl (by omega) ?_
    refine asI rfl rfl rfl ?_
    refine rNil ?_
    refine qSeq rfl ?_
    refine hReg (sq 0 (sq 1 (sq 2 (sq 3 (sl 4 (sq 5 (sl 6 (sq 7 sz)))))))) (by kernel_rfl) ?_
    refine mvS rfl rfl rfl ?_
    refine mvI rfl rfl rfl ?_
    refine ixRl (zn := i) (Nd.mk q (q + 1) ((((q + 1) + 1))) ((((q + 1) + 1) + 1)) (((((z.getD i dN).ch))))) el34 ((Kn.at_ 0 rfl).imp fun _ h => OwnR.rd h ndK.ok) rfl rfl rfl rfl (by omega) (by omega) rfl (Math.set_at (l := ((Math.marksN k z).take i ++ z.drop i)) (by rw [Math.turn_len hml lz]; omega)) ?_
    intro be5 oe5 e5
    refine fld fl88_4 rfl rfl rfl ?_
    refine ldl Try.isAgg53 (Kn.fld e5 4 rfl) trv rfl rfl rfl ?_
    refine mvI rfl rfl rfl ?_
    refine rPieces (fun _ h => Sep.lend h i (Nd.mk q (q + 1) ((((q + 1) + 1))) ((((q + 1) + 1) + 1)) (((((z.getD i dN).ch))))) (Math.set_at (l := ((Math.marksN k z).take i ++ z.drop i)) (by rw [Math.turn_len hml lz]; omega))) ?_
    refine callM (Lf := [OwnI 2 ((Hz i).1) (((((((z.getD i dN).ch))))).length) ((Hz i).2) ((((((z.getD i dN).ch)))))]) (Lr := [OwnH ndK 88 2 az nz cz Hz (((((Math.marksN k z).take i ++ z.drop i)).set i (Nd.mk q (q + 1) ((((q + 1) + 1))) ((((q + 1) + 1) + 1)) (((((z.getD i dN).ch))))))) i]) (φs := fun _ => [OwnI 2 ((Hz i).1) (((((((z.getD i dN).ch))))).length) ((Hz i).2) ((Math.seqL (((((q + 1) + 1) + 1) + 1)) (((((((z.getD i dN).ch))))).length)))]) (val := fun _ => .int .i64 (((((((q + 1) + 1) + 1) + 1)) + ((((((((z.getD i dN).ch))))).length) : Int)))) rfl Try.call26 trv1 rfl rfl (fun w M0 hs => laws_markInt64S_c ((Hz i).1) (((((((z.getD i dN).ch))))).length) ((Hz i).2) ((((((z.getD i dN).ch))))) (((((q + 1) + 1) + 1) + 1)) w M0 hs (by first | omega | (dsimp only; omega))) ?_
    rintro _ -
    refine rPieces (fun _ h => Sep.back (x := (Nd.mk q (q + 1) ((((q + 1) + 1))) ((((q + 1) + 1) + 1)) (((((z.getD i dN).ch)))))) (Nd.mk q (q + 1) (((((q + 1) + 1)))) (((((q + 1) + 1) + 1))) ((Math.seqL (((((q + 1) + 1) + 1) + 1)) (((((((z.getD i dN).ch))))).length)))) ndK.ok h (Math.set_at (l := ((Math.marksN k z).take i ++ z.drop i)) (by rw [Math.turn_len hml lz]; omega)) (fun h1 h2 => by dsimp only [ndK, ndC, maK] at h1 h2 ⊢; rw [h1, h2]) rfl rfl) ?_
    rw [Math.set_two (((Math.marksN k z).take i ++ z.drop i))]
    refine asI rfl rfl rfl ?_
    refine rNil ?_
    refine qSeq rfl ?_
    refine hReg (sq 0 (sq 1 (sq 2 sz))) (by kernel_rfl) ?_
    refine mvI rfl rfl rfl ?_
    refine add rfl rfl rfl rfl (by omega) ?_
    refine asI rfl rfl rfl ?_
    refine rNil ?_
    rw [show (Nd.mk q (q + 1) (((((q + 1) + 1)))) (((((q + 1) + 1) + 1))) ((Math.seqL (((((q + 1) + 1) + 1) + 1)) (((((((z.getD i dN).ch))))).length)))) = (Math.marksN k z).getD i dN from by rw [Math.marksN_get (by omega), ← hq]; try rfl, Math.turn_step dN hml lz (by omega)]
    exact qNext rfl ((i + 1, ((((((q + 1) + 1) + 1) + 1)) + ((((((((z.getD i dN).ch))))).length) : Int)))) (by dsimp only; omega) ⟨by dsimp only; omega, by dsimp only; omega⟩ ⟨rfl, rfl, rfl, trivial⟩ (fun _ h => h.pick [0])
  · -- c1F
    replace c1 : ¬ ((i : Int) < (nz : Int)) := c1
    refine hExit rfl ?_
    refine qSeq rfl ?_
    refine hSeq ?_
    refine hReg (sq 0 (sq 1 sz)) (by kernel_rfl) ?_
    refine mvI rfl rfl rfl ?_
    refine asI rfl rfl rfl ?_
    refine rNil ?_
    refine qSeq rfl ?_
    refine hRet ?_
    rw [Math.turn_end hml lz (by omega)]
    exact fun w hs => ⟨[.int .i64 q], ⟨rfl, trivial⟩, ⟨(), vI (by rw [hq, Math.sumK_all _ (by omega), htot]), trivial, hs.pick [0]⟩⟩

theorem laws_markInt64SS_c (az : Option Addr) (nz : Nat) (cz : Nat) (Hz : Nat → Hd) (z : List (List Int)) (k : Int) (w : World) (M0 : Nat → Prop) (hs0 : Sep w M0 [OwnR maK 53 2 az nz cz Hz z] w) (hk : 0 ≤ k ∧ k + (Math.sumK Math.rwl z : Int) ≤ 1000000000) :
    Calls Try.prog 57 #[.slice az nz cz, .int .i64 k] w (Ret fun v w' => ∃ x : Unit, v = .int .i64 ((k + (Math.sumK Math.rwl z : Int))) ∧ True ∧ Sep w M0 [OwnR maK 53 2 az nz cz Hz (Math.marksM k z)] w') := by
  have lzz := (show OwnR maK 53 2 az nz cz Hz z w from hs0.at_ 0 rfl)
  have mmz := Own.max lzz.2.1
  have lz : z.length = nz := lzz.1
  clear lzz
  have hml : (Math.marksM k z).length = nz := by rw [Math.marksM_len]; exact lz
  obtain ⟨tot, htot⟩ : ∃ t : Int, (Math.sumK Math.rwl z : Int) = t := ⟨_, rfl⟩
  rw [htot]
  refine fn (M := M0) (rs := [.tmp 4]) Try.func57 rfl Try.ntmps57 rfl rfl hs0 ?_
  refine hSeq ?_
  refine hReg (sq 0 sz) (by kernel_rfl) ?_
  refine asI rfl rfl rfl ?_
  refine rNil ?_
  refine qSeq rfl ?_
  refine hSeq ?_
  refine hSeq ?_
  refine hReg (sq 0 sz) (by kernel_rfl) ?_
  refine asI rfl rfl rfl ?_
  refine rNil ?_
  refine qSeq rfl ?_
  refine hBlk ?_
  rw [Math.turn_start (Math.marksM k z) z]
  refine hLoop (α := Nat × Int) (fun x => x.1 ≤ nz ∧ x.2 = k + (Math.sumK Math.rwl (z.take x.1) : Int)) (fun x => nz - x.1) (fun x => [OwnR maK 53 2 az nz cz Hz (((Math.marksM k z).take x.1 ++ z.drop x.1))]) (fun x => [(0, .slice az nz cz), (1, .int .i64 x.2), (5, .int .i64 (x.1 : Int))]) (0, k) ⟨Nat.zero_le _, by simp [Math.sumK]⟩ (fun _ h => h.pick [0]) ⟨rfl, rfl, rfl, trivial⟩ ?_
  rintro ⟨i, q⟩ τ1 ⟨hi, hq⟩
  dsimp only at hi hq
  refine hRe [(0, .slice az nz cz), (1, .int .i64 q), (5, .int .i64 (i : Int))] [OwnR maK 53 2 az nz cz Hz (((Math.marksM k z).take i ++ z.drop i))] rfl rfl ?_
  refine hSeq ?_
  refine hSeq ?_
  refine hReg (sq 0 (sq 1 (sq 2 (sq 3 sz)))) (by kernel_rfl) ?_
  refine mvI rfl rfl rfl ?_
  refine mvS rfl rfl rfl ?_
  refine lenS Try.runUnderlying25 rfl rfl rfl ?_
  refine lss rfl rfl rfl rfl ?_
  refine rNil ?_
  refine qSeq rfl ?_
  refine hIfD rfl (fun c1 => ?_) (fun c1 => ?_)
  · -- c1T
    replace c1 : (i : Int) < (nz : Int) := c1
    have hst := Math.sumK_step Math.rwl (l := z) (i := i) [] (by omega)
    have hle := Math.sumK_le Math.rwl z (i + 1)
    have hf4 : Math.rwl (z.getD i []) = (z.getD i []).length := rfl
    refine hSkip ?_
    refine qSeq rfl ?_
    refine hSeq ?_
    refine hBlk ?_
    refine hReg (sq 0 (sq 1 (sq 2 (sl 3 (sq 4 (sl 5 (sq 6 sz))))))) (by kernel_rfl) ?_
    refine mvS rfl rfl rfl ?_
    refine mvI rfl rfl rfl ?_
    refine ixRl (zn := i) (z.getD i []) el25 ((Kn.at_ 0 rfl).imp fun _ h => OwnR.rd h maK.ok) rfl rfl rfl rfl (by omega) (by omega) rfl (Math.turn_at [] hml lz (by omega)) ?_
    intro be1 oe1 e1
    refine ldl Try.isAgg53 (Kn.fld e1 0 rfl) trv rfl rfl rfl ?_
    refine mvI rfl rfl rfl ?_
    refine rPieces (fun _ h => Sep.lend h i (z.getD i []) (Math.turn_at [] hml lz (by omega))) ?_
    refine callM (Lf := [OwnI 2 ((Hz i).1) ((z.getD i []).length) ((Hz i).2) (z.getD i [])]) (Lr := [OwnH maK 53 2 az nz cz Hz (((Math.marksM k z).take i ++ z.drop i)) i]) (φs := fun _ => [OwnI 2 ((Hz i).1) ((z.getD i []).length) ((Hz i).2) ((Math.seqL q ((z.getD i []).length)))]) (val := fun _ => .int .i64 ((q + (((z.getD i []).length) : Int)))) rfl Try.call26 trv1 rfl rfl (fun w M0 hs => laws_markInt64S_c ((Hz i).1) ((z.getD i []).length) ((Hz i).2) (z.getD i []) q w M0 hs (by first | omega | (dsimp only; omega))) ?_
    rintro _ -
    refine rPieces (fun _ h => Sep.back (x := (z.getD i [])) (Math.seqL q ((z.getD i []).length)) maK.ok h (Math.turn_at [] hml lz (by omega)) (fun h1 h2 => by dsimp only [ndK, ndC, maK] at h1 h2 ⊢; rw [h1, h2]) rfl rfl) ?_
    refine asI rfl rfl rfl ?_
    refine rNil ?_
    refine qSeq rfl ?_
    refine hReg (sq 0 (sq 1 (sq 2 sz))) (by kernel_rfl) ?_
    refine mvI rfl rfl rfl ?_
    refine add rfl rfl rfl rfl (by omega) ?_
    refine asI rfl rfl rfl ?_
    refine rNil ?_
    rw [show (Math.seqL q ((z.getD i []).length)) = (Math.marksM k z).getD i [] from by rw [Math.marksM_get (by omega), ← hq]; try rfl, Math.turn_step [] hml lz (by omega)]
    exact qNext rfl ((i + 1, (q + (((z.getD i []).length) : Int)))) (by dsimp only; omega) ⟨by dsimp only; omega, by dsimp only; omega⟩ ⟨rfl, rfl, rfl, trivial⟩ (fun _ h => h.pick [0])
  · -- c1F
    replace c1 : ¬ ((i : Int) < (nz : Int)) := c1
    refine hExit rfl ?_
    refine qSeq rfl ?_
    refine hSeq ?_
    refine hReg (sq 0 (sq 1 sz)) (by kernel_rfl) ?_
    refine mvI rfl rfl rfl ?_
    refine asI rfl rfl rfl ?_
    refine rNil ?_
    refine qSeq rfl ?_
    refine hRet ?_
    rw [Math.turn_end hml lz (by omega)]
    exact fun w hs => ⟨[.int .i64 q], ⟨rfl, trivial⟩, ⟨(), vI (by rw [hq, Math.sumK_all _ (by omega), htot]), trivial, hs.pick [0]⟩⟩

theorem laws_heldInt64SS_c (az : Option Addr) (nz : Nat) (cz : Nat) (Hz : Nat → Hd) (z : List (List Int)) (k : Int) (y : List (List Int)) (w : World) (rz : RdR maK az nz Hz z w) (hk : 0 ≤ k ∧ k + (Math.sumK Math.rwl y : Int) ≤ 1000000000) (heq : z = Math.marksM k y) :
    Calls Try.prog 58 #[.slice az nz cz, .int .i64 k] w (Ret fun v w' => v = .int .i64 ((k + (Math.sumK Math.rwl y : Int))) ∧ Ext w w') := by
  have kz : Kn w none_ [] (RdR maK az nz Hz z) := fun w' hs => rz.ext hs.upd
  have lz : z.length = nz := rz.1
  have mz : nz ≤ 9223372036854775807 := rz.2.1
  have ly : y.length = nz := by rw [← lz, heq, Math.marksM_len]
  refine fn (M := none_) (rs := [.tmp 4]) Try.func58 rfl Try.ntmps58 rfl rfl (Sep.start _ _) ?_
  refine hSeq ?_
  refine hReg (sq 0 sz) (by kernel_rfl) ?_
  refine asI rfl rfl rfl ?_
  refine rNil ?_
  refine qSeq rfl ?_
  refine hSeq ?_
  refine hSeq ?_
  refine hReg (sq 0 sz) (by kernel_rfl) ?_
  refine asI rfl rfl rfl ?_
  refine rNil ?_
  refine qSeq rfl ?_
  refine hBlk ?_
  refine hLoop (α := Nat × Int) (fun x => x.1 ≤ nz ∧ x.2 = k + (Math.sumK Math.rwl (y.take x.1) : Int)) (fun x => nz - x.1) (fun x => []) (fun x => [(0, .slice az nz cz), (1, .int .i64 x.2), (5, .int .i64 (x.1 : Int))]) (0, k) ⟨Nat.zero_le _, by simp [Math.sumK]⟩ (fun _ h => h.pick []) ⟨rfl, rfl, rfl, trivial⟩ ?_
  rintro ⟨i, q⟩ τ1 ⟨hi, hq⟩
  dsimp only at hi hq
  refine hRe [(0, .slice az nz cz), (1, .int .i64 q), (5, .int .i64 (i : Int))] [] rfl rfl ?_
  refine hSeq ?_
  refine hSeq ?_
  refine hReg (sq 0 (sq 1 (sq 2 (sq 3 sz)))) (by kernel_rfl) ?_
  refine mvI rfl rfl rfl ?_
  refine mvS rfl rfl rfl ?_
  refine lenS Try.runUnderlying25 rfl rfl rfl ?_
  refine lss rfl rfl rfl rfl ?_
  refine rNil ?_
  refine qSeq rfl ?_
  refine hIfD rfl (fun c1 => ?_) (fun c1 => ?_)
  · -- c1T
    replace c1 : (i : Int) < (nz : Int) := c1
    have hst := Math.sumK_step Math.rwl (l := y) (i := i) [] (by omega)
    have hle := Math.sumK_le Math.rwl y (i + 1)
    have hf4 : Math.rwl (y.getD i []) = (y.getD i []).length := rfl
    have hrow : (z.getD i []) = Math.seqL q (y.getD i []).length := by rw [heq, Math.marksM_get (by omega), hq]
    have hcl : (z.getD i []).length = (y.getD i []).length := by rw [hrow]; exact Math.seqL_len _ _
    refine hSkip ?_
    refine qSeq rfl ?_
    refine hSeq ?_
    refine hBlk ?_
    refine hSeq ?_
    refine hReg (sq 0 (sq 1 (sq 2 (sl 3 (sq 4 (sl 5 (sq 6 sz))))))) (by kernel_rfl) ?_
    refine mvS rfl rfl rfl ?_
    refine mvI rfl rfl rfl ?_
    refine ixRl (zn := i) (z.getD i []) el25 (kz) rfl rfl rfl rfl (by omega) (by omega) rfl (nth [] (by omega)) ?_
    intro be1 oe1 e1
    refine ldl Try.isAgg53 (Kn.fld e1 0 rfl) trv rfl rfl rfl ?_
    refine mvI rfl rfl rfl ?_
    refine callP (v := .int .i64 ((q + (((z.getD i []).length) : Int)))) Try.call27 trv rfl rfl (fun w hs => laws_heldInt64S_c _ _ _ _ _ w ((Kn.imp kz fun _ h => h.kidM (nth [] (by omega))) w hs) (by omega) (by rw [hrow]; simp [Math.markN, Math.seqL_len])) ?_
    refine asI rfl rfl rfl ?_
    refine rNil ?_
    refine qSeq rfl ?_
    refine hSeq ?_
    refine hReg (sq 0 (sq 1 sz)) (by kernel_rfl) ?_
    refine mvI rfl rfl rfl ?_
    refine lss rfl rfl rfl rfl ?_
    refine rNil ?_
    refine qSeq rfl ?_
    refine hIfD rfl (fun c2 => ?_) (fun c2 => ?_)
    · -- c2T
      replace c2 : (q + (((z.getD i []).length) : Int)) < 0 := c2
      exact absurd c2 (by omega)
    · -- c2F
      replace c2 : ¬ ((q + (((z.getD i []).length) : Int)) < 0) := c2
      refine hSkip ?_
      refine qSeq rfl ?_
      refine hReg (sq 0 (sq 1 (sq 2 sz))) (by kernel_rfl) ?_
      refine mvI rfl rfl rfl ?_
      refine add rfl rfl rfl rfl (by omega) ?_
      refine asI rfl rfl rfl ?_
      refine rNil ?_
      exact qNext rfl ((i + 1, (q + (((z.getD i []).length) : Int)))) (by dsimp only; omega) ⟨by dsimp only; omega, by dsimp only; omega⟩ ⟨rfl, rfl, rfl, trivial⟩ (fun _ h => h.pick [])
  · -- c1F
    replace c1 : ¬ ((i : Int) < (nz : Int)) := c1
    refine hExit rfl ?_
    refine qSeq rfl ?_
    refine hSeq ?_
    refine hReg (sq 0 (sq 1 sz)) (by kernel_rfl) ?_
    refine mvI rfl rfl rfl ?_
    refine asI rfl rfl rfl ?_
    refine rNil ?_
    refine qSeq rfl ?_
    refine hRet ?_
    exact fun w hs => ⟨[.int .i64 q], ⟨rfl, trivial⟩, ⟨vI (by rw [hq, Math.sumK_all _ (by omega)]), hs.upd⟩⟩

theorem laws_markTree_c (az : Option Addr) (nz : Nat) (cz : Nat) (Hz : Nat → Hd) (z : List Nd) (k : Int) (w : World) (M0 : Nat → Prop) (hs0 : Sep w M0 [OwnR ndK 88 2 az nz cz Hz z] w) (hk : 0 ≤ k ∧ k + (Math.sumK Math.f4 z : Int) ≤ 1000000000) :
    Calls Try.prog 56 #[.agg #[.slice az nz cz], .int .i64 k] w (Ret fun v w' => ∃ x : Unit, v = .int .i64 ((k + (Math.sumK Math.f4 z : Int))) ∧ True ∧ Sep w M0 [OwnR ndK 88 2 az nz cz Hz (Math.marksN k z)] w') := by
  have lzz := (show OwnR ndK 88 2 az nz cz Hz z w from hs0.at_ 0 rfl)
  have mmz := Own.max lzz.2.1
  have lz : z.length = nz := lzz.1
  clear lzz
  refine fn (M := M0) (rs := [.tmp 4]) Try.func56 rfl Try.ntmps56 rfl rfl hs0 ?_
  refine hSeq ?_
  refine hReg (sl 0 (sq 1 sz)) (by kernel_rfl) ?_
  refine box trv1 rfl rfl rfl rfl (fun bkb1 hbkb1 => ?_)
  refine asI rfl rfl rfl ?_
  refine rNil ?_
  refine qSeq rfl ?_
  refine hSeq ?_
  refine hReg (sq 0 (sl 1 (sq 2 (sl 3 (sq 4 sz))))) (by kernel_rfl) ?_
  refine fld fl36_0 rfl rfl rfl ?_
  refine ldl Try.isAgg34 (cB 0 rfl rfl) trv rfl rfl rfl ?_
  refine mvI rfl rfl rfl ?_
  refine rPieces (fun _ h => h.pick [1, 0]) ?_
  refine callM (Lf := [OwnR ndK 88 2 az nz cz Hz z]) (Lr := [blk bkb1 36 [.slice az nz cz]]) (φs := fun _ => [OwnR ndK 88 2 az nz cz Hz (Math.marksN k z)]) (val := fun _ => .int .i64 ((k + (Math.sumK Math.f4 z : Int)))) rfl Try.call86 trv1 rfl rfl (fun w M0 hs => laws_markTreeNodeS_c az nz cz Hz z k w M0 hs (by omega)) ?_
  rintro _ -
  refine asI rfl rfl rfl ?_
  refine rNil ?_
  refine qSeq rfl ?_
  refine hSeq ?_
  refine hReg (sq 0 (sq 1 sz)) (by kernel_rfl) ?_
  refine mvI rfl rfl rfl ?_
  refine asI rfl rfl rfl ?_
  refine rNil ?_
  refine qSeq rfl ?_
  refine hRet ?_
  exact fun w hs => ⟨[.int .i64 ((k + (Math.sumK Math.f4 z : Int)))], ⟨rfl, trivial⟩, ⟨(), rfl, trivial, hs.pick [0]⟩⟩

theorem laws_markGame_c (az : Option Addr) (nz : Nat) (cz : Nat) (Hz : Nat → Hd) (z : List Nd) (aws : Option Addr) (nws : Nat) (cws : Nat) (Hws : Nat → Hd) (ws : List (List Int)) (avs : Option Addr) (nvs : Nat) (cvs : Nat) (Hvs : Nat → Hd) (vs : List (List Int)) (k : Int) (w : World) (M0 : Nat → Prop) (hs0 : Sep w M0 [OwnR ndK 88 2 az nz cz Hz z, OwnR maK 53 2 aws nws cws Hws ws, OwnR maK 53 2 avs nvs cvs Hvs vs] w) (hk : 0 ≤ k ∧ k + (Math.sumK Math.f4 z : Int) + (Math.sumK Math.rwl ws : Int) + (Math.sumK Math.rwl vs : Int) ≤ 1000000000) :
    Calls Try.prog 20 #[.agg #[.slice az nz cz, .slice aws nws cws, .slice avs nvs cvs], .int .i64 k] w (Ret fun v w' => ∃ x : Unit, v = .int .i64 ((((k + (Math.sumK Math.f4 z : Int)) + (Math.sumK Math.rwl ws : Int)) + (Math.sumK Math.rwl vs : Int))) ∧ True ∧ Sep w M0 [OwnR ndK 88 2 az nz cz Hz (Math.marksN k z), OwnR maK 53 2 aws nws cws Hws ((Math.marksM (k + (Math.sumK Math.f4 z : Int)) ws)), OwnR maK 53 2 avs nvs cvs Hvs ((Math.marksM ((k + (Math.sumK Math.f4 z : Int)) + (Math.sumK Math.rwl ws : Int)) vs))] w') := by
  have lzz := (show OwnR ndK 88 2 az nz cz Hz z w from hs0.at_ 0 rfl)
  have mmz := Own.max lzz.2.1
  have lz : z.length = nz := lzz.1
  clear lzz
  have lzws := (show OwnR maK 53 2 aws nws cws Hws ws w from hs0.at_ 1 rfl)
  have mmws := Own.max lzws.2.1
  have lws : ws.length = nws := lzws.1
  clear lzws
  have lzvs := (show OwnR maK 53 2 avs nvs cvs Hvs vs w from hs0.at_ 2 rfl)
  have mmvs := Own.max lzvs.2.1
  have lvs : vs.length = nvs := lzvs.1
  clear lzvs
  refine fn (M := M0) (rs := [.tmp 4]) Try.func20 rfl Try.ntmps20 rfl rfl hs0 ?_
  refine hSeq ?_
  refine hReg (sl 0 (sq 1 sz)) (by kernel_rfl) ?_
  refine box trv1 rfl rfl rfl rfl (fun bkb1 hbkb1 => ?_)
  refine asI rfl rfl rfl ?_
  refine rNil ?_
  refine qSeq rfl ?_
  refine hSeq ?_
  refine hReg (sq 0 (sl 1 (sq 2 (sl 3 (sq 4 sz))))) (by kernel_rfl) ?_
  refine fld fl38_0 rfl rfl rfl ?_
  refine ldAl Try.isAgg36 Try.sizeOf36 (cBp (m := 1) 0 rfl rfl) trv rfl rfl rfl rfl ?_
  refine mvI rfl rfl rfl ?_
  refine rPieces (fun _ h => h.pick [1, 0, 0, 0]) ?_
  refine callM (Lf := [OwnR ndK 88 2 az nz cz Hz z]) (Lr := [blk bkb1 38 [.slice az nz cz, .slice aws nws cws, .slice avs nvs cvs], OwnR maK 53 2 aws nws cws Hws ws, OwnR maK 53 2 avs nvs cvs Hvs vs]) (φs := fun _ => [OwnR ndK 88 2 az nz cz Hz (Math.marksN k z)]) (val := fun _ => .int .i64 ((k + (Math.sumK Math.f4 z : Int)))) rfl Try.call56 trv1 rfl rfl (fun w M0 hs => laws_markTree_c az nz cz Hz z k w M0 hs (by omega)) ?_
  rintro _ -
  refine asI rfl rfl rfl ?_
  refine rNil ?_
  refine qSeq rfl ?_
  refine hSeq ?_
  refine hReg (sq 0 (sl 1 (sq 2 (sl 3 (sq 4 sz))))) (by kernel_rfl) ?_
  refine fld fl38_1 rfl rfl rfl ?_
  refine ldl Try.isAgg25 (cB 1 rfl rfl) trv rfl rfl rfl ?_
  refine mvI rfl rfl rfl ?_
  refine rPieces (fun _ h => h.pick [2, 0, 0, 0]) ?_
  refine callM (Lf := [OwnR maK 53 2 aws nws cws Hws ws]) (Lr := [OwnR ndK 88 2 az nz cz Hz (Math.marksN k z), blk bkb1 38 [.slice az nz cz, .slice aws nws cws, .slice avs nvs cvs], OwnR maK 53 2 avs nvs cvs Hvs vs]) (φs := fun _ => [OwnR maK 53 2 aws nws cws Hws ((Math.marksM ((k + (Math.sumK Math.f4 z : Int))) ws))]) (val := fun _ => .int .i64 ((((k + (Math.sumK Math.f4 z : Int))) + (Math.sumK Math.rwl ws : Int)))) rfl Try.call57 trv1 rfl rfl (fun w M0 hs => laws_markInt64SS_c aws nws cws Hws ws ((k + (Math.sumK Math.f4 z : Int))) w M0 hs (by omega)) ?_
  rintro _ -
  refine asI rfl rfl rfl ?_
  refine rNil ?_
  refine qSeq rfl ?_
  refine hSeq ?_
  refine hReg (sq 0 (sl 1 (sq 2 (sl 3 (sq 4 sz))))) (by kernel_rfl) ?_
  refine fld fl38_2 rfl rfl rfl ?_
  refine ldl Try.isAgg25 (cB 2 rfl rfl) trv rfl rfl rfl ?_
  refine mvI rfl rfl rfl ?_
  refine rPieces (fun _ h => h.pick [3, 0, 0, 0]) ?_
  refine callM (Lf := [OwnR maK 53 2 avs nvs cvs Hvs vs]) (Lr := [OwnR maK 53 2 aws nws cws Hws ((Math.marksM ((k + (Math.sumK Math.f4 z : Int))) ws)), OwnR ndK 88 2 az nz cz Hz (Math.marksN k z), blk bkb1 38 [.slice az nz cz, .slice aws nws cws, .slice avs nvs cvs]]) (φs := fun _ => [OwnR maK 53 2 avs nvs cvs Hvs ((Math.marksM ((((k + (Math.sumK Math.f4 z : Int))) + (Math.sumK Math.rwl ws : Int))) vs))]) (val := fun _ => .int .i64 ((((((k + (Math.sumK Math.f4 z : Int))) + (Math.sumK Math.rwl ws : Int))) + (Math.sumK Math.rwl vs : Int)))) rfl Try.call57 trv1 rfl rfl (fun w M0 hs => laws_markInt64SS_c avs nvs cvs Hvs vs ((((k + (Math.sumK Math.f4 z : Int))) + (Math.sumK Math.rwl ws : Int))) w M0 hs (by omega)) ?_
  rintro _ -
  refine asI rfl rfl rfl ?_
  refine rNil ?_
  refine qSeq rfl ?_
  refine hSeq ?_
  refine hReg (sq 0 (sq 1 sz)) (by kernel_rfl) ?_
  refine mvI rfl rfl rfl ?_
  refine asI rfl rfl rfl ?_
  refine rNil ?_
  refine qSeq rfl ?_
  refine hRet ?_
  exact fun w hs => ⟨[.int .i64 ((((((k + (Math.sumK Math.f4 z : Int))) + (Math.sumK Math.rwl ws : Int))) + (Math.sumK Math.rwl vs : Int)))], ⟨rfl, trivial⟩, ⟨(), rfl, trivial, hs.pick [2, 1, 0]⟩⟩

theorem laws_markStrategy_c (pl : Int) (aps : Option Addr) (nps : Nat) (cps : Nat) (Hps : Nat → Hd) (ps : List (List Int)) (k : Int) (w : World) (M0 : Nat → Prop) (hs0 : Sep w M0 [OwnR maK 53 2 aps nps cps Hps ps] w) (hk : 0 ≤ k ∧ k + (Math.sumK Math.rwl ps : Int) ≤ 1000000000) :
    Calls Try.prog 21 #[.agg #[.int .i64 pl, .slice aps nps cps], .int .i64 k] w (Ret fun v w' => ∃ x : Unit, v = .int .i64 ((k + (Math.sumK Math.rwl ps : Int))) ∧ True ∧ Sep w M0 [OwnR maK 53 2 aps nps cps Hps (Math.marksM k ps)] w') := by
  have lzps := (show OwnR maK 53 2 aps nps cps Hps ps w from hs0.at_ 0 rfl)
  have mmps := Own.max lzps.2.1
  have lps : ps.length = nps := lzps.1
  clear lzps
  refine fn (M := M0) (rs := [.tmp 4]) Try.func21 rfl Try.ntmps21 rfl rfl hs0 ?_
  refine hSeq ?_
  refine hReg (sl 0 (sq 1 sz)) (by kernel_rfl) ?_
  refine box trv1 rfl rfl rfl rfl (fun bkb1 hbkb1 => ?_)
  refine asI rfl rfl rfl ?_
  refine rNil ?_
  refine qSeq rfl ?_
  refine hSeq ?_
  refine hReg (sq 0 (sl 1 (sq 2 (sl 3 (sq 4 sz))))) (by kernel_rfl) ?_
  refine fld fl40_1 rfl rfl rfl ?_
  refine ldl Try.isAgg25 (cB 0 rfl rfl) trv rfl rfl rfl ?_
  refine mvI rfl rfl rfl ?_
  refine rPieces (fun _ h => h.pick [1, 0]) ?_
  refine callM (Lf := [OwnR maK 53 2 aps nps cps Hps ps]) (Lr := [blk bkb1 40 [.int .i64 pl, .slice aps nps cps]]) (φs := fun _ => [OwnR maK 53 2 aps nps cps Hps (Math.marksM k ps)]) (val := fun _ => .int .i64 ((k + (Math.sumK Math.rwl ps : Int)))) rfl Try.call57 trv1 rfl rfl (fun w M0 hs => laws_markInt64SS_c aps nps cps Hps ps k w M0 hs (by omega)) ?_
  rintro _ -
  refine asI rfl rfl rfl ?_
  refine rNil ?_
  refine qSeq rfl ?_
  refine hSeq ?_
  refine hReg (sq 0 (sq 1 sz)) (by kernel_rfl) ?_
  refine mvI rfl rfl rfl ?_
  refine asI rfl rfl rfl ?_
  refine rNil ?_
  refine qSeq rfl ?_
  refine hRet ?_
  exact fun w hs => ⟨[.int .i64 ((k + (Math.sumK Math.rwl ps : Int)))], ⟨rfl, trivial⟩, ⟨(), rfl, trivial, hs.pick [0]⟩⟩

theorem laws_heldStrategy_c (pl : Int) (aps : Option Addr) (nps : Nat) (cps : Nat) (Hps : Nat → Hd) (ps : List (List Int)) (k : Int) (y : List (List Int)) (w : World) (rps : RdR maK aps nps Hps ps w) (hk : 0 ≤ k ∧ k + (Math.sumK Math.rwl y : Int) ≤ 1000000000) (heq : ps = Math.marksM k y) :
    Calls Try.prog 22 #[.agg #[.int .i64 pl, .slice aps nps cps], .int .i64 k] w (Ret fun v w' => v = .int .i64 ((k + (Math.sumK Math.rwl y : Int))) ∧ Ext w w') := by
  have kps : Kn w none_ [] (RdR maK aps nps Hps ps) := fun w' hs => rps.ext hs.upd
  have lps : ps.length = nps := rps.1
  have mps : nps ≤ 9223372036854775807 := rps.2.1
  refine fn (M := none_) (rs := [.tmp 4]) Try.func22 rfl Try.ntmps22 rfl rfl (Sep.start _ _) ?_
  refine hSeq ?_
  refine hReg (sl 0 (sq 1 sz)) (by kernel_rfl) ?_
  refine box trv1 rfl rfl rfl rfl (fun bkb1 hbkb1 => ?_)
  refine asI rfl rfl rfl ?_
  refine rNil ?_
  refine qSeq rfl ?_
  refine hSeq ?_
  refine hReg (sq 0 (sl 1 (sq 2 (sl 3 (sq 4 sz))))) (by kernel_rfl) ?_
  refine fld fl40_1 rfl rfl rfl ?_
  refine ldl Try.isAgg25 (cB 0 rfl rfl) trv rfl rfl rfl ?_
  refine mvI rfl rfl rfl ?_
  refine callP Try.call58 trv rfl rfl (fun w hs => laws_heldInt64SS_c _ _ _ _ _ _ _ w (Kn.drop (k := 1) kps w hs) (by omega) (by first | rfl | assumption)) ?_
  refine asI rfl rfl rfl ?_
  refine rNil ?_
  refine qSeq rfl ?_
  refine hSeq ?_
  refine hSeq ?_
  refine hReg (sq 0 (sq 1 sz)) (by kernel_rfl) ?_
  refine mvI rfl rfl rfl ?_
  refine lss rfl rfl rfl rfl ?_
  refine rNil ?_
  refine qSeq rfl ?_
  refine hIfD rfl (fun c1 => ?_) (fun c1 => ?_)
  · -- c1T
    exact absurd c1 (by omega)
  · -- c1F
    refine hSkip ?_
    refine qSeq rfl ?_
    refine hSeq ?_
    refine hReg (sq 0 (sq 1 sz)) (by kernel_rfl) ?_
    refine mvI rfl rfl rfl ?_
    refine asI rfl rfl rfl ?_
    refine rNil ?_
    refine qSeq rfl ?_
    refine hRet ?_
    exact fun w hs => ⟨[.int .i64 _], ⟨rfl, trivial⟩, ⟨by first | rfl | exact bD (by omega) | exact bT (by omega) | exact bF (by omega) | exact vI (by omega), hs.upd⟩⟩

end Go.Proofs.Ytofkhnipfhcaiaa
