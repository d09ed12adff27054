/- Contracts of the marks that the laws lay. Their conditions stand in each. -/
import Derived.Test.YtjbdddfjaognfaaEngC
import Derived.Test.YtjbdddfjaognfaaTree
import Derived.Test.YtjbdddfjaognfaaL1
import Derived.Test.YtjbdddfjaognfaaL2
import Derived.Test.YtjbdddfjaognfaaRows
namespace Go.Proofs.Ytjbdddfjaognfaa
open Go Go.RowKit V
set_option linter.unusedVariables false
set_option linter.unusedSimpArgs false
set_option maxRecDepth 100000



theorem laws_markInt64S_c (az : Option Addr) (nz : Nat) (cz : Nat) (z : List Int) (k : Int) (w : World) (M0 : Nat → Prop) (hs0 : Sep w M0 [OwnI 2 az nz cz z] w) (hk : 0 ≤ k ∧ k + (nz : Int) ≤ 1000000000) :
    Calls Try.prog 19 #[.slice az nz cz, .int .i64 k] w (Ret fun v w' => ∃ x : Unit, v = .int .i64 ((k + (nz : Int))) ∧ True ∧ Sep w M0 [OwnI 2 az nz cz (Math.seqL k nz)] w') := by
  have lzz := (show OwnI 2 az nz cz z w from hs0.at_ 0 rfl)
  have mmz := Own.max lzz
  have lz : z.length = nz := lzz.lenz
  clear lzz
  have hsl := Math.seqL_len k nz
  refine fn (M := M0) (rs := [.tmp 4]) Try.func19 rfl Try.ntmps19 rfl rfl hs0 ?_
  refine hSeq ?_
  refine hReg (sq 0 sz) (by kernel_rfl) ?_
  refine asI rfl rfl rfl ?_
  refine rNil ?_
  refine qSeq rfl ?_
  refine hSeq ?_
  refine hSeq ?_
  refine hReg (sq 0 sz) (by kernel_rfl) ?_
  refine asI rfl rfl rfl ?_
  refine rNil ?_
  refine qSeq rfl ?_
  refine hBlk ?_
  rw [Math.turn_start (Math.seqL k nz) z]
  refine hLoop (α := Nat × Int) (fun x => x.1 ≤ nz ∧ x.2 = k + (x.1 : Int)) (fun x => nz - x.1) (fun x => [OwnI 2 az nz cz (((Math.seqL k nz).take x.1 ++ z.drop x.1))]) (fun x => [(0, .slice az nz cz), (1, .int .i64 x.2), (5, .int .i64 (x.1 : Int))]) (0, k) ⟨Nat.zero_le _, by simp⟩ (fun _ h => h.pick [0]) ⟨rfl, rfl, rfl, trivial⟩ ?_
  rintro ⟨i, q⟩ τ1 ⟨hi, hq⟩
  dsimp only at hi hq
  refine hRe [(0, .slice az nz cz), (1, .int .i64 q), (5, .int .i64 (i : Int))] [OwnI 2 az nz cz (((Math.seqL k nz).take i ++ z.drop i))] rfl rfl ?_
  refine hSeq ?_
  refine hSeq ?_
  refine hReg (sq 0 (sq 1 (sq 2 (sq 3 sz)))) (by kernel_rfl) ?_
  refine mvI rfl rfl rfl ?_
  refine mvS rfl rfl rfl ?_
  refine lenS Try.runUnderlying22 rfl rfl rfl ?_
  refine lss rfl rfl rfl rfl ?_
  refine rNil ?_
  refine qSeq rfl ?_
  refine hIfD rfl (fun c1 => ?_) (fun c1 => ?_)
  · -- c1T
    replace c1 : (i : Int) < (nz : Int) := c1
    refine hSkip ?_
    refine qSeq rfl ?_
    refine hSeq ?_
    refine hBlk ?_
    refine hSeq ?_
    refine hReg (sq 0 (sq 1 (sq 2 (sq 3 (sl 4 sz))))) (by kernel_rfl) ?_
    refine mvS rfl rfl rfl ?_
    refine mvI rfl rfl rfl ?_
    refine mvI rfl rfl rfl ?_
    refine oxI (zn := i) 0 rfl el22 rfl rfl rfl rfl (by omega) (by omega) rfl ?_
    intro gk1 hgk1
    refine stoI (off := i) (x := q) 0 rfl hgk1 Try.sizeOf2 trv rfl rfl rfl rfl (by omega) ?_
    refine rNil ?_
    refine qSeq rfl ?_
    refine hReg (sq 0 (sq 1 (sq 2 sz))) (by kernel_rfl) ?_
    refine mvI rfl rfl rfl ?_
    refine add rfl rfl rfl rfl (by omega) ?_
    refine asI rfl rfl rfl ?_
    refine rNil ?_
    refine qSeq rfl ?_
    refine hReg (sq 0 (sq 1 (sq 2 sz))) (by kernel_rfl) ?_
    refine mvI rfl rfl rfl ?_
    refine add rfl rfl rfl rfl (by omega) ?_
    refine asI rfl rfl rfl ?_
    refine rNil ?_
    rw [hq, ← Math.seqL_get (k := k) (n := nz) (by omega), Math.turn_step 0 hsl lz (by omega), Math.seqL_get (by omega)]
    exact qNext rfl ((i + 1, k + (i : Int) + 1)) (by dsimp only; omega) ⟨by dsimp only; omega, by dsimp only; omega⟩ ⟨rfl, rfl, rfl, trivial⟩ (fun _ h => h.pick [0])
  · -- c1F
    replace c1 : ¬ ((i : Int) < (nz : Int)) := c1
    refine hExit rfl ?_
    refine qSeq rfl ?_
    refine hSeq ?_
    refine hReg (sq 0 (sq 1 sz)) (by kernel_rfl) ?_
    refine mvI rfl rfl rfl ?_
    refine asI rfl rfl rfl ?_
    refine rNil ?_
    refine qSeq rfl ?_
    refine hRet ?_
    rw [Math.turn_end hsl lz (by omega)]
    exact fun w hs => ⟨[.int .i64 q], ⟨rfl, trivial⟩, ⟨(), vI (by omega), trivial, hs.pick [0]⟩⟩

theorem laws_heldInt64S_c (az : Option Addr) (nz : Nat) (cz : Nat) (z : List Int) (k : Int) (w : World) (rz : RdI az nz z w) (hk : 0 ≤ k ∧ k + (nz : Int) ≤ 1000000000) (heq : z = Math.seqL k nz) :
    Calls Try.prog 20 #[.slice az nz cz, .int .i64 k] w (Ret fun v w' => v = .int .i64 ((k + (nz : Int))) ∧ Ext w w') := by
  have kz : Kn w none_ [] (RdI az nz z) := fun w' hs => rz.ext hs.upd
  have lz : z.length = nz := rz.1
  have mz : nz ≤ 9223372036854775807 := rz.2.1
  refine fn (M := none_) (rs := [.tmp 4]) Try.func20 rfl Try.ntmps20 rfl rfl (Sep.start _ _) ?_
  refine hSeq ?_
  refine hReg (sq 0 sz) (by kernel_rfl) ?_
  refine asI rfl rfl rfl ?_
  refine rNil ?_
  refine qSeq rfl ?_
  refine hSeq ?_
  refine hSeq ?_
  refine hReg (sq 0 sz) (by kernel_rfl) ?_
  refine asI rfl rfl rfl ?_
  refine rNil ?_
  refine qSeq rfl ?_
  refine hBlk ?_
  refine hLoop (α := Nat × Int) (fun x => x.1 ≤ nz ∧ x.2 = k + (x.1 : Int)) (fun x => nz - x.1) (fun x => []) (fun x => [(0, .slice az nz cz), (1, .int .i64 x.2), (5, .int .i64 (x.1 : Int))]) (0, k) ⟨Nat.zero_le _, by simp⟩ (fun _ h => h.pick []) ⟨rfl, rfl, rfl, trivial⟩ ?_
  rintro ⟨i, q⟩ τ1 ⟨hi, hq⟩
  dsimp only at hi hq
  refine hRe [(0, .slice az nz cz), (1, .int .i64 q), (5, .int .i64 (i : Int))] [] rfl rfl ?_
  refine hSeq ?_
  refine hSeq ?_
  refine hReg (sq 0 (sq 1 (sq 2 (sq 3 sz)))) (by kernel_rfl) ?_
  refine mvI rfl rfl rfl ?_
  refine mvS rfl rfl rfl ?_
  refine lenS Try.runUnderlying22 rfl rfl rfl ?_
  refine lss rfl rfl rfl rfl ?_
  refine rNil ?_
  refine qSeq rfl ?_
  refine hIfD rfl (fun c1 => ?_) (fun c1 => ?_)
  · -- c1T
    replace c1 : (i : Int) < (nz : Int) := c1
    refine hSkip ?_
    refine qSeq rfl ?_
    refine hSeq ?_
    refine hBlk ?_
    refine hSeq ?_
    refine hSeq ?_
    refine hReg (sq 0 (sq 1 (sq 2 (sl 3 (sq 4 (sq 5 sz)))))) (by kernel_rfl) ?_
    refine mvS rfl rfl rfl ?_
    refine mvI rfl rfl rfl ?_
    refine ixIl (zn := i) el22 (kz) rfl rfl rfl rfl (by omega) (by omega) rfl ?_
    intro ae1 e1
    refine ldl Try.isAgg2 (e1) trv rfl rfl rfl ?_
    refine mvI rfl rfl rfl ?_
    refine neq rfl rfl rfl rfl ?_
    refine rNil ?_
    refine qSeq rfl ?_
    refine hIfD rfl (fun c2 => ?_) (fun c2 => ?_)
    · -- c2T
      replace c2 : (z.getD i 0) ≠ q := c2
      exact absurd (by rw [heq, Math.seqL_get (by omega), hq]) c2
    · -- c2F
      replace c2 : ¬ ((z.getD i 0) ≠ q) := c2
      refine hSkip ?_
      refine qSeq rfl ?_
      refine hReg (sq 0 (sq 1 (sq 2 sz))) (by kernel_rfl) ?_
      refine mvI rfl rfl rfl ?_
      refine add rfl rfl rfl rfl (by omega) ?_
      refine asI rfl rfl rfl ?_
      refine rNil ?_
      refine qSeq rfl ?_
      refine hReg (sq 0 (sq 1 (sq 2 sz))) (by kernel_rfl) ?_
      refine mvI rfl rfl rfl ?_
      refine add rfl rfl rfl rfl (by omega) ?_
      refine asI rfl rfl rfl ?_
      refine rNil ?_
      exact qNext rfl (i + 1, q + 1) (by dsimp only; omega) ⟨by dsimp only; omega, by dsimp only; omega⟩ ⟨rfl, rfl, rfl, trivial⟩ (fun _ h => h.pick [])
  · -- c1F
    replace c1 : ¬ ((i : Int) < (nz : Int)) := c1
    refine hExit rfl ?_
    refine qSeq rfl ?_
    refine hSeq ?_
    refine hReg (sq 0 (sq 1 sz)) (by kernel_rfl) ?_
    refine mvI rfl rfl rfl ?_
    refine asI rfl rfl rfl ?_
    refine rNil ?_
    refine qSeq rfl ?_
    refine hRet ?_
    exact fun w hs => ⟨[.int .i64 q], ⟨rfl, trivial⟩, ⟨vI (by omega), hs.upd⟩⟩

theorem laws_markTreeNodeS_c (az : Option Addr) (nz : Nat) (cz : Nat) (Hz : Nat → Hd) (z : List Nd) (k : Int) (w : World) (M0 : Nat → Prop) (hs0 : Sep w M0 [OwnR ndK 76 2 az nz cz Hz z] w) (hk : 0 ≤ k ∧ k + (Math.sumK Math.f4 z : Int) ≤ 1000000000) :
    Calls Try.prog 61 #[.slice az nz cz, .int .i64 k] w (Ret fun v w' => ∃ x : Unit, v = .int .i64 ((k + (Math.sumK Math.f4 z : Int))) ∧ True ∧ Sep w M0 [OwnR ndK 76 2 az nz cz Hz (Math.marksN k z)] w') := by
  have lzz := (show OwnR ndK 76 2 az nz cz Hz z w from hs0.at_ 0 rfl)
  have mmz := Own.max lzz.2.1
  have lz : z.length = nz := lzz.1
  clear lzz
  have hml : (Math.marksN k z).length = nz := by rw [Math.marksN_len]; exact lz
  obtain ⟨tot, htot⟩ : ∃ t : Int, (Math.sumK Math.f4 z : Int) = t := ⟨_, rfl⟩
  rw [htot]
  refine fn (M := M0) (rs := [.tmp 4]) Try.func61 rfl Try.ntmps61 rfl rfl hs0 ?_
  refine hSeq ?_
  refine hReg (sq 0 sz) (by kernel_rfl) ?_
  refine asI rfl rfl rfl ?_
  refine rNil ?_
  refine qSeq rfl ?_
  refine hSeq ?_
  refine hSeq ?_
  refine hReg (sq 0 sz) (by kernel_rfl) ?_
  refine asI rfl rfl rfl ?_
  refine rNil ?_
  refine qSeq rfl ?_
  refine hBlk ?_
  rw [Math.turn_start (Math.marksN k z) z]
  refine hLoop (α := Nat × Int) (fun x => x.1 ≤ nz ∧ x.2 = k + (Math.sumK Math.f4 (z.take x.1) : Int)) (fun x => nz - x.1) (fun x => [OwnR ndK 76 2 az nz cz Hz (((Math.marksN k z).take x.1 ++ z.drop x.1))]) (fun x => [(0, .slice az nz cz), (1, .int .i64 x.2), (5, .int .i64 (x.1 : Int))]) (0, k) ⟨Nat.zero_le _, by simp [Math.sumK]⟩ (fun _ h => h.pick [0]) ⟨rfl, rfl, rfl, trivial⟩ ?_
  rintro ⟨i, q⟩ τ1 ⟨hi, hq⟩
  dsimp only at hi hq
  refine hRe [(0, .slice az nz cz), (1, .int .i64 q), (5, .int .i64 (i : Int))] [OwnR ndK 76 2 az nz cz Hz (((Math.marksN k z).take i ++ z.drop i))] rfl rfl ?_
  refine hSeq ?_
  refine hSeq ?_
  refine hReg (sq 0 (sq 1 (sq 2 (sq 3 sz)))) (by kernel_rfl) ?_
  refine mvI rfl rfl rfl ?_
  refine mvS rfl rfl rfl ?_
  refine lenS Try.runUnderlying29 rfl rfl rfl ?_
  refine lss rfl rfl rfl rfl ?_
  refine rNil ?_
  refine qSeq rfl ?_
  refine hIfD rfl (fun c1 => ?_) (fun c1 => ?_)
  · -- c1T
    replace c1 : (i : Int) < (nz : Int) := c1
    have hst := Math.sumK_step Math.f4 (l := z) (i := i) dN (by omega)
    have hle := Math.sumK_le Math.f4 z (i + 1)
    have hf4 : Math.f4 (z.getD i dN) = 4 + (z.getD i dN).ch.length := rfl
    refine hSkip ?_
    refine qSeq rfl ?_
    refine hSeq ?_
    refine hBlk ?_
    refine hSeq ?_
    refine hReg (sq 0 (sq 1 (sq 2 (sq 3 (sq 4 (sl 5 sz)))))) (by kernel_rfl) ?_
    refine mvS rfl rfl rfl ?_
    refine mvI rfl rfl rfl ?_
    refine mvI rfl rfl rfl ?_
    refine oxR (zn := i) 0 rfl el29 rfl rfl rfl rfl (by omega) (by omega) rfl ?_
    intro gk1 hgk1
    refine fld fl76_0 rfl rfl rfl ?_
    refine stRc (f := 0) (z.getD i dN) (Nd.mk q ((z.getD i dN).p0) ((z.getD i dN).p1) ((z.getD i dN).fo) ((z.getD i dN).ch)) i 0 ndK.ok rfl hgk1 (Math.turn_at dN hml lz (by omega)) rfl rfl Try.sizeOf2 trv rfl rfl rfl rfl (by decide) rfl rfl ?_
    refine rNil ?_
    refine qSeq rfl ?_
    refine hSeq ?_
    refine hReg (sq 0 (sq 1 (sq 2 sz))) (by kernel_rfl) ?_
    refine mvI rfl rfl rfl ?_
    refine add rfl rfl rfl rfl (by omega) ?_
    refine asI rfl rfl rfl ?_
    refine rNil ?_
    refine qSeq rfl ?_
    refine hSeq ?_
    refine hReg (sq 0 (sq 1 (sq 2 (sq 3 (sq 4 (sl 5 sz)))))) (by kernel_rfl) ?_
    refine mvS rfl rfl rfl ?_
    refine mvI rfl rfl rfl ?_
    refine mvI rfl rfl rfl ?_
    refine oxR (zn := i) 0 rfl el29 rfl rfl rfl rfl (by omega) (by omega) rfl ?_
    intro gk2 hgk2
    refine fld fl76_1 rfl rfl rfl ?_
    refine stRc (f := 1) (Nd.mk q ((z.getD i dN).p0) ((z.getD i dN).p1) ((z.getD i dN).fo) ((z.getD i dN).ch)) (Nd.mk q (q + 1) (((z.getD i dN).p1)) (((z.getD i dN).fo)) (((z.getD i dN).ch))) i 0 ndK.ok rfl hgk2 (Math.set_at (l := ((Math.marksN k z).take i ++ z.drop i)) (by rw [Math.turn_len hml lz]; omega)) rfl rfl Try.sizeOf2 trv rfl rfl rfl rfl (by decide) rfl rfl ?_
    rw [Math.set_two (((Math.marksN k z).take i ++ z.drop i))]
    refine rNil ?_
    refine qSeq rfl ?_
    refine hSeq ?_
    refine hReg (sq 0 (sq 1 (sq 2 sz))) (by kernel_rfl) ?_
    refine mvI rfl rfl rfl ?_
    refine add rfl rfl rfl rfl (by omega) ?_
    refine asI rfl rfl rfl ?_
    refine rNil ?_
    refine qSeq rfl ?_
    refine hSeq ?_
    refine hReg (sq 0 (sq 1 (sq 2 (sq 3 (sq 4 (sl 5 sz)))))) (by kernel_rfl) ?_
    refine mvS rfl rfl rfl ?_
    refine mvI rfl rfl rfl ?_
    refine mvI rfl rfl rfl ?_
    refine oxR (zn := i) 0 rfl el29 rfl rfl rfl rfl (by omega) (by omega) rfl ?_
    intro gk3 hgk3
    refine fld fl76_2 rfl rfl rfl ?_
    refine stRc (f := 2) (Nd.mk q (q + 1) (((z.getD i dN).p1)) (((z.getD i dN).fo)) (((z.getD i dN).ch))) (Nd.mk q (q + 1) (((q + 1) + 1)) ((((z.getD i dN).fo))) ((((z.getD i dN).ch)))) i 0 ndK.ok rfl hgk3 (Math.set_at (l := ((Math.marksN k z).take i ++ z.drop i)) (by rw [Math.turn_len hml lz]; omega)) rfl rfl Try.sizeOf2 trv rfl rfl rfl rfl (by decide) rfl rfl ?_
    rw [Math.set_two (((Math.marksN k z).take i ++ z.drop i))]
    refine rNil ?_
    refine qSeq rfl ?_
    refine hSeq ?_
    refine hReg (sq 0 (sq 1 (sq 2 sz))) (by kernel_rfl) ?_
    refine mvI rfl rfl rfl ?_
    refine add rfl rfl rfl rfl (by omega) ?_
    refine asI rfl rfl rfl ?_
    refine rNil ?_
    refine qSeq rfl ?_
    refine hSeq ?_
    refine hReg (sq 0 (sq 1 (sq 2 (sq 3 (sq 4 (sl 5 sz)))))) (by kernel_rfl) ?_
    refine mvS rfl rfl rfl ?_
    refine mvI rfl rfl rfl ?_
    refine mvI rfl rfl rfl ?_
    refine oxR (zn := i) 0 rfl el29 rfl rfl rfl rfl (by omega) (by omega) rfl ?_
    intro gk4 hgk4
    refine fld fl76_3 rfl rfl rfl ?_
    refine stRc (f := 3) (Nd.mk q (q + 1) (((q + 1) + 1)) ((((z.getD i dN).fo))) ((((z.getD i dN).ch)))) (Nd.mk q (q + 1) ((((q + 1) + 1))) ((((q + 1) + 1) + 1)) (((((z.getD i dN).ch))))) i 0 ndK.ok rfl hgk4 (Math.set_at (l := ((Math.marksN k z).take i ++ z.drop i)) (by rw [Math.turn_len hml lz]; omega)) rfl rfl Try.sizeOf2 trv rfl rfl rfl rfl (by decide) rfl rfl ?_
    rw [Math.set_two (((Math.marksN k z).take i ++ z.drop i))]
    refine rNil ?_
    refine qSeq rfl ?_
    refine hSeq ?_
    refine hReg (sq 0 (sq 1 (sq 2 sz))) (by kernel_rfl) ?_
    refine mvI rfl rfl rfl ?_
    refine add rfl rfl rfl rfl (by omega) ?_
    refine asI rfl rfl rfl ?_
    refine rNil ?_
    refine qSeq rfl ?_
    refine hReg (sq 0 (sq 1 (sq 2 (sq 3 (sl 4 (sq 5 (sl 6 (sq 7 sz)))))))) (by kernel_rfl) ?_
    refine mvS rfl rfl rfl ?_
    refine mvI rfl rfl rfl ?_
    refine ixRl (zn := i) (Nd.mk q (q + 1) ((((q + 1) + 1))) ((((q + 1) + 1) + 1)) (((((z.getD i dN).ch))))) el29 ((Kn.at_ 0 rfl).imp fun _ h => OwnR.rd h ndK.ok) rfl rfl rfl rfl (by omega) (by omega) rfl (Math.set_at (l := ((Math.marksN k z).take i ++ z.drop i)) (by rw [Math.turn_len hml lz]; omega)) ?_
    intro be5 oe5 e5
    refine fld fl76_4 rfl rfl rfl ?_
    refine ldl Try.isAgg22 (Kn.fld e5 4 rfl) trv rfl rfl rfl ?_
    refine mvI rfl rfl rfl ?_
    refine rPieces (fun _ h => Sep.lend h i (Nd.mk q (q + 1) ((((q + 1) + 1))) ((((q + 1) + 1) + 1)) (((((z.getD i dN).ch))))) (Math.set_at (l := ((Math.marksN k z).take i ++ z.drop i)) (by rw [Math.turn_len hml lz]; omega))) ?_
    refine callM (Lf := [OwnI 2 ((Hz i).1) (((((((z.getD i dN).ch))))).length) ((Hz i).2) ((((((z.getD i dN).ch)))))]) (Lr := [OwnH ndK 76 2 az nz cz Hz (((((Math.marksN k z).take i ++ z.drop i)).set i (Nd.mk q (q + 1) ((((q + 1) + 1))) ((((q + 1) + 1) + 1)) (((((z.getD i dN).ch))))))) i]) (φs := fun _ => [OwnI 2 ((Hz i).1) (((((((z.getD i dN).ch))))).length) ((Hz i).2) ((Math.seqL (((((q + 1) + 1) + 1) + 1)) (((((((z.getD i dN).ch))))).length)))]) (val := fun _ => .int .i64 (((((((q + 1) + 1) + 1) + 1)) + ((((((((z.getD i dN).ch))))).length) : Int)))) rfl Try.call19 trv1 rfl rfl (fun w M0 hs => laws_markInt64S_c ((Hz i).1) (((((((z.getD i dN).ch))))).length) ((Hz i).2) ((((((z.getD i dN).ch))))) (((((q + 1) + 1) + 1) + 1)) w M0 hs (by first | omega | (dsimp only; omega))) ?_
    rintro _ -
    refine rPieces (fun _ h => Sep.back (x := (Nd.mk q (q + 1) ((((q + 1) + 1))) ((((q + 1) + 1) + 1)) (((((z.getD i dN).ch)))))) (Nd.mk q (q + 1) (((((q + 1) + 1)))) (((((q + 1) + 1) + 1))) ((Math.seqL (((((q + 1) + 1) + 1) + 1)) (((((((z.getD i dN).ch))))).length)))) ndK.ok h (Math.set_at (l := ((Math.marksN k z).take i ++ z.drop i)) (by rw [Math.turn_len hml lz]; omega)) (fun h1 h2 => by dsimp only [ndK, ndC, maK] at h1 h2 ⊢; rw [h1, h2]) rfl rfl) ?_
    rw [Math.set_two (((Math.marksN k z).take i ++ z.drop i))]
    refine asI rfl rfl rfl ?_
    refine rNil ?_
    refine qSeq rfl ?_
    refine hReg (sq 0 (sq 1 (sq 2 sz))) (by kernel_rfl) ?_
    refine mvI rfl rfl rfl ?_
    refine add rfl rfl rfl rfl (by omega) ?_
    refine asI rfl rfl rfl ?_
    refine rNil ?_
    rw [show (Nd.mk q (q + 1) (((((q + 1) + 1)))) (((((q + 1) + 1) + 1))) ((Math.seqL (((((q + 1) + 1) + 1) + 1)) (((((((z.getD i dN).ch))))).length)))) = (Math.marksN k z).getD i dN from by rw [Math.marksN_get (by omega), ← hq]; try rfl, Math.turn_step dN hml lz (by omega)]
    exact qNext rfl ((i + 1, ((((((q + 1) + 1) + 1) + 1)) + ((((((((z.getD i dN).ch))))).length) : Int)))) (by dsimp only; omega) ⟨by dsimp only; omega, by dsimp only; omega⟩ ⟨rfl, rfl, rfl, trivial⟩ (fun _ h => h.pick [0])
  · -- c1F
    replace c1 : ¬ ((i : Int) < (nz : Int)) := c1
    refine hExit rfl ?_
    refine qSeq rfl ?_
    refine hSeq ?_
    refine hReg (sq 0 (sq 1 sz)) (by kernel_rfl) ?_
    refine mvI rfl rfl rfl ?_
    refine asI rfl rfl rfl ?_
    refine rNil ?_
    refine qSeq rfl ?_
    refine hRet ?_
    rw [Math.turn_end hml lz (by omega)]
    exact fun w hs => ⟨[.int .i64 q], ⟨rfl, trivial⟩, ⟨(), vI (by rw [hq, Math.sumK_all _ (by omega), htot]), trivial, hs.pick [0]⟩⟩

theorem laws_heldTreeNodeS_c (az : Option Addr) (nz : Nat) (cz : Nat) (Hz : Nat → Hd) (z : List Nd) (k : Int) (y : List Nd) (w : World) (rz : RdR ndK az nz Hz z w) (hk : 0 ≤ k ∧ k + (Math.sumK Math.f4 y : Int) ≤ 1000000000) (heq : z = Math.marksN k y) :
    Calls Try.prog 62 #[.slice az nz cz, .int .i64 k] w (Ret fun v w' => v = .int .i64 ((k + (Math.sumK Math.f4 y : Int))) ∧ Ext w w') := by
  have kz : Kn w none_ [] (RdR ndK az nz Hz z) := fun w' hs => rz.ext hs.upd
  have lz : z.length = nz := rz.1
  have mz : nz ≤ 9223372036854775807 := rz.2.1
  have ly : y.length = nz := by rw [← lz, heq, Math.marksN_len]
  refine fn (M := none_) (rs := [.tmp 4]) Try.func62 rfl Try.ntmps62 rfl rfl (Sep.start _ _) ?_
  refine hSeq ?_
  refine hReg (sq 0 sz) (by kernel_rfl) ?_
  refine asI rfl rfl rfl ?_
  refine rNil ?_
  refine qSeq rfl ?_
  refine hSeq ?_
  refine hSeq ?_
  refine hReg (sq 0 sz) (by kernel_rfl) ?_
  refine asI rfl rfl rfl ?_
  refine rNil ?_
  refine qSeq rfl ?_
  refine hBlk ?_
  refine hLoop (α := Nat × Int) (fun x => x.1 ≤ nz ∧ x.2 = k + (Math.sumK Math.f4 (y.take x.1) : Int)) (fun x => nz - x.1) (fun x => []) (fun x => [(0, .slice az nz cz), (1, .int .i64 x.2), (5, .int .i64 (x.1 : Int))]) (0, k) ⟨Nat.zero_le _, by simp [Math.sumK]⟩ (fun _ h => h.pick []) ⟨rfl, rfl, rfl, trivial⟩ ?_
  rintro ⟨i, q⟩ τ1 ⟨hi, hq⟩
  dsimp only at hi hq
  refine hRe [(0, .slice az nz cz), (1, .int .i64 q), (5, .int .i64 (i : Int))] [] rfl rfl ?_
  refine hSeq ?_
  refine hSeq ?_
  refine hReg (sq 0 (sq 1 (sq 2 (sq 3 sz)))) (by kernel_rfl) ?_
  refine mvI rfl rfl rfl ?_
  refine mvS rfl rfl rfl ?_
  refine lenS Try.runUnderlying29 rfl rfl rfl ?_
  refine lss rfl rfl rfl rfl ?_
  refine rNil ?_
  refine qSeq rfl ?_
  refine hIfD rfl (fun c1 => ?_) (fun c1 => ?_)
  · -- c1T
    replace c1 : (i : Int) < (nz : Int) := c1
    have hst := Math.sumK_step Math.f4 (l := y) (i := i) dN (by omega)
    have hle := Math.sumK_le Math.f4 y (i + 1)
    have hf4 : Math.f4 (y.getD i dN) = 4 + (y.getD i dN).ch.length := rfl
    have hrow : (z.getD i dN) = Math.markN q (y.getD i dN) := by rw [heq, Math.marksN_get (by omega), hq]
    have hcl : (z.getD i dN).ch.length = (y.getD i dN).ch.length := by rw [hrow]; exact Math.seqL_len _ _
    refine hSkip ?_
    refine qSeq rfl ?_
    refine hSeq ?_
    refine hBlk ?_
    refine hSeq ?_
    refine hSeq ?_
    refine hReg (sq 0 (sq 1 (sq 2 (sq 3 (sl 4 (sq 5 (sq 6 sz))))))) (by kernel_rfl) ?_
    refine mvS rfl rfl rfl ?_
    refine mvI rfl rfl rfl ?_
    refine ixRl (zn := i) (z.getD i dN) el29 (kz) rfl rfl rfl rfl (by omega) (by omega) rfl (nth dN (by omega)) ?_
    intro be1 oe1 e1
    refine fld fl76_0 rfl rfl rfl ?_
    refine ldl Try.isAgg2 (Kn.fld e1 0 rfl) trv rfl rfl rfl ?_
    refine mvI rfl rfl rfl ?_
    refine neq rfl rfl rfl rfl ?_
    refine rNil ?_
    refine qSeq rfl ?_
    refine hIfD rfl (fun c2 => ?_) (fun c2 => ?_)
    · -- c2T
      replace c2 : (z.getD i dN).pl ≠ q := c2
      exact absurd (by rw [hrow]; rfl) c2
    · -- c2F
      replace c2 : ¬ ((z.getD i dN).pl ≠ q) := c2
      refine hSkip ?_
      refine qSeq rfl ?_
      refine hSeq ?_
      refine hReg (sq 0 (sq 1 (sq 2 sz))) (by kernel_rfl) ?_
      refine mvI rfl rfl rfl ?_
      refine add rfl rfl rfl rfl (by omega) ?_
      refine asI rfl rfl rfl ?_
      refine rNil ?_
      refine qSeq rfl ?_
      refine hSeq ?_
      refine hSeq ?_
      refine hReg (sq 0 (sq 1 (sq 2 (sq 3 (sl 4 (sq 5 (sq 6 sz))))))) (by kernel_rfl) ?_
      refine mvS rfl rfl rfl ?_
      refine mvI rfl rfl rfl ?_
      refine ixRl (zn := i) (z.getD i dN) el29 (kz) rfl rfl rfl rfl (by omega) (by omega) rfl (nth dN (by omega)) ?_
      intro be2 oe2 e2
      refine fld fl76_1 rfl rfl rfl ?_
      refine ldl Try.isAgg2 (Kn.fld e2 1 rfl) trv rfl rfl rfl ?_
      refine mvI rfl rfl rfl ?_
      refine neq rfl rfl rfl rfl ?_
      refine rNil ?_
      refine qSeq rfl ?_
      refine hIfD rfl (fun c3 => ?_) (fun c3 => ?_)
      · -- c3T
        replace c3 : (z.getD i dN).p0 ≠ (q + 1) := c3
        exact absurd (by rw [hrow]; rfl) c3
      · -- c3F
        replace c3 : ¬ ((z.getD i dN).p0 ≠ (q + 1)) := c3
        refine hSkip ?_
        refine qSeq rfl ?_
        refine hSeq ?_
        refine hReg (sq 0 (sq 1 (sq 2 sz))) (by kernel_rfl) ?_
        refine mvI rfl rfl rfl ?_
        refine add rfl rfl rfl rfl (by omega) ?_
        refine asI rfl rfl rfl ?_
        refine rNil ?_
        refine qSeq rfl ?_
        refine hSeq ?_
        refine hSeq ?_
        refine hReg (sq 0 (sq 1 (sq 2 (sq 3 (sl 4 (sq 5 (sq 6 sz))))))) (by kernel_rfl) ?_
        refine mvS rfl rfl rfl ?_
        refine mvI rfl rfl rfl ?_
        refine ixRl (zn := i) (z.getD i dN) el29 (kz) rfl rfl rfl rfl (by omega) (by omega) rfl (nth dN (by omega)) ?_
        intro be3 oe3 e3
        refine fld fl76_2 rfl rfl rfl ?_
        refine ldl Try.isAgg2 (Kn.fld e3 2 rfl) trv rfl rfl rfl ?_
        refine mvI rfl rfl rfl ?_
        refine neq rfl rfl rfl rfl ?_
        refine rNil ?_
        refine qSeq rfl ?_
        refine hIfD rfl (fun c4 => ?_) (fun c4 => ?_)
        · -- c4T
          replace c4 : (z.getD i dN).p1 ≠ ((q + 1) + 1) := c4
          exact absurd (by rw [hrow]; rfl) c4
        · -- c4F
          replace c4 : ¬ ((z.getD i dN).p1 ≠ ((q + 1) + 1)) := c4
          refine hSkip ?_
          refine qSeq rfl ?_
          refine hSeq ?_
          refine hReg (sq 0 (sq 1 (sq 2 sz))) (by kernel_rfl) ?_
          refine mvI rfl rfl rfl ?_
          refine add rfl rfl rfl rfl (by omega) ?_
          refine asI rfl rfl rfl ?_
          refine rNil ?_
          refine qSeq rfl ?_
          refine hSeq ?_
          refine hSeq ?_
          refine hReg (sq 0 (sq 1 (sq 2 (sq 3 (sl 4 (sq 5 (sq 6 sz))))))) (by kernel_rfl) ?_
          refine mvS rfl rfl rfl ?_
          refine mvI rfl rfl rfl ?_
          refine ixRl (zn := i) (z.getD i dN) el29 (kz) rfl rfl rfl rfl (by omega) (by omega) rfl (nth dN (by omega)) ?_
          intro be4 oe4 e4
          refine fld fl76_3 rfl rfl rfl ?_
          refine ldl Try.isAgg2 (Kn.fld e4 3 rfl) trv rfl rfl rfl ?_
          refine mvI rfl rfl rfl ?_
          refine neq rfl rfl rfl rfl ?_
          refine rNil ?_
          refine qSeq rfl ?_
          refine hIfD rfl (fun c5 => ?_) (fun c5 => ?_)
          · -- c5T
            replace c5 : (z.getD i dN).fo ≠ (((q + 1) + 1) + 1) := c5
            exact absurd (by rw [hrow]; rfl) c5
          · -- c5F
            replace c5 : ¬ ((z.getD i dN).fo ≠ (((q + 1) + 1) + 1)) := c5
            refine hSkip ?_
            refine qSeq rfl ?_
            refine hSeq ?_
            refine hReg (sq 0 (sq 1 (sq 2 sz))) (by kernel_rfl) ?_
            refine mvI rfl rfl rfl ?_
            refine add rfl rfl rfl rfl (by omega) ?_
            refine asI rfl rfl rfl ?_
            refine rNil ?_
            refine qSeq rfl ?_
            refine hSeq ?_
            refine hReg (sq 0 (sq 1 (sq 2 (sq 3 (sl 4 (sq 5 (sl 6 (sq 7 sz)))))))) (by kernel_rfl) ?_
            refine mvS rfl rfl rfl ?_
            refine mvI rfl rfl rfl ?_
            refine ixRl (zn := i) (z.getD i dN) el29 (kz) rfl rfl rfl rfl (by omega) (by omega) rfl (nth dN (by omega)) ?_
            intro be5 oe5 e5
            refine fld fl76_4 rfl rfl rfl ?_
            refine ldl Try.isAgg22 (Kn.fld e5 4 rfl) trv rfl rfl rfl ?_
            refine mvI rfl rfl rfl ?_
            refine callP (v := .int .i64 (((((((q + 1) + 1) + 1) + 1)) + ((((z.getD i dN).ch).length) : Int)))) Try.call20 trv rfl rfl (fun w hs => laws_heldInt64S_c _ _ _ _ _ w ((Kn.imp kz fun _ h => h.kidN (nth dN (by omega))) w hs) (by omega) (by rw [hrow]; simp [Math.markN, Math.seqL_len])) ?_
            refine asI rfl rfl rfl ?_
            refine rNil ?_
            refine qSeq rfl ?_
            refine hSeq ?_
            refine hReg (sq 0 (sq 1 sz)) (by kernel_rfl) ?_
            refine mvI rfl rfl rfl ?_
            refine lss rfl rfl rfl rfl ?_
            refine rNil ?_
            refine qSeq rfl ?_
            refine hIfD rfl (fun c6 => ?_) (fun c6 => ?_)
            · -- c6T
              replace c6 : ((((((q + 1) + 1) + 1) + 1)) + ((((z.getD i dN).ch).length) : Int)) < 0 := c6
              exact absurd c6 (by omega)
            · -- c6F
              replace c6 : ¬ (((((((q + 1) + 1) + 1) + 1)) + ((((z.getD i dN).ch).length) : Int)) < 0) := c6
              refine hSkip ?_
              refine qSeq rfl ?_
              refine hReg (sq 0 (sq 1 (sq 2 sz))) (by kernel_rfl) ?_
              refine mvI rfl rfl rfl ?_
              refine add rfl rfl rfl rfl (by omega) ?_
              refine asI rfl rfl rfl ?_
              refine rNil ?_
              exact qNext rfl ((i + 1, ((((((q + 1) + 1) + 1) + 1)) + ((((z.getD i dN).ch).length) : Int)))) (by dsimp only; omega) ⟨by dsimp only; omega, by dsimp only; omega⟩ ⟨rfl, rfl, rfl, trivial⟩ (fun _ h => h.pick [])
  · -- c1F
    replace c1 : ¬ ((i : Int) < (nz : Int)) := c1
    refine hExit rfl ?_
    refine qSeq rfl ?_
    refine hSeq ?_
    refine hReg (sq 0 (sq 1 sz)) (by kernel_rfl) ?_
    refine mvI rfl rfl rfl ?_
    refine asI rfl rfl rfl ?_
    refine rNil ?_
    refine qSeq rfl ?_
    refine hRet ?_
    exact fun w hs => ⟨[.int .i64 q], ⟨rfl, trivial⟩, ⟨vI (by rw [hq, Math.sumK_all _ (by omega)]), hs.upd⟩⟩

theorem laws_markInt64SS_c (az : Option Addr) (nz : Nat) (cz : Nat) (Hz : Nat → Hd) (z : List (List Int)) (k : Int) (w : World) (M0 : Nat → Prop) (hs0 : Sep w M0 [OwnR maK 22 2 az nz cz Hz z] w) (hk : 0 ≤ k ∧ k + (Math.sumK Math.rwl z : Int) ≤ 1000000000) :
    Calls Try.prog 82 #[.slice az nz cz, .int .i64 k] w (Ret fun v w' => ∃ x : Unit, v = .int .i64 ((k + (Math.sumK Math.rwl z : Int))) ∧ True ∧ Sep w M0 [OwnR maK 22 2 az nz cz Hz (Math.marksM k z)] w') := by
  have lzz := (show OwnR maK 22 2 az nz cz Hz z w from hs0.at_ 0 rfl)
  have mmz := Own.max lzz.2.1
  have lz : z.length = nz := lzz.1
  clear lzz
  have hml : (Math.marksM k z).length = nz := by rw [Math.marksM_len]; exact lz
  obtain ⟨tot, htot⟩ : ∃ t : Int, (Math.sumK Math.rwl z : Int) = t := ⟨_, rfl⟩
  rw [htot]
  refine fn (M := M0) (rs := [.tmp 4]) Try.func82 rfl Try.ntmps82 rfl rfl hs0 ?_
  refine hSeq ?_
  refine hReg (sq 0 sz) (by kernel_rfl) ?_
  refine asI rfl rfl rfl ?_
  refine rNil ?_
  refine qSeq rfl ?_
  refine hSeq ?_
  refine hSeq ?_
  refine hReg (sq 0 sz) (by kernel_rfl) ?_
  refine asI rfl rfl rfl ?_
  refine rNil ?_
  refine qSeq rfl ?_
  refine hBlk ?_
  rw [Math.turn_start (Math.marksM k z) z]
  refine hLoop (α := Nat × Int) (fun x => x.1 ≤ nz ∧ x.2 = k + (Math.sumK Math.rwl (z.take x.1) : Int)) (fun x => nz - x.1) (fun x => [OwnR maK 22 2 az nz cz Hz (((Math.marksM k z).take x.1 ++ z.drop x.1))]) (fun x => [(0, .slice az nz cz), (1, .int .i64 x.2), (5, .int .i64 (x.1 : Int))]) (0, k) ⟨Nat.zero_le _, by simp [Math.sumK]⟩ (fun _ h => h.pick [0]) ⟨rfl, rfl, rfl, trivial⟩ ?_
  rintro ⟨i, q⟩ τ1 ⟨hi, hq⟩
  dsimp only at hi hq
  refine hRe [(0, .slice az nz cz), (1, .int .i64 q), (5, .int .i64 (i : Int))] [OwnR maK 22 2 az nz cz Hz (((Math.marksM k z).take i ++ z.drop i))] rfl rfl ?_
  refine hSeq ?_
  refine hSeq ?_
  refine hReg (sq 0 (sq 1 (sq 2 (sq 3 sz)))) (by kernel_rfl) ?_
  refine mvI rfl rfl rfl ?_
  refine mvS rfl rfl rfl ?_
  refine lenS Try.runUnderlying51 rfl rfl rfl ?_
  refine lss rfl rfl rfl rfl ?_
  refine rNil ?_
  refine qSeq rfl ?_
  refine hIfD rfl (fun c1 => ?_) (fun c1 => ?_)
  · -- c1T
    replace c1 : (i : Int) < (nz : Int) := c1
    have hst := Math.sumK_step Math.rwl (l := z) (i := i) [] (by omega)
    have hle := Math.sumK_le Math.rwl z (i + 1)
    have hf4 : Math.rwl (z.getD i []) = (z.getD i []).length := rfl
    refine hSkip ?_
    refine qSeq rfl ?_
    refine hSeq ?_
    refine hBlk ?_
    refine hReg (sq 0 (sq 1 (sq 2 (sl 3 (sq 4 (sl 5 (sq 6 sz))))))) (by kernel_rfl) ?_
    refine mvS rfl rfl rfl ?_
    refine mvI rfl rfl rfl ?_
    refine ixRl (zn := i) (z.getD i []) el51 ((Kn.at_ 0 rfl).imp fun _ h => OwnR.rd h maK.ok) rfl rfl rfl rfl (by omega) (by omega) rfl (Math.turn_at [] hml lz (by omega)) ?_
    intro be1 oe1 e1
    refine ldl Try.isAgg22 (Kn.fld e1 0 rfl) trv rfl rfl rfl ?_
    refine mvI rfl rfl rfl ?_
    refine rPieces (fun _ h => Sep.lend h i (z.getD i []) (Math.turn_at [] hml lz (by omega))) ?_
    refine callM (Lf := [OwnI 2 ((Hz i).1) ((z.getD i []).length) ((Hz i).2) (z.getD i [])]) (Lr := [OwnH maK 22 2 az nz cz Hz (((Math.marksM k z).take i ++ z.drop i)) i]) (φs := fun _ => [OwnI 2 ((Hz i).1) ((z.getD i []).length) ((Hz i).2) ((Math.seqL q ((z.getD i []).length)))]) (val := fun _ => .int .i64 ((q + (((z.getD i []).length) : Int)))) rfl Try.call19 trv1 rfl rfl (fun w M0 hs => laws_markInt64S_c ((Hz i).1) ((z.getD i []).length) ((Hz i).2) (z.getD i []) q w M0 hs (by first | omega | (dsimp only; omega))) ?_
    rintro _ -
    refine rPieces (fun _ h => Sep.back (x := (z.getD i [])) (Math.seqL q ((z.getD i []).length)) maK.ok h (Math.turn_at [] hml lz (by omega)) (fun h1 h2 => by dsimp only [ndK, ndC, maK] at h1 h2 ⊢; rw [h1, h2]) rfl rfl) ?_
    refine asI rfl rfl rfl ?_
    refine rNil ?_
    refine qSeq rfl ?_
    refine hReg (sq 0 (sq 1 (sq 2 sz))) (by kernel_rfl) ?_
    refine mvI rfl rfl rfl ?_
    refine add rfl rfl rfl rfl (by omega) ?_
    refine asI rfl rfl rfl ?_
    refine rNil ?_
    rw [show (Math.seqL q ((z.getD i []).length)) = (Math.marksM k z).getD i [] from by rw [Math.marksM_get (by omega), ← hq]; try rfl, Math.turn_step [] hml lz (by omega)]
    exact qNext rfl ((i + 1, (q + (((z.getD i []).length) : Int)))) (by dsimp only; omega) ⟨by dsimp only; omega, by dsimp only; omega⟩ ⟨rfl, rfl, rfl, trivial⟩ (fun _ h => h.pick [0])
  · -- c1F
    replace c1 : ¬ ((i : Int) < (nz : Int)) := c1
    refine hExit rfl ?_
    refine qSeq rfl ?_
    refine hSeq ?_
    refine hReg (sq 0 (sq 1 sz)) (by kernel_rfl) ?_
    refine mvI rfl rfl rfl ?_
    refine asI rfl rfl rfl ?_
    refine rNil ?_
    refine qSeq rfl ?_
    refine hRet ?_
    rw [Math.turn_end hml lz (by omega)]
    exact fun w hs => ⟨[.int .i64 q], ⟨rfl, trivial⟩, ⟨(), vI (by rw [hq, Math.sumK_all _ (by omega), htot]), trivial, hs.pick [0]⟩⟩

theorem laws_heldInt64SS_c (az : Option Addr) (nz : Nat) (cz : Nat) (Hz : Nat → Hd) (z : List (List Int)) (k : Int) (y : List (List Int)) (w : World) (rz : RdR maK az nz Hz z w) (hk : 0 ≤ k ∧ k + (Math.sumK Math.rwl y : Int) ≤ 1000000000) (heq : z = Math.marksM k y) :
    Calls Try.prog 83 #[.slice az nz cz, .int .i64 k] w (Ret fun v w' => v = .int .i64 ((k + (Math.sumK Math.rwl y : Int))) ∧ Ext w w') := by
  have kz : Kn w none_ [] (RdR maK az nz Hz z) := fun w' hs => rz.ext hs.upd
  have lz : z.length = nz := rz.1
  have mz : nz ≤ 9223372036854775807 := rz.2.1
  have ly : y.length = nz := by rw [← lz, heq, Math.marksM_len]
  refine fn (M := none_) (rs := [.tmp 4]) Try.func83 rfl Try.ntmps83 rfl rfl (Sep.start _ _) ?_
  refine hSeq ?_
  refine hReg (sq 0 sz) (by kernel_rfl) ?_
  refine asI rfl rfl rfl ?_
  refine rNil ?_
  refine qSeq rfl ?_
  refine hSeq ?_
  refine hSeq ?_
  refine hReg (sq 0 sz) (by kernel_rfl) ?_
  refine asI rfl rfl rfl ?_
  refine rNil ?_
  refine qSeq rfl ?_
  refine hBlk ?_
  refine hLoop (α := Nat × Int) (fun x => x.1 ≤ nz ∧ x.2 = k + (Math.sumK Math.rwl (y.take x.1) : Int)) (fun x => nz - x.1) (fun x => []) (fun x => [(0, .slice az nz cz), (1, .int .i64 x.2), (5, .int .i64 (x.1 : Int))]) (0, k) ⟨Nat.zero_le _, by simp [Math.sumK]⟩ (fun _ h => h.pick []) ⟨rfl, rfl, rfl, trivial⟩ ?_
  rintro ⟨i, q⟩ τ1 ⟨hi, hq⟩
  dsimp only at hi hq
  refine hRe [(0, .slice az nz cz), (1, .int .i64 q), (5, .int .i64 (i : Int))] [] rfl rfl ?_
  refine hSeq ?_
  refine hSeq ?_
  refine hReg (sq 0 (sq 1 (sq 2 (sq 3 sz)))) (by kernel_rfl) ?_
  refine mvI rfl rfl rfl ?_
  refine mvS rfl rfl rfl ?_
  refine lenS Try.runUnderlying51 rfl rfl rfl ?_
  refine lss rfl rfl rfl rfl ?_
  refine rNil ?_
  refine qSeq rfl ?_
  refine hIfD rfl (fun c1 => ?_) (fun c1 => ?_)
  · -- c1T
    replace c1 : (i : Int) < (nz : Int) := c1
    have hst := Math.sumK_step Math.rwl (l := y) (i := i) [] (by omega)
    have hle := Math.sumK_le Math.rwl y (i + 1)
    have hf4 : Math.rwl (y.getD i []) = (y.getD i []).length := rfl
    have hrow : (z.getD i []) = Math.seqL q (y.getD i []).length := by rw [heq, Math.marksM_get (by omega), hq]
    have hcl : (z.getD i []).length = (y.getD i []).length := by rw [hrow]; exact Math.seqL_len _ _
    refine hSkip ?_
    refine qSeq rfl ?_
    refine hSeq ?_
    refine hBlk ?_
    refine hSeq ?_
    refine hReg (sq 0 (sq 1 (sq 2 (sl 3 (sq 4 (sl 5 (sq 6 sz))))))) (by kernel_rfl) ?_
    refine mvS rfl rfl rfl ?_
    refine mvI rfl rfl rfl ?_
    refine ixRl (zn := i) (z.getD i []) el51 (kz) rfl rfl rfl rfl (by omega) (by omega) rfl (nth [] (by omega)) ?_
    intro be1 oe1 e1
    refine ldl Try.isAgg22 (Kn.fld e1 0 rfl) trv rfl rfl rfl ?_
    refine mvI rfl rfl rfl ?_
    refine callP (v := .int .i64 ((q + (((z.getD i []).length) : Int)))) Try.call20 trv rfl rfl (fun w hs => laws_heldInt64S_c _ _ _ _ _ w ((Kn.imp kz fun _ h => h.kidM (nth [] (by omega))) w hs) (by omega) (by rw [hrow]; simp [Math.markN, Math.seqL_len])) ?_
    refine asI rfl rfl rfl ?_
    refine rNil ?_
    refine qSeq rfl ?_
    refine hSeq ?_
    refine hReg (sq 0 (sq 1 sz)) (by kernel_rfl) ?_
    refine mvI rfl rfl rfl ?_
    refine lss rfl rfl rfl rfl ?_
    refine rNil ?_
    refine qSeq rfl ?_
    refine hIfD rfl (fun c2 => ?_) (fun c2 => ?_)
    · -- c2T
      replace c2 : (q + (((z.getD i []).length) : Int)) < 0 := c2
      exact absurd c2 (by omega)
    · -- c2F
      replace c2 : ¬ ((q + (((z.getD i []).length) : Int)) < 0) := c2
      refine hSkip ?_
      refine qSeq rfl ?_
      refine hReg (sq 0 (sq 1 (sq 2 sz))) (by kernel_rfl) ?_
      refine mvI rfl rfl rfl ?_
      refine add rfl rfl rfl rfl (by omega) ?_
      refine asI rfl rfl rfl ?_
      refine rNil ?_
      exact qNext rfl ((i + 1, (q + (((z.getD i []).length) : Int)))) (by dsimp only; omega) ⟨by dsimp only; omega, by dsimp only; omega⟩ ⟨rfl, rfl, rfl, trivial⟩ (fun _ h => h.pick [])
  · -- c1F
    replace c1 : ¬ ((i : Int) < (nz : Int)) := c1
    refine hExit rfl ?_
    refine qSeq rfl ?_
    refine hSeq ?_
    refine hReg (sq 0 (sq 1 sz)) (by kernel_rfl) ?_
    refine mvI rfl rfl rfl ?_
    refine asI rfl rfl rfl ?_
    refine rNil ?_
    refine qSeq rfl ?_
    refine hRet ?_
    exact fun w hs => ⟨[.int .i64 q], ⟨rfl, trivial⟩, ⟨vI (by rw [hq, Math.sumK_all _ (by omega)]), hs.upd⟩⟩

theorem laws_markTree_c (az : Option Addr) (nz : Nat) (cz : Nat) (Hz : Nat → Hd) (z : List Nd) (k : Int) (w : World) (M0 : Nat → Prop) (hs0 : Sep w M0 [OwnR ndK 76 2 az nz cz Hz z] w) (hk : 0 ≤ k ∧ k + (Math.sumK Math.f4 z : Int) ≤ 1000000000) :
    Calls Try.prog 24 #[.agg #[.slice az nz cz], .int .i64 k] w (Ret fun v w' => ∃ x : Unit, v = .int .i64 ((k + (Math.sumK Math.f4 z : Int))) ∧ True ∧ Sep w M0 [OwnR ndK 76 2 az nz cz Hz (Math.marksN k z)] w') := by
  have lzz := (show OwnR ndK 76 2 az nz cz Hz z w from hs0.at_ 0 rfl)
  have mmz := Own.max lzz.2.1
  have lz : z.length = nz := lzz.1
  clear lzz
  refine fn (M := M0) (rs := [.tmp 4]) Try.func24 rfl Try.ntmps24 rfl rfl hs0 ?_
  refine hSeq ?_
  refine hReg (sl 0 (sq 1 sz)) (by kernel_rfl) ?_
  refine box trv1 rfl rfl rfl rfl (fun bkb1 hbkb1 => ?_)
  refine asI rfl rfl rfl ?_
  refine rNil ?_
  refine qSeq rfl ?_
  refine hSeq ?_
  refine hReg (sq 0 (sl 1 (sq 2 (sl 3 (sq 4 sz))))) (by kernel_rfl) ?_
  refine fld fl31_0 rfl rfl rfl ?_
  refine ldl Try.isAgg29 (cB 0 rfl rfl) trv rfl rfl rfl ?_
  refine mvI rfl rfl rfl ?_
  refine rPieces (fun _ h => h.pick [1, 0]) ?_
  refine callM (Lf := [OwnR ndK 76 2 az nz cz Hz z]) (Lr := [blk bkb1 31 [.slice az nz cz]]) (φs := fun _ => [OwnR ndK 76 2 az nz cz Hz (Math.marksN k z)]) (val := fun _ => .int .i64 ((k + (Math.sumK Math.f4 z : Int)))) rfl Try.call61 trv1 rfl rfl (fun w M0 hs => laws_markTreeNodeS_c az nz cz Hz z k w M0 hs (by omega)) ?_
  rintro _ -
  refine asI rfl rfl rfl ?_
  refine rNil ?_
  refine qSeq rfl ?_
  refine hSeq ?_
  refine hReg (sq 0 (sq 1 sz)) (by kernel_rfl) ?_
  refine mvI rfl rfl rfl ?_
  refine asI rfl rfl rfl ?_
  refine rNil ?_
  refine qSeq rfl ?_
  refine hRet ?_
  exact fun w hs => ⟨[.int .i64 ((k + (Math.sumK Math.f4 z : Int)))], ⟨rfl, trivial⟩, ⟨(), rfl, trivial, hs.pick [0]⟩⟩

theorem laws_heldTree_c (az : Option Addr) (nz : Nat) (cz : Nat) (Hz : Nat → Hd) (z : List Nd) (k : Int) (y : List Nd) (w : World) (rz : RdR ndK az nz Hz z w) (hk : 0 ≤ k ∧ k + (Math.sumK Math.f4 y : Int) ≤ 1000000000) (heq : z = Math.marksN k y) :
    Calls Try.prog 25 #[.agg #[.slice az nz cz], .int .i64 k] w (Ret fun v w' => v = .int .i64 ((k + (Math.sumK Math.f4 y : Int))) ∧ Ext w w') := by
  have kz : Kn w none_ [] (RdR ndK az nz Hz z) := fun w' hs => rz.ext hs.upd
  have lz : z.length = nz := rz.1
  have mz : nz ≤ 9223372036854775807 := rz.2.1
  refine fn (M := none_) (rs := [.tmp 4]) Try.func25 rfl Try.ntmps25 rfl rfl (Sep.start _ _) ?_
  refine hSeq ?_
  refine hReg (sl 0 (sq 1 sz)) (by kernel_rfl) ?_
  refine box trv1 rfl rfl rfl rfl (fun bkb1 hbkb1 => ?_)
  refine asI rfl rfl rfl ?_
  refine rNil ?_
  refine qSeq rfl ?_
  refine hSeq ?_
  refine hReg (sq 0 (sl 1 (sq 2 (sl 3 (sq 4 sz))))) (by kernel_rfl) ?_
  refine fld fl31_0 rfl rfl rfl ?_
  refine ldl Try.isAgg29 (cB 0 rfl rfl) trv rfl rfl rfl ?_
  refine mvI rfl rfl rfl ?_
  refine callP Try.call62 trv rfl rfl (fun w hs => laws_heldTreeNodeS_c _ _ _ _ _ _ _ w (Kn.drop (k := 1) kz w hs) (by omega) (by first | rfl | assumption)) ?_
  refine asI rfl rfl rfl ?_
  refine rNil ?_
  refine qSeq rfl ?_
  refine hSeq ?_
  refine hSeq ?_
  refine hReg (sq 0 (sq 1 sz)) (by kernel_rfl) ?_
  refine mvI rfl rfl rfl ?_
  refine lss rfl rfl rfl rfl ?_
  refine rNil ?_
  refine qSeq rfl ?_
  refine hIfD rfl (fun c1 => ?_) (fun c1 => ?_)
  · -- c1T
    exact absurd c1 (by omega)
  · -- c1F
    refine hSkip ?_
    refine qSeq rfl ?_
    refine hSeq ?_
    refine hReg (sq 0 (sq 1 sz)) (by kernel_rfl) ?_
    refine mvI rfl rfl rfl ?_
    refine asI rfl rfl rfl ?_
    refine rNil ?_
    refine qSeq rfl ?_
    refine hRet ?_
    exact fun w hs => ⟨[.int .i64 _], ⟨rfl, trivial⟩, ⟨by first | rfl | exact bD (by omega) | exact bT (by omega) | exact bF (by omega) | exact vI (by omega), hs.upd⟩⟩

theorem laws_markGame_c (az : Option Addr) (nz : Nat) (cz : Nat) (Hz : Nat → Hd) (z : List Nd) (aws : Option Addr) (nws : Nat) (cws : Nat) (Hws : Nat → Hd) (ws : List (List Int)) (avs : Option Addr) (nvs : Nat) (cvs : Nat) (Hvs : Nat → Hd) (vs : List (List Int)) (k : Int) (w : World) (M0 : Nat → Prop) (hs0 : Sep w M0 [OwnR ndK 76 2 az nz cz Hz z, OwnR maK 22 2 aws nws cws Hws ws, OwnR maK 22 2 avs nvs cvs Hvs vs] w) (hk : 0 ≤ k ∧ k + (Math.sumK Math.f4 z : Int) + (Math.sumK Math.rwl ws : Int) + (Math.sumK Math.rwl vs : Int) ≤ 1000000000) :
    Calls Try.prog 47 #[.agg #[.slice az nz cz, .slice aws nws cws, .slice avs nvs cvs], .int .i64 k] w (Ret fun v w' => ∃ x : Unit, v = .int .i64 ((((k + (Math.sumK Math.f4 z : Int)) + (Math.sumK Math.rwl ws : Int)) + (Math.sumK Math.rwl vs : Int))) ∧ True ∧ Sep w M0 [OwnR ndK 76 2 az nz cz Hz (Math.marksN k z), OwnR maK 22 2 aws nws cws Hws ((Math.marksM (k + (Math.sumK Math.f4 z : Int)) ws)), OwnR maK 22 2 avs nvs cvs Hvs ((Math.marksM ((k + (Math.sumK Math.f4 z : Int)) + (Math.sumK Math.rwl ws : Int)) vs))] w') := by
  have lzz := (show OwnR ndK 76 2 az nz cz Hz z w from hs0.at_ 0 rfl)
  have mmz := Own.max lzz.2.1
  have lz : z.length = nz := lzz.1
  clear lzz
  have lzws := (show OwnR maK 22 2 aws nws cws Hws ws w from hs0.at_ 1 rfl)
  have mmws := Own.max lzws.2.1
  have lws : ws.length = nws := lzws.1
  clear lzws
  have lzvs := (show OwnR maK 22 2 avs nvs cvs Hvs vs w from hs0.at_ 2 rfl)
  have mmvs := Own.max lzvs.2.1
  have lvs : vs.length = nvs := lzvs.1
  clear lzvs
  refine fn (M := M0) (rs := [.tmp 4]) Try.func47 rfl Try.ntmps47 rfl rfl hs0 ?_
  refine hSeq ?_
  refine hReg (sl 0 (sq 1 sz)) (by kernel_rfl) ?_
  refine box trv1 rfl rfl rfl rfl (fun bkb1 hbkb1 => ?_)
  refine asI rfl rfl rfl ?_
  refine rNil ?_
  refine qSeq rfl ?_
  refine hSeq ?_
  refine hReg (sq 0 (sl 1 (sq 2 (sl 3 (sq 4 sz))))) (by kernel_rfl) ?_
  refine fld fl57_0 rfl rfl rfl ?_
  refine ldAl Try.isAgg31 Try.sizeOf31 (cBp (m := 1) 0 rfl rfl) trv rfl rfl rfl rfl ?_
  refine mvI rfl rfl rfl ?_
  refine rPieces (fun _ h => h.pick [1, 0, 0, 0]) ?_
  refine callM (Lf := [OwnR ndK 76 2 az nz cz Hz z]) (Lr := [blk bkb1 57 [.slice az nz cz, .slice aws nws cws, .slice avs nvs cvs], OwnR maK 22 2 aws nws cws Hws ws, OwnR maK 22 2 avs nvs cvs Hvs vs]) (φs := fun _ => [OwnR ndK 76 2 az nz cz Hz (Math.marksN k z)]) (val := fun _ => .int .i64 ((k + (Math.sumK Math.f4 z : Int)))) rfl Try.call24 trv1 rfl rfl (fun w M0 hs => laws_markTree_c az nz cz Hz z k w M0 hs (by omega)) ?_
  rintro _ -
  refine asI rfl rfl rfl ?_
  refine rNil ?_
  refine qSeq rfl ?_
  refine hSeq ?_
  refine hReg (sq 0 (sl 1 (sq 2 (sl 3 (sq 4 sz))))) (by kernel_rfl) ?_
  refine fld fl57_1 rfl rfl rfl ?_
  refine ldl Try.isAgg51 (cB 1 rfl rfl) trv rfl rfl rfl ?_
  refine mvI rfl rfl rfl ?_
  refine rPieces (fun _ h => h.pick [2, 0, 0, 0]) ?_
  refine callM (Lf := [OwnR maK 22 2 aws nws cws Hws ws]) (Lr := [OwnR ndK 76 2 az nz cz Hz (Math.marksN k z), blk bkb1 57 [.slice az nz cz, .slice aws nws cws, .slice avs nvs cvs], OwnR maK 22 2 avs nvs cvs Hvs vs]) (φs := fun _ => [OwnR maK 22 2 aws nws cws Hws ((Math.marksM ((k + (Math.sumK Math.f4 z : Int))) ws))]) (val := fun _ => .int .i64 ((((k + (Math.sumK Math.f4 z : Int))) + (Math.sumK Math.rwl ws : Int)))) rfl Try.call82 trv1 rfl rfl (fun w M0 hs => laws_markInt64SS_c aws nws cws Hws ws ((k + (Math.sumK Math.f4 z : Int))) w M0 hs (by omega)) ?_
  rintro _ -
  refine asI rfl rfl rfl ?_
  refine rNil ?_
  refine qSeq rfl ?_
  refine hSeq ?_
  refine hReg (sq 0 (sl 1 (sq 2 (sl 3 (sq 4 sz))))) (by kernel_rfl) ?_
  refine fld fl57_2 rfl rfl rfl ?_
  refine ldl Try.isAgg51 (cB 2 rfl rfl) trv rfl rfl rfl ?_
  refine mvI rfl rfl rfl ?_
  refine rPieces (fun _ h => h.pick [3, 0, 0, 0]) ?_
  refine callM (Lf := [OwnR maK 22 2 avs nvs cvs Hvs vs]) (Lr := [OwnR maK 22 2 aws nws cws Hws ((Math.marksM ((k + (Math.sumK Math.f4 z : Int))) ws)), OwnR ndK 76 2 az nz cz Hz (Math.marksN k z), blk bkb1 57 [.slice az nz cz, .slice aws nws cws, .slice avs nvs cvs]]) (φs := fun _ => [OwnR maK 22 2 avs nvs cvs Hvs ((Math.marksM ((((k + (Math.sumK Math.f4 z : Int))) + (Math.sumK Math.rwl ws : Int))) vs))]) (val := fun _ => .int .i64 ((((((k + (Math.sumK Math.f4 z : Int))) + (Math.sumK Math.rwl ws : Int))) + (Math.sumK Math.rwl vs : Int)))) rfl Try.call82 trv1 rfl rfl (fun w M0 hs => laws_markInt64SS_c avs nvs cvs Hvs vs ((((k + (Math.sumK Math.f4 z : Int))) + (Math.sumK Math.rwl ws : Int))) w M0 hs (by omega)) ?_
  rintro _ -
  refine asI rfl rfl rfl ?_
  refine rNil ?_
  refine qSeq rfl ?_
  refine hSeq ?_
  refine hReg (sq 0 (sq 1 sz)) (by kernel_rfl) ?_
  refine mvI rfl rfl rfl ?_
  refine asI rfl rfl rfl ?_
  refine rNil ?_
  refine qSeq rfl ?_
  refine hRet ?_
  exact fun w hs => ⟨[.int .i64 ((((((k + (Math.sumK Math.f4 z : Int))) + (Math.sumK Math.rwl ws : Int))) + (Math.sumK Math.rwl vs : Int)))], ⟨rfl, trivial⟩, ⟨(), rfl, trivial, hs.pick [2, 1, 0]⟩⟩

theorem laws_heldGame_c (az : Option Addr) (nz : Nat) (cz : Nat) (Hz : Nat → Hd) (z : List Nd) (aws : Option Addr) (nws : Nat) (cws : Nat) (Hws : Nat → Hd) (ws : List (List Int)) (avs : Option Addr) (nvs : Nat) (cvs : Nat) (Hvs : Nat → Hd) (vs : List (List Int)) (k : Int) (y : List Nd) (yw : List (List Int)) (yv : List (List Int)) (w : World) (rz : RdR ndK az nz Hz z w) (rws : RdR maK aws nws Hws ws w) (rvs : RdR maK avs nvs Hvs vs w) (hk : 0 ≤ k ∧ k + (Math.sumK Math.f4 y : Int) + (Math.sumK Math.rwl yw : Int) + (Math.sumK Math.rwl yv : Int) ≤ 1000000000) (heq : z = Math.marksN k y) (hew : ws = Math.marksM (k + (Math.sumK Math.f4 y : Int)) yw) (hev : vs = Math.marksM ((k + (Math.sumK Math.f4 y : Int)) + (Math.sumK Math.rwl yw : Int)) yv) :
    Calls Try.prog 48 #[.agg #[.slice az nz cz, .slice aws nws cws, .slice avs nvs cvs], .int .i64 k] w (Ret fun v w' => v = .int .i64 ((((k + (Math.sumK Math.f4 y : Int)) + (Math.sumK Math.rwl yw : Int)) + (Math.sumK Math.rwl yv : Int))) ∧ Ext w w') := by
  have kz : Kn w none_ [] (RdR ndK az nz Hz z) := fun w' hs => rz.ext hs.upd
  have lz : z.length = nz := rz.1
  have mz : nz ≤ 9223372036854775807 := rz.2.1
  have kws : Kn w none_ [] (RdR maK aws nws Hws ws) := fun w' hs => rws.ext hs.upd
  have lws : ws.length = nws := rws.1
  have mws : nws ≤ 9223372036854775807 := rws.2.1
  have kvs : Kn w none_ [] (RdR maK avs nvs Hvs vs) := fun w' hs => rvs.ext hs.upd
  have lvs : vs.length = nvs := rvs.1
  have mvs : nvs ≤ 9223372036854775807 := rvs.2.1
  refine fn (M := none_) (rs := [.tmp 4]) Try.func48 rfl Try.ntmps48 rfl rfl (Sep.start _ _) ?_
  refine hSeq ?_
  refine hReg (sl 0 (sq 1 sz)) (by kernel_rfl) ?_
  refine box trv1 rfl rfl rfl rfl (fun bkb1 hbkb1 => ?_)
  refine asI rfl rfl rfl ?_
  refine rNil ?_
  refine qSeq rfl ?_
  refine hSeq ?_
  refine hReg (sq 0 (sl 1 (sq 2 (sl 3 (sq 4 sz))))) (by kernel_rfl) ?_
  refine fld fl57_0 rfl rfl rfl ?_
  refine ldAl Try.isAgg31 Try.sizeOf31 (cBp (m := 1) 0 rfl rfl) trv rfl rfl rfl rfl ?_
  refine mvI rfl rfl rfl ?_
  refine callP (v := .int .i64 ((k + (Math.sumK Math.f4 y : Int)))) Try.call25 trv rfl rfl (fun w hs => laws_heldTree_c _ _ _ _ _ _ _ w (Kn.drop (k := 1) kz w hs) (by omega) (by first | rfl | assumption)) ?_
  refine asI rfl rfl rfl ?_
  refine rNil ?_
  refine qSeq rfl ?_
  refine hSeq ?_
  refine hSeq ?_
  refine hReg (sq 0 (sq 1 sz)) (by kernel_rfl) ?_
  refine mvI rfl rfl rfl ?_
  refine lss rfl rfl rfl rfl ?_
  refine rNil ?_
  refine qSeq rfl ?_
  refine hIfD rfl (fun c1 => ?_) (fun c1 => ?_)
  · -- c1T
    replace c1 : (k + (Math.sumK Math.f4 y : Int)) < 0 := c1
    exact absurd c1 (by omega)
  · -- c1F
    replace c1 : ¬ ((k + (Math.sumK Math.f4 y : Int)) < 0) := c1
    refine hSkip ?_
    refine qSeq rfl ?_
    refine hSeq ?_
    refine hReg (sq 0 (sl 1 (sq 2 (sl 3 (sq 4 sz))))) (by kernel_rfl) ?_
    refine fld fl57_1 rfl rfl rfl ?_
    refine ldl Try.isAgg51 (cB 0 rfl rfl) trv rfl rfl rfl ?_
    refine mvI rfl rfl rfl ?_
    refine callP (v := .int .i64 ((((k + (Math.sumK Math.f4 y : Int))) + (Math.sumK Math.rwl yw : Int)))) Try.call83 trv rfl rfl (fun w hs => laws_heldInt64SS_c _ _ _ _ _ _ _ w (Kn.drop (k := 1) kws w hs) (by omega) (by first | rfl | assumption)) ?_
    refine asI rfl rfl rfl ?_
    refine rNil ?_
    refine qSeq rfl ?_
    refine hSeq ?_
    refine hSeq ?_
    refine hReg (sq 0 (sq 1 sz)) (by kernel_rfl) ?_
    refine mvI rfl rfl rfl ?_
    refine lss rfl rfl rfl rfl ?_
    refine rNil ?_
    refine qSeq rfl ?_
    refine hIfD rfl (fun c2 => ?_) (fun c2 => ?_)
    · -- c2T
      replace c2 : (((k + (Math.sumK Math.f4 y : Int))) + (Math.sumK Math.rwl yw : Int)) < 0 := c2
      exact absurd c2 (by omega)
    · -- c2F
      replace c2 : ¬ ((((k + (Math.sumK Math.f4 y : Int))) + (Math.sumK Math.rwl yw : Int)) < 0) := c2
      refine hSkip ?_
      refine qSeq rfl ?_
      refine hSeq ?_
      refine hReg (sq 0 (sl 1 (sq 2 (sl 3 (sq 4 sz))))) (by kernel_rfl) ?_
      refine fld fl57_2 rfl rfl rfl ?_
      refine ldl Try.isAgg51 (cB 0 rfl rfl) trv rfl rfl rfl ?_
      refine mvI rfl rfl rfl ?_
      refine callP (v := .int .i64 ((((((k + (Math.sumK Math.f4 y : Int))) + (Math.sumK Math.rwl yw : Int))) + (Math.sumK Math.rwl yv : Int)))) Try.call83 trv rfl rfl (fun w hs => laws_heldInt64SS_c _ _ _ _ _ _ _ w (Kn.drop (k := 1) kvs w hs) (by omega) (by first | rfl | assumption)) ?_
      refine asI rfl rfl rfl ?_
      refine rNil ?_
      refine qSeq rfl ?_
      refine hSeq ?_
      refine hSeq ?_
      refine hReg (sq 0 (sq 1 sz)) (by kernel_rfl) ?_
      refine mvI rfl rfl rfl ?_
      refine lss rfl rfl rfl rfl ?_
      refine rNil ?_
      refine qSeq rfl ?_
      refine hIfD rfl (fun c3 => ?_) (fun c3 => ?_)
      · -- c3T
        replace c3 : (((((k + (Math.sumK Math.f4 y : Int))) + (Math.sumK Math.rwl yw : Int))) + (Math.sumK Math.rwl yv : Int)) < 0 := c3
        exact absurd c3 (by omega)
      · -- c3F
        replace c3 : ¬ ((((((k + (Math.sumK Math.f4 y : Int))) + (Math.sumK Math.rwl yw : Int))) + (Math.sumK Math.rwl yv : Int)) < 0) := c3
        refine hSkip ?_
        refine qSeq rfl ?_
        refine hSeq ?_
        refine hReg (sq 0 (sq 1 sz)) (by kernel_rfl) ?_
        refine mvI rfl rfl rfl ?_
        refine asI rfl rfl rfl ?_
        refine rNil ?_
        refine qSeq rfl ?_
        refine hRet ?_
        exact fun w hs => ⟨[.int .i64 ((((((k + (Math.sumK Math.f4 y : Int))) + (Math.sumK Math.rwl yw : Int))) + (Math.sumK Math.rwl yv : Int)))], ⟨rfl, trivial⟩, ⟨by first | rfl | exact bD (by omega) | exact bT (by omega) | exact bF (by omega) | exact vI (by omega), hs.upd⟩⟩

end Go.Proofs.Ytjbdddfjaognfaa
