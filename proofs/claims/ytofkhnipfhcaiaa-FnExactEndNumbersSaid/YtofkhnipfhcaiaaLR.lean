/- Contracts of ratios. Their conditions stand in each. -/
import Derived.Test.YtofkhnipfhcaiaaEngC
import Derived.Test.YtofkhnipfhcaiaaMath
import Derived.Test.YtofkhnipfhcaiaaTree
import Derived.Test.YtofkhnipfhcaiaaL1
import Derived.Test.YtofkhnipfhcaiaaL2
import Derived.Test.YtofkhnipfhcaiaaRows
namespace Go.Proofs.Ytofkhnipfhcaiaa
open Go Go.RowKit V
set_option linter.unusedVariables false
set_option linter.unusedSimpArgs false
set_option maxRecDepth 100000

theorem fl59_0 : Fld Try.prog 59 0 0 := by
  intro w ad; simp [Instr.fieldAt, Try.runUnderlying59, Instr.sureAddr, fieldPlace, Try.sizeOf2]
theorem fl59_1 : Fld Try.prog 59 1 1 := by
  intro w ad; simp [Instr.fieldAt, Try.runUnderlying59, Instr.sureAddr, fieldPlace, Try.sizeOf2]
theorem bld59   : ∀ w, (Instr.build 59 ([] : List (Nat × Value)).toArray).run Try.prog w = .ok (.agg ([.int .i64 0, .int .i64 0] : List Value).toArray) w := by
  intro w; simp [Instr.build, Instr.fill, Try.zeroValue59, Try.runUnderlying59, aggCells, Try.sizeOf2]
theorem bld59_0_1 (v0 v1 : Value) (h0 : v0.cells = #[v0]) (h1 : v1.cells = #[v1]) : ∀ w, (Instr.build 59 ([(0, v0), (1, v1)] : List (Nat × Value)).toArray).run Try.prog w = .ok (.agg ([v0, v1] : List Value).toArray) w := by
  intro w; simp [Instr.build, Instr.fill, Try.zeroValue59, Try.runUnderlying59, aggCells, Try.sizeOf2, h0, h1]

theorem impl_absOf_c (n : Int) (w : World) (hn : -9223372036854775807 ≤ n ∧ n ≤ 9223372036854775807) :
    Calls Try.prog 92 #[.int .i64 n] w (Ret fun v w' => v = .int .i64 (n.natAbs : Int) ∧ Ext w w') := by
  refine fn (M := none_) (rs := [.tmp 2]) Try.func92 rfl Try.ntmps92 rfl rfl (Sep.start _ _) ?_
  refine hSeq ?_
  refine hReg (sq 0 sz) (by kernel_rfl) ?_
  refine asI rfl rfl rfl ?_
  refine rNil ?_
  refine qSeq rfl ?_
  refine hSeq ?_
  refine hSeq ?_
  refine hReg (sq 0 (sq 1 sz)) (by kernel_rfl) ?_
  refine mvI rfl rfl rfl ?_
  refine lss rfl rfl rfl rfl ?_
  refine rNil ?_
  refine qSeq rfl ?_
  refine hIfD rfl (fun c1 => ?_) (fun c1 => ?_)
  · -- c1T
    replace c1 : n < 0 := c1
    refine hSeq ?_
    refine hReg (sq 0 (sq 1 (sq 2 sz))) (by kernel_rfl) ?_
    refine mvI rfl rfl rfl ?_
    refine neg rfl rfl rfl (by omega) ?_
    refine asI rfl rfl rfl ?_
    refine rNil ?_
    refine qSeq rfl ?_
    refine hRet ?_
    exact fun w hs => ⟨[.int .i64 (-n)], ⟨rfl, trivial⟩, ⟨vI (by omega), hs.upd⟩⟩
  · -- c1F
    replace c1 : ¬ (n < 0) := c1
    refine hSkip ?_
    refine qSeq rfl ?_
    refine hSeq ?_
    refine hReg (sq 0 (sq 1 sz)) (by kernel_rfl) ?_
    refine mvI rfl rfl rfl ?_
    refine asI rfl rfl rfl ?_
    refine rNil ?_
    refine qSeq rfl ?_
    refine hRet ?_
    exact fun w hs => ⟨[.int .i64 n], ⟨rfl, trivial⟩, ⟨vI (by omega), hs.upd⟩⟩

theorem spec_l01Abs_c (n : Int) (w : World) (hn : -9223372036854775807 ≤ n ∧ n ≤ 9223372036854775807) :
    Calls Try.prog 89 #[.int .i64 n] w (Ret fun v w' => v = .int .i64 (n.natAbs : Int) ∧ Ext w w') := by
  refine fn (M := none_) (rs := [.tmp 2]) Try.func89 rfl Try.ntmps89 rfl rfl (Sep.start _ _) ?_
  refine hSeq ?_
  refine hReg (sq 0 sz) (by kernel_rfl) ?_
  refine asI rfl rfl rfl ?_
  refine rNil ?_
  refine qSeq rfl ?_
  refine hSeq ?_
  refine hReg (sq 0 (sq 1 (sq 2 (sq 3 (sq 4 sz))))) (by kernel_rfl) ?_
  refine mvI rfl rfl rfl ?_
  refine mvI rfl rfl rfl ?_
  refine neg rfl rfl rfl (by omega) ?_
  refine max2 rfl rfl rfl rfl ?_
  refine asI rfl rfl rfl ?_
  refine rNil ?_
  refine qSeq rfl ?_
  refine hRet ?_
  exact fun w hs => ⟨[.int .i64 ((max n (-n)))], ⟨rfl, trivial⟩, ⟨vI (by omega), hs.upd⟩⟩

theorem impl_divisorOf_c (a : Int) (b : Int) (w : World) (ha : 0 ≤ a) (hb : 0 ≤ b) :
    Calls Try.prog 91 #[.int .i64 a, .int .i64 b] w (Ret fun v w' => v = .int .i64 (Math.gcdI a b) ∧ Ext w w') := by
  refine fn (M := none_) (rs := [.tmp 4]) Try.func91 rfl Try.ntmps91 rfl rfl (Sep.start _ _) ?_
  refine hSeq ?_
  refine hReg (sq 0 sz) (by kernel_rfl) ?_
  refine asI rfl rfl rfl ?_
  refine rNil ?_
  refine qSeq rfl ?_
  refine hSeq ?_
  refine hBlk ?_
  refine hLoop (α := Int × Int) (fun x => 0 ≤ x.1 ∧ 0 ≤ x.2 ∧ Math.gcdI x.1 x.2 = Math.gcdI a b) (fun x => x.2.toNat) (fun x => []) (fun x => [(0, .int .i64 x.1), (1, .int .i64 x.2)]) (a, b) ⟨ha, hb, rfl⟩ (fun _ h => h.pick []) ⟨rfl, rfl, trivial⟩ ?_
  rintro ⟨p, q⟩ τ1 ⟨hp, hq, hg⟩
  dsimp only at hp hq hg
  refine hRe [(0, .int .i64 p), (1, .int .i64 q)] [] rfl rfl ?_
  refine hSeq ?_
  refine hSeq ?_
  refine hReg (sq 0 (sq 1 sz)) (by kernel_rfl) ?_
  refine mvI rfl rfl rfl ?_
  refine gtr rfl rfl rfl rfl ?_
  refine rNil ?_
  refine qSeq rfl ?_
  refine hIfD rfl (fun c1 => ?_) (fun c1 => ?_)
  · -- c1T
    replace c1 : 0 < q := c1
    refine hSkip ?_
    refine qSeq rfl ?_
    refine hBlk ?_
    refine hDraw (Ls := []) (by kernel_rfl) (sq 0 (sq 1 (sq 2 (sq 3 (sq 4 (sq 5 sz)))))) (by kernel_rfl) .slnil ?_
    refine mvI rfl rfl rfl ?_
    refine mvI rfl rfl rfl ?_
    refine mvI rfl rfl rfl ?_
    refine rem rfl rfl rfl rfl (by omega) ?_
    refine asI rfl rfl rfl ?_
    refine asI rfl rfl rfl ?_
    refine rNil ?_
    exact qNext rfl (q, p % q) (Math.mod_lt hp (by omega)) ⟨hq, Int.emod_nonneg _ (by omega), by rw [← hg]; exact Math.gcd_step hp (by omega)⟩ ⟨rfl, rfl, trivial⟩ (fun _ h => h.pick [])
  · -- c1F
    replace c1 : ¬ (0 < q) := c1
    refine hExit rfl ?_
    refine qSeq rfl ?_
    refine hSeq ?_
    refine hReg (sq 0 (sq 1 sz)) (by kernel_rfl) ?_
    refine mvI rfl rfl rfl ?_
    refine asI rfl rfl rfl ?_
    refine rNil ?_
    refine qSeq rfl ?_
    refine hRet ?_
    exact fun w hs => ⟨[.int .i64 p], ⟨rfl, trivial⟩, ⟨vI (by rw [← hg]; exact Math.gcd_end hp (by omega)), hs.upd⟩⟩

theorem spec_l01Gcd_c_r (kk_ : Nat) : ∀ (a : Int) (b : Int) (w : World), b.toNat = kk_ → (0 ≤ a) → (0 ≤ b) → Calls Try.prog 88 #[.int .i64 a, .int .i64 b] w (Ret fun v w' => v = .int .i64 (Math.gcdI a b) ∧ Ext w w') := by
  induction kk_ using Nat.strongRecOn with
  | _ kk_ ih =>
    intro a b w hK ha hb

    refine fn (M := none_) (rs := [.tmp 4]) Try.func88 rfl Try.ntmps88 rfl rfl (Sep.start _ _) ?_
    refine hSeq ?_
    refine hReg (sq 0 sz) (by kernel_rfl) ?_
    refine asI rfl rfl rfl ?_
    refine rNil ?_
    refine qSeq rfl ?_
    refine hSeq ?_
    refine hSeq ?_
    refine hReg (sq 0 (sq 1 sz)) (by kernel_rfl) ?_
    refine mvI rfl rfl rfl ?_
    refine eql rfl rfl rfl rfl ?_
    refine rNil ?_
    refine qSeq rfl ?_
    refine hIfD rfl (fun c1 => ?_) (fun c1 => ?_)
    · -- c1T
      replace c1 : b = 0 := c1
      refine hSeq ?_
      refine hReg (sq 0 (sq 1 sz)) (by kernel_rfl) ?_
      refine mvI rfl rfl rfl ?_
      refine asI rfl rfl rfl ?_
      refine rNil ?_
      refine qSeq rfl ?_
      refine hRet ?_
      exact fun w hs => ⟨[.int .i64 a], ⟨rfl, trivial⟩, ⟨vI (Math.gcd_end ha c1), hs.upd⟩⟩
    · -- c1F
      replace c1 : ¬ (b = 0) := c1
      have hg := Math.gcd_step ha (show 0 < b by omega)
      have hm0 := Int.emod_nonneg a (show b ≠ 0 by omega)
      refine hSkip ?_
      refine qSeq rfl ?_
      refine hSeq ?_
      refine hReg (sq 0 (sq 1 (sq 2 (sq 3 (sl 4 (sq 5 sz)))))) (by kernel_rfl) ?_
      refine mvI rfl rfl rfl ?_
      refine mvI rfl rfl rfl ?_
      refine mvI rfl rfl rfl ?_
      refine rem rfl rfl rfl rfl (by omega) ?_
      refine callP (v := .int .i64 ((Math.gcdI b (a % b)))) Try.call88 trv rfl rfl (fun w hs => ih _ (by have := Math.mod_lt ha (show 0 < b by omega); omega) _ _ w rfl (by omega) (by omega)) ?_
      refine asI rfl rfl rfl ?_
      refine rNil ?_
      refine qSeq rfl ?_
      refine hRet ?_
      exact fun w hs => ⟨[.int .i64 ((Math.gcdI b (a % b)))], ⟨rfl, trivial⟩, ⟨vI hg, hs.upd⟩⟩

theorem spec_l01Gcd_c (a : Int) (b : Int) (w : World) (ha : 0 ≤ a) (hb : 0 ≤ b) :
    Calls Try.prog 88 #[.int .i64 a, .int .i64 b] w (Ret fun v w' => v = .int .i64 (Math.gcdI a b) ∧ Ext w w') := spec_l01Gcd_c_r _ a b w rfl ha hb

theorem impl_IsRatio_c (n : Int) (d : Int) (w : World) :
    Calls Try.prog 93 #[.agg #[.int .i64 n, .int .i64 d]] w (Ret fun v w' => v = .bool (Math.isRatio n d) ∧ Ext w w') := by
  refine fn (M := none_) (rs := [.tmp 2]) Try.func93 rfl Try.ntmps93 rfl rfl (Sep.start _ _) ?_
  refine hSeq ?_
  refine hReg (sl 0 (sq 1 sz)) (by kernel_rfl) ?_
  refine box trv1 rfl rfl rfl rfl (fun bkb1 hbkb1 => ?_)
  refine asB rfl rfl rfl ?_
  refine rNil ?_
  refine qSeq rfl ?_
  refine hSeq ?_
  refine hDraw (Ls := [blk bkb1 59 [.int .i64 n, .int .i64 d]]) (by kernel_rfl) (sq 0 (sq 1 (sl 2 (sq 3 (sq 4 (sq 5 (sl 6 (sq 7 (sq 8 (sq 9 (sq 10 (sq 12 (sq 13 (sl 11 (sl 14 (sq 15 (sq 16 (sq 17 sz)))))))))))))))))) (by kernel_rfl) (.cons_cons _ .slnil) ?_
  refine fld fl59_0 rfl rfl rfl ?_
  refine ldq Try.isAgg2 (cB 0 rfl rfl) rfl rfl rfl ?_
  refine callP (v := .bool (decide ((-1000000000) ≤ n ∧ n ≤ (1000000000 : Int)))) Try.call54 (fun _ h => h.pick [0]) rfl rfl (fun w hs => impl_within_c _ _ _ w ) ?_
  refine mvB rfl rfl rfl ?_
  refine rBoolD (d := 6) rfl (fun g1 => ?_) (fun g1 => ?_)
  · -- g1T
    replace g1 : (-1000000000) ≤ n ∧ n ≤ (1000000000 : Int) := g1
    refine fld fl59_1 rfl rfl rfl ?_
    refine ldq Try.isAgg2 (cB 0 rfl rfl) rfl rfl rfl ?_
    refine callP (v := .bool (decide ((1 : Int) ≤ d ∧ d ≤ (1000000000 : Int)))) Try.call54 (fun _ h => h.pick [0]) rfl rfl (fun w hs => impl_within_c _ _ _ w ) ?_
    refine pickB rfl rfl rfl rfl ?_
    refine mvB rfl rfl rfl ?_
    refine rBoolD (d := 11) rfl (fun g2 => ?_) (fun g2 => ?_)
    · -- g2T
      replace g2 : (1 : Int) ≤ d ∧ d ≤ (1000000000 : Int) := g2
      refine fld fl59_0 rfl rfl rfl ?_
      refine ldq Try.isAgg2 (cB 0 rfl rfl) rfl rfl rfl ?_
      refine fld fl59_1 rfl rfl rfl ?_
      refine ldq Try.isAgg2 (cB 0 rfl rfl) rfl rfl rfl ?_
      refine callP (v := .int .i64 (n.natAbs : Int)) Try.call92 (fun _ h => h.pick [0]) rfl rfl (fun w hs => impl_absOf_c _ w (by omega)) ?_
      refine callP (v := .int .i64 ((Math.gcdI (n.natAbs : Int) d))) Try.call91 (fun _ h => h.pick [0]) rfl rfl (fun w hs => impl_divisorOf_c _ _ w (by omega) (by omega)) ?_
      refine eql rfl rfl rfl rfl ?_
      refine pickB rfl rfl rfl rfl ?_
      refine asB rfl rfl rfl ?_
      refine rNil ?_
      refine qSeq rfl ?_
      refine hRet ?_
      exact fun w hs => ⟨[.bool (decide ((Math.gcdI (n.natAbs : Int) d) = 1))], ⟨rfl, trivial⟩, ⟨bB (by simp [Math.isRatio, *]), hs.upd⟩⟩
    · -- g2F
      replace g2 : ¬ ((1 : Int) ≤ d ∧ d ≤ (1000000000 : Int)) := g2
      refine rSkipQ rfl rfl ?_
      refine rSkipQ rfl rfl ?_
      refine rSkipQ rfl rfl ?_
      refine rSkipQ rfl rfl ?_
      refine rSkipL (fun _ h => h.pick [0]) rfl rfl ?_
      refine rSkipL (fun _ h => h.pick [0]) rfl rfl ?_
      refine rSkipQ rfl rfl ?_
      refine pickB rfl rfl rfl rfl ?_
      refine asB rfl rfl rfl ?_
      refine rNil ?_
      refine qSeq rfl ?_
      refine hRet ?_
      exact fun w hs => ⟨[.bool false], ⟨rfl, trivial⟩, ⟨bB (by simp [Math.isRatio, *]), hs.upd⟩⟩
  · -- g1F
    replace g1 : ¬ ((-1000000000) ≤ n ∧ n ≤ (1000000000 : Int)) := g1
    refine rSkipQ rfl rfl ?_
    refine rSkipQ rfl rfl ?_
    refine rSkipL (fun _ h => h.pick [0]) rfl rfl ?_
    refine pickB rfl rfl rfl rfl ?_
    refine mvB rfl rfl rfl ?_
    refine rSkipQ rfl rfl ?_
    refine rSkipQ rfl rfl ?_
    refine rSkipQ rfl rfl ?_
    refine rSkipQ rfl rfl ?_
    refine rSkipL (fun _ h => h.pick [0]) rfl rfl ?_
    refine rSkipL (fun _ h => h.pick [0]) rfl rfl ?_
    refine rSkipQ rfl rfl ?_
    refine pickB rfl rfl rfl rfl ?_
    refine asB rfl rfl rfl ?_
    refine rNil ?_
    refine qSeq rfl ?_
    refine hRet ?_
    exact fun w hs => ⟨[.bool false], ⟨rfl, trivial⟩, ⟨bB (by simp [Math.isRatio, *]), hs.upd⟩⟩

theorem impl_reduced_c (num : Int) (den : Int) (w : World) (hn : -9223372036854775807 ≤ num ∧ num ≤ 9223372036854775807) (hd : 1 ≤ den) (hd2 : den ≤ 9223372036854775807) :
    Calls Try.prog 64 #[.int .i64 num, .int .i64 den] w (Ret fun v w' => v = .tuple #[.agg #[.int .i64 ((Math.reduced num den).1.1), .int .i64 ((Math.reduced num den).1.2)], .int .i64 ((Math.reduced num den).2)] ∧ Ext w w') := by
  refine fn (M := none_) (rs := [.cell 4 59, .tmp 5]) Try.func64 rfl Try.ntmps64 rfl rfl (Sep.start _ _) ?_
  refine hSeq ?_
  refine hReg (sl 0 (sq 1 sz)) (by kernel_rfl) ?_
  refine alc Try.zeroValue59 rfl trv1 rfl rfl (fun bka1 hbka1 => ?_)
  refine asI rfl rfl rfl ?_
  refine rNil ?_
  refine qSeq rfl ?_
  refine hSeq ?_
  refine hReg (sq 0 (sl 1 (sq 2 (sl 3 (sq 4 sz))))) (by kernel_rfl) ?_
  refine mvI rfl rfl rfl ?_
  refine callP (v := .int .i64 (num.natAbs : Int)) Try.call92 trv rfl rfl (fun w hs => impl_absOf_c _ w (by omega)) ?_
  refine mvI rfl rfl rfl ?_
  refine callP (v := .int .i64 ((Math.gcdI (num.natAbs : Int) den))) Try.call91 trv rfl rfl (fun w hs => impl_divisorOf_c _ _ w (by omega) (by omega)) ?_
  refine asI rfl rfl rfl ?_
  refine rNil ?_
  refine qSeq rfl ?_
  refine hSeq ?_
  refine hDraw (Ls := []) (by kernel_rfl) (sq 0 (sq 1 (sq 2 (sq 3 (sq 4 (sq 5 (sq 6 (sl 7 (sf 8 sz))))))))) (by kernel_rfl) (.cons _ .slnil) ?_
  refine mvI rfl rfl rfl ?_
  refine mvI rfl rfl rfl ?_
  refine quoT rfl rfl rfl rfl (by have := Math.gcdI_pos num.natAbs hd; omega) ?_
  refine mvI rfl rfl rfl ?_
  refine mvI rfl rfl rfl ?_
  refine quo rfl rfl rfl rfl (by have := Math.gcdI_pos num.natAbs hd; omega) ?_
  refine bld rfl rfl rfl (bld59_0_1 (.int .i64 _) (.int .i64 _) rfl rfl) ?_
  refine alc Try.zeroValue59 rfl (fun _ _ h => h.pick []) rfl rfl (fun bka2 hbka2 => ?_)
  refine stAf (vs := [.int .i64 ((Int.tdiv num ((Math.gcdI (num.natAbs : Int) den)))), .int .i64 ((den / ((Math.gcdI (num.natAbs : Int) den))))]) 0 rfl Try.sizeOf59 rfl rfl rfl rfl rfl (by simp [Value.oneCell']) rfl ?_
  refine rNil ?_
  refine qSeq rfl ?_
  refine hSeq ?_
  refine hSeq ?_
  refine hReg (sl 0 (sl 1 (sq 2 sz))) (by kernel_rfl) ?_
  refine ldAl Try.isAgg59 Try.sizeOf59 (cBs 0 rfl) trv rfl rfl rfl rfl ?_
  refine callP (v := .bool ((Math.isRatio ((Int.tdiv num ((Math.gcdI (num.natAbs : Int) den)))) ((den / ((Math.gcdI (num.natAbs : Int) den))))))) Try.call93 trv rfl rfl (fun w hs => impl_IsRatio_c _ _ w ) ?_
  refine not rfl rfl rfl ?_
  refine rNil ?_
  refine qSeq rfl ?_
  refine hIfN rfl (fun c1 => ?_) (fun c1 => ?_)
  · -- c1T
    replace c1 : (Math.isRatio ((Int.tdiv num ((Math.gcdI (num.natAbs : Int) den)))) ((den / ((Math.gcdI (num.natAbs : Int) den))))) = false := c1
    refine hSeq ?_
    refine hReg (sq 0 (sl 1 (sq 2 sz))) (by kernel_rfl) ?_
    refine bld rfl rfl rfl (bld59) ?_
    refine stAl (vs := [.int .i64 0, .int .i64 0]) 1 rfl Try.sizeOf59 trv rfl rfl rfl rfl rfl (by simp [Value.oneCell']) rfl ?_
    refine asI rfl rfl rfl ?_
    refine rNil ?_
    refine qSeq rfl ?_
    refine hRet ?_
    exact fun w hs => ⟨[_, .int .i64 3], ⟨⟨_, rfl, run_load_agg Try.isAgg59 Try.sizeOf59 rfl (cBs 1 rfl w hs)⟩, ⟨rfl, trivial⟩⟩, ⟨by simp [Math.reduced, one, *], hs.upd⟩⟩
  · -- c1F
    replace c1 : (Math.isRatio ((Int.tdiv num ((Math.gcdI (num.natAbs : Int) den)))) ((den / ((Math.gcdI (num.natAbs : Int) den))))) = true := c1
    refine hSkip ?_
    refine qSeq rfl ?_
    refine hSeq ?_
    refine hReg (sl 0 (sl 1 (sq 2 sz))) (by kernel_rfl) ?_
    refine ldAl Try.isAgg59 Try.sizeOf59 (cBs 0 rfl) trv rfl rfl rfl rfl ?_
    refine stAl (vs := [.int .i64 ((Int.tdiv num ((Math.gcdI (num.natAbs : Int) den)))), .int .i64 ((den / ((Math.gcdI (num.natAbs : Int) den))))]) 1 rfl Try.sizeOf59 trv rfl rfl rfl rfl rfl (by simp [Value.oneCell']) rfl ?_
    refine asI rfl rfl rfl ?_
    refine rNil ?_
    refine qSeq rfl ?_
    refine hRet ?_
    exact fun w hs => ⟨[_, .int .i64 0], ⟨⟨_, rfl, run_load_agg Try.isAgg59 Try.sizeOf59 rfl (cBs 1 rfl w hs)⟩, ⟨rfl, trivial⟩⟩, ⟨by simp [Math.reduced, one, *], hs.upd⟩⟩

theorem spec_IsRatio_c (n : Int) (d : Int) (w : World) :
    Calls Try.prog 90 #[.agg #[.int .i64 n, .int .i64 d]] w (Ret fun v w' => v = .bool (Math.isRatio n d) ∧ Ext w w') := by
  refine fn (M := none_) (rs := [.tmp 2]) Try.func90 rfl Try.ntmps90 rfl rfl (Sep.start _ _) ?_
  refine hSeq ?_
  refine hReg (sl 0 (sq 1 sz)) (by kernel_rfl) ?_
  refine box trv1 rfl rfl rfl rfl (fun bkb1 hbkb1 => ?_)
  refine asB rfl rfl rfl ?_
  refine rNil ?_
  refine qSeq rfl ?_
  refine hSeq ?_
  refine hDraw (Ls := [blk bkb1 59 [.int .i64 n, .int .i64 d]]) (by kernel_rfl) (sq 0 (sq 1 (sl 2 (sq 3 (sq 4 (sq 5 (sl 6 (sq 7 (sq 8 (sq 9 (sq 10 (sq 12 (sq 13 (sl 11 (sl 14 (sq 15 (sq 16 (sq 17 sz)))))))))))))))))) (by kernel_rfl) (.cons_cons _ .slnil) ?_
  refine fld fl59_0 rfl rfl rfl ?_
  refine ldq Try.isAgg2 (cB 0 rfl rfl) rfl rfl rfl ?_
  refine callP (v := .bool (decide ((-1000000000) ≤ n ∧ n ≤ (1000000000 : Int)))) Try.call51 (fun _ h => h.pick [0]) rfl rfl (fun w hs => spec_l01In_c _ _ _ w ) ?_
  refine mvB rfl rfl rfl ?_
  refine rBoolD (d := 6) rfl (fun g1 => ?_) (fun g1 => ?_)
  · -- g1T
    replace g1 : (-1000000000) ≤ n ∧ n ≤ (1000000000 : Int) := g1
    refine fld fl59_1 rfl rfl rfl ?_
    refine ldq Try.isAgg2 (cB 0 rfl rfl) rfl rfl rfl ?_
    refine callP (v := .bool (decide ((1 : Int) ≤ d ∧ d ≤ (1000000000 : Int)))) Try.call51 (fun _ h => h.pick [0]) rfl rfl (fun w hs => spec_l01In_c _ _ _ w ) ?_
    refine pickB rfl rfl rfl rfl ?_
    refine mvB rfl rfl rfl ?_
    refine rBoolD (d := 11) rfl (fun g2 => ?_) (fun g2 => ?_)
    · -- g2T
      replace g2 : (1 : Int) ≤ d ∧ d ≤ (1000000000 : Int) := g2
      refine fld fl59_0 rfl rfl rfl ?_
      refine ldq Try.isAgg2 (cB 0 rfl rfl) rfl rfl rfl ?_
      refine fld fl59_1 rfl rfl rfl ?_
      refine ldq Try.isAgg2 (cB 0 rfl rfl) rfl rfl rfl ?_
      refine callP (v := .int .i64 (n.natAbs : Int)) Try.call89 (fun _ h => h.pick [0]) rfl rfl (fun w hs => spec_l01Abs_c _ w (by omega)) ?_
      refine callP (v := .int .i64 ((Math.gcdI (n.natAbs : Int) d))) Try.call88 (fun _ h => h.pick [0]) rfl rfl (fun w hs => spec_l01Gcd_c _ _ w (by omega) (by omega)) ?_
      refine eql rfl rfl rfl rfl ?_
      refine pickB rfl rfl rfl rfl ?_
      refine asB rfl rfl rfl ?_
      refine rNil ?_
      refine qSeq rfl ?_
      refine hRet ?_
      exact fun w hs => ⟨[.bool (decide ((Math.gcdI (n.natAbs : Int) d) = 1))], ⟨rfl, trivial⟩, ⟨bB (by simp [Math.isRatio, *]), hs.upd⟩⟩
    · -- g2F
      replace g2 : ¬ ((1 : Int) ≤ d ∧ d ≤ (1000000000 : Int)) := g2
      refine rSkipQ rfl rfl ?_
      refine rSkipQ rfl rfl ?_
      refine rSkipQ rfl rfl ?_
      refine rSkipQ rfl rfl ?_
      refine rSkipL (fun _ h => h.pick [0]) rfl rfl ?_
      refine rSkipL (fun _ h => h.pick [0]) rfl rfl ?_
      refine rSkipQ rfl rfl ?_
      refine pickB rfl rfl rfl rfl ?_
      refine asB rfl rfl rfl ?_
      refine rNil ?_
      refine qSeq rfl ?_
      refine hRet ?_
      exact fun w hs => ⟨[.bool false], ⟨rfl, trivial⟩, ⟨bB (by simp [Math.isRatio, *]), hs.upd⟩⟩
  · -- g1F
    replace g1 : ¬ ((-1000000000) ≤ n ∧ n ≤ (1000000000 : Int)) := g1
    refine rSkipQ rfl rfl ?_
    refine rSkipQ rfl rfl ?_
    refine rSkipL (fun _ h => h.pick [0]) rfl rfl ?_
    refine pickB rfl rfl rfl rfl ?_
    refine mvB rfl rfl rfl ?_
    refine rSkipQ rfl rfl ?_
    refine rSkipQ rfl rfl ?_
    refine rSkipQ rfl rfl ?_
    refine rSkipQ rfl rfl ?_
    refine rSkipL (fun _ h => h.pick [0]) rfl rfl ?_
    refine rSkipL (fun _ h => h.pick [0]) rfl rfl ?_
    refine rSkipQ rfl rfl ?_
    refine pickB rfl rfl rfl rfl ?_
    refine asB rfl rfl rfl ?_
    refine rNil ?_
    refine qSeq rfl ?_
    refine hRet ?_
    exact fun w hs => ⟨[.bool false], ⟨rfl, trivial⟩, ⟨bB (by simp [Math.isRatio, *]), hs.upd⟩⟩

theorem spec_l01Ratio_c (num : Int) (den : Int) (w : World) (hn : -9223372036854775807 ≤ num ∧ num ≤ 9223372036854775807) (hd : 1 ≤ den) (hd2 : den ≤ 9223372036854775807) :
    Calls Try.prog 63 #[.int .i64 num, .int .i64 den] w (Ret fun v w' => v = .tuple #[.agg #[.int .i64 ((Math.reduced num den).1.1), .int .i64 ((Math.reduced num den).1.2)], .int .i64 ((Math.reduced num den).2)] ∧ Ext w w') := by
  refine fn (M := none_) (rs := [.cell 4 59, .tmp 5]) Try.func63 rfl Try.ntmps63 rfl rfl (Sep.start _ _) ?_
  refine hSeq ?_
  refine hReg (sl 0 (sq 1 sz)) (by kernel_rfl) ?_
  refine alc Try.zeroValue59 rfl trv1 rfl rfl (fun bka1 hbka1 => ?_)
  refine asI rfl rfl rfl ?_
  refine rNil ?_
  refine qSeq rfl ?_
  refine hSeq ?_
  refine hReg (sq 0 (sl 1 (sq 2 (sl 3 (sq 4 sz))))) (by kernel_rfl) ?_
  refine mvI rfl rfl rfl ?_
  refine callP (v := .int .i64 (num.natAbs : Int)) Try.call89 trv rfl rfl (fun w hs => spec_l01Abs_c _ w (by omega)) ?_
  refine mvI rfl rfl rfl ?_
  refine callP (v := .int .i64 ((Math.gcdI (num.natAbs : Int) den))) Try.call88 trv rfl rfl (fun w hs => spec_l01Gcd_c _ _ w (by omega) (by omega)) ?_
  refine asI rfl rfl rfl ?_
  refine rNil ?_
  refine qSeq rfl ?_
  refine hSeq ?_
  refine hDraw (Ls := []) (by kernel_rfl) (sq 0 (sq 1 (sq 2 (sq 3 (sq 4 (sq 5 (sq 6 (sl 7 (sf 8 sz))))))))) (by kernel_rfl) (.cons _ .slnil) ?_
  refine mvI rfl rfl rfl ?_
  refine mvI rfl rfl rfl ?_
  refine quoT rfl rfl rfl rfl (by have := Math.gcdI_pos num.natAbs hd; omega) ?_
  refine mvI rfl rfl rfl ?_
  refine mvI rfl rfl rfl ?_
  refine quo rfl rfl rfl rfl (by have := Math.gcdI_pos num.natAbs hd; omega) ?_
  refine bld rfl rfl rfl (bld59_0_1 (.int .i64 _) (.int .i64 _) rfl rfl) ?_
  refine alc Try.zeroValue59 rfl (fun _ _ h => h.pick []) rfl rfl (fun bka2 hbka2 => ?_)
  refine stAf (vs := [.int .i64 ((Int.tdiv num ((Math.gcdI (num.natAbs : Int) den)))), .int .i64 ((den / ((Math.gcdI (num.natAbs : Int) den))))]) 0 rfl Try.sizeOf59 rfl rfl rfl rfl rfl (by simp [Value.oneCell']) rfl ?_
  refine rNil ?_
  refine qSeq rfl ?_
  refine hSeq ?_
  refine hSeq ?_
  refine hReg (sl 0 (sl 1 (sq 2 sz))) (by kernel_rfl) ?_
  refine ldAl Try.isAgg59 Try.sizeOf59 (cBs 0 rfl) trv rfl rfl rfl rfl ?_
  refine callP (v := .bool ((Math.isRatio ((Int.tdiv num ((Math.gcdI (num.natAbs : Int) den)))) ((den / ((Math.gcdI (num.natAbs : Int) den))))))) Try.call90 trv rfl rfl (fun w hs => spec_IsRatio_c _ _ w ) ?_
  refine not rfl rfl rfl ?_
  refine rNil ?_
  refine qSeq rfl ?_
  refine hIfN rfl (fun c1 => ?_) (fun c1 => ?_)
  · -- c1T
    replace c1 : (Math.isRatio ((Int.tdiv num ((Math.gcdI (num.natAbs : Int) den)))) ((den / ((Math.gcdI (num.natAbs : Int) den))))) = false := c1
    refine hSeq ?_
    refine hReg (sq 0 (sl 1 (sq 2 sz))) (by kernel_rfl) ?_
    refine bld rfl rfl rfl (bld59) ?_
    refine stAl (vs := [.int .i64 0, .int .i64 0]) 1 rfl Try.sizeOf59 trv rfl rfl rfl rfl rfl (by simp [Value.oneCell']) rfl ?_
    refine asI rfl rfl rfl ?_
    refine rNil ?_
    refine qSeq rfl ?_
    refine hRet ?_
    exact fun w hs => ⟨[_, .int .i64 3], ⟨⟨_, rfl, run_load_agg Try.isAgg59 Try.sizeOf59 rfl (cBs 1 rfl w hs)⟩, ⟨rfl, trivial⟩⟩, ⟨by simp [Math.reduced, one, *], hs.upd⟩⟩
  · -- c1F
    replace c1 : (Math.isRatio ((Int.tdiv num ((Math.gcdI (num.natAbs : Int) den)))) ((den / ((Math.gcdI (num.natAbs : Int) den))))) = true := c1
    refine hSkip ?_
    refine qSeq rfl ?_
    refine hSeq ?_
    refine hReg (sl 0 (sl 1 (sq 2 sz))) (by kernel_rfl) ?_
    refine ldAl Try.isAgg59 Try.sizeOf59 (cBs 0 rfl) trv rfl rfl rfl rfl ?_
    refine stAl (vs := [.int .i64 ((Int.tdiv num ((Math.gcdI (num.natAbs : Int) den)))), .int .i64 ((den / ((Math.gcdI (num.natAbs : Int) den))))]) 1 rfl Try.sizeOf59 trv rfl rfl rfl rfl rfl (by simp [Value.oneCell']) rfl ?_
    refine asI rfl rfl rfl ?_
    refine rNil ?_
    refine qSeq rfl ?_
    refine hRet ?_
    exact fun w hs => ⟨[_, .int .i64 0], ⟨⟨_, rfl, run_load_agg Try.isAgg59 Try.sizeOf59 rfl (cBs 1 rfl w hs)⟩, ⟨rfl, trivial⟩⟩, ⟨by simp [Math.reduced, one, *], hs.upd⟩⟩

theorem laws_eqRatio_c (n : Int) (d : Int) (m : Int) (e : Int) (w : World) (heq : n = m ∧ d = e) :
    Calls Try.prog 30 #[.agg #[.int .i64 n, .int .i64 d], .agg #[.int .i64 m, .int .i64 e]] w (Ret fun v w' => v = .bool true ∧ Ext w w') := by
  refine fn (M := none_) (rs := [.tmp 4]) Try.func30 rfl Try.ntmps30 rfl rfl (Sep.start _ _) ?_
  refine hSeq ?_
  refine hReg (sl 0 (sl 1 (sq 2 sz))) (by kernel_rfl) ?_
  refine box trv1 rfl rfl rfl rfl (fun bkb1 hbkb1 => ?_)
  refine box trv1 rfl rfl rfl rfl (fun bkb2 hbkb2 => ?_)
  refine asB rfl rfl rfl ?_
  refine rNil ?_
  refine qSeq rfl ?_
  refine hSeq ?_
  refine hSeq ?_
  refine hReg (sq 0 (sl 1 (sq 2 (sl 3 (sq 4 sz))))) (by kernel_rfl) ?_
  refine fld fl59_0 rfl rfl rfl ?_
  refine ldl Try.isAgg2 (cB 1 rfl rfl) trv rfl rfl rfl ?_
  refine fld fl59_0 rfl rfl rfl ?_
  refine ldl Try.isAgg2 (cB 0 rfl rfl) trv rfl rfl rfl ?_
  refine neq rfl rfl rfl rfl ?_
  refine rNil ?_
  refine qSeq rfl ?_
  refine hIfD rfl (fun c1 => ?_) (fun c1 => ?_)
  · -- c1T
    replace c1 : n ≠ m := c1
    exact absurd heq.1 c1
  · -- c1F
    replace c1 : ¬ (n ≠ m) := c1
    refine hSkip ?_
    refine qSeq rfl ?_
    refine hSeq ?_
    refine hSeq ?_
    refine hReg (sq 0 (sl 1 (sq 2 (sl 3 (sq 4 sz))))) (by kernel_rfl) ?_
    refine fld fl59_1 rfl rfl rfl ?_
    refine ldl Try.isAgg2 (cB 1 rfl rfl) trv rfl rfl rfl ?_
    refine fld fl59_1 rfl rfl rfl ?_
    refine ldl Try.isAgg2 (cB 0 rfl rfl) trv rfl rfl rfl ?_
    refine neq rfl rfl rfl rfl ?_
    refine rNil ?_
    refine qSeq rfl ?_
    refine hIfD rfl (fun c2 => ?_) (fun c2 => ?_)
    · -- c2T
      replace c2 : d ≠ e := c2
      exact absurd heq.2 c2
    · -- c2F
      replace c2 : ¬ (d ≠ e) := c2
      refine hSkip ?_
      refine qSeq rfl ?_
      refine hSeq ?_
      refine hReg (sq 0 sz) (by kernel_rfl) ?_
      refine asB rfl rfl rfl ?_
      refine rNil ?_
      refine qSeq rfl ?_
      refine hRet ?_
      exact fun w hs => ⟨[.bool true], ⟨rfl, trivial⟩, ⟨by first | rfl | exact bD (by omega) | exact bT (by omega) | exact bF (by omega) | exact vI (by omega), hs.upd⟩⟩

end Go.Proofs.Ytofkhnipfhcaiaa
