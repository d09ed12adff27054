/- Contracts of ratios. Their conditions stand in each. -/
import Derived.Test.YtjengglpbdgmnaaZ14Vr
import Derived.Test.YtjengglpbdgmnaaZ1Vr
import Derived.Test.YtjengglpbdgmnaaZ12Vr
import Derived.Test.YtjengglpbdgmnaaZ2Vr
import Derived.Test.YtjengglpbdgmnaaZ3Vr
import Derived.Test.YtjengglpbdgmnaaRows
import Derived.Test.YtjengglpbdgmnaaZ10Vr
import Derived.Test.YtjengglpbdgmnaaZ4Vr
import Derived.Test.YtjengglpbdgmnaaZ7Vr
import Derived.Test.YtjengglpbdgmnaaZ8Vr
import Derived.Test.YtjengglpbdgmnaaZ13Vr
namespace Go.Proofs.Ytjengglpbdgmnaa
open Go Go.RowKit V
set_option linter.unusedVariables false
set_option linter.unusedSimpArgs false
set_option maxRecDepth 100000
theorem fl65_0 : Fld Try.prog 65 0 0 := by
 intro w ad; simp [Instr.fieldAt, Try.runUnderlying65, Instr.sureAddr, fieldPlace, Try.sizeOf2]
theorem fl65_1 : Fld Try.prog 65 1 1 := by
 intro w ad; simp [Instr.fieldAt, Try.runUnderlying65, Instr.sureAddr, fieldPlace, Try.sizeOf2]
theorem bld65   : ∀ w, (Instr.build 65 ([] : List (Nat × Value)).toArray).run Try.prog w = .ok (.agg ([.int .i64 0, .int .i64 0] : List Value).toArray) w := by
 intro w; simp [Instr.build, Instr.fill, Try.zeroValue65, Try.runUnderlying65, aggCells, Try.sizeOf2]
theorem bld65_0_1 (v0 v1 : Value) (h0 : v0.cells = #[v0]) (h1 : v1.cells = #[v1]) : ∀ w, (Instr.build 65 ([(0, v0), (1, v1)] : List (Nat × Value)).toArray).run Try.prog w = .ok (.agg ([v0, v1] : List Value).toArray) w := by
 intro w; simp [Instr.build, Instr.fill, Try.zeroValue65, Try.runUnderlying65, aggCells, Try.sizeOf2, h0, h1]
theorem impl_absOf_c (n : Int) (w : World) (hn : -9223372036854775807 ≤ n ∧ n ≤ 9223372036854775807) :
  Calls Try.prog 165 #[.int .i64 n] w (Ret fun v w' => v = .int .i64 (n.natAbs : Int) ∧ Ext w w') := by
 refine fn (M := none_) (rs := [.tmp 2]) Try.func165 rfl Try.ntmps165 rfl rfl (Sep.start _ _) ?_
 refine hSeq ?_
 refine hReg (sq 0 sz) (by kernel_rfl) ?_
 refine asI rfl rfl rfl ?_
 refine rNil ?_
 refine qSeq rfl ?_
 refine hSeq ?_
 refine hSeq ?_
 refine hReg (sq 0 (sq 1 sz)) (by kernel_rfl) ?_
 refine mvI rfl rfl rfl ?_
 refine lss rfl rfl rfl rfl ?_
 refine rNil ?_
 refine qSeq rfl ?_
 refine hIfD rfl (fun c1 => ?_) (fun c1 => ?_)
 ·
  replace c1 : n < 0 := c1
  refine hSeq ?_
  refine hReg (sq 0 (sq 1 (sq 2 sz))) (by kernel_rfl) ?_
  refine mvI rfl rfl rfl ?_
  refine neg rfl rfl rfl (by omega) ?_
  refine asI rfl rfl rfl ?_
  refine rNil ?_
  refine qSeq rfl ?_
  refine hRet ?_
  exact fun w hs => ⟨[.int .i64 (-n)], ⟨rfl, trivial⟩, ⟨vI (by omega), hs.upd⟩⟩
 ·
  replace c1 : ¬ (n < 0) := c1
  refine hSkip ?_
  refine qSeq rfl ?_
  refine hSeq ?_
  refine hReg (sq 0 (sq 1 sz)) (by kernel_rfl) ?_
  refine mvI rfl rfl rfl ?_
  refine asI rfl rfl rfl ?_
  refine rNil ?_
  refine qSeq rfl ?_
  refine hRet ?_
  exact fun w hs => ⟨[.int .i64 n], ⟨rfl, trivial⟩, ⟨vI (by omega), hs.upd⟩⟩
theorem spec_l01Abs_c (n : Int) (w : World) (hn : -9223372036854775807 ≤ n ∧ n ≤ 9223372036854775807) :
  Calls Try.prog 167 #[.int .i64 n] w (Ret fun v w' => v = .int .i64 (n.natAbs : Int) ∧ Ext w w') := by
 refine fn (M := none_) (rs := [.tmp 2]) Try.func167 rfl Try.ntmps167 rfl rfl (Sep.start _ _) ?_
 refine hSeq ?_
 refine hReg (sq 0 sz) (by kernel_rfl) ?_
 refine asI rfl rfl rfl ?_
 refine rNil ?_
 refine qSeq rfl ?_
 refine hSeq ?_
 refine hReg (sq 0 (sq 1 (sq 2 (sq 3 (sq 4 sz))))) (by kernel_rfl) ?_
 refine mvI rfl rfl rfl ?_
 refine mvI rfl rfl rfl ?_
 refine neg rfl rfl rfl (by omega) ?_
 refine max2 rfl rfl rfl rfl ?_
 refine asI rfl rfl rfl ?_
 refine rNil ?_
 refine qSeq rfl ?_
 refine hRet ?_
 exact fun w hs => ⟨[.int .i64 ((max n (-n)))], ⟨rfl, trivial⟩, ⟨vI (by omega), hs.upd⟩⟩
theorem impl_divisorOf_c (a : Int) (b : Int) (w : World) (ha : 0 ≤ a) (hb : 0 ≤ b) :
  Calls Try.prog 164 #[.int .i64 a, .int .i64 b] w (Ret fun v w' => v = .int .i64 (Math.gcdI a b) ∧ Ext w w') := by
 refine fn (M := none_) (rs := [.tmp 4]) Try.func164 rfl Try.ntmps164 rfl rfl (Sep.start _ _) ?_
 refine hSeq ?_
 refine hReg (sq 0 sz) (by kernel_rfl) ?_
 refine asI rfl rfl rfl ?_
 refine rNil ?_
 refine qSeq rfl ?_
 refine hSeq ?_
 refine hBlk ?_
 refine hLoop (α := Int × Int) (fun x => 0 ≤ x.1 ∧ 0 ≤ x.2 ∧ Math.gcdI x.1 x.2 = Math.gcdI a b) (fun x => x.2.toNat) (fun x => []) (fun x => [(0, .int .i64 x.1), (1, .int .i64 x.2)]) (a, b) ⟨ha, hb, rfl⟩ (fun _ h => h.pick []) ⟨rfl, rfl, trivial⟩ ?_
 rintro ⟨p, q⟩ τ1 ⟨hp, hq, hg⟩
 dsimp only at hp hq hg
 refine hRe [(0, .int .i64 p), (1, .int .i64 q)] [] rfl rfl ?_
 refine hSeq ?_
 refine hSeq ?_
 refine hReg (sq 0 (sq 1 sz)) (by kernel_rfl) ?_
 refine mvI rfl rfl rfl ?_
 refine gtr rfl rfl rfl rfl ?_
 refine rNil ?_
 refine qSeq rfl ?_
 refine hIfD rfl (fun c1 => ?_) (fun c1 => ?_)
 ·
  replace c1 : 0 < q := c1
  refine hSkip ?_
  refine qSeq rfl ?_
  refine hBlk ?_
  refine hDraw (Ls := []) (by kernel_rfl) (sq 0 (sq 1 (sq 2 (sq 3 (sq 4 (sq 5 sz)))))) (by kernel_rfl) .slnil ?_
  refine mvI rfl rfl rfl ?_
  refine mvI rfl rfl rfl ?_
  refine mvI rfl rfl rfl ?_
  refine rem rfl rfl rfl rfl (by omega) ?_
  refine asI rfl rfl rfl ?_
  refine asI rfl rfl rfl ?_
  refine rNil ?_
  exact qNext rfl (q, p % q) (Math.mod_lt hp (by omega)) ⟨hq, Int.emod_nonneg _ (by omega), by rw [← hg]; exact Math.gcd_step hp (by omega)⟩ ⟨rfl, rfl, trivial⟩ (fun _ h => h.pick [])
 ·
  replace c1 : ¬ (0 < q) := c1
  refine hExit rfl ?_
  refine qSeq rfl ?_
  refine hSeq ?_
  refine hReg (sq 0 (sq 1 sz)) (by kernel_rfl) ?_
  refine mvI rfl rfl rfl ?_
  refine asI rfl rfl rfl ?_
  refine rNil ?_
  refine qSeq rfl ?_
  refine hRet ?_
  exact fun w hs => ⟨[.int .i64 p], ⟨rfl, trivial⟩, ⟨vI (by rw [← hg]; exact Math.gcd_end hp (by omega)), hs.upd⟩⟩
theorem spec_l01Gcd_c_r (kk_ : Nat) : ∀ (a : Int) (b : Int) (w : World), b.toNat = kk_ → (0 ≤ a) → (0 ≤ b) → Calls Try.prog 166 #[.int .i64 a, .int .i64 b] w (Ret fun v w' => v = .int .i64 (Math.gcdI a b) ∧ Ext w w') := by
 induction kk_ using Nat.strongRecOn with
 | _ kk_ ih =>
  intro a b w hK ha hb
  refine fn (M := none_) (rs := [.tmp 4]) Try.func166 rfl Try.ntmps166 rfl rfl (Sep.start _ _) ?_
  refine hSeq ?_
  refine hReg (sq 0 sz) (by kernel_rfl) ?_
  refine asI rfl rfl rfl ?_
  refine rNil ?_
  refine qSeq rfl ?_
  refine hSeq ?_
  refine hSeq ?_
  refine hReg (sq 0 (sq 1 sz)) (by kernel_rfl) ?_
  refine mvI rfl rfl rfl ?_
  refine eql rfl rfl rfl rfl ?_
  refine rNil ?_
  refine qSeq rfl ?_
  refine hIfD rfl (fun c1 => ?_) (fun c1 => ?_)
  ·
   replace c1 : b = 0 := c1
   refine hSeq ?_
   refine hReg (sq 0 (sq 1 sz)) (by kernel_rfl) ?_
   refine mvI rfl rfl rfl ?_
   refine asI rfl rfl rfl ?_
   refine rNil ?_
   refine qSeq rfl ?_
   refine hRet ?_
   exact fun w hs => ⟨[.int .i64 a], ⟨rfl, trivial⟩, ⟨vI (Math.gcd_end ha c1), hs.upd⟩⟩
  ·
   replace c1 : ¬ (b = 0) := c1
   have hg := Math.gcd_step ha (show 0 < b by omega)
   have hm0 := Int.emod_nonneg a (show b ≠ 0 by omega)
   refine hSkip ?_
   refine qSeq rfl ?_
   refine hSeq ?_
   refine hReg (sq 0 (sq 1 (sq 2 (sq 3 (sl 4 (sq 5 sz)))))) (by kernel_rfl) ?_
   refine mvI rfl rfl rfl ?_
   refine mvI rfl rfl rfl ?_
   refine mvI rfl rfl rfl ?_
   refine rem rfl rfl rfl rfl (by omega) ?_
   refine callP (v := .int .i64 ((Math.gcdI b (a % b)))) Try.call166 trv rfl rfl (fun w hs => ih _ (by have := Math.mod_lt ha (show 0 < b by omega); omega) _ _ w rfl (by omega) (by omega)) ?_
   refine asI rfl rfl rfl ?_
   refine rNil ?_
   refine qSeq rfl ?_
   refine hRet ?_
   exact fun w hs => ⟨[.int .i64 ((Math.gcdI b (a % b)))], ⟨rfl, trivial⟩, ⟨vI hg, hs.upd⟩⟩
theorem spec_l01Gcd_c (a : Int) (b : Int) (w : World) (ha : 0 ≤ a) (hb : 0 ≤ b) :
  Calls Try.prog 166 #[.int .i64 a, .int .i64 b] w (Ret fun v w' => v = .int .i64 (Math.gcdI a b) ∧ Ext w w') := spec_l01Gcd_c_r _ a b w rfl ha hb
theorem impl_IsRatio_c (n : Int) (d : Int) (w : World) :
  Calls Try.prog 129 #[.agg #[.int .i64 n, .int .i64 d]] w (Ret fun v w' => v = .bool (Math.isRatio n d) ∧ Ext w w') := by
 refine fn (M := none_) (rs := [.tmp 2]) Try.func129 rfl Try.ntmps129 rfl rfl (Sep.start _ _) ?_
 refine hSeq ?_
 refine hReg (sl 0 (sq 1 sz)) (by kernel_rfl) ?_
 refine box trv1 rfl rfl rfl rfl (fun bkb1 hbkb1 => ?_)
 refine asB rfl rfl rfl ?_
 refine rNil ?_
 refine qSeq rfl ?_
 refine hSeq ?_
 refine hDraw (Ls := [blk bkb1 65 [.int .i64 n, .int .i64 d]]) (by kernel_rfl) (sq 0 (sq 1 (sl 2 (sq 3 (sq 4 (sq 5 (sl 6 (sq 7 (sq 8 (sq 9 (sq 10 (sq 12 (sq 13 (sl 11 (sl 14 (sq 15 (sq 16 (sq 17 sz)))))))))))))))))) (by kernel_rfl) (.cons_cons _ .slnil) ?_
 refine fld fl65_0 rfl rfl rfl ?_
 refine ldq Try.isAgg2 (cB 0 rfl rfl) rfl rfl rfl ?_
 refine callP (v := .bool (decide ((-1000000000) ≤ n ∧ n ≤ (1000000000 : Int)))) Try.call96 (fun _ h => h.pick [0]) rfl rfl (fun w hs => impl_within_c _ _ _ w ) ?_
 refine mvB rfl rfl rfl ?_
 refine rBoolD (d := 6) rfl (fun g1 => ?_) (fun g1 => ?_)
 ·
  replace g1 : (-1000000000) ≤ n ∧ n ≤ (1000000000 : Int) := g1
  refine fld fl65_1 rfl rfl rfl ?_
  refine ldq Try.isAgg2 (cB 0 rfl rfl) rfl rfl rfl ?_
  refine callP (v := .bool (decide ((1 : Int) ≤ d ∧ d ≤ (1000000000 : Int)))) Try.call96 (fun _ h => h.pick [0]) rfl rfl (fun w hs => impl_within_c _ _ _ w ) ?_
  refine pickB rfl rfl rfl rfl ?_
  refine mvB rfl rfl rfl ?_
  refine rBoolD (d := 11) rfl (fun g2 => ?_) (fun g2 => ?_)
  ·
   replace g2 : (1 : Int) ≤ d ∧ d ≤ (1000000000 : Int) := g2
   refine fld fl65_0 rfl rfl rfl ?_
   refine ldq Try.isAgg2 (cB 0 rfl rfl) rfl rfl rfl ?_
   refine fld fl65_1 rfl rfl rfl ?_
   refine ldq Try.isAgg2 (cB 0 rfl rfl) rfl rfl rfl ?_
   refine callP (v := .int .i64 (n.natAbs : Int)) Try.call165 (fun _ h => h.pick [0]) rfl rfl (fun w hs => impl_absOf_c _ w (by omega)) ?_
   refine callP (v := .int .i64 ((Math.gcdI (n.natAbs : Int) d))) Try.call164 (fun _ h => h.pick [0]) rfl rfl (fun w hs => impl_divisorOf_c _ _ w (by omega) (by omega)) ?_
   refine eql rfl rfl rfl rfl ?_
   refine pickB rfl rfl rfl rfl ?_
   refine asB rfl rfl rfl ?_
   refine rNil ?_
   refine qSeq rfl ?_
   refine hRet ?_
   exact fun w hs => ⟨[.bool (decide ((Math.gcdI (n.natAbs : Int) d) = 1))], ⟨rfl, trivial⟩, ⟨bB (by simp [Math.isRatio, *]), hs.upd⟩⟩
  ·
   replace g2 : ¬ ((1 : Int) ≤ d ∧ d ≤ (1000000000 : Int)) := g2
   refine rSkipQ rfl rfl ?_
   refine rSkipQ rfl rfl ?_
   refine rSkipQ rfl rfl ?_
   refine rSkipQ rfl rfl ?_
   refine rSkipL (fun _ h => h.pick [0]) rfl rfl ?_
   refine rSkipL (fun _ h => h.pick [0]) rfl rfl ?_
   refine rSkipQ rfl rfl ?_
   refine pickB rfl rfl rfl rfl ?_
   refine asB rfl rfl rfl ?_
   refine rNil ?_
   refine qSeq rfl ?_
   refine hRet ?_
   exact fun w hs => ⟨[.bool false], ⟨rfl, trivial⟩, ⟨bB (by simp [Math.isRatio, *]), hs.upd⟩⟩
 ·
  replace g1 : ¬ ((-1000000000) ≤ n ∧ n ≤ (1000000000 : Int)) := g1
  refine rSkipQ rfl rfl ?_
  refine rSkipQ rfl rfl ?_
  refine rSkipL (fun _ h => h.pick [0]) rfl rfl ?_
  refine pickB rfl rfl rfl rfl ?_
  refine mvB rfl rfl rfl ?_
  refine rSkipQ rfl rfl ?_
  refine rSkipQ rfl rfl ?_
  refine rSkipQ rfl rfl ?_
  refine rSkipQ rfl rfl ?_
  refine rSkipL (fun _ h => h.pick [0]) rfl rfl ?_
  refine rSkipL (fun _ h => h.pick [0]) rfl rfl ?_
  refine rSkipQ rfl rfl ?_
  refine pickB rfl rfl rfl rfl ?_
  refine asB rfl rfl rfl ?_
  refine rNil ?_
  refine qSeq rfl ?_
  refine hRet ?_
  exact fun w hs => ⟨[.bool false], ⟨rfl, trivial⟩, ⟨bB (by simp [Math.isRatio, *]), hs.upd⟩⟩
theorem impl_reduced_c (num : Int) (den : Int) (w : World) (hn : -9223372036854775807 ≤ num ∧ num ≤ 9223372036854775807) (hd : 1 ≤ den) (hd2 : den ≤ 9223372036854775807) :
  Calls Try.prog 123 #[.int .i64 num, .int .i64 den] w (Ret fun v w' => v = .tuple #[.agg #[.int .i64 ((Math.reduced num den).1.1), .int .i64 ((Math.reduced num den).1.2)], .int .i64 ((Math.reduced num den).2)] ∧ Ext w w') := by
 refine fn (M := none_) (rs := [.cell 4 65, .tmp 5]) Try.func123 rfl Try.ntmps123 rfl rfl (Sep.start _ _) ?_
 refine hSeq ?_
 refine hReg (sl 0 (sq 1 sz)) (by kernel_rfl) ?_
 refine alc Try.zeroValue65 rfl trv1 rfl rfl (fun bka1 hbka1 => ?_)
 refine asI rfl rfl rfl ?_
 refine rNil ?_
 refine qSeq rfl ?_
 refine hSeq ?_
 refine hReg (sq 0 (sl 1 (sq 2 (sl 3 (sq 4 sz))))) (by kernel_rfl) ?_
 refine mvI rfl rfl rfl ?_
 refine callP (v := .int .i64 (num.natAbs : Int)) Try.call165 trv rfl rfl (fun w hs => impl_absOf_c _ w (by omega)) ?_
 refine mvI rfl rfl rfl ?_
 refine callP (v := .int .i64 ((Math.gcdI (num.natAbs : Int) den))) Try.call164 trv rfl rfl (fun w hs => impl_divisorOf_c _ _ w (by omega) (by omega)) ?_
 refine asI rfl rfl rfl ?_
 refine rNil ?_
 refine qSeq rfl ?_
 refine hSeq ?_
 refine hDraw (Ls := []) (by kernel_rfl) (sq 0 (sq 1 (sq 2 (sq 3 (sq 4 (sq 5 (sq 6 (sl 7 (sf 8 sz))))))))) (by kernel_rfl) (.cons _ .slnil) ?_
 refine mvI rfl rfl rfl ?_
 refine mvI rfl rfl rfl ?_
 refine quoT rfl rfl rfl rfl (by have := Math.gcdI_pos num.natAbs hd; omega) ?_
 refine mvI rfl rfl rfl ?_
 refine mvI rfl rfl rfl ?_
 refine quo rfl rfl rfl rfl (by have := Math.gcdI_pos num.natAbs hd; omega) ?_
 refine bld rfl rfl rfl (bld65_0_1 (.int .i64 _) (.int .i64 _) rfl rfl) ?_
 refine alc Try.zeroValue65 rfl (fun _ _ h => h.pick []) rfl rfl (fun bka2 hbka2 => ?_)
 refine stAf (vs := [.int .i64 ((Int.tdiv num ((Math.gcdI (num.natAbs : Int) den)))), .int .i64 ((den / ((Math.gcdI (num.natAbs : Int) den))))]) 0 rfl Try.sizeOf65 rfl rfl rfl rfl rfl (by simp [Value.oneCell']) rfl ?_
 refine rNil ?_
 refine qSeq rfl ?_
 refine hSeq ?_
 refine hSeq ?_
 refine hReg (sl 0 (sl 1 (sq 2 sz))) (by kernel_rfl) ?_
 refine ldAl Try.isAgg65 Try.sizeOf65 (cBs 0 rfl) trv rfl rfl rfl rfl ?_
 refine callP (v := .bool ((Math.isRatio ((Int.tdiv num ((Math.gcdI (num.natAbs : Int) den)))) ((den / ((Math.gcdI (num.natAbs : Int) den))))))) Try.call129 trv rfl rfl (fun w hs => impl_IsRatio_c _ _ w ) ?_
 refine not rfl rfl rfl ?_
 refine rNil ?_
 refine qSeq rfl ?_
 refine hIfN rfl (fun c1 => ?_) (fun c1 => ?_)
 ·
  replace c1 : (Math.isRatio ((Int.tdiv num ((Math.gcdI (num.natAbs : Int) den)))) ((den / ((Math.gcdI (num.natAbs : Int) den))))) = false := c1
  refine hSeq ?_
  refine hReg (sq 0 (sl 1 (sq 2 sz))) (by kernel_rfl) ?_
  refine bld rfl rfl rfl (bld65) ?_
  refine stAl (vs := [.int .i64 0, .int .i64 0]) 1 rfl Try.sizeOf65 trv rfl rfl rfl rfl rfl (by simp [Value.oneCell']) rfl ?_
  refine asI rfl rfl rfl ?_
  refine rNil ?_
  refine qSeq rfl ?_
  refine hRet ?_
  exact fun w hs => ⟨[_, .int .i64 3], ⟨⟨_, rfl, run_load_agg Try.isAgg65 Try.sizeOf65 rfl (cBs 1 rfl w hs)⟩, ⟨rfl, trivial⟩⟩, ⟨by simp [Math.reduced, one, *], hs.upd⟩⟩
 ·
  replace c1 : (Math.isRatio ((Int.tdiv num ((Math.gcdI (num.natAbs : Int) den)))) ((den / ((Math.gcdI (num.natAbs : Int) den))))) = true := c1
  refine hSkip ?_
  refine qSeq rfl ?_
  refine hSeq ?_
  refine hReg (sl 0 (sl 1 (sq 2 sz))) (by kernel_rfl) ?_
  refine ldAl Try.isAgg65 Try.sizeOf65 (cBs 0 rfl) trv rfl rfl rfl rfl ?_
  refine stAl (vs := [.int .i64 ((Int.tdiv num ((Math.gcdI (num.natAbs : Int) den)))), .int .i64 ((den / ((Math.gcdI (num.natAbs : Int) den))))]) 1 rfl Try.sizeOf65 trv rfl rfl rfl rfl rfl (by simp [Value.oneCell']) rfl ?_
  refine asI rfl rfl rfl ?_
  refine rNil ?_
  refine qSeq rfl ?_
  refine hRet ?_
  exact fun w hs => ⟨[_, .int .i64 0], ⟨⟨_, rfl, run_load_agg Try.isAgg65 Try.sizeOf65 rfl (cBs 1 rfl w hs)⟩, ⟨rfl, trivial⟩⟩, ⟨by simp [Math.reduced, one, *], hs.upd⟩⟩
theorem spec_IsRatio_c (n : Int) (d : Int) (w : World) :
  Calls Try.prog 168 #[.agg #[.int .i64 n, .int .i64 d]] w (Ret fun v w' => v = .bool (Math.isRatio n d) ∧ Ext w w') := by
 refine fn (M := none_) (rs := [.tmp 2]) Try.func168 rfl Try.ntmps168 rfl rfl (Sep.start _ _) ?_
 refine hSeq ?_
 refine hReg (sl 0 (sq 1 sz)) (by kernel_rfl) ?_
 refine box trv1 rfl rfl rfl rfl (fun bkb1 hbkb1 => ?_)
 refine asB rfl rfl rfl ?_
 refine rNil ?_
 refine qSeq rfl ?_
 refine hSeq ?_
 refine hDraw (Ls := [blk bkb1 65 [.int .i64 n, .int .i64 d]]) (by kernel_rfl) (sq 0 (sq 1 (sl 2 (sq 3 (sq 4 (sq 5 (sl 6 (sq 7 (sq 8 (sq 9 (sq 10 (sq 12 (sq 13 (sl 11 (sl 14 (sq 15 (sq 16 (sq 17 sz)))))))))))))))))) (by kernel_rfl) (.cons_cons _ .slnil) ?_
 refine fld fl65_0 rfl rfl rfl ?_
 refine ldq Try.isAgg2 (cB 0 rfl rfl) rfl rfl rfl ?_
 refine callP (v := .bool (decide ((-1000000000) ≤ n ∧ n ≤ (1000000000 : Int)))) Try.call97 (fun _ h => h.pick [0]) rfl rfl (fun w hs => spec_l01In_c _ _ _ w ) ?_
 refine mvB rfl rfl rfl ?_
 refine rBoolD (d := 6) rfl (fun g1 => ?_) (fun g1 => ?_)
 ·
  replace g1 : (-1000000000) ≤ n ∧ n ≤ (1000000000 : Int) := g1
  refine fld fl65_1 rfl rfl rfl ?_
  refine ldq Try.isAgg2 (cB 0 rfl rfl) rfl rfl rfl ?_
  refine callP (v := .bool (decide ((1 : Int) ≤ d ∧ d ≤ (1000000000 : Int)))) Try.call97 (fun _ h => h.pick [0]) rfl rfl (fun w hs => spec_l01In_c _ _ _ w ) ?_
  refine pickB rfl rfl rfl rfl ?_
  refine mvB rfl rfl rfl ?_
  refine rBoolD (d := 11) rfl (fun g2 => ?_) (fun g2 => ?_)
  ·
   replace g2 : (1 : Int) ≤ d ∧ d ≤ (1000000000 : Int) := g2
   refine fld fl65_0 rfl rfl rfl ?_
   refine ldq Try.isAgg2 (cB 0 rfl rfl) rfl rfl rfl ?_
   refine fld fl65_1 rfl rfl rfl ?_
   refine ldq Try.isAgg2 (cB 0 rfl rfl) rfl rfl rfl ?_
   refine callP (v := .int .i64 (n.natAbs : Int)) Try.call167 (fun _ h => h.pick [0]) rfl rfl (fun w hs => spec_l01Abs_c _ w (by omega)) ?_
   refine callP (v := .int .i64 ((Math.gcdI (n.natAbs : Int) d))) Try.call166 (fun _ h => h.pick [0]) rfl rfl (fun w hs => spec_l01Gcd_c _ _ w (by omega) (by omega)) ?_
   refine eql rfl rfl rfl rfl ?_
   refine pickB rfl rfl rfl rfl ?_
   refine asB rfl rfl rfl ?_
   refine rNil ?_
   refine qSeq rfl ?_
   refine hRet ?_
   exact fun w hs => ⟨[.bool (decide ((Math.gcdI (n.natAbs : Int) d) = 1))], ⟨rfl, trivial⟩, ⟨bB (by simp [Math.isRatio, *]), hs.upd⟩⟩
  ·
   replace g2 : ¬ ((1 : Int) ≤ d ∧ d ≤ (1000000000 : Int)) := g2
   refine rSkipQ rfl rfl ?_
   refine rSkipQ rfl rfl ?_
   refine rSkipQ rfl rfl ?_
   refine rSkipQ rfl rfl ?_
   refine rSkipL (fun _ h => h.pick [0]) rfl rfl ?_
   refine rSkipL (fun _ h => h.pick [0]) rfl rfl ?_
   refine rSkipQ rfl rfl ?_
   refine pickB rfl rfl rfl rfl ?_
   refine asB rfl rfl rfl ?_
   refine rNil ?_
   refine qSeq rfl ?_
   refine hRet ?_
   exact fun w hs => ⟨[.bool false], ⟨rfl, trivial⟩, ⟨bB (by simp [Math.isRatio, *]), hs.upd⟩⟩
 ·
  replace g1 : ¬ ((-1000000000) ≤ n ∧ n ≤ (1000000000 : Int)) := g1
  refine rSkipQ rfl rfl ?_
  refine rSkipQ rfl rfl ?_
  refine rSkipL (fun _ h => h.pick [0]) rfl rfl ?_
  refine pickB rfl rfl rfl rfl ?_
  refine mvB rfl rfl rfl ?_
  refine rSkipQ rfl rfl ?_
  refine rSkipQ rfl rfl ?_
  refine rSkipQ rfl rfl ?_
  refine rSkipQ rfl rfl ?_
  refine rSkipL (fun _ h => h.pick [0]) rfl rfl ?_
  refine rSkipL (fun _ h => h.pick [0]) rfl rfl ?_
  refine rSkipQ rfl rfl ?_
  refine pickB rfl rfl rfl rfl ?_
  refine asB rfl rfl rfl ?_
  refine rNil ?_
  refine qSeq rfl ?_
  refine hRet ?_
  exact fun w hs => ⟨[.bool false], ⟨rfl, trivial⟩, ⟨bB (by simp [Math.isRatio, *]), hs.upd⟩⟩
theorem spec_l01Ratio_c (num : Int) (den : Int) (w : World) (hn : -9223372036854775807 ≤ num ∧ num ≤ 9223372036854775807) (hd : 1 ≤ den) (hd2 : den ≤ 9223372036854775807) :
  Calls Try.prog 124 #[.int .i64 num, .int .i64 den] w (Ret fun v w' => v = .tuple #[.agg #[.int .i64 ((Math.reduced num den).1.1), .int .i64 ((Math.reduced num den).1.2)], .int .i64 ((Math.reduced num den).2)] ∧ Ext w w') := by
 refine fn (M := none_) (rs := [.cell 4 65, .tmp 5]) Try.func124 rfl Try.ntmps124 rfl rfl (Sep.start _ _) ?_
 refine hSeq ?_
 refine hReg (sl 0 (sq 1 sz)) (by kernel_rfl) ?_
 refine alc Try.zeroValue65 rfl trv1 rfl rfl (fun bka1 hbka1 => ?_)
 refine asI rfl rfl rfl ?_
 refine rNil ?_
 refine qSeq rfl ?_
 refine hSeq ?_
 refine hReg (sq 0 (sl 1 (sq 2 (sl 3 (sq 4 sz))))) (by kernel_rfl) ?_
 refine mvI rfl rfl rfl ?_
 refine callP (v := .int .i64 (num.natAbs : Int)) Try.call167 trv rfl rfl (fun w hs => spec_l01Abs_c _ w (by omega)) ?_
 refine mvI rfl rfl rfl ?_
 refine callP (v := .int .i64 ((Math.gcdI (num.natAbs : Int) den))) Try.call166 trv rfl rfl (fun w hs => spec_l01Gcd_c _ _ w (by omega) (by omega)) ?_
 refine asI rfl rfl rfl ?_
 refine rNil ?_
 refine qSeq rfl ?_
 refine hSeq ?_
 refine hDraw (Ls := []) (by kernel_rfl) (sq 0 (sq 1 (sq 2 (sq 3 (sq 4 (sq 5 (sq 6 (sl 7 (sf 8 sz))))))))) (by kernel_rfl) (.cons _ .slnil) ?_
 refine mvI rfl rfl rfl ?_
 refine mvI rfl rfl rfl ?_
 refine quoT rfl rfl rfl rfl (by have := Math.gcdI_pos num.natAbs hd; omega) ?_
 refine mvI rfl rfl rfl ?_
 refine mvI rfl rfl rfl ?_
 refine quo rfl rfl rfl rfl (by have := Math.gcdI_pos num.natAbs hd; omega) ?_
 refine bld rfl rfl rfl (bld65_0_1 (.int .i64 _) (.int .i64 _) rfl rfl) ?_
 refine alc Try.zeroValue65 rfl (fun _ _ h => h.pick []) rfl rfl (fun bka2 hbka2 => ?_)
 refine stAf (vs := [.int .i64 ((Int.tdiv num ((Math.gcdI (num.natAbs : Int) den)))), .int .i64 ((den / ((Math.gcdI (num.natAbs : Int) den))))]) 0 rfl Try.sizeOf65 rfl rfl rfl rfl rfl (by simp [Value.oneCell']) rfl ?_
 refine rNil ?_
 refine qSeq rfl ?_
 refine hSeq ?_
 refine hSeq ?_
 refine hReg (sl 0 (sl 1 (sq 2 sz))) (by kernel_rfl) ?_
 refine ldAl Try.isAgg65 Try.sizeOf65 (cBs 0 rfl) trv rfl rfl rfl rfl ?_
 refine callP (v := .bool ((Math.isRatio ((Int.tdiv num ((Math.gcdI (num.natAbs : Int) den)))) ((den / ((Math.gcdI (num.natAbs : Int) den))))))) Try.call168 trv rfl rfl (fun w hs => spec_IsRatio_c _ _ w ) ?_
 refine not rfl rfl rfl ?_
 refine rNil ?_
 refine qSeq rfl ?_
 refine hIfN rfl (fun c1 => ?_) (fun c1 => ?_)
 ·
  replace c1 : (Math.isRatio ((Int.tdiv num ((Math.gcdI (num.natAbs : Int) den)))) ((den / ((Math.gcdI (num.natAbs : Int) den))))) = false := c1
  refine hSeq ?_
  refine hReg (sq 0 (sl 1 (sq 2 sz))) (by kernel_rfl) ?_
  refine bld rfl rfl rfl (bld65) ?_
  refine stAl (vs := [.int .i64 0, .int .i64 0]) 1 rfl Try.sizeOf65 trv rfl rfl rfl rfl rfl (by simp [Value.oneCell']) rfl ?_
  refine asI rfl rfl rfl ?_
  refine rNil ?_
  refine qSeq rfl ?_
  refine hRet ?_
  exact fun w hs => ⟨[_, .int .i64 3], ⟨⟨_, rfl, run_load_agg Try.isAgg65 Try.sizeOf65 rfl (cBs 1 rfl w hs)⟩, ⟨rfl, trivial⟩⟩, ⟨by simp [Math.reduced, one, *], hs.upd⟩⟩
 ·
  replace c1 : (Math.isRatio ((Int.tdiv num ((Math.gcdI (num.natAbs : Int) den)))) ((den / ((Math.gcdI (num.natAbs : Int) den))))) = true := c1
  refine hSkip ?_
  refine qSeq rfl ?_
  refine hSeq ?_
  refine hReg (sl 0 (sl 1 (sq 2 sz))) (by kernel_rfl) ?_
  refine ldAl Try.isAgg65 Try.sizeOf65 (cBs 0 rfl) trv rfl rfl rfl rfl ?_
  refine stAl (vs := [.int .i64 ((Int.tdiv num ((Math.gcdI (num.natAbs : Int) den)))), .int .i64 ((den / ((Math.gcdI (num.natAbs : Int) den))))]) 1 rfl Try.sizeOf65 trv rfl rfl rfl rfl rfl (by simp [Value.oneCell']) rfl ?_
  refine asI rfl rfl rfl ?_
  refine rNil ?_
  refine qSeq rfl ?_
  refine hRet ?_
  exact fun w hs => ⟨[_, .int .i64 0], ⟨⟨_, rfl, run_load_agg Try.isAgg65 Try.sizeOf65 rfl (cBs 1 rfl w hs)⟩, ⟨rfl, trivial⟩⟩, ⟨by simp [Math.reduced, one, *], hs.upd⟩⟩
end Go.Proofs.Ytjengglpbdgmnaa
/- Contracts of numbers of ends and ratios of values. Their conditions stand in each. -/
namespace Go.Proofs.Ytjengglpbdgmnaa
open Go Go.RowKit V
set_option linter.unusedVariables false
set_option linter.unusedSimpArgs false
set_option maxRecDepth 100000
theorem impl_ValueRatio_c (az : Option Addr) (nz : Nat) (cz : Nat) (Hz : Nat → Hd) (z : List Nd) (aws : Option Addr) (nws : Nat) (cws : Nat) (Hws : Nat → Hd) (ws : List (List Int)) (avs : Option Addr) (nvs : Nat) (cvs : Nat) (Hvs : Nat → Hd) (vs : List (List Int)) (pl : Int) (aps : Option Addr) (nps : Nat) (cps : Nat) (Hps : Nat → Hd) (ps : List (List Int)) (ql : Int) (aqs : Option Addr) (nqs : Nat) (cqs : Nat) (Hqs : Nat → Hd) (qs : List (List Int)) (w : World) (rz : RdR ndK az nz Hz z w) (rws : RdR maK aws nws Hws ws w) (rvs : RdR maK avs nvs Hvs vs w) (rps : RdR maK aps nps Hps ps w) (rqs : RdR maK aqs nqs Hqs qs w) :
  Calls Try.prog 86 #[.agg #[.slice az nz cz, .slice aws nws cws, .slice avs nvs cvs], .agg #[.int .i64 pl, .slice aps nps cps], .agg #[.int .i64 ql, .slice aqs nqs cqs]] w (Ret fun v w' => v = .tuple #[.agg #[.int .i64 ((Math.ratioAt z ws vs pl ps ql qs).1.1), .int .i64 ((Math.ratioAt z ws vs pl ps ql qs).1.2)], .int .i64 ((Math.ratioAt z ws vs pl ps ql qs).2)] ∧ Ext w w') := by
 have kz : Kn w none_ [] (RdR ndK az nz Hz z) := fun w' hs => rz.ext hs.upd
 have lz : z.length = nz := rz.1
 have mz : nz ≤ 9223372036854775807 := rz.2.1
 have kws : Kn w none_ [] (RdR maK aws nws Hws ws) := fun w' hs => rws.ext hs.upd
 have lws : ws.length = nws := rws.1
 have mws : nws ≤ 9223372036854775807 := rws.2.1
 have kvs : Kn w none_ [] (RdR maK avs nvs Hvs vs) := fun w' hs => rvs.ext hs.upd
 have lvs : vs.length = nvs := rvs.1
 have mvs : nvs ≤ 9223372036854775807 := rvs.2.1
 have kps : Kn w none_ [] (RdR maK aps nps Hps ps) := fun w' hs => rps.ext hs.upd
 have lps : ps.length = nps := rps.1
 have mps : nps ≤ 9223372036854775807 := rps.2.1
 have kqs : Kn w none_ [] (RdR maK aqs nqs Hqs qs) := fun w' hs => rqs.ext hs.upd
 have lqs : qs.length = nqs := rqs.1
 have mqs : nqs ≤ 9223372036854775807 := rqs.2.1
 refine fn (M := none_) (rs := [.cell 6 65, .tmp 7]) Try.func86 rfl Try.ntmps86 rfl rfl (Sep.start _ _) ?_
 refine hSeq ?_
 refine hReg (sl 0 (sl 1 (sl 2 (sl 3 (sq 4 sz))))) (by kernel_rfl) ?_
 refine box trv1 rfl rfl rfl rfl (fun bkb1 hbkb1 => ?_)
 refine box trv1 rfl rfl rfl rfl (fun bkb2 hbkb2 => ?_)
 refine box trv1 rfl rfl rfl rfl (fun bkb3 hbkb3 => ?_)
 refine alc Try.zeroValue65 rfl trv1 rfl rfl (fun bka4 hbka4 => ?_)
 refine asI rfl rfl rfl ?_
 refine rNil ?_
 refine qSeq rfl ?_
 refine hSeq ?_
 refine hSeq ?_
 refine hReg (sl 0 (sl 1 (sl 2 (sl 3 (sq 4 sz))))) (by kernel_rfl) ?_
 refine ldAl Try.isAgg43 Try.sizeOf43 (cBs 3 rfl) trv rfl rfl rfl rfl ?_
 refine ldAl Try.isAgg56 Try.sizeOf56 (cBs 2 rfl) trv rfl rfl rfl rfl ?_
 refine ldAl Try.isAgg56 Try.sizeOf56 (cBs 1 rfl) trv rfl rfl rfl rfl ?_
 refine callP (v := .bool (Math.isPair z ws vs pl ps ql qs)) Try.call142 trv rfl rfl (fun w hs => impl_arePair_c _ nz cz _ _ _ nws cws _ _ _ nvs cvs _ _ _ _ nps cps _ _ _ _ nqs cqs _ _ w (Kn.drop (k := 4) kz w hs) (Kn.drop (k := 4) kws w hs) (Kn.drop (k := 4) kvs w hs) (Kn.drop (k := 4) kps w hs) (Kn.drop (k := 4) kqs w hs)) ?_
 refine not rfl rfl rfl ?_
 refine rNil ?_
 refine qSeq rfl ?_
 refine hIfN rfl (fun c1 => ?_) (fun c1 => ?_)
 ·
  replace c1 : (Math.isPair z ws vs pl ps ql qs) = false := c1
  refine hSeq ?_
  refine hReg (sq 0 (sl 1 (sq 2 sz))) (by kernel_rfl) ?_
  refine bld rfl rfl rfl (bld65) ?_
  refine stAl (vs := [.int .i64 0, .int .i64 0]) 0 rfl Try.sizeOf65 trv rfl rfl rfl rfl rfl (by simp [Value.oneCell']) rfl ?_
  refine asI rfl rfl rfl ?_
  refine rNil ?_
  refine qSeq rfl ?_
  refine hRet ?_
  exact fun w hs => ⟨[_, .int .i64 1], ⟨⟨_, rfl, run_load_agg Try.isAgg65 Try.sizeOf65 rfl (cBs 0 rfl w hs)⟩, ⟨rfl, trivial⟩⟩, ⟨by rw [Math.ratioAt_1 (by assumption)]; rfl, hs.upd⟩⟩
 ·
  replace c1 : (Math.isPair z ws vs pl ps ql qs) = true := c1
  have hpo := Math.isPair_ok c1
  have hP := hpo.2.2
  have hg := hP.g
  have hG := Math.isGame_ok hg
  rw [lws] at hG
  have hT := Math.isTree_ok hG.1
  have hvl := Math.mat_len hG.2.2.2.1
  have hpq := Math.pair_len hP lws
  have hnb := Math.numTo_bd hP lws nws (Nat.le_refl _)
  have hub := Math.unit_bd hg
  refine hSkip ?_
  refine qSeq rfl ?_
  refine hSeq ?_
  refine hDraw (Ls := [blk bkb3 56 [.int .i64 ql, .slice aqs nqs cqs], blk bkb2 56 [.int .i64 pl, .slice aps nps cps], blk bkb1 43 [.slice az nz cz, .slice aws nws cws, .slice avs nvs cvs]]) (by kernel_rfl) (sq 0 (sq 1 (sq 2 (sq 4 (sl 3 (sl 5 (sl 6 (sq 7 (sq 8 (sl 9 (sq 10 sz))))))))))) (by kernel_rfl) (.cons _ (.cons_cons _ (.cons_cons _ (.cons_cons _ .slnil)))) ?_
  refine ldAq Try.isAgg43 Try.sizeOf43 (cBs 2 rfl) rfl rfl rfl rfl ?_
  refine ldAq Try.isAgg56 Try.sizeOf56 (cBs 1 rfl) rfl rfl rfl rfl ?_
  refine ldAq Try.isAgg56 Try.sizeOf56 (cBs 0 rfl) rfl rfl rfl rfl ?_
  refine ldAq Try.isAgg43 Try.sizeOf43 (cBs 2 rfl) rfl rfl rfl rfl ?_
  refine callP (v := .int .i64 (Math.numTo z ws vs nws ps qs nws)) Try.call148 (fun _ h => h.pick [1, 1, 1]) rfl rfl (fun w hs => impl_gameNumber_c _ nz cz _ _ _ nws cws _ _ _ nvs cvs _ _ _ _ nps cps _ _ _ _ nqs cqs _ _ w (Kn.drop (k := 4) kz w hs) (Kn.drop (k := 4) kws w hs) (Kn.drop (k := 4) kvs w hs) (Kn.drop (k := 4) kps w hs) (Kn.drop (k := 4) kqs w hs) (by assumption)) ?_
  refine callP (v := .int .i64 (Math.unit z ws)) Try.call147 (fun _ h => h.pick [1, 1, 1]) rfl rfl (fun w hs => impl_unitOf_c _ nz cz _ _ _ nws cws _ _ _ nvs cvs _ _ w (Kn.drop (k := 4) kz w hs) (Kn.drop (k := 4) kws w hs) (Kn.drop (k := 4) kvs w hs) (by assumption)) ?_
  refine callP (v := .tuple #[.agg #[.int .i64 ((Math.reduced (Math.numTo z ws vs nws ps qs nws) (Math.unit z ws)).1.1), .int .i64 ((Math.reduced (Math.numTo z ws vs nws ps qs nws) (Math.unit z ws)).1.2)], .int .i64 ((Math.reduced (Math.numTo z ws vs nws ps qs nws) (Math.unit z ws)).2)]) Try.call123 (fun _ h => h.pick [1, 1, 1]) rfl rfl (fun w hs => impl_reduced_c _ _ w (by omega) (by omega) (by omega)) ?_
  refine ext rfl rfl rfl rfl ?_
  refine ext rfl rfl rfl rfl ?_
  refine stAl (vs := [.int .i64 ((Math.reduced (Math.numTo z ws vs nws ps qs nws) (Math.unit z ws)).1.1), .int .i64 ((Math.reduced (Math.numTo z ws vs nws ps qs nws) (Math.unit z ws)).1.2)]) 0 rfl Try.sizeOf65 (fun _ h => h.pick [1, 1, 1]) rfl rfl rfl rfl rfl (by simp [Value.oneCell']) rfl ?_
  refine asI rfl rfl rfl ?_
  refine rNil ?_
  refine qSeq rfl ?_
  refine hRet ?_
  exact fun w hs => ⟨[_, .int .i64 ((Math.reduced (Math.numTo z ws vs nws ps qs nws) (Math.unit z ws)).2)], ⟨⟨_, rfl, run_load_agg Try.isAgg65 Try.sizeOf65 rfl (cBs 0 rfl w hs)⟩, ⟨rfl, trivial⟩⟩, ⟨by rw [Math.ratioAt_0 lws (by assumption)]; rfl, hs.upd⟩⟩
theorem spec_ValueRatio_c (az : Option Addr) (nz : Nat) (cz : Nat) (Hz : Nat → Hd) (z : List Nd) (aws : Option Addr) (nws : Nat) (cws : Nat) (Hws : Nat → Hd) (ws : List (List Int)) (avs : Option Addr) (nvs : Nat) (cvs : Nat) (Hvs : Nat → Hd) (vs : List (List Int)) (pl : Int) (aps : Option Addr) (nps : Nat) (cps : Nat) (Hps : Nat → Hd) (ps : List (List Int)) (ql : Int) (aqs : Option Addr) (nqs : Nat) (cqs : Nat) (Hqs : Nat → Hd) (qs : List (List Int)) (w : World) (rz : RdR ndK az nz Hz z w) (rws : RdR maK aws nws Hws ws w) (rvs : RdR maK avs nvs Hvs vs w) (rps : RdR maK aps nps Hps ps w) (rqs : RdR maK aqs nqs Hqs qs w) :
  Calls Try.prog 87 #[.agg #[.slice az nz cz, .slice aws nws cws, .slice avs nvs cvs], .agg #[.int .i64 pl, .slice aps nps cps], .agg #[.int .i64 ql, .slice aqs nqs cqs]] w (Ret fun v w' => v = .tuple #[.agg #[.int .i64 ((Math.ratioAt z ws vs pl ps ql qs).1.1), .int .i64 ((Math.ratioAt z ws vs pl ps ql qs).1.2)], .int .i64 ((Math.ratioAt z ws vs pl ps ql qs).2)] ∧ Ext w w') := by
 have kz : Kn w none_ [] (RdR ndK az nz Hz z) := fun w' hs => rz.ext hs.upd
 have lz : z.length = nz := rz.1
 have mz : nz ≤ 9223372036854775807 := rz.2.1
 have kws : Kn w none_ [] (RdR maK aws nws Hws ws) := fun w' hs => rws.ext hs.upd
 have lws : ws.length = nws := rws.1
 have mws : nws ≤ 9223372036854775807 := rws.2.1
 have kvs : Kn w none_ [] (RdR maK avs nvs Hvs vs) := fun w' hs => rvs.ext hs.upd
 have lvs : vs.length = nvs := rvs.1
 have mvs : nvs ≤ 9223372036854775807 := rvs.2.1
 have kps : Kn w none_ [] (RdR maK aps nps Hps ps) := fun w' hs => rps.ext hs.upd
 have lps : ps.length = nps := rps.1
 have mps : nps ≤ 9223372036854775807 := rps.2.1
 have kqs : Kn w none_ [] (RdR maK aqs nqs Hqs qs) := fun w' hs => rqs.ext hs.upd
 have lqs : qs.length = nqs := rqs.1
 have mqs : nqs ≤ 9223372036854775807 := rqs.2.1
 refine fn (M := none_) (rs := [.cell 6 65, .tmp 7]) Try.func87 rfl Try.ntmps87 rfl rfl (Sep.start _ _) ?_
 refine hSeq ?_
 refine hReg (sl 0 (sl 1 (sl 2 (sl 3 (sq 4 sz))))) (by kernel_rfl) ?_
 refine box trv1 rfl rfl rfl rfl (fun bkb1 hbkb1 => ?_)
 refine box trv1 rfl rfl rfl rfl (fun bkb2 hbkb2 => ?_)
 refine box trv1 rfl rfl rfl rfl (fun bkb3 hbkb3 => ?_)
 refine alc Try.zeroValue65 rfl trv1 rfl rfl (fun bka4 hbka4 => ?_)
 refine asI rfl rfl rfl ?_
 refine rNil ?_
 refine qSeq rfl ?_
 refine hSeq ?_
 refine hSeq ?_
 refine hReg (sl 0 (sl 1 (sl 2 (sl 3 (sq 4 sz))))) (by kernel_rfl) ?_
 refine ldAl Try.isAgg43 Try.sizeOf43 (cBs 3 rfl) trv rfl rfl rfl rfl ?_
 refine ldAl Try.isAgg56 Try.sizeOf56 (cBs 2 rfl) trv rfl rfl rfl rfl ?_
 refine ldAl Try.isAgg56 Try.sizeOf56 (cBs 1 rfl) trv rfl rfl rfl rfl ?_
 refine callP (v := .bool (Math.isPair z ws vs pl ps ql qs)) Try.call145 trv rfl rfl (fun w hs => spec_l23Pair_c _ nz cz _ _ _ nws cws _ _ _ nvs cvs _ _ _ _ nps cps _ _ _ _ nqs cqs _ _ w (Kn.drop (k := 4) kz w hs) (Kn.drop (k := 4) kws w hs) (Kn.drop (k := 4) kvs w hs) (Kn.drop (k := 4) kps w hs) (Kn.drop (k := 4) kqs w hs)) ?_
 refine not rfl rfl rfl ?_
 refine rNil ?_
 refine qSeq rfl ?_
 refine hIfN rfl (fun c1 => ?_) (fun c1 => ?_)
 ·
  replace c1 : (Math.isPair z ws vs pl ps ql qs) = false := c1
  refine hSeq ?_
  refine hReg (sq 0 (sl 1 (sq 2 sz))) (by kernel_rfl) ?_
  refine bld rfl rfl rfl (bld65) ?_
  refine stAl (vs := [.int .i64 0, .int .i64 0]) 0 rfl Try.sizeOf65 trv rfl rfl rfl rfl rfl (by simp [Value.oneCell']) rfl ?_
  refine asI rfl rfl rfl ?_
  refine rNil ?_
  refine qSeq rfl ?_
  refine hRet ?_
  exact fun w hs => ⟨[_, .int .i64 1], ⟨⟨_, rfl, run_load_agg Try.isAgg65 Try.sizeOf65 rfl (cBs 0 rfl w hs)⟩, ⟨rfl, trivial⟩⟩, ⟨by rw [Math.ratioAt_1 (by assumption)]; rfl, hs.upd⟩⟩
 ·
  replace c1 : (Math.isPair z ws vs pl ps ql qs) = true := c1
  have hpo := Math.isPair_ok c1
  have hP := hpo.2.2
  have hg := hP.g
  have hG := Math.isGame_ok hg
  rw [lws] at hG
  have hT := Math.isTree_ok hG.1
  have hvl := Math.mat_len hG.2.2.2.1
  have hpq := Math.pair_len hP lws
  have hnb := Math.numTo_bd hP lws nws (Nat.le_refl _)
  have hub := Math.unit_bd hg
  refine hSkip ?_
  refine qSeq rfl ?_
  refine hSeq ?_
  refine hDraw (Ls := [blk bkb3 56 [.int .i64 ql, .slice aqs nqs cqs], blk bkb2 56 [.int .i64 pl, .slice aps nps cps], blk bkb1 43 [.slice az nz cz, .slice aws nws cws, .slice avs nvs cvs]]) (by kernel_rfl) (sq 0 (sq 1 (sq 2 (sq 4 (sl 3 (sl 5 (sl 6 (sq 7 (sq 8 (sl 9 (sq 10 sz))))))))))) (by kernel_rfl) (.cons _ (.cons_cons _ (.cons_cons _ (.cons_cons _ .slnil)))) ?_
  refine ldAq Try.isAgg43 Try.sizeOf43 (cBs 2 rfl) rfl rfl rfl rfl ?_
  refine ldAq Try.isAgg56 Try.sizeOf56 (cBs 1 rfl) rfl rfl rfl rfl ?_
  refine ldAq Try.isAgg56 Try.sizeOf56 (cBs 0 rfl) rfl rfl rfl rfl ?_
  refine ldAq Try.isAgg43 Try.sizeOf43 (cBs 2 rfl) rfl rfl rfl rfl ?_
  refine callP (v := .int .i64 (Math.numTo z ws vs nws ps qs nws)) Try.call149 (fun _ h => h.pick [1, 1, 1]) rfl rfl (fun w hs => spec_l23Number_c _ nz cz _ _ _ nws cws _ _ _ nvs cvs _ _ _ _ nps cps _ _ _ _ nqs cqs _ _ w (Kn.drop (k := 4) kz w hs) (Kn.drop (k := 4) kws w hs) (Kn.drop (k := 4) kvs w hs) (Kn.drop (k := 4) kps w hs) (Kn.drop (k := 4) kqs w hs) (by assumption)) ?_
  refine callP (v := .int .i64 (Math.unit z ws)) Try.call150 (fun _ h => h.pick [1, 1, 1]) rfl rfl (fun w hs => spec_l23Unit_c _ nz cz _ _ _ nws cws _ _ _ nvs cvs _ _ w (Kn.drop (k := 4) kz w hs) (Kn.drop (k := 4) kws w hs) (Kn.drop (k := 4) kvs w hs) (by assumption)) ?_
  refine callP (v := .tuple #[.agg #[.int .i64 ((Math.reduced (Math.numTo z ws vs nws ps qs nws) (Math.unit z ws)).1.1), .int .i64 ((Math.reduced (Math.numTo z ws vs nws ps qs nws) (Math.unit z ws)).1.2)], .int .i64 ((Math.reduced (Math.numTo z ws vs nws ps qs nws) (Math.unit z ws)).2)]) Try.call124 (fun _ h => h.pick [1, 1, 1]) rfl rfl (fun w hs => spec_l01Ratio_c _ _ w (by omega) (by omega) (by omega)) ?_
  refine ext rfl rfl rfl rfl ?_
  refine ext rfl rfl rfl rfl ?_
  refine stAl (vs := [.int .i64 ((Math.reduced (Math.numTo z ws vs nws ps qs nws) (Math.unit z ws)).1.1), .int .i64 ((Math.reduced (Math.numTo z ws vs nws ps qs nws) (Math.unit z ws)).1.2)]) 0 rfl Try.sizeOf65 (fun _ h => h.pick [1, 1, 1]) rfl rfl rfl rfl rfl (by simp [Value.oneCell']) rfl ?_
  refine asI rfl rfl rfl ?_
  refine rNil ?_
  refine qSeq rfl ?_
  refine hRet ?_
  exact fun w hs => ⟨[_, .int .i64 ((Math.reduced (Math.numTo z ws vs nws ps qs nws) (Math.unit z ws)).2)], ⟨⟨_, rfl, run_load_agg Try.isAgg65 Try.sizeOf65 rfl (cBs 0 rfl w hs)⟩, ⟨rfl, trivial⟩⟩, ⟨by rw [Math.ratioAt_0 lws (by assumption)]; rfl, hs.upd⟩⟩
end Go.Proofs.Ytjengglpbdgmnaa
/- Contracts of ratios that are compared. Their conditions stand in each. -/
namespace Go.Proofs.Ytjengglpbdgmnaa
open Go Go.RowKit V
set_option linter.unusedVariables false
set_option linter.unusedSimpArgs false
set_option maxRecDepth 100000
theorem impl_compareRatios_c (n : Int) (d : Int) (m : Int) (e : Int) (w : World) (hn : -1000000000 ≤ n ∧ n ≤ 1000000000) (hd : 1 ≤ d ∧ d ≤ 1000000000) (hm : -1000000000 ≤ m ∧ m ≤ 1000000000) (he : 1 ≤ e ∧ e ≤ 1000000000) :
  Calls Try.prog 153 #[.agg #[.int .i64 n, .int .i64 d], .agg #[.int .i64 m, .int .i64 e]] w (Ret fun v w' => v = .int .i64 ((Math.order (n * e) (m * d))) ∧ Ext w w') := by
 have p1 := Math.prod_bd hn (y := e) ⟨by omega, he.2⟩
 have p2 := Math.prod_bd hm (y := d) ⟨by omega, hd.2⟩
 refine fn (M := none_) (rs := [.tmp 4]) Try.func153 rfl Try.ntmps153 rfl rfl (Sep.start _ _) ?_
 refine hSeq ?_
 refine hReg (sl 0 (sl 1 (sq 2 sz))) (by kernel_rfl) ?_
 refine box trv1 rfl rfl rfl rfl (fun bkb1 hbkb1 => ?_)
 refine box trv1 rfl rfl rfl rfl (fun bkb2 hbkb2 => ?_)
 refine asI rfl rfl rfl ?_
 refine rNil ?_
 refine qSeq rfl ?_
 refine hSeq ?_
 refine hReg (sq 0 (sl 1 (sq 2 (sl 3 (sq 4 (sq 5 (sl 6 (sq 7 (sl 8 (sq 9 (sl 10 (sq 11 sz)))))))))))) (by kernel_rfl) ?_
 refine fld fl65_0 rfl rfl rfl ?_
 refine ldl Try.isAgg2 (cB 1 rfl rfl) trv rfl rfl rfl ?_
 refine fld fl65_1 rfl rfl rfl ?_
 refine ldl Try.isAgg2 (cB 0 rfl rfl) trv rfl rfl rfl ?_
 refine mul rfl rfl rfl rfl (by omega) ?_
 refine fld fl65_0 rfl rfl rfl ?_
 refine ldl Try.isAgg2 (cB 0 rfl rfl) trv rfl rfl rfl ?_
 refine fld fl65_1 rfl rfl rfl ?_
 refine ldl Try.isAgg2 (cB 1 rfl rfl) trv rfl rfl rfl ?_
 refine mul rfl rfl rfl rfl (by omega) ?_
 refine callP (v := .int .i64 ((Math.order (n * e) (m * d)))) Try.call169 trv rfl rfl (fun w hs => cmp_Compare_int64_c _ _ w ) ?_
 refine asI rfl rfl rfl ?_
 refine rNil ?_
 refine qSeq rfl ?_
 refine hRet ?_
 exact fun w hs => ⟨[.int .i64 ((Math.order (n * e) (m * d)))], ⟨rfl, trivial⟩, ⟨by first | rfl | exact bD (by omega) | exact bT (by omega) | exact bF (by omega) | exact vI (by omega), hs.upd⟩⟩
theorem impl_CompareRatios_c (n : Int) (d : Int) (m : Int) (e : Int) (w : World) :
  Calls Try.prog 90 #[.agg #[.int .i64 n, .int .i64 d], .agg #[.int .i64 m, .int .i64 e]] w (Ret fun v w' => v = .tuple #[.int .i64 ((Math.cmpR (n, d) (m, e)).1), .int .i64 ((Math.cmpR (n, d) (m, e)).2)] ∧ Ext w w') := by
 refine fn (M := none_) (rs := [.tmp 4, .tmp 5]) Try.func90 rfl Try.ntmps90 rfl rfl (Sep.start _ _) ?_
 refine hSeq ?_
 refine hReg (sl 0 (sl 1 (sq 2 (sq 3 sz)))) (by kernel_rfl) ?_
 refine box trv1 rfl rfl rfl rfl (fun bkb1 hbkb1 => ?_)
 refine box trv1 rfl rfl rfl rfl (fun bkb2 hbkb2 => ?_)
 refine asI rfl rfl rfl ?_
 refine asI rfl rfl rfl ?_
 refine rNil ?_
 refine qSeq rfl ?_
 refine hSeq ?_
 refine hSeq ?_
 refine hReg (sl 0 (sl 1 (sq 2 (sq 3 (sl 4 (sl 5 (sq 6 (sq 7 sz)))))))) (by kernel_rfl) ?_
 refine ldAl Try.isAgg65 Try.sizeOf65 (cBs 1 rfl) trv rfl rfl rfl rfl ?_
 refine callP (v := .bool (Math.isRatio n d)) Try.call129 trv rfl rfl (fun w hs => impl_IsRatio_c _ _ w ) ?_
 refine not rfl rfl rfl ?_
 refine mvB rfl rfl rfl ?_
 refine rBoolN (d := 9) rfl (fun g1 => ?_) (fun g1 => ?_)
 ·
  replace g1 : (Math.isRatio n d) = false := g1
  refine rSkipL trv rfl rfl ?_
  refine rSkipL trv rfl rfl ?_
  refine rSkipQ rfl rfl ?_
  refine pickB rfl rfl rfl rfl ?_
  refine rNil ?_
  refine qSeq rfl ?_
  refine hIfT rfl ?_
  refine hSeq ?_
  refine hReg (sq 0 (sq 1 sz)) (by kernel_rfl) ?_
  refine asI rfl rfl rfl ?_
  refine asI rfl rfl rfl ?_
  refine rNil ?_
  refine qSeq rfl ?_
  refine hRet ?_
  exact fun w hs => ⟨[.int .i64 0, .int .i64 1], ⟨rfl, ⟨rfl, trivial⟩⟩, ⟨by rw [show Math.cmpR (n, d) (m, e) = (0, 1) from Math.cmpR_no (.inl g1)]; rfl, hs.upd⟩⟩
 ·
  replace g1 : (Math.isRatio n d) = true := g1
  refine ldAl Try.isAgg65 Try.sizeOf65 (cBs 0 rfl) trv rfl rfl rfl rfl ?_
  refine callP (v := .bool (Math.isRatio m e)) Try.call129 trv rfl rfl (fun w hs => impl_IsRatio_c _ _ w ) ?_
  refine not rfl rfl rfl ?_
  refine pickB rfl rfl rfl rfl ?_
  refine rNil ?_
  refine qSeq rfl ?_
  refine hIfN rfl (fun c2 => ?_) (fun c2 => ?_)
  ·
   replace c2 : (Math.isRatio m e) = false := c2
   refine hSeq ?_
   refine hReg (sq 0 (sq 1 sz)) (by kernel_rfl) ?_
   refine asI rfl rfl rfl ?_
   refine asI rfl rfl rfl ?_
   refine rNil ?_
   refine qSeq rfl ?_
   refine hRet ?_
   exact fun w hs => ⟨[.int .i64 0, .int .i64 1], ⟨rfl, ⟨rfl, trivial⟩⟩, ⟨by rw [show Math.cmpR (n, d) (m, e) = (0, 1) from Math.cmpR_no (.inr c2)]; rfl, hs.upd⟩⟩
  ·
   replace c2 : (Math.isRatio m e) = true := c2
   have b1 := Math.isRatio_bd g1
   have b2 := Math.isRatio_bd c2
   refine hSkip ?_
   refine qSeq rfl ?_
   refine hSeq ?_
   refine hReg (sl 0 (sl 1 (sl 2 (sq 3 (sq 4 sz))))) (by kernel_rfl) ?_
   refine ldAl Try.isAgg65 Try.sizeOf65 (cBs 1 rfl) trv rfl rfl rfl rfl ?_
   refine ldAl Try.isAgg65 Try.sizeOf65 (cBs 0 rfl) trv rfl rfl rfl rfl ?_
   refine callP (v := .int .i64 ((Math.order (n * e) (m * d)))) Try.call153 trv rfl rfl (fun w hs => impl_compareRatios_c _ _ _ _ w (by omega) (by omega) (by omega) (by omega)) ?_
   refine asI rfl rfl rfl ?_
   refine asI rfl rfl rfl ?_
   refine rNil ?_
   refine qSeq rfl ?_
   refine hRet ?_
   exact fun w hs => ⟨[.int .i64 ((Math.order (n * e) (m * d))), .int .i64 0], ⟨rfl, ⟨rfl, trivial⟩⟩, ⟨by rw [show Math.cmpR (n, d) (m, e) = (Math.order (n * e) (m * d), 0) from if_pos ⟨g1, c2⟩]; rfl, hs.upd⟩⟩
end Go.Proofs.Ytjengglpbdgmnaa
/- Ratios are compared part by part. No condition. -/
namespace Go.Proofs.Ytjengglpbdgmnaa
open Go Go.RowKit V
theorem eq2R : Eq2 Try.prog 65 := ⟨Try.eqGuardType65, fun w x1 x2 y1 y2 => by
  rw [run_equalIn_agg (P := Try.prog) w _ _ _ _ (by kernel_rfl) Try.stoodInHeld65]
  have hf : (Try.prog.fieldsOf 65).toList.map (fun f => (f.name, f.type, f.offset)) = [("Num", 2, 0), ("Den", 2, 1)] := by kernel_rfl
  generalize (Try.prog.fieldsOf 65).toList = fs at hf
  obtain ⟨f, f', rfl⟩ : ∃ f f', fs = [f, f'] := by
    match fs, congrArg List.length hf with
    | [f, f'], _ => exact ⟨f, f', rfl⟩
  · simp only [List.map_cons, List.map_nil, List.cons.injEq, Prod.mk.injEq, and_true] at hf
    obtain ⟨⟨h1, h2, h3⟩, h4, h5, h6⟩ := hf
    have e1 := fun a b => run_equalIn_int (P := Try.prog) w 9998 2 .i64 .i64 a b Try.underlying2
    simp [Op.eqFields, h1, h2, h3, h4, h5, h6, part, Try.sizeOf2, e1]
    by_cases hx : x1 = y1 <;> by_cases hy : x2 = y2 <;> simp [hx, hy]⟩
end Go.Proofs.Ytjengglpbdgmnaa
