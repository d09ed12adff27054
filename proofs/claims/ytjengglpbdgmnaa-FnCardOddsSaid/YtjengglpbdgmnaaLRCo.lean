/- Contracts of ratios. Their conditions stand in each. -/
import Derived.Test.YtjengglpbdgmnaaEngCCo
import Derived.Test.YtjengglpbdgmnaaMathCo
import Derived.Test.YtjengglpbdgmnaaTreeCo
import Derived.Test.YtjengglpbdgmnaaL1Co
import Derived.Test.YtjengglpbdgmnaaL2Co
import Derived.Test.YtjengglpbdgmnaaRows
namespace Go.Proofs.Ytjengglpbdgmnaa
open Go Go.RowKit V
set_option linter.unusedVariables false
set_option linter.unusedSimpArgs false
set_option maxRecDepth 100000
theorem fl65_0 : Fld Try.prog 65 0 0 := by
 intro w ad; simp [Instr.fieldAt, Try.runUnderlying65, Instr.sureAddr, fieldPlace, Try.sizeOf2]
theorem fl65_1 : Fld Try.prog 65 1 1 := by
 intro w ad; simp [Instr.fieldAt, Try.runUnderlying65, Instr.sureAddr, fieldPlace, Try.sizeOf2]
theorem bld65   : ∀ w, (Instr.build 65 ([] : List (Nat × Value)).toArray).run Try.prog w = .ok (.agg ([.int .i64 0, .int .i64 0] : List Value).toArray) w := by
 intro w; simp [Instr.build, Instr.fill, Try.zeroValue65, Try.runUnderlying65, aggCells, Try.sizeOf2]
theorem bld65_0_1 (v0 v1 : Value) (h0 : v0.cells = #[v0]) (h1 : v1.cells = #[v1]) : ∀ w, (Instr.build 65 ([(0, v0), (1, v1)] : List (Nat × Value)).toArray).run Try.prog w = .ok (.agg ([v0, v1] : List Value).toArray) w := by
 intro w; simp [Instr.build, Instr.fill, Try.zeroValue65, Try.runUnderlying65, aggCells, Try.sizeOf2, h0, h1]
theorem impl_absOf_c (n : Int) (w : World) (hn : -9223372036854775807 ≤ n ∧ n ≤ 9223372036854775807) :
  Calls Try.prog 165 #[.int .i64 n] w (Ret fun v w' => v = .int .i64 (n.natAbs : Int) ∧ Ext w w') := by
 refine fn (M := none_) (rs := [.tmp 2]) Try.func165 rfl Try.ntmps165 rfl rfl (Sep.start _ _) ?_
 refine hSeq ?_
 refine hReg (sq 0 sz) (by kernel_rfl) ?_
 refine asI rfl rfl rfl ?_
 refine rNil ?_
 refine qSeq rfl ?_
 refine hSeq ?_
 refine hSeq ?_
 refine hReg (sq 0 (sq 1 sz)) (by kernel_rfl) ?_
 refine mvI rfl rfl rfl ?_
 refine lss rfl rfl rfl rfl ?_
 refine rNil ?_
 refine qSeq rfl ?_
 refine hIfD rfl (fun c1 => ?_) (fun c1 => ?_)
 ·
  replace c1 : n < 0 := c1
  refine hSeq ?_
  refine hReg (sq 0 (sq 1 (sq 2 sz))) (by kernel_rfl) ?_
  refine mvI rfl rfl rfl ?_
  refine neg rfl rfl rfl (by omega) ?_
  refine asI rfl rfl rfl ?_
  refine rNil ?_
  refine qSeq rfl ?_
  refine hRet ?_
  exact fun w hs => ⟨[.int .i64 (-n)], ⟨rfl, trivial⟩, ⟨vI (by omega), hs.upd⟩⟩
 ·
  replace c1 : ¬ (n < 0) := c1
  refine hSkip ?_
  refine qSeq rfl ?_
  refine hSeq ?_
  refine hReg (sq 0 (sq 1 sz)) (by kernel_rfl) ?_
  refine mvI rfl rfl rfl ?_
  refine asI rfl rfl rfl ?_
  refine rNil ?_
  refine qSeq rfl ?_
  refine hRet ?_
  exact fun w hs => ⟨[.int .i64 n], ⟨rfl, trivial⟩, ⟨vI (by omega), hs.upd⟩⟩
theorem spec_l01Abs_c (n : Int) (w : World) (hn : -9223372036854775807 ≤ n ∧ n ≤ 9223372036854775807) :
  Calls Try.prog 167 #[.int .i64 n] w (Ret fun v w' => v = .int .i64 (n.natAbs : Int) ∧ Ext w w') := by
 refine fn (M := none_) (rs := [.tmp 2]) Try.func167 rfl Try.ntmps167 rfl rfl (Sep.start _ _) ?_
 refine hSeq ?_
 refine hReg (sq 0 sz) (by kernel_rfl) ?_
 refine asI rfl rfl rfl ?_
 refine rNil ?_
 refine qSeq rfl ?_
 refine hSeq ?_
 refine hReg (sq 0 (sq 1 (sq 2 (sq 3 (sq 4 sz))))) (by kernel_rfl) ?_
 refine mvI rfl rfl rfl ?_
 refine mvI rfl rfl rfl ?_
 refine neg rfl rfl rfl (by omega) ?_
 refine max2 rfl rfl rfl rfl ?_
 refine asI rfl rfl rfl ?_
 refine rNil ?_
 refine qSeq rfl ?_
 refine hRet ?_
 exact fun w hs => ⟨[.int .i64 ((max n (-n)))], ⟨rfl, trivial⟩, ⟨vI (by omega), hs.upd⟩⟩
theorem impl_divisorOf_c (a : Int) (b : Int) (w : World) (ha : 0 ≤ a) (hb : 0 ≤ b) :
  Calls Try.prog 164 #[.int .i64 a, .int .i64 b] w (Ret fun v w' => v = .int .i64 (Math.gcdI a b) ∧ Ext w w') := by
 refine fn (M := none_) (rs := [.tmp 4]) Try.func164 rfl Try.ntmps164 rfl rfl (Sep.start _ _) ?_
 refine hSeq ?_
 refine hReg (sq 0 sz) (by kernel_rfl) ?_
 refine asI rfl rfl rfl ?_
 refine rNil ?_
 refine qSeq rfl ?_
 refine hSeq ?_
 refine hBlk ?_
 refine hLoop (α := Int × Int) (fun x => 0 ≤ x.1 ∧ 0 ≤ x.2 ∧ Math.gcdI x.1 x.2 = Math.gcdI a b) (fun x => x.2.toNat) (fun x => []) (fun x => [(0, .int .i64 x.1), (1, .int .i64 x.2)]) (a, b) ⟨ha, hb, rfl⟩ (fun _ h => h.pick []) ⟨rfl, rfl, trivial⟩ ?_
 rintro ⟨p, q⟩ τ1 ⟨hp, hq, hg⟩
 dsimp only at hp hq hg
 refine hRe [(0, .int .i64 p), (1, .int .i64 q)] [] rfl rfl ?_
 refine hSeq ?_
 refine hSeq ?_
 refine hReg (sq 0 (sq 1 sz)) (by kernel_rfl) ?_
 refine mvI rfl rfl rfl ?_
 refine gtr rfl rfl rfl rfl ?_
 refine rNil ?_
 refine qSeq rfl ?_
 refine hIfD rfl (fun c1 => ?_) (fun c1 => ?_)
 ·
  replace c1 : 0 < q := c1
  refine hSkip ?_
  refine qSeq rfl ?_
  refine hBlk ?_
  refine hDraw (Ls := []) (by kernel_rfl) (sq 0 (sq 1 (sq 2 (sq 3 (sq 4 (sq 5 sz)))))) (by kernel_rfl) .slnil ?_
  refine mvI rfl rfl rfl ?_
  refine mvI rfl rfl rfl ?_
  refine mvI rfl rfl rfl ?_
  refine rem rfl rfl rfl rfl (by omega) ?_
  refine asI rfl rfl rfl ?_
  refine asI rfl rfl rfl ?_
  refine rNil ?_
  exact qNext rfl (q, p % q) (Math.mod_lt hp (by omega)) ⟨hq, Int.emod_nonneg _ (by omega), by rw [← hg]; exact Math.gcd_step hp (by omega)⟩ ⟨rfl, rfl, trivial⟩ (fun _ h => h.pick [])
 ·
  replace c1 : ¬ (0 < q) := c1
  refine hExit rfl ?_
  refine qSeq rfl ?_
  refine hSeq ?_
  refine hReg (sq 0 (sq 1 sz)) (by kernel_rfl) ?_
  refine mvI rfl rfl rfl ?_
  refine asI rfl rfl rfl ?_
  refine rNil ?_
  refine qSeq rfl ?_
  refine hRet ?_
  exact fun w hs => ⟨[.int .i64 p], ⟨rfl, trivial⟩, ⟨vI (by rw [← hg]; exact Math.gcd_end hp (by omega)), hs.upd⟩⟩
theorem spec_l01Gcd_c_r (kk_ : Nat) : ∀ (a : Int) (b : Int) (w : World), b.toNat = kk_ → (0 ≤ a) → (0 ≤ b) → Calls Try.prog 166 #[.int .i64 a, .int .i64 b] w (Ret fun v w' => v = .int .i64 (Math.gcdI a b) ∧ Ext w w') := by
 induction kk_ using Nat.strongRecOn with
 | _ kk_ ih =>
  intro a b w hK ha hb
  refine fn (M := none_) (rs := [.tmp 4]) Try.func166 rfl Try.ntmps166 rfl rfl (Sep.start _ _) ?_
  refine hSeq ?_
  refine hReg (sq 0 sz) (by kernel_rfl) ?_
  refine asI rfl rfl rfl ?_
  refine rNil ?_
  refine qSeq rfl ?_
  refine hSeq ?_
  refine hSeq ?_
  refine hReg (sq 0 (sq 1 sz)) (by kernel_rfl) ?_
  refine mvI rfl rfl rfl ?_
  refine eql rfl rfl rfl rfl ?_
  refine rNil ?_
  refine qSeq rfl ?_
  refine hIfD rfl (fun c1 => ?_) (fun c1 => ?_)
  ·
   replace c1 : b = 0 := c1
   refine hSeq ?_
   refine hReg (sq 0 (sq 1 sz)) (by kernel_rfl) ?_
   refine mvI rfl rfl rfl ?_
   refine asI rfl rfl rfl ?_
   refine rNil ?_
   refine qSeq rfl ?_
   refine hRet ?_
   exact fun w hs => ⟨[.int .i64 a], ⟨rfl, trivial⟩, ⟨vI (Math.gcd_end ha c1), hs.upd⟩⟩
  ·
   replace c1 : ¬ (b = 0) := c1
   have hg := Math.gcd_step ha (show 0 < b by omega)
   have hm0 := Int.emod_nonneg a (show b ≠ 0 by omega)
   refine hSkip ?_
   refine qSeq rfl ?_
   refine hSeq ?_
   refine hReg (sq 0 (sq 1 (sq 2 (sq 3 (sl 4 (sq 5 sz)))))) (by kernel_rfl) ?_
   refine mvI rfl rfl rfl ?_
   refine mvI rfl rfl rfl ?_
   refine mvI rfl rfl rfl ?_
   refine rem rfl rfl rfl rfl (by omega) ?_
   refine callP (v := .int .i64 ((Math.gcdI b (a % b)))) Try.call166 trv rfl rfl (fun w hs => ih _ (by have := Math.mod_lt ha (show 0 < b by omega); omega) _ _ w rfl (by omega) (by omega)) ?_
   refine asI rfl rfl rfl ?_
   refine rNil ?_
   refine qSeq rfl ?_
   refine hRet ?_
   exact fun w hs => ⟨[.int .i64 ((Math.gcdI b (a % b)))], ⟨rfl, trivial⟩, ⟨vI hg, hs.upd⟩⟩
theorem spec_l01Gcd_c (a : Int) (b : Int) (w : World) (ha : 0 ≤ a) (hb : 0 ≤ b) :
  Calls Try.prog 166 #[.int .i64 a, .int .i64 b] w (Ret fun v w' => v = .int .i64 (Math.gcdI a b) ∧ Ext w w') := spec_l01Gcd_c_r _ a b w rfl ha hb
theorem impl_IsRatio_c (n : Int) (d : Int) (w : World) :
  Calls Try.prog 129 #[.agg #[.int .i64 n, .int .i64 d]] w (Ret fun v w' => v = .bool (Math.isRatio n d) ∧ Ext w w') := by
 refine fn (M := none_) (rs := [.tmp 2]) Try.func129 rfl Try.ntmps129 rfl rfl (Sep.start _ _) ?_
 refine hSeq ?_
 refine hReg (sl 0 (sq 1 sz)) (by kernel_rfl) ?_
 refine box trv1 rfl rfl rfl rfl (fun bkb1 hbkb1 => ?_)
 refine asB rfl rfl rfl ?_
 refine rNil ?_
 refine qSeq rfl ?_
 refine hSeq ?_
 refine hDraw (Ls := [blk bkb1 65 [.int .i64 n, .int .i64 d]]) (by kernel_rfl) (sq 0 (sq 1 (sl 2 (sq 3 (sq 4 (sq 5 (sl 6 (sq 7 (sq 8 (sq 9 (sq 10 (sq 12 (sq 13 (sl 11 (sl 14 (sq 15 (sq 16 (sq 17 sz)))))))))))))))))) (by kernel_rfl) (.cons_cons _ .slnil) ?_
 refine fld fl65_0 rfl rfl rfl ?_
 refine ldq Try.isAgg2 (cB 0 rfl rfl) rfl rfl rfl ?_
 refine callP (v := .bool (decide ((-1000000000) ≤ n ∧ n ≤ (1000000000 : Int)))) Try.call96 (fun _ h => h.pick [0]) rfl rfl (fun w hs => impl_within_c _ _ _ w ) ?_
 refine mvB rfl rfl rfl ?_
 refine rBoolD (d := 6) rfl (fun g1 => ?_) (fun g1 => ?_)
 ·
  replace g1 : (-1000000000) ≤ n ∧ n ≤ (1000000000 : Int) := g1
  refine fld fl65_1 rfl rfl rfl ?_
  refine ldq Try.isAgg2 (cB 0 rfl rfl) rfl rfl rfl ?_
  refine callP (v := .bool (decide ((1 : Int) ≤ d ∧ d ≤ (1000000000 : Int)))) Try.call96 (fun _ h => h.pick [0]) rfl rfl (fun w hs => impl_within_c _ _ _ w ) ?_
  refine pickB rfl rfl rfl rfl ?_
  refine mvB rfl rfl rfl ?_
  refine rBoolD (d := 11) rfl (fun g2 => ?_) (fun g2 => ?_)
  ·
   replace g2 : (1 : Int) ≤ d ∧ d ≤ (1000000000 : Int) := g2
   refine fld fl65_0 rfl rfl rfl ?_
   refine ldq Try.isAgg2 (cB 0 rfl rfl) rfl rfl rfl ?_
   refine fld fl65_1 rfl rfl rfl ?_
   refine ldq Try.isAgg2 (cB 0 rfl rfl) rfl rfl rfl ?_
   refine callP (v := .int .i64 (n.natAbs : Int)) Try.call165 (fun _ h => h.pick [0]) rfl rfl (fun w hs => impl_absOf_c _ w (by omega)) ?_
   refine callP (v := .int .i64 ((Math.gcdI (n.natAbs : Int) d))) Try.call164 (fun _ h => h.pick [0]) rfl rfl (fun w hs => impl_divisorOf_c _ _ w (by omega) (by omega)) ?_
   refine eql rfl rfl rfl rfl ?_
   refine pickB rfl rfl rfl rfl ?_
   refine asB rfl rfl rfl ?_
   refine rNil ?_
   refine qSeq rfl ?_
   refine hRet ?_
   exact fun w hs => ⟨[.bool (decide ((Math.gcdI (n.natAbs : Int) d) = 1))], ⟨rfl, trivial⟩, ⟨bB (by simp [Math.isRatio, *]), hs.upd⟩⟩
  ·
   replace g2 : ¬ ((1 : Int) ≤ d ∧ d ≤ (1000000000 : Int)) := g2
   refine rSkipQ rfl rfl ?_
   refine rSkipQ rfl rfl ?_
   refine rSkipQ rfl rfl ?_
   refine rSkipQ rfl rfl ?_
   refine rSkipL (fun _ h => h.pick [0]) rfl rfl ?_
   refine rSkipL (fun _ h => h.pick [0]) rfl rfl ?_
   refine rSkipQ rfl rfl ?_
   refine pickB rfl rfl rfl rfl ?_
   refine asB rfl rfl rfl ?_
   refine rNil ?_
   refine qSeq rfl ?_
   refine hRet ?_
   exact fun w hs => ⟨[.bool false], ⟨rfl, trivial⟩, ⟨bB (by simp [Math.isRatio, *]), hs.upd⟩⟩
 ·
  replace g1 : ¬ ((-1000000000) ≤ n ∧ n ≤ (1000000000 : Int)) := g1
  refine rSkipQ rfl rfl ?_
  refine rSkipQ rfl rfl ?_
  refine rSkipL (fun _ h => h.pick [0]) rfl rfl ?_
  refine pickB rfl rfl rfl rfl ?_
  refine mvB rfl rfl rfl ?_
  refine rSkipQ rfl rfl ?_
  refine rSkipQ rfl rfl ?_
  refine rSkipQ rfl rfl ?_
  refine rSkipQ rfl rfl ?_
  refine rSkipL (fun _ h => h.pick [0]) rfl rfl ?_
  refine rSkipL (fun _ h => h.pick [0]) rfl rfl ?_
  refine rSkipQ rfl rfl ?_
  refine pickB rfl rfl rfl rfl ?_
  refine asB rfl rfl rfl ?_
  refine rNil ?_
  refine qSeq rfl ?_
  refine hRet ?_
  exact fun w hs => ⟨[.bool false], ⟨rfl, trivial⟩, ⟨bB (by simp [Math.isRatio, *]), hs.upd⟩⟩
theorem impl_reduced_c (num : Int) (den : Int) (w : World) (hn : -9223372036854775807 ≤ num ∧ num ≤ 9223372036854775807) (hd : 1 ≤ den) (hd2 : den ≤ 9223372036854775807) :
  Calls Try.prog 123 #[.int .i64 num, .int .i64 den] w (Ret fun v w' => v = .tuple #[.agg #[.int .i64 ((Math.reduced num den).1.1), .int .i64 ((Math.reduced num den).1.2)], .int .i64 ((Math.reduced num den).2)] ∧ Ext w w') := by
 refine fn (M := none_) (rs := [.cell 4 65, .tmp 5]) Try.func123 rfl Try.ntmps123 rfl rfl (Sep.start _ _) ?_
 refine hSeq ?_
 refine hReg (sl 0 (sq 1 sz)) (by kernel_rfl) ?_
 refine alc Try.zeroValue65 rfl trv1 rfl rfl (fun bka1 hbka1 => ?_)
 refine asI rfl rfl rfl ?_
 refine rNil ?_
 refine qSeq rfl ?_
 refine hSeq ?_
 refine hReg (sq 0 (sl 1 (sq 2 (sl 3 (sq 4 sz))))) (by kernel_rfl) ?_
 refine mvI rfl rfl rfl ?_
 refine callP (v := .int .i64 (num.natAbs : Int)) Try.call165 trv rfl rfl (fun w hs => impl_absOf_c _ w (by omega)) ?_
 refine mvI rfl rfl rfl ?_
 refine callP (v := .int .i64 ((Math.gcdI (num.natAbs : Int) den))) Try.call164 trv rfl rfl (fun w hs => impl_divisorOf_c _ _ w (by omega) (by omega)) ?_
 refine asI rfl rfl rfl ?_
 refine rNil ?_
 refine qSeq rfl ?_
 refine hSeq ?_
 refine hDraw (Ls := []) (by kernel_rfl) (sq 0 (sq 1 (sq 2 (sq 3 (sq 4 (sq 5 (sq 6 (sl 7 (sf 8 sz))))))))) (by kernel_rfl) (.cons _ .slnil) ?_
 refine mvI rfl rfl rfl ?_
 refine mvI rfl rfl rfl ?_
 refine quoT rfl rfl rfl rfl (by have := Math.gcdI_pos num.natAbs hd; omega) ?_
 refine mvI rfl rfl rfl ?_
 refine mvI rfl rfl rfl ?_
 refine quo rfl rfl rfl rfl (by have := Math.gcdI_pos num.natAbs hd; omega) ?_
 refine bld rfl rfl rfl (bld65_0_1 (.int .i64 _) (.int .i64 _) rfl rfl) ?_
 refine alc Try.zeroValue65 rfl (fun _ _ h => h.pick []) rfl rfl (fun bka2 hbka2 => ?_)
 refine stAf (vs := [.int .i64 ((Int.tdiv num ((Math.gcdI (num.natAbs : Int) den)))), .int .i64 ((den / ((Math.gcdI (num.natAbs : Int) den))))]) 0 rfl Try.sizeOf65 rfl rfl rfl rfl rfl (by simp [Value.oneCell']) rfl ?_
 refine rNil ?_
 refine qSeq rfl ?_
 refine hSeq ?_
 refine hSeq ?_
 refine hReg (sl 0 (sl 1 (sq 2 sz))) (by kernel_rfl) ?_
 refine ldAl Try.isAgg65 Try.sizeOf65 (cBs 0 rfl) trv rfl rfl rfl rfl ?_
 refine callP (v := .bool ((Math.isRatio ((Int.tdiv num ((Math.gcdI (num.natAbs : Int) den)))) ((den / ((Math.gcdI (num.natAbs : Int) den))))))) Try.call129 trv rfl rfl (fun w hs => impl_IsRatio_c _ _ w ) ?_
 refine not rfl rfl rfl ?_
 refine rNil ?_
 refine qSeq rfl ?_
 refine hIfN rfl (fun c1 => ?_) (fun c1 => ?_)
 ·
  replace c1 : (Math.isRatio ((Int.tdiv num ((Math.gcdI (num.natAbs : Int) den)))) ((den / ((Math.gcdI (num.natAbs : Int) den))))) = false := c1
  refine hSeq ?_
  refine hReg (sq 0 (sl 1 (sq 2 sz))) (by kernel_rfl) ?_
  refine bld rfl rfl rfl (bld65) ?_
  refine stAl (vs := [.int .i64 0, .int .i64 0]) 1 rfl Try.sizeOf65 trv rfl rfl rfl rfl rfl (by simp [Value.oneCell']) rfl ?_
  refine asI rfl rfl rfl ?_
  refine rNil ?_
  refine qSeq rfl ?_
  refine hRet ?_
  exact fun w hs => ⟨[_, .int .i64 3], ⟨⟨_, rfl, run_load_agg Try.isAgg65 Try.sizeOf65 rfl (cBs 1 rfl w hs)⟩, ⟨rfl, trivial⟩⟩, ⟨by simp [Math.reduced, one, *], hs.upd⟩⟩
 ·
  replace c1 : (Math.isRatio ((Int.tdiv num ((Math.gcdI (num.natAbs : Int) den)))) ((den / ((Math.gcdI (num.natAbs : Int) den))))) = true := c1
  refine hSkip ?_
  refine qSeq rfl ?_
  refine hSeq ?_
  refine hReg (sl 0 (sl 1 (sq 2 sz))) (by kernel_rfl) ?_
  refine ldAl Try.isAgg65 Try.sizeOf65 (cBs 0 rfl) trv rfl rfl rfl rfl ?_
  refine stAl (vs := [.int .i64 ((Int.tdiv num ((Math.gcdI (num.natAbs : Int) den)))), .int .i64 ((den / ((Math.gcdI (num.natAbs : Int) den))))]) 1 rfl Try.sizeOf65 trv rfl rfl rfl rfl rfl (by simp [Value.oneCell']) rfl ?_
  refine asI rfl rfl rfl ?_
  refine rNil ?_
  refine qSeq rfl ?_
  refine hRet ?_
  exact fun w hs => ⟨[_, .int .i64 0], ⟨⟨_, rfl, run_load_agg Try.isAgg65 Try.sizeOf65 rfl (cBs 1 rfl w hs)⟩, ⟨rfl, trivial⟩⟩, ⟨by simp [Math.reduced, one, *], hs.upd⟩⟩
theorem spec_IsRatio_c (n : Int) (d : Int) (w : World) :
  Calls Try.prog 168 #[.agg #[.int .i64 n, .int .i64 d]] w (Ret fun v w' => v = .bool (Math.isRatio n d) ∧ Ext w w') := by
 refine fn (M := none_) (rs := [.tmp 2]) Try.func168 rfl Try.ntmps168 rfl rfl (Sep.start _ _) ?_
 refine hSeq ?_
 refine hReg (sl 0 (sq 1 sz)) (by kernel_rfl) ?_
 refine box trv1 rfl rfl rfl rfl (fun bkb1 hbkb1 => ?_)
 refine asB rfl rfl rfl ?_
 refine rNil ?_
 refine qSeq rfl ?_
 refine hSeq ?_
 refine hDraw (Ls := [blk bkb1 65 [.int .i64 n, .int .i64 d]]) (by kernel_rfl) (sq 0 (sq 1 (sl 2 (sq 3 (sq 4 (sq 5 (sl 6 (sq 7 (sq 8 (sq 9 (sq 10 (sq 12 (sq 13 (sl 11 (sl 14 (sq 15 (sq 16 (sq 17 sz)))))))))))))))))) (by kernel_rfl) (.cons_cons _ .slnil) ?_
 refine fld fl65_0 rfl rfl rfl ?_
 refine ldq Try.isAgg2 (cB 0 rfl rfl) rfl rfl rfl ?_
 refine callP (v := .bool (decide ((-1000000000) ≤ n ∧ n ≤ (1000000000 : Int)))) Try.call97 (fun _ h => h.pick [0]) rfl rfl (fun w hs => spec_l01In_c _ _ _ w ) ?_
 refine mvB rfl rfl rfl ?_
 refine rBoolD (d := 6) rfl (fun g1 => ?_) (fun g1 => ?_)
 ·
  replace g1 : (-1000000000) ≤ n ∧ n ≤ (1000000000 : Int) := g1
  refine fld fl65_1 rfl rfl rfl ?_
  refine ldq Try.isAgg2 (cB 0 rfl rfl) rfl rfl rfl ?_
  refine callP (v := .bool (decide ((1 : Int) ≤ d ∧ d ≤ (1000000000 : Int)))) Try.call97 (fun _ h => h.pick [0]) rfl rfl (fun w hs => spec_l01In_c _ _ _ w ) ?_
  refine pickB rfl rfl rfl rfl ?_
  refine mvB rfl rfl rfl ?_
  refine rBoolD (d := 11) rfl (fun g2 => ?_) (fun g2 => ?_)
  ·
   replace g2 : (1 : Int) ≤ d ∧ d ≤ (1000000000 : Int) := g2
   refine fld fl65_0 rfl rfl rfl ?_
   refine ldq Try.isAgg2 (cB 0 rfl rfl) rfl rfl rfl ?_
   refine fld fl65_1 rfl rfl rfl ?_
   refine ldq Try.isAgg2 (cB 0 rfl rfl) rfl rfl rfl ?_
   refine callP (v := .int .i64 (n.natAbs : Int)) Try.call167 (fun _ h => h.pick [0]) rfl rfl (fun w hs => spec_l01Abs_c _ w (by omega)) ?_
   refine callP (v := .int .i64 ((Math.gcdI (n.natAbs : Int) d))) Try.call166 (fun _ h => h.pick [0]) rfl rfl (fun w hs => spec_l01Gcd_c _ _ w (by omega) (by omega)) ?_
   refine eql rfl rfl rfl rfl ?_
   refine pickB rfl rfl rfl rfl ?_
   refine asB rfl rfl rfl ?_
   refine rNil ?_
   refine qSeq rfl ?_
   refine hRet ?_
   exact fun w hs => ⟨[.bool (decide ((Math.gcdI (n.natAbs : Int) d) = 1))], ⟨rfl, trivial⟩, ⟨bB (by simp [Math.isRatio, *]), hs.upd⟩⟩
  ·
   replace g2 : ¬ ((1 : Int) ≤ d ∧ d ≤ (1000000000 : Int)) := g2
   refine rSkipQ rfl rfl ?_
   refine rSkipQ rfl rfl ?_
   refine rSkipQ rfl rfl ?_
   refine rSkipQ rfl rfl ?_
   refine rSkipL (fun _ h => h.pick [0]) rfl rfl ?_
   refine rSkipL (fun _ h => h.pick [0]) rfl rfl ?_
   refine rSkipQ rfl rfl ?_
   refine pickB rfl rfl rfl rfl ?_
   refine asB rfl rfl rfl ?_
   refine rNil ?_
   refine qSeq rfl ?_
   refine hRet ?_
   exact fun w hs => ⟨[.bool false], ⟨rfl, trivial⟩, ⟨bB (by simp [Math.isRatio, *]), hs.upd⟩⟩
 ·
  replace g1 : ¬ ((-1000000000) ≤ n ∧ n ≤ (1000000000 : Int)) := g1
  refine rSkipQ rfl rfl ?_
  refine rSkipQ rfl rfl ?_
  refine rSkipL (fun _ h => h.pick [0]) rfl rfl ?_
  refine pickB rfl rfl rfl rfl ?_
  refine mvB rfl rfl rfl ?_
  refine rSkipQ rfl rfl ?_
  refine rSkipQ rfl rfl ?_
  refine rSkipQ rfl rfl ?_
  refine rSkipQ rfl rfl ?_
  refine rSkipL (fun _ h => h.pick [0]) rfl rfl ?_
  refine rSkipL (fun _ h => h.pick [0]) rfl rfl ?_
  refine rSkipQ rfl rfl ?_
  refine pickB rfl rfl rfl rfl ?_
  refine asB rfl rfl rfl ?_
  refine rNil ?_
  refine qSeq rfl ?_
  refine hRet ?_
  exact fun w hs => ⟨[.bool false], ⟨rfl, trivial⟩, ⟨bB (by simp [Math.isRatio, *]), hs.upd⟩⟩
theorem spec_l01Ratio_c (num : Int) (den : Int) (w : World) (hn : -9223372036854775807 ≤ num ∧ num ≤ 9223372036854775807) (hd : 1 ≤ den) (hd2 : den ≤ 9223372036854775807) :
  Calls Try.prog 124 #[.int .i64 num, .int .i64 den] w (Ret fun v w' => v = .tuple #[.agg #[.int .i64 ((Math.reduced num den).1.1), .int .i64 ((Math.reduced num den).1.2)], .int .i64 ((Math.reduced num den).2)] ∧ Ext w w') := by
 refine fn (M := none_) (rs := [.cell 4 65, .tmp 5]) Try.func124 rfl Try.ntmps124 rfl rfl (Sep.start _ _) ?_
 refine hSeq ?_
 refine hReg (sl 0 (sq 1 sz)) (by kernel_rfl) ?_
 refine alc Try.zeroValue65 rfl trv1 rfl rfl (fun bka1 hbka1 => ?_)
 refine asI rfl rfl rfl ?_
 refine rNil ?_
 refine qSeq rfl ?_
 refine hSeq ?_
 refine hReg (sq 0 (sl 1 (sq 2 (sl 3 (sq 4 sz))))) (by kernel_rfl) ?_
 refine mvI rfl rfl rfl ?_
 refine callP (v := .int .i64 (num.natAbs : Int)) Try.call167 trv rfl rfl (fun w hs => spec_l01Abs_c _ w (by omega)) ?_
 refine mvI rfl rfl rfl ?_
 refine callP (v := .int .i64 ((Math.gcdI (num.natAbs : Int) den))) Try.call166 trv rfl rfl (fun w hs => spec_l01Gcd_c _ _ w (by omega) (by omega)) ?_
 refine asI rfl rfl rfl ?_
 refine rNil ?_
 refine qSeq rfl ?_
 refine hSeq ?_
 refine hDraw (Ls := []) (by kernel_rfl) (sq 0 (sq 1 (sq 2 (sq 3 (sq 4 (sq 5 (sq 6 (sl 7 (sf 8 sz))))))))) (by kernel_rfl) (.cons _ .slnil) ?_
 refine mvI rfl rfl rfl ?_
 refine mvI rfl rfl rfl ?_
 refine quoT rfl rfl rfl rfl (by have := Math.gcdI_pos num.natAbs hd; omega) ?_
 refine mvI rfl rfl rfl ?_
 refine mvI rfl rfl rfl ?_
 refine quo rfl rfl rfl rfl (by have := Math.gcdI_pos num.natAbs hd; omega) ?_
 refine bld rfl rfl rfl (bld65_0_1 (.int .i64 _) (.int .i64 _) rfl rfl) ?_
 refine alc Try.zeroValue65 rfl (fun _ _ h => h.pick []) rfl rfl (fun bka2 hbka2 => ?_)
 refine stAf (vs := [.int .i64 ((Int.tdiv num ((Math.gcdI (num.natAbs : Int) den)))), .int .i64 ((den / ((Math.gcdI (num.natAbs : Int) den))))]) 0 rfl Try.sizeOf65 rfl rfl rfl rfl rfl (by simp [Value.oneCell']) rfl ?_
 refine rNil ?_
 refine qSeq rfl ?_
 refine hSeq ?_
 refine hSeq ?_
 refine hReg (sl 0 (sl 1 (sq 2 sz))) (by kernel_rfl) ?_
 refine ldAl Try.isAgg65 Try.sizeOf65 (cBs 0 rfl) trv rfl rfl rfl rfl ?_
 refine callP (v := .bool ((Math.isRatio ((Int.tdiv num ((Math.gcdI (num.natAbs : Int) den)))) ((den / ((Math.gcdI (num.natAbs : Int) den))))))) Try.call168 trv rfl rfl (fun w hs => spec_IsRatio_c _ _ w ) ?_
 refine not rfl rfl rfl ?_
 refine rNil ?_
 refine qSeq rfl ?_
 refine hIfN rfl (fun c1 => ?_) (fun c1 => ?_)
 ·
  replace c1 : (Math.isRatio ((Int.tdiv num ((Math.gcdI (num.natAbs : Int) den)))) ((den / ((Math.gcdI (num.natAbs : Int) den))))) = false := c1
  refine hSeq ?_
  refine hReg (sq 0 (sl 1 (sq 2 sz))) (by kernel_rfl) ?_
  refine bld rfl rfl rfl (bld65) ?_
  refine stAl (vs := [.int .i64 0, .int .i64 0]) 1 rfl Try.sizeOf65 trv rfl rfl rfl rfl rfl (by simp [Value.oneCell']) rfl ?_
  refine asI rfl rfl rfl ?_
  refine rNil ?_
  refine qSeq rfl ?_
  refine hRet ?_
  exact fun w hs => ⟨[_, .int .i64 3], ⟨⟨_, rfl, run_load_agg Try.isAgg65 Try.sizeOf65 rfl (cBs 1 rfl w hs)⟩, ⟨rfl, trivial⟩⟩, ⟨by simp [Math.reduced, one, *], hs.upd⟩⟩
 ·
  replace c1 : (Math.isRatio ((Int.tdiv num ((Math.gcdI (num.natAbs : Int) den)))) ((den / ((Math.gcdI (num.natAbs : Int) den))))) = true := c1
  refine hSkip ?_
  refine qSeq rfl ?_
  refine hSeq ?_
  refine hReg (sl 0 (sl 1 (sq 2 sz))) (by kernel_rfl) ?_
  refine ldAl Try.isAgg65 Try.sizeOf65 (cBs 0 rfl) trv rfl rfl rfl rfl ?_
  refine stAl (vs := [.int .i64 ((Int.tdiv num ((Math.gcdI (num.natAbs : Int) den)))), .int .i64 ((den / ((Math.gcdI (num.natAbs : Int) den))))]) 1 rfl Try.sizeOf65 trv rfl rfl rfl rfl rfl (by simp [Value.oneCell']) rfl ?_
  refine asI rfl rfl rfl ?_
  refine rNil ?_
  refine qSeq rfl ?_
  refine hRet ?_
  exact fun w hs => ⟨[_, .int .i64 0], ⟨⟨_, rfl, run_load_agg Try.isAgg65 Try.sizeOf65 rfl (cBs 1 rfl w hs)⟩, ⟨rfl, trivial⟩⟩, ⟨by simp [Math.reduced, one, *], hs.upd⟩⟩
theorem impl_AddRatios_c (n : Int) (d : Int) (m : Int) (e : Int) (w : World) :
  Calls Try.prog 57 #[.agg #[.int .i64 n, .int .i64 d], .agg #[.int .i64 m, .int .i64 e]] w (Ret fun v w' => v = .tuple #[.agg #[.int .i64 ((Math.addR (n, d) (m, e)).1.1), .int .i64 ((Math.addR (n, d) (m, e)).1.2)], .int .i64 ((Math.addR (n, d) (m, e)).2)] ∧ Ext w w') := by
 refine fn (M := none_) (rs := [.cell 4 65, .tmp 5]) Try.func57 rfl Try.ntmps57 rfl rfl (Sep.start _ _) ?_
 refine hSeq ?_
 refine hReg (sl 0 (sl 1 (sl 2 (sq 3 sz)))) (by kernel_rfl) ?_
 refine box trv1 rfl rfl rfl rfl (fun bkb1 hbkb1 => ?_)
 refine box trv1 rfl rfl rfl rfl (fun bkb2 hbkb2 => ?_)
 refine alc Try.zeroValue65 rfl trv1 rfl rfl (fun bka3 hbka3 => ?_)
 refine asI rfl rfl rfl ?_
 refine rNil ?_
 refine qSeq rfl ?_
 refine hSeq ?_
 refine hSeq ?_
 refine hReg (sl 0 (sl 1 (sq 2 (sq 3 (sl 4 (sl 5 (sq 6 (sq 7 sz)))))))) (by kernel_rfl) ?_
 refine ldAl Try.isAgg65 Try.sizeOf65 (cBs 2 rfl) trv rfl rfl rfl rfl ?_
 refine callP (v := .bool (Math.isRatio n d)) Try.call129 trv rfl rfl (fun w hs => impl_IsRatio_c _ _ w ) ?_
 refine not rfl rfl rfl ?_
 refine mvB rfl rfl rfl ?_
 refine rBoolN (d := 9) rfl (fun g1 => ?_) (fun g1 => ?_)
 ·
  replace g1 : (Math.isRatio n d) = false := g1
  refine rSkipL trv rfl rfl ?_
  refine rSkipL trv rfl rfl ?_
  refine rSkipQ rfl rfl ?_
  refine pickB rfl rfl rfl rfl ?_
  refine rNil ?_
  refine qSeq rfl ?_
  refine hIfT rfl ?_
  refine hSeq ?_
  refine hReg (sq 0 (sl 1 (sq 2 sz))) (by kernel_rfl) ?_
  refine bld rfl rfl rfl (bld65) ?_
  refine stAl (vs := [.int .i64 0, .int .i64 0]) 0 rfl Try.sizeOf65 trv rfl rfl rfl rfl rfl (by simp [Value.oneCell']) rfl ?_
  refine asI rfl rfl rfl ?_
  refine rNil ?_
  refine qSeq rfl ?_
  refine hRet ?_
  exact fun w hs => ⟨[_, .int .i64 1], ⟨⟨_, rfl, run_load_agg Try.isAgg65 Try.sizeOf65 rfl (cBs 0 rfl w hs)⟩, ⟨rfl, trivial⟩⟩, ⟨by rw [show Math.addR (n, d) (m, e) = ((0, 0), 1) from Math.opR_no (.inl g1)]; rfl, hs.upd⟩⟩
 ·
  replace g1 : (Math.isRatio n d) = true := g1
  refine ldAl Try.isAgg65 Try.sizeOf65 (cBs 1 rfl) trv rfl rfl rfl rfl ?_
  refine callP (v := .bool (Math.isRatio m e)) Try.call129 trv rfl rfl (fun w hs => impl_IsRatio_c _ _ w ) ?_
  refine not rfl rfl rfl ?_
  refine pickB rfl rfl rfl rfl ?_
  refine rNil ?_
  refine qSeq rfl ?_
  refine hIfN rfl (fun c2 => ?_) (fun c2 => ?_)
  ·
   replace c2 : (Math.isRatio m e) = false := c2
   refine hSeq ?_
   refine hReg (sq 0 (sl 1 (sq 2 sz))) (by kernel_rfl) ?_
   refine bld rfl rfl rfl (bld65) ?_
   refine stAl (vs := [.int .i64 0, .int .i64 0]) 0 rfl Try.sizeOf65 trv rfl rfl rfl rfl rfl (by simp [Value.oneCell']) rfl ?_
   refine asI rfl rfl rfl ?_
   refine rNil ?_
   refine qSeq rfl ?_
   refine hRet ?_
   exact fun w hs => ⟨[_, .int .i64 1], ⟨⟨_, rfl, run_load_agg Try.isAgg65 Try.sizeOf65 rfl (cBs 0 rfl w hs)⟩, ⟨rfl, trivial⟩⟩, ⟨by rw [show Math.addR (n, d) (m, e) = ((0, 0), 1) from Math.opR_no (.inr c2)]; rfl, hs.upd⟩⟩
  ·
   replace c2 : (Math.isRatio m e) = true := c2
   have b1 := Math.isRatio_bd g1
   have b2 := Math.isRatio_bd c2
   have p1 := Math.prod_bd b1.1 (y := e) ⟨by omega, b2.2.2⟩
   have p2 := Math.prod_bd b2.1 (y := d) ⟨by omega, b1.2.2⟩
   have p3 := Math.prod_bd (x := d) (y := e) ⟨by omega, b1.2.2⟩ ⟨by omega, b2.2.2⟩
   have p4 := Math.prod_pos b1.2.1 b2.2.1
   refine hSkip ?_
   refine qSeq rfl ?_
   refine hSeq ?_
   refine hReg (sq 0 (sl 1 (sq 2 (sl 3 (sq 4 (sq 5 (sl 6 (sq 7 (sl 8 (sq 9 (sq 10 (sq 11 (sl 12 (sq 13 (sl 14 (sq 15 (sl 16 (sq 17 (sq 18 (sl 19 (sq 20 sz))))))))))))))))))))) (by kernel_rfl) ?_
   refine fld fl65_0 rfl rfl rfl ?_
   refine ldl Try.isAgg2 (cB 2 rfl rfl) trv rfl rfl rfl ?_
   refine fld fl65_1 rfl rfl rfl ?_
   refine ldl Try.isAgg2 (cB 1 rfl rfl) trv rfl rfl rfl ?_
   refine mul rfl rfl rfl rfl (by omega) ?_
   refine fld fl65_0 rfl rfl rfl ?_
   refine ldl Try.isAgg2 (cB 1 rfl rfl) trv rfl rfl rfl ?_
   refine fld fl65_1 rfl rfl rfl ?_
   refine ldl Try.isAgg2 (cB 2 rfl rfl) trv rfl rfl rfl ?_
   refine mul rfl rfl rfl rfl (by omega) ?_
   refine add rfl rfl rfl rfl (by omega) ?_
   refine fld fl65_1 rfl rfl rfl ?_
   refine ldl Try.isAgg2 (cB 2 rfl rfl) trv rfl rfl rfl ?_
   refine fld fl65_1 rfl rfl rfl ?_
   refine ldl Try.isAgg2 (cB 1 rfl rfl) trv rfl rfl rfl ?_
   refine mul rfl rfl rfl rfl (by omega) ?_
   refine callP (v := .tuple #[.agg #[.int .i64 ((Math.reduced (((n * e) + (m * d))) (d * e)).1.1), .int .i64 ((Math.reduced (((n * e) + (m * d))) (d * e)).1.2)], .int .i64 ((Math.reduced (((n * e) + (m * d))) (d * e)).2)]) Try.call123 trv rfl rfl (fun w hs => impl_reduced_c _ _ w (by omega) (by omega) (by omega)) ?_
   refine ext rfl rfl rfl rfl ?_
   refine ext rfl rfl rfl rfl ?_
   refine stAl (vs := [.int .i64 ((Math.reduced (((n * e) + (m * d))) (d * e)).1.1), .int .i64 ((Math.reduced (((n * e) + (m * d))) (d * e)).1.2)]) 0 rfl Try.sizeOf65 trv rfl rfl rfl rfl rfl (by simp [Value.oneCell']) rfl ?_
   refine asI rfl rfl rfl ?_
   refine rNil ?_
   refine qSeq rfl ?_
   refine hRet ?_
   exact fun w hs => ⟨[_, .int .i64 ((Math.reduced (((n * e) + (m * d))) (d * e)).2)], ⟨⟨_, rfl, run_load_agg Try.isAgg65 Try.sizeOf65 rfl (cBs 0 rfl w hs)⟩, ⟨rfl, trivial⟩⟩, ⟨by rw [show Math.addR (n, d) (m, e) = Math.reduced (n * e + m * d) (d * e) from if_pos ⟨g1, c2⟩]; rfl, hs.upd⟩⟩
end Go.Proofs.Ytjengglpbdgmnaa
