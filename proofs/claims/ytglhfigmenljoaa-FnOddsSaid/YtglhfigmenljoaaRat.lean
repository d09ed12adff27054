/- Contracts of the ratios. Their conditions stand in each. -/
import Derived.Test.YtglhfigmenljoaaEng4
import Derived.Test.YtglhfigmenljoaaMath
import Derived.Test.YtglhfigmenljoaaRows
namespace Go.Proofs.Ytglhfigmenljoaa
open Go Go.RowKit V
set_option linter.unusedVariables false
set_option linter.unusedSimpArgs false
set_option maxRecDepth 100000

theorem fl26_0 : Fld Try.prog 26 0 0 := by
  intro w ad; simp [Instr.fieldAt, Try.runUnderlying26, Instr.sureAddr, fieldPlace, Try.sizeOf2]
theorem fl26_1 : Fld Try.prog 26 1 1 := by
  intro w ad; simp [Instr.fieldAt, Try.runUnderlying26, Instr.sureAddr, fieldPlace, Try.sizeOf2]
theorem bld26   : ∀ w, (Instr.build 26 ([] : List (Nat × Value)).toArray).run Try.prog w = .ok (.agg ([.int .i64 0, .int .i64 0] : List Value).toArray) w := by
  intro w; simp [Instr.build, Instr.fill, Try.zeroValue26, Try.runUnderlying26, aggCells, Try.sizeOf2]
theorem bld26_0_1 (v0 v1 : Value) (h0 : v0.cells = #[v0]) (h1 : v1.cells = #[v1]) : ∀ w, (Instr.build 26 ([(0, v0), (1, v1)] : List (Nat × Value)).toArray).run Try.prog w = .ok (.agg ([v0, v1] : List Value).toArray) w := by
  intro w; simp [Instr.build, Instr.fill, Try.zeroValue26, Try.runUnderlying26, aggCells, Try.sizeOf2, h0, h1]

/-- A ratio as a value. -/
def ratV (r : Int × Int) : Value := .agg #[.int .i64 r.1, .int .i64 r.2]
/-- A ratio and a code, as two results. -/
def resR (r : (Int × Int) × Int) : Value := .tuple #[.agg #[.int .i64 r.1.1, .int .i64 r.1.2], .int .i64 r.2]
theorem resR_mk (x y c : Int) : one [.agg ([.int .i64 x, .int .i64 y] : List Value).toArray, .int .i64 c] = resR ((x, y), c) := rfl
theorem impl_within_c (n lo hi : Int) (w : World) :
    Calls Try.prog 42 #[.int .i64 n, .int .i64 lo, .int .i64 hi] w (Ret fun v w' => v = .bool (decide (lo ≤ n ∧ n ≤ hi)) ∧ Ext w w') := by
  refine fn (M := none_) (rs := [.tmp 6]) Try.func42 rfl Try.ntmps42 rfl rfl (Sep.start _ _) ?_
  refine hSeq ?_
  refine hReg (sq 0 sz) (by kernel_rfl) ?_
  refine asB rfl rfl rfl ?_
  refine rNil ?_
  refine qSeq rfl ?_
  refine hSeq ?_
  refine hReg (sq 0 (sq 1 (sq 2 (sq 3 (sq 4 (sq 5 (sq 6 (sq 7 (sq 8 sz))))))))) (by kernel_rfl) ?_
  refine mvI rfl rfl rfl ?_
  refine mvI rfl rfl rfl ?_
  refine geq rfl rfl rfl rfl ?_
  refine mvB rfl rfl rfl ?_
  refine rBoolD (d := 10) rfl (fun g1 => ?_) (fun g1 => ?_)
  · -- g1T
    refine mvI rfl rfl rfl ?_
    refine mvI rfl rfl rfl ?_
    refine leq rfl rfl rfl rfl ?_
    refine pickB rfl rfl rfl rfl ?_
    refine asB rfl rfl rfl ?_
    refine rNil ?_
    refine qSeq rfl ?_
    refine hRet ?_
    exact fun w hs => ⟨[.bool _], ⟨rfl, trivial⟩, ⟨by first | exact bD (by omega) | exact bF (by omega), hs.upd⟩⟩
  · -- g1F
    refine rSkipQ rfl rfl ?_
    refine rSkipQ rfl rfl ?_
    refine rSkipQ rfl rfl ?_
    refine pickB rfl rfl rfl rfl ?_
    refine asB rfl rfl rfl ?_
    refine rNil ?_
    refine qSeq rfl ?_
    refine hRet ?_
    exact fun w hs => ⟨[.bool _], ⟨rfl, trivial⟩, ⟨by first | exact bD (by omega) | exact bF (by omega), hs.upd⟩⟩

theorem spec_l01In_c (n lo hi : Int) (w : World) :
    Calls Try.prog 40 #[.int .i64 n, .int .i64 lo, .int .i64 hi] w (Ret fun v w' => v = .bool (decide (lo ≤ n ∧ n ≤ hi)) ∧ Ext w w') := by
  refine fn (M := none_) (rs := [.tmp 6]) Try.func40 rfl Try.ntmps40 rfl rfl (Sep.start _ _) ?_
  refine hSeq ?_
  refine hReg (sq 0 sz) (by kernel_rfl) ?_
  refine asB rfl rfl rfl ?_
  refine rNil ?_
  refine qSeq rfl ?_
  refine hSeq ?_
  refine hReg (sq 0 (sq 1 (sq 2 (sq 3 (sq 4 (sq 5 (sq 6 (sq 7 (sq 8 sz))))))))) (by kernel_rfl) ?_
  refine mvI rfl rfl rfl ?_
  refine mvI rfl rfl rfl ?_
  refine geq rfl rfl rfl rfl ?_
  refine mvB rfl rfl rfl ?_
  refine rBoolD (d := 10) rfl (fun g1 => ?_) (fun g1 => ?_)
  · -- g1T
    refine mvI rfl rfl rfl ?_
    refine mvI rfl rfl rfl ?_
    refine leq rfl rfl rfl rfl ?_
    refine pickB rfl rfl rfl rfl ?_
    refine asB rfl rfl rfl ?_
    refine rNil ?_
    refine qSeq rfl ?_
    refine hRet ?_
    exact fun w hs => ⟨[.bool _], ⟨rfl, trivial⟩, ⟨by first | exact bD (by omega) | exact bF (by omega), hs.upd⟩⟩
  · -- g1F
    refine rSkipQ rfl rfl ?_
    refine rSkipQ rfl rfl ?_
    refine rSkipQ rfl rfl ?_
    refine pickB rfl rfl rfl rfl ?_
    refine asB rfl rfl rfl ?_
    refine rNil ?_
    refine qSeq rfl ?_
    refine hRet ?_
    exact fun w hs => ⟨[.bool _], ⟨rfl, trivial⟩, ⟨by first | exact bD (by omega) | exact bF (by omega), hs.upd⟩⟩

theorem impl_absOf_c (n : Int) (w : World) (hn : -9223372036854775807 ≤ n ∧ n ≤ 9223372036854775807) :
    Calls Try.prog 68 #[.int .i64 n] w (Ret fun v w' => v = .int .i64 (n.natAbs : Int) ∧ Ext w w') := by
  refine fn (M := none_) (rs := [.tmp 2]) Try.func68 rfl Try.ntmps68 rfl rfl (Sep.start _ _) ?_
  refine hSeq ?_
  refine hReg (sq 0 sz) (by kernel_rfl) ?_
  refine asI rfl rfl rfl ?_
  refine rNil ?_
  refine qSeq rfl ?_
  refine hSeq ?_
  refine hSeq ?_
  refine hReg (sq 0 (sq 1 sz)) (by kernel_rfl) ?_
  refine mvI rfl rfl rfl ?_
  refine lss rfl rfl rfl rfl ?_
  refine rNil ?_
  refine qSeq rfl ?_
  refine hIfD rfl (fun c1 => ?_) (fun c1 => ?_)
  · -- c1T
    refine hSeq ?_
    refine hReg (sq 0 (sq 1 (sq 2 sz))) (by kernel_rfl) ?_
    refine mvI rfl rfl rfl ?_
    refine neg rfl rfl rfl (by omega) ?_
    refine asI rfl rfl rfl ?_
    refine rNil ?_
    refine qSeq rfl ?_
    refine hRet ?_
    exact fun w hs => ⟨[.int .i64 _], ⟨rfl, trivial⟩, ⟨vI (by omega), hs.upd⟩⟩
  · -- c1F
    refine hSkip ?_
    refine qSeq rfl ?_
    refine hSeq ?_
    refine hReg (sq 0 (sq 1 sz)) (by kernel_rfl) ?_
    refine mvI rfl rfl rfl ?_
    refine asI rfl rfl rfl ?_
    refine rNil ?_
    refine qSeq rfl ?_
    refine hRet ?_
    exact fun w hs => ⟨[.int .i64 _], ⟨rfl, trivial⟩, ⟨vI (by omega), hs.upd⟩⟩

theorem impl_divisorOf_c (a b : Int) (w : World) (ha : 0 ≤ a) (hb : 0 ≤ b) :
    Calls Try.prog 67 #[.int .i64 a, .int .i64 b] w (Ret fun v w' => v = .int .i64 (Math.gcdI a b) ∧ Ext w w') := by
  refine fn (M := none_) (rs := [.tmp 4]) Try.func67 rfl Try.ntmps67 rfl rfl (Sep.start _ _) ?_
  refine hSeq ?_
  refine hReg (sq 0 sz) (by kernel_rfl) ?_
  refine asI rfl rfl rfl ?_
  refine rNil ?_
  refine qSeq rfl ?_
  refine hSeq ?_
  refine hBlk ?_
  refine hLoop (α := Int × Int) (fun x => 0 ≤ x.1 ∧ 0 ≤ x.2 ∧ Math.gcdI x.1 x.2 = Math.gcdI a b) (fun x => x.2.toNat) (fun x => []) (fun x => [(0, .int .i64 x.1), (1, .int .i64 x.2)]) (a, b) ⟨ha, hb, rfl⟩ (fun _ h => h) ⟨rfl, rfl, trivial⟩ ?_
  rintro ⟨p, q⟩ τ1 ⟨hp, hq, hg⟩
  simp only at hp hq hg
  refine hSeq ?_
  refine hSeq ?_
  refine hReg (sq 0 (sq 1 sz)) (by kernel_rfl) ?_
  refine mvI rfl rfl rfl ?_
  refine gtr rfl rfl rfl rfl ?_
  refine rNil ?_
  refine qSeq rfl ?_
  refine hIfD rfl (fun c1 => ?_) (fun c1 => ?_)
  · -- c1T
    refine hSkip ?_
    refine qSeq rfl ?_
    refine hBlk ?_
    refine hDraw (by kernel_rfl) (sq 0 (sq 1 (sq 2 (sq 3 (sq 4 (sq 5 sz)))))) (by kernel_rfl) .slnil ?_
    refine mvI rfl rfl rfl ?_
    refine mvI rfl rfl rfl ?_
    refine mvI rfl rfl rfl ?_
    refine rem rfl rfl rfl rfl (by omega) ?_
    refine asI rfl rfl rfl ?_
    refine asI rfl rfl rfl ?_
    refine rNil ?_
    exact qNext rfl (q, p % q) (Math.mod_lt hp (by omega)) ⟨hq, Int.emod_nonneg _ (by omega), by rw [← hg]; exact Math.gcd_step hp (by omega)⟩ ⟨rfl, rfl, trivial⟩ (fun _ h => h)
  · -- c1F
    refine hExit rfl ?_
    refine qSeq rfl ?_
    refine hSeq ?_
    refine hReg (sq 0 (sq 1 sz)) (by kernel_rfl) ?_
    refine mvI rfl rfl rfl ?_
    refine asI rfl rfl rfl ?_
    refine rNil ?_
    refine qSeq rfl ?_
    refine hRet ?_
    exact fun w hs => ⟨[.int .i64 _], ⟨rfl, trivial⟩, ⟨vI (by rw [← hg]; exact Math.gcd_end hp (by omega)), hs.upd⟩⟩

theorem spec_l01Abs_c (n : Int) (w : World) (hn : -9223372036854775807 ≤ n ∧ n ≤ 9223372036854775807) :
    Calls Try.prog 70 #[.int .i64 n] w (Ret fun v w' => v = .int .i64 (n.natAbs : Int) ∧ Ext w w') := by
  refine fn (M := none_) (rs := [.tmp 2]) Try.func70 rfl Try.ntmps70 rfl rfl (Sep.start _ _) ?_
  refine hSeq ?_
  refine hReg (sq 0 sz) (by kernel_rfl) ?_
  refine asI rfl rfl rfl ?_
  refine rNil ?_
  refine qSeq rfl ?_
  refine hSeq ?_
  refine hReg (sq 0 (sq 1 (sq 2 (sq 3 (sq 4 sz))))) (by kernel_rfl) ?_
  refine mvI rfl rfl rfl ?_
  refine mvI rfl rfl rfl ?_
  refine neg rfl rfl rfl (by omega) ?_
  refine max2 rfl rfl rfl rfl ?_
  refine asI rfl rfl rfl ?_
  refine rNil ?_
  refine qSeq rfl ?_
  refine hRet ?_
  exact fun w hs => ⟨[.int .i64 _], ⟨rfl, trivial⟩, ⟨vI (by omega), hs.upd⟩⟩

theorem spec_l01Gcd_c_r (k : Nat) : ∀ (a : Int) (b : Int) (w : World), b.toNat = k → (0 ≤ a) → (0 ≤ b) → Calls Try.prog 69 #[.int .i64 a, .int .i64 b] w (Ret fun v w' => v = .int .i64 (Math.gcdI a b) ∧ Ext w w') := by
  induction k using Nat.strongRecOn with
  | _ k ih =>
    intro a b w hk ha hb
    refine fn (M := none_) (rs := [.tmp 4]) Try.func69 rfl Try.ntmps69 rfl rfl (Sep.start _ _) ?_
    refine hSeq ?_
    refine hReg (sq 0 sz) (by kernel_rfl) ?_
    refine asI rfl rfl rfl ?_
    refine rNil ?_
    refine qSeq rfl ?_
    refine hSeq ?_
    refine hSeq ?_
    refine hReg (sq 0 (sq 1 sz)) (by kernel_rfl) ?_
    refine mvI rfl rfl rfl ?_
    refine eql rfl rfl rfl rfl ?_
    refine rNil ?_
    refine qSeq rfl ?_
    refine hIfD rfl (fun c1 => ?_) (fun c1 => ?_)
    · -- c1T
      have hg := Math.gcd_end ha c1
      refine hSeq ?_
      refine hReg (sq 0 (sq 1 sz)) (by kernel_rfl) ?_
      refine mvI rfl rfl rfl ?_
      refine asI rfl rfl rfl ?_
      refine rNil ?_
      refine qSeq rfl ?_
      refine hRet ?_
      exact fun w hs => ⟨[.int .i64 _], ⟨rfl, trivial⟩, ⟨vI (by omega), hs.upd⟩⟩
    · -- c1F
      have hg := Math.gcd_step ha (show 0 < b by omega)
      refine hSkip ?_
      refine qSeq rfl ?_
      refine hSeq ?_
      refine hReg (sq 0 (sq 1 (sq 2 (sq 3 (sl 4 (sq 5 sz)))))) (by kernel_rfl) ?_
      refine mvI rfl rfl rfl ?_
      refine mvI rfl rfl rfl ?_
      refine mvI rfl rfl rfl ?_
      refine rem rfl rfl rfl rfl (by omega) ?_
      refine callP Try.call69 trv rfl rfl (fun w hs => ih _ (by have := Math.mod_lt ha (show 0 < b by omega); omega) _ _ w rfl hb (Int.emod_nonneg _ (by omega))) ?_
      refine asI rfl rfl rfl ?_
      refine rNil ?_
      refine qSeq rfl ?_
      refine hRet ?_
      exact fun w hs => ⟨[.int .i64 _], ⟨rfl, trivial⟩, ⟨vI (by omega), hs.upd⟩⟩

theorem spec_l01Gcd_c (a : Int) (b : Int) (w : World) (ha : 0 ≤ a) (hb : 0 ≤ b) :
    Calls Try.prog 69 #[.int .i64 a, .int .i64 b] w (Ret fun v w' => v = .int .i64 (Math.gcdI a b) ∧ Ext w w') := spec_l01Gcd_c_r _ a b w rfl ha hb

theorem impl_IsRatio_c (n d : Int) (w : World) :
    Calls Try.prog 61 #[.agg #[.int .i64 n, .int .i64 d]] w (Ret fun v w' => v = .bool (Math.isRatio n d) ∧ Ext w w') := by
  refine fn (M := none_) (rs := [.tmp 2]) Try.func61 rfl Try.ntmps61 rfl rfl (Sep.start _ _) ?_
  refine hSeq ?_
  refine hReg (sl 0 (sq 1 sz)) (by kernel_rfl) ?_
  refine box trv1 rfl rfl rfl rfl (fun bkb1 hbkb1 => ?_)
  refine asB rfl rfl rfl ?_
  refine rNil ?_
  refine qSeq rfl ?_
  refine hSeq ?_
  refine hDraw (by kernel_rfl) (sq 0 (sq 1 (sl 2 (sq 3 (sq 4 (sq 5 (sl 6 (sq 7 (sq 8 (sq 9 (sq 10 (sq 12 (sq 13 (sl 11 (sl 14 (sq 15 (sq 16 (sq 17 sz)))))))))))))))))) (by kernel_rfl) (.cons_cons _ .slnil) ?_
  refine fld fl26_0 rfl rfl rfl ?_
  refine ldq Try.isAgg2 (cB 0 rfl rfl) rfl rfl rfl ?_
  refine callP Try.call42 (fun _ h => h.sub (.cons_cons _ .slnil)) rfl rfl (fun w hs => impl_within_c _ _ _ w) ?_
  refine mvB rfl rfl rfl ?_
  refine rBoolD (d := 6) rfl (fun g1 => ?_) (fun g1 => ?_)
  · -- g1T
    refine fld fl26_1 rfl rfl rfl ?_
    refine ldq Try.isAgg2 (cB 0 rfl rfl) rfl rfl rfl ?_
    refine callP Try.call42 (fun _ h => h.sub (.cons_cons _ .slnil)) rfl rfl (fun w hs => impl_within_c _ _ _ w) ?_
    refine pickB rfl rfl rfl rfl ?_
    refine mvB rfl rfl rfl ?_
    refine rBoolD (d := 11) rfl (fun g2 => ?_) (fun g2 => ?_)
    · -- g2T
      refine fld fl26_0 rfl rfl rfl ?_
      refine ldq Try.isAgg2 (cB 0 rfl rfl) rfl rfl rfl ?_
      refine fld fl26_1 rfl rfl rfl ?_
      refine ldq Try.isAgg2 (cB 0 rfl rfl) rfl rfl rfl ?_
      refine callP Try.call68 (fun _ h => h.sub (.cons_cons _ .slnil)) rfl rfl (fun w hs => impl_absOf_c _ w (by omega)) ?_
      refine callP Try.call67 (fun _ h => h.sub (.cons_cons _ .slnil)) rfl rfl (fun w hs => impl_divisorOf_c _ _ w (by omega) (by omega)) ?_
      refine eql rfl rfl rfl rfl ?_
      refine pickB rfl rfl rfl rfl ?_
      refine asB rfl rfl rfl ?_
      refine rNil ?_
      refine qSeq rfl ?_
      refine hRet ?_
      exact fun w hs => ⟨[.bool _], ⟨rfl, trivial⟩, ⟨bB (by simp [Math.isRatio, *]), hs.upd⟩⟩
    · -- g2F
      refine rSkipQ rfl rfl ?_
      refine rSkipQ rfl rfl ?_
      refine rSkipQ rfl rfl ?_
      refine rSkipQ rfl rfl ?_
      refine rSkipL (fun _ h => h.sub (.cons_cons _ .slnil)) rfl rfl ?_
      refine rSkipL (fun _ h => h.sub (.cons_cons _ .slnil)) rfl rfl ?_
      refine rSkipQ rfl rfl ?_
      refine pickB rfl rfl rfl rfl ?_
      refine asB rfl rfl rfl ?_
      refine rNil ?_
      refine qSeq rfl ?_
      refine hRet ?_
      exact fun w hs => ⟨[.bool _], ⟨rfl, trivial⟩, ⟨bB (by simp [Math.isRatio, *]), hs.upd⟩⟩
  · -- g1F
    refine rSkipQ rfl rfl ?_
    refine rSkipQ rfl rfl ?_
    refine rSkipL (fun _ h => h.sub (.cons_cons _ .slnil)) rfl rfl ?_
    refine pickB rfl rfl rfl rfl ?_
    refine mvB rfl rfl rfl ?_
    refine rSkipQ rfl rfl ?_
    refine rSkipQ rfl rfl ?_
    refine rSkipQ rfl rfl ?_
    refine rSkipQ rfl rfl ?_
    refine rSkipL (fun _ h => h.sub (.cons_cons _ .slnil)) rfl rfl ?_
    refine rSkipL (fun _ h => h.sub (.cons_cons _ .slnil)) rfl rfl ?_
    refine rSkipQ rfl rfl ?_
    refine pickB rfl rfl rfl rfl ?_
    refine asB rfl rfl rfl ?_
    refine rNil ?_
    refine qSeq rfl ?_
    refine hRet ?_
    exact fun w hs => ⟨[.bool _], ⟨rfl, trivial⟩, ⟨bB (by simp [Math.isRatio, *]), hs.upd⟩⟩

theorem spec_IsRatio_c (n d : Int) (w : World) :
    Calls Try.prog 64 #[.agg #[.int .i64 n, .int .i64 d]] w (Ret fun v w' => v = .bool (Math.isRatio n d) ∧ Ext w w') := by
  refine fn (M := none_) (rs := [.tmp 2]) Try.func64 rfl Try.ntmps64 rfl rfl (Sep.start _ _) ?_
  refine hSeq ?_
  refine hReg (sl 0 (sq 1 sz)) (by kernel_rfl) ?_
  refine box trv1 rfl rfl rfl rfl (fun bkb1 hbkb1 => ?_)
  refine asB rfl rfl rfl ?_
  refine rNil ?_
  refine qSeq rfl ?_
  refine hSeq ?_
  refine hDraw (by kernel_rfl) (sq 0 (sq 1 (sl 2 (sq 3 (sq 4 (sq 5 (sl 6 (sq 7 (sq 8 (sq 9 (sq 10 (sq 12 (sq 13 (sl 11 (sl 14 (sq 15 (sq 16 (sq 17 sz)))))))))))))))))) (by kernel_rfl) (.cons_cons _ .slnil) ?_
  refine fld fl26_0 rfl rfl rfl ?_
  refine ldq Try.isAgg2 (cB 0 rfl rfl) rfl rfl rfl ?_
  refine callP Try.call40 (fun _ h => h.sub (.cons_cons _ .slnil)) rfl rfl (fun w hs => spec_l01In_c _ _ _ w) ?_
  refine mvB rfl rfl rfl ?_
  refine rBoolD (d := 6) rfl (fun g1 => ?_) (fun g1 => ?_)
  · -- g1T
    refine fld fl26_1 rfl rfl rfl ?_
    refine ldq Try.isAgg2 (cB 0 rfl rfl) rfl rfl rfl ?_
    refine callP Try.call40 (fun _ h => h.sub (.cons_cons _ .slnil)) rfl rfl (fun w hs => spec_l01In_c _ _ _ w) ?_
    refine pickB rfl rfl rfl rfl ?_
    refine mvB rfl rfl rfl ?_
    refine rBoolD (d := 11) rfl (fun g2 => ?_) (fun g2 => ?_)
    · -- g2T
      refine fld fl26_0 rfl rfl rfl ?_
      refine ldq Try.isAgg2 (cB 0 rfl rfl) rfl rfl rfl ?_
      refine fld fl26_1 rfl rfl rfl ?_
      refine ldq Try.isAgg2 (cB 0 rfl rfl) rfl rfl rfl ?_
      refine callP Try.call70 (fun _ h => h.sub (.cons_cons _ .slnil)) rfl rfl (fun w hs => spec_l01Abs_c _ w (by omega)) ?_
      refine callP Try.call69 (fun _ h => h.sub (.cons_cons _ .slnil)) rfl rfl (fun w hs => spec_l01Gcd_c _ _ w (by omega) (by omega)) ?_
      refine eql rfl rfl rfl rfl ?_
      refine pickB rfl rfl rfl rfl ?_
      refine asB rfl rfl rfl ?_
      refine rNil ?_
      refine qSeq rfl ?_
      refine hRet ?_
      exact fun w hs => ⟨[.bool _], ⟨rfl, trivial⟩, ⟨bB (by simp [Math.isRatio, *]), hs.upd⟩⟩
    · -- g2F
      refine rSkipQ rfl rfl ?_
      refine rSkipQ rfl rfl ?_
      refine rSkipQ rfl rfl ?_
      refine rSkipQ rfl rfl ?_
      refine rSkipL (fun _ h => h.sub (.cons_cons _ .slnil)) rfl rfl ?_
      refine rSkipL (fun _ h => h.sub (.cons_cons _ .slnil)) rfl rfl ?_
      refine rSkipQ rfl rfl ?_
      refine pickB rfl rfl rfl rfl ?_
      refine asB rfl rfl rfl ?_
      refine rNil ?_
      refine qSeq rfl ?_
      refine hRet ?_
      exact fun w hs => ⟨[.bool _], ⟨rfl, trivial⟩, ⟨bB (by simp [Math.isRatio, *]), hs.upd⟩⟩
  · -- g1F
    refine rSkipQ rfl rfl ?_
    refine rSkipQ rfl rfl ?_
    refine rSkipL (fun _ h => h.sub (.cons_cons _ .slnil)) rfl rfl ?_
    refine pickB rfl rfl rfl rfl ?_
    refine mvB rfl rfl rfl ?_
    refine rSkipQ rfl rfl ?_
    refine rSkipQ rfl rfl ?_
    refine rSkipQ rfl rfl ?_
    refine rSkipQ rfl rfl ?_
    refine rSkipL (fun _ h => h.sub (.cons_cons _ .slnil)) rfl rfl ?_
    refine rSkipL (fun _ h => h.sub (.cons_cons _ .slnil)) rfl rfl ?_
    refine rSkipQ rfl rfl ?_
    refine pickB rfl rfl rfl rfl ?_
    refine asB rfl rfl rfl ?_
    refine rNil ?_
    refine qSeq rfl ?_
    refine hRet ?_
    exact fun w hs => ⟨[.bool _], ⟨rfl, trivial⟩, ⟨bB (by simp [Math.isRatio, *]), hs.upd⟩⟩

theorem impl_reduced_c (num den : Int) (w : World) (hn : -9223372036854775807 ≤ num ∧ num ≤ 9223372036854775807) (hd : 1 ≤ den) (hd2 : den ≤ 9223372036854775807) :
    Calls Try.prog 62 #[.int .i64 num, .int .i64 den] w (Ret fun v w' => v = resR (Math.reduced num den) ∧ Ext w w') := by
  refine fn (M := none_) (rs := [.cell 4 26, .tmp 5]) Try.func62 rfl Try.ntmps62 rfl rfl (Sep.start _ _) ?_
  refine hSeq ?_
  refine hReg (sl 0 (sq 1 sz)) (by kernel_rfl) ?_
  refine alc Try.zeroValue26 rfl trv1 rfl rfl (fun bka1 hbka1 => ?_)
  refine asI rfl rfl rfl ?_
  refine rNil ?_
  refine qSeq rfl ?_
  refine hSeq ?_
  refine hReg (sq 0 (sl 1 (sq 2 (sl 3 (sq 4 sz))))) (by kernel_rfl) ?_
  refine mvI rfl rfl rfl ?_
  refine callP Try.call68 trv rfl rfl (fun w hs => impl_absOf_c _ w (by omega)) ?_
  refine mvI rfl rfl rfl ?_
  refine callP Try.call67 trv rfl rfl (fun w hs => impl_divisorOf_c _ _ w (by omega) (by omega)) ?_
  refine asI rfl rfl rfl ?_
  refine rNil ?_
  refine qSeq rfl ?_
  refine hSeq ?_
  refine hDraw (by kernel_rfl) (sq 0 (sq 1 (sq 2 (sq 3 (sq 4 (sq 5 (sq 6 (sl 7 (sf 8 sz))))))))) (by kernel_rfl) (.cons _ .slnil) ?_
  refine mvI rfl rfl rfl ?_
  refine mvI rfl rfl rfl ?_
  refine quoT rfl rfl rfl rfl (by have := Math.gcdI_pos num.natAbs hd; omega) ?_
  refine mvI rfl rfl rfl ?_
  refine mvI rfl rfl rfl ?_
  refine quo rfl rfl rfl rfl (by have := Math.gcdI_pos num.natAbs hd; omega) ?_
  refine bld rfl rfl rfl (bld26_0_1 (.int .i64 _) (.int .i64 _) rfl rfl) ?_
  refine alc Try.zeroValue26 rfl (fun _ _ h => h.sub (.cons _ (.cons _ .slnil))) rfl rfl (fun bka2 hbka2 => ?_)
  refine stAf 0 rfl Try.sizeOf26 rfl rfl rfl rfl rfl (by simp [Value.oneCell']) rfl ?_
  refine rNil ?_
  refine qSeq rfl ?_
  refine hSeq ?_
  refine hSeq ?_
  refine hReg (sl 0 (sl 1 (sq 2 sz))) (by kernel_rfl) ?_
  refine ldAl Try.isAgg26 Try.sizeOf26 (cBs 0 rfl) trv rfl rfl rfl rfl ?_
  refine callP Try.call61 trv rfl rfl (fun w hs => impl_IsRatio_c _ _ w) ?_
  refine not rfl rfl rfl ?_
  refine rNil ?_
  refine qSeq rfl ?_
  refine hIfN rfl (fun c1 => ?_) (fun c1 => ?_)
  · -- c1T
    refine hSeq ?_
    refine hReg (sq 0 (sl 1 (sq 2 sz))) (by kernel_rfl) ?_
    refine bld rfl rfl rfl (bld26) ?_
    refine stAl 1 rfl Try.sizeOf26 trv rfl rfl rfl rfl rfl (by simp [Value.oneCell']) rfl ?_
    refine asI rfl rfl rfl ?_
    refine rNil ?_
    refine qSeq rfl ?_
    refine hRet ?_
    exact fun w hs => ⟨[_, .int .i64 _], ⟨⟨_, rfl, run_load_agg Try.isAgg26 Try.sizeOf26 rfl (cBs 1 rfl w hs)⟩, ⟨rfl, trivial⟩⟩, ⟨by simp [Math.reduced, resR, one, *], hs.upd⟩⟩
  · -- c1F
    refine hSkip ?_
    refine qSeq rfl ?_
    refine hSeq ?_
    refine hReg (sl 0 (sl 1 (sq 2 sz))) (by kernel_rfl) ?_
    refine ldAl Try.isAgg26 Try.sizeOf26 (cBs 0 rfl) trv rfl rfl rfl rfl ?_
    refine stAl 1 rfl Try.sizeOf26 trv rfl rfl rfl rfl rfl (by simp [Value.oneCell']) rfl ?_
    refine asI rfl rfl rfl ?_
    refine rNil ?_
    refine qSeq rfl ?_
    refine hRet ?_
    exact fun w hs => ⟨[_, .int .i64 _], ⟨⟨_, rfl, run_load_agg Try.isAgg26 Try.sizeOf26 rfl (cBs 1 rfl w hs)⟩, ⟨rfl, trivial⟩⟩, ⟨by simp [Math.reduced, resR, one, *], hs.upd⟩⟩

theorem spec_l01Ratio_c (num den : Int) (w : World) (hn : -9223372036854775807 ≤ num ∧ num ≤ 9223372036854775807) (hd : 1 ≤ den) (hd2 : den ≤ 9223372036854775807) :
    Calls Try.prog 63 #[.int .i64 num, .int .i64 den] w (Ret fun v w' => v = resR (Math.reduced num den) ∧ Ext w w') := by
  refine fn (M := none_) (rs := [.cell 4 26, .tmp 5]) Try.func63 rfl Try.ntmps63 rfl rfl (Sep.start _ _) ?_
  refine hSeq ?_
  refine hReg (sl 0 (sq 1 sz)) (by kernel_rfl) ?_
  refine alc Try.zeroValue26 rfl trv1 rfl rfl (fun bka1 hbka1 => ?_)
  refine asI rfl rfl rfl ?_
  refine rNil ?_
  refine qSeq rfl ?_
  refine hSeq ?_
  refine hReg (sq 0 (sl 1 (sq 2 (sl 3 (sq 4 sz))))) (by kernel_rfl) ?_
  refine mvI rfl rfl rfl ?_
  refine callP Try.call70 trv rfl rfl (fun w hs => spec_l01Abs_c _ w (by omega)) ?_
  refine mvI rfl rfl rfl ?_
  refine callP Try.call69 trv rfl rfl (fun w hs => spec_l01Gcd_c _ _ w (by omega) (by omega)) ?_
  refine asI rfl rfl rfl ?_
  refine rNil ?_
  refine qSeq rfl ?_
  refine hSeq ?_
  refine hDraw (by kernel_rfl) (sq 0 (sq 1 (sq 2 (sq 3 (sq 4 (sq 5 (sq 6 (sl 7 (sf 8 sz))))))))) (by kernel_rfl) (.cons _ .slnil) ?_
  refine mvI rfl rfl rfl ?_
  refine mvI rfl rfl rfl ?_
  refine quoT rfl rfl rfl rfl (by have := Math.gcdI_pos num.natAbs hd; omega) ?_
  refine mvI rfl rfl rfl ?_
  refine mvI rfl rfl rfl ?_
  refine quo rfl rfl rfl rfl (by have := Math.gcdI_pos num.natAbs hd; omega) ?_
  refine bld rfl rfl rfl (bld26_0_1 (.int .i64 _) (.int .i64 _) rfl rfl) ?_
  refine alc Try.zeroValue26 rfl (fun _ _ h => h.sub (.cons _ (.cons _ .slnil))) rfl rfl (fun bka2 hbka2 => ?_)
  refine stAf 0 rfl Try.sizeOf26 rfl rfl rfl rfl rfl (by simp [Value.oneCell']) rfl ?_
  refine rNil ?_
  refine qSeq rfl ?_
  refine hSeq ?_
  refine hSeq ?_
  refine hReg (sl 0 (sl 1 (sq 2 sz))) (by kernel_rfl) ?_
  refine ldAl Try.isAgg26 Try.sizeOf26 (cBs 0 rfl) trv rfl rfl rfl rfl ?_
  refine callP Try.call64 trv rfl rfl (fun w hs => spec_IsRatio_c _ _ w) ?_
  refine not rfl rfl rfl ?_
  refine rNil ?_
  refine qSeq rfl ?_
  refine hIfN rfl (fun c1 => ?_) (fun c1 => ?_)
  · -- c1T
    refine hSeq ?_
    refine hReg (sq 0 (sl 1 (sq 2 sz))) (by kernel_rfl) ?_
    refine bld rfl rfl rfl (bld26) ?_
    refine stAl 1 rfl Try.sizeOf26 trv rfl rfl rfl rfl rfl (by simp [Value.oneCell']) rfl ?_
    refine asI rfl rfl rfl ?_
    refine rNil ?_
    refine qSeq rfl ?_
    refine hRet ?_
    exact fun w hs => ⟨[_, .int .i64 _], ⟨⟨_, rfl, run_load_agg Try.isAgg26 Try.sizeOf26 rfl (cBs 1 rfl w hs)⟩, ⟨rfl, trivial⟩⟩, ⟨by simp [Math.reduced, resR, one, *], hs.upd⟩⟩
  · -- c1F
    refine hSkip ?_
    refine qSeq rfl ?_
    refine hSeq ?_
    refine hReg (sl 0 (sl 1 (sq 2 sz))) (by kernel_rfl) ?_
    refine ldAl Try.isAgg26 Try.sizeOf26 (cBs 0 rfl) trv rfl rfl rfl rfl ?_
    refine stAl 1 rfl Try.sizeOf26 trv rfl rfl rfl rfl rfl (by simp [Value.oneCell']) rfl ?_
    refine asI rfl rfl rfl ?_
    refine rNil ?_
    refine qSeq rfl ?_
    refine hRet ?_
    exact fun w hs => ⟨[_, .int .i64 _], ⟨⟨_, rfl, run_load_agg Try.isAgg26 Try.sizeOf26 rfl (cBs 1 rfl w hs)⟩, ⟨rfl, trivial⟩⟩, ⟨by simp [Math.reduced, resR, one, *], hs.upd⟩⟩

theorem impl_AddRatios_c (a b c d : Int) (w : World) :
    Calls Try.prog 36 #[.agg #[.int .i64 a, .int .i64 b], .agg #[.int .i64 c, .int .i64 d]] w (Ret fun v w' => v = resR (Math.addR (a, b) (c, d)) ∧ Ext w w') := by
  refine fn (M := none_) (rs := [.cell 4 26, .tmp 5]) Try.func36 rfl Try.ntmps36 rfl rfl (Sep.start _ _) ?_
  refine hSeq ?_
  refine hReg (sl 0 (sl 1 (sl 2 (sq 3 sz)))) (by kernel_rfl) ?_
  refine box trv1 rfl rfl rfl rfl (fun bkb1 hbkb1 => ?_)
  refine box trv1 rfl rfl rfl rfl (fun bkb2 hbkb2 => ?_)
  refine alc Try.zeroValue26 rfl trv1 rfl rfl (fun bka3 hbka3 => ?_)
  refine asI rfl rfl rfl ?_
  refine rNil ?_
  refine qSeq rfl ?_
  refine hSeq ?_
  refine hSeq ?_
  refine hReg (sl 0 (sl 1 (sq 2 (sq 3 (sl 4 (sl 5 (sq 6 (sq 7 sz)))))))) (by kernel_rfl) ?_
  refine ldAl Try.isAgg26 Try.sizeOf26 (cBs 2 rfl) trv rfl rfl rfl rfl ?_
  refine callP Try.call61 trv rfl rfl (fun w hs => impl_IsRatio_c _ _ w) ?_
  refine not rfl rfl rfl ?_
  refine mvB rfl rfl rfl ?_
  refine rBoolN (d := 9) rfl (fun g1 => ?_) (fun g1 => ?_)
  · -- g1T
    refine rSkipL trv rfl rfl ?_
    refine rSkipL trv rfl rfl ?_
    refine rSkipQ rfl rfl ?_
    refine pickB rfl rfl rfl rfl ?_
    refine rNil ?_
    refine qSeq rfl ?_
    refine hIfT rfl ?_
    refine hSeq ?_
    refine hReg (sq 0 (sl 1 (sq 2 sz))) (by kernel_rfl) ?_
    refine bld rfl rfl rfl (bld26) ?_
    refine stAl 0 rfl Try.sizeOf26 trv rfl rfl rfl rfl rfl (by simp [Value.oneCell']) rfl ?_
    refine asI rfl rfl rfl ?_
    refine rNil ?_
    refine qSeq rfl ?_
    refine hRet ?_
    exact fun w hs => ⟨[_, .int .i64 _], ⟨⟨_, rfl, run_load_agg Try.isAgg26 Try.sizeOf26 rfl (cBs 0 rfl w hs)⟩, ⟨rfl, trivial⟩⟩, ⟨by first | exact congrArg resR (Math.opR_no (f := Math.reduced) (a := (a, b)) (b := (c, d)) (.inl g1)).symm | exact congrArg resR (Math.opR_no (f := Math.reduced) (a := (a, b)) (b := (c, d)) (.inr c2)).symm | exact congrArg resR (if_pos (c := Math.isRatio a b = true ∧ Math.isRatio c d = true) ⟨g1, c2⟩).symm, hs.upd⟩⟩
  · -- g1F
    refine ldAl Try.isAgg26 Try.sizeOf26 (cBs 1 rfl) trv rfl rfl rfl rfl ?_
    refine callP Try.call61 trv rfl rfl (fun w hs => impl_IsRatio_c _ _ w) ?_
    refine not rfl rfl rfl ?_
    refine pickB rfl rfl rfl rfl ?_
    refine rNil ?_
    refine qSeq rfl ?_
    refine hIfN rfl (fun c2 => ?_) (fun c2 => ?_)
    · -- c2T
      refine hSeq ?_
      refine hReg (sq 0 (sl 1 (sq 2 sz))) (by kernel_rfl) ?_
      refine bld rfl rfl rfl (bld26) ?_
      refine stAl 0 rfl Try.sizeOf26 trv rfl rfl rfl rfl rfl (by simp [Value.oneCell']) rfl ?_
      refine asI rfl rfl rfl ?_
      refine rNil ?_
      refine qSeq rfl ?_
      refine hRet ?_
      exact fun w hs => ⟨[_, .int .i64 _], ⟨⟨_, rfl, run_load_agg Try.isAgg26 Try.sizeOf26 rfl (cBs 0 rfl w hs)⟩, ⟨rfl, trivial⟩⟩, ⟨by first | exact congrArg resR (Math.opR_no (f := Math.reduced) (a := (a, b)) (b := (c, d)) (.inl g1)).symm | exact congrArg resR (Math.opR_no (f := Math.reduced) (a := (a, b)) (b := (c, d)) (.inr c2)).symm | exact congrArg resR (if_pos (c := Math.isRatio a b = true ∧ Math.isRatio c d = true) ⟨g1, c2⟩).symm, hs.upd⟩⟩
    · -- c2F
      have ha := Math.isRatio_bd g1; have hb := Math.isRatio_bd c2; have p1 := Math.prod_bd (x := a) (y := d) (by omega) (by omega); have p2 := Math.prod_bd (x := c) (y := b) (by omega) (by omega); have p3 := Math.prod_bd (x := b) (y := d) (by omega) (by omega); have p4 := Math.prod_pos (x := b) (y := d) (by omega) (by omega); have p5 := Math.prod_bd (x := a) (y := c) (by omega) (by omega)
      refine hSkip ?_
      refine qSeq rfl ?_
      refine hSeq ?_
      refine hReg (sq 0 (sl 1 (sq 2 (sl 3 (sq 4 (sq 5 (sl 6 (sq 7 (sl 8 (sq 9 (sq 10 (sq 11 (sl 12 (sq 13 (sl 14 (sq 15 (sl 16 (sq 17 (sq 18 (sl 19 (sq 20 sz))))))))))))))))))))) (by kernel_rfl) ?_
      refine fld fl26_0 rfl rfl rfl ?_
      refine ldl Try.isAgg2 (cB 2 rfl rfl) trv rfl rfl rfl ?_
      refine fld fl26_1 rfl rfl rfl ?_
      refine ldl Try.isAgg2 (cB 1 rfl rfl) trv rfl rfl rfl ?_
      refine mul rfl rfl rfl rfl (by omega) ?_
      refine fld fl26_0 rfl rfl rfl ?_
      refine ldl Try.isAgg2 (cB 1 rfl rfl) trv rfl rfl rfl ?_
      refine fld fl26_1 rfl rfl rfl ?_
      refine ldl Try.isAgg2 (cB 2 rfl rfl) trv rfl rfl rfl ?_
      refine mul rfl rfl rfl rfl (by omega) ?_
      refine add rfl rfl rfl rfl (by omega) ?_
      refine fld fl26_1 rfl rfl rfl ?_
      refine ldl Try.isAgg2 (cB 2 rfl rfl) trv rfl rfl rfl ?_
      refine fld fl26_1 rfl rfl rfl ?_
      refine ldl Try.isAgg2 (cB 1 rfl rfl) trv rfl rfl rfl ?_
      refine mul rfl rfl rfl rfl (by omega) ?_
      refine callP Try.call62 trv rfl rfl (fun w hs => impl_reduced_c _ _ w (by omega) (by omega) (by omega)) ?_
      refine ext rfl rfl rfl rfl ?_
      refine ext rfl rfl rfl rfl ?_
      refine stAl 0 rfl Try.sizeOf26 trv rfl rfl rfl rfl rfl (by simp [Value.oneCell']) rfl ?_
      refine asI rfl rfl rfl ?_
      refine rNil ?_
      refine qSeq rfl ?_
      refine hRet ?_
      exact fun w hs => ⟨[_, .int .i64 _], ⟨⟨_, rfl, run_load_agg Try.isAgg26 Try.sizeOf26 rfl (cBs 0 rfl w hs)⟩, ⟨rfl, trivial⟩⟩, ⟨by first | exact congrArg resR (Math.opR_no (f := Math.reduced) (a := (a, b)) (b := (c, d)) (.inl g1)).symm | exact congrArg resR (Math.opR_no (f := Math.reduced) (a := (a, b)) (b := (c, d)) (.inr c2)).symm | exact congrArg resR (if_pos (c := Math.isRatio a b = true ∧ Math.isRatio c d = true) ⟨g1, c2⟩).symm, hs.upd⟩⟩

theorem impl_SubtractRatios_c (a b c d : Int) (w : World) :
    Calls Try.prog 58 #[.agg #[.int .i64 a, .int .i64 b], .agg #[.int .i64 c, .int .i64 d]] w (Ret fun v w' => v = resR (Math.subR (a, b) (c, d)) ∧ Ext w w') := by
  refine fn (M := none_) (rs := [.cell 4 26, .tmp 5]) Try.func58 rfl Try.ntmps58 rfl rfl (Sep.start _ _) ?_
  refine hSeq ?_
  refine hReg (sl 0 (sl 1 (sl 2 (sq 3 sz)))) (by kernel_rfl) ?_
  refine box trv1 rfl rfl rfl rfl (fun bkb1 hbkb1 => ?_)
  refine box trv1 rfl rfl rfl rfl (fun bkb2 hbkb2 => ?_)
  refine alc Try.zeroValue26 rfl trv1 rfl rfl (fun bka3 hbka3 => ?_)
  refine asI rfl rfl rfl ?_
  refine rNil ?_
  refine qSeq rfl ?_
  refine hSeq ?_
  refine hSeq ?_
  refine hReg (sl 0 (sl 1 (sq 2 (sq 3 (sl 4 (sl 5 (sq 6 (sq 7 sz)))))))) (by kernel_rfl) ?_
  refine ldAl Try.isAgg26 Try.sizeOf26 (cBs 2 rfl) trv rfl rfl rfl rfl ?_
  refine callP Try.call61 trv rfl rfl (fun w hs => impl_IsRatio_c _ _ w) ?_
  refine not rfl rfl rfl ?_
  refine mvB rfl rfl rfl ?_
  refine rBoolN (d := 9) rfl (fun g1 => ?_) (fun g1 => ?_)
  · -- g1T
    refine rSkipL trv rfl rfl ?_
    refine rSkipL trv rfl rfl ?_
    refine rSkipQ rfl rfl ?_
    refine pickB rfl rfl rfl rfl ?_
    refine rNil ?_
    refine qSeq rfl ?_
    refine hIfT rfl ?_
    refine hSeq ?_
    refine hReg (sq 0 (sl 1 (sq 2 sz))) (by kernel_rfl) ?_
    refine bld rfl rfl rfl (bld26) ?_
    refine stAl 0 rfl Try.sizeOf26 trv rfl rfl rfl rfl rfl (by simp [Value.oneCell']) rfl ?_
    refine asI rfl rfl rfl ?_
    refine rNil ?_
    refine qSeq rfl ?_
    refine hRet ?_
    exact fun w hs => ⟨[_, .int .i64 _], ⟨⟨_, rfl, run_load_agg Try.isAgg26 Try.sizeOf26 rfl (cBs 0 rfl w hs)⟩, ⟨rfl, trivial⟩⟩, ⟨by first | exact congrArg resR (Math.opR_no (f := Math.reduced) (a := (a, b)) (b := (c, d)) (.inl g1)).symm | exact congrArg resR (Math.opR_no (f := Math.reduced) (a := (a, b)) (b := (c, d)) (.inr c2)).symm | exact congrArg resR (if_pos (c := Math.isRatio a b = true ∧ Math.isRatio c d = true) ⟨g1, c2⟩).symm, hs.upd⟩⟩
  · -- g1F
    refine ldAl Try.isAgg26 Try.sizeOf26 (cBs 1 rfl) trv rfl rfl rfl rfl ?_
    refine callP Try.call61 trv rfl rfl (fun w hs => impl_IsRatio_c _ _ w) ?_
    refine not rfl rfl rfl ?_
    refine pickB rfl rfl rfl rfl ?_
    refine rNil ?_
    refine qSeq rfl ?_
    refine hIfN rfl (fun c2 => ?_) (fun c2 => ?_)
    · -- c2T
      refine hSeq ?_
      refine hReg (sq 0 (sl 1 (sq 2 sz))) (by kernel_rfl) ?_
      refine bld rfl rfl rfl (bld26) ?_
      refine stAl 0 rfl Try.sizeOf26 trv rfl rfl rfl rfl rfl (by simp [Value.oneCell']) rfl ?_
      refine asI rfl rfl rfl ?_
      refine rNil ?_
      refine qSeq rfl ?_
      refine hRet ?_
      exact fun w hs => ⟨[_, .int .i64 _], ⟨⟨_, rfl, run_load_agg Try.isAgg26 Try.sizeOf26 rfl (cBs 0 rfl w hs)⟩, ⟨rfl, trivial⟩⟩, ⟨by first | exact congrArg resR (Math.opR_no (f := Math.reduced) (a := (a, b)) (b := (c, d)) (.inl g1)).symm | exact congrArg resR (Math.opR_no (f := Math.reduced) (a := (a, b)) (b := (c, d)) (.inr c2)).symm | exact congrArg resR (if_pos (c := Math.isRatio a b = true ∧ Math.isRatio c d = true) ⟨g1, c2⟩).symm, hs.upd⟩⟩
    · -- c2F
      have ha := Math.isRatio_bd g1; have hb := Math.isRatio_bd c2; have p1 := Math.prod_bd (x := a) (y := d) (by omega) (by omega); have p2 := Math.prod_bd (x := c) (y := b) (by omega) (by omega); have p3 := Math.prod_bd (x := b) (y := d) (by omega) (by omega); have p4 := Math.prod_pos (x := b) (y := d) (by omega) (by omega); have p5 := Math.prod_bd (x := a) (y := c) (by omega) (by omega)
      refine hSkip ?_
      refine qSeq rfl ?_
      refine hSeq ?_
      refine hReg (sq 0 (sl 1 (sq 2 (sl 3 (sq 4 (sq 5 (sl 6 (sq 7 (sl 8 (sq 9 (sq 10 (sq 11 (sl 12 (sq 13 (sl 14 (sq 15 (sl 16 (sq 17 (sq 18 (sl 19 (sq 20 sz))))))))))))))))))))) (by kernel_rfl) ?_
      refine fld fl26_0 rfl rfl rfl ?_
      refine ldl Try.isAgg2 (cB 2 rfl rfl) trv rfl rfl rfl ?_
      refine fld fl26_1 rfl rfl rfl ?_
      refine ldl Try.isAgg2 (cB 1 rfl rfl) trv rfl rfl rfl ?_
      refine mul rfl rfl rfl rfl (by omega) ?_
      refine fld fl26_0 rfl rfl rfl ?_
      refine ldl Try.isAgg2 (cB 1 rfl rfl) trv rfl rfl rfl ?_
      refine fld fl26_1 rfl rfl rfl ?_
      refine ldl Try.isAgg2 (cB 2 rfl rfl) trv rfl rfl rfl ?_
      refine mul rfl rfl rfl rfl (by omega) ?_
      refine sub rfl rfl rfl rfl (by omega) ?_
      refine fld fl26_1 rfl rfl rfl ?_
      refine ldl Try.isAgg2 (cB 2 rfl rfl) trv rfl rfl rfl ?_
      refine fld fl26_1 rfl rfl rfl ?_
      refine ldl Try.isAgg2 (cB 1 rfl rfl) trv rfl rfl rfl ?_
      refine mul rfl rfl rfl rfl (by omega) ?_
      refine callP Try.call62 trv rfl rfl (fun w hs => impl_reduced_c _ _ w (by omega) (by omega) (by omega)) ?_
      refine ext rfl rfl rfl rfl ?_
      refine ext rfl rfl rfl rfl ?_
      refine stAl 0 rfl Try.sizeOf26 trv rfl rfl rfl rfl rfl (by simp [Value.oneCell']) rfl ?_
      refine asI rfl rfl rfl ?_
      refine rNil ?_
      refine qSeq rfl ?_
      refine hRet ?_
      exact fun w hs => ⟨[_, .int .i64 _], ⟨⟨_, rfl, run_load_agg Try.isAgg26 Try.sizeOf26 rfl (cBs 0 rfl w hs)⟩, ⟨rfl, trivial⟩⟩, ⟨by first | exact congrArg resR (Math.opR_no (f := Math.reduced) (a := (a, b)) (b := (c, d)) (.inl g1)).symm | exact congrArg resR (Math.opR_no (f := Math.reduced) (a := (a, b)) (b := (c, d)) (.inr c2)).symm | exact congrArg resR (if_pos (c := Math.isRatio a b = true ∧ Math.isRatio c d = true) ⟨g1, c2⟩).symm, hs.upd⟩⟩

theorem impl_MultiplyRatios_c (a b c d : Int) (w : World) :
    Calls Try.prog 57 #[.agg #[.int .i64 a, .int .i64 b], .agg #[.int .i64 c, .int .i64 d]] w (Ret fun v w' => v = resR (Math.mulR (a, b) (c, d)) ∧ Ext w w') := by
  refine fn (M := none_) (rs := [.cell 4 26, .tmp 5]) Try.func57 rfl Try.ntmps57 rfl rfl (Sep.start _ _) ?_
  refine hSeq ?_
  refine hReg (sl 0 (sl 1 (sl 2 (sq 3 sz)))) (by kernel_rfl) ?_
  refine box trv1 rfl rfl rfl rfl (fun bkb1 hbkb1 => ?_)
  refine box trv1 rfl rfl rfl rfl (fun bkb2 hbkb2 => ?_)
  refine alc Try.zeroValue26 rfl trv1 rfl rfl (fun bka3 hbka3 => ?_)
  refine asI rfl rfl rfl ?_
  refine rNil ?_
  refine qSeq rfl ?_
  refine hSeq ?_
  refine hSeq ?_
  refine hReg (sl 0 (sl 1 (sq 2 (sq 3 (sl 4 (sl 5 (sq 6 (sq 7 sz)))))))) (by kernel_rfl) ?_
  refine ldAl Try.isAgg26 Try.sizeOf26 (cBs 2 rfl) trv rfl rfl rfl rfl ?_
  refine callP Try.call61 trv rfl rfl (fun w hs => impl_IsRatio_c _ _ w) ?_
  refine not rfl rfl rfl ?_
  refine mvB rfl rfl rfl ?_
  refine rBoolN (d := 9) rfl (fun g1 => ?_) (fun g1 => ?_)
  · -- g1T
    refine rSkipL trv rfl rfl ?_
    refine rSkipL trv rfl rfl ?_
    refine rSkipQ rfl rfl ?_
    refine pickB rfl rfl rfl rfl ?_
    refine rNil ?_
    refine qSeq rfl ?_
    refine hIfT rfl ?_
    refine hSeq ?_
    refine hReg (sq 0 (sl 1 (sq 2 sz))) (by kernel_rfl) ?_
    refine bld rfl rfl rfl (bld26) ?_
    refine stAl 0 rfl Try.sizeOf26 trv rfl rfl rfl rfl rfl (by simp [Value.oneCell']) rfl ?_
    refine asI rfl rfl rfl ?_
    refine rNil ?_
    refine qSeq rfl ?_
    refine hRet ?_
    exact fun w hs => ⟨[_, .int .i64 _], ⟨⟨_, rfl, run_load_agg Try.isAgg26 Try.sizeOf26 rfl (cBs 0 rfl w hs)⟩, ⟨rfl, trivial⟩⟩, ⟨by first | exact congrArg resR (Math.opR_no (f := Math.reduced) (a := (a, b)) (b := (c, d)) (.inl g1)).symm | exact congrArg resR (Math.opR_no (f := Math.reduced) (a := (a, b)) (b := (c, d)) (.inr c2)).symm | exact congrArg resR (if_pos (c := Math.isRatio a b = true ∧ Math.isRatio c d = true) ⟨g1, c2⟩).symm, hs.upd⟩⟩
  · -- g1F
    refine ldAl Try.isAgg26 Try.sizeOf26 (cBs 1 rfl) trv rfl rfl rfl rfl ?_
    refine callP Try.call61 trv rfl rfl (fun w hs => impl_IsRatio_c _ _ w) ?_
    refine not rfl rfl rfl ?_
    refine pickB rfl rfl rfl rfl ?_
    refine rNil ?_
    refine qSeq rfl ?_
    refine hIfN rfl (fun c2 => ?_) (fun c2 => ?_)
    · -- c2T
      refine hSeq ?_
      refine hReg (sq 0 (sl 1 (sq 2 sz))) (by kernel_rfl) ?_
      refine bld rfl rfl rfl (bld26) ?_
      refine stAl 0 rfl Try.sizeOf26 trv rfl rfl rfl rfl rfl (by simp [Value.oneCell']) rfl ?_
      refine asI rfl rfl rfl ?_
      refine rNil ?_
      refine qSeq rfl ?_
      refine hRet ?_
      exact fun w hs => ⟨[_, .int .i64 _], ⟨⟨_, rfl, run_load_agg Try.isAgg26 Try.sizeOf26 rfl (cBs 0 rfl w hs)⟩, ⟨rfl, trivial⟩⟩, ⟨by first | exact congrArg resR (Math.opR_no (f := Math.reduced) (a := (a, b)) (b := (c, d)) (.inl g1)).symm | exact congrArg resR (Math.opR_no (f := Math.reduced) (a := (a, b)) (b := (c, d)) (.inr c2)).symm | exact congrArg resR (if_pos (c := Math.isRatio a b = true ∧ Math.isRatio c d = true) ⟨g1, c2⟩).symm, hs.upd⟩⟩
    · -- c2F
      have ha := Math.isRatio_bd g1; have hb := Math.isRatio_bd c2; have p1 := Math.prod_bd (x := a) (y := d) (by omega) (by omega); have p2 := Math.prod_bd (x := c) (y := b) (by omega) (by omega); have p3 := Math.prod_bd (x := b) (y := d) (by omega) (by omega); have p4 := Math.prod_pos (x := b) (y := d) (by omega) (by omega); have p5 := Math.prod_bd (x := a) (y := c) (by omega) (by omega)
      refine hSkip ?_
      refine qSeq rfl ?_
      refine hSeq ?_
      refine hReg (sq 0 (sl 1 (sq 2 (sl 3 (sq 4 (sq 5 (sl 6 (sq 7 (sl 8 (sq 9 (sl 10 (sq 11 (sq 12 (sl 13 (sq 14 sz))))))))))))))) (by kernel_rfl) ?_
      refine fld fl26_0 rfl rfl rfl ?_
      refine ldl Try.isAgg2 (cB 2 rfl rfl) trv rfl rfl rfl ?_
      refine fld fl26_0 rfl rfl rfl ?_
      refine ldl Try.isAgg2 (cB 1 rfl rfl) trv rfl rfl rfl ?_
      refine mul rfl rfl rfl rfl (by omega) ?_
      refine fld fl26_1 rfl rfl rfl ?_
      refine ldl Try.isAgg2 (cB 2 rfl rfl) trv rfl rfl rfl ?_
      refine fld fl26_1 rfl rfl rfl ?_
      refine ldl Try.isAgg2 (cB 1 rfl rfl) trv rfl rfl rfl ?_
      refine mul rfl rfl rfl rfl (by omega) ?_
      refine callP Try.call62 trv rfl rfl (fun w hs => impl_reduced_c _ _ w (by omega) (by omega) (by omega)) ?_
      refine ext rfl rfl rfl rfl ?_
      refine ext rfl rfl rfl rfl ?_
      refine stAl 0 rfl Try.sizeOf26 trv rfl rfl rfl rfl rfl (by simp [Value.oneCell']) rfl ?_
      refine asI rfl rfl rfl ?_
      refine rNil ?_
      refine qSeq rfl ?_
      refine hRet ?_
      exact fun w hs => ⟨[_, .int .i64 _], ⟨⟨_, rfl, run_load_agg Try.isAgg26 Try.sizeOf26 rfl (cBs 0 rfl w hs)⟩, ⟨rfl, trivial⟩⟩, ⟨by first | exact congrArg resR (Math.opR_no (f := Math.reduced) (a := (a, b)) (b := (c, d)) (.inl g1)).symm | exact congrArg resR (Math.opR_no (f := Math.reduced) (a := (a, b)) (b := (c, d)) (.inr c2)).symm | exact congrArg resR (if_pos (c := Math.isRatio a b = true ∧ Math.isRatio c d = true) ⟨g1, c2⟩).symm, hs.upd⟩⟩

theorem spec_AddRatios_c (a b c d : Int) (w : World) :
    Calls Try.prog 65 #[.agg #[.int .i64 a, .int .i64 b], .agg #[.int .i64 c, .int .i64 d]] w (Ret fun v w' => v = resR (Math.addR (a, b) (c, d)) ∧ Ext w w') := by
  refine fn (M := none_) (rs := [.cell 4 26, .tmp 5]) Try.func65 rfl Try.ntmps65 rfl rfl (Sep.start _ _) ?_
  refine hSeq ?_
  refine hReg (sl 0 (sl 1 (sl 2 (sq 3 sz)))) (by kernel_rfl) ?_
  refine box trv1 rfl rfl rfl rfl (fun bkb1 hbkb1 => ?_)
  refine box trv1 rfl rfl rfl rfl (fun bkb2 hbkb2 => ?_)
  refine alc Try.zeroValue26 rfl trv1 rfl rfl (fun bka3 hbka3 => ?_)
  refine asI rfl rfl rfl ?_
  refine rNil ?_
  refine qSeq rfl ?_
  refine hSeq ?_
  refine hSeq ?_
  refine hReg (sl 0 (sl 1 (sq 2 (sq 3 (sl 4 (sl 5 (sq 6 (sq 7 sz)))))))) (by kernel_rfl) ?_
  refine ldAl Try.isAgg26 Try.sizeOf26 (cBs 2 rfl) trv rfl rfl rfl rfl ?_
  refine callP Try.call64 trv rfl rfl (fun w hs => spec_IsRatio_c _ _ w) ?_
  refine not rfl rfl rfl ?_
  refine mvB rfl rfl rfl ?_
  refine rBoolN (d := 9) rfl (fun g1 => ?_) (fun g1 => ?_)
  · -- g1T
    refine rSkipL trv rfl rfl ?_
    refine rSkipL trv rfl rfl ?_
    refine rSkipQ rfl rfl ?_
    refine pickB rfl rfl rfl rfl ?_
    refine rNil ?_
    refine qSeq rfl ?_
    refine hIfT rfl ?_
    refine hSeq ?_
    refine hReg (sq 0 (sl 1 (sq 2 sz))) (by kernel_rfl) ?_
    refine bld rfl rfl rfl (bld26) ?_
    refine stAl 0 rfl Try.sizeOf26 trv rfl rfl rfl rfl rfl (by simp [Value.oneCell']) rfl ?_
    refine asI rfl rfl rfl ?_
    refine rNil ?_
    refine qSeq rfl ?_
    refine hRet ?_
    exact fun w hs => ⟨[_, .int .i64 _], ⟨⟨_, rfl, run_load_agg Try.isAgg26 Try.sizeOf26 rfl (cBs 0 rfl w hs)⟩, ⟨rfl, trivial⟩⟩, ⟨by first | exact congrArg resR (Math.opR_no (f := Math.reduced) (a := (a, b)) (b := (c, d)) (.inl g1)).symm | exact congrArg resR (Math.opR_no (f := Math.reduced) (a := (a, b)) (b := (c, d)) (.inr c2)).symm | exact congrArg resR (if_pos (c := Math.isRatio a b = true ∧ Math.isRatio c d = true) ⟨g1, c2⟩).symm, hs.upd⟩⟩
  · -- g1F
    refine ldAl Try.isAgg26 Try.sizeOf26 (cBs 1 rfl) trv rfl rfl rfl rfl ?_
    refine callP Try.call64 trv rfl rfl (fun w hs => spec_IsRatio_c _ _ w) ?_
    refine not rfl rfl rfl ?_
    refine pickB rfl rfl rfl rfl ?_
    refine rNil ?_
    refine qSeq rfl ?_
    refine hIfN rfl (fun c2 => ?_) (fun c2 => ?_)
    · -- c2T
      refine hSeq ?_
      refine hReg (sq 0 (sl 1 (sq 2 sz))) (by kernel_rfl) ?_
      refine bld rfl rfl rfl (bld26) ?_
      refine stAl 0 rfl Try.sizeOf26 trv rfl rfl rfl rfl rfl (by simp [Value.oneCell']) rfl ?_
      refine asI rfl rfl rfl ?_
      refine rNil ?_
      refine qSeq rfl ?_
      refine hRet ?_
      exact fun w hs => ⟨[_, .int .i64 _], ⟨⟨_, rfl, run_load_agg Try.isAgg26 Try.sizeOf26 rfl (cBs 0 rfl w hs)⟩, ⟨rfl, trivial⟩⟩, ⟨by first | exact congrArg resR (Math.opR_no (f := Math.reduced) (a := (a, b)) (b := (c, d)) (.inl g1)).symm | exact congrArg resR (Math.opR_no (f := Math.reduced) (a := (a, b)) (b := (c, d)) (.inr c2)).symm | exact congrArg resR (if_pos (c := Math.isRatio a b = true ∧ Math.isRatio c d = true) ⟨g1, c2⟩).symm, hs.upd⟩⟩
    · -- c2F
      have ha := Math.isRatio_bd g1; have hb := Math.isRatio_bd c2; have p1 := Math.prod_bd (x := a) (y := d) (by omega) (by omega); have p2 := Math.prod_bd (x := c) (y := b) (by omega) (by omega); have p3 := Math.prod_bd (x := b) (y := d) (by omega) (by omega); have p4 := Math.prod_pos (x := b) (y := d) (by omega) (by omega); have p5 := Math.prod_bd (x := a) (y := c) (by omega) (by omega)
      refine hSkip ?_
      refine qSeq rfl ?_
      refine hSeq ?_
      refine hReg (sq 0 (sl 1 (sq 2 (sl 3 (sq 4 (sq 5 (sl 6 (sq 7 (sl 8 (sq 9 (sq 10 (sq 11 (sl 12 (sq 13 (sl 14 (sq 15 (sl 16 (sq 17 (sq 18 (sl 19 (sq 20 sz))))))))))))))))))))) (by kernel_rfl) ?_
      refine fld fl26_0 rfl rfl rfl ?_
      refine ldl Try.isAgg2 (cB 2 rfl rfl) trv rfl rfl rfl ?_
      refine fld fl26_1 rfl rfl rfl ?_
      refine ldl Try.isAgg2 (cB 1 rfl rfl) trv rfl rfl rfl ?_
      refine mul rfl rfl rfl rfl (by omega) ?_
      refine fld fl26_0 rfl rfl rfl ?_
      refine ldl Try.isAgg2 (cB 1 rfl rfl) trv rfl rfl rfl ?_
      refine fld fl26_1 rfl rfl rfl ?_
      refine ldl Try.isAgg2 (cB 2 rfl rfl) trv rfl rfl rfl ?_
      refine mul rfl rfl rfl rfl (by omega) ?_
      refine add rfl rfl rfl rfl (by omega) ?_
      refine fld fl26_1 rfl rfl rfl ?_
      refine ldl Try.isAgg2 (cB 2 rfl rfl) trv rfl rfl rfl ?_
      refine fld fl26_1 rfl rfl rfl ?_
      refine ldl Try.isAgg2 (cB 1 rfl rfl) trv rfl rfl rfl ?_
      refine mul rfl rfl rfl rfl (by omega) ?_
      refine callP Try.call63 trv rfl rfl (fun w hs => spec_l01Ratio_c _ _ w (by omega) (by omega) (by omega)) ?_
      refine ext rfl rfl rfl rfl ?_
      refine ext rfl rfl rfl rfl ?_
      refine stAl 0 rfl Try.sizeOf26 trv rfl rfl rfl rfl rfl (by simp [Value.oneCell']) rfl ?_
      refine asI rfl rfl rfl ?_
      refine rNil ?_
      refine qSeq rfl ?_
      refine hRet ?_
      exact fun w hs => ⟨[_, .int .i64 _], ⟨⟨_, rfl, run_load_agg Try.isAgg26 Try.sizeOf26 rfl (cBs 0 rfl w hs)⟩, ⟨rfl, trivial⟩⟩, ⟨by first | exact congrArg resR (Math.opR_no (f := Math.reduced) (a := (a, b)) (b := (c, d)) (.inl g1)).symm | exact congrArg resR (Math.opR_no (f := Math.reduced) (a := (a, b)) (b := (c, d)) (.inr c2)).symm | exact congrArg resR (if_pos (c := Math.isRatio a b = true ∧ Math.isRatio c d = true) ⟨g1, c2⟩).symm, hs.upd⟩⟩

theorem spec_MultiplyRatios_c (a b c d : Int) (w : World) :
    Calls Try.prog 66 #[.agg #[.int .i64 a, .int .i64 b], .agg #[.int .i64 c, .int .i64 d]] w (Ret fun v w' => v = resR (Math.mulR (a, b) (c, d)) ∧ Ext w w') := by
  refine fn (M := none_) (rs := [.cell 4 26, .tmp 5]) Try.func66 rfl Try.ntmps66 rfl rfl (Sep.start _ _) ?_
  refine hSeq ?_
  refine hReg (sl 0 (sl 1 (sl 2 (sq 3 sz)))) (by kernel_rfl) ?_
  refine box trv1 rfl rfl rfl rfl (fun bkb1 hbkb1 => ?_)
  refine box trv1 rfl rfl rfl rfl (fun bkb2 hbkb2 => ?_)
  refine alc Try.zeroValue26 rfl trv1 rfl rfl (fun bka3 hbka3 => ?_)
  refine asI rfl rfl rfl ?_
  refine rNil ?_
  refine qSeq rfl ?_
  refine hSeq ?_
  refine hSeq ?_
  refine hReg (sl 0 (sl 1 (sq 2 (sq 3 (sl 4 (sl 5 (sq 6 (sq 7 sz)))))))) (by kernel_rfl) ?_
  refine ldAl Try.isAgg26 Try.sizeOf26 (cBs 2 rfl) trv rfl rfl rfl rfl ?_
  refine callP Try.call64 trv rfl rfl (fun w hs => spec_IsRatio_c _ _ w) ?_
  refine not rfl rfl rfl ?_
  refine mvB rfl rfl rfl ?_
  refine rBoolN (d := 9) rfl (fun g1 => ?_) (fun g1 => ?_)
  · -- g1T
    refine rSkipL trv rfl rfl ?_
    refine rSkipL trv rfl rfl ?_
    refine rSkipQ rfl rfl ?_
    refine pickB rfl rfl rfl rfl ?_
    refine rNil ?_
    refine qSeq rfl ?_
    refine hIfT rfl ?_
    refine hSeq ?_
    refine hReg (sq 0 (sl 1 (sq 2 sz))) (by kernel_rfl) ?_
    refine bld rfl rfl rfl (bld26) ?_
    refine stAl 0 rfl Try.sizeOf26 trv rfl rfl rfl rfl rfl (by simp [Value.oneCell']) rfl ?_
    refine asI rfl rfl rfl ?_
    refine rNil ?_
    refine qSeq rfl ?_
    refine hRet ?_
    exact fun w hs => ⟨[_, .int .i64 _], ⟨⟨_, rfl, run_load_agg Try.isAgg26 Try.sizeOf26 rfl (cBs 0 rfl w hs)⟩, ⟨rfl, trivial⟩⟩, ⟨by first | exact congrArg resR (Math.opR_no (f := Math.reduced) (a := (a, b)) (b := (c, d)) (.inl g1)).symm | exact congrArg resR (Math.opR_no (f := Math.reduced) (a := (a, b)) (b := (c, d)) (.inr c2)).symm | exact congrArg resR (if_pos (c := Math.isRatio a b = true ∧ Math.isRatio c d = true) ⟨g1, c2⟩).symm, hs.upd⟩⟩
  · -- g1F
    refine ldAl Try.isAgg26 Try.sizeOf26 (cBs 1 rfl) trv rfl rfl rfl rfl ?_
    refine callP Try.call64 trv rfl rfl (fun w hs => spec_IsRatio_c _ _ w) ?_
    refine not rfl rfl rfl ?_
    refine pickB rfl rfl rfl rfl ?_
    refine rNil ?_
    refine qSeq rfl ?_
    refine hIfN rfl (fun c2 => ?_) (fun c2 => ?_)
    · -- c2T
      refine hSeq ?_
      refine hReg (sq 0 (sl 1 (sq 2 sz))) (by kernel_rfl) ?_
      refine bld rfl rfl rfl (bld26) ?_
      refine stAl 0 rfl Try.sizeOf26 trv rfl rfl rfl rfl rfl (by simp [Value.oneCell']) rfl ?_
      refine asI rfl rfl rfl ?_
      refine rNil ?_
      refine qSeq rfl ?_
      refine hRet ?_
      exact fun w hs => ⟨[_, .int .i64 _], ⟨⟨_, rfl, run_load_agg Try.isAgg26 Try.sizeOf26 rfl (cBs 0 rfl w hs)⟩, ⟨rfl, trivial⟩⟩, ⟨by first | exact congrArg resR (Math.opR_no (f := Math.reduced) (a := (a, b)) (b := (c, d)) (.inl g1)).symm | exact congrArg resR (Math.opR_no (f := Math.reduced) (a := (a, b)) (b := (c, d)) (.inr c2)).symm | exact congrArg resR (if_pos (c := Math.isRatio a b = true ∧ Math.isRatio c d = true) ⟨g1, c2⟩).symm, hs.upd⟩⟩
    · -- c2F
      have ha := Math.isRatio_bd g1; have hb := Math.isRatio_bd c2; have p1 := Math.prod_bd (x := a) (y := d) (by omega) (by omega); have p2 := Math.prod_bd (x := c) (y := b) (by omega) (by omega); have p3 := Math.prod_bd (x := b) (y := d) (by omega) (by omega); have p4 := Math.prod_pos (x := b) (y := d) (by omega) (by omega); have p5 := Math.prod_bd (x := a) (y := c) (by omega) (by omega)
      refine hSkip ?_
      refine qSeq rfl ?_
      refine hSeq ?_
      refine hReg (sq 0 (sl 1 (sq 2 (sl 3 (sq 4 (sq 5 (sl 6 (sq 7 (sl 8 (sq 9 (sl 10 (sq 11 (sq 12 (sl 13 (sq 14 sz))))))))))))))) (by kernel_rfl) ?_
      refine fld fl26_0 rfl rfl rfl ?_
      refine ldl Try.isAgg2 (cB 2 rfl rfl) trv rfl rfl rfl ?_
      refine fld fl26_0 rfl rfl rfl ?_
      refine ldl Try.isAgg2 (cB 1 rfl rfl) trv rfl rfl rfl ?_
      refine mul rfl rfl rfl rfl (by omega) ?_
      refine fld fl26_1 rfl rfl rfl ?_
      refine ldl Try.isAgg2 (cB 2 rfl rfl) trv rfl rfl rfl ?_
      refine fld fl26_1 rfl rfl rfl ?_
      refine ldl Try.isAgg2 (cB 1 rfl rfl) trv rfl rfl rfl ?_
      refine mul rfl rfl rfl rfl (by omega) ?_
      refine callP Try.call63 trv rfl rfl (fun w hs => spec_l01Ratio_c _ _ w (by omega) (by omega) (by omega)) ?_
      refine ext rfl rfl rfl rfl ?_
      refine ext rfl rfl rfl rfl ?_
      refine stAl 0 rfl Try.sizeOf26 trv rfl rfl rfl rfl rfl (by simp [Value.oneCell']) rfl ?_
      refine asI rfl rfl rfl ?_
      refine rNil ?_
      refine qSeq rfl ?_
      refine hRet ?_
      exact fun w hs => ⟨[_, .int .i64 _], ⟨⟨_, rfl, run_load_agg Try.isAgg26 Try.sizeOf26 rfl (cBs 0 rfl w hs)⟩, ⟨rfl, trivial⟩⟩, ⟨by first | exact congrArg resR (Math.opR_no (f := Math.reduced) (a := (a, b)) (b := (c, d)) (.inl g1)).symm | exact congrArg resR (Math.opR_no (f := Math.reduced) (a := (a, b)) (b := (c, d)) (.inr c2)).symm | exact congrArg resR (if_pos (c := Math.isRatio a b = true ∧ Math.isRatio c d = true) ⟨g1, c2⟩).symm, hs.upd⟩⟩

theorem impl_isShare_c (n d : Int) (w : World) :
    Calls Try.prog 55 #[.agg #[.int .i64 n, .int .i64 d]] w (Ret fun v w' => v = .bool (Math.isShare n d) ∧ Ext w w') := by
  refine fn (M := none_) (rs := [.tmp 2]) Try.func55 rfl Try.ntmps55 rfl rfl (Sep.start _ _) ?_
  refine hSeq ?_
  refine hReg (sl 0 (sq 1 sz)) (by kernel_rfl) ?_
  refine box trv1 rfl rfl rfl rfl (fun bkb1 hbkb1 => ?_)
  refine asB rfl rfl rfl ?_
  refine rNil ?_
  refine qSeq rfl ?_
  refine hSeq ?_
  refine hReg (sl 0 (sl 1 (sq 2 (sq 3 (sl 4 (sq 5 (sl 6 (sl 7 (sq 8 (sq 9 sz)))))))))) (by kernel_rfl) ?_
  refine ldAl Try.isAgg26 Try.sizeOf26 (cBs 0 rfl) trv rfl rfl rfl rfl ?_
  refine callP Try.call61 trv rfl rfl (fun w hs => impl_IsRatio_c _ _ w) ?_
  refine mvB rfl rfl rfl ?_
  refine rBool (d := 5) rfl (fun g1 => ?_) (fun g1 => ?_)
  · -- g1T
    refine fld fl26_0 rfl rfl rfl ?_
    refine ldl Try.isAgg2 (cB 0 rfl rfl) trv rfl rfl rfl ?_
    refine fld fl26_1 rfl rfl rfl ?_
    refine ldl Try.isAgg2 (cB 0 rfl rfl) trv rfl rfl rfl ?_
    refine callP Try.call42 trv rfl rfl (fun w hs => impl_within_c _ _ _ w) ?_
    refine pickB rfl rfl rfl rfl ?_
    refine asB rfl rfl rfl ?_
    refine rNil ?_
    refine qSeq rfl ?_
    refine hRet ?_
    exact fun w hs => ⟨[.bool _], ⟨rfl, trivial⟩, ⟨bB (by simp [Math.isShare, *]), hs.upd⟩⟩
  · -- g1F
    refine rSkipQ rfl rfl ?_
    refine rSkipL trv rfl rfl ?_
    refine rSkipQ rfl rfl ?_
    refine rSkipL trv rfl rfl ?_
    refine rSkipL trv rfl rfl ?_
    refine pickB rfl rfl rfl rfl ?_
    refine asB rfl rfl rfl ?_
    refine rNil ?_
    refine qSeq rfl ?_
    refine hRet ?_
    exact fun w hs => ⟨[.bool _], ⟨rfl, trivial⟩, ⟨bB (by simp [Math.isShare, *]), hs.upd⟩⟩

theorem spec_l19Share_c (n d : Int) (w : World) :
    Calls Try.prog 50 #[.agg #[.int .i64 n, .int .i64 d]] w (Ret fun v w' => v = .bool (Math.isShare n d) ∧ Ext w w') := by
  refine fn (M := none_) (rs := [.tmp 2]) Try.func50 rfl Try.ntmps50 rfl rfl (Sep.start _ _) ?_
  refine hSeq ?_
  refine hReg (sl 0 (sq 1 sz)) (by kernel_rfl) ?_
  refine box trv1 rfl rfl rfl rfl (fun bkb1 hbkb1 => ?_)
  refine asB rfl rfl rfl ?_
  refine rNil ?_
  refine qSeq rfl ?_
  refine hSeq ?_
  refine hReg (sl 0 (sl 1 (sq 2 (sq 3 (sl 4 (sq 5 (sl 6 (sl 7 (sq 8 (sq 9 sz)))))))))) (by kernel_rfl) ?_
  refine ldAl Try.isAgg26 Try.sizeOf26 (cBs 0 rfl) trv rfl rfl rfl rfl ?_
  refine callP Try.call64 trv rfl rfl (fun w hs => spec_IsRatio_c _ _ w) ?_
  refine mvB rfl rfl rfl ?_
  refine rBool (d := 5) rfl (fun g1 => ?_) (fun g1 => ?_)
  · -- g1T
    refine fld fl26_0 rfl rfl rfl ?_
    refine ldl Try.isAgg2 (cB 0 rfl rfl) trv rfl rfl rfl ?_
    refine fld fl26_1 rfl rfl rfl ?_
    refine ldl Try.isAgg2 (cB 0 rfl rfl) trv rfl rfl rfl ?_
    refine callP Try.call40 trv rfl rfl (fun w hs => spec_l01In_c _ _ _ w) ?_
    refine pickB rfl rfl rfl rfl ?_
    refine asB rfl rfl rfl ?_
    refine rNil ?_
    refine qSeq rfl ?_
    refine hRet ?_
    exact fun w hs => ⟨[.bool _], ⟨rfl, trivial⟩, ⟨bB (by simp [Math.isShare, *]), hs.upd⟩⟩
  · -- g1F
    refine rSkipQ rfl rfl ?_
    refine rSkipL trv rfl rfl ?_
    refine rSkipQ rfl rfl ?_
    refine rSkipL trv rfl rfl ?_
    refine rSkipL trv rfl rfl ?_
    refine pickB rfl rfl rfl rfl ?_
    refine asB rfl rfl rfl ?_
    refine rNil ?_
    refine qSeq rfl ?_
    refine hRet ?_
    exact fun w hs => ⟨[.bool _], ⟨rfl, trivial⟩, ⟨bB (by simp [Math.isShare, *]), hs.upd⟩⟩

end Go.Proofs.Ytglhfigmenljoaa
