/- Arguments of laws, opened. No condition. -/
import Derived.Test.YtjbdddfjaognfaaEngC
import Derived.Test.YtjbdddfjaognfaaFrame
import Derived.Test.YtjbdddfjaognfaaFrm
import Derived.Test.YtjbdddfjaognfaaRows
namespace Go.Proofs.Ytjbdddfjaognfaa
open Go Go.RowKit V Go.ChangeShapes Go.WideShapes Go.ChangeAt
set_option linter.unusedVariables false
set_option linter.unusedSimpArgs false
set_option maxRecDepth 100000

theorem inT2 {H : Type} {enc : TypeId × Value → H} {W : World} {fuel : Nat} {cs : List Value} {x : DataW H × List MemPlace} (h : trd enc Try.prog W fuel 2 cs = some x) : ∃ n, cs = [.int .i64 n] := in_int Try.underlying2 h
theorem cells94 : Try.prog.cellsOf 94 = 5 := by kernel_rfl
theorem cells2 : Try.prog.cellsOf 2 = 1 := by kernel_rfl
theorem cells22 : Try.prog.cellsOf 22 = 1 := by kernel_rfl
theorem inT37 {H : Type} {enc : TypeId × Value → H} {W : World} {fuel : Nat} {cs : List Value} {x : DataW H × List MemPlace} (h : trd enc Try.prog W fuel 37 cs = some x) : ∃ a n c hs xs, cs = [.slice a n c] ∧ RdR ndK a n hs xs W := in_rows (k := ndK) cells94.symm Try.underlying37 h (in_node Try.underlying94 rfl Try.underlying2 cells2 Try.underlying22 cells22 cells94) (by decide) (fun _ _ => rfl)
theorem cells37 : Try.prog.cellsOf 37 = 1 := by kernel_rfl
theorem cells39 : Try.prog.cellsOf 39 = 1 := by kernel_rfl
theorem inT39 {H : Type} {enc : TypeId × Value → H} {W : World} {fuel : Nat} {cs : List Value} {x : DataW H × List MemPlace} (h : trd enc Try.prog W fuel 39 cs = some x) : ∃ au0_0 nu0_0 cu0_0 hu0_0 zu0_0, cs = [.slice au0_0 nu0_0 cu0_0] ∧ RdR ndK au0_0 nu0_0 hu0_0 zu0_0 W := by
  obtain ⟨hl, fu, hf⟩ := in_fields (l := [(37, 0)]) Try.underlying39 rfl h
  rw [cells39] at hl
  obtain ⟨c0, rfl⟩ : ∃ c0, cs = [c0] := by
    match cs, hl with
    | [c0], _ => exact ⟨c0, rfl⟩
  obtain ⟨y0, g0⟩ := hf (37, 0) (by simp)
  rw [cells37] at g0
  obtain ⟨au0_0, nu0_0, cu0_0, hu0_0, zu0_0, e0, ru0_0⟩ := inT37 g0
  simp only [List.drop, List.take, List.cons.injEq, and_true] at e0
  obtain rfl := e0
  exact ⟨au0_0, nu0_0, cu0_0, hu0_0, zu0_0, rfl, ru0_0⟩
theorem inT51 {H : Type} {enc : TypeId × Value → H} {W : World} {fuel : Nat} {cs : List Value} {x : DataW H × List MemPlace} (h : trd enc Try.prog W fuel 51 cs = some x) : ∃ a n c hs xs, cs = [.slice a n c] ∧ RdR maK a n hs xs W := in_rows (k := maK) cells22.symm Try.underlying51 h (in_row Try.underlying22 Try.underlying2 cells2) (by decide) (fun _ _ => rfl)
theorem cells51 : Try.prog.cellsOf 51 = 1 := by kernel_rfl
theorem cells53 : Try.prog.cellsOf 53 = 3 := by kernel_rfl
theorem inT53 {H : Type} {enc : TypeId × Value → H} {W : World} {fuel : Nat} {cs : List Value} {x : DataW H × List MemPlace} (h : trd enc Try.prog W fuel 53 cs = some x) : ∃ au0_0 nu0_0 cu0_0 hu0_0 zu0_0 au1_0 nu1_0 cu1_0 hu1_0 zu1_0 au2_0 nu2_0 cu2_0 hu2_0 zu2_0, cs = [.slice au0_0 nu0_0 cu0_0, .slice au1_0 nu1_0 cu1_0, .slice au2_0 nu2_0 cu2_0] ∧ RdR ndK au0_0 nu0_0 hu0_0 zu0_0 W ∧ RdR maK au1_0 nu1_0 hu1_0 zu1_0 W ∧ RdR maK au2_0 nu2_0 hu2_0 zu2_0 W := by
  obtain ⟨hl, fu, hf⟩ := in_fields (l := [(39, 0), (51, 1), (51, 2)]) Try.underlying53 rfl h
  rw [cells53] at hl
  obtain ⟨c0, c1, c2, rfl⟩ : ∃ c0 c1 c2, cs = [c0, c1, c2] := by
    match cs, hl with
    | [c0, c1, c2], _ => exact ⟨c0, c1, c2, rfl⟩
  obtain ⟨y0, g0⟩ := hf (39, 0) (by simp)
  rw [cells39] at g0
  obtain ⟨au0_0, nu0_0, cu0_0, hu0_0, zu0_0, e0, ru0_0⟩ := inT39 g0
  simp only [List.drop, List.take, List.cons.injEq, and_true] at e0
  obtain rfl := e0
  obtain ⟨y1, g1⟩ := hf (51, 1) (by simp)
  rw [cells51] at g1
  obtain ⟨au1_0, nu1_0, cu1_0, hu1_0, zu1_0, e1, ru1_0⟩ := inT51 g1
  simp only [List.drop, List.take, List.cons.injEq, and_true] at e1
  obtain rfl := e1
  obtain ⟨y2, g2⟩ := hf (51, 2) (by simp)
  rw [cells51] at g2
  obtain ⟨au2_0, nu2_0, cu2_0, hu2_0, zu2_0, e2, ru2_0⟩ := inT51 g2
  simp only [List.drop, List.take, List.cons.injEq, and_true] at e2
  obtain rfl := e2
  exact ⟨au0_0, nu0_0, cu0_0, hu0_0, zu0_0, au1_0, nu1_0, cu1_0, hu1_0, zu1_0, au2_0, nu2_0, cu2_0, hu2_0, zu2_0, rfl, ru0_0, ru1_0, ru2_0⟩
theorem inT22 {H : Type} {enc : TypeId × Value → H} {W : World} {fuel : Nat} {cs : List Value} {x : DataW H × List MemPlace} (h : trd enc Try.prog W fuel 22 cs = some x) : ∃ a n c zs, cs = [.slice a n c] ∧ RdI a n zs W := in_ints Try.underlying22 Try.underlying2 cells2 h
end Go.Proofs.Ytjbdddfjaognfaa
