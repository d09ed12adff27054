/- Arguments of laws, opened. No condition. -/
import Derived.Test.YtofkhnipfhcaiaaEngC
import Derived.Test.YtofkhnipfhcaiaaFrame
import Derived.Test.YtofkhnipfhcaiaaFrm
import Derived.Test.YtofkhnipfhcaiaaRows
namespace Go.Proofs.Ytofkhnipfhcaiaa
open Go Go.RowKit V Go.ChangeShapes Go.WideShapes Go.ChangeAt
set_option linter.unusedVariables false
set_option linter.unusedSimpArgs false
set_option maxRecDepth 100000

theorem cells107 : Try.prog.cellsOf 107 = 5 := by kernel_rfl
theorem cells2 : Try.prog.cellsOf 2 = 1 := by kernel_rfl
theorem cells53 : Try.prog.cellsOf 53 = 1 := by kernel_rfl
theorem inT22 {H : Type} {enc : TypeId × Value → H} {W : World} {fuel : Nat} {cs : List Value} {x : DataW H × List MemPlace} (h : trd enc Try.prog W fuel 22 cs = some x) : ∃ a n c hs xs, cs = [.slice a n c] ∧ RdR ndK a n hs xs W := in_rows (k := ndK) cells107.symm Try.underlying22 h (in_node Try.underlying107 rfl Try.underlying2 cells2 Try.underlying53 cells53 cells107) (by decide) (fun _ _ => rfl)
theorem cells22 : Try.prog.cellsOf 22 = 1 := by kernel_rfl
theorem cells24 : Try.prog.cellsOf 24 = 1 := by kernel_rfl
theorem inT24 {H : Type} {enc : TypeId × Value → H} {W : World} {fuel : Nat} {cs : List Value} {x : DataW H × List MemPlace} (h : trd enc Try.prog W fuel 24 cs = some x) : ∃ au0_0 nu0_0 cu0_0 hu0_0 zu0_0, cs = [.slice au0_0 nu0_0 cu0_0] ∧ RdR ndK au0_0 nu0_0 hu0_0 zu0_0 W := by
  obtain ⟨hl, fu, hf⟩ := in_fields (l := [(22, 0)]) Try.underlying24 rfl h
  rw [cells24] at hl
  obtain ⟨c0, rfl⟩ : ∃ c0, cs = [c0] := by
    match cs, hl with
    | [c0], _ => exact ⟨c0, rfl⟩
  obtain ⟨y0, g0⟩ := hf (22, 0) (by simp)
  rw [cells22] at g0
  obtain ⟨au0_0, nu0_0, cu0_0, hu0_0, zu0_0, e0, ru0_0⟩ := inT22 g0
  simp only [List.drop, List.take, List.cons.injEq, and_true] at e0
  obtain rfl := e0
  exact ⟨au0_0, nu0_0, cu0_0, hu0_0, zu0_0, rfl, ru0_0⟩
theorem inT25 {H : Type} {enc : TypeId × Value → H} {W : World} {fuel : Nat} {cs : List Value} {x : DataW H × List MemPlace} (h : trd enc Try.prog W fuel 25 cs = some x) : ∃ a n c hs xs, cs = [.slice a n c] ∧ RdR maK a n hs xs W := in_rows (k := maK) cells53.symm Try.underlying25 h (in_row Try.underlying53 Try.underlying2 cells2) (by decide) (fun _ _ => rfl)
theorem cells25 : Try.prog.cellsOf 25 = 1 := by kernel_rfl
theorem cells27 : Try.prog.cellsOf 27 = 3 := by kernel_rfl
theorem inT27 {H : Type} {enc : TypeId × Value → H} {W : World} {fuel : Nat} {cs : List Value} {x : DataW H × List MemPlace} (h : trd enc Try.prog W fuel 27 cs = some x) : ∃ au0_0 nu0_0 cu0_0 hu0_0 zu0_0 au1_0 nu1_0 cu1_0 hu1_0 zu1_0 au2_0 nu2_0 cu2_0 hu2_0 zu2_0, cs = [.slice au0_0 nu0_0 cu0_0, .slice au1_0 nu1_0 cu1_0, .slice au2_0 nu2_0 cu2_0] ∧ RdR ndK au0_0 nu0_0 hu0_0 zu0_0 W ∧ RdR maK au1_0 nu1_0 hu1_0 zu1_0 W ∧ RdR maK au2_0 nu2_0 hu2_0 zu2_0 W := by
  obtain ⟨hl, fu, hf⟩ := in_fields (l := [(24, 0), (25, 1), (25, 2)]) Try.underlying27 rfl h
  rw [cells27] at hl
  obtain ⟨c0, c1, c2, rfl⟩ : ∃ c0 c1 c2, cs = [c0, c1, c2] := by
    match cs, hl with
    | [c0, c1, c2], _ => exact ⟨c0, c1, c2, rfl⟩
  obtain ⟨y0, g0⟩ := hf (24, 0) (by simp)
  rw [cells24] at g0
  obtain ⟨au0_0, nu0_0, cu0_0, hu0_0, zu0_0, e0, ru0_0⟩ := inT24 g0
  simp only [List.drop, List.take, List.cons.injEq, and_true] at e0
  obtain rfl := e0
  obtain ⟨y1, g1⟩ := hf (25, 1) (by simp)
  rw [cells25] at g1
  obtain ⟨au1_0, nu1_0, cu1_0, hu1_0, zu1_0, e1, ru1_0⟩ := inT25 g1
  simp only [List.drop, List.take, List.cons.injEq, and_true] at e1
  obtain rfl := e1
  obtain ⟨y2, g2⟩ := hf (25, 2) (by simp)
  rw [cells25] at g2
  obtain ⟨au2_0, nu2_0, cu2_0, hu2_0, zu2_0, e2, ru2_0⟩ := inT25 g2
  simp only [List.drop, List.take, List.cons.injEq, and_true] at e2
  obtain rfl := e2
  exact ⟨au0_0, nu0_0, cu0_0, hu0_0, zu0_0, au1_0, nu1_0, cu1_0, hu1_0, zu1_0, au2_0, nu2_0, cu2_0, hu2_0, zu2_0, rfl, ru0_0, ru1_0, ru2_0⟩
theorem inT2 {H : Type} {enc : TypeId × Value → H} {W : World} {fuel : Nat} {cs : List Value} {x : DataW H × List MemPlace} (h : trd enc Try.prog W fuel 2 cs = some x) : ∃ n, cs = [.int .i64 n] := in_int Try.underlying2 h
theorem cells29 : Try.prog.cellsOf 29 = 2 := by kernel_rfl
theorem inT29 {H : Type} {enc : TypeId × Value → H} {W : World} {fuel : Nat} {cs : List Value} {x : DataW H × List MemPlace} (h : trd enc Try.prog W fuel 29 cs = some x) : ∃ zu0_0 au1_0 nu1_0 cu1_0 hu1_0 zu1_0, cs = [.int .i64 zu0_0, .slice au1_0 nu1_0 cu1_0] ∧ RdR maK au1_0 nu1_0 hu1_0 zu1_0 W := by
  obtain ⟨hl, fu, hf⟩ := in_fields (l := [(2, 0), (25, 1)]) Try.underlying29 rfl h
  rw [cells29] at hl
  obtain ⟨c0, c1, rfl⟩ : ∃ c0 c1, cs = [c0, c1] := by
    match cs, hl with
    | [c0, c1], _ => exact ⟨c0, c1, rfl⟩
  obtain ⟨y0, g0⟩ := hf (2, 0) (by simp)
  rw [cells2] at g0
  obtain ⟨zu0_0, e0⟩ := inT2 g0
  simp only [List.drop, List.take, List.cons.injEq, and_true] at e0
  obtain rfl := e0
  obtain ⟨y1, g1⟩ := hf (25, 1) (by simp)
  rw [cells25] at g1
  obtain ⟨au1_0, nu1_0, cu1_0, hu1_0, zu1_0, e1, ru1_0⟩ := inT25 g1
  simp only [List.drop, List.take, List.cons.injEq, and_true] at e1
  obtain rfl := e1
  exact ⟨zu0_0, au1_0, nu1_0, cu1_0, hu1_0, zu1_0, rfl, ru1_0⟩
end Go.Proofs.Ytofkhnipfhcaiaa
