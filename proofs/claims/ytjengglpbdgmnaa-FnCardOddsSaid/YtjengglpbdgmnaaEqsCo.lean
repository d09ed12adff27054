/- Ratios are compared part by part. No condition. -/
import Derived.Test.YtjengglpbdgmnaaEng6Co
import Derived.Test.YtjengglpbdgmnaaRows
namespace Go.Proofs.Ytjengglpbdgmnaa
open Go Go.RowKit V
theorem eq2R : Eq2 Try.prog 65 := ⟨Try.eqGuardType65, fun w x1 x2 y1 y2 => by
  rw [run_equalIn_agg (P := Try.prog) w _ _ _ _ (by kernel_rfl) Try.stoodInHeld65]
  have hf : (Try.prog.fieldsOf 65).toList.map (fun f => (f.name, f.type, f.offset)) = [("Num", 2, 0), ("Den", 2, 1)] := by kernel_rfl
  generalize (Try.prog.fieldsOf 65).toList = fs at hf
  obtain ⟨f, f', rfl⟩ : ∃ f f', fs = [f, f'] := by
    match fs, congrArg List.length hf with
    | [f, f'], _ => exact ⟨f, f', rfl⟩
  · simp only [List.map_cons, List.map_nil, List.cons.injEq, Prod.mk.injEq, and_true] at hf
    obtain ⟨⟨h1, h2, h3⟩, h4, h5, h6⟩ := hf
    have e1 := fun a b => run_equalIn_int (P := Try.prog) w 9998 2 .i64 .i64 a b Try.underlying2
    simp [Op.eqFields, h1, h2, h3, h4, h5, h6, part, Try.sizeOf2, e1]
    by_cases hx : x1 = y1 <;> by_cases hy : x2 = y2 <;> simp [hx, hy]⟩
end Go.Proofs.Ytjengglpbdgmnaa
