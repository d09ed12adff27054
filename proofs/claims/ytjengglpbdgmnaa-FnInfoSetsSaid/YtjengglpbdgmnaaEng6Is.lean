/- Rules for equality of Bools and of structs of two integers. No condition. -/
import Derived.Test.YtjengglpbdgmnaaEng5Is
namespace Go.Proofs.Ytjengglpbdgmnaa.V
open Go Go.RowKit
set_option linter.unusedVariables false
set_option linter.unusedSimpArgs false
section
variable {P : Program} {n : Nat} {w0 : World} {M : Nat → Prop} {ops : Array Oper} {S : World → Prop} {L : List (World → Prop)} {i : Nat} {r : Sch} {σ : Fr} {K : Ko}
variable {d : Nat} {t : TypeId} {p : String} {af : Array Edge} {g : Option (Nat × Bool)} {a b : Operand} {ty yt : TypeId}
/-- Structs of two integers are compared as they should. -/
def Eq2 (P : Program) (ty : TypeId) : Prop := P.eqGuardType P.depth ty = false ∧ ∀ (w : World) (x1 x2 y1 y2 : Int), (Op.equalIn 10000 ty (.agg #[.int .i64 x1, .int .i64 x2]) (.agg #[.int .i64 y1, .int .i64 y2])).run P w = .ok (decide (x1 = y1 ∧ x2 = y2)) w
end
end Go.Proofs.Ytjengglpbdgmnaa.V
