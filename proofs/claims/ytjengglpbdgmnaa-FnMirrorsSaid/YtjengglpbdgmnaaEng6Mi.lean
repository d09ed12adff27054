/- Rules for equality of Bools and of structs of two integers. No condition. -/
import Derived.Test.YtjengglpbdgmnaaEng5Mi
namespace Go.Proofs.Ytjengglpbdgmnaa.V
open Go Go.RowKit
set_option linter.unusedVariables false
set_option linter.unusedSimpArgs false
section
variable {P : Program} {n : Nat} {w0 : World} {M : Nat → Prop} {ops : Array Oper} {S : World → Prop} {L : List (World → Prop)} {i : Nat} {r : Sch} {σ : Fr} {K : Ko}
variable {d : Nat} {t : TypeId} {p : String} {af : Array Edge} {g : Option (Nat × Bool)} {a b : Operand} {ty yt : TypeId}
theorem neqB {u z : Bool} (hu : P.underlying ty = some .bool) (ho : ops[i]? = some ⟨some d, .binOp .neq ty a b yt, t, p, af, g⟩) (hg : go ops σ g) (ha : ev σ a = .bool u) (hb : ev σ b = .bool z) (h : RG P n w0 M ops S L r (upd σ d (.bool (decide (u ≠ z)))) K) : RG P n w0 M ops S L (.op .q i r) σ K :=
 rQ ho hg (fun w _ => by
  have hq := run_equalIn_bool' (P := P) w 9999 ty u z hu
  simp [execOp, ha, hb, eqGuard, binOp, Op.equal, show Op.maxDepth = 9999 + 1 from rfl, hq]; try (cases u <;> cases z <;> rfl)) h
/-- Structs of two integers are compared as they should. -/
def Eq2 (P : Program) (ty : TypeId) : Prop := P.eqGuardType P.depth ty = false ∧ ∀ (w : World) (x1 x2 y1 y2 : Int), (Op.equalIn 10000 ty (.agg #[.int .i64 x1, .int .i64 x2]) (.agg #[.int .i64 y1, .int .i64 y2])).run P w = .ok (decide (x1 = y1 ∧ x2 = y2)) w
end
end Go.Proofs.Ytjengglpbdgmnaa.V
