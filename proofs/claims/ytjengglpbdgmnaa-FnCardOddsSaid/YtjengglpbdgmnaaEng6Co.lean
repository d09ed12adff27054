/- Rules for equality of Bools and of structs of two integers. No condition. -/
import Derived.Test.YtjengglpbdgmnaaEng5Co
namespace Go.Proofs.Ytjengglpbdgmnaa.V
open Go Go.RowKit
set_option linter.unusedVariables false
set_option linter.unusedSimpArgs false
section
variable {P : Program} {n : Nat} {w0 : World} {M : Nat → Prop} {ops : Array Oper} {S : World → Prop} {L : List (World → Prop)} {i : Nat} {r : Sch} {σ : Fr} {K : Ko}
variable {d : Nat} {t : TypeId} {p : String} {af : Array Edge} {g : Option (Nat × Bool)} {a b : Operand} {ty yt : TypeId}
/-- Structs of two integers are compared as they should. -/
def Eq2 (P : Program) (ty : TypeId) : Prop := P.eqGuardType P.depth ty = false ∧ ∀ (w : World) (x1 x2 y1 y2 : Int), (Op.equalIn 10000 ty (.agg #[.int .i64 x1, .int .i64 x2]) (.agg #[.int .i64 y1, .int .i64 y2])).run P w = .ok (decide (x1 = y1 ∧ x2 = y2)) w
theorem eqlR {x1 x2 y1 y2 : Int} (hE : Eq2 P ty) (ho : ops[i]? = some ⟨some d, .binOp .eql ty a b yt, t, p, af, g⟩) (hg : go ops σ g) (ha : ev σ a = .agg #[.int .i64 x1, .int .i64 x2]) (hb : ev σ b = .agg #[.int .i64 y1, .int .i64 y2]) (h : RG P n w0 M ops S L r (upd σ d (.bool (decide (x1 = y1 ∧ x2 = y2)))) K) : RG P n w0 M ops S L (.op .q i r) σ K :=
 rQ ho hg (fun w _ => by simp only [execOp, ha, hb, Sem.run_bind, run_eqGuard_agg w .eql ty a b _ _ hE.1, Result.andThen_ok, run_eql_struct, hE.2]; simp) h
theorem neqR {x1 x2 y1 y2 : Int} (hE : Eq2 P ty) (ho : ops[i]? = some ⟨some d, .binOp .neq ty a b yt, t, p, af, g⟩) (hg : go ops σ g) (ha : ev σ a = .agg #[.int .i64 x1, .int .i64 x2]) (hb : ev σ b = .agg #[.int .i64 y1, .int .i64 y2]) (h : RG P n w0 M ops S L r (upd σ d (.bool (decide (¬ (x1 = y1 ∧ x2 = y2))))) K) : RG P n w0 M ops S L (.op .q i r) σ K :=
 rQ ho hg (fun w _ => by simp only [execOp, ha, hb, Sem.run_bind, run_eqGuard_agg w .neq ty a b _ _ hE.1, Result.andThen_ok, run_neq_struct, hE.2]; simp) h
end
end Go.Proofs.Ytjengglpbdgmnaa.V
