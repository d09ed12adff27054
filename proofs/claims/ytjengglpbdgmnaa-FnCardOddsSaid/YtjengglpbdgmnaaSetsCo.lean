/- Plain facts on payoffs, information sets, strategies. No condition. -/
import Derived.Test.YtjengglpbdgmnaaGameCo
namespace Go.Proofs.Ytjengglpbdgmnaa.Math
open Go.Proofs.Ytjengglpbdgmnaa.V
set_option linter.unusedVariables false
set_option linter.unusedSimpArgs false
/-- What player 0 gets at an end. -/
def payoffX (x : Nd) (w : Int) : Int :=
 if x.fo = 0 then -x.p0 else if x.fo = 1 then x.p1 else if w = 1 then x.p1 else if w = -1 then -x.p0 else 0
def payoffOf (z : List Nd) (ws vs : List (List Int)) (node a b : Int) : Int × Int :=
 if isGame z ws vs = true then
  if (0 ≤ node ∧ node ≤ (z.length : Int) - 1) ∧ (0 ≤ a ∧ a ≤ (ws.length : Int) - 1) ∧ (0 ≤ b ∧ b ≤ (ws.length : Int) - 1) then
   if (z.getD node.toNat dN).pl = 2 then (payoffX (z.getD node.toNat dN) ((vs.getD a.toNat []).getD b.toNat 0), 0) else (0, 5)
  else (0, 2)
 else (0, 1)
/-- Information sets: nodes and cards. -/
def setsOf (xs : List Int) (k : Nat) : List (List Int) := xs.flatMap fun n => (List.range k).map fun (c : Nat) => [n, (c : Int)]
def setsTo (xs : List Int) (k i j : Nat) : List (List Int) := setsOf (xs.take i) k ++ (List.range j).map fun (c : Nat) => [xs.getD i 0, (c : Int)]
/-- The sets of a player. -/
def sets (z : List Nd) (k : Nat) (p : Int) : List (List Int) := setsOf (nodesOf z p) k
def setsAt (z : List Nd) (ws vs : List (List Int)) (p : Int) : List (List Int) × Int :=
 if isGame z ws vs = true then if 0 ≤ p ∧ p ≤ 1 then (sets z ws.length p, 0) else ([], 2) else ([], 1)
/-- The children of the node of a set. -/
def wide (z : List Nd) (s : List Int) : Nat := (z.getD (s.getD 0 0).toNat dN).ch.length
/-- Parts of one set. -/
def partB (z : List Nd) (s r : List Int) : Bool := rowB (wide z s) 0 60 r && decide (r.sum = 60)
def partsB (z : List Nd) (ss ps : List (List Int)) : Bool := decide (ps.length = ss.length) && (List.range ss.length).all fun i => partB z (ss.getD i []) (ps.getD i [])
section
variable {z : List Nd} {s r : List Int} {ss ps : List (List Int)} {i : Nat}
end
def isStrat (z : List Nd) (ws vs : List (List Int)) (pl : Int) (ps : List (List Int)) : Bool :=
 isGame z ws vs && (decide (0 ≤ pl ∧ pl ≤ 1) && partsB z (sets z ws.length pl) ps)
/-- The number of pure strategies. -/
def countL : List Int → Int → Option Int
 | [], n => some n
 | x :: l, n => if n * x > 1000000000 then none else countL l (n * x)
def sizes (z : List Nd) (ss : List (List Int)) : List Int := ss.map fun s => (wide z s : Int)
def countOf (z : List Nd) (ws vs : List (List Int)) (p : Int) : Int × Int :=
 if isGame z ws vs = true then
  if 0 ≤ p ∧ p ≤ 1 then
   match countL (sizes z (sets z ws.length p)) 1 with
   | some n => (n, 0)
   | none => (0, 3)
  else (0, 2)
 else (0, 1)
def codeOf (z : List Nd) (ws vs : List (List Int)) (p : Int) : Int := if isGame z ws vs = true then if 0 ≤ p ∧ p ≤ 1 then 0 else 2 else 1
theorem sumK_bd {α : Type} (f : α → Nat) (B : Nat) : ∀ l : List α, (∀ x ∈ l, f x ≤ B) → sumK f l ≤ B * l.length
 | [], _ => by simp [sumK]
 | x :: l, h => by
  have h1 := sumK_bd f B l fun y hy => h y (List.mem_cons_of_mem _ hy)
  have h2 := h x (List.mem_cons_self ..)
  have h3 : sumK f (x :: l) = f x + sumK f l := rfl
  rw [h3, List.length_cons, Nat.mul_succ]; omega
end Go.Proofs.Ytjengglpbdgmnaa.Math
