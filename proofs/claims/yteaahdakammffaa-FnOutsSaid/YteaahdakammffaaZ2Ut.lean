/- Plain facts on trees of games: when a list of nodes is a tree, its depth, its ends. No condition. -/
import Derived.Test.YteaahdakammffaaZ1Ut
import Derived.Test.YteaahdakammffaaRows
import Derived.RangeFuncBox
import Derived.RangeFuncLeaves
import Derived.Shelf.Abstract
import Derived.WalkKit
import Derived.OwnWalkIn
import Derived.TacticsInMore
import Derived.LoopNIn
import Derived.LoopIn
import Derived.Maps.AppendAt
import Derived.Lib.SlKeysI
import Derived.Test.YteaahdakammffaaProg
import Derived.Ground.SlgnProg
import Derived.Shelf.SlicesG.Turned
import Derived.Shelf.SlicesG.Equal
import Derived.Shelf.SlicesG.CompactI
import Derived.Shelf.SlicesG.Cells
import Derived.Ground.SlgmProg
import Derived.Shelf.SortM.Plain
import Derived.Shelf.SortM.SortNone
import Derived.Lib.AppendZerosOnto
import Derived.Lib.Walk
import Derived.Lib.SliceRun
import Derived.ChangeKeysEq
import Derived.RangeFuncNested
import Derived.Lib.SlicesCompact
namespace Go.Proofs.Yteaahdakammffaa.Math
open Go.Proofs.Yteaahdakammffaa.V
set_option linter.unusedVariables false
set_option linter.unusedSimpArgs false
/-! ### Lists by their places -/
section
variable {α : Type}
theorem take_step {l : List α} {i : Nat} (d : α) (h : i < l.length) : l.take (i + 1) = l.take i ++ [l.getD i d] := by
  rw [List.take_add_one]; simp [List.getD, List.getElem?_eq_getElem h]
theorem getD_mem {l : List α} {i : Nat} (d : α) (h : i < l.length) : l.getD i d ∈ l := by
  simp [List.getD, List.getElem?_eq_getElem h]
end
def inB (lo hi z : Int) : Bool := decide (lo ≤ z ∧ z ≤ hi)
/-- Strictly increasing. -/
def risingB : List Int → Bool
  | a :: b :: r => decide (a < b) && risingB (b :: r)
  | _ => true
/-- Strictly increasing within 0 to n - 1. -/
def risesB (n : Int) (l : List Int) : Bool := l.all (inB 0 (n - 1)) && risingB l
/-! ### A slice that is filled from the left -/
theorem fill_step {α : Type} (d z : α) {l : List α} {n i : Nat} (hl : l.length = n) (h : i < n) : (l.take i ++ List.replicate (n - i) z).set i (l.getD i d) = l.take (i + 1) ++ List.replicate (n - (i + 1)) z := by
  rw [take_step d (by omega), List.set_append_right _ _ (by simp; omega)]
  simp only [List.length_take, List.append_assoc]
  rw [show i - min i l.length = 0 from by omega, show n - i = (n - (i + 1)) + 1 from by omega, List.replicate_succ]
  rfl
theorem fill_start {α : Type} (l : List α) (n : Nat) (z : α) : List.replicate n z = l.take 0 ++ List.replicate (n - 0) z := by simp
theorem fill_end {α : Type} (z : α) {l : List α} {n i : Nat} (hl : l.length = n) (h : n ≤ i) : l.take i ++ List.replicate (n - i) z = l := by
  rw [show n - i = 0 from by omega, List.take_of_length_le (by omega)]; simp
/-- A node is as it should, apart from the others. -/
def okB (n i : Nat) (x : Nd) : Bool :=
  inB 0 2 x.pl && (inB 0 100 x.p0 && (inB 0 100 x.p1 &&
    cond (decide (x.pl = 2)) (decide (x.ch.length = 0) && (inB (-1) 1 x.fo && (decide (x.fo ≠ -1) || decide (x.p0 = x.p1))))
      (decide (x.fo = -1) && (inB 1 4 x.ch.length && (x.ch.all (inB ((i : Int) + 1) ((n : Int) - 1)) && risingB x.ch)))))
/-- The first numbers of 'l', as counts of 0, 1, .., n - 1. -/
def cntL (n : Nat) (l : List Int) : List Int := (List.range n).map fun (c : Nat) => (l.count (c : Int) : Int)
theorem count_le {l : List Int} (c : Int) : (l.count c : Int) ≤ l.length := by exact_mod_cast List.count_le_length
/-- All that the nodes lead to. -/
def kids (ns : List Nd) : List Int := ns.flatMap Nd.ch
def allOk (ns : List Nd) : Bool := (List.range ns.length).all fun i => okB ns.length i (ns.getD i dN)
def oneEach (ns : List Nd) : Bool := (List.range (ns.length - 1)).all fun i => decide ((kids ns).count ((i + 1 : Nat) : Int) = 1)
/-- The depth below a node. -/
def depthF (ns : List Nd) : Nat → Nat → Int
  | 0, _ => 0
  | k + 1, i => if (ns.getD i dN).pl = 2 then 0 else (ns.getD i dN).ch.foldl (fun m c => max m (depthF ns k c.toNat)) 0 + 1
def depth (ns : List Nd) (i : Nat) : Int := depthF ns ns.length i
def dmax (ns : List Nd) (l : List Int) : Int := l.foldl (fun m c => max m (depth ns c.toNat)) 0
/-- A tree. -/
def isTree (ns : List Nd) : Bool := decide (1 ≤ ns.length ∧ ns.length ≤ 60) && (allOk ns && (oneEach ns && decide (depth ns 0 ≤ 5)))
/-! ### How much of a budget is left -/
def cut (left s : Int) : Int := if s ≤ left then left - s else -1
/-- All that elements lead to, and themselves. -/
def sumK {α : Type} (f : α → Nat) (l : List α) : Nat := (l.map f).sum
def szK {α : Type} (f : α → Nat) (l : List α) : Nat := l.length + sumK f l
/-- The lengths of what nodes, and rows, lead to. -/
def chl (x : Nd) : Nat := x.ch.length
def rwl (x : List Int) : Nat := x.length
theorem upto {p : Nat → Prop} {i : Nat} (h : ∀ j, j < i → p j) (hi : p i) : ∀ j, j < i + 1 → p j := fun j hj => by
  rcases Nat.lt_or_ge j i with h' | h'
  · exact h j h'
  · obtain rfl : j = i := by omega
    exact hi
def risesTo (n : Int) (z : List Int) (i : Nat) : Prop := (∀ j, j < i → inB 0 (n - 1) (z.getD j 0) = true) ∧ ∀ j, j + 1 < i → z.getD j 0 < z.getD (j + 1) 0
/-! ### Why a node is not as it should -/
section
variable {n i : Nat} {x : Nd}
end
/-- The nodes of a player. -/
def nodesOf (ns : List Nd) (p : Int) : List Int := ((List.range ns.length).filter fun i => decide ((ns.getD i dN).pl = p)).map fun (i : Nat) => (i : Int)
def nodesTo (ns : List Nd) (p : Int) (k : Nat) : List Int := ((List.range k).filter fun i => decide ((ns.getD i dN).pl = p)).map fun (i : Nat) => (i : Int)
def endsOf (ns : List Nd) : List Int × Int := if isTree ns = true then (nodesOf ns 2, 0) else ([], 1)
def decsOf (ns : List Nd) (p : Int) : List Int × Int := if isTree ns = true then (if 0 ≤ p ∧ p ≤ 1 then (nodesOf ns p, 0) else ([], 2)) else ([], 1)
def depthOf (ns : List Nd) : Int × Int := if isTree ns = true then (depth ns 0, 0) else (0, 1)
/-- Where places lead. -/
def walk (ns : List Nd) : List Int → Int → Option Int
  | [], at_ => some at_
  | p :: r, at_ => if 0 ≤ p ∧ p ≤ ((ns.getD at_.toNat dN).ch.length : Int) - 1 then walk ns r ((ns.getD at_.toNat dN).ch.getD p.toNat 0) else none
def nodeBy (ns : List Nd) (way : List Int) : Int × Int := if isTree ns = true then (match walk ns way 0 with | some x => (x, 0) | none => (0, 4)) else (0, 1)
/-! ### Marks -/
def seqL (k : Int) (n : Nat) : List Int := (List.range n).map fun (i : Nat) => k + (i : Int)
def f4 (x : Nd) : Nat := 4 + x.ch.length
def markN (k : Int) (x : Nd) : Nd := ⟨k, k + 1, k + 1 + 1, k + 1 + 1 + 1, seqL (k + 1 + 1 + 1 + 1) x.ch.length⟩
def marksN (k : Int) (ys : List Nd) : List Nd := ys.mapIdx fun i x => markN (k + (sumK f4 (ys.take i) : Int)) x
def marksM (k : Int) (ys : List (List Int)) : List (List Int) := ys.mapIdx fun i x => seqL (k + (sumK rwl (ys.take i) : Int)) x.length
end Go.Proofs.Yteaahdakammffaa.Math
/- Contracts of what the laws do with lists. Their conditions stand in each. -/
namespace Go.Proofs.Yteaahdakammffaa
open Go Go.RowKit V
set_option linter.unusedVariables false
set_option linter.unusedSimpArgs false
set_option maxRecDepth 100000
theorem mk22 : Mk Try.prog 22 23 1 24 [.slice none 0 0] := ⟨Try.underlying22, Try.t23, _, by kernel_rfl, rfl, rfl, rfl, rfl, rfl, by decide, by decide⟩
theorem mk23 : Mk Try.prog 23 2 1 8 [.int .i64 0] := ⟨Try.underlying23, Try.t2, _, by kernel_rfl, rfl, rfl, rfl, rfl, rfl, by decide, by decide⟩
theorem el22 : Elt Try.prog 22 1 := ⟨23, Try.runUnderlying22, Try.sizeOf23⟩
theorem el23 : Elt Try.prog 23 1 := ⟨2, Try.runUnderlying23, Try.sizeOf2⟩
theorem impl_within_c (n : Int) (lo : Int) (hi : Int) (w : World) :
  Calls Try.prog 65 #[.int .i64 n, .int .i64 lo, .int .i64 hi] w (Ret fun v w' => v = .bool (decide (lo ≤ n ∧ n ≤ hi)) ∧ Ext w w') := by
 refine fn (M := none_) (rs := [.tmp 6]) Try.func65 rfl Try.ntmps65 rfl rfl (Sep.start _ _) ?_
 refine hSeq ?_
 refine hReg (sq 0 sz) (by kernel_rfl) ?_
 refine asB rfl rfl rfl ?_
 refine rNil ?_
 refine qSeq rfl ?_
 refine hSeq ?_
 refine hReg (sq 0 (sq 1 (sq 2 (sq 3 (sq 4 (sq 5 (sq 6 (sq 7 (sq 8 sz))))))))) (by kernel_rfl) ?_
 refine mvI rfl rfl rfl ?_
 refine mvI rfl rfl rfl ?_
 refine geq rfl rfl rfl rfl ?_
 refine mvB rfl rfl rfl ?_
 refine rBoolD (d := 10) rfl (fun g1 => ?_) (fun g1 => ?_)
 ·
  replace g1 : lo ≤ n := g1
  refine mvI rfl rfl rfl ?_
  refine mvI rfl rfl rfl ?_
  refine leq rfl rfl rfl rfl ?_
  refine pickB rfl rfl rfl rfl ?_
  refine asB rfl rfl rfl ?_
  refine rNil ?_
  refine qSeq rfl ?_
  refine hRet ?_
  exact fun w hs => ⟨[.bool (decide (n ≤ hi))], ⟨rfl, trivial⟩, ⟨by first | rfl | exact bD (by omega) | exact bT (by omega) | exact bF (by omega) | exact vI (by omega), hs.upd⟩⟩
 ·
  replace g1 : ¬ (lo ≤ n) := g1
  refine rSkipQ rfl rfl ?_
  refine rSkipQ rfl rfl ?_
  refine rSkipQ rfl rfl ?_
  refine pickB rfl rfl rfl rfl ?_
  refine asB rfl rfl rfl ?_
  refine rNil ?_
  refine qSeq rfl ?_
  refine hRet ?_
  exact fun w hs => ⟨[.bool false], ⟨rfl, trivial⟩, ⟨by first | rfl | exact bD (by omega) | exact bT (by omega) | exact bF (by omega) | exact vI (by omega), hs.upd⟩⟩
theorem spec_l01In_c (n : Int) (lo : Int) (hi : Int) (w : World) :
  Calls Try.prog 88 #[.int .i64 n, .int .i64 lo, .int .i64 hi] w (Ret fun v w' => v = .bool (decide (lo ≤ n ∧ n ≤ hi)) ∧ Ext w w') := by
 refine fn (M := none_) (rs := [.tmp 6]) Try.func88 rfl Try.ntmps88 rfl rfl (Sep.start _ _) ?_
 refine hSeq ?_
 refine hReg (sq 0 sz) (by kernel_rfl) ?_
 refine asB rfl rfl rfl ?_
 refine rNil ?_
 refine qSeq rfl ?_
 refine hSeq ?_
 refine hReg (sq 0 (sq 1 (sq 2 (sq 3 (sq 4 (sq 5 (sq 6 (sq 7 (sq 8 sz))))))))) (by kernel_rfl) ?_
 refine mvI rfl rfl rfl ?_
 refine mvI rfl rfl rfl ?_
 refine geq rfl rfl rfl rfl ?_
 refine mvB rfl rfl rfl ?_
 refine rBoolD (d := 10) rfl (fun g1 => ?_) (fun g1 => ?_)
 ·
  replace g1 : lo ≤ n := g1
  refine mvI rfl rfl rfl ?_
  refine mvI rfl rfl rfl ?_
  refine leq rfl rfl rfl rfl ?_
  refine pickB rfl rfl rfl rfl ?_
  refine asB rfl rfl rfl ?_
  refine rNil ?_
  refine qSeq rfl ?_
  refine hRet ?_
  exact fun w hs => ⟨[.bool (decide (n ≤ hi))], ⟨rfl, trivial⟩, ⟨by first | rfl | exact bD (by omega) | exact bT (by omega) | exact bF (by omega) | exact vI (by omega), hs.upd⟩⟩
 ·
  replace g1 : ¬ (lo ≤ n) := g1
  refine rSkipQ rfl rfl ?_
  refine rSkipQ rfl rfl ?_
  refine rSkipQ rfl rfl ?_
  refine pickB rfl rfl rfl rfl ?_
  refine asB rfl rfl rfl ?_
  refine rNil ?_
  refine qSeq rfl ?_
  refine hRet ?_
  exact fun w hs => ⟨[.bool false], ⟨rfl, trivial⟩, ⟨by first | rfl | exact bD (by omega) | exact bT (by omega) | exact bF (by omega) | exact vI (by omega), hs.upd⟩⟩
end Go.Proofs.Yteaahdakammffaa
/- Contracts of what the program does with lists. Their conditions stand in each. -/
namespace Go.Proofs.Yteaahdakammffaa
open Go Go.RowKit V
set_option linter.unusedVariables false
set_option linter.unusedSimpArgs false
set_option maxRecDepth 100000
end Go.Proofs.Yteaahdakammffaa
/- Contracts of the marks that the laws lay. Their conditions stand in each. -/
namespace Go.Proofs.Yteaahdakammffaa
open Go Go.RowKit V
set_option linter.unusedVariables false
set_option linter.unusedSimpArgs false
set_option maxRecDepth 100000
end Go.Proofs.Yteaahdakammffaa
/- Plain facts on parts of weights. No condition. -/
namespace Go.Proofs.Yteaahdakammffaa.Math
open Go.Proofs.Yteaahdakammffaa.V
set_option linter.unusedVariables false
set_option linter.unusedSimpArgs false
/-- Where a number stands first, or -1. -/
noncomputable def indexOf (z : List Int) (v : Int) : Int :=
 open Classical in if h : ∃ i : Nat, i < z.length ∧ z.getD i 0 = v ∧ ∀ j, j < i → z.getD j 0 ≠ v then ((Classical.choose h : Nat) : Int) else -1
/-- Where the greatest number stands first. -/
def bestTo (r : List Int) : Nat → Nat
 | 0 => 0
 | k + 1 => if r.getD (bestTo r k) 0 < r.getD (k + 1) 0 then k + 1 else bestTo r k
def best (r : List Int) : Nat := bestTo r (r.length - 1)
/-- Parts. -/
def pws (z : List Int) : List Int := if z.sum = 0 then List.replicate z.length 1 else z
def pout (z : List Int) : List Int := (pws z).map fun w => 60 * w / (pws z).sum
def prest (z : List Int) : List Int := (pws z).map fun w => 60 * w % (pws z).sum
section
variable {z : List Int} {i : Nat}
end
def round (s : List Int × List Int) : List Int × List Int := (s.1.set (best s.2) (s.1.getD (best s.2) 0 + 1), s.2.set (best s.2) (-1))
def rounds : Nat → List Int × List Int → List Int × List Int
 | 0, s => s
 | n + 1, s => rounds n (round s)
noncomputable def partsOf (z : List Int) : List Int := (rounds (60 - (pout z).sum).toNat (pout z, prest z)).1
noncomputable def partsAt (z : List Int) : List Int × Int := if (1 ≤ z.length ∧ z.length ≤ 4) ∧ z.all (inB 0 1000000000) = true then (partsOf z, 0) else ([], 2)
end Go.Proofs.Yteaahdakammffaa.Math
/- Contracts of parts of weights. Their conditions stand in each. -/
namespace Go.Proofs.Yteaahdakammffaa
open Go Go.RowKit V
set_option linter.unusedVariables false
set_option linter.unusedSimpArgs false
set_option maxRecDepth 100000
end Go.Proofs.Yteaahdakammffaa
/- The engine: arrays of four numbers, slices of truth values, bits, rows that share what they lead to. No condition. -/
namespace Go.Proofs.Yteaahdakammffaa.V
open Go Go.RowKit
set_option linter.unusedVariables false
set_option linter.unusedSimpArgs false
/-- Numbers, sorted. -/
def srt (zs : List Int) : List Int := zs.mergeSort fun x y => decide (x ≤ y)
/-- Arrays of four numbers. -/
def a4K : RK (List Int) := ⟨fun x _ => [.int .i64 (x.getD 0 0), .int .i64 (x.getD 1 0), .int .i64 (x.getD 2 0), .int .i64 (x.getD 3 0)], fun _ => [], 4⟩
theorem a4K.ok : a4K.Ok := ⟨fun _ _ => rfl, fun x h v hv => by simp [a4K] at hv; rcases hv with rfl | rfl | rfl | rfl <;> rfl, by decide⟩
/-- Truth values. -/
def boK : RK Bool := ⟨fun x _ => [.bool x], fun _ => [], 1⟩
theorem boK.ok : boK.Ok := ⟨fun _ _ => rfl, fun x h v hv => by simp [boK] at hv; subst hv; rfl, by decide⟩
section
variable {P : Program} {n : Cx} {w0 : World} {M : Nat → Prop} {L : List (World → Prop)} {σ : Fr} {K : Ko} {ops : Array Oper} {S : World → Prop} {r : Sch} {i : Nat}
variable {d : Nat} {t ty yt : TypeId} {p : String} {af : Array Edge} {g : Option (Nat × Bool)} {a b : Operand}
theorem shrU {x y : Int} {k2 : IntKind} (ho : ops[i]? = some ⟨some d, .binOp .shr ty a b yt, t, p, af, g⟩) (hg : go ops σ g) (ha : ev σ a = .int .u64 x) (hb : ev σ b = .int k2 y) (hr : 0 ≤ y ∧ y ≤ 64) (h : RG P n w0 M ops S L r (upd σ d (.int .u64 (x / 2 ^ y.toNat))) K) : RG P n w0 M ops S L (.op .q i r) σ K :=
  rQ ho hg (fun w _ => by
    have := Go.shift_shr .u64 k2 x y hr.1 hr.2
    simp [execOp, ha, hb, eqGuard, binOp_shr, this]) h
theorem shlU {y : Int} {k2 : IntKind} (ho : ops[i]? = some ⟨some d, .binOp .shl ty a b yt, t, p, af, g⟩) (hg : go ops σ g) (ha : ev σ a = .int .u64 1) (hb : ev σ b = .int k2 y) (hr : 0 ≤ y ∧ y ≤ 63) (h : RG P n w0 M ops S L r (upd σ d (.int .u64 ((2 ^ y.toNat : Nat) : Int))) K) : RG P n w0 M ops S L (.op .q i r) σ K :=
  rQ ho hg (fun w _ => by
    have h1 := Go.shift_shl .u64 k2 1 y hr.1 (show y ≤ (IntKind.u64.bits : Int) by show y ≤ 64; omega)
    have h2 : IntKind.u64.wrap (1 * 2 ^ y.toNat) = ((2 ^ y.toNat : Nat) : Int) := by
      have h3 : 2 ^ y.toNat ≤ 2 ^ 63 := Nat.pow_le_pow_right (by decide) (by omega)
      rw [IntKind.wrap_u64, Int.one_mul]
      have h4 : ((2 : Int) ^ y.toNat) = ((2 ^ y.toNat : Nat) : Int) := by push_cast; rfl
      rw [h4]
      have h5 : 2 ^ y.toNat ≤ 9223372036854775808 := h3
      clear h3 h4 h1 h
      generalize (2 ^ y.toNat : Nat) = m at h5 ⊢
      omega
    simp only [execOp, ha, hb, eqGuard, binOp_shl, Sem.run_bind, Sem.run_pure, Result.andThen_ok]
    rw [h1, h2]
    simp) h
theorem andU {x : Int} (ho : ops[i]? = some ⟨some d, .binOp .and ty a b yt, t, p, af, g⟩) (hg : go ops σ g) (ha : ev σ a = .int .u64 x) (hb : ev σ b = .int .u64 1) (hr : 0 ≤ x ∧ x ≤ 18446744073709551615) (h : RG P n w0 M ops S L r (upd σ d (.int .u64 (x % 2))) K) : RG P n w0 M ops S L (.op .q i r) σ K :=
  rQ ho hg (fun w _ => by
    have h1 : bits .and .u64 x 1 = x % 2 := by
      obtain ⟨m, rfl⟩ := Int.eq_ofNat_of_zero_le hr.1
      have hm : m < 2 ^ 64 := by have := hr.2; omega
      show IntKind.u64.wrap ((BitVec.ofInt 64 (m : Int) &&& BitVec.ofInt 64 1).toNat : Int) = _
      have h2 : (BitVec.ofInt 64 (m : Int) &&& BitVec.ofInt 64 1).toNat = m % 2 := by
        rw [BitVec.toNat_and, BitVec.ofInt_natCast, BitVec.toNat_ofNat, Nat.mod_eq_of_lt hm]
        show m &&& 1 = m % 2
        exact Nat.and_one_is_mod m
      rw [h2, IntKind.wrap_u64]; omega
    simp [execOp, ha, hb, eqGuard, binOp_and, intBits_and, h1]) h
theorem orU {x y : Nat} (ho : ops[i]? = some ⟨some d, .binOp .or ty a b yt, t, p, af, g⟩) (hg : go ops σ g) (ha : ev σ a = .int .u64 (x : Int)) (hb : ev σ b = .int .u64 (y : Int)) (hr : x < 2 ^ 64 ∧ y < 2 ^ 64) (h : RG P n w0 M ops S L r (upd σ d (.int .u64 ((x ||| y : Nat) : Int))) K) : RG P n w0 M ops S L (.op .q i r) σ K :=
  rQ ho hg (fun w _ => by
    have h1 : bits .or .u64 (x : Int) (y : Int) = ((x ||| y : Nat) : Int) := by
      show IntKind.u64.wrap ((BitVec.ofInt 64 (x : Int) ||| BitVec.ofInt 64 (y : Int)).toNat : Int) = _
      have h2 : (BitVec.ofInt 64 (x : Int) ||| BitVec.ofInt 64 (y : Int)).toNat = x ||| y := by
        rw [BitVec.toNat_or, BitVec.ofInt_natCast, BitVec.ofInt_natCast, BitVec.toNat_ofNat, BitVec.toNat_ofNat, Nat.mod_eq_of_lt hr.1, Nat.mod_eq_of_lt hr.2]
      have h3 : x ||| y < 2 ^ 64 := Nat.or_lt_two_pow hr.1 hr.2
      rw [h2, IntKind.wrap_u64]; omega
    simp [execOp, ha, hb, eqGuard, binOp_or, intBits_or, h1]) h
end
/-- Rows whose own cells are owned, and which lead to what other rows lead to. -/
def SubR (e : Nat) (Ha : Nat → Hd) (all : List (List Int)) (a : Option Addr) (n c : Nat) (hs : Nat → Hd) (xs : List (List Int)) : World → Prop := fun w =>
  (Own e 1 a n c (rowsV maK hs xs).flatten w ∧ xs.length = n) ∧ ∀ i x, xs[i]? = some x → ∃ j, all[j]? = some x ∧ hs i = Ha j
section
variable {w0 : World} {M : Nat → Prop} {L : List (World → Prop)} {w : World} {e e1 e2 : Nat} {Ha : Nat → Hd} {all : List (List Int)} {a aa : Option Addr} {n c na ca : Nat} {hs : Nat → Hd} {xs : List (List Int)}
end
section
variable {P : Program} {n : Cx} {w0 : World} {M : Nat → Prop} {L : List (World → Prop)} {σ : Fr} {K : Ko} {ops : Array Oper} {S : World → Prop} {r : Sch} {i : Nat}
variable {d : Nat} {t ty yt : TypeId} {p : String} {af : Array Edge} {g : Option (Nat × Bool)} {a b : Operand}
end
section
variable {P : Program} {n : Cx} {w0 : World} {M : Nat → Prop} {L L' : List (World → Prop)} {σ : Fr} {K K' : Ko} {c x y : Code} {ops : Array Oper} {S : World → Prop} {r : Sch} {i : Nat}
variable {d : Nat} {t : TypeId} {p : String} {af : Array Edge} {g : Option (Nat × Bool)}
end
/-- The head of an owned slice of numbers, read. -/
theorem slHil {P : Program} {nn : Cx} {w0 : World} {M : Nat → Prop} {L : List (World → Prop)} {σ : Fr} {K : Ko} {ops : Array Oper} {S : World → Prop} {r : Sch} {i : Nat} {d : Nat} {t : TypeId} {p : String} {af : Array Edge} {g : Option (Nat × Bool)} {ao bo : Operand} {e ty N C : Nat} {a : Option Addr} {zs : List Int} {z : Int} {kk : IntKind} (j : Nat) (hj : L[j]? = some (OwnI e a N C zs)) (hE : Elt P ty 1) (ho : ops[i]? = some ⟨some d, .slice ty ao none (some bo) none, t, p, af, g⟩) (hg : go ops σ g) (ha : ev σ ao = .slice a N C) (hb : ev σ bo = .int kk z) (h0 : 0 ≤ z) (h1 : z ≤ N) {zn : Nat} (hzn : z.toNat = zn)
    (h : Kn w0 M L (RdI a zn (zs.take zn)) → RG P nn w0 M ops S L r (upd σ d (.slice a zn C)) K) : RG P nn w0 M ops S L (.op .q i r) σ K := fun w hw => by
  have hown : OwnI e a N C zs w := hw.at_ j hj
  subst hzn
  obtain ⟨e', he, hs'⟩ := hE
  have hNC : N ≤ C := by
    rcases hown.2 with ⟨hv, h0'⟩ | ⟨g', cap, cur, hv, _, _, hnc, _⟩
    · omega
    · cases hv; exact hnc
  refine rQ (v := .slice a z.toNat C) ho hg (fun w' hw' => ?_) (h fun w' hw' => ?_) w hw
  · have hzc : z ≤ C := by omega
    have hadd : a.map (fun x => x.add 0) = a := by cases a <;> simp [Addr.add]
    simp [execOp, ha, hb, Instr.sliceAt, Instr.slice, Instr.sliceBounds, Instr.sliceBound, asIntOf, he w', hs' w', h0, h1, hzc, hadd]
  · have hrd : RdI a N zs w' := OwnI.rd (hw'.at_ j hj)
    refine ⟨by rw [List.length_take, hrd.1]; omega, by have := hrd.2.1; omega, fun k v hk => hrd.2.2 k v ?_⟩
    rw [show iv (zs.take z.toNat) = (iv zs).take z.toNat from by simp [iv, List.map_take]] at hk
    have := (List.getElem?_eq_some_iff.1 hk).1
    rw [List.length_take] at this
    rwa [List.getElem?_take_of_lt (by omega)] at hk
end Go.Proofs.Yteaahdakammffaa.V
/- The library's iterator over a slice, what collects it, and the sort: contracts at this dump. -/
namespace Go.Proofs.Yteaahdakammffaa.It
open Go Go.Proofs Go.RowKit Go.Shelf Go.Sort
set_option linter.unusedVariables false
set_option linter.unusedSimpArgs false
attribute [local go_sem] Oper.semAt_some
def vInt : Value → Int | .int _ q => q | _ => 0
def upto {α : Type} (f : Nat → α) (k : Nat) : List α := (List.range k).map f
/-- A slice value that holds numbers, in a block below n₀; or it is empty. -/
def Ints (n₀ : Nat) (W : World) (sv : Value) (zs : List Int) : Prop :=
 (∃ p cap, sv = .slice p 0 cap ∧ zs = []) ∨ ∃ b off cap, sv = .slice (some ⟨b, off, none⟩) zs.length cap ∧ b < n₀ ∧ ∀ j, j < zs.length → W.cell? ⟨b, off + j, none⟩ = some (.int .i64 (zs[j]?.getD 0))
theorem Ints.below {n₀ : Nat} {A B : World} (h : Below n₀ A B) {sv : Value} {zs : List Int} : Ints n₀ A sv zs → Ints n₀ B sv zs
 | .inl e => .inl e
 | .inr ⟨b, off, cap, e, hb, hc⟩ => .inr ⟨b, off, cap, e, hb, fun j hj => (h.cell (p := ⟨b, off + j, none⟩) hb).trans (hc j hj)⟩
end Go.Proofs.Yteaahdakammffaa.It
/- Contracts of the library that the kit lays, in plain words. Their conditions stand in each. -/
namespace Go.Proofs
open Go.Shelf
def Try.laysSlN31_f98_ren : Go.Shelf.Ren := ⟨fun | 31 => 98 | 29 => 62 | n => n, fun | 22 => 23 | 23 => 2 | 4 => 4 | 3 => 3 | 0 => 0 | n => n, fun | n => n⟩
theorem Try.laysSlN31_f98 : Go.Proofs.SlLaysN.n31 Try.prog Try.laysSlN31_f98_ren := {
 mixed := by kernel_rfl
 f29 := ⟨Try.f62.name, by decide, Try.func62.trans (congrArg some (by kernel_rfl))⟩
 f31 := ⟨Try.f98.name, by decide, Try.func98.trans (congrArg some (by kernel_rfl))⟩
 t0 := Try.underlying0
 a0 := Try.isAgg0
 z0 := Try.sizeOf0
 v0 := Try.zeroValue0
 t3 := Try.underlying3
 a3 := Try.isAgg3
 z3 := Try.sizeOf3
 v3 := Try.zeroValue3
 t4 := Try.underlying4
 a4 := Try.isAgg4
 z4 := Try.sizeOf4
 v4 := Try.zeroValue4
 t22 := Try.underlying23
 a22 := Try.isAgg23
 z22 := Try.sizeOf23
 v22 := Try.zeroValue23
 t23 := Try.underlying2
 a23 := Try.isAgg2
 z23 := Try.sizeOf2
 v23 := Try.zeroValue2 }
open Go.Lib in
theorem Try.slices_Contains_int (b off n c : Nat) (zs : List Int) (x : Int) (w : World) (hz : n ≤ zs.length) (hbig : n ≤ 9223372036854775807) (hc : ∀ j, j < zs.length → w.cell? ⟨b, off + j, none⟩ = some (.int .i64 (zs.getD j 0))) :
  Calls Try.prog 98 #[.slice (some ⟨b, off, none⟩) n c, .int .i64 x] w fun e w' => e = .returned (.bool ((zs.take n).contains x)) ∧ w' = w := AnyG.slices_Contains_int Try.laysSlN31_f98 b off n c zs x w hz hbig hc
open Go.Lib in
theorem Try.slices_Contains_int_empty (a : Option Addr) (c : Nat) (x : Int) (w : World) :
  Calls Try.prog 98 #[.slice a 0 c, .int .i64 x] w fun e w' => e = .returned (.bool false) ∧ w' = w := AnyG.slices_Contains_int_empty Try.laysSlN31_f98 a c x w
def Try.laysSlN33_f82_ren : Go.Shelf.Ren := ⟨fun | 33 => 82 | n => n, fun | 22 => 23 | 23 => 2 | 4 => 4 | 3 => 3 | 0 => 0 | n => n, fun | n => n⟩
def Try.laysSlN43_f135_ren : Go.Shelf.Ren := ⟨fun | 43 => 135 | n => n, fun | 22 => 23 | 23 => 2 | 3 => 3 | 4 => 4 | 0 => 0 | n => n, fun | n => n⟩
def Try.laysSlM5_f126_ren : Go.Shelf.Ren := ⟨fun | 5 => 126 | 8 => 152 | 7 => 151 | 19 => 178 | 20 => 179 | 10 => 169 | 11 => 170 | 12 => 171 | 13 => 172 | 14 => 173 | 15 => 174 | 16 => 175 | 17 => 176 | 18 => 177 | 30 => 182 | 31 => 183 | 32 => 184 | 33 => 185 | 34 => 186 | 35 => 187 | 40 => 188 | n => n, fun | 23 => 23 | 25 => 2 | 3 => 3 | 32 => 80 | 22 => 23 | 0 => 0 | 44 => 167 | 46 => 40 | 4 => 4 | 36 => 159 | 35 => 158 | 41 => 164 | 5 => 5 | 9 => 9 | 53 => 169 | 57 => 173 | 63 => 175 | 64 => 176 | n => n, fun | n => n⟩
end Go.Proofs
/- The library's functions on slices of numbers, in the engine's form: sort, what an iterator gives sorted, equal, contains, compact. -/
namespace Go.Proofs.Yteaahdakammffaa.V
open Go Go.RowKit Go.Sort
set_option linter.unusedVariables false
set_option linter.unusedSimpArgs false
def SortC (P : Program) (f : Nat) : Prop :=
  (∀ (blk off cap : Nat) (zs : List Int) (w : World), Holds (Value.int .i64) w blk off zs.toArray → blk < w.heap.size → zs.length < 4611686018427387904 →
    Calls P f #[.slice (some ⟨blk, off, none⟩) zs.length cap] w fun e w' => e = .returned (.tuple #[]) ∧ ∃ n os, w' = grow (putRow (Value.int .i64) (Sort.ahead w n) blk off (srt zs).toArray) os) ∧
  ∀ (p : Option Addr) (cap : Nat) (w : World), Calls P f #[.slice p 0 cap] w fun e w' => e = .returned (.tuple #[]) ∧ w' = w
theorem OwnI.row {e n c : Nat} {a : Option Addr} {zs : List Int} {w : World} (h : OwnI e a n c zs w) : (a = none ∧ n = 0 ∧ zs = []) ∨ ∃ g cur, a = some ⟨g, 0, none⟩ ∧ w.heap[g]? = some (.cells cur e (0, 0)) ∧ n ≤ c ∧ c ≤ maxLen ∧ cur.size = c * 1 ∧ cur.toList.take n = zs.map (Value.int .i64) := by
  have hl := h.lenz
  rcases h.2 with ⟨h1, h2⟩ | ⟨g, cap, cur, hv, _, hg, h3, h4, h5, h6⟩
  · injection h1 with h1 h1' h1''
    exact .inl ⟨h1, h2, List.eq_nil_of_length_eq_zero (by omega)⟩
  · injection hv with hv1 hv2 hv3
    subst hv3
    refine .inr ⟨g, cur, hv1, hg, h3, h4, h5, ?_⟩
    rw [Nat.mul_one] at h6; exact h6
section
variable {P : Program} {n : Cx} {w0 : World} {M : Nat → Prop} {L : List (World → Prop)} {σ : Fr} {K : Ko} {ops : Array Oper} {S : World → Prop} {r : Sch} {i : Nat}
variable {d : Nat} {t : TypeId} {p : String} {af : Array Edge} {g : Option (Nat × Bool)} {a b : Operand}
/-- What Compact says. -/
def CmpC (P : Program) (f : Nat) : Prop :=
  (∀ (blk off cap : Nat) (zs : List Int) (w : World), Holds (Value.int .i64) w blk off zs.toArray → zs.length ≤ 9223372036854775807 → zs.length ≤ cap →
    Calls P f #[.slice (some ⟨blk, off, none⟩) zs.length cap] w fun e w' => e = .returned (.slice (some ⟨blk, off, none⟩) (Lib.compact zs).length cap) ∧ ∃ q, w' = putRow (Value.int .i64) (Sort.ahead w q) blk off (Lib.compact zs ++ List.replicate (zs.length - (Lib.compact zs).length) 0).toArray) ∧
  ∀ (a : Option Addr) (cap : Nat) (w : World), Calls P f #[.slice a 0 cap] w fun e w' => e = .returned (.slice a 0 cap) ∧ w' = w
theorem Own.pre {e n c k : Nat} {a : Option Addr} {xs : List Value} {w : World} (h : Own e 1 a n c xs w) (hk : k ≤ n) : Own e 1 a k c (xs.take k) w := by
  have hl := h.len
  rcases h.2 with ⟨h1, h2⟩ | ⟨g, cap, cur, hv, hb, hg, h3, h4, h5, h6⟩
  · injection h1 with h1 _ h1'
    subst h1; subst h1'
    obtain rfl : k = 0 := by omega
    rw [List.take_zero]; exact Own.nil e 1 w
  · injection hv with hv1 _ hv2
    subst hv2
    refine ⟨by rw [List.length_take]; omega, .inr ⟨g, c, cur, by rw [hv1], hb, hg, by omega, h4, h5, ?_⟩⟩
    rw [← h6, Nat.mul_one, Nat.mul_one, List.take_take, Nat.min_eq_left hk]
end
end Go.Proofs.Yteaahdakammffaa.V
namespace Go.Proofs.Yteaahdakammffaa
open Go Go.RowKit V
theorem RdI.cells {a : Option Addr} {n : Nat} {zs : List Int} {w : World} (h : RdI a n zs w) (hn : 0 < n) : ∃ b off, a = some ⟨b, off, none⟩ ∧ b < w.heap.size ∧ ∀ j, j < zs.length → w.cell? ⟨b, off + j, none⟩ = some (.int .i64 (zs.getD j 0)) := by
  have hl := h.1
  obtain ⟨b, off, ha, hc⟩ := h.2.2 0 (.int .i64 (zs.getD 0 0)) (iv_get (by omega))
  refine ⟨b, off, ha, ?_, fun j hj => ?_⟩
  · rcases Nat.lt_or_ge b w.heap.size with hb | hb
    · exact hb
    · simp [World.cell?, Array.getElem?_eq_none hb] at hc
  · obtain ⟨b', off', ha', hc'⟩ := h.2.2 j (.int .i64 (zs.getD j 0)) (iv_get hj)
    rw [ha] at ha'; cases ha'
    exact hc'
theorem contains_c (az : Option Addr) (nz cz : Nat) (z : List Int) (x : Int) (w : World) (rz : RdI az nz z w) : Calls Try.prog 98 #[.slice az nz cz, .int .i64 x] w (Ret fun v w' => v = .bool (z.contains x) ∧ Ext w w') := by
  have hl := rz.1
  rcases Nat.eq_zero_or_pos nz with h0 | h0
  · subst h0
    have hz : z = [] := List.eq_nil_of_length_eq_zero hl
    subst hz
    exact Calls.mono (Try.slices_Contains_int_empty az cz x w) fun e w' ⟨he, hw⟩ => ⟨_, he, rfl, by subst hw; exact Upd.refl _ _⟩
  · obtain ⟨b, off, rfl, hb, hc⟩ := RdI.cells rz h0
    exact Calls.mono (Try.slices_Contains_int b off nz cz z x w (by omega) rz.2.1 hc) fun e w' ⟨he, hw⟩ => ⟨_, he, by rw [List.take_of_length_le (by omega)], by subst hw; exact Upd.refl _ _⟩
end Go.Proofs.Yteaahdakammffaa
/- slices.Grow of nil: an owned slice with room. Condition: at most 3000000 elements. -/
namespace Go.Proofs.Yteaahdakammffaa
open Go Go.RowKit Go.Lib V
set_option linter.unusedVariables false
set_option linter.unusedSimpArgs false
set_option maxRecDepth 100000
theorem grow_zero (w : World) : Calls Try.prog 134 #[.slice none 0 0, .int .i64 0] w fun e w' => e = .returned (.slice none 0 0) ∧ w' = w := by
  go_enter Try.func134, Try.ntmps134
  go_wp2
  go_ret
  exact ⟨rfl, rfl⟩
set_option maxHeartbeats 4000000 in
theorem grow_some (n : Nat) (hn : n ≤ 3000000) (h0 : 0 < n) (w : World) : Calls Try.prog 134 #[.slice none 0 0, .int .i64 (n : Int)] w fun e w' => ∃ (c : Nat) (cur : Array Value), e = .returned (.slice (some ⟨w.heap.size, 0, none⟩) 0 c) ∧ w' = w.drew.alloc (.cells cur 2) ∧ cur.size = c ∧ c ≤ 9223372036854775807 := by
  have h1 : ¬ ((n : Int) < 0) := by omega
  have h3 : wrap64 ((n : Int) - 0) = (n : Int) := by unfold wrap64; omega
  have h3' : wrap64 (n : Int) = (n : Int) := by unfold wrap64; omega
  have h4 : (n : Int) > 0 := by omega
  have hrz : ∀ ty, (Builtin.append_ #[23, 3] ty #[.slice none 0 0, .int .i64 (n : Int)]).run Try.prog w =
      .ok (.slice (some ⟨w.heap.size, 0, none⟩) (0 + n) (grownCap w (0 + n) 0 2)) (w.drew.alloc (.cells ((#[] : Array Value) ++ Builtin.zeroCells #[Value.int .i64 0] n ++ Builtin.zeroCells #[Value.int .i64 0] (grownCap w (0 + n) 0 2 - (0 + n))) 2)) := fun ty => by
    have h := Lib.run_append_grow_zeros (P := Try.prog) w 23 3 ty 2 Try.t2 (.int .i64 0) .i64 .i64 Try.underlying23 Try.underlying3 (by kernel_rfl) rfl none 0 0 [] (run_firstCells_none w.drew 1 0 0 0) n h0 (by decide) (by omega) (by omega)
      (show n * 8 ≤ _ by omega)
      (by exact growslice_fits (by omega) (show (0 + n) * 8 ≤ 140737488355328 by omega))
    exact h
  have hGn : n ≤ grownCap w (0 + n) 0 2 := by have := grownCap_ge w (0 + n) 0 2; omega
  obtain ⟨G, hG⟩ : ∃ G, G = grownCap w (0 + n) 0 2 := ⟨_, rfl⟩
  rw [← hG] at hrz hGn
  have hG63 : G ≤ 9223372036854775807 := by
    have := grownCap_le_maxLen w (0 + n) 0 2 (by unfold maxLen; omega)
    rw [← hG] at this
    unfold maxLen at this
    omega
  clear hG
  simp only [Nat.zero_add] at hrz
  go_enter Try.func134, Try.ntmps134
  go_wp2_with (at_builtin; refine Lib.wpList_append_run _ rfl _ _ _ _ rfl _ _ rfl rfl _ _ (hrz _) ?_)
  all_goals (go_ret; exact ⟨G, rfl, _, rfl, by simp [Builtin.zeroCells]; omega, hG63⟩)
theorem grow_c (n : Nat) (w : World) (hn : n ≤ 3000000) : Calls Try.prog 134 #[.slice none 0 0, .int .i64 (n : Int)] w (Ret fun v w' => ∃ x : Option Addr × Nat, v = .slice x.1 0 x.2 ∧ True ∧ Sep w none_ [OwnI 2 x.1 0 x.2 []] w') := by
  rcases Nat.eq_zero_or_pos n with h0 | h0
  · subst h0
    exact Calls.mono (grow_zero w) fun e w' ⟨he, hw⟩ => ⟨_, he, (none, 0), rfl, trivial, by
      subst hw
      exact (Sep.start w' none_).push (Upd.refl _ _) (Own.St (Own.nil _ 1 w') fun b hb => by cases hb)⟩
  · refine Calls.mono (grow_some n hn h0 w) fun e w' ⟨c, cur, he, hw, hs, hc⟩ => ⟨_, he, (some ⟨w.heap.size, 0, none⟩, c), rfl, trivial, ?_⟩
    subst hw
    refine (Sep.start w none_).push ((Ext.drew w).trans (Ext.alloc w.drew _)) (Own.St (xs := iv []) ?_ fun b hb => by cases hb; exact ⟨Nat.le_refl _, by show w.drew.heap.size < _; simp⟩)
    exact ⟨by simp [iv], .inr ⟨w.heap.size, c, cur, rfl, Nat.zero_le _, heap_alloc_new w.drew _, Nat.zero_le _, hc, by simpa using hs, by simp [iv]⟩⟩
end Go.Proofs.Yteaahdakammffaa
/- The engine, part 14: arrays of four that are compared, read through a slice, sliced. No condition. -/
namespace Go.Proofs.Yteaahdakammffaa.V
open Go Go.RowKit
set_option linter.unusedVariables false
set_option linter.unusedSimpArgs false
def a4v (x0 x1 x2 x3 : Int) : List Value := [.int .i64 x0, .int .i64 x1, .int .i64 x2, .int .i64 x3]
/-- Arrays of four numbers are compared part by part. -/
def Eq4 (P : Program) (ty : TypeId) : Prop := P.eqGuardType P.depth ty = false ∧ ∀ (w : World) (x0 x1 x2 x3 y0 y1 y2 y3 : Int), (Op.equalIn 10000 ty (.agg (a4v x0 x1 x2 x3).toArray) (.agg (a4v y0 y1 y2 y3).toArray)).run P w = .ok (decide ([x0, x1, x2, x3] = [y0, y1, y2, y3])) w
section
variable {P : Program} {n : Cx} {w0 : World} {M : Nat → Prop} {L : List (World → Prop)} {σ : Fr} {K : Ko} {ops : Array Oper} {S : World → Prop} {r : Sch} {i : Nat}
variable {d : Nat} {t ty yt : TypeId} {p : String} {af : Array Edge} {g : Option (Nat × Bool)} {a b : Operand}
end
section
variable {P : Program} {n : Cx} {w0 : World} {M : Nat → Prop} {L L' Lf Lr : List (World → Prop)} {σ : Fr} {K K' : Ko} {c x y : Code} {ops : Array Oper} {S : World → Prop} {r : Sch} {i : Nat}
variable {d : Nat} {t : TypeId} {p : String} {af : Array Edge} {g : Option (Nat × Bool)} {a b : Operand}
theorem callMR {α : Type} {f : FuncId} {args : Array Operand} {tys : Array TypeId} {val : α → Value} {good : α → Prop} {φs : α → List (World → Prop)} (hL : L = Lf ++ Lr) (hf : ∀ args w, (callFunc f args).run P w = .ok (.enter f args) w) (hS : ∀ x w, Sep w0 M (φs x ++ Lr) w → S w) (ho : ops[i]? = some ⟨some d, .call ⟨.value (.func f), args, tys⟩, t, p, af, g⟩) (hg : go ops σ g)
    (hc : ∀ w M0, Sep w M0 Lf w → (∀ φ, Kn w0 M Lr φ → Kn w M0 [] φ) → Calls P f (args.toList.map (ev σ)).toArray w (Ret fun v' w' => ∃ x, v' = val x ∧ good x ∧ Sep w M0 (φs x) w')) (h : ∀ x, good x → RG P n w0 M ops S (φs x ++ Lr) r (upd σ d (val x)) K) : RG P n w0 M ops S L (.op .l i r) σ K := by
  subst hL
  exact rL (Lx := fun x => φs x ++ Lr) (v := val) hS ho hg (fun w hs => by
    obtain ⟨M0, h1, h2⟩ := hs.focus
    refine call_opw hf (hc w M0 h1 fun φ hk w' hs' => hk w' (h2 [] w' hs')) fun v' w' ⟨x, he, hx, hsep⟩ => by subst he; exact ⟨x, hx, h2 _ _ hsep, rfl⟩) h
theorem Kn.nil {w0 : World} {M : Nat → Prop} {L : List (World → Prop)} {φ : World → Prop} (h : Kn w0 M [] φ) : Kn w0 M L φ := fun w hs => h w (hs.sub (List.nil_sublist _))
/-- The head of an owned slice, owned. -/
theorem OwnI.take {e : Nat} {q : Option Addr} {N C k : Nat} {zs : List Int} {w : World} (h : OwnI e q N C zs w) (hk : k ≤ N) (hq : q.isSome = true ∨ k = N) : OwnI e q k C (zs.take k) w := by
  have hl := h.lenz
  obtain ⟨h1, h2 | ⟨g', cap, cur, h2, h3, h4, h5, h6, h7, h8⟩⟩ := h
  · obtain ⟨h2, h3⟩ := h2
    cases h2
    have : k = 0 := by omega
    subst this
    exact ⟨by simp [iv], .inl ⟨rfl, rfl⟩⟩
  · cases h2
    refine ⟨by simp [iv]; omega, .inr ⟨g', C, cur, rfl, h3, h4, by omega, h6, h7, ?_⟩⟩
    rw [show iv (zs.take k) = (iv zs).take (k * 1) from by simp [iv, List.map_take], ← h8, List.take_take, Nat.min_eq_left (by omega)]
theorem slHiO {ty e N C : Nat} {q : Option Addr} {zs : List Int} {z : Int} {kk : IntKind} (j : Nat) (hj : L[j]? = some (OwnI e q N C zs)) (hE : Elt P ty 1) (ho : ops[i]? = some ⟨some d, .slice ty a none (some b) none, t, p, af, g⟩) (hg : go ops σ g) (ha : ev σ a = .slice q N C) (hb : ev σ b = .int kk z) (h0 : 0 ≤ z) (h1 : z ≤ N) {zn : Nat} (hzn : z.toNat = zn) (hz : 0 < N)
    (h : RG P n w0 M ops S (L.set j (OwnI e q zn C (zs.take zn))) r (upd σ d (.slice q zn C)) K) : RG P n w0 M ops S L (.op .q i r) σ K :=
  slHil j hj hE ho hg ha hb h0 h1 hzn fun _ => rPieces (fun w hs => hs.imp j hj fun w hw => OwnI.take hw (by omega) (.inl (by
    rcases hw.2 with ⟨h2, h3⟩ | ⟨g', cap, cur, h2, _⟩
    · cases h2; omega
    · cases h2; rfl))) h
end
end Go.Proofs.Yteaahdakammffaa.V
namespace Go.Proofs.Yteaahdakammffaa
open Go Go.RowKit V
set_option linter.unusedVariables false
set_option linter.unusedSimpArgs false
set_option maxRecDepth 100000
end Go.Proofs.Yteaahdakammffaa
/- The engine, part 16: ranges over a function: loops over what an iterator hands out, and iterators. No condition. -/
namespace Go.Proofs.Yteaahdakammffaa.V
open Go Go.RowKit
set_option linter.unusedVariables false
set_option linter.unusedSimpArgs false
/-- An object known whole. -/
def ob (b : Nat) (o : Obj) : World → Prop := fun w => w.heap[b]? = some o
def notMap : Obj → Bool
  | .map .. => false
  | _ => true
theorem ob.St {b : Nat} {o : Obj} {w : World} (h : ob b o w) {f : Nat → Prop} (hf : f b) : V.St f (ob b o) w := fun w' ha => by
  unfold ob at *; rw [ha b hf]; exact h
theorem ob.mem {b : Nat} {o : Obj} {w : World} {f : Nat → Prop} (ho : notMap o = true) (h : V.St f (ob b o) w) : f b := by
  refine Classical.byContradiction fun hn => ?_
  have h1 : ob b o w := h.out
  have hlt : b < w.heap.size := (Array.getElem?_eq_some_iff.1 h1).1
  have h2 := h { w with heap := w.heap.setIfInBounds b (.map #[] 0) } fun k hk => by
    have : b ≠ k := fun e => hn (e ▸ hk)
    show (w.heap.setIfInBounds b (.map #[] 0))[k]? = _
    rw [Array.getElem?_setIfInBounds_ne this]
  unfold ob at h2
  simp [hlt] at h2
  subst h2
  cases ho
section
variable {w0 : World} {M : Nat → Prop} {L L' Lf Lr J A : List (World → Prop)} {w w' : World}
theorem Sep.pushOb (h : Sep w0 M L w) (o : Obj) : Sep w0 M (ob w.heap.size o :: L) (w.alloc o) :=
  h.push (Ext.alloc w _) (ob.St (World.alloc_heap_new w o) ⟨Nat.le_refl _, by simp⟩)
theorem Upd.putObj {f : Nat → Prop} (w : World) {b : Nat} (o : Obj) (hb : f b) : Upd f w (w.putObj b o) := ⟨rfl, rfl, rfl, by simp, fun k hk hn => World.putObj_heap_other fun e => hn (e ▸ hb)⟩
theorem Sep.put (h : Sep w0 M L w) (i : Nat) {b : Nat} {o : Obj} (hi : L[i]? = some (ob b o)) (ho : notMap o = true) (o' : Obj) : Sep w0 M (L.set i (ob b o')) (w.putObj b o') :=
  h.change i hi fun f hf => ⟨f, fun _ h => .inl h, ob.St (World.putObj_heap_same (Array.getElem?_eq_some_iff.1 hf.out).1) (ob.mem ho hf), Upd.putObj w o' (ob.mem ho hf)⟩
/-- The last pieces by themselves. -/
theorem Sep.focusR (h : Sep w0 M (Lr ++ Lf) w) : ∃ M0, Sep w M0 Lf w ∧ ∀ (L' : List (World → Prop)) (w' : World), Sep w M0 L' w' → Sep w0 M (Lr ++ L') w' := by
  obtain ⟨M0, h1, h2⟩ := (h.perm List.perm_append_comm).focus
  exact ⟨M0, h1, fun L' w' h' => (h2 L' w' h').perm List.perm_append_comm⟩
/-- Some of the first 'k' pieces, and all behind them. -/
theorem Sep.pickT (k : Nat) (is : List Nat) (h : Sep w0 M L w) : Sep w0 M (pickL is (L.take k) ++ L.drop k) w := by
  have h1 : Sep w0 M (L.drop k ++ L.take k) w := by
    refine h.perm ?_
    conv => lhs; rw [← List.take_append_drop k L]
    exact List.perm_append_comm
  obtain ⟨M0, h2, h3⟩ := h1.focusR
  exact (h3 _ _ (h2.pick is)).perm List.perm_append_comm
theorem Kn.leave {R : World → Prop} {D : Nat} (j : Nat) (hj : L[j]? = some (ob D (.deferred (some [])))) (h : Kn w0 M (L.eraseIdx j) R) : Kn w0 M L (Leave [mark D] R) := fun w hs => by
  refine ⟨D, rfl, hs.at_ j hj, h _ ?_⟩
  have h1 := hs.put j hj rfl (.deferred none)
  have hjl : j < L.length := (List.getElem?_eq_some_iff.1 hj).1
  have h2 := (h1.perm (pull (i := j) (φ := ob D (.deferred none)) (by rw [List.getElem?_set_self hjl]))).tail
  rwa [List.eraseIdx_set_eq] at h2
end
/-- What a loop over a function keeps of itself. -/
def lrec (fn : FuncId) (tmps : Array Value) (ps : Array Tmp) (assign body : Code) (D : Nat) (st : LoopState) (pe : Option Code) : Obj := .loop { state := st, pending := pe, fn, tmps, params := ps, assign, body, defers := D }
/-- What a round does. -/
def Round (P : Program) (l : Nat) (args : Array Value) (w : World) (R : Value → World → Prop) : Prop :=
  ∃ fn tmps assign body, (Instr.yield l args).run P w = .ok (.round l fn tmps assign body) w ∧ RoundIn Fence.wide 0 P l fn tmps assign body w (Ret R)
theorem Round.mono {P : Program} {l : Nat} {args : Array Value} {w : World} {R R' : Value → World → Prop} (h : Round P l args w R) (hr : ∀ v w', R v w' → R' v w') : Round P l args w R' := by
  obtain ⟨fn, tmps, assign, body, h1, h2⟩ := h
  exact ⟨fn, tmps, assign, body, h1, h2.mono fun e w' ⟨v, he, h⟩ => ⟨v, he, hr v w' h⟩⟩
/-- What a round makes of what it is handed: 'ok' after all that has come, or 'okx' and no more. -/
def Yields (P : Program) (l : Nat) {γ : Type} (all : List (List Int)) (wb : World) (Mb : Nat → Prop) (J Jx : γ → List (World → Prop)) (ok okx : List (List Int) → γ → Prop) : Prop :=
  ∀ (pre : List (List Int)) (x : List Int) (g : γ) (a : Option Addr) (len c : Nat) (w : World) (M0 : Nat → Prop), ok pre g → pre ++ [x] <+: all → Sep w M0 (J g) w → (∀ φ, Kn wb Mb [] φ → Kn w M0 [] φ) → Kn w M0 [] (RdI a len x) →
    Round P l #[.slice a len c] w fun v w' => (∃ g', v = .bool true ∧ ok (pre ++ [x]) g' ∧ Sep w M0 (J g') w') ∨ (∃ g', v = .bool false ∧ okx (pre ++ [x]) g' ∧ Sep w M0 (Jx g') w')
/-- An iterator that hands out 'all', one after the other. -/
def IterC (P : Program) (gf : FuncId) (lb : Array Value) (all : List (List Int)) (w : World) (M : Nat → Prop) : Prop :=
  ∀ (l : Nat) (γ : Type) (J Jx : γ → List (World → Prop)) (ok okx : List (List Int) → γ → Prop) (g0 : γ), Yields P l all w M J Jx ok okx → ok [] g0 → Sep w M (J g0) w →
    Calls P gf (#[.func (.yield l) #[] #[]] ++ lb) w (Ret fun _ w' => (∃ g, ok all g ∧ Sep w M (J g) w') ∨ (∃ pre g, pre <+: all ∧ okx pre g ∧ Sep w M (Jx g) w'))
section
variable {P : Program} {n : Cx} {w0 : World} {M : Nat → Prop} {L L' Lf Lr J A : List (World → Prop)} {σ : Fr} {K K' : Ko} {c x y : Code} {ops : Array Oper} {S : World → Prop} {r : Sch} {i : Nat}
variable {d : Nat} {t : TypeId} {p : String} {af : Array Edge} {g : Option (Nat × Bool)} {a b : Operand}
/-- A call of yield: the last pieces are handed over. -/
theorem callY {α : Type} {l : Nat} {co : Operand} {args : Array Operand} {tys : Array TypeId} {val : α → Value} {good : α → Prop} {φs : α → List (World → Prop)} (hL : L = A ++ J) (hS : ∀ x w, Sep w0 M (A ++ φs x) w → S w)
    (ho : ops[i]? = some ⟨some d, .call ⟨.value co, args, tys⟩, t, p, af, g⟩) (hg : go ops σ g) (hco : ev σ co = .func (.yield l) #[] #[])
    (hc : ∀ w M0, Sep w M0 J w → (∀ φ, Kn w0 M A φ → Kn w M0 [] φ) → Round P l (args.toList.map (ev σ)).toArray w fun v' w' => ∃ x, v' = val x ∧ good x ∧ Sep w M0 (φs x) w')
    (h : ∀ x, good x → RG P n w0 M ops S (A ++ φs x) r (upd σ d (val x)) K) : RG P n w0 M ops S L (.op .l i r) σ K := by
  subst hL
  refine rL (Lx := fun x => A ++ φs x) (v := val) hS ho hg (fun w hs => ?_) h
  obtain ⟨M0, h1, h2⟩ := hs.focusR
  obtain ⟨fn, tmps, assign, body, hy, hR⟩ := hc w M0 h1 fun φ hk w' hs' => hk w' (by simpa using h2 [] w' hs')
  have hr : (execOp (ev σ) ⟨some d, .call ⟨.value co, args, tys⟩, t, p, af, g⟩).run P w = .ok (.round l fn tmps assign body) w := by
    have he : args.map (ev σ) = (args.toList.map (ev σ)).toArray := by rw [← Array.toList_map, Array.toArray_toList]
    simp [execOp, resolve, hco, Deferred.ofValue, invoke, he, hy]
  unfold opw; rw [hr]
  exact hR.mono fun e w' ⟨v, he, x, hv, hx, hsep⟩ => ⟨v, he, x, hx, h2 _ _ hsep, by subst hv; rfl⟩
/-- A call of a closure: it turns the last pieces, and reads what the others know. -/
theorem callC {α : Type} {f : FuncId} {co : Operand} {lb : Array Value} {args : Array Operand} {tys : Array TypeId} {val : α → Value} {good : α → Prop} {φs : α → List (World → Prop)} (hL : L = A ++ J) (hf : ∀ args w, (callFunc f args).run P w = .ok (.enter f args) w) (hS : ∀ x w, Sep w0 M (A ++ φs x) w → S w)
    (ho : ops[i]? = some ⟨some d, .call ⟨.value co, args, tys⟩, t, p, af, g⟩) (hg : go ops σ g) (hco : ev σ co = .func (.func f) #[] lb)
    (hc : ∀ w M0, Sep w M0 J w → (∀ φ, Kn w0 M A φ → Kn w M0 [] φ) → Calls P f ((args.toList.map (ev σ)).toArray ++ lb) w (Ret fun v' w' => ∃ x, v' = val x ∧ good x ∧ Sep w M0 (φs x) w'))
    (h : ∀ x, good x → RG P n w0 M ops S (A ++ φs x) r (upd σ d (val x)) K) : RG P n w0 M ops S L (.op .l i r) σ K := by
  subst hL
  refine rL (Lx := fun x => A ++ φs x) (v := val) hS ho hg (fun w hs => ?_) h
  obtain ⟨M0, h1, h2⟩ := hs.focusR
  have hC := hc w M0 h1 fun φ hk w' hs' => hk w' (by simpa using h2 [] w' hs')
  have hr : (execOp (ev σ) ⟨some d, .call ⟨.value co, args, tys⟩, t, p, af, g⟩).run P w = .ok (.enter f ((args.toList.map (ev σ)).toArray ++ lb)) w := by
    have he : args.map (ev σ) = (args.toList.map (ev σ)).toArray := by rw [← Array.toList_map, Array.toArray_toList]
    simp [execOp, resolve, hco, Deferred.ofValue, invoke, hf, he]
  unfold opw; rw [hr]
  exact Calls.mono hC fun e w' ⟨v, he, x, hv, hx, hsep⟩ => ⟨v, he, x, hx, h2 _ _ hsep, by subst hv; rfl⟩
/-- Where a round ends. -/
def RQ (P : Program) (l : Nat) (rc : LoopState → Option Code → Obj) (wR : World) (MR : Nat → Prop) {γ : Type} (Lx Lxr : γ → List (World → Prop)) (ok okr : List (List Int) → γ → Prop) (pre : List (List Int)) : Exit → World → Prop := fun e w =>
  roundPost P l (Ret fun v w' => (∃ g', v = .bool true ∧ ok pre g' ∧ Sep wR MR (ob l (rc .ready none) :: Lx g') w') ∨ (∃ g', v = .bool false ∧ okr pre g' ∧ Sep wR MR (ob l (rc .done (some .ret)) :: Lxr g') w')) e { tmps := #[], defers := [] } w
theorem roundPost_any {P : Program} {l : Nat} {R : Ending → World → Prop} (e : Exit) (a a' : Act) (w : World) (h : roundPost P l R e a w) : roundPost P l R e a' w := by cases e <;> exact h
/-- The record is of the make of a loop's. -/
def isRec (rc : LoopState → Option Code → Obj) : Prop := ∃ fn tmps ps assign body D, rc = lrec fn tmps ps assign body D
/-- Behind the assignment: the round begins. -/
theorem qAsn {l : Nat} {rc : LoopState → Option Code → Obj} (hk : normK K = .asn l c K') (hr : isRec rc) (hL : L = ob l (rc .ready none) :: L') (h : HT P n w0 M (ob l (rc .busy none) :: L') σ c K') : QT P n w0 M L σ .normal K := fun w hs => by
  subst hL
  rw [den_norm, hk]
  obtain ⟨fn, tmps, ps, assign, body, D, rfl⟩ := hr
  exact ⟨_, run_beginRound (hs.at_ 0 rfl) rfl, h _ (hs.put 0 rfl rfl _)⟩
/-- A round goes on. -/
theorem qRnd {γ : Type} {l : Nat} {rc : LoopState → Option Code → Obj} {Lx Lxr : γ → List (World → Prop)} {ok okr : List (List Int) → γ → Prop} {pre : List (List Int)} (hk : normK K = .rnd (RQ P l rc w0 M Lx Lxr ok okr pre)) (hr : isRec rc) (g' : γ) (hok : ok pre g')
    (hL : ∀ w, Sep w0 M L w → Sep w0 M (ob l (rc .busy none) :: Lx g') w) : QT P n w0 M L σ .normal K := fun w hs => by
  rw [den_norm, hk]
  obtain ⟨fn, tmps, ps, assign, body, D, rfl⟩ := hr
  have h1 := hL w hs
  exact ⟨_, _, run_endRound none (h1.at_ 0 rfl), _, rfl, .inl ⟨g', rfl, hok, h1.put 0 rfl rfl _⟩⟩
theorem kRndR {γ : Type} {l : Nat} {rc : LoopState → Option Code → Obj} {Lx Lxr : γ → List (World → Prop)} {ok okr : List (List Int) → γ → Prop} {pre : List (List Int)} {ds : List Deferred} (hk : ∀ w, RQ P l rc w0 M Lx Lxr ok okr pre .ret w → retD K ds σ w) (hr : isRec rc) (g' : γ) (hok : okr pre g')
    (hL : ∀ w, Sep w0 M L w → Sep w0 M (ob l (rc .busy none) :: Lxr g') w) : Kn w0 M L (retD K ds σ) := fun w hs => hk w (by
  obtain ⟨fn, tmps, ps, assign, body, D, rfl⟩ := hr
  have h1 := hL w hs
  exact ⟨_, _, run_endRound (some .ret) (h1.at_ 0 rfl), _, rfl, .inr ⟨g', rfl, hok, h1.put 0 rfl rfl _⟩⟩)
theorem hRndR2 {γ : Type} {l : Nat} {rc : LoopState → Option Code → Obj} {Lx Lxr : γ → List (World → Prop)} {ok okr : List (List Int) → γ → Prop} {pre : List (List Int)} (hk : ∀ w, RQ P l rc w0 M Lx Lxr ok okr pre .ret w → retD K n.ds σ w) (hr : isRec rc) (g' : γ) (hok : okr pre g')
    (hL : ∀ w, Sep w0 M L w → Sep w0 M (ob l (rc .busy none) :: Lxr g') w) : HT P n w0 M L σ .ret K := hRet (kRndR hk hr g' hok hL)
end
section
variable {P : Program} {n : Nat} {ds : List Deferred} {w0 : World} {M : Nat → Prop} {L Lr : List (World → Prop)} {σ : Fr} {K : Ko}
theorem Ag.fresh {n : Nat} {ds : List Deferred} {a : Act} {σ : Fr} (h : Ag n ds a σ) {q : Tmp} (hq : q < n) (v : Value) : Ag n [] { tmps := (#[q].zip #[v]).foldl (fun t (p, u) => t.setIfInBounds p u) a.tmps, defers := [] } (upd σ q v) := by
  have h1 : Ag n [] { a with defers := [] } σ := ⟨h.size, rfl, h.at_⟩
  have h2 := h1.put (some q) (fun d hd => by cases hd; exact hq) v
  simpa [Act.put, V.put] using h2
/-- One round, out of the walk of the loop's body. -/
theorem round_of {γ : Type} {l : Nat} {fn : FuncId} {a : Act} {q : Tmp} {assign body : Code} {D : Nat} {Lx Lxr : γ → List (World → Prop)} {ok okr : List (List Int) → γ → Prop} {pre : List (List Int)} {xv : Value} {w : World} {M0 : Nat → Prop} {g : γ} (ha : Ag n ds a σ) (hq : q < n)
    (hs : Sep w M0 (ob l (lrec fn a.tmps #[q] assign body D .ready none) :: Lx g) w)
    (h : HT P ⟨n, some l, []⟩ w M0 (ob l (lrec fn a.tmps #[q] assign body D .ready none) :: Lx g) (upd σ q xv) assign (.asn l body (.rnd (RQ P l (lrec fn a.tmps #[q] assign body D) w M0 Lx Lxr ok okr pre)))) :
    Round P l #[xv] w fun v w' => (∃ g', v = .bool true ∧ ok pre g' ∧ Sep w M0 (ob l (lrec fn a.tmps #[q] assign body D .ready none) :: Lx g') w') ∨ (∃ g', v = .bool false ∧ okr pre g' ∧ Sep w M0 (ob l (lrec fn a.tmps #[q] assign body D .done (some .ret)) :: Lxr g') w') := by
  refine ⟨fn, _, assign, body, run_yield (hs.at_ 0 rfl) rfl, roundIn_of_wpIn (F := FW none) (n := 0) trivial ?_⟩
  refine wpIn_mono (h w hs _ (ha.fresh hq xv)) ?_
  intro e a1 w1 hq1
  cases e <;> simp only [WQ, denX, den, Exit.then] at hq1 ⊢ <;> (try exact hq1) <;> (try (obtain ⟨_, _, _, hq1⟩ := hq1; exact hq1.elim))
  obtain ⟨ds1, σ1, ha1, w2, hb, hW⟩ := hq1
  refine ⟨w2, hb, wpIn_mono (hW a1 ha1) ?_⟩
  intro e a2 w3 hq3
  cases e <;> simp only [WQ, denX, den] at hq3 <;> (try exact hq3.elim)
  all_goals
    obtain ⟨ds2, σ2, ha2, hq3⟩ := hq3
    exact roundPost_any _ _ _ _ hq3
theorem ret_den {x : Cx} {a : Act} {w : World} (ha : Ag x.n x.ds a σ) (h : retD K x.ds σ w) : Code.ret.wpIn (FW x.ro) 0 P (WQ x.n (denX P x K)) a w :=
  wpIn_ret ⟨x.ds, σ, ha, by show den P x.n x.ro K x.ds .ret σ w; rw [den_ret]; exact h⟩
/-- THE LOOP 'for x := range f': an outermost one. -/
theorem hRange {γ : Type} {g : Operand} {q : Tmp} {assign body : Code} {gf : FuncId} {lb : Array Value} (all : List (List Int)) (Lx Lxr : γ → List (World → Prop)) (ok okr : List (List Int) → γ → Prop) (g0 : γ) (Lr : List (World → Prop))
    (hq : q < n) (hg : ev σ g = .func (.func gf) #[] lb) (hco : ∀ args w, (callFunc gf args).run P w = .ok (.enter gf args) w)
    (hp : ∀ w, Sep w0 M L w → Sep w0 M (Lr ++ Lx g0) w) (h0 : ok [] g0) (hIt : ∀ w M1, (∀ φ, Kn w0 M Lr φ → Kn w M1 [] φ) → IterC P gf lb all w M1)
    (hround : ∀ (l : Nat) (rc : LoopState → Option Code → Obj), isRec rc → ∀ pre x gg ax nx cx wR MR, ok pre gg → pre ++ [x] <+: all → (∀ φ, Kn w0 M Lr φ → Kn wR MR [] φ) → Kn wR MR [] (RdI ax nx x) →
      HT P ⟨n, some l, []⟩ wR MR (ob l (rc .ready none) :: Lx gg) (upd σ q (.slice ax nx cx)) assign (.asn l body (.rnd (RQ P l rc wR MR Lx Lxr ok okr (pre ++ [x])))))
    (hdone : ∀ D gg, ok all gg → QT P ⟨n, none, mark D :: ds⟩ w0 M (ob D (.deferred (some [])) :: (Lr ++ Lx gg)) σ .normal K)
    (hstop : ∀ D pre gg, pre <+: all → okr pre gg → Kn w0 M (ob D (.deferred (some [])) :: (Lr ++ Lxr gg)) (retD K (mark D :: ds) σ)) :
    HT P ⟨n, none, ds⟩ w0 M L σ (.rangeFunc g #[q] assign body) K := by
  intro w hs a ha
  have ha' : Ag n ds a σ := ha
  refine wpIn_rangeFunc ?_
  intro fn hfn
  let rc : LoopState → Option Code → Obj := lrec fn a.tmps #[q] assign body w.heap.size
  let w1 : World := (w.alloc (.deferred (some []))).alloc (rc .ready none)
  have hsz : (w.alloc (.deferred (some []))).heap.size = w.heap.size + 1 := by simp
  have hs1 : Sep w0 M (ob (w.heap.size + 1) (rc .ready none) :: ob w.heap.size (.deferred (some [])) :: (Lr ++ Lx g0)) w1 := by
    have := ((hp w hs).pushOb (.deferred (some []))).pushOb (rc .ready none)
    rwa [hsz] at this
  have hs2 : Sep w0 M ((ob w.heap.size (.deferred (some [])) :: Lr) ++ (ob (w.heap.size + 1) (rc .ready none) :: Lx g0)) w1 := by
    refine hs1.perm (List.Perm.trans (List.Perm.swap _ _ _) ?_)
    refine List.Perm.cons _ ?_
    exact List.perm_middle.symm
  obtain ⟨M1, h1, h2⟩ := hs2.focusR
  have hkn : ∀ φ, Kn w0 M Lr φ → Kn w1 M1 [] φ := fun φ hk w' hs' => hk w' (by have := h2 [] w' hs'; simpa using this.tail)
  refine ⟨w.heap.size + 1, [mark w.heap.size], w1, { target := .fn (.func gf) lb, args := #[.func (.yield (w.heap.size + 1)) #[] #[]] }, w1, gf, #[.func (.yield (w.heap.size + 1)) #[] #[]] ++ lb, w1, ?_, ?_, ?_, ?_, fun h => (by cases h), calls_FW.2 ?_⟩
  · exact run_enterLoop_outer _ _ _ _ _
  · simp only [resolve, show a.eval g = .func (.func gf) #[] lb by rw [ha'.ev]; exact hg]
    simp [go_sem]
  · intro f' _; trivial
  · simp [invoke, go_sem, hco]
  · refine (hIt w1 M1 hkn (w.heap.size + 1) γ (fun gg => ob (w.heap.size + 1) (rc .ready none) :: Lx gg) (fun gg => ob (w.heap.size + 1) (rc .done (some .ret)) :: Lxr gg) ok okr g0 ?_ h0 h1).mono ?_
    · intro pre x gg ax nx cx wR MR hok hpre hsep hkb hrd
      exact round_of ha' hq hsep (hround _ rc ⟨_, _, _, _, _, _, rfl⟩ pre x gg ax nx cx wR MR hok hpre (fun φ hk => hkb φ (hkn φ hk)) hrd)
    · rintro e w2 ⟨v, rfl, ⟨gg, hok, hsep⟩ | ⟨pre, gg, hpre, hok, hsep⟩⟩
      · have h3 := h2 _ _ hsep
        have hl : w2.heap[w.heap.size + 1]? = some (rc .ready none) := hsep.at_ 0 rfl
        have h4 := hsep.put 0 rfl rfl (rc .exhausted none)
        have h5 := h2 _ _ h4
        refine ⟨none, _, run_endLoop hl (by simp), mark w.heap.size :: ds, σ, ⟨ha'.size, by show [mark w.heap.size] ++ a.defers = _; rw [ha'.df]; rfl, ha'.at_⟩, ?_⟩
        refine hdone w.heap.size gg hok _ ?_
        have h6 := (h5.perm (List.perm_middle (l₁ := ob w.heap.size (.deferred (some [])) :: Lr))).tail
        exact h6
      · have hl : w2.heap[w.heap.size + 1]? = some (rc .done (some .ret)) := hsep.at_ 0 rfl
        have h4 := hsep.put 0 rfl rfl (rc .exhausted (some .ret))
        have h5 := h2 _ _ h4
        refine ⟨some .ret, _, run_endLoop hl (by simp), ?_⟩
        have h6 := (h5.perm (List.perm_middle (l₁ := ob w.heap.size (.deferred (some [])) :: Lr))).tail
        exact ret_den (x := ⟨n, none, mark w.heap.size :: ds⟩) ⟨ha'.size, by show [mark w.heap.size] ++ a.defers = _; rw [ha'.df]; rfl, ha'.at_⟩ (hstop _ pre gg hpre hok _ h6)
/-- THE LOOP 'for x := range f' in a round of another one. -/
theorem hRangeN {γ : Type} {g : Operand} {q : Tmp} {assign body : Code} {gf : FuncId} {lb : Array Value} {l0 : Nat} {r0 : Loop} (all : List (List Int)) (Lx Lxr : γ → List (World → Prop)) (ok okr : List (List Int) → γ → Prop) (g0 : γ) (Lr : List (World → Prop))
    (hl0 : Kn w0 M L (ob l0 (.loop r0))) (hq : q < n) (hg : ev σ g = .func (.func gf) #[] lb) (hco : ∀ args w, (callFunc gf args).run P w = .ok (.enter gf args) w)
    (hp : ∀ w, Sep w0 M L w → Sep w0 M (Lr ++ Lx g0) w) (h0 : ok [] g0) (hIt : ∀ w M1, (∀ φ, Kn w0 M Lr φ → Kn w M1 [] φ) → IterC P gf lb all w M1)
    (hround : ∀ (l : Nat) (rc : LoopState → Option Code → Obj), isRec rc → ∀ pre x gg ax nx cx wR MR, ok pre gg → pre ++ [x] <+: all → (∀ φ, Kn w0 M Lr φ → Kn wR MR [] φ) → Kn wR MR [] (RdI ax nx x) →
      HT P ⟨n, some l, []⟩ wR MR (ob l (rc .ready none) :: Lx gg) (upd σ q (.slice ax nx cx)) assign (.asn l body (.rnd (RQ P l rc wR MR Lx Lxr ok okr (pre ++ [x])))))
    (hdone : ∀ gg, ok all gg → QT P ⟨n, some l0, ds⟩ w0 M (Lr ++ Lx gg) σ .normal K)
    (hstop : ∀ pre gg, pre <+: all → okr pre gg → Kn w0 M (Lr ++ Lxr gg) (retD K ds σ)) :
    HT P ⟨n, some l0, ds⟩ w0 M L σ (.rangeFunc g #[q] assign body) K := by
  intro w hs a ha
  have ha' : Ag n ds a σ := ha
  refine wpIn_rangeFunc ?_
  intro fn hfn
  let rc : LoopState → Option Code → Obj := lrec fn a.tmps #[q] assign body r0.defers
  let w1 : World := w.alloc (rc .ready none)
  have hs1 : Sep w0 M (ob w.heap.size (rc .ready none) :: (Lr ++ Lx g0)) w1 := (hp w hs).pushOb (rc .ready none)
  have hs2 : Sep w0 M (Lr ++ (ob w.heap.size (rc .ready none) :: Lx g0)) w1 := hs1.perm List.perm_middle.symm
  obtain ⟨M1, h1, h2⟩ := hs2.focusR
  have hkn : ∀ φ, Kn w0 M Lr φ → Kn w1 M1 [] φ := fun φ hk w' hs' => hk w' (by have := h2 [] w' hs'; simpa using this)
  refine ⟨w.heap.size, [], w1, { target := .fn (.func gf) lb, args := #[.func (.yield w.heap.size) #[] #[]] }, w1, gf, #[.func (.yield w.heap.size) #[] #[]] ++ lb, w1, ?_, ?_, ?_, ?_, fun h => (by cases h), calls_FW.2 ?_⟩
  · exact run_enterLoop_inner (hl0 w hs) _ _ _ _ _
  · simp only [resolve, show a.eval g = .func (.func gf) #[] lb by rw [ha'.ev]; exact hg]
    simp [go_sem]
  · intro f' _; trivial
  · simp [invoke, go_sem, hco]
  · refine (hIt w1 M1 hkn w.heap.size γ (fun gg => ob w.heap.size (rc .ready none) :: Lx gg) (fun gg => ob w.heap.size (rc .done (some .ret)) :: Lxr gg) ok okr g0 ?_ h0 h1).mono ?_
    · intro pre x gg ax nx cx wR MR hok hpre hsep hkb hrd
      exact round_of ha' hq hsep (hround _ rc ⟨_, _, _, _, _, _, rfl⟩ pre x gg ax nx cx wR MR hok hpre (fun φ hk => hkb φ (hkn φ hk)) hrd)
    · rintro e w2 ⟨v, rfl, ⟨gg, hok, hsep⟩ | ⟨pre, gg, hpre, hok, hsep⟩⟩
      · have hl : w2.heap[w.heap.size]? = some (rc .ready none) := hsep.at_ 0 rfl
        have h5 := h2 _ _ (hsep.put 0 rfl rfl (rc .exhausted none))
        refine ⟨none, _, run_endLoop hl (by simp), ds, σ, ⟨ha'.size, ha'.df, ha'.at_⟩, ?_⟩
        exact hdone gg hok _ ((h5.perm List.perm_middle).tail)
      · have hl : w2.heap[w.heap.size]? = some (rc .done (some .ret)) := hsep.at_ 0 rfl
        have h5 := h2 _ _ (hsep.put 0 rfl rfl (rc .exhausted (some .ret)))
        refine ⟨some .ret, _, run_endLoop hl (by simp), ?_⟩
        exact ret_den (x := ⟨n, some l0, ds⟩) ⟨ha'.size, ha'.df, ha'.at_⟩ (hstop pre gg hpre hok _ ((h5.perm List.perm_middle).tail))
end
attribute [irreducible] RQ
end Go.Proofs.Yteaahdakammffaa.V
/- The engine, part 17: arrays that are turned at any place, and bits. No condition. -/
namespace Go.Proofs.Yteaahdakammffaa.V
open Go Go.RowKit
set_option linter.unusedVariables false
set_option linter.unusedSimpArgs false
/-- An array of numbers. -/
def arP (b e : Nat) (k : IntKind) (zs : List Int) : World → Prop := blk b e (zs.map (Value.int k))
section
variable {P : Program} {n : Cx} {w0 : World} {M : Nat → Prop} {L : List (World → Prop)} {σ : Fr} {K : Ko} {ops : Array Oper} {S : World → Prop} {r : Sch} {i : Nat}
variable {d : Nat} {t ty yt : TypeId} {p : String} {af : Array Edge} {g : Option (Nat × Bool)} {a b : Operand} {ik : IntKind} {bk e : Nat} {zs : List Int}
theorem ixAd {z : Int} {kz : IntKind} {nn : Nat} (hA : Arr P ty nn 1) (ho : ops[i]? = some ⟨some d, .indexAddr ty a b, t, p, af, g⟩) (hg : go ops σ g) (ha : ev σ a = .pointer (some ⟨bk, 0, none⟩)) (hb : ev σ b = .int kz z) (h0 : 0 ≤ z) (h1 : z < nn) {zn : Nat} (hzn : z.toNat = zn)
  (h : RG P n w0 M ops S L r (upd σ d (.pointer (some ⟨bk, zn, none⟩))) K) : RG P n w0 M ops S L (.op .q i r) σ K := by
 subst hzn
 obtain ⟨e, he, hs⟩ := hA
 exact rQ ho hg (fun w _ => by simp [execOp, ha, hb, Instr.indexAt, Instr.sureAddr, asIntOf, he, hs, h0, h1, add_addr]) h
theorem cArr {z : Nat} (j : Nat) (hj : L[j]? = some (arP bk e ik zs)) (h : z < zs.length) : Kn w0 M L fun w => w.cell? ⟨bk, z, none⟩ = some (.int ik (zs.getD z 0)) :=
 (Kn.at_ j hj).imp fun w hw => blk.cell hw (by rw [List.getElem?_map, nth 0 h]; rfl)
theorem cArs (j : Nat) (hj : L[j]? = some (arP bk e ik zs)) : Kn w0 M L fun w => ∀ k v, (zs.map (Value.int ik))[k]? = some v → w.cell? ⟨bk, 0 + k, none⟩ = some v := cBs j hj
theorem stAr {x : Int} {z : Nat} (j : Nat) (hj : L[j]? = some (arP bk e ik zs)) (hz : Size P ty 1) (hS : ∀ w, Sep w0 M (L.set j (arP bk e ik (zs.set z x))) w → S w) (ho : ops[i]? = some ⟨none, .store ty a b, t, p, af, g⟩) (hg : go ops σ g) (ha : ev σ a = .pointer (some ⟨bk, z, none⟩)) (hb : ev σ b = .int ik x) (hlt : z < zs.length)
  (h : RG P n w0 M ops S (L.set j (arP bk e ik (zs.set z x))) r σ K) : RG P n w0 M ops S L (.op .l i r) σ K := by
 have he : blk bk e ((zs.map (Value.int ik)).set z (.int ik x)) = arP bk e ik (zs.set z x) := by unfold arP; rw [List.map_set]
 exact stl j hj hz (fun w hs => hS w (by rwa [he] at hs)) ho hg ha hb rfl (by simpa using hlt) (by rw [he]; exact h)
theorem stArF {x : Int} {z : Nat} (j : Nat) (hj : L[j]? = some (arP bk e ik zs)) (hz : Size P ty 1) (ho : ops[i]? = some ⟨none, .store ty a b, t, p, af, g⟩) (hg : go ops σ g) (ha : ev σ a = .pointer (some ⟨bk, z, none⟩)) (hb : ev σ b = .int ik x) (hlt : z < zs.length)
  (h : RG P n w0 M ops S (L.set j (arP bk e ik (zs.set z x))) r σ K) : RG P n w0 M ops S L (.op .f i r) σ K := by
 have he : blk bk e ((zs.map (Value.int ik)).set z (.int ik x)) = arP bk e ik (zs.set z x) := by unfold arP; rw [List.map_set]
 exact stf j hj hz ho hg ha hb rfl (by simpa using hlt) (by rw [he]; exact h)
/-- An element of an array that is a value. -/
theorem ixV {z : Int} {kz : IntKind} {nn e' : Nat} (hu : P.underlying ty = some (.array nn e')) (hs : ∀ w, (sizeOf e').run P w = .ok 1 w) (hA : ∀ w, (isAgg e').run P w = .ok false w) (ho : ops[i]? = some ⟨some d, .index ty a b, t, p, af, g⟩) (hg : go ops σ g) (ha : ev σ a = .agg (zs.map (Value.int ik)).toArray) (hb : ev σ b = .int kz z) (h0 : 0 ≤ z) (h1 : z < nn) (hl : zs.length = nn) {zn : Nat} (hzn : z.toNat = zn)
  (h : RG P n w0 M ops S L r (upd σ d (.int ik (zs.getD zn 0))) K) : RG P n w0 M ops S L (.op .q i r) σ K :=
 rQ ho hg (fun w _ => by
  subst hzn
  have hlt : z.toNat < zs.length := by omega
  have hc : (zs.map (Value.int ik)).toArray[z.toNat * 1]? = some (.int ik (zs.getD z.toNat 0)) := by
   rw [Nat.mul_one, List.getElem?_toArray, List.getElem?_map, nth 0 hlt]; rfl
  have hp : ∀ w, (part e' (zs.map (Value.int ik)).toArray (z.toNat * 1)).run P w = .ok (.int ik (zs.getD z.toNat 0)) w := fun w => by
   unfold part; simp only [Sem.run_bind, hA w, Result.andThen_ok, hc]; rfl
  simp only [execOp, ha, hb, Instr.index, asIntOf, Sem.run_bind, Sem.run_pure, Result.andThen_ok, run_underlying hu, h0, h1, and_self, if_true, hs w]
  have hp' := hp w
  rw [Nat.mul_one] at hp'
  simp [hp', Result.andThen_ok]) h
theorem shr2 {x : Int} {k2 : IntKind} (ho : ops[i]? = some ⟨some d, .binOp .shr ty a b yt, t, p, af, g⟩) (hg : go ops σ g) (ha : ev σ a = .int .i64 x) (hb : ev σ b = .int k2 2) (h : RG P n w0 M ops S L r (upd σ d (.int .i64 (x / 4))) K) : RG P n w0 M ops S L (.op .q i r) σ K :=
 rQ ho hg (fun w _ => by
  have := Go.shift_shr .i64 k2 x 2 (by decide) (by decide)
  simp [execOp, ha, hb, eqGuard, binOp_shr, this]) h
theorem and3 {x : Int} (ho : ops[i]? = some ⟨some d, .binOp .and ty a b yt, t, p, af, g⟩) (hg : go ops σ g) (ha : ev σ a = .int .i64 x) (hb : ev σ b = .int .i64 3) (hr : 0 ≤ x ∧ x ≤ 1000000) (h : RG P n w0 M ops S L r (upd σ d (.int .i64 (x % 4))) K) : RG P n w0 M ops S L (.op .q i r) σ K :=
 rQ ho hg (fun w _ => by
  have h1 : bits .and .i64 x 3 = x % 4 := by
   obtain ⟨m, rfl⟩ := Int.eq_ofNat_of_zero_le hr.1
   have hm : m < 2 ^ 64 := by have := hr.2; omega
   show IntKind.i64.wrap ((BitVec.ofInt 64 (m : Int) &&& BitVec.ofInt 64 3).toNat : Int) = _
   have h2 : (BitVec.ofInt 64 (m : Int) &&& BitVec.ofInt 64 3).toNat = m % 4 := by
    rw [BitVec.toNat_and, BitVec.ofInt_natCast, BitVec.toNat_ofNat, Nat.mod_eq_of_lt hm]
    show m &&& (2 ^ 2 - 1) = m % 4
    exact Nat.and_two_pow_sub_one_eq_mod m 2
   rw [h2]
   rw [IntKind.wrap_i64]; omega
  simp [execOp, ha, hb, eqGuard, binOp_and, intBits_and, h1]) h
theorem shrN {m : Nat} {y : Int} {k2 : IntKind} (ho : ops[i]? = some ⟨some d, .binOp .shr ty a b yt, t, p, af, g⟩) (hg : go ops σ g) (ha : ev σ a = .int .u64 (m : Int)) (hb : ev σ b = .int k2 y) (hr : 0 ≤ y ∧ y ≤ 64) (h : RG P n w0 M ops S L r (upd σ d (.int .u64 ((m >>> y.toNat : Nat) : Int))) K) : RG P n w0 M ops S L (.op .q i r) σ K :=
 shrU ho hg ha hb hr (by
  have : (m : Int) / 2 ^ y.toNat = ((m >>> y.toNat : Nat) : Int) := by rw [Nat.shiftRight_eq_div_pow]; push_cast; rfl
  rw [this]; exact h)
theorem andN {x y : Nat} (ho : ops[i]? = some ⟨some d, .binOp .and ty a b yt, t, p, af, g⟩) (hg : go ops σ g) (ha : ev σ a = .int .u64 (x : Int)) (hb : ev σ b = .int .u64 (y : Int)) (hr : x < 2 ^ 64 ∧ y < 2 ^ 64) (h : RG P n w0 M ops S L r (upd σ d (.int .u64 ((x &&& y : Nat) : Int))) K) : RG P n w0 M ops S L (.op .q i r) σ K :=
 rQ ho hg (fun w _ => by
  have h1 : bits .and .u64 (x : Int) (y : Int) = ((x &&& y : Nat) : Int) := by
   show IntKind.u64.wrap ((BitVec.ofInt 64 (x : Int) &&& BitVec.ofInt 64 (y : Int)).toNat : Int) = _
   have h2 : (BitVec.ofInt 64 (x : Int) &&& BitVec.ofInt 64 (y : Int)).toNat = x &&& y := by
    rw [BitVec.toNat_and, BitVec.ofInt_natCast, BitVec.ofInt_natCast, BitVec.toNat_ofNat, BitVec.toNat_ofNat, Nat.mod_eq_of_lt hr.1, Nat.mod_eq_of_lt hr.2]
   have h3 : x &&& y ≤ x := Nat.and_le_left
   rw [h2, IntKind.wrap_u64]; have := hr.1; omega
  simp [execOp, ha, hb, eqGuard, binOp_and, intBits_and, h1]) h
theorem xor_and_lt {x y : Nat} (h : x < 2 ^ 64) : x ^^^ (x &&& y) < 2 ^ 64 := Nat.xor_lt_two_pow h (Nat.lt_of_le_of_lt Nat.and_le_left h)
theorem andNotN {x y : Nat} (ho : ops[i]? = some ⟨some d, .binOp .andNot ty a b yt, t, p, af, g⟩) (hg : go ops σ g) (ha : ev σ a = .int .u64 (x : Int)) (hb : ev σ b = .int .u64 (y : Int)) (hr : x < 2 ^ 64 ∧ y < 2 ^ 64) (h : RG P n w0 M ops S L r (upd σ d (.int .u64 ((x ^^^ (x &&& y) : Nat) : Int))) K) : RG P n w0 M ops S L (.op .q i r) σ K :=
 rQ ho hg (fun w _ => by
  have h1 : bits .andNot .u64 (x : Int) (y : Int) = ((x ^^^ (x &&& y) : Nat) : Int) := by
   show IntKind.u64.wrap ((BitVec.ofInt 64 (x : Int) &&& ~~~ BitVec.ofInt 64 (y : Int)).toNat : Int) = _
   have h2 : (BitVec.ofInt 64 (x : Int) &&& ~~~ BitVec.ofInt 64 (y : Int)) = BitVec.ofNat 64 (x ^^^ (x &&& y)) := by
    rw [BitVec.ofInt_natCast, BitVec.ofInt_natCast]
    apply BitVec.eq_of_getLsbD_eq
    intro i hi
    simp only [BitVec.getLsbD_and, BitVec.getLsbD_not, BitVec.getLsbD_ofNat, hi, decide_true, Bool.true_and, Nat.testBit_xor, Nat.testBit_and]
    cases x.testBit i <;> cases y.testBit i <;> rfl
   have h3 := xor_and_lt (y := y) hr.1
   rw [h2, BitVec.toNat_ofNat, Nat.mod_eq_of_lt h3, IntKind.wrap_u64]; omega
  simp [execOp, ha, hb, eqGuard, binOp_andNot, intBits_andNot, h1]) h
end
end Go.Proofs.Yteaahdakammffaa.V
/- Plain facts: exchanges of suits, cards that are alike, classes. No condition. -/
namespace Go.Proofs.Yteaahdakammffaa.Iso
open Go.Proofs.Yteaahdakammffaa.V
set_option linter.unusedVariables false
set_option linter.unusedSimpArgs false
theorem gdE {α : Type} {l : List α} {d : α} {i : Nat} (h : i < l.length) : l.getD i d = l[i] := by rw [List.getD_eq_getElem?_getD, List.getElem?_eq_getElem h]; rfl
/-- Where an exchange takes a card. -/
def take4 (p : List Int) (c : Int) : Int := c / 4 * 4 + p.getD (c % 4).toNat 0
def image4 (p zs : List Int) : List Int := zs.map (take4 p)
def digs (n : Int) : List Int := [n / 64, n / 16 % 4, n / 4 % 4, n % 4]
def ordB (n : Int) : Bool := decide (n / 64 ≠ n / 16 % 4 ∧ n / 64 ≠ n / 4 % 4 ∧ n / 64 ≠ n % 4 ∧ n / 16 % 4 ≠ n / 4 % 4 ∧ n / 16 % 4 ≠ n % 4 ∧ n / 4 % 4 ≠ n % 4)
def ords (k : Nat) : List (List Int) := ((List.range k).filter fun n : Nat => ordB (n : Int)).map fun n : Nat => digs (n : Int)
def orders : List (List Int) := ords 256
def isP (p : List Int) : Prop := p.length = 4 ∧ ∀ k, 0 ≤ p.getD k 0 ∧ p.getD k 0 ≤ 3
theorem digs_isP {n : Int} (h : 0 ≤ n ∧ n < 256) : isP (digs n) := by
  refine ⟨rfl, fun k => ?_⟩
  match k with
  | 0 => show 0 ≤ n / 64 ∧ n / 64 ≤ 3; omega
  | 1 => show 0 ≤ n / 16 % 4 ∧ n / 16 % 4 ≤ 3; omega
  | 2 => show 0 ≤ n / 4 % 4 ∧ n / 4 % 4 ≤ 3; omega
  | 3 => show 0 ≤ n % 4 ∧ n % 4 ≤ 3; omega
  | k + 4 => show (0 : Int) ≤ 0 ∧ (0 : Int) ≤ 3; omega
theorem ords_isP {k : Nat} (hk : k ≤ 256) {p : List Int} (h : p ∈ ords k) : isP p := by
  obtain ⟨n, hn, rfl⟩ := List.mem_map.1 h
  have := List.mem_range.1 (List.mem_filter.1 hn).1
  exact digs_isP (by omega)
theorem orders_isP {p : List Int} (h : p ∈ orders) : isP p := ords_isP (Nat.le_refl _) h
/-- Cards. -/
def areP (z : List Int) : Prop := (∀ x ∈ z, 0 ≤ x ∧ x ≤ 51) ∧ z.Nodup
instance (z : List Int) : Decidable (areP z) := inferInstanceAs (Decidable (_ ∧ _))
def areB (z : List Int) : Bool := decide (areP z)
theorem areP_nil : areP [] := ⟨by simp, List.nodup_nil⟩
theorem areP_snoc {ys : List Int} {x : Int} : areP (ys ++ [x]) ↔ areP ys ∧ (0 ≤ x ∧ x ≤ 51) ∧ x ∉ ys := by
  unfold areP
  constructor
  · rintro ⟨h1, h2⟩
    have h3 := List.nodup_append.1 h2
    exact ⟨⟨fun y hy => h1 y (by simp [hy]), h3.1⟩, h1 x (by simp), fun hx => h3.2.2 x hx x (by simp) rfl⟩
  · rintro ⟨⟨h1, h2⟩, h3, h4⟩
    refine ⟨fun y hy => ?_, List.nodup_append.2 ⟨h2, by simp, fun a ha b hb e => ?_⟩⟩
    · rcases List.mem_append.1 hy with h | h
      · exact h1 y h
      · rw [List.mem_singleton.1 h]; exact h3
    · rw [List.mem_singleton.1 hb] at e; exact h4 (e ▸ ha)
theorem areP_take {z : List Int} (h : areP z) (i : Nat) : areP (z.take i) := ⟨fun x hx => h.1 x (List.mem_of_mem_take hx), h.2.sublist (List.take_sublist i z)⟩
theorem take_snoc {z : List Int} {i : Nat} (h : i < z.length) : z.take (i + 1) = z.take i ++ [z.getD i 0] := by
  rw [List.take_add_one, gdE h, List.getElem?_eq_getElem h]; rfl
theorem areP_next {z : List Int} {i : Nat} (h : i < z.length) (h0 : areP (z.take i)) (h1 : 0 ≤ z.getD i 0 ∧ z.getD i 0 ≤ 51) (h2 : z.getD i 0 ∉ z.take i) : areP (z.take (i + 1)) := by
  rw [take_snoc h]; exact areP_snoc.2 ⟨h0, h1, h2⟩
theorem areB_out {z : List Int} {i : Nat} (h : i < z.length) (h1 : ¬ (0 ≤ z.getD i 0 ∧ z.getD i 0 ≤ 51)) : areB z = false :=
  decide_eq_false fun hz => by
    have := areP_take hz (i + 1)
    rw [take_snoc h] at this
    exact h1 (areP_snoc.1 this).2.1
theorem areB_twice {z : List Int} {i : Nat} (h : i < z.length) (h1 : z.getD i 0 ∈ z.take i) : areB z = false :=
  decide_eq_false fun hz => by
    have := areP_take hz (i + 1)
    rw [take_snoc h] at this
    exact (areP_snoc.1 this).2.2 h1
theorem areB_end {z : List Int} {i : Nat} (h : z.length ≤ i) (h0 : areP (z.take i)) : areB z = true := by
  rw [List.take_of_length_le h] at h0; exact decide_eq_true h0
theorem areB_P {z : List Int} (h : areB z = true) : areP z := of_decide_eq_true h
theorem nodup_len : ∀ (n : Nat) (z : List Int), z.Nodup → (∀ x ∈ z, 0 ≤ x ∧ x < n) → z.length ≤ n
  | 0, z, _, h => by
    cases z with
    | nil => simp
    | cons x z => have := h x (by simp); omega
  | n + 1, z, hd, h => by
    have h1 := nodup_len n (z.erase n) (hd.erase _) fun x hx => by
      have h2 := (hd.mem_erase_iff).1 hx
      have := h x h2.2
      have h3 : x ≠ (n : Int) := h2.1
      omega
    rw [List.length_erase] at h1
    split at h1 <;> omega
theorem areP_len {z : List Int} (h : areP z) : z.length ≤ 52 := nodup_len 52 z h.2 fun x hx => by have := h.1 x hx; omega
/-- A number whose bits say which cards were seen. -/
def maskOk (m : Nat) (ys : List Int) : Prop := m < 2 ^ 52 ∧ ∀ k : Nat, m.testBit k = decide ((k : Int) ∈ ys)
theorem mask0 : maskOk 0 [] := ⟨by decide, fun k => by simp⟩
theorem mask_bit {m : Nat} {ys : List Int} {c : Int} (h : maskOk m ys) (hc : 0 ≤ c) : ((m : Int) / 2 ^ c.toNat % 2 = 1) ↔ c ∈ ys := by
  have h1 := h.2 c.toNat
  rw [Int.toNat_of_nonneg hc, Nat.testBit_eq_decide_div_mod_eq] at h1
  have h2 : (m : Int) / 2 ^ c.toNat % 2 = ((m / 2 ^ c.toNat % 2 : Nat) : Int) := by push_cast; rfl
  rw [h2]
  have h3 : (m / 2 ^ c.toNat % 2 = 1) ↔ c ∈ ys := by simpa using h1
  rw [← h3]; omega
theorem mask_lt {m : Nat} {ys : List Int} (h : maskOk m ys) : m < 2 ^ 64 := Nat.lt_trans h.1 (by decide)
theorem mask_div {m : Nat} {ys : List Int} {c : Int} (h : maskOk m ys) : 0 ≤ (m : Int) / 2 ^ c.toNat ∧ (m : Int) / 2 ^ c.toNat ≤ 18446744073709551615 := by
  have h1 : m < 4503599627370496 := h.1
  have h2 : (m : Int) / 2 ^ c.toNat = ((m / 2 ^ c.toNat : Nat) : Int) := by push_cast; rfl
  have h3 : m / 2 ^ c.toNat ≤ m := Nat.div_le_self _ _
  rw [h2]
  generalize m / 2 ^ c.toNat = q at h3
  omega
theorem pow_lt {c : Int} (hc : 0 ≤ c ∧ c ≤ 51) : 2 ^ c.toNat < 2 ^ 52 := Nat.pow_lt_pow_right (by decide) (by omega)
theorem mask_step {m : Nat} {ys : List Int} {c : Int} (h : maskOk m ys) (hc : 0 ≤ c ∧ c ≤ 51) : maskOk (m ||| 2 ^ c.toNat) (ys ++ [c]) := by
  refine ⟨Nat.or_lt_two_pow h.1 (pow_lt hc), fun k => ?_⟩
  rw [Nat.testBit_or, h.2, Nat.testBit_two_pow]
  by_cases e : c.toNat = k
  · have : (k : Int) = c := by omega
    simp [e, this]
  · have : ¬ (k : Int) = c := by omega
    simp [e, this]
/-- Which cards were seen. -/
def seenB (ys : List Int) : List Bool := (List.range 52).map fun k : Nat => decide ((k : Int) ∈ ys)
theorem seenB_nil : seenB [] = List.replicate 52 false := by decide
theorem seenB_len (ys : List Int) : (seenB ys).length = 52 := by simp [seenB]
theorem seenB_get {ys : List Int} {c : Int} (hc : 0 ≤ c ∧ c ≤ 51) : (seenB ys).getD c.toNat false = decide (c ∈ ys) := by
  rw [gdE (by rw [seenB_len]; omega)]
  simp only [seenB, List.getElem_map, List.getElem_range]
  rw [Int.toNat_of_nonneg hc.1]
theorem seenB_set {ys : List Int} {c : Int} (hc : 0 ≤ c ∧ c ≤ 51) : (seenB ys).set c.toNat true = seenB (ys ++ [c]) := by
  apply List.ext_getElem
  · simp [seenB]
  · intro k h1 h2
    rw [List.getElem_set]
    simp only [seenB, List.getElem_map, List.getElem_range]
    by_cases e : c.toNat = k
    · have : (k : Int) = c := by omega
      simp [e, this]
    · have : ¬ (k : Int) = c := by omega
      simp [e, this]
/-- The code of sets of cards. -/
def codeS (sets : List (List Int)) : Int := if 6 < sets.length then 3 else if sets.all areB then 0 else 1
def badAt (sets : List (List Int)) : Int := if sets.all areB then -1 else (sets.findIdx (fun z => !areB z) : Nat)
theorem has_yes {z : List Int} {x : Int} {i : Nat} (hi : i < z.length) (h : z.getD i 0 = x) : z.contains x = true := by
  rw [gdE hi] at h
  rw [List.contains_iff_mem, ← h]; exact List.getElem_mem hi
theorem has_no {z : List Int} {x : Int} {i : Nat} (hi : z.length ≤ i) (h : x ∉ z.take i) : z.contains x = false := by
  rw [List.take_of_length_le hi] at h
  simpa using h
theorem not_snoc {z : List Int} {x : Int} {i : Nat} (hi : i < z.length) (h : x ∉ z.take i) (h1 : z.getD i 0 ≠ x) : x ∉ z.take (i + 1) := by
  rw [take_snoc hi, List.mem_append, List.mem_singleton]; exact fun e => e.elim h fun e => h1 e.symm
theorem flat_snoc {z : List (List Int)} {i : Nat} (h : i < z.length) : (z.take (i + 1)).flatten = (z.take i).flatten ++ z.getD i [] := by
  rw [List.take_add_one, List.flatten_append, gdE h, List.getElem?_eq_getElem h]; simp
theorem flat_le (z : List (List Int)) (i : Nat) : (z.take i).flatten.length ≤ z.flatten.length := by
  have h : (z.take i).flatten ++ (z.drop i).flatten = z.flatten := by rw [← List.flatten_append, List.take_append_drop]
  rw [← h, List.length_append]; omega
theorem flat_at {z : List (List Int)} {i : Nat} (h : i < z.length) : (z.take i).flatten.length + (z.getD i []).length ≤ z.flatten.length := by
  have := flat_le z (i + 1)
  rw [flat_snoc h, List.length_append] at this; exact this
theorem flat_all {z : List (List Int)} {i : Nat} (h : z.length ≤ i) : (z.take i).flatten = z.flatten := by rw [List.take_of_length_le h]
/-- Exchanges that fix sets. -/
def fixB (p s : List Int) : Bool := decide (srt (image4 p s) = srt s)
def fixS (p : List Int) (sets : List (List Int)) : Bool := sets.all (fixB p)
def fixL (sets : List (List Int)) (k : Nat) : List (List Int) := (orders.take k).filter fun p => fixS p sets
def fixA (sets : List (List Int)) : List (List Int) := orders.filter fun p => fixS p sets
/-- Cards that are alike. -/
def alkTo (ex : List (List Int)) (c : Int) (k : Nat) : List Int := ((List.range k).map Int.ofNat).filter fun d => ex.any fun p => decide (take4 p c = d)
def alk (ex : List (List Int)) (c : Int) : List Int := alkTo ex c 52
def alkC (ex : List (List Int)) (c : Int) : List Int := Lib.compact (srt (ex.map fun p => take4 p c))
/-- Classes of the cards that are in no set. -/
def clsB (sets : List (List Int)) (c : Int) : Bool := !(sets.flatten.contains c) && decide ((alk (fixA sets) c).getD 0 0 = c)
def cls (sets : List (List Int)) (k : Nat) : List Int := ((List.range k).map Int.ofNat).filter (clsB sets)
def sizL (sets : List (List Int)) (k : Nat) : List Int := (cls sets k).map fun c => ((alk (fixA sets) c).length : Int)
theorem ext_getD {a b : List Int} (hl : a.length = b.length) (h : ∀ j, j < a.length → a.getD j 0 = b.getD j 0) : a = b := by
  apply List.ext_getElem hl
  intro j h1 h2
  have := h j h1
  rwa [gdE h1, gdE h2] at this
def nextY (z : List (List Int)) : List Int := if codeS z = 0 then cls z 52 else []
def nextU (z : List (List Int)) : List Int := if codeS z = 0 then sizL z 52 else []
end Go.Proofs.Yteaahdakammffaa.Iso
/- Plain facts: exchanges of suits form a group; fixing exchanges; classes of cards. No condition. -/
namespace Go.Proofs.Yteaahdakammffaa.Iso
open Go.Proofs.Yteaahdakammffaa.V
set_option linter.unusedVariables false
set_option linter.unusedSimpArgs false
def indexOf4 (z : List (List Int)) (p : List Int) : Int := if z.contains p then (z.findIdx (fun q => decide (q = p)) : Nat) else -1
abbrev idP : List Int := [0, 1, 2, 3]
def compP (p q : List Int) : List Int := q.map fun k => p.getD k.toNat 0
theorem sub_len {α : Type} [DecidableEq α] : ∀ {a b : List α}, a.Nodup → (∀ x ∈ a, x ∈ b) → a.length ≤ b.length
 | [], _, _, _ => by simp
 | x :: a, b, hn, hs => by
  have hx := hs x (by simp)
  have h1 := sub_len (a := a) (b := b.erase x) (List.nodup_cons.1 hn).2 fun y hy => (List.mem_erase_of_ne (show y ≠ x from fun e => (List.nodup_cons.1 hn).1 (by rw [← e]; exact hy))).2 (hs y (by simp [hy]))
  rw [List.length_erase_of_mem hx] at h1
  have := List.length_pos_of_mem hx
  simp only [List.length_cons]; omega
theorem split_len {α : Type} (f : α → Bool) : ∀ l : List α, l.length = (l.filter f).length + (l.filter fun x => !f x).length
 | [] => rfl
 | x :: l => by
  have := split_len f l
  cases h : f x <;> simp [h] <;> omega
end Go.Proofs.Yteaahdakammffaa.Iso
/- Plain facts: orbits of cards, sizes of classes, same deals, what laws on exchanges call. No condition. -/
namespace Go.Proofs.Yteaahdakammffaa.Iso
open Go.Proofs.Yteaahdakammffaa.V
set_option linter.unusedVariables false
set_option linter.unusedSimpArgs false
def rep (z : List (List Int)) (c : Int) : Int := (alk (fixA z) c).getD 0 0
/-- Cards that are in no set. -/
def unused (z : List (List Int)) (k : Nat) : List Int := ((List.range k).map Int.ofNat).filter fun c => !z.flatten.contains c
/-- What ExchangeCards returns. -/
def exE (z p : List Int) : Int := if areB z = false then 1 else if orders.contains p = false then 2 else 0
def exY (z p : List Int) : List Int := if exE z p = 0 then image4 p z else []
/-- What AlikeCards returns. -/
def alE (z : List (List Int)) (c : Int) : Int := if codeS z ≠ 0 then codeS z else if 0 ≤ c ∧ c ≤ 51 then 0 else 2
def alY (z : List (List Int)) (c : Int) : List Int := if alE z c = 0 then alk (fixA z) c else []
/-- Same deals. -/
def dealB (p : List Int) (a b : List (List Int)) (k : Nat) : Bool := (List.range k).all fun i => decide (srt (image4 p (a.getD i [])) = srt (b.getD i []))
def sameTo (a b : List (List Int)) (k : Nat) : Bool := (orders.take k).any fun p => dealB p a b a.length
def sameB (a b : List (List Int)) : Bool := orders.any fun p => dealB p a b a.length
def sdE (a b : List (List Int)) : Int := if codeS a ≠ 0 then codeS a else if codeS b ≠ 0 then codeS b else if a.length ≠ b.length then 5 else 0
def sdB (a b : List (List Int)) : Bool := decide (sdE a b = 0) && sameB a b
def imgs (p : List Int) (a : List (List Int)) : List (List Int) := a.map (image4 p)
/-- Numbers of classes. -/
def cntE (n : Int) : Int := if 1 ≤ n ∧ n ≤ 3 then 0 else 2
def cntV (n : Int) : Int := if n = 1 then 13 else if n = 2 then 169 else if n = 3 then 1755 else 0
theorem ord_len {p : List Int} (h : p.length ≠ 4) : orders.contains p = false := by
 rw [← Bool.not_eq_true, List.contains_iff_mem]; exact fun hm => h (orders_isP hm).1
/-- Cards that are not in a list. -/
def others (z : List Int) (k : Nat) : List Int := ((List.range k).map Int.ofNat).filter fun c => !z.contains c
theorem others_yes {z : List Int} {k : Nat} (h : z.contains (k : Int) = true) : others z (k + 1) = others z k := by
 unfold others; rw [List.range_succ, List.map_append, List.filter_append, show [k].map Int.ofNat = [(k : Int)] from rfl, List.filter_cons_of_neg (by simp only [h]; decide)]; simp
theorem others_no {z : List Int} {k : Nat} (h : z.contains (k : Int) = false) : others z (k + 1) = others z k ++ [(k : Int)] := by
 unfold others; rw [List.range_succ, List.map_append, List.filter_append, show [k].map Int.ofNat = [(k : Int)] from rfl, List.filter_cons_of_pos (by simp only [h]; decide)]; simp
theorem others_le (z : List Int) (k : Nat) : (others z k).length ≤ k := by
 unfold others
 exact Nat.le_trans (List.length_filter_le _ _) (by simp)
theorem put_perm {o z : List Int} {i k : Nat} (h : o.Perm (z.take i)) (hi : i < z.length) : (o.take k ++ [z.getD i 0] ++ o.drop k).Perm (z.take (i + 1)) := by
 rw [take_snoc hi]
 refine List.Perm.trans ?_ (h.append_right [z.getD i 0])
 rw [List.append_assoc]
 refine (List.Perm.append_left _ (List.perm_append_comm)).trans ?_
 rw [← List.append_assoc, List.take_append_drop]
def feY (z : List (List Int)) : List (List Int) := if codeS z = 0 then fixA z else []
end Go.Proofs.Yteaahdakammffaa.Iso
