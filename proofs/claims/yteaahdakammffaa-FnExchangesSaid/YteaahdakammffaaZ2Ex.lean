/- Plain facts on trees of games: when a list of nodes is a tree, its depth, its ends. No condition. -/
import Derived.Test.YteaahdakammffaaZ1Ex
import Derived.Lib.SlicesCompact
import Derived.RangeFuncBox
import Derived.RangeFuncLeaves
import Derived.Shelf.Abstract
import Derived.WalkKit
import Derived.OwnWalkIn
import Derived.TacticsInMore
import Derived.LoopNIn
import Derived.LoopIn
import Derived.Maps.AppendAt
import Derived.Lib.SlKeysI
import Derived.Test.YteaahdakammffaaProg
import Derived.Ground.SlgnProg
import Derived.Shelf.SlicesG.Turned
import Derived.Shelf.SlicesG.Equal
import Derived.Shelf.SlicesG.CompactI
import Derived.Shelf.SlicesG.Cells
import Derived.Ground.SlgmProg
import Derived.Shelf.SortM.Plain
import Derived.Shelf.SortM.SortNone
import Derived.Lib.AppendZerosOnto
import Derived.Lib.Walk
import Derived.Lib.SliceRun
import Derived.Test.YteaahdakammffaaRows
namespace Go.Proofs.Yteaahdakammffaa.Math
open Go.Proofs.Yteaahdakammffaa.V
set_option linter.unusedVariables false
set_option linter.unusedSimpArgs false
/-! ### Lists by their places -/
section
variable {α : Type}
theorem take_step {l : List α} {i : Nat} (d : α) (h : i < l.length) : l.take (i + 1) = l.take i ++ [l.getD i d] := by
  rw [List.take_add_one]; simp [List.getD, List.getElem?_eq_getElem h]
theorem getD_mem {l : List α} {i : Nat} (d : α) (h : i < l.length) : l.getD i d ∈ l := by
  simp [List.getD, List.getElem?_eq_getElem h]
end
def inB (lo hi z : Int) : Bool := decide (lo ≤ z ∧ z ≤ hi)
/-- Strictly increasing. -/
def risingB : List Int → Bool
  | a :: b :: r => decide (a < b) && risingB (b :: r)
  | _ => true
/-- Strictly increasing within 0 to n - 1. -/
def risesB (n : Int) (l : List Int) : Bool := l.all (inB 0 (n - 1)) && risingB l
/-! ### A slice that is filled from the left -/
theorem fill_step {α : Type} (d z : α) {l : List α} {n i : Nat} (hl : l.length = n) (h : i < n) : (l.take i ++ List.replicate (n - i) z).set i (l.getD i d) = l.take (i + 1) ++ List.replicate (n - (i + 1)) z := by
  rw [take_step d (by omega), List.set_append_right _ _ (by simp; omega)]
  simp only [List.length_take, List.append_assoc]
  rw [show i - min i l.length = 0 from by omega, show n - i = (n - (i + 1)) + 1 from by omega, List.replicate_succ]
  rfl
theorem fill_start {α : Type} (l : List α) (n : Nat) (z : α) : List.replicate n z = l.take 0 ++ List.replicate (n - 0) z := by simp
theorem fill_end {α : Type} (z : α) {l : List α} {n i : Nat} (hl : l.length = n) (h : n ≤ i) : l.take i ++ List.replicate (n - i) z = l := by
  rw [show n - i = 0 from by omega, List.take_of_length_le (by omega)]; simp
/-- A node is as it should, apart from the others. -/
def okB (n i : Nat) (x : Nd) : Bool :=
  inB 0 2 x.pl && (inB 0 100 x.p0 && (inB 0 100 x.p1 &&
    cond (decide (x.pl = 2)) (decide (x.ch.length = 0) && (inB (-1) 1 x.fo && (decide (x.fo ≠ -1) || decide (x.p0 = x.p1))))
      (decide (x.fo = -1) && (inB 1 4 x.ch.length && (x.ch.all (inB ((i : Int) + 1) ((n : Int) - 1)) && risingB x.ch)))))
/-- The first numbers of 'l', as counts of 0, 1, .., n - 1. -/
def cntL (n : Nat) (l : List Int) : List Int := (List.range n).map fun (c : Nat) => (l.count (c : Int) : Int)
/-- All that the nodes lead to. -/
def kids (ns : List Nd) : List Int := ns.flatMap Nd.ch
def allOk (ns : List Nd) : Bool := (List.range ns.length).all fun i => okB ns.length i (ns.getD i dN)
def oneEach (ns : List Nd) : Bool := (List.range (ns.length - 1)).all fun i => decide ((kids ns).count ((i + 1 : Nat) : Int) = 1)
/-- The depth below a node. -/
def depthF (ns : List Nd) : Nat → Nat → Int
  | 0, _ => 0
  | k + 1, i => if (ns.getD i dN).pl = 2 then 0 else (ns.getD i dN).ch.foldl (fun m c => max m (depthF ns k c.toNat)) 0 + 1
def depth (ns : List Nd) (i : Nat) : Int := depthF ns ns.length i
def dmax (ns : List Nd) (l : List Int) : Int := l.foldl (fun m c => max m (depth ns c.toNat)) 0
/-- A tree. -/
def isTree (ns : List Nd) : Bool := decide (1 ≤ ns.length ∧ ns.length ≤ 60) && (allOk ns && (oneEach ns && decide (depth ns 0 ≤ 5)))
/-! ### How much of a budget is left -/
def cut (left s : Int) : Int := if s ≤ left then left - s else -1
/-- All that elements lead to, and themselves. -/
def sumK {α : Type} (f : α → Nat) (l : List α) : Nat := (l.map f).sum
def szK {α : Type} (f : α → Nat) (l : List α) : Nat := l.length + sumK f l
/-- The lengths of what nodes, and rows, lead to. -/
def chl (x : Nd) : Nat := x.ch.length
def rwl (x : List Int) : Nat := x.length
theorem upto {p : Nat → Prop} {i : Nat} (h : ∀ j, j < i → p j) (hi : p i) : ∀ j, j < i + 1 → p j := fun j hj => by
  rcases Nat.lt_or_ge j i with h' | h'
  · exact h j h'
  · obtain rfl : j = i := by omega
    exact hi
def risesTo (n : Int) (z : List Int) (i : Nat) : Prop := (∀ j, j < i → inB 0 (n - 1) (z.getD j 0) = true) ∧ ∀ j, j + 1 < i → z.getD j 0 < z.getD (j + 1) 0
/-! ### Why a node is not as it should -/
section
variable {n i : Nat} {x : Nd}
end
/-- The nodes of a player. -/
def nodesOf (ns : List Nd) (p : Int) : List Int := ((List.range ns.length).filter fun i => decide ((ns.getD i dN).pl = p)).map fun (i : Nat) => (i : Int)
def nodesTo (ns : List Nd) (p : Int) (k : Nat) : List Int := ((List.range k).filter fun i => decide ((ns.getD i dN).pl = p)).map fun (i : Nat) => (i : Int)
def endsOf (ns : List Nd) : List Int × Int := if isTree ns = true then (nodesOf ns 2, 0) else ([], 1)
def decsOf (ns : List Nd) (p : Int) : List Int × Int := if isTree ns = true then (if 0 ≤ p ∧ p ≤ 1 then (nodesOf ns p, 0) else ([], 2)) else ([], 1)
def depthOf (ns : List Nd) : Int × Int := if isTree ns = true then (depth ns 0, 0) else (0, 1)
/-- Where places lead. -/
def walk (ns : List Nd) : List Int → Int → Option Int
  | [], at_ => some at_
  | p :: r, at_ => if 0 ≤ p ∧ p ≤ ((ns.getD at_.toNat dN).ch.length : Int) - 1 then walk ns r ((ns.getD at_.toNat dN).ch.getD p.toNat 0) else none
def nodeBy (ns : List Nd) (way : List Int) : Int × Int := if isTree ns = true then (match walk ns way 0 with | some x => (x, 0) | none => (0, 4)) else (0, 1)
/-! ### Marks -/
def seqL (k : Int) (n : Nat) : List Int := (List.range n).map fun (i : Nat) => k + (i : Int)
def f4 (x : Nd) : Nat := 4 + x.ch.length
def markN (k : Int) (x : Nd) : Nd := ⟨k, k + 1, k + 1 + 1, k + 1 + 1 + 1, seqL (k + 1 + 1 + 1 + 1) x.ch.length⟩
def marksN (k : Int) (ys : List Nd) : List Nd := ys.mapIdx fun i x => markN (k + (sumK f4 (ys.take i) : Int)) x
def marksM (k : Int) (ys : List (List Int)) : List (List Int) := ys.mapIdx fun i x => seqL (k + (sumK rwl (ys.take i) : Int)) x.length
end Go.Proofs.Yteaahdakammffaa.Math
/- The engine: arrays of four numbers, slices of truth values, bits, rows that share what they lead to. No condition. -/
namespace Go.Proofs.Yteaahdakammffaa.V
open Go Go.RowKit
set_option linter.unusedVariables false
set_option linter.unusedSimpArgs false
/-- Numbers, sorted. -/
def srt (zs : List Int) : List Int := zs.mergeSort fun x y => decide (x ≤ y)
theorem srt_len (zs : List Int) : (srt zs).length = zs.length := by simp [srt]
theorem srt_nil : srt [] = [] := by simp [srt]
/-- Arrays of four numbers. -/
def a4K : RK (List Int) := ⟨fun x _ => [.int .i64 (x.getD 0 0), .int .i64 (x.getD 1 0), .int .i64 (x.getD 2 0), .int .i64 (x.getD 3 0)], fun _ => [], 4⟩
theorem a4K.ok : a4K.Ok := ⟨fun _ _ => rfl, fun x h v hv => by simp [a4K] at hv; rcases hv with rfl | rfl | rfl | rfl <;> rfl, by decide⟩
/-- Truth values. -/
def boK : RK Bool := ⟨fun x _ => [.bool x], fun _ => [], 1⟩
theorem boK.ok : boK.Ok := ⟨fun _ _ => rfl, fun x h v hv => by simp [boK] at hv; subst hv; rfl, by decide⟩
section
variable {P : Program} {n : Nat} {w0 : World} {M : Nat → Prop} {L : List (World → Prop)} {σ : Fr} {K : Ko} {ops : Array Oper} {S : World → Prop} {r : Sch} {i : Nat}
variable {d : Nat} {t ty yt : TypeId} {p : String} {af : Array Edge} {g : Option (Nat × Bool)} {a b : Operand}
theorem ixAv {bk : Nat} {zz : Int} (z : Nat) (hz : zz = z) (hA : Arr P ty 4 1) (h1 : z < 4) (ho : ops[i]? = some ⟨some d, .indexAddr ty a b, t, p, af, g⟩) (hg : go ops σ g) (ha : ev σ a = .pointer (some ⟨bk, 0, none⟩)) (hb : ev σ b = .int .i64 zz)
    (h : RG P n w0 M ops S L r (upd σ d (.pointer (some ⟨bk, z, none⟩))) K) : RG P n w0 M ops S L (.op .q i r) σ K := by
  subst hz
  obtain ⟨e, he, hs⟩ := hA
  exact rQ ho hg (fun w _ => by simp [execOp, ha, hb, Instr.indexAt, Instr.sureAddr, asIntOf, he, hs, h1, add_addr]) h
theorem a4_get {x : List Int} {z : Nat} (h : z < 4) : ([.int .i64 (x.getD 0 0), .int .i64 (x.getD 1 0), .int .i64 (x.getD 2 0), .int .i64 (x.getD 3 0)] : List Value)[z]? = some (.int .i64 (x.getD z 0)) := by
  match z, h with
  | 0, _ => rfl
  | 1, _ => rfl
  | 2, _ => rfl
  | 3, _ => rfl
theorem cA4 {bk e : Nat} {x : List Int} {z : Nat} (j : Nat) (hj : L[j]? = some (blk bk e [.int .i64 (x.getD 0 0), .int .i64 (x.getD 1 0), .int .i64 (x.getD 2 0), .int .i64 (x.getD 3 0)])) (h : z < 4) : Kn w0 M L fun w => w.cell? ⟨bk, z, none⟩ = some (.int .i64 (x.getD z 0)) :=
  (Kn.at_ j hj).imp fun w hw => blk.cell hw (a4_get h)
theorem shrU {x y : Int} {k2 : IntKind} (ho : ops[i]? = some ⟨some d, .binOp .shr ty a b yt, t, p, af, g⟩) (hg : go ops σ g) (ha : ev σ a = .int .u64 x) (hb : ev σ b = .int k2 y) (hr : 0 ≤ y ∧ y ≤ 64) (h : RG P n w0 M ops S L r (upd σ d (.int .u64 (x / 2 ^ y.toNat))) K) : RG P n w0 M ops S L (.op .q i r) σ K :=
  rQ ho hg (fun w _ => by
    have := Go.shift_shr .u64 k2 x y hr.1 hr.2
    simp [execOp, ha, hb, eqGuard, binOp_shr, this]) h
theorem shlU {y : Int} {k2 : IntKind} (ho : ops[i]? = some ⟨some d, .binOp .shl ty a b yt, t, p, af, g⟩) (hg : go ops σ g) (ha : ev σ a = .int .u64 1) (hb : ev σ b = .int k2 y) (hr : 0 ≤ y ∧ y ≤ 63) (h : RG P n w0 M ops S L r (upd σ d (.int .u64 ((2 ^ y.toNat : Nat) : Int))) K) : RG P n w0 M ops S L (.op .q i r) σ K :=
  rQ ho hg (fun w _ => by
    have h1 := Go.shift_shl .u64 k2 1 y hr.1 (show y ≤ (IntKind.u64.bits : Int) by show y ≤ 64; omega)
    have h2 : IntKind.u64.wrap (1 * 2 ^ y.toNat) = ((2 ^ y.toNat : Nat) : Int) := by
      have h3 : 2 ^ y.toNat ≤ 2 ^ 63 := Nat.pow_le_pow_right (by decide) (by omega)
      rw [IntKind.wrap_u64, Int.one_mul]
      have h4 : ((2 : Int) ^ y.toNat) = ((2 ^ y.toNat : Nat) : Int) := by push_cast; rfl
      rw [h4]
      have h5 : 2 ^ y.toNat ≤ 9223372036854775808 := h3
      clear h3 h4 h1 h
      generalize (2 ^ y.toNat : Nat) = m at h5 ⊢
      omega
    simp only [execOp, ha, hb, eqGuard, binOp_shl, Sem.run_bind, Sem.run_pure, Result.andThen_ok]
    rw [h1, h2]
    simp) h
theorem andU {x : Int} (ho : ops[i]? = some ⟨some d, .binOp .and ty a b yt, t, p, af, g⟩) (hg : go ops σ g) (ha : ev σ a = .int .u64 x) (hb : ev σ b = .int .u64 1) (hr : 0 ≤ x ∧ x ≤ 18446744073709551615) (h : RG P n w0 M ops S L r (upd σ d (.int .u64 (x % 2))) K) : RG P n w0 M ops S L (.op .q i r) σ K :=
  rQ ho hg (fun w _ => by
    have h1 : bits .and .u64 x 1 = x % 2 := by
      obtain ⟨m, rfl⟩ := Int.eq_ofNat_of_zero_le hr.1
      have hm : m < 2 ^ 64 := by have := hr.2; omega
      show IntKind.u64.wrap ((BitVec.ofInt 64 (m : Int) &&& BitVec.ofInt 64 1).toNat : Int) = _
      have h2 : (BitVec.ofInt 64 (m : Int) &&& BitVec.ofInt 64 1).toNat = m % 2 := by
        rw [BitVec.toNat_and, BitVec.ofInt_natCast, BitVec.toNat_ofNat, Nat.mod_eq_of_lt hm]
        show m &&& 1 = m % 2
        exact Nat.and_one_is_mod m
      rw [h2, IntKind.wrap_u64]; omega
    simp [execOp, ha, hb, eqGuard, binOp_and, intBits_and, h1]) h
theorem orU {x y : Nat} (ho : ops[i]? = some ⟨some d, .binOp .or ty a b yt, t, p, af, g⟩) (hg : go ops σ g) (ha : ev σ a = .int .u64 (x : Int)) (hb : ev σ b = .int .u64 (y : Int)) (hr : x < 2 ^ 64 ∧ y < 2 ^ 64) (h : RG P n w0 M ops S L r (upd σ d (.int .u64 ((x ||| y : Nat) : Int))) K) : RG P n w0 M ops S L (.op .q i r) σ K :=
  rQ ho hg (fun w _ => by
    have h1 : bits .or .u64 (x : Int) (y : Int) = ((x ||| y : Nat) : Int) := by
      show IntKind.u64.wrap ((BitVec.ofInt 64 (x : Int) ||| BitVec.ofInt 64 (y : Int)).toNat : Int) = _
      have h2 : (BitVec.ofInt 64 (x : Int) ||| BitVec.ofInt 64 (y : Int)).toNat = x ||| y := by
        rw [BitVec.toNat_or, BitVec.ofInt_natCast, BitVec.ofInt_natCast, BitVec.toNat_ofNat, BitVec.toNat_ofNat, Nat.mod_eq_of_lt hr.1, Nat.mod_eq_of_lt hr.2]
      have h3 : x ||| y < 2 ^ 64 := Nat.or_lt_two_pow hr.1 hr.2
      rw [h2, IntKind.wrap_u64]; omega
    simp [execOp, ha, hb, eqGuard, binOp_or, intBits_or, h1]) h
end
/-- Rows whose own cells are owned, and which lead to what other rows lead to. -/
def SubR (e : Nat) (Ha : Nat → Hd) (all : List (List Int)) (a : Option Addr) (n c : Nat) (hs : Nat → Hd) (xs : List (List Int)) : World → Prop := fun w =>
  (Own e 1 a n c (rowsV maK hs xs).flatten w ∧ xs.length = n) ∧ ∀ i x, xs[i]? = some x → ∃ j, all[j]? = some x ∧ hs i = Ha j
section
variable {w0 : World} {M : Nat → Prop} {L : List (World → Prop)} {w : World} {e e1 e2 : Nat} {Ha : Nat → Hd} {all : List (List Int)} {a aa : Option Addr} {n c na ca : Nat} {hs : Nat → Hd} {xs : List (List Int)}
theorem Sep.subNil (Ha : Nat → Hd) (all : List (List Int)) (hs : Nat → Hd) {bk : Nat} (j : Nat) (h : Sep w0 M L w) (hj : L[j]? = some (blk bk e [])) : Sep w0 M (L.set j (SubR e Ha all (some ⟨bk, 0, none⟩) 0 0 hs [])) w :=
  h.imp j hj fun w hb => ⟨⟨Own.ofBlk hb (Nat.zero_le _), rfl⟩, fun i x hx => by simp at hx⟩
theorem Sep.subFuse (h : Sep w0 M (SubR e Ha all a n c hs xs :: OwnR maK e1 e2 aa na ca Ha all :: L) w) (hn : n ≤ 9223372036854775807) : Sep w0 M (RdR maK a n hs xs :: L) w :=
  h.fuse (χ := RdR maK a n hs xs) fun f g hf hg hd => ⟨fun k => f k ∨ g k, fun k hk => hk.elim .inl fun h => .inr (.inl h), fun w' ha => by
    have h1 := hf w' fun k hk => ha k (.inl hk)
    have h2 := (hg w' fun k hk => ha k (.inr hk)).rd maK.ok
    refine ⟨h1.1.2, hn, fun i x hx => ?_⟩
    obtain ⟨j, hj, he⟩ := h1.2 i x hx
    have hk := (h2.2.2 j x hj).2
    refine ⟨?_, by rw [he]; exact hk⟩
    obtain ⟨b, hb, _⟩ := h1.1.1.cell (flat_get (rowsV_all maK.ok) (rowsV_get hx) (j := 0) (v := .slice (hs i).1 x.length (hs i).2) rfl)
    refine ⟨b, 0, hb, fun j v hv => ?_⟩
    obtain ⟨b', hb', hc⟩ := h1.1.1.cell (flat_get (rowsV_all maK.ok) (rowsV_get hx) hv)
    rw [hb] at hb'; cases hb'
    rw [Nat.zero_add]; exact hc, Upd.refl _ _⟩
end
section
variable {P : Program} {n : Nat} {w0 : World} {M : Nat → Prop} {L : List (World → Prop)} {σ : Fr} {K : Ko} {ops : Array Oper} {S : World → Prop} {r : Sch} {i : Nat}
variable {d : Nat} {t ty yt : TypeId} {p : String} {af : Array Edge} {g : Option (Nat × Bool)} {a b : Operand}
theorem aplS {e by_ N C : Nat} {zc : List Value} {ao : Option Addr} {Ha hs : Nat → Hd} {all xs : List (List Int)} {x : List Int} {q lb le lc : Nat} (j i' : Nat) (hj : L[j]? = some (SubR e Ha all ao N C hs xs)) (hi : L[i']? = some (blk lb le (maK.cells x (Ha q)))) (hq : all[q]? = some x) (hji : j ≠ i') (hM : Mk P ty e 1 by_ zc)
    (hS : ∀ (u : Option Addr × Nat) w, Sep w0 M (L.set j (SubR e Ha all u.1 (N + 1) u.2 (hset hs xs.length (Ha q)) (xs ++ [x]))) w → S w)
    (ho : ops[i]? = some ⟨some d, .call ⟨.builtin .append, #[a, b], #[ty, ty]⟩, t, p, af, g⟩) (hg : go ops σ g) (ha : ev σ a = .slice ao N C) (hb : ev σ b = .slice (some ⟨lb, 0, none⟩) 1 lc) (hN : (N + 1) * by_ ≤ 140737488355328)
    (h : ∀ a' c', RG P n w0 M ops S (L.set j (SubR e Ha all a' (N + 1) c' (hset hs xs.length (Ha q)) (xs ++ [x]))) r (upd σ d (.slice a' (N + 1) c')) K) : RG P n w0 M ops S L (.op .l i r) σ K := by
  have hjl : j < L.length := (List.getElem?_eq_some_iff.1 hj).1
  have key : ∀ (u : Option Addr × Nat) w, xs.length = N → (∀ i x, xs[i]? = some x → ∃ j, all[j]? = some x ∧ hs i = Ha j) → Own e 1 u.1 (N + 1) u.2 ((rowsV maK hs xs).flatten ++ maK.cells x (Ha q)) w → SubR e Ha all u.1 (N + 1) u.2 (hset hs xs.length (Ha q)) (xs ++ [x]) w := fun u w hl hall ho => by
    refine ⟨⟨by rw [rowsV_app, List.flatten_append]; simpa using ho, by simp [hl]⟩, fun i y hy => ?_⟩
    rcases Nat.lt_or_ge i xs.length with hi | hi
    · rw [List.getElem?_append_left hi] at hy
      obtain ⟨j', hj', he⟩ := hall i y hy
      exact ⟨j', hj', by rw [hset_other _ _ (by omega)]; exact he⟩
    · rw [List.getElem?_append_right hi] at hy
      have h0 : i - xs.length = 0 := by
        have := (List.getElem?_eq_some_iff.1 hy).1
        simp at this; omega
      rw [h0] at hy
      cases hy
      obtain rfl : i = xs.length := by omega
      exact ⟨q, hq, by rw [hset_same]⟩
  intro w hs0
  have hsub : SubR e Ha all ao N C hs xs w := hs0.at_ j hj
  have hl := hsub.1.2
  have hall := hsub.2
  have hset2 : ∀ (φ ψ : World → Prop), (L.set j φ).set j ψ = L.set j ψ := fun φ ψ => by rw [List.set_set]
  have hs1 : Sep w0 M (L.set j (Own e 1 ao N C (rowsV maK hs xs).flatten)) w := hs0.imp j hj fun w h => h.1.1
  have hback : ∀ (u : Option Addr × Nat) w, Sep w0 M ((L.set j (Own e 1 ao N C (rowsV maK hs xs).flatten)).set j (Own e 1 u.1 (N + 1) u.2 ((rowsV maK hs xs).flatten ++ maK.cells x (Ha q)))) w → Sep w0 M (L.set j (SubR e Ha all u.1 (N + 1) u.2 (hset hs xs.length (Ha q)) (xs ++ [x]))) w := fun u w h => by
    have h2 := h.imp (ψ := SubR e Ha all u.1 (N + 1) u.2 (hset hs xs.length (Ha q)) (xs ++ [x])) j (List.getElem?_set_self (by simpa using hjl)) fun w hw => key u w hl hall hw
    rw [hset2, hset2] at h2
    exact h2
  have hi2 : (L.set j (Own e 1 ao N C (rowsV maK hs xs).flatten))[i']? = some (blk lb le (maK.cells x (Ha q))) := by
    rw [List.getElem?_set_ne]
    · exact hi
    · exact hji
  exact apl j i' (List.getElem?_set_self hjl) hi2 hM (fun u w h => hS u w (hback u w h)) ho hg ha hb (by rfl) (fun v hv => maK.ok.one _ _ v hv) hN (fun a' c' w h' => h a' c' w (hback (a', c') w h')) w hs1
end
section
variable {P : Program} {n : Nat} {w0 : World} {M : Nat → Prop} {L L' : List (World → Prop)} {σ : Fr} {K K' : Ko} {c x y : Code} {ops : Array Oper} {S : World → Prop} {r : Sch} {i : Nat}
variable {d : Nat} {t : TypeId} {p : String} {af : Array Edge} {g : Option (Nat × Bool)}
theorem callF_opw {f : FuncId} {co : Operand} {args : Array Operand} {tys : Array TypeId} {R : Value → World → Prop} {Q : Fr → World → Prop} {w : World} (hf : ∀ args w, (callFunc f args).run P w = .ok (.enter f args) w) (hco : ev σ co = .func (.func f) #[] #[])
    (hc : Calls P f (args.toList.map (ev σ)).toArray w (Ret R)) (hq : ∀ v w', R v w' → Q (upd σ d v) w') : opw P ⟨some d, .call ⟨.value co, args, tys⟩, t, p, af, g⟩ σ w Q := by
  have hr : (execOp (ev σ) ⟨some d, .call ⟨.value co, args, tys⟩, t, p, af, g⟩).run P w = .ok (.enter f (args.toList.map (ev σ)).toArray) w := by
    have he : args.map (ev σ) = (args.toList.map (ev σ)).toArray := by rw [← Array.toList_map, Array.toArray_toList]
    simp [execOp, resolve, hco, Deferred.ofValue, invoke, hf, he]
  unfold opw; rw [hr]
  exact Calls.mono hc fun e w' ⟨v, he, hR⟩ => ⟨v, he, hq v w' hR⟩
/-- A call of a function that lies in a slot. -/
theorem callF {f : FuncId} {co : Operand} {args : Array Operand} {tys : Array TypeId} {v : Value} (hf : ∀ args w, (callFunc f args).run P w = .ok (.enter f args) w) (hS : ∀ w, Sep w0 M L w → S w) (ho : ops[i]? = some ⟨some d, .call ⟨.value co, args, tys⟩, t, p, af, g⟩) (hg : go ops σ g) (hco : ev σ co = .func (.func f) #[] #[])
    (hc : ∀ w, Sep w0 M L w → Calls P f (args.toList.map (ev σ)).toArray w (Ret fun v' w' => v' = v ∧ Ext w w')) (h : RG P n w0 M ops S L r (upd σ d v) K) : RG P n w0 M ops S L (.op .l i r) σ K :=
  rL1 hS ho hg (fun w hs => callF_opw hf hco (hc w hs) fun v' w' ⟨he, hx⟩ => by subst he; exact ⟨hs.ext hx, rfl⟩) h
end
/-- The head of an owned slice of numbers, read. -/
theorem slHil {P : Program} {nn : Nat} {w0 : World} {M : Nat → Prop} {L : List (World → Prop)} {σ : Fr} {K : Ko} {ops : Array Oper} {S : World → Prop} {r : Sch} {i : Nat} {d : Nat} {t : TypeId} {p : String} {af : Array Edge} {g : Option (Nat × Bool)} {ao bo : Operand} {e ty N C : Nat} {a : Option Addr} {zs : List Int} {z : Int} {kk : IntKind} (j : Nat) (hj : L[j]? = some (OwnI e a N C zs)) (hE : Elt P ty 1) (ho : ops[i]? = some ⟨some d, .slice ty ao none (some bo) none, t, p, af, g⟩) (hg : go ops σ g) (ha : ev σ ao = .slice a N C) (hb : ev σ bo = .int kk z) (h0 : 0 ≤ z) (h1 : z ≤ N) {zn : Nat} (hzn : z.toNat = zn)
    (h : Kn w0 M L (RdI a zn (zs.take zn)) → RG P nn w0 M ops S L r (upd σ d (.slice a zn C)) K) : RG P nn w0 M ops S L (.op .q i r) σ K := fun w hw => by
  have hown : OwnI e a N C zs w := hw.at_ j hj
  subst hzn
  obtain ⟨e', he, hs'⟩ := hE
  have hNC : N ≤ C := by
    rcases hown.2 with ⟨hv, h0'⟩ | ⟨g', cap, cur, hv, _, _, hnc, _⟩
    · omega
    · cases hv; exact hnc
  refine rQ (v := .slice a z.toNat C) ho hg (fun w' hw' => ?_) (h fun w' hw' => ?_) w hw
  · have hzc : z ≤ C := by omega
    have hadd : a.map (fun x => x.add 0) = a := by cases a <;> simp [Addr.add]
    simp [execOp, ha, hb, Instr.sliceAt, Instr.slice, Instr.sliceBounds, Instr.sliceBound, asIntOf, he w', hs' w', h0, h1, hzc, hadd]
  · have hrd : RdI a N zs w' := OwnI.rd (hw'.at_ j hj)
    refine ⟨by rw [List.length_take, hrd.1]; omega, by have := hrd.2.1; omega, fun k v hk => hrd.2.2 k v ?_⟩
    rw [show iv (zs.take z.toNat) = (iv zs).take z.toNat from by simp [iv, List.map_take]] at hk
    have := (List.getElem?_eq_some_iff.1 hk).1
    rw [List.length_take] at this
    rwa [List.getElem?_take_of_lt (by omega)] at hk
end Go.Proofs.Yteaahdakammffaa.V
/- Plain facts: exchanges of suits, cards that are alike, classes. No condition. -/
namespace Go.Proofs.Yteaahdakammffaa.Iso
open Go.Proofs.Yteaahdakammffaa.V
set_option linter.unusedVariables false
set_option linter.unusedSimpArgs false
theorem gdE {α : Type} {l : List α} {d : α} {i : Nat} (h : i < l.length) : l.getD i d = l[i] := by rw [List.getD_eq_getElem?_getD, List.getElem?_eq_getElem h]; rfl
/-- Where an exchange takes a card. -/
def take4 (p : List Int) (c : Int) : Int := c / 4 * 4 + p.getD (c % 4).toNat 0
def image4 (p zs : List Int) : List Int := zs.map (take4 p)
def digs (n : Int) : List Int := [n / 64, n / 16 % 4, n / 4 % 4, n % 4]
def ordB (n : Int) : Bool := decide (n / 64 ≠ n / 16 % 4 ∧ n / 64 ≠ n / 4 % 4 ∧ n / 64 ≠ n % 4 ∧ n / 16 % 4 ≠ n / 4 % 4 ∧ n / 16 % 4 ≠ n % 4 ∧ n / 4 % 4 ≠ n % 4)
def ords (k : Nat) : List (List Int) := ((List.range k).filter fun n : Nat => ordB (n : Int)).map fun n : Nat => digs (n : Int)
theorem ords_yes {k : Nat} (h : ordB (k : Int) = true) : ords (k + 1) = ords k ++ [digs (k : Int)] := by
  unfold ords; rw [List.range_succ, List.filter_append, List.map_append]; simp [h]
theorem ords_no {k : Nat} (h : ordB (k : Int) = false) : ords (k + 1) = ords k := by
  unfold ords; rw [List.range_succ, List.filter_append, List.map_append]; simp [h]
def orders : List (List Int) := ords 256
def isP (p : List Int) : Prop := p.length = 4 ∧ ∀ k, 0 ≤ p.getD k 0 ∧ p.getD k 0 ≤ 3
theorem digs_isP {n : Int} (h : 0 ≤ n ∧ n < 256) : isP (digs n) := by
  refine ⟨rfl, fun k => ?_⟩
  match k with
  | 0 => show 0 ≤ n / 64 ∧ n / 64 ≤ 3; omega
  | 1 => show 0 ≤ n / 16 % 4 ∧ n / 16 % 4 ≤ 3; omega
  | 2 => show 0 ≤ n / 4 % 4 ∧ n / 4 % 4 ≤ 3; omega
  | 3 => show 0 ≤ n % 4 ∧ n % 4 ≤ 3; omega
  | k + 4 => show (0 : Int) ≤ 0 ∧ (0 : Int) ≤ 3; omega
theorem ords_isP {k : Nat} (hk : k ≤ 256) {p : List Int} (h : p ∈ ords k) : isP p := by
  obtain ⟨n, hn, rfl⟩ := List.mem_map.1 h
  have := List.mem_range.1 (List.mem_filter.1 hn).1
  exact digs_isP (by omega)
theorem orders_isP {p : List Int} (h : p ∈ orders) : isP p := ords_isP (Nat.le_refl _) h
theorem ords_len (k : Nat) : (ords k).length ≤ k := by
  unfold ords; rw [List.length_map]
  exact Nat.le_trans (List.length_filter_le _ _) (by simp)
theorem orders_len : orders.length ≤ 256 := ords_len 256
theorem orders_at {i : Nat} (h : i < orders.length) : isP (orders.getD i []) := by
  rw [gdE h]; exact orders_isP (List.getElem_mem h)
theorem isP_eq {p : List Int} (h : isP p) : p = [p.getD 0 0, p.getD 1 0, p.getD 2 0, p.getD 3 0] := by
  obtain ⟨h, -⟩ := h
  match p, h with
  | [a, b, c, d], _ => rfl
theorem image4_snoc {p z : List Int} {i : Nat} (h : i < z.length) : image4 p (z.take i) ++ [take4 p (z.getD i 0)] = image4 p (z.take (i + 1)) := by
  unfold image4
  rw [List.take_add_one, List.map_append, gdE h, List.getElem?_eq_getElem h]; rfl
theorem image4_len (p z : List Int) : (image4 p z).length = z.length := by simp [image4]
/-- Cards. -/
def areP (z : List Int) : Prop := (∀ x ∈ z, 0 ≤ x ∧ x ≤ 51) ∧ z.Nodup
instance (z : List Int) : Decidable (areP z) := inferInstanceAs (Decidable (_ ∧ _))
def areB (z : List Int) : Bool := decide (areP z)
theorem areP_nil : areP [] := ⟨by simp, List.nodup_nil⟩
theorem areP_snoc {ys : List Int} {x : Int} : areP (ys ++ [x]) ↔ areP ys ∧ (0 ≤ x ∧ x ≤ 51) ∧ x ∉ ys := by
  unfold areP
  constructor
  · rintro ⟨h1, h2⟩
    have h3 := List.nodup_append.1 h2
    exact ⟨⟨fun y hy => h1 y (by simp [hy]), h3.1⟩, h1 x (by simp), fun hx => h3.2.2 x hx x (by simp) rfl⟩
  · rintro ⟨⟨h1, h2⟩, h3, h4⟩
    refine ⟨fun y hy => ?_, List.nodup_append.2 ⟨h2, by simp, fun a ha b hb e => ?_⟩⟩
    · rcases List.mem_append.1 hy with h | h
      · exact h1 y h
      · rw [List.mem_singleton.1 h]; exact h3
    · rw [List.mem_singleton.1 hb] at e; exact h4 (e ▸ ha)
theorem areP_take {z : List Int} (h : areP z) (i : Nat) : areP (z.take i) := ⟨fun x hx => h.1 x (List.mem_of_mem_take hx), h.2.sublist (List.take_sublist i z)⟩
theorem take_snoc {z : List Int} {i : Nat} (h : i < z.length) : z.take (i + 1) = z.take i ++ [z.getD i 0] := by
  rw [List.take_add_one, gdE h, List.getElem?_eq_getElem h]; rfl
theorem areP_next {z : List Int} {i : Nat} (h : i < z.length) (h0 : areP (z.take i)) (h1 : 0 ≤ z.getD i 0 ∧ z.getD i 0 ≤ 51) (h2 : z.getD i 0 ∉ z.take i) : areP (z.take (i + 1)) := by
  rw [take_snoc h]; exact areP_snoc.2 ⟨h0, h1, h2⟩
theorem areB_out {z : List Int} {i : Nat} (h : i < z.length) (h1 : ¬ (0 ≤ z.getD i 0 ∧ z.getD i 0 ≤ 51)) : areB z = false :=
  decide_eq_false fun hz => by
    have := areP_take hz (i + 1)
    rw [take_snoc h] at this
    exact h1 (areP_snoc.1 this).2.1
theorem areB_twice {z : List Int} {i : Nat} (h : i < z.length) (h1 : z.getD i 0 ∈ z.take i) : areB z = false :=
  decide_eq_false fun hz => by
    have := areP_take hz (i + 1)
    rw [take_snoc h] at this
    exact (areP_snoc.1 this).2.2 h1
theorem areB_end {z : List Int} {i : Nat} (h : z.length ≤ i) (h0 : areP (z.take i)) : areB z = true := by
  rw [List.take_of_length_le h] at h0; exact decide_eq_true h0
theorem areB_P {z : List Int} (h : areB z = true) : areP z := of_decide_eq_true h
theorem nodup_len : ∀ (n : Nat) (z : List Int), z.Nodup → (∀ x ∈ z, 0 ≤ x ∧ x < n) → z.length ≤ n
  | 0, z, _, h => by
    cases z with
    | nil => simp
    | cons x z => have := h x (by simp); omega
  | n + 1, z, hd, h => by
    have h1 := nodup_len n (z.erase n) (hd.erase _) fun x hx => by
      have h2 := (hd.mem_erase_iff).1 hx
      have := h x h2.2
      have h3 : x ≠ (n : Int) := h2.1
      omega
    rw [List.length_erase] at h1
    split at h1 <;> omega
theorem areP_len {z : List Int} (h : areP z) : z.length ≤ 52 := nodup_len 52 z h.2 fun x hx => by have := h.1 x hx; omega
/-- A number whose bits say which cards were seen. -/
def maskOk (m : Nat) (ys : List Int) : Prop := m < 2 ^ 52 ∧ ∀ k : Nat, m.testBit k = decide ((k : Int) ∈ ys)
theorem mask0 : maskOk 0 [] := ⟨by decide, fun k => by simp⟩
theorem mask_bit {m : Nat} {ys : List Int} {c : Int} (h : maskOk m ys) (hc : 0 ≤ c) : ((m : Int) / 2 ^ c.toNat % 2 = 1) ↔ c ∈ ys := by
  have h1 := h.2 c.toNat
  rw [Int.toNat_of_nonneg hc, Nat.testBit_eq_decide_div_mod_eq] at h1
  have h2 : (m : Int) / 2 ^ c.toNat % 2 = ((m / 2 ^ c.toNat % 2 : Nat) : Int) := by push_cast; rfl
  rw [h2]
  have h3 : (m / 2 ^ c.toNat % 2 = 1) ↔ c ∈ ys := by simpa using h1
  rw [← h3]; omega
theorem mask_lt {m : Nat} {ys : List Int} (h : maskOk m ys) : m < 2 ^ 64 := Nat.lt_trans h.1 (by decide)
theorem mask_div {m : Nat} {ys : List Int} {c : Int} (h : maskOk m ys) : 0 ≤ (m : Int) / 2 ^ c.toNat ∧ (m : Int) / 2 ^ c.toNat ≤ 18446744073709551615 := by
  have h1 : m < 4503599627370496 := h.1
  have h2 : (m : Int) / 2 ^ c.toNat = ((m / 2 ^ c.toNat : Nat) : Int) := by push_cast; rfl
  have h3 : m / 2 ^ c.toNat ≤ m := Nat.div_le_self _ _
  rw [h2]
  generalize m / 2 ^ c.toNat = q at h3
  omega
theorem pow_lt {c : Int} (hc : 0 ≤ c ∧ c ≤ 51) : 2 ^ c.toNat < 2 ^ 52 := Nat.pow_lt_pow_right (by decide) (by omega)
theorem mask_step {m : Nat} {ys : List Int} {c : Int} (h : maskOk m ys) (hc : 0 ≤ c ∧ c ≤ 51) : maskOk (m ||| 2 ^ c.toNat) (ys ++ [c]) := by
  refine ⟨Nat.or_lt_two_pow h.1 (pow_lt hc), fun k => ?_⟩
  rw [Nat.testBit_or, h.2, Nat.testBit_two_pow]
  by_cases e : c.toNat = k
  · have : (k : Int) = c := by omega
    simp [e, this]
  · have : ¬ (k : Int) = c := by omega
    simp [e, this]
/-- Which cards were seen. -/
def seenB (ys : List Int) : List Bool := (List.range 52).map fun k : Nat => decide ((k : Int) ∈ ys)
theorem seenB_nil : seenB [] = List.replicate 52 false := by decide
theorem seenB_len (ys : List Int) : (seenB ys).length = 52 := by simp [seenB]
theorem seenB_get {ys : List Int} {c : Int} (hc : 0 ≤ c ∧ c ≤ 51) : (seenB ys).getD c.toNat false = decide (c ∈ ys) := by
  rw [gdE (by rw [seenB_len]; omega)]
  simp only [seenB, List.getElem_map, List.getElem_range]
  rw [Int.toNat_of_nonneg hc.1]
theorem seenB_set {ys : List Int} {c : Int} (hc : 0 ≤ c ∧ c ≤ 51) : (seenB ys).set c.toNat true = seenB (ys ++ [c]) := by
  apply List.ext_getElem
  · simp [seenB]
  · intro k h1 h2
    rw [List.getElem_set]
    simp only [seenB, List.getElem_map, List.getElem_range]
    by_cases e : c.toNat = k
    · have : (k : Int) = c := by omega
      simp [e, this]
    · have : ¬ (k : Int) = c := by omega
      simp [e, this]
/-- The code of sets of cards. -/
def codeS (sets : List (List Int)) : Int := if 6 < sets.length then 3 else if sets.all areB then 0 else 1
def badAt (sets : List (List Int)) : Int := if sets.all areB then -1 else (sets.findIdx (fun z => !areB z) : Nat)
theorem all_snoc {α : Type} {f : α → Bool} {l : List α} {i : Nat} (d : α) (h : i < l.length) : (l.take (i + 1)).all f = ((l.take i).all f && f (l.getD i d)) := by
  rw [List.take_add_one, List.all_append, gdE h, List.getElem?_eq_getElem h]; simp
theorem all_not {α : Type} {f : α → Bool} {l : List α} {i : Nat} (d : α) (h : i < l.length) (h1 : f (l.getD i d) = false) : l.all f = false := by
  rw [gdE h] at h1
  exact List.all_eq_false.2 ⟨l[i], List.getElem_mem h, by simp [h1]⟩
theorem all_end {α : Type} {f : α → Bool} {l : List α} {i : Nat} (h : l.length ≤ i) (h1 : (l.take i).all f = true) : l.all f = true := by
  rwa [List.take_of_length_le h] at h1
theorem badAt_here {sets : List (List Int)} {i : Nat} (h : i < sets.length) (h0 : (sets.take i).all areB = true) (h1 : areB (sets.getD i []) = false) : badAt sets = (i : Int) := by
  unfold badAt
  rw [all_not [] h h1, if_neg (by simp)]
  rw [gdE h] at h1
  congr 1
  rw [List.findIdx_eq h]
  refine ⟨by simp [h1], fun j hj => ?_⟩
  have := List.all_eq_true.1 h0 (sets[j]) (by
    rw [List.mem_take_iff_getElem]
    exact ⟨j, by omega, rfl⟩)
  simp [this]
theorem badAt_end {sets : List (List Int)} (h : sets.all areB = true) : badAt sets = -1 := by unfold badAt; rw [if_pos h]
theorem badAt_neg (sets : List (List Int)) : decide (0 ≤ badAt sets) = !(sets.all areB) := by
  unfold badAt
  by_cases h : sets.all areB = true
  · rw [if_pos h, h]; decide
  · rw [if_neg h]
    have h' : sets.all areB = false := by simpa using h
    rw [h']; simp
theorem code_lim {sets : List (List Int)} (h : 6 < sets.length) : codeS sets = 3 := if_pos h
theorem code_bad {sets : List (List Int)} (h : sets.length ≤ 6) (h1 : sets.all areB = false) : codeS sets = 1 := by
  unfold codeS; rw [if_neg (by omega), if_neg (by simp [h1])]
theorem code_yes {sets : List (List Int)} (h : sets.length ≤ 6) (h1 : sets.all areB = true) : codeS sets = 0 := by
  unfold codeS; rw [if_neg (by omega), if_pos h1]
theorem codeS_all {sets : List (List Int)} (h : codeS sets = 0) : sets.length ≤ 6 ∧ sets.all areB = true := by
  unfold codeS at h
  split at h
  · omega
  · split at h
    · exact ⟨by omega, by assumption⟩
    · omega
theorem codeS_P {sets : List (List Int)} (h : codeS sets = 0) {s : List Int} (hs : s ∈ sets) : areP s := areB_P (List.all_eq_true.1 (codeS_all h).2 s hs)
theorem codeS_at {sets : List (List Int)} (h : codeS sets = 0) {i : Nat} (hi : i < sets.length) : areP (sets.getD i []) := by
  rw [gdE hi]; exact codeS_P h (List.getElem_mem hi)
theorem has_yes {z : List Int} {x : Int} {i : Nat} (hi : i < z.length) (h : z.getD i 0 = x) : z.contains x = true := by
  rw [gdE hi] at h
  rw [List.contains_iff_mem, ← h]; exact List.getElem_mem hi
theorem has_no {z : List Int} {x : Int} {i : Nat} (hi : z.length ≤ i) (h : x ∉ z.take i) : z.contains x = false := by
  rw [List.take_of_length_le hi] at h
  simpa using h
theorem not_snoc {z : List Int} {x : Int} {i : Nat} (hi : i < z.length) (h : x ∉ z.take i) (h1 : z.getD i 0 ≠ x) : x ∉ z.take (i + 1) := by
  rw [take_snoc hi, List.mem_append, List.mem_singleton]; exact fun e => e.elim h fun e => h1 e.symm
/-- Sorted lists. -/
theorem srt_perm (zs : List Int) : (srt zs).Perm zs := List.mergeSort_perm _ _
theorem srt_sorted (zs : List Int) : (srt zs).Pairwise (· ≤ ·) := by
  have h := List.pairwise_mergeSort (le := fun x y : Int => decide (x ≤ y)) (fun a b c h1 h2 => by simp at *; omega) (fun a b => by simp; omega) zs
  exact h.imp fun h => by simpa using h
theorem srt_mem {zs : List Int} {x : Int} : x ∈ srt zs ↔ x ∈ zs := (srt_perm zs).mem_iff
theorem sorted_eq {a b : List Int} (ha : a.Pairwise (· ≤ ·)) (hb : b.Pairwise (· ≤ ·)) (h : a.Perm b) : a = b :=
  List.Perm.eq_of_pairwise (le := (· ≤ ·)) (fun x y _ _ h1 h2 => Int.le_antisymm h1 h2) ha hb h
theorem srt_of {a b : List Int} (ha : a.Pairwise (· ≤ ·)) (h : a.Perm b) : a = srt b := sorted_eq ha (srt_sorted b) (h.trans (srt_perm b).symm)
/-- One number more, put where it belongs. -/
theorem srt_put {z out : List Int} {x : Int} {k : Nat} (ho : out = srt z) (h1 : ∀ j, j < k → j < out.length → out.getD j 0 ≤ x) (h2 : k < out.length → x < out.getD k 0) : out.take k ++ [x] ++ out.drop k = srt (z ++ [x]) := by
  have hs : out.Pairwise (· ≤ ·) := ho ▸ srt_sorted z
  apply srt_of
  · rw [List.append_assoc, List.pairwise_append]
    have hsp : (out.take k ++ out.drop k).Pairwise (· ≤ ·) := by rw [List.take_append_drop]; exact hs
    rw [List.pairwise_append] at hsp
    have hlow : ∀ a ∈ out.take k, a ≤ x := fun a ha => by
      obtain ⟨j, hj, rfl⟩ := List.mem_take_iff_getElem.1 ha
      have hj' : j < out.length := by omega
      have := h1 j (by omega) hj'
      rwa [gdE hj'] at this
    have hhigh : ∀ b ∈ out.drop k, x ≤ b := fun b hb => by
      rcases Nat.lt_or_ge k out.length with hk | hk
      · have hx := h2 hk
        rw [gdE hk] at hx
        obtain ⟨j, hj, rfl⟩ := List.mem_iff_getElem.1 hb
        rw [List.length_drop] at hj
        rw [List.getElem_drop]
        rcases Nat.eq_zero_or_pos j with h0 | h0
        · subst h0; simpa using Int.le_of_lt hx
        · have := List.pairwise_iff_getElem.1 hs k (k + j) hk (by omega) (by omega)
          omega
      · rw [List.drop_of_length_le hk] at hb; cases hb
    refine ⟨hsp.1, List.pairwise_cons.2 ⟨hhigh, hsp.2.1⟩, fun a ha b hb => ?_⟩
    rcases List.mem_cons.1 hb with rfl | hb
    · exact hlow a ha
    · exact hsp.2.2 a ha b hb
  · have : (out.take k ++ [x] ++ out.drop k).Perm ([x] ++ (out.take k ++ out.drop k)) := by
      rw [← List.append_assoc]; exact List.Perm.append_right _ List.perm_append_comm
    refine this.trans ?_
    rw [List.take_append_drop, ho]
    exact (List.Perm.append_left _ (srt_perm z)).trans List.perm_append_comm
/-- Exchanges that fix sets. -/
def fixB (p s : List Int) : Bool := decide (srt (image4 p s) = srt s)
def fixS (p : List Int) (sets : List (List Int)) : Bool := sets.all (fixB p)
def fixL (sets : List (List Int)) (k : Nat) : List (List Int) := (orders.take k).filter fun p => fixS p sets
def fixA (sets : List (List Int)) : List (List Int) := orders.filter fun p => fixS p sets
theorem fixL_end {sets : List (List Int)} {k : Nat} (h : orders.length ≤ k) : fixL sets k = fixA sets := by unfold fixL fixA; rw [List.take_of_length_le h]
theorem fixL_yes {sets : List (List Int)} {k : Nat} (h : k < orders.length) (h1 : fixS (orders.getD k []) sets = true) : fixL sets (k + 1) = fixL sets k ++ [orders.getD k []] := by
  unfold fixL
  rw [List.take_add_one, List.filter_append, List.getElem?_eq_getElem h]
  rw [gdE h] at h1 ⊢
  simp [h1]
theorem fixL_no {sets : List (List Int)} {k : Nat} (h : k < orders.length) (h1 : fixS (orders.getD k []) sets = false) : fixL sets (k + 1) = fixL sets k := by
  unfold fixL
  rw [List.take_add_one, List.filter_append, List.getElem?_eq_getElem h]
  rw [gdE h] at h1
  simp [h1]
theorem fixA_isP {sets : List (List Int)} {p : List Int} (h : p ∈ fixA sets) : isP p := orders_isP (List.mem_filter.1 h).1
theorem fixA_len (sets : List (List Int)) : (fixA sets).length ≤ 256 := Nat.le_trans (List.length_filter_le _ _) orders_len
theorem id_order : [0, 1, 2, 3] ∈ orders := by
  unfold orders ords
  exact List.mem_map.2 ⟨27, List.mem_filter.2 ⟨List.mem_range.2 (by decide), by decide⟩, by decide⟩
theorem take4_id (c : Int) : take4 [0, 1, 2, 3] c = c := by
  unfold take4
  have h : ([0, 1, 2, 3] : List Int).getD (c % 4).toNat 0 = c % 4 := by
    have h1 : c % 4 = 0 ∨ c % 4 = 1 ∨ c % 4 = 2 ∨ c % 4 = 3 := by omega
    rcases h1 with h1 | h1 | h1 | h1 <;> rw [h1] <;> rfl
  rw [h]; omega
theorem image4_id (z : List Int) : image4 [0, 1, 2, 3] z = z := by
  unfold image4
  rw [show take4 [0, 1, 2, 3] = id from funext take4_id, List.map_id]
theorem id_fix (sets : List (List Int)) : [0, 1, 2, 3] ∈ fixA sets := by
  refine List.mem_filter.2 ⟨id_order, ?_⟩
  refine List.all_eq_true.2 fun s _ => ?_
  simp [fixB, image4_id]
/-- Cards that are alike. -/
def alkTo (ex : List (List Int)) (c : Int) (k : Nat) : List Int := ((List.range k).map Int.ofNat).filter fun d => ex.any fun p => decide (take4 p c = d)
def alk (ex : List (List Int)) (c : Int) : List Int := alkTo ex c 52
def alkC (ex : List (List Int)) (c : Int) : List Int := Lib.compact (srt (ex.map fun p => take4 p c))
/-- Classes of the cards that are in no set. -/
def clsB (sets : List (List Int)) (c : Int) : Bool := !(sets.flatten.contains c) && decide ((alk (fixA sets) c).getD 0 0 = c)
def cls (sets : List (List Int)) (k : Nat) : List Int := ((List.range k).map Int.ofNat).filter (clsB sets)
def sizL (sets : List (List Int)) (k : Nat) : List Int := (cls sets k).map fun c => ((alk (fixA sets) c).length : Int)
theorem image4_at {p z : List Int} {i : Nat} (h : i < z.length) : (image4 p z).getD i 0 = take4 p (z.getD i 0) := by
  rw [gdE (by rw [image4_len]; exact h), gdE h]; simp [image4]
theorem fixS_snoc {p : List Int} {z : List (List Int)} {j : Nat} (h : j < z.length) : fixS p (z.take (j + 1)) = (fixS p (z.take j) && fixB p (z.getD j [])) := all_snoc [] h
theorem fixB_flip (p s : List Int) : decide (srt s = srt (image4 p s)) = fixB p s := decide_eq_decide.2 eq_comm
theorem ext_getD {a b : List Int} (hl : a.length = b.length) (h : ∀ j, j < a.length → a.getD j 0 = b.getD j 0) : a = b := by
  apply List.ext_getElem hl
  intro j h1 h2
  have := h j h1
  rwa [gdE h1, gdE h2] at this
def nextY (z : List (List Int)) : List Int := if codeS z = 0 then cls z 52 else []
def nextU (z : List (List Int)) : List Int := if codeS z = 0 then sizL z 52 else []
end Go.Proofs.Yteaahdakammffaa.Iso
/- The library's iterator over a slice, what collects it, and the sort: contracts at this dump. -/
namespace Go.Proofs.Yteaahdakammffaa.It
open Go Go.Proofs Go.RowKit Go.Shelf Go.Sort
set_option linter.unusedVariables false
set_option linter.unusedSimpArgs false
attribute [local go_sem] Oper.semAt_some
def vInt : Value → Int | .int _ q => q | _ => 0
def upto {α : Type} (f : Nat → α) (k : Nat) : List α := (List.range k).map f
theorem upto_succ {α : Type} (f : Nat → α) (k : Nat) : upto f (k + 1) = upto f k ++ [f k] := by simp [upto, List.range_succ]
theorem upto_length {α : Type} (f : Nat → α) (k : Nat) : (upto f k).length = k := by simp [upto]
theorem upto_all (zs : List Int) : upto (fun j => zs[j]?.getD 0) zs.length = zs := by
  apply List.ext_getElem
  · simp [upto]
  · intro i h1 h2
    simp [upto, h2]
theorem upto_take (zs : List Int) {k : Nat} (hk : k ≤ zs.length) : upto (fun j => zs[j]?.getD 0) k = zs.take k := by
  apply List.ext_getElem
  · simp [upto, hk]
  · intro i h1 h2
    have : i < zs.length := by simp [upto] at h1; omega
    simp [upto, this]
set_option maxRecDepth 100000 in
set_option maxHeartbeats 2000000 in
/-- The closure of slices.Values: for every loop body that keeps what lay below n₀. -/
theorem values1_in (F : Fence) (n : Nat) (h7 : F.fn 128) (hro : F.round = none) (hn : 1 ≤ n) (l Bs n₀ b off len cap : Nat) (zs : List Int) (hreach : len * 8 ≤ 140737488351232) (hb : b < n₀) (J Jx : List Int → World → Prop)
    (hY : ∀ pre x W, J pre W → pre.length < len → YieldAt F (n - 1) Try.prog l #[.int .i64 x] W fun e W' =>
      (e = .returned (.bool true) ∧ J (pre ++ [x]) W' ∧ Below n₀ W W') ∨ (e = .returned (.bool false) ∧ Jx (pre ++ [x]) W'))
    (W : World) (hBs : W.cell? ⟨Bs, 0, none⟩ = some (.slice (some ⟨b, off, none⟩) len cap)) (hc : ∀ j, j < len → W.cell? ⟨b, off + j, none⟩ = some (.int .i64 (zs[j]?.getD 0))) (h0 : J [] W) :
    CallsIn F n Try.prog 128 #[.func (.yield l) #[] #[], .pointer (some ⟨Bs, 0, none⟩)] W fun e W' => (∃ v, e = .returned v) ∧
      ((∃ ys, ys = upto (fun j => zs[j]?.getD 0) len ∧ J ys W') ∨ (∃ pre, (∃ k, k ≤ len ∧ pre = upto (fun j => zs[j]?.getD 0) k) ∧ Jx pre W')) := by
  refine callsIn_of_wp Try.func128 rfl h7 ?_ hro
  simp only [Try.ntmps128, List.size_toArray, List.length_cons, List.length_nil, Nat.reduceAdd, Nat.reduceSub, Array.replicate_succ, Array.replicate_zero, List.push_toArray, List.append_toArray, List.nil_append, List.cons_append]
  gi_wp2
  gi_loopw [7] (fun i wr => ∃ k : Nat, k ≤ len ∧ i = .int .i64 k ∧ J (upto (fun j => zs[j]?.getD 0) k) wr ∧ Below n₀ W wr)
    (fun i _ => len - (vInt i).toNat)
  case atStart => exact ⟨0, Nat.zero_le _, rfl, h0, Below.refl _ _⟩
  case round =>
    obtain ⟨k, hk, rfl, hJs, hnx⟩ := hrel
    have hcx : k < len → wr.cell? ⟨b, off + k, none⟩ = some (.int .i64 (zs[k]?.getD 0)) := fun h => (hnx.cell (p := ⟨b, off + k, none⟩) hb).trans (hc k h)
    by_cases hlt : k < len
    · obtain ⟨fn, tmps, assign, body, hy, hR⟩ := hY _ (zs[k]?.getD 0) wr hJs (by rw [upto_length]; exact hlt)
      have hcx' := hcx hlt
      gi_wp2
      refine hR.mono ?_
      rintro e W3 (⟨rfl, hJ3, hk3⟩ | ⟨rfl, hJx3⟩)
      · gi_wp2
        go_roundw
        case rel => exact ⟨k + 1, by omega, by simp, by rw [upto_succ]; exact hJ3, hnx.trans hk3⟩
        case measure => simp [vInt]; omega
      · gi_wp2
        refine bodyPost_ret (results_none rfl _ _ _) rfl ?_
        exact ⟨⟨_, rfl⟩, .inr ⟨_, ⟨k + 1, by omega, (upto_succ _ _).symm⟩, hJx3⟩⟩
    · obtain rfl : k = len := by omega
      gi_wp2
      go_end0
      exact ⟨⟨_, rfl⟩, .inl ⟨_, rfl, hJs⟩⟩
set_option maxRecDepth 100000 in
set_option maxHeartbeats 1000000 in
theorem values1_nil_in (F : Fence) (n : Nat) (h7 : F.fn 128) (hro : F.round = none) (l Bs cap : Nat) (p : Option Addr) (J : List Int → World → Prop) (W : World) (hBs : W.cell? ⟨Bs, 0, none⟩ = some (.slice p 0 cap)) (h0 : J [] W) :
    CallsIn F n Try.prog 128 #[.func (.yield l) #[] #[], .pointer (some ⟨Bs, 0, none⟩)] W fun e W' => (∃ v, e = .returned v) ∧ J [] W' := by
  refine callsIn_of_wp Try.func128 rfl h7 ?_ hro
  simp only [Try.ntmps128, List.size_toArray, List.length_cons, List.length_nil, Nat.reduceAdd, Nat.reduceSub, Array.replicate_succ, Array.replicate_zero, List.push_toArray, List.append_toArray, List.nil_append, List.cons_append]
  gi_wp2
  gi_loopw [7] (fun i wr => i = .int .i64 0 ∧ J [] wr) (fun _ _ => 0)
  case atStart => exact ⟨rfl, h0⟩
  case round =>
    obtain ⟨rfl, hJs⟩ := hrel
    gi_wp2
    go_end0
    exact ⟨⟨_, rfl⟩, hJs⟩
/-- A slice value that holds numbers, in a block below n₀; or it is empty. -/
def Ints (n₀ : Nat) (W : World) (sv : Value) (zs : List Int) : Prop :=
  (∃ p cap, sv = .slice p 0 cap ∧ zs = []) ∨ ∃ b off cap, sv = .slice (some ⟨b, off, none⟩) zs.length cap ∧ b < n₀ ∧ ∀ j, j < zs.length → W.cell? ⟨b, off + j, none⟩ = some (.int .i64 (zs[j]?.getD 0))
theorem Ints.below {n₀ : Nat} {A B : World} (h : Below n₀ A B) {sv : Value} {zs : List Int} : Ints n₀ A sv zs → Ints n₀ B sv zs
  | .inl e => .inl e
  | .inr ⟨b, off, cap, e, hb, hc⟩ => .inr ⟨b, off, cap, e, hb, fun j hj => (h.cell (p := ⟨b, off + j, none⟩) hb).trans (hc j hj)⟩
theorem values_stops (F : Fence) (n : Nat) (h7 : F.fn 128) (hro : F.round = none) (hn : 1 ≤ n) (Bs n₀ : Nat) (sv : Value) (zs : List Int) (hreach : zs.length * 8 ≤ 140737488351232) (w : World) (hBs : Bs < w.heap.size) (hn₀ : n₀ ≤ w.heap.size)
    (hc : w.cell? ⟨Bs, 0, none⟩ = some sv) (hI : Ints n₀ w sv zs) :
    SeqStopsK F n Try.prog 128 #[.pointer (some ⟨Bs, 0, none⟩)] (fun x : Int => #[Value.int .i64 x]) (Below n₀) (fun ys => ys = zs) (fun pre => pre <+: zs) zs.length w := fun l J Jx W hW _ _ hY h0 => by
  have hc' := (hW.cell (p := ⟨Bs, 0, none⟩) hBs).trans hc
  rcases hI.below (hW.mono hn₀) with ⟨p, cap, rfl, rfl⟩ | ⟨b, off, cap, rfl, hb, hcs⟩
  · exact (values1_nil_in F n h7 hro l Bs cap p J W hc' h0).mono fun e W' ⟨he, hj⟩ => ⟨he, .inl ⟨_, rfl, hj⟩⟩
  · refine (values1_in F n h7 hro hn l Bs n₀ b off zs.length cap zs hreach hb J Jx hY W hc' hcs h0).mono ?_
    rintro e W' ⟨he, ⟨ys, rfl, hj⟩ | ⟨pre, ⟨k, hk, rfl⟩, hj⟩⟩
    · exact ⟨he, .inl ⟨_, upto_all zs, hj⟩⟩
    · exact ⟨he, .inr ⟨_, by rw [upto_take zs hk]; exact List.take_prefix _ _, hj⟩⟩
theorem infoI : (Try.prog.info? 2).map (fun i => (i.zero, i.size, i.bytes)) = some (some (.int .i64 0), 1, 8) := by kernel_rfl
set_option maxRecDepth 100000 in
set_option maxHeartbeats 2000000 in
/-- slices.AppendSeq(nil, slices.Values(s)). -/
theorem append_in (F : Fence) (n : Nat) (h3 : F.fn 153) (h5 : F.fn 128) (hro : F.round = none) (hn : 3 ≤ n) (Bs : Nat) (sv : Value) (zs : List Int) (hlen : zs.length ≤ 1000000) (w : World) (hBs : Bs < w.heap.size) (hcB : w.cell? ⟨Bs, 0, none⟩ = some sv) (hI : Ints w.heap.size w sv zs) :
    CallsIn F n Try.prog 153 #[.slice none 0 0, .func (.func 128) #[] #[.pointer (some ⟨Bs, 0, none⟩)]] w fun e W' => ∃ v, e = .returned v ∧ W'.ownsRow w.heap.size 2 1 v zs.length (zs.map (Value.int .i64)) ∧ (v = .slice none 0 0 ↔ zs = []) ∧ Below w.heap.size w W' := by
  have h1 : 1 ≤ n := by omega
  obtain ⟨i0, hi, hz0, hz1, hz2⟩ := info_parts infoI
  refine callsIn_of_wp_marks Try.func153 rfl h3 ?_ hro
  simp only [Try.ntmps153, List.size_toArray, List.length_cons, List.length_nil, Nat.reduceAdd, Nat.reduceSub, Array.replicate_succ, Array.replicate_zero, List.push_toArray, List.append_toArray, List.nil_append, List.cons_append]
  gi_wp2
  have bO := Boxed.new w 23 (.slice none 0 0)
  have hB0 : Below w.heap.size w (w.alloc (.cells #[.slice none 0 0] 23)) := (Below.refl _ w).alloc (Nat.le_refl _) _
  have hcB0 : (w.alloc (.cells #[.slice none 0 0] 23)).cell? ⟨Bs, 0, none⟩ = some sv := (hB0.cell (p := ⟨Bs, 0, none⟩) hBs).trans hcB
  refine wpIn_rangeFunc_ownG hro h1 (gf := 128) (lb := #[.pointer (some ⟨Bs, 0, none⟩)]) rfl h5 (enters_of Try.func128 (by kernel_rfl) rfl)
    (values_stops F (n - 1) h5 hro (by omega) Bs w.heap.size sv zs (by omega) _ (by simp; omega) (by simp) hcB0 (hI.below hB0)) belowK_t (belowK_b (by simp)) (Below.refl _ _) (fun _ => rfl)
    (fun pre W => (∃ v, Boxed W w.heap.size 23 v ∧ W.ownsRow w.heap.size 2 1 v pre.length (pre.map (Value.int .i64)) ∧ (v = .slice none 0 0 ↔ pre = [])) ∧ Below w.heap.size w W)
    (fun _ _ _ => False)
    (OwnFrom.and (Own.from (holdsRow_own w.heap.size w.heap.size 23 2 1 (fun pre => pre.length) (fun pre => pre.map (Value.int .i64)) (fun pre v => v = .slice none 0 0 ↔ pre = [])) _) (ownFrom_below (Nat.le_refl _) (by simp)))
    (fun _ _ _ _ _ hs _ _ => hs)
    ⟨⟨_, bO, World.ownsRow_nil _ _ _ _, by simp⟩, hB0⟩
    (fun x => { tmps := #[.slice none 0 0, .func (.func 128) #[] #[.pointer (some ⟨Bs, 0, none⟩)], .pointer (some ⟨w.heap.size, 0, none⟩), undef, .slice none 0 0, .int .i64 x, .func (.func 128) #[] #[.pointer (some ⟨Bs, 0, none⟩)], .int .i64 x, undef, undef, undef, undef, undef], defers := [] }) ?assign ?body ?done ?stop
  case assign =>
    intro l x W K hK
    gi_wp2
    exact hK
  case body =>
    rintro l pre x W ⟨⟨v, hv, hrow, hnil⟩, hB⟩ hlt
    have hc := hv.cell
    gi_wp2_with (gi_at_builtin; refine wpListIn_append_own _ rfl _ _ 23 rfl w.heap.size 2 i0 (.int .i64 0) 1 8 Try.underlying23 hi hz0 hz1 hz2 rfl (by decide) _ _ _ rfl (hrow.alloc _) ⟨W.heap.size, 0, none⟩ 1 1 [.int .i64 x] rfl rfl (cell_one_new _ _ _) (by simp [Value.oneCell']) (by simp only [maxLen]; omega) (by omega) (by have := hB.size; simp; omega) ?_; intro v' w1 hown' hgrow _; obtain ⟨g', cap', rfl⟩ := ownsRow_succ hown'; obtain ⟨hv1, hv2, hr2, hk2, hb2⟩ := hv.appended (by decide) hrow hB.size (Nat.le_refl _) hown' hgrow; have hc1 := hv1.cell; have hf1 := hv1.frozen)
    exact ⟨hk2.from _, hb2, ⟨_, hv2, by simpa using hr2, by simp⟩, hB.trans hb2⟩
  case done =>
    rintro D ys W hD rfl ⟨⟨v, hv, hrow, hnil⟩, hB⟩ hK
    have hc := hv.cell
    gi_wp2
    refine ⟨by simp, .inl ⟨_, _, rfl, run_takeDeferred hK, ?_⟩⟩
    exact ⟨_, results_tmp rfl _ _ _, v, rfl, ownsRow_putObj hrow _ hK rfl, hnil, hB.trans (belowK_b (w := w) (Nat.le_refl _) W D _ _ (by simp at hD; omega) hK rfl rfl)⟩
  case stop =>
    rintro D c pre W _ _ h _
    exact h.elim
set_option maxRecDepth 100000 in
set_option maxHeartbeats 1000000 in
theorem collect_in (F : Fence) (n : Nat) (h1' : F.fn 127) (h3 : F.fn 153) (h5 : F.fn 128) (hro : F.round = none) (hn : 4 ≤ n) (Bs : Nat) (sv : Value) (zs : List Int) (hlen : zs.length ≤ 1000000) (w : World) (hBs : Bs < w.heap.size) (hcB : w.cell? ⟨Bs, 0, none⟩ = some sv) (hI : Ints w.heap.size w sv zs) :
    CallsIn F n Try.prog 127 #[.func (.func 128) #[] #[.pointer (some ⟨Bs, 0, none⟩)]] w fun e W' => ∃ v, e = .returned v ∧ W'.ownsRow w.heap.size 2 1 v zs.length (zs.map (Value.int .i64)) ∧ (v = .slice none 0 0 ↔ zs = []) ∧ Below w.heap.size w W' := by
  have h1 : 1 ≤ n := by omega
  refine callsIn_of_wp Try.func127 rfl h1' ?_ hro
  simp only [Try.ntmps127, List.size_toArray, List.length_cons, List.length_nil, Nat.reduceAdd, Nat.reduceSub, Array.replicate_succ, Array.replicate_zero, List.push_toArray, List.append_toArray, List.nil_append, List.cons_append]
  gi_wp2_with (gi_at_call 153; refine (append_in F (n - 1) h3 h5 hro (by omega) Bs sv zs hlen _ hBs hcB hI).mono ?_; rintro e W ⟨v, rfl, hrow, hnil, hb⟩)
  go_ret
  exact ⟨v, rfl, hrow, hnil, hb⟩
end Go.Proofs.Yteaahdakammffaa.It
/- Contracts of the library that the kit lays, in plain words. Their conditions stand in each. -/
namespace Go.Proofs
open Go.Shelf
def Try.laysSlN31_f98_ren : Go.Shelf.Ren := ⟨fun | 31 => 98 | 29 => 62 | n => n, fun | 22 => 23 | 23 => 2 | 4 => 4 | 3 => 3 | 0 => 0 | n => n, fun | n => n⟩
def Try.laysSlN33_f82_ren : Go.Shelf.Ren := ⟨fun | 33 => 82 | n => n, fun | 22 => 23 | 23 => 2 | 4 => 4 | 3 => 3 | 0 => 0 | n => n, fun | n => n⟩
theorem Try.laysSlN33_f82 : Go.Proofs.SlLaysN.n33 Try.prog Try.laysSlN33_f82_ren := {
 mixed := by kernel_rfl
 f33 := ⟨Try.f82.name, by decide, Try.func82.trans (congrArg some (by kernel_rfl))⟩
 t0 := Try.underlying0
 a0 := Try.isAgg0
 z0 := Try.sizeOf0
 v0 := Try.zeroValue0
 t3 := Try.underlying3
 a3 := Try.isAgg3
 z3 := Try.sizeOf3
 v3 := Try.zeroValue3
 t4 := Try.underlying4
 a4 := Try.isAgg4
 z4 := Try.sizeOf4
 v4 := Try.zeroValue4
 t22 := Try.underlying23
 a22 := Try.isAgg23
 z22 := Try.sizeOf23
 v22 := Try.zeroValue23
 t23 := Try.underlying2
 a23 := Try.isAgg2
 z23 := Try.sizeOf2
 v23 := Try.zeroValue2 }
open Go.RowKit Go.Lib in
theorem Try.slices_Equal_int (b1 o1 n c b2 o2 m d : Nat) (xs ys : List Int) (w : World) (hx : n ≤ xs.length) (hy : m ≤ ys.length) (hbig : n ≤ 9223372036854775807) (hbig2 : m ≤ 9223372036854775807) (hc1 : ∀ j, j < xs.length → w.cell? ⟨b1, o1 + j, none⟩ = some (.int .i64 (xs.getD j 0))) (hc2 : ∀ j, j < ys.length → w.cell? ⟨b2, o2 + j, none⟩ = some (.int .i64 (ys.getD j 0))) :
  Calls Try.prog 82 #[.slice (some ⟨b1, o1, none⟩) n c, .slice (some ⟨b2, o2, none⟩) m d] w fun e w' => e = .returned (.bool (xs.take n == ys.take m)) ∧ ∃ q, w' = w.drewN q := AnyG.slices_Equal_int Try.laysSlN33_f82 b1 o1 n c b2 o2 m d xs ys w hx hy hbig hbig2 hc1 hc2
open Go.RowKit Go.Lib in
theorem Try.slices_Equal_int_empty (a1 a2 : Option Addr) (c m d : Nat) (w : World) (hbig2 : m ≤ 9223372036854775807) :
  Calls Try.prog 82 #[.slice a1 0 c, .slice a2 m d] w fun e w' => e = .returned (.bool (decide (m = 0))) ∧ w' = w := AnyG.slices_Equal_int_empty Try.laysSlN33_f82 a1 a2 c m d w hbig2
def Try.laysSlN43_f135_ren : Go.Shelf.Ren := ⟨fun | 43 => 135 | n => n, fun | 22 => 23 | 23 => 2 | 3 => 3 | 4 => 4 | 0 => 0 | n => n, fun | n => n⟩
def Try.laysSlM5_f126_ren : Go.Shelf.Ren := ⟨fun | 5 => 126 | 8 => 152 | 7 => 151 | 19 => 178 | 20 => 179 | 10 => 169 | 11 => 170 | 12 => 171 | 13 => 172 | 14 => 173 | 15 => 174 | 16 => 175 | 17 => 176 | 18 => 177 | 30 => 182 | 31 => 183 | 32 => 184 | 33 => 185 | 34 => 186 | 35 => 187 | 40 => 188 | n => n, fun | 23 => 23 | 25 => 2 | 3 => 3 | 32 => 80 | 22 => 23 | 0 => 0 | 44 => 167 | 46 => 40 | 4 => 4 | 36 => 159 | 35 => 158 | 41 => 164 | 5 => 5 | 9 => 9 | 53 => 169 | 57 => 173 | 63 => 175 | 64 => 176 | n => n, fun | n => n⟩
theorem Try.laysSlM5_f126 : Go.Proofs.SlLaysM.n5 Try.prog Try.laysSlM5_f126_ren := {
 mixed := by kernel_rfl
 f5 := ⟨Try.f126.name, by decide, Try.func126.trans (congrArg some (by kernel_rfl))⟩
 f7 := ⟨Try.f151.name, by decide, Try.func151.trans (congrArg some (by kernel_rfl))⟩
 f8 := Try.func152.trans (congrArg some (by kernel_rfl))
 f10 := ⟨Try.f169.name, by decide, Try.func169.trans (congrArg some (by kernel_rfl))⟩
 f11 := ⟨Try.f170.name, by decide, Try.func170.trans (congrArg some (by kernel_rfl))⟩
 f12 := ⟨Try.f171.name, by decide, Try.func171.trans (congrArg some (by kernel_rfl))⟩
 f13 := ⟨Try.f172.name, by decide, Try.func172.trans (congrArg some (by kernel_rfl))⟩
 f14 := ⟨Try.f173.name, by decide, Try.func173.trans (congrArg some (by kernel_rfl))⟩
 f15 := ⟨Try.f174.name, by decide, Try.func174.trans (congrArg some (by kernel_rfl))⟩
 f16 := ⟨Try.f175.name, by decide, Try.func175.trans (congrArg some (by kernel_rfl))⟩
 f17 := ⟨Try.f176.name, by decide, Try.func176.trans (congrArg some (by kernel_rfl))⟩
 f18 := ⟨Try.f177.name, by decide, Try.func177.trans (congrArg some (by kernel_rfl))⟩
 f19 := Try.func178.trans (congrArg some (by kernel_rfl))
 f20 := Try.func179.trans (congrArg some (by kernel_rfl))
 f30 := ⟨Try.f182.name, by decide, Try.func182.trans (congrArg some (by kernel_rfl))⟩
 f31 := Try.func183.trans (congrArg some (by kernel_rfl))
 f32 := Try.func184.trans (congrArg some (by kernel_rfl))
 f33 := ⟨Try.f185.name, by decide, Try.func185.trans (congrArg some (by kernel_rfl))⟩
 f34 := ⟨Try.f186.name, by decide, Try.func186.trans (congrArg some (by kernel_rfl))⟩
 f35 := ⟨Try.f187.name, by decide, Try.func187.trans (congrArg some (by kernel_rfl))⟩
 f40 := ⟨Try.f188.name, by decide, Try.func188.trans (congrArg some (by kernel_rfl))⟩
 t0 := Try.underlying0
 a0 := Try.isAgg0
 z0 := Try.sizeOf0
 v0 := Try.zeroValue0
 t3 := Try.underlying3
 a3 := Try.isAgg3
 z3 := Try.sizeOf3
 v3 := Try.zeroValue3
 t4 := Try.underlying4
 a4 := Try.isAgg4
 z4 := Try.sizeOf4
 v4 := Try.zeroValue4
 t5 := Try.underlying5
 a5 := Try.isAgg5
 z5 := Try.sizeOf5
 v5 := Try.zeroValue5
 t9 := Try.underlying9
 a9 := Try.isAgg9
 z9 := Try.sizeOf9
 v9 := Try.zeroValue9
 t22 := Try.underlying23
 a22 := Try.isAgg23
 z22 := Try.sizeOf23
 v22 := Try.zeroValue23
 t23 := Try.underlying23
 a23 := Try.isAgg23
 z23 := Try.sizeOf23
 v23 := Try.zeroValue23
 t25 := Try.underlying2
 a25 := Try.isAgg2
 z25 := Try.sizeOf2
 v25 := Try.zeroValue2
 t32 := Try.underlying80
 a32 := Try.isAgg80
 z32 := Try.sizeOf80
 v32 := Try.zeroValue80
 t35 := Try.underlying158
 a35 := Try.isAgg158
 z35 := Try.sizeOf158
 v35 := Try.zeroValue158
 t36 := Try.underlying159
 a36 := Try.isAgg159
 z36 := Try.sizeOf159
 v36 := Try.zeroValue159
 t41 := Try.underlying164
 a41 := Try.isAgg164
 z41 := Try.sizeOf164
 v41 := Try.zeroValue164
 t44 := Try.underlying167
 a44 := Try.isAgg167
 z44 := Try.sizeOf167
 v44 := Try.zeroValue167
 t46 := Try.underlying40
 a46 := Try.isAgg40
 z46 := Try.sizeOf40
 v46 := Try.zeroValue40
 t53 := Try.underlying169
 a53 := Try.isAgg169
 z53 := Try.sizeOf169
 v53 := Try.zeroValue169
 t57 := Try.underlying173
 a57 := Try.isAgg173
 z57 := Try.sizeOf173
 v57 := Try.zeroValue173
 t63 := Try.underlying175
 a63 := Try.isAgg175
 z63 := Try.sizeOf175
 v63 := Try.zeroValue175
 t64 := Try.underlying176
 a64 := Try.isAgg176
 z64 := Try.sizeOf176
 v64 := Try.zeroValue176 }
open Go.Sort Go.RowKit in
theorem Try.slices_Sort_int (blk off cap : Nat) (zs : List Int) (w : World) (hH : Holds (Value.int .i64) w blk off zs.toArray) (hblk : blk < w.heap.size) (hsz : zs.length < 4611686018427387904) :
  Calls Try.prog 126 #[.slice (some ⟨blk, off, none⟩) zs.length cap] w fun e w' =>
   e = .returned (.tuple #[]) ∧ ∃ n os, w' = grow (putRow (Value.int .i64) (Sort.ahead w n) blk off (zs.mergeSort fun x y => decide (x ≤ y)).toArray) os := AnyM.slices_Sort_int Try.laysSlM5_f126 blk off cap zs w hH hblk hsz
open Go.RowKit Go.Sort in
theorem Try.slices_Sort_int_none (p : Option Addr) (cap : Nat) (w : World) :
  Calls Try.prog 126 #[.slice p 0 cap] w fun e w' => e = .returned (.tuple #[]) ∧ w' = w := AnyM.slices_Sort_int_none Try.laysSlM5_f126 p cap w
end Go.Proofs
/- The library's functions on slices of numbers, in the engine's form: sort, what an iterator gives sorted, equal, contains, compact. -/
namespace Go.Proofs.Yteaahdakammffaa.V
open Go Go.RowKit Go.Sort
set_option linter.unusedVariables false
set_option linter.unusedSimpArgs false
def SortC (P : Program) (f : Nat) : Prop :=
  (∀ (blk off cap : Nat) (zs : List Int) (w : World), Holds (Value.int .i64) w blk off zs.toArray → blk < w.heap.size → zs.length < 4611686018427387904 →
    Calls P f #[.slice (some ⟨blk, off, none⟩) zs.length cap] w fun e w' => e = .returned (.tuple #[]) ∧ ∃ n os, w' = grow (putRow (Value.int .i64) (Sort.ahead w n) blk off (srt zs).toArray) os) ∧
  ∀ (p : Option Addr) (cap : Nat) (w : World), Calls P f #[.slice p 0 cap] w fun e w' => e = .returned (.tuple #[]) ∧ w' = w
theorem OwnI.row {e n c : Nat} {a : Option Addr} {zs : List Int} {w : World} (h : OwnI e a n c zs w) : (a = none ∧ n = 0 ∧ zs = []) ∨ ∃ g cur, a = some ⟨g, 0, none⟩ ∧ w.heap[g]? = some (.cells cur e (0, 0)) ∧ n ≤ c ∧ c ≤ maxLen ∧ cur.size = c * 1 ∧ cur.toList.take n = zs.map (Value.int .i64) := by
  have hl := h.lenz
  rcases h.2 with ⟨h1, h2⟩ | ⟨g, cap, cur, hv, _, hg, h3, h4, h5, h6⟩
  · injection h1 with h1 h1' h1''
    exact .inl ⟨h1, h2, List.eq_nil_of_length_eq_zero (by omega)⟩
  · injection hv with hv1 hv2 hv3
    subst hv3
    refine .inr ⟨g, cur, hv1, hg, h3, h4, h5, ?_⟩
    rw [Nat.mul_one] at h6; exact h6
theorem Upd.of_grown {w w' : World} {g : Nat} {f : Nat → Prop} (h : w.grownBy w' (some g)) (hf : f g) : Upd f w w' :=
  ⟨h.os, h.tape, h.output, h.size, fun k hk hn => h.block k hk fun e => hn (by cases e; exact hf)⟩
theorem sort_own {P : Program} {f e n c : Nat} {a : Option Addr} {zs : List Int} {w : World} (hs : SortC P f) (hn : n ≤ 1000000) (h : OwnI e a n c zs w) : Calls P f #[.slice a n c] w (Ret fun v w' => v = .tuple #[] ∧ OwnI e a n c (srt zs) w' ∧ ∀ f, (∀ b, fpO a b → f b) → Upd f w w') := by
  have hl := h.lenz
  rcases h.row with ⟨rfl, rfl, rfl⟩ | ⟨g, cur, rfl, hg, h3, h4, h5, h6⟩
  · exact Calls.mono (hs.2 none c w) fun x w' ⟨hx, hw⟩ => ⟨_, hx, rfl, by subst hw; rw [srt_nil]; exact h, fun f _ => by subst hw; exact Upd.refl _ _⟩
  · have hgl : g < w.heap.size := (Array.getElem?_eq_some_iff.1 hg).1
    have hb : zs.length < 4611686018427387904 := by omega
    subst hl
    exact Calls.mono (hs.1 g 0 c zs w (holds_of_block_i hg (by simpa [encZ] using h6)) hgl hb) fun x w' ⟨hx, k, os, hw⟩ => ⟨_, hx, rfl, by
      subst hw
      have := ownsRow_sorted_i (w := w) (base := 0) (n := k) (os := os) (ss := zs) (ts := srt zs) (srt_len zs) (Nat.zero_le _) hg h3 h4 h5
      exact this, fun f hf => by subst hw; exact Upd.of_grown (grownBy_sorted_i _) (hf g rfl)⟩
section
variable {P : Program} {n : Nat} {w0 : World} {M : Nat → Prop} {L : List (World → Prop)} {σ : Fr} {K : Ko} {ops : Array Oper} {S : World → Prop} {r : Sch} {i : Nat}
variable {d : Nat} {t : TypeId} {p : String} {af : Array Edge} {g : Option (Nat × Bool)} {a b : Operand}
theorem srtI {f e N C : Nat} {ao : Option Addr} {zs : List Int} {args : Array Operand} {tys : Array TypeId} (j : Nat) (hj : L[j]? = some (OwnI e ao N C zs)) (hn : N ≤ 1000000) (hs : SortC P f) (hf : ∀ args w, (callFunc f args).run P w = .ok (.enter f args) w) (hS : ∀ w, Sep w0 M (L.set j (OwnI e ao N C (srt zs))) w → S w)
    (ho : ops[i]? = some ⟨some d, .call ⟨.value (.func f), args, tys⟩, t, p, af, g⟩) (hg : go ops σ g) (ha : args.toList.map (ev σ) = [.slice ao N C]) (h : RG P n w0 M ops S (L.set j (OwnI e ao N C (srt zs))) r (upd σ d (.tuple #[])) K) : RG P n w0 M ops S L (.op .l i r) σ K :=
  callU (α := Unit) (val := fun _ => .tuple #[]) (good := fun _ => True) (φ := OwnI e ao N C zs) (φ' := fun _ => OwnI e ao N C (srt zs)) j hj hf (fun _ => hS) ho hg (fun w hw => by
    rw [ha]
    exact Calls.mono (sort_own hs hn (hw.at_ j hj)) fun x w' ⟨v, hx, hv, hown, hu⟩ => ⟨v, hx, (), hv, trivial, fun f' hf' => ⟨f', fun _ h => .inl h, Own.St hown fun b hb => Own.mem hf' b hb, hu f' fun b hb => Own.mem hf' b hb⟩⟩) (fun _ _ => h)
/-- What Compact says. -/
def CmpC (P : Program) (f : Nat) : Prop :=
  (∀ (blk off cap : Nat) (zs : List Int) (w : World), Holds (Value.int .i64) w blk off zs.toArray → zs.length ≤ 9223372036854775807 → zs.length ≤ cap →
    Calls P f #[.slice (some ⟨blk, off, none⟩) zs.length cap] w fun e w' => e = .returned (.slice (some ⟨blk, off, none⟩) (Lib.compact zs).length cap) ∧ ∃ q, w' = putRow (Value.int .i64) (Sort.ahead w q) blk off (Lib.compact zs ++ List.replicate (zs.length - (Lib.compact zs).length) 0).toArray) ∧
  ∀ (a : Option Addr) (cap : Nat) (w : World), Calls P f #[.slice a 0 cap] w fun e w' => e = .returned (.slice a 0 cap) ∧ w' = w
theorem Own.pre {e n c k : Nat} {a : Option Addr} {xs : List Value} {w : World} (h : Own e 1 a n c xs w) (hk : k ≤ n) : Own e 1 a k c (xs.take k) w := by
  have hl := h.len
  rcases h.2 with ⟨h1, h2⟩ | ⟨g, cap, cur, hv, hb, hg, h3, h4, h5, h6⟩
  · injection h1 with h1 _ h1'
    subst h1; subst h1'
    obtain rfl : k = 0 := by omega
    rw [List.take_zero]; exact Own.nil e 1 w
  · injection hv with hv1 _ hv2
    subst hv2
    refine ⟨by rw [List.length_take]; omega, .inr ⟨g, c, cur, by rw [hv1], hb, hg, by omega, h4, h5, ?_⟩⟩
    rw [← h6, Nat.mul_one, Nat.mul_one, List.take_take, Nat.min_eq_left hk]
end
end Go.Proofs.Yteaahdakammffaa.V
namespace Go.Proofs.Yteaahdakammffaa
open Go Go.RowKit V
theorem sort_c : SortC Try.prog 126 := ⟨Try.slices_Sort_int, Try.slices_Sort_int_none⟩
theorem RdI.cells {a : Option Addr} {n : Nat} {zs : List Int} {w : World} (h : RdI a n zs w) (hn : 0 < n) : ∃ b off, a = some ⟨b, off, none⟩ ∧ b < w.heap.size ∧ ∀ j, j < zs.length → w.cell? ⟨b, off + j, none⟩ = some (.int .i64 (zs.getD j 0)) := by
  have hl := h.1
  obtain ⟨b, off, ha, hc⟩ := h.2.2 0 (.int .i64 (zs.getD 0 0)) (iv_get (by omega))
  refine ⟨b, off, ha, ?_, fun j hj => ?_⟩
  · rcases Nat.lt_or_ge b w.heap.size with hb | hb
    · exact hb
    · simp [World.cell?, Array.getElem?_eq_none hb] at hc
  · obtain ⟨b', off', ha', hc'⟩ := h.2.2 j (.int .i64 (zs.getD j 0)) (iv_get hj)
    rw [ha] at ha'; cases ha'
    exact hc'
theorem Ext.drewQ (w : World) (k : Nat) : Ext w (w.drewN k) := ⟨rfl, rfl, rfl, Nat.le_refl _, fun _ _ _ => rfl⟩
theorem equal_c (az : Option Addr) (nz cz : Nat) (z : List Int) (ay : Option Addr) (ny cy : Nat) (y : List Int) (w : World) (rz : RdI az nz z w) (ry : RdI ay ny y w) (hn : nz = ny) : Calls Try.prog 82 #[.slice az nz cz, .slice ay ny cy] w (Ret fun v w' => v = .bool (decide (z = y)) ∧ Ext w w') := by
  have hl := rz.1; have hly := ry.1
  rcases Nat.eq_zero_or_pos nz with h0 | h0
  · subst h0; subst hn
    have hz : z = [] := List.eq_nil_of_length_eq_zero hl
    have hy : y = [] := List.eq_nil_of_length_eq_zero hly
    subst hz; subst hy
    exact Calls.mono (Try.slices_Equal_int_empty az ay cz 0 cy w (by decide)) fun e w' ⟨he, hw⟩ => ⟨_, he, rfl, by subst hw; exact Upd.refl _ _⟩
  · obtain ⟨b, off, rfl, hb, hc⟩ := RdI.cells rz h0
    obtain ⟨b2, off2, rfl, hb2, hc2⟩ := RdI.cells ry (by omega)
    exact Calls.mono (Try.slices_Equal_int b off nz cz b2 off2 ny cy z y w (by omega) (by omega) rz.2.1 ry.2.1 hc hc2) fun e w' ⟨he, q, hw⟩ => ⟨_, he, by
      rw [List.take_of_length_le (by omega), List.take_of_length_le (by omega)]
      by_cases h : z = y <;> simp [h], by subst hw; exact Ext.drewQ w q⟩
/-- slices.Values: the slice in a box, the closure that has it. -/
theorem values_c (az : Option Addr) (nz cz : Nat) (w : World) : Calls Try.prog 85 #[.slice az nz cz] w (Ret fun v w' => ∃ x : Nat, v = .func (.func 128) #[] #[.pointer (some ⟨x, 0, none⟩)] ∧ True ∧ Ext w w' ∧ St (New w w') (blk x 23 [.slice az nz cz]) w') := by
  refine Calls.mono (R := fun e w' => e = .returned (.func (.func 128) #[] #[.pointer (some ⟨w.heap.size, 0, none⟩)]) ∧ w' = w.alloc (.cells #[.slice az nz cz] 23)) ?_ fun e w' ⟨he, hw⟩ => ⟨_, he, w.heap.size, rfl, trivial, by subst hw; exact Ext.alloc w _, by subst hw; exact blk.St _ _ _ (heap_alloc_new w _) ⟨Nat.le_refl _, by simp⟩⟩
  go_enter Try.func85, Try.ntmps85
  go_wp2
  go_ret
  exact ⟨rfl, rfl⟩
/-- slices.Sorted(slices.Values(s)). -/
theorem sorted_c (bk : Nat) (az : Option Addr) (nz cz : Nat) (z : List Int) (w : World) (hb : w.cell? ⟨bk, 0, none⟩ = some (.slice az nz cz)) (rz : RdI az nz z w) (hn : nz ≤ 1000000) : Calls Try.prog 84 #[.func (.func 128) #[] #[.pointer (some ⟨bk, 0, none⟩)]] w (Ret fun v w' => ∃ x : Option Addr × Nat, v = .slice x.1 nz x.2 ∧ True ∧ Sep w none_ [OwnI 2 x.1 nz x.2 (srt z)] w') := by
  have hl := rz.1
  subst hl
  have hbk : bk < w.heap.size := by
    rcases Nat.lt_or_ge bk w.heap.size with h | h
    · exact h
    · simp [World.cell?, Array.getElem?_eq_none h] at hb
  have hI : It.Ints w.heap.size w (.slice az z.length cz) z := by
    rcases Nat.eq_zero_or_pos z.length with h0 | h0
    · exact .inl ⟨az, cz, by rw [h0], List.eq_nil_of_length_eq_zero h0⟩
    · obtain ⟨b, off, ha, hb', hc⟩ := RdI.cells rz h0
      refine .inr ⟨b, off, cz, by rw [ha], hb', fun j hj => ?_⟩
      have := hc j hj
      rwa [List.getD_eq_getElem?_getD] at this
  have hcol : Calls Try.prog 127 #[.func (.func 128) #[] #[.pointer (some ⟨bk, 0, none⟩)]] w fun e W' => ∃ v, e = .returned v ∧ W'.ownsRow w.heap.size 2 1 v z.length (z.map (Value.int .i64)) ∧ (v = .slice none 0 0 ↔ z = []) ∧ Below w.heap.size w W' :=
    (callsIn_wide (n := 4)).1 (It.collect_in _ 4 trivial trivial trivial rfl (by omega) bk (.slice az z.length cz) z (by omega) w hbk hb hI)
  refine Calls.mono (R := fun e w' => ∃ v : Value, e = .returned v ∧ w'.ownsRow w.heap.size 2 1 v z.length ((srt z).map (Value.int .i64)) ∧ Below w.heap.size w w') ?_ fun e w' ⟨v, he, hrow, hbl⟩ => ?_
  · go_enter Try.func84, Try.ntmps84
    go_wp2_with (go_at_call 127; refine hcol.mono ?_; rintro e W ⟨v, rfl, hrow, hnil, hbl⟩)
    rcases hrow.2 with ⟨rfl, hz⟩ | ⟨gb, cap, cur, rfl, hbase, hgb, r1, r2, r3, r4⟩
    · have hss : z = [] := List.eq_nil_of_length_eq_zero hz
      subst hss
      go_wp2_with (go_at_call 126; refine (sort_c.2 none 0 W).mono ?_; rintro e w' ⟨rfl, rfl⟩)
      go_ret
      exact ⟨.slice none 0 0, rfl, by simpa [srt] using hrow, hbl⟩
    · have hH : Sort.Holds (Value.int .i64) W gb 0 z.toArray := holds_of_block_i hgb (by simpa [encZ] using r4)
      have hgl : gb < W.heap.size := (Array.getElem?_eq_some_iff.1 hgb).1
      have cS := sort_c.1 gb 0 cap z W hH hgl (by omega)
      go_wp2_with (go_at_call 126; refine cS.mono ?_; rintro e w' ⟨rfl, nn, os, rfl⟩)
      go_ret
      exact ⟨_, rfl, ownsRow_sorted_i (srt_len z) hbase hgb r1 r2 r3, hbl.grown (grownBy_sorted_i _) hbl.size (fun j hj => by cases hj; exact hbase)⟩
  · have hnew : ∀ k, v.ownBlock = some k → w.heap.size ≤ k ∧ k < w'.heap.size := hrow.lt
    rcases hrow.2 with ⟨rfl, hz⟩ | ⟨gb, cap, cur, rfl, hbase, hgb, r1, r2, r3, r4⟩
    · have hss : z = [] := List.eq_nil_of_length_eq_zero hz
      subst hss
      refine ⟨_, he, (none, 0), rfl, trivial, ?_⟩
      rw [srt_nil]
      exact (Sep.start w none_).push (Ext.of_below hbl) (Own.St (Own.nil _ 1 w') fun b hb => by cases hb)
    · refine ⟨_, he, (some ⟨gb, 0, none⟩, cap), rfl, trivial, ?_⟩
      refine (Sep.start w none_).push (Ext.of_below hbl) (Own.St (xs := iv (srt z)) ?_ fun b hb => by cases hb; exact ⟨hbase, (Array.getElem?_eq_some_iff.1 hgb).1⟩)
      exact ⟨hrow.1, .inr ⟨gb, cap, cur, rfl, Nat.zero_le _, hgb, r1, r2, r3, r4⟩⟩
end Go.Proofs.Yteaahdakammffaa
/- slices.Grow of nil: an owned slice with room. Condition: at most 1000000 elements. -/
namespace Go.Proofs.Yteaahdakammffaa
open Go Go.RowKit Go.Lib V
set_option linter.unusedVariables false
set_option linter.unusedSimpArgs false
set_option maxRecDepth 100000
end Go.Proofs.Yteaahdakammffaa
/- Contracts of what the laws do with lists. Their conditions stand in each. -/
namespace Go.Proofs.Yteaahdakammffaa
open Go Go.RowKit V
set_option linter.unusedVariables false
set_option linter.unusedSimpArgs false
set_option maxRecDepth 100000
theorem mk22 : Mk Try.prog 22 23 1 24 [.slice none 0 0] := ⟨Try.underlying22, Try.t23, _, by kernel_rfl, rfl, rfl, rfl, rfl, rfl, by decide, by decide⟩
theorem mk23 : Mk Try.prog 23 2 1 8 [.int .i64 0] := ⟨Try.underlying23, Try.t2, _, by kernel_rfl, rfl, rfl, rfl, rfl, rfl, by decide, by decide⟩
theorem el22 : Elt Try.prog 22 1 := ⟨23, Try.runUnderlying22, Try.sizeOf23⟩
theorem el23 : Elt Try.prog 23 1 := ⟨2, Try.runUnderlying23, Try.sizeOf2⟩
theorem impl_within_c (n : Int) (lo : Int) (hi : Int) (w : World) :
  Calls Try.prog 65 #[.int .i64 n, .int .i64 lo, .int .i64 hi] w (Ret fun v w' => v = .bool (decide (lo ≤ n ∧ n ≤ hi)) ∧ Ext w w') := by
 refine fn (M := none_) (rs := [.tmp 6]) Try.func65 rfl Try.ntmps65 rfl rfl (Sep.start _ _) ?_
 refine hSeq ?_
 refine hReg (sq 0 sz) (by kernel_rfl) ?_
 refine asB rfl rfl rfl ?_
 refine rNil ?_
 refine qSeq rfl ?_
 refine hSeq ?_
 refine hReg (sq 0 (sq 1 (sq 2 (sq 3 (sq 4 (sq 5 (sq 6 (sq 7 (sq 8 sz))))))))) (by kernel_rfl) ?_
 refine mvI rfl rfl rfl ?_
 refine mvI rfl rfl rfl ?_
 refine geq rfl rfl rfl rfl ?_
 refine mvB rfl rfl rfl ?_
 refine rBoolD (d := 10) rfl (fun g1 => ?_) (fun g1 => ?_)
 ·
  replace g1 : lo ≤ n := g1
  refine mvI rfl rfl rfl ?_
  refine mvI rfl rfl rfl ?_
  refine leq rfl rfl rfl rfl ?_
  refine pickB rfl rfl rfl rfl ?_
  refine asB rfl rfl rfl ?_
  refine rNil ?_
  refine qSeq rfl ?_
  refine hRet ?_
  exact fun w hs => ⟨[.bool (decide (n ≤ hi))], ⟨rfl, trivial⟩, ⟨by first | rfl | exact bD (by omega) | exact bT (by omega) | exact bF (by omega) | exact vI (by omega), hs.upd⟩⟩
 ·
  replace g1 : ¬ (lo ≤ n) := g1
  refine rSkipQ rfl rfl ?_
  refine rSkipQ rfl rfl ?_
  refine rSkipQ rfl rfl ?_
  refine pickB rfl rfl rfl rfl ?_
  refine asB rfl rfl rfl ?_
  refine rNil ?_
  refine qSeq rfl ?_
  refine hRet ?_
  exact fun w hs => ⟨[.bool false], ⟨rfl, trivial⟩, ⟨by first | rfl | exact bD (by omega) | exact bT (by omega) | exact bF (by omega) | exact vI (by omega), hs.upd⟩⟩
theorem spec_l01In_c (n : Int) (lo : Int) (hi : Int) (w : World) :
  Calls Try.prog 88 #[.int .i64 n, .int .i64 lo, .int .i64 hi] w (Ret fun v w' => v = .bool (decide (lo ≤ n ∧ n ≤ hi)) ∧ Ext w w') := by
 refine fn (M := none_) (rs := [.tmp 6]) Try.func88 rfl Try.ntmps88 rfl rfl (Sep.start _ _) ?_
 refine hSeq ?_
 refine hReg (sq 0 sz) (by kernel_rfl) ?_
 refine asB rfl rfl rfl ?_
 refine rNil ?_
 refine qSeq rfl ?_
 refine hSeq ?_
 refine hReg (sq 0 (sq 1 (sq 2 (sq 3 (sq 4 (sq 5 (sq 6 (sq 7 (sq 8 sz))))))))) (by kernel_rfl) ?_
 refine mvI rfl rfl rfl ?_
 refine mvI rfl rfl rfl ?_
 refine geq rfl rfl rfl rfl ?_
 refine mvB rfl rfl rfl ?_
 refine rBoolD (d := 10) rfl (fun g1 => ?_) (fun g1 => ?_)
 ·
  replace g1 : lo ≤ n := g1
  refine mvI rfl rfl rfl ?_
  refine mvI rfl rfl rfl ?_
  refine leq rfl rfl rfl rfl ?_
  refine pickB rfl rfl rfl rfl ?_
  refine asB rfl rfl rfl ?_
  refine rNil ?_
  refine qSeq rfl ?_
  refine hRet ?_
  exact fun w hs => ⟨[.bool (decide (n ≤ hi))], ⟨rfl, trivial⟩, ⟨by first | rfl | exact bD (by omega) | exact bT (by omega) | exact bF (by omega) | exact vI (by omega), hs.upd⟩⟩
 ·
  replace g1 : ¬ (lo ≤ n) := g1
  refine rSkipQ rfl rfl ?_
  refine rSkipQ rfl rfl ?_
  refine rSkipQ rfl rfl ?_
  refine pickB rfl rfl rfl rfl ?_
  refine asB rfl rfl rfl ?_
  refine rNil ?_
  refine qSeq rfl ?_
  refine hRet ?_
  exact fun w hs => ⟨[.bool false], ⟨rfl, trivial⟩, ⟨by first | rfl | exact bD (by omega) | exact bT (by omega) | exact bF (by omega) | exact vI (by omega), hs.upd⟩⟩
end Go.Proofs.Yteaahdakammffaa
/- Contracts of what the program does with lists. Their conditions stand in each. -/
namespace Go.Proofs.Yteaahdakammffaa
open Go Go.RowKit V
set_option linter.unusedVariables false
set_option linter.unusedSimpArgs false
set_option maxRecDepth 100000
end Go.Proofs.Yteaahdakammffaa
/- Contracts of the marks that the laws lay. Their conditions stand in each. -/
namespace Go.Proofs.Yteaahdakammffaa
open Go Go.RowKit V
set_option linter.unusedVariables false
set_option linter.unusedSimpArgs false
set_option maxRecDepth 100000
end Go.Proofs.Yteaahdakammffaa
