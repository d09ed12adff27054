/-
  No cell of these rows narrows 'for every input' (looked for: loops, veiled, ifaces, maps, wideKeys, modest, calm, conditions, laid).
  DERIVED. THE GIVEN ROWS OF THIS SEAT. 12 by the template 'for every input the law returns true; each argument reads behind the call as it read before'; 0 by the template 'total and deterministic' (their statements: YtbcopkhpgolkmaaTotals.lean).
  GIVEN WITH THE SEED: the statements are not yours to turn. If you find one false, say at which input.
  Laid BY PROGRAM, IN A SANDBOX (cutbox-rows.mjs): the forced cells as the released guide's own fill.sh prints them over the translation 152ca2cf82ebf706… (all of the seat's roots in one cut). By AI agents, Wed Nov 11 2026. No macro, syntax, notation, axiom, sorry.
-/
import Derived.Test.YtbcopkhpgolkmaaChecked
import GoSem.Claim
import GoSem.ClaimJoined
import GoSem.ClaimMapViews
import Derived.JoinedTies
import Derived.KernelRfl
namespace Go.Proofs.Ytbcopkhpgolkmaa
/- THE CELL 'sum', in the pinned program and in every row, IS THE sha256 OF THE DUMP (.gsa) THAT YtbcopkhpgolkmaaProg.lean LOADS. Nothing in Lean hashes anything: it is a label: what it is worth is what the hold of that sum in a sandbox is worth. -/
noncomputable def Try.pinned : Pinned := { name := "ytbcopkhpgolkmaa", sum := "152ca2cf82ebf706497e55c340e7befb1ef5557117d23b00b41e67fb560493ea", checked := Try.checked }
namespace Rows
def none {H : Type} : Left H := { results := [], args := [] }

/-- 'laws.FnExactPayoffAt': WHATEVER THE INPUT: true; the input reads as it did. -/
def fnExactPayoffAtSpec : ChangeSpec := { name := "fnExactPayoffAt", fn := fun _ => fun
  | [d1, d2, d3, d4] => { results := [.lit (.bool true)], args := [d1, d2, d3, d4] }
  | _ => none }
def fnExactPayoffAtRow : OpenClaim := { program := "ytbcopkhpgolkmaa", sum := "152ca2cf82ebf706497e55c340e7befb1ef5557117d23b00b41e67fb560493ea", func := "loop.example/g00910/laws.FnExactPayoffAt", spec := "fnExactPayoffAt", recurses := true, apart := false }
def FnExactPayoffAtSaid : Prop := fnExactPayoffAtRow.holds Try.pinned (OpenSpec.ofChange fnExactPayoffAtSpec)

/-- ITS FALSE NEIGHBOUR: 'it returns false'. Refute it at one input. -/
def fnExactPayoffAtWrong : ChangeSpec := { name := "fnExactPayoffAt", fn := fun _ => fun
  | [d1, d2, d3, d4] => { results := [.lit (.bool false)], args := [d1, d2, d3, d4] }
  | _ => none }
def FnExactPayoffAtWrongFalsely : Prop := fnExactPayoffAtRow.holds Try.pinned (OpenSpec.ofChange fnExactPayoffAtWrong)

/-- 'laws.FnExactCountPure': WHATEVER THE INPUT: true; the input reads as it did. -/
def fnExactCountPureSpec : ChangeSpec := { name := "fnExactCountPure", fn := fun _ => fun
  | [d1, d2] => { results := [.lit (.bool true)], args := [d1, d2] }
  | _ => none }
def fnExactCountPureRow : OpenClaim := { program := "ytbcopkhpgolkmaa", sum := "152ca2cf82ebf706497e55c340e7befb1ef5557117d23b00b41e67fb560493ea", func := "loop.example/g00910/laws.FnExactCountPure", spec := "fnExactCountPure", recurses := true, apart := false }
def FnExactCountPureSaid : Prop := fnExactCountPureRow.holds Try.pinned (OpenSpec.ofChange fnExactCountPureSpec)

/-- ITS FALSE NEIGHBOUR: 'it returns false'. Refute it at one input. -/
def fnExactCountPureWrong : ChangeSpec := { name := "fnExactCountPure", fn := fun _ => fun
  | [d1, d2] => { results := [.lit (.bool false)], args := [d1, d2] }
  | _ => none }
def FnExactCountPureWrongFalsely : Prop := fnExactCountPureRow.holds Try.pinned (OpenSpec.ofChange fnExactCountPureWrong)

/-- 'laws.FnExactIsStrategy': WHATEVER THE INPUT: true; the input reads as it did. -/
def fnExactIsStrategySpec : ChangeSpec := { name := "fnExactIsStrategy", fn := fun _ => fun
  | [d1, d2] => { results := [.lit (.bool true)], args := [d1, d2] }
  | _ => none }
def fnExactIsStrategyRow : OpenClaim := { program := "ytbcopkhpgolkmaa", sum := "152ca2cf82ebf706497e55c340e7befb1ef5557117d23b00b41e67fb560493ea", func := "loop.example/g00910/laws.FnExactIsStrategy", spec := "fnExactIsStrategy", recurses := true, apart := false }
def FnExactIsStrategySaid : Prop := fnExactIsStrategyRow.holds Try.pinned (OpenSpec.ofChange fnExactIsStrategySpec)

/-- ITS FALSE NEIGHBOUR: 'it returns false'. Refute it at one input. -/
def fnExactIsStrategyWrong : ChangeSpec := { name := "fnExactIsStrategy", fn := fun _ => fun
  | [d1, d2] => { results := [.lit (.bool false)], args := [d1, d2] }
  | _ => none }
def FnExactIsStrategyWrongFalsely : Prop := fnExactIsStrategyRow.holds Try.pinned (OpenSpec.ofChange fnExactIsStrategyWrong)

/-- 'laws.FnExactCardOdds': WHATEVER THE INPUT: true; the input reads as it did. -/
def fnExactCardOddsSpec : ChangeSpec := { name := "fnExactCardOdds", fn := fun _ => fun
  | [d1, d2, d3] => { results := [.lit (.bool true)], args := [d1, d2, d3] }
  | _ => none }
def fnExactCardOddsRow : OpenClaim := { program := "ytbcopkhpgolkmaa", sum := "152ca2cf82ebf706497e55c340e7befb1ef5557117d23b00b41e67fb560493ea", func := "loop.example/g00910/laws.FnExactCardOdds", spec := "fnExactCardOdds", recurses := true, apart := false }
def FnExactCardOddsSaid : Prop := fnExactCardOddsRow.holds Try.pinned (OpenSpec.ofChange fnExactCardOddsSpec)

/-- ITS FALSE NEIGHBOUR: 'it returns false'. Refute it at one input. -/
def fnExactCardOddsWrong : ChangeSpec := { name := "fnExactCardOdds", fn := fun _ => fun
  | [d1, d2, d3] => { results := [.lit (.bool false)], args := [d1, d2, d3] }
  | _ => none }
def FnExactCardOddsWrongFalsely : Prop := fnExactCardOddsRow.holds Try.pinned (OpenSpec.ofChange fnExactCardOddsWrong)

/-- 'laws.FnExactInfoSets': WHATEVER THE INPUT: true; the input reads as it did. -/
def fnExactInfoSetsSpec : ChangeSpec := { name := "fnExactInfoSets", fn := fun _ => fun
  | [d1, d2] => { results := [.lit (.bool true)], args := [d1, d2] }
  | _ => none }
def fnExactInfoSetsRow : OpenClaim := { program := "ytbcopkhpgolkmaa", sum := "152ca2cf82ebf706497e55c340e7befb1ef5557117d23b00b41e67fb560493ea", func := "loop.example/g00910/laws.FnExactInfoSets", spec := "fnExactInfoSets", recurses := true, apart := false }
def FnExactInfoSetsSaid : Prop := fnExactInfoSetsRow.holds Try.pinned (OpenSpec.ofChange fnExactInfoSetsSpec)

/-- ITS FALSE NEIGHBOUR: 'it returns false'. Refute it at one input. -/
def fnExactInfoSetsWrong : ChangeSpec := { name := "fnExactInfoSets", fn := fun _ => fun
  | [d1, d2] => { results := [.lit (.bool false)], args := [d1, d2] }
  | _ => none }
def FnExactInfoSetsWrongFalsely : Prop := fnExactInfoSetsRow.holds Try.pinned (OpenSpec.ofChange fnExactInfoSetsWrong)

/-- 'laws.FnExactHighCardGame': WHATEVER THE INPUT: true; the input reads as it did. -/
def fnExactHighCardGameSpec : ChangeSpec := { name := "fnExactHighCardGame", fn := fun _ => fun
  | [d1, d2, d3] => { results := [.lit (.bool true)], args := [d1, d2, d3] }
  | _ => none }
def fnExactHighCardGameRow : OpenClaim := { program := "ytbcopkhpgolkmaa", sum := "152ca2cf82ebf706497e55c340e7befb1ef5557117d23b00b41e67fb560493ea", func := "loop.example/g00910/laws.FnExactHighCardGame", spec := "fnExactHighCardGame", recurses := true, apart := false }
def FnExactHighCardGameSaid : Prop := fnExactHighCardGameRow.holds Try.pinned (OpenSpec.ofChange fnExactHighCardGameSpec)

/-- ITS FALSE NEIGHBOUR: 'it returns false'. Refute it at one input. -/
def fnExactHighCardGameWrong : ChangeSpec := { name := "fnExactHighCardGame", fn := fun _ => fun
  | [d1, d2, d3] => { results := [.lit (.bool false)], args := [d1, d2, d3] }
  | _ => none }
def FnExactHighCardGameWrongFalsely : Prop := fnExactHighCardGameRow.holds Try.pinned (OpenSpec.ofChange fnExactHighCardGameWrong)

/-- 'laws.FnExactIsPure': WHATEVER THE INPUT: true; the input reads as it did. -/
def fnExactIsPureSpec : ChangeSpec := { name := "fnExactIsPure", fn := fun _ => fun
  | [d1, d2] => { results := [.lit (.bool true)], args := [d1, d2] }
  | _ => none }
def fnExactIsPureRow : OpenClaim := { program := "ytbcopkhpgolkmaa", sum := "152ca2cf82ebf706497e55c340e7befb1ef5557117d23b00b41e67fb560493ea", func := "loop.example/g00910/laws.FnExactIsPure", spec := "fnExactIsPure", unfollowed := true, recurses := true, apart := false }
def FnExactIsPureSaid : Prop := fnExactIsPureRow.holds Try.pinned (OpenSpec.ofChange fnExactIsPureSpec)

/-- ITS FALSE NEIGHBOUR: 'it returns false'. Refute it at one input. -/
def fnExactIsPureWrong : ChangeSpec := { name := "fnExactIsPure", fn := fun _ => fun
  | [d1, d2] => { results := [.lit (.bool false)], args := [d1, d2] }
  | _ => none }
def FnExactIsPureWrongFalsely : Prop := fnExactIsPureRow.holds Try.pinned (OpenSpec.ofChange fnExactIsPureWrong)

/-- 'laws.FnExactMirrorGame': WHATEVER THE INPUT: true; the input reads as it did. -/
def fnExactMirrorGameSpec : ChangeSpec := { name := "fnExactMirrorGame", fn := fun _ => fun
  | [d] => { results := [.lit (.bool true)], args := [d] }
  | _ => none }
def fnExactMirrorGameRow : OpenClaim := { program := "ytbcopkhpgolkmaa", sum := "152ca2cf82ebf706497e55c340e7befb1ef5557117d23b00b41e67fb560493ea", func := "loop.example/g00910/laws.FnExactMirrorGame", spec := "fnExactMirrorGame", recurses := true, apart := false }
def FnExactMirrorGameSaid : Prop := fnExactMirrorGameRow.holds Try.pinned (OpenSpec.ofChange fnExactMirrorGameSpec)

/-- ITS FALSE NEIGHBOUR: 'it returns false'. Refute it at one input. -/
def fnExactMirrorGameWrong : ChangeSpec := { name := "fnExactMirrorGame", fn := fun _ => fun
  | [d] => { results := [.lit (.bool false)], args := [d] }
  | _ => none }
def FnExactMirrorGameWrongFalsely : Prop := fnExactMirrorGameRow.holds Try.pinned (OpenSpec.ofChange fnExactMirrorGameWrong)

/-- 'laws.FnExactPureStrategy': WHATEVER THE INPUT: true; the input reads as it did. -/
def fnExactPureStrategySpec : ChangeSpec := { name := "fnExactPureStrategy", fn := fun _ => fun
  | [d1, d2, d3] => { results := [.lit (.bool true)], args := [d1, d2, d3] }
  | _ => none }
def fnExactPureStrategyRow : OpenClaim := { program := "ytbcopkhpgolkmaa", sum := "152ca2cf82ebf706497e55c340e7befb1ef5557117d23b00b41e67fb560493ea", func := "loop.example/g00910/laws.FnExactPureStrategy", spec := "fnExactPureStrategy", recurses := true, apart := false }
def FnExactPureStrategySaid : Prop := fnExactPureStrategyRow.holds Try.pinned (OpenSpec.ofChange fnExactPureStrategySpec)

/-- ITS FALSE NEIGHBOUR: 'it returns false'. Refute it at one input. -/
def fnExactPureStrategyWrong : ChangeSpec := { name := "fnExactPureStrategy", fn := fun _ => fun
  | [d1, d2, d3] => { results := [.lit (.bool false)], args := [d1, d2, d3] }
  | _ => none }
def FnExactPureStrategyWrongFalsely : Prop := fnExactPureStrategyRow.holds Try.pinned (OpenSpec.ofChange fnExactPureStrategyWrong)

/-- 'laws.FnExactUniformStrategy': WHATEVER THE INPUT: true; the input reads as it did. -/
def fnExactUniformStrategySpec : ChangeSpec := { name := "fnExactUniformStrategy", fn := fun _ => fun
  | [d1, d2] => { results := [.lit (.bool true)], args := [d1, d2] }
  | _ => none }
def fnExactUniformStrategyRow : OpenClaim := { program := "ytbcopkhpgolkmaa", sum := "152ca2cf82ebf706497e55c340e7befb1ef5557117d23b00b41e67fb560493ea", func := "loop.example/g00910/laws.FnExactUniformStrategy", spec := "fnExactUniformStrategy", recurses := true, apart := false }
def FnExactUniformStrategySaid : Prop := fnExactUniformStrategyRow.holds Try.pinned (OpenSpec.ofChange fnExactUniformStrategySpec)

/-- ITS FALSE NEIGHBOUR: 'it returns false'. Refute it at one input. -/
def fnExactUniformStrategyWrong : ChangeSpec := { name := "fnExactUniformStrategy", fn := fun _ => fun
  | [d1, d2] => { results := [.lit (.bool false)], args := [d1, d2] }
  | _ => none }
def FnExactUniformStrategyWrongFalsely : Prop := fnExactUniformStrategyRow.holds Try.pinned (OpenSpec.ofChange fnExactUniformStrategyWrong)

/-- 'laws.FnExactReachNumber': WHATEVER THE INPUT: true; the input reads as it did. -/
def fnExactReachNumberSpec : ChangeSpec := { name := "fnExactReachNumber", fn := fun _ => fun
  | [d1, d2, d3, d4] => { results := [.lit (.bool true)], args := [d1, d2, d3, d4] }
  | _ => none }
def fnExactReachNumberRow : OpenClaim := { program := "ytbcopkhpgolkmaa", sum := "152ca2cf82ebf706497e55c340e7befb1ef5557117d23b00b41e67fb560493ea", func := "loop.example/g00910/laws.FnExactReachNumber", spec := "fnExactReachNumber", recurses := true, apart := false }
def FnExactReachNumberSaid : Prop := fnExactReachNumberRow.holds Try.pinned (OpenSpec.ofChange fnExactReachNumberSpec)

/-- ITS FALSE NEIGHBOUR: 'it returns false'. Refute it at one input. -/
def fnExactReachNumberWrong : ChangeSpec := { name := "fnExactReachNumber", fn := fun _ => fun
  | [d1, d2, d3, d4] => { results := [.lit (.bool false)], args := [d1, d2, d3, d4] }
  | _ => none }
def FnExactReachNumberWrongFalsely : Prop := fnExactReachNumberRow.holds Try.pinned (OpenSpec.ofChange fnExactReachNumberWrong)

/-- 'laws.FnExactShowdownNumber': WHATEVER THE INPUT: true; the input reads as it did. -/
def fnExactShowdownNumberSpec : ChangeSpec := { name := "fnExactShowdownNumber", fn := fun _ => fun
  | [d1, d2, d3] => { results := [.lit (.bool true)], args := [d1, d2, d3] }
  | _ => none }
def fnExactShowdownNumberRow : OpenClaim := { program := "ytbcopkhpgolkmaa", sum := "152ca2cf82ebf706497e55c340e7befb1ef5557117d23b00b41e67fb560493ea", func := "loop.example/g00910/laws.FnExactShowdownNumber", spec := "fnExactShowdownNumber", recurses := true, apart := false }
def FnExactShowdownNumberSaid : Prop := fnExactShowdownNumberRow.holds Try.pinned (OpenSpec.ofChange fnExactShowdownNumberSpec)

/-- ITS FALSE NEIGHBOUR: 'it returns false'. Refute it at one input. -/
def fnExactShowdownNumberWrong : ChangeSpec := { name := "fnExactShowdownNumber", fn := fun _ => fun
  | [d1, d2, d3] => { results := [.lit (.bool false)], args := [d1, d2, d3] }
  | _ => none }
def FnExactShowdownNumberWrongFalsely : Prop := fnExactShowdownNumberRow.holds Try.pinned (OpenSpec.ofChange fnExactShowdownNumberWrong)

/- THE SECOND FORM. 'bulk': how many values and letters a reading holds, each counted each time it is reached (what is shared counts as often as it is met; a slice's spare places count too). A statement '..UptoSaid' is the law's where the arguments, and the package variables that the reading takes, are together of bulk at most 1048576: NARROWER than '..Said'. Prove '..Said' where nothing that the law and all that it calls make is longer than what came in: it says more and counts as full. Else prove '..UptoSaid'. A law counts once. -/
mutual
def uptoBulk {H : Type} : DataW H → Nat
  | .lit (.string bytes) => bytes.length + 1
  | .lit _ => 1
  | .nil => 1
  | .ptr d => uptoBulk d + 1
  | .slice elems spare => uptoBulkAll elems + uptoBulkAll spare + 1
  | .agg parts => uptoBulkAll parts + 1
  | .iface _ d => uptoBulk d + 1
  | .map entries => uptoBulkEntries entries + 1
  | .held _ => 1
def uptoBulkAll {H : Type} : List (DataW H) → Nat
  | [] => 0
  | d :: r => uptoBulk d + uptoBulkAll r
def uptoBulkEntries {H : Type} : List (Lit × DataW H) → Nat
  | [] => 0
  | x :: r => uptoBulkEntry x + uptoBulkEntries r
def uptoBulkEntry {H : Type} : Lit × DataW H → Nat
  | (.string bytes, d) => bytes.length + uptoBulk d + 1
  | (_, d) => uptoBulk d + 1
 end
def uptoSmall : (H : Type) → List (DataW H) → Bool := fun _ ds => decide (uptoBulkAll ds ≤ 1048576)
def OpenSpec.upto (s : _root_.Go.ChangeSpec) : _root_.Go.OpenSpec := { _root_.Go.OpenSpec.ofChange s with cond := some uptoSmall }

/-- 'laws.FnExactPayoffAt', WHERE WHAT IT READS IS OF BULK AT MOST 1048576: true; the input reads as it did. -/
def fnExactPayoffAtUptoRow : OpenClaim := { program := "ytbcopkhpgolkmaa", sum := "152ca2cf82ebf706497e55c340e7befb1ef5557117d23b00b41e67fb560493ea", func := "loop.example/g00910/laws.FnExactPayoffAt", spec := "fnExactPayoffAt", recurses := true, apart := false, narrowed := true }
def FnExactPayoffAtUptoSaid : Prop := fnExactPayoffAtUptoRow.holds Try.pinned (OpenSpec.upto fnExactPayoffAtSpec)

/-- 'laws.FnExactCountPure', WHERE WHAT IT READS IS OF BULK AT MOST 1048576: true; the input reads as it did. -/
def fnExactCountPureUptoRow : OpenClaim := { program := "ytbcopkhpgolkmaa", sum := "152ca2cf82ebf706497e55c340e7befb1ef5557117d23b00b41e67fb560493ea", func := "loop.example/g00910/laws.FnExactCountPure", spec := "fnExactCountPure", recurses := true, apart := false, narrowed := true }
def FnExactCountPureUptoSaid : Prop := fnExactCountPureUptoRow.holds Try.pinned (OpenSpec.upto fnExactCountPureSpec)

/-- 'laws.FnExactIsStrategy', WHERE WHAT IT READS IS OF BULK AT MOST 1048576: true; the input reads as it did. -/
def fnExactIsStrategyUptoRow : OpenClaim := { program := "ytbcopkhpgolkmaa", sum := "152ca2cf82ebf706497e55c340e7befb1ef5557117d23b00b41e67fb560493ea", func := "loop.example/g00910/laws.FnExactIsStrategy", spec := "fnExactIsStrategy", recurses := true, apart := false, narrowed := true }
def FnExactIsStrategyUptoSaid : Prop := fnExactIsStrategyUptoRow.holds Try.pinned (OpenSpec.upto fnExactIsStrategySpec)

/-- 'laws.FnExactCardOdds', WHERE WHAT IT READS IS OF BULK AT MOST 1048576: true; the input reads as it did. -/
def fnExactCardOddsUptoRow : OpenClaim := { program := "ytbcopkhpgolkmaa", sum := "152ca2cf82ebf706497e55c340e7befb1ef5557117d23b00b41e67fb560493ea", func := "loop.example/g00910/laws.FnExactCardOdds", spec := "fnExactCardOdds", recurses := true, apart := false, narrowed := true }
def FnExactCardOddsUptoSaid : Prop := fnExactCardOddsUptoRow.holds Try.pinned (OpenSpec.upto fnExactCardOddsSpec)

/-- 'laws.FnExactInfoSets', WHERE WHAT IT READS IS OF BULK AT MOST 1048576: true; the input reads as it did. -/
def fnExactInfoSetsUptoRow : OpenClaim := { program := "ytbcopkhpgolkmaa", sum := "152ca2cf82ebf706497e55c340e7befb1ef5557117d23b00b41e67fb560493ea", func := "loop.example/g00910/laws.FnExactInfoSets", spec := "fnExactInfoSets", recurses := true, apart := false, narrowed := true }
def FnExactInfoSetsUptoSaid : Prop := fnExactInfoSetsUptoRow.holds Try.pinned (OpenSpec.upto fnExactInfoSetsSpec)

/-- 'laws.FnExactHighCardGame', WHERE WHAT IT READS IS OF BULK AT MOST 1048576: true; the input reads as it did. -/
def fnExactHighCardGameUptoRow : OpenClaim := { program := "ytbcopkhpgolkmaa", sum := "152ca2cf82ebf706497e55c340e7befb1ef5557117d23b00b41e67fb560493ea", func := "loop.example/g00910/laws.FnExactHighCardGame", spec := "fnExactHighCardGame", recurses := true, apart := false, narrowed := true }
def FnExactHighCardGameUptoSaid : Prop := fnExactHighCardGameUptoRow.holds Try.pinned (OpenSpec.upto fnExactHighCardGameSpec)

/-- 'laws.FnExactIsPure', WHERE WHAT IT READS IS OF BULK AT MOST 1048576: true; the input reads as it did. -/
def fnExactIsPureUptoRow : OpenClaim := { program := "ytbcopkhpgolkmaa", sum := "152ca2cf82ebf706497e55c340e7befb1ef5557117d23b00b41e67fb560493ea", func := "loop.example/g00910/laws.FnExactIsPure", spec := "fnExactIsPure", unfollowed := true, recurses := true, apart := false, narrowed := true }
def FnExactIsPureUptoSaid : Prop := fnExactIsPureUptoRow.holds Try.pinned (OpenSpec.upto fnExactIsPureSpec)

/-- 'laws.FnExactMirrorGame', WHERE WHAT IT READS IS OF BULK AT MOST 1048576: true; the input reads as it did. -/
def fnExactMirrorGameUptoRow : OpenClaim := { program := "ytbcopkhpgolkmaa", sum := "152ca2cf82ebf706497e55c340e7befb1ef5557117d23b00b41e67fb560493ea", func := "loop.example/g00910/laws.FnExactMirrorGame", spec := "fnExactMirrorGame", recurses := true, apart := false, narrowed := true }
def FnExactMirrorGameUptoSaid : Prop := fnExactMirrorGameUptoRow.holds Try.pinned (OpenSpec.upto fnExactMirrorGameSpec)

/-- 'laws.FnExactPureStrategy', WHERE WHAT IT READS IS OF BULK AT MOST 1048576: true; the input reads as it did. -/
def fnExactPureStrategyUptoRow : OpenClaim := { program := "ytbcopkhpgolkmaa", sum := "152ca2cf82ebf706497e55c340e7befb1ef5557117d23b00b41e67fb560493ea", func := "loop.example/g00910/laws.FnExactPureStrategy", spec := "fnExactPureStrategy", recurses := true, apart := false, narrowed := true }
def FnExactPureStrategyUptoSaid : Prop := fnExactPureStrategyUptoRow.holds Try.pinned (OpenSpec.upto fnExactPureStrategySpec)

/-- 'laws.FnExactUniformStrategy', WHERE WHAT IT READS IS OF BULK AT MOST 1048576: true; the input reads as it did. -/
def fnExactUniformStrategyUptoRow : OpenClaim := { program := "ytbcopkhpgolkmaa", sum := "152ca2cf82ebf706497e55c340e7befb1ef5557117d23b00b41e67fb560493ea", func := "loop.example/g00910/laws.FnExactUniformStrategy", spec := "fnExactUniformStrategy", recurses := true, apart := false, narrowed := true }
def FnExactUniformStrategyUptoSaid : Prop := fnExactUniformStrategyUptoRow.holds Try.pinned (OpenSpec.upto fnExactUniformStrategySpec)

/-- 'laws.FnExactReachNumber', WHERE WHAT IT READS IS OF BULK AT MOST 1048576: true; the input reads as it did. -/
def fnExactReachNumberUptoRow : OpenClaim := { program := "ytbcopkhpgolkmaa", sum := "152ca2cf82ebf706497e55c340e7befb1ef5557117d23b00b41e67fb560493ea", func := "loop.example/g00910/laws.FnExactReachNumber", spec := "fnExactReachNumber", recurses := true, apart := false, narrowed := true }
def FnExactReachNumberUptoSaid : Prop := fnExactReachNumberUptoRow.holds Try.pinned (OpenSpec.upto fnExactReachNumberSpec)

/-- 'laws.FnExactShowdownNumber', WHERE WHAT IT READS IS OF BULK AT MOST 1048576: true; the input reads as it did. -/
def fnExactShowdownNumberUptoRow : OpenClaim := { program := "ytbcopkhpgolkmaa", sum := "152ca2cf82ebf706497e55c340e7befb1ef5557117d23b00b41e67fb560493ea", func := "loop.example/g00910/laws.FnExactShowdownNumber", spec := "fnExactShowdownNumber", recurses := true, apart := false, narrowed := true }
def FnExactShowdownNumberUptoSaid : Prop := fnExactShowdownNumberUptoRow.holds Try.pinned (OpenSpec.upto fnExactShowdownNumberSpec)

end Rows
end Go.Proofs.Ytbcopkhpgolkmaa
