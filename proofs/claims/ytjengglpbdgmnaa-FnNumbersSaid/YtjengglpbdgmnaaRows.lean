/-
  No cell of these rows narrows 'for every input' (looked for: loops, veiled, ifaces, maps, wideKeys, modest, calm, conditions, laid).
  DERIVED. THE GIVEN ROWS OF THIS SEAT. 9 by the template 'for every input the law returns true; each argument reads behind the call as it read before'; 0 by the template 'total and deterministic' (their statements: YtjengglpbdgmnaaTotals.lean).
  GIVEN WITH THE SEED: the statements are not yours to turn. If you find one false, say at which input.
  Laid BY PROGRAM, IN A SANDBOX (cutbox-rows.mjs): the forced cells as the released guide's own fill.sh prints them over the translation 39c6cacf917ce8d2… (all of the seat's roots in one cut). By AI agents, Wed Nov 11 2026. No macro, syntax, notation, axiom, sorry.
-/
import Derived.Test.YtjengglpbdgmnaaChecked
import GoSem.Claim
import GoSem.ClaimJoined
import GoSem.ClaimMapViews
import Derived.JoinedTies
import Derived.KernelRfl
namespace Go.Proofs.Ytjengglpbdgmnaa
/- THE CELL 'sum', in the pinned program and in every row, IS THE sha256 OF THE DUMP (.gsa) THAT YtjengglpbdgmnaaProg.lean LOADS. Nothing in Lean hashes anything: it is a label: what it is worth is what the hold of that sum in a sandbox is worth. -/
noncomputable def Try.pinned : Pinned := { name := "ytjengglpbdgmnaa", sum := "39c6cacf917ce8d2e88040c1e1a359b5be07fd6a0f5dbd75390b45f81df3ef60", checked := Try.checked }
namespace Rows
def none {H : Type} : Left H := { results := [], args := [] }

/-- 'laws.FnNodes': WHATEVER THE INPUT: true; the input reads as it did. -/
def fnNodesSpec : ChangeSpec := { name := "fnNodes", fn := fun _ => fun
  | [d] => { results := [.lit (.bool true)], args := [d] }
  | _ => none }
def fnNodesRow : OpenClaim := { program := "ytjengglpbdgmnaa", sum := "39c6cacf917ce8d2e88040c1e1a359b5be07fd6a0f5dbd75390b45f81df3ef60", func := "loop.example/g00910/laws.FnNodes", spec := "fnNodes", recurses := true, apart := false }
def FnNodesSaid : Prop := fnNodesRow.holds Try.pinned (OpenSpec.ofChange fnNodesSpec)

/-- ITS FALSE NEIGHBOUR: 'it returns false'. Refute it at one input. -/
def fnNodesWrong : ChangeSpec := { name := "fnNodes", fn := fun _ => fun
  | [d] => { results := [.lit (.bool false)], args := [d] }
  | _ => none }
def FnNodesWrongFalsely : Prop := fnNodesRow.holds Try.pinned (OpenSpec.ofChange fnNodesWrong)

/-- 'laws.FnWays': WHATEVER THE INPUT: true; the input reads as it did. -/
def fnWaysSpec : ChangeSpec := { name := "fnWays", fn := fun _ => fun
  | [d] => { results := [.lit (.bool true)], args := [d] }
  | _ => none }
def fnWaysRow : OpenClaim := { program := "ytjengglpbdgmnaa", sum := "39c6cacf917ce8d2e88040c1e1a359b5be07fd6a0f5dbd75390b45f81df3ef60", func := "loop.example/g00910/laws.FnWays", spec := "fnWays", recurses := true, apart := false }
def FnWaysSaid : Prop := fnWaysRow.holds Try.pinned (OpenSpec.ofChange fnWaysSpec)

/-- ITS FALSE NEIGHBOUR: 'it returns false'. Refute it at one input. -/
def fnWaysWrong : ChangeSpec := { name := "fnWays", fn := fun _ => fun
  | [d] => { results := [.lit (.bool false)], args := [d] }
  | _ => none }
def FnWaysWrongFalsely : Prop := fnWaysRow.holds Try.pinned (OpenSpec.ofChange fnWaysWrong)

/-- 'laws.FnMirrors': WHATEVER THE INPUT: true; the input reads as it did. -/
def fnMirrorsSpec : ChangeSpec := { name := "fnMirrors", fn := fun _ => fun
  | [d] => { results := [.lit (.bool true)], args := [d] }
  | _ => none }
def fnMirrorsRow : OpenClaim := { program := "ytjengglpbdgmnaa", sum := "39c6cacf917ce8d2e88040c1e1a359b5be07fd6a0f5dbd75390b45f81df3ef60", func := "loop.example/g00910/laws.FnMirrors", spec := "fnMirrors", recurses := true, apart := false }
def FnMirrorsSaid : Prop := fnMirrorsRow.holds Try.pinned (OpenSpec.ofChange fnMirrorsSpec)

/-- ITS FALSE NEIGHBOUR: 'it returns false'. Refute it at one input. -/
def fnMirrorsWrong : ChangeSpec := { name := "fnMirrors", fn := fun _ => fun
  | [d] => { results := [.lit (.bool false)], args := [d] }
  | _ => none }
def FnMirrorsWrongFalsely : Prop := fnMirrorsRow.holds Try.pinned (OpenSpec.ofChange fnMirrorsWrong)

/-- 'laws.FnInfoSets': WHATEVER THE INPUT: true; the input reads as it did. -/
def fnInfoSetsSpec : ChangeSpec := { name := "fnInfoSets", fn := fun _ => fun
  | [d] => { results := [.lit (.bool true)], args := [d] }
  | _ => none }
def fnInfoSetsRow : OpenClaim := { program := "ytjengglpbdgmnaa", sum := "39c6cacf917ce8d2e88040c1e1a359b5be07fd6a0f5dbd75390b45f81df3ef60", func := "loop.example/g00910/laws.FnInfoSets", spec := "fnInfoSets", recurses := true, apart := false }
def FnInfoSetsSaid : Prop := fnInfoSetsRow.holds Try.pinned (OpenSpec.ofChange fnInfoSetsSpec)

/-- ITS FALSE NEIGHBOUR: 'it returns false'. Refute it at one input. -/
def fnInfoSetsWrong : ChangeSpec := { name := "fnInfoSets", fn := fun _ => fun
  | [d] => { results := [.lit (.bool false)], args := [d] }
  | _ => none }
def FnInfoSetsWrongFalsely : Prop := fnInfoSetsRow.holds Try.pinned (OpenSpec.ofChange fnInfoSetsWrong)

/-- 'laws.FnCardOdds': WHATEVER THE INPUT: true; the input reads as it did. -/
def fnCardOddsSpec : ChangeSpec := { name := "fnCardOdds", fn := fun _ => fun
  | [d] => { results := [.lit (.bool true)], args := [d] }
  | _ => none }
def fnCardOddsRow : OpenClaim := { program := "ytjengglpbdgmnaa", sum := "39c6cacf917ce8d2e88040c1e1a359b5be07fd6a0f5dbd75390b45f81df3ef60", func := "loop.example/g00910/laws.FnCardOdds", spec := "fnCardOdds", recurses := true, apart := false }
def FnCardOddsSaid : Prop := fnCardOddsRow.holds Try.pinned (OpenSpec.ofChange fnCardOddsSpec)

/-- ITS FALSE NEIGHBOUR: 'it returns false'. Refute it at one input. -/
def fnCardOddsWrong : ChangeSpec := { name := "fnCardOdds", fn := fun _ => fun
  | [d] => { results := [.lit (.bool false)], args := [d] }
  | _ => none }
def FnCardOddsWrongFalsely : Prop := fnCardOddsRow.holds Try.pinned (OpenSpec.ofChange fnCardOddsWrong)

/-- 'laws.FnPure': WHATEVER THE INPUT: true; the input reads as it did. -/
def fnPureSpec : ChangeSpec := { name := "fnPure", fn := fun _ => fun
  | [d] => { results := [.lit (.bool true)], args := [d] }
  | _ => none }
def fnPureRow : OpenClaim := { program := "ytjengglpbdgmnaa", sum := "39c6cacf917ce8d2e88040c1e1a359b5be07fd6a0f5dbd75390b45f81df3ef60", func := "loop.example/g00910/laws.FnPure", spec := "fnPure", unfollowed := true, recurses := true, apart := false }
def FnPureSaid : Prop := fnPureRow.holds Try.pinned (OpenSpec.ofChange fnPureSpec)

/-- ITS FALSE NEIGHBOUR: 'it returns false'. Refute it at one input. -/
def fnPureWrong : ChangeSpec := { name := "fnPure", fn := fun _ => fun
  | [d] => { results := [.lit (.bool false)], args := [d] }
  | _ => none }
def FnPureWrongFalsely : Prop := fnPureRow.holds Try.pinned (OpenSpec.ofChange fnPureWrong)

/-- 'laws.FnEnds': WHATEVER THE INPUT: true; the input reads as it did. -/
def fnEndsSpec : ChangeSpec := { name := "fnEnds", fn := fun _ => fun
  | [d] => { results := [.lit (.bool true)], args := [d] }
  | _ => none }
def fnEndsRow : OpenClaim := { program := "ytjengglpbdgmnaa", sum := "39c6cacf917ce8d2e88040c1e1a359b5be07fd6a0f5dbd75390b45f81df3ef60", func := "loop.example/g00910/laws.FnEnds", spec := "fnEnds", recurses := true, apart := false }
def FnEndsSaid : Prop := fnEndsRow.holds Try.pinned (OpenSpec.ofChange fnEndsSpec)

/-- ITS FALSE NEIGHBOUR: 'it returns false'. Refute it at one input. -/
def fnEndsWrong : ChangeSpec := { name := "fnEnds", fn := fun _ => fun
  | [d] => { results := [.lit (.bool false)], args := [d] }
  | _ => none }
def FnEndsWrongFalsely : Prop := fnEndsRow.holds Try.pinned (OpenSpec.ofChange fnEndsWrong)

/-- 'laws.FnNumbers': WHATEVER THE INPUT: true; the input reads as it did. -/
def fnNumbersSpec : ChangeSpec := { name := "fnNumbers", fn := fun _ => fun
  | [d] => { results := [.lit (.bool true)], args := [d] }
  | _ => none }
def fnNumbersRow : OpenClaim := { program := "ytjengglpbdgmnaa", sum := "39c6cacf917ce8d2e88040c1e1a359b5be07fd6a0f5dbd75390b45f81df3ef60", func := "loop.example/g00910/laws.FnNumbers", spec := "fnNumbers", recurses := true, apart := false }
def FnNumbersSaid : Prop := fnNumbersRow.holds Try.pinned (OpenSpec.ofChange fnNumbersSpec)

/-- ITS FALSE NEIGHBOUR: 'it returns false'. Refute it at one input. -/
def fnNumbersWrong : ChangeSpec := { name := "fnNumbers", fn := fun _ => fun
  | [d] => { results := [.lit (.bool false)], args := [d] }
  | _ => none }
def FnNumbersWrongFalsely : Prop := fnNumbersRow.holds Try.pinned (OpenSpec.ofChange fnNumbersWrong)

/-- 'laws.FnValueRatios': WHATEVER THE INPUT: true; the input reads as it did. -/
def fnValueRatiosSpec : ChangeSpec := { name := "fnValueRatios", fn := fun _ => fun
  | [d] => { results := [.lit (.bool true)], args := [d] }
  | _ => none }
def fnValueRatiosRow : OpenClaim := { program := "ytjengglpbdgmnaa", sum := "39c6cacf917ce8d2e88040c1e1a359b5be07fd6a0f5dbd75390b45f81df3ef60", func := "loop.example/g00910/laws.FnValueRatios", spec := "fnValueRatios", recurses := true, apart := false }
def FnValueRatiosSaid : Prop := fnValueRatiosRow.holds Try.pinned (OpenSpec.ofChange fnValueRatiosSpec)

/-- ITS FALSE NEIGHBOUR: 'it returns false'. Refute it at one input. -/
def fnValueRatiosWrong : ChangeSpec := { name := "fnValueRatios", fn := fun _ => fun
  | [d] => { results := [.lit (.bool false)], args := [d] }
  | _ => none }
def FnValueRatiosWrongFalsely : Prop := fnValueRatiosRow.holds Try.pinned (OpenSpec.ofChange fnValueRatiosWrong)

/- THE SECOND FORM. 'bulk': how many values and letters a reading holds, each counted each time it is reached (what is shared counts as often as it is met; a slice's spare places count too). A statement '..UptoSaid' is the law's where the arguments, and the package variables that the reading takes, are together of bulk at most 1048576: NARROWER than '..Said'. Prove '..Said' where nothing that the law and all that it calls make is longer than what came in: it says more and counts as full. Else prove '..UptoSaid'. A law counts once. -/
mutual
def uptoBulk {H : Type} : DataW H → Nat
  | .lit (.string bytes) => bytes.length + 1
  | .lit _ => 1
  | .nil => 1
  | .ptr d => uptoBulk d + 1
  | .slice elems spare => uptoBulkAll elems + uptoBulkAll spare + 1
  | .agg parts => uptoBulkAll parts + 1
  | .iface _ d => uptoBulk d + 1
  | .map entries => uptoBulkEntries entries + 1
  | .held _ => 1
def uptoBulkAll {H : Type} : List (DataW H) → Nat
  | [] => 0
  | d :: r => uptoBulk d + uptoBulkAll r
def uptoBulkEntries {H : Type} : List (Lit × DataW H) → Nat
  | [] => 0
  | x :: r => uptoBulkEntry x + uptoBulkEntries r
def uptoBulkEntry {H : Type} : Lit × DataW H → Nat
  | (.string bytes, d) => bytes.length + uptoBulk d + 1
  | (_, d) => uptoBulk d + 1
 end
def uptoSmall : (H : Type) → List (DataW H) → Bool := fun _ ds => decide (uptoBulkAll ds ≤ 1048576)
def OpenSpec.upto (s : _root_.Go.ChangeSpec) : _root_.Go.OpenSpec := { _root_.Go.OpenSpec.ofChange s with cond := some uptoSmall }

/-- 'laws.FnNodes', WHERE WHAT IT READS IS OF BULK AT MOST 1048576: true; the input reads as it did. -/
def fnNodesUptoRow : OpenClaim := { program := "ytjengglpbdgmnaa", sum := "39c6cacf917ce8d2e88040c1e1a359b5be07fd6a0f5dbd75390b45f81df3ef60", func := "loop.example/g00910/laws.FnNodes", spec := "fnNodes", recurses := true, apart := false, narrowed := true }
def FnNodesUptoSaid : Prop := fnNodesUptoRow.holds Try.pinned (OpenSpec.upto fnNodesSpec)

/-- 'laws.FnWays', WHERE WHAT IT READS IS OF BULK AT MOST 1048576: true; the input reads as it did. -/
def fnWaysUptoRow : OpenClaim := { program := "ytjengglpbdgmnaa", sum := "39c6cacf917ce8d2e88040c1e1a359b5be07fd6a0f5dbd75390b45f81df3ef60", func := "loop.example/g00910/laws.FnWays", spec := "fnWays", recurses := true, apart := false, narrowed := true }
def FnWaysUptoSaid : Prop := fnWaysUptoRow.holds Try.pinned (OpenSpec.upto fnWaysSpec)

/-- 'laws.FnMirrors', WHERE WHAT IT READS IS OF BULK AT MOST 1048576: true; the input reads as it did. -/
def fnMirrorsUptoRow : OpenClaim := { program := "ytjengglpbdgmnaa", sum := "39c6cacf917ce8d2e88040c1e1a359b5be07fd6a0f5dbd75390b45f81df3ef60", func := "loop.example/g00910/laws.FnMirrors", spec := "fnMirrors", recurses := true, apart := false, narrowed := true }
def FnMirrorsUptoSaid : Prop := fnMirrorsUptoRow.holds Try.pinned (OpenSpec.upto fnMirrorsSpec)

/-- 'laws.FnInfoSets', WHERE WHAT IT READS IS OF BULK AT MOST 1048576: true; the input reads as it did. -/
def fnInfoSetsUptoRow : OpenClaim := { program := "ytjengglpbdgmnaa", sum := "39c6cacf917ce8d2e88040c1e1a359b5be07fd6a0f5dbd75390b45f81df3ef60", func := "loop.example/g00910/laws.FnInfoSets", spec := "fnInfoSets", recurses := true, apart := false, narrowed := true }
def FnInfoSetsUptoSaid : Prop := fnInfoSetsUptoRow.holds Try.pinned (OpenSpec.upto fnInfoSetsSpec)

/-- 'laws.FnCardOdds', WHERE WHAT IT READS IS OF BULK AT MOST 1048576: true; the input reads as it did. -/
def fnCardOddsUptoRow : OpenClaim := { program := "ytjengglpbdgmnaa", sum := "39c6cacf917ce8d2e88040c1e1a359b5be07fd6a0f5dbd75390b45f81df3ef60", func := "loop.example/g00910/laws.FnCardOdds", spec := "fnCardOdds", recurses := true, apart := false, narrowed := true }
def FnCardOddsUptoSaid : Prop := fnCardOddsUptoRow.holds Try.pinned (OpenSpec.upto fnCardOddsSpec)

/-- 'laws.FnPure', WHERE WHAT IT READS IS OF BULK AT MOST 1048576: true; the input reads as it did. -/
def fnPureUptoRow : OpenClaim := { program := "ytjengglpbdgmnaa", sum := "39c6cacf917ce8d2e88040c1e1a359b5be07fd6a0f5dbd75390b45f81df3ef60", func := "loop.example/g00910/laws.FnPure", spec := "fnPure", unfollowed := true, recurses := true, apart := false, narrowed := true }
def FnPureUptoSaid : Prop := fnPureUptoRow.holds Try.pinned (OpenSpec.upto fnPureSpec)

/-- 'laws.FnEnds', WHERE WHAT IT READS IS OF BULK AT MOST 1048576: true; the input reads as it did. -/
def fnEndsUptoRow : OpenClaim := { program := "ytjengglpbdgmnaa", sum := "39c6cacf917ce8d2e88040c1e1a359b5be07fd6a0f5dbd75390b45f81df3ef60", func := "loop.example/g00910/laws.FnEnds", spec := "fnEnds", recurses := true, apart := false, narrowed := true }
def FnEndsUptoSaid : Prop := fnEndsUptoRow.holds Try.pinned (OpenSpec.upto fnEndsSpec)

/-- 'laws.FnNumbers', WHERE WHAT IT READS IS OF BULK AT MOST 1048576: true; the input reads as it did. -/
def fnNumbersUptoRow : OpenClaim := { program := "ytjengglpbdgmnaa", sum := "39c6cacf917ce8d2e88040c1e1a359b5be07fd6a0f5dbd75390b45f81df3ef60", func := "loop.example/g00910/laws.FnNumbers", spec := "fnNumbers", recurses := true, apart := false, narrowed := true }
def FnNumbersUptoSaid : Prop := fnNumbersUptoRow.holds Try.pinned (OpenSpec.upto fnNumbersSpec)

/-- 'laws.FnValueRatios', WHERE WHAT IT READS IS OF BULK AT MOST 1048576: true; the input reads as it did. -/
def fnValueRatiosUptoRow : OpenClaim := { program := "ytjengglpbdgmnaa", sum := "39c6cacf917ce8d2e88040c1e1a359b5be07fd6a0f5dbd75390b45f81df3ef60", func := "loop.example/g00910/laws.FnValueRatios", spec := "fnValueRatios", recurses := true, apart := false, narrowed := true }
def FnValueRatiosUptoSaid : Prop := fnValueRatiosUptoRow.holds Try.pinned (OpenSpec.upto fnValueRatiosSpec)

end Rows
end Go.Proofs.Ytjengglpbdgmnaa
