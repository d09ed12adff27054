/-
  No cell of these rows narrows 'for every input' (looked for: loops, veiled, ifaces, maps, wideKeys, modest, calm, conditions, laid).
  DERIVED. THE GIVEN ROWS OF THIS SEAT. 12 by the template 'for every input the law returns true; each argument reads behind the call as it read before'; 0 by the template 'total and deterministic' (their statements: YtjbdddfjaognfaaTotals.lean).
  GIVEN WITH THE SEED: the statements are not yours to turn. If you find one false, say at which input.
  Laid BY PROGRAM, IN A SANDBOX (cutbox-rows.mjs): the forced cells as the released guide's own fill.sh prints them over the translation b8703456f5e4dedb… (all of the seat's roots in one cut). By AI agents, Wed Nov 11 2026. No macro, syntax, notation, axiom, sorry.
-/
import Derived.Test.YtjbdddfjaognfaaChecked
import GoSem.Claim
import GoSem.ClaimJoined
import GoSem.ClaimMapViews
import Derived.JoinedTies
import Derived.KernelRfl
namespace Go.Proofs.Ytjbdddfjaognfaa
/- THE CELL 'sum', in the pinned program and in every row, IS THE sha256 OF THE DUMP (.gsa) THAT YtjbdddfjaognfaaProg.lean LOADS. Nothing in Lean hashes anything: it is a label: what it is worth is what the hold of that sum in a sandbox is worth. -/
noncomputable def Try.pinned : Pinned := { name := "ytjbdddfjaognfaa", sum := "b8703456f5e4dedb477ba3803945fc496465f3b55b630923709f6a1e477e0116", checked := Try.checked }
namespace Rows
def none {H : Type} : Left H := { results := [], args := [] }

/-- 'laws.FnExactPartsOf': WHATEVER THE INPUT: true; the input reads as it did. -/
def fnExactPartsOfSpec : ChangeSpec := { name := "fnExactPartsOf", fn := fun _ => fun
  | [d] => { results := [.lit (.bool true)], args := [d] }
  | _ => none }
def fnExactPartsOfRow : OpenClaim := { program := "ytjbdddfjaognfaa", sum := "b8703456f5e4dedb477ba3803945fc496465f3b55b630923709f6a1e477e0116", func := "loop.example/g00910/laws.FnExactPartsOf", spec := "fnExactPartsOf", recurses := true, apart := false }
def FnExactPartsOfSaid : Prop := fnExactPartsOfRow.holds Try.pinned (OpenSpec.ofChange fnExactPartsOfSpec)

/-- ITS FALSE NEIGHBOUR: 'it returns false'. Refute it at one input. -/
def fnExactPartsOfWrong : ChangeSpec := { name := "fnExactPartsOf", fn := fun _ => fun
  | [d] => { results := [.lit (.bool false)], args := [d] }
  | _ => none }
def FnExactPartsOfWrongFalsely : Prop := fnExactPartsOfRow.holds Try.pinned (OpenSpec.ofChange fnExactPartsOfWrong)

/-- 'laws.FnExactBetTree': WHATEVER THE INPUT: true; the input reads as it did. -/
def fnExactBetTreeSpec : ChangeSpec := { name := "fnExactBetTree", fn := fun _ => fun
  | [d1, d2, d3] => { results := [.lit (.bool true)], args := [d1, d2, d3] }
  | _ => none }
def fnExactBetTreeRow : OpenClaim := { program := "ytjbdddfjaognfaa", sum := "b8703456f5e4dedb477ba3803945fc496465f3b55b630923709f6a1e477e0116", func := "loop.example/g00910/laws.FnExactBetTree", spec := "fnExactBetTree", recurses := true, apart := false }
def FnExactBetTreeSaid : Prop := fnExactBetTreeRow.holds Try.pinned (OpenSpec.ofChange fnExactBetTreeSpec)

/-- ITS FALSE NEIGHBOUR: 'it returns false'. Refute it at one input. -/
def fnExactBetTreeWrong : ChangeSpec := { name := "fnExactBetTree", fn := fun _ => fun
  | [d1, d2, d3] => { results := [.lit (.bool false)], args := [d1, d2, d3] }
  | _ => none }
def FnExactBetTreeWrongFalsely : Prop := fnExactBetTreeRow.holds Try.pinned (OpenSpec.ofChange fnExactBetTreeWrong)

/-- 'laws.FnExactIsTree': WHATEVER THE INPUT: true; the input reads as it did. -/
def fnExactIsTreeSpec : ChangeSpec := { name := "fnExactIsTree", fn := fun _ => fun
  | [d] => { results := [.lit (.bool true)], args := [d] }
  | _ => none }
def fnExactIsTreeRow : OpenClaim := { program := "ytjbdddfjaognfaa", sum := "b8703456f5e4dedb477ba3803945fc496465f3b55b630923709f6a1e477e0116", func := "loop.example/g00910/laws.FnExactIsTree", spec := "fnExactIsTree", recurses := true, apart := false }
def FnExactIsTreeSaid : Prop := fnExactIsTreeRow.holds Try.pinned (OpenSpec.ofChange fnExactIsTreeSpec)

/-- ITS FALSE NEIGHBOUR: 'it returns false'. Refute it at one input. -/
def fnExactIsTreeWrong : ChangeSpec := { name := "fnExactIsTree", fn := fun _ => fun
  | [d] => { results := [.lit (.bool false)], args := [d] }
  | _ => none }
def FnExactIsTreeWrongFalsely : Prop := fnExactIsTreeRow.holds Try.pinned (OpenSpec.ofChange fnExactIsTreeWrong)

/-- 'laws.FnExactDepthOf': WHATEVER THE INPUT: true; the input reads as it did. -/
def fnExactDepthOfSpec : ChangeSpec := { name := "fnExactDepthOf", fn := fun _ => fun
  | [d] => { results := [.lit (.bool true)], args := [d] }
  | _ => none }
def fnExactDepthOfRow : OpenClaim := { program := "ytjbdddfjaognfaa", sum := "b8703456f5e4dedb477ba3803945fc496465f3b55b630923709f6a1e477e0116", func := "loop.example/g00910/laws.FnExactDepthOf", spec := "fnExactDepthOf", recurses := true, apart := false }
def FnExactDepthOfSaid : Prop := fnExactDepthOfRow.holds Try.pinned (OpenSpec.ofChange fnExactDepthOfSpec)

/-- ITS FALSE NEIGHBOUR: 'it returns false'. Refute it at one input. -/
def fnExactDepthOfWrong : ChangeSpec := { name := "fnExactDepthOf", fn := fun _ => fun
  | [d] => { results := [.lit (.bool false)], args := [d] }
  | _ => none }
def FnExactDepthOfWrongFalsely : Prop := fnExactDepthOfRow.holds Try.pinned (OpenSpec.ofChange fnExactDepthOfWrong)

/-- 'laws.FnExactNodeBy': WHATEVER THE INPUT: true; the input reads as it did. -/
def fnExactNodeBySpec : ChangeSpec := { name := "fnExactNodeBy", fn := fun _ => fun
  | [d1, d2] => { results := [.lit (.bool true)], args := [d1, d2] }
  | _ => none }
def fnExactNodeByRow : OpenClaim := { program := "ytjbdddfjaognfaa", sum := "b8703456f5e4dedb477ba3803945fc496465f3b55b630923709f6a1e477e0116", func := "loop.example/g00910/laws.FnExactNodeBy", spec := "fnExactNodeBy", recurses := true, apart := false }
def FnExactNodeBySaid : Prop := fnExactNodeByRow.holds Try.pinned (OpenSpec.ofChange fnExactNodeBySpec)

/-- ITS FALSE NEIGHBOUR: 'it returns false'. Refute it at one input. -/
def fnExactNodeByWrong : ChangeSpec := { name := "fnExactNodeBy", fn := fun _ => fun
  | [d1, d2] => { results := [.lit (.bool false)], args := [d1, d2] }
  | _ => none }
def FnExactNodeByWrongFalsely : Prop := fnExactNodeByRow.holds Try.pinned (OpenSpec.ofChange fnExactNodeByWrong)

/-- 'laws.FnExactEndsOf': WHATEVER THE INPUT: true; the input reads as it did. -/
def fnExactEndsOfSpec : ChangeSpec := { name := "fnExactEndsOf", fn := fun _ => fun
  | [d] => { results := [.lit (.bool true)], args := [d] }
  | _ => none }
def fnExactEndsOfRow : OpenClaim := { program := "ytjbdddfjaognfaa", sum := "b8703456f5e4dedb477ba3803945fc496465f3b55b630923709f6a1e477e0116", func := "loop.example/g00910/laws.FnExactEndsOf", spec := "fnExactEndsOf", recurses := true, apart := false }
def FnExactEndsOfSaid : Prop := fnExactEndsOfRow.holds Try.pinned (OpenSpec.ofChange fnExactEndsOfSpec)

/-- ITS FALSE NEIGHBOUR: 'it returns false'. Refute it at one input. -/
def fnExactEndsOfWrong : ChangeSpec := { name := "fnExactEndsOf", fn := fun _ => fun
  | [d] => { results := [.lit (.bool false)], args := [d] }
  | _ => none }
def FnExactEndsOfWrongFalsely : Prop := fnExactEndsOfRow.holds Try.pinned (OpenSpec.ofChange fnExactEndsOfWrong)

/-- 'laws.FnExactDecisionsOf': WHATEVER THE INPUT: true; the input reads as it did. -/
def fnExactDecisionsOfSpec : ChangeSpec := { name := "fnExactDecisionsOf", fn := fun _ => fun
  | [d1, d2] => { results := [.lit (.bool true)], args := [d1, d2] }
  | _ => none }
def fnExactDecisionsOfRow : OpenClaim := { program := "ytjbdddfjaognfaa", sum := "b8703456f5e4dedb477ba3803945fc496465f3b55b630923709f6a1e477e0116", func := "loop.example/g00910/laws.FnExactDecisionsOf", spec := "fnExactDecisionsOf", recurses := true, apart := false }
def FnExactDecisionsOfSaid : Prop := fnExactDecisionsOfRow.holds Try.pinned (OpenSpec.ofChange fnExactDecisionsOfSpec)

/-- ITS FALSE NEIGHBOUR: 'it returns false'. Refute it at one input. -/
def fnExactDecisionsOfWrong : ChangeSpec := { name := "fnExactDecisionsOf", fn := fun _ => fun
  | [d1, d2] => { results := [.lit (.bool false)], args := [d1, d2] }
  | _ => none }
def FnExactDecisionsOfWrongFalsely : Prop := fnExactDecisionsOfRow.holds Try.pinned (OpenSpec.ofChange fnExactDecisionsOfWrong)

/-- 'laws.FnExactWayTo': WHATEVER THE INPUT: true; the input reads as it did. -/
def fnExactWayToSpec : ChangeSpec := { name := "fnExactWayTo", fn := fun _ => fun
  | [d1, d2] => { results := [.lit (.bool true)], args := [d1, d2] }
  | _ => none }
def fnExactWayToRow : OpenClaim := { program := "ytjbdddfjaognfaa", sum := "b8703456f5e4dedb477ba3803945fc496465f3b55b630923709f6a1e477e0116", func := "loop.example/g00910/laws.FnExactWayTo", spec := "fnExactWayTo", recurses := true, apart := false }
def FnExactWayToSaid : Prop := fnExactWayToRow.holds Try.pinned (OpenSpec.ofChange fnExactWayToSpec)

/-- ITS FALSE NEIGHBOUR: 'it returns false'. Refute it at one input. -/
def fnExactWayToWrong : ChangeSpec := { name := "fnExactWayTo", fn := fun _ => fun
  | [d1, d2] => { results := [.lit (.bool false)], args := [d1, d2] }
  | _ => none }
def FnExactWayToWrongFalsely : Prop := fnExactWayToRow.holds Try.pinned (OpenSpec.ofChange fnExactWayToWrong)

/-- 'laws.FnExactIsGame': WHATEVER THE INPUT: true; the input reads as it did. -/
def fnExactIsGameSpec : ChangeSpec := { name := "fnExactIsGame", fn := fun _ => fun
  | [d] => { results := [.lit (.bool true)], args := [d] }
  | _ => none }
def fnExactIsGameRow : OpenClaim := { program := "ytjbdddfjaognfaa", sum := "b8703456f5e4dedb477ba3803945fc496465f3b55b630923709f6a1e477e0116", func := "loop.example/g00910/laws.FnExactIsGame", spec := "fnExactIsGame", recurses := true, apart := false }
def FnExactIsGameSaid : Prop := fnExactIsGameRow.holds Try.pinned (OpenSpec.ofChange fnExactIsGameSpec)

/-- ITS FALSE NEIGHBOUR: 'it returns false'. Refute it at one input. -/
def fnExactIsGameWrong : ChangeSpec := { name := "fnExactIsGame", fn := fun _ => fun
  | [d] => { results := [.lit (.bool false)], args := [d] }
  | _ => none }
def FnExactIsGameWrongFalsely : Prop := fnExactIsGameRow.holds Try.pinned (OpenSpec.ofChange fnExactIsGameWrong)

/-- 'laws.FnExactKuhnGame': WHATEVER THE INPUT: true; the input reads as it did. -/
def fnExactKuhnGameSpec : ChangeSpec := { name := "fnExactKuhnGame", fn := fun _ => fun
  | [] => { results := [.lit (.bool true)], args := [] }
  | _ => none }
def fnExactKuhnGameRow : OpenClaim := { program := "ytjbdddfjaognfaa", sum := "b8703456f5e4dedb477ba3803945fc496465f3b55b630923709f6a1e477e0116", func := "loop.example/g00910/laws.FnExactKuhnGame", spec := "fnExactKuhnGame", recurses := true, apart := false }
def FnExactKuhnGameSaid : Prop := fnExactKuhnGameRow.holds Try.pinned (OpenSpec.ofChange fnExactKuhnGameSpec)

/-- ITS FALSE NEIGHBOUR: 'it returns false'. Refute it at one input. -/
def fnExactKuhnGameWrong : ChangeSpec := { name := "fnExactKuhnGame", fn := fun _ => fun
  | [] => { results := [.lit (.bool false)], args := [] }
  | _ => none }
def FnExactKuhnGameWrongFalsely : Prop := fnExactKuhnGameRow.holds Try.pinned (OpenSpec.ofChange fnExactKuhnGameWrong)

/-- 'laws.FnExactTotalWeight': WHATEVER THE INPUT: true; the input reads as it did. -/
def fnExactTotalWeightSpec : ChangeSpec := { name := "fnExactTotalWeight", fn := fun _ => fun
  | [d] => { results := [.lit (.bool true)], args := [d] }
  | _ => none }
def fnExactTotalWeightRow : OpenClaim := { program := "ytjbdddfjaognfaa", sum := "b8703456f5e4dedb477ba3803945fc496465f3b55b630923709f6a1e477e0116", func := "loop.example/g00910/laws.FnExactTotalWeight", spec := "fnExactTotalWeight", recurses := true, apart := false }
def FnExactTotalWeightSaid : Prop := fnExactTotalWeightRow.holds Try.pinned (OpenSpec.ofChange fnExactTotalWeightSpec)

/-- ITS FALSE NEIGHBOUR: 'it returns false'. Refute it at one input. -/
def fnExactTotalWeightWrong : ChangeSpec := { name := "fnExactTotalWeight", fn := fun _ => fun
  | [d] => { results := [.lit (.bool false)], args := [d] }
  | _ => none }
def FnExactTotalWeightWrongFalsely : Prop := fnExactTotalWeightRow.holds Try.pinned (OpenSpec.ofChange fnExactTotalWeightWrong)

/-- 'laws.FnExactUnitOf': WHATEVER THE INPUT: true; the input reads as it did. -/
def fnExactUnitOfSpec : ChangeSpec := { name := "fnExactUnitOf", fn := fun _ => fun
  | [d] => { results := [.lit (.bool true)], args := [d] }
  | _ => none }
def fnExactUnitOfRow : OpenClaim := { program := "ytjbdddfjaognfaa", sum := "b8703456f5e4dedb477ba3803945fc496465f3b55b630923709f6a1e477e0116", func := "loop.example/g00910/laws.FnExactUnitOf", spec := "fnExactUnitOf", recurses := true, apart := false }
def FnExactUnitOfSaid : Prop := fnExactUnitOfRow.holds Try.pinned (OpenSpec.ofChange fnExactUnitOfSpec)

/-- ITS FALSE NEIGHBOUR: 'it returns false'. Refute it at one input. -/
def fnExactUnitOfWrong : ChangeSpec := { name := "fnExactUnitOf", fn := fun _ => fun
  | [d] => { results := [.lit (.bool false)], args := [d] }
  | _ => none }
def FnExactUnitOfWrongFalsely : Prop := fnExactUnitOfRow.holds Try.pinned (OpenSpec.ofChange fnExactUnitOfWrong)

/- THE SECOND FORM. 'bulk': how many values and letters a reading holds, each counted each time it is reached (what is shared counts as often as it is met; a slice's spare places count too). A statement '..UptoSaid' is the law's where the arguments, and the package variables that the reading takes, are together of bulk at most 1048576: NARROWER than '..Said'. Prove '..Said' where nothing that the law and all that it calls make is longer than what came in: it says more and counts as full. Else prove '..UptoSaid'. A law counts once. -/
mutual
def uptoBulk {H : Type} : DataW H → Nat
  | .lit (.string bytes) => bytes.length + 1
  | .lit _ => 1
  | .nil => 1
  | .ptr d => uptoBulk d + 1
  | .slice elems spare => uptoBulkAll elems + uptoBulkAll spare + 1
  | .agg parts => uptoBulkAll parts + 1
  | .iface _ d => uptoBulk d + 1
  | .map entries => uptoBulkEntries entries + 1
  | .held _ => 1
def uptoBulkAll {H : Type} : List (DataW H) → Nat
  | [] => 0
  | d :: r => uptoBulk d + uptoBulkAll r
def uptoBulkEntries {H : Type} : List (Lit × DataW H) → Nat
  | [] => 0
  | x :: r => uptoBulkEntry x + uptoBulkEntries r
def uptoBulkEntry {H : Type} : Lit × DataW H → Nat
  | (.string bytes, d) => bytes.length + uptoBulk d + 1
  | (_, d) => uptoBulk d + 1
 end
def uptoSmall : (H : Type) → List (DataW H) → Bool := fun _ ds => decide (uptoBulkAll ds ≤ 1048576)
def OpenSpec.upto (s : _root_.Go.ChangeSpec) : _root_.Go.OpenSpec := { _root_.Go.OpenSpec.ofChange s with cond := some uptoSmall }

/-- 'laws.FnExactPartsOf', WHERE WHAT IT READS IS OF BULK AT MOST 1048576: true; the input reads as it did. -/
def fnExactPartsOfUptoRow : OpenClaim := { program := "ytjbdddfjaognfaa", sum := "b8703456f5e4dedb477ba3803945fc496465f3b55b630923709f6a1e477e0116", func := "loop.example/g00910/laws.FnExactPartsOf", spec := "fnExactPartsOf", recurses := true, apart := false, narrowed := true }
def FnExactPartsOfUptoSaid : Prop := fnExactPartsOfUptoRow.holds Try.pinned (OpenSpec.upto fnExactPartsOfSpec)

/-- 'laws.FnExactBetTree', WHERE WHAT IT READS IS OF BULK AT MOST 1048576: true; the input reads as it did. -/
def fnExactBetTreeUptoRow : OpenClaim := { program := "ytjbdddfjaognfaa", sum := "b8703456f5e4dedb477ba3803945fc496465f3b55b630923709f6a1e477e0116", func := "loop.example/g00910/laws.FnExactBetTree", spec := "fnExactBetTree", recurses := true, apart := false, narrowed := true }
def FnExactBetTreeUptoSaid : Prop := fnExactBetTreeUptoRow.holds Try.pinned (OpenSpec.upto fnExactBetTreeSpec)

/-- 'laws.FnExactIsTree', WHERE WHAT IT READS IS OF BULK AT MOST 1048576: true; the input reads as it did. -/
def fnExactIsTreeUptoRow : OpenClaim := { program := "ytjbdddfjaognfaa", sum := "b8703456f5e4dedb477ba3803945fc496465f3b55b630923709f6a1e477e0116", func := "loop.example/g00910/laws.FnExactIsTree", spec := "fnExactIsTree", recurses := true, apart := false, narrowed := true }
def FnExactIsTreeUptoSaid : Prop := fnExactIsTreeUptoRow.holds Try.pinned (OpenSpec.upto fnExactIsTreeSpec)

/-- 'laws.FnExactDepthOf', WHERE WHAT IT READS IS OF BULK AT MOST 1048576: true; the input reads as it did. -/
def fnExactDepthOfUptoRow : OpenClaim := { program := "ytjbdddfjaognfaa", sum := "b8703456f5e4dedb477ba3803945fc496465f3b55b630923709f6a1e477e0116", func := "loop.example/g00910/laws.FnExactDepthOf", spec := "fnExactDepthOf", recurses := true, apart := false, narrowed := true }
def FnExactDepthOfUptoSaid : Prop := fnExactDepthOfUptoRow.holds Try.pinned (OpenSpec.upto fnExactDepthOfSpec)

/-- 'laws.FnExactNodeBy', WHERE WHAT IT READS IS OF BULK AT MOST 1048576: true; the input reads as it did. -/
def fnExactNodeByUptoRow : OpenClaim := { program := "ytjbdddfjaognfaa", sum := "b8703456f5e4dedb477ba3803945fc496465f3b55b630923709f6a1e477e0116", func := "loop.example/g00910/laws.FnExactNodeBy", spec := "fnExactNodeBy", recurses := true, apart := false, narrowed := true }
def FnExactNodeByUptoSaid : Prop := fnExactNodeByUptoRow.holds Try.pinned (OpenSpec.upto fnExactNodeBySpec)

/-- 'laws.FnExactEndsOf', WHERE WHAT IT READS IS OF BULK AT MOST 1048576: true; the input reads as it did. -/
def fnExactEndsOfUptoRow : OpenClaim := { program := "ytjbdddfjaognfaa", sum := "b8703456f5e4dedb477ba3803945fc496465f3b55b630923709f6a1e477e0116", func := "loop.example/g00910/laws.FnExactEndsOf", spec := "fnExactEndsOf", recurses := true, apart := false, narrowed := true }
def FnExactEndsOfUptoSaid : Prop := fnExactEndsOfUptoRow.holds Try.pinned (OpenSpec.upto fnExactEndsOfSpec)

/-- 'laws.FnExactDecisionsOf', WHERE WHAT IT READS IS OF BULK AT MOST 1048576: true; the input reads as it did. -/
def fnExactDecisionsOfUptoRow : OpenClaim := { program := "ytjbdddfjaognfaa", sum := "b8703456f5e4dedb477ba3803945fc496465f3b55b630923709f6a1e477e0116", func := "loop.example/g00910/laws.FnExactDecisionsOf", spec := "fnExactDecisionsOf", recurses := true, apart := false, narrowed := true }
def FnExactDecisionsOfUptoSaid : Prop := fnExactDecisionsOfUptoRow.holds Try.pinned (OpenSpec.upto fnExactDecisionsOfSpec)

/-- 'laws.FnExactWayTo', WHERE WHAT IT READS IS OF BULK AT MOST 1048576: true; the input reads as it did. -/
def fnExactWayToUptoRow : OpenClaim := { program := "ytjbdddfjaognfaa", sum := "b8703456f5e4dedb477ba3803945fc496465f3b55b630923709f6a1e477e0116", func := "loop.example/g00910/laws.FnExactWayTo", spec := "fnExactWayTo", recurses := true, apart := false, narrowed := true }
def FnExactWayToUptoSaid : Prop := fnExactWayToUptoRow.holds Try.pinned (OpenSpec.upto fnExactWayToSpec)

/-- 'laws.FnExactIsGame', WHERE WHAT IT READS IS OF BULK AT MOST 1048576: true; the input reads as it did. -/
def fnExactIsGameUptoRow : OpenClaim := { program := "ytjbdddfjaognfaa", sum := "b8703456f5e4dedb477ba3803945fc496465f3b55b630923709f6a1e477e0116", func := "loop.example/g00910/laws.FnExactIsGame", spec := "fnExactIsGame", recurses := true, apart := false, narrowed := true }
def FnExactIsGameUptoSaid : Prop := fnExactIsGameUptoRow.holds Try.pinned (OpenSpec.upto fnExactIsGameSpec)

/-- 'laws.FnExactKuhnGame', WHERE WHAT IT READS IS OF BULK AT MOST 1048576: true; the input reads as it did. -/
def fnExactKuhnGameUptoRow : OpenClaim := { program := "ytjbdddfjaognfaa", sum := "b8703456f5e4dedb477ba3803945fc496465f3b55b630923709f6a1e477e0116", func := "loop.example/g00910/laws.FnExactKuhnGame", spec := "fnExactKuhnGame", recurses := true, apart := false, narrowed := true }
def FnExactKuhnGameUptoSaid : Prop := fnExactKuhnGameUptoRow.holds Try.pinned (OpenSpec.upto fnExactKuhnGameSpec)

/-- 'laws.FnExactTotalWeight', WHERE WHAT IT READS IS OF BULK AT MOST 1048576: true; the input reads as it did. -/
def fnExactTotalWeightUptoRow : OpenClaim := { program := "ytjbdddfjaognfaa", sum := "b8703456f5e4dedb477ba3803945fc496465f3b55b630923709f6a1e477e0116", func := "loop.example/g00910/laws.FnExactTotalWeight", spec := "fnExactTotalWeight", recurses := true, apart := false, narrowed := true }
def FnExactTotalWeightUptoSaid : Prop := fnExactTotalWeightUptoRow.holds Try.pinned (OpenSpec.upto fnExactTotalWeightSpec)

/-- 'laws.FnExactUnitOf', WHERE WHAT IT READS IS OF BULK AT MOST 1048576: true; the input reads as it did. -/
def fnExactUnitOfUptoRow : OpenClaim := { program := "ytjbdddfjaognfaa", sum := "b8703456f5e4dedb477ba3803945fc496465f3b55b630923709f6a1e477e0116", func := "loop.example/g00910/laws.FnExactUnitOf", spec := "fnExactUnitOf", recurses := true, apart := false, narrowed := true }
def FnExactUnitOfUptoSaid : Prop := fnExactUnitOfUptoRow.holds Try.pinned (OpenSpec.upto fnExactUnitOfSpec)

end Rows
end Go.Proofs.Ytjbdddfjaognfaa
