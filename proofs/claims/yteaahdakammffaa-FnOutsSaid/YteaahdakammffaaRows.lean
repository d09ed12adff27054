/-
  No cell of these rows narrows 'for every input' (looked for: loops, veiled, ifaces, maps, wideKeys, modest, calm, conditions, laid).
  DERIVED. THE GIVEN ROWS OF THIS SEAT. 9 by the template 'for every input the law returns true; each argument reads behind the call as it read before'; 0 by the template 'total and deterministic' (their statements: YteaahdakammffaaTotals.lean).
  GIVEN WITH THE SEED: the statements are not yours to turn. If you find one false, say at which input.
  Laid BY PROGRAM, IN A SANDBOX (cutbox-rows.mjs): the forced cells as the released guide's own fill.sh prints them over the translation c4d857f985ce9856… (all of the seat's roots in one cut). By AI agents, Wed Nov 11 2026. No macro, syntax, notation, axiom, sorry.
-/
import Derived.Test.YteaahdakammffaaChecked
import GoSem.Claim
import GoSem.ClaimJoined
import GoSem.ClaimMapViews
import Derived.JoinedTies
import Derived.KernelRfl
namespace Go.Proofs.Yteaahdakammffaa
/- THE CELL 'sum', in the pinned program and in every row, IS THE sha256 OF THE DUMP (.gsa) THAT YteaahdakammffaaProg.lean LOADS. Nothing in Lean hashes anything: it is a label: what it is worth is what the hold of that sum in a sandbox is worth. -/
noncomputable def Try.pinned : Pinned := { name := "yteaahdakammffaa", sum := "c4d857f985ce98564676f57aa07ab5c268422d61159d5df8e0ac8b99a8219d6b", checked := Try.checked }
namespace Rows
def none {H : Type} : Left H := { results := [], args := [] }

/-- 'laws.FnExactLeaderOf': WHATEVER THE INPUT: true; the input reads as it did. -/
def fnExactLeaderOfSpec : ChangeSpec := { name := "fnExactLeaderOf", fn := fun _ => fun
  | [d1, d2, d3, d4] => { results := [.lit (.bool true)], args := [d1, d2, d3, d4] }
  | _ => none }
def fnExactLeaderOfRow : OpenClaim := { program := "yteaahdakammffaa", sum := "c4d857f985ce98564676f57aa07ab5c268422d61159d5df8e0ac8b99a8219d6b", func := "loop.example/g00910/laws.FnExactLeaderOf", spec := "fnExactLeaderOf", unfollowed := true, recurses := true, apart := false }
def FnExactLeaderOfSaid : Prop := fnExactLeaderOfRow.holds Try.pinned (OpenSpec.ofChange fnExactLeaderOfSpec)

/-- ITS FALSE NEIGHBOUR: 'it returns false'. Refute it at one input. -/
def fnExactLeaderOfWrong : ChangeSpec := { name := "fnExactLeaderOf", fn := fun _ => fun
  | [d1, d2, d3, d4] => { results := [.lit (.bool false)], args := [d1, d2, d3, d4] }
  | _ => none }
def FnExactLeaderOfWrongFalsely : Prop := fnExactLeaderOfRow.holds Try.pinned (OpenSpec.ofChange fnExactLeaderOfWrong)

/-- 'laws.FnOuts': WHATEVER THE INPUT: true; the input reads as it did. -/
def fnOutsSpec : ChangeSpec := { name := "fnOuts", fn := fun _ => fun
  | [d] => { results := [.lit (.bool true)], args := [d] }
  | _ => none }
def fnOutsRow : OpenClaim := { program := "yteaahdakammffaa", sum := "c4d857f985ce98564676f57aa07ab5c268422d61159d5df8e0ac8b99a8219d6b", func := "loop.example/g00910/laws.FnOuts", spec := "fnOuts", unfollowed := true, recurses := true, apart := false }
def FnOutsSaid : Prop := fnOutsRow.holds Try.pinned (OpenSpec.ofChange fnOutsSpec)

/-- ITS FALSE NEIGHBOUR: 'it returns false'. Refute it at one input. -/
def fnOutsWrong : ChangeSpec := { name := "fnOuts", fn := fun _ => fun
  | [d] => { results := [.lit (.bool false)], args := [d] }
  | _ => none }
def FnOutsWrongFalsely : Prop := fnOutsRow.holds Try.pinned (OpenSpec.ofChange fnOutsWrong)

/-- 'laws.FnSameDeals': WHATEVER THE INPUT: true; the input reads as it did. -/
def fnSameDealsSpec : ChangeSpec := { name := "fnSameDeals", fn := fun _ => fun
  | [d] => { results := [.lit (.bool true)], args := [d] }
  | _ => none }
def fnSameDealsRow : OpenClaim := { program := "yteaahdakammffaa", sum := "c4d857f985ce98564676f57aa07ab5c268422d61159d5df8e0ac8b99a8219d6b", func := "loop.example/g00910/laws.FnSameDeals", spec := "fnSameDeals", unfollowed := true, recurses := true, apart := false }
def FnSameDealsSaid : Prop := fnSameDealsRow.holds Try.pinned (OpenSpec.ofChange fnSameDealsSpec)

/-- ITS FALSE NEIGHBOUR: 'it returns false'. Refute it at one input. -/
def fnSameDealsWrong : ChangeSpec := { name := "fnSameDeals", fn := fun _ => fun
  | [d] => { results := [.lit (.bool false)], args := [d] }
  | _ => none }
def FnSameDealsWrongFalsely : Prop := fnSameDealsRow.holds Try.pinned (OpenSpec.ofChange fnSameDealsWrong)

/-- 'laws.FnExchanges': WHATEVER THE INPUT: true; the input reads as it did. -/
def fnExchangesSpec : ChangeSpec := { name := "fnExchanges", fn := fun _ => fun
  | [d] => { results := [.lit (.bool true)], args := [d] }
  | _ => none }
def fnExchangesRow : OpenClaim := { program := "yteaahdakammffaa", sum := "c4d857f985ce98564676f57aa07ab5c268422d61159d5df8e0ac8b99a8219d6b", func := "loop.example/g00910/laws.FnExchanges", spec := "fnExchanges", unfollowed := true, recurses := true, apart := false }
def FnExchangesSaid : Prop := fnExchangesRow.holds Try.pinned (OpenSpec.ofChange fnExchangesSpec)

/-- ITS FALSE NEIGHBOUR: 'it returns false'. Refute it at one input. -/
def fnExchangesWrong : ChangeSpec := { name := "fnExchanges", fn := fun _ => fun
  | [d] => { results := [.lit (.bool false)], args := [d] }
  | _ => none }
def FnExchangesWrongFalsely : Prop := fnExchangesRow.holds Try.pinned (OpenSpec.ofChange fnExchangesWrong)

/-- 'laws.FnExactNextClasses': WHATEVER THE INPUT: true; the input reads as it did. -/
def fnExactNextClassesSpec : ChangeSpec := { name := "fnExactNextClasses", fn := fun _ => fun
  | [d] => { results := [.lit (.bool true)], args := [d] }
  | _ => none }
def fnExactNextClassesRow : OpenClaim := { program := "yteaahdakammffaa", sum := "c4d857f985ce98564676f57aa07ab5c268422d61159d5df8e0ac8b99a8219d6b", func := "loop.example/g00910/laws.FnExactNextClasses", spec := "fnExactNextClasses", unfollowed := true, recurses := true, apart := false }
def FnExactNextClassesSaid : Prop := fnExactNextClassesRow.holds Try.pinned (OpenSpec.ofChange fnExactNextClassesSpec)

/-- ITS FALSE NEIGHBOUR: 'it returns false'. Refute it at one input. -/
def fnExactNextClassesWrong : ChangeSpec := { name := "fnExactNextClasses", fn := fun _ => fun
  | [d] => { results := [.lit (.bool false)], args := [d] }
  | _ => none }
def FnExactNextClassesWrongFalsely : Prop := fnExactNextClassesRow.holds Try.pinned (OpenSpec.ofChange fnExactNextClassesWrong)

/-- 'laws.FnExactPartsAt': WHATEVER THE INPUT: true; the input reads as it did. -/
def fnExactPartsAtSpec : ChangeSpec := { name := "fnExactPartsAt", fn := fun _ => fun
  | [d1, d2, d3] => { results := [.lit (.bool true)], args := [d1, d2, d3] }
  | _ => none }
def fnExactPartsAtRow : OpenClaim := { program := "yteaahdakammffaa", sum := "c4d857f985ce98564676f57aa07ab5c268422d61159d5df8e0ac8b99a8219d6b", func := "loop.example/g00910/laws.FnExactPartsAt", spec := "fnExactPartsAt", unfollowed := true, recurses := true, apart := false }
def FnExactPartsAtSaid : Prop := fnExactPartsAtRow.holds Try.pinned (OpenSpec.ofChange fnExactPartsAtSpec)

/-- ITS FALSE NEIGHBOUR: 'it returns false'. Refute it at one input. -/
def fnExactPartsAtWrong : ChangeSpec := { name := "fnExactPartsAt", fn := fun _ => fun
  | [d1, d2, d3] => { results := [.lit (.bool false)], args := [d1, d2, d3] }
  | _ => none }
def FnExactPartsAtWrongFalsely : Prop := fnExactPartsAtRow.holds Try.pinned (OpenSpec.ofChange fnExactPartsAtWrong)

/-- 'laws.FnAlike': WHATEVER THE INPUT: true; the input reads as it did. -/
def fnAlikeSpec : ChangeSpec := { name := "fnAlike", fn := fun _ => fun
  | [d] => { results := [.lit (.bool true)], args := [d] }
  | _ => none }
def fnAlikeRow : OpenClaim := { program := "yteaahdakammffaa", sum := "c4d857f985ce98564676f57aa07ab5c268422d61159d5df8e0ac8b99a8219d6b", func := "loop.example/g00910/laws.FnAlike", spec := "fnAlike", unfollowed := true, recurses := true, apart := false }
def FnAlikeSaid : Prop := fnAlikeRow.holds Try.pinned (OpenSpec.ofChange fnAlikeSpec)

/-- ITS FALSE NEIGHBOUR: 'it returns false'. Refute it at one input. -/
def fnAlikeWrong : ChangeSpec := { name := "fnAlike", fn := fun _ => fun
  | [d] => { results := [.lit (.bool false)], args := [d] }
  | _ => none }
def FnAlikeWrongFalsely : Prop := fnAlikeRow.holds Try.pinned (OpenSpec.ofChange fnAlikeWrong)

/-- 'laws.FnExactWinsOf': WHATEVER THE INPUT: true; the input reads as it did. -/
def fnExactWinsOfSpec : ChangeSpec := { name := "fnExactWinsOf", fn := fun _ => fun
  | [d1, d2, d3, d4, d5] => { results := [.lit (.bool true)], args := [d1, d2, d3, d4, d5] }
  | _ => none }
def fnExactWinsOfRow : OpenClaim := { program := "yteaahdakammffaa", sum := "c4d857f985ce98564676f57aa07ab5c268422d61159d5df8e0ac8b99a8219d6b", func := "loop.example/g00910/laws.FnExactWinsOf", spec := "fnExactWinsOf", unfollowed := true, recurses := true, apart := false }
def FnExactWinsOfSaid : Prop := fnExactWinsOfRow.holds Try.pinned (OpenSpec.ofChange fnExactWinsOfSpec)

/-- ITS FALSE NEIGHBOUR: 'it returns false'. Refute it at one input. -/
def fnExactWinsOfWrong : ChangeSpec := { name := "fnExactWinsOf", fn := fun _ => fun
  | [d1, d2, d3, d4, d5] => { results := [.lit (.bool false)], args := [d1, d2, d3, d4, d5] }
  | _ => none }
def FnExactWinsOfWrongFalsely : Prop := fnExactWinsOfRow.holds Try.pinned (OpenSpec.ofChange fnExactWinsOfWrong)

/-- 'laws.FnExactOutsOf': WHATEVER THE INPUT: true; the input reads as it did. -/
def fnExactOutsOfSpec : ChangeSpec := { name := "fnExactOutsOf", fn := fun _ => fun
  | [d1, d2, d3, d4, d5] => { results := [.lit (.bool true)], args := [d1, d2, d3, d4, d5] }
  | _ => none }
def fnExactOutsOfRow : OpenClaim := { program := "yteaahdakammffaa", sum := "c4d857f985ce98564676f57aa07ab5c268422d61159d5df8e0ac8b99a8219d6b", func := "loop.example/g00910/laws.FnExactOutsOf", spec := "fnExactOutsOf", unfollowed := true, recurses := true, apart := false }
def FnExactOutsOfSaid : Prop := fnExactOutsOfRow.holds Try.pinned (OpenSpec.ofChange fnExactOutsOfSpec)

/-- ITS FALSE NEIGHBOUR: 'it returns false'. Refute it at one input. -/
def fnExactOutsOfWrong : ChangeSpec := { name := "fnExactOutsOf", fn := fun _ => fun
  | [d1, d2, d3, d4, d5] => { results := [.lit (.bool false)], args := [d1, d2, d3, d4, d5] }
  | _ => none }
def FnExactOutsOfWrongFalsely : Prop := fnExactOutsOfRow.holds Try.pinned (OpenSpec.ofChange fnExactOutsOfWrong)

/- THE SECOND FORM. 'bulk': how many values and letters a reading holds, each counted each time it is reached (what is shared counts as often as it is met; a slice's spare places count too). A statement '..UptoSaid' is the law's where the arguments, and the package variables that the reading takes, are together of bulk at most 1048576: NARROWER than '..Said'. Prove '..Said' where nothing that the law and all that it calls make is longer than what came in: it says more and counts as full. Else prove '..UptoSaid'. A law counts once. -/
mutual
def uptoBulk {H : Type} : DataW H → Nat
  | .lit (.string bytes) => bytes.length + 1
  | .lit _ => 1
  | .nil => 1
  | .ptr d => uptoBulk d + 1
  | .slice elems spare => uptoBulkAll elems + uptoBulkAll spare + 1
  | .agg parts => uptoBulkAll parts + 1
  | .iface _ d => uptoBulk d + 1
  | .map entries => uptoBulkEntries entries + 1
  | .held _ => 1
def uptoBulkAll {H : Type} : List (DataW H) → Nat
  | [] => 0
  | d :: r => uptoBulk d + uptoBulkAll r
def uptoBulkEntries {H : Type} : List (Lit × DataW H) → Nat
  | [] => 0
  | x :: r => uptoBulkEntry x + uptoBulkEntries r
def uptoBulkEntry {H : Type} : Lit × DataW H → Nat
  | (.string bytes, d) => bytes.length + uptoBulk d + 1
  | (_, d) => uptoBulk d + 1
 end
def uptoSmall : (H : Type) → List (DataW H) → Bool := fun _ ds => decide (uptoBulkAll ds ≤ 1048576)
def OpenSpec.upto (s : _root_.Go.ChangeSpec) : _root_.Go.OpenSpec := { _root_.Go.OpenSpec.ofChange s with cond := some uptoSmall }

/-- 'laws.FnExactLeaderOf', WHERE WHAT IT READS IS OF BULK AT MOST 1048576: true; the input reads as it did. -/
def fnExactLeaderOfUptoRow : OpenClaim := { program := "yteaahdakammffaa", sum := "c4d857f985ce98564676f57aa07ab5c268422d61159d5df8e0ac8b99a8219d6b", func := "loop.example/g00910/laws.FnExactLeaderOf", spec := "fnExactLeaderOf", unfollowed := true, recurses := true, apart := false, narrowed := true }
def FnExactLeaderOfUptoSaid : Prop := fnExactLeaderOfUptoRow.holds Try.pinned (OpenSpec.upto fnExactLeaderOfSpec)

/-- 'laws.FnOuts', WHERE WHAT IT READS IS OF BULK AT MOST 1048576: true; the input reads as it did. -/
def fnOutsUptoRow : OpenClaim := { program := "yteaahdakammffaa", sum := "c4d857f985ce98564676f57aa07ab5c268422d61159d5df8e0ac8b99a8219d6b", func := "loop.example/g00910/laws.FnOuts", spec := "fnOuts", unfollowed := true, recurses := true, apart := false, narrowed := true }
def FnOutsUptoSaid : Prop := fnOutsUptoRow.holds Try.pinned (OpenSpec.upto fnOutsSpec)

/-- 'laws.FnSameDeals', WHERE WHAT IT READS IS OF BULK AT MOST 1048576: true; the input reads as it did. -/
def fnSameDealsUptoRow : OpenClaim := { program := "yteaahdakammffaa", sum := "c4d857f985ce98564676f57aa07ab5c268422d61159d5df8e0ac8b99a8219d6b", func := "loop.example/g00910/laws.FnSameDeals", spec := "fnSameDeals", unfollowed := true, recurses := true, apart := false, narrowed := true }
def FnSameDealsUptoSaid : Prop := fnSameDealsUptoRow.holds Try.pinned (OpenSpec.upto fnSameDealsSpec)

/-- 'laws.FnExchanges', WHERE WHAT IT READS IS OF BULK AT MOST 1048576: true; the input reads as it did. -/
def fnExchangesUptoRow : OpenClaim := { program := "yteaahdakammffaa", sum := "c4d857f985ce98564676f57aa07ab5c268422d61159d5df8e0ac8b99a8219d6b", func := "loop.example/g00910/laws.FnExchanges", spec := "fnExchanges", unfollowed := true, recurses := true, apart := false, narrowed := true }
def FnExchangesUptoSaid : Prop := fnExchangesUptoRow.holds Try.pinned (OpenSpec.upto fnExchangesSpec)

/-- 'laws.FnExactNextClasses', WHERE WHAT IT READS IS OF BULK AT MOST 1048576: true; the input reads as it did. -/
def fnExactNextClassesUptoRow : OpenClaim := { program := "yteaahdakammffaa", sum := "c4d857f985ce98564676f57aa07ab5c268422d61159d5df8e0ac8b99a8219d6b", func := "loop.example/g00910/laws.FnExactNextClasses", spec := "fnExactNextClasses", unfollowed := true, recurses := true, apart := false, narrowed := true }
def FnExactNextClassesUptoSaid : Prop := fnExactNextClassesUptoRow.holds Try.pinned (OpenSpec.upto fnExactNextClassesSpec)

/-- 'laws.FnExactPartsAt', WHERE WHAT IT READS IS OF BULK AT MOST 1048576: true; the input reads as it did. -/
def fnExactPartsAtUptoRow : OpenClaim := { program := "yteaahdakammffaa", sum := "c4d857f985ce98564676f57aa07ab5c268422d61159d5df8e0ac8b99a8219d6b", func := "loop.example/g00910/laws.FnExactPartsAt", spec := "fnExactPartsAt", unfollowed := true, recurses := true, apart := false, narrowed := true }
def FnExactPartsAtUptoSaid : Prop := fnExactPartsAtUptoRow.holds Try.pinned (OpenSpec.upto fnExactPartsAtSpec)

/-- 'laws.FnAlike', WHERE WHAT IT READS IS OF BULK AT MOST 1048576: true; the input reads as it did. -/
def fnAlikeUptoRow : OpenClaim := { program := "yteaahdakammffaa", sum := "c4d857f985ce98564676f57aa07ab5c268422d61159d5df8e0ac8b99a8219d6b", func := "loop.example/g00910/laws.FnAlike", spec := "fnAlike", unfollowed := true, recurses := true, apart := false, narrowed := true }
def FnAlikeUptoSaid : Prop := fnAlikeUptoRow.holds Try.pinned (OpenSpec.upto fnAlikeSpec)

/-- 'laws.FnExactWinsOf', WHERE WHAT IT READS IS OF BULK AT MOST 1048576: true; the input reads as it did. -/
def fnExactWinsOfUptoRow : OpenClaim := { program := "yteaahdakammffaa", sum := "c4d857f985ce98564676f57aa07ab5c268422d61159d5df8e0ac8b99a8219d6b", func := "loop.example/g00910/laws.FnExactWinsOf", spec := "fnExactWinsOf", unfollowed := true, recurses := true, apart := false, narrowed := true }
def FnExactWinsOfUptoSaid : Prop := fnExactWinsOfUptoRow.holds Try.pinned (OpenSpec.upto fnExactWinsOfSpec)

/-- 'laws.FnExactOutsOf', WHERE WHAT IT READS IS OF BULK AT MOST 1048576: true; the input reads as it did. -/
def fnExactOutsOfUptoRow : OpenClaim := { program := "yteaahdakammffaa", sum := "c4d857f985ce98564676f57aa07ab5c268422d61159d5df8e0ac8b99a8219d6b", func := "loop.example/g00910/laws.FnExactOutsOf", spec := "fnExactOutsOf", unfollowed := true, recurses := true, apart := false, narrowed := true }
def FnExactOutsOfUptoSaid : Prop := fnExactOutsOfUptoRow.holds Try.pinned (OpenSpec.upto fnExactOutsOfSpec)

end Rows
end Go.Proofs.Yteaahdakammffaa
