/-
  No cell of these rows narrows 'for every input' (looked for: loops, veiled, ifaces, maps, wideKeys, modest, calm, conditions, laid).
  DERIVED. THE GIVEN ROWS OF THIS SEAT. 5 by the template 'for every input the law returns true; each argument reads behind the call as it read before'; 0 by the template 'total and deterministic' (their statements: YtofkhnipfhcaiaaTotals.lean).
  GIVEN WITH THE SEED: the statements are not yours to turn. If you find one false, say at which input.
  Laid BY PROGRAM, IN A SANDBOX (cutbox-rows.mjs): the forced cells as the released guide's own fill.sh prints them over the translation 50e972a06826b3bb… (all of the seat's roots in one cut). By AI agents, Wed Nov 11 2026. No macro, syntax, notation, axiom, sorry.
-/
import Derived.Test.YtofkhnipfhcaiaaChecked
import GoSem.Claim
import GoSem.ClaimJoined
import GoSem.ClaimMapViews
import Derived.JoinedTies
import Derived.KernelRfl
namespace Go.Proofs.Ytofkhnipfhcaiaa
/- THE CELL 'sum', in the pinned program and in every row, IS THE sha256 OF THE DUMP (.gsa) THAT YtofkhnipfhcaiaaProg.lean LOADS. Nothing in Lean hashes anything: it is a label: what it is worth is what the hold of that sum in a sandbox is worth. -/
noncomputable def Try.pinned : Pinned := { name := "ytofkhnipfhcaiaa", sum := "50e972a06826b3bb18b79a5c063c57e1a64a1fbf30e3dcc1fd7d44d43a857232", checked := Try.checked }
namespace Rows
def none {H : Type} : Left H := { results := [], args := [] }

/-- 'laws.FnExactDealNumber': WHATEVER THE INPUT: true; the input reads as it did. -/
def fnExactDealNumberSpec : ChangeSpec := { name := "fnExactDealNumber", fn := fun _ => fun
  | [d1, d2, d3, d4, d5] => { results := [.lit (.bool true)], args := [d1, d2, d3, d4, d5] }
  | _ => none }
def fnExactDealNumberRow : OpenClaim := { program := "ytofkhnipfhcaiaa", sum := "50e972a06826b3bb18b79a5c063c57e1a64a1fbf30e3dcc1fd7d44d43a857232", func := "loop.example/g00910/laws.FnExactDealNumber", spec := "fnExactDealNumber", recurses := true, apart := false }
def FnExactDealNumberSaid : Prop := fnExactDealNumberRow.holds Try.pinned (OpenSpec.ofChange fnExactDealNumberSpec)

/-- ITS FALSE NEIGHBOUR: 'it returns false'. Refute it at one input. -/
def fnExactDealNumberWrong : ChangeSpec := { name := "fnExactDealNumber", fn := fun _ => fun
  | [d1, d2, d3, d4, d5] => { results := [.lit (.bool false)], args := [d1, d2, d3, d4, d5] }
  | _ => none }
def FnExactDealNumberWrongFalsely : Prop := fnExactDealNumberRow.holds Try.pinned (OpenSpec.ofChange fnExactDealNumberWrong)

/-- 'laws.FnExactGameNumber': WHATEVER THE INPUT: true; the input reads as it did. -/
def fnExactGameNumberSpec : ChangeSpec := { name := "fnExactGameNumber", fn := fun _ => fun
  | [d1, d2, d3] => { results := [.lit (.bool true)], args := [d1, d2, d3] }
  | _ => none }
def fnExactGameNumberRow : OpenClaim := { program := "ytofkhnipfhcaiaa", sum := "50e972a06826b3bb18b79a5c063c57e1a64a1fbf30e3dcc1fd7d44d43a857232", func := "loop.example/g00910/laws.FnExactGameNumber", spec := "fnExactGameNumber", recurses := true, apart := false }
def FnExactGameNumberSaid : Prop := fnExactGameNumberRow.holds Try.pinned (OpenSpec.ofChange fnExactGameNumberSpec)

/-- ITS FALSE NEIGHBOUR: 'it returns false'. Refute it at one input. -/
def fnExactGameNumberWrong : ChangeSpec := { name := "fnExactGameNumber", fn := fun _ => fun
  | [d1, d2, d3] => { results := [.lit (.bool false)], args := [d1, d2, d3] }
  | _ => none }
def FnExactGameNumberWrongFalsely : Prop := fnExactGameNumberRow.holds Try.pinned (OpenSpec.ofChange fnExactGameNumberWrong)

/-- 'laws.FnExactMixStrategies': WHATEVER THE INPUT: true; the input reads as it did. -/
def fnExactMixStrategiesSpec : ChangeSpec := { name := "fnExactMixStrategies", fn := fun _ => fun
  | [d1, d2, d3, d4] => { results := [.lit (.bool true)], args := [d1, d2, d3, d4] }
  | _ => none }
def fnExactMixStrategiesRow : OpenClaim := { program := "ytofkhnipfhcaiaa", sum := "50e972a06826b3bb18b79a5c063c57e1a64a1fbf30e3dcc1fd7d44d43a857232", func := "loop.example/g00910/laws.FnExactMixStrategies", spec := "fnExactMixStrategies", recurses := true, apart := false }
def FnExactMixStrategiesSaid : Prop := fnExactMixStrategiesRow.holds Try.pinned (OpenSpec.ofChange fnExactMixStrategiesSpec)

/-- ITS FALSE NEIGHBOUR: 'it returns false'. Refute it at one input. -/
def fnExactMixStrategiesWrong : ChangeSpec := { name := "fnExactMixStrategies", fn := fun _ => fun
  | [d1, d2, d3, d4] => { results := [.lit (.bool false)], args := [d1, d2, d3, d4] }
  | _ => none }
def FnExactMixStrategiesWrongFalsely : Prop := fnExactMixStrategiesRow.holds Try.pinned (OpenSpec.ofChange fnExactMixStrategiesWrong)

/-- 'laws.FnExactEndNumbers': WHATEVER THE INPUT: true; the input reads as it did. -/
def fnExactEndNumbersSpec : ChangeSpec := { name := "fnExactEndNumbers", fn := fun _ => fun
  | [d1, d2, d3] => { results := [.lit (.bool true)], args := [d1, d2, d3] }
  | _ => none }
def fnExactEndNumbersRow : OpenClaim := { program := "ytofkhnipfhcaiaa", sum := "50e972a06826b3bb18b79a5c063c57e1a64a1fbf30e3dcc1fd7d44d43a857232", func := "loop.example/g00910/laws.FnExactEndNumbers", spec := "fnExactEndNumbers", recurses := true, apart := false }
def FnExactEndNumbersSaid : Prop := fnExactEndNumbersRow.holds Try.pinned (OpenSpec.ofChange fnExactEndNumbersSpec)

/-- ITS FALSE NEIGHBOUR: 'it returns false'. Refute it at one input. -/
def fnExactEndNumbersWrong : ChangeSpec := { name := "fnExactEndNumbers", fn := fun _ => fun
  | [d1, d2, d3] => { results := [.lit (.bool false)], args := [d1, d2, d3] }
  | _ => none }
def FnExactEndNumbersWrongFalsely : Prop := fnExactEndNumbersRow.holds Try.pinned (OpenSpec.ofChange fnExactEndNumbersWrong)

/-- 'laws.FnExactValueRatio': WHATEVER THE INPUT: true; the input reads as it did. -/
def fnExactValueRatioSpec : ChangeSpec := { name := "fnExactValueRatio", fn := fun _ => fun
  | [d1, d2, d3] => { results := [.lit (.bool true)], args := [d1, d2, d3] }
  | _ => none }
def fnExactValueRatioRow : OpenClaim := { program := "ytofkhnipfhcaiaa", sum := "50e972a06826b3bb18b79a5c063c57e1a64a1fbf30e3dcc1fd7d44d43a857232", func := "loop.example/g00910/laws.FnExactValueRatio", spec := "fnExactValueRatio", recurses := true, apart := false }
def FnExactValueRatioSaid : Prop := fnExactValueRatioRow.holds Try.pinned (OpenSpec.ofChange fnExactValueRatioSpec)

/-- ITS FALSE NEIGHBOUR: 'it returns false'. Refute it at one input. -/
def fnExactValueRatioWrong : ChangeSpec := { name := "fnExactValueRatio", fn := fun _ => fun
  | [d1, d2, d3] => { results := [.lit (.bool false)], args := [d1, d2, d3] }
  | _ => none }
def FnExactValueRatioWrongFalsely : Prop := fnExactValueRatioRow.holds Try.pinned (OpenSpec.ofChange fnExactValueRatioWrong)

/- THE SECOND FORM. 'bulk': how many values and letters a reading holds, each counted each time it is reached (what is shared counts as often as it is met; a slice's spare places count too). A statement '..UptoSaid' is the law's where the arguments, and the package variables that the reading takes, are together of bulk at most 1048576: NARROWER than '..Said'. Prove '..Said' where nothing that the law and all that it calls make is longer than what came in: it says more and counts as full. Else prove '..UptoSaid'. A law counts once. -/
mutual
def uptoBulk {H : Type} : DataW H → Nat
  | .lit (.string bytes) => bytes.length + 1
  | .lit _ => 1
  | .nil => 1
  | .ptr d => uptoBulk d + 1
  | .slice elems spare => uptoBulkAll elems + uptoBulkAll spare + 1
  | .agg parts => uptoBulkAll parts + 1
  | .iface _ d => uptoBulk d + 1
  | .map entries => uptoBulkEntries entries + 1
  | .held _ => 1
def uptoBulkAll {H : Type} : List (DataW H) → Nat
  | [] => 0
  | d :: r => uptoBulk d + uptoBulkAll r
def uptoBulkEntries {H : Type} : List (Lit × DataW H) → Nat
  | [] => 0
  | x :: r => uptoBulkEntry x + uptoBulkEntries r
def uptoBulkEntry {H : Type} : Lit × DataW H → Nat
  | (.string bytes, d) => bytes.length + uptoBulk d + 1
  | (_, d) => uptoBulk d + 1
 end
def uptoSmall : (H : Type) → List (DataW H) → Bool := fun _ ds => decide (uptoBulkAll ds ≤ 1048576)
def OpenSpec.upto (s : _root_.Go.ChangeSpec) : _root_.Go.OpenSpec := { _root_.Go.OpenSpec.ofChange s with cond := some uptoSmall }

/-- 'laws.FnExactDealNumber', WHERE WHAT IT READS IS OF BULK AT MOST 1048576: true; the input reads as it did. -/
def fnExactDealNumberUptoRow : OpenClaim := { program := "ytofkhnipfhcaiaa", sum := "50e972a06826b3bb18b79a5c063c57e1a64a1fbf30e3dcc1fd7d44d43a857232", func := "loop.example/g00910/laws.FnExactDealNumber", spec := "fnExactDealNumber", recurses := true, apart := false, narrowed := true }
def FnExactDealNumberUptoSaid : Prop := fnExactDealNumberUptoRow.holds Try.pinned (OpenSpec.upto fnExactDealNumberSpec)

/-- 'laws.FnExactGameNumber', WHERE WHAT IT READS IS OF BULK AT MOST 1048576: true; the input reads as it did. -/
def fnExactGameNumberUptoRow : OpenClaim := { program := "ytofkhnipfhcaiaa", sum := "50e972a06826b3bb18b79a5c063c57e1a64a1fbf30e3dcc1fd7d44d43a857232", func := "loop.example/g00910/laws.FnExactGameNumber", spec := "fnExactGameNumber", recurses := true, apart := false, narrowed := true }
def FnExactGameNumberUptoSaid : Prop := fnExactGameNumberUptoRow.holds Try.pinned (OpenSpec.upto fnExactGameNumberSpec)

/-- 'laws.FnExactMixStrategies', WHERE WHAT IT READS IS OF BULK AT MOST 1048576: true; the input reads as it did. -/
def fnExactMixStrategiesUptoRow : OpenClaim := { program := "ytofkhnipfhcaiaa", sum := "50e972a06826b3bb18b79a5c063c57e1a64a1fbf30e3dcc1fd7d44d43a857232", func := "loop.example/g00910/laws.FnExactMixStrategies", spec := "fnExactMixStrategies", recurses := true, apart := false, narrowed := true }
def FnExactMixStrategiesUptoSaid : Prop := fnExactMixStrategiesUptoRow.holds Try.pinned (OpenSpec.upto fnExactMixStrategiesSpec)

/-- 'laws.FnExactEndNumbers', WHERE WHAT IT READS IS OF BULK AT MOST 1048576: true; the input reads as it did. -/
def fnExactEndNumbersUptoRow : OpenClaim := { program := "ytofkhnipfhcaiaa", sum := "50e972a06826b3bb18b79a5c063c57e1a64a1fbf30e3dcc1fd7d44d43a857232", func := "loop.example/g00910/laws.FnExactEndNumbers", spec := "fnExactEndNumbers", recurses := true, apart := false, narrowed := true }
def FnExactEndNumbersUptoSaid : Prop := fnExactEndNumbersUptoRow.holds Try.pinned (OpenSpec.upto fnExactEndNumbersSpec)

/-- 'laws.FnExactValueRatio', WHERE WHAT IT READS IS OF BULK AT MOST 1048576: true; the input reads as it did. -/
def fnExactValueRatioUptoRow : OpenClaim := { program := "ytofkhnipfhcaiaa", sum := "50e972a06826b3bb18b79a5c063c57e1a64a1fbf30e3dcc1fd7d44d43a857232", func := "loop.example/g00910/laws.FnExactValueRatio", spec := "fnExactValueRatio", recurses := true, apart := false, narrowed := true }
def FnExactValueRatioUptoSaid : Prop := fnExactValueRatioUptoRow.holds Try.pinned (OpenSpec.upto fnExactValueRatioSpec)

end Rows
end Go.Proofs.Ytofkhnipfhcaiaa
