/-
  No cell of these rows narrows 'for every input' (looked for: loops, veiled, ifaces, maps, wideKeys, modest, calm, conditions, laid).
  DERIVED. THE GIVEN ROWS OF THIS SEAT. 11 by the template 'for every input the law returns true; each argument reads behind the call as it read before'; 0 by the template 'total and deterministic' (their statements: YtglhfigmenljoaaTotals.lean).
  GIVEN WITH THE SEED: the statements are not yours to turn. If you find one false, say at which input.
  Laid BY PROGRAM, IN A SANDBOX (cutbox-rows.mjs): the forced cells as the released guide's own fill.sh prints them over the translation 672050605ccf0549… (all of the seat's roots in one cut). By AI agents, Wed Nov 11 2026. No macro, syntax, notation, axiom, sorry.
-/
import Derived.Test.YtglhfigmenljoaaChecked
import GoSem.Claim
import GoSem.ClaimJoined
import GoSem.ClaimMapViews
import Derived.JoinedTies
import Derived.KernelRfl
namespace Go.Proofs.Ytglhfigmenljoaa
/- THE CELL 'sum', in the pinned program and in every row, IS THE sha256 OF THE DUMP (.gsa) THAT YtglhfigmenljoaaProg.lean LOADS. Nothing in Lean hashes anything: it is a label: what it is worth is what the hold of that sum in a sandbox is worth. -/
noncomputable def Try.pinned : Pinned := { name := "ytglhfigmenljoaa", sum := "672050605ccf05498e4afdec8fdb835bca1bc8a41e0324f3270eee84a6479343", checked := Try.checked }
namespace Rows
def none {H : Type} : Left H := { results := [], args := [] }

/-- 'laws.FnExactGeometricBet': WHATEVER THE INPUT: true; the input reads as it did. -/
def fnExactGeometricBetSpec : ChangeSpec := { name := "fnExactGeometricBet", fn := fun _ => fun
  | [d1, d2, d3] => { results := [.lit (.bool true)], args := [d1, d2, d3] }
  | _ => none }
def fnExactGeometricBetRow : OpenClaim := { program := "ytglhfigmenljoaa", sum := "672050605ccf05498e4afdec8fdb835bca1bc8a41e0324f3270eee84a6479343", func := "loop.example/g00910/laws.FnExactGeometricBet", spec := "fnExactGeometricBet", apart := false }
def FnExactGeometricBetSaid : Prop := fnExactGeometricBetRow.holds Try.pinned (OpenSpec.ofChange fnExactGeometricBetSpec)

/-- ITS FALSE NEIGHBOUR: 'it returns false'. Refute it at one input. -/
def fnExactGeometricBetWrong : ChangeSpec := { name := "fnExactGeometricBet", fn := fun _ => fun
  | [d1, d2, d3] => { results := [.lit (.bool false)], args := [d1, d2, d3] }
  | _ => none }
def FnExactGeometricBetWrongFalsely : Prop := fnExactGeometricBetRow.holds Try.pinned (OpenSpec.ofChange fnExactGeometricBetWrong)

/-- 'laws.FnExactBluffShare': WHATEVER THE INPUT: true; the input reads as it did. -/
def fnExactBluffShareSpec : ChangeSpec := { name := "fnExactBluffShare", fn := fun _ => fun
  | [d1, d2] => { results := [.lit (.bool true)], args := [d1, d2] }
  | _ => none }
def fnExactBluffShareRow : OpenClaim := { program := "ytglhfigmenljoaa", sum := "672050605ccf05498e4afdec8fdb835bca1bc8a41e0324f3270eee84a6479343", func := "loop.example/g00910/laws.FnExactBluffShare", spec := "fnExactBluffShare", recurses := true, apart := false }
def FnExactBluffShareSaid : Prop := fnExactBluffShareRow.holds Try.pinned (OpenSpec.ofChange fnExactBluffShareSpec)

/-- ITS FALSE NEIGHBOUR: 'it returns false'. Refute it at one input. -/
def fnExactBluffShareWrong : ChangeSpec := { name := "fnExactBluffShare", fn := fun _ => fun
  | [d1, d2] => { results := [.lit (.bool false)], args := [d1, d2] }
  | _ => none }
def FnExactBluffShareWrongFalsely : Prop := fnExactBluffShareRow.holds Try.pinned (OpenSpec.ofChange fnExactBluffShareWrong)

/-- 'laws.FnExactPotOdds': WHATEVER THE INPUT: true; the input reads as it did. -/
def fnExactPotOddsSpec : ChangeSpec := { name := "fnExactPotOdds", fn := fun _ => fun
  | [d1, d2] => { results := [.lit (.bool true)], args := [d1, d2] }
  | _ => none }
def fnExactPotOddsRow : OpenClaim := { program := "ytglhfigmenljoaa", sum := "672050605ccf05498e4afdec8fdb835bca1bc8a41e0324f3270eee84a6479343", func := "loop.example/g00910/laws.FnExactPotOdds", spec := "fnExactPotOdds", recurses := true, apart := false }
def FnExactPotOddsSaid : Prop := fnExactPotOddsRow.holds Try.pinned (OpenSpec.ofChange fnExactPotOddsSpec)

/-- ITS FALSE NEIGHBOUR: 'it returns false'. Refute it at one input. -/
def fnExactPotOddsWrong : ChangeSpec := { name := "fnExactPotOdds", fn := fun _ => fun
  | [d1, d2] => { results := [.lit (.bool false)], args := [d1, d2] }
  | _ => none }
def FnExactPotOddsWrongFalsely : Prop := fnExactPotOddsRow.holds Try.pinned (OpenSpec.ofChange fnExactPotOddsWrong)

/-- 'laws.FnExactStackToPot': WHATEVER THE INPUT: true; the input reads as it did. -/
def fnExactStackToPotSpec : ChangeSpec := { name := "fnExactStackToPot", fn := fun _ => fun
  | [d1, d2] => { results := [.lit (.bool true)], args := [d1, d2] }
  | _ => none }
def fnExactStackToPotRow : OpenClaim := { program := "ytglhfigmenljoaa", sum := "672050605ccf05498e4afdec8fdb835bca1bc8a41e0324f3270eee84a6479343", func := "loop.example/g00910/laws.FnExactStackToPot", spec := "fnExactStackToPot", recurses := true, apart := false }
def FnExactStackToPotSaid : Prop := fnExactStackToPotRow.holds Try.pinned (OpenSpec.ofChange fnExactStackToPotSpec)

/-- ITS FALSE NEIGHBOUR: 'it returns false'. Refute it at one input. -/
def fnExactStackToPotWrong : ChangeSpec := { name := "fnExactStackToPot", fn := fun _ => fun
  | [d1, d2] => { results := [.lit (.bool false)], args := [d1, d2] }
  | _ => none }
def FnExactStackToPotWrongFalsely : Prop := fnExactStackToPotRow.holds Try.pinned (OpenSpec.ofChange fnExactStackToPotWrong)

/-- 'laws.FnGeometric': WHATEVER THE INPUT: true; the input reads as it did. -/
def fnGeometricSpec : ChangeSpec := { name := "fnGeometric", fn := fun _ => fun
  | [d] => { results := [.lit (.bool true)], args := [d] }
  | _ => none }
def fnGeometricRow : OpenClaim := { program := "ytglhfigmenljoaa", sum := "672050605ccf05498e4afdec8fdb835bca1bc8a41e0324f3270eee84a6479343", func := "loop.example/g00910/laws.FnGeometric", spec := "fnGeometric", apart := false }
def FnGeometricSaid : Prop := fnGeometricRow.holds Try.pinned (OpenSpec.ofChange fnGeometricSpec)

/-- ITS FALSE NEIGHBOUR: 'it returns false'. Refute it at one input. -/
def fnGeometricWrong : ChangeSpec := { name := "fnGeometric", fn := fun _ => fun
  | [d] => { results := [.lit (.bool false)], args := [d] }
  | _ => none }
def FnGeometricWrongFalsely : Prop := fnGeometricRow.holds Try.pinned (OpenSpec.ofChange fnGeometricWrong)

/-- 'laws.FnExactBreakEvenFolds': WHATEVER THE INPUT: true; the input reads as it did. -/
def fnExactBreakEvenFoldsSpec : ChangeSpec := { name := "fnExactBreakEvenFolds", fn := fun _ => fun
  | [d1, d2] => { results := [.lit (.bool true)], args := [d1, d2] }
  | _ => none }
def fnExactBreakEvenFoldsRow : OpenClaim := { program := "ytglhfigmenljoaa", sum := "672050605ccf05498e4afdec8fdb835bca1bc8a41e0324f3270eee84a6479343", func := "loop.example/g00910/laws.FnExactBreakEvenFolds", spec := "fnExactBreakEvenFolds", recurses := true, apart := false }
def FnExactBreakEvenFoldsSaid : Prop := fnExactBreakEvenFoldsRow.holds Try.pinned (OpenSpec.ofChange fnExactBreakEvenFoldsSpec)

/-- ITS FALSE NEIGHBOUR: 'it returns false'. Refute it at one input. -/
def fnExactBreakEvenFoldsWrong : ChangeSpec := { name := "fnExactBreakEvenFolds", fn := fun _ => fun
  | [d1, d2] => { results := [.lit (.bool false)], args := [d1, d2] }
  | _ => none }
def FnExactBreakEvenFoldsWrongFalsely : Prop := fnExactBreakEvenFoldsRow.holds Try.pinned (OpenSpec.ofChange fnExactBreakEvenFoldsWrong)

/-- 'laws.FnExactDefenceShare': WHATEVER THE INPUT: true; the input reads as it did. -/
def fnExactDefenceShareSpec : ChangeSpec := { name := "fnExactDefenceShare", fn := fun _ => fun
  | [d1, d2] => { results := [.lit (.bool true)], args := [d1, d2] }
  | _ => none }
def fnExactDefenceShareRow : OpenClaim := { program := "ytglhfigmenljoaa", sum := "672050605ccf05498e4afdec8fdb835bca1bc8a41e0324f3270eee84a6479343", func := "loop.example/g00910/laws.FnExactDefenceShare", spec := "fnExactDefenceShare", recurses := true, apart := false }
def FnExactDefenceShareSaid : Prop := fnExactDefenceShareRow.holds Try.pinned (OpenSpec.ofChange fnExactDefenceShareSpec)

/-- ITS FALSE NEIGHBOUR: 'it returns false'. Refute it at one input. -/
def fnExactDefenceShareWrong : ChangeSpec := { name := "fnExactDefenceShare", fn := fun _ => fun
  | [d1, d2] => { results := [.lit (.bool false)], args := [d1, d2] }
  | _ => none }
def FnExactDefenceShareWrongFalsely : Prop := fnExactDefenceShareRow.holds Try.pinned (OpenSpec.ofChange fnExactDefenceShareWrong)

/-- 'laws.FnExactCallValue': WHATEVER THE INPUT: true; the input reads as it did. -/
def fnExactCallValueSpec : ChangeSpec := { name := "fnExactCallValue", fn := fun _ => fun
  | [d1, d2, d3] => { results := [.lit (.bool true)], args := [d1, d2, d3] }
  | _ => none }
def fnExactCallValueRow : OpenClaim := { program := "ytglhfigmenljoaa", sum := "672050605ccf05498e4afdec8fdb835bca1bc8a41e0324f3270eee84a6479343", func := "loop.example/g00910/laws.FnExactCallValue", spec := "fnExactCallValue", recurses := true, apart := false }
def FnExactCallValueSaid : Prop := fnExactCallValueRow.holds Try.pinned (OpenSpec.ofChange fnExactCallValueSpec)

/-- ITS FALSE NEIGHBOUR: 'it returns false'. Refute it at one input. -/
def fnExactCallValueWrong : ChangeSpec := { name := "fnExactCallValue", fn := fun _ => fun
  | [d1, d2, d3] => { results := [.lit (.bool false)], args := [d1, d2, d3] }
  | _ => none }
def FnExactCallValueWrongFalsely : Prop := fnExactCallValueRow.holds Try.pinned (OpenSpec.ofChange fnExactCallValueWrong)

/-- 'laws.FnExactBetValue': WHATEVER THE INPUT: true; the input reads as it did. -/
def fnExactBetValueSpec : ChangeSpec := { name := "fnExactBetValue", fn := fun _ => fun
  | [d1, d2, d3, d4] => { results := [.lit (.bool true)], args := [d1, d2, d3, d4] }
  | _ => none }
def fnExactBetValueRow : OpenClaim := { program := "ytglhfigmenljoaa", sum := "672050605ccf05498e4afdec8fdb835bca1bc8a41e0324f3270eee84a6479343", func := "loop.example/g00910/laws.FnExactBetValue", spec := "fnExactBetValue", recurses := true, apart := false }
def FnExactBetValueSaid : Prop := fnExactBetValueRow.holds Try.pinned (OpenSpec.ofChange fnExactBetValueSpec)

/-- ITS FALSE NEIGHBOUR: 'it returns false'. Refute it at one input. -/
def fnExactBetValueWrong : ChangeSpec := { name := "fnExactBetValue", fn := fun _ => fun
  | [d1, d2, d3, d4] => { results := [.lit (.bool false)], args := [d1, d2, d3, d4] }
  | _ => none }
def FnExactBetValueWrongFalsely : Prop := fnExactBetValueRow.holds Try.pinned (OpenSpec.ofChange fnExactBetValueWrong)

/-- 'laws.FnOdds': WHATEVER THE INPUT: true; the input reads as it did. -/
def fnOddsSpec : ChangeSpec := { name := "fnOdds", fn := fun _ => fun
  | [d] => { results := [.lit (.bool true)], args := [d] }
  | _ => none }
def fnOddsRow : OpenClaim := { program := "ytglhfigmenljoaa", sum := "672050605ccf05498e4afdec8fdb835bca1bc8a41e0324f3270eee84a6479343", func := "loop.example/g00910/laws.FnOdds", spec := "fnOdds", recurses := true, apart := false }
def FnOddsSaid : Prop := fnOddsRow.holds Try.pinned (OpenSpec.ofChange fnOddsSpec)

/-- ITS FALSE NEIGHBOUR: 'it returns false'. Refute it at one input. -/
def fnOddsWrong : ChangeSpec := { name := "fnOdds", fn := fun _ => fun
  | [d] => { results := [.lit (.bool false)], args := [d] }
  | _ => none }
def FnOddsWrongFalsely : Prop := fnOddsRow.holds Try.pinned (OpenSpec.ofChange fnOddsWrong)

/-- 'laws.FnBets': WHATEVER THE INPUT: true; the input reads as it did. -/
def fnBetsSpec : ChangeSpec := { name := "fnBets", fn := fun _ => fun
  | [d] => { results := [.lit (.bool true)], args := [d] }
  | _ => none }
def fnBetsRow : OpenClaim := { program := "ytglhfigmenljoaa", sum := "672050605ccf05498e4afdec8fdb835bca1bc8a41e0324f3270eee84a6479343", func := "loop.example/g00910/laws.FnBets", spec := "fnBets", recurses := true, apart := false }
def FnBetsSaid : Prop := fnBetsRow.holds Try.pinned (OpenSpec.ofChange fnBetsSpec)

/-- ITS FALSE NEIGHBOUR: 'it returns false'. Refute it at one input. -/
def fnBetsWrong : ChangeSpec := { name := "fnBets", fn := fun _ => fun
  | [d] => { results := [.lit (.bool false)], args := [d] }
  | _ => none }
def FnBetsWrongFalsely : Prop := fnBetsRow.holds Try.pinned (OpenSpec.ofChange fnBetsWrong)

/- THE SECOND FORM. 'bulk': how many values and letters a reading holds, each counted each time it is reached (what is shared counts as often as it is met; a slice's spare places count too). A statement '..UptoSaid' is the law's where the arguments, and the package variables that the reading takes, are together of bulk at most 1048576: NARROWER than '..Said'. Prove '..Said' where nothing that the law and all that it calls make is longer than what came in: it says more and counts as full. Else prove '..UptoSaid'. A law counts once. -/
mutual
def uptoBulk {H : Type} : DataW H → Nat
  | .lit (.string bytes) => bytes.length + 1
  | .lit _ => 1
  | .nil => 1
  | .ptr d => uptoBulk d + 1
  | .slice elems spare => uptoBulkAll elems + uptoBulkAll spare + 1
  | .agg parts => uptoBulkAll parts + 1
  | .iface _ d => uptoBulk d + 1
  | .map entries => uptoBulkEntries entries + 1
  | .held _ => 1
def uptoBulkAll {H : Type} : List (DataW H) → Nat
  | [] => 0
  | d :: r => uptoBulk d + uptoBulkAll r
def uptoBulkEntries {H : Type} : List (Lit × DataW H) → Nat
  | [] => 0
  | x :: r => uptoBulkEntry x + uptoBulkEntries r
def uptoBulkEntry {H : Type} : Lit × DataW H → Nat
  | (.string bytes, d) => bytes.length + uptoBulk d + 1
  | (_, d) => uptoBulk d + 1
 end
def uptoSmall : (H : Type) → List (DataW H) → Bool := fun _ ds => decide (uptoBulkAll ds ≤ 1048576)
def OpenSpec.upto (s : _root_.Go.ChangeSpec) : _root_.Go.OpenSpec := { _root_.Go.OpenSpec.ofChange s with cond := some uptoSmall }

/-- 'laws.FnExactGeometricBet', WHERE WHAT IT READS IS OF BULK AT MOST 1048576: true; the input reads as it did. -/
def fnExactGeometricBetUptoRow : OpenClaim := { program := "ytglhfigmenljoaa", sum := "672050605ccf05498e4afdec8fdb835bca1bc8a41e0324f3270eee84a6479343", func := "loop.example/g00910/laws.FnExactGeometricBet", spec := "fnExactGeometricBet", apart := false, narrowed := true }
def FnExactGeometricBetUptoSaid : Prop := fnExactGeometricBetUptoRow.holds Try.pinned (OpenSpec.upto fnExactGeometricBetSpec)

/-- 'laws.FnExactBluffShare', WHERE WHAT IT READS IS OF BULK AT MOST 1048576: true; the input reads as it did. -/
def fnExactBluffShareUptoRow : OpenClaim := { program := "ytglhfigmenljoaa", sum := "672050605ccf05498e4afdec8fdb835bca1bc8a41e0324f3270eee84a6479343", func := "loop.example/g00910/laws.FnExactBluffShare", spec := "fnExactBluffShare", recurses := true, apart := false, narrowed := true }
def FnExactBluffShareUptoSaid : Prop := fnExactBluffShareUptoRow.holds Try.pinned (OpenSpec.upto fnExactBluffShareSpec)

/-- 'laws.FnExactPotOdds', WHERE WHAT IT READS IS OF BULK AT MOST 1048576: true; the input reads as it did. -/
def fnExactPotOddsUptoRow : OpenClaim := { program := "ytglhfigmenljoaa", sum := "672050605ccf05498e4afdec8fdb835bca1bc8a41e0324f3270eee84a6479343", func := "loop.example/g00910/laws.FnExactPotOdds", spec := "fnExactPotOdds", recurses := true, apart := false, narrowed := true }
def FnExactPotOddsUptoSaid : Prop := fnExactPotOddsUptoRow.holds Try.pinned (OpenSpec.upto fnExactPotOddsSpec)

/-- 'laws.FnExactStackToPot', WHERE WHAT IT READS IS OF BULK AT MOST 1048576: true; the input reads as it did. -/
def fnExactStackToPotUptoRow : OpenClaim := { program := "ytglhfigmenljoaa", sum := "672050605ccf05498e4afdec8fdb835bca1bc8a41e0324f3270eee84a6479343", func := "loop.example/g00910/laws.FnExactStackToPot", spec := "fnExactStackToPot", recurses := true, apart := false, narrowed := true }
def FnExactStackToPotUptoSaid : Prop := fnExactStackToPotUptoRow.holds Try.pinned (OpenSpec.upto fnExactStackToPotSpec)

/-- 'laws.FnGeometric', WHERE WHAT IT READS IS OF BULK AT MOST 1048576: true; the input reads as it did. -/
def fnGeometricUptoRow : OpenClaim := { program := "ytglhfigmenljoaa", sum := "672050605ccf05498e4afdec8fdb835bca1bc8a41e0324f3270eee84a6479343", func := "loop.example/g00910/laws.FnGeometric", spec := "fnGeometric", apart := false, narrowed := true }
def FnGeometricUptoSaid : Prop := fnGeometricUptoRow.holds Try.pinned (OpenSpec.upto fnGeometricSpec)

/-- 'laws.FnExactBreakEvenFolds', WHERE WHAT IT READS IS OF BULK AT MOST 1048576: true; the input reads as it did. -/
def fnExactBreakEvenFoldsUptoRow : OpenClaim := { program := "ytglhfigmenljoaa", sum := "672050605ccf05498e4afdec8fdb835bca1bc8a41e0324f3270eee84a6479343", func := "loop.example/g00910/laws.FnExactBreakEvenFolds", spec := "fnExactBreakEvenFolds", recurses := true, apart := false, narrowed := true }
def FnExactBreakEvenFoldsUptoSaid : Prop := fnExactBreakEvenFoldsUptoRow.holds Try.pinned (OpenSpec.upto fnExactBreakEvenFoldsSpec)

/-- 'laws.FnExactDefenceShare', WHERE WHAT IT READS IS OF BULK AT MOST 1048576: true; the input reads as it did. -/
def fnExactDefenceShareUptoRow : OpenClaim := { program := "ytglhfigmenljoaa", sum := "672050605ccf05498e4afdec8fdb835bca1bc8a41e0324f3270eee84a6479343", func := "loop.example/g00910/laws.FnExactDefenceShare", spec := "fnExactDefenceShare", recurses := true, apart := false, narrowed := true }
def FnExactDefenceShareUptoSaid : Prop := fnExactDefenceShareUptoRow.holds Try.pinned (OpenSpec.upto fnExactDefenceShareSpec)

/-- 'laws.FnExactCallValue', WHERE WHAT IT READS IS OF BULK AT MOST 1048576: true; the input reads as it did. -/
def fnExactCallValueUptoRow : OpenClaim := { program := "ytglhfigmenljoaa", sum := "672050605ccf05498e4afdec8fdb835bca1bc8a41e0324f3270eee84a6479343", func := "loop.example/g00910/laws.FnExactCallValue", spec := "fnExactCallValue", recurses := true, apart := false, narrowed := true }
def FnExactCallValueUptoSaid : Prop := fnExactCallValueUptoRow.holds Try.pinned (OpenSpec.upto fnExactCallValueSpec)

/-- 'laws.FnExactBetValue', WHERE WHAT IT READS IS OF BULK AT MOST 1048576: true; the input reads as it did. -/
def fnExactBetValueUptoRow : OpenClaim := { program := "ytglhfigmenljoaa", sum := "672050605ccf05498e4afdec8fdb835bca1bc8a41e0324f3270eee84a6479343", func := "loop.example/g00910/laws.FnExactBetValue", spec := "fnExactBetValue", recurses := true, apart := false, narrowed := true }
def FnExactBetValueUptoSaid : Prop := fnExactBetValueUptoRow.holds Try.pinned (OpenSpec.upto fnExactBetValueSpec)

/-- 'laws.FnOdds', WHERE WHAT IT READS IS OF BULK AT MOST 1048576: true; the input reads as it did. -/
def fnOddsUptoRow : OpenClaim := { program := "ytglhfigmenljoaa", sum := "672050605ccf05498e4afdec8fdb835bca1bc8a41e0324f3270eee84a6479343", func := "loop.example/g00910/laws.FnOdds", spec := "fnOdds", recurses := true, apart := false, narrowed := true }
def FnOddsUptoSaid : Prop := fnOddsUptoRow.holds Try.pinned (OpenSpec.upto fnOddsSpec)

/-- 'laws.FnBets', WHERE WHAT IT READS IS OF BULK AT MOST 1048576: true; the input reads as it did. -/
def fnBetsUptoRow : OpenClaim := { program := "ytglhfigmenljoaa", sum := "672050605ccf05498e4afdec8fdb835bca1bc8a41e0324f3270eee84a6479343", func := "loop.example/g00910/laws.FnBets", spec := "fnBets", recurses := true, apart := false, narrowed := true }
def FnBetsUptoSaid : Prop := fnBetsUptoRow.holds Try.pinned (OpenSpec.upto fnBetsSpec)

end Rows
end Go.Proofs.Ytglhfigmenljoaa
