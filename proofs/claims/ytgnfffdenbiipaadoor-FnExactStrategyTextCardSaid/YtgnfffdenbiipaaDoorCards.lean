/-
  DERIVED. GIVEN WITH THE SEED: THE CARDS: each row of YtgnfffdenbiipaaDoorRows.lean that lists a variable, with what it lists TIED to the program's text (the seventh form; the later family's looks); each row that meets fmt, with fmt's text TOLD by the authors' own Lean function (tested against real Go, not proved from fmt's source: count such statements apart). THE CARD IS WHAT COUNTS. Prove the row's statement (the work); the ties are given (YtgnfffdenbiipaaDoorTie.lean); close each card by the builder's one call (the guide's Derived/Test/ToyasCard.lean, 'card_holds'). Laid BY PROGRAM, IN A SANDBOX (cutbox-door.mjs). By AI agents, Wed Nov 11 2026. No macro, syntax, notation, axiom, sorry.
-/
import Derived.Test.YtgnfffdenbiipaaDoorRows
import GoSem.ClaimSeven
namespace Go.Proofs.YtgnfffdenbiipaaDoor
namespace Rows

/-- THE TIED CARD OF 'laws.FnExactTreeText'. -/
def fnExactTreeTextCard : Claim7 := { stood := { row := fnExactTreeTextRow, standIns := [], harness := (true, "6df84baad998520090038214298fc12f918dbe26b426e48e9a9dde4214fd7dfa"), looks := false }, kinds := [], alts := [], laidByText := true, laidKinds := [.data, .data, .data], laidTests := true, laidLooks := .later }
def FnExactTreeTextCardSaid : Prop := Claim7.holds Tryd.pinned (.plain (OpenSpec.ofChange fnExactTreeTextSpec)) fnExactTreeTextCard

/-- THE TIED CARD OF 'laws.FnExactStrategyText'. -/
def fnExactStrategyTextCard : Claim7 := { stood := { row := fnExactStrategyTextRow, standIns := [], harness := (true, "6df84baad998520090038214298fc12f918dbe26b426e48e9a9dde4214fd7dfa"), looks := false }, kinds := [], alts := [], laidByText := true, laidKinds := [.data, .data, .data], laidTests := true, laidLooks := .later }
def FnExactStrategyTextCardSaid : Prop := Claim7.holds Tryd.pinned (.plain (OpenSpec.ofChange fnExactStrategyTextSpec)) fnExactStrategyTextCard

/-- THE SECOND FORM's CARD OF 'laws.FnExactTreeText'. -/
def fnExactTreeTextUptoCard : Claim7 := { stood := { row := fnExactTreeTextUptoRow, standIns := [], harness := (true, "6df84baad998520090038214298fc12f918dbe26b426e48e9a9dde4214fd7dfa"), looks := false }, kinds := [], alts := [], laidByText := true, laidKinds := [.data, .data, .data], laidTests := true, laidLooks := .later }
def FnExactTreeTextUptoCardSaid : Prop := Claim7.holds Tryd.pinned (.plain (OpenSpec.upto fnExactTreeTextSpec)) fnExactTreeTextUptoCard

/-- THE SECOND FORM's CARD OF 'laws.FnExactStrategyText'. -/
def fnExactStrategyTextUptoCard : Claim7 := { stood := { row := fnExactStrategyTextUptoRow, standIns := [], harness := (true, "6df84baad998520090038214298fc12f918dbe26b426e48e9a9dde4214fd7dfa"), looks := false }, kinds := [], alts := [], laidByText := true, laidKinds := [.data, .data, .data], laidTests := true, laidLooks := .later }
def FnExactStrategyTextUptoCardSaid : Prop := Claim7.holds Tryd.pinned (.plain (OpenSpec.upto fnExactStrategyTextSpec)) fnExactStrategyTextUptoCard
end Rows
end Go.Proofs.YtgnfffdenbiipaaDoor
