/-
  DERIVED. GIVEN WITH THE SEED: THE CARDS: each row of YtjengglpbdgmnaaDoorRows.lean that lists a variable, with what it lists TIED to the program's text (the seventh form; the later family's looks); each row that meets fmt, with fmt's text TOLD by the authors' own Lean function (tested against real Go, not proved from fmt's source: count such statements apart). THE CARD IS WHAT COUNTS. Prove the row's statement (the work); the ties are given (YtjengglpbdgmnaaDoorTie.lean); close each card by the builder's one call (the guide's Derived/Test/ToyasCard.lean, 'card_holds'). Laid BY PROGRAM, IN A SANDBOX (cutbox-door.mjs). By AI agents, Wed Nov 11 2026. No macro, syntax, notation, axiom, sorry.
-/
import Derived.Test.YtjengglpbdgmnaaDoorRows
import GoSem.ClaimSeven
namespace Go.Proofs.YtjengglpbdgmnaaDoor
namespace Rows

/-- THE TIED CARD OF 'laws.FnMixed'. -/
def fnMixedCard : Claim7 := { stood := { row := fnMixedRow, standIns := [], harness := (true, "7a75c735fb0a2551848e1d757fef301137d27a755cc5cbdc4277a3f2da2f1ff4"), looks := false }, kinds := [], alts := [], laidByText := true, laidKinds := [.data, .data, .data], laidTests := true, laidLooks := .later }
def FnMixedCardSaid : Prop := Claim7.holds Tryd.pinned (.plain (OpenSpec.ofChange fnMixedSpec)) fnMixedCard

/-- THE TIED CARD OF 'laws.FnBetTrees'. -/
def fnBetTreesCard : Claim7 := { stood := { row := fnBetTreesRow, standIns := [], harness := (true, "7a75c735fb0a2551848e1d757fef301137d27a755cc5cbdc4277a3f2da2f1ff4"), looks := false }, kinds := [], alts := [], laidByText := true, laidKinds := [.data, .data, .data], laidTests := true, laidLooks := .later }
def FnBetTreesCardSaid : Prop := Claim7.holds Tryd.pinned (.plain (OpenSpec.ofChange fnBetTreesSpec)) fnBetTreesCard

/-- THE SECOND FORM's CARD OF 'laws.FnMixed'. -/
def fnMixedUptoCard : Claim7 := { stood := { row := fnMixedUptoRow, standIns := [], harness := (true, "7a75c735fb0a2551848e1d757fef301137d27a755cc5cbdc4277a3f2da2f1ff4"), looks := false }, kinds := [], alts := [], laidByText := true, laidKinds := [.data, .data, .data], laidTests := true, laidLooks := .later }
def FnMixedUptoCardSaid : Prop := Claim7.holds Tryd.pinned (.plain (OpenSpec.upto fnMixedSpec)) fnMixedUptoCard

/-- THE SECOND FORM's CARD OF 'laws.FnBetTrees'. -/
def fnBetTreesUptoCard : Claim7 := { stood := { row := fnBetTreesUptoRow, standIns := [], harness := (true, "7a75c735fb0a2551848e1d757fef301137d27a755cc5cbdc4277a3f2da2f1ff4"), looks := false }, kinds := [], alts := [], laidByText := true, laidKinds := [.data, .data, .data], laidTests := true, laidLooks := .later }
def FnBetTreesUptoCardSaid : Prop := Claim7.holds Tryd.pinned (.plain (OpenSpec.upto fnBetTreesSpec)) fnBetTreesUptoCard
end Rows
end Go.Proofs.YtjengglpbdgmnaaDoor
