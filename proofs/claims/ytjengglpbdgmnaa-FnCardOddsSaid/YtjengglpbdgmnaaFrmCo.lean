/- The frame of a law's proof, part 2: slices, rows, trees and other structs that came in are known as the walks ask it. No condition. -/
import Derived.Test.YtjengglpbdgmnaaEngACo
import Derived.Test.YtjengglpbdgmnaaFrameCo
import Derived.Deep.Slices
namespace Go.Proofs.Ytjengglpbdgmnaa
open Go Go.RowKit V Go.ChangeShapes Go.WideShapes Go.ChangeAt Go.Deep
set_option linter.unusedVariables false
set_option linter.unusedSimpArgs false
section
variable {H : Type} {enc : TypeId × Value → H} {P : Program} {W : World} {fuel : Nat}
abbrev trd (enc : TypeId × Value → H) (P : Program) (W : World) (fuel : Nat) (t : TypeId) (cs : List Value) : Option (DataW H × List MemPlace) := DataW.trod enc P W 0 (fun _ => true) true fuel t cs
instance : Inhabited Nd := ⟨dN⟩
end
end Go.Proofs.Ytjengglpbdgmnaa
