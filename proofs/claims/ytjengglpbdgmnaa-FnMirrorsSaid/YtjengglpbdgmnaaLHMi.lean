/- Contracts of games with high cards. Their conditions stand in each. -/
import Derived.Test.YtjengglpbdgmnaaEngCMi
import Derived.Test.YtjengglpbdgmnaaTreeMi
import Derived.Test.YtjengglpbdgmnaaGameMi
import Derived.Test.YtjengglpbdgmnaaSetsMi
import Derived.Test.YtjengglpbdgmnaaHighMi
import Derived.Test.YtjengglpbdgmnaaL1Mi
import Derived.Test.YtjengglpbdgmnaaL2Mi
import Derived.Test.YtjengglpbdgmnaaL3Mi
import Derived.Test.YtjengglpbdgmnaaLCMi
import Derived.Test.YtjengglpbdgmnaaRows
namespace Go.Proofs.Ytjengglpbdgmnaa
open Go Go.RowKit V
set_option linter.unusedVariables false
set_option linter.unusedSimpArgs false
set_option maxRecDepth 100000
theorem bld43   : ∀ w, (Instr.build 43 ([] : List (Nat × Value)).toArray).run Try.prog w = .ok (.agg ([.slice none 0 0, .slice none 0 0, .slice none 0 0] : List Value).toArray) w := by
 intro w; simp [Instr.build, Instr.fill, Try.zeroValue43, Try.runUnderlying43, aggCells, Try.sizeOf26, Try.sizeOf41]
end Go.Proofs.Ytjengglpbdgmnaa
