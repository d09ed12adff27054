/- Contracts of bet trees of the program. Their conditions stand in each. -/
import Derived.Test.YtjengglpbdgmnaaEngCIs
import Derived.Test.YtjengglpbdgmnaaTreeIs
import Derived.Test.YtjengglpbdgmnaaGameIs
import Derived.Test.YtjengglpbdgmnaaGrowIs
import Derived.Test.YtjengglpbdgmnaaL1Is
import Derived.Test.YtjengglpbdgmnaaL2Is
import Derived.Test.YtjengglpbdgmnaaL3Is
import Derived.Test.YtjengglpbdgmnaaLTIs
import Derived.Test.YtjengglpbdgmnaaRows
namespace Go.Proofs.Ytjengglpbdgmnaa
open Go Go.RowKit V
set_option linter.unusedVariables false
set_option linter.unusedSimpArgs false
set_option maxRecDepth 100000
end Go.Proofs.Ytjengglpbdgmnaa
