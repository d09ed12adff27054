/- Contracts of strategies. Their conditions stand in each. -/
import Derived.Test.YtjengglpbdgmnaaEngCCo
import Derived.Test.YtjengglpbdgmnaaTreeCo
import Derived.Test.YtjengglpbdgmnaaGameCo
import Derived.Test.YtjengglpbdgmnaaSetsCo
import Derived.Test.YtjengglpbdgmnaaL1Co
import Derived.Test.YtjengglpbdgmnaaL2Co
import Derived.Test.YtjengglpbdgmnaaL3Co
import Derived.Test.YtjengglpbdgmnaaL4Co
import Derived.Test.YtjengglpbdgmnaaL5Co
import Derived.Test.YtjengglpbdgmnaaRows
namespace Go.Proofs.Ytjengglpbdgmnaa
open Go Go.RowKit V
set_option linter.unusedVariables false
set_option linter.unusedSimpArgs false
set_option maxRecDepth 100000
end Go.Proofs.Ytjengglpbdgmnaa
