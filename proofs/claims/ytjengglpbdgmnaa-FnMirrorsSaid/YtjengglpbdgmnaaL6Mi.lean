/- Contracts of strategies. Their conditions stand in each. -/
import Derived.Test.YtjengglpbdgmnaaEngCMi
import Derived.Test.YtjengglpbdgmnaaTreeMi
import Derived.Test.YtjengglpbdgmnaaGameMi
import Derived.Test.YtjengglpbdgmnaaSetsMi
import Derived.Test.YtjengglpbdgmnaaL1Mi
import Derived.Test.YtjengglpbdgmnaaL2Mi
import Derived.Test.YtjengglpbdgmnaaL3Mi
import Derived.Test.YtjengglpbdgmnaaL4Mi
import Derived.Test.YtjengglpbdgmnaaL5Mi
import Derived.Test.YtjengglpbdgmnaaRows
namespace Go.Proofs.Ytjengglpbdgmnaa
open Go Go.RowKit V
set_option linter.unusedVariables false
set_option linter.unusedSimpArgs false
set_option maxRecDepth 100000
end Go.Proofs.Ytjengglpbdgmnaa
