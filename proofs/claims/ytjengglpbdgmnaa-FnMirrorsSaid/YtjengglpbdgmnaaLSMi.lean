/- Contracts of bet trees of the program. Their conditions stand in each. -/
import Derived.Test.YtjengglpbdgmnaaEngCMi
import Derived.Test.YtjengglpbdgmnaaTreeMi
import Derived.Test.YtjengglpbdgmnaaGameMi
import Derived.Test.YtjengglpbdgmnaaGrowMi
import Derived.Test.YtjengglpbdgmnaaL1Mi
import Derived.Test.YtjengglpbdgmnaaL2Mi
import Derived.Test.YtjengglpbdgmnaaL3Mi
import Derived.Test.YtjengglpbdgmnaaLTMi
import Derived.Test.YtjengglpbdgmnaaRows
namespace Go.Proofs.Ytjengglpbdgmnaa
open Go Go.RowKit V
set_option linter.unusedVariables false
set_option linter.unusedSimpArgs false
set_option maxRecDepth 100000
theorem bld88_0_1_2_3_4 (v0 v1 v2 v3 v4 : Value) (h0 : v0.cells = #[v0]) (h1 : v1.cells = #[v1]) (h2 : v2.cells = #[v2]) (h3 : v3.cells = #[v3]) (h4 : v4.cells = #[v4]) : ∀ w, (Instr.build 88 ([(0, v0), (1, v1), (2, v2), (3, v3), (4, v4)] : List (Nat × Value)).toArray).run Try.prog w = .ok (.agg ([v0, v1, v2, v3, v4] : List Value).toArray) w := by
 intro w; simp [Instr.build, Instr.fill, Try.zeroValue88, Try.runUnderlying88, aggCells, Try.sizeOf2, Try.sizeOf28, h0, h1, h2, h3, h4]
end Go.Proofs.Ytjengglpbdgmnaa
