/- Patterns: the plain law. -/
import Derived.Test.YtlddcimpdkcgeaaDoorD4
import Derived.Lib.IndexMore
set_option linter.unusedVariables false
set_option linter.unusedSimpArgs false
set_option maxRecDepth 20000
set_option maxHeartbeats 4000000
namespace Go.Proofs.YtlddcimpdkcgeaaDoor
open Go Go.RowKit Sym

/-! ### What lies behind the first point -/
end Go.Proofs.YtlddcimpdkcgeaaDoor
