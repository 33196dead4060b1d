/- The measure of a term; a term anew; two terms side by side. -/
import Derived.Test.YtlddcimpdkcgeaaT1
import Derived.Test.YtlddcimpdkcgeaaFns
set_option linter.unusedVariables false
set_option linter.unusedSimpArgs false
namespace Go.Proofs.Ytlddcimpdkcgeaa
open Go.RowKit Sym

end Go.Proofs.Ytlddcimpdkcgeaa
