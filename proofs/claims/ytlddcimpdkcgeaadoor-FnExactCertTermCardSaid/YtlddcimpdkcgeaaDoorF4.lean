/- The measure of a policy; a policy anew; two policies side by side. -/
import Derived.Test.YtlddcimpdkcgeaaDoorT3
import Derived.Test.YtlddcimpdkcgeaaDoorFns
set_option linter.unusedVariables false
set_option linter.unusedSimpArgs false
namespace Go.Proofs.YtlddcimpdkcgeaaDoor
open Go.RowKit Sym

end Go.Proofs.YtlddcimpdkcgeaaDoor
