/- What a greeting holds. -/
import Derived.Test.YtlddcimpdkcgeaaDoorF12
set_option linter.unusedVariables false
set_option maxRecDepth 20000
set_option maxHeartbeats 4000000
set_option linter.unusedSimpArgs false
namespace Go.Proofs.YtlddcimpdkcgeaaDoor
open Go.RowKit Sym
attribute [local irreducible] awp aops aopsQ gop gopQ gopO gopOQ gopV gopT awpN awpT awpTs ACall after

end Go.Proofs.YtlddcimpdkcgeaaDoor
