/- What can be taken apart, and what follows of it: over lists alone. -/
import Derived.Test.YtlddcimpdkcgeaaGreatDoorF11
import Derived.Test.YtlddcimpdkcgeaaGreatDoorF5
set_option linter.unusedVariables false
set_option linter.unusedSimpArgs false
set_option maxRecDepth 20000
set_option maxHeartbeats 4000000
namespace Go.Proofs.YtlddcimpdkcgeaaGreatDoor
open Go Go.RowKit Sym
theorem ok_of_nods {t : Term} (h : rightT t = true) (hn : t.nods ≤ 200) : okT t = true:=ok_iff.2 ⟨by rw [size_nods t (by omega)];omega,h⟩
end Go.Proofs.YtlddcimpdkcgeaaGreatDoor
