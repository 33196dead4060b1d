/- The function that marks terms. -/
import Derived.Test.YtlddcimpdkcgeaaDoorM1
import Derived.WalkKit
import Derived.ProofKit
set_option linter.unusedVariables false
set_option linter.unusedSimpArgs false
set_option maxHeartbeats 2000000
namespace Go.Proofs.YtlddcimpdkcgeaaDoor
open Go Go.RowKit Sym

theorem Laid.set {w : World} (h : Laid w) {p : Addr} {v : Value} (hp : lowB ≤ p.block) : Laid (w.setCell p v):=h.fr (Fr.set (B:=fun b => b = p.block) w p v rfl) (by rintro _ rfl;exact hp)
theorem Laid.drew {w : World} (h : Laid w) : Laid w.drew:=h.fr (Fr.drew (B:=fun _ => False) w) (fun _ h => h.elim)

end Go.Proofs.YtlddcimpdkcgeaaDoor
