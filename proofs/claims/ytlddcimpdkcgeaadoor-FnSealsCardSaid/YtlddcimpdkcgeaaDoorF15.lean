/- What can be made of parts. -/
import Derived.Test.YtlddcimpdkcgeaaDoorF11
import Derived.Test.YtlddcimpdkcgeaaDoorF5
set_option linter.unusedVariables false
set_option maxRecDepth 20000
set_option maxHeartbeats 4000000
set_option linter.unusedSimpArgs false
namespace Go.Proofs.YtlddcimpdkcgeaaDoor
open Go.RowKit Sym
attribute [local irreducible] awp aops aopsQ gop gopQ gopO gopOQ gopV gopT awpN awpT awpTs ACall after

theorem nods_kid {t x : Term} {n : Nat} (h : t.nods ≤ n + 1) (hx : x ∈ t.kids) : x.nods ≤ n:=by
  have:=nodsL_mem hx
  rw [Term.nods_eq] at h
  omega

end Go.Proofs.YtlddcimpdkcgeaaDoor
