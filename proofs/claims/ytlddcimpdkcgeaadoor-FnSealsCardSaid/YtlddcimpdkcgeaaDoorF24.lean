/- What can be taken apart, and what follows of it: over lists alone. -/
import Derived.Test.YtlddcimpdkcgeaaDoorF15
set_option linter.unusedVariables false
set_option linter.unusedSimpArgs false
set_option maxRecDepth 20000
set_option maxHeartbeats 4000000
namespace Go.Proofs.YtlddcimpdkcgeaaDoor
open Go Go.RowKit Sym

/-! ### What is right has right kids -/
theorem ok_nods {t : Term} (h : okT t = true) (hb : t.nods ≤ 4611686018427387904) : t.nods ≤ 200:=by
  have:=ok_size h
  rw [size_nods t hb] at this
  omega
theorem ok_of_nods {t : Term} (h : rightT t = true) (hn : t.nods ≤ 200) : okT t = true:=ok_iff.2 ⟨by rw [size_nods t (by omega)];omega,h⟩
/-- Right, and of at most 200. -/
def fineT (t : Term) : Prop:=rightT t = true ∧ t.nods ≤ 200
theorem fine_ok {t : Term} (h : fineT t) : okT t = true:=ok_of_nods h.1 h.2
theorem fine_kid {t x : Term} (h : fineT t) (hx : x ∈ t.kids) : fineT x:=by
  refine ⟨right_mem h.1 hx,?_⟩
  have:=nods_kid (n:=199) h.2 hx
  omega

/-! ### Taking apart -/
/-! ### A property that parts keep -/
/-! ### What stays -/
/-! ### Closed -/
end Go.Proofs.YtlddcimpdkcgeaaDoor
