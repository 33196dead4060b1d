/- Two come to the same from both sides. -/
import Derived.Test.YtlddcimpdkcgeaaF22
import Derived.Test.YtlddcimpdkcgeaaF14
set_option linter.unusedVariables false
set_option linter.unusedSimpArgs false
set_option maxRecDepth 20000
set_option maxHeartbeats 4000000
namespace Go.Proofs.Ytlddcimpdkcgeaa
open Go Go.RowKit Sym

theorem share_kids (a b : Term) : (shareT a b).kids = [a,b] ∨ (shareT a b).kids = [b,a]:=by
  unfold shareT
  cases befT b a with
  | true => exact .inr rfl
  | false => exact .inl rfl
end Go.Proofs.Ytlddcimpdkcgeaa
