/- Marks of certificates held; what a certificate read from a term weighs. -/
import Derived.Test.YtlddcimpdkcgeaaGreatDoorE6
set_option linter.unusedVariables false
set_option linter.unusedSimpArgs false
set_option maxRecDepth 20000
set_option maxHeartbeats 4000000
namespace Go.Proofs.YtlddcimpdkcgeaaGreatDoor
open Go.RowKit Sym
theorem certOfT_cnt (t : Term) : ((certOfT t).getD noC).pub.cnt ≤ t.cnt + 1:=by
  unfold certOfT
  rcases h : openC t with _|⟨a,p,u⟩
  · show noT.cnt ≤ t.cnt + 1
    have : noT.cnt ≤ 1:=by decide
    omega
  · have hp:=(open_cnt h).2.1
    simp only
    cases certB ⟨a.s,p,numB u.s⟩ && eqT (certT ⟨a.s,p,numB u.s⟩) t with
    | true => show p.cnt ≤ t.cnt + 1;omega
    | false =>
      show noT.cnt ≤ t.cnt + 1
      have : noT.cnt ≤ 1:=by decide
      omega
end Go.Proofs.YtlddcimpdkcgeaaGreatDoor
