/- What is signed: the program. -/
import Derived.Test.YtlddcimpdkcgeaaF11
set_option linter.unusedVariables false
set_option maxRecDepth 20000
set_option maxHeartbeats 4000000
set_option linter.unusedSimpArgs false
namespace Go.Proofs.Ytlddcimpdkcgeaa
open Go.RowKit Sym
attribute [local irreducible] awp aops aopsQ gop gopQ gopO gopOQ gopV gopT awpN awpT awpTs ACall after

theorem noT_cnt : noT.cnt ≤ 10 := by simp [noT, Term.cnt, cnts, sz0]
theorem signedT_cnt (p t : Term) : ((signedT p t).getD noT).cnt ≤ t.cnt + 10 := by
  have h0 := noT_cnt
  unfold signedT
  split
  · rename_i x y hk
    split
    · have := cnt_mem (t := t) (x := y) (by rw [hk]; simp)
      simp only [Option.getD_some]; omega
    · simp only [Option.getD_none]; omega
  · simp only [Option.getD_none]; omega
end Go.Proofs.Ytlddcimpdkcgeaa
