/- The makers of terms. -/
import Derived.Test.YtdcmdjifncpkoaaF8
set_option linter.unusedVariables false
set_option maxRecDepth 20000
set_option maxHeartbeats 2000000
set_option linter.unusedSimpArgs false
namespace Go.Proofs.Ytdcmdjifncpkoaa
open Go.RowKit Sym

theorem nods_le : ∀ t : Term, t.nods ≤ 1 + t.cnt := by
  intro t
  refine Term.ind (p := fun t => t.nods ≤ 1 + t.cnt) (fun t ih => ?_) t
  rw [Term.nods_eq, Term.cnt_eq]
  have : nodsL t.kids ≤ t.kids.length + cnts t.kids := by
    revert ih
    generalize t.kids = ts
    intro ih
    induction ts with
    | nil => simp [nodsL]
    | cons u us ih2 =>
      have h1 := ih u (by simp)
      have h2 := ih2 (fun x hx => ih x (by simp [hx]))
      simp only [nodsL, List.length_cons, cnts]
      omega
  omega
end Go.Proofs.Ytdcmdjifncpkoaa
