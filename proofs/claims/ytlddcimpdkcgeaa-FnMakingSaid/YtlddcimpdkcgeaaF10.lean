/- Greetings. -/
import Derived.Test.YtlddcimpdkcgeaaF9
set_option linter.unusedVariables false
set_option maxRecDepth 20000
set_option maxHeartbeats 4000000
set_option linter.unusedSimpArgs false
namespace Go.Proofs.Ytlddcimpdkcgeaa
open Go.RowKit Sym

theorem rightOr_le {t : Term} {n : Nat} (h : t.cnt ≤ n) : (rightOr t).cnt ≤ n:=Nat.le_trans (rightOr_cnt t) h
theorem cnt1 (op n : Int) (a : Term) : (Term.mk op n ⟨#[]⟩ [a]).cnt = 1 + a.cnt:=by simp [Term.cnt,cnts,sz0]
theorem cnt2 (op n : Int) (a b : Term) : (Term.mk op n ⟨#[]⟩ [a,b]).cnt = 2 + (a.cnt + b.cnt):=by simp [Term.cnt,cnts,sz0]
def pairT (a b : Term) : Term:=rightOr (.mk 3 0 ⟨#[]⟩ [a,b])
theorem pairT_cnt (a b : Term) : (pairT a b).cnt ≤ 2 + (a.cnt + b.cnt):=rightOr_le (by rw [cnt2];exact Nat.le_refl _)
def textT (s : ByteArray) : Term:=.mk 2 0 s []
theorem textT_cnt (s : ByteArray) : (textT s).cnt = s.size:=by simp [textT,Term.cnt,cnts]

end Go.Proofs.Ytlddcimpdkcgeaa
