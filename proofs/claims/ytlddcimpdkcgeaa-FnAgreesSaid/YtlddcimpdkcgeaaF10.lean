/- Greetings. -/
import Derived.Test.YtlddcimpdkcgeaaF9
set_option linter.unusedVariables false
set_option maxRecDepth 20000
set_option maxHeartbeats 4000000
set_option linter.unusedSimpArgs false
namespace Go.Proofs.Ytlddcimpdkcgeaa
open Go.RowKit Sym

theorem rightOr_le {t : Term} {n : Nat} (h : t.cnt ≤ n) : (rightOr t).cnt ≤ n := Nat.le_trans (rightOr_cnt t) h
theorem cnt1 (op n : Int) (a : Term) : (Term.mk op n ⟨#[]⟩ [a]).cnt = 1 + a.cnt := by simp [Term.cnt, cnts, sz0]
theorem cnt2 (op n : Int) (a b : Term) : (Term.mk op n ⟨#[]⟩ [a, b]).cnt = 2 + (a.cnt + b.cnt) := by simp [Term.cnt, cnts, sz0]
def pairT (a b : Term) : Term := rightOr (.mk 3 0 ⟨#[]⟩ [a, b])
def hashT (a : Term) : Term := rightOr (.mk 6 0 ⟨#[]⟩ [a])
def pubT (a : Term) : Term := rightOr (.mk 4 0 ⟨#[]⟩ [a])
theorem pairT_cnt (a b : Term) : (pairT a b).cnt ≤ 2 + (a.cnt + b.cnt) := rightOr_le (by rw [cnt2]; exact Nat.le_refl _)
theorem hashT_cnt (a : Term) : (hashT a).cnt ≤ 1 + a.cnt := rightOr_le (by rw [cnt1]; exact Nat.le_refl _)
theorem pubT_cnt (a : Term) : (pubT a).cnt ≤ 1 + a.cnt := rightOr_le (by rw [cnt1]; exact Nat.le_refl _)
def textT (s : ByteArray) : Term := .mk 2 0 s []
theorem textT_cnt (s : ByteArray) : (textT s).cnt = s.size := by simp [textT, Term.cnt, cnts]

def helloS : ByteArray := ⟨#[104, 101, 108, 108, 111]⟩
theorem helloS_size : helloS.size = 5 := rfl
def helloT (e : Term) : Term := pairT (textT helloS) (pubT e)
end Go.Proofs.Ytlddcimpdkcgeaa
