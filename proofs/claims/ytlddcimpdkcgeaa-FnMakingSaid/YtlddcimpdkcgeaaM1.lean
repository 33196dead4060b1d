/- Marks: their text, and what marked terms are. -/
import Derived.Test.YtlddcimpdkcgeaaT1
import Derived.Test.YtlddcimpdkcgeaaFns
set_option linter.unusedVariables false
set_option linter.unusedSimpArgs false
set_option maxHeartbeats 2000000
namespace Go.Proofs.Ytlddcimpdkcgeaa
open Go.RowKit Sym

def mdig : Nat → Nat → ByteArray → ByteArray
  | 0,_,out => out
  | f + 1,k,out => if k = 0 then out else mdig f (k / 10) (⟨#[UInt8.ofNat (48 + k % 10)]⟩ ++ out)
def mtext (k : Int) : ByteArray:=if k ≤ 0 then ⟨#[109,48]⟩ else ⟨#[109]⟩ ++ mdig 20 k.toNat ⟨#[]⟩
attribute [irreducible] mdig mtext
/-! ### Marked terms -/
mutual
def Term.nods : Term → Nat
  | .mk _ _ _ kids => 1 + nodsL kids
def nodsL : List Term → Nat
  | [] => 0
  | t :: ts => t.nods + nodsL ts
end
theorem Term.nods_eq (t : Term) : t.nods = 1 + nodsL t.kids:=by cases t;simp [Term.nods,Term.kids]
end Go.Proofs.Ytlddcimpdkcgeaa
