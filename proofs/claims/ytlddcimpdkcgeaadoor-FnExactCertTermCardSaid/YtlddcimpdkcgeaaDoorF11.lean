/- Terms that are equal; their size; what is signed. -/
import Derived.Test.YtlddcimpdkcgeaaDoorF10
set_option linter.unusedVariables false
set_option maxRecDepth 20000
set_option maxHeartbeats 4000000
set_option linter.unusedSimpArgs false
namespace Go.Proofs.YtlddcimpdkcgeaaDoor
open Go.RowKit Sym
attribute [local irreducible] awp aops aopsQ gop gopQ gopO gopOQ gopV gopT awpN awpT awpTs ACall after

/-! ### What a right term is -/
theorem op_mk (op n : Int) (s : ByteArray) (ks : List Term) : (Term.mk op n s ks).op = op:=rfl
theorem n_mk (op n : Int) (s : ByteArray) (ks : List Term) : (Term.mk op n s ks).n = n:=rfl
theorem s_mk (op n : Int) (s : ByteArray) (ks : List Term) : (Term.mk op n s ks).s = s:=rfl
theorem kids_mk (op n : Int) (s : ByteArray) (ks : List Term) : (Term.mk op n s ks).kids = ks:=rfl
end Go.Proofs.YtlddcimpdkcgeaaDoor
