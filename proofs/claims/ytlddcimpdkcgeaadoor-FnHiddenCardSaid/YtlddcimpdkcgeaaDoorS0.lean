/- How the calls of this seat begin. -/
import Derived.Below
import Derived.Test.YtlddcimpdkcgeaaDoorProg
import Derived.Lib.LaidTab
import Derived.Lib.ItoaNum
namespace Go.Proofs.YtlddcimpdkcgeaaDoor.Sym
open Go Go.RowKit
/-- The package's variables lie in the first blocks. -/
def lowB : Nat:=6
def Began (W : World) : Prop := W.ShapedOpen Tryd.prog ∧ Lib.TabIs Tryd.prog W "internal/strconv.uint64pow10" .u64 Lib.pow10Tab
end Go.Proofs.YtlddcimpdkcgeaaDoor.Sym
