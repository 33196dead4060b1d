/- How the calls of this seat begin. -/
import Derived.Below
import Derived.Test.YtlddcimpdkcgeaaDoorProg
namespace Go.Proofs.YtlddcimpdkcgeaaDoor.Sym
open Go Go.RowKit
/-- The package's variables lie in the first blocks. -/
def lowB : Nat:=6
def Began (W : World) : Prop:=W.ShapedOpen Tryd.prog
end Go.Proofs.YtlddcimpdkcgeaaDoor.Sym
