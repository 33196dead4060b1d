/- How the calls of this seat begin. -/
import Derived.Below
import Derived.Test.YtlddklhfckdniaaDoorProg
namespace Go.Proofs.YtlddklhfckdniaaDoor.Sym
open Go Go.RowKit
/-- The package's variables lie in the first blocks. -/
def lowB : Nat := 3
def Start (W : World) : Prop := W.ShapedOpen Tryd.prog
end Go.Proofs.YtlddklhfckdniaaDoor.Sym
