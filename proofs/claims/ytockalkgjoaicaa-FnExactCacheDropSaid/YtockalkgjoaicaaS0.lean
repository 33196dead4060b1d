/- How the calls of this seat begin. -/
import Derived.Below
namespace Go.Proofs.Ytockalkgjoaicaa.Sym
open Go Go.RowKit
/-- Nothing is asked. -/
def lowB : Nat:=0
def Began (_ : World) : Prop:=True
end Go.Proofs.Ytockalkgjoaicaa.Sym
