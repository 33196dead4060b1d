/- How the calls of this seat begin. -/
import Derived.Below
import Derived.Test.YtlddcimpdkcgeaaGreatDoorProg
import Derived.Lib.LaidTab
import Derived.Lib.ItoaNum
set_option linter.unusedVariables false
set_option linter.unusedSimpArgs false
namespace Go.Proofs.YtlddcimpdkcgeaaGreatDoor.Sym
open Go Go.RowKit
def lowB : Nat:=8
def Began (W : World) : Prop := W.ShapedOpen Tryz.prog ∧ Lib.TabIs Tryz.prog W "internal/strconv.uint64pow10" .u64 Lib.pow10Tab ∧ (∃ t v, W.cell? ⟨0, 0, none⟩ = some (.iface t v)) ∧ ∃ t v, W.cell? ⟨1, 0, none⟩ = some (.iface t v)
end Go.Proofs.YtlddcimpdkcgeaaGreatDoor.Sym
