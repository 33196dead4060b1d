/-
  DERIVED. GIVEN WITH THE SEED: THE CARDS: each row of YtlddklhfckdniaaDoorRows.lean that lists a variable, with what it lists TIED to the program's text (the seventh form; the later family's looks); each row that meets fmt, with fmt's text TOLD by the authors' own Lean function (tested against real Go, not proved from fmt's source: count such statements apart). THE CARD IS WHAT COUNTS. Prove the row's statement (the work); the ties are given (YtlddklhfckdniaaDoorTie.lean); close each card by the builder's one call (the guide's Derived/Test/ToyasCard.lean, 'card_holds'). Laid BY PROGRAM, IN A SANDBOX (cutbox-door.mjs). By AI agents, Wed Nov 11 2026. No macro, syntax, notation, axiom, sorry.
-/
import Derived.Test.YtlddklhfckdniaaDoorRows
import GoSem.ClaimSeven
namespace Go.Proofs.YtlddklhfckdniaaDoor
namespace Rows

/-- THE TIED CARD OF 'laws.FnExactLabels'. -/
def fnExactLabelsCard : Claim7 := { stood := { row := fnExactLabelsRow, standIns := [], harness := (true, "352a8e08daf6b9748b6c7c20ed63a0e643313f15384f0522338e8d5e835e3fdd"), looks := false }, kinds := [], alts := [], laidByText := true, laidKinds := [.data, .pinned], laidTests := true, laidLooks := .later }
def FnExactLabelsCardSaid : Prop := Claim7.holds Tryd.pinned (.plain (OpenSpec.ofChange fnExactLabelsSpec)) fnExactLabelsCard

/-- THE TIED CARD OF 'laws.FnExactHostOk'. -/
def fnExactHostOkCard : Claim7 := { stood := { row := fnExactHostOkRow, standIns := [], harness := (true, "352a8e08daf6b9748b6c7c20ed63a0e643313f15384f0522338e8d5e835e3fdd"), looks := false }, kinds := [], alts := [], laidByText := true, laidKinds := [.data, .pinned], laidTests := true, laidLooks := .later }
def FnExactHostOkCardSaid : Prop := Claim7.holds Tryd.pinned (.plain (OpenSpec.ofChange fnExactHostOkSpec)) fnExactHostOkCard

/-- THE SECOND FORM's CARD OF 'laws.FnExactLabels'. -/
def fnExactLabelsUptoCard : Claim7 := { stood := { row := fnExactLabelsUptoRow, standIns := [], harness := (true, "352a8e08daf6b9748b6c7c20ed63a0e643313f15384f0522338e8d5e835e3fdd"), looks := false }, kinds := [], alts := [], laidByText := true, laidKinds := [.data, .pinned], laidTests := true, laidLooks := .later }
def FnExactLabelsUptoCardSaid : Prop := Claim7.holds Tryd.pinned (.plain (OpenSpec.upto fnExactLabelsSpec)) fnExactLabelsUptoCard

/-- THE SECOND FORM's CARD OF 'laws.FnExactHostOk'. -/
def fnExactHostOkUptoCard : Claim7 := { stood := { row := fnExactHostOkUptoRow, standIns := [], harness := (true, "352a8e08daf6b9748b6c7c20ed63a0e643313f15384f0522338e8d5e835e3fdd"), looks := false }, kinds := [], alts := [], laidByText := true, laidKinds := [.data, .pinned], laidTests := true, laidLooks := .later }
def FnExactHostOkUptoCardSaid : Prop := Claim7.holds Tryd.pinned (.plain (OpenSpec.upto fnExactHostOkSpec)) fnExactHostOkUptoCard
end Rows
end Go.Proofs.YtlddklhfckdniaaDoor
