/-
  DERIVED. GIVEN WITH THE SEED: THE CARDS: each row of YtlddcimpdkcgeaaGreatDoorRows.lean that lists a variable, with what it lists TIED to the program's text (the seventh form; the later family's looks); each row that meets fmt, with fmt's text TOLD by the authors' own Lean function (tested against real Go, not proved from fmt's source: count such statements apart). THE CARD IS WHAT COUNTS. Prove the row's statement (the work); the ties are given (YtlddcimpdkcgeaaGreatDoorTie.lean); close each card by the builder's one call (the guide's Derived/Test/ToyasCard.lean, 'card_holds'). Laid BY PROGRAM, IN A SANDBOX (cutbox-door.mjs). By AI agents, Wed Nov 11 2026. No macro, syntax, notation, axiom, sorry.
-/
import Derived.Test.YtlddcimpdkcgeaaGreatDoorRows
import GoSem.ClaimSeven
namespace Go.Proofs.YtlddcimpdkcgeaaGreatDoor
namespace Rows

/-- THE TIED CARD OF 'laws.FnExactCertGood'. -/
def fnExactCertGoodCard : Claim7 := { stood := { row := fnExactCertGoodRow, standIns := [], harness := (true, "d121486443640fe8100f3950b22133e01c353db6427bc4a5cf9a55f2d151fbd3"), looks := true }, kinds := [], alts := [], laidByText := true, laidKinds := [.data, .data, .data, .data, .sentinel, .sentinel, .pinned], laidTests := true, laidLooks := .later }
def FnExactCertGoodCardSaid : Prop := Claim7.holds Tryz.pinned (.plain (OpenSpec.ofChange fnExactCertGoodSpec)) fnExactCertGoodCard

/-- THE TIED CARD OF 'laws.FnExactCertOf'. -/
def fnExactCertOfCard : Claim7 := { stood := { row := fnExactCertOfRow, standIns := [], harness := (true, "d121486443640fe8100f3950b22133e01c353db6427bc4a5cf9a55f2d151fbd3"), looks := true }, kinds := [], alts := [], laidByText := true, laidKinds := [.data, .data, .data, .data, .sentinel, .sentinel, .pinned], laidTests := true, laidLooks := .later }
def FnExactCertOfCardSaid : Prop := Claim7.holds Tryz.pinned (.plain (OpenSpec.ofChange fnExactCertOfSpec)) fnExactCertOfCard

/-- THE TIED CARD OF 'laws.FnCerts'. -/
def fnCertsCard : Claim7 := { stood := { row := fnCertsRow, standIns := [], harness := (true, "d121486443640fe8100f3950b22133e01c353db6427bc4a5cf9a55f2d151fbd3"), looks := true }, kinds := [], alts := [], laidByText := true, laidKinds := [.data, .data, .data, .data, .sentinel, .sentinel, .pinned], laidTests := true, laidLooks := .later }
def FnCertsCardSaid : Prop := Claim7.holds Tryz.pinned (.plain (OpenSpec.ofChange fnCertsSpec)) fnCertsCard

/-- THE SECOND FORM's CARD OF 'laws.FnExactCertGood'. -/
def fnExactCertGoodUptoCard : Claim7 := { stood := { row := fnExactCertGoodUptoRow, standIns := [], harness := (true, "d121486443640fe8100f3950b22133e01c353db6427bc4a5cf9a55f2d151fbd3"), looks := true }, kinds := [], alts := [], laidByText := true, laidKinds := [.data, .data, .data, .data, .sentinel, .sentinel, .pinned], laidTests := true, laidLooks := .later }
def FnExactCertGoodUptoCardSaid : Prop := Claim7.holds Tryz.pinned (.plain (OpenSpec.upto fnExactCertGoodSpec)) fnExactCertGoodUptoCard

/-- THE SECOND FORM's CARD OF 'laws.FnExactCertOf'. -/
def fnExactCertOfUptoCard : Claim7 := { stood := { row := fnExactCertOfUptoRow, standIns := [], harness := (true, "d121486443640fe8100f3950b22133e01c353db6427bc4a5cf9a55f2d151fbd3"), looks := true }, kinds := [], alts := [], laidByText := true, laidKinds := [.data, .data, .data, .data, .sentinel, .sentinel, .pinned], laidTests := true, laidLooks := .later }
def FnExactCertOfUptoCardSaid : Prop := Claim7.holds Tryz.pinned (.plain (OpenSpec.upto fnExactCertOfSpec)) fnExactCertOfUptoCard

/-- THE SECOND FORM's CARD OF 'laws.FnCerts'. -/
def fnCertsUptoCard : Claim7 := { stood := { row := fnCertsUptoRow, standIns := [], harness := (true, "d121486443640fe8100f3950b22133e01c353db6427bc4a5cf9a55f2d151fbd3"), looks := true }, kinds := [], alts := [], laidByText := true, laidKinds := [.data, .data, .data, .data, .sentinel, .sentinel, .pinned], laidTests := true, laidLooks := .later }
def FnCertsUptoCardSaid : Prop := Claim7.holds Tryz.pinned (.plain (OpenSpec.upto fnCertsSpec)) fnCertsUptoCard
end Rows
end Go.Proofs.YtlddcimpdkcgeaaGreatDoor
