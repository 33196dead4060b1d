/-
  DERIVED. GIVEN WITH THE SEED: THE CARDS: each row of YtdnenindpapniaaDoorRows.lean that lists a variable, with what it lists TIED to the program's text (the seventh form; the later family's looks); each row that meets fmt, with fmt's text TOLD by the authors' own Lean function (tested against real Go, not proved from fmt's source: count such statements apart). THE CARD IS WHAT COUNTS. Prove the row's statement (the work); the ties are given (YtdnenindpapniaaDoorTie.lean); close each card by the builder's one call (the guide's Derived/Test/ToyasCard.lean, 'card_holds'). Laid BY PROGRAM, IN A SANDBOX (cutbox-door.mjs). By AI agents, Wed Nov 11 2026. No macro, syntax, notation, axiom, sorry.
-/
import Derived.Test.YtdnenindpapniaaDoorRows
import GoSem.ClaimSeven
namespace Go.Proofs.YtdnenindpapniaaDoor
namespace Rows

/-- THE TIED CARD OF 'laws.FnExactPatternOk'. -/
def fnExactPatternOkCard : Claim7 := { stood := { row := fnExactPatternOkRow, standIns := [], harness := (true, "e9919ff842d832727a57eefc5e184f98eaeb3859dba8517b3ce2cb29643a5ee3"), looks := false }, kinds := [], alts := [], laidByText := true, laidKinds := [.data, .pinned], laidTests := true, laidLooks := .later }
def FnExactPatternOkCardSaid : Prop := Claim7.holds Tryd.pinned (.plain (OpenSpec.ofChange fnExactPatternOkSpec)) fnExactPatternOkCard

/-- THE TIED CARD OF 'laws.FnExactFits'. -/
def fnExactFitsCard : Claim7 := { stood := { row := fnExactFitsRow, standIns := [], harness := (true, "e9919ff842d832727a57eefc5e184f98eaeb3859dba8517b3ce2cb29643a5ee3"), looks := false }, kinds := [], alts := [], laidByText := true, laidKinds := [.data, .pinned], laidTests := true, laidLooks := .later }
def FnExactFitsCardSaid : Prop := Claim7.holds Tryd.pinned (.plain (OpenSpec.ofChange fnExactFitsSpec)) fnExactFitsCard

/-- THE TIED CARD OF 'laws.FnExactPolicyOk'. -/
def fnExactPolicyOkCard : Claim7 := { stood := { row := fnExactPolicyOkRow, standIns := [], harness := (true, "e9919ff842d832727a57eefc5e184f98eaeb3859dba8517b3ce2cb29643a5ee3"), looks := false }, kinds := [], alts := [], laidByText := true, laidKinds := [.data, .pinned], laidTests := true, laidLooks := .later }
def FnExactPolicyOkCardSaid : Prop := Claim7.holds Tryd.pinned (.plain (OpenSpec.ofChange fnExactPolicyOkSpec)) fnExactPolicyOkCard

/-- THE TIED CARD OF 'laws.FnExactTermText'. -/
def fnExactTermTextCard : Claim7 := { stood := { row := fnExactTermTextRow, standIns := [], harness := (true, "e9919ff842d832727a57eefc5e184f98eaeb3859dba8517b3ce2cb29643a5ee3"), looks := false }, kinds := [], alts := [], laidByText := true, laidKinds := [.data, .data, .data], laidTests := true, laidLooks := .later }
def FnExactTermTextCardSaid : Prop := Claim7.holds Tryd.pinned (.plain (OpenSpec.ofChange fnExactTermTextSpec)) fnExactTermTextCard

/-- THE TIED CARD OF 'laws.FnExactMay'. -/
def fnExactMayCard : Claim7 := { stood := { row := fnExactMayRow, standIns := [], harness := (true, "e9919ff842d832727a57eefc5e184f98eaeb3859dba8517b3ce2cb29643a5ee3"), looks := false }, kinds := [], alts := [], laidByText := true, laidKinds := [.data, .pinned], laidTests := true, laidLooks := .later }
def FnExactMayCardSaid : Prop := Claim7.holds Tryd.pinned (.plain (OpenSpec.ofChange fnExactMaySpec)) fnExactMayCard

/-- THE TIED CARD OF 'laws.FnExactCacheOk'. -/
def fnExactCacheOkCard : Claim7 := { stood := { row := fnExactCacheOkRow, standIns := [], harness := (true, "e9919ff842d832727a57eefc5e184f98eaeb3859dba8517b3ce2cb29643a5ee3"), looks := false }, kinds := [], alts := [], laidByText := true, laidKinds := [.data, .pinned], laidTests := true, laidLooks := .later }
def FnExactCacheOkCardSaid : Prop := Claim7.holds Tryd.pinned (.plain (OpenSpec.ofChange fnExactCacheOkSpec)) fnExactCacheOkCard

/-- THE TIED CARD OF 'laws.FnExactCertOk'. -/
def fnExactCertOkCard : Claim7 := { stood := { row := fnExactCertOkRow, standIns := [], harness := (true, "e9919ff842d832727a57eefc5e184f98eaeb3859dba8517b3ce2cb29643a5ee3"), looks := false }, kinds := [], alts := [], laidByText := true, laidKinds := [.data, .pinned], laidTests := true, laidLooks := .later }
def FnExactCertOkCardSaid : Prop := Claim7.holds Tryd.pinned (.plain (OpenSpec.ofChange fnExactCertOkSpec)) fnExactCertOkCard

/-- THE TIED CARD OF 'laws.FnExactOpen'. -/
def fnExactOpenCard : Claim7 := { stood := { row := fnExactOpenRow, standIns := [], harness := (true, "e9919ff842d832727a57eefc5e184f98eaeb3859dba8517b3ce2cb29643a5ee3"), looks := false }, kinds := [], alts := [], laidByText := true, laidKinds := [.data, .data, .data], laidTests := true, laidLooks := .later }
def FnExactOpenCardSaid : Prop := Claim7.holds Tryd.pinned (.plain (OpenSpec.ofChange fnExactOpenSpec)) fnExactOpenCard

/-- THE TIED CARD OF 'laws.FnExactSeal'. -/
def fnExactSealCard : Claim7 := { stood := { row := fnExactSealRow, standIns := [], harness := (true, "e9919ff842d832727a57eefc5e184f98eaeb3859dba8517b3ce2cb29643a5ee3"), looks := false }, kinds := [], alts := [], laidByText := true, laidKinds := [.data, .data, .data], laidTests := true, laidLooks := .later }
def FnExactSealCardSaid : Prop := Claim7.holds Tryd.pinned (.plain (OpenSpec.ofChange fnExactSealSpec)) fnExactSealCard

/-- THE TIED CARD OF 'laws.FnExactKeyOf'. -/
def fnExactKeyOfCard : Claim7 := { stood := { row := fnExactKeyOfRow, standIns := [], harness := (true, "e9919ff842d832727a57eefc5e184f98eaeb3859dba8517b3ce2cb29643a5ee3"), looks := false }, kinds := [], alts := [], laidByText := true, laidKinds := [.data, .data, .data], laidTests := true, laidLooks := .later }
def FnExactKeyOfCardSaid : Prop := Claim7.holds Tryd.pinned (.plain (OpenSpec.ofChange fnExactKeyOfSpec)) fnExactKeyOfCard

/-- THE TIED CARD OF 'laws.FnExactDone'. -/
def fnExactDoneCard : Claim7 := { stood := { row := fnExactDoneRow, standIns := [], harness := (true, "e9919ff842d832727a57eefc5e184f98eaeb3859dba8517b3ce2cb29643a5ee3"), looks := false }, kinds := [], alts := [], laidByText := true, laidKinds := [.data, .data, .data], laidTests := true, laidLooks := .later }
def FnExactDoneCardSaid : Prop := Claim7.holds Tryd.pinned (.plain (OpenSpec.ofChange fnExactDoneSpec)) fnExactDoneCard

/-- THE TIED CARD OF 'laws.FnExactReply'. -/
def fnExactReplyCard : Claim7 := { stood := { row := fnExactReplyRow, standIns := [], harness := (true, "e9919ff842d832727a57eefc5e184f98eaeb3859dba8517b3ce2cb29643a5ee3"), looks := false }, kinds := [], alts := [], laidByText := true, laidKinds := [.data, .data, .data], laidTests := true, laidLooks := .later }
def FnExactReplyCardSaid : Prop := Claim7.holds Tryd.pinned (.plain (OpenSpec.ofChange fnExactReplySpec)) fnExactReplyCard

/-- THE SECOND FORM's CARD OF 'laws.FnExactPatternOk'. -/
def fnExactPatternOkUptoCard : Claim7 := { stood := { row := fnExactPatternOkUptoRow, standIns := [], harness := (true, "e9919ff842d832727a57eefc5e184f98eaeb3859dba8517b3ce2cb29643a5ee3"), looks := false }, kinds := [], alts := [], laidByText := true, laidKinds := [.data, .pinned], laidTests := true, laidLooks := .later }
def FnExactPatternOkUptoCardSaid : Prop := Claim7.holds Tryd.pinned (.plain (OpenSpec.upto fnExactPatternOkSpec)) fnExactPatternOkUptoCard

/-- THE SECOND FORM's CARD OF 'laws.FnExactFits'. -/
def fnExactFitsUptoCard : Claim7 := { stood := { row := fnExactFitsUptoRow, standIns := [], harness := (true, "e9919ff842d832727a57eefc5e184f98eaeb3859dba8517b3ce2cb29643a5ee3"), looks := false }, kinds := [], alts := [], laidByText := true, laidKinds := [.data, .pinned], laidTests := true, laidLooks := .later }
def FnExactFitsUptoCardSaid : Prop := Claim7.holds Tryd.pinned (.plain (OpenSpec.upto fnExactFitsSpec)) fnExactFitsUptoCard

/-- THE SECOND FORM's CARD OF 'laws.FnExactPolicyOk'. -/
def fnExactPolicyOkUptoCard : Claim7 := { stood := { row := fnExactPolicyOkUptoRow, standIns := [], harness := (true, "e9919ff842d832727a57eefc5e184f98eaeb3859dba8517b3ce2cb29643a5ee3"), looks := false }, kinds := [], alts := [], laidByText := true, laidKinds := [.data, .pinned], laidTests := true, laidLooks := .later }
def FnExactPolicyOkUptoCardSaid : Prop := Claim7.holds Tryd.pinned (.plain (OpenSpec.upto fnExactPolicyOkSpec)) fnExactPolicyOkUptoCard

/-- THE SECOND FORM's CARD OF 'laws.FnExactTermText'. -/
def fnExactTermTextUptoCard : Claim7 := { stood := { row := fnExactTermTextUptoRow, standIns := [], harness := (true, "e9919ff842d832727a57eefc5e184f98eaeb3859dba8517b3ce2cb29643a5ee3"), looks := false }, kinds := [], alts := [], laidByText := true, laidKinds := [.data, .data, .data], laidTests := true, laidLooks := .later }
def FnExactTermTextUptoCardSaid : Prop := Claim7.holds Tryd.pinned (.plain (OpenSpec.upto fnExactTermTextSpec)) fnExactTermTextUptoCard

/-- THE SECOND FORM's CARD OF 'laws.FnExactMay'. -/
def fnExactMayUptoCard : Claim7 := { stood := { row := fnExactMayUptoRow, standIns := [], harness := (true, "e9919ff842d832727a57eefc5e184f98eaeb3859dba8517b3ce2cb29643a5ee3"), looks := false }, kinds := [], alts := [], laidByText := true, laidKinds := [.data, .pinned], laidTests := true, laidLooks := .later }
def FnExactMayUptoCardSaid : Prop := Claim7.holds Tryd.pinned (.plain (OpenSpec.upto fnExactMaySpec)) fnExactMayUptoCard

/-- THE SECOND FORM's CARD OF 'laws.FnExactCacheOk'. -/
def fnExactCacheOkUptoCard : Claim7 := { stood := { row := fnExactCacheOkUptoRow, standIns := [], harness := (true, "e9919ff842d832727a57eefc5e184f98eaeb3859dba8517b3ce2cb29643a5ee3"), looks := false }, kinds := [], alts := [], laidByText := true, laidKinds := [.data, .pinned], laidTests := true, laidLooks := .later }
def FnExactCacheOkUptoCardSaid : Prop := Claim7.holds Tryd.pinned (.plain (OpenSpec.upto fnExactCacheOkSpec)) fnExactCacheOkUptoCard

/-- THE SECOND FORM's CARD OF 'laws.FnExactCertOk'. -/
def fnExactCertOkUptoCard : Claim7 := { stood := { row := fnExactCertOkUptoRow, standIns := [], harness := (true, "e9919ff842d832727a57eefc5e184f98eaeb3859dba8517b3ce2cb29643a5ee3"), looks := false }, kinds := [], alts := [], laidByText := true, laidKinds := [.data, .pinned], laidTests := true, laidLooks := .later }
def FnExactCertOkUptoCardSaid : Prop := Claim7.holds Tryd.pinned (.plain (OpenSpec.upto fnExactCertOkSpec)) fnExactCertOkUptoCard

/-- THE SECOND FORM's CARD OF 'laws.FnExactOpen'. -/
def fnExactOpenUptoCard : Claim7 := { stood := { row := fnExactOpenUptoRow, standIns := [], harness := (true, "e9919ff842d832727a57eefc5e184f98eaeb3859dba8517b3ce2cb29643a5ee3"), looks := false }, kinds := [], alts := [], laidByText := true, laidKinds := [.data, .data, .data], laidTests := true, laidLooks := .later }
def FnExactOpenUptoCardSaid : Prop := Claim7.holds Tryd.pinned (.plain (OpenSpec.upto fnExactOpenSpec)) fnExactOpenUptoCard

/-- THE SECOND FORM's CARD OF 'laws.FnExactSeal'. -/
def fnExactSealUptoCard : Claim7 := { stood := { row := fnExactSealUptoRow, standIns := [], harness := (true, "e9919ff842d832727a57eefc5e184f98eaeb3859dba8517b3ce2cb29643a5ee3"), looks := false }, kinds := [], alts := [], laidByText := true, laidKinds := [.data, .data, .data], laidTests := true, laidLooks := .later }
def FnExactSealUptoCardSaid : Prop := Claim7.holds Tryd.pinned (.plain (OpenSpec.upto fnExactSealSpec)) fnExactSealUptoCard

/-- THE SECOND FORM's CARD OF 'laws.FnExactKeyOf'. -/
def fnExactKeyOfUptoCard : Claim7 := { stood := { row := fnExactKeyOfUptoRow, standIns := [], harness := (true, "e9919ff842d832727a57eefc5e184f98eaeb3859dba8517b3ce2cb29643a5ee3"), looks := false }, kinds := [], alts := [], laidByText := true, laidKinds := [.data, .data, .data], laidTests := true, laidLooks := .later }
def FnExactKeyOfUptoCardSaid : Prop := Claim7.holds Tryd.pinned (.plain (OpenSpec.upto fnExactKeyOfSpec)) fnExactKeyOfUptoCard

/-- THE SECOND FORM's CARD OF 'laws.FnExactDone'. -/
def fnExactDoneUptoCard : Claim7 := { stood := { row := fnExactDoneUptoRow, standIns := [], harness := (true, "e9919ff842d832727a57eefc5e184f98eaeb3859dba8517b3ce2cb29643a5ee3"), looks := false }, kinds := [], alts := [], laidByText := true, laidKinds := [.data, .data, .data], laidTests := true, laidLooks := .later }
def FnExactDoneUptoCardSaid : Prop := Claim7.holds Tryd.pinned (.plain (OpenSpec.upto fnExactDoneSpec)) fnExactDoneUptoCard

/-- THE SECOND FORM's CARD OF 'laws.FnExactReply'. -/
def fnExactReplyUptoCard : Claim7 := { stood := { row := fnExactReplyUptoRow, standIns := [], harness := (true, "e9919ff842d832727a57eefc5e184f98eaeb3859dba8517b3ce2cb29643a5ee3"), looks := false }, kinds := [], alts := [], laidByText := true, laidKinds := [.data, .data, .data], laidTests := true, laidLooks := .later }
def FnExactReplyUptoCardSaid : Prop := Claim7.holds Tryd.pinned (.plain (OpenSpec.upto fnExactReplySpec)) fnExactReplyUptoCard
end Rows
end Go.Proofs.YtdnenindpapniaaDoor
