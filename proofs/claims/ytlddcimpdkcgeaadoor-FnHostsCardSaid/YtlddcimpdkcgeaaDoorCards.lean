/-
  DERIVED. GIVEN WITH THE SEED: THE CARDS: each row of YtlddcimpdkcgeaaDoorRows.lean that lists a variable, with what it lists TIED to the program's text (the seventh form; the later family's looks); each row that meets fmt, with fmt's text TOLD by the authors' own Lean function (tested against real Go, not proved from fmt's source: count such statements apart). THE CARD IS WHAT COUNTS. Prove the row's statement (the work); the ties are given (YtlddcimpdkcgeaaDoorTie.lean); close each card by the builder's one call (the guide's Derived/Test/ToyasCard.lean, 'card_holds'). Laid BY PROGRAM, IN A SANDBOX (cutbox-door.mjs). By AI agents, Wed Nov 11 2026. No macro, syntax, notation, axiom, sorry.
-/
import Derived.Test.YtlddcimpdkcgeaaDoorRows
import GoSem.ClaimSeven
namespace Go.Proofs.YtlddcimpdkcgeaaDoor
namespace Rows

/-- THE TIED CARD OF 'laws.FnHidden'. -/
def fnHiddenCard : Claim7 := { stood := { row := fnHiddenRow, standIns := [], harness := (true, "ae67f2f77bb390550a13e51a5f76a23d080c25f84b39b6ac64c64d85ef03c6ee"), looks := false }, kinds := [], alts := [], laidByText := true, laidKinds := [.data, .data, .data], laidTests := true, laidLooks := .later }
def FnHiddenCardSaid : Prop := Claim7.holds Tryd.pinned (.plain (OpenSpec.ofChange fnHiddenSpec)) fnHiddenCard

/-- THE TIED CARD OF 'laws.FnHosts'. -/
def fnHostsCard : Claim7 := { stood := { row := fnHostsRow, standIns := [], harness := (true, "ae67f2f77bb390550a13e51a5f76a23d080c25f84b39b6ac64c64d85ef03c6ee"), looks := false }, kinds := [], alts := [], laidByText := true, laidKinds := [.data, .pinned], laidTests := true, laidLooks := .later }
def FnHostsCardSaid : Prop := Claim7.holds Tryd.pinned (.plain (OpenSpec.ofChange fnHostsSpec)) fnHostsCard

/-- THE TIED CARD OF 'laws.FnSeals'. -/
def fnSealsCard : Claim7 := { stood := { row := fnSealsRow, standIns := [], harness := (true, "ae67f2f77bb390550a13e51a5f76a23d080c25f84b39b6ac64c64d85ef03c6ee"), looks := false }, kinds := [], alts := [], laidByText := true, laidKinds := [.data, .data, .data], laidTests := true, laidLooks := .later }
def FnSealsCardSaid : Prop := Claim7.holds Tryd.pinned (.plain (OpenSpec.ofChange fnSealsSpec)) fnSealsCard

/-- THE TIED CARD OF 'laws.FnTerms'. -/
def fnTermsCard : Claim7 := { stood := { row := fnTermsRow, standIns := [], harness := (true, "ae67f2f77bb390550a13e51a5f76a23d080c25f84b39b6ac64c64d85ef03c6ee"), looks := false }, kinds := [], alts := [], laidByText := true, laidKinds := [.data, .data, .data], laidTests := true, laidLooks := .later }
def FnTermsCardSaid : Prop := Claim7.holds Tryd.pinned (.plain (OpenSpec.ofChange fnTermsSpec)) fnTermsCard

/-- THE TIED CARD OF 'laws.FnExactPolicyText'. -/
def fnExactPolicyTextCard : Claim7 := { stood := { row := fnExactPolicyTextRow, standIns := [], harness := (true, "ae67f2f77bb390550a13e51a5f76a23d080c25f84b39b6ac64c64d85ef03c6ee"), looks := false }, kinds := [], alts := [], laidByText := true, laidKinds := [.data, .data, .data, .data, .pinned], laidTests := true, laidLooks := .later }
def FnExactPolicyTextCardSaid : Prop := Claim7.holds Tryd.pinned (.plain (OpenSpec.ofChange fnExactPolicyTextSpec)) fnExactPolicyTextCard

/-- THE TIED CARD OF 'laws.FnExactCertTerm'. -/
def fnExactCertTermCard : Claim7 := { stood := { row := fnExactCertTermRow, standIns := [], harness := (true, "ae67f2f77bb390550a13e51a5f76a23d080c25f84b39b6ac64c64d85ef03c6ee"), looks := false }, kinds := [], alts := [], laidByText := true, laidKinds := [.data, .data, .data, .data, .pinned], laidTests := true, laidLooks := .later }
def FnExactCertTermCardSaid : Prop := Claim7.holds Tryd.pinned (.plain (OpenSpec.ofChange fnExactCertTermSpec)) fnExactCertTermCard

/-- THE SECOND FORM's CARD OF 'laws.FnHidden'. -/
def fnHiddenUptoCard : Claim7 := { stood := { row := fnHiddenUptoRow, standIns := [], harness := (true, "ae67f2f77bb390550a13e51a5f76a23d080c25f84b39b6ac64c64d85ef03c6ee"), looks := false }, kinds := [], alts := [], laidByText := true, laidKinds := [.data, .data, .data], laidTests := true, laidLooks := .later }
def FnHiddenUptoCardSaid : Prop := Claim7.holds Tryd.pinned (.plain (OpenSpec.upto fnHiddenSpec)) fnHiddenUptoCard

/-- THE SECOND FORM's CARD OF 'laws.FnHosts'. -/
def fnHostsUptoCard : Claim7 := { stood := { row := fnHostsUptoRow, standIns := [], harness := (true, "ae67f2f77bb390550a13e51a5f76a23d080c25f84b39b6ac64c64d85ef03c6ee"), looks := false }, kinds := [], alts := [], laidByText := true, laidKinds := [.data, .pinned], laidTests := true, laidLooks := .later }
def FnHostsUptoCardSaid : Prop := Claim7.holds Tryd.pinned (.plain (OpenSpec.upto fnHostsSpec)) fnHostsUptoCard

/-- THE SECOND FORM's CARD OF 'laws.FnSeals'. -/
def fnSealsUptoCard : Claim7 := { stood := { row := fnSealsUptoRow, standIns := [], harness := (true, "ae67f2f77bb390550a13e51a5f76a23d080c25f84b39b6ac64c64d85ef03c6ee"), looks := false }, kinds := [], alts := [], laidByText := true, laidKinds := [.data, .data, .data], laidTests := true, laidLooks := .later }
def FnSealsUptoCardSaid : Prop := Claim7.holds Tryd.pinned (.plain (OpenSpec.upto fnSealsSpec)) fnSealsUptoCard

/-- THE SECOND FORM's CARD OF 'laws.FnTerms'. -/
def fnTermsUptoCard : Claim7 := { stood := { row := fnTermsUptoRow, standIns := [], harness := (true, "ae67f2f77bb390550a13e51a5f76a23d080c25f84b39b6ac64c64d85ef03c6ee"), looks := false }, kinds := [], alts := [], laidByText := true, laidKinds := [.data, .data, .data], laidTests := true, laidLooks := .later }
def FnTermsUptoCardSaid : Prop := Claim7.holds Tryd.pinned (.plain (OpenSpec.upto fnTermsSpec)) fnTermsUptoCard

/-- THE SECOND FORM's CARD OF 'laws.FnExactPolicyText'. -/
def fnExactPolicyTextUptoCard : Claim7 := { stood := { row := fnExactPolicyTextUptoRow, standIns := [], harness := (true, "ae67f2f77bb390550a13e51a5f76a23d080c25f84b39b6ac64c64d85ef03c6ee"), looks := false }, kinds := [], alts := [], laidByText := true, laidKinds := [.data, .data, .data, .data, .pinned], laidTests := true, laidLooks := .later }
def FnExactPolicyTextUptoCardSaid : Prop := Claim7.holds Tryd.pinned (.plain (OpenSpec.upto fnExactPolicyTextSpec)) fnExactPolicyTextUptoCard

/-- THE SECOND FORM's CARD OF 'laws.FnExactCertTerm'. -/
def fnExactCertTermUptoCard : Claim7 := { stood := { row := fnExactCertTermUptoRow, standIns := [], harness := (true, "ae67f2f77bb390550a13e51a5f76a23d080c25f84b39b6ac64c64d85ef03c6ee"), looks := false }, kinds := [], alts := [], laidByText := true, laidKinds := [.data, .data, .data, .data, .pinned], laidTests := true, laidLooks := .later }
def FnExactCertTermUptoCardSaid : Prop := Claim7.holds Tryd.pinned (.plain (OpenSpec.upto fnExactCertTermSpec)) fnExactCertTermUptoCard
end Rows
end Go.Proofs.YtlddcimpdkcgeaaDoor
