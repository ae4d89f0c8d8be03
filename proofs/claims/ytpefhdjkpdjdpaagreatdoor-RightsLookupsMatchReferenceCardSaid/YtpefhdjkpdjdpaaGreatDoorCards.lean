/-
  DERIVED. GIVEN WITH THE SEED: THE CARDS: each row of YtpefhdjkpdjdpaaGreatDoorRows.lean that lists a variable, with what it lists TIED to the program's text (the seventh form; the later family's looks); each row that meets fmt, with fmt's text TOLD by the authors' own Lean function (tested against real Go, not proved from fmt's source: count such statements apart). THE CARD IS WHAT COUNTS. Prove the row's statement (the work); the ties are given (YtpefhdjkpdjdpaaGreatDoorTie.lean); close each card by the builder's one call (the guide's Derived/Test/ToyasCard.lean, 'card_holds'). Laid BY PROGRAM, IN A SANDBOX (cutbox-door.mjs). By AI agents, Wed Nov 11 2026. No macro, syntax, notation, axiom, sorry.
-/
import Derived.Test.YtpefhdjkpdjdpaaGreatDoorRows
import GoSem.ClaimSeven
namespace Go.Proofs.YtpefhdjkpdjdpaaGreatDoor
namespace Rows

/-- THE TIED CARD OF 'onairlaw06.RightsFirstError'. -/
def rightsFirstErrorCard : Claim7 := { stood := { row := rightsFirstErrorRow, standIns := [], harness := (true, "70e89fd1eae3990a55c0acc690c1b6705a5f442c1693d066a926f3e7c6f0edb0"), looks := true }, kinds := [], alts := [], laidByText := true, laidKinds := [.data, .data, .data, .data, .sentinel, .sentinel, .sentinel, .pinned], laidTests := true, laidLooks := .later }
def RightsFirstErrorCardSaid : Prop := Claim7.holds Tryz.pinned (.plain (OpenSpec.ofChange rightsFirstErrorSpec)) rightsFirstErrorCard

/-- THE TIED CARD OF 'onairlaw06.RightsLookupsMatchReference'. -/
def rightsLookupsMatchReferenceCard : Claim7 := { stood := { row := rightsLookupsMatchReferenceRow, standIns := [], harness := (true, "70e89fd1eae3990a55c0acc690c1b6705a5f442c1693d066a926f3e7c6f0edb0"), looks := true }, kinds := [], alts := [], laidByText := true, laidKinds := [.data, .data, .data, .data, .sentinel, .sentinel, .sentinel, .pinned], laidTests := true, laidLooks := .later }
def RightsLookupsMatchReferenceCardSaid : Prop := Claim7.holds Tryz.pinned (.plain (OpenSpec.ofChange rightsLookupsMatchReferenceSpec)) rightsLookupsMatchReferenceCard

/-- THE TIED CARD OF 'onairlaw06.RightsLastDecides'. -/
def rightsLastDecidesCard : Claim7 := { stood := { row := rightsLastDecidesRow, standIns := [], harness := (true, "70e89fd1eae3990a55c0acc690c1b6705a5f442c1693d066a926f3e7c6f0edb0"), looks := true }, kinds := [], alts := [], laidByText := true, laidKinds := [.data, .data, .data, .data, .sentinel, .sentinel, .sentinel, .pinned], laidTests := true, laidLooks := .later }
def RightsLastDecidesCardSaid : Prop := Claim7.holds Tryz.pinned (.plain (OpenSpec.ofChange rightsLastDecidesSpec)) rightsLastDecidesCard

/-- THE TIED CARD OF 'onairlaw27.AuditInvoice'. -/
def auditInvoiceCard : Claim7 := { stood := { row := auditInvoiceRow, standIns := [], harness := (true, "70e89fd1eae3990a55c0acc690c1b6705a5f442c1693d066a926f3e7c6f0edb0"), looks := true }, kinds := [], alts := [], laidByText := true, laidKinds := [.data, .data], laidTests := true, laidLooks := .later }
def AuditInvoiceCardSaid : Prop := Claim7.holds Tryz.pinned (.plain (OpenSpec.ofChange auditInvoiceSpec)) auditInvoiceCard

/-- THE TIED CARD OF 'onairlaw06.RightsAppended'. -/
def rightsAppendedCard : Claim7 := { stood := { row := rightsAppendedRow, standIns := [], harness := (true, "70e89fd1eae3990a55c0acc690c1b6705a5f442c1693d066a926f3e7c6f0edb0"), looks := true }, kinds := [], alts := [], laidByText := true, laidKinds := [.data, .data, .data, .data, .sentinel, .sentinel, .sentinel, .pinned], laidTests := true, laidLooks := .later }
def RightsAppendedCardSaid : Prop := Claim7.holds Tryz.pinned (.plain (OpenSpec.ofChange rightsAppendedSpec)) rightsAppendedCard

/-- THE SECOND FORM's CARD OF 'onairlaw06.RightsFirstError'. -/
def rightsFirstErrorUptoCard : Claim7 := { stood := { row := rightsFirstErrorUptoRow, standIns := [], harness := (true, "70e89fd1eae3990a55c0acc690c1b6705a5f442c1693d066a926f3e7c6f0edb0"), looks := true }, kinds := [], alts := [], laidByText := true, laidKinds := [.data, .data, .data, .data, .sentinel, .sentinel, .sentinel, .pinned], laidTests := true, laidLooks := .later }
def RightsFirstErrorUptoCardSaid : Prop := Claim7.holds Tryz.pinned (.plain (OpenSpec.upto rightsFirstErrorSpec)) rightsFirstErrorUptoCard

/-- THE SECOND FORM's CARD OF 'onairlaw06.RightsLookupsMatchReference'. -/
def rightsLookupsMatchReferenceUptoCard : Claim7 := { stood := { row := rightsLookupsMatchReferenceUptoRow, standIns := [], harness := (true, "70e89fd1eae3990a55c0acc690c1b6705a5f442c1693d066a926f3e7c6f0edb0"), looks := true }, kinds := [], alts := [], laidByText := true, laidKinds := [.data, .data, .data, .data, .sentinel, .sentinel, .sentinel, .pinned], laidTests := true, laidLooks := .later }
def RightsLookupsMatchReferenceUptoCardSaid : Prop := Claim7.holds Tryz.pinned (.plain (OpenSpec.upto rightsLookupsMatchReferenceSpec)) rightsLookupsMatchReferenceUptoCard

/-- THE SECOND FORM's CARD OF 'onairlaw06.RightsLastDecides'. -/
def rightsLastDecidesUptoCard : Claim7 := { stood := { row := rightsLastDecidesUptoRow, standIns := [], harness := (true, "70e89fd1eae3990a55c0acc690c1b6705a5f442c1693d066a926f3e7c6f0edb0"), looks := true }, kinds := [], alts := [], laidByText := true, laidKinds := [.data, .data, .data, .data, .sentinel, .sentinel, .sentinel, .pinned], laidTests := true, laidLooks := .later }
def RightsLastDecidesUptoCardSaid : Prop := Claim7.holds Tryz.pinned (.plain (OpenSpec.upto rightsLastDecidesSpec)) rightsLastDecidesUptoCard

/-- THE SECOND FORM's CARD OF 'onairlaw27.AuditInvoice'. -/
def auditInvoiceUptoCard : Claim7 := { stood := { row := auditInvoiceUptoRow, standIns := [], harness := (true, "70e89fd1eae3990a55c0acc690c1b6705a5f442c1693d066a926f3e7c6f0edb0"), looks := true }, kinds := [], alts := [], laidByText := true, laidKinds := [.data, .data], laidTests := true, laidLooks := .later }
def AuditInvoiceUptoCardSaid : Prop := Claim7.holds Tryz.pinned (.plain (OpenSpec.upto auditInvoiceSpec)) auditInvoiceUptoCard

/-- THE SECOND FORM's CARD OF 'onairlaw06.RightsAppended'. -/
def rightsAppendedUptoCard : Claim7 := { stood := { row := rightsAppendedUptoRow, standIns := [], harness := (true, "70e89fd1eae3990a55c0acc690c1b6705a5f442c1693d066a926f3e7c6f0edb0"), looks := true }, kinds := [], alts := [], laidByText := true, laidKinds := [.data, .data, .data, .data, .sentinel, .sentinel, .sentinel, .pinned], laidTests := true, laidLooks := .later }
def RightsAppendedUptoCardSaid : Prop := Claim7.holds Tryz.pinned (.plain (OpenSpec.upto rightsAppendedSpec)) rightsAppendedUptoCard
end Rows
end Go.Proofs.YtpefhdjkpdjdpaaGreatDoor
