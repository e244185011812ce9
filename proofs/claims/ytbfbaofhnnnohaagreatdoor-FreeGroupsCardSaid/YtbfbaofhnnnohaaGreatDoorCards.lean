/-
  DERIVED. GIVEN WITH THE SEED: THE CARDS: each row of YtbfbaofhnnnohaaGreatDoorRows.lean that lists a variable, with what it lists TIED to the program's text (the seventh form; the later family's looks); each row that meets fmt, with fmt's text TOLD by the authors' own Lean function (tested against real Go, not proved from fmt's source: count such statements apart). THE CARD IS WHAT COUNTS. Prove the row's statement (the work); the ties are given (YtbfbaofhnnnohaaGreatDoorTie.lean); close each card by the builder's one call (the guide's Derived/Test/ToyasCard.lean, 'card_holds'). Laid BY PROGRAM, IN A SANDBOX (cutbox-door.mjs). By AI agents, Wed Nov 11 2026. No macro, syntax, notation, axiom, sorry.
-/
import Derived.Test.YtbfbaofhnnnohaaGreatDoorRows
import GoSem.ClaimSeven
namespace Go.Proofs.YtbfbaofhnnnohaaGreatDoor
namespace Rows

/-- THE TIED CARD OF 'virgatelaw32.ModelNil'. -/
def modelNilCard : Claim7 := { stood := { row := modelNilRow, standIns := [], harness := (true, "c0ef3233cc3240dcf7bfc83668b89733f366451c3b08abb5c1f76609e6742df9"), looks := true }, kinds := [], alts := [], laidByText := true, laidKinds := [.data, .pinned], laidTests := true, laidLooks := .later }
def ModelNilCardSaid : Prop := Claim7.holds Tryz.pinned (.plain (OpenSpec.ofChange modelNilSpec)) modelNilCard

/-- THE TIED CARD OF 'virgatelaw28.AdminNil'. -/
def adminNilCard : Claim7 := { stood := { row := adminNilRow, standIns := [], harness := (true, "c0ef3233cc3240dcf7bfc83668b89733f366451c3b08abb5c1f76609e6742df9"), looks := true }, kinds := [], alts := [], laidByText := true, laidKinds := [.data, .pinned], laidTests := true, laidLooks := .later }
def AdminNilCardSaid : Prop := Claim7.holds Tryz.pinned (.plain (OpenSpec.ofChange adminNilSpec)) adminNilCard

/-- THE TIED CARD OF 'virgatelaw33.AuditCounts'. -/
def auditCountsCard : Claim7 := { stood := { row := auditCountsRow, standIns := [], harness := (true, "c0ef3233cc3240dcf7bfc83668b89733f366451c3b08abb5c1f76609e6742df9"), looks := true }, kinds := [], alts := [], laidByText := true, laidKinds := [.data, .pinned], laidTests := true, laidLooks := .later }
def AuditCountsCardSaid : Prop := Claim7.holds Tryz.pinned (.plain (OpenSpec.ofChange auditCountsSpec)) auditCountsCard

/-- THE TIED CARD OF 'virgatelaw33.AuditReports'. -/
def auditReportsCard : Claim7 := { stood := { row := auditReportsRow, standIns := [], harness := (true, "c0ef3233cc3240dcf7bfc83668b89733f366451c3b08abb5c1f76609e6742df9"), looks := true }, kinds := [], alts := [], laidByText := true, laidKinds := [.data, .pinned], laidTests := true, laidLooks := .later }
def AuditReportsCardSaid : Prop := Claim7.holds Tryz.pinned (.plain (OpenSpec.ofChange auditReportsSpec)) auditReportsCard

/-- THE TIED CARD OF 'virgatelaw26.FreeGroups'. -/
def freeGroupsCard : Claim7 := { stood := { row := freeGroupsRow, standIns := [], harness := (true, "c0ef3233cc3240dcf7bfc83668b89733f366451c3b08abb5c1f76609e6742df9"), looks := true }, kinds := [], alts := [], laidByText := true, laidKinds := [.data, .pinned], laidTests := true, laidLooks := .later }
def FreeGroupsCardSaid : Prop := Claim7.holds Tryz.pinned (.plain (OpenSpec.ofChange freeGroupsSpec)) freeGroupsCard

/-- THE TIED CARD OF 'virgatelaw26.FreeNil'. -/
def freeNilCard : Claim7 := { stood := { row := freeNilRow, standIns := [], harness := (true, "c0ef3233cc3240dcf7bfc83668b89733f366451c3b08abb5c1f76609e6742df9"), looks := true }, kinds := [], alts := [], laidByText := true, laidKinds := [.data, .pinned], laidTests := true, laidLooks := .later }
def FreeNilCardSaid : Prop := Claim7.holds Tryz.pinned (.plain (OpenSpec.ofChange freeNilSpec)) freeNilCard

/-- THE SECOND FORM's CARD OF 'virgatelaw32.ModelNil'. -/
def modelNilUptoCard : Claim7 := { stood := { row := modelNilUptoRow, standIns := [], harness := (true, "c0ef3233cc3240dcf7bfc83668b89733f366451c3b08abb5c1f76609e6742df9"), looks := true }, kinds := [], alts := [], laidByText := true, laidKinds := [.data, .pinned], laidTests := true, laidLooks := .later }
def ModelNilUptoCardSaid : Prop := Claim7.holds Tryz.pinned (.plain (OpenSpec.upto modelNilSpec)) modelNilUptoCard

/-- THE SECOND FORM's CARD OF 'virgatelaw28.AdminNil'. -/
def adminNilUptoCard : Claim7 := { stood := { row := adminNilUptoRow, standIns := [], harness := (true, "c0ef3233cc3240dcf7bfc83668b89733f366451c3b08abb5c1f76609e6742df9"), looks := true }, kinds := [], alts := [], laidByText := true, laidKinds := [.data, .pinned], laidTests := true, laidLooks := .later }
def AdminNilUptoCardSaid : Prop := Claim7.holds Tryz.pinned (.plain (OpenSpec.upto adminNilSpec)) adminNilUptoCard

/-- THE SECOND FORM's CARD OF 'virgatelaw33.AuditCounts'. -/
def auditCountsUptoCard : Claim7 := { stood := { row := auditCountsUptoRow, standIns := [], harness := (true, "c0ef3233cc3240dcf7bfc83668b89733f366451c3b08abb5c1f76609e6742df9"), looks := true }, kinds := [], alts := [], laidByText := true, laidKinds := [.data, .pinned], laidTests := true, laidLooks := .later }
def AuditCountsUptoCardSaid : Prop := Claim7.holds Tryz.pinned (.plain (OpenSpec.upto auditCountsSpec)) auditCountsUptoCard

/-- THE SECOND FORM's CARD OF 'virgatelaw33.AuditReports'. -/
def auditReportsUptoCard : Claim7 := { stood := { row := auditReportsUptoRow, standIns := [], harness := (true, "c0ef3233cc3240dcf7bfc83668b89733f366451c3b08abb5c1f76609e6742df9"), looks := true }, kinds := [], alts := [], laidByText := true, laidKinds := [.data, .pinned], laidTests := true, laidLooks := .later }
def AuditReportsUptoCardSaid : Prop := Claim7.holds Tryz.pinned (.plain (OpenSpec.upto auditReportsSpec)) auditReportsUptoCard

/-- THE SECOND FORM's CARD OF 'virgatelaw26.FreeGroups'. -/
def freeGroupsUptoCard : Claim7 := { stood := { row := freeGroupsUptoRow, standIns := [], harness := (true, "c0ef3233cc3240dcf7bfc83668b89733f366451c3b08abb5c1f76609e6742df9"), looks := true }, kinds := [], alts := [], laidByText := true, laidKinds := [.data, .pinned], laidTests := true, laidLooks := .later }
def FreeGroupsUptoCardSaid : Prop := Claim7.holds Tryz.pinned (.plain (OpenSpec.upto freeGroupsSpec)) freeGroupsUptoCard

/-- THE SECOND FORM's CARD OF 'virgatelaw26.FreeNil'. -/
def freeNilUptoCard : Claim7 := { stood := { row := freeNilUptoRow, standIns := [], harness := (true, "c0ef3233cc3240dcf7bfc83668b89733f366451c3b08abb5c1f76609e6742df9"), looks := true }, kinds := [], alts := [], laidByText := true, laidKinds := [.data, .pinned], laidTests := true, laidLooks := .later }
def FreeNilUptoCardSaid : Prop := Claim7.holds Tryz.pinned (.plain (OpenSpec.upto freeNilSpec)) freeNilUptoCard
end Rows
end Go.Proofs.YtbfbaofhnnnohaaGreatDoor
