/-
  DERIVED. GIVEN WITH THE SEED: THE CARDS: each row of YtecbgdnoblhldaaGreatDoorRows.lean that lists a variable, with what it lists TIED to the program's text (the seventh form; the later family's looks); each row that meets fmt, with fmt's text TOLD by the authors' own Lean function (tested against real Go, not proved from fmt's source: count such statements apart). THE CARD IS WHAT COUNTS. Prove the row's statement (the work); the ties are given (YtecbgdnoblhldaaGreatDoorTie.lean); close each card by the builder's one call (the guide's Derived/Test/ToyasCard.lean, 'card_holds'). Laid BY PROGRAM, IN A SANDBOX (cutbox-door.mjs). By AI agents, Wed Nov 11 2026. No macro, syntax, notation, axiom, sorry.
-/
import Derived.Test.YtecbgdnoblhldaaGreatDoorRows
import GoSem.ClaimSeven
namespace Go.Proofs.YtecbgdnoblhldaaGreatDoor
namespace Rows

/-- THE TIED CARD OF 'posternlaw22.AuditTakes'. -/
def auditTakesCard : Claim7 := { stood := { row := auditTakesRow, standIns := [], harness := (true, "fb4f347e1c64f750b805ea993b182d8ae61d4d71d9927c9e93cda4b011cf9e55"), looks := false }, kinds := [], alts := [], laidByText := true, laidKinds := [.data, .data, .data, .pinned], laidTests := true, laidLooks := .later }
def AuditTakesCardSaid : Prop := Claim7.holds Tryz.pinned (.plain (OpenSpec.ofChange auditTakesSpec)) auditTakesCard

/-- THE TIED CARD OF 'posternlaw22.AuditSound'. -/
def auditSoundCard : Claim7 := { stood := { row := auditSoundRow, standIns := [], harness := (true, "fb4f347e1c64f750b805ea993b182d8ae61d4d71d9927c9e93cda4b011cf9e55"), looks := false }, kinds := [], alts := [], laidByText := true, laidKinds := [.data, .data, .data, .pinned], laidTests := true, laidLooks := .later }
def AuditSoundCardSaid : Prop := Claim7.holds Tryz.pinned (.plain (OpenSpec.ofChange auditSoundSpec)) auditSoundCard

/-- THE TIED CARD OF 'posternlaw22.AuditFollows'. -/
def auditFollowsCard : Claim7 := { stood := { row := auditFollowsRow, standIns := [], harness := (true, "fb4f347e1c64f750b805ea993b182d8ae61d4d71d9927c9e93cda4b011cf9e55"), looks := false }, kinds := [], alts := [], laidByText := true, laidKinds := [.data, .data, .data, .pinned], laidTests := true, laidLooks := .later }
def AuditFollowsCardSaid : Prop := Claim7.holds Tryz.pinned (.plain (OpenSpec.ofChange auditFollowsSpec)) auditFollowsCard

/-- THE TIED CARD OF 'posternlaw22.AuditGrows'. -/
def auditGrowsCard : Claim7 := { stood := { row := auditGrowsRow, standIns := [], harness := (true, "fb4f347e1c64f750b805ea993b182d8ae61d4d71d9927c9e93cda4b011cf9e55"), looks := false }, kinds := [], alts := [], laidByText := true, laidKinds := [.data, .data, .data, .pinned], laidTests := true, laidLooks := .later }
def AuditGrowsCardSaid : Prop := Claim7.holds Tryz.pinned (.plain (OpenSpec.ofChange auditGrowsSpec)) auditGrowsCard

/-- THE TIED CARD OF 'posternlaw22.AuditProves'. -/
def auditProvesCard : Claim7 := { stood := { row := auditProvesRow, standIns := [], harness := (true, "fb4f347e1c64f750b805ea993b182d8ae61d4d71d9927c9e93cda4b011cf9e55"), looks := false }, kinds := [], alts := [], laidByText := true, laidKinds := [.data, .data, .data, .pinned], laidTests := true, laidLooks := .later }
def AuditProvesCardSaid : Prop := Claim7.holds Tryz.pinned (.plain (OpenSpec.ofChange auditProvesSpec)) auditProvesCard

/-- THE TIED CARD OF 'posternlaw22.AuditForms'. -/
def auditFormsCard : Claim7 := { stood := { row := auditFormsRow, standIns := [], harness := (true, "fb4f347e1c64f750b805ea993b182d8ae61d4d71d9927c9e93cda4b011cf9e55"), looks := false }, kinds := [], alts := [], laidByText := true, laidKinds := [.data, .data, .data, .pinned], laidTests := true, laidLooks := .later }
def AuditFormsCardSaid : Prop := Claim7.holds Tryz.pinned (.plain (OpenSpec.ofChange auditFormsSpec)) auditFormsCard

/-- THE TIED CARD OF 'posternlaw22.AuditStands'. -/
def auditStandsCard : Claim7 := { stood := { row := auditStandsRow, standIns := [], harness := (true, "fb4f347e1c64f750b805ea993b182d8ae61d4d71d9927c9e93cda4b011cf9e55"), looks := false }, kinds := [], alts := [], laidByText := true, laidKinds := [.data, .data, .data, .pinned], laidTests := true, laidLooks := .later }
def AuditStandsCardSaid : Prop := Claim7.holds Tryz.pinned (.plain (OpenSpec.ofChange auditStandsSpec)) auditStandsCard

/-- THE TIED CARD OF 'posternlaw22.AuditExact'. -/
def auditExactCard : Claim7 := { stood := { row := auditExactRow, standIns := [], harness := (true, "fb4f347e1c64f750b805ea993b182d8ae61d4d71d9927c9e93cda4b011cf9e55"), looks := false }, kinds := [], alts := [], laidByText := true, laidKinds := [.data, .data, .data, .pinned], laidTests := true, laidLooks := .later }
def AuditExactCardSaid : Prop := Claim7.holds Tryz.pinned (.plain (OpenSpec.ofChange auditExactSpec)) auditExactCard

/-- THE SECOND FORM's CARD OF 'posternlaw22.AuditTakes'. -/
def auditTakesUptoCard : Claim7 := { stood := { row := auditTakesUptoRow, standIns := [], harness := (true, "fb4f347e1c64f750b805ea993b182d8ae61d4d71d9927c9e93cda4b011cf9e55"), looks := false }, kinds := [], alts := [], laidByText := true, laidKinds := [.data, .data, .data, .pinned], laidTests := true, laidLooks := .later }
def AuditTakesUptoCardSaid : Prop := Claim7.holds Tryz.pinned (.plain (OpenSpec.upto auditTakesSpec)) auditTakesUptoCard

/-- THE SECOND FORM's CARD OF 'posternlaw22.AuditSound'. -/
def auditSoundUptoCard : Claim7 := { stood := { row := auditSoundUptoRow, standIns := [], harness := (true, "fb4f347e1c64f750b805ea993b182d8ae61d4d71d9927c9e93cda4b011cf9e55"), looks := false }, kinds := [], alts := [], laidByText := true, laidKinds := [.data, .data, .data, .pinned], laidTests := true, laidLooks := .later }
def AuditSoundUptoCardSaid : Prop := Claim7.holds Tryz.pinned (.plain (OpenSpec.upto auditSoundSpec)) auditSoundUptoCard

/-- THE SECOND FORM's CARD OF 'posternlaw22.AuditFollows'. -/
def auditFollowsUptoCard : Claim7 := { stood := { row := auditFollowsUptoRow, standIns := [], harness := (true, "fb4f347e1c64f750b805ea993b182d8ae61d4d71d9927c9e93cda4b011cf9e55"), looks := false }, kinds := [], alts := [], laidByText := true, laidKinds := [.data, .data, .data, .pinned], laidTests := true, laidLooks := .later }
def AuditFollowsUptoCardSaid : Prop := Claim7.holds Tryz.pinned (.plain (OpenSpec.upto auditFollowsSpec)) auditFollowsUptoCard

/-- THE SECOND FORM's CARD OF 'posternlaw22.AuditGrows'. -/
def auditGrowsUptoCard : Claim7 := { stood := { row := auditGrowsUptoRow, standIns := [], harness := (true, "fb4f347e1c64f750b805ea993b182d8ae61d4d71d9927c9e93cda4b011cf9e55"), looks := false }, kinds := [], alts := [], laidByText := true, laidKinds := [.data, .data, .data, .pinned], laidTests := true, laidLooks := .later }
def AuditGrowsUptoCardSaid : Prop := Claim7.holds Tryz.pinned (.plain (OpenSpec.upto auditGrowsSpec)) auditGrowsUptoCard

/-- THE SECOND FORM's CARD OF 'posternlaw22.AuditProves'. -/
def auditProvesUptoCard : Claim7 := { stood := { row := auditProvesUptoRow, standIns := [], harness := (true, "fb4f347e1c64f750b805ea993b182d8ae61d4d71d9927c9e93cda4b011cf9e55"), looks := false }, kinds := [], alts := [], laidByText := true, laidKinds := [.data, .data, .data, .pinned], laidTests := true, laidLooks := .later }
def AuditProvesUptoCardSaid : Prop := Claim7.holds Tryz.pinned (.plain (OpenSpec.upto auditProvesSpec)) auditProvesUptoCard

/-- THE SECOND FORM's CARD OF 'posternlaw22.AuditForms'. -/
def auditFormsUptoCard : Claim7 := { stood := { row := auditFormsUptoRow, standIns := [], harness := (true, "fb4f347e1c64f750b805ea993b182d8ae61d4d71d9927c9e93cda4b011cf9e55"), looks := false }, kinds := [], alts := [], laidByText := true, laidKinds := [.data, .data, .data, .pinned], laidTests := true, laidLooks := .later }
def AuditFormsUptoCardSaid : Prop := Claim7.holds Tryz.pinned (.plain (OpenSpec.upto auditFormsSpec)) auditFormsUptoCard

/-- THE SECOND FORM's CARD OF 'posternlaw22.AuditStands'. -/
def auditStandsUptoCard : Claim7 := { stood := { row := auditStandsUptoRow, standIns := [], harness := (true, "fb4f347e1c64f750b805ea993b182d8ae61d4d71d9927c9e93cda4b011cf9e55"), looks := false }, kinds := [], alts := [], laidByText := true, laidKinds := [.data, .data, .data, .pinned], laidTests := true, laidLooks := .later }
def AuditStandsUptoCardSaid : Prop := Claim7.holds Tryz.pinned (.plain (OpenSpec.upto auditStandsSpec)) auditStandsUptoCard

/-- THE SECOND FORM's CARD OF 'posternlaw22.AuditExact'. -/
def auditExactUptoCard : Claim7 := { stood := { row := auditExactUptoRow, standIns := [], harness := (true, "fb4f347e1c64f750b805ea993b182d8ae61d4d71d9927c9e93cda4b011cf9e55"), looks := false }, kinds := [], alts := [], laidByText := true, laidKinds := [.data, .data, .data, .pinned], laidTests := true, laidLooks := .later }
def AuditExactUptoCardSaid : Prop := Claim7.holds Tryz.pinned (.plain (OpenSpec.upto auditExactSpec)) auditExactUptoCard
end Rows
end Go.Proofs.YtecbgdnoblhldaaGreatDoor
