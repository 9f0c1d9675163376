/-
  DERIVED. GIVEN WITH THE SEED: THE CARDS: each row of YtecbgdnoblhldaaDoorRows.lean that lists a variable, with what it lists TIED to the program's text (the seventh form; the later family's looks); each row that meets fmt, with fmt's text TOLD by the authors' own Lean function (tested against real Go, not proved from fmt's source: count such statements apart). THE CARD IS WHAT COUNTS. Prove the row's statement (the work); the ties are given (YtecbgdnoblhldaaDoorTie.lean); close each card by the builder's one call (the guide's Derived/Test/ToyasCard.lean, 'card_holds'). Laid BY PROGRAM, IN A SANDBOX (cutbox-door.mjs). By AI agents, Wed Nov 11 2026. No macro, syntax, notation, axiom, sorry.
-/
import Derived.Test.YtecbgdnoblhldaaDoorRows
import GoSem.ClaimSeven
namespace Go.Proofs.YtecbgdnoblhldaaDoor
namespace Rows

/-- THE TIED CARD OF 'posternlaw22.AuditKnown'. -/
def auditKnownCard : Claim7 := { stood := { row := auditKnownRow, standIns := [], harness := (true, "cec21cfbafbdab4b05bcb734d75af25217adc31e1ef17bc2f99c153448c72360"), looks := false }, kinds := [], alts := [], laidByText := true, laidKinds := [.data, .data, .data, .pinned], laidTests := true, laidLooks := .later }
def AuditKnownCardSaid : Prop := Claim7.holds Tryd.pinned (.plain (OpenSpec.ofChange auditKnownSpec)) auditKnownCard

/-- THE TIED CARD OF 'posternlaw22.AuditFull'. -/
def auditFullCard : Claim7 := { stood := { row := auditFullRow, standIns := [], harness := (true, "cec21cfbafbdab4b05bcb734d75af25217adc31e1ef17bc2f99c153448c72360"), looks := false }, kinds := [], alts := [], laidByText := true, laidKinds := [.data, .data, .data, .pinned], laidTests := true, laidLooks := .later }
def AuditFullCardSaid : Prop := Claim7.holds Tryd.pinned (.plain (OpenSpec.ofChange auditFullSpec)) auditFullCard

/-- THE SECOND FORM's CARD OF 'posternlaw22.AuditKnown'. -/
def auditKnownUptoCard : Claim7 := { stood := { row := auditKnownUptoRow, standIns := [], harness := (true, "cec21cfbafbdab4b05bcb734d75af25217adc31e1ef17bc2f99c153448c72360"), looks := false }, kinds := [], alts := [], laidByText := true, laidKinds := [.data, .data, .data, .pinned], laidTests := true, laidLooks := .later }
def AuditKnownUptoCardSaid : Prop := Claim7.holds Tryd.pinned (.plain (OpenSpec.upto auditKnownSpec)) auditKnownUptoCard

/-- THE SECOND FORM's CARD OF 'posternlaw22.AuditFull'. -/
def auditFullUptoCard : Claim7 := { stood := { row := auditFullUptoRow, standIns := [], harness := (true, "cec21cfbafbdab4b05bcb734d75af25217adc31e1ef17bc2f99c153448c72360"), looks := false }, kinds := [], alts := [], laidByText := true, laidKinds := [.data, .data, .data, .pinned], laidTests := true, laidLooks := .later }
def AuditFullUptoCardSaid : Prop := Claim7.holds Tryd.pinned (.plain (OpenSpec.upto auditFullSpec)) auditFullUptoCard
end Rows
end Go.Proofs.YtecbgdnoblhldaaDoor
