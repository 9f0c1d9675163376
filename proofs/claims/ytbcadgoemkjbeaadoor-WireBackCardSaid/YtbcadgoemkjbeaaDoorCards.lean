/-
  DERIVED. GIVEN WITH THE SEED: THE CARDS: each row of YtbcadgoemkjbeaaDoorRows.lean that lists a variable, with what it lists TIED to the program's text (the seventh form; the later family's looks); each row that meets fmt, with fmt's text TOLD by the authors' own Lean function (tested against real Go, not proved from fmt's source: count such statements apart). THE CARD IS WHAT COUNTS. Prove the row's statement (the work); the ties are given (YtbcadgoemkjbeaaDoorTie.lean); close each card by the builder's one call (the guide's Derived/Test/ToyasCard.lean, 'card_holds'). Laid BY PROGRAM, IN A SANDBOX (cutbox-door.mjs). By AI agents, Wed Nov 11 2026. No macro, syntax, notation, axiom, sorry.
-/
import Derived.Test.YtbcadgoemkjbeaaDoorRows
import GoSem.ClaimSeven
namespace Go.Proofs.YtbcadgoemkjbeaaDoor
namespace Rows

/-- THE TIED CARD OF 'posternlaw18.WireStatus'. -/
def wireStatusCard : Claim7 := { stood := { row := wireStatusRow, standIns := [], harness := (true, "3cf6d298ce29c9262119dff77c23b3957ac1d5b10c0b336a90fe40c77d65769d"), looks := false }, kinds := [], alts := [], laidByText := true, laidKinds := [.data, .data, .data, .pinned, .pinned], laidTests := true, laidLooks := .later }
def WireStatusCardSaid : Prop := Claim7.holds Tryd.pinned (.plain (OpenSpec.ofChange wireStatusSpec)) wireStatusCard

/-- THE TIED CARD OF 'posternlaw18.WireBack'. -/
def wireBackCard : Claim7 := { stood := { row := wireBackRow, standIns := [], harness := (true, "3cf6d298ce29c9262119dff77c23b3957ac1d5b10c0b336a90fe40c77d65769d"), looks := false }, kinds := [], alts := [], laidByText := true, laidKinds := [.data, .data, .data, .pinned, .pinned], laidTests := true, laidLooks := .later }
def WireBackCardSaid : Prop := Claim7.holds Tryd.pinned (.plain (OpenSpec.ofChange wireBackSpec)) wireBackCard

/-- THE SECOND FORM's CARD OF 'posternlaw18.WireStatus'. -/
def wireStatusUptoCard : Claim7 := { stood := { row := wireStatusUptoRow, standIns := [], harness := (true, "3cf6d298ce29c9262119dff77c23b3957ac1d5b10c0b336a90fe40c77d65769d"), looks := false }, kinds := [], alts := [], laidByText := true, laidKinds := [.data, .data, .data, .pinned, .pinned], laidTests := true, laidLooks := .later }
def WireStatusUptoCardSaid : Prop := Claim7.holds Tryd.pinned (.plain (OpenSpec.upto wireStatusSpec)) wireStatusUptoCard

/-- THE SECOND FORM's CARD OF 'posternlaw18.WireBack'. -/
def wireBackUptoCard : Claim7 := { stood := { row := wireBackUptoRow, standIns := [], harness := (true, "3cf6d298ce29c9262119dff77c23b3957ac1d5b10c0b336a90fe40c77d65769d"), looks := false }, kinds := [], alts := [], laidByText := true, laidKinds := [.data, .data, .data, .pinned, .pinned], laidTests := true, laidLooks := .later }
def WireBackUptoCardSaid : Prop := Claim7.holds Tryd.pinned (.plain (OpenSpec.upto wireBackSpec)) wireBackUptoCard
end Rows
end Go.Proofs.YtbcadgoemkjbeaaDoor
