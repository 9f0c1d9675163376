/-
  The proof of AuditStandsCardSaid in the program's model; no condition beside the card's own.
-/
import Derived.Test.YtecbgdnoblhldaaGreatDoorStD

set_option linter.unusedSimpArgs false
set_option linter.unusedVariables false
set_option linter.unusedSectionVars false

namespace Go.Proofs.YtecbgdnoblhldaaGreatDoor.sd
open Go Go.Ab Go.Ab.Aud Go.Sha Go.Lib Go.ChangeShapes Go.WideShapes Go.ChangeAt Go.RowKit
set_option maxRecDepth 100000
theorem said_a : Tryz.pinned.checked.prog.funcNamed Rows.auditStandsRow.func = some 9 := by kernel_rfl
theorem said_c : decide (Func.isInstance Tryz.pinned.checked.prog Tryz.f9 Rows.auditStandsRow.origin Rows.auditStandsRow.targs) = true := by kernel_rfl
end Go.Proofs.YtecbgdnoblhldaaGreatDoor.sd
