/-
  The proof of AuditSoundCardSaid in the program's model; no condition beside the card's own.
-/
import Derived.Test.YtecbgdnoblhldaaGreatDoorStD

set_option linter.unusedSimpArgs false
set_option linter.unusedVariables false
set_option linter.unusedSectionVars false

namespace Go.Proofs.YtecbgdnoblhldaaGreatDoor.so
open Go Go.Ab Go.Ab.Aud Go.Sha Go.Lib Go.ChangeShapes Go.WideShapes Go.ChangeAt Go.RowKit
set_option maxRecDepth 100000
theorem said_a : Tryz.pinned.checked.prog.funcNamed Rows.auditSoundRow.func = some 4 := by kernel_rfl
theorem said_c : decide (Func.isInstance Tryz.pinned.checked.prog Tryz.f4 Rows.auditSoundRow.origin Rows.auditSoundRow.targs) = true := by kernel_rfl
end Go.Proofs.YtecbgdnoblhldaaGreatDoor.so
