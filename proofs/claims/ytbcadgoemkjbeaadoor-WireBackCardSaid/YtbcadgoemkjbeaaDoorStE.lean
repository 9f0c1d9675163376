/-
  The proof of WireBackCardSaid in the program's model; no condition beside the card's own.
-/
import Derived.Test.YtbcadgoemkjbeaaDoorStC

set_option linter.unusedSimpArgs false
set_option linter.unusedVariables false
set_option linter.unusedSectionVars false

namespace Go.Proofs.YtbcadgoemkjbeaaDoor.wb
open Go Go.Ab Go.Ab.Aud Go.Sha Go.Lib Go.ChangeShapes Go.WideShapes Go.ChangeAt Go.RowKit
set_option maxRecDepth 100000
theorem said_a : Tryd.pinned.checked.prog.funcNamed Rows.wireBackRow.func = some 4 := by kernel_rfl
theorem said_c : decide (Func.isInstance Tryd.pinned.checked.prog Tryd.f4 Rows.wireBackRow.origin Rows.wireBackRow.targs) = true := by kernel_rfl
end Go.Proofs.YtbcadgoemkjbeaaDoor.wb
