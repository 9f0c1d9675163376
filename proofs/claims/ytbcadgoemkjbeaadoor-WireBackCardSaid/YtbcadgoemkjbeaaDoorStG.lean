/-
  The proof of WireBackCardSaid in the program's model; no condition beside the card's own.
-/
import Derived.Test.YtbcadgoemkjbeaaDoorStF
import Derived.Test.YtbcadgoemkjbeaaDoorStD

set_option linter.unusedSimpArgs false
set_option linter.unusedVariables false
set_option linter.unusedSectionVars false

namespace Go.Proofs.YtbcadgoemkjbeaaDoor.wb
open Go Go.Ab Go.Ab.Aud Go.Sha Go.Lib Go.ChangeShapes Go.WideShapes Go.ChangeAt Go.RowKit
set_option maxRecDepth 100000
theorem said_d : Func.isWrapper Tryd.pinned.checked.prog Tryd.f4 Rows.wireBackRow.wrapper Rows.wireBackRow.mainSum := by
  unfold Func.isWrapper; first | (rw [if_pos (by decide +kernel)]; kernel_rfl) | (rw [if_neg (by decide +kernel)]; exact ⟨rfl, rfl⟩)
end Go.Proofs.YtbcadgoemkjbeaaDoor.wb

namespace Go.Proofs.YtbcadgoemkjbeaaDoor.wb
open Go Go.Ab Go.Ab.Aud Go.Sha Go.Lib Go.ChangeShapes Go.WideShapes Go.ChangeAt Go.RowKit
set_option maxRecDepth 100000
theorem said : Rows.WireBackSaid :=
  OpenClaim.holds_of_cond 4 Tryd.f4 rfl rfl rfl rfl rfl rfl rfl ⟨rfl, rfl, rfl, rfl, rfl⟩ rfl rfl rfl rfl rfl said_a Tryd.func4 said_b
    (of_decide_eq_true said_c) said_d
    (fun os started H enc _ F => by rw [OpenClaim.pre_eq_preRow]; exact lifted os started H enc F)
end Go.Proofs.YtbcadgoemkjbeaaDoor.wb
