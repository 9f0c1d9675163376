/-
  The closed part of WireStatus, works(), answers true; no condition.
-/
import Derived.Test.YtbcadgoemkjbeaaDoorWsA

set_option linter.unusedSimpArgs false
set_option linter.unusedVariables false
set_option linter.unusedSectionVars false

namespace Go.Proofs.YtbcadgoemkjbeaaDoor.ws
open Go Go.Ab
def isT0 : Res → Bool
  | some (.bool true, ⟨[], 0⟩) => true
  | _ => false
theorem isT0_spec {r : Res} (h : isT0 r = true) : r = some (.bool true, ⟨[], 0⟩) := by
  unfold isT0 at h
  split at h
  · rfl
  · cases h
theorem works0 (old : Old) : isT0 (doCall (Cx old) (run (Cx old) 60) 7 [] ⟨[], 0⟩) = true := by kernel_rfl
theorem works (old : Old) : D (Cx old) 7 [] ⟨[], 0⟩ = some (.bool true, ⟨[], 0⟩) := D_of_run (isT0_spec (works0 old))
end Go.Proofs.YtbcadgoemkjbeaaDoor.ws
