/-
  The proof of AuditStandsCardSaid in the program's model; no condition beside the card's own.
-/
import Derived.Test.YtecbgdnoblhldaaGreatDoorStA

set_option linter.unusedSimpArgs false
set_option linter.unusedVariables false
set_option linter.unusedSectionVars false

namespace Go.Proofs.YtecbgdnoblhldaaGreatDoor.sd
open Go Go.Ab Go.Ab.Aud Go.Sha
def isT0 : Res → Bool
  | some (.bool true, ⟨[], 0⟩) => true
  | _ => false
theorem isT0_spec {r : Res} (h : isT0 r = true) : r = some (.bool true, ⟨[], 0⟩) := by
  unfold isT0 at h
  split at h
  · rfl
  · cases h
theorem name1 (old : Old) : isT0 (doCall (Cx old) (run (Cx old) 60) 147 [.string ⟨⟨[97]⟩⟩] ⟨[], 0⟩) = true := by kernel_rfl
theorem name2 (old : Old) : isT0 (doCall (Cx old) (run (Cx old) 60) 147 [.string ⟨⟨[97, 117, 100, 105, 116]⟩⟩] ⟨[], 0⟩) = true := by kernel_rfl
theorem name_any {C : Ctx} {v : Value} (T : C.T 147 = some (.fn a147)) (hv : flat v = true) (h : D C 147 [v] ⟨[], 0⟩ = some (.bool true, ⟨[], 0⟩)) (g : AHeap) : D C 147 [v] g = some (.bool true, g) := by
  rw [D_fn3 T _ (by simp [hv])] at h ⊢
  unfold pur at h ⊢
  split at h
  · rename_i x y e
    split at h
    · cases h
      simp [flat, flat2, flat1]
    · cases h
  · cases h
theorem nA (old : Old) (g : AHeap) : D (Cx old) 147 [str nmA] g = some (.bool true, g) := name_any (t147 old) rfl (D_of_run (isT0_spec (name1 old))) g
theorem nAudit (old : Old) (g : AHeap) : D (Cx old) 147 [str nmAudit] g = some (.bool true, g) := name_any (t147 old) rfl (D_of_run (isT0_spec (name2 old))) g
end Go.Proofs.YtecbgdnoblhldaaGreatDoor.sd
