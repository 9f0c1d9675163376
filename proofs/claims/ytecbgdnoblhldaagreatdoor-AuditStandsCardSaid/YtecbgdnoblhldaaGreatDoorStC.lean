/-
  The proof of AuditStandsCardSaid in the program's model; no condition beside the card's own.
-/
import Derived.Test.YtecbgdnoblhldaaGreatDoorStB
import Derived.Lib.LaidTab
import Derived.Test.YtecbgdnoblhldaaGreatDoorCards
import Derived.Test.YtecbgdnoblhldaaGreatDoorTie
import Derived.OpenShut
import Derived.Deep.DeepHandedRow
import Derived.ChangeSlices
import Derived.WalkKit
import Derived.ProofKit

set_option linter.unusedSimpArgs false
set_option linter.unusedVariables false
set_option linter.unusedSectionVars false

namespace Go.Proofs.YtecbgdnoblhldaaGreatDoor.sd
open Go Go.Ab Go.Ab.Aud Go.Sha Go.Lib
set_option maxRecDepth 100000
theorem tab_of {P : Program} {W : World} {name : String} {k : IntKind} {zs : List Int} {rest : List (String × DataW Unit)} {ps : List MemPlace} {g : Nat} {t e : TypeId} {n : Nat}
    (hg : P.globalNamed name = some g) (hty : (P.globals[g]?).map (·.type) = some t) (ht : P.underlying t = some (.array n e)) (he : P.underlying e = some (.int k)) (hce : P.cellsOf e = 1) (hct : P.cellsOf t = n)
    (h : DataW.LaidVars P W ((name, tabData k zs) :: rest) ps) : TabIs P W name k zs := by
  obtain ⟨g', t', cs, fuel, p, q, hg', ht', hvar, hd, _, _⟩ := h
  obtain rfl := Option.some.inj (hg.symm.trans hg')
  obtain rfl := Option.some.inj (hty.symm.trans ht')
  unfold TabIs
  rw [hvar, ← cells_of_tab ht he hce hct hd]
theorem laid_tail {P : Program} {W : World} {x : String × DataW Unit} {rest : List (String × DataW Unit)} {ps : List MemPlace} (h : DataW.LaidVars P W (x :: rest) ps) : ∃ q, DataW.LaidVars P W rest q := by
  obtain ⟨n, d⟩ := x
  obtain ⟨g', t', cs, fuel, p, q, _, _, _, _, h, _⟩ := h
  exact ⟨q, h⟩
def zsK : List Int := List.map (fun n : Nat => (n : Int)) kNat
def zsP : List Int := (List.range 16).map fun j => ((crcW j).toNat : Int)
theorem keysIs : (Rows.laid_postern_digest_keys : DataW Unit) = tabData .u32 zsK := by kernel_rfl
theorem partIs : (Rows.laid_postern_record_part : DataW Unit) = tabData .u32 zsP := by kernel_rfl
theorem gK : Tryz.prog.globalNamed "postern/digest.keys" = some 0 := by kernel_rfl
theorem gP : Tryz.prog.globalNamed "postern/record.part" = some 1 := by kernel_rfl
theorem hkOk {W : World} {r : List (String × DataW Unit)} {ps : List MemPlace} {e : TypeId} (ht : Tryz.prog.underlying 257 = some (.array 64 e)) (he : Tryz.prog.underlying e = some (.int .u32)) (hce : Tryz.prog.cellsOf e = 1) (h : DataW.LaidVars Tryz.prog W (("postern/digest.keys", Rows.laid_postern_digest_keys) :: r) ps) : ∀ j, j < 64 → oldOf W 0 j = some (wv (kW j)) := by
  rw [keysIs] at h
  have t := tab_of gK (t := 257) (by kernel_rfl) ht he hce (by kernel_rfl) h
  intro j hj
  have c := t.cell gK j hj
  refine oldOf_cell c ?_
  have : ∀ j, j < 64 → zsK.getD j 0 = ((kW j).toNat : Int) := by decide +kernel
  rw [this j hj]
  rfl
theorem hpOk {W : World} {a b : String × DataW Unit} {r : List (String × DataW Unit)} {ps : List MemPlace} {e : TypeId} (ht : Tryz.prog.underlying 373 = some (.array 16 e)) (he : Tryz.prog.underlying e = some (.int .u32)) (hce : Tryz.prog.cellsOf e = 1) (h : DataW.LaidVars Tryz.prog W (a :: b :: ("postern/record.part", Rows.laid_postern_record_part) :: r) ps) : ∀ j, j < 16 → oldOf W 1 j = some (wv (crcW j)) := by
  obtain ⟨_, h⟩ := laid_tail h
  obtain ⟨_, h⟩ := laid_tail h
  rw [partIs] at h
  have t := tab_of gP (t := 373) (by kernel_rfl) ht he hce (by kernel_rfl) h
  intro j hj
  have c := t.cell gP j hj
  refine oldOf_cell c ?_
  have : ∀ j, j < 16 → zsP.getD j 0 = ((crcW j).toNat : Int) := by decide +kernel
  rw [this j hj]
  rfl
end Go.Proofs.YtecbgdnoblhldaaGreatDoor.sd

namespace Go.Proofs.YtecbgdnoblhldaaGreatDoor.sd
open Go Go.Ab Go.Ab.Aud Go.Sha Go.Lib
set_option maxRecDepth 100000
theorem law {W : World} {b : String × DataW Unit} {r : List (String × DataW Unit)} {ps : List MemPlace} (hL : DataW.LaidVars Tryz.prog W (("postern/digest.keys", Rows.laid_postern_digest_keys) :: b :: ("postern/record.part", Rows.laid_postern_record_part) :: r) ps)
    {H : Type} {enc : TypeId × Value → H} {spare : Nat → Bool} {held : Bool} {fuel : Nat} {cs : List Value} {x : DataW H × List MemPlace} (hsp : ∀ b, spare b = true) (h : DataW.trod enc Tryz.prog W 0 spare held fuel 112 cs = some x) :
    ∃ c, OldCells cs c ∧ ∃ g, D (Cx (oldOf W)) 9 [.agg ⟨c⟩] ⟨[], 0⟩ = some (.bool true, g) := by
  obtain ⟨rv, tv, za, zk, zg, rowsA, rowsT, o, a1, a2⟩ := au.power_arg hsp h
  have hk := hkOk Tryz.underlying257 (by kernel_rfl) (by kernel_rfl) hL
  have hp := hpOk Tryz.underlying373 (by kernel_rfl) (by kernel_rfl) hL
  exact ⟨_, o, stands_all (T_LLog (oldOf W)) (T_LStan (oldOf W)) (T_LOpen (oldOf W)) (T_LGrow (oldOf W)) (T_LDig (oldOf W)) (T_LLaw (oldOf W)) hk hp (freeY _) (freeT _) ⟨[], 0⟩ (Nat.le_refl _) rv tv za zk zg rowsA rowsT a1 a2 (nAudit _) (nA _)⟩
end Go.Proofs.YtecbgdnoblhldaaGreatDoor.sd

namespace Go.Proofs.YtecbgdnoblhldaaGreatDoor.sd
open Go Go.Ab Go.Ab.Aud Go.Sha Go.Lib Go.ChangeShapes Go.WideShapes Go.ChangeAt Go.RowKit
theorem OldCells.rel {cs c : List Value} (o : OldCells cs c) (m : Mu) : VRel m (.agg ⟨c⟩) (.agg ⟨cs⟩) := by
  refine .agg _ _ o.1.symm fun i a b ha hb => ?_
  obtain ⟨y, hy, hc⟩ := o.2 i b hb
  rw [hc] at ha
  cases ha
  exact oldV_rel hy m
theorem walk (W : World) {cs c : List Value} (o : OldCells cs c) (hl : ∃ g, D (Cx (oldOf W)) 9 [.agg ⟨c⟩] ⟨[], 0⟩ = some (.bool true, g)) :
    Calls Tryz.prog 9 #[.agg ⟨cs⟩] W fun e w' => e = .returned (.bool true) ∧ Below W.heap.size W w' := by
  obtain ⟨g, hl⟩ := hl
  have h := D_calls (envOk W) (t9 (oldOf W)) hl (by simp [isUnd]) (VRelL.cons (OldCells.rel o _) (VRelL.nil _)) (HRel.bare W)
  refine h.mono fun e w' he => ?_
  cases e with
  | returned v =>
    obtain ⟨m, h1, h2, h3, h4⟩ := he
    cases h3
    exact ⟨rfl, h1.below⟩
  | panicked => exact he.elim
  | outgrown => exact he.elim
end Go.Proofs.YtecbgdnoblhldaaGreatDoor.sd
