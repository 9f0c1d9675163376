/-
  The proof of AuditStandsCardSaid in the program's model; no condition beside the card's own.
-/
import Derived.Test.YtecbgdnoblhldaaGreatDoorStC
import Derived.Lib.LaidTab
import Derived.MakeChecks

set_option linter.unusedSimpArgs false
set_option linter.unusedVariables false
set_option linter.unusedSectionVars false

namespace Go.Proofs.YtecbgdnoblhldaaGreatDoor.sd
open Go Go.Ab Go.Ab.Aud Go.Sha Go.Lib Go.ChangeShapes Go.WideShapes Go.ChangeAt Go.RowKit
set_option maxRecDepth 100000
theorem own : ownKnob Tryz.prog.godebug = none := by kernel_rfl
theorem laidOut : laidOutB Tryz.prog = true := by kernel_rfl
theorem recT : Tryz.prog.readableRec 112 = true := by kernel_rfl
theorem rowT : 112 < Tryz.prog.types.size := of_decide_eq_true (by kernel_rfl)
theorem contract (H : Type) (enc : TypeId × Value → H) (W : World) (base : Nat) (args : Array Value) (ds gs : List (DataW H)) (before : List MemPlace)
    (hval : ∀ (j : Nat) t v, Tryz.f9.params[j]? = some t → args[j]? = some v → Value.okWide Tryz.prog W .any base t v)
    (hW : DataW.Whole enc Tryz.prog Tryz.f9.params.toList Rows.auditStandsSpec.vars false W args.toList ds gs before)
    (hL : laidMet Tryz.prog Rows.auditStandsRow.laid W) :
    Calls Tryz.prog 9 args W fun e W' => ∃ v, e = .returned v ∧ Rows.auditStandsSpec.post enc Tryz.prog Tryz.f9 false true false false W args v W' := by
  have hW' := hW
  obtain ⟨p, q, hA0, hV, rfl, hfz, hnd⟩ := hW
  have hA : DataW.TrodAll enc Tryz.prog W 0 (fun _ => true) true Tryz.f9.params.toList args.toList ds p := hA0
  rw [Tryz.params9] at hA
  obtain ⟨v0, vs0, d0, ds0, p0, q0, hargs, rfl, rfl, t0, r0⟩ := trodAll_cons hA
  obtain ⟨rfl, rfl, rfl⟩ := trodAll_nil r0
  obtain rfl : args = #[v0] := Array.ext' hargs
  obtain ⟨rfl, rfl⟩ := trodVars_none hV
  obtain ⟨cs, rfl⟩ : ∃ cs, v0 = .agg ⟨cs⟩ := by
    obtain ⟨cs, h, _⟩ := okWide_struct Tryz.underlying112 (hval 0 112 v0 (by rw [Tryz.params9]; rfl) (by simp))
    exact ⟨cs.toList, by rw [h]⟩
  have t0' := t0
  obtain ⟨fuel, hf⟩ := t0
  clear hA0
  simp only [List.append_nil] at hW'
  have hlt : ∀ x ∈ p0, x.block < W.heap.size := fun x hx => by simpa using hW'.lt x hx
  obtain ⟨ps, hl, _⟩ := hL
  obtain ⟨c, o, hlaw⟩ := law hl (fun _ => rfl) hf
  refine (walk W o hlaw).mono ?_
  rintro e W' ⟨rfl, hb⟩
  exact ⟨_, rfl, post_below (pa := p0) (pv := []) hW' (fun _ _ _ => trodAll_cons_mk (shut_bool Tryz.underlying4 _) trodAll_mk0)
      (fun sp hsp => by
        have := trodAll_cons_mk (arg_below laidOut recT rowT t0' hb hlt sp hsp) (trodAll_mk0 (enc := enc) (P := Tryz.prog) (w := W'))
        have h2 : DataW.TrodAll enc Tryz.prog W' 0 sp true [112] [Value.agg ⟨cs⟩] [d0] p0 := by simpa using this
        exact h2)
      (fun _ _ => rfl) (by simp) hb (ok_one (by kernel_rfl) rfl (okWide_bool_mk Tryz.underlying4 _))⟩
end Go.Proofs.YtecbgdnoblhldaaGreatDoor.sd
