/-
  The proof of WireBackCardSaid in the program's model; no condition beside the card's own.
-/
import Derived.Test.YtbcadgoemkjbeaaDoorStB
import Derived.Lib.LaidTab
import Derived.MakeChecks
import Derived.SizedLaws

set_option linter.unusedSimpArgs false
set_option linter.unusedVariables false
set_option linter.unusedSectionVars false

namespace Go.Proofs.YtbcadgoemkjbeaaDoor.wb
open Go Go.Ab Go.Ab.Aud Go.Sha Go.Lib Go.ChangeShapes Go.WideShapes Go.ChangeAt Go.RowKit
set_option maxRecDepth 100000
theorem own : ownKnob Tryd.prog.godebug = none := by kernel_rfl
theorem laidOut : laidOutB Tryd.prog = true := by kernel_rfl
theorem recT : Tryd.prog.readableRec 33 = true := by kernel_rfl
theorem rowT : 33 < Tryd.prog.types.size := of_decide_eq_true (by kernel_rfl)
theorem contract (H : Type) (enc : TypeId × Value → H) (W : World) (base : Nat) (args : Array Value) (ds gs : List (DataW H)) (before : List MemPlace)
    (hval : ∀ (j : Nat) t v, Tryd.f4.params[j]? = some t → args[j]? = some v → Value.okWide Tryd.prog W .any base t v)
    (hW : DataW.Whole enc Tryd.prog Tryd.f4.params.toList Rows.wireBackSpec.vars false W args.toList ds gs before)
    (hz : (DataW.weightsEach Tryd.prog (Tryd.f4.params.toList ++ (OpenSpec.ofChange Rows.wireBackSpec).bare.plain.varTypes Tryd.prog) (ds ++ gs)).all (· ≤ reachBytes) = true)
    (hL : laidMet Tryd.prog Rows.wireBackRow.laid W) :
    Calls Tryd.prog 4 args W fun e W' => ∃ v, e = .returned v ∧ Rows.wireBackSpec.post enc Tryd.prog Tryd.f4 false true false false W args v W' := by
  have hW' := hW
  obtain ⟨p, q, hA0, hV, rfl, hfz, hnd⟩ := hW
  have hA : DataW.TrodAll enc Tryd.prog W 0 (fun _ => true) true Tryd.f4.params.toList args.toList ds p := hA0
  rw [Tryd.params4] at hA
  obtain ⟨v0, vs0, d0, ds0, p0, q0, hargs, rfl, rfl, t0, r0⟩ := trodAll_cons hA
  obtain ⟨rfl, rfl, rfl⟩ := trodAll_nil r0
  obtain rfl : args = #[v0] := Array.ext' hargs
  obtain ⟨rfl, rfl⟩ := trodVars_none hV
  obtain ⟨cs, rfl⟩ : ∃ cs, v0 = .agg ⟨cs⟩ := by
    obtain ⟨cs, h, _⟩ := okWide_struct Tryd.underlying33 (hval 0 33 v0 (by rw [Tryd.params4]; rfl) (by simp))
    exact ⟨cs.toList, by rw [h]⟩
  have t0' := t0
  obtain ⟨fuel, hf⟩ := t0
  clear hA0
  simp only [List.append_nil] at hW'
  have hlt : ∀ x ∈ p0, x.block < W.heap.size := fun x hx => by simpa using hW'.lt x hx
  have hw : ∀ n, n ∈ d0.weights Tryd.prog 33 → n ≤ reachBytes := fun n hn => by
    have := List.all_eq_true.1 hz n (DataW.weights_mem_each (j := 0) (t := 33) (d := d0) (by rw [Tryd.params4]; rfl) rfl n hn)
    simpa using this
  obtain ⟨c, o, hlaw⟩ := law hL (fun _ => rfl) hw hf
  refine (walk W o hlaw).mono ?_
  rintro e W' ⟨rfl, hb⟩
  exact ⟨_, rfl, post_below (pa := p0) (pv := []) hW' (fun _ _ _ => trodAll_cons_mk (shut_bool Tryd.underlying4 _) trodAll_mk0)
      (fun sp hsp => by
        have := trodAll_cons_mk (arg_below laidOut recT rowT t0' hb hlt sp hsp) (trodAll_mk0 (enc := enc) (P := Tryd.prog) (w := W'))
        have h2 : DataW.TrodAll enc Tryd.prog W' 0 sp true [33] [Value.agg ⟨cs⟩] [d0] p0 := by simpa using this
        exact h2)
      (fun _ _ => rfl) (by simp) hb (ok_one (by kernel_rfl) rfl (okWide_bool_mk Tryd.underlying4 _))⟩
end Go.Proofs.YtbcadgoemkjbeaaDoor.wb
