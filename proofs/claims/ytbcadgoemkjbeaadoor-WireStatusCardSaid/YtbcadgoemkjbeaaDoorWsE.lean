/-
  WireStatus answers true for every row of numbers, and the row reads afterwards as before: the tied card; no condition beside the card's own.
-/
import Derived.Test.YtbcadgoemkjbeaaDoorWsC
import Derived.Test.YtbcadgoemkjbeaaDoorWsD
import Derived.Test.YtbcadgoemkjbeaaDoorAbC
import Derived.WalkKit
import Derived.ProofKit
import Derived.OpenShut
import Derived.Deep.DeepHandedRow
import Derived.Lib.LaidTab
import Derived.ChangeSlices
import Derived.Lay

set_option linter.unusedSimpArgs false
set_option linter.unusedVariables false
set_option linter.unusedSectionVars false

namespace Go.Proofs.YtbcadgoemkjbeaaDoor.ws
open Go Go.Ab
theorem fin1 (old : Old) (t : List Value) : R (Cx old) r3 [.code rest2] t [] h0 = some (.bool true, h0) := by
  refine R_seq.trans ?_
  refine R_ops.trans ?_
  refine (R_call (v := .bool true) (h' := h0) rfl rfl (f := 7) (args := []) (by simp [target, okArgs]) (works old)).trans ?_
  refine (R_op (v := .bool true) (h' := h0) rfl rfl (by simp [aexec, AArg.ev, tg_putD]) rfl).trans ?_
  refine R_nil.trans ?_
  refine R_ret.trans ?_
  simp [resultsA, r3, resV, tg_putD]
theorem fin2 (old : Old) (t : List Value) : R (Cx old) r3 [.code rest1] t [] h0 = some (.bool true, h0) := by
  refine R_seq.trans ?_
  refine R_seq.trans ?_
  refine R_ops.trans ?_
  refine (R_op (v := .int .i64 0) (h' := h0) rfl rfl (by simp [aexec, AArg.ev]) rfl).trans ?_
  refine R_nil.trans ?_
  refine R_block.trans ?_
  refine R_loop.trans ?_
  exact loop2 old _ (fin1 old) 300 0 _ rfl (by simp [tg_putD])
/-- the law, in the abstract machine -/
theorem law (old : Old) (s : Value) (hs : s = .slice none 0 0 ∨ ∃ a n c, s = .slice (some a) n c ∧ (n = 0 ∨ a.spot = none) ∧ n < 2 ^ 63 ∧ ∀ i, i < n → ∃ x, old a.block (a.off + i) = some (.int .i64 x)) :
    D (Cx old) 3 [s] h0 = some (.bool true, h0) := by
  refine (D_fn (by rw [T3, a3_eq]) [s]).trans ?_
  refine R_seq.trans ?_
  refine R_ops.trans ?_
  refine (R_op (v := .bool false) (h' := h0) rfl rfl (by simp [aexec, AArg.ev]) rfl).trans ?_
  refine R_nil.trans ?_
  refine R_seq.trans ?_
  refine R_seq.trans ?_
  refine R_ops.trans ?_
  refine (R_op (v := .int .i64 0) (h' := h0) rfl rfl (by simp [aexec, AArg.ev]) rfl).trans ?_
  refine R_nil.trans ?_
  refine R_block.trans ?_
  refine R_loop.trans ?_
  rcases hs with rfl | ⟨a, n, c, rfl, hsp, hn, ho⟩
  · exact loopNil old _ (fin2 old) _ (by simp [tg_putD, tg]) (by simp [tg_putD])
  · exact loop1 old _ a n c ho (fun h => hsp.resolve_left h) hn (fin2 old) n 0 _ (by omega) (by simp [tg_putD, tg]) (by simp [tg_putD])
end Go.Proofs.YtbcadgoemkjbeaaDoor.ws

namespace Go.Proofs.YtbcadgoemkjbeaaDoor.ws
open Go Go.Ab Go.ChangeShapes Go.WideShapes Go.ChangeAt Go.RowKit
theorem own : ownKnob Tryd.prog.godebug = none := by kernel_rfl
theorem cells3 : Tryd.prog.cellsOf 3 = 1 := by kernel_rfl
theorem laidOut : laidOutB Tryd.prog = true := by kernel_rfl
theorem rec22 : Tryd.prog.readableRec 22 = true := by kernel_rfl
theorem row22 : 22 < Tryd.prog.types.size := of_decide_eq_true (by kernel_rfl)

/-- the call, from a world in which the argument is a row of numbers -/
theorem walk (W : World) (s : Value) (sa : Value) (hr : VRel (fun _ _ => none) sa s) (hu : isUnd sa = false)
    (hs : sa = .slice none 0 0 ∨ ∃ a n c, sa = .slice (some a) n c ∧ (n = 0 ∨ a.spot = none) ∧ n < 2 ^ 63 ∧ ∀ i, i < n → ∃ x, oldOf W a.block (a.off + i) = some (.int .i64 x)) :
    Calls Tryd.prog 3 #[s] W fun e w' => e = .returned (.bool true) ∧ Below W.heap.size W w' := by
  have h := D_calls (envOk W) (T3 (oldOf W)) (law (oldOf W) sa hs) (by simp [hu]) (VRelL.cons hr (VRelL.nil _)) (HRel.bare W)
  refine h.mono fun e w' he => ?_
  cases e with
  | returned v =>
    obtain ⟨m, h1, h2, h3, h4⟩ := he
    cases h3
    exact ⟨rfl, h1.below⟩
  | panicked => exact he.elim
  | outgrown => exact he.elim

set_option maxRecDepth 100000 in
theorem contract (H : Type) (enc : TypeId × Value → H) (W : World) (base : Nat) (args : Array Value) (ds gs : List (DataW H)) (before : List MemPlace)
    (hval : ∀ (j : Nat) t v, Tryd.f3.params[j]? = some t → args[j]? = some v → Value.okWide Tryd.prog W .any base t v)
    (hW : DataW.Whole enc Tryd.prog Tryd.f3.params.toList Rows.wireStatusSpec.vars false W args.toList ds gs before) :
    Calls Tryd.prog 3 args W fun e W' => ∃ v, e = .returned v ∧ Rows.wireStatusSpec.post enc Tryd.prog Tryd.f3 false true false false W args v W' := by
  have hW' := hW
  obtain ⟨p, q, hA0, hV, rfl, hfz, hnd⟩ := hW
  have hA : DataW.TrodAll enc Tryd.prog W 0 (fun _ => true) true Tryd.f3.params.toList args.toList ds p := hA0
  rw [Tryd.params3] at hA
  obtain ⟨v0, vs0, d0, ds0, p0, q0, hargs, rfl, rfl, t0, r0⟩ := trodAll_cons hA
  obtain ⟨rfl, rfl, rfl⟩ := trodAll_nil r0
  obtain rfl : args = #[v0] := Array.ext' hargs
  obtain ⟨rfl, rfl⟩ := trodVars_none hV
  obtain ⟨a0, len, cap, rfl⟩ := okWide_slice (P := Tryd.prog) (w := W) (r := .any) (base := base) (t := 22) (e := 3) Tryd.underlying22 (hval 0 22 v0 (by rw [Tryd.params3]; rfl) (by simp))
  have t0' := t0
  obtain ⟨fuel, hf⟩ := t0
  clear hA0
  simp only [List.append_nil] at hW'
  have hlt : ∀ x ∈ p0, x.block < W.heap.size := fun x hx => by simpa using hW'.lt x hx
  have close : ∀ (e : Ending) (W' : World), (e = .returned (.bool true) ∧ Below W.heap.size W W') → ∃ v, e = .returned v ∧ Rows.wireStatusSpec.post enc Tryd.prog Tryd.f3 false true false false W #[.slice a0 len cap] v W' := by
    rintro e W' ⟨rfl, hb⟩
    exact ⟨_, rfl, post_below (pa := p0) (pv := []) hW' (fun _ _ _ => trodAll_cons_mk (shut_bool Tryd.underlying4 _) trodAll_mk0)
      (fun sp hsp => by
        have := trodAll_cons_mk (arg_below laidOut rec22 row22 t0' hb hlt sp hsp) (trodAll_mk0 (enc := enc) (P := Tryd.prog) (w := W'))
        have h2 : DataW.TrodAll enc Tryd.prog W' 0 sp true [22] [Value.slice a0 len cap] [d0] p0 := by simpa using this
        exact h2)
      (fun _ _ => rfl) (by simp) hb (ok_one (by kernel_rfl) rfl (okWide_bool_mk Tryd.underlying4 _))⟩
  rcases open_ints Tryd.underlying22 Tryd.underlying3 cells3 hf with ⟨hcs, hx⟩ | ⟨a, len', cap', zs, hcs, _, hl, hm, hz, hx, hcell, hwz⟩
  · simp [Value.cells] at hcs
    obtain ⟨rfl, rfl, rfl⟩ := hcs
    exact (walk W _ _ .slNil rfl (.inl rfl)).mono close
  · simp [Value.cells] at hcs
    obtain ⟨rfl, rfl, rfl⟩ := hcs
    simp only [if_true] at hz
    have hmax : maxLen < 2 ^ 63 := by decide
    by_cases hc0 : cap = 0
    · subst hc0
      have hl0 : len = 0 := by omega
      subst hl0
      exact (walk W _ emptySl (.slEmpty _ _ _) rfl (.inr ⟨_, 0, 0, rfl, .inl rfl, by omega, fun i hi => by omega⟩)).mono close
    · have hsp : a.spot = none := by
        have := hcell 0 (by omega)
        unfold World.cell? at this
        split at this
        · split at this
          · cases this
          · rename_i h
            have : (a.add 0).spot = a.spot := by simp [Addr.add]
            rw [this] at h
            simpa using h
        · cases this
      refine (walk W _ _ (.slOld a len cap hsp) rfl (.inr ⟨a, len, cap, rfl, .inr hsp, by omega, fun i hi => ⟨zs.getD i 0, ?_⟩⟩)).mono close
      have := hcell i (by omega)
      rw [add_of_none hsp] at this
      have ha : (⟨a.block, a.off + i, a.spot⟩ : Addr) = ⟨a.block, a.off + i, none⟩ := by rw [hsp]
      exact oldOf_of (by simpa [ha] using this) rfl
end Go.Proofs.YtbcadgoemkjbeaaDoor.ws

namespace Go.Proofs.YtbcadgoemkjbeaaDoor.ws
open Go Go.Ab Go.ChangeShapes Go.WideShapes Go.ChangeAt Go.RowKit
noncomputable abbrev w0 (os : Os) : World := World.laidAll Tryd.prog os Rows.wireStatusRow.laid
theorem reads (os : Os) {H : Type} (enc : TypeId × Value → H) : ∃ places, DataW.whole enc Tryd.prog ((w0 os).forCall (fun _ _ => 0) ⟨#[], #[.slice none 0 0], []⟩).memory Tryd.f3.params.toList Rows.wireStatusSpec.vars false #[Value.slice none 0 0].toList 8 = some ([.nil], [], places) :=
  ⟨[], by kernel_rfl⟩
theorem laid_met (os : Os) : laidMetH Tryd.prog Rows.wireStatusRow.laid ((w0 os).forCall (fun _ _ => 0) ⟨#[], #[.slice none 0 0], []⟩).memory := by
  rw [MakeChecks.laidMetH_plain _ _ _ (by kernel_rfl)]
  exact laidMet_laidAll _ (by kernel_rfl) (by kernel_rfl)

/-- a start that fits, by its shape -/
theorem witness_row_shaped {H : Type} {enc : TypeId × Value → H} {C : Checked} {os : Os} {f : FuncId} {fn : Func} {s : OpenSpec} {conds : List PathCond} {apart : Bool} {laid : List (String × DataW Unit)} (modest : Bool) (w0 : World) (args : Array Value) (hos : w0.os = os)
    (hsh : (w0.forCall (fun _ _ => 0) ⟨#[], args, []⟩).Shaped C.prog)
    (hok : Input.okWideB C.prog (w0.forCall (fun _ _ => 0) ⟨#[], args, []⟩) f ⟨#[], args, []⟩ = true)
    (hrow : s.preRow enc C.prog fn conds apart laid (w0.forCall (fun _ _ => 0) ⟨#[], args, []⟩).memory args) :
    ∃ (w : World) (tape : Tape) (i : Input), w.os = os ∧ (w.forCall tape i).Shaped C.prog ∧ i.vars = [] ∧ Input.okWide C.prog (w.forCall tape i) .any w.heap.size f i ∧
      s.preRow enc C.prog fn conds apart laid (w.forCall tape i).memory i.args ∧ ({ modest := modest } : Assume).holds C.prog (lone (Frame.enter C.prog f i.args .normal) [] (w.forCall tape i)) :=
  ⟨w0, fun _ _ => 0, ⟨#[], args, []⟩, hos, hsh, (Input.okWide_of_okWideB (base := 0) hok).1, (Input.okWide_of_okWideB hok).2, hrow, by
    simp only [Assume.holds]
    exact ⟨by simp, by simp, fun _ => Modest.zero, by simp, by simp⟩⟩

set_option maxRecDepth 100000 in
theorem lifted (os : Os) (started : os.Started) (H : Type) (enc : TypeId × Value → H) (F : Stop.Interp) :
    ReturnsInHanded {} Tryd.checked os 3 .any ((OpenSpec.ofChange Rows.wireStatusSpec).preRow enc Tryd.prog Tryd.f3 Rows.wireStatusRow.domain false Rows.wireStatusRow.laid) (((OpenSpec.ofChange Rows.wireStatusSpec).at F).post enc Tryd.prog Tryd.f3 false true false false) := by
  obtain ⟨places, hx⟩ := reads os enc
  refine returnsInHanded_of_row (C := Tryd.checked) (s := OpenSpec.ofChange Rows.wireStatusSpec) own started (by kernel_rfl) Tryd.func3
    (witness_row_shaped (enc := enc) (C := Tryd.checked) false (w0 os) #[.slice none 0 0] (World.laidAll_os _ _ _) (World.shaped_of_ZipB (by kernel_rfl) (by kernel_rfl)) (by kernel_rfl)
      (OpenSpec.preRow_of_cond 8 hx (by kernel_rfl) (fun k hk => by cases hk) (by kernel_rfl) (laid_met os))) ?_
  intro W base args ds gs before hval hW _ _ _ hL _ _
  exact contract H enc W base args ds gs before hval hW

set_option maxRecDepth 100000 in
theorem said : Rows.WireStatusSaid :=
  OpenClaim.holds_of_cond 3 Tryd.f3 rfl rfl rfl rfl rfl rfl rfl ⟨rfl, rfl, rfl, rfl, rfl⟩ rfl rfl rfl rfl rfl (by kernel_rfl) Tryd.func3 (by kernel_rfl)
    (of_decide_eq_true (by kernel_rfl)) (by unfold Func.isWrapper; first | (rw [if_pos (by decide +kernel)]; kernel_rfl) | (rw [if_neg (by decide +kernel)]; exact ⟨rfl, rfl⟩))
    (fun os started H enc _ F => by rw [OpenClaim.pre_eq_preRow]; exact lifted os started H enc F)

theorem plain (f : FuncId) (fn : Func) (hf : Tryd.pinned.checked.prog.funcNamed "postern/posternlaw18.WireStatus" = some f) (hfn : Tryd.pinned.checked.prog.funcs[f]? = some fn) :
    false = Tryd.pinned.checked.prog.looks [] ∧ ∀ (j : Nat) t, fn.params[j]? = some t → Tryd.pinned.checked.prog.wantsStandIn t = false := by
  obtain rfl : f = 3 := Option.some.inj ((show Tryd.prog.funcNamed "postern/posternlaw18.WireStatus" = some 3 by kernel_rfl).symm.trans hf) |>.symm
  obtain rfl : fn = Tryd.f3 := (Option.some.inj (Tryd.func3.symm.trans hfn)).symm
  refine ⟨by kernel_rfl, fun j t ht => ?_⟩
  rw [Tryd.params3] at ht
  obtain rfl : t = 22 := by simpa using Array.mem_of_getElem? ht
  exact (show Tryd.prog.wantsStandIn 22 = false by kernel_rfl)

theorem card : Rows.WireStatusCardSaid :=
  Claim7.holds_tied_plain_at .later [] _ _ _ _ said (fun _ h => by cases h) (by kernel_rfl) (fun _ h => by cases h) wireStatus_row_tie rfl ⟨rfl, rfl⟩ (by kernel_rfl) rfl plain (by kernel_rfl)
end Go.Proofs.YtbcadgoemkjbeaaDoor.ws
