/-
  The proof of WireBackCardSaid in the program's model; no condition beside the card's own.
-/
import Derived.Test.YtbcadgoemkjbeaaDoorStA
import Derived.Lib.LaidU8
import Derived.Test.YtbcadgoemkjbeaaDoorCards
import Derived.Test.YtbcadgoemkjbeaaDoorTie
import Derived.OpenShut
import Derived.Deep.DeepHandedRow
import Derived.ChangeSlices
import Derived.WalkKit
import Derived.ProofKit

set_option linter.unusedSimpArgs false
set_option linter.unusedVariables false
set_option linter.unusedSectionVars false

namespace Go.Proofs.YtbcadgoemkjbeaaDoor.wb
open Go Go.Ab Go.Ab.Aud Go.Lib
set_option maxRecDepth 100000
theorem firstIs : (Rows.laid_unicode_utf8_first : DataW Unit) = firstData := by kernel_rfl
theorem acceptIs : (Rows.laid_unicode_utf8_acceptRanges : DataW Unit) = acceptData := by kernel_rfl
theorem gF : Tryd.prog.globalNamed "unicode/utf8.first" = some 0 := by kernel_rfl
theorem gA : Tryd.prog.globalNamed "unicode/utf8.acceptRanges" = some 1 := by kernel_rfl
theorem yF : (Tryd.prog.globals[0]?).map (·.type) = some 98 := by kernel_rfl
theorem yA : (Tryd.prog.globals[1]?).map (·.type) = some 101 := by kernel_rfl
theorem c5 : Tryd.prog.cellsOf 5 = 1 := by kernel_rfl
theorem c98 : Tryd.prog.cellsOf 98 = 256 := by kernel_rfl
theorem c100 : Tryd.prog.cellsOf 100 = 2 := by kernel_rfl
theorem bv_nat {n : Nat} (h : n < 256) : Value.int .u8 (n : Int) = bv (UInt8.ofNat n) := by
  unfold bv; rw [UInt8.toNat_ofNat', Nat.mod_eq_of_lt (by omega)]
theorem first_lt : ∀ b, b < 256 → firstT b < 256 := by decide
theorem acc_lt : ∀ k, k < 16 → accLo k < 256 ∧ accHi k < 256 := by decide
theorem u8Ok {W : World} (h3 : VarReads Tryd.prog W "unicode/utf8.first" firstData) (h4 : VarReads Tryd.prog W "unicode/utf8.acceptRanges" acceptData) : U8 (Cx (oldOf W)) := by
  have key : ∀ i, i < 16 → W.cell? ⟨1, 2 * i, none⟩ = some (.int .u8 (accLo i)) ∧ W.cell? ⟨1, 2 * i + 1, none⟩ = some (.int .u8 (accHi i)) := fun i hi => by
    obtain ⟨g, t, cs, fuel, p, hg, hty, hvar, hd⟩ := h4
    obtain rfl := Option.some.inj (gA.symm.trans hg)
    obtain rfl := Option.some.inj (yA.symm.trans hty)
    obtain ⟨fuel', d, q, hdi, he⟩ := array_elem Tryd.underlying101 hd i hi
    simp only [List.getElem?_map, List.getElem?_range hi, Option.map_some, Option.some.injEq] at hdi
    subst hdi
    rw [c100] at he
    have hcs := ints_of_struct Tryd.underlying100 (fun j f hj => by
      match j, hj with
      | 0, hj => simp at hj; subst hj; exact ⟨Tryd.underlying5, rfl, c5⟩
      | 1, hj => simp at hj; subst hj; exact ⟨Tryd.underlying5, rfl, c5⟩
      | j + 2, hj => simp at hj) (by rw [c100]; rfl) he
    have e0 := congrArg (·[0]?) hcs
    have e1 := congrArg (·[1]?) hcs
    simp only [List.getElem?_take, List.getElem?_drop] at e0 e1
    constructor
    · rw [World.var?_cell hg hvar (2 * i), ← Array.getElem?_toList]
      simpa [Nat.mul_comm] using e0
    · rw [World.var?_cell hg hvar (2 * i + 1), ← Array.getElem?_toList]
      simpa [Nat.mul_comm] using e1
  refine ⟨fun b hb => ?_, fun k hk => ?_, fun k hk => ?_⟩
  · obtain ⟨g, t, cs, fuel, p, hg, hty, hvar, hd⟩ := h3
    obtain rfl := Option.some.inj (gF.symm.trans hg)
    obtain rfl := Option.some.inj (yF.symm.trans hty)
    have hcs := cells_of_tab Tryd.underlying98 Tryd.underlying5 c5 c98 hd
    have c : W.cell? ⟨0, b, none⟩ = some (.int .u8 (firstT b)) := by
      rw [World.var?_cell hg hvar b, ← Array.getElem?_toList, hcs]
      simp [firstTab, hb]
    show oldOf W 0 b = _
    refine oldOf_cell c ?_
    rw [bv_nat (first_lt b hb)]; rfl
  · show oldOf W 1 (2 * k) = _
    refine oldOf_cell (key k hk).1 ?_
    rw [bv_nat (acc_lt k hk).1]; rfl
  · show oldOf W 1 (2 * k + 1) = _
    refine oldOf_cell (key k hk).2 ?_
    rw [bv_nat (acc_lt k hk).2]; rfl
theorem lies0 (old : Old) : (Cx old).lies 81 4 0 70 = true := by kernel_rfl
theorem lies2 (old : Old) : (Cx old).lies 81 4 2 70 = true := by kernel_rfl
theorem liesE (old : Old) : (Cx old).lies 70 2 0 70 = true := by kernel_rfl
end Go.Proofs.YtbcadgoemkjbeaaDoor.wb

namespace Go.Proofs.YtbcadgoemkjbeaaDoor.wb
open Go Go.Ab Go.Ab.Aud Go.Lib
set_option maxRecDepth 100000
theorem reach_lt : reachBytes < 2 ^ 50 := by decide
theorem c33 : Tryd.prog.cellsOf 33 = 4 := by kernel_rfl
theorem c29 : Tryd.prog.cellsOf 29 = 1 := by kernel_rfl
theorem c30 : Tryd.prog.cellsOf 30 = 1 := by kernel_rfl
theorem c31 : Tryd.prog.cellsOf 31 = 1 := by kernel_rfl
theorem c34 : Tryd.prog.cellsOf 34 = 1 := by kernel_rfl
theorem c9 : Tryd.prog.cellsOf 9 = 1 := by kernel_rfl
theorem c45 : Tryd.prog.cellsOf 45 = 2 := by kernel_rfl
theorem c53 : Tryd.prog.cellsOf 53 = 2 := by kernel_rfl
theorem b9 : 0 < Tryd.prog.bytesOf 9 := of_decide_eq_true (by kernel_rfl)
theorem b34 : 0 < Tryd.prog.bytesOf 34 := of_decide_eq_true (by kernel_rfl)
theorem b45 : 0 < Tryd.prog.bytesOf 45 := of_decide_eq_true (by kernel_rfl)
theorem b53 : 0 < Tryd.prog.bytesOf 53 := of_decide_eq_true (by kernel_rfl)
theorem law {W : World} (hL : laidMet Tryd.prog Rows.wireBackRow.laid W)
    {H : Type} {enc : TypeId × Value → H} {spare : Nat → Bool} {held : Bool} {fuel : Nat} {cs : List Value} {x : DataW H × List MemPlace} (hsp : ∀ b, spare b = true) (hw : ∀ n, n ∈ x.1.weights Tryd.prog 33 → n ≤ reachBytes) (h : DataW.trod enc Tryd.prog W 0 spare held fuel 33 cs = some x) :
    ∃ c, OldCells cs c ∧ ∃ g, D (Cx (oldOf W)) 4 [.agg ⟨c⟩] ⟨[], 0⟩ = some (.bool true, g) := by
  have hU := u8Ok (laidMet.reads hL (n := "unicode/utf8.first") (by rw [← firstIs]; simp [Rows.wireBackRow])) (laidMet.reads hL (n := "unicode/utf8.acceptRanges") (by rw [← acceptIs]; simp [Rows.wireBackRow]))
  obtain ⟨xs, m, _, hxe, hl, hxl, hx⟩ := DataW.trod_struct Tryd.underlying33 h
  rw [c33] at hl
  have hxl : xs.length = 4 := hxl
  match xs, hxl with
  | [x0, x1, x2, x3], _ =>
  match cs, hl with
  | [v0, v1, v2, v3], _ =>
  have h0 : DataW.trod enc Tryd.prog W 0 spare held m 29 (([v0, v1, v2, v3].drop 0).take (Tryd.prog.cellsOf 29)) = some x0 := hx 0 _ rfl
  have h1 : DataW.trod enc Tryd.prog W 0 spare held m 30 (([v0, v1, v2, v3].drop 1).take (Tryd.prog.cellsOf 30)) = some x1 := hx 1 _ rfl
  have h2 : DataW.trod enc Tryd.prog W 0 spare held m 29 (([v0, v1, v2, v3].drop 2).take (Tryd.prog.cellsOf 29)) = some x2 := hx 2 _ rfl
  have h3 : DataW.trod enc Tryd.prog W 0 spare held m 31 (([v0, v1, v2, v3].drop 3).take (Tryd.prog.cellsOf 31)) = some x3 := hx 3 _ rfl
  rw [c29] at h0 h2
  rw [c30] at h1
  rw [c31] at h3
  have hw' : ∀ n, n ∈ x0.1.weights Tryd.prog 29 ++ (x1.1.weights Tryd.prog 30 ++ (x2.1.weights Tryd.prog 29 ++ (x3.1.weights Tryd.prog 31 ++ []))) → n ≤ reachBytes := by
    rw [hxe] at hw
    simp only [DataW.weights, Tryd.underlying33] at hw
    exact hw
  obtain ⟨w0, av0, l0, e0, o0, a0⟩ := arg_texts reach_lt Tryd.underlying29 Tryd.underlying9 c9 b9 hsp (fun n hn => hw' n (by simp [hn])) h0
  obtain ⟨w1, av1, l1, e1, o1, a1⟩ := arg_rowsF reach_lt Tryd.underlying30 c34 b34 Tryd.underlying34 Tryd.underlying53 rfl rfl rfl rfl rfl Tryd.underlying9 c9 c53 b53 hsp (fun n hn => hw' n (by simp [hn])) h1
  obtain ⟨w2, av2, l2, e2, o2, a2⟩ := arg_texts reach_lt Tryd.underlying29 Tryd.underlying9 c9 b9 hsp (fun n hn => hw' n (by simp [hn])) h2
  obtain ⟨w3, av3, l3, e3, o3, a3⟩ := arg_pairs reach_lt Tryd.underlying31 Tryd.underlying45 rfl rfl rfl rfl rfl Tryd.underlying9 c9 c45 b45 hsp (fun n hn => hw' n (by simp [hn])) h3
  simp at e0 e1 e2 e3
  subst e0 e1 e2 e3
  refine ⟨[av0, av1, av2, av3], ⟨rfl, fun i y hy => ?_⟩, back_spec (T_LStr _) (T_LWir _) hU (T_LBack _) (lies0 _) (lies2 _) (liesE _) (Nat.le_refl _) a0 a3 a1 (by obtain ⟨_, _, rfl, _⟩ := a2; rfl)⟩
  match i with
  | 0 => cases hy; exact ⟨_, o0, rfl⟩
  | 1 => cases hy; exact ⟨_, o1, rfl⟩
  | 2 => cases hy; exact ⟨_, o2, rfl⟩
  | 3 => cases hy; exact ⟨_, o3, rfl⟩
  | i + 4 => simp at hy
end Go.Proofs.YtbcadgoemkjbeaaDoor.wb

namespace Go.Proofs.YtbcadgoemkjbeaaDoor.wb
open Go Go.Ab Go.Ab.Aud Go.Sha Go.Lib Go.ChangeShapes Go.WideShapes Go.ChangeAt Go.RowKit
theorem OldCells.rel {cs c : List Value} (o : OldCells cs c) (m : Mu) : VRel m (.agg ⟨c⟩) (.agg ⟨cs⟩) := by
  refine .agg _ _ o.1.symm fun i a b ha hb => ?_
  obtain ⟨y, hy, hc⟩ := o.2 i b hb
  rw [hc] at ha
  cases ha
  exact oldV_rel hy m
theorem walk (W : World) {cs c : List Value} (o : OldCells cs c) (hl : ∃ g, D (Cx (oldOf W)) 4 [.agg ⟨c⟩] ⟨[], 0⟩ = some (.bool true, g)) :
    Calls Tryd.prog 4 #[.agg ⟨cs⟩] W fun e w' => e = .returned (.bool true) ∧ Below W.heap.size W w' := by
  obtain ⟨g, hl⟩ := hl
  have h := D_calls (envOk W) (t4 (oldOf W)) hl (by simp [isUnd]) (VRelL.cons (OldCells.rel o _) (VRelL.nil _)) (HRel.bare W)
  refine h.mono fun e w' he => ?_
  cases e with
  | returned v =>
    obtain ⟨m, h1, h2, h3, h4⟩ := he
    cases h3
    exact ⟨rfl, h1.below⟩
  | panicked => exact he.elim
  | outgrown => exact he.elim
end Go.Proofs.YtbcadgoemkjbeaaDoor.wb
