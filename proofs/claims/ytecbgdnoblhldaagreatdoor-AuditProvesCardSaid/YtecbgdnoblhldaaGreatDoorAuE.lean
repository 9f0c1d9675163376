/-
  Steps of the proof of AuditProvesCardSaid: what functions of the program do in the abstract machine, and the laws between; no condition beside those that each theorem names.
-/
import Derived.Test.YtecbgdnoblhldaaGreatDoorAuC
import Derived.Test.YtecbgdnoblhldaaGreatDoorAuB
import Derived.Test.YtecbgdnoblhldaaGreatDoorAbD
import Derived.Test.YtecbgdnoblhldaaGreatDoorChecked
import Derived.WalkKit
import Derived.ProofKit
import Derived.Test.YtecbgdnoblhldaaGreatDoorAuD

set_option linter.unusedSimpArgs false
set_option linter.unusedVariables false
set_option linter.unusedSectionVars false

namespace Go.Ab.Aud
open Go.Sha
section
variable {H : Type} {enc : TypeId × Value → H} {P : Program} {W : World} {spare : Nat → Bool} {held : Bool}
theorem wf_u8 {n : Int} (h : (Lit.int .u8 n).wf = true) : ∃ b : UInt8, Value.int .u8 n = bv b := by
  simp only [Lit.wf, Bool.and_eq_true, decide_eq_true_eq] at h
  have h1 : 0 ≤ n := h.1
  have h2 : n ≤ 255 := h.2
  refine ⟨UInt8.ofNat n.toNat, ?_⟩
  unfold bv
  congr 1
  rw [UInt8.toNat_ofNat']
  omega
theorem wf_u64 {n : Int} (h : (Lit.int .u64 n).wf = true) : ∃ m : Nat, m < 18446744073709551616 ∧ Value.int .u64 n = uv m := by
  simp only [Lit.wf, Bool.and_eq_true, decide_eq_true_eq] at h
  have h1 : 0 ≤ n := h.1
  have h2 : n ≤ 18446744073709551615 := h.2
  refine ⟨n.toNat, by omega, ?_⟩
  unfold uv
  congr 1
  omega
/-- bytes -/
theorem arg_bytes {t e : Nat} {fuel : Nat} {cs : List Value} {x : DataW H × List MemPlace} (ht : P.underlying t = some (.slice e)) (hk : P.cellsOf e = 1) (he : P.underlying e = some (.int .u8)) (hsp : ∀ b, spare b = true)
    (h : DataW.trod enc P W 0 spare held fuel t cs = some x) : ∃ v av l, cs = [v] ∧ oldV v = some av ∧ ArgB (oldOf W) av l := by
  obtain ⟨v, av, a, len, cp, els, h1, h2, h3, h4, h5, h6, h7, h8⟩ := arg_slice ht hk (by omega) hsp (fun c => ∃ b, c = [bv b]) (fun n cs y _ htr => by
    obtain ⟨n, rfl, _, hw⟩ := DataW.trod_int he htr
    obtain ⟨b, hb⟩ := wf_u8 hw
    refine ⟨[bv b], ⟨rfl, fun i x hx => ?_⟩, b, rfl⟩
    cases i with
    | zero => simp at hx; subst hx; exact ⟨bv b, by rw [hb]; rfl, rfl⟩
    | succ i => simp at hx) h
  have : ∀ els : List (List Value), (∀ c, c ∈ els → (∃ b, c = [bv b]) ∧ c.length = 1) → ∃ l : List UInt8, l.length = els.length ∧ els.flatten = bytesVals l := by
    intro els
    induction els with
    | nil => exact fun _ => ⟨[], rfl, rfl⟩
    | cons c els ih =>
      intro hc
      obtain ⟨l, l1, l2⟩ := ih fun c' hc' => hc c' (by simp [hc'])
      obtain ⟨⟨b, rfl⟩, _⟩ := hc c (by simp)
      exact ⟨b :: l, by simp [l1], by simp [l2, bytesVals_eq]⟩
  obtain ⟨l, l1, l2⟩ := this els h6
  rw [l2] at h7
  refine ⟨v, av, l, h1, h2, a, cp, by rw [h3, l1, h4], fun g => by rw [l1, h4]; exact h7 g, fun j => by rw [l1, h4]; exact h8 j⟩
/-- rows of bytes -/
theorem arg_rows {t e b : Nat} {fuel : Nat} {cs : List Value} {x : DataW H × List MemPlace} (ht : P.underlying t = some (.slice e)) (he : P.underlying e = some (.slice b)) (hk : P.cellsOf b = 1) (hk2 : P.cellsOf e = 1) (hb : P.underlying b = some (.int .u8)) (hsp : ∀ b, spare b = true)
    (h : DataW.trod enc P W 0 spare held fuel t cs = some x) : ∃ v av rows, cs = [v] ∧ oldV v = some av ∧ ArgR (oldOf W) av rows ∧ rows.length ≤ maxLen := by
  obtain ⟨v, av, a, len, cp, els, h1, h2, h3, h4, h5, h6, h7, h8⟩ := arg_slice ht hk2 (by omega) hsp (fun c => ∃ y l, c = [y] ∧ ArgB (oldOf W) y l) (fun n cs y _ htr => by
    obtain ⟨v, av, l, rfl, h2, h3⟩ := arg_bytes he hk hb hsp htr
    refine ⟨[av], ⟨rfl, fun i x hx => ?_⟩, av, l, rfl, h3⟩
    cases i with
    | zero => simp at hx; subst hx; exact ⟨av, h2, rfl⟩
    | succ i => simp at hx) h
  have : ∀ els : List (List Value), (∀ c, c ∈ els → (∃ y l, c = [y] ∧ ArgB (oldOf W) y l) ∧ c.length = 1) → ∃ rows : List (List UInt8), rows.length = els.length ∧ ∀ i, i < rows.length → ∃ x, els.flatten[i]? = some x ∧ ArgB (oldOf W) x (rows.getD i []) := by
    intro els
    induction els with
    | nil => exact fun _ => ⟨[], rfl, fun i hi => by cases hi⟩
    | cons c els ih =>
      intro hc
      obtain ⟨rows, l1, l2⟩ := ih fun c' hc' => hc c' (by simp [hc'])
      obtain ⟨⟨y, l, rfl, hy⟩, _⟩ := hc c (by simp)
      refine ⟨l :: rows, by simp [l1], fun i hi => ?_⟩
      cases i with
      | zero => exact ⟨y, by simp, by simpa using hy⟩
      | succ i =>
        obtain ⟨x, hx, hB⟩ := l2 i (by simpa using hi)
        exact ⟨x, by simpa using hx, by simpa [List.getD_eq_getElem?_getD] using hB⟩
  obtain ⟨rows, l1, l2⟩ := this els h6
  exact ⟨v, av, rows, h1, h2, ⟨a, cp, els.flatten, by rw [h3, l1, h4], fun g => by rw [l1, h4]; exact h7 g, fun j => by rw [l1, h4]; exact h8 j, l2⟩, by omega⟩
end
end Go.Ab.Aud

namespace Go.Proofs.YtecbgdnoblhldaaGreatDoor.au
open Go Go.Ab Go.Ab.Aud Go.Sha
theorem cells29 : Tryz.prog.cellsOf 29 = 1 := by kernel_rfl
theorem cells26 : Tryz.prog.cellsOf 26 = 1 := by kernel_rfl
theorem cells41 : Tryz.prog.cellsOf 41 = 1 := by kernel_rfl
theorem cells5 : Tryz.prog.cellsOf 5 = 1 := by kernel_rfl
theorem cells3 : Tryz.prog.cellsOf 3 = 1 := by kernel_rfl
theorem OldCells.app {a a' b b' : List Value} (h : OldCells a a') (g : OldCells b b') : OldCells (a ++ b) (a' ++ b') := by
  refine ⟨by rw [List.length_append, List.length_append, h.1, g.1], fun i x hx => ?_⟩
  have hl := h.1
  by_cases hi : i < a.length
  · rw [List.getElem?_append_left hi] at hx
    rw [List.getElem?_append_left (by omega)]
    exact h.2 i x hx
  · rw [List.getElem?_append_right (by omega)] at hx
    rw [List.getElem?_append_right (by omega), ← hl]
    exact g.2 _ x hx
theorem OldCells.one {x y : Value} (h : oldV x = some y) : OldCells [x] [y] := ⟨rfl, fun i z hz => by
  cases i with
  | zero => simp at hz; subst hz; exact ⟨y, h, rfl⟩
  | succ i => simp at hz⟩
theorem cut {l : List Value} (i k : Nat) : l.drop i = (l.drop i).take k ++ l.drop (i + k) := by
  rw [← List.drop_drop, List.take_append_drop]
section
variable {H : Type} {enc : TypeId × Value → H} {W : World} {spare : Nat → Bool} {held : Bool}
end
end Go.Proofs.YtecbgdnoblhldaaGreatDoor.au

namespace Go.Proofs.YtecbgdnoblhldaaGreatDoor.au
open Go Go.Ab Go.Ab.Aud Go.Sha
section
variable {H : Type} {enc : TypeId × Value → H} {P : Program} {W : World} {spare : Nat → Bool} {held : Bool}
theorem arg_u64s {t e : Nat} {fuel : Nat} {cs : List Value} {x : DataW H × List MemPlace} (ht : P.underlying t = some (.slice e)) (hk : P.cellsOf e = 1) (he : P.underlying e = some (.int .u64)) (hsp : ∀ b, spare b = true)
    (h : DataW.trod enc P W 0 spare held fuel t cs = some x) : ∃ v av l, cs = [v] ∧ oldV v = some av ∧ ArgN (oldOf W) av l := by
  obtain ⟨v, av, a, len, cp, els, h1, h2, h3, h4, h5, h6, h7, h8⟩ := arg_slice ht hk (by omega) hsp (fun c => ∃ m : Nat, m < 18446744073709551616 ∧ c = [uv m]) (fun n cs y _ htr => by
    obtain ⟨n, rfl, _, hw⟩ := DataW.trod_int he htr
    obtain ⟨m, hm, hb⟩ := wf_u64 hw
    refine ⟨[uv m], ⟨rfl, fun i x hx => ?_⟩, m, hm, rfl⟩
    cases i with
    | zero => simp at hx; subst hx; exact ⟨uv m, by rw [hb]; rfl, rfl⟩
    | succ i => simp at hx) h
  have : ∀ els : List (List Value), (∀ c, c ∈ els → (∃ m : Nat, m < 18446744073709551616 ∧ c = [uv m]) ∧ c.length = 1) → ∃ l : List Nat, l.length = els.length ∧ els.flatten = l.map uv ∧ ∀ x, x ∈ l → x < 18446744073709551616 := by
    intro els
    induction els with
    | nil => exact fun _ => ⟨[], rfl, rfl, fun x hx => by cases hx⟩
    | cons c els ih =>
      intro hc
      obtain ⟨l, l1, l2, l3⟩ := ih fun c' hc' => hc c' (by simp [hc'])
      obtain ⟨⟨m, hm, rfl⟩, _⟩ := hc c (by simp)
      exact ⟨m :: l, by simp [l1], by simp [l2], fun x hx => by rcases List.mem_cons.1 hx with rfl | hx; exact hm; exact l3 x hx⟩
  obtain ⟨l, l1, l2, l3⟩ := this els h6
  rw [l2] at h7
  refine ⟨v, av, l, h1, h2, a, cp, by rw [h3, l1, h4], fun g => by rw [l1, h4]; exact h7 g, fun j => by rw [l1, h4]; exact h8 j, l3⟩
end
end Go.Proofs.YtecbgdnoblhldaaGreatDoor.au

namespace Go.Proofs.YtecbgdnoblhldaaGreatDoor.au
open Go Go.Ab Go.Ab.Aud Go.Sha
theorem cells64 : Tryz.prog.cellsOf 64 = 5 := by kernel_rfl
theorem cells23 : Tryz.prog.cellsOf 23 = 1 := by kernel_rfl
section
variable {H : Type} {enc : TypeId × Value → H} {W : World} {spare : Nat → Bool} {held : Bool}
theorem entries_arg {fuel : Nat} {cs : List Value} {x : DataW H × List MemPlace} (hsp : ∀ b, spare b = true) (h : DataW.trod enc Tryz.prog W 0 spare held fuel 64 cs = some x) :
    ∃ rv szv atv oth bit rows szs ats other, OldCells cs [rv, szv, atv, oth, zv bit] ∧ ArgR (oldOf W) rv rows ∧ rows.length < 2 ^ 63 ∧ ArgN (oldOf W) szv szs ∧ ArgN (oldOf W) atv ats ∧ ArgB (oldOf W) oth other := by
  obtain ⟨xs, m, _, _, hl, hxl, hx⟩ := DataW.trod_struct Tryz.underlying64 h
  rw [cells64] at hl
  have hxl : xs.length = 5 := hxl
  have h0 := hx 0 _ rfl
  have h1 := hx 1 _ rfl
  have h2 := hx 2 _ rfl
  have h3 := hx 3 _ rfl
  have h4 := hx 4 _ rfl
  rw [List.getElem?_eq_getElem (by omega)] at h0 h1 h2 h3 h4
  replace h0 : DataW.trod enc Tryz.prog W 0 spare held m 26 ((cs.drop 0).take (Tryz.prog.cellsOf 26)) = _ := h0
  rw [cells26] at h0
  replace h1 : DataW.trod enc Tryz.prog W 0 spare held m 23 ((cs.drop 1).take (Tryz.prog.cellsOf 23)) = _ := h1
  rw [cells23] at h1
  replace h2 : DataW.trod enc Tryz.prog W 0 spare held m 23 ((cs.drop 2).take (Tryz.prog.cellsOf 23)) = _ := h2
  rw [cells23] at h2
  replace h3 : DataW.trod enc Tryz.prog W 0 spare held m 41 ((cs.drop 3).take (Tryz.prog.cellsOf 41)) = _ := h3
  rw [cells41] at h3
  replace h4 : DataW.trod enc Tryz.prog W 0 spare held m 3 ((cs.drop 4).take (Tryz.prog.cellsOf 3)) = _ := h4
  rw [cells3] at h4
  obtain ⟨v0, rv, rows, v01, v02, v03, v04⟩ := arg_rows Tryz.underlying26 Tryz.underlying41 cells5 cells41 Tryz.underlying5 hsp h0
  obtain ⟨v1, szv, szs, v11, v12, v13⟩ := arg_u64s Tryz.underlying23 cells29 Tryz.underlying29 hsp h1
  obtain ⟨v2, atv, ats, v21, v22, v23⟩ := arg_u64s Tryz.underlying23 cells29 Tryz.underlying29 hsp h2
  obtain ⟨v3, oth, other, v31, v32, v33⟩ := arg_bytes Tryz.underlying41 cells5 Tryz.underlying5 hsp h3
  obtain ⟨z, hz', _, _⟩ := DataW.trod_int Tryz.underlying3 h4
  have hmax : maxLen < 2 ^ 63 := by decide
  refine ⟨rv, szv, atv, oth, z, rows, szs, ats, other, ?_, v03, by omega, v13, v23, v33⟩
  have e4 : cs.drop 4 = (cs.drop 4).take 1 := (List.take_of_length_le (by simp; omega)).symm
  have e : cs = (cs.drop 0).take 1 ++ ((cs.drop 1).take 1 ++ ((cs.drop 2).take 1 ++ ((cs.drop 3).take 1 ++ (cs.drop 4).take 1))) := by
    rw [← e4, ← cut 3 1, ← cut 2 1, ← cut 1 1, ← cut 0 1]
    rfl
  rw [e, v01, v11, v21, v31, hz']
  exact OldCells.app (OldCells.one v02) (OldCells.app (OldCells.one v12) (OldCells.app (OldCells.one v22) (OldCells.app (OldCells.one v32) (OldCells.one rfl))))
end
end Go.Proofs.YtecbgdnoblhldaaGreatDoor.au
