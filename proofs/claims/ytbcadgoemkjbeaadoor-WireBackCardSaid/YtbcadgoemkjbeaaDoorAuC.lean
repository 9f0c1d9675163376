/-
  Steps of the proof of WireBackCardSaid: what functions of the program do in the abstract machine, and the laws between; no condition beside those that each theorem names.
-/
import Derived.Test.YtbcadgoemkjbeaaDoorAuB
import Derived.Test.YtbcadgoemkjbeaaDoorLit
import Derived.Test.YtbcadgoemkjbeaaDoorAbD
import Derived.SizedLaws

set_option linter.unusedSimpArgs false
set_option linter.unusedVariables false
set_option linter.unusedSectionVars false

namespace Go.Ab.Aud
set_option maxRecDepth 20000
open Go.Wire (amp eqs spc col Txt join encF enc1 printF Fit formF textPad)
open Go.Lib (validD)
variable {C : Ctx} (T : Tab_LStr C) (TW : Tab_LWir C) (U : U8 C) (TB : Tab_LBack C)
include TB in
theorem status_grant (h : AHeap) : D C 5 [iv 185] h = some (.tuple #[iv 400, str [105, 110, 118, 97, 108, 105, 100, 95, 103, 114, 97, 110, 116]], h) := by
  rw [D_fn3 TB.h5 _ (by simp)]
  have hs : Value.string ⟨⟨[105, 110, 118, 97, 108, 105, 100, 95, 103, 114, 97, 110, 116]⟩⟩ = str [105, 110, 118, 97, 108, 105, 100, 95, 103, 114, 97, 110, 116] := rfl
  have hf : flat (.tuple #[iv 400, str [105, 110, 118, 97, 108, 105, 100, 95, 103, 114, 97, 110, 116]]) = true := rfl
  have hz : Value.string ⟨⟨[]⟩⟩ = str [] := rfl
  simp [b5, r5, hs, hz, hf]
def wB : Txt := [97, 61, 120, 43, 121, 37, 50, 54]
def wF : List (Txt × Txt) := [([97], [120, 32, 121, 38])]
def wA : Txt := [115, 104, 111, 112]
def wC : Txt := [97, 58, 98]
def wH : Txt := [66, 97, 115, 105, 99, 32, 99, 50, 104, 118, 99, 68, 112, 104, 74, 84, 78, 66, 89, 103, 61, 61]
theorem w_form : formF wB = .ok wF := by
  have h : (match formF wB with | .ok l => decide (l = wF) | .error _ => false) = true := by decide +kernel
  revert h
  cases formF wB with
  | ok l => intro h; rw [of_decide_eq_true h]
  | error e => intro h; cases h
theorem w_print : printF wF = wB := by decide +kernel
theorem w_head : cBasic ++ spc :: textPad (encF wA ++ col :: encF wC) = wH := by decide +kernel
theorem w_good : validD wA = true ∧ validD wC = true := by decide +kernel
theorem aeq_i2 {a b c d : Nat} : aeq (.flat [.i, .i]) (.agg ⟨[iv a, iv b]⟩) (.agg ⟨[iv c, iv d]⟩) = some (decide (a = c) && decide (b = d)) := by
  show (match veqK .i (iv a) (iv c), veqL [.i] [iv b] [iv d] with | some p, some q => some (p && q) | _, _ => none) = _
  simp only [veqL, veqK, iv, if_true, Int.natCast_inj, Bool.and_true]
include T TW U TB in
theorem works_spec (l0 : C.lies 81 4 0 70 = true) (l2 : C.lies 81 4 2 70 = true) (le : C.lies 70 2 0 70 = true) (h : AHeap) : D C 7 [] h = some (.bool true, h) := by
  rw [D_fn3 TB.h7 _ (by simp)]
  obtain ⟨g, f, hm⟩ := form_spec T TW U l0 l2 (h := ⟨[], 0⟩) (b := wB) (Nat.le_refl _) (by decide)
  rw [w_form] at hm
  obtain ⟨v, e, o, hb⟩ := hm
  obtain ⟨va, vcp, rfl⟩ := o.slice
  have e' : D C 12 [.string ⟨⟨[97, 61, 120, 43, 121, 37, 50, 54]⟩⟩] ⟨[], 0⟩ = some (.tuple #[.slice va wF.length vcp, .agg ⟨[iv 0, iv 0]⟩], g) := e
  have wf : g.lo ≤ g.bs.length := by rw [f.lo]; exact Nat.zero_le _
  have hz : Value.string ⟨⟨[]⟩⟩ = str [] := rfl
  have hbas := fun h => basic_spec T TW U l0 l2 h (a := wA) (b := wC) w_good.1 w_good.2 (by rw [w_head]; decide) (by decide)
  rw [w_head, if_pos (by decide)] at hbas
  have hbas' : ∀ h, D C 16 [.string ⟨⟨[66, 97, 115, 105, 99, 32, 99, 50, 104, 118, 99, 68, 112, 104, 74, 84, 78, 66, 89, 103, 61, 61]⟩⟩] h = some (.tuple #[str wA, str wC, iv 0], h) := hbas
  generalize hg1 : g.push (.cells [iv 0, iv 0] 41) = g1
  have f1 : Fr g g1 (fun _ => False) := by rw [← hg1]; exact Fr.push
  have p1 : g1.at g.bs.length = some (.cells [iv 0, iv 0] 41) := by rw [← hg1]; exact push_self
  have lo1 : g1.lo ≤ g.bs.length := by rw [f1.lo]; exact wf
  have bx := wrN_cells (h := g1) (b := g.bs.length) (o := 0) (fz := 40) (c := [iv 0, iv 0]) (v := [iv 0, iv 0]) (by simp) (by simp)
  rw [splice2, put_eq p1] at bx
  have o1 := o.fr f1 (fun _ _ h => h)
  have hfc : fcells wF = [str [97], str [120, 32, 121, 38]] := rfl
  generalize hg2 : g1.push (.cells [str [97], str [120, 32, 121, 38]] 54) = g2
  have f2 : Fr g1 g2 (fun _ => False) := by rw [← hg2]; exact Fr.push
  have o2 := o1.fr f2 (fun _ _ h => h)
  have s2 : SlR C.old g2 2 (.slice (some ⟨g1.bs.length, 0, some 0⟩) 1 1) (fcells wF) := by
    refine ⟨rfl, ?_⟩
    rw [if_neg (by simp [isRest])]
    refine ⟨Nat.le_refl _, fun _ => ?_⟩
    rw [readN_rd, ← hg2, push_self]; rfl
  have eq1 : D C 13 [.slice va 1 vcp, .slice (some ⟨g1.bs.length, 0, some 0⟩) 1 1] g2 = some (.bool true, g2) := by
    have := eqFields_spec TW g2 (o2.sl (old := C.old) (by omega)) s2 (by decide)
    rw [decide_eq_true rfl] at this; exact this
  have pr1 : D C 10 [.slice va 1 vcp] g2 = some (str wB, g2) := by
    have := printForm_spec T TW le (o2.sl (old := C.old) (by omega)) (by decide)
    rw [w_print] at this; exact this
  have st : ∀ h, D C 5 [iv 185] h = some (.tuple #[iv 400, str [105, 110, 118, 97, 108, 105, 100, 95, 103, 114, 97, 110, 116]], h) := fun h => status_grant TB h
  have nm := fun h => num_spec TW h 0
  have hl : wF.length = 1 := rfl
  rw [hl] at e'
  have hwB : Value.string ⟨⟨[97, 61, 120, 43, 121, 37, 50, 54]⟩⟩ = str wB := rfl
  have hwA : Value.string ⟨⟨[115, 104, 111, 112]⟩⟩ = str wA := rfl
  have hwC : Value.string ⟨⟨[97, 58, 98]⟩⟩ = str wC := rfl
  have hwH : Value.string ⟨⟨[66, 97, 115, 105, 99, 32, 99, 50, 104, 118, 99, 68, 112, 104, 74, 84, 78, 66, 89, 103, 61, 61]⟩⟩ = str wH := rfl
  have hwG : Value.string ⟨⟨[105, 110, 118, 97, 108, 105, 100, 95, 103, 114, 97, 110, 116]⟩⟩ = str [105, 110, 118, 97, 108, 105, 100, 95, 103, 114, 97, 110, 116] := rfl
  have ha : Value.string ⟨⟨[97]⟩⟩ = str [97] := rfl
  have hx : Value.string ⟨⟨[120, 32, 121, 38]⟩⟩ = str [120, 32, 121, 38] := rfl
  rw [hwB] at e'
  rw [hwH] at hbas'
  simp [b7, hz, hwB, hwA, hwC, hwH, hwG, ha, hx, Dc_ok, e', hg1, writeN_wr lo1, p1, bx, hbas', st, readN_rd, rdN_cells, fillCells, spl20, spl21, splice2, aeq_i2, hg2, eq1, pr1, str_eql, nm, r7]
end Go.Ab.Aud

namespace Go.Ab.Aud
set_option maxRecDepth 20000
open Go.Wire (amp eqs spc col Txt join encF enc1 printF Fit formF formGo formGo_cons textPad t64 Dec decF decode dec0 split spl_len maxBody form_is_fit form_print form_at)
open Go.Lib (validD)
theorem decF_len (mk : UInt8) : ∀ (f : Nat) (s : Txt) (i : Nat) (d : Dec), (decF mk f s i d).1.p0.length + (decF mk f s i d).1.p1.length ≤ d.p0.length + d.p1.length + s.length := by
  intro f
  induction f with
  | zero => intro s i d; simp only [decF]; omega
  | succ f ih =>
    intro s i d
    cases s with
    | nil => simp only [decF]; omega
    | cons c r =>
      have hpush : ∀ x, (d.push x).p0.length + (d.push x).p1.length = d.p0.length + d.p1.length + 1 := fun x => by
        unfold Dec.push; split <;> simp <;> omega
      have hl : (c :: r).length = r.length + 1 := rfl
      simp only [decF]
      split
      · have := ih r (i + 1) (d.push c); have := hpush c; omega
      · split
        · have := ih r (i + 1) (d.push spc); have := hpush spc; omega
        · split
          · have := ih r (i + 1) { d with at' := some i }; simp only at this; omega
          · split
            · split
              · rename_i x hx
                have := ih (r.drop 2) (i + 3) (d.push x); have := hpush x
                have : (r.drop 2).length ≤ r.length := by rw [List.length_drop]; omega
                have h2 : 2 ≤ r.length := by
                  match r, hx with
                  | [], hx => cases hx
                  | [_], hx => cases hx
                  | _ :: _ :: _, _ => simp
                have : (r.drop 2).length = r.length - 2 := by rw [List.length_drop]
                omega
              · dsimp only; omega
            · dsimp only; omega
theorem fsum_snoc (l : List (Txt × Txt)) (p : Txt × Txt) : fsum (l ++ [p]) = fsum l + (p.1.length + p.2.length + 2) := by simp [fsum]
theorem go_sum : ∀ (ps : List Txt) (start : Nat) (acc l : List (Txt × Txt)), formGo ps start acc = .ok l → fsum l ≤ fsum acc + (ps.map fun x => 2 * (x.length + 1)).sum
  | [], start, acc, l, e => by simp only [formGo] at e; cases e; omega
  | s :: r, start, acc, l, e => by
    have hd := decF_len eqs (s.length + 1) s 0 dec0
    rw [formGo_cons] at e
    unfold decode at e
    rw [List.map_cons, List.sum_cons]
    split at e
    · cases e
    · rename_i d hdd
      rw [hdd] at hd
      split at e
      · cases e
      · split at e
        · cases e
        · split at e
          · cases e
          · split at e
            · cases e
            · have := go_sum r _ _ l e
              rw [fsum_snoc] at this
              have h0 : dec0.p0.length + dec0.p1.length = 0 := rfl
              simp only at this hd
              omega
theorem sum_two : ∀ (ps : List Txt), (ps.map fun x => 2 * (x.length + 1)).sum = 2 * (ps.map fun x => x.length + 1).sum
  | [] => rfl
  | a :: r => by rw [List.map_cons, List.sum_cons, sum_two r, List.map_cons, List.sum_cons]; omega
theorem form_sum {b : Txt} {l : List (Txt × Txt)} (e : formF b = .ok l) : fsum l ≤ 2 * (b.length + 1) ∧ b.length ≤ 16384 := by
  unfold formF at e
  split at e
  · cases e
  · rename_i hm
    have hm : ¬ 16384 < b.length := hm
    split at e
    · cases e; simp [fsum]; omega
    · have := go_sum _ _ _ _ e
      rw [sum_two] at this
      unfold split at this
      rw [spl_len] at this
      have h0 : fsum [] = 0 := rfl
      simp at this
      omega
theorem print_len (l : List (Txt × Txt)) : (printF l).length ≤ 4 * fsum l := by
  obtain ⟨h1, _⟩ := pf_sum l
  cases l with
  | nil => simp [printF, join, fsum]
  | cons p r =>
    have := Go.Wire.join_len ((p :: r).map pf) (by simp)
    have hp : printF (p :: r) = join ((p :: r).map pf) := rfl
    rw [hp]; omega
theorem t64_len : ∀ (n : Nat) (r : List UInt8), r.length ≤ n → (t64 r).length ≤ 4 * r.length + 4 := fun n => by
  induction n with
  | zero => intro r h; have : r = [] := List.eq_nil_of_length_eq_zero (by omega); subst this; simp [t64]
  | succ n ih =>
    intro r h
    match r, h with
    | [], _ => simp [t64]
    | [_], _ => simp [t64]
    | [_, _], _ => simp [t64]
    | _ :: _ :: _ :: q, h =>
      have := ih q (by simp at h; omega)
      simp [t64]; omega
theorem textPad_len (x : List UInt8) : (textPad x).length ≤ 4 * x.length + 8 := by
  have := t64_len x.length x (Nat.le_refl _)
  unfold textPad; simp; omega
variable {C : Ctx} (T : Tab_LStr C) (TW : Tab_LWir C) (U : U8 C) (TB : Tab_LBack C)
/-- what the loops of WireBack keep -/
structure BI (b0 : Nat) (vb vf vh vc : Value) (g : AHeap) (t : List Value) (all : Nat) : Prop where
  a : g.at b0 = some (.cells [vb, vf, vh, vc] 34)
  lo : g.lo ≤ b0
  t1 : tg t 1 = .pointer (some ⟨b0, 0, some 0⟩)
  t3 : tg t 3 = iv all
theorem BI.wf {b0 : Nat} {vb vf vh vc : Value} {g : AHeap} {t : List Value} {all : Nat} (H : BI b0 vb vf vh vc g t all) : g.lo ≤ g.bs.length := by
  have := get_lt H.a; have := H.lo; omega
/-- a row of texts that nothing writes -/
def ArgS (old : Old) (v : Value) (l : List Txt) : Prop := ∃ a cp, v = .slice a l.length cp ∧ (∀ g, SlR old g 1 v (l.map str)) ∧ l.length < 2 ^ 60 ∧ ∀ s ∈ l, s.length < 2 ^ 50
def ArgC (old : Old) (v : Value) (l : List (Txt × Txt)) : Prop := ∃ a cp, v = .slice a l.length cp ∧ (∀ g, SlR old g 2 v (fcells l)) ∧ l.length < 2 ^ 60 ∧ ∀ p ∈ l, p.1.length < 2 ^ 50 ∧ p.2.length < 2 ^ 50
def TrueR (R : Res) : Prop := ∃ g', R = some (.bool true, g')
include T TW U TB in
theorem back_end (l0 : C.lies 81 4 0 70 = true) (l2 : C.lies 81 4 2 70 = true) (le : C.lies 70 2 0 70 = true) (t : List Value) (g : AHeap) : TrueR (R C r4 [.code k4_0] t [] g) := by
  have e := fun h => works_spec T TW U TB l0 l2 le h
  refine ⟨g, ?_⟩
  simp [k4_0, Dc0, e, r4]
def kB2 : List AItem := [.inLoop lp4_2, .inBlock 4, .code k4_0]
/-- the two numbers of a fault in a box -/
theorem box_two {g : AHeap} {x y : Nat} (hlo : g.lo ≤ g.bs.length) : ∃ g1, g.push (.cells [iv 0, iv 0] 41) = g1 ∧ g1.at g.bs.length = some (.cells [iv 0, iv 0] 41) ∧ g1.lo ≤ g.bs.length ∧
    ∃ g2, wrN g1 g.bs.length (some (.cells [iv 0, iv 0] 41)) 0 0 [iv x, iv y] = some g2 ∧ g2.at g.bs.length = some (.cells [iv x, iv y] 41) ∧ Fr g g2 (fun _ => False) := by
  refine ⟨_, rfl, push_self, by simpa using hlo, ?_⟩
  have bx := wrN_cells (h := g.push (.cells [iv 0, iv 0] 41)) (b := g.bs.length) (o := 0) (fz := 40) (c := [iv 0, iv 0]) (v := [iv x, iv y]) (by simp) (by simp)
  rw [splice2] at bx
  exact ⟨_, bx, put_self (get_lt push_self), Fr.push.put' (.inr (Nat.le_refl _))⟩
end Go.Ab.Aud

namespace Go.Ab.Aud
set_option maxRecDepth 20000
open Go.Wire (amp eqs spc col Txt join encF enc1 printF Fit formF textPad split maxBody form_is_fit form_print form_at)
open Go.Lib (validD)
variable {C : Ctx} (T : Tab_LStr C) (TW : Tab_LWir C) (U : U8 C) (TB : Tab_LBack C)
theorem Fr.F {h h' h'' : AHeap} (f : Fr h h' (fun _ => False)) (g : Fr h' h'' (fun _ => False)) : Fr h h'' (fun _ => False) := f.trans g (fun _ h => h) (fun _ h _ => h)
theorem fcells_sum (l : List (Txt × Txt)) : 2 * l.length ≤ fsum l := (pf_sum l).2
theorem form_long {b : Txt} (h : maxBody < b.length) : formF b = .error (false, 0) := by unfold formF; rw [if_pos h]
include T TW U TB in
theorem back_body (l0 : C.lies 81 4 0 70 = true) (l2 : C.lies 81 4 2 70 = true) (le : C.lies 70 2 0 70 = true) {b0 : Nat} {vb vf vh vc : Value} {bs : List Txt} (ab : ArgS C.old vb bs) :
    ∀ (r : List Txt) (i all : Nat) (g : AHeap) (t : List Value), r = bs.drop i → i ≤ bs.length → BI b0 vb vf vh vc g t all → all < 2 ^ 55 → tg t 17 = iv i → TrueR (R C r4 kB2 t [] g) := by
  obtain ⟨ba, bcp, rfl, hsl, hbl, hbs⟩ := ab
  intro r
  induction r with
  | nil =>
    intro i all g t hp hil H hall t17
    have hi : bs.length ≤ i := by
      have := congrArg List.length hp
      rw [List.length_drop] at this; simp at this; omega
    have fin := fun t' => back_end T TW U TB l0 l2 le t' g
    have lt0 := get_lt H.a
    unfold kB2
    rw [R_open lp4_2.eq_1]
    simp [t17, H.t1, adda, read1_rd, H.a, show ¬ i < bs.length by omega]
    exact fin _
  | cons s r ih =>
    intro i all g t hp hil H hall t17
    have hl : i < bs.length := by
      have := congrArg List.length hp
      rw [List.length_drop] at this; simp at this; omega
    rw [List.drop_eq_getElem_cons hl] at hp
    injection hp with h1 h2
    have hs : bs[i]? = some s := by rw [List.getElem?_eq_getElem hl, h1]
    have hsm : s ∈ bs := by rw [h1]; exact List.getElem_mem _
    have hz := hbs s hsm
    obtain ⟨him, ⟨ab, ao, asp⟩, rfl, _⟩ := sl_elt (hsl g) hs
    have hr : ∀ g, read1 C.old g ⟨ab, ao + i, asp⟩ = some (str s) := fun g => by
      obtain ⟨_, a', ha, h⟩ := sl_elt (hsl g) hs
      injection ha with ha
      rw [← ha, adda_mk] at h; exact h
    have iva : ∀ x y, x < 2 ^ 60 → y < 2 ^ 60 → abin .add (iv x) (iv y) = some (iv (x + y)) := fun x y _ _ => iv_add (by omega)
    by_cases hbig : 393216 < all + s.length + 1
    · have fin := fun t' => back_end T TW U TB l0 l2 le t' g
      unfold kB2
      rw [R_open lp4_2.eq_1]
      simp [t17, H.t1, H.t3, adda, read1_rd, H.a, hl, ixS_iv hl, hr, iva all s.length (by omega) (by omega), iva (all + s.length) 1 (by omega) (by omega), hbig]
      exact fin _
    have nbig : ¬ 393216 < all + s.length + 1 := hbig
    obtain ⟨g1, f1, hm⟩ := form_spec T TW U l0 l2 (h := g) (b := s) H.wf (by omega)
    have wf1 : g1.lo ≤ g1.bs.length := by have := H.wf; have := f1.lo; have := f1.len; omega
    cases hfs : formF s with
    | error p =>
      obtain ⟨tw, w⟩ := p
      rw [hfs] at hm
      simp only at hm
      have hw := form_at hfs
      obtain ⟨G1, hG1, q1, lo1, G2, hG2, q2, fG⟩ := box_two (g := g1) (x := if tw then 191 else 190) (y := w) wf1
      have q3 : G2.at b0 = some (.cells [.slice (some ⟨ab, ao, asp⟩) bs.length bcp, vf, vh, vc] 34) := fG.get (f1.get H.a fun h => h) fun h => h
      have fin : ∀ t', tg t' 1 = .pointer (some ⟨b0, 0, some 0⟩) → tg t' 3 = iv (all + s.length + 1) → tg t' 17 = iv (i + 1) → TrueR (R C r4 kB2 t' [] G2) := fun t' x1 x3 x17 =>
        ih (i + 1) _ G2 t' h2 (by omega) ⟨q3, by rw [fG.lo, f1.lo]; exact H.lo, x1, x3⟩ (by omega) x17
      unfold kB2 at fin ⊢
      rw [R_open lp4_2.eq_1]
      cases tw
      · simp only [Bool.false_eq_true, if_false] at hm hG2 q2
        simp [t17, H.t1, H.t3, adda, read1_rd, H.a, hl, ixS_iv hl, hr, iva all s.length (by omega) (by omega), iva (all + s.length) 1 (by omega) (by omega), nbig, Dc_ok, hm, hG1, writeN_wr lo1, q1, hG2, readN_rd, q2, q3, rdN_cells, fillCells, aeq_i2, show ¬ w < 0 by omega, show ¬ s.length < w by omega, num_spec TW, iva i 1 (by omega) (by omega)]
        exact fin _ (by simp [tg_ts, H.t1]) (by simp [tg_ts]) (by simp [tg_ts])
      · simp only [if_true] at hm hG2 q2
        simp [t17, H.t1, H.t3, adda, read1_rd, H.a, hl, ixS_iv hl, hr, iva all s.length (by omega) (by omega), iva (all + s.length) 1 (by omega) (by omega), nbig, Dc_ok, hm, hG1, writeN_wr lo1, q1, hG2, readN_rd, q2, q3, rdN_cells, fillCells, aeq_i2, show ¬ w < 0 by omega, show ¬ s.length < w by omega, num_spec TW, iva i 1 (by omega) (by omega)]
        exact fin _ (by simp [tg_ts, H.t1]) (by simp [tg_ts]) (by simp [tg_ts])
    | ok l =>
      rw [hfs] at hm
      obtain ⟨v, e1, o1, hb1⟩ := hm
      obtain ⟨va, vcp, rfl⟩ := o1.slice
      obtain ⟨hfl, _⟩ := form_sum hfs
      have hll := fcells_sum l
      have hfit := form_is_fit hfs
      have hmem := fsum_mem l
      obtain ⟨G1, hG1, q1, lo1, G2, hG2, q2, fG⟩ := box_two (g := g1) (x := 0) (y := 0) wf1
      have wf2 : G2.lo ≤ G2.bs.length := by have := fG.lo; have := fG.len; omega
      have o2 := o1.fr fG fun _ _ h => h
      obtain ⟨v3, g3, e3, o3, f3, b3⟩ := copyFields_spec TW G2 wf2 (o2.sl (old := C.old) (by omega)) (by omega)
      obtain ⟨ua, ucp, rfl⟩ := o3.slice
      have wf3 : g3.lo ≤ g3.bs.length := by have := f3.lo; have := f3.len; omega
      have e4 := printForm_spec T TW le (o3.sl (old := C.old) (by omega)) (by omega)
      have hpl := print_len l
      have o3' := o2.fr f3 fun _ _ h => h
      obtain ⟨g5, f5, hm5⟩ := form_spec T TW U l0 l2 (h := g3) (b := printF l) wf3 (by omega)
      have wf5 : g5.lo ≤ g5.bs.length := by have := f5.lo; have := f5.len; omega
      have o5 := o3'.fr f5 fun _ _ h => h
      by_cases hlen : (printF l).length ≤ 16384
      · rw [form_print l hfit hlen] at hm5
        obtain ⟨v5, e5, n5, hb5⟩ := hm5
        obtain ⟨xa, xcp, rfl⟩ := n5.slice
        obtain ⟨G5, hG5, q5, lo5, G6, hG6, q6, fG6⟩ := box_two (g := g5) (x := 0) (y := 0) wf5
        have o6 := o5.fr fG6 fun _ _ h => h
        have n6 := n5.fr fG6 fun _ _ h => h
        obtain ⟨bb, e7, hbb⟩ := fit_spec TW G6 (o6.sl (old := C.old) (by omega)) (by omega) (fun p hp => by have := hmem p hp; omega)
        have hbt : bb = true := hbb.2 hfit
        subst hbt
        have e8 := eqFields_spec TW G6 (o6.sl (old := C.old) (by omega)) (n6.sl (old := C.old) (by omega)) (by omega)
        rw [decide_eq_true rfl] at e8
        have fall := Fr.F (Fr.F (Fr.F (Fr.F f1 fG) f3) f5) fG6
        have q3 : G6.at b0 = some (.cells [.slice (some ⟨ab, ao, asp⟩) bs.length bcp, vf, vh, vc] 34) := fall.get H.a fun h => h
        have fin : ∀ t', tg t' 1 = .pointer (some ⟨b0, 0, some 0⟩) → tg t' 3 = iv (all + s.length + 1) → tg t' 17 = iv (i + 1) → TrueR (R C r4 kB2 t' [] G6) := fun t' x1 x3 x17 =>
          ih (i + 1) _ G6 t' h2 (by omega) ⟨q3, by rw [fall.lo]; exact H.lo, x1, x3⟩ (by omega) x17
        unfold kB2 at fin ⊢
        rw [R_open lp4_2.eq_1]
        simp [t17, H.t1, H.t3, adda, read1_rd, H.a, hl, ixS_iv hl, hr, iva all s.length (by omega) (by omega), iva (all + s.length) 1 (by omega) (by omega), nbig, Dc_ok, e1, hG1, writeN_wr lo1, q1, hG2, readN_rd, q2, rdN_cells, fillCells, aeq_i2, e3, e4, e5, hG5, writeN_wr lo5, q5, hG6, q6, e7, hlen, e8, iva i 1 (by omega) (by omega)]
        exact fin _ (by simp [tg_ts, H.t1]) (by simp [tg_ts]) (by simp [tg_ts])
      · rw [form_long (b := printF l) (by have : maxBody = 16384 := rfl; omega)] at hm5
        simp only [Bool.false_eq_true, if_false] at hm5
        obtain ⟨G5, hG5, q5, lo5, G6, hG6, q6, fG6⟩ := box_two (g := g5) (x := 190) (y := 0) wf5
        have o6 := o5.fr fG6 fun _ _ h => h
        obtain ⟨bb, e7, hbb⟩ := fit_spec TW G6 (o6.sl (old := C.old) (by omega)) (by omega) (fun p hp => by have := hmem p hp; omega)
        have hbt : bb = true := hbb.2 hfit
        subst hbt
        have fall := Fr.F (Fr.F (Fr.F (Fr.F f1 fG) f3) f5) fG6
        have q3 : G6.at b0 = some (.cells [.slice (some ⟨ab, ao, asp⟩) bs.length bcp, vf, vh, vc] 34) := fall.get H.a fun h => h
        have fin : ∀ t', tg t' 1 = .pointer (some ⟨b0, 0, some 0⟩) → tg t' 3 = iv (all + s.length + 1) → tg t' 17 = iv (i + 1) → TrueR (R C r4 kB2 t' [] G6) := fun t' x1 x3 x17 =>
          ih (i + 1) _ G6 t' h2 (by omega) ⟨q3, by rw [fall.lo]; exact H.lo, x1, x3⟩ (by omega) x17
        unfold kB2 at fin ⊢
        rw [R_open lp4_2.eq_1]
        simp [t17, H.t1, H.t3, adda, read1_rd, H.a, hl, ixS_iv hl, hr, iva all s.length (by omega) (by omega), iva (all + s.length) 1 (by omega) (by omega), nbig, Dc_ok, e1, hG1, writeN_wr lo1, q1, hG2, readN_rd, q2, rdN_cells, fillCells, aeq_i2, e3, e4, hm5, hG5, writeN_wr lo5, q5, hG6, q6, e7, hlen, iva i 1 (by omega) (by omega)]
        exact fin _ (by simp [tg_ts, H.t1]) (by simp [tg_ts]) (by simp [tg_ts])
end Go.Ab.Aud

namespace Go.Ab.Aud
set_option maxRecDepth 20000
open Go.Wire (amp eqs spc col Txt join encF enc1 printF Fit formF textPad split maxBody form_is_fit form_print form_at form_amp)
open Go.Lib (validD)
variable {C : Ctx} (T : Tab_LStr C) (TW : Tab_LWir C) (U : U8 C) (TB : Tab_LBack C)
/-- two texts in a box -/
theorem box_str {g : AHeap} {x y : Txt} (hlo : g.lo ≤ g.bs.length) : ∃ g1, g.push (.cells [str [], str []] 46) = g1 ∧ g1.at g.bs.length = some (.cells [str [], str []] 46) ∧ g1.lo ≤ g.bs.length ∧
    ∃ g2, wrN g1 g.bs.length (some (.cells [str [], str []] 46)) 0 0 [str x, str y] = some g2 ∧ g2.at g.bs.length = some (.cells [str x, str y] 46) ∧ Fr g g2 (fun _ => False) := by
  refine ⟨_, rfl, push_self, by simpa using hlo, ?_⟩
  have bx := wrN_cells (h := g.push (.cells [str [], str []] 46)) (b := g.bs.length) (o := 0) (fz := 45) (c := [str [], str []]) (v := [str x, str y]) (by simp) (by simp)
  rw [splice2] at bx
  exact ⟨_, bx, put_self (get_lt push_self), Fr.push.put' (.inr (Nat.le_refl _))⟩
def kB1 : List AItem := [.inLoop lp4_1, .inBlock 2, .code k4_1]
include T TW U TB in
theorem back_cred (l0 : C.lies 81 4 0 70 = true) (l2 : C.lies 81 4 2 70 = true) (le : C.lies 70 2 0 70 = true) {b0 : Nat} {vb vf vh vc : Value} {bs : List Txt} {cs : List (Txt × Txt)} (ab : ArgS C.old vb bs) (ac : ArgC C.old vc cs) :
    ∀ (r : List (Txt × Txt)) (i all : Nat) (g : AHeap) (t : List Value), r = cs.drop i → i ≤ cs.length → BI b0 vb vf vh vc g t all → all < 2 ^ 54 → tg t 11 = iv i → TrueR (R C r4 kB1 t [] g) := by
  obtain ⟨ca, ccp, rfl, hsl, hcl, hcs⟩ := ac
  have iva : ∀ x y, x < 2 ^ 60 → y < 2 ^ 60 → abin .add (iv x) (iv y) = some (iv (x + y)) := fun x y _ _ => iv_add (by omega)
  have leave : ∀ (g : AHeap) (t : List Value) (all : Nat), BI b0 vb vf vh (.slice ca cs.length ccp) g t all → all < 2 ^ 55 → TrueR (R C r4 [.code k4_1] t [] g) := fun g t all H hall => by
    have fin : ∀ t', tg t' 1 = .pointer (some ⟨b0, 0, some 0⟩) → tg t' 3 = iv all → tg t' 17 = iv 0 → TrueR (R C r4 kB2 t' [] g) := fun t' x1 x3 x17 =>
      back_body T TW U TB l0 l2 le ab bs 0 all g t' (by rw [List.drop_zero]) (Nat.zero_le _) ⟨H.a, H.lo, x1, x3⟩ hall x17
    unfold kB2 at fin
    simp [k4_1, S_loop]
    exact fin _ (by simp [tg_ts, H.t1]) (by simp [tg_ts, H.t3]) (by simp [tg_ts])
  intro r
  induction r with
  | nil =>
    intro i all g t hp hil H hall t11
    have hi : cs.length ≤ i := by
      have := congrArg List.length hp
      rw [List.length_drop] at this; simp at this; omega
    have lt0 := get_lt H.a
    have fin := fun t' x1 x3 => leave g t' all ⟨H.a, H.lo, x1, x3⟩ (by omega)
    unfold kB1
    rw [R_open lp4_1.eq_1]
    simp [t11, H.t1, adda, read1_rd, H.a, show ¬ i < cs.length by omega]
    exact fin _ (by simp [tg_ts, H.t1]) (by simp [tg_ts, H.t3])
  | cons p r ih =>
    intro i all g t hp hil H hall t11
    have hl : i < cs.length := by
      have := congrArg List.length hp
      rw [List.length_drop] at this; simp at this; omega
    rw [List.drop_eq_getElem_cons hl] at hp
    injection hp with h1 h2
    have hs : cs[i]? = some p := by rw [List.getElem?_eq_getElem hl, h1]
    have hpm : p ∈ cs := by rw [h1]; exact List.getElem_mem _
    obtain ⟨z1, z2⟩ := hcs p hpm
    obtain ⟨him, ab', ao, asp, rfl, _⟩ := sl_fld2 (hsl g) hs
    have hr : ∀ g, readN C.old g ⟨ab', ao + i * 2, asp⟩ 2 = some [str p.1, str p.2] := fun g => by
      obtain ⟨_, b', o', s', ha, h, _⟩ := sl_fld2 (hsl g) hs
      injection ha with ha
      injection ha with q1 q2 q3
      rw [q1, q2, q3]; exact h
    obtain ⟨G1, hG1, q1, lo1, G2, hG2, q2, fG⟩ := box_str (g := g) (x := p.1) (y := p.2) H.wf
    have q3 := fG.get H.a fun h => h
    have hzs : Value.string ⟨⟨[]⟩⟩ = str [] := rfl
    have fin : ∀ t', tg t' 1 = .pointer (some ⟨b0, 0, some 0⟩) → tg t' 3 = iv (all + p.1.length + p.2.length + 1) → tg t' 11 = iv (i + 1) → all + p.1.length + p.2.length + 1 < 2 ^ 54 → TrueR (R C r4 kB1 t' [] G2) := fun t' x1 x3 x17 hb =>
      ih (i + 1) _ G2 t' h2 (by omega) ⟨q3, by rw [fG.lo]; exact H.lo, x1, x3⟩ hb x17
    have l1 := leave G2
    by_cases hbig : 262144 < all + p.1.length + p.2.length + 1
    · have fin := fun t' x1 x3 => l1 t' (all + p.1.length + p.2.length + 1) ⟨q3, by rw [fG.lo]; exact H.lo, x1, x3⟩ (by omega)
      unfold kB1
      rw [R_open lp4_1.eq_1]
      simp [t11, H.t1, H.t3, adda, read1_rd, H.a, hl, ixS_iv hl, hr, hzs, hG1, writeN_wr lo1, q1, hG2, q2, iva all p.1.length (by omega) (by omega), iva (all + p.1.length) p.2.length (by omega) (by omega), iva (all + p.1.length + p.2.length) 1 (by omega) (by omega), hbig]
      exact fin _ (by simp [tg_ts, H.t1]) (by simp [tg_ts])
    have fin := fun t' x1 x3 x11 => fin t' x1 x3 x11 (by omega)
    have g1 := fun h => isgood_spec TW (s := p.1) (by omega) h
    have g2 := fun h => isgood_spec TW (s := p.2) (by omega) h
    cases c1 : validD p.1
    · rw [c1] at g1
      unfold kB1 at fin ⊢
      rw [R_open lp4_1.eq_1]
      simp [t11, H.t1, H.t3, adda, read1_rd, H.a, hl, ixS_iv hl, hr, hzs, hG1, writeN_wr lo1, q1, hG2, q2, iva all p.1.length (by omega) (by omega), iva (all + p.1.length) p.2.length (by omega) (by omega), iva (all + p.1.length + p.2.length) 1 (by omega) (by omega), hbig, Dc_ok, g1, iva i 1 (by omega) (by omega)]
      exact fin _ (by simp [tg_ts, H.t1]) (by simp [tg_ts]) (by simp [tg_ts])
    cases c2 : validD p.2
    · rw [c1] at g1
      rw [c2] at g2
      unfold kB1 at fin ⊢
      rw [R_open lp4_1.eq_1]
      simp [t11, H.t1, H.t3, adda, read1_rd, H.a, hl, ixS_iv hl, hr, hzs, hG1, writeN_wr lo1, q1, hG2, q2, iva all p.1.length (by omega) (by omega), iva (all + p.1.length) p.2.length (by omega) (by omega), iva (all + p.1.length + p.2.length) 1 (by omega) (by omega), hbig, Dc_ok, g1, g2, iva i 1 (by omega) (by omega)]
      exact fin _ (by simp [tg_ts, H.t1]) (by simp [tg_ts]) (by simp [tg_ts])
    have e1 := fun h => printBasic_spec T TW le h (a := p.1) (b := p.2) (by omega) (by omega)
    have le1 := encF_len p.1
    have le2 := encF_len p.2
    have lp := textPad_len (encF p.1 ++ col :: encF p.2)
    have e2 := fun h => basic_spec T TW U l0 l2 h (a := p.1) (b := p.2) c1 c2 (by simp at lp ⊢; have : cBasic.length = 5 := rfl; omega) (by simp; omega)
    have nm0 := fun h => num_spec TW h 0
    have nm192 := fun h => num_spec TW h 192
    rw [c1] at g1
    rw [c2] at g2
    generalize cBasic ++ spc :: textPad (encF p.1 ++ col :: encF p.2) = hd at *
    by_cases hlen : hd.length ≤ 4096
    · simp only [if_pos hlen] at e2
      unfold kB1 at fin ⊢
      rw [R_open lp4_1.eq_1]
      simp [t11, H.t1, H.t3, adda, read1_rd, H.a, hl, ixS_iv hl, hr, hzs, hG1, writeN_wr lo1, q1, hG2, q2, iva all p.1.length (by omega) (by omega), iva (all + p.1.length) p.2.length (by omega) (by omega), iva (all + p.1.length + p.2.length) 1 (by omega) (by omega), hbig, Dc_ok, g1, g2, e1, e2, hlen, nm0, str_neq, show ¬ 4096 < hd.length by omega, iva i 1 (by omega) (by omega)]
      exact fin _ (by simp [tg_ts, H.t1]) (by simp [tg_ts]) (by simp [tg_ts])
    · simp only [if_neg hlen] at e2
      unfold kB1 at fin ⊢
      rw [R_open lp4_1.eq_1]
      simp [t11, H.t1, H.t3, adda, read1_rd, H.a, hl, ixS_iv hl, hr, hzs, hG1, writeN_wr lo1, q1, hG2, q2, iva all p.1.length (by omega) (by omega), iva (all + p.1.length) p.2.length (by omega) (by omega), iva (all + p.1.length + p.2.length) 1 (by omega) (by omega), hbig, Dc_ok, g1, g2, e1, e2, hlen, nm192, str_neq, show 4096 < hd.length by omega, iva i 1 (by omega) (by omega)]
      exact fin _ (by simp [tg_ts, H.t1]) (by simp [tg_ts]) (by simp [tg_ts])
end Go.Ab.Aud

namespace Go.Ab.Aud
set_option maxRecDepth 20000
open Go.Wire (amp eqs spc col Txt join encF enc1 printF Fit formF textPad split maxBody form_is_fit form_print form_at form_amp)
open Go.Lib (validD)
variable {C : Ctx} (T : Tab_LStr C) (TW : Tab_LWir C) (U : U8 C) (TB : Tab_LBack C)
/-- rows of fields that nothing writes -/
def ArgF (old : Old) (v : Value) (rows : List (List (Txt × Txt))) : Prop := ∃ a cp vs, v = .slice a rows.length cp ∧ (∀ g, SlR old g 1 v vs) ∧ rows.length < 2 ^ 60 ∧ ∀ i, i < rows.length → ∃ x, vs[i]? = some x ∧ ArgC old x (rows.getD i [])
theorem sl_any {old : Old} {h : AHeap} {a : Option Addr} {n cp i : Nat} {vs : List Value} {x : Value} (w : SlR old h 1 (.slice a n cp) vs) (hi : vs[i]? = some x) :
    i < n ∧ ∃ a', a = some a' ∧ read1 old h (adda a' i) = some x := by
  have hl := w.len
  rw [Nat.mul_one] at hl
  have hi' : i < vs.length := (List.getElem?_eq_some_iff.1 hi).1
  obtain ⟨a', rfl⟩ := w.ex (by omega)
  have hr := w.read (by omega)
  refine ⟨by omega, a', rfl, ?_⟩
  rw [readN_read1 hr (by omega), hi]
def kB0 : List AItem := [.inLoop lp4_0, .inBlock 0, .code k4_2]
include T TW U TB in
theorem back_field (l0 : C.lies 81 4 0 70 = true) (l2 : C.lies 81 4 2 70 = true) (le : C.lies 70 2 0 70 = true) {b0 : Nat} {vb vf vh vc : Value} {bs : List Txt} {cs : List (Txt × Txt)} {fs : List (List (Txt × Txt))} (ab : ArgS C.old vb bs) (ac : ArgC C.old vc cs) (af : ArgF C.old vf fs) :
    ∀ (n i all : Nat) (g : AHeap) (t : List Value), i + n = fs.length → BI b0 vb vf vh vc g t all → all < 2 ^ 53 → tg t 4 = iv i → TrueR (R C r4 kB0 t [] g) := by
  obtain ⟨fa, fcp, vs, rfl, hsl, hfl, hfs⟩ := af
  have iva : ∀ x y, x < 2 ^ 60 → y < 2 ^ 60 → abin .add (iv x) (iv y) = some (iv (x + y)) := fun x y _ _ => iv_add (by omega)
  have leave : ∀ (g : AHeap) (t : List Value) (all : Nat), BI b0 vb (.slice fa fs.length fcp) vh vc g t all → all < 2 ^ 54 → TrueR (R C r4 [.code k4_2] t [] g) := fun g t all H hall => by
    have fin : ∀ t', tg t' 1 = .pointer (some ⟨b0, 0, some 0⟩) → tg t' 3 = iv all → tg t' 11 = iv 0 → TrueR (R C r4 kB1 t' [] g) := fun t' x1 x3 x17 =>
      back_cred T TW U TB l0 l2 le ab ac cs 0 all g t' (by rw [List.drop_zero]) (Nat.zero_le _) ⟨H.a, H.lo, x1, x3⟩ hall x17
    unfold kB1 at fin
    simp [k4_2, S_loop]
    exact fin _ (by simp [tg_ts, H.t1]) (by simp [tg_ts, H.t3]) (by simp [tg_ts])
  intro n
  induction n with
  | zero =>
    intro i all g t hi H hall t4
    have lt0 := get_lt H.a
    have fin := fun t' x1 x3 => leave g t' all ⟨H.a, H.lo, x1, x3⟩ (by omega)
    unfold kB0
    rw [R_open lp4_0.eq_1]
    simp [t4, H.t1, adda, read1_rd, H.a, show ¬ i < fs.length by omega]
    exact fin _ (by simp [tg_ts, H.t1]) (by simp [tg_ts, H.t3])
  | succ n ih =>
    intro i all g t hi H hall t4
    have hl : i < fs.length := by omega
    obtain ⟨x, hx, xa, xcp, rfl, xsl, xl, xs⟩ := hfs i hl
    generalize fs.getD i [] = l at *
    obtain ⟨him, ⟨ab', ao, asp⟩, rfl, _⟩ := sl_any (hsl g) hx
    have hr : ∀ g, read1 C.old g ⟨ab', ao + i, asp⟩ = some (.slice xa l.length xcp) := fun g => by
      obtain ⟨_, a', ha, h⟩ := sl_any (hsl g) hx
      injection ha with ha
      rw [← ha, adda_mk] at h; exact h
    have el := long_spec TW g (xsl g) xl xs
    have hlong := longN_lt l 0 xs (by omega)
    have hsum := longN_sum l 0
    have lt0 := get_lt H.a
    by_cases hbig : 131072 < all + longN l 0 + 1
    · have fin := fun t' x1 x3 => leave g t' (all + longN l 0 + 1) ⟨H.a, H.lo, x1, x3⟩ (by omega)
      unfold kB0
      rw [R_open lp4_0.eq_1]
      simp [t4, H.t1, H.t3, adda, read1_rd, H.a, hl, ixS_iv hl, hr, Dc_ok, el, iva all (longN l 0) (by omega) (by omega), iva (all + longN l 0) 1 (by omega) (by omega), hbig]
      exact fin _ (by simp [tg_ts, H.t1]) (by simp [tg_ts])
    have nbig := hbig
    by_cases hmany : 300 < l.length
    · have fin := fun t' x1 x3 => leave g t' (all + longN l 0 + 1) ⟨H.a, H.lo, x1, x3⟩ (by omega)
      unfold kB0
      rw [R_open lp4_0.eq_1]
      simp [t4, H.t1, H.t3, adda, read1_rd, H.a, hl, ixS_iv hl, hr, Dc_ok, el, iva all (longN l 0) (by omega) (by omega), iva (all + longN l 0) 1 (by omega) (by omega), hbig, hmany]
      exact fin _ (by simp [tg_ts, H.t1]) (by simp [tg_ts])
    have hfs' := hsum (by omega)
    have hmem := fsum_mem l
    obtain ⟨bb, ef, hbb⟩ := fit_spec TW g (xsl g) xl (fun p hp => by have := hmem p hp; omega)
    have fin : ∀ (g' : AHeap) t', Fr g g' (fun _ => False) → tg t' 1 = .pointer (some ⟨b0, 0, some 0⟩) → tg t' 3 = iv (all + longN l 0 + 1) → tg t' 4 = iv (i + 1) → TrueR (R C r4 kB0 t' [] g') := fun g' t' f x1 x3 x4 =>
      ih (i + 1) _ g' t' (by omega) ⟨f.get H.a fun h => h, by rw [f.lo]; exact H.lo, x1, x3⟩ (by omega) x4
    cases bb with
    | false =>
      have fin := fun t' => fin g t' (.refl _ _)
      unfold kB0 at fin ⊢
      rw [R_open lp4_0.eq_1]
      simp [t4, H.t1, H.t3, adda, read1_rd, H.a, hl, ixS_iv hl, hr, Dc_ok, el, iva all (longN l 0) (by omega) (by omega), iva (all + longN l 0) 1 (by omega) (by omega), hbig, hmany, ef, iva i 1 (by omega) (by omega)]
      exact fin _ (by simp [tg_ts, H.t1]) (by simp [tg_ts]) (by simp [tg_ts])
    | true =>
      have hfit := hbb.1 rfl
      obtain ⟨v1, g1, e1, o1, f1, b1⟩ := copyFields_spec TW g H.wf (xsl g) (by omega)
      obtain ⟨ua, ucp, rfl⟩ := o1.slice
      have wf1 : g1.lo ≤ g1.bs.length := by have := f1.lo; have := f1.len; have := H.wf; omega
      have ep := printForm_spec T TW le (o1.sl (old := C.old) (by omega)) (by omega)
      have hpl := print_len l
      have hmax : maxBody = 16384 := rfl
      obtain ⟨g2, f2, hm⟩ := form_spec T TW U l0 l2 (h := g1) (b := printF l) wf1 (by omega)
      have wf2 : g2.lo ≤ g2.bs.length := by have := f2.lo; have := f2.len; omega
      by_cases hlen : 16384 < (printF l).length
      · rw [form_long (b := printF l) (by omega)] at hm
        simp only [Bool.false_eq_true, if_false] at hm
        obtain ⟨G1, hG1, q1, lo1, G2, hG2, q2, fG⟩ := box_two (g := g2) (x := 190) (y := 0) wf2
        have fin := fun t' => fin G2 t' (Fr.F (Fr.F f1 f2) fG)
        unfold kB0 at fin ⊢
        rw [R_open lp4_0.eq_1]
        simp [t4, H.t1, H.t3, adda, read1_rd, H.a, hl, ixS_iv hl, hr, Dc_ok, el, iva all (longN l 0) (by omega) (by omega), iva (all + longN l 0) 1 (by omega) (by omega), hbig, hmany, ef, e1, ep, hm, hG1, writeN_wr lo1, q1, hG2, readN_rd, q2, rdN_cells, fillCells, spl20, spl1, aeq_i2, hlen, iva i 1 (by omega) (by omega)]
        exact fin _ (by simp [tg_ts, H.t1]) (by simp [tg_ts]) (by simp [tg_ts])
      · rw [form_print l hfit (by omega)] at hm
        obtain ⟨v2, e2, o2, hb2⟩ := hm
        obtain ⟨wa, wcp, rfl⟩ := o2.slice
        obtain ⟨G1, hG1, q1, lo1, G2, hG2, q2, fG⟩ := box_two (g := g2) (x := 0) (y := 0) wf2
        have oG := o2.fr fG fun _ _ h => h
        have e8 := eqFields_spec TW G2 (oG.sl (old := C.old) (by omega)) (xsl G2) (by omega)
        rw [decide_eq_true rfl] at e8
        have wfG : G2.lo ≤ G2.bs.length := by have := fG.lo; have := fG.len; omega
        by_cases hmore : 0 < l.length ∧ (printF l).length < 16384
        · obtain ⟨hm1, hm2⟩ := hmore
          obtain ⟨g3, f3, hm3⟩ := form_spec T TW U l0 l2 (h := G2) (b := printF l ++ [amp]) wfG (by simp; omega)
          rw [form_amp l hfit (List.ne_nil_of_length_pos hm1) (by omega)] at hm3
          simp only [Bool.false_eq_true, if_false] at hm3
          have wf3 : g3.lo ≤ g3.bs.length := by have := f3.lo; have := f3.len; omega
          obtain ⟨G3, hG3, q3, lo3, G4, hG4, q4, fG4⟩ := box_two (g := g3) (x := 190) (y := (printF l).length + 1) wf3
          have fin := fun t' => fin G4 t' (Fr.F (Fr.F (Fr.F (Fr.F f1 f2) fG) f3) fG4)
          have hamp : Value.string ⟨⟨[38]⟩⟩ = str [amp] := rfl
          have hadd : abin .add (str (printF l)) (str [amp]) = some (str (printF l ++ [amp])) := str_add (by simp; omega)
          unfold kB0 at fin ⊢
          rw [R_open lp4_0.eq_1]
          simp [t4, H.t1, H.t3, adda, read1_rd, H.a, hl, ixS_iv hl, hr, Dc_ok, el, iva all (longN l 0) (by omega) (by omega), iva (all + longN l 0) 1 (by omega) (by omega), hbig, hmany, ef, e1, ep, e2, hG1, writeN_wr lo1, q1, hG2, readN_rd, q2, rdN_cells, fillCells, spl20, spl21, aeq_i2, hlen, e8, hm1, hm2, hamp, hadd, hm3, hG3, writeN_wr lo3, q3, hG4, q4, iva (printF l).length 1 (by omega) (by omega), iva i 1 (by omega) (by omega)]
          exact fin _ (by simp [tg_ts, H.t1]) (by simp [tg_ts]) (by simp [tg_ts])
        · have fin := fun t' => fin G2 t' (Fr.F (Fr.F f1 f2) fG)
          unfold kB0 at fin ⊢
          by_cases hm1 : 0 < l.length
          · have hm2 : ¬ (printF l).length < 16384 := fun h => hmore ⟨hm1, h⟩
            rw [R_open lp4_0.eq_1]
            simp [t4, H.t1, H.t3, adda, read1_rd, H.a, hl, ixS_iv hl, hr, Dc_ok, el, iva all (longN l 0) (by omega) (by omega), iva (all + longN l 0) 1 (by omega) (by omega), hbig, hmany, ef, e1, ep, e2, hG1, writeN_wr lo1, q1, hG2, readN_rd, q2, rdN_cells, fillCells, spl20, spl21, aeq_i2, hlen, e8, hm1, hm2, iva i 1 (by omega) (by omega)]
            exact fin _ (by simp [tg_ts, H.t1]) (by simp [tg_ts]) (by simp [tg_ts])
          · rw [R_open lp4_0.eq_1]
            simp [t4, H.t1, H.t3, adda, read1_rd, H.a, hl, ixS_iv hl, hr, Dc_ok, el, iva all (longN l 0) (by omega) (by omega), iva (all + longN l 0) 1 (by omega) (by omega), hbig, hmany, ef, e1, ep, e2, hG1, writeN_wr lo1, q1, hG2, readN_rd, q2, rdN_cells, fillCells, spl20, spl21, aeq_i2, hlen, e8, hm1, iva i 1 (by omega) (by omega)]
            exact fin _ (by simp [tg_ts, H.t1]) (by simp [tg_ts]) (by simp [tg_ts])
include T TW U TB in
theorem back_spec (l0 : C.lies 81 4 0 70 = true) (l2 : C.lies 81 4 2 70 = true) (le : C.lies 70 2 0 70 = true) {h : AHeap} (hlo : h.lo ≤ h.bs.length) {vb vf vh vc : Value} {bs : List Txt} {cs : List (Txt × Txt)} {fs : List (List (Txt × Txt))} (ab : ArgS C.old vb bs) (ac : ArgC C.old vc cs) (af : ArgF C.old vf fs) (ch : okCell vh = true) :
    TrueR (D C 4 [.agg ⟨[vb, vf, vh, vc]⟩] h) := by
  rw [D_fn TB.h4]
  have fin : ∀ t, tg t 1 = .pointer (some ⟨h.bs.length, 0, some 0⟩) → tg t 3 = iv 0 → tg t 4 = iv 0 → TrueR (R C r4 kB0 t [] (h.push (.cells [vb, vf, vh, vc] 34))) := fun t x1 x3 x4 =>
    back_field T TW U TB l0 l2 le ab ac af fs.length 0 0 _ t (by omega) ⟨push_self, by simpa using hlo, x1, x3⟩ (by omega) x4
  obtain ⟨_, _, rfl, _⟩ := ab
  obtain ⟨_, _, rfl, _⟩ := ac
  obtain ⟨_, _, _, rfl, _⟩ := af
  unfold kB0 at fin
  simp [b4, ch, S_loop]
  exact fin _ (by simp [tg_ts]) (by simp [tg_ts]) (by simp [tg_ts])
end Go.Ab.Aud

namespace Go.Ab.Aud
open Go.Wire (Txt)
section
variable {H : Type} {enc : TypeId × Value → H} {P : Program} {W : World} {spare : Nat → Bool} {held : Bool}
theorem weightsAll_mem {e : TypeId} : ∀ {ds : List (DataW H)} {d : DataW H}, d ∈ ds → ∀ n, n ∈ d.weights P e → n ∈ DataW.weightsAll P e ds
  | [], d, h, _, _ => by cases h
  | x :: r, d, h, n, hn => by
    simp only [DataW.weightsAll, List.mem_append]
    rcases List.mem_cons.1 h with rfl | h
    · exact .inl hn
    · exact .inr (weightsAll_mem h n hn)
/-- a slice in old memory whose weights are bounded -/
theorem arg_slice_w {t e k B : Nat} {fuel : Nat} {cs : List Value} {x : DataW H × List MemPlace} (ht : P.underlying t = some (.slice e)) (hk : P.cellsOf e = k) (hk0 : 0 < k) (hb : 0 < P.bytesOf e) (hsp : ∀ b, spare b = true) (hw : ∀ n, n ∈ x.1.weights P t → n ≤ B)
    (E : List Value → Prop) (hE : ∀ n cs y, cs.length = k → (∀ n, n ∈ y.1.weights P e → n ≤ B) → DataW.trod enc P W 0 spare held n e cs = some y → ∃ c, OldCells cs c ∧ E c)
    (h : DataW.trod enc P W 0 spare held fuel t cs = some x) :
    ∃ v av a len cp, ∃ els : List (List Value), cs = [v] ∧ oldV v = some av ∧ av = .slice a len cp ∧ els.length = len ∧ len ≤ B ∧ (∀ c, c ∈ els → E c ∧ c.length = k) ∧ (∀ g, SlR (oldOf W) g k (.slice a len cp) els.flatten) := by
  obtain ⟨v, av, a, len, cp, els, h1, h2, h3, h4, h5, h6, h7, h8, h9⟩ := arg_slice_q ht hk hk0 hsp (fun d => ∀ n, n ∈ d.weights P e → n ≤ B) (fun ds rest hx d hd n hn => hw n (by rw [hx]; simp only [DataW.weights, ht]; exact List.mem_cons_of_mem _ (List.mem_append_left _ (weightsAll_mem hd n hn)))) E hE h
  refine ⟨v, av, a, len, cp, els, h1, h2, h3, h4, ?_, h6, h7⟩
  by_cases h0 : 0 < len
  · obtain ⟨ds, rest, hx, hd⟩ := h9 h0
    have := hw ((ds.length + rest.length) * P.bytesOf e) (by rw [hx]; simp [DataW.weights, ht])
    have h2 : ds.length + rest.length ≤ (ds.length + rest.length) * P.bytesOf e := Nat.le_mul_of_pos_right _ hb
    omega
  · omega
theorem bs_eq (s : ByteArray) : Value.string s = str s.data.toList := by obtain ⟨⟨l⟩⟩ := s; rfl
theorem OldCells.str1 (s : Txt) : OldCells [str s] [str s] := ⟨rfl, fun i x hx => by
  cases i with
  | zero => simp at hx; subst hx; exact ⟨_, rfl, rfl⟩
  | succ i => simp at hx⟩
theorem OldCells.str2 (s s' : Txt) : OldCells [str s, str s'] [str s, str s'] := ⟨rfl, fun i x hx => by
  match i with
  | 0 => simp at hx; subst hx; exact ⟨_, rfl, rfl⟩
  | 1 => simp at hx; subst hx; exact ⟨_, rfl, rfl⟩
  | i + 2 => simp at hx⟩
theorem arg_text {e B : Nat} {fuel : Nat} {cs : List Value} {x : DataW H × List MemPlace} (he : P.underlying e = some .string) (hw : ∀ n, n ∈ x.1.weights P e → n ≤ B) (h : DataW.trod enc P W 0 spare held fuel e cs = some x) : ∃ s : Txt, cs = [str s] ∧ s.length ≤ B := by
  obtain ⟨s, rfl, rfl, _⟩ := DataW.trod_string he h
  exact ⟨s.data.toList, by rw [bs_eq], hw _ (by simp [DataW.weights])⟩
/-- a row of texts -/
theorem arg_texts {t e B : Nat} {fuel : Nat} {cs : List Value} {x : DataW H × List MemPlace} (hB : B < 2 ^ 50) (ht : P.underlying t = some (.slice e)) (he : P.underlying e = some .string) (hk : P.cellsOf e = 1) (hb : 0 < P.bytesOf e) (hsp : ∀ b, spare b = true) (hw : ∀ n, n ∈ x.1.weights P t → n ≤ B)
    (h : DataW.trod enc P W 0 spare held fuel t cs = some x) : ∃ v av l, cs = [v] ∧ oldV v = some av ∧ ArgS (oldOf W) av l := by
  obtain ⟨v, av, a, len, cp, els, h1, h2, h3, h4, h5, h6, h7⟩ := arg_slice_w ht hk (by omega) hb hsp hw (fun c => ∃ s : Txt, c = [str s] ∧ s.length ≤ B) (fun n cs y _ hq htr => by
    obtain ⟨s, rfl, hs⟩ := arg_text he hq htr
    exact ⟨_, OldCells.str1 s, s, rfl, hs⟩) h
  have : ∀ els : List (List Value), (∀ c, c ∈ els → (∃ s : Txt, c = [str s] ∧ s.length ≤ B) ∧ c.length = 1) → ∃ l : List Txt, l.length = els.length ∧ els.flatten = l.map str ∧ ∀ s ∈ l, s.length ≤ B := by
    intro els
    induction els with
    | nil => exact fun _ => ⟨[], rfl, rfl, fun s hs => by cases hs⟩
    | cons c els ih =>
      intro hc
      obtain ⟨l, l1, l2, l3⟩ := ih fun c' hc' => hc c' (by simp [hc'])
      obtain ⟨⟨s, rfl, hs⟩, _⟩ := hc c (by simp)
      exact ⟨s :: l, by simp [l1], by simp [l2], fun q hq => by
        rcases List.mem_cons.1 hq with rfl | hq
        · exact hs
        · exact l3 q hq⟩
  obtain ⟨l, l1, l2, l3⟩ := this els h6
  rw [l2] at h7
  subst h3
  exact ⟨v, _, l, h1, h2, a, cp, by rw [l1, h4], h7, by omega, fun s hs => by have := l3 s hs; omega⟩
theorem arg_pair {e s B : Nat} {fs : Array Field} {f0 f1 : Field} {fuel : Nat} {cs : List Value} {x : DataW H × List MemPlace} (he : P.underlying e = some (.struct fs)) (hfs : fs = #[f0, f1]) (t0 : f0.type = s) (t1 : f1.type = s) (o0 : f0.offset = 0) (o1 : f1.offset = 1) (hs : P.underlying s = some .string) (hk : P.cellsOf s = 1) (hke : P.cellsOf e = 2) (hw : ∀ n, n ∈ x.1.weights P e → n ≤ B)
    (h : DataW.trod enc P W 0 spare held fuel e cs = some x) : ∃ a b : Txt, cs = [str a, str b] ∧ a.length ≤ B ∧ b.length ≤ B := by
  obtain ⟨xs, n, _, hxe, hl, hxl, hx⟩ := DataW.trod_struct he h
  rw [hke] at hl
  have h0 := hx 0 f0 (by rw [hfs]; rfl)
  have h1 := hx 1 f1 (by rw [hfs]; rfl)
  rw [hfs] at hxl
  match xs, hxl with
  | [x0, x1], _ =>
  rw [t0, o0, hk] at h0
  rw [t1, o1, hk] at h1
  rw [hxe] at hw
  have hwe : (DataW.agg [x0.1, x1.1] : DataW H).weights P e = x0.1.weights P s ++ (x1.1.weights P s ++ []) := by
    simp only [DataW.weights, he, hfs, t0, t1, DataW.weightsEach, List.map_cons, List.map_nil]
  have hw' : ∀ n, n ∈ x0.1.weights P s ++ (x1.1.weights P s ++ []) → n ≤ B := fun n hn => hw n (by rw [← hwe] at hn; exact hn)
  match cs, hl with
  | [c0, c1], _ =>
  obtain ⟨a, ha, la⟩ := arg_text hs (fun n hn => hw' n (by simp [hn])) h0
  obtain ⟨b, hb, lb⟩ := arg_text hs (fun n hn => hw' n (by simp [hn])) h1
  simp at ha hb
  exact ⟨a, b, by rw [ha, hb], la, lb⟩
/-- a row of pairs of texts -/
theorem arg_pairs {t e s B : Nat} {fs : Array Field} {f0 f1 : Field} {fuel : Nat} {cs : List Value} {x : DataW H × List MemPlace} (hB : B < 2 ^ 50) (ht : P.underlying t = some (.slice e)) (he : P.underlying e = some (.struct fs)) (hfs : fs = #[f0, f1]) (t0 : f0.type = s) (t1 : f1.type = s) (o0 : f0.offset = 0) (o1 : f1.offset = 1) (hs : P.underlying s = some .string) (hk : P.cellsOf s = 1) (hke : P.cellsOf e = 2) (hb : 0 < P.bytesOf e) (hsp : ∀ b, spare b = true) (hw : ∀ n, n ∈ x.1.weights P t → n ≤ B)
    (h : DataW.trod enc P W 0 spare held fuel t cs = some x) : ∃ v av l, cs = [v] ∧ oldV v = some av ∧ ArgC (oldOf W) av l := by
  obtain ⟨v, av, a, len, cp, els, h1, h2, h3, h4, h5, h6, h7⟩ := arg_slice_w ht hke (by omega) hb hsp hw (fun c => ∃ a b : Txt, c = [str a, str b] ∧ a.length ≤ B ∧ b.length ≤ B) (fun n cs y _ hq htr => by
    obtain ⟨a, b, rfl, ha, hb⟩ := arg_pair he hfs t0 t1 o0 o1 hs hk hke hq htr
    exact ⟨_, OldCells.str2 a b, a, b, rfl, ha, hb⟩) h
  have : ∀ els : List (List Value), (∀ c, c ∈ els → (∃ a b : Txt, c = [str a, str b] ∧ a.length ≤ B ∧ b.length ≤ B) ∧ c.length = 2) → ∃ l : List (Txt × Txt), l.length = els.length ∧ els.flatten = fcells l ∧ ∀ p ∈ l, p.1.length ≤ B ∧ p.2.length ≤ B := by
    intro els
    induction els with
    | nil => exact fun _ => ⟨[], rfl, rfl, fun s hs => by cases hs⟩
    | cons c els ih =>
      intro hc
      obtain ⟨l, l1, l2, l3⟩ := ih fun c' hc' => hc c' (by simp [hc'])
      obtain ⟨⟨a, b, rfl, ha, hb⟩, _⟩ := hc c (by simp)
      exact ⟨(a, b) :: l, by simp [l1], by rw [List.flatten_cons, l2]; rfl, fun q hq => by
        rcases List.mem_cons.1 hq with rfl | hq
        · exact ⟨ha, hb⟩
        · exact l3 q hq⟩
  obtain ⟨l, l1, l2, l3⟩ := this els h6
  rw [l2] at h7
  subst h3
  exact ⟨v, _, l, h1, h2, a, cp, by rw [l1, h4], h7, by omega, fun s hs => by have := l3 s hs; omega⟩
/-- rows of rows of pairs of texts -/
theorem arg_rowsF {t u e s B : Nat} {fs : Array Field} {f0 f1 : Field} {fuel : Nat} {cs : List Value} {x : DataW H × List MemPlace} (hB : B < 2 ^ 50) (hu : P.underlying u = some (.slice t)) (hkt : P.cellsOf t = 1) (hbt : 0 < P.bytesOf t) (ht : P.underlying t = some (.slice e)) (he : P.underlying e = some (.struct fs)) (hfs : fs = #[f0, f1]) (t0 : f0.type = s) (t1 : f1.type = s) (o0 : f0.offset = 0) (o1 : f1.offset = 1) (hs : P.underlying s = some .string) (hk : P.cellsOf s = 1) (hke : P.cellsOf e = 2) (hb : 0 < P.bytesOf e) (hsp : ∀ b, spare b = true) (hw : ∀ n, n ∈ x.1.weights P u → n ≤ B)
    (h : DataW.trod enc P W 0 spare held fuel u cs = some x) : ∃ v av rows, cs = [v] ∧ oldV v = some av ∧ ArgF (oldOf W) av rows := by
  obtain ⟨v, av, a, len, cp, els, h1, h2, h3, h4, h5, h6, h7⟩ := arg_slice_w hu hkt (by omega) hbt hsp hw (fun c => ∃ y l, c = [y] ∧ ArgC (oldOf W) y l) (fun n cs y _ hq htr => by
    obtain ⟨v, av, l, rfl, h2, h3⟩ := arg_pairs hB ht he hfs t0 t1 o0 o1 hs hk hke hb hsp hq htr
    refine ⟨[av], ⟨rfl, fun i x hx => ?_⟩, av, l, rfl, h3⟩
    cases i with
    | zero => simp at hx; subst hx; exact ⟨av, h2, rfl⟩
    | succ i => simp at hx) h
  have : ∀ els : List (List Value), (∀ c, c ∈ els → (∃ y l, c = [y] ∧ ArgC (oldOf W) y l) ∧ c.length = 1) → ∃ rows : List (List (Txt × Txt)), rows.length = els.length ∧ ∀ i, i < rows.length → ∃ x, els.flatten[i]? = some x ∧ ArgC (oldOf W) x (rows.getD i []) := by
    intro els
    induction els with
    | nil => exact fun _ => ⟨[], rfl, fun i hi => by cases hi⟩
    | cons c els ih =>
      intro hc
      obtain ⟨rows, l1, l2⟩ := ih fun c' hc' => hc c' (by simp [hc'])
      obtain ⟨⟨y, l, rfl, hy⟩, _⟩ := hc c (by simp)
      refine ⟨l :: rows, by simp [l1], fun i hi => ?_⟩
      cases i with
      | zero => exact ⟨y, by simp, by simpa using hy⟩
      | succ i =>
        obtain ⟨x, hx, hB⟩ := l2 i (by simpa using hi)
        exact ⟨x, by simpa using hx, by simpa [List.getD_eq_getElem?_getD] using hB⟩
  obtain ⟨rows, l1, l2⟩ := this els h6
  subst h3
  exact ⟨v, _, rows, h1, h2, a, cp, els.flatten, by rw [l1, h4], h7, by omega, l2⟩
end
end Go.Ab.Aud
