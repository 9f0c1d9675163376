/-
  Every operation that calls nobody does in the model what the abstract machine says; no condition.
-/
import Derived.Test.YtbcadgoemkjbeaaDoorAbA
import Derived.Laws.BytesString
import Derived.Laws.MakeOwn
import Derived.Lib.Builder
import Derived.Laws.Runes
import Derived.Laws.Slices
import Derived.Lib.IndexBytes
import Derived.Lib.UnsafeStr

set_option linter.unusedSimpArgs false
set_option linter.unusedVariables false
set_option linter.unusedSectionVars false

/- Operations, one by one (second part). -/
namespace Go.Ab
section
variable {P : Program} {C : Ctx} {t : List Value} {h h' : AHeap} {v : Value} {m : Mu} {w0 w : World} {ρ : Operand → Value} {o : Oper}

def NilT (P : Program) (T : TypeId) : EqK → Prop
  | .nilP => ∃ p, P.underlying T = some (.pointer p)
  | .nilS => ∃ p, P.underlying T = some (.slice p)
  | .nilM => ∃ k p, P.underlying T = some (.map k p)
  | .nilF => ∃ a b c, P.underlying T = some (.func a b c)
  | .nilI => ∃ p, P.underlying T = some (.interface p)
  | _ => False
set_option maxHeartbeats 2000000 in
theorem nil_run {e : EqK} {x y x' y' : Value} {b : Bool} {T : TypeId} {d : Nat} (he : aeq e x y = some b) (hx : VRel m x x') (hy : VRel m y y')
    (hT : NilT P T e) : (Op.equalIn (d + 1) T x' y').run P w = .ok b w := by
  unfold aeq at he
  split at he <;> simp only [NilT] at hT
  · cases hx; cases he
    obtain ⟨p, hT⟩ := hT
    cases hy <;> simp only [Op.equalIn, Sem.run_bind, run_under hT, Result.andThen_ok, Sem.run_pure, Option.isNone_none, Option.isNone_some]
  · cases hy; cases he
    obtain ⟨p, hT⟩ := hT
    cases hx <;> simp only [Op.equalIn, Sem.run_bind, run_under hT, Result.andThen_ok, Sem.run_pure, Option.isNone_none, Option.isNone_some]
  · cases hx; cases he
    obtain ⟨p, hT⟩ := hT
    cases hy <;> simp only [Op.equalIn, Sem.run_bind, run_under hT, Result.andThen_ok, Sem.run_pure, Option.isNone_none, Option.isNone_some]
  · cases hy; cases he
    obtain ⟨p, hT⟩ := hT
    cases hx <;> simp only [Op.equalIn, Sem.run_bind, run_under hT, Result.andThen_ok, Sem.run_pure, Option.isNone_none, Option.isNone_some]
  · cases hx; cases he
    obtain ⟨k, p, hT⟩ := hT
    cases hy <;> simp only [Op.equalIn, Sem.run_bind, run_under hT, Result.andThen_ok, Sem.run_pure, Option.isNone_none, Option.isNone_some]
  · cases hy; cases he
    obtain ⟨k, p, hT⟩ := hT
    cases hx <;> simp only [Op.equalIn, Sem.run_bind, run_under hT, Result.andThen_ok, Sem.run_pure, Option.isNone_none, Option.isNone_some]
  · cases hx <;> cases hy <;> cases he <;> (obtain ⟨k, p, q, hT⟩ := hT; simp only [Op.equalIn, Sem.run_bind, run_under hT, Result.andThen_ok, Sem.run_pure, Option.isNone_none, Option.isNone_some])
  · cases hx <;> cases hy <;> cases he <;> (obtain ⟨k, p, q, hT⟩ := hT; simp only [Op.equalIn, Sem.run_bind, run_under hT, Result.andThen_ok, Sem.run_pure, Option.isNone_none, Option.isNone_some])
  · cases hx <;> cases hy <;> cases he <;> (obtain ⟨k, p, q, hT⟩ := hT; simp only [Op.equalIn, Sem.run_bind, run_under hT, Result.andThen_ok, Sem.run_pure, Option.isNone_none, Option.isNone_some])
  · cases hx; cases hy; cases he
    obtain ⟨p, hT⟩ := hT
    simp only [Op.equalIn, Sem.run_bind, run_under hT, Result.andThen_ok, Sem.run_pure, Option.isNone_none, Option.isNone_some]
  · cases hx; cases hy; cases he
    obtain ⟨p, hT⟩ := hT
    simp only [Op.equalIn, Sem.run_bind, run_under hT, Result.andThen_ok, Sem.run_pure, Option.isNone_none, Option.isNone_some]
  · cases hx; cases hy; cases he
    obtain ⟨p, hT⟩ := hT
    simp only [Op.equalIn, Sem.run_bind, run_under hT, Result.andThen_ok, Sem.run_pure, Option.isNone_none, Option.isNone_some]
  · cases he

/-- the two comparing operations, out of what 'equalIn' tells -/
theorem eq_run {op : BinOp} {T : TypeId} {ox oy : Operand} {x' y' : Value} {b : Bool} (hop : op = .eql ∨ op = .neq)
    (hx : ∀ k n, x' ≠ .int k n) (hs : ∀ s, x' ≠ .string s) (hfl : ∀ k n, x' ≠ .float k n) (hcx : ∀ k n p, x' ≠ .complex k n p)
    (hg : (eqGuard op T ox oy x' y').run P w = .ok () w) (he : (Op.equalIn 10000 T x' y').run P w = .ok b w) :
    (do eqGuard op T ox oy x' y'; binOp op T x' y' : Sem Value).run P w = .ok (.bool (if op = .neq then !b else b)) w := by
  simp only [Sem.run_bind, hg, Result.andThen_ok]
  have hb : (binOp op T x' y').run P w = ((Op.equalIn 10000 T x' y').run P w).andThen fun b w' => .ok (.bool (if op = .neq then !b else b)) w' := by
    rcases hop with rfl | rfl
    · cases x' <;> first
        | exact absurd rfl (hx _ _)
        | exact absurd rfl (hs _)
        | exact absurd rfl (hfl _ _)
        | exact absurd rfl (hcx _ _ _)
        | (simp only [binOp]; simp [Op.equal, Op.maxDepth])
    · cases x' <;> first
        | exact absurd rfl (hx _ _)
        | exact absurd rfl (hs _)
        | exact absurd rfl (hfl _ _)
        | exact absurd rfl (hcx _ _ _)
        | (simp only [binOp]; simp [Op.equal, Op.maxDepth])
  rw [hb, he]; rfl

theorem eqGuard_other {op : BinOp} {T : TypeId} {x y : Operand} {a b : Value} (h1 : ∀ l l', ¬ (a = .agg l ∧ b = .agg l')) (h2 : ¬ (a = .nilIface ∧ b = .nilIface)) :
    (eqGuard op T x y a b).run P w = .ok () w := by
  by_cases hop : op = .eql ∨ op = .neq
  · rcases hop with rfl | rfl
    · simp only [eqGuard, Bool.not_true, Bool.false_eq_true, if_false]
      split
      · exact absurd ⟨rfl, rfl⟩ h2
      · exact absurd ⟨rfl, rfl⟩ (h1 _ _)
      · rfl
    · simp only [eqGuard, Bool.not_true, Bool.false_eq_true, if_false]
      split
      · exact absurd ⟨rfl, rfl⟩ h2
      · exact absurd ⟨rfl, rfl⟩ (h1 _ _)
      · rfl
  · cases op <;> first
      | rfl
      | exact absurd (.inl rfl) hop
      | exact absurd (.inr rfl) hop

theorem nilConst_spec : ∀ x, nilConst x = true → ∃ v, x = .const v
  | .const v, _ => ⟨v, rfl⟩
  | .tmp t, h => by cases h
  | .global t, h => by cases h
  | .func t, h => by cases h

theorem aeq_pointer {x y x' y' : Value} {b : Bool} (e : aeq .nilP x y = some b) (hx : VRel m x x') (hy : VRel m y y') : ∃ p q, x' = .pointer p ∧ y' = .pointer q := by
  unfold aeq at e
  split at e <;> simp_all <;> cases hx <;> cases hy <;> simp
theorem aeq_slice {x y x' y' : Value} {b : Bool} (e : aeq .nilS x y = some b) (hx : VRel m x x') (hy : VRel m y y') : ∃ p q r p' q' r', x' = .slice p q r ∧ y' = .slice p' q' r' := by
  unfold aeq at e
  split at e <;> simp_all <;> cases hx <;> cases hy <;> simp
theorem aeq_map {x y x' y' : Value} {b : Bool} (e : aeq .nilM x y = some b) (hx : VRel m x x') (hy : VRel m y y') : ∃ p q, x' = .map p ∧ y' = .map q := by
  unfold aeq at e
  split at e <;> simp_all <;> cases hx <;> cases hy <;> simp
theorem aeq_func {x y x' y' : Value} {b : Bool} (e : aeq .nilF x y = some b) (hx : VRel m x x') (hy : VRel m y y') :
    (x' = .nilFunc ∨ ∃ f a b, x' = .func f a b) ∧ (y' = .nilFunc ∨ ∃ f a b, y' = .func f a b) := by
  unfold aeq at e
  split at e <;> simp_all <;> cases hx <;> cases hy <;> simp
theorem aeq_iface {x y x' y' : Value} {b : Bool} (e : aeq .nilI x y = some b) (hx : VRel m x x') (hy : VRel m y y') :
    (x' = .nilIface ∨ ∃ f a, x' = .iface f a) ∧ (y' = .nilIface ∨ ∃ f a, y' = .iface f a) := by
  unfold aeq at e
  split at e <;> simp_all <;> cases hx <;> cases hy <;> simp

theorem run_sameAddr_block {a b : Addr} (h : a.block = b.block) : (sameAddr a b).run P w = .ok (a == b) w := by
  unfold sameAddr
  simp [h]

theorem ptr_run {T el n : Nat} {x y x' y' : Value} {bb : Bool} (d : Nat) (e : aeq .ptr x y = some bb) (hx : VRel m x x') (hy : VRel m y y') (hT : P.underlying T = some (.pointer el))
    (hn : szOf P el = some n) (h0 : n ≠ 0) : ∃ p q, x' = .pointer p ∧ y' = .pointer q ∧ (Op.equalIn (d + 1) T x' y').run P w = .ok bb w := by
  have both : ∀ a b : Addr, a.block = b.block → (Op.equalIn (d + 1) T (.pointer (some a)) (.pointer (some b))).run P w = .ok (a == b) w := by
    intro a b hab
    simp [Op.equalIn, run_under hT, run_sizeOf hn, h0, run_sameAddr_block hab]
  cases x with
  | pointer p =>
    cases y with
    | pointer q =>
      cases p with
      | none =>
        cases q with
        | none =>
          simp only [aeq, Option.some.injEq] at e
          subst e
          cases hx; cases hy
          exact ⟨_, _, rfl, rfl, by simp [Op.equalIn, run_under hT]⟩
        | some b =>
          simp only [aeq, Option.some.injEq] at e
          subst e
          cases hx
          cases hy <;> exact ⟨_, _, rfl, rfl, by simp [Op.equalIn, run_under hT]⟩
      | some a =>
        cases q with
        | none =>
          simp only [aeq, Option.some.injEq] at e
          subst e
          cases hy
          cases hx <;> exact ⟨_, _, rfl, rfl, by simp [Op.equalIn, run_under hT]⟩
        | some b =>
          simp only [aeq] at e
          split at e
          · rename_i hab
            cases e
            subst hab
            cases hx with
            | ptrOld _ h1 => cases hy with
              | ptrOld _ h2 => exact ⟨_, _, rfl, rfl, by rw [both _ _ rfl]; simp⟩
              | ptrNew _ h2 => cases h1
            | ptrNew off h1 => cases hy with
              | ptrOld _ h2 => cases h2
              | ptrNew _ h2 => rw [h1] at h2; cases h2; exact ⟨_, _, rfl, rfl, by rw [both _ _ rfl]; simp⟩
          · rename_i hab
            split at e
            · rename_i hc
              cases e
              cases hx with
              | ptrOld _ h1 => cases hy with
                | ptrOld _ h2 => exact ⟨_, _, rfl, rfl, by rw [both _ _ hc.1]; simp [hab]⟩
                | ptrNew _ h2 => rw [h1] at hc; exact absurd hc.2 (by simp)
              | ptrNew off h1 => cases hy with
                | ptrOld _ h2 => rw [h2] at hc; exact absurd hc.2 (by simp)
                | ptrNew off2 h2 =>
                  obtain ⟨c1, c2⟩ := hc
                  simp only [Option.some.injEq] at c1 c2
                  subst c1; subst c2
                  rw [h1] at h2; cases h2
                  refine ⟨_, _, rfl, rfl, ?_⟩
                  rw [both ⟨_, off, none⟩ ⟨_, off2, none⟩ rfl]
                  have : off ≠ off2 := fun h => hab (by rw [h])
                  simp [this]
            · cases e
    | _ => cases p <;> simp [aeq] at e
  | _ => simp [aeq] at e

theorem isEq_spec {op : BinOp} (h : isEq op = true) : op = .eql ∨ op = .neq := by cases op <;> simp_all [isEq]
theorem isNeq_eq (op : BinOp) (b : Bool) : (if isNeq op then !b else b) = (if op = .neq then !b else b) := by cases op <;> simp [isNeq]

theorem sim_bin {op : BinOp} {T T' : TypeId} {x y : Operand} (hρ : EvOk m t ρ) (H : HRel m w0 h w) (ho : o.op = .binOp op T x y T')
    (e : aexec C t h (cOp P o) = some (v, h')) : OpRes m w0 h v h' ((execOp ρ o).run P w) := by
  have hc : cOp P o = cBin P op T x y := by unfold cOp; rw [ho]
  have hr : ∀ u, (do eqGuard op T x y (ρ x) (ρ y); binOp op T (ρ x) (ρ y) : Sem Value).run P w = .ok u w → (execOp ρ o).run P w = .ok (.value u) w := by
    intro u hu
    unfold execOp
    rw [ho]
    simp only [Sem.run_bind] at hu ⊢
    simp only [hu, Result.andThen_ok, Sem.run_pure]
  rw [hc] at e
  clear hc ho
  unfold cBin at e
  split at e
  · rename_i a b ha hb
    have rx := hρ _ _ ha
    have ry := hρ _ _ hb
    generalize ρ x = x' at rx hr
    generalize ρ y = y' at ry hr
    have bin : aexec C t h (.bin op a b) = some (v, h') → OpRes m w0 h v h' ((execOp ρ o).run P w) := by
      intro e
      simp only [aexec] at e
      cases hbn : abin op (a.ev t) (b.ev t) with
      | none => rw [hbn] at e; cases e
      | some u =>
        rw [hbn] at e
        simp only [Option.map_some, Option.some.injEq, Prod.mk.injEq] at e
        obtain ⟨rfl, rfl⟩ := e
        obtain ⟨q1, q2⟩ := abin_run (P := P) (w := w) hbn rx ry T x y
        exact OpRes.same H (hr _ q1) q2
    have cmp : ∀ (k : EqK), (op = .eql ∨ op = .neq) → aexec C t h (.eq (isNeq op) k a b) = some (v, h') →
        (∀ bb, aeq k (a.ev t) (b.ev t) = some bb → (∀ k n, x' ≠ .int k n) ∧ (∀ s, x' ≠ .string s) ∧ (∀ k n, x' ≠ .float k n) ∧ (∀ k n p, x' ≠ .complex k n p) ∧
          (eqGuard op T x y x' y').run P w = .ok () w ∧ (Op.equalIn 10000 T x' y').run P w = .ok bb w) → OpRes m w0 h v h' ((execOp ρ o).run P w) := by
      intro k hop e hk
      simp only [aexec] at e
      cases hbn : aeq k (a.ev t) (b.ev t) with
      | none => rw [hbn] at e; cases e
      | some u =>
        rw [hbn] at e
        simp only [Option.map_some, Option.some.injEq, Prod.mk.injEq] at e
        obtain ⟨rfl, rfl⟩ := e
        obtain ⟨k1, k2, k3, k4, k5, k6⟩ := hk u hbn
        rw [isNeq_eq]
        exact OpRes.same H (hr _ (eq_run hop k1 k2 k3 k4 k5 k6)) (.bool _)
    split at e
    · exact bin e
    · exact bin e
    · rename_i htd
      split at e
      · rename_i hop
        refine cmp _ (isEq_spec hop) e fun bb hbb => ?_
        simp only [aeq] at hbb
        obtain ⟨rfl, rfl⟩ := veqK_same hbb rx ry
        have q := veqK_run (P := P) (w := w) (d := 9999) hbb htd
        generalize a.ev t = X at *; generalize b.ev t = Y at *
        cases X <;> cases Y <;> simp only [veqK, reduceCtorEq] at hbb
        exact ⟨by simp, by simp, by simp, by simp, eqGuard_other (by simp) (by simp), q⟩
      · simp [aexec] at e
    · rename_i td htd1 htd2 htd3 htd
      split at e
      · rename_i hop
        have hop := isEq_spec hop
        split at e
        · rename_i hnil
          unfold cNil at e
          split at e
          · refine cmp _ hop e fun bb hbb => ?_
            have hn := nil_run (P := P) (w := w) (T := T) (d := 9999) hbb rx ry ⟨_, htd⟩
            obtain ⟨p, q, rfl, rfl⟩ := aeq_pointer hbb rx ry
            exact ⟨by simp, by simp, by simp, by simp, eqGuard_other (by simp) (by simp), hn⟩
          · refine cmp _ hop e fun bb hbb => ?_
            have hn := nil_run (P := P) (w := w) (T := T) (d := 9999) hbb rx ry ⟨_, htd⟩
            obtain ⟨p, q, r, p', q', r', rfl, rfl⟩ := aeq_slice hbb rx ry
            exact ⟨by simp, by simp, by simp, by simp, eqGuard_other (by simp) (by simp), hn⟩
          · refine cmp _ hop e fun bb hbb => ?_
            have hn := nil_run (P := P) (w := w) (T := T) (d := 9999) hbb rx ry ⟨_, _, htd⟩
            obtain ⟨p, q, rfl, rfl⟩ := aeq_map hbb rx ry
            exact ⟨by simp, by simp, by simp, by simp, eqGuard_other (by simp) (by simp), hn⟩
          · refine cmp _ hop e fun bb hbb => ?_
            have hn := nil_run (P := P) (w := w) (T := T) (d := 9999) hbb rx ry ⟨_, _, _, htd⟩
            obtain ⟨rfl | ⟨f, a1, b1, rfl⟩, rfl | ⟨f', a2, b2, rfl⟩⟩ := aeq_func hbb rx ry <;>
              exact ⟨by simp, by simp, by simp, by simp, eqGuard_other (by simp) (by simp), hn⟩
          · refine cmp _ hop e fun bb hbb => ?_
            have hn := nil_run (P := P) (w := w) (T := T) (d := 9999) hbb rx ry ⟨_, htd⟩
            have gn : (eqGuard op T x y .nilIface .nilIface).run P w = .ok () w := by
              have hcst : (∃ v, x = .const v) ∨ ∃ v, y = .const v := by
                rcases Bool.or_eq_true_iff.1 hnil with hh | hh
                · exact .inl (nilConst_spec _ hh)
                · exact .inr (nilConst_spec _ hh)
              rcases hop with rfl | rfl <;> rcases hcst with ⟨v, rfl⟩ | ⟨v, rfl⟩
              · rfl
              · cases x <;> rfl
              · rfl
              · cases x <;> rfl
            obtain ⟨rfl | ⟨f, a1, rfl⟩, rfl | ⟨f', a2, rfl⟩⟩ := aeq_iface hbb rx ry
            · exact ⟨by simp, by simp, by simp, by simp, gn, hn⟩
            all_goals exact ⟨by simp, by simp, by simp, by simp, eqGuard_other (by simp) (by simp), hn⟩
          · simp [aexec] at e
        · split at e
          · split at e
            · rename_i hfit
              refine cmp _ hop e fun bb hbb => ?_
              unfold ptrFits at hfit
              split at hfit
              · rename_i el htd2
                split at hfit
                · rename_i n hn
                  obtain ⟨p, q, rfl, rfl, hq⟩ := ptr_run (P := P) (w := w) 9999 hbb rx ry htd hn (by simpa using hfit)
                  exact ⟨by simp, by simp, by simp, by simp, eqGuard_other (by simp) (by simp), hq⟩
                · cases hfit
              · cases hfit
            · simp [aexec] at e
          split at e
          · rename_i s hs ha'
            split at e
            · rename_i hguard
              refine cmp _ hop e fun bb hbb => ?_
              generalize a.ev t = X at hbb rx; generalize b.ev t = Y at hbb ry
              cases X <;> cases Y <;> simp only [aeq, reduceCtorEq] at hbb
              rename_i l l'
              obtain ⟨l⟩ := l; obtain ⟨l'⟩ := l'
              cases rx with
              | agg l1 u1 r1 r2 => cases ry with
                | agg l2 u2 r3 r4 =>
                  obtain ⟨rfl, rfl⟩ := veqL_same (m := m) hbb ⟨r1, r2⟩ ⟨r3, r4⟩
                  have q := shape_run (P := P) (w := w) 50 T s hs 10000 (by decide) _ _ _ hbb
                  simp only [wrap, ha'] at q
                  exact ⟨by simp, by simp, by simp, by simp, run_eqGuard_agg w op T x y _ _ hguard, q⟩
            · simp [aexec] at e
          · simp [aexec] at e
      · simp [aexec] at e
    · simp [aexec] at e
  · simp [aexec] at e

end
end Go.Ab

/- Operations, one by one (third part): what is built, converted, made. -/
namespace Go.Ab
section
variable {P : Program} {C : Ctx} {t : List Value} {h h' : AHeap} {v : Value} {m : Mu} {w0 w : World} {ρ : Operand → Value} {o : Oper}

theorem VRel.partCells {x y : Value} (hv : VRel m x y) (hx : partOk x = true) : VRelL m (cellsOf x) y.cells.toList := by
  cases hv with
  | any => simp [partOk] at hx
  | agg x u h1 h2 => exact ⟨h1, h2⟩
  | tuple => simp [partOk] at hx
  | bool b => exact VRelL.cons (.bool b) (VRelL.nil _)
  | int k n => exact VRelL.cons (.int k n) (VRelL.nil _)
  | float k n => exact VRelL.cons (.float k n) (VRelL.nil _)
  | string s => exact VRelL.cons (.string s) (VRelL.nil _)
  | nilFunc => exact VRelL.cons .nilFunc (VRelL.nil _)
  | nilIface => exact VRelL.cons .nilIface (VRelL.nil _)
  | ptrNil => exact VRelL.cons .ptrNil (VRelL.nil _)
  | ptrOld a hs => exact VRelL.cons (.ptrOld a hs) (VRelL.nil _)
  | ptrNew off hm => exact VRelL.cons (.ptrNew off hm) (VRelL.nil _)
  | slNil => exact VRelL.cons .slNil (VRelL.nil _)
  | slOld a l c hs => exact VRelL.cons (.slOld a l c hs) (VRelL.nil _)
  | slPlain off l c hm => exact VRelL.cons (.slPlain off l c hm) (VRelL.nil _)
  | slEmpty b off a => exact VRelL.cons (.slEmpty b off a) (VRelL.nil _)
  | slExact off l c hm hc => exact VRelL.cons (.slExact off l c hm hc) (VRelL.nil _)
  | slRest off l c hm h1 h2 => exact VRelL.cons (.slRest off l c hm h1 h2) (VRelL.nil _)
  | slEnd off a hm h1 => exact VRelL.cons (.slEnd off a hm h1) (VRelL.nil _)
  | mapNil => exact VRelL.cons .mapNil (VRelL.nil _)
  | mapNew hm => exact VRelL.cons (.mapNew hm) (VRelL.nil _)
  | yield h => exact VRelL.cons (.yield h) (VRelL.nil _)
  | func f x y u v h0 h1 h2 h3 h4 => exact VRelL.cons (.func f x y u v h0 h1 h2 h3 h4) (VRelL.nil _)
  | iface t v w hvw => exact VRelL.cons (.iface t v w hvw) (VRelL.nil _)

theorem foldl_set : ∀ (vs : List Value) (off j : Nat) (cs : Array Value), off + j + vs.length ≤ cs.size →
    ((vs.zipIdx j).foldl (fun (cs : Array Value) (x : Value × Nat) => cs.setIfInBounds (off + x.2) x.1) cs).toList = splice cs.toList (off + j) vs
  | [], off, j, cs, _ => by simp [splice_nil]
  | v :: vs, off, j, cs, hl => by
    simp only [List.length_cons] at hl
    rw [List.zipIdx_cons, List.foldl_cons, foldl_set vs off (j + 1) _ (by simp; omega)]
    simp only [Array.toList_setIfInBounds]
    rw [← Nat.add_assoc, splice_cons (by simp; omega)]

theorem fill_sim {place place' : Nat → Option (Nat × Nat)} (hp : ∀ i x, place i = some x → place' i = some x) (hρ : EvOk m t ρ) : ∀ (parts : List (Nat × Operand)) (l : List (Nat × Nat × AArg)) (c c2 : List Value) (cc : Array Value),
    cParts place parts = some l → fillCells c (l.map fun (o, n, x) => (o, n, x.ev t)) = some c2 → VRelL m c cc.toList →
    ∃ cc2, Instr.fill place' cc (parts.map fun (i, x) => (i, ρ x)) = some cc2 ∧ VRelL m c2 cc2.toList
  | [], l, c, c2, cc, hl, hf, hc => by
    simp only [cParts, Option.some.injEq] at hl
    subst hl
    simp only [List.map_nil, fillCells, Option.some.injEq] at hf
    subst hf
    exact ⟨cc, rfl, hc⟩
  | (i, x) :: r, l, c, c2, cc, hl, hf, hc => by
    simp only [cParts] at hl
    split at hl
    · rename_i off n a l' h1 h2 h3
      cases hl
      simp only [List.map_cons, fillCells] at hf
      split at hf
      · rename_i hcond
        obtain ⟨k1, k2, k3⟩ := hcond
        have hv := (hρ _ _ h2).partCells k3
        have hsz : (ρ x).cells.size = n := by rw [← k1]; simpa using hv.1.symm
        have hcs : cc.size = c.length := by simpa using hc.1.symm
        have hsp : VRelL m (splice c off (cellsOf (a.ev t))) (((ρ x).cells.zipIdx.foldl (fun cs (c, j) => cs.setIfInBounds (off + j) c) cc).toList) := by
          rw [← Array.foldl_toList, Array.toList_zipIdx]
          have := foldl_set (ρ x).cells.toList off 0 cc (by simp; omega)
          simp only [Nat.add_zero] at this
          rw [this]
          exact hc.splice hv _
        obtain ⟨cc2, q1, q2⟩ := fill_sim hp hρ r l' _ c2 _ h3 hf hsp
        refine ⟨cc2, ?_, q2⟩
        simp only [List.map_cons, Instr.fill, hp _ _ h1]
        rw [if_neg (by simp; omega)]
        exact q1
      · cases hf
    · cases hl

theorem run_mapM_fields {f : Field → Option Nat} (hf : ∀ x n, f x = some n → szOf P x.type = some n) : ∀ (fs : List Field), fs.all (fun x => (f x).isSome) = true →
    (fs.mapM (fun x => do pure (x.offset, ← sizeOf x.type) : Field → Sem (Nat × Nat))).run P w = .ok (fs.map fun x => (x.offset, (f x).getD 0)) w
  | [], _ => rfl
  | x :: fs, hall => by
    simp only [List.all_cons, Bool.and_eq_true] at hall
    obtain ⟨n, hn⟩ := Option.isSome_iff_exists.1 hall.1
    have ih := run_mapM_fields hf fs hall.2
    simp only [List.mapM_cons, Sem.run_bind, run_sizeOf (hf _ _ hn), Result.andThen_ok, Sem.run_pure, ih, List.map_cons, hn, Option.getD_some]

theorem constOkL_spec : ∀ {l : List Value}, constOkL l = true → ∀ x ∈ l, constOk x = true
  | [], _, x, hx => by cases hx
  | a :: l, h, x, hx => by
    simp only [constOkL, Bool.and_eq_true] at h
    cases hx with
    | head => exact h.1
    | tail _ hx => exact constOkL_spec h.2 x hx
theorem const_cells {z : Value} (h : constOk z = true) : VRelL m (cellsOf z) z.cells.toList := by
  have := constOk_self (m := m) z h
  cases z with
  | agg l => obtain ⟨l⟩ := l; cases this with | agg _ _ h1 h2 => exact ⟨h1, h2⟩
  | _ => exact VRelL.cons this (VRelL.nil _)

theorem sim_build {ty : TypeId} {parts : Array (Nat × Operand)} (hρ : EvOk m t ρ) (H : HRel m w0 h w) (ho : o.op = .build ty parts)
    (e : aexec C t h (cOp P o) = some (v, h')) : OpRes m w0 h v h' ((execOp ρ o).run P w) := by
  unfold cOp at e
  rw [ho] at e
  simp only at e
  split at e
  · rename_i z fields hz hu
    split at e
    · rename_i l hl
      split at e
      · rename_i hall
        simp only [aexec] at e
        cases hf : fillCells (cellsOf z) (l.map fun (o, n, x) => (o, n, x.ev t)) with
        | none => rw [hf] at e; cases e
        | some c =>
          rw [hf] at e
          simp only [Option.map_some, Option.some.injEq, Prod.mk.injEq] at e
          obtain ⟨rfl, rfl⟩ := e
          obtain ⟨i, hi, hz1, hz2⟩ := zeroOf_spec hz
          have hall' : fields.toList.all (fun x => (szOf P x.type).isSome) = true := by rw [Array.all_toList]; exact hall
          have hpl : ∀ (i : Nat) x, (fields[i]?.bind fun (f : Field) => (szOf P f.type).map fun n => (f.offset, n)) = some x →
              ((fields.toList.map fun (x : Field) => (x.offset, (szOf P x.type).getD 0)).toArray)[i]? = some x := by
            intro i x hx
            cases hfi : fields[i]? with
            | none => rw [hfi] at hx; cases hx
            | some f =>
              rw [hfi] at hx
              simp only [Option.bind_some] at hx
              cases hs : szOf P f.type with
              | none => rw [hs] at hx; cases hx
              | some n =>
                rw [hs] at hx
                simp only [Option.map_some, Option.some.injEq] at hx
                subst hx
                simp [hfi, hs]
          obtain ⟨cc, q1, q2⟩ := fill_sim hpl hρ parts.toList l _ c z.cells hl hf (const_cells hz2)
          refine OpRes.same H (v' := .agg cc) ?_ (by obtain ⟨cc⟩ := cc; exact .agg _ _ q2.1 q2.2)
          have hm := run_mapM_fields (P := P) (w := w) (f := fun x => szOf P x.type) (fun x n hx => hx) fields.toList hall'
          have hma : (fields.mapM (fun f => do pure (f.offset, ← sizeOf f.type) : Field → Sem (Nat × Nat))).run P w = .ok (fields.toList.map fun x => (x.offset, (szOf P x.type).getD 0)).toArray w := by
            rw [Array.mapM_eq_mapM_toList, Sem.run_map, hm]; rfl
          simp only [execOp, ho, Instr.build, Sem.run_bind, run_zeroValue hz, Result.andThen_ok, run_under hu, hma, Array.toList_map, q1, Sem.run_pure]
      · simp [aexec] at e
    · simp [aexec] at e
  · rename_i z n e' hz hu
    split at e
    · rename_i k hk
      split at e
      · rename_i l hl
        simp only [aexec] at e
        cases hf : fillCells (cellsOf z) (l.map fun (o, n, x) => (o, n, x.ev t)) with
        | none => rw [hf] at e; cases e
        | some c =>
          rw [hf] at e
          simp only [Option.map_some, Option.some.injEq, Prod.mk.injEq] at e
          obtain ⟨rfl, rfl⟩ := e
          obtain ⟨i, hi, hz1, hz2⟩ := zeroOf_spec hz
          obtain ⟨cc, q1, q2⟩ := fill_sim (fun _ _ hx => hx) hρ parts.toList l _ c z.cells hl hf (const_cells hz2)
          refine OpRes.same H (v' := .agg cc) ?_ (by obtain ⟨cc⟩ := cc; exact .agg _ _ q2.1 q2.2)
          simp only [execOp, ho, Instr.build, Sem.run_bind, run_zeroValue hz, Result.andThen_ok, run_under hu, run_sizeOf hk, Array.toList_map, q1, Sem.run_pure]
      · simp [aexec] at e
    · simp [aexec] at e
  · simp [aexec] at e

theorem zeroRow_eq (z : Array Value) (n k : Nat) (hk : z.size = k) (h0 : 0 < k) :
    ((Array.range (n * k)).map fun x => z[x % z.size]!).toList = zeroFill z.toList n := by
  obtain ⟨l⟩ := z
  simp only [List.size_toArray] at hk
  subst hk
  unfold zeroFill
  induction n with
  | zero => simp
  | succ n ih =>
    rw [List.replicate_succ', List.flatten_append, ← ih]
    apply List.ext_getElem?
    intro i
    have e1 : (n + 1) * l.length = n * l.length + l.length := by rw [Nat.add_mul]; omega
    simp only [Array.toList_map, Array.toList_range, List.size_toArray, e1, List.flatten_cons, List.flatten_nil, List.append_nil, List.getElem?_append, List.length_map, List.length_range,
      List.getElem?_map]
    by_cases h1 : i < n * l.length
    · rw [if_pos h1, List.getElem?_range (by omega), List.getElem?_range h1]
    · rw [if_neg h1]
      by_cases h2 : i < n * l.length + l.length
      · rw [List.getElem?_range h2]
        have hmod : i % l.length = i - n * l.length := by
          have : i = (i - n * l.length) + n * l.length := by omega
          rw [this, Nat.add_mul_mod_self_right, Nat.mod_eq_of_lt (by omega)]; omega
        have hlt : i - n * l.length < l.length := by omega
        simp [hmod, hlt]
      · rw [List.getElem?_eq_none (by simp; omega), List.getElem?_eq_none (by omega)]; rfl

theorem sim_buildSlice {ty : TypeId} {len : Nat} {parts : Array (Nat × Operand)} (hρ : EvOk m t ρ) (H : HRel m w0 h w) (ho : o.op = .buildSlice ty len parts)
    (e : aexec C t h (cOp P o) = some (v, h')) : OpRes m w0 h v h' ((execOp ρ o).run P w) := by
  unfold cOp at e
  rw [ho] at e
  simp only at e
  split at e
  · rename_i e' hu
    split at e
    · rename_i k z hk hz
      split at e
      · rename_i hcond
        obtain ⟨hk0, hzl, hlim⟩ := hcond
        split at e
        · rename_i l hl
          simp only [aexec] at e
          split at e
          · rename_i c hf
            split at e
            · rename_i hok
              obtain ⟨i, hi, hz1, hz2⟩ := zeroOf_spec hz
              have hzs : z.cells.toList = cellsOf z := by cases z <;> rfl
              have hzsz : z.cells.size = k := by rw [← hzl, ← hzs]; exact Array.length_toList.symm
              have hrow := zeroRow_eq z.cells len k hzsz hk0
              have hcell : VRelL m (zeroFill (cellsOf z) len) ((Array.range (len * k)).map fun x => z.cells[x % z.cells.size]!).toList := by
                rw [hrow, hzs]
                refine ⟨rfl, fun j a b ha hb => ?_⟩
                rw [ha] at hb; cases hb
                have hmem : a ∈ cellsOf z := by
                  have := List.mem_of_getElem? ha
                  unfold zeroFill at this
                  simp only [List.mem_flatten, List.mem_replicate] at this
                  obtain ⟨_, ⟨_, rfl⟩, h3⟩ := this
                  exact h3
                exact constOk_self a (by
                  cases z with
                  | agg l => obtain ⟨l⟩ := l; simp only [constOk] at hz2; exact constOkL_spec hz2 a (by simpa [cellsOf] using hmem)
                  | _ => simp only [cellsOf, List.mem_singleton] at hmem; subst hmem; exact hz2)
              obtain ⟨cc, q1, q2⟩ := fill_sim (fun _ _ hx => hx) hρ parts.toList l _ c _ hl hf hcell
              have hrun : (execOp ρ o).run P w = .ok (.value (.slice (some ⟨w.heap.size, 0, none⟩) len len)) (w.alloc (.cells cc e')) := by
                by_cases hl0 : len = 0
                · subst hl0
                  have hr0 : ∀ f : Nat → Value, (Array.range 0).map f = #[] := fun f => Array.ext' (by simp)
                  have q1' : Instr.fill (fun i => some (i * k, k)) #[] (parts.toList.map fun (i, x) => (i, ρ x)) = some cc := by
                    have q := q1
                    rw [Nat.zero_mul, hr0] at q
                    exact q
                  have q2' : Instr.fill (fun i => some (i * k, k)) ((Array.range (0 * k)).map fun x => (#[] : Array Value)[x % (#[] : Array Value).size]!) (parts.toList.map fun (i, x) => (i, ρ x)) = some cc := by
                    rw [Nat.zero_mul, hr0]; exact q1'
                  have hz0 : 0 * k = 0 := Nat.zero_mul k
                  simp only [execOp, ho, Instr.buildSlice, Sem.run_bind, run_under hu, Result.andThen_ok, run_sizeOf hk, hz0, if_true, Sem.run_pure, Array.toList_map]
                  rw [hz0] at q2'
                  rw [if_neg (by omega)]
                  simp only [Sem.run_bind, Sem.run_pure, Result.andThen_ok, q2']
                  simp [newRow]
                · have hne : ¬ len * k = 0 := by
                    have := Nat.mul_pos (Nat.pos_of_ne_zero hl0) hk0
                    omega
                  have hlim' : ¬ (len * k > 2 ^ 24) := by omega
                  simp only [execOp, ho, Instr.buildSlice, Sem.run_bind, run_under hu, Result.andThen_ok, run_sizeOf hk, hlim', if_false, hne, Sem.run_ite, run_zeroValue hz, Sem.run_pure, Array.toList_map]
                  simp only [q1]
                  simp [newRow]
              rw [hrun]
              split at e
              · rename_i hl0
                cases e
                subst hl0
                exact ⟨_, m, H.alloc _, Post.refl _ _, .inl ⟨_, rfl, .slEmpty _ _ _⟩⟩
              · cases e
                obtain ⟨h1, h2⟩ := H.push (blk := .cells c (e' + 1)) (o := .cells cc e') (t := 0) (sz := cc.size) (k := 0)
                  ⟨rfl, cc, e', 0, 0, rfl, rfl, q2, fun _ => ⟨free_zero _, rfl⟩⟩
                exact ⟨_, _, h1, h2, .inl ⟨_, rfl, .slPlain 0 len len (Mu.set_self _ _ _ _)⟩⟩
            · cases e
          · cases e
        · simp [aexec] at e
      · simp [aexec] at e
    · simp [aexec] at e
  · simp [aexec] at e

end
end Go.Ab

/- Operations, one by one (fourth part). -/
namespace Go.Ab
section
variable {P : Program} {C : Ctx} {t : List Value} {h h' : AHeap} {v : Value} {m : Mu} {w0 w : World} {ρ : Operand → Value} {o : Oper}

theorem sim_un {op : UnOp} {T : TypeId} {x : Operand} (hρ : EvOk m t ρ) (H : HRel m w0 h w) (ho : o.op = .unOp op T x)
    (e : aexec C t h (cOp P o) = some (v, h')) : OpRes m w0 h v h' ((execOp ρ o).run P w) := by
  unfold cOp at e
  rw [ho] at e
  simp only at e
  split at e
  · rename_i a ha
    have hv := hρ _ _ ha
    simp only [aexec] at e
    cases hu : aun op (a.ev t) with
    | none => rw [hu] at e; cases e
    | some u =>
      rw [hu] at e
      simp only [Option.map_some, Option.some.injEq, Prod.mk.injEq] at e
      obtain ⟨rfl, rfl⟩ := e
      generalize a.ev t = X at hv hu
      have key : (Op.unary op (ρ x)).run P w = .ok u w ∧ VRel m u u := by
        generalize ρ x = Y at hv
        unfold aun at hu
        split at hu
        · cases hv; cases hu; exact ⟨by simp [Op.unary, Op.intArith], .int _ _⟩
        · cases hv; cases hu; exact ⟨by simp only [Op.unary, Op.intBits, Sem.run_pure], .int _ _⟩
        · cases hv; cases hu; exact ⟨by simp [Op.unary], .bool _⟩
        · cases hu
      exact OpRes.same H (by simp [execOp, ho, key.1]) key.2
  · simp [aexec] at e

theorem run_loadBytes_forIn (f : Value → ByteArray → Sem (ForInStep ByteArray)) (hf : ∀ n r, (f (.int .u8 n) r).run P w = .ok (.yield (r.push (UInt8.ofNat n.toNat))) w)
    (l : List Value) (bs : List UInt8) (hb : valsBytes l = some bs) (s : ByteArray) :
    (forIn (m := Sem) (⟨l⟩ : Array Value) s f).run P w = .ok ⟨⟨s.data.toList ++ bs⟩⟩ w := by
  rw [← Array.forIn_toList]
  simp only
  induction l generalizing bs s with
  | nil =>
    simp only [valsBytes, Option.some.injEq] at hb
    subst hb
    simp
  | cons v l ih =>
    have hv : ∃ n b', v = .int .u8 n ∧ valsBytes l = some b' ∧ bs = UInt8.ofNat n.toNat :: b' := by
      unfold valsBytes at hb
      split at hb
      · rename_i he; cases he
      · rename_i n r he
        cases he
        cases hr : valsBytes l with
        | none => rw [hr] at hb; cases hb
        | some b' => rw [hr] at hb; simp only [Option.map_some, Option.some.injEq] at hb; exact ⟨n, b', rfl, rfl, hb.symm⟩
      · cases hb
    obtain ⟨n, b', rfl, hr, rfl⟩ := hv
    rw [List.forIn_cons]
    simp only [Sem.run_bind, hf, Result.andThen_ok]
    rw [ih b' hr]
    congr 2
    simp [ByteArray.push]

theorem valsBytes_rel {x u : List Value} {bs : List UInt8} (h1 : valsBytes x = some bs) (hr : VRelL m x u) : u = x := by
  induction x generalizing u bs with
  | nil => exact hr.nil_left
  | cons a x ih =>
    obtain ⟨b, u', rfl, hb, hx⟩ := hr.uncons
    unfold valsBytes at h1
    split at h1
    · rename_i he; cases he
    · rename_i n r he
      cases he
      cases hr' : valsBytes x with
      | none => rw [hr'] at h1; cases h1
      | some b' => cases hb; rw [ih hr' hx]
    · cases h1

theorem freeze_new (w : World) (row : Array Value) (e n : Nat) : (w.alloc (.cells row e)).freeze ⟨w.heap.size, n, none⟩ 1 = w.alloc (.cells row e (n, n + 1)) := by
  unfold World.freeze
  rw [if_neg (by decide)]
  unfold World.alloc
  congr 1
  apply Array.ext_getElem?
  intro i
  rw [Array.getElem?_modify, Array.getElem?_push, Array.getElem?_push]
  by_cases hi : w.heap.size = i
  · subst hi; rw [if_pos rfl, if_pos rfl, if_pos rfl]; rfl
  · rw [if_neg hi]
    split
    · rename_i h2; exact absurd h2.symm hi
    · rfl
theorem bytesVals_length (s : ByteArray) : (bytesVals s.data.toList).length = s.size := by simp [bytesVals]

def LiesOk (P : Program) (C : Ctx) : Prop := ∀ e n off u, C.lies e n off u = true → liesAt P P.depth e (n / P.cellsOf e) off u 1 = true

theorem shape_of_heap {w : World} {cb e : Nat} {cc : Array Value} {f : Nat × Nat} (h : w.heap[cb]? = some (.cells cc e f)) : w.shape? cb = some (e, cc.size) := by
  unfold World.shape?
  rw [h]

theorem sim_conv {S D : TypeId} {x : Operand} (hold : OldOk C.old w0) (hlies : LiesOk P C) (hρ : EvOk m t ρ) (H : HRel m w0 h w) (ho : o.op = .convert S D x)
    (e : aexec C t h (cOp P o) = some (v, h')) : OpRes m w0 h v h' ((execOp ρ o).run P w) := by
  have hc : cOp P o = cConv P S D x := by unfold cOp; rw [ho]
  have hr : (execOp ρ o).run P w = ((convert S D (ρ x)).run P w).andThen fun v w' => .ok (.value v) w' := by
    simp [execOp, ho]
  rw [hc] at e
  rw [hr]
  unfold cConv at e
  split at e
  · simp [aexec] at e
  · rename_i a ha
    have hv := hρ _ _ ha
    split at e
    · -- numbers
      rename_i k1 k hs hd
      simp only [aexec] at e
      cases hx : asI (a.ev t) with
      | none => rw [hx] at e; cases e
      | some n =>
        rw [hx] at e
        simp only [Option.map_some, Option.some.injEq, Prod.mk.injEq] at e
        obtain ⟨rfl, rfl⟩ := e
        generalize a.ev t = X at hx hv
        generalize ρ x = Y at hv ⊢
        cases X <;> simp [asI] at hx
        cases hv
        subst hx
        exact OpRes.same H (v' := .int k (k.wrap _)) (by simp [convert, run_under hs, run_under hd, Conv.intToInt]) (.int _ _)
    · rename_i hs hd
      simp only [aexec] at e
      split at e
      · rename_i s hx
        cases e
        rw [hx] at hv
        cases hX : ρ x <;> rw [hX] at hv <;> cases hv
        exact OpRes.same H (v' := .string s) (by simp [convert, run_under hs, run_under hd]) (.string _)
      · cases e
    · rename_i k1 hs hd
      simp only [aexec] at e
      split at e
      · rename_i n hx
        cases e
        rw [hx] at hv
        cases hX : ρ x <;> rw [hX] at hv <;> cases hv
        exact OpRes.same H (v' := .string (Utf8.encode n)) (by simp [convert, run_under hs, run_under hd, Conv.intToString]) (.string _)
      · cases e
    · rename_i e' hs hd
      split at e
      · rename_i hd'
        simp only [aexec] at e
        split at e
        · rename_i s hx
          split at e
          · rename_i hlim
            cases e
            rw [hx] at hv
            cases hX : ρ x <;> rw [hX] at hv <;> cases hv
            -- a new row, its last cell's neighbour marked
            have hge : s.size ≤ (Question.appendCap s.size 0 e').cut (w.tape w.drawn (.appendCap s.size 0 e')) := by simp [Question.cut]
            generalize hcap : (Question.appendCap s.size 0 e').cut (w.tape w.drawn (.appendCap s.size 0 e')) = cap at hge
            let row : Array Value := (s.data.map fun b => (Value.int .u8 (b.toNat : Int))) ++ Array.replicate (cap - s.size) (.int .u8 0)
            have hrs : row.size = cap := by
              have : s.data.size = s.size := rfl
              simp [row, this]; omega
            have hrow : row.toList = bytesVals s.data.toList ++ List.replicate (cap - s.size) (.int .u8 0) := by simp [row, bytesVals]
            have hrun : (convert S D (.string s)).run P w = .ok (.slice (some ⟨w.heap.size, 0, none⟩) s.size cap) ((w.drew).alloc (.cells row e' (cap, cap + 1))) := by
              have hf : (Question.appendCap s.size 0 e').forced = false := rfl
              have hshape : ((w.drew).alloc (.cells row e')).shape? w.heap.size = some (e', cap) := by
                simp only [World.shape?]
                rw [show ((w.drew).alloc (.cells row e')).heap[w.heap.size]? = some (.cells row e') from heap_alloc_new w.drew _]
                simp [hrs]
              simp only [convert, run_under hs, run_under hd, run_under hd', Sem.run_bind, Result.andThen_ok, Conv.stringToBytes, run_choose, hf, Bool.false_eq_true, if_false, hcap, newRow, run_newObj, Sem.run_pure, markStringish, run_shape]
              rw [show ({ w with drawn := w.drawn + 1 } : World).heap.size = w.heap.size from rfl]
              rw [show ({ ({ w with drawn := w.drawn + 1 } : World) with heap := ({ w with drawn := w.drawn + 1 } : World).heap.push (.cells row e') } : World) = (w.drew).alloc (.cells row e') from rfl]
              rw [hshape]
              simp only [run_freeze, Result.andThen_ok]
              rw [show (w.drew.alloc (.cells row e')).freeze ⟨w.heap.size, cap, none⟩ 1 = w.drew.alloc (.cells row e' (cap, cap + 1)) from freeze_new w.drew row e' cap]
            rw [hrun]
            obtain ⟨h1, h2⟩ := (H.drew (w.drawn + 1)).push (blk := .grow (bytesVals s.data.toList) 0 (e' + 1) 1) (o := .cells row e' (cap, cap + 1)) (t := s.size + 1) (sz := cap) (k := 1)
              ⟨rfl, by omega, by omega, by rw [bytesVals_length]; exact Nat.le_refl _, by omega, row, e', cap, cap + 1, rfl, hrs, by omega, fun _ => by
                rw [hrow, Nat.add_sub_cancel, List.take_append_of_le_length (by rw [bytesVals_length]; exact Nat.le_refl _), List.take_of_length_le (by rw [bytesVals_length]; exact Nat.le_refl _)]
                refine ⟨rfl, fun i x y hx hy => ?_⟩
                rw [hx] at hy; cases hy
                simp only [bytesVals, List.getElem?_map, Option.map_eq_some_iff] at hx
                obtain ⟨_, _, rfl⟩ := hx
                exact .int _ _, fun _ => ⟨rfl, fun _ i hi => by omega⟩⟩
            refine ⟨_, _, h1, h2, .inl ⟨_, rfl, ?_⟩⟩
            exact .slRest 0 s.size cap (Mu.set_self _ _ _ _) (by omega) hge
          · cases e
        · cases e
      · simp [aexec] at e
    · rename_i e' hs hd
      split at e
      · rename_i hd'
        simp only [aexec] at e
        split at e
        · rename_i l c hx
          cases e
          rw [hx] at hv
          cases hX : ρ x <;> rw [hX] at hv <;> cases hv
          refine OpRes.same H (v' := .string .empty) (by simp [convert, run_under hs, run_under hd, run_under hd', Conv.bytesToString]) ?_
          exact .string _
        · rename_i ad n c hx
          split at e
          · rename_i hn0
            subst hn0
            cases e
            rw [hx] at hv
            have fin0 : ∀ (a' : Addr) (c' : Nat), ρ x = .slice (some a') 0 c' → OpRes m w0 h (str []) h (((convert S D (ρ x)).run P w).andThen fun v w' => .ok (.value v) w') := by
              intro a' c' hX
              refine OpRes.same H (v' := str []) ?_ (.string _)
              rw [hX]
              have hrun : (loadCells a' 0).run P w = .ok ⟨[]⟩ w := by simp [loadCells, loadCellsFrom]
              simp only [convert, run_under hs, run_under hd, run_under hd', Sem.run_bind, Result.andThen_ok, Conv.bytesToString, hrun]
              rw [run_loadBytes_forIn _ (fun _ _ => rfl) _ [] rfl .empty]
              rfl
            cases hX : ρ x <;> rw [hX] at hv <;> cases hv
            all_goals exact hX ▸ fin0 _ _ hX
          split at e
          · rename_i l hl
            cases e
            rw [hx] at hv
            cases hrd : readN C.old h ad n with
            | none => rw [hrd] at hl; cases hl
            | some cl =>
              rw [hrd, Option.bind_some] at hl
              have fin : ∀ (a' : Addr) (c' : Nat), ρ x = .slice (some a') n c' → (∃ c2, VRelL m cl c2 ∧ (loadCells a' n).run P w = .ok ⟨c2⟩ w) → OpRes m w0 h (str l) h (((convert S D (ρ x)).run P w).andThen fun v w' => .ok (.value v) w') := by
                rintro a' c' hX ⟨c2, hc2, hrun⟩
                have := valsBytes_rel hl hc2
                subst this
                refine OpRes.same H (v' := str l) ?_ (.string _)
                rw [hX]
                simp only [convert, run_under hs, run_under hd, run_under hd', Sem.run_bind, Result.andThen_ok, Conv.bytesToString, hrun]
                rw [run_loadBytes_forIn _ (fun _ _ => rfl) _ l hl .empty]
                rfl
              have hn0 : ∀ a' : Addr, n = 0 → ∃ c2, VRelL m cl c2 ∧ (loadCells a' n).run P w = .ok ⟨c2⟩ w := by
                intro a' hn
                subst hn
                have : cl = [] := by
                  have := readN_len hrd
                  exact List.eq_nil_of_length_eq_zero this
                subst this
                exact ⟨[], VRelL.nil _, by simp [loadCells, loadCellsFrom]⟩
              obtain ⟨b, off, sp⟩ := ad
              cases hX : ρ x <;> rw [hX] at hv <;> cases hv
              · exact hX ▸ fin _ _ hX (let ⟨_, c', q1, q2⟩ := run_readN (P := P) hold H hrd (.inl ⟨by assumption, rfl⟩); ⟨c', q1, q2⟩)
              · exact hX ▸ fin _ _ hX (let ⟨_, c', q1, q2⟩ := run_readN (P := P) hold H hrd (.inr ⟨_, _, _, _, rfl, by assumption, rfl⟩); ⟨c', q1, q2⟩)
              · exact hX ▸ fin _ _ hX (hn0 _ rfl)
              · exact hX ▸ fin _ _ hX (let ⟨_, c', q1, q2⟩ := run_readN (P := P) hold H hrd (.inr ⟨_, _, _, _, rfl, by assumption, rfl⟩); ⟨c', q1, q2⟩)
              · exact hX ▸ fin _ _ hX (let ⟨_, c', q1, q2⟩ := run_readN (P := P) hold H hrd (.inr ⟨_, _, _, _, rfl, by assumption, rfl⟩); ⟨c', q1, q2⟩)
              · exact hX ▸ fin _ _ hX (hn0 _ rfl)
          · cases e
        · cases e
      · simp [aexec] at e
    · rename_i el hs hd
      split at e
      · rename_i n hn
        split at e
        · simp [aexec] at e
        · rename_i h0
          simp only [aexec] at e
          split at e
          · rename_i hx
            cases e
            rw [hx] at hv
            have hX : ρ x = .pointer none := by generalize ρ x = Y at hv; cases hv; rfl
            exact OpRes.same H (v' := .pointer none) (by rw [hX]; simp [convert, run_under hs, run_under hd, Conv.unsafePointer]) .ptrNil
          · rename_i ad hx
            split at e
            · rename_i c fz hsp hbk
              split at e
              · rename_i hlt
                cases e
                rw [hx] at hv
                obtain ⟨i, hi, hsz⟩ := szOf_spec hn
                generalize ρ x = Y at hv
                cases hv with
                | ptrOld _ h1 => rw [h1] at hsp; cases hsp
                | ptrNew off hm =>
                  cases hsp
                  obtain ⟨_, hb⟩ := H.blk _ _ _ _ _ hm
                  rw [hbk] at hb
                  obtain ⟨_, cc, e, lo, hi', h2, h3, h4, _⟩ := hb
                  have hl : c.length = cc.size := by simpa using h4.1
                  refine OpRes.same H ?_ (.ptrNew off hm)
                  rw [Lib.run_to_unsafe w ⟨_, off, none⟩ hs hd hi (by rw [hsz]; exact h0) (shape_of_heap h2) (by simp only at hlt ⊢; omega)]
                  rfl
              · cases e
            · cases e
          · cases e
      · simp [aexec] at e
    · rename_i u hs hd
      split at e
      · rename_i n hn
        split at e
        · simp [aexec] at e
        · rename_i h0
          simp only [aexec] at e
          split at e
          · rename_i hx
            cases e
            rw [hx] at hv
            have hX : ρ x = .pointer none := by generalize ρ x = Y at hv; cases hv; rfl
            exact OpRes.same H (v' := .pointer none) (by rw [hX]; simp [convert, run_under hs, run_under hd, Conv.unsafePointer]) .ptrNil
          · rename_i ad hx
            split at e
            · rename_i c fz hsp hbk
              split at e
              · rename_i hlt
                obtain ⟨hz, hlt, hcl⟩ := hlt
                cases e
                rw [hx] at hv
                obtain ⟨i, hi, hsz⟩ := szOf_spec hn
                generalize ρ x = Y at hv
                cases hv with
                | ptrOld _ h1 => rw [h1] at hsp; cases hsp
                | ptrNew off hm =>
                  cases hsp
                  obtain ⟨_, hb⟩ := H.blk _ _ _ _ _ hm
                  rw [hbk] at hb
                  obtain ⟨_, cc, e, lo, hi', h2, h3, h4, h5⟩ := hb
                  have hl : c.length = cc.size := by simpa using h4.1
                  have he : fz - 1 = e := by rw [(h5 hz).2]; rfl
                  rw [he, hl] at hcl
                  refine OpRes.same H ?_ (.ptrNew off hm)
                  rw [Lib.run_from_unsafe w ⟨_, off, none⟩ hs hd hi (shape_of_heap h2) (hlies _ _ _ _ hcl)]
                  rfl
              · cases e
            · cases e
          · cases e
      · simp [aexec] at e
    · simp [aexec] at e

end
end Go.Ab

/- Operations, one by one (fifth part). -/
namespace Go.Ab
section
variable {P : Program} {C : Ctx} {t : List Value} {h h' : AHeap} {v : Value} {m : Mu} {w0 w : World} {ρ : Operand → Value} {o : Oper}

theorem sim_mkIface {T : TypeId} {x : Operand} (hρ : EvOk m t ρ) (H : HRel m w0 h w) (ho : o.op = .makeInterface T x)
    (e : aexec C t h (cOp P o) = some (v, h')) : OpRes m w0 h v h' ((execOp ρ o).run P w) := by
  unfold cOp at e
  rw [ho] at e
  simp only at e
  split at e
  · rename_i a d ha hd
    split at e
    · simp [aexec] at e
    · rename_i hni
      simp only [aexec, Option.some.injEq, Prod.mk.injEq] at e
      obtain ⟨rfl, rfl⟩ := e
      refine OpRes.same H (v' := .iface T (ρ x)) ?_ (.iface _ _ _ (hρ _ _ ha))
      simp only [execOp, ho, Instr.makeInterface, Sem.run_bind, run_under hd, Result.andThen_ok]
      cases d <;> first | rfl | exact absurd rfl hni
  · simp [aexec] at e

theorem args_rel (hρ : EvOk m t ρ) : ∀ (l : List Operand) (as : List AArg), l.mapM cArg = some as → VRelL m (as.map (·.ev t)) (l.map ρ)
  | [], as, h => by simp at h; subst h; exact VRelL.nil _
  | x :: l, as, h => by
    simp only [List.mapM_cons] at h
    cases h1 : cArg x with
    | none => simp [h1] at h
    | some a =>
      cases h2 : l.mapM cArg with
      | none => simp [h1, h2] at h
      | some as' =>
        simp [h1, h2] at h
        subst h
        exact VRelL.cons (hρ _ _ h1) (args_rel hρ l as' h2)

theorem sim_mkFunc {f : FuncId} {first cap : Array Operand} (hρ : EvOk m t ρ) (H : HRel m w0 h w) (ho : o.op = .makeFunc (.func f) first cap)
    (e : aexec C t h (cOp P o) = some (v, h')) : OpRes m w0 h v h' ((execOp ρ o).run P w) := by
  unfold cOp at e
  rw [ho] at e
  simp only at e
  split at e
  · rename_i a b ha hb
    by_cases hlt : f < fYield
    case neg => rw [if_neg hlt] at e; simp [aexec] at e
    rw [if_pos hlt] at e
    simp only [aexec, Option.some.injEq, Prod.mk.injEq] at e
    obtain ⟨rfl, rfl⟩ := e
    have r1 := args_rel hρ _ _ ha
    have r2 := args_rel hρ _ _ hb
    refine OpRes.same H (v' := .func (.func f) (first.map ρ) (cap.map ρ)) (by simp [execOp, ho, Instr.makeFunc]) ?_
    have e1 : first.map ρ = ⟨first.toList.map ρ⟩ := Array.ext' (by simp)
    have e2 : cap.map ρ = ⟨cap.toList.map ρ⟩ := Array.ext' (by simp)
    rw [e1, e2]
    exact .func _ _ _ _ _ hlt r1.1 r1.2 r2.1 r2.2
  · simp [aexec] at e

theorem sim_mkMap {T : TypeId} (H : HRel m w0 h w) (ho : o.op = .makeMap T none)
    (e : aexec C t h (cOp P o) = some (v, h')) : OpRes m w0 h v h' ((execOp ρ o).run P w) := by
  unfold cOp at e
  rw [ho] at e
  simp only [aexec, Option.some.injEq, Prod.mk.injEq] at e
  obtain ⟨rfl, rfl⟩ := e
  obtain ⟨h1, h2⟩ := H.push (blk := .map [] 0) (o := .map #[] 0) (t := 0) (sz := 0) (k := 0) ⟨rfl, [], rfl, rfl, fun i a b ha => by simp at ha⟩
  exact ⟨_, _, h1, h2, .inl ⟨.map (some w.heap.size), by simp [execOp, ho, Instr.makeMap], .mapNew (Mu.set_self _ _ _ _)⟩⟩

theorem wrap_id {n : Int} (h0 : 0 ≤ n) (h1 : n < 9223372036854775808) : IntKind.i64.wrap n = n := wrap_small n h0 h1

theorem sim_mkSlice {T : TypeId} {x y : Operand} (hρ : EvOk m t ρ) (H : HRel m w0 h w) (ho : o.op = .makeSlice T x y)
    (e : aexec C t h (cOp P o) = some (v, h')) : OpRes m w0 h v h' ((execOp ρ o).run P w) := by
  unfold cOp at e
  rw [ho] at e
  simp only at e
  split at e
  · rename_i e' a b hu ha hb
    split at e
    · rename_i k by' z hk hby hz
      split at e
      · rename_i hcond
        obtain ⟨hk0, hb0, hzl⟩ := hcond
        simp only [aexec] at e
        split at e
        · rename_i l c hl hc
          split at e
          · rename_i hlim
            obtain ⟨hl0, hlc, hcb, hcl, _, hzok⟩ := hlim
            obtain ⟨k1, hx, hxr⟩ := run_asI hl (hρ _ _ ha)
            obtain ⟨k2, hy, hyr⟩ := run_asI hc (hρ _ _ hb)
            obtain ⟨i, hi, hz1, hz2⟩ := zeroOf_spec hz
            obtain ⟨ib, hib, hib2⟩ := byOf_spec hby
            have hzs : z.cells.toList = cellsOf z := by cases z <;> rfl
            have hzsz : z.cells.size = k := by rw [← hzl, ← hzs]; exact Array.length_toList.symm
            have hlimv : sizeLim = 1099511627776 := by decide
            have hwl : IntKind.i64.wrap l = l := wrap_id hl0 (by rw [hlimv] at hcl; omega)
            have hwc : IntKind.i64.wrap c = c := wrap_id (by omega) (by rw [hlimv] at hcl; omega)
            have hc0 : 0 ≤ c := by omega
            have hn1 : ¬ c < 0 := by omega
            have hbc : ¬ ((by' : Int) * c > 2 ^ 48) := by
              rw [Int.mul_comm]
              have : c * (by' : Int) ≤ 1099511627776 := by rw [hlimv] at hcb; exact hcb
              omega
            have hrow := zeroRow_eq z.cells c.toNat k hzsz hk0
            have hcells : VRelL m (zeroFill (cellsOf z) c.toNat) ((Array.range (c.toNat * k)).map fun x => z.cells[x % z.cells.size]!).toList := by
              rw [hrow, hzs]
              refine ⟨rfl, fun j a b ha hb => ?_⟩
              rw [ha] at hb; cases hb
              have hmem : a ∈ cellsOf z := by
                have := List.mem_of_getElem? ha
                unfold zeroFill at this
                simp only [List.mem_flatten, List.mem_replicate] at this
                obtain ⟨_, ⟨_, rfl⟩, h3⟩ := this
                exact h3
              exact constOk_self a (by
                cases z with
                | agg l => obtain ⟨l⟩ := l; simp only [constOk] at hz2; exact constOkL_spec hz2 a (by simpa [cellsOf] using hmem)
                | _ => simp only [cellsOf, List.mem_singleton] at hmem; subst hmem; exact hz2)
            have hlarge : (decide (c < 0) || decide ((by' : Int) * c > 2 ^ 48)) = false := by rw [decide_eq_false hn1, decide_eq_false hbc]; rfl
            have hguard : ((decide (c < 0) || decide ((by' : Int) * c > 2 ^ 48)) || decide (l < 0) || decide (l > c)) = false := by
              rw [hlarge, decide_eq_false (show ¬ l < 0 by omega), decide_eq_false (show ¬ l > c by omega)]; rfl
            have hrun : (execOp ρ o).run P w = .ok (.value (.slice (some ⟨w.heap.size, 0, none⟩) l.toNat c.toNat)) (w.alloc (.cells (if c.toNat * k = 0 then (Array.range (c.toNat * k)).map fun x => (#[] : Array Value)[x % (#[] : Array Value).size]! else (Array.range (c.toNat * k)).map fun x => z.cells[x % z.cells.size]!) e')) := by
              simp only [execOp, ho, Instr.makeSlice, Sem.run_bind, run_under hu, Result.andThen_ok, hxr, hyr, run_typeInfo hib, hib2, hwl, hwc, Sem.run_ite, hguard, Bool.false_eq_true, if_false, run_askRoom,
                run_sizeOf hk, Sem.run_pure, run_zeroValue hz]
              by_cases h0 : c.toNat * k = 0
              · simp only [h0, if_true, Sem.run_pure, Result.andThen_ok, newRow, Sem.run_bind]; simp
              · simp only [h0, if_false, Sem.run_pure, Result.andThen_ok, newRow, Sem.run_bind]; simp
            rw [hrun]
            by_cases hcz : c = 0
            · rw [if_pos hcz] at e
              cases e
              subst hcz
              have : l.toNat = 0 := by omega
              rw [this]
              exact ⟨_, m, H.alloc _, Post.refl _ _, .inl ⟨_, rfl, .slEmpty _ _ _⟩⟩
            · rw [if_neg hcz] at e
              cases e
              have h0 : ¬ c.toNat * k = 0 := by
                have := Nat.mul_pos (show 0 < c.toNat by omega) hk0
                omega
              rw [if_neg h0]
              obtain ⟨h1, h2⟩ := H.push (blk := .cells (zeroFill (cellsOf z) c.toNat) (e' + 1)) (o := .cells ((Array.range (c.toNat * k)).map fun x => z.cells[x % z.cells.size]!) e') (t := 0)
                (sz := ((Array.range (c.toNat * k)).map fun x => z.cells[x % z.cells.size]!).size) (k := 0) ⟨rfl, _, e', 0, 0, rfl, rfl, hcells, fun _ => ⟨free_zero _, rfl⟩⟩
              exact ⟨_, _, h1, h2, .inl ⟨_, rfl, .slPlain 0 _ _ (Mu.set_self _ _ _ _)⟩⟩
          · cases e
        · cases e
      · simp [aexec] at e
    · simp [aexec] at e
  · simp [aexec] at e

/- cutting -/
def optV (ρ : Operand → Value) (x : Option Operand) : Option Value := x.map ρ
theorem optI_rel {x : Option Operand} {a : Option AArg} {n : Option Int} (hρ : EvOk m t ρ) (ha : cOpt x = some a) (hn : optI t a = some n) :
    ((x.map ρ = none ∧ n = none) ∨ ∃ k i, x.map ρ = some (.int k i) ∧ n = some i) ∧ n.isSome = a.isSome := by
  cases x with
  | none =>
    simp only [cOpt, Option.some.injEq] at ha
    subst ha
    simp only [optI, Option.some.injEq] at hn
    subst hn
    exact ⟨.inl ⟨rfl, rfl⟩, rfl⟩
  | some x =>
    simp only [cOpt] at ha
    cases hx : cArg x with
    | none => rw [hx] at ha; cases ha
    | some a' =>
      rw [hx] at ha
      simp only [Option.map_some, Option.some.injEq] at ha
      subst ha
      simp only [optI] at hn
      cases hi : asI (a'.ev t) with
      | none => rw [hi] at hn; cases hn
      | some i =>
        rw [hi] at hn
        simp only [Option.map_some, Option.some.injEq] at hn
        subst hn
        obtain ⟨k, hk, _⟩ := run_asI hi (hρ _ _ hx)
        exact ⟨.inr ⟨k, i, by simp [hk], rfl⟩, rfl⟩

theorem str_eq {b : ByteArray} {l : List UInt8} (h : b.data.toList = l) : Value.string b = str l := by
  subst h; rfl

theorem run_bounds {isSlice : Bool} {len cap : Nat} {x y z : Option Value} {lo hi mx : Option Int}
    (hx : (x = none ∧ lo = none) ∨ ∃ k i, x = some (.int k i) ∧ lo = some i) (hy : (y = none ∧ hi = none) ∨ ∃ k i, y = some (.int k i) ∧ hi = some i)
    (hz : (z = none ∧ mx = none) ∨ ∃ k i, z = some (.int k i) ∧ mx = some i) (hmh : mx.isSome = true → hi.isSome = true)
    (h1 : 0 ≤ lo.getD 0) (h2 : lo.getD 0 ≤ hi.getD len) (h3 : hi.getD len ≤ mx.getD cap) (h4 : mx.getD cap ≤ cap) :
    (Instr.sliceBounds isSlice len cap x y z).run P w = .ok ((lo.getD 0).toNat, (hi.getD len).toNat, (mx.getD cap).toNat) w := by
  have sb : ∀ (k : IntKind) (i : Int) (n : Nat) (c : BoundsCode), 0 ≤ i → i ≤ n → (Instr.sliceBound (.int k i) n c).run P w = .ok i.toNat w := fun k i n c a b => run_sliceBound w k i n c a b
  rcases hx with ⟨rfl, rfl⟩ | ⟨k1, i1, rfl, rfl⟩ <;> rcases hy with ⟨rfl, rfl⟩ | ⟨k2, i2, rfl, rfl⟩ <;> rcases hz with ⟨rfl, rfl⟩ | ⟨k3, i3, rfl, rfl⟩ <;>
    simp only [Option.getD_none, Option.getD_some] at h1 h2 h3 h4 ⊢ <;> try (simp at hmh; done)
  · simp [Instr.sliceBounds]
  · simp [Instr.sliceBounds, sb k2 i2 cap _ h2 h3]
  · have q3 := sb k3 i3 cap (if isSlice then .slice3Acap else .slice3Alen) (by omega) h4
    have q2 := sb k2 i2 i3.toNat .slice3B h2 (by omega)
    simp [Instr.sliceBounds, q3, q2]
  · simp [Instr.sliceBounds, sb k1 i1 len _ h1 h2]
  · have q1 := sb k1 i1 i2.toNat .sliceB h1 (by omega)
    simp [Instr.sliceBounds, sb k2 i2 cap _ (by omega) h3, q1]
  · have q3 := sb k3 i3 cap (if isSlice then .slice3Acap else .slice3Alen) (by omega) h4
    have q2 := sb k2 i2 i3.toNat .slice3B (by omega) (by omega)
    have q1 := sb k1 i1 i2.toNat .slice3C h1 (by omega)
    simp [Instr.sliceBounds, q3, q2, q1]

theorem sim_sliceStr {T : TypeId} {x : Operand} {lo hi mx : Option Operand} {a : AArg} {al ah : Option AArg} (hρ : EvOk m t ρ) (H : HRel m w0 h w) (ho : o.op = .slice T x lo hi mx)
    (hu : P.underlying T = some .string) (ha : cArg x = some a) (hl : cOpt lo = some al) (hh : cOpt hi = some ah) (hm : cOpt mx = some none)
    (e : aexec C t h (.sliceStr a al ah) = some (v, h')) : OpRes m w0 h v h' ((execOp ρ o).run P w) := by
  have hmx : mx = none := by
    cases mx with
    | none => rfl
    | some y => simp only [cOpt] at hm; cases hy : cArg y <;> rw [hy] at hm <;> cases hm
  subst hmx
  simp only [aexec] at e
  split at e
  · rename_i s l u hs hl' hu'
    split at e
    · rename_i hc
      cases e
      have hv := hρ _ _ ha
      rw [hs] at hv
      have hX : ρ x = .string s := by generalize ρ x = Y at hv; cases hv; rfl
      obtain ⟨q1, _⟩ := optI_rel hρ hl hl'
      obtain ⟨q2, _⟩ := optI_rel hρ hh hu'
      have hb := run_bounds (P := P) (w := w) (isSlice := false) (len := s.size) (cap := s.size) (z := none) (mx := none) q1 q2 (.inl ⟨rfl, rfl⟩) (by simp) hc.1 hc.2.1 (by simpa using hc.2.2) (by simp)
      rw [← str_eq (b := s.extract (l.getD 0).toNat (u.getD s.size).toNat) (by rw [Lib.extract_data])]
      refine OpRes.same H (v' := .string (s.extract (l.getD 0).toNat (u.getD s.size).toNat)) ?_ (.string _)
      simp only [execOp, ho, Instr.sliceAt, run_under hu, Instr.slice, hX, Sem.run_bind, Result.andThen_ok, hb, Option.isSome_none, Option.map_none, Bool.false_eq_true, if_false, Sem.run_pure]
    · cases e
  · cases e


/-- a slice value cut -/
theorem sliceV_sim {k : Nat} {s s' : Value} {lo hi mx : Option Int} (H : HRel m w0 h w) (e : sliceV h k s lo hi mx = some v) (hs : VRel m s s') (hmh : mx.isSome = true → hi.isSome = true) :
    ∃ a len cap, s' = .slice a len cap ∧ ∀ (x y z : Option Value), ((x = none ∧ lo = none) ∨ ∃ k i, x = some (.int k i) ∧ lo = some i) → ((y = none ∧ hi = none) ∨ ∃ k i, y = some (.int k i) ∧ hi = some i) →
      ((z = none ∧ mx = none) ∨ ∃ k i, z = some (.int k i) ∧ mx = some i) → ∃ l u n, (Instr.sliceBounds true len cap x y z).run P w = .ok (l, u, n) w ∧
        VRel m v (.slice (if n = l then a else a.map (·.add (l * k))) (u - l) (n - l)) := by
  cases hs with
  | slNil =>
    simp only [sliceV] at e
    split at e
    · rename_i hc
      obtain ⟨c1, c2, c3⟩ := hc
      cases e
      refine ⟨none, 0, 0, rfl, fun x y z hx hy hz => ⟨0, 0, 0, ?_, .slNil⟩⟩
      have hcc : hi.getD ((0 : Nat) : Int) = 0 := c2
      have hcm : mx.getD ((0 : Nat) : Int) = 0 := c3
      have := run_bounds (P := P) (w := w) (isSlice := true) (len := 0) (cap := 0) hx hy hz hmh (by omega) (by omega) (by omega) (by omega)
      rw [c1, hcc, hcm] at this
      exact this
    · cases e
  | slOld a l c hsp =>
    refine ⟨some a, l, c, rfl, fun x y z hx hy hz => ?_⟩
    have hr : isRest a c = false := by unfold isRest; rw [hsp]
    simp only [sliceV, hr, Bool.false_eq_true, if_false] at e
    split at e
    · rename_i hc
      have hb := run_bounds (P := P) (w := w) (isSlice := true) (len := l) (cap := c) hx hy hz hmh hc.1 hc.2.1 hc.2.2.1 hc.2.2.2
      refine ⟨_, _, _, hb, ?_⟩
      split at e
      · rename_i heq
        cases e
        have e1 : (mx.getD c).toNat = (lo.getD 0).toNat := by rw [heq]
        rw [if_pos e1, e1]
        have e2 : (hi.getD l).toNat - (lo.getD 0).toNat = 0 := by omega
        rw [e2, Nat.sub_self]
        exact .slOld a 0 0 hsp
      · rename_i hne
        cases e
        have e1 : ¬ (mx.getD c).toNat = (lo.getD 0).toNat := by omega
        rw [if_neg e1, Option.map_some, add_of_none hsp]
        have e2 : (hi.getD l - lo.getD 0).toNat = (hi.getD l).toNat - (lo.getD 0).toNat := by omega
        have e3 : (mx.getD c - lo.getD 0).toNat = (mx.getD c).toNat - (lo.getD 0).toNat := by omega
        rw [e2, e3]
        exact .slOld _ _ _ hsp
    · cases e
  | @slPlain b cb sz k' off l c hm =>
    refine ⟨_, l, c, rfl, fun x y z hx hy hz => ?_⟩
    simp only [sliceV, isRest, Bool.false_eq_true, if_false, reduceCtorEq] at e
    split at e
    · rename_i hc
      have hb := run_bounds (P := P) (w := w) (isSlice := true) (len := l) (cap := c) hx hy hz hmh hc.1 hc.2.1 hc.2.2.1 hc.2.2.2
      refine ⟨_, _, _, hb, ?_⟩
      split at e
      · rename_i heq
        cases e
        have e1 : (mx.getD c).toNat = (lo.getD 0).toNat := by rw [heq]
        rw [if_pos e1, e1]
        have e2 : (hi.getD l).toNat - (lo.getD 0).toNat = 0 := by omega
        rw [e2, Nat.sub_self]
        exact .slEmpty _ _ _
      · rename_i hne
        cases e
        have e1 : ¬ (mx.getD c).toNat = (lo.getD 0).toNat := by omega
        rw [if_neg e1, Option.map_some, add_of_none rfl]
        have e2 : (hi.getD l - lo.getD 0).toNat = (hi.getD l).toNat - (lo.getD 0).toNat := by omega
        have e3 : (mx.getD c - lo.getD 0).toNat = (mx.getD c).toNat - (lo.getD 0).toNat := by omega
        rw [e2, e3]
        exact .slPlain _ _ _ hm
    · cases e
  | slEmpty b off a =>
    refine ⟨_, 0, 0, rfl, fun x y z hx hy hz => ?_⟩
    simp only [sliceV, isRest, Bool.false_eq_true, if_false, reduceCtorEq] at e
    split at e
    · rename_i hc
      have hb := run_bounds (P := P) (w := w) (isSlice := true) (len := 0) (cap := 0) hx hy hz hmh hc.1 hc.2.1 hc.2.2.1 hc.2.2.2
      refine ⟨_, _, _, hb, ?_⟩
      have heq : mx.getD ((0 : Nat) : Int) = lo.getD 0 := by omega
      rw [if_pos heq] at e
      cases e
      have e1 : (mx.getD ((0 : Nat) : Int)).toNat = (lo.getD 0).toNat := by rw [heq]
      rw [if_pos e1, e1]
      have e2 : (hi.getD ((0 : Nat) : Int)).toNat - (lo.getD 0).toNat = 0 := by omega
      rw [e2, Nat.sub_self]
      exact .slEmpty _ _ _
    · cases e
  | @slExact b t' cb sz k' off l c hm hc0 =>
    refine ⟨_, l, c, rfl, fun x y z hx hy hz => ?_⟩
    have hr : isRest ⟨b, off, some (t' + 1)⟩ c = false := by simp [isRest, hc0]
    simp only [sliceV, hr, Bool.false_eq_true, if_false, reduceCtorEq] at e
    split at e
    · rename_i hc
      have hb := run_bounds (P := P) (w := w) (isSlice := true) (len := l) (cap := c) hx hy hz hmh hc.1 hc.2.1 hc.2.2.1 hc.2.2.2
      refine ⟨_, _, _, hb, ?_⟩
      split at e
      · rename_i heq
        cases e
        have e1 : (mx.getD c).toNat = (lo.getD 0).toNat := by rw [heq]
        rw [if_pos e1, e1]
        have e2 : (hi.getD l).toNat - (lo.getD 0).toNat = 0 := by omega
        rw [e2, Nat.sub_self]
        exact .slEmpty _ _ _
      · rename_i hne
        cases e
        have e1 : ¬ (mx.getD c).toNat = (lo.getD 0).toNat := by omega
        rw [if_neg e1, Option.map_some, add_of_none rfl]
        have e2 : (hi.getD l - lo.getD 0).toNat = (hi.getD l).toNat - (lo.getD 0).toNat := by omega
        have e3 : (mx.getD c - lo.getD 0).toNat = (mx.getD c).toNat - (lo.getD 0).toNat := by omega
        rw [e2, e3]
        exact .slExact _ _ _ hm (by omega)
    · cases e
  | @slRest b t' cb sz k' off l c hm hcap hlc =>
    refine ⟨_, l, c, rfl, fun x y z hx hy hz => ?_⟩
    have hr : isRest ⟨b, off, some (t' + 1)⟩ 0 = true := by simp [isRest]
    simp only [sliceV, hr, if_true] at e
    split at e
    · rename_i hc
      obtain ⟨c1, c2, c3, c4, c5⟩ := hc
      simp only [tagOf, Option.getD_some] at c3 c4
      -- the block's own element size
      have hkk : k' = k ∧ t' ≤ sz := by
        obtain ⟨_, hb⟩ := H.blk _ _ _ _ _ hm
        unfold kOf at c4
        cases hx : h.bs[b]? with
        | none => rw [hx] at hb; exact hb.elim
        | some blk =>
          rw [hx] at hb c4
          cases blk with
          | grow cl last fz kk =>
            obtain ⟨q1, _, _, _, _, _, _, _, _, _, _, q2, _⟩ := hb
            simp only at c4
            exact ⟨by omega, by omega⟩
          | _ => simp only at c4; omega
      obtain ⟨rfl, hts⟩ := hkk
      have hge : ∀ n : Nat, off + n * k' + 1 ≤ t' + 1 → n ≤ c := by
        intro n hn
        have : n * k' ≤ c * k' := by omega
        exact Nat.le_of_mul_le_mul_right this c5
      have hu : hi.getD l ≤ c := by have := hge _ c3; omega
      split at e
      · cases e
        have hzn : z = none := by rcases hz with ⟨q, _⟩ | ⟨_, _, _, q⟩; exact q; cases q
        have hb := run_bounds (P := P) (w := w) (isSlice := true) (len := l) (cap := c) hx hy hz hmh c1 c2 (by simpa using hu) (by simp)
        refine ⟨_, _, _, hb, ?_⟩
        simp only [Option.getD_none, Int.toNat_natCast]
        have e2 : (hi.getD l - lo.getD 0).toNat = (hi.getD l).toNat - (lo.getD 0).toNat := by omega
        rw [e2]
        by_cases e1 : c = (lo.getD 0).toNat
        · rw [if_pos e1]
          have e3 : (hi.getD l).toNat - (lo.getD 0).toNat = 0 := by omega
          rw [e3, ← e1, Nat.sub_self]
          exact .slEnd _ _ hm hcap
        · rw [if_neg e1, Option.map_some, add_of_none rfl]
          refine .slRest _ _ _ hm ?_ (by omega)
          have hle : (lo.getD 0).toNat ≤ c := by omega
          rw [← hcap, Nat.add_assoc, ← Nat.add_mul]
          congr 2
          omega
      · rename_i mm
        split at e
        · rename_i hc2
          obtain ⟨d1, d2⟩ := hc2
          simp only [tagOf, Option.getD_some] at d2
          have hmc : mm ≤ c := by have := hge _ d2; omega
          have hb := run_bounds (P := P) (w := w) (isSlice := true) (len := l) (cap := c) hx hy hz hmh c1 c2 (by simpa using d1) (by simpa using hmc)
          refine ⟨_, _, _, hb, ?_⟩
          simp only [Option.getD_some]
          split at e
          · rename_i heq
            cases e
            have e1 : mm.toNat = (lo.getD 0).toNat := by rw [heq]
            rw [if_pos e1, e1]
            have e2 : (hi.getD l).toNat - (lo.getD 0).toNat = 0 := by omega
            rw [e2, Nat.sub_self]
            exact .slEmpty _ _ _
          · rename_i hne
            cases e
            have e1 : ¬ mm.toNat = (lo.getD 0).toNat := by omega
            rw [if_neg e1, Option.map_some, add_of_none rfl]
            have e2 : (hi.getD l - lo.getD 0).toNat = (hi.getD l).toNat - (lo.getD 0).toNat := by omega
            have e3 : (mm - lo.getD 0).toNat = mm.toNat - (lo.getD 0).toNat := by omega
            rw [e2, e3]
            exact .slExact _ _ _ hm (by omega)
        · cases e
    · cases e
  | @slEnd b t' cb sz k' off a hm hoff =>
    refine ⟨_, 0, 0, rfl, fun x y z hx hy hz => ?_⟩
    have hr : isRest ⟨b, off, some (t' + 1)⟩ 0 = true := by simp [isRest]
    simp only [sliceV, hr, if_true] at e
    split at e
    · rename_i hc
      obtain ⟨c1, c2, c3, c4, c5⟩ := hc
      simp only [tagOf, Option.getD_some] at c3 c4
      have hts : t' ≤ sz := by
        obtain ⟨_, hb⟩ := H.blk _ _ _ _ _ hm
        cases hx : h.bs[b]? with
        | none => rw [hx] at hb; exact hb.elim
        | some blk =>
          rw [hx] at hb
          cases blk with
          | grow cl last fz kk =>
            obtain ⟨q1, _, _, _, _, _, _, _, _, _, _, q2, _⟩ := hb
            omega
          | cells => exact absurd hb.1 (by omega)
          | map => exact absurd hb.1 (by omega)
          | siter => exact absurd hb.1 (by omega)
          | loop => exact absurd hb.1 (by omega)
          | dfr => exact absurd hb.1 (by omega)
          | hole => exact hb.elim
      have hz0 : ∀ n : Nat, off + n * k + 1 ≤ t' + 1 → n = 0 := by
        intro n hn
        have : n * k = 0 := by omega
        rcases Nat.mul_eq_zero.1 this with h | h
        · exact h
        · omega
      have hu0 : (hi.getD ((0 : Nat) : Int)).toNat = 0 := hz0 _ c3
      have hl0 : lo.getD 0 = 0 := by omega
      split at e
      · cases e
        have hb := run_bounds (P := P) (w := w) (isSlice := true) (len := 0) (cap := 0) hx hy hz hmh c1 c2 (by rw [Option.getD_none]; omega) (by simp)
        refine ⟨_, _, _, hb, ?_⟩
        rw [hl0] at *
        simp only [Option.getD_none, Int.toNat_natCast, Int.toNat_zero, if_true, Nat.sub_zero]
        rw [hu0]
        have e2 : (hi.getD ((0 : Nat) : Int) - 0).toNat = 0 := by omega
        rw [e2, Nat.zero_mul]
        exact .slEnd _ _ hm hoff
      · rename_i mm
        split at e
        · rename_i hc2
          obtain ⟨d1, d2⟩ := hc2
          simp only [tagOf, Option.getD_some] at d2
          have hm0 : mm.toNat = 0 := hz0 _ d2
          have hb := run_bounds (P := P) (w := w) (isSlice := true) (len := 0) (cap := 0) hx hy hz hmh c1 c2 (by simpa using d1) (by simp; omega)
          refine ⟨_, _, _, hb, ?_⟩
          rw [if_pos (by omega)] at e
          cases e
          rw [hl0]
          simp only [Option.getD_some, hm0, hu0, Int.toNat_zero, if_true, Nat.sub_zero]
          exact .slEmpty _ _ _
        · cases e
    · cases e
  | _ => simp [sliceV] at e

theorem sliceV_bounds {k n : Nat} {ad : Addr} {lo hi mx : Option Int} (e : sliceV h k (.slice (some ad) n n) lo hi mx = some v) (hn : ¬ n = 0) :
    0 ≤ lo.getD 0 ∧ lo.getD 0 ≤ hi.getD n ∧ hi.getD n ≤ mx.getD n ∧ mx.getD n ≤ n := by
  have hr : isRest ad n = false := by
    unfold isRest
    split
    · simp [hn]
    · rfl
  simp only [sliceV, hr, Bool.false_eq_true, if_false] at e
  split at e
  · assumption
  · cases e

theorem sim_sliceSl {T e' : TypeId} {k : Nat} {x : Operand} {lo hi mx : Option Operand} {a : AArg} {al ah am : Option AArg} (hρ : EvOk m t ρ) (H : HRel m w0 h w) (ho : o.op = .slice T x lo hi mx)
    (hu : P.underlying T = some (.slice e')) (hk : szOf P e' = some k) (ha : cArg x = some a) (hl : cOpt lo = some al) (hh : cOpt hi = some ah) (hm : cOpt mx = some am)
    (hmh : (am.isSome && ah.isNone) = false) (e : aexec C t h (.sliceSl k a al ah am) = some (v, h')) : OpRes m w0 h v h' ((execOp ρ o).run P w) := by
  simp only [aexec] at e
  split at e
  · rename_i lo' hi' mx' hl' hh' hm'
    cases hv : sliceV h k (a.ev t) lo' hi' mx' with
    | none => rw [hv] at e; cases e
    | some u =>
      rw [hv] at e
      simp only [Option.map_some, Option.some.injEq, Prod.mk.injEq] at e
      obtain ⟨rfl, rfl⟩ := e
      obtain ⟨q1, _⟩ := optI_rel hρ hl hl'
      obtain ⟨q2, p2⟩ := optI_rel hρ hh hh'
      obtain ⟨q3, p3⟩ := optI_rel hρ hm hm'
      have hmh' : mx'.isSome = true → hi'.isSome = true := by
        rw [p2, p3]; intro hx; rw [hx] at hmh; simpa using hmh
      obtain ⟨ad, len, cap, hX, hall⟩ := sliceV_sim (P := P) H hv (hρ _ _ ha) hmh'
      obtain ⟨l, u', n, hb, hr⟩ := hall _ _ _ q1 q2 q3
      refine OpRes.same H ?_ hr
      simp only [execOp, ho, Instr.sliceAt, run_under hu, Instr.slice, hX, Sem.run_bind, Result.andThen_ok, hb, run_sizeOf hk, Sem.run_pure]
  · cases e

theorem sim_sliceArr {T e' : TypeId} {k n : Nat} {x : Operand} {lo hi mx : Option Operand} {a : AArg} {al ah am : Option AArg} (hρ : EvOk m t ρ) (H : HRel m w0 h w) (ho : o.op = .slice T x lo hi mx)
    (hu : P.underlying T = some (.array n e')) (hk : szOf P e' = some k) (ha : cArg x = some a) (hl : cOpt lo = some al) (hh : cOpt hi = some ah) (hm : cOpt mx = some am)
    (hmh : (am.isSome && ah.isNone) = false) (e : aexec C t h (.sliceArr k n a al ah am) = some (v, h')) : OpRes m w0 h v h' ((execOp ρ o).run P w) := by
  simp only [aexec] at e
  split at e
  · rename_i ad lo' hi' mx' hp hl' hh' hm'
    split at e
    · cases e
    rename_i hn0
    cases hv : sliceV h k (.slice (some ad) n n) lo' hi' mx' with
    | none => rw [hv] at e; cases e
    | some u =>
      rw [hv] at e
      simp only [Option.map_some, Option.some.injEq, Prod.mk.injEq] at e
      obtain ⟨rfl, rfl⟩ := e
      obtain ⟨q1, _⟩ := optI_rel hρ hl hl'
      obtain ⟨q2, p2⟩ := optI_rel hρ hh hh'
      obtain ⟨q3, p3⟩ := optI_rel hρ hm hm'
      have hmh' : mx'.isSome = true → hi'.isSome = true := by
        rw [p2, p3]; intro hx; rw [hx] at hmh; simpa using hmh
      have hx := hρ _ _ ha
      rw [ptrOf_spec hp] at hx
      obtain ⟨a', hX, har⟩ := hx.ptr
      have hsl : VRel m (.slice (some ad) n n) (.slice (some a') n n) := by
        rcases har with ⟨hs, rfl⟩ | ⟨tg', cb, sz, k', hs, hmm, rfl⟩
        · exact .slOld _ _ _ hs
        · obtain ⟨b, off, sp⟩ := ad
          simp only at hs hmm
          subst hs
          cases tg' with
          | zero => exact .slPlain _ _ _ hmm
          | succ tg' => exact .slExact _ _ _ hmm hn0
      obtain ⟨ad2, len, cap, hX2, hall⟩ := sliceV_sim (P := P) H hv hsl hmh'
      cases hX2
      obtain ⟨l, u', n', hb, hr⟩ := hall _ _ _ q1 q2 q3
      refine OpRes.same H ?_ hr
      have hb2 : (Instr.sliceBounds false n n (lo.map ρ) (hi.map ρ) (mx.map ρ)).run P w = .ok (l, u', n') w := by
        have hcond := sliceV_bounds hv hn0
        have r1 := run_bounds (P := P) (w := w) (isSlice := true) (len := n) (cap := n) q1 q2 q3 hmh' hcond.1 hcond.2.1 hcond.2.2.1 hcond.2.2.2
        have r2 := run_bounds (P := P) (w := w) (isSlice := false) (len := n) (cap := n) q1 q2 q3 hmh' hcond.1 hcond.2.1 hcond.2.2.1 hcond.2.2.2
        rw [r1] at hb
        rw [r2, hb]
      simp only [execOp, ho, Instr.sliceAt, run_under hu, hX, Instr.sureAddr, Sem.run_bind, Result.andThen_ok, hb2, run_sizeOf hk, Sem.run_pure]
      congr 2
      split <;> rfl
  · cases e

end
end Go.Ab

/- Operations, one by one (sixth part): parts, places, maps, texts. -/
namespace Go.Ab
section
variable {P : Program} {C : Ctx} {t : List Value} {h h' : AHeap} {v : Value} {m : Mu} {w0 w : World} {ρ : Operand → Value} {o : Oper}

theorem sim_fieldAddr {T : TypeId} {x : Operand} {f : Nat} (hρ : EvOk m t ρ) (H : HRel m w0 h w) (ho : o.op = .fieldAddr T x f)
    (e : aexec C t h (cOp P o) = some (v, h')) : OpRes m w0 h v h' ((execOp ρ o).run P w) := by
  unfold cOp at e
  rw [ho] at e
  simp only at e
  split at e
  · rename_i fields a hu ha
    split at e
    · rename_i fd hfd
      split at e
      · rename_i n hn
        split at e
        · simp [aexec] at e
        · rename_i hn0
          simp only [aexec] at e
          split at e
          · rename_i ad hp
            cases e
            have hx := hρ _ _ ha
            rw [ptrOf_spec hp] at hx
            obtain ⟨a', hX, har⟩ := hx.ptr
            refine OpRes.same H (v' := .pointer (some (a'.add fd.offset))) ?_ (har.add fd.offset).ptr
            simp [execOp, ho, Instr.fieldAt, run_under hu, hfd, hX, Instr.sureAddr, fieldPlace, run_sizeOf hn, hn0]
          · cases e
      · simp [aexec] at e
    · simp [aexec] at e
  · simp [aexec] at e

theorem part1_sim {x y : Value} {off : Nat} {u : Value} (hp : part1 x off = some u) (hv : VRel m x y) : ∃ cs : List Value, y = .agg ⟨cs⟩ ∧ ∃ u', cs[off]? = some u' ∧ VRel m u u' := by
  cases x with
  | agg l =>
    obtain ⟨l⟩ := l
    cases hv with
    | agg x u h1 h2 =>
      simp only [part1] at hp
      obtain ⟨u', hu, hr⟩ := VRelL.get (m := m) ⟨h1, h2⟩ hp
      exact ⟨_, rfl, u', hu, hr⟩
  | _ => simp [part1] at hp
theorem partN_sim {x y : Value} {off n : Nat} {u : Value} (hp : partN x off n = some u) (hv : VRel m x y) :
    ∃ cs : List Value, y = .agg ⟨cs⟩ ∧ off + n ≤ cs.length ∧ VRel m u (.agg ⟨(cs.drop off).take n⟩) := by
  cases x with
  | agg l =>
    obtain ⟨l⟩ := l
    cases hv with
    | agg x u h1 h2 =>
      simp only [partN] at hp
      split at hp
      · rename_i hl
        cases hp
        have hr : VRelL m ((l.drop off).take n) ((u.drop off).take n) := (VRelL.drop ⟨h1, h2⟩ _).take _
        exact ⟨_, rfl, by rw [← h1]; exact hl, .agg _ _ hr.1 hr.2⟩
      · cases hp
  | _ => simp [partN] at hp
theorem part_run1 {T : TypeId} (hg : aggT P T = some false) {cs : List Value} {off : Nat} {u : Value} (hu : cs[off]? = some u) : (part T ⟨cs⟩ off).run P w = .ok u w := by
  have : (⟨cs⟩ : Array Value)[off]? = some u := by simpa using hu
  simp only [part, Sem.run_bind, run_isAgg hg, Result.andThen_ok, Bool.false_eq_true, if_false, this, Sem.run_pure]
theorem part_runN {T : TypeId} {n : Nat} (hg : aggT P T = some true) (hn : szOf P T = some n) {cs : List Value} {off : Nat} :
    (part T ⟨cs⟩ off).run P w = .ok (.agg ⟨(cs.drop off).take n⟩) w := by
  simp only [part, Sem.run_bind, run_isAgg hg, Result.andThen_ok, if_true, run_sizeOf hn, Sem.run_pure]
  congr 2
  apply Array.ext'
  simp [List.take_drop]

theorem sim_field {T : TypeId} {x : Operand} {f : Nat} (hρ : EvOk m t ρ) (H : HRel m w0 h w) (ho : o.op = .field T x f)
    (e : aexec C t h (cOp P o) = some (v, h')) : OpRes m w0 h v h' ((execOp ρ o).run P w) := by
  unfold cOp at e
  rw [ho] at e
  simp only at e
  split at e
  · rename_i fields a hu ha
    split at e
    · rename_i fd hfd
      split at e
      · rename_i n hg hn
        simp only [aexec] at e
        cases hp : partN (a.ev t) fd.offset n with
        | none => rw [hp] at e; cases e
        | some u =>
          rw [hp] at e
          simp only [Option.map_some, Option.some.injEq, Prod.mk.injEq] at e
          obtain ⟨rfl, rfl⟩ := e
          obtain ⟨cs, hX, hl, hr⟩ := partN_sim hp (hρ _ _ ha)
          refine OpRes.same H ?_ hr
          simp [execOp, ho, Instr.field, run_under hu, hfd, hX, asAgg, part_runN hg hn]
      · rename_i n hg hn
        simp only [aexec] at e
        cases hp : part1 (a.ev t) fd.offset with
        | none => rw [hp] at e; cases e
        | some u =>
          rw [hp] at e
          simp only [Option.map_some, Option.some.injEq, Prod.mk.injEq] at e
          obtain ⟨rfl, rfl⟩ := e
          obtain ⟨cs, hX, u', hu', hr⟩ := part1_sim hp (hρ _ _ ha)
          refine OpRes.same H (v' := u') ?_ hr
          simp [execOp, ho, Instr.field, run_under hu, hfd, hX, asAgg, part_run1 hg hu']
      · simp [aexec] at e
    · simp [aexec] at e
  · simp [aexec] at e

theorem asI_rel {x y : Value} {n : Int} (hx : asI x = some n) (hv : VRel m x y) : ∃ k, y = .int k n := by
  obtain ⟨k, hk, _⟩ := run_asI hx hv; exact ⟨k, hk⟩

/-- a slice's row, from its beginning on -/
theorem slice_rel {x y : Value} (hx : ∃ a l c, x = .slice (some a) l c) (hv : VRel m x y) : ∃ a l c a' c', x = .slice (some a) l c ∧ y = .slice (some a') l c' ∧ (0 < l → ARel m a a') := by
  obtain ⟨a, l, c, rfl⟩ := hx
  cases hv with
  | slOld _ _ _ hs => exact ⟨_, _, _, _, _, rfl, rfl, fun _ => .inl ⟨hs, rfl⟩⟩
  | slPlain off _ _ hm => exact ⟨_, _, _, _, _, rfl, rfl, fun _ => .inr ⟨_, _, _, _, rfl, hm, rfl⟩⟩
  | slEmpty => exact ⟨_, _, _, _, _, rfl, rfl, fun h => absurd h (by omega)⟩
  | slExact off _ _ hm _ => exact ⟨_, _, _, _, _, rfl, rfl, fun _ => .inr ⟨_, _, _, _, rfl, hm, rfl⟩⟩
  | slRest off _ _ hm _ _ => exact ⟨_, _, _, _, _, rfl, rfl, fun _ => .inr ⟨_, _, _, _, rfl, hm, rfl⟩⟩
  | slEnd => exact ⟨_, _, _, _, _, rfl, rfl, fun h => absurd h (by omega)⟩

theorem sim_indexAddr {T : TypeId} {x i : Operand} (hρ : EvOk m t ρ) (H : HRel m w0 h w) (ho : o.op = .indexAddr T x i)
    (e : aexec C t h (cOp P o) = some (v, h')) : OpRes m w0 h v h' ((execOp ρ o).run P w) := by
  unfold cOp at e
  rw [ho] at e
  simp only at e
  split at e
  · rename_i len E a b hu ha hb
    split at e
    · rename_i k hk
      simp only [aexec] at e
      split at e
      · rename_i ad n hp hi
        split at e
        · rename_i hc
          cases e
          have hx := hρ _ _ ha
          rw [ptrOf_spec hp] at hx
          obtain ⟨a', hX, har⟩ := hx.ptr
          obtain ⟨kk, hI⟩ := asI_rel hi (hρ _ _ hb)
          refine OpRes.same H (v' := .pointer (some (a'.add (n.toNat * k)))) ?_ (har.add _).ptr
          simp [execOp, ho, Instr.indexAt, hX, hI, asIntOf, run_under hu, Instr.sureAddr, hc, run_sizeOf hk]
        · cases e
      · cases e
    · simp [aexec] at e
  · rename_i E a b hu ha hb
    split at e
    · rename_i k hk
      simp only [aexec] at e
      split at e
      · rename_i ad len cp n hs hi
        split at e
        · rename_i hc
          cases e
          have hx := hρ _ _ ha
          obtain ⟨a1, l1, c1, a', c', q1, q2, q3⟩ := slice_rel ⟨_, _, _, hs⟩ hx
          rw [hs] at q1
          cases q1
          obtain ⟨kk, hI⟩ := asI_rel hi (hρ _ _ hb)
          refine OpRes.same H (v' := .pointer (some (a'.add (n.toNat * k)))) ?_ ((q3 (by omega)).add _).ptr
          simp [execOp, ho, Instr.indexAt, q2, hI, asIntOf, run_under hu, hc, run_sizeOf hk]
        · cases e
      · cases e
    · simp [aexec] at e
  · simp [aexec] at e

theorem sim_index {T : TypeId} {x i : Operand} (hρ : EvOk m t ρ) (H : HRel m w0 h w) (ho : o.op = .index T x i)
    (e : aexec C t h (cOp P o) = some (v, h')) : OpRes m w0 h v h' ((execOp ρ o).run P w) := by
  unfold cOp at e
  rw [ho] at e
  simp only at e
  split at e
  · rename_i a b hu ha hb
    simp only [aexec] at e
    split at e
    · rename_i s n hs hi
      split at e
      · rename_i h0
        split at e
        · rename_i c hc
          cases e
          have hx := hρ _ _ ha
          rw [hs] at hx
          have hX : ρ x = .string s := by generalize ρ x = Y at hx; cases hx; rfl
          obtain ⟨kk, hI⟩ := asI_rel hi (hρ _ _ hb)
          have hg : s[n.toNat]? = some c := by
            have hlt : n.toNat < s.data.toList.length := by
              rcases Nat.lt_or_ge n.toNat s.data.toList.length with h | h
              · exact h
              · rw [List.getElem?_eq_none h] at hc; cases hc
            have hlt2 : n.toNat < s.size := hlt
            rw [List.getElem?_eq_getElem hlt] at hc
            rw [getElem?_pos s n.toNat hlt2]
            exact hc
          refine OpRes.same H (v' := .int .u8 c.toNat) ?_ (.int _ _)
          simp [execOp, ho, Instr.index, hX, hI, asIntOf, run_under hu, h0, hg]
        · cases e
      · cases e
    · cases e
  · rename_i len E a b hu ha hb
    split at e
    · rename_i n hg hn
      simp only [aexec] at e
      split at e
      · rename_i j hi
        split at e
        · rename_i hc
          cases hp : partN (a.ev t) (j.toNat * n) n with
          | none => rw [hp] at e; cases e
          | some u =>
            rw [hp] at e
            simp only [Option.map_some, Option.some.injEq, Prod.mk.injEq] at e
            obtain ⟨rfl, rfl⟩ := e
            obtain ⟨cs, hX, hl, hr⟩ := partN_sim hp (hρ _ _ ha)
            obtain ⟨kk, hI⟩ := asI_rel hi (hρ _ _ hb)
            refine OpRes.same H ?_ hr
            simp [execOp, ho, Instr.index, hX, hI, asIntOf, run_under hu, hc, run_sizeOf hn, part_runN hg hn]
        · cases e
      · cases e
    · rename_i hg hn
      simp only [aexec] at e
      split at e
      · rename_i j hi
        split at e
        · rename_i hc
          cases hp : part1 (a.ev t) j.toNat with
          | none => rw [hp] at e; cases e
          | some u =>
            rw [hp] at e
            simp only [Option.map_some, Option.some.injEq, Prod.mk.injEq] at e
            obtain ⟨rfl, rfl⟩ := e
            obtain ⟨cs, hX, u', hu', hr⟩ := part1_sim hp (hρ _ _ ha)
            obtain ⟨kk, hI⟩ := asI_rel hi (hρ _ _ hb)
            refine OpRes.same H (v' := u') ?_ hr
            simp [execOp, ho, Instr.index, hX, hI, asIntOf, run_under hu, hc, run_sizeOf hn, part_run1 hg hu']
        · cases e
      · cases e
    · simp [aexec] at e
  · simp [aexec] at e

/- maps -/
theorem simpleKey_rel {x y : Value} (hk : simpleKey x = true) (hv : VRel m x y) : y = x := by
  cases hv <;> first | rfl | (simp [simpleKey] at hk; done)

theorem findE_spec {x : Value} {es : List MapEntry} {i : Nat} {r : Option Nat} (h : findE x es i = some r) :
    match r with | some j => ∃ n, j = i + n ∧ ∃ e, es[n]? = some e ∧ veq1 x e.key = some true | none => True := by
  induction es generalizing i with
  | nil => simp only [findE, Option.some.injEq] at h; subst h; trivial
  | cons a es ih =>
    simp only [findE] at h
    split at h
    · rename_i hv; cases h; exact ⟨0, rfl, a, rfl, hv⟩
    · have := ih h
      cases r with
      | none => trivial
      | some j => obtain ⟨n, hn, e, he, hv⟩ := this; exact ⟨n + 1, by omega, e, by simpa using he, hv⟩
    · cases h

def KindD : TypeDesc → CK → Prop
  | .string, .s => True
  | .bool, .b => True
  | .int _, .i => True
  | _, _ => False
theorem keyT_spec {kt : TypeId} {kk : CK} (hk : keyT P kt = some kk) : ∃ d, P.underlying kt = some d ∧ KindD d kk := by
  unfold keyT at hk
  split at hk
  · rename_i hu; cases hk; exact ⟨_, hu, trivial⟩
  · rename_i hu; cases hk; exact ⟨_, hu, trivial⟩
  · rename_i hu; cases hk; exact ⟨_, hu, trivial⟩
  · cases hk

theorem run_checkKey {kt : TypeId} {kk : CK} {x : Value} {b : Bool} (hk : keyT P kt = some kk) : (Instr.checkKey b 10000 kt x).run P w = .ok () w := by
  obtain ⟨d, hu, hd⟩ := keyT_spec hk
  rw [show (10000 : Nat) = 9999 + 1 from rfl]
  unfold Instr.checkKey
  simp only [Sem.run_bind, run_under hu, Result.andThen_ok]
  cases d <;> cases kk <;> first | exact hd.elim | skip
  all_goals (cases x <;> rfl)

theorem sameNow_spec {d : TypeDesc} {kk : CK} (hd : KindD d kk) {x y : Value} (hx : keyFits kk x = true) {b : Bool} (hb : veq1 x y = some b) : Instr.sameNow d x y = some b := by
  cases d <;> cases kk <;> first | exact hd.elim | skip
  all_goals
    cases x <;> simp only [keyFits, Bool.false_eq_true] at hx
    cases y <;> simp only [veq1, reduceCtorEq] at hb
  · cases hb; rfl
  · rename_i k k1 a1 k2 a2
    by_cases hkk : k1 = k2
    · rw [if_pos hkk] at hb
      subst hkk
      simp only [Option.some.injEq] at hb
      subst hb
      simp only [Instr.sameNow, if_true]
      rfl
    · rw [if_neg hkk] at hb; cases hb
  · cases hb
    simp only [Instr.sameNow]
    rw [beq_toListBytes, bytesVal_eq]

theorem findNow_spec {d : TypeDesc} {kk : CK} (hd : KindD d kk) {x : Value} (hx : keyFits kk x = true) {es : List MapEntry} : ∀ {es' : List MapEntry} (_ : ERel m es es') {i : Nat} {r : Option Nat} (_ : findE x es i = some r),
    Instr.findNow d x es' i = some (r.map fun j => (j, ((es'[j - i]?).map (·.val)).getD undef)) := by
  induction es with
  | nil =>
    intro es' hr i r h
    have : es' = [] := List.eq_nil_of_length_eq_zero (by simpa using hr.1.symm)
    subst this
    simp only [findE, Option.some.injEq] at h; subst h
    rfl
  | cons a es ih =>
    intro es' hr i r h
    cases es' with
    | nil => simp [ERel] at hr
    | cons a' es' =>
      obtain ⟨k1, k2, k3, k4⟩ := hr.2 0 a a' rfl rfl
      have hkey : a'.key = a.key := simpleKey_rel k4 k1
      have hr' : ERel m es es' := ⟨by simpa using hr.1, fun i x y hx hy => hr.2 (i + 1) x y (by simpa using hx) (by simpa using hy)⟩
      have same : ∀ b, veq1 x a.key = some b → Instr.sameNow d x a'.key = some b := fun b hb => by rw [hkey]; exact sameNow_spec hd hx hb
      simp only [findE] at h
      split at h
      · rename_i hv
        cases h
        simp only [Instr.findNow, same _ hv]
        simp
      · rename_i hv
        have q := ih hr' h
        simp only [Instr.findNow, same _ hv]
        rw [q]
        cases r with
        | none => rfl
        | some j =>
          obtain ⟨n, hn, _⟩ := findE_spec h
          simp only [Option.map_some]
          rw [hn, show i + 1 + n - (i + 1) = n by omega, show i + 1 + n - i = n + 1 by omega]
          simp
      · cases h

theorem run_findKey {kt : TypeId} {kk : CK} {x : Value} {es es' : List MapEntry} (hk : keyT P kt = some kk) (hx : keyFits kk x = true) (hr : ERel m es es') {r : Option Nat} (h : findE x es 0 = some r) :
    (Instr.findKey kt x es').run P w = .ok (r.map fun j => (j, ((es'[j]?).map (·.val)).getD undef)) w := by
  obtain ⟨d, hu, hd⟩ := keyT_spec hk
  have q := findNow_spec (m := m) hd hx hr h
  simp only [Instr.findKey, Sem.run_bind, run_under hu, Result.andThen_ok, q, Sem.run_pure]
  simp

theorem keyFits_rel {kk : CK} {x y : Value} (hk : keyFits kk x = true) (hv : VRel m x y) : y = x ∧ simpleKey x = true := by
  cases hv <;> cases kk <;> simp [keyFits] at hk <;> exact ⟨rfl, rfl⟩

theorem mapOf_spec {r : Nat} {es : List MapEntry} {c : Nat} (hm : mapOf h r = some (es, c)) : h.bs[r]? = some (.map es c) := by
  unfold mapOf at hm
  split at hm
  · rename_i hx; cases hm; exact hx
  · cases hm
theorem map_rel (H : HRel m w0 h w) {x y : Value} {r : Nat} (hx : x = .map (some r)) (hv : VRel m x y) {es : List MapEntry} {c : Nat} (hm : mapOf h r = some (es, c)) :
    ∃ cb sz k es', y = .map (some cb) ∧ m r 0 = some (cb, sz, k) ∧ w.heap[cb]? = some (.map ⟨es'⟩ c) ∧ ERel m es es' := by
  subst hx
  cases hv with
  | @mapNew _ cb sz k hmm =>
    obtain ⟨_, hb⟩ := H.blk _ _ _ _ _ hmm
    rw [mapOf_spec hm] at hb
    obtain ⟨_, es', q1, q2⟩ := hb
    exact ⟨cb, sz, k, es', rfl, hmm, q1, q2⟩

theorem run_getObj {r : Nat} {ob : Obj} (hh : w.heap[r]? = some ob) (hc : ∀ c e f, ob ≠ .cells c e f) : (getObj r).run P w = .ok ob w := by
  cases ob <;> first
    | exact absurd rfl (hc _ _ _)
    | simp only [getObj, Sem.run, hh]
theorem run_setObj {r : Nat} {ob ob' : Obj} (hh : w.heap[r]? = some ob) (hc : ∀ c e f, ob ≠ .cells c e f) : (setObj r ob').run P w = .ok () (putBlock w r ob') := by
  cases ob <;> first
    | exact absurd rfl (hc _ _ _)
    | (simp only [setObj, Sem.run, hh]; rfl)

/-- an object laid anew on both sides -/
theorem HRel.setObj (H : HRel m w0 h w) {r cb sz k : Nat} {blk : ABlock} {ob : Obj} (hm : m r 0 = some (cb, sz, k)) (hlo : h.lo ≤ r)
    (hne : ∀ t, m r (t + 1) = none) (hb : BRel m 0 sz k (some ob) (some blk)) : HRel m w0 (h.put r blk) (putBlock w cb ob) ∧ Post m h m (h.put r blk) := by
  obtain ⟨l1, l2⟩ := H.lt hm
  refine H.change l1 hlo ⟨0, by simp [hm]⟩ (fun _ _ _ h => h) (fun _ _ _ => rfl) (by simp [putBlock_size]) (fun i hi hno => putBlock_other (fun e => hno 0 sz k (e ▸ hm))) rfl rfl rfl ?_
  intro t' cb' sz' k' hm'
  refine ⟨.inl ⟨_, _, _, hm'⟩, ?_⟩
  cases t' with
  | succ t' => rw [hne t'] at hm'; cases hm'
  | zero =>
    rw [hm] at hm'; cases hm'
    rw [putBlock_self l2]; exact hb
theorem map_tags (H : HRel m w0 h w) {r : Nat} {es : List MapEntry} {c : Nat} (hm : h.bs[r]? = some (.map es c)) (t : Nat) : m r (t + 1) = none := by
  cases hx : m r (t + 1) with
  | none => rfl
  | some x => obtain ⟨cb, sz, k⟩ := x; obtain ⟨_, hb⟩ := H.blk _ _ _ _ _ hx; rw [hm] at hb; exact absurd hb.1 (by omega)
theorem siter_tags (H : HRel m w0 h w) {r : Nat} {s : List UInt8} {c : Nat} (hm : h.bs[r]? = some (.siter s c)) (t : Nat) : m r (t + 1) = none := by
  cases hx : m r (t + 1) with
  | none => rfl
  | some x => obtain ⟨cb, sz, k⟩ := x; obtain ⟨_, hb⟩ := H.blk _ _ _ _ _ hx; rw [hm] at hb; exact absurd hb.1 (by omega)

theorem sim_lookup {T : TypeId} {x y : Operand} {ok : Bool} (hρ : EvOk m t ρ) (H : HRel m w0 h w) (ho : o.op = .lookup T x y ok)
    (e : aexec C t h (cOp P o) = some (v, h')) : OpRes m w0 h v h' ((execOp ρ o).run P w) := by
  unfold cOp at e
  rw [ho] at e
  simp only at e
  split at e
  · rename_i kt E a b hu ha hb
    split at e
    · rename_i z kk hz hk
      simp only [aexec] at e
      split at e
      · rename_i hfit
        have hkv := hρ _ _ hb
        obtain ⟨hK, hsimple⟩ := keyFits_rel hfit hkv
        obtain ⟨i, hi, hz1, hz2⟩ := zeroOf_spec hz
        have zr : VRel m z z := constOk_self z hz2
        have tupok : ∀ (u u' : Value) (bb : Bool), VRel m u u' → VRel m (if ok then .tuple #[u, .bool bb] else u) (if ok then .tuple #[u', .bool bb] else u') := by
          intro u u' bb hu
          cases ok with
          | true => exact .tuple [u, .bool bb] [u', .bool bb] rfl (VRelL.cons hu (VRelL.cons (.bool bb) (VRelL.nil _))).2
          | false => exact hu
        split at e
        · rename_i hm
          cases e
          have hx := hρ _ _ ha
          rw [hm] at hx
          have hX : ρ x = .map none := by generalize ρ x = Y at hx; cases hx; rfl
          refine OpRes.same H ?_ (tupok _ _ false zr)
          have hfk : (Instr.findKey kt (b.ev t) []).run P w = .ok none w := run_findKey (es := []) (r := none) (m := m) hk hfit ⟨rfl, fun i a b h => by simp at h⟩ rfl
          simp only [execOp, ho, Instr.lookup, Sem.run_bind, run_under hu, Result.andThen_ok, hX, Sem.run_pure, run_checkKey hk, hK]
          simp only [hfk, Result.andThen_ok, Sem.run_bind, run_zeroValue hz, Sem.run_pure]
        · rename_i r hm
          split at e
          · rename_i es cl hmo
            obtain ⟨cb, sz, k', es', hX, hmm, hheap, her⟩ := map_rel H hm (hρ _ _ ha) hmo
            have hgo := run_getObj (P := P) hheap (by intro _ _ _ h; cases h)
            have base : ∀ r' : Option Nat, findE (b.ev t) es 0 = some r' → (execOp ρ o).run P w = (match r' with
                | some j => .ok (.value (if ok then .tuple #[((es'[j]?).map (·.val)).getD undef, .bool true] else ((es'[j]?).map (·.val)).getD undef)) w
                | none => .ok (.value (if ok then .tuple #[z, .bool false] else z)) w) := by
              intro r' hr'
              have hfk := run_findKey (P := P) (w := w) (m := m) hk hfit her hr'
              simp only [execOp, ho, Instr.lookup, Sem.run_bind, run_under hu, Result.andThen_ok, hX, hgo, Sem.run_pure, run_checkKey hk, hK, hfk]
              cases r' with
              | none => simp only [Option.map_none, Sem.run_bind, run_zeroValue hz, Result.andThen_ok, Sem.run_pure]
              | some j => simp only [Option.map_some, Sem.run_bind, Sem.run_pure, Result.andThen_ok]
            split at e
            · rename_i j hj
              cases hg : es[j]? with
              | none => rw [hg] at e; cases e
              | some en =>
                rw [hg] at e
                simp only [Option.map_some, Option.some.injEq, Prod.mk.injEq] at e
                obtain ⟨rfl, rfl⟩ := e
                have hjl : j < es'.length := by
                  rw [← her.1]
                  rcases Nat.lt_or_ge j es.length with h | h
                  · exact h
                  · rw [List.getElem?_eq_none h] at hg; cases hg
                have hg' : es'[j]? = some es'[j] := by simp [hjl]
                obtain ⟨_, hval, _⟩ := her.2 j en _ hg hg'
                refine OpRes.same H (base _ hj) ?_
                simp only [hg', Option.map_some, Option.getD_some]
                exact tupok _ _ true hval
            · rename_i hj
              cases e
              exact OpRes.same H (base _ hj) (tupok _ _ false zr)
            · cases e
          · cases e
        · cases e
      · cases e
    · simp [aexec] at e
  · simp [aexec] at e

theorem sameBits_simple {x y : Value} (hx : simpleKey x = true) (h : veq1 x y = some true) : Instr.sameBits 10000 y x = true := by
  cases x <;> simp [simpleKey] at hx <;> cases y <;> simp only [veq1, reduceCtorEq] at h
  · simp only [Option.some.injEq, decide_eq_true_eq] at h; subst h; simp [Instr.sameBits]
  · split at h
    · rename_i hk; subst hk; simp only [Option.some.injEq, decide_eq_true_eq] at h; subst h; simp [Instr.sameBits]
    · cases h
  · simp only [Option.some.injEq, decide_eq_true_eq] at h
    rename_i a b
    have : a = b := by cases a; cases b; congr 1; exact Array.ext' h
    subst this; simp [Instr.sameBits, beq_toListBytes]

theorem sim_mapUpd {T : TypeId} {x y z : Operand} (hρ : EvOk m t ρ) (H : HRel m w0 h w) (ho : o.op = .mapUpdate T x y z ∨ o.op = .insert T x y z)
    (e : aexec C t h (cOp P o) = some (v, h')) : OpRes m w0 h v h' ((execOp ρ o).run P w) := by
  have hc : cOp P o = (match P.underlying T, cArg x, cArg y, cArg z with
    | some (.map kt _), some a, some b, some c => match keyT P kt with
      | some kk => .mapUpd kk a b c
      | none => .bad
    | _, _, _, _ => .bad) := by unfold cOp; rcases ho with ho | ho <;> rw [ho] <;> rfl
  have hr : (execOp ρ o).run P w = ((Instr.mapUpdate T (ρ x) (ρ y) (ρ z)).run P w).andThen fun _ w' => .ok .skip w' := by
    rcases ho with ho | ho <;> simp only [execOp, ho, Sem.run_bind, Sem.run_pure]
  rw [hc] at e
  rw [hr]
  clear hc hr ho
  split at e
  · rename_i kt E a b c hu ha hb hcz
    split at e
    · rename_i kk hk
      simp only [aexec] at e
      split at e
      · rename_i hfit
        obtain ⟨hK, hsimple⟩ := keyFits_rel hfit (hρ _ _ hb)
        have hval := hρ _ _ hcz
        split at e
        · rename_i r hm
          split at e
          · rename_i es cl hmo
            obtain ⟨cb, sz, k', es', hX, hmm, hheap, her⟩ := map_rel H hm (hρ _ _ ha) hmo
            have hgo := run_getObj (P := P) hheap (by intro _ _ _ h; cases h)
            have hblk := mapOf_spec hmo
            have htags := map_tags H hblk
            split at e
            · rename_i j hj
              unfold setMap at e
              split at e
              · cases e
              rename_i hlo
              simp only [Option.map_some, Option.some.injEq, Prod.mk.injEq] at e
              obtain ⟨rfl, rfl⟩ := e
              obtain ⟨n, hn, en, hen, hveq⟩ := findE_spec hj
              have hjn : j = n := by omega
              subst hjn
              have hjl : j < es'.length := by
                rw [← her.1]
                rcases Nat.lt_or_ge j es.length with h | h
                · exact h
                · rw [List.getElem?_eq_none h] at hen; cases hen
              have hg' : es'[j]? = some es'[j] := by simp [hjl]
              obtain ⟨hkr, _, _, hks⟩ := her.2 j en _ hen hg'
              have hkey : es'[j].key = en.key := simpleKey_rel hks hkr
              have hst : (Instr.keyThatStays es'[j].key (b.ev t)).run P w = .ok (b.ev t) w := by
                unfold Instr.keyThatStays
                rw [hkey, sameBits_simple hsimple hveq]; rfl
              have hfk := run_findKey (P := P) (w := w) (m := m) hk hfit her hj
              have hso := run_setObj (P := P) (ob' := .map ((⟨es'⟩ : Array MapEntry).modify j fun e => { e with key := b.ev t, val := ρ z }) cl) hheap (by intro _ _ _ h; cases h)
              have hrun : (Instr.mapUpdate T (ρ x) (ρ y) (ρ z)).run P w = .ok () (putBlock w cb (.map ((⟨es'⟩ : Array MapEntry).modify j fun e => { e with key := b.ev t, val := ρ z }) cl)) := by
                simp only [Instr.mapUpdate, Sem.run_bind, run_under hu, Result.andThen_ok, hX, hgo, run_checkKey hk, hK, hfk, Option.map_some]
                rw [show (⟨es'⟩ : Array MapEntry)[j]? = some es'[j] by simp]
                simp only [Option.map_some, Option.getD_some, Sem.run_bind, hst, Result.andThen_ok, hso]
              rw [hrun]
              have hkb : en.key = b.ev t := by
                have hs := hsimple
                generalize b.ev t = X at hveq hs
                generalize en.key = Y at hveq
                cases X <;> simp [simpleKey] at hs <;> cases Y <;> simp only [veq1, reduceCtorEq] at hveq
                · simp only [Option.some.injEq, decide_eq_true_eq] at hveq; rw [hveq]
                · split at hveq
                  · rename_i hkq; simp only [Option.some.injEq, decide_eq_true_eq] at hveq; rw [hkq, hveq]
                  · cases hveq
                · simp only [Option.some.injEq, decide_eq_true_eq] at hveq
                  rename_i q1 q2
                  have : q1 = q2 := by cases q1; cases q2; congr 1; exact Array.ext' hveq
                  rw [this]
              have her2 : ERel m (es.modify j fun e => { e with val := c.ev t }) ((⟨es'⟩ : Array MapEntry).modify j fun e => { e with key := b.ev t, val := ρ z }).toList := by
                refine ⟨by simp [her.1], fun i p q hp hq => ?_⟩
                simp only [List.getElem?_modify, Array.toList_modify, Option.map_eq_map] at hp hq
                by_cases hij : j = i
                · subst hij
                  simp only [if_true, hen, Option.map_some, Option.some.injEq] at hp
                  simp only [if_true, hg', Option.map_some, Option.some.injEq] at hq
                  subst hp; subst hq
                  obtain ⟨_, _, q3, q4⟩ := her.2 j en _ hen hg'
                  exact ⟨by rw [hkb]; exact hK ▸ hρ _ _ hb, hval, q3, q4⟩
                · simp only [hij, if_false, Option.map_id'] at hp hq
                  exact her.2 i p q hp hq
              obtain ⟨h1, h2⟩ := H.setObj (blk := .map (es.modify j fun e => { e with val := c.ev t }) cl) (ob := .map ((⟨es'⟩ : Array MapEntry).modify j fun e => { e with key := b.ev t, val := ρ z }) cl) hmm (by omega) htags
                ⟨rfl, _, rfl, her2⟩
              exact ⟨_, m, h1, h2, .inr ⟨rfl, rfl⟩⟩
            · rename_i hj
              unfold setMap at e
              split at e
              · cases e
              rename_i hlo
              simp only [Option.map_some, Option.some.injEq, Prod.mk.injEq] at e
              obtain ⟨rfl, rfl⟩ := e
              have hfk := run_findKey (P := P) (w := w) (m := m) hk hfit her hj
              have hso := run_setObj (P := P) (ob' := .map ((⟨es'⟩ : Array MapEntry).push { key := b.ev t, val := ρ z, born := cl }) (cl + 1)) hheap (by intro _ _ _ h; cases h)
              have hrun : (Instr.mapUpdate T (ρ x) (ρ y) (ρ z)).run P w = .ok () (putBlock w cb (.map ((⟨es'⟩ : Array MapEntry).push { key := b.ev t, val := ρ z, born := cl }) (cl + 1))) := by
                simp only [Instr.mapUpdate, Sem.run_bind, run_under hu, Result.andThen_ok, hX, hgo, run_checkKey hk, hK, hfk, Option.map_none, hso]
              rw [hrun]
              have her2 : ERel m (es ++ [{ key := b.ev t, val := c.ev t, born := cl }]) ((⟨es'⟩ : Array MapEntry).push { key := b.ev t, val := ρ z, born := cl }).toList := by
                refine ⟨by simp [her.1], fun i p q hp hq => ?_⟩
                simp only [Array.toList_push] at hq
                rw [List.getElem?_append] at hp hq
                rw [← her.1] at hq
                by_cases hi : i < es.length
                · rw [if_pos hi] at hp hq; exact her.2 i p q hp hq
                · rw [if_neg hi] at hp hq
                  cases hd : i - es.length with
                  | zero =>
                    rw [hd] at hp hq
                    simp only [List.getElem?_cons_zero, Option.some.injEq] at hp hq
                    subst hp; subst hq
                    exact ⟨hK ▸ hρ _ _ hb, hval, rfl, hsimple⟩
                  | succ n => rw [hd] at hp; simp at hp
              obtain ⟨h1, h2⟩ := H.setObj (blk := .map (es ++ [{ key := b.ev t, val := c.ev t, born := cl }]) (cl + 1)) (ob := .map ((⟨es'⟩ : Array MapEntry).push { key := b.ev t, val := ρ z, born := cl }) (cl + 1)) hmm (by omega) htags
                ⟨rfl, _, rfl, her2⟩
              exact ⟨_, m, h1, h2, .inr ⟨rfl, rfl⟩⟩
            · cases e
          · cases e
        · cases e
      · cases e
    · simp [aexec] at e
  · simp [aexec] at e

end
end Go.Ab

/- Operations, one by one (seventh part): the built-in functions. -/
namespace Go.Ab
section
variable {P : Program} {C : Ctx} {t : List Value} {h h' : AHeap} {v : Value} {m : Mu} {w0 w : World} {ρ : Operand → Value} {o : Oper}

theorem sim_extract {x : Operand} {i : Nat} (hρ : EvOk m t ρ) (H : HRel m w0 h w) (ho : o.op = .extract x i)
    (e : aexec C t h (cOp P o) = some (v, h')) : OpRes m w0 h v h' ((execOp ρ o).run P w) := by
  unfold cOp at e
  rw [ho] at e
  simp only at e
  split at e
  · rename_i a ha
    simp only [aexec] at e
    split at e
    · rename_i vs hx
      cases hg : vs.toList[i]? with
      | none => rw [hg] at e; cases e
      | some u =>
        rw [hg] at e
        simp only [Option.map_some, Option.some.injEq, Prod.mk.injEq] at e
        obtain ⟨rfl, rfl⟩ := e
        have hv := hρ _ _ ha
        rw [hx] at hv
        obtain ⟨vs⟩ := vs
        have hY : ∃ us : List Value, ρ x = .tuple ⟨us⟩ ∧ VRelL m vs us := by
          generalize ρ x = Y at hv
          cases hv with
          | any => simp at hg
          | tuple x u h1 h2 => exact ⟨_, rfl, h1, h2⟩
        obtain ⟨us, hX, hr⟩ := hY
        obtain ⟨u', hu', hrel⟩ := hr.get hg
        refine OpRes.same H (v' := u') ?_ hrel
        have hu2 : (⟨us⟩ : Array Value)[i]? = some u' := by simpa using hu'
        simp [execOp, ho, Instr.extract, hX, hu']
    · cases e
  · simp [aexec] at e

theorem sim_tassert {T T' : TypeId} {x : Operand} {ok : Bool} (hρ : EvOk m t ρ) (H : HRel m w0 h w) (ho : o.op = .typeAssert x T' T ok)
    (e : aexec C t h (cOp P o) = some (v, h')) : OpRes m w0 h v h' ((execOp ρ o).run P w) := by
  unfold cOp at e
  rw [ho] at e
  simp only at e
  split at e
  · rename_i d a z hu ha hz
    split at e
    · simp [aexec] at e
    · rename_i hni
      obtain ⟨i, hi, hz1, hz2⟩ := zeroOf_spec hz
      have zr : VRel m z z := constOk_self z hz2
      simp only [aexec] at e
      have hv := hρ _ _ ha
      have hrun : ∀ y, ρ x = y → (execOp ρ o).run P w = ((Instr.typeAssert y T' T ok).run P w).andThen fun v w' => .ok (.value v) w' := by
        intro y hy; simp only [execOp, ho, hy, Sem.run_bind, Sem.run_pure]
      have tup : ∀ (u u' : Value) (bb : Bool), VRel m u u' → VRel m (.tuple #[u, .bool bb]) (.tuple #[u', .bool bb]) := fun u u' bb hu =>
        .tuple [u, .bool bb] [u', .bool bb] rfl (VRelL.cons hu (VRelL.cons (.bool bb) (VRelL.nil _))).2
      split at e
      · rename_i ty' u hx
        rw [hx] at hv
        have hY : ∃ u', ρ x = .iface ty' u' ∧ VRel m u u' := by
          generalize ρ x = Y at hv
          cases hv with | iface _ _ u' hr => exact ⟨u', rfl, hr⟩
        obtain ⟨u', hX, hr⟩ := hY
        rw [hrun _ hX]
        split at e
        · rename_i hty
          cases e
          refine OpRes.same H (v' := if ok then .tuple #[u', .bool true] else u') ?_ ?_
          · have : (Instr.typeAssert (.iface ty' u') T' T ok).run P w = .ok (if ok then .tuple #[u', .bool true] else u') w := by
              simp only [Instr.typeAssert, Sem.run_bind, run_under hu, Result.andThen_ok]
              cases d <;> first
                | (exfalso; exact hni rfl)
                | (simp only [hty, if_true, Sem.run_pure])
            rw [this]; rfl
          · cases ok with
            | true => exact tup _ _ _ hr
            | false => exact hr
        · rename_i hty
          split at e
          · rename_i hok
            cases e
            refine OpRes.same H (v' := .tuple #[z, .bool false]) ?_ (tup _ _ _ zr)
            have : (Instr.typeAssert (.iface ty' u') T' T ok).run P w = .ok (.tuple #[z, .bool false]) w := by
              simp only [Instr.typeAssert, Sem.run_bind, run_under hu, Result.andThen_ok]
              cases d <;> first
                | (exfalso; exact hni rfl)
                | (simp only [hty, if_false, hok, if_true, Sem.run_bind, run_zeroValue hz, Result.andThen_ok, Sem.run_pure])
            rw [this]; rfl
          · cases e
      · rename_i hx
        rw [hx] at hv
        have hX : ρ x = .nilIface := by generalize ρ x = Y at hv; cases hv; rfl
        rw [hrun _ hX]
        split at e
        · rename_i hok
          cases e
          refine OpRes.same H (v' := .tuple #[z, .bool false]) ?_ (tup _ _ _ zr)
          have : (Instr.typeAssert .nilIface T' T ok).run P w = .ok (.tuple #[z, .bool false]) w := by
            simp only [Instr.typeAssert, Sem.run_bind, run_under hu, Result.andThen_ok]
            cases d <;> first
              | (exfalso; exact hni rfl)
              | (simp only [hok, if_true, Sem.run_bind, run_zeroValue hz, Result.andThen_ok, Sem.run_pure])
          rw [this]; rfl
        · cases e
      · cases e
  · simp [aexec] at e

theorem sim_range {T : TypeId} {x : Operand} (hρ : EvOk m t ρ) (H : HRel m w0 h w) (ho : o.op = .range T x)
    (e : aexec C t h (cOp P o) = some (v, h')) : OpRes m w0 h v h' ((execOp ρ o).run P w) := by
  unfold cOp at e
  rw [ho] at e
  simp only at e
  split at e
  · rename_i a hu ha
    simp only [aexec] at e
    split at e
    · rename_i s hx
      cases e
      have hv := hρ _ _ ha
      rw [hx] at hv
      have hX : ρ x = .string s := by generalize ρ x = Y at hv; cases hv; rfl
      obtain ⟨h1, h2⟩ := H.push (blk := .siter s.data.toList 0) (o := .stringIter s 0) (t := 0) (sz := 0) (k := 0) ⟨rfl, rfl⟩
      exact ⟨_, _, h1, h2, .inl ⟨.pointer (some ⟨w.heap.size, 0, none⟩), by simp [execOp, ho, Instr.range, run_under hu, hX], .ptrNew 0 (Mu.set_self _ _ _ _)⟩⟩
    · cases e
  · simp [aexec] at e

theorem sim_next {x : Operand} (hρ : EvOk m t ρ) (H : HRel m w0 h w) (ho : o.op = .next x true)
    (e : aexec C t h (cOp P o) = some (v, h')) : OpRes m w0 h v h' ((execOp ρ o).run P w) := by
  unfold cOp at e
  rw [ho] at e
  simp only at e
  split at e
  · rename_i a ha
    simp only [aexec] at e
    split at e
    · rename_i r hx
      have hv := hρ _ _ ha
      rw [hx] at hv
      split at e
      · rename_i s pos hb
        have hY : ∃ cb sz k, ρ x = .pointer (some ⟨cb, 0, none⟩) ∧ m r 0 = some (cb, sz, k) := by
          generalize ρ x = Y at hv
          cases hv with
          | ptrNew off hm => exact ⟨_, _, _, rfl, hm⟩
          | ptrOld _ hs => cases hs
        obtain ⟨cb, sz, k, hX, hm⟩ := hY
        obtain ⟨_, hbr⟩ := H.blk _ _ _ _ _ hm
        rw [hb] at hbr
        obtain ⟨_, hheap⟩ := hbr
        have hgo := run_getObj (P := P) hheap (by intro _ _ _ h; cases h)
        split at e
        · rename_i hpos
          split at e
          · cases e
          rename_i hlo
          cases e
          have hso := run_setObj (P := P) (ob' := .stringIter ⟨⟨s⟩⟩ (pos + (utf8At s pos).2)) hheap (by intro _ _ _ h; cases h)
          obtain ⟨h1, h2⟩ := H.setObj (blk := .siter s (pos + (utf8At s pos).2)) (ob := .stringIter ⟨⟨s⟩⟩ (pos + (utf8At s pos).2)) hm (by omega) (siter_tags H hb) ⟨rfl, rfl⟩
          refine ⟨_, m, h1, h2, .inl ⟨.tuple #[.bool true, .int .i64 pos, .int .i32 (utf8At s pos).1], ?_, ?_⟩⟩
          · have hsz : pos < (⟨⟨s⟩⟩ : ByteArray).size := hpos
            simp only [execOp, ho, Instr.next, hX, Sem.run_bind, hgo, Result.andThen_ok]
            rw [if_pos hsz]
            rw [show Utf8.decode ⟨⟨s⟩⟩ pos = utf8At s pos from rfl]
            simp only [Sem.run_bind, hso, Result.andThen_ok, Sem.run_pure]
            rfl
          · exact .tuple _ _ rfl (VRelL.cons (.bool true) (VRelL.cons (.int _ _) (VRelL.cons (.int _ _) (VRelL.nil _)))).2
        · rename_i hpos
          cases e
          refine OpRes.same H (v' := .tuple #[.bool false]) ?_ (.tuple _ _ rfl (VRelL.cons (.bool false) (VRelL.nil _)).2)
          have hsz : ¬ pos < (⟨⟨s⟩⟩ : ByteArray).size := hpos
          simp only [execOp, ho, Instr.next, hX, Sem.run_bind, hgo, Result.andThen_ok]
          rw [if_neg hsz]
          rfl
      · cases e
    · cases e
  · simp [aexec] at e

/- the built-in functions -/
theorem run_builtin {c : Call} {b : Builtin} {s : Sem Value} (hc : c.callee = .builtin b) (ho : o.op = .call c)
    (hb : ∀ consts, builtin b c.argTypes o.type consts (c.args.map ρ) = (do pure (.value (← s)))) : (execOp ρ o).run P w = (s.run P w).andThen fun v w' => .ok (.value v) w' := by
  unfold execOp
  rw [ho]
  simp only [resolve, hc, invoke, Sem.run_bind, Sem.run_pure, Result.andThen_ok, hb]

theorem sim_mapDel {c : Call} {x y : Operand} {T T2 : TypeId} {a b : AArg} {kk : CK} (hρ : EvOk m t ρ) (H : HRel m w0 h w) (hcb : c.callee = .builtin .delete) (hargs : c.args = #[x, y]) (hats : c.argTypes = #[T, T2]) (ho : o.op = .call c)
    {kt E : TypeId} (hu : P.underlying T = some (.map kt E)) (hk : keyT P kt = some kk) (ha : cArg x = some a) (hb : cArg y = some b)
    (e : aexec C t h (.mapDel kk a b) = some (v, h')) : OpRes m w0 h v h' ((execOp ρ o).run P w) := by
  rw [run_builtin (s := Builtin.delete_ #[T, T2] o.type #[ρ x, ρ y]) hcb ho (fun _ => by rw [hargs, hats]; simp [builtin])]
  simp only [aexec] at e
  split at e
  · rename_i hfit
    obtain ⟨hK, hsimple⟩ := keyFits_rel hfit (hρ _ _ hb)
    split at e
    · rename_i hm
      cases e
      have hx := hρ _ _ ha
      rw [hm] at hx
      have hX : ρ x = .map none := by generalize ρ x = Y at hx; cases hx; rfl
      refine OpRes.same H (v' := .tuple #[]) ?_ (.any _)
      simp [Builtin.delete_, run_under hu, hX, run_checkKey hk]
    · rename_i r hm
      split at e
      · rename_i es cl hmo
        obtain ⟨cb, sz, k', es', hX, hmm, hheap, her⟩ := map_rel H hm (hρ _ _ ha) hmo
        have hgo := run_getObj (P := P) hheap (by intro _ _ _ h; cases h)
        have htags := map_tags H (mapOf_spec hmo)
        split at e
        · rename_i j hj
          unfold setMap at e
          split at e
          · cases e
          rename_i hlo
          simp only [Option.map_some, Option.some.injEq, Prod.mk.injEq] at e
          obtain ⟨rfl, rfl⟩ := e
          have hfk := run_findKey (P := P) (w := w) (m := m) hk hfit her hj
          have hso := run_setObj (P := P) (ob' := .map ((⟨es'⟩ : Array MapEntry).eraseIdxIfInBounds j) cl) hheap (by intro _ _ _ h; cases h)
          have hrun : (Builtin.delete_ #[T, T2] o.type #[ρ x, ρ y]).run P w = .ok (.tuple #[]) (putBlock w cb (.map ((⟨es'⟩ : Array MapEntry).eraseIdxIfInBounds j) cl)) := by
            have e0 : (#[T, T2] : Array TypeId)[0]? = some T := rfl
            rw [hX, hK]
            have e1 : (#[Value.map (some cb), b.ev t] : Array Value)[0]? = some (Value.map (some cb)) := rfl
            have e2 : (#[Value.map (some cb), b.ev t] : Array Value)[1]? = some (b.ev t) := rfl
            simp only [Builtin.delete_, e0, e1, e2, Sem.run_bind, run_under hu, Result.andThen_ok, hgo, run_checkKey hk, hfk, Option.map_some, hso, Sem.run_pure]
          rw [hrun]
          have hel : ((⟨es'⟩ : Array MapEntry).eraseIdxIfInBounds j).toList = es'.eraseIdx j := by
            unfold Array.eraseIdxIfInBounds
            split
            · simp
            · rename_i hn
              simp only [List.size_toArray] at hn
              rw [List.eraseIdx_of_length_le (by omega)]
          have her2 : ERel m (es.eraseIdx j) ((⟨es'⟩ : Array MapEntry).eraseIdxIfInBounds j).toList := by
            rw [hel]
            refine ⟨by simp only [List.length_eraseIdx, her.1], fun i p q hp hq => ?_⟩
            rw [List.getElem?_eraseIdx] at hp hq
            split at hp
            · rename_i hij; rw [if_pos hij] at hq; exact her.2 i p q hp hq
            · rename_i hij; rw [if_neg hij] at hq; exact her.2 (i + 1) p q hp hq
          obtain ⟨h1, h2⟩ := H.setObj (blk := .map (es.eraseIdx j) cl) (ob := .map ((⟨es'⟩ : Array MapEntry).eraseIdxIfInBounds j) cl) hmm (by omega) htags ⟨rfl, _, rfl, her2⟩
          exact ⟨_, m, h1, h2, .inl ⟨_, rfl, .any _⟩⟩
        · rename_i hj
          unfold setMap at e
          split at e
          · cases e
          rename_i hlo
          simp only [Option.map_some, Option.some.injEq, Prod.mk.injEq] at e
          obtain ⟨rfl, rfl⟩ := e
          have hfk := run_findKey (P := P) (w := w) (m := m) hk hfit her hj
          have hso := run_setObj (P := P) (ob' := .map (⟨es'⟩ : Array MapEntry) cl) hheap (by intro _ _ _ h; cases h)
          have hrun : (Builtin.delete_ #[T, T2] o.type #[ρ x, ρ y]).run P w = .ok (.tuple #[]) (putBlock w cb (.map (⟨es'⟩ : Array MapEntry) cl)) := by
            simp [Builtin.delete_, run_under hu, hX, hgo, run_checkKey hk, hK, hfk, hso]
          rw [hrun]
          obtain ⟨h1, h2⟩ := H.setObj (blk := .map es cl) (ob := .map (⟨es'⟩ : Array MapEntry) cl) hmm (by omega) htags ⟨rfl, _, rfl, her⟩
          exact ⟨_, m, h1, h2, .inl ⟨_, rfl, .any _⟩⟩
        · cases e
      · cases e
    · cases e
  · cases e

theorem sim_mapClear {c : Call} {x : Operand} {T : TypeId} {a : AArg} (hρ : EvOk m t ρ) (H : HRel m w0 h w) (hcb : c.callee = .builtin .clear) (hargs : c.args = #[x]) (hats : c.argTypes = #[T]) (ho : o.op = .call c)
    {kt E : TypeId} (hu : P.underlying T = some (.map kt E)) (ha : cArg x = some a)
    (e : aexec C t h (.mapClear a) = some (v, h')) : OpRes m w0 h v h' ((execOp ρ o).run P w) := by
  rw [run_builtin (s := Builtin.clear_ #[T] o.type #[ρ x]) hcb ho (fun _ => by rw [hargs, hats]; simp [builtin])]
  simp only [aexec] at e
  split at e
  · rename_i hm
    cases e
    have hx := hρ _ _ ha
    rw [hm] at hx
    have hX : ρ x = .map none := by generalize ρ x = Y at hx; cases hx; rfl
    refine OpRes.same H (v' := .tuple #[]) ?_ (.any _)
    simp [Builtin.clear_, run_under hu, hX]
  · rename_i r hm
    split at e
    · rename_i es cl hmo
      obtain ⟨cb, sz, k', es', hX, hmm, hheap, her⟩ := map_rel H hm (hρ _ _ ha) hmo
      have hgo := run_getObj (P := P) hheap (by intro _ _ _ h; cases h)
      have htags := map_tags H (mapOf_spec hmo)
      unfold setMap at e
      split at e
      · cases e
      rename_i hlo
      simp only [Option.map_some, Option.some.injEq, Prod.mk.injEq] at e
      obtain ⟨rfl, rfl⟩ := e
      have hso := run_setObj (P := P) (ob' := .map #[] cl) hheap (by intro _ _ _ h; cases h)
      have hrun : (Builtin.clear_ #[T] o.type #[ρ x]).run P w = .ok (.tuple #[]) (putBlock w cb (.map #[] cl)) := by
        simp [Builtin.clear_, run_under hu, hX, hgo, hso]
      rw [hrun]
      obtain ⟨h1, h2⟩ := H.setObj (blk := .map [] cl) (ob := .map #[] cl) hmm (by omega) htags ⟨rfl, [], rfl, rfl, fun i a b h => by simp at h⟩
      exact ⟨_, m, h1, h2, .inl ⟨_, rfl, .any _⟩⟩
    · cases e
  · cases e

end
end Go.Ab

/- Operations, one by one (eighth part): lengths, append, copy. -/
namespace Go.Ab
section
variable {P : Program} {C : Ctx} {t : List Value} {h h' : AHeap} {v : Value} {m : Mu} {w0 w : World} {ρ : Operand → Value} {o : Oper}

theorem srcLen_rel {x y : Value} {n : Nat} (hx : srcLen x = some n) (hv : VRel m x y) : (Builtin.lenOf y).run P w = .ok n w ∧ ((∃ a c, y = .slice a n c) ∨ ∃ s, y = .string s ∧ s.size = n) := by
  cases hv <;> simp only [srcLen, Option.some.injEq, reduceCtorEq] at hx
  all_goals subst hx
  case string s => exact ⟨rfl, .inr ⟨s, rfl, rfl⟩⟩
  all_goals exact ⟨rfl, .inl ⟨_, _, rfl⟩⟩

theorem srcCells_sim (hold : OldOk C.old w0) (H : HRel m w0 h w) {k n : Nat} {x y : Value} {c : List Value} (hn : n ≠ 0) (hl : ∃ n0, srcLen x = some n0 ∧ n ≤ n0) (hc : srcCells C.old h k n x = some c) (hv : VRel m x y) :
    ∃ c', VRelL m c c' ∧ ∀ dr, (Builtin.firstCells k n y).run P { w with drawn := dr } = .ok ⟨c'⟩ { w with drawn := dr } := by
  obtain ⟨n0, hl, hle⟩ := hl
  cases hv <;> simp only [srcLen, Option.some.injEq, reduceCtorEq] at hl <;> simp only [srcCells] at hc
  case string s =>
    cases hc
    refine ⟨bytesVals (s.data.toList.take n), ⟨rfl, fun i a b ha hb => ?_⟩, ?_⟩
    · rw [ha] at hb; cases hb
      simp only [bytesVals, List.getElem?_map, Option.map_eq_some_iff] at ha
      obtain ⟨_, _, rfl⟩ := ha
      exact .int _ _
    · intro dr
      simp only [Builtin.firstCells, Sem.run_pure]
      congr 1
      apply Array.ext'
      simp only [Array.toList_map, bytesVals]
      rw [Lib.extract_data]; simp
  case slNil => subst hl; omega
  case slOld a l c0 hs =>
    obtain ⟨_, c', q1, q2⟩ := run_readN' (P := P) hold H hc (.inl ⟨hs, rfl⟩)
    exact ⟨c', q1, fun dr => q2 dr⟩
  case slPlain off l c0 hm =>
    obtain ⟨_, c', q1, q2⟩ := run_readN' (P := P) hold H hc (.inr ⟨_, _, _, _, rfl, hm, rfl⟩)
    exact ⟨c', q1, fun dr => q2 dr⟩
  case slEmpty => subst hl; omega
  case slExact off l c0 hm _ =>
    obtain ⟨_, c', q1, q2⟩ := run_readN' (P := P) hold H hc (.inr ⟨_, _, _, _, rfl, hm, rfl⟩)
    exact ⟨c', q1, fun dr => q2 dr⟩
  case slRest off l c0 hm _ _ =>
    obtain ⟨_, c', q1, q2⟩ := run_readN' (P := P) hold H hc (.inr ⟨_, _, _, _, rfl, hm, rfl⟩)
    exact ⟨c', q1, fun dr => q2 dr⟩
  case slEnd => subst hl; omega

theorem writeN_ok {a : Addr} {vs : List Value} (hw : writeN h a vs = some h') : vs.all okCell = true := by
  unfold writeN at hw
  split at hw
  · cases hw
  · split at hw
    · cases hw
    · split at hw
      · split at hw
        · rename_i hc; exact hc.2.2.2
        · cases hw
      · split at hw
        · rename_i hc; exact hc.2.2.2
        · cases hw
      · cases hw

/-- append where there is room -/
theorem run_append_fits {T U ty E : TypeId} {k n l c : Nat} {a : Addr} {y : Value} {new : List Value} {w' : World} {d : TypeDesc} (hu : P.underlying T = some (.slice E)) (hU : P.underlying U = some d) (hd : notIntT d = true)
    (hk : szOf P E = some k) (hl : (Builtin.lenOf y).run P w = .ok n w) (hn : (Builtin.firstCells k n y).run P w = .ok ⟨new⟩ w) (hfit : l + n ≤ c) (hst : (storeCells (a.add (l * k)) new).run P w = .ok () w') :
    (Builtin.append_ #[T, U] ty #[.slice (some a) l c, y]).run P w = .ok (.slice (some a) (l + n) c) w' := by
  have e0 : (#[T, U] : Array TypeId)[0]? = some T := rfl
  have e1 : (#[T, U] : Array TypeId)[1]? = some U := rfl
  have e2 : (#[Value.slice (some a) l c, y] : Array Value)[0]? = some (.slice (some a) l c) := rfl
  have e3 : (#[Value.slice (some a) l c, y] : Array Value)[1]? = some y := rfl
  cases d <;> first
    | (exfalso; exact Bool.noConfusion hd)
    | simp only [Builtin.append_, e0, e1, e2, e3, Sem.run_bind, run_under hu, run_under hU, Result.andThen_ok, run_sizeOf hk, Sem.run_pure, Bool.false_eq_true, if_false, hl, hfit, if_true, Bool.not_false, hn, hst]

theorem run_append_grows {T U ty E : TypeId} {k n l c b : Nat} {s y : Value} {old new : List Value} {d : TypeDesc} {z : Value} (hu : P.underlying T = some (.slice E)) (hU : P.underlying U = some d) (hd : notIntT d = true)
    (hk : szOf P E = some k) (hb : byOf P E = some b) (hb0 : 0 < b) (hz : zeroOf P E = some z) (hs : ∃ a, s = .slice a l c) (hl : (Builtin.lenOf y).run P w = .ok n w)
    (hn : ∀ dr, (Builtin.firstCells k n y).run P { w with drawn := dr } = .ok ⟨new⟩ { w with drawn := dr }) (ho : ∀ dr, (Builtin.firstCells k l s).run P { w with drawn := dr } = .ok ⟨old⟩ { w with drawn := dr }) (hgr : ¬ l + n ≤ c) (hlim : (l + n) * b ≤ sizeLim) :
    ∃ cap, l + n ≤ cap ∧ (Builtin.append_ #[T, U] ty #[s, y]).run P w = .ok (.slice (some ⟨w.heap.size, 0, none⟩) (l + n) cap)
      (({ w with drawn := w.drawn + 1 } : World).alloc (.cells ((⟨old⟩ : Array Value) ++ (⟨new⟩ : Array Value) ++ Builtin.zeroCells z.cells (cap - (l + n))) E)) := by
  obtain ⟨a, rfl⟩ := hs
  have e0 : (#[T, U] : Array TypeId)[0]? = some T := rfl
  have e1 : (#[T, U] : Array TypeId)[1]? = some U := rfl
  have e2 : (#[Value.slice a l c, y] : Array Value)[0]? = some (.slice a l c) := rfl
  have e3 : (#[Value.slice a l c, y] : Array Value)[1]? = some y := rfl
  obtain ⟨i, hi, hib⟩ := byOf_spec hb
  have hfit : Builtin.nextslicecap (l + n) c * b ≤ 281474976710656 := growslice_fits (by omega) (by unfold sizeLim at hlim; omega)
  have hf : (Question.appendCap (l + n) c E).forced = false := rfl
  refine ⟨(Question.appendCap (l + n) c E).cut (w.tape w.drawn (.appendCap (l + n) c E)), by simp [Question.cut], ?_⟩
  have c1 : ¬ (((l + n : Nat) : Int) > IntKind.i64.max ∧ (False ∨ b = 0)) := by
    rintro ⟨_, h | h⟩
    · exact h
    · omega
  have c2 : ¬ (Builtin.nextslicecap (l + n) c * b > 2 ^ 48) := by omega
  have c1' : ¬ (((l + n : Nat) : Int) > IntKind.i64.max ∧ (false = true ∨ b = 0)) := by
    rintro ⟨_, h | h⟩
    · cases h
    · omega
  cases d <;> first
    | (exfalso; exact Bool.noConfusion hd)
    | (simp only [Builtin.append_, e0, e1, e2, e3, Sem.run_bind, run_under hu, run_under hU, Result.andThen_ok, run_sizeOf hk, Sem.run_pure, Bool.false_eq_true, if_false, hl, hgr, run_typeInfo hi, hib, c1, c1', c2,
        run_choose, hf, run_askRoom, ho, Bool.not_false, if_true, hn, run_zeroValue hz, newRow, run_newObj]
       rfl)

theorem zeroCells_size (z : Array Value) (n : Nat) : (Builtin.zeroCells z n).size = n * z.size := by simp [Builtin.zeroCells]

theorem sim_append {c : Call} {x y : Operand} {T U E : TypeId} {k b : Nat} {d : TypeDesc} {z : Value} {a1 a2 : AArg} (hold : OldOk C.old w0) (hρ : EvOk m t ρ) (H : HRel m w0 h w)
    (hcb : c.callee = .builtin .append) (hargs : c.args = #[x, y]) (hats : c.argTypes = #[T, U]) (ho : o.op = .call c) (hu : P.underlying T = some (.slice E)) (hU : P.underlying U = some d) (hd : notIntT d = true)
    (hk : szOf P E = some k) (hb : byOf P E = some b) (hb0 : 0 < b) (hk0 : 0 < k) (hz : zeroOf P E = some z) (hzl : (cellsOf z).length = k) (ha : cArg x = some a1) (hy : cArg y = some a2)
    (e : aexec C t h (.append E k b a1 a2) = some (v, h')) : OpRes m w0 h v h' ((execOp ρ o).run P w) := by
  rw [run_builtin (s := Builtin.append_ #[T, U] o.type #[ρ x, ρ y]) hcb ho (fun _ => by rw [hargs, hats]; simp [builtin])]
  have vs := hρ _ _ ha
  have vx := hρ _ _ hy
  simp only [aexec] at e
  generalize a1.ev t = s at vs e
  generalize a2.ev t = xv at vx e
  generalize ρ x = s' at vs ⊢
  generalize ρ y = y' at vx ⊢
  have hzs : z.cells.size = k := by
    have : z.cells.toList = cellsOf z := by cases z <;> rfl
    rw [← hzl, ← this]; exact Array.length_toList.symm
  unfold appendV at e
  cases hn : srcLen xv with
  | none => rw [hn] at e; cases e
  | some n =>
    rw [hn] at e
    simp only at e
    obtain ⟨hlen, hshape⟩ := srcLen_rel (P := P) (w := w) hn vx
    -- where the abstract side lays a new row
    have news : ∀ (l cp : Nat) (old new old' new' : List Value), (∃ a, s' = .slice a l cp) → VRelL m old old' → VRelL m new new' → old.length = l * k → new.length = n * k →
        (∀ dr, (Builtin.firstCells k l s').run P { w with drawn := dr } = .ok ⟨old'⟩ { w with drawn := dr }) → (∀ dr, (Builtin.firstCells k n y').run P { w with drawn := dr } = .ok ⟨new'⟩ { w with drawn := dr }) → ¬ l + n ≤ cp →
        appendNew h E k b (l + n) (old ++ new) = some (v, h') → OpRes m w0 h v h' (((Builtin.append_ #[T, U] o.type #[s', y']).run P w).andThen fun v w' => .ok (.value v) w') := by
      intro l cp old new old' new' hs hold' hnew' ol nl ho' hn' hgr e
      unfold appendNew at e
      split at e
      · rename_i hc
        obtain ⟨q1, q2, q3, q4⟩ := hc
        cases e
        obtain ⟨cap, hcap, hrun⟩ := run_append_grows (ty := o.type) hu hU hd hk hb hb0 hz hs hlen hn' ho' hgr q1
        rw [hrun]
        have rel : VRelL m (old ++ new) (old' ++ new') := hold'.append hnew'
        have hlen' : (old' ++ new').length = (l + n) * k := by rw [← rel.1, q3]
        have hsz : ((⟨old'⟩ : Array Value) ++ (⟨new'⟩ : Array Value) ++ Builtin.zeroCells z.cells (cap - (l + n))).size = cap * k := by
          rw [Array.size_append, zeroCells_size, hzs]
          have : ((⟨old'⟩ : Array Value) ++ (⟨new'⟩ : Array Value)).size = (l + n) * k := by simpa using hlen'
          rw [this, ← Nat.add_mul]; congr 1; omega
        have hml : (l + n) * k ≤ cap * k := Nat.mul_le_mul_right _ hcap
        obtain ⟨h1, h2⟩ := (H.drew (w.drawn + 1)).push (blk := .grow (old ++ new) 0 (E + 1) k) (o := .cells ((⟨old'⟩ : Array Value) ++ (⟨new'⟩ : Array Value) ++ Builtin.zeroCells z.cells (cap - (l + n))) E)
          (t := (l + n) * k + 1) (sz := cap * k) (k := k)
          ⟨rfl, hk0, by omega, by rw [q3]; exact Nat.le_refl _, by omega, _, E, 0, 0, rfl, hsz, by omega, fun _ => by
            rw [Nat.add_sub_cancel, ← q3, List.take_length]
            have : ((⟨old'⟩ : Array Value) ++ (⟨new'⟩ : Array Value) ++ Builtin.zeroCells z.cells (cap - (l + n))).toList.take (old ++ new).length = old' ++ new' := by
              rw [rel.1, Array.toList_append, Array.toList_append, List.take_left]
            rw [this]; exact rel, fun _ => ⟨rfl, fun _ => free_zero _⟩⟩
        exact ⟨_, _, h1, h2, .inl ⟨_, rfl, .slRest 0 (l + n) cap (Mu.set_self _ _ _ _) (by omega) hcap⟩⟩
      · cases e
    split at e
    · -- nothing is appended
      rename_i hn0
      subst hn0
      have hfc : (Builtin.firstCells k 0 y').run P w = .ok ⟨[]⟩ w := by
        rcases hshape with ⟨a, c0, rfl⟩ | ⟨s0, rfl, hs0⟩
        · cases a <;> simp [Builtin.firstCells, loadCells, loadCellsFrom]
        · simp only [Builtin.firstCells, Sem.run_pure]
          congr 1
          apply Array.ext'
          simp only [Array.toList_map]
          rw [Lib.extract_data]; simp
      have fits : ∀ (a' : Addr) (l cp : Nat), s' = .slice (some a') l cp → l ≤ cp → (Builtin.append_ #[T, U] o.type #[s', y']).run P w = .ok s' w := by
        rintro a' l cp rfl hle
        have := run_append_fits (a := a') (l := l) (c := cp) (ty := o.type) (w' := w) hu hU hd hk hlen hfc (by omega) (by simp [storeCells])
        simpa using this
      split at e
      · cases e
        cases vs
        refine OpRes.same H (v' := .slice none 0 0) ?_ .slNil
        have e0 : (#[T, U] : Array TypeId)[0]? = some T := rfl
        have e1 : (#[T, U] : Array TypeId)[1]? = some U := rfl
        have e2 : (#[Value.slice none 0 0, y'] : Array Value)[0]? = some (.slice none 0 0) := rfl
        have e3 : (#[Value.slice none 0 0, y'] : Array Value)[1]? = some y' := rfl
        cases d <;> first
          | (exfalso; exact Bool.noConfusion hd)
          | simp only [Builtin.append_, e0, e1, e2, e3, Sem.run_bind, run_under hu, run_under hU, Result.andThen_ok, run_sizeOf hk, Sem.run_pure, Bool.false_eq_true, if_false, hlen, Nat.add_zero, Nat.le_refl, if_true, Bool.not_false, hfc]
      · rename_i a l cp
        split at e
        · rename_i hr
          cases e
          have hle : ∃ a' c', s' = .slice (some a') l c' ∧ l ≤ c' := by
            cases vs with
            | slOld _ _ _ hs => simp [isRest, hs] at hr
            | slPlain => simp [isRest] at hr
            | slEmpty => exact ⟨_, _, rfl, Nat.le_refl _⟩
            | slExact off _ _ hm hc => simp [isRest, hc] at hr
            | slRest off _ c' hm h1 h2 => exact ⟨_, _, rfl, h2⟩
            | slEnd => exact ⟨_, _, rfl, Nat.le_refl _⟩
          obtain ⟨a', c', hs', hle⟩ := hle
          exact OpRes.same H (v' := s') (by rw [fits _ _ _ hs' hle]; rfl) vs
        · rename_i hr
          split at e
          · rename_i hlc
            cases e
            have hle : ∃ a', s' = .slice (some a') l cp := by
              cases vs with
              | slOld _ _ _ hs => exact ⟨_, rfl⟩
              | slPlain => exact ⟨_, rfl⟩
              | slEmpty => exact ⟨_, rfl⟩
              | slExact off _ _ hm hc => exact ⟨_, rfl⟩
              | slRest off _ c' hm h1 h2 => simp [isRest] at hr
              | slEnd => simp [isRest] at hr
            obtain ⟨a', hs'⟩ := hle
            exact OpRes.same H (v' := s') (by rw [fits _ _ _ hs' hlc]; rfl) vs
          · cases e
      · cases e
    · rename_i hn0
      cases hsc : srcCells C.old h k n xv with
      | none => rw [hsc] at e; cases e
      | some new =>
        rw [hsc] at e
        simp only at e
        obtain ⟨new', rnew, hnrun⟩ := srcCells_sim (P := P) hold H hn0 ⟨n, hn, Nat.le_refl _⟩ hsc vx
        have hnl : new.length = n * k → new'.length = n * k := fun h => by rw [← rnew.1, h]
        split at e
        · -- a nil slice
          cases vs
          have hz0 : ∀ dr, (Builtin.firstCells k 0 (.slice none 0 0)).run P { w with drawn := dr } = .ok ⟨[]⟩ { w with drawn := dr } := fun _ => rfl
          have hnk : new.length = n * k := by
            unfold appendNew at e
            split at e
            · rename_i hc; exact hc.2.2.1
            · cases e
          refine news 0 0 [] new [] new' ⟨_, rfl⟩ (VRelL.nil _) rnew (by simp) hnk hz0 hnrun (by omega) ?_
          simpa using e
        · rename_i a l cp
          split at e
          · -- open-ended room
            rename_i hr
            split at e
            · cases e
            rename_i hlo
            split at e
            · rename_i cl last fz k' hblk
              split at e
              · rename_i hc
                obtain ⟨c1, c2, c3, c4, c5, c6, c7⟩ := hc
                subst c3
                subst c2
                -- the concrete slice
                have hs' : ∃ t' cb sz off, a = ⟨a.block, off, some (t' + 1)⟩ ∧ m a.block (t' + 1) = some (cb, sz, k') ∧
                    ((∃ c', s' = .slice (some ⟨cb, off, none⟩) l c' ∧ off + c' * k' = sz ∧ l ≤ c') ∨ (∃ a', s' = .slice (some a') 0 0 ∧ l = 0 ∧ off = sz)) := by
                  have kk : ∀ {b t' cb sz kx : Nat}, m b (t' + 1) = some (cb, sz, kx) → b = a.block → kx = k' := by
                    intro b t' cb sz kx hm hb'
                    subst hb'
                    obtain ⟨_, hbr⟩ := H.blk _ _ _ _ _ hm
                    rw [hblk] at hbr
                    exact hbr.1.symm
                  cases vs with
                  | slOld _ _ _ hs => simp [isRest, hs] at hr
                  | slPlain => simp [isRest] at hr
                  | slEmpty => simp [isRest] at hr
                  | slExact off _ _ hm hc => simp [isRest, hc] at hr
                  | @slRest b' t' cb sz kx off _ c' hm h1 h2 =>
                    have := kk hm rfl
                    subst this
                    exact ⟨t', cb, sz, off, rfl, hm, .inl ⟨c', rfl, h1, h2⟩⟩
                  | @slEnd b' t' cb sz kx off a' hm h1 =>
                    have := kk hm rfl
                    subst this
                    exact ⟨t', cb, sz, off, rfl, hm, .inr ⟨a', rfl, rfl, h1⟩⟩
                obtain ⟨t', cb, sz, off, hae, hm, hcase⟩ := hs'
                have htag : t' = cl.length := by rw [hae] at c1; simp only [tagOf, Option.getD_some] at c1; omega
                have hoff : a.off = off := by rw [hae]
                obtain ⟨hcb0, hbr⟩ := H.blk _ _ _ _ _ hm
                obtain ⟨hbl, hcl⟩ := H.lt hm
                rw [hblk] at hbr
                obtain ⟨_, _, _, hb4, hb5, cc, E', lo, hi, g1, g2, g3, g4, g5⟩ := hbr
                split at e
                · -- in place
                  rename_i hin
                  cases e
                  rw [hoff] at hin
                  rcases hcase with ⟨c', hs', hcap, hlc⟩ | ⟨a', hs', hl0, hoffsz⟩
                  · have hfit : l + n ≤ c' := by
                      have : (l + n) * k' ≤ c' * k' := by omega
                      exact Nat.le_of_mul_le_mul_right this hk0
                    have hw : writeN h (adda a (l * k')) new = some (h.put a.block (.grow (splice cl (a.off + l * k') new) cl.length (E + 1) k')) := by
                      unfold writeN adda
                      rw [hae]
                      simp only
                      rw [if_neg hlo, hblk]
                      simp only
                      rw [Nat.add_mul] at hin
                      rw [if_pos ⟨by omega, by omega, by omega, c6⟩]
                    have har : ARel m (adda a (l * k')) ((⟨cb, off, none⟩ : Addr).add (l * k')) := ARel.add (.inr ⟨_, _, _, _, by rw [hae], hm, by rw [hoff]⟩) _
                    obtain ⟨w', hst, hH, hP⟩ := writeN_sim (P := P) H hw har rnew
                    subst hs'
                    rw [run_append_fits (ty := o.type) hu hU hd hk hlen (hnrun w.drawn) hfit hst]
                    refine ⟨w', m, hH, hP, .inl ⟨_, rfl, ?_⟩⟩
                    rw [hae]
                    exact .slRest off _ _ hm hcap hfit
                  · exfalso
                    have : (l + n) * k' ≤ 0 := by omega
                    have := Nat.mul_pos (show 0 < l + n by omega) hk0
                    omega
                · rename_i hnin
                  split at e
                  · rename_i hgr
                    obtain ⟨hoff0, hlk⟩ := hgr
                    cases e
                    rw [hoff] at hnin hoff0
                    subst hoff0
                    simp only [Nat.zero_add] at hnin hcase
                    have hnew_len : (cl.take (l * k') ++ new).length = (l + n) * k' := by
                      rw [List.length_append, List.length_take, Nat.min_eq_left hlk, c7, Nat.add_mul]
                    have htake : (cl.take (l * k') ++ new).take ((l + n) * k') = cl.take (l * k') ++ new := by rw [← hnew_len, List.take_length]
                    have hlast' : (if l * k' = cl.length then last else (l + n) * k') ≤ (l + n) * k' := by split <;> omega
                    have hfree : Free lo hi sz := (g5 (by omega)).2 (by rw [htag])
                    have hcur := g4 (by omega)
                    simp only [Nat.add_sub_cancel] at hcur
                    rw [htag, List.take_length] at hcur
                    -- what stands at an elder header's place
                    have elder : ∀ (t2 cb2 sz2 k2 : Nat) (W : World), m a.block t2 = some (cb2, sz2, k2) → (∀ (x : Array Value) e2 f2, w.heap[cb2]? = some (.cells x e2 f2) → ∃ y : Array Value, W.heap[cb2]? = some (.cells y e2 f2) ∧ y.size = x.size ∧
                        (l * k' = cl.length → y.toList.take cl.length = x.toList.take cl.length)) →
                        BRel m t2 sz2 k2 W.heap[cb2]? (some (.grow (cl.take (l * k') ++ new) (if l * k' = cl.length then last else (l + n) * k') (E + 1) k')) := by
                      intro t2 cb2 sz2 k2 W hm2 hW
                      obtain ⟨_, hb2⟩ := H.blk _ _ _ _ _ hm2
                      rw [hblk] at hb2
                      obtain ⟨p1, p2, p3, p4, p5, xx, e2, lo2, hi2, p6, p7, p8, p9, p10⟩ := hb2
                      obtain ⟨yy, hy1, hy2, hy3⟩ := hW xx e2 (lo2, hi2) p6
                      refine ⟨p1, p2, p3, by rw [hnew_len]; omega, by rw [hnew_len]; exact hlast', yy, e2, lo2, hi2, hy1, by rw [hy2, p7], p8, fun hlt => ?_, fun hz => ⟨(p10 hz).1, fun ht => by rw [hnew_len] at ht; omega⟩⟩
                      by_cases hfull : l * k' = cl.length
                      · rw [if_pos hfull] at hlt
                        have q := p9 hlt
                        have t1 : (cl.take (l * k') ++ new).take (t2 - 1) = cl.take (t2 - 1) := by
                          rw [hfull, List.take_length, List.take_append_of_le_length (by omega)]
                        have t3 : yy.toList.take (t2 - 1) = xx.toList.take (t2 - 1) := by
                          have := congrArg (List.take (t2 - 1)) (hy3 hfull)
                          rwa [List.take_take, List.take_take, Nat.min_eq_left (by omega)] at this
                        rw [t1, t3]; exact q
                      · rw [if_neg hfull] at hlt; omega
                    have mle : ∀ x, m.le (m.set a.block ((l + n) * k' + 1) x) := by
                      intro x b1 t1 y hy1
                      unfold Mu.set
                      rw [if_neg]
                      · exact hy1
                      · rintro ⟨rfl, rfl⟩
                        obtain ⟨cb1, sz1, k1⟩ := y
                        obtain ⟨_, hb1⟩ := H.blk _ _ _ _ _ hy1
                        rw [hblk] at hb1
                        have := hb1.2.2.2.1
                        omega
                    have moth : ∀ x b' t1, b' ≠ a.block → (m.set a.block ((l + n) * k' + 1) x) b' t1 = m b' t1 := by
                      intro x b' t1 hne; unfold Mu.set; rw [if_neg (fun hh => hne hh.1)]
                    have setcase : ∀ {x : Nat × Nat × Nat} {t1 cb1 sz1 k1 : Nat}, (m.set a.block ((l + n) * k' + 1) x) a.block t1 = some (cb1, sz1, k1) → (t1 = (l + n) * k' + 1 ∧ x = (cb1, sz1, k1)) ∨ (t1 ≠ (l + n) * k' + 1 ∧ m a.block t1 = some (cb1, sz1, k1)) := by
                      intro x t1 cb1 sz1 k1 hs1
                      unfold Mu.set at hs1
                      split at hs1
                      · rename_i hh; exact .inl ⟨hh.2, Option.some.inj hs1⟩
                      · rename_i hh; exact .inr ⟨fun ht => hh ⟨rfl, ht⟩, hs1⟩
                    have inplace : ∀ c', s' = .slice (some ⟨cb, 0, none⟩) l c' → c' * k' = sz → l + n ≤ c' → OpRes m w0 h (.slice (some ⟨a.block, 0, some ((l + n) * k' + 1)⟩) (l + n) 0)
                        (h.put a.block (.grow (cl.take (l * k') ++ new) (if l * k' = cl.length then last else (l + n) * k') (E + 1) k')) (((Builtin.append_ #[T, U] o.type #[s', y']).run P w).andThen fun v w' => .ok (.value v) w') := by
                      intro c' hs' hcap hfit
                      subst hs'
                      have hroom : l * k' + new'.length ≤ cc.size := by
                        rw [hnl c7, ← Nat.add_mul, g2, ← hcap]; exact Nat.mul_le_mul_right _ hfit
                      have hst := run_storeCells (P := P) (cb := cb) (o := l * k') (e := E') (lo := lo) (hi := hi) new' 0 w cc g1 (by simpa using hroom) (g2 ▸ hfree) (rnew.ok c6)
                      have hnne : new' ≠ [] := by
                        intro hh
                        have := hnl c7
                        rw [hh] at this
                        have := Nat.mul_pos (Nat.pos_of_ne_zero hn0) hk0
                        simp at *; omega
                      rw [if_neg hnne] at hst
                      have hst2 : (storeCells ((⟨cb, 0, none⟩ : Addr).add (l * k')) new').run P w = .ok () (putBlock w cb (.cells ⟨splice cc.toList (l * k') new'⟩ E' (lo, hi))) := by
                        rw [add_of_none rfl]; simpa using hst
                      rw [run_append_fits (ty := o.type) hu hU hd hk hlen (hnrun w.drawn) hfit hst2]
                      have hspl : (splice cc.toList (l * k') new').length = cc.size := by
                        rw [splice_length (by simpa using hroom)]; simp
                      obtain ⟨h1, h2⟩ := H.change (m' := m.set a.block ((l + n) * k' + 1) (cb, sz, k')) (blk := .grow (cl.take (l * k') ++ new) (if l * k' = cl.length then last else (l + n) * k') (E + 1) k')
                        (w' := putBlock w cb (.cells ⟨splice cc.toList (l * k') new'⟩ E' (lo, hi))) hbl (by omega) ⟨_, by rw [hm]; simp⟩ (mle _) (moth _) (by simp [putBlock_size])
                        (fun i hi' hne => putBlock_other (fun e => hne _ _ _ (e ▸ hm))) rfl rfl rfl (by
                          intro t1 cb1 sz1 k1 hs1
                          rcases setcase hs1 with ⟨rfl, hx⟩ | ⟨hne, hm1⟩
                          · cases hx
                            refine ⟨.inl ⟨_, _, _, hm⟩, ?_⟩
                            refine ⟨rfl, hk0, by omega, by rw [hnew_len]; exact Nat.le_refl _, by rw [hnew_len]; exact hlast', ⟨splice cc.toList (l * k') new'⟩, E', lo, hi, putBlock_self hcl, ?_, ?_, fun _ => ?_, fun hz => ⟨(g5 hz).1, fun _ => hfree⟩⟩
                            · simpa [g2] using hspl
                            · rw [← hcap]; have := Nat.mul_le_mul_right k' hfit; omega
                            · rw [Nat.add_sub_cancel, htake]
                              have t5 : (splice cc.toList (l * k') new').take ((l + n) * k') = cc.toList.take (l * k') ++ new' := by
                                unfold splice
                                have : (cc.toList.take (l * k') ++ new').length = (l + n) * k' := by
                                  rw [List.length_append, hnl c7, List.length_take, Nat.min_eq_left (by simp; omega), Nat.add_mul]
                                rw [← this, List.take_left]
                              rw [t5]
                              refine VRelL.append ?_ (rnew.mono (mle _))
                              have t6 : cc.toList.take (l * k') = (cc.toList.take cl.length).take (l * k') := by rw [List.take_take, Nat.min_eq_left hlk]
                              rw [t6]
                              exact ((hcur.take (l * k')).mono (mle _))
                          · refine ⟨.inl ⟨_, _, _, hm1⟩, ?_⟩
                            refine (elder t1 cb1 sz1 k1 _ hm1 ?_).mono (mle _)
                            intro xx e2 f2 hxx
                            by_cases hcc : cb1 = cb
                            · subst hcc
                              rw [g1] at hxx; cases hxx
                              refine ⟨⟨splice cc.toList (l * k') new'⟩, putBlock_self hcl, by simpa using hspl, fun hfull => ?_⟩
                              unfold splice
                              rw [← hfull, List.append_assoc, List.take_append_of_le_length (by simp; omega), List.take_take, Nat.min_self]
                            · exact ⟨xx, by rw [putBlock_other hcc]; exact hxx, rfl, fun _ => rfl⟩)
                      exact ⟨_, _, h1, h2, .inl ⟨_, rfl, .slRest 0 (l + n) c' (Mu.set_self _ _ _ _) (by omega) hfit⟩⟩
                    have anew : ∀ (cp' : Nat) (old' : List Value), (∃ a', s' = .slice a' l cp') → ¬ l + n ≤ cp' → VRelL m (cl.take (l * k')) old' → (∀ dr, (Builtin.firstCells k' l s').run P { w with drawn := dr } = .ok ⟨old'⟩ { w with drawn := dr }) →
                        OpRes m w0 h (.slice (some ⟨a.block, 0, some ((l + n) * k' + 1)⟩) (l + n) 0)
                        (h.put a.block (.grow (cl.take (l * k') ++ new) (if l * k' = cl.length then last else (l + n) * k') (E + 1) k')) (((Builtin.append_ #[T, U] o.type #[s', y']).run P w).andThen fun v w' => .ok (.value v) w') := by
                      intro cp' old' hs' hgr rold horun
                      obtain ⟨cap, hcap, hrun⟩ := run_append_grows (ty := o.type) hu hU hd hk hb hb0 hz hs' hlen hnrun horun hgr c5
                      rw [hrun]
                      have rel : VRelL m (cl.take (l * k') ++ new) (old' ++ new') := rold.append rnew
                      have hlen' : (old' ++ new').length = (l + n) * k' := by rw [← rel.1, hnew_len]
                      have hsz : ((⟨old'⟩ : Array Value) ++ (⟨new'⟩ : Array Value) ++ Builtin.zeroCells z.cells (cap - (l + n))).size = cap * k' := by
                        rw [Array.size_append, zeroCells_size, hzs]
                        have : ((⟨old'⟩ : Array Value) ++ (⟨new'⟩ : Array Value)).size = (l + n) * k' := by simpa using hlen'
                        rw [this, ← Nat.add_mul]; congr 1; omega
                      have hml : (l + n) * k' ≤ cap * k' := Nat.mul_le_mul_right _ hcap
                      have hsame : ∀ i, i < w.heap.size → (({ w with drawn := w.drawn + 1 } : World).alloc (.cells ((⟨old'⟩ : Array Value) ++ (⟨new'⟩ : Array Value) ++ Builtin.zeroCells z.cells (cap - (l + n))) E)).heap[i]? = w.heap[i]? :=
                        fun i hi' => by simp only [World.alloc, Array.getElem?_push]; rw [if_neg (Nat.ne_of_lt hi')]
                      have hself : (({ w with drawn := w.drawn + 1 } : World).alloc (.cells ((⟨old'⟩ : Array Value) ++ (⟨new'⟩ : Array Value) ++ Builtin.zeroCells z.cells (cap - (l + n))) E)).heap[w.heap.size]? = some (.cells ((⟨old'⟩ : Array Value) ++ (⟨new'⟩ : Array Value) ++ Builtin.zeroCells z.cells (cap - (l + n))) E) :=
                        heap_alloc_new ({ w with drawn := w.drawn + 1 } : World) _
                      obtain ⟨h1, h2⟩ := H.change (m' := m.set a.block ((l + n) * k' + 1) (w.heap.size, cap * k', k')) (blk := .grow (cl.take (l * k') ++ new) (if l * k' = cl.length then last else (l + n) * k') (E + 1) k')
                        (w' := ({ w with drawn := w.drawn + 1 } : World).alloc (.cells ((⟨old'⟩ : Array Value) ++ (⟨new'⟩ : Array Value) ++ Builtin.zeroCells z.cells (cap - (l + n))) E)) hbl (by omega) ⟨_, by rw [hm]; simp⟩ (mle _) (moth _)
                        (by rw [World.size_alloc]; exact Nat.le_succ _) (fun i hi' _ => hsame i hi') rfl rfl rfl (by
                          intro t1 cb1 sz1 k1 hs1
                          rcases setcase hs1 with ⟨rfl, hx⟩ | ⟨hne, hm1⟩
                          · cases hx
                            refine ⟨.inr (Nat.le_refl _), ?_⟩
                            rw [hself]
                            refine ⟨rfl, hk0, by omega, by rw [hnew_len]; exact Nat.le_refl _, by rw [hnew_len]; exact hlast', _, E, 0, 0, rfl, hsz, by omega, fun _ => ?_, fun _ => ⟨rfl, fun _ => free_zero _⟩⟩
                            rw [Nat.add_sub_cancel, htake]
                            have : ((⟨old'⟩ : Array Value) ++ (⟨new'⟩ : Array Value) ++ Builtin.zeroCells z.cells (cap - (l + n))).toList.take ((l + n) * k') = old' ++ new' := by
                              rw [← hlen', Array.toList_append, Array.toList_append, List.take_left]
                            rw [this]
                            exact rel.mono (mle _)
                          · refine ⟨.inl ⟨_, _, _, hm1⟩, ?_⟩
                            refine (elder t1 cb1 sz1 k1 _ hm1 ?_).mono (mle _)
                            intro xx e2 f2 hxx
                            exact ⟨xx, by rw [hsame cb1 (H.lt hm1).2]; exact hxx, rfl, fun _ => rfl⟩)
                      exact ⟨_, _, h1, h2, .inl ⟨_, rfl, .slRest 0 (l + n) cap (Mu.set_self _ _ _ _) (by omega) hcap⟩⟩
                    rcases hcase with ⟨c', hs', hcap, hlc⟩ | ⟨a', hs', hl0, hoffsz⟩
                    · by_cases hfit : l + n ≤ c'
                      · exact inplace c' hs' hcap hfit
                      · have hrd : readN C.old h a (l * k') = some ((cl.drop a.off).take (l * k')) := by
                          unfold readN
                          rw [hae]
                          simp only [hblk]
                          rw [if_pos ⟨by omega, by omega, by omega⟩]
                        obtain ⟨_, old', r1, r2⟩ := run_readN' (P := P) hold H hrd (.inr ⟨_, _, _, _, by rw [hae], hm, by rw [hoff]⟩)
                        rw [hoff, List.drop_zero] at r1
                        refine anew c' old' ⟨_, hs'⟩ hfit r1 ?_
                        rw [hs']
                        exact r2
                    · subst hl0
                      refine anew 0 [] ⟨_, hs'⟩ (by omega) (by simp; exact VRelL.nil _) ?_
                      rw [hs']
                      intro dr; simp [Builtin.firstCells, loadCells, loadCellsFrom]
                  · cases e
              · cases e
            · cases e
          · -- exact room
            rename_i hr
            have hs' : ∃ a', s' = .slice (some a') l cp ∧ (l = 0 ∨ ARel m a a') ∧ (cp ≠ 0 → ARel m a a') := by
              cases vs with
              | slOld _ _ _ hs => exact ⟨_, rfl, .inr (.inl ⟨hs, rfl⟩), fun _ => .inl ⟨hs, rfl⟩⟩
              | slPlain off _ _ hm => exact ⟨_, rfl, .inr (.inr ⟨_, _, _, _, rfl, hm, rfl⟩), fun _ => .inr ⟨_, _, _, _, rfl, hm, rfl⟩⟩
              | slEmpty => exact ⟨_, rfl, .inl rfl, fun hh => absurd rfl hh⟩
              | slExact off _ _ hm hc => exact ⟨_, rfl, .inr (.inr ⟨_, _, _, _, rfl, hm, rfl⟩), fun _ => .inr ⟨_, _, _, _, rfl, hm, rfl⟩⟩
              | slRest off _ c' hm h1 h2 => simp [isRest] at hr
              | slEnd => simp [isRest] at hr
            obtain ⟨a', hs', har0, har1⟩ := hs'
            split at e
            · rename_i hfit
              cases hw : writeN h (adda a (l * k)) new with
              | none => rw [hw] at e; cases e
              | some h2 =>
                rw [hw] at e
                simp only [Option.map_some, Option.some.injEq, Prod.mk.injEq] at e
                obtain ⟨rfl, rfl⟩ := e
                have har := har1 (by omega)
                obtain ⟨w', hst, hH, hP⟩ := writeN_sim (P := P) H hw (har.add (l * k)) rnew
                subst hs'
                rw [run_append_fits (ty := o.type) hu hU hd hk hlen (hnrun w.drawn) hfit hst]
                refine ⟨w', m, hH, hP, .inl ⟨_, rfl, ?_⟩⟩
                rcases har with ⟨hsp, rfl⟩ | ⟨tg', cb, sz, kx, hsp, hm, rfl⟩
                · exact .slOld _ _ _ hsp
                · obtain ⟨bb, off, sp⟩ := a
                  simp only at hsp hm
                  subst hsp
                  cases tg' with
                  | zero => exact .slPlain _ _ _ hm
                  | succ tg' => exact .slExact _ _ _ hm (by omega)
            · rename_i hgr
              split at e
              · rename_i old hold'
                have hnk : old.length = l * k → new.length = n * k := by
                  intro ol
                  unfold appendNew at e
                  split at e
                  · rename_i hc
                    have := hc.2.2.1
                    rw [List.length_append, ol, Nat.add_mul] at this
                    omega
                  · cases e
                by_cases hl0 : l = 0
                · subst hl0
                  rw [if_pos rfl] at hold'
                  cases hold'
                  refine news 0 cp [] new [] new' ⟨_, hs'⟩ (VRelL.nil _) rnew (by simp) (hnk (by simp)) ?_ hnrun hgr (by simpa using e)
                  rw [hs']
                  intro dr; simp [Builtin.firstCells, loadCells, loadCellsFrom]
                · rw [if_neg hl0] at hold'
                  have har := har0.resolve_left hl0
                  obtain ⟨ol, old', r1, r2⟩ := run_readN' (P := P) hold H hold' har
                  refine news l cp old new old' new' ⟨_, hs'⟩ r1 rnew ol (hnk ol) ?_ hnrun hgr e
                  rw [hs']
                  exact r2
              · cases e
        · cases e

end
end Go.Ab

/- Operations, one by one (last part), and all of them. -/
namespace Go.Ab
section
variable {P : Program} {C : Ctx} {t : List Value} {h h' : AHeap} {v : Value} {m : Mu} {w0 w : World} {ρ : Operand → Value} {o : Oper}

theorem sim_copy {c : Call} {x y : Operand} {T U E : TypeId} {k : Nat} {a1 a2 : AArg} (hold : OldOk C.old w0) (hρ : EvOk m t ρ) (H : HRel m w0 h w)
    (hcb : c.callee = .builtin .copy) (hargs : c.args = #[x, y]) (hats : c.argTypes = #[T, U]) (ho : o.op = .call c) (hu : P.underlying T = some (.slice E))
    (hk : szOf P E = some k) (ha : cArg x = some a1) (hy : cArg y = some a2)
    (e : aexec C t h (.copy k a1 a2) = some (v, h')) : OpRes m w0 h v h' ((execOp ρ o).run P w) := by
  rw [run_builtin (s := Builtin.copy_ #[T, U] o.type #[ρ x, ρ y]) hcb ho (fun _ => by rw [hargs, hats]; simp [builtin])]
  have vd := hρ _ _ ha
  have vx := hρ _ _ hy
  simp only [aexec] at e
  generalize a1.ev t = d at vd e
  generalize a2.ev t = xv at vx e
  generalize ρ x = d' at vd ⊢
  generalize ρ y = y' at vx ⊢
  have e0 : (#[T, U] : Array TypeId)[0]? = some T := rfl
  have e2 : (#[d', y'] : Array Value)[0]? = some d' := rfl
  have e3 : (#[d', y'] : Array Value)[1]? = some y' := rfl
  unfold copyV at e
  split at e
  · rename_i base dl dc n0 hn0
    obtain ⟨hlen, hshape⟩ := srcLen_rel (P := P) (w := w) hn0 vx
    have hd' : ∃ base' dc', d' = .slice base' dl dc' ∧ (∀ a, base = some a → 0 < dl → ∃ a', base' = some a' ∧ ARel m a a') := by
      cases vd with
      | slNil => exact ⟨_, _, rfl, fun a h => by cases h⟩
      | slOld a _ _ hs => exact ⟨_, _, rfl, fun a' h _ => by cases h; exact ⟨_, rfl, .inl ⟨hs, rfl⟩⟩⟩
      | slPlain off _ _ hm => exact ⟨_, _, rfl, fun a' h _ => by cases h; exact ⟨_, rfl, .inr ⟨_, _, _, _, rfl, hm, rfl⟩⟩⟩
      | slEmpty => exact ⟨_, _, rfl, fun a' h h0 => absurd h0 (by omega)⟩
      | slExact off _ _ hm _ => exact ⟨_, _, rfl, fun a' h _ => by cases h; exact ⟨_, rfl, .inr ⟨_, _, _, _, rfl, hm, rfl⟩⟩⟩
      | slRest off _ _ hm _ _ => exact ⟨_, _, rfl, fun a' h _ => by cases h; exact ⟨_, rfl, .inr ⟨_, _, _, _, rfl, hm, rfl⟩⟩⟩
      | slEnd => exact ⟨_, _, rfl, fun a' h h0 => absurd h0 (by omega)⟩
    obtain ⟨base', dc', rfl, hbase⟩ := hd'
    dsimp only at e
    split at e
    · rename_i hz
      cases e
      refine OpRes.same H (v' := .int .i64 0) ?_ (.int _ _)
      have hfc : (Builtin.firstCells k 0 y').run P w = .ok ⟨[]⟩ w := by
        rcases hshape with ⟨a, c0, rfl⟩ | ⟨s0, rfl, hs0⟩
        · cases a <;> simp [Builtin.firstCells, loadCells, loadCellsFrom]
        · simp only [Builtin.firstCells, Sem.run_pure]
          congr 1
          apply Array.ext'
          simp only [Array.toList_map]
          rw [Lib.extract_data]; simp
      have hz' : Nat.min n0 dl = 0 := hz
      cases base' <;> simp only [Builtin.copy_, e0, e2, e3, Sem.run_bind, run_under hu, Result.andThen_ok, hlen, hz', run_sizeOf hk, hfc, storeCells, Sem.run_pure, goInt] <;> rfl
    · rename_i hnz
      split at e
      · rename_i cl a hcl
        split at e
        · rename_i hclen
          cases hw : writeN h a cl with
          | none => rw [hw] at e; cases e
          | some h2 =>
            rw [hw] at e
            simp only [Option.map_some, Option.some.injEq, Prod.mk.injEq] at e
            obtain ⟨rfl, rfl⟩ := e
            obtain ⟨a', rfl, har⟩ := hbase a rfl (by omega)
            obtain ⟨c', rc, hrun⟩ := srcCells_sim (P := P) hold H hnz ⟨n0, hn0, Nat.min_le_left _ _⟩ hcl vx
            obtain ⟨w', hst, hH, hP⟩ := writeN_sim (P := P) H hw har rc
            refine ⟨w', m, hH, hP, .inl ⟨.int .i64 (min n0 dl : Nat), ?_, .int _ _⟩⟩
            have hrun' := hrun w.drawn
            have hrun2 : (Builtin.firstCells k (Nat.min n0 dl) y').run P w = .ok ⟨c'⟩ w := hrun'
            simp only [Builtin.copy_, e0, e2, e3, Sem.run_bind, run_under hu, Result.andThen_ok, hlen, run_sizeOf hk, hrun2, hst, Sem.run_pure, goInt]
        · cases e
      · cases e
  · cases e

theorem mm_rel {b : Bool} {x y x' y' u : Value} (hm : mm b x y = some u) (hx : VRel m x x') (hy : VRel m y y') : ∃ k p q, x' = .int k p ∧ (∃ k', y' = .int k' q) ∧ u = .int k (if b then (if p < q then q else p) else (if q < p then q else p)) := by
  unfold mm at hm
  split at hm
  · cases hx; cases hy; cases hm; exact ⟨_, _, _, rfl, ⟨_, rfl⟩, rfl⟩
  · cases hm

theorem bytesVals_rel {l : List UInt8} {u : List Value} (h : VRelL m (bytesVals l) u) : u = bytesVals l := by
  induction l generalizing u with
  | nil => exact h.nil_left
  | cons a l ih =>
    obtain ⟨b, u', rfl, h1, h2⟩ := h.uncons
    have := ih h2
    subst this
    cases h1
    rfl

theorem freeze_other {w : World} {cb cb' off n : Nat} (h : cb' ≠ cb) : (w.freeze ⟨cb, off, none⟩ n).heap[cb']? = w.heap[cb']? := by
  unfold World.freeze
  split
  · rfl
  · simp only [Array.getElem?_modify]
    rw [if_neg (fun e => h e.symm)]

theorem freeze_self {w : World} {cb off n e lo hi : Nat} {cc : Array Value} (h : w.heap[cb]? = some (.cells cc e (lo, hi))) :
    ∃ lo2 hi2, (w.freeze ⟨cb, off, none⟩ n).heap[cb]? = some (.cells cc e (lo2, hi2)) := by
  unfold World.freeze
  split
  · exact ⟨lo, hi, h⟩
  · simp only [Array.getElem?_modify, if_true, h, Option.map_some]
    exact ⟨_, _, rfl⟩

theorem freeze_size {w : World} {a : Addr} {n : Nat} : (w.freeze a n).heap.size = w.heap.size := by
  unfold World.freeze
  split <;> simp

theorem sim_unsafeStr {c : Call} {x y : Operand} {pt it E : TypeId} {a1 a2 : AArg} (hold : OldOk C.old w0) (hρ : EvOk m t ρ) (H : HRel m w0 h w)
    (hcb : c.callee = .builtin .unsafeString) (hargs : c.args = #[x, y]) (hats : c.argTypes = #[pt, it]) (ho : o.op = .call c) (hu : P.underlying pt = some (.pointer E)) (hr : rowOk P E = true)
    (ha : cArg x = some a1) (hy : cArg y = some a2) (e : aexec C t h (.unsafeStr E a1 a2) = some (v, h')) : OpRes m w0 h v h' ((execOp ρ o).run P w) := by
  rw [run_builtin (s := Builtin.unsafeString_ #[pt, it] o.type #[ρ x, ρ y]) hcb ho (fun _ => by rw [hargs, hats]; simp [builtin])]
  have vs := hρ _ _ ha
  have vx := hρ _ _ hy
  simp only [aexec] at e
  generalize a1.ev t = p at vs e
  generalize a2.ev t = n at vx e
  generalize ρ x = p' at vs ⊢
  generalize ρ y = n' at vx ⊢
  split at e
  · cases e
    cases vs; cases vx
    exact OpRes.same H (v' := .string .empty) (by rw [Lib.run_unsafeString_none]; rfl) (.string _)
  · rename_i b tag n0
    cases vx
    split at e
    · rename_i hn0
      cases e
      subst hn0
      cases vs with
      | ptrOld _ h1 => cases h1
      | ptrNew _ hm => exact OpRes.same H (v' := .string .empty) (by rw [Lib.run_unsafeString_none]; rfl) (.string _)
    · split at e
      · rename_i hpos
        split at e
        · rename_i l cl last fz k hl hblk
          split at e
          · cases e
          · rename_i hc
            cases e
            have hc1 : ¬ b < h.lo := fun h => hc (.inl h)
            have hc2 : fz = E + 1 := Classical.byContradiction fun h => hc (.inr (.inl h))
            cases vs with
            | ptrOld _ h1 => cases h1
            | @ptrNew _ _ cb sz kk _ hm =>
              cases hrd : readN C.old h ⟨b, 0, some tag⟩ n0.toNat with
              | none => rw [hrd] at hl; cases hl
              | some cells =>
                rw [hrd, Option.bind_some] at hl
                obtain ⟨r1, c', r2, r3⟩ := readN_sim hold H hrd (.inr ⟨_, _, _, _, rfl, hm, rfl⟩)
                have hbv := valsBytesE_spec hl
                have hcc := bytesVals_rel (hbv ▸ r2)
                subst hcc
                obtain ⟨hbl, hcl⟩ := H.lt hm
                obtain ⟨_, hb⟩ := H.blk _ _ _ _ _ hm
                rw [hblk] at hb
                obtain ⟨q1, q2, q3, q4, q5, cc, e', lo, hi, q6, q7, q8, q9, q10⟩ := hb
                have he : e' = E := by
                  have := (q10 (by omega)).1
                  exact Nat.succ.inj (this.symm.trans hc2)
                subst he
                have hlen : l.length = n0.toNat := by rw [← r1, hbv]; simp [bytesVals]
                have hsz : P.cellsOf e' = 1 := by
                  unfold rowOk at hr
                  obtain ⟨i, hi1, hi2⟩ := szOf_spec (by simpa using hr)
                  simp [Program.cellsOf, hi1, hi2]
                have hn : n0.toNat ≤ cc.size := by
                  unfold readN at hrd
                  simp only [hblk] at hrd
                  split at hrd
                  · rename_i hcnd
                    omega
                  · cases hrd
                have hcell : ∀ j x, l[j]? = some x → w.cell? ((⟨cb, 0, none⟩ : Addr).add j) = some (.int .u8 x.toNat) := by
                  intro j x hx
                  refine r3 j _ ?_
                  simp [bytesVals, hx]
                have hlim : sizeLim = 2 ^ 40 := rfl
                have hrun := Lib.run_unsafeString_row (P := P) w pt it o.type e' hu hsz cb cc.size (shape_of_heap q6) l (by
                  intro hnil
                  rw [hnil] at hlen
                  simp at hlen
                  omega) (by omega) (by omega) hcell
                have hn0 : (l.length : Int) = n0 := by omega
                rw [hn0] at hrun
                obtain ⟨g1, g2⟩ := H.change (m' := m) (blk := .grow cl last 0 k) (w' := w.freeze ⟨cb, 0, none⟩ l.length) hbl (by omega) ⟨tag, by rw [hm]; simp⟩ (fun _ _ _ h => h) (fun _ _ _ => rfl)
                  (by rw [freeze_size]; exact Nat.le_refl _) (fun i _ hne => freeze_other fun e => hne tag sz kk (e ▸ hm)) (by unfold World.freeze; split <;> rfl) (by unfold World.freeze; split <;> rfl) (by unfold World.freeze; split <;> rfl)
                  (by
                    intro t1 cb1 sz1 k1 hm1
                    refine ⟨.inl ⟨_, _, _, hm1⟩, ?_⟩
                    obtain ⟨_, hb1⟩ := H.blk _ _ _ _ _ hm1
                    rw [hblk] at hb1
                    obtain ⟨p1, p2, p3, p4, p5, xx, e2, lo2, hi2, p6, p7, p8, p9, p10⟩ := hb1
                    by_cases hcb1 : cb1 = cb
                    · subst hcb1
                      obtain ⟨lo3, hi3, hfr⟩ := freeze_self (off := 0) (n := l.length) p6
                      exact ⟨p1, p2, p3, p4, p5, xx, e2, lo3, hi3, hfr, p7, p8, p9, fun h => absurd rfl h⟩
                    · exact ⟨p1, p2, p3, p4, p5, xx, e2, lo2, hi2, by rw [freeze_other hcb1]; exact p6, p7, p8, p9, fun h => absurd rfl h⟩)
                refine ⟨_, m, g1, g2, .inl ⟨.string ⟨l.toArray⟩, ?_, .string _⟩⟩
                rw [hrun]; rfl
        · cases e
      · cases e
  · cases e

theorem sim_builtin {c : Call} {b : Builtin} (hold : OldOk C.old w0) (hρ : EvOk m t ρ) (H : HRel m w0 h w) (hcb : c.callee = .builtin b) (ho : o.op = .call c)
    (e : aexec C t h (cBlt P b o.type c.args c.argTypes) = some (v, h')) : OpRes m w0 h v h' ((execOp ρ o).run P w) := by
  have arr : ∀ {α : Type} (a : Array α) (l : List α), a.toList = l → a = l.toArray := fun a l h => by subst h; simp
  unfold cBlt at e
  split at e
  · rename_i x T hargs hats
    have hargs := arr _ _ hargs
    have hats := arr _ _ hats
    have hr := run_builtin (P := P) (w := w) (ρ := ρ) (s := Builtin.len_ #[T] o.type #[ρ x]) hcb ho (fun _ => by rw [hargs, hats]; simp [builtin])
    rw [hr]
    split at e
    · rename_i a ha hu
      simp only [aexec] at e
      split at e
      · rename_i s hs
        cases e
        have hv := hρ _ _ ha
        rw [hs] at hv
        have hX : ρ x = .string s := by generalize ρ x = Y at hv; cases hv; rfl
        exact OpRes.same H (v' := .int .i64 s.size) (by simp [Builtin.len_, run_under hu, hX, goInt]) (.int _ _)
      · cases e
    · rename_i a E ha hu
      simp only [aexec] at e
      split at e
      · rename_i ad n cp hs
        cases e
        have hv := hρ _ _ ha
        rw [hs] at hv
        have hX : ∃ ad' cp', ρ x = .slice ad' n cp' := by generalize ρ x = Y at hv; cases hv <;> exact ⟨_, _, rfl⟩
        obtain ⟨ad', cp', hX⟩ := hX
        exact OpRes.same H (v' := .int .i64 n) (by simp [Builtin.len_, run_under hu, hX, goInt]) (.int _ _)
      · cases e
    · rename_i a n E ha hu
      simp only [aexec, Option.some.injEq, Prod.mk.injEq] at e
      obtain ⟨rfl, rfl⟩ := e
      exact OpRes.same H (v' := .int .i64 n) (by cases hX : ρ x <;> simp [Builtin.len_, run_under hu, goInt]) (.int _ _)
    · rename_i a p ha hu
      split at e
      · rename_i n E hp
        simp only [aexec, Option.some.injEq, Prod.mk.injEq] at e
        obtain ⟨rfl, rfl⟩ := e
        exact OpRes.same H (v' := .int .i64 n) (by cases hX : ρ x <;> simp [Builtin.len_, run_under hu, run_under hp, goInt]) (.int _ _)
      · simp [aexec] at e
    · rename_i a kt E ha hu
      simp only [aexec] at e
      split at e
      · rename_i hs
        cases e
        have hv := hρ _ _ ha
        rw [hs] at hv
        have hX : ρ x = .map none := by generalize ρ x = Y at hv; cases hv; rfl
        exact OpRes.same H (v' := .int .i64 0) (by simp [Builtin.len_, run_under hu, hX, goInt]) (.int _ _)
      · rename_i r hs
        cases hmo : mapOf h r with
        | none => rw [hmo] at e; cases e
        | some q =>
          obtain ⟨es, cl⟩ := q
          rw [hmo] at e
          simp only [Option.map_some, Option.some.injEq, Prod.mk.injEq] at e
          obtain ⟨rfl, rfl⟩ := e
          obtain ⟨cb, sz, k', es', hX, hmm, hheap, her⟩ := map_rel H hs (hρ _ _ ha) hmo
          have hgo := run_getObj (P := P) hheap (by intro _ _ _ h; cases h)
          exact OpRes.same H (v' := .int .i64 es.length) (by simp [Builtin.len_, run_under hu, hX, hgo, goInt, her.1]) (.int _ _)
      · cases e
    · simp [aexec] at e
  · rename_i x T hargs hats
    have hargs := arr _ _ hargs
    have hats := arr _ _ hats
    split at e
    · rename_i a E ha hu
      rw [run_builtin (P := P) (w := w) (ρ := ρ) (s := Builtin.cap_ #[T] o.type #[ρ x]) hcb ho (fun _ => by rw [hargs, hats]; simp [builtin])]
      simp only [aexec] at e
      have hv := hρ _ _ ha
      have hex : P.elem T = E := by simp [Program.elem, hu]
      split at e
      · rename_i l cp hs
        cases e
        rw [hs] at hv
        have hX : ρ x = .slice none 0 0 := by generalize ρ x = Y at hv; cases hv; rfl
        refine OpRes.same H (v' := .int .i64 0) ?_ (.int _ _)
        have := run_cap_slice (P := P) w T o.type none 0 0 (by rw [hex]; exact hu)
        rw [hX, this]; rfl
      · rename_i ad l cp hs
        split at e
        · cases e
        · rename_i hr
          cases e
          rw [hs] at hv
          have hX : ∃ ad', ρ x = .slice (some ad') l cp := by
            generalize ρ x = Y at hv
            cases hv with
            | slOld => exact ⟨_, rfl⟩
            | slPlain => exact ⟨_, rfl⟩
            | slEmpty => exact ⟨_, rfl⟩
            | slExact => exact ⟨_, rfl⟩
            | slRest => simp [isRest] at hr
            | slEnd => simp [isRest] at hr
          obtain ⟨ad', hX⟩ := hX
          refine OpRes.same H (v' := .int .i64 cp) ?_ (.int _ _)
          have := run_cap_slice (P := P) w T o.type (some ad') l cp (by rw [hex]; exact hu)
          rw [hX, this]; rfl
      · cases e
    · simp [aexec] at e
  · rename_i x y T U hargs hats
    split at e
    · rename_i a b E ha hb hu
      split at e
      · rename_i k by' d z hk hby hU hz
        split at e
        · rename_i hc
          exact sim_append hold hρ H hcb (arr _ _ hargs) (arr _ _ hats) ho hu hU hc.2.2.2 hk hby hc.2.1 hc.1 hz hc.2.2.1 ha hb e
        · simp [aexec] at e
      · simp [aexec] at e
    · simp [aexec] at e
  · rename_i x y T U hargs hats
    split at e
    · rename_i a b E ha hb hu
      split at e
      · rename_i k hk
        exact sim_copy hold hρ H hcb (arr _ _ hargs) (arr _ _ hats) ho hu hk ha hb e
      · simp [aexec] at e
    · simp [aexec] at e
  · rename_i x y T U hargs hats
    split at e
    · rename_i a b kt E ha hb hu
      split at e
      · rename_i kk hk
        exact sim_mapDel hρ H hcb (arr _ _ hargs) (arr _ _ hats) ho hu hk ha hb e
      · simp [aexec] at e
    · simp [aexec] at e
  · rename_i x T hargs hats
    split at e
    · rename_i a kt E ha hu
      exact sim_mapClear hρ H hcb (arr _ _ hargs) (arr _ _ hats) ho hu ha e
    · simp [aexec] at e
  · rename_i x y hargs
    have hargs := arr _ _ hargs
    split at e
    · rename_i a b ha hb
      rw [run_builtin (P := P) (w := w) (ρ := ρ) (s := Builtin.min_ c.argTypes o.type #[ρ x, ρ y]) hcb ho (fun _ => by rw [hargs]; simp [builtin])]
      simp only [aexec] at e
      cases hm : mm false (a.ev t) (b.ev t) with
      | none => rw [hm] at e; cases e
      | some u =>
        rw [hm] at e
        simp only [Option.map_some, Option.some.injEq, Prod.mk.injEq] at e
        obtain ⟨rfl, rfl⟩ := e
        obtain ⟨k, p, q, hx, ⟨k', hy⟩, rfl⟩ := mm_rel hm (hρ _ _ ha) (hρ _ _ hb)
        exact OpRes.same H (by rw [hx, hy]; simp [Builtin.min_, Builtin.min2]) (.int _ _)
    · simp [aexec] at e
  · rename_i x y z hargs
    have hargs := arr _ _ hargs
    split at e
    · rename_i a b d ha hb hd
      rw [run_builtin (P := P) (w := w) (ρ := ρ) (s := Builtin.min_ c.argTypes o.type #[ρ x, ρ y, ρ z]) hcb ho (fun _ => by rw [hargs]; simp [builtin])]
      simp only [aexec] at e
      cases hm : mm false (a.ev t) (b.ev t) with
      | none => rw [hm] at e; cases e
      | some u =>
        rw [hm] at e
        simp only [Option.bind_some] at e
        cases hm2 : mm false u (d.ev t) with
        | none => rw [hm2] at e; cases e
        | some u2 =>
          rw [hm2] at e
          simp only [Option.map_some, Option.some.injEq, Prod.mk.injEq] at e
          obtain ⟨rfl, rfl⟩ := e
          obtain ⟨k, p, q, hx, ⟨k', hy⟩, rfl⟩ := mm_rel hm (hρ _ _ ha) (hρ _ _ hb)
          obtain ⟨k2, p2, q2, hx2, ⟨k3, hz⟩, rfl⟩ := mm_rel hm2 (VRel.int _ _) (hρ _ _ hd)
          cases hx2
          exact OpRes.same H (by rw [hx, hy, hz]; simp [Builtin.min_, Builtin.min2]) (.int _ _)
    · simp [aexec] at e
  · rename_i x y hargs
    have hargs := arr _ _ hargs
    split at e
    · rename_i a b ha hb
      rw [run_builtin (P := P) (w := w) (ρ := ρ) (s := Builtin.max_ c.argTypes o.type #[ρ x, ρ y]) hcb ho (fun _ => by rw [hargs]; simp [builtin])]
      simp only [aexec] at e
      cases hm : mm true (a.ev t) (b.ev t) with
      | none => rw [hm] at e; cases e
      | some u =>
        rw [hm] at e
        simp only [Option.map_some, Option.some.injEq, Prod.mk.injEq] at e
        obtain ⟨rfl, rfl⟩ := e
        obtain ⟨k, p, q, hx, ⟨k', hy⟩, rfl⟩ := mm_rel hm (hρ _ _ ha) (hρ _ _ hb)
        exact OpRes.same H (by rw [hx, hy]; simp [Builtin.max_, Builtin.max2]) (.int _ _)
    · simp [aexec] at e
  · rename_i x hargs
    have hargs := arr _ _ hargs
    split at e
    · rename_i a ha
      rw [run_builtin (P := P) (w := w) (ρ := ρ) (s := Builtin.unsafeSliceData_ c.argTypes o.type #[ρ x]) hcb ho (fun _ => by rw [hargs]; simp [builtin])]
      simp only [aexec] at e
      have hv := hρ _ _ ha
      split at e
      · rename_i l cp hs
        cases e
        rw [hs] at hv
        have hX : ρ x = .slice none 0 0 := by generalize ρ x = Y at hv; cases hv; rfl
        exact OpRes.same H (v' := .pointer none) (by rw [hX]; rfl) .ptrNil
      · rename_i ad l cp hs
        rw [hs] at hv
        have fin : ∀ (a' : Addr) (c' : Nat), ρ x = .slice (some a') l c' → c' ≠ 0 → ARel m ad a' → OpRes m w0 h (.pointer (some ad)) h (((Builtin.unsafeSliceData_ c.argTypes o.type #[ρ x]).run P w).andThen fun v w' => .ok (.value v) w') := by
          intro a' c' hX hc har
          refine OpRes.same H (v' := .pointer (some a')) ?_ har.ptr
          rw [hX]
          have hq : (Builtin.unsafeSliceData_ c.argTypes o.type #[.slice (some a') l c']).run P w = .ok (.pointer (some a')) w := by
            unfold Builtin.unsafeSliceData_
            show (Sem.run P (if c' ≠ 0 then pure (Value.pointer (some a')) else _) w) = _
            rw [if_pos hc]
            rfl
          rw [hq]; rfl
        split at e
        · rename_i hr
          split at e
          · rename_i htag
            cases e
            generalize ρ x = Y at hv fin
            cases hv with
            | slOld _ _ _ hs => simp [isRest, hs] at hr
            | slPlain => simp [isRest] at hr
            | slEmpty => simp [isRest] at hr
            | slExact off _ _ hm hc => simp [isRest, hc] at hr
            | @slRest b t' cb sz k off _ c' hm h1 h2 =>
              refine fin _ _ rfl ?_ (.inr ⟨_, _, _, _, rfl, hm, rfl⟩)
              intro hc0
              subst hc0
              obtain ⟨_, hb⟩ := H.blk _ _ _ _ _ hm
              simp only [tagOf, Option.getD_some] at htag
              cases hx : h.bs[b]? with
              | none => rw [hx] at hb; exact hb.elim
              | some blk =>
                rw [hx] at hb
                cases blk with
                | grow cl last fz kk =>
                  obtain ⟨q1, _, _, _, _, _, _, _, _, _, _, q2, _⟩ := hb
                  omega
                | cells => exact absurd hb.1 (by omega)
                | map => exact absurd hb.1 (by omega)
                | siter => exact absurd hb.1 (by omega)
                | loop => exact absurd hb.1 (by omega)
                | dfr => exact absurd hb.1 (by omega)
                | hole => exact hb.elim
            | @slEnd b t' cb sz k off a' hm h1 =>
              exfalso
              obtain ⟨_, hb⟩ := H.blk _ _ _ _ _ hm
              simp only [tagOf, Option.getD_some] at htag
              cases hx : h.bs[b]? with
              | none => rw [hx] at hb; exact hb.elim
              | some blk =>
                rw [hx] at hb
                cases blk with
                | grow cl last fz kk =>
                  obtain ⟨q1, _, _, _, _, _, _, _, _, _, _, q2, _⟩ := hb
                  omega
                | cells => exact absurd hb.1 (by omega)
                | map => exact absurd hb.1 (by omega)
                | siter => exact absurd hb.1 (by omega)
                | loop => exact absurd hb.1 (by omega)
                | dfr => exact absurd hb.1 (by omega)
                | hole => exact hb.elim
          · cases e
        · rename_i hr
          split at e
          · cases e
          · rename_i hc0
            cases e
            generalize ρ x = Y at hv fin
            cases hv with
            | slOld _ _ _ hs => exact fin _ _ rfl hc0 (.inl ⟨hs, rfl⟩)
            | slPlain off _ _ hm => exact fin _ _ rfl hc0 (.inr ⟨_, _, _, _, rfl, hm, rfl⟩)
            | slEmpty => exact absurd rfl hc0
            | slExact off _ _ hm hc => exact fin _ _ rfl hc0 (.inr ⟨_, _, _, _, rfl, hm, rfl⟩)
            | slRest => simp [isRest] at hr
            | slEnd => simp [isRest] at hr
      · cases e
    · simp [aexec] at e
  · rename_i p n T U hargs hats
    have hargs := arr _ _ hargs
    have hats := arr _ _ hats
    split at e
    · rename_i a b E ha hb hu
      split at e
      · rename_i hr
        exact sim_unsafeStr hold hρ H hcb hargs hats ho hu hr ha hb e
      · simp [aexec] at e
    · simp [aexec] at e
  · simp [aexec] at e

/-- every operation that calls nobody -/
theorem op_sim (hold : OldOk C.old w0) (hlies : LiesOk P C) (hρ : EvOk m t ρ) (H : HRel m w0 h w) (e : aexec C t h (cOp P o) = some (v, h')) :
    OpRes m w0 h v h' ((execOp ρ o).run P w) := by
  cases ho : o.op with
  | move x => exact sim_move hρ H (.inl ho) e
  | assign x => exact sim_move hρ H (.inr ho) e
  | pick c a b => exact sim_pick hρ H ho e
  | alloc ty => exact sim_alloc H ho e
  | box ty x => exact sim_box hρ H ho e
  | build ty ps => exact sim_build hρ H ho e
  | buildSlice ty l ps => exact sim_buildSlice hρ H ho e
  | insert T a k x => exact sim_mapUpd hρ H (.inr ho) e
  | load ty x => exact sim_load hold hρ H ho e
  | store ty x y => exact sim_store hρ H ho e
  | nilCheck x => exact sim_nilCheck hρ H ho e
  | binOp op T x y T' => exact sim_bin hρ H ho e
  | unOp op T x => exact sim_un hρ H ho e
  | convert S D x => exact sim_conv hold hlies hρ H ho e
  | makeInterface T x => exact sim_mkIface hρ H ho e
  | makeFunc fn a b =>
    cases fn with
    | func f => exact sim_mkFunc hρ H ho e
    | _ => unfold cOp at e; rw [ho] at e; simp [aexec] at e
  | makeMap T r =>
    cases r with
    | none => exact sim_mkMap H ho e
    | some r => unfold cOp at e; rw [ho] at e; simp [aexec] at e
  | makeSlice T x y => exact sim_mkSlice hρ H ho e
  | slice T x lo hi mx =>
    have e' := e
    unfold cOp at e
    rw [ho] at e
    simp only at e
    split at e
    · rename_i a al ah hu ha hl hh hm
      exact sim_sliceStr hρ H ho hu ha hl hh hm e
    · rename_i E a al ah am hu ha hl hh hm
      split at e
      · rename_i k hk
        split at e
        · simp [aexec] at e
        · rename_i hmh
          exact sim_sliceSl hρ H ho hu hk ha hl hh hm (by cases am <;> cases ah <;> simp_all) e
      · simp [aexec] at e
    · rename_i n E a al ah am hu ha hl hh hm
      split at e
      · rename_i k hk
        split at e
        · simp [aexec] at e
        · rename_i hmh
          exact sim_sliceArr hρ H ho hu hk ha hl hh hm (by cases am <;> cases ah <;> simp_all) e
      · simp [aexec] at e
    · simp [aexec] at e
  | fieldAddr T x f => exact sim_fieldAddr hρ H ho e
  | field T x f => exact sim_field hρ H ho e
  | indexAddr T x i => exact sim_indexAddr hρ H ho e
  | index T x i => exact sim_index hρ H ho e
  | lookup T x y ok => exact sim_lookup hρ H ho e
  | mapUpdate T x y z => exact sim_mapUpd hρ H (.inl ho) e
  | range T x => exact sim_range hρ H ho e
  | next it s =>
    cases s with
    | true => exact sim_next hρ H ho e
    | false => unfold cOp at e; rw [ho] at e; simp [aexec] at e
  | typeAssert x T' T ok => exact sim_tassert hρ H ho e
  | extract x i => exact sim_extract hρ H ho e
  | call c =>
    cases hcb : c.callee with
    | builtin b =>
      have hc : cOp P o = cBlt P b o.type c.args c.argTypes := by
        unfold cOp; rw [ho]; simp only [cCall, hcb]; cases cArgs c.args <;> rfl
      rw [hc] at e
      exact sim_builtin hold hρ H hcb ho e
    | value f =>
      exfalso
      have hc : cOp P o = cCall P c o.type false := by unfold cOp; rw [ho]
      rw [hc] at e
      unfold cCall at e
      rw [hcb] at e
      cases hA : cArgs c.args with
      | none => rw [hA] at e; cases f <;> simp [aexec] at e
      | some l =>
        rw [hA] at e
        cases f with
        | func g => by_cases hg : g < fYield <;> simp [hg, aexec] at e
        | tmp x => simp [cArg, aexec] at e
        | const x =>
          simp only [cArg] at e
          by_cases hx : constOk x = true
          · rw [if_pos hx] at e; simp [aexec] at e
          · rw [if_neg hx] at e; simp [aexec] at e
        | global g => simp [cArg, aexec] at e
    | invoke r name =>
      exfalso
      have hc : cOp P o = cCall P c o.type false := by unfold cOp; rw [ho]
      rw [hc] at e
      unfold cCall at e
      rw [hcb] at e
      cases hA : cArgs c.args with
      | none => rw [hA] at e; simp [aexec] at e
      | some l =>
        rw [hA] at e
        simp only at e
        cases hr : cArg r with
        | none => rw [hr] at e; simp [aexec] at e
        | some a => rw [hr] at e; simp [aexec] at e
  | defer c =>
    exfalso
    have hc : cOp P o = cCall P c o.type true := by unfold cOp; rw [ho]
    rw [hc] at e
    unfold cCall at e
    cases hcb : c.callee with
    | builtin b => rw [hcb] at e; cases hA : cArgs c.args <;> rw [hA] at e <;> simp [aexec] at e
    | value f =>
      rw [hcb] at e
      cases hA : cArgs c.args with
      | none => rw [hA] at e; cases f <;> simp [aexec] at e
      | some l =>
        rw [hA] at e
        cases f with
        | func g => by_cases hg : g < fYield <;> simp [hg, aexec] at e
        | tmp x => simp [cArg, aexec] at e
        | const x =>
          simp only [cArg] at e
          by_cases hx : constOk x = true
          · rw [if_pos hx] at e; simp [aexec] at e
          · rw [if_neg hx] at e; simp [aexec] at e
        | global g => simp [cArg, aexec] at e
    | invoke r name =>
      rw [hcb] at e
      cases hA : cArgs c.args with
      | none => rw [hA] at e; simp [aexec] at e
      | some l =>
        rw [hA] at e
        simp only at e
        cases hr : cArg r with
        | none => rw [hr] at e; simp [aexec] at e
        | some a => rw [hr] at e; simp [aexec] at e
  | _ => unfold cOp at e; rw [ho] at e; simp [aexec] at e

end
end Go.Ab
