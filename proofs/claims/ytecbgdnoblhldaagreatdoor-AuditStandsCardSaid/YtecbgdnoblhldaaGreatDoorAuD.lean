/-
  Steps of the proof of AuditStandsCardSaid: what functions of the program do in the abstract machine, and the laws between; no condition beside those that each theorem names.
-/
import Derived.Test.YtecbgdnoblhldaaGreatDoorAuC
import Derived.Test.YtecbgdnoblhldaaGreatDoorAuB
import Derived.Test.YtecbgdnoblhldaaGreatDoorAbD
import Derived.Test.YtecbgdnoblhldaaGreatDoorChecked
import Derived.WalkKit
import Derived.ProofKit

set_option linter.unusedSimpArgs false
set_option linter.unusedVariables false
set_option linter.unusedSectionVars false

namespace Go.Ab.Aud
open Go.Sha
variable {C : Ctx} (T : Tab_LLog C) (TS : Tab_LStan C) (TD : Tab_LDig C) (TW : Tab_LLaw C) (hk : ∀ j, j < 64 → C.old 0 j = some (wv (kW j))) (hp : ∀ j, j < 16 → C.old 1 j = some (wv (crcW j)))
include T TS TD TW hk hp
set_option maxHeartbeats 4000000 in
theorem la_off (hY : C.T fYield = none) {G : AHeap} {t : List Value} {q ab d p : Nat} {rv tv : Value} {za zk zg : Int} {okv : Value} {rows : List (List UInt8)} {O : Nat → Prop}
    (H : LA C G t q ab d p rv tv za zk zg okv rows O) (rowsA : List (List UInt8)) (HR : ArgR C.old rv rowsA) (fv : Value) (left : Int) (i wr : Nat) (hi : i < rowsA.length) (h40 : i < 40) (hri : rows.length ≤ i) (t8 : tg t 8 = fv) (t9 : tg t 9 = .bool false) (t10 : tg t 10 = zv left) (t11 : tg t 11 = iv i)
    (hl : ¬ 16384 < (rowsA.getD i []).length) (hn : ¬ lft2' left (rowsA.getD i []) < 0) (LG : LogAt G O p d (iv 1) (zv zk) false false 0 ((rows.map frame).flatten).length nmAudit ((rows.map frame).flatten) rows 4194304 wr) (hwr : wr ≤ 100)
    (hfv : isUnd fv = false) (hN : ∀ h, D C 147 [str nmAudit] h = some (.bool true, h)) :
    ∃ G' t' O' x, (∀ K, R C r9 (.inLoop lp9_0 :: .inBlock 0 :: K) t [] G = R C r9 (.inLoop lp9_0 :: .inBlock 0 :: K) t' [] G') ∧ LA C G' t' q ab d p rv tv za zk zg okv rows O' ∧
      LogAt G' O' p d (iv 0) (zv zk) true true 94 ((rows.map frame).flatten).length nmAudit ((rows.map frame).flatten ++ (frame (rowsA.getD i [])).take (kept zk ((rowsA.getD i []).length + 13))) rows 4194304 (wr + 1) ∧
      Fr G G' (fun j => q ≤ j) ∧ tg t' 8 = x ∧ ArgB C.old x (rowsA.getD i []) ∧ tg t' 9 = .bool true ∧ tg t' 11 = iv (i + 1) := by
  obtain ⟨a', cp', a, cp, hv, r1, s1, nl⟩ := HR.get hi
  have t1 := H.t1
  have t3 := H.t3
  have t5 := H.t5
  have t7 := H.t7
  have hca := H.ca
  have e1 : abin .sub (zv left) (iv (rowsA.getD i []).length) = some (zv (IntKind.i64.wrap (left - (rowsA.getD i []).length))) := zv_subw
  have e2 : abin .sub (zv (IntKind.i64.wrap (left - (rowsA.getD i []).length))) (iv 100) = some (zv (lft2' left (rowsA.getD i []))) := zv_subw
  have e3 : abin .lss (zv (lft2' left (rowsA.getD i []))) (iv 0) = some (.bool (decide (lft2' left (rowsA.getD i []) < 0))) := zv_lss
  generalize lft2' left (rowsA.getD i []) = l2 at *
  generalize rowsA.getD i [] = r at *
  have urv : isUnd rv = false := by rw [hv]; rfl
  have hF := flen H.r16
  obtain ⟨h1, vc, ec, o1, f1, b1⟩ := copy_spec TW G r a r.length cp (s1 G) (by omega) H.wf
  obtain ⟨ac, cpc, hvc⟩ := o1.slice
  have sc := o1.sl (old := C.old) (by omega)
  rw [hvc] at sc ec
  have l1 := f1.len
  have g1 := f1.lo
  have wf := H.wf
  have LG1 := LG.fr f1 (fun _ _ h => h)
  have HA1 := H.mem0 f1
  obtain ⟨h2, ea, LG2, f2⟩ := audit_appendO T hp hY h1 O p d 4194304 wr zk nmAudit ((rows.map frame).flatten) rows r ac r.length cpc LG1 sc (fun j hj hOj => by
    have := b1 j (by rw [hvc]; rw [hvc] at o1; exact o1.live hj); have := H.ol j hOj; omega) (by omega) (by omega) (by omega) (by omega) (by omega) (by omega) hN
  have HA2 := HA1.mem f2
  have hx : ArgB C.old (.slice a r.length cp) r := ⟨a, cp, rfl, s1, nl⟩
  have uo : isUnd okv = false := by obtain ⟨cs, oc, _⟩ := HA1.ok; exact oc.und
  have hca2 := HA2.ca
  have q0 : rd1 (some (.cells [rv, zv za, zv zk, zv zg, tv] 113)) 0 0 = some rv := rfl
  rw [hv] at q0
  have hca' := hca
  have hca2' := hca2
  rw [hv] at hca' hca2'
  have eE := err_spec T h2 _ p d 4194304 _ _ _ _ _ _ _ nmAudit _ rows LG2
  have eO := off_log T TS h2 _ p d 4194304 _ _ _ _ _ _ _ nmAudit _ rows LG2
  have ek : ∃ t', (∀ K, R C r9 (.inLoop lp9_0 :: .inBlock 0 :: K) t [] G = R C r9 (.inLoop lp9_0 :: .inBlock 0 :: K) t' [] h2) ∧ tg t' 1 = tg t 1 ∧ tg t' 3 = tg t 3 ∧ tg t' 5 = tg t 5 ∧ tg t' 7 = tg t 7 ∧ tg t' 8 = .slice a r.length cp ∧ tg t' 9 = .bool true ∧ tg t' 11 = iv (i + 1) := by
    refine ex_step (fun k => R_open lp9_0.eq_1) ?_
    simp [t1, t3, t5, t7, t8, t9, t10, t11, hca', q0, hi, h40, ixS_iv hi, r1 G, r1 h2, e1, e2, e3, stp_ok zv_und, zv_und, hl, hn, Dc_ok, ec, ea, num_spec TW, hca2', eE, eO, iv_add (a := i) (b := 1) (by omega)]
    exact ⟨_, fun _ => rfl, by simp [t1], by simp [t3], by simp [t5], by simp [t7], by simp, by simp, by simp⟩
  obtain ⟨t', e, u1, u3, u5, u7, u8, u9, u11⟩ := ek
  exact ⟨h2, t', _, _, e, HA2.tmp u1 u3 u5 u7, LG2, f1.trans f2 (fun _ h => h.elim) (fun j hj _ => H.oq j hj), u8, hx, u9, u11⟩
set_option maxHeartbeats 4000000 in
theorem la_loop (hY : C.T fYield = none) (q ab d p : Nat) (rv tv : Value) (za zk zg : Int) (rowsA : List (List UInt8)) (HR : ArgR C.old rv rowsA) (hN : ∀ h, D C 147 [str nmAudit] h = some (.bool true, h)) :
    ∀ (k i : Nat) (G : AHeap) (t : List Value) (okv fv : Value) (rows : List (List UInt8)) (fl : List UInt8) (O : Nat → Prop) (left : Int) (ar wr : Nat), i + k = 40 → LA C G t q ab d p rv tv za zk zg okv rows O → rows.length ≤ i → tg t 8 = fv → ArgB C.old fv fl → fl.length ≤ 16384 → tg t 9 = .bool false → tg t 10 = zv left → tg t 11 = iv i →
      LogAt G O p d (iv ar) (zv zk) false false 0 ((rows.map frame).flatten).length nmAudit ((rows.map frame).flatten) rows 4194304 wr → 1 ≤ ar → ar ≤ 100 → wr ≤ i + 1 →
      ∃ G' t' okv' rows' O' wr' off fv' fl', (∀ K, R C r9 (.inLoop lp9_0 :: .inBlock 0 :: K) t [] G = R C r9 K t' [] G') ∧ LA C G' t' q ab d p rv tv za zk zg okv' rows' O' ∧ rows'.length ≤ 40 ∧ wr' ≤ 42 ∧ Fr G G' (fun j => q ≤ j) ∧
        tg t' 8 = fv' ∧ ArgB C.old fv' fl' ∧ fl'.length ≤ 16384 ∧ tg t' 9 = .bool off ∧
        (off = false → ∃ ar', ar' ≤ 100 ∧ LogAt G' O' p d (iv ar') (zv zk) false false 0 ((rows'.map frame).flatten).length nmAudit ((rows'.map frame).flatten) rows' 4194304 wr') ∧
        (off = true → LogAt G' O' p d (iv 0) (zv zk) true true 94 ((rows'.map frame).flatten).length nmAudit ((rows'.map frame).flatten ++ (frame fl').take (kept zk (fl'.length + 13))) rows' 4194304 wr') := by
  intro k
  induction k with
  | zero =>
    intro i G t okv fv rows fl O left ar wr hi H hri t8 hfv hfl t9 t10 t11 LG ha1 ha2 hwr
    obtain rfl : i = 40 := by omega
    obtain ⟨a, cp, vs, hv, _⟩ := HR
    have t1 := H.t1
    have hca := H.ca
    have urv : isUnd rv = false := by rw [hv]; rfl
    have lrv : lenV rv = some (iv rowsA.length) := by rw [hv]; rfl
    have q0 : rd1 (some (.cells [rv, zv za, zv zk, zv zg, tv] 113)) 0 0 = some rv := rfl
    have e : ∃ t', (∀ K, R C r9 (.inLoop lp9_0 :: .inBlock 0 :: K) t [] G = R C r9 K t' [] G) ∧ tg t' 1 = tg t 1 ∧ tg t' 3 = tg t 3 ∧ tg t' 5 = tg t 5 ∧ tg t' 7 = tg t 7 ∧ tg t' 8 = tg t 8 ∧ tg t' 9 = tg t 9 := by
      refine ex_step (fun k => R_open lp9_0.eq_1) ?_
      by_cases hlt : 40 < rowsA.length
      · simp [t1, t9, t11, hca, q0, stp_ok urv, urv, lrv, hlt]
        exact ⟨_, fun _ => rfl, by simp [t1], by simp, by simp, by simp, by simp, by simp [t9]⟩
      · simp [t1, t9, t11, hca, q0, stp_ok urv, urv, lrv, hlt]
        exact ⟨_, fun _ => rfl, by simp [t1], by simp, by simp, by simp, by simp, by simp [t9]⟩
    obtain ⟨t', e, u1, u3, u5, u7, u8, u9⟩ := e
    exact ⟨G, t', okv, rows, O, wr, false, fv, fl, e, H.tmp u1 u3 u5 u7, by omega, by omega, Fr.refl _ _, u8.trans t8, hfv, hfl, u9.trans t9, fun _ => ⟨ar, ha2, LG⟩, fun h => by cases h⟩
  | succ k ih =>
    intro i G t okv fv rows fl O left ar wr hi H hri t8 hfv hfl t9 t10 t11 LG ha1 ha2 hwr
    by_cases hlt : i < rowsA.length
    · by_cases hs : 16384 < (rowsA.getD i []).length ∨ lft2' left (rowsA.getD i []) < 0
      · obtain ⟨t', e, u1, u3, u5, u7, u8, u9, u10, u11⟩ := la_skip H rowsA HR fv left i hlt (by omega) t8 t9 t10 t11 hs
        obtain ⟨G', t2, okv', rows', O', wr', off, fv', fl', x1, x2, x3, x4, x5, x6⟩ := ih (i + 1) G t' okv fv rows fl O _ ar wr (by omega) (H.tmp u1 u3 u5 u7) (by omega) (u8.trans t8) hfv hfl (u9.trans t9) u10 u11 LG ha1 ha2 (by omega)
        exact ⟨G', t2, okv', rows', O', wr', off, fv', fl', fun K => (e K).trans (x1 K), x2, x3, x4, x5, x6⟩
      · have hl : ¬ 16384 < (rowsA.getD i []).length := fun h => hs (.inl h)
        have hn : ¬ lft2' left (rowsA.getD i []) < 0 := fun h => hs (.inr h)
        have ufv : isUnd fv = false := hfv.und
        by_cases har : ar = 1
        · subst har
          obtain ⟨G', t', O', x, e, H', LG', f', u8, hx, u9, u11⟩ := la_off T TS TD TW hk hp hY H rowsA HR fv left i wr hlt (by omega) hri t8 t9 t10 t11 hl hn LG (by omega) ufv hN
          generalize rowsA.getD i [] = r at *
          -- one look more: it is off
          obtain ⟨a, cp, vs, hv, _⟩ := HR
          have t1 := H'.t1
          have hca := H'.ca
          have urv : isUnd rv = false := by rw [hv]; rfl
          have lrv : lenV rv = some (iv rowsA.length) := by rw [hv]; rfl
          have q0 : rd1 (some (.cells [rv, zv za, zv zk, zv zg, tv] 113)) 0 0 = some rv := rfl
          have e2 : ∃ t2, (∀ K, R C r9 (.inLoop lp9_0 :: .inBlock 0 :: K) t' [] G' = R C r9 K t2 [] G') ∧ tg t2 1 = tg t' 1 ∧ tg t2 3 = tg t' 3 ∧ tg t2 5 = tg t' 5 ∧ tg t2 7 = tg t' 7 ∧ tg t2 8 = tg t' 8 ∧ tg t2 9 = tg t' 9 := by
            refine ex_step (fun k => R_open lp9_0.eq_1) ?_
            by_cases h1 : i + 1 < rowsA.length
            · by_cases h2 : i + 1 < 40
              · simp [t1, u9, u11, hca, q0, stp_ok urv, urv, lrv, h1, h2]
                exact ⟨_, fun _ => rfl, by simp [t1], by simp, by simp, by simp, by simp, by simp [u9]⟩
              · simp [t1, u9, u11, hca, q0, stp_ok urv, urv, lrv, h1, h2]
                exact ⟨_, fun _ => rfl, by simp [t1], by simp, by simp, by simp, by simp, by simp [u9]⟩
            · simp [t1, u9, u11, hca, q0, stp_ok urv, urv, lrv, h1]
              exact ⟨_, fun _ => rfl, by simp [t1], by simp, by simp, by simp, by simp, by simp [u9]⟩
          obtain ⟨t2, e2, w1, w3, w5, w7, w8, w9⟩ := e2
          exact ⟨G', t2, okv, rows, O', wr + 1, true, x, r, fun K => (e K).trans (e2 K), H'.tmp w1 w3 w5 w7, by omega, by omega, f', w8.trans u8, hx, by omega, w9.trans u9, (fun h => by cases h), fun _ => LG'⟩
        · obtain ⟨G', t', okv', O', e, H', LG', f', u8, u9, u10, u11⟩ := la_ok T TD TW hk hp H rowsA HR fv left i ar wr hlt (by omega) hri t8 t9 t10 t11 hl hn LG har ha2 (by omega) ufv hN
          obtain ⟨G2, t2, okv2, rows2, O2, wr2, off, fv', fl', x1, x2, x3, x4, x5, x6⟩ := ih (i + 1) G' t' okv' fv _ fl O' _ (ar - 1) (wr + 1) (by omega) H' (by simp; omega) (u8.trans t8) hfv hfl (u9.trans t9) u10 u11 LG' (by omega) (by omega) (by omega)
          exact ⟨G2, t2, okv2, rows2, O2, wr2, off, fv', fl', fun K => (e K).trans (x1 K), x2, x3, x4, f'.trans x5 (fun _ h => h) (fun _ h _ => h), x6⟩
    · obtain ⟨a, cp, vs, hv, _⟩ := HR
      have t1 := H.t1
      have hca := H.ca
      have urv : isUnd rv = false := by rw [hv]; rfl
      have lrv : lenV rv = some (iv rowsA.length) := by rw [hv]; rfl
      have q0 : rd1 (some (.cells [rv, zv za, zv zk, zv zg, tv] 113)) 0 0 = some rv := rfl
      have e : ∃ t', (∀ K, R C r9 (.inLoop lp9_0 :: .inBlock 0 :: K) t [] G = R C r9 K t' [] G) ∧ tg t' 1 = tg t 1 ∧ tg t' 3 = tg t 3 ∧ tg t' 5 = tg t 5 ∧ tg t' 7 = tg t 7 ∧ tg t' 8 = tg t 8 ∧ tg t' 9 = tg t 9 := by
        refine ex_step (fun k => R_open lp9_0.eq_1) ?_
        simp [t1, t9, t11, hca, q0, stp_ok urv, urv, lrv, hlt]
        exact ⟨_, fun _ => rfl, by simp [t1], by simp, by simp, by simp, by simp, by simp [t9]⟩
      obtain ⟨t', e, u1, u3, u5, u7, u8, u9⟩ := e
      exact ⟨G, t', okv, rows, O, wr, false, fv, fl, e, H.tmp u1 u3 u5 u7, by omega, by omega, Fr.refl _ _, u8.trans t8, hfv, hfl, u9.trans t9, fun _ => ⟨ar, ha2, LG⟩, fun h => by cases h⟩
end Go.Ab.Aud

namespace Go.Ab.Aud
open Go.Sha
def ka1 : ACode := s2 k9_1
def ka2 : ACode := s2 ka1
def ka3 : ACode := s2 ka2
def ka4 : ACode := s2 ka3
def ka5 : ACode := s2 ka4
def ka6 : ACode := s2 ka5
theorem k91_e : k9_1 = .seq (s1 k9_1) (.seq (s1 ka1) (.seq (s1 ka2) (.seq (s1 ka3) (.seq (s1 ka4) (.seq (s1 ka5) ka6))))) := rfl
/-- the rows that stand behind a power that went -/
def rowsB (off : Bool) (zk : Int) (fl : List UInt8) (rows : List (List UInt8)) : List (List UInt8) := if off = true ∧ (fl.length + 13 : Int) ≤ zk then rows ++ [fl] else rows
theorem torn_cases (zk : Int) (fl : List UInt8) (rows : List (List UInt8)) (hf : fl.length ≤ 16384) : ∃ tl, (rows.map frame).flatten ++ (frame fl).take (kept zk (fl.length + 13)) = ((rowsB true zk fl rows).map frame).flatten ++ tl ∧ (tl = [] ∨ Torn tl) ∧ tl.length ≤ 16397 := by
  unfold rowsB
  by_cases hk : (fl.length + 13 : Int) ≤ zk
  · rw [if_pos ⟨rfl, hk⟩]
    have : kept zk (fl.length + 13) = fl.length + 13 := by unfold kept; omega
    rw [this]
    refine ⟨[], ?_, .inl rfl, by simp⟩
    rw [fapp, List.append_nil, List.take_of_length_le (by rw [frame_length]; omega)]
  · rw [if_neg (fun h => hk h.2)]
    refine ⟨_, rfl, ?_, by rw [List.length_take, frame_length]; omega⟩
    by_cases h0 : kept zk (fl.length + 13) = 0
    · left; rw [h0]; rfl
    · right
      refine ⟨fl, _, rfl, by omega, ?_, hf⟩
      unfold kept at *; omega
theorem aeq_nilPn : aeq .nilP (.pointer none) (.pointer none) = some true := nr rfl
theorem LA.sub {C : Ctx} {G : AHeap} {t : List Value} {q ab d p : Nat} {rv tv : Value} {za zk zg : Int} {okv : Value} {rows : List (List UInt8)} {O O2 : Nat → Prop} (H : LA C G t q ab d p rv tv za zk zg okv rows O) (h : ∀ j, O2 j → O j) : LA C G t q ab d p rv tv za zk zg okv rows O2 :=
  ⟨H.ca, H.abq, H.ok, fun j hj => ⟨(H.okO j hj).1, fun hc => (H.okO j hj).2 (h j hc)⟩, fun j hj => H.oq j (h j hj), fun j hj => H.ol j (h j hj), H.hq, H.wf, H.r16, H.t1, H.t3, H.t5, H.t7⟩
variable {C : Ctx} (T : Tab_LLog C) (TS : Tab_LStan C) (TO : Tab_LOpen C) (TG : Tab_LGrow C) (TD : Tab_LDig C) (TW : Tab_LLaw C) (hk : ∀ j, j < 64 → C.old 0 j = some (wv (kW j))) (hp : ∀ j, j < 16 → C.old 1 j = some (wv (crcW j)))
include T TS TO TG TD TW hk hp
set_option maxHeartbeats 8000000 in
/-- the head; the power comes back; the log is opened, maybe twice -/
theorem stands_open {G : AHeap} {t : List Value} {q ab d p : Nat} {rv tv : Value} {za zk zg : Int} {okv : Value} {rows : List (List UInt8)} {O : Nat → Prop} {wr err : Nat} {arm : Value} {off woff : Bool} {content tl : List UInt8} {rows2 : List (List UInt8)}
    (H : LA C G t q ab d p rv tv za zk zg okv rows O) (hrl : rows.length ≤ 40) (hwr : wr ≤ 100) (LG : LogAt G O p d arm (zv zk) off woff err ((rows.map frame).flatten).length nmAudit content rows 4194304 wr)
    (hc : content = (rows2.map frame).flatten ++ tl) (htl : tl = [] ∨ Torn tl) (htl2 : tl.length ≤ 16397) (h16 : ∀ r, r ∈ rows2 → r.length ≤ 16384) (hr2 : rows2.length ≤ 41)
    (hN : ∀ h, D C 147 [str nmAudit] h = some (.bool true, h)) :
    ∃ G' t' O' p2 ar' wr' hb, (∀ K, R C r9 (.code k9_1 :: K) t [] G = R C r9 (.code ka6 :: K) t' [] G') ∧ LA C G' t' q ab d p2 rv tv za zk zg okv rows O' ∧
      LogAt G' O' p2 d (iv ar') (zv zk) false false 0 ((rows2.map frame).flatten).length nmAudit ((rows2.map frame).flatten) rows2 4194304 wr' ∧ wr' ≤ 103 ∧ Fr G G' (fun j => q ≤ j) ∧
      tg t' 6 = iv 0 ∧ tg t' 8 = tg t 8 ∧ tg t' 9 = tg t 9 ∧ tg t' 14 = .pointer (some ⟨hb, 0, some 0⟩) ∧ G'.at hb = some (.cells (uv rows.length :: bytesVals (rootL (rows.map lh))) 36) ∧ q ≤ hb ∧ ¬ O' hb ∧ (∀ j, blkOf okv = some j → j ≠ hb) := by
  have t1 := H.t1
  have t3 := H.t3
  have t5 := H.t5
  have t7 := H.t7
  have wf := H.wf
  have hml : (rows.map lh).length = rows.length := by simp
  have ltk : (rows.map lh).take rows.length = rows.map lh := List.take_of_length_le (by omega)
  have uo : isUnd okv = false := by obtain ⟨cs, oc, _⟩ := H.ok; exact oc.und
  have lo : lenV okv = some (iv rows.length) := by obtain ⟨cs, oc, _⟩ := H.ok; exact oc.lenV
  have hF := flen h16
  have hcl : content.length ≤ 41 * 16397 + 16397 := by rw [hc, List.length_append]; have := Nat.mul_le_mul_right 16397 hr2; omega
  -- the head
  obtain ⟨G1, e25, f1⟩ := head_spec T TD hk G O p d 4194304 _ _ _ _ _ _ _ nmAudit content rows LG rows.length (Nat.le_refl _) (by omega) wf
  rw [ltk] at e25
  have hdl : (rootL (rows.map lh)).length = 32 := rootL_length _ lh32
  generalize rootL (rows.map lh) = root at e25 hdl ⊢
  have l1 := f1.len
  have g1 := f1.lo
  generalize hZ : ABlock.cells (uv 0 :: List.replicate 32 (bv 0)) 36 = Z
  have hZ0 := hZ
  simp [List.replicate] at hZ
  have wz : ∀ (g : AHeap) (b n : Nat) (r : List UInt8), r.length = 32 → wrN g b (some Z) 0 0 (uv n :: bytesVals r) = some (g.put b (.cells (uv n :: bytesVals r) 36)) := by
    intro g b n r hr
    rw [← hZ0, wrN_cells (by simp [hr]) (by rw [List.all_cons, bytes_ok]; rfl)]
    congr 3
    simp [splice, hr]
  have s5 : (G1.push Z).at G1.bs.length = some Z := push_self
  generalize hg2 : (G1.push Z).put G1.bs.length (.cells (uv rows.length :: bytesVals root) 36) = G2
  have f2 : Fr G1 G2 (fun _ => False) := by rw [← hg2]; exact (Fr.push).put' (.inr (Nat.le_refl _))
  have v2 : G2.at G1.bs.length = some (.cells (uv rows.length :: bytesVals root) 36) := by rw [← hg2]; exact put_self (by simp)
  have l2 : G2.bs.length = G1.bs.length + 1 := by rw [← hg2]; simp
  have f02 : Fr G G2 (fun _ => False) := f1.trans f2 (fun _ h => h) (fun _ h _ => h)
  have LG2 := LG.fr f02 (fun _ _ h => h)
  have H2 := H.mem0 f02
  have e35 := len_spec T G2 O p d 4194304 _ _ _ _ _ _ _ nmAudit content rows LG2 (by omega)
  have ew := within_spec TG G2 zg 3 (by omega) (by omega)
  have hw3 := wi_lt (z := zg) (n := 3) (by omega)
  -- the power
  obtain ⟨G3, e44, DA3, f3⟩ := arm_disk T TS G2 O d 4194304 wr arm (zv zk) off nmAudit content (wi zg 3) zk LG2.disk
  obtain ⟨G4, e48, DA4, f4⟩ := on_disk T TS G3 O d 4194304 wr _ _ off nmAudit content DA3
  have l3 := f3.len
  have l4 := f4.len
  have g3 := f3.lo
  have g4 := f4.lo
  have f24 : Fr G2 G4 O := f3.trans f4 (fun _ h => h) (fun _ h _ => h)
  have wf2 := H2.wf
  have hca2 := H2.ca
  have q2c : rd1 (some (.cells [rv, zv za, zv zk, zv zg, tv] 113)) 2 0 = some (zv zk) := rfl
  have q3c : rd1 (some (.cells [rv, zv za, zv zk, zv zg, tv] 113)) 3 0 = some (zv zg) := rfl
  have hnm : Value.string ⟨⟨[97, 117, 100, 105, 116]⟩⟩ = str nmAudit := rfl
  rw [hc] at DA4
  have hz : Value.int .u8 0 = bv 0 := rfl
  replace e44 : D C 44 [.pointer (some ⟨d, 0, some 0⟩), iv (wi zg 3), zv zk] G2 = some (.tuple #[], G3) := e44
  have HO1 : ¬ O G1.bs.length := fun hO => by have := H.ol _ hO; omega
  have hq := H.hq
  have okb : ∀ j, blkOf okv = some j → j < G.bs.length := fun j hj => by obtain ⟨cs, oc, _⟩ := H.ok; exact oc.blk hj
  by_cases hfirst : wi zg 3 ≠ 1 ∨ tl = []
  · obtain ⟨G5, p2, ar', wr', e43, hp2, f5, hwr', _, LG5⟩ := audit_open T TS TD TO hk hp G4 O d 4194304 wr (wi zg 3) (zv zk) nmAudit rows2 tl DA4 htl (by rw [← hc]; omega) h16 (by omega) (by omega) (by omega) hfirst (by omega) hN
    have f25 : Fr G2 G5 O := f24.trans f5 (fun _ h => h) (fun _ h _ => h)
    have l5 := f5.len
    have HA5 := H2.mem f25
    have LG5' := LG5
    refine ⟨G5, ?_⟩
    have e : ∃ t', (∀ K, R C r9 (.code k9_1 :: K) t [] G = R C r9 (.code ka6 :: K) t' [] G5) ∧ tg t' 1 = tg t 1 ∧ tg t' 3 = tg t 3 ∧ tg t' 5 = .pointer (some ⟨p2, 0, some 0⟩) ∧ tg t' 7 = tg t 7 ∧ tg t' 6 = iv 0 ∧ tg t' 8 = tg t 8 ∧ tg t' 9 = tg t 9 ∧ tg t' 14 = .pointer (some ⟨G1.bs.length, 0, some 0⟩) := by
      refine ex_step (A' := fun K => R C r9 (.code (.seq (s1 k9_1) (.seq (s1 ka1) (.seq (s1 ka2) (.seq (s1 ka3) (.seq (s1 ka4) (.seq (s1 ka5) ka6)))))) :: K) t [] G) (fun K => by rw [← k91_e]) ?_
      simp [k9_1, ka1, ka2, ka3, ka4, ka5, s1, s2, t1, t3, t5, t7, stp_ok uo, uo, lo, cvt_iu (show rows.length < 18446744073709551616 by omega), Dc_ok, e25, hz, hZ, bytes_ok, hdl, writeN_wr, g1, show G.lo ≤ G1.bs.length by omega, s5, wz, hg2, num_spec TW, e35, hca2, q2c, q3c, stp_ok zv_und, zv_und, ew, e44, e48, hnm, e43, aeq_nilPs]
      exact ⟨_, fun _ => rfl, by simp [t1], by simp [t3], by simp, by simp [t7], by simp, by simp, by simp, by simp⟩
    obtain ⟨t', e, u1, u3, u5, u7, u6, u8, u9, u14⟩ := e
    have HT : LA C G5 t' q ab d p2 rv tv za zk zg okv rows (fun j => O j ∨ (G4.bs.length ≤ j ∧ j < G5.bs.length)) := LA.sub ⟨HA5.ca, HA5.abq, HA5.ok, HA5.okO, HA5.oq, HA5.ol, HA5.hq, HA5.wf, HA5.r16, u1.trans t1, u3.trans t3, u5, u7.trans t7⟩ (fun j hj => hj.imp_right fun h => ⟨by omega, h.2⟩)
    exact ⟨t', _, p2, ar', wr', G1.bs.length, e, HT, LG5', by omega, f02.trans f25 (fun _ h => h.elim) (fun j hj _ => H.oq j hj), u6, u8, u9, u14, f25.get v2 HO1, by omega, fun hc => hc.elim HO1 (fun h => by omega), fun j hj hc => by have := okb j hj; omega⟩
  · have hw1 : wi zg 3 = 1 := by
      rcases Nat.lt_or_ge (wi zg 3) 1 with h | h
      · exact absurd (.inl (by omega)) hfirst
      · rcases Nat.lt_or_ge 1 (wi zg 3) with h2 | h2
        · exact absurd (.inl (by omega)) hfirst
        · omega
    have ht : tl ≠ [] := fun h => hfirst (.inr h)
    have htn := htl.resolve_left ht
    rw [hw1] at DA4 e44 ew
    obtain ⟨G5, tl', e43, f5, htl', htle, DA5⟩ := audit_openO T TS TO hp G4 O d 4194304 wr zk nmAudit rows2 tl DA4 htn (by rw [← hc]; omega) h16 (by omega) (by omega) (by omega) hN
    have eoff := off_disk T TS G5 O d 4194304 _ _ _ _ nmAudit _ DA5
    obtain ⟨G6, e48b, DA6, f6⟩ := on_disk T TS G5 O d 4194304 _ _ _ _ nmAudit _ DA5
    have l5 := f5.len
    have l6 := f6.len
    have g5 := f5.lo
    have g6 := f6.lo
    have hcl2 : ((rows2.map frame).flatten ++ tl').length ≤ 41 * 16397 + 16397 := by rw [List.length_append]; have := Nat.mul_le_mul_right 16397 hr2; omega
    obtain ⟨G7, p2, ar', wr', e43b, hp2, f7, hwr', _, LG7⟩ := audit_open T TS TD TO hk hp G6 O d 4194304 (wr + 1) 0 (zv zk) nmAudit rows2 tl' DA6 htl' (by omega) h16 (by omega) (by omega) (by omega) (.inl (by omega)) (by omega) hN
    have f27 : Fr G2 G7 O := ((f24.trans f5 (fun _ h => h) (fun _ h _ => h)).trans f6 (fun _ h => h) (fun _ h _ => h)).trans f7 (fun _ h => h) (fun _ h _ => h)
    have l7 := f7.len
    have HA7 := H2.mem f27
    have e : ∃ t', (∀ K, R C r9 (.code k9_1 :: K) t [] G = R C r9 (.code ka6 :: K) t' [] G7) ∧ tg t' 1 = tg t 1 ∧ tg t' 3 = tg t 3 ∧ tg t' 5 = .pointer (some ⟨p2, 0, some 0⟩) ∧ tg t' 7 = tg t 7 ∧ tg t' 6 = iv 0 ∧ tg t' 8 = tg t 8 ∧ tg t' 9 = tg t 9 ∧ tg t' 14 = .pointer (some ⟨G1.bs.length, 0, some 0⟩) := by
      refine ex_step (A' := fun K => R C r9 (.code (.seq (s1 k9_1) (.seq (s1 ka1) (.seq (s1 ka2) (.seq (s1 ka3) (.seq (s1 ka4) (.seq (s1 ka5) ka6)))))) :: K) t [] G) (fun K => by rw [← k91_e]) ?_
      simp [k9_1, ka1, ka2, ka3, ka4, ka5, s1, s2, t1, t3, t5, t7, stp_ok uo, uo, lo, cvt_iu (show rows.length < 18446744073709551616 by omega), Dc_ok, e25, hz, hZ, bytes_ok, hdl, writeN_wr, g1, show G.lo ≤ G1.bs.length by omega, s5, wz, hg2, num_spec TW, e35, hca2, q2c, q3c, stp_ok zv_und, zv_und, ew, e44, e48, hnm, e43, aeq_nilPs, aeq_nilPn, eoff, e48b, e43b]
      exact ⟨_, fun _ => rfl, by simp [t1], by simp [t3], by simp, by simp [t7], by simp, by simp, by simp, by simp⟩
    obtain ⟨t', e, u1, u3, u5, u7, u6, u8, u9, u14⟩ := e
    have HT : LA C G7 t' q ab d p2 rv tv za zk zg okv rows (fun j => O j ∨ (G6.bs.length ≤ j ∧ j < G7.bs.length)) := LA.sub ⟨HA7.ca, HA7.abq, HA7.ok, HA7.okO, HA7.oq, HA7.ol, HA7.hq, HA7.wf, HA7.r16, u1.trans t1, u3.trans t3, u5, u7.trans t7⟩ (fun j hj => hj.imp_right fun h => ⟨by omega, h.2⟩)
    exact ⟨G7, t', _, p2, ar', wr', G1.bs.length, e, HT, LG7, by omega, f02.trans f27 (fun _ h => h.elim) (fun j hj _ => H.oq j hj), u6, u8, u9, u14, f27.get v2 HO1, by omega, fun hc => hc.elim HO1 (fun h => by omega), fun j hj hc => by have := okb j hj; omega⟩
end Go.Ab.Aud

namespace Go.Ab.Aud
open Go.Sha
theorem LA.memS {C : Ctx} {G G' : AHeap} {t : List Value} {q ab d p : Nat} {rv tv : Value} {za zk zg : Int} {okv : Value} {rows : List (List UInt8)} {O : Nat → Prop} (H : LA C G t q ab d p rv tv za zk zg okv rows O) (f : Fr G G' O) : LA C G' t q ab d p rv tv za zk zg okv rows O :=
  LA.sub (H.mem f) fun _ h => .inl h
theorem rowsB_cases (off : Bool) (zk : Int) (fl : List UInt8) (rows : List (List UInt8)) : (rowsB off zk fl rows = rows ++ [fl] ∧ off = true ∧ (fl.length + 13 : Int) ≤ zk) ∨ (rowsB off zk fl rows = rows ∧ ¬ (off = true ∧ (fl.length + 13 : Int) ≤ zk)) := by
  unfold rowsB
  by_cases h : off = true ∧ (fl.length + 13 : Int) ≤ zk
  · rw [if_pos h]; exact .inl ⟨rfl, h⟩
  · rw [if_neg h]; exact .inr ⟨rfl, h⟩
def kb1 : ACode := s2 ka6
def kb2 : ACode := s2 kb1
def kb3 : ACode := s2 kb2
/-- the same under another name -/
def kb0 : ACode := ka6
theorem ka6_e : ka6 = .seq (s1 kb0) (.seq (s1 kb1) (.seq (s1 kb2) kb3)) := rfl
variable {C : Ctx} (T : Tab_LLog C) (TS : Tab_LStan C) (TO : Tab_LOpen C) (TG : Tab_LGrow C) (TD : Tab_LDig C) (TW : Tab_LLaw C) (hk : ∀ j, j < 64 → C.old 0 j = some (wv (kW j))) (hp : ∀ j, j < 16 → C.old 1 j = some (wv (crcW j)))
include T TS TW
set_option maxHeartbeats 8000000 in
/-- the power stays; what was in flight is counted, if it was kept -/
theorem stands_kept {G : AHeap} {t : List Value} {q ab d p : Nat} {rv tv : Value} {za zk zg : Int} {okv fv : Value} {rows : List (List UInt8)} {fl : List UInt8} {O : Nat → Prop} {wr ar : Nat} {off : Bool} {content : List UInt8} {hb : Nat} {Z : ABlock}
    (H : LA C G t q ab d p rv tv za zk zg okv rows O) (hrl : rows.length ≤ 40) (hfl : fl.length ≤ 16384) (hfv : ArgB C.old fv fl) (LG : LogAt G O p d (iv ar) (zv zk) false false 0 content.length nmAudit content (rowsB off zk fl rows) 4194304 wr)
    (t6 : tg t 6 = iv 0) (t8 : tg t 8 = fv) (t9 : tg t 9 = .bool off) (hz : G.at hb = some Z) (hq : q ≤ hb) (hO : ¬ O hb) (hob : ∀ j, blkOf okv = some j → j ≠ hb) :
    ∃ G' t' okv', (∀ K, R C r9 (.code ka6 :: K) t [] G = R C r9 (.code kb3 :: K) t' [] G') ∧ LA C G' t' q ab d p rv tv za zk zg okv' (rowsB off zk fl rows) O ∧
      LogAt G' O p d (iv 0) (iv 0) false false 0 content.length nmAudit content (rowsB off zk fl rows) 4194304 wr ∧ Fr G G' (fun j => q ≤ j) ∧ tg t' 14 = tg t 14 ∧ G'.at hb = some Z := by
  have t1 := H.t1
  have t3 := H.t3
  have t5 := H.t5
  have t7 := H.t7
  have uo : isUnd okv = false := by obtain ⟨cs, oc, _⟩ := H.ok; exact oc.und
  have ufv : isUnd fv = false := hfv.und
  have lfv : lenV fv = some (iv fl.length) := by obtain ⟨a, cp, hv, _⟩ := hfv; rw [hv]; rfl
  obtain ⟨G1, e44, LG1, f1⟩ := arm_log T TS G O p d 4194304 wr 0 content.length _ _ false false nmAudit content (rowsB off zk fl rows) 0 0 LG
  have e44' : D C 44 [.pointer (some ⟨d, 0, some 0⟩), iv 0, iv 0] G = some (.tuple #[], G1) := e44
  have H1 := H.memS f1
  have z1 := f1.get hz hO
  have q2c : rd1 (some (.cells [rv, zv za, zv zk, zv zg, tv] 113)) 2 0 = some (zv zk) := rfl
  have hca1 := H1.ca
  have eg : abin .geq (zv zk) (iv (fl.length + 13)) = some (.bool (decide ((fl.length + 13 : Int) ≤ zk))) := zv_geq
  rcases rowsB_cases off zk fl rows with ⟨hB, hof, hkk⟩ | ⟨hB, hno⟩
  · rw [hB] at LG1 ⊢
    subst hof
    obtain ⟨v', h4, e4, ok4, f4, b4⟩ := H1.ok.app hfv (by omega) H1.wf
    have u4 : isUnd v' = false := by obtain ⟨cs, oc, _⟩ := ok4; exact oc.und
    obtain ⟨fa, fcp, hfvs, _⟩ := hfv
    have kfv : okCell fv = true := by rw [hfvs]; rfl
    have cfv : cellsOf fv = [fv] := by rw [hfvs]; rfl
    have pfv : partOk fv = true := by rw [hfvs]; rfl
    have e : ∃ t', (∀ K, R C r9 (.code ka6 :: K) t [] G = R C r9 (.code kb3 :: K) t' [] h4) ∧ tg t' 1 = tg t 1 ∧ tg t' 3 = tg t 3 ∧ tg t' 5 = tg t 5 ∧ tg t' 7 = v' ∧ tg t' 14 = tg t 14 := by
      refine ex_step (A' := fun K => R C r9 (.code (.seq (s1 kb0) (.seq (s1 kb1) (.seq (s1 kb2) kb3))) :: K) t [] G) (fun K => by rw [← ka6_e]) ?_
      simp [kb0, kb1, kb2, k9_1, ka1, ka2, ka3, ka4, ka5, ka6, s1, s2, t1, t3, t5, t6, t7, t8, t9, Dc_ok, e44', num_spec TW, aeq_nilPs, hca1, q2c, stp_ok zv_und, zv_und, stp_ok ufv, ufv, lfv, iv_add (a := fl.length) (b := 13) (by omega), eg, hkk, stp_ok uo, uo, kfv, cfv, pfv, fillCells, splice, e4, stp_ok u4, u4]
      exact ⟨_, fun _ => rfl, by simp [t1], by simp [t3], by simp [t5], by simp, by simp⟩
    obtain ⟨t', e, u1, u3, u5, u7, u14⟩ := e
    have HL := H1.row f4 ok4 b4 hfl u1 u3 u5 u7
    exact ⟨h4, t', v', e, HL, LG1.fr f4 (fun j hj hc => (H1.okO j hc).2 hj), (f1.mono fun j hj _ => H.oq j hj).trans f4 (fun _ h => h) (fun j hj _ => (H1.okO j hj).1), u14, f4.get z1 (fun hc => hob hb hc rfl)⟩
  · rw [hB] at LG1 ⊢
    have e : ∃ t', (∀ K, R C r9 (.code ka6 :: K) t [] G = R C r9 (.code kb3 :: K) t' [] G1) ∧ tg t' 1 = tg t 1 ∧ tg t' 3 = tg t 3 ∧ tg t' 5 = tg t 5 ∧ tg t' 7 = tg t 7 ∧ tg t' 14 = tg t 14 := by
      refine ex_step (A' := fun K => R C r9 (.code (.seq (s1 kb0) (.seq (s1 kb1) (.seq (s1 kb2) kb3))) :: K) t [] G) (fun K => by rw [← ka6_e]) ?_
      cases off with
      | true =>
        have hkk : ¬ (fl.length + 13 : Int) ≤ zk := fun h => hno ⟨rfl, h⟩
        simp [kb0, kb1, kb2, k9_1, ka1, ka2, ka3, ka4, ka5, ka6, s1, s2, t1, t3, t5, t6, t7, t8, t9, Dc_ok, e44', num_spec TW, aeq_nilPs, hca1, q2c, stp_ok zv_und, zv_und, stp_ok ufv, ufv, lfv, iv_add (a := fl.length) (b := 13) (by omega), eg, hkk]
        exact ⟨_, fun _ => rfl, by simp [t1], by simp [t3], by simp [t5], by simp [t7], by simp⟩
      | false =>
        simp [kb0, kb1, kb2, k9_1, ka1, ka2, ka3, ka4, ka5, ka6, s1, s2, t1, t3, t5, t6, t7, t8, t9, Dc_ok, e44', num_spec TW, aeq_nilPs, hca1, q2c]
        exact ⟨_, fun _ => rfl, by simp [t1], by simp [t3], by simp [t5], by simp [t7], by simp⟩
    obtain ⟨t', e, u1, u3, u5, u7, u14⟩ := e
    exact ⟨G1, t', okv, e, H1.tmp u1 u3 u5 u7, LG1, f1.mono fun j hj _ => H.oq j hj, u14, z1⟩
end Go.Ab.Aud

namespace Go.Ab.Aud
open Go.Sha
/-- two heads are compared -/
theorem aeq_head {n : Nat} {x : List UInt8} (hx : x.length = 32) : aeq (.flat (.i :: List.replicate 32 .i)) (.agg ⟨uv n :: bytesVals x⟩) (.agg ⟨uv n :: bytesVals x⟩) = some true := by
  have h := veqL_bytes x x rfl
  rw [hx] at h
  show veqL (.i :: List.replicate 32 .i) (uv n :: bytesVals x) (uv n :: bytesVals x) = some true
  have e : veqK .i (uv n) (uv n) = some true := by
    show (if IntKind.u64 = IntKind.u64 then some (decide ((n : Int) = n)) else none) = some true
    rw [if_pos rfl, decide_eq_true rfl]
  unfold veqL
  simp only [e, h]
  simp
def kc0 : ACode := kb3
def kc1 : ACode := s2 kb3
theorem kb3_e : kb3 = .seq (s1 kc0) (.seq (s1 kc1) (.seq (.seq (.ops [⟨some 17, none, .move (.cst (.int .i64 0)), []⟩]) (.block 2 (.loop lp9_1))) k9_0)) := rfl
variable {C : Ctx} (T : Tab_LLog C) (TS : Tab_LStan C) (TO : Tab_LOpen C) (TG : Tab_LGrow C) (TD : Tab_LDig C) (TW : Tab_LLaw C) (hk : ∀ j, j < 64 → C.old 0 j = some (wv (kW j))) (hp : ∀ j, j < 16 → C.old 1 j = some (wv (crcW j)))
include T TS TD TW hk
set_option maxHeartbeats 8000000 in
/-- heads of the earlier ones are as they were; the entries are just these -/
theorem stands_same (hY : C.T fYield = none) (hTk : C.T fTake = none) {G : AHeap} {t : List Value} {q ab d p : Nat} {rv tv : Value} {za zk zg : Int} {okv : Value} {rows rows2 : List (List UInt8)} {O : Nat → Prop} {wr : Nat} {content : List UInt8} {hb : Nat}
    (H : LA C G t q ab d p rv tv za zk zg okv rows2 O) (hn : rows.length ≤ rows2.length) (hr2 : rows2.length ≤ 60) (htk : (rows2.map lh).take rows.length = rows.map lh) (LG : LogAt G O p d (iv 0) (iv 0) false false 0 content.length nmAudit content rows2 4194304 wr)
    (t14 : tg t 14 = .pointer (some ⟨hb, 0, some 0⟩)) (hz : G.at hb = some (.cells (uv rows.length :: bytesVals (rootL (rows.map lh))) 36)) :
    ∃ G' t', (∀ K, R C r9 (.code kb3 :: K) t [] G = R C r9 (.inLoop lp9_1 :: .inBlock 2 :: .code k9_0 :: K) t' [] G') ∧ LA C G' t' q ab d p rv tv za zk zg okv rows2 O ∧
      LogAt G' O p d (iv 0) (iv 0) false false 0 content.length nmAudit content rows2 4194304 wr ∧ Fr G G' (fun j => q ≤ j) ∧ tg t' 17 = iv 0 := by
  have t1 := H.t1
  have t3 := H.t3
  have t5 := H.t5
  have t7 := H.t7
  have wf := H.wf
  have uo : isUnd okv = false := by obtain ⟨cs, oc, _⟩ := H.ok; exact oc.und
  obtain ⟨G1, e25, f1⟩ := head_spec T TD hk G O p d 4194304 _ _ _ _ _ _ _ nmAudit content rows2 LG rows.length hn (by omega) wf
  rw [htk] at e25
  have hdl : (rootL (rows.map lh)).length = 32 := rootL_length _ lh32
  generalize rootL (rows.map lh) = root at e25 hdl hz
  have l1 := f1.len
  have g1 := f1.lo
  generalize hZ : ABlock.cells (uv 0 :: List.replicate 32 (bv 0)) 36 = Z
  have hZ0 := hZ
  simp [List.replicate] at hZ
  have wz : ∀ (g : AHeap) (b n : Nat) (r : List UInt8), r.length = 32 → wrN g b (some Z) 0 0 (uv n :: bytesVals r) = some (g.put b (.cells (uv n :: bytesVals r) 36)) := by
    intro g b n r hr
    rw [← hZ0, wrN_cells (by simp [hr]) (by rw [List.all_cons, bytes_ok]; rfl)]
    congr 3
    simp [splice, hr]
  have rz : ∀ (n : Nat) (r : List UInt8), r.length = 32 → rdN (some (.cells (uv n :: bytesVals r) 36)) 0 0 33 = some (uv n :: bytesVals r) := by
    intro n r hr
    rw [rdN_cells (by simp [hr]), List.drop_zero, List.take_of_length_le (by simp [hr])]
  have rz1 : ∀ (n : Nat) (r : List UInt8), rd1 (some (.cells (uv n :: bytesVals r) 36)) 0 0 = some (uv n) := fun _ _ => rfl
  have s5 : (G1.push Z).at G1.bs.length = some Z := push_self
  generalize hg2 : (G1.push Z).put G1.bs.length (.cells (uv rows.length :: bytesVals root) 36) = G2
  have f2 : Fr G1 G2 (fun _ => False) := by rw [← hg2]; exact (Fr.push).put' (.inr (Nat.le_refl _))
  have v2 : G2.at G1.bs.length = some (.cells (uv rows.length :: bytesVals root) 36) := by rw [← hg2]; exact put_self (by simp)
  have f02 : Fr G G2 (fun _ => False) := f1.trans f2 (fun _ h => h) (fun _ h _ => h)
  have z2 := f02.get hz (fun h => h)
  have LG2 := LG.fr f02 (fun _ _ h => h)
  have H2 := H.mem0 f02
  have eqh := aeq_head (n := rows.length) hdl
  simp only [List.replicate] at eqh
  obtain ⟨G3, e49, f3⟩ := holds_spec T TS TW hY hTk G2 p okv rows2 O d 4194304 wr _ _ _ _ _ _ nmAudit content LG2 H2.ok (by omega) (fun i hi => by
    have := H2.r16 _ (show rows2.getD i [] ∈ rows2 by rw [List.getD_eq_getElem?_getD, List.getElem?_eq_getElem hi]; exact List.getElem_mem hi)
    omega) H2.wf
  have hz0 : Value.int .u8 0 = bv 0 := rfl
  have e : ∃ t', (∀ K, R C r9 (.code kb3 :: K) t [] G = R C r9 (.inLoop lp9_1 :: .inBlock 2 :: .code k9_0 :: K) t' [] G3) ∧ tg t' 1 = tg t 1 ∧ tg t' 3 = tg t 3 ∧ tg t' 5 = tg t 5 ∧ tg t' 7 = tg t 7 ∧ tg t' 17 = iv 0 := by
    refine ex_step (A' := fun K => R C r9 (.code (.seq (s1 kc0) (.seq (s1 kc1) (.seq (.seq (.ops [⟨some 17, none, .move (.cst (.int .i64 0)), []⟩]) (.block 2 (.loop lp9_1))) k9_0))) :: K) t [] G) (fun K => by rw [← kb3_e]) ?_
    simp [kc0, kc1, kb1, kb2, kb3, k9_1, ka1, ka2, ka3, ka4, ka5, ka6, s1, s2, t1, t3, t5, t7, t14, hz, rz1, Dc_ok, e25, hz0, hZ, bytes_ok, hdl, writeN_wr, g1, show G.lo ≤ G1.bs.length by omega, s5, wz, hg2, num_spec TW, v2, z2, rz, eqh, stp_ok uo, uo, e49]
    exact ⟨_, fun _ => rfl, by simp [t1], by simp [t3], by simp [t5], by simp [t7], by simp⟩
  obtain ⟨t', e, u1, u3, u5, u7, u17⟩ := e
  exact ⟨G3, t', e, (H2.mem0 f3).tmp u1 u3 u5 u7, LG2.fr f3 (fun _ _ h => h), (f02.trans f3 (fun _ h => h) (fun _ h _ => h)).mono fun _ h _ => h.elim, u17⟩
end Go.Ab.Aud

namespace Go.Ab.Aud
open Go.Sha
variable {C : Ctx} (T : Tab_LLog C) (TS : Tab_LStan C) (TO : Tab_LOpen C) (TG : Tab_LGrow C) (TD : Tab_LDig C) (TW : Tab_LLaw C) (hk : ∀ j, j < 64 → C.old 0 j = some (wv (kW j))) (hp : ∀ j, j < 16 → C.old 1 j = some (wv (crcW j)))
section
include T TD TW hk hp
set_option maxHeartbeats 4000000 in
theorem lb_ok {G : AHeap} {t : List Value} {q ab d p : Nat} {rv tv : Value} {za zk zg : Int} {okv : Value} {rows : List (List UInt8)} {O : Nat → Prop} (H : LA C G t q ab d p rv tv za zk zg okv rows O) (rowsA : List (List UInt8)) (HR : ArgR C.old tv rowsA) (i wr : Nat) (hi : i < rowsA.length) (h10 : i < 10) (hri : rows.length ≤ 100) (t17 : tg t 17 = iv i)
    (hl : ¬ 2000 < (rowsA.getD i []).length) (LG : LogAt G O p d (iv 0) (iv 0) false false 0 ((rows.map frame).flatten).length nmAudit ((rows.map frame).flatten) rows 4194304 wr) (hwr : wr ≤ 1000)
    (hN : ∀ h, D C 147 [str nmAudit] h = some (.bool true, h)) :
    ∃ G' t' okv' O', (∀ K, R C r9 (.inLoop lp9_1 :: .inBlock 2 :: K) t [] G = R C r9 (.inLoop lp9_1 :: .inBlock 2 :: K) t' [] G') ∧ LA C G' t' q ab d p rv tv za zk zg okv' (rows ++ [rowsA.getD i []]) O' ∧
      LogAt G' O' p d (iv 0) (iv 0) false false 0 (((rows ++ [rowsA.getD i []]).map frame).flatten).length nmAudit (((rows ++ [rowsA.getD i []]).map frame).flatten) (rows ++ [rowsA.getD i []]) 4194304 (wr + 1) ∧
      Fr G G' (fun j => q ≤ j) ∧ tg t' 17 = iv (i + 1) := by
  obtain ⟨a', cp', a, cp, hv, r1, s1, nl⟩ := HR.get hi
  have t1 := H.t1
  have t3 := H.t3
  have t5 := H.t5
  have t7 := H.t7
  have hca := H.ca
  generalize rowsA.getD i [] = r at *
  have urv : isUnd tv = false := by rw [hv]; rfl
  have hF := flen H.r16
  have hF2 := Nat.mul_le_mul_right 16397 hri
  obtain ⟨h1, vc, ec, o1, f1, b1⟩ := copy_spec TW G r a r.length cp (s1 G) (by omega) H.wf
  obtain ⟨ac, cpc, hvc⟩ := o1.slice
  have sc := o1.sl (old := C.old) (by omega)
  rw [hvc] at sc ec
  have l1 := f1.len
  have g1 := f1.lo
  have wf := H.wf
  have LG1 := LG.fr f1 (fun _ _ h => h)
  have HA1 := H.mem0 f1
  obtain ⟨h2, ea, LG2, f2⟩ := audit_append T TD hp hk h1 O p d 4194304 wr 0 (iv 0) nmAudit ((rows.map frame).flatten) rows r ac r.length cpc LG1 sc (fun j hj hOj => by
    have := b1 j (by rw [hvc]; rw [hvc] at o1; exact o1.live hj); have := H.ol j hOj; omega) (by omega) (by omega) (by omega) (by omega) (by omega) (by omega) hN (by omega) (by omega)
  have HA2 := HA1.mem f2
  have hx : ArgB C.old (.slice a r.length cp) r := ⟨a, cp, rfl, s1, nl⟩
  obtain ⟨v', h4, e4, ok4, f4, b4⟩ := HA2.ok.app hx (by omega) HA2.wf
  have u4 : isUnd v' = false := by obtain ⟨cs, oc, _⟩ := ok4; exact oc.und
  have uo : isUnd okv = false := by obtain ⟨cs, oc, _⟩ := HA1.ok; exact oc.und
  have lo : lenV okv = some (iv rows.length) := by obtain ⟨cs, oc, _⟩ := HA1.ok; exact oc.lenV
  have hca2 := HA2.ca
  have q4 : rd1 (some (.cells [rv, zv za, zv zk, zv zg, tv] 113)) 4 0 = some tv := rfl
  rw [hv] at q4
  have hca' := hca
  have hca2' := hca2
  rw [hv] at hca' hca2'
  have ek : ∃ t', (∀ K, R C r9 (.inLoop lp9_1 :: .inBlock 2 :: K) t [] G = R C r9 (.inLoop lp9_1 :: .inBlock 2 :: K) t' [] h4) ∧ tg t' 1 = tg t 1 ∧ tg t' 3 = tg t 3 ∧ tg t' 5 = tg t 5 ∧ tg t' 7 = v' ∧ tg t' 17 = iv (i + 1) := by
    refine ex_step (fun k => R_open lp9_1.eq_1) ?_
    simp [t1, t3, t5, t7, t17, hca', q4, hi, h10, ixS_iv hi, r1 G, r1 h2, hl, Dc_ok, ec, ea, num_spec TW, hca2', stp_ok uo, uo, lo, cvt_iu (show rows.length < 18446744073709551616 by omega), fillCells, splice, e4, stp_ok u4, u4, iv_add (a := i) (b := 1) (by omega)]
    exact ⟨_, fun _ => rfl, by simp [t1], by simp [t3], by simp [t5], by simp, by simp⟩
  obtain ⟨t', e, u1, u3, u5, u7, u17⟩ := ek
  have HL := HA2.row f4 ok4 b4 (by omega) u1 u3 u5 u7
  refine ⟨h4, t', v', _, e, HL, ?_, ?_, u17⟩
  · rw [fapp]
    exact LG2.fr f4 (fun j hj hc => (HA2.okO j hc).2 hj)
  · exact (f1.trans f2 (S'' := fun j => q ≤ j) (fun _ h => h.elim) (fun j hj _ => H.oq j hj)).trans f4 (fun _ h => h) (fun j hj _ => (HA2.okO j hj).1)
set_option maxHeartbeats 4000000 in
theorem lb_loop (q ab d p : Nat) (rv tv : Value) (za zk zg : Int) (rowsA : List (List UInt8)) (HR : ArgR C.old tv rowsA) (hN : ∀ h, D C 147 [str nmAudit] h = some (.bool true, h)) :
    ∀ (k i : Nat) (G : AHeap) (t : List Value) (okv : Value) (rows : List (List UInt8)) (O : Nat → Prop) (wr : Nat), i + k = 10 → LA C G t q ab d p rv tv za zk zg okv rows O → rows.length + k ≤ 60 → wr + k ≤ 900 → tg t 17 = iv i →
      LogAt G O p d (iv 0) (iv 0) false false 0 ((rows.map frame).flatten).length nmAudit ((rows.map frame).flatten) rows 4194304 wr →
      ∃ G' t' okv' rows' O' wr', (∀ K, R C r9 (.inLoop lp9_1 :: .inBlock 2 :: K) t [] G = R C r9 K t' [] G') ∧ LA C G' t' q ab d p rv tv za zk zg okv' rows' O' ∧ rows'.length ≤ 60 ∧ Fr G G' (fun j => q ≤ j) ∧
        LogAt G' O' p d (iv 0) (iv 0) false false 0 ((rows'.map frame).flatten).length nmAudit ((rows'.map frame).flatten) rows' 4194304 wr' := by
  have urv : isUnd tv = false := by obtain ⟨a, cp, vs, hv, _⟩ := HR; rw [hv]; rfl
  have lrv : lenV tv = some (iv rowsA.length) := by obtain ⟨a, cp, vs, hv, _⟩ := HR; rw [hv]; rfl
  have q4 : rd1 (some (.cells [rv, zv za, zv zk, zv zg, tv] 113)) 4 0 = some tv := rfl
  intro k
  induction k with
  | zero =>
    intro i G t okv rows O wr hi H hrl hwr t17 LG
    obtain rfl : i = 10 := by omega
    have t1 := H.t1
    have hca := H.ca
    have e : ∃ t', (∀ K, R C r9 (.inLoop lp9_1 :: .inBlock 2 :: K) t [] G = R C r9 K t' [] G) ∧ tg t' 1 = tg t 1 ∧ tg t' 3 = tg t 3 ∧ tg t' 5 = tg t 5 ∧ tg t' 7 = tg t 7 := by
      refine ex_step (fun k => R_open lp9_1.eq_1) ?_
      by_cases hlt : 10 < rowsA.length
      · simp [t1, t17, hca, q4, stp_ok urv, urv, lrv, hlt]
        exact ⟨_, fun _ => rfl, by simp [t1], by simp, by simp, by simp⟩
      · simp [t1, t17, hca, q4, stp_ok urv, urv, lrv, hlt]
        exact ⟨_, fun _ => rfl, by simp [t1], by simp, by simp, by simp⟩
    obtain ⟨t', e, u1, u3, u5, u7⟩ := e
    exact ⟨G, t', okv, rows, O, wr, e, H.tmp u1 u3 u5 u7, by omega, Fr.refl _ _, LG⟩
  | succ k ih =>
    intro i G t okv rows O wr hi H hrl hwr t17 LG
    have t1 := H.t1
    have hca := H.ca
    by_cases hlt : i < rowsA.length
    · by_cases hl : 2000 < (rowsA.getD i []).length
      · have e : ∃ t', (∀ K, R C r9 (.inLoop lp9_1 :: .inBlock 2 :: K) t [] G = R C r9 (.inLoop lp9_1 :: .inBlock 2 :: K) t' [] G) ∧ tg t' 1 = tg t 1 ∧ tg t' 3 = tg t 3 ∧ tg t' 5 = tg t 5 ∧ tg t' 7 = tg t 7 ∧ tg t' 17 = iv (i + 1) := by
          obtain ⟨a', cp', a, cp, hv, r1, s1, nl⟩ := HR.get hlt
          generalize rowsA.getD i [] = r at *
          rw [hv] at q4 hca urv
          refine ex_step (fun k => R_open lp9_1.eq_1) ?_
          simp [t1, t17, hca, q4, hlt, show i < 10 by omega, ixS_iv hlt, r1 G, hl, iv_add (a := i) (b := 1) (by omega)]
          exact ⟨_, fun _ => rfl, by simp [t1], by simp, by simp, by simp, by simp⟩
        obtain ⟨t', e, u1, u3, u5, u7, u17⟩ := e
        obtain ⟨G', t2, okv', rows', O', wr', x1, x2⟩ := ih (i + 1) G t' okv rows O wr (by omega) (H.tmp u1 u3 u5 u7) (by omega) (by omega) u17 LG
        exact ⟨G', t2, okv', rows', O', wr', fun K => (e K).trans (x1 K), x2⟩
      · obtain ⟨G', t', okv', O', e, H', LG', f', u17⟩ := lb_ok T TD TW hk hp H rowsA HR i wr hlt (by omega) (by omega) t17 hl LG (by omega) hN
        obtain ⟨G2, t2, okv2, rows2, O2, wr2, x1, x2, x3, x4, x5⟩ := ih (i + 1) G' t' okv' _ O' (wr + 1) (by omega) H' (by simp; omega) (by omega) u17 LG'
        exact ⟨G2, t2, okv2, rows2, O2, wr2, fun K => (e K).trans (x1 K), x2, x3, f'.trans x4 (fun _ h => h) (fun _ h _ => h), x5⟩
    · have e : ∃ t', (∀ K, R C r9 (.inLoop lp9_1 :: .inBlock 2 :: K) t [] G = R C r9 K t' [] G) ∧ tg t' 1 = tg t 1 ∧ tg t' 3 = tg t 3 ∧ tg t' 5 = tg t 5 ∧ tg t' 7 = tg t 7 := by
        refine ex_step (fun k => R_open lp9_1.eq_1) ?_
        simp [t1, t17, hca, q4, stp_ok urv, urv, lrv, hlt]
        exact ⟨_, fun _ => rfl, by simp [t1], by simp, by simp, by simp⟩
      obtain ⟨t', e, u1, u3, u5, u7⟩ := e
      exact ⟨G, t', okv, rows, O, wr, e, H.tmp u1 u3 u5 u7, by omega, Fr.refl _ _, LG⟩
end
include T TS TO TG TD TW hk hp
set_option maxHeartbeats 8000000 in
/-- AuditStands: whatever is laid, and wherever the power goes -/
theorem stands_all (hY : C.T fYield = none) (hTk : C.T fTake = none) (h : AHeap) (hwf : h.lo ≤ h.bs.length) (rv tv : Value) (za zk zg : Int) (rowsA rowsT : List (List UInt8)) (HRA : ArgR C.old rv rowsA) (HRT : ArgR C.old tv rowsT)
    (hN : ∀ h, D C 147 [str nmAudit] h = some (.bool true, h)) (hNA : ∀ h, D C 147 [str nmA] h = some (.bool true, h)) :
    ∃ h', D C 9 [.agg ⟨[rv, zv za, zv zk, zv zg, tv]⟩] h = some (.bool true, h') := by
  rw [D_fn TS.h9]
  have urv : isUnd rv = false := by obtain ⟨a, cp, vs, hv, _⟩ := HRA; rw [hv]; rfl
  have utv : isUnd tv = false := by obtain ⟨a, cp, vs, hv, _⟩ := HRT; rw [hv]; rfl
  have krv : okCell rv = true := by obtain ⟨a, cp, vs, hv, _⟩ := HRA; rw [hv]; rfl
  have ktv : okCell tv = true := by obtain ⟨a, cp, vs, hv, _⟩ := HRT; rw [hv]; rfl
  have kzv : ∀ z, okCell (zv z) = true := fun _ => rfl
  generalize hh1 : h.push (.cells [rv, zv za, zv zk, zv zg, tv] 113) = h1
  have f1 : Fr h h1 (fun _ => False) := by rw [← hh1]; exact Fr.push
  have a1 : h1.at h.bs.length = some (.cells [rv, zv za, zv zk, zv zg, tv] 113) := by rw [← hh1]; exact push_self
  have l1 : h1.bs.length = h.bs.length + 1 := by rw [← hh1]; simp
  have lo1 := f1.lo
  obtain ⟨h1', h2, d, p, O, wr0, e1, e2, L2, hw0, hO, f2⟩ := open_new T TD hk hp TS TO h1 4194304 nmAudit (by omega) (by omega) (by omega) hN
  have l2 := f2.len
  have lo2 := f2.lo
  have a2 := f2.get a1 (fun h => h)
  have ew := within_spec TG h2 za 30 (by omega) (by omega)
  have hw30 := wi_lt (z := za) (n := 30) (by omega)
  obtain ⟨h3, e44, L3, f3⟩ := arm_log T TS h2 O p d 4194304 wr0 0 0 _ _ false false nmAudit [] [] (1 + wi za 30) zk L2
  have l3 := f3.len
  have lo3 := f3.lo
  have e44' : D C 44 [.pointer (some ⟨d, 0, some 0⟩), iv (1 + wi za 30), zv zk] h2 = some (.tuple #[], h3) := e44
  have a3 := f3.get a2 (fun hc => by have := hO _ hc; omega)
  have q1c : rd1 (some (.cells [rv, zv za, zv zk, zv zg, tv] 113)) 1 0 = some (zv za) := rfl
  have q2c : rd1 (some (.cells [rv, zv za, zv zk, zv zg, tv] 113)) 2 0 = some (zv zk) := rfl
  have hnm : Value.string ⟨⟨[97, 117, 100, 105, 116]⟩⟩ = str nmAudit := rfl
  obtain ⟨t, e, u1, u3, u5, u7, u8, u9, u10, u11⟩ : ∃ t, R C r9 [.code b9] [.agg ⟨[rv, zv za, zv zk, zv zg, tv]⟩] [] h = R C r9 (.inLoop lp9_0 :: .inBlock 0 :: .code k9_1 :: []) t [] h3 ∧ tg t 1 = .pointer (some ⟨h.bs.length, 0, some 0⟩) ∧ tg t 3 = .pointer (some ⟨d, 0, some 0⟩) ∧ tg t 5 = .pointer (some ⟨p, 0, some 0⟩) ∧
      tg t 7 = .slice none 0 0 ∧ tg t 8 = .slice none 0 0 ∧ tg t 9 = .bool false ∧ tg t 10 = zv 200000 ∧ tg t 11 = iv 0 := by
    simp [b9, krv, ktv, kzv, hh1, Dc_ok, e1, num_spec TW, hnm, e2, aeq_nilPs, a2, q1c, q2c, stp_ok zv_und, zv_und, ew, iv_add (a := 1) (b := wi za 30) (by omega), e44']
    exact ⟨_, rfl, by simp, by simp, by simp, by simp, by simp, by simp, by simp; rfl, by simp⟩
  have hLA : LA C h3 t (h.bs.length + 1) h.bs.length d p rv tv za zk zg (.slice none 0 0) [] O := ⟨a3, by omega, ⟨[], .nil, fun i hi => by cases hi⟩, (fun j hj => by cases hj), fun j hj => by have := hO j hj; omega, L3.olt, by omega, by omega, (fun r hr => by cases hr), u1, u3, u5, u7⟩
  have hnil : ArgB C.old (.slice none 0 0) [] := ⟨none, 0, rfl, fun h => ⟨rfl, rfl, rfl⟩, fun j hj => hj⟩
  obtain ⟨G, t2, okv, rows, O2, wr, off, fv, fl, eA, HA, hrl, hwr, fA, v8, hfv, hfl, v9, hno, hyes⟩ := la_loop T TS TD TW hk hp hY (h.bs.length + 1) h.bs.length d p rv tv za zk zg rowsA HRA hN 40 0 h3 t (.slice none 0 0) (.slice none 0 0) [] [] O 200000 (1 + wi za 30) wr0 (by omega) hLA (by simp) u8 hnil (by simp) u9 u10 u11 L3 (by omega) (by omega) (by omega)
  -- what stands on the disk
  obtain ⟨arm, woff, err, content, tl, LG, hc, htl, htl2⟩ : ∃ arm woff err content tl, LogAt G O2 p d arm (zv zk) off woff err ((rows.map frame).flatten).length nmAudit content rows 4194304 wr ∧ content = ((rowsB off zk fl rows).map frame).flatten ++ tl ∧ (tl = [] ∨ Torn tl) ∧ tl.length ≤ 16397 := by
    cases off with
    | false =>
      obtain ⟨ar, _, LG⟩ := hno rfl
      have hB : rowsB false zk fl rows = rows := by unfold rowsB; rw [if_neg (by simp)]
      exact ⟨_, _, _, _, [], LG, by rw [hB, List.append_nil], .inl rfl, by simp⟩
    | true =>
      obtain ⟨tl, h1, h2, h3⟩ := torn_cases zk fl rows hfl
      exact ⟨_, _, _, _, tl, hyes rfl, h1, h2, h3⟩
  have h16 : ∀ r, r ∈ rowsB off zk fl rows → r.length ≤ 16384 := fun r hr => by
    rcases rowsB_cases off zk fl rows with ⟨hB, _⟩ | ⟨hB, _⟩
    · rw [hB] at hr
      rcases List.mem_append.1 hr with hr | hr
      · exact HA.r16 r hr
      · rw [List.mem_singleton.1 hr]; exact hfl
    · rw [hB] at hr; exact HA.r16 r hr
  have hlB : rows.length ≤ (rowsB off zk fl rows).length ∧ (rowsB off zk fl rows).length ≤ 41 := by
    rcases rowsB_cases off zk fl rows with ⟨hB, _⟩ | ⟨hB, _⟩ <;> rw [hB]
    · simp; omega
    · omega
  have htk : ((rowsB off zk fl rows).map lh).take rows.length = rows.map lh := by
    rcases rowsB_cases off zk fl rows with ⟨hB, _⟩ | ⟨hB, _⟩ <;> rw [hB]
    · rw [List.map_append, List.take_append_of_le_length (by simp), List.take_of_length_le (by simp)]
    · exact List.take_of_length_le (by simp)
  obtain ⟨G3, t3, O3, p2, ar3, wr3, hb, eB, HB, LB, hw3, fB, w6, w8, w9, w14, z3, hbq, hbO, hbo⟩ := stands_open T TS TO TG TD TW hk hp HA hrl (by omega) LG hc htl htl2 h16 hlB.2 hN
  obtain ⟨G4, t4, okv4, eC, HC, LC, fC, y14, z4⟩ := stands_kept T TS TW HB hrl hfl hfv LB w6 (w8.trans v8) (w9.trans v9) z3 hbq hbO hbo
  obtain ⟨G5, t5, eD, HD, LD, fD, y17⟩ := stands_same T TS TD TW hk hY hTk HC hlB.1 (by omega) htk LC (y14.trans w14) z4
  obtain ⟨G6, t6, okv6, rows6, O6, wr6, eE, HE, hr6, fE, LE⟩ := lb_loop T TD TW hk hp (h.bs.length + 1) h.bs.length d p2 rv tv za zk zg rowsT HRT hN 10 0 G5 t5 okv4 _ O3 wr3 (by omega) HD (by omega) (by omega) y17 LD
  have z5 := HE.t5
  have z7 := HE.t7
  have uo : isUnd okv6 = false := by obtain ⟨cs, oc, _⟩ := HE.ok; exact oc.und
  obtain ⟨G7, eF, fF⟩ := holds_spec T TS TW hY hTk G6 p2 okv6 rows6 O6 d 4194304 wr6 _ _ _ _ _ _ nmAudit _ LE HE.ok (by omega) (fun i hi => by
    have := HE.r16 _ (show rows6.getD i [] ∈ rows6 by rw [List.getD_eq_getElem?_getD, List.getElem?_eq_getElem hi]; exact List.getElem_mem hi)
    omega) HE.wf
  have ewk := wakes_spec T TS TO TD TW hk hp G7 hNA
  refine ⟨G7, ?_⟩
  rw [e, eA, eB, eC, eD, eE]
  simp [k9_0, z5, z7, stp_ok uo, uo, Dc_ok, eF, ewk, r9]
end Go.Ab.Aud

namespace Go.Ab.Aud
open Go.Sha
/-- digests that were given -/
def ArgDig (old : Old) (v : Value) (l : List (List UInt8)) : Prop := ∃ a cp, v = .slice a l.length cp ∧ (∀ h, DigR old h a cp l) ∧ ∀ j, ¬ Live (.slice a l.length cp) j
/-- a path, at this time -/
def DigV (old : Old) (h : AHeap) (v : Value) (l : List (List UInt8)) : Prop := ∃ a cp, v = .slice a l.length cp ∧ DigR old h a cp l
theorem DigV.fr {old : Old} {h h' : AHeap} {v : Value} {l : List (List UInt8)} (H : DigV old h v l) (f : Fr h h' (fun _ => False)) : DigV old h' v l := by
  obtain ⟨a, cp, h1, h2⟩ := H
  exact ⟨a, cp, h1, h2.fr f (fun _ _ h => h)⟩
end Go.Ab.Aud

namespace Go.Ab.Aud
open Go.Sha
section
variable {H : Type} {enc : TypeId × Value → H} {P : Program} {W : World} {spare : Nat → Bool} {held : Bool}
theorem wf_u8 {n : Int} (h : (Lit.int .u8 n).wf = true) : ∃ b : UInt8, Value.int .u8 n = bv b := by
  simp only [Lit.wf, Bool.and_eq_true, decide_eq_true_eq] at h
  have h1 : 0 ≤ n := h.1
  have h2 : n ≤ 255 := h.2
  refine ⟨UInt8.ofNat n.toNat, ?_⟩
  unfold bv
  congr 1
  rw [UInt8.toNat_ofNat']
  omega
/-- bytes -/
theorem arg_bytes {t e : Nat} {fuel : Nat} {cs : List Value} {x : DataW H × List MemPlace} (ht : P.underlying t = some (.slice e)) (hk : P.cellsOf e = 1) (he : P.underlying e = some (.int .u8)) (hsp : ∀ b, spare b = true)
    (h : DataW.trod enc P W 0 spare held fuel t cs = some x) : ∃ v av l, cs = [v] ∧ oldV v = some av ∧ ArgB (oldOf W) av l := by
  obtain ⟨v, av, a, len, cp, els, h1, h2, h3, h4, h5, h6, h7, h8⟩ := arg_slice ht hk (by omega) hsp (fun c => ∃ b, c = [bv b]) (fun n cs y _ htr => by
    obtain ⟨n, rfl, _, hw⟩ := DataW.trod_int he htr
    obtain ⟨b, hb⟩ := wf_u8 hw
    refine ⟨[bv b], ⟨rfl, fun i x hx => ?_⟩, b, rfl⟩
    cases i with
    | zero => simp at hx; subst hx; exact ⟨bv b, by rw [hb]; rfl, rfl⟩
    | succ i => simp at hx) h
  have : ∀ els : List (List Value), (∀ c, c ∈ els → (∃ b, c = [bv b]) ∧ c.length = 1) → ∃ l : List UInt8, l.length = els.length ∧ els.flatten = bytesVals l := by
    intro els
    induction els with
    | nil => exact fun _ => ⟨[], rfl, rfl⟩
    | cons c els ih =>
      intro hc
      obtain ⟨l, l1, l2⟩ := ih fun c' hc' => hc c' (by simp [hc'])
      obtain ⟨⟨b, rfl⟩, _⟩ := hc c (by simp)
      exact ⟨b :: l, by simp [l1], by simp [l2, bytesVals_eq]⟩
  obtain ⟨l, l1, l2⟩ := this els h6
  rw [l2] at h7
  refine ⟨v, av, l, h1, h2, a, cp, by rw [h3, l1, h4], fun g => by rw [l1, h4]; exact h7 g, fun j => by rw [l1, h4]; exact h8 j⟩
/-- rows of bytes -/
theorem arg_rows {t e b : Nat} {fuel : Nat} {cs : List Value} {x : DataW H × List MemPlace} (ht : P.underlying t = some (.slice e)) (he : P.underlying e = some (.slice b)) (hk : P.cellsOf b = 1) (hk2 : P.cellsOf e = 1) (hb : P.underlying b = some (.int .u8)) (hsp : ∀ b, spare b = true)
    (h : DataW.trod enc P W 0 spare held fuel t cs = some x) : ∃ v av rows, cs = [v] ∧ oldV v = some av ∧ ArgR (oldOf W) av rows ∧ rows.length ≤ maxLen := by
  obtain ⟨v, av, a, len, cp, els, h1, h2, h3, h4, h5, h6, h7, h8⟩ := arg_slice ht hk2 (by omega) hsp (fun c => ∃ y l, c = [y] ∧ ArgB (oldOf W) y l) (fun n cs y _ htr => by
    obtain ⟨v, av, l, rfl, h2, h3⟩ := arg_bytes he hk hb hsp htr
    refine ⟨[av], ⟨rfl, fun i x hx => ?_⟩, av, l, rfl, h3⟩
    cases i with
    | zero => simp at hx; subst hx; exact ⟨av, h2, rfl⟩
    | succ i => simp at hx) h
  have : ∀ els : List (List Value), (∀ c, c ∈ els → (∃ y l, c = [y] ∧ ArgB (oldOf W) y l) ∧ c.length = 1) → ∃ rows : List (List UInt8), rows.length = els.length ∧ ∀ i, i < rows.length → ∃ x, els.flatten[i]? = some x ∧ ArgB (oldOf W) x (rows.getD i []) := by
    intro els
    induction els with
    | nil => exact fun _ => ⟨[], rfl, fun i hi => by cases hi⟩
    | cons c els ih =>
      intro hc
      obtain ⟨rows, l1, l2⟩ := ih fun c' hc' => hc c' (by simp [hc'])
      obtain ⟨⟨y, l, rfl, hy⟩, _⟩ := hc c (by simp)
      refine ⟨l :: rows, by simp [l1], fun i hi => ?_⟩
      cases i with
      | zero => exact ⟨y, by simp, by simpa using hy⟩
      | succ i =>
        obtain ⟨x, hx, hB⟩ := l2 i (by simpa using hi)
        exact ⟨x, by simpa using hx, by simpa [List.getD_eq_getElem?_getD] using hB⟩
  obtain ⟨rows, l1, l2⟩ := this els h6
  exact ⟨v, av, rows, h1, h2, ⟨a, cp, els.flatten, by rw [h3, l1, h4], fun g => by rw [l1, h4]; exact h7 g, fun j => by rw [l1, h4]; exact h8 j, l2⟩, by omega⟩
end
end Go.Ab.Aud

namespace Go.Proofs.YtecbgdnoblhldaaGreatDoor.au
open Go Go.Ab Go.Ab.Aud Go.Sha
theorem cells26 : Tryz.prog.cellsOf 26 = 1 := by kernel_rfl
theorem cells41 : Tryz.prog.cellsOf 41 = 1 := by kernel_rfl
theorem cells5 : Tryz.prog.cellsOf 5 = 1 := by kernel_rfl
theorem cells3 : Tryz.prog.cellsOf 3 = 1 := by kernel_rfl
theorem OldCells.app {a a' b b' : List Value} (h : OldCells a a') (g : OldCells b b') : OldCells (a ++ b) (a' ++ b') := by
  refine ⟨by rw [List.length_append, List.length_append, h.1, g.1], fun i x hx => ?_⟩
  have hl := h.1
  by_cases hi : i < a.length
  · rw [List.getElem?_append_left hi] at hx
    rw [List.getElem?_append_left (by omega)]
    exact h.2 i x hx
  · rw [List.getElem?_append_right (by omega)] at hx
    rw [List.getElem?_append_right (by omega), ← hl]
    exact g.2 _ x hx
theorem OldCells.one {x y : Value} (h : oldV x = some y) : OldCells [x] [y] := ⟨rfl, fun i z hz => by
  cases i with
  | zero => simp at hz; subst hz; exact ⟨y, h, rfl⟩
  | succ i => simp at hz⟩
theorem cut {l : List Value} (i k : Nat) : l.drop i = (l.drop i).take k ++ l.drop (i + k) := by
  rw [← List.drop_drop, List.take_append_drop]
section
variable {H : Type} {enc : TypeId × Value → H} {W : World} {spare : Nat → Bool} {held : Bool}
end
end Go.Proofs.YtecbgdnoblhldaaGreatDoor.au

namespace Go.Proofs.YtecbgdnoblhldaaGreatDoor.au
open Go Go.Ab Go.Ab.Aud Go.Sha
theorem cells112 : Tryz.prog.cellsOf 112 = 5 := by kernel_rfl
section
variable {H : Type} {enc : TypeId × Value → H} {W : World} {spare : Nat → Bool} {held : Bool}
theorem power_arg {fuel : Nat} {cs : List Value} {x : DataW H × List MemPlace} (hsp : ∀ b, spare b = true) (h : DataW.trod enc Tryz.prog W 0 spare held fuel 112 cs = some x) :
    ∃ rv tv za zk zg rowsA rowsT, OldCells cs [rv, zv za, zv zk, zv zg, tv] ∧ ArgR (oldOf W) rv rowsA ∧ ArgR (oldOf W) tv rowsT := by
  obtain ⟨xs, m, _, _, hl, hxl, hx⟩ := DataW.trod_struct Tryz.underlying112 h
  rw [cells112] at hl
  have hxl : xs.length = 5 := hxl
  have h0 := hx 0 _ rfl
  have h1 := hx 1 _ rfl
  have h2 := hx 2 _ rfl
  have h3 := hx 3 _ rfl
  have h4 := hx 4 _ rfl
  rw [List.getElem?_eq_getElem (by omega)] at h0 h1 h2 h3 h4
  replace h0 : DataW.trod enc Tryz.prog W 0 spare held m 26 ((cs.drop 0).take (Tryz.prog.cellsOf 26)) = _ := h0
  rw [cells26] at h0
  replace h1 : DataW.trod enc Tryz.prog W 0 spare held m 3 ((cs.drop 1).take (Tryz.prog.cellsOf 3)) = _ := h1
  rw [cells3] at h1
  replace h2 : DataW.trod enc Tryz.prog W 0 spare held m 3 ((cs.drop 2).take (Tryz.prog.cellsOf 3)) = _ := h2
  rw [cells3] at h2
  replace h3 : DataW.trod enc Tryz.prog W 0 spare held m 3 ((cs.drop 3).take (Tryz.prog.cellsOf 3)) = _ := h3
  rw [cells3] at h3
  replace h4 : DataW.trod enc Tryz.prog W 0 spare held m 26 ((cs.drop 4).take (Tryz.prog.cellsOf 26)) = _ := h4
  rw [cells26] at h4
  obtain ⟨v0, rv, rowsA, v01, v02, v03, _⟩ := arg_rows Tryz.underlying26 Tryz.underlying41 cells5 cells41 Tryz.underlying5 hsp h0
  obtain ⟨za, hza, _, _⟩ := DataW.trod_int Tryz.underlying3 h1
  obtain ⟨zk, hzk, _, _⟩ := DataW.trod_int Tryz.underlying3 h2
  obtain ⟨zg, hzg, _, _⟩ := DataW.trod_int Tryz.underlying3 h3
  obtain ⟨v4, tv, rowsT, v41, v42, v43, _⟩ := arg_rows Tryz.underlying26 Tryz.underlying41 cells5 cells41 Tryz.underlying5 hsp h4
  refine ⟨rv, tv, za, zk, zg, rowsA, rowsT, ?_, v03, v43⟩
  have e4 : cs.drop 4 = (cs.drop 4).take 1 := (List.take_of_length_le (by simp; omega)).symm
  have e : cs = (cs.drop 0).take 1 ++ ((cs.drop 1).take 1 ++ ((cs.drop 2).take 1 ++ ((cs.drop 3).take 1 ++ (cs.drop 4).take 1))) := by
    rw [← e4, ← cut 3 1, ← cut 2 1, ← cut 1 1, ← cut 0 1]
    rfl
  rw [e, v01, hza, hzk, hzg, v41]
  exact OldCells.app (OldCells.one v02) (OldCells.app (OldCells.one rfl) (OldCells.app (OldCells.one rfl) (OldCells.app (OldCells.one rfl) (OldCells.one v42))))
end
end Go.Proofs.YtecbgdnoblhldaaGreatDoor.au
