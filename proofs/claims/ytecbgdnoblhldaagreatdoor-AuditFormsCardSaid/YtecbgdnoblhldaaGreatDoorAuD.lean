/-
  Steps of the proof of AuditFormsCardSaid: what functions of the program do in the abstract machine, and the laws between; no condition beside those that each theorem names.
-/
import Derived.Test.YtecbgdnoblhldaaGreatDoorAuC
import Derived.Test.YtecbgdnoblhldaaGreatDoorAuA
import Derived.Test.YtecbgdnoblhldaaGreatDoorAuB
import Derived.SizedLaws

set_option linter.unusedSimpArgs false
set_option linter.unusedVariables false
set_option linter.unusedSectionVars false

namespace Go.Ab.Aud
open Go.Sha
theorem byte_append {old : Old} {h : AHeap} {v : Value} {l : List UInt8} {n : Nat} {b : UInt8} (H : Own h 5 1 v n (bytesVals l)) (hl : n < 2 ^ 38) (hwf : h.lo ≤ h.bs.length) :
    ∃ v' h', appendV old (h.push (.cells [bv b] 6)) 5 1 1 v (.slice (some ⟨h.bs.length, 0, some 0⟩) 1 1) = some (v', h') ∧ Own h' 5 1 v' (n + 1) (bytesVals (l ++ [b])) ∧ Fr h h' (fun j => blkOf v = some j) ∧ (blkOf v' = blkOf v ∨ ∃ j, blkOf v' = some j ∧ h.bs.length ≤ j) := by
  have f1 : Fr h (h.push (.cells [bv b] 6)) (fun _ => False) := Fr.push
  obtain ⟨v', h2, e, o, f, bb⟩ := append_own (old := old) (bytes := 1) (x := .slice (some ⟨h.bs.length, 0, some 0⟩) 1 1) (m := 1) (new := [bv b]) (H.fr f1 fun _ _ h => h) (by omega) rfl
    (fun _ => by simp only [srcCells]; rw [readN_rd, push_self]; rfl) (fun h => by cases h) rfl rfl (by simp [sizeLim]; omega) (by simp; omega)
  refine ⟨v', h2, e, by rw [bytes_app]; exact o, f1.trans f (fun _ h => h.elim) (fun _ h _ => h), bb.imp_right fun h => ⟨_, h, by simp⟩⟩
variable {C : Ctx} (TW : Tab_LLaw C) (TT : Tab_LTake C)
section
include TT
theorem zero_loop (q : Nat) : ∀ (c : Nat) (L : List UInt8) (g : AHeap) (t : List Value) (v : Value), (120 - L.length % 64) % 64 = c → Own g 5 1 v L.length (bytesVals L) → (∀ j, blkOf v = some j → q ≤ j) → q ≤ g.bs.length → L.length + c < 2 ^ 38 → g.lo ≤ g.bs.length → tg t 4 = v →
    ∃ g' t' v', (∀ K, R C r64 (.inLoop lp64_0 :: .inBlock 0 :: K) t [] g = R C r64 K t' [] g') ∧ Own g' 5 1 v' (L.length + c) (bytesVals (L ++ List.replicate c 0)) ∧ (∀ j, blkOf v' = some j → q ≤ j) ∧ Fr g g' (fun j => q ≤ j) ∧ tg t' 4 = v' ∧ tg t' 2 = tg t 2 ∧ tg t' 3 = tg t 3 ∧ tg t' 0 = tg t 0 := by
  intro c
  induction c with
  | zero =>
    intro L g t v hc ho hv hq hl wf t4
    have uv := ho.und
    have lv := ho.lenV
    have h56 : L.length % 64 = 56 := by omega
    obtain ⟨t', e, u4, u2, u3, u0⟩ : ∃ t', (∀ K, R C r64 (.inLoop lp64_0 :: .inBlock 0 :: K) t [] g = R C r64 K t' [] g) ∧ tg t' 4 = tg t 4 ∧ tg t' 2 = tg t 2 ∧ tg t' 3 = tg t 3 ∧ tg t' 0 = tg t 0 := by
      refine ex_step (fun k => R_open lp64_0.eq_1) ?_
      simp [t4, stp_ok uv, lv, iv_rem (a := L.length) (b := 64) (by omega) (by omega), h56]
      exact ⟨_, fun _ => rfl, by simp [t4], by simp, by simp, by simp⟩
    exact ⟨g, t', v, e, by simpa using ho, hv, Fr.refl _ _, u4.trans t4, u2, u3, u0⟩
  | succ c ih =>
    intro L g t v hc ho hv hq hl wf t4
    have uv := ho.und
    have lv := ho.lenV
    have h56 : ¬ L.length % 64 = 56 := by omega
    have hz : Value.int .u8 0 = bv 0 := rfl
    obtain ⟨v1, g1, e1, o1, f1, b1⟩ := byte_append (old := C.old) (b := 0) ho (by omega) wf
    have u1 := o1.und
    obtain ⟨t1, e, u4, u2, u3, u0⟩ : ∃ t', (∀ K, R C r64 (.inLoop lp64_0 :: .inBlock 0 :: K) t [] g = R C r64 (.inLoop lp64_0 :: .inBlock 0 :: K) t' [] g1) ∧ tg t' 4 = v1 ∧ tg t' 2 = tg t 2 ∧ tg t' 3 = tg t 3 ∧ tg t' 0 = tg t 0 := by
      refine ex_step (fun k => R_open lp64_0.eq_1) ?_
      simp [t4, stp_ok uv, lv, iv_rem (a := L.length) (b := 64) (by omega) (by omega), h56, hz, fillCells, splice, e1, stp_ok u1]
      exact ⟨_, fun _ => rfl, by simp, by simp, by simp, by simp⟩
    have l1 := f1.len
    have hv1 : ∀ j, blkOf v1 = some j → q ≤ j := fun j hj => by
      rcases b1 with b1 | ⟨k, b1, b2⟩
      · exact hv j (by rw [← b1]; exact hj)
      · rw [b1] at hj; cases hj; omega
    obtain ⟨g2, t2, v2, e2, o2, hv2, f2, w4, w2, w3, w0⟩ := ih (L ++ [0]) g1 t1 v1 (by simp; omega) (by simpa using o1) hv1 (by omega) (by simp; omega) (by rw [f1.lo]; omega) u4
    refine ⟨g2, t2, v2, fun K => (e K).trans (e2 K), ?_, hv2, f1.trans f2 (fun j hj => hv j hj) (fun _ h _ => h), w4, w2.trans u2, w3.trans u3, w0.trans u0⟩
    have e3 : L ++ [0] ++ List.replicate c (0 : UInt8) = L ++ List.replicate (c + 1) 0 := by rw [List.append_assoc]; rfl
    rw [e3] at o2
    have e4 : (L ++ [0]).length + c = L.length + (c + 1) := by simp; omega
    rw [e4] at o2
    exact o2
end
include TW TT
set_option maxHeartbeats 4000000 in
theorem rsum_spec (h : AHeap) (l : List UInt8) (a : Option Addr) (m cp : Nat) (hs : SlR C.old h 1 (.slice a m cp) (bytesVals l)) (hm : m < 2 ^ 26) : D C 64 [.slice a m cp] h = some (.agg ⟨bytesVals (sha l)⟩, h) := by
  have hlen : l.length = m := by have := hs.len; simpa using this
  rw [D_fn2 TT.h64]
  generalize hh0 : ({ h with lo := h.bs.length } : AHeap) = h0
  have h0lo : h0.lo = h0.bs.length := by rw [← hh0]
  have S0 : SlR C.old h0 1 (.slice a m cp) (bytesVals l) := by rw [← hh0]; exact hs.lo
  suffices hR : ∃ g, R C r64 [.code b64] [.slice a m cp] [] h0 = some (.agg ⟨bytesVals (sha l)⟩, g) by
    obtain ⟨g, hR⟩ := hR
    rw [hR]; exact pur_some flat_bytes
  have hz : Value.int .u8 0 = bv 0 := rfl
  have h80 : Value.int .u8 128 = bv 128 := rfl
  have hz4 : Value.int .u32 0 = wv 0#32 := rfl
  have wl : ∀ s : S8, (ws s).length = 8 := fun _ => rfl
  have wok : ∀ s : S8, ∀ x, x ∈ ws s → okCell x = true := fun s => List.all_eq_true.1 ws_ok
  generalize hZ : ABlock.cells (List.replicate 32 (bv 0)) 31 = Z
  have hZ0 := hZ
  simp [List.replicate] at hZ
  generalize hY : ABlock.cells (List.replicate 8 (wv 0#32)) 215 = Y
  have hY0 := hY
  simp [List.replicate] at hY
  generalize hA : h0.push Z = A
  have fA : Fr h0 A (fun _ => False) := by rw [← hA]; exact Fr.push
  have aL : A.bs.length = h0.bs.length + 1 := by rw [← hA]; simp
  have aO := fA.lo
  have az : A.at h0.bs.length = some Z := by rw [← hA]; exact push_self
  obtain ⟨B, hB, zB, B3, bL, bO, fB⟩ := new_step (g := A) (vs := ws Go.Sha.iv) hY0
  have wB := wr_all hY0 (vs := ws Go.Sha.iv) (by simp [wl]) ws_ok
  have hfill : splice (splice (splice (splice (splice (splice (splice (splice (List.replicate 8 (wv 0#32)) 0 [.int .u32 1779033703]) 1 [.int .u32 3144134277]) 2 [.int .u32 1013904242]) 3 [.int .u32 2773480762]) 4 [.int .u32 1359893119]) 5 [.int .u32 2600822924]) 6 [.int .u32 528734635]) 7 [.int .u32 1541459225] = ws Go.Sha.iv := by rfl
  obtain ⟨c, vc, ec, oc', fc, bc⟩ := copy_spec TW B l a m cp ((S0.fr fA (fun _ _ h => h)).fr fB (fun _ _ h => h)) (by omega) (by omega)
  have cL := fc.len
  have cO := fc.lo
  obtain ⟨v1, g1, e1, o1, f1, b1⟩ := byte_append (old := C.old) (b := 128) oc' (by omega) (by omega)
  have l1 := f1.len
  have g1O := f1.lo
  have uc := oc'.und
  have u1 := o1.und
  have bV1 : ∀ j, blkOf v1 = some j → B.bs.length ≤ j := fun j hj => by
    rcases b1 with b1 | ⟨k, b1, b2⟩
    · exact bc j (by rw [← b1]; exact hj)
    · rw [b1] at hj; cases hj; omega
  have f01 : Fr B g1 (fun _ => False) := fc.trans f1 (fun _ h => h) (fun j hj hl => by have := bc j hj; omega)
  have lo1 : h0.lo ≤ A.bs.length := by omega
  obtain ⟨t1, et1, x0, x2, x3, x4⟩ : ∃ t', R C r64 [.code b64] [.slice a m cp] [] h0 = R C r64 (.inLoop lp64_0 :: .inBlock 0 :: [.code k64_2]) t' [] g1 ∧ tg t' 0 = .slice a m cp ∧ tg t' 2 = .pointer (some ⟨h0.bs.length, 0, some 0⟩) ∧ tg t' 3 = .pointer (some ⟨A.bs.length, 0, some 0⟩) ∧ tg t' 4 = v1 := by
    have hf := hfill
    simp [List.replicate, splice] at hf
    simp [b64, hz, h80, hz4, hZ, hA, fillCells, splice, hf, hY, wl, eq_true (wok Go.Sha.iv), writeN_wr, aO, lo1, zB, wB, hB, Dc_ok, ec, stp_ok uc, uc, e1, stp_ok u1]
    exact ⟨_, rfl, by simp, by simp, by simp, by simp⟩
  have hl1 : (l ++ [128] : List UInt8).length = m + 1 := by simp [hlen]
  obtain ⟨g2, t2, v2, e2, o2, bV2, f2, y4, y2, y3, y0⟩ := zero_loop TT B.bs.length ((120 - (l ++ [128] : List UInt8).length % 64) % 64) (l ++ [128]) g1 t1 v1 rfl (by rw [hl1]; exact o1) bV1 (by omega) (by omega) (by omega) x4
  rw [x2] at y2; rw [x3] at y3; rw [x0] at y0
  have l2 := f2.len
  have g2O := f2.lo
  obtain ⟨g3, na, ncp, e3, s3, f3, lv3⟩ := number_spec TT g2 (8 * m) (by omega)
  have l3 := f3.len
  have g3O := f3.lo
  have o2' := o2.fr f3 (fun _ _ h => h)
  obtain ⟨v4, g4, e4, o4, f4, b4⟩ := append_own (old := C.old) (bytes := 1) (x := .slice na 8 ncp) (m := 8) (new := bytesVals (be64 (8 * m))) o2' (by omega) rfl (fun hn => by have := s3.src (by omega); simpa using this) (fun h => by cases h) (by rfl) bytes_ok (by simp [sizeLim, hlen]; omega) (by omega)
  have hpad : bytesVals (l ++ [128] ++ List.replicate ((120 - (l ++ [128] : List UInt8).length % 64) % 64) 0) ++ bytesVals (be64 (8 * m)) = bytesVals (pad l) := by
    rw [← bytes_app]
    congr 1
    unfold pad zeros
    rw [hl1, hlen]
    have : (120 - (m + 1) % 64) % 64 = (119 - m % 64) % 64 := by omega
    rw [this]
    simp
  rw [hpad] at o4
  have hpl : (l ++ [128] : List UInt8).length + (120 - (l ++ [128] : List UInt8).length % 64) % 64 + 8 = (pad l).length := by
    have := congrArg List.length hpad
    rw [List.length_append, bytes_len, bytes_len, bytes_len, List.length_append, List.length_replicate] at this
    have h8 : (be64 (8 * m)).length = 8 := rfl
    omega
  rw [hpl] at o4
  have bV4 : ∀ j, blkOf v4 = some j → B.bs.length ≤ j := fun j hj => by
    rcases b4 with b4 | b4
    · exact bV2 j (by rw [← b4]; exact hj)
    · rw [b4] at hj; cases hj; omega
  have F14 : Fr g1 g4 (fun j => B.bs.length ≤ j) := (f2.trans f3 (S'' := fun j => B.bs.length ≤ j) (fun _ h => h) (fun _ h _ => h.elim)).trans f4 (fun _ h => h) (fun j hj _ => bV2 j hj)
  have l4 := F14.len
  have g4O := F14.lo
  have k3 : g4.at A.bs.length = some (.cells (ws Go.Sha.iv) 215) := F14.get (f01.get B3 (fun h => h)) (by omega)
  have kz : g4.at h0.bs.length = some Z := F14.get (f01.get (fB.get az (fun h => h)) (fun h => h)) (by omega)
  have u2 := o2.und
  have u4 := o4.und
  obtain ⟨t5, e5, z2, z3, z4, z5⟩ : ∃ t', R C r64 [.code k64_2] t2 [] g2 = R C r64 (.inLoop lp64_1 :: .inBlock 2 :: [.code k64_1]) t' [] g4 ∧ tg t' 2 = .pointer (some ⟨h0.bs.length, 0, some 0⟩) ∧ tg t' 3 = .pointer (some ⟨A.bs.length, 0, some 0⟩) ∧ tg t' 4 = v4 ∧ tg t' 5 = Go.Ab.iv 0 := by
    simp [k64_2, y4, y0, stp_ok u2, u2, cvt_iu (show m < 18446744073709551616 by omega), uv_mul (a := 8) (b := m) (by omega), Dc_ok, e3, e4, stp_ok u4]
    exact ⟨_, rfl, by simp [y2], by simp [y3], by simp, by simp⟩
  have hp0 := pad_len l
  have hpb : (pad l).length < 2 ^ 40 := by rw [← hpl, hl1]; omega
  obtain ⟨g6, t6, e6, k6, f6, w3, w2⟩ := sum_loop TT A.bs.length (pad l) v4 (fun hc => by have := bV4 _ hc; omega) hpb ((pad l).length / 64) 0 Go.Sha.iv g4 t5 (by omega) k3 o4 (by omega) z3 z4 z5
  rw [List.drop_zero] at k6
  rw [z2] at w2
  have l6 := f6.len
  have g6O := f6.lo
  have kz6 := f6.get kz (by omega)
  generalize hS : shaN ((pad l).length / 64) Go.Sha.iv (pad l) = S at k6
  have ko : ABlock.cells (oc S 0) 31 = Z := by rw [oc_zero, hZ0]
  have f7 : Fr g6 (g6.push Z) (fun _ => False) := Fr.push
  obtain ⟨t7, e7, p2, p3, p6, p7⟩ : ∃ t', R C r64 [.code k64_1] t6 [] g6 = R C r64 (.inLoop lp64_2 :: .inBlock 4 :: [.code k64_0]) t' [] (g6.push Z) ∧ tg t' 2 = .pointer (some ⟨h0.bs.length, 0, some 0⟩) ∧ tg t' 3 = .pointer (some ⟨A.bs.length, 0, some 0⟩) ∧ tg t' 6 = .pointer (some ⟨g6.bs.length, 0, some 0⟩) ∧ tg t' 7 = Go.Ab.iv 0 := by
    simp [k64_1, hz, hZ]
    exact ⟨_, rfl, by simp [w2], by simp [w3], by simp, by simp⟩
  obtain ⟨g8, t8, e8, k8, f8, r6, r2⟩ := out_loop TT S A.bs.length g6.bs.length (by omega) 32 0 (g6.push Z) t7 rfl (f7.get k6 (fun h => h)) (by rw [ko]; exact push_self) (by simp; omega) p3 p6 p7
  rw [oc_all] at k8
  have kz8 := f8.get (f7.get kz6 (fun h => h)) (by omega)
  have osl : (out S).length = 32 := rfl
  have ro : rdN (some (.cells (bytesVals (out S)) 31)) 0 0 32 = some (bytesVals (out S)) := rd32 osl
  have wz := wr_arr (n := 32) hZ0 (vs := bytesVals (out S)) (by simp [osl]) bytes_ok
  have g8O := f8.lo
  have lo8 : g8.lo ≤ h0.bs.length := by rw [f8.lo, push_lo]; omega
  have hsha : sha l = out S := by rw [sha_pad, hS]
  refine ⟨g8.put h0.bs.length (.cells (bytesVals (out S)) 31), ?_⟩
  rw [et1, e2, e5, e6, e7, e8, hsha]
  rw [p2] at r2
  simp [k64_0, r2, r6, k8, ro, osl, writeN_wr, lo8, kz8, wz, r64, resV, put_self (get_lt kz8), rd32 osl]
end Go.Ab.Aud

namespace Go.Ab.Aud
open Go.Sha
theorem mm_min {a b : Nat} : mm false (iv a) (iv b) = some (iv (min a b)) := by
  simp only [mm, iv, Bool.false_eq_true, if_false]
  congr 2
  split <;> omega
theorem formL_len (g : Bool) (p a d : List UInt8) : (formL g p a d).length = 101 + (p.take 256).length := by
  simp [formL, be_length, sha_length]; omega
variable {C : Ctx} (T : Tab_LLog C) (TD : Tab_LDig C) (TM : Tab_LForm C) (hk : ∀ j, j < 64 → C.old 0 j = some (wv (kW j)))
include T TM TD hk
set_option maxHeartbeats 4000000 in
theorem form_spec (h : AHeap) (g : Bool) (p a d : List UInt8) (hp : p.length < 2 ^ 36) (ha : a.length < 2 ^ 36) (hd : d.length < 2 ^ 36) (hwf : h.lo ≤ h.bs.length) :
    ∃ h' v, D C 38 [.agg ⟨[.bool g, str p, str a, str d]⟩] h = some (v, h') ∧ Own h' 5 1 v (formL g p a d).length (bytesVals (formL g p a d)) ∧ Fr h h' (fun _ => False) ∧ (∀ j, blkOf v = some j → h.bs.length ≤ j) := by
  generalize hX : ABlock.cells [.bool g, str p, str a, str d] 108 = X
  have hX0 := hX
  have f1 : Fr h (h.push X) (fun _ => False) := Fr.push
  have x1 : (h.push X).at h.bs.length = some X := push_self
  have q1l : (h.push X).bs.length = h.bs.length + 1 := by simp
  generalize hh1 : h.push X = h1 at *
  have f2 : Fr h1 (h1.push (.cells [.slice none 0 0, iv 0] 176)) (fun _ => False) := Fr.push
  have w2 : WrAt (h1.push (.cells [.slice none 0 0, iv 0] 176)) h1.bs.length 175 (.slice none 0 0) [] := ⟨push_self, .nil, by simp [blkOf], by simp; have := f1.lo; omega⟩
  have x2 := f2.get x1 (fun h => h)
  have q2l : (h1.push (.cells [.slice none 0 0, iv 0] 176)).bs.length = h1.bs.length + 1 := by simp
  generalize hh2 : h1.push (.cells [.slice none 0 0, iv 0] 176) = h2 at *
  have o1 := f1.lo
  have o2 := f2.lo
  obtain ⟨h3, v3, e3, w3, f3, b3⟩ := flag_spec T TM h2 h1.bs.length 175 (.slice none 0 0) [] g w2 (by omega) (by simp)
  have l3 := f3.len
  have o3 := f3.lo
  have n3 : h.bs.length ≠ h1.bs.length := by omega
  have x3 := f3.get x2 (fun hc => hc.elim n3 (fun hc => by cases hc))
  have hb3 : ∀ j, blkOf v3 = some j → h1.bs.length < j := fun j hj => by
    rcases b3 with b | ⟨i, b, hi⟩ <;> rw [b] at hj
    · cases hj
    · cases hj; omega
  have htl : (p.take 256).length = min p.length 256 := by rw [List.length_take]; omega
  obtain ⟨h4, v4, e4, w4, f4, b4⟩ := text_spec T TM h3 h1.bs.length 175 v3 _ (p.take 256) w3 (by omega) (by simp [be_length]) (by omega)
  have l4 := f4.len
  have o4 := f4.lo
  have x4 := f4.get x3 (fun hc => hc.elim n3 (fun hc => by have := hb3 _ hc; omega))
  obtain ⟨h5, v5, e5, own5, f5, b5⟩ := done_spec T TM h4 h1.bs.length 175 v4 _ w4 (by omega) (by simp [be_length]; omega)
  have l5 := f5.len
  have o5 := f5.lo
  have x5 := f5.get x4 (fun h => h)
  have u5 := own5.und
  have F5 : Fr h h5 (fun _ => False) := by
    refine (((f1.trans f2 (fun _ h => h) (fun _ h _ => h)).trans f3 (S'' := fun _ => False) (fun _ h => h) ?_).trans f4 (S'' := fun _ => False) (fun _ h => h) ?_).trans f5 (fun _ h => h) (fun _ h _ => h)
    · intro j hj hl
      rcases hj with hj | hj
      · omega
      · cases hj
    · intro j hj hl
      rcases hj with hj | hj
      · omega
      · have := hb3 j hj; omega
  generalize hc5 : [] ++ be 1 (if g then 1 else 0) ++ (be 4 (p.take 256).length ++ p.take 256) = c5 at *
  have hc5l : c5.length ≤ 300 := by rw [← hc5]; simp [be_length]; omega
  have f6 : Fr h5 (h5.push (.cells (strs [p, a, d]) 10)) (fun _ => False) := Fr.push
  have s6 : (h5.push (.cells (strs [p, a, d]) 10)).at h5.bs.length = some (.cells (strs [p, a, d]) 10) := push_self
  have own6 := own5.fr f6 fun _ _ h => h
  obtain ⟨t, e, t4, t35, t36, t37⟩ : ∃ t, R C r38 [.code b38] [.agg ⟨[.bool g, str p, str a, str d]⟩] [] h = R C r38 [.inLoop lp38_0, .inBlock 0, .code k38_0] t [] (h5.push (.cells (strs [p, a, d]) 10)) ∧ tg t 4 = v5 ∧ tg t 35 = .slice (some ⟨h5.bs.length, 0, some 0⟩) 3 3 ∧ tg t 36 = iv 3 ∧ tg t 37 = iv 0 := by
    have r0 : rd1 (some X) 0 0 = some (.bool g) := by rw [← hX0]; rfl
    have r1 : rd1 (some X) 1 0 = some (str p) := by rw [← hX0]; rfl
    have r2 : rd1 (some X) 2 0 = some (str a) := by rw [← hX0]; rfl
    have r3 : rd1 (some X) 3 0 = some (str d) := by rw [← hX0]; rfl
    have sl := slcSv_str (h := h3) (s := p) (lo := none) (hi := some ((min p.length 256 : Nat) : Int)) (l := 0) (u := min p.length 256) rfl rfl (by omega) (by omega)
    have hmin : (p.drop 0).take (min p.length 256 - 0) = p.take 256 := by
      rw [List.drop_zero, Nat.sub_zero, Nat.min_def]
      split
      · rw [List.take_of_length_le (by omega), List.take_of_length_le (by omega)]
      · rfl
    rw [hmin] at sl
    have us5 : strs [p, a, d] = [str p, str a, str d] := rfl
    simp [b38, hX, hh1, hh2, x2, x3, x4, x5, r0, r1, r2, r3, Dv, Dc_ok, e3, mm_min, sl, e4, e5, stp_ok u5, u5, fillCells, splice, us5]
    exact ⟨_, rfl, by simp, by simp, by simp, by simp⟩
  have l6 := f6.len
  have o6 := f6.lo
  generalize hh6 : h5.push (.cells (strs [p, a, d]) 10) = h6 at *
  have hbv5 : ∀ j, blkOf v5 = some j → j ≠ h5.bs.length := fun j hj => by have := own5.blk hj; omega
  obtain ⟨h7, t7, v7, e7, own7, f7, b7, y4, y35, y36, y37⟩ := form_round T TD TM hk 0 h5.bs.length _ [p, a, d] v5 c5 h6 t 10 (by simp) (by simp) s6 own6 (by simp; omega) (by omega) (by omega) t4 t35 t36 t37
  have l7 := f7.len
  have o7 := f7.lo
  have s7 := f7.get s6 (fun hc => hbv5 _ hc rfl)
  have hbv7 : ∀ j, blkOf v7 = some j → j ≠ h5.bs.length := fun j hj => by
    rcases b7 with b | ⟨i, b, hi⟩ <;> rw [b] at hj
    · exact hbv5 j hj
    · cases hj; have := get_lt s6; omega
  obtain ⟨h8, t8, v8, e8, own8, f8, b8, z4, z35, z36, z37⟩ := form_round T TD TM hk 1 h5.bs.length _ [p, a, d] v7 _ h7 t7 10 (by simp) (by simp) s7 own7 (by simp; omega) (by omega) (by omega) y4 (by rw [y35]; exact t35) (by rw [y36]; exact t36) y37
  have l8 := f8.len
  have o8 := f8.lo
  have s8 := f8.get s7 (fun hc => hbv7 _ hc rfl)
  obtain ⟨h9, t9, v9, e9, own9, f9, b9, a4, a35, a36, a37⟩ := form_round T TD TM hk 2 h5.bs.length _ [p, a, d] v8 _ h8 t8 10 (by simp) (by simp) s8 own8 (by simp; omega) (by omega) (by omega) z4 (by rw [z35, y35]; exact t35) (by rw [z36, y36]; exact t36) z37
  have hb5' := b5
  have hfresh : ∀ j, blkOf v9 = some j → h.bs.length ≤ j := by
    have L5 := F5.len
    have k5 : ∀ j, blkOf v5 = some j → h.bs.length ≤ j := fun j hj => by have := hb5' j hj; omega
    have k7 : ∀ j, blkOf v7 = some j → h.bs.length ≤ j := fun j hj => by
      rcases b7 with b | ⟨i, b, hi⟩ <;> rw [b] at hj
      · exact k5 j hj
      · cases hj; omega
    have k8 : ∀ j, blkOf v8 = some j → h.bs.length ≤ j := fun j hj => by
      rcases b8 with b | ⟨i, b, hi⟩ <;> rw [b] at hj
      · exact k7 j hj
      · cases hj; omega
    intro j hj
    rcases b9 with b | ⟨i, b, hi⟩ <;> rw [b] at hj
    · exact k8 j hj
    · cases hj; omega
  have hF : Fr h h9 (fun _ => False) := by
    have L5 := F5.len
    have k5 : ∀ j, blkOf v5 = some j → h.bs.length ≤ j := fun j hj => by have := hb5' j hj; omega
    have k7 : ∀ j, blkOf v7 = some j → h.bs.length ≤ j := fun j hj => by
      rcases b7 with b | ⟨i, b, hi⟩ <;> rw [b] at hj
      · exact k5 j hj
      · cases hj; omega
    have k8 : ∀ j, blkOf v8 = some j → h.bs.length ≤ j := fun j hj => by
      rcases b8 with b | ⟨i, b, hi⟩ <;> rw [b] at hj
      · exact k7 j hj
      · cases hj; omega
    refine ((F5.trans f6 (S'' := fun _ => False) (fun _ h => h) (fun _ h _ => h)).trans f7 (S'' := fun _ => False) (fun _ h => h) ?_ |>.trans f8 (S'' := fun _ => False) (fun _ h => h) ?_).trans f9 (fun _ h => h) ?_
    · intro j hj hl; have := k5 j hj; omega
    · intro j hj hl; have := k7 j hj; omega
    · intro j hj hl; have := k8 j hj; omega
  refine ⟨h9, v9, ?_, ?_, hF, hfresh⟩
  · rw [D_fn TM.h38, e, e7, e8, e9, R_open lp38_0.eq_1]
    have u9 := own9.und
    simp [a36, z36, y36, t36, a37, k38_0, a4, stp_ok u9, u9, r38]
  · have hc : c5 ++ sha ([p, a, d].getD 0 []) ++ sha ([p, a, d].getD 1 []) ++ sha ([p, a, d].getD 2 []) = formL g p a d := by
      rw [← hc5]; simp [formL]
    rw [hc] at own9
    have hn : c5.length + 32 + 32 + 32 = (formL g p a d).length := by rw [← hc]; simp [sha_length]
    rw [← hn]; exact own9
end Go.Ab.Aud

namespace Go.Ab.Aud
open Go.Sha
theorem sub1 {i : Nat} (hi : i < 1000) : abin .sub (iv i) (iv 1) = some (.int .i64 ((i : Int) - 1)) := by
  simp only [abin, abinI, iv]
  rw [wrapi64 _ (by omega) (by omega)]; rfl
theorem geq0 {z : Int} : abin .geq (.int .i64 z) (iv 0) = some (.bool (decide (0 ≤ z))) := nr rfl
theorem ofNat_mod {n : Nat} : UInt8.ofNat (n % 256) = UInt8.ofNat n := by
  apply UInt8.toNat_inj.1
  rw [UInt8.toNat_ofNat', UInt8.toNat_ofNat']
  omega
variable {C : Ctx} (T : Tab_LLog C) (TT : Tab_LTake C) (TM : Tab_LForm C)
include TM
theorem nr_round (g : AHeap) (q i n : Nat) (c : List Value) (z : Value) (t : List Value) (hq : g.at q = some (.cells c 6)) (hc : c.length = 4) (hi : i < 4) (hn : n < 2 ^ 32) (hlo : g.lo ≤ q) (hz : abin .sub (iv i) (iv 1) = some z) (hz2 : isUnd z = false)
    (t0 : tg t 0 = uv n) (t6 : tg t 6 = .slice (some ⟨q, 0, some 0⟩) 4 4) (t7 : tg t 7 = iv i) :
    ∃ g' t', (∀ K, R C r76 (.inLoop lp76_0 :: .inBlock 0 :: K) t [] g = R C r76 (.inLoop lp76_0 :: .inBlock 0 :: K) t' [] g') ∧ g' = g.put q (.cells (c.set i (bv (UInt8.ofNat n))) 6) ∧ g'.at q = some (.cells (c.set i (bv (UInt8.ofNat n))) 6) ∧ g'.lo ≤ q ∧ tg t' 0 = uv (n / 256) ∧ tg t' 6 = .slice (some ⟨q, 0, some 0⟩) 4 4 ∧ tg t' 7 = z := by
  have hst : ∃ t', (∀ K, R C r76 (.inLoop lp76_0 :: .inBlock 0 :: K) t [] g = R C r76 (.inLoop lp76_0 :: .inBlock 0 :: K) t' [] (g.put q (.cells (c.set i (bv (UInt8.ofNat n))) 6))) ∧ tg t' 0 = uv (n / 256) ∧ tg t' 6 = .slice (some ⟨q, 0, some 0⟩) 4 4 ∧ tg t' 7 = z := by
    refine ex_step (fun k => R_open lp76_0.eq_1) ?_
    have hw : wr1 g q (some (.cells c 6)) i 0 (bv (UInt8.ofNat n)) = some (g.put q (.cells (c.set i (bv (UInt8.ofNat n))) 6)) := by rw [wr1_cells (by omega) rfl]
    simp [t0, t6, t7, uv_rem, ixS_iv hi, write1_wr, hlo, hq, ofNat_mod, hw, uv_quo (a := n) (b := 256) (by omega) (by omega), hz, stp_ok hz2]
    exact ⟨_, fun _ => rfl, by simp, by simp [t6], by simp⟩
  obtain ⟨t', e, h0, h6, h7⟩ := hst
  exact ⟨_, t', e, rfl, put_self (get_lt hq), by simpa using hlo, h0, h6, h7⟩
theorem nref_spec (h : AHeap) (n : Nat) (hn : n < 2 ^ 32) (hwf : h.lo ≤ h.bs.length) :
    D C 76 [uv n, iv 4] h = some (.tuple #[.slice (some ⟨h.bs.length, 0, some 0⟩) 4 4, .bool true], h.push (.cells (bytesVals (be 4 n)) 6)) := by
  rw [D_fn TM.h76]
  generalize hq : h.bs.length = q at *
  have z0 : (h.push (.cells [bv 0, bv 0, bv 0, bv 0] 6)).at q = some (.cells [bv 0, bv 0, bv 0, bv 0] 6) := by rw [← hq]; exact push_self
  obtain ⟨t, e, t0, t6, t7⟩ : ∃ t, R C r76 [.code b76] [uv n, iv 4] [] h = R C r76 [.inLoop lp76_0, .inBlock 0, .code k76_0] t [] (h.push (.cells [bv 0, bv 0, bv 0, bv 0] 6)) ∧ tg t 0 = uv n ∧ tg t 6 = .slice (some ⟨q, 0, some 0⟩) 4 4 ∧ tg t 7 = iv 3 := by
    have hz : Value.int .u8 0 = bv 0 := rfl
    simp [b76, zeroFill, hq, hz, sizeLim, iv_sub, List.replicate]
    exact ⟨_, rfl, by simp, by simp, by simp⟩
  rw [e]
  have hs0 : abin .sub (iv 0) (iv 1) = some (.int .i64 (-1)) := sub1 (i := 0) (by omega)
  obtain ⟨g1, t1, e1, x1, y1, z1, a0, a6, a7⟩ := nr_round TM _ q 3 n _ (iv 2) t z0 rfl (by omega) hn (by simp; omega) (iv_sub (by omega) (by omega)) rfl t0 t6 t7
  obtain ⟨g2, t2, e2, x2, y2, z2, b0, b6, b7⟩ := nr_round TM g1 q 2 (n / 256) _ (iv 1) t1 y1 rfl (by omega) (by omega) z1 (iv_sub (by omega) (by omega)) rfl a0 a6 a7
  obtain ⟨g3, t3, e3, x3, y3, z3, c0, c6, c7⟩ := nr_round TM g2 q 1 (n / 256 / 256) _ (iv 0) t2 y2 rfl (by omega) (by omega) z2 (iv_sub (by omega) (by omega)) rfl b0 b6 b7
  obtain ⟨g4, t4, e4, x4, y4, z4, d0, d6, d7⟩ := nr_round TM g3 q 0 (n / 256 / 256 / 256) _ (.int .i64 (-1)) t3 y3 rfl (by omega) (by omega) z3 hs0 rfl c0 c6 c7
  rw [e1, e2, e3, e4, R_open lp76_0.eq_1]
  have hx : n / 256 / 256 / 256 / 256 = 0 := by omega
  rw [hx] at d0
  have hb : g4 = h.push (.cells (bytesVals (be 4 n)) 6) := by
    rw [x4, x3, x2, x1, put_put, put_put, put_put, ← hq]
    simp [AHeap.push, AHeap.put, be, bytesVals_eq, Nat.div_div_eq_div_mul]
  rw [← hb]
  simp [d7, geq0, k76_0, d6, d0, r76]
end Go.Ab.Aud

namespace Go.Ab.Aud
open Go.Sha
/-- appending to a literal of one element -/
theorem append_lit1 {old : Old} {h : AHeap} {e k bytes m b fz : Nat} {x : Value} {c new : List Value} (hb : h.at b = some (.cells c fz)) (hc : c.length = k) (hco : c.all okCell = true) (hk : 0 < k) (hm : m ≠ 0) (hl : srcLen x = some m)
    (hs : srcCells old h k m x = some new) (hnl : new.length = m * k) (ho : new.all okCell = true) (hz : (1 + m) * bytes ≤ sizeLim) (hlo : h.lo ≤ h.bs.length) :
    ∃ v' h', appendV old h e k bytes (.slice (some ⟨b, 0, some 0⟩) 1 1) x = some (v', h') ∧ Own h' e k v' (1 + m) (c ++ new) ∧ Fr h h' (fun _ => False) ∧ blkOf v' = some h.bs.length := by
  have hmk : (1 + m) * k = k + m * k := by rw [Nat.add_mul, Nat.one_mul]
  refine ⟨.slice (some ⟨h.bs.length, 0, some ((1 + m) * k + 1)⟩) (1 + m) 0, h.push (.grow (c ++ new) 0 (e + 1) k), ?_, .inr ⟨h.bs.length, c ++ new, 0, by rw [List.length_append, hc, hnl, hmk], push_self, by omega, by rw [List.length_append, hc, hnl, hmk]; omega, ?_, hlo⟩, Fr.push, rfl⟩
  · have i0 : isRest ⟨b, 0, some 0⟩ 1 = false := rfl
    have r2 : readN old h ⟨b, 0, some 0⟩ (1 * k) = some c := by
      rw [Nat.one_mul, readN_cells hb (by omega), List.drop_zero, List.take_of_length_le (by omega)]
    unfold appendV
    simp only [hl, hs, i0, Bool.false_eq_true, if_false, r2]
    rw [if_neg hm, if_neg (by omega)]
    unfold appendNew
    rw [if_neg (by omega)]
    simp only
    rw [if_pos ⟨hz, by rw [List.all_append, hco, ho]; rfl, by rw [List.length_append, hc, hnl, hmk], hk⟩]
  · rw [List.take_of_length_le (by rw [List.length_append, hc, hnl, hmk]; omega)]
variable {C : Ctx} (T : Tab_LLog C) (TD : Tab_LDig C) (TW : Tab_LLaw C) (hk : ∀ j, j < 64 → C.old 0 j = some (wv (kW j)))
include T TD TW hk
end Go.Ab.Aud

namespace Go.Ab.Aud
open Go.Sha
def fk3 : ACode := s2 (s2 (s2 b37))
def fk5 : ACode := s2 (s2 fk3)
theorem fk_a : b37 = .seq (s1 b37) (.seq (s1 (s2 b37)) (.seq (s1 (s2 (s2 b37))) fk3)) := rfl
theorem fk_b : fk3 = .seq (s1 fk3) (.seq (s1 (s2 fk3)) fk5) := rfl
variable {C : Ctx} (T : Tab_LLog C) (TW : Tab_LLaw C) (TT : Tab_LTake C) (TM : Tab_LForm C)
include TW TT
theorem sha_box (g : AHeap) (s : List UInt8) (Z : ABlock) (hZ : ABlock.cells (List.replicate 32 (bv 0)) 31 = Z) (hs : s.length < 2 ^ 26) (hwf : g.lo ≤ g.bs.length) :
    ∃ g1 g2, g.push (.grow (bytesVals s) 0 6 1) = g1 ∧ D C 64 [.slice (some ⟨g.bs.length, 0, some (s.length + 1)⟩) s.length 0] g1 = some (.agg ⟨bytesVals (sha s)⟩, g1) ∧ wrN (g1.push Z) g1.bs.length (some Z) 0 0 (bytesVals (sha s)) = some g2 ∧
      (g1.push Z).at g1.bs.length = some Z ∧ g2.at g1.bs.length = some (.cells (bytesVals (sha s)) 31) ∧ Fr g g2 (fun _ => False) ∧ g1.lo = g.lo ∧ g1.bs.length = g.bs.length + 1 ∧ g2.bs.length = g.bs.length + 2 := by
  refine ⟨_, ((g.push (.grow (bytesVals s) 0 6 1)).push Z).put (g.push (.grow (bytesVals s) 0 6 1)).bs.length (.cells (bytesVals (sha s)) 31), rfl, ?_, ?_, push_self, put_self (by simp), ?_, rfl, by simp, by simp⟩
  · exact rsum_spec TW TT _ s _ _ _ ((s2b_own (e := 5) hwf).sl (by omega)) hs
  · rw [← hZ, wrN_cells (by simp [sha_length]) bytes_ok]
    simp [splice, sha_length]
  · exact (Fr.push.push').put' (.inr (by simp))
include T TM
set_option maxHeartbeats 4000000 in
theorem rform_spec (h : AHeap) (g : Bool) (p a d : List UInt8) (hp : p.length < 2 ^ 26) (ha : a.length < 2 ^ 26) (hd : d.length < 2 ^ 26) (hwf : h.lo ≤ h.bs.length) :
    ∃ h' v, D C 37 [.agg ⟨[.bool g, str p, str a, str d]⟩] h = some (v, h') ∧ Own h' 5 1 v (formL g p a d).length (bytesVals (formL g p a d)) ∧ Fr h h' (fun _ => False) ∧ (∀ j, blkOf v = some j → h.bs.length ≤ j) := by
  generalize hX : ABlock.cells [.bool g, str p, str a, str d] 108 = X
  have r0 : rd1 (some X) 0 0 = some (.bool g) := by rw [← hX]; rfl
  have r1 : rd1 (some X) 1 0 = some (str p) := by rw [← hX]; rfl
  have r2 : rd1 (some X) 2 0 = some (str a) := by rw [← hX]; rfl
  have r3 : rd1 (some X) 3 0 = some (str d) := by rw [← hX]; rfl
  have hz : Value.int .u8 0 = bv 0 := rfl
  have hone : Value.int .u8 1 = bv 1 := rfl
  generalize hZ : ABlock.cells (List.replicate 32 (bv 0)) 31 = Z
  have hZ0 := hZ
  simp [List.replicate] at hZ
  obtain ⟨pt, hpt⟩ : ∃ pt, pt = p.take 256 := ⟨_, rfl⟩
  have htl : pt.length = min p.length 256 := by rw [hpt, List.length_take]; omega
  generalize hG : (if g then 1 else 0 : Nat) = G
  have hG2 : G < 2 := by rw [← hG]; split <;> omega
  -- the first bytes
  have f1 : Fr h (h.push X) (fun _ => False) := Fr.push
  have x1 : (h.push X).at h.bs.length = some X := push_self
  have L1 : (h.push X).bs.length = h.bs.length + 1 := by simp
  generalize hh1 : h.push X = h1 at *
  have f2 : Fr h1 ((h1.push (.cells [bv 0] 6)).put h1.bs.length (.cells [bv (UInt8.ofNat G)] 6)) (fun _ => False) := Fr.push.put' (.inr (Nat.le_refl _))
  have x2' : (h1.push (.cells [bv 0] 6)).at h.bs.length = some X := by rw [push_lt (by omega)]; exact x1
  have b2' : (h1.push (.cells [bv 0] 6)).at h1.bs.length = some (.cells [bv 0] 6) := push_self
  have b2 : ((h1.push (.cells [bv 0] 6)).put h1.bs.length (.cells [bv (UInt8.ofNat G)] 6)).at h1.bs.length = some (.cells [bv (UInt8.ofNat G)] 6) := put_self (by simp)
  have x2 := f2.get x1 (fun h => h)
  have L2 : ((h1.push (.cells [bv 0] 6)).put h1.bs.length (.cells [bv (UInt8.ofNat G)] 6)).bs.length = h1.bs.length + 1 := by simp
  have hput0 : g = false → (h1.push (.cells [bv 0] 6)).put h1.bs.length (.cells [bv (UInt8.ofNat G)] 6) = h1.push (.cells [bv 0] 6) := fun hg => by
    subst hg
    have : G = 0 := by rw [← hG]; rfl
    subst this
    exact put_eq push_self
  have hput1 : g = true → wr1 (h1.push (.cells [bv 0] 6)) h1.bs.length (some (.cells [bv 0] 6)) 0 0 (bv 1) = some ((h1.push (.cells [bv 0] 6)).put h1.bs.length (.cells [bv (UInt8.ofNat G)] 6)) := fun hg => by
    subst hg
    have : G = 1 := by rw [← hG]; rfl
    subst this
    rw [wr1_cells (by simp) rfl]; rfl
  have o1 := f1.lo
  have o2 := f2.lo
  generalize hh2 : (h1.push (.cells [bv 0] 6)).put h1.bs.length (.cells [bv (UInt8.ofNat G)] 6) = h2 at *
  have e3 := nref_spec TM h2 pt.length (by omega) (by omega)
  have f3 : Fr h2 (h2.push (.cells (bytesVals (be 4 pt.length)) 6)) (fun _ => False) := Fr.push
  have n3 : (h2.push (.cells (bytesVals (be 4 pt.length)) 6)).at h2.bs.length = some (.cells (bytesVals (be 4 pt.length)) 6) := push_self
  have b3 := f3.get b2 (fun h => h)
  have x3 := f3.get x2 (fun h => h)
  have L3 : (h2.push (.cells (bytesVals (be 4 pt.length)) 6)).bs.length = h2.bs.length + 1 := by simp
  have o3 := f3.lo
  have hbe4 : (be 4 pt.length).length = 4 := be_length _ _
  generalize hh3 : h2.push (.cells (bytesVals (be 4 pt.length)) 6) = h3 at *
  obtain ⟨v4, h4, e4, own4, f4, bl4⟩ := append_lit1 (old := C.old) (e := 5) (k := 1) (bytes := 1) (m := 4) (x := .slice (some ⟨h2.bs.length, 0, some 0⟩) 4 4) (new := bytesVals (be 4 pt.length)) b3 rfl rfl (by omega) (by omega) rfl
    (by simp only [srcCells]; rw [readN_rd, n3, rdN_cells (by simp [hbe4]), List.drop_zero, List.take_of_length_le (by simp [hbe4])]) (by simp [hbe4]) bytes_ok (by simp [sizeLim]) (by omega)
  have l4 := f4.len
  have o4 := f4.lo
  have x4 := f4.get x3 (fun h => h)
  obtain ⟨v5, h5, e5, own5, f5, bl5⟩ := append_own (old := C.old) (bytes := 1) (x := str pt) (m := pt.length) (new := bytesVals pt) own4 (by omega) rfl
    (fun _ => by simp [srcCells, str]) (fun h0 => list_empty h0 rfl) (by simp) bytes_ok (by simp [sizeLim]; omega) (by omega)
  have l5 := f5.len
  have o5 := f5.lo
  have x5 := f5.get x4 (fun hc => by rw [bl4] at hc; (simp only [Option.some.injEq] at hc); omega)
  have F5 : Fr h h5 (fun _ => False) := ((((f1.trans f2 (fun _ h => h) (fun _ h _ => h)).trans f3 (fun _ h => h) (fun _ h _ => h)).trans f4 (fun _ h => h) (fun _ h _ => h))).trans f5 (fun _ h => h) (fun j hj hl => by rw [bl4] at hj; (simp only [Option.some.injEq] at hj); omega)
  have hb5 : ∀ j, blkOf v5 = some j → h.bs.length ≤ j := fun j hj => by
    rcases bl5 with b | b <;> rw [b] at hj
    · rw [bl4] at hj; (simp only [Option.some.injEq] at hj); omega
    · (simp only [Option.some.injEq] at hj); omega
  -- three digests
  obtain ⟨g6, h6, hg6, e6, w6, z6, d6, f6, og6, lg6, l6⟩ := sha_box TW TT h5 p Z hZ0 hp (by omega)
  have o6 := f6.lo
  have x6 := f6.get x5 (fun h => h)
  obtain ⟨g7, h7, hg7, e7, w7, z7, d7, f7, og7, lg7, l7⟩ := sha_box TW TT h6 a Z hZ0 ha (by omega)
  have o7 := f7.lo
  have x7 := f7.get x6 (fun h => h)
  obtain ⟨g8, h8, hg8, e8, w8, z8, d8, f8, og8, lg8, l8⟩ := sha_box TW TT h7 d Z hZ0 hd (by omega)
  have o8 := f8.lo
  have x8 := f8.get x7 (fun h => h)
  have F8 : Fr h5 h8 (fun _ => False) := (f6.trans f7 (fun _ h => h) (fun _ h _ => h)).trans f8 (fun _ h => h) (fun _ h _ => h)
  have D6 := f8.get (f7.get d6 (fun h => h)) (fun h => h)
  have D7 := f8.get d7 (fun h => h)
  have hp32 := sha_length p
  have ha32 := sha_length a
  have hd32 := sha_length d
  have own8 := own5.fr F8 fun _ _ h => h
  obtain ⟨v9, h9, e9, own9, f9, bl9⟩ := append_own (old := C.old) (bytes := 1) (x := .slice (some ⟨g6.bs.length, 0, some 0⟩) 32 32) (m := 32) (new := bytesVals (sha p)) own8 (by omega) rfl
    (fun _ => by simp only [srcCells]; rw [readN_rd, D6]; exact rd32 hp32) (fun h => by cases h) (by simp [hp32]) bytes_ok (by simp [sizeLim]; omega) (by omega)
  have l9 := f9.len
  have o9 := f9.lo
  have hbl5 := fun j (hj : blkOf v5 = some j) => own5.blk hj
  have D7' := f9.get D7 (fun hc => by have := hbl5 _ hc; omega)
  have D8' := f9.get d8 (fun hc => by have := hbl5 _ hc; omega)
  have hb9 : ∀ j, blkOf v9 = some j → h.bs.length ≤ j ∧ (j < h5.bs.length ∨ h8.bs.length ≤ j) := fun j hj => by
    rcases bl9 with b | b <;> rw [b] at hj
    · exact ⟨hb5 j hj, .inl (hbl5 j hj)⟩
    · (simp only [Option.some.injEq] at hj); exact ⟨by omega, .inr (by omega)⟩
  obtain ⟨v10, h10, e10, own10, f10, bl10⟩ := append_own (old := C.old) (bytes := 1) (x := .slice (some ⟨g7.bs.length, 0, some 0⟩) 32 32) (m := 32) (new := bytesVals (sha a)) own9 (by omega) rfl
    (fun _ => by simp only [srcCells]; rw [readN_rd, D7']; exact rd32 ha32) (fun h => by cases h) (by simp [ha32]) bytes_ok (by simp [sizeLim]; omega) (by omega)
  have l10 := f10.len
  have o10 := f10.lo
  have D8'' := f10.get D8' (fun hc => by have := hb9 _ hc; omega)
  have hb10 : ∀ j, blkOf v10 = some j → h.bs.length ≤ j := fun j hj => by
    rcases bl10 with b | b <;> rw [b] at hj
    · exact (hb9 j hj).1
    · (simp only [Option.some.injEq] at hj); omega
  obtain ⟨v11, h11, e11, own11, f11, bl11⟩ := append_own (old := C.old) (bytes := 1) (x := .slice (some ⟨g8.bs.length, 0, some 0⟩) 32 32) (m := 32) (new := bytesVals (sha d)) own10 (by omega) rfl
    (fun _ => by simp only [srcCells]; rw [readN_rd, D8'']; exact rd32 hd32) (fun h => by cases h) (by simp [hd32]) bytes_ok (by simp [sizeLim]; omega) (by omega)
  have hb11 : ∀ j, blkOf v11 = some j → h.bs.length ≤ j := fun j hj => by
    rcases bl11 with b | b <;> rw [b] at hj
    · exact hb10 j hj
    · (simp only [Option.some.injEq] at hj); omega
  have F11 : Fr h h11 (fun _ => False) := by
    refine (((F5.trans F8 (fun _ h => h) (fun _ h _ => h)).trans f9 (S'' := fun _ => False) (fun _ h => h) ?_).trans f10 (S'' := fun _ => False) (fun _ h => h) ?_).trans f11 (fun _ h => h) ?_
    · intro j hj hl; have := hb5 j hj; omega
    · intro j hj hl; have := (hb9 j hj).1; omega
    · intro j hj hl; have := hb10 j hj; omega
  refine ⟨h11, v11, ?_, ?_, F11, hb11⟩
  · have u4 := own4.und
    have u5 := own5.und
    have u9 := own9.und
    have u10 := own10.und
    have u11 := own11.und
    have sl := slcSv_str (h := h1) (s := p) (lo := none) (hi := some 256) (l := 0) (u := 256) rfl rfl (by omega)
    have c1 : p.length ≤ sizeLim := by simp [sizeLim]; omega
    have c2 : a.length ≤ sizeLim := by simp [sizeLim]; omega
    have c3 : d.length ≤ sizeLim := by simp [sizeLim]; omega
    have cu : cvt .u64 (iv pt.length) = some (uv pt.length) := cvt_iu (by omega)
    rw [D_fn TM.h37]
    have hbig : ∃ t', R C r37 [.code b37] [.agg ⟨[.bool g, str p, str a, str d]⟩] [] h = R C r37 [.code fk3] t' [] h1 ∧ tg t' 1 = .pointer (some ⟨h.bs.length, 0, some 0⟩) ∧ tg t' 3 = str pt := by
      rcases Nat.lt_or_ge 256 p.length with hl | hl
      · have sl' := sl (by omega)
        rw [List.drop_zero, Nat.sub_zero, ← hpt] at sl'
        rw [fk_a]
        simp [b37, s1, s2, hX, hh1, x1, r1, hl, sl']
        exact ⟨_, rfl, by simp, by simp⟩
      · have ht : pt = p := by rw [hpt]; exact List.take_of_length_le (by omega)
        rw [fk_a]
        simp [b37, s1, s2, hX, hh1, x1, r1, show ¬ 256 < p.length by omega]
        exact ⟨_, rfl, by simp, by simp [ht]⟩
    obtain ⟨t1, E1, y1, y3⟩ := hbig
    rw [E1]
    have hgate : ∃ t', R C r37 [.code fk3] t1 [] h1 = R C r37 [.code fk5] t' [] h2 ∧ tg t' 1 = .pointer (some ⟨h.bs.length, 0, some 0⟩) ∧ tg t' 3 = str pt ∧ tg t' 4 = .slice (some ⟨h1.bs.length, 0, some 0⟩) 1 1 := by
      rw [fk_b]
      cases g with
      | true =>
        have hp1 := hput1 rfl
        simp [fk3, b37, s1, s2, y1, y3, hz, hone, fillCells, splice, x2', r0, ixS_iv, write1_wr, b2', hp1, show h1.lo ≤ h1.bs.length by omega]
        exact ⟨_, rfl, by simp [y1], by simp [y3], by simp⟩
      | false =>
        have hp0 := hput0 rfl
        simp [fk3, b37, s1, s2, y1, y3, hz, hone, fillCells, splice, x2', r0, hp0]
        exact ⟨_, by rw [← hp0], by simp [y1], by simp [y3], by simp⟩
    obtain ⟨t2, E2, q1, q3, q4⟩ := hgate
    rw [E2]
    simp [fk5, fk3, b37, s2, q1, q3, q4, cu, Dc_ok, e3, hh3, e4, stp_ok u4, e5, stp_ok u5, x5, r1, r2, r3, s2bV_str c1, s2bV_str c2, s2bV_str c3, hg6, e6, hz, hZ, hp32, ha32, hd32, writeN_wr, og6, og7, og8, show h5.lo ≤ g6.bs.length by omega, show h6.lo ≤ g7.bs.length by omega, show h7.lo ≤ g8.bs.length by omega, z6, w6, x6, hg7, e7, z7, w7, x7, hg8, e8, z8, w8, arrSl, e9, stp_ok u9, e10, stp_ok u10, e11, stp_ok u11, u11, r37]
  · have hc : [bv (UInt8.ofNat G)] ++ bytesVals (be 4 pt.length) ++ bytesVals pt ++ bytesVals (sha p) ++ bytesVals (sha a) ++ bytesVals (sha d) = bytesVals (formL g p a d) := by
      have hbe1 : bytesVals (be 1 G) = [bv (UInt8.ofNat G)] := by simp [be, bytesVals_eq]
      simp only [formL, hG, ← hpt, bytesVals_append, hbe1, List.append_assoc]
    rw [hc] at own11
    have hn : 1 + 4 + pt.length + 32 + 32 + 32 = (formL g p a d).length := by rw [formL_len, ← hpt]; omega
    rw [← hn]; exact own11
end Go.Ab.Aud

namespace Go.Ab.Aud
open Go.Sha
variable {C : Ctx} (T : Tab_LLog C) (TD : Tab_LDig C) (TW : Tab_LLaw C) (hk : ∀ j, j < 64 → C.old 0 j = some (wv (kW j))) (hp : ∀ j, j < 16 → C.old 1 j = some (wv (crcW j)))
theorem aeq_nilPs {a : Addr} : aeq .nilP (.pointer (some a)) (.pointer none) = some false := nr rfl
/-- audit -/
def nmAudit : List UInt8 := [97, 117, 100, 105, 116]
def nmA : List UInt8 := [97]
include T in
/-- a disk and a log on it -/
theorem open_new (h : AHeap) (room : Nat) (name : List UInt8) (h1 : 1 ≤ room) (h2 : room ≤ 268435456) (hwf : h.lo ≤ h.bs.length) (hN : ∀ h, D C 147 [str name] h = some (.bool true, h)) :
    ∃ h1 h2 d p O, D C 42 [iv room] h = some (.tuple #[.pointer (some ⟨d, 0, some 0⟩), iv 0], h1) ∧ D C 43 [.pointer (some ⟨d, 0, some 0⟩), str name] h1 = some (.tuple #[.pointer (some ⟨p, 0, some 0⟩), iv 0], h2) ∧ LogAt h2 O p d name [] [] room 0 ∧ (∀ j, O j → h.bs.length ≤ j) ∧ Fr h h2 (fun _ => False) := by
  have e1 := disk_new T h room h1 h2
  have fa : Fr h ((h.push (.map [] 0)).push (.cells (dc 0 room 0 h.bs.length (iv 0) (iv 0) false 0) 189)) (fun _ => False) := Fr.push.push'
  obtain ⟨h', p, e2, L, hpl, f⟩ := audit_open_none T ((h.push (.map [] 0)).push (.cells (dc 0 room 0 h.bs.length (iv 0) (iv 0) false 0) 189)) (h.bs.length + 1) h.bs.length 188 room 0 0 (iv 0) name (push_self' (by simp)) (push_old push_self) (by simp; omega) (by simp; omega) (by omega) hN
  refine ⟨_, h', h.bs.length + 1, p, _, e1, e2, L, fun j hj => ?_, fa.trans f (fun _ h => h) (fun j hj hl => by omega)⟩
  rcases hj with hj | hj | hj
  · omega
  · omega
  · have := hj.1; simp at this; omega
include T TD TW hk hp
end Go.Ab.Aud

namespace Go.Ab.Aud
open Go.Sha
theorem wakes_sha : (sha (1 :: (sha (1 :: (lh [0] ++ lh [2])) ++ lh [2])) = sha (1 :: (sha (1 :: (lh [0] ++ lh [1])) ++ lh [2]))) = False := by
  have : decide (sha (1 :: (sha (1 :: (lh [0] ++ lh [2])) ++ lh [2])) = sha (1 :: (sha (1 :: (lh [0] ++ lh [1])) ++ lh [2]))) = false := by decide +kernel
  exact eq_false (of_decide_eq_false this)
def wl3 : List (List UInt8) := [lh [0], lh [1], lh [2]]
def wRoot : List UInt8 := sha (1 :: (sha (1 :: (lh [0] ++ lh [1])) ++ lh [2]))
def wTwo : List UInt8 := sha (1 :: (lh [0] ++ lh [1]))
theorem lft3 : lft 3 = 2 := by decide
theorem lft2 : lft 2 = 1 := by decide
theorem rootL1 {a : List UInt8} : rootL [a] = a := rfl
theorem rootL2 {a b : List UInt8} : rootL [a, b] = sha (1 :: (a ++ b)) := by
  rw [rootL_two (by simp)]
  simp only [List.length_cons, List.length_nil, Nat.zero_add, Nat.reduceAdd, lft2, List.take_succ_cons, List.take_zero, List.drop_succ_cons, List.drop_zero, rootL1, nodeL]
theorem rootL3 : rootL (wl3.take 3) = wRoot := by
  have e : wl3.take 3 = [lh [0], lh [1], lh [2]] := rfl
  rw [e, rootL_two (by simp)]
  simp only [List.length_cons, List.length_nil, Nat.zero_add, Nat.reduceAdd, lft3, List.take_succ_cons, List.take_zero, List.drop_succ_cons, List.drop_zero, rootL1, rootL2, nodeL]
  rfl
theorem rootL32 : rootL (wl3.take 2) = wTwo := by
  have e : wl3.take 2 = [lh [0], lh [1]] := rfl
  rw [e, rootL2]; rfl
theorem path3 : pathF 3 (wl3.take 3) 1 = [lh [0], lh [2]] := by
  have e : wl3.take 3 = [lh [0], lh [1], lh [2]] := rfl
  rw [e]
  simp [pathF, lft3, lft2, rootL1]
theorem proof3 : proofF 3 (wl3.take 3) 2 true = [lh [2]] := by
  have e : wl3.take 3 = [lh [0], lh [1], lh [2]] := rfl
  rw [e]
  simp [proofF, lft3, rootL1]
theorem incl3 {x : List UInt8} : inclF 3 1 wRoot x [lh [0], lh [2]] = if sha (1 :: (sha (1 :: (lh [0] ++ x)) ++ lh [2])) = wRoot then 0 else 236 := by
  have e : downF 64 1 3 = [false, true] := by simp [downF, lft3, lft2]
  unfold inclF
  rw [e, if_neg (by omega), if_neg (by simp)]
  simp [foldW, stepW]
theorem foll3 : follF 2 3 wTwo wRoot [lh [2]] = 0 := by
  have e : mdown 64 2 3 = [false] := by simp [mdown, lft3]
  unfold follF
  rw [e, if_neg (by omega)]
  have o : one1 [false] = 0 := by simp [one1]
  rw [o]
  simp [foldP]
  rfl
end Go.Ab.Aud

namespace Go.Ab.Aud
open Go.Sha
variable {C : Ctx} (T : Tab_LLog C) (TD : Tab_LDig C) (TW : Tab_LLaw C) (hk : ∀ j, j < 64 → C.old 0 j = some (wv (kW j))) (hp : ∀ j, j < 16 → C.old 1 j = some (wv (crcW j)))
include T TD TW hk hp
set_option maxHeartbeats 1000000 in
theorem wk_step (i wr p d : Nat) (O : Nat → Prop) (b : UInt8) (content : List UInt8) (leaves : List (List UInt8)) (g : AHeap) (t : List Value) (hi : i < 3) (hb : UInt8.ofNat i = b) (hl : leaves.length = i) (hc : content.length ≤ 100) (hwr : wr < 100) (H : LogAt g O p d nmA content leaves 1000 wr) (hwf : g.lo ≤ g.bs.length)
    (hN : ∀ h, D C 147 [str nmA] h = some (.bool true, h)) (t3 : tg t 3 = .pointer (some ⟨p, 0, some 0⟩)) (t5 : tg t 5 = iv i) :
    ∃ g' t' O', (∀ k, R C r23 (.inLoop lp23_0 :: .inBlock 0 :: k) t [] g = R C r23 (.inLoop lp23_0 :: .inBlock 0 :: k) t' [] g') ∧ tg t' 3 = .pointer (some ⟨p, 0, some 0⟩) ∧ tg t' 5 = iv (i + 1) ∧ LogAt g' O' p d nmA (content ++ frame [b]) (leaves ++ [lh [b]]) 1000 (wr + 1) ∧ g'.lo ≤ g'.bs.length ∧ (content ++ frame [b]).length = content.length + 14 := by
  have f1 : Fr g (g.push (.cells [bv b] 6)) (fun _ => False) := Fr.push
  have H1 := H.fr f1 (fun _ _ h => h)
  have ol := H.olt
  obtain ⟨g', e, H2, f2⟩ := audit_append T TD hp hk (g.push (.cells [bv b] 6)) O p d 1000 wr nmA content leaves [b] (some ⟨g.bs.length, 0, some 0⟩) 1 1 H1 one_sl (fun j hj hO => by have := slLive hj; have := ol j hO; omega) (by simp; omega) (by omega) (by omega) (by omega) (by omega) (by omega) hN
  have l2 := f2.len
  have g2 := f2.lo
  have hfl := frame_length [b]
  simp at l2 g2 hfl
  have e2 : ∃ t', (∀ k, R C r23 (.inLoop lp23_0 :: .inBlock 0 :: k) t [] g = R C r23 (.inLoop lp23_0 :: .inBlock 0 :: k) t' [] g') ∧ tg t' 3 = .pointer (some ⟨p, 0, some 0⟩) ∧ tg t' 5 = iv (i + 1) := by
    refine ex_step (fun k => R_open lp23_0.eq_1) ?_
    simp [t3, t5, hi, hb, fillCells, splice, Dc_ok, e, num_spec TW, hl, cvt_iu (show i < 18446744073709551616 by omega), iv_add (a := i) (b := 1) (by omega)]
    exact ⟨_, fun _ => rfl, by simp [t3], by simp⟩
  obtain ⟨t', e2, u3, u5⟩ := e2
  exact ⟨g', t', _, e2, u3, u5, H2, by omega, by simp [hfl]⟩
set_option maxHeartbeats 4000000 in
theorem wakes_spec (h : AHeap) (hN : ∀ h, D C 147 [str nmA] h = some (.bool true, h)) : D C 23 [] h = some (.bool true, h) := by
  rw [D_fn3 TW.h23 _ rfl]
  generalize hh0 : ({ bs := [], lo := 0 } : AHeap) = h0
  have h0lo : h0.lo = 0 := by rw [← hh0]
  obtain ⟨h1, h2, d, p, O, e1, e2, L, hO, f2⟩ := open_new T h0 1000 nmA (by omega) (by omega) (by omega) hN
  have l2 := f2.len
  have g2 := f2.lo
  obtain ⟨t, e, u3, u5⟩ : ∃ t, R C r23 [.code b23] [] [] h0 = R C r23 (.inLoop lp23_0 :: .inBlock 0 :: [.code k23_0]) t [] h2 ∧ tg t 3 = .pointer (some ⟨p, 0, some 0⟩) ∧ tg t 5 = iv 0 := by
    have hs : Value.string ⟨⟨[97]⟩⟩ = str nmA := rfl
    simp [b23, Dc_ok, e1, num_spec TW, hs, e2, aeq_nilPs]
    exact ⟨_, rfl, by simp, by simp⟩
  obtain ⟨g1, t1, O1, x1, y1, z1, L1, w1, c1⟩ := wk_step T TD TW hk hp 0 0 p d O 0 [] [] h2 t (by omega) rfl rfl (by simp) (by omega) L (by omega) hN u3 u5
  obtain ⟨g2', t2, O2, x2, y2, z2, L2, w2, c2⟩ := wk_step T TD TW hk hp 1 1 p d O1 1 _ _ g1 t1 (by omega) rfl (by simp) (by simp at c1 ⊢; omega) (by omega) L1 w1 hN y1 z1
  obtain ⟨g3, t3, O3, x3, y3, z3, L3, w3, c3⟩ := wk_step T TD TW hk hp 2 2 p d O2 2 _ _ g2' t2 (by omega) rfl (by simp) (by simp at c1 c2 ⊢; omega) (by omega) L2 w2 hN y2 z2
  have hl : [] ++ [lh [0]] ++ [lh [1]] ++ [lh [2]] = wl3 := rfl
  rw [hl] at L3
  generalize [] ++ frame [0] ++ frame [1] ++ frame [2] = content at L3
  obtain ⟨t4, e4, u4⟩ : ∃ t', (∀ k, R C r23 (.inLoop lp23_0 :: .inBlock 0 :: k) t3 [] g3 = R C r23 k t' [] g3) ∧ tg t' 3 = .pointer (some ⟨p, 0, some 0⟩) := by
    refine ex_step (fun k => R_open lp23_0.eq_1) ?_
    simp [z3]
    exact ⟨_, fun _ => rfl, by simp [y3]⟩
  rw [e, x1, x2, x3, e4]
  have hlw : wl3.length = 3 := rfl
  have hz : Value.int .u8 0 = bv 0 := rfl
  have hb1 : Value.int .u8 1 = bv 1 := rfl
  have hb2 : Value.int .u8 2 = bv 2 := rfl
  generalize hZ : ABlock.cells (uv 0 :: List.replicate 32 (bv 0)) 36 = Z
  have hZ0 := hZ
  simp [List.replicate] at hZ
  have wz : ∀ (g : AHeap) (b n : Nat) (r : List UInt8), r.length = 32 → wrN g b (some Z) 0 0 (uv n :: bytesVals r) = some (g.put b (.cells (uv n :: bytesVals r) 36)) := by
    intro g b n r hr
    rw [← hZ0, wrN_cells (by simp [hr]) (by rw [List.all_cons, bytes_ok]; rfl)]
    congr 3
    simp [splice, hr]
  have rz : ∀ (n : Nat) (r : List UInt8), r.length = 32 → rdN (some (.cells (uv n :: bytesVals r) 36)) 0 0 33 = some (uv n :: bytesVals r) := by
    intro n r hr
    rw [rdN_cells (by simp [hr]), List.drop_zero, List.take_of_length_le (by simp [hr])]
  have hwR : wRoot.length = 32 := sha_length _
  have hwT : wTwo.length = 32 := sha_length _
  -- the heads
  obtain ⟨g4, e5, f4⟩ := head_spec T TD hk g3 O3 p d 1000 _ nmA content wl3 L3 3 (by omega) (by omega) w3
  rw [rootL3] at e5
  have l4 := f4.len
  have o4 := f4.lo
  have s5 : (g4.push Z).at g4.bs.length = some Z := push_self
  generalize hg5 : (g4.push Z).put g4.bs.length (.cells (uv 3 :: bytesVals wRoot) 36) = g5
  have f5 : Fr g3 g5 (fun _ => False) := by rw [← hg5]; exact (f4.push').put' (.inr (by omega))
  have v8 : g5.at g4.bs.length = some (.cells (uv 3 :: bytesVals wRoot) 36) := by rw [← hg5]; exact put_self (by simp)
  have l5 : g5.bs.length = g4.bs.length + 1 := by rw [← hg5]; simp
  have o5 := f5.lo
  have w5 : g5.lo ≤ g5.bs.length := by omega
  have hlo4 : g4.lo ≤ g4.bs.length := by omega
  have L5 := L3.fr f5 (fun _ _ h => h)
  obtain ⟨g6, e6, f6⟩ := head_spec T TD hk g5 O3 p d 1000 _ nmA content wl3 L5 2 (by omega) (by omega) w5
  rw [rootL32] at e6
  have l6 := f6.len
  have o6 := f6.lo
  have s6 : (g6.push Z).at g6.bs.length = some Z := push_self
  generalize hg7 : (g6.push Z).put g6.bs.length (.cells (uv 2 :: bytesVals wTwo) 36) = g7
  have f7 : Fr g5 g7 (fun _ => False) := by rw [← hg7]; exact (f6.push').put' (.inr (by omega))
  have v9 : g7.at g6.bs.length = some (.cells (uv 2 :: bytesVals wTwo) 36) := by rw [← hg7]; exact put_self (by simp)
  have l7 : g7.bs.length = g6.bs.length + 1 := by rw [← hg7]; simp
  have o7 := f7.lo
  have w7 : g7.lo ≤ g7.bs.length := by omega
  have hlo6 : g6.lo ≤ g6.bs.length := by omega
  have L7 := L5.fr f7 (fun _ _ h => h)
  obtain ⟨g8, vp, e7, P8, f8, b8⟩ := prove_spec T TD hk g7 O3 p d 1000 _ nmA content wl3 L7 1 3 (by omega) (by omega) (by omega) w7
  rw [path3] at P8
  have l8 := f8.len
  have o8 := f8.lo
  have L8 := L7.fr f8 (fun _ _ h => h)
  obtain ⟨g9, vq, e8, P9, f9⟩ := follow_spec T TD hk g8 O3 p d 1000 _ nmA content wl3 L8 2 3 (by omega) (by omega) (by omega) (by omega)
  rw [if_neg (by omega), proof3] at P9
  have l9 := f9.len
  have o9 := f9.lo
  have P8' : DigO g9 vp [lh [0], lh [2]] := P8.fr f9 (fun _ _ h => h)
  obtain ⟨ap, cpp, hvp, R9⟩ := P8'.digR (old := C.old)
  obtain ⟨aq, cpq, hvq, Q9, _⟩ := P9
  have k8 : g9.at g4.bs.length = some (.cells (uv 3 :: bytesVals wRoot) 36) := f9.get (f8.get (f7.get v8 (fun h => h)) (fun h => h)) (fun h => h)
  have k9 : g9.at g6.bs.length = some (.cells (uv 2 :: bytesVals wTwo) 36) := f9.get (f8.get v9 (fun h => h)) (fun h => h)
  generalize hg10 : g9.push (.cells [bv 1] 6) = g10
  have f10 : Fr g9 g10 (fun _ => False) := by rw [← hg10]; exact Fr.push
  have sl1 : SlR C.old g10 1 (.slice (some ⟨g9.bs.length, 0, some 0⟩) 1 1) (bytesVals [1]) := by rw [← hg10]; exact one_sl
  have lf1 := leaf_spec TD hk g10 [1] (some ⟨g9.bs.length, 0, some 0⟩) 1 1 sl1 (by omega)
  have in1 := incl_spec T TD hk g10 3 1 wRoot (lh [1]) [lh [0], lh [2]] hwR (sha_length _) (by omega) (by omega) ap cpp (R9.fr f10 (fun _ _ h => h))
  have fo1 := foll_spec T TD hk g10 2 3 wTwo wRoot [lh [2]] hwT hwR (by omega) (by omega) aq cpq (Q9.fr f10 (fun _ _ h => h))
  rw [foll3] at fo1
  have in1v : inclF 3 1 wRoot (lh [1]) [lh [0], lh [2]] = 0 := by rw [incl3]; exact if_pos rfl
  rw [in1v] at in1
  generalize hg11 : g10.push (.cells [bv 2] 6) = g11
  have f11 : Fr g10 g11 (fun _ => False) := by rw [← hg11]; exact Fr.push
  have sl2 : SlR C.old g11 1 (.slice (some ⟨g10.bs.length, 0, some 0⟩) 1 1) (bytesVals [2]) := by rw [← hg11]; exact one_sl
  have lf2 := leaf_spec TD hk g11 [2] (some ⟨g10.bs.length, 0, some 0⟩) 1 1 sl2 (by omega)
  have in2 := incl_spec T TD hk g11 3 1 wRoot (lh [2]) [lh [0], lh [2]] hwR (sha_length _) (by omega) (by omega) ap cpp ((R9.fr f10 (fun _ _ h => h)).fr f11 (fun _ _ h => h))
  have in2v : inclF 3 1 wRoot (lh [2]) [lh [0], lh [2]] = 236 := by rw [incl3]; exact if_neg (fun h => wakes_sha.mp h)
  rw [in2v] at in2
  have m8 : g10.at g4.bs.length = some (.cells (uv 3 :: bytesVals wRoot) 36) := f10.get k8 (fun h => h)
  have m9 : g10.at g6.bs.length = some (.cells (uv 2 :: bytesVals wTwo) 36) := f10.get k9 (fun h => h)
  have n8 : g11.at g4.bs.length = some (.cells (uv 3 :: bytesVals wRoot) 36) := f11.get m8 (fun h => h)
  have lhd : ∀ b : UInt8, sha [0, b] = lh [b] := fun _ => rfl
  rw [lhd] at lf1 lf2
  subst hvp
  subst hvq
  simp at in1 in2 fo1 e7 e8
  have r : R C r23 [.code k23_0] t4 [] g3 = some (.bool true, g11) := by
    simp [k23_0, u4, Dc_ok, e5, hz, hZ, bytes_ok, hwR, hwT, writeN_wr, hlo4, s5, wz, hg5, e6, hlo6, s6, hg7, e7, e8, num_spec TW, v8, v9, k8, k9, rz, hb1, hb2, fillCells, splice, hg10, lf1, in1, m8, m9, fo1, hg11, lf2, in2, n8, r23]
  rw [r]
  exact pur_some rfl
end Go.Ab.Aud

namespace Go.Ab.Aud
open Go.Sha
/-- a call: at the gate or not; path, head, body -/
abbrev CallT := Bool × List UInt8 × List UInt8 × List UInt8
def callCells (c : CallT) : List Value := [.bool c.1, str c.2.1, str c.2.2.1, str c.2.2.2]
/-- an argument that is a row of calls -/
def ArgC (old : Old) (v : Value) (l : List CallT) : Prop := ∃ a cp, v = .slice a l.length cp ∧ ∀ g, SlR old g 4 (.slice a l.length cp) (l.flatMap callCells)
theorem calls_get {l : List CallT} {i : Nat} (hi : i < l.length) : ((l.flatMap callCells).drop (i * 4)).take 4 = callCells l[i] := by
  induction l generalizing i with
  | nil => cases hi
  | cons c l ih =>
    cases i with
    | zero =>
      simp [List.flatMap_cons, callCells]
    | succ i =>
      have := ih (i := i) (by simpa using hi)
      rw [List.flatMap_cons, show (i + 1) * 4 = (callCells c).length + i * 4 by simp [callCells]; omega, List.drop_append]
      rw [show (callCells c).length + i * 4 - (callCells c).length = i * 4 by omega, List.drop_of_length_le (by omega), List.nil_append, this]
      rfl
theorem ArgC.get {old : Old} {v : Value} {l : List CallT} (H : ArgC old v l) {i : Nat} (hi : i < l.length) : ∃ a cp, v = .slice (some a) l.length cp ∧ ∀ g, readN old g (adda a (i * 4)) 4 = some (callCells l[i]) := by
  obtain ⟨a, cp, rfl, hs⟩ := H
  obtain ⟨a', rfl⟩ := (hs ⟨[], 0⟩).ex (by omega)
  refine ⟨a', cp, rfl, fun g => ?_⟩
  have := readN_part ((hs g).read (by omega)) (i := i * 4) (m := 4) (by omega)
  rwa [calls_get hi] at this
variable {C : Ctx} (T : Tab_LLog C) (TD : Tab_LDig C) (TW : Tab_LLaw C) (TT : Tab_LTake C) (TM : Tab_LForm C) (TB : Tab_LBook C) (TE : Tab_LEmp C) (hk : ∀ j, j < 64 → C.old 0 j = some (wv (kW j))) (hp : ∀ j, j < 16 → C.old 1 j = some (wv (crcW j)))
include T TD TW TT TM TB TE hk hp
set_option maxHeartbeats 4000000 in
theorem forms_loop (b fz : Nat) (av : Value) (l : List CallT) (A : ArgC C.old av l) (hl : l.length < 2 ^ 50) (hs : ∀ c ∈ l, c.2.1.length < 2 ^ 60 ∧ c.2.2.1.length < 2 ^ 60 ∧ c.2.2.2.length < 2 ^ 60) : ∀ (d i all : Nat) (O : Nat → Prop) (vb vo : Value) (used : Nat) (L : List (Value × Nat)) (g : AHeap) (t : List Value), i + d = l.length → BookI g O b fz vb vo 0 (2 * i) 0 used L → all ≤ 200000 → g.lo ≤ g.bs.length →
    tg t 0 = av → tg t 3 = iv all → tg t 4 = .pointer (some ⟨b, 0, some 0⟩) → tg t 5 = iv i →
    ∃ g' t' O' vb' vo' turn' used' L', (∀ K, R C r8 (.inLoop lp8_0 :: .inBlock 0 :: K) t [] g = R C r8 K t' [] g') ∧ BookI g' O' b fz vb' vo' 0 turn' 0 used' L' ∧ g'.lo ≤ g'.bs.length ∧ tg t' 4 = .pointer (some ⟨b, 0, some 0⟩) := by
  intro d
  induction d with
  | zero =>
    intro i all O vb vo used L g t hi H ha hwf t0 t3 t4 t5
    obtain rfl : i = l.length := by omega
    obtain ⟨a, cp, hav, _⟩ := A
    have hst : ∃ t', (∀ K, R C r8 (.inLoop lp8_0 :: .inBlock 0 :: K) t [] g = R C r8 K t' [] g) ∧ tg t' 4 = .pointer (some ⟨b, 0, some 0⟩) := by
      refine ex_step (fun k => R_open lp8_0.eq_1) ?_
      rw [hav] at t0
      simp [t0, t5]
      exact ⟨_, fun _ => rfl, by simp [t4]⟩
    obtain ⟨t', e, u⟩ := hst
    exact ⟨g, t', O, vb, vo, _, used, L, e, H, hwf, u⟩
  | succ d ih =>
    intro i all O vb vo used L g t hi H ha hwf t0 t3 t4 t5
    have hil : i < l.length := by omega
    obtain ⟨hs1, hs2, hs3⟩ := hs l[i] (List.getElem_mem hil)
    obtain ⟨a, cp, hav, hrd⟩ := A.get hil
    generalize hc : l[i] = c at *
    have rN := hrd
    have r1 : ∀ g, read1 C.old g (adda a (i * 4 + 1)) = some (str c.2.1) := fun g => by rw [← adda_adda]; exact (readN_read1 (hrd g) (by omega)).trans rfl
    have r2 : ∀ g, read1 C.old g (adda a (i * 4 + 1 + 1)) = some (str c.2.2.1) := fun g => by rw [show i * 4 + 1 + 1 = i * 4 + 2 by omega, ← adda_adda]; exact (readN_read1 (hrd g) (by omega)).trans rfl
    have r3 : ∀ g, read1 C.old g (adda a (i * 4 + 1 + 2)) = some (str c.2.2.2) := fun g => by rw [show i * 4 + 1 + 2 = i * 4 + 3 by omega, ← adda_adda]; exact (readN_read1 (hrd g) (by omega)).trans rfl
    rw [hav] at t0
    have ad1 := iv_add (a := all) (b := c.2.1.length) (by omega)
    have ad2 := iv_add (a := all + c.2.1.length) (b := c.2.2.1.length) (by omega)
    have ad3 := iv_add (a := all + c.2.1.length + c.2.2.1.length) (b := c.2.2.2.length) (by omega)
    generalize hall : all + c.2.1.length + c.2.2.1.length + c.2.2.2.length = all' at *
    by_cases hbig : 200000 < all'
    · have hst : ∃ t', (∀ K, R C r8 (.inLoop lp8_0 :: .inBlock 0 :: K) t [] g = R C r8 K t' [] g) ∧ tg t' 4 = .pointer (some ⟨b, 0, some 0⟩) := by
        refine ex_step (fun k => R_open lp8_0.eq_1) ?_
        simp [t0, t3, t5, hil, ixS_iv hil, adda_adda, r1, r2, r3, ad1, ad2, ad3, hbig]
        exact ⟨_, fun _ => rfl, by simp [t4]⟩
      obtain ⟨t', e, u⟩ := hst
      exact ⟨g, t', O, vb, vo, _, used, L, e, H, hwf, u⟩
    · obtain ⟨g1, v1, e1, own1, f1, b1⟩ := rform_spec T TW TT TM g c.1 c.2.1 c.2.2.1 c.2.2.2 (by omega) (by omega) (by omega) hwf
      have l1 := f1.len
      have o1 := f1.lo
      obtain ⟨g2, v2, e2, own2, f2, b2⟩ := form_spec T TD TM hk g1 c.1 c.2.1 c.2.2.1 c.2.2.2 (by omega) (by omega) (by omega) (by omega)
      have l2 := f2.len
      have o2 := f2.lo
      obtain ⟨g3, v3, e3, own3, f3, b3⟩ := form_spec T TD TM hk g2 c.1 c.2.1 c.2.2.1 c.2.2.2 (by omega) (by omega) (by omega) (by omega)
      have l3 := f3.len
      have o3 := f3.lo
      have hfl := formL_len c.1 c.2.1 c.2.2.1 c.2.2.2
      have hfl2 : (formL c.1 c.2.1 c.2.2.1 c.2.2.2).length ≤ 400 := by rw [hfl, List.length_take]; omega
      generalize formL c.1 c.2.1 c.2.2.1 c.2.2.2 = F at *
      have own1' := (own1.fr f2 fun _ _ h => h).fr f3 fun _ _ h => h
      have own2' := own2.fr f3 fun _ _ h => h
      obtain ⟨j1, hj1⟩ := own_blk own1 (by omega)
      obtain ⟨j2, hj2⟩ := own_blk own2 (by omega)
      obtain ⟨j3, hj3⟩ := own_blk own3 (by omega)
      have q1 := own1.blk hj1
      have q2 := own2.blk hj2
      have q3 := own3.blk hj3
      have p1 := b1 j1 hj1
      have p2 := b2 j2 hj2
      have p3 := b3 j3 hj3
      have F3 : Fr g g3 (fun _ => False) := (f1.trans f2 (fun _ h => h) (fun _ h _ => h)).trans f3 (fun _ h => h) (fun _ h _ => h)
      have H3 := H.fr F3 fun _ _ h => h
      have hO : ∀ j, O j → j < g.bs.length := H.olt
      obtain ⟨g4, O4, vb4, vo4, used4, L4, e4, H4, f4, hO4⟩ := bytes_spec TB g3 O b fz vb vo v2 0 (2 * i) 0 used F.length j2 L F H3 own2' hj2 (fun h => by have := hO j2 h; omega) (by omega) (by omega) (by omega)
      have l4 := f4.len
      have o4 := f4.lo
      have own1'' := own1'.fr f4 fun j hj hc => by
        rw [hj1] at hj; cases hj
        rcases hc with h | h
        · have := hO _ h; omega
        · omega
      have own3' := own3.fr f4 fun j hj hc => by
        rw [hj3] at hj; cases hj
        rcases hc with h | h
        · have := hO _ h; omega
        · omega
      obtain ⟨g5, O5, vb5, vo5, used5, L5, e5, H5, f5, hO5⟩ := bytes_spec TB g4 O4 b fz vb4 vo4 v3 0 (2 * i + 1) 0 used4 F.length j3 L4 F H4 own3' hj3 (fun h => by
        rcases hO4 j3 h with h | h | h
        · have := hO _ h; omega
        · omega
        · omega) (by omega) (by omega) (by omega)
      have l5 := f5.len
      have o5 := f5.lo
      obtain ⟨a1, c1, hv1, s1⟩ := own_sl (old := C.old) own1'
      obtain ⟨a2, c2, hv2, s2⟩ := own_sl (old := C.old) own2'
      obtain ⟨a3, c3, hv3, s3⟩ := own_sl (old := C.old) own3'
      obtain ⟨a1', c1', hv1', s1'⟩ := own_sl (old := C.old) own1''
      have eq1 := eq_spec TW g3 F F (by omega) a2 a1 c2 c1 s2 s1
      have eq2 := eq_spec TW g4 F F (by omega) a3 a1' c3 c1' s3 s1'
      rw [← hv1, ← hv2] at eq1
      rw [← hv1', ← hv3] at eq2
      have u1 := own1.und
      have u2 := own2.und
      have u3 := own3.und
      simp at eq1 eq2
      have hst : ∃ t', (∀ K, R C r8 (.inLoop lp8_0 :: .inBlock 0 :: K) t [] g = R C r8 (.inLoop lp8_0 :: .inBlock 0 :: K) t' [] g5) ∧ tg t' 0 = av ∧ tg t' 3 = iv all' ∧ tg t' 4 = .pointer (some ⟨b, 0, some 0⟩) ∧ tg t' 5 = iv (i + 1) := by
        refine ex_step (fun k => R_open lp8_0.eq_1) ?_
        have hcc : callCells c = [.bool c.1, str c.2.1, str c.2.2.1, str c.2.2.2] := rfl
        simp [t0, t3, t4, t5, hil, ixS_iv hil, adda_adda, r1, r2, r3, ad1, ad2, ad3, hbig, rN, hcc, Dc_ok, e1, stp_ok u1, e2, stp_ok u2, e3, stp_ok u3, u1, u2, u3, eq1, e4, eq2, e5, iv_add (a := i) (b := 1) (by omega)]
        exact ⟨_, fun _ => rfl, by simp [t0, hav], by simp, by simp [t4], by simp⟩
      obtain ⟨t', e, w0, w3, w4, w5⟩ := hst
      obtain ⟨g6, t6, O6, vb6, vo6, tu6, us6, L6, e6, r⟩ := ih (i + 1) all' O5 vb5 vo5 used5 L5 g5 t' (by omega) (by rw [show 2 * (i + 1) = 2 * i + 1 + 1 by omega]; exact H5) (by omega) (by omega) w0 w3 w4 w5
      exact ⟨g6, t6, O6, vb6, vo6, tu6, us6, L6, fun K => (e K).trans (e6 K), r⟩
theorem forms_all (hN : ∀ h, D C 147 [str nmA] h = some (.bool true, h)) (av : Value) (l : List CallT) (A : ArgC C.old av l) (hl : l.length < 2 ^ 50) (hs : ∀ c ∈ l, c.2.1.length < 2 ^ 60 ∧ c.2.2.1.length < 2 ^ 60 ∧ c.2.2.2.length < 2 ^ 60) (h : AHeap) (hwf : h.lo ≤ h.bs.length) :
    ∃ g', D C 8 [av] h = some (.bool true, g') := by
  have ew := fun h => wakes_spec T TD TW hk hp h hN
  rw [D_fn TM.h8]
  have f0 : Fr h (h.push (.cells (bk (.slice none 0 0) (.slice none 0 0) 0 0 0 0) 104)) (fun _ => False) := Fr.push
  have hB : BookI (h.push (.cells (bk (.slice none 0 0) (.slice none 0 0) 0 0 0 0) 104)) (fun j => j = h.bs.length) h.bs.length 103 (.slice none 0 0) (.slice none 0 0) 0 0 0 0 [] := {
    hb := push_self
    ob := .nil
    oo := .nil
    lo := hwf
    Ob := rfl
    Oc := fun j hj => by cases hj
    Od := fun j hj => by cases hj
    ls := fun x hx => by cases hx
    ds := .nil
    olt := fun j hj => by rw [hj]; simp
    lu := by simp }
  obtain ⟨t, e, t0, t3, t4, t5⟩ : ∃ t, R C r8 [.code b8] [av] [] h = R C r8 [.inLoop lp8_0, .inBlock 0, .code k8_0] t [] (h.push (.cells (bk (.slice none 0 0) (.slice none 0 0) 0 0 0 0) 104)) ∧ tg t 0 = av ∧ tg t 3 = iv 0 ∧ tg t 4 = .pointer (some ⟨h.bs.length, 0, some 0⟩) ∧ tg t 5 = iv 0 := by
    simp [b8, fillCells]
    exact ⟨_, rfl, by simp, by simp, by simp, by simp⟩
  obtain ⟨g, t', O', vb', vo', turn', used', L', e2, H, wf, u4⟩ := forms_loop T TD TW TT TM TB TE hk hp h.bs.length 103 av l A hl hs l.length 0 0 _ _ _ 0 [] _ t (by omega) hB (by omega) (by simp; omega) t0 t3 t4 t5
  obtain ⟨g2, e3⟩ := look_spec TB TE g O' h.bs.length 103 vb' vo' turn' 0 used' L' H wf
  refine ⟨g2, ?_⟩
  rw [e, e2]
  simp [k8_0, u4, Dc_ok, e3, ew, r8]
end Go.Ab.Aud

namespace Go.Proofs.YtecbgdnoblhldaaGreatDoor.au
open Go Go.Ab Go.Ab.Aud Go.Sha
theorem len2 {α : Type} {l : List α} (h : l.length = 2) : ∃ a b, l = [a, b] := by
  match l, h with
  | [a, b], _ => exact ⟨a, b, rfl⟩
theorem len3 {α : Type} {l : List α} (h : l.length = 3) : ∃ a b c, l = [a, b, c] := by
  match l, h with
  | [a, b, c], _ => exact ⟨a, b, c, rfl⟩
theorem len4 {α : Type} {l : List α} (h : l.length = 4) : ∃ a b c d, l = [a, b, c, d] := by
  match l, h with
  | [a, b, c, d], _ => exact ⟨a, b, c, d, rfl⟩
theorem wAll_mem {H : Type} {P : Program} {e : TypeId} : ∀ {ds : List (DataW H)} {d : DataW H}, d ∈ ds → ∀ n, n ∈ d.weights P e → n ∈ DataW.weightsAll P e ds
  | [], d, h, _, _ => by cases h
  | x :: r, d, h, n, hn => by
    simp only [DataW.weightsAll, List.mem_append]
    rcases List.mem_cons.1 h with rfl | h
    · exact .inl hn
    · exact .inr (wAll_mem h n hn)
section
variable {H : Type} {enc : TypeId × Value → H} {W : World} {spare : Nat → Bool} {held : Bool}
theorem cells105 : Tryz.prog.cellsOf 105 = 3 := by kernel_rfl
theorem cells107 : Tryz.prog.cellsOf 107 = 4 := by kernel_rfl
theorem cells9 : Tryz.prog.cellsOf 9 = 1 := by kernel_rfl
theorem bytes107 : Tryz.prog.bytesOf 107 = 56 := by kernel_rfl
theorem arg_req {fuel B : Nat} {cs : List Value} {x : DataW H × List MemPlace} (hw : ∀ n, n ∈ x.1.weights Tryz.prog 105 → n ≤ B) (h : DataW.trod enc Tryz.prog W 0 spare held fuel 105 cs = some x) :
    ∃ p a d : List UInt8, cs = [str p, str a, str d] ∧ p.length ≤ B ∧ a.length ≤ B ∧ d.length ≤ B := by
  obtain ⟨xs, n, _, hxe, hl, hxl, hx⟩ := DataW.trod_struct Tryz.underlying105 h
  rw [cells105] at hl
  have h0 := hx 0 _ rfl
  have h1 := hx 1 _ rfl
  have h2 := hx 2 _ rfl
  have hxl : xs.length = 3 := hxl
  obtain ⟨x0, x1, x2, rfl⟩ := len3 hxl
  replace h0 : DataW.trod enc Tryz.prog W 0 spare held n 9 ((cs.drop 0).take (Tryz.prog.cellsOf 9)) = some x0 := h0
  replace h1 : DataW.trod enc Tryz.prog W 0 spare held n 9 ((cs.drop 1).take (Tryz.prog.cellsOf 9)) = some x1 := h1
  replace h2 : DataW.trod enc Tryz.prog W 0 spare held n 9 ((cs.drop 2).take (Tryz.prog.cellsOf 9)) = some x2 := h2
  rw [cells9] at h0 h1 h2
  obtain ⟨c0, c1, c2, rfl⟩ := len3 hl
  obtain ⟨p, hp, rfl, _⟩ := DataW.trod_string Tryz.underlying9 h0
  obtain ⟨a, ha, rfl, _⟩ := DataW.trod_string Tryz.underlying9 h1
  obtain ⟨d, hd, rfl, _⟩ := DataW.trod_string Tryz.underlying9 h2
  simp at hp ha hd
  rw [hxe] at hw
  simp only [DataW.weights, Tryz.underlying105] at hw
  have hw' : ∀ n, n ∈ [p.data.toList.length, a.data.toList.length, d.data.toList.length] → n ≤ B := hw
  refine ⟨p.data.toList, a.data.toList, d.data.toList, by rw [hp, ha, hd]; rfl, hw' _ (by simp), hw' _ (by simp), hw' _ (by simp)⟩
theorem arg_call {fuel B : Nat} {cs : List Value} {x : DataW H × List MemPlace} (hw : ∀ n, n ∈ x.1.weights Tryz.prog 107 → n ≤ B) (h : DataW.trod enc Tryz.prog W 0 spare held fuel 107 cs = some x) :
    ∃ c : CallT, OldCells cs (callCells c) ∧ c.2.1.length ≤ B ∧ c.2.2.1.length ≤ B ∧ c.2.2.2.length ≤ B := by
  obtain ⟨xs, n, _, hxe, hl, hxl, hx⟩ := DataW.trod_struct Tryz.underlying107 h
  rw [cells107] at hl
  have h0 := hx 0 _ rfl
  have h1 := hx 1 _ rfl
  have hxl : xs.length = 2 := hxl
  obtain ⟨x0, x1, rfl⟩ := len2 hxl
  replace h0 : DataW.trod enc Tryz.prog W 0 spare held n 4 ((cs.drop 0).take (Tryz.prog.cellsOf 4)) = some x0 := h0
  replace h1 : DataW.trod enc Tryz.prog W 0 spare held n 105 ((cs.drop 1).take (Tryz.prog.cellsOf 105)) = some x1 := h1
  rw [cells4] at h0
  rw [cells105] at h1
  obtain ⟨b, hb, rfl⟩ := DataW.trod_bool Tryz.underlying4 h0
  have hw1 : ∀ n, n ∈ x1.1.weights Tryz.prog 105 → n ≤ B := fun n hn => hw n (by
    rw [hxe]
    simp only [DataW.weights, Tryz.underlying107]
    have : n ∈ [] ++ (x1.1.weights Tryz.prog 105 ++ []) := by simpa using hn
    exact this)
  obtain ⟨p, a, d, hc, q1, q2, q3⟩ := arg_req hw1 h1
  refine ⟨(b, p, a, d), ?_, q1, q2, q3⟩
  have hcs : cs = [.bool b, str p, str a, str d] := by
    obtain ⟨c0, c1, c2, c3, rfl⟩ := len4 hl
    simp at hb hc
    rw [hb, hc.1, hc.2.1, hc.2.2]
  rw [hcs]
  refine ⟨rfl, fun i y hy => ?_⟩
  match i with
  | 0 => cases hy; exact ⟨_, rfl, rfl⟩
  | 1 => cases hy; exact ⟨_, rfl, rfl⟩
  | 2 => cases hy; exact ⟨_, rfl, rfl⟩
  | 3 => cases hy; exact ⟨_, rfl, rfl⟩
  | i + 4 => simp at hy
theorem arg_calls {fuel B : Nat} {cs : List Value} {x : DataW H × List MemPlace} (hsp : ∀ b, spare b = true) (hw : ∀ n, n ∈ x.1.weights Tryz.prog 76 → n ≤ B) (h : DataW.trod enc Tryz.prog W 0 spare held fuel 76 cs = some x) :
    ∃ v av l, cs = [v] ∧ oldV v = some av ∧ ArgC (oldOf W) av l ∧ l.length ≤ B ∧ ∀ c ∈ l, c.2.1.length ≤ B ∧ c.2.2.1.length ≤ B ∧ c.2.2.2.length ≤ B := by
  obtain ⟨v, av, a, len, cp, els, h1, h2, h3, h4, h5, h6, h7, h8, h9⟩ := arg_slice_q Tryz.underlying76 cells107 (by omega) hsp (fun d => ∀ n, n ∈ d.weights Tryz.prog 107 → n ≤ B)
    (fun ds rest hx d hd n hn => hw n (by rw [hx]; simp only [DataW.weights, Tryz.underlying76]; exact List.mem_cons_of_mem _ (List.mem_append_left _ (wAll_mem hd n hn))))
    (fun c => ∃ y : CallT, c = callCells y ∧ y.2.1.length ≤ B ∧ y.2.2.1.length ≤ B ∧ y.2.2.2.length ≤ B) (fun n cs y _ hq htr => by
    obtain ⟨c, o, r⟩ := arg_call hq htr
    exact ⟨_, o, c, rfl, r⟩) h
  have : ∀ els : List (List Value), (∀ c, c ∈ els → (∃ y : CallT, c = callCells y ∧ y.2.1.length ≤ B ∧ y.2.2.1.length ≤ B ∧ y.2.2.2.length ≤ B) ∧ c.length = 4) → ∃ l : List CallT, l.length = els.length ∧ els.flatten = l.flatMap callCells ∧ ∀ c ∈ l, c.2.1.length ≤ B ∧ c.2.2.1.length ≤ B ∧ c.2.2.2.length ≤ B := by
    intro els
    induction els with
    | nil => exact fun _ => ⟨[], rfl, rfl, fun x hx => by cases hx⟩
    | cons c els ih =>
      intro hc
      obtain ⟨l, l1, l2, l3⟩ := ih fun c' hc' => hc c' (by simp [hc'])
      obtain ⟨⟨y, rfl, hy⟩, _⟩ := hc c (by simp)
      exact ⟨y :: l, by simp [l1], by simp [l2], fun x hx => by rcases List.mem_cons.1 hx with rfl | hx; { exact hy }; exact l3 x hx⟩
  obtain ⟨l, l1, l2, l3⟩ := this els h6
  have hlen : l.length ≤ B := by
    by_cases h0 : 0 < len
    · obtain ⟨ds, rest, hx, hd⟩ := h9 h0
      have := hw ((ds.length + rest.length) * Tryz.prog.bytesOf 107) (by rw [hx]; simp [DataW.weights, Tryz.underlying76])
      rw [bytes107, hd] at this
      omega
    · omega
  rw [l2] at h7
  exact ⟨v, av, l, h1, h2, ⟨a, cp, by rw [h3, l1, h4], fun g => by rw [l1, h4]; exact h7 g⟩, hlen, l3⟩
end
end Go.Proofs.YtecbgdnoblhldaaGreatDoor.au
