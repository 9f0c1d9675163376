/-
  Steps of the proof of AuditTakesCardSaid: what functions of the program do in the abstract machine, and the laws between; no condition beside those that each theorem names.
-/
import Derived.Test.YtecbgdnoblhldaaGreatDoorAuC
import Derived.Test.YtecbgdnoblhldaaGreatDoorAuB
import Derived.SizedLaws

set_option linter.unusedSimpArgs false
set_option linter.unusedVariables false
set_option linter.unusedSectionVars false

namespace Go.Ab.Aud
open Go.Sha
variable {C : Ctx} (T : Tab_LLog C) (TD : Tab_LDig C) (TW : Tab_LLaw C) (hk : ∀ j, j < 64 → C.old 0 j = some (wv (kW j))) (hp : ∀ j, j < 16 → C.old 1 j = some (wv (crcW j)))
include T TD TW hk hp
set_option maxHeartbeats 1000000 in
theorem wk_step (i wr p d : Nat) (O : Nat → Prop) (b : UInt8) (content : List UInt8) (leaves : List (List UInt8)) (g : AHeap) (t : List Value) (hi : i < 3) (hb : UInt8.ofNat i = b) (hl : leaves.length = i) (hc : content.length ≤ 100) (hwr : wr < 100) (H : LogAt g O p d nmA content leaves 1000 wr) (hwf : g.lo ≤ g.bs.length)
    (hN : ∀ h, D C 147 [str nmA] h = some (.bool true, h)) (t3 : tg t 3 = .pointer (some ⟨p, 0, some 0⟩)) (t5 : tg t 5 = iv i) :
    ∃ g' t' O', (∀ k, R C r23 (.inLoop lp23_0 :: .inBlock 0 :: k) t [] g = R C r23 (.inLoop lp23_0 :: .inBlock 0 :: k) t' [] g') ∧ tg t' 3 = .pointer (some ⟨p, 0, some 0⟩) ∧ tg t' 5 = iv (i + 1) ∧ LogAt g' O' p d nmA (content ++ frame [b]) (leaves ++ [lh [b]]) 1000 (wr + 1) ∧ g'.lo ≤ g'.bs.length ∧ (content ++ frame [b]).length = content.length + 14 := by
  have f1 : Fr g (g.push (.cells [bv b] 6)) (fun _ => False) := Fr.push
  have H1 := H.fr f1 (fun _ _ h => h)
  have ol := H.olt
  obtain ⟨g', e, H2, f2⟩ := audit_append T TD hp hk (g.push (.cells [bv b] 6)) O p d 1000 wr nmA content leaves [b] (some ⟨g.bs.length, 0, some 0⟩) 1 1 H1 one_sl (fun j hj hO => by have := slLive hj; have := ol j hO; omega) (by simp; omega) (by omega) (by omega) (by omega) (by omega) (by omega) hN
  have l2 := f2.len
  have g2 := f2.lo
  have hfl := frame_length [b]
  simp at l2 g2 hfl
  have e2 : ∃ t', (∀ k, R C r23 (.inLoop lp23_0 :: .inBlock 0 :: k) t [] g = R C r23 (.inLoop lp23_0 :: .inBlock 0 :: k) t' [] g') ∧ tg t' 3 = .pointer (some ⟨p, 0, some 0⟩) ∧ tg t' 5 = iv (i + 1) := by
    refine ex_step (fun k => R_open lp23_0.eq_1) ?_
    simp [t3, t5, hi, hb, fillCells, splice, Dc_ok, e, num_spec TW, hl, cvt_iu (show i < 18446744073709551616 by omega), iv_add (a := i) (b := 1) (by omega)]
    exact ⟨_, fun _ => rfl, by simp [t3], by simp⟩
  obtain ⟨t', e2, u3, u5⟩ := e2
  exact ⟨g', t', _, e2, u3, u5, H2, by omega, by simp [hfl]⟩
set_option maxHeartbeats 4000000 in
theorem wakes_spec (h : AHeap) (hN : ∀ h, D C 147 [str nmA] h = some (.bool true, h)) : D C 23 [] h = some (.bool true, h) := by
  rw [D_fn3 TW.h23 _ rfl]
  generalize hh0 : ({ bs := [], lo := 0 } : AHeap) = h0
  have h0lo : h0.lo = 0 := by rw [← hh0]
  obtain ⟨h1, h2, d, p, O, e1, e2, L, hO, f2⟩ := open_new T h0 1000 nmA (by omega) (by omega) (by omega) hN
  have l2 := f2.len
  have g2 := f2.lo
  obtain ⟨t, e, u3, u5⟩ : ∃ t, R C r23 [.code b23] [] [] h0 = R C r23 (.inLoop lp23_0 :: .inBlock 0 :: [.code k23_0]) t [] h2 ∧ tg t 3 = .pointer (some ⟨p, 0, some 0⟩) ∧ tg t 5 = iv 0 := by
    have hs : Value.string ⟨⟨[97]⟩⟩ = str nmA := rfl
    simp [b23, Dc_ok, e1, num_spec TW, hs, e2, aeq_nilPs]
    exact ⟨_, rfl, by simp, by simp⟩
  obtain ⟨g1, t1, O1, x1, y1, z1, L1, w1, c1⟩ := wk_step T TD TW hk hp 0 0 p d O 0 [] [] h2 t (by omega) rfl rfl (by simp) (by omega) L (by omega) hN u3 u5
  obtain ⟨g2', t2, O2, x2, y2, z2, L2, w2, c2⟩ := wk_step T TD TW hk hp 1 1 p d O1 1 _ _ g1 t1 (by omega) rfl (by simp) (by simp at c1 ⊢; omega) (by omega) L1 w1 hN y1 z1
  obtain ⟨g3, t3, O3, x3, y3, z3, L3, w3, c3⟩ := wk_step T TD TW hk hp 2 2 p d O2 2 _ _ g2' t2 (by omega) rfl (by simp) (by simp at c1 c2 ⊢; omega) (by omega) L2 w2 hN y2 z2
  have hl : [] ++ [lh [0]] ++ [lh [1]] ++ [lh [2]] = wl3 := rfl
  rw [hl] at L3
  generalize [] ++ frame [0] ++ frame [1] ++ frame [2] = content at L3
  obtain ⟨t4, e4, u4⟩ : ∃ t', (∀ k, R C r23 (.inLoop lp23_0 :: .inBlock 0 :: k) t3 [] g3 = R C r23 k t' [] g3) ∧ tg t' 3 = .pointer (some ⟨p, 0, some 0⟩) := by
    refine ex_step (fun k => R_open lp23_0.eq_1) ?_
    simp [z3]
    exact ⟨_, fun _ => rfl, by simp [y3]⟩
  rw [e, x1, x2, x3, e4]
  have hlw : wl3.length = 3 := rfl
  have hz : Value.int .u8 0 = bv 0 := rfl
  have hb1 : Value.int .u8 1 = bv 1 := rfl
  have hb2 : Value.int .u8 2 = bv 2 := rfl
  generalize hZ : ABlock.cells (uv 0 :: List.replicate 32 (bv 0)) 36 = Z
  have hZ0 := hZ
  simp [List.replicate] at hZ
  have wz : ∀ (g : AHeap) (b n : Nat) (r : List UInt8), r.length = 32 → wrN g b (some Z) 0 0 (uv n :: bytesVals r) = some (g.put b (.cells (uv n :: bytesVals r) 36)) := by
    intro g b n r hr
    rw [← hZ0, wrN_cells (by simp [hr]) (by rw [List.all_cons, bytes_ok]; rfl)]
    congr 3
    simp [splice, hr]
  have rz : ∀ (n : Nat) (r : List UInt8), r.length = 32 → rdN (some (.cells (uv n :: bytesVals r) 36)) 0 0 33 = some (uv n :: bytesVals r) := by
    intro n r hr
    rw [rdN_cells (by simp [hr]), List.drop_zero, List.take_of_length_le (by simp [hr])]
  have hwR : wRoot.length = 32 := sha_length _
  have hwT : wTwo.length = 32 := sha_length _
  -- the heads
  obtain ⟨g4, e5, f4⟩ := head_spec T TD hk g3 O3 p d 1000 _ nmA content wl3 L3 3 (by omega) (by omega) w3
  rw [rootL3] at e5
  have l4 := f4.len
  have o4 := f4.lo
  have s5 : (g4.push Z).at g4.bs.length = some Z := push_self
  generalize hg5 : (g4.push Z).put g4.bs.length (.cells (uv 3 :: bytesVals wRoot) 36) = g5
  have f5 : Fr g3 g5 (fun _ => False) := by rw [← hg5]; exact (f4.push').put' (.inr (by omega))
  have v8 : g5.at g4.bs.length = some (.cells (uv 3 :: bytesVals wRoot) 36) := by rw [← hg5]; exact put_self (by simp)
  have l5 : g5.bs.length = g4.bs.length + 1 := by rw [← hg5]; simp
  have o5 := f5.lo
  have w5 : g5.lo ≤ g5.bs.length := by omega
  have hlo4 : g4.lo ≤ g4.bs.length := by omega
  have L5 := L3.fr f5 (fun _ _ h => h)
  obtain ⟨g6, e6, f6⟩ := head_spec T TD hk g5 O3 p d 1000 _ nmA content wl3 L5 2 (by omega) (by omega) w5
  rw [rootL32] at e6
  have l6 := f6.len
  have o6 := f6.lo
  have s6 : (g6.push Z).at g6.bs.length = some Z := push_self
  generalize hg7 : (g6.push Z).put g6.bs.length (.cells (uv 2 :: bytesVals wTwo) 36) = g7
  have f7 : Fr g5 g7 (fun _ => False) := by rw [← hg7]; exact (f6.push').put' (.inr (by omega))
  have v9 : g7.at g6.bs.length = some (.cells (uv 2 :: bytesVals wTwo) 36) := by rw [← hg7]; exact put_self (by simp)
  have l7 : g7.bs.length = g6.bs.length + 1 := by rw [← hg7]; simp
  have o7 := f7.lo
  have w7 : g7.lo ≤ g7.bs.length := by omega
  have hlo6 : g6.lo ≤ g6.bs.length := by omega
  have L7 := L5.fr f7 (fun _ _ h => h)
  obtain ⟨g8, vp, e7, P8, f8, b8⟩ := prove_spec T TD hk g7 O3 p d 1000 _ nmA content wl3 L7 1 3 (by omega) (by omega) (by omega) w7
  rw [path3] at P8
  have l8 := f8.len
  have o8 := f8.lo
  have L8 := L7.fr f8 (fun _ _ h => h)
  obtain ⟨g9, vq, e8, P9, f9⟩ := follow_spec T TD hk g8 O3 p d 1000 _ nmA content wl3 L8 2 3 (by omega) (by omega) (by omega) (by omega)
  rw [if_neg (by omega), proof3] at P9
  have l9 := f9.len
  have o9 := f9.lo
  have P8' : DigO g9 vp [lh [0], lh [2]] := P8.fr f9 (fun _ _ h => h)
  obtain ⟨ap, cpp, hvp, R9⟩ := P8'.digR (old := C.old)
  obtain ⟨aq, cpq, hvq, Q9, _⟩ := P9
  have k8 : g9.at g4.bs.length = some (.cells (uv 3 :: bytesVals wRoot) 36) := f9.get (f8.get (f7.get v8 (fun h => h)) (fun h => h)) (fun h => h)
  have k9 : g9.at g6.bs.length = some (.cells (uv 2 :: bytesVals wTwo) 36) := f9.get (f8.get v9 (fun h => h)) (fun h => h)
  generalize hg10 : g9.push (.cells [bv 1] 6) = g10
  have f10 : Fr g9 g10 (fun _ => False) := by rw [← hg10]; exact Fr.push
  have sl1 : SlR C.old g10 1 (.slice (some ⟨g9.bs.length, 0, some 0⟩) 1 1) (bytesVals [1]) := by rw [← hg10]; exact one_sl
  have lf1 := leaf_spec TD hk g10 [1] (some ⟨g9.bs.length, 0, some 0⟩) 1 1 sl1 (by omega)
  have in1 := incl_spec T TD hk g10 3 1 wRoot (lh [1]) [lh [0], lh [2]] hwR (sha_length _) (by omega) (by omega) ap cpp (R9.fr f10 (fun _ _ h => h))
  have fo1 := foll_spec T TD hk g10 2 3 wTwo wRoot [lh [2]] hwT hwR (by omega) (by omega) aq cpq (Q9.fr f10 (fun _ _ h => h))
  rw [foll3] at fo1
  have in1v : inclF 3 1 wRoot (lh [1]) [lh [0], lh [2]] = 0 := by rw [incl3]; exact if_pos rfl
  rw [in1v] at in1
  generalize hg11 : g10.push (.cells [bv 2] 6) = g11
  have f11 : Fr g10 g11 (fun _ => False) := by rw [← hg11]; exact Fr.push
  have sl2 : SlR C.old g11 1 (.slice (some ⟨g10.bs.length, 0, some 0⟩) 1 1) (bytesVals [2]) := by rw [← hg11]; exact one_sl
  have lf2 := leaf_spec TD hk g11 [2] (some ⟨g10.bs.length, 0, some 0⟩) 1 1 sl2 (by omega)
  have in2 := incl_spec T TD hk g11 3 1 wRoot (lh [2]) [lh [0], lh [2]] hwR (sha_length _) (by omega) (by omega) ap cpp ((R9.fr f10 (fun _ _ h => h)).fr f11 (fun _ _ h => h))
  have in2v : inclF 3 1 wRoot (lh [2]) [lh [0], lh [2]] = 236 := by rw [incl3]; exact if_neg (fun h => wakes_sha.mp h)
  rw [in2v] at in2
  have m8 : g10.at g4.bs.length = some (.cells (uv 3 :: bytesVals wRoot) 36) := f10.get k8 (fun h => h)
  have m9 : g10.at g6.bs.length = some (.cells (uv 2 :: bytesVals wTwo) 36) := f10.get k9 (fun h => h)
  have n8 : g11.at g4.bs.length = some (.cells (uv 3 :: bytesVals wRoot) 36) := f11.get m8 (fun h => h)
  have lhd : ∀ b : UInt8, sha [0, b] = lh [b] := fun _ => rfl
  rw [lhd] at lf1 lf2
  subst hvp
  subst hvq
  simp at in1 in2 fo1 e7 e8
  have r : R C r23 [.code k23_0] t4 [] g3 = some (.bool true, g11) := by
    simp [k23_0, u4, Dc_ok, e5, hz, hZ, bytes_ok, hwR, hwT, writeN_wr, hlo4, s5, wz, hg5, e6, hlo6, s6, hg7, e7, e8, num_spec TW, v8, v9, k8, k9, rz, hb1, hb2, fillCells, splice, hg10, lf1, in1, m8, m9, fo1, hg11, lf2, in2, n8, r23]
  rw [r]
  exact pur_some rfl
end Go.Ab.Aud

namespace Go.Ab.Aud
open Go.Sha
/-- heads that were given -/
def headCells (l : List (Nat × List UInt8)) : List Value := l.flatMap fun x => uv x.1 :: bytesVals x.2
def ArgH (old : Old) (v : Value) (l : List (Nat × List UInt8)) : Prop := ∃ a cp, v = .slice a l.length cp ∧ (∀ h, SlR old h 33 (.slice a l.length cp) (headCells l)) ∧ (∀ j, ¬ Live (.slice a l.length cp) j) ∧ ∀ x, x ∈ l → x.1 < 18446744073709551616 ∧ x.2.length = 32
theorem headCells_get : ∀ {l : List (Nat × List UInt8)}, (∀ x, x ∈ l → x.2.length = 32) → ∀ {i : Nat}, i < l.length → ((headCells l).drop (i * 33)).take 33 = uv (l.getD i (0, [])).1 :: bytesVals (l.getD i (0, [])).2
  | [], _, i, hi => by cases hi
  | x :: l, h, 0, _ => by
    have h1 := h x (by simp)
    have e : headCells (x :: l) = (uv x.1 :: bytesVals x.2) ++ headCells l := rfl
    rw [e, Nat.zero_mul, List.drop_zero, List.take_append_of_le_length (by simp [h1]), List.take_of_length_le (by simp [h1])]
    rfl
  | x :: l, h, i + 1, hi => by
    have h1 := h x (by simp)
    have e : headCells (x :: l) = (uv x.1 :: bytesVals x.2) ++ headCells l := rfl
    have e2 : (i + 1) * 33 = (uv x.1 :: bytesVals x.2).length + i * 33 := by simp [h1]; omega
    rw [e, e2, ← List.drop_drop, List.drop_left, headCells_get (fun y hy => h y (by simp [hy])) (by simpa using hi)]
    rfl
theorem ArgH.get {old : Old} {v : Value} {l : List (Nat × List UInt8)} (H : ArgH old v l) {i : Nat} (hi : i < l.length) : ∃ a' cp, v = .slice (some a') l.length cp ∧ (∀ h, readN old h (adda a' (i * 33)) 33 = some (uv (l.getD i (0, [])).1 :: bytesVals (l.getD i (0, [])).2)) ∧ (∀ h, readN old h (adda (adda a' (i * 33)) 1) 32 = some (bytesVals (l.getD i (0, [])).2)) ∧ (l.getD i (0, [])).1 < 18446744073709551616 ∧ (l.getD i (0, [])).2.length = 32 := by
  obtain ⟨a, cp, h1, h2, _, h4⟩ := H
  obtain ⟨a', rfl⟩ := (h2 ⟨[], 0⟩).ex (by omega)
  have hm : l.getD i (0, []) ∈ l := by rw [List.getD_eq_getElem?_getD, List.getElem?_eq_getElem hi]; exact List.getElem_mem hi
  have g := headCells_get (fun x hx => (h4 x hx).2) hi
  have r : ∀ h, readN old h (adda a' (i * 33)) 33 = some (uv (l.getD i (0, [])).1 :: bytesVals (l.getD i (0, [])).2) := fun h => by
    have := readN_part ((h2 h).read (by omega)) (i := i * 33) (m := 33) (by omega)
    rwa [g] at this
  refine ⟨a', cp, h1, r, fun h => ?_, (h4 _ hm).1, (h4 _ hm).2⟩
  have := readN_part (r h) (i := 1) (m := 32) (by omega)
  rw [this]
  have hl := (h4 _ hm).2
  rw [List.drop_succ_cons, List.drop_zero, List.take_of_length_le (by rw [bytes_len, hl]; exact Nat.le_refl _)]
theorem ArgH.lenV {old : Old} {v : Value} {l : List (Nat × List UInt8)} (H : ArgH old v l) : lenV v = some (Go.Ab.iv l.length) ∧ isUnd v = false ∧ okCell v = true := by obtain ⟨a, cp, rfl, _⟩ := H; exact ⟨rfl, rfl, rfl⟩
theorem ArgDig.get {old : Old} {v : Value} {l : List (List UInt8)} (H : ArgDig old v l) {i : Nat} (hi : i < l.length) : ∃ a' cp, v = .slice (some a') l.length cp ∧ (∀ h, readN old h (adda a' (i * 32)) 32 = some (bytesVals (l.getD i []))) ∧ (l.getD i []).length = 32 := by
  obtain ⟨a, cp, h1, h2, _⟩ := H
  obtain ⟨a', rfl, _⟩ := (h2 ⟨[], 0⟩).get hi
  exact ⟨a', cp, h1, fun h => by obtain ⟨a2, h3, h4⟩ := (h2 h).get hi; cases h3; exact h4, get32 (h2 ⟨[], 0⟩).2 hi⟩
theorem ArgDig.lenV {old : Old} {v : Value} {l : List (List UInt8)} (H : ArgDig old v l) : lenV v = some (Go.Ab.iv l.length) ∧ isUnd v = false ∧ okCell v = true := by obtain ⟨a, cp, rfl, _⟩ := H; exact ⟨rfl, rfl, rfl⟩
/-- paths that were given -/
def ArgP (old : Old) (v : Value) (l : List (List (List UInt8))) : Prop :=
  ∃ a cp vs, v = .slice a l.length cp ∧ (∀ h, SlR old h 1 (.slice a l.length cp) vs) ∧ (∀ j, ¬ Live (.slice a l.length cp) j) ∧ ∀ i, i < l.length → ∃ x, vs[i]? = some x ∧ ArgDig old x (l.getD i [])
theorem ArgP.get {old : Old} {v : Value} {l : List (List (List UInt8))} (H : ArgP old v l) {i : Nat} (hi : i < l.length) : ∃ a' cp x, v = .slice (some a') l.length cp ∧ (∀ h, read1 old h (adda a' i) = some x) ∧ ArgDig old x (l.getD i []) := by
  obtain ⟨a, cp, vs, h1, h2, _, h4⟩ := H
  obtain ⟨a', rfl⟩ := (h2 ⟨[], 0⟩).ex (by omega)
  obtain ⟨x, hx, hA⟩ := h4 i hi
  refine ⟨a', cp, x, h1, fun h => ?_, hA⟩
  have := readN_read1 ((h2 h).read (by omega)) (i := i) (by omega)
  rw [this, hx]
theorem ArgP.lenV {old : Old} {v : Value} {l : List (List (List UInt8))} (H : ArgP old v l) : lenV v = some (Go.Ab.iv l.length) ∧ isUnd v = false ∧ okCell v = true := by obtain ⟨a, cp, vs, rfl, _⟩ := H; exact ⟨rfl, rfl, rfl⟩
theorem ArgR.lenV3 {old : Old} {v : Value} {l : List (List UInt8)} (H : ArgR old v l) : lenV v = some (Go.Ab.iv l.length) ∧ isUnd v = false ∧ okCell v = true := by obtain ⟨a, cp, vs, rfl, _⟩ := H; exact ⟨rfl, rfl, rfl⟩
variable {C : Ctx} (TT : Tab_LTake C)
include TT
theorem same_loop (h : AHeap) (ps : List (List UInt8)) (a b : Option Addr) (c d : Nat) (P : DigR C.old h a c ps) (Q : DigR C.old h b d ps) (hl : ps.length < 2 ^ 40) : ∀ (k i : Nat) (t : List Value), i + k = ps.length → tg t 0 = .slice a ps.length c → tg t 1 = .slice b ps.length d → tg t 5 = Go.Ab.iv i →
    ∃ t', (∀ K, R C r16 (.inLoop lp16_0 :: .inBlock 0 :: K) t [] h = R C r16 K t' [] h) := by
  intro k
  induction k with
  | zero =>
    intro i t hi t0 t1 t5
    obtain rfl : i = ps.length := by omega
    refine ex_step0 (fun k => R_open lp16_0.eq_1) ?_
    simp [t0, t5]
    exact ⟨_, fun _ => rfl⟩
  | succ k ih =>
    intro i t hi t0 t1 t5
    obtain ⟨a', ha, ra⟩ := P.get (i := i) (by omega)
    obtain ⟨b', hb, rb⟩ := Q.get (i := i) (by omega)
    have g := get32 P.2 (i := i) (by omega)
    have eq := aeq_dig g g
    simp [List.replicate, -List.getD_eq_getElem?_getD] at eq
    rw [ha] at t0; rw [hb] at t1
    obtain ⟨t', e, u0, u1, u5⟩ : ∃ t', (∀ K, R C r16 (.inLoop lp16_0 :: .inBlock 0 :: K) t [] h = R C r16 (.inLoop lp16_0 :: .inBlock 0 :: K) t' [] h) ∧ tg t' 0 = tg t 0 ∧ tg t' 1 = tg t 1 ∧ tg t' 5 = Go.Ab.iv (i + 1) := by
      refine ex_step (fun k => R_open lp16_0.eq_1) ?_
      simp [-List.getD_eq_getElem?_getD, t0, t1, t5, show i < ps.length by omega, ixS_iv (show i < ps.length by omega), ra, rb, eq, iv_add (a := i) (b := 1) (by omega)]
      exact ⟨_, fun _ => rfl, by simp [t0], by simp [t1], by simp⟩
    obtain ⟨t2, e2⟩ := ih (i + 1) t' (by omega) (by rw [u0, t0, ha]) (by rw [u1, t1, hb]) u5
    exact ⟨t2, fun K => (e K).trans (e2 K)⟩
theorem same_spec (h : AHeap) (ps : List (List UInt8)) (a b : Option Addr) (c d : Nat) (P : DigR C.old h a c ps) (Q : DigR C.old h b d ps) (hl : ps.length < 2 ^ 40) : D C 16 [.slice a ps.length c, .slice b ps.length d] h = some (.bool true, h) := by
  rw [D_fn2 TT.h16]
  replace P : DigR C.old ({ h with lo := h.bs.length } : AHeap) a c ps := ⟨P.1.lo, P.2⟩
  replace Q : DigR C.old ({ h with lo := h.bs.length } : AHeap) b d ps := ⟨Q.1.lo, Q.2⟩
  generalize ({ h with lo := h.bs.length } : AHeap) = h0 at P Q ⊢
  suffices hR : R C r16 [.code b16] [.slice a ps.length c, .slice b ps.length d] [] h0 = some (.bool true, h0) by rw [hR]; exact pur_some rfl
  obtain ⟨t, e, u0, u1, u5⟩ : ∃ t, R C r16 [.code b16] [.slice a ps.length c, .slice b ps.length d] [] h0 = R C r16 (.inLoop lp16_0 :: .inBlock 0 :: [.code k16_0]) t [] h0 ∧ tg t 0 = .slice a ps.length c ∧ tg t 1 = .slice b ps.length d ∧ tg t 5 = Go.Ab.iv 0 := by
    simp [b16]
    exact ⟨_, rfl, by simp, by simp, by simp⟩
  obtain ⟨t2, e2⟩ := same_loop TT h0 ps a b c d P Q hl ps.length 0 t (by omega) u0 u1 u5
  rw [e, e2]
  simp [k16_0, r16]
end Go.Ab.Aud

namespace Go.Ab.Aud
open Go.Sha
def tb0 : ACode := blkIn (s1 (s2 lp3_0))
def tb1 : ACode := s2 tb0
def tb2 : ACode := s2 tb1
def tb3 : ACode := s2 tb2
def tb4 : ACode := s2 tb3
def tb5 : ACode := s2 tb4
def tb6 : ACode := s2 tb5
def tb7 : ACode := s2 tb6
def tb8 : ACode := s2 tb7
def tb9 : ACode := s2 tb8
def tb10 : ACode := s2 tb9
def tb11 : ACode := s2 tb10
def tinc : ACode := s2 (s2 lp3_0)
theorem tlp_e : lp3_0 = .seq (s1 lp3_0) (.seq (.block 1 tb0) tinc) := rfl
theorem tb_e4 : tb1 = .seq (s1 tb1) (.seq (s1 tb2) (.seq (s1 tb3) tb4)) := rfl
theorem tb_e7 : tb5 = .seq (s1 tb5) (.seq (s1 tb6) tb7) := rfl
def aaD : List UInt8 := 170 :: List.replicate 31 0
theorem aaD_len : aaD.length = 32 := rfl
/-- where the loop stands -/
structure TS (g : AHeap) (t : List Value) (bE : Nat) (E : List Value) (i : Nat) : Prop where
  aE : g.at bE = some (.cells E 29)
  t1 : tg t 1 = .pointer (some ⟨bE, 0, some 0⟩)
  t3 : tg t 3 = Go.Ab.iv i
  wf : g.lo ≤ g.bs.length
theorem TS.mv {g g' : AHeap} {t t' : List Value} {bE : Nat} {E : List Value} {i i' : Nat} (H : TS g t bE E i) (f : Fr g g' (fun _ => False)) (t1 : tg t' 1 = tg t 1) (t3 : tg t' 3 = Go.Ab.iv i') : TS g' t' bE E i' :=
  ⟨f.get H.aE (fun h => h), t1.trans H.t1, t3, by rw [f.lo]; have := f.len; have := H.wf; omega⟩
/-- what a round has laid -/
structure TR (C : Ctx) (g : AHeap) (t : List Value) (b5 n : Nat) (leaf : List UInt8) (pv : Value) (ps : List (List UInt8)) : Prop where
  t4 : tg t 4 = uv n
  t5 : tg t 5 = .pointer (some ⟨b5, 0, some 0⟩)
  t6 : tg t 6 = pv
  a5 : g.at b5 = some (.cells (bytesVals leaf) 31)
  n64 : n < 18446744073709551616
  l32 : leaf.length = 32
  P : ArgDig C.old pv ps
theorem TR.mv {C : Ctx} {g g' : AHeap} {t t' : List Value} {b5 n : Nat} {leaf : List UInt8} {pv : Value} {ps : List (List UInt8)} (H : TR C g t b5 n leaf pv ps) (f : Fr g g' (fun _ => False)) (t4 : tg t' 4 = tg t 4) (t5 : tg t' 5 = tg t 5) (t6 : tg t' 6 = tg t 6) : TR C g' t' b5 n leaf pv ps :=
  ⟨t4.trans H.t4, t5.trans H.t5, t6.trans H.t6, f.get H.a5 (fun h => h), H.n64, H.l32, H.P⟩
variable {C : Ctx} (T : Tab_LLog C) (TD : Tab_LDig C) (TW : Tab_LLaw C) (TT : Tab_LTake C) (hk : ∀ j, j < 64 → C.old 0 j = some (wv (kW j)))
section
variable (g : AHeap) (t : List Value) (bE : Nat) (ov hv nv lv pv ev : Value) (i : Nat) (H : TS g t bE [ov, hv, nv, lv, pv, ev] i) (ns : List Nat) (ls : List (List UInt8)) (pss : List (List (List UInt8))) (HN : ArgN C.old nv ns) (HL : ArgDig C.old lv ls) (HP : ArgP C.old pv pss)
include H HN HL HP
/-- a number, a leaf, a path -/
theorem tak_a (hn : 0 < ns.length) (hl : 0 < ls.length) (hp : 0 < pss.length) (hi : i < 60) : ∃ g' t' b5 n leaf v ps, (∀ K, R C r3 (.code tb1 :: K) t [] g = R C r3 (.code tb4 :: K) t' [] g') ∧ Fr g g' (fun _ => False) ∧ TR C g' t' b5 n leaf v ps ∧ TS g' t' bE [ov, hv, nv, lv, pv, ev] i := by
  obtain ⟨an, cn, hnv, rn, bn⟩ := HN.get (i := i % ns.length) (Nat.mod_lt _ hn)
  obtain ⟨al, cl, hlv, rl, bl⟩ := HL.get (i := i % ls.length) (Nat.mod_lt _ hl)
  obtain ⟨ap, cpp, x, hpv, rp, bp⟩ := HP.get (i := i % pss.length) (Nat.mod_lt _ hp)
  have un := HN.und
  have ul := HL.lenV.2.1
  have up := HP.lenV.2.1
  have q2 : rd1 (some (.cells [ov, hv, nv, lv, pv, ev] 29)) 2 0 = some nv := rfl
  have q3 : rd1 (some (.cells [ov, hv, nv, lv, pv, ev] 29)) 3 0 = some lv := rfl
  have q4 : rd1 (some (.cells [ov, hv, nv, lv, pv, ev] 29)) 4 0 = some pv := rfl
  have ux := bp.lenV.2.1
  generalize ns.getD (i % ns.length) 0 = n at rn bn
  generalize ls.getD (i % ls.length) [] = leaf at rl bl
  generalize pss.getD (i % pss.length) [] = ps at bp
  have hz : Value.int .u8 0 = bv 0 := rfl
  generalize hZ : ABlock.cells (List.replicate 32 (bv 0)) 31 = Z
  have hZ0 := hZ
  simp [List.replicate] at hZ
  obtain ⟨a, ha, z5, A5, l1, o1, f1⟩ := arr_step (g := g) (vs := bytesVals leaf) hZ0 (by simp [bl]) bytes_ok
  have w5 := wr_arr hZ0 (vs := bytesVals leaf) (by simp [bl]) bytes_ok
  have hE := H.aE
  have hE2 : (g.push Z).at bE = some (.cells [ov, hv, nv, lv, pv, ev] 29) := push_old hE
  have hE3 : a.at bE = some (.cells [ov, hv, nv, lv, pv, ev] 29) := f1.get hE (fun h => h)
  have wf := H.wf
  have m1 := Nat.mod_lt i hn
  have m2 := Nat.mod_lt i hl
  have m3 := Nat.mod_lt i hp
  have r1 := iv_rem (a := i) hn (by omega)
  have r2 := iv_rem (a := i) hl (by omega)
  have r3 := iv_rem (a := i) hp (by omega)
  subst hnv hlv hpv
  obtain ⟨t', e, ht, u4, u5, u6⟩ : ∃ t', (∀ K, R C Go.Ab.Aud.r3 (.code tb1 :: K) t [] g = R C Go.Ab.Aud.r3 (.code tb4 :: K) t' [] a) ∧ (tg t' 1 = tg t 1 ∧ tg t' 3 = tg t 3) ∧ tg t' 4 = uv n ∧ tg t' 5 = .pointer (some ⟨g.bs.length, 0, some 0⟩) ∧ tg t' 6 = x := by
    rw [tb_e4]
    simp [tb0, tb1, tb2, tb3, blkIn, s1, s2, lp3_0, H.t1, H.t3, hE, hE2, hE3, q2, q3, q4, r1, r2, r3, ixS_iv m1, ixS_iv m2, ixS_iv m3, rn, rl, rp, hz, hZ, bl, writeN_wr, wf, z5, w5, ha, stp_ok ux, ux]
    exact ⟨_, fun _ => rfl, ⟨by simp [H.t1], by simp [H.t3]⟩, by simp, by simp, by simp⟩
  exact ⟨a, t', g.bs.length, n, leaf, x, ps, e, f1, ⟨u4, u5, u6, A5, bn, bl, bp⟩, H.mv f1 ht.1 (ht.2.trans H.t3)⟩
end
end Go.Ab.Aud

namespace Go.Ab.Aud
open Go.Sha
theorem hd33 {s : Nat} {r : List UInt8} (hr : r.length = 32) : rdN (some (.cells (uv s :: bytesVals r) 36)) 0 0 33 = some (uv s :: bytesVals r) := by
  rw [rdN_cells (by simp [hr]), List.drop_zero, List.take_of_length_le (by simp [hr])]
theorem tb_e8 : tb7 = .seq (s1 tb7) tb8 := rfl
theorem tb_e10 : tb8 = .seq (s1 tb8) (.seq (s1 tb9) tb10) := rfl
theorem tb_e11 : tb10 = .seq (s1 tb10) tb11 := rfl
variable {C : Ctx} (T : Tab_LLog C) (TD : Tab_LDig C) (TW : Tab_LLaw C) (TT : Tab_LTake C) (hk : ∀ j, j < 64 → C.old 0 j = some (wv (kW j)))
/-- a path with one digest more behind it -/
structure TX (g : AHeap) (t : List Value) (xv : Value) (ps : List (List UInt8)) : Prop where
  t7 : tg t 7 = xv
  X : DigO g xv (ps ++ [aaD])
theorem TX.cut {C : Ctx} {g : AHeap} {t : List Value} {xv : Value} {ps : List (List UInt8)} (H : TX g t xv ps) : ∃ a cp a' cp', xv = .slice a (ps.length + 1) cp ∧ sliceV g 32 (.slice a (ps.length + 1) cp) none (some (ps.length : Int)) none = some (.slice a' ps.length cp') ∧ DigR C.old g a' cp' ps ∧ DigR C.old g a cp (ps ++ [aaD]) := by
  obtain ⟨a, cp, e, D⟩ := H.X.digR (old := C.old)
  obtain ⟨a', cp', e2, D2, _⟩ := D.lower ps.length (by simp)
  have hl : (ps ++ [aaD]).length = ps.length + 1 := by simp
  rw [hl] at e e2
  rw [List.take_left] at D2
  exact ⟨a, cp, a', cp', e, e2, D2, D⟩
theorem TX.mv {g g' : AHeap} {t t' : List Value} {xv : Value} {ps : List (List UInt8)} (H : TX g t xv ps) (f : Fr g g' (fun _ => False)) (t7 : tg t' 7 = tg t 7) : TX g' t' xv ps := ⟨t7.trans H.t7, H.X.fr f (fun _ _ h => h)⟩
theorem tak_b (g : AHeap) (t : List Value) (b5 n : Nat) (leaf : List UInt8) (v : Value) (ps : List (List UInt8)) (W : TR C g t b5 n leaf v ps) (hl : ps.length ≤ 200) (wf : g.lo ≤ g.bs.length) :
    ∃ g' t' xv, (∀ K, R C r3 (.code tb5 :: K) t [] g = R C r3 (.code tb7 :: K) t' [] g') ∧ Fr g g' (fun _ => False) ∧ TX g' t' xv ps ∧ (∀ j, j ≤ 6 → tg t' j = tg t j) := by
  obtain ⟨v1, h1, e1, o1, f1, b1⟩ := dig_copy (old := C.old) (W.P.digV g) (by omega) wf
  obtain ⟨v2, h2, e2, o2, f2, b2⟩ := dig_append (old := C.old) (x := aaD) o1 aaD_len (by omega) (by rw [f1.lo]; have := f1.len; omega)
  have uv' := W.P.lenV.2.1
  have u1 : isUnd v1 = false := o1.1.und
  have u2 : isUnd v2 = false := o2.1.und
  have hz : Value.int .u8 0 = bv 0 := rfl
  have h170 : Value.int .u8 170 = bv 170 := rfl
  have hb : ABlock.cells (bytesVals aaD) 31 = ABlock.cells (bv 170 :: List.replicate 31 (bv 0)) 31 := rfl
  rw [hb] at e2
  simp [List.replicate] at e2
  obtain ⟨t', e, ht, u7⟩ : ∃ t', (∀ K, R C r3 (.code tb5 :: K) t [] g = R C r3 (.code tb7 :: K) t' [] h2) ∧ (∀ j, j ≤ 6 → tg t' j = tg t j) ∧ tg t' 7 = v2 := by
    rw [tb_e7]
    simp [tb0, tb1, tb2, tb3, tb4, tb5, tb6, blkIn, s1, s2, lp3_0, W.t6, stp_ok uv', uv', fillCells, splice, e1, stp_ok u1, u1, hz, h170, e2, stp_ok u2, u2]
    refine ⟨_, fun _ => rfl, fun j hj => ?_, by simp⟩
    simp only [tg_ts]
    repeat rw [if_neg (by omega)]
  exact ⟨h2, t', v2, e, f1.trans f2 (fun _ h => h) (fun j hh _ => by have := b1 j hh; omega), ⟨u7, o2⟩, ht⟩
section
variable (g : AHeap) (t : List Value) (bE : Nat) (ov hv nv lv pv ev : Value) (i : Nat) (H : TS g t bE [ov, hv, nv, lv, pv, ev] i) (hs os : List (Nat × List UInt8)) (HH : ArgH C.old hv hs) (HO : ArgH C.old ov os) (b5 n : Nat) (leaf : List UInt8) (v : Value) (ps : List (List UInt8)) (W : TR C g t b5 n leaf v ps) (hl : ps.length ≤ 200) (xv : Value) (X : TX g t xv ps)
section
include T TD TW TT hk H HH W hl X
/-- taken alike -/
theorem tak_c (hi : i < hs.length) : ∃ t', (∀ K, R C r3 (.code tb7 :: K) t [] g = R C r3 (.code tb8 :: K) t' [] g) ∧ (∀ j, j ≤ 7 → tg t' j = tg t j) ∧ tg t' 8 = .bool true := by
  obtain ⟨ah, ch, hhv, rh, _, hn64, hr32⟩ := HH.get hi
  have uh := HH.lenV.2.1
  have q1 : rd1 (some (.cells [ov, hv, nv, lv, pv, ev] 29)) 1 0 = some hv := rfl
  obtain ⟨xa, xc, xa', xc', hxv, esl, D2, _⟩ := X.cut (C := C)
  have ux : isUnd xv = false := by rw [hxv]; rfl
  generalize (hs.getD i (0, [])).1 = size at rh hn64
  generalize (hs.getD i (0, [])).2 = root at rh hr32
  obtain ⟨pa, pc, hpv, PD, _⟩ := W.P
  have e1 := incl_spec T TD hk g size n root leaf ps hr32 W.l32 hn64 W.n64 xa' xc' D2
  have e2 := rincl_spec TW TT g size n root leaf ps hr32 W.l32 hn64 W.n64 pa pc (PD g)
  have X7 := X.t7
  have W6 := W.t6
  rw [hxv] at X7
  rw [hpv] at W6
  have hE := H.aE
  have r5 := rd32 W.l32
  subst hhv
  obtain ⟨t', e, ht, u8⟩ : ∃ t', (∀ K, R C r3 (.code tb7 :: K) t [] g = R C r3 (.code tb8 :: K) t' [] g) ∧ (∀ j, j ≤ 7 → tg t' j = tg t j) ∧ tg t' 8 = .bool true := by
    rw [tb_e8]
    simp [tb0, tb1, tb2, tb3, tb4, tb5, tb6, tb7, blkIn, s1, s2, lp3_0, H.t1, H.t3, hE, q1, W.t4, W.t5, W6, X7, W.a5, r5, ixS_iv hi, rh, esl, Dc_ok, e1, e2, num_spec TW]
    refine ⟨_, fun _ => rfl, fun j hj => ?_, by simp⟩
    simp only [tg_ts]
    repeat rw [if_neg (by omega)]
  exact ⟨t', e, ht, u8⟩
end
section
include T TD TW TT hk H HH HO W hl X
/-- an earlier head: taken alike -/
theorem tak_d (hi : i < hs.length) (ho : 0 < os.length) (hi60 : i < 60) (t8 : tg t 8 = .bool true) : ∃ g' t', (∀ K, R C r3 (.code tb8 :: K) t [] g = R C r3 (.code tb10 :: K) t' [] g') ∧ Fr g g' (fun _ => False) ∧ (∀ j, j ≤ 7 → tg t' j = tg t j) ∧ tg t' 8 = .bool true := by
  obtain ⟨ah, ch, hhv, rh, _, hn64, hr32⟩ := HH.get hi
  obtain ⟨ao, co, hov, ro, _, om64, or32⟩ := HO.get (i := i % os.length) (Nat.mod_lt _ ho)
  have uh := HH.lenV.2.1
  have uo := HO.lenV.2.1
  have q1 : rd1 (some (.cells [ov, hv, nv, lv, pv, ev] 29)) 1 0 = some hv := rfl
  have q0 : rd1 (some (.cells [ov, hv, nv, lv, pv, ev] 29)) 0 0 = some ov := rfl
  generalize (hs.getD i (0, [])).1 = size at rh hn64
  generalize (hs.getD i (0, [])).2 = root at rh hr32
  generalize (os.getD (i % os.length) (0, [])).1 = om at ro om64
  generalize (os.getD (i % os.length) (0, [])).2 = oroot at ro or32
  obtain ⟨pa, pc, hpv, PD, _⟩ := W.P
  have hz : Value.int .u8 0 = bv 0 := rfl
  generalize hZ : ABlock.cells (uv 0 :: List.replicate 32 (bv 0)) 36 = Z
  have hZ0 := hZ
  simp [List.replicate] at hZ
  obtain ⟨a, ha, z9, A9, l1, o1, f1⟩ := new_step (g := g) (vs := uv om :: bytesVals oroot) hZ0
  have w9 := wr_all hZ0 (vs := uv om :: bytesVals oroot) (by simp [or32]) (by rw [List.all_cons, bytes_ok]; rfl)
  obtain ⟨xa, xc, xa', xc', hxv, esl, D2, _⟩ := (X.mv f1 rfl).cut (C := C)
  have e1 := foll_spec T TD hk a om size oroot root ps or32 hr32 om64 hn64 xa' xc' D2
  have e2 := rfoll_spec TW TT a om size oroot root ps or32 hr32 om64 hn64 pa pc (PD a)
  have X7 := X.t7
  have W6 := W.t6
  rw [hxv] at X7
  rw [hpv] at W6
  have hE := H.aE
  have hE2 : (g.push Z).at bE = some (.cells [ov, hv, nv, lv, pv, ev] 29) := push_old hE
  have hE3 : a.at bE = some (.cells [ov, hv, nv, lv, pv, ev] 29) := f1.get hE (fun h => h)
  have r9 := hd33 (s := om) or32
  have wf := H.wf
  have m1 := Nat.mod_lt i ho
  have r1 := iv_rem (a := i) ho (by omega)
  subst hhv hov
  obtain ⟨t', e, ht, u8⟩ : ∃ t', (∀ K, R C r3 (.code tb8 :: K) t [] g = R C r3 (.code tb10 :: K) t' [] a) ∧ (∀ j, j ≤ 7 → tg t' j = tg t j) ∧ tg t' 8 = .bool true := by
    rw [tb_e10]
    simp [tb0, tb1, tb2, tb3, tb4, tb5, tb6, tb7, tb8, tb9, blkIn, s1, s2, lp3_0, H.t1, H.t3, hE, hE2, hE3, q0, q1, r1, ixS_iv m1, ro, hz, hZ, or32, writeN_wr, wf, z9, w9, ha, W6, X7, t8, A9, r9, ixS_iv hi, rh, esl, Dc_ok, e1, e2, num_spec TW]
    refine ⟨_, fun _ => rfl, fun j hj => ?_, by simp⟩
    simp only [tg_ts]
    repeat rw [if_neg (by omega)]
  exact ⟨a, t', e, f1, ht, u8⟩
/-- what was handed in stands; nodes alike -/
theorem tak_e (hi : i < hs.length) (t8 : tg t 8 = .bool true) : ∃ t', (∀ K, R C r3 (.code tb10 :: K) t [] g = R C r3 K t' [] g) ∧ (∀ j, j ≤ 7 → tg t' j = tg t j) := by
  obtain ⟨ah, ch, hhv, _, rr, hn64, hr32⟩ := HH.get hi
  have uh := HH.lenV.2.1
  have q1 : rd1 (some (.cells [ov, hv, nv, lv, pv, ev] 29)) 1 0 = some hv := rfl
  generalize (hs.getD i (0, [])).1 = size at hn64
  generalize (hs.getD i (0, [])).2 = root at rr hr32
  obtain ⟨pa, pc, hpv, PD, _⟩ := W.P
  have hz : Value.int .u8 0 = bv 0 := rfl
  have h170 : Value.int .u8 170 = bv 170 := rfl
  obtain ⟨xa, xc, xa', xc', hxv, esl, D2, D1⟩ := X.cut (C := C)
  have e1 := same_spec TT g ps xa' pa xc' pc D2 (PD g) (by omega)
  obtain ⟨xb, hxb, rx⟩ := D1.get (i := ps.length) (by simp)
  have hlast : (ps ++ [aaD]).getD ps.length [] = aaD := by simp
  rw [hlast] at rx
  have en := node_spec TD hk g leaf root W.l32 hr32
  have en2 := rnode_spec TW TT g leaf root W.l32 hr32
  have q := aeq_dig aaD_len aaD_len
  have q2 := aeq_dig (sha_length (1 :: (leaf ++ root))) (sha_length (1 :: (leaf ++ root)))
  have hb : bytesVals aaD = bv 170 :: List.replicate 31 (bv 0) := rfl
  rw [hb] at q rx
  simp [List.replicate] at q rx q2
  have X7 := X.t7
  have W6 := W.t6
  subst hxb
  rw [hxv] at X7
  rw [hpv] at W6
  have hE := H.aE
  have r5 := rd32 W.l32
  subst hhv
  rw [tb_e11]
  simp [tb0, tb1, tb2, tb3, tb4, tb5, tb6, tb7, tb8, tb9, tb10, tb11, blkIn, s1, s2, lp3_0, H.t1, H.t3, hE, q1, W6, X7, t8, W.t5, W.a5, r5, ixS_iv hi, rr, esl, Dc_ok, e1, ixS_iv (show ps.length < ps.length + 1 by omega), rx, hz, h170, fillCells, splice, q, en, en2, q2]
  refine ⟨_, fun _ => rfl, fun j hj => ?_⟩
  simp only [tg_ts]
  repeat rw [if_neg (by omega)]
end
end
end Go.Ab.Aud

namespace Go.Ab.Aud
open Go.Sha
theorem tb_e1 : tb0 = .seq (s1 tb0) tb1 := rfl
theorem tb_e5 : tb4 = .seq (s1 tb4) tb5 := rfl
variable {C : Ctx} (T : Tab_LLog C) (TD : Tab_LDig C) (TW : Tab_LLaw C) (TT : Tab_LTake C) (hk : ∀ j, j < 64 → C.old 0 j = some (wv (kW j)))
section
variable (bE : Nat) (ov hv nv lv pv ev : Value) (hs os : List (Nat × List UInt8)) (ns : List Nat) (ls : List (List UInt8)) (pss : List (List (List UInt8))) (HH : ArgH C.old hv hs) (HO : ArgH C.old ov os) (HN : ArgN C.old nv ns) (HL : ArgDig C.old lv ls) (HP : ArgP C.old pv pss)
include T TD TW TT hk HH HO HN HL HP
/-- the round's end -/
theorem tak_inc (g : AHeap) (t : List Value) (i : Nat) (hi : i < 60) (H : TS g t bE [ov, hv, nv, lv, pv, ev] i) : ∃ t', (∀ K, R C r3 (.code tinc :: K) t [] g = R C r3 K t' [] g) ∧ TS g t' bE [ov, hv, nv, lv, pv, ev] (i + 1) := by
  obtain ⟨t', e, u1, u3⟩ : ∃ t', (∀ K, R C r3 (.code tinc :: K) t [] g = R C r3 K t' [] g) ∧ tg t' 1 = tg t 1 ∧ tg t' 3 = Go.Ab.iv (i + 1) := by
    simp [tinc, s2, lp3_0, H.t3, iv_add (a := i) (b := 1) (by omega)]
    exact ⟨_, fun _ => rfl, by simp, by simp⟩
  exact ⟨t', e, H.mv (Fr.refl _ _) u1 u3⟩
theorem tak_round (g : AHeap) (t : List Value) (i : Nat) (hi : i < 60) (hih : i < hs.length) (hn : 0 < ns.length) (hl : 0 < ls.length) (hp : 0 < pss.length) (ho : 0 < os.length) (H : TS g t bE [ov, hv, nv, lv, pv, ev] i) :
    ∃ g' t', (∀ K, R C r3 (.inLoop lp3_0 :: K) t [] g = R C r3 (.inLoop lp3_0 :: K) t' [] g') ∧ Fr g g' (fun _ => False) ∧ TS g' t' bE [ov, hv, nv, lv, pv, ev] (i + 1) := by
  have uh := HH.lenV.2.1
  have lh' := HH.lenV.1
  have un := HN.und
  have ln := HN.lenV
  have ul := HL.lenV.2.1
  have ll := HL.lenV.1
  have up := HP.lenV.2.1
  have lp := HP.lenV.1
  have uo := HO.lenV.2.1
  have lo := HO.lenV.1
  have q0 : rd1 (some (.cells [ov, hv, nv, lv, pv, ev] 29)) 0 0 = some ov := rfl
  have q1 : rd1 (some (.cells [ov, hv, nv, lv, pv, ev] 29)) 1 0 = some hv := rfl
  have q2 : rd1 (some (.cells [ov, hv, nv, lv, pv, ev] 29)) 2 0 = some nv := rfl
  have q3 : rd1 (some (.cells [ov, hv, nv, lv, pv, ev] 29)) 3 0 = some lv := rfl
  have q4 : rd1 (some (.cells [ov, hv, nv, lv, pv, ev] 29)) 4 0 = some pv := rfl
  obtain ⟨t1, e1, ht1⟩ : ∃ t', (∀ K, R C r3 (.inLoop lp3_0 :: K) t [] g = R C r3 (.code tb1 :: .inBlock 1 :: .code tinc :: .inLoop lp3_0 :: K) t' [] g) ∧ (∀ j, j ≤ 8 → tg t' j = tg t j) := by
    refine ex_step (fun k => R_open tlp_e) ?_
    rw [tb_e1]
    simp [tb0, blkIn, s1, s2, lp3_0, H.t1, H.t3, H.aE, q0, q1, q2, q3, q4, stp_ok uh, uh, lh', hih, hi, stp_ok un, un, ln, stp_ok ul, ul, ll, stp_ok up, up, lp, stp_ok uo, uo, lo, show ns.length ≠ 0 by omega, show ls.length ≠ 0 by omega, show pss.length ≠ 0 by omega, show os.length ≠ 0 by omega]
    refine ⟨_, fun _ => rfl, fun j hj => ?_⟩
    simp only [tg_ts]
    repeat rw [if_neg (by omega)]
  have H1 := H.mv (t' := t1) (Fr.refl _ _) (ht1 1 (by omega)) ((ht1 3 (by omega)).trans H.t3)
  obtain ⟨g2, t2, b5, n, leaf, v, ps, e2, f2, W2, H2⟩ := tak_a g t1 bE ov hv nv lv pv ev i H1 ns ls pss HN HL HP hn hl hp hi
  have uv' := W2.P.lenV.2.1
  have lv' := W2.P.lenV.1
  by_cases h200 : ps.length ≤ 200
  · obtain ⟨t3, e3, ht3⟩ : ∃ t', (∀ K, R C r3 (.code tb4 :: K) t2 [] g2 = R C r3 (.code tb5 :: K) t' [] g2) ∧ (∀ j, j ≤ 8 → tg t' j = tg t2 j) := by
      rw [tb_e5]
      simp [tb0, tb1, tb2, tb3, tb4, blkIn, s1, s2, lp3_0, W2.t6, stp_ok uv', uv', lv', show ¬ 200 < ps.length by omega]
      refine ⟨_, fun _ => rfl, fun j hj => ?_⟩
      simp only [tg_ts]
      repeat rw [if_neg (by omega)]
    have W3 := W2.mv (t' := t3) (Fr.refl _ _) (ht3 4 (by omega)) (ht3 5 (by omega)) (ht3 6 (by omega))
    have H3 := H2.mv (t' := t3) (Fr.refl _ _) (ht3 1 (by omega)) ((ht3 3 (by omega)).trans H2.t3)
    obtain ⟨g4, t4, xv, e4, f4, X4, ht4⟩ := tak_b g2 t3 b5 n leaf v ps W3 h200 H3.wf
    have W4 := W3.mv f4 (ht4 4 (by omega)) (ht4 5 (by omega)) (ht4 6 (by omega))
    have H4 := H3.mv f4 (ht4 1 (by omega)) ((ht4 3 (by omega)).trans H3.t3)
    obtain ⟨t5, e5, ht5, t58⟩ := tak_c T TD TW TT hk g4 t4 bE ov hv nv lv pv ev i H4 hs HH b5 n leaf v ps W4 h200 xv X4 hih
    have W5 := W4.mv (t' := t5) (Fr.refl _ _) (ht5 4 (by omega)) (ht5 5 (by omega)) (ht5 6 (by omega))
    have H5 := H4.mv (t' := t5) (Fr.refl _ _) (ht5 1 (by omega)) ((ht5 3 (by omega)).trans H4.t3)
    have X5 := X4.mv (t' := t5) (Fr.refl _ _) (ht5 7 (by omega))
    obtain ⟨g6, t6, e6, f6, ht6, t68⟩ := tak_d T TD TW TT hk g4 t5 bE ov hv nv lv pv ev i H5 hs os HH HO b5 n leaf v ps W5 h200 xv X5 hih ho hi t58
    have W6 := W5.mv f6 (ht6 4 (by omega)) (ht6 5 (by omega)) (ht6 6 (by omega))
    have H6 := H5.mv f6 (ht6 1 (by omega)) ((ht6 3 (by omega)).trans H5.t3)
    have X6 := X5.mv f6 (ht6 7 (by omega))
    obtain ⟨t7, e7, ht7⟩ := tak_e T TD TW TT hk g6 t6 bE ov hv nv lv pv ev i H6 hs os HH HO b5 n leaf v ps W6 h200 xv X6 hih t68
    have H7 := H6.mv (t' := t7) (Fr.refl _ _) (ht7 1 (by omega)) ((ht7 3 (by omega)).trans H6.t3)
    obtain ⟨t8, e8, H8⟩ := tak_inc T TD TW TT hk bE ov hv nv lv pv ev hs os ns ls pss HH HO HN HL HP g6 t7 i hi H7
    refine ⟨g6, t8, fun K => ?_, (f2.trans f4 (S'' := fun _ => False) (fun _ h => h) (fun _ h _ => h)).trans f6 (fun _ h => h) (fun _ h _ => h), H8⟩
    rw [e1, e2, e3, e4, e5, e6, e7]
    simp only [R_inBlock]
    rw [e8]
  · obtain ⟨t3, e3, ht3⟩ : ∃ t', (∀ K, R C r3 (.code tb4 :: .inBlock 1 :: K) t2 [] g2 = R C r3 K t' [] g2) ∧ (∀ j, j ≤ 8 → tg t' j = tg t2 j) := by
      rw [tb_e5]
      simp [tb0, tb1, tb2, tb3, tb4, blkIn, s1, s2, lp3_0, W2.t6, stp_ok uv', uv', lv', show 200 < ps.length by omega]
      refine ⟨_, fun _ => rfl, fun j hj => ?_⟩
      simp only [tg_ts]
      repeat rw [if_neg (by omega)]
    have H3 := H2.mv (t' := t3) (Fr.refl _ _) (ht3 1 (by omega)) ((ht3 3 (by omega)).trans H2.t3)
    obtain ⟨t8, e8, H8⟩ := tak_inc T TD TW TT hk bE ov hv nv lv pv ev hs os ns ls pss HH HO HN HL HP g2 t3 i hi H3
    refine ⟨g2, t8, fun K => ?_, f2, H8⟩
    rw [e1, e2, e3, e8]
theorem tak_loop : ∀ (n i : Nat) (g : AHeap) (t : List Value), i + n = 60 → TS g t bE [ov, hv, nv, lv, pv, ev] i →
    ∃ g' t', (∀ K, R C r3 (.inLoop lp3_0 :: .inBlock 0 :: K) t [] g = R C r3 K t' [] g') ∧ Fr g g' (fun _ => False) ∧ tg t' 1 = tg t 1 := by
  intro n
  have uh := HH.lenV.2.1
  have lh' := HH.lenV.1
  have un := HN.und
  have ln := HN.lenV
  have ul := HL.lenV.2.1
  have ll := HL.lenV.1
  have up := HP.lenV.2.1
  have lp := HP.lenV.1
  have uo := HO.lenV.2.1
  have lo := HO.lenV.1
  have q0 : rd1 (some (.cells [ov, hv, nv, lv, pv, ev] 29)) 0 0 = some ov := rfl
  have q1 : rd1 (some (.cells [ov, hv, nv, lv, pv, ev] 29)) 1 0 = some hv := rfl
  have q2 : rd1 (some (.cells [ov, hv, nv, lv, pv, ev] 29)) 2 0 = some nv := rfl
  have q3 : rd1 (some (.cells [ov, hv, nv, lv, pv, ev] 29)) 3 0 = some lv := rfl
  have q4 : rd1 (some (.cells [ov, hv, nv, lv, pv, ev] 29)) 4 0 = some pv := rfl
  have out : ∀ (i : Nat) (g : AHeap) (t : List Value), TS g t bE [ov, hv, nv, lv, pv, ev] i → ¬ (i < hs.length ∧ i < 60 ∧ 0 < ns.length ∧ 0 < ls.length ∧ 0 < pss.length ∧ 0 < os.length) → ∃ g' t', (∀ K, R C r3 (.inLoop lp3_0 :: .inBlock 0 :: K) t [] g = R C r3 K t' [] g') ∧ Fr g g' (fun _ => False) ∧ tg t' 1 = tg t 1 := by
    intro i g t H hn
    suffices hS : ∃ t', (∀ K, R C r3 (.inLoop lp3_0 :: .inBlock 0 :: K) t [] g = R C r3 K t' [] g) ∧ tg t' 1 = tg t 1 by
      obtain ⟨t', e, h1⟩ := hS
      exact ⟨g, t', e, Fr.refl _ _, h1⟩
    refine ex_step (fun k => R_open tlp_e) ?_
    by_cases h1 : i < hs.length
    · by_cases h2 : i < 60
      · by_cases h3 : ns.length = 0
        · simp [tb0, blkIn, s1, s2, lp3_0, H.t1, H.t3, H.aE, q0, q1, q2, q3, q4, stp_ok uh, uh, lh', h1, h2, stp_ok un, un, ln, h3]
          exact ⟨_, fun _ => rfl, by simp [H.t1]⟩
        · by_cases h4 : ls.length = 0
          · simp [tb0, blkIn, s1, s2, lp3_0, H.t1, H.t3, H.aE, q0, q1, q2, q3, q4, stp_ok uh, uh, lh', h1, h2, stp_ok un, un, ln, h3, stp_ok ul, ul, ll, h4]
            exact ⟨_, fun _ => rfl, by simp [H.t1]⟩
          · by_cases h5 : pss.length = 0
            · simp [tb0, blkIn, s1, s2, lp3_0, H.t1, H.t3, H.aE, q0, q1, q2, q3, q4, stp_ok uh, uh, lh', h1, h2, stp_ok un, un, ln, h3, stp_ok ul, ul, ll, h4, stp_ok up, up, lp, h5]
              exact ⟨_, fun _ => rfl, by simp [H.t1]⟩
            · have h6 : os.length = 0 := by omega
              simp [tb0, blkIn, s1, s2, lp3_0, H.t1, H.t3, H.aE, q0, q1, q2, q3, q4, stp_ok uh, uh, lh', h1, h2, stp_ok un, un, ln, h3, stp_ok ul, ul, ll, h4, stp_ok up, up, lp, h5, stp_ok uo, uo, lo, h6]
              exact ⟨_, fun _ => rfl, by simp [H.t1]⟩
      · simp [s1, lp3_0, H.t1, H.t3, H.aE, q1, stp_ok uh, uh, lh', h1, h2]
        exact ⟨_, fun _ => rfl, by simp [H.t1]⟩
    · simp [s1, lp3_0, H.t1, H.t3, H.aE, q1, stp_ok uh, uh, lh', h1]
      exact ⟨_, fun _ => rfl, by simp [H.t1]⟩
  induction n with
  | zero => intro i g t hi H; exact out i g t H (by omega)
  | succ n ih =>
    intro i g t hi H
    by_cases hc : i < hs.length ∧ i < 60 ∧ 0 < ns.length ∧ 0 < ls.length ∧ 0 < pss.length ∧ 0 < os.length
    · obtain ⟨g1, t1, e1, F1, H1⟩ := tak_round T TD TW TT hk bE ov hv nv lv pv ev hs os ns ls pss HH HO HN HL HP g t i hc.2.1 hc.1 hc.2.2.1 hc.2.2.2.1 hc.2.2.2.2.1 hc.2.2.2.2.2 H
      obtain ⟨g2, t2, e2, F2, u1⟩ := ih (i + 1) g1 t1 (by omega) H1
      exact ⟨g2, t2, fun K => (e1 _).trans (e2 K), F1.trans F2 (fun _ h => h) (fun _ h _ => h), u1.trans (H1.t1.trans H.t1.symm)⟩
    · exact out i g t H hc
end
end Go.Ab.Aud

namespace Go.Ab.Aud
open Go.Sha
variable {C : Ctx} (T : Tab_LLog C) (TD : Tab_LDig C) (TW : Tab_LLaw C) (TT : Tab_LTake C) (hk : ∀ j, j < 64 → C.old 0 j = some (wv (kW j))) (hp : ∀ j, j < 16 → C.old 1 j = some (wv (crcW j)))
/-- where the second loop stands -/
structure TE (g : AHeap) (t : List Value) (bE : Nat) (E : List Value) (all i : Nat) : Prop where
  aE : g.at bE = some (.cells E 29)
  t1 : tg t 1 = .pointer (some ⟨bE, 0, some 0⟩)
  t10 : tg t 10 = Go.Ab.iv all
  t11 : tg t 11 = Go.Ab.iv i
  wf : g.lo ≤ g.bs.length
  al : all ≤ 200000
section
variable (bE : Nat) (ov hv nv lv pv ev : Value) (rows : List (List UInt8)) (HR : ArgR C.old ev rows) (hrl : rows.length < 2 ^ 63) (hb : ∀ i, i < rows.length → (rows.getD i []).length < 2 ^ 62)
include T TD TW TT hk HR hrl hb
theorem ent_round (g : AHeap) (t : List Value) (all i : Nat) (hi : i < rows.length) (H : TE g t bE [ov, hv, nv, lv, pv, ev] all i) (h2 : all + (rows.getD i []).length ≤ 200000) :
    ∃ g' t', (∀ K, R C r3 (.inLoop lp3_1 :: .inBlock 2 :: K) t [] g = R C r3 (.inLoop lp3_1 :: .inBlock 2 :: K) t' [] g') ∧ TE g' t' bE [ov, hv, nv, lv, pv, ev] (all + (rows.getD i []).length) (i + 1) := by
  have ue := HR.lenV3.2.1
  have le := HR.lenV3.1
  obtain ⟨a', cp', a, cp, hev, rd, hs, _⟩ := HR.get hi
  have q5 : rd1 (some (.cells [ov, hv, nv, lv, pv, ev] 29)) 5 0 = some ev := rfl
  generalize rows.getD i [] = l at rd hs h2 ⊢
  obtain ⟨g1, e1, L, f1⟩ := lend_spec TT g l a l.length cp (hs g) (by omega) H.wf
  have e2 := leaf_spec TD hk g1 l _ _ _ L.sl (by omega)
  have e3 := rleaf_spec TW TT g1 l a l.length cp (hs g1) (by omega)
  have e4 := intact_spec TT g1 g.bs.length l L a cp (hs g1) (by omega)
  have q2 := aeq_dig (sha_length (0 :: l)) (sha_length (0 :: l))
  simp [List.replicate] at q2
  have hE := H.aE
  have hE2 := f1.get hE (fun h => h)
  have wf1 : g1.lo ≤ g1.bs.length := by rw [f1.lo]; have := f1.len; have := H.wf; omega
  subst hev
  obtain ⟨t', e, u1, u10, u11⟩ : ∃ t', (∀ K, R C r3 (.inLoop lp3_1 :: .inBlock 2 :: K) t [] g = R C r3 (.inLoop lp3_1 :: .inBlock 2 :: K) t' [] g1) ∧ tg t' 1 = tg t 1 ∧ tg t' 10 = Go.Ab.iv (all + l.length) ∧ tg t' 11 = Go.Ab.iv (i + 1) := by
    refine ex_step (fun k => R_open lp3_1.eq_1) ?_
    simp [H.t1, H.t10, H.t11, hE, hE2, q5, hi, ixS_iv hi, rd, iv_add (a := all) (b := l.length) (by omega), show ¬ 200000 < all + l.length by omega, Dc_ok, e1, e2, e3, e4, q2, iv_add (a := i) (b := 1) (by omega)]
    exact ⟨_, fun _ => rfl, by simp [H.t1], by simp, by simp⟩
  exact ⟨g1, t', e, hE2, u1.trans H.t1, u10, u11, wf1, h2⟩
theorem ent_loop : ∀ (n i all : Nat) (g : AHeap) (t : List Value), i + n = rows.length → TE g t bE [ov, hv, nv, lv, pv, ev] all i →
    ∃ g' t', ∀ K, R C r3 (.inLoop lp3_1 :: .inBlock 2 :: K) t [] g = R C r3 K t' [] g' := by
  intro n
  have ue := HR.lenV3.2.1
  have le := HR.lenV3.1
  have q5 : rd1 (some (.cells [ov, hv, nv, lv, pv, ev] 29)) 5 0 = some ev := rfl
  induction n with
  | zero =>
    intro i all g t hi H
    refine ⟨g, ?_⟩
    refine ex_step0 (fun k => R_open lp3_1.eq_1) ?_
    simp [H.t1, H.t10, H.t11, H.aE, q5, stp_ok ue, ue, le, show ¬ i < rows.length by omega]
    exact ⟨_, fun _ => rfl⟩
  | succ n ih =>
    intro i all g t hi H
    have hir : i < rows.length := by omega
    by_cases h2 : all + (rows.getD i []).length ≤ 200000
    · obtain ⟨g1, t1, e1, H1⟩ := ent_round T TD TW TT hk bE ov hv nv lv pv ev rows HR hrl hb g t all i hir H h2
      obtain ⟨g2, t2, e2⟩ := ih (i + 1) _ g1 t1 (by omega) H1
      exact ⟨g2, t2, fun K => (e1 K).trans (e2 K)⟩
    · refine ⟨g, ?_⟩
      have hbi := hb i hir
      have al := H.al
      obtain ⟨a', cp', a, cp, hev, rd, hs, _⟩ := HR.get hir
      generalize rows.getD i [] = l at rd hs h2 hbi
      have hE := H.aE
      subst hev
      refine ex_step0 (fun k => R_open lp3_1.eq_1) ?_
      simp [H.t1, H.t10, H.t11, hE, q5, hir, ixS_iv hir, rd, iv_add (a := all) (b := l.length) (by omega), show 200000 < all + l.length by omega]
      exact ⟨_, fun _ => rfl⟩
end
include T TD TW TT hk hp
theorem tak_all (hN : ∀ h, D C 147 [str nmA] h = some (.bool true, h)) (h : AHeap) (wf : h.lo ≤ h.bs.length) (ov hv nv lv pv ev : Value) (hs os : List (Nat × List UInt8)) (ns : List Nat) (ls : List (List UInt8)) (pss : List (List (List UInt8))) (rows : List (List UInt8)) (HH : ArgH C.old hv hs) (HO : ArgH C.old ov os) (HN : ArgN C.old nv ns) (HL : ArgDig C.old lv ls) (HP : ArgP C.old pv pss)
    (HR : ArgR C.old ev rows) (hrl : rows.length < 2 ^ 63) (hb : ∀ i, i < rows.length → (rows.getD i []).length < 2 ^ 62) :
    ∃ g', D C 3 [.agg ⟨[ov, hv, nv, lv, pv, ev]⟩] h = some (.bool true, g') := by
  have ew := wakes_spec T TD TW hk hp
  rw [D_fn TT.h3]
  have o1 := HO.lenV.2.2
  have o2 := HH.lenV.2.2
  have o3 := HN.okc
  have o4 := HL.lenV.2.2
  have o5 := HP.lenV.2.2
  have o6 := HR.lenV3.2.2
  generalize ha : h.push (.cells [ov, hv, nv, lv, pv, ev] 29) = a
  have fa : Fr h a (fun _ => False) := by rw [← ha]; exact Fr.push
  have aat : a.at h.bs.length = some (.cells [ov, hv, nv, lv, pv, ev] 29) := by rw [← ha]; exact push_self
  have al : a.bs.length = h.bs.length + 1 := by rw [← ha]; simp
  have ao := fa.lo
  obtain ⟨t, et, t1, t3⟩ : ∃ t, R C r3 [.code b3] [.agg ⟨[ov, hv, nv, lv, pv, ev]⟩] [] h = R C r3 (.inLoop lp3_0 :: .inBlock 0 :: [.code k3_1]) t [] a ∧ tg t 1 = .pointer (some ⟨h.bs.length, 0, some 0⟩) ∧ tg t 3 = Go.Ab.iv 0 := by
    simp [b3, o1, o2, o3, o4, o5, o6, ha]
    exact ⟨_, rfl, by simp, by simp⟩
  obtain ⟨g1, t1', e1, f1, u1⟩ := tak_loop T TD TW TT hk h.bs.length ov hv nv lv pv ev hs os ns ls pss HH HO HN HL HP 60 0 a t rfl ⟨aat, t1, t3, by omega⟩
  obtain ⟨t2, e2, v1, v10, v11⟩ : ∃ t2, R C r3 [.code k3_1] t1' [] g1 = R C r3 (.inLoop lp3_1 :: .inBlock 2 :: [.code k3_0]) t2 [] g1 ∧ tg t2 1 = tg t1' 1 ∧ tg t2 10 = Go.Ab.iv 0 ∧ tg t2 11 = Go.Ab.iv 0 := by
    simp [k3_1]
    exact ⟨_, rfl, by simp, by simp, by simp⟩
  obtain ⟨g3, t3', e3⟩ := ent_loop T TD TW TT hk h.bs.length ov hv nv lv pv ev rows HR hrl hb rows.length 0 0 g1 t2 (by omega) ⟨f1.get aat (fun h => h), v1.trans (u1.trans t1), v10, v11, by have := f1.len; have := f1.lo; omega, by omega⟩
  rw [et, e1, e2, e3]
  refine ⟨g3, ?_⟩
  simp [k3_0, Dc0, ew _ hN, r3]
end Go.Ab.Aud

namespace Go.Proofs.YtecbgdnoblhldaaGreatDoor.au
open Go Go.Ab Go.Ab.Aud Go.Sha
section
variable {H : Type} {enc : TypeId × Value → H} {P : Program} {W : World} {spare : Nat → Bool} {held : Bool}
theorem weightsAll_mem {e : TypeId} : ∀ {ds : List (DataW H)} {d : DataW H}, d ∈ ds → ∀ n, n ∈ d.weights P e → n ∈ DataW.weightsAll P e ds
  | [], d, h, _, _ => by cases h
  | x :: r, d, h, n, hn => by
    simp only [DataW.weightsAll, List.mem_append]
    rcases List.mem_cons.1 h with rfl | h
    · exact .inl hn
    · exact .inr (weightsAll_mem h n hn)
/-- bytes, so many at the most -/
theorem arg_bytes_w {t e B : Nat} {fuel : Nat} {cs : List Value} {x : DataW H × List MemPlace} (ht : P.underlying t = some (.slice e)) (hk : P.cellsOf e = 1) (hb : P.bytesOf e = 1) (he : P.underlying e = some (.int .u8)) (hsp : ∀ b, spare b = true) (hw : ∀ n, n ∈ x.1.weights P t → n ≤ B)
    (h : DataW.trod enc P W 0 spare held fuel t cs = some x) : ∃ v av l, cs = [v] ∧ oldV v = some av ∧ ArgB (oldOf W) av l ∧ l.length ≤ B := by
  obtain ⟨v, av, l, h1, h2, h3⟩ := arg_bytes ht hk he hsp h
  refine ⟨v, av, l, h1, h2, h3, ?_⟩
  obtain ⟨v', av', a, len, cp, els, g1, g2, g3, g4, _, _, _, _, g9⟩ := arg_slice_q ht hk (by omega) hsp (fun _ => True) (fun _ _ _ _ _ => trivial) (fun _ => True) (fun n cs y hl _ htr => by
    obtain ⟨n, rfl, _, hw⟩ := DataW.trod_int he htr
    obtain ⟨b, hb⟩ := wf_u8 hw
    refine ⟨[bv b], ⟨rfl, fun i x hx => ?_⟩, trivial⟩
    cases i with
    | zero => simp at hx; subst hx; exact ⟨bv b, by rw [hb]; rfl, rfl⟩
    | succ i => simp at hx) h
  obtain ⟨a', cp', h4, _⟩ := h3
  rw [h1] at g1
  cases g1
  rw [h2] at g2
  cases g2
  rw [h4] at g3
  injection g3 with _ g3 _
  rw [g3]
  by_cases h0 : 0 < len
  · obtain ⟨ds, rest, hx, hd⟩ := g9 h0
    have := hw ((ds.length + rest.length) * P.bytesOf e) (by rw [hx]; simp [DataW.weights, ht])
    rw [hb, hd] at this
    omega
  · omega
/-- rows of bytes, each of so many at the most -/
theorem arg_rows_w {t e b B : Nat} {fuel : Nat} {cs : List Value} {x : DataW H × List MemPlace} (ht : P.underlying t = some (.slice e)) (he : P.underlying e = some (.slice b)) (hk : P.cellsOf b = 1) (hk2 : P.cellsOf e = 1) (hb1 : P.bytesOf b = 1) (hb : P.underlying b = some (.int .u8)) (hsp : ∀ b, spare b = true) (hw : ∀ n, n ∈ x.1.weights P t → n ≤ B)
    (h : DataW.trod enc P W 0 spare held fuel t cs = some x) : ∃ v av rows, cs = [v] ∧ oldV v = some av ∧ ArgR (oldOf W) av rows ∧ rows.length ≤ maxLen ∧ ∀ i, i < rows.length → (rows.getD i []).length ≤ B := by
  obtain ⟨v, av, a, len, cp, els, h1, h2, h3, h4, h5, h6, h7, h8, _⟩ := arg_slice_q ht hk2 (by omega) hsp (fun d => ∀ n, n ∈ d.weights P e → n ≤ B) (fun ds rest hx d hd n hn => hw n (by rw [hx]; simp only [DataW.weights, ht]; exact List.mem_cons_of_mem _ (List.mem_append_left _ (weightsAll_mem hd n hn))))
    (fun c => ∃ y l, c = [y] ∧ ArgB (oldOf W) y l ∧ l.length ≤ B) (fun n cs y _ hq htr => by
    obtain ⟨v, av, l, rfl, h2, h3, h4⟩ := arg_bytes_w he hk hb1 hb hsp hq htr
    refine ⟨[av], ⟨rfl, fun i x hx => ?_⟩, av, l, rfl, h3, h4⟩
    cases i with
    | zero => simp at hx; subst hx; exact ⟨av, h2, rfl⟩
    | succ i => simp at hx) h
  have : ∀ els : List (List Value), (∀ c, c ∈ els → (∃ y l, c = [y] ∧ ArgB (oldOf W) y l ∧ l.length ≤ B) ∧ c.length = 1) → ∃ rows : List (List UInt8), rows.length = els.length ∧ ∀ i, i < rows.length → (∃ x, els.flatten[i]? = some x ∧ ArgB (oldOf W) x (rows.getD i [])) ∧ (rows.getD i []).length ≤ B := by
    intro els
    induction els with
    | nil => exact fun _ => ⟨[], rfl, fun i hi => by cases hi⟩
    | cons c els ih =>
      intro hc
      obtain ⟨rows, l1, l2⟩ := ih fun c' hc' => hc c' (by simp [hc'])
      obtain ⟨⟨y, l, rfl, hy, hl⟩, _⟩ := hc c (by simp)
      refine ⟨l :: rows, by simp [l1], fun i hi => ?_⟩
      cases i with
      | zero => exact ⟨⟨y, by simp, by simpa using hy⟩, by simpa using hl⟩
      | succ i =>
        obtain ⟨⟨x, hx, hB⟩, hlen⟩ := l2 i (by simpa using hi)
        exact ⟨⟨x, by simpa using hx, by simpa [List.getD_eq_getElem?_getD] using hB⟩, by simpa [List.getD_eq_getElem?_getD] using hlen⟩
  obtain ⟨rows, l1, l2⟩ := this els h6
  exact ⟨v, av, rows, h1, h2, ⟨a, cp, els.flatten, by rw [h3, l1, h4], fun g => by rw [l1, h4]; exact h7 g, fun j => by rw [l1, h4]; exact h8 j, fun i hi => (l2 i hi).1⟩, by omega, fun i hi => (l2 i hi).2⟩
/-- paths -/
theorem arg_paths {t e d b : Nat} {fuel : Nat} {cs : List Value} {x : DataW H × List MemPlace} (ht : P.underlying t = some (.slice e)) (hte : P.underlying e = some (.slice d)) (hke : P.cellsOf e = 1) (he : P.underlying d = some (.array 32 b)) (hk : P.cellsOf b = 1) (hk2 : P.cellsOf d = 32) (hb : P.underlying b = some (.int .u8)) (hsp : ∀ b, spare b = true)
    (h : DataW.trod enc P W 0 spare held fuel t cs = some x) : ∃ v av l, cs = [v] ∧ oldV v = some av ∧ ArgP (oldOf W) av l := by
  obtain ⟨v, av, a, len, cp, els, h1, h2, h3, h4, h5, h6, h7, h8⟩ := arg_slice ht hke (by omega) hsp (fun c => ∃ y l, c = [y] ∧ ArgDig (oldOf W) y l) (fun n cs y _ htr => by
    obtain ⟨v, av, l, rfl, h2, h3⟩ := arg_digs hte he hk hk2 hb hsp htr
    refine ⟨[av], ⟨rfl, fun i x hx => ?_⟩, av, l, rfl, h3⟩
    cases i with
    | zero => simp at hx; subst hx; exact ⟨av, h2, rfl⟩
    | succ i => simp at hx) h
  have : ∀ els : List (List Value), (∀ c, c ∈ els → (∃ y l, c = [y] ∧ ArgDig (oldOf W) y l) ∧ c.length = 1) → ∃ rows : List (List (List UInt8)), rows.length = els.length ∧ ∀ i, i < rows.length → ∃ x, els.flatten[i]? = some x ∧ ArgDig (oldOf W) x (rows.getD i []) := by
    intro els
    induction els with
    | nil => exact fun _ => ⟨[], rfl, fun i hi => by cases hi⟩
    | cons c els ih =>
      intro hc
      obtain ⟨rows, l1, l2⟩ := ih fun c' hc' => hc c' (by simp [hc'])
      obtain ⟨⟨y, l, rfl, hy⟩, _⟩ := hc c (by simp)
      refine ⟨l :: rows, by simp [l1], fun i hi => ?_⟩
      cases i with
      | zero => exact ⟨y, by simp, by simpa using hy⟩
      | succ i =>
        obtain ⟨x, hx, hB⟩ := l2 i (by simpa using hi)
        exact ⟨x, by simpa using hx, by simpa [List.getD_eq_getElem?_getD] using hB⟩
  obtain ⟨rows, l1, l2⟩ := this els h6
  exact ⟨v, av, rows, h1, h2, a, cp, els.flatten, by rw [h3, l1, h4], fun g => by rw [l1, h4]; exact h7 g, fun j => by rw [l1, h4]; exact h8 j, l2⟩
end
theorem cells28 : Tryz.prog.cellsOf 28 = 6 := by kernel_rfl
theorem cells22 : Tryz.prog.cellsOf 22 = 1 := by kernel_rfl
theorem cells23t : Tryz.prog.cellsOf 23 = 1 := by kernel_rfl
theorem cells25 : Tryz.prog.cellsOf 25 = 1 := by kernel_rfl
theorem bytes5 : Tryz.prog.bytesOf 5 = 1 := by kernel_rfl
section
variable {H : Type} {enc : TypeId × Value → H} {W : World} {spare : Nat → Bool} {held : Bool}
/-- heads -/
theorem arg_heads {fuel : Nat} {cs : List Value} {x : DataW H × List MemPlace} (hsp : ∀ b, spare b = true) (h : DataW.trod enc Tryz.prog W 0 spare held fuel 22 cs = some x) : ∃ v av l, cs = [v] ∧ oldV v = some av ∧ ArgH (oldOf W) av l := by
  obtain ⟨v, av, a, len, cp, els, h1, h2, h3, h4, h5, h6, h7, h8⟩ := arg_slice Tryz.underlying22 cells35 (by omega) hsp (fun c => ∃ y : Nat × List UInt8, c = uv y.1 :: bytesVals y.2 ∧ y.1 < 18446744073709551616 ∧ y.2.length = 32) (fun n cs y _ htr => by
    obtain ⟨hs, root, o, hr, hhs⟩ := arg_head htr
    exact ⟨_, o, (hs, root), rfl, hhs, hr⟩) h
  have : ∀ els : List (List Value), (∀ c, c ∈ els → (∃ y : Nat × List UInt8, c = uv y.1 :: bytesVals y.2 ∧ y.1 < 18446744073709551616 ∧ y.2.length = 32) ∧ c.length = 33) → ∃ l : List (Nat × List UInt8), l.length = els.length ∧ els.flatten = headCells l ∧ ∀ x, x ∈ l → x.1 < 18446744073709551616 ∧ x.2.length = 32 := by
    intro els
    induction els with
    | nil => exact fun _ => ⟨[], rfl, rfl, fun x hx => by cases hx⟩
    | cons c els ih =>
      intro hc
      obtain ⟨l, l1, l2, l3⟩ := ih fun c' hc' => hc c' (by simp [hc'])
      obtain ⟨⟨y, rfl, hy⟩, _⟩ := hc c (by simp)
      exact ⟨y :: l, by simp [l1], by simp [l2, headCells], fun x hx => by rcases List.mem_cons.1 hx with rfl | hx; { exact hy }; exact l3 x hx⟩
  obtain ⟨l, l1, l2, l3⟩ := this els h6
  rw [l2] at h7
  exact ⟨v, av, l, h1, h2, a, cp, by rw [h3, l1, h4], fun g => by rw [l1, h4]; exact h7 g, fun j => by rw [l1, h4]; exact h8 j, l3⟩
theorem take_arg {fuel B : Nat} {cs : List Value} {x : DataW H × List MemPlace} (hsp : ∀ b, spare b = true) (hw : ∀ n, n ∈ x.1.weights Tryz.prog 28 → n ≤ B) (h : DataW.trod enc Tryz.prog W 0 spare held fuel 28 cs = some x) :
    ∃ ov hv nv lv pv ev hs os ns ls pss rows, OldCells cs [ov, hv, nv, lv, pv, ev] ∧ ArgH (oldOf W) hv hs ∧ ArgH (oldOf W) ov os ∧ ArgN (oldOf W) nv ns ∧ ArgDig (oldOf W) lv ls ∧ ArgP (oldOf W) pv pss ∧ ArgR (oldOf W) ev rows ∧ rows.length < 2 ^ 63 ∧ ∀ i, i < rows.length → (rows.getD i []).length ≤ B := by
  obtain ⟨xs, m, _, hxe, hl, hxl, hx⟩ := DataW.trod_struct Tryz.underlying28 h
  rw [cells28] at hl
  have hxl : xs.length = 6 := hxl
  have h0 := hx 0 _ rfl
  have h1 := hx 1 _ rfl
  have h2 := hx 2 _ rfl
  have h3 := hx 3 _ rfl
  have h4 := hx 4 _ rfl
  have h5 := hx 5 _ rfl
  rw [List.getElem?_eq_getElem (by omega)] at h0 h1 h2 h3 h4 h5
  replace h0 : DataW.trod enc Tryz.prog W 0 spare held m 22 ((cs.drop 0).take (Tryz.prog.cellsOf 22)) = _ := h0
  rw [cells22] at h0
  replace h1 : DataW.trod enc Tryz.prog W 0 spare held m 22 ((cs.drop 1).take (Tryz.prog.cellsOf 22)) = _ := h1
  rw [cells22] at h1
  replace h2 : DataW.trod enc Tryz.prog W 0 spare held m 23 ((cs.drop 2).take (Tryz.prog.cellsOf 23)) = _ := h2
  rw [cells23t] at h2
  replace h3 : DataW.trod enc Tryz.prog W 0 spare held m 24 ((cs.drop 3).take (Tryz.prog.cellsOf 24)) = _ := h3
  rw [cells24] at h3
  replace h4 : DataW.trod enc Tryz.prog W 0 spare held m 25 ((cs.drop 4).take (Tryz.prog.cellsOf 25)) = _ := h4
  rw [cells25] at h4
  replace h5 : DataW.trod enc Tryz.prog W 0 spare held m 26 ((cs.drop 5).take (Tryz.prog.cellsOf 26)) = _ := h5
  rw [cells26] at h5
  obtain ⟨v0, ov, os, v01, v02, v03⟩ := arg_heads hsp h0
  obtain ⟨v1, hv, hs, v11, v12, v13⟩ := arg_heads hsp h1
  obtain ⟨v2, nv, ns, v21, v22, v23⟩ := arg_u64s Tryz.underlying23 cells29 Tryz.underlying29 hsp h2
  obtain ⟨v3, lv, ls, v31, v32, v33⟩ := arg_digs Tryz.underlying24 Tryz.underlying30 cells5 cells30 Tryz.underlying5 hsp h3
  obtain ⟨v4, pv, pss, v41, v42, v43⟩ := arg_paths Tryz.underlying25 Tryz.underlying24 cells24 Tryz.underlying30 cells5 cells30 Tryz.underlying5 hsp h4
  have hw5 : ∀ n, n ∈ (xs[5]'(by omega)).1.weights Tryz.prog 26 → n ≤ B := fun n hn => hw n (by
    rw [hxe]
    simp only [DataW.weights, Tryz.underlying28]
    exact DataW.weights_mem_each (j := 5) (t := 26) (d := (xs[5]'(by omega)).1) rfl (by rw [List.getElem?_map, List.getElem?_eq_getElem (by omega)]; rfl) n hn)
  obtain ⟨v5, ev, rows, v51, v52, v53, v54, v55⟩ := arg_rows_w Tryz.underlying26 Tryz.underlying41 cells5 cells41 bytes5 Tryz.underlying5 hsp hw5 h5
  have hmax : maxLen < 2 ^ 63 := by decide
  refine ⟨ov, hv, nv, lv, pv, ev, hs, os, ns, ls, pss, rows, ?_, v13, v03, v23, v33, v43, v53, by omega, v55⟩
  have e5 : cs.drop 5 = (cs.drop 5).take 1 := (List.take_of_length_le (by simp; omega)).symm
  have e : cs = (cs.drop 0).take 1 ++ ((cs.drop 1).take 1 ++ ((cs.drop 2).take 1 ++ ((cs.drop 3).take 1 ++ ((cs.drop 4).take 1 ++ (cs.drop 5).take 1)))) := by
    rw [← e5, ← cut 4 1, ← cut 3 1, ← cut 2 1, ← cut 1 1, ← cut 0 1]
    rfl
  rw [e, v01, v11, v21, v31, v41, v51]
  exact OldCells.app (OldCells.one v02) (OldCells.app (OldCells.one v12) (OldCells.app (OldCells.one v22) (OldCells.app (OldCells.one v32) (OldCells.app (OldCells.one v42) (OldCells.one v52)))))
end
end Go.Proofs.YtecbgdnoblhldaaGreatDoor.au
