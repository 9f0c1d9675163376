/-
  Steps of the proof of AuditKnownCardSaid: what functions of the program do in the abstract machine, and the laws between; no condition beside those that each theorem names.
-/
import Derived.Test.YtecbgdnoblhldaaDoorAuB
import Derived.Test.YtecbgdnoblhldaaDoorLit

set_option linter.unusedSimpArgs false
set_option linter.unusedVariables false
set_option linter.unusedSectionVars false

namespace Go.Ab.Aud
open Go.Sha
variable {C : Ctx} (T : Tab_LLog C) (TD : Tab_LDig C) (TW : Tab_LLaw C) (hk : ∀ j, j < 64 → C.old 1 j = some (wv (kW j))) (hp : ∀ j, j < 16 → C.old 0 j = some (wv (crcW j)))
include T TD TW hk hp
set_option maxHeartbeats 1000000 in
theorem wk_step (i wr p d : Nat) (O : Nat → Prop) (b : UInt8) (content : List UInt8) (leaves : List (List UInt8)) (g : AHeap) (t : List Value) (hi : i < 3) (hb : UInt8.ofNat i = b) (hl : leaves.length = i) (hc : content.length ≤ 100) (hwr : wr < 100) (H : LogAt g O p d nmA content leaves 1000 wr) (hwf : g.lo ≤ g.bs.length)
    (hN : ∀ h, D C 46 [str nmA] h = some (.bool true, h)) (t3 : tg t 3 = .pointer (some ⟨p, 0, some 0⟩)) (t5 : tg t 5 = iv i) :
    ∃ g' t' O', (∀ k, R C r9 (.inLoop lp9_0 :: .inBlock 0 :: k) t [] g = R C r9 (.inLoop lp9_0 :: .inBlock 0 :: k) t' [] g') ∧ tg t' 3 = .pointer (some ⟨p, 0, some 0⟩) ∧ tg t' 5 = iv (i + 1) ∧ LogAt g' O' p d nmA (content ++ frame [b]) (leaves ++ [lh [b]]) 1000 (wr + 1) ∧ g'.lo ≤ g'.bs.length ∧ (content ++ frame [b]).length = content.length + 14 := by
  have f1 : Fr g (g.push (.cells [bv b] 6)) (fun _ => False) := Fr.push
  have H1 := H.fr f1 (fun _ _ h => h)
  have ol := H.olt
  obtain ⟨g', e, H2, f2⟩ := audit_append T TD hp hk (g.push (.cells [bv b] 6)) O p d 1000 wr nmA content leaves [b] (some ⟨g.bs.length, 0, some 0⟩) 1 1 H1 one_sl (fun j hj hO => by have := slLive hj; have := ol j hO; omega) (by simp; omega) (by omega) (by omega) (by omega) (by omega) (by omega) hN
  have l2 := f2.len
  have g2 := f2.lo
  have hfl := frame_length [b]
  simp at l2 g2 hfl
  have e2 : ∃ t', (∀ k, R C r9 (.inLoop lp9_0 :: .inBlock 0 :: k) t [] g = R C r9 (.inLoop lp9_0 :: .inBlock 0 :: k) t' [] g') ∧ tg t' 3 = .pointer (some ⟨p, 0, some 0⟩) ∧ tg t' 5 = iv (i + 1) := by
    refine ex_step (fun k => R_open lp9_0.eq_1) ?_
    simp [t3, t5, hi, hb, fillCells, splice, Dc_ok, e, num_spec TW, hl, cvt_iu (show i < 18446744073709551616 by omega), iv_add (a := i) (b := 1) (by omega)]
    exact ⟨_, fun _ => rfl, by simp [t3], by simp⟩
  obtain ⟨t', e2, u3, u5⟩ := e2
  exact ⟨g', t', _, e2, u3, u5, H2, by omega, by simp [hfl]⟩
set_option maxHeartbeats 4000000 in
theorem wakes_spec (h : AHeap) (hN : ∀ h, D C 46 [str nmA] h = some (.bool true, h)) : D C 9 [] h = some (.bool true, h) := by
  rw [D_fn3 TW.h9 _ rfl]
  generalize hh0 : ({ bs := [], lo := 0 } : AHeap) = h0
  have h0lo : h0.lo = 0 := by rw [← hh0]
  obtain ⟨h1, h2, d, p, O, e1, e2, L, hO, f2⟩ := open_new T h0 1000 nmA (by omega) (by omega) (by omega) hN
  have l2 := f2.len
  have g2 := f2.lo
  obtain ⟨t, e, u3, u5⟩ : ∃ t, R C r9 [.code b9] [] [] h0 = R C r9 (.inLoop lp9_0 :: .inBlock 0 :: [.code k9_0]) t [] h2 ∧ tg t 3 = .pointer (some ⟨p, 0, some 0⟩) ∧ tg t 5 = iv 0 := by
    have hs : Value.string ⟨⟨[97]⟩⟩ = str nmA := rfl
    simp [b9, Dc_ok, e1, num_spec TW, hs, e2, aeq_nilPs]
    exact ⟨_, rfl, by simp, by simp⟩
  obtain ⟨g1, t1, O1, x1, y1, z1, L1, w1, c1⟩ := wk_step T TD TW hk hp 0 0 p d O 0 [] [] h2 t (by omega) rfl rfl (by simp) (by omega) L (by omega) hN u3 u5
  obtain ⟨g2', t2, O2, x2, y2, z2, L2, w2, c2⟩ := wk_step T TD TW hk hp 1 1 p d O1 1 _ _ g1 t1 (by omega) rfl (by simp) (by simp at c1 ⊢; omega) (by omega) L1 w1 hN y1 z1
  obtain ⟨g3, t3, O3, x3, y3, z3, L3, w3, c3⟩ := wk_step T TD TW hk hp 2 2 p d O2 2 _ _ g2' t2 (by omega) rfl (by simp) (by simp at c1 c2 ⊢; omega) (by omega) L2 w2 hN y2 z2
  have hl : [] ++ [lh [0]] ++ [lh [1]] ++ [lh [2]] = wl3 := rfl
  rw [hl] at L3
  generalize [] ++ frame [0] ++ frame [1] ++ frame [2] = content at L3
  obtain ⟨t4, e4, u4⟩ : ∃ t', (∀ k, R C r9 (.inLoop lp9_0 :: .inBlock 0 :: k) t3 [] g3 = R C r9 k t' [] g3) ∧ tg t' 3 = .pointer (some ⟨p, 0, some 0⟩) := by
    refine ex_step (fun k => R_open lp9_0.eq_1) ?_
    simp [z3]
    exact ⟨_, fun _ => rfl, by simp [y3]⟩
  rw [e, x1, x2, x3, e4]
  have hlw : wl3.length = 3 := rfl
  have hz : Value.int .u8 0 = bv 0 := rfl
  have hb1 : Value.int .u8 1 = bv 1 := rfl
  have hb2 : Value.int .u8 2 = bv 2 := rfl
  generalize hZ : ABlock.cells (uv 0 :: List.replicate 32 (bv 0)) 32 = Z
  have hZ0 := hZ
  simp [List.replicate] at hZ
  have wz : ∀ (g : AHeap) (b n : Nat) (r : List UInt8), r.length = 32 → wrN g b (some Z) 0 0 (uv n :: bytesVals r) = some (g.put b (.cells (uv n :: bytesVals r) 32)) := by
    intro g b n r hr
    rw [← hZ0, wrN_cells (by simp [hr]) (by rw [List.all_cons, bytes_ok]; rfl)]
    congr 3
    simp [splice, hr]
  have rz : ∀ (n : Nat) (r : List UInt8), r.length = 32 → rdN (some (.cells (uv n :: bytesVals r) 32)) 0 0 33 = some (uv n :: bytesVals r) := by
    intro n r hr
    rw [rdN_cells (by simp [hr]), List.drop_zero, List.take_of_length_le (by simp [hr])]
  have hwR : wRoot.length = 32 := sha_length _
  have hwT : wTwo.length = 32 := sha_length _
  -- the heads
  obtain ⟨g4, e5, f4⟩ := head_spec T TD hk g3 O3 p d 1000 _ nmA content wl3 L3 3 (by omega) (by omega) w3
  rw [rootL3] at e5
  have l4 := f4.len
  have o4 := f4.lo
  have s5 : (g4.push Z).at g4.bs.length = some Z := push_self
  generalize hg5 : (g4.push Z).put g4.bs.length (.cells (uv 3 :: bytesVals wRoot) 32) = g5
  have f5 : Fr g3 g5 (fun _ => False) := by rw [← hg5]; exact (f4.push').put' (.inr (by omega))
  have v8 : g5.at g4.bs.length = some (.cells (uv 3 :: bytesVals wRoot) 32) := by rw [← hg5]; exact put_self (by simp)
  have l5 : g5.bs.length = g4.bs.length + 1 := by rw [← hg5]; simp
  have o5 := f5.lo
  have w5 : g5.lo ≤ g5.bs.length := by omega
  have hlo4 : g4.lo ≤ g4.bs.length := by omega
  have L5 := L3.fr f5 (fun _ _ h => h)
  obtain ⟨g6, e6, f6⟩ := head_spec T TD hk g5 O3 p d 1000 _ nmA content wl3 L5 2 (by omega) (by omega) w5
  rw [rootL32] at e6
  have l6 := f6.len
  have o6 := f6.lo
  have s6 : (g6.push Z).at g6.bs.length = some Z := push_self
  generalize hg7 : (g6.push Z).put g6.bs.length (.cells (uv 2 :: bytesVals wTwo) 32) = g7
  have f7 : Fr g5 g7 (fun _ => False) := by rw [← hg7]; exact (f6.push').put' (.inr (by omega))
  have v9 : g7.at g6.bs.length = some (.cells (uv 2 :: bytesVals wTwo) 32) := by rw [← hg7]; exact put_self (by simp)
  have l7 : g7.bs.length = g6.bs.length + 1 := by rw [← hg7]; simp
  have o7 := f7.lo
  have w7 : g7.lo ≤ g7.bs.length := by omega
  have hlo6 : g6.lo ≤ g6.bs.length := by omega
  have L7 := L5.fr f7 (fun _ _ h => h)
  obtain ⟨g8, vp, e7, P8, f8, b8⟩ := prove_spec T TD hk g7 O3 p d 1000 _ nmA content wl3 L7 1 3 (by omega) (by omega) (by omega) w7
  rw [path3] at P8
  have l8 := f8.len
  have o8 := f8.lo
  have L8 := L7.fr f8 (fun _ _ h => h)
  obtain ⟨g9, vq, e8, P9, f9⟩ := follow_spec T TD hk g8 O3 p d 1000 _ nmA content wl3 L8 2 3 (by omega) (by omega) (by omega) (by omega)
  rw [if_neg (by omega), proof3] at P9
  have l9 := f9.len
  have o9 := f9.lo
  have P8' : DigO g9 vp [lh [0], lh [2]] := P8.fr f9 (fun _ _ h => h)
  obtain ⟨ap, cpp, hvp, R9⟩ := P8'.digR (old := C.old)
  obtain ⟨aq, cpq, hvq, Q9, _⟩ := P9
  have k8 : g9.at g4.bs.length = some (.cells (uv 3 :: bytesVals wRoot) 32) := f9.get (f8.get (f7.get v8 (fun h => h)) (fun h => h)) (fun h => h)
  have k9 : g9.at g6.bs.length = some (.cells (uv 2 :: bytesVals wTwo) 32) := f9.get (f8.get v9 (fun h => h)) (fun h => h)
  generalize hg10 : g9.push (.cells [bv 1] 6) = g10
  have f10 : Fr g9 g10 (fun _ => False) := by rw [← hg10]; exact Fr.push
  have sl1 : SlR C.old g10 1 (.slice (some ⟨g9.bs.length, 0, some 0⟩) 1 1) (bytesVals [1]) := by rw [← hg10]; exact one_sl
  have lf1 := leaf_spec TD hk g10 [1] (some ⟨g9.bs.length, 0, some 0⟩) 1 1 sl1 (by omega)
  have in1 := incl_spec T TD hk g10 3 1 wRoot (lh [1]) [lh [0], lh [2]] hwR (sha_length _) (by omega) (by omega) ap cpp (R9.fr f10 (fun _ _ h => h))
  have fo1 := foll_spec T TD hk g10 2 3 wTwo wRoot [lh [2]] hwT hwR (by omega) (by omega) aq cpq (Q9.fr f10 (fun _ _ h => h))
  rw [foll3] at fo1
  have in1v : inclF 3 1 wRoot (lh [1]) [lh [0], lh [2]] = 0 := by rw [incl3]; exact if_pos rfl
  rw [in1v] at in1
  generalize hg11 : g10.push (.cells [bv 2] 6) = g11
  have f11 : Fr g10 g11 (fun _ => False) := by rw [← hg11]; exact Fr.push
  have sl2 : SlR C.old g11 1 (.slice (some ⟨g10.bs.length, 0, some 0⟩) 1 1) (bytesVals [2]) := by rw [← hg11]; exact one_sl
  have lf2 := leaf_spec TD hk g11 [2] (some ⟨g10.bs.length, 0, some 0⟩) 1 1 sl2 (by omega)
  have in2 := incl_spec T TD hk g11 3 1 wRoot (lh [2]) [lh [0], lh [2]] hwR (sha_length _) (by omega) (by omega) ap cpp ((R9.fr f10 (fun _ _ h => h)).fr f11 (fun _ _ h => h))
  have in2v : inclF 3 1 wRoot (lh [2]) [lh [0], lh [2]] = 236 := by rw [incl3]; exact if_neg (fun h => wakes_sha.mp h)
  rw [in2v] at in2
  have m8 : g10.at g4.bs.length = some (.cells (uv 3 :: bytesVals wRoot) 32) := f10.get k8 (fun h => h)
  have m9 : g10.at g6.bs.length = some (.cells (uv 2 :: bytesVals wTwo) 32) := f10.get k9 (fun h => h)
  have n8 : g11.at g4.bs.length = some (.cells (uv 3 :: bytesVals wRoot) 32) := f11.get m8 (fun h => h)
  have lhd : ∀ b : UInt8, sha [0, b] = lh [b] := fun _ => rfl
  rw [lhd] at lf1 lf2
  subst hvp
  subst hvq
  simp at in1 in2 fo1 e7 e8
  have r : R C r9 [.code k9_0] t4 [] g3 = some (.bool true, g11) := by
    simp [k9_0, u4, Dc_ok, e5, hz, hZ, bytes_ok, hwR, hwT, writeN_wr, hlo4, s5, wz, hg5, e6, hlo6, s6, hg7, e7, e8, num_spec TW, v8, v9, k8, k9, rz, hb1, hb2, fillCells, splice, hg10, lf1, in1, m8, m9, fo1, hg11, lf2, in2, n8, r9]
  rw [r]
  exact pur_some rfl
end Go.Ab.Aud

namespace Go.Ab.Aud
open Go.Sha
/-- a new row of cells, then laid over -/
theorem arr_step {g : AHeap} {Z : ABlock} {n fz : Nat} {vs : List Value} (hZ : ABlock.cells (List.replicate n (bv 0)) (fz + 1) = Z) (hl : vs.length = n) (ok : vs.all okCell = true) :
    ∃ g', (g.push Z).put g.bs.length (.cells vs (fz + 1)) = g' ∧ (g.push Z).at g.bs.length = some Z ∧ g'.at g.bs.length = some (.cells vs (fz + 1)) ∧ g'.bs.length = g.bs.length + 1 ∧ g'.lo = g.lo ∧ Fr g g' (fun _ => False) :=
  ⟨_, rfl, push_self, put_self (by simp), by simp, rfl, Fr.push.put' (.inr (Nat.le_refl _))⟩
/-- two of them -/
theorem arr_two {g : AHeap} {Z : ABlock} {n fz : Nat} {vs ws : List Value} (hZ : ABlock.cells (List.replicate n (bv 0)) (fz + 1) = Z) (hl : vs.length = n) :
    ∃ g1 g', ((g.push Z).push Z).put g.bs.length (.cells vs (fz + 1)) = g1 ∧ g1.put (g.bs.length + 1) (.cells ws (fz + 1)) = g' ∧ ((g.push Z).push Z).at g.bs.length = some Z ∧ g1.at (g.bs.length + 1) = some Z ∧
      g'.at g.bs.length = some (.cells vs (fz + 1)) ∧ g'.at (g.bs.length + 1) = some (.cells ws (fz + 1)) ∧ g1.bs.length = g.bs.length + 2 ∧ g'.bs.length = g.bs.length + 2 ∧ g1.lo = g.lo ∧ g'.lo = g.lo ∧ Fr g g' (fun _ => False) := by
  refine ⟨_, _, rfl, rfl, by rw [push_lt (by simp)]; exact push_self, by rw [put_ne (by omega)]; exact push_self' (by simp), by rw [put_ne (by omega)]; exact put_self (by simp; omega), put_self (by simp), by simp, by simp, rfl, rfl, (Fr.push.push'.put' (.inr (Nat.le_refl _))).put' (.inr (by omega))⟩
theorem wr_arr {Z : ABlock} {n fz : Nat} {vs : List Value} (hZ : ABlock.cells (List.replicate n (bv 0)) (fz + 1) = Z) (hl : vs.length = n) (ok : vs.all okCell = true) (G : AHeap) (b : Nat) : wrN G b (some Z) 0 0 vs = some (G.put b (.cells vs (fz + 1))) := by
  rw [← hZ, wrN_cells (by simp [hl]) ok]
  congr 3
  simp [splice, hl]
theorem new_step {g : AHeap} {Z : ABlock} {c : List Value} {fz : Nat} {vs : List Value} (hZ : ABlock.cells c (fz + 1) = Z) :
    ∃ g', (g.push Z).put g.bs.length (.cells vs (fz + 1)) = g' ∧ (g.push Z).at g.bs.length = some Z ∧ g'.at g.bs.length = some (.cells vs (fz + 1)) ∧ g'.bs.length = g.bs.length + 1 ∧ g'.lo = g.lo ∧ Fr g g' (fun _ => False) :=
  ⟨_, rfl, push_self, put_self (by simp), by simp, rfl, Fr.push.put' (.inr (Nat.le_refl _))⟩
theorem wr_all {Z : ABlock} {c : List Value} {fz : Nat} {vs : List Value} (hZ : ABlock.cells c (fz + 1) = Z) (hl : vs.length = c.length) (ok : vs.all okCell = true) (G : AHeap) (b : Nat) : wrN G b (some Z) 0 0 vs = some (G.put b (.cells vs (fz + 1))) := by
  rw [← hZ, wrN_cells (by simp [hl]) ok]
  congr 3
  simp [splice, hl]
def s1 : ACode → ACode
  | .seq a _ => a
  | _ => .skip
def s2 : ACode → ACode
  | .seq _ b => b
  | _ => .skip
def blkIn : ACode → ACode
  | .block _ b => b
  | _ => .skip
theorem R_split {C : Ctx} {rs : List ARes} {k : List AItem} {t : List Value} {ds : List ADefer} {h : AHeap} {c a b : ACode} (e : c = .seq a b) : R C rs (.code c :: k) t ds h = R C rs (.code (s1 c) :: .code (s2 c) :: k) t ds h := by
  subst e; exact R_seq
end Go.Ab.Aud

namespace Go.Ab.Aud
open Go.Sha
/-- the eight entries that everybody knows -/
def kRows : List (List UInt8) := [[], [0], [0x10], [0x20, 0x21], [0x30, 0x31], [0x40, 0x41, 0x42, 0x43], [0x50, 0x51, 0x52, 0x53, 0x54, 0x55, 0x56, 0x57], [0x60, 0x61, 0x62, 0x63, 0x64, 0x65, 0x66, 0x67, 0x68, 0x69, 0x6a, 0x6b, 0x6c, 0x6d, 0x6e, 0x6f]]
def hexD : List UInt8 := [48, 49, 50, 51, 52, 53, 54, 55, 56, 57, 97, 98, 99, 100, 101, 102]
def hexC (n : Nat) : UInt8 := hexD.getD n 0
/-- bytes in base 16 -/
def hexF (d : List UInt8) : List UInt8 := d.flatMap fun b => [hexC (b.toNat / 16), hexC (b.toNat % 16)]
def kWant : List (List UInt8) := [
 [101, 51, 98, 48, 99, 52, 52, 50, 57, 56, 102, 99, 49, 99, 49, 52, 57, 97, 102, 98, 102, 52, 99, 56, 57, 57, 54, 102, 98, 57, 50, 52, 50, 55, 97, 101, 52, 49, 101, 52, 54, 52, 57, 98, 57, 51, 52, 99, 97, 52, 57, 53, 57, 57, 49, 98, 55, 56, 53, 50, 98, 56, 53, 53],
 [54, 101, 51, 52, 48, 98, 57, 99, 102, 102, 98, 51, 55, 97, 57, 56, 57, 99, 97, 53, 52, 52, 101, 54, 98, 98, 55, 56, 48, 97, 50, 99, 55, 56, 57, 48, 49, 100, 51, 102, 98, 51, 51, 55, 51, 56, 55, 54, 56, 53, 49, 49, 97, 51, 48, 54, 49, 55, 97, 102, 97, 48, 49, 100],
 [102, 97, 99, 53, 52, 50, 48, 51, 101, 55, 99, 99, 54, 57, 54, 99, 102, 48, 100, 102, 99, 98, 52, 50, 99, 57, 50, 97, 49, 100, 57, 100, 98, 97, 102, 55, 48, 97, 100, 57, 101, 54, 50, 49, 102, 52, 98, 100, 56, 100, 57, 56, 54, 54, 50, 102, 48, 48, 101, 51, 99, 49, 50, 53],
 [97, 101, 98, 54, 98, 99, 102, 101, 50, 55, 52, 98, 55, 48, 97, 49, 52, 102, 98, 48, 54, 55, 97, 53, 101, 53, 53, 55, 56, 50, 54, 52, 100, 98, 48, 102, 97, 57, 98, 53, 49, 97, 102, 53, 101, 48, 98, 97, 49, 53, 57, 49, 53, 56, 102, 51, 50, 57, 101, 48, 54, 101, 55, 55],
 [100, 51, 55, 101, 101, 52, 49, 56, 57, 55, 54, 100, 100, 57, 53, 55, 53, 51, 99, 49, 99, 55, 51, 56, 54, 50, 98, 57, 51, 57, 56, 102, 97, 50, 97, 50, 99, 102, 57, 98, 52, 102, 102, 48, 102, 100, 102, 101, 56, 98, 51, 48, 99, 100, 57, 53, 50, 48, 57, 54, 49, 52, 98, 55],
 [52, 101, 51, 98, 98, 98, 49, 102, 55, 98, 52, 55, 56, 100, 99, 102, 101, 55, 49, 102, 98, 54, 51, 49, 54, 51, 49, 53, 49, 57, 97, 51, 98, 99, 97, 49, 50, 99, 57, 97, 101, 102, 99, 97, 49, 54, 49, 50, 98, 102, 99, 101, 52, 99, 49, 51, 97, 56, 54, 50, 54, 52, 100, 52],
 [55, 54, 101, 54, 55, 100, 97, 100, 98, 99, 100, 102, 49, 101, 49, 48, 101, 49, 98, 55, 52, 100, 100, 99, 54, 48, 56, 97, 98, 100, 50, 102, 57, 56, 100, 102, 98, 49, 54, 102, 98, 99, 101, 55, 53, 50, 55, 55, 98, 53, 50, 51, 50, 97, 49, 50, 55, 102, 50, 48, 56, 55, 101, 102],
 [100, 100, 98, 56, 57, 98, 101, 52, 48, 51, 56, 48, 57, 101, 51, 50, 53, 55, 53, 48, 100, 51, 100, 50, 54, 51, 99, 100, 55, 56, 57, 50, 57, 99, 50, 57, 52, 50, 98, 55, 57, 52, 50, 97, 51, 52, 98, 55, 55, 101, 49, 50, 50, 99, 57, 53, 57, 52, 97, 55, 52, 99, 56, 99],
 [53, 100, 99, 57, 100, 97, 55, 57, 97, 55, 48, 54, 53, 57, 97, 57, 97, 100, 53, 53, 57, 99, 98, 55, 48, 49, 100, 101, 100, 57, 97, 50, 97, 98, 57, 100, 56, 50, 51, 97, 97, 100, 50, 102, 52, 57, 54, 48, 99, 102, 101, 51, 55, 48, 101, 102, 102, 52, 54, 48, 52, 51, 50, 56]]
theorem known0 : hexF (rootL ((kRows.map lh).take 0)) = kWant.getD 0 [] := by decide +kernel
theorem known1 : hexF (rootL ((kRows.map lh).take 1)) = kWant.getD 1 [] := by decide +kernel
theorem known2 : hexF (rootL ((kRows.map lh).take 2)) = kWant.getD 2 [] := by decide +kernel
theorem known3 : hexF (rootL ((kRows.map lh).take 3)) = kWant.getD 3 [] := by decide +kernel
theorem known4 : hexF (rootL ((kRows.map lh).take 4)) = kWant.getD 4 [] := by decide +kernel
theorem known5 : hexF (rootL ((kRows.map lh).take 5)) = kWant.getD 5 [] := by decide +kernel
theorem known6 : hexF (rootL ((kRows.map lh).take 6)) = kWant.getD 6 [] := by decide +kernel
theorem known7 : hexF (rootL ((kRows.map lh).take 7)) = kWant.getD 7 [] := by decide +kernel
theorem known8 : hexF (rootL ((kRows.map lh).take 8)) = kWant.getD 8 [] := by decide +kernel
theorem known {n : Nat} (h : n ≤ 8) : hexF (rootL ((kRows.map lh).take n)) = kWant.getD n [] := by
  have : n = 0 ∨ n = 1 ∨ n = 2 ∨ n = 3 ∨ n = 4 ∨ n = 5 ∨ n = 6 ∨ n = 7 ∨ n = 8 := by omega
  rcases this with rfl | rfl | rfl | rfl | rfl | rfl | rfl | rfl | rfl
  · exact known0
  · exact known1
  · exact known2
  · exact known3
  · exact known4
  · exact known5
  · exact known6
  · exact known7
  · exact known8
end Go.Ab.Aud

namespace Go.Ab.Aud
open Go.Sha
theorem hx_ix {k : Nat} (h : k < 16) : ixT (.string ⟨⟨[48, 49, 50, 51, 52, 53, 54, 55, 56, 57, 97, 98, 99, 100, 101, 102]⟩⟩) (.int .u8 (k : Nat)) = some (bv (hexC k)) := by
  have : k = 0 ∨ k = 1 ∨ k = 2 ∨ k = 3 ∨ k = 4 ∨ k = 5 ∨ k = 6 ∨ k = 7 ∨ k = 8 ∨ k = 9 ∨ k = 10 ∨ k = 11 ∨ k = 12 ∨ k = 13 ∨ k = 14 ∨ k = 15 := by omega
  rcases this with rfl | rfl | rfl | rfl | rfl | rfl | rfl | rfl | rfl | rfl | rfl | rfl | rfl | rfl | rfl | rfl <;> rfl
theorem hx_enc {k : Nat} (h : k < 16) : Value.string (Utf8.encode ((hexC k).toNat : Nat)) = str [hexC k] := by
  have : k = 0 ∨ k = 1 ∨ k = 2 ∨ k = 3 ∨ k = 4 ∨ k = 5 ∨ k = 6 ∨ k = 7 ∨ k = 8 ∨ k = 9 ∨ k = 10 ∨ k = 11 ∨ k = 12 ∨ k = 13 ∨ k = 14 ∨ k = 15 := by omega
  rcases this with rfl | rfl | rfl | rfl | rfl | rfl | rfl | rfl | rfl | rfl | rfl | rfl | rfl | rfl | rfl | rfl <;> exact congrArg Value.string (by decide +kernel)
theorem bv_quo16 {b : UInt8} : abin .quo (bv b) (.int .u8 16) = some (.int .u8 ((b.toNat / 16 : Nat) : Int)) := by
  unfold bv
  simp only [abin, abinI, if_true]
  have := b.toNat_lt
  rw [if_neg (by omega), wrap8u]
  congr 2
  rw [Int.tdiv_eq_ediv_of_nonneg (by omega)]
  omega
theorem bv_rem16 {b : UInt8} : abin .rem (bv b) (.int .u8 16) = some (.int .u8 ((b.toNat % 16 : Nat) : Int)) := by
  unfold bv
  simp only [abin, abinI, if_true]
  rw [if_neg (by omega)]
  congr 2
theorem str_add {a b : List UInt8} (h : a.length + b.length ≤ sizeLim) : abin .add (str a) (str b) = some (str (a ++ b)) := by
  unfold str
  simp only [abin, abinS]
  rw [if_pos h]
  rfl
variable {C : Ctx} (TK : Tab_LKnown C)
include TK
theorem hexed_loop (d : List UInt8) (hd : d.length = 32) (b : Nat) (g : AHeap) (hb : g.at b = some (.cells (bytesVals d) 30)) : ∀ (k i : Nat) (t : List Value), i + k = 32 → tg t 1 = .pointer (some ⟨b, 0, some 0⟩) → tg t 3 = str (hexF (d.take i)) → tg t 4 = iv i →
    ∃ t', (∀ K, R C r8 (.inLoop lp8_0 :: .inBlock 0 :: K) t [] g = R C r8 K t' [] g) ∧ tg t' 3 = str (hexF d) := by
  intro k
  induction k with
  | zero =>
    intro i t hi t1 t3 t4
    obtain rfl : i = 32 := by omega
    rw [List.take_of_length_le (by omega)] at t3
    refine ex_step (fun k => R_open lp8_0.eq_1) ?_
    simp [t4]
    exact ⟨_, fun _ => rfl, by simp [t3]⟩
  | succ k ih =>
    intro i t hi t1 t3 t4
    have hi2 : i < d.length := by omega
    have rd : rd1 (some (.cells (bytesVals d) 30)) i 0 = some (bv (d[i])) := by
      rw [rd1_cells, bytes_get, List.getElem?_eq_getElem hi2]; rfl
    have hk : hexF (d.take (i + 1)) = hexF (d.take i) ++ [hexC (d[i].toNat / 16), hexC (d[i].toNat % 16)] := by
      rw [List.take_add_one, List.getElem?_eq_getElem hi2]
      simp only [hexF, List.flatMap_append, Option.toList_some, List.flatMap_cons, List.flatMap_nil, List.append_nil]
    have hl : (hexF (d.take i)).length ≤ 64 := by
      have : ∀ l : List UInt8, (hexF l).length = 2 * l.length := by
        intro l
        induction l with
        | nil => rfl
        | cons x l ih => simp only [hexF, List.flatMap_cons, List.length_append, List.length_cons, List.length_nil] at ih ⊢; omega
      rw [this, List.length_take]; omega
    generalize hexF (d.take i) = x at t3 hk hl
    have hb0 := (d[i]).toNat_lt
    have e1 := hx_ix (k := d[i].toNat / 16) (by omega)
    have e2 := hx_ix (k := d[i].toNat % 16) (by omega)
    have c1 := hx_enc (k := d[i].toNat / 16) (by omega)
    have c2 := hx_enc (k := d[i].toNat % 16) (by omega)
    have q1 := bv_quo16 (b := d[i])
    have q2 := bv_rem16 (b := d[i])
    generalize d[i].toNat / 16 = u at *
    generalize d[i].toNat % 16 = v at *
    have a1 := str_add (a := x) (b := [hexC u]) (by simp [sizeLim]; omega)
    have a2 := str_add (a := x ++ [hexC u]) (b := [hexC v]) (by simp [sizeLim]; omega)
    have r14 : ∀ t, tg t 14 = bv (hexC u) → aexec C t g (.rune2str (.tmp 14)) = some (str [hexC u], g) := fun t h => by
      rw [ax_rune2str, show (AArg.tmp 14).ev t = bv (hexC u) from h, ← c1]; rfl
    have r21 : ∀ t, tg t 21 = bv (hexC v) → aexec C t g (.rune2str (.tmp 21)) = some (str [hexC v], g) := fun t h => by
      rw [ax_rune2str, show (AArg.tmp 21).ev t = bv (hexC v) from h, ← c2]; rfl
    obtain ⟨t', e, u1, u3, u4⟩ : ∃ t', (∀ K, R C r8 (.inLoop lp8_0 :: .inBlock 0 :: K) t [] g = R C r8 (.inLoop lp8_0 :: .inBlock 0 :: K) t' [] g) ∧ tg t' 1 = .pointer (some ⟨b, 0, some 0⟩) ∧ tg t' 3 = str (x ++ [hexC u] ++ [hexC v]) ∧ tg t' 4 = iv (i + 1) := by
      refine ex_step (fun k => R_open lp8_0.eq_1) ?_
      simp [-ax_rune2str, t1, t3, t4, show i < 32 by omega, ixA_iv (show i < 32 by omega), hb, rd, q1, q2, e1, e2, r14, r21, a1, a2, iv_add (a := i) (b := 1) (by omega)]
      exact ⟨_, fun _ => rfl, by simp [t1], by simp, by simp⟩
    obtain ⟨t2, e3, w3⟩ := ih (i + 1) t' (by omega) u1 (by rw [u3, hk]; simp) u4
    exact ⟨t2, fun K => (e K).trans (e3 K), w3⟩
theorem hexed_spec (h : AHeap) (d : List UInt8) (hd : d.length = 32) : D C 8 [.agg ⟨bytesVals d⟩] h = some (str (hexF d), h) := by
  rw [D_fn3 TK.h8 _ (by simp [flat_bytes])]
  generalize hh0 : ({ bs := [], lo := 0 } : AHeap) = h0
  generalize ha : h0.push (.cells (bytesVals d) 30) = a
  have aat : a.at h0.bs.length = some (.cells (bytesVals d) 30) := by rw [← ha]; exact push_self
  obtain ⟨t, e, t1, t3, t4⟩ : ∃ t, R C r8 [.code b8] [.agg ⟨bytesVals d⟩] [] h0 = R C r8 (.inLoop lp8_0 :: .inBlock 0 :: [.code k8_0]) t [] a ∧ tg t 1 = .pointer (some ⟨h0.bs.length, 0, some 0⟩) ∧ tg t 3 = str (hexF (d.take 0)) ∧ tg t 4 = iv 0 := by
    simp [b8, bytes_ok, ha]
    exact ⟨_, rfl, by simp, by simp; rfl, by simp⟩
  obtain ⟨t2, e2, w3⟩ := hexed_loop TK d hd h0.bs.length a aat 32 0 t rfl t1 t3 t4
  rw [e, e2]
  simp [k8_0, w3, r8]
end Go.Ab.Aud

namespace Go.Ab.Aud
open Go.Sha
def kc0 : ACode := s2 b3
def kc1 : ACode := s2 kc0
def kc2 : ACode := s2 kc1
def kc3 : ACode := s2 kc2
def kc4 : ACode := s2 kc3
theorem kc_e : b3 = .seq (s1 b3) (.seq (s1 kc0) (.seq (s1 kc1) kc2)) := rfl
theorem kc_e3 : kc2 = .seq (s1 kc2) (.seq (s1 kc3) kc4) := rfl
def kSl (L : Nat) : List Value := [emptySl, .slice (some ⟨L, 0, some 0⟩) 1 1, .slice (some ⟨L + 1, 0, some 0⟩) 1 1, .slice (some ⟨L + 2, 0, some 0⟩) 2 2, .slice (some ⟨L + 3, 0, some 0⟩) 2 2, .slice (some ⟨L + 4, 0, some 0⟩) 4 4, .slice (some ⟨L + 5, 0, some 0⟩) 8 8, .slice (some ⟨L + 6, 0, some 0⟩) 16 16]
def kBlk (L : Nat) : List ABlock := (kRows.drop 1).map (fun r => .cells (bytesVals r) 6) ++ [.cells (kSl L) 23, .cells (kWant.map str) 25]
variable {C : Ctx} (TK : Tab_LKnown C)
include TK
set_option maxRecDepth 100000 in
set_option maxHeartbeats 4000000 in
theorem known_a (h : AHeap) (wf : h.lo ≤ h.bs.length) : ∃ t, R C r3 [.code b3] [] [] h = R C r3 [.code kc2] t [] ⟨h.bs ++ kBlk h.bs.length, h.lo⟩ ∧ tg t 1 = .slice (some ⟨h.bs.length + 7, 0, some 0⟩) 8 8 ∧ tg t 2 = .pointer (some ⟨h.bs.length + 8, 0, some 0⟩) := by
  suffices hs : ∃ t a, R C r3 [.code b3] [] [] h = R C r3 [.code kc2] t [] a ∧ a = ⟨h.bs ++ kBlk h.bs.length, h.lo⟩ ∧ tg t 1 = .slice (some ⟨h.bs.length + 7, 0, some 0⟩) 8 8 ∧ tg t 2 = .pointer (some ⟨h.bs.length + 8, 0, some 0⟩) by
    obtain ⟨t, a, e, rfl, h1, h2⟩ := hs
    exact ⟨t, e, h1, h2⟩
  rw [kc_e]
  have c1 : h.lo ≤ h.bs.length + 8 := by omega
  simp [b3, kc0, kc1, s1, s2, fillCells, splice, writeN_wr, c1, push_self', wrN_cells]
  refine ⟨_, _, rfl, ?_, by simp, by simp⟩
  simp [AHeap.push, AHeap.put, kBlk, kRows, kSl, List.set_append]
  rw [if_neg (by omega), show h.bs.length + 1 + 1 + 1 + 1 + 1 + 1 + 1 + 1 - h.bs.length = 8 by omega]
  rfl
end Go.Ab.Aud

namespace Go.Ab.Aud
open Go.Sha
theorem sl_blk {old : Old} {a : AHeap} {q b n fz : Nat} {c : List Value} (hb : a.at b = some (.cells c fz)) (hq : b < q) (hl : c.length = n) : ∀ h', Fr a h' (fun j => q ≤ j) → SlR old h' 1 (.slice (some ⟨b, 0, some 0⟩) n n) c := by
  intro h' f
  refine ⟨by omega, ?_⟩
  rw [if_neg (by simp [isRest])]
  refine ⟨Nat.le_refl _, fun _ => ?_⟩
  rw [readN_rd, f.get hb (by omega), rdN_cells (by omega), List.drop_zero, List.take_of_length_le (by omega)]
theorem sl_nil {old : Old} (h' : AHeap) : SlR old h' 1 (.slice (some ⟨0, 0, some 0⟩) 0 0) (bytesVals []) := by
  refine ⟨rfl, ?_⟩
  rw [if_neg (by simp [isRest])]
  exact ⟨Nat.le_refl _, fun h => absurd rfl h⟩
theorem kBlk_len {L : Nat} : (kBlk L).length = 9 := rfl
theorem k_at {h : AHeap} {i : Nat} {x : ABlock} (hx : (kBlk h.bs.length)[i]? = some x) : (⟨h.bs ++ kBlk h.bs.length, h.lo⟩ : AHeap).at (h.bs.length + i) = some x := by
  simp only [AHeap.at]
  rw [List.getElem?_append_right (by omega), Nat.add_sub_cancel_left, hx]
theorem known_rows {old : Old} (h : AHeap) : ArgRG old ⟨h.bs ++ kBlk h.bs.length, h.lo⟩ (h.bs.length + 9) (.slice (some ⟨h.bs.length + 7, 0, some 0⟩) 8 8) kRows := by
  refine ⟨_, 8, kSl h.bs.length, rfl, sl_blk (k_at (i := 7) rfl) (by omega) rfl, fun i hi => ?_⟩
  have hi : i < 8 := hi
  have : i = 0 ∨ i = 1 ∨ i = 2 ∨ i = 3 ∨ i = 4 ∨ i = 5 ∨ i = 6 ∨ i = 7 := by omega
  rcases this with rfl | rfl | rfl | rfl | rfl | rfl | rfl | rfl
  · exact ⟨_, rfl, _, _, rfl, fun h' _ => sl_nil h'⟩
  · exact ⟨_, rfl, _, _, rfl, sl_blk (k_at (i := 0) rfl) (by omega) rfl⟩
  · exact ⟨_, rfl, _, _, rfl, sl_blk (k_at (i := 1) rfl) (by omega) rfl⟩
  · exact ⟨_, rfl, _, _, rfl, sl_blk (k_at (i := 2) rfl) (by omega) rfl⟩
  · exact ⟨_, rfl, _, _, rfl, sl_blk (k_at (i := 3) rfl) (by omega) rfl⟩
  · exact ⟨_, rfl, _, _, rfl, sl_blk (k_at (i := 4) rfl) (by omega) rfl⟩
  · exact ⟨_, rfl, _, _, rfl, sl_blk (k_at (i := 5) rfl) (by omega) rfl⟩
  · exact ⟨_, rfl, _, _, rfl, sl_blk (k_at (i := 6) rfl) (by omega) rfl⟩
theorem k_laid : laidF 8 200000 kRows = kRows := rfl
theorem k_rd {L n : Nat} (hn : n ≤ 8) : rd1 (some (.cells (kWant.map str) 25)) n 0 = some (str (kWant.getD n [])) := by
  have hl : kWant.length = 9 := rfl
  rw [rd1_cells, List.getElem?_map, List.getD_eq_getElem?_getD, List.getElem?_eq_getElem (by omega)]
  rfl
theorem str_neq {a : List UInt8} : abin .neq (str a) (str a) = some (.bool false) := by unfold str; simp [abin, abinS]
variable {C : Ctx} (T : Tab_LLog C) (TD : Tab_LDig C) (TW : Tab_LLaw C) (TK : Tab_LKnown C) (hk : ∀ j, j < 64 → C.old 1 j = some (wv (kW j))) (hp : ∀ j, j < 16 → C.old 0 j = some (wv (crcW j)))
include T TD TW TK hk
theorem known_loop (p d room wr wb : Nat) (O : Nat → Prop) (name ct : List UInt8) : ∀ (k n : Nat) (g : AHeap) (t : List Value), n + k = 9 → LogAt g O p d name ct (kRows.map lh) room wr → g.at wb = some (.cells (kWant.map str) 25) → g.lo ≤ g.bs.length →
    tg t 2 = .pointer (some ⟨wb, 0, some 0⟩) → tg t 3 = .pointer (some ⟨p, 0, some 0⟩) → tg t 5 = iv n → ∃ g' t', ∀ K, R C r3 (.inLoop lp3_0 :: .inBlock 0 :: K) t [] g = R C r3 K t' [] g' := by
  intro k
  induction k with
  | zero =>
    intro n g t hn H hw wf t2 t3 t5
    obtain rfl : n = 9 := by omega
    refine ⟨g, ?_⟩
    refine ex_step0 (fun k => R_open lp3_0.eq_1) ?_
    simp [t5]
    exact ⟨_, fun _ => rfl⟩
  | succ k ih =>
    intro n g t hn H hw wf t2 t3 t5
    have hml : (kRows.map lh).length = 8 := rfl
    obtain ⟨a, ea, fa⟩ := head_spec T TD hk g O p d room wr name ct (kRows.map lh) H n (by omega) (by omega) wf
    have hkn := known (n := n) (by omega)
    have h32 : ∀ y, y ∈ kRows.map lh → y.length = 32 := fun y hy => by
      obtain ⟨z, _, hz⟩ := List.mem_map.1 hy
      rw [← hz]; exact sha_length _
    have rl := rootL_length _ (mem_take32 h32 n)
    generalize rootL ((kRows.map lh).take n) = root at ea hkn rl
    have hz : Value.int .u8 0 = bv 0 := rfl
    generalize hZ : ABlock.cells (uv 0 :: List.replicate 32 (bv 0)) 32 = Z
    have hZ0 := hZ
    simp [List.replicate] at hZ
    obtain ⟨b, hb, z6, B6, l1, o1, f1⟩ := new_step (g := a) (vs := uv n :: bytesVals root) hZ0
    have w6 := wr_all hZ0 (vs := uv n :: bytesVals root) (by simp [rl]) (by rw [List.all_cons, bytes_ok]; rfl)
    have F1 : Fr g b (fun _ => False) := fa.trans f1 (fun _ h => h) (fun _ h _ => h)
    have al := fa.len
    have ao := fa.lo
    have c1 : g.lo ≤ a.bs.length := by omega
    have hwb := F1.get hw (fun h => h)
    have eh := hexed_spec TK b root rl
    have r0 : rd1 (some (.cells (uv n :: bytesVals root) 32)) 0 0 = some (uv n) := rfl
    have r1 : rdN (some (.cells (uv n :: bytesVals root) 32)) 1 0 32 = some (bytesVals root) := by
      rw [rdN_cells (by simp [rl]), List.drop_succ_cons, List.drop_zero, List.take_of_length_le (by simp [rl])]
    have rw9 := k_rd (L := 0) (n := n) (by omega)
    rw [← hkn] at rw9
    obtain ⟨t', e, u2, u3, u5⟩ : ∃ t', (∀ K, R C r3 (.inLoop lp3_0 :: .inBlock 0 :: K) t [] g = R C r3 (.inLoop lp3_0 :: .inBlock 0 :: K) t' [] b) ∧ tg t' 2 = .pointer (some ⟨wb, 0, some 0⟩) ∧ tg t' 3 = .pointer (some ⟨p, 0, some 0⟩) ∧ tg t' 5 = iv (n + 1) := by
      refine ex_step (fun k => R_open lp3_0.eq_1) ?_
      simp [t2, t3, t5, show n ≤ 8 by omega, cvt_iu (show n < 18446744073709551616 by omega), Dc_ok, ea, hz, hZ, rl, writeN_wr, ao, c1, z6, w6, hb, num_spec TW, B6, r0, r1, eh, ixA_iv (show n < 9 by omega), hwb, rw9, str_neq, iv_add (a := n) (b := 1) (by omega)]
      exact ⟨_, fun _ => rfl, by simp [t2], by simp [t3], by simp⟩
    obtain ⟨g2, t2', e2⟩ := ih (n + 1) b t' (by omega) (H.fr F1 (fun _ _ h => h)) hwb (by omega) u2 u3 u5
    exact ⟨g2, t2', fun K => (e K).trans (e2 K)⟩
include hp
theorem known_all (hN : ∀ h, D C 46 [str nmA] h = some (.bool true, h)) (hNu : ∀ h, D C 46 [str nmAudit] h = some (.bool true, h)) (h : AHeap) (wf : h.lo ≤ h.bs.length) : ∃ g', D C 3 [] h = some (.bool true, g') := by
  have ew := wakes_spec T TD TW hk hp
  rw [D_fn TK.h3]
  obtain ⟨t, et, t1, t2⟩ := known_a TK h wf
  have hr := known_rows (old := C.old) h
  have f0 : Fr h ⟨h.bs ++ kBlk h.bs.length, h.lo⟩ (fun _ => False) := Fr.app (l := kBlk h.bs.length)
  have hw0 := k_at (h := h) (i := 8) rfl
  have hlen : (⟨h.bs ++ kBlk h.bs.length, h.lo⟩ : AHeap).bs.length = h.bs.length + 9 := by simp [kBlk_len]
  have hlo : (⟨h.bs ++ kBlk h.bs.length, h.lo⟩ : AHeap).lo = h.lo := rfl
  generalize (⟨h.bs ++ kBlk h.bs.length, h.lo⟩ : AHeap) = a at et hr f0 hw0 hlen hlo
  rw [← hlen] at hr
  have kl : kRows.length = 8 := rfl
  obtain ⟨g, p, d, O, wr, ct, vo, e1, L, RO, fe, hO, hvo⟩ := laid_specG T TD TW hk hp a _ kRows hr 8 (by omega) (by omega) (by omega) hNu
  rw [k_laid] at L RO
  have uvo : isUnd vo = false := by obtain ⟨vs, o, _⟩ := RO; exact o.und
  have lvo : lenV vo = some (iv 8) := by obtain ⟨vs, o, _⟩ := RO; exact o.lenV
  have gl := fe.len
  have go := fe.lo
  obtain ⟨t', e2, u2, u3, u5⟩ : ∃ t', R C r3 [.code kc2] t [] a = R C r3 (.inLoop lp3_0 :: .inBlock 0 :: [.code k3_0]) t' [] g ∧ tg t' 2 = .pointer (some ⟨h.bs.length + 8, 0, some 0⟩) ∧ tg t' 3 = .pointer (some ⟨p, 0, some 0⟩) ∧ tg t' 5 = iv 0 := by
    rw [kc_e3]
    simp [b3, kc0, kc1, kc2, kc3, kc4, s1, s2, t1, t2, Dc_ok, e1, stp_ok uvo, uvo, lvo, aeq_nilPs]
    exact ⟨_, rfl, by simp [t2], by simp, by simp⟩
  obtain ⟨g2, t3, e3⟩ := known_loop T TD TW TK hk p d 16777216 wr (h.bs.length + 8) O nmAudit ct 9 0 g t' rfl L (fe.get hw0 (fun h => h)) (by omega) u2 u3 u5
  rw [et, e2, e3]
  refine ⟨g2, ?_⟩
  simp [k3_0, Dc0, ew _ hN, r3]
end Go.Ab.Aud
