/-
  Steps of the proof of AuditProvesCardSaid: what functions of the program do in the abstract machine, and the laws between; no condition beside those that each theorem names.
-/
import Derived.Test.YtecbgdnoblhldaaGreatDoorAuC
import Derived.Test.YtecbgdnoblhldaaGreatDoorLit
import Derived.Test.YtecbgdnoblhldaaGreatDoorAuB

set_option linter.unusedSimpArgs false
set_option linter.unusedVariables false
set_option linter.unusedSectionVars false

namespace Go.Ab.Aud
open Go.Sha
theorem bv_shl {s : Nat} (h : s < 8) : abin .shl (bv 1) (uv s) = some (bv (UInt8.ofNat (2 ^ s))) := by
  have : ∀ s, s < 8 → abin .shl (bv 1) (uv s) = some (bv (UInt8.ofNat (2 ^ s))) := by
    intro s hs
    have : s = 0 ∨ s = 1 ∨ s = 2 ∨ s = 3 ∨ s = 4 ∨ s = 5 ∨ s = 6 ∨ s = 7 := by omega
    rcases this with rfl | rfl | rfl | rfl | rfl | rfl | rfl | rfl <;> rfl
  exact this s h
theorem bv_xor {a b : UInt8} : abin .xor (bv a) (bv b) = some (bv (a ^^^ b)) := by
  unfold bv
  simp only [abin, abinI, if_true]
  have e1 : BitVec.ofInt IntKind.u8.bits (a.toNat : Int) = a.toBitVec := by
    show BitVec.ofInt 8 _ = _
    rw [ofInt_nat]; simp
  have e2 : BitVec.ofInt IntKind.u8.bits (b.toNat : Int) = b.toBitVec := by
    show BitVec.ofInt 8 _ = _
    rw [ofInt_nat]; simp
  rw [e1, e2]
  congr 2
  rw [wrap8u]
  have hl : (a ^^^ b).toNat < 256 := (a ^^^ b).toNat_lt
  exact Int.emod_eq_of_lt (Int.natCast_nonneg _) (Int.ofNat_lt.2 hl)
/-- a digest with one bit turned -/
def turnF (d : List UInt8) (bit : Int) : List UInt8 := d.set (wi bit 256 / 8) (d.getD (wi bit 256 / 8) 0 ^^^ UInt8.ofNat (2 ^ (wi bit 256 % 8)))
theorem turnF_len {d : List UInt8} {bit : Int} : (turnF d bit).length = d.length := by simp [turnF]
theorem turnF_ne {d : List UInt8} {bit : Int} (h : d.length = 32) : turnF d bit ≠ d := by
  have hk := wi_lt (z := bit) (n := 256) (by omega)
  unfold turnF
  generalize wi bit 256 = k at hk
  intro he
  have h1 : (d.set (k / 8) (d.getD (k / 8) 0 ^^^ UInt8.ofNat (2 ^ (k % 8))))[k / 8]? = d[k / 8]? := by rw [he]
  rw [List.getElem?_set_self (by omega), List.getD_eq_getElem?_getD, List.getElem?_eq_getElem (by omega)] at h1
  simp only [Option.getD_some, Option.some.injEq] at h1
  have h2 : UInt8.ofNat (2 ^ (k % 8)) = 0 := by
    generalize d[k / 8] = x at h1
    generalize UInt8.ofNat (2 ^ (k % 8)) = m at h1
    have : x ^^^ (x ^^^ m) = x ^^^ x := by rw [h1]
    rw [← UInt8.xor_assoc, UInt8.xor_self, UInt8.zero_xor] at this
    exact this
  have h3 : ∀ s, s < 8 → UInt8.ofNat (2 ^ s) ≠ 0 := by decide
  exact h3 _ (Nat.mod_lt _ (by omega)) h2
variable {C : Ctx} (TG : Tab_LGrow C) (TF : Tab_LFoll C)
include TG TF in
theorem turned_spec (h : AHeap) (d : List UInt8) (bit : Int) (hd : d.length = 32) : D C 73 [.agg ⟨bytesVals d⟩, zv bit] h = some (.agg ⟨bytesVals (turnF d bit)⟩, h) := by
  rw [D_fn3 TF.h73 _ (by simp [flat_bytes]; rfl)]
  have hk := wi_lt (z := bit) (n := 256) (by omega)
  have hz : Value.int .u8 0 = bv 0 := rfl
  have hone : Value.int .u8 1 = bv 1 := rfl
  generalize hh0 : ({ bs := [], lo := 0 } : AHeap) = h0
  have h0lo : h0.lo = 0 := by rw [← hh0]
  generalize hX : ABlock.cells (bytesVals d) 31 = X
  generalize hZ : ABlock.cells (List.replicate 32 (bv 0)) 31 = Z
  have hZ0 := hZ
  simp [List.replicate] at hZ
  generalize hA : (h0.push X).push Z = A
  have aL : A.bs.length = h0.bs.length + 2 := by rw [← hA]; simp
  have aO : A.lo = 0 := by rw [← hA]; exact h0lo
  have x0 : A.at h0.bs.length = some X := by rw [← hA, push_lt (by simp)]; exact push_self
  have z1 : A.at (h0.bs.length + 1) = some Z := by rw [← hA]; exact push_self' (by simp)
  have ew := within_spec TG A bit 256 (by omega) (by omega)
  have hT : turnF d bit = d.set (wi bit 256 / 8) (d.getD (wi bit 256 / 8) 0 ^^^ UInt8.ofNat (2 ^ (wi bit 256 % 8))) := rfl
  have hTl := turnF_len (d := d) (bit := bit)
  generalize turnF d bit = T at hT hTl ⊢
  generalize wi bit 256 = k at ew hk hT
  have r1 : rd1 (some X) (k / 8) 0 = some (bv (d.getD (k / 8) 0)) := by
    rw [← hX, rd1_cells, bytes_get, List.getD_eq_getElem?_getD, List.getElem?_eq_getElem (by omega)]; rfl
  generalize d.getD (k / 8) 0 = x at r1 hT
  have w1 : wr1 A h0.bs.length (some X) (k / 8) 0 (bv (x ^^^ UInt8.ofNat (2 ^ (k % 8)))) = some (A.put h0.bs.length (.cells (bytesVals T) 31)) := by
    rw [← hX, wr1_cells (by simp; omega) rfl, hT]
    congr 3
    simp [bytesVals_eq, List.map_set]
  generalize hB : A.put h0.bs.length (.cells (bytesVals T) 31) = B at w1
  have b0 : B.at h0.bs.length = some (.cells (bytesVals T) 31) := by rw [← hB]; exact put_self (by omega)
  have b1 : B.at (h0.bs.length + 1) = some Z := by rw [← hB, put_ne (by omega)]; exact z1
  have bO : B.lo = 0 := by rw [← hB]; exact aO
  have bL : B.bs.length = A.bs.length := by rw [← hB]; simp
  have w2 := wr_arr (n := 32) hZ0 (vs := bytesVals T) (by simp [hTl, hd]) bytes_ok
  have rT : rdN (some (.cells (bytesVals T) 31)) 0 0 32 = some (bytesVals T) := rd32 (by omega)
  have q : h0.bs.length + 1 < B.bs.length := by omega
  have ud : zv bit = Value.int .i64 bit := rfl
  simp [b73, hX, hz, hZ, hA, bytes_ok, stp_ok zv_und, zv_und, Dc_ok, ew, iv_quo (a := k) (b := 8) (by omega) (by omega), ixA_iv (show k / 8 < 32 by omega), x0, r1, iv_rem (a := k) (b := 8) (by omega) (by omega), cvt_iu (show k % 8 < 18446744073709551616 by omega), hone, bv_shl (show k % 8 < 8 by omega), bv_xor, write1_wr, writeN_wr, aO, w1, b0, rT, hTl, hd, bO, b1, w2, r73, resV, put_self, q, flat_bytes]
/-- one digest of a row that is owned, laid anew -/
theorem dig_set {h : AHeap} {v : Value} {l : List (List UInt8)} {x : List UInt8} {i : Nat} (H : DigO h v l) (hi : i < l.length) (hx : x.length = 32) :
    ∃ a, v = .slice (some a) l.length 0 ∧ ∃ h', writeN h (adda a (i * 32)) (bytesVals x) = some h' ∧ DigO h' v (l.set i x) ∧ Fr h h' (fun j => blkOf v = some j) := by
  obtain ⟨o, h32⟩ := H
  rcases o with ⟨_, h0, _⟩ | ⟨b, g, last, rfl, h1, h2, h3, h4, h5⟩
  · omega
  · refine ⟨_, rfl, h.put b (.grow (splice g (i * 32) (bytesVals x)) g.length 31 32), ?_, ⟨?_, ?_⟩, Fr.put rfl⟩
    · simp only [adda_mk]
      rw [writeN_wr h5, h1]
      simp only [wrN]
      rw [if_pos ⟨trivial, by simp [hx]; omega, by omega, bytes_ok⟩, Nat.zero_add]
    · have hsl : (splice g (i * 32) (bytesVals x)).length = g.length := by simp [splice, hx]; omega
      refine .inr ⟨b, splice g (i * 32) (bytesVals x), g.length, by rw [hsl, List.length_set], put_self (get_lt h1), by rw [hsl]; omega, by rw [hsl, List.length_set]; omega, ?_, h5⟩
      have e1 : leafCells (l.set i x) = leafCells (l.take i) ++ (bytesVals x ++ leafCells (l.drop (i + 1))) := by
        rw [List.set_eq_take_append_cons_drop, if_pos hi]
        simp [leafCells]
      rw [e1, ← leafCells_take h32, ← leafCells_drop h32, ← h4, List.length_set]
      unfold splice
      have hd : i * 32 + (bytesVals x).length = (i + 1) * 32 := by rw [bytes_len, hx]; omega
      have hA : (g.take (i * 32) ++ bytesVals x).length = (i + 1) * 32 := by rw [List.length_append, List.length_take, Nat.min_eq_left (by omega), hd]
      rw [hd, List.take_append, List.take_of_length_le (by omega), hA, List.take_take, Nat.min_eq_left (by omega), List.drop_take, List.append_assoc]
    · intro y hy
      rcases List.mem_or_eq_of_mem_set hy with hy | rfl
      · exact h32 y hy
      · exact hx
end Go.Ab.Aud

namespace Go.Ab.Aud
open Go.Sha
def kp0 : ACode := s2 b32
def kp1 : ACode := s2 kp0
def kp2 : ACode := s2 kp1
def kp3 : ACode := s2 kp2
def kp4 : ACode := s2 kp3
def kp5 : ACode := s2 kp4
def kp6 : ACode := s2 kp5
def kp7 : ACode := s2 kp6
def kp8 : ACode := s2 kp7
def kp9 : ACode := s2 kp8
theorem okc_zv {z : Int} : okCell (zv z) = true := nr rfl
section
variable {s : Nat} {r T : List UInt8} {fz b : Nat} {h : AHeap}
theorem hd_rd (hr : r.length = 32) : rdN (some (.cells (uv s :: bytesVals r) fz)) 0 0 33 = some (uv s :: bytesVals r) := by
  rw [rdN_cells (by simp [hr]), List.drop_zero, List.take_of_length_le (by simp [hr])]
theorem hd_r1 (hr : r.length = 32) : rdN (some (.cells (uv s :: bytesVals r) fz)) 1 0 32 = some (bytesVals r) := by
  rw [rdN_cells (by simp [hr]), List.drop_succ_cons, List.drop_zero, List.take_of_length_le (by simp [hr])]
theorem hd_0 : rd1 (some (.cells (uv s :: bytesVals r) fz)) 0 0 = some (uv s) := rfl
end
/-- where 'kept' stands -/
structure KS (C : Ctx) (g1 g : AHeap) (t : List Value) (q p : Nat) (vo vw vb : Value) (b17 b18 om hn : Nat) (xr yr : List UInt8) (bad : List (List UInt8)) : Prop where
  F : Fr g1 g (fun _ => False)
  wf : g.lo ≤ g.bs.length
  t0 : tg t 0 = .pointer (some ⟨p, 0, some 0⟩)
  t1 : tg t 1 = vo
  t8 : tg t 8 = .pointer (some ⟨q, 0, some 0⟩)
  t9 : tg t 9 = .pointer (some ⟨q + 1, 0, some 0⟩)
  t11 : tg t 11 = .pointer (some ⟨q + 2, 0, some 0⟩)
  t14 : tg t 14 = vw
  t17 : tg t 17 = .pointer (some ⟨b17, 0, some 0⟩)
  t18 : tg t 18 = .pointer (some ⟨b18, 0, some 0⟩)
  t19 : tg t 19 = vb
  a17 : g.at b17 = some (.cells (uv om :: bytesVals xr) 36)
  a18 : g.at b18 = some (.cells (uv hn :: bytesVals yr) 36)
  l17 : g1.bs.length ≤ b17
  l18 : g1.bs.length ≤ b18
  ne : b17 ≠ b18
  D : DigO g vb bad
  bb : ∀ j, blkOf vb = some j → g1.bs.length ≤ j ∧ j ≠ b17 ∧ j ≠ b18
  xl : xr.length = 32
  yl : yr.length = 32
variable {C : Ctx} (T : Tab_LLog C) (TD : Tab_LDig C) (TW : Tab_LLaw C) (TG : Tab_LGrow C) (TF : Tab_LFoll C) (hk : ∀ j, j < 64 → C.old 0 j = some (wv (kW j)))
include T TD TW TG TF hk
omit T TD TW TG TF hk in
theorem KS.mv {C : Ctx} {g1 g g' : AHeap} {t t' : List Value} {q p : Nat} {vo vw vb : Value} {b17 b18 om hn : Nat} {xr yr xr' yr' : List UInt8} {bad bad' : List (List UInt8)} (H : KS C g1 g t q p vo vw vb b17 b18 om hn xr yr bad) (f : Fr g g' (fun j => j = b17 ∨ j = b18 ∨ blkOf vb = some j))
    (a17 : g'.at b17 = some (.cells (uv om :: bytesVals xr') 36)) (a18 : g'.at b18 = some (.cells (uv hn :: bytesVals yr') 36)) (D : DigO g' vb bad') (xl : xr'.length = 32) (yl : yr'.length = 32)
    (ht : ∀ j, j = 0 ∨ j = 1 ∨ j = 8 ∨ j = 9 ∨ j = 11 ∨ j = 14 ∨ j = 17 ∨ j = 18 ∨ j = 19 → tg t' j = tg t j) : KS C g1 g' t' q p vo vw vb b17 b18 om hn xr' yr' bad' :=
  ⟨H.F.trans f (fun _ h => h) (fun j hj hl => by
      rcases hj with rfl | rfl | hj
      · have := H.l17; omega
      · have := H.l18; omega
      · have := H.bb j hj; omega), by rw [f.lo]; have := f.len; have := H.wf; omega, (ht 0 (by omega)).trans H.t0, (ht 1 (by omega)).trans H.t1, (ht 8 (by omega)).trans H.t8, (ht 9 (by omega)).trans H.t9, (ht 11 (by omega)).trans H.t11, (ht 14 (by omega)).trans H.t14, (ht 17 (by omega)).trans H.t17, (ht 18 (by omega)).trans H.t18, (ht 19 (by omega)).trans H.t19, a17, a18, H.l17, H.l18, H.ne, D, H.bb, xl, yl⟩
end Go.Ab.Aud

namespace Go.Ab.Aud
open Go.Sha
variable {C : Ctx} (T : Tab_LLog C) (TD : Tab_LDig C) (TW : Tab_LLaw C) (TG : Tab_LGrow C) (TF : Tab_LFoll C) (hk : ∀ j, j < 64 → C.old 0 j = some (wv (kW j)))
include T TD TW TG TF hk
end Go.Ab.Aud

namespace Go.Ab.Aud
open Go.Sha
variable {C : Ctx} (T : Tab_LLog C) (TD : Tab_LDig C) (TW : Tab_LLaw C) (TG : Tab_LGrow C) (TF : Tab_LFoll C) (hk : ∀ j, j < 64 → C.old 0 j = some (wv (kW j)))
/-- the digests of a proof -/
def prfF (leaves : List (List UInt8)) (om hn : Nat) : List (List UInt8) := if om = 0 then [] else proofF hn (leaves.take hn) om true
include T TD TW TG TF hk
end Go.Ab.Aud

namespace Go.Ab.Aud
open Go.Sha
def pk0 : ACode := s2 b36
def pk1 : ACode := s2 pk0
def pk2 : ACode := s2 pk1
def pk3 : ACode := s2 pk2
def pk4 : ACode := s2 pk3
def pk5 : ACode := s2 pk4
def pk6 : ACode := s2 pk5
def pk7 : ACode := s2 pk6
def pk8 : ACode := s2 pk7
def pk9 : ACode := s2 pk8
def pk10 : ACode := s2 pk9
def pk11 : ACode := s2 pk10
def pk12 : ACode := s2 pk11
def pk13 : ACode := s2 pk12
def pk14 : ACode := s2 pk13
def pk15 : ACode := s2 pk14
def pk16 : ACode := s2 pk15
def pk17 : ACode := s2 pk16
theorem pk_a : b36 = .seq (s1 b36) (.seq (s1 pk0) (.seq (s1 pk1) pk2)) := rfl
theorem pk_b : pk2 = .seq (s1 pk2) pk3 := rfl
theorem pk_c : pk3 = .seq (s1 pk3) (.seq (s1 pk4) pk5) := rfl
theorem pk_e : pk5 = .seq (s1 pk5) (.seq (s1 pk6) pk7) := rfl
theorem pk_g : pk7 = .seq (s1 pk7) (.seq (s1 pk8) pk9) := rfl
theorem pk_h : pk9 = .seq (s1 pk9) pk10 := rfl
theorem pk_i : pk10 = .seq (s1 pk10) pk11 := rfl
theorem pk_j : pk11 = .seq (s1 pk11) (.seq (s1 pk12) pk13) := rfl
theorem pk_l : pk13 = .seq (s1 pk13) (.seq (s1 pk14) pk15) := rfl
/-- what stands behind the prologue of 'shown' -/
structure PS (C : Ctx) (g : AHeap) (t : List Value) (b7 b9 b13 p s n : Nat) (root leaf : List UInt8) (vo v : Value) (E : List Value) (ps : List (List UInt8)) : Prop where
  t0 : tg t 0 = .pointer (some ⟨p, 0, some 0⟩)
  t1 : tg t 1 = vo
  t3 : tg t 3 = uv n
  t7 : tg t 7 = .pointer (some ⟨b7, 0, some 0⟩)
  t9 : tg t 9 = .pointer (some ⟨b9, 0, some 0⟩)
  t11 : tg t 11 = v
  t12 : tg t 12 = iv 0
  t13 : tg t 13 = .pointer (some ⟨b13, 0, some 0⟩)
  a7 : g.at b7 = some (.cells (uv s :: bytesVals root) 36)
  a9 : g.at b9 = some (.cells E 65)
  a13 : g.at b13 = some (.cells (bytesVals leaf) 31)
  D : DigV C.old g v ps
  wf : g.lo ≤ g.bs.length
theorem PS.mv {C : Ctx} {g g' : AHeap} {t t' : List Value} {b7 b9 b13 p s n : Nat} {root leaf : List UInt8} {vo v : Value} {E : List Value} {ps : List (List UInt8)} (H : PS C g t b7 b9 b13 p s n root leaf vo v E ps) (f : Fr g g' (fun _ => False)) (ht : ∀ j, j ≤ 13 → tg t' j = tg t j) :
    PS C g' t' b7 b9 b13 p s n root leaf vo v E ps where
  t0 := by rw [ht 0 (by omega)]; exact H.t0
  t1 := by rw [ht 1 (by omega)]; exact H.t1
  t3 := by rw [ht 3 (by omega)]; exact H.t3
  t7 := by rw [ht 7 (by omega)]; exact H.t7
  t9 := by rw [ht 9 (by omega)]; exact H.t9
  t11 := by rw [ht 11 (by omega)]; exact H.t11
  t12 := by rw [ht 12 (by omega)]; exact H.t12
  t13 := by rw [ht 13 (by omega)]; exact H.t13
  a7 := f.get H.a7 (fun h => h)
  a9 := f.get H.a9 (fun h => h)
  a13 := f.get H.a13 (fun h => h)
  D := H.D.fr f
  wf := by have := f.len; have := f.lo; have := H.wf; omega
theorem dig_rd {l : List UInt8} {fz : Nat} (h : l.length = 32) : rdN (some (.cells (bytesVals l) fz)) 0 0 32 = some (bytesVals l) := by
  rw [rdN_cells (by simp [h]), List.drop_zero, List.take_of_length_le (by simp [h])]
variable {C : Ctx} (T : Tab_LLog C) (TD : Tab_LDig C) (TW : Tab_LLaw C) (TP : Tab_LProv C) (hk : ∀ j, j < 64 → C.old 0 j = some (wv (kW j)))
include T TD TW TP hk
set_option maxHeartbeats 4000000 in
theorem sh_a (h : AHeap) (wf : h.lo ≤ h.bs.length) (p d room wr : Nat) (O : Nat → Prop) (name ct : List UInt8) (rows : List (List UInt8)) (vo : Value) (L : LogAt h O p d name ct (rows.map lh) room wr) (RO : RowsO C.old h vo rows) (big : ∀ r, r ∈ rows → r.length ≤ 16384) (rl : rows.length ≤ 64) (s n : Nat) (hn : n < s) (hs : s ≤ rows.length)
    (root : List UInt8) (hr : root = rootL ((rows.map lh).take s)) (E : List Value) (hE : E.all okCell = true) :
    ∃ g t v, R C r36 [.code b36] [.pointer (some ⟨p, 0, some 0⟩), vo, .agg ⟨uv s :: bytesVals root⟩, uv n, .agg ⟨E⟩] [] h = R C r36 [.code pk2] t [] g ∧ PS C g t h.bs.length (h.bs.length + 1) (g.bs.length - 1) p s n root (lh (rows.getD n [])) vo v E (pathF s ((rows.map lh).take s) n) ∧ Fr h g (fun _ => False) := by
  have hml : (rows.map lh).length = rows.length := by simp
  have h32 : ∀ y, y ∈ rows.map lh → y.length = 32 := fun y hy => by
    obtain ⟨z, _, hz⟩ := List.mem_map.1 hy
    rw [← hz]; exact sha_length _
  have r32 : root.length = 32 := by rw [hr]; exact rootL_length _ (mem_take32 h32 s)
  have f1 : Fr h ((h.push (.cells (uv s :: bytesVals root) 36)).push (.cells E 65)) (fun _ => False) := Fr.push.push'
  have a7 : ((h.push (.cells (uv s :: bytesVals root) 36)).push (.cells E 65)).at h.bs.length = some (.cells (uv s :: bytesVals root) 36) := push_old push_self
  have a9 : ((h.push (.cells (uv s :: bytesVals root) 36)).push (.cells E 65)).at (h.bs.length + 1) = some (.cells E 65) := push_self' (by simp)
  have l1 : ((h.push (.cells (uv s :: bytesVals root) 36)).push (.cells E 65)).bs.length = h.bs.length + 2 := by simp
  have hok : ∀ x, x ∈ bytesVals root → okCell x = true := List.all_eq_true.1 bytes_ok
  have hokE : ∀ x, x ∈ E → okCell x = true := List.all_eq_true.1 hE
  generalize hh1 : (h.push (.cells (uv s :: bytesVals root) 36)).push (.cells E 65) = h1 at *
  have o1 := f1.lo
  obtain ⟨h2, v, e2, P2, f2, b2⟩ := prove_spec T TD hk h1 O p d room wr name ct (rows.map lh) (L.fr f1 fun _ _ h => h) n s hn (by omega) (by omega) (by omega)
  have l2 := f2.len
  have o2 := f2.lo
  have a7' := f2.get a7 (fun h => h)
  have a9' := f2.get a9 (fun h => h)
  have RO2 := (RO.fr f1 fun _ _ h => h).fr f2 fun _ _ h => h
  obtain ⟨va, ra, rcp, hvo, rr, rs⟩ := RO2.get (i := n) (by omega)
  have hrow : (rows.getD n []).length ≤ 16384 := by
    rw [List.getD_eq_getElem?_getD, List.getElem?_eq_getElem (by omega)]
    exact big _ (List.getElem_mem _)
  generalize hrw : rows.getD n [] = row at *
  obtain ⟨h3, cv, e3, o3, f3, b3⟩ := copy_spec TW h2 row ra row.length rcp (rs h2) (by omega) (by omega)
  have l3 := f3.len
  have lo3 := f3.lo
  obtain ⟨ca, ccp, hcv, cs⟩ := own_sl (old := C.old) o3
  have e4 := leaf_spec TD hk h3 row ca row.length ccp cs (by omega)
  rw [← hcv, show sha (0 :: row) = lh row from rfl] at e4
  have hl32 : (lh row).length = 32 := sha_length _
  have hz : Value.int .u8 0 = bv 0 := rfl
  generalize hZ : ABlock.cells (List.replicate 32 (bv 0)) 31 = Z
  have hZ0 := hZ
  simp [List.replicate] at hZ
  have z1 : (h3.push Z).at h3.bs.length = some Z := push_self
  have w1 := wr_arr hZ0 (vs := bytesVals (lh row)) (by simp [hl32]) bytes_ok (h3.push Z) h3.bs.length
  have f4 : Fr h3 ((h3.push Z).put h3.bs.length (.cells (bytesVals (lh row)) 31)) (fun _ => False) := Fr.push.put' (.inr (Nat.le_refl _))
  have a13 : ((h3.push Z).put h3.bs.length (.cells (bytesVals (lh row)) 31)).at h3.bs.length = some (.cells (bytesVals (lh row)) 31) := put_self (by simp)
  have l4 : ((h3.push Z).put h3.bs.length (.cells (bytesVals (lh row)) 31)).bs.length = h3.bs.length + 1 := by simp
  generalize hh4 : (h3.push Z).put h3.bs.length (.cells (bytesVals (lh row)) 31) = h4 at *
  have lo4 := f4.lo
  have F14 : Fr h1 h4 (fun _ => False) := (f2.trans f3 (fun _ h => h) (fun _ h _ => h)).trans f4 (fun _ h => h) (fun _ h _ => h)
  have up := P2.1.und
  have uc := o3.und
  have uvo : isUnd vo = false := by rw [hvo]; rfl
  have hnl : n < rows.length := by omega
  obtain ⟨t, e, x⟩ : ∃ t, R C r36 [.code b36] [.pointer (some ⟨p, 0, some 0⟩), vo, .agg ⟨uv s :: bytesVals root⟩, uv n, .agg ⟨E⟩] [] h = R C r36 [.code pk2] t [] h4 ∧
      (tg t 0 = .pointer (some ⟨p, 0, some 0⟩) ∧ tg t 1 = vo ∧ tg t 3 = uv n ∧ tg t 7 = .pointer (some ⟨h.bs.length, 0, some 0⟩) ∧ tg t 9 = .pointer (some ⟨h.bs.length + 1, 0, some 0⟩) ∧ tg t 11 = v ∧ tg t 12 = iv 0 ∧ tg t 13 = .pointer (some ⟨h3.bs.length, 0, some 0⟩)) := by
    rw [pk_a]
    rw [hvo]
    simp [b36, pk0, pk1, s1, s2, eq_true hok, eq_true hokE, hh1, a7, hd_0, Dc_ok, e2, stp_ok up, up, ixS_uv hnl, rr, e3, stp_ok uc, uc, e4, hz, hZ, hl32, writeN_wr, lo3, o2, o1, show h.lo ≤ h3.bs.length by omega, z1, w1, hh4]
    exact ⟨_, rfl, by simp, by simp, by simp, by simp, by simp, by simp, by simp, by simp⟩
  obtain ⟨x0, x1, x3, x7, x9, x11, x12, x13⟩ := x
  refine ⟨h4, t, v, e, ⟨x0, x1, x3, x7, x9, x11, x12, ?_, F14.get a7 (fun h => h), F14.get a9 (fun h => h), ?_, ?_, by omega⟩, f1.trans F14 (fun _ h => h) (fun _ h _ => h)⟩
  · rw [x13, l4]; rfl
  · rw [l4]; exact a13
  · have P4 : DigO h4 v (pathF s ((rows.map lh).take s) n) := (P2.fr f3 fun _ _ h => h).fr f4 fun _ _ h => h
    exact P4.digR
end Go.Ab.Aud

namespace Go.Ab.Aud
open Go.Sha
variable {C : Ctx} (T : Tab_LLog C) (TD : Tab_LDig C) (TW : Tab_LLaw C) (TP : Tab_LProv C) (TG : Tab_LGrow C) (TF : Tab_LFoll C) (hk : ∀ j, j < 64 → C.old 0 j = some (wv (kW j)))
include T TD TW TP hk
section
variable {g : AHeap} {t : List Value} {b7 b9 b13 p s n : Nat} {root leaf : List UInt8} {vo v : Value} {E : List Value} {ps l : List (List UInt8)} (H : PS C g t b7 b9 b13 p s n root leaf vo v E ps) (S : Sh l s n root leaf ps) (r32 : root.length = 32) (p64 : ps.length ≤ 64) (s64 : s ≤ 64)
include H S r32 p64 s64
theorem sh_b : ∃ t', R C r36 [.code pk2] t [] g = R C r36 [.code pk3] t' [] g ∧ ∀ j, j ≤ 13 → tg t' j = tg t j := by
  have l32 := S.leaf32
  have hn := S.hn
  obtain ⟨a, cp, hv, D⟩ := H.D
  have ei := incl_spec T TD hk g s n root leaf ps r32 l32 (by omega) (by omega) a cp D
  rw [S.incl, ← hv] at ei
  have uv' : isUnd v = false := by rw [hv]; rfl
  have p7 := hd_rd (s := s) (fz := 36) r32
  have p13 := dig_rd (fz := 31) l32
  rw [pk_b]
  simp [b36, pk0, pk1, pk2, s1, s2, H.t3, H.t7, H.t11, H.t12, H.t13, Dc_ok, num_spec TW, H.a7, H.a13, p7, p13, stp_ok uv', uv', ei]
  refine ⟨_, rfl, fun j hj => ?_⟩
  simp only [tg_ts]
  repeat rw [if_neg (by omega)]
set_option maxHeartbeats 4000000 in
/-- with one more, with one less -/
theorem sh_c : ∃ g' t', R C r36 [.code pk3] t [] g = R C r36 [.code pk5] t' [] g' ∧ Fr g g' (fun _ => False) ∧ ∀ j, j ≤ 13 → tg t' j = tg t j := by
  have l32 := S.leaf32
  have hn := S.hn
  have hz : Value.int .u8 0 = bv 0 := rfl
  have hone : Value.int .u8 1 = bv 1 := rfl
  have wf := H.wf
  obtain ⟨v', g1, e1, D1, f1, b1⟩ := dig_copy H.D (by omega) wf
  have l1 := f1.len
  have o1 := f1.lo
  generalize hx : (1 :: List.replicate 31 0 : List UInt8) = x
  have hxl : x.length = 32 := by rw [← hx]; rfl
  have hxb : bytesVals x = bv 1 :: List.replicate 31 (bv 0) := by rw [← hx]; simp [bytesVals_eq]
  have hxb2 := hxb
  simp [List.replicate] at hxb2
  obtain ⟨v2, g2, e2, D2, f2, b2⟩ := dig_append (old := C.old) D1 hxl (by omega) (by omega)
  have F2 : Fr g g2 (fun _ => False) := f1.trans f2 (fun _ h => h) (fun j hj hl => by have := b1 j hj; omega)
  have k7 := F2.get H.a7 (fun h => h)
  have k13 := F2.get H.a13 (fun h => h)
  have p7 := hd_rd (s := s) (fz := 36) r32
  have p13 := dig_rd (fz := 31) l32
  have uV := H.D.und
  have lV := H.D.lenV
  have u1 := D1.1.und
  have u2 := D2.1.und
  obtain ⟨x2, y2, hv2, d2⟩ := D2.digR (old := C.old)
  have ef := incl_spec T TD hk g2 s n root leaf _ r32 l32 (by omega) (by omega) x2 y2 d2
  rw [← hv2, S.wrong (by rw [List.length_append]; simp)] at ef
  have W2 := H.D.fr F2
  obtain ⟨va, vcp, hv, dR⟩ := W2
  have zs : splice (List.replicate 32 (bv 0)) 0 [bv 1] = bytesVals x := by rw [hxb]; rfl
  have zs2 : splice (List.replicate 32 (bv 0)) 0 (bytesVals x) = bytesVals x := by simp [splice, hxl]
  simp [List.replicate] at zs zs2
  refine ⟨g2, ?_⟩
  have hxok : ∀ y, y ∈ bytesVals x → okCell y = true := List.all_eq_true.1 bytes_ok
  by_cases h0 : ps.length = 0
  · rw [h0] at lV
    obtain ⟨t', e, ht⟩ : ∃ t', R C r36 [.code pk3] t [] g = R C r36 [.code pk5] t' [] g2 ∧ (∀ j, j ≤ 13 → tg t' j = tg t j) := by
      rw [pk_c]
      simp [b36, pk0, pk1, pk2, pk3, pk4, s1, s2, H.t3, H.t7, H.t11, H.t13, fillCells, stp_ok uV, uV, e1, stp_ok u1, hz, hone, zs, hxl, zs2, eq_true hxok, e2, stp_ok u2, k7, k13, p7, p13, u2, Dc_ok, ef, num_spec TW, lV]
      refine ⟨_, rfl, fun j hj => ?_⟩
      simp only [tg_ts]
      repeat rw [if_neg (by omega)]
    exact ⟨t', e, F2, ht⟩
  · obtain ⟨a', c', sl, d', lv⟩ := dR.lower (ps.length - 1) (by omega)
    have el := incl_spec T TD hk g2 s n root leaf _ r32 l32 (by omega) (by omega) a' c' d'
    have hl' : (ps.take (ps.length - 1)).length = ps.length - 1 := by simp
    rw [hl', S.wrong (by rw [hl']; omega)] at el
    have hp : 0 < ps.length := by omega
    have t11 := H.t11
    rw [hv] at uV lV t11
    obtain ⟨t', e, ht⟩ : ∃ t', R C r36 [.code pk3] t [] g = R C r36 [.code pk5] t' [] g2 ∧ (∀ j, j ≤ 13 → tg t' j = tg t j) := by
      rw [pk_c]
      rw [hv] at e1
      simp [b36, pk0, pk1, pk2, pk3, pk4, s1, s2, H.t3, H.t7, t11, H.t13, hv, fillCells, stp_ok uV, uV, e1, stp_ok u1, hz, hone, zs, hxl, zs2, eq_true hxok, e2, stp_ok u2, k7, k13, p7, p13, u2, Dc_ok, ef, num_spec TW, lV, hp, iv_sub (a := ps.length) (b := 1) (by omega) (by omega), sl, el]
      refine ⟨_, rfl, fun j hj => ?_⟩
      simp only [tg_ts]
      repeat rw [if_neg (by omega)]
    exact ⟨t', e, F2, ht⟩
/-- the way up -/
theorem sh_e : ∃ g' t' vw, R C r36 [.code pk5] t [] g = R C r36 [.code pk7] t' [] g' ∧ Fr g g' (fun _ => False) ∧ (∀ j, j ≤ 13 → tg t' j = tg t j) ∧ tg t' 15 = vw ∧ Pairs C.old g' g.bs.length vw (climbF 64 n s leaf ps).1 ∧ isUnd vw = false := by
  have l32 := S.leaf32
  have hn := S.hn
  have wf := H.wf
  obtain ⟨a, cp, hv, D⟩ := H.D
  obtain ⟨g1, vw, e1, P1, f1, uw⟩ := climb_spec T TD TW hk 64 n s leaf ps p64 (by omega) (by omega) (by omega) l32 g a cp D wf
  rw [S.top 64 p64, ← hv] at e1
  have l1 := f1.len
  have o1 := f1.lo
  have uv' : isUnd v = false := by rw [hv]; rfl
  have p7 := hd_0 (s := s) (r := root) (fz := 36)
  have p7r := hd_r1 (s := s) (fz := 36) r32
  have p13 := dig_rd (fz := 31) l32
  have hz : Value.int .u8 0 = bv 0 := rfl
  generalize hZ : ABlock.cells (List.replicate 32 (bv 0)) 31 = Z
  have hZ0 := hZ
  simp [List.replicate] at hZ
  have z1 : (g1.push Z).at g1.bs.length = some Z := push_self
  have w1 := wr_arr hZ0 (vs := bytesVals root) (by simp [r32]) bytes_ok (g1.push Z) g1.bs.length
  have f2 : Fr g1 ((g1.push Z).put g1.bs.length (.cells (bytesVals root) 31)) (fun _ => False) := Fr.push.put' (.inr (Nat.le_refl _))
  have a16 : ((g1.push Z).put g1.bs.length (.cells (bytesVals root) 31)).at g1.bs.length = some (.cells (bytesVals root) 31) := put_self (by simp)
  generalize hg2 : (g1.push Z).put g1.bs.length (.cells (bytesVals root) 31) = g2 at *
  have F2 : Fr g g2 (fun _ => False) := f1.trans f2 (fun _ h => h) (fun _ h _ => h)
  have k7 := F2.get H.a7 (fun h => h)
  have pr := dig_rd (l := root) (fz := 31) r32
  have eqr := aeq_dig (x := root) (y := root) r32 r32
  simp [List.replicate] at eqr
  obtain ⟨t', e, ht, h15⟩ : ∃ t', R C r36 [.code pk5] t [] g = R C r36 [.code pk7] t' [] g2 ∧ (∀ j, j ≤ 13 → tg t' j = tg t j) ∧ tg t' 15 = vw := by
    rw [pk_e]
    simp [b36, pk0, pk1, pk2, pk3, pk4, pk5, pk6, s1, s2, H.t3, H.t7, H.t11, H.t13, H.a7, H.a13, p7, p13, stp_ok uv', uv', Dc_ok, e1, hz, hZ, stp_ok uw, r32, writeN_wr, o1, show g.lo ≤ g1.bs.length by omega, z1, w1, hg2, a16, pr, k7, p7r, eqr]
    refine ⟨_, rfl, fun j hj => ?_, by simp⟩
    simp only [tg_ts]
    repeat rw [if_neg (by omega)]
  exact ⟨g2, t', vw, e, F2, ht, h15, P1.fr f2 (fun _ _ _ h => h), uw⟩
end
end Go.Ab.Aud

namespace Go.Ab.Aud
open Go.Sha
variable {C : Ctx} (T : Tab_LLog C) (TD : Tab_LDig C) (TW : Tab_LLaw C) (TP : Tab_LProv C) (TG : Tab_LGrow C) (TF : Tab_LFoll C) (hk : ∀ j, j < 64 → C.old 0 j = some (wv (kW j)))
include T TD TW TP hk
section
variable {g0 : AHeap} {t0 : List Value} {b7 b9 b13 p s n : Nat} {root leaf : List UInt8} {vo v : Value} {rv szv atv oth : Value} {bit : Int} {ps l : List (List UInt8)} (H0 : PS C g0 t0 b7 b9 b13 p s n root leaf vo v [rv, szv, atv, oth, zv bit] ps) (S : Sh l s n root leaf ps) (r32 : root.length = 32) (p64 : ps.length ≤ 64) (s64 : s ≤ 64)
include H0 S r32 p64 s64
set_option maxHeartbeats 1000000 in
/-- copies to be spoilt -/
theorem sh_g : ∃ g' t' vb b18, R C r36 [.code pk7] t0 [] g0 = R C r36 [.code pk9] t' [] g' ∧ Fr g0 g' (fun _ => False) ∧ (∀ j, j ≤ 13 ∨ j = 15 → tg t' j = tg t0 j) ∧ tg t' 17 = vb ∧ tg t' 18 = .pointer (some ⟨b18, 0, some 0⟩) ∧
    DigO g' vb ps ∧ (∀ j, blkOf vb = some j → g0.bs.length ≤ j ∧ j ≠ b18) ∧ g0.bs.length ≤ b18 ∧ g'.at b18 = some (.cells (bytesVals leaf) 31) := by
  have l32 := S.leaf32
  have wf := H0.wf
  obtain ⟨vb, g1, e1, D1, f1, b1⟩ := dig_copy H0.D (by omega) wf
  have l1 := f1.len
  have o1 := f1.lo
  have uV := H0.D.und
  have u1 := D1.1.und
  have k13 := f1.get H0.a13 (fun h => h)
  have p13 := dig_rd (fz := 31) l32
  have hz : Value.int .u8 0 = bv 0 := rfl
  generalize hZ : ABlock.cells (List.replicate 32 (bv 0)) 31 = Z
  have hZ0 := hZ
  simp [List.replicate] at hZ
  have z1 : (g1.push Z).at g1.bs.length = some Z := push_self
  have w1 := wr_arr hZ0 (vs := bytesVals leaf) (by simp [l32]) bytes_ok (g1.push Z) g1.bs.length
  have f2 : Fr g1 ((g1.push Z).put g1.bs.length (.cells (bytesVals leaf) 31)) (fun _ => False) := Fr.push.put' (.inr (Nat.le_refl _))
  have a18 : ((g1.push Z).put g1.bs.length (.cells (bytesVals leaf) 31)).at g1.bs.length = some (.cells (bytesVals leaf) 31) := put_self (by simp)
  generalize hg2 : (g1.push Z).put g1.bs.length (.cells (bytesVals leaf) 31) = g2 at *
  obtain ⟨t', e, ht, h17, h18⟩ : ∃ t', R C r36 [.code pk7] t0 [] g0 = R C r36 [.code pk9] t' [] g2 ∧ (∀ j, j ≤ 13 ∨ j = 15 → tg t' j = tg t0 j) ∧ tg t' 17 = vb ∧ tg t' 18 = .pointer (some ⟨g1.bs.length, 0, some 0⟩) := by
    rw [pk_g]
    simp [-forall_eq_or_imp, -forall_eq, b36, pk0, pk1, pk2, pk3, pk4, pk5, pk6, pk7, pk8, s1, s2, H0.t11, H0.t13, fillCells, stp_ok uV, uV, e1, stp_ok u1, k13, p13, hz, hZ, l32, writeN_wr, o1, show g0.lo ≤ g1.bs.length by omega, z1, w1, hg2]
    refine ⟨_, rfl, fun j hj => ?_, by simp, by simp⟩
    simp only [tg_ts]
    repeat rw [if_neg (by omega)]
  exact ⟨g2, t', vb, _, e, f1.trans f2 (fun _ h => h) (fun _ h _ => h), ht, h17, h18, D1.fr f2 (fun _ _ h => h), fun j hj => ⟨b1 j hj, by have := D1.1.blk hj; omega⟩, l1, a18⟩
include TG TF
set_option maxHeartbeats 4000000 in
/-- a bit is turned -/
theorem sh_h {g : AHeap} {t : List Value} (F : Fr g0 g (fun _ => False)) (ht0 : ∀ j, j ≤ 13 ∨ j = 15 → tg t j = tg t0 j) (vb : Value) (b18 : Nat) (t17 : tg t 17 = vb) (t18 : tg t 18 = .pointer (some ⟨b18, 0, some 0⟩)) (D : DigO g vb ps) (hb : ∀ j, blkOf vb = some j → g0.bs.length ≤ j ∧ j ≠ b18) (h18 : g0.bs.length ≤ b18) (a18 : g.at b18 = some (.cells (bytesVals leaf) 31)) :
    ∃ g' t' other bad, R C r36 [.code pk9] t [] g = R C r36 [.code pk10] t' [] g' ∧ Fr g0 g' (fun _ => False) ∧ (∀ j, j ≤ 13 ∨ j = 15 ∨ j = 17 ∨ j = 18 → tg t' j = tg t j) ∧ DigO g' vb bad ∧ g'.at b18 = some (.cells (bytesVals other) 31) ∧ other.length = 32 ∧ bad.length = ps.length ∧ ¬ (other = leaf ∧ bad = ps) := by
  have H := H0.mv F (fun j hj => ht0 j (.inl hj))
  have l32 := S.leaf32
  have zd := zv_und (z := bit)
  have ez : rd1 (some (.cells [rv, szv, atv, oth, zv bit] 65)) 4 0 = some (zv bit) := rfl
  have E := H.a9
  have gl := F.len
  have go := F.lo
  have wf := H.wf
  have p13 := dig_rd (fz := 31) l32
  have c18 : g.lo ≤ b18 := by have := H0.wf; omega
  have ub := D.1.und
  have lb := D.1.lenV
  have er : abin .rem (zv bit) (iv 2) = some (zv (bit.tmod 2)) := zv_rem (by omega)
  have eq0 := zv_eql (a := bit.tmod 2) (b := 0)
  by_cases hc : 0 < ps.length ∧ bit.tmod 2 = 0
  · obtain ⟨hpl, hb2⟩ := hc
    have ek := within_spec TG g bit ps.length (by omega) (by omega)
    have hk' := wi_lt (z := bit) (n := ps.length) (by omega)
    generalize wi bit ps.length = k at ek hk'
    have h32 := get32 D.2 hk'
    obtain ⟨a, cp, hv, dR⟩ := D.digR (old := C.old)
    obtain ⟨a', ha, rd⟩ := dR.get hk'
    have tb := turned_spec TG TF g (ps.getD k []) bit h32
    have tnb := turnF_ne (bit := bit) h32
    have tlb := turnF_len (d := ps.getD k []) (bit := bit)
    generalize hbk : ps.getD k [] = bk at *
    obtain ⟨a2, hv2, g', ew2, D', F'⟩ := dig_set (x := turnF bk bit) D hk' (by omega)
    have hvv : vb = .slice (some a2) ps.length 0 := hv2
    have ha2 : a' = a2 := by rw [hv, ha] at hv2; injection hv2 with h; injection h
    subst ha2
    have zu : isUnd (zv bit) = false := rfl
    obtain ⟨t', e, ht⟩ : ∃ t', R C r36 [.code pk9] t [] g = R C r36 [.code pk10] t' [] g' ∧ (∀ j, j ≤ 13 ∨ j = 15 ∨ j = 17 ∨ j = 18 → tg t' j = tg t j) := by
      rw [pk_h]
      rw [hvv] at t17 ub lb
      rw [hb2] at er
      have z0 : abin .eql (zv 0) (iv 0) = some (.bool true) := by rw [zv_eql]; rfl
      simp [-forall_eq_or_imp, -forall_eq, b36, pk0, pk1, pk2, pk3, pk4, pk5, pk6, pk7, pk8, pk9, s1, s2, t17, lb, hpl, H.t9, E, ez, stp_ok zd, zd, er, stp_ok (zv_und (z := 0)), z0, Dc_ok, ek, ixS_iv hk', rd, h32, tb, tlb, ew2]
      refine ⟨_, rfl, fun j hj => ?_⟩
      simp only [tg_ts]
      repeat rw [if_neg (by omega)]
    refine ⟨g', t', leaf, ps.set k (turnF bk bit), e, F.trans F' (fun _ h => h) (fun j hj hl => by have := (hb j hj).1; omega), ht, D', F'.get a18 (fun hc => (hb _ hc).2 rfl), l32, by simp, fun hc => tnb ?_⟩
    have : (ps.set k (turnF bk bit)).getD k [] = ps.getD k [] := by rw [hc.2]
    rw [hbk] at this
    simpa [List.getD_eq_getElem?_getD, hk'] using this
  · have tx := turned_spec TG TF g leaf bit l32
    have tnx := turnF_ne (bit := bit) l32
    have tlx := turnF_len (d := leaf) (bit := bit)
    have hTl : (turnF leaf bit).length = 32 := by omega
    have p18 := get_lt a18
    have w : wrN g b18 (some (.cells (bytesVals leaf) 31)) 0 0 (bytesVals (turnF leaf bit)) = some (g.put b18 (.cells (bytesVals (turnF leaf bit)) 31)) := by
      rw [wrN_cells (by simp [hTl, l32]) bytes_ok]
      congr 3
      simp [splice, hTl, l32]
    have F' : Fr g (g.put b18 (.cells (bytesVals (turnF leaf bit)) 31)) (fun j => j = b18) := Fr.put rfl
    obtain ⟨t', e, ht⟩ : ∃ t', R C r36 [.code pk9] t [] g = R C r36 [.code pk10] t' [] (g.put b18 (.cells (bytesVals (turnF leaf bit)) 31)) ∧ (∀ j, j ≤ 13 ∨ j = 15 ∨ j = 17 ∨ j = 18 → tg t' j = tg t j) := by
      rw [pk_h]
      by_cases hpl : 0 < ps.length
      · have hb2 : ¬ bit.tmod 2 = 0 := fun h => hc ⟨hpl, h⟩
        have z0 : abin .eql (zv (bit.tmod 2)) (iv 0) = some (.bool false) := by rw [zv_eql]; simpa using hb2
        simp [-forall_eq_or_imp, -forall_eq, b36, pk0, pk1, pk2, pk3, pk4, pk5, pk6, pk7, pk8, pk9, s1, s2, t17, t18, stp_ok ub, ub, lb, hpl, H.t9, E, ez, stp_ok zd, zd, er, stp_ok (zv_und (z := bit.tmod 2)), z0, H.t13, H.a13, p13, Dc_ok, tx, writeN_wr, c18, a18, l32, hTl, w]
        refine ⟨_, rfl, fun j hj => ?_⟩
        simp only [tg_ts]
        repeat rw [if_neg (by omega)]
      · have hpl0 : ps.length = 0 := by omega
        rw [hpl0] at lb
        simp [-forall_eq_or_imp, -forall_eq, b36, pk0, pk1, pk2, pk3, pk4, pk5, pk6, pk7, pk8, pk9, s1, s2, t17, t18, stp_ok ub, ub, lb, H.t9, E, ez, stp_ok zd, zd, H.t13, H.a13, p13, Dc_ok, tx, writeN_wr, c18, a18, l32, hTl, w]
        refine ⟨_, rfl, fun j hj => ?_⟩
        simp only [tg_ts]
        repeat rw [if_neg (by omega)]
    exact ⟨_, t', turnF leaf bit, ps, e, F.trans F' (fun _ h => h) (fun j hj hl => by omega), ht, D.fr F' (fun j hj hc => (hb j hj).2 hc), put_self p18, hTl, rfl, fun hc => tnx hc.1⟩
end
end Go.Ab.Aud

namespace Go.Ab.Aud
open Go.Sha
/-- pairs behind pairs -/
theorem pairs_join {old : Old} {hX h : AHeap} {q1 q2 : Nat} {v w : Value} {l1 l2 : List (List UInt8 × List UInt8)} (H1 : Pairs old h q1 v l1) (P2 : Pairs old hX q2 w l2) (F : Fr hX h (fun _ => False)) (hx : hX.bs.length ≤ q1) (hq : q2 ≤ q1) (hq1 : q1 ≤ h.bs.length) (hlo : h.lo ≤ h.bs.length) (hb : l1.length + l2.length < 2 ^ 20) :
    ∃ v' h', appendV old h 158 33 56 v w = some (v', h') ∧ Pairs old h' q2 v' (l1 ++ l2) ∧ Fr h h' (fun j => blkOf v = some j) ∧ (blkOf v' = blkOf v ∨ blkOf v' = some h.bs.length) := by
  obtain ⟨L2, eL2, oL2, bL2, pL2⟩ := P2
  have hLv : ∀ y, y ∈ L2 → ∀ j, Live y.1 j → q2 ≤ j ∧ j < hX.bs.length := fun y hy j hj => by
    obtain ⟨ay, cy, h1, h2, h3, h4⟩ := pL2 y hy
    exact ⟨(h4 j hj).1, h2.live_lt (by rw [← h1]; exact hj)⟩
  have oL3 := oL2.fr F (fun _ _ h => h)
  have pL3 : ∀ y, y ∈ L2 → POk old h q2 w y := fun y hy => (pL2 y hy).fr F (fun _ _ h => h)
  obtain ⟨ax, cpx, hxx⟩ := oL3.slice
  have sx := oL3.sl (old := old) (by omega)
  have vge : ∀ j, blkOf v = some j → q1 ≤ j := by obtain ⟨L, _, _, b, _⟩ := H1; exact b
  have hL2l : L2.length = l2.length := by rw [← eL2]; simp
  exact pairs_app2 (w := w) (H1.mono (q' := q2) hq) hlo (by omega) L2 eL2 (by rw [hxx]; rfl) (fun hn => by rw [hxx] at sx ⊢; exact sx.src hn) pL3 (fun y hy j hj hc => by have := hLv y hy j hj; have := vge j hc; omega) (by omega)
theorem Pairs.und {old : Old} {h : AHeap} {q : Nat} {v : Value} {l : List (List UInt8 × List UInt8)} (H : Pairs old h q v l) : isUnd v = false := by obtain ⟨L, _, o, _, _⟩ := H; exact o.und
theorem short_get {l : List (List UInt8 × List UInt8)} {B : Nat} (h : ∀ y, y ∈ l → y.1.length ≤ B) (i : Nat) : (l.getD i ([], [])).1.length ≤ B := by
  rw [List.getD_eq_getElem?_getD]
  cases hg : l[i]? with
  | none => simp
  | some y => exact h y (List.mem_of_getElem? hg)
variable {C : Ctx} (T : Tab_LLog C) (TD : Tab_LDig C) (TW : Tab_LLaw C) (TP : Tab_LProv C) (hk : ∀ j, j < 64 → C.old 0 j = some (wv (kW j)))
include T TD TW TP hk
section
variable {g0 : AHeap} {t0 : List Value} {b7 b9 b13 p s n : Nat} {root leaf : List UInt8} {vo v : Value} {E : List Value} {ps l : List (List UInt8)} (H0 : PS C g0 t0 b7 b9 b13 p s n root leaf vo v E ps) (S : Sh l s n root leaf ps) (r32 : root.length = 32) (p64 : ps.length ≤ 64) (s64 : s ≤ 64)
include H0 S r32 p64 s64
set_option maxHeartbeats 4000000 in
/-- the spoilt one is not taken, or two unlike rows have one digest -/
theorem sh_i {gw g : AHeap} {t : List Value} (F : Fr g0 g (fun _ => False)) (ht0 : ∀ j, j ≤ 13 → tg t j = tg t0 j) (vb vw : Value) (b18 q : Nat) (t15 : tg t 15 = vw) (t17 : tg t 17 = vb) (t18 : tg t 18 = .pointer (some ⟨b18, 0, some 0⟩)) (other : List UInt8) (bad : List (List UInt8)) (D : DigO g vb bad)
    (a18 : g.at b18 = some (.cells (bytesVals other) 31)) (ol : other.length = 32) (bl : bad.length = ps.length) (hne : ¬ (other = leaf ∧ bad = ps)) (Pw : Pairs C.old gw q vw (climbF 64 n s leaf ps).1) (Fw : Fr gw g (fun _ => False)) (hq : q ≤ g.bs.length) :
    ∃ g' t', R C r36 [.code pk10] t [] g = R C r36 [.code pk11] t' [] g' ∧ Fr g0 g' (fun _ => False) ∧ (∀ j, j ≤ 13 → tg t' j = tg t0 j) := by
  have H := H0.mv F ht0
  have l32 := S.leaf32
  have hn := S.hn
  have wf := H.wf
  have p7 := hd_rd (s := s) (fz := 36) r32
  have p70 := hd_0 (s := s) (r := root) (fz := 36)
  have p7r := hd_r1 (s := s) (fz := 36) r32
  have p18 := dig_rd (fz := 31) ol
  have ub := D.1.und
  obtain ⟨va, vcp, hv, dR⟩ := D.digR (old := C.old)
  have ef := incl_spec T TD hk g s n root other bad r32 ol (by omega) (by omega) va vcp dR
  rw [← hv] at ef
  rcases S.turned ol D.2 bl hne 64 p64 with h236 | ⟨h236, htop, hmet⟩
  · rw [h236] at ef
    refine ⟨g, ?_⟩
    obtain ⟨t', e, ht⟩ : ∃ t', R C r36 [.code pk10] t [] g = R C r36 [.code pk11] t' [] g ∧ (∀ j, j ≤ 13 → tg t' j = tg t j) := by
      rw [pk_i]
      simp [b36, pk0, pk1, pk2, pk3, pk4, pk5, pk6, pk7, pk8, pk9, pk10, s1, s2, H.t3, H.t7, t17, t18, H.a7, p7, a18, p18, stp_ok ub, ub, Dc_ok, ef, num_spec TW]
      refine ⟨_, rfl, fun j hj => ?_⟩
      simp only [tg_ts]
      repeat rw [if_neg (by omega)]
    exact ⟨t', e, F, fun j hj => (ht j hj).trans (ht0 j hj)⟩
  · obtain ⟨g1, v20, e1, Q1, f1, u20⟩ := climb_spec T TD TW hk 64 n s other bad (by omega) (by omega) (by omega) (by omega) ol g va vcp dR wf
    rw [htop, ← hv] at e1
    have l1 := f1.len
    have o1 := f1.lo
    have hz : Value.int .u8 0 = bv 0 := rfl
    generalize hZ : ABlock.cells (List.replicate 32 (bv 0)) 31 = Z
    have hZ0 := hZ
    simp [List.replicate] at hZ
    have z1 : (g1.push Z).at g1.bs.length = some Z := push_self
    have w1 := wr_arr hZ0 (vs := bytesVals root) (by simp [r32]) bytes_ok (g1.push Z) g1.bs.length
    have f2 : Fr g1 ((g1.push Z).put g1.bs.length (.cells (bytesVals root) 31)) (fun _ => False) := Fr.push.put' (.inr (Nat.le_refl _))
    have a21 : ((g1.push Z).put g1.bs.length (.cells (bytesVals root) 31)).at g1.bs.length = some (.cells (bytesVals root) 31) := put_self (by simp)
    have L2 : ((g1.push Z).put g1.bs.length (.cells (bytesVals root) 31)).bs.length = g1.bs.length + 1 := by simp
    generalize hg2 : (g1.push Z).put g1.bs.length (.cells (bytesVals root) 31) = g2 at *
    have o2 := f2.lo
    have F2 : Fr g g2 (fun _ => False) := f1.trans f2 (fun _ h => h) (fun _ h _ => h)
    have k7 := F2.get H.a7 (fun h => h)
    have pr := dig_rd (l := root) (fz := 31) r32
    have eqr := aeq_dig (x := root) (y := root) r32 r32
    simp [List.replicate] at eqr
    have c1 := climbF_len 64 n s other bad
    have c2 := climbF_len 64 n s leaf ps
    have Q2 := Q1.fr f2 (fun _ _ _ h => h)
    obtain ⟨v5, g4, e5, Q5, f5, b5⟩ := pairs_join (w := vw) Q2 Pw (Fw.trans F2 (fun _ h => h) (fun _ h _ => h)) Fw.len hq (by omega) (by omega) (by omega)
    obtain ⟨bb, eb, hb⟩ := met_spec TW g4 v5 _ Q5.rd (by simp; omega) (fun i => by
      have := short_get (B := 65) (l := (climbF 64 n s other bad).1 ++ (climbF 64 n s leaf ps).1) (fun y hy => by
        rcases List.mem_append.1 hy with hy | hy
        · exact Nat.le_of_eq (climbF_of _ _ _ _ _ ol D.2 y hy)
        · exact Nat.le_of_eq (climbF_of _ _ _ _ _ l32 S.ps32 y hy)) i
      omega)
    have hbt : bb = true := hb.2 (met_of hmet)
    rw [hbt] at eb
    have uw := Pw.und
    have uv5 := Q5.und
    have vge : ∀ j, blkOf v20 = some j → g.bs.length ≤ j := by obtain ⟨L, _, _, b, _⟩ := Q1; exact b
    have l4 := f5.len
    have F4 : Fr g0 g4 (fun _ => False) := (F.trans F2 (fun _ h => h) (fun _ h _ => h)).trans f5 (fun _ h => h) (fun j hj hl => by have := vge j hj; have := F.len; omega)
    refine ⟨g4, ?_⟩
    obtain ⟨t', e, ht⟩ : ∃ t', R C r36 [.code pk10] t [] g = R C r36 [.code pk11] t' [] g4 ∧ (∀ j, j ≤ 13 → tg t' j = tg t j) := by
      rw [pk_i]
      simp [b36, pk0, pk1, pk2, pk3, pk4, pk5, pk6, pk7, pk8, pk9, pk10, s1, s2, H.t3, H.t7, t15, t17, t18, H.a7, p7, p70, a18, p18, stp_ok ub, ub, Dc_ok, ef, num_spec TW, h236, e1, stp_ok u20, u20, hz, hZ, r32, writeN_wr, o1, show g.lo ≤ g1.bs.length by omega, z1, w1, hg2, a21, pr, k7, p7r, eqr, stp_ok uw, uw, e5, stp_ok uv5, uv5, eb]
      refine ⟨_, rfl, fun j hj => ?_⟩
      simp only [tg_ts]
      repeat rw [if_neg (by omega)]
    exact ⟨t', e, F4, fun j hj => (ht j hj).trans (ht0 j hj)⟩
end
end Go.Ab.Aud

namespace Go.Ab.Aud
open Go.Sha
theorem Pairs.empty {old : Old} {h : AHeap} {q : Nat} : Pairs old h q emptySl [] := ⟨[], rfl, .empty, (fun j hj => by cases hj), (fun x hx => by cases hx)⟩
variable {C : Ctx} (T : Tab_LLog C) (TD : Tab_LDig C) (TW : Tab_LLaw C) (TP : Tab_LProv C) (hk : ∀ j, j < 64 → C.old 0 j = some (wv (kW j)))
include T TD TW TP hk
section
variable {g : AHeap} {t : List Value} {b7 b9 b13 p s n : Nat} {root leaf : List UInt8} {vo v : Value} {E : List Value} {ps l : List (List UInt8)} (H : PS C g t b7 b9 b13 p s n root leaf vo v E ps) (S : Sh l s n root leaf ps) (r32 : root.length = 32) (p64 : ps.length ≤ 64) (s64 : s ≤ 64)
include H S r32 p64 s64
/-- at the next number: it is not taken there, or it goes on -/
theorem sh_j : R C r36 [.code pk11] t [] g = some (.bool true, g) ∨ (inclF s ((n + 1) % s) root leaf ps = 0 ∧ ∃ t', R C r36 [.code pk11] t [] g = R C r36 [.code pk13] t' [] g ∧ (∀ j, j ≤ 13 → tg t' j = tg t j) ∧ tg t' 22 = uv ((n + 1) % s)) := by
  have l32 := S.leaf32
  have hn := S.hn
  obtain ⟨a, cp, hv, D⟩ := H.D
  have hm := Nat.mod_lt (n + 1) (show 0 < s by omega)
  have em := uv_rem (a := n + 1) (b := s) (by omega)
  have ea := uv_add (a := n) (b := 1) (by omega)
  generalize (n + 1) % s = m at *
  have ei := incl_spec T TD hk g s m root leaf ps r32 l32 (by omega) (by omega) a cp D
  rw [← hv] at ei
  have uv' : isUnd v = false := by rw [hv]; rfl
  have lv : lenV v = some (iv ps.length) := by rw [hv]; rfl
  have p7 := hd_rd (s := s) (fz := 36) r32
  have p70 := hd_0 (s := s) (r := root) (fz := 36)
  have p13 := dig_rd (fz := 31) l32
  by_cases h0 : ps.length = 0
  · left
    rw [h0] at lv
    rw [pk_j]
    simp [b36, pk0, pk1, pk2, pk3, pk4, pk5, pk6, pk7, pk8, pk9, pk10, pk11, pk12, s1, s2, H.t3, H.t7, H.t11, H.a7, p70, ea, em, stp_ok uv', lv, r36]
  · by_cases hi : inclF s m root leaf ps = 0
    · right
      rw [hi] at ei
      refine ⟨hi, ?_⟩
      rw [pk_j]
      simp [b36, pk0, pk1, pk2, pk3, pk4, pk5, pk6, pk7, pk8, pk9, pk10, pk11, pk12, s1, s2, H.t3, H.t7, H.t11, H.t13, H.a7, H.a13, p7, p13, p70, ea, em, stp_ok uv', uv', lv, h0, Dc_ok, ei, num_spec TW]
      refine ⟨_, rfl, fun j hj => ?_, by simp⟩
      simp only [tg_ts]
      repeat rw [if_neg (by omega)]
    · left
      rw [pk_j]
      simp [b36, pk0, pk1, pk2, pk3, pk4, pk5, pk6, pk7, pk8, pk9, pk10, pk11, pk12, s1, s2, H.t3, H.t7, H.t11, H.t13, H.a7, H.a13, p7, p13, p70, ea, em, stp_ok uv', uv', lv, h0, Dc_ok, ei, num_spec TW, hi, r36]
set_option maxHeartbeats 4000000 in
/-- the way there, and that number's own path -/
theorem sh_l (d room wr : Nat) (O : Nat → Prop) (name ct : List UInt8) (rows : List (List UInt8)) (L : LogAt g O p d name ct (rows.map lh) room wr) (m : Nat) (hm : m < s) (hs : s ≤ rows.length) (rl : rows.length ≤ 64) (t22 : tg t 22 = uv m) (htop : (climbF 64 m s leaf ps).2 = root) :
    ∃ g1 g' t' va vq b24, R C r36 [.code pk13] t [] g = R C r36 [.code pk15] t' [] g' ∧ Fr g g1 (fun _ => False) ∧ Fr g1 g' (fun _ => False) ∧ (∀ j, j ≤ 13 ∨ j = 22 → tg t' j = tg t j) ∧ tg t' 23 = va ∧ tg t' 24 = .pointer (some ⟨b24, 0, some 0⟩) ∧ tg t' 25 = vq ∧ tg t' 26 = iv 0 ∧
      Pairs C.old g1 g.bs.length va (climbF 64 m s leaf ps).1 ∧ g'.at b24 = some (.cells (bytesVals root) 31) ∧ DigO g' vq (pathF s ((rows.map lh).take s) m) := by
  have l32 := S.leaf32
  have hn := S.hn
  have wf := H.wf
  have hml : (rows.map lh).length = rows.length := by simp
  obtain ⟨a, cp, hv, D⟩ := H.D
  obtain ⟨g1, va, e1, P1, f1, uw⟩ := climb_spec T TD TW hk 64 m s leaf ps p64 (by omega) (by omega) (by omega) l32 g a cp D wf
  rw [htop, ← hv] at e1
  have l1 := f1.len
  have o1 := f1.lo
  have uv' : isUnd v = false := by rw [hv]; rfl
  have p7 := hd_0 (s := s) (r := root) (fz := 36)
  have p13 := dig_rd (fz := 31) l32
  have hz : Value.int .u8 0 = bv 0 := rfl
  generalize hZ : ABlock.cells (List.replicate 32 (bv 0)) 31 = Z
  have hZ0 := hZ
  simp [List.replicate] at hZ
  have z1 : (g1.push Z).at g1.bs.length = some Z := push_self
  have w1 := wr_arr hZ0 (vs := bytesVals root) (by simp [r32]) bytes_ok (g1.push Z) g1.bs.length
  have f2 : Fr g1 ((g1.push Z).put g1.bs.length (.cells (bytesVals root) 31)) (fun _ => False) := Fr.push.put' (.inr (Nat.le_refl _))
  have a24 : ((g1.push Z).put g1.bs.length (.cells (bytesVals root) 31)).at g1.bs.length = some (.cells (bytesVals root) 31) := put_self (by simp)
  generalize hg2 : (g1.push Z).put g1.bs.length (.cells (bytesVals root) 31) = g2 at *
  have o2 := f2.lo
  have l2 := f2.len
  have F2 : Fr g g2 (fun _ => False) := f1.trans f2 (fun _ h => h) (fun _ h _ => h)
  have k7 := F2.get H.a7 (fun h => h)
  obtain ⟨g3, vq, e3, P3, f3, b3⟩ := prove_spec T TD hk g2 O p d room wr name ct (rows.map lh) (L.fr F2 fun _ _ h => h) m s hm (by omega) (by omega) (by omega)
  have uq := P3.1.und
  obtain ⟨t', e, ht, x23, x24, x25, x26⟩ : ∃ t', R C r36 [.code pk13] t [] g = R C r36 [.code pk15] t' [] g3 ∧ (∀ j, j ≤ 13 ∨ j = 22 → tg t' j = tg t j) ∧ tg t' 23 = va ∧ tg t' 24 = .pointer (some ⟨g1.bs.length, 0, some 0⟩) ∧ tg t' 25 = vq ∧ tg t' 26 = iv 0 := by
    rw [pk_l]
    simp [-forall_eq_or_imp, -forall_eq, b36, pk0, pk1, pk2, pk3, pk4, pk5, pk6, pk7, pk8, pk9, pk10, pk11, pk12, pk13, pk14, s1, s2, t22, H.t0, H.t7, H.t11, H.t13, H.a7, H.a13, p7, p13, stp_ok uv', uv', Dc_ok, e1, hz, hZ, stp_ok uw, r32, writeN_wr, o1, show g.lo ≤ g1.bs.length by omega, z1, w1, hg2, k7, e3, stp_ok uq, uq]
    refine ⟨_, rfl, fun j hj => ?_, by simp, by simp, by simp, by simp⟩
    simp only [tg_ts]
    repeat rw [if_neg (by omega)]
  exact ⟨g1, g3, t', va, vq, _, e, f1, f2.trans f3 (fun _ h => h) (fun _ h _ => h), ht, x23, x24, x25, x26, P1, f3.get a24 (fun h => h), P3⟩
end
end Go.Ab.Aud

namespace Go.Ab.Aud
open Go.Sha
theorem pairs_join2 {old : Old} {hX h : AHeap} {q : Nat} {v w : Value} {l1 l2 : List (List UInt8 × List UInt8)} (H1 : Pairs old h q v l1) (P2 : Pairs old hX q w l2) (F : Fr hX h (fun _ => False)) (hv : ∀ j, blkOf v = some j → hX.bs.length ≤ j) (hq : q ≤ h.bs.length) (hlo : h.lo ≤ h.bs.length) (hb : l1.length + l2.length < 2 ^ 20) :
    ∃ v' h', appendV old h 158 33 56 v w = some (v', h') ∧ Pairs old h' q v' (l1 ++ l2) ∧ Fr h h' (fun j => blkOf v = some j) ∧ (blkOf v' = blkOf v ∨ blkOf v' = some h.bs.length) := by
  obtain ⟨L2, eL2, oL2, bL2, pL2⟩ := P2
  have hLv : ∀ y, y ∈ L2 → ∀ j, Live y.1 j → j < hX.bs.length := fun y hy j hj => by
    obtain ⟨ay, cy, h1, h2, h3, h4⟩ := pL2 y hy
    exact h2.live_lt (by rw [← h1]; exact hj)
  have oL3 := oL2.fr F (fun _ _ h => h)
  have pL3 : ∀ y, y ∈ L2 → POk old h q w y := fun y hy => (pL2 y hy).fr F (fun _ _ h => h)
  obtain ⟨ax, cpx, hxx⟩ := oL3.slice
  have sx := oL3.sl (old := old) (by omega)
  have hL2l : L2.length = l2.length := by rw [← eL2]; simp
  exact pairs_app2 (w := w) H1 hlo hq L2 eL2 (by rw [hxx]; rfl) (fun hn => by rw [hxx] at sx ⊢; exact sx.src hn) pL3 (fun y hy j hj hc => by have := hLv y hy j hj; have := hv j hc; omega) (by omega)
/-- bytes behind a literal of one byte, none too -/
theorem app_lit {old : Old} {h : AHeap} {b : Nat} {x : UInt8} {row : List UInt8} {a : Option Addr} {cp : Nat} (hb : h.at b = some (.cells [bv x] 6)) (hs : SlR old h 1 (.slice a row.length cp) (bytesVals row)) (hl : row.length < 2 ^ 30) (hlo : h.lo ≤ h.bs.length) :
    ∃ v' h' a' cp', appendV old h 5 1 1 (.slice (some ⟨b, 0, some 0⟩) 1 1) (.slice a row.length cp) = some (v', h') ∧ v' = .slice a' (x :: row).length cp' ∧ SlR old h' 1 (.slice a' (x :: row).length cp') (bytesVals (x :: row)) ∧ Fr h h' (fun _ => False) ∧ (∀ j, Live v' j → j = b ∨ j = h.bs.length) := by
  by_cases h0 : row.length = 0
  · have hr : row = [] := List.eq_nil_of_length_eq_zero h0
    subst hr
    refine ⟨_, h, some ⟨b, 0, some 0⟩, 1, ?_, rfl, ?_, Fr.refl _ _, fun j hj => .inl hj.2.1.symm⟩
    · unfold appendV
      simp [srcLen, isRest]
    · refine ⟨rfl, ?_⟩
      rw [if_neg (by simp [isRest])]
      refine ⟨Nat.le_refl _, fun _ => ?_⟩
      rw [readN_rd, hb]; rfl
  · obtain ⟨v', h', e, o, f, bl⟩ := append_lit1 (old := old) (e := 5) (k := 1) (bytes := 1) (m := row.length) (x := .slice a row.length cp) (new := bytesVals row) hb rfl rfl (by omega) h0 rfl
      (hs.src h0) (by simp) bytes_ok (by simp [sizeLim]; omega) hlo
    obtain ⟨a', cp', hv⟩ := o.slice
    have sl := o.sl (old := old) (by omega)
    have hc : [bv x] ++ bytesVals row = bytesVals (x :: row) := by simp [bytesVals_eq]
    have hn : 1 + row.length = (x :: row).length := by simp; omega
    rw [hc, hv, hn] at sl
    rw [hn] at hv
    refine ⟨v', h', a', cp', e, hv, sl, f, fun j hj => .inr ?_⟩
    have := o.live hj
    rw [bl] at this
    cases this; rfl
variable {C : Ctx} (T : Tab_LLog C) (TD : Tab_LDig C) (TW : Tab_LLaw C) (TP : Tab_LProv C) (hk : ∀ j, j < 64 → C.old 0 j = some (wv (kW j)))
include T TD TW TP hk
section
variable {g : AHeap} {t : List Value} {b7 b9 b13 p s n : Nat} {root leaf : List UInt8} {vo v : Value} {E : List Value} {ps l : List (List UInt8)} (H : PS C g t b7 b9 b13 p s n root leaf vo v E ps) (S : Sh l s n root leaf ps) (r32 : root.length = 32) (p64 : ps.length ≤ 64) (s64 : s ≤ 64)
include H S r32 p64 s64
set_option maxHeartbeats 4000000 in
/-- that number's own way -/
theorem sh_m (rows : List (List UInt8)) (RO : RowsO C.old g vo rows) (big : ∀ r, r ∈ rows → r.length ≤ 16384) (rl : rows.length ≤ 64) (m b24 : Nat) (va vq : Value) (own : List (List UInt8)) (hm : m < rows.length) (S' : Sh l s m root (lh (rows.getD m [])) own) (o64 : own.length ≤ 64)
    (t22 : tg t 22 = uv m) (t23 : tg t 23 = va) (t24 : tg t 24 = .pointer (some ⟨b24, 0, some 0⟩)) (t25 : tg t 25 = vq) (t26 : tg t 26 = iv 0) (D : DigO g vq own) :
    ∃ (g1 g2 g' : AHeap) (t' : List Value) (vr : Value), R C r36 [.code (s1 pk15), .code (s2 pk15)] t [] g = R C r36 [.code (s2 pk15)] t' [] g' ∧ Fr g g' (fun _ => False) ∧ g.bs.length ≤ g1.bs.length ∧ Pairs C.old g2 g1.bs.length vr (climbF 64 m s (lh (rows.getD m [])) own).1 ∧ Fr g2 g' (fun j => j = g.bs.length) ∧ g.bs.length < g1.bs.length ∧ (∀ j, j ≤ 26 → tg t' j = tg t j) ∧ tg t' 27 = vr := by
  have hn := S.hn
  have wf := H.wf
  obtain ⟨va', ra, rcp, hvo, rr, rs⟩ := RO.get hm
  have hrow : (rows.getD m []).length ≤ 16384 := by
    rw [List.getD_eq_getElem?_getD, List.getElem?_eq_getElem hm]
    exact big _ (List.getElem_mem _)
  have top := S'.top 64 o64
  have hl32 : (lh (rows.getD m [])).length = 32 := sha_length _
  generalize hrw : rows.getD m [] = row at *
  have hz : Value.int .u8 0 = bv 0 := rfl
  generalize hZ : ABlock.cells (List.replicate 32 (bv 0)) 31 = Z
  have hZ0 := hZ
  simp [List.replicate] at hZ
  have z0 : (g.push Z).at g.bs.length = some Z := push_self
  have f0 : Fr g (g.push Z) (fun _ => False) := Fr.push
  have L0 : (g.push Z).bs.length = g.bs.length + 1 := by simp
  generalize hg0 : g.push Z = G1 at *
  have o0 := f0.lo
  have RO1 := RO.fr f0 fun _ _ h => h
  obtain ⟨va2, ra2, rcp2, hvo2, rr2, rs2⟩ := RO1.get hm
  rw [hrw] at rr2 rs2
  have hva : va2 = va' := by rw [hvo] at hvo2; injection hvo2 with h; injection h with h; exact h.symm
  subst hva
  obtain ⟨G2, cv, e1, o1, f1, b1⟩ := copy_spec TW G1 row ra2 row.length rcp2 (rs2 G1) (by omega) (by omega)
  have l1 := f1.len
  have lo1 := f1.lo
  obtain ⟨ca, ccp, hcv, cs⟩ := own_sl (old := C.old) o1
  have e2 := leaf_spec TD hk G2 row ca row.length ccp cs (by omega)
  rw [← hcv, show sha (0 :: row) = lh row from rfl] at e2
  have F2 : Fr g G2 (fun _ => False) := f0.trans f1 (fun _ h => h) (fun _ h _ => h)
  have DQ : DigO G2 vq own := D.fr F2 (fun _ _ h => h)
  obtain ⟨qa, qcp, hvq, dq⟩ := DQ.digR (old := C.old)
  obtain ⟨G3, vr, e3, P3, f3, ur⟩ := climb_spec T TD TW hk 64 m s (lh row) own o64 (by omega) (by omega) (by omega) hl32 G2 qa qcp dq (by omega)
  rw [top, ← hvq] at e3
  have l3 := f3.len
  have lo3 := f3.lo
  have z3 : G3.at g.bs.length = some Z := f3.get (f1.get z0 (fun h => h)) (fun h => h)
  have w1 := wr_arr hZ0 (vs := bytesVals root) (by simp [r32]) bytes_ok G3 g.bs.length
  have f4 : Fr G3 (G3.put g.bs.length (.cells (bytesVals root) 31)) (fun j => j = g.bs.length) := Fr.put rfl
  have k7a := f0.get H.a7 (fun h => h)
  have k7 := F2.get H.a7 (fun h => h)
  have p7 := hd_0 (s := s) (r := root) (fz := 36)
  have uc := o1.und
  have uq := DQ.1.und
  have uvo : isUnd vo = false := by rw [hvo]; rfl
  obtain ⟨t', e, ht, x27⟩ : ∃ t', R C r36 [.code (s1 pk15), .code (s2 pk15)] t [] g = R C r36 [.code (s2 pk15)] t' [] (G3.put g.bs.length (.cells (bytesVals root) 31)) ∧ (∀ j, j ≤ 26 → tg t' j = tg t j) ∧ tg t' 27 = vr := by
    have t1 := H.t1
    rw [hvo] at t1
    have hs2 : s2 pk15 = .seq (s1 pk16) pk17 := rfl
    rw [hs2]
    generalize ACode.seq (s1 pk16) pk17 = K
    simp [b36, pk0, pk1, pk2, pk3, pk4, pk5, pk6, pk7, pk8, pk9, pk10, pk11, pk12, pk13, pk14, pk15, s1, s2, hz, hZ, hg0, t22, H.t7, t1, t25, k7a, k7, p7, ixS_uv hm, rr2, Dc_ok, e1, stp_ok uc, uc, e2, stp_ok uq, uq, e3, ur, r32, writeN_wr, lo3, lo1, o0, show g.lo ≤ g.bs.length by omega, z3, w1]
    refine ⟨_, rfl, fun j hj => ?_, by simp⟩
    simp only [tg_ts]
    repeat rw [if_neg (by omega)]
  exact ⟨G2, G3, _, t', vr, e, (F2.trans f3 (fun _ h => h) (fun _ h _ => h)).put' (.inr (Nat.le_refl _)), by omega, P3, f4, by omega, ht, x27⟩
end
end Go.Ab.Aud

namespace Go.Ab.Aud
open Go.Sha
theorem RowsO.get2 {old : Old} {h : AHeap} {v : Value} {l : List (List UInt8)} (H : RowsO old h v l) {i : Nat} (hi : i < l.length) : ∃ a' a cp, v = .slice (some a') l.length 0 ∧ (∀ G, Fr h G (fun _ => False) → read1 old G (adda a' i) = some (.slice a (l.getD i []).length cp)) ∧ (∀ h, SlR old h 1 (.slice a (l.getD i []).length cp) (bytesVals (l.getD i []))) := by
  obtain ⟨vs, o, g⟩ := H
  obtain ⟨x, hx, a, cp, e, s, _⟩ := g i hi
  have hv0 : ∃ va', v = .slice (some va') l.length 0 := by
    rcases o with ⟨_, h0, _⟩ | ⟨_, _, _, hv, _⟩
    · omega
    · exact ⟨_, hv⟩
  obtain ⟨va', hv⟩ := hv0
  refine ⟨va', a, cp, hv, fun G f => ?_, s⟩
  have oG := o.fr f (fun _ _ h => h)
  rw [hv] at oG
  rw [own_rd oG hi, hx, e]
variable {C : Ctx} (T : Tab_LLog C) (TD : Tab_LDig C) (TW : Tab_LLaw C) (TP : Tab_LProv C) (hk : ∀ j, j < 64 → C.old 0 j = some (wv (kW j)))
include T TD TW TP hk
section
variable {g : AHeap} {t : List Value} {b7 b9 b13 p s n : Nat} {root leaf : List UInt8} {vo v : Value} {E : List Value} {ps l : List (List UInt8)} (H : PS C g t b7 b9 b13 p s n root leaf vo v E ps) (S : Sh l s n root leaf ps) (r32 : root.length = 32) (p64 : ps.length ≤ 64) (s64 : s ≤ 64)
include H S r32 p64 s64
set_option maxHeartbeats 8000000 in
/-- all that was made -/
theorem sh_n (rows : List (List UInt8)) (RO : RowsO C.old g vo rows) (big : ∀ r, r ∈ rows → r.length ≤ 16384) (m q : Nat) (va vr : Value) (A B : List (List UInt8 × List UInt8)) (hm : m < rows.length) (hnr : n < rows.length) (hl : leaf.length = 32)
    (t22 : tg t 22 = uv m) (t23 : tg t 23 = va) (t27 : tg t 27 = vr) (Pa : Pairs C.old g q va A) (Pr : Pairs C.old g q vr B) (hq : q ≤ g.bs.length) (hA : A.length ≤ 64) (hB : B.length ≤ 64) :
    ∃ (g' : AHeap) (t' : List Value) (w : Value), R C r36 [.code (s1 pk16), .code pk17] t [] g = R C r36 [.code pk17] t' [] g' ∧ Fr g g' (fun _ => False) ∧ (∀ j, j ≤ 26 → tg t' j = tg t j) ∧ tg t' 29 = w ∧ Pairs C.old g' q w ((A ++ B) ++ [(0 :: rows.getD m [], lh (rows.getD m [])), (0 :: rows.getD n [], leaf)]) := by
  have wf := H.wf
  obtain ⟨v1, a1, c1, hvo, rm, sm⟩ := RO.get2 hm
  obtain ⟨v1', a2, c2, hvo', rn, sn⟩ := RO.get2 hnr
  have hv : v1' = v1 := by rw [hvo] at hvo'; injection hvo' with h; injection h with h; exact h.symm
  subst hv
  have hrm : (rows.getD m []).length ≤ 16384 := by
    rw [List.getD_eq_getElem?_getD, List.getElem?_eq_getElem hm]
    exact big _ (List.getElem_mem _)
  have hrn : (rows.getD n []).length ≤ 16384 := by
    rw [List.getD_eq_getElem?_getD, List.getElem?_eq_getElem hnr]
    exact big _ (List.getElem_mem _)
  generalize rows.getD m [] = rwm at *
  generalize rows.getD n [] = rwn at *
  have hlm : (lh rwm).length = 32 := sha_length _
  have hz : Value.int .u8 0 = bv 0 := rfl
  -- two literals
  have f1 : Fr g (g.push (.cells [bv 0] 6)) (fun _ => False) := Fr.push
  have x1 : (g.push (.cells [bv 0] 6)).at g.bs.length = some (.cells [bv 0] 6) := push_self
  have L1 : (g.push (.cells [bv 0] 6)).bs.length = g.bs.length + 1 := by simp
  generalize hA1 : g.push (.cells [bv 0] 6) = A1 at *
  have f2 : Fr A1 (A1.push (.cells [bv 0] 6)) (fun _ => False) := Fr.push
  have y2 : (A1.push (.cells [bv 0] 6)).at (g.bs.length + 1) = some (.cells [bv 0] 6) := push_self' L1.symm
  have x2 := f2.get x1 (fun h => h)
  have L2 : (A1.push (.cells [bv 0] 6)).bs.length = A1.bs.length + 1 := by simp
  generalize hA2 : A1.push (.cells [bv 0] 6) = A2 at *
  have F2 : Fr g A2 (fun _ => False) := f1.trans f2 (fun _ h => h) (fun _ h _ => h)
  have o2 := F2.lo
  -- the pairs of both ways
  obtain ⟨w1, A3, e3, P3, f3, bl3⟩ := pairs_join2 (v := emptySl) (l1 := []) Pairs.empty Pa F2 (fun j hj => by cases hj) (by omega) (by omega) (by simp; omega)
  have l3 := f3.len
  have o3 := f3.lo
  have F3 : Fr g A3 (fun _ => False) := F2.trans f3 (fun _ h => h) (fun j hj _ => by cases hj)
  have hb3 : ∀ j, blkOf w1 = some j → A2.bs.length ≤ j := fun j hj => by
    rcases bl3 with b | b <;> rw [b] at hj
    · cases hj
    · cases hj; exact Nat.le_refl _
  obtain ⟨w2, A4, e4, P4, f4, bl4⟩ := pairs_join2 P3 Pr F3 (fun j hj => by have := hb3 j hj; omega) (by omega) (by omega) (by simp; omega)
  have l4 := f4.len
  have o4 := f4.lo
  have F4 : Fr g A4 (fun _ => False) := F3.trans f4 (fun _ h => h) (fun j hj hl => by have := hb3 j hj; omega)
  have hb4 : ∀ j, blkOf w2 = some j → A2.bs.length ≤ j ∧ j < A4.bs.length := fun j hj => by
    have h2 : j < A4.bs.length := by obtain ⟨L, _, o, _, _⟩ := P4; exact o.blk hj
    rcases bl4 with b | b <;> rw [b] at hj
    · exact ⟨hb3 j hj, h2⟩
    · cases hj; exact ⟨by omega, h2⟩
  have x4 : A4.at g.bs.length = some (.cells [bv 0] 6) := f4.get (f3.get x2 (fun hc => by cases hc)) (fun hc => by have := hb3 _ hc; omega)
  have y4 : A4.at (g.bs.length + 1) = some (.cells [bv 0] 6) := f4.get (f3.get y2 (fun hc => by cases hc)) (fun hc => by have := hb3 _ hc; omega)
  -- the entries' own rows
  obtain ⟨z1, A5, a5, c5, e5, hz1, s5, f5, lv5⟩ := app_lit x4 (sm A4) (by omega) (by omega)
  have l5 := f5.len
  have o5 := f5.lo
  have F5 : Fr g A5 (fun _ => False) := F4.trans f5 (fun _ h => h) (fun _ h _ => h)
  obtain ⟨A6, cv, e6, oc, f6, b6⟩ := copy_spec TW A5 rwm a1 rwm.length c1 (sm A5) (by omega) (by omega)
  have l6 := f6.len
  have o6 := f6.lo
  have F6 : Fr g A6 (fun _ => False) := F5.trans f6 (fun _ h => h) (fun _ h _ => h)
  obtain ⟨ca, ccp, hcv, cs⟩ := own_sl (old := C.old) oc
  have e6b := leaf_spec TD hk A6 rwm ca rwm.length ccp cs (by omega)
  rw [← hcv, show sha (0 :: rwm) = lh rwm from rfl] at e6b
  have uc := oc.und
  have y6 : A6.at (g.bs.length + 1) = some (.cells [bv 0] 6) := f6.get (f5.get y4 (fun h => h)) (fun h => h)
  obtain ⟨z2, A7, a7, c7, e7, hz2, s7, f7, lv7⟩ := app_lit y6 (sn A6) (by omega) (by omega)
  have l7 := f7.len
  have o7 := f7.lo
  have F7 : Fr g A7 (fun _ => False) := F6.trans f7 (fun _ h => h) (fun _ h _ => h)
  -- two pairs more
  have f8 : Fr A7 (A7.push (.cells ((z1 :: bytesVals (lh rwm)) ++ (z2 :: bytesVals leaf)) 159)) (fun _ => False) := Fr.push
  have x8 : (A7.push (.cells ((z1 :: bytesVals (lh rwm)) ++ (z2 :: bytesVals leaf)) 159)).at A7.bs.length = some (.cells ((z1 :: bytesVals (lh rwm)) ++ (z2 :: bytesVals leaf)) 159) := push_self
  have L8 : (A7.push (.cells ((z1 :: bytesVals (lh rwm)) ++ (z2 :: bytesVals leaf)) 159)).bs.length = A7.bs.length + 1 := by simp
  generalize hA8 : A7.push (.cells ((z1 :: bytesVals (lh rwm)) ++ (z2 :: bytesVals leaf)) 159) = A8 at *
  have o8 := f8.lo
  have F48 : Fr A4 A8 (fun _ => False) := ((f5.trans f6 (fun _ h => h) (fun _ h _ => h)).trans f7 (fun _ h => h) (fun _ h _ => h)).trans f8 (fun _ h => h) (fun _ h _ => h)
  have P8 := P4.fr F48 (fun _ _ _ h => h)
  have F8 : Fr g A8 (fun _ => False) := F4.trans F48 (fun _ h => h) (fun _ h _ => h)
  have lt5 : ∀ j, Live z1 j → j < A5.bs.length := fun j hj => s5.live_lt (hz1 ▸ hj)
  have lt7 : ∀ j, Live z2 j → j < A7.bs.length := fun j hj => s7.live_lt (hz2 ▸ hj)
  obtain ⟨w3, A9, e9, P9, f9, bl9⟩ := pairs_app2 (w := .slice (some ⟨A7.bs.length, 0, some 0⟩) 2 2) (l' := [(0 :: rwm, lh rwm), (0 :: rwn, leaf)]) P8 (by omega) (by omega) [(z1, (0 :: rwm, lh rwm)), (z2, (0 :: rwn, leaf))] rfl rfl
    (fun _ => by
      simp only [srcCells]
      rw [readN_rd, x8, rdN_cells (by simp [hlm, hl]), List.drop_zero, List.take_of_length_le (by simp [hlm, hl])]
      simp [pcells])
    (fun x hx => by
      rcases List.mem_cons.1 hx with rfl | hx
      · exact ⟨a5, c5, hz1, s5.fr ((f6.trans f7 (fun _ h => h) (fun _ h _ => h)).trans f8 (fun _ h => h) (fun _ h _ => h)) (fun _ _ h => h), hlm, fun j hj => ⟨by rcases lv5 j hj with h | h <;> omega, by intro hc; cases hc⟩⟩
      · rw [List.mem_singleton.1 hx]
        exact ⟨a7, c7, hz2, s7.fr f8 (fun _ _ h => h), hl, fun j hj => ⟨by rcases lv7 j hj with h | h <;> omega, by intro hc; cases hc⟩⟩)
    (fun x hx j hj hc => by
      have hw := hb4 j hc
      rcases List.mem_cons.1 hx with rfl | hx
      · rcases lv5 j hj with h | h <;> omega
      · rw [List.mem_singleton.1 hx] at hj
        rcases lv7 j hj with h | h <;> omega) (by simp; omega)
  have F9 : Fr g A9 (fun _ => False) := F8.trans f9 (fun _ h => h) (fun j hj hl => by have := hb4 j hj; omega)
  have ua := Pa.und
  have ur := Pr.und
  have u1 := P3.und
  have u2 := P4.und
  have u3 := P9.und
  have p13 := dig_rd (l := leaf) (fz := 31) hl
  have k2 := F2.get H.a13 (fun h => h)
  have k3 := F3.get H.a13 (fun h => h)
  have k4 := F4.get H.a13 (fun h => h)
  have k5 := F5.get H.a13 (fun h => h)
  have k6 := F6.get H.a13 (fun h => h)
  have k7 := F7.get H.a13 (fun h => h)
  have zs : ∀ (z : Value) (d : List UInt8), d.length = 32 → splice (splice (Value.slice none 0 0 :: List.replicate 32 (bv 0)) 0 [z]) 1 (bytesVals d) = z :: bytesVals d := fun z d hd => by simp [splice, hd]
  have zl : ∀ (z : Value), (splice (Value.slice none 0 0 :: List.replicate 32 (bv 0)) 0 [z]).length = 33 := fun z => by simp [splice]
  have ws : ∀ (z y : Value) (d d' : List UInt8), d.length = 32 → d'.length = 32 → splice (splice (zeroFill (Value.slice none 0 0 :: List.replicate 32 (bv 0)) 2) 0 (z :: bytesVals d)) 33 (y :: bytesVals d') = (z :: bytesVals d) ++ (y :: bytesVals d') := fun z y d d' hd hd' => by simp [splice, zeroFill, hd, hd', List.replicate]
  have wl : ∀ (z : Value) (d : List UInt8), d.length = 32 → (splice (zeroFill (Value.slice none 0 0 :: List.replicate 32 (bv 0)) 2) 0 (z :: bytesVals d)).length = 66 := fun z d hd => by simp [splice, zeroFill, hd, List.replicate]
  simp [List.replicate] at zs zl
  simp [List.replicate, zeroFill] at ws wl
  have okS : ∀ a n c, okCell (.slice a n c) = true := fun _ _ _ => rfl
  have okB2 : ∀ (d : List UInt8), (∀ (x : Value), x ∈ bytesVals d → okCell x = true) ↔ True := fun d => iff_of_true (fun x hx => List.all_eq_true.1 bytes_ok x hx) trivial
  have okB : ∀ (d : List UInt8) (x : Value), x ∈ bytesVals d → okCell x = true := fun d x hx => List.all_eq_true.1 bytes_ok x hx
  rw [hz1] at hA8 e5
  rw [hz2] at hA8 e7
  simp at e5 e7 hA8
  refine ⟨A9, ?_⟩
  obtain ⟨t', e, ht, x29⟩ : ∃ t', R C r36 [.code (s1 pk16), .code pk17] t [] g = R C r36 [.code pk17] t' [] A9 ∧ (∀ j, j ≤ 26 → tg t' j = tg t j) ∧ tg t' 29 = w3 := by
    have t1 := H.t1
    rw [hvo] at t1
    generalize hK : pk17 = K
    simp [b36, pk0, pk1, pk2, pk3, pk4, pk5, pk6, pk7, pk8, pk9, pk10, pk11, pk12, pk13, pk14, pk15, pk16, s1, s2, fillCells, hz, hA1, hA2, t22, t23, t27, H.t3, H.t13, t1, ixS_uv hm, ixS_uv hnr, rm A2 F2, rm A3 F3, rm A4 F4, rm A5 F5, rn A2 F2, rn A3 F3, rn A4 F4, rn A5 F5, rn A6 F6, k2, k3, k4, k5, k6, k7, p13, ua, ur, e3, u1, e4, u2, e5, Dc_ok, e6, uc, e6b, e7, zs, zl, ws, hlm, hl, hA8, e9, u3, show splice [bv 0] 0 [bv 0] = [bv 0] from rfl, show okCell (bv 0) = true from rfl, L1, wl, okS, okB2]
    refine ⟨_, rfl, fun j hj => ?_, by simp⟩
    simp only [tg_ts]
    repeat rw [if_neg (by omega)]
  exact ⟨t', w3, e, F9, ht, x29, P9⟩
end
end Go.Ab.Aud

namespace Go.Ab.Aud
open Go.Sha
variable {C : Ctx} (T : Tab_LLog C) (TD : Tab_LDig C) (TW : Tab_LLaw C) (TP : Tab_LProv C) (hk : ∀ j, j < 64 → C.old 0 j = some (wv (kW j)))
include T TD TW TP hk
section
variable {g : AHeap} {t : List Value} {b7 b9 b13 p s n : Nat} {root leaf : List UInt8} {vo v : Value} {E : List Value} {ps l : List (List UInt8)} (H : PS C g t b7 b9 b13 p s n root leaf vo v E ps) (S : Sh l s n root leaf ps) (r32 : root.length = 32) (p64 : ps.length ≤ 64) (s64 : s ≤ 64)
include H S r32 p64 s64
set_option maxHeartbeats 4000000 in
/-- one row at both, or two unlike rows of one digest -/
theorem sh_o (rows : List (List UInt8)) (RO : RowsO C.old g vo rows) (big : ∀ r, r ∈ rows → r.length ≤ 16384) (m q b24 : Nat) (w : Value) (A B : List (List UInt8 × List UInt8)) (hm : m < rows.length) (hnr : n < rows.length) (hlf : leaf = lh (rows.getD n []))
    (t22 : tg t 22 = uv m) (t24 : tg t 24 = .pointer (some ⟨b24, 0, some 0⟩)) (t26 : tg t 26 = iv 0) (t29 : tg t 29 = w) (a24 : g.at b24 = some (.cells (bytesVals root) 31))
    (P : Pairs C.old g q w ((A ++ B) ++ [(0 :: rows.getD m [], lh (rows.getD m [])), (0 :: rows.getD n [], leaf)])) (hA : A.length ≤ 64) (hB : B.length ≤ 64) (sA : ∀ y, y ∈ A → y.1.length ≤ 20000) (sB : ∀ y, y ∈ B → y.1.length ≤ 20000)
    (hor : leaf = lh (rows.getD m []) ∨ Met' (A ++ B)) : R C r36 [.code pk17] t [] g = some (.bool true, g) := by
  have wf := H.wf
  obtain ⟨v1, a1, c1, hvo, rm, sm⟩ := RO.get2 hm
  obtain ⟨v1', a2, c2, hvo', rn, sn⟩ := RO.get2 hnr
  have hv : v1' = v1 := by rw [hvo] at hvo'; injection hvo' with h; injection h with h; exact h.symm
  subst hv
  have hrm : (rows.getD m []).length ≤ 16384 := by
    rw [List.getD_eq_getElem?_getD, List.getElem?_eq_getElem hm]
    exact big _ (List.getElem_mem _)
  have hrn : (rows.getD n []).length ≤ 16384 := by
    rw [List.getD_eq_getElem?_getD, List.getElem?_eq_getElem hnr]
    exact big _ (List.getElem_mem _)
  generalize rows.getD m [] = rwm at *
  generalize rows.getD n [] = rwn at *
  have met : rwm ≠ rwn → Met' ((A ++ B) ++ [(0 :: rwm, lh rwm), (0 :: rwn, leaf)]) := fun hne => by
    rcases hor with h | h
    · exact ⟨(0 :: rwm, lh rwm), (0 :: rwn, leaf), by simp, by simp, h.symm, by simpa using hne⟩
    · exact h.mono fun x hx => List.mem_append_left _ hx
  obtain ⟨bb, eb, hb⟩ := met_spec TW g w _ P.rd (by simp; omega) (fun i => by
    have := short_get (B := 20000) (l := (A ++ B) ++ [(0 :: rwm, lh rwm), (0 :: rwn, leaf)]) (fun y hy => by
      rcases List.mem_append.1 hy with hy | hy
      · rcases List.mem_append.1 hy with hy | hy
        · exact sA y hy
        · exact sB y hy
      · rcases List.mem_cons.1 hy with rfl | hy
        · simp; omega
        · rw [List.mem_singleton.1 hy]; simp; omega) i
    omega)
  have uw := P.und
  have f0 : Fr g g (fun _ => False) := Fr.refl _ _
  have e39 := eq_spec TW g rwm rwn (by omega) a1 a2 c1 c2 (sm g) (sn g)
  have p24 := dig_rd (l := root) (fz := 31) r32
  have p7r := hd_r1 (s := s) (fz := 36) r32
  have eqr := aeq_dig (x := root) (y := root) r32 r32
  simp [List.replicate] at eqr
  have t1 := H.t1
  rw [hvo] at t1
  by_cases hne : rwm = rwn
  · subst hne
    simp only [decide_true] at e39
    simp [b36, pk0, pk1, pk2, pk3, pk4, pk5, pk6, pk7, pk8, pk9, pk10, pk11, pk12, pk13, pk14, pk15, pk16, pk17, s1, s2, t22, t24, t26, t29, H.t3, H.t7, t1, H.a7, a24, p24, p7r, eqr, num_spec TW, Dc_ok, ixS_uv hm, ixS_uv hnr, rm g f0, rn g f0, e39, r36]
  · have hbt : bb = true := hb.2 (met_of (met hne))
    rw [hbt] at eb
    simp [b36, pk0, pk1, pk2, pk3, pk4, pk5, pk6, pk7, pk8, pk9, pk10, pk11, pk12, pk13, pk14, pk15, pk16, pk17, s1, s2, t22, t24, t26, t29, H.t3, H.t7, t1, H.a7, a24, p24, p7r, eqr, num_spec TW, Dc_ok, ixS_uv hm, ixS_uv hnr, rm g f0, rn g f0, e39, hne, stp_ok uw, uw, eb, r36]
end
end Go.Ab.Aud

namespace Go.Ab.Aud
open Go.Sha
theorem rows_lh {rows : List (List UInt8)} {n : Nat} (h : n < rows.length) : (rows.map lh).getD n [] = lh (rows.getD n []) := by
  simp [List.getD_eq_getElem?_getD, h]
variable {C : Ctx} (T : Tab_LLog C) (TD : Tab_LDig C) (TW : Tab_LLaw C) (TP : Tab_LProv C) (TG : Tab_LGrow C) (TF : Tab_LFoll C) (hk : ∀ j, j < 64 → C.old 0 j = some (wv (kW j)))
include T TD TW TP TG TF hk
set_option maxHeartbeats 1000000 in
theorem shown_spec (h : AHeap) (wf : h.lo ≤ h.bs.length) (p d room wr : Nat) (O : Nat → Prop) (name ct : List UInt8) (rows : List (List UInt8)) (vo : Value) (L : LogAt h O p d name ct (rows.map lh) room wr) (RO : RowsO C.old h vo rows) (big : ∀ r, r ∈ rows → r.length ≤ 16384) (rl : rows.length ≤ 64) (s n : Nat) (hn : n < s) (hs : s ≤ rows.length)
    (root : List UInt8) (hr : root = rootL ((rows.map lh).take s)) (rv szv atv oth : Value) (bit : Int) (hE : [rv, szv, atv, oth, zv bit].all okCell = true) :
    ∃ g', D C 36 [.pointer (some ⟨p, 0, some 0⟩), vo, .agg ⟨uv s :: bytesVals root⟩, uv n, .agg ⟨[rv, szv, atv, oth, zv bit]⟩] h = some (.bool true, g') ∧ Fr h g' (fun _ => False) := by
  rw [D_fn TP.h36]
  have hml : (rows.map lh).length = rows.length := by simp
  have h32 : ∀ y, y ∈ rows.map lh → y.length = 32 := fun y hy => by
    obtain ⟨z, _, hz⟩ := List.mem_map.1 hy
    rw [← hz]; exact sha_length _
  have r32 : root.length = 32 := by rw [hr]; exact rootL_length _ (mem_take32 h32 s)
  have shAt : ∀ m, m < s → Sh (rows.map lh) s m root (lh (rows.getD m [])) (pathF s ((rows.map lh).take s) m) := fun m hm =>
    ⟨h32, by omega, by omega, hm, hr, (rows_lh (by omega)).symm, rfl⟩
  have S := shAt n hn
  have p64 : (pathF s ((rows.map lh).take s) n).length ≤ 64 := by rw [← S.way]; exact downF_len _ _ _
  have s64 : s ≤ 64 := by omega
  obtain ⟨g1, t1, v, e1, P1, F1⟩ := sh_a T TD TW TP hk h wf p d room wr O name ct rows vo L RO big rl s n hn hs root hr _ hE
  generalize hlf : lh (rows.getD n []) = leaf at *
  generalize hps : pathF s ((rows.map lh).take s) n = ps at *
  obtain ⟨t2, e2, ht2⟩ := sh_b T TD TW TP hk P1 S r32 p64 s64
  have P2 := P1.mv (Fr.refl _ _) ht2
  obtain ⟨g3, t3, e3, F3, ht3⟩ := sh_c T TD TW TP hk P2 S r32 p64 s64
  have P3 := P2.mv F3 ht3
  obtain ⟨g4, t4, vw, e4, F4, ht4, x15, Pw, uw⟩ := sh_e T TD TW TP hk P3 S r32 p64 s64
  have P4 := P3.mv F4 ht4
  have l4 := F4.len
  obtain ⟨g5, t5, vb, b18, e5, F5, ht5, x17, x18, D5, hb, h18, a18⟩ := sh_g T TD TW TP hk P4 S r32 p64 s64
  obtain ⟨g6, t6, other, bad, e6, F6, ht6, D6, a18', ol, bl, hne⟩ := sh_h T TD TW TP TG TF hk P4 S r32 p64 s64 F5 ht5 vb b18 x17 x18 D5 hb h18 a18
  have l6 := F6.len
  obtain ⟨g7, t7, e7, F7, ht7⟩ := sh_i T TD TW TP hk P4 S r32 p64 s64 F6 (fun j hj => (ht6 j (.inl hj)).trans (ht5 j (.inl hj))) vb vw b18 g3.bs.length ((ht6 15 (by omega)).trans ((ht5 15 (by omega)).trans x15)) ((ht6 17 (by omega)).trans x17) ((ht6 18 (by omega)).trans x18) other bad D6 a18' ol bl hne Pw F6 (by omega)
  have P7 := P4.mv F7 ht7
  have G4 : Fr h g4 (fun _ => False) := (F1.trans F3 (fun _ h => h) (fun _ h _ => h)).trans F4 (fun _ h => h) (fun _ h _ => h)
  have G7 : Fr h g7 (fun _ => False) := G4.trans F7 (fun _ h => h) (fun _ h _ => h)
  rcases sh_j T TD TW TP hk P7 S r32 p64 s64 with e8 | ⟨hi, t8, e8, ht8, x22⟩
  · refine ⟨g7, ?_, G7⟩
    rw [e1, e2, e3, e4, e5, e6, e7, e8]
  · have P8 := P7.mv (Fr.refl _ _) ht8
    have hm : (n + 1) % s < s := Nat.mod_lt _ (by omega)
    generalize (n + 1) % s = m at *
    have S' := shAt m hm
    have o64 : (pathF s ((rows.map lh).take s) m).length ≤ 64 := by rw [← S'.way]; exact downF_len _ _ _
    have oth' := S.other S' hi 64 p64 o64
    have L7 := L.fr G7 fun _ _ h => h
    obtain ⟨ga, g9, t9, va, vq, b24, e9, Fa, Fb, ht9, x23, x24, x25, x26, Pa, a24, Dq⟩ := sh_l T TD TW TP hk P8 S r32 p64 s64 d room wr O name ct rows L7 m hm hs rl x22 oth'.1
    have F89 : Fr g7 g9 (fun _ => False) := Fa.trans Fb (fun _ h => h) (fun _ h _ => h)
    have P9 := P8.mv F89 (fun j hj => ht9 j (.inl hj))
    have G9 : Fr h g9 (fun _ => False) := G7.trans F89 (fun _ h => h) (fun _ h _ => h)
    have RO9 := RO.fr G9 fun _ _ h => h
    have y22 := (ht9 22 (.inr rfl)).trans x22
    have l9 := F89.len
    obtain ⟨gm1, gm2, g10, t10, vr, e10, F10, lm, Pr, Fm, lm', ht10, x27⟩ := sh_m T TD TW TP hk P9 S r32 p64 s64 rows RO9 big rl m b24 va vq _ (by omega) S' o64 y22 x23 x24 x25 x26 Dq
    have P10 := P9.mv F10 (fun j hj => ht10 j (by omega))
    have G10 : Fr h g10 (fun _ => False) := G9.trans F10 (fun _ h => h) (fun _ h _ => h)
    have RO10 := RO.fr G10 fun _ _ h => h
    have Pr' := (Pr.fr Fm (fun j a b hc => by omega)).mono (q' := g7.bs.length) (by omega)
    have Pa' := Pa.fr (Fb.trans F10 (S'' := fun _ => False) (fun _ h => h) (fun _ h _ => h)) (fun _ _ _ h => h)
    have cA := climbF_len 64 m s leaf ps
    have cB := climbF_len 64 m s (lh (rows.getD m [])) (pathF s ((rows.map lh).take s) m)
    have l10 := F10.len
    have l7 := G7.len
    obtain ⟨g11, t11, w, e11, F11, ht11, x29, Pz⟩ := sh_n T TD TW TP hk P10 S r32 p64 s64 rows RO10 big m g7.bs.length va vr _ _ (by omega) (by omega) S.leaf32 ((ht10 22 (by omega)).trans y22) ((ht10 23 (by omega)).trans x23) x27 Pa' Pr' (by omega) (by omega) (by omega)
    have P11 := P10.mv F11 (fun j hj => ht11 j (by omega))
    have G11 : Fr h g11 (fun _ => False) := G10.trans F11 (fun _ h => h) (fun _ h _ => h)
    have e12 := sh_o T TD TW TP hk P11 S r32 p64 s64 rows (RO.fr G11 fun _ _ h => h) big m g7.bs.length b24 w _ _ (by omega) (by omega) hlf.symm ((ht11 22 (by omega)).trans ((ht10 22 (by omega)).trans y22)) ((ht11 24 (by omega)).trans ((ht10 24 (by omega)).trans x24)) ((ht11 26 (by omega)).trans ((ht10 26 (by omega)).trans x26)) x29 (F11.get (F10.get a24 (fun h => h)) (fun h => h)) Pz (by omega) (by omega)
      (fun y hy => by have := climbF_of _ _ _ _ _ S.leaf32 S.ps32 y hy; omega) (fun y hy => by have := climbF_of _ _ _ _ _ S'.leaf32 S'.ps32 y hy; omega) oth'.2
    refine ⟨g11, ?_, G11⟩
    rw [e1, e2, e3, e4, e5, e6, e7, e8, e9, R_split (c := pk15) (a := s1 pk15) (b := s2 pk15) rfl, e10, R_split (c := s2 pk15) (a := s1 pk16) (b := pk17) rfl]
    exact e11.trans e12
end Go.Ab.Aud

namespace Go.Ab.Aud
open Go.Sha
def fb0 : ACode := blkIn (s1 (s2 lp5_0))
def fb1 : ACode := s2 fb0
def fb2 : ACode := s2 fb1
def fb3 : ACode := s2 fb2
def fb4 : ACode := s2 fb3
def fb5 : ACode := s2 fb4
def fb6 : ACode := s2 fb5
def fb7 : ACode := s2 fb6
def fb8 : ACode := s2 fb7
def fb9 : ACode := s2 fb8
def finc : ACode := s2 (s2 lp5_0)
/-- where the loop stands -/
structure FS (C : Ctx) (g : AHeap) (t : List Value) (bE p d room wr : Nat) (O : Nat → Prop) (name ct : List UInt8) (rows : List (List UInt8)) (vo : Value) (E : List Value) (i : Nat) : Prop where
  aE : g.at bE = some (.cells E 65)
  L : LogAt g O p d name ct (rows.map lh) room wr
  RO : RowsO C.old g vo rows
  t1 : tg t 1 = .pointer (some ⟨bE, 0, some 0⟩)
  t3 : tg t 3 = .pointer (some ⟨p, 0, some 0⟩)
  t4 : tg t 4 = vo
  t5 : tg t 5 = iv i
  wf : g.lo ≤ g.bs.length
theorem FS.mv {C : Ctx} {g g' : AHeap} {t t' : List Value} {bE p d room wr : Nat} {O : Nat → Prop} {name ct : List UInt8} {rows : List (List UInt8)} {vo : Value} {E : List Value} {i i' : Nat} (H : FS C g t bE p d room wr O name ct rows vo E i) (f : Fr g g' (fun _ => False)) (t1 : tg t' 1 = tg t 1) (t3 : tg t' 3 = tg t 3) (t4 : tg t' 4 = tg t 4) (t5 : tg t' 5 = iv i') :
    FS C g' t' bE p d room wr O name ct rows vo E i' :=
  ⟨f.get H.aE (fun h => h), H.L.fr f (fun _ _ h => h), H.RO.fr f (fun _ _ h => h), t1.trans H.t1, t3.trans H.t3, t4.trans H.t4, t5, by rw [f.lo]; have := f.len; have := H.wf; omega⟩
/-- what one round of the loop has laid -/
structure FR (C : Ctx) (g : AHeap) (t : List Value) (b8 b10 sz om : Nat) (hroot oroot : List UInt8) (v : Value) (ps : List (List UInt8)) : Prop where
  t6 : tg t 6 = uv sz
  t7 : tg t 7 = uv om
  t8 : tg t 8 = .pointer (some ⟨b8, 0, some 0⟩)
  t9 : tg t 9 = iv 0
  t10 : tg t 10 = .pointer (some ⟨b10, 0, some 0⟩)
  t11 : tg t 11 = iv 0
  t12 : tg t 12 = v
  t13 : tg t 13 = iv 0
  a8 : g.at b8 = some (.cells (uv sz :: bytesVals hroot) 36)
  a10 : g.at b10 = some (.cells (uv om :: bytesVals oroot) 36)
  D : DigV C.old g v ps
theorem FR.mv {C : Ctx} {g g' : AHeap} {t t' : List Value} {b8 b10 sz om : Nat} {hroot oroot : List UInt8} {v : Value} {ps : List (List UInt8)} (H : FR C g t b8 b10 sz om hroot oroot v ps) (f : Fr g g' (fun _ => False)) (ht : ∀ j, 6 ≤ j → j ≤ 13 → tg t' j = tg t j) : FR C g' t' b8 b10 sz om hroot oroot v ps :=
  ⟨(ht 6 (by omega) (by omega)).trans H.t6, (ht 7 (by omega) (by omega)).trans H.t7, (ht 8 (by omega) (by omega)).trans H.t8, (ht 9 (by omega) (by omega)).trans H.t9, (ht 10 (by omega) (by omega)).trans H.t10, (ht 11 (by omega) (by omega)).trans H.t11, (ht 12 (by omega) (by omega)).trans H.t12, (ht 13 (by omega) (by omega)).trans H.t13, f.get H.a8 (fun h => h), f.get H.a10 (fun h => h), H.D.fr f⟩
variable {C : Ctx} (T : Tab_LLog C) (TD : Tab_LDig C) (TW : Tab_LLaw C) (TG : Tab_LGrow C) (TF : Tab_LFoll C) (hk : ∀ j, j < 64 → C.old 0 j = some (wv (kW j)))
include T TD TW TG TF hk
section
variable (g : AHeap) (t : List Value) (bE p d room wr : Nat) (O : Nat → Prop) (name ct : List UInt8) (rows : List (List UInt8)) (vo rv szv atv oth : Value) (bit : Int) (szs ats : List Nat) (i : Nat) (H : FS C g t bE p d room wr O name ct rows vo [rv, szv, atv, oth, zv bit] i) (HS : ArgN C.old szv szs) (HA : ArgN C.old atv ats) (rl : rows.length ≤ 64)
include H HS HA rl
end
section
variable (g : AHeap) (t : List Value) (b8 b10 sz om : Nat) (leaves : List (List UInt8)) (v : Value) (h32 : ∀ y, y ∈ leaves → y.length = 32) (hl : leaves.length ≤ 64) (h1 : om ≤ sz) (h2 : sz ≤ leaves.length) (W : FR C g t b8 b10 sz om (rootL (leaves.take sz)) (rootL (leaves.take om)) v (prfF leaves om sz)) (wf : g.lo ≤ g.bs.length)
include h32 hl h1 h2 W wf
end
end Go.Ab.Aud

namespace Go.Ab.Aud
open Go.Sha
variable {C : Ctx} (T : Tab_LLog C)
section
variable (h : AHeap) (O : Nat → Prop) (p d room wr : Nat) (name content : List UInt8) (leaves : List (List UInt8)) (H : LogAt h O p d name content leaves room wr)
include T H
theorem len_spec (hl : leaves.length < 2 ^ 40) : D C 35 [.pointer (some ⟨p, 0, some 0⟩)] h = some (uv leaves.length, h) := by
  obtain ⟨w, m, fp, fw, fz, keep, o, c, es, ls, H⟩ := H
  have hpl := get_lt H.hp
  have e1 := lock_spec T h p 0 fp _ H.hp lc0 H.lop
  rw [lcs0] at e1
  generalize hh1 : h.put p (.cells (lc 1 w es ls 0) (fp + 1)) = h1 at e1
  have f1 : Fr h h1 (fun j => j = p) := by rw [← hh1]; exact Fr.put rfl
  have p1 : h1.at p = some (.cells (lc 1 w es ls 0) (fp + 1)) := by rw [← hh1]; exact put_self hpl
  have e3 := unlock_spec T h1 p 0 fp _ p1 lc0 (by rw [f1.lo]; exact H.lop)
  rw [lcs0, ← hh1, put_put, put_eq H.hp, hh1] at e3
  obtain ⟨ec, eo⟩ := H.eo
  have ue := eo.und
  have le := eo.lenV
  have q3 : rd1 (some (.cells (lc 1 w es ls 0) (fp + 1))) 3 0 = some es := rfl
  rw [D_fn T.h35]
  simp [b35, Dc_ok, e1, dfrS_ok T.h75, p1, q3, stp_ok ue, ue, le, cvt_iu (show leaves.length < 18446744073709551616 by omega), e3, r35]
end
end Go.Ab.Aud

namespace Go.Ab.Aud
open Go.Sha
def pb0 : ACode := blkIn (s1 (s2 lp7_1))
def pb1 : ACode := s2 pb0
def pb2 : ACode := s2 pb1
def pb3 : ACode := s2 pb2
theorem lp70_e : lp7_0 = .seq (s1 lp7_0) (s2 lp7_0) := rfl
theorem lp71_e : lp7_1 = .seq (s1 lp7_1) (.seq (.block 1 pb0) k7_0) := rfl
theorem pb_e : pb0 = .seq (s1 pb0) (.seq (s1 pb1) (.seq (s1 pb2) (.seq (s1 pb3) (.block 2 (.loop lp7_0))))) := rfl
variable {C : Ctx} (T : Tab_LLog C) (TD : Tab_LDig C) (TW : Tab_LLaw C) (TP : Tab_LProv C) (TG : Tab_LGrow C) (TF : Tab_LFoll C) (hk : ∀ j, j < 64 → C.old 0 j = some (wv (kW j))) (hp : ∀ j, j < 16 → C.old 1 j = some (wv (crcW j)))
section
include T TD TW TP TG TF hk
/-- every number of a size -/
theorem prv_in (p d room wr bE b7 s i : Nat) (O : Nat → Prop) (name ct : List UInt8) (rows : List (List UInt8)) (vo rv szv atv oth : Value) (bit : Int) (root : List UInt8) (rl : rows.length ≤ 64) (big : ∀ r, r ∈ rows → r.length ≤ 16384) (hs : s ≤ rows.length) (hr : root = rootL ((rows.map lh).take s)) (hE : [rv, szv, atv, oth, zv bit].all okCell = true) :
    ∀ (k n : Nat) (g : AHeap) (t : List Value), n + k = s → FS C g t bE p d room wr O name ct rows vo [rv, szv, atv, oth, zv bit] i → tg t 6 = uv s → tg t 7 = .pointer (some ⟨b7, 0, some 0⟩) → g.at b7 = some (.cells (uv s :: bytesVals root) 36) → tg t 9 = uv n →
    ∃ g' t', (∀ K, R C r7 (.inLoop lp7_0 :: .inBlock 2 :: K) t [] g = R C r7 K t' [] g') ∧ Fr g g' (fun _ => False) ∧ FS C g' t' bE p d room wr O name ct rows vo [rv, szv, atv, oth, zv bit] i := by
  have h32 : ∀ y, y ∈ rows.map lh → y.length = 32 := fun y hy => by
    obtain ⟨z, _, hz⟩ := List.mem_map.1 hy
    rw [← hz]; exact sha_length _
  have r32 : root.length = 32 := by rw [hr]; exact rootL_length _ (mem_take32 h32 s)
  intro k
  induction k with
  | zero =>
    intro n g t hn H t6 t7 a7 t9
    have hns : n = s := by omega
    subst hns
    refine ⟨g, ?_⟩
    obtain ⟨t', e, x1, x3, x4, x5⟩ : ∃ t', (∀ K, R C r7 (.inLoop lp7_0 :: .inBlock 2 :: K) t [] g = R C r7 K t' [] g) ∧ (tg t' 1 = tg t 1 ∧ tg t' 3 = tg t 3 ∧ tg t' 4 = tg t 4 ∧ tg t' 5 = tg t 5) := by
      refine ex_step (fun k => R_open lp70_e) ?_
      simp [s1, s2, lp7_0, t6, t9]
      exact ⟨_, fun _ => rfl, by simp, by simp, by simp, by simp⟩
    exact ⟨t', e, Fr.refl _ _, H.mv (Fr.refl _ _) x1 x3 x4 (x5.trans H.t5)⟩
  | succ k ih =>
    intro n g t hn H t6 t7 a7 t9
    obtain ⟨g1, e1, F1⟩ := shown_spec T TD TW TP TG TF hk g H.wf p d room wr O name ct rows vo H.L H.RO big rl s n (by omega) hs root hr rv szv atv oth bit hE
    have uvo : isUnd vo = false := by obtain ⟨_, o, _⟩ := H.RO; exact o.und
    have p7 := hd_rd (s := s) (fz := 36) r32
    have rE : rdN (some (.cells [rv, szv, atv, oth, zv bit] 65)) 0 0 5 = some [rv, szv, atv, oth, zv bit] := rfl
    have hlt : n < s := by omega
    obtain ⟨t', e, x1, x3, x4, x5, x6, x7, x9⟩ : ∃ t', (∀ K, R C r7 (.inLoop lp7_0 :: K) t [] g = R C r7 (.inLoop lp7_0 :: K) t' [] g1) ∧ (tg t' 1 = tg t 1 ∧ tg t' 3 = tg t 3 ∧ tg t' 4 = tg t 4 ∧ tg t' 5 = tg t 5 ∧ tg t' 6 = tg t 6 ∧ tg t' 7 = tg t 7 ∧ tg t' 9 = uv (n + 1)) := by
      refine ex_step (fun k => R_open lp70_e) ?_
      simp [s1, s2, lp7_0, t6, t7, t9, hlt, H.t1, H.t3, H.t4, stp_ok uvo, uvo, a7, p7, H.aE, rE, Dc_ok, e1, uv_add (a := n) (b := 1) (by omega)]
      exact ⟨_, fun _ => rfl, by simp [H.t1], by simp [H.t3], by simp [H.t4], by simp, by simp [t6], by simp [t7], by simp⟩
    obtain ⟨g2, t2, e2, F2, H2⟩ := ih (n + 1) g1 t' (by omega) (H.mv F1 x1 x3 x4 (x5.trans H.t5)) (x6.trans t6) (x7.trans t7) (F1.get a7 (fun h => h)) x9
    exact ⟨g2, t2, fun K => (e _).trans (e2 K), F1.trans F2 (fun _ h => h) (fun _ h _ => h), H2⟩
/-- a round of the loop -/
theorem prv_round (g : AHeap) (t : List Value) (bE p d room wr : Nat) (O : Nat → Prop) (name ct : List UInt8) (rows : List (List UInt8)) (vo rv szv atv oth : Value) (bit : Int) (szs : List Nat) (i : Nat) (H : FS C g t bE p d room wr O name ct rows vo [rv, szv, atv, oth, zv bit] i) (HS : ArgN C.old szv szs) (rl : rows.length ≤ 64) (big : ∀ r, r ∈ rows → r.length ≤ 16384)
    (hE : [rv, szv, atv, oth, zv bit].all okCell = true) (h1 : i < szs.length) (h2 : i < 8) (h3 : 0 < rows.length) :
    ∃ g' t', (∀ K, R C r7 (.inLoop lp7_1 :: .inBlock 0 :: K) t [] g = R C r7 (.inLoop lp7_1 :: .inBlock 0 :: K) t' [] g') ∧ FS C g' t' bE p d room wr O name ct rows vo [rv, szv, atv, oth, zv bit] (i + 1) := by
  have wf := H.wf
  obtain ⟨asz, scp, hsv, rs, bs⟩ := HS.get h1
  have us := HS.und
  have ls := HS.lenV
  have q1 : rd1 (some (.cells [rv, szv, atv, oth, zv bit] 65)) 1 0 = some szv := rfl
  have uvo : isUnd vo = false := by obtain ⟨_, o, _⟩ := H.RO; exact o.und
  have lvo : lenV vo = some (iv rows.length) := by obtain ⟨_, o, _⟩ := H.RO; exact o.lenV
  generalize szs.getD i 0 = s0 at rs bs
  have m1 := Nat.mod_lt s0 h3
  have e1 := uv_rem (a := s0) (b := rows.length) h3
  generalize s0 % rows.length = s' at m1 e1
  have h32 : ∀ y, y ∈ rows.map lh → y.length = 32 := fun y hy => by
    obtain ⟨z, _, hz⟩ := List.mem_map.1 hy
    rw [← hz]; exact sha_length _
  have hml : (rows.map lh).length = rows.length := by simp
  have rh := rootL_length _ (mem_take32 h32 (1 + s'))
  have hz : Value.int .u8 0 = bv 0 := rfl
  generalize hZ : ABlock.cells (uv 0 :: List.replicate 32 (bv 0)) 36 = Z
  have hZ0 := hZ
  simp [List.replicate] at hZ
  obtain ⟨a, ea, fa⟩ := head_spec T TD hk g O p d room wr name ct (rows.map lh) H.L (1 + s') (by omega) (by omega) wf
  obtain ⟨a1, ha1, z8, A8, l1, o1, f1⟩ := new_step (g := a) (vs := uv (1 + s') :: bytesVals (rootL ((rows.map lh).take (1 + s')))) hZ0
  have w8 := wr_all hZ0 (vs := uv (1 + s') :: bytesVals (rootL ((rows.map lh).take (1 + s')))) (by simp [rh]) (by rw [List.all_cons, bytes_ok]; rfl)
  have F1 : Fr g a1 (fun _ => False) := fa.trans f1 (fun _ h => h) (fun _ h _ => h)
  have al := fa.len
  have ao := fa.lo
  have c1 : g.lo ≤ a.bs.length := by omega
  have sz63 : rows.length < 18446744073709551616 := by omega
  have hE1 := H.aE
  rw [hsv] at hE1 us q1
  have q1' : rd1 (some (.cells [rv, .slice (some asz) szs.length scp, atv, oth, zv bit] 65)) 1 0 = some (.slice (some asz) szs.length scp) := rfl
  have r0 := hd_0 (s := 1 + s') (r := rootL ((rows.map lh).take (1 + s'))) (fz := 36)
  obtain ⟨t', e, x1, x3, x4, x5, x6, x7, x9⟩ : ∃ t', (∀ K, R C r7 (.inLoop lp7_1 :: K) t [] g = R C r7 (.inLoop lp7_0 :: .inBlock 2 :: .inBlock 1 :: .code k7_0 :: .inLoop lp7_1 :: K) t' [] a1) ∧ (tg t' 1 = tg t 1 ∧ tg t' 3 = tg t 3 ∧ tg t' 4 = tg t 4 ∧ tg t' 5 = tg t 5 ∧ tg t' 6 = uv (1 + s') ∧ tg t' 7 = .pointer (some ⟨a.bs.length, 0, some 0⟩) ∧ tg t' 9 = uv 0) := by
    refine ex_step (fun k => R_open lp71_e) ?_
    rw [pb_e]
    generalize hL0 : ACode.loop lp7_0 = L0
    simp [lp7_1, pb0, pb1, pb2, pb3, blkIn, s1, s2, H.t1, H.t3, H.t4, H.t5, hE1, q1', h1, h2, ixS_iv h1, rs g, stp_ok uvo, lvo, h3, cvt_iu sz63, e1, uv_add (a := 1) (b := s') (by omega), Dc_ok, ea, hz, hZ, rh, writeN_wr, ao, c1, z8, w8, ha1, num_spec TW, A8, r0]
    rw [← hL0]
    simp
    exact ⟨_, fun _ => rfl, by simp [H.t1], by simp [H.t3], by simp [H.t4], by simp [H.t5], by simp, by simp, by simp⟩
  have H1 := H.mv F1 x1 x3 x4 (x5.trans H.t5)
  obtain ⟨g2, t2, e2, F2, H2⟩ := prv_in T TD TW TP TG TF hk p d room wr bE a.bs.length (1 + s') i O name ct rows vo rv szv atv oth bit _ rl big (by omega) rfl hE (1 + s') 0 a1 t' (by omega) H1 x6 x7 A8 x9
  obtain ⟨t3, e3, y⟩ : ∃ t3, (∀ K, R C r7 (.inBlock 1 :: .code k7_0 :: K) t2 [] g2 = R C r7 K t3 [] g2) ∧ (tg t3 1 = tg t2 1 ∧ tg t3 3 = tg t2 3 ∧ tg t3 4 = tg t2 4 ∧ tg t3 5 = iv (i + 1)) := by
    simp [k7_0, H2.t5, iv_add (a := i) (b := 1) (by omega)]
    exact ⟨_, fun _ => rfl, by simp, by simp, by simp, by simp⟩
  obtain ⟨y1, y3, y4, y5⟩ := y
  exact ⟨g2, t3, fun K => (e _).trans ((e2 _).trans (e3 _)), H2.mv (Fr.refl _ _) y1 y3 y4 y5⟩
theorem prv_loop (p d room wr bE : Nat) (O : Nat → Prop) (name ct : List UInt8) (rows : List (List UInt8)) (vo rv szv atv oth : Value) (bit : Int) (szs : List Nat) (HS : ArgN C.old szv szs) (rl : rows.length ≤ 64) (big : ∀ r, r ∈ rows → r.length ≤ 16384)
    (hE : [rv, szv, atv, oth, zv bit].all okCell = true) : ∀ (n i : Nat) (g : AHeap) (t : List Value), i + n = 8 → FS C g t bE p d room wr O name ct rows vo [rv, szv, atv, oth, zv bit] i →
    ∃ g' t', (∀ K, R C r7 (.inLoop lp7_1 :: .inBlock 0 :: K) t [] g = R C r7 K t' [] g') := by
  intro n
  have us := HS.und
  have ls := HS.lenV
  have q1 : rd1 (some (.cells [rv, szv, atv, oth, zv bit] 65)) 1 0 = some szv := rfl
  have out : ∀ (i : Nat) (g : AHeap) (t : List Value), FS C g t bE p d room wr O name ct rows vo [rv, szv, atv, oth, zv bit] i → ¬ (i < szs.length ∧ i < 8 ∧ 0 < rows.length) → ∃ g' t', (∀ K, R C r7 (.inLoop lp7_1 :: .inBlock 0 :: K) t [] g = R C r7 K t' [] g') := by
    intro i g t H hn
    have uvo : isUnd vo = false := by obtain ⟨_, o, _⟩ := H.RO; exact o.und
    have lvo : lenV vo = some (iv rows.length) := by obtain ⟨_, o, _⟩ := H.RO; exact o.lenV
    refine ⟨g, ?_⟩
    refine ex_step0 (fun k => R_open lp71_e) ?_
    by_cases h1 : i < szs.length
    · by_cases h2 : i < 8
      · have h3 : ¬ 0 < rows.length := fun h => hn ⟨h1, h2, h⟩
        have h3' : rows.length = 0 := by omega
        rw [h3'] at lvo
        simp [s1, lp7_1, H.t1, H.t4, H.t5, H.aE, q1, stp_ok us, us, ls, h1, h2, stp_ok uvo, lvo]
        exact ⟨_, fun _ => rfl⟩
      · simp [s1, lp7_1, H.t1, H.t4, H.t5, H.aE, q1, stp_ok us, us, ls, h1, h2]
        exact ⟨_, fun _ => rfl⟩
    · simp [s1, lp7_1, H.t1, H.t4, H.t5, H.aE, q1, stp_ok us, us, ls, h1]
      exact ⟨_, fun _ => rfl⟩
  induction n with
  | zero => intro i g t hi H; exact out i g t H (by omega)
  | succ n ih =>
    intro i g t hi H
    by_cases hc : i < szs.length ∧ i < 8 ∧ 0 < rows.length
    · obtain ⟨g1, t1, e1, H1⟩ := prv_round T TD TW TP TG TF hk g t bE p d room wr O name ct rows vo rv szv atv oth bit szs i H HS rl big hE hc.1 hc.2.1 hc.2.2
      obtain ⟨g2, t2, e2⟩ := ih (i + 1) g1 t1 (by omega) H1
      exact ⟨g2, t2, fun K => (e1 K).trans (e2 K)⟩
    · exact out i g t H hc
end
section
include T TD TW TP TG TF hk hp
theorem prv_all (hN : ∀ h, D C 147 [str nmA] h = some (.bool true, h)) (hNu : ∀ h, D C 147 [str nmAudit] h = some (.bool true, h)) (h : AHeap) (wf : h.lo ≤ h.bs.length) (rv szv atv oth : Value) (bit : Int) (rows0 : List (List UInt8)) (szs : List Nat) (HR : ArgR C.old rv rows0) (hrl : rows0.length < 2 ^ 63) (HS : ArgN C.old szv szs) (o3 : okCell atv = true) (o4 : okCell oth = true) :
    ∃ g', D C 7 [.agg ⟨[rv, szv, atv, oth, zv bit]⟩] h = some (.bool true, g') := by
  have ew := wakes_spec T TD TW hk hp
  rw [D_fn TP.h7]
  have o1 : okCell rv = true := by obtain ⟨a, cp, vs, h, _⟩ := HR; rw [h]; rfl
  have o2 := HS.okc
  have ur : isUnd rv = false := by obtain ⟨a, cp, vs, h, _⟩ := HR; rw [h]; rfl
  have hE : [rv, szv, atv, oth, zv bit].all okCell = true := by simp [o1, o2, o3, o4, okc_zv]
  generalize ha : h.push (.cells [rv, szv, atv, oth, zv bit] 65) = a
  have fa : Fr h a (fun _ => False) := by rw [← ha]; exact Fr.push
  have aat : a.at h.bs.length = some (.cells [rv, szv, atv, oth, zv bit] 65) := by rw [← ha]; exact push_self
  have al : a.bs.length = h.bs.length + 1 := by rw [← ha]; simp
  have ao := fa.lo
  have r0 : rd1 (some (.cells [rv, szv, atv, oth, zv bit] 65)) 0 0 = some rv := rfl
  obtain ⟨e, p, d, O, wr, ct, vo, e1, L, RO, fe, hO, hvo⟩ := laid_spec T TD TW hk hp a rv rows0 HR 40 (by omega) hrl (by omega) hNu
  have rl := laidF_len 40 200000 rows0
  have big := laidF_long 40 200000 rows0
  generalize laidF 40 200000 rows0 = rows at L RO rl big
  have el := fe.len
  have eo := fe.lo
  have uvo : isUnd vo = false := by obtain ⟨vs, o, _⟩ := RO; exact o.und
  have lvo : lenV vo = some (iv rows.length) := by obtain ⟨_, o, _⟩ := RO; exact o.lenV
  have e35 := len_spec T e O p d 16777216 wr nmAudit ct (rows.map lh) L (by simp; omega)
  rw [List.length_map] at e35
  obtain ⟨t, et, t1, t3, t4, t5⟩ : ∃ t, R C r7 [.code b7] [.agg ⟨[rv, szv, atv, oth, zv bit]⟩] [] h = R C r7 (.inLoop lp7_1 :: .inBlock 0 :: [.code k7_1]) t [] e ∧ tg t 1 = .pointer (some ⟨h.bs.length, 0, some 0⟩) ∧ tg t 3 = .pointer (some ⟨p, 0, some 0⟩) ∧ tg t 4 = vo ∧ tg t 5 = iv 0 := by
    simp [b7, o1, o2, o3, o4, okc_zv, ha, aat, r0, stp_ok ur, ur, Dc_ok, e1, stp_ok uvo, uvo, lvo, aeq_nilPs, e35, cvt_iu (n := rows.length) (by omega)]
    exact ⟨_, rfl, by simp, by simp, by simp, by simp⟩
  obtain ⟨g', t', e2⟩ := prv_loop T TD TW TP TG TF hk p d 16777216 wr h.bs.length O nmAudit ct rows vo rv szv atv oth bit szs HS (by omega) big hE 8 0 e t (by omega) ⟨fe.get aat (fun h => h), L, RO, t1, t3, t4, t5, by omega⟩
  rw [et, e2]
  refine ⟨g', ?_⟩
  simp [k7_1, Dc0, ew _ hN, r7]
end
end Go.Ab.Aud
