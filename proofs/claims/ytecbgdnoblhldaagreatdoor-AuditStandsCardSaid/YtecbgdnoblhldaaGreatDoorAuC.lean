/-
  Steps of the proof of AuditStandsCardSaid: what functions of the program do in the abstract machine, and the laws between; no condition beside those that each theorem names.
-/
import Derived.Test.YtecbgdnoblhldaaGreatDoorAuB
import Derived.Test.YtecbgdnoblhldaaGreatDoorLit

set_option linter.unusedSimpArgs false
set_option linter.unusedVariables false
set_option linter.unusedSectionVars false

namespace Go.Ab.Aud
open Go.Sha
theorem sl_zero {old : Old} {h : AHeap} {k : Nat} {a : Addr} (ha : isRest a 0 = false) : SlR old h k (.slice (some a) 0 0) [] := by
  refine ⟨by simp, ?_⟩
  rw [ha, if_neg (by simp)]
  exact ⟨Nat.le_refl _, fun h => absurd rfl h⟩
/-- a part of a slice with its room cut off -/
theorem SlR.part3 {old : Old} {h : AHeap} {k n cp : Nat} {a : Option Addr} {c : List Value} (w : SlR old h k (.slice a n cp) c) {l u : Nat} (h1 : l ≤ u) (h2 : u ≤ n) :
    ∃ a' cp', sliceV h k (.slice a n cp) (some (l : Int)) (some (u : Int)) (some (u : Int)) = some (.slice a' (u - l) cp') ∧ SlR old h k (.slice a' (u - l) cp') ((c.drop (l * k)).take ((u - l) * k)) := by
  cases a with
  | none =>
    obtain ⟨rfl, rfl, rfl⟩ := w
    obtain rfl : u = 0 := by omega
    obtain rfl : l = 0 := by omega
    exact ⟨none, 0, by simp [sliceV], rfl, rfl, by simp⟩
  | some a =>
    obtain ⟨a', cp', e, s, _⟩ := w.part (lo := some (l : Int)) (hi := some (u : Int)) rfl rfl h1 h2
    unfold sliceV at e ⊢
    simp only [Option.getD_some] at e ⊢
    by_cases hr : isRest a cp = true
    · rw [if_pos hr] at e ⊢
      split at e
      · rename_i hc
        rw [if_pos hc, if_pos ⟨Int.le_refl _, hc.2.2.1⟩]
        by_cases hlu : l = u
        · subst hlu
          rw [if_pos rfl, Nat.sub_self, Nat.zero_mul, List.take_zero]
          exact ⟨_, _, rfl, sl_zero rfl⟩
        · rw [if_neg (by omega)]
          have hul : ((u : Int) - (l : Int)).toNat = u - l := by omega
          rw [hul] at e ⊢
          cases e
          refine ⟨_, _, rfl, s.1, ?_⟩
          have hx : isRest (adda a (Int.toNat (l : Int) * k)) (u - l) = false := by
            unfold isRest
            split
            · simp; omega
            · rfl
          rw [hx, if_neg (by simp)]
          exact ⟨Nat.le_refl _, fun hn => s.read hn⟩
      · cases e
    · rw [if_neg hr] at e ⊢
      split at e
      · rename_i hc
        rw [if_pos ⟨hc.1, hc.2.1, Int.le_refl _, by simp at hc; omega⟩]
        by_cases hlu : l = u
        · subst hlu
          rw [if_pos rfl, Nat.sub_self, Nat.zero_mul, List.take_zero]
          split
          · rename_i hs
            exact ⟨_, _, rfl, sl_zero (by unfold isRest; rw [hs])⟩
          · exact ⟨_, _, rfl, sl_zero rfl⟩
        · rw [if_neg (by omega)]
          have hul : ((u : Int) - (l : Int)).toNat = u - l := by omega
          rw [if_neg (by simp at hc ⊢; omega)] at e
          rw [hul] at e ⊢
          cases e
          refine ⟨_, _, rfl, s.1, ?_⟩
          have hx : isRest (adda a (Int.toNat (l : Int) * k)) (u - l) = false := by
            unfold isRest
            split
            · simp; omega
            · rfl
          rw [hx, if_neg (by simp)]
          exact ⟨Nat.le_refl _, fun hn => s.read hn⟩
      · cases e
variable {C : Ctx} (T : Tab_LLog C)
include T in
theorem sclone_spec (h : AHeap) (l : List UInt8) (a : Option Addr) (n cp : Nat) (hs : SlR C.old h 1 (.slice a n cp) (bytesVals l)) (hwf : h.lo ≤ h.bs.length) (hn : n < 2 ^ 39) :
    ∃ h' v', D C 115 [.slice a n cp] h = some (v', h') ∧ Own h' 5 1 v' n (bytesVals l) ∧ Fr h h' (fun _ => False) ∧ (∀ j, blkOf v' = some j → h.bs.length ≤ j) := by
  have hlen : l.length = n := by have := hs.len; simpa using this
  rw [D_fn T.h115]
  cases a with
  | none =>
    obtain ⟨rfl, rfl, hc⟩ := hs
    refine ⟨h, .slice none 0 0, by simp [b115, r115], ?_, Fr.refl _ _, fun j hj => by cases hj⟩
    rw [hc]; exact .nil
  | some a =>
    obtain ⟨v', h1, e1, o1, f1, b1⟩ := append_own (old := C.old) (h := h) (e := 5) (k := 1) (bytes := 1) (x := .slice (some a) n cp) (m := n) (new := bytesVals l) .empty (by omega) rfl (fun hn => hs.src hn) (list_empty hlen) (by simp [hlen]) bytes_ok (by simp [sizeLim]; omega) hwf
    refine ⟨h1, v', ?_, by simpa using o1, f1.mono (fun j hj _ => by cases hj), fun j hj => ?_⟩
    · simp [b115, fillCells, e1, stp_ok o1.und, r115]
    · rcases b1 with b1 | b1 <;> rw [b1] at hj <;> cases hj
      exact Nat.le_refl _
end Go.Ab.Aud

namespace Go.Ab.Aud
open Go.Sha
theorem part8 {a b c : List UInt8} {k n : Nat} (hk : a.length = k) (hn : b.length = n) : ((a ++ (b ++ c)).drop k).take n = b := by
  subst hk; subst hn
  simp
theorem numF_be4 {x : Nat} (h : x < 2 ^ 32) : numF (be 4 x) = x := by
  simp [numF, be]
  omega
theorem frame_parts (r rest : List UInt8) : frame r ++ rest = [0xc9] ++ (be 4 r.length ++ (be 4 (crc (0xc9 :: be 4 r.length)).toNat ++ (r ++ (be 4 (crc r).toNat ++ rest)))) := by
  simp [frame]
variable {C : Ctx} (T : Tab_LLog C) (TO : Tab_LOpen C) (hp : ∀ j, j < 16 → C.old 1 j = some (wv (crcW j)))
include T TO hp
set_option maxHeartbeats 4000000 in
/-- a record is taken off -/
theorem unframe_spec (h : AHeap) (r rest : List UInt8) (a : Option Addr) (n cp : Nat) (hs : SlR C.old h 1 (.slice a n cp) (bytesVals (frame r ++ rest))) (hr : r.length ≤ 16777216) (hn : n < 2 ^ 38) (hwf : h.lo ≤ h.bs.length) :
    ∃ h' v, D C 149 [.slice a n cp] h = some (.tuple #[v, Go.Ab.iv (r.length + 13), Go.Ab.iv 0], h') ∧ Own h' 5 1 v r.length (bytesVals r) ∧ Fr h h' (fun _ => False) ∧ (∀ j, blkOf v = some j → h.bs.length ≤ j) := by
  have hlen : (frame r ++ rest).length = n := by have := hs.len; simpa using this
  have hfl := frame_length r
  rw [List.length_append, hfl] at hlen
  have hc1 : (crc (0xc9 :: be 4 r.length)).toNat < 2 ^ 32 := BitVec.isLt _
  have hc2 : (crc r).toNat < 2 ^ 32 := BitVec.isLt _
  have fp := frame_parts r rest
  have b4 := fun x => be_length 4 x
  obtain ⟨a1, cp1, e1, s1⟩ := sl_bytes hs (lo := none) (hi := some (5 : Int)) (x := 0) (y := 5) rfl rfl (by omega) (by omega)
  obtain ⟨a2, cp2, e2, s2⟩ := sl_bytes hs (lo := some (5 : Int)) (hi := some (9 : Int)) (x := 5) (y := 9) rfl rfl (by omega) (by omega)
  obtain ⟨a3, cp3, e3, s3⟩ := sl_bytes hs (lo := some (1 : Int)) (hi := some (5 : Int)) (x := 1) (y := 5) rfl rfl (by omega) (by omega)
  obtain ⟨a4, cp4, e4, s4⟩ := sl_bytes hs (lo := some (9 : Int)) (hi := some (9 + (r.length : Int))) (x := 9) (y := 9 + r.length) rfl (by simp) (by omega) (by omega)
  obtain ⟨a5, cp5, e5, s5⟩ := sl_bytes hs (lo := some (9 + (r.length : Int))) (hi := some (9 + (r.length : Int) + 4)) (x := 9 + r.length) (y := 9 + r.length + 4) (by simp) (by simp) (by omega) (by omega)
  obtain ⟨a6, cp6, e6, s6⟩ := SlR.part3 hs (l := 9) (u := 9 + r.length) (by omega) (by omega)
  have q1 : ((frame r ++ rest).drop 0).take (5 - 0) = 0xc9 :: be 4 r.length := by
    rw [fp, ← List.append_assoc]; exact part8 (a := []) (b := 0xc9 :: be 4 r.length) rfl (by simp [b4])
  have q2 : ((frame r ++ rest).drop 5).take (9 - 5) = be 4 (crc (0xc9 :: be 4 r.length)).toNat := by
    rw [fp, ← List.append_assoc]; exact part8 (by simp [b4]) (b4 _)
  have q3 : ((frame r ++ rest).drop 1).take (5 - 1) = be 4 r.length := by
    rw [fp]; exact part8 rfl (b4 _)
  have q4 : ((frame r ++ rest).drop 9).take (9 + r.length - 9) = r := by
    rw [fp, ← List.append_assoc, ← List.append_assoc]; exact part8 (by simp [b4]) (by omega)
  have q5 : ((frame r ++ rest).drop (9 + r.length)).take (9 + r.length + 4 - (9 + r.length)) = be 4 (crc r).toNat := by
    rw [fp, ← List.append_assoc, ← List.append_assoc, ← List.append_assoc]; exact part8 (by simp [b4]; omega) (by rw [b4]; omega)
  have q6 : ((bytesVals (frame r ++ rest)).drop (9 * 1)).take ((9 + r.length - 9) * 1) = bytesVals r := by
    rw [Nat.mul_one, Nat.mul_one]
    have : ((bytesVals (frame r ++ rest)).drop 9).take (9 + r.length - 9) = bytesVals (((frame r ++ rest).drop 9).take (9 + r.length - 9)) := by simp [bytesVals, List.map_drop, List.map_take]
    rw [this, q4]
  rw [q1] at s1; rw [q2] at s2; rw [q3] at s3; rw [q4] at s4; rw [q5] at s5; rw [q6] at s6
  have z4 : 9 + r.length - 9 = r.length := by omega
  have z5 : 9 + r.length + 4 - (9 + r.length) = 4 := by omega
  rw [z4] at e4 s4 e6 s6; rw [z5] at e5 s5
  have w1 := crc_spec T hp h _ a1 _ cp1 s1 (by omega)
  have w2 := rnum_spec TO h _ a2 cp2 (by rw [b4]; exact s2) (by rw [b4]; omega)
  have w3 := rnum_spec TO h _ a3 cp3 (by rw [b4]; exact s3) (by rw [b4]; omega)
  have w4 := crc_spec T hp h _ a4 _ cp4 s4 (by omega)
  have w5 := rnum_spec TO h _ a5 cp5 (by rw [b4]; exact s5) (by rw [b4]; omega)
  rw [b4, numF_be4 (by omega)] at w2 w3 w5
  obtain ⟨h', v, ec, o, f, bv'⟩ := sclone_spec T h r a6 r.length cp6 s6 hwf (by omega)
  refine ⟨h', v, ?_, o, f, bv'⟩
  rw [D_fn TO.h149]
  obtain ⟨a', rfl⟩ := hs.ex (by omega)
  have rd : read1 C.old h (adda a' 0) = some (bv 201) := by
    have := readN_read1 (hs.read (by omega)) (i := 0) (by omega)
    rw [this, fp]; rfl
  have h201 : Value.int .u8 201 = bv 201 := rfl
  simp only [Nat.sub_zero, Nat.reduceSub] at e1 e2 e3 w1
  simp at e6
  have uv' := o.und
  simp [b149, show ¬ n = 0 by omega, ixS_iv (show 0 < n by omega), rd, h201, bv_neq, show ¬ n < 9 by omega, e1, e2, e3, Dc_ok, w1, w2, w3, cvt_ui (show r.length < 9223372036854775808 by omega), iv_add (a := 9) (b := r.length) (by omega), show ¬ 16777216 < r.length by omega, iv_add (a := 9 + r.length) (b := 4) (by omega), show ¬ n < 9 + r.length + 4 by omega, e4, e5, w4, w5, e6, ec, stp_ok uv', uv', r149]
  rw [show 9 + r.length + 4 = r.length + 13 by omega]
end Go.Ab.Aud

namespace Go.Ab.Aud
open Go.Sha
section
variable {h : AHeap} {O : Nat → Prop} {p w d m fp fw fz room wr err sz : Nat} {arm keep arm' keep' : Value} {off off' woff : Bool} {name : List UInt8} {o : Option (Value × Nat)} {c : Nat} {content : List UInt8} {rows : List (List UInt8)} {es ls : Value}
theorem LogIs.setd (H : LogIs h O p w d m fp fw fz room wr arm keep off woff err sz name o c content rows es ls) :
    LogIs (h.put d (.cells (dc 0 room content.length m arm' keep' off' wr) (fz + 1))) O p w d m fp fw fz room wr arm' keep' off' woff err sz name o c content rows es ls := by
  have f : Fr h (h.put d (.cells (dc 0 room content.length m arm' keep' off' wr) (fz + 1))) (fun j => j = d) := Fr.put rfl
  exact {
    hp := f.get H.hp H.ne.2.1
    hw := f.get H.hw H.ne.2.2.2.1
    dk := H.dk.set
    eo := by
      obtain ⟨ec, e, g⟩ := H.eo
      refine ⟨ec, e.fr f fun j hj => (H.be j hj).2.2.1, fun i hi => ?_⟩
      obtain ⟨x, hx, ox, bx⟩ := g i hi
      exact ⟨x, hx, ox.fr f fun j hj => (bx j hj).2.2.1, bx⟩
    lo := H.lo.fr f fun j hj => (H.bl j hj).2.2.1
    lop := by rw [f.lo]; exact H.lop
    low := by rw [f.lo]; exact H.low
    ne := H.ne
    be := H.be
    bl := H.bl
    bf := H.bf
    op := H.op
    olt := fun j hj => by have := H.olt j hj; have := f.len; omega }
end
/-- a disk, and what it owns -/
def DiskAt (h : AHeap) (O : Nat → Prop) (d : Nat) (arm keep : Value) (off : Bool) (name content : List UInt8) (room wr : Nat) : Prop :=
  ∃ m fz o c, DiskIs h 0 d m fz room content.length arm keep off wr name o c content ∧ O d ∧ O m ∧ (∀ j, blkOf (fvOf o) = some j → O j) ∧ ∀ j, O j → j < h.bs.length
theorem LogAt.disk {h : AHeap} {O : Nat → Prop} {p d room wr err sz : Nat} {arm keep : Value} {off woff : Bool} {name content : List UInt8} {rows : List (List UInt8)} (H : LogAt h O p d arm keep off woff err sz name content rows room wr) : DiskAt h O d arm keep off name content room wr := by
  obtain ⟨w, m, fp, fw, fz, o, c, es, ls, H⟩ := H
  exact ⟨m, fz, o, c, H.dk, H.op.2.2.1, H.op.2.2.2, fun j hj => (H.bf j hj).2.2.2.2.2.2, H.olt⟩
variable {C : Ctx} (T : Tab_LLog C) (TS : Tab_LStan C)
include T TS
theorem arm_is (h : AHeap) (d m fz room used wr c a : Nat) (arm keep : Value) (k : Int) (off : Bool) (name content : List UInt8) (o : Option (Value × Nat)) (dk : DiskIs h 0 d m fz room used arm keep off wr name o c content) :
    D C 44 [.pointer (some ⟨d, 0, some 0⟩), Go.Ab.iv a, .int .i64 k] h = some (.tuple #[], h.put d (.cells (dc 0 room used m (Go.Ab.iv a) (.int .i64 k) off wr) (fz + 1))) := by
  have hdl := get_lt dk.hd
  have hlo := dk.lod
  have e1 := lock_spec T h d 0 fz _ dk.hd dc0 hlo
  rw [dcs0] at e1
  have e2 := unlock_spec T (h.put d (.cells (dc 1 room used m (Go.Ab.iv a) (.int .i64 k) off wr) (fz + 1))) d 0 fz _ (put_self hdl) dc0 hlo
  rw [dcs0, put_put] at e2
  rw [D_fn TS.h44]
  have hmax : mm true (Go.Ab.iv 0) (Go.Ab.iv a) = some (Go.Ab.iv a) := by
    simp only [mm, Go.Ab.iv, if_true, Option.some.injEq, Value.int.injEq, true_and]
    split <;> omega
  have hok : okCell (Go.Ab.iv a) = true := rfl
  have hok2 : okCell (.int .i64 k) = true := rfl
  simp [b44, Dc_ok, e1, dfrS_ok T.h75, hmax, put_self hdl, write1_wr, hlo, wdc5 hok, wdc6 hok2, put_put, e2, r44]
theorem on_is (h : AHeap) (d m fz room used wr c : Nat) (arm keep : Value) (off : Bool) (name content : List UInt8) (o : Option (Value × Nat)) (dk : DiskIs h 0 d m fz room used arm keep off wr name o c content) :
    D C 48 [.pointer (some ⟨d, 0, some 0⟩)] h = some (.tuple #[], h.put d (.cells (dc 0 room used m arm keep false wr) (fz + 1))) := by
  have hdl := get_lt dk.hd
  have hlo := dk.lod
  have e1 := lock_spec T h d 0 fz _ dk.hd dc0 hlo
  rw [dcs0] at e1
  have e2 := unlock_spec T (h.put d (.cells (dc 1 room used m arm keep false wr) (fz + 1))) d 0 fz _ (put_self hdl) dc0 hlo
  rw [dcs0, put_put] at e2
  rw [D_fn TS.h48]
  simp [b48, Dc_ok, e1, dfrS_ok T.h75, put_self hdl, write1_wr, hlo, wdc7, put_put, e2, r48]
theorem off_is (h : AHeap) (d m fz room used wr c : Nat) (arm keep : Value) (off : Bool) (name content : List UInt8) (o : Option (Value × Nat)) (dk : DiskIs h 0 d m fz room used arm keep off wr name o c content) :
    D C 47 [.pointer (some ⟨d, 0, some 0⟩)] h = some (.bool off, h) := by
  have hdl := get_lt dk.hd
  have hlo := dk.lod
  have e1 := lock_spec T h d 0 fz _ dk.hd dc0 hlo
  rw [dcs0] at e1
  have e2 := unlock_spec T (h.put d (.cells (dc 1 room used m arm keep off wr) (fz + 1))) d 0 fz _ (put_self hdl) dc0 hlo
  rw [dcs0, put_put, put_eq dk.hd] at e2
  rw [D_fn TS.h47]
  simp [b47, Dc_ok, e1, dfrS_ok T.h75, put_self hdl, dc7, e2, r47]
section
variable (h : AHeap) (O : Nat → Prop) (p d room wr err sz : Nat) (arm keep : Value) (off woff : Bool) (name content : List UInt8) (rows : List (List UInt8))
theorem arm_log (a : Nat) (k : Int) (H : LogAt h O p d arm keep off woff err sz name content rows room wr) : ∃ h', D C 44 [.pointer (some ⟨d, 0, some 0⟩), Go.Ab.iv a, .int .i64 k] h = some (.tuple #[], h') ∧ LogAt h' O p d (Go.Ab.iv a) (.int .i64 k) off woff err sz name content rows room wr ∧ Fr h h' O := by
  obtain ⟨w, m, fp, fw, fz, o, c, es, ls, H⟩ := H
  exact ⟨_, arm_is T TS h d m fz room content.length wr c a arm keep k off name content o H.dk, ⟨w, m, fp, fw, fz, o, c, es, ls, H.setd⟩, Fr.put H.op.2.2.1⟩
theorem off_log (H : LogAt h O p d arm keep off woff err sz name content rows room wr) : D C 47 [.pointer (some ⟨d, 0, some 0⟩)] h = some (.bool off, h) := by
  obtain ⟨w, m, fp, fw, fz, o, c, es, ls, H⟩ := H
  exact off_is T TS h d m fz room content.length wr c arm keep off name content o H.dk
theorem arm_disk (a : Nat) (k : Int) (H : DiskAt h O d arm keep off name content room wr) : ∃ h', D C 44 [.pointer (some ⟨d, 0, some 0⟩), Go.Ab.iv a, .int .i64 k] h = some (.tuple #[], h') ∧ DiskAt h' O d (Go.Ab.iv a) (.int .i64 k) off name content room wr ∧ Fr h h' O := by
  obtain ⟨m, fz, o, c, H, od, om, ob, ol⟩ := H
  exact ⟨_, arm_is T TS h d m fz room content.length wr c a arm keep k off name content o H, ⟨m, fz, o, c, H.set, od, om, ob, fun j hj => by rw [put_len]; exact ol j hj⟩, Fr.put od⟩
theorem on_disk (H : DiskAt h O d arm keep off name content room wr) : ∃ h', D C 48 [.pointer (some ⟨d, 0, some 0⟩)] h = some (.tuple #[], h') ∧ DiskAt h' O d arm keep false name content room wr ∧ Fr h h' O := by
  obtain ⟨m, fz, o, c, H, od, om, ob, ol⟩ := H
  exact ⟨_, on_is T TS h d m fz room content.length wr c arm keep off name content o H, ⟨m, fz, o, c, H.set, od, om, ob, fun j hj => by rw [put_len]; exact ol j hj⟩, Fr.put od⟩
theorem off_disk (H : DiskAt h O d arm keep off name content room wr) : D C 47 [.pointer (some ⟨d, 0, some 0⟩)] h = some (.bool off, h) := by
  obtain ⟨m, fz, o, c, H, od, om, ob, ol⟩ := H
  exact off_is T TS h d m fz room content.length wr c arm keep off name content o H
end
end Go.Ab.Aud

namespace Go.Ab.Aud
open Go.Sha
theorem fr_shut {h h' : AHeap} {d : Nat} {x : ABlock} (f : Fr h h' (fun j => j = d)) (e : h.at d = some x) (e' : h'.at d = some x) : Fr h h' (fun _ => False) := by
  refine ⟨f.1, f.2.1, fun j hj _ => ?_⟩
  by_cases hd : j = d
  · rw [hd, e, e']
  · exact f.2.2 j hj hd
/-- the first of a row that is owned -/
theorem Own.trunc {h : AHeap} {e k n s : Nat} {v : Value} {c : List Value} (w : Own h e k v n c) (hk : 0 < k) (hs : s ≤ n) : ∃ v', sliceV h k v none (some (s : Int)) none = some v' ∧ Own h e k v' s (c.take (s * k)) ∧ blkOf v' = blkOf v := by
  rcases w with ⟨rfl | rfl, rfl, rfl⟩ | ⟨b, g, last, rfl, h1, h2, h3, h4, h5⟩
  · obtain rfl : s = 0 := by omega
    exact ⟨.slice none 0 0, rfl, .inl ⟨.inl rfl, rfl, by simp⟩, rfl⟩
  · obtain rfl : s = 0 := by omega
    exact ⟨emptySl, rfl, .inl ⟨.inr rfl, rfl, by simp⟩, rfl⟩
  · have hkof : kOf h b = k := by unfold kOf; rw [← at_eq, h1]
    have hsk : s * k ≤ n * k := Nat.mul_le_mul_right _ hs
    refine ⟨.slice (some ⟨b, 0, some (g.length + 1)⟩) s 0, ?_, .inr ⟨b, g, last, rfl, h1, h2, by omega, ?_, h5⟩, rfl⟩
    · unfold sliceV
      simp only [Option.getD_none, Option.getD_some]
      rw [if_pos isRest_own, if_pos ⟨by omega, by omega, by simp [tagOf]; omega, hkof, hk⟩]
      simp
    · rw [← h4, List.take_take, Nat.min_eq_left hsk]
theorem take_part {l : List UInt8} {k x n : Nat} (h : x + n ≤ k) : ((l.take k).drop x).take n = (l.drop x).take n := by
  rw [List.drop_take, List.take_take, Nat.min_eq_left (by omega)]
variable {C : Ctx} (T : Tab_LLog C)
include T
theorem disk_new (h : AHeap) (room : Nat) (h1 : 1 ≤ room) (h2 : room ≤ 268435456) :
    D C 42 [iv room] h = some (.tuple #[.pointer (some ⟨h.bs.length + 1, 0, some 0⟩), iv 0], (h.push (.map [] 0)).push (.cells (dc 0 room 0 h.bs.length (iv 0) (iv 0) false 0) 189)) := by
  have e : D C 84 [.slice none 0 0, iv room] h = some (.tuple #[.pointer (some ⟨h.bs.length + 1, 0, some 0⟩), iv 0], (h.push (.map [] 0)).push (.cells (dc 0 room 0 h.bs.length (iv 0) (iv 0) false 0) 189)) := by
    rw [D_fn T.h84]
    have zc : ∀ x y : Value, splice (splice [Value.int .i32 0, Value.int .u32 0, iv 0, iv 0, Value.map none, iv 0, iv 0, Value.bool false, iv 0] 2 [x]) 4 [y] = [Value.int .i32 0, Value.int .u32 0, x, iv 0, y, iv 0, iv 0, Value.bool false, iv 0] := fun _ _ => rfl
    have zl : ∀ x : Value, (splice [Value.int .i32 0, Value.int .u32 0, iv 0, iv 0, Value.map none, iv 0, iv 0, Value.bool false, iv 0] 2 [x]).length = 9 := fun _ => rfl
    simp [b84, show ¬ room < 1 by omega, show ¬ 268435456 < room by omega, fillCells, zc, zl]
    rw [R_open lp84_0.eq_1]
    simp [k84_0, r84, dc]
  rw [D_fn T.h42]
  simp [b42, Dc_ok, e, r42]
/-- a file is read; none: 92 -/
theorem disk_read (h : AHeap) (d m fz room used wr c : Nat) (arm keep : Value) (name content : List UInt8) (o : Option (Value × Nat)) (dk : DiskIs h 0 d m fz room used arm keep false wr name o c content) (hn : content.length < 2 ^ 39) (wf : h.lo ≤ h.bs.length)
    (hN : ∀ h, D C 147 [str name] h = some (.bool true, h)) :
    ∃ h' v, D C 148 [.pointer (some ⟨d, 0, some 0⟩), str name] h = some (.tuple #[v, Go.Ab.iv (if o.isSome then 0 else 92)], h') ∧ Own h' 5 1 v content.length (bytesVals content) ∧ Fr h h' (fun _ => False) ∧ (∀ j, blkOf v = some j → h.bs.length ≤ j) := by
  have hd := dk.hd
  have hm := dk.hm
  have hlo := dk.lod
  have hdm := dk.dm
  have hdl := get_lt hd
  have hml := get_lt hm
  have e1 := lock_spec T h d 0 fz _ hd dc0 hlo
  rw [dcs0] at e1
  generalize hh1 : h.put d (.cells (dc 1 room used m arm keep false wr) (fz + 1)) = h1 at e1
  have f1 : Fr h h1 (fun j => j = d) := by rw [← hh1]; exact Fr.put rfl
  have d1 : h1.at d = some (.cells (dc 1 room used m arm keep false wr) (fz + 1)) := by rw [← hh1]; exact put_self hdl
  generalize hh2 : h1.push (.cells [str name] 10) = h2
  have f2 : Fr h1 h2 (fun _ => False) := by rw [← hh2]; exact Fr.push
  have n2 : h2.at h1.bs.length = some (.cells [str name] 10) := by rw [← hh2]; exact push_self
  have d2 := f2.get d1 (fun h => h)
  have m2 := f2.get (f1.get hm (Ne.symm hdm)) (fun h => h)
  have o2 : Own h2 5 1 (fvOf o) content.length (bytesVals content) := (dk.ho.fr f1 fun j hj hc => dk.bd (by rw [hj, hc])).fr f2 (fun _ _ h => h)
  have e2 := may_spec T h2 d h1.bs.length m (fz + 1) 10 c room used wr 1 arm keep name o true d2 n2 m2 hN o2.und
  have l1 := f1.len
  have l2 := f2.len
  have hzs : Value.string ⟨⟨[]⟩⟩ = str [] := rfl
  have z1 : splice [str []] 0 [str name] = [str name] := rfl
  cases ho : o.isSome with
  | true =>
    simp [ho] at e2
    obtain ⟨a, cp, ha⟩ := o2.slice
    have s2 := o2.sl (old := C.old) (by omega)
    rw [ha] at s2
    obtain ⟨h3, v, e3, o3, f3, b3⟩ := sclone_spec T h2 content a content.length cp s2 (by rw [f2.lo, f1.lo]; omega) hn
    rw [← ha] at e3
    have d3 := f3.get d2 (fun h => h)
    have e4 := unlock_spec T h3 d 0 fz _ d3 dc0 (by rw [f3.lo, f2.lo, f1.lo]; exact hlo)
    rw [dcs0] at e4
    have hl3 := get_lt d3
    have lk := lkp_es (ok := false) m2
    have uf := o2.und
    refine ⟨_, v, ?_, o3.fr (Fr.put (S := fun j => j = d) rfl) (fun j hj hc => by have := b3 j hj; omega), fr_shut ((f1.trans (f2.trans f3 (S'' := fun _ => False) (fun _ h => h) (fun _ h _ => h)) (S'' := fun j => j = d) (fun _ h => h) (fun _ h _ => h.elim)).trans (Fr.put (S := fun j => j = d) rfl) (fun _ h => h) (fun _ h _ => h)) hd (put_self hl3), fun j hj => by have := b3 j hj; omega⟩
    rw [D_fn T.h148]
    have u3 := o3.und
    simp at lk
    simp [b148, Dc_ok, e1, dfrS_ok T.h75, hzs, fillCells, z1, hh2, e2, d2, dc4, lk, stp_ok uf, uf, e3, stp_ok u3, u3, e4, r148]
  | false =>
    simp [ho] at e2
    obtain rfl : o = none := by cases o with
      | none => rfl
      | some x => cases ho
    have hc0 : content = [] := by
      rcases dk.ho with ⟨_, h2, _⟩ | ⟨b, g, last, h1, _⟩
      · exact List.eq_nil_of_length_eq_zero h2
      · cases h1
    subst hc0
    have e4 := unlock_spec T h2 d 0 fz _ d2 dc0 (by rw [f2.lo, f1.lo]; exact hlo)
    rw [dcs0] at e4
    refine ⟨_, .slice none 0 0, ?_, .nil, fr_shut ((f1.trans f2 (S'' := fun j => j = d) (fun _ h => h) (fun _ h _ => h.elim)).trans (Fr.put (S := fun j => j = d) rfl) (fun _ h => h) (fun _ h _ => h)) hd (put_self (get_lt d2)), fun j hj => by cases hj⟩
    rw [D_fn T.h148]
    simp [b148, Dc_ok, e1, dfrS_ok T.h75, hzs, fillCells, z1, hh2, e2, e4, r148]
section
variable (TO : Tab_LOpen C) (hp : ∀ j, j < 16 → C.old 1 j = some (wv (crcW j)))
include TO hp
set_option maxHeartbeats 4000000 in
/-- a record that was torn -/
theorem unframe_short (h : AHeap) (r : List UInt8) (k : Nat) (a : Option Addr) (cp : Nat) (hs : SlR C.old h 1 (.slice a k cp) (bytesVals ((frame r).take k))) (hr : r.length ≤ 16777216) (hk0 : 0 < k) (hk : k < r.length + 13) (hwf : h.lo ≤ h.bs.length) :
    D C 149 [.slice a k cp] h = some (.tuple #[.slice none 0 0, Go.Ab.iv 0, Go.Ab.iv 30], h) := by
  have hlen : ((frame r).take k).length = k := by have := hs.len; simpa using this
  have hfl := frame_length r
  have hc1 : (crc (0xc9 :: be 4 r.length)).toNat < 2 ^ 32 := BitVec.isLt _
  have fp := frame_parts r []
  rw [List.append_nil] at fp
  have b4 := fun x => be_length 4 x
  obtain ⟨a', rfl⟩ := hs.ex (by omega)
  have rd : read1 C.old h (adda a' 0) = some (bv 201) := by
    have := readN_read1 (hs.read (by omega)) (i := 0) (by omega)
    rw [this]
    have h0 : ((frame r).take k)[0]? = some 201 := by rw [List.getElem?_take, if_pos hk0, fp]; rfl
    rw [bytesVals, List.getElem?_map, h0]; rfl
  have h201 : Value.int .u8 201 = bv 201 := rfl
  rw [D_fn TO.h149]
  by_cases h9 : k < 9
  · simp [b149, show ¬ k = 0 by omega, ixS_iv (show 0 < k by omega), rd, h201, bv_neq, h9, r149]
  · obtain ⟨a1, cp1, e1, s1⟩ := sl_bytes hs (lo := none) (hi := some (5 : Int)) (x := 0) (y := 5) rfl rfl (by omega) (by omega)
    obtain ⟨a2, cp2, e2, s2⟩ := sl_bytes hs (lo := some (5 : Int)) (hi := some (9 : Int)) (x := 5) (y := 9) rfl rfl (by omega) (by omega)
    obtain ⟨a3, cp3, e3, s3⟩ := sl_bytes hs (lo := some (1 : Int)) (hi := some (5 : Int)) (x := 1) (y := 5) rfl rfl (by omega) (by omega)
    have q1 : (((frame r).take k).drop 0).take (5 - 0) = 0xc9 :: be 4 r.length := by
      rw [take_part (by omega), fp, ← List.append_assoc]; exact part8 (a := []) (b := 0xc9 :: be 4 r.length) rfl (by simp [b4])
    have q2 : (((frame r).take k).drop 5).take (9 - 5) = be 4 (crc (0xc9 :: be 4 r.length)).toNat := by
      rw [take_part (by omega), fp, ← List.append_assoc]; exact part8 (by simp [b4]) (b4 _)
    have q3 : (((frame r).take k).drop 1).take (5 - 1) = be 4 r.length := by
      rw [take_part (by omega), fp]; exact part8 rfl (b4 _)
    rw [q1] at s1; rw [q2] at s2; rw [q3] at s3
    have w1 := crc_spec T hp h _ a1 _ cp1 s1 (by omega)
    have w2 := rnum_spec TO h _ a2 cp2 (by rw [b4]; exact s2) (by rw [b4]; omega)
    have w3 := rnum_spec TO h _ a3 cp3 (by rw [b4]; exact s3) (by rw [b4]; omega)
    rw [b4, numF_be4 (by omega)] at w2 w3
    simp only [Nat.sub_zero, Nat.reduceSub] at e1 e2 e3 w1
    simp [b149, show ¬ k = 0 by omega, ixS_iv (show 0 < k by omega), rd, h201, bv_neq, h9, e1, e2, e3, Dc_ok, w1, w2, w3, cvt_ui (show r.length < 9223372036854775808 by omega), iv_add (a := 9) (b := r.length) (by omega), show ¬ 16777216 < r.length by omega, iv_add (a := 9 + r.length) (b := 4) (by omega), show k < 9 + r.length + 4 by omega, r149]
end
end Go.Ab.Aud

namespace Go.Ab.Aud
open Go.Sha
variable {C : Ctx} (T : Tab_LLog C) (TS : Tab_LStan C)
include TS in
/-- a file is cut -/
theorem cut1_spec (h : AHeap) (d m fz room used wr c db bb sb nb z1 z2 z3 z4 s : Nat) (mu : Int) (arm keep : Value) (off : Bool) (name : List UInt8) (o : Option (Value × Nat)) (content : List UInt8)
    (H : DiskIs h mu d m fz room used arm keep off wr name o c content) (ho : o.isSome = true)
    (hdb : h.at db = some (.cells [.pointer (some ⟨d, 0, some 0⟩)] z1)) (hbb : h.at bb = some (.cells [fvOf o] z2)) (hsb : h.at sb = some (.cells [Go.Ab.iv s] z3)) (hnb : h.at nb = some (.cells [str name] z4))
    (n1 : db ≠ d) (n2 : bb ≠ d) (n3 : sb ≠ d) (n4 : nb ≠ d) (hs : s ≤ content.length) (hus : content.length ≤ used) (hu2 : used < 2 ^ 40) :
    ∃ h' o' c', D C 219 [.pointer (some ⟨db, 0, some 0⟩), .pointer (some ⟨bb, 0, some 0⟩), .pointer (some ⟨sb, 0, some 0⟩), .pointer (some ⟨nb, 0, some 0⟩)] h = some (.tuple #[], h') ∧ o'.isSome = true ∧ DiskIs h' mu d m fz room (used - (content.length - s)) arm keep off wr name o' c' (content.take s) ∧ Wr h h' d m o o' ∧ blkOf (fvOf o') = blkOf (fvOf o) := by
  obtain ⟨hd, hm, hown, hlod, hlom, hdm, hbd, hbm⟩ := H
  have hdl := get_lt hd
  have hml := get_lt hm
  generalize hA : h.put d (.cells (dc mu room (used - (content.length - s)) m arm keep off wr) (fz + 1)) = A
  have fA : Fr h A (fun j => j = d) := by rw [← hA]; exact Fr.put rfl
  have dA : A.at d = some (.cells (dc mu room (used - (content.length - s)) m arm keep off wr) (fz + 1)) := by rw [← hA]; exact put_self hdl
  have mA := fA.get hm (Ne.symm hdm)
  have dbA := fA.get hdb n1
  have bbA := fA.get hbb n2
  have sbA := fA.get hsb n3
  have nbA := fA.get hnb n4
  have oA := hown.fr fA fun j hj hc => hbd (by rw [hj, hc])
  obtain ⟨v', e1, o1, b1⟩ := Own.trunc oA (by omega) hs
  have loA := fA.lo
  obtain ⟨fv, born, rfl⟩ : ∃ fv born, o = some (fv, born) := by
    cases o with
    | none => cases ho
    | some p => obtain ⟨fv, born⟩ := p; exact ⟨fv, born, rfl⟩
  have e2 := mup_yes (v := v') fits_str mA findE_hit (by omega)
  have hmod : (esOf name (some (fv, born))).modify 0 (fun e => { e with val := v' }) = esOf name (some (v', born)) := rfl
  rw [hmod] at e2
  have uf := hown.und
  have lf := hown.lenV
  have f3 : Fr A (A.put m (.map (esOf name (some (v', born))) c)) (fun j => j = m) := Fr.put rfl
  have hlt : (content.take s).length = s := by simp; omega
  have hbt : (bytesVals content).take (s * 1) = bytesVals (content.take s) := by simp [bytesVals, List.map_take]
  refine ⟨A.put m (.map (esOf name (some (v', born))) c), some (v', born), c, ?_, rfl, ⟨f3.get dA hdm, put_self (get_lt mA), ?_, by rw [put_lo]; omega, by rw [put_lo]; omega, hdm, ?_, ?_⟩, ⟨?_, ?_⟩, b1⟩
  · rw [D_fn TS.h219]
    have u1 := o1.und
    simp only [fvOf] at *
    simp [b219, hdb, hbb, hsb, hd, dc3, stp_ok uf, uf, lf, iv_sub hs (show content.length < 9223372036854775808 by omega), iv_sub (show content.length - s ≤ used by omega) (show used < 9223372036854775808 by omega), write1_wr, hlod, wdc3, hA, dbA, bbA, sbA, nbA, dA, dc4, e1, stp_ok u1, u1, e2, r219]
  · rw [hlt, ← hbt]
    exact o1.fr f3 fun j hj hc => hbm (by rw [← b1, hj, hc])
  · show blkOf v' ≠ some d
    rw [b1]; exact hbd
  · show blkOf v' ≠ some m
    rw [b1]; exact hbm
  · exact fA.trans f3 (fun _ h => .inl h) (fun _ h _ => .inr (.inl h))
  · intro j hj
    have hj' : blkOf v' = some j := hj
    rw [b1] at hj'
    exact .inl hj'
include T TS in
/-- all or nothing, carried out -/
theorem whole_ok (B : AHeap) (d m fz room used wr c ar fb : Nat) (mu : Int) (keep : Value) (cap : Array Value) (hd : B.at d = some (.cells (dc mu room used m (Go.Ab.iv ar) keep false wr) (fz + 1))) (hlo : B.lo ≤ d) (hw : wr < 2 ^ 62) (har : ar ≠ 1) (har2 : ar < 2 ^ 62) (hcap : cap.toList.any isUnd = false)
    (h' : AHeap) (v : Value) (he : D C 219 cap.toList ((B.push (.cells [.func (.func 219) #[] cap] fb)).put d (.cells (dc mu room used m (Go.Ab.iv (ar - 1)) keep false (wr + 1)) (fz + 1))) = some (v, h')) (hfb : fb = 2) :
    D C 218 [.pointer (some ⟨d, 0, some 0⟩), .func (.func 219) #[] cap] B = some (Go.Ab.iv 0, h') := by
  subst hfb
  have hdl := get_lt hd
  rw [D_fn TS.h218]
  have e := write_ok T (B.push (.cells [.func (.func 219) #[] cap] 2)) d m fz room used wr ar mu keep (.func (.func 245) #[] #[.pointer (some ⟨B.bs.length, 0, some 0⟩)]) 219 #[] cap (by rw [push_lt hdl]; exact hd) hlo hw har har2 h' v rfl (by simpa using hcap) (by simpa using he)
  simp [b218, Dc_ok, e, r218]
end Go.Ab.Aud

namespace Go.Ab.Aud
open Go.Sha
variable {C : Ctx} (T : Tab_LLog C) (TS : Tab_LStan C)
include T TS
set_option maxHeartbeats 4000000 in
/-- Cut, up to the write -/
theorem cut_pre (h : AHeap) (d m fz room used wr c s : Nat) (arm keep : Value) (name : List UInt8) (o : Option (Value × Nat)) (content : List UInt8) (hos : o.isSome = true)
    (H : DiskIs h 0 d m fz room used arm keep false wr name o c content) (hs : s ≤ content.length)
    (hwf : h.lo ≤ h.bs.length) (hN : ∀ h, D C 147 [str name] h = some (.bool true, h)) (Q : Nat → AHeap → Prop) (Z : Value → AHeap → Prop)
    (hZ : ∀ r h1 used' arm' keep' off' wr', h1.at d = some (.cells (dc 1 room used' m arm' keep' off' wr') (fz + 1)) → Q r h1 → Z (iv r) (h1.put d (.cells (dc 0 room used' m arm' keep' off' wr') (fz + 1))))
    (hcall : ∀ (B : AHeap) (db bb sb nb : Nat), DiskIs B 1 d m fz room used arm keep false wr name o c content →
      B.at db = some (.cells [.pointer (some ⟨d, 0, some 0⟩)] 114) → B.at bb = some (.cells [fvOf o] 42) → B.at sb = some (.cells [iv s] 4) → B.at nb = some (.cells [str name] 10) → Fr h B (fun j => j = d) →
      h.bs.length ≤ db → h.bs.length ≤ bb → h.bs.length ≤ sb → h.bs.length ≤ nb → B.lo ≤ B.bs.length →
      ∃ v h', D C 218 [.pointer (some ⟨d, 0, some 0⟩), .func (.func 219) #[] #[.pointer (some ⟨db, 0, some 0⟩), .pointer (some ⟨bb, 0, some 0⟩), .pointer (some ⟨sb, 0, some 0⟩), .pointer (some ⟨nb, 0, some 0⟩)]] B = some (v, h') ∧
        ∃ r used' arm' keep' off' wr', v = iv r ∧ h'.at d = some (.cells (dc 1 room used' m arm' keep' off' wr') (fz + 1)) ∧ h'.lo ≤ d ∧ Q r h') :
    ∃ v h', D C 150 [.pointer (some ⟨d, 0, some 0⟩), str name, iv s] h = some (v, h') ∧ Z v h' := by
  obtain ⟨hd, hm, ho, hlod, hlom, hdm, hbd, hbm⟩ := H
  have hdL := get_lt hd
  have hmL := get_lt hm
  have hu := ho.und
  have hokc := ho.okc
  have hlv := ho.lenV
  generalize hL : h.bs.length = L at *
  have hob : ∀ j, blkOf (fvOf o) = some j → j < L := fun j hj => by have := ho.blk hj; omega
  have hlk1 := fun (H : AHeap) (hm : H.at m = some (.map (esOf name o) c)) => lkp_es (ok := false) hm
  simp only [Bool.false_eq_true, if_false] at hlk1
  rw [D_fn TS.h150]
  have hlock := fun (H : AHeap) (hd : H.at d = some (.cells (dc 0 room used m arm keep false wr) (fz + 1))) (hl : H.lo ≤ d) => lock_spec T H d 0 fz _ hd dc0 hl
  have hmay := fun (H : AHeap) (nb : Nat) (hd : H.at d = some (.cells (dc 1 room used m arm keep false wr) (fz + 1))) (hb : H.at nb = some (.cells [str name] 10)) (hm : H.at m = some (.map (esOf name o) c)) =>
    may_spec T H d nb m (fz + 1) 10 c room used wr 1 arm keep name o true hd hb hm hN hu
  simp only [hos, Bool.not_true, Bool.and_false, Bool.false_eq_true, if_false] at hmay
  have hlt0 : abin .lss (iv s) (iv 0) = some (.bool false) := by
    have : ¬ ((s : Int) < 0) := by omega
    show some (Value.bool (decide ((s : Int) < ((0 : Nat) : Int)))) = _
    simp
  simp (disch := (first | assumption | omega | (simp only [push_len, put_len, push_lo, put_lo, hL]; done) | (simp only [push_len, put_len, push_lo, put_lo, hL]; omega) | (simp (disch := (first | assumption | omega | (simp only [push_len, put_len, push_lo, put_lo, hL]; done) | (simp only [push_len, put_len, push_lo, put_lo, hL]; omega) | fail)) [push_lt, push_self', put_ne, put_self, hd, hm]; done) | fail)) [b150, hL, push_lt, push_self', put_ne, put_self, hd, hm, Dc1, Dc2, Dc3, Dc_ok, hlock, cell1, dcs0, dfrS_ok T.h75, hmay, fillCells, splice, hlk1, dc4, write1_wr, wr1_box, stp_ok ho.und, ho.okc, hlv, hlt0, show ¬ (content.length < s) by omega]
  refine cal_intro (F := fun v h' => ∃ r used' arm' keep' off' wr', v = iv r ∧ h'.at d = some (.cells (dc 1 room used' m arm' keep' off' wr') (fz + 1)) ∧ h'.lo ≤ d ∧ Q r h') (hcall _ L (L + 1 + 1 + 1 + 1) (L + 1 + 1) (L + 1) ⟨(by simp (disch := (first | assumption | omega | (simp only [push_len, put_len, push_lo, put_lo, hL]; done) | (simp only [push_len, put_len, push_lo, put_lo, hL]; omega) | fail)) only [push_lt, push_self', put_ne, put_self, hd, hm]), (by simp (disch := (first | assumption | omega | (simp only [push_len, put_len, push_lo, put_lo, hL]; done) | (simp only [push_len, put_len, push_lo, put_lo, hL]; omega) | fail)) only [push_lt, push_self', put_ne, put_self, hd, hm]), ho.fr (S := fun j => j = d) (by repeat (first | exact Fr.refl _ _ | refine Fr.push' ?_ | refine Fr.put' ?_ (by first | exact .inl rfl | (right; omega)))) fun j hj hc => hbd (by rw [hj, hc]), by simp only [push_lo, put_lo]; omega, by simp only [push_lo, put_lo]; omega, hdm, hbd, hbm⟩
    (by simp (disch := (first | assumption | omega | (simp only [push_len, put_len, push_lo, put_lo, hL]; done) | (simp only [push_len, put_len, push_lo, put_lo, hL]; omega) | fail)) only [push_lt, push_self', put_ne, put_self, hd, hm]) (by simp (disch := (first | assumption | omega | (simp only [push_len, put_len, push_lo, put_lo, hL]; done) | (simp only [push_len, put_len, push_lo, put_lo, hL]; omega) | fail)) only [push_lt, push_self', put_ne, put_self, hd, hm]) (by simp (disch := (first | assumption | omega | (simp only [push_len, put_len, push_lo, put_lo, hL]; done) | (simp only [push_len, put_len, push_lo, put_lo, hL]; omega) | fail)) only [push_lt, push_self', put_ne, put_self, hd, hm]) (by simp (disch := (first | assumption | omega | (simp only [push_len, put_len, push_lo, put_lo, hL]; done) | (simp only [push_len, put_len, push_lo, put_lo, hL]; omega) | fail)) only [push_lt, push_self', put_ne, put_self, hd, hm]) (by repeat (first | exact Fr.refl _ _ | refine Fr.push' ?_ | refine Fr.put' ?_ (by first | exact .inl rfl | (right; omega)))) (by omega) (by omega) (by omega) (by omega) (by simp only [push_lo, put_lo, push_len, put_len]; omega)) ?_
  rintro v h' ⟨r, used', arm', keep', off', wr', rfl, hd', hlo', hQ⟩
  have hun := unlock_spec T h' d 0 fz _ hd' dc0 hlo'
  rw [dcs0] at hun
  exact ⟨iv r, h'.put d (.cells (dc 0 room used' m arm' keep' off' wr') (fz + 1)), by simp [hun, r150], hZ r h' used' arm' keep' off' wr' hd' hQ⟩
end Go.Ab.Aud

namespace Go.Ab.Aud
open Go.Sha
variable {C : Ctx} (T : Tab_LLog C) (TS : Tab_LStan C)
include T TS
theorem disk_cut (h : AHeap) (d m fz room used wr c s ar : Nat) (keep : Value) (name : List UInt8) (o : Option (Value × Nat)) (content : List UInt8) (hos : o.isSome = true)
    (H : DiskIs h 0 d m fz room used (iv ar) keep false wr name o c content) (hs : s ≤ content.length) (hus : content.length ≤ used) (hu2 : used < 2 ^ 40)
    (hwf : h.lo ≤ h.bs.length) (hw : wr < 2 ^ 62) (hN : ∀ h, D C 147 [str name] h = some (.bool true, h)) (har : ar ≠ 1) (har2 : ar < 2 ^ 62) :
    ∃ v h', D C 150 [.pointer (some ⟨d, 0, some 0⟩), str name, iv s] h = some (v, h') ∧ v = iv 0 ∧ ∃ o' c', o'.isSome = true ∧ DiskIs h' 0 d m fz room (used - (content.length - s)) (iv (ar - 1)) keep false (wr + 1) name o' c' (content.take s) ∧ Wr h h' d m o o' ∧ blkOf (fvOf o') = blkOf (fvOf o) := by
  have hdl := get_lt H.hd
  refine cut_pre T TS h d m fz room used wr c s (iv ar) keep name o content hos H hs hwf hN (fun r h1 => r = 0 ∧ ∃ o' c', o'.isSome = true ∧ DiskIs h1 1 d m fz room (used - (content.length - s)) (iv (ar - 1)) keep false (wr + 1) name o' c' (content.take s) ∧ Wr h h1 d m o o' ∧ blkOf (fvOf o') = blkOf (fvOf o)) _ ?_ ?_
  · rintro r h1 used' arm' keep' off' wr' hd1 ⟨rfl, o', c', ho', D', W', wb⟩
    obtain ⟨rfl, rfl, rfl, rfl, rfl⟩ := dc_inj (hd1.symm.trans D'.hd)
    exact ⟨rfl, o', c', ho', D'.set, W'.trans Wr.put, wb⟩
  · intro B db bb sb nb HB hdb hbb hsb hnb fB l1 l2 l3 l4 hwfB
    have hdlB := get_lt HB.hd
    generalize hP : B.push (.cells [.func (.func 219) #[] #[.pointer (some ⟨db, 0, some 0⟩), .pointer (some ⟨bb, 0, some 0⟩), .pointer (some ⟨sb, 0, some 0⟩), .pointer (some ⟨nb, 0, some 0⟩)]] 2) = P
    have fP : Fr B P (fun _ => False) := by rw [← hP]; exact Fr.push
    have HP := HB.fr fP (fun h => h) (fun h => h) (fun _ _ h => h)
    have HA : DiskIs (P.put d (.cells (dc 1 room used m (iv (ar - 1)) keep false (wr + 1)) (fz + 1))) 1 d m fz room used (iv (ar - 1)) keep false (wr + 1) name o c content := HP.set
    generalize hA : P.put d (.cells (dc 1 room used m (iv (ar - 1)) keep false (wr + 1)) (fz + 1)) = A at HA
    have fA : Fr P A (fun j => j = d) := by rw [← hA]; exact Fr.put rfl
    have fBA : Fr B A (fun j => j = d) := fP.trans fA (fun _ h => h.elim) (fun _ h _ => h)
    obtain ⟨h', o', c', e, ho', D', W', wb⟩ := cut1_spec TS A d m fz room used (wr + 1) c db bb sb nb _ _ _ _ s 1 (iv (ar - 1)) keep false name o content HA hos (fBA.get hdb (by omega)) (fBA.get hbb (by omega)) (fBA.get hsb (by omega)) (fBA.get hnb (by omega)) (by omega) (by omega) (by omega) (by omega) hs hus hu2
    have ew := whole_ok T TS B d m fz room used wr c ar 2 1 keep #[.pointer (some ⟨db, 0, some 0⟩), .pointer (some ⟨bb, 0, some 0⟩), .pointer (some ⟨sb, 0, some 0⟩), .pointer (some ⟨nb, 0, some 0⟩)] HB.hd HB.lod hw har har2 rfl h' _ (by rw [hP, hA]; exact e) rfl
    have hl := fB.len
    have hl2 := fBA.len
    refine ⟨_, h', ew, 0, _, _, _, _, _, rfl, D'.hd, D'.lod, rfl, o', c', ho', D', ⟨((fB.trans fBA (fun _ h => h) (fun _ h _ => h)).mono fun _ h _ => .inl h).trans W'.fr (fun _ h => h) (fun _ h _ => h), fun j hj => (W'.blk j hj).imp_right fun h => by omega⟩, wb⟩
theorem disk_cutO (h : AHeap) (d m fz room used wr c s : Nat) (k : Int) (name : List UInt8) (o : Option (Value × Nat)) (content : List UInt8) (hos : o.isSome = true)
    (H : DiskIs h 0 d m fz room used (iv 1) (.int .i64 k) false wr name o c content) (hs : s ≤ content.length) (hus : content.length ≤ used) (hu2 : used < 2 ^ 40)
    (hwf : h.lo ≤ h.bs.length) (hw : wr < 2 ^ 62) (hN : ∀ h, D C 147 [str name] h = some (.bool true, h)) :
    ∃ v h', D C 150 [.pointer (some ⟨d, 0, some 0⟩), str name, iv s] h = some (v, h') ∧ v = iv 94 ∧ ∃ o' c', o'.isSome = true ∧
      DiskIs h' 0 d m fz room (if 0 < k then used - (content.length - s) else used) (iv 0) (.int .i64 k) true (wr + 1) name o' c' (if 0 < k then content.take s else content) ∧ Wr h h' d m o o' ∧ blkOf (fvOf o') = blkOf (fvOf o) := by
  have hdl := get_lt H.hd
  refine cut_pre T TS h d m fz room used wr c s (iv 1) (.int .i64 k) name o content hos H hs hwf hN (fun r h1 => r = 94 ∧ ∃ o' c', o'.isSome = true ∧ DiskIs h1 1 d m fz room (if 0 < k then used - (content.length - s) else used) (iv 0) (.int .i64 k) true (wr + 1) name o' c' (if 0 < k then content.take s else content) ∧ Wr h h1 d m o o' ∧ blkOf (fvOf o') = blkOf (fvOf o)) _ ?_ ?_
  · rintro r h1 used' arm' keep' off' wr' hd1 ⟨rfl, o', c', ho', D', W', wb⟩
    obtain ⟨rfl, rfl, rfl, rfl, rfl⟩ := dc_inj (hd1.symm.trans D'.hd)
    exact ⟨rfl, o', c', ho', D'.set, W'.trans Wr.put, wb⟩
  · intro B db bb sb nb HB hdb hbb hsb hnb fB l1 l2 l3 l4 hwfB
    have hdlB := get_lt HB.hd
    generalize hfv : Value.func (.func 219) #[] #[.pointer (some ⟨db, 0, some 0⟩), .pointer (some ⟨bb, 0, some 0⟩), .pointer (some ⟨sb, 0, some 0⟩), .pointer (some ⟨nb, 0, some 0⟩)] = fv
    generalize hP : B.push (.cells [fv] 2) = P
    have fP : Fr B P (fun _ => False) := by rw [← hP]; exact Fr.push
    have pP : P.at B.bs.length = some (.cells [fv] 2) := by rw [← hP]; exact push_self
    have HP := HB.fr fP (fun h => h) (fun h => h) (fun _ _ h => h)
    have HA : DiskIs (P.put d (.cells (dc 1 room used m (iv 0) (.int .i64 k) true (wr + 1)) (fz + 1))) 1 d m fz room used (iv 0) (.int .i64 k) true (wr + 1) name o c content := HP.set
    generalize hA : P.put d (.cells (dc 1 room used m (iv 0) (.int .i64 k) true (wr + 1)) (fz + 1)) = A at HA
    have fA : Fr P A (fun j => j = d) := by rw [← hA]; exact Fr.put rfl
    have fBA : Fr B A (fun j => j = d) := fP.trans fA (fun _ h => h.elim) (fun _ h _ => h)
    have pA := fA.get pP (by omega)
    have hgt : abin .gtr (.int .i64 k) (Go.Ab.iv 0) = some (.bool (decide (0 < k))) := rfl
    have hlB := fB.len
    have hl2 := fBA.len
    obtain ⟨h', o', c', e, ho', D', W', wb⟩ : ∃ h' o' c', D C 245 [.int .i64 k, .pointer (some ⟨B.bs.length, 0, some 0⟩)] A = some (.tuple #[], h') ∧ o'.isSome = true ∧
        DiskIs h' 1 d m fz room (if 0 < k then used - (content.length - s) else used) (iv 0) (.int .i64 k) true (wr + 1) name o' c' (if 0 < k then content.take s else content) ∧ Wr A h' d m o o' ∧ blkOf (fvOf o') = blkOf (fvOf o) := by
      by_cases hk : 0 < k
      · obtain ⟨h', o', c', e, ho', D', W', wb⟩ := cut1_spec TS A d m fz room used (wr + 1) c db bb sb nb _ _ _ _ s 1 (iv 0) (.int .i64 k) true name o content HA hos (fBA.get hdb (by omega)) (fBA.get hbb (by omega)) (fBA.get hsb (by omega)) (fBA.get hnb (by omega)) (by omega) (by omega) (by omega) (by omega) hs hus hu2
        refine ⟨h', o', c', ?_, ho', by rw [if_pos hk, if_pos hk]; exact D', W', wb⟩
        rw [D_fn TS.h245]
        simp [b245, hgt, hk, pA, ← hfv, Dv, Dc_ok, e, r245]
      · refine ⟨A, o, c, ?_, hos, by rw [if_neg hk, if_neg hk]; exact HA, Wr.refl, rfl⟩
        rw [D_fn TS.h245]
        simp [b245, hgt, hk, r245]
    have uf : isUnd fv = false := by rw [← hfv]; rfl
    have ew : D C 218 [.pointer (some ⟨d, 0, some 0⟩), fv] B = some (Go.Ab.iv 94, h') := by
      rw [D_fn TS.h218]
      have e1 := write_off T P d m fz room used wr 1 k fv 245 #[] #[.pointer (some ⟨B.bs.length, 0, some 0⟩)] HP.hd HP.lod hw h' _ uf rfl (by rw [hA]; exact e)
      have hok : okCell fv = true := by rw [← hfv]; rfl
      have hc1 : cellsOf fv = [fv] := by rw [← hfv]; rfl
      simp [b218, hok, hc1, hP, pP, stp_ok uf, uf, Dc_ok, e1, r218]
    refine ⟨_, h', ew, 94, _, _, _, _, _, rfl, D'.hd, D'.lod, rfl, o', c', ho', D', ⟨((fB.trans fBA (fun _ h => h) (fun _ h _ => h)).mono fun _ h _ => .inl h).trans W'.fr (fun _ h => h) (fun _ h _ => h), fun j hj => (W'.blk j hj).imp_right fun h => by omega⟩, wb⟩
end Go.Ab.Aud

namespace Go.Ab.Aud
open Go.Sha
def s1 : ACode → ACode
  | .seq a _ => a
  | _ => .skip
def s2 : ACode → ACode
  | .seq _ b => b
  | _ => .skip
def blkIn : ACode → ACode
  | .block _ b => b
  | _ => .skip
end Go.Ab.Aud

namespace Go.Ab.Aud
open Go.Sha
def scIn : ACode → ACode
  | .scope b => b
  | _ => .skip
def wsc : ACode := scIn (s2 b85)
/-- the same under another name, to be opened where the scope stays shut -/
def wY : ACode := scIn (s2 b85)
def ws1 : ACode := s2 wY
def ws2 : ACode := s2 ws1
def ws3 : ACode := s2 ws2
def ws4 : ACode := s2 ws3
def wtail : ACode := s2 ws4
def wZ : ACode := s2 ws4
def wt1 : ACode := s2 wZ
def wt2 : ACode := s2 wt1
def wt3 : ACode := s2 wt2
theorem w_e : b85 = .seq (s1 b85) (.scope wsc) := rfl
theorem w_e4 : wsc = .seq (s1 wY) (.seq (s1 ws1) (.seq (s1 ws2) (.seq (s1 ws3) (.seq (.label 0) wtail)))) := rfl
theorem wt_e : wtail = .seq (s1 wZ) (.seq (s1 wt1) (.seq (s1 wt2) wt3)) := rfl
theorem w_find : afindLabel wsc 0 = some (.seq .skip wtail) := rfl
/-- behind the label of a torn tail -/
def wtorn : ACode := s2 (s2 (s2 (s2 (s2 wZ))))
theorem w_find1 : afindLabel wsc 1 = some (.seq .skip wtorn) := rfl
/-- rows that lie in memory, each in a block of its own -/
def RowsW (h : AHeap) (q w : Nat) (v : Value) (l : List (List UInt8)) : Prop :=
  ∃ vs, Own h 41 1 v l.length vs ∧ ∀ i, i < l.length → ∃ x, vs[i]? = some x ∧ Own h 5 1 x (l.getD i []).length (bytesVals (l.getD i [])) ∧ ∀ j, blkOf x = some j → q ≤ j ∧ j ≠ w ∧ blkOf v ≠ some j
theorem RowsW.fr {h h' : AHeap} {q w : Nat} {v : Value} {l : List (List UInt8)} {S : Nat → Prop} (H : RowsW h q w v l) (f : Fr h h' S) (hv : ∀ j, blkOf v = some j → ¬ S j) (hs : ∀ j, S j → j < q ∨ j = w ∨ blkOf v = some j) : RowsW h' q w v l := by
  obtain ⟨vs, o, g⟩ := H
  refine ⟨vs, o.fr f hv, fun i hi => ?_⟩
  obtain ⟨x, hx, ox, hb⟩ := g i hi
  refine ⟨x, hx, ox.fr f fun j hj hc => ?_, hb⟩
  obtain ⟨b1, b2, b3⟩ := hb j hj
  rcases hs j hc with hs | hs | hs
  · omega
  · exact b2 hs
  · exact b3 hs
variable {C : Ctx} (T : Tab_LLog C) (TO : Tab_LOpen C) (hp : ∀ j, j < 16 → C.old 1 j = some (wv (crcW j)))
/-- the file that is read, record by record -/
structure WS (C : Ctx) (g : AHeap) (t : List Value) (q d w s : Nat) (name : List UInt8) (v : Value) (content : List UInt8) (vo : Value) (out : List (List UInt8)) : Prop where
  aw : g.at w = some (.cells (wc d name s false) 229)
  V : Own g 5 1 v content.length (bytesVals content)
  O : RowsW g q w vo out
  t0 : tg t 0 = .pointer (some ⟨d, 0, some 0⟩)
  t1 : tg t 1 = str name
  t7 : tg t 7 = v
  t9 : tg t 9 = .pointer (some ⟨w, 0, some 0⟩)
  t10 : tg t 10 = vo
  wf : g.lo ≤ g.bs.length
  low : g.lo ≤ w
  bv : ∀ j, blkOf v = some j → q ≤ j ∧ j ≠ w ∧ blkOf vo ≠ some j
  bo : ∀ j, blkOf vo = some j → q ≤ j ∧ j ≠ w
  qw : q ≤ w
include T TO hp
set_option maxHeartbeats 4000000 in
theorem wal_round (g : AHeap) (t : List Value) (q d w s n : Nat) (name : List UInt8) (v : Value) (content : List UInt8) (vo : Value) (out : List (List UInt8)) (r rest : List UInt8) (H : WS C g t q d w s name v content vo out) (hn : content.length < 2 ^ 38) (hs : content.drop s = frame r ++ rest) (hr : r.length ≤ 16777216) (ho : out.length < 2 ^ 30) :
    ∃ g' t' vo', (∀ K, R C r85 (.code wtail :: .inScope wsc :: K) t [] g = R C r85 (.code wtail :: .inScope wsc :: K) t' [] g') ∧ WS C g' t' q d w (s + (r.length + 13)) name v content vo' (out ++ [r]) ∧ Fr g g' (fun j => j = w ∨ blkOf vo = some j) := by
  have hlen : (content.drop s).length = content.length - s := List.length_drop
  rw [hs, List.length_append, frame_length] at hlen
  obtain ⟨a, cp, hv⟩ := H.V.slice
  have sl := H.V.sl (old := C.old) (by omega)
  have uv' := H.V.und
  obtain ⟨vs, oo', ge⟩ := H.O
  have uo := oo'.und
  rw [hv] at sl
  obtain ⟨a1, cp1, e1, s1'⟩ := sl_bytes sl (lo := some (s : Int)) (hi := none) (x := s) (y := content.length) rfl rfl (by omega) (Nat.le_refl _)
  have hd : (content.drop s).take (content.length - s) = frame r ++ rest := by rw [List.take_of_length_le (by simp), hs]
  rw [hd] at s1'
  obtain ⟨g1, x, e2, ox, f1, b1⟩ := unframe_spec T TO hp g r rest a1 _ cp1 s1' hr (by omega) H.wf
  have l1 := f1.len
  have o1 := f1.lo
  obtain ⟨ax, cpx, hx⟩ := ox.slice
  have hxb := fun j (hj : blkOf x = some j) => ox.blk hj
  subst hx
  have aw1 := f1.get H.aw (fun h => h)
  have wl := get_lt H.aw
  have oo1 : Own (g1.push (.cells [.slice ax r.length cpx] 42)) 41 1 vo out.length vs := (oo'.fr f1 (fun _ _ h => h)).fr (Fr.push (S := fun _ => False)) (fun _ _ h => h)
  obtain ⟨v', h4, e4, o4, f4, b4⟩ := append_own (old := C.old) (bytes := 24) (x := .slice (some ⟨g1.bs.length, 0, some 0⟩) 1 1) (m := 1) (new := [.slice ax r.length cpx]) oo1 (by omega) rfl
    (fun _ => by simp only [srcCells]; rw [readN_rd, push_self]; rfl) (fun h => by cases h) rfl rfl (by simp [sizeLim]; omega) (by simp; have := H.wf; omega)
  have u4 := o4.und
  have l4 := f4.len
  have lo4 := f4.lo
  simp at l4 lo4
  have fp : Fr g1 (g1.push (.cells [.slice ax r.length cpx] 42)) (fun _ => False) := Fr.push
  have f14 : Fr g h4 (fun j => blkOf vo = some j) := (f1.trans fp (S'' := fun _ => False) (fun _ h => h) (fun _ h _ => h)).trans f4 (fun _ h => h.elim) (fun _ h _ => h)
  have hwb : blkOf vo ≠ some w := fun hc => (H.bo w hc).2 rfl
  have aw4 := f14.get H.aw hwb
  have wl4 := get_lt aw4
  generalize h5e : h4.put w (.cells (wc d name (s + (r.length + 13)) false) 229) = h5
  have f5 : Fr h4 h5 (fun j => j = w) := by rw [← h5e]; exact Fr.put rfl
  have aw5 : h5.at w = some (.cells (wc d name (s + (r.length + 13)) false) 229) := by rw [← h5e]; exact put_self wl4
  have f15 : Fr g h5 (fun j => j = w ∨ blkOf vo = some j) := f14.trans f5 (fun _ h => .inr h) (fun _ h _ => .inl h)
  have l5 := f5.len
  have hsl : (wc d name s false).set 2 (Go.Ab.iv (s + (r.length + 13))) = wc d name (s + (r.length + 13)) false := rfl
  have hw3 : (wc d name s false).length = 4 := rfl
  have c8 : cellsOf (Value.slice ax r.length cpx) = [Value.slice ax r.length cpx] := rfl
  have w1 : ∀ G, wr1 G w (some (.cells (wc d name s false) 229)) 2 0 (Go.Ab.iv (s + (r.length + 13))) = some (G.put w (.cells (wc d name (s + (r.length + 13)) false) 229)) := fun G => by
    rw [wr1_cells (by rw [hw3]; omega) rfl, hsl]
  have hv4 : ∀ j, blkOf v' = some j → blkOf vo = some j ∨ j = g1.bs.length + 1 := fun j hj => by
    rcases b4 with b4 | b4
    · rw [b4] at hj; exact .inl hj
    · rw [b4] at hj; cases hj; right; simp
  have t7 := H.t7
  rw [hv] at t7
  obtain ⟨t', e, u0, u1, u7, u9, u10⟩ : ∃ t', (∀ K, R C r85 (.code wtail :: .inScope wsc :: K) t [] g = R C r85 (.code wtail :: .inScope wsc :: K) t' [] h5) ∧ tg t' 0 = tg t 0 ∧ tg t' 1 = tg t 1 ∧ tg t' 7 = tg t 7 ∧ tg t' 9 = tg t 9 ∧ tg t' 10 = v' := by
    refine ex_step (A' := fun K => R C r85 (.code (.seq (s1 wZ) (.seq (s1 wt1) (.seq (s1 wt2) wt3))) :: .inScope wsc :: K) t [] g) (fun K => by rw [← wt_e]) ?_
    have q2 : rd1 (some (.cells (wc d name s false) 229)) 2 0 = some (Go.Ab.iv s) := rfl
    have hne : ¬ s = content.length := by omega
    simp [wZ, wt1, wt2, ws4, ws3, ws2, ws1, wY, scIn, b85, s1, s2, H.t9, t7, H.t10, H.aw, q2, hne, Dc_ok, e1, e2, stp_ok uo, uo, fillCells, splice, e4, stp_ok u4, u4, aw4, iv_add (a := s) (b := r.length + 13) (by omega), write1_wr, lo4, o1, H.low, w1, h5e, agotoIn, w_find]
    exact ⟨_, fun _ => rfl, by simp, by simp, by simp [t7], by simp [H.t9], by simp⟩
  have hvb := fun j (hj : blkOf v = some j) => H.V.blk hj
  have hob := fun j (hj : blkOf vo = some j) => oo'.blk hj
  have lo5 := f5.lo
  have wf0 := H.wf
  have o5 : Own h5 41 1 v' (out ++ [r]).length (vs ++ [.slice ax r.length cpx]) := by
    rw [List.length_append]
    refine o4.fr f5 fun j hj hc => ?_
    rcases hv4 _ hj with h1 | h1
    · exact hwb (by rw [h1, hc])
    · omega
  refine ⟨h5, t', v', e, ⟨aw5, H.V.fr f15 (fun j hj hc => ?_), ⟨vs ++ [.slice ax r.length cpx], o5, fun i hi => ?_⟩, u0.trans H.t0, u1.trans H.t1, u7.trans H.t7, u9.trans H.t9, u10, by omega, by rw [f15.lo]; exact H.low, fun j hj => ?_, fun j hj => ?_, H.qw⟩, f15⟩
  · obtain ⟨h1, h2, h3⟩ := H.bv j hj
    rcases hc with hc | hc
    · exact h2 hc
    · exact h3 hc
  · by_cases hlt : i < out.length
    · obtain ⟨y, hy, oy, hb⟩ := ge i hlt
      have hvl := oo'.len
      have hg : (out ++ [r]).getD i [] = out.getD i [] := by simp [List.getD_eq_getElem?_getD, List.getElem?_append_left hlt]
      rw [hg]
      refine ⟨y, by rw [List.getElem?_append_left (by omega)]; exact hy, oy.fr f15 (fun j hj hc => ?_), fun j hj => ?_⟩
      · obtain ⟨b1, b2, b3⟩ := hb j hj
        rcases hc with hc | hc
        · exact b2 hc
        · exact b3 hc
      · obtain ⟨b1', b2, b3⟩ := hb j hj
        refine ⟨b1', b2, fun hc => ?_⟩
        rcases hv4 _ hc with h1 | h1
        · exact b3 h1
        · have := oy.blk hj; omega
    · have hie : i = out.length := by simp at hi; omega
      subst hie
      have hvl := oo'.len
      have hg : (out ++ [r]).getD out.length [] = r := by simp [List.getD_eq_getElem?_getD]
      rw [hg]
      have fx : Fr g1 h5 (fun j => blkOf vo = some j ∨ j = w) := (fp.trans f4 (S'' := fun j => blkOf vo = some j ∨ j = w) (fun _ h => h.elim) (fun _ h _ => .inl h)).trans f5 (fun _ h => h) (fun _ h _ => .inr h)
      refine ⟨.slice ax r.length cpx, by rw [List.getElem?_append_right (by omega)]; simp [hvl], ox.fr fx (fun j hj hc => ?_), fun j hj => ?_⟩
      · have := b1 j hj
        rcases hc with hc | hc
        · have := hob j hc; omega
        · omega
      · have h1 := b1 j hj
        have h2 := hxb j hj
        refine ⟨by have := H.qw; omega, by omega, fun hc => ?_⟩
        rcases hv4 _ hc with h3 | h3
        · have := hob j h3; omega
        · omega
  · obtain ⟨h1, h2, h3⟩ := H.bv j hj
    refine ⟨h1, h2, fun hc => ?_⟩
    rcases hv4 _ hc with h4 | h4
    · exact h3 h4
    · have := hvb j hj; omega
  · rcases hv4 _ hj with h4 | h4
    · exact H.bo j h4
    · exact ⟨by have := H.qw; omega, by omega⟩
end Go.Ab.Aud

namespace Go.Ab.Aud
open Go.Sha
/-- a record that was torn, or nothing -/
def Torn (tl : List UInt8) : Prop := ∃ r k, tl = (frame r).take k ∧ 0 < k ∧ k < r.length + 13 ∧ r.length ≤ 16384
theorem Torn.pos {tl : List UInt8} (h : Torn tl) : 0 < tl.length := by
  obtain ⟨r, k, rfl, h1, h2, _⟩ := h
  rw [List.length_take, frame_length]; omega
variable {C : Ctx} (T : Tab_LLog C) (TS : Tab_LStan C) (TO : Tab_LOpen C) (hp : ∀ j, j < 16 → C.old 1 j = some (wv (crcW j)))
include T TO hp
theorem wal_loop (q d w : Nat) (name : List UInt8) (v : Value) (content tl : List UInt8) (hn : content.length < 2 ^ 38) : ∀ (rest rows1 : List (List UInt8)) (g : AHeap) (t : List Value) (s : Nat) (vo : Value), WS C g t q d w s name v content vo rows1 → s ≤ content.length → content.drop s = (rest.map frame).flatten ++ tl →
    (∀ r, r ∈ rest → r.length ≤ 16777216) → rows1.length + rest.length < 2 ^ 30 →
    ∃ g' t' vo', (∀ K, R C r85 (.code wtail :: .inScope wsc :: K) t [] g = R C r85 (.code wtail :: .inScope wsc :: K) t' [] g') ∧ WS C g' t' q d w (content.length - tl.length) name v content vo' (rows1 ++ rest) ∧ Fr g g' (fun j => q ≤ j) := by
  intro rest
  induction rest with
  | nil =>
    intro rows1 g t s vo H hs hd hr hl
    have hl1 : (content.drop s).length = content.length - s := List.length_drop
    rw [hd] at hl1
    simp only [List.map_nil, List.flatten_nil, List.nil_append] at hl1
    have : content.length - tl.length = s := by omega
    rw [this, List.append_nil]
    exact ⟨g, t, vo, fun K => rfl, H, Fr.refl _ _⟩
  | cons r rest ih =>
    intro rows1 g t s vo H hs hd hr hl
    have hd' : content.drop s = frame r ++ ((rest.map frame).flatten ++ tl) := by rw [hd]; simp
    have hlen : (content.drop s).length = content.length - s := List.length_drop
    rw [hd', List.length_append, frame_length] at hlen
    simp only [List.length_cons] at hl
    obtain ⟨g1, t1, vo1, e1, H1, f1⟩ := wal_round T TO hp g t q d w s 0 name v content vo rows1 r ((rest.map frame).flatten ++ tl) H hn hd' (hr r (by simp)) (by omega)
    have hd2 : content.drop (s + (r.length + 13)) = (rest.map frame).flatten ++ tl := by
      rw [← List.drop_drop, hd', ← frame_length r, List.drop_left]
    obtain ⟨g2, t2, vo2, e2, H2, f2⟩ := ih (rows1 ++ [r]) g1 t1 (s + (r.length + 13)) vo1 H1 (by omega) hd2 (fun x hx => hr x (by simp [hx])) (by simp; omega)
    refine ⟨g2, t2, vo2, fun K => (e1 K).trans (e2 K), by rw [List.append_assoc] at H2; exact H2, ?_⟩
    exact (f1.mono (fun j hj _ => by rcases hj with rfl | hj; exact H.qw; exact (H.bo j hj).1)).trans f2 (fun _ h => h) (fun _ h _ => h)
omit T TO hp in
theorem wal_end (g : AHeap) (t : List Value) (q d w : Nat) (name : List UInt8) (v : Value) (content : List UInt8) (vo : Value) (out : List (List UInt8)) (H : WS C g t q d w content.length name v content vo out) (K : List AItem) :
    R C r85 (.code wtail :: .inScope wsc :: K) t [] g = some (.tuple #[.pointer (some ⟨w, 0, some 0⟩), vo, Go.Ab.iv 0], g) := by
  have e : R C r85 (.code wtail :: .inScope wsc :: K) t [] g = R C r85 (.code (.seq (s1 wZ) (.seq (s1 wt1) (.seq (s1 wt2) wt3))) :: .inScope wsc :: K) t [] g := by rw [← wt_e]
  rw [e]
  obtain ⟨a, cp, hv⟩ := H.V.slice
  have t7 := H.t7
  rw [hv] at t7
  have uo : isUnd vo = false := by obtain ⟨vs, o, _⟩ := H.O; exact o.und
  have q2 : rd1 (some (.cells (wc d name content.length false) 229)) 2 0 = some (Go.Ab.iv content.length) := rfl
  simp [wZ, wt1, wt2, ws4, ws3, ws2, ws1, wY, scIn, b85, s1, s2, H.t9, t7, H.t10, H.aw, q2, stp_ok uo, uo, r85]
set_option maxHeartbeats 4000000 in
/-- a torn tail: on behind the label -/
theorem wal_torn (g : AHeap) (t : List Value) (q d w s : Nat) (name : List UInt8) (v : Value) (content : List UInt8) (vo : Value) (out : List (List UInt8)) (H : WS C g t q d w s name v content vo out) (hn : content.length < 2 ^ 38) (hs : s ≤ content.length) (ht : Torn (content.drop s)) :
    ∃ t', (∀ K, R C r85 (.code wtail :: .inScope wsc :: K) t [] g = R C r85 (.code wtorn :: .inScope wsc :: K) t' [] g) ∧ tg t' 0 = tg t 0 ∧ tg t' 1 = tg t 1 ∧ tg t' 9 = tg t 9 ∧ tg t' 10 = tg t 10 := by
  have hlen : (content.drop s).length = content.length - s := List.length_drop
  obtain ⟨r, k, hk, k0, k1, hr⟩ := ht
  have hlk : ((frame r).take k).length = k := by rw [List.length_take, frame_length]; omega
  rw [hk, hlk] at hlen
  obtain ⟨a, cp, hv⟩ := H.V.slice
  have sl := H.V.sl (old := C.old) (by omega)
  have uv' := H.V.und
  have uo : isUnd vo = false := by obtain ⟨vs, o, _⟩ := H.O; exact o.und
  rw [hv] at sl
  obtain ⟨a1, cp1, e1, s1'⟩ := sl_bytes sl (lo := some (s : Int)) (hi := none) (x := s) (y := content.length) rfl rfl (by omega) (Nat.le_refl _)
  have hd : (content.drop s).take (content.length - s) = (frame r).take k := by rw [List.take_of_length_le (by simp), hk]
  rw [hd, ← hlen] at s1'
  rw [← hlen] at e1
  have e2 := unframe_short T TO hp g r k a1 cp1 s1' (by omega) k0 k1 H.wf
  have t7 := H.t7
  rw [hv] at t7
  refine ex_step (A' := fun K => R C r85 (.code (.seq (s1 wZ) (.seq (s1 wt1) (.seq (s1 wt2) wt3))) :: .inScope wsc :: K) t [] g) (fun K => by rw [← wt_e]) ?_
  have q2 : rd1 (some (.cells (wc d name s false) 229)) 2 0 = some (Go.Ab.iv s) := rfl
  have hne : ¬ s = content.length := by omega
  simp [wZ, wt1, wt2, ws4, ws3, ws2, ws1, wY, scIn, b85, s1, s2, H.t9, t7, H.t10, H.aw, q2, hne, Dc_ok, e1, e2, stp_ok uo, uo, agotoIn, w_find1]
  exact ⟨_, fun _ => rfl, by simp, by simp, by simp [H.t9], by simp [H.t10]⟩
end Go.Ab.Aud

namespace Go.Ab.Aud
open Go.Sha
variable {C : Ctx} (T : Tab_LLog C) (TS : Tab_LStan C) (TO : Tab_LOpen C) (hp : ∀ j, j < 16 → C.old 1 j = some (wv (crcW j)))
include T in
set_option maxHeartbeats 4000000 in
theorem wal_pre (h : AHeap) (d m fz room used wr c : Nat) (arm keep : Value) (name content : List UInt8) (o : Option (Value × Nat)) (dk : DiskIs h 0 d m fz room used arm keep false wr name o c content) (hn : content.length < 2 ^ 38) (wf : h.lo ≤ h.bs.length)
    (hN : ∀ h, D C 147 [str name] h = some (.bool true, h)) :
    ∃ h2 t w v, R C r85 [.code b85] [.pointer (some ⟨d, 0, some 0⟩), str name] [] h = R C r85 (.code wtail :: .inScope wsc :: []) t [] h2 ∧ WS C h2 t h.bs.length d w 0 name v content (.slice none 0 0) [] ∧ Fr h h2 (fun _ => False) := by
  obtain ⟨h1, v, e1, V, f1, b1⟩ := disk_read T h d m fz room used wr c arm keep name content o dk (by omega) wf hN
  have l1 := f1.len
  have o1 := f1.lo
  generalize hh2 : h1.push (.cells (wc d name 0 false) 229) = h2
  have f2 : Fr h1 h2 (fun _ => False) := by rw [← hh2]; exact Fr.push
  have w2 : h2.at h1.bs.length = some (.cells (wc d name 0 false) 229) := by rw [← hh2]; exact push_self
  have hl2 : h2.bs.length = h1.bs.length + 1 := by rw [← hh2]; simp
  have lo2 := f2.lo
  have uV := V.und
  obtain ⟨t, e, u0, u1, u7, u9, u10⟩ : ∃ t, R C r85 [.code b85] [.pointer (some ⟨d, 0, some 0⟩), str name] [] h = R C r85 (.code wtail :: .inScope wsc :: []) t [] h2 ∧ tg t 0 = .pointer (some ⟨d, 0, some 0⟩) ∧ tg t 1 = str name ∧ tg t 7 = v ∧ tg t 9 = .pointer (some ⟨h1.bs.length, 0, some 0⟩) ∧ tg t 10 = .slice none 0 0 := by
    have eA : R C r85 [.code b85] [.pointer (some ⟨d, 0, some 0⟩), str name] [] h = R C r85 [.code (.seq (s1 b85) (.scope wsc))] [.pointer (some ⟨d, 0, some 0⟩), str name] [] h := by rw [← w_e]
    have eB : ∀ K t, R C r85 (.code wsc :: .inScope wsc :: K) t [] h = R C r85 (.code (.seq (s1 wY) (.seq (s1 ws1) (.seq (s1 ws2) (.seq (s1 ws3) (.seq (.label 0) wtail))))) :: .inScope wsc :: K) t [] h := fun K t => by rw [← w_e4]
    have hzs : Value.string ⟨⟨[]⟩⟩ = str [] := rfl
    have z1 : splice (splice [Value.pointer none, str [], Go.Ab.iv 0, Value.bool false] 0 [.pointer (some ⟨d, 0, some 0⟩)]) 1 [str name] = wc d name 0 false := rfl
    have z2 : (splice [Value.pointer none, str [], Go.Ab.iv 0, Value.bool false] 0 [.pointer (some ⟨d, 0, some 0⟩)]).length = 4 := rfl
    have z3 : (wc d name 0 false).all okCell = true := rfl
    simp only [List.all_eq_true] at z3
    rw [eA]
    simp [s1, b85, eB]
    cases ho : o.isSome with
    | true =>
      rw [ho] at e1
      simp only [if_true] at e1
      simp [wY, ws1, ws2, ws3, scIn, b85, s1, s2, Dc_ok, e1, stp_ok uV, uV, hzs, fillCells, z1, z2, eq_true z3, hh2]
      exact ⟨_, rfl, by simp, by simp, by simp, by simp, by simp⟩
    | false =>
      rw [ho] at e1
      simp only [Bool.false_eq_true, if_false] at e1
      simp [wY, ws1, ws2, ws3, scIn, b85, s1, s2, Dc_ok, e1, stp_ok uV, uV, hzs, fillCells, z1, z2, eq_true z3, hh2]
      exact ⟨_, rfl, by simp, by simp, by simp, by simp, by simp⟩
  exact ⟨h2, t, h1.bs.length, v, e, ⟨w2, V.fr f2 (fun _ _ h => h), ⟨[], .nil, fun i hi => by cases hi⟩, u0, u1, u7, u9, u10, by omega, by omega, fun j hj => ⟨b1 j hj, by have := V.blk hj; omega, by simp [blkOf]⟩, (fun j hj => by cases hj), by omega⟩,
    f1.trans f2 (fun _ h => h) (fun _ h _ => h)⟩
theorem RowsW.und {h : AHeap} {q w : Nat} {v : Value} {l : List (List UInt8)} (H : RowsW h q w v l) : isUnd v = false := by obtain ⟨vs, o, _⟩ := H; exact o.und
include T TS TO hp
set_option maxHeartbeats 4000000 in
/-- wal.Open: all records; what was torn behind them is cut off -/
theorem wal_open (h : AHeap) (d m fz room wr c ar : Nat) (keep : Value) (name : List UInt8) (rows : List (List UInt8)) (tl content : List UInt8) (o : Option (Value × Nat)) (hc : content = (rows.map frame).flatten ++ tl) (dk : DiskIs h 0 d m fz room content.length (iv ar) keep false wr name o c content)
    (htl : tl = [] ∨ Torn tl) (hn : content.length < 2 ^ 38) (hr : ∀ r, r ∈ rows → r.length ≤ 16777216) (hl : rows.length < 2 ^ 30) (wf : h.lo ≤ h.bs.length) (hwr : wr < 2 ^ 61) (har : ar ≠ 1 ∨ tl = []) (har2 : ar < 2 ^ 62)
    (hN : ∀ h, D C 147 [str name] h = some (.bool true, h)) :
    ∃ h' w vo ar' wr' o' c', D C 85 [.pointer (some ⟨d, 0, some 0⟩), str name] h = some (.tuple #[.pointer (some ⟨w, 0, some 0⟩), vo, Go.Ab.iv 0], h') ∧ RowsW h' h.bs.length w vo rows ∧ h'.at w = some (.cells (wc d name ((rows.map frame).flatten).length false) 229) ∧ h.bs.length ≤ w ∧
      DiskIs h' 0 d m fz room ((rows.map frame).flatten).length (iv ar') keep false wr' name o' c' ((rows.map frame).flatten) ∧ Wr h h' d m o o' ∧ blkOf (fvOf o') = blkOf (fvOf o) ∧ wr' ≤ wr + 1 ∧ (tl = [] → ar' = ar) ∧ (∀ j, blkOf vo = some j → h.bs.length ≤ j ∧ j ≠ w) := by
  obtain ⟨h2, t, w, v, e, W, f⟩ := wal_pre T h d m fz room content.length wr c (iv ar) keep name content o dk hn wf hN
  obtain ⟨g, t', vo, e2, W2, f2⟩ := wal_loop T TO hp h.bs.length d w name v content tl hn rows [] h2 t 0 (.slice none 0 0) W (by omega) (by rw [List.drop_zero, hc]) hr (by simpa using hl)
  rw [List.nil_append] at W2
  have fg : Fr h g (fun _ => False) := f.trans f2 (fun _ h => h) (fun j hj hl => by omega)
  have dkg := dk.fr fg (fun h => h) (fun h => h) (fun _ _ h => h)
  have hF : content.length - tl.length = ((rows.map frame).flatten).length := by rw [hc, List.length_append]; omega
  have hlg := fg.len
  have hdl := get_lt dk.hd
  have hml := get_lt dk.hm
  have hfb := fun j (hj : blkOf (fvOf o) = some j) => dk.ho.blk hj
  by_cases ht : tl = []
  · subst ht
    simp only [List.append_nil] at hc
    simp only [List.length_nil, Nat.sub_zero] at W2
    have e3 := wal_end g t' h.bs.length d w name v content vo rows W2 []
    subst hc
    exact ⟨g, w, vo, ar, wr, o, c, by rw [D_fn T.h85, e, e2 [], e3], W2.O, W2.aw, W2.qw, dkg, ⟨fg.mono fun _ h _ => h.elim, fun _ h => .inl h⟩, rfl, by omega, fun _ => rfl, W2.bo⟩
  · have htn := htl.resolve_left ht
    have har' := har.resolve_right ht
    have hos : o.isSome = true := by
      cases o with
      | some _ => rfl
      | none =>
        exfalso
        have h0 : content = [] := by
          rcases dk.ho with ⟨_, h2, _⟩ | ⟨b, g, last, h1, _⟩
          · exact List.eq_nil_of_length_eq_zero h2
          · cases h1
        have := htn.pos
        rw [h0] at hc
        have := congrArg List.length hc
        simp at this
        omega
    have hdr : content.drop (content.length - tl.length) = tl := by rw [hF, hc, List.drop_left]
    rw [hF] at W2 hdr
    obtain ⟨t2, e3, u0, u1, u9, u10⟩ := wal_torn T TO hp g t' h.bs.length d w _ name v content vo rows W2 hn (by rw [hc, List.length_append]; omega) (by rw [hdr]; exact htn)
    obtain ⟨vc, g2, e4, rfl, o', c', ho', D', W', wb⟩ := disk_cut T TS g d m fz room content.length wr c ((rows.map frame).flatten).length ar keep name o content hos dkg (by rw [hc, List.length_append]; omega) (Nat.le_refl _) (by omega) (by have := W2.wf; omega) (by omega) hN har' har2
    have htk : content.take ((rows.map frame).flatten).length = (rows.map frame).flatten := by rw [hc, List.take_left]
    have hlk : content.length - (content.length - ((rows.map frame).flatten).length) = ((rows.map frame).flatten).length := by rw [hc, List.length_append]; omega
    rw [htk, hlk] at D'
    have q2 : rd1 (some (.cells (wc d name ((rows.map frame).flatten).length false) 229)) 2 0 = some (Go.Ab.iv ((rows.map frame).flatten).length) := rfl
    have uo := RowsW.und W2.O
    have hqw := W2.qw
    have hw2 : g2.at w = some (.cells (wc d name ((rows.map frame).flatten).length false) 229) := W'.fr.get W2.aw (fun hc => by
      rcases hc with hc | hc | hc
      · omega
      · omega
      · have := hfb w hc; omega)
    have RW2 : RowsW g2 h.bs.length w vo rows := W2.O.fr W'.fr (fun j hj hc => by
      have hj2 := W2.bo j hj
      rcases hc with hc | hc | hc
      · omega
      · omega
      · have := hfb j hc; omega) (fun j hj => by
      rcases hj with hc | hc | hc
      · left; omega
      · left; omega
      · left; exact hfb j hc)
    refine ⟨g2, w, vo, ar - 1, wr + 1, o', c', ?_, RW2, hw2, W2.qw, D', ⟨(fg.mono fun _ h _ => h.elim).trans W'.fr (fun _ h => h) (fun _ h _ => h), fun j hj => (W'.blk j hj).imp_right fun h => by omega⟩, wb, by omega, fun h => absurd h ht, W2.bo⟩
    have t0 := u0.trans W2.t0
    have t1 := u1.trans W2.t1
    have t9 := u9.trans W2.t9
    have t10 := u10.trans W2.t10
    rw [D_fn T.h85, e, e2 [], e3 []]
    have aw := W2.aw
    generalize ((rows.map frame).flatten).length = sF at aw e4
    simp [wtorn, wZ, ws4, ws3, ws2, ws1, wY, scIn, b85, s1, s2, t0, t1, t9, t10, aw, wc2, Dc_ok, e4, stp_ok uo, uo, r85]
set_option maxHeartbeats 4000000 in
/-- wal.Open, at which the power goes -/
theorem wal_openO (h : AHeap) (d m fz room wr c : Nat) (k : Int) (name : List UInt8) (rows : List (List UInt8)) (tl content : List UInt8) (o : Option (Value × Nat)) (hc : content = (rows.map frame).flatten ++ tl) (dk : DiskIs h 0 d m fz room content.length (iv 1) (.int .i64 k) false wr name o c content)
    (htn : Torn tl) (hn : content.length < 2 ^ 38) (hr : ∀ r, r ∈ rows → r.length ≤ 16777216) (hl : rows.length < 2 ^ 30) (wf : h.lo ≤ h.bs.length) (hwr : wr < 2 ^ 61)
    (hN : ∀ h, D C 147 [str name] h = some (.bool true, h)) :
    ∃ h' tl' o' c', D C 85 [.pointer (some ⟨d, 0, some 0⟩), str name] h = some (.tuple #[.pointer none, .slice none 0 0, Go.Ab.iv 94], h') ∧ (tl' = [] ∨ Torn tl') ∧ tl'.length ≤ tl.length ∧
      DiskIs h' 0 d m fz room ((rows.map frame).flatten ++ tl').length (iv 0) (.int .i64 k) true (wr + 1) name o' c' ((rows.map frame).flatten ++ tl') ∧ Wr h h' d m o o' ∧ blkOf (fvOf o') = blkOf (fvOf o) := by
  obtain ⟨h2, t, w, v, e, W, f⟩ := wal_pre T h d m fz room content.length wr c (iv 1) (.int .i64 k) name content o dk hn wf hN
  obtain ⟨g, t', vo, e2, W2, f2⟩ := wal_loop T TO hp h.bs.length d w name v content tl hn rows [] h2 t 0 (.slice none 0 0) W (by omega) (by rw [List.drop_zero, hc]) hr (by simpa using hl)
  rw [List.nil_append] at W2
  have fg : Fr h g (fun _ => False) := f.trans f2 (fun _ h => h) (fun j hj hl => by omega)
  have dkg := dk.fr fg (fun h => h) (fun h => h) (fun _ _ h => h)
  have hF : content.length - tl.length = ((rows.map frame).flatten).length := by rw [hc, List.length_append]; omega
  have hlg := fg.len
  have hos : o.isSome = true := by
    cases o with
    | some _ => rfl
    | none =>
      exfalso
      have h0 : content = [] := by
        rcases dk.ho with ⟨_, h2, _⟩ | ⟨b, g, last, h1, _⟩
        · exact List.eq_nil_of_length_eq_zero h2
        · cases h1
      have := htn.pos
      rw [h0] at hc
      have := congrArg List.length hc
      simp at this
      omega
  have hdr : content.drop (content.length - tl.length) = tl := by rw [hF, hc, List.drop_left]
  rw [hF] at W2 hdr
  obtain ⟨t2, e3, u0, u1, u9, u10⟩ := wal_torn T TO hp g t' h.bs.length d w _ name v content vo rows W2 hn (by rw [hc, List.length_append]; omega) (by rw [hdr]; exact htn)
  obtain ⟨vc, g2, e4, rfl, o', c', ho', D', W', wb⟩ := disk_cutO T TS g d m fz room content.length wr c ((rows.map frame).flatten).length k name o content hos dkg (by rw [hc, List.length_append]; omega) (Nat.le_refl _) (by omega) (by have := W2.wf; omega) (by omega) hN
  have htk : content.take ((rows.map frame).flatten).length = (rows.map frame).flatten := by rw [hc, List.take_left]
  have hlk : content.length - (content.length - ((rows.map frame).flatten).length) = ((rows.map frame).flatten).length := by rw [hc, List.length_append]; omega
  rw [htk, hlk] at D'
  have q2 : rd1 (some (.cells (wc d name ((rows.map frame).flatten).length false) 229)) 2 0 = some (Go.Ab.iv ((rows.map frame).flatten).length) := rfl
  have t0 := u0.trans W2.t0
  have t1 := u1.trans W2.t1
  have t9 := u9.trans W2.t9
  have t10 := u10.trans W2.t10
  have eD : D C 85 [.pointer (some ⟨d, 0, some 0⟩), str name] h = some (.tuple #[.pointer none, .slice none 0 0, Go.Ab.iv 94], g2) := by
    rw [D_fn T.h85, e, e2 [], e3 []]
    have aw := W2.aw
    generalize ((rows.map frame).flatten).length = sF at aw e4
    simp [wtorn, wZ, ws4, ws3, ws2, ws1, wY, scIn, b85, s1, s2, t0, t1, t9, t10, aw, wc2, Dc_ok, e4, r85]
  have hWr : Wr h g2 d m o o' := ⟨(fg.mono fun _ h _ => h.elim).trans W'.fr (fun _ h => h) (fun _ h _ => h), fun j hj => (W'.blk j hj).imp_right fun h => by omega⟩
  by_cases hk : 0 < k
  · rw [if_pos hk, if_pos hk] at D'
    exact ⟨g2, [], o', c', eD, .inl rfl, Nat.zero_le _, by rw [List.append_nil]; exact D', hWr, wb⟩
  · rw [if_neg hk, if_neg hk] at D'
    exact ⟨g2, tl, o', c', eD, .inr htn, Nat.le_refl _, by rw [← hc]; exact D', hWr, wb⟩
end Go.Ab.Aud

namespace Go.Ab.Aud
open Go.Sha
/-- bytes that were given, in memory that nothing writes -/
def ArgB (old : Old) (v : Value) (l : List UInt8) : Prop := ∃ a cp, v = .slice a l.length cp ∧ (∀ h, SlR old h 1 (.slice a l.length cp) (bytesVals l)) ∧ ∀ j, ¬ Live (.slice a l.length cp) j
/-- rows that were given -/
def ArgR (old : Old) (v : Value) (rows : List (List UInt8)) : Prop :=
  ∃ a cp vs, v = .slice a rows.length cp ∧ (∀ h, SlR old h 1 (.slice a rows.length cp) vs) ∧ (∀ j, ¬ Live (.slice a rows.length cp) j) ∧ ∀ i, i < rows.length → ∃ x, vs[i]? = some x ∧ ArgB old x (rows.getD i [])
theorem ArgR.get {old : Old} {v : Value} {rows : List (List UInt8)} (H : ArgR old v rows) {i : Nat} (hi : i < rows.length) : ∃ a' cp' a cp, v = .slice (some a') rows.length cp' ∧ (∀ h, read1 old h (adda a' i) = some (.slice a (rows.getD i []).length cp)) ∧ (∀ h, SlR old h 1 (.slice a (rows.getD i []).length cp) (bytesVals (rows.getD i []))) ∧ ∀ j, ¬ Live (.slice a (rows.getD i []).length cp) j := by
  obtain ⟨a, cp, vs, h1, h2, h3, h4⟩ := H
  obtain ⟨a', rfl⟩ := (h2 ⟨[], 0⟩).ex (by omega)
  obtain ⟨x, hx, b, cpb, h5, h6, h7⟩ := h4 i hi
  refine ⟨a', cp, b, cpb, h1, fun h => ?_, h6, h7⟩
  have := readN_read1 ((h2 h).read (by omega)) (i := i) (by omega)
  rw [this, hx, h5]
theorem ArgB.und {old : Old} {v : Value} {l : List UInt8} (H : ArgB old v l) : isUnd v = false := by obtain ⟨a, cp, rfl, _⟩ := H; rfl
variable {C : Ctx} (T : Tab_LLog C) (TD : Tab_LDig C) (TW : Tab_LLaw C) (hk : ∀ j, j < 64 → C.old 0 j = some (wv (kW j))) (hp : ∀ j, j < 16 → C.old 1 j = some (wv (crcW j)))
include T TD TW hk hp
end Go.Ab.Aud

namespace Go.Ab.Aud
open Go.Sha
variable {C : Ctx} (T : Tab_LLog C) (TD : Tab_LDig C) (hk : ∀ j, j < 64 → C.old 0 j = some (wv (kW j)))
include T TD hk
set_option maxHeartbeats 4000000 in
theorem aopen_round (h1 : AHeap) (q w : Nat) (vo : Value) (rows : List (List UInt8)) (RW : RowsW h1 q w vo rows) (g : AHeap) (t : List Value) (i : Nat) (ls : Value) (hi : i < rows.length) (hrl : rows.length ≤ 65536) (hr : (rows.getD i []).length ≤ 16384) (f : Fr h1 g (fun j => h1.bs.length ≤ j))
    (ap : g.at h1.bs.length = some (.cells (lc 0 w vo ls 0) 172)) (L : Own g 30 32 ls i (leafCells ((rows.take i).map lh))) (bl : ∀ j, blkOf ls = some j → h1.bs.length < j) (wf : h1.lo ≤ h1.bs.length)
    (t9 : tg t 9 = .pointer (some ⟨h1.bs.length, 0, some 0⟩)) (t37 : tg t 37 = vo) (t38 : tg t 38 = Go.Ab.iv rows.length) (t39 : tg t 39 = Go.Ab.iv i) :
    ∃ g' t' ls', (∀ K, R C r43 (.inLoop lp43_0 :: K) t [] g = R C r43 (.inLoop lp43_0 :: K) t' [] g') ∧ Fr h1 g' (fun j => h1.bs.length ≤ j) ∧ g'.at h1.bs.length = some (.cells (lc 0 w vo ls' 0) 172) ∧ Own g' 30 32 ls' (i + 1) (leafCells ((rows.take (i + 1)).map lh)) ∧ (∀ j, blkOf ls' = some j → h1.bs.length < j) ∧
      tg t' 9 = tg t 9 ∧ tg t' 37 = vo ∧ tg t' 38 = tg t 38 ∧ tg t' 39 = Go.Ab.iv (i + 1) := by
  obtain ⟨vs, o, gx⟩ := RW
  obtain ⟨x, hx, ox, _⟩ := gx i hi
  have og := o.fr f (fun j hj hc => by have := o.blk hj; omega)
  have oxg := ox.fr f (fun j hj hc => by have := ox.blk hj; omega)
  obtain ⟨a, cp, hv⟩ := og.slice
  have sl := og.sl (old := C.old) (by omega)
  rw [hv] at sl
  obtain ⟨a', rfl⟩ := sl.ex (by omega)
  have rd : read1 C.old g (adda a' i) = some x := by
    have := readN_read1 (sl.read (by omega)) (i := i) (by omega)
    rw [this, hx]
  obtain ⟨ax, cpx, hxs⟩ := oxg.slice
  have sx := oxg.sl (old := C.old) (by omega)
  rw [hxs] at sx
  have e1 := leaf_spec TD hk g (rows.getD i []) ax _ cpx sx (by omega)
  have hml : ((rows.take i).map lh).length = i := by simp; omega
  have h32 : ∀ y, y ∈ (rows.take i).map lh → y.length = 32 := fun y hy => by
    obtain ⟨z, _, hz⟩ := List.mem_map.1 hy
    rw [← hz]; exact sha_length _
  have fl := f.len
  have fo := f.lo
  obtain ⟨v', h4, e4, D4, f4, b4⟩ := dig_append (old := C.old) (h := g) (v := ls) (x := sha (0 :: rows.getD i [])) ⟨by rw [hml]; exact L, h32⟩ (sha_length _) (by omega) (by omega)
  have u4 : isUnd v' = false := D4.1.und
  have k4 : okCell v' = true := D4.1.okc
  have ap4 := f4.get ap (fun hc => by have := bl _ hc; omega)
  have l4 := f4.len
  have lo4 := f4.lo
  generalize h5e : h4.put h1.bs.length (.cells (lc 0 w vo v' 0) 172) = h5
  have f5 : Fr h4 h5 (fun j => j = h1.bs.length) := by rw [← h5e]; exact Fr.put rfl
  have hsl : (lc 0 w vo ls 0).set 4 v' = lc 0 w vo v' 0 := rfl
  have hw6 : (lc 0 w vo ls 0).length = 6 := rfl
  have w1 : ∀ G, wr1 G h1.bs.length (some (.cells (lc 0 w vo ls 0) 172)) 4 0 v' = some (G.put h1.bs.length (.cells (lc 0 w vo v' 0) 172)) := fun G => by
    rw [wr1_cells (by rw [hw6]; omega) k4, hsl]
  have q4 : rd1 (some (.cells (lc 0 w vo ls 0) 172)) 4 0 = some ls := rfl
  have uls := L.und
  have bl4 : ∀ j, blkOf v' = some j → h1.bs.length < j := fun j hj => by
    rcases b4 with b4 | ⟨j', b4, hb⟩
    · rw [b4] at hj; exact bl j hj
    · rw [b4] at hj; cases hj
      have := get_lt ap
      omega
  have hsum : (rows.take (i + 1)).map lh = (rows.take i).map lh ++ [sha (0 :: rows.getD i [])] := by
    rw [List.take_add_one, List.getElem?_eq_getElem hi, List.map_append]
    simp [lh, List.getD_eq_getElem?_getD, hi]
  have D5 := D4.1.fr f5 (fun j hj hc => by have := bl4 j hj; omega)
  rw [List.length_append, hml, ← hsum] at D5
  have f15 : Fr h1 h5 (fun j => h1.bs.length ≤ j) := (f.trans f4 (fun _ h => h) (fun j hj _ => by have := bl j hj; omega)).trans f5 (fun _ h => h) (fun j hj _ => by omega)
  subst hv hxs
  generalize rows.getD i [] = r at *
  obtain ⟨t', e, u9, u37, u38, u39⟩ : ∃ t', (∀ K, R C r43 (.inLoop lp43_0 :: K) t [] g = R C r43 (.inLoop lp43_0 :: K) t' [] h5) ∧ tg t' 9 = tg t 9 ∧ tg t' 37 = tg t 37 ∧ tg t' 38 = tg t 38 ∧ tg t' 39 = Go.Ab.iv (i + 1) := by
    have hok : (bytesVals (sha (0 :: r))).all okCell = true := bytes_ok
    simp only [List.all_eq_true] at hok
    have apP : (g.push (.cells (bytesVals (sha (0 :: r))) 31)).at h1.bs.length = some (.cells (lc 0 w (.slice (some a') rows.length cp) ls 0) 172) := push_old ap
    refine ex_step (fun k => R_open lp43_0.eq_1) ?_
    simp [eq_true hok, apP, t9, t37, t38, t39, hi, ixS_iv hi, rd, show ¬ 16384 < r.length by omega, ap, q4, stp_ok uls, uls, Dc_ok, e1, fillCells, splice, sha_length, e4, stp_ok u4, u4, ap4, write1_wr, w1, h5e, lo4, fo, wf, iv_add (a := i) (b := 1) (by omega)]
    exact ⟨_, fun _ => rfl, by simp [t9], by simp [t37], by simp [t38], by simp⟩
  exact ⟨h5, t', v', e, f15, by rw [← h5e]; exact put_self (get_lt ap4), D5, bl4, u9, u37.trans t37, u38, u39⟩
theorem aopen_loop (h1 : AHeap) (q w : Nat) (vo : Value) (rows : List (List UInt8)) (RW : RowsW h1 q w vo rows) (hrl : rows.length ≤ 65536) (hr : ∀ i, i < rows.length → (rows.getD i []).length ≤ 16384) (wf : h1.lo ≤ h1.bs.length) : ∀ (k i : Nat) (g : AHeap) (t : List Value) (ls : Value), i + k = rows.length → Fr h1 g (fun j => h1.bs.length ≤ j) →
    g.at h1.bs.length = some (.cells (lc 0 w vo ls 0) 172) → Own g 30 32 ls i (leafCells ((rows.take i).map lh)) → (∀ j, blkOf ls = some j → h1.bs.length < j) →
    tg t 9 = .pointer (some ⟨h1.bs.length, 0, some 0⟩) → tg t 37 = vo → tg t 38 = Go.Ab.iv rows.length → tg t 39 = Go.Ab.iv i →
    ∃ g' t' ls', (∀ K, R C r43 (.inLoop lp43_0 :: .inBlock 0 :: K) t [] g = R C r43 K t' [] g') ∧ Fr h1 g' (fun j => h1.bs.length ≤ j) ∧ g'.at h1.bs.length = some (.cells (lc 0 w vo ls' 0) 172) ∧ Own g' 30 32 ls' rows.length (leafCells (rows.map lh)) ∧ (∀ j, blkOf ls' = some j → h1.bs.length < j) ∧ tg t' 9 = .pointer (some ⟨h1.bs.length, 0, some 0⟩) := by
  intro k
  induction k with
  | zero =>
    intro i g t ls hi f ap L bl t9 t37 t38 t39
    obtain rfl : i = rows.length := by omega
    rw [List.take_length] at L
    obtain ⟨t', e, u9⟩ : ∃ t', (∀ K, R C r43 (.inLoop lp43_0 :: .inBlock 0 :: K) t [] g = R C r43 K t' [] g) ∧ tg t' 9 = tg t 9 := by
      refine ex_step (fun k => R_open lp43_0.eq_1) ?_
      simp [t38, t39]
      exact ⟨_, fun _ => rfl, by simp⟩
    exact ⟨g, t', ls, e, f, ap, L, bl, u9.trans t9⟩
  | succ k ih =>
    intro i g t ls hi f ap L bl t9 t37 t38 t39
    obtain ⟨g1, t1, ls1, e1, f1, ap1, L1, bl1, u9, u37, u38, u39⟩ := aopen_round T TD hk h1 q w vo rows RW g t i ls (by omega) hrl (hr i (by omega)) f ap L bl wf t9 t37 t38 t39
    obtain ⟨g2, t2, ls2, e2, h2⟩ := ih (i + 1) g1 t1 ls1 (by omega) f1 ap1 L1 bl1 (u9.trans t9) u37 (u38.trans t38) u39
    exact ⟨g2, t2, ls2, fun K => (e1 _).trans (e2 K), h2⟩
end Go.Ab.Aud

namespace Go.Ab.Aud
open Go.Sha
variable {C : Ctx} (T : Tab_LLog C) (TS : Tab_LStan C) (TD : Tab_LDig C) (TO : Tab_LOpen C) (hk : ∀ j, j < 64 → C.old 0 j = some (wv (kW j))) (hp : ∀ j, j < 16 → C.old 1 j = some (wv (crcW j)))
include T TS TD TO hk hp
set_option maxHeartbeats 4000000 in
/-- audit.Open over a file of records -/
theorem audit_open (h : AHeap) (OD : Nat → Prop) (d room wr ar : Nat) (keep : Value) (name : List UInt8) (rows : List (List UInt8)) (tl : List UInt8) (DA : DiskAt h OD d (Go.Ab.iv ar) keep false name ((rows.map frame).flatten ++ tl) room wr)
    (htl : tl = [] ∨ Torn tl) (hn : ((rows.map frame).flatten ++ tl).length < 2 ^ 38) (hr : ∀ r, r ∈ rows → r.length ≤ 16384) (hl : rows.length ≤ 65536) (wf : h.lo ≤ h.bs.length) (hwr : wr < 2 ^ 61) (har : ar ≠ 1 ∨ tl = []) (har2 : ar < 2 ^ 62)
    (hN : ∀ h, D C 147 [str name] h = some (.bool true, h)) :
    ∃ h' p ar' wr', D C 43 [.pointer (some ⟨d, 0, some 0⟩), str name] h = some (.tuple #[.pointer (some ⟨p, 0, some 0⟩), Go.Ab.iv 0], h') ∧ h.bs.length ≤ p ∧ Fr h h' OD ∧ wr' ≤ wr + 1 ∧ (tl = [] → ar' = ar) ∧
      LogAt h' (fun j => OD j ∨ (h.bs.length ≤ j ∧ j < h'.bs.length)) p d (Go.Ab.iv ar') keep false false 0 ((rows.map frame).flatten).length name ((rows.map frame).flatten) rows room wr' := by
  obtain ⟨m, fz, o, c, dk, od, om, ob, ol⟩ := DA
  obtain ⟨h1, w, vo, ar', wr', o', c', e1, RW, aw, hw, D1, W1, wb, hwr', hare, bo⟩ := wal_open T TS TO hp h d m fz room wr c ar keep name rows tl _ o rfl dk htl hn (fun r h => by have := hr r h; omega) (by omega) wf hwr har har2 hN
  have f1 : Fr h h1 OD := W1.fr.mono fun j hj _ => by
    rcases hj with rfl | rfl | hj
    · exact od
    · exact om
    · exact ob j hj
  have l1 := f1.len
  have o1 := f1.lo
  have uo : isUnd vo = false := by obtain ⟨vs, o, _⟩ := RW; exact o.und
  have ov : okCell vo = true := by obtain ⟨vs, o, _⟩ := RW; exact o.okc
  have lv : lenV vo = some (Go.Ab.iv rows.length) := by obtain ⟨vs, o, _⟩ := RW; exact o.lenV
  generalize hh2 : h1.push (.cells (lc 0 w vo (.slice none 0 0) 0) 172) = h2
  have f2 : Fr h1 h2 (fun j => h1.bs.length ≤ j) := by rw [← hh2]; exact Fr.push
  have p2 : h2.at h1.bs.length = some (.cells (lc 0 w vo (.slice none 0 0) 0) 172) := by rw [← hh2]; exact push_self
  obtain ⟨t, e, t9, t37, t38, t39⟩ : ∃ t, R C r43 [.code b43] [.pointer (some ⟨d, 0, some 0⟩), str name] [] h = R C r43 (.inLoop lp43_0 :: .inBlock 0 :: [.code k43_0]) t [] h2 ∧ tg t 9 = .pointer (some ⟨h1.bs.length, 0, some 0⟩) ∧ tg t 37 = vo ∧ tg t 38 = Go.Ab.iv rows.length ∧ tg t 39 = Go.Ab.iv 0 := by
    have z1 : splice (splice [Value.int .i32 0, Value.int .u32 0, Value.pointer none, Value.slice none 0 0, Value.slice none 0 0, Go.Ab.iv 0] 2 [.pointer (some ⟨w, 0, some 0⟩)]) 3 [vo] = lc 0 w vo (.slice none 0 0) 0 := rfl
    have z2 : (splice [Value.int .i32 0, Value.int .u32 0, Value.pointer none, Value.slice none 0 0, Value.slice none 0 0, Go.Ab.iv 0] 2 [.pointer (some ⟨w, 0, some 0⟩)]).length = 6 := rfl
    have z3 : (lc 0 w vo (.slice none 0 0) 0).all okCell = true := by simp [lc, ov]
    simp only [List.all_eq_true] at z3
    have c8 : cellsOf vo = [vo] := by obtain ⟨vs, o, _⟩ := RW; obtain ⟨a, cp, h⟩ := o.slice; rw [h]; rfl
    have po : partOk vo = true := by obtain ⟨vs, o, _⟩ := RW; obtain ⟨a, cp, h⟩ := o.slice; rw [h]; rfl
    simp [b43, po, Dc_ok, e1, stp_ok uo, uo, lv, show ¬ 65536 < rows.length by omega, fillCells, c8, z1, z2, eq_true z3, hh2]
    exact ⟨_, rfl, by simp, by simp, by simp, by simp⟩
  obtain ⟨g, t', ls, e2, f3, ap, L, bl, u9⟩ := aopen_loop T TD hk h1 h.bs.length w vo rows RW hl (fun i hi => hr _ (by rw [List.getD_eq_getElem?_getD, List.getElem?_eq_getElem hi]; exact List.getElem_mem hi)) (by omega) rows.length 0 h2 t (.slice none 0 0) (by omega) f2 p2 .nil (fun j hj => by cases hj) t9 t37 t38 t39
  have f13 : Fr h g OD := f1.trans f3 (fun _ h => h) (fun j hj hl => by omega)
  have lg := f13.len
  have lg1 := f3.len
  have og := f13.lo
  have hwl := get_lt aw
  have hpl := get_lt ap
  have hml : (rows.map lh).length = rows.length := by simp
  have hdl := ol d od
  have hmm := ol m om
  have hob : ∀ j, blkOf (fvOf o') = some j → OD j := fun j hj => ob j (by rw [← wb]; exact hj)
  have hfb := fun j (hj : blkOf (fvOf o') = some j) => D1.ho.blk hj
  obtain ⟨vs, oo', gx⟩ := RW
  have hvb := fun j (hj : blkOf vo = some j) => oo'.blk hj
  have aw3 := f3.get aw (by omega)
  have dk3 := D1.fr f3 (by omega) (by omega) (fun j hj hc => by have := hfb j hj; omega)
  have og3 := oo'.fr f3 (fun j hj hc => by have := hvb j hj; omega)
  have hlb := fun j (hj : blkOf ls = some j) => L.blk hj
  have hvf : ∀ j, blkOf vo = some j → blkOf (fvOf o') ≠ some j := fun j hj hc => by
    have := (bo j hj).1
    have := ol j (hob j hc)
    omega
  refine ⟨g, h1.bs.length, ar', wr', ?_, l1, f13, hwr', hare, ⟨w, m, 171, 228, fz, o', c', vo, ls, ?_⟩⟩
  · rw [D_fn T.h43, e, e2]
    simp [k43_0, u9, r43]
  · exact {
      hp := ap
      hw := aw3
      dk := dk3
      eo := by
        refine ⟨vs, og3, fun i hi => ?_⟩
        obtain ⟨x, hx, ox, bx⟩ := gx i hi
        refine ⟨x, hx, ox.fr f3 (fun j hj hc => by have := ox.blk hj; omega), fun j hj => ?_⟩
        obtain ⟨b1, b2, b3⟩ := bx j hj
        have hjl := ox.blk hj
        exact ⟨by omega, b2, by omega, by omega, b3, fun hc => by have := bl j hc; omega, fun hc => by have := ol j (hob j hc); omega, .inr ⟨b1, by omega⟩⟩
      lo := L
      lop := by omega
      low := by omega
      ne := ⟨by omega, by omega, by omega, by omega, by omega⟩
      be := fun j hj => by
        have h1' := bo j hj
        have h2' := hvb j hj
        exact ⟨by omega, h1'.2, by omega, by omega, fun hc => by have := bl j hc; omega, hvf j hj, .inr ⟨h1'.1, by omega⟩⟩
      bl := fun j hj => by
        have h1' := bl j hj
        have h2' := hlb j hj
        exact ⟨by omega, by omega, by omega, by omega, fun hc => by have := hvb j hc; omega, fun hc => by have := hfb j hc; omega, .inr ⟨by omega, h2'⟩⟩
      bf := fun j hj => by
        have h2' := hfb j hj
        refine ⟨by omega, fun hc => by have := ol j (hob j hj); omega, fun hc => D1.bd (by rw [hj, hc]), fun hc => D1.bm (by rw [hj, hc]), fun hc => hvf j hc hj, fun hc => by have := bl j hc; omega, .inl (hob j hj)⟩
      op := ⟨.inr ⟨l1, hpl⟩, .inr ⟨hw, by omega⟩, .inl od, .inl om⟩
      olt := fun j hj => by
        rcases hj with hj | hj
        · have := ol j hj; omega
        · exact hj.2 }
end Go.Ab.Aud

namespace Go.Ab.Aud
open Go.Sha
variable {C : Ctx} (T : Tab_LLog C) (TD : Tab_LDig C) (TW : Tab_LLaw C) (hk : ∀ j, j < 64 → C.old 0 j = some (wv (kW j))) (hp : ∀ j, j < 16 → C.old 1 j = some (wv (crcW j)))
theorem aeq_nilPs {a : Addr} : aeq .nilP (.pointer (some a)) (.pointer none) = some false := nr rfl
/-- audit -/
def nmAudit : List UInt8 := [97, 117, 100, 105, 116]
def nmA : List UInt8 := [97]
theorem flatten_nil' : ((([] : List (List UInt8)).map frame).flatten ++ ([] : List UInt8)) = [] := rfl
variable (TS : Tab_LStan C) (TO : Tab_LOpen C)
include T TS TD TO hk hp in
/-- a disk and a log on it -/
theorem open_new (h : AHeap) (room : Nat) (name : List UInt8) (h1 : 1 ≤ room) (h2 : room ≤ 268435456) (hwf : h.lo ≤ h.bs.length) (hN : ∀ h, D C 147 [str name] h = some (.bool true, h)) :
    ∃ h1 h2 d p O wr, D C 42 [iv room] h = some (.tuple #[.pointer (some ⟨d, 0, some 0⟩), iv 0], h1) ∧ D C 43 [.pointer (some ⟨d, 0, some 0⟩), str name] h1 = some (.tuple #[.pointer (some ⟨p, 0, some 0⟩), iv 0], h2) ∧
      LogAt h2 O p d (iv 0) (iv 0) false false 0 0 name [] [] room wr ∧ wr ≤ 1 ∧ (∀ j, O j → h.bs.length ≤ j) ∧ Fr h h2 (fun _ => False) := by
  have e1 := disk_new T h room h1 h2
  generalize hA : (h.push (.map [] 0)).push (.cells (dc 0 room 0 h.bs.length (iv 0) (iv 0) false 0) 189) = A at e1
  have fa : Fr h A (fun _ => False) := by rw [← hA]; exact Fr.push.push'
  have hl : A.bs.length = h.bs.length + 2 := by rw [← hA]; simp
  have lo := fa.lo
  have dk : DiskAt A (fun j => j = h.bs.length ∨ j = h.bs.length + 1) (h.bs.length + 1) (iv 0) (iv 0) false name ((([] : List (List UInt8)).map frame).flatten ++ []) room 0 := by
    rw [flatten_nil']
    refine ⟨h.bs.length, 188, none, 0, ⟨?_, ?_, .nil, by omega, by omega, by omega, by simp [fvOf, blkOf], by simp [fvOf, blkOf]⟩, .inr rfl, .inl rfl, (fun j hj => by cases hj), fun j hj => by omega⟩
    · rw [← hA]; exact push_self' (by simp)
    · rw [← hA, push_lt (by simp)]; exact push_self
  obtain ⟨h', p, ar', wr', e2, hp', f, hwr, har, L⟩ := audit_open T TS TD TO hk hp A _ (h.bs.length + 1) room 0 0 (iv 0) name [] [] dk (.inl rfl) (by simp) (fun r hr => by cases hr) (by simp) (by omega) (by omega) (.inr rfl) (by omega) hN
  rw [har rfl] at L
  have hl' := f.len
  exact ⟨A, h', _, p, _, wr', e1, e2, L, by omega, fun j hj => (by omega), fa.trans f (fun _ h => h) (fun j hj hl => by omega)⟩
end Go.Ab.Aud

namespace Go.Ab.Aud
open Go.Sha
theorem wakes_sha : (sha (1 :: (sha (1 :: (lh [0] ++ lh [2])) ++ lh [2])) = sha (1 :: (sha (1 :: (lh [0] ++ lh [1])) ++ lh [2]))) = False := by
  have : decide (sha (1 :: (sha (1 :: (lh [0] ++ lh [2])) ++ lh [2])) = sha (1 :: (sha (1 :: (lh [0] ++ lh [1])) ++ lh [2]))) = false := by decide +kernel
  exact eq_false (of_decide_eq_false this)
def wl3 : List (List UInt8) := [lh [0], lh [1], lh [2]]
def wRoot : List UInt8 := sha (1 :: (sha (1 :: (lh [0] ++ lh [1])) ++ lh [2]))
def wTwo : List UInt8 := sha (1 :: (lh [0] ++ lh [1]))
theorem lft3 : lft 3 = 2 := by decide
theorem lft2 : lft 2 = 1 := by decide
theorem rootL1 {a : List UInt8} : rootL [a] = a := rfl
theorem rootL2 {a b : List UInt8} : rootL [a, b] = sha (1 :: (a ++ b)) := by
  rw [rootL_two (by simp)]
  simp only [List.length_cons, List.length_nil, Nat.zero_add, Nat.reduceAdd, lft2, List.take_succ_cons, List.take_zero, List.drop_succ_cons, List.drop_zero, rootL1, nodeL]
theorem rootL3 : rootL (wl3.take 3) = wRoot := by
  have e : wl3.take 3 = [lh [0], lh [1], lh [2]] := rfl
  rw [e, rootL_two (by simp)]
  simp only [List.length_cons, List.length_nil, Nat.zero_add, Nat.reduceAdd, lft3, List.take_succ_cons, List.take_zero, List.drop_succ_cons, List.drop_zero, rootL1, rootL2, nodeL]
  rfl
theorem rootL32 : rootL (wl3.take 2) = wTwo := by
  have e : wl3.take 2 = [lh [0], lh [1]] := rfl
  rw [e, rootL2]; rfl
theorem path3 : pathF 3 (wl3.take 3) 1 = [lh [0], lh [2]] := by
  have e : wl3.take 3 = [lh [0], lh [1], lh [2]] := rfl
  rw [e]
  simp [pathF, lft3, lft2, rootL1]
theorem proof3 : proofF 3 (wl3.take 3) 2 true = [lh [2]] := by
  have e : wl3.take 3 = [lh [0], lh [1], lh [2]] := rfl
  rw [e]
  simp [proofF, lft3, rootL1]
theorem incl3 {x : List UInt8} : inclF 3 1 wRoot x [lh [0], lh [2]] = if sha (1 :: (sha (1 :: (lh [0] ++ x)) ++ lh [2])) = wRoot then 0 else 236 := by
  have e : downF 64 1 3 = [false, true] := by simp [downF, lft3, lft2]
  unfold inclF
  rw [e, if_neg (by omega), if_neg (by simp)]
  simp [foldW, stepW]
theorem foll3 : follF 2 3 wTwo wRoot [lh [2]] = 0 := by
  have e : mdown 64 2 3 = [false] := by simp [mdown, lft3]
  unfold follF
  rw [e, if_neg (by omega)]
  have o : one1 [false] = 0 := by simp [one1]
  rw [o]
  simp [foldP]
  rfl
end Go.Ab.Aud

namespace Go.Ab.Aud
open Go.Sha
variable {C : Ctx} (T : Tab_LLog C) (TS : Tab_LStan C) (TO : Tab_LOpen C) (TD : Tab_LDig C) (TW : Tab_LLaw C) (hk : ∀ j, j < 64 → C.old 0 j = some (wv (kW j))) (hp : ∀ j, j < 16 → C.old 1 j = some (wv (crcW j)))
include T TS TO TD TW hk hp
set_option maxHeartbeats 1000000 in
theorem wk_step (i wr p d : Nat) (O : Nat → Prop) (b : UInt8) (content : List UInt8) (rows : List (List UInt8)) (g : AHeap) (t : List Value) (hi : i < 3) (hb : UInt8.ofNat i = b) (hl : rows.length = i) (hc : content.length ≤ 100) (hwr : wr < 100) (H : LogAt g O p d (iv 0) (iv 0) false false 0 content.length nmA content rows 1000 wr) (hwf : g.lo ≤ g.bs.length)
    (hN : ∀ h, D C 147 [str nmA] h = some (.bool true, h)) (t3 : tg t 3 = .pointer (some ⟨p, 0, some 0⟩)) (t5 : tg t 5 = iv i) :
    ∃ g' t' O', (∀ k, R C r23 (.inLoop lp23_0 :: .inBlock 0 :: k) t [] g = R C r23 (.inLoop lp23_0 :: .inBlock 0 :: k) t' [] g') ∧ tg t' 3 = .pointer (some ⟨p, 0, some 0⟩) ∧ tg t' 5 = iv (i + 1) ∧ LogAt g' O' p d (iv 0) (iv 0) false false 0 (content ++ frame [b]).length nmA (content ++ frame [b]) (rows ++ [[b]]) 1000 (wr + 1) ∧ g'.lo ≤ g'.bs.length ∧ (content ++ frame [b]).length = content.length + 14 := by
  have f1 : Fr g (g.push (.cells [bv b] 6)) (fun _ => False) := Fr.push
  have H1 := H.fr f1 (fun _ _ h => h)
  have ol := H.olt
  obtain ⟨g', e, H2, f2⟩ := audit_append T TD hp hk (g.push (.cells [bv b] 6)) O p d 1000 wr 0 (iv 0) nmA content rows [b] (some ⟨g.bs.length, 0, some 0⟩) 1 1 H1 one_sl (fun j hj hO => by have := slLive hj; have := ol j hO; omega) (by simp; omega) (by omega) (by omega) (by omega) (by omega) (by omega) hN (by omega) (by omega)
  have l2 := f2.len
  have g2 := f2.lo
  have hfl := frame_length [b]
  simp at l2 g2 hfl
  have e2 : ∃ t', (∀ k, R C r23 (.inLoop lp23_0 :: .inBlock 0 :: k) t [] g = R C r23 (.inLoop lp23_0 :: .inBlock 0 :: k) t' [] g') ∧ tg t' 3 = .pointer (some ⟨p, 0, some 0⟩) ∧ tg t' 5 = iv (i + 1) := by
    refine ex_step (fun k => R_open lp23_0.eq_1) ?_
    simp [t3, t5, hi, hb, fillCells, splice, Dc_ok, e, num_spec TW, hl, cvt_iu (show i < 18446744073709551616 by omega), iv_add (a := i) (b := 1) (by omega)]
    exact ⟨_, fun _ => rfl, by simp [t3], by simp⟩
  obtain ⟨t', e2, u3, u5⟩ := e2
  exact ⟨g', t', _, e2, u3, u5, H2, by omega, by simp [hfl]⟩
set_option maxHeartbeats 4000000 in
theorem wakes_spec (h : AHeap) (hN : ∀ h, D C 147 [str nmA] h = some (.bool true, h)) : D C 23 [] h = some (.bool true, h) := by
  rw [D_fn3 TW.h23 _ rfl]
  generalize hh0 : ({ bs := [], lo := 0 } : AHeap) = h0
  have h0lo : h0.lo = 0 := by rw [← hh0]
  obtain ⟨h1, h2, d, p, O, wr0, e1, e2, L, hw0, hO, f2⟩ := open_new T TD hk hp TS TO h0 1000 nmA (by omega) (by omega) (by omega) hN
  have l2 := f2.len
  have g2 := f2.lo
  obtain ⟨t, e, u3, u5⟩ : ∃ t, R C r23 [.code b23] [] [] h0 = R C r23 (.inLoop lp23_0 :: .inBlock 0 :: [.code k23_0]) t [] h2 ∧ tg t 3 = .pointer (some ⟨p, 0, some 0⟩) ∧ tg t 5 = iv 0 := by
    have hs : Value.string ⟨⟨[97]⟩⟩ = str nmA := rfl
    simp [b23, Dc_ok, e1, num_spec TW, hs, e2, aeq_nilPs]
    exact ⟨_, rfl, by simp, by simp⟩
  obtain ⟨g1, t1, O1, x1, y1, z1, L1, w1, c1⟩ := wk_step T TS TO TD TW hk hp 0 wr0 p d O 0 [] [] h2 t (by omega) rfl rfl (by simp) (by omega) L (by omega) hN u3 u5
  obtain ⟨g2', t2, O2, x2, y2, z2, L2, w2, c2⟩ := wk_step T TS TO TD TW hk hp 1 (wr0 + 1) p d O1 1 _ _ g1 t1 (by omega) rfl (by simp) (by simp at c1 ⊢; omega) (by omega) L1 w1 hN y1 z1
  obtain ⟨g3, t3, O3, x3, y3, z3, L3, w3, c3⟩ := wk_step T TS TO TD TW hk hp 2 (wr0 + 1 + 1) p d O2 2 _ _ g2' t2 (by omega) rfl (by simp) (by simp at c1 c2 ⊢; omega) (by omega) L2 w2 hN y2 z2
  have hl : ([] : List (List UInt8)) ++ [[0]] ++ [[1]] ++ [[2]] = [[0], [1], [2]] := rfl
  rw [hl] at L3
  generalize [] ++ frame [0] ++ frame [1] ++ frame [2] = content at L3
  obtain ⟨t4, e4, u4⟩ : ∃ t', (∀ k, R C r23 (.inLoop lp23_0 :: .inBlock 0 :: k) t3 [] g3 = R C r23 k t' [] g3) ∧ tg t' 3 = .pointer (some ⟨p, 0, some 0⟩) := by
    refine ex_step (fun k => R_open lp23_0.eq_1) ?_
    simp [z3]
    exact ⟨_, fun _ => rfl, by simp [y3]⟩
  rw [e, x1, x2, x3, e4]
  have hlw : wl3.length = 3 := rfl
  have hrw : ([[0], [1], [2]] : List (List UInt8)).map lh = wl3 := rfl
  have hz : Value.int .u8 0 = bv 0 := rfl
  have hb1 : Value.int .u8 1 = bv 1 := rfl
  have hb2 : Value.int .u8 2 = bv 2 := rfl
  generalize hZ : ABlock.cells (uv 0 :: List.replicate 32 (bv 0)) 36 = Z
  have hZ0 := hZ
  simp [List.replicate] at hZ
  have wz : ∀ (g : AHeap) (b n : Nat) (r : List UInt8), r.length = 32 → wrN g b (some Z) 0 0 (uv n :: bytesVals r) = some (g.put b (.cells (uv n :: bytesVals r) 36)) := by
    intro g b n r hr
    rw [← hZ0, wrN_cells (by simp [hr]) (by rw [List.all_cons, bytes_ok]; rfl)]
    congr 3
    simp [splice, hr]
  have rz : ∀ (n : Nat) (r : List UInt8), r.length = 32 → rdN (some (.cells (uv n :: bytesVals r) 36)) 0 0 33 = some (uv n :: bytesVals r) := by
    intro n r hr
    rw [rdN_cells (by simp [hr]), List.drop_zero, List.take_of_length_le (by simp [hr])]
  have hwR : wRoot.length = 32 := sha_length _
  have hwT : wTwo.length = 32 := sha_length _
  -- the heads
  obtain ⟨g4, e5, f4⟩ := head_spec T TD hk g3 O3 p d 1000 _ _ _ _ _ _ _ nmA content _ L3 3 (by simp) (by simp) w3
  rw [hrw, rootL3] at e5
  have l4 := f4.len
  have o4 := f4.lo
  have s5 : (g4.push Z).at g4.bs.length = some Z := push_self
  generalize hg5 : (g4.push Z).put g4.bs.length (.cells (uv 3 :: bytesVals wRoot) 36) = g5
  have f5 : Fr g3 g5 (fun _ => False) := by rw [← hg5]; exact (f4.push').put' (.inr (by omega))
  have v8 : g5.at g4.bs.length = some (.cells (uv 3 :: bytesVals wRoot) 36) := by rw [← hg5]; exact put_self (by simp)
  have l5 : g5.bs.length = g4.bs.length + 1 := by rw [← hg5]; simp
  have o5 := f5.lo
  have w5 : g5.lo ≤ g5.bs.length := by omega
  have hlo4 : g4.lo ≤ g4.bs.length := by omega
  have L5 := L3.fr f5 (fun _ _ h => h)
  obtain ⟨g6, e6, f6⟩ := head_spec T TD hk g5 O3 p d 1000 _ _ _ _ _ _ _ nmA content _ L5 2 (by simp) (by simp) w5
  rw [hrw, rootL32] at e6
  have l6 := f6.len
  have o6 := f6.lo
  have s6 : (g6.push Z).at g6.bs.length = some Z := push_self
  generalize hg7 : (g6.push Z).put g6.bs.length (.cells (uv 2 :: bytesVals wTwo) 36) = g7
  have f7 : Fr g5 g7 (fun _ => False) := by rw [← hg7]; exact (f6.push').put' (.inr (by omega))
  have v9 : g7.at g6.bs.length = some (.cells (uv 2 :: bytesVals wTwo) 36) := by rw [← hg7]; exact put_self (by simp)
  have l7 : g7.bs.length = g6.bs.length + 1 := by rw [← hg7]; simp
  have o7 := f7.lo
  have w7 : g7.lo ≤ g7.bs.length := by omega
  have hlo6 : g6.lo ≤ g6.bs.length := by omega
  have L7 := L5.fr f7 (fun _ _ h => h)
  obtain ⟨g8, vp, e7, P8, f8, b8⟩ := prove_spec T TD hk g7 O3 p d 1000 _ _ _ _ _ _ _ nmA content _ L7 1 3 (by omega) (by simp) (by simp) w7
  rw [hrw, path3] at P8
  have l8 := f8.len
  have o8 := f8.lo
  have L8 := L7.fr f8 (fun _ _ h => h)
  obtain ⟨g9, vq, e8, P9, f9⟩ := follow_spec T TD hk g8 O3 p d 1000 _ _ _ _ _ _ _ nmA content _ L8 2 3 (by omega) (by simp) (by simp) (by omega)
  rw [hrw, if_neg (by omega), proof3] at P9
  have l9 := f9.len
  have o9 := f9.lo
  have P8' : DigO g9 vp [lh [0], lh [2]] := P8.fr f9 (fun _ _ h => h)
  obtain ⟨ap, cpp, hvp, R9⟩ := P8'.digR (old := C.old)
  obtain ⟨aq, cpq, hvq, Q9, _⟩ := P9
  have k8 : g9.at g4.bs.length = some (.cells (uv 3 :: bytesVals wRoot) 36) := f9.get (f8.get (f7.get v8 (fun h => h)) (fun h => h)) (fun h => h)
  have k9 : g9.at g6.bs.length = some (.cells (uv 2 :: bytesVals wTwo) 36) := f9.get (f8.get v9 (fun h => h)) (fun h => h)
  generalize hg10 : g9.push (.cells [bv 1] 6) = g10
  have f10 : Fr g9 g10 (fun _ => False) := by rw [← hg10]; exact Fr.push
  have sl1 : SlR C.old g10 1 (.slice (some ⟨g9.bs.length, 0, some 0⟩) 1 1) (bytesVals [1]) := by rw [← hg10]; exact one_sl
  have lf1 := leaf_spec TD hk g10 [1] (some ⟨g9.bs.length, 0, some 0⟩) 1 1 sl1 (by omega)
  have in1 := incl_spec T TD hk g10 3 1 wRoot (lh [1]) [lh [0], lh [2]] hwR (sha_length _) (by omega) (by omega) ap cpp (R9.fr f10 (fun _ _ h => h))
  have fo1 := foll_spec T TD hk g10 2 3 wTwo wRoot [lh [2]] hwT hwR (by omega) (by omega) aq cpq (Q9.fr f10 (fun _ _ h => h))
  rw [foll3] at fo1
  have in1v : inclF 3 1 wRoot (lh [1]) [lh [0], lh [2]] = 0 := by rw [incl3]; exact if_pos rfl
  rw [in1v] at in1
  generalize hg11 : g10.push (.cells [bv 2] 6) = g11
  have f11 : Fr g10 g11 (fun _ => False) := by rw [← hg11]; exact Fr.push
  have sl2 : SlR C.old g11 1 (.slice (some ⟨g10.bs.length, 0, some 0⟩) 1 1) (bytesVals [2]) := by rw [← hg11]; exact one_sl
  have lf2 := leaf_spec TD hk g11 [2] (some ⟨g10.bs.length, 0, some 0⟩) 1 1 sl2 (by omega)
  have in2 := incl_spec T TD hk g11 3 1 wRoot (lh [2]) [lh [0], lh [2]] hwR (sha_length _) (by omega) (by omega) ap cpp ((R9.fr f10 (fun _ _ h => h)).fr f11 (fun _ _ h => h))
  have in2v : inclF 3 1 wRoot (lh [2]) [lh [0], lh [2]] = 236 := by rw [incl3]; exact if_neg (fun h => wakes_sha.mp h)
  rw [in2v] at in2
  have m8 : g10.at g4.bs.length = some (.cells (uv 3 :: bytesVals wRoot) 36) := f10.get k8 (fun h => h)
  have m9 : g10.at g6.bs.length = some (.cells (uv 2 :: bytesVals wTwo) 36) := f10.get k9 (fun h => h)
  have n8 : g11.at g4.bs.length = some (.cells (uv 3 :: bytesVals wRoot) 36) := f11.get m8 (fun h => h)
  have lhd : ∀ b : UInt8, sha [0, b] = lh [b] := fun _ => rfl
  rw [lhd] at lf1 lf2
  subst hvp
  subst hvq
  simp at in1 in2 fo1 e7 e8
  have r : R C r23 [.code k23_0] t4 [] g3 = some (.bool true, g11) := by
    simp [k23_0, u4, Dc_ok, e5, hz, hZ, bytes_ok, hwR, hwT, writeN_wr, hlo4, s5, wz, hg5, e6, hlo6, s6, hg7, e7, e8, num_spec TW, v8, v9, k8, k9, rz, hb1, hb2, fillCells, splice, hg10, lf1, in1, m8, m9, fo1, hg11, lf2, in2, n8, r23]
  rw [r]
  exact pur_some rfl
end Go.Ab.Aud

namespace Go.Ab.Aud
open Go.Sha
variable {C : Ctx} (T : Tab_LLog C) (TD : Tab_LDig C) (TW : Tab_LLaw C) (hk : ∀ j, j < 64 → C.old 0 j = some (wv (kW j)))
section
include TW
/-- two rows of bytes are compared -/
theorem eq_loop (x y : List UInt8) (hl : x.length = y.length) (hb : x.length < 2 ^ 40) (a a' : Option Addr) (cp cp' : Nat) (h : AHeap) (hx : SlR C.old h 1 (.slice a x.length cp) (bytesVals x)) (hy : SlR C.old h 1 (.slice a' y.length cp') (bytesVals y)) :
    ∀ (d i : Nat) (t : List Value), i + d = x.length → x.take i = y.take i → tg t 0 = .slice a x.length cp → tg t 1 = .slice a' y.length cp' → tg t 5 = iv i →
    R C r39 [.inLoop lp39_0, .inBlock 0, .code k39_0] t [] h = some (.bool (decide (x = y)), h) := by
  intro d
  induction d with
  | zero =>
    intro i t hd hp t0 t1 t5
    have hi : i = x.length := by omega
    rw [List.take_of_length_le (by omega), List.take_of_length_le (by omega)] at hp
    rw [R_open lp39_0.eq_1]
    simp [t0, t1, t5, hi, k39_0, r39, hp]
  | succ d ih =>
    intro i t hd hp t0 t1 t5
    have hi : i < x.length := by omega
    have hi' : i < y.length := by omega
    obtain ⟨a1, rfl⟩ := hx.ex (by omega)
    obtain ⟨a2, rfl⟩ := hy.ex (by omega)
    have r1 := readN_read1 (hx.read (by omega)) (i := i) (by omega)
    have r2 := readN_read1 (hy.read (by omega)) (i := i) (by omega)
    rw [bytes_get, List.getElem?_eq_getElem hi] at r1
    rw [bytes_get, List.getElem?_eq_getElem hi'] at r2
    simp only [Option.map_some] at r1 r2
    rw [R_open lp39_0.eq_1]
    by_cases hc : x[i] = y[i]
    · have : x.take (i + 1) = y.take (i + 1) := by rw [List.take_succ_eq_append_getElem hi, List.take_succ_eq_append_getElem hi', hp, hc]
      simp [t0, t1, t5, hi, ixS_iv hi, ixS_iv hi', r1, r2, bv_neq, hc, iv_add (a := i) (b := 1) (by omega)]
      exact ih (i + 1) _ (by omega) this (by simp [t0]) (by simp [t1]) (by simp)
    · have : ¬ x = y := fun e => hc (by subst e; rfl)
      simp [t0, t1, t5, hi, ixS_iv hi, ixS_iv hi', r1, r2, bv_neq, hc, this, r39]
theorem eq_spec (h : AHeap) (x y : List UInt8) (hb : x.length < 2 ^ 40) (a a' : Option Addr) (cp cp' : Nat) (hx : SlR C.old h 1 (.slice a x.length cp) (bytesVals x)) (hy : SlR C.old h 1 (.slice a' y.length cp') (bytesVals y)) :
    D C 39 [.slice a x.length cp, .slice a' y.length cp'] h = some (.bool (decide (x = y)), h) := by
  rw [D_fn2 TW.h39]
  by_cases hl : x.length = y.length
  · have e := eq_loop TW x y hl hb a a' cp cp' { h with lo := h.bs.length } hx.lo hy.lo x.length 0 (ts (ts (ts (ts (ts (ts (ts [.slice a x.length cp, .slice a' y.length cp'] 4 (.bool false)) 6 (.slice a x.length cp)) 7 (iv x.length)) 8 (.slice a' y.length cp')) 9 (iv x.length)) 10 (.bool false)) 5 (iv 0)) (by omega) rfl (by simp) (by simp) (by simp)
    have : R C r39 [.code b39] [.slice a x.length cp, .slice a' y.length cp'] [] { h with lo := h.bs.length } = some (.bool (decide (x = y)), { h with lo := h.bs.length }) := by
      rw [← e]
      simp [b39, hl]
    rw [this]
    exact pur_some rfl
  · have : ¬ x = y := fun e => hl (by rw [e])
    simp [b39, hl, r39, this]
end
end Go.Ab.Aud

namespace Go.Ab.Aud
open Go.Sha
variable {C : Ctx} (T : Tab_LLog C) (TS : Tab_LStan C) (TO : Tab_LOpen C) (TD : Tab_LDig C) (TW : Tab_LLaw C) (hk : ∀ j, j < 64 → C.old 0 j = some (wv (kW j))) (hp : ∀ j, j < 16 → C.old 1 j = some (wv (crcW j)))
section
include T TS TO hp
set_option maxHeartbeats 4000000 in
/-- audit.Open, at which the power goes -/
theorem audit_openO (h : AHeap) (OD : Nat → Prop) (d room wr : Nat) (k : Int) (name : List UInt8) (rows : List (List UInt8)) (tl : List UInt8) (DA : DiskAt h OD d (Go.Ab.iv 1) (.int .i64 k) false name ((rows.map frame).flatten ++ tl) room wr)
    (htl : Torn tl) (hn : ((rows.map frame).flatten ++ tl).length < 2 ^ 38) (hr : ∀ r, r ∈ rows → r.length ≤ 16384) (hl : rows.length ≤ 65536) (wf : h.lo ≤ h.bs.length) (hwr : wr < 2 ^ 61)
    (hN : ∀ h, D C 147 [str name] h = some (.bool true, h)) :
    ∃ h' tl', D C 43 [.pointer (some ⟨d, 0, some 0⟩), str name] h = some (.tuple #[.pointer none, Go.Ab.iv 94], h') ∧ Fr h h' OD ∧ (tl' = [] ∨ Torn tl') ∧ tl'.length ≤ tl.length ∧ DiskAt h' OD d (Go.Ab.iv 0) (.int .i64 k) true name ((rows.map frame).flatten ++ tl') room (wr + 1) := by
  obtain ⟨m, fz, o, c, dk, od, om, ob, ol⟩ := DA
  obtain ⟨h1, tl', o', c', e1, htl', hle, D1, W1, wb⟩ := wal_openO T TS TO hp h d m fz room wr c k name rows tl _ o rfl dk htl hn (fun r h => by have := hr r h; omega) (by omega) wf hwr hN
  have f1 : Fr h h1 OD := W1.fr.mono fun j hj _ => by
    rcases hj with rfl | rfl | hj
    · exact od
    · exact om
    · exact ob j hj
  refine ⟨h1, tl', ?_, f1, htl', hle, m, fz, o', c', D1, od, om, fun j hj => ob j (by rw [← wb]; exact hj), fun j hj => by have := ol j hj; have := f1.len; omega⟩
  rw [D_fn T.h43]
  simp [b43, Dc_ok, e1, r43]
end
/-- rows that were given, in a row that is owned -/
def OkR (old : Old) (h : AHeap) (v : Value) (rows : List (List UInt8)) : Prop := ∃ cs, Own h 41 1 v rows.length cs ∧ ∀ i, i < rows.length → ∃ x, cs[i]? = some x ∧ ArgB old x (rows.getD i [])
theorem OkR.fr {old : Old} {h h' : AHeap} {v : Value} {rows : List (List UInt8)} {S : Nat → Prop} (H : OkR old h v rows) (f : Fr h h' S) (hs : ∀ j, blkOf v = some j → ¬ S j) : OkR old h' v rows := by
  obtain ⟨cs, o, g⟩ := H
  exact ⟨cs, o.fr f hs, g⟩
theorem OkR.get {old : Old} {h : AHeap} {v : Value} {rows : List (List UInt8)} (H : OkR old h v rows) (hl : rows.length < 2 ^ 30) {i : Nat} (hi : i < rows.length) :
    ∃ a' cp' a cp, v = .slice (some a') rows.length cp' ∧ read1 old h (adda a' i) = some (.slice a (rows.getD i []).length cp) ∧ ∀ h, SlR old h 1 (.slice a (rows.getD i []).length cp) (bytesVals (rows.getD i [])) := by
  obtain ⟨cs, o, g⟩ := H
  obtain ⟨x, hx, b, cpb, h5, h6, h7⟩ := g i hi
  obtain ⟨a, cp, hv⟩ := o.slice
  have s := o.sl (old := old) (by omega)
  rw [hv] at s
  obtain ⟨a', rfl⟩ := s.ex (by omega)
  have := readN_read1 (s.read (by omega)) (i := i) (by omega)
  rw [hx, h5] at this
  exact ⟨a', cp, b, cpb, hv, this, h6⟩
end Go.Ab.Aud

namespace Go.Ab.Aud
open Go.Sha
theorem roundBegin_ok {b : Nat} {h : AHeap} {ps : List Nat} {A B : Code} {nt : Nat} {snap : List Value} (e : h.at b = some (.loop ps A B nt snap 0)) (hl : h.lo ≤ b) : roundBegin b h = some (h.put b (.loop ps A B nt snap 2)) := by
  have e' : h.bs[b]? = some (.loop ps A B nt snap 0) := e
  simp only [roundBegin, e', if_pos hl]
variable {C : Ctx} (T : Tab_LLog C) (TS : Tab_LStan C) (TW : Tab_LLaw C)
/-- what a round of holds has -/
structure HoS (h0 G : AHeap) (snap : List Value) (L b p i : Nat) (okv : Value) (A0 B0 : Code) : Prop where
  c0 : G.at L = some (.cells [okv] 27)
  c1 : G.at (L + 1) = some (.cells [.bool false] 5)
  c2 : G.at (L + 2) = some (.cells [Go.Ab.iv i] 4)
  c3 : G.at (L + 3) = some (.cells [.pointer (some ⟨p, 0, some 0⟩)] 52)
  c4 : G.at (L + 4) = some (.dfr false)
  cb : G.at b = some (.loop [10, 11] A0 B0 44 snap 0)
  fr : Fr h0 G (fun _ => False)
  lo : G.lo ≤ L
  bL : b = L + 5
  hL : h0.bs.length = L
  t3 : tg snap 3 = .pointer (some ⟨L, 0, some 0⟩)
  t5 : tg snap 5 = .pointer (some ⟨L + 2, 0, some 0⟩)
include TW in
set_option maxHeartbeats 4000000 in
theorem holds_round (hY : C.T fYield = none) (h0 G : AHeap) (snap : List Value) (L b p i : Nat) (okv : Value) (A0 B0 : Code) (hA : C.cc 44 A0 = ra49_0) (hB : C.cc 44 B0 = rb49_0) (rows : List (List UInt8)) (H : HoS h0 G snap L b p i okv A0 B0)
    (K : OkR C.old h0 okv rows) (hl : rows.length < 2 ^ 30) (hi : i < rows.length) (v : Value) (hv : Own G 5 1 v (rows.getD i []).length (bytesVals (rows.getD i []))) (hb : ∀ j, blkOf v = some j → b < j) (hn : (rows.getD i []).length < 2 ^ 38) :
    ∃ G', D C fYield [uv i, v, .pointer (some ⟨b, 0, some 0⟩)] G = some (.bool true, G') ∧ HoS h0 G' snap L b p (i + 1) okv A0 B0 ∧ Fr G G' (fun j => j = b ∨ j = L + 2) := by
  have uv' := hv.und
  have hbl := get_lt H.cb
  have f1 : Fr G (G.put b (.loop [10, 11] A0 B0 44 snap 2)) (fun j => j = b) := Fr.put rfl
  have hbL := H.bL
  have hLo := H.lo
  have hh0 := H.hL
  have hfl := H.fr.len
  generalize hG1 : G.put b (.loop [10, 11] A0 B0 44 snap 2) = G1 at f1
  have c01 := f1.get H.c0 (by omega)
  have c21 := f1.get H.c2 (by omega)
  have K1 := (K.fr H.fr (fun _ _ h => h)).fr f1 (fun j hj hc => by
    obtain ⟨cs, o, _⟩ := K
    have := o.blk hj
    omega)
  obtain ⟨a', cp', a, cp, hok, rd, sr⟩ := K1.get hl hi
  generalize rows.getD i [] = r at hv hn rd sr
  have hv1 := hv.fr f1 (fun j hj hc => by have := hb j hj; omega)
  obtain ⟨av, cv, hvs⟩ := hv1.slice
  have sv := hv1.sl (old := C.old) (by omega)
  rw [hvs] at sv
  have eq1 := eq_spec TW G1 r r (by omega) av a cv cp sv (sr G1)
  rw [← hvs] at eq1
  have hdt : decide (r = r) = true := by simp
  rw [hdt] at eq1
  have lo1 := f1.lo
  have f2 : Fr G1 (G1.put (L + 2) (.cells [Go.Ab.iv (i + 1)] 4)) (fun j => j = L + 2) := Fr.put rfl
  generalize hG2 : G1.put (L + 2) (.cells [Go.Ab.iv (i + 1)] 4) = G2 at f2
  have hw : wr1 G1 (L + 2) (some (.cells [Go.Ab.iv i] 4)) 0 0 (Go.Ab.iv (i + 1)) = some (G1.put (L + 2) (.cells [Go.Ab.iv (i + 1)] 4)) := wr1_box rfl
  have hrun : R C [] [.code ra49_0, .beginRound b, .code rb49_0, .endRound] (bindPs ([10, 11].zip [uv i, v]) snap) [] G = some (.int .i64 0, G2) := by
    have t3 := H.t3
    have t5 := H.t5
    subst hok
    have hlen := K1
    simp [ra49_0, rb49_0, bindPs, uv', stp_ok uv', roundBegin_ok H.cb (by omega), hG1, t3, t5, c01, c21, hi, show ¬ rows.length ≤ i by omega, cvt_iu (show i < 18446744073709551616 by omega), ixS_iv hi, rd, Dc_ok, eq1, iv_add (a := i) (b := 1) (by omega), write1_wr, lo1, show G.lo ≤ L + 2 by omega, hw, hG2]
  have b1 : G1.at b = some (.loop [10, 11] A0 B0 44 snap 2) := by rw [← hG1]; exact put_self hbl
  have b2 := f2.get b1 (by omega)
  have hbl2 := get_lt b2
  have e := D_round (C := C) (h := G) hY (b := b) (nt := 44) (A := A0) (B := B0) (a0 := ra49_0) (b0 := rb49_0) (ps := [10, 11]) (snap := snap) (args := [uv i, v]) (v := .int .i64 0) (h1 := G2) (st := 0) H.cb (by omega) rfl (by simp [uv']) hA hB rfl rfl hrun b2 rfl
  have f3 : Fr G2 (G2.put b (.loop [10, 11] A0 B0 44 snap 0)) (fun j => j = b) := Fr.put rfl
  have f13 : Fr G (G2.put b (.loop [10, 11] A0 B0 44 snap 0)) (fun j => j = b ∨ j = L + 2) := (f1.trans f2 (S'' := fun j => j = b ∨ j = L + 2) (fun _ h => .inl h) (fun _ h _ => .inr h)).trans f3 (fun _ h => h) (fun _ h _ => .inl h)
  refine ⟨_, e, ⟨f13.get H.c0 (by omega), f13.get H.c1 (by omega), ?_, f13.get H.c3 (by omega), f13.get H.c4 (by omega), put_self hbl2, H.fr.trans f13 (fun _ h => h) (fun j hj hl => by omega), by rw [f13.lo]; exact H.lo, hbL, hh0, H.t3, H.t5⟩, f13⟩
  refine f3.get ?_ (by omega)
  rw [← hG2]
  exact put_self (get_lt c21)
end Go.Ab.Aud

namespace Go.Ab.Aud
open Go.Sha
theorem HoS.step {h0 G g : AHeap} {snap : List Value} {L b p i : Nat} {okv : Value} {A0 B0 : Code} (H : HoS h0 G snap L b p i okv A0 B0) (f : Fr G g (fun _ => False)) : HoS h0 g snap L b p i okv A0 B0 :=
  ⟨f.get H.c0 (fun h => h), f.get H.c1 (fun h => h), f.get H.c2 (fun h => h), f.get H.c3 (fun h => h), f.get H.c4 (fun h => h), f.get H.cb (fun h => h), H.fr.trans f (fun _ h => h) (fun _ h _ => h), by rw [f.lo]; exact H.lo, H.bL, H.hL, H.t3, H.t5⟩
variable {C : Ctx} (T : Tab_LLog C) (TS : Tab_LStan C) (TW : Tab_LLaw C)
include T TS TW
set_option maxHeartbeats 4000000 in
theorem all_loop (hY : C.T fYield = none) (h0 : AHeap) (snap : List Value) (L b p : Nat) (okv : Value) (A0 B0 : Code) (hA : C.cc 44 A0 = ra49_0) (hB : C.cc 44 B0 = rb49_0) (rows : List (List UInt8)) (O : Nat → Prop) (d room wr err sz : Nat) (arm keep : Value) (off woff : Bool) (name content : List UInt8)
    (LG : LogAt h0 O p d arm keep off woff err sz name content rows room wr) (K : OkR C.old h0 okv rows) (hl : rows.length < 2 ^ 30) (hn : ∀ i, i < rows.length → (rows.getD i []).length < 2 ^ 38) :
    ∀ (k i : Nat) (G : AHeap) (t : List Value), i + k = rows.length → HoS h0 G snap L b p i okv A0 B0 → tg t 0 = yieldV b → tg t 1 = .pointer (some ⟨L + 3, 0, some 0⟩) → tg t 7 = uv rows.length → tg t 8 = uv i →
    ∃ G', R C r152 [.inLoop lp152_0, .inBlock 0] t [] G = some (.tuple #[], G') ∧ HoS h0 G' snap L b p rows.length okv A0 B0 := by
  intro k
  induction k with
  | zero =>
    intro i G t hi H t0 t1 t7 t8
    obtain rfl : i = rows.length := by omega
    refine ⟨G, ?_, H⟩
    rw [R_open lp152_0.eq_1]
    simp [t7, t8, r152]
  | succ k ih =>
    intro i G t hi H t0 t1 t7 t8
    have hbl := get_lt H.cb
    have hLo := H.lo
    have hbL := H.bL
    obtain ⟨g1, v, e1, ov, f1, bv'⟩ := entry_spec T G O p d room wr err sz arm keep off woff name content rows (LG.fr H.fr (fun _ _ h => h)) TS (by omega) (by omega) i (by omega) (by have := hn i (by omega); omega)
    have H1 := H.step f1
    obtain ⟨G', e2, H2, f2⟩ := holds_round TW hY h0 g1 snap L b p i okv A0 B0 hA hB rows H1 K hl (by omega) v ov (fun j hj => by have := bv' j hj; omega) (hn i (by omega))
    have uv' := ov.und
    have hDv : Dv C (yieldV b) [uv i, v] g1 = some (.bool true, G') := by
      simp only [Dv, yieldV]
      rw [Dc_ok (by simp [uv'])]
      exact e2
    obtain ⟨t', e, u0, u1, u7, u8⟩ : ∃ t', R C r152 [.inLoop lp152_0, .inBlock 0] t [] G = R C r152 [.inLoop lp152_0, .inBlock 0] t' [] G' ∧ tg t' 0 = tg t 0 ∧ tg t' 1 = tg t 1 ∧ tg t' 7 = tg t 7 ∧ tg t' 8 = uv (i + 1) := by
      rw [R_open lp152_0.eq_1]
      have uy : isUnd (yieldV b) = false := rfl
      have hlt : i < rows.length := by omega
      simp [t0, t1, t7, t8, hlt, H.c3, Dc_ok, e1, stp_ok uv', uv', stp_ok uy, hDv, uv_add (a := i) (b := 1) (by omega)]
      exact ⟨_, rfl, by simp [t0], by simp [t1], by simp [t7], by simp⟩
    obtain ⟨G2, e3, H3⟩ := ih (i + 1) G' t' (by omega) H2 (u0.trans t0) (u1.trans t1) (u7.trans t7) u8
    exact ⟨G2, e.trans e3, H3⟩
set_option maxHeartbeats 4000000 in
/-- are a log's entries just these? -/
theorem holds_spec (hY : C.T fYield = none) (hTk : C.T fTake = none) (h : AHeap) (p : Nat) (okv : Value) (rows : List (List UInt8)) (O : Nat → Prop) (d room wr err sz : Nat) (arm keep : Value) (off woff : Bool) (name content : List UInt8)
    (LG : LogAt h O p d arm keep off woff err sz name content rows room wr) (K : OkR C.old h okv rows) (hl : rows.length < 2 ^ 30) (hn : ∀ i, i < rows.length → (rows.getD i []).length < 2 ^ 38) (hwf : h.lo ≤ h.bs.length) :
    ∃ h', D C 49 [.pointer (some ⟨p, 0, some 0⟩), okv] h = some (.bool true, h') ∧ Fr h h' (fun _ => False) := by
  obtain ⟨A0, B0, hT, hA, hB⟩ := TS.h49
  generalize hL : h.bs.length = L at *
  obtain ⟨cs, oc, og⟩ := K
  have uo := oc.und
  have ko := oc.okc
  have co := oc.cells
  have po := oc.part
  have lo' := oc.lenV
  -- the boxes
  generalize hh1 : ((h.push (.cells [okv] 27)).push (.cells [.bool false] 5)).push (.cells [Go.Ab.iv 0] 4) = h1
  have f1 : Fr h h1 (fun _ => False) := by rw [← hh1]; exact Fr.push.push'.push'
  have l1 : h1.bs.length = L + 3 := by rw [← hh1]; simp [hL]
  have a0 : h1.at L = some (.cells [okv] 27) := by rw [← hh1, push_lt (by simp only [push_len]; omega), push_lt (by simp only [push_len]; omega)]; exact push_self' hL.symm
  have a1 : h1.at (L + 1) = some (.cells [.bool false] 5) := by rw [← hh1, push_lt (by simp [hL])]; exact push_self' (by simp [hL])
  have a2 : h1.at (L + 2) = some (.cells [Go.Ab.iv 0] 4) := by rw [← hh1]; exact push_self' (by simp [hL])
  generalize hh2 : h1.push (.cells [.pointer (some ⟨p, 0, some 0⟩)] 52) = h2
  have f2 : Fr h1 h2 (fun _ => False) := by rw [← hh2]; exact Fr.push
  have l2 : h2.bs.length = L + 4 := by rw [← hh2]; simp [l1]
  have a3 : h2.at (L + 3) = some (.cells [.pointer (some ⟨p, 0, some 0⟩)] 52) := by rw [← hh2]; exact push_self' l1.symm
  have e88 : D C 88 [.pointer (some ⟨p, 0, some 0⟩)] h1 = some (.func (.func 152) #[] #[.pointer (some ⟨L + 3, 0, some 0⟩)], h2) := by
    rw [D_fn TS.h88]
    simp [b88, fillCells, l1, hh2, r88]
  have hlo1 : h1.lo ≤ L := by rw [f1.lo]; omega
  obtain ⟨t, e, u0, u3, u4, u5, u9⟩ : ∃ t, R C r49 [.code (b49 A0 B0)] [.pointer (some ⟨p, 0, some 0⟩), okv] [] h = R C r49 (.code (.rfunc (.tmp 9) [10, 11] A0 B0 44) :: .inBlock 0 :: [.code (k49_0 A0 B0)]) t [] h2 ∧
      tg t 0 = .pointer (some ⟨p, 0, some 0⟩) ∧ tg t 3 = .pointer (some ⟨L, 0, some 0⟩) ∧ tg t 4 = .pointer (some ⟨L + 1, 0, some 0⟩) ∧ tg t 5 = .pointer (some ⟨L + 2, 0, some 0⟩) ∧ tg t 9 = .func (.func 152) #[] #[.pointer (some ⟨L + 3, 0, some 0⟩)] := by
    have hw : wr1 h1 (L + 2) (some (.cells [Go.Ab.iv 0] 4)) 0 0 (Go.Ab.iv 0) = some (h1.put (L + 2) (.cells [Go.Ab.iv 0] 4)) := wr1_box rfl
    have hpe : h1.put (L + 2) (.cells [Go.Ab.iv 0] 4) = h1 := put_eq a2
    rw [hpe] at hw
    simp [b49, ko, co, fillCells, hL, hh1, write1_wr, a2, hw, show h1.lo ≤ L + 2 by omega, Dc_ok, e88]
    exact ⟨_, rfl, by simp, by simp, by simp, by simp, by simp⟩
  -- the loop's records
  generalize hh3 : (h2.push (.dfr false)).push (.loop [10, 11] A0 B0 44 t 0) = h3
  have f3 : Fr h2 h3 (fun _ => False) := by rw [← hh3]; exact Fr.push.push'
  have l3 : h3.bs.length = L + 6 := by rw [← hh3]; simp [l2]
  have a4 : h3.at (L + 4) = some (.dfr false) := by rw [← hh3, push_lt (by simp [l2])]; exact push_self' l2.symm
  have a5 : h3.at (L + 5) = some (.loop [10, 11] A0 B0 44 t 0) := by rw [← hh3]; exact push_self' (by simp [l2])
  have f13 : Fr h h3 (fun _ => False) := (f1.trans f2 (fun _ h => h) (fun _ h _ => h)).trans f3 (fun _ h => h) (fun _ h _ => h)
  have H3 : HoS h h3 t L (L + 5) p 0 okv A0 B0 := ⟨f3.get (f2.get a0 (fun h => h)) (fun h => h), f3.get (f2.get a1 (fun h => h)) (fun h => h), f3.get (f2.get a2 (fun h => h)) (fun h => h), f3.get a3 (fun h => h), a4, a5, f13, by rw [f13.lo]; omega, rfl, hL, u3, u5⟩
  have hlen := len_spec T h3 O p d room wr err sz arm keep off woff name content rows (LG.fr f13 (fun _ _ h => h)) (by omega)
  obtain ⟨t', e', w0, w1, w7, w8⟩ : ∃ t', R C r152 [.code b152] [yieldV (L + 5), .pointer (some ⟨L + 3, 0, some 0⟩)] [] h3 = R C r152 [.inLoop lp152_0, .inBlock 0] t' [] h3 ∧ tg t' 0 = yieldV (L + 5) ∧ tg t' 1 = .pointer (some ⟨L + 3, 0, some 0⟩) ∧ tg t' 7 = uv rows.length ∧ tg t' 8 = uv 0 := by
    simp [b152, H3.c3, Dc_ok, hlen]
    exact ⟨_, rfl, by simp, by simp, by simp, by simp⟩
  obtain ⟨G, eG, HG⟩ := all_loop T TS TW hY h t L (L + 5) p okv A0 B0 hA hB rows O d room wr err sz arm keep off woff name content LG ⟨cs, oc, og⟩ hl hn rows.length 0 h3 t' (by omega) H3 w0 w1 w7 w8
  have hd : D C 152 ([] ++ [yieldV (h2.bs.length + 1)] ++ [.pointer (some ⟨L + 3, 0, some 0⟩)]) ((h2.push (.dfr false)).push (.loop [10, 11] A0 B0 44 t 0)) = some (.tuple #[], G) := by
    rw [hh3, l2, D_fn TS.h152]
    exact e'.trans eG
  have er := R_rf (C := C) (rs := r49) (k := .inBlock 0 :: [.code (k49_0 A0 B0)]) (t := t) (ds := []) (h := h2) (f := .tmp 9) (ps := [10, 11]) (A := A0) (B := B0) (nt := 44) (g := 152) (first := []) (cap := [.pointer (some ⟨L + 3, 0, some 0⟩)]) (v := .tuple #[]) (h2 := G) (ps' := [10, 11]) (A' := A0) (B' := B0) (nt' := 44) (snap := t) (st := 0)
    u9 TS.h152 rfl hd (by rw [l2]; exact HG.cb) (by omega)
  rw [l2, rfNext_0] at er
  have hGl := get_lt HG.cb
  generalize hG2 : G.put (L + 4 + 1) (.loop [10, 11] A0 B0 44 t 3) = G2 at er
  have fG : Fr G G2 (fun j => j = L + 5) := by rw [← hG2]; exact Fr.put rfl
  have g1 := fG.get HG.c1 (by omega)
  have g2 := fG.get HG.c2 (by omega)
  have g0 := fG.get HG.c0 (by omega)
  have g4 := fG.get HG.c4 (by omega)
  have hLo := HG.lo
  have lG := fG.lo
  have fh : Fr h G2 (fun _ => False) := HG.fr.trans fG (fun _ h => h) (fun j hj hl => by omega)
  have hlen2 := len_spec T G2 O p d room wr err sz arm keep off woff name content rows (LG.fr fh (fun _ _ h => h)) (by omega)
  have hw1 : wr1 G2 (L + 1) (some (.cells [.bool false] 5)) 0 0 (.bool true) = some (G2.put (L + 1) (.cells [.bool true] 5)) := wr1_box rfl
  generalize hG3 : G2.put (L + 1) (.cells [.bool true] 5) = G3 at hw1
  have f3' : Fr G2 G3 (fun j => j = L + 1) := by rw [← hG3]; exact Fr.put rfl
  have g43 := f3'.get g4 (by omega)
  have g13 : G3.at (L + 1) = some (.cells [.bool true] 5) := by rw [← hG3]; exact put_self (get_lt g1)
  have lG3 := f3'.lo
  have etk := D_take (C := C) (h := G3) hTk (b := L + 4) g43 (by omega)
  have f4' : Fr G3 (G3.put (L + 4) (.dfr true)) (fun j => j = L + 4) := Fr.put rfl
  have g14 := f4'.get g13 (by omega)
  have g23 := f3'.get g2 (by omega)
  refine ⟨G3.put (L + 4) (.dfr true), ?_, (fh.trans f3' (fun _ h => h) (fun j hj hl => by omega)).trans f4' (fun _ h => h) (fun j hj hl => by omega)⟩
  rw [D_fn hT, e, er]
  have lo2 : lenV okv = some (Go.Ab.iv rows.length) := lo'
  simp [k49_0, u0, u3, u4, u5, g0, g2, lo2, stp_ok uo, dstp_ok uo, uo, Dc_ok, hlen2, cvt_iu (show rows.length < 18446744073709551616 by omega), write1_wr, lG, show G.lo ≤ L + 1 by omega, g1, hw1, g23, etk, r49, resV, g14]
end Go.Ab.Aud

namespace Go.Ab.Aud
open Go.Sha
def zv (z : Int) : Value := .int .i64 z
theorem zv_und {z : Int} : isUnd (zv z) = false := nr rfl
theorem zv_subw {a : Int} {b : Nat} : abin .sub (zv a) (iv b) = some (zv (IntKind.i64.wrap (a - b))) := by
  unfold zv iv
  simp only [abin, abinI, if_true]
theorem zv_lss {a : Int} {b : Nat} : abin .lss (zv a) (iv b) = some (.bool (decide (a < b))) := by
  unfold zv iv
  simp only [abin, abinI, if_true]
theorem zv_geq {a : Int} {b : Nat} : abin .geq (zv a) (iv b) = some (.bool (decide ((b : Int) ≤ a))) := by
  unfold zv iv
  simp only [abin, abinI, if_true]
theorem zv_rem {a : Int} {b : Nat} (hb : 0 < b) : abin .rem (zv a) (iv b) = some (zv (a.tmod b)) := by
  unfold zv iv
  simp only [abin, abinI, if_true]
  rw [if_neg (by omega)]
theorem zv_add {a : Int} {b : Nat} (ha : -2 ^ 62 < a) (ha2 : a < 2 ^ 62) (hb : b < 2 ^ 61) : abin .add (zv a) (iv b) = some (zv (a + b)) := by
  unfold zv iv
  simp only [abin, abinI, if_true]
  congr 2
  exact wrapi64 _ (by omega) (by omega)
/-- a number within n -/
def wi (z : Int) (n : Nat) : Nat := (z % n).toNat
theorem wi_lt {z : Int} {n : Nat} (hn : 0 < n) : wi z n < n := by
  unfold wi
  have := Int.emod_lt_of_pos z (show (0 : Int) < n by omega)
  have := Int.emod_nonneg z (show (n : Int) ≠ 0 by omega)
  omega
theorem wi_tmod {z : Int} {n : Nat} (hn : 0 < n) : (wi z n : Int) = if z.tmod n < 0 then z.tmod n + n else z.tmod n := by
  unfold wi
  have h1 := Int.emod_nonneg z (show (n : Int) ≠ 0 by omega)
  have h2 := Int.emod_lt_of_pos z (show (0 : Int) < n by omega)
  rw [Int.toNat_of_nonneg h1, Int.tmod_eq_emod]
  by_cases hc : 0 ≤ z ∨ (n : Int) ∣ z
  · simp only [if_pos hc]
    rw [if_neg (by omega)]; omega
  · simp only [if_neg hc, Int.natAbs_natCast]
    rw [if_pos (by omega)]; omega
theorem tmod_gt {z : Int} {n : Nat} (hn : 0 < n) : -(n : Int) < z.tmod n := by
  have h1 := Int.emod_nonneg z (show (n : Int) ≠ 0 by omega)
  rw [Int.tmod_eq_emod]
  by_cases hc : 0 ≤ z ∨ (n : Int) ∣ z
  · simp only [if_pos hc]; omega
  · simp only [if_neg hc, Int.natAbs_natCast]
    have : z % n ≠ 0 := fun h => hc (.inr (Int.dvd_of_emod_eq_zero h))
    omega
variable {C : Ctx} (T : Tab_LLog C) (TS : Tab_LStan C) (TG : Tab_LGrow C) (TD : Tab_LDig C) (TW : Tab_LLaw C) (hk : ∀ j, j < 64 → C.old 0 j = some (wv (kW j))) (hp : ∀ j, j < 16 → C.old 1 j = some (wv (crcW j)))
include TG in
theorem within_spec (h : AHeap) (z : Int) (n : Nat) (hn : 0 < n) (hn2 : n < 2 ^ 40) : D C 33 [zv z, iv n] h = some (iv (wi z n), h) := by
  rw [D_fn3 TG.h33 _ rfl]
  suffices hs : R C r33 [.code b33] [zv z, iv n] [] ⟨[], 0⟩ = some (iv (wi z n), ⟨[], 0⟩) by
    rw [hs]; exact pur_some rfl
  have e := wi_tmod (z := z) hn
  have b1 : z.tmod n < n := Int.tmod_lt_of_pos z (by omega)
  have b2 := tmod_gt (z := z) hn
  by_cases hc : z.tmod n < 0
  · rw [if_pos hc] at e
    have r : iv (wi z n) = zv (z.tmod n + n) := by rw [← e]; rfl
    simp [b33, zv_rem hn, stp_ok zv_und, zv_lss, hc, zv_add (a := z.tmod n) (b := n) (by omega) (by omega) (by omega), r33, r]
  · rw [if_neg hc] at e
    have r : iv (wi z n) = zv (z.tmod n) := by rw [← e]; rfl
    simp [b33, zv_rem hn, stp_ok zv_und, zv_lss, hc, r33, r]
/-- one row more -/
theorem OkR.app {old : Old} {h : AHeap} {okv x : Value} {rows : List (List UInt8)} {r : List UInt8} (H : OkR old h okv rows) (hx : ArgB old x r) (hl : rows.length < 2 ^ 20) (hwf : h.lo ≤ h.bs.length) :
    ∃ v' h4, appendV old (h.push (.cells [x] 42)) 41 1 24 okv (.slice (some ⟨h.bs.length, 0, some 0⟩) 1 1) = some (v', h4) ∧ OkR old h4 v' (rows ++ [r]) ∧ Fr h h4 (fun j => blkOf okv = some j) ∧ (∀ j, blkOf v' = some j → blkOf okv = some j ∨ h.bs.length ≤ j) := by
  obtain ⟨cs, oc, og⟩ := H
  have f3 : Fr h (h.push (.cells [x] 42)) (fun _ => False) := Fr.push
  have hko : okCell x = true := by obtain ⟨a, cp, rfl, _⟩ := hx; rfl
  obtain ⟨v', h4, e4, o4, f4, b4⟩ := append_own (old := old) (bytes := 24) (x := .slice (some ⟨h.bs.length, 0, some 0⟩) 1 1) (m := 1) (new := [x]) (oc.fr f3 fun _ _ h => h) (by omega) rfl
    (fun _ => by simp only [srcCells]; rw [readN_rd, push_self]; rfl) (fun h => by cases h) rfl (by simp [hko]) (by simp [sizeLim]; omega) (by simp; omega)
  refine ⟨v', h4, e4, ⟨cs ++ [x], by rw [List.length_append]; exact o4, fun i hi => ?_⟩, f3.trans f4 (fun _ h => h.elim) (fun _ h _ => h), fun j hj => ?_⟩
  · have hvl := oc.len
    by_cases hlt : i < rows.length
    · obtain ⟨y, hy, hB⟩ := og i hlt
      refine ⟨y, by rw [List.getElem?_append_left (by omega)]; exact hy, ?_⟩
      have : (rows ++ [r]).getD i [] = rows.getD i [] := by simp [List.getD_eq_getElem?_getD, List.getElem?_append_left hlt]
      rw [this]; exact hB
    · have : i = rows.length := by simp at hi; omega
      subst this
      refine ⟨x, by rw [List.getElem?_append_right (by omega)]; simp [hvl], ?_⟩
      have : (rows ++ [r]).getD rows.length [] = r := by simp [List.getD_eq_getElem?_getD]
      rw [this]; exact hx
  · rcases b4 with b4 | b4
    · rw [b4] at hj; exact .inl hj
    · rw [b4] at hj; cases hj; right; simp
theorem flen {rows : List (List UInt8)} (h : ∀ r, r ∈ rows → r.length ≤ 16384) : ((rows.map frame).flatten).length ≤ rows.length * 16397 := by
  induction rows with
  | nil => simp
  | cons r rows ih =>
    have h1 := ih fun x hx => h x (by simp [hx])
    have h2 := h r (by simp)
    have h3 := frame_length r
    rw [List.map_cons, List.flatten_cons, List.length_append, h3, List.length_cons, Nat.succ_mul]
    omega
theorem fapp {rows : List (List UInt8)} {r : List UInt8} : ((rows ++ [r]).map frame).flatten = (rows.map frame).flatten ++ frame r := by simp
/-- the state while rows are laid -/
structure LA (C : Ctx) (G : AHeap) (t : List Value) (q ab d p : Nat) (rv tv : Value) (za zk zg : Int) (okv : Value) (rows : List (List UInt8)) (O : Nat → Prop) : Prop where
  ca : G.at ab = some (.cells [rv, zv za, zv zk, zv zg, tv] 113)
  abq : ab < q
  ok : OkR C.old G okv rows
  okO : ∀ j, blkOf okv = some j → q ≤ j ∧ ¬ O j
  oq : ∀ j, O j → q ≤ j
  ol : ∀ j, O j → j < G.bs.length
  hq : q ≤ G.bs.length
  wf : G.lo ≤ G.bs.length
  r16 : ∀ r, r ∈ rows → r.length ≤ 16384
  t1 : tg t 1 = .pointer (some ⟨ab, 0, some 0⟩)
  t3 : tg t 3 = .pointer (some ⟨d, 0, some 0⟩)
  t5 : tg t 5 = .pointer (some ⟨p, 0, some 0⟩)
  t7 : tg t 7 = okv
section
variable {G G' : AHeap} {t t' : List Value} {q ab d p : Nat} {rv tv : Value} {za zk zg : Int} {okv : Value} {rows : List (List UInt8)} {O : Nat → Prop}
theorem LA.tmp (H : LA C G t q ab d p rv tv za zk zg okv rows O) (u1 : tg t' 1 = tg t 1) (u3 : tg t' 3 = tg t 3) (u5 : tg t' 5 = tg t 5) (u7 : tg t' 7 = tg t 7) : LA C G t' q ab d p rv tv za zk zg okv rows O :=
  ⟨H.ca, H.abq, H.ok, H.okO, H.oq, H.ol, H.hq, H.wf, H.r16, u1.trans H.t1, u3.trans H.t3, u5.trans H.t5, u7.trans H.t7⟩
/-- what the log turns -/
theorem LA.mem (H : LA C G t q ab d p rv tv za zk zg okv rows O) (f : Fr G G' O) : LA C G' t q ab d p rv tv za zk zg okv rows (fun j => O j ∨ (G.bs.length ≤ j ∧ j < G'.bs.length)) := by
  have hl := f.len
  have hq := H.hq
  have habq := H.abq
  refine ⟨f.get H.ca (fun hc => by have := H.oq _ hc; omega), H.abq, H.ok.fr f (fun j hj => (H.okO j hj).2), fun j hj => ⟨(H.okO j hj).1, ?_⟩, fun j hj => ?_, fun j hj => ?_, by omega, by rw [f.lo]; have := H.wf; omega, H.r16, H.t1, H.t3, H.t5, H.t7⟩
  · rintro (hc | hc)
    · exact (H.okO j hj).2 hc
    · obtain ⟨cs, oc, _⟩ := H.ok
      have := oc.blk hj
      omega
  · rcases hj with hj | hj
    · exact H.oq j hj
    · omega
  · rcases hj with hj | hj
    · have := H.ol j hj; omega
    · exact hj.2
theorem LA.mem0 (H : LA C G t q ab d p rv tv za zk zg okv rows O) (f : Fr G G' (fun _ => False)) : LA C G' t q ab d p rv tv za zk zg okv rows O := by
  have hl := f.len
  have hq := H.hq
  exact ⟨f.get H.ca (fun h => h), H.abq, H.ok.fr f (fun _ _ h => h), H.okO, H.oq, fun j hj => by have := H.ol j hj; omega, by omega, by rw [f.lo]; have := H.wf; omega, H.r16, H.t1, H.t3, H.t5, H.t7⟩
/-- a row more is held -/
theorem LA.row (H : LA C G t q ab d p rv tv za zk zg okv rows O) {v' : Value} {r : List UInt8} (f : Fr G G' (fun j => blkOf okv = some j)) (ok' : OkR C.old G' v' (rows ++ [r])) (hb : ∀ j, blkOf v' = some j → blkOf okv = some j ∨ G.bs.length ≤ j) (hr : r.length ≤ 16384)
    (u1 : tg t' 1 = tg t 1) (u3 : tg t' 3 = tg t 3) (u5 : tg t' 5 = tg t 5) (u7 : tg t' 7 = v') : LA C G' t' q ab d p rv tv za zk zg v' (rows ++ [r]) O := by
  have hl := f.len
  have hq := H.hq
  have habq := H.abq
  refine ⟨f.get H.ca (fun hc => by have := (H.okO _ hc).1; omega), H.abq, ok', fun j hj => ?_, H.oq, fun j hj => by have := H.ol j hj; omega, by omega, by rw [f.lo]; have := H.wf; omega, fun x hx => ?_, u1.trans H.t1, u3.trans H.t3, u5.trans H.t5, u7⟩
  · rcases hb j hj with h1 | h1
    · exact H.okO j h1
    · exact ⟨by omega, fun hc => by have := H.ol j hc; omega⟩
  · rcases List.mem_append.1 hx with hx | hx
    · exact H.r16 x hx
    · rw [List.mem_singleton.1 hx]; exact hr
end
end Go.Ab.Aud

namespace Go.Ab.Aud
open Go.Sha
variable {C : Ctx} (T : Tab_LLog C) (TS : Tab_LStan C) (TD : Tab_LDig C) (TW : Tab_LLaw C) (hk : ∀ j, j < 64 → C.old 0 j = some (wv (kW j))) (hp : ∀ j, j < 16 → C.old 1 j = some (wv (crcW j)))
/-- what is left behind a row -/
def lft2' (left : Int) (r : List UInt8) : Int := IntKind.i64.wrap (IntKind.i64.wrap (left - r.length) - 100)
section
variable {G : AHeap} {t : List Value} {q ab d p : Nat} {rv tv : Value} {za zk zg : Int} {okv : Value} {rows : List (List UInt8)} {O : Nat → Prop}
set_option maxHeartbeats 4000000 in
theorem la_skip (H : LA C G t q ab d p rv tv za zk zg okv rows O) (rowsA : List (List UInt8)) (HR : ArgR C.old rv rowsA) (fv : Value) (left : Int) (i : Nat) (hi : i < rowsA.length) (h40 : i < 40) (t8 : tg t 8 = fv) (t9 : tg t 9 = .bool false) (t10 : tg t 10 = zv left) (t11 : tg t 11 = iv i)
    (hs : 16384 < (rowsA.getD i []).length ∨ lft2' left (rowsA.getD i []) < 0) :
    ∃ t', (∀ K, R C r9 (.inLoop lp9_0 :: .inBlock 0 :: K) t [] G = R C r9 (.inLoop lp9_0 :: .inBlock 0 :: K) t' [] G) ∧ tg t' 1 = tg t 1 ∧ tg t' 3 = tg t 3 ∧ tg t' 5 = tg t 5 ∧ tg t' 7 = tg t 7 ∧ tg t' 8 = tg t 8 ∧ tg t' 9 = tg t 9 ∧ tg t' 10 = zv (lft2' left (rowsA.getD i [])) ∧ tg t' 11 = iv (i + 1) := by
  obtain ⟨a', cp', a, cp, hv, r1, s1, nl⟩ := HR.get hi
  have hca := H.ca
  have t1 := H.t1
  have t3 := H.t3
  have t5 := H.t5
  have t7 := H.t7
  obtain ⟨cs, oc, _⟩ := H.ok
  have uo := oc.und
  have urv : isUnd rv = false := by rw [hv]; rfl
  have e1 : abin .sub (zv left) (iv (rowsA.getD i []).length) = some (zv (IntKind.i64.wrap (left - (rowsA.getD i []).length))) := zv_subw
  have e2 : abin .sub (zv (IntKind.i64.wrap (left - (rowsA.getD i []).length))) (iv 100) = some (zv (lft2' left (rowsA.getD i []))) := zv_subw
  have e3 : abin .lss (zv (lft2' left (rowsA.getD i []))) (iv 0) = some (.bool (decide (lft2' left (rowsA.getD i []) < 0))) := zv_lss
  generalize lft2' left (rowsA.getD i []) = l2 at *
  generalize rowsA.getD i [] = r at *
  have rg := r1 G
  have q0 : rd1 (some (.cells [rv, zv za, zv zk, zv zg, tv] 113)) 0 0 = some rv := rfl
  rw [hv] at q0 hca urv
  refine ex_step (fun k => R_open lp9_0.eq_1) ?_
  by_cases hl : 16384 < r.length
  · simp [t1, t3, t5, t7, t8, t9, t10, t11, hca, q0, hi, h40, ixS_iv hi, rg, e1, e2, stp_ok zv_und, hl, iv_add (a := i) (b := 1) (by omega)]
    exact ⟨_, fun _ => rfl, by simp [t1], by simp [t3], by simp [t5], by simp [t7], by simp [t8], by simp [t9], by simp, by simp⟩
  · have hn := hs.resolve_left hl
    simp [t1, t3, t5, t7, t8, t9, t10, t11, hca, q0, hi, h40, ixS_iv hi, rg, e1, e2, e3, stp_ok zv_und, zv_und, hl, hn, iv_add (a := i) (b := 1) (by omega)]
    exact ⟨_, fun _ => rfl, by simp [t1], by simp [t3], by simp [t5], by simp [t7], by simp [t8], by simp [t9], by simp, by simp⟩
include T TD TW hk hp
set_option maxHeartbeats 4000000 in
theorem la_ok (H : LA C G t q ab d p rv tv za zk zg okv rows O) (rowsA : List (List UInt8)) (HR : ArgR C.old rv rowsA) (fv : Value) (left : Int) (i ar wr : Nat) (hi : i < rowsA.length) (h40 : i < 40) (hri : rows.length ≤ i) (t8 : tg t 8 = fv) (t9 : tg t 9 = .bool false) (t10 : tg t 10 = zv left) (t11 : tg t 11 = iv i)
    (hl : ¬ 16384 < (rowsA.getD i []).length) (hn : ¬ lft2' left (rowsA.getD i []) < 0) (LG : LogAt G O p d (iv ar) (zv zk) false false 0 ((rows.map frame).flatten).length nmAudit ((rows.map frame).flatten) rows 4194304 wr) (har : ar ≠ 1) (har2 : ar ≤ 100) (hwr : wr ≤ 100)
    (hfv : isUnd fv = false) (hN : ∀ h, D C 147 [str nmAudit] h = some (.bool true, h)) :
    ∃ G' t' okv' O', (∀ K, R C r9 (.inLoop lp9_0 :: .inBlock 0 :: K) t [] G = R C r9 (.inLoop lp9_0 :: .inBlock 0 :: K) t' [] G') ∧ LA C G' t' q ab d p rv tv za zk zg okv' (rows ++ [rowsA.getD i []]) O' ∧
      LogAt G' O' p d (iv (ar - 1)) (zv zk) false false 0 (((rows ++ [rowsA.getD i []]).map frame).flatten).length nmAudit (((rows ++ [rowsA.getD i []]).map frame).flatten) (rows ++ [rowsA.getD i []]) 4194304 (wr + 1) ∧
      Fr G G' (fun j => q ≤ j) ∧ tg t' 8 = tg t 8 ∧ tg t' 9 = tg t 9 ∧ tg t' 10 = zv (lft2' left (rowsA.getD i [])) ∧ tg t' 11 = iv (i + 1) := by
  obtain ⟨a', cp', a, cp, hv, r1, s1, nl⟩ := HR.get hi
  have t1 := H.t1
  have t3 := H.t3
  have t5 := H.t5
  have t7 := H.t7
  have hca := H.ca
  have e1 : abin .sub (zv left) (iv (rowsA.getD i []).length) = some (zv (IntKind.i64.wrap (left - (rowsA.getD i []).length))) := zv_subw
  have e2 : abin .sub (zv (IntKind.i64.wrap (left - (rowsA.getD i []).length))) (iv 100) = some (zv (lft2' left (rowsA.getD i []))) := zv_subw
  have e3 : abin .lss (zv (lft2' left (rowsA.getD i []))) (iv 0) = some (.bool (decide (lft2' left (rowsA.getD i []) < 0))) := zv_lss
  generalize lft2' left (rowsA.getD i []) = l2 at *
  generalize rowsA.getD i [] = r at *
  have urv : isUnd rv = false := by rw [hv]; rfl
  have hF := flen H.r16
  obtain ⟨h1, vc, ec, o1, f1, b1⟩ := copy_spec TW G r a r.length cp (s1 G) (by omega) H.wf
  obtain ⟨ac, cpc, hvc⟩ := o1.slice
  have sc := o1.sl (old := C.old) (by omega)
  rw [hvc] at sc ec
  have l1 := f1.len
  have g1 := f1.lo
  have wf := H.wf
  have LG1 := LG.fr f1 (fun _ _ h => h)
  have HA1 := H.mem0 f1
  obtain ⟨h2, ea, LG2, f2⟩ := audit_append T TD hp hk h1 O p d 4194304 wr ar (zv zk) nmAudit ((rows.map frame).flatten) rows r ac r.length cpc LG1 sc (fun j hj hOj => by
    have := b1 j (by rw [hvc]; rw [hvc] at o1; exact o1.live hj); have := H.ol j hOj; omega) (by omega) (by omega) (by omega) (by omega) (by omega) (by omega) hN har (by omega)
  have HA2 := HA1.mem f2
  have hx : ArgB C.old (.slice a r.length cp) r := ⟨a, cp, rfl, s1, nl⟩
  obtain ⟨v', h4, e4, ok4, f4, b4⟩ := HA2.ok.app hx (by omega) HA2.wf
  have u4 : isUnd v' = false := by obtain ⟨cs, oc, _⟩ := ok4; exact oc.und
  have uo : isUnd okv = false := by obtain ⟨cs, oc, _⟩ := HA1.ok; exact oc.und
  have hca2 := HA2.ca
  have q0 : rd1 (some (.cells [rv, zv za, zv zk, zv zg, tv] 113)) 0 0 = some rv := rfl
  rw [hv] at q0
  have hca' := hca
  have hca2' := hca2
  rw [hv] at hca' hca2'
  have ek : ∃ t', (∀ K, R C r9 (.inLoop lp9_0 :: .inBlock 0 :: K) t [] G = R C r9 (.inLoop lp9_0 :: .inBlock 0 :: K) t' [] h4) ∧ tg t' 1 = tg t 1 ∧ tg t' 3 = tg t 3 ∧ tg t' 5 = tg t 5 ∧ tg t' 7 = v' ∧ tg t' 8 = tg t 8 ∧ tg t' 9 = tg t 9 ∧ tg t' 10 = zv l2 ∧ tg t' 11 = iv (i + 1) := by
    refine ex_step (fun k => R_open lp9_0.eq_1) ?_
    simp [t1, t3, t5, t7, t8, t9, t10, t11, hca', q0, hi, h40, ixS_iv hi, r1 G, r1 h2, e1, e2, e3, stp_ok zv_und, zv_und, hl, hn, Dc_ok, ec, ea, num_spec TW, hca2', stp_ok uo, uo, fillCells, splice, e4, stp_ok u4, u4, iv_add (a := i) (b := 1) (by omega)]
    exact ⟨_, fun _ => rfl, by simp [t1], by simp [t3], by simp [t5], by simp, by simp [t8], by simp [t9], by simp, by simp⟩
  obtain ⟨t', e, u1, u3, u5, u7, u8, u9, u10, u11⟩ := ek
  have HL := HA2.row f4 ok4 b4 (by omega) u1 u3 u5 u7
  refine ⟨h4, t', v', _, e, HL, ?_, ?_, u8, u9, u10, u11⟩
  · rw [fapp]
    exact LG2.fr f4 (fun j hj hc => (HA2.okO j hc).2 hj)
  · exact (f1.trans f2 (S'' := fun j => q ≤ j) (fun _ h => h.elim) (fun j hj _ => H.oq j hj)).trans f4 (fun _ h => h) (fun j hj _ => (HA2.okO j hj).1)
end
end Go.Ab.Aud
