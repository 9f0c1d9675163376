/-
  Steps of the proof of AuditStandsCardSaid: what functions of the program do in the abstract machine, and the laws between; no condition beside those that each theorem names.
-/
import Derived.Test.YtecbgdnoblhldaaGreatDoorAuA
import Derived.Test.YtecbgdnoblhldaaGreatDoorLit
import Derived.Test.YtecbgdnoblhldaaGreatDoorAbD

set_option linter.unusedSimpArgs false
set_option linter.unusedVariables false
set_option linter.unusedSectionVars false

namespace Go.Ab.Aud
open Go.Sha
variable {C : Ctx} (T : Tab_LLog C) (TD : Tab_LDig C) (hp : ∀ j, j < 16 → C.old 1 j = some (wv (crcW j))) (hk : ∀ j, j < 64 → C.old 0 j = some (wv (kW j)))
/-- an audit log's cells -/
def lc (mu : Int) (w : Nat) (es ls : Value) (err : Nat) : List Value := [.int .i32 mu, .int .u32 0, .pointer (some ⟨w, 0, some 0⟩), es, ls, iv err]
section
variable {mu : Int} {w err : Nat} {es ls : Value}
theorem lc0 : (lc mu w es ls err)[0]? = some (.int .i32 mu) := nr rfl
theorem lc2 : (lc mu w es ls err)[2]? = some (.pointer (some ⟨w, 0, some 0⟩)) := nr rfl
theorem lc3 : (lc mu w es ls err)[3]? = some es := nr rfl
theorem lc4 : (lc mu w es ls err)[4]? = some ls := nr rfl
theorem lc5 : (lc mu w es ls err)[5]? = some (iv err) := nr rfl
theorem lcs0 {x : Int} : (lc mu w es ls err).set 0 (.int .i32 x) = lc x w es ls err := nr rfl
theorem wlc3 {x : Value} {h : AHeap} {b fz : Nat} (hx : okCell x = true) : wr1 h b (some (.cells (lc mu w es ls err) (fz + 1))) 3 0 x = some (h.put b (.cells (lc mu w x ls err) (fz + 1))) := by rw [wr1_cells (by simp [lc]) hx]; rfl
theorem wlc4 {x : Value} {h : AHeap} {b fz : Nat} (hx : okCell x = true) : wr1 h b (some (.cells (lc mu w es ls err) (fz + 1))) 4 0 x = some (h.put b (.cells (lc mu w es x err) (fz + 1))) := by rw [wr1_cells (by simp [lc]) hx]; rfl
end
def leafCells (l : List (List UInt8)) : List Value := l.flatMap bytesVals
def lh (r : List UInt8) : List UInt8 := sha (0 :: r)
theorem lh32 {rows : List (List UInt8)} : ∀ x, x ∈ rows.map lh → x.length = 32 := fun x hx => by
  obtain ⟨y, _, rfl⟩ := List.mem_map.1 hx
  exact sha_length _
/-- an audit log over a disk: O is what it owns -/
structure LogIs (h : AHeap) (O : Nat → Prop) (p w d m fp fw fz room wr : Nat) (arm keep : Value) (off woff : Bool) (err sz : Nat) (name : List UInt8) (o : Option (Value × Nat)) (c : Nat) (content : List UInt8) (rows : List (List UInt8)) (es ls : Value) : Prop where
  hp : h.at p = some (.cells (lc 0 w es ls err) (fp + 1))
  hw : h.at w = some (.cells (wc d name sz woff) (fw + 1))
  dk : DiskIs h 0 d m fz room content.length arm keep off wr name o c content
  eo : ∃ ec, Own h 41 1 es rows.length ec ∧ ∀ i, i < rows.length → ∃ x, ec[i]? = some x ∧ Own h 5 1 x (rows.getD i []).length (bytesVals (rows.getD i [])) ∧
    ∀ j, blkOf x = some j → j ≠ p ∧ j ≠ w ∧ j ≠ d ∧ j ≠ m ∧ blkOf es ≠ some j ∧ blkOf ls ≠ some j ∧ blkOf (fvOf o) ≠ some j ∧ O j
  lo : Own h 30 32 ls rows.length (leafCells (rows.map lh))
  lop : h.lo ≤ p
  low : h.lo ≤ w
  ne : p ≠ w ∧ p ≠ d ∧ p ≠ m ∧ w ≠ d ∧ w ≠ m
  be : ∀ j, blkOf es = some j → j ≠ p ∧ j ≠ w ∧ j ≠ d ∧ j ≠ m ∧ blkOf ls ≠ some j ∧ blkOf (fvOf o) ≠ some j ∧ O j
  bl : ∀ j, blkOf ls = some j → j ≠ p ∧ j ≠ w ∧ j ≠ d ∧ j ≠ m ∧ blkOf es ≠ some j ∧ blkOf (fvOf o) ≠ some j ∧ O j
  bf : ∀ j, blkOf (fvOf o) = some j → j ≠ p ∧ j ≠ w ∧ j ≠ d ∧ j ≠ m ∧ blkOf es ≠ some j ∧ blkOf ls ≠ some j ∧ O j
  op : O p ∧ O w ∧ O d ∧ O m
  olt : ∀ j, O j → j < h.bs.length
def LogAt (h : AHeap) (O : Nat → Prop) (p d : Nat) (arm keep : Value) (off woff : Bool) (err sz : Nat) (name content : List UInt8) (rows : List (List UInt8)) (room wr : Nat) : Prop :=
  ∃ w m fp fw fz o c es ls, LogIs h O p w d m fp fw fz room wr arm keep off woff err sz name o c content rows es ls
section
variable {h h' : AHeap} {O S : Nat → Prop} {p w d m fp fw fz room wr err sz : Nat} {arm keep : Value} {off woff : Bool} {name : List UInt8} {o : Option (Value × Nat)} {c : Nat} {content : List UInt8} {rows : List (List UInt8)} {es ls : Value}
theorem LogIs.fr (H : LogIs h O p w d m fp fw fz room wr arm keep off woff err sz name o c content rows es ls) (f : Fr h h' S) (hs : ∀ j, O j → ¬ S j) : LogIs h' O p w d m fp fw fz room wr arm keep off woff err sz name o c content rows es ls where
  hp := f.get H.hp (hs _ H.op.1)
  hw := f.get H.hw (hs _ H.op.2.1)
  dk := H.dk.fr f (hs _ H.op.2.2.1) (hs _ H.op.2.2.2) (fun j hj => hs j (H.bf j hj).2.2.2.2.2.2)
  eo := by
    obtain ⟨ec, e, g⟩ := H.eo
    refine ⟨ec, e.fr f fun j hj => hs j (H.be j hj).2.2.2.2.2.2, fun i hi => ?_⟩
    obtain ⟨x, hx, ox, bx⟩ := g i hi
    exact ⟨x, hx, ox.fr f fun j hj => hs j (bx j hj).2.2.2.2.2.2.2, bx⟩
  lo := H.lo.fr f fun j hj => hs j (H.bl j hj).2.2.2.2.2.2
  lop := by rw [f.lo]; exact H.lop
  low := by rw [f.lo]; exact H.low
  ne := H.ne
  be := H.be
  bl := H.bl
  bf := H.bf
  op := H.op
  olt := fun j hj => by have := H.olt j hj; have := f.len; omega
theorem LogAt.fr (H : LogAt h O p d arm keep off woff err sz name content rows room wr) (f : Fr h h' S) (hs : ∀ j, O j → ¬ S j) : LogAt h' O p d arm keep off woff err sz name content rows room wr := by
  obtain ⟨w, m, fp, fw, fz, o, c, es, ls, H⟩ := H
  exact ⟨w, m, fp, fw, fz, o, c, es, ls, H.fr f hs⟩
theorem LogAt.olt (H : LogAt h O p d arm keep off woff err sz name content rows room wr) : ∀ j, O j → j < h.bs.length := by
  obtain ⟨w, m, fp, fw, fz, o, c, es, ls, H⟩ := H
  exact H.olt
end
include T in
theorem clone_spec (h : AHeap) (l : List UInt8) (a : Option Addr) (n cp : Nat) (hs : SlR C.old h 1 (.slice a n cp) (bytesVals l)) (hwf : h.lo ≤ h.bs.length) (hn : n < 2 ^ 39) :
    ∃ h' v', D C 87 [.slice a n cp] h = some (v', h') ∧ Own h' 5 1 v' n (bytesVals l) ∧ Fr h h' (fun _ => False) ∧ (∀ j, blkOf v' = some j → h.bs.length ≤ j) := by
  have hlen : l.length = n := by have := hs.len; simpa using this
  rw [D_fn T.h87]
  cases a with
  | none =>
    obtain ⟨rfl, rfl, hc⟩ := hs
    refine ⟨h, .slice none 0 0, by simp [b87, r87], ?_, Fr.refl _ _, fun j hj => by cases hj⟩
    rw [hc]; exact .nil
  | some a =>
    obtain ⟨v', h1, e1, o1, f1, b1⟩ := append_own (old := C.old) (h := h) (e := 5) (k := 1) (bytes := 1) (x := .slice (some a) n cp) (m := n) (new := bytesVals l) .empty (by omega) rfl (fun hn => hs.src hn) (list_empty hlen) (by simp [hlen]) bytes_ok (by simp [sizeLim]; omega) hwf
    refine ⟨h1, v', ?_, by simpa using o1, f1.mono (fun j hj _ => by cases hj), fun j hj => ?_⟩
    · simp [b87, fillCells, e1, stp_ok o1.und, r87]
    · rcases b1 with b1 | b1 <;> rw [b1] at hj <;> cases hj
      exact Nat.le_refl _
include T TD hp hk
set_option maxHeartbeats 4000000 in
theorem audit_append (h : AHeap) (O : Nat → Prop) (p d room wr ar : Nat) (keep : Value) (name content : List UInt8) (rows : List (List UInt8)) (l : List UInt8) (a : Option Addr) (n cp : Nat) (H : LogAt h O p d (iv ar) keep false false 0 content.length name content rows room wr)
    (hs : SlR C.old h 1 (.slice a n cp) (bytesVals l)) (hlive : ∀ j, Live (.slice a n cp) j → ¬ O j) (hwf : h.lo ≤ h.bs.length) (hn : n ≤ 16384) (hus : content.length + n + 13 ≤ room) (hr : room < 2 ^ 39) (hwr : wr < 2 ^ 62) (hlv : rows.length < 65536)
    (hN : ∀ h, D C 147 [str name] h = some (.bool true, h)) (har : ar ≠ 1) (har2 : ar < 2 ^ 62) :
    ∃ h', D C 45 [.pointer (some ⟨p, 0, some 0⟩), .slice a n cp] h = some (.tuple #[uv rows.length, iv 0], h') ∧
      LogAt h' (fun j => O j ∨ (h.bs.length ≤ j ∧ j < h'.bs.length)) p d (iv (ar - 1)) keep false false 0 (content ++ frame l).length name (content ++ frame l) (rows ++ [l]) room (wr + 1) ∧ Fr h h' O := by
  have hlen : l.length = n := by have := hs.len; simpa using this
  obtain ⟨w, m, fp, fw, fz, o, c, es, ls, H⟩ := H
  obtain ⟨npw, npd, npm, nwd, nwm⟩ := H.ne
  obtain ⟨op, ow, od, om⟩ := H.op
  obtain ⟨ec, eo, eg⟩ := H.eo
  have hml : (rows.map lh).length = rows.length := by simp
  have hpl := get_lt H.hp
  rw [D_fn T.h45]
  -- lock
  have e1 := lock_spec T h p 0 fp _ H.hp lc0 H.lop
  rw [lcs0] at e1
  generalize hh1 : h.put p (.cells (lc 1 w es ls 0) (fp + 1)) = h1 at e1
  have f1 : Fr h h1 (fun j => j = p) := by rw [← hh1]; exact Fr.put rfl
  have p1 : h1.at p = some (.cells (lc 1 w es ls 0) (fp + 1)) := by rw [← hh1]; exact put_self hpl
  have l1 := f1.len
  have lo1 := f1.lo
  -- the record
  obtain ⟨h2, o', c', e2, w2, _, D2, f2, b2⟩ := wal_append T hp h1 w d m fw fz room content.length wr c content.length ar keep name o content l a n cp (f1.get H.hw (Ne.symm npw)) (H.dk.fr f1 (Ne.symm npd) (Ne.symm npm) fun j hj => (H.bf j hj).1)
    (by rw [lo1]; exact H.low) nwd nwm (fun hc => (H.bf _ hc).2.1 rfl) (hs.fr f1 fun j hj hc => hlive j hj (by rw [hc]; exact op)) (by omega) hn (by omega) (by omega) hus hr hwr hN har har2
  have f12' : Fr h h2 (fun j => j = p ∨ j = w ∨ j = d ∨ j = m ∨ blkOf (fvOf o) = some j) := f1.trans f2 (fun _ h => .inl h) (fun _ h _ => .inr h)
  have f12 : Fr h h2 O := f1.trans f2 (fun j hj => by rw [hj]; exact op) (fun j hj _ => by
    rcases hj with rfl | rfl | rfl | hj
    · exact ow
    · exact od
    · exact om
    · exact (H.bf j hj).2.2.2.2.2.2)
  have l2 := f12.len
  have lo2 := f12.lo
  have p2 : h2.at p = some (.cells (lc 1 w es ls 0) (fp + 1)) := f2.get p1 (fun hc => hc.elim npw fun hc => hc.elim npd fun hc => hc.elim npm fun hc => (H.bf p hc).1 rfl)
  have eo2 : Own h2 41 1 es rows.length ec := (eo.fr f1 fun j hj => (H.be j hj).1).fr f2 fun j hj hc => by
    obtain ⟨a1, a2, a3, a4, a5, a6, a7⟩ := H.be j hj
    exact hc.elim a2 fun hc => hc.elim a3 fun hc => hc.elim a4 a6
  have lo2' : Own h2 30 32 ls rows.length (leafCells (rows.map lh)) := (H.lo.fr f1 fun j hj => (H.bl j hj).1).fr f2 fun j hj hc => by
    obtain ⟨a1, a2, a3, a4, a5, a6, a7⟩ := H.bl j hj
    exact hc.elim a2 fun hc => hc.elim a3 fun hc => hc.elim a4 a6
  have s2 : SlR C.old h2 1 (.slice a n cp) (bytesVals l) := hs.fr f12 hlive
  -- the copy
  obtain ⟨h3, cv, e3, o3, f3, b3⟩ := clone_spec T h2 l a n cp s2 (by omega) (by omega)
  have f4 : Fr h3 (h3.push (.cells [cv] 42)) (fun _ => False) := Fr.push
  have f34 : Fr h2 (h3.push (.cells [cv] 42)) (fun _ => False) := f3.trans f4 (fun _ h => h) (fun _ h _ => h)
  have l3 := f3.len
  have l4 := f34.len
  have lo4 := f34.lo
  simp only [push_lo] at lo4
  simp only [push_len] at l4
  have p4 := f34.get p2 (fun h => h)
  obtain ⟨es', h5, e5, o5, f5, b5⟩ := append_own (old := C.old) (bytes := 24) (x := .slice (some ⟨h3.bs.length, 0, some 0⟩) 1 1) (m := 1) (new := [cv]) (eo2.fr f34 fun _ _ h => h) (by omega) rfl
    (fun _ => by simp only [srcCells]; rw [readN_rd, push_self]; rfl) (fun h => by cases h) rfl (by simp [o3.okc]) (by simp [sizeLim]; omega) (by simp; have := f3.lo; omega)
  have nep : blkOf es ≠ some p := fun hc => (H.be p hc).1 rfl
  have p5 := f5.get p4 nep
  have l5 := f5.len
  simp only [push_len] at l5
  have lo5 := f5.lo
  simp only [push_lo] at lo5
  have hes' : ∀ j, blkOf es' = some j → blkOf es = some j ∨ h.bs.length ≤ j := fun j hj => by
    rcases b5 with b5 | b5 <;> rw [b5] at hj
    · exact .inl hj
    · cases hj; right; simp; omega
  have nep' : blkOf es' ≠ some p := fun hc => by
    rcases hes' p hc with h1 | h1
    · exact nep h1
    · omega
  have p3 := f3.get p2 (fun h => h)
  generalize hh6 : h5.put p (.cells (lc 1 w es' ls 0) (fp + 1)) = h6
  have f6 : Fr h5 h6 (fun j => j = p) := by rw [← hh6]; exact Fr.put rfl
  have p6 : h6.at p = some (.cells (lc 1 w es' ls 0) (fp + 1)) := by rw [← hh6]; exact put_self (get_lt p5)
  have l6 := f6.len
  have lo6 := f6.lo
  have f26 : Fr h2 h6 (fun j => j = p ∨ blkOf es = some j) := (f34.trans f5 (S'' := fun j => j = p ∨ blkOf es = some j) (fun _ h => h.elim) (fun _ h _ => .inr h)).trans f6 (fun _ h => h) (fun _ h _ => .inl h)
  have s6 : SlR C.old h6 1 (.slice a n cp) (bytesVals l) := s2.fr f26 fun j hj hc => hlive j hj (by
    rcases hc with hc | hc
    · rw [hc]; exact op
    · exact (H.be j hc).2.2.2.2.2.2)
  have e6 := leaf_spec TD hk h6 l a n cp s6 (by omega)
  generalize hd0 : sha (0 :: l) = dg at e6
  have dl : dg.length = 32 := by rw [← hd0]; rfl
  have f7 : Fr h6 (h6.push (.cells (bytesVals dg) 31)) (fun _ => False) := Fr.push
  have p7 := f7.get p6 (fun h => h)
  have ols6 : Own h6 30 32 ls rows.length (leafCells (rows.map lh)) := lo2'.fr f26 fun j hj hc => by
    obtain ⟨a1, a2, a3, a4, a5, a6, a7⟩ := H.bl j hj
    exact hc.elim a1 a5
  obtain ⟨ls', h8, e8, o8, f8, b8⟩ := append_own (old := C.old) (bytes := 32) (x := .slice (some ⟨h6.bs.length, 0, some 0⟩) 1 1) (m := 1) (new := bytesVals dg) (ols6.fr f7 fun _ _ h => h) (by omega) rfl
    (fun _ => by simp only [srcCells]; rw [readN_rd, push_self]; exact rd32 dl) (fun h => by cases h) (by simp [dl]) bytes_ok (by simp [sizeLim]; omega) (by simp; omega)
  have nlp : blkOf ls ≠ some p := fun hc => (H.bl p hc).1 rfl
  have p8 := f8.get p7 nlp
  have l8 := f8.len
  simp only [push_len] at l8
  have lo8 := f8.lo
  simp only [push_lo] at lo8
  have hls' : ∀ j, blkOf ls' = some j → blkOf ls = some j ∨ h6.bs.length ≤ j := fun j hj => by
    rcases b8 with b8 | b8 <;> rw [b8] at hj
    · exact .inl hj
    · cases hj; right; simp
  have nlp' : blkOf ls' ≠ some p := fun hc => by
    rcases hls' p hc with h1 | h1
    · exact nlp h1
    · omega
  generalize hh9 : h8.put p (.cells (lc 1 w es' ls' 0) (fp + 1)) = h9
  have f9 : Fr h8 h9 (fun j => j = p) := by rw [← hh9]; exact Fr.put rfl
  have p9 : h9.at p = some (.cells (lc 1 w es' ls' 0) (fp + 1)) := by rw [← hh9]; exact put_self (get_lt p8)
  have l9 := f9.len
  have lo9 := f9.lo
  have e10 := unlock_spec T h9 p 0 fp _ p9 lc0 (by have := H.lop; omega)
  rw [lcs0] at e10
  generalize hh10 : h9.put p (.cells (lc 0 w es' ls' 0) (fp + 1)) = h10 at e10
  have f10 : Fr h9 h10 (fun j => j = p) := by rw [← hh10]; exact Fr.put rfl
  have p10 : h10.at p = some (.cells (lc 0 w es' ls' 0) (fp + 1)) := by rw [← hh10]; exact put_self (get_lt p9)
  have l10 := f10.len
  have lo10 := f10.lo
  have f2e : Fr h2 h10 (fun j => j = p ∨ blkOf es = some j ∨ blkOf ls = some j) :=
    ((((f26.trans f7 (S'' := fun j => j = p ∨ blkOf es = some j ∨ blkOf ls = some j) (fun _ h => h.imp_right .inl) (fun _ h _ => h.elim)).trans f8 (fun _ h => h) (fun _ h _ => .inr (.inr h))).trans f9 (fun _ h => h) (fun _ h _ => .inl h)).trans f10 (fun _ h => h) (fun _ h _ => .inl h))
  refine ⟨h10, ?_, ⟨w, m, fp, fw, fz, o', c', es', ls', ?_⟩, f12.trans f2e (fun _ h => h) (fun j hj _ => ?_)⟩
  · have hz : Value.int .u8 0 = bv 0 := rfl
    have z1 : splice [Value.slice none 0 0] 0 [cv] = [cv] := rfl
    have z2 : splice (List.replicate 32 (bv 0)) 0 (bytesVals dg) = bytesVals dg := by simp [splice, dl]
    simp [List.replicate] at z2
    have uc := o3.und
    have lv := o5.lenV
    have okd : ∀ x, x ∈ bytesVals dg → okCell x = true := fun x hx => List.all_eq_true.1 bytes_ok x hx
    have hm := H.lop
    simp [b45, hpl, Dc_ok, e1, dfrS_ok T.h75, p1, lc5, lc3, lc4, lc2, show ¬ 16384 < n by omega, stp_ok eo.und, eo.und, eo2.lenV, show ¬ 65536 ≤ rows.length by omega, e2, p2, e3, uc, p3, p4, fillCells, z1, o3.cells, o3.part, o3.okc, e5,
      o5.und, write1_wr, lo5, lo4, lo2, lo1, hm, p5, wlc3 o5.okc, hh6]
    have ls1 := Dc1 (C := C) (f := 20) (h := h6) (a := .slice a n cp) rfl
    have okd' := eq_true okd
    simp [okd', p6, lc4, stp_ok ols6.und, ols6.und, ls1, e6, hz, z2, p7, e8, o8.und, o8.okc, wlc4 o8.okc, write1_wr, lo8, lo6, lo5, lo4, lo2, hm, p8, hh9, p9, lc3, stp_ok o5.und, lv, iv_sub (a := rows.length + 1) (b := 1) (by omega) (by omega), cvt_iu (show rows.length < 18446744073709551616 by omega), e10, r45, fillCells, dl]
  · have hfv : ∀ j, blkOf (fvOf o') = some j → blkOf (fvOf o) = some j ∨ h1.bs.length ≤ j := b2
    have lift : ∀ {x : Nat}, x < h2.bs.length → blkOf es ≠ some x → blkOf ls ≠ some x → x ≠ p → ¬ (x = p ∨ blkOf es = some x ∨ blkOf ls = some x) := fun _ h1 h2 h3 hc => hc.elim h3 fun hc => hc.elim h1 h2
    have hOlt := H.olt
    have wl := hOlt w ow
    have dl' := hOlt d od
    have ml := hOlt m om
    have hfvO : ∀ j, blkOf (fvOf o') = some j → j ≠ p ∧ j ≠ w ∧ j ≠ d ∧ j ≠ m ∧ blkOf es ≠ some j ∧ blkOf ls ≠ some j ∧ (O j ∨ (h.bs.length ≤ j ∧ j < h2.bs.length)) := fun j hj => by
      have hjl := D2.ho.blk hj
      rcases hfv j hj with h1 | h1
      · obtain ⟨a1, a2, a3, a4, a5, a6, a7⟩ := H.bf j h1
        exact ⟨a1, a2, a3, a4, a5, a6, .inl a7⟩
      · exact ⟨by omega, by omega, by omega, by omega, fun hc => by have := eo.blk hc; omega, fun hc => by have := H.lo.blk hc; omega, .inr ⟨by omega, hjl⟩⟩
    have hesO : ∀ j, blkOf es' = some j → j ≠ p ∧ j ≠ w ∧ j ≠ d ∧ j ≠ m ∧ blkOf ls ≠ some j ∧ blkOf (fvOf o') ≠ some j ∧ (O j ∨ (h2.bs.length ≤ j ∧ j < h5.bs.length)) := fun j hj => by
      have hjl := o5.blk hj
      rcases b5 with h1 | h1
      · rw [h1] at hj
        obtain ⟨a1, a2, a3, a4, a5, a6, a7⟩ := H.be j hj
        have := eo.blk hj
        exact ⟨a1, a2, a3, a4, a5, fun hc => (hfvO j hc).2.2.2.2.1 hj, .inl a7⟩
      · rw [h1] at hj
        cases hj
        simp only [push_len] at hjl ⊢
        exact ⟨by omega, by omega, by omega, by omega, fun hc => by have := H.lo.blk hc; omega, fun hc => by have := D2.ho.blk hc; omega, .inr ⟨by omega, by omega⟩⟩
    have hlsO : ∀ j, blkOf ls' = some j → j ≠ p ∧ j ≠ w ∧ j ≠ d ∧ j ≠ m ∧ blkOf es' ≠ some j ∧ blkOf (fvOf o') ≠ some j ∧ (O j ∨ (h2.bs.length ≤ j ∧ j < h8.bs.length)) := fun j hj => by
      have hjl := o8.blk hj
      rcases b8 with h1 | h1
      · rw [h1] at hj
        obtain ⟨a1, a2, a3, a4, a5, a6, a7⟩ := H.bl j hj
        exact ⟨a1, a2, a3, a4, fun hc => (hesO j hc).2.2.2.2.1 hj, fun hc => (hfvO j hc).2.2.2.2.2.1 hj, .inl a7⟩
      · rw [h1] at hj
        cases hj
        simp only [push_len] at hjl ⊢
        exact ⟨by omega, by omega, by omega, by omega, fun hc => by have := o5.blk hc; omega, fun hc => by have := D2.ho.blk hc; omega, .inr ⟨by omega, by omega⟩⟩
    have f5e : Fr h5 h10 (fun j => j = p ∨ blkOf ls = some j) :=
      (((f6.trans f7 (S'' := fun j => j = p ∨ blkOf ls = some j) (fun _ h => .inl h) (fun _ h _ => h.elim)).trans f8 (fun _ h => h) (fun _ h _ => .inr h)).trans f9 (fun _ h => h) (fun _ h _ => .inl h)).trans f10 (fun _ h => h) (fun _ h _ => .inl h)
    exact {
      hp := p10
      hw := by
        have := f2e.get w2 (fun hc => hc.elim (Ne.symm npw) fun hc => hc.elim (fun hc => (H.be w hc).2.1 rfl) (fun hc => (H.bl w hc).2.1 rfl))
        rw [List.length_append, frame_length, hlen]; exact this
      dk := by
        have := D2.fr f2e (fun hc => hc.elim (Ne.symm npd) fun hc => hc.elim (fun hc => (H.be d hc).2.2.1 rfl) (fun hc => (H.bl d hc).2.2.1 rfl)) (fun hc => hc.elim (Ne.symm npm) fun hc => hc.elim (fun hc => (H.be m hc).2.2.2.1 rfl) (fun hc => (H.bl m hc).2.2.2.1 rfl))
          (fun j hj hc => hc.elim (hfvO j hj).1 fun hc => hc.elim (hfvO j hj).2.2.2.2.1 (hfvO j hj).2.2.2.2.2.1)
        rw [List.length_append, frame_length, hlen]; exact this
      eo := by
        have hel := eo.len
        rw [Nat.mul_one] at hel
        refine ⟨ec ++ [cv], by rw [List.length_append]; exact o5.fr f5e fun j hj hc => hc.elim (hesO j hj).1 (hesO j hj).2.2.2.2.1, fun i hi => ?_⟩
        by_cases hlt : i < rows.length
        · obtain ⟨x, hx, ox, bx⟩ := eg i hlt
          have hg : (rows ++ [l]).getD i [] = rows.getD i [] := by simp [List.getD_eq_getElem?_getD, List.getElem?_append_left hlt]
          rw [hg]
          refine ⟨x, by rw [List.getElem?_append_left (by omega)]; exact hx, (ox.fr f12' fun j hj hc => ?_).fr f2e fun j hj hc => ?_, fun j hj => ?_⟩
          · obtain ⟨a1, a2, a3, a4, a5, a6, a7, a8⟩ := bx j hj
            exact hc.elim a1 fun hc => hc.elim a2 fun hc => hc.elim a3 fun hc => hc.elim a4 a7
          · obtain ⟨a1, a2, a3, a4, a5, a6, a7, a8⟩ := bx j hj
            exact hc.elim a1 fun hc => hc.elim a5 a6
          · obtain ⟨a1, a2, a3, a4, a5, a6, a7, a8⟩ := bx j hj
            have hjl := ox.blk hj
            refine ⟨a1, a2, a3, a4, fun hc => ?_, fun hc => ?_, fun hc => ?_, .inl a8⟩
            · rcases hes' j hc with h1 | h1
              · exact a5 h1
              · omega
            · rcases hls' j hc with h1 | h1
              · exact a6 h1
              · omega
            · rcases hfv j hc with h1 | h1
              · exact a7 h1
              · omega
        · have hie : i = rows.length := by simp at hi; omega
          subst hie
          have hg : (rows ++ [l]).getD rows.length [] = l := by simp [List.getD_eq_getElem?_getD]
          rw [hg, hlen]
          have f3e : Fr h3 h10 (fun j => j = p ∨ blkOf es = some j ∨ blkOf ls = some j) := ((f4.trans f5 (S'' := fun j => j = p ∨ blkOf es = some j ∨ blkOf ls = some j) (fun _ h => h.elim) (fun _ h _ => .inr (.inl h))).trans f5e (fun _ h => h) (fun _ h _ => h.elim .inl fun h => .inr (.inr h)))
          refine ⟨cv, by rw [List.getElem?_append_right (by omega)]; simp [hel], o3.fr f3e fun j hj hc => ?_, fun j hj => ?_⟩
          · have := b3 j hj
            rcases hc with hc | hc | hc
            · omega
            · have := eo.blk hc; omega
            · have := H.lo.blk hc; omega
          · have h1 := b3 j hj
            have h2 := o3.blk hj
            refine ⟨by omega, by omega, by omega, by omega, fun hc => ?_, fun hc => ?_, fun hc => ?_, .inr ⟨by omega, by omega⟩⟩
            · rcases b5 with h3 | h3
              · rw [h3] at hc; have := eo.blk hc; omega
              · rw [h3] at hc; cases hc; simp only [push_len] at h2; omega
            · rcases hls' j hc with h3 | h3
              · have := H.lo.blk h3; omega
              · omega
            · have := D2.ho.blk hc; omega
      lo := by
        have := (o8.fr f9 fun j hj => (hlsO j hj).1).fr f10 fun j hj => (hlsO j hj).1
        have hc : leafCells ((rows ++ [l]).map lh) = leafCells (rows.map lh) ++ bytesVals dg := by simp [leafCells, ← hd0, lh]
        rw [List.length_append, hc]
        exact this
      lop := by have := H.lop; omega
      low := by have := H.low; omega
      ne := H.ne
      be := fun j hj => by
        obtain ⟨a1, a2, a3, a4, a5, a6, a7⟩ := hesO j hj
        exact ⟨a1, a2, a3, a4, fun hc => (hlsO j hc).2.2.2.2.1 hj, a6, a7.imp_right fun h => ⟨by omega, by omega⟩⟩
      bl := fun j hj => by
        obtain ⟨a1, a2, a3, a4, a5, a6, a7⟩ := hlsO j hj
        exact ⟨a1, a2, a3, a4, a5, a6, a7.imp_right fun h => ⟨by omega, by omega⟩⟩
      bf := fun j hj => by
        obtain ⟨a1, a2, a3, a4, a5, a6, a7⟩ := hfvO j hj
        exact ⟨a1, a2, a3, a4, fun hc => (hesO j hc).2.2.2.2.2.1 hj, fun hc => (hlsO j hc).2.2.2.2.2.1 hj, a7.imp_right fun h => ⟨by omega, by omega⟩⟩
      op := ⟨.inl op, .inl ow, .inl od, .inl om⟩
      olt := fun j hj => by
        rcases hj with hj | hj
        · have := hOlt j hj; omega
        · exact hj.2 }
  · rcases hj with rfl | hj | hj
    · exact op
    · exact (H.be j hj).2.2.2.2.2.2
    · exact (H.bl j hj).2.2.2.2.2.2
end Go.Ab.Aud

namespace Go.Ab.Aud
open Go.Sha
variable {C : Ctx} (T : Tab_LLog C)
theorem wlc5 {mu : Int} {w err : Nat} {es ls : Value} {x : Nat} {h : AHeap} {b fz : Nat} : wr1 h b (some (.cells (lc mu w es ls err) (fz + 1))) 5 0 (iv x) = some (h.put b (.cells (lc mu w es ls x) (fz + 1))) := by rw [wr1_cells (by simp [lc]) rfl]; rfl
section
include T
set_option maxHeartbeats 4000000 in
/-- the append at which the power goes -/
theorem audit_appendO (hp : ∀ j, j < 16 → C.old 1 j = some (wv (crcW j))) (hY : C.T fYield = none) (h : AHeap) (O : Nat → Prop) (p d room wr : Nat) (k : Int) (name content : List UInt8) (rows : List (List UInt8)) (l : List UInt8) (a : Option Addr) (n cp : Nat) (H : LogAt h O p d (iv 1) (.int .i64 k) false false 0 content.length name content rows room wr)
    (hs : SlR C.old h 1 (.slice a n cp) (bytesVals l)) (hlive : ∀ j, Live (.slice a n cp) j → ¬ O j) (hwf : h.lo ≤ h.bs.length) (hn : n ≤ 16384) (hus : content.length + n + 13 ≤ room) (hr : room < 2 ^ 39) (hwr : wr < 2 ^ 62) (hlv : rows.length < 65536)
    (hN : ∀ h, D C 147 [str name] h = some (.bool true, h)) :
    ∃ h', D C 45 [.pointer (some ⟨p, 0, some 0⟩), .slice a n cp] h = some (.tuple #[uv 0, iv 234], h') ∧
      LogAt h' (fun j => O j ∨ (h.bs.length ≤ j ∧ j < h'.bs.length)) p d (iv 0) (.int .i64 k) true true 94 content.length name (content ++ (frame l).take (kept k (n + 13))) rows room (wr + 1) ∧ Fr h h' O := by
  have hlen : l.length = n := by have := hs.len; simpa using this
  obtain ⟨w, m, fp, fw, fz, o, c, es, ls, H⟩ := H
  obtain ⟨npw, npd, npm, nwd, nwm⟩ := H.ne
  obtain ⟨op, ow, od, om⟩ := H.op
  obtain ⟨ec, eo, eg⟩ := H.eo
  have hml : (rows.map lh).length = rows.length := by simp
  have hpl := get_lt H.hp
  rw [D_fn T.h45]
  have e1 := lock_spec T h p 0 fp _ H.hp lc0 H.lop
  rw [lcs0] at e1
  generalize hh1 : h.put p (.cells (lc 1 w es ls 0) (fp + 1)) = h1 at e1
  have f1 : Fr h h1 (fun j => j = p) := by rw [← hh1]; exact Fr.put rfl
  have p1 : h1.at p = some (.cells (lc 1 w es ls 0) (fp + 1)) := by rw [← hh1]; exact put_self hpl
  have l1 := f1.len
  have lo1 := f1.lo
  obtain ⟨h2, o', c', e2, w2, _, D2, f2, b2⟩ := wal_appendO T hp hY h1 w d m fw fz room content.length wr c content.length k name o content l a n cp (f1.get H.hw (Ne.symm npw)) (H.dk.fr f1 (Ne.symm npd) (Ne.symm npm) fun j hj => (H.bf j hj).1)
    (by rw [lo1]; exact H.low) nwd nwm (fun hc => (H.bf _ hc).2.1 rfl) (hs.fr f1 fun j hj hc => hlive j hj (by rw [hc]; exact op)) (by omega) hn (by omega) hus hr hwr hN
  have hkl : (content ++ (frame l).take (kept k (n + 13))).length = content.length + kept k (n + 13) := by
    have := kept_le (k := k) (n := n + 13)
    rw [List.length_append, List.length_take, frame_length, hlen]; omega
  have f12 : Fr h h2 O := f1.trans f2 (fun j hj => by rw [hj]; exact op) (fun j hj _ => by
    rcases hj with rfl | rfl | rfl | hj
    · exact ow
    · exact od
    · exact om
    · exact (H.bf j hj).2.2.2.2.2.2)
  have f12' : Fr h h2 (fun j => j = p ∨ j = w ∨ j = d ∨ j = m ∨ blkOf (fvOf o) = some j) := f1.trans f2 (fun _ h => .inl h) (fun _ h _ => .inr h)
  have l2 := f12.len
  have lo2 := f12.lo
  have p2 : h2.at p = some (.cells (lc 1 w es ls 0) (fp + 1)) := f2.get p1 (fun hc => hc.elim npw fun hc => hc.elim npd fun hc => hc.elim npm fun hc => (H.bf p hc).1 rfl)
  have hm := H.lop
  have p3 : (h2.put p (.cells (lc 1 w es ls 94) (fp + 1))).at p = some (.cells (lc 1 w es ls 94) (fp + 1)) := put_self (get_lt p2)
  have e10 := unlock_spec T (h2.put p (.cells (lc 1 w es ls 94) (fp + 1))) p 0 fp _ p3 lc0 (by rw [put_lo]; omega)
  rw [lcs0, put_put] at e10
  have ue := eo.und
  have f3 : Fr h2 (h2.put p (.cells (lc 0 w es ls 94) (fp + 1))) (fun j => j = p) := Fr.put rfl
  refine ⟨h2.put p (.cells (lc 0 w es ls 94) (fp + 1)), ?_, ⟨w, m, fp, fw, fz, o', c', es, ls, ?_⟩, f12.trans f3 (fun _ h => h) (fun j hj _ => by rw [hj]; exact op)⟩
  · simp [b45, hpl, Dc_ok, e1, dfrS_ok T.h75, p1, lc5, lc3, lc2, show ¬ 16384 < n by omega, stp_ok ue, ue, eo.lenV, show ¬ 65536 ≤ rows.length by omega, e2, p2, write1_wr, lo2, hm, wlc5, e10, r45]
  · have hOlt := H.olt
    have wl := hOlt w ow
    have dl' := hOlt d od
    have ml := hOlt m om
    have hfvO : ∀ j, blkOf (fvOf o') = some j → j ≠ p ∧ j ≠ w ∧ j ≠ d ∧ j ≠ m ∧ blkOf es ≠ some j ∧ blkOf ls ≠ some j ∧ (O j ∨ (h.bs.length ≤ j ∧ j < h2.bs.length)) := fun j hj => by
      have hjl := D2.ho.blk hj
      rcases b2 j hj with h1 | h1
      · obtain ⟨a1, a2, a3, a4, a5, a6, a7⟩ := H.bf j h1
        exact ⟨a1, a2, a3, a4, a5, a6, .inl a7⟩
      · exact ⟨by omega, by omega, by omega, by omega, fun hc => by have := eo.blk hc; omega, fun hc => by have := H.lo.blk hc; omega, .inr ⟨by omega, hjl⟩⟩
    exact {
      hp := put_self (get_lt p2)
      hw := f3.get w2 (Ne.symm npw)
      dk := by
        rw [hkl]
        exact D2.fr f3 (Ne.symm npd) (Ne.symm npm) fun j hj => (hfvO j hj).1
      eo := by
        refine ⟨ec, (eo.fr f12' fun j hj hc => ?_).fr f3 fun j hj => (H.be j hj).1, fun i hi => ?_⟩
        · obtain ⟨a1, a2, a3, a4, a5, a6, a7⟩ := H.be j hj
          exact hc.elim a1 fun hc => hc.elim a2 fun hc => hc.elim a3 fun hc => hc.elim a4 a6
        · obtain ⟨x, hx, ox, bx⟩ := eg i hi
          refine ⟨x, hx, (ox.fr f12' fun j hj hc => ?_).fr f3 fun j hj => (bx j hj).1, fun j hj => ?_⟩
          · obtain ⟨a1, a2, a3, a4, a5, a6, a7, a8⟩ := bx j hj
            exact hc.elim a1 fun hc => hc.elim a2 fun hc => hc.elim a3 fun hc => hc.elim a4 a7
          · obtain ⟨a1, a2, a3, a4, a5, a6, a7, a8⟩ := bx j hj
            have hjl := ox.blk hj
            refine ⟨a1, a2, a3, a4, a5, a6, fun hc => ?_, .inl a8⟩
            rcases b2 j hc with h1 | h1
            · exact a7 h1
            · omega
      lo := (H.lo.fr f12' fun j hj hc => by
        obtain ⟨a1, a2, a3, a4, a5, a6, a7⟩ := H.bl j hj
        exact hc.elim a1 fun hc => hc.elim a2 fun hc => hc.elim a3 fun hc => hc.elim a4 a6).fr f3 fun j hj => (H.bl j hj).1
      lop := by rw [put_lo]; omega
      low := by rw [put_lo]; have := H.low; omega
      ne := H.ne
      be := fun j hj => by
        obtain ⟨a1, a2, a3, a4, a5, a6, a7⟩ := H.be j hj
        have hjl := eo.blk hj
        refine ⟨a1, a2, a3, a4, a5, fun hc => ?_, .inl a7⟩
        rcases b2 j hc with h1 | h1
        · exact a6 h1
        · omega
      bl := fun j hj => by
        obtain ⟨a1, a2, a3, a4, a5, a6, a7⟩ := H.bl j hj
        have hjl := H.lo.blk hj
        refine ⟨a1, a2, a3, a4, a5, fun hc => ?_, .inl a7⟩
        rcases b2 j hc with h1 | h1
        · exact a6 h1
        · omega
      bf := fun j hj => by
        obtain ⟨a1, a2, a3, a4, a5, a6, a7⟩ := hfvO j hj
        exact ⟨a1, a2, a3, a4, a5, a6, a7.imp_right fun h => ⟨h.1, by simp only [put_len]; exact h.2⟩⟩
      op := ⟨.inl op, .inl ow, .inl od, .inl om⟩
      olt := fun j hj => by
        simp only [put_len] at hj ⊢
        rcases hj with hj | hj
        · have := hOlt j hj; omega
        · exact hj.2 }
section
variable (h : AHeap) (O : Nat → Prop) (p d room wr err sz : Nat) (arm keep : Value) (off woff : Bool) (name content : List UInt8) (rows : List (List UInt8)) (H : LogAt h O p d arm keep off woff err sz name content rows room wr)
include H
theorem err_spec : D C 46 [.pointer (some ⟨p, 0, some 0⟩)] h = some (Go.Ab.iv err, h) := by
  obtain ⟨w, m, fp, fw, fz, o, c, es, ls, H⟩ := H
  have hpl := get_lt H.hp
  have e1 := lock_spec T h p 0 fp _ H.hp lc0 H.lop
  rw [lcs0] at e1
  generalize hh1 : h.put p (.cells (lc 1 w es ls err) (fp + 1)) = h1 at e1
  have f1 : Fr h h1 (fun j => j = p) := by rw [← hh1]; exact Fr.put rfl
  have p1 : h1.at p = some (.cells (lc 1 w es ls err) (fp + 1)) := by rw [← hh1]; exact put_self hpl
  have e3 := unlock_spec T h1 p 0 fp _ p1 lc0 (by rw [f1.lo]; exact H.lop)
  rw [lcs0, ← hh1, put_put, put_eq H.hp, hh1] at e3
  rw [D_fn T.h46]
  simp [b46, Dc_ok, e1, dfrS_ok T.h75, p1, lc5, e3, r46]
theorem len_spec (hl : rows.length < 2 ^ 40) : D C 35 [.pointer (some ⟨p, 0, some 0⟩)] h = some (uv rows.length, h) := by
  obtain ⟨w, m, fp, fw, fz, o, c, es, ls, H⟩ := H
  have hpl := get_lt H.hp
  have e1 := lock_spec T h p 0 fp _ H.hp lc0 H.lop
  rw [lcs0] at e1
  generalize hh1 : h.put p (.cells (lc 1 w es ls err) (fp + 1)) = h1 at e1
  have f1 : Fr h h1 (fun j => j = p) := by rw [← hh1]; exact Fr.put rfl
  have p1 : h1.at p = some (.cells (lc 1 w es ls err) (fp + 1)) := by rw [← hh1]; exact put_self hpl
  have e3 := unlock_spec T h1 p 0 fp _ p1 lc0 (by rw [f1.lo]; exact H.lop)
  rw [lcs0, ← hh1, put_put, put_eq H.hp, hh1] at e3
  obtain ⟨ec, eo, _⟩ := H.eo
  have ue := eo.und
  have le := eo.lenV
  rw [D_fn T.h35]
  simp [b35, Dc_ok, e1, dfrS_ok T.h75, p1, lc3, stp_ok ue, ue, le, cvt_iu (show rows.length < 18446744073709551616 by omega), e3, r35]
/-- an entry, copied -/
theorem entry_spec (TS : Tab_LStan C) (wf : h.lo ≤ h.bs.length) (hl : rows.length < 2 ^ 40) (i : Nat) (hi : i < rows.length) (hn : (rows.getD i []).length < 2 ^ 39) :
    ∃ h' v, D C 153 [.pointer (some ⟨p, 0, some 0⟩), uv i] h = some (.tuple #[v, Go.Ab.iv 0], h') ∧ Own h' 5 1 v (rows.getD i []).length (bytesVals (rows.getD i [])) ∧ Fr h h' (fun _ => False) ∧ (∀ j, blkOf v = some j → h.bs.length ≤ j) := by
  obtain ⟨w, m, fp, fw, fz, o, c, es, ls, H⟩ := H
  have hpl := get_lt H.hp
  have e1 := lock_spec T h p 0 fp _ H.hp lc0 H.lop
  rw [lcs0] at e1
  generalize hh1 : h.put p (.cells (lc 1 w es ls err) (fp + 1)) = h1 at e1
  have f1 : Fr h h1 (fun j => j = p) := by rw [← hh1]; exact Fr.put rfl
  have p1 : h1.at p = some (.cells (lc 1 w es ls err) (fp + 1)) := by rw [← hh1]; exact put_self hpl
  obtain ⟨ec, eo, eg⟩ := H.eo
  obtain ⟨x, hx, ox, bx⟩ := eg i hi
  have ue := eo.und
  have le := eo.lenV
  have eo1 := eo.fr f1 fun j hj => (H.be j hj).1
  have ox1 := ox.fr f1 fun j hj => (bx j hj).1
  obtain ⟨ae, ce, he⟩ := eo1.slice
  have se := eo1.sl (old := C.old) (by omega)
  rw [he] at se
  obtain ⟨ae', rfl⟩ := se.ex (by omega)
  have rd := readN_read1 (se.read (by omega)) (i := i) (by omega)
  rw [hx] at rd
  obtain ⟨ax, cx, hxs⟩ := ox1.slice
  have sx := ox1.sl (old := C.old) (by omega)
  rw [hxs] at sx
  have l1 := f1.len
  obtain ⟨h2, v, e2, o2, f2, b2⟩ := clone_spec T h1 (rows.getD i []) ax _ cx sx (by rw [f1.lo]; omega) hn
  have p2 := f2.get p1 (fun h => h)
  have e3 := unlock_spec T h2 p 0 fp _ p2 lc0 (by rw [f2.lo, f1.lo]; exact H.lop)
  rw [lcs0] at e3
  have f3 : Fr h2 (h2.put p (.cells (lc 0 w es ls err) (fp + 1))) (fun j => j = p) := Fr.put rfl
  have uv' := o2.und
  have ux := ox.und
  refine ⟨_, v, ?_, o2.fr f3 (fun j hj hc => by have := b2 j hj; omega), ?_, fun j hj => by have := b2 j hj; omega⟩
  · rw [D_fn TS.h153]
    rw [← hxs] at e2
    have le1 := eo1.lenV
    subst he
    simp [b153, Dc_ok, e1, dfrS_ok T.h75, p1, lc3, le, cvt_iu (show rows.length < 18446744073709551616 by omega), show ¬ rows.length ≤ i by omega, ixS_uv (show i < rows.length by omega), rd, stp_ok ux, ux, e2, stp_ok uv', uv', e3, r153]
  · have := (f1.trans f2 (S'' := fun j => j = p) (fun _ h => h) (fun _ h _ => h.elim)).trans f3 (fun _ h => h) (fun _ h _ => h)
    refine ⟨this.1, this.2.1, fun j hj _ => ?_⟩
    by_cases hjp : j = p
    · rw [hjp, H.hp]; exact put_self (get_lt p2)
    · exact this.2.2 j hj hjp
end
end
end Go.Ab.Aud

namespace Go.Ab.Aud
open Go.Sha
def lenBits (x : Nat) : Nat := if x = 0 then 0 else Nat.log2 x + 1
theorem lenBits_shift {x k : Nat} (h : 2 ^ k ≤ x) : lenBits x = k + lenBits (x / 2 ^ k) := by
  have hp : 0 < 2 ^ k := Nat.two_pow_pos k
  have hx : x ≠ 0 := by omega
  have hd : 0 < x / 2 ^ k := Nat.div_pos h hp
  unfold lenBits
  rw [if_neg hx, if_neg (by omega)]
  suffices hs : Nat.log2 x = k + Nat.log2 (x / 2 ^ k) by omega
  have h1 := Nat.log2_self_le (n := x / 2 ^ k) (by omega)
  have h2 := Nat.lt_log2_self (n := x / 2 ^ k)
  have hle : k + Nat.log2 (x / 2 ^ k) ≤ Nat.log2 x := by
    rw [Nat.le_log2 hx, Nat.pow_add, Nat.mul_comm]
    exact Nat.le_trans (Nat.mul_le_mul_right _ h1) (Nat.div_mul_le_self x (2 ^ k))
  have hlt : Nat.log2 x < k + Nat.log2 (x / 2 ^ k) + 1 := by
    rw [Nat.log2_lt hx]
    have : x < (x / 2 ^ k + 1) * 2 ^ k := by
      have := Nat.div_add_mod x (2 ^ k)
      have := Nat.mod_lt x hp
      rw [Nat.add_mul, Nat.mul_comm (x / 2 ^ k)]; omega
    have h3 : (x / 2 ^ k + 1) * 2 ^ k ≤ 2 ^ (Nat.log2 (x / 2 ^ k) + 1) * 2 ^ k := Nat.mul_le_mul_right _ h2
    rw [show k + Nat.log2 (x / 2 ^ k) + 1 = (Nat.log2 (x / 2 ^ k) + 1) + k from by omega, Nat.pow_add]
    omega
  omega
/-- the greatest power of 2 below n -/
def lft (n : Nat) : Nat := 2 ^ Nat.log2 (n - 1)
theorem lft_lt {n : Nat} (h : 2 ≤ n) : lft n < n := by
  have := Nat.log2_self_le (n := n - 1) (by omega)
  unfold lft; omega
theorem lft_pos {n : Nat} : 0 < lft n := Nat.two_pow_pos _
theorem lft_ge {n : Nat} (h : 2 ≤ n) : n ≤ 2 * lft n := by
  have := Nat.lt_log2_self (n := n - 1)
  unfold lft
  rw [Nat.pow_succ] at this; omega
variable {C : Ctx} (T : Tab_LLog C)
def lenTab : List UInt8 := (List.range 256).map fun x => UInt8.ofNat (lenBits x)
set_option maxRecDepth 100000 in
theorem lenTab_lit : lenTab = [0, 1, 2, 2, 3, 3, 3, 3, 4, 4, 4, 4, 4, 4, 4, 4, 5, 5, 5, 5, 5, 5, 5, 5, 5, 5, 5, 5, 5, 5, 5, 5, 6, 6, 6, 6, 6, 6, 6, 6, 6, 6, 6, 6, 6, 6, 6, 6, 6, 6, 6, 6, 6, 6, 6, 6, 6, 6, 6, 6, 6, 6, 6, 6, 7, 7, 7, 7, 7, 7, 7, 7, 7, 7, 7, 7, 7, 7, 7, 7, 7, 7, 7, 7, 7, 7, 7, 7, 7, 7, 7, 7, 7, 7, 7, 7, 7, 7, 7, 7, 7, 7, 7, 7, 7, 7, 7, 7, 7, 7, 7, 7, 7, 7, 7, 7, 7, 7, 7, 7, 7, 7, 7, 7, 7, 7, 7, 7, 8, 8, 8, 8, 8, 8, 8, 8, 8, 8, 8, 8, 8, 8, 8, 8, 8, 8, 8, 8, 8, 8, 8, 8, 8, 8, 8, 8, 8, 8, 8, 8, 8, 8, 8, 8, 8, 8, 8, 8, 8, 8, 8, 8, 8, 8, 8, 8, 8, 8, 8, 8, 8, 8, 8, 8, 8, 8, 8, 8, 8, 8, 8, 8, 8, 8, 8, 8, 8, 8, 8, 8, 8, 8, 8, 8, 8, 8, 8, 8, 8, 8, 8, 8, 8, 8, 8, 8, 8, 8, 8, 8, 8, 8, 8, 8, 8, 8, 8, 8, 8, 8, 8, 8, 8, 8, 8, 8, 8, 8, 8, 8, 8, 8, 8, 8, 8, 8, 8, 8, 8, 8, 8, 8, 8, 8, 8, 8] := by decide
theorem lenTab_get {x : Nat} (h : x < 256) : lenTab[x]? = some (UInt8.ofNat (lenBits x)) := by
  unfold lenTab
  rw [List.getElem?_map, List.getElem?_range h]; rfl
theorem lenBits_le {x : Nat} (h : x < 256) : lenBits x ≤ 8 := by
  unfold lenBits
  split
  · omega
  · have := (Nat.log2_lt (n := x) (k := 8) (by omega)).2 (by omega)
    omega
include T
set_option maxRecDepth 100000 in
set_option maxHeartbeats 4000000 in
theorem len64_spec (x : Nat) (hx : x < 18446744073709551616) (h : AHeap) : D C 106 [uv x] h = some (iv (lenBits x), h) := by
  rw [D_fn3 T.h106 _ (by simp)]
  have key : ∀ y, y < 256 → ∀ l : List UInt8, l = lenTab → ixT (.string ⟨⟨l⟩⟩) (bv (UInt8.ofNat y)) = some (bv (UInt8.ofNat (lenBits y))) := by
    intro y hy l hl
    have e : (UInt8.ofNat y).toNat = y := by simp; omega
    unfold ixT bv
    simp only [e, Int.toNat_natCast, hl, lenTab_get hy]
    rw [if_pos (by omega)]
  have c2 : ∀ y, y < 256 → (UInt8.ofNat (lenBits y)).toNat = lenBits y := fun y hy => by have := lenBits_le hy; simp; omega
  have q32 : 4294967296 ≤ x → lenBits x = 32 + lenBits (x / 4294967296) := fun h => lenBits_shift (k := 32) h
  have q16 : ∀ x, 65536 ≤ x → lenBits x = 16 + lenBits (x / 65536) := fun x h => lenBits_shift (k := 16) h
  have q8 : ∀ x, 256 ≤ x → lenBits x = 8 + lenBits (x / 256) := fun x h => lenBits_shift (k := 8) h
  have s32 : abin .shr (uv x) (uv 32) = some (uv (x / 4294967296)) := uv_shr (by omega)
  have s16 : ∀ y, abin .shr (uv y) (uv 16) = some (uv (y / 65536)) := fun y => uv_shr (by omega)
  have s8 : ∀ y, abin .shr (uv y) (uv 8) = some (uv (y / 256)) := fun y => uv_shr (by omega)
  have adds : ∀ a b, a ≤ 64 → b ≤ 64 → abin .add (iv a) (iv b) = some (iv (a + b)) := fun a b _ _ => iv_add (by omega)
  have main : ∃ y n, y < 256 ∧ n ≤ 56 ∧ lenBits x = n + lenBits y ∧ R C r106 [.code b106] [uv x] [] { bs := [], lo := 0 } = some (iv (n + lenBits y), { bs := [], lo := 0 }) := by
    by_cases h32 : 4294967296 ≤ x
    · by_cases h16 : 65536 ≤ x / 4294967296
      · by_cases h8 : 256 ≤ x / 4294967296 / 65536
        · refine ⟨x / 4294967296 / 65536 / 256, 56, by omega, by omega, by rw [q32 h32, q16 _ h16, q8 _ h8] <;> omega, ?_⟩
          have k1 := key (x / 4294967296 / 65536 / 256) (by omega) _ rfl
          simp only [lenTab_lit] at k1
          have k2 := c2 (x / 4294967296 / 65536 / 256) (by omega)
          have k3 := lenBits_le (x := x / 4294967296 / 65536 / 256) (by omega)
          simp [b106, h32, s32, h16, s16, h8, s8, adds, k1, k2, iv_add, r106]
          try (rw [adds _ _ (by omega) (by omega)]; simp [r106])
        · refine ⟨x / 4294967296 / 65536, 48, by omega, by omega, by rw [q32 h32, q16 _ h16] <;> omega, ?_⟩
          have k1 := key (x / 4294967296 / 65536) (by omega) _ rfl
          simp only [lenTab_lit] at k1
          have k2 := c2 (x / 4294967296 / 65536) (by omega)
          have k3 := lenBits_le (x := x / 4294967296 / 65536) (by omega)
          simp [b106, h32, s32, h16, s16, h8, s8, adds, k1, k2, iv_add, r106]
          try (rw [adds _ _ (by omega) (by omega)]; simp [r106])
      · by_cases h8 : 256 ≤ x / 4294967296
        · refine ⟨x / 4294967296 / 256, 40, by omega, by omega, by rw [q32 h32, q8 _ h8] <;> omega, ?_⟩
          have k1 := key (x / 4294967296 / 256) (by omega) _ rfl
          simp only [lenTab_lit] at k1
          have k2 := c2 (x / 4294967296 / 256) (by omega)
          have k3 := lenBits_le (x := x / 4294967296 / 256) (by omega)
          simp [b106, h32, s32, h16, s16, h8, s8, adds, k1, k2, iv_add, r106]
          try (rw [adds _ _ (by omega) (by omega)]; simp [r106])
        · refine ⟨x / 4294967296, 32, by omega, by omega, by rw [q32 h32] <;> omega, ?_⟩
          have k1 := key (x / 4294967296) (by omega) _ rfl
          simp only [lenTab_lit] at k1
          have k2 := c2 (x / 4294967296) (by omega)
          have k3 := lenBits_le (x := x / 4294967296) (by omega)
          simp [b106, h32, s32, h16, s16, h8, s8, adds, k1, k2, iv_add, r106]
          try (rw [adds _ _ (by omega) (by omega)]; simp [r106])
    · by_cases h16 : 65536 ≤ x
      · by_cases h8 : 256 ≤ x / 65536
        · refine ⟨x / 65536 / 256, 24, by omega, by omega, by rw [q16 _ h16, q8 _ h8] <;> omega, ?_⟩
          have k1 := key (x / 65536 / 256) (by omega) _ rfl
          simp only [lenTab_lit] at k1
          have k2 := c2 (x / 65536 / 256) (by omega)
          have k3 := lenBits_le (x := x / 65536 / 256) (by omega)
          simp [b106, h32, s32, h16, s16, h8, s8, adds, k1, k2, iv_add, r106]
          try (rw [adds _ _ (by omega) (by omega)]; simp [r106])
        · refine ⟨x / 65536, 16, by omega, by omega, by rw [q16 _ h16] <;> omega, ?_⟩
          have k1 := key (x / 65536) (by omega) _ rfl
          simp only [lenTab_lit] at k1
          have k2 := c2 (x / 65536) (by omega)
          have k3 := lenBits_le (x := x / 65536) (by omega)
          simp [b106, h32, s32, h16, s16, h8, s8, adds, k1, k2, iv_add, r106]
          try (rw [adds _ _ (by omega) (by omega)]; simp [r106])
      · by_cases h8 : 256 ≤ x
        · refine ⟨x / 256, 8, by omega, by omega, by rw [q8 _ h8] <;> omega, ?_⟩
          have k1 := key (x / 256) (by omega) _ rfl
          simp only [lenTab_lit] at k1
          have k2 := c2 (x / 256) (by omega)
          have k3 := lenBits_le (x := x / 256) (by omega)
          simp [b106, h32, s32, h16, s16, h8, s8, adds, k1, k2, iv_add, r106]
          try (rw [adds _ _ (by omega) (by omega)]; simp [r106])
        · refine ⟨x, 0, by omega, by omega, by omega, ?_⟩
          have k1 := key (x) (by omega) _ rfl
          simp only [lenTab_lit] at k1
          have k2 := c2 (x) (by omega)
          have k3 := lenBits_le (x := x) (by omega)
          simp [b106, h32, s32, h16, s16, h8, s8, adds, k1, k2, iv_add, r106]
          try (rw [adds _ _ (by omega) (by omega)]; simp [r106])
  obtain ⟨y, n, hy, hn, e1, e2⟩ := main
  rw [e2, e1]
  simp
theorem left_spec (n : Nat) (h2 : 2 ≤ n) (hn : n < 18446744073709551616) (h : AHeap) : D C 56 [uv n] h = some (uv (lft n), h) := by
  rw [D_fn3 T.h56 _ (by simp)]
  have hl : lenBits (n - 1) = Nat.log2 (n - 1) + 1 := by unfold lenBits; rw [if_neg (by omega)]
  have hlt := (Nat.log2_lt (n := n - 1) (k := 64) (by omega)).2 (by omega)
  have e1 := len64_spec T (n - 1) (by omega)
  rw [hl] at e1
  have e2 : abin .shl (uv 1) (iv (Nat.log2 (n - 1))) = some (uv (lft n)) := by
    have hp : 2 ^ Nat.log2 (n - 1) < 2 ^ 64 := Nat.pow_lt_pow_right (by omega) hlt
    rw [uv_shli hlt (by omega)]; simp [lft]
  simp [b56, uv_sub (a := n) (b := 1) (by omega) hn, Dc_ok, e1, iv_sub (a := Nat.log2 (n - 1) + 1) (b := 1) (by omega) (by omega), e2, r56]
end Go.Ab.Aud

namespace Go.Ab.Aud
open Go.Sha
def nodeL (a b : List UInt8) : List UInt8 := sha (1 :: (a ++ b))
/-- the root of leaves -/
def rootF : Nat → List (List UInt8) → List UInt8
  | 0, _ => sha []
  | f + 1, l => match l with
    | [] => sha []
    | [x] => x
    | l => nodeL (rootF f (l.take (lft l.length))) (rootF f (l.drop (lft l.length)))
def rootL (l : List (List UInt8)) : List UInt8 := rootF l.length l
theorem rootF_two {f : Nat} {l : List (List UInt8)} (h : 2 ≤ l.length) : rootF (f + 1) l = nodeL (rootF f (l.take (lft l.length))) (rootF f (l.drop (lft l.length))) := by
  match l, h with
  | a :: b :: r, _ => rfl
theorem rootF_eq : ∀ (f g : Nat) (l : List (List UInt8)), l.length ≤ f → l.length ≤ g → rootF f l = rootF g l := by
  intro f
  induction f with
  | zero =>
    intro g l h1 h2
    have : l = [] := List.eq_nil_of_length_eq_zero (by omega)
    subst this
    cases g <;> rfl
  | succ f ih =>
    intro g l h1 h2
    cases g with
    | zero =>
      have : l = [] := List.eq_nil_of_length_eq_zero (by omega)
      subst this; rfl
    | succ g =>
      by_cases h : 2 ≤ l.length
      · rw [rootF_two h, rootF_two h]
        have := lft_lt h
        have := lft_pos (n := l.length)
        rw [ih g _ (by simp; omega) (by simp; omega), ih g _ (by simp; omega) (by simp; omega)]
      · match l, h with
        | [], _ => rfl
        | [x], _ => rfl
        | _ :: _ :: _, h => simp at h
theorem rootL_two {l : List (List UInt8)} (h : 2 ≤ l.length) : rootL l = nodeL (rootL (l.take (lft l.length))) (rootL (l.drop (lft l.length))) := by
  obtain ⟨f, hf⟩ : ∃ f, l.length = f + 1 := ⟨l.length - 1, by omega⟩
  have h1 := lft_lt h
  have h2 := lft_pos (n := l.length)
  unfold rootL
  rw [hf, rootF_two h]
  rw [hf] at h1 h2 ⊢
  congr 1
  · exact rootF_eq f _ _ (by rw [List.length_take]; omega) (Nat.le_refl _)
  · exact rootF_eq f _ _ (by rw [List.length_drop]; omega) (Nat.le_refl _)
theorem rootL_length (l : List (List UInt8)) (h : ∀ x, x ∈ l → x.length = 32) : (rootL l).length = 32 := by
  by_cases h2 : 2 ≤ l.length
  · rw [rootL_two h2]; rfl
  · match l, h2 with
    | [], _ => rfl
    | [x], _ => exact h x (by simp)
    | _ :: _ :: _, h => simp at h
theorem leafCells_len {l : List (List UInt8)} (h : ∀ x, x ∈ l → x.length = 32) : (leafCells l).length = l.length * 32 := by
  induction l with
  | nil => rfl
  | cons a l ih =>
    have := ih fun x hx => h x (by simp [hx])
    simp only [leafCells, List.flatMap_cons, List.length_append, bytes_len, List.length_cons] at this ⊢
    rw [h a (by simp), this]; omega
theorem leafCells_drop {l : List (List UInt8)} (h : ∀ x, x ∈ l → x.length = 32) (i : Nat) : (leafCells l).drop (i * 32) = leafCells (l.drop i) := by
  induction i generalizing l with
  | zero => simp
  | succ i ih =>
    cases l with
    | nil => simp [leafCells]
    | cons a l =>
      have ha := h a (by simp)
      have : leafCells (a :: l) = bytesVals a ++ leafCells l := rfl
      rw [this, List.drop_append, List.drop_of_length_le (by simp [ha]; omega), List.nil_append, List.drop_succ_cons, ← ih fun x hx => h x (by simp [hx])]
      congr 1
      simp [ha]; omega
theorem leafCells_take {l : List (List UInt8)} (h : ∀ x, x ∈ l → x.length = 32) (i : Nat) : (leafCells l).take (i * 32) = leafCells (l.take i) := by
  induction i generalizing l with
  | zero => simp [leafCells]
  | succ i ih =>
    cases l with
    | nil => simp [leafCells]
    | cons a l =>
      have ha := h a (by simp)
      have : leafCells (a :: l) = bytesVals a ++ leafCells l := rfl
      have e2 : leafCells (a :: l.take i) = bytesVals a ++ leafCells (l.take i) := rfl
      rw [this, List.take_append, List.take_of_length_le (by simp [ha]; omega), List.take_succ_cons, e2, ← ih fun x hx => h x (by simp [hx])]
      congr 2
      simp [ha]; omega
theorem mem_take32 {l : List (List UInt8)} (h : ∀ x, x ∈ l → x.length = 32) (i : Nat) : ∀ x, x ∈ l.take i → x.length = 32 := fun x hx => h x (List.mem_of_mem_take hx)
theorem mem_drop32 {l : List (List UInt8)} (h : ∀ x, x ∈ l → x.length = 32) (i : Nat) : ∀ x, x ∈ l.drop i → x.length = 32 := fun x hx => h x (List.mem_of_mem_drop hx)
variable {C : Ctx} (T : Tab_LLog C) (TD : Tab_LDig C) (hk : ∀ j, j < 64 → C.old 0 j = some (wv (kW j)))
/-- a row of digests -/
def DigR (old : Old) (h : AHeap) (a : Option Addr) (cp : Nat) (l : List (List UInt8)) : Prop := SlR old h 32 (.slice a l.length cp) (leafCells l) ∧ (∀ x, x ∈ l → x.length = 32)
/-- the two parts of a row -/
theorem DigR.lower {old : Old} {h : AHeap} {a : Option Addr} {cp : Nat} {l : List (List UInt8)} (H : DigR old h a cp l) (k : Nat) (hk : k ≤ l.length) :
    ∃ a' cp', sliceV h 32 (.slice a l.length cp) none (some (k : Int)) none = some (.slice a' k cp') ∧ DigR old h a' cp' (l.take k) ∧ (∀ j, Live (.slice a' k cp') j → Live (.slice a l.length cp) j) := by
  obtain ⟨a', cp', e, s, lv⟩ := H.1.part (lo := none) (hi := some (k : Int)) (l := 0) (u := k) rfl rfl (by omega) hk
  simp only [Nat.sub_zero, Nat.zero_mul, List.drop_zero] at e s lv
  rw [leafCells_take H.2] at s
  have hl : (l.take k).length = k := by simp; omega
  refine ⟨a', cp', e, ⟨?_, mem_take32 H.2 k⟩, lv⟩
  rw [hl]; exact s
theorem DigR.upper {old : Old} {h : AHeap} {a : Option Addr} {cp : Nat} {l : List (List UInt8)} (H : DigR old h a cp l) (k : Nat) (hk : k ≤ l.length) :
    ∃ a' cp', sliceV h 32 (.slice a l.length cp) (some (k : Int)) none none = some (.slice a' (l.length - k) cp') ∧ DigR old h a' cp' (l.drop k) ∧ (∀ j, Live (.slice a' (l.length - k) cp') j → Live (.slice a l.length cp) j) := by
  obtain ⟨a', cp', e, s, lv⟩ := H.1.part (lo := some (k : Int)) (hi := none) (l := k) (u := l.length) rfl rfl hk (by omega)
  rw [leafCells_drop H.2, List.take_of_length_le (by rw [leafCells_len (mem_drop32 H.2 k)]; simp)] at s
  refine ⟨a', cp', e, ⟨?_, mem_drop32 H.2 k⟩, lv⟩
  rw [List.length_drop]; exact s
theorem DigR.fr {old : Old} {h h' : AHeap} {a : Option Addr} {cp : Nat} {l : List (List UInt8)} {S : Nat → Prop} (H : DigR old h a cp l) (f : Fr h h' S) (hn : ∀ j, Live (.slice a l.length cp) j → ¬ S j) : DigR old h' a cp l := ⟨H.1.fr f hn, H.2⟩
include T TD hk
theorem root_zero (h : AHeap) (a : Option Addr) (cp : Nat) : D C 68 [.slice a 0 cp] h = some (.agg ⟨bytesVals (sha [])⟩, h) := by
  rw [D_fn2 T.h68]
  generalize hh0 : ({ h with lo := h.bs.length } : AHeap) = h0
  have h0lo : h0.lo = h0.bs.length := by rw [← hh0]
  generalize hZ : ABlock.cells (List.replicate 32 (bv 0)) 31 = Z
  have hZ0 := hZ
  simp [List.replicate] at hZ
  have hz : Value.int .u8 0 = bv 0 := rfl
  have z1 : (h0.push Z).at h0.bs.length = some Z := push_self
  have w1 := lay32 (sha_length [])
  rw [hZ0] at w1
  have e1 := dsum_spec TD hk (h0.push Z) [] none 0 0 ⟨rfl, rfl, rfl⟩ (by omega)
  simp [b68, hz, hZ, Dc_ok, e1, writeN_wr, h0lo, z1, w1, sha_length, r68, resV, put_self, rd32 (sha_length _), flat_bytes]
set_option maxHeartbeats 2000000 in
theorem root_spec : ∀ (f : Nat) (l : List (List UInt8)), l.length ≤ f → ∀ (h : AHeap) (a : Option Addr) (cp : Nat), DigR C.old h a cp l → l.length < 2 ^ 40 → D C 68 [.slice a l.length cp] h = some (.agg ⟨bytesVals (rootL l)⟩, h) := by
  intro f
  induction f with
  | zero =>
    intro l hl h a cp H hlt
    have : l = [] := List.eq_nil_of_length_eq_zero (by omega)
    subst this
    exact root_zero T TD hk h a cp
  | succ f ih =>
    intro l hl h a cp H hlt
    rw [D_fn2 T.h68]
    generalize hh0 : ({ h with lo := h.bs.length } : AHeap) = h0
    have h0lo : h0.lo = h0.bs.length := by rw [← hh0]
    have H0 : DigR C.old h0 a cp l := by rw [← hh0]; exact ⟨H.1.lo, H.2⟩
    generalize hZ : ABlock.cells (List.replicate 32 (bv 0)) 31 = Z
    have hZ0 := hZ
    simp [List.replicate] at hZ
    have hz : Value.int .u8 0 = bv 0 := rfl
    have f1 : Fr h0 (h0.push Z) (fun _ => False) := Fr.push
    have H1 := H0.fr f1 (fun _ _ h => h)
    have z1 : (h0.push Z).at h0.bs.length = some Z := push_self
    have w1 := lay32 (rootL_length l H.2)
    rw [hZ0] at w1
    by_cases h0l : l.length = 0
    · have : l = [] := List.eq_nil_of_length_eq_zero (by omega)
      subst this
      have := root_zero T TD hk h a cp
      rw [D_fn2 T.h68, hh0] at this
      exact this
    · by_cases h1l : l.length = 1
      · obtain ⟨x, rfl⟩ : ∃ x, l = [x] := by
          match l, h1l with
          | [x], _ => exact ⟨x, rfl⟩
        obtain ⟨a, rfl⟩ := H1.1.ex (by simp)
        have hx : x.length = 32 := H.2 x (by simp)
        have hrd : readN C.old (h0.push Z) a 32 = some (bytesVals x) := by
          have := H1.1.read (by simp)
          simpa [leafCells] using this
        have hr : rootL [x] = x := rfl
        rw [hr] at w1 ⊢
        simp [b68, hz, hZ, ixS_iv, adda_zero, hrd, writeN_wr, h0lo, z1, w1, hx, r68, resV, put_self, rd32 hx, flat_bytes]
      · have h2 : 2 ≤ l.length := by omega
        have k1 := lft_lt h2
        have k0 := lft_pos (n := l.length)
        have e1 := left_spec T l.length h2 (by omega)
        obtain ⟨a1, cp1, e2, s2, _⟩ := H1.lower (lft l.length) (by omega)
        obtain ⟨a2, cp2, e3, s3, _⟩ := H1.upper (lft l.length) (by omega)
        have r1 := ih (l.take (lft l.length)) (by simp; omega) (h0.push Z) a1 cp1 s2 (by simp; omega)
        have r2 := ih (l.drop (lft l.length)) (by simp; omega) (h0.push Z) a2 cp2 s3 (by simp; omega)
        have hl1 : (l.take (lft l.length)).length = lft l.length := by simp; omega
        rw [hl1] at r1
        rw [List.length_drop] at r2
        have r3 := node_spec TD hk (h0.push Z) (rootL (l.take (lft l.length))) (rootL (l.drop (lft l.length))) (rootL_length _ (mem_take32 H.2 _)) (rootL_length _ (mem_drop32 H.2 _))
        rw [rootL_two h2] at w1 ⊢
        unfold nodeL at w1 ⊢
        simp [b68, hz, hZ, h0l, h1l, cvt_iu (show l.length < 18446744073709551616 by omega), Dc_ok, e1, e2, e3, r1, r2, r3, writeN_wr, h0lo, z1, w1, sha_length, r68, resV, put_self, rd32 (sha_length _), flat_bytes]
end Go.Ab.Aud

namespace Go.Ab.Aud
open Go.Sha
/-- the path of a number -/
def pathF : Nat → List (List UInt8) → Nat → List (List UInt8)
  | 0, _, _ => []
  | f + 1, l, n => if l.length ≤ 1 then [] else
      if n < lft l.length then pathF f (l.take (lft l.length)) n ++ [rootL (l.drop (lft l.length))] else pathF f (l.drop (lft l.length)) (n - lft l.length) ++ [rootL (l.take (lft l.length))]
theorem pathF_len : ∀ (f : Nat) (l : List (List UInt8)) (n : Nat), (pathF f l n).length ≤ f
  | 0, _, _ => by simp [pathF]
  | f + 1, l, n => by
    unfold pathF
    split
    · simp
    · split
      · have := pathF_len f (l.take (lft l.length)) n; simp; omega
      · have := pathF_len f (l.drop (lft l.length)) (n - lft l.length); simp; omega
/-- a row of digests that was built -/
def DigO (h : AHeap) (v : Value) (l : List (List UInt8)) : Prop := Own h 30 32 v l.length (leafCells l) ∧ (∀ x, x ∈ l → x.length = 32)
theorem DigO.digR {old : Old} {h : AHeap} {v : Value} {l : List (List UInt8)} (H : DigO h v l) : ∃ a cp, v = .slice a l.length cp ∧ DigR old h a cp l := by
  obtain ⟨a, cp, rfl⟩ := H.1.slice
  exact ⟨a, cp, rfl, H.1.sl (by omega), H.2⟩
theorem DigO.fr {h h' : AHeap} {v : Value} {l : List (List UInt8)} {S : Nat → Prop} (H : DigO h v l) (f : Fr h h' S) (hn : ∀ j, blkOf v = some j → ¬ S j) : DigO h' v l := ⟨H.1.fr f hn, H.2⟩
/-- one more -/
theorem dig_append {old : Old} {h : AHeap} {v : Value} {l : List (List UInt8)} {x : List UInt8} (H : DigO h v l) (hx : x.length = 32) (hl : l.length < 2 ^ 30) (hwf : h.lo ≤ h.bs.length) :
    ∃ v' h', appendV old (h.push (.cells (bytesVals x) 31)) 30 32 32 v (.slice (some ⟨h.bs.length, 0, some 0⟩) 1 1) = some (v', h') ∧ DigO h' v' (l ++ [x]) ∧ Fr h h' (fun j => blkOf v = some j) ∧ (blkOf v' = blkOf v ∨ ∃ j, blkOf v' = some j ∧ h.bs.length ≤ j) := by
  have f1 : Fr h (h.push (.cells (bytesVals x) 31)) (fun _ => False) := Fr.push
  obtain ⟨v', h2, e, o, f, b⟩ := append_own (old := old) (bytes := 32) (x := .slice (some ⟨h.bs.length, 0, some 0⟩) 1 1) (m := 1) (new := bytesVals x) (H.1.fr f1 fun _ _ h => h) (by omega) rfl
    (fun _ => by simp only [srcCells]; rw [readN_rd, push_self]; exact rd32 hx) (fun h => by cases h) (by simp [hx]) bytes_ok (by simp [sizeLim]; omega) (by simp; omega)
  refine ⟨v', h2, e, ⟨?_, fun y hy => ?_⟩, f1.trans f (fun _ h => h.elim) (fun _ h _ => h), b.imp_right fun h => ⟨_, h, by simp⟩⟩
  · have hc : leafCells (l ++ [x]) = leafCells l ++ bytesVals x := by simp [leafCells]
    rw [List.length_append, hc]; exact o
  · rcases List.mem_append.1 hy with hy | hy
    · exact H.2 y hy
    · rw [List.mem_singleton.1 hy]; exact hx
variable {C : Ctx} (T : Tab_LLog C) (TD : Tab_LDig C) (hk : ∀ j, j < 64 → C.old 0 j = some (wv (kW j)))
include T TD hk
set_option maxHeartbeats 2000000 in
theorem path_spec : ∀ (f : Nat) (l : List (List UInt8)) (n : Nat), l.length ≤ f → 1 ≤ l.length → n < l.length → f < 2 ^ 29 → ∀ (h : AHeap) (a : Option Addr) (cp : Nat), DigR C.old h a cp l → h.lo ≤ h.bs.length →
    ∃ h' v, D C 69 [.slice a l.length cp, uv n] h = some (v, h') ∧ DigO h' v (pathF f l n) ∧ Fr h h' (fun _ => False) ∧ (∀ j, blkOf v = some j → h.bs.length ≤ j) := by
  intro f
  induction f with
  | zero => intro l n hl h1; omega
  | succ f ih =>
    intro l n hl h1 hn hf h a cp H hwf
    rw [D_fn T.h69]
    unfold pathF
    by_cases h1l : l.length = 1
    · rw [if_pos (by omega)]
      refine ⟨h, .slice none 0 0, ?_, ⟨.nil, fun x hx => by cases hx⟩, Fr.refl _ _, fun j hj => by cases hj⟩
      simp [b69, h1l, r69]
    · rw [if_neg (by omega)]
      have h2 : 2 ≤ l.length := by omega
      have k1 := lft_lt h2
      have k0 := lft_pos (n := l.length)
      have e1 := left_spec T l.length h2 (by omega)
      obtain ⟨a1, cp1, e2, s2, v2⟩ := H.lower (lft l.length) (by omega)
      obtain ⟨a2, cp2, e3, s3, v3⟩ := H.upper (lft l.length) (by omega)
      have hl1 : (l.take (lft l.length)).length = lft l.length := by simp; omega
      have hl2 : (l.drop (lft l.length)).length = l.length - lft l.length := by simp
      have hz : Value.int .u8 0 = bv 0 := rfl
      by_cases hlt : n < lft l.length
      · rw [if_pos hlt]
        obtain ⟨h3, v, r1, o1, f1, b1⟩ := ih (l.take (lft l.length)) n (by omega) (by omega) (by omega) (by omega) h a1 cp1 s2 hwf
        have H3 := H.fr f1 (fun _ _ h => h)
        have e3' := sliceV_same (lo := some ((lft l.length : Nat) : Int)) (hi := none) (mx := none) H.1 H3.1
        have s3' := s3.fr f1 (fun _ _ h => h)
        have r2 := root_spec T TD hk f (l.drop (lft l.length)) (by omega) h3 a2 cp2 s3' (by omega)
        have rl := rootL_length _ (mem_drop32 H.2 (lft l.length))
        rw [hl1] at r1
        rw [hl2] at r2
        have l3 := f1.len
        have lo3 := f1.lo
        obtain ⟨v', h4, e4, o4, f4, b4⟩ := dig_append (old := C.old) o1 rl (by have := pathF_len f (l.take (lft l.length)) n; omega) (by omega)
        have z2 : splice (List.replicate 32 (bv 0)) 0 (bytesVals (rootL (l.drop (lft l.length)))) = bytesVals (rootL (l.drop (lft l.length))) := by simp [splice, rl]
        simp [List.replicate] at z2
        have okd : ∀ x, x ∈ bytesVals (rootL (l.drop (lft l.length))) → okCell x = true := fun x hx => List.all_eq_true.1 bytes_ok x hx
        have okd' := eq_true okd
        refine ⟨h4, v', ?_, o4, f1.trans f4 (fun _ h => h) (fun j hj hl => by have := b1 j hj; omega), fun j hj => ?_⟩
        · simp [b69, h1l, cvt_iu (show l.length < 18446744073709551616 by omega), Dc_ok, e1, hlt, e2, e3, e3', r1, r2, stp_ok o1.1.und, o1.1.und, hz, fillCells, z2, okd', rl, e4, stp_ok o4.1.und, o4.1.und, r69]
        · rcases b4 with b4 | ⟨i, b4, b4'⟩
          · rw [b4] at hj; exact b1 j hj
          · rw [b4] at hj; cases hj; omega
      · rw [if_neg hlt]
        obtain ⟨h3, v, r1, o1, f1, b1⟩ := ih (l.drop (lft l.length)) (n - lft l.length) (by omega) (by omega) (by omega) (by omega) h a2 cp2 s3 hwf
        have H3 := H.fr f1 (fun _ _ h => h)
        have e3' := sliceV_same (lo := none) (hi := some ((lft l.length : Nat) : Int)) (mx := none) H.1 H3.1
        have s2' := s2.fr f1 (fun _ _ h => h)
        have r2 := root_spec T TD hk f (l.take (lft l.length)) (by omega) h3 a1 cp1 s2' (by omega)
        have rl := rootL_length _ (mem_take32 H.2 (lft l.length))
        rw [hl2] at r1
        rw [hl1] at r2
        have l3 := f1.len
        have lo3 := f1.lo
        obtain ⟨v', h4, e4, o4, f4, b4⟩ := dig_append (old := C.old) o1 rl (by have := pathF_len f (l.drop (lft l.length)) (n - lft l.length); omega) (by omega)
        have z2 : splice (List.replicate 32 (bv 0)) 0 (bytesVals (rootL (l.take (lft l.length)))) = bytesVals (rootL (l.take (lft l.length))) := by simp [splice, rl]
        simp [List.replicate] at z2
        have okd : ∀ x, x ∈ bytesVals (rootL (l.take (lft l.length))) → okCell x = true := fun x hx => List.all_eq_true.1 bytes_ok x hx
        have okd' := eq_true okd
        refine ⟨h4, v', ?_, o4, f1.trans f4 (fun _ h => h) (fun j hj hl => by have := b1 j hj; omega), fun j hj => ?_⟩
        · simp [b69, h1l, cvt_iu (show l.length < 18446744073709551616 by omega), Dc_ok, e1, hlt, e2, e3, e3', r1, r2, stp_ok o1.1.und, o1.1.und, hz, fillCells, z2, okd', rl, e4, stp_ok o4.1.und, o4.1.und, r69, uv_sub (a := n) (b := lft l.length) (by omega) (by omega)]
        · rcases b4 with b4 | ⟨i, b4, b4'⟩
          · rw [b4] at hj; exact b1 j hj
          · rw [b4] at hj; cases hj; omega
end Go.Ab.Aud

namespace Go.Ab.Aud
open Go.Sha
/-- what shows that leaves follow on the first m of them -/
def proofF : Nat → List (List UInt8) → Nat → Bool → List (List UInt8)
  | 0, _, _, _ => []
  | f + 1, l, m, whole => if m = l.length then (if whole then [] else [rootL l]) else
      if m ≤ lft l.length then proofF f (l.take (lft l.length)) m whole ++ [rootL (l.drop (lft l.length))] else proofF f (l.drop (lft l.length)) (m - lft l.length) false ++ [rootL (l.take (lft l.length))]
theorem proofF_len : ∀ (f : Nat) (l : List (List UInt8)) (n : Nat) (w : Bool), (proofF f l n w).length ≤ f
  | 0, _, _, _ => by simp [proofF]
  | f + 1, l, n, w => by
    unfold proofF
    split
    · split <;> simp
    · split
      · have := proofF_len f (l.take (lft l.length)) n w; simp; omega
      · have := proofF_len f (l.drop (lft l.length)) (n - lft l.length) false; simp; omega
theorem DigO.one {h : AHeap} {x : List UInt8} (hx : x.length = 32) {v : Value} (e : appendV (fun _ _ => none) h 30 32 32 (.slice none 0 0) v = none) : True := trivial
/-- a row of digests that may be read, and of which it is known whether it may be appended to -/
def DigP (C : Ctx) (h : AHeap) (q : Nat) (v : Value) (l : List (List UInt8)) : Prop :=
  (∃ a cp, v = .slice a l.length cp ∧ DigR C.old h a cp l ∧ (∀ j, Live v j → q ≤ j))
/-- what appending one digest to a row does, owned or just laid by a literal -/
def App1 (C : Ctx) (h : AHeap) (q : Nat) (v : Value) (l : List (List UInt8)) : Prop :=
  ∀ (h2 : AHeap), Fr h h2 (fun _ => False) → h2.lo ≤ h2.bs.length → ∀ x : List UInt8, x.length = 32 →
    ∃ v' h', appendV C.old (h2.push (.cells (bytesVals x) 31)) 30 32 32 v (.slice (some ⟨h2.bs.length, 0, some 0⟩) 1 1) = some (v', h') ∧ DigO h' v' (l ++ [x]) ∧ Fr h2 h' (fun j => q ≤ j) ∧ (∀ j, blkOf v' = some j → q ≤ j)
theorem DigO.app1 {C : Ctx} {h : AHeap} {q : Nat} {v : Value} {l : List (List UInt8)} (H : DigO h v l) (hl : l.length < 2 ^ 30) (hq : ∀ j, blkOf v = some j → q ≤ j) (hqh : q ≤ h.bs.length) : App1 C h q v l := by
  intro h2 f hwf x hx
  obtain ⟨v', h', e, o, f', b⟩ := dig_append (old := C.old) (H.fr f fun _ _ h => h) hx hl hwf
  refine ⟨v', h', e, o, f'.mono fun j hj _ => hq j hj, fun j hj => ?_⟩
  have := f.len
  rcases b with b | ⟨i, b, b'⟩
  · exact hq j (by rw [← b]; exact hj)
  · rw [b] at hj; cases hj; omega
/-- a literal of one digest -/
theorem lit_app1 {C : Ctx} {h : AHeap} {q : Nat} {y : List UInt8} {b : Nat} (hb : h.at b = some (.cells (bytesVals y) 31)) (hy : y.length = 32) (hqh : q ≤ h.bs.length) : App1 C h q (.slice (some ⟨b, 0, some 0⟩) 1 1) [y] := by
  intro h2 f hwf x hx
  have f1 : Fr h2 (h2.push (.cells (bytesVals x) 31)) (fun _ => False) := Fr.push
  have hb2 := f1.get (f.get hb (fun h => h)) (fun h => h)
  have l1 := f.len
  refine ⟨.slice (some ⟨h2.bs.length + 1, 0, some 65⟩) 2 0, (h2.push (.cells (bytesVals x) 31)).push (.grow (bytesVals y ++ bytesVals x) 0 31 32), ?_, ⟨.inr ⟨h2.bs.length + 1, bytesVals y ++ bytesVals x, 0, by simp [hx, hy], push_self' (by simp), by omega, by simp [hx, hy], ?_, by simp; omega⟩, fun z hz => ?_⟩, ?_, fun j hj => ?_⟩
  · have r1 : readN C.old (h2.push (.cells (bytesVals x) 31)) ⟨h2.bs.length, 0, some 0⟩ (1 * 32) = some (bytesVals x) := by rw [readN_rd, push_self]; exact rd32 hx
    have r2 : readN C.old (h2.push (.cells (bytesVals x) 31)) ⟨b, 0, some 0⟩ (1 * 32) = some (bytesVals y) := by rw [readN_rd, hb2]; exact rd32 hy
    have i0 : isRest ⟨b, 0, some 0⟩ 1 = false := rfl
    unfold appendV
    simp only [srcLen, srcCells, r1, i0, Bool.false_eq_true, if_false, r2]
    rw [if_neg (by omega), if_neg (by omega)]
    unfold appendNew
    rw [if_neg (by omega)]
    simp only
    rw [if_pos ⟨by simp [sizeLim], by rw [List.all_append, bytes_ok, bytes_ok]; rfl, by simp [hx, hy], by omega⟩]
    simp
  · rw [List.take_of_length_le (by simp [hx, hy])]; simp [leafCells]
  · simp at hz; rcases hz with rfl | rfl
    · exact hy
    · exact hx
  · exact (f1.trans Fr.push (S' := fun _ => False) (S'' := fun _ => False) (fun _ h => h) (fun _ h _ => h)).mono fun _ h _ => h.elim
  · cases hj; omega
variable {C : Ctx} (T : Tab_LLog C) (TD : Tab_LDig C) (hk : ∀ j, j < 64 → C.old 0 j = some (wv (kW j)))
include T TD hk
set_option maxHeartbeats 2000000 in
theorem proof_spec : ∀ (f : Nat) (l : List (List UInt8)) (m : Nat) (whole : Bool), l.length ≤ f → 1 ≤ m → m ≤ l.length → f < 2 ^ 29 → ∀ (h : AHeap) (a : Option Addr) (cp : Nat), DigR C.old h a cp l → h.lo ≤ h.bs.length →
    ∃ h' v, D C 72 [.slice a l.length cp, uv m, .bool whole] h = some (v, h') ∧ App1 C h' h.bs.length v (proofF f l m whole) ∧ DigP C h' h.bs.length v (proofF f l m whole) ∧ Fr h h' (fun _ => False) := by
  intro f
  induction f with
  | zero => intro l m w hl h1; omega
  | succ f ih =>
    intro l m whole hl h1 hn hf h a cp H hwf
    rw [D_fn T.h72]
    unfold proofF
    have hz : Value.int .u8 0 = bv 0 := rfl
    by_cases hml : m = l.length
    · rw [if_pos hml]
      cases whole with
      | true =>
        rw [if_pos rfl]
        have hO : DigO h (.slice none 0 0) [] := ⟨.nil, fun x hx => by cases hx⟩
        refine ⟨h, .slice none 0 0, ?_, hO.app1 (by simp) (fun j hj => by cases hj) (Nat.le_refl _), ⟨none, 0, rfl, ⟨⟨rfl, rfl, rfl⟩, fun x hx => by cases hx⟩, fun j hj => hj.elim⟩, Fr.refl _ _⟩
        simp [b72, hml, cvt_iu (show l.length < 18446744073709551616 by omega), r72]
      | false =>
        rw [if_neg (by simp)]
        have r2 := root_spec T TD hk (f + 1) l hl h a cp H (by omega)
        have rl := rootL_length _ H.2
        have z2 : splice (List.replicate 32 (bv 0)) 0 (bytesVals (rootL l)) = bytesVals (rootL l) := by simp [splice, rl]
        simp [List.replicate] at z2
        have okd : ∀ x, x ∈ bytesVals (rootL l) → okCell x = true := fun x hx => List.all_eq_true.1 bytes_ok x hx
        have okd' := eq_true okd
        have f1 : Fr h (h.push (.cells (bytesVals (rootL l)) 31)) (fun _ => False) := Fr.push
        refine ⟨h.push (.cells (bytesVals (rootL l)) 31), .slice (some ⟨h.bs.length, 0, some 0⟩) 1 1, ?_, lit_app1 push_self rl (by simp), ⟨_, _, rfl, ⟨⟨by simp [leafCells, rl], ?_⟩, fun x hx => by simp at hx; rw [hx]; exact rl⟩, fun j hj => by have := slLive hj; omega⟩, f1⟩
        · simp [b72, hml, cvt_iu (show l.length < 18446744073709551616 by omega), Dc_ok, r2, hz, fillCells, z2, okd', rl, r72]
        · rw [if_neg (by simp [isRest])]
          exact ⟨by simp, fun _ => by rw [readN_rd, push_self]; have := rd32 rl; simpa [leafCells] using this⟩
    · rw [if_neg hml]
      have h2 : 2 ≤ l.length := by omega
      have k1 := lft_lt h2
      have k0 := lft_pos (n := l.length)
      have e1 := left_spec T l.length h2 (by omega)
      obtain ⟨a1, cp1, e2, s2, v2⟩ := H.lower (lft l.length) (by omega)
      obtain ⟨a2, cp2, e3, s3, v3⟩ := H.upper (lft l.length) (by omega)
      have hl1 : (l.take (lft l.length)).length = lft l.length := by simp; omega
      have hl2 : (l.drop (lft l.length)).length = l.length - lft l.length := by simp
      by_cases hlt : m ≤ lft l.length
      · rw [if_pos hlt]
        obtain ⟨h3, v, r1, o1, ⟨va, vcp, hv, q1, q2⟩, f1⟩ := ih (l.take (lft l.length)) m whole (by omega) (by omega) (by omega) (by omega) h a1 cp1 s2 hwf
        have H3 := H.fr f1 (fun _ _ h => h)
        have e3' := sliceV_same (lo := some ((lft l.length : Nat) : Int)) (hi := none) (mx := none) H.1 H3.1
        have s3' := s3.fr f1 (fun _ _ h => h)
        have r2 := root_spec T TD hk f (l.drop (lft l.length)) (by omega) h3 a2 cp2 s3' (by omega)
        have rl := rootL_length _ (mem_drop32 H.2 (lft l.length))
        rw [hl1] at r1
        rw [hl2] at r2
        have l3 := f1.len
        have lo3 := f1.lo
        have uv' : isUnd v = false := by rw [hv]; rfl
        obtain ⟨v', h4, e4, o4, f4, b4⟩ := o1 h3 (Fr.refl _ _) (by omega) _ rl
        have z2 : splice (List.replicate 32 (bv 0)) 0 (bytesVals (rootL (l.drop (lft l.length)))) = bytesVals (rootL (l.drop (lft l.length))) := by simp [splice, rl]
        simp [List.replicate] at z2
        have okd : ∀ x, x ∈ bytesVals (rootL (l.drop (lft l.length))) → okCell x = true := fun x hx => List.all_eq_true.1 bytes_ok x hx
        have okd' := eq_true okd
        have pl := proofF_len f (l.take (lft l.length)) m whole
        obtain ⟨w1, w2, w3, w4⟩ := o4.digR (old := C.old)
        refine ⟨h4, v', ?_, o4.app1 (by simp; omega) b4 (by have := f4.len; omega), ⟨w1, w2, w3, w4, fun j hj => b4 j (o4.1.live hj)⟩, f1.trans f4 (fun _ h => h) (fun j hj hl => by omega)⟩
        simp [b72, hml, cvt_iu (show l.length < 18446744073709551616 by omega), Dc_ok, e1, hlt, e2, e3, e3', r1, r2, stp_ok uv', uv', hz, fillCells, z2, okd', rl, e4, stp_ok o4.1.und, o4.1.und, r72]
      · rw [if_neg hlt]
        obtain ⟨h3, v, r1, o1, ⟨va, vcp, hv, q1, q2⟩, f1⟩ := ih (l.drop (lft l.length)) (m - lft l.length) false (by omega) (by omega) (by omega) (by omega) h a2 cp2 s3 hwf
        have H3 := H.fr f1 (fun _ _ h => h)
        have e3' := sliceV_same (lo := none) (hi := some ((lft l.length : Nat) : Int)) (mx := none) H.1 H3.1
        have s2' := s2.fr f1 (fun _ _ h => h)
        have r2 := root_spec T TD hk f (l.take (lft l.length)) (by omega) h3 a1 cp1 s2' (by omega)
        have rl := rootL_length _ (mem_take32 H.2 (lft l.length))
        rw [hl2] at r1
        rw [hl1] at r2
        have l3 := f1.len
        have lo3 := f1.lo
        have uv' : isUnd v = false := by rw [hv]; rfl
        obtain ⟨v', h4, e4, o4, f4, b4⟩ := o1 h3 (Fr.refl _ _) (by omega) _ rl
        have z2 : splice (List.replicate 32 (bv 0)) 0 (bytesVals (rootL (l.take (lft l.length)))) = bytesVals (rootL (l.take (lft l.length))) := by simp [splice, rl]
        simp [List.replicate] at z2
        have okd : ∀ x, x ∈ bytesVals (rootL (l.take (lft l.length))) → okCell x = true := fun x hx => List.all_eq_true.1 bytes_ok x hx
        have okd' := eq_true okd
        have pl := proofF_len f (l.drop (lft l.length)) (m - lft l.length) false
        obtain ⟨w1, w2, w3, w4⟩ := o4.digR (old := C.old)
        refine ⟨h4, v', ?_, o4.app1 (by simp; omega) b4 (by have := f4.len; omega), ⟨w1, w2, w3, w4, fun j hj => b4 j (o4.1.live hj)⟩, f1.trans f4 (fun _ h => h) (fun j hj hl => by omega)⟩
        simp [b72, hml, cvt_iu (show l.length < 18446744073709551616 by omega), Dc_ok, e1, hlt, e2, e3, e3', r1, r2, stp_ok uv', uv', hz, fillCells, z2, okd', rl, e4, stp_ok o4.1.und, o4.1.und, r72, uv_sub (a := m) (b := lft l.length) (by omega) (by omega)]
end Go.Ab.Aud

namespace Go.Ab.Aud
open Go.Sha
/-- [:s:s] of a row that is owned -/
theorem Own.first {old : Old} {h : AHeap} {e k n s : Nat} {v : Value} {c : List Value} (w : Own h e k v n c) (hk : 0 < k) (hs : s ≤ n) :
    ∃ a cp, sliceV h k v none (some (s : Int)) (some (s : Int)) = some (.slice a s cp) ∧ SlR old h k (.slice a s cp) (c.take (s * k)) ∧ (∀ j, Live (.slice a s cp) j → blkOf v = some j) := by
  rcases w with ⟨rfl | rfl, rfl, rfl⟩ | ⟨b, g, last, rfl, h1, h2, h3, h4, h5⟩
  · obtain rfl : s = 0 := by omega
    exact ⟨none, 0, rfl, ⟨rfl, rfl, by simp⟩, fun j hj => hj.elim⟩
  · obtain rfl : s = 0 := by omega
    refine ⟨some ⟨0, 0, some 0⟩, 0, rfl, ⟨by simp, ?_⟩, fun j hj => ?_⟩
    · rw [if_neg (by simp [isRest])]; exact ⟨by omega, fun h => absurd rfl h⟩
    · have := hj.2.2; simp [isRest] at this
  · have hkof : kOf h b = k := by unfold kOf; rw [← at_eq, h1]
    have hsk : s * k ≤ n * k := Nat.mul_le_mul_right _ hs
    by_cases hs0 : s = 0
    · subst hs0
      refine ⟨some ⟨0, 0, some 0⟩, 0, ?_, ⟨by simp, ?_⟩, fun j hj => ?_⟩
      · unfold sliceV
        simp only [Option.getD_none, Option.getD_some]
        rw [if_pos isRest_own, if_pos ⟨by omega, by omega, by simp [tagOf], hkof, hk⟩]
        simp [tagOf, emptySl]
      · rw [if_neg (by simp [isRest])]; exact ⟨by omega, fun h => absurd rfl h⟩
      · have := hj.2.2; simp [isRest] at this
    · have hnr : isRest ⟨b, 0, some (g.length + 1)⟩ s = false := by simp [isRest, hs0]
      refine ⟨some ⟨b, 0, some (g.length + 1)⟩, s, ?_, ⟨?_, ?_⟩, fun j hj => by rw [← hj.2.1]; rfl⟩
      · unfold sliceV
        simp only [Option.getD_none, Option.getD_some]
        rw [if_pos isRest_own, if_pos ⟨by omega, by omega, by simp [tagOf]; omega, hkof, hk⟩]
        rw [if_pos ⟨by omega, by simp [tagOf]; omega⟩, if_neg (by omega)]
        simp
      · rw [← h4]; simp; omega
      · rw [if_neg (by simp [hnr])]
        refine ⟨Nat.le_refl _, fun _ => ?_⟩
        rw [readN_rd, h1, rdN_grow (by omega) (by omega) (by omega), ← h4, List.drop_zero, List.take_take, Nat.min_eq_left hsk]
variable {C : Ctx} (T : Tab_LLog C) (TD : Tab_LDig C) (hk : ∀ j, j < 64 → C.old 0 j = some (wv (kW j)))
section
variable (h : AHeap) (O : Nat → Prop) (p d room wr err sz : Nat) (arm keep : Value) (off woff : Bool) (name content : List UInt8) (rows : List (List UInt8)) (H : LogAt h O p d arm keep off woff err sz name content rows room wr)
include T H
theorem first_spec (s : Nat) (hs : s ≤ rows.length) (hl : rows.length < 2 ^ 40) : ∃ a cp, D C 67 [.pointer (some ⟨p, 0, some 0⟩), uv s] h = some (.tuple #[.slice a s cp, .bool true], h) ∧ DigR C.old h a cp ((rows.map lh).take s) ∧ (∀ j, Live (.slice a s cp) j → O j) := by
  obtain ⟨w, m, fp, fw, fz, o, c, es, ls, H⟩ := H
  have hpl := get_lt H.hp
  have e1 := lock_spec T h p 0 fp _ H.hp lc0 H.lop
  rw [lcs0] at e1
  generalize hh1 : h.put p (.cells (lc 1 w es ls err) (fp + 1)) = h1 at e1
  have f1 : Fr h h1 (fun j => j = p) := by rw [← hh1]; exact Fr.put rfl
  have p1 : h1.at p = some (.cells (lc 1 w es ls err) (fp + 1)) := by rw [← hh1]; exact put_self hpl
  have o1 := H.lo.fr f1 fun j hj => (H.bl j hj).1
  obtain ⟨a, cp, e2, s2, lv⟩ := Own.first (old := C.old) o1 (by omega) hs
  have e3 := unlock_spec T h1 p 0 fp _ p1 lc0 (by rw [f1.lo]; exact H.lop)
  rw [lcs0, ← hh1, put_put, put_eq H.hp, hh1] at e3
  have fb : Fr h1 h (fun j => j = p) := by
    refine ⟨f1.lo.symm, by rw [← hh1]; simp, fun j hj hn => (f1.at (by rw [← hh1] at hj; simpa using hj) hn).symm⟩
  refine ⟨a, cp, ?_, ⟨?_, mem_take32 lh32 s⟩, fun j hj => (H.bl j (lv j hj)).2.2.2.2.2.2⟩
  · rw [D_fn T.h67]
    have ul := H.lo.und
    have ll := H.lo.lenV
    simp [b67, Dc_ok, e1, dfrS_ok T.h75, p1, lc4, stp_ok ul, ll, cvt_iu (show rows.length < 18446744073709551616 by omega), show ¬ rows.length < s by omega, e2, e3, r67]
  · have := s2.fr fb fun j hj => (H.bl j (lv j hj)).1
    rw [leafCells_take lh32] at this
    have hl : ((rows.map lh).take s).length = s := by simp; omega
    rw [hl]; exact this
include TD hk
/-- the head of the first entries -/
theorem head_spec (s : Nat) (hs : s ≤ rows.length) (hl : rows.length < 2 ^ 40) (hwf : h.lo ≤ h.bs.length) :
    ∃ h', D C 25 [.pointer (some ⟨p, 0, some 0⟩), uv s] h = some (.tuple #[.agg ⟨uv s :: bytesVals (rootL ((rows.map lh).take s))⟩, iv 0], h') ∧ Fr h h' (fun _ => False) := by
  generalize hZ : ABlock.cells (uv 0 :: List.replicate 32 (bv 0)) 36 = Z
  have hZ0 := hZ
  simp [List.replicate] at hZ
  have f1 : Fr h (h.push Z) (fun _ => False) := Fr.push
  obtain ⟨a, cp, e1, s1, _⟩ := first_spec T (h.push Z) O p d room wr err sz arm keep off woff name content rows (H.fr f1 (fun _ _ h => h)) s hs hl
  have r1 := root_spec T TD hk s ((rows.map lh).take s) (by simp; omega) (h.push Z) a cp s1 (by simp; omega)
  have hls : ((rows.map lh).take s).length = s := by simp; omega
  rw [hls] at r1
  have rl := rootL_length _ s1.2
  have z1 : (h.push Z).at h.bs.length = some Z := push_self
  have hz : Value.int .u8 0 = bv 0 := rfl
  generalize hd : rootL ((rows.map lh).take s) = dg at *
  have w1 : wrN (h.push Z) h.bs.length (some Z) 0 0 (uv s :: bytesVals dg) = some ((h.push Z).put h.bs.length (.cells (uv s :: bytesVals dg) 36)) := by
    rw [← hZ0, wrN_cells (by simp [rl]) (by simp [bytesVals_eq])]
    congr 3
    simp [splice, rl]
  have zs : splice (splice (uv 0 :: List.replicate 32 (bv 0)) 0 [uv s]) 1 (bytesVals dg) = uv s :: bytesVals dg := by simp [splice, rl]
  have zl : (splice (uv 0 :: List.replicate 32 (bv 0)) 0 [uv s]).length = 33 := by simp [splice]
  simp [List.replicate] at zs zl
  have rd : rdN (some (.cells (uv s :: bytesVals dg) 36)) 0 0 33 = some (uv s :: bytesVals dg) := by
    rw [rdN_cells (by simp [rl]), List.drop_zero, List.take_of_length_le (by simp [rl])]
  refine ⟨(h.push Z).put h.bs.length (.cells (uv s :: bytesVals dg) 36), ?_, f1.put' (.inr (Nat.le_refl _))⟩
  rw [D_fn T.h25]
  simp [b25, hz, hZ, Dc_ok, e1, r1, fillCells, zs, zl, rl, writeN_wr, hwf, z1, w1, r25, resV, put_self, rd]
theorem prove_spec (n s : Nat) (hn : n < s) (hs : s ≤ rows.length) (hl : rows.length < 2 ^ 28) (hwf : h.lo ≤ h.bs.length) :
    ∃ h' v, D C 26 [.pointer (some ⟨p, 0, some 0⟩), uv n, uv s] h = some (.tuple #[v, iv 0], h') ∧ DigO h' v (pathF s ((rows.map lh).take s) n) ∧ Fr h h' (fun _ => False) ∧ (∀ j, blkOf v = some j → h.bs.length ≤ j) := by
  obtain ⟨a, cp, e1, s1, _⟩ := first_spec T h O p d room wr err sz arm keep off woff name content rows H s hs (by omega)
  have hls : ((rows.map lh).take s).length = s := by simp; omega
  obtain ⟨h', v, e2, g1, g2, g3⟩ := path_spec T TD hk s ((rows.map lh).take s) n (by omega) (by omega) (by omega) (by omega) h a cp s1 hwf
  rw [hls] at e2
  refine ⟨h', v, ?_, g1, g2, g3⟩
  rw [D_fn T.h26]
  simp [b26, Dc_ok, e1, show ¬ s ≤ n by omega, e2, stp_ok g1.1.und, g1.1.und, r26]
theorem follow_spec (m s : Nat) (hm : m ≤ s) (hs : s ≤ rows.length) (hl : rows.length < 2 ^ 28) (hwf : h.lo ≤ h.bs.length) :
    ∃ h' v, D C 30 [.pointer (some ⟨p, 0, some 0⟩), uv m, uv s] h = some (.tuple #[v, iv 0], h') ∧ DigP C h' h.bs.length v (if m = 0 then [] else proofF s ((rows.map lh).take s) m true) ∧ Fr h h' (fun _ => False) := by
  obtain ⟨a, cp, e1, s1, _⟩ := first_spec T h O p d room wr err sz arm keep off woff name content rows H s hs (by omega)
  have hls : ((rows.map lh).take s).length = s := by simp; omega
  rw [D_fn T.h30]
  by_cases h0 : m = 0
  · refine ⟨h, .slice none 0 0, ?_, ?_, Fr.refl _ _⟩
    · simp [b30, Dc_ok, e1, show ¬ s < m by omega, h0, r30]
    · rw [if_pos h0]
      exact ⟨none, 0, rfl, ⟨⟨rfl, rfl, rfl⟩, fun x hx => by cases hx⟩, fun j hj => hj.elim⟩
  · obtain ⟨h', v, e2, _, g1, g2⟩ := proof_spec T TD hk s ((rows.map lh).take s) m true (by omega) (by omega) (by omega) (by omega) h a cp s1 hwf
    rw [hls] at e2
    have uv' : isUnd v = false := by obtain ⟨va, vcp, hv, _⟩ := g1; rw [hv]; rfl
    refine ⟨h', v, ?_, by rw [if_neg h0]; exact g1, g2⟩
    simp [b30, Dc_ok, e1, show ¬ s < m by omega, h0, e2, stp_ok uv', uv', r30]
end
end Go.Ab.Aud

namespace Go.Ab.Aud
open Go.Sha
/-- an element of a row that is owned is written -/
theorem own_wr {h : AHeap} {e n i : Nat} {v x : Value} {c : List Value} (w : Own h e 1 v n c) (hi : i < n) (hx : okCell x = true) :
    ∃ a h', v = .slice (some a) n 0 ∧ write1 h (adda a i) x = some h' ∧ Own h' e 1 v n (c.set i x) ∧ Fr h h' (fun j => blkOf v = some j) := by
  rcases w with ⟨_, rfl, _⟩ | ⟨b, g, last, rfl, h1, h2, h3, h4, h5⟩
  · omega
  · refine ⟨⟨b, 0, some (g.length + 1)⟩, h.put b (.grow (g.set i x) g.length (e + 1) 1), rfl, ?_, .inr ⟨b, g.set i x, g.length, by simp, put_self (get_lt h1), by simp, by simp; omega, ?_, by rw [put_lo]; exact h5⟩, Fr.put rfl⟩
    · simp only [adda_mk]
      rw [write1_wr h5, h1]
      simp only [wr1]
      rw [if_pos ⟨by first | rfl | trivial, by omega, by omega, hx⟩, Nat.zero_add]
    · rw [← h4, List.take_set]
theorem own_rd {old : Old} {h : AHeap} {e n i : Nat} {a : Addr} {c : List Value} (w : Own h e 1 (.slice (some a) n 0) n c) (hi : i < n) : read1 old h (adda a i) = c[i]? := by
  have := (w.sl (old := old) (by omega)).read (by omega)
  simp only [Nat.mul_one] at this
  exact readN_read1 this hi
/-- the way down to a number: whether it is the right part -/
def downF : Nat → Nat → Nat → List Bool
  | 0, _, _ => []
  | f + 1, n, s => if s ≤ 1 then [] else if n < lft s then false :: downF f n (lft s) else true :: downF f (n - lft s) (s - lft s)
theorem downF_len : ∀ (f n s : Nat), (downF f n s).length ≤ f
  | 0, _, _ => by simp [downF]
  | f + 1, n, s => by
    unfold downF
    split
    · simp
    · split
      · have := downF_len f n (lft s); simp; omega
      · have := downF_len f (n - lft s) (s - lft s); simp; omega
theorem lft_pow {s f : Nat} (h2 : 2 ≤ s) (h : s ≤ 2 ^ (f + 1)) : lft s ≤ 2 ^ f := by
  unfold lft
  apply Nat.pow_le_pow_right (by omega)
  have := (Nat.log2_lt (n := s - 1) (k := f + 1) (by omega)).2 (by omega)
  omega
def bools (l : List Bool) : List Value := l.map .bool
variable {C : Ctx} (T : Tab_LLog C)
include T
/-- one bool more -/
theorem bool_append {h : AHeap} {v : Value} {l : List Bool} {b : Bool} {q : Nat} (H : Own h 4 1 v l.length (bools l)) (hb : ∀ j, blkOf v = some j → q ≤ j) (hq : q ≤ h.bs.length) (hl : l.length < 2 ^ 30) (hwf : h.lo ≤ h.bs.length) :
    ∃ v' h', appendV C.old (h.push (.cells [.bool b] 5)) 4 1 1 v (.slice (some ⟨h.bs.length, 0, some 0⟩) 1 1) = some (v', h') ∧ Own h' 4 1 v' (l ++ [b]).length (bools (l ++ [b])) ∧ Fr h h' (fun j => q ≤ j) ∧ (∀ j, blkOf v' = some j → q ≤ j) := by
  have _ := T
  have f1 : Fr h (h.push (.cells [.bool b] 5)) (fun _ => False) := Fr.push
  obtain ⟨v', h2, e, o, f, b2⟩ := append_own (old := C.old) (bytes := 1) (x := .slice (some ⟨h.bs.length, 0, some 0⟩) 1 1) (m := 1) (new := [.bool b]) (H.fr f1 fun _ _ h => h) (by omega) rfl
    (fun _ => by simp only [srcCells]; rw [readN_rd, push_self]; rfl) (fun h => by cases h) rfl rfl (by simp [sizeLim]; omega) (by simp; omega)
  refine ⟨v', h2, e, ?_, f1.trans f (fun _ h => h.elim) (fun j h _ => hb j h), fun j hj => ?_⟩
  · have : bools (l ++ [b]) = bools l ++ [.bool b] := by simp [bools]
    rw [this, List.length_append]; exact o
  · rcases b2 with b2 | b2 <;> rw [b2] at hj
    · exact hb j hj
    · cases hj; simp; omega
theorem steps_down (q : Nat) : ∀ (f n s : Nat) (l : List Bool) (v : Value) (h : AHeap) (t : List Value), s ≤ 2 ^ f → f ≤ 64 → n < s → s < 18446744073709551616 → Own h 4 1 v l.length (bools l) → (∀ j, blkOf v = some j → q ≤ j) → q ≤ h.bs.length →
    l.length + f < 2 ^ 20 → h.lo ≤ h.bs.length → tg t 0 = uv n → tg t 1 = uv s → tg t 5 = v →
    ∃ h' v' t', (∀ k, R C r53 (.inLoop lp53_0 :: .inBlock 0 :: k) t [] h = R C r53 k t' [] h') ∧ tg t' 5 = v' ∧ Own h' 4 1 v' (l ++ downF f n s).length (bools (l ++ downF f n s)) ∧ Fr h h' (fun j => q ≤ j) ∧ (∀ j, blkOf v' = some j → q ≤ j) := by
  intro f
  induction f with
  | zero =>
    intro n s l v h t hs hf hn hs2 H hb hq hl hwf t0 t1 t5
    have hs1 : s = 1 := by simp at hs; omega
    have e : ∃ t', (∀ k, R C r53 (.inLoop lp53_0 :: .inBlock 0 :: k) t [] h = R C r53 k t' [] h) ∧ tg t' 5 = v := by
      refine ex_step (fun k => R_open lp53_0.eq_1) ?_
      simp [t1, hs1]
      exact ⟨_, fun _ => rfl, by simp [t5]⟩
    obtain ⟨t', e, u5⟩ := e
    exact ⟨h, v, t', e, u5, by simpa [downF] using H, Fr.refl _ _, hb⟩
  | succ f ih =>
    intro n s l v h t hs hf hn hs2 H hb hq hl hwf t0 t1 t5
    by_cases hs1 : s ≤ 1
    · have e : ∃ t', (∀ k, R C r53 (.inLoop lp53_0 :: .inBlock 0 :: k) t [] h = R C r53 k t' [] h) ∧ tg t' 5 = v := by
        refine ex_step (fun k => R_open lp53_0.eq_1) ?_
        simp [t1, show ¬ 1 < s by omega]
        exact ⟨_, fun _ => rfl, by simp [t5]⟩
      obtain ⟨t', e, u5⟩ := e
      refine ⟨h, v, t', e, u5, ?_, Fr.refl _ _, hb⟩
      unfold downF
      rw [if_pos hs1, List.append_nil]; exact H
    · have h2 : 2 ≤ s := by omega
      have k1 := lft_lt h2
      have k0 := lft_pos (n := s)
      have k2 := lft_ge h2
      have k3 := lft_pow h2 hs
      have e1 := left_spec T s h2 hs2
      have hu := H.und
      unfold downF
      rw [if_neg hs1]
      by_cases hlt : n < lft s
      · rw [if_pos hlt]
        obtain ⟨v', h1, e2, o1, f1, b1⟩ := bool_append T (b := false) H hb hq (by omega) hwf
        have e : ∃ t', (∀ k, R C r53 (.inLoop lp53_0 :: .inBlock 0 :: k) t [] h = R C r53 (.inLoop lp53_0 :: .inBlock 0 :: k) t' [] h1) ∧ tg t' 0 = uv n ∧ tg t' 1 = uv (lft s) ∧ tg t' 5 = v' := by
          refine ex_step (fun k => R_open lp53_0.eq_1) ?_
          simp [t0, t1, t5, show 1 < s by omega, Dc_ok, e1, hlt, stp_ok hu, fillCells, splice, e2, stp_ok o1.und]
          exact ⟨_, fun _ => rfl, by simp [t0], by simp, by simp⟩
        obtain ⟨t', e, u0, u1, u5⟩ := e
        obtain ⟨h', v2, t2, a1, a2, a3, a4, a5⟩ := ih n (lft s) (l ++ [false]) v' h1 t' k3 (by omega) hlt (by omega) o1 b1 (by have := f1.len; omega) (by simp; omega) (by rw [f1.lo]; have := f1.len; omega) u0 u1 u5
        refine ⟨h', v2, t2, fun k => (e k).trans (a1 k), a2, ?_, f1.trans a4 (fun _ h => h) (fun _ h _ => h), a5⟩
        simpa using a3
      · rw [if_neg hlt]
        obtain ⟨v', h1, e2, o1, f1, b1⟩ := bool_append T (b := true) H hb hq (by omega) hwf
        have e : ∃ t', (∀ k, R C r53 (.inLoop lp53_0 :: .inBlock 0 :: k) t [] h = R C r53 (.inLoop lp53_0 :: .inBlock 0 :: k) t' [] h1) ∧ tg t' 0 = uv (n - lft s) ∧ tg t' 1 = uv (s - lft s) ∧ tg t' 5 = v' := by
          refine ex_step (fun k => R_open lp53_0.eq_1) ?_
          simp [t0, t1, t5, show 1 < s by omega, Dc_ok, e1, hlt, uv_sub (a := n) (b := lft s) (by omega) (by omega), uv_sub (a := s) (b := lft s) (by omega) (by omega), stp_ok hu, fillCells, splice, e2, stp_ok o1.und]
          exact ⟨_, fun _ => rfl, by simp, by simp, by simp⟩
        obtain ⟨t', e, u0, u1, u5⟩ := e
        obtain ⟨h', v2, t2, a1, a2, a3, a4, a5⟩ := ih (n - lft s) (s - lft s) (l ++ [true]) v' h1 t' (by omega) (by omega) (by omega) (by omega) o1 b1 (by have := f1.len; omega) (by simp; omega) (by rw [f1.lo]; have := f1.len; omega) u0 u1 u5
        refine ⟨h', v2, t2, fun k => (e k).trans (a1 k), a2, ?_, f1.trans a4 (fun _ h => h) (fun _ h _ => h), a5⟩
        simpa using a3
/-- half turned round -/
def revK (l : List Bool) (k : Nat) : List Bool := (List.range l.length).map fun j => if j < k ∨ l.length - 1 - j < k then l.getD (l.length - 1 - j) false else l.getD j false
omit T in
theorem revK_zero (l : List Bool) : revK l 0 = l := by
  apply List.ext_getElem?
  intro j
  unfold revK
  by_cases hj : j < l.length
  · rw [List.getElem?_map, List.getElem?_range hj]
    simp [List.getD_eq_getElem?_getD, hj]
  · rw [List.getElem?_eq_none (by simp; omega), List.getElem?_eq_none (by omega)]
omit T in
theorem revK_half (l : List Bool) : revK l (l.length / 2) = l.reverse := by
  apply List.ext_getElem?
  intro j
  unfold revK
  by_cases hj : j < l.length
  · rw [List.getElem?_map, List.getElem?_range hj, List.getElem?_reverse hj]
    simp only [Option.map_some]
    have hj2 : l.length - 1 - j < l.length := by omega
    by_cases hc : j < l.length / 2 ∨ l.length - 1 - j < l.length / 2
    · rw [if_pos hc, List.getD_eq_getElem?_getD, List.getElem?_eq_getElem hj2]; rfl
    · rw [if_neg hc]
      have : l.length - 1 - j = j := by omega
      rw [this, List.getD_eq_getElem?_getD, List.getElem?_eq_getElem hj]; rfl
  · rw [List.getElem?_eq_none (by simp; omega), List.getElem?_eq_none (by simp; omega)]
omit T in
theorem revK_get (l : List Bool) (k j : Nat) (hj : j < l.length) : (bools (revK l k))[j]? = some (.bool (if j < k ∨ l.length - 1 - j < k then l.getD (l.length - 1 - j) false else l.getD j false)) := by
  unfold bools revK
  rw [List.getElem?_map, List.getElem?_map, List.getElem?_range hj]; rfl
omit T in
theorem revK_step (l : List Bool) (k : Nat) (hk : k < l.length / 2) : ((bools (revK l k)).set k (.bool (l.getD (l.length - 1 - k) false))).set (l.length - 1 - k) (.bool (l.getD k false)) = bools (revK l (k + 1)) := by
  apply List.ext_getElem?
  intro j
  have hlen : (bools (revK l k)).length = l.length := by simp [bools, revK]
  by_cases hj : j < l.length
  · rw [List.getElem?_set, revK_get l (k + 1) j hj]
    by_cases e1 : l.length - 1 - k = j
    · rw [if_pos e1, if_pos (by simp [hlen]; omega), if_pos (by omega)]
      congr 3; omega
    · rw [if_neg e1, List.getElem?_set]
      by_cases e2 : k = j
      · subst e2
        rw [if_pos rfl, if_pos (by omega), if_pos (by omega)]
      · rw [if_neg e2, revK_get l k j hj]
        have : (j < k ∨ l.length - 1 - j < k) ↔ (j < k + 1 ∨ l.length - 1 - j < k + 1) := by omega
        simp only [this]
  · rw [List.getElem?_eq_none (by simp [hlen]; omega), List.getElem?_eq_none (by simp [bools, revK]; omega)]
theorem steps_rev (q : Nat) (l : List Bool) (hl : l.length < 2 ^ 20) : ∀ (d i : Nat) (v : Value) (h : AHeap) (t : List Value), i + d = l.length / 2 → Own h 4 1 v l.length (bools (revK l i)) → (∀ j, blkOf v = some j → q ≤ j) → tg t 5 = v → tg t 30 = iv (l.length / 2) → tg t 31 = iv i →
    ∃ h' t', (∀ k, R C r53 (.inLoop lp53_1 :: .inBlock 2 :: k) t [] h = R C r53 k t' [] h') ∧ tg t' 5 = v ∧ Own h' 4 1 v l.length (bools l.reverse) ∧ Fr h h' (fun j => q ≤ j)
  | 0, i, v, h, t, hd, H, hb, t5, t30, t31 => by
    obtain rfl : i = l.length / 2 := by omega
    have e : ∃ t', (∀ k, R C r53 (.inLoop lp53_1 :: .inBlock 2 :: k) t [] h = R C r53 k t' [] h) ∧ tg t' 5 = v := by
      refine ex_step (fun k => R_open lp53_1.eq_1) ?_
      simp [t30, t31]
      exact ⟨_, fun _ => rfl, by simp [t5]⟩
    obtain ⟨t', e, u5⟩ := e
    rw [revK_half] at H
    exact ⟨h, t', e, u5, H, Fr.refl _ _⟩
  | d + 1, i, v, h, t, hd, H, hb, t5, t30, t31 => by
    have hi : i < l.length / 2 := by omega
    have hu := H.und
    have hlv := H.lenV
    obtain ⟨a, h1, hv, w1, o1, f1⟩ := own_wr (x := .bool (l.getD (l.length - 1 - i) false)) H (i := i) (by omega) rfl
    obtain ⟨a', h2, hv', w2, o2, f2⟩ := own_wr (x := .bool (l.getD i false)) o1 (i := l.length - 1 - i) (by omega) rfl
    have haa : a' = a := by rw [hv] at hv'; injection hv' with h1 h2 h3; injection h1 with h1; exact h1.symm
    subst haa
    rw [revK_step l i hi] at o2
    have rd1 : read1 C.old h (adda a' (l.length - 1 - i)) = some (.bool (l.getD (l.length - 1 - i) false)) := by
      rw [hv] at H
      rw [own_rd H (by omega), revK_get l i _ (by omega), if_neg (by omega)]
    have rd2 : read1 C.old h (adda a' i) = some (.bool (l.getD i false)) := by
      rw [hv] at H
      rw [own_rd H (by omega), revK_get l i _ (by omega), if_neg (by omega)]
    have e : ∃ t', (∀ k, R C r53 (.inLoop lp53_1 :: .inBlock 2 :: k) t [] h = R C r53 (.inLoop lp53_1 :: .inBlock 2 :: k) t' [] h2) ∧ tg t' 5 = v ∧ tg t' 30 = iv (l.length / 2) ∧ tg t' 31 = iv (i + 1) := by
      refine ex_step (fun k => R_open lp53_1.eq_1) ?_
      rw [hv] at t5
      simp [-List.getD_eq_getElem?_getD, t5, t30, t31, hi, iv_sub (a := l.length) (b := 1) (by omega) (by omega), iv_sub (a := l.length - 1) (b := i) (by omega) (by omega), ixS_iv (show l.length - 1 - i < l.length by omega), ixS_iv (show i < l.length by omega), rd1, rd2, w1, w2, iv_add (a := i) (b := 1) (by omega)]
      exact ⟨_, fun _ => rfl, by simp [t5, hv], by simp [t30], by simp⟩
    obtain ⟨t', e, u5, u30, u31⟩ := e
    obtain ⟨h', t2, g1, g2, g3, g4⟩ := steps_rev q l hl d (i + 1) v h2 t' (by omega) o2 hb u5 u30 u31
    exact ⟨h', t2, fun k => (e k).trans (g1 k), g2, g3, ((f1.trans f2 (S'' := fun j => q ≤ j) (fun j hj => hb j hj) (fun j hj _ => hb j hj))).trans g4 (fun _ h => h) (fun _ h _ => h)⟩
/-- the way of a number, from the leaf on -/
theorem steps_spec (n s : Nat) (hn : n < s) (hs : s < 18446744073709551616) (h : AHeap) (hwf : h.lo ≤ h.bs.length) :
    ∃ h' v, D C 53 [uv n, uv s] h = some (v, h') ∧ Own h' 4 1 v (downF 64 n s).length (bools (downF 64 n s).reverse) ∧ Fr h h' (fun _ => False) ∧ (∀ j, blkOf v = some j → h.bs.length ≤ j) := by
  have hdl := downF_len 64 n s
  obtain ⟨h1, v1, t1, e1, u5, o1, f1, b1⟩ := steps_down T h.bs.length 64 n s [] (.slice none 0 0) h (ts (ts [uv n, uv s] 4 (.slice none 0 0)) 5 (.slice none 0 0)) (by omega) (by omega) hn hs .nil (fun j hj => by cases hj) (Nat.le_refl _) (by simp) hwf (by simp) (by simp) (by simp)
  rw [List.nil_append] at o1
  have hlv := o1.lenV
  have hu := o1.und
  have o1' : Own h1 4 1 v1 (downF 64 n s).length (bools (revK (downF 64 n s) 0)) := by rw [revK_zero]; exact o1
  obtain ⟨h2, t2, e2, w5, o2, f2⟩ := steps_rev T h.bs.length (downF 64 n s) (by omega) ((downF 64 n s).length / 2) 0 v1 h1
    (ts (ts (ts (ts t1 28 v1) 29 (iv (downF 64 n s).length)) 30 (iv ((downF 64 n s).length / 2))) 31 (iv 0)) (by omega) o1' b1 (by simp [u5]) (by simp) (by simp)
  refine ⟨h2, v1, ?_, o2, (f1.trans f2 (fun _ h => h) (fun _ h _ => h)).mono (fun j hj hl => by omega), b1⟩
  rw [D_fn T.h53]
  simp [b53]
  rw [e1]
  simp [k53_1, u5, stp_ok hu, hlv, iv_quo (a := (downF 64 n s).length) (b := 2) (by omega) (by omega)]
  rw [e2]
  simp [k53_0, w5, stp_ok hu, r53]
end Go.Ab.Aud

namespace Go.Ab.Aud
open Go.Sha
theorem bv_eq {a b : UInt8} : veqK .i (bv a) (bv b) = some (decide (a = b)) := by
  simp only [bv, veqK, if_true, Option.some.injEq]
  refine decide_eq_decide.2 ⟨fun h => ?_, fun h => by rw [h]⟩
  exact UInt8.toNat.inj (by omega)
theorem veqL_bytes : ∀ (x y : List UInt8), x.length = y.length → veqL (List.replicate x.length .i) (bytesVals x) (bytesVals y) = some (decide (x = y))
  | [], [], _ => rfl
  | a :: x, b :: y, h => by
    have ih := veqL_bytes x y (by simpa using h)
    have e1 : bytesVals (a :: x) = bv a :: bytesVals x := rfl
    have e2 : bytesVals (b :: y) = bv b :: bytesVals y := rfl
    rw [e1, e2, List.length_cons, List.replicate_succ]
    unfold veqL
    simp only [ih, bv_eq]
    simp
/-- two digests are compared -/
theorem aeq_dig {x y : List UInt8} (hx : x.length = 32) (hy : y.length = 32) : aeq (.flat (List.replicate 32 .i)) (.agg ⟨bytesVals x⟩) (.agg ⟨bytesVals y⟩) = some (decide (x = y)) := by
  have := veqL_bytes x y (by omega)
  rw [hx] at this
  exact this
theorem leafCells_get {l : List (List UInt8)} (h : ∀ x, x ∈ l → x.length = 32) {i : Nat} (hi : i < l.length) : ((leafCells l).drop (i * 32)).take 32 = bytesVals (l.getD i []) := by
  have e1 : (l.drop i).take 1 = [l[i]] := by rw [List.drop_eq_getElem_cons hi]; rfl
  have e2 := leafCells_take (mem_drop32 h i) 1
  rw [Nat.one_mul] at e2
  rw [leafCells_drop h, e2, e1]
  simp [leafCells, List.getD_eq_getElem?_getD, hi]
theorem get32 {l : List (List UInt8)} (h : ∀ x, x ∈ l → x.length = 32) {i : Nat} (hi : i < l.length) : (l.getD i []).length = 32 := by
  rw [List.getD_eq_getElem?_getD, List.getElem?_eq_getElem hi]
  exact h _ (List.getElem_mem hi)
theorem DigR.get {old : Old} {h : AHeap} {a : Option Addr} {cp : Nat} {l : List (List UInt8)} (H : DigR old h a cp l) {i : Nat} (hi : i < l.length) : ∃ a', a = some a' ∧ readN old h (adda a' (i * 32)) 32 = some (bytesVals (l.getD i [])) := by
  obtain ⟨a', rfl⟩ := H.1.ex (by omega)
  refine ⟨a', rfl, ?_⟩
  have := readN_part (H.1.read (by omega)) (i := i * 32) (m := 32) (by omega)
  rwa [leafCells_get H.2 hi] at this
/-- one step of the way up -/
def stepW (w : Bool) (p x : List UInt8) : List UInt8 := if w then sha (1 :: (p ++ x)) else sha (1 :: (x ++ p))
theorem stepW_length {w : Bool} {p x : List UInt8} : (stepW w p x).length = 32 := by
  unfold stepW
  split <;> exact sha_length _
/-- the root that a path leads to -/
def foldW : List Bool → List (List UInt8) → List UInt8 → List UInt8
  | w :: ws, p :: ps, x => foldW ws ps (stepW w p x)
  | _, _, x => x
theorem foldW_length : ∀ (w : List Bool) (ps : List (List UInt8)) (x : List UInt8), x.length = 32 → (foldW w ps x).length = 32
  | [], _, _, h => by simpa [foldW] using h
  | _ :: _, [], _, h => by simpa [foldW] using h
  | b :: ws, p :: ps, x, _ => by rw [foldW]; exact foldW_length ws ps _ stepW_length
def inclF (size n : Nat) (root leaf : List UInt8) (ps : List (List UInt8)) : Nat :=
  if size ≤ n then 230 else if (downF 64 n size).length ≠ ps.length then 235 else if foldW (downF 64 n size).reverse ps leaf ≠ root then 236 else 0
variable {C : Ctx} (T : Tab_LLog C) (TD : Tab_LDig C) (hk : ∀ j, j < 64 → C.old 0 j = some (wv (kW j)))
include T TD hk
theorem incl_loop (q : Nat) (w : List Bool) (ps : List (List UInt8)) (hw : w.length = ps.length) (hl : w.length < 2 ^ 20) (v : Value) (a : Option Addr) (cp : Nat) :
    ∀ (d i : Nat) (x : List UInt8) (g : AHeap) (t : List Value), i + d = w.length → x.length = 32 → Own g 4 1 v w.length (bools w) → (∀ j, blkOf v = some j → j ≠ q) → DigR C.old g a cp ps → (∀ j, Live (.slice a ps.length cp) j → j ≠ q) →
    g.lo ≤ q → g.at q = some (.cells (bytesVals x) 31) → tg t 25 = v → tg t 26 = iv w.length → tg t 27 = iv i → tg t 3 = .slice a ps.length cp → tg t 6 = .pointer (some ⟨q, 0, some 0⟩) →
    ∃ g' t', (∀ k, R C r12 (.inLoop lp12_0 :: .inBlock 0 :: k) t [] g = R C r12 k t' [] g') ∧ tg t' 6 = .pointer (some ⟨q, 0, some 0⟩) ∧ tg t' 4 = tg t 4 ∧ Fr g g' (fun j => j = q) ∧ g'.at q = some (.cells (bytesVals (foldW (w.drop i) (ps.drop i) x)) 31) := by
  intro d
  induction d with
  | zero =>
    intro i x g t hd hx H hb P hp hlo hq t25 t26 t27 t3 t6
    have hi : i = w.length := by omega
    have e : ∃ t', (∀ k, R C r12 (.inLoop lp12_0 :: .inBlock 0 :: k) t [] g = R C r12 k t' [] g) ∧ tg t' 6 = .pointer (some ⟨q, 0, some 0⟩) ∧ tg t' 4 = tg t 4 := by
      refine ex_step (fun k => R_open lp12_0.eq_1) ?_
      simp [t26, t27, hi]
      exact ⟨_, fun _ => rfl, by simp [t6], by simp⟩
    obtain ⟨t', e, u6, u4⟩ := e
    refine ⟨g, t', e, u6, u4, Fr.refl _ _, ?_⟩
    rw [hq, List.drop_of_length_le (by omega), List.drop_of_length_le (by omega)]; rfl
  | succ d ih =>
    intro i x g t hd hx H hb P hp hlo hq t25 t26 t27 t3 t6
    have hi : i < w.length := by omega
    obtain ⟨a', rfl, rp⟩ := P.get (i := i) (by omega)
    have lp := get32 P.2 (i := i) (by omega)
    obtain ⟨va, vcp, hv⟩ := H.slice
    have hv0 : ∃ va', v = .slice (some va') w.length 0 := by
      rcases H with ⟨_, h0, _⟩ | ⟨b, g', last, hv, _⟩
      · omega
      · exact ⟨_, hv⟩
    obtain ⟨va', hv'⟩ := hv0
    rw [hv'] at H
    have rb : read1 C.old g (adda va' i) = some (.bool (w.getD i false)) := by
      rw [own_rd H hi]
      simp [bools, List.getD_eq_getElem?_getD, hi]
    rw [← hv'] at H
    rw [hv'] at t25
    generalize hpi : ps.getD i [] = p at rp lp
    generalize hwi : w.getD i false = b at rb
    have e1 := node_spec TD hk g p x lp hx
    have e2 := node_spec TD hk g x p hx lp
    have rx : rdN (some (.cells (bytesVals x) 31)) 0 0 32 = some (bytesVals x) := rd32 hx
    have wx : ∀ y : List UInt8, y.length = 32 → wrN g q (some (.cells (bytesVals x) 31)) 0 0 (bytesVals y) = some (g.put q (.cells (bytesVals y) 31)) := by
      intro y hy
      rw [wrN_cells (by simp [hx, hy]) (by simp [bytesVals_eq])]
      congr 3
      simp [splice, hx, hy]
    have e : ∃ t', (∀ k, R C r12 (.inLoop lp12_0 :: .inBlock 0 :: k) t [] g = R C r12 (.inLoop lp12_0 :: .inBlock 0 :: k) t' [] (g.put q (.cells (bytesVals (stepW b p x)) 31))) ∧ tg t' 25 = v ∧ tg t' 26 = iv w.length ∧ tg t' 27 = iv (i + 1) ∧ tg t' 3 = .slice (some a') ps.length cp ∧ tg t' 6 = .pointer (some ⟨q, 0, some 0⟩) ∧ tg t' 4 = tg t 4 := by
      refine ex_step (fun k => R_open lp12_0.eq_1) ?_
      cases b
      · have w1 := wx (stepW false p x) stepW_length
        have es : sha (1 :: (x ++ p)) = stepW false p x := rfl
        rw [es] at e2
        simp [t25, t26, t27, t3, t6, hi, ixS_iv hi, rb, ixS_iv (show i < ps.length by omega), rp, hq, rx, Dc_ok, e2, stepW_length, writeN_wr, hlo, w1, iv_add (a := i) (b := 1) (by omega)]
        exact ⟨_, fun _ => rfl, by simp [t25, hv'], by simp [t26], by simp, by simp [t3], by simp [t6], by simp⟩
      · have w1 := wx (stepW true p x) stepW_length
        have es : sha (1 :: (p ++ x)) = stepW true p x := rfl
        rw [es] at e1
        simp [t25, t26, t27, t3, t6, hi, ixS_iv hi, rb, ixS_iv (show i < ps.length by omega), rp, hq, rx, Dc_ok, e1, stepW_length, writeN_wr, hlo, w1, iv_add (a := i) (b := 1) (by omega)]
        exact ⟨_, fun _ => rfl, by simp [t25, hv'], by simp [t26], by simp, by simp [t3], by simp [t6], by simp⟩
    obtain ⟨t', e, u25, u26, u27, u3, u6, u4⟩ := e
    have f1 : Fr g (g.put q (.cells (bytesVals (stepW b p x)) 31)) (fun j => j = q) := Fr.put rfl
    obtain ⟨g', t2, a1, a2, a3, a4, a5⟩ := ih (i + 1) (stepW b p x) _ t' (by omega) stepW_length (H.fr f1 hb) hb (P.fr f1 hp) hp hlo (put_self (get_lt hq)) u25 u26 u27 u3 u6
    refine ⟨g', t2, fun k => (e k).trans (a1 k), a2, a3.trans u4, f1.trans a4 (fun _ h => h) (fun _ h _ => h), ?_⟩
    rw [a5, List.drop_eq_getElem_cons hi, List.drop_eq_getElem_cons (show i < ps.length by omega)]
    simp only [foldW]
    rw [← hpi, ← hwi]
    simp [List.getD_eq_getElem?_getD, hi, show i < ps.length by omega]
set_option maxHeartbeats 1000000 in
theorem incl_spec (h : AHeap) (size n : Nat) (root leaf : List UInt8) (ps : List (List UInt8)) (hr : root.length = 32) (hlf : leaf.length = 32) (hs : size < 18446744073709551616) (hn : n < 18446744073709551616) (a : Option Addr) (cp : Nat) (P : DigR C.old h a cp ps) :
    D C 12 [.agg ⟨uv size :: bytesVals root⟩, uv n, .agg ⟨bytesVals leaf⟩, .slice a ps.length cp] h = some (iv (inclF size n root leaf ps), h) := by
  rw [D_fn2 T.h12]
  generalize hh0 : ({ h with lo := h.bs.length } : AHeap) = h0
  have h0lo : h0.lo = h0.bs.length := by rw [← hh0]
  have P0 : DigR C.old h0 a cp ps := by rw [← hh0]; exact ⟨P.1.lo, P.2⟩
  unfold inclF
  by_cases hsn : size ≤ n
  all_goals
    generalize hX : ABlock.cells (uv size :: bytesVals root) 36 = X
    generalize hY : ABlock.cells (bytesVals leaf) 31 = Y
    generalize hA : (h0.push X).push Y = A
    have aL : A.bs.length = h0.bs.length + 2 := by rw [← hA]; simp
    have aO : A.lo = h0.lo := by rw [← hA]; rfl
    have a0 : A.at h0.bs.length = some X := by rw [← hA]; exact push_old push_self
    have a1 : A.at (h0.bs.length + 1) = some Y := by rw [← hA]; exact push_self' (by simp)
    have fA : Fr h0 A (fun _ => False) := by rw [← hA]; exact Fr.push.push'
    have ru : rd1 (some X) 0 0 = some (uv size) := by rw [← hX]; rfl
    have rr : rdN (some X) 1 0 32 = some (bytesVals root) := by
      rw [← hX, rdN_cells (by simp [hr]), List.drop_succ_cons, List.drop_zero, List.take_of_length_le (by simp [hr])]
  · rw [if_pos hsn]
    simp [b12, bytes_ok, hX, hY, hA, a0, ru, hsn, r12]
  · rw [if_neg hsn]
    obtain ⟨g, v, e1, o1, f1, b1⟩ := steps_spec T n size (by omega) hs A (by omega)
    have hlen : (downF 64 n size).reverse.length = (downF 64 n size).length := List.length_reverse
    have hdl := downF_len 64 n size
    by_cases hlp : (downF 64 n size).length = ps.length
    · rw [if_neg (by omega)]
      have lg := f1.len
      have og := f1.lo
      have g0 : g.at h0.bs.length = some X := f1.get a0 (fun h => h)
      have g1 : g.at (h0.bs.length + 1) = some Y := f1.get a1 (fun h => h)
      have Pg : DigR C.old g a cp ps := (P0.fr fA (fun _ _ h => h)).fr f1 (fun _ _ h => h)
      have o1' : Own g 4 1 v (downF 64 n size).reverse.length (bools (downF 64 n size).reverse) := by rw [hlen]; exact o1
      obtain ⟨g', t', e2, u6, u4, f2, q2⟩ := incl_loop T TD hk (h0.bs.length + 1) (downF 64 n size).reverse ps (by omega) (by omega) v a cp (downF 64 n size).length 0 leaf g
        (ts (ts (ts (ts (ts (ts (ts (ts (ts (ts (ts (ts (ts (ts (ts (ts (ts (ts (ts (ts [.agg ⟨uv size :: bytesVals root⟩, uv n, .agg ⟨bytesVals leaf⟩, .slice a ps.length cp] 4 (.pointer (some ⟨h0.bs.length, 0, some 0⟩))) 6 (.pointer (some ⟨h0.bs.length + 1, 0, some 0⟩))) 8 (iv 0)) 12 (uv n)) 13 (.pointer (some ⟨h0.bs.length, 0, some 0⟩))) 14 (uv size)) 15 (.bool false)) 16 (uv n)) 17 (.pointer (some ⟨h0.bs.length, 0, some 0⟩))) 18 (uv size)) 19 v) 9 v) 20 v) 21 (iv ps.length)) 22 (.slice a ps.length cp)) 23 (iv ps.length)) 24 (.bool false)) 25 v) 26 (iv ps.length)) 27 (iv 0))
        (by omega) hlf o1' (fun j hj => by have := b1 j hj; omega) Pg (fun j hj => by have := P0.1.live_lt hj; omega) (by omega) (by rw [g1, ← hY]) (by simp) (by simp [hlp]) (by simp) (by simp) (by simp)
      have g0' : g'.at h0.bs.length = some X := f2.get g0 (by omega)
      rw [List.drop_zero, List.drop_zero] at q2
      generalize hfo : foldW (downF 64 n size).reverse ps leaf = fo at q2
      have fl : fo.length = 32 := by rw [← hfo]; exact foldW_length _ _ _ hlf
      have rf : rdN (some (.cells (bytesVals fo) 31)) 0 0 32 = some (bytesVals fo) := rd32 fl
      have eq := aeq_dig fl hr
      simp [List.replicate] at eq
      have e : R C r12 [.code b12] [.agg ⟨uv size :: bytesVals root⟩, uv n, .agg ⟨bytesVals leaf⟩, .slice a ps.length cp] [] h0 = some (iv (if fo ≠ root then 236 else 0), g') := by
        simp [b12, bytes_ok, hX, hY, hA, a0, ru, hsn, Dc_ok, e1, stp_ok o1.und, o1.lenV, hlp]
        rw [e2]
        by_cases hfr : fo = root
        · rw [hfr] at rf q2 eq
          simp [k12_0, r12, u6, u4, q2, rf, g0', rr, eq, hfr]
        · simp [k12_0, r12, u6, u4, q2, rf, g0', rr, eq, hfr]
      rw [e]
      exact pur_some rfl
    · rw [if_pos hlp]
      simp [b12, bytes_ok, hX, hY, hA, a0, ru, hsn, r12, Dc_ok, e1, stp_ok o1.und, o1.lenV, hlp]
  end Go.Ab.Aud

namespace Go.Ab.Aud
open Go.Sha
/-- the way down to where the smaller part ends: whether it is in the right part -/
def mdown : Nat → Nat → Nat → List Bool
  | 0, _, _ => []
  | f + 1, m, n => if m = 0 ∨ n ≤ m then [] else if lft n < m then true :: mdown f (m - lft n) (n - lft n) else false :: mdown f m (lft n)
theorem mdown_len : ∀ (f m n : Nat), (mdown f m n).length ≤ f
  | 0, _, _ => by simp [mdown]
  | f + 1, m, n => by
    unfold mdown
    split
    · simp
    · split
      · have := mdown_len f (m - lft n) (n - lft n); simp; omega
      · have := mdown_len f m (lft n); simp; omega
/-- both roots -/
def foldP : List Bool → List (List UInt8) → List UInt8 → List UInt8 → List UInt8 × List UInt8
  | true :: ws, p :: ps, a, b => foldP ws ps (sha (1 :: (p ++ a))) (sha (1 :: (p ++ b)))
  | false :: ws, p :: ps, a, b => foldP ws ps a (sha (1 :: (b ++ p)))
  | _, _, a, b => (a, b)
theorem foldP_length : ∀ (w : List Bool) (ps : List (List UInt8)) (a b : List UInt8), a.length = 32 → b.length = 32 → (foldP w ps a b).1.length = 32 ∧ (foldP w ps a b).2.length = 32
  | [], _, _, _, h, g => by simpa [foldP] using ⟨h, g⟩
  | true :: _, [], _, _, h, g => by simpa [foldP] using ⟨h, g⟩
  | false :: _, [], _, _, h, g => by simpa [foldP] using ⟨h, g⟩
  | true :: ws, p :: ps, a, b, _, _ => by rw [foldP]; exact foldP_length ws ps _ _ (sha_length _) (sha_length _)
  | false :: ws, p :: ps, a, b, h, _ => by rw [foldP]; exact foldP_length ws ps _ _ h (sha_length _)
def one1 (w : List Bool) : Nat := if true ∈ w then 1 else 0
def follF (m n : Nat) (oroot root : List UInt8) (ps : List (List UInt8)) : Nat :=
  if n < m then 230 else
  if ps.length ≠ one1 (mdown 64 m n) + (mdown 64 m n).length then 235 else
  if m = 0 then (if oroot ≠ sha [] ∨ (n = 0 ∧ root ≠ sha []) then 236 else 0) else
  if foldP (mdown 64 m n).reverse (ps.drop (one1 (mdown 64 m n))) (if one1 (mdown 64 m n) = 1 then ps.getD 0 [] else oroot) (if one1 (mdown 64 m n) = 1 then ps.getD 0 [] else oroot) = (oroot, root) then 0 else 236
variable {C : Ctx} (T : Tab_LLog C) (TD : Tab_LDig C) (hk : ∀ j, j < 64 → C.old 0 j = some (wv (kW j)))
section
include T
theorem fol_down (q : Nat) : ∀ (f m n : Nat) (l : List Bool) (v : Value) (h : AHeap) (t : List Value), n ≤ 2 ^ f → f ≤ 64 → m ≤ n → n < 18446744073709551616 → Own h 4 1 v l.length (bools l) → (∀ j, blkOf v = some j → q ≤ j) → q ≤ h.bs.length →
    l.length + f < 2 ^ 20 → h.lo ≤ h.bs.length → tg t 8 = uv m → tg t 9 = uv n → tg t 7 = v →
    ∃ h' v' t', (∀ k, R C r14 (.inLoop lp14_0 :: .inBlock 0 :: k) t [] h = R C r14 k t' [] h') ∧ tg t' 7 = v' ∧ tg t' 2 = tg t 2 ∧ tg t' 3 = tg t 3 ∧ tg t' 4 = tg t 4 ∧ Own h' 4 1 v' (l ++ mdown f m n).length (bools (l ++ mdown f m n)) ∧ Fr h h' (fun j => q ≤ j) ∧ (∀ j, blkOf v' = some j → q ≤ j) := by
  intro f
  induction f with
  | zero =>
    intro m n l v h t hs hf hn hs2 H hb hq hl hwf t8 t9 t7
    have hs1 : m = 0 ∨ n ≤ m := by simp at hs; omega
    have e : ∃ t', (∀ k, R C r14 (.inLoop lp14_0 :: .inBlock 0 :: k) t [] h = R C r14 k t' [] h) ∧ tg t' 7 = v ∧ tg t' 2 = tg t 2 ∧ tg t' 3 = tg t 3 ∧ tg t' 4 = tg t 4 := by
      refine ex_step (fun k => R_open lp14_0.eq_1) ?_
      by_cases h0 : 0 < m
      · simp [t8, t9, h0, show ¬ m < n by omega]
        exact ⟨_, fun _ => rfl, by simp [t7], by simp, by simp, by simp⟩
      · simp [t8, t9, h0]
        exact ⟨_, fun _ => rfl, by simp [t7], by simp, by simp, by simp⟩
    obtain ⟨t', e, u7, u2, u3, u4⟩ := e
    exact ⟨h, v, t', e, u7, u2, u3, u4, by simpa [mdown] using H, Fr.refl _ _, hb⟩
  | succ f ih =>
    intro m n l v h t hs hf hn hs2 H hb hq hl hwf t8 t9 t7
    by_cases hs1 : m = 0 ∨ n ≤ m
    · have e : ∃ t', (∀ k, R C r14 (.inLoop lp14_0 :: .inBlock 0 :: k) t [] h = R C r14 k t' [] h) ∧ tg t' 7 = v ∧ tg t' 2 = tg t 2 ∧ tg t' 3 = tg t 3 ∧ tg t' 4 = tg t 4 := by
        refine ex_step (fun k => R_open lp14_0.eq_1) ?_
        by_cases h0 : 0 < m
        · simp [t8, t9, h0, show ¬ m < n by omega]
          exact ⟨_, fun _ => rfl, by simp [t7], by simp, by simp, by simp⟩
        · simp [t8, t9, h0]
          exact ⟨_, fun _ => rfl, by simp [t7], by simp, by simp, by simp⟩
      obtain ⟨t', e, u7, u2, u3, u4⟩ := e
      refine ⟨h, v, t', e, u7, u2, u3, u4, ?_, Fr.refl _ _, hb⟩
      unfold mdown
      rw [if_pos hs1, List.append_nil]; exact H
    · have h2 : 2 ≤ n := by omega
      have k1 := lft_lt h2
      have k0 := lft_pos (n := n)
      have k2 := lft_ge h2
      have k3 := lft_pow h2 hs
      have e1 := left_spec T n h2 hs2
      have hu := H.und
      unfold mdown
      rw [if_neg hs1]
      by_cases hlt : lft n < m
      · rw [if_pos hlt]
        obtain ⟨v', h1, e2, o1, f1, b1⟩ := bool_append T (b := true) H hb hq (by omega) hwf
        have e : ∃ t', (∀ k, R C r14 (.inLoop lp14_0 :: .inBlock 0 :: k) t [] h = R C r14 (.inLoop lp14_0 :: .inBlock 0 :: k) t' [] h1) ∧ tg t' 8 = uv (m - lft n) ∧ tg t' 9 = uv (n - lft n) ∧ tg t' 7 = v' ∧ tg t' 2 = tg t 2 ∧ tg t' 3 = tg t 3 ∧ tg t' 4 = tg t 4 := by
          refine ex_step (fun k => R_open lp14_0.eq_1) ?_
          simp [t8, t9, t7, show 0 < m by omega, show m < n by omega, Dc_ok, e1, hlt, uv_sub (a := n) (b := lft n) (by omega) (by omega), uv_sub (a := m) (b := lft n) (by omega) (by omega), stp_ok hu, fillCells, splice, e2, stp_ok o1.und]
          exact ⟨_, fun _ => rfl, by simp, by simp, by simp, by simp, by simp, by simp⟩
        obtain ⟨t', e, u8, u9, u7, u2, u3, u4⟩ := e
        obtain ⟨h', v2, t2, a1, a2, x2, x3, x4, a3, a4, a5⟩ := ih (m - lft n) (n - lft n) (l ++ [true]) v' h1 t' (by omega) (by omega) (by omega) (by omega) o1 b1 (by have := f1.len; omega) (by simp; omega) (by rw [f1.lo]; have := f1.len; omega) u8 u9 u7
        refine ⟨h', v2, t2, fun k => (e k).trans (a1 k), a2, x2.trans u2, x3.trans u3, x4.trans u4, ?_, f1.trans a4 (fun _ h => h) (fun _ h _ => h), a5⟩
        simpa using a3
      · rw [if_neg hlt]
        obtain ⟨v', h1, e2, o1, f1, b1⟩ := bool_append T (b := false) H hb hq (by omega) hwf
        have e : ∃ t', (∀ k, R C r14 (.inLoop lp14_0 :: .inBlock 0 :: k) t [] h = R C r14 (.inLoop lp14_0 :: .inBlock 0 :: k) t' [] h1) ∧ tg t' 8 = uv m ∧ tg t' 9 = uv (lft n) ∧ tg t' 7 = v' ∧ tg t' 2 = tg t 2 ∧ tg t' 3 = tg t 3 ∧ tg t' 4 = tg t 4 := by
          refine ex_step (fun k => R_open lp14_0.eq_1) ?_
          simp [t8, t9, t7, show 0 < m by omega, show m < n by omega, Dc_ok, e1, hlt, stp_ok hu, fillCells, splice, e2, stp_ok o1.und]
          exact ⟨_, fun _ => rfl, by simp [t8], by simp, by simp, by simp, by simp, by simp⟩
        obtain ⟨t', e, u8, u9, u7, u2, u3, u4⟩ := e
        obtain ⟨h', v2, t2, a1, a2, x2, x3, x4, a3, a4, a5⟩ := ih m (lft n) (l ++ [false]) v' h1 t' k3 (by omega) (by omega) (by omega) o1 b1 (by have := f1.len; omega) (by simp; omega) (by rw [f1.lo]; have := f1.len; omega) u8 u9 u7
        refine ⟨h', v2, t2, fun k => (e k).trans (a1 k), a2, x2.trans u2, x3.trans u3, x4.trans u4, ?_, f1.trans a4 (fun _ h => h) (fun _ h _ => h), a5⟩
        simpa using a3
theorem fol_scan (w : List Bool) (hw : w.length < 2 ^ 20) (v : Value) : ∀ (d i : Nat) (h : AHeap) (t : List Value), i + d = w.length → Own h 4 1 v w.length (bools w) → tg t 53 = v → tg t 54 = iv w.length → tg t 55 = iv i → tg t 11 = iv (one1 (w.take i)) →
    ∃ t', (∀ k, R C r14 (.inLoop lp14_1 :: .inBlock 2 :: k) t [] h = R C r14 k t' [] h) ∧ tg t' 11 = iv (one1 w) ∧ tg t' 7 = tg t 7 ∧ tg t' 2 = tg t 2 ∧ tg t' 3 = tg t 3 ∧ tg t' 4 = tg t 4 := by
  intro d
  induction d with
  | zero =>
    intro i h t hd H t53 t54 t55 t11
    have hi : i = w.length := by omega
    rw [List.take_of_length_le (by omega)] at t11
    refine ex_step (fun k => R_open lp14_1.eq_1) ?_
    simp [t54, t55, hi]
    exact ⟨_, fun _ => rfl, by simp [t11], by simp, by simp, by simp, by simp⟩
  | succ d ih =>
    intro i h t hd H t53 t54 t55 t11
    have hi : i < w.length := by omega
    have hv0 : ∃ va', v = .slice (some va') w.length 0 := by
      rcases H with ⟨_, h0, _⟩ | ⟨b, g', last, hv, _⟩
      · omega
      · exact ⟨_, hv⟩
    obtain ⟨va', rfl⟩ := hv0
    have rb : read1 C.old h (adda va' i) = some (.bool w[i]) := by
      rw [own_rd H hi]
      simp [bools, hi]
    have ht : w.take (i + 1) = w.take i ++ [w[i]] := by rw [List.take_succ_eq_append_getElem hi]
    generalize hwi : w[i] = b at rb ht
    have e : ∃ t', (∀ k, R C r14 (.inLoop lp14_1 :: .inBlock 2 :: k) t [] h = R C r14 (.inLoop lp14_1 :: .inBlock 2 :: k) t' [] h) ∧ tg t' 53 = .slice (some va') w.length 0 ∧ tg t' 54 = iv w.length ∧ tg t' 55 = iv (i + 1) ∧ tg t' 11 = iv (one1 (w.take (i + 1))) ∧ tg t' 7 = tg t 7 ∧ tg t' 2 = tg t 2 ∧ tg t' 3 = tg t 3 ∧ tg t' 4 = tg t 4 := by
      refine ex_step (fun k => R_open lp14_1.eq_1) ?_
      cases b
      · have : one1 (w.take (i + 1)) = one1 (w.take i) := by rw [ht]; simp [one1]
        rw [this]
        simp [t53, t54, t55, hi, ixS_iv hi, rb, iv_add (a := i) (b := 1) (by omega)]
        exact ⟨_, fun _ => rfl, by simp [t53], by simp [t54], by simp, by simp [t11], by simp, by simp, by simp, by simp⟩
      · have : one1 (w.take (i + 1)) = 1 := by rw [ht]; simp [one1]
        rw [this]
        simp [t53, t54, t55, hi, ixS_iv hi, rb, iv_add (a := i) (b := 1) (by omega)]
        exact ⟨_, fun _ => rfl, by simp [t53], by simp [t54], by simp, by simp, by simp, by simp, by simp, by simp⟩
    obtain ⟨t', e, u53, u54, u55, u11, u7, u2, u3, u4⟩ := e
    obtain ⟨t2, a1, a2, a3, a4, a5, a6⟩ := ih (i + 1) h t' (by omega) H u53 u54 u55 u11
    exact ⟨t2, fun k => (e k).trans (a1 k), a2, a3.trans u7, a4.trans u2, a5.trans u3, a6.trans u4⟩
end
/-- the number before n, or -1 -/
def pre (n : Nat) : Value := .int .i64 ((n : Int) - 1)
theorem pre_succ {n : Nat} : pre (n + 1) = iv n := by
  unfold pre iv
  congr 1
  omega
theorem pre_und {n : Nat} : isUnd (pre n) = false := nr rfl
theorem pre_zero_geq : abin .geq (pre 0) (iv 0) = some (.bool false) := by rfl
theorem iv_pre {n : Nat} (h : n < 2 ^ 40) : abin .sub (iv n) (iv 1) = some (pre n) := by
  cases n with
  | zero => rfl
  | succ n => rw [iv_sub (by omega) (by omega), pre_succ]; rfl
include T TD hk
theorem fol_up (p q : Nat) (hpq : p ≠ q) (w : List Bool) (ps : List (List UInt8)) (o : Nat) (ho : o + w.length = ps.length) (ho1 : o ≤ 1) (hl : w.length < 2 ^ 20) (v : Value) (a : Option Addr) (cp : Nat) :
    ∀ (d : Nat) (x y : List UInt8) (g : AHeap) (t : List Value), d ≤ w.length → x.length = 32 → y.length = 32 → Own g 4 1 v w.length (bools w) → (∀ j, blkOf v = some j → j ≠ p ∧ j ≠ q) → DigR C.old g a cp ps → (∀ j, Live (.slice a ps.length cp) j → j ≠ p ∧ j ≠ q) →
    g.lo ≤ p → g.lo ≤ q → g.lo ≤ g.bs.length → g.at p = some (.cells (bytesVals x) 31) → g.at q = some (.cells (bytesVals y) 31) → tg t 2 = .slice a ps.length cp → tg t 7 = v → tg t 11 = iv o → tg t 17 = pre d → tg t 15 = .pointer (some ⟨p, 0, some 0⟩) → tg t 16 = .pointer (some ⟨q, 0, some 0⟩) →
    ∃ g' t', (∀ k, R C r14 (.inLoop lp14_2 :: .inBlock 4 :: k) t [] g = R C r14 k t' [] g') ∧ tg t' 15 = .pointer (some ⟨p, 0, some 0⟩) ∧ tg t' 16 = .pointer (some ⟨q, 0, some 0⟩) ∧ tg t' 3 = tg t 3 ∧ tg t' 4 = tg t 4 ∧ Fr g g' (fun j => j = p ∨ j = q) ∧
      g'.at p = some (.cells (bytesVals (foldP (w.take d).reverse (ps.drop (o + w.length - d)) x y).1) 31) ∧ g'.at q = some (.cells (bytesVals (foldP (w.take d).reverse (ps.drop (o + w.length - d)) x y).2) 31) := by
  intro d
  induction d with
  | zero =>
    intro x y g t hd hx hy H hb P hP hlp hlq hlo hgp hgq t2 t7 t11 t17 t15 t16
    have e : ∃ t', (∀ k, R C r14 (.inLoop lp14_2 :: .inBlock 4 :: k) t [] g = R C r14 k t' [] g) ∧ tg t' 15 = .pointer (some ⟨p, 0, some 0⟩) ∧ tg t' 16 = .pointer (some ⟨q, 0, some 0⟩) ∧ tg t' 3 = tg t 3 ∧ tg t' 4 = tg t 4 := by
      refine ex_step (fun k => R_open lp14_2.eq_1) ?_
      simp [t17, pre_zero_geq, stp_ok pre_und]
      exact ⟨_, fun _ => rfl, by simp [t15], by simp [t16], by simp, by simp⟩
    obtain ⟨t', e, u15, u16, u3, u4⟩ := e
    exact ⟨g, t', e, u15, u16, u3, u4, Fr.refl _ _, by simpa [foldP] using hgp, by simpa [foldP] using hgq⟩
  | succ d ih =>
    intro x y g t hd hx hy H hb P hP hlp hlq hlo hgp hgq t2 t7 t11 t17 t15 t16
    rw [pre_succ] at t17
    have hi : d < w.length := by omega
    have hix : o + w.length - 1 - d < ps.length := by omega
    obtain ⟨a', rfl, rp⟩ := P.get hix
    have lo' := get32 P.2 hix
    have hv0 : ∃ va', v = .slice (some va') w.length 0 := by
      rcases H with ⟨_, h0, _⟩ | ⟨b, g', last, hv, _⟩
      · omega
      · exact ⟨_, hv⟩
    obtain ⟨va', hv'⟩ := hv0
    generalize hZ : ABlock.cells (List.replicate 32 (bv 0)) 31 = Z
    have hZ0 := hZ
    simp [List.replicate] at hZ
    have hz : Value.int .u8 0 = bv 0 := rfl
    generalize hoi : ps.getD (o + w.length - 1 - d) [] = oi at rp lo'
    have rp' : readN C.old g (adda a' ((o + w.length - 1 - d) * 32)) 32 = some (bytesVals oi) := rp
    have fZ : Fr g (g.push Z) (fun _ => False) := Fr.push
    have rpZ : ∀ g2, Fr g g2 (fun j => j = g.bs.length) → True := fun _ _ => trivial
    have PZ := P.fr fZ (fun _ _ h => h)
    obtain ⟨a2, ha2, rpz⟩ := PZ.get hix
    injection ha2 with ha2
    subst ha2
    rw [hoi] at rpz
    have zat : (g.push Z).at g.bs.length = some Z := push_self
    have w0 := lay32 lo' (g.push Z) g.bs.length
    rw [hZ0] at w0
    generalize hg1 : (g.push Z).put g.bs.length (.cells (bytesVals oi) 31) = g1 at w0
    have f1 : Fr g g1 (fun _ => False) := by rw [← hg1]; exact fZ.put' (.inr (Nat.le_refl _))
    have g1o : g1.at g.bs.length = some (.cells (bytesVals oi) 31) := by rw [← hg1]; exact put_self (by simp)
    have g1p : g1.at p = some (.cells (bytesVals x) 31) := f1.get hgp (fun h => h)
    have g1q : g1.at q = some (.cells (bytesVals y) 31) := f1.get hgq (fun h => h)
    have H1 := H.fr f1 (fun _ _ h => h)
    have l1 := f1.lo
    have rb : read1 C.old g1 (adda va' d) = some (.bool w[d]) := by
      rw [hv'] at H1
      rw [own_rd H1 hi]
      simp [bools, hi]
    have ht : w.take (d + 1) = w.take d ++ [w[d]] := by rw [List.take_succ_eq_append_getElem hi]
    have hdp : ps.drop (o + w.length - (d + 1)) = oi :: ps.drop (o + w.length - d) := by
      rw [List.drop_eq_getElem_cons (by omega), ← hoi]
      simp [List.getD_eq_getElem?_getD, hix, show o + w.length - (d + 1) = o + w.length - 1 - d by omega, show o + w.length - 1 - d + 1 = o + w.length - d by omega]
    rw [ht, hdp, List.reverse_append]
    generalize hwi : w[d] = b at rb ht
    have rx : rdN (some (.cells (bytesVals x) 31)) 0 0 32 = some (bytesVals x) := rd32 hx
    have ry : rdN (some (.cells (bytesVals y) 31)) 0 0 32 = some (bytesVals y) := rd32 hy
    have ro : rdN (some (.cells (bytesVals oi) 31)) 0 0 32 = some (bytesVals oi) := rd32 lo'
    have wx : ∀ (g : AHeap) (q : Nat) (x y : List UInt8), x.length = 32 → y.length = 32 → wrN g q (some (.cells (bytesVals x) 31)) 0 0 (bytesVals y) = some (g.put q (.cells (bytesVals y) 31)) := by
      intro g q x y hx hy
      rw [wrN_cells (by simp [hx, hy]) (by simp [bytesVals_eq])]
      congr 3
      simp [splice, hx, hy]
    cases b
    · have e2 := node_spec TD hk g1 y oi hy lo'
      have w1 := wx g1 q y (sha (1 :: (y ++ oi))) hy (sha_length _)
      have e : ∃ t', (∀ k, R C r14 (.inLoop lp14_2 :: .inBlock 4 :: k) t [] g = R C r14 (.inLoop lp14_2 :: .inBlock 4 :: k) t' [] (g1.put q (.cells (bytesVals (sha (1 :: (y ++ oi)))) 31))) ∧ tg t' 2 = .slice (some a') ps.length cp ∧ tg t' 7 = v ∧ tg t' 11 = iv o ∧ tg t' 17 = pre d ∧ tg t' 15 = .pointer (some ⟨p, 0, some 0⟩) ∧ tg t' 16 = .pointer (some ⟨q, 0, some 0⟩) ∧ tg t' 3 = tg t 3 ∧ tg t' 4 = tg t 4 := by
        refine ex_step (fun k => R_open lp14_2.eq_1) ?_
        simp [t2, t7, t11, t15, t16, t17, hv', iv_add (a := o) (b := w.length) (by omega), iv_sub (a := o + w.length) (b := 1) (by omega) (by omega), iv_sub (a := o + w.length - 1) (b := d) (by omega) (by omega), ixS_iv hix, rp', hz, hZ, rpz, writeN_wr, hlo, zat, bytes_ok, lo', w0, ixS_iv hi, rb, g1q, ry, g1o, ro, Dc_ok, e2, hlq, l1, sha_length, w1, iv_pre (n := d) (by omega), stp_ok pre_und]
        exact ⟨_, fun _ => rfl, by simp [t2], by simp [t7, hv'], by simp [t11], by simp, by simp [t15], by simp [t16], by simp, by simp⟩
      obtain ⟨t', e, u2, u7, u11, u17, u15, u16, u3, u4⟩ := e
      have f2 : Fr g (g1.put q (.cells (bytesVals (sha (1 :: (y ++ oi)))) 31)) (fun j => j = p ∨ j = q) := f1.trans (Fr.put (S := fun j => j = q) rfl) (fun _ h => h.elim) (fun _ h _ => .inr h)
      have hq1 := get_lt g1q
      have lle := f1.len
      obtain ⟨g', tt, a1, a2, a3, a4, a5, a6, a7, a8⟩ := ih x (sha (1 :: (y ++ oi))) _ t' (by omega) hx (sha_length _) (H.fr f2 (fun j hj hc => by have := hb j hj; omega)) hb (P.fr f2 (fun j hj hc => by have := hP j hj; omega)) hP (by simp; omega) (by simp; omega) (by simp; omega) (by rw [put_ne (by omega)]; exact g1p) (put_self hq1) u2 u7 u11 u17 u15 u16
      refine ⟨g', tt, fun k => (e k).trans (a1 k), a2, a3, a4.trans u3, a5.trans u4, f2.trans a6 (fun _ h => h) (fun _ h _ => h), ?_, ?_⟩
      · rw [a7]; rfl
      · rw [a8]; rfl
    · have e1 := node_spec TD hk g1 oi x lo' hx
      have e2 := node_spec TD hk g1 oi y lo' hy
      have w1 := wx g1 p x (sha (1 :: (oi ++ x))) hx (sha_length _)
      generalize hg2 : g1.put p (.cells (bytesVals (sha (1 :: (oi ++ x)))) 31) = g2 at w1
      have g2q : g2.at q = some (.cells (bytesVals y) 31) := by rw [← hg2, put_ne hpq]; exact g1q
      have l2 : g2.lo = g1.lo := by rw [← hg2]; rfl
      have w2 := wx g2 q y (sha (1 :: (oi ++ y))) hy (sha_length _)
      have e : ∃ t', (∀ k, R C r14 (.inLoop lp14_2 :: .inBlock 4 :: k) t [] g = R C r14 (.inLoop lp14_2 :: .inBlock 4 :: k) t' [] (g2.put q (.cells (bytesVals (sha (1 :: (oi ++ y)))) 31))) ∧ tg t' 2 = .slice (some a') ps.length cp ∧ tg t' 7 = v ∧ tg t' 11 = iv o ∧ tg t' 17 = pre d ∧ tg t' 15 = .pointer (some ⟨p, 0, some 0⟩) ∧ tg t' 16 = .pointer (some ⟨q, 0, some 0⟩) ∧ tg t' 3 = tg t 3 ∧ tg t' 4 = tg t 4 := by
        refine ex_step (fun k => R_open lp14_2.eq_1) ?_
        simp [t2, t7, t11, t15, t16, t17, hv', iv_add (a := o) (b := w.length) (by omega), iv_sub (a := o + w.length) (b := 1) (by omega) (by omega), iv_sub (a := o + w.length - 1) (b := d) (by omega) (by omega), ixS_iv hix, rp', hz, hZ, rpz, writeN_wr, hlo, zat, bytes_ok, lo', w0, ixS_iv hi, rb, g1p, rx, g1q, ry, g1o, ro, Dc_ok, e1, e2, hlp, hlq, l1, sha_length, w1, l2, g2q, w2, iv_pre (n := d) (by omega), stp_ok pre_und]
        exact ⟨_, fun _ => rfl, by simp [t2], by simp [t7, hv'], by simp [t11], by simp, by simp [t15], by simp [t16], by simp, by simp⟩
      obtain ⟨t', e, u2, u7, u11, u17, u15, u16, u3, u4⟩ := e
      have f2' : Fr g g2 (fun j => j = p ∨ j = q) := by rw [← hg2]; exact f1.trans (Fr.put (S := fun j => j = p) rfl) (fun _ h => h.elim) (fun _ h _ => .inl h)
      have f2 : Fr g (g2.put q (.cells (bytesVals (sha (1 :: (oi ++ y)))) 31)) (fun j => j = p ∨ j = q) := f2'.trans (Fr.put (S := fun j => j = q) rfl) (fun _ h => h) (fun _ h _ => .inr h)
      have hq1 := get_lt g2q
      have hp1 := get_lt g1p
      have lle := f2'.len
      have g2p : g2.at p = some (.cells (bytesVals (sha (1 :: (oi ++ x)))) 31) := by rw [← hg2]; exact put_self hp1
      obtain ⟨g', tt, a1, a2, a3, a4, a5, a6, a7, a8⟩ := ih (sha (1 :: (oi ++ x))) (sha (1 :: (oi ++ y))) _ t' (by omega) (sha_length _) (sha_length _) (H.fr f2 (fun j hj hc => by have := hb j hj; omega)) hb (P.fr f2 (fun j hj hc => by have := hP j hj; omega)) hP (by simp; omega) (by simp; omega) (by simp; omega) (by rw [put_ne (by omega)]; exact g2p) (put_self hq1) u2 u7 u11 u17 u15 u16
      refine ⟨g', tt, fun k => (e k).trans (a1 k), a2, a3, a4.trans u3, a5.trans u4, f2.trans a6 (fun _ h => h) (fun _ h _ => h), ?_, ?_⟩
      · rw [a7]; rfl
      · rw [a8]; rfl
end Go.Ab.Aud

namespace Go.Ab.Aud
open Go.Sha
@[simp] theorem grd_tuple {C : Ctx} {rs : List ARes} {l : Array Value} {w : Bool} {dn : Option Nat} {op : AOp} {u : List Nat} {os : List AOper} {k : List AItem} {t : List Value} {ds : List ADefer} {h : AHeap} :
    grd C rs (.tuple l) w dn op u os k t ds h = R C rs (.ops os :: k) (putD t dn (.tuple #[])) ds h := nr rfl
variable {C : Ctx} (T : Tab_LLog C) (TD : Tab_LDig C) (hk : ∀ j, j < 64 → C.old 0 j = some (wv (kW j)))
include T TD hk
/-- what comes behind the way down -/
theorem fol_tail (g : AHeap) (t : List Value) (bx bY : Nat) (m n : Nat) (oroot root : List UInt8) (ps : List (List UInt8)) (w : List Bool) (v : Value) (a : Option Addr) (cp : Nat) (X Y : ABlock) (ho : oroot.length = 32) (hr : root.length = 32)
    (hw : w.length ≤ 64) (H : Own g 4 1 v w.length (bools w)) (P : DigR C.old g a cp ps) (hwf : g.lo ≤ g.bs.length) (hX : X = .cells (uv m :: bytesVals oroot) 36) (hY : Y = .cells (uv n :: bytesVals root) 36) (g0 : g.at bx = some X) (g1 : g.at bY = some Y)
    (t2 : tg t 2 = .slice a ps.length cp) (t3 : tg t 3 = .pointer (some ⟨bx, 0, some 0⟩)) (t4 : tg t 4 = .pointer (some ⟨bY, 0, some 0⟩)) (t7 : tg t 7 = v) (t11 : tg t 11 = iv (one1 w)) :
    ∃ g', R C r14 [.code k14_1] t [] g = some (iv (if ps.length ≠ one1 w + w.length then 235 else
  if m = 0 then (if oroot ≠ sha [] ∨ (n = 0 ∧ root ≠ sha []) then 236 else 0) else
  if foldP w.reverse (ps.drop (one1 w)) (if one1 w = 1 then ps.getD 0 [] else oroot) (if one1 w = 1 then ps.getD 0 [] else oroot) = (oroot, root) then 0 else 236), g') := by
  have ru : rd1 (some X) 0 0 = some (uv m) := by rw [hX]; rfl
  have ru' : rd1 (some Y) 0 0 = some (uv n) := by rw [hY]; rfl
  have rr : rdN (some X) 1 0 32 = some (bytesVals oroot) := by
    rw [hX, rdN_cells (by simp [ho]), List.drop_succ_cons, List.drop_zero, List.take_of_length_le (by simp [ho])]
  have rr' : rdN (some Y) 1 0 32 = some (bytesVals root) := by
    rw [hY, rdN_cells (by simp [hr]), List.drop_succ_cons, List.drop_zero, List.take_of_length_le (by simp [hr])]
  have h1 : one1 w ≤ 1 := by unfold one1; split <;> omega
  by_cases hlp : ps.length = one1 w + w.length
  · rw [if_neg (by omega)]
    have hlp' := eq_true hlp
    have hz : Value.int .u8 0 = bv 0 := rfl
    generalize hZ : ABlock.cells (List.replicate 32 (bv 0)) 31 = Z
    have hZ0 := hZ
    simp [List.replicate] at hZ
    have e1 := dsum_spec TD hk g [] none 0 0 ⟨rfl, rfl, rfl⟩ (by omega)
    have w0 := lay32 (sha_length []) (g.push Z) g.bs.length
    rw [hZ0] at w0
    generalize hA : (g.push Z).put g.bs.length (.cells (bytesVals (sha [])) 31) = A at w0
    have zat : (g.push Z).at g.bs.length = some Z := push_self
    have fA : Fr g A (fun _ => False) := by rw [← hA]; exact Fr.push.put' (.inr (Nat.le_refl _))
    have An : A.at g.bs.length = some (.cells (bytesVals (sha [])) 31) := by rw [← hA]; exact put_self (by simp)
    have Al : A.bs.length = g.bs.length + 1 := by rw [← hA]; simp
    have Ao := fA.lo
    have A0 : A.at bx = some X := fA.get g0 (fun h => h)
    have A1 : A.at bY = some Y := fA.get g1 (fun h => h)
    have rn : rdN (some (.cells (bytesVals (sha [])) 31)) 0 0 32 = some (bytesVals (sha [])) := rd32 (sha_length [])
    by_cases hm : m = 0
    · rw [if_pos hm]
      have q1 := aeq_dig ho (sha_length [])
      have q2 := aeq_dig hr (sha_length [])
      simp [List.replicate] at q1 q2
      refine ⟨A, ?_⟩
      by_cases c1 : oroot = sha []
      · rw [c1] at rr q1
        by_cases c2 : n = 0
        · by_cases c3 : root = sha []
          · rw [c3] at rr' q2
            simp [k14_1, t2, t3, t4, t7, t11, hlp', stp_ok H.und, H.lenV, iv_add (a := one1 w) (b := w.length) (by omega), Dc_ok, e1, hz, hZ, bytes_ok, sha_length, writeN_wr, hwf, zat, w0, A0, A1, An, ru, ru', rr, rr', rn, q1, q2, hm, c1, c2, c3, r14]
          · simp [k14_1, t2, t3, t4, t7, t11, hlp', stp_ok H.und, H.lenV, iv_add (a := one1 w) (b := w.length) (by omega), Dc_ok, e1, hz, hZ, bytes_ok, sha_length, writeN_wr, hwf, zat, w0, A0, A1, An, ru, ru', rr, rr', rn, q1, q2, hm, c1, c2, c3, r14]
        · simp [k14_1, t2, t3, t4, t7, t11, hlp', stp_ok H.und, H.lenV, iv_add (a := one1 w) (b := w.length) (by omega), Dc_ok, e1, hz, hZ, bytes_ok, sha_length, writeN_wr, hwf, zat, w0, A0, A1, An, ru, ru', rr, rr', rn, q1, q2, hm, c1, c2, r14]
      · simp [k14_1, t2, t3, t4, t7, t11, hlp', stp_ok H.und, H.lenV, iv_add (a := one1 w) (b := w.length) (by omega), Dc_ok, e1, hz, hZ, bytes_ok, sha_length, writeN_wr, hwf, zat, w0, A0, A1, An, ru, ru', rr, rr', rn, q1, q2, hm, c1, r14]
    · rw [if_neg hm]
      generalize hst : (if one1 w = 1 then ps.getD 0 [] else oroot) = st
      have stl : st.length = 32 := by
        rw [← hst]; split
        · exact get32 P.2 (by omega)
        · exact ho
      have wx : ∀ (g : AHeap) (q : Nat) (x y : List UInt8), x.length = 32 → y.length = 32 → wrN g q (some (.cells (bytesVals x) 31)) 0 0 (bytesVals y) = some (g.put q (.cells (bytesVals y) 31)) := by
        intro g q x y hx hy
        rw [wrN_cells (by simp [hx, hy]) (by simp [bytesVals_eq])]
        congr 3
        simp [splice, hx, hy]
      have wz := lay32 ho (A.push Z) A.bs.length
      rw [hZ0] at wz
      have zat2 : (A.push Z).at A.bs.length = some Z := push_self
      generalize hB : (A.push Z).put A.bs.length (.cells (bytesVals oroot) 31) = B at wz
      have Bp : B.at A.bs.length = some (.cells (bytesVals oroot) 31) := by rw [← hB]; exact put_self (by simp)
      have fB : Fr A B (fun _ => False) := by rw [← hB]; exact Fr.push.put' (.inr (Nat.le_refl _))
      have Bl : B.bs.length = A.bs.length + 1 := by rw [← hB]; simp
      have Bo := fB.lo
      have wB := wx B A.bs.length oroot st ho stl
      generalize hD : B.put A.bs.length (.cells (bytesVals st) 31) = E at wB
      have Ep : E.at A.bs.length = some (.cells (bytesVals st) 31) := by rw [← hD]; exact put_self (by omega)
      have fE : Fr A E (fun _ => False) := by rw [← hD]; exact fB.put' (.inr (Nat.le_refl _))
      have El : E.bs.length = A.bs.length + 1 := by rw [← hD]; simpa using Bl
      have Eo := fE.lo
      have rst : rdN (some (.cells (bytesVals st) 31)) 0 0 32 = some (bytesVals st) := rd32 stl
      have zat3 : (E.push Z).at E.bs.length = some Z := push_self
      have w3 := lay32 stl (E.push Z) E.bs.length
      rw [hZ0] at w3
      generalize hG : (E.push Z).put E.bs.length (.cells (bytesVals st) 31) = G at w3
      have Gq : G.at E.bs.length = some (.cells (bytesVals st) 31) := by rw [← hG]; exact put_self (by simp)
      have fG : Fr E G (fun _ => False) := by rw [← hG]; exact Fr.push.put' (.inr (Nat.le_refl _))
      have Gl : G.bs.length = E.bs.length + 1 := by rw [← hG]; simp
      have Go := fG.lo
      have Gp := fG.get Ep (fun h => h)
      have fgG : Fr g G (fun _ => False) := (fA.trans fE (S'' := fun _ => False) (fun _ h => h) (fun _ h _ => h)).trans fG (fun _ h => h) (fun _ h _ => h)
      have G0 := fgG.get g0 (fun h => h)
      have G1 := fgG.get g1 (fun h => h)
      have hAl : g.lo ≤ A.bs.length := by omega
      have hEl : g.lo ≤ E.bs.length := by omega
      have hb1 := get_lt g0
      have hb2 := get_lt g1
      obtain ⟨t', e2, c2, c7, c11, c17, c15, c16, c3, c4⟩ : ∃ t', (R C r14 [.code k14_1] t [] g = R C r14 (.inLoop lp14_2 :: .inBlock 4 :: [.code k14_0]) t' [] G) ∧ tg t' 2 = .slice a ps.length cp ∧ tg t' 7 = v ∧ tg t' 11 = iv (one1 w) ∧ tg t' 17 = pre w.length ∧ tg t' 15 = .pointer (some ⟨A.bs.length, 0, some 0⟩) ∧ tg t' 16 = .pointer (some ⟨E.bs.length, 0, some 0⟩) ∧ tg t' 3 = tg t 3 ∧ tg t' 4 = tg t 4 := by
        by_cases ho1 : one1 w = 1
        · have Pf : DigR C.old B a cp ps := (P.fr fA (fun _ _ h => h)).fr fB (fun _ _ h => h)
          obtain ⟨a', rfl, rp⟩ := Pf.get (i := 0) (by omega)
          rw [if_pos ho1] at hst
          rw [hst] at rp
          simp [k14_1, t2, t3, t4, t7, t11, hlp', stp_ok H.und, H.lenV, iv_add (a := one1 w) (b := w.length) (by omega), Dc_ok, e1, hz, hZ, bytes_ok, sha_length, writeN_wr, hwf, zat, w0, A0, A1, ru, rr, hm, hAl, hEl, Ao, zat2, ho, wz, eq_true ho1, ixS_iv (show 0 < ps.length by omega), rp, stl, Bo, Bp, wB, Ep, rst, Eo, zat3, w3, iv_pre (n := w.length) (by omega), stp_ok pre_und]
          exact ⟨_, rfl, by simp [t2], by simp [t7], by simp [t11], by simp, by simp, by simp, by simp [t3], by simp [t4]⟩
        · rw [if_neg ho1] at hst
          have hEB : E = B := by rw [← hD, ← hst]; rw [← hB, put_put]
          rw [hst] at wz
          simp [k14_1, t2, t3, t4, t7, t11, hlp', stp_ok H.und, H.lenV, iv_add (a := one1 w) (b := w.length) (by omega), Dc_ok, e1, hz, hZ, bytes_ok, sha_length, writeN_wr, hwf, zat, w0, A0, A1, ru, rr, hm, hAl, hEl, Ao, zat2, ho, hst, wz, eq_false ho1, stl, Bo, ← hEB, Ep, rst, Eo, zat3, w3, iv_pre (n := w.length) (by omega), stp_ok pre_und]
          exact ⟨_, rfl, by simp [t2], by simp [t7], by simp [t11], by simp, by simp, by simp, by simp [t3], by simp [t4]⟩
      obtain ⟨g', t2', e3, d15, d16, d3, d4, f3, q1, q2⟩ := fol_up T TD hk A.bs.length E.bs.length (by omega) w ps (one1 w) hlp.symm h1 (by omega) v a cp w.length st st G t' (Nat.le_refl _) stl stl (H.fr fgG (fun _ _ h => h)) (fun j hj => by have := H.blk hj; omega) (P.fr fgG (fun _ _ h => h)) (fun j hj => by have := P.1.live_lt hj; omega) (by omega) (by omega) (by omega) Gp Gq c2 c7 c11 c17 c15 c16
      rw [List.take_length, Nat.add_sub_cancel] at q1 q2
      obtain ⟨fl1, fl2⟩ := foldP_length w.reverse (ps.drop (one1 w)) st st stl stl
      generalize foldP w.reverse (ps.drop (one1 w)) st st = fo at q1 q2 fl1 fl2
      obtain ⟨fa, fb⟩ := fo
      simp only at q1 q2 fl1 fl2
      have s0 : g'.at bx = some X := f3.get G0 (by omega)
      have s1 : g'.at bY = some Y := f3.get G1 (by omega)
      have ra : rdN (some (.cells (bytesVals fa) 31)) 0 0 32 = some (bytesVals fa) := rd32 fl1
      have rb : rdN (some (.cells (bytesVals fb) 31)) 0 0 32 = some (bytesVals fb) := rd32 fl2
      have x1 := aeq_dig fl1 ho
      have x2 := aeq_dig fl2 hr
      simp [List.replicate] at x1 x2
      refine ⟨g', ?_⟩
      rw [e2, e3]
      by_cases y1 : fa = oroot
      · rw [y1] at q1 ra x1
        by_cases y2 : fb = root
        · rw [y2] at q2 rb x2
          simp [k14_0, d15, d16, d3, d4, c3, c4, t3, t4, q1, q2, s0, s1, ra, rb, rr, rr', x1, x2, y1, y2, r14]
        · simp [k14_0, d15, d16, d3, d4, c3, c4, t3, t4, q1, q2, s0, s1, ra, rb, rr, rr', x1, x2, y1, y2, r14]
      · simp [k14_0, d15, d16, d3, d4, c3, c4, t3, t4, q1, q2, s0, s1, ra, rb, rr, rr', x1, x2, y1, r14]
  · rw [if_pos hlp]
    refine ⟨g, ?_⟩
    simp [k14_1, t2, t7, t11, stp_ok H.und, H.lenV, iv_add (a := one1 w) (b := w.length) (by omega), hlp, r14]
set_option maxHeartbeats 2000000 in
theorem foll_spec (h : AHeap) (m n : Nat) (oroot root : List UInt8) (ps : List (List UInt8)) (ho : oroot.length = 32) (hr : root.length = 32) (hm : m < 18446744073709551616) (hn : n < 18446744073709551616) (a : Option Addr) (cp : Nat) (P : DigR C.old h a cp ps) :
    D C 14 [.agg ⟨uv m :: bytesVals oroot⟩, .agg ⟨uv n :: bytesVals root⟩, .slice a ps.length cp] h = some (iv (follF m n oroot root ps), h) := by
  rw [D_fn2 T.h14]
  generalize hh0 : ({ h with lo := h.bs.length } : AHeap) = h0
  have h0lo : h0.lo = h0.bs.length := by rw [← hh0]
  have P0 : DigR C.old h0 a cp ps := by rw [← hh0]; exact ⟨P.1.lo, P.2⟩
  unfold follF
  by_cases hnm : n < m
  all_goals
    generalize hX : ABlock.cells (uv m :: bytesVals oroot) 36 = X
    generalize hY : ABlock.cells (uv n :: bytesVals root) 36 = Y
    generalize hA : (h0.push X).push Y = A
    have aL : A.bs.length = h0.bs.length + 2 := by rw [← hA]; simp
    have aO : A.lo = h0.lo := by rw [← hA]; rfl
    have a0 : A.at h0.bs.length = some X := by rw [← hA]; exact push_old push_self
    have a1 : A.at (h0.bs.length + 1) = some Y := by rw [← hA]; exact push_self' (by simp)
    have fA : Fr h0 A (fun _ => False) := by rw [← hA]; exact Fr.push.push'
    have ru : rd1 (some X) 0 0 = some (uv m) := by rw [← hX]; rfl
    have ru' : rd1 (some Y) 0 0 = some (uv n) := by rw [← hY]; rfl
    have rr : rdN (some X) 1 0 32 = some (bytesVals oroot) := by
      rw [← hX, rdN_cells (by simp [ho]), List.drop_succ_cons, List.drop_zero, List.take_of_length_le (by simp [ho])]
    have rr' : rdN (some Y) 1 0 32 = some (bytesVals root) := by
      rw [← hY, rdN_cells (by simp [hr]), List.drop_succ_cons, List.drop_zero, List.take_of_length_le (by simp [hr])]
  · rw [if_pos hnm]
    simp [b14, bytes_ok, hX, hY, hA, a0, a1, ru, ru', hnm, r14]
  · rw [if_neg hnm]
    obtain ⟨g, v, t1, e1, u7, u2, u3, u4, o1, f1, b1⟩ := fol_down T A.bs.length 64 m n [] (.slice none 0 0) A
      (ts (ts (ts (ts (ts (ts (ts (ts (ts (ts (ts (ts (ts (ts (ts [.agg ⟨uv m :: bytesVals oroot⟩, .agg ⟨uv n :: bytesVals root⟩, .slice a ps.length cp] 3 (.pointer (some ⟨h0.bs.length, 0, some 0⟩))) 4 (.pointer (some ⟨h0.bs.length + 1, 0, some 0⟩))) 6 (iv 0)) 19 (.pointer (some ⟨h0.bs.length, 0, some 0⟩))) 20 (uv m)) 21 (.pointer (some ⟨h0.bs.length + 1, 0, some 0⟩))) 22 (uv n)) 23 (.bool false)) 7 (.slice none 0 0)) 24 (.pointer (some ⟨h0.bs.length, 0, some 0⟩))) 25 (uv m)) 26 (.pointer (some ⟨h0.bs.length + 1, 0, some 0⟩))) 27 (uv n)) 8 (uv m)) 9 (uv n))
      (by omega) (by omega) (by omega) (by omega) .nil (fun j hj => by cases hj) (Nat.le_refl _) (by simp) (by omega) (by simp) (by simp) (by simp)
    simp at u2 u3 u4
    rw [List.nil_append] at o1
    have hdl := mdown_len 64 m n
    generalize hw : mdown 64 m n = w at o1 hdl
    obtain ⟨t2, e2, v11, v7, v2, v3, v4⟩ := fol_scan T w (by omega) v w.length 0 g (ts (ts (ts (ts t1 11 (iv 0)) 53 v) 54 (iv w.length)) 55 (iv 0)) (by omega) o1 (by simp) (by simp) (by simp) (by simp [one1])
    simp [u7, u2, u3, u4] at v7 v2 v3 v4
    have h1 : one1 w ≤ 1 := by unfold one1; split <;> omega
    have lg := f1.len
    have og := f1.lo
    have g0 : g.at h0.bs.length = some X := f1.get a0 (by omega)
    have g1 : g.at (h0.bs.length + 1) = some Y := f1.get a1 (by omega)
    have Pg : DigR C.old g a cp ps := (P0.fr fA (fun _ _ h => h)).fr f1 (fun j hj => by have := P0.1.live_lt hj; omega)
    obtain ⟨g', e3⟩ := fol_tail T TD hk g t2 h0.bs.length (h0.bs.length + 1) m n oroot root ps w v a cp X Y ho hr hdl o1 Pg (by omega) hX.symm hY.symm g0 g1 v2 v3 v4 v7 v11
    have e : R C r14 [.code b14] [.agg ⟨uv m :: bytesVals oroot⟩, .agg ⟨uv n :: bytesVals root⟩, .slice a ps.length cp] [] h0 = R C r14 [.code k14_1] t2 [] g := by
      simp [b14, bytes_ok, hX, hY, hA, a0, a1, ru, ru', hnm]
      rw [e1]
      simp [k14_2, u7, stp_ok o1.und, o1.lenV]
      rw [e2]
    rw [e, e3]
    exact pur_some rfl
end Go.Ab.Aud

namespace Go.Ab.Aud
open Go.Sha
theorem bv_neq {a b : UInt8} : abin .neq (bv a) (bv b) = some (.bool (!decide (a = b))) := by
  have h : (a = b) ↔ (a.toNat : Int) = b.toNat := ⟨fun h => by rw [h], fun h => UInt8.toNat.inj (by omega)⟩
  unfold bv
  simp only [h, abin, abinI, if_true]
  congr 2
  rw [Bool.eq_iff_iff]
  simp
variable {C : Ctx} (T : Tab_LLog C) (TD : Tab_LDig C) (TW : Tab_LLaw C) (hk : ∀ j, j < 64 → C.old 0 j = some (wv (kW j)))
section
include TW
theorem num_spec (h : AHeap) (n : Nat) : D C 11 [iv n] h = some (iv n, h) := by
  rw [D_fn TW.h11]
  simp [b11, r11]
theorem copy_spec (h : AHeap) (l : List UInt8) (a : Option Addr) (n cp : Nat) (hs : SlR C.old h 1 (.slice a n cp) (bytesVals l)) (hn : n < 2 ^ 28) (hwf : h.lo ≤ h.bs.length) :
    ∃ h' v, D C 27 [.slice a n cp] h = some (v, h') ∧ Own h' 5 1 v n (bytesVals l) ∧ Fr h h' (fun _ => False) ∧ (∀ j, blkOf v = some j → h.bs.length ≤ j) := by
  have hlen : l.length = n := by have := hs.len; simpa using this
  obtain ⟨v, h', e, o, f, b⟩ := append_own (old := C.old) (bytes := 1) (x := .slice a n cp) (m := n) (new := bytesVals l) (Own.nil (h := h) (e := 5) (k := 1)) (by omega) rfl
    (fun hn => hs.src hn) (fun h0 => by rw [h0] at hlen; rw [List.eq_nil_of_length_eq_zero hlen]; rfl) (by simp [hlen]) bytes_ok (by simp [sizeLim]; omega) hwf
  rw [Nat.zero_add, List.nil_append] at o
  refine ⟨h', v, ?_, o, f.mono (fun j hj _ => by cases hj), fun j hj => ?_⟩
  · rw [D_fn TW.h27]
    simp [b27, e, stp_ok o.und, r27]
  · rcases b with b | b
    · rw [hj] at b; cases b
    · rw [hj] at b; cases b; omega
end
end Go.Ab.Aud

namespace Go.Ab.Aud
open Go.Sha
/-- a number of bytes, the greatest first -/
def numF (l : List UInt8) : Nat := l.foldl (fun x b => x * 256 + b.toNat) 0
theorem numF_snoc {l : List UInt8} {b : UInt8} : numF (l ++ [b]) = numF l * 256 + b.toNat := by simp [numF]
theorem numF_lt {l : List UInt8} : ∀ {k : Nat}, l.length ≤ k → numF l < 256 ^ k := by
  have : ∀ (n : Nat) (l : List UInt8), l.length = n → numF l < 256 ^ n := by
    intro n
    induction n with
    | zero => intro l h; rw [List.eq_nil_of_length_eq_zero h]; simp [numF]
    | succ n ih =>
      intro l h
      have hi : n < l.length := by omega
      have e : l = l.take n ++ [l[n]] := by rw [← List.take_succ_eq_append_getElem hi, List.take_of_length_le (by omega)]
      rw [e, numF_snoc]
      have h1 := ih (l.take n) (by simp; omega)
      have h2 := (l[n]).toNat_lt
      rw [Nat.pow_succ]
      omega
  intro k hk
  exact Nat.lt_of_lt_of_le (this _ l rfl) (Nat.pow_le_pow_right (by omega) hk)
theorem u64_or {a : Nat} {b : UInt8} (h : a < 2 ^ 56) : abin .or (uv (a * 256)) (uv b.toNat) = some (uv (a * 256 + b.toNat)) := by
  have hb := b.toNat_lt
  unfold uv
  simp only [abin, abinI, if_true]
  congr 2
  have e1 : BitVec.ofInt 64 ((a * 256 : Nat) : Int) = BitVec.ofNat 64 (a * 256) := BitVec.ofInt_natCast ..
  have e2 : BitVec.ofInt 64 ((b.toNat : Nat) : Int) = BitVec.ofNat 64 b.toNat := BitVec.ofInt_natCast ..
  show IntKind.u64.wrap ((BitVec.ofInt 64 _ ||| BitVec.ofInt 64 _).toNat : Int) = _
  rw [e1, e2, BitVec.toNat_or, BitVec.toNat_ofNat, BitVec.toNat_ofNat, Nat.mod_eq_of_lt (by omega), Nat.mod_eq_of_lt (by omega)]
  have e3 : a * 256 ||| b.toNat = a * 256 + b.toNat := by
    have := Nat.two_pow_add_eq_or_of_lt (i := 8) (b := b.toNat) (by omega) a
    rw [Nat.mul_comm a 256]
    exact this.symm
  rw [e3, wrap64u]
  omega
theorem u64_shl8 {a : Nat} (h : a < 2 ^ 56) : abin .shl (uv a) (uv 8) = some (uv (a * 256)) := by
  unfold uv
  simp only [abin, ashift, IntKind.bits]
  rw [if_neg (by omega), wrap64u]
  congr 2
  have : (2 : Int) ^ min ((8 : Nat) : Int).toNat 64 = 256 := rfl
  rw [this]
  omega
variable {C : Ctx} (TO : Tab_LOpen C)
include TO
theorem num_loop (h : AHeap) (l : List UInt8) (a : Option Addr) (cp : Nat) (hs : SlR C.old h 1 (.slice a l.length cp) (bytesVals l)) (hl : l.length ≤ 8) : ∀ (k i : Nat) (t : List Value), i + k = l.length → tg t 3 = uv (numF (l.take i)) → tg t 6 = .slice a l.length cp → tg t 7 = iv l.length → tg t 8 = iv i →
    ∃ t', (∀ K, R C r217 (.inLoop lp217_0 :: .inBlock 0 :: K) t [] h = R C r217 K t' [] h) ∧ tg t' 3 = uv (numF l) := by
  intro k
  induction k with
  | zero =>
    intro i t hi t3 t6 t7 t8
    obtain rfl : i = l.length := by omega
    rw [List.take_length] at t3
    refine ex_step (fun k => R_open lp217_0.eq_1) ?_
    simp [t7, t8]
    exact ⟨_, fun _ => rfl, by simp [t3]⟩
  | succ k ih =>
    intro i t hi t3 t6 t7 t8
    have hi2 : i < l.length := by omega
    obtain ⟨a', rfl⟩ := hs.ex (by omega)
    have rd : read1 C.old h (adda a' i) = some (bv l[i]) := by
      have := readN_read1 (hs.read (by omega)) (i := i) (by omega)
      rw [this, bytes_get, List.getElem?_eq_getElem hi2]; rfl
    have hk : numF (l.take (i + 1)) = numF (l.take i) * 256 + (l[i]).toNat := by
      rw [List.take_add_one, List.getElem?_eq_getElem hi2]
      exact numF_snoc
    have hb : numF (l.take i) < 2 ^ 56 := by
      have := numF_lt (l := l.take i) (k := 7) (by simp; omega)
      exact this
    generalize numF (l.take i) = x at t3 hk hb
    have e1 := u64_shl8 hb
    have e2 := u64_or (b := l[i]) hb
    obtain ⟨t', e, u3, u6, u7, u8⟩ : ∃ t', (∀ K, R C r217 (.inLoop lp217_0 :: .inBlock 0 :: K) t [] h = R C r217 (.inLoop lp217_0 :: .inBlock 0 :: K) t' [] h) ∧ tg t' 3 = uv (x * 256 + (l[i]).toNat) ∧ tg t' 6 = .slice (some a') l.length cp ∧ tg t' 7 = iv l.length ∧ tg t' 8 = iv (i + 1) := by
      refine ex_step (fun k => R_open lp217_0.eq_1) ?_
      simp [t3, t6, t7, t8, hi2, ixS_iv hi2, rd, e1, e2, cvt_bu, iv_add (a := i) (b := 1) (by omega)]
      exact ⟨_, fun _ => rfl, by simp, by simp [t6], by simp [t7], by simp⟩
    obtain ⟨t2, e3, w3⟩ := ih (i + 1) t' (by omega) (by rw [u3, hk]) u6 u7 u8
    exact ⟨t2, fun K => (e K).trans (e3 K), w3⟩
theorem rnum_spec (h : AHeap) (l : List UInt8) (a : Option Addr) (cp : Nat) (hs : SlR C.old h 1 (.slice a l.length cp) (bytesVals l)) (hl : l.length ≤ 8) : D C 217 [.slice a l.length cp] h = some (uv (numF l), h) := by
  rw [D_fn2 TO.h217]
  replace hs := hs.lo (x := h.bs.length)
  generalize ({ h with lo := h.bs.length } : AHeap) = h0 at hs ⊢
  suffices hR : R C r217 [.code b217] [.slice a l.length cp] [] h0 = some (uv (numF l), h0) by rw [hR]; exact pur_some rfl
  have hz : Value.int .u64 0 = uv 0 := rfl
  obtain ⟨t, e, t3, t6, t7, t8⟩ : ∃ t, R C r217 [.code b217] [.slice a l.length cp] [] h0 = R C r217 (.inLoop lp217_0 :: .inBlock 0 :: [.code k217_0]) t [] h0 ∧ tg t 3 = uv (numF (l.take 0)) ∧ tg t 6 = .slice a l.length cp ∧ tg t 7 = iv l.length ∧ tg t 8 = iv 0 := by
    simp [b217]
    exact ⟨_, rfl, by simp; rfl, by simp, by simp, by simp⟩
  obtain ⟨t2, e2, w3⟩ := num_loop TO h0 l a cp hs hl l.length 0 t (by omega) t3 t6 t7 t8
  rw [e, e2]
  simp [k217_0, w3, r217]
end Go.Ab.Aud
