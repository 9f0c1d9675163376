/-
  Steps of the proof of AuditFullCardSaid: what functions of the program do in the abstract machine, and the laws between; no condition beside those that each theorem names.
-/
import Derived.Test.YtecbgdnoblhldaaDoorAuB
import Derived.Test.YtecbgdnoblhldaaDoorLit

set_option linter.unusedSimpArgs false
set_option linter.unusedVariables false
set_option linter.unusedSectionVars false

namespace Go.Ab.Aud
open Go.Sha
/-- bytes that were given, in memory that nothing writes -/
def ArgB (old : Old) (v : Value) (l : List UInt8) : Prop := ∃ a cp, v = .slice a l.length cp ∧ (∀ h, SlR old h 1 (.slice a l.length cp) (bytesVals l)) ∧ ∀ j, ¬ Live (.slice a l.length cp) j
/-- rows that were given -/
def ArgR (old : Old) (v : Value) (rows : List (List UInt8)) : Prop :=
  ∃ a cp vs, v = .slice a rows.length cp ∧ (∀ h, SlR old h 1 (.slice a rows.length cp) vs) ∧ (∀ j, ¬ Live (.slice a rows.length cp) j) ∧ ∀ i, i < rows.length → ∃ x, vs[i]? = some x ∧ ArgB old x (rows.getD i [])
theorem ArgR.get {old : Old} {v : Value} {rows : List (List UInt8)} (H : ArgR old v rows) {i : Nat} (hi : i < rows.length) : ∃ a' cp' a cp, v = .slice (some a') rows.length cp' ∧ (∀ h, read1 old h (adda a' i) = some (.slice a (rows.getD i []).length cp)) ∧ (∀ h, SlR old h 1 (.slice a (rows.getD i []).length cp) (bytesVals (rows.getD i []))) ∧ ∀ j, ¬ Live (.slice a (rows.getD i []).length cp) j := by
  obtain ⟨a, cp, vs, h1, h2, h3, h4⟩ := H
  obtain ⟨a', rfl⟩ := (h2 ⟨[], 0⟩).ex (by omega)
  obtain ⟨x, hx, b, cpb, h5, h6, h7⟩ := h4 i hi
  refine ⟨a', cp, b, cpb, h1, fun h => ?_, h6, h7⟩
  have := readN_read1 ((h2 h).read (by omega)) (i := i) (by omega)
  rw [this, hx, h5]
theorem ArgB.und {old : Old} {v : Value} {l : List UInt8} (H : ArgB old v l) : isUnd v = false := by obtain ⟨a, cp, rfl, _⟩ := H; rfl
theorem LogAt.olt {h : AHeap} {O : Nat → Prop} {p d room wr : Nat} {name content : List UInt8} {leaves : List (List UInt8)} (H : LogAt h O p d name content leaves room wr) : ∀ j, O j → j < h.bs.length := by
  obtain ⟨w, m, fp, fw, fz, keep, o, c, es, ls, H⟩ := H
  exact H.olt
def lh (r : List UInt8) : List UInt8 := sha (0 :: r)
variable {C : Ctx} (T : Tab_LLog C) (TD : Tab_LDig C) (TW : Tab_LLaw C) (hk : ∀ j, j < 64 → C.old 1 j = some (wv (kW j))) (hp : ∀ j, j < 16 → C.old 0 j = some (wv (crcW j)))
include T TD TW hk hp
end Go.Ab.Aud

namespace Go.Ab.Aud
open Go.Sha
variable {C : Ctx} (T : Tab_LLog C) (TD : Tab_LDig C) (hk : ∀ j, j < 64 → C.old 1 j = some (wv (kW j)))
include T TD hk
set_option maxHeartbeats 4000000 in
theorem aopen_round (h1 : AHeap) (q w : Nat) (vo : Value) (rows : List (List UInt8)) (RW : RowsW h1 q w vo rows) (g : AHeap) (t : List Value) (i : Nat) (ls : Value) (hi : i < rows.length) (hrl : rows.length ≤ 65536) (hr : (rows.getD i []).length ≤ 16384) (f : Fr h1 g (fun j => h1.bs.length ≤ j))
    (ap : g.at h1.bs.length = some (.cells (lc 0 w vo ls 0) 73)) (L : Own g 29 32 ls i (leafCells ((rows.take i).map lh))) (bl : ∀ j, blkOf ls = some j → h1.bs.length < j) (wf : h1.lo ≤ h1.bs.length)
    (t9 : tg t 9 = .pointer (some ⟨h1.bs.length, 0, some 0⟩)) (t37 : tg t 37 = vo) (t38 : tg t 38 = Go.Ab.iv rows.length) (t39 : tg t 39 = Go.Ab.iv i) :
    ∃ g' t' ls', (∀ K, R C r11 (.inLoop lp11_0 :: K) t [] g = R C r11 (.inLoop lp11_0 :: K) t' [] g') ∧ Fr h1 g' (fun j => h1.bs.length ≤ j) ∧ g'.at h1.bs.length = some (.cells (lc 0 w vo ls' 0) 73) ∧ Own g' 29 32 ls' (i + 1) (leafCells ((rows.take (i + 1)).map lh)) ∧ (∀ j, blkOf ls' = some j → h1.bs.length < j) ∧
      tg t' 9 = tg t 9 ∧ tg t' 37 = vo ∧ tg t' 38 = tg t 38 ∧ tg t' 39 = Go.Ab.iv (i + 1) := by
  obtain ⟨vs, o, gx⟩ := RW
  obtain ⟨x, hx, ox, _⟩ := gx i hi
  have og := o.fr f (fun j hj hc => by have := o.blk hj; omega)
  have oxg := ox.fr f (fun j hj hc => by have := ox.blk hj; omega)
  obtain ⟨a, cp, hv⟩ := og.slice
  have sl := og.sl (old := C.old) (by omega)
  rw [hv] at sl
  obtain ⟨a', rfl⟩ := sl.ex (by omega)
  have rd : read1 C.old g (adda a' i) = some x := by
    have := readN_read1 (sl.read (by omega)) (i := i) (by omega)
    rw [this, hx]
  obtain ⟨ax, cpx, hxs⟩ := oxg.slice
  have sx := oxg.sl (old := C.old) (by omega)
  rw [hxs] at sx
  have e1 := leaf_spec TD hk g (rows.getD i []) ax _ cpx sx (by omega)
  have hml : ((rows.take i).map lh).length = i := by simp; omega
  have h32 : ∀ y, y ∈ (rows.take i).map lh → y.length = 32 := fun y hy => by
    obtain ⟨z, _, hz⟩ := List.mem_map.1 hy
    rw [← hz]; exact sha_length _
  have fl := f.len
  have fo := f.lo
  obtain ⟨v', h4, e4, D4, f4, b4⟩ := dig_append (old := C.old) (h := g) (v := ls) (x := sha (0 :: rows.getD i [])) ⟨by rw [hml]; exact L, h32⟩ (sha_length _) (by omega) (by omega)
  have u4 : isUnd v' = false := D4.1.und
  have k4 : okCell v' = true := D4.1.okc
  have ap4 := f4.get ap (fun hc => by have := bl _ hc; omega)
  have l4 := f4.len
  have lo4 := f4.lo
  generalize h5e : h4.put h1.bs.length (.cells (lc 0 w vo v' 0) 73) = h5
  have f5 : Fr h4 h5 (fun j => j = h1.bs.length) := by rw [← h5e]; exact Fr.put rfl
  have hsl : (lc 0 w vo ls 0).set 4 v' = lc 0 w vo v' 0 := rfl
  have hw6 : (lc 0 w vo ls 0).length = 6 := rfl
  have w1 : ∀ G, wr1 G h1.bs.length (some (.cells (lc 0 w vo ls 0) 73)) 4 0 v' = some (G.put h1.bs.length (.cells (lc 0 w vo v' 0) 73)) := fun G => by
    rw [wr1_cells (by rw [hw6]; omega) k4, hsl]
  have q4 : rd1 (some (.cells (lc 0 w vo ls 0) 73)) 4 0 = some ls := rfl
  have uls := L.und
  have bl4 : ∀ j, blkOf v' = some j → h1.bs.length < j := fun j hj => by
    rcases b4 with b4 | ⟨j', b4, hb⟩
    · rw [b4] at hj; exact bl j hj
    · rw [b4] at hj; cases hj
      have := get_lt ap
      omega
  have hsum : (rows.take (i + 1)).map lh = (rows.take i).map lh ++ [sha (0 :: rows.getD i [])] := by
    rw [List.take_add_one, List.getElem?_eq_getElem hi, List.map_append]
    simp [lh, List.getD_eq_getElem?_getD, hi]
  have D5 := D4.1.fr f5 (fun j hj hc => by have := bl4 j hj; omega)
  rw [List.length_append, hml, ← hsum] at D5
  have f15 : Fr h1 h5 (fun j => h1.bs.length ≤ j) := (f.trans f4 (fun _ h => h) (fun j hj _ => by have := bl j hj; omega)).trans f5 (fun _ h => h) (fun j hj _ => by omega)
  subst hv hxs
  generalize rows.getD i [] = r at *
  obtain ⟨t', e, u9, u37, u38, u39⟩ : ∃ t', (∀ K, R C r11 (.inLoop lp11_0 :: K) t [] g = R C r11 (.inLoop lp11_0 :: K) t' [] h5) ∧ tg t' 9 = tg t 9 ∧ tg t' 37 = tg t 37 ∧ tg t' 38 = tg t 38 ∧ tg t' 39 = Go.Ab.iv (i + 1) := by
    have hok : (bytesVals (sha (0 :: r))).all okCell = true := bytes_ok
    simp only [List.all_eq_true] at hok
    have apP : (g.push (.cells (bytesVals (sha (0 :: r))) 30)).at h1.bs.length = some (.cells (lc 0 w (.slice (some a') rows.length cp) ls 0) 73) := push_old ap
    refine ex_step (fun k => R_open lp11_0.eq_1) ?_
    simp [eq_true hok, apP, t9, t37, t38, t39, hi, ixS_iv hi, rd, show ¬ 16384 < r.length by omega, ap, q4, stp_ok uls, uls, Dc_ok, e1, fillCells, splice, sha_length, e4, stp_ok u4, u4, ap4, write1_wr, w1, h5e, lo4, fo, wf, iv_add (a := i) (b := 1) (by omega)]
    exact ⟨_, fun _ => rfl, by simp [t9], by simp [t37], by simp [t38], by simp⟩
  exact ⟨h5, t', v', e, f15, by rw [← h5e]; exact put_self (get_lt ap4), D5, bl4, u9, u37.trans t37, u38, u39⟩
theorem aopen_loop (h1 : AHeap) (q w : Nat) (vo : Value) (rows : List (List UInt8)) (RW : RowsW h1 q w vo rows) (hrl : rows.length ≤ 65536) (hr : ∀ i, i < rows.length → (rows.getD i []).length ≤ 16384) (wf : h1.lo ≤ h1.bs.length) : ∀ (k i : Nat) (g : AHeap) (t : List Value) (ls : Value), i + k = rows.length → Fr h1 g (fun j => h1.bs.length ≤ j) →
    g.at h1.bs.length = some (.cells (lc 0 w vo ls 0) 73) → Own g 29 32 ls i (leafCells ((rows.take i).map lh)) → (∀ j, blkOf ls = some j → h1.bs.length < j) →
    tg t 9 = .pointer (some ⟨h1.bs.length, 0, some 0⟩) → tg t 37 = vo → tg t 38 = Go.Ab.iv rows.length → tg t 39 = Go.Ab.iv i →
    ∃ g' t' ls', (∀ K, R C r11 (.inLoop lp11_0 :: .inBlock 0 :: K) t [] g = R C r11 K t' [] g') ∧ Fr h1 g' (fun j => h1.bs.length ≤ j) ∧ g'.at h1.bs.length = some (.cells (lc 0 w vo ls' 0) 73) ∧ Own g' 29 32 ls' rows.length (leafCells (rows.map lh)) ∧ (∀ j, blkOf ls' = some j → h1.bs.length < j) ∧ tg t' 9 = .pointer (some ⟨h1.bs.length, 0, some 0⟩) := by
  intro k
  induction k with
  | zero =>
    intro i g t ls hi f ap L bl t9 t37 t38 t39
    obtain rfl : i = rows.length := by omega
    rw [List.take_length] at L
    obtain ⟨t', e, u9⟩ : ∃ t', (∀ K, R C r11 (.inLoop lp11_0 :: .inBlock 0 :: K) t [] g = R C r11 K t' [] g) ∧ tg t' 9 = tg t 9 := by
      refine ex_step (fun k => R_open lp11_0.eq_1) ?_
      simp [t38, t39]
      exact ⟨_, fun _ => rfl, by simp⟩
    exact ⟨g, t', ls, e, f, ap, L, bl, u9.trans t9⟩
  | succ k ih =>
    intro i g t ls hi f ap L bl t9 t37 t38 t39
    obtain ⟨g1, t1, ls1, e1, f1, ap1, L1, bl1, u9, u37, u38, u39⟩ := aopen_round T TD hk h1 q w vo rows RW g t i ls (by omega) hrl (hr i (by omega)) f ap L bl wf t9 t37 t38 t39
    obtain ⟨g2, t2, ls2, e2, h2⟩ := ih (i + 1) g1 t1 ls1 (by omega) f1 ap1 L1 bl1 (u9.trans t9) u37 (u38.trans t38) u39
    exact ⟨g2, t2, ls2, fun K => (e1 _).trans (e2 K), h2⟩
end Go.Ab.Aud

namespace Go.Ab.Aud
open Go.Sha
variable {C : Ctx} (T : Tab_LLog C) (TD : Tab_LDig C) (TO : Tab_LOpen C) (hk : ∀ j, j < 64 → C.old 1 j = some (wv (kW j))) (hp : ∀ j, j < 16 → C.old 0 j = some (wv (crcW j)))
include T TD TO hk hp
set_option maxHeartbeats 4000000 in
/-- audit.Open over a file of records -/
theorem audit_open (h : AHeap) (d m fz room wr c : Nat) (keep : Value) (name : List UInt8) (rows : List (List UInt8)) (o : Option (Value × Nat)) (ho : o.isSome = true) (dk : DiskIs h d m fz room ((rows.map frame).flatten).length wr keep name o c ((rows.map frame).flatten)) (hn : ((rows.map frame).flatten).length < 2 ^ 38) (hr : ∀ r, r ∈ rows → r.length ≤ 16384) (hl : rows.length ≤ 65536) (wf : h.lo ≤ h.bs.length)
    (hN : ∀ h, D C 46 [str name] h = some (.bool true, h)) :
    ∃ h' p, D C 11 [.pointer (some ⟨d, 0, some 0⟩), str name] h = some (.tuple #[.pointer (some ⟨p, 0, some 0⟩), Go.Ab.iv 0], h') ∧ h.bs.length ≤ p ∧ Fr h h' (fun _ => False) ∧
      ∃ O, LogAt h' O p d name ((rows.map frame).flatten) (rows.map lh) room wr ∧ ∀ j, O j → j = d ∨ j = m ∨ blkOf (fvOf o) = some j ∨ h.bs.length ≤ j := by
  obtain ⟨h1, w, vo, e1, RW, aw, hw, f1, bo⟩ := wal_open T TO hp h d m fz room _ wr c keep name rows o ho dk hn (fun r h => by have := hr r h; omega) (by omega) wf hN
  have l1 := f1.len
  have o1 := f1.lo
  have uo : isUnd vo = false := by obtain ⟨vs, o, _⟩ := RW; exact o.und
  have ov : okCell vo = true := by obtain ⟨vs, o, _⟩ := RW; exact o.okc
  have lv : lenV vo = some (Go.Ab.iv rows.length) := by obtain ⟨vs, o, _⟩ := RW; exact o.lenV
  generalize hh2 : h1.push (.cells (lc 0 w vo (.slice none 0 0) 0) 73) = h2
  have f2 : Fr h1 h2 (fun j => h1.bs.length ≤ j) := by rw [← hh2]; exact Fr.push
  have p2 : h2.at h1.bs.length = some (.cells (lc 0 w vo (.slice none 0 0) 0) 73) := by rw [← hh2]; exact push_self
  obtain ⟨t, e, t9, t37, t38, t39⟩ : ∃ t, R C r11 [.code b11] [.pointer (some ⟨d, 0, some 0⟩), str name] [] h = R C r11 (.inLoop lp11_0 :: .inBlock 0 :: [.code k11_0]) t [] h2 ∧ tg t 9 = .pointer (some ⟨h1.bs.length, 0, some 0⟩) ∧ tg t 37 = vo ∧ tg t 38 = Go.Ab.iv rows.length ∧ tg t 39 = Go.Ab.iv 0 := by
    have z1 : splice (splice [Value.int .i32 0, Value.int .u32 0, Value.pointer none, Value.slice none 0 0, Value.slice none 0 0, Go.Ab.iv 0] 2 [.pointer (some ⟨w, 0, some 0⟩)]) 3 [vo] = lc 0 w vo (.slice none 0 0) 0 := rfl
    have z2 : (splice [Value.int .i32 0, Value.int .u32 0, Value.pointer none, Value.slice none 0 0, Value.slice none 0 0, Go.Ab.iv 0] 2 [.pointer (some ⟨w, 0, some 0⟩)]).length = 6 := rfl
    have z3 : (lc 0 w vo (.slice none 0 0) 0).all okCell = true := by simp [lc, ov]
    simp only [List.all_eq_true] at z3
    have c8 : cellsOf vo = [vo] := by obtain ⟨vs, o, _⟩ := RW; obtain ⟨a, cp, h⟩ := o.slice; rw [h]; rfl
    have po : partOk vo = true := by obtain ⟨vs, o, _⟩ := RW; obtain ⟨a, cp, h⟩ := o.slice; rw [h]; rfl
    simp [b11, po, Dc_ok, e1, stp_ok uo, uo, lv, show ¬ 65536 < rows.length by omega, fillCells, c8, z1, z2, eq_true z3, hh2]
    exact ⟨_, rfl, by simp, by simp, by simp, by simp⟩
  obtain ⟨g, t', ls, e2, f3, ap, L, bl, u9⟩ := aopen_loop T TD hk h1 h.bs.length w vo rows RW hl (fun i hi => hr _ (by rw [List.getD_eq_getElem?_getD, List.getElem?_eq_getElem hi]; exact List.getElem_mem hi)) (by omega) rows.length 0 h2 t (.slice none 0 0) (by omega) f2 p2 .nil (fun j hj => by cases hj) t9 t37 t38 t39
  have f13 : Fr h g (fun _ => False) := f1.trans f3 (fun _ h => h) (fun j hj hl => by omega)
  have lg := f13.len
  have og := f13.lo
  have hwl := get_lt aw
  have hpl := get_lt ap
  have hml : (rows.map lh).length = rows.length := by simp
  have hdl := get_lt dk.hd
  have hmm := get_lt dk.hm
  have hfb := fun j (hj : blkOf (fvOf o) = some j) => dk.ho.blk hj
  obtain ⟨vs, oo', _⟩ := RW
  have hvb := fun j (hj : blkOf vo = some j) => oo'.blk hj
  have aw3 := f3.get aw (by omega)
  have dk3 := dk.fr f13 (fun h => h) (fun h => h) (fun _ _ h => h)
  have og3 := oo'.fr f3 (fun j hj hc => by have := hvb j hj; omega)
  have hlb := fun j (hj : blkOf ls = some j) => L.blk hj
  refine ⟨g, h1.bs.length, ?_, l1, f13, fun j => j = d ∨ j = m ∨ blkOf (fvOf o) = some j ∨ (h.bs.length ≤ j ∧ j < g.bs.length), ⟨w, m, 72, 96, fz, keep, o, c, vo, ls, ?_⟩, fun j hj => ?_⟩
  · rw [D_fn T.h11, e, e2]
    simp [k11_0, u9, r11]
  · exact {
      hp := ap
      hw := aw3
      dk := dk3
      eo := ⟨vs, by rw [hml]; exact og3⟩
      lo := by rw [hml]; exact L
      l32 := fun x hx => by
        obtain ⟨z, _, hz⟩ := List.mem_map.1 hx
        rw [← hz]; exact sha_length _
      lop := by omega
      low := by omega
      ne := ⟨by omega, by omega, by omega, by omega, by omega⟩
      be := fun j hj => by
        have h1' := bo j hj
        have h2' := hvb j hj
        refine ⟨by omega, h1'.2, by omega, by omega, fun hc => by have := bl j hc; omega, fun hc => by have := hfb j hc; omega, .inr (.inr (.inr ⟨h1'.1, by omega⟩))⟩
      bl := fun j hj => by
        have h1' := bl j hj
        have h2' := hlb j hj
        refine ⟨by omega, by omega, by omega, by omega, fun hc => by have := hvb j hc; omega, fun hc => by have := hfb j hc; omega, .inr (.inr (.inr ⟨by omega, h2'⟩))⟩
      bf := fun j hj => by
        have h2' := hfb j hj
        refine ⟨by omega, by omega, fun hc => dk.bd (by rw [hj, hc]), fun hc => dk.bm (by rw [hj, hc]), fun hc => by have := bo j hc; omega, fun hc => by have := bl j hc; omega, .inr (.inr (.inl hj))⟩
      op := ⟨.inr (.inr (.inr ⟨l1, hpl⟩)), .inr (.inr (.inr ⟨hw, by omega⟩)), .inl rfl, .inr (.inl rfl)⟩
      olt := fun j hj => by
        rcases hj with rfl | rfl | hj | hj
        · omega
        · omega
        · have := hfb j hj; omega
        · exact hj.2 }
  · rcases hj with h1 | h1 | h1 | h1
    · exact .inl h1
    · exact .inr (.inl h1)
    · exact .inr (.inr (.inl h1))
    · exact .inr (.inr (.inr h1.1))
end Go.Ab.Aud

namespace Go.Ab.Aud
open Go.Sha
variable {C : Ctx} (T : Tab_LLog C)
section
variable (h : AHeap) (O : Nat → Prop) (p d room wr : Nat) (name content : List UInt8) (leaves : List (List UInt8)) (H : LogAt h O p d name content leaves room wr)
include T H
theorem full_spec (a : Option Addr) (n cp : Nat) (hn : n ≤ 16384) (hl : leaves.length = 65536) : D C 12 [.pointer (some ⟨p, 0, some 0⟩), .slice a n cp] h = some (.tuple #[uv 0, Go.Ab.iv 232], h) := by
  obtain ⟨w, m, fp, fw, fz, keep, o, c, es, ls, H⟩ := H
  have hpl := get_lt H.hp
  have e1 := lock_spec T h p 0 fp _ H.hp lc0 H.lop
  rw [lcs0] at e1
  generalize hh1 : h.put p (.cells (lc 1 w es ls 0) (fp + 1)) = h1 at e1
  have f1 : Fr h h1 (fun j => j = p) := by rw [← hh1]; exact Fr.put rfl
  have p1 : h1.at p = some (.cells (lc 1 w es ls 0) (fp + 1)) := by rw [← hh1]; exact put_self hpl
  have e3 := unlock_spec T h1 p 0 fp _ p1 lc0 (by rw [f1.lo]; exact H.lop)
  rw [lcs0, ← hh1, put_put, put_eq H.hp, hh1] at e3
  obtain ⟨ec, eo⟩ := H.eo
  have ue := eo.und
  have le := eo.lenV
  have q3 : rd1 (some (.cells (lc 1 w es ls 0) (fp + 1))) 3 0 = some es := rfl
  have q5 : rd1 (some (.cells (lc 1 w es ls 0) (fp + 1))) 5 0 = some (Go.Ab.iv 0) := rfl
  rw [D_fn T.h12]
  simp [b12, Dc_ok, e1, dfrS_ok T.h28, p1, q3, q5, show ¬ 16384 < n by omega, stp_ok ue, ue, le, hl, e3, r12]
theorem err_spec : D C 16 [.pointer (some ⟨p, 0, some 0⟩)] h = some (Go.Ab.iv 0, h) := by
  obtain ⟨w, m, fp, fw, fz, keep, o, c, es, ls, H⟩ := H
  have hpl := get_lt H.hp
  have e1 := lock_spec T h p 0 fp _ H.hp lc0 H.lop
  rw [lcs0] at e1
  generalize hh1 : h.put p (.cells (lc 1 w es ls 0) (fp + 1)) = h1 at e1
  have f1 : Fr h h1 (fun j => j = p) := by rw [← hh1]; exact Fr.put rfl
  have p1 : h1.at p = some (.cells (lc 1 w es ls 0) (fp + 1)) := by rw [← hh1]; exact put_self hpl
  have e3 := unlock_spec T h1 p 0 fp _ p1 lc0 (by rw [f1.lo]; exact H.lop)
  rw [lcs0, ← hh1, put_put, put_eq H.hp, hh1] at e3
  have q5 : rd1 (some (.cells (lc 1 w es ls 0) (fp + 1))) 5 0 = some (Go.Ab.iv 0) := rfl
  rw [D_fn T.h16]
  simp [b16, Dc_ok, e1, dfrS_ok T.h28, p1, q5, e3, r16]
theorem len_spec (hl : leaves.length < 2 ^ 40) : D C 17 [.pointer (some ⟨p, 0, some 0⟩)] h = some (uv leaves.length, h) := by
  obtain ⟨w, m, fp, fw, fz, keep, o, c, es, ls, H⟩ := H
  have hpl := get_lt H.hp
  have e1 := lock_spec T h p 0 fp _ H.hp lc0 H.lop
  rw [lcs0] at e1
  generalize hh1 : h.put p (.cells (lc 1 w es ls 0) (fp + 1)) = h1 at e1
  have f1 : Fr h h1 (fun j => j = p) := by rw [← hh1]; exact Fr.put rfl
  have p1 : h1.at p = some (.cells (lc 1 w es ls 0) (fp + 1)) := by rw [← hh1]; exact put_self hpl
  have e3 := unlock_spec T h1 p 0 fp _ p1 lc0 (by rw [f1.lo]; exact H.lop)
  rw [lcs0, ← hh1, put_put, put_eq H.hp, hh1] at e3
  obtain ⟨ec, eo⟩ := H.eo
  have ue := eo.und
  have le := eo.lenV
  have q3 : rd1 (some (.cells (lc 1 w es ls 0) (fp + 1))) 3 0 = some es := rfl
  rw [D_fn T.h17]
  simp [b17, Dc_ok, e1, dfrS_ok T.h28, p1, q3, stp_ok ue, ue, le, cvt_iu (show leaves.length < 18446744073709551616 by omega), e3, r17]
end
end Go.Ab.Aud

namespace Go.Ab.Aud
open Go.Sha
variable {C : Ctx} (T : Tab_LLog C) (TO : Tab_LOpen C) (hp : ∀ j, j < 16 → C.old 0 j = some (wv (crcW j)))
include T TO hp
/-- audit.Open over more records than may be -/
theorem audit_open_many (h : AHeap) (d m fz room used wr c : Nat) (keep : Value) (name : List UInt8) (rows : List (List UInt8)) (o : Option (Value × Nat)) (ho : o.isSome = true) (dk : DiskIs h d m fz room used wr keep name o c ((rows.map frame).flatten)) (hn : ((rows.map frame).flatten).length < 2 ^ 38) (hr : ∀ r, r ∈ rows → r.length ≤ 16777216) (hl : rows.length < 2 ^ 30) (hm : 65536 < rows.length) (wf : h.lo ≤ h.bs.length)
    (hN : ∀ h, D C 46 [str name] h = some (.bool true, h)) :
    ∃ h', D C 11 [.pointer (some ⟨d, 0, some 0⟩), str name] h = some (.tuple #[.pointer none, Go.Ab.iv 233], h') ∧ Fr h h' (fun _ => False) := by
  obtain ⟨h1, w, vo, e1, RW, aw, hw, f1, bo⟩ := wal_open T TO hp h d m fz room used wr c keep name rows o ho dk hn hr hl wf hN
  have uo : isUnd vo = false := by obtain ⟨vs, o, _⟩ := RW; exact o.und
  have lv : lenV vo = some (Go.Ab.iv rows.length) := by obtain ⟨vs, o, _⟩ := RW; exact o.lenV
  refine ⟨h1, ?_, f1⟩
  rw [D_fn T.h11]
  simp [b11, Dc_ok, e1, stp_ok uo, uo, lv, hm, r11]
end Go.Ab.Aud

namespace Go.Ab.Aud
open Go.Sha
/-- the way up, with all nodes: what each was made of, and it -/
def climbF : Nat → Nat → Nat → List UInt8 → List (List UInt8) → List (List UInt8 × List UInt8) × List UInt8
  | 0, _, _, leaf, _ => ([], leaf)
  | f + 1, n, size, leaf, path => if size ≤ 1 ∨ path.length = 0 then ([], leaf) else
      if n < lft size then
        ((climbF f n (lft size) leaf (path.take (path.length - 1))).1 ++ [(1 :: ((climbF f n (lft size) leaf (path.take (path.length - 1))).2 ++ path.getD (path.length - 1) []), sha (1 :: ((climbF f n (lft size) leaf (path.take (path.length - 1))).2 ++ path.getD (path.length - 1) [])))], sha (1 :: ((climbF f n (lft size) leaf (path.take (path.length - 1))).2 ++ path.getD (path.length - 1) [])))
      else
        ((climbF f (n - lft size) (size - lft size) leaf (path.take (path.length - 1))).1 ++ [(1 :: (path.getD (path.length - 1) [] ++ (climbF f (n - lft size) (size - lft size) leaf (path.take (path.length - 1))).2), sha (1 :: (path.getD (path.length - 1) [] ++ (climbF f (n - lft size) (size - lft size) leaf (path.take (path.length - 1))).2)))], sha (1 :: (path.getD (path.length - 1) [] ++ (climbF f (n - lft size) (size - lft size) leaf (path.take (path.length - 1))).2)))
theorem climbF_32 : ∀ (f n size : Nat) (leaf : List UInt8) (path : List (List UInt8)), leaf.length = 32 → (climbF f n size leaf path).2.length = 32
  | 0, _, _, _, _, h => h
  | f + 1, n, size, leaf, path, h => by
    unfold climbF
    split
    · exact h
    · split <;> exact sha_length _
end Go.Ab.Aud

namespace Go.Ab.Aud
open Go.Sha
theorem foldW_snoc : ∀ (w : List Bool) (ps : List (List UInt8)) (b : Bool) (p x : List UInt8), w.length = ps.length → foldW (w ++ [b]) (ps ++ [p]) x = stepW b p (foldW w ps x)
  | [], [], _, _, _, _ => rfl
  | _ :: w, _ :: ps, b, p, x, h => by
    simp only [List.cons_append, foldW]
    exact foldW_snoc w ps b p _ (by simpa using h)
theorem snoc_last {l : List (List UInt8)} (h : l.length ≠ 0) : l = l.take (l.length - 1) ++ [l.getD (l.length - 1) []] := by
  have hi : l.length - 1 < l.length := by omega
  have := List.take_succ_eq_append_getElem hi
  rw [show l.length - 1 + 1 = l.length by omega, List.take_length] at this
  rw [List.getD_eq_getElem?_getD, List.getElem?_eq_getElem hi]
  exact this
/-- the way up, read one way or the other -/
theorem climb_fold : ∀ (f k n s : Nat) (leaf : List UInt8) (ps : List (List UInt8)), (downF f n s).length = ps.length → ps.length ≤ k → s ≤ 2 ^ f → n < s → (climbF k n s leaf ps).2 = foldW (downF f n s).reverse ps leaf
  | 0, k, n, s, leaf, ps, h, hk, hs, hn => by
    have : ps = [] := List.eq_nil_of_length_eq_zero (by simp [downF] at h; omega)
    subst this
    cases k <;> simp [climbF, downF, foldW]
  | f + 1, k, n, s, leaf, ps, h, hk, hs, hn => by
    unfold downF at h ⊢
    by_cases h1 : s ≤ 1
    · rw [if_pos h1] at h ⊢
      have : ps = [] := List.eq_nil_of_length_eq_zero (by simp at h; omega)
      subst this
      cases k <;> simp [climbF, foldW]
    · rw [if_neg h1] at h ⊢
      have k1 := lft_lt (n := s) (by omega)
      have k0 := lft_pos (n := s)
      have k2 := lft_ge (n := s) (by omega)
      have k3 := lft_pow (s := s) (f := f) (by omega) hs
      by_cases h2 : n < lft s
      · rw [if_pos h2] at h ⊢
        simp only [List.length_cons] at h
        obtain ⟨k, rfl⟩ : ∃ k', k = k' + 1 := ⟨k - 1, by omega⟩
        have hl := snoc_last (l := ps) (by omega)
        have ih := climb_fold f k n (lft s) leaf (ps.take (ps.length - 1)) (by simp; omega) (by simp; omega) k3 h2
        unfold climbF
        rw [if_neg (by omega), if_pos h2]
        conv => rhs; rw [hl]
        rw [List.reverse_cons, foldW_snoc _ _ _ _ _ (by simp; omega), ih]
        rfl
      · rw [if_neg h2] at h ⊢
        simp only [List.length_cons] at h
        obtain ⟨k, rfl⟩ : ∃ k', k = k' + 1 := ⟨k - 1, by omega⟩
        have hl := snoc_last (l := ps) (by omega)
        have ih := climb_fold f k (n - lft s) (s - lft s) leaf (ps.take (ps.length - 1)) (by simp; omega) (by simp; omega) (by omega) (by omega)
        unfold climbF
        rw [if_neg (by omega), if_neg h2]
        conv => rhs; rw [hl]
        rw [List.reverse_cons, foldW_snoc _ _ _ _ _ (by simp; omega), ih]
        rfl
end Go.Ab.Aud

namespace Go.Ab.Aud
open Go.Sha
/-- a node: of what it was made, and its digest -/
def nd (x : List UInt8) : List UInt8 × List UInt8 := (x, sha x)
/-- how many digests a proof has -/
def dueF : Nat → Nat → Nat → Bool → Nat
  | 0, m, _, w => if m = 0 ∨ w = true then 0 else 1
  | f + 1, m, n, w => if m = 0 ∨ (n ≤ m ∧ w = true) then 0 else if n ≤ m then 1 else if m ≤ lft n then dueF f m (lft n) w + 1 else dueF f (m - lft n) (n - lft n) false + 1
def gL (r : List (List UInt8 × List UInt8) × List UInt8 × List UInt8) (p : List UInt8) : List (List UInt8 × List UInt8) × List UInt8 × List UInt8 := (r.1 ++ [nd (1 :: (r.2.2 ++ p))], r.2.1, sha (1 :: (r.2.2 ++ p)))
def gR (r : List (List UInt8 × List UInt8) × List UInt8 × List UInt8) (p : List UInt8) : List (List UInt8 × List UInt8) × List UInt8 × List UInt8 := (r.1 ++ [nd (1 :: (p ++ r.2.1)), nd (1 :: (p ++ r.2.2))], sha (1 :: (p ++ r.2.1)), sha (1 :: (p ++ r.2.2)))
/-- the nodes of a proof's two roots, and these -/
def grownF : Nat → Nat → Nat → Bool → List UInt8 → List (List UInt8) → List (List UInt8 × List UInt8) × List UInt8 × List UInt8
  | 0, _, _, w, old, ps => if w = true then ([], old, old) else ([], ps.getD 0 [], ps.getD 0 [])
  | f + 1, m, n, w, old, ps => if m = n then (if w = true then ([], old, old) else ([], ps.getD 0 [], ps.getD 0 [])) else
      if m ≤ lft n then gL (grownF f m (lft n) w old (ps.take (ps.length - 1))) (ps.getD (ps.length - 1) [])
      else gR (grownF f (m - lft n) (n - lft n) false old (ps.take (ps.length - 1))) (ps.getD (ps.length - 1) [])
theorem init_snoc {A : List (List UInt8)} {x : List UInt8} : (A ++ [x]).take ((A ++ [x]).length - 1) = A := by simp
theorem last_snoc {A : List (List UInt8)} {x : List UInt8} : (A ++ [x]).getD ((A ++ [x]).length - 1) [] = x := by simp [List.getD_eq_getElem?_getD]
def offW (w : Bool) (d : List Bool) : Nat := if w = true then one1 d else 1
theorem one1_le {d : List Bool} : one1 d ≤ 1 := by unfold one1; split <;> omega
theorem offW_le {w : Bool} {d : List Bool} : offW w d ≤ 1 := by unfold offW; split; exact one1_le; omega
theorem one1_f {d : List Bool} : one1 (false :: d) = one1 d := by simp [one1]
theorem one1_t {d : List Bool} : one1 (true :: d) = 1 := by simp [one1]
theorem due_md : ∀ (f m n : Nat) (w : Bool), 0 < m → m ≤ n → n ≤ 2 ^ f → dueF f m n w = offW w (mdown f m n) + (mdown f m n).length
  | 0, m, n, w, h0, h1, h2 => by
    simp only [dueF, mdown, offW]
    cases w <;> simp [one1, show ¬ m = 0 by omega]
  | f + 1, m, n, w, h0, h1, h2 => by
    unfold dueF mdown
    by_cases h : n ≤ m
    · rw [if_pos (Or.inr h : m = 0 ∨ n ≤ m)]
      cases w <;> simp [h, offW, one1, show ¬ m = 0 by omega]
    · have k1 := lft_lt (n := n) (by omega)
      have k3 := lft_pow (s := n) (f := f) (by omega) h2
      have k2 := lft_ge (n := n) (by omega)
      rw [if_neg (by omega), if_neg h, if_neg (show ¬ (m = 0 ∨ n ≤ m) by omega)]
      by_cases hk : m ≤ lft n
      · rw [if_pos hk, if_neg (by omega), due_md f m (lft n) w h0 hk k3]
        simp only [offW, one1_f, List.length_cons]
        omega
      · rw [if_neg hk, if_pos (by omega), due_md f (m - lft n) (n - lft n) false (by omega) (by omega) (by omega)]
        have hp : 2 ^ (f + 1) = 2 * 2 ^ f := by rw [Nat.pow_succ]; omega
        simp only [offW, one1_t, List.length_cons]
        cases w <;> simp <;> omega
theorem foldP_snoc : ∀ (w : List Bool) (ps : List (List UInt8)) (c : Bool) (p a b : List UInt8), w.length = ps.length →
    foldP (w ++ [c]) (ps ++ [p]) a b = if c = true then (sha (1 :: (p ++ (foldP w ps a b).1)), sha (1 :: (p ++ (foldP w ps a b).2))) else ((foldP w ps a b).1, sha (1 :: ((foldP w ps a b).2 ++ p)))
  | [], [], c, p, a, b, _ => by cases c <;> simp [foldP]
  | true :: ws, q :: ps, c, p, a, b, h => by
    simp only [List.cons_append, foldP]
    exact foldP_snoc ws ps c p _ _ (by simpa using h)
  | false :: ws, q :: ps, c, p, a, b, h => by
    simp only [List.cons_append, foldP]
    exact foldP_snoc ws ps c p _ _ (by simpa using h)
theorem getD_init {ps : List (List UInt8)} (h : 1 ≤ ps.length - 1) : (ps.take (ps.length - 1)).getD 0 [] = ps.getD 0 [] := by
  simp only [List.getD_eq_getElem?_getD, List.getElem?_take]
  rw [if_pos (by omega)]
theorem drop_last {ps : List (List UInt8)} {o : Nat} (h : o ≤ ps.length - 1) (h1 : ps.length ≠ 0) : ps.drop o = (ps.take (ps.length - 1)).drop o ++ [ps.getD (ps.length - 1) []] := by
  conv => lhs; rw [snoc_last h1]
  rw [List.drop_append_of_le_length (by simp; omega)]
theorem grown_fold : ∀ (f m n : Nat) (w : Bool) (old : List UInt8) (ps : List (List UInt8)), 0 < m → m ≤ n → n ≤ 2 ^ f → ps.length = dueF f m n w →
    (grownF f m n w old ps).2 = foldP (mdown f m n).reverse (ps.drop (offW w (mdown f m n))) (if offW w (mdown f m n) = 1 then ps.getD 0 [] else old) (if offW w (mdown f m n) = 1 then ps.getD 0 [] else old)
  | 0, m, n, w, old, ps, h0, h1, h2, hl => by
    simp only [grownF, mdown, offW]
    cases w <;> simp [foldP, one1]
  | f + 1, m, n, w, old, ps, h0, h1, h2, hl => by
    unfold grownF mdown
    unfold dueF at hl
    by_cases h : n ≤ m
    · obtain rfl : m = n := by omega
      rw [if_pos rfl, if_pos (Or.inr h : m = 0 ∨ m ≤ m)]
      cases w <;> simp [foldP, one1, offW]
    · have k1 := lft_lt (n := n) (by omega)
      have k3 := lft_pow (s := n) (f := f) (by omega) h2
      have k2 := lft_ge (n := n) (by omega)
      rw [if_neg (by omega), if_neg h] at hl
      rw [if_neg (by omega), if_neg (show ¬ (m = 0 ∨ n ≤ m) by omega)]
      by_cases hk : m ≤ lft n
      · rw [if_pos hk] at hl
        rw [if_pos hk, if_neg (by omega)]
        have hd := due_md f m (lft n) w h0 hk k3
        have ho := offW_le (w := w) (d := mdown f m (lft n))
        have hoe : offW w (false :: mdown f m (lft n)) = offW w (mdown f m (lft n)) := by simp [offW, one1_f]
        have ih := grown_fold f m (lft n) w old (ps.take (ps.length - 1)) h0 hk k3 (by simp; omega)
        rw [hoe, List.reverse_cons, drop_last (o := offW w (mdown f m (lft n))) (by omega) (by omega), foldP_snoc _ _ _ _ _ _ (by simp; omega), if_neg (by simp)]
        have hs : (if offW w (mdown f m (lft n)) = 1 then (ps.take (ps.length - 1)).getD 0 [] else old) = (if offW w (mdown f m (lft n)) = 1 then ps.getD 0 [] else old) := by
          by_cases h1 : offW w (mdown f m (lft n)) = 1
          · rw [if_pos h1, if_pos h1, getD_init (by omega)]
          · rw [if_neg h1, if_neg h1]
        rw [hs] at ih
        rw [← ih]
        rfl
      · rw [if_neg hk] at hl
        rw [if_neg hk, if_pos (by omega)]
        have hp : 2 ^ (f + 1) = 2 * 2 ^ f := by rw [Nat.pow_succ]; omega
        have hd := due_md f (m - lft n) (n - lft n) false (by omega) (by omega) (by omega)
        have hoe : offW w (true :: mdown f (m - lft n) (n - lft n)) = 1 := by simp [offW, one1_t]
        have hoe2 : offW false (mdown f (m - lft n) (n - lft n)) = 1 := rfl
        have ih := grown_fold f (m - lft n) (n - lft n) false old (ps.take (ps.length - 1)) (by omega) (by omega) (by omega) (by simp; omega)
        rw [hoe2] at ih hd
        rw [hoe, List.reverse_cons, drop_last (o := 1) (by omega) (by omega), foldP_snoc _ _ _ _ _ _ (by simp; omega), if_pos rfl, if_pos rfl]
        rw [if_pos rfl, getD_init (by omega)] at ih
        rw [← ih]
        rfl
/-- what Follows takes -/
theorem foll_ok {m n : Nat} {o r : List UInt8} {ps : List (List UInt8)} (hn : n < 2 ^ 64) (h0 : 0 < m) : follF m n o r ps = 0 ↔ m ≤ n ∧ ps.length = dueF 64 m n true ∧ (grownF 64 m n true o ps).2 = (o, r) := by
  unfold follF
  by_cases h1 : n < m
  · rw [if_pos h1]; constructor
    · intro h; omega
    · rintro ⟨h, _⟩; omega
  · have hd := due_md 64 m n true h0 (by omega) (by omega)
    have he : offW true (mdown 64 m n) = one1 (mdown 64 m n) := rfl
    rw [he] at hd
    rw [if_neg h1]
    by_cases h2 : ps.length ≠ one1 (mdown 64 m n) + (mdown 64 m n).length
    · rw [if_pos h2]; constructor
      · intro h; omega
      · rintro ⟨_, h, _⟩; omega
    · rw [if_neg h2, if_neg (by omega)]
      have g := grown_fold 64 m n true o ps h0 (by omega) (by omega) (by omega)
      rw [he] at g
      rw [g]
      by_cases hc : foldP (mdown 64 m n).reverse (ps.drop (one1 (mdown 64 m n))) (if one1 (mdown 64 m n) = 1 then ps.getD 0 [] else o) (if one1 (mdown 64 m n) = 1 then ps.getD 0 [] else o) = (o, r)
      · rw [if_pos hc]; exact ⟨fun _ => ⟨by omega, by omega, hc⟩, fun _ => rfl⟩
      · rw [if_neg hc]; exact ⟨fun h => by omega, fun ⟨_, _, h'⟩ => absurd h' hc⟩
theorem grown_32 : ∀ (f m n : Nat) (w : Bool) (old : List UInt8) (ps : List (List UInt8)), 0 < m → m ≤ n → n ≤ 2 ^ f → ps.length = dueF f m n w → old.length = 32 → (∀ x, x ∈ ps → x.length = 32) →
    (grownF f m n w old ps).2.1.length = 32 ∧ (grownF f m n w old ps).2.2.length = 32 := by
  intro f m n w old ps h0 h1 h2 hl ho hps
  rw [grown_fold f m n w old ps h0 h1 h2 hl]
  have hd := due_md f m n w h0 h1 h2
  apply foldP_length
  · split
    · exact get32 hps (by omega)
    · exact ho
  · split
    · exact get32 hps (by omega)
    · exact ho
end Go.Ab.Aud

namespace Go.Ab.Aud
open Go.Sha
def cL (r : List (List UInt8 × List UInt8) × List UInt8) (p : List UInt8) : List (List UInt8 × List UInt8) × List UInt8 := (r.1 ++ [nd (1 :: (r.2 ++ p))], sha (1 :: (r.2 ++ p)))
def cR (r : List (List UInt8 × List UInt8) × List UInt8) (p : List UInt8) : List (List UInt8 × List UInt8) × List UInt8 := (r.1 ++ [nd (1 :: (p ++ r.2))], sha (1 :: (p ++ r.2)))
theorem climbF_eq : ∀ (k k' n s : Nat) (leaf : List UInt8) (ps : List (List UInt8)), ps.length ≤ k → ps.length ≤ k' → climbF k n s leaf ps = climbF k' n s leaf ps
  | 0, k', n, s, leaf, ps, h, h' => by
    have : ps = [] := List.eq_nil_of_length_eq_zero (by omega)
    subst this
    cases k' <;> simp [climbF]
  | k + 1, 0, n, s, leaf, ps, h, h' => by
    have : ps = [] := List.eq_nil_of_length_eq_zero (by omega)
    subst this
    simp [climbF]
  | k + 1, k' + 1, n, s, leaf, ps, h, h' => by
    unfold climbF
    rw [climbF_eq k k' n (lft s) leaf _ (by simp; omega) (by simp; omega), climbF_eq k k' (n - lft s) (s - lft s) leaf _ (by simp; omega) (by simp; omega)]
theorem climb_lo {n s : Nat} {leaf : List UInt8} {ps : List (List UInt8)} (hs : 2 ≤ s) (hn : n < lft s) (hp : ps.length ≠ 0) : climbF ps.length n s leaf ps = cL (climbF (ps.take (ps.length - 1)).length n (lft s) leaf (ps.take (ps.length - 1))) (ps.getD (ps.length - 1) []) := by
  obtain ⟨k, hk⟩ : ∃ k, ps.length = k + 1 := ⟨ps.length - 1, by omega⟩
  have hl : (ps.take (ps.length - 1)).length = k := by simp; omega
  rw [hl]
  conv => lhs; rw [hk]; unfold climbF
  rw [if_neg (by omega), if_pos hn]
  rfl
theorem climb_hi {n s : Nat} {leaf : List UInt8} {ps : List (List UInt8)} (hs : 2 ≤ s) (hn : ¬ n < lft s) (hp : ps.length ≠ 0) : climbF ps.length n s leaf ps = cR (climbF (ps.take (ps.length - 1)).length (n - lft s) (s - lft s) leaf (ps.take (ps.length - 1))) (ps.getD (ps.length - 1) []) := by
  obtain ⟨k, hk⟩ : ∃ k, ps.length = k + 1 := ⟨ps.length - 1, by omega⟩
  have hl : (ps.take (ps.length - 1)).length = k := by simp; omega
  rw [hl]
  conv => lhs; rw [hk]; unfold climbF
  rw [if_neg (by omega), if_neg hn]
  rfl
theorem down_lo {f n s : Nat} (hs : 2 ≤ s) (hn : n < lft s) : downF (f + 1) n s = false :: downF f n (lft s) := by
  conv => lhs; unfold downF
  rw [if_neg (by omega), if_pos hn]
theorem down_hi {f n s : Nat} (hs : 2 ≤ s) (hn : ¬ n < lft s) : downF (f + 1) n s = true :: downF f (n - lft s) (s - lft s) := by
  conv => lhs; unfold downF
  rw [if_neg (by omega), if_neg hn]
theorem downF_eq : ∀ (f g n s : Nat), s ≤ 2 ^ f → s ≤ 2 ^ g → downF f n s = downF g n s
  | 0, g, n, s, h, h' => by
    have : s ≤ 1 := by simpa using h
    cases g <;> simp [downF, this]
  | f + 1, 0, n, s, h, h' => by
    have : s ≤ 1 := by simpa using h'
    simp [downF, this]
  | f + 1, g + 1, n, s, h, h' => by
    unfold downF
    by_cases hs : s ≤ 1
    · rw [if_pos hs, if_pos hs]
    · have k1 := lft_pow (s := s) (f := f) (by omega) h
      have k2 := lft_pow (s := s) (f := g) (by omega) h'
      have k3 := lft_ge (n := s) (by omega)
      rw [if_neg hs, if_neg hs, downF_eq f g n (lft s) k1 k2, downF_eq f g (n - lft s) (s - lft s) (by omega) (by omega)]
theorem lft_mid {m n : Nat} (h2 : 2 ≤ n) (h : lft n < m) (h' : m ≤ n) : lft m = lft n := by
  unfold lft at h ⊢
  have hp := Nat.two_pow_pos (Nat.log2 (n - 1))
  have hm0 : m - 1 ≠ 0 := by omega
  have a : Nat.log2 (n - 1) ≤ Nat.log2 (m - 1) := by
    rw [Nat.le_log2 hm0]; omega
  have b : Nat.log2 (m - 1) ≤ Nat.log2 (n - 1) := by
    have h3 : 2 ^ Nat.log2 (m - 1) ≤ m - 1 := Nat.log2_self_le hm0
    rw [Nat.le_log2 (by omega)]; omega
  rw [Nat.le_antisymm b a]
end Go.Ab.Aud

namespace Go.Ab.Aud
open Go.Sha
theorem grown_old : ∀ (f m n : Nat) (o1 o2 : List UInt8) (ps : List (List UInt8)), grownF f m n false o1 ps = grownF f m n false o2 ps
  | 0, _, _, _, _, _ => rfl
  | f + 1, m, n, o1, o2, ps => by
    unfold grownF
    rw [grown_old f m (lft n) o1 o2, grown_old f (m - lft n) (n - lft n) o1 o2]
    rfl
end Go.Ab.Aud

namespace Go.Ab.Aud
open Go.Sha
/-- a leaf's path leads to the root -/
theorem path_ok : ∀ (g : Nat) (l : List (List UInt8)) (i f : Nat), l.length ≤ g → i < l.length → l.length ≤ 2 ^ f →
    (downF f i l.length).length = (pathF g l i).length ∧ (climbF (pathF g l i).length i l.length (l.getD i []) (pathF g l i)).2 = rootL l
  | 0, l, i, f, hg, hi, hf => by omega
  | g + 1, l, i, f, hg, hi, hf => by
    by_cases h1 : l.length ≤ 1
    · unfold pathF
      rw [if_pos h1]
      obtain ⟨x, rfl⟩ := List.length_eq_one_iff.1 (show l.length = 1 by omega)
      obtain rfl : i = 0 := by simpa using hi
      refine ⟨?_, rfl⟩
      cases f <;> simp [downF]
    · have k1 := lft_lt (n := l.length) (by omega)
      have k0 := lft_pos (n := l.length)
      have k2 := lft_ge (n := l.length) (by omega)
      cases f with
      | zero => simp at hf; omega
      | succ f =>
        have k3 := lft_pow (s := l.length) (f := f) (by omega) hf
        have tl : (l.take (lft l.length)).length = lft l.length := by simp; omega
        have dl : (l.drop (lft l.length)).length = l.length - lft l.length := by simp
        unfold pathF
        rw [if_neg h1]
        by_cases h2 : i < lft l.length
        · rw [if_pos h2]
          obtain ⟨a, b⟩ := path_ok g (l.take (lft l.length)) i f (by omega) (by omega) (by omega)
          rw [tl] at a b
          refine ⟨by rw [down_lo (by omega) h2]; simp [a], ?_⟩
          rw [climb_lo (by omega) h2 (by simp), init_snoc, last_snoc]
          have e : (l.take (lft l.length)).getD i [] = l.getD i [] := by
            simp only [List.getD_eq_getElem?_getD, List.getElem?_take]; rw [if_pos h2]
          rw [e] at b
          simp only [cL, b]
          rw [rootL_two (l := l) (by omega)]
          rfl
        · rw [if_neg h2]
          obtain ⟨a, b⟩ := path_ok g (l.drop (lft l.length)) (i - lft l.length) f (by omega) (by omega) (by omega)
          rw [dl] at a b
          refine ⟨by rw [down_hi (by omega) h2]; simp [a], ?_⟩
          rw [climb_hi (by omega) h2 (by simp), init_snoc, last_snoc]
          have e : (l.drop (lft l.length)).getD (i - lft l.length) [] = l.getD i [] := by
            simp only [List.getD_eq_getElem?_getD, List.getElem?_drop]
            rw [show lft l.length + (i - lft l.length) = i by omega]
          rw [e] at b
          simp only [cR, b]
          rw [rootL_two (l := l) (by omega)]
          rfl
/-- what follows is shown by its proof -/
theorem proof_ok : ∀ (g : Nat) (l : List (List UInt8)) (m f : Nat) (w : Bool), l.length ≤ g → 0 < m → m ≤ l.length → l.length ≤ 2 ^ f →
    (proofF g l m w).length = dueF f m l.length w ∧ (grownF f m l.length w (rootL (l.take m)) (proofF g l m w)).2 = (rootL (l.take m), rootL l)
  | 0, l, m, f, w, hg, h0, hm, hf => by omega
  | g + 1, l, m, f, w, hg, h0, hm, hf => by
    unfold proofF
    by_cases h1 : m = l.length
    · rw [if_pos h1]
      have ht : l.take m = l := by rw [h1, List.take_length]
      rw [ht]
      cases f with
      | zero => cases w <;> simp [dueF, grownF, show ¬ m = 0 by omega]
      | succ f => cases w <;> simp [dueF, grownF, h1, show ¬ l.length = 0 by omega]
    · rw [if_neg h1]
      have k1 := lft_lt (n := l.length) (by omega)
      have k0 := lft_pos (n := l.length)
      have k2 := lft_ge (n := l.length) (by omega)
      cases f with
      | zero => simp at hf; omega
      | succ f =>
        have k3 := lft_pow (s := l.length) (f := f) (by omega) hf
        have tl : (l.take (lft l.length)).length = lft l.length := by simp; omega
        have dl : (l.drop (lft l.length)).length = l.length - lft l.length := by simp
        unfold dueF grownF
        rw [if_neg (show ¬ (m = 0 ∨ (l.length ≤ m ∧ w = true)) by omega), if_neg (show ¬ l.length ≤ m by omega), if_neg h1]
        by_cases h2 : m ≤ lft l.length
        · rw [if_pos h2, if_pos h2, if_pos h2]
          obtain ⟨a, b⟩ := proof_ok g (l.take (lft l.length)) m f w (by omega) h0 (by omega) (by omega)
          rw [tl] at a b
          refine ⟨by simp [a], ?_⟩
          rw [init_snoc, last_snoc]
          have e : (l.take (lft l.length)).take m = l.take m := by rw [List.take_take, Nat.min_eq_left h2]
          rw [e] at b
          simp only [gL, b]
          rw [rootL_two (l := l) (by omega)]
          rfl
        · rw [if_neg h2, if_neg h2, if_neg h2]
          obtain ⟨a, b⟩ := proof_ok g (l.drop (lft l.length)) (m - lft l.length) f false (by omega) (by omega) (by omega) (by omega)
          rw [dl] at a b
          refine ⟨by simp [a], ?_⟩
          rw [init_snoc, last_snoc, grown_old _ _ _ _ (rootL ((l.drop (lft l.length)).take (m - lft l.length)))]
          simp only [gR, b]
          have hm2 : (l.take m).length = m := by simp; omega
          have hl := lft_mid (by omega) (show lft l.length < m by omega) hm
          have e1 : rootL (l.take m) = nodeL (rootL (l.take (lft l.length))) (rootL ((l.drop (lft l.length)).take (m - lft l.length))) := by
            rw [rootL_two (l := l.take m) (by omega), hm2, hl, List.take_take, Nat.min_eq_left (by omega), List.drop_take]
          rw [e1, rootL_two (l := l) (by omega)]
          rfl
theorem incl_path {l : List (List UInt8)} {i : Nat} (hi : i < l.length) (hl : l.length < 2 ^ 64) : inclF l.length i (rootL l) (l.getD i []) (pathF l.length l i) = 0 := by
  obtain ⟨a, b⟩ := path_ok l.length l i 64 (Nat.le_refl _) hi (by omega)
  unfold inclF
  rw [if_neg (by omega), if_neg (by omega), ← climb_fold 64 _ i l.length (l.getD i []) _ a (Nat.le_refl _) (by omega) hi, b, if_neg (by simp)]
theorem foll_proof {l : List (List UInt8)} {m : Nat} (h0 : 0 < m) (hm : m ≤ l.length) (hl : l.length < 2 ^ 64) : follF m l.length (rootL (l.take m)) (rootL l) (proofF l.length l m true) = 0 := by
  obtain ⟨a, b⟩ := proof_ok l.length l m 64 true (Nat.le_refl _) h0 hm (by omega)
  exact (foll_ok hl h0).2 ⟨hm, a, b⟩
end Go.Ab.Aud

namespace Go.Ab.Aud
open Go.Sha
variable {C : Ctx} (T : Tab_LLog C) (TD : Tab_LDig C) (TW : Tab_LLaw C) (hk : ∀ j, j < 64 → C.old 1 j = some (wv (kW j))) (hp : ∀ j, j < 16 → C.old 0 j = some (wv (crcW j)))
theorem aeq_nilPs {a : Addr} : aeq .nilP (.pointer (some a)) (.pointer none) = some false := nr rfl
/-- audit -/
def nmAudit : List UInt8 := [97, 117, 100, 105, 116]
def nmA : List UInt8 := [97]
include T in
/-- a disk and a log on it -/
theorem open_new (h : AHeap) (room : Nat) (name : List UInt8) (h1 : 1 ≤ room) (h2 : room ≤ 268435456) (hwf : h.lo ≤ h.bs.length) (hN : ∀ h, D C 46 [str name] h = some (.bool true, h)) :
    ∃ h1 h2 d p O, D C 10 [iv room] h = some (.tuple #[.pointer (some ⟨d, 0, some 0⟩), iv 0], h1) ∧ D C 11 [.pointer (some ⟨d, 0, some 0⟩), str name] h1 = some (.tuple #[.pointer (some ⟨p, 0, some 0⟩), iv 0], h2) ∧ LogAt h2 O p d name [] [] room 0 ∧ (∀ j, O j → h.bs.length ≤ j) ∧ Fr h h2 (fun _ => False) := by
  have e1 := disk_new T h room h1 h2
  have fa : Fr h ((h.push (.map [] 0)).push (.cells (dc 0 room 0 h.bs.length (iv 0) (iv 0) false 0) 85)) (fun _ => False) := Fr.push.push'
  obtain ⟨h', p, e2, L, hpl, f⟩ := audit_open_none T ((h.push (.map [] 0)).push (.cells (dc 0 room 0 h.bs.length (iv 0) (iv 0) false 0) 85)) (h.bs.length + 1) h.bs.length 84 room 0 0 (iv 0) name (push_self' (by simp)) (push_old push_self) (by simp; omega) (by simp; omega) (by omega) hN
  refine ⟨_, h', h.bs.length + 1, p, _, e1, e2, L, fun j hj => ?_, fa.trans f (fun _ h => h) (fun j hj hl => by omega)⟩
  rcases hj with hj | hj | hj
  · omega
  · omega
  · have := hj.1; simp at this; omega
include T TD TW hk hp
end Go.Ab.Aud

namespace Go.Ab.Aud
open Go.Sha
theorem wakes_sha : (sha (1 :: (sha (1 :: (lh [0] ++ lh [2])) ++ lh [2])) = sha (1 :: (sha (1 :: (lh [0] ++ lh [1])) ++ lh [2]))) = False := by
  have : decide (sha (1 :: (sha (1 :: (lh [0] ++ lh [2])) ++ lh [2])) = sha (1 :: (sha (1 :: (lh [0] ++ lh [1])) ++ lh [2]))) = false := by decide +kernel
  exact eq_false (of_decide_eq_false this)
def wl3 : List (List UInt8) := [lh [0], lh [1], lh [2]]
def wRoot : List UInt8 := sha (1 :: (sha (1 :: (lh [0] ++ lh [1])) ++ lh [2]))
def wTwo : List UInt8 := sha (1 :: (lh [0] ++ lh [1]))
theorem lft3 : lft 3 = 2 := by decide
theorem lft2 : lft 2 = 1 := by decide
theorem rootL1 {a : List UInt8} : rootL [a] = a := rfl
theorem rootL2 {a b : List UInt8} : rootL [a, b] = sha (1 :: (a ++ b)) := by
  rw [rootL_two (by simp)]
  simp only [List.length_cons, List.length_nil, Nat.zero_add, Nat.reduceAdd, lft2, List.take_succ_cons, List.take_zero, List.drop_succ_cons, List.drop_zero, rootL1, nodeL]
theorem rootL3 : rootL (wl3.take 3) = wRoot := by
  have e : wl3.take 3 = [lh [0], lh [1], lh [2]] := rfl
  rw [e, rootL_two (by simp)]
  simp only [List.length_cons, List.length_nil, Nat.zero_add, Nat.reduceAdd, lft3, List.take_succ_cons, List.take_zero, List.drop_succ_cons, List.drop_zero, rootL1, rootL2, nodeL]
  rfl
theorem rootL32 : rootL (wl3.take 2) = wTwo := by
  have e : wl3.take 2 = [lh [0], lh [1]] := rfl
  rw [e, rootL2]; rfl
theorem path3 : pathF 3 (wl3.take 3) 1 = [lh [0], lh [2]] := by
  have e : wl3.take 3 = [lh [0], lh [1], lh [2]] := rfl
  rw [e]
  simp [pathF, lft3, lft2, rootL1]
theorem proof3 : proofF 3 (wl3.take 3) 2 true = [lh [2]] := by
  have e : wl3.take 3 = [lh [0], lh [1], lh [2]] := rfl
  rw [e]
  simp [proofF, lft3, rootL1]
theorem incl3 {x : List UInt8} : inclF 3 1 wRoot x [lh [0], lh [2]] = if sha (1 :: (sha (1 :: (lh [0] ++ x)) ++ lh [2])) = wRoot then 0 else 236 := by
  have e : downF 64 1 3 = [false, true] := by simp [downF, lft3, lft2]
  unfold inclF
  rw [e, if_neg (by omega), if_neg (by simp)]
  simp [foldW, stepW]
theorem foll3 : follF 2 3 wTwo wRoot [lh [2]] = 0 := by
  have e : mdown 64 2 3 = [false] := by simp [mdown, lft3]
  unfold follF
  rw [e, if_neg (by omega)]
  have o : one1 [false] = 0 := by simp [one1]
  rw [o]
  simp [foldP]
  rfl
end Go.Ab.Aud

namespace Go.Ab.Aud
open Go.Sha
variable {C : Ctx} (T : Tab_LLog C) (TD : Tab_LDig C) (TW : Tab_LLaw C) (hk : ∀ j, j < 64 → C.old 1 j = some (wv (kW j))) (hp : ∀ j, j < 16 → C.old 0 j = some (wv (crcW j)))
include T TD TW hk hp
set_option maxHeartbeats 1000000 in
theorem wk_step (i wr p d : Nat) (O : Nat → Prop) (b : UInt8) (content : List UInt8) (leaves : List (List UInt8)) (g : AHeap) (t : List Value) (hi : i < 3) (hb : UInt8.ofNat i = b) (hl : leaves.length = i) (hc : content.length ≤ 100) (hwr : wr < 100) (H : LogAt g O p d nmA content leaves 1000 wr) (hwf : g.lo ≤ g.bs.length)
    (hN : ∀ h, D C 46 [str nmA] h = some (.bool true, h)) (t3 : tg t 3 = .pointer (some ⟨p, 0, some 0⟩)) (t5 : tg t 5 = iv i) :
    ∃ g' t' O', (∀ k, R C r9 (.inLoop lp9_0 :: .inBlock 0 :: k) t [] g = R C r9 (.inLoop lp9_0 :: .inBlock 0 :: k) t' [] g') ∧ tg t' 3 = .pointer (some ⟨p, 0, some 0⟩) ∧ tg t' 5 = iv (i + 1) ∧ LogAt g' O' p d nmA (content ++ frame [b]) (leaves ++ [lh [b]]) 1000 (wr + 1) ∧ g'.lo ≤ g'.bs.length ∧ (content ++ frame [b]).length = content.length + 14 := by
  have f1 : Fr g (g.push (.cells [bv b] 6)) (fun _ => False) := Fr.push
  have H1 := H.fr f1 (fun _ _ h => h)
  have ol := H.olt
  obtain ⟨g', e, H2, f2⟩ := audit_append T TD hp hk (g.push (.cells [bv b] 6)) O p d 1000 wr nmA content leaves [b] (some ⟨g.bs.length, 0, some 0⟩) 1 1 H1 one_sl (fun j hj hO => by have := slLive hj; have := ol j hO; omega) (by simp; omega) (by omega) (by omega) (by omega) (by omega) (by omega) hN
  have l2 := f2.len
  have g2 := f2.lo
  have hfl := frame_length [b]
  simp at l2 g2 hfl
  have e2 : ∃ t', (∀ k, R C r9 (.inLoop lp9_0 :: .inBlock 0 :: k) t [] g = R C r9 (.inLoop lp9_0 :: .inBlock 0 :: k) t' [] g') ∧ tg t' 3 = .pointer (some ⟨p, 0, some 0⟩) ∧ tg t' 5 = iv (i + 1) := by
    refine ex_step (fun k => R_open lp9_0.eq_1) ?_
    simp [t3, t5, hi, hb, fillCells, splice, Dc_ok, e, num_spec TW, hl, cvt_iu (show i < 18446744073709551616 by omega), iv_add (a := i) (b := 1) (by omega)]
    exact ⟨_, fun _ => rfl, by simp [t3], by simp⟩
  obtain ⟨t', e2, u3, u5⟩ := e2
  exact ⟨g', t', _, e2, u3, u5, H2, by omega, by simp [hfl]⟩
set_option maxHeartbeats 4000000 in
theorem wakes_spec (h : AHeap) (hN : ∀ h, D C 46 [str nmA] h = some (.bool true, h)) : D C 9 [] h = some (.bool true, h) := by
  rw [D_fn3 TW.h9 _ rfl]
  generalize hh0 : ({ bs := [], lo := 0 } : AHeap) = h0
  have h0lo : h0.lo = 0 := by rw [← hh0]
  obtain ⟨h1, h2, d, p, O, e1, e2, L, hO, f2⟩ := open_new T h0 1000 nmA (by omega) (by omega) (by omega) hN
  have l2 := f2.len
  have g2 := f2.lo
  obtain ⟨t, e, u3, u5⟩ : ∃ t, R C r9 [.code b9] [] [] h0 = R C r9 (.inLoop lp9_0 :: .inBlock 0 :: [.code k9_0]) t [] h2 ∧ tg t 3 = .pointer (some ⟨p, 0, some 0⟩) ∧ tg t 5 = iv 0 := by
    have hs : Value.string ⟨⟨[97]⟩⟩ = str nmA := rfl
    simp [b9, Dc_ok, e1, num_spec TW, hs, e2, aeq_nilPs]
    exact ⟨_, rfl, by simp, by simp⟩
  obtain ⟨g1, t1, O1, x1, y1, z1, L1, w1, c1⟩ := wk_step T TD TW hk hp 0 0 p d O 0 [] [] h2 t (by omega) rfl rfl (by simp) (by omega) L (by omega) hN u3 u5
  obtain ⟨g2', t2, O2, x2, y2, z2, L2, w2, c2⟩ := wk_step T TD TW hk hp 1 1 p d O1 1 _ _ g1 t1 (by omega) rfl (by simp) (by simp at c1 ⊢; omega) (by omega) L1 w1 hN y1 z1
  obtain ⟨g3, t3, O3, x3, y3, z3, L3, w3, c3⟩ := wk_step T TD TW hk hp 2 2 p d O2 2 _ _ g2' t2 (by omega) rfl (by simp) (by simp at c1 c2 ⊢; omega) (by omega) L2 w2 hN y2 z2
  have hl : [] ++ [lh [0]] ++ [lh [1]] ++ [lh [2]] = wl3 := rfl
  rw [hl] at L3
  generalize [] ++ frame [0] ++ frame [1] ++ frame [2] = content at L3
  obtain ⟨t4, e4, u4⟩ : ∃ t', (∀ k, R C r9 (.inLoop lp9_0 :: .inBlock 0 :: k) t3 [] g3 = R C r9 k t' [] g3) ∧ tg t' 3 = .pointer (some ⟨p, 0, some 0⟩) := by
    refine ex_step (fun k => R_open lp9_0.eq_1) ?_
    simp [z3]
    exact ⟨_, fun _ => rfl, by simp [y3]⟩
  rw [e, x1, x2, x3, e4]
  have hlw : wl3.length = 3 := rfl
  have hz : Value.int .u8 0 = bv 0 := rfl
  have hb1 : Value.int .u8 1 = bv 1 := rfl
  have hb2 : Value.int .u8 2 = bv 2 := rfl
  generalize hZ : ABlock.cells (uv 0 :: List.replicate 32 (bv 0)) 32 = Z
  have hZ0 := hZ
  simp [List.replicate] at hZ
  have wz : ∀ (g : AHeap) (b n : Nat) (r : List UInt8), r.length = 32 → wrN g b (some Z) 0 0 (uv n :: bytesVals r) = some (g.put b (.cells (uv n :: bytesVals r) 32)) := by
    intro g b n r hr
    rw [← hZ0, wrN_cells (by simp [hr]) (by rw [List.all_cons, bytes_ok]; rfl)]
    congr 3
    simp [splice, hr]
  have rz : ∀ (n : Nat) (r : List UInt8), r.length = 32 → rdN (some (.cells (uv n :: bytesVals r) 32)) 0 0 33 = some (uv n :: bytesVals r) := by
    intro n r hr
    rw [rdN_cells (by simp [hr]), List.drop_zero, List.take_of_length_le (by simp [hr])]
  have hwR : wRoot.length = 32 := sha_length _
  have hwT : wTwo.length = 32 := sha_length _
  -- the heads
  obtain ⟨g4, e5, f4⟩ := head_spec T TD hk g3 O3 p d 1000 _ nmA content wl3 L3 3 (by omega) (by omega) w3
  rw [rootL3] at e5
  have l4 := f4.len
  have o4 := f4.lo
  have s5 : (g4.push Z).at g4.bs.length = some Z := push_self
  generalize hg5 : (g4.push Z).put g4.bs.length (.cells (uv 3 :: bytesVals wRoot) 32) = g5
  have f5 : Fr g3 g5 (fun _ => False) := by rw [← hg5]; exact (f4.push').put' (.inr (by omega))
  have v8 : g5.at g4.bs.length = some (.cells (uv 3 :: bytesVals wRoot) 32) := by rw [← hg5]; exact put_self (by simp)
  have l5 : g5.bs.length = g4.bs.length + 1 := by rw [← hg5]; simp
  have o5 := f5.lo
  have w5 : g5.lo ≤ g5.bs.length := by omega
  have hlo4 : g4.lo ≤ g4.bs.length := by omega
  have L5 := L3.fr f5 (fun _ _ h => h)
  obtain ⟨g6, e6, f6⟩ := head_spec T TD hk g5 O3 p d 1000 _ nmA content wl3 L5 2 (by omega) (by omega) w5
  rw [rootL32] at e6
  have l6 := f6.len
  have o6 := f6.lo
  have s6 : (g6.push Z).at g6.bs.length = some Z := push_self
  generalize hg7 : (g6.push Z).put g6.bs.length (.cells (uv 2 :: bytesVals wTwo) 32) = g7
  have f7 : Fr g5 g7 (fun _ => False) := by rw [← hg7]; exact (f6.push').put' (.inr (by omega))
  have v9 : g7.at g6.bs.length = some (.cells (uv 2 :: bytesVals wTwo) 32) := by rw [← hg7]; exact put_self (by simp)
  have l7 : g7.bs.length = g6.bs.length + 1 := by rw [← hg7]; simp
  have o7 := f7.lo
  have w7 : g7.lo ≤ g7.bs.length := by omega
  have hlo6 : g6.lo ≤ g6.bs.length := by omega
  have L7 := L5.fr f7 (fun _ _ h => h)
  obtain ⟨g8, vp, e7, P8, f8, b8⟩ := prove_spec T TD hk g7 O3 p d 1000 _ nmA content wl3 L7 1 3 (by omega) (by omega) (by omega) w7
  rw [path3] at P8
  have l8 := f8.len
  have o8 := f8.lo
  have L8 := L7.fr f8 (fun _ _ h => h)
  obtain ⟨g9, vq, e8, P9, f9⟩ := follow_spec T TD hk g8 O3 p d 1000 _ nmA content wl3 L8 2 3 (by omega) (by omega) (by omega) (by omega)
  rw [if_neg (by omega), proof3] at P9
  have l9 := f9.len
  have o9 := f9.lo
  have P8' : DigO g9 vp [lh [0], lh [2]] := P8.fr f9 (fun _ _ h => h)
  obtain ⟨ap, cpp, hvp, R9⟩ := P8'.digR (old := C.old)
  obtain ⟨aq, cpq, hvq, Q9, _⟩ := P9
  have k8 : g9.at g4.bs.length = some (.cells (uv 3 :: bytesVals wRoot) 32) := f9.get (f8.get (f7.get v8 (fun h => h)) (fun h => h)) (fun h => h)
  have k9 : g9.at g6.bs.length = some (.cells (uv 2 :: bytesVals wTwo) 32) := f9.get (f8.get v9 (fun h => h)) (fun h => h)
  generalize hg10 : g9.push (.cells [bv 1] 6) = g10
  have f10 : Fr g9 g10 (fun _ => False) := by rw [← hg10]; exact Fr.push
  have sl1 : SlR C.old g10 1 (.slice (some ⟨g9.bs.length, 0, some 0⟩) 1 1) (bytesVals [1]) := by rw [← hg10]; exact one_sl
  have lf1 := leaf_spec TD hk g10 [1] (some ⟨g9.bs.length, 0, some 0⟩) 1 1 sl1 (by omega)
  have in1 := incl_spec T TD hk g10 3 1 wRoot (lh [1]) [lh [0], lh [2]] hwR (sha_length _) (by omega) (by omega) ap cpp (R9.fr f10 (fun _ _ h => h))
  have fo1 := foll_spec T TD hk g10 2 3 wTwo wRoot [lh [2]] hwT hwR (by omega) (by omega) aq cpq (Q9.fr f10 (fun _ _ h => h))
  rw [foll3] at fo1
  have in1v : inclF 3 1 wRoot (lh [1]) [lh [0], lh [2]] = 0 := by rw [incl3]; exact if_pos rfl
  rw [in1v] at in1
  generalize hg11 : g10.push (.cells [bv 2] 6) = g11
  have f11 : Fr g10 g11 (fun _ => False) := by rw [← hg11]; exact Fr.push
  have sl2 : SlR C.old g11 1 (.slice (some ⟨g10.bs.length, 0, some 0⟩) 1 1) (bytesVals [2]) := by rw [← hg11]; exact one_sl
  have lf2 := leaf_spec TD hk g11 [2] (some ⟨g10.bs.length, 0, some 0⟩) 1 1 sl2 (by omega)
  have in2 := incl_spec T TD hk g11 3 1 wRoot (lh [2]) [lh [0], lh [2]] hwR (sha_length _) (by omega) (by omega) ap cpp ((R9.fr f10 (fun _ _ h => h)).fr f11 (fun _ _ h => h))
  have in2v : inclF 3 1 wRoot (lh [2]) [lh [0], lh [2]] = 236 := by rw [incl3]; exact if_neg (fun h => wakes_sha.mp h)
  rw [in2v] at in2
  have m8 : g10.at g4.bs.length = some (.cells (uv 3 :: bytesVals wRoot) 32) := f10.get k8 (fun h => h)
  have m9 : g10.at g6.bs.length = some (.cells (uv 2 :: bytesVals wTwo) 32) := f10.get k9 (fun h => h)
  have n8 : g11.at g4.bs.length = some (.cells (uv 3 :: bytesVals wRoot) 32) := f11.get m8 (fun h => h)
  have lhd : ∀ b : UInt8, sha [0, b] = lh [b] := fun _ => rfl
  rw [lhd] at lf1 lf2
  subst hvp
  subst hvq
  simp at in1 in2 fo1 e7 e8
  have r : R C r9 [.code k9_0] t4 [] g3 = some (.bool true, g11) := by
    simp [k9_0, u4, Dc_ok, e5, hz, hZ, bytes_ok, hwR, hwT, writeN_wr, hlo4, s5, wz, hg5, e6, hlo6, s6, hg7, e7, e8, num_spec TW, v8, v9, k8, k9, rz, hb1, hb2, fillCells, splice, hg10, lf1, in1, m8, m9, fo1, hg11, lf2, in2, n8, r9]
  rw [r]
  exact pur_some rfl
end Go.Ab.Aud

namespace Go.Ab.Aud
open Go.Sha
/-- so many empty entries -/
def eRows (n : Nat) : List (List UInt8) := List.replicate n []
def eCt (n : Nat) : List UInt8 := ((eRows n).map frame).flatten
theorem eRows_len (n : Nat) : (eRows n).length = n := by simp [eRows]
theorem eRows_succ (n : Nat) : eRows (n + 1) = eRows n ++ [[]] := by simp only [eRows]; rw [List.replicate_succ']
theorem eRows_mem {n : Nat} {r : List UInt8} (h : r ∈ eRows n) : r = [] := (List.mem_replicate.1 h).2
theorem eCt_succ (n : Nat) : eCt (n + 1) = eCt n ++ frame [] := by simp [eCt, eRows_succ]
theorem eCt_len (n : Nat) : (eCt n).length = 13 * n := by
  induction n with
  | zero => rfl
  | succ n ih => rw [eCt_succ, List.length_append, ih, frame_length]; simp; omega
theorem eCt_first (n : Nat) : (eCt (n + 1)).take 13 = frame [] := by
  have : eCt (n + 1) = frame [] ++ eCt n := by simp [eCt, eRows, List.replicate_succ]
  rw [this, List.take_left' (by rw [frame_length]; rfl)]
theorem eLh_succ (n : Nat) : (eRows (n + 1)).map lh = (eRows n).map lh ++ [lh []] := by rw [eRows_succ, List.map_append]; rfl
theorem eLh_get {n i : Nat} (h : i < n) : ((eRows n).map lh).getD i [] = lh [] := by
  rw [List.getD_eq_getElem?_getD, List.getElem?_map, eRows, List.getElem?_replicate, if_pos h]; rfl
theorem down16 : (downF 64 65535 65536).length = 16 := by decide +kernel
theorem path16 {l : List (List UInt8)} (h : l.length = 65536) : (pathF 65536 l 65535).length = 16 := by
  have := (path_ok 65536 l 65535 64 (by omega) (by omega) (by omega)).1
  rw [← this, h, down16]
theorem some_of_len {h : AHeap} {o : Option (Value × Nat)} {n : Nat} {c : List Value} (w : Own h 5 1 (fvOf o) n c) (hn : 0 < n) : o.isSome = true := by
  cases o with
  | some x => rfl
  | none =>
    obtain ⟨a, cp, hv⟩ := w.slice
    simp only [fvOf, Value.slice.injEq] at hv
    omega
variable {C : Ctx} (T : Tab_LLog C) (TD : Tab_LDig C) (TW : Tab_LLaw C) (TF : Tab_LFull C) (hk : ∀ j, j < 64 → C.old 1 j = some (wv (kW j))) (hp : ∀ j, j < 16 → C.old 0 j = some (wv (crcW j)))
include T TD TW TF hk hp
theorem full_loop (hN : ∀ h, D C 46 [str nmAudit] h = some (.bool true, h)) (p d : Nat) : ∀ (k n : Nat) (g : AHeap) (O : Nat → Prop) (t : List Value), n + k = 65536 → LogAt g O p d nmAudit (eCt n) ((eRows n).map lh) 16777216 n → g.lo ≤ g.bs.length →
    tg t 1 = .pointer (some ⟨d, 0, some 0⟩) → tg t 3 = .pointer (some ⟨p, 0, some 0⟩) → tg t 5 = iv n →
    ∃ g' t' O', (∀ K, R C r4 (.inLoop lp4_0 :: .inBlock 0 :: K) t [] g = R C r4 K t' [] g') ∧ LogAt g' O' p d nmAudit (eCt 65536) ((eRows 65536).map lh) 16777216 65536 ∧ g'.lo ≤ g'.bs.length ∧ tg t' 1 = .pointer (some ⟨d, 0, some 0⟩) ∧ tg t' 3 = .pointer (some ⟨p, 0, some 0⟩) := by
  intro k
  induction k with
  | zero =>
    intro n g O t hn H wf t1 t3 t5
    obtain rfl : n = 65536 := by omega
    have hx : ∃ t', (∀ K, R C r4 (.inLoop lp4_0 :: .inBlock 0 :: K) t [] g = R C r4 K t' [] g) ∧ tg t' 1 = .pointer (some ⟨d, 0, some 0⟩) ∧ tg t' 3 = .pointer (some ⟨p, 0, some 0⟩) := by
      refine ex_step (fun k => R_open lp4_0.eq_1) ?_
      simp [t5]
      exact ⟨_, fun _ => rfl, by simp [t1], by simp [t3]⟩
    obtain ⟨t', e, u1, u3⟩ := hx
    exact ⟨g, t', O, e, H, wf, u1, u3⟩
  | succ k ih =>
    intro n g O t hn H wf t1 t3 t5
    have hl : ((eRows n).map lh).length = n := by rw [List.length_map, eRows_len]
    have hc := eCt_len n
    obtain ⟨g', e, H2, f2⟩ := audit_append T TD hp hk g O p d 16777216 n nmAudit (eCt n) ((eRows n).map lh) [] none 0 0 H ⟨rfl, rfl, rfl⟩ (fun j hj => hj.elim) wf (by omega) (by omega) (by omega) (by omega) (by omega) hN
    rw [← eCt_succ, show sha [0] = lh [] from rfl, ← eLh_succ] at H2
    rw [hl] at e
    have l2 := f2.len
    have o2 := f2.lo
    have hx : ∃ t', (∀ K, R C r4 (.inLoop lp4_0 :: .inBlock 0 :: K) t [] g = R C r4 (.inLoop lp4_0 :: .inBlock 0 :: K) t' [] g') ∧ tg t' 1 = .pointer (some ⟨d, 0, some 0⟩) ∧ tg t' 3 = .pointer (some ⟨p, 0, some 0⟩) ∧ tg t' 5 = iv (n + 1) := by
      refine ex_step (fun k => R_open lp4_0.eq_1) ?_
      simp [t3, t5, show n < 65536 by omega, Dc_ok, e, num_spec TW, cvt_iu (show n < 18446744073709551616 by omega), iv_add (a := n) (b := 1) (by omega)]
      exact ⟨_, fun _ => rfl, by simp [t1], by simp [t3], by simp⟩
    obtain ⟨t', ex, u1, u3, u5⟩ := hx
    obtain ⟨g3, t3', O3, e3, r⟩ := ih (n + 1) g' _ t' (by omega) H2 (by omega) u1 u3 u5
    exact ⟨g3, t3', O3, fun K => (ex K).trans (e3 K), r⟩
end Go.Ab.Aud

namespace Go.Ab.Aud
open Go.Sha
theorem aeq_nilPn : aeq .nilP (.pointer none) (.pointer none) = some true := nr rfl
variable {C : Ctx} (T : Tab_LLog C) (TD : Tab_LDig C) (TW : Tab_LLaw C) (TO : Tab_LOpen C) (TF : Tab_LFull C) (hk : ∀ j, j < 64 → C.old 1 j = some (wv (kW j))) (hp : ∀ j, j < 16 → C.old 0 j = some (wv (crcW j)))
include T TD TW TO TF hk hp
set_option maxHeartbeats 4000000 in
theorem full_all (hA : ∀ h, D C 46 [str nmA] h = some (.bool true, h)) (hN : ∀ h, D C 46 [str nmAudit] h = some (.bool true, h)) (h : AHeap) (hwf : h.lo ≤ h.bs.length) : ∃ g', D C 4 [] h = some (.bool true, g') := by
  have ew := fun h => wakes_spec T TD TW hk hp h hA
  have hs : Value.string ⟨⟨[97, 117, 100, 105, 116]⟩⟩ = str nmAudit := rfl
  rw [D_fn TF.h4]
  obtain ⟨h1, h2, d, p, O, e1, e2, L, hO, f2⟩ := open_new T h 16777216 nmAudit (by omega) (by omega) hwf hN
  have l2 := f2.len
  have o2 := f2.lo
  obtain ⟨t, e, u1, u3, u5⟩ : ∃ t, R C r4 [.code b4] [] [] h = R C r4 (.inLoop lp4_0 :: .inBlock 0 :: [.code k4_0]) t [] h2 ∧ tg t 1 = .pointer (some ⟨d, 0, some 0⟩) ∧ tg t 3 = .pointer (some ⟨p, 0, some 0⟩) ∧ tg t 5 = iv 0 := by
    simp [b4, Dc_ok, e1, num_spec TW, hs, e2, aeq_nilPs]
    exact ⟨_, rfl, by simp, by simp, by simp⟩
  obtain ⟨g, t1, O1, eL, L1, w1, v1, v3⟩ := full_loop T TD TW TF hk hp hN p d 65536 0 h2 O t (by omega) L (by omega) u1 u3 u5
  rw [e, eL]
  have ctl := eCt_len 65536
  have hfirst := eCt_first 65535
  have hctn : eCt 65536 = ((eRows 65536).map frame).flatten := rfl
  have hrl := eRows_len 65536
  have hlen : ((eRows 65536).map lh).length = 65536 := by rw [List.length_map, hrl]
  have hget := eLh_get (n := 65536) (i := 65535) (by omega)
  have hmem : ∀ r, r ∈ eRows 65536 → r = [] := fun r h => eRows_mem h
  have hnext := eRows_succ 65536
  have hcnext := eCt_succ 65536
  have hmem2 : ∀ r, r ∈ eRows (65536 + 1) → r = [] := fun r h => eRows_mem h
  have hctn2 : eCt (65536 + 1) = ((eRows (65536 + 1)).map frame).flatten := rfl
  have hrl2 := eRows_len (65536 + 1)
  generalize hR2 : eRows (65536 + 1) = rows2 at *
  generalize hC2 : eCt (65536 + 1) = ct2 at *
  generalize hR : eRows 65536 = rows at *
  generalize hC : eCt 65536 = ct at *
  -- the full log
  have e3 := full_spec T g O1 p d 16777216 65536 nmAudit ct (rows.map lh) L1 none 0 0 (by omega) hlen
  obtain ⟨g4, e5, f4⟩ := head_spec T TD hk g O1 p d 16777216 _ nmAudit ct (rows.map lh) L1 65536 (by omega) (by omega) w1
  have htk : (rows.map lh).take 65536 = rows.map lh := List.take_of_length_le (by omega)
  rw [htk] at e5
  have l4 := f4.len
  have o4 := f4.lo
  have h32 : ∀ x, x ∈ rows.map lh → x.length = 32 := fun x hx => by
    obtain ⟨z, _, hz⟩ := List.mem_map.1 hx
    rw [← hz]; exact sha_length _
  have hwR := rootL_length _ h32
  have hinc := incl_path (l := rows.map lh) (i := 65535) (by omega) (by omega)
  rw [hlen, hget] at hinc
  have hp16 := path16 hlen
  generalize hroot : rootL (rows.map lh) = root at *
  have hz : Value.int .u8 0 = bv 0 := rfl
  generalize hZ : ABlock.cells (uv 0 :: List.replicate 32 (bv 0)) 32 = Z
  have hZ0 := hZ
  simp [List.replicate] at hZ
  have s5 : (g4.push Z).at g4.bs.length = some Z := push_self
  have wz : wrN (g4.push Z) g4.bs.length (some Z) 0 0 (uv 65536 :: bytesVals root) = some ((g4.push Z).put g4.bs.length (.cells (uv 65536 :: bytesVals root) 32)) := by
    rw [← hZ0, wrN_cells (by simp [hwR]) (by rw [List.all_cons, bytes_ok]; rfl)]
    congr 3
    simp [splice, hwR]
  have rz : rdN (some (.cells (uv 65536 :: bytesVals root) 32)) 0 0 33 = some (uv 65536 :: bytesVals root) := by
    rw [rdN_cells (by simp [hwR]), List.drop_zero, List.take_of_length_le (by simp [hwR])]
  generalize hg5 : (g4.push Z).put g4.bs.length (.cells (uv 65536 :: bytesVals root) 32) = g5 at wz
  have f5 : Fr g g5 (fun _ => False) := by rw [← hg5]; exact (f4.push').put' (.inr (by omega))
  have v8 : g5.at g4.bs.length = some (.cells (uv 65536 :: bytesVals root) 32) := by rw [← hg5]; exact put_self (by simp)
  have l5 : g5.bs.length = g4.bs.length + 1 := by rw [← hg5]; simp
  have o5 := f5.lo
  have w5 : g5.lo ≤ g5.bs.length := by omega
  have L5 := L1.fr f5 (fun _ _ h => h)
  obtain ⟨g6, vp, e7, P8, f8, b8⟩ := prove_spec T TD hk g5 O1 p d 16777216 _ nmAudit ct (rows.map lh) L5 65535 65536 (by omega) (by omega) (by omega) w5
  rw [htk] at P8
  have l8 := f8.len
  have o8 := f8.lo
  have L8 := L5.fr f8 (fun _ _ h => h)
  have v9 := f8.get v8 (fun h => h)
  have uvp := P8.1.und
  have lvp := P8.1.lenV
  rw [hp16] at lvp
  obtain ⟨ap, cpp, hvp, D8⟩ := P8.digR (old := C.old)
  have in1 := incl_spec T TD hk g6 65536 65535 root (lh []) _ hwR (sha_length _) (by omega) (by omega) ap cpp D8
  rw [hinc, ← hvp] at in1
  have lf1 := leaf_spec TD hk g6 [] none 0 0 ⟨rfl, rfl, rfl⟩ (by omega)
  rw [show sha [0] = lh [] from rfl] at lf1
  have er1 := err_spec T g6 O1 p d 16777216 65536 nmAudit ct (rows.map lh) L8
  -- opened anew
  obtain ⟨w, m, fp, fw, fz, keep, o, c, es, ls, LI⟩ := L8
  have dk := LI.dk
  have hos : o.isSome = true := some_of_len dk.ho (by omega)
  have w8 : g6.lo ≤ g6.bs.length := by omega
  have dk' : DiskIs g6 d m fz 16777216 ((rows.map frame).flatten).length 65536 keep nmAudit o c ((rows.map frame).flatten) := by rw [← hctn]; exact dk
  obtain ⟨g7, p7, e9, _, f9, O9, L9, _⟩ := audit_open T TD TO hk hp g6 d m fz 16777216 65536 c keep nmAudit rows o hos dk' (by rw [← hctn]; omega) (fun r h => by rw [hmem r h]; simp) (by omega) w8 hN
  have l9 := f9.len
  have o9 := f9.lo
  have e10 := len_spec T g7 O9 p7 d 16777216 65536 nmAudit _ (rows.map lh) L9 (by omega)
  rw [hlen] at e10
  have dk9 := dk.fr f9 (fun h => h) (fun h => h) (fun _ _ h => h)
  obtain ⟨g10, vb, e11, ob, f10, bb⟩ := disk_read T g7 d m fz 16777216 _ 65536 c keep nmAudit ct o hos dk9 (by omega) (by omega) hN
  have l10 := f10.len
  have o10 := f10.lo
  have dk10 := dk9.fr f10 (fun h => h) (fun h => h) (fun _ _ h => h)
  have uvb := ob.und
  have lvb := ob.lenV
  obtain ⟨ab, cpb, hvb⟩ := ob.slice
  have sb := ob.sl (old := C.old) (by omega)
  rw [hvb] at sb
  obtain ⟨a13, cp13, e12, s13, lv13⟩ := sb.part (lo := none) (hi := some 13) (l := 0) (u := 13) rfl rfl (by omega) (by omega)
  rw [← hvb] at e12
  have hd13 : ((bytesVals ct).drop (0 * 1)).take ((13 - 0) * 1) = bytesVals (frame []) := by
    rw [Nat.zero_mul, List.drop_zero, ← hfirst]; simp [bytesVals, List.map_take]
  rw [hd13] at s13
  simp at s13 e12 lv13
  have hdl := get_lt dk9.hd
  have hml := get_lt dk9.hm
  obtain ⟨r, g11, e13, rfl, fv', born', c', Ld⟩ := disk_append T g10 d m fz 16777216 _ 65536 c keep nmAudit o ct (frame []) a13 13 cp13 dk10.hd dk10.hm dk10.ho s13 dk10.lod dk10.lom dk10.dm dk10.bd dk10.bm (fun j hj => by
      have hj1 := lv13 j hj
      rw [← hvb] at hj1
      have hj2 := bb j (ob.live hj1)
      exact ⟨by omega, by omega, fun hc => by have := dk9.ho.blk hc; omega⟩) (by omega) (by omega) (by omega) (by omega) (by omega) hN
  have l11 := Ld.fr.len
  have o11 := Ld.fr.lo
  have hbf : ∀ j, blkOf fv' = some j → blkOf (fvOf o) = some j ∨ g10.bs.length ≤ j := fun j hj => by
    rcases Ld.blk with b2 | ⟨i, b2, b2'⟩
    · exact .inl (by rw [← b2]; exact hj)
    · rw [b2] at hj; cases hj; exact .inr (by omega)
  have hne : ∀ x, blkOf (fvOf o) ≠ some x → x < g10.bs.length → blkOf fv' ≠ some x := fun x hx hxl hc => by
    rcases hbf x hc with h3 | h3
    · exact hx h3
    · omega
  have dk11 : DiskIs g11 d m fz 16777216 (ct.length + (frame []).length) (65536 + 1) keep nmAudit (some (fv', born')) c' ((rows2.map frame).flatten) := by
    refine ⟨Ld.disk, Ld.map, ?_, by rw [o11]; exact dk10.lod, by rw [o11]; exact dk10.lom, dk10.dm, hne d dk10.bd (by omega), hne m dk10.bm (by omega)⟩
    have := Ld.own
    rw [← hcnext] at this
    rw [← hctn2]
    rw [show ct.length + (frame []).length = ct2.length by rw [hcnext, List.length_append]] at this
    exact this
  have hml2 : rows2.length = 65537 := by omega
  obtain ⟨g12, e14, f12⟩ := audit_open_many T TO hp g11 d m fz 16777216 _ (65536 + 1) c' keep nmAudit rows2 (some (fv', born')) rfl dk11 (by rw [← hctn2, hcnext, List.length_append, ctl, frame_length]; simp) (fun r h => by rw [hmem2 r h]; simp) (by omega) (by omega) (by omega) hN
  have hlb : ¬ ct.length < 13 := by omega
  refine ⟨g12, ?_⟩
  try simp at e3
  try simp at e5
  try simp at e7
  try simp at in1
  try simp at lf1
  try simp at er1
  try simp at e9
  try simp at e10
  try simp at e11
  try simp at e13
  try simp at e14
  simp [k4_0, v1, v3, Dc_ok, e3, e5, hz, hZ, bytes_ok, hwR, writeN_wr, show g4.lo ≤ g4.bs.length by omega, s5, wz, e7, stp_ok uvp, uvp, lvp, num_spec TW, v9, rz, lf1, in1, er1, hs, e9, aeq_nilPs, aeq_nilPn, e10, e11, stp_ok uvb, uvb, lvb, hlb, e12, e13, e14, ew, r4]
end Go.Ab.Aud
