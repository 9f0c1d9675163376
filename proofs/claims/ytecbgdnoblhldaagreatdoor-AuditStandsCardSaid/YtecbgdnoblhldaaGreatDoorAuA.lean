/-
  Steps of the proof of AuditStandsCardSaid: what functions of the program do in the abstract machine, and the laws between; no condition beside those that each theorem names.
-/
import Derived.Test.YtecbgdnoblhldaaGreatDoorLit
import Derived.Test.YtecbgdnoblhldaaGreatDoorAbD

set_option linter.unusedSimpArgs false
set_option linter.unusedVariables false
set_option linter.unusedSectionVars false

namespace Go.Ab.Aud
theorem D_ext {C : Ctx} {f : FuncId} {e : Ext} (hT : C.T f = some (.ext e)) (args : List Value) (h : AHeap) : D C f args h = extExec C e args h := by
  unfold D doCall; rw [hT]
variable {C : Ctx} (T : Tab_LLog C)
include T
theorem ext0 (f : FuncId) (hf : f = 184 ∨ f = 186) (h : AHeap) : D C f [] h = some (.tuple #[], h) := by
  rcases hf with rfl | rfl
  · rw [D_ext T.x184]; rfl
  · rw [D_ext T.x186]; rfl
theorem ext1 (f : FuncId) (hf : f = 187 ∨ f = 189) (a : Addr) (h : AHeap) : D C f [.pointer (some a)] h = some (.tuple #[], h) := by
  rcases hf with rfl | rfl
  · rw [D_ext T.x187]; rfl
  · rw [D_ext T.x189]; rfl
theorem lock_spec (h : AHeap) (p o fz : Nat) (c : List Value) (hp : h.at p = some (.cells c (fz + 1))) (ho : c[o]? = some (.int .i32 0)) (hlo : h.lo ≤ p) :
    D C 74 [.pointer (some ⟨p, o, some 0⟩)] h = some (.tuple #[], h.put p (.cells (c.set o (.int .i32 1)) (fz + 1))) := by
  rw [D_fn T.h74]
  have hol : o < c.length := (List.getElem?_eq_some_iff.1 ho).1
  have hpl := get_lt hp
  have e1 : D C 185 [.pointer (some ⟨p, o, some 0⟩), .int .i32 0, .int .i32 1] h = some (.bool true, h.put p (.cells (c.set o (.int .i32 1)) (fz + 1))) := by
    rw [D_ext T.x185]
    simp only [extExec]
    rw [read1_rd, hp, rd1_cells, ho]
    simp only [if_true]
    rw [write1_wr hlo, hp, wr1_cells hol rfl]
    rfl
  have e2 : D C 112 [.pointer (some ⟨p, o, some 0⟩)] h = some (.tuple #[], h.put p (.cells (c.set o (.int .i32 1)) (fz + 1))) := by
    rw [D_fn T.h112]
    have ht : ∀ t : List Value, tg t 8 = .pointer (some ⟨p, o, some 0⟩) → aexec C t (h.put p (.cells (c.set o (.int .i32 1)) (fz + 1))) (.toUnsafe (.tmp 8)) = some (.pointer (some ⟨p, o, some 0⟩), h.put p (.cells (c.set o (.int .i32 1)) (fz + 1))) := by
      intro t ht
      have : (h.put p (.cells (c.set o (.int .i32 1)) (fz + 1))).bs[p]? = some (.cells (c.set o (.int .i32 1)) (fz + 1)) := put_self hpl
      simp [ht, this, hol]
    simp [-ax_toUnsafe, b112, ext0 T, ext1 T, Dc1, Dc3, e1, ht, r112]
  simp [b74, Dc1, e2, r74]
theorem unlock_spec (h : AHeap) (p o fz : Nat) (c : List Value) (hp : h.at p = some (.cells c (fz + 1))) (ho : c[o]? = some (.int .i32 1)) (hlo : h.lo ≤ p) :
    D C 75 [.pointer (some ⟨p, o, some 0⟩)] h = some (.tuple #[], h.put p (.cells (c.set o (.int .i32 0)) (fz + 1))) := by
  rw [D_fn T.h75]
  have hol : o < c.length := (List.getElem?_eq_some_iff.1 ho).1
  have hpl := get_lt hp
  have e1 : D C 190 [.pointer (some ⟨p, o, some 0⟩), .int .i32 (-1)] h = some (.int .i32 0, h.put p (.cells (c.set o (.int .i32 0)) (fz + 1))) := by
    rw [D_ext T.x190]
    simp only [extExec]
    rw [read1_rd, hp, rd1_cells, ho]
    have : IntKind.i32.wrap (1 + -1) = 0 := rfl
    simp only [this]
    rw [write1_wr hlo, hp, wr1_cells hol rfl]
    rfl
  have e2 : D C 113 [.pointer (some ⟨p, o, some 0⟩)] h = some (.tuple #[], h.put p (.cells (c.set o (.int .i32 0)) (fz + 1))) := by
    rw [D_fn T.h113]
    have ht : ∀ t : List Value, tg t 7 = .pointer (some ⟨p, o, some 0⟩) → aexec C t h (.toUnsafe (.tmp 7)) = some (.pointer (some ⟨p, o, some 0⟩), h) := by
      intro t ht
      have : h.bs[p]? = some (.cells c (fz + 1)) := hp
      simp [ht, this, hol]
    have hz : abin .neq (.int .i32 0) (.int .i32 0) = some (.bool false) := rfl
    simp [-ax_toUnsafe, b113, ext0 T, ext1 T, Dc1, Dc2, hp, ho, e1, ht, hz, r113]
  simp [b75, Dc1, e2, r75]
end Go.Ab.Aud

namespace Go.Ab.Aud
/-- a disk's cells -/
def dc (mu : Int) (room used m : Nat) (armed keep : Value) (off : Bool) (wr : Nat) : List Value := [.int .i32 mu, .int .u32 0, iv room, iv used, .map (some m), armed, keep, .bool off, iv wr]
section
variable {mu : Int} {room used m wr : Nat} {armed keep : Value} {off : Bool}
theorem dc0 : (dc mu room used m armed keep off wr)[0]? = some (.int .i32 mu) := nr rfl
theorem dc2 : (dc mu room used m armed keep off wr)[2]? = some (iv room) := nr rfl
theorem dc3 : (dc mu room used m armed keep off wr)[3]? = some (iv used) := nr rfl
theorem dc4 : (dc mu room used m armed keep off wr)[4]? = some (.map (some m)) := nr rfl
theorem dc5 : (dc mu room used m armed keep off wr)[5]? = some armed := nr rfl
theorem dc6 : (dc mu room used m armed keep off wr)[6]? = some keep := nr rfl
theorem dc7 : (dc mu room used m armed keep off wr)[7]? = some (.bool off) := nr rfl
theorem dc8 : (dc mu room used m armed keep off wr)[8]? = some (iv wr) := nr rfl
theorem wdc3 {h : AHeap} {b fz x : Nat} : wr1 h b (some (.cells (dc mu room used m armed keep off wr) (fz + 1))) 3 0 (iv x) = some (h.put b (.cells (dc mu room x m armed keep off wr) (fz + 1))) := by rw [wr1_cells (by simp [dc]) rfl]; rfl
theorem wdc5 {h : AHeap} {b fz : Nat} {x : Value} (hx : okCell x = true) : wr1 h b (some (.cells (dc mu room used m armed keep off wr) (fz + 1))) 5 0 x = some (h.put b (.cells (dc mu room used m x keep off wr) (fz + 1))) := by rw [wr1_cells (by simp [dc]) hx]; rfl
theorem wdc6 {h : AHeap} {b fz : Nat} {x : Value} (hx : okCell x = true) : wr1 h b (some (.cells (dc mu room used m armed keep off wr) (fz + 1))) 6 0 x = some (h.put b (.cells (dc mu room used m armed x off wr) (fz + 1))) := by rw [wr1_cells (by simp [dc]) hx]; rfl
theorem wdc7 {h : AHeap} {b fz : Nat} {x : Bool} : wr1 h b (some (.cells (dc mu room used m armed keep off wr) (fz + 1))) 7 0 (.bool x) = some (h.put b (.cells (dc mu room used m armed keep x wr) (fz + 1))) := by rw [wr1_cells (by simp [dc]) rfl]; rfl
theorem wdc8 {h : AHeap} {b fz x : Nat} : wr1 h b (some (.cells (dc mu room used m armed keep off wr) (fz + 1))) 8 0 (iv x) = some (h.put b (.cells (dc mu room used m armed keep off x) (fz + 1))) := by rw [wr1_cells (by simp [dc]) rfl]; rfl
theorem dcs0 {x : Int} : (dc mu room used m armed keep off wr).set 0 (.int .i32 x) = dc x room used m armed keep off wr := nr rfl
end
/-- one file, or none -/
def esOf (name : List UInt8) : Option (Value × Nat) → List MapEntry
  | none => []
  | some (v, b) => [⟨str name, v, b⟩]
def fvOf : Option (Value × Nat) → Value
  | none => .slice none 0 0
  | some (v, _) => v
theorem findE_esOf {name : List UInt8} {o : Option (Value × Nat)} : findE (str name) (esOf name o) 0 = some (if o.isSome then some 0 else none) := by
  cases o with
  | none => rfl
  | some p => obtain ⟨v, b⟩ := p; exact findE_hit
theorem lkp_es {h : AHeap} {name : List UInt8} {o : Option (Value × Nat)} {m c : Nat} {ok : Bool} (e : h.at m = some (.map (esOf name o) c)) :
    lkp h .s (.slice none 0 0) ok (.map (some m)) (str name) = some (if ok then .tuple #[fvOf o, .bool o.isSome] else fvOf o, h) := by
  cases o with
  | none => rw [lkp_no fits_str e findE_esOf]; rfl
  | some p => obtain ⟨v, b⟩ := p; rw [lkp_yes fits_str e findE_hit rfl]; rfl
/-- a disk with one file, or none -/
structure DiskIs (h : AHeap) (mu : Int) (d m fz room used : Nat) (arm keep : Value) (off : Bool) (wr : Nat) (name : List UInt8) (o : Option (Value × Nat)) (c : Nat) (content : List UInt8) : Prop where
  hd : h.at d = some (.cells (dc mu room used m arm keep off wr) (fz + 1))
  hm : h.at m = some (.map (esOf name o) c)
  ho : Own h 5 1 (fvOf o) content.length (bytesVals content)
  lod : h.lo ≤ d
  lom : h.lo ≤ m
  dm : d ≠ m
  bd : blkOf (fvOf o) ≠ some d
  bm : blkOf (fvOf o) ≠ some m
theorem DiskIs.fr {h h' : AHeap} {mu : Int} {d m fz room used wr c : Nat} {arm keep : Value} {off : Bool} {name content : List UInt8} {o : Option (Value × Nat)} {S : Nat → Prop} (H : DiskIs h mu d m fz room used arm keep off wr name o c content) (f : Fr h h' S)
    (h1 : ¬ S d) (h2 : ¬ S m) (h3 : ∀ j, blkOf (fvOf o) = some j → ¬ S j) : DiskIs h' mu d m fz room used arm keep off wr name o c content :=
  ⟨f.get H.hd h1, f.get H.hm h2, H.ho.fr f h3, by rw [f.lo]; exact H.lod, by rw [f.lo]; exact H.lom, H.dm, H.bd, H.bm⟩
/-- a cell of the disk is turned -/
theorem DiskIs.set {h : AHeap} {mu mu' : Int} {d m fz room used used' wr wr' c : Nat} {arm keep arm' keep' : Value} {off off' : Bool} {name content : List UInt8} {o : Option (Value × Nat)} (H : DiskIs h mu d m fz room used arm keep off wr name o c content) :
    DiskIs (h.put d (.cells (dc mu' room used' m arm' keep' off' wr') (fz + 1))) mu' d m fz room used' arm' keep' off' wr' name o c content :=
  ⟨put_self (get_lt H.hd), by rw [put_ne H.dm]; exact H.hm, H.ho.fr (S := fun j => j = d) (Fr.put rfl) (fun j hj hc => H.bd (by rw [hj, hc])), H.lod, H.lom, H.dm, H.bd, H.bm⟩
/-- what a write turns: what it may own -/
structure Wr (h h' : AHeap) (d m : Nat) (o o' : Option (Value × Nat)) : Prop where
  fr : Fr h h' (fun j => j = d ∨ j = m ∨ blkOf (fvOf o) = some j)
  blk : ∀ j, blkOf (fvOf o') = some j → blkOf (fvOf o) = some j ∨ h.bs.length ≤ j
theorem Wr.refl {h : AHeap} {d m : Nat} {o : Option (Value × Nat)} : Wr h h d m o o := ⟨Fr.refl _ _, fun _ h => .inl h⟩
theorem Wr.trans {h h1 h2 : AHeap} {d m : Nat} {o o1 o2 : Option (Value × Nat)} (a : Wr h h1 d m o o1) (b : Wr h1 h2 d m o1 o2) : Wr h h2 d m o o2 := by
  refine ⟨a.fr.trans b.fr (fun _ h => h) (fun j hj hl => ?_), fun j hj => ?_⟩
  · rcases hj with hj | hj | hj
    · exact .inl hj
    · exact .inr (.inl hj)
    · rcases a.blk j hj with h1 | h1
      · exact .inr (.inr h1)
      · omega
  · rcases b.blk j hj with h1 | h1
    · exact a.blk j h1
    · have := a.fr.len
      right; omega
theorem Wr.put {h : AHeap} {d m : Nat} {o : Option (Value × Nat)} {x : ABlock} : Wr h (h.put d x) d m o o := ⟨Fr.put (.inl rfl), fun _ h => .inl h⟩
variable {C : Ctx} (T : Tab_LLog C)
include T
theorem may_spec (h : AHeap) (d nb m fz fz2 c room used wr : Nat) (mu : Int) (armed keep : Value) (name : List UInt8) (o : Option (Value × Nat)) (there : Bool)
    (hd : h.at d = some (.cells (dc mu room used m armed keep false wr) fz)) (hb : h.at nb = some (.cells [str name] fz2)) (hm : h.at m = some (.map (esOf name o) c)) (hN : ∀ h, D C 147 [str name] h = some (.bool true, h)) (hu : isUnd (fvOf o) = false) :
    D C 157 [.pointer (some ⟨d, 0, some 0⟩), .bool there, .slice (some ⟨nb, 0, some 0⟩) 1 1] h = some (iv (if there && !o.isSome then 92 else 0), h) := by
  rw [D_fn2 T.h157]
  generalize hh0 : ({ h with lo := h.bs.length } : AHeap) = h0
  have hd0 : h0.at d = some (.cells (dc mu room used m armed keep false wr) fz) := by rw [← hh0]; exact hd
  have hb0 : h0.at nb = some (.cells [str name] fz2) := by rw [← hh0]; exact hb
  have hm0 : h0.at m = some (.map (esOf name o) c) := by rw [← hh0]; exact hm
  have e1 := lkp_es (ok := true) hm0
  simp only [if_true] at e1
  simp [b157, hd0, dc7]
  rw [R_open lp157_0.eq_1]
  simp [ixS_iv, hb0, Dc1, hN, aun, iv_add]
  rw [R_open lp157_0.eq_1]
  simp [k157_0, hd0, dc4, ixS_iv, hb0, e1, stp_ok hu]
  cases there <;> cases o <;> simp [aun, r157]
/-- a write that is carried out -/
theorem write_ok (h : AHeap) (d m fz room used wr a : Nat) (mu : Int) (keep : Value) (f2 : Value) (fa : FuncId) (first cap : Array Value) (hd : h.at d = some (.cells (dc mu room used m (iv a) keep false wr) (fz + 1))) (hlo : h.lo ≤ d) (hw : wr < 2 ^ 62) (ha : a ≠ 1) (ha2 : a < 2 ^ 62)
    (h' : AHeap) (v : Value) (hf2 : isUnd f2 = false) (hu : (first.toList ++ cap.toList).any isUnd = false) (he : D C fa (first.toList ++ cap.toList) (h.put d (.cells (dc mu room used m (iv (a - 1)) keep false (wr + 1)) (fz + 1))) = some (v, h')) :
    D C 159 [.pointer (some ⟨d, 0, some 0⟩), .func (.func fa) first cap, f2] h = some (iv 0, h') := by
  rw [D_fn T.h159]
  have hdl := get_lt hd
  have he2 : Dv C (.func (.func fa) first cap) [] (h.put d (.cells (dc mu room used m (iv (a - 1)) keep false (wr + 1)) (fz + 1))) = some (v, h') := by
    simp only [Dv, List.append_nil]
    rw [Dc_ok hu]; exact he
  by_cases h0 : a = 0
  · subst h0
    simp [b159, hd, dc8, iv_add (a := wr) (b := 1) (by omega), write1_wr, hlo, wdc8, put_self hdl, dc5, he2, r159]
  · have hok : okCell (iv (a - 1)) = true := rfl
    simp [b159, hd, dc8, iv_add (a := wr) (b := 1) (by omega), write1_wr, hlo, wdc8, put_self hdl, dc5, show 0 < a by omega, iv_sub (a := a) (b := 1) (by omega) (by omega), wdc5 hok, put_put, show ¬ a - 1 = 0 by omega, he2, r159]
/-- the write at which the power goes -/
theorem write_off (h : AHeap) (d m fz room used wr : Nat) (mu : Int) (k : Int) (f1 : Value) (fa : FuncId) (first cap : Array Value) (hd : h.at d = some (.cells (dc mu room used m (iv 1) (.int .i64 k) false wr) (fz + 1))) (hlo : h.lo ≤ d) (hw : wr < 2 ^ 62)
    (h' : AHeap) (v : Value) (hf1 : isUnd f1 = false) (hu : (first.toList ++ [Value.int .i64 k] ++ cap.toList).any isUnd = false) (he : D C fa (first.toList ++ [Value.int .i64 k] ++ cap.toList) (h.put d (.cells (dc mu room used m (iv 0) (.int .i64 k) true (wr + 1)) (fz + 1))) = some (v, h')) :
    D C 159 [.pointer (some ⟨d, 0, some 0⟩), f1, .func (.func fa) first cap] h = some (iv 94, h') := by
  rw [D_fn T.h159]
  have hdl := get_lt hd
  have he2 : Dv C (.func (.func fa) first cap) [.int .i64 k] (h.put d (.cells (dc mu room used m (iv 0) (.int .i64 k) true (wr + 1)) (fz + 1))) = some (v, h') := by
    simp only [Dv]
    rw [Dc_ok hu]; exact he
  have hok : okCell (iv 0) = true := rfl
  simp [b159, hd, dc8, iv_add (a := wr) (b := 1) (by omega), write1_wr, hlo, wdc8, put_self hdl, dc5, iv_sub (a := 1) (b := 1) (by omega) (by omega), wdc5 hok, put_put, wdc7, dc6, he2, r159]
/-- bytes are laid behind a file -/
theorem lay_spec (h : AHeap) (d m fz room used wr c wb db nb z1 z2 z3 : Nat) (mu : Int) (arm keep : Value) (off : Bool) (name : List UInt8) (o : Option (Value × Nat)) (content l : List UInt8) (a : Option Addr) (n cp : Nat)
    (H : DiskIs h mu d m fz room used arm keep off wr name o c content)
    (hw : h.at wb = some (.cells [fvOf o] z1)) (hdb : h.at db = some (.cells [.pointer (some ⟨d, 0, some 0⟩)] z2)) (hnb : h.at nb = some (.cells [str name] z3))
    (hs : SlR C.old h 1 (.slice a n cp) (bytesVals l))
    (hw1 : blkOf (fvOf o) ≠ some wb) (hd1 : blkOf (fvOf o) ≠ some db) (hn1 : blkOf (fvOf o) ≠ some nb) (hd2 : db ≠ m) (hwf : h.lo ≤ h.bs.length) (hsz : content.length + n < 2 ^ 40) (hus : used + n < 2 ^ 40) :
    ∃ h' o' c', D C 158 [.slice a n cp, .pointer (some ⟨wb, 0, some 0⟩), .pointer (some ⟨db, 0, some 0⟩), .pointer (some ⟨nb, 0, some 0⟩)] h = some (.tuple #[], h') ∧ o'.isSome = true ∧ DiskIs h' mu d m fz room (used + n) arm keep off wr name o' c' (content ++ l) ∧ Wr h h' d m o o' := by
  obtain ⟨hd, hm, ho, hlod, hlom, hdm, hbd, hbm⟩ := H
  have hlen : l.length = n := by have := hs.len; simpa using this
  obtain ⟨fv', h1, e1, o1, f1, b1⟩ := append_own (old := C.old) (bytes := 1) (x := .slice a n cp) (m := n) (new := bytesVals l) ho (by omega) rfl (fun hn => hs.src hn) (list_empty hlen) (by simp [hlen]) bytes_ok (by simp [sizeLim]; omega) hwf
  have hml := get_lt hm
  have hdl := get_lt hd
  have hd1' := f1.get hd (by simpa using hbd)
  have hm1' := f1.get hm (by simpa using hbm)
  have hdb1 := f1.get hdb (by simpa using hd1)
  have hnb1 := f1.get hnb (by simpa using hn1)
  have h1lo := f1.lo
  have h1len := f1.len
  have e2 : ∃ es' c' born', mup h1 .s (.map (some m)) (str name) fv' = some (.tuple #[], h1.put m (.map es' c')) ∧ es' = esOf name (some (fv', born')) := by
    cases o with
    | none => exact ⟨_, _, c, mup_no fits_str hm1' findE_esOf (by omega), rfl⟩
    | some p =>
      obtain ⟨v, b⟩ := p
      exact ⟨_, _, b, mup_yes fits_str hm1' findE_hit (by omega), rfl⟩
  obtain ⟨es', c', born', e2, rfl⟩ := e2
  have hd3 : (h1.put m (.map (esOf name (some (fv', born'))) c')).at d = some (.cells (dc mu room used m arm keep off wr) (fz + 1)) := by rw [put_ne (Ne.symm hdm)]; exact hd1'
  have hdb3 : (h1.put m (.map (esOf name (some (fv', born'))) c')).at db = some (.cells [.pointer (some ⟨d, 0, some 0⟩)] z2) := by rw [put_ne (Ne.symm hd2)]; exact hdb1
  have hfd : blkOf fv' ≠ some d := by
    rcases b1 with b1 | b1 <;> rw [b1]
    · exact hbd
    · simp; omega
  have hfm : blkOf fv' ≠ some m := by
    rcases b1 with b1 | b1 <;> rw [b1]
    · exact hbm
    · simp; omega
  have fp1 : Fr h1 (h1.put m (.map (esOf name (some (fv', born'))) c')) (fun j => j = m) := Fr.put rfl
  have fp2 : Fr (h1.put m (.map (esOf name (some (fv', born'))) c')) ((h1.put m (.map (esOf name (some (fv', born'))) c')).put d (.cells (dc mu room (used + n) m arm keep off wr) (fz + 1))) (fun j => j = d) := Fr.put rfl
  refine ⟨(h1.put m (.map (esOf name (some (fv', born'))) c')).put d (.cells (dc mu room (used + n) m arm keep off wr) (fz + 1)), some (fv', born'), c', ?_, rfl, ⟨?_, ?_, ?_, ?_, ?_, hdm, hfd, hfm⟩, ?_, ?_⟩
  · rw [D_fn T.h158]
    simp [b158, hdb, hd, dc4, hnb, hw, ho.und, e1, o1.und, e2, hdb1, hd1', hnb1, hdb3, hd3, dc3, iv_add (a := used) (b := n) (by omega), write1_wr, h1lo, hlod, wdc3, r158]
  · rw [put_self (by simp; omega)]
  · rw [put_ne hdm, put_self (by omega)]
  · rw [List.length_append, hlen, bytes_app]
    exact (o1.fr fp1 fun j hj hc => hfm (by rw [hj, hc])).fr fp2 fun j hj hc => hfd (by rw [hj, hc])
  · simp only [put_lo]; omega
  · simp only [put_lo]; omega
  · exact ((f1.trans fp1 (S'' := fun j => j = d ∨ j = m ∨ blkOf (fvOf o) = some j) (fun j hj => .inr (.inr hj)) (fun j hj _ => .inr (.inl hj))).trans fp2 (fun _ h => h) (fun j hj _ => .inl hj))
  · intro j hj
    have hj' : blkOf fv' = some j := hj
    rcases b1 with b1 | b1
    · rw [b1] at hj'; exact .inl hj'
    · rw [b1] at hj'; cases hj'; exact .inr (Nat.le_refl _)
end Go.Ab.Aud

namespace Go.Ab.Aud
variable {C : Ctx} (T : Tab_LLog C)
include T
set_option maxHeartbeats 4000000 in
/-- Append, up to the write -/
theorem append_pre (h : AHeap) (d m fz room used wr c : Nat) (arm keep : Value) (name : List UInt8) (o : Option (Value × Nat)) (content : List UInt8) (a : Option Addr) (n cp : Nat)
    (H : DiskIs h 0 d m fz room used arm keep false wr name o c content)
    (hwf : h.lo ≤ h.bs.length) (hus : used + n ≤ room) (hr : room < 2 ^ 39) (hN : ∀ h, D C 147 [str name] h = some (.bool true, h)) (Q : Nat → AHeap → Prop) (Z : Value → AHeap → Prop)
    (hZ : ∀ r h1 used' arm' keep' off' wr', h1.at d = some (.cells (dc 1 room used' m arm' keep' off' wr') (fz + 1)) → Q r h1 → Z (iv r) (h1.put d (.cells (dc 0 room used' m arm' keep' off' wr') (fz + 1))))
    (hcall : ∀ (B : AHeap) (lb bb wb db nb tb : Nat), DiskIs B 1 d m fz room used arm keep false wr name o c content →
      B.at lb = some (.cells [.func (.func 158) #[] #[.pointer (some ⟨wb, 0, some 0⟩), .pointer (some ⟨db, 0, some 0⟩), .pointer (some ⟨nb, 0, some 0⟩)]] 110) → B.at bb = some (.cells [.slice a n cp] 42) →
      B.at wb = some (.cells [fvOf o] 42) → B.at db = some (.cells [.pointer (some ⟨d, 0, some 0⟩)] 114) → B.at nb = some (.cells [str name] 10) → B.at tb = some (.cells [.bool o.isSome] 5) → Fr h B (fun j => j = d) →
      h.bs.length ≤ lb → h.bs.length ≤ bb → h.bs.length ≤ wb → h.bs.length ≤ db → h.bs.length ≤ nb → h.bs.length ≤ tb → B.lo ≤ B.bs.length →
      ∃ v h', D C 159 [.pointer (some ⟨d, 0, some 0⟩), .func (.func 160) #[] #[.pointer (some ⟨lb, 0, some 0⟩), .pointer (some ⟨bb, 0, some 0⟩)], .func (.func 161) #[] #[.pointer (some ⟨tb, 0, some 0⟩), .pointer (some ⟨lb, 0, some 0⟩), .pointer (some ⟨bb, 0, some 0⟩)]] B = some (v, h') ∧
        ∃ r used' arm' keep' off' wr', v = iv r ∧ h'.at d = some (.cells (dc 1 room used' m arm' keep' off' wr') (fz + 1)) ∧ h'.lo ≤ d ∧ Q r h') :
    ∃ v h', D C 93 [.pointer (some ⟨d, 0, some 0⟩), str name, .slice a n cp] h = some (v, h') ∧ Z v h' := by
  obtain ⟨hd, hm, ho, hlod, hlom, hdm, hbd, hbm⟩ := H
  have hdL := get_lt hd
  have hmL := get_lt hm
  have hu := ho.und
  have hokc := ho.okc
  generalize hL : h.bs.length = L at *
  have hob : ∀ j, blkOf (fvOf o) = some j → j < L := fun j hj => by have := ho.blk hj; omega
  have c8 : cellsOf (Value.slice a n cp) = [Value.slice a n cp] := rfl
  have hlk1 := fun (H : AHeap) (hm : H.at m = some (.map (esOf name o) c)) => lkp_es (ok := true) hm
  have hln1 := fun (H : AHeap) (e : H.at m = some (.map (esOf name o) c)) => mln_at e
  rw [D_fn T.h93]
  have hlock := fun (H : AHeap) (hd : H.at d = some (.cells (dc 0 room used m arm keep false wr) (fz + 1))) (hl : H.lo ≤ d) => lock_spec T H d 0 fz _ hd dc0 hl
  have hmay := fun (H : AHeap) (nb : Nat) (hd : H.at d = some (.cells (dc 1 room used m arm keep false wr) (fz + 1))) (hb : H.at nb = some (.cells [str name] 10)) (hm : H.at m = some (.map (esOf name o) c)) =>
    may_spec T H d nb m (fz + 1) 10 c room used wr 1 arm keep name o false hd hb hm hN hu
  have hcase : o.isSome = true ∨ o.isSome = false := by cases o.isSome <;> simp
  have hln : (esOf name o).length ≤ 1 := by
    cases o with
    | none => simp [esOf]
    | some p => simp [esOf]
  rcases hcase with hcase | hcase
  · simp (disch := (first | assumption | omega | (simp only [push_len, put_len, push_lo, put_lo, hL]; done) | (simp only [push_len, put_len, push_lo, put_lo, hL]; omega) | (simp (disch := (first | assumption | omega | (simp only [push_len, put_len, push_lo, put_lo, hL]; done) | (simp only [push_len, put_len, push_lo, put_lo, hL]; omega) | fail)) [push_lt, push_self', put_ne, put_self, hd, hm]; done) | fail)) [b93, hL, push_lt, push_self', put_ne, put_self, hd, hm, Dc1, Dc3, Dc_ok, hlock, cell1, dcs0, dfrS_ok T.h75, hmay, fillCells, splice, hlk1, hln1, dc4, dc2, dc3, write1_wr, wr1_box, stp_ok ho.und, ho.okc, hcase, iv_sub, show ¬ (room - used < n) by omega, show ¬ (64 ≤ (esOf name o).length) by omega]
    refine cal_intro (F := fun v h' => ∃ r used' arm' keep' off' wr', v = iv r ∧ h'.at d = some (.cells (dc 1 room used' m arm' keep' off' wr') (fz + 1)) ∧ h'.lo ≤ d ∧ Q r h') (hcall _ (L + 1 + 1 + 1 + 1 + 1 + 1) (L + 1 + 1) (L + 1 + 1 + 1 + 1) L (L + 1) (L + 1 + 1 + 1 + 1 + 1) ⟨(by simp (disch := (first | assumption | omega | (simp only [push_len, put_len, push_lo, put_lo, hL]; done) | (simp only [push_len, put_len, push_lo, put_lo, hL]; omega) | fail)) only [push_lt, push_self', put_ne, put_self, hd, hm]), (by simp (disch := (first | assumption | omega | (simp only [push_len, put_len, push_lo, put_lo, hL]; done) | (simp only [push_len, put_len, push_lo, put_lo, hL]; omega) | fail)) only [push_lt, push_self', put_ne, put_self, hd, hm]), ho.fr (S := fun j => j = d) (by repeat (first | exact Fr.refl _ _ | refine Fr.push' ?_ | refine Fr.put' ?_ (by first | exact .inl rfl | (right; omega)))) fun j hj hc => hbd (by rw [hj, hc]), by simp only [push_lo, put_lo]; omega, by simp only [push_lo, put_lo]; omega, hdm, hbd, hbm⟩
      (by simp (disch := (first | assumption | omega | (simp only [push_len, put_len, push_lo, put_lo, hL]; done) | (simp only [push_len, put_len, push_lo, put_lo, hL]; omega) | fail)) only [push_lt, push_self', put_ne, put_self, hd, hm]) (by simp (disch := (first | assumption | omega | (simp only [push_len, put_len, push_lo, put_lo, hL]; done) | (simp only [push_len, put_len, push_lo, put_lo, hL]; omega) | fail)) only [push_lt, push_self', put_ne, put_self, hd, hm]) (by simp (disch := (first | assumption | omega | (simp only [push_len, put_len, push_lo, put_lo, hL]; done) | (simp only [push_len, put_len, push_lo, put_lo, hL]; omega) | fail)) only [push_lt, push_self', put_ne, put_self, hd, hm]) (by simp (disch := (first | assumption | omega | (simp only [push_len, put_len, push_lo, put_lo, hL]; done) | (simp only [push_len, put_len, push_lo, put_lo, hL]; omega) | fail)) only [push_lt, push_self', put_ne, put_self, hd, hm]) (by simp (disch := (first | assumption | omega | (simp only [push_len, put_len, push_lo, put_lo, hL]; done) | (simp only [push_len, put_len, push_lo, put_lo, hL]; omega) | fail)) only [push_lt, push_self', put_ne, put_self, hd, hm]) (by rw [hcase]; simp (disch := (first | assumption | omega | (simp only [push_len, put_len, push_lo, put_lo, hL]; done) | (simp only [push_len, put_len, push_lo, put_lo, hL]; omega) | fail)) only [push_lt, push_self', put_ne, put_self, hd, hm]) (by repeat (first | exact Fr.refl _ _ | refine Fr.push' ?_ | refine Fr.put' ?_ (by first | exact .inl rfl | (right; omega)))) (by omega) (by omega) (by omega) (by omega) (by omega) (by omega) (by simp only [push_lo, put_lo, push_len, put_len]; omega)) ?_
    rintro v h' ⟨r, used', arm', keep', off', wr', rfl, hd', hlo', hQ⟩
    have hun := unlock_spec T h' d 0 fz _ hd' dc0 hlo'
    rw [dcs0] at hun
    exact ⟨iv r, h'.put d (.cells (dc 0 room used' m arm' keep' off' wr') (fz + 1)), by simp [hun, r93], hZ r h' used' arm' keep' off' wr' hd' hQ⟩
  · simp (disch := (first | assumption | omega | (simp only [push_len, put_len, push_lo, put_lo, hL]; done) | (simp only [push_len, put_len, push_lo, put_lo, hL]; omega) | (simp (disch := (first | assumption | omega | (simp only [push_len, put_len, push_lo, put_lo, hL]; done) | (simp only [push_len, put_len, push_lo, put_lo, hL]; omega) | fail)) [push_lt, push_self', put_ne, put_self, hd, hm]; done) | fail)) [b93, hL, push_lt, push_self', put_ne, put_self, hd, hm, Dc1, Dc3, Dc_ok, hlock, cell1, dcs0, dfrS_ok T.h75, hmay, fillCells, splice, hlk1, hln1, dc4, dc2, dc3, write1_wr, wr1_box, stp_ok ho.und, ho.okc, hcase, iv_sub, show ¬ (room - used < n) by omega, show ¬ (64 ≤ (esOf name o).length) by omega]
    refine cal_intro (F := fun v h' => ∃ r used' arm' keep' off' wr', v = iv r ∧ h'.at d = some (.cells (dc 1 room used' m arm' keep' off' wr') (fz + 1)) ∧ h'.lo ≤ d ∧ Q r h') (hcall _ (L + 1 + 1 + 1 + 1 + 1 + 1) (L + 1 + 1) (L + 1 + 1 + 1 + 1) L (L + 1) (L + 1 + 1 + 1 + 1 + 1) ⟨(by simp (disch := (first | assumption | omega | (simp only [push_len, put_len, push_lo, put_lo, hL]; done) | (simp only [push_len, put_len, push_lo, put_lo, hL]; omega) | fail)) only [push_lt, push_self', put_ne, put_self, hd, hm]), (by simp (disch := (first | assumption | omega | (simp only [push_len, put_len, push_lo, put_lo, hL]; done) | (simp only [push_len, put_len, push_lo, put_lo, hL]; omega) | fail)) only [push_lt, push_self', put_ne, put_self, hd, hm]), ho.fr (S := fun j => j = d) (by repeat (first | exact Fr.refl _ _ | refine Fr.push' ?_ | refine Fr.put' ?_ (by first | exact .inl rfl | (right; omega)))) fun j hj hc => hbd (by rw [hj, hc]), by simp only [push_lo, put_lo]; omega, by simp only [push_lo, put_lo]; omega, hdm, hbd, hbm⟩
      (by simp (disch := (first | assumption | omega | (simp only [push_len, put_len, push_lo, put_lo, hL]; done) | (simp only [push_len, put_len, push_lo, put_lo, hL]; omega) | fail)) only [push_lt, push_self', put_ne, put_self, hd, hm]) (by simp (disch := (first | assumption | omega | (simp only [push_len, put_len, push_lo, put_lo, hL]; done) | (simp only [push_len, put_len, push_lo, put_lo, hL]; omega) | fail)) only [push_lt, push_self', put_ne, put_self, hd, hm]) (by simp (disch := (first | assumption | omega | (simp only [push_len, put_len, push_lo, put_lo, hL]; done) | (simp only [push_len, put_len, push_lo, put_lo, hL]; omega) | fail)) only [push_lt, push_self', put_ne, put_self, hd, hm]) (by simp (disch := (first | assumption | omega | (simp only [push_len, put_len, push_lo, put_lo, hL]; done) | (simp only [push_len, put_len, push_lo, put_lo, hL]; omega) | fail)) only [push_lt, push_self', put_ne, put_self, hd, hm]) (by simp (disch := (first | assumption | omega | (simp only [push_len, put_len, push_lo, put_lo, hL]; done) | (simp only [push_len, put_len, push_lo, put_lo, hL]; omega) | fail)) only [push_lt, push_self', put_ne, put_self, hd, hm]) (by rw [hcase]; simp (disch := (first | assumption | omega | (simp only [push_len, put_len, push_lo, put_lo, hL]; done) | (simp only [push_len, put_len, push_lo, put_lo, hL]; omega) | fail)) only [push_lt, push_self', put_ne, put_self, hd, hm]) (by repeat (first | exact Fr.refl _ _ | refine Fr.push' ?_ | refine Fr.put' ?_ (by first | exact .inl rfl | (right; omega)))) (by omega) (by omega) (by omega) (by omega) (by omega) (by omega) (by simp only [push_lo, put_lo, push_len, put_len]; omega)) ?_
    rintro v h' ⟨r, used', arm', keep', off', wr', rfl, hd', hlo', hQ⟩
    have hun := unlock_spec T h' d 0 fz _ hd' dc0 hlo'
    rw [dcs0] at hun
    exact ⟨iv r, h'.put d (.cells (dc 0 room used' m arm' keep' off' wr') (fz + 1)), by simp [hun, r93], hZ r h' used' arm' keep' off' wr' hd' hQ⟩
end Go.Ab.Aud

namespace Go.Ab.Aud
/-- CRC-32, four bits at a time -/
def crcTab : List Nat := [0x00000000, 0x1db71064, 0x3b6e20c8, 0x26d930ac, 0x76dc4190, 0x6b6b51f4, 0x4db26158, 0x5005713c, 0xedb88320, 0xf00f9344, 0xd6d6a3e8, 0xcb61b38c, 0x9b64c2b0, 0x86d3d2d4, 0xa00ae278, 0xbdbdf21c]
def crcW (i : Nat) : BitVec 32 := BitVec.ofNat 32 (crcTab.getD i 0)
def lo4 (s : BitVec 32) : Nat := (s &&& 15#32).toNat
def crc4 (s : BitVec 32) : BitVec 32 := s >>> 4 ^^^ crcW (lo4 s)
def crcGo (s : BitVec 32) (l : List UInt8) : BitVec 32 := l.foldl (fun s c => crc4 (crc4 (s ^^^ Go.Sha.byteW c))) s
def crc (l : List UInt8) : BitVec 32 := ~~~ crcGo 4294967295#32 l
/-- the last bytes of a number, the highest first -/
def be (w x : Nat) : List UInt8 := match w with
  | 0 => []
  | w + 1 => UInt8.ofNat (x / 2 ^ (8 * w)) :: be w x
def frame (l : List UInt8) : List UInt8 := 0xc9 :: (be 4 l.length ++ be 4 (crc (0xc9 :: be 4 l.length)).toNat ++ l ++ be 4 (crc l).toNat)
theorem be_length (w x : Nat) : (be w x).length = w := by
  induction w with
  | zero => rfl
  | succ w ih => simp [be, ih]
theorem frame_length (l : List UInt8) : (frame l).length = l.length + 13 := by
  simp [frame, be_length]; omega
variable {C : Ctx} (T : Tab_LLog C)
include T
section
variable (hp : ∀ j, j < 16 → C.old 1 j = some (wv (crcW j)))
include hp
theorem crc_loop (h : AHeap) (l : List UInt8) (a : Addr) (n cp : Nat) (hr : n ≠ 0 → readN C.old h a n = some (bytesVals l)) (hn : l.length = n) (hn2 : n < 2 ^ 62) (Z : Res) (k : List AItem) (hZ : ∀ t', tg t' 3 = wv (crcGo 4294967295#32 l) → R C r216 k t' [] h = Z) :
    ∀ (d i : Nat) (t : List Value), i + d = n → tg t 3 = wv (crcGo 4294967295#32 (l.take i)) → tg t 6 = .slice (some a) n cp → tg t 7 = iv n → tg t 8 = iv i → R C r216 (.inLoop lp216_0 :: .inBlock 0 :: k) t [] h = Z
  | 0, i, t, hd, t3, t6, t7, t8 => by
    obtain rfl : i = n := by omega
    rw [R_open lp216_0.eq_1]
    rw [List.take_of_length_le (by omega)] at t3
    simp [t7, t8]
    exact hZ _ (by simp [t3])
  | d + 1, i, t, hd, t3, t6, t7, t8 => by
    rw [R_open lp216_0.eq_1]
    have hi : i < n := by omega
    obtain ⟨b, hb⟩ : ∃ b, l[i]? = some b := ⟨_, List.getElem?_eq_getElem (by omega)⟩
    have e1 : read1 C.old h (adda a i) = some (bv b) := by
      rw [readN_read1 (hr (by omega)) hi, bytes_get, hb]; rfl
    have hlt : ∀ s : BitVec 32, lo4 s < 16 := by
      intro s
      unfold lo4
      rw [BitVec.toNat_and]
      exact Nat.lt_of_le_of_lt Nat.and_le_right (by decide)
    have e2 : ∀ s : BitVec 32, ixA 1 16 (.pointer (some ⟨1, 0, none⟩)) (wv (s &&& 15#32)) = some (.pointer (some ⟨1, lo4 s, none⟩)) := by
      intro s
      rw [ixA_wv (hlt s)]
      simp [lo4]
    have e3 : ∀ s : BitVec 32, C.old 1 (lo4 s) = some (wv (crcW (lo4 s))) := fun s => hp _ (hlt s)
    have e15 : Value.int .u32 15 = wv 15#32 := rfl
    simp [t3, t6, t7, t8, hi, ixS_iv hi, e1, e15, w_shr, e2, read1_old, e3, iv_add (a := i) (b := 1) (by omega)]
    have ht : crcGo 4294967295#32 (l.take (i + 1)) = crc4 (crc4 (crcGo 4294967295#32 (l.take i) ^^^ Go.Sha.byteW b)) := by
      rw [List.take_add_one, hb]
      simp [crcGo, List.foldl_append]
    exact crc_loop h l a n cp hr hn hn2 Z k hZ d (i + 1) _ (by omega) (by simp [ht, crc4]) (by simp [t6]) (by simp [t7]) (by simp)
theorem crc_spec (h : AHeap) (l : List UInt8) (a : Option Addr) (n cp : Nat) (hs : SlR C.old h 1 (.slice a n cp) (bytesVals l)) (hn2 : n < 2 ^ 62) : D C 216 [.slice a n cp] h = some (wv (crc l), h) := by
  have hlen : l.length = n := by have := hs.len; simpa using this
  rw [D_fn2 T.h216]
  generalize hh0 : ({ h with lo := h.bs.length } : AHeap) = h0
  have hs0 : SlR C.old h0 1 (.slice a n cp) (bytesVals l) := by rw [← hh0]; exact hs.lo
  have e0 : Value.int .u32 4294967295 = wv 4294967295#32 := rfl
  cases a with
  | none =>
    obtain ⟨rfl, _, hc⟩ := hs0
    have : l = [] := List.eq_nil_of_length_eq_zero hlen
    subst this
    simp [b216, e0]
    rw [R_open lp216_0.eq_1]
    simp [k216_0, r216, crc, crcGo]
  | some a =>
    simp [b216, e0]
    rw [crc_loop T hp h0 l a n cp (fun hn => by have := hs0.read hn; simpa using this) hlen hn2 (some (wv (crc l), h0)) _ (fun t' ht => by simp [k216_0, ht, r216, crc]) n 0 _ (by omega) (by simp [crcGo]) (by simp) (by simp) (by simp)]
    simp
end

/-- a writer that has written some bytes -/
def WrAt (h : AHeap) (p fz : Nat) (v : Value) (c : List UInt8) : Prop := h.at p = some (.cells [v, iv 0] (fz + 1)) ∧ Own h 5 1 v c.length (bytesVals c) ∧ blkOf v ≠ some p ∧ h.lo ≤ p
omit T in
theorem wr_two {h : AHeap} {b fz : Nat} {x y v : Value} (hv : okCell v = true) : wr1 h b (some (.cells [x, y] (fz + 1))) 0 0 v = some (h.put b (.cells [v, y] (fz + 1))) := by rw [wr1_cells (by simp) hv]; rfl
omit T in
theorem num_step (h : AHeap) (p fz : Nat) (v : Value) (c : List UInt8) (x s : Nat) (v6 : Value) (t : List Value) (H : WrAt h p fz v c) (hwf : h.lo ≤ h.bs.length) (hc : c.length < 2 ^ 39) (hs : s < 64) (h6 : abin .sub (iv s) (iv 8) = some v6) (hu6 : isUnd v6 = false)
    (t0 : tg t 0 = .pointer (some ⟨p, 0, some 0⟩)) (t1 : tg t 1 = uv x) (t6 : tg t 6 = iv s) :
    ∃ t', (∃ h' v', (∀ k, R C r114 (.inLoop lp114_0 :: k) t [] h = R C r114 (.inLoop lp114_0 :: k) t' [] h') ∧ WrAt h' p fz v' (c ++ [UInt8.ofNat (x / 2 ^ s)]) ∧ Fr h h' (fun j => j = p ∨ blkOf v = some j) ∧ (blkOf v' = blkOf v ∨ ∃ j, blkOf v' = some j ∧ h.bs.length ≤ j)) ∧
      tg t' 0 = .pointer (some ⟨p, 0, some 0⟩) ∧ tg t' 1 = uv x ∧ tg t' 6 = v6 := by
  obtain ⟨hp, ho, hb, hlo⟩ := H
  have hpl := get_lt hp
  have f1 : Fr h (h.push (.cells [bv (UInt8.ofNat (x / 2 ^ s))] 6)) (fun _ => False) := Fr.push
  obtain ⟨v', h1, e1, o1, f2, b2⟩ := append_own (old := C.old) (bytes := 1) (x := .slice (some ⟨h.bs.length, 0, some 0⟩) 1 1) (m := 1) (new := [bv (UInt8.ofNat (x / 2 ^ s))]) (ho.fr f1 fun _ _ h => h) (by omega) rfl
    (fun _ => by simp only [srcCells]; rw [readN_rd, push_self]; rfl) (fun h => by cases h) rfl rfl (by simp [sizeLim]; omega) (by simp; omega)
  have p1 : (h.push (.cells [bv (UInt8.ofNat (x / 2 ^ s))] 6)).at p = some (.cells [v, iv 0] (fz + 1)) := f1.get hp (fun h => h)
  have p2 := f2.get p1 hb
  have l2 := f2.len
  simp only [push_len] at l2
  have o2 := f2.lo
  simp only [push_lo] at o2
  have hvp : blkOf v' ≠ some p := by
    rcases b2 with b2 | b2 <;> rw [b2]
    · exact hb
    · simp; omega
  have f3 : Fr h1 (h1.put p (.cells [v', iv 0] (fz + 1))) (fun j => j = p) := Fr.put rfl
  have e : ∃ t', (∀ k, R C r114 (.inLoop lp114_0 :: k) t [] h = R C r114 (.inLoop lp114_0 :: k) t' [] (h1.put p (.cells [v', iv 0] (fz + 1)))) ∧ tg t' 0 = .pointer (some ⟨p, 0, some 0⟩) ∧ tg t' 1 = uv x ∧ tg t' 6 = v6 := by
    refine ex_step (fun k => R_open lp114_0.eq_1) ?_
    have hz : Value.int .u8 0 = bv 0 := rfl
    have z1 : splice [bv 0] 0 [bv (UInt8.ofNat (x / 2 ^ s))] = [bv (UInt8.ofNat (x / 2 ^ s))] := rfl
    simp [t0, t1, t6, hp, p1, p2, ho.und, uv_shri hs, hz, fillCells, z1, e1, o1.und, o1.okc, stp_ok, write1_wr, o2, hlo, wr_two, h6, hu6]
    exact ⟨_, fun _ => rfl, by simp [t0], by simp [t1], by simp⟩
  obtain ⟨t', e, u0, u1, u6⟩ := e
  refine ⟨t', ⟨_, v', e, ⟨put_self (get_lt p2), ?_, hvp, by rw [put_lo, o2]; exact hlo⟩, ?_, ?_⟩, u0, u1, u6⟩
  · have := o1.fr f3 (fun j hj hc => hvp (by rw [hj, hc]))
    simpa [bytes_app, bytesVals_eq] using this
  · exact ((f1.trans f2 (S'' := fun j => j = p ∨ blkOf v = some j) (fun _ h => h.elim) (fun _ h _ => .inr h))).trans f3 (fun _ h => h) (fun _ h _ => .inl h)
  · exact b2.imp_right fun h => ⟨_, h, by simp⟩
/-- a number of one byte -/
theorem num1_spec (h : AHeap) (p fz : Nat) (v : Value) (c : List UInt8) (x : Nat) (H : WrAt h p fz v c) (hwf : h.lo ≤ h.bs.length) (hc : c.length < 2 ^ 38) (hx : x < 256) :
    ∃ h' v', D C 114 [.pointer (some ⟨p, 0, some 0⟩), uv x, iv 1] h = some (.tuple #[], h') ∧ WrAt h' p fz v' (c ++ be 1 x) ∧ Fr h h' (fun j => j = p ∨ blkOf v = some j) ∧ (blkOf v' = blkOf v ∨ ∃ j, blkOf v' = some j ∧ h.bs.length ≤ j) := by
  rw [D_fn T.h114]
  have hx0 : x / 2 ^ 8 = 0 := by omega
  have m8 : abin .sub (iv 0) (iv 8) = some (.int .i64 (-8)) := rfl
  have g8 : abin .geq (.int .i64 (-8)) (iv 0) = some (.bool false) := rfl
  have E : ∃ t, R C r114 [.code b114] [.pointer (some ⟨p, 0, some 0⟩), uv x, iv 1] [] h = R C r114 [.inLoop lp114_0, .inBlock 0] t [] h ∧ tg t 0 = .pointer (some ⟨p, 0, some 0⟩) ∧ tg t 1 = uv x ∧ tg t 6 = iv 0 := by
    simp [b114, H.1, iv_mul, uv_shri, hx0, iv_sub]
    exact ⟨_, rfl, by simp, by simp, by simp⟩
  obtain ⟨t, E, t0, t1, t6⟩ := E
  rw [E]
  obtain ⟨t', ⟨h', v', e1, g1, g2, g3⟩, u0, u1, u6⟩ := num_step (C := C) h p fz v c x 0 _ t H hwf (by omega) (by omega) m8 rfl t0 t1 t6
  rw [e1, R_open lp114_0.eq_1]
  simp [u6, g8, r114]
  exact ⟨v', by simpa [be] using g1, g2, g3⟩
/-- a number of four bytes -/
theorem num4_spec (h : AHeap) (p fz : Nat) (v : Value) (c : List UInt8) (x : Nat) (H : WrAt h p fz v c) (hwf : h.lo ≤ h.bs.length) (hc : c.length < 2 ^ 38) (hx : x < 4294967296) :
    ∃ h' v', D C 114 [.pointer (some ⟨p, 0, some 0⟩), uv x, iv 4] h = some (.tuple #[], h') ∧ WrAt h' p fz v' (c ++ be 4 x) ∧ Fr h h' (fun j => j = p ∨ blkOf v = some j) ∧ (blkOf v' = blkOf v ∨ ∃ j, blkOf v' = some j ∧ h.bs.length ≤ j) := by
  rw [D_fn T.h114]
  have hx0 : x / 4294967296 = 0 := by omega
  have m8 : abin .sub (iv 0) (iv 8) = some (.int .i64 (-8)) := rfl
  have g8 : abin .geq (.int .i64 (-8)) (iv 0) = some (.bool false) := rfl
  have E : ∃ t, R C r114 [.code b114] [.pointer (some ⟨p, 0, some 0⟩), uv x, iv 4] [] h = R C r114 [.inLoop lp114_0, .inBlock 0] t [] h ∧ tg t 0 = .pointer (some ⟨p, 0, some 0⟩) ∧ tg t 1 = uv x ∧ tg t 6 = iv 24 := by
    simp [b114, H.1, iv_mul, uv_shri, hx0, iv_sub]
    exact ⟨_, rfl, by simp, by simp, by simp⟩
  obtain ⟨t, E, t0, t1, t6⟩ := E
  rw [E]
  obtain ⟨ta, ⟨ha, va, ea, ga1, ga2, ga3⟩, a0, a1, a6⟩ := num_step (C := C) h p fz v c x 24 (iv 16) t H hwf (by omega) (by omega) rfl rfl t0 t1 t6
  rw [ea]
  have la := ga2.len
  have oa := ga2.lo
  obtain ⟨tb, ⟨hb, vb, eb, gb1, gb2, gb3⟩, b0, b1, b6⟩ := num_step (C := C) ha p fz va _ x 16 (iv 8) ta ga1 (by omega) (by simp; omega) (by omega) rfl rfl a0 a1 a6
  rw [eb]
  have lb := gb2.len
  have ob := gb2.lo
  obtain ⟨tc, ⟨hc', vc, ec, gc1, gc2, gc3⟩, c0, c1, c6⟩ := num_step (C := C) hb p fz vb _ x 8 (iv 0) tb gb1 (by omega) (by simp; omega) (by omega) rfl rfl b0 b1 b6
  rw [ec]
  have lc := gc2.len
  have oc := gc2.lo
  obtain ⟨td, ⟨hd, vd, ed, gd1, gd2, gd3⟩, d0, d1, d6⟩ := num_step (C := C) hc' p fz vc _ x 0 (.int .i64 (-8)) tc gc1 (by omega) (by simp; omega) (by omega) m8 rfl c0 c1 c6
  rw [ed, R_open lp114_0.eq_1]
  simp [d6, g8, r114]
  have chain : ∀ {h1 h2 h3 : AHeap} {v1 v2 v3 : Value}, Fr h1 h2 (fun j => j = p ∨ blkOf v1 = some j) → (blkOf v2 = blkOf v1 ∨ ∃ j, blkOf v2 = some j ∧ h1.bs.length ≤ j) → Fr h2 h3 (fun j => j = p ∨ blkOf v2 = some j) → (blkOf v3 = blkOf v2 ∨ ∃ j, blkOf v3 = some j ∧ h2.bs.length ≤ j) →
      Fr h1 h3 (fun j => j = p ∨ blkOf v1 = some j) ∧ (blkOf v3 = blkOf v1 ∨ ∃ j, blkOf v3 = some j ∧ h1.bs.length ≤ j) := by
    intro h1 h2 h3 v1 v2 v3 f1 b1 f2 b2
    refine ⟨f1.trans f2 (fun _ h => h) (fun j hj hl => hj.imp_right fun hj => ?_), ?_⟩
    · rcases b1 with b1 | ⟨i, b1, b1'⟩
      · rw [← b1]; exact hj
      · rw [b1] at hj; cases hj; omega
    · rcases b2 with b2 | ⟨i, b2, b2'⟩
      · rw [b2]; exact b1
      · exact .inr ⟨i, b2, by have := f1.len; omega⟩
  have q1 := chain ga2 ga3 gb2 gb3
  have q2 := chain q1.1 q1.2 gc2 gc3
  have q3 := chain q2.1 q2.2 gd2 gd3
  exact ⟨vd, by simpa [be] using gd1, q3.1, q3.2⟩
end Go.Ab.Aud

namespace Go.Ab.Aud
theorem own_sl {old : Old} {h : AHeap} {v : Value} {c : List UInt8} (o : Own h 5 1 v c.length (bytesVals c)) : ∃ a cp, v = .slice a c.length cp ∧ SlR old h 1 (.slice a c.length cp) (bytesVals c) := by
  obtain ⟨a, cp, rfl⟩ := o.slice
  exact ⟨a, cp, rfl, o.sl (by omega)⟩
theorem WrAt.fr {h h' : AHeap} {p fz : Nat} {v : Value} {c : List UInt8} {S : Nat → Prop} (H : WrAt h p fz v c) (f : Fr h h' S) (hs : ¬ S p) (hb : ∀ j, blkOf v = some j → ¬ S j) : WrAt h' p fz v c :=
  ⟨f.get H.1 hs, H.2.1.fr f hb, H.2.2.1, by rw [f.lo]; exact H.2.2.2⟩
variable {C : Ctx} (T : Tab_LLog C) (hp : ∀ j, j < 16 → C.old 1 j = some (wv (crcW j)))
include T hp
theorem frame_spec (h : AHeap) (l : List UInt8) (a : Option Addr) (n cp : Nat) (hs : SlR C.old h 1 (.slice a n cp) (bytesVals l)) (hwf : h.lo ≤ h.bs.length) (hn : n ≤ 16777216) :
    ∃ h' v', D C 151 [.slice a n cp] h = some (.tuple #[v', iv 0], h') ∧ Own h' 5 1 v' (frame l).length (bytesVals (frame l)) ∧ Fr h h' (fun _ => False) ∧ (∀ j, blkOf v' = some j → h.bs.length ≤ j) := by
  have hlen : l.length = n := by have := hs.len; simpa using this
  rw [D_fn T.h151]
  generalize hL : h.bs.length = L at *
  have f0 : Fr h (h.push (.cells [.slice none 0 0, iv 0] (175 + 1))) (fun _ => False) := Fr.push
  have W0 : WrAt (h.push (.cells [.slice none 0 0, iv 0] (175 + 1))) L 175 (.slice none 0 0) [] := ⟨push_self' hL.symm, .nil, by simp [blkOf], hwf⟩
  obtain ⟨h1, v1, e1, W1, f1, b1⟩ := num1_spec T _ L 175 _ [] 201 W0 (by simp; omega) (by simp) (by omega)
  rw [List.nil_append] at W1
  have inv1 : (∀ j, blkOf v1 = some j → L ≤ j) := fun j hj => by
    rcases b1 with b1 | ⟨i, b1, b1'⟩ <;> rw [b1] at hj <;> cases hj
    simp [hL] at b1'; omega
  have F1 : Fr h h1 (fun j => L ≤ j) := f0.trans f1 (fun _ h => h.elim) (fun j hj _ => by rcases hj with rfl | hj; exact Nat.le_refl _; cases hj)
  have l1 := F1.len
  have o1 := F1.lo
  obtain ⟨h2, v2, e2, W2, f2, b2⟩ := num4_spec T _ L 175 _ _ n W1 (by omega) (by simp [be]) (by omega)
  have inv2 : (∀ j, blkOf v2 = some j → L ≤ j) := fun j hj => by
    rcases b2 with b2 | ⟨i, b2, b2'⟩ <;> rw [b2] at hj
    · exact inv1 j hj
    · cases hj; omega
  have F2 : Fr h h2 (fun j => L ≤ j) := F1.trans f2 (fun _ h => h) (fun j hj _ => by rcases hj with rfl | hj; exact Nat.le_refl _; exact inv1 j hj)
  have l2 := F2.len
  have o2 := F2.lo
  obtain ⟨a2, cp2, hv2, s2⟩ := own_sl (old := C.old) W2.2.1
  have ec2 := crc_spec T hp h2 _ a2 _ cp2 s2 (by simp [be])
  rw [← hv2] at ec2
  obtain ⟨h3, v3, e3, W3, f3, b3⟩ := num4_spec T h2 L 175 _ _ (crc (be 1 201 ++ be 4 n)).toNat W2 (by omega) (by simp [be]) (BitVec.isLt _)
  have inv3 : (∀ j, blkOf v3 = some j → L ≤ j) := fun j hj => by
    rcases b3 with b3 | ⟨i, b3, b3'⟩ <;> rw [b3] at hj
    · exact inv2 j hj
    · cases hj; omega
  have F3 : Fr h h3 (fun j => L ≤ j) := F2.trans f3 (fun _ h => h) (fun j hj _ => by rcases hj with rfl | hj; exact Nat.le_refl _; exact inv2 j hj)
  have l3 := F3.len
  have o3 := F3.lo
  have hlv : ∀ j, Live (.slice a n cp) j → j < L := fun j hj => by have := hs.live_lt hj; omega
  have s3 : SlR C.old h3 1 (.slice a n cp) (bytesVals l) := hs.fr F3 (fun j hj => by have := hlv j hj; omega)
  obtain ⟨v4, h4, e4, w4, f4, b4⟩ := append_own (old := C.old) (bytes := 1) (x := .slice a n cp) (m := n) (new := bytesVals l) W3.2.1 (by omega) rfl (fun hn => s3.src hn) (list_empty hlen) (by simp [hlen]) bytes_ok (by simp [sizeLim, be]; omega) (by omega)
  have inv4 : (∀ j, blkOf v4 = some j → L ≤ j) := fun j hj => by
    rcases b4 with b4 | b4 <;> rw [b4] at hj
    · exact inv3 j hj
    · cases hj; omega
  have p4 := f4.get W3.1 W3.2.2.1
  have n4 : blkOf v4 ≠ some L := by
    rcases b4 with b4 | b4 <;> rw [b4]
    · exact W3.2.2.1
    · have := get_lt W3.1; simp; omega
  have F4 : Fr h h4 (fun j => L ≤ j) := F3.trans f4 (fun _ h => h) (fun j hj _ => inv3 j hj)
  have l4 := F4.len
  have o4 := F4.lo
  have f5 : Fr h4 (h4.put L (.cells [v4, iv 0] (175 + 1))) (fun j => j = L) := Fr.put rfl
  have W5 : WrAt (h4.put L (.cells [v4, iv 0] (175 + 1))) L 175 v4 (be 1 201 ++ be 4 n ++ be 4 (crc (be 1 201 ++ be 4 n)).toNat ++ l) := by
    refine ⟨put_self (get_lt p4), ?_, n4, by simp only [put_lo]; omega⟩
    have := w4.fr f5 (fun j hj hc => n4 (by rw [hj, hc]))
    rw [bytes_app, List.length_append, hlen]
    exact this
  have F5 : Fr h (h4.put L (.cells [v4, iv 0] (175 + 1))) (fun j => L ≤ j) := F4.trans f5 (fun _ h => h) (fun j hj _ => by omega)
  have s5 : SlR C.old (h4.put L (.cells [v4, iv 0] (175 + 1))) 1 (.slice a n cp) (bytesVals l) := hs.fr F5 (fun j hj => by have := hlv j hj; omega)
  have ec5 := crc_spec T hp _ l a n cp s5 (by omega)
  obtain ⟨h6, v6, e6, W6, f6, b6⟩ := num4_spec T _ L 175 _ _ (crc l).toNat W5 (by simp; omega) (by simp [be]; omega) (BitVec.isLt _)
  have inv6 : (∀ j, blkOf v6 = some j → L ≤ j) := fun j hj => by
    rcases b6 with b6 | ⟨i, b6, b6'⟩ <;> rw [b6] at hj
    · exact inv4 j hj
    · cases hj; simp at b6'; omega
  have F6 : Fr h h6 (fun j => L ≤ j) := F5.trans f6 (fun _ h => h) (fun j hj _ => by rcases hj with rfl | hj; exact Nat.le_refl _; exact inv4 j hj)
  have hfr : be 1 201 ++ be 4 n ++ be 4 (crc (be 1 201 ++ be 4 n)).toNat ++ l ++ be 4 (crc l).toNat = frame l := by
    have : be 1 201 = [201] := rfl
    rw [this]
    simp [frame, hlen]
  rw [hfr] at W6
  refine ⟨h6, v6, ?_, W6.2.1, F6.mono fun j hj hl => by omega, inv6⟩
  have u6 := W6.2.1.und
  have u2 := W2.2.1.und
  have u3 := W3.2.1.und
  simp [b151, hL, show ¬ 16777216 < n by omega, Dc_ok, e1, cvt_iu (show n < 18446744073709551616 by omega), e2, W2.1, stp_ok u2, u2, ec2, e3, W3.1, stp_ok u3, e4, stp_ok w4.und, write1_wr, o4, hwf, p4, wr_two, w4.okc, ec5, e6, W6.1, stp_ok u6, r151]
end Go.Ab.Aud

namespace Go.Ab.Aud
theorem sl_bytes {old : Old} {h : AHeap} {l : List UInt8} {a : Option Addr} {n cp : Nat} (hs : SlR old h 1 (.slice a n cp) (bytesVals l)) {lo hi : Option Int} {x y : Nat} (hl : lo.getD 0 = x) (hu : hi.getD n = y) (h1 : x ≤ y) (h2 : y ≤ n) :
    ∃ a' cp', sliceV h 1 (.slice a n cp) lo hi none = some (.slice a' (y - x) cp') ∧ SlR old h 1 (.slice a' (y - x) cp') (bytesVals ((l.drop x).take (y - x))) := by
  obtain ⟨a', cp', e, s, _⟩ := hs.part hl hu h1 h2
  refine ⟨a', cp', e, ?_⟩
  have : ((bytesVals l).drop (x * 1)).take ((y - x) * 1) = bytesVals ((l.drop x).take (y - x)) := by
    simp [bytesVals, List.map_drop, List.map_take]
  rwa [this] at s
theorem dc_inj {z : Nat} {mu : Int} {room used m wr used' wr' : Nat} {arm keep arm' keep' : Value} {off off' : Bool} (h : some (ABlock.cells (dc mu room used m arm keep off wr) z) = some (ABlock.cells (dc mu room used' m arm' keep' off' wr') z)) :
    used = used' ∧ arm = arm' ∧ keep = keep' ∧ off = off' ∧ wr = wr' := by
  simp only [dc, iv, Option.some.injEq, ABlock.cells.injEq, List.cons.injEq, Value.int.injEq, Value.bool.injEq, true_and, and_true, Int.natCast_inj] at h
  exact h
/-- so much of a write is kept -/
def kept (k : Int) (n : Nat) : Nat := (min k n).toNat
theorem kept_le {k : Int} {n : Nat} : kept k n ≤ n := by unfold kept; omega
variable {C : Ctx} (T : Tab_LLog C)
include T
theorem append_core (B : AHeap) (d m fz room used wr c lb bb wb db nb : Nat) (ar : Nat) (keep : Value) (name : List UInt8) (o : Option (Value × Nat)) (content l : List UInt8) (a : Option Addr) (n cp : Nat) (f2 : Value)
    (H : DiskIs B 1 d m fz room used (iv ar) keep false wr name o c content)
    (hlb : B.at lb = some (.cells [.func (.func 158) #[] #[.pointer (some ⟨wb, 0, some 0⟩), .pointer (some ⟨db, 0, some 0⟩), .pointer (some ⟨nb, 0, some 0⟩)]] 110)) (hbb : B.at bb = some (.cells [.slice a n cp] 42))
    (hw : B.at wb = some (.cells [fvOf o] 42)) (hdb : B.at db = some (.cells [.pointer (some ⟨d, 0, some 0⟩)] 114)) (hnb : B.at nb = some (.cells [str name] 10))
    (hs : SlR C.old B 1 (.slice a n cp) (bytesVals l)) (hlive : ∀ j, Live (.slice a n cp) j → j ≠ d)
    (hw1 : blkOf (fvOf o) ≠ some wb) (hd1 : blkOf (fvOf o) ≠ some db) (hn1 : blkOf (fvOf o) ≠ some nb) (hd2 : db ≠ m) (n1 : lb ≠ d) (n2 : bb ≠ d) (n3 : wb ≠ d) (n4 : db ≠ d) (n5 : nb ≠ d) (hwf : B.lo ≤ B.bs.length) (hsz : content.length + n < 2 ^ 40) (hus : used + n < 2 ^ 40) (hwr : wr < 2 ^ 62) (hf2 : isUnd f2 = false) (har : ar ≠ 1) (har2 : ar < 2 ^ 62) :
    ∃ h', D C 159 [.pointer (some ⟨d, 0, some 0⟩), .func (.func 160) #[] #[.pointer (some ⟨lb, 0, some 0⟩), .pointer (some ⟨bb, 0, some 0⟩)], f2] B = some (iv 0, h') ∧
      ∃ o' c', o'.isSome = true ∧ DiskIs h' 1 d m fz room (used + n) (iv (ar - 1)) keep false (wr + 1) name o' c' (content ++ l) ∧ Wr B h' d m o o' := by
  have hdl := get_lt H.hd
  have HA : DiskIs (B.put d (.cells (dc 1 room used m (iv (ar - 1)) keep false (wr + 1)) (fz + 1))) 1 d m fz room used (iv (ar - 1)) keep false (wr + 1) name o c content := H.set
  generalize hA : B.put d (.cells (dc 1 room used m (iv (ar - 1)) keep false (wr + 1)) (fz + 1)) = A at HA
  have fA : Fr B A (fun j => j = d) := by rw [← hA]; exact Fr.put rfl
  have WA : Wr B A d m o o := by rw [← hA]; exact Wr.put
  obtain ⟨h', o', c', e, ho', D', W'⟩ := lay_spec T A d m fz room used (wr + 1) c wb db nb 42 114 10 1 (iv (ar - 1)) keep false name o content l a n cp HA
    (fA.get hw n3) (fA.get hdb n4) (fA.get hnb n5) (hs.fr fA fun j hj => hlive j hj) hw1 hd1 hn1 hd2 (by rw [fA.lo]; have := fA.len; omega) hsz hus
  have hlA := fA.get hlb n1
  have hbA := fA.get hbb n2
  have e2 : D C 160 [.pointer (some ⟨lb, 0, some 0⟩), .pointer (some ⟨bb, 0, some 0⟩)] A = some (.tuple #[], h') := by
    rw [D_fn T.h160]
    simp [b160, hlA, hbA, Dv, Dc_ok, e, r160]
  exact ⟨h', write_ok T B d m fz room used wr ar 1 keep f2 160 #[] #[.pointer (some ⟨lb, 0, some 0⟩), .pointer (some ⟨bb, 0, some 0⟩)] H.hd H.lod hwr har har2 h' _ hf2 rfl (by rw [hA]; exact e2), o', c', ho', D', WA.trans W'⟩
theorem append_coreO (hY : C.T fYield = none) (B : AHeap) (d m fz room used wr c lb bb wb db nb tb : Nat) (k : Int) (name : List UInt8) (o : Option (Value × Nat)) (content l : List UInt8) (a : Option Addr) (n cp : Nat) (f1 : Value)
    (H : DiskIs B 1 d m fz room used (iv 1) (.int .i64 k) false wr name o c content)
    (hlb : B.at lb = some (.cells [.func (.func 158) #[] #[.pointer (some ⟨wb, 0, some 0⟩), .pointer (some ⟨db, 0, some 0⟩), .pointer (some ⟨nb, 0, some 0⟩)]] 110)) (hbb : B.at bb = some (.cells [.slice a n cp] 42))
    (hw : B.at wb = some (.cells [fvOf o] 42)) (hdb : B.at db = some (.cells [.pointer (some ⟨d, 0, some 0⟩)] 114)) (hnb : B.at nb = some (.cells [str name] 10)) (htb : B.at tb = some (.cells [.bool o.isSome] 5))
    (hs : SlR C.old B 1 (.slice a n cp) (bytesVals l)) (hlive : ∀ j, Live (.slice a n cp) j → j ≠ d)
    (hw1 : blkOf (fvOf o) ≠ some wb) (hd1 : blkOf (fvOf o) ≠ some db) (hn1 : blkOf (fvOf o) ≠ some nb) (hd2 : db ≠ m) (n1 : lb ≠ d) (n2 : bb ≠ d) (n3 : wb ≠ d) (n4 : db ≠ d) (n5 : nb ≠ d) (n6 : tb ≠ d) (hwf : B.lo ≤ B.bs.length) (hsz : content.length + n < 2 ^ 40) (hus : used + n < 2 ^ 40) (hwr : wr < 2 ^ 62) (hf1 : isUnd f1 = false) :
    ∃ h', D C 159 [.pointer (some ⟨d, 0, some 0⟩), f1, .func (.func 161) #[] #[.pointer (some ⟨tb, 0, some 0⟩), .pointer (some ⟨lb, 0, some 0⟩), .pointer (some ⟨bb, 0, some 0⟩)]] B = some (iv 94, h') ∧
      ∃ o' c', (o'.isSome = (o.isSome || decide (0 < k))) ∧ DiskIs h' 1 d m fz room (used + kept k n) (iv 0) (.int .i64 k) true (wr + 1) name o' c' (content ++ l.take (kept k n)) ∧ Wr B h' d m o o' := by
  have hdl := get_lt H.hd
  have HA : DiskIs (B.put d (.cells (dc 1 room used m (iv 0) (.int .i64 k) true (wr + 1)) (fz + 1))) 1 d m fz room used (iv 0) (.int .i64 k) true (wr + 1) name o c content := H.set
  generalize hA : B.put d (.cells (dc 1 room used m (iv 0) (.int .i64 k) true (wr + 1)) (fz + 1)) = A at HA
  have fA : Fr B A (fun j => j = d) := by rw [← hA]; exact Fr.put rfl
  have WA : Wr B A d m o o := by rw [← hA]; exact Wr.put
  have hlA := fA.get hlb n1
  have hbA := fA.get hbb n2
  have htA := fA.get htb n6
  have hsA := hs.fr fA fun j hj => hlive j hj
  have hkn := kept_le (k := k) (n := n)
  obtain ⟨a1, cp1, e1, s1'⟩ := sl_bytes hsA (lo := none) (hi := some (kept k n : Int)) (x := 0) (y := kept k n) rfl rfl (by omega) hkn
  rw [Nat.sub_zero] at e1 s1'
  rw [List.drop_zero] at s1'
  have hlt : (l.take (kept k n)).length = kept k n := by have := s1'.len; simpa using this
  obtain ⟨h', o', c', e, ho', D', W'⟩ := lay_spec T A d m fz room used (wr + 1) c wb db nb 42 114 10 1 (iv 0) (.int .i64 k) true name o content (l.take (kept k n)) a1 (kept k n) cp1 HA
    (fA.get hw n3) (fA.get hdb n4) (fA.get hnb n5) s1' hw1 hd1 hn1 hd2 (by rw [fA.lo]; have := fA.len; omega) (by omega) (by omega)
  have hmin : mm false (.int .i64 k) (Go.Ab.iv n) = some (.int .i64 (min k n)) := by
    simp only [mm, iv, Bool.false_eq_true, if_false, Option.some.injEq, Value.int.injEq, true_and]
    split <;> omega
  have hmax : mm true (Go.Ab.iv 0) (.int .i64 (min k n)) = some (Go.Ab.iv (kept k n)) := by
    simp only [mm, iv, if_true, Option.some.injEq, Value.int.injEq, true_and]
    unfold kept
    split <;> omega
  have hgt : abin .gtr (.int .i64 k) (Go.Ab.iv 0) = some (.bool (decide (0 < k))) := rfl
  have hY2 : ¬ ((158 : Nat) = fYield) := by decide
  by_cases hc : (o.isSome || decide (0 < k)) = true
  · have e2 : D C 161 [.int .i64 k, .pointer (some ⟨tb, 0, some 0⟩), .pointer (some ⟨lb, 0, some 0⟩), .pointer (some ⟨bb, 0, some 0⟩)] A = some (.tuple #[], h') := by
      rw [D_fn T.h161]
      cases ho : o.isSome with
      | true =>
        rw [ho] at htA
        simp [b161, hlA, hbA, htA, D_callv hY, hmin, hmax, e1, Dvn, hY2, Dc_ok, e, r161]
      | false =>
        rw [ho] at htA
        rw [ho] at hc
        have hk : 0 < k := by simpa using hc
        simp [b161, hlA, hbA, htA, D_callv hY, hmin, hmax, e1, Dvn, hY2, Dc_ok, e, r161, hgt, hk]
    exact ⟨h', write_off T B d m fz room used wr 1 k f1 161 #[] #[.pointer (some ⟨tb, 0, some 0⟩), .pointer (some ⟨lb, 0, some 0⟩), .pointer (some ⟨bb, 0, some 0⟩)] H.hd H.lod hwr h' _ hf1 rfl (by rw [hA]; exact e2), o', c', by rw [ho', hc], D', WA.trans W'⟩
  · have hc' : (o.isSome || decide (0 < k)) = false := by simpa using hc
    have ho : o.isSome = false := by cases h : o.isSome <;> simp_all
    have hk : ¬ 0 < k := by rw [ho] at hc; simpa using hc
    have hk0 : kept k n = 0 := by unfold kept; omega
    rw [ho] at htA
    have e2 : D C 161 [.int .i64 k, .pointer (some ⟨tb, 0, some 0⟩), .pointer (some ⟨lb, 0, some 0⟩), .pointer (some ⟨bb, 0, some 0⟩)] A = some (.tuple #[], A) := by
      rw [D_fn T.h161]
      simp [b161, hlA, hbA, htA, r161, hgt, hk]
    refine ⟨A, write_off T B d m fz room used wr 1 k f1 161 #[] #[.pointer (some ⟨tb, 0, some 0⟩), .pointer (some ⟨lb, 0, some 0⟩), .pointer (some ⟨bb, 0, some 0⟩)] H.hd H.lod hwr A _ hf1 rfl (by rw [hA]; exact e2), o, c, by rw [hc', ho], ?_, WA⟩
    rw [hk0, List.take_zero, List.append_nil, Nat.add_zero]
    exact HA
theorem disk_append (h : AHeap) (d m fz room used wr c ar : Nat) (keep : Value) (name : List UInt8) (o : Option (Value × Nat)) (content l : List UInt8) (a : Option Addr) (n cp : Nat)
    (H : DiskIs h 0 d m fz room used (iv ar) keep false wr name o c content) (hs : SlR C.old h 1 (.slice a n cp) (bytesVals l))
    (hlive : ∀ j, Live (.slice a n cp) j → j ≠ d ∧ j ≠ m ∧ blkOf (fvOf o) ≠ some j)
    (hwf : h.lo ≤ h.bs.length) (hsz : content.length + n < 2 ^ 40) (hus : used + n ≤ room) (hr : room < 2 ^ 39) (hw : wr < 2 ^ 62) (hN : ∀ h, D C 147 [str name] h = some (.bool true, h)) (har : ar ≠ 1) (har2 : ar < 2 ^ 62) :
    ∃ v h', D C 93 [.pointer (some ⟨d, 0, some 0⟩), str name, .slice a n cp] h = some (v, h') ∧ v = iv 0 ∧ ∃ o' c', o'.isSome = true ∧ DiskIs h' 0 d m fz room (used + n) (iv (ar - 1)) keep false (wr + 1) name o' c' (content ++ l) ∧ Wr h h' d m o o' := by
  have hdl := get_lt H.hd
  have hml := get_lt H.hm
  have hob : ∀ j, blkOf (fvOf o) = some j → j < h.bs.length := fun j hj => H.ho.blk hj
  refine append_pre T h d m fz room used wr c (iv ar) keep name o content a n cp H hwf hus hr hN (fun r h1 => r = 0 ∧ ∃ o' c', o'.isSome = true ∧ DiskIs h1 1 d m fz room (used + n) (iv (ar - 1)) keep false (wr + 1) name o' c' (content ++ l) ∧ Wr h h1 d m o o') _ ?_ ?_
  · rintro r h1 used' arm' keep' off' wr' hd1 ⟨rfl, o', c', ho', D', W'⟩
    obtain ⟨rfl, rfl, rfl, rfl, rfl⟩ := dc_inj (hd1.symm.trans D'.hd)
    exact ⟨rfl, o', c', ho', D'.set, W'.trans Wr.put⟩
  · intro B lb bb wb db nb tb HB hlb hbb hwb hdb hnb htb fB l1 l2 l3 l4 l5 l6 hwfB
    obtain ⟨h', e, o', c', ho', D', W'⟩ := append_core T B d m fz room used wr c lb bb wb db nb ar keep name o content l a n cp (.func (.func 161) #[] #[.pointer (some ⟨tb, 0, some 0⟩), .pointer (some ⟨lb, 0, some 0⟩), .pointer (some ⟨bb, 0, some 0⟩)]) HB hlb hbb hwb hdb hnb
      (hs.fr fB fun j hj => (hlive j hj).1) (fun j hj => (hlive j hj).1) (fun hc => by have := hob _ hc; omega) (fun hc => by have := hob _ hc; omega) (fun hc => by have := hob _ hc; omega) (by omega) (by omega) (by omega) (by omega) (by omega) (by omega) hwfB hsz (by omega) hw rfl har har2
    exact ⟨_, h', e, 0, _, _, _, _, _, rfl, D'.hd, D'.lod, rfl, o', c', ho', D', ⟨(fB.mono fun _ h _ => .inl h).trans W'.fr (fun _ h => h) (fun _ h _ => h), fun j hj => (W'.blk j hj).imp_right fun h => by have := fB.len; omega⟩⟩
theorem disk_appendO (hY : C.T fYield = none) (h : AHeap) (d m fz room used wr c : Nat) (k : Int) (name : List UInt8) (o : Option (Value × Nat)) (content l : List UInt8) (a : Option Addr) (n cp : Nat)
    (H : DiskIs h 0 d m fz room used (iv 1) (.int .i64 k) false wr name o c content) (hs : SlR C.old h 1 (.slice a n cp) (bytesVals l))
    (hlive : ∀ j, Live (.slice a n cp) j → j ≠ d ∧ j ≠ m ∧ blkOf (fvOf o) ≠ some j)
    (hwf : h.lo ≤ h.bs.length) (hsz : content.length + n < 2 ^ 40) (hus : used + n ≤ room) (hr : room < 2 ^ 39) (hw : wr < 2 ^ 62) (hN : ∀ h, D C 147 [str name] h = some (.bool true, h)) :
    ∃ v h', D C 93 [.pointer (some ⟨d, 0, some 0⟩), str name, .slice a n cp] h = some (v, h') ∧ v = iv 94 ∧ ∃ o' c', o'.isSome = (o.isSome || decide (0 < k)) ∧ DiskIs h' 0 d m fz room (used + kept k n) (iv 0) (.int .i64 k) true (wr + 1) name o' c' (content ++ l.take (kept k n)) ∧ Wr h h' d m o o' := by
  have hdl := get_lt H.hd
  have hml := get_lt H.hm
  have hob : ∀ j, blkOf (fvOf o) = some j → j < h.bs.length := fun j hj => H.ho.blk hj
  refine append_pre T h d m fz room used wr c (iv 1) (.int .i64 k) name o content a n cp H hwf hus hr hN (fun r h1 => r = 94 ∧ ∃ o' c', o'.isSome = (o.isSome || decide (0 < k)) ∧ DiskIs h1 1 d m fz room (used + kept k n) (iv 0) (.int .i64 k) true (wr + 1) name o' c' (content ++ l.take (kept k n)) ∧ Wr h h1 d m o o') _ ?_ ?_
  · rintro r h1 used' arm' keep' off' wr' hd1 ⟨rfl, o', c', ho', D', W'⟩
    obtain ⟨rfl, rfl, rfl, rfl, rfl⟩ := dc_inj (hd1.symm.trans D'.hd)
    exact ⟨rfl, o', c', ho', D'.set, W'.trans Wr.put⟩
  · intro B lb bb wb db nb tb HB hlb hbb hwb hdb hnb htb fB l1 l2 l3 l4 l5 l6 hwfB
    obtain ⟨h', e, o', c', ho', D', W'⟩ := append_coreO T hY B d m fz room used wr c lb bb wb db nb tb k name o content l a n cp (.func (.func 160) #[] #[.pointer (some ⟨lb, 0, some 0⟩), .pointer (some ⟨bb, 0, some 0⟩)]) HB hlb hbb hwb hdb hnb htb
      (hs.fr fB fun j hj => (hlive j hj).1) (fun j hj => (hlive j hj).1) (fun hc => by have := hob _ hc; omega) (fun hc => by have := hob _ hc; omega) (fun hc => by have := hob _ hc; omega) (by omega) (by omega) (by omega) (by omega) (by omega) (by omega) (by omega) hwfB hsz (by omega) hw rfl
    exact ⟨_, h', e, 94, _, _, _, _, _, rfl, D'.hd, D'.lod, rfl, o', c', ho', D', ⟨(fB.mono fun _ h _ => .inl h).trans W'.fr (fun _ h => h) (fun _ h _ => h), fun j hj => (W'.blk j hj).imp_right fun h => by have := fB.len; omega⟩⟩
end Go.Ab.Aud

namespace Go.Ab.Aud
variable {C : Ctx} (T : Tab_LLog C) (hp : ∀ j, j < 16 → C.old 1 j = some (wv (crcW j)))
/-- a log of records -/
def wc (d : Nat) (name : List UInt8) (sz : Nat) (off : Bool) : List Value := [.pointer (some ⟨d, 0, some 0⟩), str name, iv sz, .bool off]
section
variable {d sz : Nat} {name : List UInt8} {off : Bool}
theorem wc0 : (wc d name sz off)[0]? = some (.pointer (some ⟨d, 0, some 0⟩)) := nr rfl
theorem wc1 : (wc d name sz off)[1]? = some (str name) := nr rfl
theorem wc2 : (wc d name sz off)[2]? = some (iv sz) := nr rfl
theorem wc3 : (wc d name sz off)[3]? = some (.bool off) := nr rfl
theorem wwc2 {x b fz : Nat} {h : AHeap} : wr1 h b (some (.cells (wc d name sz off) (fz + 1))) 2 0 (iv x) = some (h.put b (.cells (wc d name x off) (fz + 1))) := by rw [wr1_cells (by simp [wc]) rfl]; rfl
theorem wwc3 {b fz : Nat} {x : Bool} {h : AHeap} : wr1 h b (some (.cells (wc d name sz off) (fz + 1))) 3 0 (.bool x) = some (h.put b (.cells (wc d name sz x) (fz + 1))) := by rw [wr1_cells (by simp [wc]) rfl]; rfl
end
include T hp
theorem wal_append (h : AHeap) (w d m fw fz room used wr c sz ar : Nat) (keep : Value) (name : List UInt8) (o : Option (Value × Nat)) (content l : List UInt8) (a : Option Addr) (n cp : Nat)
    (hw : h.at w = some (.cells (wc d name sz false) (fw + 1))) (H : DiskIs h 0 d m fz room used (iv ar) keep false wr name o c content) (hlow : h.lo ≤ w) (hwd : w ≠ d) (hwm : w ≠ m) (hbw : blkOf (fvOf o) ≠ some w)
    (hs : SlR C.old h 1 (.slice a n cp) (bytesVals l)) (hwf : h.lo ≤ h.bs.length) (hn : n ≤ 16384) (hsz : content.length < 2 ^ 39) (hsz2 : sz < 2 ^ 39) (hus : used + n + 13 ≤ room) (hr : room < 2 ^ 39) (hwr : wr < 2 ^ 62) (hN : ∀ h, D C 147 [str name] h = some (.bool true, h)) (har : ar ≠ 1) (har2 : ar < 2 ^ 62) :
    ∃ h' o' c', D C 86 [.pointer (some ⟨w, 0, some 0⟩), .slice a n cp] h = some (iv 0, h') ∧ h'.at w = some (.cells (wc d name (sz + (n + 13)) false) (fw + 1)) ∧ o'.isSome = true ∧ DiskIs h' 0 d m fz room (used + (n + 13)) (iv (ar - 1)) keep false (wr + 1) name o' c' (content ++ frame l) ∧
      Fr h h' (fun j => j = w ∨ j = d ∨ j = m ∨ blkOf (fvOf o) = some j) ∧ (∀ j, blkOf (fvOf o') = some j → blkOf (fvOf o) = some j ∨ h.bs.length ≤ j) := by
  have hlen : l.length = n := by have := hs.len; simpa using this
  rw [D_fn T.h86]
  obtain ⟨h1, v1, e1, o1, f1, b1⟩ := frame_spec T hp h l a n cp hs hwf (by omega)
  have hfl := frame_length l
  have l1 := f1.len
  have lo1 := f1.lo
  obtain ⟨va, vcp, hv, s1⟩ := own_sl (old := C.old) o1
  have hdl := get_lt H.hd
  have hml := get_lt H.hm
  have hwl := get_lt hw
  have H1 := H.fr f1 (fun h => h) (fun h => h) (fun _ _ h => h)
  have hw1 := f1.get hw (fun h => h)
  obtain ⟨r, h2, e2, rfl, o', c', ho', D', W'⟩ := disk_append T h1 d m fz room used wr c ar keep name o content (frame l) va (frame l).length vcp H1 s1 (fun j hj => by
      have hj2 : h.bs.length ≤ j := b1 j (by rw [hv]; rw [hv] at o1; exact o1.live hj)
      exact ⟨by omega, by omega, fun hc => by have := H.ho.blk hc; omega⟩) (by omega) (by omega) (by omega) hr hwr hN har har2
  rw [← hv] at e2
  have hw2 : h2.at w = some (.cells (wc d name sz false) (fw + 1)) := W'.fr.get hw1 (fun hc => hc.elim hwd fun hc => hc.elim hwm hbw)
  have lo2 := W'.fr.lo
  have l2 := W'.fr.len
  have f3 : Fr h2 (h2.put w (.cells (wc d name (sz + (n + 13)) false) (fw + 1))) (fun j => j = w) := Fr.put rfl
  have hbf : ∀ j, blkOf (fvOf o') = some j → blkOf (fvOf o) = some j ∨ h.bs.length ≤ j := fun j hj => by
    rcases W'.blk j hj with b2 | b2
    · exact .inl b2
    · exact .inr (by omega)
  have u1 := o1.und
  have lv1 := o1.lenV
  rw [hfl, hlen] at lv1 D'
  have hbd : ∀ x, blkOf (fvOf o) ≠ some x → x < h.bs.length → blkOf (fvOf o') ≠ some x := fun x hx hxl hc => by
    rcases hbf x hc with h3 | h3
    · exact hx h3
    · omega
  refine ⟨h2.put w (.cells (wc d name (sz + (n + 13)) false) (fw + 1)), o', c', ?_, put_self (get_lt hw2), ho', D'.fr f3 (Ne.symm hwd) (Ne.symm hwm) (fun j hj hc => hbd w hbw hwl (by rw [← hc]; exact hj)), ?_, hbf⟩
  · simp [b86, hw, wc3, Dc_ok, e1, xtr_tuple, stp_ok u1, hw1, wc0, wc1, u1, e2, hw2, wc2, lv1, iv_add (a := sz) (b := n + 13) (by omega), write1_wr, lo2, lo1, hlow, wwc2, r86]
  · exact (f1.trans W'.fr (S'' := fun j => j = w ∨ j = d ∨ j = m ∨ blkOf (fvOf o) = some j) (fun _ h => h.elim) (fun _ h _ => .inr h)).trans f3 (fun _ h => h) (fun _ h _ => .inl h)
theorem wal_appendO (hY : C.T fYield = none) (h : AHeap) (w d m fw fz room used wr c sz : Nat) (k : Int) (name : List UInt8) (o : Option (Value × Nat)) (content l : List UInt8) (a : Option Addr) (n cp : Nat)
    (hw : h.at w = some (.cells (wc d name sz false) (fw + 1))) (H : DiskIs h 0 d m fz room used (iv 1) (.int .i64 k) false wr name o c content) (hlow : h.lo ≤ w) (hwd : w ≠ d) (hwm : w ≠ m) (hbw : blkOf (fvOf o) ≠ some w)
    (hs : SlR C.old h 1 (.slice a n cp) (bytesVals l)) (hwf : h.lo ≤ h.bs.length) (hn : n ≤ 16384) (hsz : content.length < 2 ^ 39) (hus : used + n + 13 ≤ room) (hr : room < 2 ^ 39) (hwr : wr < 2 ^ 62) (hN : ∀ h, D C 147 [str name] h = some (.bool true, h)) :
    ∃ h' o' c', D C 86 [.pointer (some ⟨w, 0, some 0⟩), .slice a n cp] h = some (iv 94, h') ∧ h'.at w = some (.cells (wc d name sz true) (fw + 1)) ∧ o'.isSome = (o.isSome || decide (0 < k)) ∧
      DiskIs h' 0 d m fz room (used + kept k (n + 13)) (iv 0) (.int .i64 k) true (wr + 1) name o' c' (content ++ (frame l).take (kept k (n + 13))) ∧
      Fr h h' (fun j => j = w ∨ j = d ∨ j = m ∨ blkOf (fvOf o) = some j) ∧ (∀ j, blkOf (fvOf o') = some j → blkOf (fvOf o) = some j ∨ h.bs.length ≤ j) := by
  have hlen : l.length = n := by have := hs.len; simpa using this
  rw [D_fn T.h86]
  obtain ⟨h1, v1, e1, o1, f1, b1⟩ := frame_spec T hp h l a n cp hs hwf (by omega)
  have hfl := frame_length l
  have l1 := f1.len
  have lo1 := f1.lo
  obtain ⟨va, vcp, hv, s1⟩ := own_sl (old := C.old) o1
  have hdl := get_lt H.hd
  have hml := get_lt H.hm
  have hwl := get_lt hw
  have H1 := H.fr f1 (fun h => h) (fun h => h) (fun _ _ h => h)
  have hw1 := f1.get hw (fun h => h)
  obtain ⟨r, h2, e2, rfl, o', c', ho', D', W'⟩ := disk_appendO T hY h1 d m fz room used wr c k name o content (frame l) va (frame l).length vcp H1 s1 (fun j hj => by
      have hj2 : h.bs.length ≤ j := b1 j (by rw [hv]; rw [hv] at o1; exact o1.live hj)
      exact ⟨by omega, by omega, fun hc => by have := H.ho.blk hc; omega⟩) (by omega) (by omega) (by omega) hr hwr hN
  rw [← hv] at e2
  have hw2 : h2.at w = some (.cells (wc d name sz false) (fw + 1)) := W'.fr.get hw1 (fun hc => hc.elim hwd fun hc => hc.elim hwm hbw)
  have lo2 := W'.fr.lo
  have l2 := W'.fr.len
  have f3 : Fr h2 (h2.put w (.cells (wc d name sz true) (fw + 1))) (fun j => j = w) := Fr.put rfl
  have hbf : ∀ j, blkOf (fvOf o') = some j → blkOf (fvOf o) = some j ∨ h.bs.length ≤ j := fun j hj => by
    rcases W'.blk j hj with b2 | b2
    · exact .inl b2
    · exact .inr (by omega)
  have u1 := o1.und
  have lv1 := o1.lenV
  rw [hfl, hlen] at lv1 D'
  have hbd : ∀ x, blkOf (fvOf o) ≠ some x → x < h.bs.length → blkOf (fvOf o') ≠ some x := fun x hx hxl hc => by
    rcases hbf x hc with h3 | h3
    · exact hx h3
    · omega
  refine ⟨h2.put w (.cells (wc d name sz true) (fw + 1)), o', c', ?_, put_self (get_lt hw2), ho', D'.fr f3 (Ne.symm hwd) (Ne.symm hwm) (fun j hj hc => hbd w hbw hwl (by rw [← hc]; exact hj)), ?_, hbf⟩
  · simp [b86, hw, wc3, Dc_ok, e1, xtr_tuple, stp_ok u1, hw1, wc0, wc1, u1, e2, hw2, write1_wr, lo2, lo1, hlow, wwc3, r86]
  · exact (f1.trans W'.fr (S'' := fun j => j = w ∨ j = d ∨ j = m ∨ blkOf (fvOf o) = some j) (fun _ h => h.elim) (fun _ h _ => .inr h)).trans f3 (fun _ h => h) (fun _ h _ => .inl h)
end Go.Ab.Aud

namespace Go.Ab.Aud
open Go.Sha
variable {C : Ctx} (T : Tab_LDig C)
include T
theorem rot253 (x : W) (n : Nat) (hn : n < 32) (h0 : 0 < n) (h : AHeap) : D C 253 [wv x, .int .i64 (-(n : Int))] h = some (wv (rr x n), h) := by
  rw [D_fn3 T.h253 _ rfl]
  have e0 : cvt .u64 (.int .i64 (-(n : Int))) = some (uv (18446744073709551616 - n)) := by
    simp only [cvt, asI, Option.map_some, wrap64u]; unfold uv; congr 2; omega
  have e1 : abin .and (uv (18446744073709551616 - n)) (uv 31) = some (uv (32 - n)) := by
    rw [show 31 = 2 ^ 5 - 1 from rfl, and_mask (by omega) 5 (by omega)]; congr 2; omega
  have e2 : rr x n = x <<< (32 - n) ||| x >>> n := by
    unfold rr
    rw [BitVec.rotateRight_def, BitVec.or_comm, Nat.mod_eq_of_lt hn]
  have e3 : abin .sub (uv 32) (uv (32 - n)) = some (uv n) := by rw [uv_sub (by omega) (by omega)]; congr 2; omega
  rw [e2]
  simp [b253, r253, e0, e1, e3, w_shl (show 32 - n < 32 by omega), w_shr hn]
theorem right230 (x : W) (n : Nat) (hn : n < 32) (h0 : 0 < n) (h : AHeap) : D C 230 [wv x, iv n] h = some (wv (rr x n), h) := by
  rw [D_fn3 T.h230 _ rfl]
  have e : aun .neg (iv n) = some (.int .i64 (-(n : Int))) := by
    simp only [aun, iv]; rw [wrapi64 _ (by omega) (by omega)]; congr 2; omega
  simp [b230, r230, e, rot253 T x n hn h0, Dc2]
end Go.Ab.Aud

namespace Go.Ab.Aud
open Go.Sha
/-- the words' memory when so many are there -/
def cw (l : List UInt8) (i : Nat) : List Value := (List.range 64).map fun j => if j < i then wv (wd l j) else wv 0
theorem cw_len {l : List UInt8} {i : Nat} : (cw l i).length = 64 := by simp [cw]
theorem cw_get {l : List UInt8} {i j : Nat} (h : j < i) (h2 : j < 64) : (cw l i)[j]? = some (wv (wd l j)) := by
  simp [cw, h2, h]
theorem cw_set {l : List UInt8} {i : Nat} (h : i < 64) : (cw l i).set i (wv (wd l i)) = cw l (i + 1) := by
  apply List.ext_getElem?
  intro j
  rw [List.getElem?_set]
  simp only [cw_len]
  by_cases e : i = j
  · subst e; rw [if_pos rfl, if_pos h, cw_get (by omega) h]
  · rw [if_neg e]
    by_cases hj : j < 64
    · simp only [cw, List.getElem?_map, List.getElem?_range hj, Option.map_some]
      congr 1
      by_cases h3 : j < i
      · rw [if_pos h3, if_pos (by omega)]
      · rw [if_neg h3, if_neg (by omega)]
    · rw [List.getElem?_eq_none (by simp [cw]; omega), List.getElem?_eq_none (by simp [cw]; omega)]
theorem bytes4 (a b c d : UInt8) : byteW a <<< 24 ||| byteW b <<< 16 ||| byteW c <<< 8 ||| byteW d = BitVec.ofNat 32 (((a.toNat * 256 + b.toNat) * 256 + c.toNat) * 256 + d.toNat) := by
  have ha := a.toNat_lt
  have hb := b.toNat_lt
  have hc := c.toNat_lt
  have hd := d.toNat_lt
  apply BitVec.eq_of_toNat_eq
  unfold byteW
  generalize a.toNat = a at *
  generalize b.toNat = b at *
  generalize c.toNat = c at *
  generalize d.toNat = d at *
  simp only [BitVec.toNat_or, BitVec.toNat_shiftLeft, BitVec.toNat_ofNat, Nat.shiftLeft_eq]
  rw [Nat.mod_eq_of_lt (a := a) (by omega), Nat.mod_eq_of_lt (a := b) (by omega), Nat.mod_eq_of_lt (a := c) (by omega), Nat.mod_eq_of_lt (a := d) (by omega),
    Nat.mod_eq_of_lt (a := a * 2 ^ 24) (by omega), Nat.mod_eq_of_lt (a := b * 2 ^ 16) (by omega), Nat.mod_eq_of_lt (a := c * 2 ^ 8) (by omega), Nat.mod_eq_of_lt (by omega)]
  have e1 : a * 2 ^ 24 ||| b * 2 ^ 16 = a * 2 ^ 24 + b * 2 ^ 16 := by
    have := Nat.two_pow_add_eq_or_of_lt (i := 24) (b := b * 2 ^ 16) (by omega) a
    rw [show 2 ^ 24 * a = a * 2 ^ 24 from by omega] at this
    exact this.symm
  have e2 : (a * 2 ^ 24 + b * 2 ^ 16) ||| c * 2 ^ 8 = a * 2 ^ 24 + b * 2 ^ 16 + c * 2 ^ 8 := by
    have := Nat.two_pow_add_eq_or_of_lt (i := 16) (b := c * 2 ^ 8) (by omega) (a * 2 ^ 8 + b)
    rw [show 2 ^ 16 * (a * 2 ^ 8 + b) = a * 2 ^ 24 + b * 2 ^ 16 from by omega] at this
    exact this.symm
  have e3 : (a * 2 ^ 24 + b * 2 ^ 16 + c * 2 ^ 8) ||| d = a * 2 ^ 24 + b * 2 ^ 16 + c * 2 ^ 8 + d := by
    have := Nat.two_pow_add_eq_or_of_lt (i := 8) (b := d) (by omega) ((a * 2 ^ 8 + b) * 2 ^ 8 + c)
    rw [show 2 ^ 8 * ((a * 2 ^ 8 + b) * 2 ^ 8 + c) = a * 2 ^ 24 + b * 2 ^ 16 + c * 2 ^ 8 from by omega] at this
    exact this.symm
  rw [e1, e2, e3]
  omega
variable {C : Ctx} (T : Tab_LDig C)
theorem word4 (l : List UInt8) (i : Nat) : byteW (gb l (4 * i)) <<< 24 ||| byteW (gb l (4 * i + 1)) <<< 16 ||| byteW (gb l (4 * i + 2)) <<< 8 ||| byteW (gb l (4 * i + 3)) = be32 (l.drop (4 * i)) := by
  have e : ∀ k, k < 4 → (l.drop (4 * i)).getD k 0 = gb l (4 * i + k) := by
    intro k hk
    simp [gb, List.getD_eq_getElem?_getD]
  unfold be32
  rw [e 0 (by omega), e 1 (by omega), e 2 (by omega), e 3 (by omega)]
  simp only [Nat.add_zero]
  generalize gb l (4 * i) = a
  generalize gb l (4 * i + 1) = b
  generalize gb l (4 * i + 2) = c
  generalize gb l (4 * i + 3) = d
  exact bytes4 a b c d
include T
section
variable (l : List UInt8) (hl : l.length = 64) (a : Addr) (cp : Nat) (h1 : AHeap) (pw fz : Nat) (hw : pw < h1.bs.length) (hlo : h1.lo ≤ pw)
  (hb : ∀ c j, j < 64 → read1 C.old (h1.put pw (.cells c (fz + 1))) (adda a j) = some (bv (gb l j)))
include hl hw hlo hb

theorem blk_w1 (i : Nat) (hi : i < 16) (p : Value) (t : List Value) (t0 : tg t 0 = p) (t1 : tg t 1 = .slice (some a) 64 cp) (t4 : tg t 4 = .pointer (some ⟨pw, 0, some 0⟩)) (t16 : tg t 16 = iv i) :
    ∃ t', (∀ k, R C r180 (.inLoop lp180_0 :: k) t [] (h1.put pw (.cells (cw l i) (fz + 1))) = R C r180 (.inLoop lp180_0 :: k) t' [] (h1.put pw (.cells (cw l (i + 1)) (fz + 1)))) ∧
      tg t' 0 = p ∧ tg t' 1 = .slice (some a) 64 cp ∧ tg t' 4 = .pointer (some ⟨pw, 0, some 0⟩) ∧ tg t' 16 = iv (i + 1) := by
  refine ex_step (fun k => R_open lp180_0.eq_1) ?_
  have e0 : i < 64 := by omega
  have g0 := hb (cw l i) (4 * i) (by omega)
  have g1 := hb (cw l i) (4 * i + 1) (by omega)
  have g2 := hb (cw l i) (4 * i + 2) (by omega)
  have g3 := hb (cw l i) (4 * i + 3) (by omega)
  have hw' : wd l i = be32 (l.drop (4 * i)) := wd_lt l hi
  have hset := cw_set (l := l) e0
  rw [hw'] at hset
  simp [t0, t1, t4, t16, e0, hi, iv_mul (a := 4) (b := i) (by omega), iv_add (a := 4 * i) (b := 1) (by omega), iv_add (a := 4 * i) (b := 2) (by omega), iv_add (a := 4 * i) (b := 3) (by omega),
    ixS_iv (show 4 * i < 64 by omega), ixS_iv (show 4 * i + 1 < 64 by omega), ixS_iv (show 4 * i + 2 < 64 by omega), ixS_iv (show 4 * i + 3 < 64 by omega), ixA_iv e0, g0, g1, g2, g3, w_shl, iv_add (a := i) (b := 1) (by omega),
    write1_wr, hlo, put_self hw, wr1_cells, cw_len, put_put, word4 l i, hset]
  exact ⟨_, fun _ => rfl, by simp [t0], by simp [t1], by simp [t4], by simp⟩
theorem blk_w2 (i : Nat) (h16 : 16 ≤ i) (hi : i < 64) (p : Value) (t : List Value) (t0 : tg t 0 = p) (t1 : tg t 1 = .slice (some a) 64 cp) (t4 : tg t 4 = .pointer (some ⟨pw, 0, some 0⟩)) (t16 : tg t 16 = iv i) :
    ∃ t', (∀ k, R C r180 (.inLoop lp180_0 :: k) t [] (h1.put pw (.cells (cw l i) (fz + 1))) = R C r180 (.inLoop lp180_0 :: k) t' [] (h1.put pw (.cells (cw l (i + 1)) (fz + 1)))) ∧
      tg t' 0 = p ∧ tg t' 1 = .slice (some a) 64 cp ∧ tg t' 4 = .pointer (some ⟨pw, 0, some 0⟩) ∧ tg t' 16 = iv (i + 1) := by
  refine ex_step (fun k => R_open lp180_0.eq_1) ?_
  have e0 : ¬ i < 16 := by omega
  have hw' := wd_ge l h16
  have hset := cw_set (l := l) hi
  have g : ∀ j, j < i → (cw l i)[j]? = some (wv (wd l j)) := fun j hj => cw_get hj (by omega)
  have q := fun x n hn h0 h => right230 T x n hn h0 h
  have e7 : wd l (i - 16) + (rr (wd l (i - 15)) 7 ^^^ rr (wd l (i - 15)) 18 ^^^ wd l (i - 15) >>> 3) + wd l (i - 7) + (rr (wd l (i - 2)) 17 ^^^ rr (wd l (i - 2)) 19 ^^^ wd l (i - 2) >>> 10) = wd l i := by
    rw [hw']; rfl
  simp [t0, t1, t4, t16, hi, e0, iv_sub (a := i) (b := 15) (by omega) (by omega), iv_sub (a := i) (b := 2) (by omega) (by omega), iv_sub (a := i) (b := 16) (by omega) (by omega), iv_sub (a := i) (b := 7) (by omega) (by omega),
    ixA_iv (show i - 15 < 64 by omega), ixA_iv (show i - 2 < 64 by omega), ixA_iv (show i - 16 < 64 by omega), ixA_iv (show i - 7 < 64 by omega), ixA_iv hi, g (i - 15) (by omega), g (i - 2) (by omega), g (i - 16) (by omega), g (i - 7) (by omega),
    Dc2, q, w_shr, iv_add (a := i) (b := 1) (by omega), write1_wr, hlo, put_self hw, wr1_cells, cw_len, put_put, e7, hset]
  exact ⟨_, fun _ => rfl, by simp [t0], by simp [t1], by simp [t4], by simp⟩
theorem blk_w (p : Value) : ∀ (d i : Nat) (t : List Value), i + d = 64 → tg t 0 = p → tg t 1 = .slice (some a) 64 cp → tg t 4 = .pointer (some ⟨pw, 0, some 0⟩) → tg t 16 = iv i →
    ∃ t', (∀ k, R C r180 (.inLoop lp180_0 :: .inBlock 0 :: k) t [] (h1.put pw (.cells (cw l i) (fz + 1))) = R C r180 k t' [] (h1.put pw (.cells (cw l 64) (fz + 1)))) ∧
      tg t' 0 = p ∧ tg t' 4 = .pointer (some ⟨pw, 0, some 0⟩)
  | 0, i, t, hd, t0, t1, t4, t16 => by
    obtain rfl : i = 64 := by omega
    refine ex_step (fun k => R_open lp180_0.eq_1) ?_
    simp [t16]
    exact ⟨_, fun _ => rfl, by simp [t0], by simp [t4]⟩
  | d + 1, i, t, hd, t0, t1, t4, t16 => by
    have : ∃ t', (∀ k, R C r180 (.inLoop lp180_0 :: k) t [] (h1.put pw (.cells (cw l i) (fz + 1))) = R C r180 (.inLoop lp180_0 :: k) t' [] (h1.put pw (.cells (cw l (i + 1)) (fz + 1)))) ∧
      tg t' 0 = p ∧ tg t' 1 = .slice (some a) 64 cp ∧ tg t' 4 = .pointer (some ⟨pw, 0, some 0⟩) ∧ tg t' 16 = iv (i + 1) := by
      by_cases hi : i < 16
      · exact blk_w1 T l hl a cp h1 pw fz hw hlo hb i hi p t t0 t1 t4 t16
      · exact blk_w2 T l hl a cp h1 pw fz hw hlo hb i (by omega) (by omega) p t t0 t1 t4 t16
    obtain ⟨t', e, s0, s1, s4, s16⟩ := this
    simp only [e]
    exact blk_w p d (i + 1) t' (by omega) s0 s1 s4 s16
end
/-- eight words' cells -/
def ws (s : S8) : List Value := [wv s.a, wv s.b, wv s.c, wv s.d, wv s.e, wv s.f, wv s.g, wv s.h]
section
variable (l : List UInt8) (hk : ∀ j, j < 64 → C.old 0 j = some (wv (kW j))) (h2 : AHeap) (pw pv fw fz : Nat) (hw : h2.at pw = some (.cells (cw l 64) fw)) (hn : pv ≠ pw) (hv : pv < h2.bs.length) (hlo : h2.lo ≤ pv)
include hk hw hn hv hlo
theorem blk_r1 (i : Nat) (hi : i < 64) (s : S8) (p : Value) (t : List Value) (t0 : tg t 0 = p) (t4 : tg t 4 = .pointer (some ⟨pw, 0, some 0⟩)) (t8 : tg t 8 = .pointer (some ⟨pv, 0, some 0⟩)) (t98 : tg t 98 = iv i) :
    ∃ t', (∀ k, R C r180 (.inLoop lp180_1 :: k) t [] (h2.put pv (.cells (ws s) (fz + 1))) = R C r180 (.inLoop lp180_1 :: k) t' [] (h2.put pv (.cells (ws (rnd s (kW i) (wd l i))) (fz + 1)))) ∧
      tg t' 0 = p ∧ tg t' 4 = .pointer (some ⟨pw, 0, some 0⟩) ∧ tg t' 8 = .pointer (some ⟨pv, 0, some 0⟩) ∧ tg t' 98 = iv (i + 1) := by
  refine ex_step (fun k => R_open lp180_1.eq_1) ?_
  have g := cw_get (l := l) hi hi
  have q := fun x n hn h0 h => right230 T x n hn h0 h
  have e1 : ∀ c, (h2.put pv (.cells c (fz + 1))).at pw = some (.cells (cw l 64) fw) := fun c => by rw [put_ne hn, hw]
  have e2 : splice (ws s) 0 (ws (rnd s (kW i) (wd l i))) = ws (rnd s (kW i) (wd l i)) := rfl
  have e3 : ws (rnd s (kW i) (wd l i)) = [wv (s.h + b1 s.e + ch s.e s.f s.g + kW i + wd l i + (b0 s.a + maj s.a s.b s.c)), wv s.a, wv s.b, wv s.c, wv (s.d + (s.h + b1 s.e + ch s.e s.f s.g + kW i + wd l i)), wv s.e, wv s.f, wv s.g] := rfl
  have f0 : (ws s)[0]? = some (wv s.a) := rfl
  have f1 : (ws s)[1]? = some (wv s.b) := rfl
  have f2 : (ws s)[2]? = some (wv s.c) := rfl
  have f3 : (ws s)[3]? = some (wv s.d) := rfl
  have f4 : (ws s)[4]? = some (wv s.e) := rfl
  have f5 : (ws s)[5]? = some (wv s.f) := rfl
  have f6 : (ws s)[6]? = some (wv s.g) := rfl
  have f7 : (ws s)[7]? = some (wv s.h) := rfl
  have lws : (ws s).length = 8 := rfl
  simp [t0, t4, t8, t98, hi, ixA_iv, put_self hv, e1, f0, f1, f2, f3, f4, f5, f6, f7, Dc2, q, read1_old, hk i hi, g, fillCells, splice]
  simp [writeN_wr, hlo, put_self hv, wrN_cells, lws, iv_add (a := i) (b := 1) (by omega), put_put, t98]
  exact ⟨_, fun _ => rfl, by simp [t0], by simp [t4], by simp [t8], by simp⟩
theorem blk_r (s : S8) (p : Value) : ∀ (d i : Nat) (t : List Value), i + d = 64 → tg t 0 = p → tg t 4 = .pointer (some ⟨pw, 0, some 0⟩) → tg t 8 = .pointer (some ⟨pv, 0, some 0⟩) → tg t 98 = iv i →
    ∃ t', (∀ k, R C r180 (.inLoop lp180_1 :: .inBlock 2 :: k) t [] (h2.put pv (.cells (ws (rounds l s i)) (fz + 1))) = R C r180 k t' [] (h2.put pv (.cells (ws (rounds l s 64)) (fz + 1)))) ∧
      tg t' 0 = p ∧ tg t' 8 = .pointer (some ⟨pv, 0, some 0⟩)
  | 0, i, t, hd, t0, t4, t8, t98 => by
    obtain rfl : i = 64 := by omega
    refine ex_step (fun k => R_open lp180_1.eq_1) ?_
    simp [t98]
    exact ⟨_, fun _ => rfl, by simp [t0], by simp [t8]⟩
  | d + 1, i, t, hd, t0, t4, t8, t98 => by
    obtain ⟨t', e, s0, s4, s8, s98⟩ := blk_r1 T l hk h2 pw pv fw fz hw hn hv hlo i (by omega) (rounds l s i) p t t0 t4 t8 t98
    simp only [e]
    exact blk_r s p d (i + 1) t' (by omega) s0 s4 s8 s98
end
/-- the first so many sums laid -/
def wsum (s v : S8) (i : Nat) : List Value := (ws (s.add v)).take i ++ (ws s).drop i
section
variable (rest : List Value) (h3 : AHeap) (p fz : Nat) (hp : p < h3.bs.length) (hlo : h3.lo ≤ p)
include hp hlo
theorem blk_s1 (i : Nat) (hi : i < 8) (s v : S8) (t : List Value) (t0 : tg t 0 = .pointer (some ⟨p, 0, some 0⟩)) (t178 : tg t 178 = .agg ⟨ws v⟩) (t179 : tg t 179 = iv i) :
    ∃ t', (∀ k, R C r180 (.inLoop lp180_2 :: k) t [] (h3.put p (.cells (wsum s v i ++ rest) (fz + 1))) = R C r180 (.inLoop lp180_2 :: k) t' [] (h3.put p (.cells (wsum s v (i + 1) ++ rest) (fz + 1)))) ∧
      tg t' 0 = .pointer (some ⟨p, 0, some 0⟩) ∧ tg t' 178 = .agg ⟨ws v⟩ ∧ tg t' 179 = iv (i + 1) := by
  refine ex_step (fun k => R_open lp180_2.eq_1) ?_
  obtain ⟨x, y, hx, hy, hxy⟩ : ∃ x y : W, (wsum s v i ++ rest)[i]? = some (wv x) ∧ (ws v)[i]? = some (wv y) ∧ (wsum s v i ++ rest).set i (wv (x + y)) = wsum s v (i + 1) ++ rest := by
    match i, hi with
    | 0, _ => exact ⟨s.a, v.a, rfl, rfl, rfl⟩
    | 1, _ => exact ⟨s.b, v.b, rfl, rfl, rfl⟩
    | 2, _ => exact ⟨s.c, v.c, rfl, rfl, rfl⟩
    | 3, _ => exact ⟨s.d, v.d, rfl, rfl, rfl⟩
    | 4, _ => exact ⟨s.e, v.e, rfl, rfl, rfl⟩
    | 5, _ => exact ⟨s.f, v.f, rfl, rfl, rfl⟩
    | 6, _ => exact ⟨s.g, v.g, rfl, rfl, rfl⟩
    | 7, _ => exact ⟨s.h, v.h, rfl, rfl, rfl⟩
  have hl : i < (wsum s v i ++ rest).length := (List.getElem?_eq_some_iff.1 hx).1
  simp [t0, t178, t179, hi, ixA_iv hi, put_self hp, hx, hy, elt1_iv hi, write1_wr, hlo, put_put]
  rw [wr1_cells hl (by simp), hxy]
  simp [iv_add (a := i) (b := 1) (by omega), put_put, t179]
  exact ⟨_, fun _ => rfl, by simp [t0], by simp [t178], by simp⟩
theorem blk_s (s v : S8) : ∀ (d i : Nat) (t : List Value), i + d = 8 → tg t 0 = .pointer (some ⟨p, 0, some 0⟩) → tg t 178 = .agg ⟨ws v⟩ → tg t 179 = iv i →
    ∃ t', ∀ k, R C r180 (.inLoop lp180_2 :: .inBlock 4 :: k) t [] (h3.put p (.cells (wsum s v i ++ rest) (fz + 1))) = R C r180 k t' [] (h3.put p (.cells (ws (s.add v) ++ rest) (fz + 1)))
  | 0, i, t, hd, t0, t178, t179 => by
    obtain rfl : i = 8 := by omega
    refine ex_step0 (fun k => R_open lp180_2.eq_1) ?_
    simp [t179]
    exact ⟨_, fun _ => rfl⟩
  | d + 1, i, t, hd, t0, t178, t179 => by
    obtain ⟨t', e, s0, s1, s2⟩ := blk_s1 T rest h3 p fz hp hlo i (by omega) s v t t0 t178 t179
    simp only [e]
    exact blk_s s v d (i + 1) t' (by omega) s0 s1 s2
end
theorem block_spec (hk : ∀ j, j < 64 → C.old 0 j = some (wv (kW j))) (h : AHeap) (p fz : Nat) (rest : List Value) (s : S8) (hp : h.at p = some (.cells (ws s ++ rest) (fz + 1))) (hlo : h.lo ≤ p)
    (l : List UInt8) (hl : l.length = 64) (a : Addr) (cp : Nat) (ha : readN C.old h a 64 = some (bytesVals l)) (hap : a.spot = none ∨ (a.block < h.bs.length ∧ a.block ≠ p)) :
    D C 180 [.pointer (some ⟨p, 0, some 0⟩), .slice (some a) 64 cp] h = some (.tuple #[], AHeap.app (h.put p (.cells (ws (blk s l) ++ rest) (fz + 1))) [.cells (cw l 64) 258, .cells (ws (rounds l s 64)) 215]) := by
  rw [D_fn T.h180]
  have hpl := get_lt hp
  have hw0 : ∀ c j, j < 64 → read1 C.old ((h.push (.cells (cw l 0) (257 + 1))).put h.bs.length (.cells c (257 + 1))) (adda a j) = some (bv (gb l j)) := by
    intro c j hj
    have e1 : read1 C.old ((h.push (.cells (cw l 0) (257 + 1))).put h.bs.length (.cells c (257 + 1))) (adda a j) = read1 C.old h (adda a j) := by
      refine read1_same ?_
      rcases hap with h1 | ⟨h1, h2⟩
      · exact .inl h1
      · right
        simp only [adda_block]
        rw [put_ne (by omega), push_lt h1]
    rw [e1, readN_read1 ha hj, bytes_get]
    simp [gb, hl, hj]
  simp [b180]
  have key := blk_w T l hl a cp (h.push (.cells (cw l 0) (257 + 1))) h.bs.length 257 (by simp) (by simp; omega) hw0 (.pointer (some ⟨p, 0, some 0⟩)) 64 0
  rw [put_eq push_self] at key
  refine ex_cps (A := fun k => R C r180 (.inLoop lp180_0 :: .inBlock 0 :: k) _ [] (h.push (.cells (cw l 0) (257 + 1)))) (key _ (by omega) (by simp) (by simp) (by simp) (by simp)) fun t1 ⟨s0, s4⟩ => ?_
  generalize hA : (h.push (.cells (cw l 0) (257 + 1))).put h.bs.length (.cells (cw l 64) (257 + 1)) = A
  have hAl : A.bs.length = h.bs.length + 1 := by rw [← hA]; simp
  have q1 : A.at p = some (.cells (ws s ++ rest) (fz + 1)) := by rw [← hA, put_ne (by omega), push_lt hpl, hp]
  have q2 : A.at h.bs.length = some (.cells (cw l 64) (257 + 1)) := by rw [← hA, put_self (by simp)]
  have q3 : A.lo = h.lo := by rw [← hA]; rfl
  have g8 : rdN (some (.cells (ws s ++ rest) (fz + 1))) 0 0 8 = some (ws s) := by rw [rdN_cells (by simp [ws])]; rfl
  have lws : (ws s).length = 8 := rfl
  have q4 : A.lo ≤ A.bs.length := by omega
  have z1 : splice (List.replicate 8 (.int .u32 0)) 0 (ws s) = ws s := rfl
  simp [List.replicate] at z1
  have z2 : (ws s).all okCell = true := rfl
  simp [k180_1, s0, q1, g8, writeN_wr, q4, wrN_cells, lws, z1, z2]
  refine ex_cps (A := fun k => R C r180 (.inLoop lp180_1 :: .inBlock 2 :: k) _ [] _) (blk_r T l hk (A.push _) h.bs.length A.bs.length (257 + 1) 214 (by rw [push_lt (by omega), q2]) (by omega) (by simp) (by simp; omega) s
    (.pointer (some ⟨p, 0, some 0⟩)) 64 0 _ (by omega) (by simp [s0]) (by simp [s4]) (by simp) (by simp)) fun t2 ⟨u0, u8⟩ => ?_
  generalize hB : AHeap.put _ A.bs.length (.cells (ws (rounds l s 64)) (214 + 1)) = B
  have r1 : B.at p = some (.cells (ws s ++ rest) (fz + 1)) := by rw [← hB, put_ne (by omega), push_lt (by omega), q1]
  have r2 : B.at A.bs.length = some (.cells (ws (rounds l s 64)) (214 + 1)) := by rw [← hB, put_self (by simp)]
  have r3 : B.lo = h.lo := by rw [← hB, put_lo, push_lo, q3]
  have r4 : p < B.bs.length := get_lt r1
  have g9 : rdN (some (.cells (ws (rounds l s 64)) (214 + 1))) 0 0 8 = some (ws (rounds l s 64)) := rfl
  simp [k180_0, u8, r2, g9]
  have e3 := blk_s T rest B p fz r4 (by omega) s (rounds l s 64) 8 0
  have z3 : wsum s (rounds l s 64) 0 = ws s := rfl
  rw [z3, put_eq r1] at e3
  refine ex_cps0 (A := fun k => R C r180 (.inLoop lp180_2 :: .inBlock 4 :: k) _ [] B) (e3 _ (by omega) (by simp [u0]) (by simp) (by simp)) fun t3 => ?_
  simp [r180]
  rw [← hB, ← hA]
  simp only [AHeap.app, AHeap.put, AHeap.push]
  simp [List.set_append, blk]
  intro hc; omega
end Go.Ab.Aud

namespace Go.Ab.Aud
open Go.Sha
/-- a digest that has taken some bytes: its words, what is left, how many -/
def HashAt (h : AHeap) (p fz : Nat) (s : S8) (rv : Value) (r : List UInt8) (n : Nat) : Prop :=
  h.at p = some (.cells (ws s ++ [rv, uv n]) (fz + 1)) ∧ Own h 5 1 rv r.length (bytesVals r) ∧ blkOf rv ≠ some p ∧ h.lo ≤ p
theorem wslen {s : S8} : (ws s).length = 8 := nr rfl
theorem hash8 {s : S8} {a b : Value} : (ws s ++ [a, b])[8]? = some a := nr rfl
theorem hash9 {s : S8} {a b : Value} : (ws s ++ [a, b])[9]? = some b := nr rfl
theorem hashset8 {s : S8} {a b v : Value} : (ws s ++ [a, b]).set 8 v = ws s ++ [v, b] := nr rfl
variable {C : Ctx} (T : Tab_LDig C) (hk : ∀ j, j < 64 → C.old 0 j = some (wv (kW j)))
include T hk
omit hk in
/-- behind the first piece: the last bytes -/
theorem take_last (p fz n : Nat) (l : List UInt8) (s : S8) (rv : Value) (h : AHeap) (m cp : Nat) (a : Option Addr) (t : List Value) (H : HashAt h p fz s rv [] n) (hs : SlR C.old h 1 (.slice a m cp) (bytesVals l))
    (t0 : tg t 0 = .pointer (some ⟨p, 0, some 0⟩)) (t1 : tg t 1 = .slice a m cp) (hwf : h.lo ≤ h.bs.length) (hm : m < 64) :
    ∃ h' rv', R C r108 [.inLoop lp108_0, .inBlock 0, .code k108_0] t [] h = some (.tuple #[], h') ∧ HashAt h' p fz (absorb s l).1 rv' (absorb s l).2 n ∧
      Fr h h' (fun j => j = p ∨ blkOf rv = some j) ∧ (blkOf rv' = blkOf rv ∨ blkOf rv' = some h.bs.length) := by
  obtain ⟨hp, ho, hne, hlo⟩ := H
  have hlen : l.length = m := by have := hs.len; simpa using this
  rw [R_inLoop]
  have h64 : ¬ 64 ≤ m := by omega
  have hpl := get_lt hp
  obtain ⟨v', h1, e1, o1, f1, b1⟩ := append_own (old := C.old) (bytes := 1) (x := .slice a m cp) (m := m) (new := bytesVals l) ho (by omega) rfl (fun hn => hs.src hn) (list_empty hlen) (by simp [hlen]) bytes_ok (by simp [sizeLim]; omega) hwf
  have hp1 : h1.at p = some (.cells (ws s ++ [rv, uv n]) (fz + 1)) := f1.get hp hne
  rw [absorb_short s l (by omega)]
  have hl1 : p < h1.bs.length := get_lt hp1
  have e : R C r108 [.code lp108_0, .inLoop lp108_0, .inBlock 0, .code k108_0] t [] h = some (.tuple #[], h1.put p (.cells (ws s ++ [v', uv n]) (fz + 1))) := by
    simp [lp108_0.eq_1, t0, t1, h64, k108_0, hp, hp1, hash8, e1, stp_ok ho.und, stp_ok o1.und, write1_wr, f1.lo, hlo, wr1_cells, wslen, o1.okc, hashset8, r108]
  have hbp : blkOf v' ≠ some p := by
    rcases b1 with b1 | b1 <;> rw [b1]
    · exact hne
    · simp; omega
  rw [e]
  refine ⟨_, v', rfl, ⟨put_self hl1, ?_, hbp, by rw [put_lo, f1.lo]; exact hlo⟩, ?_, b1⟩
  · have o2 : Own h1 5 1 v' l.length (bytesVals l) := by simpa [hlen] using o1
    exact o2.fr (Fr.put (S := fun j => j = p) rfl) fun j hj hc => hbp (by rw [hj, hc])
  · exact f1.trans (Fr.put (S := fun j => j = p) rfl) (fun j hj => .inr hj) fun j hj _ => .inl hj
/-- behind the first piece: whole blocks, then the rest -/
theorem take_tail (p fz n : Nat) : ∀ (d : Nat) (l : List UInt8), l.length ≤ d → ∀ (s : S8) (rv : Value) (h : AHeap) (m cp : Nat) (a : Option Addr) (t : List Value),
    HashAt h p fz s rv [] n → SlR C.old h 1 (.slice a m cp) (bytesVals l) → (∀ j, Live (.slice a m cp) j → j ≠ p) → tg t 0 = .pointer (some ⟨p, 0, some 0⟩) → tg t 1 = .slice a m cp → h.lo ≤ h.bs.length → m < 2 ^ 40 →
    ∃ h' rv', R C r108 [.inLoop lp108_0, .inBlock 0, .code k108_0] t [] h = some (.tuple #[], h') ∧ HashAt h' p fz (absorb s l).1 rv' (absorb s l).2 n ∧
      Fr h h' (fun j => j = p ∨ blkOf rv = some j) ∧ (blkOf rv' = blkOf rv ∨ ∃ j, blkOf rv' = some j ∧ h.bs.length ≤ j) := by
  intro d
  induction d with
  | zero =>
    intro l hd s rv h m cp a t H hs hlive t0 t1 hwf hm
    have hlen : l.length = m := by have := hs.len; simpa using this
    obtain ⟨h', rv', e, g1, g2, g3⟩ := take_last T p fz n l s rv h m cp a t H hs t0 t1 hwf (by omega)
    exact ⟨h', rv', e, g1, g2, g3.imp_right fun h => ⟨_, h, Nat.le_refl _⟩⟩
  | succ d ih =>
    intro l hd s rv h m cp a t H hs hlive t0 t1 hwf hm
    have hlen : l.length = m := by have := hs.len; simpa using this
    by_cases h64 : 64 ≤ m
    · obtain ⟨hp, ho, hne, hlo⟩ := H
      have hpl := get_lt hp
      rw [absorb_block s l (by omega), R_inLoop]
      obtain ⟨a1, cp1, e1, s1, l1⟩ := hs.part (lo := none) (hi := some 64) (l := 0) (u := 64) rfl rfl (by omega) h64
      simp only [Nat.sub_zero, Nat.zero_mul, List.drop_zero, Nat.mul_one] at s1 e1 l1
      obtain ⟨a1, rfl⟩ := s1.ex (by omega)
      have r1 := s1.read (by omega)
      have hb : List.take 64 (bytesVals l) = bytesVals (l.take 64) := by simp [bytesVals_eq]
      rw [hb] at r1
      have hap : a1.spot = none ∨ (a1.block < h.bs.length ∧ a1.block ≠ p) := by
        by_cases hsp : a1.spot = none
        · exact .inl hsp
        · refine .inr ⟨?_, hlive _ (l1 _ ⟨hsp, rfl, .inl (by omega)⟩)⟩
          obtain ⟨b, o, q⟩ := a1
          cases q with
          | none => exact absurd rfl hsp
          | some q =>
            rw [readN_rd] at r1
            cases hb : h.at b with
            | none => rw [hb] at r1; cases r1
            | some x => exact get_lt hb
      have hbs := block_spec T hk h p fz [rv, uv n] s hp hlo (l.take 64) (by simp; omega) a1 cp1 (by simpa using r1) hap
      generalize hA : AHeap.app (h.put p (.cells (ws (blk s (l.take 64)) ++ [rv, uv n]) (fz + 1))) [.cells (cw (l.take 64) 64) 258, .cells (ws (rounds (l.take 64) s 64)) 215] = A at hbs
      have f1 : Fr h A (fun j => j = p) := by
        rw [← hA]
        exact (Fr.put (S := fun j => j = p) rfl).trans Fr.app (fun j hj => hj) (fun j hj _ => hj)
      have pA : A.at p = some (.cells (ws (blk s (l.take 64)) ++ [rv, uv n]) (fz + 1)) := by
        rw [← hA, app_lt (by simp; exact hpl), put_self hpl]
      have sA : SlR C.old A 1 (.slice a m cp) (bytesVals l) := hs.fr f1 hlive
      obtain ⟨a2, cp2, e2, s2, l2⟩ := sA.part (lo := some 64) (hi := none) (l := 64) (u := m) rfl rfl h64 (by omega)
      have hb2 : List.take ((m - 64) * 1) (List.drop (64 * 1) (bytesVals l)) = bytesVals (l.drop 64) := by
        simp [bytesVals_eq]
        rw [List.take_of_length_le (by simp; omega)]
      rw [hb2] at s2
      have e : ∃ t', R C r108 [.code lp108_0, .inLoop lp108_0, .inBlock 0, .code k108_0] t [] h = R C r108 [.inLoop lp108_0, .inBlock 0, .code k108_0] t' [] A ∧ tg t' 0 = .pointer (some ⟨p, 0, some 0⟩) ∧ tg t' 1 = .slice a2 (m - 64) cp2 := by
        simp [lp108_0.eq_1, t0, t1, h64, e1, Dc2, hbs, e2]
        exact ⟨_, rfl, by simp [t0], by simp⟩
      obtain ⟨t', e, u0, u1⟩ := e
      rw [e]
      have hA2 : HashAt A p fz (blk s (l.take 64)) rv [] n := ⟨pA, ho.fr f1 fun j hj hc => hne (by rw [hj, hc]), hne, by rw [f1.lo]; exact hlo⟩
      obtain ⟨h', rv', e', g1, g2, g3⟩ := ih (l.drop 64) (by simp; omega) _ rv A (m - 64) cp2 a2 t' hA2 s2 (fun j hj => hlive j (l2 j hj)) u0 u1 (by rw [f1.lo]; have := f1.len; omega) (by omega)
      refine ⟨h', rv', e', g1, f1.trans g2 (fun j hj => .inl hj) (fun j hj _ => hj), g3.imp_right fun ⟨j, h1, h2⟩ => ⟨j, h1, by have := f1.len; omega⟩⟩
    · obtain ⟨h', rv', e, g1, g2, g3⟩ := take_last T p fz n l s rv h m cp a t H hs t0 t1 hwf (by omega)
      exact ⟨h', rv', e, g1, g2, g3.imp_right fun h => ⟨_, h, Nat.le_refl _⟩⟩
end Go.Ab.Aud

namespace Go.Ab.Aud
open Go.Sha
variable {C : Ctx} (T : Tab_LDig C) (hk : ∀ j, j < 64 → C.old 0 j = some (wv (kW j)))
include T hk
theorem take_spec (h : AHeap) (p fz n : Nat) (s : S8) (rv : Value) (r l : List UInt8) (a : Option Addr) (m cp : Nat) (H : HashAt h p fz s rv r n) (hr : r.length < 64) (hs : SlR C.old h 1 (.slice a m cp) (bytesVals l))
    (hlive : ∀ j, Live (.slice a m cp) j → j ≠ p ∧ blkOf rv ≠ some j) (hwf : h.lo ≤ h.bs.length) (hm : m < 2 ^ 40) :
    ∃ h' rv', D C 108 [.pointer (some ⟨p, 0, some 0⟩), .slice a m cp] h = some (.tuple #[], h') ∧ HashAt h' p fz (absorb s (r ++ l)).1 rv' (absorb s (r ++ l)).2 ((n + m) % 18446744073709551616) ∧
      Fr h h' (fun j => j = p ∨ blkOf rv = some j) ∧ (blkOf rv' = blkOf rv ∨ ∃ j, blkOf rv' = some j ∧ h.bs.length ≤ j) := by
  obtain ⟨hp, ho, hne, hlo⟩ := H
  have hlen : l.length = m := by have := hs.len; simpa using this
  have hpl := get_lt hp
  rw [D_fn T.h108]
  generalize hA : h.put p (.cells (ws s ++ [rv, uv ((n + m) % 18446744073709551616)]) (fz + 1)) = A
  have fA : Fr h A (fun j => j = p) := by rw [← hA]; exact Fr.put rfl
  have pA : A.at p = some (.cells (ws s ++ [rv, uv ((n + m) % 18446744073709551616)]) (fz + 1)) := by rw [← hA, put_self hpl]
  have oA : Own A 5 1 rv r.length (bytesVals r) := ho.fr fA fun j hj hc => hne (by rw [hj, hc])
  have sA : SlR C.old A 1 (.slice a m cp) (bytesVals l) := hs.fr fA fun j hj => (hlive j hj).1
  have hAlo := fA.lo
  have hAlen := fA.len
  obtain ⟨ra, rcp, hrv⟩ := ho.slice
  by_cases hr0 : r = []
  · subst hr0
    have e : ∃ t', R C r108 [.code b108] [.pointer (some ⟨p, 0, some 0⟩), .slice a m cp] [] h = R C r108 [.inLoop lp108_0, .inBlock 0, .code k108_0] t' [] A ∧ tg t' 0 = .pointer (some ⟨p, 0, some 0⟩) ∧ tg t' 1 = .slice a m cp := by
      simp [b108, hp, hash9, cvt_iu (show m < 18446744073709551616 by omega), uv_add', write1_wr, hlo, wr1_cells, wslen, hA, pA, hash8, stp_ok ho.und, ho.lenV]
      exact ⟨_, rfl, by simp, by simp⟩
    obtain ⟨t', e, u0, u1⟩ := e
    obtain ⟨h', rv', e', g1, g2, g3⟩ := take_tail T hk p fz _ l.length l (Nat.le_refl _) s rv A m cp a t' ⟨pA, oA, hne, by omega⟩ sA (fun j hj => (hlive j hj).1) u0 u1 (by omega) hm
    refine ⟨h', rv', e.trans e', g1, fA.trans g2 (fun j hj => .inl hj) (fun j hj _ => hj), g3.imp_right fun ⟨j, h1, h2⟩ => ⟨j, h1, by omega⟩⟩
  · have hr1 : 0 < r.length := List.length_pos_iff.2 hr0
    generalize htk : min (64 - r.length) m = tk
    obtain ⟨a1, cp1, e1, s1, l1⟩ := sA.part (lo := none) (hi := some (tk : Int)) (l := 0) (u := tk) rfl rfl (by omega) (by omega)
    simp only [Nat.sub_zero, Nat.zero_mul, List.drop_zero, Nat.mul_one] at s1 e1 l1
    have hb : List.take tk (bytesVals l) = bytesVals (l.take tk) := by simp [bytesVals_eq]
    rw [hb] at s1
    obtain ⟨v', B, e2, oB, fB, bB⟩ := append_own (old := C.old) (bytes := 1) (x := .slice a1 tk cp1) (m := tk) (new := bytesVals (l.take tk)) oA (by omega) rfl (fun hn => s1.src hn)
      (list_empty (by simp; omega)) (by simp; omega) bytes_ok (by simp [sizeLim]; omega) (by omega)
    have pB : B.at p = some (.cells (ws s ++ [rv, uv ((n + m) % 18446744073709551616)]) (fz + 1)) := fB.get pA hne
    have hBlo := fB.lo
    have hBlen := fB.len
    have hbp : blkOf v' ≠ some p := by
      rcases bB with b1 | b1 <;> rw [b1]
      · exact hne
      · simp; omega
    generalize hD : B.put p (.cells (ws s ++ [v', uv ((n + m) % 18446744073709551616)]) (fz + 1)) = E
    have fE : Fr B E (fun j => j = p) := by rw [← hD]; exact Fr.put rfl
    have pE : E.at p = some (.cells (ws s ++ [v', uv ((n + m) % 18446744073709551616)]) (fz + 1)) := by rw [← hD, put_self (get_lt pB)]
    have oE : Own E 5 1 v' (r.length + tk) (bytesVals (r ++ l.take tk)) := by
      rw [bytes_app]
      exact oB.fr fE fun j hj hc => hbp (by rw [hj, hc])
    have hElo := fE.lo
    have hElen := fE.len
    have fAE : Fr h E (fun j => j = p ∨ blkOf rv = some j) := (fA.trans fB (fun j hj => .inl hj) (fun j hj _ => .inr hj)).trans fE (fun j hj => hj) (fun j hj _ => .inl hj)
    have sE : SlR C.old E 1 (.slice a m cp) (bytesVals l) := hs.fr fAE fun j hj hc => hc.elim (hlive j hj).1 (hlive j hj).2
    obtain ⟨a2, cp2, e3, s2, l2⟩ := sE.part (lo := some (tk : Int)) (hi := none) (l := tk) (u := m) rfl rfl (by omega) (by omega)
    have hb2 : List.take ((m - tk) * 1) (List.drop (tk * 1) (bytesVals l)) = bytesVals (l.drop tk) := by
      simp [bytesVals_eq]
      rw [List.take_of_length_le (by simp; omega)]
    rw [hb2] at s2
    obtain ⟨va, vcp, hv'⟩ := oE.slice
    have hsub : abin .sub (iv 64) (iv r.length) = some (iv (64 - r.length)) := iv_sub (by omega) (by omega)
    have hsub2 : min (64 - r.length) m = tk := htk
    by_cases hlt : r.length + tk < 64
    · have htm : tk = m := by omega
      have e : R C r108 [.code b108] [.pointer (some ⟨p, 0, some 0⟩), .slice a m cp] [] h = some (.tuple #[], E) := by
        simp [b108, hp, hash9, cvt_iu (show m < 18446744073709551616 by omega), uv_add', write1_wr, hlo, hAlo, hBlo, wr1_cells, wslen, hA, pA, hash8, stp_ok ho.und, ho.lenV, hr1, hsub, htk, e1, e2, stp_ok oB.und, pB, oB.okc, hD, e3, pE, oB.lenV, hlt, r108]
      refine ⟨E, v', e, ?_, fAE, ?_⟩
      · rw [absorb_short s (r ++ l) (by simp; omega)]
        have : l.take tk = l := List.take_of_length_le (by omega)
        rw [this, htm, ← hlen, ← List.length_append] at oE
        exact ⟨pE, oE, hbp, by omega⟩
      · exact bB.imp_right fun h => ⟨_, h, by omega⟩
    · have h64 : r.length + tk = 64 := by omega
      obtain ⟨va, rfl⟩ : ∃ x, va = some x := by
        cases va with
        | some x => exact ⟨x, rfl⟩
        | none => rw [hv'] at oE; rcases oE with ⟨_, h0, _⟩ | ⟨_, _, _, h0, _⟩
                  · omega
                  · cases h0
      have oE' := oE
      rw [hv'] at oE'
      have rE : readN C.old E va 64 = some (bytesVals (r ++ l.take tk)) := by
        have := (oE'.sl (old := C.old) (by omega)).read (by omega)
        rw [h64] at this
        simpa using this
      have hva : blkOf v' = some va.block := by
        rw [hv'] at oE ⊢
        rcases oE with ⟨h0, h1, _⟩ | ⟨_, _, _, h0, _⟩
        · omega
        · cases h0; rfl
      have hap : va.spot = none ∨ (va.block < E.bs.length ∧ va.block ≠ p) := .inr ⟨oE.blk hva, fun hc => hbp (by rw [hva, hc])⟩
      have hbs := block_spec T hk E p fz [v', uv ((n + m) % 18446744073709551616)] s pE (by omega) (r ++ l.take tk) (by simp; omega) va vcp rE hap
      rw [← h64] at hbs
      rw [← hv'] at hbs
      generalize hF : AHeap.app (E.put p (.cells (ws (blk s (r ++ l.take tk)) ++ [v', uv ((n + m) % 18446744073709551616)]) (fz + 1))) _ = F at hbs
      have fF : Fr E F (fun j => j = p) := by
        rw [← hF]
        exact (Fr.put (S := fun j => j = p) rfl).trans Fr.app (fun j hj => hj) (fun j hj _ => hj)
      have pF : F.at p = some (.cells (ws (blk s (r ++ l.take tk)) ++ [v', uv ((n + m) % 18446744073709551616)]) (fz + 1)) := by
        rw [← hF, app_lt (by simp; exact get_lt pE), put_self (get_lt pE)]
      have oF : Own F 5 1 v' (r.length + tk) (bytesVals (r ++ l.take tk)) := oE.fr fF fun j hj hc => hbp (by rw [hj, hc])
      obtain ⟨v2, e4, oF2, bF⟩ := oF.cut (by omega)
      generalize hG : F.put p (.cells (ws (blk s (r ++ l.take tk)) ++ [v2, uv ((n + m) % 18446744073709551616)]) (fz + 1)) = G
      have fG : Fr F G (fun j => j = p) := by rw [← hG]; exact Fr.put rfl
      have pG : G.at p = some (.cells (ws (blk s (r ++ l.take tk)) ++ [v2, uv ((n + m) % 18446744073709551616)]) (fz + 1)) := by rw [← hG, put_self (get_lt pF)]
      have hFlo := fF.lo
      have hGlo := fG.lo
      have hFlen := fF.len
      have hGlen := fG.len
      have oG : Own G 5 1 v2 0 [] := oF2.fr fG fun j hj hc => hbp (by rw [← bF, hj, hc])
      have fEG : Fr E G (fun j => j = p) := fF.trans fG (fun j hj => hj) (fun j hj _ => hj)
      have fhG : Fr h G (fun j => j = p ∨ blkOf rv = some j) := fAE.trans fEG (fun j hj => hj) (fun j hj _ => .inl hj)
      have sG : SlR C.old G 1 (.slice a2 (m - tk) cp2) (bytesVals (l.drop tk)) := s2.fr fEG fun j hj => (hlive j (l2 j hj)).1
      have e : ∃ t', R C r108 [.code b108] [.pointer (some ⟨p, 0, some 0⟩), .slice a m cp] [] h = R C r108 [.inLoop lp108_0, .inBlock 0, .code k108_0] t' [] G ∧ tg t' 0 = .pointer (some ⟨p, 0, some 0⟩) ∧ tg t' 1 = .slice a2 (m - tk) cp2 := by
        simp [b108, hp, hash9, cvt_iu (show m < 18446744073709551616 by omega), uv_add', write1_wr, hlo, hAlo, hBlo, hElo, hFlo, wr1_cells, wslen, hA, pA, hash8, stp_ok ho.und, ho.lenV, hr1, hsub, htk, e1, e2, stp_ok oB.und, pB, oB.okc, hD, e3, pE, oB.lenV, hlt,
          Dc2, oB.und, hbs, pF, e4, stp_ok oF2.und, oF2.okc, hG]
        exact ⟨_, rfl, by simp, by simp⟩
      obtain ⟨t', e, u0, u1⟩ := e
      have habs : absorb s (r ++ l) = absorb (blk s (r ++ l.take tk)) (l.drop tk) := by
        rw [absorb_block s (r ++ l) (by simp; omega)]
        have q1 : (r ++ l).take 64 = r ++ l.take tk := by
          rw [List.take_append, List.take_of_length_le (by omega)]; congr 2; omega
        have q2 : (r ++ l).drop 64 = l.drop tk := by
          rw [List.drop_append, List.drop_of_length_le (by omega), List.nil_append]; congr 1; omega
        rw [q1, q2]
      rw [habs]
      obtain ⟨h', rv', e', g1, g2, g3⟩ := take_tail T hk p fz _ (l.drop tk).length (l.drop tk) (Nat.le_refl _) _ v2 G (m - tk) cp2 a2 t' ⟨pG, oG, by rw [bF]; exact hbp, by omega⟩ sG (fun j hj => (hlive j (l2 j hj)).1) u0 u1 (by omega) (by omega)
      have hv2 : blkOf v2 = blkOf rv ∨ ∃ j, blkOf v2 = some j ∧ h.bs.length ≤ j := by rw [bF]; exact bB.imp_right fun h => ⟨_, h, by omega⟩
      refine ⟨h', rv', e.trans e', g1, fhG.trans g2 (fun j hj => hj) (fun j hj hjl => hj.imp_right fun h1 => ?_), ?_⟩
      · rcases hv2 with h2 | ⟨k, h2, h3⟩
        · rw [← h2]; exact h1
        · rw [h2] at h1; cases h1; omega
      · rcases g3 with g3 | ⟨j, g3, g4⟩
        · rw [g3]; exact hv2
        · exact .inr ⟨j, g3, by omega⟩
end Go.Ab.Aud

namespace Go.Ab.Aud
open Go.Sha
variable {C : Ctx} (T : Tab_LDig C) (hk : ∀ j, j < 64 → C.old 0 j = some (wv (kW j)))
include T
set_option maxHeartbeats 1000000 in
theorem eight_spec (x : Nat) (h : AHeap) (hwf : h.lo ≤ h.bs.length) : D C 109 [uv x] h = some (.slice (some ⟨h.bs.length, 0, some 0⟩) 8 8, h.push (.cells (bytesVals (be64 x)) 6)) := by
  rw [D_fn T.h109]
  have hz : Value.int .u8 0 = bv 0 := rfl
  simp [b109, sizeLim, zeroFill, hz, List.replicate]
  iterate 8
    rw [R_open lp109_0.eq_1]
    simp [iv_mul, iv_sub, uv_shri, ixS_iv, write1_wr, hwf, push_self, put_self, wr1_cells, put_put, iv_add]
  rw [R_open lp109_0.eq_1]
  simp [k109_0, r109, be64, bytesVals_eq, push_put]

include hk
/-- taking, where all that is written lies from a place on -/
theorem take_from (h : AHeap) (p fz n q : Nat) (s : S8) (rv : Value) (r l : List UInt8) (a : Option Addr) (m cp : Nat) (H : HashAt h p fz s rv r n) (hr : r.length < 64) (hs : SlR C.old h 1 (.slice a m cp) (bytesVals l))
    (hlive : ∀ j, Live (.slice a m cp) j → j ≠ p ∧ blkOf rv ≠ some j) (hwf : h.lo ≤ h.bs.length) (hm : m < 2 ^ 40) (hq : q ≤ p) (hb : ∀ j, blkOf rv = some j → q ≤ j) :
    ∃ h' rv', D C 108 [.pointer (some ⟨p, 0, some 0⟩), .slice a m cp] h = some (.tuple #[], h') ∧ HashAt h' p fz (absorb s (r ++ l)).1 rv' (absorb s (r ++ l)).2 ((n + m) % 18446744073709551616) ∧
      Fr h h' (fun j => q ≤ j) ∧ (∀ j, blkOf rv' = some j → q ≤ j) := by
  obtain ⟨h', rv', e, g1, g2, g3⟩ := take_spec T hk h p fz n s rv r l a m cp H hr hs hlive hwf hm
  refine ⟨h', rv', e, g1, g2.mono fun j hj _ => ?_, fun j hj => ?_⟩
  · rcases hj with rfl | hj
    · exact hq
    · exact hb j hj
  · rcases g3 with g3 | ⟨k, g3, g4⟩
    · exact hb j (by rw [← g3]; exact hj)
    · rw [g3] at hj; cases hj
      have := get_lt H.1
      omega
/-- noughts until 56 -/
theorem sum_zeros (p fz q : Nat) (hq : q ≤ p) : ∀ (c : Nat) (s : S8) (r : List UInt8) (n : Nat) (rv : Value) (h : AHeap) (t : List Value) (hr : r.length < 64) (hc : (120 - r.length) % 64 = c) (H : HashAt h p fz s rv r n) (hwf : h.lo ≤ h.bs.length)
    (hb : ∀ j, blkOf rv = some j → q ≤ j) (t3 : tg t 3 = .pointer (some ⟨p, 0, some 0⟩)),
    ∃ h' rv' n' t', (∀ k, R C r63 (.inLoop lp63_0 :: .inBlock 0 :: k) t [] h = R C r63 k t' [] h') ∧ HashAt h' p fz (absorb s (r ++ List.replicate c 0)).1 rv' (absorb s (r ++ List.replicate c 0)).2 n' ∧
      Fr h h' (fun j => q ≤ j) ∧ (∀ j, blkOf rv' = some j → q ≤ j) ∧ (∀ j, j ∈ [0, 2, 3] → tg t' j = tg t j) := by
  intro c
  induction c with
  | zero =>
    intro s r n rv h t hr hc H hwf hb t3
    have hr56 : r.length = 56 := by omega
    refine ⟨h, rv, n, ?_⟩
    have e : ∃ t', (∀ k, R C r63 (.inLoop lp63_0 :: .inBlock 0 :: k) t [] h = R C r63 k t' [] h) ∧ (∀ j, j ∈ [0, 2, 3] → tg t' j = tg t j) := by
      refine ex_step (fun k => R_open lp63_0.eq_1) ?_
      simp [t3, H.1, hash8, stp_ok H.2.1.und, H.2.1.lenV, hr56]
      exact ⟨_, fun _ => rfl, by simp, by simp, by simp [t3]⟩
    obtain ⟨t', e1, e2⟩ := e
    refine ⟨t', e1, ?_, Fr.refl _ _, hb, e2⟩
    rw [List.replicate_zero, List.append_nil, absorb_short s r hr]
    exact H
  | succ c ih =>
    intro s r n rv h t hr hc H hwf hb t3
    have hr56 : r.length ≠ 56 := by omega
    have fp := Fr.push (h := h) (b := .cells [bv 0] 6) (S := fun j => q ≤ j)
    have hpl := get_lt H.1
    have H1 : HashAt (h.push (.cells [bv 0] 6)) p fz s rv r n := ⟨by rw [push_lt hpl]; exact H.1, H.2.1.fr (Fr.push (S := fun _ => False)) (fun _ _ h => h), H.2.2.1, H.2.2.2⟩
    obtain ⟨h', rv', e, g1, g2, g3⟩ := take_from T hk (h.push (.cells [bv 0] 6)) p fz n q s rv r [0] (some ⟨h.bs.length, 0, some 0⟩) 1 1 H1 hr
      ⟨by simp, by rw [if_neg (by simp [isRest])]; exact ⟨Nat.le_refl _, fun _ => by rw [readN_rd, push_self]; rfl⟩⟩
      (fun j hj => by
        have hj' : h.bs.length = j := hj.2.1
        subst hj'
        exact ⟨by omega, fun hc => by have := H.2.1.blk hc; omega⟩) (by simp; omega) (by omega) hq hb
    have hq1 := absorb_rest s (r ++ [0])
    rw [List.length_append] at hq1
    simp only [List.length_cons, List.length_nil] at hq1
    have e1 : ∃ t', (∀ k, R C r63 (.inLoop lp63_0 :: .inBlock 0 :: k) t [] h = R C r63 (.inLoop lp63_0 :: .inBlock 0 :: k) t' [] h') ∧ (∀ j, j ∈ [0, 2, 3] → tg t' j = tg t j) := by
      refine ex_step (fun k => R_open lp63_0.eq_1) ?_
      have hz : Value.int .u8 0 = bv 0 := rfl
      simp [t3, H.1, hash8, stp_ok H.2.1.und, H.2.1.lenV, hr56, hz, fillCells, splice, Dc2, e]
      exact ⟨_, fun _ => rfl, by simp, by simp, by simp [t3]⟩
    obtain ⟨t1, e1, e2⟩ := e1
    obtain ⟨h2, rv2, n2, t2, a1, a2, a3, a4, a5⟩ := ih _ _ _ rv' h' t1 (by rw [hq1]; omega) (by rw [hq1]; omega) g1 (by rw [g2.lo]; have := g2.len; simp at this ⊢; omega) g3 (by rw [e2 3 (by simp)]; exact t3)
    refine ⟨h2, rv2, n2, t2, fun k => (e1 k).trans (a1 k), ?_, (fp.trans g2 (fun _ h => h) (fun _ h _ => h)).trans a3 (fun _ h => h) (fun _ h _ => h), a4, fun j hj => by rw [a5 j hj, e2 j hj]⟩
    have : absorb (absorb s (r ++ [0])).1 ((absorb s (r ++ [0])).2 ++ List.replicate c 0) = absorb s (r ++ List.replicate (c + 1) 0) := by
      rw [absorb_append, List.append_assoc]; rfl
    rw [this] at a2
    exact a2
end Go.Ab.Aud

namespace Go.Ab.Aud
open Go.Sha
variable {C : Ctx} (T : Tab_LDig C) (hk : ∀ j, j < 64 → C.old 0 j = some (wv (kW j)))
include T hk
omit hk T in
omit hk T in
set_option maxRecDepth 100000 in
set_option maxHeartbeats 2000000 in
/-- the words laid out -/
theorem sum_out (h : AHeap) (hwf : h.lo ≤ h.bs.length) (s : S8) (t : List Value) (Z : ABlock) (hZ : Z = .cells (List.replicate 32 (bv 0)) 31) (t4 : tg t 4 = .pointer (some ⟨h.bs.length, 0, some 0⟩)) (t34 : tg t 34 = .agg ⟨ws s⟩) (t35 : tg t 35 = iv 0) :
    ∃ t', (∀ k, R C r63 (.inLoop lp63_1 :: .inBlock 2 :: k) t [] (h.push Z) = R C r63 k t' [] (h.push (.cells (bytesVals (out s)) 31))) ∧ tg t' 2 = tg t 2 ∧ tg t' 4 = .pointer (some ⟨h.bs.length, 0, some 0⟩) := by
  subst hZ
  have e : ∀ (x : W) (n : Nat), n < 32 → UInt8.ofNat (x >>> n).toNat = UInt8.ofNat (x.toNat / 2 ^ n) := by
    intro x n hn
    rw [BitVec.toNat_ushiftRight, Nat.shiftRight_eq_div_pow]
  simp [List.replicate]
  iterate 8
    refine ex_step (fun k => R_open lp63_1.eq_1) ?_
    simp [t4, t34, t35, elt1_iv, ws, iv_mul, iv_add, ixA_iv, w_shr, write1_wr, hwf, push_self, wr1_cells, put_self, put_put, push_put]
  refine ex_step (fun k => R_open lp63_1.eq_1) ?_
  simp
  refine ⟨_, fun k => congrArg (R C r63 k _ []) ?_, by simp, by simp [t4]⟩
  simp [out, bytesVals_eq, wordBytes, Nat.shiftRight_eq_div_pow]
set_option maxHeartbeats 2000000 in
/-- Sum tells the SHA-256 of all that was taken -/
theorem sum_spec (h : AHeap) (p fz : Nat) (msg : List UInt8) (rv : Value) (hp : h.at p = some (.cells (ws (absorb Sha.iv msg).1 ++ [rv, uv msg.length]) fz)) (ra : Option Addr) (rcp : Nat) (hrv : rv = .slice ra (absorb Sha.iv msg).2.length rcp)
    (hs : SlR C.old h 1 rv (bytesVals (absorb Sha.iv msg).2)) (hm : msg.length < 2 ^ 40) :
    D C 63 [.pointer (some ⟨p, 0, some 0⟩)] h = some (.agg ⟨bytesVals (sha msg)⟩, h) := by
  rw [D_fn2 T.h63]
  generalize hr : (absorb Sha.iv msg).2 = r at *
  generalize hs0 : (absorb Sha.iv msg).1 = s at *
  have hrl : r.length < 64 := by rw [← hr, absorb_rest]; omega
  have hpl := get_lt hp
  generalize hh0 : ({ h with lo := h.bs.length } : AHeap) = h0
  have h0lo : h0.lo = h.bs.length := by rw [← hh0]
  have h0len : h0.bs.length = h.bs.length := by rw [← hh0]
  have hp0 : h0.at p = some (.cells (ws s ++ [rv, uv msg.length]) fz) := by rw [← hh0]; exact hp
  have hs1 : SlR C.old h0 1 rv (bytesVals r) := by rw [← hh0]; exact hs.lo
  generalize hZ : ABlock.cells (List.replicate 32 (bv 0)) 31 = Z
  generalize hY : ABlock.cells (List.replicate 8 (Value.int .u32 0) ++ [Value.slice none 0 0, uv 0]) 217 = Y
  have sY : SlR C.old ((h0.push Z).push Y) 1 rv (bytesVals r) := hs1.fr (Fr.push.trans Fr.push (S'' := fun _ => False) (S := fun _ => False) (S' := fun _ => False) (fun _ h => h) (fun _ h _ => h)) (fun _ _ h => h)
  have ne0 : Own ((h0.push Z).push Y) 5 1 emptySl 0 [] := .empty
  rw [hrv] at sY
  obtain ⟨v', h3, e1, o3, f3, b3⟩ := append_own (old := C.old) (bytes := 1) (x := rv) (m := r.length) (new := bytesVals r) ne0 (by omega) (by rw [hrv]; rfl) (fun hn => by rw [hrv]; exact sY.src hn)
    (list_empty rfl) (by simp) bytes_ok (by simp [sizeLim]; omega) (by simp [h0lo, h0len]; omega)
  have hz : Value.int .u8 0 = bv 0 := rfl
  have hz2 : Value.int .u8 128 = bv 128 := rfl
  have f3' : Fr ((h0.push Z).push Y) h3 (fun _ => False) := f3.mono fun j hj _ => by cases hj
  have a3 : h3.at (h.bs.length + 1) = some Y := by rw [f3'.at (by simp [h0len]) (fun h => h), push_self' (by simp [h0len])]
  have p2 : ((h0.push Z).push Y).at p = some (.cells (ws s ++ [rv, uv msg.length]) fz) := by rw [push_lt (by simp; omega), push_lt (by omega), hp0]
  have p3 : h3.at p = some (.cells (ws s ++ [rv, uv msg.length]) fz) := by rw [f3'.at (by simp; omega) (fun h => h), p2]
  have h3lo := f3'.lo
  have h3len := f3'.len
  simp only [push_lo, push_len, h0lo, h0len] at h3lo h3len
  have g8 : rdN (some (.cells (ws s ++ [rv, uv msg.length]) fz)) 0 0 8 = some (ws s) := by rw [rdN_cells (by simp [ws])]; rfl
  have zs : splice (List.replicate 8 (Value.int .u32 0) ++ [Value.slice none 0 0, uv 0]) 0 (ws s) = ws s ++ [Value.slice none 0 0, uv 0] := rfl
  have zs2 : splice (ws s ++ [Value.slice none 0 0, uv 0]) 8 [v'] = ws s ++ [v', uv 0] := rfl
  have zw : ∀ h b, wrN h b (some Y) 0 0 (ws s ++ [v', uv 0]) = some (h.put b (.cells (ws s ++ [v', uv 0]) 217)) := by
    intro h b
    rw [← hY, wrN_cells (by simp [ws]) (by simp [ws, o3.okc])]
    rfl
  simp [List.replicate] at hY hZ zs zs2
  have hu : isUnd rv = false := by rw [hrv]; rfl
  generalize hh4 : h3.put (h.bs.length + 1) (.cells (ws s ++ [v', uv 0]) 217) = h4
  have f4 : Fr h3 h4 (fun j => h.bs.length + 1 ≤ j) := by rw [← hh4]; exact Fr.put (Nat.le_refl _)
  have a4 : h4.at (h.bs.length + 1) = some (.cells (ws s ++ [v', uv 0]) (216 + 1)) := by rw [← hh4, put_self (get_lt a3)]
  have b3' : ∀ j, blkOf v' = some j → h.bs.length + 2 ≤ j := by
    intro j hj
    rcases b3 with b3 | b3 <;> rw [b3] at hj <;> cases hj
    simp [h0len]
  have o4 : Own h4 5 1 v' r.length (bytesVals r) := by
    have := o3.fr (Fr.put (h := h3) (i := h.bs.length + 1) (b := .cells (ws s ++ [v', uv 0]) 217) (S := fun j => j = h.bs.length + 1) rfl) (fun j hj hc => by have := b3' j hj; omega)
    rw [hh4] at this
    simpa using this
  have h4lo := f4.lo
  have h4len := f4.len
  have H4 : HashAt h4 (h.bs.length + 1) 216 s v' r 0 := ⟨a4, o4, fun hc => by have := b3' _ hc; omega, by omega⟩
  generalize hh5 : h4.push (.cells [bv 128] 6) = h5
  have f5 : Fr h4 h5 (fun _ => False) := by rw [← hh5]; exact Fr.push
  have H5 : HashAt h5 (h.bs.length + 1) 216 s v' r 0 := ⟨f5.get a4 (fun h => h), o4.fr f5 (fun _ _ h => h), H4.2.2.1, by rw [f5.lo]; exact H4.2.2.2⟩
  have s5 : SlR C.old h5 1 (.slice (some ⟨h4.bs.length, 0, some 0⟩) 1 1) (bytesVals [128]) := ⟨by simp, by rw [if_neg (by simp [isRest])]; exact ⟨Nat.le_refl _, fun _ => by rw [← hh5, readN_rd, push_self]; rfl⟩⟩
  have h5lo := f5.lo
  have h5len := f5.len
  obtain ⟨h6, v6, e6, H6, f6, b6⟩ := take_from T hk h5 (h.bs.length + 1) 216 0 (h.bs.length + 1) s v' r [128] _ 1 1 H5 hrl s5 (fun j hj => by
      have hj' : h4.bs.length = j := hj.2.1
      subst hj'
      exact ⟨by omega, fun hc => by have := o4.blk hc; omega⟩) (by omega) (by omega) (Nat.le_refl _) (fun j hj => by have := b3' j hj; omega)
  have z1s : splice [bv 0] 0 [bv 128] = [bv 128] := rfl
  have E1 : ∃ t, R C r63 [.code b63] [.pointer (some ⟨p, 0, some 0⟩)] [] h0 = R C r63 [.inLoop lp63_0, .inBlock 0, .code k63_1] t [] h6 ∧ tg t 0 = .pointer (some ⟨p, 0, some 0⟩) ∧ tg t 2 = .pointer (some ⟨h.bs.length, 0, some 0⟩) ∧ tg t 3 = .pointer (some ⟨h.bs.length + 1, 0, some 0⟩) := by
    simp [b63, fillCells, hz, hz2, hY, hZ, h0len, p2, g8, hash8, hu, e1, o3.und, zs, zs2, p3, a3, writeN_wr, h3lo, zw, wslen, o3.cells, o3.part, hh4, z1s, hh5, Dc2, e6]
    exact ⟨_, rfl, by simp, by simp, by simp⟩
  obtain ⟨t6, E1, u0, u2, u3⟩ := E1
  rw [E1]
  generalize hc : (120 - (absorb s (r ++ [128])).2.length) % 64 = c
  obtain ⟨h7, v7, n7, t7, e7, H7, f7, b7, w7⟩ := sum_zeros T hk (h.bs.length + 1) 216 (h.bs.length + 1) (Nat.le_refl _) c _ _ _ v6 h6 t6 (by rw [absorb_rest]; omega) hc H6 (by have := f6.lo; have := f6.len; omega) b6 u3
  rw [e7]
  have f37 : Fr h3 h7 (fun j => h.bs.length + 1 ≤ j) := ((f4.trans f5 (fun _ h => h) (fun _ h _ => h.elim)).trans f6 (fun _ h => h) (fun _ h _ => h)).trans f7 (fun _ h => h) (fun _ h _ => h)
  have p7 : h7.at p = some (.cells (ws s ++ [rv, uv msg.length]) fz) := f37.get p3 (by omega)
  have h7lo := f37.lo
  have h7len := f37.len
  have e8 := eight_spec T (8 * msg.length) h7 (by omega)
  generalize hh8 : h7.push (.cells (bytesVals (be64 (8 * msg.length))) 6) = h8 at e8
  have f8 : Fr h7 h8 (fun _ => False) := by rw [← hh8]; exact Fr.push
  have h8lo := f8.lo
  have h8len := f8.len
  have a8 : h8.at h7.bs.length = some (.cells (bytesVals (be64 (8 * msg.length))) 6) := by rw [← hh8]; exact push_self
  have q7 := absorb_rest (absorb s (r ++ [128])).1 ((absorb s (r ++ [128])).2 ++ List.replicate c 0)
  obtain ⟨h9, v9, e9, H9, f9, b9⟩ := take_from T hk h8 (h.bs.length + 1) 216 n7 (h.bs.length + 1) _ v7 _ (be64 (8 * msg.length)) (some ⟨h7.bs.length, 0, some 0⟩) 8 8
    ⟨f8.get H7.1 (fun h => h), H7.2.1.fr f8 (fun _ _ h => h), H7.2.2.1, by omega⟩ (by rw [q7]; omega)
    ⟨by simp [be64], by rw [if_neg (by simp [isRest])]; exact ⟨Nat.le_refl _, fun _ => by rw [readN_rd, a8]; rfl⟩⟩
    (fun j hj => by
      have hj' : h7.bs.length = j := hj.2.1
      subst hj'
      exact ⟨by have := get_lt H7.1; omega, fun hc => by have := H7.2.1.blk hc; omega⟩) (by omega) (by omega) (Nat.le_refl _) b7
  have hfin : absorb (absorb (absorb s (r ++ [128])).1 ((absorb s (r ++ [128])).2 ++ List.replicate c 0)).1 ((absorb (absorb s (r ++ [128])).1 ((absorb s (r ++ [128])).2 ++ List.replicate c 0)).2 ++ be64 (8 * msg.length)) = absorb Sha.iv (pad msg) := by
    rw [absorb_append, List.append_assoc, absorb_append, ← hs0, ← hr, List.append_assoc, absorb_append]
    congr 1
    have : c = (119 - msg.length % 64) % 64 := by
      rw [← hc, absorb_rest, List.length_append, ← hr, absorb_rest]
      simp only [List.length_cons, List.length_nil]
      omega
    simp [pad, zeros, this]
  rw [hfin] at H9
  generalize hs9 : (absorb Sha.iv (pad msg)).1 = s9 at H9
  have f39 : Fr h3 h9 (fun j => h.bs.length + 1 ≤ j) := (f37.trans f8 (fun _ h => h) (fun _ h _ => h.elim)).trans f9 (fun _ h => h) (fun _ h _ => h)
  have h9lo := f9.lo
  have h9len := f9.len
  have z3 : h3.at h.bs.length = some Z := by rw [f3'.at (by simp; omega) (fun h => h), push_lt (by simp; omega), ← h0len]; exact push_self
  have z9 : h9.at h.bs.length = some Z := f39.get z3 (by omega)
  have g9 : rdN (some (.cells (ws s9 ++ [v9, uv ((n7 + 8) % 18446744073709551616)]) (216 + 1))) 0 0 8 = some (ws s9) := by rw [rdN_cells (by simp [ws])]; rfl
  have m8 : abin .mul (uv 8) (uv msg.length) = some (uv (8 * msg.length)) := uv_mul (by omega)
  have a9 : (h9.push Z).at (h.bs.length + 1) = some (.cells (ws s9 ++ [v9, uv ((n7 + 8) % 18446744073709551616)]) (216 + 1)) := by rw [push_lt (get_lt H9.1)]; exact H9.1
  have v3 := w7 3 (by simp)
  have v0 := w7 0 (by simp)
  have v2 := w7 2 (by simp)
  have E2 : ∃ t, R C r63 [.code k63_1] t7 [] h7 = R C r63 [.inLoop lp63_1, .inBlock 2, .code k63_0] t [] (h9.push Z) ∧ tg t 4 = .pointer (some ⟨h9.bs.length, 0, some 0⟩) ∧ tg t 34 = .agg ⟨ws s9⟩ ∧ tg t 35 = iv 0 ∧ tg t 2 = .pointer (some ⟨h.bs.length, 0, some 0⟩) := by
    simp [k63_1, v0, u0, p7, hash9, m8, Dc1, e8, v3, u3, Dc2, e9, hz, hZ, a9, g9]
    exact ⟨_, rfl, by simp, by simp, by simp, by simp [v2, u2]⟩
  obtain ⟨t9, E2, y4, y34, y35, y2⟩ := E2
  rw [E2]
  have hZ' : Z = .cells (List.replicate 32 (bv 0)) 31 := by rw [← hZ]; simp [List.replicate]
  obtain ⟨t10, E3, x2, x4⟩ := sum_out h9 (by omega) s9 t9 Z hZ' y4 y34 y35
  rw [E3]
  have lo32 : (out s9).length = 32 := out_length s9
  have rd32 : rdN (some (.cells (bytesVals (out s9)) 31)) 0 0 32 = some (bytesVals (out s9)) := by
    rw [rdN_cells (by simp [lo32]), List.drop_zero, List.take_of_length_le (by simp [lo32])]
  have w32 : ∀ h b, wrN h b (some Z) 0 0 (bytesVals (out s9)) = some (h.put b (.cells (bytesVals (out s9)) 31)) := by
    intro h b
    rw [hZ', wrN_cells (by simp [lo32]) bytes_ok]
    congr 3
  have z10 : (h9.push (.cells (bytesVals (out s9)) 31)).at h.bs.length = some Z := by rw [push_lt (by omega), z9]
  have hsha : sha msg = out s9 := by rw [← hs9]; rfl
  rw [hsha]
  have hwl : h9.lo ≤ h.bs.length := by omega
  have hb2 : h.bs.length < (h9.push (.cells (bytesVals (out s9)) 31)).bs.length := get_lt z10
  simp only [push_len] at hb2
  simp [k63_0, x4, x2, y2, rd32, lo32, writeN_wr, hwl, z10, w32, r63, resV, put_self, hb2, flat_bytes]
end Go.Ab.Aud

namespace Go.Ab.Aud
open Go.Sha
/-- one byte laid as a slice -/
theorem one_sl {old : Old} {h : AHeap} {b : UInt8} : SlR old (h.push (.cells [bv b] 6)) 1 (.slice (some ⟨h.bs.length, 0, some 0⟩) 1 1) (bytesVals [b]) :=
  ⟨by simp, by rw [if_neg (by simp [isRest])]; exact ⟨Nat.le_refl _, fun _ => by rw [readN_rd, push_self]; rfl⟩⟩
/-- a digest that has taken a text; what it owns lies from q on and below u -/
def HashOf (h : AHeap) (p q u : Nat) (msg : List UInt8) : Prop := ∃ rv, HashAt h p 216 (absorb Sha.iv msg).1 rv (absorb Sha.iv msg).2 msg.length ∧ (q ≤ p ∧ p < u) ∧ (∀ j, blkOf rv = some j → q ≤ j ∧ j < u)
theorem HashOf.lt {h : AHeap} {p q u : Nat} {msg : List UInt8} (H : HashOf h p q u msg) : p < h.bs.length := by
  obtain ⟨rv, H, _⟩ := H; exact get_lt H.1
theorem HashOf.fr {h h' : AHeap} {p q u : Nat} {msg : List UInt8} {S : Nat → Prop} (H : HashOf h p q u msg) (f : Fr h h' S) (hs : ∀ j, q ≤ j → j < u → ¬ S j) : HashOf h' p q u msg := by
  obtain ⟨rv, H, h1, h2⟩ := H
  exact ⟨rv, ⟨f.get H.1 (hs p h1.1 h1.2), H.2.1.fr f (fun j hj => hs j (h2 j hj).1 (h2 j hj).2), H.2.2.1, by rw [f.lo]; exact H.2.2.2⟩, h1, h2⟩
variable {C : Ctx} (T : Tab_LDig C) (hk : ∀ j, j < 64 → C.old 0 j = some (wv (kW j)))
include T
theorem new_spec (h : AHeap) (hwf : h.lo ≤ h.bs.length) : ∃ h', D C 61 [] h = some (.pointer (some ⟨h.bs.length, 0, some 0⟩), h') ∧ HashOf h' h.bs.length h.bs.length h'.bs.length [] ∧ Fr h h' (fun _ => False) := by
  refine ⟨h.push (.cells (ws Sha.iv ++ [.slice none 0 0, uv 0]) 217), ?_, ⟨.slice none 0 0, ⟨push_self, .nil, by simp [blkOf], hwf⟩, ⟨Nat.le_refl _, by simp⟩, fun j hj => by cases hj⟩, Fr.push⟩
  rw [D_fn T.h61]
  have e1 : ws Sha.iv = [.int .u32 1779033703, .int .u32 3144134277, .int .u32 1013904242, .int .u32 2773480762, .int .u32 1359893119, .int .u32 2600822924, .int .u32 528734635, .int .u32 1541459225] := rfl
  rw [e1]
  simp [b61, fillCells, splice, r61]
include hk
theorem take_hash (h : AHeap) (p q u : Nat) (msg l : List UInt8) (a : Option Addr) (m cp : Nat) (H : HashOf h p q u msg) (hs : SlR C.old h 1 (.slice a m cp) (bytesVals l)) (hlive : ∀ j, Live (.slice a m cp) j → j < q ∨ u ≤ j)
    (hwf : h.lo ≤ h.bs.length) (hm : m < 2 ^ 40) (hm2 : msg.length < 2 ^ 41) :
    ∃ h', D C 108 [.pointer (some ⟨p, 0, some 0⟩), .slice a m cp] h = some (.tuple #[], h') ∧ HashOf h' p q h'.bs.length (msg ++ l) ∧ Fr h h' (fun j => q ≤ j) := by
  obtain ⟨rv, H, h1, h2⟩ := H
  have hlen : l.length = m := by have := hs.len; simpa using this
  obtain ⟨h', rv', e, g1, g2, g3⟩ := take_from T hk h p 216 msg.length q _ rv _ l a m cp H (by rw [absorb_rest]; omega) hs (fun j hj => by
    have := get_lt H.1
    rcases hlive j hj with h3 | h3
    · exact ⟨by omega, fun hc => by have := h2 j hc; omega⟩
    · exact ⟨by omega, fun hc => by have := h2 j hc; omega⟩) hwf hm h1.1 (fun j hj => (h2 j hj).1)
  rw [absorb_append] at g1
  have hn : (msg.length + m) % 18446744073709551616 = (msg ++ l).length := by rw [List.length_append, hlen]; omega
  rw [hn] at g1
  exact ⟨h', e, ⟨rv', g1, ⟨h1.1, get_lt g1.1⟩, fun j hj => ⟨g3 j hj, g1.2.1.blk hj⟩⟩, g2⟩
theorem write_spec (h : AHeap) (p q u : Nat) (msg l : List UInt8) (a : Option Addr) (m cp : Nat) (H : HashOf h p q u msg) (hs : SlR C.old h 1 (.slice a m cp) (bytesVals l)) (hlive : ∀ j, Live (.slice a m cp) j → j < q ∨ u ≤ j)
    (hwf : h.lo ≤ h.bs.length) (hm : m < 2 ^ 40) (hm2 : msg.length < 2 ^ 41) :
    ∃ h', D C 62 [.pointer (some ⟨p, 0, some 0⟩), .slice a m cp] h = some (.tuple #[], h') ∧ HashOf h' p q h'.bs.length (msg ++ l) ∧ Fr h h' (fun j => q ≤ j) := by
  obtain ⟨h', e, g1, g2⟩ := take_hash T hk h p q u msg l a m cp H hs hlive hwf hm hm2
  refine ⟨h', ?_, g1, g2⟩
  rw [D_fn T.h62]
  simp [b62, Dc2, e, r62]
theorem hsum_spec (h : AHeap) (p q u : Nat) (msg : List UInt8) (H : HashOf h p q u msg) (hm : msg.length < 2 ^ 40) : D C 63 [.pointer (some ⟨p, 0, some 0⟩)] h = some (.agg ⟨bytesVals (sha msg)⟩, h) := by
  obtain ⟨rv, H, h1, h2⟩ := H
  obtain ⟨ra, rcp, hrv⟩ := H.2.1.slice
  exact sum_spec T hk h p _ msg rv H.1 ra rcp hrv (H.2.1.sl (by omega)) hm
omit T hk in
theorem slLive {b m cp j : Nat} (hj : Live (.slice (some ⟨b, 0, some 0⟩) m cp) j) : b = j := hj.2.1
omit T hk in
/-- the 32 bytes are laid, and told -/
theorem lay32 {l : List UInt8} (hl : l.length = 32) (h : AHeap) (b : Nat) : wrN h b (some (.cells (List.replicate 32 (bv 0)) 31)) 0 0 (bytesVals l) = some (h.put b (.cells (bytesVals l) 31)) := by
  rw [wrN_cells (by simp [hl]) bytes_ok]
  congr 3
  simp [splice, hl]
omit T hk in
theorem rd32 {l : List UInt8} (hl : l.length = 32) : rdN (some (.cells (bytesVals l) 31)) 0 0 32 = some (bytesVals l) := by
  rw [rdN_cells (by simp [hl]), List.drop_zero, List.take_of_length_le (by simp [hl])]
/-- the digest of an entry -/
theorem leaf_spec (h : AHeap) (l : List UInt8) (a : Option Addr) (m cp : Nat) (hs : SlR C.old h 1 (.slice a m cp) (bytesVals l)) (hm : m < 2 ^ 39) :
    D C 20 [.slice a m cp] h = some (.agg ⟨bytesVals (sha (0 :: l))⟩, h) := by
  have hlen : l.length = m := by have := hs.len; simpa using this
  rw [D_fn2 T.h20]
  generalize hh0 : ({ h with lo := h.bs.length } : AHeap) = h0
  have h0lo : h0.lo = h0.bs.length := by rw [← hh0]
  have hs0 : SlR C.old h0 1 (.slice a m cp) (bytesVals l) := by rw [← hh0]; exact hs.lo
  generalize hZ : ABlock.cells (List.replicate 32 (bv 0)) 31 = Z
  have hZ0 := hZ
  simp [List.replicate] at hZ
  have f1 := Fr.push (h := h0) (b := Z) (S := fun _ => False)
  obtain ⟨h2, e2, H2, f2⟩ := new_spec T (h0.push Z) (by simp [h0lo])
  have f12 := f1.trans f2 (S'' := fun _ => False) (fun _ h => h) (fun _ h _ => h)
  have l2 := f12.len
  have o2 := f12.lo
  have f3 := Fr.push (h := h2) (b := .cells [bv 0] 6) (S := fun _ => False)
  obtain ⟨h4, e4, H4, f4⟩ := write_spec T hk (h2.push (.cells [bv 0] 6)) _ _ _ [] [0] (some ⟨h2.bs.length, 0, some 0⟩) 1 1 (H2.fr f3 (fun _ _ _ h => h)) one_sl (fun j hj => by
    have hj' := slLive hj
    right; omega) (by simp; omega) (by omega) (by simp)
  have f14 := (f12.trans f3 (S'' := fun _ => False) (fun _ h => h) (fun _ h _ => h)).trans f4 (S'' := fun j => (h0.push Z).bs.length ≤ j) (fun _ h => h.elim) (fun _ h _ => h)
  have hs4 : SlR C.old h4 1 (.slice a m cp) (bytesVals l) := hs0.fr f14 (fun j hj => by have := hs0.live_lt hj; simp; omega)
  have l4 := f14.len
  have o4 := f14.lo
  obtain ⟨h5, e5, H5, f5⟩ := write_spec T hk h4 _ _ _ [0] l a m cp H4 hs4 (fun j hj => by have := hs0.live_lt hj; left; simp; omega) (by omega) (by omega) (by simp)
  have e6 := hsum_spec T hk h5 _ _ _ _ H5 (by simp; omega)
  have f15 := f14.trans f5 (S'' := fun j => (h0.push Z).bs.length ≤ j) (fun _ h => h) (fun _ h _ => h)
  have z5 : h5.at h0.bs.length = some Z := by
    have := f5.get (f4.get (f3.get (f2.get (b := Z) (j := h0.bs.length) push_self (fun h => h)) (fun h => h)) (by simp)) (by simp)
    exact this
  have l5 := f15.len
  have o5 := f15.lo
  have hz : Value.int .u8 0 = bv 0 := rfl
  simp only [push_len] at e2 e4 e5 e6
  have z1s : splice [bv 0] 0 [bv 0] = [bv 0] := rfl
  have w5 := lay32 (sha_length (0 :: l))
  rw [hZ0] at w5
  have hlo5 : h5.lo ≤ h0.bs.length := by omega
  have hlt5 := get_lt z5
  simp [b20, hz, hZ, e2, fillCells, z1s, Dc2, e4, e5, Dc1, e6, writeN_wr, hlo5, z5, w5, sha_length, r20, resV, put_self, hlt5, rd32 (sha_length (0 :: l)), flat_bytes]
omit T hk in
theorem arrSl {h : AHeap} {b n : Nat} (hn : 0 < n) : sliceV h 1 (.slice (some ⟨b, 0, some 0⟩) n n) none none none = some (.slice (some ⟨b, 0, some 0⟩) n n) := by
  have hr : isRest ⟨b, 0, some 0⟩ n = false := rfl
  unfold sliceV
  simp only [hr, Bool.false_eq_true, if_false, Option.getD_none]
  rw [if_pos ⟨by omega, by omega, by omega, by omega⟩, if_neg (by omega)]
  simp
omit T hk in
theorem arr_sl {old : Old} {h : AHeap} {b fz : Nat} {l : List UInt8} (e : h.at b = some (.cells (bytesVals l) fz)) : SlR old h 1 (.slice (some ⟨b, 0, some 0⟩) l.length l.length) (bytesVals l) :=
  ⟨by simp, by rw [if_neg (by simp [isRest])]; exact ⟨Nat.le_refl _, fun _ => by rw [readN_rd, e, rdN_cells (by simp), List.drop_zero, List.take_of_length_le (by simp)]⟩⟩
set_option maxHeartbeats 1000000 in
/-- the digest of two digests -/
theorem node_spec (h : AHeap) (x y : List UInt8) (hx : x.length = 32) (hy : y.length = 32) :
    D C 17 [.agg ⟨bytesVals x⟩, .agg ⟨bytesVals y⟩] h = some (.agg ⟨bytesVals (sha (1 :: (x ++ y)))⟩, h) := by
  rw [D_fn3 T.h17 _ (by simp [flat_bytes])]
  generalize hh0 : ({ bs := [], lo := 0 } : AHeap) = h0
  have h0lo : h0.lo = 0 := by rw [← hh0]
  have h0len : h0.bs.length = 0 := by rw [← hh0]; rfl
  generalize hZ : ABlock.cells (List.replicate 32 (bv 0)) 31 = Z
  have hZ0 := hZ
  simp [List.replicate] at hZ
  generalize hX : ABlock.cells (bytesVals x) 31 = X
  generalize hY : ABlock.cells (bytesVals y) 31 = Y
  generalize hA : ((h0.push X).push Y).push Z = A
  have aL : A.bs.length = 3 := by rw [← hA]; simp [h0len]
  have aO : A.lo = 0 := by rw [← hA]; simp [h0lo]
  have a0 : A.at 0 = some X := by rw [← hA, push_lt (by simp [h0len]), push_lt (by simp [h0len])]; exact push_self' (by simp [h0len])
  have a1 : A.at 1 = some Y := by rw [← hA, push_lt (by simp [h0len])]; exact push_self' (by simp [h0len])
  have a2 : A.at 2 = some Z := by rw [← hA]; exact push_self' (by simp [h0len])
  obtain ⟨h2, e2, H2, f2⟩ := new_spec T A (by omega)
  have l2 := f2.len
  have o2 := f2.lo
  have f3 := Fr.push (h := h2) (b := .cells [bv 1] 6) (S := fun _ => False)
  obtain ⟨h4, e4, H4, f4⟩ := write_spec T hk (h2.push (.cells [bv 1] 6)) _ _ _ [] [1] (some ⟨h2.bs.length, 0, some 0⟩) 1 1 (H2.fr f3 (fun _ _ _ h => h)) one_sl (fun j hj => by
    have hj' := slLive hj
    right; omega) (by simp; omega) (by omega) (by simp)
  have f24 := (f2.trans f3 (S'' := fun _ => False) (fun _ h => h) (fun _ h _ => h)).trans f4 (S'' := fun j => A.bs.length ≤ j) (fun _ h => h.elim) (fun _ h _ => h)
  have l4 := f24.len
  have o4 := f24.lo
  have sx : SlR C.old h4 1 (.slice (some ⟨0, 0, some 0⟩) 32 32) (bytesVals x) := by
    have := arr_sl (old := C.old) (h := h4) (b := 0) (fz := 31) (l := x) (by rw [hX]; exact f24.get a0 (by omega))
    rwa [hx] at this
  obtain ⟨h5, e5, H5, f5⟩ := write_spec T hk h4 _ _ _ [1] x _ 32 32 H4 sx (fun j hj => by have := slLive hj; left; omega) (by omega) (by omega) (by simp)
  have f25 := f24.trans f5 (S'' := fun j => A.bs.length ≤ j) (fun _ h => h) (fun _ h _ => h)
  have l5 := f25.len
  have o5 := f25.lo
  have sy : SlR C.old h5 1 (.slice (some ⟨1, 0, some 0⟩) 32 32) (bytesVals y) := by
    have := arr_sl (old := C.old) (h := h5) (b := 1) (fz := 31) (l := y) (by rw [hY]; exact f25.get a1 (by omega))
    rwa [hy] at this
  obtain ⟨h6, e6, H6, f6⟩ := write_spec T hk h5 _ _ _ ([1] ++ x) y _ 32 32 H5 sy (fun j hj => by have := slLive hj; left; omega) (by omega) (by omega) (by simp [hx])
  have f26 := f25.trans f6 (S'' := fun j => A.bs.length ≤ j) (fun _ h => h) (fun _ h _ => h)
  have e7 := hsum_spec T hk h6 _ _ _ _ H6 (by simp [hx, hy])
  have l6 := f26.len
  have o6 := f26.lo
  have z6 : h6.at 2 = some Z := f26.get a2 (by omega)
  have hz : Value.int .u8 0 = bv 0 := rfl
  have hz1 : Value.int .u8 1 = bv 1 := rfl
  have z1s : splice [bv 0] 0 [bv 1] = [bv 1] := rfl
  have hm : ([] : List UInt8) ++ [1] ++ x ++ y = 1 :: (x ++ y) := by simp
  simp only [List.nil_append, List.singleton_append, List.cons_append] at e7
  have w6 := lay32 (sha_length (1 :: (x ++ y)))
  rw [hZ0] at w6
  have hlt6 := get_lt z6
  have okx : ∀ v ∈ bytesVals x, okCell v = true := fun v hv => List.all_eq_true.1 bytes_ok v hv
  have oky : ∀ v ∈ bytesVals y, okCell v = true := fun v hv => List.all_eq_true.1 bytes_ok v hv
  have hlo6 : h6.lo ≤ 2 := by omega
  rw [aL] at e2 e4 e5 e6 e7
  simp [b17, bytes_ok, hz, hz1, hX, hY, hZ, hA, h0len, e2, fillCells, z1s, Dc2, e4, arrSl, e5, e6, Dc1, e7, writeN_wr, hlo6, z6, w6, sha_length, r17, resV, put_self, hlt6, rd32 (sha_length (1 :: (x ++ y))), flat_bytes]
end Go.Ab.Aud

namespace Go.Ab.Aud
open Go.Sha
variable {C : Ctx} (T : Tab_LDig C) (hk : ∀ j, j < 64 → C.old 0 j = some (wv (kW j)))
include T hk
/-- the digest of one text -/
theorem of1_spec (h : AHeap) (b fz : Nat) (l : List UInt8) (a : Option Addr) (m cp : Nat) (hb : h.at b = some (.cells [.slice a m cp] fz)) (hs : SlR C.old h 1 (.slice a m cp) (bytesVals l)) (hm : m < 2 ^ 39) :
    D C 107 [.slice (some ⟨b, 0, some 0⟩) 1 1] h = some (.agg ⟨bytesVals (sha l)⟩, h) := by
  have hlen : l.length = m := by have := hs.len; simpa using this
  rw [D_fn2 T.h107]
  have hbl := get_lt hb
  generalize hh0 : ({ h with lo := h.bs.length } : AHeap) = h0
  have h0lo : h0.lo = h0.bs.length := by rw [← hh0]
  have h0len : h0.bs.length = h.bs.length := by rw [← hh0]
  have hb0 : h0.at b = some (.cells [.slice a m cp] fz) := by rw [← hh0]; exact hb
  have hs0 : SlR C.old h0 1 (.slice a m cp) (bytesVals l) := by rw [← hh0]; exact hs.lo
  generalize hZ : ABlock.cells (List.replicate 32 (bv 0)) 31 = Z
  have hZ0 := hZ
  simp [List.replicate] at hZ
  have f1 := Fr.push (h := h0) (b := Z) (S := fun _ => False)
  obtain ⟨h2, e2, H2, f2⟩ := new_spec T (h0.push Z) (by simp [h0lo])
  have f12 := f1.trans f2 (S'' := fun _ => False) (fun _ h => h) (fun _ h _ => h)
  have l2 := f12.len
  have o2 := f12.lo
  have hb2 := f12.get hb0 (fun h => h)
  have hs2 : SlR C.old h2 1 (.slice a m cp) (bytesVals l) := hs0.fr f12 (fun _ _ h => h)
  obtain ⟨h5, e5, H5, f5⟩ := take_hash T hk h2 _ _ _ [] l a m cp H2 hs2 (fun j hj => by have := hs0.live_lt hj; left; simp; omega) (by omega) (by omega) (by simp)
  rw [List.nil_append] at H5
  have e6 := hsum_spec T hk h5 _ _ _ _ H5 (by omega)
  have f15 := f12.trans f5 (S'' := fun j => (h0.push Z).bs.length ≤ j) (fun _ h => h.elim) (fun _ h _ => h)
  have z5 : h5.at h0.bs.length = some Z := by
    have := f5.get (f2.get (b := Z) (j := h0.bs.length) push_self (fun h => h)) (by simp)
    exact this
  have l5 := f15.len
  have o5 := f15.lo
  simp only [push_len] at e2 e5 e6 l5
  have hz : Value.int .u8 0 = bv 0 := rfl
  have w5 := lay32 (sha_length l)
  rw [hZ0] at w5
  have hlo5 : h5.lo ≤ h0.bs.length := by omega
  have hlt5 := get_lt z5
  simp [b107, hz, hZ, e2]
  rw [R_open lp107_0.eq_1]
  simp [ixS_iv, hb2, Dc2, e5, iv_add]
  rw [R_open lp107_0.eq_1]
  simp [k107_0, Dc1, e6, writeN_wr, hlo5, z5, w5, sha_length, r107, resV, put_self, hlt5, rd32 (sha_length l), flat_bytes]
theorem dsum_spec (h : AHeap) (l : List UInt8) (a : Option Addr) (m cp : Nat) (hs : SlR C.old h 1 (.slice a m cp) (bytesVals l)) (hm : m < 2 ^ 39) :
    D C 57 [.slice a m cp] h = some (.agg ⟨bytesVals (sha l)⟩, h) := by
  rw [D_fn2 T.h57]
  generalize hh0 : ({ h with lo := h.bs.length } : AHeap) = h0
  have h0lo : h0.lo = h0.bs.length := by rw [← hh0]
  have hs0 : SlR C.old h0 1 (.slice a m cp) (bytesVals l) := by rw [← hh0]; exact hs.lo
  generalize hZ : ABlock.cells (List.replicate 32 (bv 0)) 31 = Z
  have hZ0 := hZ
  simp [List.replicate] at hZ
  generalize hX : ABlock.cells [Value.slice a m cp] 42 = X
  have s2 : SlR C.old ((h0.push Z).push X) 1 (.slice a m cp) (bytesVals l) := hs0.fr (Fr.push.trans Fr.push (S := fun _ => False) (S' := fun _ => False) (S'' := fun _ => False) (fun _ h => h) (fun _ h _ => h)) (fun _ _ h => h)
  have e1 := of1_spec T hk ((h0.push Z).push X) (h0.push Z).bs.length 42 l a m cp (by rw [push_self, hX]) s2 hm
  have z5 : ((h0.push Z).push X).at h0.bs.length = some Z := by rw [push_lt (by simp)]; exact push_self
  have hz : Value.int .u8 0 = bv 0 := rfl
  have w5 := lay32 (sha_length l)
  rw [hZ0] at w5
  simp only [push_len] at e1
  have hlo5 : h0.lo ≤ h0.bs.length := by omega
  have zs : splice [Value.slice none 0 0] 0 [Value.slice a m cp] = [Value.slice a m cp] := rfl
  have hlt5 : h0.bs.length < h0.bs.length + 1 + 1 := by omega
  simp [b57, hz, hZ, fillCells, zs, hX, Dc1, e1, writeN_wr, hlo5, z5, w5, sha_length, r57, resV, put_self, hlt5, rd32 (sha_length l), flat_bytes]
end Go.Ab.Aud
