/-
  Steps of the proof of WireBackCardSaid: what functions of the program do in the abstract machine, and the laws between; no condition beside those that each theorem names.
-/
import Derived.Lib.MapLaws
import Derived.Lib.ValidU
import Derived.Test.YtbcadgoemkjbeaaDoorLit
import Derived.Test.YtbcadgoemkjbeaaDoorAbD
import Derived.Laws.RangeAny
import Derived.Laws.Runes
import Derived.Lib.ValidLaws

set_option linter.unusedSimpArgs false
set_option linter.unusedVariables false
set_option linter.unusedSectionVars false

/- Forms and coded texts, on lists of bytes. -/
namespace Go.Wire
def amp : UInt8 := 38
def eqs : UInt8 := 61
def col : UInt8 := 58
def pct : UInt8 := 37
def plu : UInt8 := 43
def spc : UInt8 := 32
def sta : UInt8 := 42
/-- does a byte stand for itself where it is printed? -/
def itself (c : UInt8) : Bool := (65 ≤ c && c ≤ 90) || (97 ≤ c && c ≤ 122) || (48 ≤ c && c ≤ 57) || c == 45 || c == 46 || c == 95 || c == 126
/-- a digit of base 16; 16: none -/
def hexv (c : UInt8) : Nat := if 48 ≤ c && c ≤ 57 then c.toNat - 48 else if 65 ≤ c && c ≤ 70 then c.toNat - 55 else if 97 ≤ c && c ≤ 102 then c.toNat - 87 else 16
def byteAt : List UInt8 → Option UInt8
  | a :: b :: _ => if hexv a < 16 ∧ hexv b < 16 then some (UInt8.ofNat (16 * hexv a + hexv b)) else none
  | _ => none
structure Dec where
  p0 : List UInt8
  p1 : List UInt8
  at' : Option Nat
  deriving DecidableEq
def Dec.push (d : Dec) (c : UInt8) : Dec := if d.at'.isSome then { d with p1 := d.p1 ++ [c] } else { d with p0 := d.p0 ++ [c] }
/-- what a text with coded texts stands for, and its first mark; or the first wrong place -/
def decF (mk : UInt8) : Nat → List UInt8 → Nat → Dec → Dec × Option Nat
  | 0, _, i, d => (d, some i)
  | _ + 1, [], _, d => (d, none)
  | f + 1, c :: r, i, d =>
    if itself c || c == sta then decF mk f r (i + 1) (d.push c)
    else if c = plu then decF mk f r (i + 1) (d.push spc)
    else if c = mk ∧ d.at' = none then decF mk f r (i + 1) { d with at' := some i }
    else if c = pct then match byteAt r with
      | some x => decF mk f (r.drop 2) (i + 3) (d.push x)
      | none => (d, some i)
    else (d, some i)
def dec0 : Dec := ⟨[], [], none⟩
def decode (mk : UInt8) (s : List UInt8) : Dec × Option Nat := decF mk (s.length + 1) s 0 dec0
def hexd (n : Nat) : UInt8 := if n < 10 then UInt8.ofNat (48 + n) else UInt8.ofNat (55 + n)
def enc1 (c : UInt8) : List UInt8 := if itself c then [c] else if c = spc then [plu] else [pct, hexd (c.toNat / 16), hexd (c.toNat % 16)]
def encF (s : List UInt8) : List UInt8 := s.flatMap enc1
theorem byte_all {P : UInt8 → Prop} [DecidablePred P] (h : ∀ n : Fin 256, P (UInt8.ofNat n.val)) (c : UInt8) : P c := by
  have := h ⟨c.toNat, c.toNat_lt⟩
  simpa using this
theorem enc_itself (c : UInt8) : itself c = true → c ≠ plu ∧ c ≠ pct ∧ c ≠ eqs ∧ c ≠ col ∧ c ≠ amp ∧ c ≠ spc ∧ c < 128 := by
  revert c; exact byte_all (by decide +kernel)
theorem enc_hex (c : UInt8) : byteAt [hexd (c.toNat / 16), hexd (c.toNat % 16)] = some c ∧ itself (hexd (c.toNat / 16)) = true ∧ itself (hexd (c.toNat % 16)) = true := by
  revert c; exact byte_all (by decide +kernel)
theorem byteAt_app {a b : UInt8} {r : List UInt8} : byteAt (a :: b :: r) = byteAt [a, b] := rfl
theorem not_itself : itself plu = false ∧ itself pct = false ∧ itself eqs = false ∧ itself col = false ∧ itself amp = false ∧ plu ≠ sta ∧ pct ≠ sta ∧ pct ≠ plu ∧ eqs ≠ plu ∧ col ≠ plu ∧ eqs ≠ sta ∧ col ≠ sta ∧ eqs ≠ pct ∧ col ≠ pct := by decide
theorem enc1_len (c : UInt8) : 1 ≤ (enc1 c).length ∧ (enc1 c).length ≤ 3 := by
  unfold enc1; split
  · simp
  · split <;> simp
/-- more fuel than bytes -/
theorem decF_fuel (mk : UInt8) : ∀ (f g : Nat) (s : List UInt8) (i : Nat) (d : Dec), s.length < f → s.length < g → decF mk f s i d = decF mk g s i d := by
  intro f
  induction f with
  | zero => intro g s i d h; exact absurd h (by omega)
  | succ f ih =>
    intro g s i d h1 h2
    obtain ⟨g, rfl⟩ : ∃ k, g = k + 1 := ⟨g - 1, by omega⟩
    cases s with
    | nil => rfl
    | cons c r =>
      simp only [List.length_cons] at h1 h2
      simp only [decF]
      split
      · exact ih g r _ _ (by omega) (by omega)
      · split
        · exact ih g r _ _ (by omega) (by omega)
        · split
          · exact ih g r _ _ (by omega) (by omega)
          · split
            · split
              · exact ih g _ _ _ (by simp; omega) (by simp; omega)
              · rfl
            · rfl
/-- what was coded is read -/
theorem dec_enc (mk : UInt8) (hmk : mk = eqs ∨ mk = col) : ∀ (a : List UInt8) (f : Nat) (r : List UInt8) (i : Nat) (d : Dec), (encF a ++ r).length < f →
    decF mk f (encF a ++ r) i d = decF mk f r (i + (encF a).length) (a.foldl Dec.push d) := by
  intro a
  induction a with
  | nil => intro f r i d h; rfl
  | cons c a ih =>
    intro f r i d h
    have e : encF (c :: a) = enc1 c ++ encF a := rfl
    rw [e, List.append_assoc] at h ⊢
    rw [List.length_append] at h
    rw [List.foldl_cons]
    obtain ⟨f, rfl⟩ : ∃ k, f = k + 1 := ⟨f - 1, by omega⟩
    by_cases hc : itself c = true
    · have h1 : enc1 c = [c] := by unfold enc1; rw [if_pos hc]
      rw [h1] at h ⊢
      simp only [List.length_cons, List.length_nil] at h
      simp only [List.cons_append, List.nil_append, decF, hc, Bool.true_or, if_true]
      rw [ih f r _ _ (by omega), decF_fuel mk f (f + 1) r _ _ (by rw [List.length_append] at h; omega) (by rw [List.length_append] at h; omega)]
      congr 1
      simp; omega
    · by_cases hs : c = spc
      · have h1 : enc1 c = [plu] := by unfold enc1; rw [if_neg hc, if_pos hs]
        rw [h1] at h ⊢
        simp only [List.length_cons, List.length_nil] at h
        have n1 : (itself plu || plu == sta) = false := by decide
        simp only [List.cons_append, List.nil_append, decF, n1, Bool.false_eq_true, if_false, if_true]
        subst hs
        rw [ih f r _ _ (by omega), decF_fuel mk f (f + 1) r _ _ (by rw [List.length_append] at h; omega) (by rw [List.length_append] at h; omega)]
        congr 1
        simp; omega
      · have h1 : enc1 c = [pct, hexd (c.toNat / 16), hexd (c.toNat % 16)] := by unfold enc1; rw [if_neg hc, if_neg hs]
        rw [h1] at h ⊢
        simp only [List.length_cons, List.length_nil] at h
        have n1 : (itself pct || pct == sta) = false := by decide
        have n2 : ¬ pct = plu := by decide
        have n3 : ¬ (pct = mk ∧ d.at' = none) := by rcases hmk with rfl | rfl <;> exact fun h => absurd h.1 (by decide)
        simp only [List.cons_append, List.nil_append, decF, n1, Bool.false_eq_true, if_false, n2, n3, if_true]
        rw [byteAt_app, (enc_hex c).1]
        simp only [List.drop_succ_cons, List.drop_zero]
        rw [ih f r _ _ (by omega), decF_fuel mk f (f + 1) r _ _ (by rw [List.length_append] at h; omega) (by rw [List.length_append] at h; omega)]
        congr 1
        simp; omega
theorem push_p0 : ∀ (a : List UInt8) (d : Dec), d.at' = none → a.foldl Dec.push d = { d with p0 := d.p0 ++ a }
  | [], d, _ => by simp
  | c :: a, d, h => by
    rw [List.foldl_cons, push_p0 a _ (by simp [Dec.push, h])]
    simp [Dec.push, h]
theorem push_p1 : ∀ (a : List UInt8) (d : Dec) (k : Nat), d.at' = some k → a.foldl Dec.push d = { d with p1 := d.p1 ++ a }
  | [], d, _, _ => by simp
  | c :: a, d, k, h => by
    rw [List.foldl_cons, push_p1 a _ k (by simp [Dec.push, h])]
    simp [Dec.push, h]
theorem decode_pair (mk : UInt8) (hmk : mk = eqs ∨ mk = col) (a b : List UInt8) : decode mk (encF a ++ mk :: encF b) = (⟨a, b, some (encF a).length⟩, none) := by
  unfold decode
  rw [dec_enc mk hmk a _ _ _ _ (by omega), push_p0 a dec0 rfl]
  have hl : (mk :: encF b).length < (encF a ++ mk :: encF b).length + 1 := by rw [List.length_append]; omega
  obtain ⟨f, hf⟩ : ∃ k, (encF a ++ mk :: encF b).length + 1 = k + 1 := ⟨_, rfl⟩
  rw [hf] at hl ⊢
  have n1 : (itself mk || mk == sta) = false := by rcases hmk with rfl | rfl <;> decide
  have n2 : ¬ mk = plu := by rcases hmk with rfl | rfl <;> decide
  simp only [decF, n1, Bool.false_eq_true, if_false, n2, true_and]
  rw [if_pos (by rfl)]
  have h2 := dec_enc mk hmk b f [] (0 + (encF a).length + 1) { dec0 with p0 := dec0.p0 ++ a, at' := some (0 + (encF a).length) } (by simp at hl ⊢; omega)
  rw [List.append_nil] at h2
  rw [h2, push_p1 b _ _ rfl]
  obtain ⟨f, rfl⟩ : ∃ k, f = k + 1 := ⟨f - 1, by simp at hl; omega⟩
  simp [decF, dec0]
end Go.Wire

/- Base 64, on lists of bytes. -/
namespace Go.Wire
def b64 (n : Nat) : UInt8 := if n < 26 then UInt8.ofNat (65 + n) else if n < 52 then UInt8.ofNat (71 + n) else if n < 62 then UInt8.ofNat (n - 4) else if n = 62 then 43 else 47
/-- a letter's number; 64: none -/
def v64 (c : UInt8) : Nat := if 65 ≤ c && c ≤ 90 then c.toNat - 65 else if 97 ≤ c && c ≤ 122 then c.toNat - 71 else if 48 ≤ c && c ≤ 57 then c.toNat + 4 else if c == 43 then 62 else if c == 47 then 63 else 64
def t64 : List UInt8 → List UInt8
  | [] => []
  | [a] => [b64 (a.toNat / 4), b64 (a.toNat % 4 * 16)]
  | [a, b] => [b64 (a.toNat / 4), b64 (a.toNat % 4 * 16 + b.toNat / 16), b64 (b.toNat % 16 * 4)]
  | a :: b :: c :: r => b64 (a.toNat / 4) :: b64 (a.toNat % 4 * 16 + b.toNat / 16) :: b64 (b.toNat % 16 * 4 + c.toNat / 64) :: b64 (c.toNat % 64) :: t64 r
def pad : UInt8 := 61
def textPad (b : List UInt8) : List UInt8 := t64 b ++ List.replicate ((4 - (t64 b).length % 4) % 4) pad
/-- letters are read: so many bits are kept in n -/
def rd64 : List UInt8 → Nat → Nat → List UInt8 → Option (List UInt8 × Nat)
  | [], n, _, out => some (out, n)
  | c :: r, n, bits, out =>
    if v64 c < 64 then
      if 8 ≤ bits + 6 then rd64 r ((n * 64 + v64 c) % 2 ^ (bits - 2)) (bits - 2) (out ++ [UInt8.ofNat ((n * 64 + v64 c) / 2 ^ (bits - 2))])
      else rd64 r (n * 64 + v64 c) (bits + 6) out
    else none
def trim1 (s : List UInt8) : List UInt8 := if s.getLast? = some pad then s.dropLast else s
/-- the bytes of a text with pads; none: a fault -/
def bytesPad (s : List UInt8) : Option (List UInt8) := match rd64 (trim1 (trim1 s)) 0 0 [] with
  | some (b, n) => if s.length % 4 = 0 ∧ n = 0 then some b else none
  | none => none
theorem v64_b64 {n : Nat} (h : n < 64) : v64 (b64 n) = n := by
  have : ∀ n : Fin 64, v64 (b64 n.val) = n.val := by decide +kernel
  exact this ⟨n, h⟩
theorem b64_pad {n : Nat} (h : n < 64) : b64 n ≠ pad := by
  have : ∀ n : Fin 64, b64 n.val ≠ pad := by decide +kernel
  exact this ⟨n, h⟩
theorem ofNat_of {a : UInt8} {n : Nat} (h : n = a.toNat) : UInt8.ofNat n = a := by subst h; simp
theorem rd_t64 : ∀ (k : Nat) (b out : List UInt8), b.length ≤ k → rd64 (t64 b) 0 0 out = some (out ++ b, 0)
  | k, [], out, _ => by simp [t64, rd64]
  | k, [a], out, _ => by
    have ha := a.toNat_lt
    have h1 : v64 (b64 (a.toNat / 4)) = a.toNat / 4 := v64_b64 (by omega)
    have h2 : v64 (b64 (a.toNat % 4 * 16)) = a.toNat % 4 * 16 := v64_b64 (by omega)
    simp only [t64, rd64, h1, h2]
    rw [if_pos (by omega), if_neg (by omega), if_pos (by omega), if_pos (by omega)]
    have e1 : (0 * 64 + a.toNat / 4) * 64 + a.toNat % 4 * 16 = a.toNat * 16 := by omega
    rw [e1]
    simp only [Nat.zero_add, Nat.reduceSub, Nat.reducePow]
    rw [ofNat_of (show a.toNat * 16 / 16 = a.toNat by omega)]
    congr 2
    omega
  | k, [a, b], out, _ => by
    have ha := a.toNat_lt
    have hb := b.toNat_lt
    have h1 : v64 (b64 (a.toNat / 4)) = a.toNat / 4 := v64_b64 (by omega)
    have h2 : v64 (b64 (a.toNat % 4 * 16 + b.toNat / 16)) = a.toNat % 4 * 16 + b.toNat / 16 := v64_b64 (by omega)
    have h3 : v64 (b64 (b.toNat % 16 * 4)) = b.toNat % 16 * 4 := v64_b64 (by omega)
    simp only [t64, rd64, h1, h2, h3]
    rw [if_pos (by omega), if_neg (by omega), if_pos (by omega), if_pos (by omega), if_pos (by omega), if_pos (by omega)]
    simp only [Nat.zero_add, Nat.zero_mul, Nat.reduceSub, Nat.reducePow]
    rw [ofNat_of (show (a.toNat / 4 * 64 + (a.toNat % 4 * 16 + b.toNat / 16)) / 16 = a.toNat by omega)]
    rw [ofNat_of (show ((a.toNat / 4 * 64 + (a.toNat % 4 * 16 + b.toNat / 16)) % 16 * 64 + b.toNat % 16 * 4) / 4 = b.toNat by omega)]
    congr 2
    · simp
    · omega
  | 0, _ :: _ :: _ :: _, out, h => by simp at h
  | k + 1, a :: b :: c :: r, out, h => by
    have ha := a.toNat_lt
    have hb := b.toNat_lt
    have hc := c.toNat_lt
    have h1 : v64 (b64 (a.toNat / 4)) = a.toNat / 4 := v64_b64 (by omega)
    have h2 : v64 (b64 (a.toNat % 4 * 16 + b.toNat / 16)) = a.toNat % 4 * 16 + b.toNat / 16 := v64_b64 (by omega)
    have h3 : v64 (b64 (b.toNat % 16 * 4 + c.toNat / 64)) = b.toNat % 16 * 4 + c.toNat / 64 := v64_b64 (by omega)
    have h4 : v64 (b64 (c.toNat % 64)) = c.toNat % 64 := v64_b64 (by omega)
    simp only [t64, rd64, h1, h2, h3, h4]
    rw [if_pos (by omega), if_neg (by omega), if_pos (by omega), if_pos (by omega), if_pos (by omega), if_pos (by omega), if_pos (by omega), if_pos (by omega)]
    simp only [Nat.zero_add, Nat.zero_mul, Nat.reduceSub, Nat.reducePow]
    rw [ofNat_of (show (a.toNat / 4 * 64 + (a.toNat % 4 * 16 + b.toNat / 16)) / 16 = a.toNat by omega)]
    rw [ofNat_of (show ((a.toNat / 4 * 64 + (a.toNat % 4 * 16 + b.toNat / 16)) % 16 * 64 + (b.toNat % 16 * 4 + c.toNat / 64)) / 4 = b.toNat by omega)]
    rw [ofNat_of (show (((a.toNat / 4 * 64 + (a.toNat % 4 * 16 + b.toNat / 16)) % 16 * 64 + (b.toNat % 16 * 4 + c.toNat / 64)) % 4 * 64 + c.toNat % 64) / 1 = c.toNat by omega)]
    rw [Nat.mod_one, rd_t64 k r _ (by simp at h; omega)]
    simp
theorem t64_pad : ∀ (k : Nat) (b : List UInt8), b.length ≤ k → (t64 b).getLast? ≠ some pad ∧ (t64 b).length % 4 ≠ 1
  | k, [], _ => by simp [t64]
  | k, [a], _ => by
    have ha := a.toNat_lt
    have := b64_pad (n := a.toNat % 4 * 16) (by omega)
    simpa [t64] using this
  | k, [a, b], _ => by
    have hb := b.toNat_lt
    have := b64_pad (n := b.toNat % 16 * 4) (by omega)
    simpa [t64] using this
  | 0, _ :: _ :: _ :: _, h => by simp at h
  | k + 1, a :: b :: c :: r, h => by
    have hc := c.toNat_lt
    obtain ⟨h1, h2⟩ := t64_pad k r (by simp at h; omega)
    have hp := b64_pad (n := c.toNat % 64) (by omega)
    simp only [t64, List.length_cons]
    refine ⟨?_, by omega⟩
    cases hr : t64 r with
    | nil => simpa using hp
    | cons x l =>
      rw [hr] at h1
      simp only [List.getLast?_cons_cons]
      exact h1
theorem trim_app {s : List UInt8} : trim1 (s ++ [pad]) = s := by simp [trim1]
theorem trim_no {s : List UInt8} (h : s.getLast? ≠ some pad) : trim1 s = s := by simp [trim1, h]
theorem bytes_text (b : List UInt8) : bytesPad (textPad b) = some b := by
  obtain ⟨h1, h2⟩ := t64_pad b.length b (Nat.le_refl _)
  have hr := rd_t64 b.length b [] (Nat.le_refl _)
  unfold bytesPad textPad
  have ht : trim1 (trim1 (t64 b ++ List.replicate ((4 - (t64 b).length % 4) % 4) pad)) = t64 b := by
    have hm : (4 - (t64 b).length % 4) % 4 = 0 ∨ (4 - (t64 b).length % 4) % 4 = 1 ∨ (4 - (t64 b).length % 4) % 4 = 2 := by omega
    rcases hm with hm | hm | hm <;> rw [hm]
    · simp only [List.replicate, List.append_nil]
      rw [trim_no h1, trim_no h1]
    · simp only [List.replicate]
      rw [trim_app, trim_no h1]
    · have e : t64 b ++ List.replicate 2 pad = (t64 b ++ [pad]) ++ [pad] := by simp [List.replicate]
      rw [e, trim_app, trim_app]
  have hl : (t64 b ++ List.replicate ((4 - (t64 b).length % 4) % 4) pad).length % 4 = 0 := by
    rw [List.length_append, List.length_replicate]; omega
  rw [ht, hr]
  simp only [hl, and_self, if_true, List.nil_append]
end Go.Wire

/- Forms, on lists of bytes. -/
namespace Go.Wire
open Go.Lib
abbrev Txt := List UInt8
def spl : Txt → Txt → List Txt
  | [], cur => [cur]
  | c :: r, cur => if c = amp then cur :: spl r [] else spl r (cur ++ [c])
def split (s : Txt) : List Txt := spl s []
def join : List Txt → Txt
  | [] => []
  | [s] => s
  | s :: r => s ++ amp :: join r
def printF (l : List (Txt × Txt)) : Txt := join (l.map fun p => encF p.1 ++ eqs :: encF p.2)
/-- false: that a form is wrong; true: a field twice -/
def formGo : List Txt → Nat → List (Txt × Txt) → Except (Bool × Nat) (List (Txt × Txt))
  | [], _, l => .ok l
  | s :: r, start, l =>
    match decode eqs s with
    | (_, some w) => .error (false, start + w)
    | (d, none) => match d.at' with
      | none => .error (false, start + s.length)
      | some k =>
        if d.p0 = [] ∨ validD d.p0 = false then .error (false, start)
        else if validD d.p1 = false then .error (false, start + k + 1)
        else if d.p0 ∈ l.map (·.1) then .error (true, start)
        else formGo r (start + s.length + 1) (l ++ [(d.p0, d.p1)])
theorem formGo_cons {s : Txt} {r : List Txt} {start : Nat} {l : List (Txt × Txt)} : formGo (s :: r) start l =
    match decode eqs s with
    | (_, some w) => .error (false, start + w)
    | (d, none) => match d.at' with
      | none => .error (false, start + s.length)
      | some k =>
        if d.p0 = [] ∨ validD d.p0 = false then .error (false, start)
        else if validD d.p1 = false then .error (false, start + k + 1)
        else if d.p0 ∈ l.map (·.1) then .error (true, start)
        else formGo r (start + s.length + 1) (l ++ [(d.p0, d.p1)]) := rfl
def maxBody : Nat := 16384
def formF (b : Txt) : Except (Bool × Nat) (List (Txt × Txt)) := if maxBody < b.length then .error (false, 0) else if b = [] then .ok [] else formGo (split b) 0 []
/-- fields that may be printed and read again -/
def Fit (l : List (Txt × Txt)) : Prop := (∀ p, p ∈ l → p.1 ≠ [] ∧ validD p.1 = true ∧ validD p.2 = true) ∧ (l.map (·.1)).Nodup
theorem enc_noamp (s : Txt) : amp ∉ encF s := by
  intro h
  obtain ⟨c, _, hc⟩ := List.mem_flatMap.1 h
  unfold enc1 at hc
  split at hc
  · rename_i h1
    rw [List.mem_singleton] at hc
    subst hc
    exact absurd h1 (by decide)
  · split at hc
    · rw [List.mem_singleton] at hc; exact absurd hc (by decide)
    · simp only [List.mem_cons, List.not_mem_nil, or_false] at hc
      rcases hc with hc | hc | hc
      · exact absurd hc (by decide)
      · have := (enc_hex c).2.1; rw [← hc] at this; exact absurd this (by decide)
      · have := (enc_hex c).2.2; rw [← hc] at this; exact absurd this (by decide)
theorem pair_noamp (a b : Txt) : amp ∉ encF a ++ eqs :: encF b := by
  intro h
  rcases List.mem_append.1 h with h | h
  · exact enc_noamp a h
  · rcases List.mem_cons.1 h with h | h
    · exact absurd h (by decide)
    · exact enc_noamp b h
theorem spl_app : ∀ (s r cur : Txt), amp ∉ s → spl (s ++ amp :: r) cur = (cur ++ s) :: spl r []
  | [], r, cur, _ => by simp [spl]
  | c :: s, r, cur, h => by
    have hc : ¬ c = amp := fun e => h (by simp [e])
    rw [List.cons_append]
    simp only [spl, if_neg hc]
    rw [spl_app s r _ (fun hm => h (List.mem_cons_of_mem _ hm))]
    simp
theorem spl_one : ∀ (s cur : Txt), amp ∉ s → spl s cur = [cur ++ s]
  | [], cur, _ => by simp [spl]
  | c :: s, cur, h => by
    have hc : ¬ c = amp := fun e => h (by simp [e])
    simp only [spl, if_neg hc]
    rw [spl_one s _ (fun hm => h (List.mem_cons_of_mem _ hm))]
    simp
theorem split_join : ∀ (l : List Txt), l ≠ [] → (∀ s, s ∈ l → amp ∉ s) → split (join l) = l
  | [], h, _ => absurd rfl h
  | [s], _, h => by simp [split, join, spl_one s [] (h s (by simp))]
  | s :: t :: r, _, h => by
    have ih := split_join (t :: r) (by simp) fun x hx => h x (by simp [List.mem_cons.1 hx])
    unfold split at ih ⊢
    show spl (s ++ amp :: join (t :: r)) [] = _
    rw [spl_app s _ [] (h s (by simp)), ih]
    simp
theorem split_join_amp : ∀ (l : List Txt), l ≠ [] → (∀ s, s ∈ l → amp ∉ s) → split (join l ++ [amp]) = l ++ [[]]
  | [], h, _ => absurd rfl h
  | [s], _, h => by
    have := spl_app s [] [] (h s (by simp))
    simp [split, join, this, spl]
  | s :: t :: r, _, h => by
    have ih := split_join_amp (t :: r) (by simp) fun x hx => h x (by simp [List.mem_cons.1 hx])
    unfold split at ih ⊢
    show spl ((s ++ amp :: join (t :: r)) ++ [amp]) [] = _
    rw [List.append_assoc, List.cons_append, spl_app s _ [] (h s (by simp)), ih]
    simp
theorem form_go : ∀ (l : List (Txt × Txt)) (r : List Txt) (start : Nat) (acc : List (Txt × Txt)), Fit (acc ++ l) → ∃ start', formGo (l.map (fun p => encF p.1 ++ eqs :: encF p.2) ++ r) start acc = formGo r start' (acc ++ l) ∧
      start' = start + (l.map fun p => (encF p.1 ++ eqs :: encF p.2).length + 1).sum
  | [], r, start, acc, _ => ⟨start, by simp, by simp⟩
  | p :: l, r, start, acc, h => by
    have h1 := h.1 p (by simp)
    have h2 : p.1 ∉ acc.map (·.1) := by
      have hn := h.2
      rw [List.map_append, List.map_cons] at hn
      intro hm
      exact (List.nodup_append.1 hn).2.2 _ hm _ (by simp) rfl
    obtain ⟨st, e, hs⟩ := form_go l r (start + (encF p.1 ++ eqs :: encF p.2).length + 1) (acc ++ [p]) (by rw [List.append_assoc]; exact h)
    refine ⟨st, ?_, by rw [hs]; simp; omega⟩
    rw [List.map_cons, List.cons_append, formGo_cons, decode_pair eqs (.inl rfl)]
    simp only
    rw [if_neg (by rintro (hc | hc); exact h1.1 hc; rw [h1.2.1] at hc; cases hc), if_neg (by rw [h1.2.2]; simp), if_neg h2, e]
    simp
theorem join_len : ∀ (l : List Txt), l ≠ [] → (join l).length + 1 = (l.map fun s => s.length + 1).sum
  | [], h => absurd rfl h
  | [s], _ => by simp [join]
  | s :: t :: r, _ => by
    have ih := join_len (t :: r) (by simp)
    show (s ++ amp :: join (t :: r)).length + 1 = _
    rw [List.length_append, List.length_cons, List.map_cons, List.sum_cons, ← ih]
    omega
theorem form_print (l : List (Txt × Txt)) (h : Fit l) (hm : (printF l).length ≤ maxBody) : formF (printF l) = .ok l := by
  unfold formF
  rw [if_neg (by omega)]
  cases l with
  | nil => rfl
  | cons p l =>
    have hj := join_len ((p :: l).map fun p => encF p.1 ++ eqs :: encF p.2) (by simp)
    have hne : printF (p :: l) ≠ [] := by
      intro hc
      unfold printF at hc
      rw [hc] at hj
      simp at hj
      omega
    rw [if_neg hne]
    unfold printF
    rw [split_join _ (by simp) (fun s hs => by obtain ⟨q, _, rfl⟩ := List.mem_map.1 hs; exact pair_noamp _ _)]
    obtain ⟨st, e, _⟩ := form_go (p :: l) [] 0 [] h
    rw [List.append_nil, List.nil_append] at e
    rw [e]; rfl
theorem form_amp (l : List (Txt × Txt)) (h : Fit l) (hne : l ≠ []) (hm : (printF l).length < maxBody) : formF (printF l ++ [amp]) = .error (false, (printF l).length + 1) := by
  unfold formF
  rw [if_neg (by rw [List.length_append]; simp; omega), if_neg (by simp)]
  have hj := join_len (l.map fun p => encF p.1 ++ eqs :: encF p.2) (by simpa using hne)
  unfold printF
  rw [split_join_amp _ (by simpa using hne) (fun s hs => by obtain ⟨q, _, rfl⟩ := List.mem_map.1 hs; exact pair_noamp _ _)]
  obtain ⟨st, e, hs⟩ := form_go l [[]] 0 [] h
  rw [e]
  have hst : st = (join (l.map fun p => encF p.1 ++ eqs :: encF p.2)).length + 1 := by
    rw [hj, hs, Nat.zero_add, List.map_map]; rfl
  subst hst
  rfl
theorem form_fit : ∀ (ps : List Txt) (start : Nat) (acc l : List (Txt × Txt)), Fit acc → formGo ps start acc = .ok l → Fit l
  | [], start, acc, l, h, e => by simp only [formGo] at e; cases e; exact h
  | s :: r, start, acc, l, h, e => by
    rw [formGo_cons] at e
    split at e
    · cases e
    · split at e
      · cases e
      · split at e
        · cases e
        · rename_i d _ k _ h1
          split at e
          · cases e
          · rename_i h2
            split at e
            · cases e
            · rename_i h3
              refine form_fit r _ _ l ⟨fun p hp => ?_, ?_⟩ e
              · rcases List.mem_append.1 hp with hp | hp
                · exact h.1 p hp
                · rw [List.mem_singleton.1 hp]
                  exact ⟨fun hc => h1 (.inl hc), by simpa using fun hc => h1 (.inr hc), by simpa using h2⟩
              · rw [List.map_append]
                refine List.nodup_append.2 ⟨h.2, by simp, fun a ha b hb hab => h3 ?_⟩
                simp at hb
                rw [← hb, ← hab]; exact ha
theorem form_is_fit {b : Txt} {l : List (Txt × Txt)} (e : formF b = .ok l) : Fit l := by
  unfold formF at e
  split at e
  · cases e
  · split at e
    · cases e; exact ⟨fun p hp => (by cases hp), by simp⟩
    · exact form_fit _ _ _ _ ⟨fun p hp => (by cases hp), by simp⟩ e
theorem dec_at : ∀ (mk : UInt8) (f : Nat) (s : Txt) (i : Nat) (d : Dec), (∀ k, d.at' = some k → k < i) →
    (∀ w, (decF mk f s i d).2 = some w → s.length < f → w < i + s.length) ∧ ((decF mk f s i d).2 = none → ∀ k, (decF mk f s i d).1.at' = some k → k < i + s.length) := by
  intro mk f
  induction f with
  | zero => intro s i d h; exact ⟨fun w _ hl => absurd hl (by omega), fun h => by cases h⟩
  | succ f ih =>
    intro s i d h
    cases s with
    | nil => exact ⟨fun w e => (by cases e), fun _ k hk => by have := h k hk; simp; exact this⟩
    | cons c r =>
      have hpush : ∀ x j, i < j → ∀ k, (d.push x).at' = some k → k < j := fun x j hj k hk => by
        have : (d.push x).at' = d.at' := by unfold Dec.push; split <;> rfl
        rw [this] at hk
        have := h k hk; omega
      simp only [decF]
      split
      · obtain ⟨a1, a2⟩ := ih r (i + 1) (d.push c) (hpush c _ (by omega))
        exact ⟨fun w e hl => by have := a1 w e (by simp at hl; omega); simp; omega, fun e k hk => by have := a2 e k hk; simp; omega⟩
      · split
        · obtain ⟨a1, a2⟩ := ih r (i + 1) (d.push spc) (hpush spc _ (by omega))
          exact ⟨fun w e hl => by have := a1 w e (by simp at hl; omega); simp; omega, fun e k hk => by have := a2 e k hk; simp; omega⟩
        · split
          · obtain ⟨a1, a2⟩ := ih r (i + 1) { d with at' := some i } (fun k hk => by cases hk; omega)
            exact ⟨fun w e hl => by have := a1 w e (by simp at hl; omega); simp; omega, fun e k hk => by have := a2 e k hk; simp; omega⟩
          · split
            · split
              · rename_i x hx
                have h2 : 2 ≤ r.length := by
                  match r, hx with
                  | [], hx => cases hx
                  | [_], hx => cases hx
                  | _ :: _ :: _, _ => simp
                obtain ⟨a1, a2⟩ := ih (r.drop 2) (i + 3) (d.push x) (hpush x _ (by omega))
                exact ⟨fun w e hl => by have := a1 w e (by simp at hl ⊢; omega); simp at this ⊢; omega, fun e k hk => by have := a2 e k hk; simp at this ⊢; omega⟩
              · exact ⟨fun w e _ => (by cases e; simp), fun e => (by cases e)⟩
            · exact ⟨fun w e _ => (by cases e; simp), fun e => (by cases e)⟩
theorem spl_len : ∀ (s cur : Txt), ((spl s cur).map fun x => x.length + 1).sum = cur.length + s.length + 1
  | [], cur => by simp [spl]
  | c :: r, cur => by
    simp only [spl]
    split
    · rw [List.map_cons, List.sum_cons, spl_len r []]; simp; omega
    · rw [spl_len r]; simp; omega
theorem go_at : ∀ (ps : List Txt) (start : Nat) (acc : List (Txt × Txt)) (t : Bool) (w : Nat), formGo ps start acc = .error (t, w) → w + 1 ≤ start + (ps.map fun x => x.length + 1).sum
  | [], start, acc, t, w, e => by cases e
  | s :: r, start, acc, t, w, e => by
    have hd := dec_at eqs (s.length + 1) s 0 dec0 (fun k hk => by cases hk)
    rw [formGo_cons] at e
    unfold decode at e
    rw [List.map_cons, List.sum_cons]
    split at e
    · rename_i w' hw
      cases e
      have := hd.1 w' (by rw [hw]) (by omega)
      omega
    · rename_i d hdd
      split at e
      · cases e; omega
      · rename_i k hk
        have hkk := hd.2 (by rw [hdd]) k (by rw [hdd]; exact hk)
        split at e
        · cases e; omega
        · split at e
          · cases e; omega
          · split at e
            · cases e; omega
            · have := go_at r _ _ t w e; omega
theorem form_at {b : Txt} {t : Bool} {w : Nat} (e : formF b = .error (t, w)) : w ≤ b.length := by
  unfold formF at e
  split at e
  · cases e; omega
  · split at e
    · cases e
    · have := go_at _ _ _ _ _ e
      unfold split at this
      rw [spl_len] at this
      simp at this; omega
end Go.Wire

namespace Go.Ab.Aud
open Go.Wire (itself hexv hexd enc1 encF)
variable {C : Ctx} (T : Tab_LStr C) (TW : Tab_LWir C)
theorem D_ext {C : Ctx} {f : FuncId} {e : Ext} (hT : C.T f = some (.ext e)) (args : List Value) (h : AHeap) : D C f args h = extExec C e args h := by
  unfold D doCall; rw [hT]
/-- where a byte stands first -/
def fidx (s : List UInt8) (c : UInt8) : Int := firstIdx ⟨⟨s⟩⟩ c
theorem k_leq {k : IntKind} {a b : Int} : abin .leq (.int k a) (.int k b) = some (.bool (decide (a ≤ b))) := by simp only [abin, abinI, if_true]
theorem k_lss {k : IntKind} {a b : Int} : abin .lss (.int k a) (.int k b) = some (.bool (decide (a < b))) := by simp only [abin, abinI, if_true]
theorem k_geq {k : IntKind} {a b : Int} : abin .geq (.int k a) (.int k b) = some (.bool (decide (b ≤ a))) := by simp only [abin, abinI, if_true]
theorem k_eql {k : IntKind} {a b : Int} : abin .eql (.int k a) (.int k b) = some (.bool (decide (a = b))) := by simp only [abin, abinI, if_true]
theorem k_neq {k : IntKind} {a b : Int} : abin .neq (.int k a) (.int k b) = some (.bool (decide (a ≠ b))) := by simp only [abin, abinI, if_true]
include T in
theorem ix_spec (h : AHeap) (s : List UInt8) (c : UInt8) : D C 57 [str s, bv c] h = some (.int .i64 (fidx s c), h) := by
  have e76 : ∀ h, D C 76 [str s, bv c] h = some (.int .i64 (fidx s c), h) := fun h => by
    rw [D_ext T.x76]
    show some (Value.int .i64 (firstIdx ⟨⟨s⟩⟩ (c.toNat : Int).toNat.toUInt8), h) = _
    have : (c.toNat : Int).toNat.toUInt8 = c := by simp
    rw [this]; rfl
  have e70 : ∀ h, D C 70 [str s, bv c] h = some (.int .i64 (fidx s c), h) := fun h => by
    rw [D_fn3 T.h70 _ rfl]
    simp [b70, Dc2, e76, r70]
  rw [D_fn3 T.h57 _ rfl]
  simp [b57, Dc2, e70, r57]
/-- the digits of base 16 -/
def dig16 : List UInt8 := [48, 49, 50, 51, 52, 53, 54, 55, 56, 57, 65, 66, 67, 68, 69, 70]
theorem hex_all : ∀ c : UInt8, (0 ≤ fidx dig16 c → fidx dig16 c = (hexv c : Int)) ∧ (fidx dig16 c < 0 → (if 97 ≤ c.toNat ∧ c.toNat ≤ 102 then c.toNat - 97 + 10 else 16) = hexv c) := by
  exact Go.Wire.byte_all (by decide +kernel)
theorem bv_leq {a b : UInt8} : abin .leq (bv a) (bv b) = some (.bool (decide (a.toNat ≤ b.toNat))) := by
  unfold bv; rw [k_leq]; congr 2; simp
include T TW in
theorem hexed_spec (h : AHeap) (c : UInt8) : D C 50 [bv c] h = some (iv (hexv c), h) := by
  rw [D_fn3 TW.h50 _ rfl]
  obtain ⟨h1, h2⟩ := hex_all c
  have ex := fun h => ix_spec T h dig16 c
  have hs : Value.string ⟨⟨[48, 49, 50, 51, 52, 53, 54, 55, 56, 57, 65, 66, 67, 68, 69, 70]⟩⟩ = str dig16 := rfl
  by_cases hp : 0 ≤ fidx dig16 c
  · have hv : Value.int .i64 (fidx dig16 c) = iv (hexv c) := by rw [h1 hp]; rfl
    rw [hv] at ex
    simp [b50, hs, Dc2, ex, r50]
  · have h2 := h2 (by omega)
    have hg : abin .geq (.int .i64 (fidx dig16 c)) (iv 0) = some (.bool false) := by
      show some (Value.bool (decide ((0 : Int) ≤ fidx dig16 c))) = _
      rw [decide_eq_false hp]
    have h97 : Value.int .u8 97 = bv 97 := rfl
    have h102 : Value.int .u8 102 = bv 102 := rfl
    have t97 : (97 : UInt8).toNat = 97 := rfl
    have t102 : (102 : UInt8).toNat = 102 := rfl
    by_cases ha : 97 ≤ c.toNat
    · by_cases hb : c.toNat ≤ 102
      · rw [if_pos ⟨ha, hb⟩] at h2
        have hs1 : abin .sub (bv c) (bv 97) = some (bv (UInt8.ofNat (c.toNat - 97))) := by
          unfold bv
          simp only [abin, abinI, if_true, wrap8u]
          congr 2
          rw [t97, UInt8.toNat_ofNat']
          omega
        have hc := c.toNat_lt
        generalize hx : UInt8.ofNat (c.toNat - 97) = x at hs1
        have hxt : x.toNat = c.toNat - 97 := by rw [← hx, UInt8.toNat_ofNat']; omega
        have hr : iv (x.toNat + 10) = iv (hexv c) := by rw [hxt, ← h2]
        simp [b50, hs, Dc2, ex, hg, h97, h102, bv_leq, t97, t102, ha, hb, hs1, r50, iv_add (a := x.toNat) (b := 10) (by omega), hr]
      · rw [if_neg (by omega)] at h2
        simp [b50, hs, Dc2, ex, hg, h97, h102, bv_leq, t97, t102, ha, hb, r50, h2]
    · rw [if_neg (by omega)] at h2
      simp [b50, hs, Dc2, ex, hg, h97, h102, bv_leq, t97, t102, ha, r50, h2]
end Go.Ab.Aud

namespace Go.Ab.Aud
open Go.Wire (itself hexv hexd enc1 encF byteAt)
def nxV (v : Value) (h : AHeap) : Option (Value × AHeap) := match v with
  | .pointer (some ⟨r, 0, some 0⟩) => match h.bs[r]? with
    | some (.siter s pos) =>
      if pos < s.length then (if r < h.lo then none else some (.tuple #[.bool true, .int .i64 pos, .int .i32 (utf8At s pos).1], h.put r (.siter s (pos + (utf8At s pos).2))))
      else some (.tuple #[.bool false], h)
    | _ => none
  | _ => none
def rgV (v : Value) (h : AHeap) : Option (Value × AHeap) := match v with
  | .string s => some (.pointer (some ⟨h.bs.length, 0, some 0⟩), h.push (.siter s.data.toList 0))
  | _ => none
def r2V (v : Value) (h : AHeap) : Option (Value × AHeap) := match v with
  | .int _ n => some (.string (Utf8.encode n), h)
  | _ => none
/-- a rune -/
def rv (n : Nat) : Value := .int .i32 n
/-- a rune's bytes -/
def rb (n : Nat) : List UInt8 := (Utf8.encode n).data.toList
section
variable {C : Ctx} {t : List Value} {h : AHeap} {x : AArg}
@[simp high] theorem ax_next2 : aexec C t h (.nextStr x) = nxV (x.ev t) h := nr rfl
@[simp high] theorem ax_rangeS2 : aexec C t h (.rangeStr x) = rgV (x.ev t) h := nr rfl
@[simp high] theorem ax_r2s2 : aexec C t h (.rune2str x) = r2V (x.ev t) h := nr rfl
@[simp] theorem rgV_str {s : List UInt8} : rgV (str s) h = some (.pointer (some ⟨h.bs.length, 0, some 0⟩), h.push (.siter s 0)) := nr rfl
@[simp] theorem und_rv {n : Nat} : isUnd (rv n) = false := nr rfl
@[simp] theorem okc_rv {n : Nat} : okCell (rv n) = true := nr rfl
@[simp] theorem cell_rv {n : Nat} : cellsOf (rv n) = [rv n] := nr rfl
@[simp] theorem flat_rv {n : Nat} : flat (rv n) = true := nr rfl
theorem bs_str (b : ByteArray) : Value.string b = str b.data.toList := by obtain ⟨⟨l⟩⟩ := b; rfl
theorem r2V_int {k : IntKind} {z : Int} : r2V (.int k z) h = some (.string (Utf8.encode z), h) := by simp only [r2V]
theorem r2V_rv {n : Nat} : r2V (rv n) h = some (str (rb n), h) := by
  unfold rv
  rw [r2V_int, bs_str, rb]
theorem nxV_yes {r pos : Nat} {s : List UInt8} (e : h.at r = some (.siter s pos)) (hp : pos < s.length) (hl : h.lo ≤ r) :
    nxV (.pointer (some ⟨r, 0, some 0⟩)) h = some (.tuple #[.bool true, iv pos, rv (utf8At s pos).1], h.put r (.siter s (pos + (utf8At s pos).2))) := by
  have e' : h.bs[r]? = some (.siter s pos) := e
  simp only [nxV, e', if_pos hp, if_neg (show ¬ r < h.lo by omega), iv, rv]
theorem nxV_no {r pos : Nat} {s : List UInt8} (e : h.at r = some (.siter s pos)) (hp : ¬ pos < s.length) : nxV (.pointer (some ⟨r, 0, some 0⟩)) h = some (.tuple #[.bool false], h) := by
  have e' : h.bs[r]? = some (.siter s pos) := e
  simp only [nxV, e', if_neg hp]
end
theorem stp_rv {C : Ctx} {rs : List ARes} {h : AHeap} {n d : Nat} {os : List AOper} {k : List AItem} {t : List Value} {ds : List ADefer} : stp C rs (some (rv n, h)) (some d) os k t ds = R C rs (.ops os :: k) (ts t d (rv n)) ds h := stp_ok rfl
theorem rv_leq {a b : Nat} : abin .leq (rv a) (rv b) = some (.bool (decide (a ≤ b))) := by unfold rv; rw [k_leq]; congr 2; simp
theorem rv_lss {a b : Nat} : abin .lss (rv a) (rv b) = some (.bool (decide (a < b))) := by unfold rv; rw [k_lss]; congr 2; simp
theorem rv_eql {a b : Nat} : abin .eql (rv a) (rv b) = some (.bool (decide (a = b))) := by unfold rv; rw [k_eql]; congr 2; simp; omega
theorem lit_rv {n : Nat} : Value.int .i32 (no_index (OfNat.ofNat n)) = rv (OfNat.ofNat n) := nr rfl
theorem cvt_rb {n : Nat} (h : n < 256) : cvt .u8 (rv n) = some (bv (UInt8.ofNat n)) := by
  show some (Value.int .u8 (IntKind.u8.wrap (n : Int))) = _
  rw [wrap8u]
  unfold bv
  rw [UInt8.toNat_ofNat', Nat.mod_eq_of_lt (by omega)]
  congr 2
  omega
attribute [simp] stp_rv lit_rv rv_leq rv_lss rv_eql
theorem iv_shl4 {a : Nat} (h : a ≤ 16) : abin .shl (iv a) (uv 4) = some (iv (a * 16)) := by
  show ashift .shl .i64 (a : Int) ((4 : Nat) : Int) = _
  unfold ashift
  rw [if_neg (by omega)]
  have hm : min ((4 : Nat) : Int).toNat IntKind.i64.bits = 4 := rfl
  rw [hm]
  have : (a : Int) * 2 ^ 4 = ((a * 16 : Nat) : Int) := by push_cast; rfl
  simp only [this]
  rw [wrapi64 _ (by omega) (by omega)]; rfl
theorem iv_or {a b : Nat} (ha : a < 2 ^ 40) (hb : b < 2 ^ 40) : abin .or (iv a) (iv b) = some (iv (a ||| b)) := by
  have hlt : a ||| b < 2 ^ 40 := Nat.or_lt_two_pow ha hb
  show some (Value.int .i64 (IntKind.i64.wrap ((BitVec.ofInt 64 (a : Int) ||| BitVec.ofInt 64 (b : Int)).toNat : Int))) = _
  rw [ofInt_nat, ofInt_nat, BitVec.toNat_or, BitVec.toNat_ofNat, BitVec.toNat_ofNat, Nat.mod_eq_of_lt (by omega), Nat.mod_eq_of_lt (by omega), wrapi64 _ (by omega) (by omega)]
  rfl
variable {C : Ctx} (T : Tab_LStr C) (TW : Tab_LWir C)
theorem hexv_le (c : UInt8) : hexv c ≤ 16 := by revert c; exact Go.Wire.byte_all (by decide +kernel)
include T TW in
theorem byteAt_spec (h : AHeap) (s : List UInt8) : ∃ x, D C 34 [str s] h = some (.tuple #[bv x, .bool (byteAt s).isSome], h) ∧ ∀ y, byteAt s = some y → x = y := by
  rw [D_fn3 TW.h34 _ rfl]
  have hf : ∀ (x : UInt8) (p : Bool), flat (.tuple #[bv x, .bool p]) = true := fun _ _ => rfl
  have hz : Value.int .u8 0 = bv 0 := rfl
  match s with
  | [] => exact ⟨0, by simp [b34, r34, byteAt, hz, hf], fun y hy => by cases hy⟩
  | [a] => exact ⟨0, by simp [b34, r34, byteAt, hz, hf], fun y hy => by cases hy⟩
  | a :: b :: r =>
    have ha := hexv_le a
    have hb := hexv_le b
    have e0 : idxSv (str (a :: b :: r)) (iv 0) = fun h => some (bv a, h) := by funext h; exact idxSv_str (s := a :: b :: r) (i := 0) (by simp)
    have e1 : idxSv (str (a :: b :: r)) (iv 1) = fun h => some (bv b, h) := by funext h; exact idxSv_str (s := a :: b :: r) (i := 1) (by simp)
    refine ⟨UInt8.ofNat (hexv a * 16 ||| hexv b), ?_, fun y hy => ?_⟩
    · by_cases h1 : hexv a < 16
      · by_cases h2 : hexv b < 16
        · simp [b34, show ¬ r.length + 1 + 1 < 2 by omega, e0, e1, Dc_ok, hexed_spec T TW, iv_shl4 ha, iv_or (show hexv a * 16 < 2 ^ 40 by omega) (show hexv b < 2 ^ 40 by omega), h1, h2, r34, byteAt, hf]
        · simp [b34, show ¬ r.length + 1 + 1 < 2 by omega, e0, e1, Dc_ok, hexed_spec T TW, iv_shl4 ha, iv_or (show hexv a * 16 < 2 ^ 40 by omega) (show hexv b < 2 ^ 40 by omega), h1, h2, r34, byteAt, hf]
      · simp [b34, show ¬ r.length + 1 + 1 < 2 by omega, e0, e1, Dc_ok, hexed_spec T TW, iv_shl4 ha, iv_or (show hexv a * 16 < 2 ^ 40 by omega) (show hexv b < 2 ^ 40 by omega), h1, r34, byteAt, hf]
    · simp only [byteAt] at hy
      split at hy
      · rename_i hh
        cases hy
        congr 1
        have := Nat.two_pow_add_eq_or_of_lt (i := 4) (b := hexv b) (by omega) (hexv a)
        rw [Nat.mul_comm (hexv a) 16]
        exact this.symm
      · cases hy
end Go.Ab.Aud

namespace Go.Ab.Aud
set_option maxRecDepth 20000
open Go.Wire (itself hexv hexd enc1 encF)
variable {C : Ctx} (T : Tab_LStr C) (TW : Tab_LWir C)
@[simp] theorem grd_un {C : Ctx} {rs : List ARes} {w : Bool} {dn : Option Nat} {op : AOp} {u : List Nat} {os : List AOper} {k : List AItem} {t : List Value} {ds : List ADefer} {h : AHeap} : grd C rs (.tuple #[]) w dn op u os k t ds h = R C rs (.ops os :: k) (putD t dn (.tuple #[])) ds h := nr rfl
def mk4 : List UInt8 := [45, 46, 95, 126]
theorem rv_cvt8 {n : Nat} (h : n < 256) : cvt .u8 (rv n) = some (bv (UInt8.ofNat n)) := cvt_rb h
theorem geq_m1 : abin .geq (.int .i64 (-1)) (iv 0) = some (.bool false) := rfl
theorem lss_m1 : abin .lss (.int .i64 (-1)) (iv 0) = some (.bool true) := rfl
include T in
theorem idxRune_ascii (h : AHeap) (n : Nat) (hn : n < 128) : D C 61 [str mk4, rv n] h = some (.int .i64 (fidx mk4 (UInt8.ofNat n)), h) := by
  rw [D_fn3 T.h61 _ rfl]
  simp [b61, hn, rv_cvt8 (show n < 256 by omega), Dc2, ix_spec T, r61]
include T in
theorem valid_rune (h : AHeap) (n : Nat) : D C 75 [rv n] h = some (.bool (Utf8.valid n), h) := by
  rw [D_fn3 T.h75 _ rfl, validRune_eq, validRune]
  by_cases h1 : n < 55296
  · rw [decide_eq_true (by omega)]
    simp [b75, h1, r75]
  · by_cases h2 : 57343 < n
    · by_cases h3 : n ≤ 1114111
      · rw [decide_eq_true (by omega)]
        simp [b75, h1, r75, h2, h3]
      · rw [decide_eq_false (by omega)]
        simp [b75, h1, r75, h2, h3]
    · rw [decide_eq_false (by omega)]
      simp [b75, h1, r75, h2]
theorem ba_len (b : ByteArray) : b.data.toList.length = b.size := by rw [Array.length_toList]; rfl
theorem ba_get (b : ByteArray) (i : Nat) (h : i < b.size) : b.data.toList.getD i 0 = b[i]'h := by
  rw [List.getD_eq_getElem?_getD, Array.getElem?_toList, Array.getElem?_eq_getElem (by exact h)]
  rfl
theorem rb_last {n : Nat} (hv : Utf8.valid n = true) (h128 : 128 ≤ n) : 2 ≤ (rb n).length ∧ (rb n).length ≤ 4 ∧ 128 ≤ ((rb n).getD ((rb n).length - 1) 0).toNat := by
  have hf := encode_facts (n : Int) hv (by omega)
  unfold rb
  generalize Utf8.encode (n : Int) = b at hf ⊢
  rw [ba_len]
  have hi : b.size - 1 < b.size := by omega
  rw [ba_get b _ hi]
  exact ⟨hf.1, hf.2.1, hf.2.2 hi⟩
theorem fidx_none {s : List UInt8} {c : UInt8} (h : ∀ b ∈ s, b ≠ c) : fidx s c = -1 := firstIdx_none ⟨⟨s⟩⟩ c h
include T in
theorem idxRune_err (h : AHeap) : D C 61 [str mk4, rv 65533] h = some (.int .i64 (-1), h) := by
  rw [D_fn3 T.h61 _ rfl]
  have e0 : utf8At [45, 46, 95, 126] 0 = (45, 1) := rfl
  have e1 : utf8At [45, 46, 95, 126] 1 = (46, 1) := rfl
  have e2 : utf8At [45, 46, 95, 126] 2 = (95, 1) := rfl
  have e3 : utf8At [45, 46, 95, 126] 3 = (126, 1) := rfl
  have er : ∀ n : Nat, Value.int .i32 (n : Int) = rv n := fun _ => rfl
  simp [b61, mk4, AHeap.push, R_inLoop, lp61_0, k61_0, nxV, AHeap.put, e0, e1, e2, e3, er, xtr, r61]
include T in
theorem idxRune_high (h : AHeap) (n : Nat) (h128 : 128 ≤ n) (hne : n ≠ 65533) : D C 61 [str mk4, rv n] h = some (.int .i64 (-1), h) := by
  rw [D_fn3 T.h61 _ rfl]
  by_cases hv : Utf8.valid (n : Int) = true
  case neg =>
    rw [Bool.not_eq_true] at hv
    simp [b61, show ¬ n < 128 by omega, hne, Dc_ok, valid_rune T _ n, hv, r61]
  obtain ⟨h2, h4, h8⟩ := rb_last hv h128
  generalize hr : rb n = rs at *
  obtain ⟨m, hm⟩ : ∃ m, rs.length = m + 1 := ⟨rs.length - 1, by omega⟩
  rw [hm] at h2 h4 h8
  simp only [Nat.add_sub_cancel] at h8
  have hi : ∀ h, idxSv (str rs) (iv m) h = some (bv (rs.getD m 0), h) := fun h => idxSv_str (by omega)
  generalize rs.getD m 0 = x at h8 hi
  have hc : ∀ b ∈ mk4, b ≠ x := by
    intro b hb hbx
    subst hbx
    have : ∀ b ∈ mk4, b.toNat < 128 := by decide
    have := this b hb
    omega
  have hm4 : m < mk4.length := by show m < 4; omega
  have hlen : mk4.length = 4 := rfl
  have hi2 : ∀ h, idxSv (str mk4) (iv m) h = some (bv (mk4.getD m 0), h) := fun h => idxSv_str hm4
  have hne2 : mk4.getD m 0 ≠ x := by
    apply hc
    rw [List.getD_eq_getElem?_getD, List.getElem?_eq_getElem hm4]
    exact List.getElem_mem _
  have hneq : abin .neq (bv (mk4.getD m 0)) (bv x) = some (.bool true) := by
    unfold bv
    rw [k_neq, decide_eq_true]
    intro hcc
    apply hne2
    exact UInt8.toNat_inj.1 (by omega)
  generalize mk4.getD m 0 = y at hi2 hneq
  have hs : ∀ h, slcSv (str mk4) (some (some ((m : Int) + 1))) (some none) h = some (str (mk4.drop (m + 1)), h) := fun h => by
    have := slcSv_str (s := mk4) (h := h) (lo := some ((m : Int) + 1)) (hi := none) (l := m + 1) (u := 4) (by simp) rfl (by omega) (by omega)
    rw [this, List.take_of_length_le (by rw [List.length_drop]; omega)]
  have hfx : fidx (mk4.drop (m + 1)) x = -1 := fidx_none fun b hb => hc b (List.mem_of_mem_drop hb)
  simp [b61, show ¬ n < 128 by omega, hne, Dc_ok, valid_rune T _ n, hv, r2V_rv, hr, hm, iv_sub (a := m + 1) (b := 1) (by omega) (by omega), R_inLoop, lp61_2, hlen, hm4, show m < 4 by omega, hi, hi2, hneq, iv_add (a := m) (b := 1) (by omega), hs, ix_spec T, hfx, lss_m1, r61]
def itR (n : Nat) : Bool := decide (n < 128) && itself (UInt8.ofNat n)
theorem it_all (n : Nat) (h : n < 128) : itself (UInt8.ofNat n) = decide ((65 ≤ n ∧ n ≤ 90) ∨ (97 ≤ n ∧ n ≤ 122) ∨ (48 ≤ n ∧ n ≤ 57) ∨ 0 ≤ fidx mk4 (UInt8.ofNat n)) := by
  have : ∀ n : _root_.Fin 128, itself (UInt8.ofNat n.val) = decide ((65 ≤ n.val ∧ n.val ≤ 90) ∨ (97 ≤ n.val ∧ n.val ≤ 122) ∨ (48 ≤ n.val ∧ n.val ≤ 57) ∨ 0 ≤ fidx mk4 (UInt8.ofNat n.val)) := by decide +kernel
  exact this ⟨n, h⟩
include T in
theorem contains_spec (h : AHeap) (n : Nat)   : D C 43 [str mk4, rv n] h = some (.bool (decide (n < 128 ∧ 0 ≤ fidx mk4 (UInt8.ofNat n))), h) := by
  rw [D_fn3 T.h43 _ rfl]
  by_cases h1 : n < 128
  · have hg : abin .geq (.int .i64 (fidx mk4 (UInt8.ofNat n))) (iv 0) = some (.bool (decide (0 ≤ fidx mk4 (UInt8.ofNat n)))) := k_geq
    simp [b43, Dc_ok, idxRune_ascii T _ n h1, hg, r43, h1]
  · by_cases h2 : n = 65533
    · subst h2
      simp [b43, Dc_ok, idxRune_err T, geq_m1, r43]
    · simp [b43, Dc_ok, idxRune_high T _ n (by omega) h2, geq_m1, r43, h1]
include T TW in
theorem itself_spec (h : AHeap) (n : Nat)   : D C 27 [rv n] h = some (.bool (itR n), h) := by
  rw [D_fn3 TW.h27 _ rfl]
  have hk : Value.string ⟨⟨[45, 46, 95, 126]⟩⟩ = str mk4 := rfl
  have hc := fun h => contains_spec T h n
  have hit : itR n = decide (n < 128 ∧ ((65 ≤ n ∧ n ≤ 90) ∨ (97 ≤ n ∧ n ≤ 122) ∨ (48 ≤ n ∧ n ≤ 57) ∨ 0 ≤ fidx mk4 (UInt8.ofNat n))) := by
    unfold itR
    by_cases h1 : n < 128
    · rw [it_all n h1]; simp [h1]
    · simp [h1]
  rw [hit]
  generalize fidx mk4 (UInt8.ofNat n) = z at hc
  by_cases a : 65 ≤ n ∧ n ≤ 90
  · simp [b27, a.1, a.2, r27, show n < 128 by omega]
  · by_cases b : 97 ≤ n ∧ n ≤ 122
    · simp [b27, b.1, b.2, r27, show n < 128 by omega, show 65 ≤ n by omega, show ¬ n ≤ 90 by omega]
    · by_cases c : 48 ≤ n ∧ n ≤ 57
      · simp [b27, c.1, c.2, r27, show n < 128 by omega, show ¬ 65 ≤ n by omega, show ¬ 97 ≤ n by omega]
      · by_cases d : n < 48
        · simp [b27, r27, show ¬ 65 ≤ n by omega, show ¬ 97 ≤ n by omega, show ¬ 48 ≤ n by omega, hk, Dc_ok, hc]
        · by_cases e : n < 65
          · simp [b27, r27, show ¬ 65 ≤ n by omega, show ¬ 97 ≤ n by omega, show 48 ≤ n by omega, show ¬ n ≤ 57 by omega, hk, Dc_ok, hc]
          · by_cases f : n < 97
            · simp [b27, r27, show 65 ≤ n by omega, show ¬ n ≤ 90 by omega, show ¬ 97 ≤ n by omega, show 48 ≤ n by omega, show ¬ n ≤ 57 by omega, hk, Dc_ok, hc]
            · simp [b27, r27, show 65 ≤ n by omega, show ¬ n ≤ 90 by omega, show 97 ≤ n by omega, show ¬ n ≤ 122 by omega, show 48 ≤ n by omega, show ¬ n ≤ 57 by omega, hk, Dc_ok, hc]
end Go.Ab.Aud

namespace Go.Ab.Aud
set_option maxRecDepth 20000
variable {C : Ctx} (T : Tab_LStr C) (TW : Tab_LWir C)
/-- a builder's place -/
def bp (b off : Nat) : Value := .pointer (some ⟨b, off, some 0⟩)
/-- a builder stands at off in the block b, that has the cells c; its bytes stand in the row v -/
structure Bld (C : Ctx) (h : AHeap) (e b off : Nat) (c : List Value) (v : Value) (s : List UInt8) : Prop where
  at' : h.at b = some (.cells c (e + 1))
  p0 : c[off]? = some (.pointer none) ∨ c[off]? = some (bp b off)
  p1 : c[off + 1]? = some v
  own : Own h 5 1 v s.length (bytesVals s)
  lo : h.lo ≤ b
  lies : C.lies e c.length off 70 = true
theorem Bld.lt {h : AHeap} {e b off : Nat} {c : List Value} {v : Value} {s : List UInt8} (B : Bld C h e b off c v s) : off + 1 < c.length := by
  have := B.p1
  exact (List.getElem?_eq_some_iff.1 this).1
theorem Bld.wf {h : AHeap} {e b off : Nat} {c : List Value} {v : Value} {s : List UInt8} (B : Bld C h e b off c v s) : h.lo ≤ h.bs.length := by
  have := get_lt B.at'
  have := B.lo
  omega
theorem own_ne {h : AHeap} {e' k n : Nat} {v : Value} {cs : List Value} (o : Own h e' k v n cs) {b fz : Nat} {c : List Value} (hb : h.at b = some (.cells c fz)) : blkOf v ≠ some b := by
  intro hv
  rcases o with ⟨h1 | h1, _⟩ | ⟨b', g, last, rfl, h1, _⟩
  · subst h1; cases hv
  · subst h1; cases hv
  · cases hv
    rw [h1] at hb; cases hb
theorem aun_bpn {b off : Nat} : isUnd (bp b off) = false := rfl
theorem aeq_nilP_none : aeq .nilP (.pointer none) (.pointer none) = some true := rfl
theorem aeq_nilP_bp {b off : Nat} : aeq .nilP (bp b off) (.pointer none) = some false := rfl
theorem aeq_ptr_bp {b off : Nat} : aeq .ptr (bp b off) (bp b off) = some true := by simp [aeq, bp]
include T in
theorem copyCheck_spec {h : AHeap} {e b off : Nat} {c : List Value} {v : Value} {s : List UInt8} (B : Bld C h e b off c v s) : D C 44 [bp b off] h = some (.tuple #[], h.put b (.cells (c.set off (bp b off)) (e + 1))) := by
  have h62 : ∀ x h, isUnd x = false → D C 62 [x] h = some (x, h) := fun x h hx => by
    rw [D_ext T.x62]; simp [extExec, hx]
  have hlt := B.lt
  have hb : h.bs[b]? = some (.cells c (e + 1)) := B.at'
  have hl := B.lies
  rw [D_fn T.h44]
  rcases B.p0 with h0 | h0
  · have hw := wr1_cells (h := h) (b := b) (o := off) (fz := e) (c := c) (v := bp b off) (by omega) rfl
    simp only [bp] at hw
    have ho : off < c.length := by omega
    obtain ⟨_, hg⟩ := List.getElem?_eq_some_iff.1 h0
    simp [hg, b44, bp, nilOk, read1_rd, B.at', h0, adda, rd1_cells, aeq, hb, ho, Dc_ok, h62, hl, write1_wr B.lo, hw, r44]
  · have hs : c.set off (bp b off) = c := by
      obtain ⟨hi, he⟩ := List.getElem?_eq_some_iff.1 h0
      rw [← he, List.set_getElem_self]
    rw [hs, put_eq B.at']
    simp only [bp] at h0
    simp [b44, bp, nilOk, read1_rd, B.at', h0, adda, rd1_cells, aeq, r44]
/-- the cells after a builder was written to -/
def bc (c : List Value) (b off : Nat) (v : Value) : List Value := (c.set off (bp b off)).set (off + 1) v
theorem Bld.check {h : AHeap} {e b off : Nat} {c : List Value} {v : Value} {s : List UInt8} (B : Bld C h e b off c v s) :
    Bld C (h.put b (.cells (c.set off (bp b off)) (e + 1))) e b off (c.set off (bp b off)) v s ∧ Fr h (h.put b (.cells (c.set off (bp b off)) (e + 1))) (fun j => j = b) := by
  have hlt := B.lt
  have f : Fr h (h.put b (.cells (c.set off (bp b off)) (e + 1))) (fun j => j = b) := Fr.put rfl
  refine ⟨⟨put_self (get_lt B.at'), .inr (by rw [List.getElem?_set_self (by omega)]), ?_, B.own.fr f (fun j hj hc => own_ne B.own B.at' (by rw [hj, hc])), B.lo, by simpa using B.lies⟩, f⟩
  rw [List.getElem?_set_ne (by omega)]; exact B.p1
/-- a builder's row is another -/
theorem Bld.store {h h' : AHeap} {e b off : Nat} {c : List Value} {v v' : Value} {s s' : List UInt8} {S : Nat → Prop} (B : Bld C h e b off c v s) (f : Fr h h' S) (hS : ¬ S b) (o : Own h' 5 1 v' s'.length (bytesVals s')) :
    Bld C (h'.put b (.cells (c.set (off + 1) v') (e + 1))) e b off (c.set (off + 1) v') v' s' := by
  have hlt := B.lt
  have ha := f.get B.at' hS
  refine ⟨put_self (get_lt ha), ?_, by rw [List.getElem?_set_self (by omega)], o.fr (S := fun j => j = b) (Fr.put rfl) (fun j hj hc => own_ne o ha (by rw [hj, hc])), by show h'.lo ≤ b; rw [f.lo]; exact B.lo, by simpa using B.lies⟩
  rw [List.getElem?_set_ne (by omega)]; exact B.p0
theorem sl_one {old : Old} {h : AHeap} {x : Value} {fz : Nat} : srcCells old (h.push (.cells [x] fz)) 1 1 (.slice (some ⟨h.bs.length, 0, some 0⟩) 1 1) = some [x] := by
  simp only [srcCells]; rw [readN_rd, push_self]; rfl
/-- what a builder's call says -/
structure BStep (C : Ctx) (h h' : AHeap) (e b off : Nat) (c : List Value) (v v' : Value) (s' : List UInt8) : Prop where
  bld : Bld C h' e b off (bc c b off v') v' s'
  fr : Fr h h' (fun j => j = b ∨ blkOf v = some j)
  blk : ∀ j, blkOf v' = some j → blkOf v = some j ∨ h.bs.length ≤ j
theorem spl1 {a x : Value} : splice [a] 0 [x] = [x] := rfl
include T in
theorem writeByte_spec {h : AHeap} {e b off : Nat} {c : List Value} {v : Value} {s : List UInt8} (B : Bld C h e b off c v s) (x : UInt8) (hz : s.length < 2 ^ 39) :
    ∃ v' h', D C 28 [bp b off, bv x] h = some (.nilIface, h') ∧ BStep C h h' e b off c v v' (s ++ [x]) := by
  have ec := copyCheck_spec T B
  obtain ⟨B1, f1⟩ := B.check
  generalize hh : h.put b (.cells (c.set off (bp b off)) (e + 1)) = h1 at ec B1 f1
  generalize hc1 : c.set off (bp b off) = c1 at *
  have hlt := B1.lt
  obtain ⟨_, hg⟩ := List.getElem?_eq_some_iff.1 B1.p1
  have f2 : Fr h1 (h1.push (.cells [bv x] 6)) (fun _ => False) := Fr.push
  obtain ⟨v', h3, e3, o3, f3, b3⟩ := append_own (old := C.old) (bytes := 1) (x := .slice (some ⟨h1.bs.length, 0, some 0⟩) 1 1) (m := 1) (new := bytesVals [x]) (B1.own.fr f2 fun _ _ h => h) (by omega) rfl
    (fun _ => sl_one) (fun h => by cases h) rfl bytes_ok (by simp [sizeLim]; omega) (by have := B1.wf; simp; omega)
  rw [← bytesVals_append] at o3
  have f13 : Fr h1 h3 (fun j => blkOf v = some j) := f2.trans f3 (fun _ h => h.elim) (fun _ h _ => h)
  have nb : blkOf v ≠ some b := own_ne B1.own B1.at'
  have ha3 := f13.get B1.at' nb
  have B3 := B1.store f13 nb (s' := s ++ [x]) (by simpa using o3)
  have l13 := f13.len
  have l1 := f1.len
  refine ⟨v', h3.put b (.cells (c1.set (off + 1) v') (e + 1)), ?_, ⟨by unfold bc; rw [hc1]; exact B3, ?_, fun j hj => ?_⟩⟩
  · rw [D_fn T.h28]
    have hw := wr1_cells (h := h3) (b := b) (o := off + 1) (fz := e) (c := c1) (v := v') (by omega) o3.okc
    obtain ⟨va, vcp, hv'⟩ := o3.slice
    rw [hv'] at e3 hw ⊢
    have hu := B1.own.und
    obtain ⟨wa, wcp, hw'⟩ := B1.own.slice
    rw [hw'] at e3 hg hu
    have hlo : h3.lo ≤ b := by rw [f13.lo]; exact B1.lo
    simp only [bp] at ec ⊢
    have e3' : appendV C.old (h1.push (.cells [bv x] 6)) 5 1 1 (.slice wa s.length wcp) (.slice (some ⟨h1.bs.length, 0, some 0⟩) 1 1) = some (.slice va (s.length + 1) vcp, h3) := e3
    simp [b28, Dc_ok, ec, nilOk, read1_rd, B1.at', hg, adda, fillCells, spl1, e3', write1_wr hlo, ha3, hw, hlt, r28]
  · exact (f1.trans f13 (S'' := fun j => j = b ∨ blkOf v = some j) (fun _ h => .inl h) (fun _ h _ => .inr h)).put' (.inl (.inl rfl))
  · rcases b3 with b3 | b3 <;> rw [b3] at hj
    · exact .inl hj
    · cases hj; right; simp; omega
theorem cvt_r32 {n : Nat} (h : n < 128) : cvt .u32 (rv n) = some (.int .u32 n) := by
  show some (Value.int .u32 (IntKind.u32.wrap (n : Int))) = _
  rw [wrap32]; congr 2; omega
include T in
theorem appendRune_spec {h h3 : AHeap} {a va : Option Addr} {l m cp vcp : Nat} {n : Nat} (hn : n < 128) (e3 : appendV C.old (h.push (.cells [bv (UInt8.ofNat n)] 6)) 5 1 1 (.slice a l cp) (.slice (some ⟨h.bs.length, 0, some 0⟩) 1 1) = some (.slice va m vcp, h3)) :
    D C 49 [.slice a l cp, rv n] h = some (.slice va m vcp, h3) := by
  rw [D_fn T.h49]
  have hle : abin .leq (.int .u32 n) (.int .u32 127) = some (.bool true) := by
    rw [k_leq, decide_eq_true (by omega)]
  simp [b49, cvt_r32 hn, hle, rv_cvt8 (show n < 256 by omega), fillCells, spl1, e3, r49]
include T in
theorem writeRune_spec {h : AHeap} {e b off : Nat} {c : List Value} {v : Value} {s : List UInt8} (B : Bld C h e b off c v s) {n : Nat} (hn : n < 128) (hz : s.length < 2 ^ 39) :
    ∃ v' h' r, D C 33 [bp b off, rv n] h = some (.tuple #[r, .nilIface], h') ∧ BStep C h h' e b off c v v' (s ++ [UInt8.ofNat n]) := by
  have ec := copyCheck_spec T B
  obtain ⟨B1, f1⟩ := B.check
  generalize hh : h.put b (.cells (c.set off (bp b off)) (e + 1)) = h1 at ec B1 f1
  generalize hc1 : c.set off (bp b off) = c1 at *
  have hlt := B1.lt
  obtain ⟨_, hg⟩ := List.getElem?_eq_some_iff.1 B1.p1
  generalize hx : UInt8.ofNat n = x
  have f2 : Fr h1 (h1.push (.cells [bv x] 6)) (fun _ => False) := Fr.push
  obtain ⟨v', h3, e3, o3, f3, b3⟩ := append_own (old := C.old) (bytes := 1) (x := .slice (some ⟨h1.bs.length, 0, some 0⟩) 1 1) (m := 1) (new := bytesVals [x]) (B1.own.fr f2 fun _ _ h => h) (by omega) rfl
    (fun _ => sl_one) (fun h => by cases h) rfl bytes_ok (by simp [sizeLim]; omega) (by have := B1.wf; simp; omega)
  rw [← bytesVals_append] at o3
  have f13 : Fr h1 h3 (fun j => blkOf v = some j) := f2.trans f3 (fun _ h => h.elim) (fun _ h _ => h)
  have nb : blkOf v ≠ some b := own_ne B1.own B1.at'
  have ha3 := f13.get B1.at' nb
  have B3 := B1.store f13 nb (s' := s ++ [x]) (by simpa using o3)
  have l13 := f13.len
  have l1 := f1.len
  refine ⟨v', h3.put b (.cells (c1.set (off + 1) v') (e + 1)), iv 1, ?_, ⟨by unfold bc; rw [hc1]; exact B3, ?_, fun j hj => ?_⟩⟩
  · rw [D_fn T.h33]
    have hw := wr1_cells (h := h3) (b := b) (o := off + 1) (fz := e) (c := c1) (v := v') (by omega) o3.okc
    obtain ⟨va, vcp, hv'⟩ := o3.slice
    rw [hv'] at e3 hw B3 ⊢
    have hu := B1.own.und
    obtain ⟨wa, wcp, hw'⟩ := B1.own.slice
    rw [hw'] at e3 hg hu
    have hlo : h3.lo ≤ b := by rw [f13.lo]; exact B1.lo
    have ha4 := B3.at'
    have hg4 : (c1.set (off + 1) (.slice va (s.length + 1) vcp))[off + 1]? = some (.slice va (s.length + 1) vcp) := by rw [List.getElem?_set_self (by omega)]
    generalize hc4 : c1.set (off + 1) (.slice va (s.length + 1) vcp) = c4 at *
    generalize hh4 : h3.put b (.cells c4 (e + 1)) = h4 at *
    have hlt4 := B3.lt
    obtain ⟨_, hg4⟩ := List.getElem?_eq_some_iff.1 hg4
    simp only [bp] at ec ⊢
    have e49 := appendRune_spec T hn (by rw [hx]; exact e3)
    have hs : abin .sub (iv (s.length + 1)) (iv s.length) = some (iv 1) := by
      rw [iv_sub (by omega) (by omega)]; congr 2; omega
    have ha3' : h3.at b = some (.cells c1 (e + 1)) := ha3
    have hw' : wr1 h3 b (some (.cells c1 (e + 1))) (off + 1) 0 (.slice va (s.length + 1) vcp) = some h4 := hw
    have i1 : Value.int .i64 (s.length : Int) = iv s.length := rfl
    have i2 : Value.int .i64 ((s.length : Int) + 1) = iv (s.length + 1) := rfl
    simp [b33, Dc_ok, ec, nilOk, read1_rd, B1.at', hg, adda, e49, write1_wr hlo, ha3', hw', hlt, ha4, hlt4, hg4, i1, i2, hs, r33]
  · exact (f1.trans f13 (S'' := fun j => j = b ∨ blkOf v = some j) (fun _ h => .inl h) (fun _ h _ => .inr h)).put' (.inl (.inl rfl))
  · rcases b3 with b3 | b3 <;> rw [b3] at hj
    · exact .inl hj
    · cases hj; right; simp; omega
include T in
theorem writeString_spec {h : AHeap} {e b off : Nat} {c : List Value} {v : Value} {s : List UInt8} (B : Bld C h e b off c v s) (x : List UInt8) (hz : s.length + x.length < 2 ^ 39) :
    ∃ v' h' r, D C 31 [bp b off, str x] h = some (.tuple #[r, .nilIface], h') ∧ BStep C h h' e b off c v v' (s ++ x) := by
  have ec := copyCheck_spec T B
  obtain ⟨B1, f1⟩ := B.check
  generalize hh : h.put b (.cells (c.set off (bp b off)) (e + 1)) = h1 at ec B1 f1
  generalize hc1 : c.set off (bp b off) = c1 at *
  have hlt := B1.lt
  obtain ⟨_, hg⟩ := List.getElem?_eq_some_iff.1 B1.p1
  obtain ⟨v', h3, e3, o3, f3, b3⟩ := append_own (old := C.old) (bytes := 1) (x := str x) (m := x.length) (new := bytesVals x) B1.own (by omega) rfl
    (fun _ => by simp [srcCells, str]) (fun h => by rw [List.eq_nil_of_length_eq_zero h]; rfl) (by simp) bytes_ok (by simp [sizeLim]; omega) B1.wf
  rw [← bytesVals_append] at o3
  have f13 : Fr h1 h3 (fun j => blkOf v = some j) := f3
  have nb : blkOf v ≠ some b := own_ne B1.own B1.at'
  have ha3 := f13.get B1.at' nb
  have B3 := B1.store f13 nb (s' := s ++ x) (by simpa using o3)
  have l13 := f13.len
  have l1 := f1.len
  refine ⟨v', h3.put b (.cells (c1.set (off + 1) v') (e + 1)), iv x.length, ?_, ⟨by unfold bc; rw [hc1]; exact B3, ?_, fun j hj => ?_⟩⟩
  · rw [D_fn T.h31]
    have hw := wr1_cells (h := h3) (b := b) (o := off + 1) (fz := e) (c := c1) (v := v') (by omega) o3.okc
    obtain ⟨va, vcp, hv'⟩ := o3.slice
    rw [hv'] at e3 hw ⊢
    have hu := B1.own.und
    obtain ⟨wa, wcp, hw'⟩ := B1.own.slice
    rw [hw'] at e3 hg hu
    have hlo : h3.lo ≤ b := by rw [f13.lo]; exact B1.lo
    simp only [bp] at ec ⊢
    simp [b31, Dc_ok, ec, nilOk, read1_rd, B1.at', hg, adda, e3, write1_wr hlo, ha3, hw, hlt, r31]
  · exact (f1.trans f13 (S'' := fun j => j = b ∨ blkOf v = some j) (fun _ h => .inl h) (fun _ h _ => .inr h)).put' (.inl (.inl rfl))
  · rcases b3 with b3 | b3 <;> rw [b3] at hj
    · exact .inl hj
    · cases hj; right; omega
end Go.Ab.Aud

namespace Go.Ab.Aud
set_option maxRecDepth 20000
variable {C : Ctx} (T : Tab_LStr C) (TW : Tab_LWir C)
def usdV (v : Value) (h : AHeap) : Option (Value × AHeap) := match v with
  | .slice none _ _ => some (.pointer none, h)
  | .slice (some a) _ c => if isRest a c then (if a.off + 2 ≤ tagOf a then some (.pointer (some a), h) else none) else if c = 0 then none else some (.pointer (some a), h)
  | _ => none
def usV (old : Old) (e : TypeId) (p n : Value) (h : AHeap) : Option (Value × AHeap) := match p, n with
  | .pointer none, .int .i64 0 => some (str [], h)
  | .pointer (some ⟨b, 0, some tag⟩), .int .i64 n =>
    if n = 0 then some (str [], h) else
    if 0 < n ∧ n ≤ sizeLim then
      match (readN old h ⟨b, 0, some tag⟩ n.toNat).bind valsBytesE, h.bs[b]? with
      | some l, some (.grow c last fz k) => if b < h.lo ∨ fz ≠ e + 1 ∨ k ≠ 1 then none else some (str l, h.put b (.grow c last 0 k))
      | _, _ => none
    else none
  | _, _ => none
def capV (v : Value) (h : AHeap) : Option (Value × AHeap) := match v with
  | .slice none _ _ => some (.int .i64 0, h)
  | .slice (some a) _ c => if isRest a c then none else some (.int .i64 c, h)
  | _ => none
section
variable {t : List Value} {h : AHeap} {x y : AArg}
@[simp high] theorem ax_usd2 : aexec C t h (.unsafeSliceData x) = usdV (x.ev t) h := nr rfl
@[simp high] theorem ax_us2 {e : TypeId} : aexec C t h (.unsafeStr e x y) = usV C.old e (x.ev t) (y.ev t) h := nr rfl
@[simp high] theorem ax_cap2 : aexec C t h (.cap x) = capV (x.ev t) h := nr rfl
end
@[simp] theorem usdV_nil {n c : Nat} {h : AHeap} : usdV (.slice none n c) h = some (.pointer none, h) := nr rfl
@[simp] theorem capV_nil {n c : Nat} {h : AHeap} : capV (.slice none n c) h = some (iv 0, h) := nr rfl
@[simp] theorem usV_nil {old : Old} {e : TypeId} {h : AHeap} : usV old e (.pointer none) (iv 0) h = some (str [], h) := nr rfl
theorem own_us {old : Old} {h : AHeap} {v : Value} {s : List UInt8} (o : Own h 5 1 v s.length (bytesVals s)) (hn : s ≠ []) (hz : s.length < 2 ^ 39) :
    ∃ a cp h', v = .slice (some a) s.length cp ∧ usdV v h = some (.pointer (some a), h) ∧ usV old 5 (.pointer (some a)) (iv s.length) h = some (str s, h') ∧ Fr h h' (fun j => blkOf v = some j) := by
  have hl : 0 < s.length := List.length_pos_iff.2 hn
  rcases o with ⟨_, h0, _⟩ | ⟨b, g, last, rfl, h1, h2, h3, h4, h5⟩
  · omega
  · have hb : h.bs[b]? = some (.grow g last 6 1) := h1
    have hr : readN old h ⟨b, 0, some (g.length + 1)⟩ s.length = some (bytesVals s) := by
      rw [readN_rd, h1, rdN_grow (by omega) (by omega) (by omega), List.drop_zero]
      rw [Nat.mul_one] at h4; rw [h4]
    refine ⟨_, _, h.put b (.grow g last 0 1), rfl, ?_, ?_, Fr.put rfl⟩
    · show (if 0 + 2 ≤ g.length + 1 then some (Value.pointer (some ⟨b, 0, some (g.length + 1)⟩), h) else none) = _
      rw [if_pos (by omega)]
    · simp only [usV, iv]
      rw [if_neg (by omega), if_pos ⟨by omega, by simp [sizeLim]; omega⟩]
      rw [Int.toNat_natCast, hr, hb]
      simp only [Option.bind_some, valsBytesE_bytesVals]
      rw [if_neg (by omega)]
include T in
theorem string_spec {h : AHeap} {e b off : Nat} {c : List Value} {v : Value} {s : List UInt8} (B : Bld C h e b off c v s) (hv : s = [] → v = .slice none 0 0) (hz : s.length < 2 ^ 39) :
    ∃ h', D C 29 [bp b off] h = some (str s, h') ∧ Fr h h' (fun j => blkOf v = some j) := by
  rw [D_fn T.h29]
  have hlt := B.lt
  obtain ⟨_, hg⟩ := List.getElem?_eq_some_iff.1 B.p1
  by_cases hs : s = []
  · have hv := hv hs
    subst hs
    rw [hv] at hg
    refine ⟨h, ?_, .refl _ _⟩
    have hz : Value.string ⟨⟨[]⟩⟩ = str [] := rfl
    simp [b29, bp, nilOk, read1_rd, B.at', adda, hg, hlt, r29, hz]
    all_goals rfl
  · obtain ⟨a, cp, h', rfl, e1, e2, f⟩ := own_us (old := C.old) B.own hs hz
    have hb' := f.get B.at' (own_ne B.own B.at')
    have i1 : Value.int .i64 (s.length : Int) = iv s.length := rfl
    refine ⟨h', ?_, f⟩
    simp [b29, bp, nilOk, read1_rd, B.at', adda, hg, hlt, e1, i1, e2, hb', r29]
end Go.Ab.Aud

namespace Go.Ab.Aud
set_option maxRecDepth 20000
open Go.Wire (itself hexv hexd enc1 encF Dec decF decode dec0 plu spc sta pct amp eqs col)
variable {C : Ctx} (T : Tab_LStr C) (TW : Tab_LWir C)
theorem utf8_low {s : List UInt8} {pos : Nat} (h : pos < s.length) (ha : (s.getD pos 0).toNat < 128) : utf8At s pos = ((s.getD pos 0).toNat, 1) := by
  have hp : pos < (⟨⟨s⟩⟩ : ByteArray).size := h
  have hg := ba_get ⟨⟨s⟩⟩ pos hp
  have hg' : s.getD pos 0 = (⟨⟨s⟩⟩ : ByteArray)[pos]'hp := hg
  unfold utf8At
  rw [hg'] at ha ⊢
  simp only [Utf8.decode, get_at _ pos hp, ha, if_true]
theorem utf8_high {s : List UInt8} {pos : Nat} (h : pos < s.length) (ha : ¬ (s.getD pos 0).toNat < 128) : 128 ≤ (utf8At s pos).1 ∧ 1 ≤ (utf8At s pos).2 := by
  have hp : pos < (⟨⟨s⟩⟩ : ByteArray).size := h
  have hg := ba_get ⟨⟨s⟩⟩ pos hp
  have hg' : s.getD pos 0 = (⟨⟨s⟩⟩ : ByteArray)[pos]'hp := hg
  rw [hg'] at ha
  exact decode_high ⟨⟨s⟩⟩ pos hp (by omega)
def atV : Option Nat → Value
  | none => .int .i64 (-1)
  | some k => iv k
def decV (x : Dec × Option Nat) : Value := match x with
  | (d, none) => .tuple #[.agg ⟨[str d.p0, str d.p1]⟩, atV d.at', .int .i64 (-1)]
  | (d, some w) => .tuple #[.agg ⟨[str [], str []]⟩, atV d.at', iv w]
@[simp] theorem und_atV {o : Option Nat} : isUnd (atV o) = false := by cases o <;> rfl
@[simp] theorem stp_atV {C : Ctx} {rs : List ARes} {h : AHeap} {o : Option Nat} {d : Nat} {os : List AOper} {k : List AItem} {t : List Value} {ds : List ADefer} : stp C rs (some (atV o, h)) (some d) os k t ds = R C rs (.ops os :: k) (ts t d (atV o)) ds h := stp_ok und_atV
/-- how the loop of decode stands -/
structure DecI (C : Ctx) (s : List UInt8) (mk : UInt8) (pos skip : Nat) (d : Dec) (g : AHeap) (t : List Value) : Prop where
  lo : g.lo = 0
  a0 : g.at 0 = some (.cells [str [], str []] 59)
  b : ∃ c v0 v1, c.length = 4 ∧ Bld C g 81 1 0 c v0 d.p0 ∧ Bld C g 81 1 2 c v1 d.p1 ∧ (∀ j, blkOf v0 = some j → blkOf v1 ≠ some j) ∧ (d.p0 = [] → v0 = .slice none 0 0) ∧ (d.p1 = [] → v1 = .slice none 0 0)
  it : g.at 2 = some (.siter s pos)
  n0 : d.p0.length ≤ pos
  n1 : d.p1.length ≤ pos
  hp : pos ≤ s.length
  t0 : tg t 0 = str s
  t1 : tg t 1 = rv mk.toNat
  t4 : tg t 4 = .pointer (some ⟨0, 0, some 0⟩)
  t5 : tg t 5 = atV d.at'
  t7 : tg t 7 = bp 1 0
  t8 : tg t 8 = iv (if d.at'.isSome then 1 else 0)
  t9 : tg t 9 = iv skip
  t15 : tg t 15 = .pointer (some ⟨2, 0, some 0⟩)
  lies0 : C.lies 81 4 0 70 = true
  lies2 : C.lies 81 4 2 70 = true
def kD : List AItem := [.inLoop lp21_0, .inBlock 0, .code k21_0]
theorem Bld.fr {h h' : AHeap} {e b off : Nat} {c : List Value} {v : Value} {s : List UInt8} {S : Nat → Prop} (B : Bld C h e b off c v s) (f : Fr h h' S) (h1 : ¬ S b) (h2 : ∀ j, blkOf v = some j → ¬ S j) : Bld C h' e b off c v s :=
  ⟨f.get B.at' h1, B.p0, B.p1, B.own.fr f h2, by rw [f.lo]; exact B.lo, B.lies⟩
theorem splice2 {a b x y : Value} : splice [a, b] 0 [x, y] = [x, y] := rfl
theorem spl20 {a b x : Value} : splice [a, b] 0 [x] = [x, b] := rfl
theorem spl21 {a b x : Value} : splice [a, b] 1 [x] = [a, x] := rfl
include T in
/-- nothing is left: the two texts are told -/
theorem decode_end {s : List UInt8} {mk : UInt8} {pos : Nat} {d : Dec} {g : AHeap} {t : List Value} (H : DecI C s mk pos 0 d g t) (hp : s.length ≤ pos) (hs : s.length < 2 ^ 38) :
    ∃ g', R C r21 kD t [] g = some (decV (d, none), g') := by
  obtain ⟨c, v0, v1, hc, B0, B1, hd, z0, z1⟩ := H.b
  obtain ⟨g1, e1, f1⟩ := string_spec T B0 z0 (by have := H.n0; have := H.hp; omega)
  have nb : blkOf v0 ≠ some 1 := own_ne B0.own B0.at'
  have B1' := B1.fr f1 nb (fun j hj hc => hd j hc hj)
  obtain ⟨g2, e2, f2⟩ := string_spec T B1' z1 (by have := H.n1; have := H.hp; omega)
  have a1 := f1.get H.a0 (own_ne B0.own H.a0)
  have a2 := f2.get a1 (own_ne B1'.own a1)
  have lo2 : g2.lo ≤ 0 := by rw [f2.lo, f1.lo, H.lo]; exact Nat.le_refl _
  have hw := wrN_cells (h := g2) (b := 0) (o := 0) (fz := 58) (c := [str [], str []]) (v := [str d.p0, str d.p1]) (by simp) (by simp)
  rw [splice2] at hw
  generalize hg3 : g2.put 0 (.cells [str d.p0, str d.p1] 59) = g3 at hw
  have a3 : g3.at 0 = some (.cells [str d.p0, str d.p1] 59) := by rw [← hg3]; exact put_self (get_lt a2)
  refine ⟨g3, ?_⟩
  have hno := nxV_no H.it (by have := H.hp; omega)
  simp only [bp] at e1 e2
  have h7 : tg t 7 = .pointer (some ⟨1, 0, some 0⟩) := H.t7
  have hz : Value.string ⟨⟨[]⟩⟩ = str [] := rfl
  unfold kD
  simp [R_inLoop, lp21_0, k21_0, H.t15, hno, h7, ixA_iv, adda, Dc_ok, e1, e2, fillCells, spl20, spl21, H.t4, writeN_wr lo2, a2, hw, H.t5, readN_rd, a3, rdN_cells, r21, decV, hz, resV, ptrOf]
end Go.Ab.Aud

namespace Go.Ab.Aud
set_option maxRecDepth 20000
open Go.Wire (itself hexv hexd enc1 encF Dec decF decode dec0 plu spc sta pct amp eqs col byteAt)
variable {C : Ctx} (T : Tab_LStr C) (TW : Tab_LWir C)
/-- the temporaries that a round of decode keeps -/
structure DKeep (t t' : List Value) (skip : Nat) : Prop where
  k0 : tg t' 0 = tg t 0
  k1 : tg t' 1 = tg t 1
  k4 : tg t' 4 = tg t 4
  k5 : tg t' 5 = tg t 5
  k7 : tg t' 7 = tg t 7
  k8 : tg t' 8 = tg t 8
  k9 : tg t' 9 = iv skip
  k15 : tg t' 15 = tg t 15
theorem DecI.keep {s : List UInt8} {mk : UInt8} {pos sk : Nat} {d : Dec} {g : AHeap} {t t' : List Value} (H : DecI C s mk pos sk d g t) {sk' : Nat} (K : DKeep t t' sk') : DecI C s mk pos sk' d g t' :=
  ⟨H.lo, H.a0, H.b, H.it, H.n0, H.n1, H.hp, by rw [K.k0, H.t0], by rw [K.k1, H.t1], by rw [K.k4, H.t4], by rw [K.k5, H.t5], by rw [K.k7, H.t7], by rw [K.k8, H.t8], K.k9, by rw [K.k15, H.t15], H.lies0, H.lies2⟩
theorem DecI.adv {s : List UInt8} {mk : UInt8} {pos sk w : Nat} {d : Dec} {g : AHeap} {t : List Value} (H : DecI C s mk pos sk d g t) (hw : pos + w ≤ s.length) : DecI C s mk (pos + w) sk d (g.put 2 (.siter s (pos + w))) t := by
  obtain ⟨c, v0, v1, hc, B0, B1, hd, z0, z1⟩ := H.b
  have f : Fr g (g.put 2 (.siter s (pos + w))) (fun j => j = 2) := Fr.put rfl
  have ne : ∀ {v : Value} {cs : List Value} {n : Nat}, Own g 5 1 v n cs → ∀ j, blkOf v = some j → ¬ j = 2 := fun {v cs n} o j hj hc => by
    subst hc
    rcases o with ⟨h1 | h1, _⟩ | ⟨b', g', last, rfl, h1, _⟩
    · subst h1; cases hj
    · subst h1; cases hj
    · cases hj
      rw [H.it] at h1; cases h1
  exact ⟨H.lo, f.get H.a0 (by omega), ⟨c, v0, v1, hc, B0.fr f (by omega) (ne B0.own), B1.fr f (by omega) (ne B1.own), hd, z0, z1⟩, put_self (get_lt H.it), by have := H.n0; omega, by have := H.n1; omega, hw, H.t0, H.t1, H.t4, H.t5, H.t7, H.t8, H.t9, H.t15, H.lies0, H.lies2⟩
theorem DecI.push {s : List UInt8} {mk : UInt8} {pos sk : Nat} {d : Dec} {g : AHeap} {t : List Value} (H : DecI C s mk pos sk d g t) (x : UInt8) (hn0 : d.p0.length + 1 ≤ pos) (hn1 : d.p1.length + 1 ≤ pos) (hs : s.length < 2 ^ 38) {Q : Nat → AHeap → Prop}
    (w : ∀ off c v p, Bld C g 81 1 off c v p → p.length < 2 ^ 39 → ∃ v' g2, Q off g2 ∧ BStep C g g2 81 1 off c v v' (p ++ [x])) :
    ∃ g2, Q (if d.at'.isSome then 2 else 0) g2 ∧ ∀ t' sk', DKeep t t' sk' → DecI C s mk pos sk' (d.push x) g2 t' := by
  obtain ⟨c, v0, v1, hc, B0, B1, hd, z0, z1⟩ := H.b
  have hp := H.hp
  have ne2 : ∀ {v : Value} {cs : List Value} {n : Nat}, Own g 5 1 v n cs → ¬ blkOf v = some 2 := fun {v cs n} o hj => by
    rcases o with ⟨h1 | h1, _⟩ | ⟨b', g', last, rfl, h1, _⟩
    · subst h1; cases hj
    · subst h1; cases hj
    · cases hj
      rw [H.it] at h1; cases h1
  by_cases ha : d.at'.isSome = true
  · obtain ⟨v', g2, hq, S⟩ := w 2 c v1 d.p1 B1 (by omega)
    rw [if_pos ha]
    refine ⟨g2, hq, fun t' sk' K => ?_⟩
    have H' := H.keep K
    have hpush : d.push x = { d with p1 := d.p1 ++ [x] } := by unfold Dec.push; rw [if_pos ha]
    rw [hpush]
    refine ⟨by rw [S.fr.lo]; exact H.lo, S.fr.get H.a0 (fun h => h.elim (by omega) (own_ne B1.own H.a0)), ⟨bc c 1 2 v', v0, v', by simp [bc, hc], ?_, S.bld, ?_, z0, fun h => by simp at h⟩,
      S.fr.get H.it (fun h => h.elim (by omega) (ne2 B1.own)), H.n0, by simp; omega, H.hp, H'.t0, H'.t1, H'.t4, H'.t5, H'.t7, H'.t8, H'.t9, H'.t15, H.lies0, H.lies2⟩
    · refine ⟨S.bld.at', ?_, ?_, B0.own.fr S.fr (fun j hj hcc => hcc.elim (fun h => own_ne B0.own B0.at' (by rw [hj, h])) (hd j hj)), S.bld.lo, by simpa [bc] using B0.lies⟩
      · have := B0.p0
        simp only [bc]
        rw [List.getElem?_set_ne (by omega), List.getElem?_set_ne (by omega)]; exact this
      · simp only [bc]
        rw [List.getElem?_set_ne (by omega), List.getElem?_set_ne (by omega)]; exact B0.p1
    · intro j hj hcc
      rcases S.blk j hcc with h1 | h1
      · exact hd j hj h1
      · have := B0.own.blk hj; omega
  · obtain ⟨v', g2, hq, S⟩ := w 0 c v0 d.p0 B0 (by omega)
    rw [if_neg ha]
    refine ⟨g2, hq, fun t' sk' K => ?_⟩
    have H' := H.keep K
    have hpush : d.push x = { d with p0 := d.p0 ++ [x] } := by unfold Dec.push; rw [if_neg ha]
    rw [hpush]
    refine ⟨by rw [S.fr.lo]; exact H.lo, S.fr.get H.a0 (fun h => h.elim (by omega) (own_ne B0.own H.a0)), ⟨bc c 1 0 v', v', v1, by simp [bc, hc], S.bld, ?_, ?_, fun h => by simp at h, z1⟩,
      S.fr.get H.it (fun h => h.elim (by omega) (ne2 B0.own)), by simp; omega, H.n1, H.hp, H'.t0, H'.t1, H'.t4, H'.t5, H'.t7, H'.t8, H'.t9, H'.t15, H.lies0, H.lies2⟩
    · refine ⟨S.bld.at', ?_, ?_, B1.own.fr S.fr (fun j hj hcc => hcc.elim (fun h => own_ne B1.own B1.at' (by rw [hj, h])) (fun h => hd j h hj)), S.bld.lo, by simpa [bc] using B1.lies⟩
      · have := B1.p0
        simp only [bc]
        rw [List.getElem?_set_ne (by omega), List.getElem?_set_ne (by omega)]; exact this
      · simp only [bc]
        rw [List.getElem?_set_ne (by omega), List.getElem?_set_ne (by omega)]; exact B1.p1
    · intro j hj hcc
      rcases S.blk j hj with h1 | h1
      · exact hd j h1 hcc
      · have := B1.own.blk hcc; omega
/-- a letter that was read with its fellows ahead of it -/
theorem decode_skip {s : List UInt8} {mk : UInt8} {pos sk : Nat} {d : Dec} {g : AHeap} {t : List Value} (H : DecI C s mk pos (sk + 1) d g t) (hp : pos < s.length) (ha : (s.getD pos 0).toNat < 128) (hk : sk < 10)
    {V : Res → Prop} (go : ∀ g' t', DecI C s mk (pos + 1) sk d g' t' → V (R C r21 kD t' [] g')) : V (R C r21 kD t [] g) := by
  have hy := nxV_yes H.it hp (by rw [H.lo]; omega)
  rw [utf8_low hp ha] at hy
  simp only at hy
  have H1 := H.adv (w := 1) (by omega)
  generalize g.put 2 (.siter s (pos + 1)) = g1 at hy H1
  have h9 := H.t9
  unfold kD
  rw [R_open lp21_0.eq_1]
  simp [H.t15, hy, h9, iv_sub (a := sk + 1) (b := 1) (by omega) (by omega)]
  exact go _ _ (H1.keep ⟨by simp [tg_ts], by simp [tg_ts], by simp [tg_ts], by simp [tg_ts], by simp [tg_ts], by simp [tg_ts], by simp [tg_ts], by simp [tg_ts]⟩)
end Go.Ab.Aud

namespace Go.Ab.Aud
set_option maxRecDepth 20000
open Go.Wire (itself hexv hexd enc1 encF Dec decF decode dec0 plu spc sta pct amp eqs col byteAt)
variable {C : Ctx} (T : Tab_LStr C) (TW : Tab_LWir C)
theorem adv_pos {s : List UInt8} {mk : UInt8} {pos sk : Nat} {d : Dec} {g : AHeap} {t : List Value} (H : DecI C s mk pos sk d g t) (hp : pos < s.length) (ha : (s.getD pos 0).toNat < 128) :
    ∃ g1, nxV (.pointer (some ⟨2, 0, some 0⟩)) g = some (.tuple #[.bool true, iv pos, rv (s.getD pos 0).toNat], g1) ∧ DecI C s mk (pos + 1) sk d g1 t ∧ d.p0.length + 1 ≤ pos + 1 ∧ d.p1.length + 1 ≤ pos + 1 := by
  have hy := nxV_yes H.it hp (by rw [H.lo]; omega)
  rw [utf8_low hp ha] at hy
  exact ⟨_, hy, H.adv (w := 1) (by omega), by have := H.n0; omega, by have := H.n1; omega⟩
theorem off2 {b : Bool} : ((if b = true then 1 else 0) * 2 : Nat) = if b = true then 2 else 0 := by cases b <;> rfl
theorem lt2 {b : Bool} : (if b = true then 1 else 0 : Nat) < 2 := by cases b <;> simp
include T TW in
theorem decode_lit {s : List UInt8} {mk : UInt8} {pos : Nat} {d : Dec} {g : AHeap} {t : List Value} (H : DecI C s mk pos 0 d g t) (hp : pos < s.length) (ha : (s.getD pos 0).toNat < 128) (hs : s.length < 2 ^ 38)
    (hc : (itself (s.getD pos 0) || s.getD pos 0 == sta) = true) {V : Res → Prop} (go : ∀ g' t', DecI C s mk (pos + 1) 0 (d.push (s.getD pos 0)) g' t' → V (R C r21 kD t' [] g')) : V (R C r21 kD t [] g) := by
  obtain ⟨g1, hy, H1, n0, n1⟩ := adv_pos H hp ha
  generalize s.getD pos 0 = c at *
  have hit := fun h => itself_spec T TW h c.toNat
  have hitR : itR c.toNat = itself c := by unfold itR; simp [ha]
  rw [hitR] at hit
  have hcx : UInt8.ofNat c.toNat = c := by simp
  obtain ⟨g2, ⟨r, e2⟩, next⟩ := H1.push (Q := fun off g2 => ∃ r, D C 33 [bp 1 off, rv c.toNat] g1 = some (.tuple #[r, .nilIface], g2)) c n0 n1 hs (fun off cs v p B hl => by
    obtain ⟨v', h', r, e, S⟩ := writeRune_spec T B ha (by omega)
    rw [hcx] at S
    exact ⟨v', h', ⟨r, e⟩, S⟩)
  have h7 : tg t 7 = .pointer (some ⟨1, 0, some 0⟩) := H.t7
  have h8 := H.t8
  generalize hb : d.at'.isSome = b at *
  simp only [bp] at e2
  unfold kD
  rw [R_open lp21_0.eq_1]
  by_cases h1 : itself c = true
  · simp [H.t15, hy, H.t9, Dc_ok, hit, h1, h7, h8, ixA_iv (lt2 (b := b)), adda, off2, e2]
    exact go _ _ (next _ _ ⟨by simp [tg_ts], by simp [tg_ts], by simp [tg_ts], by simp [tg_ts], by simp [tg_ts], by simp [tg_ts], by simp [tg_ts, H.t9], by simp [tg_ts]⟩)
  · rw [Bool.not_eq_true] at h1
    rw [h1, Bool.false_or] at hc
    have h2 : c.toNat = 42 := by rw [eq_of_beq hc]; rfl
    rw [h2] at e2 hit hy
    simp [H.t15, hy, H.t9, Dc_ok, hit, h1, h7, h8, ixA_iv (lt2 (b := b)), adda, off2, e2]
    exact go _ _ (next _ _ ⟨by simp [tg_ts], by simp [tg_ts], by simp [tg_ts], by simp [tg_ts], by simp [tg_ts], by simp [tg_ts], by simp [tg_ts, H.t9], by simp [tg_ts]⟩)
include T TW in
theorem decode_plus {s : List UInt8} {mk : UInt8} {pos : Nat} {d : Dec} {g : AHeap} {t : List Value} (H : DecI C s mk pos 0 d g t) (hp : pos < s.length) (hs : s.length < 2 ^ 38)
    (hc : s.getD pos 0 = plu) {V : Res → Prop} (go : ∀ g' t', DecI C s mk (pos + 1) 0 (d.push spc) g' t' → V (R C r21 kD t' [] g')) : V (R C r21 kD t [] g) := by
  obtain ⟨g1, hy, H1, n0, n1⟩ := adv_pos H hp (by rw [hc]; decide)
  rw [hc] at hy
  have hit := fun h => itself_spec T TW h 43
  have hitR : itR 43 = false := by decide
  rw [hitR] at hit
  obtain ⟨g2, e2, next⟩ := H1.push (Q := fun off g2 => D C 28 [bp 1 off, bv spc] g1 = some (.nilIface, g2)) spc n0 n1 hs (fun off cs v p B hl => by
    obtain ⟨v', h', e, S⟩ := writeByte_spec T B spc (by omega)
    exact ⟨v', h', e, S⟩)
  have h7 : tg t 7 = .pointer (some ⟨1, 0, some 0⟩) := H.t7
  have h8 := H.t8
  generalize hb : d.at'.isSome = b at *
  simp only [bp] at e2
  have hp43 : plu.toNat = 43 := rfl
  rw [hp43] at hy
  have h32 : Value.int .u8 32 = bv spc := rfl
  unfold kD
  rw [R_open lp21_0.eq_1]
  simp [H.t15, hy, H.t9, Dc_ok, hit, h7, h8, ixA_iv (lt2 (b := b)), adda, off2, h32, e2]
  exact go _ _ (next _ _ ⟨by simp [tg_ts], by simp [tg_ts], by simp [tg_ts], by simp [tg_ts], by simp [tg_ts], by simp [tg_ts], by simp [tg_ts, H.t9], by simp [tg_ts]⟩)
include T TW in
theorem decode_mark {s : List UInt8} {mk : UInt8} {pos : Nat} {d : Dec} {g : AHeap} {t : List Value} (H : DecI C s mk pos 0 d g t) (hp : pos < s.length) (hs : s.length < 2 ^ 38)
    (ha : mk.toNat < 128) (h1 : (itself mk || mk == sta) = false) (h2 : mk ≠ plu) (hc : s.getD pos 0 = mk) (hd : d.at' = none) {V : Res → Prop} (go : ∀ g' t', DecI C s mk (pos + 1) 0 { d with at' := some pos } g' t' → V (R C r21 kD t' [] g')) : V (R C r21 kD t [] g) := by
  obtain ⟨g1, hy, H1, n0, n1⟩ := adv_pos H hp (by rw [hc]; exact ha)
  rw [hc] at hy
  have hit := fun h => itself_spec T TW h mk.toNat
  rw [Bool.or_eq_false_iff] at h1
  have hitR : itR mk.toNat = false := by unfold itR; simp [h1.1]
  rw [hitR] at hit
  have n42 : ¬ mk.toNat = 42 := fun hx => by
    have : mk = sta := UInt8.toNat_inj.1 hx
    rw [this] at h1; exact absurd h1.2 (by decide)
  have n43 : ¬ mk.toNat = 43 := fun hx => h2 (UInt8.toNat_inj.1 hx)
  have h8 := H.t8
  rw [hd] at h8
  simp only [Option.isSome_none, Bool.false_eq_true, if_false] at h8
  have t1 := H.t1
  generalize mk.toNat = m at *
  unfold kD
  rw [R_open lp21_0.eq_1]
  simp [H.t15, hy, H.t9, Dc_ok, hit, n42, n43, h8, t1]
  refine go _ _ ⟨H1.lo, H1.a0, H1.b, H1.it, H1.n0, H1.n1, H1.hp, by simp [tg_ts, H.t0], by simp [tg_ts, H1.t1, t1], by simp [tg_ts, H.t4], by simp [tg_ts, atV], by simp [tg_ts, H.t7], by simp [tg_ts], by simp [tg_ts, H.t9], by simp [tg_ts, H.t15], H.lies0, H.lies2⟩
end Go.Ab.Aud

namespace Go.Ab.Aud
set_option maxRecDepth 20000
open Go.Wire (itself hexv hexd enc1 encF Dec decF decode dec0 plu spc sta pct amp eqs col byteAt)
variable {C : Ctx} (T : Tab_LStr C) (TW : Tab_LWir C)
theorem slc_drop {s : List UInt8} {pos : Nat} {h : AHeap} (hp : pos < s.length) : slcSv (str s) (some (some ((pos : Int) + 1))) (some none) h = some (str (s.drop (pos + 1)), h) := by
  have := slcSv_str (s := s) (h := h) (lo := some ((pos : Int) + 1)) (hi := none) (l := pos + 1) (u := s.length) (by simp) rfl (by omega) (by omega)
  rw [this, List.take_of_length_le (by rw [List.length_drop]; omega)]
include T TW in
theorem decode_pct {s : List UInt8} {mk : UInt8} {pos : Nat} {d : Dec} {g : AHeap} {t : List Value} (H : DecI C s mk pos 0 d g t) (hp : pos < s.length) (hs : s.length < 2 ^ 38)
    (hm : mk ≠ pct) (hc : s.getD pos 0 = pct) {x : UInt8} (hx : byteAt (s.drop (pos + 1)) = some x) {V : Res → Prop} (go : ∀ g' t', DecI C s mk (pos + 1) 2 (d.push x) g' t' → V (R C r21 kD t' [] g')) : V (R C r21 kD t [] g) := by
  obtain ⟨g1, hy, H1, n0, n1⟩ := adv_pos H hp (by rw [hc]; decide)
  rw [hc] at hy
  have hit := fun h => itself_spec T TW h 37
  have hitR : itR 37 = false := by decide
  rw [hitR] at hit
  obtain ⟨g2, e2, next⟩ := H1.push (Q := fun off g2 => D C 28 [bp 1 off, bv x] g1 = some (.nilIface, g2)) x n0 n1 hs (fun off cs v p B hl => by
    obtain ⟨v', h', e, S⟩ := writeByte_spec T B x (by omega)
    exact ⟨v', h', e, S⟩)
  obtain ⟨y, e34, hy2⟩ := byteAt_spec T TW g1 (s.drop (pos + 1))
  rw [hx, hy2 x hx] at e34
  have h7 : tg t 7 = .pointer (some ⟨1, 0, some 0⟩) := H.t7
  have h8 := H.t8
  generalize hb : d.at'.isSome = b at *
  simp only [bp] at e2
  have hp37 : pct.toNat = 37 := rfl
  rw [hp37] at hy
  have nm : ¬ (37 : Nat) = mk.toNat := fun h => hm (UInt8.toNat_inj.1 h.symm)
  have t1 := H.t1
  generalize mk.toNat = m at *
  unfold kD
  rw [R_open lp21_0.eq_1]
  simp [H.t15, hy, H.t9, Dc_ok, hit, t1, nm, H.t0, iv_add (a := pos) (b := 1) (by omega), slc_drop hp, e34, h7, h8, ixA_iv (lt2 (b := b)), adda, off2, e2]
  exact go _ _ (next _ _ ⟨by simp [tg_ts], by simp [tg_ts, H.t1, t1], by simp [tg_ts], by simp [tg_ts], by simp [tg_ts], by simp [tg_ts], by simp [tg_ts], by simp [tg_ts]⟩)
include T TW in
theorem decode_bad {s : List UInt8} {mk : UInt8} {pos : Nat} {d : Dec} {g : AHeap} {t : List Value} (H : DecI C s mk pos 0 d g t) (hp : pos < s.length) (hs : s.length < 2 ^ 38)
    (hm : mk ≠ pct) (hc : s.getD pos 0 = pct) (hx : byteAt (s.drop (pos + 1)) = none) : ∃ g', R C r21 kD t [] g = some (decV (d, some pos), g') := by
  obtain ⟨g1, hy, H1, n0, n1⟩ := adv_pos H hp (by rw [hc]; decide)
  rw [hc] at hy
  have hit := fun h => itself_spec T TW h 37
  have hitR : itR 37 = false := by decide
  rw [hitR] at hit
  obtain ⟨y, e34, hy2⟩ := byteAt_spec T TW g1 (s.drop (pos + 1))
  rw [hx] at e34
  have hp37 : pct.toNat = 37 := rfl
  rw [hp37] at hy
  have nm : ¬ (37 : Nat) = mk.toNat := fun h => hm (UInt8.toNat_inj.1 h.symm)
  have t1 := H.t1
  have a1 := H1.a0
  have lo1 : g1.lo ≤ 0 := by rw [H1.lo]; exact Nat.le_refl _
  have hw := wrN_cells (h := g1) (b := 0) (o := 0) (fz := 58) (c := [str [], str []]) (v := [str [], str []]) (by simp) (by simp)
  rw [splice2, put_eq a1] at hw
  generalize mk.toNat = m at *
  refine ⟨g1, ?_⟩
  unfold kD
  rw [R_open lp21_0.eq_1]
  simp [H.t15, hy, H.t9, Dc_ok, hit, t1, nm, H.t0, iv_add (a := pos) (b := 1) (by omega), slc_drop hp, e34, H.t4, readN_rd, a1, rdN_cells, writeN_wr lo1, hw, H.t5, r21, resV, ptrOf, decV]
include T TW in
theorem decode_other {s : List UInt8} {mk : UInt8} {pos : Nat} {d : Dec} {g : AHeap} {t : List Value} (H : DecI C s mk pos 0 d g t) (hp : pos < s.length) (hs : s.length < 2 ^ 38)
    (hma : mk.toNat < 128) (h1 : (itself (s.getD pos 0) || s.getD pos 0 == sta) = false) (h2 : s.getD pos 0 ≠ plu) (h3 : ¬ (s.getD pos 0 = mk ∧ d.at' = none)) (h4 : s.getD pos 0 ≠ pct) :
    ∃ g', R C r21 kD t [] g = some (decV (d, some pos), g') := by
  have hy := nxV_yes H.it hp (by rw [H.lo]; omega)
  have f : Fr g (g.put 2 (.siter s (pos + (utf8At s pos).2))) (fun j => j = 2) := Fr.put rfl
  have a1 := f.get H.a0 (by omega)
  have lo1 := f.lo
  generalize g.put 2 (.siter s (pos + (utf8At s pos).2)) = g1 at *
  have key : itR (utf8At s pos).1 = false ∧ ¬ (utf8At s pos).1 = 42 ∧ ¬ (utf8At s pos).1 = 43 ∧ ¬ (utf8At s pos).1 = 37 ∧ ¬ ((utf8At s pos).1 = mk.toNat ∧ d.at'.isSome = false) := by
    by_cases ha : (s.getD pos 0).toNat < 128
    · rw [utf8_low hp ha]
      generalize s.getD pos 0 = c at *
      rw [Bool.or_eq_false_iff] at h1
      refine ⟨by unfold itR; simp [h1.1], fun hx => ?_, fun hx => h2 (UInt8.toNat_inj.1 hx), fun hx => h4 (UInt8.toNat_inj.1 hx), fun hx => h3 ⟨UInt8.toNat_inj.1 hx.1, by simpa using hx.2⟩⟩
      have : c = sta := UInt8.toNat_inj.1 hx
      rw [this] at h1; exact absurd h1.2 (by decide)
    · have := (utf8_high hp ha).1
      exact ⟨by unfold itR; simp; omega, by omega, by omega, by omega, by omega⟩
  generalize (utf8At s pos).1 = r at *
  obtain ⟨k1, k2, k3, k4, k5⟩ := key
  have hit := fun h => itself_spec T TW h r
  rw [k1] at hit
  have t1 := H.t1
  have lo1 : g1.lo ≤ 0 := by rw [lo1, H.lo]; exact Nat.le_refl _
  have hw := wrN_cells (h := g1) (b := 0) (o := 0) (fz := 58) (c := [str [], str []]) (v := [str [], str []]) (by simp) (by simp)
  rw [splice2, put_eq a1] at hw
  have h8 := H.t8
  refine ⟨g1, ?_⟩
  unfold kD
  rw [R_open lp21_0.eq_1]
  by_cases hk : r = mk.toNat
  · have hb : d.at'.isSome = true := by
      cases hb : d.at'.isSome with
      | true => rfl
      | false => exact absurd ⟨hk, hb⟩ k5
    rw [hb] at h8
    simp only [if_true] at h8
    rw [← hk] at t1
    simp [H.t15, hy, H.t9, Dc_ok, hit, t1, k2, k3, k4, h8, H.t4, readN_rd, a1, rdN_cells, writeN_wr lo1, hw, H.t5, r21, resV, ptrOf, decV]
  · generalize mk.toNat = m at *
    simp [H.t15, hy, H.t9, Dc_ok, hit, t1, k2, k3, k4, hk, H.t4, readN_rd, a1, rdN_cells, writeN_wr lo1, hw, H.t5, r21, resV, ptrOf, decV]
end Go.Ab.Aud

namespace Go.Ab.Aud
set_option maxRecDepth 20000
open Go.Wire (itself hexv hexd enc1 encF Dec decF decode dec0 plu spc sta pct amp eqs col byteAt)
variable {C : Ctx} (T : Tab_LStr C) (TW : Tab_LWir C)
theorem drop_cons {s : List UInt8} {pos : Nat} (h : pos < s.length) : s.drop pos = s.getD pos 0 :: s.drop (pos + 1) := by
  rw [List.drop_eq_getElem_cons h, List.getD_eq_getElem?_getD, List.getElem?_eq_getElem h]; rfl
theorem hexv_low (c : UInt8) : hexv c < 16 → c.toNat < 128 := by revert c; exact Go.Wire.byte_all (by decide +kernel)
theorem byteAt_some {s : List UInt8} {pos : Nat} {x : UInt8} (h : byteAt (s.drop pos) = some x) : pos + 1 < s.length ∧ (s.getD pos 0).toNat < 128 ∧ (s.getD (pos + 1) 0).toNat < 128 := by
  have hl : pos + 1 < s.length := by
    have : 2 ≤ (s.drop pos).length := by
      match hd : s.drop pos, h with
      | [], h => cases h
      | [_], h => cases h
      | _ :: _ :: _, _ => simp
    rw [List.length_drop] at this; omega
  rw [drop_cons (by omega), drop_cons hl] at h
  simp only [byteAt] at h
  split at h
  · rename_i hh
    exact ⟨hl, hexv_low _ hh.1, hexv_low _ hh.2⟩
  · cases h
include T TW in
theorem decode_loop {s : List UInt8} {mk : UInt8} (hs : s.length < 2 ^ 38) (hma : mk.toNat < 128) (hm1 : (itself mk || mk == sta) = false) (hm2 : mk ≠ plu) (hm3 : mk ≠ pct) : ∀ (f pos : Nat) (d : Dec) (g : AHeap) (t : List Value), DecI C s mk pos 0 d g t → s.length - pos < f →
    ∃ g', R C r21 kD t [] g = some (decV (decF mk f (s.drop pos) pos d), g') := by
  intro f
  induction f with
  | zero => intro pos d g t H h; omega
  | succ f ih =>
    intro pos d g t H h
    by_cases hp : pos < s.length
    · rw [drop_cons hp]
      simp only [decF]
      have h11 : ∀ c : UInt8, (itself c || c == sta) = true → c.toNat < 128 := by exact Go.Wire.byte_all (by decide +kernel)
      by_cases c1 : (itself (s.getD pos 0) || s.getD pos 0 == sta) = true
      · rw [if_pos c1]
        exact decode_lit T TW H hp (h11 _ c1) hs c1 (V := fun r => ∃ g', r = some (decV _, g')) fun g' t' H' => ih _ _ _ _ H' (by omega)
      · rw [if_neg c1]
        rw [Bool.not_eq_true] at c1
        by_cases c2 : s.getD pos 0 = plu
        · rw [if_pos c2]
          exact decode_plus T TW H hp hs c2 (V := fun r => ∃ g', r = some (decV _, g')) fun g' t' H' => ih _ _ _ _ H' (by omega)
        · rw [if_neg c2]
          by_cases c3 : s.getD pos 0 = mk ∧ d.at' = none
          · rw [if_pos c3]
            exact decode_mark T TW H hp hs hma hm1 hm2 c3.1 c3.2 (V := fun r => ∃ g', r = some (decV _, g')) fun g' t' H' => ih _ _ _ _ H' (by omega)
          · rw [if_neg c3]
            by_cases c4 : s.getD pos 0 = pct
            · rw [if_pos c4]
              cases hb : byteAt (s.drop (pos + 1)) with
              | none => exact decode_bad T TW H hp hs hm3 c4 hb
              | some x =>
                obtain ⟨hl, a1, a2⟩ := byteAt_some hb
                refine decode_pct T TW H hp hs hm3 c4 hb (V := fun r => ∃ g', r = some (decV _, g')) fun g1 t1 H1 => ?_
                refine decode_skip H1 (by omega) a1 (by omega) (V := fun r => ∃ g', r = some (decV _, g')) fun g2 t2 H2 => ?_
                refine decode_skip H2 hl a2 (by omega) (V := fun r => ∃ g', r = some (decV _, g')) fun g3 t3 H3 => ?_
                rw [List.drop_drop]
                exact ih _ _ _ _ H3 (by omega)
            · rw [if_neg c4]
              exact decode_other T TW H hp hs hma c1 c2 c3 c4
    · obtain ⟨g', e⟩ := decode_end T H (by omega) hs
      rw [List.drop_eq_nil_of_le (by omega)]
      exact ⟨g', e⟩
theorem flat_decV (x : Dec × Option Nat) : flat (decV x) = true := by
  obtain ⟨d, o⟩ := x
  cases o with
  | none => cases h : d.at' <;> simp [decV, h, atV] <;> rfl
  | some w => cases h : d.at' <;> simp [decV, h, atV] <;> rfl
include T TW in
theorem decode_spec (l0 : C.lies 81 4 0 70 = true) (l2 : C.lies 81 4 2 70 = true) {s : List UInt8} {mk : UInt8} (hs : s.length < 2 ^ 38) (hmk : mk = eqs ∨ mk = col) (h : AHeap) :
    D C 21 [str s, rv mk.toNat] h = some (decV (decode mk s), h) := by
  rw [D_fn3 TW.h21 _ (by simp)]
  have hz : Value.string ⟨⟨[]⟩⟩ = str [] := rfl
  have hI : ∀ t, tg t 0 = str s → tg t 1 = rv mk.toNat → tg t 4 = .pointer (some ⟨0, 0, some 0⟩) → tg t 5 = .int .i64 (-1) → tg t 7 = bp 1 0 → tg t 8 = iv 0 → tg t 9 = iv 0 → tg t 15 = .pointer (some ⟨2, 0, some 0⟩) →
      pur (R C r21 kD t [] ⟨[.cells [str [], str []] 59, .cells [.pointer none, .slice none 0 0, .pointer none, .slice none 0 0] 82, .siter s 0], 0⟩) h = some (decV (decode mk s), h) := fun t t0 t1 t4 t5 t7 t8 t9 t15 => by
    have H : DecI C s mk 0 0 dec0 ⟨[.cells [str [], str []] 59, .cells [.pointer none, .slice none 0 0, .pointer none, .slice none 0 0] 82, .siter s 0], 0⟩ t :=
      ⟨rfl, rfl, ⟨_, .slice none 0 0, .slice none 0 0, rfl, ⟨rfl, .inl rfl, rfl, .nil, Nat.zero_le _, l0⟩, ⟨rfl, .inl rfl, rfl, .nil, Nat.zero_le _, l2⟩, fun j h => (by cases h), fun _ => rfl, fun _ => rfl⟩, rfl, by simp [dec0], by simp [dec0], by omega, t0, t1, t4, t5, t7, t8, t9, t15, l0, l2⟩
    obtain ⟨g', e⟩ := decode_loop T TW hs (by rcases hmk with rfl | rfl <;> decide) (by rcases hmk with rfl | rfl <;> decide) (by rcases hmk with rfl | rfl <;> decide) (by rcases hmk with rfl | rfl <;> decide) (s.length + 1) 0 dec0 _ t H (by omega)
    rw [List.drop_zero] at e
    rw [e, pur_ok (flat_decV _)]; rfl
  simp [b21, hz, AHeap.push]
  exact hI _ (by simp [tg_ts]) (by simp [tg_ts]) (by simp [tg_ts]) (by simp [tg_ts]) (by simp [tg_ts, bp]) (by simp [tg_ts]) (by simp [tg_ts]) (by simp [tg_ts])
end Go.Ab.Aud

namespace Go.Ab.Aud
set_option maxRecDepth 20000
open Go.Wire (itself hexv hexd enc1 encF Dec decF decode dec0 plu spc sta pct amp eqs col byteAt)
variable {C : Ctx} (T : Tab_LStr C) (TW : Tab_LWir C)
theorem bv_shr4 (c : UInt8) : abin .shr (bv c) (uv 4) = some (bv (UInt8.ofNat (c.toNat / 16))) := by
  have hc := c.toNat_lt
  show ashift .shr .u8 (c.toNat : Int) ((4 : Nat) : Int) = _
  unfold ashift
  rw [if_neg (by omega)]
  have hm : min ((4 : Nat) : Int).toNat IntKind.u8.bits = 4 := rfl
  rw [hm]
  unfold bv
  rw [UInt8.toNat_ofNat', Nat.mod_eq_of_lt (by omega)]
  have : (c.toNat : Int) / 2 ^ 4 = ((c.toNat / 16 : Nat) : Int) := by push_cast; rfl
  show some (Value.int .u8 (Int.fdiv _ _)) = _
  rw [Int.fdiv_eq_ediv_of_nonneg _ (by decide), this]
theorem bv_and15 (c : UInt8) : abin .and (bv c) (bv 15) = some (bv (UInt8.ofNat (c.toNat % 16))) := by
  show some (Value.int .u8 (IntKind.u8.wrap ((BitVec.ofInt 8 (c.toNat : Int) &&& BitVec.ofInt 8 ((15 : UInt8).toNat : Int)).toNat : Int))) = _
  unfold bv
  congr 2
  revert c
  exact Go.Wire.byte_all (by decide +kernel)
theorem idxSv_bv {s : List UInt8} {k : UInt8} {h : AHeap} (hk : k.toNat < s.length) : idxSv (str s) (bv k) h = some (bv (s.getD k.toNat 0), h) := idxSv_str hk
theorem hexd_hi (c : UInt8) : (UInt8.ofNat (c.toNat / 16)).toNat < dig16.length ∧ dig16.getD (UInt8.ofNat (c.toNat / 16)).toNat 0 = hexd (c.toNat / 16) := by
  revert c; exact Go.Wire.byte_all (by decide +kernel)
theorem hexd_lo (c : UInt8) : (UInt8.ofNat (c.toNat % 16)).toNat < dig16.length ∧ dig16.getD (UInt8.ofNat (c.toNat % 16)).toNat 0 = hexd (c.toNat % 16) := by
  revert c; exact Go.Wire.byte_all (by decide +kernel)
theorem bv_lss {a b : UInt8} : abin .lss (bv a) (bv b) = some (.bool (decide (a.toNat < b.toNat))) := by
  unfold bv; rw [k_lss]; congr 2; simp
theorem bv_eql {a b : UInt8} : abin .eql (bv a) (bv b) = some (.bool (decide (a = b))) := by
  unfold bv; rw [k_eql]; congr 2
  exact decide_eq_decide.2 (by rw [Int.ofNat_inj, UInt8.toNat_inj])
theorem cvt_bv32 {c : UInt8} : cvt .i32 (bv c) = some (rv c.toNat) := by
  have hc := c.toNat_lt
  show some (Value.int .i32 (IntKind.i32.wrap (c.toNat : Int))) = _
  unfold rv
  congr 2
  simp [IntKind.wrap, IntKind.bits, IntKind.signed]
  omega
theorem itself_low (c : UInt8) : itself c = true → c.toNat < 128 := by revert c; exact Go.Wire.byte_all (by decide +kernel)
/-- how the loop of encode stands -/
structure EncI (C : Ctx) (s : List UInt8) (i : Nat) (w : List UInt8) (g : AHeap) (t : List Value) : Prop where
  b : ∃ c v, c.length = 2 ∧ Bld C g 70 0 0 c v w ∧ (w = [] → v = .slice none 0 0) ∧ blkOf v ≠ some 1
  src : g.at 1 = some (.grow (bytesVals s) 0 6 1)
  n0 : w.length ≤ 3 * i
  hp : i ≤ s.length
  t3 : tg t 3 = bp 0 0
  t7 : tg t 7 = .slice (some ⟨1, 0, some (s.length + 1)⟩) s.length 0
  t8 : tg t 8 = iv s.length
  t9 : tg t 9 = iv i
def kE : List AItem := [.inLoop lp18_0, .inBlock 0, .code k18_0]
include T in
/-- a byte is written -/
theorem EncI.wr {s : List UInt8} {i : Nat} {w : List UInt8} {g : AHeap} {t : List Value} (H : EncI C s i w g t) (x : UInt8) (hn : w.length < 2 ^ 39) : ∃ g2, D C 28 [bp 0 0, bv x] g = some (.nilIface, g2) ∧ g2.at 1 = some (.grow (bytesVals s) 0 6 1) ∧
    ∃ c v, c.length = 2 ∧ Bld C g2 70 0 0 c v (w ++ [x]) ∧ (w ++ [x] = [] → v = .slice none 0 0) ∧ blkOf v ≠ some 1 := by
  obtain ⟨c, v, hc, B, hv, hs⟩ := H.b
  obtain ⟨v', g2, e, S⟩ := writeByte_spec T B x hn
  have l1 := get_lt H.src
  exact ⟨g2, e, S.fr.get H.src (fun h => h.elim (by omega) hs), bc c 0 0 v', v', by simp [bc, hc], S.bld, fun h => by simp at h, fun hcc => (S.blk 1 hcc).elim hs (by omega)⟩
include T in
theorem encode_end {s : List UInt8} {w : List UInt8} {g : AHeap} {t : List Value} (H : EncI C s s.length w g t) (hs : s.length < 2 ^ 36) : ∃ g', R C r18 kE t [] g = some (str w, g') := by
  obtain ⟨c, v, hc, B, hv, _⟩ := H.b
  obtain ⟨g1, e1, _⟩ := string_spec T B hv (by have := H.n0; omega)
  refine ⟨g1, ?_⟩
  unfold kE
  rw [R_open lp18_0.eq_1]
  simp [H.t9, H.t8, H.t3, Dc_ok, aun_bpn, e1, k18_0, r18]
include T TW in
theorem encode_step {s : List UInt8} {i : Nat} {w : List UInt8} {g : AHeap} {t : List Value} (H : EncI C s i w g t) (hi : i < s.length) (hs : s.length < 2 ^ 36) {V : Res → Prop}
    (go : ∀ g' t', EncI C s (i + 1) (w ++ enc1 (s.getD i 0)) g' t' → V (R C r18 kE t' [] g')) : V (R C r18 kE t [] g) := by
  have n0 := H.n0
  have hrd : rd1 (g.at 1) i (s.length + 1) = some (bv (s.getD i 0)) := by
    rw [H.src, rd1_grow (by omega) (by simp) (by omega), bytes_get, List.getElem?_eq_getElem hi, List.getD_eq_getElem?_getD, List.getElem?_eq_getElem hi]; rfl
  generalize hcx : s.getD i 0 = c at *
  have hit := fun h => itself_spec T TW h c.toNat
  have h128 : Value.int .u8 128 = bv 128 := rfl
  have h32 : Value.int .u8 32 = bv spc := rfl
  have h43 : Value.int .u8 43 = bv plu := rfl
  have h37 : Value.int .u8 37 = bv pct := rfl
  have h15 : Value.int .u8 15 = bv 15 := rfl
  have t128 : (128 : UInt8).toNat = 128 := rfl
  have hdig : Value.string ⟨⟨[48, 49, 50, 51, 52, 53, 54, 55, 56, 57, 65, 66, 67, 68, 69, 70]⟩⟩ = str dig16 := rfl
  by_cases c1 : itself c = true
  · have hlow := itself_low c c1
    have hR : itR c.toNat = true := by unfold itR; simp [hlow, c1]
    rw [hR] at hit
    obtain ⟨g2, e2, src2, b2⟩ := H.wr T c (by omega)
    have he : enc1 c = [c] := by unfold enc1; rw [if_pos c1]
    rw [he] at go
    unfold kE
    rw [R_open lp18_0.eq_1]
    simp [H.t9, H.t8, hi, H.t7, ixS_iv hi, adda, read1_rd, hrd, h128, bv_lss, t128, hlow, cvt_bv32, Dc_ok, hit, H.t3, aun_bpn, e2, iv_add (a := i) (b := 1) (by omega)]
    refine go _ _ ⟨b2, src2, by simp; omega, by omega, by simp [tg_ts, H.t3], by simp [tg_ts, H.t7], by simp [tg_ts, H.t8], by simp [tg_ts]⟩
  · rw [Bool.not_eq_true] at c1
    have hR : itR c.toNat = false := by unfold itR; simp [c1]
    rw [hR] at hit
    by_cases c2 : c = spc
    · have he : enc1 c = [plu] := by unfold enc1; rw [c1, if_neg (by simp), if_pos c2]
      rw [he] at go
      subst c2
      have hlow : spc.toNat < 128 := by decide
      obtain ⟨g2, e2, src2, b2⟩ := H.wr T plu (by omega)
      unfold kE
      rw [R_open lp18_0.eq_1]
      simp [H.t9, H.t8, hi, H.t7, ixS_iv hi, adda, read1_rd, hrd, h128, bv_lss, t128, hlow, cvt_bv32, Dc_ok, hit, h32, bv_eql, h43, H.t3, aun_bpn, e2, iv_add (a := i) (b := 1) (by omega)]
      refine go _ _ ⟨b2, src2, by simp; omega, by omega, by simp [tg_ts, H.t3], by simp [tg_ts, H.t7], by simp [tg_ts, H.t8], by simp [tg_ts]⟩
    · have he : enc1 c = [pct, hexd (c.toNat / 16), hexd (c.toNat % 16)] := by unfold enc1; rw [c1, if_neg (by simp), if_neg c2]
      rw [he] at go
      obtain ⟨g2, e2, src2, b2⟩ := H.wr T pct (by omega)
      have H2 : EncI C s (i + 1) (w ++ [pct]) g2 t → True := fun _ => trivial
      obtain ⟨cc, vv, hcc, B2, _, hs2⟩ := b2
      obtain ⟨v3, g3, e3, S3⟩ := writeByte_spec T B2 (hexd (c.toNat / 16)) (by simp; omega)
      obtain ⟨v4, g4, e4, S4⟩ := writeByte_spec T S3.bld (hexd (c.toNat % 16)) (by simp; omega)
      have src3 := S3.fr.get src2 (fun h => h.elim (by omega) hs2)
      have hs3 : blkOf v3 ≠ some 1 := fun h => (S3.blk 1 h).elim hs2 (by have := get_lt src2; omega)
      have src4 := S4.fr.get src3 (fun h => h.elim (by omega) hs3)
      have hs4 : blkOf v4 ≠ some 1 := fun h => (S4.blk 1 h).elim hs3 (by have := get_lt src3; omega)
      have B4 := S4.bld
      rw [List.append_assoc, List.append_assoc] at B4
      obtain ⟨k1, k2⟩ := hexd_hi c
      obtain ⟨k3, k4⟩ := hexd_lo c
      have x1 : ∀ h, idxSv (str dig16) (bv (UInt8.ofNat (c.toNat / 16))) h = some (bv (hexd (c.toNat / 16)), h) := fun h => by rw [idxSv_bv k1, k2]
      have x2 : ∀ h, idxSv (str dig16) (bv (UInt8.ofNat (c.toNat % 16))) h = some (bv (hexd (c.toNat % 16)), h) := fun h => by rw [idxSv_bv k3, k4]
      unfold kE
      rw [R_open lp18_0.eq_1]
      by_cases hlow : c.toNat < 128
      · simp [H.t9, H.t8, hi, H.t7, ixS_iv hi, adda, read1_rd, hrd, h128, bv_lss, t128, hlow, cvt_bv32, Dc_ok, hit, h32, bv_eql, c2, h37, H.t3, aun_bpn, e2, bv_shr4, hdig, x1, e3, h15, bv_and15, x2, e4, iv_add (a := i) (b := 1) (by omega)]
        refine go _ _ ⟨⟨_, v4, by simp [bc, hcc], B4, fun h => by simp at h, hs4⟩, src4, by simp; omega, by omega, by simp [tg_ts, H.t3], by simp [tg_ts, H.t7], by simp [tg_ts, H.t8], by simp [tg_ts]⟩
      · simp [H.t9, H.t8, hi, H.t7, ixS_iv hi, adda, read1_rd, hrd, h128, bv_lss, t128, hlow, cvt_bv32, Dc_ok, hit, h32, bv_eql, c2, h37, H.t3, aun_bpn, e2, bv_shr4, hdig, x1, e3, h15, bv_and15, x2, e4, iv_add (a := i) (b := 1) (by omega)]
        refine go _ _ ⟨⟨_, v4, by simp [bc, hcc], B4, fun h => by simp at h, hs4⟩, src4, by simp; omega, by omega, by simp [tg_ts, H.t3], by simp [tg_ts, H.t7], by simp [tg_ts, H.t8], by simp [tg_ts]⟩
include T TW in
theorem encode_loop {s : List UInt8} (hs : s.length < 2 ^ 36) : ∀ (f i : Nat) (w : List UInt8) (g : AHeap) (t : List Value), EncI C s i w g t → s.length - i ≤ f → ∃ g', R C r18 kE t [] g = some (str (w ++ encF (s.drop i)), g') := by
  intro f
  induction f with
  | zero =>
    intro i w g t H h
    have hp := H.hp
    have : i = s.length := by omega
    subst this
    rw [List.drop_length]
    obtain ⟨g', e⟩ := encode_end T H hs
    exact ⟨g', by rw [e]; simp [encF]⟩
  | succ f ih =>
    intro i w g t H h
    by_cases hi : i < s.length
    · have he : encF (s.drop i) = enc1 (s.getD i 0) ++ encF (s.drop (i + 1)) := by rw [drop_cons hi]; rfl
      rw [he, ← List.append_assoc]
      exact encode_step T TW H hi hs (V := fun r => ∃ g', r = some (str _, g')) fun g' t' H' => ih _ _ _ _ H' (by omega)
    · have hp := H.hp
      have : i = s.length := by omega
      subst this
      rw [List.drop_length]
      obtain ⟨g', e⟩ := encode_end T H hs
      exact ⟨g', by rw [e]; simp [encF]⟩
include T TW in
theorem encode_spec (l0 : C.lies 70 2 0 70 = true) {s : List UInt8} (hs : s.length < 2 ^ 36) (h : AHeap) : D C 18 [str s] h = some (str (encF s), h) := by
  rw [D_fn3 TW.h18 _ (by simp)]
  have hs2 : ∀ h, s2bV 5 (str s) h = some (.slice (some ⟨h.bs.length, 0, some (s.length + 1)⟩) s.length 0, h.push (.grow (bytesVals s) 0 6 1)) := fun h => s2bV_str (by simp [sizeLim]; omega)
  have hz : Value.string ⟨⟨[]⟩⟩ = str [] := rfl
  have hI : ∀ t, tg t 3 = bp 0 0 → tg t 7 = .slice (some ⟨1, 0, some (s.length + 1)⟩) s.length 0 → tg t 8 = iv s.length → tg t 9 = iv 0 →
      pur (R C r18 kE t [] ⟨[.cells [.pointer none, .slice none 0 0] 71, .grow (bytesVals s) 0 6 1], 0⟩) h = some (str (encF s), h) := fun t t3 t7 t8 t9 => by
    have H : EncI C s 0 [] ⟨[.cells [.pointer none, .slice none 0 0] 71, .grow (bytesVals s) 0 6 1], 0⟩ t :=
      ⟨⟨_, .slice none 0 0, rfl, ⟨rfl, .inl rfl, rfl, .nil, Nat.zero_le _, l0⟩, fun _ => rfl, by simp [blkOf]⟩, rfl, by simp, by omega, t3, t7, t8, t9⟩
    obtain ⟨g', e⟩ := encode_loop T TW hs s.length 0 [] _ t H (by omega)
    rw [e, pur_ok (by simp)]; simp
  have i1 : Value.int .i64 (s.length : Int) = iv s.length := rfl
  simp [b18, hz, AHeap.push, hs2, i1]
  exact hI _ (by simp [tg_ts, bp]) (by simp [tg_ts]) (by simp [tg_ts]) (by simp [tg_ts])
end Go.Ab.Aud

namespace Go.Ab.Aud
set_option maxRecDepth 20000
open Go.Lib (validD firstT accLo accHi checkN)
variable {C : Ctx} (T : Tab_LStr C)
theorem uv_or {a b : Nat} (ha : a < 2 ^ 64) (hb : b < 2 ^ 64) : abin .or (uv a) (uv b) = some (uv (a ||| b)) := by
  have hlt : a ||| b < 2 ^ 64 := Nat.or_lt_two_pow ha hb
  show some (Value.int .u64 (IntKind.u64.wrap ((BitVec.ofInt 64 (a : Int) ||| BitVec.ofInt 64 (b : Int)).toNat : Int))) = _
  rw [ofInt_nat, ofInt_nat, BitVec.toNat_or, BitVec.toNat_ofNat, BitVec.toNat_ofNat, Nat.mod_eq_of_lt ha, Nat.mod_eq_of_lt hb, wrap64u]
  unfold uv; congr 2; omega
theorem uv_and {a b : Nat} (ha : a < 2 ^ 64) (hb : b < 2 ^ 64) : abin .and (uv a) (uv b) = some (uv (a &&& b)) := by
  have hlt : a &&& b < 2 ^ 64 := Nat.and_lt_two_pow _ hb
  show some (Value.int .u64 (IntKind.u64.wrap ((BitVec.ofInt 64 (a : Int) &&& BitVec.ofInt 64 (b : Int)).toNat : Int))) = _
  rw [ofInt_nat, ofInt_nat, BitVec.toNat_and, BitVec.toNat_ofNat, BitVec.toNat_ofNat, Nat.mod_eq_of_lt ha, Nat.mod_eq_of_lt hb, wrap64u]
  unfold uv; congr 2; omega
def msk : Nat := 9259542123273814144
def wordN (l : List UInt8) : Nat :=
  (l.getD 0 0).toNat ||| (l.getD 1 0).toNat * 256 ||| (l.getD 2 0).toNat * 65536 ||| (l.getD 3 0).toNat * 16777216 ||| (l.getD 4 0).toNat * 4294967296 ||| (l.getD 5 0).toNat * 1099511627776 ||| (l.getD 6 0).toNat * 281474976710656 ||| (l.getD 7 0).toNat * 72057594037927936
theorem b_lt (b : UInt8) {k : Nat} (hk : k ≤ 72057594037927936) : b.toNat * k < 2 ^ 64 := by
  have := b.toNat_lt
  have h1 : b.toNat * k ≤ 255 * k := Nat.mul_le_mul_right _ (by omega)
  omega
theorem or_lt {a b : Nat} (ha : a < 2 ^ 64) (hb : b < 2 ^ 64) : a ||| b < 2 ^ 64 := Nat.or_lt_two_pow ha hb
theorem wordN_lt (l : List UInt8) : wordN l < 2 ^ 64 := by
  unfold wordN
  have h0 : (l.getD 0 0).toNat < 2 ^ 64 := by have := (l.getD 0 0).toNat_lt; omega
  exact or_lt (or_lt (or_lt (or_lt (or_lt (or_lt (or_lt h0 (b_lt _ (by omega))) (b_lt _ (by omega))) (b_lt _ (by omega))) (b_lt _ (by omega))) (b_lt _ (by omega))) (b_lt _ (by omega))) (b_lt _ (by omega))
theorem msk0 (b : UInt8) : b.toNat &&& msk = 0 → b.toNat < 128 := by revert b; exact Go.Wire.byte_all (by decide +kernel)
theorem msk1 (b : UInt8) : b.toNat * 256 &&& msk = 0 → b.toNat < 128 := by revert b; exact Go.Wire.byte_all (by decide +kernel)
theorem msk2 (b : UInt8) : b.toNat * 65536 &&& msk = 0 → b.toNat < 128 := by revert b; exact Go.Wire.byte_all (by decide +kernel)
theorem msk3 (b : UInt8) : b.toNat * 16777216 &&& msk = 0 → b.toNat < 128 := by revert b; exact Go.Wire.byte_all (by decide +kernel)
theorem msk4 (b : UInt8) : b.toNat * 4294967296 &&& msk = 0 → b.toNat < 128 := by revert b; exact Go.Wire.byte_all (by decide +kernel)
theorem msk5 (b : UInt8) : b.toNat * 1099511627776 &&& msk = 0 → b.toNat < 128 := by revert b; exact Go.Wire.byte_all (by decide +kernel)
theorem msk6 (b : UInt8) : b.toNat * 281474976710656 &&& msk = 0 → b.toNat < 128 := by revert b; exact Go.Wire.byte_all (by decide +kernel)
theorem msk7 (b : UInt8) : b.toNat * 72057594037927936 &&& msk = 0 → b.toNat < 128 := by revert b; exact Go.Wire.byte_all (by decide +kernel)
theorem word_ascii {l : List UInt8} (h : wordN l &&& msk = 0) : ∀ i, i < 8 → (l.getD i 0).toNat < 128 := by
  unfold wordN at h
  simp only [Go.Lib.or_mask] at h
  obtain ⟨⟨⟨⟨⟨⟨⟨h0, h1⟩, h2⟩, h3⟩, h4⟩, h5⟩, h6⟩, h7⟩ := h
  intro i hi
  match i, hi with
  | 0, _ => exact msk0 _ h0
  | 1, _ => exact msk1 _ h1
  | 2, _ => exact msk2 _ h2
  | 3, _ => exact msk3 _ h3
  | 4, _ => exact msk4 _ h4
  | 5, _ => exact msk5 _ h5
  | 6, _ => exact msk6 _ h6
  | 7, _ => exact msk7 _ h7
  | n + 8, h => omega
theorem valid_skip {l : List UInt8} {k : Nat} (h : ∀ i, i < k → (l.getD i 0).toNat < 128) : validD l = validD (l.drop k) := by
  refine Go.Lib.validD_ascii k l fun b hb => ?_
  obtain ⟨i, hi, he⟩ := List.getElem_of_mem hb
  rw [List.length_take] at hi
  have := h i (by omega)
  rw [List.getD_eq_getElem?_getD, List.getElem?_eq_getElem (by omega)] at this
  rw [← he, List.getElem_take]; exact this
include T in
theorem word_spec {l : List UInt8} (hl : 8 ≤ l.length) (h : AHeap) : D C 51 [str l] h = some (uv (wordN l), h) := by
  rw [D_fn3 T.h51 _ (by simp)]
  have ix : ∀ k, k < 8 → ∀ h, idxSv (str l) (iv k) h = some (bv (l.getD k 0), h) := fun k hk h => idxSv_str (by omega)
  have x0 := ix 0 (by omega)
  have x1 := ix 1 (by omega)
  have x2 := ix 2 (by omega)
  have x3 := ix 3 (by omega)
  have x4 := ix 4 (by omega)
  have x5 := ix 5 (by omega)
  have x6 := ix 6 (by omega)
  have x7 := ix 7 (by omega)
  unfold wordN
  have h0 : (l.getD 0 0).toNat < 2 ^ 64 := by have := (l.getD 0 0).toNat_lt; omega
  have h1 : (l.getD 1 0).toNat * 256 < 2 ^ 64 := b_lt _ (by omega)
  have h2 : (l.getD 2 0).toNat * 65536 < 2 ^ 64 := b_lt _ (by omega)
  have h3 : (l.getD 3 0).toNat * 16777216 < 2 ^ 64 := b_lt _ (by omega)
  have h4 : (l.getD 4 0).toNat * 4294967296 < 2 ^ 64 := b_lt _ (by omega)
  have h5 : (l.getD 5 0).toNat * 1099511627776 < 2 ^ 64 := b_lt _ (by omega)
  have h6 : (l.getD 6 0).toNat * 281474976710656 < 2 ^ 64 := b_lt _ (by omega)
  have h7 : (l.getD 7 0).toNat * 72057594037927936 < 2 ^ 64 := b_lt _ (by omega)
  generalize l.getD 0 0 = b0 at *
  generalize l.getD 1 0 = b1 at *
  generalize l.getD 2 0 = b2 at *
  generalize l.getD 3 0 = b3 at *
  generalize l.getD 4 0 = b4 at *
  generalize l.getD 5 0 = b5 at *
  generalize l.getD 6 0 = b6 at *
  generalize l.getD 7 0 = b7 at *
  have s1 : abin .shl (uv b1.toNat) (uv 8) = some (uv (b1.toNat * 256)) := uv_shl (a := _) (by omega) h1
  have s2 : abin .shl (uv b2.toNat) (uv 16) = some (uv (b2.toNat * 65536)) := uv_shl (a := _) (by omega) h2
  have s3 : abin .shl (uv b3.toNat) (uv 24) = some (uv (b3.toNat * 16777216)) := uv_shl (a := _) (by omega) h3
  have s4 : abin .shl (uv b4.toNat) (uv 32) = some (uv (b4.toNat * 4294967296)) := uv_shl (a := _) (by omega) h4
  have s5 : abin .shl (uv b5.toNat) (uv 40) = some (uv (b5.toNat * 1099511627776)) := uv_shl (a := _) (by omega) h5
  have s6 : abin .shl (uv b6.toNat) (uv 48) = some (uv (b6.toNat * 281474976710656)) := uv_shl (a := _) (by omega) h6
  have s7 : abin .shl (uv b7.toNat) (uv 56) = some (uv (b7.toNat * 72057594037927936)) := uv_shl (a := _) (by omega) h7
  generalize hn0 : b0.toNat = n0 at *
  clear ix
  have o1 := uv_or h0 h1
  have l1 := or_lt h0 h1
  have o2 := uv_or l1 h2
  have l2 := or_lt l1 h2
  have o3 := uv_or l2 h3
  have l3 := or_lt l2 h3
  have o4 := uv_or l3 h4
  have l4 := or_lt l3 h4
  have o5 := uv_or l4 h5
  have l5 := or_lt l4 h5
  have o6 := uv_or l5 h6
  have l6 := or_lt l5 h6
  have o7 := uv_or l6 h7
  simp [b51, x0, x1, x2, x3, x4, x5, x6, x7, hn0, s1, s2, s3, s4, s5, s6, s7, o1, o2, o3, o4, o5, o6, o7, r51]
end Go.Ab.Aud

namespace Go.Ab.Aud
set_option maxRecDepth 20000
open Go.Lib (validD firstT accLo accHi checkN)
variable {C : Ctx} (T : Tab_LStr C)
/-- the tables of utf8 -/
structure U8 (C : Ctx) : Prop where
  first : ∀ b, b < 256 → C.old 0 b = some (bv (UInt8.ofNat (firstT b)))
  lo : ∀ k, k < 16 → C.old 1 (2 * k) = some (bv (UInt8.ofNat (accLo k)))
  hi : ∀ k, k < 16 → C.old 1 (2 * k + 1) = some (bv (UInt8.ofNat (accHi k)))
theorem slc_from {s : List UInt8} {k : Nat} {h : AHeap} (hp : k ≤ s.length) : slcSv (str s) (some (some (k : Int))) (some none) h = some (str (s.drop k), h) := by
  have := slcSv_str (s := s) (h := h) (lo := some (k : Int)) (hi := none) (l := k) (u := s.length) (by simp) rfl (by omega) (by omega)
  rw [this, List.take_of_length_le (by rw [List.length_drop]; omega)]
theorem msk_lt : msk < 2 ^ 64 := by decide
theorem uv_msk : uv 9259542123273814144 = uv msk := rfl
theorem uv_z {a : Nat} : abin .eql (uv a) (uv 0) = some (.bool (decide (a = 0))) := uv_eql
include T in
theorem valid_inner {K : List AItem} {V : Res → Prop} : ∀ (n : Nat) (l : List UInt8) (t : List Value) (g : AHeap), l.length ≤ n → tg t 0 = str l →
    (∀ l' t', tg t' 0 = str l' → validD l' = validD l → l'.length ≤ l.length → V (R C r35 K t' [] g)) → V (R C r35 (.inLoop lp35_0 :: .inBlock 2 :: K) t [] g) := by
  intro n
  induction n with
  | zero =>
    intro l t g hn t0 go
    rw [R_open lp35_0.eq_1]
    simp [t0, show ¬ 32 < l.length by omega]
    exact go l _ (by simp [tg_ts, t0]) rfl (Nat.le_refl _)
  | succ n ih =>
    intro l t g hn t0 go
    by_cases h32 : 32 < l.length
    · rw [R_open lp35_0.eq_1]
      have w0 := fun h => word_spec T (l := l) (by omega) h
      have w1 := fun h => word_spec T (l := l.drop 8) (by rw [List.length_drop]; omega) h
      have w2 := fun h => word_spec T (l := l.drop 16) (by rw [List.length_drop]; omega) h
      have w3 := fun h => word_spec T (l := l.drop 24) (by rw [List.length_drop]; omega) h
      have e1 : ∀ h, slcSv (str l) (some (some (8 : Int))) (some none) h = some (str (l.drop 8), h) := fun h => slc_from (s := l) (k := 8) (h := h) (by omega)
      have e2 : ∀ h, slcSv (str l) (some (some (16 : Int))) (some none) h = some (str (l.drop 16), h) := fun h => slc_from (s := l) (k := 16) (h := h) (by omega)
      have e3 : ∀ h, slcSv (str l) (some (some (24 : Int))) (some none) h = some (str (l.drop 24), h) := fun h => slc_from (s := l) (k := 24) (h := h) (by omega)
      have e4 : ∀ h, slcSv (str l) (some (some (32 : Int))) (some none) h = some (str (l.drop 32), h) := fun h => slc_from (s := l) (k := 32) (h := h) (by omega)
      have k0 := wordN_lt l
      have k1 := wordN_lt (l.drop 8)
      have k2 := wordN_lt (l.drop 16)
      have k3 := wordN_lt (l.drop 24)
      have m0 := @word_ascii l
      have m1 := @word_ascii (l.drop 8)
      have m2 := @word_ascii (l.drop 16)
      have m3 := @word_ascii (l.drop 24)
      generalize wordN l = a0 at *
      generalize wordN (l.drop 8) = a1 at *
      generalize wordN (l.drop 16) = a2 at *
      generalize wordN (l.drop 24) = a3 at *
      have o1 := uv_or k0 k1
      have o2 := uv_or k2 k3
      have o3 := uv_or (or_lt k0 k1) (or_lt k2 k3)
      have o4 := uv_and (or_lt (or_lt k0 k1) (or_lt k2 k3)) msk_lt
      by_cases hz : (a0 ||| a1 ||| (a2 ||| a3)) &&& msk = 0
      · simp [t0, h32, Dc_ok, w0, e1, w1, e2, w2, e3, w3, o1, o2, o3, uv_msk, o4, uv_z, hz, e4]
        have hz' := hz
        rw [Go.Lib.or_mask, Go.Lib.or_mask, Go.Lib.or_mask] at hz'
        obtain ⟨⟨z0, z1⟩, z2, z3⟩ := hz'
        have q1 := valid_skip (m0 z0)
        have q2 := valid_skip (m1 z1)
        have q3 := valid_skip (m2 z2)
        have q4 := valid_skip (m3 z3)
        rw [List.drop_drop] at q2 q3 q4
        have q : validD l = validD (l.drop 32) := by rw [q1, q2, q3, q4]
        refine ih (l.drop 32) _ g (by rw [List.length_drop]; omega) (by simp [tg_ts]) fun l' t' x1 x2 x3 => go l' t' x1 (by rw [x2, q]) (by rw [List.length_drop] at x3; omega)
      · simp [t0, h32, Dc_ok, w0, e1, w1, e2, w2, e3, w3, o1, o2, o3, uv_msk, o4, uv_z, hz]
        exact go l _ (by simp [tg_ts, t0]) rfl (Nat.le_refl _)
    · rw [R_open lp35_0.eq_1]
      simp [t0, h32]
      exact go l _ (by simp [tg_ts, t0]) rfl (Nat.le_refl _)
def kV : List AItem := [.inLoop lp35_1, .inBlock 0, .code k35_1]
theorem slc_1 {s : List UInt8} {h : AHeap} (hp : 1 ≤ s.length) : slcSv (str s) (some (some 1)) (some none) h = some (str (s.drop 1), h) := slc_from (k := 1) hp
theorem slc_8 {s : List UInt8} {h : AHeap} (hp : 8 ≤ s.length) : slcSv (str s) (some (some 8)) (some none) h = some (str (s.drop 8), h) := slc_from (k := 8) hp
theorem slc_16 {s : List UInt8} {h : AHeap} (hp : 16 ≤ s.length) : slcSv (str s) (some (some 16)) (some none) h = some (str (s.drop 16), h) := slc_from (k := 16) hp
theorem slc_2 {s : List UInt8} {h : AHeap} (hp : 2 ≤ s.length) : slcSv (str s) (some (some 2)) (some none) h = some (str (s.drop 2), h) := slc_from (k := 2) hp
theorem slc_3 {s : List UInt8} {h : AHeap} (hp : 3 ≤ s.length) : slcSv (str s) (some (some 3)) (some none) h = some (str (s.drop 3), h) := slc_from (k := 3) hp
theorem slc_4 {s : List UInt8} {h : AHeap} (hp : 4 ≤ s.length) : slcSv (str s) (some (some 4)) (some none) h = some (str (s.drop 4), h) := slc_from (k := 4) hp
include T in
/-- a letter below 128 at the front -/
theorem valid_low {l : List UInt8} {t : List Value} {g : AHeap} (h0 : 0 < l.length) (ha : (l.getD 0 0).toNat < 128) (t0 : tg t 0 = str l) {V : Res → Prop}
    (go : ∀ l' t', tg t' 0 = str l' → validD l' = validD l → l'.length < l.length → V (R C r35 kV t' [] g)) : V (R C r35 kV t [] g) := by
  have i0 : ∀ h, idxSv (str l) (iv 0) h = some (bv (l.getD 0 0), h) := fun h => idxSv_str h0
  have hv : validD l = validD (l.drop 1) := valid_skip (fun i hi => by
    have : i = 0 := by omega
    subst this; exact ha)
  generalize l.getD 0 0 = c at *
  have h128 : Value.int .u8 128 = bv 128 := rfl
  have t128 : (128 : UInt8).toNat = 128 := rfl
  have ll : (l.drop 1).length = l.length - 1 := by rw [List.length_drop]
  have w0 := fun h8 h => word_spec T (l := l.drop 1) h8 h
  have k0 := wordN_lt (l.drop 1)
  have m0 := @word_ascii (l.drop 1)
  have o0 := uv_and k0 msk_lt
  unfold kV
  rw [R_open lp35_1.eq_1]
  by_cases c8 : 8 < (l.drop 1).length
  · by_cases z0 : wordN (l.drop 1) &&& msk = 0
    · have q1 := valid_skip (m0 z0)
      generalize hw : wordN (l.drop 1) = a0 at *
      rw [List.drop_drop] at q1
      have l9 : (l.drop 9).length = l.length - 9 := by rw [List.length_drop]
      have hdd : (l.drop 1).drop 8 = l.drop 9 := by rw [List.drop_drop]
      by_cases c16 : 16 < (l.drop 9).length
      · have w1 := fun h => word_spec T (l := l.drop 9) (by omega) h
        have w2 := fun h => word_spec T (l := (l.drop 9).drop 8) (by rw [List.length_drop]; omega) h
        have k1 := wordN_lt (l.drop 9)
        have k2 := wordN_lt ((l.drop 9).drop 8)
        have m1 := @word_ascii (l.drop 9)
        have m2 := @word_ascii ((l.drop 9).drop 8)
        have o1 := uv_or k1 k2
        have o2 := uv_and (or_lt k1 k2) msk_lt
        by_cases z1 : (wordN (l.drop 9) ||| wordN ((l.drop 9).drop 8)) &&& msk = 0
        · have z1' := z1
          rw [Go.Lib.or_mask] at z1'
          have q2 := valid_skip (m1 z1'.1)
          have q3 := valid_skip (m2 z1'.2)
          generalize wordN (l.drop 9) = a1 at *
          generalize wordN ((l.drop 9).drop 8) = a2 at *
          have s8 := fun h => slc_8 (s := l.drop 9) (h := h) (by omega)
          have s16 := fun h => slc_16 (s := l.drop 9) (h := h) (by omega)
          have q4 : validD ((l.drop 9).drop 16) = validD l := by
            rw [hv, q1, q2, q3]; simp only [List.drop_drop]
          have l16 : ((l.drop 9).drop 16).length < l.length := by rw [List.length_drop]; omega
          generalize (l.drop 9).drop 16 = l3 at *
          generalize (l.drop 9).drop 8 = l2 at *
          generalize hl1 : l.drop 9 = l1 at *
          have s1 := fun h => slc_1 (s := l) (h := h) (by omega)
          have s2 := fun h => slc_8 (s := l.drop 1) (h := h) (by omega)
          rw [hdd] at s2
          have c8' := c8
          generalize l.drop 1 = l0 at *
          have w0' := w0 (by omega)
          simp [t0, h0, i0, h128, bv_lss, t128, ha, s1, c8', Dc_ok, w0', uv_msk, o0, uv_z, z0, s2, c16, w1, s8, w2, o1, o2, z1, s16, S_loop]
          refine valid_inner T l3.length l3 _ g (Nat.le_refl _) (by simp [tg_ts]) fun l' t' x1 x2 x3 => ?_
          simp
          exact go l' t' x1 (by rw [x2, q4]) (by omega)
        · generalize wordN (l.drop 9) = a1 at *
          generalize wordN ((l.drop 9).drop 8) = a2 at *
          have s8 := fun h => slc_8 (s := l.drop 9) (h := h) (by omega)
          generalize (l.drop 9).drop 8 = l2 at *
          generalize hl1 : l.drop 9 = l1 at *
          have s1 := fun h => slc_1 (s := l) (h := h) (by omega)
          have s2 := fun h => slc_8 (s := l.drop 1) (h := h) (by omega)
          rw [hdd] at s2
          have c8' := c8
          have hq : validD l1 = validD l := by rw [hv, q1, ← hl1]
          generalize l.drop 1 = l0 at *
          have w0' := w0 (by omega)
          simp [t0, h0, i0, h128, bv_lss, t128, ha, s1, c8', Dc_ok, w0', uv_msk, o0, uv_z, z0, s2, c16, w1, s8, w2, o1, o2, z1]
          exact go l1 _ (by simp [tg_ts]) hq (by omega)
      · generalize hl1 : l.drop 9 = l1 at *
        have s1 := fun h => slc_1 (s := l) (h := h) (by omega)
        have s2 := fun h => slc_8 (s := l.drop 1) (h := h) (by omega)
        rw [hdd] at s2
        have c8' := c8
        have hq : validD l1 = validD l := by rw [hv, q1, ← hl1]
        generalize l.drop 1 = l0 at *
        have w0' := w0 (by omega)
        simp [t0, h0, i0, h128, bv_lss, t128, ha, s1, c8', Dc_ok, w0', uv_msk, o0, uv_z, z0, s2, c16]
        exact go l1 _ (by simp [tg_ts]) hq (by omega)
    · generalize wordN (l.drop 1) = a0 at *
      have s1 := fun h => slc_1 (s := l) (h := h) (by omega)
      generalize l.drop 1 = l0 at *
      have w0' := w0 (by omega)
      simp [t0, h0, i0, h128, bv_lss, t128, ha, s1, c8, Dc_ok, w0', uv_msk, o0, uv_z, z0]
      exact go l0 _ (by simp [tg_ts]) hv.symm (by omega)
  · have s1 := fun h => slc_1 (s := l) (h := h) (by omega)
    generalize l.drop 1 = l0 at *
    simp [t0, h0, i0, h128, bv_lss, t128, ha, s1, c8]
    exact go l0 _ (by simp [tg_ts]) hv.symm (by omega)
end Go.Ab.Aud

namespace Go.Ab.Aud
set_option maxRecDepth 20000
open Go.Lib (validD firstT accLo accHi checkN)
variable {C : Ctx} (T : Tab_LStr C) (U : U8 C)
theorem bv_and7 (c : UInt8) : abin .and (bv c) (bv 7) = some (bv (UInt8.ofNat (c.toNat % 8))) := by
  show some (Value.int .u8 (IntKind.u8.wrap ((BitVec.ofInt 8 (c.toNat : Int) &&& BitVec.ofInt 8 ((7 : UInt8).toNat : Int)).toNat : Int))) = _
  unfold bv
  congr 2
  revert c
  exact Go.Wire.byte_all (by decide +kernel)
theorem firstT_facts (c : UInt8) (h : 128 ≤ c.toNat) : (UInt8.ofNat (firstT c.toNat)).toNat = firstT c.toNat ∧ (UInt8.ofNat (accLo (firstT c.toNat / 16))).toNat = accLo (firstT c.toNat / 16) ∧ (UInt8.ofNat (accHi (firstT c.toNat / 16))).toNat = accHi (firstT c.toNat / 16) ∧
    firstT c.toNat / 16 < 16 ∧ (firstT c.toNat % 8 = 1 ∨ firstT c.toNat % 8 = 2 ∨ firstT c.toNat % 8 = 3 ∨ firstT c.toNat % 8 = 4) := by
  revert h; revert c; exact Go.Wire.byte_all (by decide +kernel)
theorem ixA_bv {k len : Nat} {i : UInt8} {a : Addr} (h : i.toNat < len) : ixA k len (.pointer (some a)) (bv i) = some (.pointer (some (adda a (i.toNat * k)))) := by
  unfold bv
  rw [ixA_ok (by omega) (by omega)]; simp
theorem readN_two {old : Old} {h : AHeap} {b o : Nat} {x y : Value} (hx : old b o = some x) (hy : old b (o + 1) = some y) : readN old h ⟨b, o, none⟩ 2 = some [x, y] := by
  have : readN old h ⟨b, o, none⟩ 2 = (List.range 2).mapM fun i => old b (o + i) := by
    unfold readN; rfl
  rw [this]
  show ([0, 1] : List Nat).mapM (fun i => old b (o + i)) = _
  simp [hx, hy]
theorem getD_of {s : List UInt8} {k : Nat} (h : k < s.length) (g : AHeap) : idxSv (str s) (iv k) g = some (bv (s.getD k 0), g) := idxSv_str h
include T U in
theorem valid_high {l : List UInt8} {t : List Value} {g : AHeap} (h0 : 0 < l.length) (ha : ¬ (l.getD 0 0).toNat < 128) (t0 : tg t 0 = str l) (hg : g.lo ≤ g.bs.length) {V : Res → Prop}
    (ret : ∀ g', validD l = false → V (some (.bool false, g')))
    (go : ∀ l' t' g', tg t' 0 = str l' → validD l' = validD l → l'.length < l.length → g'.lo ≤ g'.bs.length → V (R C r35 kV t' [] g')) : V (R C r35 kV t [] g) := by
  have i0 := getD_of (s := l) (k := 0) h0
  have i1 := getD_of (s := l) (k := 1)
  have i2 := getD_of (s := l) (k := 2)
  have i3 := getD_of (s := l) (k := 3)
  have hne : l ≠ [] := List.length_pos_iff.1 h0
  have hv := Go.Lib.validD_lead l hne (by omega)
  obtain ⟨f1, f2, f3, f4, f5⟩ := firstT_facts (l.getD 0 0) (by omega)
  have hc := (l.getD 0 0).toNat_lt
  have e1 := U.first (l.getD 0 0).toNat (by omega)
  have e2 := U.lo _ f4
  have e3 := U.hi _ f4
  generalize l.getD 0 0 = c at *
  generalize l.getD 1 0 = b1 at *
  generalize l.getD 2 0 = b2 at *
  generalize l.getD 3 0 = b3 at *
  generalize firstT c.toNat = X at *
  generalize hx : UInt8.ofNat X = x at *
  have a7 := bv_and7 x
  have a4 := bv_shr4 x
  rw [f1] at a7 a4
  have x16 : (UInt8.ofNat (X / 16)).toNat = X / 16 := by rw [UInt8.toNat_ofNat']; omega
  have x8 : (UInt8.ofNat (X % 8)).toNat = X % 8 := by rw [UInt8.toNat_ofNat']; omega
  generalize hxs : UInt8.ofNat (X / 16) = xs at *
  generalize hxz : UInt8.ofNat (X % 8) = xz at *
  generalize hLo : accLo (X / 16) = LO at *
  generalize hHi : accHi (X / 16) = HI at *
  generalize hlo : UInt8.ofNat LO = lo at *
  generalize hhi : UInt8.ofNat HI = hi at *
  have rd2 := fun h => readN_two (old := C.old) (h := h) e2 e3
  have ix1 : ixA 1 256 (.pointer (some ⟨0, 0, none⟩)) (bv c) = some (.pointer (some ⟨0, c.toNat, none⟩)) := by rw [ixA_bv hc]; simp [adda]
  have ix2 : ixA 2 16 (.pointer (some ⟨1, 0, none⟩)) (bv xs) = some (.pointer (some ⟨1, 2 * (X / 16), none⟩)) := by
    rw [ixA_bv (by omega)]
    simp only [adda, Nat.zero_add, x16]
    rw [Nat.mul_comm]
  have rd1' : ∀ h, read1 C.old h ⟨0, c.toNat, none⟩ = some (bv x) := fun h => e1
  generalize hg1 : g.push (.cells [.int .u8 0, .int .u8 0] 101) = g1
  have p1 : g1.at g.bs.length = some (.cells [.int .u8 0, .int .u8 0] 101) := by rw [← hg1]; exact push_self
  have lo1 : g1.lo ≤ g.bs.length := by rw [← hg1]; simpa using hg
  have hw := wrN_cells (h := g1) (b := g.bs.length) (o := 0) (fz := 100) (c := [.int .u8 0, .int .u8 0]) (v := [bv lo, bv hi]) (by simp) (by simp)
  rw [splice2] at hw
  generalize hg2 : g1.put g.bs.length (.cells [bv lo, bv hi] 101) = g2 at hw
  have p2 : g2.at g.bs.length = some (.cells [bv lo, bv hi] 101) := by rw [← hg2]; exact put_self (get_lt p1)
  have lo2 : g2.lo ≤ g2.bs.length := by
    rw [← hg2, ← hg1]; simp; omega
  have h128 : Value.int .u8 128 = bv 128 := rfl
  have h191 : Value.int .u8 191 = bv 191 := rfl
  have h7 : Value.int .u8 7 = bv 7 := rfl
  have t128 : (128 : UInt8).toNat = 128 := rfl
  have t191 : (191 : UInt8).toNat = 191 := rfl
  unfold kV
  rw [R_open lp35_1.eq_1]
  have base : ∀ (W : Res → Prop), W = V → True := fun _ _ => trivial
  rcases f5 with z | z | z | z
  · rw [z] at hv x8
    have hf : validD l = false := by rw [hv]; simp [checkN]
    simp [t0, h0, i0, h128, bv_lss, t128, ha, k35_0, ix1, rd1', h7, a7, x8, z, a4, ix2, rd2, hg1, writeN_wr lo1, p1, hw, r35]
    exact ret _ hf
  · rw [z] at hv x8
    simp only [checkN] at hv
    by_cases n1 : l.length < 2
    · have hf : validD l = false := by rw [hv]; simp [n1]
      simp [t0, h0, i0, h128, bv_lss, t128, ha, k35_0, ix1, rd1', h7, a7, x8, z, a4, ix2, rd2, hg1, writeN_wr lo1, p1, hw, n1, r35]
      exact ret _ hf
    · have j1 := i1 (by omega)
      by_cases n2 : b1.toNat < LO
      · have hf : validD l = false := by rw [hv]; simp [n2]
        simp [t0, h0, i0, h128, bv_lss, t128, ha, k35_0, ix1, rd1', h7, a7, x8, z, a4, ix2, rd2, hg1, writeN_wr lo1, p1, hw, n1, j1, adda, read1_rd, p2, f2, n2, r35]
        exact ret _ hf
      · by_cases n3 : HI < b1.toNat
        · have hf : validD l = false := by rw [hv]; simp [n3]
          simp [t0, h0, i0, h128, bv_lss, t128, ha, k35_0, ix1, rd1', h7, a7, x8, z, a4, ix2, rd2, hg1, writeN_wr lo1, p1, hw, n1, j1, adda, read1_rd, p2, f2, n2, f3, n3, r35]
          exact ret _ hf
        · have hf : validD l = validD (l.drop 2) := by rw [hv]; simp [n1, n2, n3]
          have sl := fun h => slc_2 (s := l) (h := h) (by omega)
          have ll : (l.drop 2).length = l.length - 2 := by rw [List.length_drop]
          generalize l.drop 2 = l2 at *
          simp [t0, h0, i0, h128, bv_lss, t128, ha, k35_0, ix1, rd1', h7, a7, x8, z, a4, ix2, rd2, hg1, writeN_wr lo1, p1, hw, n1, j1, adda, read1_rd, p2, f2, n2, f3, n3, sl]
          exact go l2 _ _ (by simp [tg_ts]) hf.symm (by omega) lo2
  · rw [z] at hv x8
    simp only [checkN] at hv
    by_cases n1 : l.length < 3
    · have hf : validD l = false := by rw [hv]; simp [n1]
      simp [t0, h0, i0, h128, bv_lss, t128, ha, k35_0, ix1, rd1', h7, a7, x8, z, a4, ix2, rd2, hg1, writeN_wr lo1, p1, hw, n1, r35]
      exact ret _ hf
    · skip
      have j1 := i1 (by omega)
      have j2 := i2 (by omega)
      by_cases n2 : b1.toNat < LO
      · have hf : validD l = false := by rw [hv]; simp [n2]
        simp [t0, h0, i0, h128, bv_lss, t128, ha, k35_0, ix1, rd1', h7, a7, x8, z, a4, ix2, rd2, hg1, writeN_wr lo1, p1, hw, n1, j1, adda, read1_rd, p2, f2, n2, r35]
        exact ret _ hf
      · skip
        by_cases n3 : HI < b1.toNat
        · have hf : validD l = false := by rw [hv]; simp [n3]
          simp [t0, h0, i0, h128, bv_lss, t128, ha, k35_0, ix1, rd1', h7, a7, x8, z, a4, ix2, rd2, hg1, writeN_wr lo1, p1, hw, n1, j1, adda, read1_rd, p2, f2, n2, f3, n3, r35]
          exact ret _ hf
        · skip
          by_cases n4 : b2.toNat < 128
          · have hf : validD l = false := by rw [hv]; simp [n4]
            simp [t0, h0, i0, h128, bv_lss, t128, ha, k35_0, ix1, rd1', h7, a7, x8, z, a4, ix2, rd2, hg1, writeN_wr lo1, p1, hw, n1, j1, adda, read1_rd, p2, f2, n2, f3, n3, j2, n4, r35]
            exact ret _ hf
          · skip
            by_cases n5 : 191 < b2.toNat
            · have hf : validD l = false := by rw [hv]; simp [n5]
              simp [t0, h0, i0, h128, bv_lss, t128, ha, k35_0, ix1, rd1', h7, a7, x8, z, a4, ix2, rd2, hg1, writeN_wr lo1, p1, hw, n1, j1, adda, read1_rd, p2, f2, n2, f3, n3, j2, n4, h191, t191, n5, r35]
              exact ret _ hf
            · skip
              have hf : validD l = validD (l.drop 3) := by rw [hv]; simp [n1, n2, n3, n4, n5]
              have sl := fun h => slc_3 (s := l) (h := h) (by omega)
              have ll : (l.drop 3).length = l.length - 3 := by rw [List.length_drop]
              generalize l.drop 3 = l2 at *
              simp [t0, h0, i0, h128, bv_lss, t128, ha, k35_0, ix1, rd1', h7, a7, x8, z, a4, ix2, rd2, hg1, writeN_wr lo1, p1, hw, n1, j1, adda, read1_rd, p2, f2, n2, f3, n3, j2, n4, h191, t191, n5, sl]
              exact go l2 _ _ (by simp [tg_ts]) hf.symm (by omega) lo2
  · rw [z] at hv x8
    simp only [checkN] at hv
    by_cases n1 : l.length < 4
    · have hf : validD l = false := by rw [hv]; simp [n1]
      simp [t0, h0, i0, h128, bv_lss, t128, ha, k35_0, ix1, rd1', h7, a7, x8, z, a4, ix2, rd2, hg1, writeN_wr lo1, p1, hw, n1, r35]
      exact ret _ hf
    · skip
      have j1 := i1 (by omega)
      have j2 := i2 (by omega)
      have j3 := i3 (by omega)
      by_cases n2 : b1.toNat < LO
      · have hf : validD l = false := by rw [hv]; simp [n2]
        simp [t0, h0, i0, h128, bv_lss, t128, ha, k35_0, ix1, rd1', h7, a7, x8, z, a4, ix2, rd2, hg1, writeN_wr lo1, p1, hw, n1, j1, adda, read1_rd, p2, f2, n2, r35]
        exact ret _ hf
      · skip
        by_cases n3 : HI < b1.toNat
        · have hf : validD l = false := by rw [hv]; simp [n3]
          simp [t0, h0, i0, h128, bv_lss, t128, ha, k35_0, ix1, rd1', h7, a7, x8, z, a4, ix2, rd2, hg1, writeN_wr lo1, p1, hw, n1, j1, adda, read1_rd, p2, f2, n2, f3, n3, r35]
          exact ret _ hf
        · skip
          by_cases n4 : b2.toNat < 128
          · have hf : validD l = false := by rw [hv]; simp [n4]
            simp [t0, h0, i0, h128, bv_lss, t128, ha, k35_0, ix1, rd1', h7, a7, x8, z, a4, ix2, rd2, hg1, writeN_wr lo1, p1, hw, n1, j1, adda, read1_rd, p2, f2, n2, f3, n3, j2, n4, r35]
            exact ret _ hf
          · skip
            by_cases n5 : 191 < b2.toNat
            · have hf : validD l = false := by rw [hv]; simp [n5]
              simp [t0, h0, i0, h128, bv_lss, t128, ha, k35_0, ix1, rd1', h7, a7, x8, z, a4, ix2, rd2, hg1, writeN_wr lo1, p1, hw, n1, j1, adda, read1_rd, p2, f2, n2, f3, n3, j2, n4, h191, t191, n5, r35]
              exact ret _ hf
            · skip
              by_cases n6 : b3.toNat < 128
              · have hf : validD l = false := by rw [hv]; simp [n6]
                simp [t0, h0, i0, h128, bv_lss, t128, ha, k35_0, ix1, rd1', h7, a7, x8, z, a4, ix2, rd2, hg1, writeN_wr lo1, p1, hw, n1, j1, adda, read1_rd, p2, f2, n2, f3, n3, j2, n4, h191, t191, n5, j3, n6, r35]
                exact ret _ hf
              · skip
                by_cases n7 : 191 < b3.toNat
                · have hf : validD l = false := by rw [hv]; simp [n7]
                  simp [t0, h0, i0, h128, bv_lss, t128, ha, k35_0, ix1, rd1', h7, a7, x8, z, a4, ix2, rd2, hg1, writeN_wr lo1, p1, hw, n1, j1, adda, read1_rd, p2, f2, n2, f3, n3, j2, n4, h191, t191, n5, j3, n6, n7, r35]
                  exact ret _ hf
                · skip
                  have hf : validD l = validD (l.drop 4) := by rw [hv]; simp [n1, n2, n3, n4, n5, n6, n7]
                  have sl := fun h => slc_4 (s := l) (h := h) (by omega)
                  have ll : (l.drop 4).length = l.length - 4 := by rw [List.length_drop]
                  generalize l.drop 4 = l2 at *
                  simp [t0, h0, i0, h128, bv_lss, t128, ha, k35_0, ix1, rd1', h7, a7, x8, z, a4, ix2, rd2, hg1, writeN_wr lo1, p1, hw, n1, j1, adda, read1_rd, p2, f2, n2, f3, n3, j2, n4, h191, t191, n5, j3, n6, n7, sl]
                  exact go l2 _ _ (by simp [tg_ts]) hf.symm (by omega) lo2
include T U in
theorem valid_loop : ∀ (n : Nat) (l : List UInt8) (t : List Value) (g : AHeap), l.length < n → tg t 0 = str l → g.lo ≤ g.bs.length → ∃ g', R C r35 kV t [] g = some (.bool (validD l), g') := by
  intro n
  induction n with
  | zero => intro l t g h; omega
  | succ n ih =>
    intro l t g hn t0 hg
    by_cases h0 : 0 < l.length
    · by_cases ha : (l.getD 0 0).toNat < 128
      · exact valid_low T h0 ha t0 (V := fun r => ∃ g', r = some (.bool (validD l), g')) fun l' t' x1 x2 x3 => by rw [← x2]; exact ih l' t' g (by omega) x1 hg
      · exact valid_high T U h0 ha t0 hg (V := fun r => ∃ g', r = some (.bool (validD l), g')) (fun g' hf => by rw [hf]; exact ⟨_, rfl⟩) fun l' t' g' x1 x2 x3 x4 => by rw [← x2]; exact ih l' t' g' (by omega) x1 x4
    · have : l = [] := List.eq_nil_of_length_eq_zero (by omega)
      subst this
      refine ⟨g, ?_⟩
      unfold kV
      rw [R_open lp35_1.eq_1]
      simp [t0, k35_1, r35]
      rfl
include T U in
theorem valid_spec (l : List UInt8) (h : AHeap) : D C 35 [str l] h = some (.bool (validD l), h) := by
  rw [D_fn3 T.h35 _ (by simp)]
  have hI : ∀ t, tg t 0 = str l → pur (R C r35 kV t [] ⟨[], 0⟩) h = some (.bool (validD l), h) := fun t t0 => by
    obtain ⟨g', e⟩ := valid_loop T U (l.length + 1) l t ⟨[], 0⟩ (by omega) t0 (Nat.le_refl _)
    rw [e, pur_ok (by simp)]
  simp [b35]
  exact hI _ (by simp [tg_ts])
include T U in
theorem good_spec (TW : Tab_LWir C) (l : List UInt8) (h : AHeap) : D C 22 [str l] h = some (.bool (validD l), h) := by
  rw [D_fn3 TW.h22 _ (by simp)]
  simp [b22, Dc_ok, valid_spec T U, r22]
end Go.Ab.Aud

namespace Go.Ab.Aud
set_option maxRecDepth 20000
open Go.Lib (validD encodeRune encodeRuneZ decodeL)
variable {C : Ctx} (T : Tab_LStr C) (TW : Tab_LWir C)
theorem u8_of {z : Int} {n : Nat} (h : z.toNat = n) : z.toNat.toUInt8 = UInt8.ofNat n := by rw [h]
theorem enc_rune (n : Nat) : rb n = encodeRune (n : Int) := by
  unfold rb Utf8.encode encodeRune
  rw [validRune_eq]
  by_cases h1 : n < 128
  · have hv : validRune (n : Int) = true := by simp only [validRune, decide_eq_true_eq]; omega
    rw [hv, Go.Lib.encodeRuneZ_one (by omega) (by omega)]
    simp [h1]
  by_cases h2 : n < 2048
  · have hv : validRune (n : Int) = true := by simp only [validRune, decide_eq_true_eq]; omega
    rw [hv, Go.Lib.encodeRuneZ_two (by omega) (by omega)]
    simp only [if_true, Int.toNat_natCast, if_neg h1, if_pos h2, List.map_cons, List.map_nil]
    rw [u8_of (n := 192 + n / 64) (by omega), u8_of (n := 128 + n % 64) (by omega)]
  by_cases h3 : n < 55296 ∨ (57343 < n ∧ n < 65536)
  · have hv : validRune (n : Int) = true := by simp only [validRune, decide_eq_true_eq]; omega
    rw [hv, Go.Lib.encodeRuneZ_three (by omega)]
    simp only [if_true, Int.toNat_natCast, if_neg h1, if_neg h2, if_pos (show n < 65536 by omega), List.map_cons, List.map_nil]
    rw [u8_of (n := 224 + n / 4096) (by omega), u8_of (n := 128 + n / 64 % 64) (by omega), u8_of (n := 128 + n % 64) (by omega)]
  by_cases h4 : 65536 ≤ n ∧ n ≤ 1114111
  · have hv : validRune (n : Int) = true := by simp only [validRune, decide_eq_true_eq]; omega
    rw [hv, Go.Lib.encodeRuneZ_four (by omega) (by omega)]
    simp only [if_true, Int.toNat_natCast, if_neg h1, if_neg h2, if_neg (show ¬ n < 65536 by omega), List.map_cons, List.map_nil]
    rw [u8_of (n := 240 + n / 262144) (by omega), u8_of (n := 128 + n / 4096 % 64) (by omega), u8_of (n := 128 + n / 64 % 64) (by omega), u8_of (n := 128 + n % 64) (by omega)]
  · have hv : validRune (n : Int) = false := by simp only [validRune, decide_eq_false_iff_not]; omega
    rw [hv, Go.Lib.encodeRuneZ_bad (by omega)]
    simp [Utf8.runeError]
    try decide
theorem at_decode (s : List UInt8) (pos : Nat) : utf8At s pos = decodeL (s.drop pos) := (Go.Lib.decodeL_drop ⟨⟨s⟩⟩ pos).symm
/-- a mark of a wrong letter that stands as it is laid is three bytes wide -/
theorem err_three {l : List UInt8} (h : l.take 3 = [239, 191, 189]) : decodeL l = (65533, 3) := by
  match l, h with
  | [], h => cases h
  | [_], h => cases h
  | [_, _], h => cases h
  | a :: b :: c :: r, h =>
    simp only [List.take_succ_cons, List.take_zero, List.cons.injEq, and_true] at h
    obtain ⟨rfl, rfl, rfl⟩ := h
    rw [Go.Lib.decodeL_N]
    simp [Go.Lib.decodeN]
def kG : List AItem := [.inLoop lp14_0, .inBlock 0, .code k14_0]
structure GI (s : List UInt8) (pos : Nat) (g : AHeap) (t : List Value) : Prop where
  lo : g.lo = 0
  it : g.at 0 = some (.siter s pos)
  hp : pos ≤ s.length
  t0 : tg t 0 = str s
  t3 : tg t 3 = iv pos
  t7 : tg t 7 = .pointer (some ⟨0, 0, some 0⟩)
theorem rv_err : abin .eql (rv 65533) (rv 65533) = some (.bool true) := by rw [rv_eql]; rfl
theorem str_neq {a b : List UInt8} : abin .neq (str a) (str b) = some (.bool (!decide (a = b))) := by
  simp [abin, str, abinS]
include TW in
theorem good_loop {s : List UInt8} (hs : s.length < 2 ^ 40) : ∀ (n pos : Nat) (g : AHeap) (t : List Value), GI s pos g t → s.length - pos < n → ∃ g', R C r14 kG t [] g = some (.bool (validD (s.drop pos)), g') := by
  intro n
  induction n with
  | zero => intro pos g t H h; omega
  | succ n ih =>
    intro pos g t H hn
    have hp := H.hp
    by_cases hlt : pos < s.length
    · have hy := nxV_yes H.it hlt (by rw [H.lo]; omega)
      have f : Fr g (g.put 0 (.siter s (pos + (utf8At s pos).2))) (fun j => j = 0) := Fr.put rfl
      have it1 : (g.put 0 (.siter s (pos + (utf8At s pos).2))).at 0 = some (.siter s (pos + (utf8At s pos).2)) := put_self (get_lt H.it)
      have lo1 := f.lo
      generalize g.put 0 (.siter s (pos + (utf8At s pos).2)) = g1 at *
      have hne : s.drop pos ≠ [] := by
        intro hc
        have := congrArg List.length hc
        rw [List.length_drop] at this; simp at this; omega
      have hstep := Go.Lib.validD_step (s.drop pos) hne
      have hle := Go.Lib.decodeL_le (s.drop pos) hne
      have hw1 := Go.Lib.decodeL_width (s.drop pos)
      have hed := Go.Lib.encode_decode (s.drop pos) hne
      have h3 := @err_three (s.drop pos)
      rw [at_decode] at hy it1
      rw [List.length_drop] at hle
      generalize (decodeL (s.drop pos)) = d at *
      obtain ⟨r, w⟩ := d
      simp only at *
      rw [← enc_rune] at hed
      unfold kG
      rw [R_open lp14_0.eq_1]
      by_cases hb : r = 65533 ∧ w = 1
      · rw [if_pos hb] at hstep
        obtain ⟨rfl, rfl⟩ := hb
        rw [hstep]
        have hr3 : rb 65533 = [239, 191, 189] := by rw [enc_rune]; decide
        have hl3 : ((([239, 191, 189] : List UInt8)).length) = 3 := rfl
        by_cases hg : s.length < pos + 3
        · simp [H.t7, hy, H.t3, r2V_rv, hr3, iv_add (a := pos) (b := 3) (by omega), H.t0, hg, r14]
        · have hsl : ∀ h, slcSv (str s) (some (some (pos : Int))) (some (some ((pos : Int) + 3))) h = some (str ((s.drop pos).take 3), h) := fun h => by
            have := slcSv_str (s := s) (h := h) (lo := some (pos : Int)) (hi := some ((pos : Int) + 3)) (l := pos) (u := pos + 3) rfl (by simp) (by omega) (by omega)
            rw [this]; congr 3; rw [Nat.add_sub_cancel_left]
          have hn3 : ¬ (s.drop pos).take 3 = [239, 191, 189] := fun hc => by
            have := h3 hc
            cases this
          simp [H.t7, hy, H.t3, r2V_rv, hr3, iv_add (a := pos) (b := 3) (by omega), H.t0, hg, hsl, str_neq, hn3, r14]
      · rw [if_neg hb] at hstep
        have hed := hed hb
        have hlen : (rb r).length = w := by rw [hed, List.length_take, List.length_drop]; omega
        rw [hstep, List.drop_drop]
        have H' : ∀ t', tg t' 0 = str s → tg t' 3 = iv (pos + w) → tg t' 7 = .pointer (some ⟨0, 0, some 0⟩) → ∃ g', R C r14 kG t' [] g1 = some (.bool (validD (s.drop (pos + w))), g') := fun t' x0 x3 x7 =>
          ih (pos + w) g1 t' ⟨by rw [lo1]; exact H.lo, it1, by omega, x0, x3, x7⟩ (by omega)
        unfold kG at H'
        by_cases he : r = 65533
        · subst he
          have hsl : ∀ h, slcSv (str s) (some (some (pos : Int))) (some (some ((pos : Int) + (w : Int)))) h = some (str (rb 65533), h) := fun h => by
            have := slcSv_str (s := s) (h := h) (lo := some (pos : Int)) (hi := some ((pos : Int) + (w : Int))) (l := pos) (u := pos + w) rfl (by simp) (by omega) (by omega)
            rw [this, Nat.add_sub_cancel_left, hed]
          simp [H.t7, hy, H.t3, r2V_rv, hlen, iv_add (a := pos) (b := w) (by omega), H.t0, show ¬ s.length < pos + w by omega, hsl, str_neq]
          exact H' _ (by simp [tg_ts, H.t0]) (by simp [tg_ts]) (by simp [tg_ts, H.t7])
        · generalize hrs : rb r = rs at *
          simp [H.t7, hy, H.t3, r2V_rv, hrs, hlen, iv_add (a := pos) (b := w) (by omega), H.t0, he]
          exact H' _ (by simp [tg_ts, H.t0]) (by simp [tg_ts]) (by simp [tg_ts, H.t7])
    · have hy := nxV_no H.it hlt
      have : pos = s.length := by omega
      subst this
      rw [List.drop_length]
      refine ⟨g, ?_⟩
      unfold kG
      rw [R_open lp14_0.eq_1]
      simp [H.t7, hy, H.t3, H.t0, k14_0, r14]
      rfl
include TW in
theorem isgood_spec {s : List UInt8} (hs : s.length < 2 ^ 40) (h : AHeap) : D C 14 [str s] h = some (.bool (validD s), h) := by
  rw [D_fn3 TW.h14 _ (by simp)]
  have hI : ∀ t, tg t 0 = str s → tg t 3 = iv 0 → tg t 7 = .pointer (some ⟨0, 0, some 0⟩) → pur (R C r14 kG t [] ⟨[.siter s 0], 0⟩) h = some (.bool (validD s), h) := fun t t0 t3 t7 => by
    obtain ⟨g', e⟩ := good_loop TW hs (s.length + 1) 0 ⟨[.siter s 0], 0⟩ t ⟨rfl, rfl, by omega, t0, t3, t7⟩ (by omega)
    rw [e, pur_ok (by simp)]; rfl
  simp [b14, AHeap.push]
  exact hI _ (by simp [tg_ts]) (by simp [tg_ts]) (by simp [tg_ts])
end Go.Ab.Aud
