/-
  Steps of the proof of AuditProvesCardSaid: what functions of the program do in the abstract machine, and the laws between; no condition beside those that each theorem names.
-/
import Derived.Test.YtecbgdnoblhldaaGreatDoorAuA
import Derived.Test.YtecbgdnoblhldaaGreatDoorAbD
import Derived.Test.YtecbgdnoblhldaaGreatDoorLit

set_option linter.unusedSimpArgs false
set_option linter.unusedVariables false
set_option linter.unusedSectionVars false

namespace Go.Ab.Aud
open Go.Sha
def lenBits (x : Nat) : Nat := if x = 0 then 0 else Nat.log2 x + 1
theorem lenBits_shift {x k : Nat} (h : 2 ^ k ≤ x) : lenBits x = k + lenBits (x / 2 ^ k) := by
  have hp : 0 < 2 ^ k := Nat.two_pow_pos k
  have hx : x ≠ 0 := by omega
  have hd : 0 < x / 2 ^ k := Nat.div_pos h hp
  unfold lenBits
  rw [if_neg hx, if_neg (by omega)]
  suffices hs : Nat.log2 x = k + Nat.log2 (x / 2 ^ k) by omega
  have h1 := Nat.log2_self_le (n := x / 2 ^ k) (by omega)
  have h2 := Nat.lt_log2_self (n := x / 2 ^ k)
  have hle : k + Nat.log2 (x / 2 ^ k) ≤ Nat.log2 x := by
    rw [Nat.le_log2 hx, Nat.pow_add, Nat.mul_comm]
    exact Nat.le_trans (Nat.mul_le_mul_right _ h1) (Nat.div_mul_le_self x (2 ^ k))
  have hlt : Nat.log2 x < k + Nat.log2 (x / 2 ^ k) + 1 := by
    rw [Nat.log2_lt hx]
    have : x < (x / 2 ^ k + 1) * 2 ^ k := by
      have := Nat.div_add_mod x (2 ^ k)
      have := Nat.mod_lt x hp
      rw [Nat.add_mul, Nat.mul_comm (x / 2 ^ k)]; omega
    have h3 : (x / 2 ^ k + 1) * 2 ^ k ≤ 2 ^ (Nat.log2 (x / 2 ^ k) + 1) * 2 ^ k := Nat.mul_le_mul_right _ h2
    rw [show k + Nat.log2 (x / 2 ^ k) + 1 = (Nat.log2 (x / 2 ^ k) + 1) + k from by omega, Nat.pow_add]
    omega
  omega
/-- the greatest power of 2 below n -/
def lft (n : Nat) : Nat := 2 ^ Nat.log2 (n - 1)
theorem lft_lt {n : Nat} (h : 2 ≤ n) : lft n < n := by
  have := Nat.log2_self_le (n := n - 1) (by omega)
  unfold lft; omega
theorem lft_pos {n : Nat} : 0 < lft n := Nat.two_pow_pos _
theorem lft_ge {n : Nat} (h : 2 ≤ n) : n ≤ 2 * lft n := by
  have := Nat.lt_log2_self (n := n - 1)
  unfold lft
  rw [Nat.pow_succ] at this; omega
variable {C : Ctx} (T : Tab_LLog C)
def lenTab : List UInt8 := (List.range 256).map fun x => UInt8.ofNat (lenBits x)
set_option maxRecDepth 100000 in
theorem lenTab_lit : lenTab = [0, 1, 2, 2, 3, 3, 3, 3, 4, 4, 4, 4, 4, 4, 4, 4, 5, 5, 5, 5, 5, 5, 5, 5, 5, 5, 5, 5, 5, 5, 5, 5, 6, 6, 6, 6, 6, 6, 6, 6, 6, 6, 6, 6, 6, 6, 6, 6, 6, 6, 6, 6, 6, 6, 6, 6, 6, 6, 6, 6, 6, 6, 6, 6, 7, 7, 7, 7, 7, 7, 7, 7, 7, 7, 7, 7, 7, 7, 7, 7, 7, 7, 7, 7, 7, 7, 7, 7, 7, 7, 7, 7, 7, 7, 7, 7, 7, 7, 7, 7, 7, 7, 7, 7, 7, 7, 7, 7, 7, 7, 7, 7, 7, 7, 7, 7, 7, 7, 7, 7, 7, 7, 7, 7, 7, 7, 7, 7, 8, 8, 8, 8, 8, 8, 8, 8, 8, 8, 8, 8, 8, 8, 8, 8, 8, 8, 8, 8, 8, 8, 8, 8, 8, 8, 8, 8, 8, 8, 8, 8, 8, 8, 8, 8, 8, 8, 8, 8, 8, 8, 8, 8, 8, 8, 8, 8, 8, 8, 8, 8, 8, 8, 8, 8, 8, 8, 8, 8, 8, 8, 8, 8, 8, 8, 8, 8, 8, 8, 8, 8, 8, 8, 8, 8, 8, 8, 8, 8, 8, 8, 8, 8, 8, 8, 8, 8, 8, 8, 8, 8, 8, 8, 8, 8, 8, 8, 8, 8, 8, 8, 8, 8, 8, 8, 8, 8, 8, 8, 8, 8, 8, 8, 8, 8, 8, 8, 8, 8, 8, 8, 8, 8, 8, 8, 8, 8] := by decide
theorem lenTab_get {x : Nat} (h : x < 256) : lenTab[x]? = some (UInt8.ofNat (lenBits x)) := by
  unfold lenTab
  rw [List.getElem?_map, List.getElem?_range h]; rfl
theorem lenBits_le {x : Nat} (h : x < 256) : lenBits x ≤ 8 := by
  unfold lenBits
  split
  · omega
  · have := (Nat.log2_lt (n := x) (k := 8) (by omega)).2 (by omega)
    omega
include T
set_option maxRecDepth 100000 in
set_option maxHeartbeats 4000000 in
theorem len64_spec (x : Nat) (hx : x < 18446744073709551616) (h : AHeap) : D C 106 [uv x] h = some (iv (lenBits x), h) := by
  rw [D_fn3 T.h106 _ (by simp)]
  have key : ∀ y, y < 256 → ∀ l : List UInt8, l = lenTab → ixT (.string ⟨⟨l⟩⟩) (bv (UInt8.ofNat y)) = some (bv (UInt8.ofNat (lenBits y))) := by
    intro y hy l hl
    have e : (UInt8.ofNat y).toNat = y := by simp; omega
    unfold ixT bv
    simp only [e, Int.toNat_natCast, hl, lenTab_get hy]
    rw [if_pos (by omega)]
  have c2 : ∀ y, y < 256 → (UInt8.ofNat (lenBits y)).toNat = lenBits y := fun y hy => by have := lenBits_le hy; simp; omega
  have q32 : 4294967296 ≤ x → lenBits x = 32 + lenBits (x / 4294967296) := fun h => lenBits_shift (k := 32) h
  have q16 : ∀ x, 65536 ≤ x → lenBits x = 16 + lenBits (x / 65536) := fun x h => lenBits_shift (k := 16) h
  have q8 : ∀ x, 256 ≤ x → lenBits x = 8 + lenBits (x / 256) := fun x h => lenBits_shift (k := 8) h
  have s32 : abin .shr (uv x) (uv 32) = some (uv (x / 4294967296)) := uv_shr (by omega)
  have s16 : ∀ y, abin .shr (uv y) (uv 16) = some (uv (y / 65536)) := fun y => uv_shr (by omega)
  have s8 : ∀ y, abin .shr (uv y) (uv 8) = some (uv (y / 256)) := fun y => uv_shr (by omega)
  have adds : ∀ a b, a ≤ 64 → b ≤ 64 → abin .add (iv a) (iv b) = some (iv (a + b)) := fun a b _ _ => iv_add (by omega)
  have main : ∃ y n, y < 256 ∧ n ≤ 56 ∧ lenBits x = n + lenBits y ∧ R C r106 [.code b106] [uv x] [] { bs := [], lo := 0 } = some (iv (n + lenBits y), { bs := [], lo := 0 }) := by
    by_cases h32 : 4294967296 ≤ x
    · by_cases h16 : 65536 ≤ x / 4294967296
      · by_cases h8 : 256 ≤ x / 4294967296 / 65536
        · refine ⟨x / 4294967296 / 65536 / 256, 56, by omega, by omega, by rw [q32 h32, q16 _ h16, q8 _ h8] <;> omega, ?_⟩
          have k1 := key (x / 4294967296 / 65536 / 256) (by omega) _ rfl
          simp only [lenTab_lit] at k1
          have k2 := c2 (x / 4294967296 / 65536 / 256) (by omega)
          have k3 := lenBits_le (x := x / 4294967296 / 65536 / 256) (by omega)
          simp [b106, h32, s32, h16, s16, h8, s8, adds, k1, k2, iv_add, r106]
          try (rw [adds _ _ (by omega) (by omega)]; simp [r106])
        · refine ⟨x / 4294967296 / 65536, 48, by omega, by omega, by rw [q32 h32, q16 _ h16] <;> omega, ?_⟩
          have k1 := key (x / 4294967296 / 65536) (by omega) _ rfl
          simp only [lenTab_lit] at k1
          have k2 := c2 (x / 4294967296 / 65536) (by omega)
          have k3 := lenBits_le (x := x / 4294967296 / 65536) (by omega)
          simp [b106, h32, s32, h16, s16, h8, s8, adds, k1, k2, iv_add, r106]
          try (rw [adds _ _ (by omega) (by omega)]; simp [r106])
      · by_cases h8 : 256 ≤ x / 4294967296
        · refine ⟨x / 4294967296 / 256, 40, by omega, by omega, by rw [q32 h32, q8 _ h8] <;> omega, ?_⟩
          have k1 := key (x / 4294967296 / 256) (by omega) _ rfl
          simp only [lenTab_lit] at k1
          have k2 := c2 (x / 4294967296 / 256) (by omega)
          have k3 := lenBits_le (x := x / 4294967296 / 256) (by omega)
          simp [b106, h32, s32, h16, s16, h8, s8, adds, k1, k2, iv_add, r106]
          try (rw [adds _ _ (by omega) (by omega)]; simp [r106])
        · refine ⟨x / 4294967296, 32, by omega, by omega, by rw [q32 h32] <;> omega, ?_⟩
          have k1 := key (x / 4294967296) (by omega) _ rfl
          simp only [lenTab_lit] at k1
          have k2 := c2 (x / 4294967296) (by omega)
          have k3 := lenBits_le (x := x / 4294967296) (by omega)
          simp [b106, h32, s32, h16, s16, h8, s8, adds, k1, k2, iv_add, r106]
          try (rw [adds _ _ (by omega) (by omega)]; simp [r106])
    · by_cases h16 : 65536 ≤ x
      · by_cases h8 : 256 ≤ x / 65536
        · refine ⟨x / 65536 / 256, 24, by omega, by omega, by rw [q16 _ h16, q8 _ h8] <;> omega, ?_⟩
          have k1 := key (x / 65536 / 256) (by omega) _ rfl
          simp only [lenTab_lit] at k1
          have k2 := c2 (x / 65536 / 256) (by omega)
          have k3 := lenBits_le (x := x / 65536 / 256) (by omega)
          simp [b106, h32, s32, h16, s16, h8, s8, adds, k1, k2, iv_add, r106]
          try (rw [adds _ _ (by omega) (by omega)]; simp [r106])
        · refine ⟨x / 65536, 16, by omega, by omega, by rw [q16 _ h16] <;> omega, ?_⟩
          have k1 := key (x / 65536) (by omega) _ rfl
          simp only [lenTab_lit] at k1
          have k2 := c2 (x / 65536) (by omega)
          have k3 := lenBits_le (x := x / 65536) (by omega)
          simp [b106, h32, s32, h16, s16, h8, s8, adds, k1, k2, iv_add, r106]
          try (rw [adds _ _ (by omega) (by omega)]; simp [r106])
      · by_cases h8 : 256 ≤ x
        · refine ⟨x / 256, 8, by omega, by omega, by rw [q8 _ h8] <;> omega, ?_⟩
          have k1 := key (x / 256) (by omega) _ rfl
          simp only [lenTab_lit] at k1
          have k2 := c2 (x / 256) (by omega)
          have k3 := lenBits_le (x := x / 256) (by omega)
          simp [b106, h32, s32, h16, s16, h8, s8, adds, k1, k2, iv_add, r106]
          try (rw [adds _ _ (by omega) (by omega)]; simp [r106])
        · refine ⟨x, 0, by omega, by omega, by omega, ?_⟩
          have k1 := key (x) (by omega) _ rfl
          simp only [lenTab_lit] at k1
          have k2 := c2 (x) (by omega)
          have k3 := lenBits_le (x := x) (by omega)
          simp [b106, h32, s32, h16, s16, h8, s8, adds, k1, k2, iv_add, r106]
          try (rw [adds _ _ (by omega) (by omega)]; simp [r106])
  obtain ⟨y, n, hy, hn, e1, e2⟩ := main
  rw [e2, e1]
  simp
theorem left_spec (n : Nat) (h2 : 2 ≤ n) (hn : n < 18446744073709551616) (h : AHeap) : D C 56 [uv n] h = some (uv (lft n), h) := by
  rw [D_fn3 T.h56 _ (by simp)]
  have hl : lenBits (n - 1) = Nat.log2 (n - 1) + 1 := by unfold lenBits; rw [if_neg (by omega)]
  have hlt := (Nat.log2_lt (n := n - 1) (k := 64) (by omega)).2 (by omega)
  have e1 := len64_spec T (n - 1) (by omega)
  rw [hl] at e1
  have e2 : abin .shl (uv 1) (iv (Nat.log2 (n - 1))) = some (uv (lft n)) := by
    have hp : 2 ^ Nat.log2 (n - 1) < 2 ^ 64 := Nat.pow_lt_pow_right (by omega) hlt
    rw [uv_shli hlt (by omega)]; simp [lft]
  simp [b56, uv_sub (a := n) (b := 1) (by omega) hn, Dc_ok, e1, iv_sub (a := Nat.log2 (n - 1) + 1) (b := 1) (by omega) (by omega), e2, r56]
end Go.Ab.Aud

namespace Go.Ab.Aud
open Go.Sha
def nodeL (a b : List UInt8) : List UInt8 := sha (1 :: (a ++ b))
/-- the root of leaves -/
def rootF : Nat → List (List UInt8) → List UInt8
  | 0, _ => sha []
  | f + 1, l => match l with
    | [] => sha []
    | [x] => x
    | l => nodeL (rootF f (l.take (lft l.length))) (rootF f (l.drop (lft l.length)))
def rootL (l : List (List UInt8)) : List UInt8 := rootF l.length l
theorem rootF_two {f : Nat} {l : List (List UInt8)} (h : 2 ≤ l.length) : rootF (f + 1) l = nodeL (rootF f (l.take (lft l.length))) (rootF f (l.drop (lft l.length))) := by
  match l, h with
  | a :: b :: r, _ => rfl
theorem rootF_eq : ∀ (f g : Nat) (l : List (List UInt8)), l.length ≤ f → l.length ≤ g → rootF f l = rootF g l := by
  intro f
  induction f with
  | zero =>
    intro g l h1 h2
    have : l = [] := List.eq_nil_of_length_eq_zero (by omega)
    subst this
    cases g <;> rfl
  | succ f ih =>
    intro g l h1 h2
    cases g with
    | zero =>
      have : l = [] := List.eq_nil_of_length_eq_zero (by omega)
      subst this; rfl
    | succ g =>
      by_cases h : 2 ≤ l.length
      · rw [rootF_two h, rootF_two h]
        have := lft_lt h
        have := lft_pos (n := l.length)
        rw [ih g _ (by simp; omega) (by simp; omega), ih g _ (by simp; omega) (by simp; omega)]
      · match l, h with
        | [], _ => rfl
        | [x], _ => rfl
        | _ :: _ :: _, h => simp at h
theorem rootL_two {l : List (List UInt8)} (h : 2 ≤ l.length) : rootL l = nodeL (rootL (l.take (lft l.length))) (rootL (l.drop (lft l.length))) := by
  obtain ⟨f, hf⟩ : ∃ f, l.length = f + 1 := ⟨l.length - 1, by omega⟩
  have h1 := lft_lt h
  have h2 := lft_pos (n := l.length)
  unfold rootL
  rw [hf, rootF_two h]
  rw [hf] at h1 h2 ⊢
  congr 1
  · exact rootF_eq f _ _ (by rw [List.length_take]; omega) (Nat.le_refl _)
  · exact rootF_eq f _ _ (by rw [List.length_drop]; omega) (Nat.le_refl _)
theorem rootL_length (l : List (List UInt8)) (h : ∀ x, x ∈ l → x.length = 32) : (rootL l).length = 32 := by
  by_cases h2 : 2 ≤ l.length
  · rw [rootL_two h2]; rfl
  · match l, h2 with
    | [], _ => rfl
    | [x], _ => exact h x (by simp)
    | _ :: _ :: _, h => simp at h
theorem leafCells_len {l : List (List UInt8)} (h : ∀ x, x ∈ l → x.length = 32) : (leafCells l).length = l.length * 32 := by
  induction l with
  | nil => rfl
  | cons a l ih =>
    have := ih fun x hx => h x (by simp [hx])
    simp only [leafCells, List.flatMap_cons, List.length_append, bytes_len, List.length_cons] at this ⊢
    rw [h a (by simp), this]; omega
theorem leafCells_drop {l : List (List UInt8)} (h : ∀ x, x ∈ l → x.length = 32) (i : Nat) : (leafCells l).drop (i * 32) = leafCells (l.drop i) := by
  induction i generalizing l with
  | zero => simp
  | succ i ih =>
    cases l with
    | nil => simp [leafCells]
    | cons a l =>
      have ha := h a (by simp)
      have : leafCells (a :: l) = bytesVals a ++ leafCells l := rfl
      rw [this, List.drop_append, List.drop_of_length_le (by simp [ha]; omega), List.nil_append, List.drop_succ_cons, ← ih fun x hx => h x (by simp [hx])]
      congr 1
      simp [ha]; omega
theorem leafCells_take {l : List (List UInt8)} (h : ∀ x, x ∈ l → x.length = 32) (i : Nat) : (leafCells l).take (i * 32) = leafCells (l.take i) := by
  induction i generalizing l with
  | zero => simp [leafCells]
  | succ i ih =>
    cases l with
    | nil => simp [leafCells]
    | cons a l =>
      have ha := h a (by simp)
      have : leafCells (a :: l) = bytesVals a ++ leafCells l := rfl
      have e2 : leafCells (a :: l.take i) = bytesVals a ++ leafCells (l.take i) := rfl
      rw [this, List.take_append, List.take_of_length_le (by simp [ha]; omega), List.take_succ_cons, e2, ← ih fun x hx => h x (by simp [hx])]
      congr 2
      simp [ha]; omega
theorem mem_take32 {l : List (List UInt8)} (h : ∀ x, x ∈ l → x.length = 32) (i : Nat) : ∀ x, x ∈ l.take i → x.length = 32 := fun x hx => h x (List.mem_of_mem_take hx)
theorem mem_drop32 {l : List (List UInt8)} (h : ∀ x, x ∈ l → x.length = 32) (i : Nat) : ∀ x, x ∈ l.drop i → x.length = 32 := fun x hx => h x (List.mem_of_mem_drop hx)
variable {C : Ctx} (T : Tab_LLog C) (TD : Tab_LDig C) (hk : ∀ j, j < 64 → C.old 0 j = some (wv (kW j)))
/-- a row of digests -/
def DigR (old : Old) (h : AHeap) (a : Option Addr) (cp : Nat) (l : List (List UInt8)) : Prop := SlR old h 32 (.slice a l.length cp) (leafCells l) ∧ (∀ x, x ∈ l → x.length = 32)
/-- the two parts of a row -/
theorem DigR.lower {old : Old} {h : AHeap} {a : Option Addr} {cp : Nat} {l : List (List UInt8)} (H : DigR old h a cp l) (k : Nat) (hk : k ≤ l.length) :
    ∃ a' cp', sliceV h 32 (.slice a l.length cp) none (some (k : Int)) none = some (.slice a' k cp') ∧ DigR old h a' cp' (l.take k) ∧ (∀ j, Live (.slice a' k cp') j → Live (.slice a l.length cp) j) := by
  obtain ⟨a', cp', e, s, lv⟩ := H.1.part (lo := none) (hi := some (k : Int)) (l := 0) (u := k) rfl rfl (by omega) hk
  simp only [Nat.sub_zero, Nat.zero_mul, List.drop_zero] at e s lv
  rw [leafCells_take H.2] at s
  have hl : (l.take k).length = k := by simp; omega
  refine ⟨a', cp', e, ⟨?_, mem_take32 H.2 k⟩, lv⟩
  rw [hl]; exact s
theorem DigR.upper {old : Old} {h : AHeap} {a : Option Addr} {cp : Nat} {l : List (List UInt8)} (H : DigR old h a cp l) (k : Nat) (hk : k ≤ l.length) :
    ∃ a' cp', sliceV h 32 (.slice a l.length cp) (some (k : Int)) none none = some (.slice a' (l.length - k) cp') ∧ DigR old h a' cp' (l.drop k) ∧ (∀ j, Live (.slice a' (l.length - k) cp') j → Live (.slice a l.length cp) j) := by
  obtain ⟨a', cp', e, s, lv⟩ := H.1.part (lo := some (k : Int)) (hi := none) (l := k) (u := l.length) rfl rfl hk (by omega)
  rw [leafCells_drop H.2, List.take_of_length_le (by rw [leafCells_len (mem_drop32 H.2 k)]; simp)] at s
  refine ⟨a', cp', e, ⟨?_, mem_drop32 H.2 k⟩, lv⟩
  rw [List.length_drop]; exact s
theorem DigR.fr {old : Old} {h h' : AHeap} {a : Option Addr} {cp : Nat} {l : List (List UInt8)} {S : Nat → Prop} (H : DigR old h a cp l) (f : Fr h h' S) (hn : ∀ j, Live (.slice a l.length cp) j → ¬ S j) : DigR old h' a cp l := ⟨H.1.fr f hn, H.2⟩
include T TD hk
theorem root_zero (h : AHeap) (a : Option Addr) (cp : Nat) : D C 68 [.slice a 0 cp] h = some (.agg ⟨bytesVals (sha [])⟩, h) := by
  rw [D_fn2 T.h68]
  generalize hh0 : ({ h with lo := h.bs.length } : AHeap) = h0
  have h0lo : h0.lo = h0.bs.length := by rw [← hh0]
  generalize hZ : ABlock.cells (List.replicate 32 (bv 0)) 31 = Z
  have hZ0 := hZ
  simp [List.replicate] at hZ
  have hz : Value.int .u8 0 = bv 0 := rfl
  have z1 : (h0.push Z).at h0.bs.length = some Z := push_self
  have w1 := lay32 (sha_length [])
  rw [hZ0] at w1
  have e1 := dsum_spec TD hk (h0.push Z) [] none 0 0 ⟨rfl, rfl, rfl⟩ (by omega)
  simp [b68, hz, hZ, Dc_ok, e1, writeN_wr, h0lo, z1, w1, sha_length, r68, resV, put_self, rd32 (sha_length _), flat_bytes]
set_option maxHeartbeats 2000000 in
theorem root_spec : ∀ (f : Nat) (l : List (List UInt8)), l.length ≤ f → ∀ (h : AHeap) (a : Option Addr) (cp : Nat), DigR C.old h a cp l → l.length < 2 ^ 40 → D C 68 [.slice a l.length cp] h = some (.agg ⟨bytesVals (rootL l)⟩, h) := by
  intro f
  induction f with
  | zero =>
    intro l hl h a cp H hlt
    have : l = [] := List.eq_nil_of_length_eq_zero (by omega)
    subst this
    exact root_zero T TD hk h a cp
  | succ f ih =>
    intro l hl h a cp H hlt
    rw [D_fn2 T.h68]
    generalize hh0 : ({ h with lo := h.bs.length } : AHeap) = h0
    have h0lo : h0.lo = h0.bs.length := by rw [← hh0]
    have H0 : DigR C.old h0 a cp l := by rw [← hh0]; exact ⟨H.1.lo, H.2⟩
    generalize hZ : ABlock.cells (List.replicate 32 (bv 0)) 31 = Z
    have hZ0 := hZ
    simp [List.replicate] at hZ
    have hz : Value.int .u8 0 = bv 0 := rfl
    have f1 : Fr h0 (h0.push Z) (fun _ => False) := Fr.push
    have H1 := H0.fr f1 (fun _ _ h => h)
    have z1 : (h0.push Z).at h0.bs.length = some Z := push_self
    have w1 := lay32 (rootL_length l H.2)
    rw [hZ0] at w1
    by_cases h0l : l.length = 0
    · have : l = [] := List.eq_nil_of_length_eq_zero (by omega)
      subst this
      have := root_zero T TD hk h a cp
      rw [D_fn2 T.h68, hh0] at this
      exact this
    · by_cases h1l : l.length = 1
      · obtain ⟨x, rfl⟩ : ∃ x, l = [x] := by
          match l, h1l with
          | [x], _ => exact ⟨x, rfl⟩
        obtain ⟨a, rfl⟩ := H1.1.ex (by simp)
        have hx : x.length = 32 := H.2 x (by simp)
        have hrd : readN C.old (h0.push Z) a 32 = some (bytesVals x) := by
          have := H1.1.read (by simp)
          simpa [leafCells] using this
        have hr : rootL [x] = x := rfl
        rw [hr] at w1 ⊢
        simp [b68, hz, hZ, ixS_iv, adda_zero, hrd, writeN_wr, h0lo, z1, w1, hx, r68, resV, put_self, rd32 hx, flat_bytes]
      · have h2 : 2 ≤ l.length := by omega
        have k1 := lft_lt h2
        have k0 := lft_pos (n := l.length)
        have e1 := left_spec T l.length h2 (by omega)
        obtain ⟨a1, cp1, e2, s2, _⟩ := H1.lower (lft l.length) (by omega)
        obtain ⟨a2, cp2, e3, s3, _⟩ := H1.upper (lft l.length) (by omega)
        have r1 := ih (l.take (lft l.length)) (by simp; omega) (h0.push Z) a1 cp1 s2 (by simp; omega)
        have r2 := ih (l.drop (lft l.length)) (by simp; omega) (h0.push Z) a2 cp2 s3 (by simp; omega)
        have hl1 : (l.take (lft l.length)).length = lft l.length := by simp; omega
        rw [hl1] at r1
        rw [List.length_drop] at r2
        have r3 := node_spec TD hk (h0.push Z) (rootL (l.take (lft l.length))) (rootL (l.drop (lft l.length))) (rootL_length _ (mem_take32 H.2 _)) (rootL_length _ (mem_drop32 H.2 _))
        rw [rootL_two h2] at w1 ⊢
        unfold nodeL at w1 ⊢
        simp [b68, hz, hZ, h0l, h1l, cvt_iu (show l.length < 18446744073709551616 by omega), Dc_ok, e1, e2, e3, r1, r2, r3, writeN_wr, h0lo, z1, w1, sha_length, r68, resV, put_self, rd32 (sha_length _), flat_bytes]
end Go.Ab.Aud

namespace Go.Ab.Aud
open Go.Sha
/-- the path of a number -/
def pathF : Nat → List (List UInt8) → Nat → List (List UInt8)
  | 0, _, _ => []
  | f + 1, l, n => if l.length ≤ 1 then [] else
      if n < lft l.length then pathF f (l.take (lft l.length)) n ++ [rootL (l.drop (lft l.length))] else pathF f (l.drop (lft l.length)) (n - lft l.length) ++ [rootL (l.take (lft l.length))]
theorem pathF_32 : ∀ (f : Nat) (l : List (List UInt8)) (n : Nat), (∀ x, x ∈ l → x.length = 32) → ∀ x, x ∈ pathF f l n → x.length = 32
  | 0, _, _, _, x, hx => by cases hx
  | f + 1, l, n, h, x, hx => by
    unfold pathF at hx
    split at hx
    · cases hx
    · split at hx
      · rcases List.mem_append.1 hx with hx | hx
        · exact pathF_32 f _ n (mem_take32 h _) x hx
        · rw [List.mem_singleton.1 hx]; exact rootL_length _ (mem_drop32 h _)
      · rcases List.mem_append.1 hx with hx | hx
        · exact pathF_32 f _ _ (mem_drop32 h _) x hx
        · rw [List.mem_singleton.1 hx]; exact rootL_length _ (mem_take32 h _)
theorem pathF_len : ∀ (f : Nat) (l : List (List UInt8)) (n : Nat), (pathF f l n).length ≤ f
  | 0, _, _ => by simp [pathF]
  | f + 1, l, n => by
    unfold pathF
    split
    · simp
    · split
      · have := pathF_len f (l.take (lft l.length)) n; simp; omega
      · have := pathF_len f (l.drop (lft l.length)) (n - lft l.length); simp; omega
/-- a row of digests that was built -/
def DigO (h : AHeap) (v : Value) (l : List (List UInt8)) : Prop := Own h 30 32 v l.length (leafCells l) ∧ (∀ x, x ∈ l → x.length = 32)
theorem DigO.digR {old : Old} {h : AHeap} {v : Value} {l : List (List UInt8)} (H : DigO h v l) : ∃ a cp, v = .slice a l.length cp ∧ DigR old h a cp l := by
  obtain ⟨a, cp, rfl⟩ := H.1.slice
  exact ⟨a, cp, rfl, H.1.sl (by omega), H.2⟩
theorem DigO.fr {h h' : AHeap} {v : Value} {l : List (List UInt8)} {S : Nat → Prop} (H : DigO h v l) (f : Fr h h' S) (hn : ∀ j, blkOf v = some j → ¬ S j) : DigO h' v l := ⟨H.1.fr f hn, H.2⟩
/-- one more -/
theorem dig_append {old : Old} {h : AHeap} {v : Value} {l : List (List UInt8)} {x : List UInt8} (H : DigO h v l) (hx : x.length = 32) (hl : l.length < 2 ^ 30) (hwf : h.lo ≤ h.bs.length) :
    ∃ v' h', appendV old (h.push (.cells (bytesVals x) 31)) 30 32 32 v (.slice (some ⟨h.bs.length, 0, some 0⟩) 1 1) = some (v', h') ∧ DigO h' v' (l ++ [x]) ∧ Fr h h' (fun j => blkOf v = some j) ∧ (blkOf v' = blkOf v ∨ ∃ j, blkOf v' = some j ∧ h.bs.length ≤ j) := by
  have f1 : Fr h (h.push (.cells (bytesVals x) 31)) (fun _ => False) := Fr.push
  obtain ⟨v', h2, e, o, f, b⟩ := append_own (old := old) (bytes := 32) (x := .slice (some ⟨h.bs.length, 0, some 0⟩) 1 1) (m := 1) (new := bytesVals x) (H.1.fr f1 fun _ _ h => h) (by omega) rfl
    (fun _ => by simp only [srcCells]; rw [readN_rd, push_self]; exact rd32 hx) (fun h => by cases h) (by simp [hx]) bytes_ok (by simp [sizeLim]; omega) (by simp; omega)
  refine ⟨v', h2, e, ⟨?_, fun y hy => ?_⟩, f1.trans f (fun _ h => h.elim) (fun _ h _ => h), b.imp_right fun h => ⟨_, h, by simp⟩⟩
  · have hc : leafCells (l ++ [x]) = leafCells l ++ bytesVals x := by simp [leafCells]
    rw [List.length_append, hc]; exact o
  · rcases List.mem_append.1 hy with hy | hy
    · exact H.2 y hy
    · rw [List.mem_singleton.1 hy]; exact hx
variable {C : Ctx} (T : Tab_LLog C) (TD : Tab_LDig C) (hk : ∀ j, j < 64 → C.old 0 j = some (wv (kW j)))
include T TD hk
set_option maxHeartbeats 2000000 in
theorem path_spec : ∀ (f : Nat) (l : List (List UInt8)) (n : Nat), l.length ≤ f → 1 ≤ l.length → n < l.length → f < 2 ^ 29 → ∀ (h : AHeap) (a : Option Addr) (cp : Nat), DigR C.old h a cp l → h.lo ≤ h.bs.length →
    ∃ h' v, D C 69 [.slice a l.length cp, uv n] h = some (v, h') ∧ DigO h' v (pathF f l n) ∧ Fr h h' (fun _ => False) ∧ (∀ j, blkOf v = some j → h.bs.length ≤ j) := by
  intro f
  induction f with
  | zero => intro l n hl h1; omega
  | succ f ih =>
    intro l n hl h1 hn hf h a cp H hwf
    rw [D_fn T.h69]
    unfold pathF
    by_cases h1l : l.length = 1
    · rw [if_pos (by omega)]
      refine ⟨h, .slice none 0 0, ?_, ⟨.nil, fun x hx => by cases hx⟩, Fr.refl _ _, fun j hj => by cases hj⟩
      simp [b69, h1l, r69]
    · rw [if_neg (by omega)]
      have h2 : 2 ≤ l.length := by omega
      have k1 := lft_lt h2
      have k0 := lft_pos (n := l.length)
      have e1 := left_spec T l.length h2 (by omega)
      obtain ⟨a1, cp1, e2, s2, v2⟩ := H.lower (lft l.length) (by omega)
      obtain ⟨a2, cp2, e3, s3, v3⟩ := H.upper (lft l.length) (by omega)
      have hl1 : (l.take (lft l.length)).length = lft l.length := by simp; omega
      have hl2 : (l.drop (lft l.length)).length = l.length - lft l.length := by simp
      have hz : Value.int .u8 0 = bv 0 := rfl
      by_cases hlt : n < lft l.length
      · rw [if_pos hlt]
        obtain ⟨h3, v, r1, o1, f1, b1⟩ := ih (l.take (lft l.length)) n (by omega) (by omega) (by omega) (by omega) h a1 cp1 s2 hwf
        have H3 := H.fr f1 (fun _ _ h => h)
        have e3' := sliceV_same (lo := some ((lft l.length : Nat) : Int)) (hi := none) (mx := none) H.1 H3.1
        have s3' := s3.fr f1 (fun _ _ h => h)
        have r2 := root_spec T TD hk f (l.drop (lft l.length)) (by omega) h3 a2 cp2 s3' (by omega)
        have rl := rootL_length _ (mem_drop32 H.2 (lft l.length))
        rw [hl1] at r1
        rw [hl2] at r2
        have l3 := f1.len
        have lo3 := f1.lo
        obtain ⟨v', h4, e4, o4, f4, b4⟩ := dig_append (old := C.old) o1 rl (by have := pathF_len f (l.take (lft l.length)) n; omega) (by omega)
        have z2 : splice (List.replicate 32 (bv 0)) 0 (bytesVals (rootL (l.drop (lft l.length)))) = bytesVals (rootL (l.drop (lft l.length))) := by simp [splice, rl]
        simp [List.replicate] at z2
        have okd : ∀ x, x ∈ bytesVals (rootL (l.drop (lft l.length))) → okCell x = true := fun x hx => List.all_eq_true.1 bytes_ok x hx
        have okd' := eq_true okd
        refine ⟨h4, v', ?_, o4, f1.trans f4 (fun _ h => h) (fun j hj hl => by have := b1 j hj; omega), fun j hj => ?_⟩
        · simp [b69, h1l, cvt_iu (show l.length < 18446744073709551616 by omega), Dc_ok, e1, hlt, e2, e3, e3', r1, r2, stp_ok o1.1.und, o1.1.und, hz, fillCells, z2, okd', rl, e4, stp_ok o4.1.und, o4.1.und, r69]
        · rcases b4 with b4 | ⟨i, b4, b4'⟩
          · rw [b4] at hj; exact b1 j hj
          · rw [b4] at hj; cases hj; omega
      · rw [if_neg hlt]
        obtain ⟨h3, v, r1, o1, f1, b1⟩ := ih (l.drop (lft l.length)) (n - lft l.length) (by omega) (by omega) (by omega) (by omega) h a2 cp2 s3 hwf
        have H3 := H.fr f1 (fun _ _ h => h)
        have e3' := sliceV_same (lo := none) (hi := some ((lft l.length : Nat) : Int)) (mx := none) H.1 H3.1
        have s2' := s2.fr f1 (fun _ _ h => h)
        have r2 := root_spec T TD hk f (l.take (lft l.length)) (by omega) h3 a1 cp1 s2' (by omega)
        have rl := rootL_length _ (mem_take32 H.2 (lft l.length))
        rw [hl2] at r1
        rw [hl1] at r2
        have l3 := f1.len
        have lo3 := f1.lo
        obtain ⟨v', h4, e4, o4, f4, b4⟩ := dig_append (old := C.old) o1 rl (by have := pathF_len f (l.drop (lft l.length)) (n - lft l.length); omega) (by omega)
        have z2 : splice (List.replicate 32 (bv 0)) 0 (bytesVals (rootL (l.take (lft l.length)))) = bytesVals (rootL (l.take (lft l.length))) := by simp [splice, rl]
        simp [List.replicate] at z2
        have okd : ∀ x, x ∈ bytesVals (rootL (l.take (lft l.length))) → okCell x = true := fun x hx => List.all_eq_true.1 bytes_ok x hx
        have okd' := eq_true okd
        refine ⟨h4, v', ?_, o4, f1.trans f4 (fun _ h => h) (fun j hj hl => by have := b1 j hj; omega), fun j hj => ?_⟩
        · simp [b69, h1l, cvt_iu (show l.length < 18446744073709551616 by omega), Dc_ok, e1, hlt, e2, e3, e3', r1, r2, stp_ok o1.1.und, o1.1.und, hz, fillCells, z2, okd', rl, e4, stp_ok o4.1.und, o4.1.und, r69, uv_sub (a := n) (b := lft l.length) (by omega) (by omega)]
        · rcases b4 with b4 | ⟨i, b4, b4'⟩
          · rw [b4] at hj; exact b1 j hj
          · rw [b4] at hj; cases hj; omega
end Go.Ab.Aud

namespace Go.Ab.Aud
open Go.Sha
/-- what shows that leaves follow on the first m of them -/
def proofF : Nat → List (List UInt8) → Nat → Bool → List (List UInt8)
  | 0, _, _, _ => []
  | f + 1, l, m, whole => if m = l.length then (if whole then [] else [rootL l]) else
      if m ≤ lft l.length then proofF f (l.take (lft l.length)) m whole ++ [rootL (l.drop (lft l.length))] else proofF f (l.drop (lft l.length)) (m - lft l.length) false ++ [rootL (l.take (lft l.length))]
theorem proofF_len : ∀ (f : Nat) (l : List (List UInt8)) (n : Nat) (w : Bool), (proofF f l n w).length ≤ f
  | 0, _, _, _ => by simp [proofF]
  | f + 1, l, n, w => by
    unfold proofF
    split
    · split <;> simp
    · split
      · have := proofF_len f (l.take (lft l.length)) n w; simp; omega
      · have := proofF_len f (l.drop (lft l.length)) (n - lft l.length) false; simp; omega
theorem DigO.one {h : AHeap} {x : List UInt8} (hx : x.length = 32) {v : Value} (e : appendV (fun _ _ => none) h 30 32 32 (.slice none 0 0) v = none) : True := trivial
/-- a row of digests that may be read, and of which it is known whether it may be appended to -/
def DigP (C : Ctx) (h : AHeap) (q : Nat) (v : Value) (l : List (List UInt8)) : Prop :=
  (∃ a cp, v = .slice a l.length cp ∧ DigR C.old h a cp l ∧ (∀ j, Live v j → q ≤ j))
/-- what appending one digest to a row does, owned or just laid by a literal -/
def App1 (C : Ctx) (h : AHeap) (q : Nat) (v : Value) (l : List (List UInt8)) : Prop :=
  ∀ (h2 : AHeap), Fr h h2 (fun _ => False) → h2.lo ≤ h2.bs.length → ∀ x : List UInt8, x.length = 32 →
    ∃ v' h', appendV C.old (h2.push (.cells (bytesVals x) 31)) 30 32 32 v (.slice (some ⟨h2.bs.length, 0, some 0⟩) 1 1) = some (v', h') ∧ DigO h' v' (l ++ [x]) ∧ Fr h2 h' (fun j => q ≤ j) ∧ (∀ j, blkOf v' = some j → q ≤ j)
theorem DigO.app1 {C : Ctx} {h : AHeap} {q : Nat} {v : Value} {l : List (List UInt8)} (H : DigO h v l) (hl : l.length < 2 ^ 30) (hq : ∀ j, blkOf v = some j → q ≤ j) (hqh : q ≤ h.bs.length) : App1 C h q v l := by
  intro h2 f hwf x hx
  obtain ⟨v', h', e, o, f', b⟩ := dig_append (old := C.old) (H.fr f fun _ _ h => h) hx hl hwf
  refine ⟨v', h', e, o, f'.mono fun j hj _ => hq j hj, fun j hj => ?_⟩
  have := f.len
  rcases b with b | ⟨i, b, b'⟩
  · exact hq j (by rw [← b]; exact hj)
  · rw [b] at hj; cases hj; omega
/-- a literal of one digest -/
theorem lit_app1 {C : Ctx} {h : AHeap} {q : Nat} {y : List UInt8} {b : Nat} (hb : h.at b = some (.cells (bytesVals y) 31)) (hy : y.length = 32) (hqh : q ≤ h.bs.length) : App1 C h q (.slice (some ⟨b, 0, some 0⟩) 1 1) [y] := by
  intro h2 f hwf x hx
  have f1 : Fr h2 (h2.push (.cells (bytesVals x) 31)) (fun _ => False) := Fr.push
  have hb2 := f1.get (f.get hb (fun h => h)) (fun h => h)
  have l1 := f.len
  refine ⟨.slice (some ⟨h2.bs.length + 1, 0, some 65⟩) 2 0, (h2.push (.cells (bytesVals x) 31)).push (.grow (bytesVals y ++ bytesVals x) 0 31 32), ?_, ⟨.inr ⟨h2.bs.length + 1, bytesVals y ++ bytesVals x, 0, by simp [hx, hy], push_self' (by simp), by omega, by simp [hx, hy], ?_, by simp; omega⟩, fun z hz => ?_⟩, ?_, fun j hj => ?_⟩
  · have r1 : readN C.old (h2.push (.cells (bytesVals x) 31)) ⟨h2.bs.length, 0, some 0⟩ (1 * 32) = some (bytesVals x) := by rw [readN_rd, push_self]; exact rd32 hx
    have r2 : readN C.old (h2.push (.cells (bytesVals x) 31)) ⟨b, 0, some 0⟩ (1 * 32) = some (bytesVals y) := by rw [readN_rd, hb2]; exact rd32 hy
    have i0 : isRest ⟨b, 0, some 0⟩ 1 = false := rfl
    unfold appendV
    simp only [srcLen, srcCells, r1, i0, Bool.false_eq_true, if_false, r2]
    rw [if_neg (by omega), if_neg (by omega)]
    unfold appendNew
    rw [if_neg (by omega)]
    simp only
    rw [if_pos ⟨by simp [sizeLim], by rw [List.all_append, bytes_ok, bytes_ok]; rfl, by simp [hx, hy], by omega⟩]
    simp
  · rw [List.take_of_length_le (by simp [hx, hy])]; simp [leafCells]
  · simp at hz; rcases hz with rfl | rfl
    · exact hy
    · exact hx
  · exact (f1.trans Fr.push (S' := fun _ => False) (S'' := fun _ => False) (fun _ h => h) (fun _ h _ => h)).mono fun _ h _ => h.elim
  · cases hj; omega
variable {C : Ctx} (T : Tab_LLog C) (TD : Tab_LDig C) (hk : ∀ j, j < 64 → C.old 0 j = some (wv (kW j)))
include T TD hk
set_option maxHeartbeats 2000000 in
theorem proof_spec : ∀ (f : Nat) (l : List (List UInt8)) (m : Nat) (whole : Bool), l.length ≤ f → 1 ≤ m → m ≤ l.length → f < 2 ^ 29 → ∀ (h : AHeap) (a : Option Addr) (cp : Nat), DigR C.old h a cp l → h.lo ≤ h.bs.length →
    ∃ h' v, D C 72 [.slice a l.length cp, uv m, .bool whole] h = some (v, h') ∧ App1 C h' h.bs.length v (proofF f l m whole) ∧ DigP C h' h.bs.length v (proofF f l m whole) ∧ Fr h h' (fun _ => False) := by
  intro f
  induction f with
  | zero => intro l m w hl h1; omega
  | succ f ih =>
    intro l m whole hl h1 hn hf h a cp H hwf
    rw [D_fn T.h72]
    unfold proofF
    have hz : Value.int .u8 0 = bv 0 := rfl
    by_cases hml : m = l.length
    · rw [if_pos hml]
      cases whole with
      | true =>
        rw [if_pos rfl]
        have hO : DigO h (.slice none 0 0) [] := ⟨.nil, fun x hx => by cases hx⟩
        refine ⟨h, .slice none 0 0, ?_, hO.app1 (by simp) (fun j hj => by cases hj) (Nat.le_refl _), ⟨none, 0, rfl, ⟨⟨rfl, rfl, rfl⟩, fun x hx => by cases hx⟩, fun j hj => hj.elim⟩, Fr.refl _ _⟩
        simp [b72, hml, cvt_iu (show l.length < 18446744073709551616 by omega), r72]
      | false =>
        rw [if_neg (by simp)]
        have r2 := root_spec T TD hk (f + 1) l hl h a cp H (by omega)
        have rl := rootL_length _ H.2
        have z2 : splice (List.replicate 32 (bv 0)) 0 (bytesVals (rootL l)) = bytesVals (rootL l) := by simp [splice, rl]
        simp [List.replicate] at z2
        have okd : ∀ x, x ∈ bytesVals (rootL l) → okCell x = true := fun x hx => List.all_eq_true.1 bytes_ok x hx
        have okd' := eq_true okd
        have f1 : Fr h (h.push (.cells (bytesVals (rootL l)) 31)) (fun _ => False) := Fr.push
        refine ⟨h.push (.cells (bytesVals (rootL l)) 31), .slice (some ⟨h.bs.length, 0, some 0⟩) 1 1, ?_, lit_app1 push_self rl (by simp), ⟨_, _, rfl, ⟨⟨by simp [leafCells, rl], ?_⟩, fun x hx => by simp at hx; rw [hx]; exact rl⟩, fun j hj => by have := slLive hj; omega⟩, f1⟩
        · simp [b72, hml, cvt_iu (show l.length < 18446744073709551616 by omega), Dc_ok, r2, hz, fillCells, z2, okd', rl, r72]
        · rw [if_neg (by simp [isRest])]
          exact ⟨by simp, fun _ => by rw [readN_rd, push_self]; have := rd32 rl; simpa [leafCells] using this⟩
    · rw [if_neg hml]
      have h2 : 2 ≤ l.length := by omega
      have k1 := lft_lt h2
      have k0 := lft_pos (n := l.length)
      have e1 := left_spec T l.length h2 (by omega)
      obtain ⟨a1, cp1, e2, s2, v2⟩ := H.lower (lft l.length) (by omega)
      obtain ⟨a2, cp2, e3, s3, v3⟩ := H.upper (lft l.length) (by omega)
      have hl1 : (l.take (lft l.length)).length = lft l.length := by simp; omega
      have hl2 : (l.drop (lft l.length)).length = l.length - lft l.length := by simp
      by_cases hlt : m ≤ lft l.length
      · rw [if_pos hlt]
        obtain ⟨h3, v, r1, o1, ⟨va, vcp, hv, q1, q2⟩, f1⟩ := ih (l.take (lft l.length)) m whole (by omega) (by omega) (by omega) (by omega) h a1 cp1 s2 hwf
        have H3 := H.fr f1 (fun _ _ h => h)
        have e3' := sliceV_same (lo := some ((lft l.length : Nat) : Int)) (hi := none) (mx := none) H.1 H3.1
        have s3' := s3.fr f1 (fun _ _ h => h)
        have r2 := root_spec T TD hk f (l.drop (lft l.length)) (by omega) h3 a2 cp2 s3' (by omega)
        have rl := rootL_length _ (mem_drop32 H.2 (lft l.length))
        rw [hl1] at r1
        rw [hl2] at r2
        have l3 := f1.len
        have lo3 := f1.lo
        have uv' : isUnd v = false := by rw [hv]; rfl
        obtain ⟨v', h4, e4, o4, f4, b4⟩ := o1 h3 (Fr.refl _ _) (by omega) _ rl
        have z2 : splice (List.replicate 32 (bv 0)) 0 (bytesVals (rootL (l.drop (lft l.length)))) = bytesVals (rootL (l.drop (lft l.length))) := by simp [splice, rl]
        simp [List.replicate] at z2
        have okd : ∀ x, x ∈ bytesVals (rootL (l.drop (lft l.length))) → okCell x = true := fun x hx => List.all_eq_true.1 bytes_ok x hx
        have okd' := eq_true okd
        have pl := proofF_len f (l.take (lft l.length)) m whole
        obtain ⟨w1, w2, w3, w4⟩ := o4.digR (old := C.old)
        refine ⟨h4, v', ?_, o4.app1 (by simp; omega) b4 (by have := f4.len; omega), ⟨w1, w2, w3, w4, fun j hj => b4 j (o4.1.live hj)⟩, f1.trans f4 (fun _ h => h) (fun j hj hl => by omega)⟩
        simp [b72, hml, cvt_iu (show l.length < 18446744073709551616 by omega), Dc_ok, e1, hlt, e2, e3, e3', r1, r2, stp_ok uv', uv', hz, fillCells, z2, okd', rl, e4, stp_ok o4.1.und, o4.1.und, r72]
      · rw [if_neg hlt]
        obtain ⟨h3, v, r1, o1, ⟨va, vcp, hv, q1, q2⟩, f1⟩ := ih (l.drop (lft l.length)) (m - lft l.length) false (by omega) (by omega) (by omega) (by omega) h a2 cp2 s3 hwf
        have H3 := H.fr f1 (fun _ _ h => h)
        have e3' := sliceV_same (lo := none) (hi := some ((lft l.length : Nat) : Int)) (mx := none) H.1 H3.1
        have s2' := s2.fr f1 (fun _ _ h => h)
        have r2 := root_spec T TD hk f (l.take (lft l.length)) (by omega) h3 a1 cp1 s2' (by omega)
        have rl := rootL_length _ (mem_take32 H.2 (lft l.length))
        rw [hl2] at r1
        rw [hl1] at r2
        have l3 := f1.len
        have lo3 := f1.lo
        have uv' : isUnd v = false := by rw [hv]; rfl
        obtain ⟨v', h4, e4, o4, f4, b4⟩ := o1 h3 (Fr.refl _ _) (by omega) _ rl
        have z2 : splice (List.replicate 32 (bv 0)) 0 (bytesVals (rootL (l.take (lft l.length)))) = bytesVals (rootL (l.take (lft l.length))) := by simp [splice, rl]
        simp [List.replicate] at z2
        have okd : ∀ x, x ∈ bytesVals (rootL (l.take (lft l.length))) → okCell x = true := fun x hx => List.all_eq_true.1 bytes_ok x hx
        have okd' := eq_true okd
        have pl := proofF_len f (l.drop (lft l.length)) (m - lft l.length) false
        obtain ⟨w1, w2, w3, w4⟩ := o4.digR (old := C.old)
        refine ⟨h4, v', ?_, o4.app1 (by simp; omega) b4 (by have := f4.len; omega), ⟨w1, w2, w3, w4, fun j hj => b4 j (o4.1.live hj)⟩, f1.trans f4 (fun _ h => h) (fun j hj hl => by omega)⟩
        simp [b72, hml, cvt_iu (show l.length < 18446744073709551616 by omega), Dc_ok, e1, hlt, e2, e3, e3', r1, r2, stp_ok uv', uv', hz, fillCells, z2, okd', rl, e4, stp_ok o4.1.und, o4.1.und, r72, uv_sub (a := m) (b := lft l.length) (by omega) (by omega)]
end Go.Ab.Aud

namespace Go.Ab.Aud
open Go.Sha
/-- [:s:s] of a row that is owned -/
theorem Own.first {old : Old} {h : AHeap} {e k n s : Nat} {v : Value} {c : List Value} (w : Own h e k v n c) (hk : 0 < k) (hs : s ≤ n) :
    ∃ a cp, sliceV h k v none (some (s : Int)) (some (s : Int)) = some (.slice a s cp) ∧ SlR old h k (.slice a s cp) (c.take (s * k)) ∧ (∀ j, Live (.slice a s cp) j → blkOf v = some j) := by
  rcases w with ⟨rfl | rfl, rfl, rfl⟩ | ⟨b, g, last, rfl, h1, h2, h3, h4, h5⟩
  · obtain rfl : s = 0 := by omega
    exact ⟨none, 0, rfl, ⟨rfl, rfl, by simp⟩, fun j hj => hj.elim⟩
  · obtain rfl : s = 0 := by omega
    refine ⟨some ⟨0, 0, some 0⟩, 0, rfl, ⟨by simp, ?_⟩, fun j hj => ?_⟩
    · rw [if_neg (by simp [isRest])]; exact ⟨by omega, fun h => absurd rfl h⟩
    · have := hj.2.2; simp [isRest] at this
  · have hkof : kOf h b = k := by unfold kOf; rw [← at_eq, h1]
    have hsk : s * k ≤ n * k := Nat.mul_le_mul_right _ hs
    by_cases hs0 : s = 0
    · subst hs0
      refine ⟨some ⟨0, 0, some 0⟩, 0, ?_, ⟨by simp, ?_⟩, fun j hj => ?_⟩
      · unfold sliceV
        simp only [Option.getD_none, Option.getD_some]
        rw [if_pos isRest_own, if_pos ⟨by omega, by omega, by simp [tagOf], hkof, hk⟩]
        simp [tagOf, emptySl]
      · rw [if_neg (by simp [isRest])]; exact ⟨by omega, fun h => absurd rfl h⟩
      · have := hj.2.2; simp [isRest] at this
    · have hnr : isRest ⟨b, 0, some (g.length + 1)⟩ s = false := by simp [isRest, hs0]
      refine ⟨some ⟨b, 0, some (g.length + 1)⟩, s, ?_, ⟨?_, ?_⟩, fun j hj => by rw [← hj.2.1]; rfl⟩
      · unfold sliceV
        simp only [Option.getD_none, Option.getD_some]
        rw [if_pos isRest_own, if_pos ⟨by omega, by omega, by simp [tagOf]; omega, hkof, hk⟩]
        rw [if_pos ⟨by omega, by simp [tagOf]; omega⟩, if_neg (by omega)]
        simp
      · rw [← h4]; simp; omega
      · rw [if_neg (by simp [hnr])]
        refine ⟨Nat.le_refl _, fun _ => ?_⟩
        rw [readN_rd, h1, rdN_grow (by omega) (by omega) (by omega), ← h4, List.drop_zero, List.take_take, Nat.min_eq_left hsk]
variable {C : Ctx} (T : Tab_LLog C) (TD : Tab_LDig C) (hk : ∀ j, j < 64 → C.old 0 j = some (wv (kW j)))
section
variable (h : AHeap) (O : Nat → Prop) (p d room wr : Nat) (name content : List UInt8) (leaves : List (List UInt8)) (H : LogAt h O p d name content leaves room wr)
include T H
theorem first_spec (s : Nat) (hs : s ≤ leaves.length) (hl : leaves.length < 2 ^ 40) : ∃ a cp, D C 67 [.pointer (some ⟨p, 0, some 0⟩), uv s] h = some (.tuple #[.slice a s cp, .bool true], h) ∧ DigR C.old h a cp (leaves.take s) ∧ (∀ j, Live (.slice a s cp) j → O j) := by
  obtain ⟨w, m, fp, fw, fz, keep, o, c, es, ls, H⟩ := H
  have hpl := get_lt H.hp
  have e1 := lock_spec T h p 0 fp _ H.hp lc0 H.lop
  rw [lcs0] at e1
  generalize hh1 : h.put p (.cells (lc 1 w es ls 0) (fp + 1)) = h1 at e1
  have f1 : Fr h h1 (fun j => j = p) := by rw [← hh1]; exact Fr.put rfl
  have p1 : h1.at p = some (.cells (lc 1 w es ls 0) (fp + 1)) := by rw [← hh1]; exact put_self hpl
  have o1 := H.lo.fr f1 fun j hj => (H.bl j hj).1
  obtain ⟨a, cp, e2, s2, lv⟩ := Own.first (old := C.old) o1 (by omega) hs
  have e3 := unlock_spec T h1 p 0 fp _ p1 lc0 (by rw [f1.lo]; exact H.lop)
  rw [lcs0, ← hh1, put_put, put_eq H.hp, hh1] at e3
  have fb : Fr h1 h (fun j => j = p) := by
    refine ⟨f1.lo.symm, by rw [← hh1]; simp, fun j hj hn => (f1.at (by rw [← hh1] at hj; simpa using hj) hn).symm⟩
  refine ⟨a, cp, ?_, ⟨?_, mem_take32 H.l32 s⟩, fun j hj => (H.bl j (lv j hj)).2.2.2.2.2.2⟩
  · rw [D_fn T.h67]
    have ul := H.lo.und
    have ll := H.lo.lenV
    simp [b67, Dc_ok, e1, dfrS_ok T.h75, p1, lc4, stp_ok ul, ll, cvt_iu (show leaves.length < 18446744073709551616 by omega), show ¬ leaves.length < s by omega, e2, e3, r67]
  · have := s2.fr fb fun j hj => (H.bl j (lv j hj)).1
    rw [leafCells_take H.l32] at this
    have hl : (leaves.take s).length = s := by simp; omega
    rw [hl]; exact this
include TD hk
/-- the head of the first entries -/
theorem head_spec (s : Nat) (hs : s ≤ leaves.length) (hl : leaves.length < 2 ^ 40) (hwf : h.lo ≤ h.bs.length) :
    ∃ h', D C 25 [.pointer (some ⟨p, 0, some 0⟩), uv s] h = some (.tuple #[.agg ⟨uv s :: bytesVals (rootL (leaves.take s))⟩, iv 0], h') ∧ Fr h h' (fun _ => False) := by
  generalize hZ : ABlock.cells (uv 0 :: List.replicate 32 (bv 0)) 36 = Z
  have hZ0 := hZ
  simp [List.replicate] at hZ
  have f1 : Fr h (h.push Z) (fun _ => False) := Fr.push
  obtain ⟨a, cp, e1, s1, _⟩ := first_spec T (h.push Z) O p d room wr name content leaves (H.fr f1 (fun _ _ h => h)) s hs hl
  have r1 := root_spec T TD hk s (leaves.take s) (by simp; omega) (h.push Z) a cp s1 (by simp; omega)
  have hls : (leaves.take s).length = s := by simp; omega
  rw [hls] at r1
  have rl := rootL_length _ s1.2
  have z1 : (h.push Z).at h.bs.length = some Z := push_self
  have hz : Value.int .u8 0 = bv 0 := rfl
  generalize hd : rootL (leaves.take s) = dg at *
  have w1 : wrN (h.push Z) h.bs.length (some Z) 0 0 (uv s :: bytesVals dg) = some ((h.push Z).put h.bs.length (.cells (uv s :: bytesVals dg) 36)) := by
    rw [← hZ0, wrN_cells (by simp [rl]) (by simp [bytesVals_eq])]
    congr 3
    simp [splice, rl]
  have zs : splice (splice (uv 0 :: List.replicate 32 (bv 0)) 0 [uv s]) 1 (bytesVals dg) = uv s :: bytesVals dg := by simp [splice, rl]
  have zl : (splice (uv 0 :: List.replicate 32 (bv 0)) 0 [uv s]).length = 33 := by simp [splice]
  simp [List.replicate] at zs zl
  have rd : rdN (some (.cells (uv s :: bytesVals dg) 36)) 0 0 33 = some (uv s :: bytesVals dg) := by
    rw [rdN_cells (by simp [rl]), List.drop_zero, List.take_of_length_le (by simp [rl])]
  refine ⟨(h.push Z).put h.bs.length (.cells (uv s :: bytesVals dg) 36), ?_, f1.put' (.inr (Nat.le_refl _))⟩
  rw [D_fn T.h25]
  simp [b25, hz, hZ, Dc_ok, e1, r1, fillCells, zs, zl, rl, writeN_wr, hwf, z1, w1, r25, resV, put_self, rd]
theorem prove_spec (n s : Nat) (hn : n < s) (hs : s ≤ leaves.length) (hl : leaves.length < 2 ^ 28) (hwf : h.lo ≤ h.bs.length) :
    ∃ h' v, D C 26 [.pointer (some ⟨p, 0, some 0⟩), uv n, uv s] h = some (.tuple #[v, iv 0], h') ∧ DigO h' v (pathF s (leaves.take s) n) ∧ Fr h h' (fun _ => False) ∧ (∀ j, blkOf v = some j → h.bs.length ≤ j) := by
  obtain ⟨a, cp, e1, s1, _⟩ := first_spec T h O p d room wr name content leaves H s hs (by omega)
  have hls : (leaves.take s).length = s := by simp; omega
  obtain ⟨h', v, e2, g1, g2, g3⟩ := path_spec T TD hk s (leaves.take s) n (by omega) (by omega) (by omega) (by omega) h a cp s1 hwf
  rw [hls] at e2
  refine ⟨h', v, ?_, g1, g2, g3⟩
  rw [D_fn T.h26]
  simp [b26, Dc_ok, e1, show ¬ s ≤ n by omega, e2, stp_ok g1.1.und, g1.1.und, r26]
theorem follow_spec (m s : Nat) (hm : m ≤ s) (hs : s ≤ leaves.length) (hl : leaves.length < 2 ^ 28) (hwf : h.lo ≤ h.bs.length) :
    ∃ h' v, D C 30 [.pointer (some ⟨p, 0, some 0⟩), uv m, uv s] h = some (.tuple #[v, iv 0], h') ∧ DigP C h' h.bs.length v (if m = 0 then [] else proofF s (leaves.take s) m true) ∧ Fr h h' (fun _ => False) := by
  obtain ⟨a, cp, e1, s1, _⟩ := first_spec T h O p d room wr name content leaves H s hs (by omega)
  have hls : (leaves.take s).length = s := by simp; omega
  rw [D_fn T.h30]
  by_cases h0 : m = 0
  · refine ⟨h, .slice none 0 0, ?_, ?_, Fr.refl _ _⟩
    · simp [b30, Dc_ok, e1, show ¬ s < m by omega, h0, r30]
    · rw [if_pos h0]
      exact ⟨none, 0, rfl, ⟨⟨rfl, rfl, rfl⟩, fun x hx => by cases hx⟩, fun j hj => hj.elim⟩
  · obtain ⟨h', v, e2, _, g1, g2⟩ := proof_spec T TD hk s (leaves.take s) m true (by omega) (by omega) (by omega) (by omega) h a cp s1 hwf
    rw [hls] at e2
    have uv' : isUnd v = false := by obtain ⟨va, vcp, hv, _⟩ := g1; rw [hv]; rfl
    refine ⟨h', v, ?_, by rw [if_neg h0]; exact g1, g2⟩
    simp [b30, Dc_ok, e1, show ¬ s < m by omega, h0, e2, stp_ok uv', uv', r30]
end
end Go.Ab.Aud

namespace Go.Ab.Aud
open Go.Sha
/-- an element of a row that is owned is written -/
theorem own_wr {h : AHeap} {e n i : Nat} {v x : Value} {c : List Value} (w : Own h e 1 v n c) (hi : i < n) (hx : okCell x = true) :
    ∃ a h', v = .slice (some a) n 0 ∧ write1 h (adda a i) x = some h' ∧ Own h' e 1 v n (c.set i x) ∧ Fr h h' (fun j => blkOf v = some j) := by
  rcases w with ⟨_, rfl, _⟩ | ⟨b, g, last, rfl, h1, h2, h3, h4, h5⟩
  · omega
  · refine ⟨⟨b, 0, some (g.length + 1)⟩, h.put b (.grow (g.set i x) g.length (e + 1) 1), rfl, ?_, .inr ⟨b, g.set i x, g.length, by simp, put_self (get_lt h1), by simp, by simp; omega, ?_, by rw [put_lo]; exact h5⟩, Fr.put rfl⟩
    · simp only [adda_mk]
      rw [write1_wr h5, h1]
      simp only [wr1]
      rw [if_pos ⟨by first | rfl | trivial, by omega, by omega, hx⟩, Nat.zero_add]
    · rw [← h4, List.take_set]
theorem own_rd {old : Old} {h : AHeap} {e n i : Nat} {a : Addr} {c : List Value} (w : Own h e 1 (.slice (some a) n 0) n c) (hi : i < n) : read1 old h (adda a i) = c[i]? := by
  have := (w.sl (old := old) (by omega)).read (by omega)
  simp only [Nat.mul_one] at this
  exact readN_read1 this hi
/-- the way down to a number: whether it is the right part -/
def downF : Nat → Nat → Nat → List Bool
  | 0, _, _ => []
  | f + 1, n, s => if s ≤ 1 then [] else if n < lft s then false :: downF f n (lft s) else true :: downF f (n - lft s) (s - lft s)
theorem downF_len : ∀ (f n s : Nat), (downF f n s).length ≤ f
  | 0, _, _ => by simp [downF]
  | f + 1, n, s => by
    unfold downF
    split
    · simp
    · split
      · have := downF_len f n (lft s); simp; omega
      · have := downF_len f (n - lft s) (s - lft s); simp; omega
theorem lft_pow {s f : Nat} (h2 : 2 ≤ s) (h : s ≤ 2 ^ (f + 1)) : lft s ≤ 2 ^ f := by
  unfold lft
  apply Nat.pow_le_pow_right (by omega)
  have := (Nat.log2_lt (n := s - 1) (k := f + 1) (by omega)).2 (by omega)
  omega
def bools (l : List Bool) : List Value := l.map .bool
variable {C : Ctx} (T : Tab_LLog C)
include T
/-- one bool more -/
theorem bool_append {h : AHeap} {v : Value} {l : List Bool} {b : Bool} {q : Nat} (H : Own h 4 1 v l.length (bools l)) (hb : ∀ j, blkOf v = some j → q ≤ j) (hq : q ≤ h.bs.length) (hl : l.length < 2 ^ 30) (hwf : h.lo ≤ h.bs.length) :
    ∃ v' h', appendV C.old (h.push (.cells [.bool b] 5)) 4 1 1 v (.slice (some ⟨h.bs.length, 0, some 0⟩) 1 1) = some (v', h') ∧ Own h' 4 1 v' (l ++ [b]).length (bools (l ++ [b])) ∧ Fr h h' (fun j => q ≤ j) ∧ (∀ j, blkOf v' = some j → q ≤ j) := by
  have _ := T
  have f1 : Fr h (h.push (.cells [.bool b] 5)) (fun _ => False) := Fr.push
  obtain ⟨v', h2, e, o, f, b2⟩ := append_own (old := C.old) (bytes := 1) (x := .slice (some ⟨h.bs.length, 0, some 0⟩) 1 1) (m := 1) (new := [.bool b]) (H.fr f1 fun _ _ h => h) (by omega) rfl
    (fun _ => by simp only [srcCells]; rw [readN_rd, push_self]; rfl) (fun h => by cases h) rfl rfl (by simp [sizeLim]; omega) (by simp; omega)
  refine ⟨v', h2, e, ?_, f1.trans f (fun _ h => h.elim) (fun j h _ => hb j h), fun j hj => ?_⟩
  · have : bools (l ++ [b]) = bools l ++ [.bool b] := by simp [bools]
    rw [this, List.length_append]; exact o
  · rcases b2 with b2 | b2 <;> rw [b2] at hj
    · exact hb j hj
    · cases hj; simp; omega
theorem steps_down (q : Nat) : ∀ (f n s : Nat) (l : List Bool) (v : Value) (h : AHeap) (t : List Value), s ≤ 2 ^ f → f ≤ 64 → n < s → s < 18446744073709551616 → Own h 4 1 v l.length (bools l) → (∀ j, blkOf v = some j → q ≤ j) → q ≤ h.bs.length →
    l.length + f < 2 ^ 20 → h.lo ≤ h.bs.length → tg t 0 = uv n → tg t 1 = uv s → tg t 5 = v →
    ∃ h' v' t', (∀ k, R C r53 (.inLoop lp53_0 :: .inBlock 0 :: k) t [] h = R C r53 k t' [] h') ∧ tg t' 5 = v' ∧ Own h' 4 1 v' (l ++ downF f n s).length (bools (l ++ downF f n s)) ∧ Fr h h' (fun j => q ≤ j) ∧ (∀ j, blkOf v' = some j → q ≤ j) := by
  intro f
  induction f with
  | zero =>
    intro n s l v h t hs hf hn hs2 H hb hq hl hwf t0 t1 t5
    have hs1 : s = 1 := by simp at hs; omega
    have e : ∃ t', (∀ k, R C r53 (.inLoop lp53_0 :: .inBlock 0 :: k) t [] h = R C r53 k t' [] h) ∧ tg t' 5 = v := by
      refine ex_step (fun k => R_open lp53_0.eq_1) ?_
      simp [t1, hs1]
      exact ⟨_, fun _ => rfl, by simp [t5]⟩
    obtain ⟨t', e, u5⟩ := e
    exact ⟨h, v, t', e, u5, by simpa [downF] using H, Fr.refl _ _, hb⟩
  | succ f ih =>
    intro n s l v h t hs hf hn hs2 H hb hq hl hwf t0 t1 t5
    by_cases hs1 : s ≤ 1
    · have e : ∃ t', (∀ k, R C r53 (.inLoop lp53_0 :: .inBlock 0 :: k) t [] h = R C r53 k t' [] h) ∧ tg t' 5 = v := by
        refine ex_step (fun k => R_open lp53_0.eq_1) ?_
        simp [t1, show ¬ 1 < s by omega]
        exact ⟨_, fun _ => rfl, by simp [t5]⟩
      obtain ⟨t', e, u5⟩ := e
      refine ⟨h, v, t', e, u5, ?_, Fr.refl _ _, hb⟩
      unfold downF
      rw [if_pos hs1, List.append_nil]; exact H
    · have h2 : 2 ≤ s := by omega
      have k1 := lft_lt h2
      have k0 := lft_pos (n := s)
      have k2 := lft_ge h2
      have k3 := lft_pow h2 hs
      have e1 := left_spec T s h2 hs2
      have hu := H.und
      unfold downF
      rw [if_neg hs1]
      by_cases hlt : n < lft s
      · rw [if_pos hlt]
        obtain ⟨v', h1, e2, o1, f1, b1⟩ := bool_append T (b := false) H hb hq (by omega) hwf
        have e : ∃ t', (∀ k, R C r53 (.inLoop lp53_0 :: .inBlock 0 :: k) t [] h = R C r53 (.inLoop lp53_0 :: .inBlock 0 :: k) t' [] h1) ∧ tg t' 0 = uv n ∧ tg t' 1 = uv (lft s) ∧ tg t' 5 = v' := by
          refine ex_step (fun k => R_open lp53_0.eq_1) ?_
          simp [t0, t1, t5, show 1 < s by omega, Dc_ok, e1, hlt, stp_ok hu, fillCells, splice, e2, stp_ok o1.und]
          exact ⟨_, fun _ => rfl, by simp [t0], by simp, by simp⟩
        obtain ⟨t', e, u0, u1, u5⟩ := e
        obtain ⟨h', v2, t2, a1, a2, a3, a4, a5⟩ := ih n (lft s) (l ++ [false]) v' h1 t' k3 (by omega) hlt (by omega) o1 b1 (by have := f1.len; omega) (by simp; omega) (by rw [f1.lo]; have := f1.len; omega) u0 u1 u5
        refine ⟨h', v2, t2, fun k => (e k).trans (a1 k), a2, ?_, f1.trans a4 (fun _ h => h) (fun _ h _ => h), a5⟩
        simpa using a3
      · rw [if_neg hlt]
        obtain ⟨v', h1, e2, o1, f1, b1⟩ := bool_append T (b := true) H hb hq (by omega) hwf
        have e : ∃ t', (∀ k, R C r53 (.inLoop lp53_0 :: .inBlock 0 :: k) t [] h = R C r53 (.inLoop lp53_0 :: .inBlock 0 :: k) t' [] h1) ∧ tg t' 0 = uv (n - lft s) ∧ tg t' 1 = uv (s - lft s) ∧ tg t' 5 = v' := by
          refine ex_step (fun k => R_open lp53_0.eq_1) ?_
          simp [t0, t1, t5, show 1 < s by omega, Dc_ok, e1, hlt, uv_sub (a := n) (b := lft s) (by omega) (by omega), uv_sub (a := s) (b := lft s) (by omega) (by omega), stp_ok hu, fillCells, splice, e2, stp_ok o1.und]
          exact ⟨_, fun _ => rfl, by simp, by simp, by simp⟩
        obtain ⟨t', e, u0, u1, u5⟩ := e
        obtain ⟨h', v2, t2, a1, a2, a3, a4, a5⟩ := ih (n - lft s) (s - lft s) (l ++ [true]) v' h1 t' (by omega) (by omega) (by omega) (by omega) o1 b1 (by have := f1.len; omega) (by simp; omega) (by rw [f1.lo]; have := f1.len; omega) u0 u1 u5
        refine ⟨h', v2, t2, fun k => (e k).trans (a1 k), a2, ?_, f1.trans a4 (fun _ h => h) (fun _ h _ => h), a5⟩
        simpa using a3
/-- half turned round -/
def revK (l : List Bool) (k : Nat) : List Bool := (List.range l.length).map fun j => if j < k ∨ l.length - 1 - j < k then l.getD (l.length - 1 - j) false else l.getD j false
omit T in
theorem revK_zero (l : List Bool) : revK l 0 = l := by
  apply List.ext_getElem?
  intro j
  unfold revK
  by_cases hj : j < l.length
  · rw [List.getElem?_map, List.getElem?_range hj]
    simp [List.getD_eq_getElem?_getD, hj]
  · rw [List.getElem?_eq_none (by simp; omega), List.getElem?_eq_none (by omega)]
omit T in
theorem revK_half (l : List Bool) : revK l (l.length / 2) = l.reverse := by
  apply List.ext_getElem?
  intro j
  unfold revK
  by_cases hj : j < l.length
  · rw [List.getElem?_map, List.getElem?_range hj, List.getElem?_reverse hj]
    simp only [Option.map_some]
    have hj2 : l.length - 1 - j < l.length := by omega
    by_cases hc : j < l.length / 2 ∨ l.length - 1 - j < l.length / 2
    · rw [if_pos hc, List.getD_eq_getElem?_getD, List.getElem?_eq_getElem hj2]; rfl
    · rw [if_neg hc]
      have : l.length - 1 - j = j := by omega
      rw [this, List.getD_eq_getElem?_getD, List.getElem?_eq_getElem hj]; rfl
  · rw [List.getElem?_eq_none (by simp; omega), List.getElem?_eq_none (by simp; omega)]
omit T in
theorem revK_get (l : List Bool) (k j : Nat) (hj : j < l.length) : (bools (revK l k))[j]? = some (.bool (if j < k ∨ l.length - 1 - j < k then l.getD (l.length - 1 - j) false else l.getD j false)) := by
  unfold bools revK
  rw [List.getElem?_map, List.getElem?_map, List.getElem?_range hj]; rfl
omit T in
theorem revK_step (l : List Bool) (k : Nat) (hk : k < l.length / 2) : ((bools (revK l k)).set k (.bool (l.getD (l.length - 1 - k) false))).set (l.length - 1 - k) (.bool (l.getD k false)) = bools (revK l (k + 1)) := by
  apply List.ext_getElem?
  intro j
  have hlen : (bools (revK l k)).length = l.length := by simp [bools, revK]
  by_cases hj : j < l.length
  · rw [List.getElem?_set, revK_get l (k + 1) j hj]
    by_cases e1 : l.length - 1 - k = j
    · rw [if_pos e1, if_pos (by simp [hlen]; omega), if_pos (by omega)]
      congr 3; omega
    · rw [if_neg e1, List.getElem?_set]
      by_cases e2 : k = j
      · subst e2
        rw [if_pos rfl, if_pos (by omega), if_pos (by omega)]
      · rw [if_neg e2, revK_get l k j hj]
        have : (j < k ∨ l.length - 1 - j < k) ↔ (j < k + 1 ∨ l.length - 1 - j < k + 1) := by omega
        simp only [this]
  · rw [List.getElem?_eq_none (by simp [hlen]; omega), List.getElem?_eq_none (by simp [bools, revK]; omega)]
theorem steps_rev (q : Nat) (l : List Bool) (hl : l.length < 2 ^ 20) : ∀ (d i : Nat) (v : Value) (h : AHeap) (t : List Value), i + d = l.length / 2 → Own h 4 1 v l.length (bools (revK l i)) → (∀ j, blkOf v = some j → q ≤ j) → tg t 5 = v → tg t 30 = iv (l.length / 2) → tg t 31 = iv i →
    ∃ h' t', (∀ k, R C r53 (.inLoop lp53_1 :: .inBlock 2 :: k) t [] h = R C r53 k t' [] h') ∧ tg t' 5 = v ∧ Own h' 4 1 v l.length (bools l.reverse) ∧ Fr h h' (fun j => q ≤ j)
  | 0, i, v, h, t, hd, H, hb, t5, t30, t31 => by
    obtain rfl : i = l.length / 2 := by omega
    have e : ∃ t', (∀ k, R C r53 (.inLoop lp53_1 :: .inBlock 2 :: k) t [] h = R C r53 k t' [] h) ∧ tg t' 5 = v := by
      refine ex_step (fun k => R_open lp53_1.eq_1) ?_
      simp [t30, t31]
      exact ⟨_, fun _ => rfl, by simp [t5]⟩
    obtain ⟨t', e, u5⟩ := e
    rw [revK_half] at H
    exact ⟨h, t', e, u5, H, Fr.refl _ _⟩
  | d + 1, i, v, h, t, hd, H, hb, t5, t30, t31 => by
    have hi : i < l.length / 2 := by omega
    have hu := H.und
    have hlv := H.lenV
    obtain ⟨a, h1, hv, w1, o1, f1⟩ := own_wr (x := .bool (l.getD (l.length - 1 - i) false)) H (i := i) (by omega) rfl
    obtain ⟨a', h2, hv', w2, o2, f2⟩ := own_wr (x := .bool (l.getD i false)) o1 (i := l.length - 1 - i) (by omega) rfl
    have haa : a' = a := by rw [hv] at hv'; injection hv' with h1 h2 h3; injection h1 with h1; exact h1.symm
    subst haa
    rw [revK_step l i hi] at o2
    have rd1 : read1 C.old h (adda a' (l.length - 1 - i)) = some (.bool (l.getD (l.length - 1 - i) false)) := by
      rw [hv] at H
      rw [own_rd H (by omega), revK_get l i _ (by omega), if_neg (by omega)]
    have rd2 : read1 C.old h (adda a' i) = some (.bool (l.getD i false)) := by
      rw [hv] at H
      rw [own_rd H (by omega), revK_get l i _ (by omega), if_neg (by omega)]
    have e : ∃ t', (∀ k, R C r53 (.inLoop lp53_1 :: .inBlock 2 :: k) t [] h = R C r53 (.inLoop lp53_1 :: .inBlock 2 :: k) t' [] h2) ∧ tg t' 5 = v ∧ tg t' 30 = iv (l.length / 2) ∧ tg t' 31 = iv (i + 1) := by
      refine ex_step (fun k => R_open lp53_1.eq_1) ?_
      rw [hv] at t5
      simp [-List.getD_eq_getElem?_getD, t5, t30, t31, hi, iv_sub (a := l.length) (b := 1) (by omega) (by omega), iv_sub (a := l.length - 1) (b := i) (by omega) (by omega), ixS_iv (show l.length - 1 - i < l.length by omega), ixS_iv (show i < l.length by omega), rd1, rd2, w1, w2, iv_add (a := i) (b := 1) (by omega)]
      exact ⟨_, fun _ => rfl, by simp [t5, hv], by simp [t30], by simp⟩
    obtain ⟨t', e, u5, u30, u31⟩ := e
    obtain ⟨h', t2, g1, g2, g3, g4⟩ := steps_rev q l hl d (i + 1) v h2 t' (by omega) o2 hb u5 u30 u31
    exact ⟨h', t2, fun k => (e k).trans (g1 k), g2, g3, ((f1.trans f2 (S'' := fun j => q ≤ j) (fun j hj => hb j hj) (fun j hj _ => hb j hj))).trans g4 (fun _ h => h) (fun _ h _ => h)⟩
/-- the way of a number, from the leaf on -/
theorem steps_spec (n s : Nat) (hn : n < s) (hs : s < 18446744073709551616) (h : AHeap) (hwf : h.lo ≤ h.bs.length) :
    ∃ h' v, D C 53 [uv n, uv s] h = some (v, h') ∧ Own h' 4 1 v (downF 64 n s).length (bools (downF 64 n s).reverse) ∧ Fr h h' (fun _ => False) ∧ (∀ j, blkOf v = some j → h.bs.length ≤ j) := by
  have hdl := downF_len 64 n s
  obtain ⟨h1, v1, t1, e1, u5, o1, f1, b1⟩ := steps_down T h.bs.length 64 n s [] (.slice none 0 0) h (ts (ts [uv n, uv s] 4 (.slice none 0 0)) 5 (.slice none 0 0)) (by omega) (by omega) hn hs .nil (fun j hj => by cases hj) (Nat.le_refl _) (by simp) hwf (by simp) (by simp) (by simp)
  rw [List.nil_append] at o1
  have hlv := o1.lenV
  have hu := o1.und
  have o1' : Own h1 4 1 v1 (downF 64 n s).length (bools (revK (downF 64 n s) 0)) := by rw [revK_zero]; exact o1
  obtain ⟨h2, t2, e2, w5, o2, f2⟩ := steps_rev T h.bs.length (downF 64 n s) (by omega) ((downF 64 n s).length / 2) 0 v1 h1
    (ts (ts (ts (ts t1 28 v1) 29 (iv (downF 64 n s).length)) 30 (iv ((downF 64 n s).length / 2))) 31 (iv 0)) (by omega) o1' b1 (by simp [u5]) (by simp) (by simp)
  refine ⟨h2, v1, ?_, o2, (f1.trans f2 (fun _ h => h) (fun _ h _ => h)).mono (fun j hj hl => by omega), b1⟩
  rw [D_fn T.h53]
  simp [b53]
  rw [e1]
  simp [k53_1, u5, stp_ok hu, hlv, iv_quo (a := (downF 64 n s).length) (b := 2) (by omega) (by omega)]
  rw [e2]
  simp [k53_0, w5, stp_ok hu, r53]
end Go.Ab.Aud

namespace Go.Ab.Aud
open Go.Sha
theorem bv_eq {a b : UInt8} : veqK .i (bv a) (bv b) = some (decide (a = b)) := by
  simp only [bv, veqK, if_true, Option.some.injEq]
  refine decide_eq_decide.2 ⟨fun h => ?_, fun h => by rw [h]⟩
  exact UInt8.toNat.inj (by omega)
theorem veqL_bytes : ∀ (x y : List UInt8), x.length = y.length → veqL (List.replicate x.length .i) (bytesVals x) (bytesVals y) = some (decide (x = y))
  | [], [], _ => rfl
  | a :: x, b :: y, h => by
    have ih := veqL_bytes x y (by simpa using h)
    have e1 : bytesVals (a :: x) = bv a :: bytesVals x := rfl
    have e2 : bytesVals (b :: y) = bv b :: bytesVals y := rfl
    rw [e1, e2, List.length_cons, List.replicate_succ]
    unfold veqL
    simp only [ih, bv_eq]
    simp
/-- two digests are compared -/
theorem aeq_dig {x y : List UInt8} (hx : x.length = 32) (hy : y.length = 32) : aeq (.flat (List.replicate 32 .i)) (.agg ⟨bytesVals x⟩) (.agg ⟨bytesVals y⟩) = some (decide (x = y)) := by
  have := veqL_bytes x y (by omega)
  rw [hx] at this
  exact this
theorem leafCells_get {l : List (List UInt8)} (h : ∀ x, x ∈ l → x.length = 32) {i : Nat} (hi : i < l.length) : ((leafCells l).drop (i * 32)).take 32 = bytesVals (l.getD i []) := by
  have e1 : (l.drop i).take 1 = [l[i]] := by rw [List.drop_eq_getElem_cons hi]; rfl
  have e2 := leafCells_take (mem_drop32 h i) 1
  rw [Nat.one_mul] at e2
  rw [leafCells_drop h, e2, e1]
  simp [leafCells, List.getD_eq_getElem?_getD, hi]
theorem get32 {l : List (List UInt8)} (h : ∀ x, x ∈ l → x.length = 32) {i : Nat} (hi : i < l.length) : (l.getD i []).length = 32 := by
  rw [List.getD_eq_getElem?_getD, List.getElem?_eq_getElem hi]
  exact h _ (List.getElem_mem hi)
theorem DigR.get {old : Old} {h : AHeap} {a : Option Addr} {cp : Nat} {l : List (List UInt8)} (H : DigR old h a cp l) {i : Nat} (hi : i < l.length) : ∃ a', a = some a' ∧ readN old h (adda a' (i * 32)) 32 = some (bytesVals (l.getD i [])) := by
  obtain ⟨a', rfl⟩ := H.1.ex (by omega)
  refine ⟨a', rfl, ?_⟩
  have := readN_part (H.1.read (by omega)) (i := i * 32) (m := 32) (by omega)
  rwa [leafCells_get H.2 hi] at this
/-- one step of the way up -/
def stepW (w : Bool) (p x : List UInt8) : List UInt8 := if w then sha (1 :: (p ++ x)) else sha (1 :: (x ++ p))
theorem stepW_length {w : Bool} {p x : List UInt8} : (stepW w p x).length = 32 := by
  unfold stepW
  split <;> exact sha_length _
/-- the root that a path leads to -/
def foldW : List Bool → List (List UInt8) → List UInt8 → List UInt8
  | w :: ws, p :: ps, x => foldW ws ps (stepW w p x)
  | _, _, x => x
theorem foldW_length : ∀ (w : List Bool) (ps : List (List UInt8)) (x : List UInt8), x.length = 32 → (foldW w ps x).length = 32
  | [], _, _, h => by simpa [foldW] using h
  | _ :: _, [], _, h => by simpa [foldW] using h
  | b :: ws, p :: ps, x, _ => by rw [foldW]; exact foldW_length ws ps _ stepW_length
def inclF (size n : Nat) (root leaf : List UInt8) (ps : List (List UInt8)) : Nat :=
  if size ≤ n then 230 else if (downF 64 n size).length ≠ ps.length then 235 else if foldW (downF 64 n size).reverse ps leaf ≠ root then 236 else 0
variable {C : Ctx} (T : Tab_LLog C) (TD : Tab_LDig C) (hk : ∀ j, j < 64 → C.old 0 j = some (wv (kW j)))
include T TD hk
theorem incl_loop (q : Nat) (w : List Bool) (ps : List (List UInt8)) (hw : w.length = ps.length) (hl : w.length < 2 ^ 20) (v : Value) (a : Option Addr) (cp : Nat) :
    ∀ (d i : Nat) (x : List UInt8) (g : AHeap) (t : List Value), i + d = w.length → x.length = 32 → Own g 4 1 v w.length (bools w) → (∀ j, blkOf v = some j → j ≠ q) → DigR C.old g a cp ps → (∀ j, Live (.slice a ps.length cp) j → j ≠ q) →
    g.lo ≤ q → g.at q = some (.cells (bytesVals x) 31) → tg t 25 = v → tg t 26 = iv w.length → tg t 27 = iv i → tg t 3 = .slice a ps.length cp → tg t 6 = .pointer (some ⟨q, 0, some 0⟩) →
    ∃ g' t', (∀ k, R C r12 (.inLoop lp12_0 :: .inBlock 0 :: k) t [] g = R C r12 k t' [] g') ∧ tg t' 6 = .pointer (some ⟨q, 0, some 0⟩) ∧ tg t' 4 = tg t 4 ∧ Fr g g' (fun j => j = q) ∧ g'.at q = some (.cells (bytesVals (foldW (w.drop i) (ps.drop i) x)) 31) := by
  intro d
  induction d with
  | zero =>
    intro i x g t hd hx H hb P hp hlo hq t25 t26 t27 t3 t6
    have hi : i = w.length := by omega
    have e : ∃ t', (∀ k, R C r12 (.inLoop lp12_0 :: .inBlock 0 :: k) t [] g = R C r12 k t' [] g) ∧ tg t' 6 = .pointer (some ⟨q, 0, some 0⟩) ∧ tg t' 4 = tg t 4 := by
      refine ex_step (fun k => R_open lp12_0.eq_1) ?_
      simp [t26, t27, hi]
      exact ⟨_, fun _ => rfl, by simp [t6], by simp⟩
    obtain ⟨t', e, u6, u4⟩ := e
    refine ⟨g, t', e, u6, u4, Fr.refl _ _, ?_⟩
    rw [hq, List.drop_of_length_le (by omega), List.drop_of_length_le (by omega)]; rfl
  | succ d ih =>
    intro i x g t hd hx H hb P hp hlo hq t25 t26 t27 t3 t6
    have hi : i < w.length := by omega
    obtain ⟨a', rfl, rp⟩ := P.get (i := i) (by omega)
    have lp := get32 P.2 (i := i) (by omega)
    obtain ⟨va, vcp, hv⟩ := H.slice
    have hv0 : ∃ va', v = .slice (some va') w.length 0 := by
      rcases H with ⟨_, h0, _⟩ | ⟨b, g', last, hv, _⟩
      · omega
      · exact ⟨_, hv⟩
    obtain ⟨va', hv'⟩ := hv0
    rw [hv'] at H
    have rb : read1 C.old g (adda va' i) = some (.bool (w.getD i false)) := by
      rw [own_rd H hi]
      simp [bools, List.getD_eq_getElem?_getD, hi]
    rw [← hv'] at H
    rw [hv'] at t25
    generalize hpi : ps.getD i [] = p at rp lp
    generalize hwi : w.getD i false = b at rb
    have e1 := node_spec TD hk g p x lp hx
    have e2 := node_spec TD hk g x p hx lp
    have rx : rdN (some (.cells (bytesVals x) 31)) 0 0 32 = some (bytesVals x) := rd32 hx
    have wx : ∀ y : List UInt8, y.length = 32 → wrN g q (some (.cells (bytesVals x) 31)) 0 0 (bytesVals y) = some (g.put q (.cells (bytesVals y) 31)) := by
      intro y hy
      rw [wrN_cells (by simp [hx, hy]) (by simp [bytesVals_eq])]
      congr 3
      simp [splice, hx, hy]
    have e : ∃ t', (∀ k, R C r12 (.inLoop lp12_0 :: .inBlock 0 :: k) t [] g = R C r12 (.inLoop lp12_0 :: .inBlock 0 :: k) t' [] (g.put q (.cells (bytesVals (stepW b p x)) 31))) ∧ tg t' 25 = v ∧ tg t' 26 = iv w.length ∧ tg t' 27 = iv (i + 1) ∧ tg t' 3 = .slice (some a') ps.length cp ∧ tg t' 6 = .pointer (some ⟨q, 0, some 0⟩) ∧ tg t' 4 = tg t 4 := by
      refine ex_step (fun k => R_open lp12_0.eq_1) ?_
      cases b
      · have w1 := wx (stepW false p x) stepW_length
        have es : sha (1 :: (x ++ p)) = stepW false p x := rfl
        rw [es] at e2
        simp [t25, t26, t27, t3, t6, hi, ixS_iv hi, rb, ixS_iv (show i < ps.length by omega), rp, hq, rx, Dc_ok, e2, stepW_length, writeN_wr, hlo, w1, iv_add (a := i) (b := 1) (by omega)]
        exact ⟨_, fun _ => rfl, by simp [t25, hv'], by simp [t26], by simp, by simp [t3], by simp [t6], by simp⟩
      · have w1 := wx (stepW true p x) stepW_length
        have es : sha (1 :: (p ++ x)) = stepW true p x := rfl
        rw [es] at e1
        simp [t25, t26, t27, t3, t6, hi, ixS_iv hi, rb, ixS_iv (show i < ps.length by omega), rp, hq, rx, Dc_ok, e1, stepW_length, writeN_wr, hlo, w1, iv_add (a := i) (b := 1) (by omega)]
        exact ⟨_, fun _ => rfl, by simp [t25, hv'], by simp [t26], by simp, by simp [t3], by simp [t6], by simp⟩
    obtain ⟨t', e, u25, u26, u27, u3, u6, u4⟩ := e
    have f1 : Fr g (g.put q (.cells (bytesVals (stepW b p x)) 31)) (fun j => j = q) := Fr.put rfl
    obtain ⟨g', t2, a1, a2, a3, a4, a5⟩ := ih (i + 1) (stepW b p x) _ t' (by omega) stepW_length (H.fr f1 hb) hb (P.fr f1 hp) hp hlo (put_self (get_lt hq)) u25 u26 u27 u3 u6
    refine ⟨g', t2, fun k => (e k).trans (a1 k), a2, a3.trans u4, f1.trans a4 (fun _ h => h) (fun _ h _ => h), ?_⟩
    rw [a5, List.drop_eq_getElem_cons hi, List.drop_eq_getElem_cons (show i < ps.length by omega)]
    simp only [foldW]
    rw [← hpi, ← hwi]
    simp [List.getD_eq_getElem?_getD, hi, show i < ps.length by omega]
set_option maxHeartbeats 1000000 in
theorem incl_spec (h : AHeap) (size n : Nat) (root leaf : List UInt8) (ps : List (List UInt8)) (hr : root.length = 32) (hlf : leaf.length = 32) (hs : size < 18446744073709551616) (hn : n < 18446744073709551616) (a : Option Addr) (cp : Nat) (P : DigR C.old h a cp ps) :
    D C 12 [.agg ⟨uv size :: bytesVals root⟩, uv n, .agg ⟨bytesVals leaf⟩, .slice a ps.length cp] h = some (iv (inclF size n root leaf ps), h) := by
  rw [D_fn2 T.h12]
  generalize hh0 : ({ h with lo := h.bs.length } : AHeap) = h0
  have h0lo : h0.lo = h0.bs.length := by rw [← hh0]
  have P0 : DigR C.old h0 a cp ps := by rw [← hh0]; exact ⟨P.1.lo, P.2⟩
  unfold inclF
  by_cases hsn : size ≤ n
  all_goals
    generalize hX : ABlock.cells (uv size :: bytesVals root) 36 = X
    generalize hY : ABlock.cells (bytesVals leaf) 31 = Y
    generalize hA : (h0.push X).push Y = A
    have aL : A.bs.length = h0.bs.length + 2 := by rw [← hA]; simp
    have aO : A.lo = h0.lo := by rw [← hA]; rfl
    have a0 : A.at h0.bs.length = some X := by rw [← hA]; exact push_old push_self
    have a1 : A.at (h0.bs.length + 1) = some Y := by rw [← hA]; exact push_self' (by simp)
    have fA : Fr h0 A (fun _ => False) := by rw [← hA]; exact Fr.push.push'
    have ru : rd1 (some X) 0 0 = some (uv size) := by rw [← hX]; rfl
    have rr : rdN (some X) 1 0 32 = some (bytesVals root) := by
      rw [← hX, rdN_cells (by simp [hr]), List.drop_succ_cons, List.drop_zero, List.take_of_length_le (by simp [hr])]
  · rw [if_pos hsn]
    simp [b12, bytes_ok, hX, hY, hA, a0, ru, hsn, r12]
  · rw [if_neg hsn]
    obtain ⟨g, v, e1, o1, f1, b1⟩ := steps_spec T n size (by omega) hs A (by omega)
    have hlen : (downF 64 n size).reverse.length = (downF 64 n size).length := List.length_reverse
    have hdl := downF_len 64 n size
    by_cases hlp : (downF 64 n size).length = ps.length
    · rw [if_neg (by omega)]
      have lg := f1.len
      have og := f1.lo
      have g0 : g.at h0.bs.length = some X := f1.get a0 (fun h => h)
      have g1 : g.at (h0.bs.length + 1) = some Y := f1.get a1 (fun h => h)
      have Pg : DigR C.old g a cp ps := (P0.fr fA (fun _ _ h => h)).fr f1 (fun _ _ h => h)
      have o1' : Own g 4 1 v (downF 64 n size).reverse.length (bools (downF 64 n size).reverse) := by rw [hlen]; exact o1
      obtain ⟨g', t', e2, u6, u4, f2, q2⟩ := incl_loop T TD hk (h0.bs.length + 1) (downF 64 n size).reverse ps (by omega) (by omega) v a cp (downF 64 n size).length 0 leaf g
        (ts (ts (ts (ts (ts (ts (ts (ts (ts (ts (ts (ts (ts (ts (ts (ts (ts (ts (ts (ts [.agg ⟨uv size :: bytesVals root⟩, uv n, .agg ⟨bytesVals leaf⟩, .slice a ps.length cp] 4 (.pointer (some ⟨h0.bs.length, 0, some 0⟩))) 6 (.pointer (some ⟨h0.bs.length + 1, 0, some 0⟩))) 8 (iv 0)) 12 (uv n)) 13 (.pointer (some ⟨h0.bs.length, 0, some 0⟩))) 14 (uv size)) 15 (.bool false)) 16 (uv n)) 17 (.pointer (some ⟨h0.bs.length, 0, some 0⟩))) 18 (uv size)) 19 v) 9 v) 20 v) 21 (iv ps.length)) 22 (.slice a ps.length cp)) 23 (iv ps.length)) 24 (.bool false)) 25 v) 26 (iv ps.length)) 27 (iv 0))
        (by omega) hlf o1' (fun j hj => by have := b1 j hj; omega) Pg (fun j hj => by have := P0.1.live_lt hj; omega) (by omega) (by rw [g1, ← hY]) (by simp) (by simp [hlp]) (by simp) (by simp) (by simp)
      have g0' : g'.at h0.bs.length = some X := f2.get g0 (by omega)
      rw [List.drop_zero, List.drop_zero] at q2
      generalize hfo : foldW (downF 64 n size).reverse ps leaf = fo at q2
      have fl : fo.length = 32 := by rw [← hfo]; exact foldW_length _ _ _ hlf
      have rf : rdN (some (.cells (bytesVals fo) 31)) 0 0 32 = some (bytesVals fo) := rd32 fl
      have eq := aeq_dig fl hr
      simp [List.replicate] at eq
      have e : R C r12 [.code b12] [.agg ⟨uv size :: bytesVals root⟩, uv n, .agg ⟨bytesVals leaf⟩, .slice a ps.length cp] [] h0 = some (iv (if fo ≠ root then 236 else 0), g') := by
        simp [b12, bytes_ok, hX, hY, hA, a0, ru, hsn, Dc_ok, e1, stp_ok o1.und, o1.lenV, hlp]
        rw [e2]
        by_cases hfr : fo = root
        · rw [hfr] at rf q2 eq
          simp [k12_0, r12, u6, u4, q2, rf, g0', rr, eq, hfr]
        · simp [k12_0, r12, u6, u4, q2, rf, g0', rr, eq, hfr]
      rw [e]
      exact pur_some rfl
    · rw [if_pos hlp]
      simp [b12, bytes_ok, hX, hY, hA, a0, ru, hsn, r12, Dc_ok, e1, stp_ok o1.und, o1.lenV, hlp]
  end Go.Ab.Aud

namespace Go.Ab.Aud
open Go.Sha
/-- the way down to where the smaller part ends: whether it is in the right part -/
def mdown : Nat → Nat → Nat → List Bool
  | 0, _, _ => []
  | f + 1, m, n => if m = 0 ∨ n ≤ m then [] else if lft n < m then true :: mdown f (m - lft n) (n - lft n) else false :: mdown f m (lft n)
theorem mdown_len : ∀ (f m n : Nat), (mdown f m n).length ≤ f
  | 0, _, _ => by simp [mdown]
  | f + 1, m, n => by
    unfold mdown
    split
    · simp
    · split
      · have := mdown_len f (m - lft n) (n - lft n); simp; omega
      · have := mdown_len f m (lft n); simp; omega
/-- both roots -/
def foldP : List Bool → List (List UInt8) → List UInt8 → List UInt8 → List UInt8 × List UInt8
  | true :: ws, p :: ps, a, b => foldP ws ps (sha (1 :: (p ++ a))) (sha (1 :: (p ++ b)))
  | false :: ws, p :: ps, a, b => foldP ws ps a (sha (1 :: (b ++ p)))
  | _, _, a, b => (a, b)
theorem foldP_length : ∀ (w : List Bool) (ps : List (List UInt8)) (a b : List UInt8), a.length = 32 → b.length = 32 → (foldP w ps a b).1.length = 32 ∧ (foldP w ps a b).2.length = 32
  | [], _, _, _, h, g => by simpa [foldP] using ⟨h, g⟩
  | true :: _, [], _, _, h, g => by simpa [foldP] using ⟨h, g⟩
  | false :: _, [], _, _, h, g => by simpa [foldP] using ⟨h, g⟩
  | true :: ws, p :: ps, a, b, _, _ => by rw [foldP]; exact foldP_length ws ps _ _ (sha_length _) (sha_length _)
  | false :: ws, p :: ps, a, b, h, _ => by rw [foldP]; exact foldP_length ws ps _ _ h (sha_length _)
def one1 (w : List Bool) : Nat := if true ∈ w then 1 else 0
def follF (m n : Nat) (oroot root : List UInt8) (ps : List (List UInt8)) : Nat :=
  if n < m then 230 else
  if ps.length ≠ one1 (mdown 64 m n) + (mdown 64 m n).length then 235 else
  if m = 0 then (if oroot ≠ sha [] ∨ (n = 0 ∧ root ≠ sha []) then 236 else 0) else
  if foldP (mdown 64 m n).reverse (ps.drop (one1 (mdown 64 m n))) (if one1 (mdown 64 m n) = 1 then ps.getD 0 [] else oroot) (if one1 (mdown 64 m n) = 1 then ps.getD 0 [] else oroot) = (oroot, root) then 0 else 236
variable {C : Ctx} (T : Tab_LLog C) (TD : Tab_LDig C) (hk : ∀ j, j < 64 → C.old 0 j = some (wv (kW j)))
section
include T
theorem fol_down (q : Nat) : ∀ (f m n : Nat) (l : List Bool) (v : Value) (h : AHeap) (t : List Value), n ≤ 2 ^ f → f ≤ 64 → m ≤ n → n < 18446744073709551616 → Own h 4 1 v l.length (bools l) → (∀ j, blkOf v = some j → q ≤ j) → q ≤ h.bs.length →
    l.length + f < 2 ^ 20 → h.lo ≤ h.bs.length → tg t 8 = uv m → tg t 9 = uv n → tg t 7 = v →
    ∃ h' v' t', (∀ k, R C r14 (.inLoop lp14_0 :: .inBlock 0 :: k) t [] h = R C r14 k t' [] h') ∧ tg t' 7 = v' ∧ tg t' 2 = tg t 2 ∧ tg t' 3 = tg t 3 ∧ tg t' 4 = tg t 4 ∧ Own h' 4 1 v' (l ++ mdown f m n).length (bools (l ++ mdown f m n)) ∧ Fr h h' (fun j => q ≤ j) ∧ (∀ j, blkOf v' = some j → q ≤ j) := by
  intro f
  induction f with
  | zero =>
    intro m n l v h t hs hf hn hs2 H hb hq hl hwf t8 t9 t7
    have hs1 : m = 0 ∨ n ≤ m := by simp at hs; omega
    have e : ∃ t', (∀ k, R C r14 (.inLoop lp14_0 :: .inBlock 0 :: k) t [] h = R C r14 k t' [] h) ∧ tg t' 7 = v ∧ tg t' 2 = tg t 2 ∧ tg t' 3 = tg t 3 ∧ tg t' 4 = tg t 4 := by
      refine ex_step (fun k => R_open lp14_0.eq_1) ?_
      by_cases h0 : 0 < m
      · simp [t8, t9, h0, show ¬ m < n by omega]
        exact ⟨_, fun _ => rfl, by simp [t7], by simp, by simp, by simp⟩
      · simp [t8, t9, h0]
        exact ⟨_, fun _ => rfl, by simp [t7], by simp, by simp, by simp⟩
    obtain ⟨t', e, u7, u2, u3, u4⟩ := e
    exact ⟨h, v, t', e, u7, u2, u3, u4, by simpa [mdown] using H, Fr.refl _ _, hb⟩
  | succ f ih =>
    intro m n l v h t hs hf hn hs2 H hb hq hl hwf t8 t9 t7
    by_cases hs1 : m = 0 ∨ n ≤ m
    · have e : ∃ t', (∀ k, R C r14 (.inLoop lp14_0 :: .inBlock 0 :: k) t [] h = R C r14 k t' [] h) ∧ tg t' 7 = v ∧ tg t' 2 = tg t 2 ∧ tg t' 3 = tg t 3 ∧ tg t' 4 = tg t 4 := by
        refine ex_step (fun k => R_open lp14_0.eq_1) ?_
        by_cases h0 : 0 < m
        · simp [t8, t9, h0, show ¬ m < n by omega]
          exact ⟨_, fun _ => rfl, by simp [t7], by simp, by simp, by simp⟩
        · simp [t8, t9, h0]
          exact ⟨_, fun _ => rfl, by simp [t7], by simp, by simp, by simp⟩
      obtain ⟨t', e, u7, u2, u3, u4⟩ := e
      refine ⟨h, v, t', e, u7, u2, u3, u4, ?_, Fr.refl _ _, hb⟩
      unfold mdown
      rw [if_pos hs1, List.append_nil]; exact H
    · have h2 : 2 ≤ n := by omega
      have k1 := lft_lt h2
      have k0 := lft_pos (n := n)
      have k2 := lft_ge h2
      have k3 := lft_pow h2 hs
      have e1 := left_spec T n h2 hs2
      have hu := H.und
      unfold mdown
      rw [if_neg hs1]
      by_cases hlt : lft n < m
      · rw [if_pos hlt]
        obtain ⟨v', h1, e2, o1, f1, b1⟩ := bool_append T (b := true) H hb hq (by omega) hwf
        have e : ∃ t', (∀ k, R C r14 (.inLoop lp14_0 :: .inBlock 0 :: k) t [] h = R C r14 (.inLoop lp14_0 :: .inBlock 0 :: k) t' [] h1) ∧ tg t' 8 = uv (m - lft n) ∧ tg t' 9 = uv (n - lft n) ∧ tg t' 7 = v' ∧ tg t' 2 = tg t 2 ∧ tg t' 3 = tg t 3 ∧ tg t' 4 = tg t 4 := by
          refine ex_step (fun k => R_open lp14_0.eq_1) ?_
          simp [t8, t9, t7, show 0 < m by omega, show m < n by omega, Dc_ok, e1, hlt, uv_sub (a := n) (b := lft n) (by omega) (by omega), uv_sub (a := m) (b := lft n) (by omega) (by omega), stp_ok hu, fillCells, splice, e2, stp_ok o1.und]
          exact ⟨_, fun _ => rfl, by simp, by simp, by simp, by simp, by simp, by simp⟩
        obtain ⟨t', e, u8, u9, u7, u2, u3, u4⟩ := e
        obtain ⟨h', v2, t2, a1, a2, x2, x3, x4, a3, a4, a5⟩ := ih (m - lft n) (n - lft n) (l ++ [true]) v' h1 t' (by omega) (by omega) (by omega) (by omega) o1 b1 (by have := f1.len; omega) (by simp; omega) (by rw [f1.lo]; have := f1.len; omega) u8 u9 u7
        refine ⟨h', v2, t2, fun k => (e k).trans (a1 k), a2, x2.trans u2, x3.trans u3, x4.trans u4, ?_, f1.trans a4 (fun _ h => h) (fun _ h _ => h), a5⟩
        simpa using a3
      · rw [if_neg hlt]
        obtain ⟨v', h1, e2, o1, f1, b1⟩ := bool_append T (b := false) H hb hq (by omega) hwf
        have e : ∃ t', (∀ k, R C r14 (.inLoop lp14_0 :: .inBlock 0 :: k) t [] h = R C r14 (.inLoop lp14_0 :: .inBlock 0 :: k) t' [] h1) ∧ tg t' 8 = uv m ∧ tg t' 9 = uv (lft n) ∧ tg t' 7 = v' ∧ tg t' 2 = tg t 2 ∧ tg t' 3 = tg t 3 ∧ tg t' 4 = tg t 4 := by
          refine ex_step (fun k => R_open lp14_0.eq_1) ?_
          simp [t8, t9, t7, show 0 < m by omega, show m < n by omega, Dc_ok, e1, hlt, stp_ok hu, fillCells, splice, e2, stp_ok o1.und]
          exact ⟨_, fun _ => rfl, by simp [t8], by simp, by simp, by simp, by simp, by simp⟩
        obtain ⟨t', e, u8, u9, u7, u2, u3, u4⟩ := e
        obtain ⟨h', v2, t2, a1, a2, x2, x3, x4, a3, a4, a5⟩ := ih m (lft n) (l ++ [false]) v' h1 t' k3 (by omega) (by omega) (by omega) o1 b1 (by have := f1.len; omega) (by simp; omega) (by rw [f1.lo]; have := f1.len; omega) u8 u9 u7
        refine ⟨h', v2, t2, fun k => (e k).trans (a1 k), a2, x2.trans u2, x3.trans u3, x4.trans u4, ?_, f1.trans a4 (fun _ h => h) (fun _ h _ => h), a5⟩
        simpa using a3
theorem fol_scan (w : List Bool) (hw : w.length < 2 ^ 20) (v : Value) : ∀ (d i : Nat) (h : AHeap) (t : List Value), i + d = w.length → Own h 4 1 v w.length (bools w) → tg t 53 = v → tg t 54 = iv w.length → tg t 55 = iv i → tg t 11 = iv (one1 (w.take i)) →
    ∃ t', (∀ k, R C r14 (.inLoop lp14_1 :: .inBlock 2 :: k) t [] h = R C r14 k t' [] h) ∧ tg t' 11 = iv (one1 w) ∧ tg t' 7 = tg t 7 ∧ tg t' 2 = tg t 2 ∧ tg t' 3 = tg t 3 ∧ tg t' 4 = tg t 4 := by
  intro d
  induction d with
  | zero =>
    intro i h t hd H t53 t54 t55 t11
    have hi : i = w.length := by omega
    rw [List.take_of_length_le (by omega)] at t11
    refine ex_step (fun k => R_open lp14_1.eq_1) ?_
    simp [t54, t55, hi]
    exact ⟨_, fun _ => rfl, by simp [t11], by simp, by simp, by simp, by simp⟩
  | succ d ih =>
    intro i h t hd H t53 t54 t55 t11
    have hi : i < w.length := by omega
    have hv0 : ∃ va', v = .slice (some va') w.length 0 := by
      rcases H with ⟨_, h0, _⟩ | ⟨b, g', last, hv, _⟩
      · omega
      · exact ⟨_, hv⟩
    obtain ⟨va', rfl⟩ := hv0
    have rb : read1 C.old h (adda va' i) = some (.bool w[i]) := by
      rw [own_rd H hi]
      simp [bools, hi]
    have ht : w.take (i + 1) = w.take i ++ [w[i]] := by rw [List.take_succ_eq_append_getElem hi]
    generalize hwi : w[i] = b at rb ht
    have e : ∃ t', (∀ k, R C r14 (.inLoop lp14_1 :: .inBlock 2 :: k) t [] h = R C r14 (.inLoop lp14_1 :: .inBlock 2 :: k) t' [] h) ∧ tg t' 53 = .slice (some va') w.length 0 ∧ tg t' 54 = iv w.length ∧ tg t' 55 = iv (i + 1) ∧ tg t' 11 = iv (one1 (w.take (i + 1))) ∧ tg t' 7 = tg t 7 ∧ tg t' 2 = tg t 2 ∧ tg t' 3 = tg t 3 ∧ tg t' 4 = tg t 4 := by
      refine ex_step (fun k => R_open lp14_1.eq_1) ?_
      cases b
      · have : one1 (w.take (i + 1)) = one1 (w.take i) := by rw [ht]; simp [one1]
        rw [this]
        simp [t53, t54, t55, hi, ixS_iv hi, rb, iv_add (a := i) (b := 1) (by omega)]
        exact ⟨_, fun _ => rfl, by simp [t53], by simp [t54], by simp, by simp [t11], by simp, by simp, by simp, by simp⟩
      · have : one1 (w.take (i + 1)) = 1 := by rw [ht]; simp [one1]
        rw [this]
        simp [t53, t54, t55, hi, ixS_iv hi, rb, iv_add (a := i) (b := 1) (by omega)]
        exact ⟨_, fun _ => rfl, by simp [t53], by simp [t54], by simp, by simp, by simp, by simp, by simp, by simp⟩
    obtain ⟨t', e, u53, u54, u55, u11, u7, u2, u3, u4⟩ := e
    obtain ⟨t2, a1, a2, a3, a4, a5, a6⟩ := ih (i + 1) h t' (by omega) H u53 u54 u55 u11
    exact ⟨t2, fun k => (e k).trans (a1 k), a2, a3.trans u7, a4.trans u2, a5.trans u3, a6.trans u4⟩
end
/-- the number before n, or -1 -/
def pre (n : Nat) : Value := .int .i64 ((n : Int) - 1)
theorem pre_succ {n : Nat} : pre (n + 1) = iv n := by
  unfold pre iv
  congr 1
  omega
theorem pre_und {n : Nat} : isUnd (pre n) = false := nr rfl
theorem pre_zero_geq : abin .geq (pre 0) (iv 0) = some (.bool false) := by rfl
theorem iv_pre {n : Nat} (h : n < 2 ^ 40) : abin .sub (iv n) (iv 1) = some (pre n) := by
  cases n with
  | zero => rfl
  | succ n => rw [iv_sub (by omega) (by omega), pre_succ]; rfl
include T TD hk
theorem fol_up (p q : Nat) (hpq : p ≠ q) (w : List Bool) (ps : List (List UInt8)) (o : Nat) (ho : o + w.length = ps.length) (ho1 : o ≤ 1) (hl : w.length < 2 ^ 20) (v : Value) (a : Option Addr) (cp : Nat) :
    ∀ (d : Nat) (x y : List UInt8) (g : AHeap) (t : List Value), d ≤ w.length → x.length = 32 → y.length = 32 → Own g 4 1 v w.length (bools w) → (∀ j, blkOf v = some j → j ≠ p ∧ j ≠ q) → DigR C.old g a cp ps → (∀ j, Live (.slice a ps.length cp) j → j ≠ p ∧ j ≠ q) →
    g.lo ≤ p → g.lo ≤ q → g.lo ≤ g.bs.length → g.at p = some (.cells (bytesVals x) 31) → g.at q = some (.cells (bytesVals y) 31) → tg t 2 = .slice a ps.length cp → tg t 7 = v → tg t 11 = iv o → tg t 17 = pre d → tg t 15 = .pointer (some ⟨p, 0, some 0⟩) → tg t 16 = .pointer (some ⟨q, 0, some 0⟩) →
    ∃ g' t', (∀ k, R C r14 (.inLoop lp14_2 :: .inBlock 4 :: k) t [] g = R C r14 k t' [] g') ∧ tg t' 15 = .pointer (some ⟨p, 0, some 0⟩) ∧ tg t' 16 = .pointer (some ⟨q, 0, some 0⟩) ∧ tg t' 3 = tg t 3 ∧ tg t' 4 = tg t 4 ∧ Fr g g' (fun j => j = p ∨ j = q) ∧
      g'.at p = some (.cells (bytesVals (foldP (w.take d).reverse (ps.drop (o + w.length - d)) x y).1) 31) ∧ g'.at q = some (.cells (bytesVals (foldP (w.take d).reverse (ps.drop (o + w.length - d)) x y).2) 31) := by
  intro d
  induction d with
  | zero =>
    intro x y g t hd hx hy H hb P hP hlp hlq hlo hgp hgq t2 t7 t11 t17 t15 t16
    have e : ∃ t', (∀ k, R C r14 (.inLoop lp14_2 :: .inBlock 4 :: k) t [] g = R C r14 k t' [] g) ∧ tg t' 15 = .pointer (some ⟨p, 0, some 0⟩) ∧ tg t' 16 = .pointer (some ⟨q, 0, some 0⟩) ∧ tg t' 3 = tg t 3 ∧ tg t' 4 = tg t 4 := by
      refine ex_step (fun k => R_open lp14_2.eq_1) ?_
      simp [t17, pre_zero_geq, stp_ok pre_und]
      exact ⟨_, fun _ => rfl, by simp [t15], by simp [t16], by simp, by simp⟩
    obtain ⟨t', e, u15, u16, u3, u4⟩ := e
    exact ⟨g, t', e, u15, u16, u3, u4, Fr.refl _ _, by simpa [foldP] using hgp, by simpa [foldP] using hgq⟩
  | succ d ih =>
    intro x y g t hd hx hy H hb P hP hlp hlq hlo hgp hgq t2 t7 t11 t17 t15 t16
    rw [pre_succ] at t17
    have hi : d < w.length := by omega
    have hix : o + w.length - 1 - d < ps.length := by omega
    obtain ⟨a', rfl, rp⟩ := P.get hix
    have lo' := get32 P.2 hix
    have hv0 : ∃ va', v = .slice (some va') w.length 0 := by
      rcases H with ⟨_, h0, _⟩ | ⟨b, g', last, hv, _⟩
      · omega
      · exact ⟨_, hv⟩
    obtain ⟨va', hv'⟩ := hv0
    generalize hZ : ABlock.cells (List.replicate 32 (bv 0)) 31 = Z
    have hZ0 := hZ
    simp [List.replicate] at hZ
    have hz : Value.int .u8 0 = bv 0 := rfl
    generalize hoi : ps.getD (o + w.length - 1 - d) [] = oi at rp lo'
    have rp' : readN C.old g (adda a' ((o + w.length - 1 - d) * 32)) 32 = some (bytesVals oi) := rp
    have fZ : Fr g (g.push Z) (fun _ => False) := Fr.push
    have rpZ : ∀ g2, Fr g g2 (fun j => j = g.bs.length) → True := fun _ _ => trivial
    have PZ := P.fr fZ (fun _ _ h => h)
    obtain ⟨a2, ha2, rpz⟩ := PZ.get hix
    injection ha2 with ha2
    subst ha2
    rw [hoi] at rpz
    have zat : (g.push Z).at g.bs.length = some Z := push_self
    have w0 := lay32 lo' (g.push Z) g.bs.length
    rw [hZ0] at w0
    generalize hg1 : (g.push Z).put g.bs.length (.cells (bytesVals oi) 31) = g1 at w0
    have f1 : Fr g g1 (fun _ => False) := by rw [← hg1]; exact fZ.put' (.inr (Nat.le_refl _))
    have g1o : g1.at g.bs.length = some (.cells (bytesVals oi) 31) := by rw [← hg1]; exact put_self (by simp)
    have g1p : g1.at p = some (.cells (bytesVals x) 31) := f1.get hgp (fun h => h)
    have g1q : g1.at q = some (.cells (bytesVals y) 31) := f1.get hgq (fun h => h)
    have H1 := H.fr f1 (fun _ _ h => h)
    have l1 := f1.lo
    have rb : read1 C.old g1 (adda va' d) = some (.bool w[d]) := by
      rw [hv'] at H1
      rw [own_rd H1 hi]
      simp [bools, hi]
    have ht : w.take (d + 1) = w.take d ++ [w[d]] := by rw [List.take_succ_eq_append_getElem hi]
    have hdp : ps.drop (o + w.length - (d + 1)) = oi :: ps.drop (o + w.length - d) := by
      rw [List.drop_eq_getElem_cons (by omega), ← hoi]
      simp [List.getD_eq_getElem?_getD, hix, show o + w.length - (d + 1) = o + w.length - 1 - d by omega, show o + w.length - 1 - d + 1 = o + w.length - d by omega]
    rw [ht, hdp, List.reverse_append]
    generalize hwi : w[d] = b at rb ht
    have rx : rdN (some (.cells (bytesVals x) 31)) 0 0 32 = some (bytesVals x) := rd32 hx
    have ry : rdN (some (.cells (bytesVals y) 31)) 0 0 32 = some (bytesVals y) := rd32 hy
    have ro : rdN (some (.cells (bytesVals oi) 31)) 0 0 32 = some (bytesVals oi) := rd32 lo'
    have wx : ∀ (g : AHeap) (q : Nat) (x y : List UInt8), x.length = 32 → y.length = 32 → wrN g q (some (.cells (bytesVals x) 31)) 0 0 (bytesVals y) = some (g.put q (.cells (bytesVals y) 31)) := by
      intro g q x y hx hy
      rw [wrN_cells (by simp [hx, hy]) (by simp [bytesVals_eq])]
      congr 3
      simp [splice, hx, hy]
    cases b
    · have e2 := node_spec TD hk g1 y oi hy lo'
      have w1 := wx g1 q y (sha (1 :: (y ++ oi))) hy (sha_length _)
      have e : ∃ t', (∀ k, R C r14 (.inLoop lp14_2 :: .inBlock 4 :: k) t [] g = R C r14 (.inLoop lp14_2 :: .inBlock 4 :: k) t' [] (g1.put q (.cells (bytesVals (sha (1 :: (y ++ oi)))) 31))) ∧ tg t' 2 = .slice (some a') ps.length cp ∧ tg t' 7 = v ∧ tg t' 11 = iv o ∧ tg t' 17 = pre d ∧ tg t' 15 = .pointer (some ⟨p, 0, some 0⟩) ∧ tg t' 16 = .pointer (some ⟨q, 0, some 0⟩) ∧ tg t' 3 = tg t 3 ∧ tg t' 4 = tg t 4 := by
        refine ex_step (fun k => R_open lp14_2.eq_1) ?_
        simp [t2, t7, t11, t15, t16, t17, hv', iv_add (a := o) (b := w.length) (by omega), iv_sub (a := o + w.length) (b := 1) (by omega) (by omega), iv_sub (a := o + w.length - 1) (b := d) (by omega) (by omega), ixS_iv hix, rp', hz, hZ, rpz, writeN_wr, hlo, zat, bytes_ok, lo', w0, ixS_iv hi, rb, g1q, ry, g1o, ro, Dc_ok, e2, hlq, l1, sha_length, w1, iv_pre (n := d) (by omega), stp_ok pre_und]
        exact ⟨_, fun _ => rfl, by simp [t2], by simp [t7, hv'], by simp [t11], by simp, by simp [t15], by simp [t16], by simp, by simp⟩
      obtain ⟨t', e, u2, u7, u11, u17, u15, u16, u3, u4⟩ := e
      have f2 : Fr g (g1.put q (.cells (bytesVals (sha (1 :: (y ++ oi)))) 31)) (fun j => j = p ∨ j = q) := f1.trans (Fr.put (S := fun j => j = q) rfl) (fun _ h => h.elim) (fun _ h _ => .inr h)
      have hq1 := get_lt g1q
      have lle := f1.len
      obtain ⟨g', tt, a1, a2, a3, a4, a5, a6, a7, a8⟩ := ih x (sha (1 :: (y ++ oi))) _ t' (by omega) hx (sha_length _) (H.fr f2 (fun j hj hc => by have := hb j hj; omega)) hb (P.fr f2 (fun j hj hc => by have := hP j hj; omega)) hP (by simp; omega) (by simp; omega) (by simp; omega) (by rw [put_ne (by omega)]; exact g1p) (put_self hq1) u2 u7 u11 u17 u15 u16
      refine ⟨g', tt, fun k => (e k).trans (a1 k), a2, a3, a4.trans u3, a5.trans u4, f2.trans a6 (fun _ h => h) (fun _ h _ => h), ?_, ?_⟩
      · rw [a7]; rfl
      · rw [a8]; rfl
    · have e1 := node_spec TD hk g1 oi x lo' hx
      have e2 := node_spec TD hk g1 oi y lo' hy
      have w1 := wx g1 p x (sha (1 :: (oi ++ x))) hx (sha_length _)
      generalize hg2 : g1.put p (.cells (bytesVals (sha (1 :: (oi ++ x)))) 31) = g2 at w1
      have g2q : g2.at q = some (.cells (bytesVals y) 31) := by rw [← hg2, put_ne hpq]; exact g1q
      have l2 : g2.lo = g1.lo := by rw [← hg2]; rfl
      have w2 := wx g2 q y (sha (1 :: (oi ++ y))) hy (sha_length _)
      have e : ∃ t', (∀ k, R C r14 (.inLoop lp14_2 :: .inBlock 4 :: k) t [] g = R C r14 (.inLoop lp14_2 :: .inBlock 4 :: k) t' [] (g2.put q (.cells (bytesVals (sha (1 :: (oi ++ y)))) 31))) ∧ tg t' 2 = .slice (some a') ps.length cp ∧ tg t' 7 = v ∧ tg t' 11 = iv o ∧ tg t' 17 = pre d ∧ tg t' 15 = .pointer (some ⟨p, 0, some 0⟩) ∧ tg t' 16 = .pointer (some ⟨q, 0, some 0⟩) ∧ tg t' 3 = tg t 3 ∧ tg t' 4 = tg t 4 := by
        refine ex_step (fun k => R_open lp14_2.eq_1) ?_
        simp [t2, t7, t11, t15, t16, t17, hv', iv_add (a := o) (b := w.length) (by omega), iv_sub (a := o + w.length) (b := 1) (by omega) (by omega), iv_sub (a := o + w.length - 1) (b := d) (by omega) (by omega), ixS_iv hix, rp', hz, hZ, rpz, writeN_wr, hlo, zat, bytes_ok, lo', w0, ixS_iv hi, rb, g1p, rx, g1q, ry, g1o, ro, Dc_ok, e1, e2, hlp, hlq, l1, sha_length, w1, l2, g2q, w2, iv_pre (n := d) (by omega), stp_ok pre_und]
        exact ⟨_, fun _ => rfl, by simp [t2], by simp [t7, hv'], by simp [t11], by simp, by simp [t15], by simp [t16], by simp, by simp⟩
      obtain ⟨t', e, u2, u7, u11, u17, u15, u16, u3, u4⟩ := e
      have f2' : Fr g g2 (fun j => j = p ∨ j = q) := by rw [← hg2]; exact f1.trans (Fr.put (S := fun j => j = p) rfl) (fun _ h => h.elim) (fun _ h _ => .inl h)
      have f2 : Fr g (g2.put q (.cells (bytesVals (sha (1 :: (oi ++ y)))) 31)) (fun j => j = p ∨ j = q) := f2'.trans (Fr.put (S := fun j => j = q) rfl) (fun _ h => h) (fun _ h _ => .inr h)
      have hq1 := get_lt g2q
      have hp1 := get_lt g1p
      have lle := f2'.len
      have g2p : g2.at p = some (.cells (bytesVals (sha (1 :: (oi ++ x)))) 31) := by rw [← hg2]; exact put_self hp1
      obtain ⟨g', tt, a1, a2, a3, a4, a5, a6, a7, a8⟩ := ih (sha (1 :: (oi ++ x))) (sha (1 :: (oi ++ y))) _ t' (by omega) (sha_length _) (sha_length _) (H.fr f2 (fun j hj hc => by have := hb j hj; omega)) hb (P.fr f2 (fun j hj hc => by have := hP j hj; omega)) hP (by simp; omega) (by simp; omega) (by simp; omega) (by rw [put_ne (by omega)]; exact g2p) (put_self hq1) u2 u7 u11 u17 u15 u16
      refine ⟨g', tt, fun k => (e k).trans (a1 k), a2, a3, a4.trans u3, a5.trans u4, f2.trans a6 (fun _ h => h) (fun _ h _ => h), ?_, ?_⟩
      · rw [a7]; rfl
      · rw [a8]; rfl
end Go.Ab.Aud

namespace Go.Ab.Aud
open Go.Sha
@[simp] theorem grd_tuple {C : Ctx} {rs : List ARes} {l : Array Value} {w : Bool} {dn : Option Nat} {op : AOp} {u : List Nat} {os : List AOper} {k : List AItem} {t : List Value} {ds : List ADefer} {h : AHeap} :
    grd C rs (.tuple l) w dn op u os k t ds h = R C rs (.ops os :: k) (putD t dn (.tuple #[])) ds h := nr rfl
variable {C : Ctx} (T : Tab_LLog C) (TD : Tab_LDig C) (hk : ∀ j, j < 64 → C.old 0 j = some (wv (kW j)))
include T TD hk
/-- what comes behind the way down -/
theorem fol_tail (g : AHeap) (t : List Value) (bx bY : Nat) (m n : Nat) (oroot root : List UInt8) (ps : List (List UInt8)) (w : List Bool) (v : Value) (a : Option Addr) (cp : Nat) (X Y : ABlock) (ho : oroot.length = 32) (hr : root.length = 32)
    (hw : w.length ≤ 64) (H : Own g 4 1 v w.length (bools w)) (P : DigR C.old g a cp ps) (hwf : g.lo ≤ g.bs.length) (hX : X = .cells (uv m :: bytesVals oroot) 36) (hY : Y = .cells (uv n :: bytesVals root) 36) (g0 : g.at bx = some X) (g1 : g.at bY = some Y)
    (t2 : tg t 2 = .slice a ps.length cp) (t3 : tg t 3 = .pointer (some ⟨bx, 0, some 0⟩)) (t4 : tg t 4 = .pointer (some ⟨bY, 0, some 0⟩)) (t7 : tg t 7 = v) (t11 : tg t 11 = iv (one1 w)) :
    ∃ g', R C r14 [.code k14_1] t [] g = some (iv (if ps.length ≠ one1 w + w.length then 235 else
  if m = 0 then (if oroot ≠ sha [] ∨ (n = 0 ∧ root ≠ sha []) then 236 else 0) else
  if foldP w.reverse (ps.drop (one1 w)) (if one1 w = 1 then ps.getD 0 [] else oroot) (if one1 w = 1 then ps.getD 0 [] else oroot) = (oroot, root) then 0 else 236), g') := by
  have ru : rd1 (some X) 0 0 = some (uv m) := by rw [hX]; rfl
  have ru' : rd1 (some Y) 0 0 = some (uv n) := by rw [hY]; rfl
  have rr : rdN (some X) 1 0 32 = some (bytesVals oroot) := by
    rw [hX, rdN_cells (by simp [ho]), List.drop_succ_cons, List.drop_zero, List.take_of_length_le (by simp [ho])]
  have rr' : rdN (some Y) 1 0 32 = some (bytesVals root) := by
    rw [hY, rdN_cells (by simp [hr]), List.drop_succ_cons, List.drop_zero, List.take_of_length_le (by simp [hr])]
  have h1 : one1 w ≤ 1 := by unfold one1; split <;> omega
  by_cases hlp : ps.length = one1 w + w.length
  · rw [if_neg (by omega)]
    have hlp' := eq_true hlp
    have hz : Value.int .u8 0 = bv 0 := rfl
    generalize hZ : ABlock.cells (List.replicate 32 (bv 0)) 31 = Z
    have hZ0 := hZ
    simp [List.replicate] at hZ
    have e1 := dsum_spec TD hk g [] none 0 0 ⟨rfl, rfl, rfl⟩ (by omega)
    have w0 := lay32 (sha_length []) (g.push Z) g.bs.length
    rw [hZ0] at w0
    generalize hA : (g.push Z).put g.bs.length (.cells (bytesVals (sha [])) 31) = A at w0
    have zat : (g.push Z).at g.bs.length = some Z := push_self
    have fA : Fr g A (fun _ => False) := by rw [← hA]; exact Fr.push.put' (.inr (Nat.le_refl _))
    have An : A.at g.bs.length = some (.cells (bytesVals (sha [])) 31) := by rw [← hA]; exact put_self (by simp)
    have Al : A.bs.length = g.bs.length + 1 := by rw [← hA]; simp
    have Ao := fA.lo
    have A0 : A.at bx = some X := fA.get g0 (fun h => h)
    have A1 : A.at bY = some Y := fA.get g1 (fun h => h)
    have rn : rdN (some (.cells (bytesVals (sha [])) 31)) 0 0 32 = some (bytesVals (sha [])) := rd32 (sha_length [])
    by_cases hm : m = 0
    · rw [if_pos hm]
      have q1 := aeq_dig ho (sha_length [])
      have q2 := aeq_dig hr (sha_length [])
      simp [List.replicate] at q1 q2
      refine ⟨A, ?_⟩
      by_cases c1 : oroot = sha []
      · rw [c1] at rr q1
        by_cases c2 : n = 0
        · by_cases c3 : root = sha []
          · rw [c3] at rr' q2
            simp [k14_1, t2, t3, t4, t7, t11, hlp', stp_ok H.und, H.lenV, iv_add (a := one1 w) (b := w.length) (by omega), Dc_ok, e1, hz, hZ, bytes_ok, sha_length, writeN_wr, hwf, zat, w0, A0, A1, An, ru, ru', rr, rr', rn, q1, q2, hm, c1, c2, c3, r14]
          · simp [k14_1, t2, t3, t4, t7, t11, hlp', stp_ok H.und, H.lenV, iv_add (a := one1 w) (b := w.length) (by omega), Dc_ok, e1, hz, hZ, bytes_ok, sha_length, writeN_wr, hwf, zat, w0, A0, A1, An, ru, ru', rr, rr', rn, q1, q2, hm, c1, c2, c3, r14]
        · simp [k14_1, t2, t3, t4, t7, t11, hlp', stp_ok H.und, H.lenV, iv_add (a := one1 w) (b := w.length) (by omega), Dc_ok, e1, hz, hZ, bytes_ok, sha_length, writeN_wr, hwf, zat, w0, A0, A1, An, ru, ru', rr, rr', rn, q1, q2, hm, c1, c2, r14]
      · simp [k14_1, t2, t3, t4, t7, t11, hlp', stp_ok H.und, H.lenV, iv_add (a := one1 w) (b := w.length) (by omega), Dc_ok, e1, hz, hZ, bytes_ok, sha_length, writeN_wr, hwf, zat, w0, A0, A1, An, ru, ru', rr, rr', rn, q1, q2, hm, c1, r14]
    · rw [if_neg hm]
      generalize hst : (if one1 w = 1 then ps.getD 0 [] else oroot) = st
      have stl : st.length = 32 := by
        rw [← hst]; split
        · exact get32 P.2 (by omega)
        · exact ho
      have wx : ∀ (g : AHeap) (q : Nat) (x y : List UInt8), x.length = 32 → y.length = 32 → wrN g q (some (.cells (bytesVals x) 31)) 0 0 (bytesVals y) = some (g.put q (.cells (bytesVals y) 31)) := by
        intro g q x y hx hy
        rw [wrN_cells (by simp [hx, hy]) (by simp [bytesVals_eq])]
        congr 3
        simp [splice, hx, hy]
      have wz := lay32 ho (A.push Z) A.bs.length
      rw [hZ0] at wz
      have zat2 : (A.push Z).at A.bs.length = some Z := push_self
      generalize hB : (A.push Z).put A.bs.length (.cells (bytesVals oroot) 31) = B at wz
      have Bp : B.at A.bs.length = some (.cells (bytesVals oroot) 31) := by rw [← hB]; exact put_self (by simp)
      have fB : Fr A B (fun _ => False) := by rw [← hB]; exact Fr.push.put' (.inr (Nat.le_refl _))
      have Bl : B.bs.length = A.bs.length + 1 := by rw [← hB]; simp
      have Bo := fB.lo
      have wB := wx B A.bs.length oroot st ho stl
      generalize hD : B.put A.bs.length (.cells (bytesVals st) 31) = E at wB
      have Ep : E.at A.bs.length = some (.cells (bytesVals st) 31) := by rw [← hD]; exact put_self (by omega)
      have fE : Fr A E (fun _ => False) := by rw [← hD]; exact fB.put' (.inr (Nat.le_refl _))
      have El : E.bs.length = A.bs.length + 1 := by rw [← hD]; simpa using Bl
      have Eo := fE.lo
      have rst : rdN (some (.cells (bytesVals st) 31)) 0 0 32 = some (bytesVals st) := rd32 stl
      have zat3 : (E.push Z).at E.bs.length = some Z := push_self
      have w3 := lay32 stl (E.push Z) E.bs.length
      rw [hZ0] at w3
      generalize hG : (E.push Z).put E.bs.length (.cells (bytesVals st) 31) = G at w3
      have Gq : G.at E.bs.length = some (.cells (bytesVals st) 31) := by rw [← hG]; exact put_self (by simp)
      have fG : Fr E G (fun _ => False) := by rw [← hG]; exact Fr.push.put' (.inr (Nat.le_refl _))
      have Gl : G.bs.length = E.bs.length + 1 := by rw [← hG]; simp
      have Go := fG.lo
      have Gp := fG.get Ep (fun h => h)
      have fgG : Fr g G (fun _ => False) := (fA.trans fE (S'' := fun _ => False) (fun _ h => h) (fun _ h _ => h)).trans fG (fun _ h => h) (fun _ h _ => h)
      have G0 := fgG.get g0 (fun h => h)
      have G1 := fgG.get g1 (fun h => h)
      have hAl : g.lo ≤ A.bs.length := by omega
      have hEl : g.lo ≤ E.bs.length := by omega
      have hb1 := get_lt g0
      have hb2 := get_lt g1
      obtain ⟨t', e2, c2, c7, c11, c17, c15, c16, c3, c4⟩ : ∃ t', (R C r14 [.code k14_1] t [] g = R C r14 (.inLoop lp14_2 :: .inBlock 4 :: [.code k14_0]) t' [] G) ∧ tg t' 2 = .slice a ps.length cp ∧ tg t' 7 = v ∧ tg t' 11 = iv (one1 w) ∧ tg t' 17 = pre w.length ∧ tg t' 15 = .pointer (some ⟨A.bs.length, 0, some 0⟩) ∧ tg t' 16 = .pointer (some ⟨E.bs.length, 0, some 0⟩) ∧ tg t' 3 = tg t 3 ∧ tg t' 4 = tg t 4 := by
        by_cases ho1 : one1 w = 1
        · have Pf : DigR C.old B a cp ps := (P.fr fA (fun _ _ h => h)).fr fB (fun _ _ h => h)
          obtain ⟨a', rfl, rp⟩ := Pf.get (i := 0) (by omega)
          rw [if_pos ho1] at hst
          rw [hst] at rp
          simp [k14_1, t2, t3, t4, t7, t11, hlp', stp_ok H.und, H.lenV, iv_add (a := one1 w) (b := w.length) (by omega), Dc_ok, e1, hz, hZ, bytes_ok, sha_length, writeN_wr, hwf, zat, w0, A0, A1, ru, rr, hm, hAl, hEl, Ao, zat2, ho, wz, eq_true ho1, ixS_iv (show 0 < ps.length by omega), rp, stl, Bo, Bp, wB, Ep, rst, Eo, zat3, w3, iv_pre (n := w.length) (by omega), stp_ok pre_und]
          exact ⟨_, rfl, by simp [t2], by simp [t7], by simp [t11], by simp, by simp, by simp, by simp [t3], by simp [t4]⟩
        · rw [if_neg ho1] at hst
          have hEB : E = B := by rw [← hD, ← hst]; rw [← hB, put_put]
          rw [hst] at wz
          simp [k14_1, t2, t3, t4, t7, t11, hlp', stp_ok H.und, H.lenV, iv_add (a := one1 w) (b := w.length) (by omega), Dc_ok, e1, hz, hZ, bytes_ok, sha_length, writeN_wr, hwf, zat, w0, A0, A1, ru, rr, hm, hAl, hEl, Ao, zat2, ho, hst, wz, eq_false ho1, stl, Bo, ← hEB, Ep, rst, Eo, zat3, w3, iv_pre (n := w.length) (by omega), stp_ok pre_und]
          exact ⟨_, rfl, by simp [t2], by simp [t7], by simp [t11], by simp, by simp, by simp, by simp [t3], by simp [t4]⟩
      obtain ⟨g', t2', e3, d15, d16, d3, d4, f3, q1, q2⟩ := fol_up T TD hk A.bs.length E.bs.length (by omega) w ps (one1 w) hlp.symm h1 (by omega) v a cp w.length st st G t' (Nat.le_refl _) stl stl (H.fr fgG (fun _ _ h => h)) (fun j hj => by have := H.blk hj; omega) (P.fr fgG (fun _ _ h => h)) (fun j hj => by have := P.1.live_lt hj; omega) (by omega) (by omega) (by omega) Gp Gq c2 c7 c11 c17 c15 c16
      rw [List.take_length, Nat.add_sub_cancel] at q1 q2
      obtain ⟨fl1, fl2⟩ := foldP_length w.reverse (ps.drop (one1 w)) st st stl stl
      generalize foldP w.reverse (ps.drop (one1 w)) st st = fo at q1 q2 fl1 fl2
      obtain ⟨fa, fb⟩ := fo
      simp only at q1 q2 fl1 fl2
      have s0 : g'.at bx = some X := f3.get G0 (by omega)
      have s1 : g'.at bY = some Y := f3.get G1 (by omega)
      have ra : rdN (some (.cells (bytesVals fa) 31)) 0 0 32 = some (bytesVals fa) := rd32 fl1
      have rb : rdN (some (.cells (bytesVals fb) 31)) 0 0 32 = some (bytesVals fb) := rd32 fl2
      have x1 := aeq_dig fl1 ho
      have x2 := aeq_dig fl2 hr
      simp [List.replicate] at x1 x2
      refine ⟨g', ?_⟩
      rw [e2, e3]
      by_cases y1 : fa = oroot
      · rw [y1] at q1 ra x1
        by_cases y2 : fb = root
        · rw [y2] at q2 rb x2
          simp [k14_0, d15, d16, d3, d4, c3, c4, t3, t4, q1, q2, s0, s1, ra, rb, rr, rr', x1, x2, y1, y2, r14]
        · simp [k14_0, d15, d16, d3, d4, c3, c4, t3, t4, q1, q2, s0, s1, ra, rb, rr, rr', x1, x2, y1, y2, r14]
      · simp [k14_0, d15, d16, d3, d4, c3, c4, t3, t4, q1, q2, s0, s1, ra, rb, rr, rr', x1, x2, y1, r14]
  · rw [if_pos hlp]
    refine ⟨g, ?_⟩
    simp [k14_1, t2, t7, t11, stp_ok H.und, H.lenV, iv_add (a := one1 w) (b := w.length) (by omega), hlp, r14]
set_option maxHeartbeats 2000000 in
theorem foll_spec (h : AHeap) (m n : Nat) (oroot root : List UInt8) (ps : List (List UInt8)) (ho : oroot.length = 32) (hr : root.length = 32) (hm : m < 18446744073709551616) (hn : n < 18446744073709551616) (a : Option Addr) (cp : Nat) (P : DigR C.old h a cp ps) :
    D C 14 [.agg ⟨uv m :: bytesVals oroot⟩, .agg ⟨uv n :: bytesVals root⟩, .slice a ps.length cp] h = some (iv (follF m n oroot root ps), h) := by
  rw [D_fn2 T.h14]
  generalize hh0 : ({ h with lo := h.bs.length } : AHeap) = h0
  have h0lo : h0.lo = h0.bs.length := by rw [← hh0]
  have P0 : DigR C.old h0 a cp ps := by rw [← hh0]; exact ⟨P.1.lo, P.2⟩
  unfold follF
  by_cases hnm : n < m
  all_goals
    generalize hX : ABlock.cells (uv m :: bytesVals oroot) 36 = X
    generalize hY : ABlock.cells (uv n :: bytesVals root) 36 = Y
    generalize hA : (h0.push X).push Y = A
    have aL : A.bs.length = h0.bs.length + 2 := by rw [← hA]; simp
    have aO : A.lo = h0.lo := by rw [← hA]; rfl
    have a0 : A.at h0.bs.length = some X := by rw [← hA]; exact push_old push_self
    have a1 : A.at (h0.bs.length + 1) = some Y := by rw [← hA]; exact push_self' (by simp)
    have fA : Fr h0 A (fun _ => False) := by rw [← hA]; exact Fr.push.push'
    have ru : rd1 (some X) 0 0 = some (uv m) := by rw [← hX]; rfl
    have ru' : rd1 (some Y) 0 0 = some (uv n) := by rw [← hY]; rfl
    have rr : rdN (some X) 1 0 32 = some (bytesVals oroot) := by
      rw [← hX, rdN_cells (by simp [ho]), List.drop_succ_cons, List.drop_zero, List.take_of_length_le (by simp [ho])]
    have rr' : rdN (some Y) 1 0 32 = some (bytesVals root) := by
      rw [← hY, rdN_cells (by simp [hr]), List.drop_succ_cons, List.drop_zero, List.take_of_length_le (by simp [hr])]
  · rw [if_pos hnm]
    simp [b14, bytes_ok, hX, hY, hA, a0, a1, ru, ru', hnm, r14]
  · rw [if_neg hnm]
    obtain ⟨g, v, t1, e1, u7, u2, u3, u4, o1, f1, b1⟩ := fol_down T A.bs.length 64 m n [] (.slice none 0 0) A
      (ts (ts (ts (ts (ts (ts (ts (ts (ts (ts (ts (ts (ts (ts (ts [.agg ⟨uv m :: bytesVals oroot⟩, .agg ⟨uv n :: bytesVals root⟩, .slice a ps.length cp] 3 (.pointer (some ⟨h0.bs.length, 0, some 0⟩))) 4 (.pointer (some ⟨h0.bs.length + 1, 0, some 0⟩))) 6 (iv 0)) 19 (.pointer (some ⟨h0.bs.length, 0, some 0⟩))) 20 (uv m)) 21 (.pointer (some ⟨h0.bs.length + 1, 0, some 0⟩))) 22 (uv n)) 23 (.bool false)) 7 (.slice none 0 0)) 24 (.pointer (some ⟨h0.bs.length, 0, some 0⟩))) 25 (uv m)) 26 (.pointer (some ⟨h0.bs.length + 1, 0, some 0⟩))) 27 (uv n)) 8 (uv m)) 9 (uv n))
      (by omega) (by omega) (by omega) (by omega) .nil (fun j hj => by cases hj) (Nat.le_refl _) (by simp) (by omega) (by simp) (by simp) (by simp)
    simp at u2 u3 u4
    rw [List.nil_append] at o1
    have hdl := mdown_len 64 m n
    generalize hw : mdown 64 m n = w at o1 hdl
    obtain ⟨t2, e2, v11, v7, v2, v3, v4⟩ := fol_scan T w (by omega) v w.length 0 g (ts (ts (ts (ts t1 11 (iv 0)) 53 v) 54 (iv w.length)) 55 (iv 0)) (by omega) o1 (by simp) (by simp) (by simp) (by simp [one1])
    simp [u7, u2, u3, u4] at v7 v2 v3 v4
    have h1 : one1 w ≤ 1 := by unfold one1; split <;> omega
    have lg := f1.len
    have og := f1.lo
    have g0 : g.at h0.bs.length = some X := f1.get a0 (by omega)
    have g1 : g.at (h0.bs.length + 1) = some Y := f1.get a1 (by omega)
    have Pg : DigR C.old g a cp ps := (P0.fr fA (fun _ _ h => h)).fr f1 (fun j hj => by have := P0.1.live_lt hj; omega)
    obtain ⟨g', e3⟩ := fol_tail T TD hk g t2 h0.bs.length (h0.bs.length + 1) m n oroot root ps w v a cp X Y ho hr hdl o1 Pg (by omega) hX.symm hY.symm g0 g1 v2 v3 v4 v7 v11
    have e : R C r14 [.code b14] [.agg ⟨uv m :: bytesVals oroot⟩, .agg ⟨uv n :: bytesVals root⟩, .slice a ps.length cp] [] h0 = R C r14 [.code k14_1] t2 [] g := by
      simp [b14, bytes_ok, hX, hY, hA, a0, a1, ru, ru', hnm]
      rw [e1]
      simp [k14_2, u7, stp_ok o1.und, o1.lenV]
      rw [e2]
    rw [e, e3]
    exact pur_some rfl
end Go.Ab.Aud

namespace Go.Ab.Aud
open Go.Sha
theorem bv_neq {a b : UInt8} : abin .neq (bv a) (bv b) = some (.bool (!decide (a = b))) := by
  have h : (a = b) ↔ (a.toNat : Int) = b.toNat := ⟨fun h => by rw [h], fun h => UInt8.toNat.inj (by omega)⟩
  unfold bv
  simp only [h, abin, abinI, if_true]
  congr 2
  rw [Bool.eq_iff_iff]
  simp
variable {C : Ctx} (T : Tab_LLog C) (TD : Tab_LDig C) (TW : Tab_LLaw C) (hk : ∀ j, j < 64 → C.old 0 j = some (wv (kW j)))
section
include TW
theorem num_spec (h : AHeap) (n : Nat) : D C 11 [iv n] h = some (iv n, h) := by
  rw [D_fn TW.h11]
  simp [b11, r11]
theorem copy_spec (h : AHeap) (l : List UInt8) (a : Option Addr) (n cp : Nat) (hs : SlR C.old h 1 (.slice a n cp) (bytesVals l)) (hn : n < 2 ^ 28) (hwf : h.lo ≤ h.bs.length) :
    ∃ h' v, D C 27 [.slice a n cp] h = some (v, h') ∧ Own h' 5 1 v n (bytesVals l) ∧ Fr h h' (fun _ => False) ∧ (∀ j, blkOf v = some j → h.bs.length ≤ j) := by
  have hlen : l.length = n := by have := hs.len; simpa using this
  obtain ⟨v, h', e, o, f, b⟩ := append_own (old := C.old) (bytes := 1) (x := .slice a n cp) (m := n) (new := bytesVals l) (Own.nil (h := h) (e := 5) (k := 1)) (by omega) rfl
    (fun hn => hs.src hn) (fun h0 => by rw [h0] at hlen; rw [List.eq_nil_of_length_eq_zero hlen]; rfl) (by simp [hlen]) bytes_ok (by simp [sizeLim]; omega) hwf
  rw [Nat.zero_add, List.nil_append] at o
  refine ⟨h', v, ?_, o, f.mono (fun j hj _ => by cases hj), fun j hj => ?_⟩
  · rw [D_fn TW.h27]
    simp [b27, e, stp_ok o.und, r27]
  · rcases b with b | b
    · rw [hj] at b; cases b
    · rw [hj] at b; cases b; omega
end
end Go.Ab.Aud

namespace Go.Ab.Aud
open Go.Sha
/-- bytes that were given, in memory that nothing writes -/
def ArgB (old : Old) (v : Value) (l : List UInt8) : Prop := ∃ a cp, v = .slice a l.length cp ∧ (∀ h, SlR old h 1 (.slice a l.length cp) (bytesVals l)) ∧ ∀ j, ¬ Live (.slice a l.length cp) j
/-- rows that were given -/
def ArgR (old : Old) (v : Value) (rows : List (List UInt8)) : Prop :=
  ∃ a cp vs, v = .slice a rows.length cp ∧ (∀ h, SlR old h 1 (.slice a rows.length cp) vs) ∧ (∀ j, ¬ Live (.slice a rows.length cp) j) ∧ ∀ i, i < rows.length → ∃ x, vs[i]? = some x ∧ ArgB old x (rows.getD i [])
theorem ArgR.get {old : Old} {v : Value} {rows : List (List UInt8)} (H : ArgR old v rows) {i : Nat} (hi : i < rows.length) : ∃ a' cp' a cp, v = .slice (some a') rows.length cp' ∧ (∀ h, read1 old h (adda a' i) = some (.slice a (rows.getD i []).length cp)) ∧ (∀ h, SlR old h 1 (.slice a (rows.getD i []).length cp) (bytesVals (rows.getD i []))) ∧ ∀ j, ¬ Live (.slice a (rows.getD i []).length cp) j := by
  obtain ⟨a, cp, vs, h1, h2, h3, h4⟩ := H
  obtain ⟨a', rfl⟩ := (h2 ⟨[], 0⟩).ex (by omega)
  obtain ⟨x, hx, b, cpb, h5, h6, h7⟩ := h4 i hi
  refine ⟨a', cp, b, cpb, h1, fun h => ?_, h6, h7⟩
  have := readN_read1 ((h2 h).read (by omega)) (i := i) (by omega)
  rw [this, hx, h5]
theorem ArgB.und {old : Old} {v : Value} {l : List UInt8} (H : ArgB old v l) : isUnd v = false := by obtain ⟨a, cp, rfl, _⟩ := H; rfl
theorem LogAt.olt {h : AHeap} {O : Nat → Prop} {p d room wr : Nat} {name content : List UInt8} {leaves : List (List UInt8)} (H : LogAt h O p d name content leaves room wr) : ∀ j, O j → j < h.bs.length := by
  obtain ⟨w, m, fp, fw, fz, keep, o, c, es, ls, H⟩ := H
  exact H.olt
def lh (r : List UInt8) : List UInt8 := sha (0 :: r)
variable {C : Ctx} (T : Tab_LLog C) (TD : Tab_LDig C) (TW : Tab_LLaw C) (hk : ∀ j, j < 64 → C.old 0 j = some (wv (kW j))) (hp : ∀ j, j < 16 → C.old 1 j = some (wv (crcW j)))
include T TD TW hk hp
end Go.Ab.Aud

namespace Go.Ab.Aud
open Go.Sha
variable {C : Ctx} (T : Tab_LLog C) (TD : Tab_LDig C) (TW : Tab_LLaw C) (hk : ∀ j, j < 64 → C.old 0 j = some (wv (kW j))) (hp : ∀ j, j < 16 → C.old 1 j = some (wv (crcW j)))
theorem aeq_nilPs {a : Addr} : aeq .nilP (.pointer (some a)) (.pointer none) = some false := nr rfl
/-- audit -/
def nmAudit : List UInt8 := [97, 117, 100, 105, 116]
def nmA : List UInt8 := [97]
include T in
/-- a disk and a log on it -/
theorem open_new (h : AHeap) (room : Nat) (name : List UInt8) (h1 : 1 ≤ room) (h2 : room ≤ 268435456) (hwf : h.lo ≤ h.bs.length) (hN : ∀ h, D C 147 [str name] h = some (.bool true, h)) :
    ∃ h1 h2 d p O, D C 42 [iv room] h = some (.tuple #[.pointer (some ⟨d, 0, some 0⟩), iv 0], h1) ∧ D C 43 [.pointer (some ⟨d, 0, some 0⟩), str name] h1 = some (.tuple #[.pointer (some ⟨p, 0, some 0⟩), iv 0], h2) ∧ LogAt h2 O p d name [] [] room 0 ∧ (∀ j, O j → h.bs.length ≤ j) ∧ Fr h h2 (fun _ => False) := by
  have e1 := disk_new T h room h1 h2
  have fa : Fr h ((h.push (.map [] 0)).push (.cells (dc 0 room 0 h.bs.length (iv 0) (iv 0) false 0) 189)) (fun _ => False) := Fr.push.push'
  obtain ⟨h', p, e2, L, hpl, f⟩ := audit_open_none T ((h.push (.map [] 0)).push (.cells (dc 0 room 0 h.bs.length (iv 0) (iv 0) false 0) 189)) (h.bs.length + 1) h.bs.length 188 room 0 0 (iv 0) name (push_self' (by simp)) (push_old push_self) (by simp; omega) (by simp; omega) (by omega) hN
  refine ⟨_, h', h.bs.length + 1, p, _, e1, e2, L, fun j hj => ?_, fa.trans f (fun _ h => h) (fun j hj hl => by omega)⟩
  rcases hj with hj | hj | hj
  · omega
  · omega
  · have := hj.1; simp at this; omega
include T TD TW hk hp
end Go.Ab.Aud

namespace Go.Ab.Aud
open Go.Sha
theorem wakes_sha : (sha (1 :: (sha (1 :: (lh [0] ++ lh [2])) ++ lh [2])) = sha (1 :: (sha (1 :: (lh [0] ++ lh [1])) ++ lh [2]))) = False := by
  have : decide (sha (1 :: (sha (1 :: (lh [0] ++ lh [2])) ++ lh [2])) = sha (1 :: (sha (1 :: (lh [0] ++ lh [1])) ++ lh [2]))) = false := by decide +kernel
  exact eq_false (of_decide_eq_false this)
def wl3 : List (List UInt8) := [lh [0], lh [1], lh [2]]
def wRoot : List UInt8 := sha (1 :: (sha (1 :: (lh [0] ++ lh [1])) ++ lh [2]))
def wTwo : List UInt8 := sha (1 :: (lh [0] ++ lh [1]))
theorem lft3 : lft 3 = 2 := by decide
theorem lft2 : lft 2 = 1 := by decide
theorem rootL1 {a : List UInt8} : rootL [a] = a := rfl
theorem rootL2 {a b : List UInt8} : rootL [a, b] = sha (1 :: (a ++ b)) := by
  rw [rootL_two (by simp)]
  simp only [List.length_cons, List.length_nil, Nat.zero_add, Nat.reduceAdd, lft2, List.take_succ_cons, List.take_zero, List.drop_succ_cons, List.drop_zero, rootL1, nodeL]
theorem rootL3 : rootL (wl3.take 3) = wRoot := by
  have e : wl3.take 3 = [lh [0], lh [1], lh [2]] := rfl
  rw [e, rootL_two (by simp)]
  simp only [List.length_cons, List.length_nil, Nat.zero_add, Nat.reduceAdd, lft3, List.take_succ_cons, List.take_zero, List.drop_succ_cons, List.drop_zero, rootL1, rootL2, nodeL]
  rfl
theorem rootL32 : rootL (wl3.take 2) = wTwo := by
  have e : wl3.take 2 = [lh [0], lh [1]] := rfl
  rw [e, rootL2]; rfl
theorem path3 : pathF 3 (wl3.take 3) 1 = [lh [0], lh [2]] := by
  have e : wl3.take 3 = [lh [0], lh [1], lh [2]] := rfl
  rw [e]
  simp [pathF, lft3, lft2, rootL1]
theorem proof3 : proofF 3 (wl3.take 3) 2 true = [lh [2]] := by
  have e : wl3.take 3 = [lh [0], lh [1], lh [2]] := rfl
  rw [e]
  simp [proofF, lft3, rootL1]
theorem incl3 {x : List UInt8} : inclF 3 1 wRoot x [lh [0], lh [2]] = if sha (1 :: (sha (1 :: (lh [0] ++ x)) ++ lh [2])) = wRoot then 0 else 236 := by
  have e : downF 64 1 3 = [false, true] := by simp [downF, lft3, lft2]
  unfold inclF
  rw [e, if_neg (by omega), if_neg (by simp)]
  simp [foldW, stepW]
theorem foll3 : follF 2 3 wTwo wRoot [lh [2]] = 0 := by
  have e : mdown 64 2 3 = [false] := by simp [mdown, lft3]
  unfold follF
  rw [e, if_neg (by omega)]
  have o : one1 [false] = 0 := by simp [one1]
  rw [o]
  simp [foldP]
  rfl
end Go.Ab.Aud

namespace Go.Ab.Aud
open Go.Sha
variable {C : Ctx} (T : Tab_LLog C) (TD : Tab_LDig C) (TW : Tab_LLaw C) (hk : ∀ j, j < 64 → C.old 0 j = some (wv (kW j))) (hp : ∀ j, j < 16 → C.old 1 j = some (wv (crcW j)))
include T TD TW hk hp
set_option maxHeartbeats 1000000 in
theorem wk_step (i wr p d : Nat) (O : Nat → Prop) (b : UInt8) (content : List UInt8) (leaves : List (List UInt8)) (g : AHeap) (t : List Value) (hi : i < 3) (hb : UInt8.ofNat i = b) (hl : leaves.length = i) (hc : content.length ≤ 100) (hwr : wr < 100) (H : LogAt g O p d nmA content leaves 1000 wr) (hwf : g.lo ≤ g.bs.length)
    (hN : ∀ h, D C 147 [str nmA] h = some (.bool true, h)) (t3 : tg t 3 = .pointer (some ⟨p, 0, some 0⟩)) (t5 : tg t 5 = iv i) :
    ∃ g' t' O', (∀ k, R C r23 (.inLoop lp23_0 :: .inBlock 0 :: k) t [] g = R C r23 (.inLoop lp23_0 :: .inBlock 0 :: k) t' [] g') ∧ tg t' 3 = .pointer (some ⟨p, 0, some 0⟩) ∧ tg t' 5 = iv (i + 1) ∧ LogAt g' O' p d nmA (content ++ frame [b]) (leaves ++ [lh [b]]) 1000 (wr + 1) ∧ g'.lo ≤ g'.bs.length ∧ (content ++ frame [b]).length = content.length + 14 := by
  have f1 : Fr g (g.push (.cells [bv b] 6)) (fun _ => False) := Fr.push
  have H1 := H.fr f1 (fun _ _ h => h)
  have ol := H.olt
  obtain ⟨g', e, H2, f2⟩ := audit_append T TD hp hk (g.push (.cells [bv b] 6)) O p d 1000 wr nmA content leaves [b] (some ⟨g.bs.length, 0, some 0⟩) 1 1 H1 one_sl (fun j hj hO => by have := slLive hj; have := ol j hO; omega) (by simp; omega) (by omega) (by omega) (by omega) (by omega) (by omega) hN
  have l2 := f2.len
  have g2 := f2.lo
  have hfl := frame_length [b]
  simp at l2 g2 hfl
  have e2 : ∃ t', (∀ k, R C r23 (.inLoop lp23_0 :: .inBlock 0 :: k) t [] g = R C r23 (.inLoop lp23_0 :: .inBlock 0 :: k) t' [] g') ∧ tg t' 3 = .pointer (some ⟨p, 0, some 0⟩) ∧ tg t' 5 = iv (i + 1) := by
    refine ex_step (fun k => R_open lp23_0.eq_1) ?_
    simp [t3, t5, hi, hb, fillCells, splice, Dc_ok, e, num_spec TW, hl, cvt_iu (show i < 18446744073709551616 by omega), iv_add (a := i) (b := 1) (by omega)]
    exact ⟨_, fun _ => rfl, by simp [t3], by simp⟩
  obtain ⟨t', e2, u3, u5⟩ := e2
  exact ⟨g', t', _, e2, u3, u5, H2, by omega, by simp [hfl]⟩
set_option maxHeartbeats 4000000 in
theorem wakes_spec (h : AHeap) (hN : ∀ h, D C 147 [str nmA] h = some (.bool true, h)) : D C 23 [] h = some (.bool true, h) := by
  rw [D_fn3 TW.h23 _ rfl]
  generalize hh0 : ({ bs := [], lo := 0 } : AHeap) = h0
  have h0lo : h0.lo = 0 := by rw [← hh0]
  obtain ⟨h1, h2, d, p, O, e1, e2, L, hO, f2⟩ := open_new T h0 1000 nmA (by omega) (by omega) (by omega) hN
  have l2 := f2.len
  have g2 := f2.lo
  obtain ⟨t, e, u3, u5⟩ : ∃ t, R C r23 [.code b23] [] [] h0 = R C r23 (.inLoop lp23_0 :: .inBlock 0 :: [.code k23_0]) t [] h2 ∧ tg t 3 = .pointer (some ⟨p, 0, some 0⟩) ∧ tg t 5 = iv 0 := by
    have hs : Value.string ⟨⟨[97]⟩⟩ = str nmA := rfl
    simp [b23, Dc_ok, e1, num_spec TW, hs, e2, aeq_nilPs]
    exact ⟨_, rfl, by simp, by simp⟩
  obtain ⟨g1, t1, O1, x1, y1, z1, L1, w1, c1⟩ := wk_step T TD TW hk hp 0 0 p d O 0 [] [] h2 t (by omega) rfl rfl (by simp) (by omega) L (by omega) hN u3 u5
  obtain ⟨g2', t2, O2, x2, y2, z2, L2, w2, c2⟩ := wk_step T TD TW hk hp 1 1 p d O1 1 _ _ g1 t1 (by omega) rfl (by simp) (by simp at c1 ⊢; omega) (by omega) L1 w1 hN y1 z1
  obtain ⟨g3, t3, O3, x3, y3, z3, L3, w3, c3⟩ := wk_step T TD TW hk hp 2 2 p d O2 2 _ _ g2' t2 (by omega) rfl (by simp) (by simp at c1 c2 ⊢; omega) (by omega) L2 w2 hN y2 z2
  have hl : [] ++ [lh [0]] ++ [lh [1]] ++ [lh [2]] = wl3 := rfl
  rw [hl] at L3
  generalize [] ++ frame [0] ++ frame [1] ++ frame [2] = content at L3
  obtain ⟨t4, e4, u4⟩ : ∃ t', (∀ k, R C r23 (.inLoop lp23_0 :: .inBlock 0 :: k) t3 [] g3 = R C r23 k t' [] g3) ∧ tg t' 3 = .pointer (some ⟨p, 0, some 0⟩) := by
    refine ex_step (fun k => R_open lp23_0.eq_1) ?_
    simp [z3]
    exact ⟨_, fun _ => rfl, by simp [y3]⟩
  rw [e, x1, x2, x3, e4]
  have hlw : wl3.length = 3 := rfl
  have hz : Value.int .u8 0 = bv 0 := rfl
  have hb1 : Value.int .u8 1 = bv 1 := rfl
  have hb2 : Value.int .u8 2 = bv 2 := rfl
  generalize hZ : ABlock.cells (uv 0 :: List.replicate 32 (bv 0)) 36 = Z
  have hZ0 := hZ
  simp [List.replicate] at hZ
  have wz : ∀ (g : AHeap) (b n : Nat) (r : List UInt8), r.length = 32 → wrN g b (some Z) 0 0 (uv n :: bytesVals r) = some (g.put b (.cells (uv n :: bytesVals r) 36)) := by
    intro g b n r hr
    rw [← hZ0, wrN_cells (by simp [hr]) (by rw [List.all_cons, bytes_ok]; rfl)]
    congr 3
    simp [splice, hr]
  have rz : ∀ (n : Nat) (r : List UInt8), r.length = 32 → rdN (some (.cells (uv n :: bytesVals r) 36)) 0 0 33 = some (uv n :: bytesVals r) := by
    intro n r hr
    rw [rdN_cells (by simp [hr]), List.drop_zero, List.take_of_length_le (by simp [hr])]
  have hwR : wRoot.length = 32 := sha_length _
  have hwT : wTwo.length = 32 := sha_length _
  -- the heads
  obtain ⟨g4, e5, f4⟩ := head_spec T TD hk g3 O3 p d 1000 _ nmA content wl3 L3 3 (by omega) (by omega) w3
  rw [rootL3] at e5
  have l4 := f4.len
  have o4 := f4.lo
  have s5 : (g4.push Z).at g4.bs.length = some Z := push_self
  generalize hg5 : (g4.push Z).put g4.bs.length (.cells (uv 3 :: bytesVals wRoot) 36) = g5
  have f5 : Fr g3 g5 (fun _ => False) := by rw [← hg5]; exact (f4.push').put' (.inr (by omega))
  have v8 : g5.at g4.bs.length = some (.cells (uv 3 :: bytesVals wRoot) 36) := by rw [← hg5]; exact put_self (by simp)
  have l5 : g5.bs.length = g4.bs.length + 1 := by rw [← hg5]; simp
  have o5 := f5.lo
  have w5 : g5.lo ≤ g5.bs.length := by omega
  have hlo4 : g4.lo ≤ g4.bs.length := by omega
  have L5 := L3.fr f5 (fun _ _ h => h)
  obtain ⟨g6, e6, f6⟩ := head_spec T TD hk g5 O3 p d 1000 _ nmA content wl3 L5 2 (by omega) (by omega) w5
  rw [rootL32] at e6
  have l6 := f6.len
  have o6 := f6.lo
  have s6 : (g6.push Z).at g6.bs.length = some Z := push_self
  generalize hg7 : (g6.push Z).put g6.bs.length (.cells (uv 2 :: bytesVals wTwo) 36) = g7
  have f7 : Fr g5 g7 (fun _ => False) := by rw [← hg7]; exact (f6.push').put' (.inr (by omega))
  have v9 : g7.at g6.bs.length = some (.cells (uv 2 :: bytesVals wTwo) 36) := by rw [← hg7]; exact put_self (by simp)
  have l7 : g7.bs.length = g6.bs.length + 1 := by rw [← hg7]; simp
  have o7 := f7.lo
  have w7 : g7.lo ≤ g7.bs.length := by omega
  have hlo6 : g6.lo ≤ g6.bs.length := by omega
  have L7 := L5.fr f7 (fun _ _ h => h)
  obtain ⟨g8, vp, e7, P8, f8, b8⟩ := prove_spec T TD hk g7 O3 p d 1000 _ nmA content wl3 L7 1 3 (by omega) (by omega) (by omega) w7
  rw [path3] at P8
  have l8 := f8.len
  have o8 := f8.lo
  have L8 := L7.fr f8 (fun _ _ h => h)
  obtain ⟨g9, vq, e8, P9, f9⟩ := follow_spec T TD hk g8 O3 p d 1000 _ nmA content wl3 L8 2 3 (by omega) (by omega) (by omega) (by omega)
  rw [if_neg (by omega), proof3] at P9
  have l9 := f9.len
  have o9 := f9.lo
  have P8' : DigO g9 vp [lh [0], lh [2]] := P8.fr f9 (fun _ _ h => h)
  obtain ⟨ap, cpp, hvp, R9⟩ := P8'.digR (old := C.old)
  obtain ⟨aq, cpq, hvq, Q9, _⟩ := P9
  have k8 : g9.at g4.bs.length = some (.cells (uv 3 :: bytesVals wRoot) 36) := f9.get (f8.get (f7.get v8 (fun h => h)) (fun h => h)) (fun h => h)
  have k9 : g9.at g6.bs.length = some (.cells (uv 2 :: bytesVals wTwo) 36) := f9.get (f8.get v9 (fun h => h)) (fun h => h)
  generalize hg10 : g9.push (.cells [bv 1] 6) = g10
  have f10 : Fr g9 g10 (fun _ => False) := by rw [← hg10]; exact Fr.push
  have sl1 : SlR C.old g10 1 (.slice (some ⟨g9.bs.length, 0, some 0⟩) 1 1) (bytesVals [1]) := by rw [← hg10]; exact one_sl
  have lf1 := leaf_spec TD hk g10 [1] (some ⟨g9.bs.length, 0, some 0⟩) 1 1 sl1 (by omega)
  have in1 := incl_spec T TD hk g10 3 1 wRoot (lh [1]) [lh [0], lh [2]] hwR (sha_length _) (by omega) (by omega) ap cpp (R9.fr f10 (fun _ _ h => h))
  have fo1 := foll_spec T TD hk g10 2 3 wTwo wRoot [lh [2]] hwT hwR (by omega) (by omega) aq cpq (Q9.fr f10 (fun _ _ h => h))
  rw [foll3] at fo1
  have in1v : inclF 3 1 wRoot (lh [1]) [lh [0], lh [2]] = 0 := by rw [incl3]; exact if_pos rfl
  rw [in1v] at in1
  generalize hg11 : g10.push (.cells [bv 2] 6) = g11
  have f11 : Fr g10 g11 (fun _ => False) := by rw [← hg11]; exact Fr.push
  have sl2 : SlR C.old g11 1 (.slice (some ⟨g10.bs.length, 0, some 0⟩) 1 1) (bytesVals [2]) := by rw [← hg11]; exact one_sl
  have lf2 := leaf_spec TD hk g11 [2] (some ⟨g10.bs.length, 0, some 0⟩) 1 1 sl2 (by omega)
  have in2 := incl_spec T TD hk g11 3 1 wRoot (lh [2]) [lh [0], lh [2]] hwR (sha_length _) (by omega) (by omega) ap cpp ((R9.fr f10 (fun _ _ h => h)).fr f11 (fun _ _ h => h))
  have in2v : inclF 3 1 wRoot (lh [2]) [lh [0], lh [2]] = 236 := by rw [incl3]; exact if_neg (fun h => wakes_sha.mp h)
  rw [in2v] at in2
  have m8 : g10.at g4.bs.length = some (.cells (uv 3 :: bytesVals wRoot) 36) := f10.get k8 (fun h => h)
  have m9 : g10.at g6.bs.length = some (.cells (uv 2 :: bytesVals wTwo) 36) := f10.get k9 (fun h => h)
  have n8 : g11.at g4.bs.length = some (.cells (uv 3 :: bytesVals wRoot) 36) := f11.get m8 (fun h => h)
  have lhd : ∀ b : UInt8, sha [0, b] = lh [b] := fun _ => rfl
  rw [lhd] at lf1 lf2
  subst hvp
  subst hvq
  simp at in1 in2 fo1 e7 e8
  have r : R C r23 [.code k23_0] t4 [] g3 = some (.bool true, g11) := by
    simp [k23_0, u4, Dc_ok, e5, hz, hZ, bytes_ok, hwR, hwT, writeN_wr, hlo4, s5, wz, hg5, e6, hlo6, s6, hg7, e7, e8, num_spec TW, v8, v9, k8, k9, rz, hb1, hb2, fillCells, splice, hg10, lf1, in1, m8, m9, fo1, hg11, lf2, in2, n8, r23]
  rw [r]
  exact pur_some rfl
end Go.Ab.Aud

namespace Go.Ab.Aud
open Go.Sha
variable {C : Ctx} (T : Tab_LLog C) (TD : Tab_LDig C) (TW : Tab_LLaw C) (hk : ∀ j, j < 64 → C.old 0 j = some (wv (kW j)))
section
include TW
/-- the half, as the statement says it -/
theorem half_loop : ∀ (d j n : Nat) (h : AHeap) (t : List Value), 2 ≤ n → n < 18446744073709551616 → 2 ^ j < n → j + d = 64 → tg t 0 = uv n → tg t 3 = uv (2 ^ j) →
    ∃ t', (∀ k, R C r70 (.inLoop lp70_0 :: .inBlock 0 :: k) t [] h = R C r70 k t' [] h) ∧ tg t' 3 = uv (lft n) := by
  intro d
  induction d with
  | zero =>
    intro j n h t h2 hn hj hd t0 t3
    obtain rfl : j = 64 := by omega
    omega
  | succ d ih =>
    intro j n h t h2 hn hj hd t0 t3
    by_cases hc : 2 ^ j < n - 2 ^ j
    · have hp : 2 ^ (j + 1) = 2 * 2 ^ j := by rw [Nat.pow_succ]; omega
      have e : ∃ t', (∀ k, R C r70 (.inLoop lp70_0 :: .inBlock 0 :: k) t [] h = R C r70 (.inLoop lp70_0 :: .inBlock 0 :: k) t' [] h) ∧ tg t' 0 = uv n ∧ tg t' 3 = uv (2 ^ (j + 1)) := by
        refine ex_step (fun k => R_open lp70_0.eq_1) ?_
        generalize 2 ^ j = q at *
        simp [t0, t3, uv_sub (a := n) (b := q) (by omega) (by omega), hc, uv_mul (a := 2) (b := q) (by omega)]
        exact ⟨_, fun _ => rfl, by simp [t0], by simp [hp]⟩
      obtain ⟨t', e, u0, u3⟩ := e
      obtain ⟨t2, a1, a2⟩ := ih (j + 1) n h t' h2 hn (by omega) (by omega) u0 u3
      exact ⟨t2, fun k => (e k).trans (a1 k), a2⟩
    · have hl : lft n = 2 ^ j := by
        unfold lft
        congr 1
        have h1 : Nat.log2 (n - 1) < j + 1 := (Nat.log2_lt (by omega)).2 (by rw [Nat.pow_succ]; omega)
        have h3 : ¬ Nat.log2 (n - 1) < j := fun h => by have := (Nat.log2_lt (n := n - 1) (k := j) (by omega)).1 h; omega
        omega
      rw [hl]
      refine ex_step (fun k => R_open lp70_0.eq_1) ?_
      generalize 2 ^ j = q at *
      simp [t0, t3, uv_sub (a := n) (b := q) (by omega) (by omega), hc]
      exact ⟨_, fun _ => rfl, by simp [t3]⟩
theorem half_spec (h : AHeap) (n : Nat) (h2 : 2 ≤ n) (hn : n < 18446744073709551616) : D C 70 [uv n] h = some (uv (lft n), h) := by
  rw [D_fn TW.h70]
  obtain ⟨t', e, u3⟩ := half_loop TW 64 0 n h (ts (ts [uv n] 2 (uv 0)) 3 (uv 1)) h2 hn (by simp; omega) rfl (by simp) (by simp)
  simp [b70]
  rw [e]
  simp [k70_0, u3, r70]
/-- two rows of bytes are compared -/
theorem eq_loop (x y : List UInt8) (hl : x.length = y.length) (hb : x.length < 2 ^ 40) (a a' : Option Addr) (cp cp' : Nat) (h : AHeap) (hx : SlR C.old h 1 (.slice a x.length cp) (bytesVals x)) (hy : SlR C.old h 1 (.slice a' y.length cp') (bytesVals y)) :
    ∀ (d i : Nat) (t : List Value), i + d = x.length → x.take i = y.take i → tg t 0 = .slice a x.length cp → tg t 1 = .slice a' y.length cp' → tg t 5 = iv i →
    R C r39 [.inLoop lp39_0, .inBlock 0, .code k39_0] t [] h = some (.bool (decide (x = y)), h) := by
  intro d
  induction d with
  | zero =>
    intro i t hd hp t0 t1 t5
    have hi : i = x.length := by omega
    rw [List.take_of_length_le (by omega), List.take_of_length_le (by omega)] at hp
    rw [R_open lp39_0.eq_1]
    simp [t0, t1, t5, hi, k39_0, r39, hp]
  | succ d ih =>
    intro i t hd hp t0 t1 t5
    have hi : i < x.length := by omega
    have hi' : i < y.length := by omega
    obtain ⟨a1, rfl⟩ := hx.ex (by omega)
    obtain ⟨a2, rfl⟩ := hy.ex (by omega)
    have r1 := readN_read1 (hx.read (by omega)) (i := i) (by omega)
    have r2 := readN_read1 (hy.read (by omega)) (i := i) (by omega)
    rw [bytes_get, List.getElem?_eq_getElem hi] at r1
    rw [bytes_get, List.getElem?_eq_getElem hi'] at r2
    simp only [Option.map_some] at r1 r2
    rw [R_open lp39_0.eq_1]
    by_cases hc : x[i] = y[i]
    · have : x.take (i + 1) = y.take (i + 1) := by rw [List.take_succ_eq_append_getElem hi, List.take_succ_eq_append_getElem hi', hp, hc]
      simp [t0, t1, t5, hi, ixS_iv hi, ixS_iv hi', r1, r2, bv_neq, hc, iv_add (a := i) (b := 1) (by omega)]
      exact ih (i + 1) _ (by omega) this (by simp [t0]) (by simp [t1]) (by simp)
    · have : ¬ x = y := fun e => hc (by subst e; rfl)
      simp [t0, t1, t5, hi, ixS_iv hi, ixS_iv hi', r1, r2, bv_neq, hc, this, r39]
theorem eq_spec (h : AHeap) (x y : List UInt8) (hb : x.length < 2 ^ 40) (a a' : Option Addr) (cp cp' : Nat) (hx : SlR C.old h 1 (.slice a x.length cp) (bytesVals x)) (hy : SlR C.old h 1 (.slice a' y.length cp') (bytesVals y)) :
    D C 39 [.slice a x.length cp, .slice a' y.length cp'] h = some (.bool (decide (x = y)), h) := by
  rw [D_fn2 TW.h39]
  by_cases hl : x.length = y.length
  · have e := eq_loop TW x y hl hb a a' cp cp' { h with lo := h.bs.length } hx.lo hy.lo x.length 0 (ts (ts (ts (ts (ts (ts (ts [.slice a x.length cp, .slice a' y.length cp'] 4 (.bool false)) 6 (.slice a x.length cp)) 7 (iv x.length)) 8 (.slice a' y.length cp')) 9 (iv x.length)) 10 (.bool false)) 5 (iv 0)) (by omega) rfl (by simp) (by simp) (by simp)
    have : R C r39 [.code b39] [.slice a x.length cp, .slice a' y.length cp'] [] { h with lo := h.bs.length } = some (.bool (decide (x = y)), { h with lo := h.bs.length }) := by
      rw [← e]
      simp [b39, hl]
    rw [this]
    exact pur_some rfl
  · have : ¬ x = y := fun e => hl (by rw [e])
    simp [b39, hl, r39, this]
end
end Go.Ab.Aud

namespace Go.Ab.Aud
open Go.Sha
/-- appending to a literal of one element -/
theorem append_lit1 {old : Old} {h : AHeap} {e k bytes m b fz : Nat} {x : Value} {c new : List Value} (hb : h.at b = some (.cells c fz)) (hc : c.length = k) (hco : c.all okCell = true) (hk : 0 < k) (hm : m ≠ 0) (hl : srcLen x = some m)
    (hs : srcCells old h k m x = some new) (hnl : new.length = m * k) (ho : new.all okCell = true) (hz : (1 + m) * bytes ≤ sizeLim) (hlo : h.lo ≤ h.bs.length) :
    ∃ v' h', appendV old h e k bytes (.slice (some ⟨b, 0, some 0⟩) 1 1) x = some (v', h') ∧ Own h' e k v' (1 + m) (c ++ new) ∧ Fr h h' (fun _ => False) ∧ blkOf v' = some h.bs.length := by
  have hmk : (1 + m) * k = k + m * k := by rw [Nat.add_mul, Nat.one_mul]
  refine ⟨.slice (some ⟨h.bs.length, 0, some ((1 + m) * k + 1)⟩) (1 + m) 0, h.push (.grow (c ++ new) 0 (e + 1) k), ?_, .inr ⟨h.bs.length, c ++ new, 0, by rw [List.length_append, hc, hnl, hmk], push_self, by omega, by rw [List.length_append, hc, hnl, hmk]; omega, ?_, hlo⟩, Fr.push, rfl⟩
  · have i0 : isRest ⟨b, 0, some 0⟩ 1 = false := rfl
    have r2 : readN old h ⟨b, 0, some 0⟩ (1 * k) = some c := by
      rw [Nat.one_mul, readN_cells hb (by omega), List.drop_zero, List.take_of_length_le (by omega)]
    unfold appendV
    simp only [hl, hs, i0, Bool.false_eq_true, if_false, r2]
    rw [if_neg hm, if_neg (by omega)]
    unfold appendNew
    rw [if_neg (by omega)]
    simp only
    rw [if_pos ⟨hz, by rw [List.all_append, hco, ho]; rfl, by rw [List.length_append, hc, hnl, hmk], hk⟩]
  · rw [List.take_of_length_le (by rw [List.length_append, hc, hnl, hmk]; omega)]
variable {C : Ctx} (T : Tab_LLog C) (TD : Tab_LDig C) (TW : Tab_LLaw C) (hk : ∀ j, j < 64 → C.old 0 j = some (wv (kW j)))
include T TD TW hk
set_option maxHeartbeats 1000000 in
/-- the node of two digests, and what it was made of -/
theorem lnode_spec (h : AHeap) (x y : List UInt8) (hx : x.length = 32) (hy : y.length = 32) (hwf : h.lo ≤ h.bs.length) :
    ∃ h' a cp, D C 71 [.agg ⟨bytesVals x⟩, .agg ⟨bytesVals y⟩] h = some (.agg ⟨.slice a 65 cp :: bytesVals (sha (1 :: (x ++ y)))⟩, h') ∧ SlR C.old h' 1 (.slice a 65 cp) (bytesVals (1 :: (x ++ y))) ∧ Fr h h' (fun _ => False) ∧ (∀ j, Live (.slice a 65 cp) j → h.bs.length ≤ j) := by
  have hz : Value.int .u8 0 = bv 0 := rfl
  have hone : Value.int .u8 1 = bv 1 := rfl
  generalize hX : ABlock.cells (bytesVals x) 31 = X
  generalize hY : ABlock.cells (bytesVals y) 31 = Y
  generalize hZ : ABlock.cells (.slice none 0 0 :: List.replicate 32 (bv 0)) 159 = Z
  have hZ0 := hZ
  simp [List.replicate] at hZ
  generalize hL : ABlock.cells [bv 1] 6 = L
  generalize hA : (((h.push X).push Y).push Z).push L = A
  have f0 : Fr h A (fun _ => False) := by rw [← hA]; exact ((Fr.push.push').push').push'
  have aL : A.bs.length = h.bs.length + 4 := by rw [← hA]; simp
  have aO := f0.lo
  have a0 : A.at h.bs.length = some X := by rw [← hA]; exact push_old (push_old (push_old push_self))
  have a1 : A.at (h.bs.length + 1) = some Y := by rw [← hA]; exact push_old (push_old (push_self' (by simp)))
  have a2 : A.at (h.bs.length + 2) = some Z := by rw [← hA]; exact push_old (push_self' (by simp))
  have a3 : A.at (h.bs.length + 3) = some (.cells [bv 1] 6) := by rw [← hA, hL]; exact push_self' (by simp)
  obtain ⟨v1, h1, e1, o1, f1, b1⟩ := append_lit1 (old := C.old) (e := 5) (k := 1) (bytes := 1) (m := 32) (x := .slice (some ⟨h.bs.length, 0, some 0⟩) 32 32) (new := bytesVals x) a3 rfl rfl (by omega) (by omega) rfl
    (by simp only [srcCells]; rw [readN_rd, a0, ← hX]; exact rd32 hx) (by simp [hx]) bytes_ok (by simp [sizeLim]) (by omega)
  have l1 := f1.len
  have g1 := f1.lo
  have y1 : h1.at (h.bs.length + 1) = some Y := f1.get a1 (fun h => h)
  obtain ⟨v2, h2, e2, o2, f2, b2⟩ := append_own (old := C.old) (bytes := 1) (x := .slice (some ⟨h.bs.length + 1, 0, some 0⟩) 32 32) (m := 32) (new := bytesVals y) o1 (by omega) rfl
    (fun _ => by simp only [srcCells]; rw [readN_rd, y1, ← hY]; exact rd32 hy) (fun h => by omega) (by simp [hy]) bytes_ok (by simp [sizeLim]) (by omega)
  have l2 := f2.len
  have g2 := f2.lo
  have c2 : [bv 1] ++ bytesVals x ++ bytesVals y = bytesVals (1 :: (x ++ y)) := by simp [bytesVals_eq, bv]
  rw [c2] at o2
  obtain ⟨a, cp, hv2⟩ := o2.slice
  have s2 := o2.sl (old := C.old) (by omega)
  rw [hv2] at s2
  obtain ⟨h3, v3, e3, o3, f3, b3⟩ := copy_spec TW h2 (1 :: (x ++ y)) a 65 cp s2 (by omega) (by omega)
  obtain ⟨a3', cp3, hv3⟩ := o3.slice
  have s3 := o3.sl (old := C.old) (by omega)
  rw [hv3] at s3
  have e4 := dsum_spec TD hk h3 (1 :: (x ++ y)) a3' 65 cp3 s3 (by omega)
  have f12 : Fr A h2 (fun _ => False) := f1.trans f2 (fun _ h => h) (fun j hj hl => by rw [b1] at hj; cases hj; omega)
  have f13 : Fr A h3 (fun _ => False) := f12.trans f3 (fun _ h => h) (fun _ h _ => h)
  have z3 : h3.at (h.bs.length + 2) = some Z := f13.get a2 (fun h => h)
  have l3 := f13.len
  have g3 := f13.lo
  have hl32 := sha_length (1 :: (x ++ y))
  generalize hd : sha (1 :: (x ++ y)) = dg at e4 hl32
  have w1 : wrN h3 (h.bs.length + 2) (some Z) 0 0 (.slice a 65 cp :: bytesVals dg) = some (h3.put (h.bs.length + 2) (.cells (.slice a 65 cp :: bytesVals dg) 159)) := by
    rw [← hZ0, wrN_cells (by simp [hl32]) (by rw [List.all_cons, bytes_ok]; rfl)]
    congr 3
    simp [splice, hl32]
  have zs : splice (splice (.slice none 0 0 :: List.replicate 32 (bv 0)) 0 [.slice a 65 cp]) 1 (bytesVals dg) = .slice a 65 cp :: bytesVals dg := by simp [splice, hl32]
  have zl : (splice (.slice none 0 0 :: List.replicate 32 (bv 0)) 0 [.slice a 65 cp]).length = 33 := by simp [splice]
  simp [List.replicate] at zs zl
  have rd : rdN (some (.cells (.slice a 65 cp :: bytesVals dg) 159)) 0 0 33 = some (.slice a 65 cp :: bytesVals dg) := by
    rw [rdN_cells (by simp [hl32]), List.drop_zero, List.take_of_length_le (by simp [hl32])]
  have hlo3 : h3.lo ≤ h.bs.length + 2 := by omega
  have hln3 : h.bs.length + 2 < h3.bs.length := by omega
  have fF : Fr h (h3.put (h.bs.length + 2) (.cells (.slice a 65 cp :: bytesVals dg) 159)) (fun _ => False) := (f0.trans f13 (fun _ h => h) (fun _ h _ => h)).put' (.inr (by omega))
  refine ⟨h3.put (h.bs.length + 2) (.cells (.slice a 65 cp :: bytesVals dg) 159), a, cp, ?_, ?_, fF, fun j hj => ?_⟩
  · rw [D_fn TW.h71]
    rw [hv2] at e2
    rw [hv3] at e3
    simp [b71, hz, hone, bytes_ok, hX, hY, hZ, fillCells, splice, hL, hA, arrSl, e1, stp_ok o1.und, e2, Dc_ok, e3, e4, zs, zl, hl32, writeN_wr, hlo3, z3, w1, r71, resV, put_self, hln3, rd]
  · have := (s2.fr f3 (fun _ _ h => h)).fr (Fr.put (S := fun j => j = h.bs.length + 2) (i := h.bs.length + 2) (b := .cells (.slice a 65 cp :: bytesVals dg) 159) rfl) (fun j hj => by
      have hj2 := o2.live (by rw [hv2]; exact hj)
      rcases b2 with b2 | b2
      · rw [b1] at b2; rw [b2] at hj2; cases hj2; omega
      · rw [b2] at hj2; cases hj2; omega)
    exact this
  · have hj2 := o2.live (by rw [hv2]; exact hj)
    rcases b2 with b2 | b2
    · rw [b1] at b2; rw [b2] at hj2; cases hj2; omega
    · rw [b2] at hj2; cases hj2; omega
end Go.Ab.Aud

namespace Go.Ab.Aud
open Go.Sha
/-- the way up, with all nodes: what each was made of, and it -/
def climbF : Nat → Nat → Nat → List UInt8 → List (List UInt8) → List (List UInt8 × List UInt8) × List UInt8
  | 0, _, _, leaf, _ => ([], leaf)
  | f + 1, n, size, leaf, path => if size ≤ 1 ∨ path.length = 0 then ([], leaf) else
      if n < lft size then
        ((climbF f n (lft size) leaf (path.take (path.length - 1))).1 ++ [(1 :: ((climbF f n (lft size) leaf (path.take (path.length - 1))).2 ++ path.getD (path.length - 1) []), sha (1 :: ((climbF f n (lft size) leaf (path.take (path.length - 1))).2 ++ path.getD (path.length - 1) [])))], sha (1 :: ((climbF f n (lft size) leaf (path.take (path.length - 1))).2 ++ path.getD (path.length - 1) [])))
      else
        ((climbF f (n - lft size) (size - lft size) leaf (path.take (path.length - 1))).1 ++ [(1 :: (path.getD (path.length - 1) [] ++ (climbF f (n - lft size) (size - lft size) leaf (path.take (path.length - 1))).2), sha (1 :: (path.getD (path.length - 1) [] ++ (climbF f (n - lft size) (size - lft size) leaf (path.take (path.length - 1))).2)))], sha (1 :: (path.getD (path.length - 1) [] ++ (climbF f (n - lft size) (size - lft size) leaf (path.take (path.length - 1))).2)))
theorem climbF_32 : ∀ (f n size : Nat) (leaf : List UInt8) (path : List (List UInt8)), leaf.length = 32 → (climbF f n size leaf path).2.length = 32
  | 0, _, _, _, _, h => h
  | f + 1, n, size, leaf, path, h => by
    unfold climbF
    split
    · exact h
    · split <;> exact sha_length _
end Go.Ab.Aud

namespace Go.Ab.Aud
open Go.Sha
theorem climbF_len : ∀ (f n size : Nat) (leaf : List UInt8) (path : List (List UInt8)), (climbF f n size leaf path).1.length ≤ f
  | 0, _, _, _, _ => by simp [climbF]
  | f + 1, n, size, leaf, path => by
    unfold climbF
    split
    · simp
    · split
      · have := climbF_len f n (lft size) leaf (path.take (path.length - 1)); simp; omega
      · have := climbF_len f (n - lft size) (size - lft size) leaf (path.take (path.length - 1)); simp; omega
/-- a row of pairs -/
abbrev PT := Value × List UInt8 × List UInt8
def pcells (L : List PT) : List Value := L.flatMap fun x => x.1 :: bytesVals x.2.2
def POk (old : Old) (h : AHeap) (q : Nat) (v : Value) (x : PT) : Prop :=
  ∃ a cp, x.1 = .slice a x.2.1.length cp ∧ SlR old h 1 (.slice a x.2.1.length cp) (bytesVals x.2.1) ∧ x.2.2.length = 32 ∧ ∀ j, Live x.1 j → q ≤ j ∧ blkOf v ≠ some j
def Pairs (old : Old) (h : AHeap) (q : Nat) (v : Value) (l : List (List UInt8 × List UInt8)) : Prop :=
  ∃ L : List PT, L.map (·.2) = l ∧ Own h 158 33 v L.length (pcells L) ∧ (∀ j, blkOf v = some j → q ≤ j) ∧ ∀ x, x ∈ L → POk old h q v x
theorem POk.fr {old : Old} {h h' : AHeap} {q : Nat} {v : Value} {x : PT} {S : Nat → Prop} (H : POk old h q v x) (f : Fr h h' S) (hn : ∀ j, Live x.1 j → ¬ S j) : POk old h' q v x := by
  obtain ⟨a, cp, h1, h2, h3, h4⟩ := H
  exact ⟨a, cp, h1, h2.fr f (by rw [← h1]; exact hn), h3, h4⟩
theorem Pairs.fr {old : Old} {h h' : AHeap} {q : Nat} {v : Value} {l : List (List UInt8 × List UInt8)} {S : Nat → Prop} (H : Pairs old h q v l) (f : Fr h h' S) (hn : ∀ j, q ≤ j → j < h.bs.length → ¬ S j) : Pairs old h' q v l := by
  obtain ⟨L, e, o, b, p⟩ := H
  refine ⟨L, e, o.fr f (fun j hj => hn j (b j hj) (o.blk hj)), b, fun x hx => (p x hx).fr f fun j hj => ?_⟩
  obtain ⟨a, cp, h1, h2, h3, h4⟩ := p x hx
  exact hn j (h4 j hj).1 (h2.live_lt (by rw [← h1]; exact hj))
theorem Pairs.nil {old : Old} {h : AHeap} {q : Nat} : Pairs old h q (.slice none 0 0) [] := ⟨[], rfl, .nil, (fun j hj => by cases hj), (fun x hx => by cases hx)⟩
theorem Pairs.mono {old : Old} {h : AHeap} {q q' : Nat} {v : Value} {l : List (List UInt8 × List UInt8)} (H : Pairs old h q v l) (hq : q' ≤ q) : Pairs old h q' v l := by
  obtain ⟨L, e, o, b, p⟩ := H
  refine ⟨L, e, o, fun j hj => by have := b j hj; omega, fun x hx => ?_⟩
  obtain ⟨a, cp, h1, h2, h3, h4⟩ := p x hx
  exact ⟨a, cp, h1, h2, h3, fun j hj => ⟨by have := (h4 j hj).1; omega, (h4 j hj).2⟩⟩
theorem pcells_len : ∀ {L : List PT}, (∀ x, x ∈ L → x.2.2.length = 32) → (pcells L).length = L.length * 33
  | [], _ => rfl
  | x :: L, h => by
    have := pcells_len (L := L) fun y hy => h y (by simp [hy])
    have hx := h x (by simp)
    unfold pcells at *
    simp [List.flatMap_cons, hx]
    simp at this
    omega
theorem pcells_ok : ∀ {L : List PT}, (∀ x, x ∈ L → okCell x.1 = true) → (pcells L).all okCell = true
  | [], _ => rfl
  | x :: L, h => by
    have ih := pcells_ok (L := L) fun y hy => h y (by simp [hy])
    unfold pcells at *
    rw [List.flatMap_cons, List.all_append, List.all_cons, h x (by simp), bytes_ok, ih]
    rfl
theorem POk.ok {old : Old} {h : AHeap} {q : Nat} {v : Value} {x : PT} (H : POk old h q v x) : okCell x.1 = true := by
  obtain ⟨a, cp, h1, _⟩ := H
  rw [h1]; rfl
/-- two rows behind one another -/
theorem pairs_append {old : Old} {h : AHeap} {q q' : Nat} {v w : Value} {l l' : List (List UInt8 × List UInt8)} (H : Pairs old h q v l) (hlo : h.lo ≤ h.bs.length) (hq : q ≤ h.bs.length) (hqq : q ≤ q') (hvq : ∀ j, blkOf v = some j → j < q')
    (L' : List PT) (hL' : L'.map (·.2) = l') (hw : srcLen w = some L'.length) (hs : L'.length ≠ 0 → srcCells old h 33 L'.length w = some (pcells L')) (hP : ∀ x, x ∈ L' → POk old h q' w x) (hb : l.length + l'.length < 2 ^ 20) :
    ∃ v' h', appendV old h 158 33 56 v w = some (v', h') ∧ Pairs old h' q v' (l ++ l') ∧ Fr h h' (fun j => blkOf v = some j) ∧ (blkOf v' = blkOf v ∨ blkOf v' = some h.bs.length) := by
  obtain ⟨L, e, o, b, p⟩ := H
  have hL : L.length = l.length := by rw [← e]; simp
  have hLl : L'.length = l'.length := by rw [← hL']; simp
  obtain ⟨v', h', e1, o1, f1, b1⟩ := append_own (old := old) (bytes := 56) (x := w) (m := L'.length) (new := pcells L') o (by omega) hw hs
    (fun h0 => by rw [List.eq_nil_of_length_eq_zero h0]; rfl)
    (pcells_len fun x hx => by obtain ⟨_, _, _, _, h3, _⟩ := hP x hx; exact h3) (pcells_ok fun x hx => (hP x hx).ok) (by simp [sizeLim]; omega) hlo
  refine ⟨v', h', e1, ⟨L ++ L', by rw [List.map_append, e, hL'], ?_, fun j hj => ?_, fun x hx => ?_⟩, f1, b1⟩
  · have : pcells (L ++ L') = pcells L ++ pcells L' := by simp [pcells]
    rw [List.length_append, this]; exact o1
  · rcases b1 with b1 | b1
    · exact b j (by rw [← b1]; exact hj)
    · rw [b1] at hj; cases hj; exact hq
  · rcases List.mem_append.1 hx with hx | hx
    · obtain ⟨a, cp, h1, h2, h3, h4⟩ := p x hx
      refine ⟨a, cp, h1, h2.fr f1 (by rw [← h1]; exact fun j hj => (h4 j hj).2), h3, fun j hj => ⟨(h4 j hj).1, ?_⟩⟩
      rcases b1 with b1 | b1
      · rw [b1]; exact (h4 j hj).2
      · rw [b1]; intro hc; cases hc
        have := h2.live_lt (by rw [← h1]; exact hj); omega
    · obtain ⟨a, cp, h1, h2, h3, h4⟩ := hP x hx
      have hne : ∀ j, Live x.1 j → blkOf v ≠ some j := fun j hj hc => by have := hvq j hc; have := (h4 j hj).1; omega
      refine ⟨a, cp, h1, h2.fr f1 (by rw [← h1]; exact hne), h3, fun j hj => ⟨by have := (h4 j hj).1; omega, ?_⟩⟩
      rcases b1 with b1 | b1
      · rw [b1]; exact hne j hj
      · rw [b1]; intro hc; cases hc
        have := h2.live_lt (by rw [← h1]; exact hj); omega
/-- one pair more -/
theorem pair_one {old : Old} {h : AHeap} {q : Nat} {v : Value} {l : List (List UInt8 × List UInt8)} {a : Option Addr} {cp : Nat} {of d : List UInt8} (H : Pairs old h q v l) (hlo : h.lo ≤ h.bs.length) (hq : q ≤ h.bs.length) (hs : SlR old h 1 (.slice a of.length cp) (bytesVals of)) (hd : d.length = 32)
    (q' : Nat) (hqq : q ≤ q') (hvq : ∀ j, blkOf v = some j → j < q') (hlv : ∀ j, Live (.slice a of.length cp) j → q' ≤ j) (hb : l.length < 2 ^ 19) :
    ∃ v' h', appendV old (h.push (.cells (.slice a of.length cp :: bytesVals d) 159)) 158 33 56 v (.slice (some ⟨h.bs.length, 0, some 0⟩) 1 1) = some (v', h') ∧ Pairs old h' q v' (l ++ [(of, d)]) ∧ Fr h h' (fun j => blkOf v = some j) ∧ (blkOf v' = blkOf v ∨ blkOf v' = some (h.bs.length + 1)) ∧ h.bs.length < h'.bs.length := by
  have f0 : Fr h (h.push (.cells (.slice a of.length cp :: bytesVals d) 159)) (fun _ => False) := Fr.push
  have hs' := hs.fr f0 (fun _ _ h => h)
  obtain ⟨v', h', e, p, f, b⟩ := pairs_append (w := .slice (some ⟨h.bs.length, 0, some 0⟩) 1 1) (q' := q') (H.fr f0 (fun _ _ _ h => h)) (by simp; omega) (by simp; omega) hqq hvq [(.slice a of.length cp, of, d)] rfl rfl
    (fun _ => by
      simp only [srcCells]
      have : pcells [(.slice a of.length cp, of, d)] = .slice a of.length cp :: bytesVals d := by simp [pcells]
      rw [readN_rd, push_self, this, rdN_cells (by simp [hd]), List.drop_zero, List.take_of_length_le (by simp [hd])])
    (fun x hx => by
      rw [List.mem_singleton] at hx
      subst hx
      exact ⟨a, cp, rfl, hs', hd, fun j hj => ⟨hlv j hj, fun hc => by cases hc⟩⟩) (by simp; omega)
  have hl := f.len
  refine ⟨v', h', e, p, f0.trans f (fun _ h => h.elim) (fun _ h _ => h), by simpa using b, by simp at hl; omega⟩
end Go.Ab.Aud
