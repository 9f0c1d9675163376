/-
  Steps of the proof of AuditGrowsCardSaid: what functions of the program do in the abstract machine, and the laws between; no condition beside those that each theorem names.
-/
import Derived.Test.YtecbgdnoblhldaaGreatDoorAuC
import Derived.Test.YtecbgdnoblhldaaGreatDoorLit

set_option linter.unusedSimpArgs false
set_option linter.unusedVariables false
set_option linter.unusedSectionVars false

namespace Go.Ab.Aud
open Go.Sha
/-- a new row of cells, then laid over -/
theorem arr_step {g : AHeap} {Z : ABlock} {n fz : Nat} {vs : List Value} (hZ : ABlock.cells (List.replicate n (bv 0)) (fz + 1) = Z) (hl : vs.length = n) (ok : vs.all okCell = true) :
    ∃ g', (g.push Z).put g.bs.length (.cells vs (fz + 1)) = g' ∧ (g.push Z).at g.bs.length = some Z ∧ g'.at g.bs.length = some (.cells vs (fz + 1)) ∧ g'.bs.length = g.bs.length + 1 ∧ g'.lo = g.lo ∧ Fr g g' (fun _ => False) :=
  ⟨_, rfl, push_self, put_self (by simp), by simp, rfl, Fr.push.put' (.inr (Nat.le_refl _))⟩
/-- two of them -/
theorem arr_two {g : AHeap} {Z : ABlock} {n fz : Nat} {vs ws : List Value} (hZ : ABlock.cells (List.replicate n (bv 0)) (fz + 1) = Z) (hl : vs.length = n) :
    ∃ g1 g', ((g.push Z).push Z).put g.bs.length (.cells vs (fz + 1)) = g1 ∧ g1.put (g.bs.length + 1) (.cells ws (fz + 1)) = g' ∧ ((g.push Z).push Z).at g.bs.length = some Z ∧ g1.at (g.bs.length + 1) = some Z ∧
      g'.at g.bs.length = some (.cells vs (fz + 1)) ∧ g'.at (g.bs.length + 1) = some (.cells ws (fz + 1)) ∧ g1.bs.length = g.bs.length + 2 ∧ g'.bs.length = g.bs.length + 2 ∧ g1.lo = g.lo ∧ g'.lo = g.lo ∧ Fr g g' (fun _ => False) := by
  refine ⟨_, _, rfl, rfl, by rw [push_lt (by simp)]; exact push_self, by rw [put_ne (by omega)]; exact push_self' (by simp), by rw [put_ne (by omega)]; exact put_self (by simp; omega), put_self (by simp), by simp, by simp, rfl, rfl, (Fr.push.push'.put' (.inr (Nat.le_refl _))).put' (.inr (by omega))⟩
theorem wr_arr {Z : ABlock} {n fz : Nat} {vs : List Value} (hZ : ABlock.cells (List.replicate n (bv 0)) (fz + 1) = Z) (hl : vs.length = n) (ok : vs.all okCell = true) (G : AHeap) (b : Nat) : wrN G b (some Z) 0 0 vs = some (G.put b (.cells vs (fz + 1))) := by
  rw [← hZ, wrN_cells (by simp [hl]) ok]
  congr 3
  simp [splice, hl]
theorem new_step {g : AHeap} {Z : ABlock} {c : List Value} {fz : Nat} {vs : List Value} (hZ : ABlock.cells c (fz + 1) = Z) :
    ∃ g', (g.push Z).put g.bs.length (.cells vs (fz + 1)) = g' ∧ (g.push Z).at g.bs.length = some Z ∧ g'.at g.bs.length = some (.cells vs (fz + 1)) ∧ g'.bs.length = g.bs.length + 1 ∧ g'.lo = g.lo ∧ Fr g g' (fun _ => False) :=
  ⟨_, rfl, push_self, put_self (by simp), by simp, rfl, Fr.push.put' (.inr (Nat.le_refl _))⟩
theorem wr_all {Z : ABlock} {c : List Value} {fz : Nat} {vs : List Value} (hZ : ABlock.cells c (fz + 1) = Z) (hl : vs.length = c.length) (ok : vs.all okCell = true) (G : AHeap) (b : Nat) : wrN G b (some Z) 0 0 vs = some (G.put b (.cells vs (fz + 1))) := by
  rw [← hZ, wrN_cells (by simp [hl]) ok]
  congr 3
  simp [splice, hl]
variable {C : Ctx} (T : Tab_LLog C) (TD : Tab_LDig C) (TW : Tab_LLaw C) (TG : Tab_LGrow C) (hk : ∀ j, j < 64 → C.old 0 j = some (wv (kW j)))
include TW TG in
theorem due_spec : ∀ (f m n : Nat) (w : Bool) (h : AHeap), m ≤ n → n ≤ 2 ^ f → f ≤ 64 → n < 18446744073709551616 → D C 31 [uv m, uv n, .bool w] h = some (iv (dueF f m n w), h) ∧ dueF f m n w ≤ f + 1 := by
  intro f
  induction f with
  | zero =>
    intro m n w h h1 h2 hf hn
    rw [D_fn3 TG.h31 _ rfl]
    suffices hs : R C r31 [.code b31] [uv m, uv n, .bool w] [] ⟨[], 0⟩ = some (iv (dueF 0 m n w), ⟨[], 0⟩) by
      refine ⟨?_, by unfold dueF; split <;> omega⟩
      rw [hs]; exact pur_some rfl
    simp at h2
    by_cases h0 : m = 0
    · simp [b31, h0, r31, dueF]
    · have : n ≤ m := by omega
      cases w <;> simp [b31, h0, this, r31, dueF]
  | succ f ih =>
    intro m n w h h1 h2 hf hn
    rw [D_fn3 TG.h31 _ rfl]
    suffices hs : R C r31 [.code b31] [uv m, uv n, .bool w] [] ⟨[], 0⟩ = some (iv (dueF (f + 1) m n w), ⟨[], 0⟩) ∧ dueF (f + 1) m n w ≤ f + 1 + 1 by
      refine ⟨?_, hs.2⟩
      rw [hs.1]; exact pur_some rfl
    unfold dueF
    by_cases h0 : m = 0
    · simp [b31, h0, r31]
    · by_cases hnm : n ≤ m
      · cases w <;> simp [b31, h0, hnm, r31]
      · have k1 := lft_lt (n := n) (by omega)
        have k3 := lft_pow (s := n) (f := f) (by omega) h2
        have k2 := lft_ge (n := n) (by omega)
        have hp : 2 ^ (f + 1) = 2 * 2 ^ f := by rw [Nat.pow_succ]; omega
        have e1 := half_spec TW ⟨[], 0⟩ n (by omega) hn
        by_cases hk : m ≤ lft n
        · obtain ⟨e2, b2⟩ := ih m (lft n) w ⟨[], 0⟩ hk k3 (by omega) (by omega)
          rw [if_neg (by omega), if_neg hnm, if_pos hk]
          refine ⟨?_, by omega⟩
          simp [b31, h0, hnm, Dc_ok, e1, hk, e2, iv_add (a := 1) (b := dueF f m (lft n) w) (by omega), r31]
          rw [Nat.add_comm]
        · obtain ⟨e2, b2⟩ := ih (m - lft n) (n - lft n) false ⟨[], 0⟩ (by omega) (by omega) (by omega) (by omega)
          rw [if_neg (by omega), if_neg hnm, if_neg hk]
          refine ⟨?_, by omega⟩
          simp [b31, h0, hnm, Dc_ok, e1, hk, e2, uv_sub (a := m) (b := lft n) (by omega) (by omega), uv_sub (a := n) (b := lft n) (by omega) (by omega), iv_add (a := 1) (b := dueF f (m - lft n) (n - lft n) false) (by omega), r31]
          rw [Nat.add_comm]

section
include T TD TW TG hk
theorem grown_base (m : Nat) (w : Bool) (old p0 : List UInt8) (ps : List (List UInt8)) (hp : w = false → ps.length = 1) (hp0 : ps.getD 0 [] = p0) (ho : old.length = 32) (h : AHeap) (a : Option Addr) (cp : Nat) (P : DigR C.old h a cp ps) (hwf : h.lo ≤ h.bs.length) :
    ∃ h', D C 34 [uv m, uv m, .bool w, .agg ⟨bytesVals old⟩, .slice a ps.length cp] h = some (.tuple #[.slice none 0 0, .agg ⟨bytesVals (if w = true then old else p0)⟩, .agg ⟨bytesVals (if w = true then old else p0)⟩], h') ∧ Fr h h' (fun _ => False) := by
  have hz : Value.int .u8 0 = bv 0 := rfl
  generalize hX : ABlock.cells (bytesVals old) 31 = X
  generalize hZ : ABlock.cells (List.replicate 32 (bv 0)) 31 = Z
  have hZ0 := hZ
  simp [List.replicate] at hZ
  generalize hA : ((h.push X).push Z).push Z = A
  have fA : Fr h A (fun _ => False) := by rw [← hA]; exact Fr.push.push'.push'
  have aL : A.bs.length = h.bs.length + 3 := by rw [← hA]; simp
  have aO := fA.lo
  have x0 : A.at h.bs.length = some X := by rw [← hA, push_lt (by simp; omega), push_lt (by simp)]; exact push_self
  have z1 : A.at (h.bs.length + 1) = some Z := by rw [← hA, push_lt (by simp)]; exact push_self' (by simp)
  have z2 : A.at (h.bs.length + 1 + 1) = some Z := by rw [← hA]; exact push_self' (by simp)
  have rx : rdN (some X) 0 0 32 = some (bytesVals old) := by rw [← hX]; exact rd32 ho
  have k1 : h.lo ≤ h.bs.length + 1 := by omega
  have k2 : h.lo ≤ h.bs.length + 1 + 1 := by omega
  have q1 : h.bs.length + 1 < A.bs.length := by omega
  have q2 : h.bs.length + 1 + 1 < A.bs.length := by omega
  rw [D_fn TG.h34]
  cases w
  · have hl := hp rfl
    obtain ⟨a', rfl, rp⟩ := P.get (i := 0) (by omega)
    have l0 := get32 P.2 (i := 0) (by omega)
    rw [hp0] at rp l0
    have PA := P.fr fA (fun _ _ h => h)
    obtain ⟨a2, h2, rp2⟩ := PA.get (i := 0) (by omega)
    cases h2
    rw [hp0] at rp2
    generalize hB : A.put (h.bs.length + 1) (.cells (bytesVals p0) 31) = B
    have fB : Fr h B (fun _ => False) := by rw [← hB]; exact fA.put' (.inr (by omega))
    have PB := P.fr fB (fun _ _ h => h)
    obtain ⟨a2, h2, rp3⟩ := PB.get (i := 0) (by omega)
    cases h2
    rw [hp0] at rp3
    have b2 : B.at (h.bs.length + 1 + 1) = some Z := by rw [← hB, put_ne (by omega)]; exact z2
    have bO := fB.lo
    have bL : B.bs.length = A.bs.length := by rw [← hB]; simp
    have b1 : B.at (h.bs.length + 1) = some (.cells (bytesVals p0) 31) := by rw [← hB]; exact put_self q1
    have w1 := wr_arr (n := 32) hZ0 (vs := bytesVals p0) (by simp [l0]) bytes_ok
    have q3 : h.bs.length + 1 + 1 < B.bs.length := by omega
    refine ⟨B.put (h.bs.length + 1 + 1) (.cells (bytesVals p0) 31), ?_, fB.put' (.inr (by omega))⟩
    have c1 : (B.put (h.bs.length + 1 + 1) (.cells (bytesVals p0) 31)).at (h.bs.length + 1) = some (.cells (bytesVals p0) 31) := by rw [put_ne (by omega)]; exact b1
    rw [hl] at *
    simp at rp rp2 rp3
    simp [b34, bytes_ok, hX, hz, hZ, hA, ixS_iv (show 0 < 1 by omega), rp2, rp3, z1, writeN_wr, aO, k1, w1, hB, b2, bO, k2, r34, resV, put_self, q3, c1, rd32 l0, l0]
  · generalize hB : A.put (h.bs.length + 1) X = B
    have fB : Fr h B (fun _ => False) := by rw [← hB]; exact fA.put' (.inr (by omega))
    have b0 : B.at h.bs.length = some X := by rw [← hB, put_ne (by omega)]; exact x0
    have b2 : B.at (h.bs.length + 1 + 1) = some Z := by rw [← hB, put_ne (by omega)]; exact z2
    have bO := fB.lo
    have bL : B.bs.length = A.bs.length := by rw [← hB]; simp
    have b1 : B.at (h.bs.length + 1) = some X := by rw [← hB]; exact put_self q1
    have w1 := wr_arr (n := 32) hZ0 (vs := bytesVals old) (by simp [ho]) bytes_ok
    simp only [hX] at w1
    have q3 : h.bs.length + 1 + 1 < B.bs.length := by omega
    refine ⟨B.put (h.bs.length + 1 + 1) X, ?_, fB.put' (.inr (by omega))⟩
    have c1 : (B.put (h.bs.length + 1 + 1) X).at (h.bs.length + 1) = some X := by rw [put_ne (by omega)]; exact b1
    simp [b34, bytes_ok, hX, hz, hZ, hA, x0, rx, b0, z1, writeN_wr, aO, k1, w1, hB, b2, bO, k2, r34, resV, put_self, q3, c1, ho]

set_option maxHeartbeats 8000000 in
theorem grown_spec : ∀ (f m n : Nat) (w : Bool) (old : List UInt8) (ps : List (List UInt8)), 0 < m → m ≤ n → n ≤ 2 ^ f → f ≤ 64 → n < 18446744073709551616 → ps.length = dueF f m n w → old.length = 32 → ∀ (h : AHeap) (a : Option Addr) (cp : Nat), DigR C.old h a cp ps → h.lo ≤ h.bs.length →
    ∃ h' v, D C 34 [uv m, uv n, .bool w, .agg ⟨bytesVals old⟩, .slice a ps.length cp] h = some (.tuple #[v, .agg ⟨bytesVals (grownF f m n w old ps).2.1⟩, .agg ⟨bytesVals (grownF f m n w old ps).2.2⟩], h') ∧ Pairs C.old h' h.bs.length v (grownF f m n w old ps).1 ∧ Fr h h' (fun _ => False) ∧ isUnd v = false ∧ (grownF f m n w old ps).1.length ≤ 2 * f := by
  intro f
  induction f with
  | zero =>
    intro m n w old ps h0 h1 h2 hf hn hl ho h a cp P hwf
    obtain rfl : m = n := by simp at h2; omega
    obtain ⟨h', e, f⟩ := grown_base T TD TW TG hk m w old (ps.getD 0 []) ps (fun hw => by subst hw; simpa [dueF, show ¬ m = 0 by omega] using hl) rfl ho h a cp P hwf
    refine ⟨h', .slice none 0 0, e.trans ?_, ?_, f, rfl, ?_⟩ <;> cases w <;> first | rfl | exact Pairs.nil | exact Nat.zero_le _
  | succ f ih =>
    intro m n w old ps h0 h1 h2 hf hn hl ho h a cp P hwf
    by_cases hmn : m = n
    · subst hmn
      obtain ⟨h', e, f⟩ := grown_base T TD TW TG hk m w old (ps.getD 0 []) ps (fun hw => by subst hw; simpa [dueF, show ¬ m = 0 by omega] using hl) rfl ho h a cp P hwf
      refine ⟨h', .slice none 0 0, e.trans ?_, ?_, f, rfl, ?_⟩ <;> unfold grownF <;> rw [if_pos rfl] <;> cases w <;> first | rfl | exact Pairs.nil | exact Nat.zero_le _
    · have k1 := lft_lt (n := n) (by omega)
      have k3 := lft_pow (s := n) (f := f) (by omega) h2
      have k2 := lft_ge (n := n) (by omega)
      have hpw : 2 ^ (f + 1) = 2 * 2 ^ f := by rw [Nat.pow_succ]; omega
      unfold dueF at hl
      rw [if_neg (show ¬ (m = 0 ∨ (n ≤ m ∧ w = true)) by omega), if_neg (show ¬ n ≤ m by omega)] at hl
      unfold grownF
      rw [if_neg hmn]
      rw [D_fn TG.h34]
      have hs1 : ¬ m = n := hmn
      have hp0 : ¬ ps.length = 0 := by split at hl <;> omega
      have hpl : ps.length ≤ 130 := by
        have := (due_spec TW TG (f + 1) m n w ⟨[], 0⟩ h1 h2 hf hn).2
        unfold dueF at this
        rw [if_neg (show ¬ (m = 0 ∨ (n ≤ m ∧ w = true)) by omega), if_neg (show ¬ n ≤ m by omega)] at this
        omega
      have hz : Value.int .u8 0 = bv 0 := rfl
      generalize hX : ABlock.cells (bytesVals old) 31 = X
      generalize hZ : ABlock.cells (List.replicate 32 (bv 0)) 31 = Z
      have hZ0 := hZ
      simp [List.replicate] at hZ
      generalize hZ2 : ABlock.cells (.slice none 0 0 :: List.replicate 32 (bv 0)) 159 = Z2
      have hZ20 := hZ2
      simp [List.replicate] at hZ2
      generalize hA : ((h.push X).push Z).push Z = A
      have fA : Fr h A (fun _ => False) := by rw [← hA]; exact Fr.push.push'.push'
      have aL : A.bs.length = h.bs.length + 3 := by rw [← hA]; simp
      have aO := fA.lo
      have x0 : A.at h.bs.length = some X := by rw [← hA, push_lt (by simp; omega), push_lt (by simp)]; exact push_self
      have z1 : A.at (h.bs.length + 1) = some Z := by rw [← hA, push_lt (by simp)]; exact push_self' (by simp)
      have z2 : A.at (h.bs.length + 1 + 1) = some Z := by rw [← hA]; exact push_self' (by simp)
      have rx : rdN (some X) 0 0 32 = some (bytesVals old) := by rw [← hX]; exact rd32 ho
      have hlo1 : h.lo ≤ h.bs.length + 1 := by omega
      have hloA : h.lo ≤ A.bs.length := by omega
      have e1 := half_spec TW A n (by omega) hn
      have PA : DigR C.old A a cp ps := P.fr fA (fun _ _ h => h)
      obtain ⟨a', rfl, rp⟩ := PA.get (i := ps.length - 1) (by omega)
      have lp := get32 P.2 (i := ps.length - 1) (by omega)
      generalize hla : ps.getD (ps.length - 1) [] = last at rp lp
      obtain ⟨B, hB, z14, b14, bL, bO, fB⟩ := arr_step (g := A) (vs := bytesVals last) hZ0 (by simp [lp]) bytes_ok
      have w14 := wr_arr (n := 32) hZ0 (vs := bytesVals last) (by simp [lp]) bytes_ok
      have rl14 : rdN (some (.cells (bytesVals last) 31)) 0 0 32 = some (bytesVals last) := rd32 lp
      have PB : DigR C.old B (some a') cp ps := PA.fr fB (fun _ _ h => h)
      obtain ⟨a2, cp2, sl, P2, lv2⟩ := PB.lower (ps.length - 1) (by omega)
      have hl2 : (ps.take (ps.length - 1)).length = ps.length - 1 := by simp
      have x1 : B.at h.bs.length = some X := fB.get x0 (fun h => h)
      by_cases hlt : m ≤ lft n
      · rw [if_pos hlt] at hl ⊢
        have hl' : (ps.take (ps.length - 1)).length = dueF f m (lft n) w := by simp; omega
        have g32 := grown_32 f m (lft n) w old (ps.take (ps.length - 1)) h0 hlt k3 hl' ho (mem_take32 P.2 _)
        obtain ⟨D1, v, e2, p2, f2, u2, c2⟩ := ih m (lft n) w old (ps.take (ps.length - 1)) h0 hlt k3 (by omega) (by omega) hl' ho B a2 cp2 P2 (by omega)
        rw [hl2] at e2
        generalize grownF f m (lft n) w old (ps.take (ps.length - 1)) = r at e2 p2 g32 c2 ⊢
        obtain ⟨rl, ra, rb⟩ := r
        simp only at e2 p2 g32 c2 ⊢
        obtain ⟨ga, gb⟩ := g32
        have dL := f2.len
        have dO := f2.lo
        obtain ⟨E1, E, hE1, hE, e17, e18, E17, E18, eL1, eL, eO1, eO, fE⟩ := arr_two (g := D1) (vs := bytesVals ra) (ws := bytesVals rb) hZ0 (by simp [ga])
        have wa := wr_arr (n := 32) hZ0 (vs := bytesVals ra) (by simp [ga]) bytes_ok
        have wb := wr_arr (n := 32) hZ0 (vs := bytesVals rb) (by simp [gb]) bytes_ok
        have E14 : E.at A.bs.length = some (.cells (bytesVals last) 31) := fE.get (f2.get b14 (fun h => h)) (fun h => h)
        have hloD : h.lo ≤ D1.bs.length := by omega
        have hloD1 : h.lo ≤ D1.bs.length + 1 := by omega

        obtain ⟨G, na, ncp, e3, s3, f3, lv3⟩ := lnode_spec T TD TW hk E rb last gb lp (by omega)
        simp only [gL, nd]
        have dl := sha_length (1 :: (rb ++ last))
        have ofl : (1 :: (rb ++ last) : List UInt8).length = 65 := by simp [gb, lp]
        generalize (1 :: (rb ++ last) : List UInt8) = of at e3 s3 dl ofl ⊢
        generalize sha of = dg at e3 dl ⊢
        have gLn := f3.len
        have gO := f3.lo
        obtain ⟨H, hH, z19, H19, hL, hO, fH⟩ := new_step (g := G) (vs := .slice na 65 ncp :: bytesVals dg) hZ20
        have w4 := wr_all hZ20 (vs := .slice na 65 ncp :: bytesVals dg) (by simp [dl]) (by rw [List.all_cons, bytes_ok]; rfl)
        have rp1 : rdN (some (.cells (.slice na 65 ncp :: bytesVals dg) 159)) 0 0 33 = some (.slice na 65 ncp :: bytesVals dg) := by
          rw [rdN_cells (by simp [dl]), List.drop_zero, List.take_of_length_le (by simp [dl])]
        have rp2 : rdN (some (.cells (.slice na 65 ncp :: bytesVals dg) 159)) 1 0 32 = some (bytesVals dg) := by
          rw [rdN_cells (by simp [dl]), List.drop_succ_cons, List.drop_zero, List.take_of_length_le (by simp [dl])]
        have fDH : Fr D1 H (fun _ => False) := (fE.trans f3 (S'' := fun _ => False) (fun _ h => h) (fun _ h _ => h)).trans fH (fun _ h => h) (fun _ h _ => h)
        have pH : Pairs C.old H B.bs.length v rl := p2.fr fDH (fun _ _ _ h => h)
        have vb1 : ∀ j, blkOf v = some j → j < D1.bs.length := by
          obtain ⟨L, _, o, _, _⟩ := p2
          exact fun j hj => o.blk hj
        have vq : ∀ j, blkOf v = some j → B.bs.length ≤ j := by
          obtain ⟨L, _, _, b, _⟩ := p2
          exact b
        rw [← ofl] at s3 lv3
        obtain ⟨v', K, e5, p5, f5, b5, l5⟩ := pair_one (q := B.bs.length) pH (by omega) (by omega) (s3.fr fH (fun _ _ h => h)) dl E.bs.length (by omega) (fun j hj => by have := vb1 j hj; omega) (fun j hj => lv3 j hj) (by omega)
        rw [ofl] at e5
        have fAK : Fr A K (fun j => B.bs.length ≤ j) := (((fB.mono (S' := fun j => B.bs.length ≤ j) (fun _ h _ => h.elim)).trans f2 (S'' := fun j => B.bs.length ≤ j) (fun _ h => h) (fun _ h _ => h.elim)).trans fDH (S'' := fun j => B.bs.length ≤ j) (fun _ h => h) (fun _ h _ => h.elim)).trans f5 (fun _ h => h) (fun j hj _ => vq j hj)
        have K11 : K.at (h.bs.length + 1) = some Z := fAK.get z1 (by omega)
        have K12 : K.at (h.bs.length + 1 + 1) = some Z := fAK.get z2 (by omega)
        have kO := fAK.lo
        have kL := fAK.len
        have H17 : H.at D1.bs.length = some (.cells (bytesVals ra) 31) := fH.get (f3.get E17 (fun h => h)) (fun h => h)
        have H17' : (H.push (.cells (.slice na 65 ncp :: bytesVals dg) 159)).at D1.bs.length = some (.cells (bytesVals ra) 31) := push_old H17
        have H19' : (H.push (.cells (.slice na 65 ncp :: bytesVals dg) 159)).at G.bs.length = some (.cells (.slice na 65 ncp :: bytesVals dg) 159) := push_old H19
        have K17 : K.at D1.bs.length = some (.cells (bytesVals ra) 31) := f5.get H17 (fun hj => by have := vb1 _ hj; omega)
        have K19 : K.at G.bs.length = some (.cells (.slice na 65 ncp :: bytesVals dg) 159) := f5.get H19 (fun hj => by have := vb1 _ hj; omega)
        have vU : isUnd v' = false := by obtain ⟨L, _, o, _, _⟩ := p5; exact o.und
        generalize hM : K.put (h.bs.length + 1) (.cells (bytesVals ra) 31) = M
        have fM : Fr K M (fun j => j = h.bs.length + 1) := by rw [← hM]; exact Fr.put rfl
        have M19 : M.at G.bs.length = some (.cells (.slice na 65 ncp :: bytesVals dg) 159) := fM.get K19 (by omega)
        have M12 : M.at (h.bs.length + 1 + 1) = some Z := fM.get K12 (by omega)
        have M11 : M.at (h.bs.length + 1) = some (.cells (bytesVals ra) 31) := by rw [← hM]; exact put_self (by omega)
        have mL : M.bs.length = K.bs.length := by rw [← hM]; simp
        have mO := fM.lo
        have wd := wr_arr (n := 32) hZ0 (vs := bytesVals dg) (by simp [dl]) bytes_ok
        have zsp : splice (.slice none 0 0 :: List.replicate 32 (bv 0)) 0 (.slice na 65 ncp :: bytesVals dg) = .slice na 65 ncp :: bytesVals dg := by simp [splice, dl]
        simp [List.replicate] at zsp
        have hloG : h.lo ≤ G.bs.length := by omega
        have hl2' : h.lo ≤ h.bs.length + 1 + 1 := by omega
        have N11 : (M.put (h.bs.length + 1 + 1) (.cells (bytesVals dg) 31)).at (h.bs.length + 1) = some (.cells (bytesVals ra) 31) := by rw [put_ne (by omega)]; exact M11
        have qM : h.bs.length + 1 + 1 < M.bs.length := by omega
        refine ⟨M.put (h.bs.length + 1 + 1) (.cells (bytesVals dg) 31), v', ?_, ?_, ?_, vU, by simp; omega⟩
        · simp [b34, bytes_ok, hX, hz, hZ, hA, hs1, hp0, Dc_ok, e1, iv_sub (a := ps.length) (b := 1) (by omega) (by omega), ixS_iv (show ps.length - 1 < ps.length by omega), rp, writeN_wr, aO, hloA, z14, lp, w14, hB, eq_true hlt, x1, rx, sl, e2, stp_ok u2, u2, e17, ga, wa, hE1, e18, gb, wb, hE, dO, bO, hloD, hloD1, eO1, eO, E18, E14, rd32 gb, rl14, e3, hZ2, z19, w4, hH, gO, hO, hloG, dl, H19, H17, rp1, rd32 ga, rp2, fillCells, zsp, e5, K17, K19, K11, kO, hlo1, hM, M19, M12, mO, hl2', wd, H17', H19', vU, r34, resV, put_self, qM, N11, rd32 dl]
        · exact ((p5.fr fM (fun j hj _ hc => by omega)).fr (Fr.put (S := fun j => j = h.bs.length + 1 + 1) rfl) (fun j hj _ hc => by omega)).mono (by omega)
        · exact ((fA.trans fAK (S'' := fun _ => False) (fun _ h => h) (fun j hj hl => by omega)).trans fM (S'' := fun _ => False) (fun _ h => h) (fun j hj hl => by omega)).put' (.inr (by omega))

      · rw [if_neg hlt] at hl ⊢
        have hl' : (ps.take (ps.length - 1)).length = dueF f (m - lft n) (n - lft n) false := by simp; omega
        have g32 := grown_32 f (m - lft n) (n - lft n) false old (ps.take (ps.length - 1)) (by omega) (by omega) (by omega) hl' ho (mem_take32 P.2 _)
        obtain ⟨D1, v, e2, p2, f2, u2, c2⟩ := ih (m - lft n) (n - lft n) false old (ps.take (ps.length - 1)) (by omega) (by omega) (by omega) (by omega) (by omega) hl' ho B a2 cp2 P2 (by omega)
        rw [hl2] at e2
        generalize grownF f (m - lft n) (n - lft n) false old (ps.take (ps.length - 1)) = r at e2 p2 g32 c2 ⊢
        obtain ⟨rl, ra, rb⟩ := r
        simp only at e2 p2 g32 c2 ⊢
        obtain ⟨ga, gb⟩ := g32
        have dL := f2.len
        have dO := f2.lo
        obtain ⟨E1, E, hE1, hE, e17, e18, E17, E18, eL1, eL, eO1, eO, fE⟩ := arr_two (g := D1) (vs := bytesVals ra) (ws := bytesVals rb) hZ0 (by simp [ga])
        have wa := wr_arr (n := 32) hZ0 (vs := bytesVals ra) (by simp [ga]) bytes_ok
        have wb := wr_arr (n := 32) hZ0 (vs := bytesVals rb) (by simp [gb]) bytes_ok
        have E14 : E.at A.bs.length = some (.cells (bytesVals last) 31) := fE.get (f2.get b14 (fun h => h)) (fun h => h)
        have hloD : h.lo ≤ D1.bs.length := by omega
        have hloD1 : h.lo ≤ D1.bs.length + 1 := by omega
        obtain ⟨G, na, ncp, e3, s3, f3, lv3⟩ := lnode_spec T TD TW hk E last ra lp ga (by omega)
        simp only [gR, nd]
        have dl := sha_length (1 :: (last ++ ra))
        have ofl : (1 :: (last ++ ra) : List UInt8).length = 65 := by simp [ga, lp]
        generalize (1 :: (last ++ ra) : List UInt8) = of at e3 s3 dl ofl ⊢
        generalize sha of = dg at e3 dl ⊢
        have gLn := f3.len
        have gO := f3.lo
        obtain ⟨H, hH, z19, H19, hL, hO, fH⟩ := new_step (g := G) (vs := .slice na 65 ncp :: bytesVals dg) hZ20
        have w4 := wr_all hZ20 (vs := .slice na 65 ncp :: bytesVals dg) (by simp [dl]) (by rw [List.all_cons, bytes_ok]; rfl)
        have H14 : H.at A.bs.length = some (.cells (bytesVals last) 31) := fH.get (f3.get E14 (fun h => h)) (fun h => h)
        have H18 : H.at (D1.bs.length + 1) = some (.cells (bytesVals rb) 31) := fH.get (f3.get E18 (fun h => h)) (fun h => h)
        obtain ⟨G', na', ncp', e3', s3', f3', lv3'⟩ := lnode_spec T TD TW hk H last rb lp gb (by omega)
        have dl' := sha_length (1 :: (last ++ rb))
        have ofl' : (1 :: (last ++ rb) : List UInt8).length = 65 := by simp [gb, lp]
        generalize (1 :: (last ++ rb) : List UInt8) = of' at e3' s3' dl' ofl' ⊢
        generalize sha of' = dg' at e3' dl' ⊢
        have gLn' := f3'.len
        have gO' := f3'.lo
        obtain ⟨J, hJ, z24, J24, jL, jO, fJ⟩ := new_step (g := G') (vs := .slice na' 65 ncp' :: bytesVals dg') hZ20
        have w5 := wr_all hZ20 (vs := .slice na' 65 ncp' :: bytesVals dg') (by simp [dl']) (by rw [List.all_cons, bytes_ok]; rfl)
        have rp1 : rdN (some (.cells (.slice na 65 ncp :: bytesVals dg) 159)) 0 0 33 = some (.slice na 65 ncp :: bytesVals dg) := by
          rw [rdN_cells (by simp [dl]), List.drop_zero, List.take_of_length_le (by simp [dl])]
        have rp2 : rdN (some (.cells (.slice na 65 ncp :: bytesVals dg) 159)) 1 0 32 = some (bytesVals dg) := by
          rw [rdN_cells (by simp [dl]), List.drop_succ_cons, List.drop_zero, List.take_of_length_le (by simp [dl])]
        have rp3 : rdN (some (.cells (.slice na' 65 ncp' :: bytesVals dg') 159)) 0 0 33 = some (.slice na' 65 ncp' :: bytesVals dg') := by
          rw [rdN_cells (by simp [dl']), List.drop_zero, List.take_of_length_le (by simp [dl'])]
        have rp4 : rdN (some (.cells (.slice na' 65 ncp' :: bytesVals dg') 159)) 1 0 32 = some (bytesVals dg') := by
          rw [rdN_cells (by simp [dl']), List.drop_succ_cons, List.drop_zero, List.take_of_length_le (by simp [dl'])]
        have fHJ : Fr H J (fun _ => False) := f3'.trans fJ (fun _ h => h) (fun _ h _ => h)
        have fDH : Fr D1 J (fun _ => False) := ((fE.trans f3 (S'' := fun _ => False) (fun _ h => h) (fun _ h _ => h)).trans fH (S'' := fun _ => False) (fun _ h => h) (fun _ h _ => h)).trans fHJ (fun _ h => h) (fun _ h _ => h)
        have J19 : J.at G.bs.length = some (.cells (.slice na 65 ncp :: bytesVals dg) 159) := fHJ.get H19 (fun h => h)
        have pJ : Pairs C.old J B.bs.length v rl := p2.fr fDH (fun _ _ _ h => h)
        have vb1 : ∀ j, blkOf v = some j → j < D1.bs.length := by
          obtain ⟨L, _, o, _, _⟩ := p2
          exact fun j hj => o.blk hj
        have vq : ∀ j, blkOf v = some j → B.bs.length ≤ j := by
          obtain ⟨L, _, _, b, _⟩ := p2
          exact b
        generalize hPC : (Value.slice na 65 ncp :: bytesVals dg) ++ (Value.slice na' 65 ncp' :: bytesVals dg') = PC
        have pok : ∀ x, x ∈ PC → okCell x = true := by
          rw [← List.all_eq_true, ← hPC, List.all_append, List.all_cons, List.all_cons, bytes_ok, bytes_ok]; rfl
        have pcl : PC.length = 66 := by rw [← hPC]; simp [dl, dl']
        have fP : Fr J (J.push (.cells PC 159)) (fun _ => False) := Fr.push
        rw [← ofl] at s3 lv3
        rw [← ofl'] at s3' lv3'
        have hpc : pcells [(.slice na of.length ncp, of, dg), (.slice na' of'.length ncp', of', dg')] = PC := by rw [← hPC, ofl, ofl']; simp [pcells]
        obtain ⟨v', K, e5, p5, f5, b5⟩ := pairs_append (old := C.old) (w := .slice (some ⟨J.bs.length, 0, some 0⟩) 2 2) (q := B.bs.length) (q' := E.bs.length) (pJ.fr fP (fun _ _ _ h => h)) (by simp; omega) (by simp; omega) (by omega) (fun j hj => by have := vb1 j hj; omega)
          [(.slice na of.length ncp, of, dg), (.slice na' of'.length ncp', of', dg')] rfl rfl
          (fun _ => by
            simp only [srcCells]
            rw [hpc, readN_rd, push_self, rdN_cells (by simp [pcl]), List.drop_zero, List.take_of_length_le (by simp [pcl])])
          (fun x hx => by
            simp only [List.mem_cons, List.not_mem_nil, or_false] at hx
            rcases hx with rfl | rfl
            · exact ⟨na, ncp, rfl, ((s3.fr fH (fun _ _ h => h)).fr fHJ (fun _ _ h => h)).fr fP (fun _ _ h => h), dl, fun j hj => ⟨lv3 j hj, fun hc => by cases hc⟩⟩
            · exact ⟨na', ncp', rfl, (s3'.fr fJ (fun _ _ h => h)).fr fP (fun _ _ h => h), dl', fun j hj => ⟨by have := lv3' j hj; omega, fun hc => by cases hc⟩⟩) (by simp; omega)
        have f5' : Fr J K (fun j => blkOf v = some j) := fP.trans f5 (fun _ h => h.elim) (fun _ h _ => h)
        have fAK : Fr A K (fun j => B.bs.length ≤ j) := (((fB.mono (S' := fun j => B.bs.length ≤ j) (fun _ h _ => h.elim)).trans f2 (S'' := fun j => B.bs.length ≤ j) (fun _ h => h) (fun _ h _ => h.elim)).trans fDH (S'' := fun j => B.bs.length ≤ j) (fun _ h => h) (fun _ h _ => h.elim)).trans f5' (fun _ h => h) (fun j hj _ => vq j hj)
        have K11 : K.at (h.bs.length + 1) = some Z := fAK.get z1 (by omega)
        have K12 : K.at (h.bs.length + 1 + 1) = some Z := fAK.get z2 (by omega)
        have kO := fAK.lo
        have kL := fAK.len
        have J19' : (J.push (.cells PC 159)).at G.bs.length = some (.cells (.slice na 65 ncp :: bytesVals dg) 159) := push_old J19
        have J24' : (J.push (.cells PC 159)).at G'.bs.length = some (.cells (.slice na' 65 ncp' :: bytesVals dg') 159) := push_old J24
        have K19 : K.at G.bs.length = some (.cells (.slice na 65 ncp :: bytesVals dg) 159) := f5'.get J19 (fun hj => by have := vb1 _ hj; omega)
        have K24 : K.at G'.bs.length = some (.cells (.slice na' 65 ncp' :: bytesVals dg') 159) := f5'.get J24 (fun hj => by have := vb1 _ hj; omega)
        have vU : isUnd v' = false := by obtain ⟨L, _, o, _, _⟩ := p5; exact o.und
        generalize hM : K.put (h.bs.length + 1) (.cells (bytesVals dg) 31) = M
        have fM : Fr K M (fun j => j = h.bs.length + 1) := by rw [← hM]; exact Fr.put rfl
        have M24 : M.at G'.bs.length = some (.cells (.slice na' 65 ncp' :: bytesVals dg') 159) := fM.get K24 (by omega)
        have M12 : M.at (h.bs.length + 1 + 1) = some Z := fM.get K12 (by omega)
        have M11 : M.at (h.bs.length + 1) = some (.cells (bytesVals dg) 31) := by rw [← hM]; exact put_self (by omega)
        have mL : M.bs.length = K.bs.length := by rw [← hM]; simp
        have mO := fM.lo
        have wd := wr_arr (n := 32) hZ0 (vs := bytesVals dg) (by simp [dl]) bytes_ok
        have wd' := wr_arr (n := 32) hZ0 (vs := bytesVals dg') (by simp [dl']) bytes_ok
        have zsp : splice (splice ((.slice none 0 0 :: List.replicate 32 (bv 0)) ++ (.slice none 0 0 :: List.replicate 32 (bv 0))) 0 (.slice na 65 ncp :: bytesVals dg)) 33 (.slice na' 65 ncp' :: bytesVals dg') = PC := by rw [← hPC]; simp [splice, dl, dl']
        have zspl : (splice ((.slice none 0 0 :: List.replicate 32 (bv 0)) ++ (.slice none 0 0 :: List.replicate 32 (bv 0))) 0 (.slice na 65 ncp :: bytesVals dg)).length = 66 := by simp [splice, dl]
        simp [List.replicate] at zsp zspl
        have hloG : h.lo ≤ G.bs.length := by omega
        have hloG' : h.lo ≤ G'.bs.length := by omega
        have hl2' : h.lo ≤ h.bs.length + 1 + 1 := by omega
        have N11 : (M.put (h.bs.length + 1 + 1) (.cells (bytesVals dg') 31)).at (h.bs.length + 1) = some (.cells (bytesVals dg) 31) := by rw [put_ne (by omega)]; exact M11
        have qM : h.bs.length + 1 + 1 < M.bs.length := by omega
        refine ⟨M.put (h.bs.length + 1 + 1) (.cells (bytesVals dg') 31), v', ?_, ?_, ?_, vU, by simp; omega⟩
        · simp [b34, bytes_ok, hX, hz, hZ, hA, hs1, Dc_ok, e1, iv_sub (a := ps.length) (b := 1) (by omega) (by omega), ixS_iv (show ps.length - 1 < ps.length by omega), rp, writeN_wr, aO, hloA, z14, lp, w14, hB, eq_false hlt, x1, rx, sl, e2, stp_ok u2, u2, e17, ga, wa, hE1, e18, gb, wb, hE, dO, bO, hloD, hloD1, eO1, eO, E17, E14, rd32 ga, rl14, e3, hZ2, z19, w4, hH, gO, hO, hloG, dl, H14, H18, rd32 gb, e3', z24, w5, hJ, gO', jO, hloG', dl', J19, J24, rp1, rp2, rp3, rp4, fillCells, zsp, zspl, eq_true pok, e5, K19, K24, K11, kO, hlo1, hM, M24, M12, mO, hl2', wd, wd', J19', J24', vU, r34, resV, put_self, qM, N11, rd32 dl, rd32 dl', uv_sub (a := m) (b := lft n) (by omega) (by omega), uv_sub (a := n) (b := lft n) (by omega) (by omega)]
        · exact ((p5.fr fM (fun j hj _ hc => by omega)).fr (Fr.put (S := fun j => j = h.bs.length + 1 + 1) rfl) (fun j hj _ hc => by omega)).mono (by omega)
        · exact ((fA.trans fAK (S'' := fun _ => False) (fun _ h => h) (fun j hj hl => by omega)).trans fM (S'' := fun _ => False) (fun _ h => h) (fun j hj hl => by omega)).put' (.inr (by omega))
end
end Go.Ab.Aud

namespace Go.Ab.Aud
open Go.Sha
/-- the statement's argument -/
structure GA where
  os : Nat
  oroot : List UInt8
  hs : Nat
  hroot : List UInt8
  pf : Value
  n : Nat
  l0 : List UInt8
  l1 : List UInt8
  p0 : Value
  p1 : Value
  rv : Value
  lucky : Bool
  which : Int
  al : Value
def gC (x : GA) : List Value := (uv x.os :: bytesVals x.oroot) ++ ((uv x.hs :: bytesVals x.hroot) ++ ([x.pf, uv x.n] ++ ((bytesVals x.l0 ++ bytesVals x.l1) ++ [x.p0, x.p1, x.rv, .bool x.lucky, zv x.which, x.al])))
structure GA.Ok (x : GA) : Prop where
  o : x.oroot.length = 32
  h : x.hroot.length = 32
  a : x.l0.length = 32
  b : x.l1.length = 32
  os : x.os < 18446744073709551616
  hs : x.hs < 18446744073709551616
  n : x.n < 18446744073709551616
  pf : okCell x.pf = true
  p0 : okCell x.p0 = true
  p1 : okCell x.p1 = true
  rv : okCell x.rv = true
  al : okCell x.al = true
theorem gC_len {x : GA} (k : x.Ok) : (gC x).length = 138 := by simp [gC, k.o, k.h, k.a, k.b]
theorem gC_ok {x : GA} (k : x.Ok) : (gC x).all okCell = true := by
  simp only [gC, List.all_append, List.all_cons, List.all_nil, bytes_ok, k.pf, k.p0, k.p1, k.rv, k.al]; rfl
theorem rd_part {c A B D : List Value} {o n fz : Nat} (e : c = A ++ (B ++ D)) (hA : A.length = o) (hB : B.length = n) : rdN (some (.cells c fz)) o 0 n = some B := by
  rw [rdN_cells (by rw [e]; simp; omega), e, part_at hA hB]
theorem rd_one {c A D : List Value} {x : Value} {o fz : Nat} (e : c = A ++ x :: D) (hA : A.length = o) : rd1 (some (.cells c fz)) o 0 = some x := by
  rw [rd1_cells, e, get_at hA]
theorem wr_part {c A B B' D : List Value} {o fz b : Nat} {h : AHeap} (e : c = A ++ (B ++ D)) (hA : A.length = o) (hB : B'.length = B.length) (ok : B'.all okCell = true) : wrN h b (some (.cells c (fz + 1))) o 0 B' = some (h.put b (.cells (A ++ (B' ++ D)) (fz + 1))) := by
  rw [wrN_cells (by rw [e]; simp; omega) ok, e]
  congr 3
  subst hA
  simp [splice, hB]
theorem wr_one {c A D : List Value} {x y : Value} {o fz b : Nat} {h : AHeap} (e : c = A ++ x :: D) (hA : A.length = o) (ok : okCell y = true) : wr1 h b (some (.cells c (fz + 1))) o 0 y = some (h.put b (.cells (A ++ y :: D) (fz + 1))) := by
  rw [wr1_cells (by rw [e]; simp; omega) ok, e]
  congr 3
  subst hA
  simp
section
variable {x : GA} (k : x.Ok) {fz : Nat}
include k
theorem gr0 : rdN (some (.cells (gC x) fz)) 0 0 33 = some (uv x.os :: bytesVals x.oroot) := rd_part (A := []) (by simp [gC]; rfl) rfl (by simp [k.o])
theorem gr0' : rd1 (some (.cells (gC x) fz)) 0 0 = some (uv x.os) := rd_one (A := []) (by simp [gC]; rfl) rfl
theorem gr1 : rdN (some (.cells (gC x) fz)) 1 0 32 = some (bytesVals x.oroot) := rd_part (A := [uv x.os]) (by simp [gC]; rfl) rfl (by simp [k.o])
theorem gr33 : rdN (some (.cells (gC x) fz)) 33 0 33 = some (uv x.hs :: bytesVals x.hroot) := rd_part (A := uv x.os :: bytesVals x.oroot) (by simp [gC]; rfl) (by simp [k.o]) (by simp [k.h])
theorem gr33' : rd1 (some (.cells (gC x) fz)) 33 0 = some (uv x.hs) := rd_one (A := uv x.os :: bytesVals x.oroot) (by simp [gC]; rfl) (by simp [k.o])
theorem gr66 : rd1 (some (.cells (gC x) fz)) 66 0 = some x.pf := rd_one (A := (uv x.os :: bytesVals x.oroot) ++ (uv x.hs :: bytesVals x.hroot)) (by simp [gC]; rfl) (by simp [k.o, k.h])
theorem gr67 : rd1 (some (.cells (gC x) fz)) 67 0 = some (uv x.n) := rd_one (A := (uv x.os :: bytesVals x.oroot) ++ (uv x.hs :: bytesVals x.hroot) ++ [x.pf]) (by simp [gC]; rfl) (by simp [k.o, k.h])
theorem gr68 : rdN (some (.cells (gC x) fz)) 68 0 32 = some (bytesVals x.l0) := rd_part (A := (uv x.os :: bytesVals x.oroot) ++ (uv x.hs :: bytesVals x.hroot) ++ [x.pf, uv x.n]) (by simp [gC]; rfl) (by simp [k.o, k.h]) (by simp [k.a])
theorem gr100 : rdN (some (.cells (gC x) fz)) 100 0 32 = some (bytesVals x.l1) := rd_part (A := (uv x.os :: bytesVals x.oroot) ++ (uv x.hs :: bytesVals x.hroot) ++ [x.pf, uv x.n] ++ bytesVals x.l0) (by simp [gC]; rfl) (by simp [k.o, k.h, k.a]) (by simp [k.b])
theorem gr64 : rdN (some (.cells (gC x) fz)) 68 0 64 = some (bytesVals x.l0 ++ bytesVals x.l1) := rd_part (A := (uv x.os :: bytesVals x.oroot) ++ (uv x.hs :: bytesVals x.hroot) ++ [x.pf, uv x.n]) (by simp [gC]; rfl) (by simp [k.o, k.h]) (by simp [k.a, k.b])
theorem gr132 : rd1 (some (.cells (gC x) fz)) 132 0 = some x.p0 := rd_one (A := (uv x.os :: bytesVals x.oroot) ++ (uv x.hs :: bytesVals x.hroot) ++ [x.pf, uv x.n] ++ bytesVals x.l0 ++ bytesVals x.l1) (by simp [gC]; rfl) (by simp [k.o, k.h, k.a, k.b])
theorem gr133 : rd1 (some (.cells (gC x) fz)) 133 0 = some x.p1 := rd_one (A := (uv x.os :: bytesVals x.oroot) ++ (uv x.hs :: bytesVals x.hroot) ++ [x.pf, uv x.n] ++ bytesVals x.l0 ++ bytesVals x.l1 ++ [x.p0]) (by simp [gC]; rfl) (by simp [k.o, k.h, k.a, k.b])
theorem gr134 : rd1 (some (.cells (gC x) fz)) 134 0 = some x.rv := rd_one (A := (uv x.os :: bytesVals x.oroot) ++ (uv x.hs :: bytesVals x.hroot) ++ [x.pf, uv x.n] ++ bytesVals x.l0 ++ bytesVals x.l1 ++ [x.p0, x.p1]) (by simp [gC]; rfl) (by simp [k.o, k.h, k.a, k.b])
theorem gr135 : rd1 (some (.cells (gC x) fz)) 135 0 = some (.bool x.lucky) := rd_one (A := (uv x.os :: bytesVals x.oroot) ++ (uv x.hs :: bytesVals x.hroot) ++ [x.pf, uv x.n] ++ bytesVals x.l0 ++ bytesVals x.l1 ++ [x.p0, x.p1, x.rv]) (by simp [gC]; rfl) (by simp [k.o, k.h, k.a, k.b])
theorem gr136 : rd1 (some (.cells (gC x) fz)) 136 0 = some (zv x.which) := rd_one (A := (uv x.os :: bytesVals x.oroot) ++ (uv x.hs :: bytesVals x.hroot) ++ [x.pf, uv x.n] ++ bytesVals x.l0 ++ bytesVals x.l1 ++ [x.p0, x.p1, x.rv, .bool x.lucky]) (by simp [gC]; rfl) (by simp [k.o, k.h, k.a, k.b])
theorem gr137 : rd1 (some (.cells (gC x) fz)) 137 0 = some x.al := rd_one (A := (uv x.os :: bytesVals x.oroot) ++ (uv x.hs :: bytesVals x.hroot) ++ [x.pf, uv x.n] ++ bytesVals x.l0 ++ bytesVals x.l1 ++ [x.p0, x.p1, x.rv, .bool x.lucky, zv x.which]) (by simp [gC]; rfl) (by simp [k.o, k.h, k.a, k.b])
variable {h : AHeap} {b : Nat}
theorem gw0 {s : Nat} {r : List UInt8} (hr : r.length = 32) : wrN h b (some (.cells (gC x) (fz + 1))) 0 0 (uv s :: bytesVals r) = some (h.put b (.cells (gC { x with os := s, oroot := r }) (fz + 1))) := by
  rw [wr_part (o := 0) (A := []) (B := uv x.os :: bytesVals x.oroot) (by simp [gC]; rfl) rfl (by simp [hr, k.o]) (by rw [List.all_cons, bytes_ok]; rfl)]; simp [gC]
theorem gw33 {s : Nat} {r : List UInt8} (hr : r.length = 32) : wrN h b (some (.cells (gC x) (fz + 1))) 33 0 (uv s :: bytesVals r) = some (h.put b (.cells (gC { x with hs := s, hroot := r }) (fz + 1))) := by
  rw [wr_part (A := uv x.os :: bytesVals x.oroot) (B := uv x.hs :: bytesVals x.hroot) (by simp [gC]; rfl) (by simp [k.o]) (by simp [hr, k.h]) (by rw [List.all_cons, bytes_ok]; rfl)]; simp [gC]
theorem gw66 {v : Value} (hv : okCell v = true) : wr1 h b (some (.cells (gC x) (fz + 1))) 66 0 v = some (h.put b (.cells (gC { x with pf := v }) (fz + 1))) := by
  rw [wr_one (A := (uv x.os :: bytesVals x.oroot) ++ (uv x.hs :: bytesVals x.hroot)) (x := x.pf) (by simp [gC]; rfl) (by simp [k.o, k.h]) hv]; simp [gC]
theorem gw67 {v : Nat} : wr1 h b (some (.cells (gC x) (fz + 1))) 67 0 (uv v) = some (h.put b (.cells (gC { x with n := v }) (fz + 1))) := by
  rw [wr_one (A := (uv x.os :: bytesVals x.oroot) ++ (uv x.hs :: bytesVals x.hroot) ++ [x.pf]) (x := uv x.n) (by simp [gC]; rfl) (by simp [k.o, k.h]) rfl]; simp [gC]
theorem gw64 {r s : List UInt8} (hr : r.length = 32) (hs : s.length = 32) : wrN h b (some (.cells (gC x) (fz + 1))) 68 0 (bytesVals r ++ bytesVals s) = some (h.put b (.cells (gC { x with l0 := r, l1 := s }) (fz + 1))) := by
  rw [wr_part (A := (uv x.os :: bytesVals x.oroot) ++ (uv x.hs :: bytesVals x.hroot) ++ [x.pf, uv x.n]) (B := bytesVals x.l0 ++ bytesVals x.l1) (by simp [gC]; rfl) (by simp [k.o, k.h]) (by simp [hr, hs, k.a, k.b]) (by rw [List.all_append, bytes_ok, bytes_ok]; rfl)]; simp [gC]
theorem gw68 {r : List UInt8} (hr : r.length = 32) : wrN h b (some (.cells (gC x) (fz + 1))) 68 0 (bytesVals r) = some (h.put b (.cells (gC { x with l0 := r }) (fz + 1))) := by
  rw [wr_part (A := (uv x.os :: bytesVals x.oroot) ++ (uv x.hs :: bytesVals x.hroot) ++ [x.pf, uv x.n]) (B := bytesVals x.l0) (by simp [gC]; rfl) (by simp [k.o, k.h]) (by simp [hr, k.a]) bytes_ok]; simp [gC]
theorem gw100 {r : List UInt8} (hr : r.length = 32) : wrN h b (some (.cells (gC x) (fz + 1))) 100 0 (bytesVals r) = some (h.put b (.cells (gC { x with l1 := r }) (fz + 1))) := by
  rw [wr_part (A := (uv x.os :: bytesVals x.oroot) ++ (uv x.hs :: bytesVals x.hroot) ++ [x.pf, uv x.n] ++ bytesVals x.l0) (B := bytesVals x.l1) (by simp [gC]; rfl) (by simp [k.o, k.h, k.a]) (by simp [hr, k.b]) bytes_ok]; simp [gC]
theorem gw132 {v : Value} (hv : okCell v = true) : wr1 h b (some (.cells (gC x) (fz + 1))) 132 0 v = some (h.put b (.cells (gC { x with p0 := v }) (fz + 1))) := by
  rw [wr_one (A := (uv x.os :: bytesVals x.oroot) ++ (uv x.hs :: bytesVals x.hroot) ++ [x.pf, uv x.n] ++ bytesVals x.l0 ++ bytesVals x.l1) (x := x.p0) (by simp [gC]; rfl) (by simp [k.o, k.h, k.a, k.b]) hv]; simp [gC]
theorem gw133 {v : Value} (hv : okCell v = true) : wr1 h b (some (.cells (gC x) (fz + 1))) 133 0 v = some (h.put b (.cells (gC { x with p1 := v }) (fz + 1))) := by
  rw [wr_one (A := (uv x.os :: bytesVals x.oroot) ++ (uv x.hs :: bytesVals x.hroot) ++ [x.pf, uv x.n] ++ bytesVals x.l0 ++ bytesVals x.l1 ++ [x.p0]) (x := x.p1) (by simp [gC]; rfl) (by simp [k.o, k.h, k.a, k.b]) hv]; simp [gC]
end
end Go.Ab.Aud

namespace Go.Ab.Aud
open Go.Sha
def s1 : ACode → ACode
  | .seq a _ => a
  | _ => .skip
def s2 : ACode → ACode
  | .seq _ b => b
  | _ => .skip
theorem R_split {C : Ctx} {rs : List ARes} {k : List AItem} {t : List Value} {ds : List ADefer} {h : AHeap} {c a b : ACode} (e : c = .seq a b) : R C rs (.code c :: k) t ds h = R C rs (.code (s1 c) :: .code (s2 c) :: k) t ds h := by
  subst e; exact R_seq
theorem grownF_of : ∀ (f m n : Nat) (w : Bool) (old : List UInt8) (ps : List (List UInt8)), 0 < m → m ≤ n → n ≤ 2 ^ f → ps.length = dueF f m n w → old.length = 32 → (∀ x, x ∈ ps → x.length = 32) → ∀ x, x ∈ (grownF f m n w old ps).1 → x.1.length = 65
  | 0, m, n, w, old, ps, h0, h1, h2, hl, ho, hps, x, hx => by
    unfold grownF at hx
    cases w <;> simp at hx
  | f + 1, m, n, w, old, ps, h0, h1, h2, hl, ho, hps, x, hx => by
    unfold grownF at hx
    by_cases h : m = n
    · rw [if_pos h] at hx
      cases w <;> simp at hx
    · have k1 := lft_lt (n := n) (by omega)
      have k3 := lft_pow (s := n) (f := f) (by omega) h2
      have k2 := lft_ge (n := n) (by omega)
      have hp : 2 ^ (f + 1) = 2 * 2 ^ f := by rw [Nat.pow_succ]; omega
      unfold dueF at hl
      rw [if_neg (show ¬ (m = 0 ∨ (n ≤ m ∧ w = true)) by omega), if_neg (show ¬ n ≤ m by omega)] at hl
      rw [if_neg h] at hx
      have g := get32 hps (i := ps.length - 1) (by split at hl <;> omega)
      by_cases hk : m ≤ lft n
      · rw [if_pos hk] at hl hx
        have hl' : (ps.take (ps.length - 1)).length = dueF f m (lft n) w := by simp; omega
        have r := grown_32 f m (lft n) w old (ps.take (ps.length - 1)) h0 hk k3 hl' ho (mem_take32 hps _)
        have ih := grownF_of f m (lft n) w old (ps.take (ps.length - 1)) h0 hk k3 hl' ho (mem_take32 hps _)
        simp only [gL] at hx
        rcases List.mem_append.1 hx with hx | hx
        · exact ih x hx
        · rw [List.mem_singleton] at hx; subst hx
          show (1 :: (_ ++ _) : List UInt8).length = 65
          rw [List.length_cons, List.length_append, r.2, g]
      · rw [if_neg hk] at hl hx
        have hl' : (ps.take (ps.length - 1)).length = dueF f (m - lft n) (n - lft n) false := by simp; omega
        have r := grown_32 f (m - lft n) (n - lft n) false old (ps.take (ps.length - 1)) (by omega) (by omega) (by omega) hl' ho (mem_take32 hps _)
        have ih := grownF_of f (m - lft n) (n - lft n) false old (ps.take (ps.length - 1)) (by omega) (by omega) (by omega) hl' ho (mem_take32 hps _)
        simp only [gR] at hx
        rcases List.mem_append.1 hx with hx | hx
        · exact ih x hx
        · simp only [List.mem_cons, List.not_mem_nil, or_false] at hx
          rcases hx with rfl | rfl
          · show (1 :: (_ ++ _) : List UInt8).length = 65
            rw [List.length_cons, List.length_append, r.1, g]
          · show (1 :: (_ ++ _) : List UInt8).length = 65
            rw [List.length_cons, List.length_append, r.2, g]
/-- two rows behind one another, whatever their order in memory -/
theorem pairs_app2 {old : Old} {h : AHeap} {q : Nat} {v w : Value} {l l' : List (List UInt8 × List UInt8)} (H : Pairs old h q v l) (hlo : h.lo ≤ h.bs.length) (hq : q ≤ h.bs.length)
    (L' : List PT) (hL' : L'.map (·.2) = l') (hw : srcLen w = some L'.length) (hs : L'.length ≠ 0 → srcCells old h 33 L'.length w = some (pcells L')) (hP : ∀ x, x ∈ L' → POk old h q w x) (hne : ∀ x, x ∈ L' → ∀ j, Live x.1 j → blkOf v ≠ some j) (hb : l.length + l'.length < 2 ^ 20) :
    ∃ v' h', appendV old h 158 33 56 v w = some (v', h') ∧ Pairs old h' q v' (l ++ l') ∧ Fr h h' (fun j => blkOf v = some j) ∧ (blkOf v' = blkOf v ∨ blkOf v' = some h.bs.length) := by
  obtain ⟨L, e, o, b, p⟩ := H
  have hL : L.length = l.length := by rw [← e]; simp
  have hLl : L'.length = l'.length := by rw [← hL']; simp
  obtain ⟨v', h', e1, o1, f1, b1⟩ := append_own (old := old) (bytes := 56) (x := w) (m := L'.length) (new := pcells L') o (by omega) hw hs
    (fun h0 => by rw [List.eq_nil_of_length_eq_zero h0]; rfl)
    (pcells_len fun x hx => by obtain ⟨_, _, _, _, h3, _⟩ := hP x hx; exact h3) (pcells_ok fun x hx => (hP x hx).ok) (by simp [sizeLim]; omega) hlo
  refine ⟨v', h', e1, ⟨L ++ L', by rw [List.map_append, e, hL'], ?_, fun j hj => ?_, fun x hx => ?_⟩, f1, b1⟩
  · have : pcells (L ++ L') = pcells L ++ pcells L' := by simp [pcells]
    rw [List.length_append, this]; exact o1
  · rcases b1 with b1 | b1
    · exact b j (by rw [← b1]; exact hj)
    · rw [b1] at hj; cases hj; exact hq
  · rcases List.mem_append.1 hx with hx | hx
    · obtain ⟨a, cp, h1, h2, h3, h4⟩ := p x hx
      refine ⟨a, cp, h1, h2.fr f1 (by rw [← h1]; exact fun j hj => (h4 j hj).2), h3, fun j hj => ⟨(h4 j hj).1, ?_⟩⟩
      rcases b1 with b1 | b1
      · rw [b1]; exact (h4 j hj).2
      · rw [b1]; intro hc; cases hc
        have := h2.live_lt (by rw [← h1]; exact hj); omega
    · obtain ⟨a, cp, h1, h2, h3, h4⟩ := hP x hx
      have hne := hne x hx
      refine ⟨a, cp, h1, h2.fr f1 (by rw [← h1]; exact hne), h3, fun j hj => ⟨(h4 j hj).1, ?_⟩⟩
      rcases b1 with b1 | b1
      · rw [b1]; exact hne j hj
      · rw [b1]; intro hc; cases hc
        have := h2.live_lt (by rw [← h1]; exact hj); omega
/-- where the statement stands -/
structure GS (C : Ctx) (g : AHeap) (t : List Value) (b : Nat) (x : GA) (pf p0 p1 : List (List UInt8)) : Prop where
  at_ : g.at b = some (.cells (gC x) 70)
  dp : DigV C.old g x.pf pf
  d0 : DigV C.old g x.p0 p0
  d1 : DigV C.old g x.p1 p1
  t1 : tg t 1 = .pointer (some ⟨b, 0, some 0⟩)
  wf : g.lo ≤ g.bs.length
theorem GS.mv {C : Ctx} {g g' : AHeap} {t t' : List Value} {b : Nat} {x : GA} {pf p0 p1 : List (List UInt8)} (H : GS C g t b x pf p0 p1) (f : Fr g g' (fun _ => False)) (ht : tg t' 1 = .pointer (some ⟨b, 0, some 0⟩)) : GS C g' t' b x pf p0 p1 :=
  ⟨f.get H.at_ (fun h => h), H.dp.fr f, H.d0.fr f, H.d1.fr f, ht, by rw [f.lo]; have := f.len; have := H.wf; omega⟩
theorem DigV.und {old : Old} {h : AHeap} {v : Value} {l : List (List UInt8)} (H : DigV old h v l) : isUnd v = false := by obtain ⟨a, cp, rfl, _⟩ := H; rfl
theorem DigV.okc {old : Old} {h : AHeap} {v : Value} {l : List (List UInt8)} (H : DigV old h v l) : okCell v = true := by obtain ⟨a, cp, rfl, _⟩ := H; rfl
theorem DigV.lenV {old : Old} {h : AHeap} {v : Value} {l : List (List UInt8)} (H : DigV old h v l) : lenV v = some (iv l.length) := by obtain ⟨a, cp, rfl, _⟩ := H; rfl
def gt0 : ACode := s2 (s2 b6)
def gt1 : ACode := s2 gt0
def gt2 : ACode := s2 gt1
def gt3 : ACode := s2 gt2
def gt4 : ACode := s2 gt3
def gt5 : ACode := s2 gt4
variable {C : Ctx} (T : Tab_LLog C) (TD : Tab_LDig C) (TW : Tab_LLaw C) (TG : Tab_LGrow C) (hk : ∀ j, j < 64 → C.old 0 j = some (wv (kW j))) (hp : ∀ j, j < 16 → C.old 1 j = some (wv (crcW j)))
include T TD TW TG hk hp
section
variable (hN : ∀ h, D C 147 [str nmA] h = some (.bool true, h)) (g : AHeap) (t : List Value) (b : Nat) (x : GA) (k : x.Ok) (pf p0 p1 : List (List UInt8)) (H : GS C g t b x pf p0 p1)
include hN k H
theorem gp0 : (∀ K, ∃ g', R C r6 (.code (s1 gt0) :: K) t [] g = some (.bool true, g')) ∨
    (pf.length ≤ 130 ∧ p0.length ≤ 64 ∧ p1.length ≤ 64 ∧ 0 < x.os ∧ ∃ t', (∀ K, R C r6 (.code (s1 gt0) :: K) t [] g = R C r6 K t' [] g) ∧ tg t' 1 = .pointer (some ⟨b, 0, some 0⟩)) := by
  have ew := wakes_spec T TD TW hk hp
  have q1 := gr66 k (fz := 70)
  have q2 := gr132 k (fz := 70)
  have q3 := gr133 k (fz := 70)
  have q4 := gr0' k (fz := 70)
  have u1 := H.dp.und
  have u2 := H.d0.und
  have u3 := H.d1.und
  have n1 := H.dp.lenV
  have n2 := H.d0.lenV
  have n3 := H.d1.lenV
  by_cases c1 : 130 < pf.length
  · left; intro K; refine ⟨g, ?_⟩
    simp [gt0, s1, s2, b6, H.t1, H.at_, q1, q2, q3, q4, stp_ok u1, stp_ok u2, stp_ok u3, n1, n2, n3, c1, Dc0, ew _ hN, r6]
  · by_cases c2 : 64 < p0.length
    · left; intro K; refine ⟨g, ?_⟩
      simp [gt0, s1, s2, b6, H.t1, H.at_, q1, q2, q3, q4, stp_ok u1, stp_ok u2, stp_ok u3, n1, n2, n3, c1, c2, ixA_iv, Dc0, ew _ hN, r6]
    · by_cases c3 : 64 < p1.length
      · left; intro K; refine ⟨g, ?_⟩
        simp [gt0, s1, s2, b6, H.t1, H.at_, q1, q2, q3, q4, stp_ok u1, stp_ok u2, stp_ok u3, n1, n2, n3, c1, c2, c3, ixA_iv, Dc0, ew _ hN, r6]
      · by_cases c4 : x.os = 0
        · left; intro K; refine ⟨g, ?_⟩
          simp [gt0, s1, s2, b6, H.t1, H.at_, q1, q2, q3, q4, stp_ok u1, stp_ok u2, stp_ok u3, n1, n2, n3, c1, c2, c3, c4, ixA_iv, Dc0, ew _ hN, r6]
        · right
          refine ⟨by omega, by omega, by omega, by omega, ?_⟩
          simp [gt0, s1, s2, b6, H.t1, H.at_, q1, q2, q3, q4, stp_ok u1, stp_ok u2, stp_ok u3, n1, n2, n3, c1, c2, c3, c4, ixA_iv]
          exact ⟨_, fun _ => rfl, by simp [H.t1]⟩
theorem gp1 (hl : pf.length ≤ 130) : (∀ K, ∃ g', R C r6 (.code (s1 gt1) :: K) t [] g = some (.bool true, g')) ∨
    (follF x.os x.hs x.oroot x.hroot pf = 0 ∧ ∃ g' t', (∀ K, R C r6 (.code (s1 gt1) :: K) t [] g = R C r6 K t' [] g') ∧ GS C g' t' b x pf p0 p1) := by
  have ew := wakes_spec T TD TW hk hp
  have q1 := gr66 k (fz := 70)
  have q2 := gr0 k (fz := 70)
  have q3 := gr33 k (fz := 70)
  have u1 := H.dp.und
  obtain ⟨v', g1, e1, o1, f1, bl1⟩ := dig_copy H.dp (by omega) H.wf
  obtain ⟨a2, cp2, hv2, dg2⟩ := o1.digR (old := C.old)
  have hu : isUnd v' = false := by rw [hv2]; rfl
  have ef := foll_spec T TD hk g1 x.os x.hs x.oroot x.hroot pf k.o k.h k.os k.hs a2 cp2 dg2
  rw [← hv2] at ef
  have x1 : g1.at b = some (.cells (gC x) 70) := f1.get H.at_ (fun h => h)
  by_cases c : follF x.os x.hs x.oroot x.hroot pf = 0
  · right
    refine ⟨c, g1, ?_⟩
    rw [c] at ef
    have e : ∃ t', (∀ K, R C r6 (.code (s1 gt1) :: K) t [] g = R C r6 K t' [] g1) ∧ tg t' 1 = .pointer (some ⟨b, 0, some 0⟩) := by
      simp [gt0, gt1, s1, s2, b6, H.t1, H.at_, x1, q1, q2, q3, stp_ok u1, u1, fillCells, e1, stp_ok hu, hu, Dc_ok, ef, num_spec TW]
      exact ⟨_, fun _ => rfl, by simp [H.t1]⟩
    obtain ⟨t', e, u⟩ := e
    exact ⟨t', e, H.mv f1 u⟩
  · left; intro K; refine ⟨g1, ?_⟩
    simp [gt0, gt1, s1, s2, b6, H.t1, H.at_, x1, q1, q2, q3, stp_ok u1, u1, fillCells, e1, stp_ok hu, hu, Dc_ok, ef, num_spec TW, c, Dc0, ew _ hN, r6]
theorem gp2 (hl0 : p0.length ≤ 64) (hl1 : p1.length ≤ 64) : (∀ K, ∃ g', R C r6 (.code (s1 gt2) :: K) t [] g = some (.bool true, g')) ∨
    (inclF x.os x.n x.oroot x.l0 p0 = 0 ∧ inclF x.hs x.n x.hroot x.l1 p1 = 0 ∧ ∃ g' t', (∀ K, R C r6 (.code (s1 gt2) :: K) t [] g = R C r6 K t' [] g') ∧ GS C g' t' b x pf p0 p1) := by
  have ew := wakes_spec T TD TW hk hp
  have q1 := gr132 k (fz := 70)
  have q2 := gr133 k (fz := 70)
  have q3 := gr0 k (fz := 70)
  have q4 := gr33 k (fz := 70)
  have q5 := gr67 k (fz := 70)
  have q6 := gr68 k (fz := 70)
  have q7 := gr100 k (fz := 70)
  have u2 := H.d0.und
  have u3 := H.d1.und
  obtain ⟨v', g1, e1, o1, f1, bl1⟩ := dig_copy H.d0 (by omega) H.wf
  obtain ⟨a2, cp2, hv2, dg2⟩ := o1.digR (old := C.old)
  have hu : isUnd v' = false := by rw [hv2]; rfl
  have ef := incl_spec T TD hk g1 x.os x.n x.oroot x.l0 p0 k.o k.a k.os k.n a2 cp2 dg2
  rw [← hv2] at ef
  have x1 : g1.at b = some (.cells (gC x) 70) := f1.get H.at_ (fun h => h)
  by_cases c : inclF x.os x.n x.oroot x.l0 p0 = 0
  · rw [c] at ef
    have wf1 : g1.lo ≤ g1.bs.length := by rw [f1.lo]; have := f1.len; have := H.wf; omega
    obtain ⟨w', g2, e2, o2, f2, bl2⟩ := dig_copy (H.d1.fr f1) (by omega) wf1
    obtain ⟨a3, cp3, hv3, dg3⟩ := o2.digR (old := C.old)
    have hu3 : isUnd w' = false := by rw [hv3]; rfl
    have eg := incl_spec T TD hk g2 x.hs x.n x.hroot x.l1 p1 k.h k.b k.hs k.n a3 cp3 dg3
    rw [← hv3] at eg
    have x2 : g2.at b = some (.cells (gC x) 70) := f2.get x1 (fun h => h)
    by_cases c2 : inclF x.hs x.n x.hroot x.l1 p1 = 0
    · right
      refine ⟨c, c2, g2, ?_⟩
      rw [c2] at eg
      have e : ∃ t', (∀ K, R C r6 (.code (s1 gt2) :: K) t [] g = R C r6 K t' [] g2) ∧ tg t' 1 = .pointer (some ⟨b, 0, some 0⟩) := by
        simp [gt0, gt1, gt2, s1, s2, b6, H.t1, H.at_, x1, x2, q1, q2, q3, q4, q5, q6, q7, stp_ok u2, u2, stp_ok u3, u3, fillCells, e1, stp_ok hu, hu, Dc_ok, ef, num_spec TW, ixA_iv, e2, stp_ok hu3, hu3, eg]
        exact ⟨_, fun _ => rfl, by simp [H.t1]⟩
      obtain ⟨t', e, u⟩ := e
      exact ⟨t', e, H.mv (f1.trans f2 (fun _ h => h) (fun _ h _ => h)) u⟩
    · left; intro K; refine ⟨g2, ?_⟩
      simp [gt0, gt1, gt2, s1, s2, b6, H.t1, H.at_, x1, x2, q1, q2, q3, q4, q5, q6, q7, stp_ok u2, u2, stp_ok u3, u3, fillCells, e1, stp_ok hu, hu, Dc_ok, ef, num_spec TW, ixA_iv, e2, stp_ok hu3, hu3, eg, c2, Dc0, ew _ hN, r6]
  · left; intro K; refine ⟨g1, ?_⟩
    simp [gt0, gt1, gt2, s1, s2, b6, H.t1, H.at_, x1, q1, q2, q3, q4, q5, q6, q7, stp_ok u2, u2, fillCells, e1, stp_ok hu, hu, Dc_ok, ef, num_spec TW, ixA_iv, c, Dc0, ew _ hN, r6]
theorem gp3 : (∀ K, ∃ g', R C r6 (.code (s1 gt3) :: K) t [] g = some (.bool true, g')) ∨
    (x.l0 ≠ x.l1 ∧ ∃ t', (∀ K, R C r6 (.code (s1 gt3) :: K) t [] g = R C r6 K t' [] g) ∧ tg t' 1 = .pointer (some ⟨b, 0, some 0⟩)) := by
  have ew := wakes_spec T TD TW hk hp
  have q6 := gr68 k (fz := 70)
  have q7 := gr100 k (fz := 70)
  have eq := aeq_dig k.a k.b
  simp [List.replicate] at eq
  by_cases c : x.l0 = x.l1
  · left; intro K; refine ⟨g, ?_⟩
    simp [gt0, gt1, gt2, gt3, s1, s2, b6, H.t1, H.at_, ixA_iv, q6, q7, eq, eq_true c, Dc0, ew _ hN, r6]
  · right
    refine ⟨c, ?_⟩
    simp [gt0, gt1, gt2, gt3, s1, s2, b6, H.t1, H.at_, ixA_iv, q6, q7, eq, eq_false c]
    exact ⟨_, fun _ => rfl, by simp [H.t1]⟩
theorem gp4 (hle : x.os ≤ x.hs) (hd : pf.length = dueF 64 x.os x.hs true) : ∃ t', (∀ K, R C r6 (.code (s1 gt4) :: K) t [] g = R C r6 K t' [] g) ∧ tg t' 1 = .pointer (some ⟨b, 0, some 0⟩) := by
  have q1 := gr66 k (fz := 70)
  have q2 := gr0' k (fz := 70)
  have q3 := gr33' k (fz := 70)
  have u1 := H.dp.und
  have n1 := H.dp.lenV
  have e1 := (due_spec TW TG 64 x.os x.hs true g hle (by have := k.hs; omega) (by omega) k.hs).1
  simp [gt0, gt1, gt2, gt3, gt4, s1, s2, b6, H.t1, H.at_, q1, q2, q3, stp_ok u1, n1, Nat.not_lt.2 hle, Dc_ok, e1, hd]
  exact ⟨_, fun _ => rfl, by simp [H.t1]⟩
set_option maxHeartbeats 8000000 in
theorem gp5 (h0 : 0 < x.os) (hpl : pf.length ≤ 130) (hl0 : p0.length ≤ 64) (hl1 : p1.length ≤ 64) (hfo : follF x.os x.hs x.oroot x.hroot pf = 0) (hi0 : inclF x.os x.n x.oroot x.l0 p0 = 0) (hi1 : inclF x.hs x.n x.hroot x.l1 p1 = 0) (hne : x.l0 ≠ x.l1) :
    ∃ g', R C r6 [.code gt5] t [] g = some (.bool true, g') := by
  have ew := wakes_spec T TD TW hk hp
  have q1 := gr66 k (fz := 70)
  have q2 := gr0' k (fz := 70)
  have q3 := gr33' k (fz := 70)
  have q4 := gr1 k (fz := 70)
  have q5 := gr67 k (fz := 70)
  have q6 := gr68 k (fz := 70)
  have q7 := gr100 k (fz := 70)
  have q8 := gr132 k (fz := 70)
  have q9 := gr133 k (fz := 70)
  have u1 := H.dp.und
  have u2 := H.d0.und
  have u3 := H.d1.und
  have hhs := k.hs
  obtain ⟨c1, c2, c3⟩ := (foll_ok (by omega) h0).1 hfo
  obtain ⟨m1, m2, m3⟩ := incl_ok (by have := k.os; omega) hi0 p0.length (Nat.le_refl _)
  obtain ⟨m4, m5, m6⟩ := incl_ok (by omega) hi1 p1.length (Nat.le_refl _)
  have P32 : ∀ y, y ∈ pf → y.length = 32 := by obtain ⟨_, _, _, d⟩ := H.dp; exact d.2
  have Q32 : ∀ y, y ∈ p0 → y.length = 32 := by obtain ⟨_, _, _, d⟩ := H.d0; exact d.2
  have S32 : ∀ y, y ∈ p1 → y.length = 32 := by obtain ⟨_, _, _, d⟩ := H.d1; exact d.2
  have hmet := (grow_one 64 x.os x.hs true x.n x.oroot x.l0 x.l1 pf p0 p1 h0 c1 (by omega) m1 c2 m2 m5 k.o k.a k.b P32 Q32 S32 (by rw [m3, c3]) (by rw [m6, c3])).resolve_left hne
  have hz : Value.int .u8 0 = bv 0 := rfl
  generalize hZ : ABlock.cells (List.replicate 32 (bv 0)) 31 = Z
  have hZ0 := hZ
  simp [List.replicate] at hZ
  -- grown
  obtain ⟨pa, pcp, hpv, Dp⟩ := H.dp
  obtain ⟨g1, v, e1, Q1, f1, uv1, len1⟩ := grown_spec T TD TW TG hk 64 x.os x.hs true x.oroot pf h0 c1 (by omega) (by omega) hhs c2 k.o g pa pcp Dp H.wf
  rw [← hpv, c3] at e1
  have l1 := f1.len
  have o1 := f1.lo
  have wf0 := H.wf
  obtain ⟨E1, g2, hE1, hg2, z17, z18, E17, E18, eL1, l2, eO1, o2, f2⟩ := arr_two (g := g1) (vs := bytesVals x.oroot) (ws := bytesVals x.hroot) hZ0 (by simp [k.o])
  have wa := wr_arr (n := 32) hZ0 (vs := bytesVals x.oroot) (by simp [k.o]) bytes_ok
  have wb := wr_arr (n := 32) hZ0 (vs := bytesVals x.hroot) (by simp [k.h]) bytes_ok
  have f02 : Fr g g2 (fun _ => False) := f1.trans f2 (fun _ h => h) (fun _ h _ => h)
  have y1 : g2.at b = some (.cells (gC x) 70) := f02.get H.at_ (fun h => h)
  have lo1 : g.lo ≤ g1.bs.length := by omega
  have lo1' : g.lo ≤ g1.bs.length + 1 := by omega
  -- climb 0
  obtain ⟨a0, cp0, hv0, D0⟩ := H.d0.fr f02
  obtain ⟨g3, v2, e3, Q3, f3, uv2⟩ := climb_spec T TD TW hk p0.length x.n x.os x.l0 p0 (Nat.le_refl _) (by omega) k.n k.os k.a g2 a0 cp0 D0 (by omega)
  rw [← hv0, m3] at e3
  have l3 := f3.len
  have o3 := f3.lo
  obtain ⟨g4, hg4, z13, E13, l4, o4, f4⟩ := new_step (g := g3) (vs := bytesVals x.oroot) hZ0
  have f24 : Fr g2 g4 (fun _ => False) := f3.trans f4 (fun _ h => h) (fun _ h _ => h)
  have f04 : Fr g g4 (fun _ => False) := f02.trans f24 (fun _ h => h) (fun _ h _ => h)
  have y2 : g4.at b = some (.cells (gC x) 70) := f04.get H.at_ (fun h => h)
  have lo3 : g.lo ≤ g3.bs.length := by omega
  -- climb 1
  obtain ⟨a1, cp1, hv1, D1⟩ := H.d1.fr f04
  obtain ⟨g5, v3, e5, Q5, f5, uv3⟩ := climb_spec T TD TW hk p1.length x.n x.hs x.l1 p1 (Nat.le_refl _) (by omega) k.n k.hs k.b g4 a1 cp1 D1 (by omega)
  rw [← hv1, m6] at e5
  have l5 := f5.len
  have o5 := f5.lo
  obtain ⟨g6, hg6, z15, E15, l6, o6, f6⟩ := new_step (g := g5) (vs := bytesVals x.hroot) hZ0
  have f46 : Fr g4 g6 (fun _ => False) := f5.trans f6 (fun _ h => h) (fun _ h _ => h)
  have lo5 : g.lo ≤ g5.bs.length := by omega
  have q1' := (Q1.fr f2 (fun _ _ _ h => h)).fr (f24.trans f46 (S'' := fun _ => False) (fun _ h => h) (fun _ h _ => h)) (fun _ _ _ h => h)
  have q3' := (Q3.fr f4 (fun _ _ _ h => h)).fr f46 (fun _ _ _ h => h)
  have q5' := Q5.fr f6 (fun _ _ _ h => h)
  have cl0 := climbF_len p0.length x.n x.os x.l0 p0
  have cl1 := climbF_len p1.length x.n x.hs x.l1 p1
  have vlt : ∀ j, blkOf v = some j → j < g1.bs.length := by obtain ⟨L, _, o, _, _⟩ := Q1; exact fun j hj => o.blk hj
  have v2lt : ∀ j, blkOf v2 = some j → j < g3.bs.length := by obtain ⟨L, _, o, _, _⟩ := Q3; exact fun j hj => o.blk hj
  obtain ⟨L2, eL2, oL2, bL2, pL2⟩ := q3'
  obtain ⟨aw, cpw, hw⟩ := oL2.slice
  have sw := oL2.sl (old := C.old) (by omega)
  obtain ⟨v4, g7, e7, Q7, f7, b7⟩ := pairs_append q1' (by omega) (by omega) (by omega : g.bs.length ≤ g2.bs.length) (fun j hj => by have := vlt j hj; omega) L2 eL2 (by rw [hw]; rfl) (fun hn => by rw [hw] at sw ⊢; exact sw.src hn) pL2 (by omega)
  have l7 := f7.len
  have o7 := f7.lo
  obtain ⟨L3, eL3, oL3', bL3, pL3'⟩ := q5'
  have hLv : ∀ y, y ∈ L3 → ∀ j, Live y.1 j → g4.bs.length ≤ j ∧ j < g6.bs.length := fun y hy j hj => by
    obtain ⟨ay, cy, h1, h2, h3, h4⟩ := pL3' y hy
    exact ⟨(h4 j hj).1, h2.live_lt (by rw [← h1]; exact hj)⟩
  have oL3 := oL3'.fr f7 (fun j hj hc => by have := vlt j hc; have := bL3 j hj; omega)
  have pL3 : ∀ y, y ∈ L3 → POk C.old g7 g4.bs.length v3 y := fun y hy => (pL3' y hy).fr f7 (fun j hj hc => by have := vlt j hc; have := hLv y hy j hj; omega)
  obtain ⟨ax, cpx, hx⟩ := oL3.slice
  have sx := oL3.sl (old := C.old) (by omega)
  have v4lt : ∀ j, blkOf v4 = some j → j < g4.bs.length ∨ g6.bs.length ≤ j := fun j hj => by
    rcases b7 with b7 | b7
    · rw [b7] at hj; have := vlt j hj; omega
    · rw [hj] at b7; cases b7; omega
  obtain ⟨v5, g8, e8, Q8, f8, b8⟩ := pairs_app2 (w := v3) Q7 (by omega) (by omega) L3 eL3 (by rw [hx]; rfl) (fun hn => by rw [hx] at sx ⊢; exact sx.src hn) (fun y hy => by obtain ⟨ay, cy, h1, h2, h3, h4⟩ := pL3 y hy; exact ⟨ay, cy, h1, h2, h3, fun j hj => ⟨by have := (h4 j hj).1; omega, (h4 j hj).2⟩⟩)
    (fun y hy j hj hc => by have := hLv y hy j hj; have := v4lt j hc; omega) (by simp; omega)
  obtain ⟨bb, eb, hb⟩ := met_spec TW g8 v5 _ Q8.rd (by simp; omega) (fun i => by
    have h65 : ∀ y, y ∈ (grownF 64 x.os x.hs true x.oroot pf).1 ++ (climbF p0.length x.n x.os x.l0 p0).1 ++ (climbF p1.length x.n x.hs x.l1 p1).1 → y.1.length = 65 := fun y hy => by
      rcases List.mem_append.1 hy with hy | hy
      · rcases List.mem_append.1 hy with hy | hy
        · exact grownF_of _ _ _ _ _ _ h0 c1 (by omega) c2 k.o P32 y hy
        · exact climbF_of _ _ _ _ _ k.a Q32 y hy
      · exact climbF_of _ _ _ _ _ k.b S32 y hy
    rw [List.getD_eq_getElem?_getD]
    cases hg : ((grownF 64 x.os x.hs true x.oroot pf).1 ++ (climbF p0.length x.n x.os x.l0 p0).1 ++ (climbF p1.length x.n x.hs x.l1 p1).1)[i]? with
    | none => simp
    | some y => have := h65 y (List.mem_of_getElem? hg); simp [this])
  have hbt : bb = true := hb.2 (met_of hmet)
  rw [hbt] at eb
  have uv4 : isUnd v4 = false := by obtain ⟨L, _, o, _, _⟩ := Q7; exact o.und
  have uv5 : isUnd v5 = false := by obtain ⟨L, _, o, _, _⟩ := Q8; exact o.und
  refine ⟨g8, ?_⟩
  simp [gt0, gt1, gt2, gt3, gt4, gt5, s2, b6, H.t1, H.at_, q1, q2, q3, q4, q5, q6, q7, q8, q9, stp_ok u1, u1, stp_ok u2, u2, stp_ok u3, u3, Dc0, Dc_ok, bytes_ok, e1, stp_ok uv1, uv1, hz, hZ, writeN_wr, o1, lo1, lo1', z17, k.o, wa, hE1, eO1, z18, k.h, wb, hg2, y1, ixA_iv, k.a, k.b, e3, stp_ok uv2, uv2, o3, o2, lo3, z13, hg4, y2, e5, stp_ok uv3, uv3, o5, o4, lo5, z15, hg6, e7, stp_ok uv4, uv4, e8, stp_ok uv5, uv5, eb, ew _ hN, r6]
end
end Go.Ab.Aud

namespace Go.Ab.Aud
open Go.Sha
theorem zv_rem {z : Int} {n : Nat} (hn : 0 < n) : abin .rem (zv z) (iv n) = some (zv (z.tmod n)) := by
  unfold zv iv
  simp only [abin, abinI, if_true]
  rw [if_neg (by omega)]
theorem zv_add {a : Int} {b : Nat} (ha : -2 ^ 62 < a) (ha2 : a < 2 ^ 62) (hb : b < 2 ^ 61) : abin .add (zv a) (iv b) = some (zv (a + b)) := by
  unfold zv iv
  simp only [abin, abinI, if_true]
  congr 2
  exact wrapi64 _ (by omega) (by omega)
/-- a number within n -/
def wi (z : Int) (n : Nat) : Nat := (z % n).toNat
theorem wi_lt {z : Int} {n : Nat} (hn : 0 < n) : wi z n < n := by
  unfold wi
  have := Int.emod_lt_of_pos z (show (0 : Int) < n by omega)
  have := Int.emod_nonneg z (show (n : Int) ≠ 0 by omega)
  omega
theorem wi_tmod {z : Int} {n : Nat} (hn : 0 < n) : (wi z n : Int) = if z.tmod n < 0 then z.tmod n + n else z.tmod n := by
  unfold wi
  have h1 := Int.emod_nonneg z (show (n : Int) ≠ 0 by omega)
  have h2 := Int.emod_lt_of_pos z (show (0 : Int) < n by omega)
  rw [Int.toNat_of_nonneg h1, Int.tmod_eq_emod]
  by_cases hc : 0 ≤ z ∨ (n : Int) ∣ z
  · simp only [if_pos hc]
    rw [if_neg (by omega)]; omega
  · simp only [if_neg hc, Int.natAbs_natCast]
    rw [if_pos (by omega)]; omega
theorem tmod_gt {z : Int} {n : Nat} (hn : 0 < n) : -(n : Int) < z.tmod n := by
  have h1 := Int.emod_nonneg z (show (n : Int) ≠ 0 by omega)
  rw [Int.tmod_eq_emod]
  by_cases hc : 0 ≤ z ∨ (n : Int) ∣ z
  · simp only [if_pos hc]; omega
  · simp only [if_neg hc, Int.natAbs_natCast]
    have : z % n ≠ 0 := fun h => hc (.inr (Int.dvd_of_emod_eq_zero h))
    omega
variable {C : Ctx} (T : Tab_LLog C) (TD : Tab_LDig C) (TW : Tab_LLaw C) (TG : Tab_LGrow C) (hk : ∀ j, j < 64 → C.old 0 j = some (wv (kW j))) (hp : ∀ j, j < 16 → C.old 1 j = some (wv (crcW j)))
include TG in
theorem within_spec (h : AHeap) (z : Int) (n : Nat) (hn : 0 < n) (hn2 : n < 2 ^ 40) : D C 33 [zv z, iv n] h = some (iv (wi z n), h) := by
  rw [D_fn3 TG.h33 _ rfl]
  suffices hs : R C r33 [.code b33] [zv z, iv n] [] ⟨[], 0⟩ = some (iv (wi z n), ⟨[], 0⟩) by
    rw [hs]; exact pur_some rfl
  have e := wi_tmod (z := z) hn
  have b1 : z.tmod n < n := Int.tmod_lt_of_pos z (by omega)
  have b2 := tmod_gt (z := z) hn
  by_cases hc : z.tmod n < 0
  · rw [if_pos hc] at e
    have r : iv (wi z n) = zv (z.tmod n + n) := by rw [← e]; rfl
    simp [b33, zv_rem hn, stp_ok zv_und, zv_lss, hc, zv_add (a := z.tmod n) (b := n) (by omega) (by omega) (by omega), r33, r]
  · rw [if_neg hc] at e
    have r : iv (wi z n) = zv (z.tmod n) := by rw [← e]; rfl
    simp [b33, zv_rem hn, stp_ok zv_und, zv_lss, hc, r33, r]
end Go.Ab.Aud

namespace Go.Ab.Aud
open Go.Sha
def c1 : ACode → ACode
  | .cond _ a _ => a
  | _ => .skip
def lk0 : ACode := c1 (s2 (s1 (s2 b6)))
def lk1 : ACode := s2 lk0
def lk2 : ACode := s2 lk1
def lk3 : ACode := s2 lk2
def lk4 : ACode := s2 lk3
def lk5 : ACode := s2 lk4
def lk6 : ACode := s2 lk5
def lk7 : ACode := s2 lk6
def lk8 : ACode := s2 lk7
def lk9 : ACode := s2 lk8
def lk10 : ACode := s2 lk9
def lk11 : ACode := s2 lk10
def lk12 : ACode := s2 lk11
def lk13 : ACode := s2 lk12
def lk14 : ACode := s2 lk13
theorem lk_e6 : lk0 = .seq (s1 lk0) (.seq (s1 lk1) (.seq (s1 lk2) (.seq (s1 lk3) (.seq (s1 lk4) (.seq (s1 lk5) lk6))))) := rfl
theorem lk_e11 : lk6 = .seq (s1 lk6) (.seq (s1 lk7) (.seq (s1 lk8) (.seq (s1 lk9) (.seq (s1 lk10) lk11)))) := rfl
theorem lk_e14 : lk11 = .seq (s1 lk11) (.seq (s1 lk12) (.seq (s1 lk13) lk14)) := rfl
/-- where the lucky part stands -/
structure LS (C : Ctx) (g : AHeap) (t : List Value) (b : Nat) (x : GA) (p d wr : Nat) (O : Nat → Prop) (ct : List UInt8) (rows : List (List UInt8)) (vo : Value) (So Sz : Nat) : Prop where
  at_ : g.at b = some (.cells (gC x) 70)
  L : LogAt g O p d nmAudit ct (rows.map lh) 16777216 wr
  RO : RowsO C.old g vo rows
  hO : ∀ j, O j → b < j
  hv : ∀ j, blkOf vo = some j → b < j
  t1 : tg t 1 = .pointer (some ⟨b, 0, some 0⟩)
  t3 : tg t 3 = .pointer (some ⟨p, 0, some 0⟩)
  t4 : tg t 4 = vo
  t5 : tg t 5 = uv Sz
  t6 : tg t 6 = uv So
  wf : g.lo ≤ g.bs.length
  lo : g.lo ≤ b
  bl : b < g.bs.length
  rl : rows.length ≤ 30
  s1 : 0 < So
  s2 : So ≤ Sz
  s3 : Sz ≤ rows.length
  big : ∀ r, r ∈ rows → r.length ≤ 16384
theorem LS.mv {C : Ctx} {g g' : AHeap} {t t' : List Value} {b : Nat} {x x' : GA} {p d wr : Nat} {O : Nat → Prop} {ct : List UInt8} {rows : List (List UInt8)} {vo : Value} {So Sz : Nat} (H : LS C g t b x p d wr O ct rows vo So Sz) (f : Fr g g' (fun j => j = b)) (a : g'.at b = some (.cells (gC x') 70))
    (t1 : tg t' 1 = tg t 1) (t3 : tg t' 3 = tg t 3) (t4 : tg t' 4 = tg t 4) (t5 : tg t' 5 = tg t 5) (t6 : tg t' 6 = tg t 6) : LS C g' t' b x' p d wr O ct rows vo So Sz :=
  ⟨a, H.L.fr f (fun j hj hc => by have := H.hO j hj; omega), H.RO.fr f (fun j hj hc => by have := H.hv j hj; omega), H.hO, H.hv, t1.trans H.t1, t3.trans H.t3, t4.trans H.t4, t5.trans H.t5, t6.trans H.t6, by rw [f.lo]; have := f.len; have := H.wf; omega, by rw [f.lo]; exact H.lo, by have := f.len; have := H.bl; omega, H.rl, H.s1, H.s2, H.s3, H.big⟩
variable {C : Ctx} (T : Tab_LLog C) (TD : Tab_LDig C) (TW : Tab_LLaw C) (TG : Tab_LGrow C) (hk : ∀ j, j < 64 → C.old 0 j = some (wv (kW j))) (hp : ∀ j, j < 16 → C.old 1 j = some (wv (crcW j)))
include T TD TW TG hk hp
section
variable (hN : ∀ h, D C 147 [str nmA] h = some (.bool true, h)) (hNu : ∀ h, D C 147 [str nmAudit] h = some (.bool true, h))
include hN hNu
theorem luck_a (g : AHeap) (t : List Value) (b : Nat) (x : GA) (k : x.Ok) (rows0 : List (List UInt8)) (HR : ArgR C.old x.rv rows0) (hrl : rows0.length < 2 ^ 63) (hat : g.at b = some (.cells (gC x) 70)) (t1 : tg t 1 = .pointer (some ⟨b, 0, some 0⟩)) (wf : g.lo ≤ g.bs.length) (lo : g.lo ≤ b) :
    (∀ K, ∃ g', R C r6 (.code lk0 :: K) t [] g = some (.bool true, g')) ∨
    ∃ g' t' x' p d wr O ct rows vo So Sz, (∀ K, R C r6 (.code lk0 :: K) t [] g = R C r6 (.code lk6 :: K) t' [] g') ∧ LS C g' t' b x' p d wr O ct rows vo So Sz ∧ x'.Ok ∧ x'.n < So ∧ x'.al = x.al := by
  have ew := wakes_spec T TD TW hk hp
  have bl := get_lt hat
  obtain ⟨e, p, d, O, wr, ct, vo, e1, L, RO, fe, hO, hvo⟩ := laid_spec T TD TW hk hp g x.rv rows0 HR 30 (by omega) hrl wf hNu
  have rl := laidF_len 30 200000 rows0
  have big := laidF_long 30 200000 rows0
  generalize laidF 30 200000 rows0 = rows at L RO rl big
  have el := fe.len
  have eo := fe.lo
  have ur : isUnd x.rv = false := by obtain ⟨a, cp, vs, h, _⟩ := HR; rw [h]; rfl
  have uvo : isUnd vo = false := by obtain ⟨vs, o, _⟩ := RO; exact o.und
  have lvo : lenV vo = some (iv rows.length) := by obtain ⟨vs, o, _⟩ := RO; exact o.lenV
  have eat : e.at b = some (.cells (gC x) 70) := fe.get hat (fun h => h)
  have q1 := gr134 k (fz := 70)
  have q2 := gr33' k (fz := 70)
  have q3 := gr0' k (fz := 70)
  have q4 := gr67 k (fz := 70)
  by_cases hlen : rows.length = 0
  · left; intro K; refine ⟨e, ?_⟩
    rw [hlen] at lvo
    simp [lk0, c1, s1, s2, b6, t1, hat, q1, stp_ok ur, ur, Dc_ok, e1, stp_ok uvo, uvo, aeq_nilPs, lvo, Dc0, ew _ hN, r6]
  · right
    have hmod := Nat.mod_lt x.hs (show 0 < rows.length by omega)
    obtain ⟨Sz, hSz⟩ : ∃ S, S = 1 + x.hs % rows.length := ⟨_, rfl⟩
    have hmod2 := Nat.mod_lt x.os (show 0 < Sz by omega)
    obtain ⟨So, hSo⟩ : ∃ S, S = 1 + x.os % Sz := ⟨_, rfl⟩
    have hmod3 := Nat.mod_lt x.n (show 0 < So by omega)
    have a1 : abin .add (uv 1) (uv (x.hs % rows.length)) = some (uv Sz) := by rw [uv_add (by omega), hSz]
    have a2 : abin .add (uv 1) (uv (x.os % Sz)) = some (uv So) := by rw [uv_add (by omega), hSo]
    have w1 := gw67 (v := x.n % So) k (fz := 69) (h := e) (b := b)
    have lo' : e.lo ≤ b := by omega
    generalize hf : e.put b (.cells (gC { x with n := x.n % So }) 70) = f at w1
    have ff : Fr e f (fun j => j = b) := by rw [← hf]; exact Fr.put rfl
    have fat : f.at b = some (.cells (gC { x with n := x.n % So }) 70) := by rw [← hf]; exact put_self (by omega)
    have fl := ff.len
    have fo := ff.lo
    obtain ⟨t', et, u1, u3, u4, u5, u6⟩ : ∃ t', (∀ K, R C r6 (.code lk0 :: K) t [] g = R C r6 (.code lk6 :: K) t' [] f) ∧ tg t' 1 = .pointer (some ⟨b, 0, some 0⟩) ∧ tg t' 3 = .pointer (some ⟨p, 0, some 0⟩) ∧ tg t' 4 = vo ∧ tg t' 5 = uv Sz ∧ tg t' 6 = uv So := by
      rw [lk_e6]
      simp [lk0, lk1, lk2, lk3, lk4, lk5, c1, s1, s2, b6, t1, hat, eat, q1, q2, q3, q4, stp_ok ur, ur, Dc_ok, e1, stp_ok uvo, aeq_nilPs, lvo, hlen, cvt_iu (show rows.length < 18446744073709551616 by omega), uv_rem (a := x.hs) (b := rows.length) (by omega), a1, uv_rem (a := x.os) (b := Sz) (by omega), a2, uv_rem (a := x.n) (b := So) (by omega), write1_wr, lo', w1]
      exact ⟨_, fun _ => rfl, by simp [t1], by simp, by simp, by simp, by simp⟩
    refine ⟨f, t', _, p, d, wr, O, ct, rows, vo, So, Sz, et, ⟨fat, L.fr ff (fun j hj hc => by have := hO j hj; omega), RO.fr ff (fun j hj hc => by have := hvo j hj; omega), fun j hj => by have := hO j hj; omega, fun j hj => by have := hvo j hj; omega, u1, u3, u4, u5, u6, by omega, by omega, by omega, rl, by omega, by omega, by omega, big⟩,
      { k with n := by show x.n % So < _; omega }, hmod3, rfl⟩
omit hN hNu in
set_option maxHeartbeats 4000000 in
theorem luck_b (g : AHeap) (t : List Value) (b : Nat) (x : GA) (k : x.Ok) (p d wr : Nat) (O : Nat → Prop) (ct : List UInt8) (rows : List (List UInt8)) (vo : Value) (So Sz : Nat) (H : LS C g t b x p d wr O ct rows vo So Sz) (hn : x.n < So) :
    ∃ g' t' x' pf p0 p1, (∀ K, R C r6 (.code lk6 :: K) t [] g = R C r6 (.code lk11 :: K) t' [] g') ∧ LS C g' t' b x' p d wr O ct rows vo So Sz ∧ x'.Ok ∧ x'.n < So ∧ x'.al = x.al ∧
      DigV C.old g' x'.pf pf ∧ DigV C.old g' x'.p0 p0 ∧ DigV C.old g' x'.p1 p1 ∧ (∀ j, Live x'.pf j → b < j) ∧ (∀ j, Live x'.p0 j → b < j) ∧ (∀ j, Live x'.p1 j → b < j) := by
  have rl := H.rl
  have s1' := H.s1
  have s2' := H.s2
  have s3' := H.s3
  have wf := H.wf
  have lo := H.lo
  have bl := H.bl
  have h32 : ∀ y, y ∈ rows.map lh → y.length = 32 := fun y hy => by
    obtain ⟨z, _, hz⟩ := List.mem_map.1 hy
    rw [← hz]; exact sha_length _
  have hml : (rows.map lh).length = rows.length := by simp
  -- the earlier head
  obtain ⟨a, ea, fa⟩ := head_spec T TD hk g O p d 16777216 wr nmAudit ct (rows.map lh) H.L So (by omega) (by omega) wf
  have ro := rootL_length _ (mem_take32 h32 So)
  generalize rootL ((rows.map lh).take So) = orr at ea ro
  have al := fa.len
  have ao := fa.lo
  have aat := fa.get H.at_ (fun h => h)
  have w1 := gw0 (s := So) (r := orr) k (fz := 69) (h := a) (b := b) ro
  have k1 : GA.Ok { x with os := So, oroot := orr } := { k with o := ro, os := by show So < _; omega }
  generalize hx1 : ({ x with os := So, oroot := orr } : GA) = x1 at w1 k1
  generalize ha1 : a.put b (.cells (gC x1) 70) = a1 at w1
  have fa1 : Fr a a1 (fun j => j = b) := by rw [← ha1]; exact Fr.put rfl
  have F1 : Fr g a1 (fun j => j = b) := fa.trans fa1 (fun _ h => h.elim) (fun _ h _ => h)
  have at1 : a1.at b = some (.cells (gC x1) 70) := by rw [← ha1]; exact put_self (by omega)
  have a1l := fa1.len
  have a1o := fa1.lo
  have L1 := H.L.fr F1 (fun j hj hc => by have := H.hO j hj; omega)
  -- the later one
  obtain ⟨c, ec, fc⟩ := head_spec T TD hk a1 O p d 16777216 wr nmAudit ct (rows.map lh) L1 Sz (by omega) (by omega) (by omega)
  have rh := rootL_length _ (mem_take32 h32 Sz)
  generalize rootL ((rows.map lh).take Sz) = hrr at ec rh
  have cl := fc.len
  have co := fc.lo
  have cat := fc.get at1 (fun h => h)
  have w2 := gw33 (s := Sz) (r := hrr) k1 (fz := 69) (h := c) (b := b) rh
  have k2 : GA.Ok { x1 with hs := Sz, hroot := hrr } := { k1 with h := rh, hs := by show Sz < _; omega }
  generalize hx2 : ({ x1 with hs := Sz, hroot := hrr } : GA) = x2 at w2 k2
  generalize hc1 : c.put b (.cells (gC x2) 70) = c1' at w2
  have fc1 : Fr c c1' (fun j => j = b) := by rw [← hc1]; exact Fr.put rfl
  have F2 : Fr a1 c1' (fun j => j = b) := fc.trans fc1 (fun _ h => h.elim) (fun _ h _ => h)
  have at2 : c1'.at b = some (.cells (gC x2) 70) := by rw [← hc1]; exact put_self (by omega)
  have c1l := fc1.len
  have c1o := fc1.lo
  have L2 := L1.fr F2 (fun j hj hc => by have := H.hO j hj; omega)
  -- the proof
  obtain ⟨e, v, ee, De, fe⟩ := follow_spec T TD hk c1' O p d 16777216 wr nmAudit ct (rows.map lh) L2 So Sz s2' (by omega) (by omega) (by omega)
  generalize (if So = 0 then [] else proofF Sz ((rows.map lh).take Sz) So true) = pf at De
  obtain ⟨va, vcp, hv, dv, lv⟩ := De
  have el := fe.len
  have eo := fe.lo
  have eat := fe.get at2 (fun h => h)
  have okv : okCell v = true := by rw [hv]; rfl
  have uv' : isUnd v = false := by rw [hv]; rfl
  have w3 := gw66 (v := v) k2 (fz := 69) (h := e) (b := b) okv
  have k3 : GA.Ok { x2 with pf := v } := { k2 with pf := okv }
  generalize hx3 : ({ x2 with pf := v } : GA) = x3 at w3 k3
  generalize he1 : e.put b (.cells (gC x3) 70) = e1 at w3
  have fe1 : Fr e e1 (fun j => j = b) := by rw [← he1]; exact Fr.put rfl
  have F3 : Fr c1' e1 (fun j => j = b) := fe.trans fe1 (fun _ h => h.elim) (fun _ h _ => h)
  have at3 : e1.at b = some (.cells (gC x3) 70) := by rw [← he1]; exact put_self (by omega)
  have e1l := fe1.len
  have e1o := fe1.lo
  have L3 := L2.fr F3 (fun j hj hc => by have := H.hO j hj; omega)
  have dv1 := dv.fr fe1 (fun j hj hc => by have := lv j (by rw [hv]; exact hj); omega)
  have hn3 : x3.n = x.n := by rw [← hx3, ← hx2, ← hx1]
  have q3 := gr67 k3 (fz := 70)
  rw [hn3] at q3
  -- the paths
  obtain ⟨f, v0, ef, D0, ff, b0⟩ := prove_spec T TD hk e1 O p d 16777216 wr nmAudit ct (rows.map lh) L3 x.n So hn (by omega) (by omega) (by omega)
  generalize pathF So ((rows.map lh).take So) x.n = p0 at D0
  have fl := ff.len
  have fo := ff.lo
  have fat := ff.get at3 (fun h => h)
  have ok0 := D0.1.okc
  have u0 := D0.1.und
  have w4 := gw132 (v := v0) k3 (fz := 69) (h := f) (b := b) ok0
  have k4 : GA.Ok { x3 with p0 := v0 } := { k3 with p0 := ok0 }
  generalize hx4 : ({ x3 with p0 := v0 } : GA) = x4 at w4 k4
  generalize hf1 : f.put b (.cells (gC x4) 70) = f1 at w4
  have ff1 : Fr f f1 (fun j => j = b) := by rw [← hf1]; exact Fr.put rfl
  have F4 : Fr e1 f1 (fun j => j = b) := ff.trans ff1 (fun _ h => h.elim) (fun _ h _ => h)
  have at4 : f1.at b = some (.cells (gC x4) 70) := by rw [← hf1]; exact put_self (by omega)
  have f1l := ff1.len
  have f1o := ff1.lo
  have L4 := L3.fr F4 (fun j hj hc => by have := H.hO j hj; omega)
  have D01 := D0.fr ff1 (fun j hj hc => by have := b0 j hj; omega)
  have hn4 : x4.n = x.n := by rw [← hx4]; exact hn3
  have q4 := gr67 k4 (fz := 70)
  rw [hn4] at q4
  obtain ⟨m, v1, em, D1, fm, b1⟩ := prove_spec T TD hk f1 O p d 16777216 wr nmAudit ct (rows.map lh) L4 x.n Sz (by omega) (by omega) (by omega) (by omega)
  generalize pathF Sz ((rows.map lh).take Sz) x.n = p1 at D1
  have ml := fm.len
  have mo := fm.lo
  have mat := fm.get at4 (fun h => h)
  have ok1 := D1.1.okc
  have u1 := D1.1.und
  have w5 := gw133 (v := v1) k4 (fz := 69) (h := m) (b := b) ok1
  have k5 : GA.Ok { x4 with p1 := v1 } := { k4 with p1 := ok1 }
  generalize hx5 : ({ x4 with p1 := v1 } : GA) = x5 at w5 k5
  generalize hm1 : m.put b (.cells (gC x5) 70) = m1 at w5
  have fm1 : Fr m m1 (fun j => j = b) := by rw [← hm1]; exact Fr.put rfl
  have F5 : Fr f1 m1 (fun j => j = b) := fm.trans fm1 (fun _ h => h.elim) (fun _ h _ => h)
  have at5 : m1.at b = some (.cells (gC x5) 70) := by rw [← hm1]; exact put_self (by omega)
  have D11 := D1.fr fm1 (fun j hj hc => by have := b1 j hj; omega)
  have FA : Fr g m1 (fun j => j = b) := (((F1.trans F2 (S'' := fun j => j = b) (fun _ h => h) (fun _ h _ => h)).trans F3 (S'' := fun j => j = b) (fun _ h => h) (fun _ h _ => h)).trans F4 (S'' := fun j => j = b) (fun _ h => h) (fun _ h _ => h)).trans F5 (fun _ h => h) (fun _ h _ => h)
  have hpf : x5.pf = v := by rw [← hx5, ← hx4, ← hx3]
  have hp0 : x5.p0 = v0 := by rw [← hx5, ← hx4]
  have hp1 : x5.p1 = v1 := by rw [← hx5]
  have dv5 := (dv1.fr F4 (fun j hj hc => by have := lv j (by rw [hv]; exact hj); omega)).fr F5 (fun j hj hc => by have := lv j (by rw [hv]; exact hj); omega)
  have D05 := D01.fr F5 (fun j hj hc => by have := b0 j hj; omega)
  obtain ⟨a0', c0', hv0, d0'⟩ := D05.digR (old := C.old)
  obtain ⟨a1', c1'', hv1, d1'⟩ := D11.digR (old := C.old)
  have alo : a.lo ≤ b := by omega
  have clo : c.lo ≤ b := by omega
  have elo : e.lo ≤ b := by omega
  have flo : f.lo ≤ b := by omega
  have mlo : m.lo ≤ b := by omega
  obtain ⟨t', et, t1, t3, t4, t5, t6⟩ : ∃ t', (∀ K, R C r6 (.code lk6 :: K) t [] g = R C r6 (.code lk11 :: K) t' [] m1) ∧ tg t' 1 = tg t 1 ∧ tg t' 3 = tg t 3 ∧ tg t' 4 = tg t 4 ∧ tg t' 5 = tg t 5 ∧ tg t' 6 = tg t 6 := by
    rw [lk_e11]
    simp [lk0, lk1, lk2, lk3, lk4, lk5, lk6, lk7, lk8, lk9, lk10, Go.Ab.Aud.c1, s1, s2, b6, H.t1, H.t3, H.t5, H.t6, Dc_ok, ea, ro, writeN_wr, write1_wr, alo, aat, w1, ec, rh, clo, cat, w2, ee, stp_ok uv', uv', elo, eat, w3, at3, q3, ef, stp_ok u0, u0, flo, fat, w4, at4, q4, ixA_iv, em, stp_ok u1, u1, mlo, mat, w5]
    exact ⟨_, fun _ => rfl, by simp [H.t1], by simp [H.t3], by simp, by simp [H.t5], by simp [H.t6]⟩
  refine ⟨m1, t', x5, pf, p0, p1, et, H.mv FA at5 t1 t3 t4 t5 t6, k5, by rw [← hx5]; show x4.n < So; omega, by rw [← hx5, ← hx4, ← hx3, ← hx2, ← hx1], ?_, ?_, ?_, ?_, ?_, ?_⟩
  · rw [hpf]; exact ⟨va, vcp, hv, dv5⟩
  · rw [hp0]; exact ⟨a0', c0', hv0, d0'⟩
  · rw [hp1]; exact ⟨a1', c1'', hv1, d1'⟩
  · rw [hpf]; exact fun j hj => by have := lv j hj; omega
  · rw [hp0]; exact fun j hj => by have := b0 j (D05.1.live hj); omega
  · rw [hp1]; exact fun j hj => by have := b1 j (D11.1.live hj); omega
omit hN hNu in
set_option maxHeartbeats 4000000 in
theorem luck_c (g : AHeap) (t : List Value) (b : Nat) (x : GA) (k : x.Ok) (p d wr : Nat) (O : Nat → Prop) (ct : List UInt8) (rows : List (List UInt8)) (vo : Value) (So Sz : Nat) (H : LS C g t b x p d wr O ct rows vo So Sz) (hn : x.n < So) (al : List (List UInt8)) (hal : ArgDig C.old x.al al)
    (pf p0 p1 : List (List UInt8)) (dpf : DigV C.old g x.pf pf) (dp0 : DigV C.old g x.p0 p0) (dp1 : DigV C.old g x.p1 p1) (lpf : ∀ j, Live x.pf j → b < j) (lp0 : ∀ j, Live x.p0 j → b < j) (lp1 : ∀ j, Live x.p1 j → b < j) :
    ∃ g' t' x' pf p0 p1, (∀ K, R C r6 (.code lk11 :: K) t [] g = R C r6 K t' [] g') ∧ x'.Ok ∧ GS C g' t' b x' pf p0 p1 := by
  have rl := H.rl
  have s1' := H.s1
  have s2' := H.s2
  have s3' := H.s3
  have wf := H.wf
  have lo := H.lo
  have bl := H.bl
  have q1 := gr67 k (fz := 70)
  obtain ⟨ra, a3, cp3, hv3, r3, sr⟩ := H.RO.get (i := x.n) (by omega)
  have rle : (rows.getD x.n []).length ≤ 16384 := by
    rw [List.getD_eq_getElem?_getD, List.getElem?_eq_getElem (by omega)]
    exact H.big _ (List.getElem_mem _)
  generalize rows.getD x.n [] = row at r3 sr rle
  obtain ⟨a, vc, ec, oc, fa, bc⟩ := copy_spec TW g row a3 row.length cp3 (sr g) (by omega) wf
  obtain ⟨ac, cpc, hvc⟩ := oc.slice
  have sc := oc.sl (old := C.old) (by omega)
  rw [hvc] at sc ec
  have elf := leaf_spec TD hk a row ac row.length cpc sc (by omega)
  have lfl := sha_length (0 :: row)
  generalize sha (0 :: row) = lf at elf lfl
  have ale := fa.len
  have ao := fa.lo
  have hz : Value.int .u8 0 = bv 0 := rfl
  generalize hZ : ABlock.cells (List.replicate 32 (bv 0)) 31 = Z
  have hZ0 := hZ
  simp [List.replicate] at hZ
  generalize hZ2 : ABlock.cells (List.replicate 64 (bv 0)) 48 = Z2
  have hZ20 := hZ2
  simp [List.replicate] at hZ2
  obtain ⟨a1, ha1, z7, A7, l1, o1, f1⟩ := new_step (g := a) (vs := bytesVals lf) hZ0
  have w7 := wr_arr (n := 32) hZ0 (vs := bytesVals lf) (by simp [lfl]) bytes_ok
  have f01 : Fr g a1 (fun _ => False) := fa.trans f1 (fun _ h => h) (fun _ h _ => h)
  have at1 := f01.get H.at_ (fun h => h)
  have q2 := gr64 k (fz := 70)
  obtain ⟨a2, ha2, z8, A8, l2, o2, f2⟩ := new_step (g := a1) (vs := bytesVals x.l0 ++ bytesVals x.l1) hZ20
  have w8 := wr_arr (n := 64) hZ20 (vs := bytesVals x.l0 ++ bytesVals x.l1) (by simp [k.a, k.b]) (by rw [List.all_append, bytes_ok, bytes_ok]; rfl)
  have A72 : a2.at a.bs.length = some (.cells (bytesVals lf) 31) := f2.get A7 (fun h => h)
  have at2 := f2.get at1 (fun h => h)
  have wl := gw64 (r := lf) (s := lf) k (fz := 69) (h := a2) (b := b) lfl lfl
  have k1 : GA.Ok { x with l0 := lf, l1 := lf } := { k with a := lfl, b := lfl }
  have kl0 := k.a
  have kl1 := k.b
  generalize hl0 : x.l0 = l0 at *
  generalize hl1 : x.l1 = l1' at *
  generalize hy : ({ x with l0 := lf, l1 := lf } : GA) = y at wl k1
  have yw : y.which = x.which := by rw [← hy]
  have yal : y.al = x.al := by rw [← hy]
  have ypf : y.pf = x.pf := by rw [← hy]
  have yp0 : y.p0 = x.p0 := by rw [← hy]
  have yp1 : y.p1 = x.p1 := by rw [← hy]
  generalize ha3 : a2.put b (.cells (gC y) 70) = a3' at wl
  have f3 : Fr a2 a3' (fun j => j = b) := by rw [← ha3]; exact Fr.put rfl
  have at3 : a3'.at b = some (.cells (gC y) 70) := by rw [← ha3]; exact put_self (by omega)
  have l3 : a3'.bs.length = a2.bs.length := by rw [← ha3]; simp
  have o3 := f3.lo
  have A83 : a3'.at a1.bs.length = some (.cells (bytesVals l0 ++ bytesVals l1') 48) := f3.get A8 (by omega)
  have F3 : Fr g a3' (fun j => j = b) := (f01.trans f2 (S'' := fun j => j = b) (fun _ h => h.elim) (fun _ h _ => h.elim)).trans f3 (fun _ h => h) (fun _ h _ => h)
  have rlf : rdN (some (.cells (bytesVals lf) 31)) 0 0 32 = some (bytesVals lf) := rd32 lfl
  have hB : splice (splice (List.replicate 64 (bv 0)) 0 (bytesVals lf)) 32 (bytesVals lf) = bytesVals lf ++ bytesVals lf := by simp [splice, lfl]
  have hB2 : (splice (List.replicate 64 (bv 0)) 0 (bytesVals lf)).length = 64 := by simp [splice, lfl]
  simp [List.replicate] at hB hB2
  have c1 : a.lo ≤ a.bs.length := by omega
  have c2 : a1.lo ≤ a1.bs.length := by omega
  have c3 : a2.lo ≤ b := by omega
  obtain ⟨t1, et1, u1, u8⟩ : ∃ t', (∀ K, R C r6 (.code lk11 :: K) t [] g = R C r6 (.code lk14 :: K) t' [] a3') ∧ tg t' 1 = tg t 1 ∧ tg t' 8 = .pointer (some ⟨a1.bs.length, 0, some 0⟩) := by
    rw [lk_e14]
    simp [lk0, lk1, lk2, lk3, lk4, lk5, lk6, lk7, lk8, lk9, lk10, lk11, lk12, lk13, Go.Ab.Aud.c1, s1, s2, b6, H.t1, H.t4, H.at_, q1, hv3, ixS_uv (show x.n < rows.length by omega), r3, Dc_ok, ec, elf, hz, hZ, writeN_wr, c1, z7, lfl, w7, ha1, at1, q2, hZ2, c2, z8, kl0, kl1, w8, ha2, A72, rlf, fillCells, hB, hB2, c3, at2, wl]
    exact ⟨_, fun _ => rfl, by simp [H.t1], by simp⟩
  rw [H.t1] at u1
  have q136 := gr136 k1 (fz := 70)
  have q137 := gr137 k1 (fz := 70)
  rw [yw] at q136
  rw [yal] at q137
  have ew := within_spec TG a3' x.which 5 (by omega) (by omega)
  have hr5 := wi_lt (z := x.which) (n := 5) (by omega)
  generalize wi x.which 5 = r at ew hr5
  have r0 : rdN (some (.cells (bytesVals l0 ++ bytesVals l1') 48)) 0 0 32 = some (bytesVals l0) := rd_part (A := []) (by simp; rfl) rfl (by simp [kl0])
  have r1 : rdN (some (.cells (bytesVals l0 ++ bytesVals l1') 48)) 32 0 32 = some (bytesVals l1') := rd_part (A := bytesVals l0) (D := []) (by simp) (by simp [kl0]) (by simp [kl1])
  have c4 : a3'.lo ≤ b := by omega
  have dpf3 := dpf
  obtain ⟨f1', f2', f3', f4'⟩ := dpf
  obtain ⟨g1', g2', g3', g4'⟩ := dp0
  obtain ⟨h1', h2', h3', h4'⟩ := dp1
  have zd := zv_und (z := x.which)
  -- the end, whatever was laid
  have fin : ∀ (z : GA), z.pf = x.pf → (z.p0 = x.p0 ∨ z.p0 = x.al) → (z.p1 = x.p1 ∨ z.p1 = x.al) → ∀ (G : AHeap) (t' : List Value), Fr g G (fun j => j = b) → G.at b = some (.cells (gC z) 70) → tg t' 1 = .pointer (some ⟨b, 0, some 0⟩) → G.lo ≤ G.bs.length → ∃ pf p0 p1, GS C G t' b z pf p0 p1 := by
    intro z z1 z2 z3 G t' F A B W
    have e1 : DigV C.old G z.pf pf := by rw [z1]; exact ⟨f1', f2', f3', f4'.fr F (fun j hj hc => by have := lpf j (by rw [f3']; exact hj); omega)⟩
    have e2 : ∃ q, DigV C.old G z.p0 q := by
      rcases z2 with z2 | z2
      · exact ⟨p0, by rw [z2]; exact ⟨g1', g2', g3', g4'.fr F (fun j hj hc => by have := lp0 j (by rw [g3']; exact hj); omega)⟩⟩
      · exact ⟨al, by rw [z2]; exact hal.digV G⟩
    have e3 : ∃ q, DigV C.old G z.p1 q := by
      rcases z3 with z3 | z3
      · exact ⟨p1, by rw [z3]; exact ⟨h1', h2', h3', h4'.fr F (fun j hj hc => by have := lp1 j (by rw [h3']; exact hj); omega)⟩⟩
      · exact ⟨al, by rw [z3]; exact hal.digV G⟩
    obtain ⟨q, e2⟩ := e2
    obtain ⟨q', e3⟩ := e3
    exact ⟨pf, q, q', A, e1, e2, e3, B, W⟩
  have oal : okCell x.al = true := k.al
  have ual : isUnd x.al = false := by obtain ⟨_, _, h, _⟩ := hal; rw [h]; rfl
  have hput : ∀ z : GA, Fr g (a3'.put b (.cells (gC z) 70)) (fun j => j = b) := fun z => F3.put' (.inl rfl)
  have hat : ∀ z : GA, (a3'.put b (.cells (gC z) 70)).at b = some (.cells (gC z) 70) := fun z => put_self (by omega)
  have hR : ∀ K, R C r6 (.code lk11 :: K) t [] g = R C r6 (.code lk14 :: K) t1 [] a3' := et1
  by_cases r_0 : r = 0
  · have wz := gw68 (r := l0) k1 (fz := 69) (h := a3') (b := b) kl0
    obtain ⟨t', e, v1⟩ : ∃ t', (∀ K, R C r6 (.code lk14 :: K) t1 [] a3' = R C r6 K t' [] (a3'.put b (.cells (gC { y with l0 := l0 }) 70))) ∧ tg t' 1 = .pointer (some ⟨b, 0, some 0⟩) := by
      subst r_0
      simp [lk0, lk1, lk2, lk3, lk4, lk5, lk6, lk7, lk8, lk9, lk10, lk11, lk12, lk13, lk14, Go.Ab.Aud.c1, s1, s2, b6, u1, u8, at3, q136, stp_ok zd, zd, Dc_ok, ew, ixA_iv, A83, r0, kl0, writeN_wr, c4, wz]
      exact ⟨_, fun _ => rfl, by simp [u1]⟩
    obtain ⟨a, b', c, G⟩ := fin { y with l0 := l0 } ypf (.inl yp0) (.inl yp1) _ t' (hput _) (hat _) v1 (by simp; omega)
    exact ⟨_, t', _, a, b', c, fun K => (hR K).trans (e K), (show GA.Ok { y with l0 := l0 } from { k1 with a := kl0 }), G⟩
  · by_cases r_1 : r = 1
    · have wz := gw100 (r := l1') k1 (fz := 69) (h := a3') (b := b) kl1
      obtain ⟨t', e, v1⟩ : ∃ t', (∀ K, R C r6 (.code lk14 :: K) t1 [] a3' = R C r6 K t' [] (a3'.put b (.cells (gC { y with l1 := l1' }) 70))) ∧ tg t' 1 = .pointer (some ⟨b, 0, some 0⟩) := by
        subst r_1
        simp [lk0, lk1, lk2, lk3, lk4, lk5, lk6, lk7, lk8, lk9, lk10, lk11, lk12, lk13, lk14, Go.Ab.Aud.c1, s1, s2, b6, u1, u8, at3, q136, stp_ok zd, zd, Dc_ok, ew, ixA_iv, A83, r1, kl1, writeN_wr, c4, wz]
        exact ⟨_, fun _ => rfl, by simp [u1]⟩
      obtain ⟨a, b', c, G⟩ := fin { y with l1 := l1' } ypf (.inl yp0) (.inl yp1) _ t' (hput _) (hat _) v1 (by simp; omega)
      exact ⟨_, t', _, a, b', c, fun K => (hR K).trans (e K), (show GA.Ok { y with l1 := l1' } from { k1 with b := kl1 }), G⟩
    · by_cases r_2 : r = 2
      · have wz := gw132 (v := x.al) k1 (fz := 69) (h := a3') (b := b) oal
        obtain ⟨t', e, v1⟩ : ∃ t', (∀ K, R C r6 (.code lk14 :: K) t1 [] a3' = R C r6 K t' [] (a3'.put b (.cells (gC { y with p0 := x.al }) 70))) ∧ tg t' 1 = .pointer (some ⟨b, 0, some 0⟩) := by
          subst r_2
          simp [lk0, lk1, lk2, lk3, lk4, lk5, lk6, lk7, lk8, lk9, lk10, lk11, lk12, lk13, lk14, Go.Ab.Aud.c1, s1, s2, b6, u1, u8, at3, q136, q137, stp_ok zd, zd, stp_ok ual, Dc_ok, ew, ixA_iv, write1_wr, c4, wz]
          exact ⟨_, fun _ => rfl, by simp [u1]⟩
        obtain ⟨a, b', c, G⟩ := fin { y with p0 := x.al } ypf (.inr rfl) (.inl yp1) _ t' (hput _) (hat _) v1 (by simp; omega)
        exact ⟨_, t', _, a, b', c, fun K => (hR K).trans (e K), (show GA.Ok { y with p0 := x.al } from { k1 with p0 := oal }), G⟩
      · by_cases r_3 : r = 3
        · have wz := gw133 (v := x.al) k1 (fz := 69) (h := a3') (b := b) oal
          obtain ⟨t', e, v1⟩ : ∃ t', (∀ K, R C r6 (.code lk14 :: K) t1 [] a3' = R C r6 K t' [] (a3'.put b (.cells (gC { y with p1 := x.al }) 70))) ∧ tg t' 1 = .pointer (some ⟨b, 0, some 0⟩) := by
            subst r_3
            simp [lk0, lk1, lk2, lk3, lk4, lk5, lk6, lk7, lk8, lk9, lk10, lk11, lk12, lk13, lk14, Go.Ab.Aud.c1, s1, s2, b6, u1, u8, at3, q136, q137, stp_ok zd, zd, stp_ok ual, Dc_ok, ew, ixA_iv, write1_wr, c4, wz]
            exact ⟨_, fun _ => rfl, by simp [u1]⟩
          obtain ⟨a, b', c, G⟩ := fin { y with p1 := x.al } ypf (.inl yp0) (.inr rfl) _ t' (hput _) (hat _) v1 (by simp; omega)
          exact ⟨_, t', _, a, b', c, fun K => (hR K).trans (e K), (show GA.Ok { y with p1 := x.al } from { k1 with p1 := oal }), G⟩
        · obtain ⟨t', e, v1⟩ : ∃ t', (∀ K, R C r6 (.code lk14 :: K) t1 [] a3' = R C r6 K t' [] a3') ∧ tg t' 1 = .pointer (some ⟨b, 0, some 0⟩) := by
            simp [lk0, lk1, lk2, lk3, lk4, lk5, lk6, lk7, lk8, lk9, lk10, lk11, lk12, lk13, lk14, Go.Ab.Aud.c1, s1, s2, b6, u1, u8, at3, q136, stp_ok zd, zd, Dc_ok, ew, r_0, r_1, r_2, r_3]
            exact ⟨_, fun _ => rfl, by simp [u1]⟩
          obtain ⟨a, b', c, G⟩ := fin y ypf (.inl yp0) (.inl yp1) _ t' F3 at3 v1 (by omega)
          exact ⟨_, t', _, a, b', c, fun K => (hR K).trans (e K), k1, G⟩
end
end Go.Ab.Aud

namespace Go.Ab.Aud
open Go.Sha
variable {C : Ctx} (T : Tab_LLog C) (TD : Tab_LDig C) (TW : Tab_LLaw C) (TG : Tab_LGrow C) (hk : ∀ j, j < 64 → C.old 0 j = some (wv (kW j))) (hp : ∀ j, j < 16 → C.old 1 j = some (wv (crcW j)))
theorem b6_e : b6 = .seq (s1 b6) (.seq (s1 (s2 b6)) gt0) := rfl
include T TD TW TG hk hp
theorem grow_tail (hN : ∀ h, D C 147 [str nmA] h = some (.bool true, h)) (g : AHeap) (t : List Value) (b : Nat) (x : GA) (k : x.Ok) (pf p0 p1 : List (List UInt8)) (H : GS C g t b x pf p0 p1) : ∃ g', R C r6 [.code gt0] t [] g = some (.bool true, g') := by
  rw [R_split (c := gt0) (a := s1 gt0) (b := s2 gt0) rfl]
  rcases gp0 T TD TW TG hk hp hN g t b x k pf p0 p1 H with h | ⟨l1, l2, l3, l4, t1, e1, u1⟩
  · exact h _
  have H1 := H.mv (t' := t1) (Fr.refl _ _) u1
  rw [e1]
  show ∃ g', R C r6 [.code gt1] t1 [] g = some (.bool true, g')
  rw [R_split (c := gt1) (a := s1 gt1) (b := s2 gt1) rfl]
  rcases gp1 T TD TW TG hk hp hN g t1 b x k pf p0 p1 H1 l1 with h | ⟨hf, g2, t2, e2, H2⟩
  · exact h _
  rw [e2]
  show ∃ g', R C r6 [.code gt2] t2 [] g2 = some (.bool true, g')
  rw [R_split (c := gt2) (a := s1 gt2) (b := s2 gt2) rfl]
  rcases gp2 T TD TW TG hk hp hN g2 t2 b x k pf p0 p1 H2 l2 l3 with h | ⟨hi0, hi1, g3, t3, e3, H3⟩
  · exact h _
  rw [e3]
  show ∃ g', R C r6 [.code gt3] t3 [] g3 = some (.bool true, g')
  rw [R_split (c := gt3) (a := s1 gt3) (b := s2 gt3) rfl]
  rcases gp3 T TD TW TG hk hp hN g3 t3 b x k pf p0 p1 H3 with h | ⟨hne, t4, e4, u4⟩
  · exact h _
  have H4 := H3.mv (t' := t4) (Fr.refl _ _) u4
  rw [e4]
  show ∃ g', R C r6 [.code gt4] t4 [] g3 = some (.bool true, g')
  rw [R_split (c := gt4) (a := s1 gt4) (b := s2 gt4) rfl]
  have hhs := k.hs
  obtain ⟨c1, c2, c3⟩ := (foll_ok (by omega) l4).1 hf
  obtain ⟨t5, e5, u5⟩ := gp4 T TD TW TG hk hp hN g3 t4 b x k pf p0 p1 H4 c1 c2
  have H5 := H4.mv (t' := t5) (Fr.refl _ _) u5
  rw [e5]
  exact gp5 T TD TW TG hk hp hN g3 t5 b x k pf p0 p1 H5 l4 l1 l2 l3 hf hi0 hi1 hne
theorem grow_all (hN : ∀ h, D C 147 [str nmA] h = some (.bool true, h)) (hNu : ∀ h, D C 147 [str nmAudit] h = some (.bool true, h)) (h : AHeap) (wf : h.lo ≤ h.bs.length) (x : GA) (k : x.Ok) (pf p0 p1 al rows : List (List UInt8)) (Af : ArgDig C.old x.pf pf) (A0 : ArgDig C.old x.p0 p0) (A1 : ArgDig C.old x.p1 p1) (Al : ArgDig C.old x.al al)
    (AR : ArgR C.old x.rv rows) (hrl : rows.length < 2 ^ 63) : ∃ g', D C 6 [.agg ⟨gC x⟩] h = some (.bool true, g') := by
  rw [D_fn TG.h6]
  have qok := gC_ok k
  have q0 := gr135 k (fz := 70)
  generalize ha : h.push (.cells (gC x) 70) = a
  have fa : Fr h a (fun _ => False) := by rw [← ha]; exact Fr.push
  have aat : a.at h.bs.length = some (.cells (gC x) 70) := by rw [← ha]; exact push_self
  have al' : a.bs.length = h.bs.length + 1 := by rw [← ha]; simp
  have ao := fa.lo
  cases hl : x.lucky
  · rw [hl] at q0
    obtain ⟨t, e, u1⟩ : ∃ t, R C r6 [.code b6] [.agg ⟨gC x⟩] [] h = R C r6 [.code gt0] t [] a ∧ tg t 1 = .pointer (some ⟨h.bs.length, 0, some 0⟩) := by
      rw [b6_e]
      simp [-List.all_eq_true, s1, s2, b6, qok, ha, aat, q0]
      exact ⟨_, rfl, by simp⟩
    rw [e]
    exact grow_tail T TD TW TG hk hp hN a t h.bs.length x k pf p0 p1 ⟨aat, Af.digV a, A0.digV a, A1.digV a, u1, by omega⟩
  · rw [hl] at q0
    obtain ⟨t, e, u1⟩ : ∃ t, R C r6 [.code b6] [.agg ⟨gC x⟩] [] h = R C r6 [.code lk0, .code gt0] t [] a ∧ tg t 1 = .pointer (some ⟨h.bs.length, 0, some 0⟩) := by
      rw [show b6 = .seq (s1 b6) (.seq (.seq (s1 (s1 (s2 b6))) (.cond (.tmp 17) lk0 .skip)) gt0) from rfl]
      simp [-List.all_eq_true, s1, s2, b6, qok, ha, aat, q0]
      exact ⟨_, rfl, by simp⟩
    rw [e]
    rcases luck_a T TD TW TG hk hp hN hNu a t h.bs.length x k rows AR hrl aat u1 (by omega) (by omega) with hh | ⟨g1, t1, x1, p, d, wr, O, ct, rw', vo, So, Sz, e1, L1, k1, hn1, a1⟩
    · exact hh _
    · obtain ⟨g2, t2, x2, qf, q0', q1', e2, L2, k2, hn2, a2, D1, D2, D3, V1, V2, V3⟩ := luck_b T TD TW TG hk hp g1 t1 h.bs.length x1 k1 p d wr O ct rw' vo So Sz L1 hn1
      obtain ⟨g3, t3, x3, rf, r0', r1', e3, k3, G⟩ := luck_c T TD TW TG hk hp g2 t2 h.bs.length x2 k2 p d wr O ct rw' vo So Sz L2 hn2 al (by rw [a2, a1]; exact Al) qf q0' q1' D1 D2 D3 V1 V2 V3
      rw [e1, e2, e3]
      exact grow_tail T TD TW TG hk hp hN g3 t3 h.bs.length x3 k3 rf r0' r1' G
end Go.Ab.Aud

namespace Go.Proofs.YtecbgdnoblhldaaGreatDoor.au
open Go Go.Ab Go.Ab.Aud Go.Sha
theorem cells69 : Tryz.prog.cellsOf 69 = 138 := by kernel_rfl
section
variable {H : Type} {enc : TypeId × Value → H} {W : World} {spare : Nat → Bool} {held : Bool}
theorem grow_arg {fuel : Nat} {cs : List Value} {x : DataW H × List MemPlace} (hsp : ∀ b, spare b = true) (h : DataW.trod enc Tryz.prog W 0 spare held fuel 69 cs = some x) :
    ∃ (y : GA) (pf p0 p1 al rows : List (List UInt8)), OldCells cs (gC y) ∧ y.Ok ∧
      ArgDig (oldOf W) y.pf pf ∧ ArgDig (oldOf W) y.p0 p0 ∧ ArgDig (oldOf W) y.p1 p1 ∧ ArgDig (oldOf W) y.al al ∧ ArgR (oldOf W) y.rv rows ∧ rows.length < 2 ^ 63 := by
  obtain ⟨xs, m, _, _, hl, hxl, hx⟩ := DataW.trod_struct Tryz.underlying69 h
  rw [cells69] at hl
  have hxl : xs.length = 10 := hxl
  have h0 := hx 0 _ rfl
  have h1 := hx 1 _ rfl
  have h2 := hx 2 _ rfl
  have h3 := hx 3 _ rfl
  have h4 := hx 4 _ rfl
  have h5 := hx 5 _ rfl
  have h6 := hx 6 _ rfl
  have h7 := hx 7 _ rfl
  have h8 := hx 8 _ rfl
  have h9 := hx 9 _ rfl
  rw [List.getElem?_eq_getElem (by omega)] at h0 h1 h2 h3 h4 h5 h6 h7 h8 h9
  replace h0 : DataW.trod enc Tryz.prog W 0 spare held m 35 ((cs.drop 0).take (Tryz.prog.cellsOf 35)) = _ := h0
  rw [cells35] at h0
  replace h1 : DataW.trod enc Tryz.prog W 0 spare held m 35 ((cs.drop 33).take (Tryz.prog.cellsOf 35)) = _ := h1
  rw [cells35] at h1
  replace h2 : DataW.trod enc Tryz.prog W 0 spare held m 24 ((cs.drop 66).take (Tryz.prog.cellsOf 24)) = _ := h2
  rw [cells24] at h2
  replace h3 : DataW.trod enc Tryz.prog W 0 spare held m 29 ((cs.drop 67).take (Tryz.prog.cellsOf 29)) = _ := h3
  rw [cells29] at h3
  replace h4 : DataW.trod enc Tryz.prog W 0 spare held m 47 ((cs.drop 68).take (Tryz.prog.cellsOf 47)) = _ := h4
  rw [cells47] at h4
  replace h5 : DataW.trod enc Tryz.prog W 0 spare held m 48 ((cs.drop 132).take (Tryz.prog.cellsOf 48)) = _ := h5
  rw [cells48] at h5
  replace h6 : DataW.trod enc Tryz.prog W 0 spare held m 26 ((cs.drop 134).take (Tryz.prog.cellsOf 26)) = _ := h6
  rw [cells26] at h6
  replace h7 : DataW.trod enc Tryz.prog W 0 spare held m 4 ((cs.drop 135).take (Tryz.prog.cellsOf 4)) = _ := h7
  rw [cells4] at h7
  replace h8 : DataW.trod enc Tryz.prog W 0 spare held m 3 ((cs.drop 136).take (Tryz.prog.cellsOf 3)) = _ := h8
  rw [cells3] at h8
  replace h9 : DataW.trod enc Tryz.prog W 0 spare held m 24 ((cs.drop 137).take (Tryz.prog.cellsOf 24)) = _ := h9
  rw [cells24] at h9
  obtain ⟨os, oroot, o0, hor, hos⟩ := arg_head h0
  obtain ⟨hs, root, o1, hr, hhs⟩ := arg_head h1
  obtain ⟨vf, pf, psf, vf1, vf2, vf3⟩ := arg_digs Tryz.underlying24 Tryz.underlying30 cells5 cells30 Tryz.underlying5 hsp h2
  obtain ⟨n', hn', _, wn⟩ := DataW.trod_int Tryz.underlying29 h3
  obtain ⟨n, hn, en⟩ := wf_u64 wn
  obtain ⟨ys, m2, _, _, yl, yxl, yx⟩ := DataW.trod_array Tryz.underlying47 h4
  have y0 := yx 0 (by omega)
  have y1 := yx 1 (by omega)
  rw [List.getElem?_eq_getElem (by omega)] at y0 y1
  simp only [cells30] at y0 y1
  obtain ⟨l0, l01, l02⟩ := arg_dig Tryz.underlying30 cells5 cells30 Tryz.underlying5 y0
  obtain ⟨l1, l11, l12⟩ := arg_dig Tryz.underlying30 cells5 cells30 Tryz.underlying5 y1
  obtain ⟨zs, m3, _, _, zl, zxl, zx⟩ := DataW.trod_array Tryz.underlying48 h5
  have z0 := zx 0 (by omega)
  have z1 := zx 1 (by omega)
  rw [List.getElem?_eq_getElem (by omega)] at z0 z1
  simp only [cells24] at z0 z1
  obtain ⟨v0, p0, ps0, v01, v02, v03⟩ := arg_digs Tryz.underlying24 Tryz.underlying30 cells5 cells30 Tryz.underlying5 hsp z0
  obtain ⟨v1, p1, ps1, v11, v12, v13⟩ := arg_digs Tryz.underlying24 Tryz.underlying30 cells5 cells30 Tryz.underlying5 hsp z1
  obtain ⟨v2, rv, rows, v21, v22, v23, v24⟩ := arg_rows Tryz.underlying26 Tryz.underlying41 cells5 cells41 Tryz.underlying5 hsp h6
  obtain ⟨lucky, hly, _⟩ := DataW.trod_bool Tryz.underlying4 h7
  obtain ⟨z, hz', _, _⟩ := DataW.trod_int Tryz.underlying3 h8
  obtain ⟨va, al, psa, va1, va2, va3⟩ := arg_digs Tryz.underlying24 Tryz.underlying30 cells5 cells30 Tryz.underlying5 hsp h9
  have hmax : maxLen < 2 ^ 63 := by decide
  have ok : ∀ {v l}, ArgDig (oldOf W) v l → okCell v = true := fun h => by obtain ⟨_, _, h, _⟩ := h; rw [h]; rfl
  refine ⟨⟨os, oroot, hs, root, pf, n, l0, l1, p0, p1, rv, lucky, z, al⟩, psf, ps0, ps1, psa, rows, ?_, ⟨hor, hr, l01, l11, hos, hhs, hn, ok vf3, ok v03, ok v13, by obtain ⟨_, _, _, h, _⟩ := v23; rw [h]; rfl, ok va3⟩, vf3, v03, v13, va3, v23, by omega⟩
  have e2 : (cs.drop 68).take 64 = bytesVals l0 ++ bytesVals l1 := by
    rw [← l02, ← l12]
    generalize (cs.drop 68).take 64 = c at yl ⊢
    rw [cells47] at yl
    have := cut (l := c) 0 32
    have h2 : (c.drop 32).take 32 = c.drop 32 := List.take_of_length_le (by simp; omega)
    simp only [Nat.zero_mul, Nat.one_mul] at *
    rw [h2]
    simp
  have e3 : (cs.drop 132).take 2 = [v0] ++ [v1] := by
    rw [← v01, ← v11]
    generalize (cs.drop 132).take 2 = c at zl ⊢
    rw [cells48] at zl
    have := cut (l := c) 0 1
    have h2 : (c.drop 1).take 1 = c.drop 1 := List.take_of_length_le (by simp; omega)
    simp only [Nat.zero_mul, Nat.one_mul] at *
    rw [h2]
    simpa using this
  have e9 : cs.drop 137 = (cs.drop 137).take 1 := (List.take_of_length_le (by simp; omega)).symm
  have e : cs = (cs.drop 0).take 33 ++ ((cs.drop 33).take 33 ++ (((cs.drop 66).take 1 ++ (cs.drop 67).take 1) ++ ((cs.drop 68).take 64 ++ ((cs.drop 132).take 2 ++ ((cs.drop 134).take 1 ++ ((cs.drop 135).take 1 ++ ((cs.drop 136).take 1 ++ (cs.drop 137).take 1))))))) := by
    rw [List.append_assoc ((cs.drop 66).take 1), ← e9, ← cut 136 1, ← cut 135 1, ← cut 134 1, ← cut 132 2, ← cut 68 64, ← cut 67 1, ← cut 66 1, ← cut 33 33, ← cut 0 33]
    rfl
  rw [e, vf1, hn', e2, e3, v21, hly, hz', va1, en]
  unfold gC
  refine OldCells.app o0 (OldCells.app o1 (OldCells.app (OldCells.app (OldCells.one vf2) (OldCells.one rfl)) (OldCells.app (OldCells.app oldV_bytes oldV_bytes) (OldCells.app (OldCells.app (OldCells.one v02) (OldCells.one v12)) ?_))))
  exact OldCells.app (OldCells.one v22) (OldCells.app (OldCells.one rfl) (OldCells.app (OldCells.one rfl) (OldCells.one va2)))
end
end Go.Proofs.YtecbgdnoblhldaaGreatDoor.au
