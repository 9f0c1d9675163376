/-
  Steps of the proof of AuditFollowsCardSaid: what functions of the program do in the abstract machine, and the laws between; no condition beside those that each theorem names.
-/
import Derived.Test.YtecbgdnoblhldaaGreatDoorAuC
import Derived.Test.YtecbgdnoblhldaaGreatDoorLit

set_option linter.unusedSimpArgs false
set_option linter.unusedVariables false
set_option linter.unusedSectionVars false

namespace Go.Ab.Aud
open Go.Sha
/-- a new row of cells, then laid over -/
theorem arr_step {g : AHeap} {Z : ABlock} {n fz : Nat} {vs : List Value} (hZ : ABlock.cells (List.replicate n (bv 0)) (fz + 1) = Z) (hl : vs.length = n) (ok : vs.all okCell = true) :
    ∃ g', (g.push Z).put g.bs.length (.cells vs (fz + 1)) = g' ∧ (g.push Z).at g.bs.length = some Z ∧ g'.at g.bs.length = some (.cells vs (fz + 1)) ∧ g'.bs.length = g.bs.length + 1 ∧ g'.lo = g.lo ∧ Fr g g' (fun _ => False) :=
  ⟨_, rfl, push_self, put_self (by simp), by simp, rfl, Fr.push.put' (.inr (Nat.le_refl _))⟩
/-- two of them -/
theorem arr_two {g : AHeap} {Z : ABlock} {n fz : Nat} {vs ws : List Value} (hZ : ABlock.cells (List.replicate n (bv 0)) (fz + 1) = Z) (hl : vs.length = n) :
    ∃ g1 g', ((g.push Z).push Z).put g.bs.length (.cells vs (fz + 1)) = g1 ∧ g1.put (g.bs.length + 1) (.cells ws (fz + 1)) = g' ∧ ((g.push Z).push Z).at g.bs.length = some Z ∧ g1.at (g.bs.length + 1) = some Z ∧
      g'.at g.bs.length = some (.cells vs (fz + 1)) ∧ g'.at (g.bs.length + 1) = some (.cells ws (fz + 1)) ∧ g1.bs.length = g.bs.length + 2 ∧ g'.bs.length = g.bs.length + 2 ∧ g1.lo = g.lo ∧ g'.lo = g.lo ∧ Fr g g' (fun _ => False) := by
  refine ⟨_, _, rfl, rfl, by rw [push_lt (by simp)]; exact push_self, by rw [put_ne (by omega)]; exact push_self' (by simp), by rw [put_ne (by omega)]; exact put_self (by simp; omega), put_self (by simp), by simp, by simp, rfl, rfl, (Fr.push.push'.put' (.inr (Nat.le_refl _))).put' (.inr (by omega))⟩
theorem wr_arr {Z : ABlock} {n fz : Nat} {vs : List Value} (hZ : ABlock.cells (List.replicate n (bv 0)) (fz + 1) = Z) (hl : vs.length = n) (ok : vs.all okCell = true) (G : AHeap) (b : Nat) : wrN G b (some Z) 0 0 vs = some (G.put b (.cells vs (fz + 1))) := by
  rw [← hZ, wrN_cells (by simp [hl]) ok]
  congr 3
  simp [splice, hl]
theorem new_step {g : AHeap} {Z : ABlock} {c : List Value} {fz : Nat} {vs : List Value} (hZ : ABlock.cells c (fz + 1) = Z) :
    ∃ g', (g.push Z).put g.bs.length (.cells vs (fz + 1)) = g' ∧ (g.push Z).at g.bs.length = some Z ∧ g'.at g.bs.length = some (.cells vs (fz + 1)) ∧ g'.bs.length = g.bs.length + 1 ∧ g'.lo = g.lo ∧ Fr g g' (fun _ => False) :=
  ⟨_, rfl, push_self, put_self (by simp), by simp, rfl, Fr.push.put' (.inr (Nat.le_refl _))⟩
theorem wr_all {Z : ABlock} {c : List Value} {fz : Nat} {vs : List Value} (hZ : ABlock.cells c (fz + 1) = Z) (hl : vs.length = c.length) (ok : vs.all okCell = true) (G : AHeap) (b : Nat) : wrN G b (some Z) 0 0 vs = some (G.put b (.cells vs (fz + 1))) := by
  rw [← hZ, wrN_cells (by simp [hl]) ok]
  congr 3
  simp [splice, hl]
variable {C : Ctx} (T : Tab_LLog C) (TD : Tab_LDig C) (TW : Tab_LLaw C) (TG : Tab_LGrow C) (hk : ∀ j, j < 64 → C.old 0 j = some (wv (kW j)))
include TW TG in
theorem due_spec : ∀ (f m n : Nat) (w : Bool) (h : AHeap), m ≤ n → n ≤ 2 ^ f → f ≤ 64 → n < 18446744073709551616 → D C 31 [uv m, uv n, .bool w] h = some (iv (dueF f m n w), h) ∧ dueF f m n w ≤ f + 1 := by
  intro f
  induction f with
  | zero =>
    intro m n w h h1 h2 hf hn
    rw [D_fn3 TG.h31 _ rfl]
    suffices hs : R C r31 [.code b31] [uv m, uv n, .bool w] [] ⟨[], 0⟩ = some (iv (dueF 0 m n w), ⟨[], 0⟩) by
      refine ⟨?_, by unfold dueF; split <;> omega⟩
      rw [hs]; exact pur_some rfl
    simp at h2
    by_cases h0 : m = 0
    · simp [b31, h0, r31, dueF]
    · have : n ≤ m := by omega
      cases w <;> simp [b31, h0, this, r31, dueF]
  | succ f ih =>
    intro m n w h h1 h2 hf hn
    rw [D_fn3 TG.h31 _ rfl]
    suffices hs : R C r31 [.code b31] [uv m, uv n, .bool w] [] ⟨[], 0⟩ = some (iv (dueF (f + 1) m n w), ⟨[], 0⟩) ∧ dueF (f + 1) m n w ≤ f + 1 + 1 by
      refine ⟨?_, hs.2⟩
      rw [hs.1]; exact pur_some rfl
    unfold dueF
    by_cases h0 : m = 0
    · simp [b31, h0, r31]
    · by_cases hnm : n ≤ m
      · cases w <;> simp [b31, h0, hnm, r31]
      · have k1 := lft_lt (n := n) (by omega)
        have k3 := lft_pow (s := n) (f := f) (by omega) h2
        have k2 := lft_ge (n := n) (by omega)
        have hp : 2 ^ (f + 1) = 2 * 2 ^ f := by rw [Nat.pow_succ]; omega
        have e1 := half_spec TW ⟨[], 0⟩ n (by omega) hn
        by_cases hk : m ≤ lft n
        · obtain ⟨e2, b2⟩ := ih m (lft n) w ⟨[], 0⟩ hk k3 (by omega) (by omega)
          rw [if_neg (by omega), if_neg hnm, if_pos hk]
          refine ⟨?_, by omega⟩
          simp [b31, h0, hnm, Dc_ok, e1, hk, e2, iv_add (a := 1) (b := dueF f m (lft n) w) (by omega), r31]
          rw [Nat.add_comm]
        · obtain ⟨e2, b2⟩ := ih (m - lft n) (n - lft n) false ⟨[], 0⟩ (by omega) (by omega) (by omega) (by omega)
          rw [if_neg (by omega), if_neg hnm, if_neg hk]
          refine ⟨?_, by omega⟩
          simp [b31, h0, hnm, Dc_ok, e1, hk, e2, uv_sub (a := m) (b := lft n) (by omega) (by omega), uv_sub (a := n) (b := lft n) (by omega) (by omega), iv_add (a := 1) (b := dueF f (m - lft n) (n - lft n) false) (by omega), r31]
          rw [Nat.add_comm]

section
include T TD TW TG hk
theorem grown_base (m : Nat) (w : Bool) (old p0 : List UInt8) (ps : List (List UInt8)) (hp : w = false → ps.length = 1) (hp0 : ps.getD 0 [] = p0) (ho : old.length = 32) (h : AHeap) (a : Option Addr) (cp : Nat) (P : DigR C.old h a cp ps) (hwf : h.lo ≤ h.bs.length) :
    ∃ h', D C 34 [uv m, uv m, .bool w, .agg ⟨bytesVals old⟩, .slice a ps.length cp] h = some (.tuple #[.slice none 0 0, .agg ⟨bytesVals (if w = true then old else p0)⟩, .agg ⟨bytesVals (if w = true then old else p0)⟩], h') ∧ Fr h h' (fun _ => False) := by
  have hz : Value.int .u8 0 = bv 0 := rfl
  generalize hX : ABlock.cells (bytesVals old) 31 = X
  generalize hZ : ABlock.cells (List.replicate 32 (bv 0)) 31 = Z
  have hZ0 := hZ
  simp [List.replicate] at hZ
  generalize hA : ((h.push X).push Z).push Z = A
  have fA : Fr h A (fun _ => False) := by rw [← hA]; exact Fr.push.push'.push'
  have aL : A.bs.length = h.bs.length + 3 := by rw [← hA]; simp
  have aO := fA.lo
  have x0 : A.at h.bs.length = some X := by rw [← hA, push_lt (by simp; omega), push_lt (by simp)]; exact push_self
  have z1 : A.at (h.bs.length + 1) = some Z := by rw [← hA, push_lt (by simp)]; exact push_self' (by simp)
  have z2 : A.at (h.bs.length + 1 + 1) = some Z := by rw [← hA]; exact push_self' (by simp)
  have rx : rdN (some X) 0 0 32 = some (bytesVals old) := by rw [← hX]; exact rd32 ho
  have k1 : h.lo ≤ h.bs.length + 1 := by omega
  have k2 : h.lo ≤ h.bs.length + 1 + 1 := by omega
  have q1 : h.bs.length + 1 < A.bs.length := by omega
  have q2 : h.bs.length + 1 + 1 < A.bs.length := by omega
  rw [D_fn TG.h34]
  cases w
  · have hl := hp rfl
    obtain ⟨a', rfl, rp⟩ := P.get (i := 0) (by omega)
    have l0 := get32 P.2 (i := 0) (by omega)
    rw [hp0] at rp l0
    have PA := P.fr fA (fun _ _ h => h)
    obtain ⟨a2, h2, rp2⟩ := PA.get (i := 0) (by omega)
    cases h2
    rw [hp0] at rp2
    generalize hB : A.put (h.bs.length + 1) (.cells (bytesVals p0) 31) = B
    have fB : Fr h B (fun _ => False) := by rw [← hB]; exact fA.put' (.inr (by omega))
    have PB := P.fr fB (fun _ _ h => h)
    obtain ⟨a2, h2, rp3⟩ := PB.get (i := 0) (by omega)
    cases h2
    rw [hp0] at rp3
    have b2 : B.at (h.bs.length + 1 + 1) = some Z := by rw [← hB, put_ne (by omega)]; exact z2
    have bO := fB.lo
    have bL : B.bs.length = A.bs.length := by rw [← hB]; simp
    have b1 : B.at (h.bs.length + 1) = some (.cells (bytesVals p0) 31) := by rw [← hB]; exact put_self q1
    have w1 := wr_arr (n := 32) hZ0 (vs := bytesVals p0) (by simp [l0]) bytes_ok
    have q3 : h.bs.length + 1 + 1 < B.bs.length := by omega
    refine ⟨B.put (h.bs.length + 1 + 1) (.cells (bytesVals p0) 31), ?_, fB.put' (.inr (by omega))⟩
    have c1 : (B.put (h.bs.length + 1 + 1) (.cells (bytesVals p0) 31)).at (h.bs.length + 1) = some (.cells (bytesVals p0) 31) := by rw [put_ne (by omega)]; exact b1
    rw [hl] at *
    simp at rp rp2 rp3
    simp [b34, bytes_ok, hX, hz, hZ, hA, ixS_iv (show 0 < 1 by omega), rp2, rp3, z1, writeN_wr, aO, k1, w1, hB, b2, bO, k2, r34, resV, put_self, q3, c1, rd32 l0, l0]
  · generalize hB : A.put (h.bs.length + 1) X = B
    have fB : Fr h B (fun _ => False) := by rw [← hB]; exact fA.put' (.inr (by omega))
    have b0 : B.at h.bs.length = some X := by rw [← hB, put_ne (by omega)]; exact x0
    have b2 : B.at (h.bs.length + 1 + 1) = some Z := by rw [← hB, put_ne (by omega)]; exact z2
    have bO := fB.lo
    have bL : B.bs.length = A.bs.length := by rw [← hB]; simp
    have b1 : B.at (h.bs.length + 1) = some X := by rw [← hB]; exact put_self q1
    have w1 := wr_arr (n := 32) hZ0 (vs := bytesVals old) (by simp [ho]) bytes_ok
    simp only [hX] at w1
    have q3 : h.bs.length + 1 + 1 < B.bs.length := by omega
    refine ⟨B.put (h.bs.length + 1 + 1) X, ?_, fB.put' (.inr (by omega))⟩
    have c1 : (B.put (h.bs.length + 1 + 1) X).at (h.bs.length + 1) = some X := by rw [put_ne (by omega)]; exact b1
    simp [b34, bytes_ok, hX, hz, hZ, hA, x0, rx, b0, z1, writeN_wr, aO, k1, w1, hB, b2, bO, k2, r34, resV, put_self, q3, c1, ho]

set_option maxHeartbeats 8000000 in
theorem grown_spec : ∀ (f m n : Nat) (w : Bool) (old : List UInt8) (ps : List (List UInt8)), 0 < m → m ≤ n → n ≤ 2 ^ f → f ≤ 64 → n < 18446744073709551616 → ps.length = dueF f m n w → old.length = 32 → ∀ (h : AHeap) (a : Option Addr) (cp : Nat), DigR C.old h a cp ps → h.lo ≤ h.bs.length →
    ∃ h' v, D C 34 [uv m, uv n, .bool w, .agg ⟨bytesVals old⟩, .slice a ps.length cp] h = some (.tuple #[v, .agg ⟨bytesVals (grownF f m n w old ps).2.1⟩, .agg ⟨bytesVals (grownF f m n w old ps).2.2⟩], h') ∧ Pairs C.old h' h.bs.length v (grownF f m n w old ps).1 ∧ Fr h h' (fun _ => False) ∧ isUnd v = false ∧ (grownF f m n w old ps).1.length ≤ 2 * f := by
  intro f
  induction f with
  | zero =>
    intro m n w old ps h0 h1 h2 hf hn hl ho h a cp P hwf
    obtain rfl : m = n := by simp at h2; omega
    obtain ⟨h', e, f⟩ := grown_base T TD TW TG hk m w old (ps.getD 0 []) ps (fun hw => by subst hw; simpa [dueF, show ¬ m = 0 by omega] using hl) rfl ho h a cp P hwf
    refine ⟨h', .slice none 0 0, e.trans ?_, ?_, f, rfl, ?_⟩ <;> cases w <;> first | rfl | exact Pairs.nil | exact Nat.zero_le _
  | succ f ih =>
    intro m n w old ps h0 h1 h2 hf hn hl ho h a cp P hwf
    by_cases hmn : m = n
    · subst hmn
      obtain ⟨h', e, f⟩ := grown_base T TD TW TG hk m w old (ps.getD 0 []) ps (fun hw => by subst hw; simpa [dueF, show ¬ m = 0 by omega] using hl) rfl ho h a cp P hwf
      refine ⟨h', .slice none 0 0, e.trans ?_, ?_, f, rfl, ?_⟩ <;> unfold grownF <;> rw [if_pos rfl] <;> cases w <;> first | rfl | exact Pairs.nil | exact Nat.zero_le _
    · have k1 := lft_lt (n := n) (by omega)
      have k3 := lft_pow (s := n) (f := f) (by omega) h2
      have k2 := lft_ge (n := n) (by omega)
      have hpw : 2 ^ (f + 1) = 2 * 2 ^ f := by rw [Nat.pow_succ]; omega
      unfold dueF at hl
      rw [if_neg (show ¬ (m = 0 ∨ (n ≤ m ∧ w = true)) by omega), if_neg (show ¬ n ≤ m by omega)] at hl
      unfold grownF
      rw [if_neg hmn]
      rw [D_fn TG.h34]
      have hs1 : ¬ m = n := hmn
      have hp0 : ¬ ps.length = 0 := by split at hl <;> omega
      have hpl : ps.length ≤ 130 := by
        have := (due_spec TW TG (f + 1) m n w ⟨[], 0⟩ h1 h2 hf hn).2
        unfold dueF at this
        rw [if_neg (show ¬ (m = 0 ∨ (n ≤ m ∧ w = true)) by omega), if_neg (show ¬ n ≤ m by omega)] at this
        omega
      have hz : Value.int .u8 0 = bv 0 := rfl
      generalize hX : ABlock.cells (bytesVals old) 31 = X
      generalize hZ : ABlock.cells (List.replicate 32 (bv 0)) 31 = Z
      have hZ0 := hZ
      simp [List.replicate] at hZ
      generalize hZ2 : ABlock.cells (.slice none 0 0 :: List.replicate 32 (bv 0)) 159 = Z2
      have hZ20 := hZ2
      simp [List.replicate] at hZ2
      generalize hA : ((h.push X).push Z).push Z = A
      have fA : Fr h A (fun _ => False) := by rw [← hA]; exact Fr.push.push'.push'
      have aL : A.bs.length = h.bs.length + 3 := by rw [← hA]; simp
      have aO := fA.lo
      have x0 : A.at h.bs.length = some X := by rw [← hA, push_lt (by simp; omega), push_lt (by simp)]; exact push_self
      have z1 : A.at (h.bs.length + 1) = some Z := by rw [← hA, push_lt (by simp)]; exact push_self' (by simp)
      have z2 : A.at (h.bs.length + 1 + 1) = some Z := by rw [← hA]; exact push_self' (by simp)
      have rx : rdN (some X) 0 0 32 = some (bytesVals old) := by rw [← hX]; exact rd32 ho
      have hlo1 : h.lo ≤ h.bs.length + 1 := by omega
      have hloA : h.lo ≤ A.bs.length := by omega
      have e1 := half_spec TW A n (by omega) hn
      have PA : DigR C.old A a cp ps := P.fr fA (fun _ _ h => h)
      obtain ⟨a', rfl, rp⟩ := PA.get (i := ps.length - 1) (by omega)
      have lp := get32 P.2 (i := ps.length - 1) (by omega)
      generalize hla : ps.getD (ps.length - 1) [] = last at rp lp
      obtain ⟨B, hB, z14, b14, bL, bO, fB⟩ := arr_step (g := A) (vs := bytesVals last) hZ0 (by simp [lp]) bytes_ok
      have w14 := wr_arr (n := 32) hZ0 (vs := bytesVals last) (by simp [lp]) bytes_ok
      have rl14 : rdN (some (.cells (bytesVals last) 31)) 0 0 32 = some (bytesVals last) := rd32 lp
      have PB : DigR C.old B (some a') cp ps := PA.fr fB (fun _ _ h => h)
      obtain ⟨a2, cp2, sl, P2, lv2⟩ := PB.lower (ps.length - 1) (by omega)
      have hl2 : (ps.take (ps.length - 1)).length = ps.length - 1 := by simp
      have x1 : B.at h.bs.length = some X := fB.get x0 (fun h => h)
      by_cases hlt : m ≤ lft n
      · rw [if_pos hlt] at hl ⊢
        have hl' : (ps.take (ps.length - 1)).length = dueF f m (lft n) w := by simp; omega
        have g32 := grown_32 f m (lft n) w old (ps.take (ps.length - 1)) h0 hlt k3 hl' ho (mem_take32 P.2 _)
        obtain ⟨D1, v, e2, p2, f2, u2, c2⟩ := ih m (lft n) w old (ps.take (ps.length - 1)) h0 hlt k3 (by omega) (by omega) hl' ho B a2 cp2 P2 (by omega)
        rw [hl2] at e2
        generalize grownF f m (lft n) w old (ps.take (ps.length - 1)) = r at e2 p2 g32 c2 ⊢
        obtain ⟨rl, ra, rb⟩ := r
        simp only at e2 p2 g32 c2 ⊢
        obtain ⟨ga, gb⟩ := g32
        have dL := f2.len
        have dO := f2.lo
        obtain ⟨E1, E, hE1, hE, e17, e18, E17, E18, eL1, eL, eO1, eO, fE⟩ := arr_two (g := D1) (vs := bytesVals ra) (ws := bytesVals rb) hZ0 (by simp [ga])
        have wa := wr_arr (n := 32) hZ0 (vs := bytesVals ra) (by simp [ga]) bytes_ok
        have wb := wr_arr (n := 32) hZ0 (vs := bytesVals rb) (by simp [gb]) bytes_ok
        have E14 : E.at A.bs.length = some (.cells (bytesVals last) 31) := fE.get (f2.get b14 (fun h => h)) (fun h => h)
        have hloD : h.lo ≤ D1.bs.length := by omega
        have hloD1 : h.lo ≤ D1.bs.length + 1 := by omega

        obtain ⟨G, na, ncp, e3, s3, f3, lv3⟩ := lnode_spec T TD TW hk E rb last gb lp (by omega)
        simp only [gL, nd]
        have dl := sha_length (1 :: (rb ++ last))
        have ofl : (1 :: (rb ++ last) : List UInt8).length = 65 := by simp [gb, lp]
        generalize (1 :: (rb ++ last) : List UInt8) = of at e3 s3 dl ofl ⊢
        generalize sha of = dg at e3 dl ⊢
        have gLn := f3.len
        have gO := f3.lo
        obtain ⟨H, hH, z19, H19, hL, hO, fH⟩ := new_step (g := G) (vs := .slice na 65 ncp :: bytesVals dg) hZ20
        have w4 := wr_all hZ20 (vs := .slice na 65 ncp :: bytesVals dg) (by simp [dl]) (by rw [List.all_cons, bytes_ok]; rfl)
        have rp1 : rdN (some (.cells (.slice na 65 ncp :: bytesVals dg) 159)) 0 0 33 = some (.slice na 65 ncp :: bytesVals dg) := by
          rw [rdN_cells (by simp [dl]), List.drop_zero, List.take_of_length_le (by simp [dl])]
        have rp2 : rdN (some (.cells (.slice na 65 ncp :: bytesVals dg) 159)) 1 0 32 = some (bytesVals dg) := by
          rw [rdN_cells (by simp [dl]), List.drop_succ_cons, List.drop_zero, List.take_of_length_le (by simp [dl])]
        have fDH : Fr D1 H (fun _ => False) := (fE.trans f3 (S'' := fun _ => False) (fun _ h => h) (fun _ h _ => h)).trans fH (fun _ h => h) (fun _ h _ => h)
        have pH : Pairs C.old H B.bs.length v rl := p2.fr fDH (fun _ _ _ h => h)
        have vb1 : ∀ j, blkOf v = some j → j < D1.bs.length := by
          obtain ⟨L, _, o, _, _⟩ := p2
          exact fun j hj => o.blk hj
        have vq : ∀ j, blkOf v = some j → B.bs.length ≤ j := by
          obtain ⟨L, _, _, b, _⟩ := p2
          exact b
        rw [← ofl] at s3 lv3
        obtain ⟨v', K, e5, p5, f5, b5, l5⟩ := pair_one (q := B.bs.length) pH (by omega) (by omega) (s3.fr fH (fun _ _ h => h)) dl E.bs.length (by omega) (fun j hj => by have := vb1 j hj; omega) (fun j hj => lv3 j hj) (by omega)
        rw [ofl] at e5
        have fAK : Fr A K (fun j => B.bs.length ≤ j) := (((fB.mono (S' := fun j => B.bs.length ≤ j) (fun _ h _ => h.elim)).trans f2 (S'' := fun j => B.bs.length ≤ j) (fun _ h => h) (fun _ h _ => h.elim)).trans fDH (S'' := fun j => B.bs.length ≤ j) (fun _ h => h) (fun _ h _ => h.elim)).trans f5 (fun _ h => h) (fun j hj _ => vq j hj)
        have K11 : K.at (h.bs.length + 1) = some Z := fAK.get z1 (by omega)
        have K12 : K.at (h.bs.length + 1 + 1) = some Z := fAK.get z2 (by omega)
        have kO := fAK.lo
        have kL := fAK.len
        have H17 : H.at D1.bs.length = some (.cells (bytesVals ra) 31) := fH.get (f3.get E17 (fun h => h)) (fun h => h)
        have H17' : (H.push (.cells (.slice na 65 ncp :: bytesVals dg) 159)).at D1.bs.length = some (.cells (bytesVals ra) 31) := push_old H17
        have H19' : (H.push (.cells (.slice na 65 ncp :: bytesVals dg) 159)).at G.bs.length = some (.cells (.slice na 65 ncp :: bytesVals dg) 159) := push_old H19
        have K17 : K.at D1.bs.length = some (.cells (bytesVals ra) 31) := f5.get H17 (fun hj => by have := vb1 _ hj; omega)
        have K19 : K.at G.bs.length = some (.cells (.slice na 65 ncp :: bytesVals dg) 159) := f5.get H19 (fun hj => by have := vb1 _ hj; omega)
        have vU : isUnd v' = false := by obtain ⟨L, _, o, _, _⟩ := p5; exact o.und
        generalize hM : K.put (h.bs.length + 1) (.cells (bytesVals ra) 31) = M
        have fM : Fr K M (fun j => j = h.bs.length + 1) := by rw [← hM]; exact Fr.put rfl
        have M19 : M.at G.bs.length = some (.cells (.slice na 65 ncp :: bytesVals dg) 159) := fM.get K19 (by omega)
        have M12 : M.at (h.bs.length + 1 + 1) = some Z := fM.get K12 (by omega)
        have M11 : M.at (h.bs.length + 1) = some (.cells (bytesVals ra) 31) := by rw [← hM]; exact put_self (by omega)
        have mL : M.bs.length = K.bs.length := by rw [← hM]; simp
        have mO := fM.lo
        have wd := wr_arr (n := 32) hZ0 (vs := bytesVals dg) (by simp [dl]) bytes_ok
        have zsp : splice (.slice none 0 0 :: List.replicate 32 (bv 0)) 0 (.slice na 65 ncp :: bytesVals dg) = .slice na 65 ncp :: bytesVals dg := by simp [splice, dl]
        simp [List.replicate] at zsp
        have hloG : h.lo ≤ G.bs.length := by omega
        have hl2' : h.lo ≤ h.bs.length + 1 + 1 := by omega
        have N11 : (M.put (h.bs.length + 1 + 1) (.cells (bytesVals dg) 31)).at (h.bs.length + 1) = some (.cells (bytesVals ra) 31) := by rw [put_ne (by omega)]; exact M11
        have qM : h.bs.length + 1 + 1 < M.bs.length := by omega
        refine ⟨M.put (h.bs.length + 1 + 1) (.cells (bytesVals dg) 31), v', ?_, ?_, ?_, vU, by simp; omega⟩
        · simp [b34, bytes_ok, hX, hz, hZ, hA, hs1, hp0, Dc_ok, e1, iv_sub (a := ps.length) (b := 1) (by omega) (by omega), ixS_iv (show ps.length - 1 < ps.length by omega), rp, writeN_wr, aO, hloA, z14, lp, w14, hB, eq_true hlt, x1, rx, sl, e2, stp_ok u2, u2, e17, ga, wa, hE1, e18, gb, wb, hE, dO, bO, hloD, hloD1, eO1, eO, E18, E14, rd32 gb, rl14, e3, hZ2, z19, w4, hH, gO, hO, hloG, dl, H19, H17, rp1, rd32 ga, rp2, fillCells, zsp, e5, K17, K19, K11, kO, hlo1, hM, M19, M12, mO, hl2', wd, H17', H19', vU, r34, resV, put_self, qM, N11, rd32 dl]
        · exact ((p5.fr fM (fun j hj _ hc => by omega)).fr (Fr.put (S := fun j => j = h.bs.length + 1 + 1) rfl) (fun j hj _ hc => by omega)).mono (by omega)
        · exact ((fA.trans fAK (S'' := fun _ => False) (fun _ h => h) (fun j hj hl => by omega)).trans fM (S'' := fun _ => False) (fun _ h => h) (fun j hj hl => by omega)).put' (.inr (by omega))

      · rw [if_neg hlt] at hl ⊢
        have hl' : (ps.take (ps.length - 1)).length = dueF f (m - lft n) (n - lft n) false := by simp; omega
        have g32 := grown_32 f (m - lft n) (n - lft n) false old (ps.take (ps.length - 1)) (by omega) (by omega) (by omega) hl' ho (mem_take32 P.2 _)
        obtain ⟨D1, v, e2, p2, f2, u2, c2⟩ := ih (m - lft n) (n - lft n) false old (ps.take (ps.length - 1)) (by omega) (by omega) (by omega) (by omega) (by omega) hl' ho B a2 cp2 P2 (by omega)
        rw [hl2] at e2
        generalize grownF f (m - lft n) (n - lft n) false old (ps.take (ps.length - 1)) = r at e2 p2 g32 c2 ⊢
        obtain ⟨rl, ra, rb⟩ := r
        simp only at e2 p2 g32 c2 ⊢
        obtain ⟨ga, gb⟩ := g32
        have dL := f2.len
        have dO := f2.lo
        obtain ⟨E1, E, hE1, hE, e17, e18, E17, E18, eL1, eL, eO1, eO, fE⟩ := arr_two (g := D1) (vs := bytesVals ra) (ws := bytesVals rb) hZ0 (by simp [ga])
        have wa := wr_arr (n := 32) hZ0 (vs := bytesVals ra) (by simp [ga]) bytes_ok
        have wb := wr_arr (n := 32) hZ0 (vs := bytesVals rb) (by simp [gb]) bytes_ok
        have E14 : E.at A.bs.length = some (.cells (bytesVals last) 31) := fE.get (f2.get b14 (fun h => h)) (fun h => h)
        have hloD : h.lo ≤ D1.bs.length := by omega
        have hloD1 : h.lo ≤ D1.bs.length + 1 := by omega
        obtain ⟨G, na, ncp, e3, s3, f3, lv3⟩ := lnode_spec T TD TW hk E last ra lp ga (by omega)
        simp only [gR, nd]
        have dl := sha_length (1 :: (last ++ ra))
        have ofl : (1 :: (last ++ ra) : List UInt8).length = 65 := by simp [ga, lp]
        generalize (1 :: (last ++ ra) : List UInt8) = of at e3 s3 dl ofl ⊢
        generalize sha of = dg at e3 dl ⊢
        have gLn := f3.len
        have gO := f3.lo
        obtain ⟨H, hH, z19, H19, hL, hO, fH⟩ := new_step (g := G) (vs := .slice na 65 ncp :: bytesVals dg) hZ20
        have w4 := wr_all hZ20 (vs := .slice na 65 ncp :: bytesVals dg) (by simp [dl]) (by rw [List.all_cons, bytes_ok]; rfl)
        have H14 : H.at A.bs.length = some (.cells (bytesVals last) 31) := fH.get (f3.get E14 (fun h => h)) (fun h => h)
        have H18 : H.at (D1.bs.length + 1) = some (.cells (bytesVals rb) 31) := fH.get (f3.get E18 (fun h => h)) (fun h => h)
        obtain ⟨G', na', ncp', e3', s3', f3', lv3'⟩ := lnode_spec T TD TW hk H last rb lp gb (by omega)
        have dl' := sha_length (1 :: (last ++ rb))
        have ofl' : (1 :: (last ++ rb) : List UInt8).length = 65 := by simp [gb, lp]
        generalize (1 :: (last ++ rb) : List UInt8) = of' at e3' s3' dl' ofl' ⊢
        generalize sha of' = dg' at e3' dl' ⊢
        have gLn' := f3'.len
        have gO' := f3'.lo
        obtain ⟨J, hJ, z24, J24, jL, jO, fJ⟩ := new_step (g := G') (vs := .slice na' 65 ncp' :: bytesVals dg') hZ20
        have w5 := wr_all hZ20 (vs := .slice na' 65 ncp' :: bytesVals dg') (by simp [dl']) (by rw [List.all_cons, bytes_ok]; rfl)
        have rp1 : rdN (some (.cells (.slice na 65 ncp :: bytesVals dg) 159)) 0 0 33 = some (.slice na 65 ncp :: bytesVals dg) := by
          rw [rdN_cells (by simp [dl]), List.drop_zero, List.take_of_length_le (by simp [dl])]
        have rp2 : rdN (some (.cells (.slice na 65 ncp :: bytesVals dg) 159)) 1 0 32 = some (bytesVals dg) := by
          rw [rdN_cells (by simp [dl]), List.drop_succ_cons, List.drop_zero, List.take_of_length_le (by simp [dl])]
        have rp3 : rdN (some (.cells (.slice na' 65 ncp' :: bytesVals dg') 159)) 0 0 33 = some (.slice na' 65 ncp' :: bytesVals dg') := by
          rw [rdN_cells (by simp [dl']), List.drop_zero, List.take_of_length_le (by simp [dl'])]
        have rp4 : rdN (some (.cells (.slice na' 65 ncp' :: bytesVals dg') 159)) 1 0 32 = some (bytesVals dg') := by
          rw [rdN_cells (by simp [dl']), List.drop_succ_cons, List.drop_zero, List.take_of_length_le (by simp [dl'])]
        have fHJ : Fr H J (fun _ => False) := f3'.trans fJ (fun _ h => h) (fun _ h _ => h)
        have fDH : Fr D1 J (fun _ => False) := ((fE.trans f3 (S'' := fun _ => False) (fun _ h => h) (fun _ h _ => h)).trans fH (S'' := fun _ => False) (fun _ h => h) (fun _ h _ => h)).trans fHJ (fun _ h => h) (fun _ h _ => h)
        have J19 : J.at G.bs.length = some (.cells (.slice na 65 ncp :: bytesVals dg) 159) := fHJ.get H19 (fun h => h)
        have pJ : Pairs C.old J B.bs.length v rl := p2.fr fDH (fun _ _ _ h => h)
        have vb1 : ∀ j, blkOf v = some j → j < D1.bs.length := by
          obtain ⟨L, _, o, _, _⟩ := p2
          exact fun j hj => o.blk hj
        have vq : ∀ j, blkOf v = some j → B.bs.length ≤ j := by
          obtain ⟨L, _, _, b, _⟩ := p2
          exact b
        generalize hPC : (Value.slice na 65 ncp :: bytesVals dg) ++ (Value.slice na' 65 ncp' :: bytesVals dg') = PC
        have pok : ∀ x, x ∈ PC → okCell x = true := by
          rw [← List.all_eq_true, ← hPC, List.all_append, List.all_cons, List.all_cons, bytes_ok, bytes_ok]; rfl
        have pcl : PC.length = 66 := by rw [← hPC]; simp [dl, dl']
        have fP : Fr J (J.push (.cells PC 159)) (fun _ => False) := Fr.push
        rw [← ofl] at s3 lv3
        rw [← ofl'] at s3' lv3'
        have hpc : pcells [(.slice na of.length ncp, of, dg), (.slice na' of'.length ncp', of', dg')] = PC := by rw [← hPC, ofl, ofl']; simp [pcells]
        obtain ⟨v', K, e5, p5, f5, b5⟩ := pairs_append (old := C.old) (w := .slice (some ⟨J.bs.length, 0, some 0⟩) 2 2) (q := B.bs.length) (q' := E.bs.length) (pJ.fr fP (fun _ _ _ h => h)) (by simp; omega) (by simp; omega) (by omega) (fun j hj => by have := vb1 j hj; omega)
          [(.slice na of.length ncp, of, dg), (.slice na' of'.length ncp', of', dg')] rfl rfl
          (fun _ => by
            simp only [srcCells]
            rw [hpc, readN_rd, push_self, rdN_cells (by simp [pcl]), List.drop_zero, List.take_of_length_le (by simp [pcl])])
          (fun x hx => by
            simp only [List.mem_cons, List.not_mem_nil, or_false] at hx
            rcases hx with rfl | rfl
            · exact ⟨na, ncp, rfl, ((s3.fr fH (fun _ _ h => h)).fr fHJ (fun _ _ h => h)).fr fP (fun _ _ h => h), dl, fun j hj => ⟨lv3 j hj, fun hc => by cases hc⟩⟩
            · exact ⟨na', ncp', rfl, (s3'.fr fJ (fun _ _ h => h)).fr fP (fun _ _ h => h), dl', fun j hj => ⟨by have := lv3' j hj; omega, fun hc => by cases hc⟩⟩) (by simp; omega)
        have f5' : Fr J K (fun j => blkOf v = some j) := fP.trans f5 (fun _ h => h.elim) (fun _ h _ => h)
        have fAK : Fr A K (fun j => B.bs.length ≤ j) := (((fB.mono (S' := fun j => B.bs.length ≤ j) (fun _ h _ => h.elim)).trans f2 (S'' := fun j => B.bs.length ≤ j) (fun _ h => h) (fun _ h _ => h.elim)).trans fDH (S'' := fun j => B.bs.length ≤ j) (fun _ h => h) (fun _ h _ => h.elim)).trans f5' (fun _ h => h) (fun j hj _ => vq j hj)
        have K11 : K.at (h.bs.length + 1) = some Z := fAK.get z1 (by omega)
        have K12 : K.at (h.bs.length + 1 + 1) = some Z := fAK.get z2 (by omega)
        have kO := fAK.lo
        have kL := fAK.len
        have J19' : (J.push (.cells PC 159)).at G.bs.length = some (.cells (.slice na 65 ncp :: bytesVals dg) 159) := push_old J19
        have J24' : (J.push (.cells PC 159)).at G'.bs.length = some (.cells (.slice na' 65 ncp' :: bytesVals dg') 159) := push_old J24
        have K19 : K.at G.bs.length = some (.cells (.slice na 65 ncp :: bytesVals dg) 159) := f5'.get J19 (fun hj => by have := vb1 _ hj; omega)
        have K24 : K.at G'.bs.length = some (.cells (.slice na' 65 ncp' :: bytesVals dg') 159) := f5'.get J24 (fun hj => by have := vb1 _ hj; omega)
        have vU : isUnd v' = false := by obtain ⟨L, _, o, _, _⟩ := p5; exact o.und
        generalize hM : K.put (h.bs.length + 1) (.cells (bytesVals dg) 31) = M
        have fM : Fr K M (fun j => j = h.bs.length + 1) := by rw [← hM]; exact Fr.put rfl
        have M24 : M.at G'.bs.length = some (.cells (.slice na' 65 ncp' :: bytesVals dg') 159) := fM.get K24 (by omega)
        have M12 : M.at (h.bs.length + 1 + 1) = some Z := fM.get K12 (by omega)
        have M11 : M.at (h.bs.length + 1) = some (.cells (bytesVals dg) 31) := by rw [← hM]; exact put_self (by omega)
        have mL : M.bs.length = K.bs.length := by rw [← hM]; simp
        have mO := fM.lo
        have wd := wr_arr (n := 32) hZ0 (vs := bytesVals dg) (by simp [dl]) bytes_ok
        have wd' := wr_arr (n := 32) hZ0 (vs := bytesVals dg') (by simp [dl']) bytes_ok
        have zsp : splice (splice ((.slice none 0 0 :: List.replicate 32 (bv 0)) ++ (.slice none 0 0 :: List.replicate 32 (bv 0))) 0 (.slice na 65 ncp :: bytesVals dg)) 33 (.slice na' 65 ncp' :: bytesVals dg') = PC := by rw [← hPC]; simp [splice, dl, dl']
        have zspl : (splice ((.slice none 0 0 :: List.replicate 32 (bv 0)) ++ (.slice none 0 0 :: List.replicate 32 (bv 0))) 0 (.slice na 65 ncp :: bytesVals dg)).length = 66 := by simp [splice, dl]
        simp [List.replicate] at zsp zspl
        have hloG : h.lo ≤ G.bs.length := by omega
        have hloG' : h.lo ≤ G'.bs.length := by omega
        have hl2' : h.lo ≤ h.bs.length + 1 + 1 := by omega
        have N11 : (M.put (h.bs.length + 1 + 1) (.cells (bytesVals dg') 31)).at (h.bs.length + 1) = some (.cells (bytesVals dg) 31) := by rw [put_ne (by omega)]; exact M11
        have qM : h.bs.length + 1 + 1 < M.bs.length := by omega
        refine ⟨M.put (h.bs.length + 1 + 1) (.cells (bytesVals dg') 31), v', ?_, ?_, ?_, vU, by simp; omega⟩
        · simp [b34, bytes_ok, hX, hz, hZ, hA, hs1, Dc_ok, e1, iv_sub (a := ps.length) (b := 1) (by omega) (by omega), ixS_iv (show ps.length - 1 < ps.length by omega), rp, writeN_wr, aO, hloA, z14, lp, w14, hB, eq_false hlt, x1, rx, sl, e2, stp_ok u2, u2, e17, ga, wa, hE1, e18, gb, wb, hE, dO, bO, hloD, hloD1, eO1, eO, E17, E14, rd32 ga, rl14, e3, hZ2, z19, w4, hH, gO, hO, hloG, dl, H14, H18, rd32 gb, e3', z24, w5, hJ, gO', jO, hloG', dl', J19, J24, rp1, rp2, rp3, rp4, fillCells, zsp, zspl, eq_true pok, e5, K19, K24, K11, kO, hlo1, hM, M24, M12, mO, hl2', wd, wd', J19', J24', vU, r34, resV, put_self, qM, N11, rd32 dl, rd32 dl', uv_sub (a := m) (b := lft n) (by omega) (by omega), uv_sub (a := n) (b := lft n) (by omega) (by omega)]
        · exact ((p5.fr fM (fun j hj _ hc => by omega)).fr (Fr.put (S := fun j => j = h.bs.length + 1 + 1) rfl) (fun j hj _ hc => by omega)).mono (by omega)
        · exact ((fA.trans fAK (S'' := fun _ => False) (fun _ h => h) (fun j hj hl => by omega)).trans fM (S'' := fun _ => False) (fun _ h => h) (fun j hj hl => by omega)).put' (.inr (by omega))
end
end Go.Ab.Aud

namespace Go.Ab.Aud
open Go.Sha
theorem wr_part {c A B B' D : List Value} {o fz b : Nat} {h : AHeap} (e : c = A ++ (B ++ D)) (hA : A.length = o) (hB : B'.length = B.length) (ok : B'.all okCell = true) : wrN h b (some (.cells c (fz + 1))) o 0 B' = some (h.put b (.cells (A ++ (B' ++ D)) (fz + 1))) := by
  rw [wrN_cells (by rw [e]; simp; omega) ok, e]
  congr 3
  subst hA
  simp [splice, hB]
def s1 : ACode → ACode
  | .seq a _ => a
  | _ => .skip
def s2 : ACode → ACode
  | .seq _ b => b
  | _ => .skip
def blkIn : ACode → ACode
  | .block _ b => b
  | _ => .skip
theorem R_split {C : Ctx} {rs : List ARes} {k : List AItem} {t : List Value} {ds : List ADefer} {h : AHeap} {c a b : ACode} (e : c = .seq a b) : R C rs (.code c :: k) t ds h = R C rs (.code (s1 c) :: .code (s2 c) :: k) t ds h := by
  subst e; exact R_seq
theorem grownF_of : ∀ (f m n : Nat) (w : Bool) (old : List UInt8) (ps : List (List UInt8)), 0 < m → m ≤ n → n ≤ 2 ^ f → ps.length = dueF f m n w → old.length = 32 → (∀ x, x ∈ ps → x.length = 32) → ∀ x, x ∈ (grownF f m n w old ps).1 → x.1.length = 65
  | 0, m, n, w, old, ps, h0, h1, h2, hl, ho, hps, x, hx => by
    unfold grownF at hx
    cases w <;> simp at hx
  | f + 1, m, n, w, old, ps, h0, h1, h2, hl, ho, hps, x, hx => by
    unfold grownF at hx
    by_cases h : m = n
    · rw [if_pos h] at hx
      cases w <;> simp at hx
    · have k1 := lft_lt (n := n) (by omega)
      have k3 := lft_pow (s := n) (f := f) (by omega) h2
      have k2 := lft_ge (n := n) (by omega)
      have hp : 2 ^ (f + 1) = 2 * 2 ^ f := by rw [Nat.pow_succ]; omega
      unfold dueF at hl
      rw [if_neg (show ¬ (m = 0 ∨ (n ≤ m ∧ w = true)) by omega), if_neg (show ¬ n ≤ m by omega)] at hl
      rw [if_neg h] at hx
      have g := get32 hps (i := ps.length - 1) (by split at hl <;> omega)
      by_cases hk : m ≤ lft n
      · rw [if_pos hk] at hl hx
        have hl' : (ps.take (ps.length - 1)).length = dueF f m (lft n) w := by simp; omega
        have r := grown_32 f m (lft n) w old (ps.take (ps.length - 1)) h0 hk k3 hl' ho (mem_take32 hps _)
        have ih := grownF_of f m (lft n) w old (ps.take (ps.length - 1)) h0 hk k3 hl' ho (mem_take32 hps _)
        simp only [gL] at hx
        rcases List.mem_append.1 hx with hx | hx
        · exact ih x hx
        · rw [List.mem_singleton] at hx; subst hx
          show (1 :: (_ ++ _) : List UInt8).length = 65
          rw [List.length_cons, List.length_append, r.2, g]
      · rw [if_neg hk] at hl hx
        have hl' : (ps.take (ps.length - 1)).length = dueF f (m - lft n) (n - lft n) false := by simp; omega
        have r := grown_32 f (m - lft n) (n - lft n) false old (ps.take (ps.length - 1)) (by omega) (by omega) (by omega) hl' ho (mem_take32 hps _)
        have ih := grownF_of f (m - lft n) (n - lft n) false old (ps.take (ps.length - 1)) (by omega) (by omega) (by omega) hl' ho (mem_take32 hps _)
        simp only [gR] at hx
        rcases List.mem_append.1 hx with hx | hx
        · exact ih x hx
        · simp only [List.mem_cons, List.not_mem_nil, or_false] at hx
          rcases hx with rfl | rfl
          · show (1 :: (_ ++ _) : List UInt8).length = 65
            rw [List.length_cons, List.length_append, r.1, g]
          · show (1 :: (_ ++ _) : List UInt8).length = 65
            rw [List.length_cons, List.length_append, r.2, g]
/-- two rows behind one another, whatever their order in memory -/
theorem pairs_app2 {old : Old} {h : AHeap} {q : Nat} {v w : Value} {l l' : List (List UInt8 × List UInt8)} (H : Pairs old h q v l) (hlo : h.lo ≤ h.bs.length) (hq : q ≤ h.bs.length)
    (L' : List PT) (hL' : L'.map (·.2) = l') (hw : srcLen w = some L'.length) (hs : L'.length ≠ 0 → srcCells old h 33 L'.length w = some (pcells L')) (hP : ∀ x, x ∈ L' → POk old h q w x) (hne : ∀ x, x ∈ L' → ∀ j, Live x.1 j → blkOf v ≠ some j) (hb : l.length + l'.length < 2 ^ 20) :
    ∃ v' h', appendV old h 158 33 56 v w = some (v', h') ∧ Pairs old h' q v' (l ++ l') ∧ Fr h h' (fun j => blkOf v = some j) ∧ (blkOf v' = blkOf v ∨ blkOf v' = some h.bs.length) := by
  obtain ⟨L, e, o, b, p⟩ := H
  have hL : L.length = l.length := by rw [← e]; simp
  have hLl : L'.length = l'.length := by rw [← hL']; simp
  obtain ⟨v', h', e1, o1, f1, b1⟩ := append_own (old := old) (bytes := 56) (x := w) (m := L'.length) (new := pcells L') o (by omega) hw hs
    (fun h0 => by rw [List.eq_nil_of_length_eq_zero h0]; rfl)
    (pcells_len fun x hx => by obtain ⟨_, _, _, _, h3, _⟩ := hP x hx; exact h3) (pcells_ok fun x hx => (hP x hx).ok) (by simp [sizeLim]; omega) hlo
  refine ⟨v', h', e1, ⟨L ++ L', by rw [List.map_append, e, hL'], ?_, fun j hj => ?_, fun x hx => ?_⟩, f1, b1⟩
  · have : pcells (L ++ L') = pcells L ++ pcells L' := by simp [pcells]
    rw [List.length_append, this]; exact o1
  · rcases b1 with b1 | b1
    · exact b j (by rw [← b1]; exact hj)
    · rw [b1] at hj; cases hj; exact hq
  · rcases List.mem_append.1 hx with hx | hx
    · obtain ⟨a, cp, h1, h2, h3, h4⟩ := p x hx
      refine ⟨a, cp, h1, h2.fr f1 (by rw [← h1]; exact fun j hj => (h4 j hj).2), h3, fun j hj => ⟨(h4 j hj).1, ?_⟩⟩
      rcases b1 with b1 | b1
      · rw [b1]; exact (h4 j hj).2
      · rw [b1]; intro hc; cases hc
        have := h2.live_lt (by rw [← h1]; exact hj); omega
    · obtain ⟨a, cp, h1, h2, h3, h4⟩ := hP x hx
      have hne := hne x hx
      refine ⟨a, cp, h1, h2.fr f1 (by rw [← h1]; exact hne), h3, fun j hj => ⟨(h4 j hj).1, ?_⟩⟩
      rcases b1 with b1 | b1
      · rw [b1]; exact hne j hj
      · rw [b1]; intro hc; cases hc
        have := h2.live_lt (by rw [← h1]; exact hj); omega
theorem DigV.und {old : Old} {h : AHeap} {v : Value} {l : List (List UInt8)} (H : DigV old h v l) : isUnd v = false := by obtain ⟨a, cp, rfl, _⟩ := H; rfl
theorem DigV.okc {old : Old} {h : AHeap} {v : Value} {l : List (List UInt8)} (H : DigV old h v l) : okCell v = true := by obtain ⟨a, cp, rfl, _⟩ := H; rfl
theorem DigV.lenV {old : Old} {h : AHeap} {v : Value} {l : List (List UInt8)} (H : DigV old h v l) : lenV v = some (iv l.length) := by obtain ⟨a, cp, rfl, _⟩ := H; rfl
theorem zv_rem {z : Int} {n : Nat} (hn : 0 < n) : abin .rem (zv z) (iv n) = some (zv (z.tmod n)) := by
  unfold zv iv
  simp only [abin, abinI, if_true]
  rw [if_neg (by omega)]
theorem zv_add {a : Int} {b : Nat} (ha : -2 ^ 62 < a) (ha2 : a < 2 ^ 62) (hb : b < 2 ^ 61) : abin .add (zv a) (iv b) = some (zv (a + b)) := by
  unfold zv iv
  simp only [abin, abinI, if_true]
  congr 2
  exact wrapi64 _ (by omega) (by omega)
/-- a number within n -/
def wi (z : Int) (n : Nat) : Nat := (z % n).toNat
theorem wi_lt {z : Int} {n : Nat} (hn : 0 < n) : wi z n < n := by
  unfold wi
  have := Int.emod_lt_of_pos z (show (0 : Int) < n by omega)
  have := Int.emod_nonneg z (show (n : Int) ≠ 0 by omega)
  omega
theorem wi_tmod {z : Int} {n : Nat} (hn : 0 < n) : (wi z n : Int) = if z.tmod n < 0 then z.tmod n + n else z.tmod n := by
  unfold wi
  have h1 := Int.emod_nonneg z (show (n : Int) ≠ 0 by omega)
  have h2 := Int.emod_lt_of_pos z (show (0 : Int) < n by omega)
  rw [Int.toNat_of_nonneg h1, Int.tmod_eq_emod]
  by_cases hc : 0 ≤ z ∨ (n : Int) ∣ z
  · simp only [if_pos hc]
    rw [if_neg (by omega)]; omega
  · simp only [if_neg hc, Int.natAbs_natCast]
    rw [if_pos (by omega)]; omega
theorem tmod_gt {z : Int} {n : Nat} (hn : 0 < n) : -(n : Int) < z.tmod n := by
  have h1 := Int.emod_nonneg z (show (n : Int) ≠ 0 by omega)
  rw [Int.tmod_eq_emod]
  by_cases hc : 0 ≤ z ∨ (n : Int) ∣ z
  · simp only [if_pos hc]; omega
  · simp only [if_neg hc, Int.natAbs_natCast]
    have : z % n ≠ 0 := fun h => hc (.inr (Int.dvd_of_emod_eq_zero h))
    omega
variable {C : Ctx} (T : Tab_LLog C) (TD : Tab_LDig C) (TW : Tab_LLaw C) (TG : Tab_LGrow C) (hk : ∀ j, j < 64 → C.old 0 j = some (wv (kW j))) (hp : ∀ j, j < 16 → C.old 1 j = some (wv (crcW j)))
include TG in
theorem within_spec (h : AHeap) (z : Int) (n : Nat) (hn : 0 < n) (hn2 : n < 2 ^ 40) : D C 33 [zv z, iv n] h = some (iv (wi z n), h) := by
  rw [D_fn3 TG.h33 _ rfl]
  suffices hs : R C r33 [.code b33] [zv z, iv n] [] ⟨[], 0⟩ = some (iv (wi z n), ⟨[], 0⟩) by
    rw [hs]; exact pur_some rfl
  have e := wi_tmod (z := z) hn
  have b1 : z.tmod n < n := Int.tmod_lt_of_pos z (by omega)
  have b2 := tmod_gt (z := z) hn
  by_cases hc : z.tmod n < 0
  · rw [if_pos hc] at e
    have r : iv (wi z n) = zv (z.tmod n + n) := by rw [← e]; rfl
    simp [b33, zv_rem hn, stp_ok zv_und, zv_lss, hc, zv_add (a := z.tmod n) (b := n) (by omega) (by omega) (by omega), r33, r]
  · rw [if_neg hc] at e
    have r : iv (wi z n) = zv (z.tmod n) := by rw [← e]; rfl
    simp [b33, zv_rem hn, stp_ok zv_und, zv_lss, hc, r33, r]
end Go.Ab.Aud

namespace Go.Ab.Aud
open Go.Sha
theorem bv_shl {s : Nat} (h : s < 8) : abin .shl (bv 1) (uv s) = some (bv (UInt8.ofNat (2 ^ s))) := by
  have : ∀ s, s < 8 → abin .shl (bv 1) (uv s) = some (bv (UInt8.ofNat (2 ^ s))) := by
    intro s hs
    have : s = 0 ∨ s = 1 ∨ s = 2 ∨ s = 3 ∨ s = 4 ∨ s = 5 ∨ s = 6 ∨ s = 7 := by omega
    rcases this with rfl | rfl | rfl | rfl | rfl | rfl | rfl | rfl <;> rfl
  exact this s h
theorem bv_xor {a b : UInt8} : abin .xor (bv a) (bv b) = some (bv (a ^^^ b)) := by
  unfold bv
  simp only [abin, abinI, if_true]
  have e1 : BitVec.ofInt IntKind.u8.bits (a.toNat : Int) = a.toBitVec := by
    show BitVec.ofInt 8 _ = _
    rw [ofInt_nat]; simp
  have e2 : BitVec.ofInt IntKind.u8.bits (b.toNat : Int) = b.toBitVec := by
    show BitVec.ofInt 8 _ = _
    rw [ofInt_nat]; simp
  rw [e1, e2]
  congr 2
  rw [wrap8u]
  have hl : (a ^^^ b).toNat < 256 := (a ^^^ b).toNat_lt
  exact Int.emod_eq_of_lt (Int.natCast_nonneg _) (Int.ofNat_lt.2 hl)
/-- a digest with one bit turned -/
def turnF (d : List UInt8) (bit : Int) : List UInt8 := d.set (wi bit 256 / 8) (d.getD (wi bit 256 / 8) 0 ^^^ UInt8.ofNat (2 ^ (wi bit 256 % 8)))
theorem turnF_len {d : List UInt8} {bit : Int} : (turnF d bit).length = d.length := by simp [turnF]
theorem turnF_ne {d : List UInt8} {bit : Int} (h : d.length = 32) : turnF d bit ≠ d := by
  have hk := wi_lt (z := bit) (n := 256) (by omega)
  unfold turnF
  generalize wi bit 256 = k at hk
  intro he
  have h1 : (d.set (k / 8) (d.getD (k / 8) 0 ^^^ UInt8.ofNat (2 ^ (k % 8))))[k / 8]? = d[k / 8]? := by rw [he]
  rw [List.getElem?_set_self (by omega), List.getD_eq_getElem?_getD, List.getElem?_eq_getElem (by omega)] at h1
  simp only [Option.getD_some, Option.some.injEq] at h1
  have h2 : UInt8.ofNat (2 ^ (k % 8)) = 0 := by
    generalize d[k / 8] = x at h1
    generalize UInt8.ofNat (2 ^ (k % 8)) = m at h1
    have : x ^^^ (x ^^^ m) = x ^^^ x := by rw [h1]
    rw [← UInt8.xor_assoc, UInt8.xor_self, UInt8.zero_xor] at this
    exact this
  have h3 : ∀ s, s < 8 → UInt8.ofNat (2 ^ s) ≠ 0 := by decide
  exact h3 _ (Nat.mod_lt _ (by omega)) h2
variable {C : Ctx} (TG : Tab_LGrow C) (TF : Tab_LFoll C)
include TG TF in
theorem turned_spec (h : AHeap) (d : List UInt8) (bit : Int) (hd : d.length = 32) : D C 73 [.agg ⟨bytesVals d⟩, zv bit] h = some (.agg ⟨bytesVals (turnF d bit)⟩, h) := by
  rw [D_fn3 TF.h73 _ (by simp [flat_bytes]; rfl)]
  have hk := wi_lt (z := bit) (n := 256) (by omega)
  have hz : Value.int .u8 0 = bv 0 := rfl
  have hone : Value.int .u8 1 = bv 1 := rfl
  generalize hh0 : ({ bs := [], lo := 0 } : AHeap) = h0
  have h0lo : h0.lo = 0 := by rw [← hh0]
  generalize hX : ABlock.cells (bytesVals d) 31 = X
  generalize hZ : ABlock.cells (List.replicate 32 (bv 0)) 31 = Z
  have hZ0 := hZ
  simp [List.replicate] at hZ
  generalize hA : (h0.push X).push Z = A
  have aL : A.bs.length = h0.bs.length + 2 := by rw [← hA]; simp
  have aO : A.lo = 0 := by rw [← hA]; exact h0lo
  have x0 : A.at h0.bs.length = some X := by rw [← hA, push_lt (by simp)]; exact push_self
  have z1 : A.at (h0.bs.length + 1) = some Z := by rw [← hA]; exact push_self' (by simp)
  have ew := within_spec TG A bit 256 (by omega) (by omega)
  have hT : turnF d bit = d.set (wi bit 256 / 8) (d.getD (wi bit 256 / 8) 0 ^^^ UInt8.ofNat (2 ^ (wi bit 256 % 8))) := rfl
  have hTl := turnF_len (d := d) (bit := bit)
  generalize turnF d bit = T at hT hTl ⊢
  generalize wi bit 256 = k at ew hk hT
  have r1 : rd1 (some X) (k / 8) 0 = some (bv (d.getD (k / 8) 0)) := by
    rw [← hX, rd1_cells, bytes_get, List.getD_eq_getElem?_getD, List.getElem?_eq_getElem (by omega)]; rfl
  generalize d.getD (k / 8) 0 = x at r1 hT
  have w1 : wr1 A h0.bs.length (some X) (k / 8) 0 (bv (x ^^^ UInt8.ofNat (2 ^ (k % 8)))) = some (A.put h0.bs.length (.cells (bytesVals T) 31)) := by
    rw [← hX, wr1_cells (by simp; omega) rfl, hT]
    congr 3
    simp [bytesVals_eq, List.map_set]
  generalize hB : A.put h0.bs.length (.cells (bytesVals T) 31) = B at w1
  have b0 : B.at h0.bs.length = some (.cells (bytesVals T) 31) := by rw [← hB]; exact put_self (by omega)
  have b1 : B.at (h0.bs.length + 1) = some Z := by rw [← hB, put_ne (by omega)]; exact z1
  have bO : B.lo = 0 := by rw [← hB]; exact aO
  have bL : B.bs.length = A.bs.length := by rw [← hB]; simp
  have w2 := wr_arr (n := 32) hZ0 (vs := bytesVals T) (by simp [hTl, hd]) bytes_ok
  have rT : rdN (some (.cells (bytesVals T) 31)) 0 0 32 = some (bytesVals T) := rd32 (by omega)
  have q : h0.bs.length + 1 < B.bs.length := by omega
  have ud : zv bit = Value.int .i64 bit := rfl
  simp [b73, hX, hz, hZ, hA, bytes_ok, stp_ok zv_und, zv_und, Dc_ok, ew, iv_quo (a := k) (b := 8) (by omega) (by omega), ixA_iv (show k / 8 < 32 by omega), x0, r1, iv_rem (a := k) (b := 8) (by omega) (by omega), cvt_iu (show k % 8 < 18446744073709551616 by omega), hone, bv_shl (show k % 8 < 8 by omega), bv_xor, write1_wr, writeN_wr, aO, w1, b0, rT, hTl, hd, bO, b1, w2, r73, resV, put_self, q, flat_bytes]
/-- numbers that were given -/
def ArgN (old : Old) (v : Value) (l : List Nat) : Prop := ∃ a cp, v = .slice a l.length cp ∧ (∀ h, SlR old h 1 (.slice a l.length cp) (l.map uv)) ∧ (∀ j, ¬ Live (.slice a l.length cp) j) ∧ ∀ x, x ∈ l → x < 18446744073709551616
theorem ArgN.get {old : Old} {v : Value} {l : List Nat} (H : ArgN old v l) {i : Nat} (hi : i < l.length) : ∃ a' cp, v = .slice (some a') l.length cp ∧ (∀ h, read1 old h (adda a' i) = some (uv (l.getD i 0))) ∧ l.getD i 0 < 18446744073709551616 := by
  obtain ⟨a, cp, h1, h2, _, h4⟩ := H
  obtain ⟨a', rfl⟩ := (h2 ⟨[], 0⟩).ex (by omega)
  refine ⟨a', cp, h1, fun h => ?_, ?_⟩
  · have := readN_read1 ((h2 h).read (by omega)) (i := i) (by omega)
    rw [this, List.getD_eq_getElem?_getD, List.getElem?_map, List.getElem?_eq_getElem hi]; rfl
  · rw [List.getD_eq_getElem?_getD, List.getElem?_eq_getElem hi]
    exact h4 _ (List.getElem_mem hi)
theorem ArgN.und {old : Old} {v : Value} {l : List Nat} (H : ArgN old v l) : isUnd v = false := by obtain ⟨a, cp, rfl, _⟩ := H; rfl
theorem ArgN.okc {old : Old} {v : Value} {l : List Nat} (H : ArgN old v l) : okCell v = true := by obtain ⟨a, cp, rfl, _⟩ := H; rfl
theorem ArgN.lenV {old : Old} {v : Value} {l : List Nat} (H : ArgN old v l) : lenV v = some (iv l.length) := by obtain ⟨a, cp, rfl, _⟩ := H; rfl
/-- heads or a proof of which one is turned: not taken, or two nodes meet -/
theorem turn_law {om hn : Nat} {o r o' r' : List UInt8} {ps ps' : List (List UInt8)} (h0 : 0 < om) (hle : om ≤ hn) (h64 : hn < 2 ^ 64) (hl : ps.length = dueF 64 om hn true) (hl' : ps'.length = ps.length) (hg : (grownF 64 om hn true o ps).2 = (o, r))
    (ho : o.length = 32) (ho' : o'.length = 32) (hp : ∀ x, x ∈ ps → x.length = 32) (hp' : ∀ x, x ∈ ps' → x.length = 32) (hd : (r' ≠ r ∧ o' = o ∧ ps' = ps) ∨ (r' = r ∧ (o' ≠ o ∨ ps' ≠ ps) ∧ (o' = o ∨ ps' = ps)))
    (hf : follF om hn o' r' ps' = 0) : Met' ((grownF 64 om hn true o' ps').1 ++ (grownF 64 om hn true o ps).1) := by
  obtain ⟨_, l', g'⟩ := (foll_ok h64 h0).1 hf
  rcases hd with ⟨h1, rfl, rfl⟩ | ⟨rfl, h2, h3⟩
  · rw [hg] at g'
    injection g' with _ g'
    exact absurd g'.symm h1
  · rcases grow_two 64 om hn true o' o ps' ps h0 hle (by omega) l' hl ho' ho hp' hp (by rw [g', hg]) with h | ⟨rfl, h5⟩
    · exact h
    · have hne : o' ≠ o := by rcases h2 with h2 | h2; exact h2; exact absurd rfl h2
      have h1 : one1 (mdown 64 om hn) ≠ 0 := fun h => hne (h5 rfl h)
      have h1' : offW true (mdown 64 om hn) = 1 := by
        have := one1_le (d := mdown 64 om hn)
        show one1 (mdown 64 om hn) = 1
        omega
      have e1 := grown_fold 64 om hn true o ps' h0 hle (by omega) hl
      have e2 := grown_fold 64 om hn true o' ps' h0 hle (by omega) hl
      rw [h1', if_pos rfl] at e1 e2
      rw [hg] at e1
      rw [g', ← e1] at e2
      injection e2 with e2 _
      exact absurd e2 hne
/-- one digest of a row that is owned, laid anew -/
theorem dig_set {h : AHeap} {v : Value} {l : List (List UInt8)} {x : List UInt8} {i : Nat} (H : DigO h v l) (hi : i < l.length) (hx : x.length = 32) :
    ∃ a, v = .slice (some a) l.length 0 ∧ ∃ h', writeN h (adda a (i * 32)) (bytesVals x) = some h' ∧ DigO h' v (l.set i x) ∧ Fr h h' (fun j => blkOf v = some j) := by
  obtain ⟨o, h32⟩ := H
  rcases o with ⟨_, h0, _⟩ | ⟨b, g, last, rfl, h1, h2, h3, h4, h5⟩
  · omega
  · refine ⟨_, rfl, h.put b (.grow (splice g (i * 32) (bytesVals x)) g.length 31 32), ?_, ⟨?_, ?_⟩, Fr.put rfl⟩
    · simp only [adda_mk]
      rw [writeN_wr h5, h1]
      simp only [wrN]
      rw [if_pos ⟨trivial, by simp [hx]; omega, by omega, bytes_ok⟩, Nat.zero_add]
    · have hsl : (splice g (i * 32) (bytesVals x)).length = g.length := by simp [splice, hx]; omega
      refine .inr ⟨b, splice g (i * 32) (bytesVals x), g.length, by rw [hsl, List.length_set], put_self (get_lt h1), by rw [hsl]; omega, by rw [hsl, List.length_set]; omega, ?_, h5⟩
      have e1 : leafCells (l.set i x) = leafCells (l.take i) ++ (bytesVals x ++ leafCells (l.drop (i + 1))) := by
        rw [List.set_eq_take_append_cons_drop, if_pos hi]
        simp [leafCells]
      rw [e1, ← leafCells_take h32, ← leafCells_drop h32, ← h4, List.length_set]
      unfold splice
      have hd : i * 32 + (bytesVals x).length = (i + 1) * 32 := by rw [bytes_len, hx]; omega
      have hA : (g.take (i * 32) ++ bytesVals x).length = (i + 1) * 32 := by rw [List.length_append, List.length_take, Nat.min_eq_left (by omega), hd]
      rw [hd, List.take_append, List.take_of_length_le (by omega), hA, List.take_take, Nat.min_eq_left (by omega), List.drop_take, List.append_assoc]
    · intro y hy
      rcases List.mem_or_eq_of_mem_set hy with hy | rfl
      · exact h32 y hy
      · exact hx
end Go.Ab.Aud

namespace Go.Ab.Aud
open Go.Sha
def kp0 : ACode := s2 b32
def kp1 : ACode := s2 kp0
def kp2 : ACode := s2 kp1
def kp3 : ACode := s2 kp2
def kp4 : ACode := s2 kp3
def kp5 : ACode := s2 kp4
def kp6 : ACode := s2 kp5
def kp7 : ACode := s2 kp6
def kp8 : ACode := s2 kp7
def kp9 : ACode := s2 kp8
theorem kp_e0 : b32 = .seq (s1 b32) (.seq (s1 kp0) (.seq (s1 kp1) (.seq (s1 kp2) (.seq (s1 kp3) (.seq (s1 kp4) (.seq (s1 kp5) kp6)))))) := rfl
theorem okc_zv {z : Int} : okCell (zv z) = true := nr rfl
section
variable {s : Nat} {r T : List UInt8} {fz b : Nat} {h : AHeap}
theorem hd_rd (hr : r.length = 32) : rdN (some (.cells (uv s :: bytesVals r) fz)) 0 0 33 = some (uv s :: bytesVals r) := by
  rw [rdN_cells (by simp [hr]), List.drop_zero, List.take_of_length_le (by simp [hr])]
theorem hd_r1 (hr : r.length = 32) : rdN (some (.cells (uv s :: bytesVals r) fz)) 1 0 32 = some (bytesVals r) := by
  rw [rdN_cells (by simp [hr]), List.drop_succ_cons, List.drop_zero, List.take_of_length_le (by simp [hr])]
theorem hd_0 : rd1 (some (.cells (uv s :: bytesVals r) fz)) 0 0 = some (uv s) := rfl
theorem hd_wr (hr : r.length = 32) (hT : T.length = 32) : wrN h b (some (.cells (uv s :: bytesVals r) (fz + 1))) 1 0 (bytesVals T) = some (h.put b (.cells (uv s :: bytesVals T) (fz + 1))) := by
  rw [wr_part (o := 1) (A := [uv s]) (B := bytesVals r) (D := []) (by simp) rfl (by simp [hr, hT]) bytes_ok]; simp
end
/-- where 'kept' stands -/
structure KS (C : Ctx) (g1 g : AHeap) (t : List Value) (q p : Nat) (vo vw vb : Value) (b17 b18 om hn : Nat) (xr yr : List UInt8) (bad : List (List UInt8)) : Prop where
  F : Fr g1 g (fun _ => False)
  wf : g.lo ≤ g.bs.length
  t0 : tg t 0 = .pointer (some ⟨p, 0, some 0⟩)
  t1 : tg t 1 = vo
  t8 : tg t 8 = .pointer (some ⟨q, 0, some 0⟩)
  t9 : tg t 9 = .pointer (some ⟨q + 1, 0, some 0⟩)
  t11 : tg t 11 = .pointer (some ⟨q + 2, 0, some 0⟩)
  t14 : tg t 14 = vw
  t17 : tg t 17 = .pointer (some ⟨b17, 0, some 0⟩)
  t18 : tg t 18 = .pointer (some ⟨b18, 0, some 0⟩)
  t19 : tg t 19 = vb
  a17 : g.at b17 = some (.cells (uv om :: bytesVals xr) 36)
  a18 : g.at b18 = some (.cells (uv hn :: bytesVals yr) 36)
  l17 : g1.bs.length ≤ b17
  l18 : g1.bs.length ≤ b18
  ne : b17 ≠ b18
  D : DigO g vb bad
  bb : ∀ j, blkOf vb = some j → g1.bs.length ≤ j ∧ j ≠ b17 ∧ j ≠ b18
  xl : xr.length = 32
  yl : yr.length = 32
variable {C : Ctx} (T : Tab_LLog C) (TD : Tab_LDig C) (TW : Tab_LLaw C) (TG : Tab_LGrow C) (TF : Tab_LFoll C) (hk : ∀ j, j < 64 → C.old 0 j = some (wv (kW j)))
include T TD TW TG TF hk
theorem kept_zero (h : AHeap) (hwf : h.lo ≤ h.bs.length) (p hn : Nat) (hroot : List UInt8) (hr : hroot.length = 32) (hn64 : hn < 18446744073709551616) (vo v rv sz atv oth : Value) (bit : Int) (DP : DigV C.old h v []) (o1 : okCell rv = true) (o2 : okCell sz = true) (o3 : okCell atv = true) (o4 : okCell oth = true) :
    ∃ h', D C 32 [.pointer (some ⟨p, 0, some 0⟩), vo, .agg ⟨uv 0 :: bytesVals (sha [])⟩, .agg ⟨uv hn :: bytesVals hroot⟩, v, .agg ⟨[rv, sz, atv, oth, zv bit]⟩] h = some (.bool true, h') ∧ Fr h h' (fun _ => False) := by
  rw [D_fn TF.h32]
  have ol := sha_length []
  have hz : Value.int .u8 0 = bv 0 := rfl
  generalize hX : ABlock.cells (uv 0 :: bytesVals (sha [])) 36 = X
  generalize hY : ABlock.cells (uv hn :: bytesVals hroot) 36 = Y
  generalize hE : ABlock.cells [rv, sz, atv, oth, zv bit] 65 = E
  generalize hZ : ABlock.cells (uv 0 :: List.replicate 32 (bv 0)) 36 = Z
  have hZ0 := hZ
  simp [List.replicate] at hZ
  generalize hA : ((h.push X).push Y).push E = A
  have fA : Fr h A (fun _ => False) := by rw [← hA]; exact Fr.push.push'.push'
  have aL : A.bs.length = h.bs.length + 3 := by rw [← hA]; simp
  have aO := fA.lo
  have x0 : A.at h.bs.length = some X := by rw [← hA, push_lt (by simp; omega), push_lt (by simp)]; exact push_self
  have y0 : A.at (h.bs.length + 1) = some Y := by rw [← hA, push_lt (by simp)]; exact push_self' (by simp)
  have e0 : A.at (h.bs.length + 1 + 1) = some E := by rw [← hA]; exact push_self' (by simp)
  obtain ⟨B, hB, zB, B13, bL, bO, fB⟩ := new_step (g := A) (vs := uv 0 :: bytesVals (sha [])) hZ0
  have wB := wr_all hZ0 (vs := uv 0 :: bytesVals (sha [])) (by simp [ol]) (by rw [List.all_cons, bytes_ok]; rfl)
  rw [hX] at hB B13 wB
  have E1 : B.at (h.bs.length + 1 + 1) = some E := fB.get e0 (fun h => h)
  have ez : rd1 (some E) 4 0 = some (zv bit) := by rw [← hE]; rfl
  have rX : rdN (some X) 0 0 33 = some (uv 0 :: bytesVals (sha [])) := by rw [← hX]; exact hd_rd ol
  have rY : rdN (some Y) 0 0 33 = some (uv hn :: bytesVals hroot) := by rw [← hY]; exact hd_rd hr
  have rX0 : rd1 (some X) 0 0 = some (uv 0) := by rw [← hX]; rfl
  have et := turned_spec TG TF B (sha []) bit ol
  have tl := turnF_len (d := sha []) (bit := bit)
  have tn := turnF_ne (d := sha []) (bit := bit) ol
  generalize turnF (sha []) bit = U at et tl tn
  have rB : rdN (some X) 1 0 32 = some (bytesVals (sha [])) := by rw [← hX]; exact hd_r1 ol
  have wU := hd_wr (s := 0) (T := U) (fz := 35) (h := B) (b := A.bs.length) ol (by omega)
  rw [hX] at wU
  generalize hM : B.put A.bs.length (.cells (uv 0 :: bytesVals U) 36) = M at wU
  have fM : Fr h M (fun _ => False) := by rw [← hM]; exact (fA.trans fB (fun _ h => h) (fun _ h _ => h)).put' (.inr (by omega))
  have M13 : M.at A.bs.length = some (.cells (uv 0 :: bytesVals U) 36) := by rw [← hM]; exact put_self (by omega)
  have My : M.at (h.bs.length + 1) = some Y := by rw [← hM, put_ne (by omega)]; exact fB.get y0 (fun h => h)
  have rM := hd_rd (s := 0) (r := U) (fz := 36) (by omega)
  obtain ⟨va, vcp, hv, dv⟩ := DP.fr fM
  have ef := foll_spec T TD hk M 0 hn U hroot [] (by omega) hr (by omega) hn64 va vcp dv
  have hf : follF 0 hn U hroot [] = 236 := by
    unfold follF
    have hm : mdown 64 0 hn = [] := by simp [mdown]
    rw [if_neg (by omega), hm, if_neg (by simp [one1]), if_pos rfl, if_pos (.inl tn)]
  rw [hf] at ef
  have uv' : isUnd v = false := by rw [hv]; rfl
  rw [← hv] at ef
  have lo1 : h.lo ≤ A.bs.length := by omega
  refine ⟨M, ?_, fM⟩
  simp [b32, bytes_ok, hX, hY, o1, o2, o3, o4, okc_zv, hE, hA, ol, hr, x0, rX0, rX, hz, hZ, zB, writeN_wr, aO, lo1, wB, hB, B13, rB, E1, ez, bO, Dc_ok, et, tl, wU, M13, rM, My, rY, stp_ok uv', uv', stp_ok zv_und, zv_und, ef, num_spec TW, r32]
set_option maxHeartbeats 4000000 in
theorem kept_b1 (h : AHeap) (hwf : h.lo ≤ h.bs.length) (p om hn : Nat) (oroot hroot : List UInt8) (ol : oroot.length = 32) (hr : hroot.length = 32) (h0 : 0 < om) (hle : om ≤ hn) (hn64 : hn < 18446744073709551616) (vo v rv sz atv oth : Value) (bit : Int) (ps : List (List UInt8)) (DP : DigV C.old h v ps)
    (hd : ps.length = dueF 64 om hn true) (hg : (grownF 64 om hn true oroot ps).2 = (oroot, hroot)) (uvo : isUnd vo = false) (o1 : okCell rv = true) (o2 : okCell sz = true) (o3 : okCell atv = true) (o4 : okCell oth = true) :
    ∃ g1 g t vw vb b17 b18, R C r32 [.code b32] [.pointer (some ⟨p, 0, some 0⟩), vo, .agg ⟨uv om :: bytesVals oroot⟩, .agg ⟨uv hn :: bytesVals hroot⟩, v, .agg ⟨[rv, sz, atv, oth, zv bit]⟩] [] h = R C r32 [.code kp6] t [] g ∧
      Fr h g1 (fun _ => False) ∧ g1.at h.bs.length = some (.cells (uv om :: bytesVals oroot) 36) ∧ g1.at (h.bs.length + 1) = some (.cells (uv hn :: bytesVals hroot) 36) ∧ g1.at (h.bs.length + 2) = some (.cells [rv, sz, atv, oth, zv bit] 65) ∧
      Pairs C.old g1 h.bs.length vw (grownF 64 om hn true oroot ps).1 ∧ (grownF 64 om hn true oroot ps).1.length ≤ 128 ∧ KS C g1 g t h.bs.length p vo vw vb b17 b18 om hn oroot hroot ps := by
  have hz : Value.int .u8 0 = bv 0 := rfl
  have l130 : ps.length ≤ 65 := by rw [hd]; exact (due_spec TW TG 64 om hn true ⟨[], 0⟩ hle (by omega) (by omega) hn64).2
  generalize hX : ABlock.cells (uv om :: bytesVals oroot) 36 = X
  generalize hY : ABlock.cells (uv hn :: bytesVals hroot) 36 = Y
  generalize hE : ABlock.cells [rv, sz, atv, oth, zv bit] 65 = E
  generalize hZ : ABlock.cells (uv 0 :: List.replicate 32 (bv 0)) 36 = Z
  have hZ0 := hZ
  simp [List.replicate] at hZ
  generalize hZ1 : ABlock.cells (List.replicate 32 (bv 0)) 31 = Z1
  have hZ10 := hZ1
  simp [List.replicate] at hZ1
  generalize hA : ((h.push X).push Y).push E = A
  have fA : Fr h A (fun _ => False) := by rw [← hA]; exact Fr.push.push'.push'
  have aL : A.bs.length = h.bs.length + 3 := by rw [← hA]; simp
  have aO := fA.lo
  have x0 : A.at h.bs.length = some X := by rw [← hA, push_lt (by simp; omega), push_lt (by simp)]; exact push_self
  have y0 : A.at (h.bs.length + 1) = some Y := by rw [← hA, push_lt (by simp)]; exact push_self' (by simp)
  have e0 : A.at (h.bs.length + 1 + 1) = some E := by rw [← hA]; exact push_self' (by simp)
  have rX : rdN (some X) 0 0 33 = some (uv om :: bytesVals oroot) := by rw [← hX]; exact hd_rd ol
  have rX0 : rd1 (some X) 0 0 = some (uv om) := by rw [← hX]; rfl
  have rX1 : rdN (some X) 1 0 32 = some (bytesVals oroot) := by rw [← hX]; exact hd_r1 ol
  have rY : rdN (some Y) 0 0 33 = some (uv hn :: bytesVals hroot) := by rw [← hY]; exact hd_rd hr
  have rY0 : rd1 (some Y) 0 0 = some (uv hn) := by rw [← hY]; rfl
  have rY1 : rdN (some Y) 1 0 32 = some (bytesVals hroot) := by rw [← hY]; exact hd_r1 hr
  -- grown
  obtain ⟨va, vcp, hv, dA⟩ := DP.fr fA
  have u1 : isUnd v = false := by rw [hv]; rfl
  obtain ⟨g1, vw, e1, Q1, f1, uv1, len1⟩ := grown_spec T TD TW TG hk 64 om hn true oroot ps h0 hle (by omega) (by omega) hn64 hd ol A va vcp dA (by omega)
  rw [← hv, hg] at e1
  have l1 := f1.len
  have o1' := f1.lo
  have F1 : Fr h g1 (fun _ => False) := fA.trans f1 (fun _ h => h) (fun _ h _ => h)
  obtain ⟨E1, g2, hE1, hg2, z17, z18, E17, E18, eL1, l2, eO1, o2', f2⟩ := arr_two (g := g1) (vs := bytesVals oroot) (ws := bytesVals hroot) hZ10 (by simp [ol])
  have wa := wr_arr (n := 32) hZ10 (vs := bytesVals oroot) (by simp [ol]) bytes_ok
  have wb := wr_arr (n := 32) hZ10 (vs := bytesVals hroot) (by simp [hr]) bytes_ok
  have F12 : Fr A g2 (fun _ => False) := f1.trans f2 (fun _ h => h) (fun _ h _ => h)
  have x2 := F12.get x0 (fun h => h)
  have y2 := F12.get y0 (fun h => h)
  have r31 := rd32 ol
  have r32' := rd32 hr
  have eq1 := aeq_dig ol ol
  have eq2 := aeq_dig hr hr
  simp [List.replicate] at eq1 eq2
  have lo1 : h.lo ≤ g1.bs.length := by omega
  have lo1' : h.lo ≤ g1.bs.length + 1 := by omega
  -- x, y, bad
  obtain ⟨g3, hg3, z3, C17, l3, o3', f3⟩ := new_step (g := g2) (vs := uv om :: bytesVals oroot) hZ0
  have w3 := wr_all hZ0 (vs := uv om :: bytesVals oroot) (by simp [ol]) (by rw [List.all_cons, bytes_ok]; rfl)
  rw [hX] at hg3 C17 w3
  have y3 := f3.get y2 (fun h => h)
  obtain ⟨g4, hg4, z4, C18, l4, o4', f4⟩ := new_step (g := g3) (vs := uv hn :: bytesVals hroot) hZ0
  have w4 := wr_all hZ0 (vs := uv hn :: bytesVals hroot) (by simp [hr]) (by rw [List.all_cons, bytes_ok]; rfl)
  rw [hY] at hg4 C18 w4
  have f24 : Fr g2 g4 (fun _ => False) := f3.trans f4 (fun _ h => h) (fun _ h _ => h)
  have F14 : Fr g1 g4 (fun _ => False) := f2.trans f24 (fun _ h => h) (fun _ h _ => h)
  have D4 : DigV C.old g4 v ps := ((DP.fr F1).fr F14)
  obtain ⟨vb, g5, e5, D5, f5, b5⟩ := dig_copy D4 (by omega) (by omega)
  have F15 : Fr g1 g5 (fun _ => False) := F14.trans f5 (fun _ h => h) (fun _ h _ => h)
  have ub : isUnd vb = false := D5.1.und
  have l5 := f5.len
  have o5' := f5.lo
  have lo2 : h.lo ≤ g2.bs.length := by omega
  have lo3 : h.lo ≤ g3.bs.length := by omega
  obtain ⟨t, e, t0, t1, t8, t9, t11, t14, t17, t18, t19⟩ : ∃ t, R C r32 [.code b32] [.pointer (some ⟨p, 0, some 0⟩), vo, .agg ⟨uv om :: bytesVals oroot⟩, .agg ⟨uv hn :: bytesVals hroot⟩, v, .agg ⟨[rv, sz, atv, oth, zv bit]⟩] [] h = R C r32 [.code kp6] t [] g5 ∧ tg t 0 = .pointer (some ⟨p, 0, some 0⟩) ∧ tg t 1 = vo ∧
      tg t 8 = .pointer (some ⟨h.bs.length, 0, some 0⟩) ∧ tg t 9 = .pointer (some ⟨h.bs.length + 1, 0, some 0⟩) ∧ tg t 11 = .pointer (some ⟨h.bs.length + 1 + 1, 0, some 0⟩) ∧ tg t 14 = vw ∧ tg t 17 = .pointer (some ⟨g2.bs.length, 0, some 0⟩) ∧ tg t 18 = .pointer (some ⟨g3.bs.length, 0, some 0⟩) ∧ tg t 19 = vb := by
    rw [kp_e0]
    simp [kp0, kp1, kp2, kp3, kp4, kp5, s1, s2, b32, bytes_ok, hX, hY, o1, o2, o3, o4, okc_zv, hE, hA, ol, hr, x0, rX0, show ¬ om = 0 by omega, y0, rY0, rX1, stp_ok u1, u1, Dc_ok, e1, stp_ok uv1, uv1, hz, hZ1, writeN_wr, o1', aO, lo1, lo1', z17, wa, hE1, eO1, z18, wb, hg2, E17, r31, x2, eq1, E18, r32', y2, rY1, eq2, rX, hZ, z3, o2', lo2, w3, hg3, y3, rY, z4, o3', lo3, w4, hg4, fillCells, e5, stp_ok ub]
    exact ⟨_, rfl, by simp, by simp, by simp, by simp, by simp, by simp, by simp, by simp, by simp⟩
  have g1x := f1.get x0 (fun h => h)
  have g1y := f1.get y0 (fun h => h)
  have g1e := f1.get e0 (fun h => h)
  rw [← hX] at C17
  rw [← hY] at C18
  refine ⟨g1, g5, t, vw, vb, g2.bs.length, g3.bs.length, e, F1, g1x, g1y, g1e, Q1.mono (by omega), len1, ⟨F15, by omega, t0, t1, t8, t9, t11, t14, t17, t18, t19, f5.get (f4.get C17 (fun h => h)) (fun h => h), f5.get C18 (fun h => h), by omega, by omega, by omega, D5, fun j hj => by have := b5 j hj; omega, ol, hr⟩⟩
omit T TD TW TG TF hk in
theorem KS.mv {C : Ctx} {g1 g g' : AHeap} {t t' : List Value} {q p : Nat} {vo vw vb : Value} {b17 b18 om hn : Nat} {xr yr xr' yr' : List UInt8} {bad bad' : List (List UInt8)} (H : KS C g1 g t q p vo vw vb b17 b18 om hn xr yr bad) (f : Fr g g' (fun j => j = b17 ∨ j = b18 ∨ blkOf vb = some j))
    (a17 : g'.at b17 = some (.cells (uv om :: bytesVals xr') 36)) (a18 : g'.at b18 = some (.cells (uv hn :: bytesVals yr') 36)) (D : DigO g' vb bad') (xl : xr'.length = 32) (yl : yr'.length = 32)
    (ht : ∀ j, j = 0 ∨ j = 1 ∨ j = 8 ∨ j = 9 ∨ j = 11 ∨ j = 14 ∨ j = 17 ∨ j = 18 ∨ j = 19 → tg t' j = tg t j) : KS C g1 g' t' q p vo vw vb b17 b18 om hn xr' yr' bad' :=
  ⟨H.F.trans f (fun _ h => h) (fun j hj hl => by
      rcases hj with rfl | rfl | hj
      · have := H.l17; omega
      · have := H.l18; omega
      · have := H.bb j hj; omega), by rw [f.lo]; have := f.len; have := H.wf; omega, (ht 0 (by omega)).trans H.t0, (ht 1 (by omega)).trans H.t1, (ht 8 (by omega)).trans H.t8, (ht 9 (by omega)).trans H.t9, (ht 11 (by omega)).trans H.t11, (ht 14 (by omega)).trans H.t14, (ht 17 (by omega)).trans H.t17, (ht 18 (by omega)).trans H.t18, (ht 19 (by omega)).trans H.t19, a17, a18, H.l17, H.l18, H.ne, D, H.bb, xl, yl⟩
/-- a bit of one of them is turned -/
theorem kept_b2 (g1 g : AHeap) (t : List Value) (q p : Nat) (vo vw vb : Value) (b17 b18 om hn : Nat) (xr yr : List UInt8) (bad : List (List UInt8)) (H : KS C g1 g t q p vo vw vb b17 b18 om hn xr yr bad) (rv sz atv oth : Value) (bit : Int) (he : g1.at (q + 2) = some (.cells [rv, sz, atv, oth, zv bit] 65)) (lo : g1.lo ≤ g1.bs.length) (hbl : bad.length < 2 ^ 20) :
    ∃ g' t' xr' yr' bad', (∀ K, R C r32 (.code (s1 kp6) :: K) t [] g = R C r32 K t' [] g') ∧ KS C g1 g' t' q p vo vw vb b17 b18 om hn xr' yr' bad' ∧ bad'.length = bad.length ∧
      ((yr' ≠ yr ∧ xr' = xr ∧ bad' = bad) ∨ (yr' = yr ∧ (xr' ≠ xr ∨ bad' ≠ bad) ∧ (xr' = xr ∨ bad' = bad))) := by
  have zd := zv_und (z := bit)
  have E : g.at (q + 2) = some (.cells [rv, sz, atv, oth, zv bit] 65) := H.F.get he (fun h => h)
  have ez : rd1 (some (.cells [rv, sz, atv, oth, zv bit] 65)) 4 0 = some (zv bit) := rfl
  have ew := within_spec TG g bit 3 (by omega) (by omega)
  have hr3 := wi_lt (z := bit) (n := 3) (by omega)
  generalize wi bit 3 = r at ew hr3
  have gl := H.F.len
  have go := H.F.lo
  have l17 := H.l17
  have l18 := H.l18
  have p17 := get_lt H.a17
  have p18 := get_lt H.a18
  have c17 : g.lo ≤ b17 := by omega
  have c18 : g.lo ≤ b18 := by omega
  have r17 := hd_r1 (s := om) (fz := 36) H.xl
  have r18 := hd_r1 (s := hn) (fz := 36) H.yl
  have tx := turned_spec TG TF g xr bit H.xl
  have tnx := turnF_ne (bit := bit) H.xl
  have tlx := turnF_len (d := xr) (bit := bit)
  have xl := H.xl
  have yl := H.yl
  have wX := hd_wr (s := om) (T := turnF xr bit) (fz := 35) (h := g) (b := b17) H.xl (by omega)
  have noq : ∀ j, blkOf vb = some j → j ≠ b17 ∧ j ≠ b18 := fun j hj => (H.bb j hj).2
  have ne := H.ne
  -- x turned
  have turnX : ∀ (t' : List Value), (∀ j, j = 0 ∨ j = 1 ∨ j = 8 ∨ j = 9 ∨ j = 11 ∨ j = 14 ∨ j = 17 ∨ j = 18 ∨ j = 19 → tg t' j = tg t j) → KS C g1 (g.put b17 (.cells (uv om :: bytesVals (turnF xr bit)) 36)) t' q p vo vw vb b17 b18 om hn (turnF xr bit) yr bad := fun t' ht =>
    H.mv (Fr.put (.inl rfl)) (put_self p17) (by rw [put_ne ne]; exact H.a18) (H.D.fr (Fr.put (S := fun j => j = b17) rfl) (fun j hj hc => (noq j hj).1 hc)) (by omega) yl ht
  by_cases c0 : r = 0
  · subst c0
    obtain ⟨t', e, ht⟩ : ∃ t', (∀ K, R C r32 (.code (s1 kp6) :: K) t [] g = R C r32 K t' [] (g.put b17 (.cells (uv om :: bytesVals (turnF xr bit)) 36))) ∧ (∀ j, j = 0 ∨ j = 1 ∨ j = 8 ∨ j = 9 ∨ j = 11 ∨ j = 14 ∨ j = 17 ∨ j = 18 ∨ j = 19 → tg t' j = tg t j) := by
      simp [-forall_eq_or_imp, -forall_eq, kp0, kp1, kp2, kp3, kp4, kp5, kp6, s1, s2, b32, H.t11, E, ez, stp_ok zd, zd, Dc_ok, ew, H.t17, H.a17, r17, xl, tx, tlx, writeN_wr, c17, wX]
      refine ⟨_, fun _ => rfl, fun j hj => ?_⟩
      rcases hj with rfl | rfl | rfl | rfl | rfl | rfl | rfl | rfl | rfl <;> simp [H.t11, H.t17]
    exact ⟨_, t', _, _, _, e, turnX t' ht, rfl, .inr ⟨rfl, .inl tnx, .inr rfl⟩⟩
  · by_cases c1 : r = 1
    · subst c1
      have ty := turned_spec TG TF g yr bit H.yl
      have tny := turnF_ne (bit := bit) H.yl
      have tly := turnF_len (d := yr) (bit := bit)
      have wY := hd_wr (s := hn) (T := turnF yr bit) (fz := 35) (h := g) (b := b18) H.yl (by omega)
      obtain ⟨t', e, ht⟩ : ∃ t', (∀ K, R C r32 (.code (s1 kp6) :: K) t [] g = R C r32 K t' [] (g.put b18 (.cells (uv hn :: bytesVals (turnF yr bit)) 36))) ∧ (∀ j, j = 0 ∨ j = 1 ∨ j = 8 ∨ j = 9 ∨ j = 11 ∨ j = 14 ∨ j = 17 ∨ j = 18 ∨ j = 19 → tg t' j = tg t j) := by
        simp [-forall_eq_or_imp, -forall_eq, kp0, kp1, kp2, kp3, kp4, kp5, kp6, s1, s2, b32, H.t11, E, ez, stp_ok zd, zd, Dc_ok, ew, H.t18, H.a18, r18, yl, ty, tly, writeN_wr, c18, wY]
        refine ⟨_, fun _ => rfl, fun j hj => ?_⟩
        rcases hj with rfl | rfl | rfl | rfl | rfl | rfl | rfl | rfl | rfl <;> simp [H.t11, H.t18]
      exact ⟨_, t', _, _, _, e, H.mv (Fr.put (.inr (.inl rfl))) (by rw [put_ne ne.symm]; exact H.a17) (put_self p18) (H.D.fr (Fr.put (S := fun j => j = b18) rfl) (fun j hj hc => (noq j hj).2 hc)) xl (by omega) ht, rfl, .inl ⟨tny, rfl, rfl⟩⟩
    · have c2 : r = 2 := by omega
      subst c2
      have ub := H.D.1.und
      have lb := H.D.1.lenV
      by_cases hl : bad.length = 0
      · rw [hl] at lb
        obtain ⟨t', e, ht⟩ : ∃ t', (∀ K, R C r32 (.code (s1 kp6) :: K) t [] g = R C r32 K t' [] (g.put b17 (.cells (uv om :: bytesVals (turnF xr bit)) 36))) ∧ (∀ j, j = 0 ∨ j = 1 ∨ j = 8 ∨ j = 9 ∨ j = 11 ∨ j = 14 ∨ j = 17 ∨ j = 18 ∨ j = 19 → tg t' j = tg t j) := by
          simp [-forall_eq_or_imp, -forall_eq, kp0, kp1, kp2, kp3, kp4, kp5, kp6, s1, s2, b32, H.t11, E, ez, stp_ok zd, zd, Dc_ok, ew, H.t19, stp_ok ub, lb, H.t17, H.a17, r17, xl, tx, tlx, writeN_wr, c17, wX]
          refine ⟨_, fun _ => rfl, fun j hj => ?_⟩
          rcases hj with rfl | rfl | rfl | rfl | rfl | rfl | rfl | rfl | rfl <;> simp [H.t11, H.t17, H.t19]
        exact ⟨_, t', _, _, _, e, turnX t' ht, rfl, .inr ⟨rfl, .inl tnx, .inr rfl⟩⟩
      · have e3 : abin .quo (zv bit) (iv 3) = some (zv (bit.tdiv 3)) ∨ ∃ z, abin .quo (zv bit) (iv 3) = some (zv z) := by
          right
          unfold zv iv
          simp only [abin, abinI, if_true]
          exact ⟨_, rfl⟩
        obtain ⟨z, e3⟩ : ∃ z, abin .quo (zv bit) (iv 3) = some (zv z) := by
          rcases e3 with h | h
          · exact ⟨_, h⟩
          · exact h
        have zd3 := zv_und (z := z)
        have ek := within_spec TG g z bad.length (by omega) (by omega)
        have hk' := wi_lt (z := z) (n := bad.length) (by omega)
        generalize wi z bad.length = k at ek hk'
        have h32 := get32 H.D.2 hk'
        obtain ⟨a, cp, hv, dR⟩ := H.D.digR (old := C.old)
        obtain ⟨a', ha, rd⟩ := dR.get hk'
        have tb := turned_spec TG TF g (bad.getD k []) bit h32
        have tnb := turnF_ne (bit := bit) h32
        have tlb := turnF_len (d := bad.getD k []) (bit := bit)
        generalize hbk : bad.getD k [] = bk at *
        obtain ⟨a2, hv2, g', ew2, D', F'⟩ := dig_set (x := turnF bk bit) H.D hk' (by omega)
        have hvv : vb = .slice (some a2) bad.length 0 := hv2
        have ha2 : a' = a2 := by rw [hv, ha] at hv2; injection hv2 with h; injection h
        subst ha2
        obtain ⟨t', e, ht⟩ : ∃ t', (∀ K, R C r32 (.code (s1 kp6) :: K) t [] g = R C r32 K t' [] g') ∧ (∀ j, j = 0 ∨ j = 1 ∨ j = 8 ∨ j = 9 ∨ j = 11 ∨ j = 14 ∨ j = 17 ∨ j = 18 ∨ j = 19 → tg t' j = tg t j) := by
          have hlp : 0 < bad.length := by omega
          simp [-forall_eq_or_imp, -forall_eq, kp0, kp1, kp2, kp3, kp4, kp5, kp6, s1, s2, b32, H.t11, E, ez, stp_ok zd, zd, Dc_ok, ew, H.t19, hvv, hlp, e3, stp_ok zd3, zd3, ek, ixS_iv hk', rd, tb, h32, tlb, ew2]
          refine ⟨_, fun _ => rfl, fun j hj => ?_⟩
          rcases hj with rfl | rfl | rfl | rfl | rfl | rfl | rfl | rfl | rfl <;> simp [H.t11, H.t19, hvv]
        have hset : (bad.set k (turnF bk bit)) ≠ bad := fun hc => by
          have : (bad.set k (turnF bk bit)).getD k [] = bad.getD k [] := by rw [hc]
          rw [hbk, List.getD_eq_getElem?_getD, List.getElem?_set_self hk'] at this
          exact tnb this
        exact ⟨g', t', xr, yr, _, e, H.mv (F'.mono (fun j hj _ => .inr (.inr hj))) (F'.get H.a17 (fun hj => (noq _ hj).1 rfl)) (F'.get H.a18 (fun hj => (noq _ hj).2 rfl)) D' xl yl ht, by simp, .inr ⟨rfl, .inr hset, .inl rfl⟩⟩
end Go.Ab.Aud

namespace Go.Ab.Aud
open Go.Sha
variable {C : Ctx} (T : Tab_LLog C) (TD : Tab_LDig C) (TW : Tab_LLaw C) (TG : Tab_LGrow C) (TF : Tab_LFoll C) (hk : ∀ j, j < 64 → C.old 0 j = some (wv (kW j)))
include T TD TW TG TF hk
set_option maxHeartbeats 4000000 in
/-- what is turned is not taken, or two nodes meet -/
theorem kept_b3 (g1 g : AHeap) (t : List Value) (q p : Nat) (vo vw vb : Value) (b17 b18 om hn : Nat) (xr yr oroot hroot : List UInt8) (bad ps : List (List UInt8)) (H : KS C g1 g t q p vo vw vb b17 b18 om hn xr yr bad) (lo : g1.lo ≤ q) (hq : q + 2 < g1.bs.length)
    (a8 : g1.at q = some (.cells (uv om :: bytesVals oroot) 36)) (a9 : g1.at (q + 1) = some (.cells (uv hn :: bytesVals hroot) 36)) (P : Pairs C.old g1 q vw (grownF 64 om hn true oroot ps).1) (Pl : (grownF 64 om hn true oroot ps).1.length ≤ 128)
    (h0 : 0 < om) (hle : om ≤ hn) (hn64 : hn < 18446744073709551616) (ol : oroot.length = 32) (hl : ps.length = dueF 64 om hn true) (hl' : bad.length = ps.length) (hg : (grownF 64 om hn true oroot ps).2 = (oroot, hroot)) (hp : ∀ x, x ∈ ps → x.length = 32)
    (hd : (yr ≠ hroot ∧ xr = oroot ∧ bad = ps) ∨ (yr = hroot ∧ (xr ≠ oroot ∨ bad ≠ ps) ∧ (xr = oroot ∨ bad = ps))) :
    ∃ g' t', (∀ K, R C r32 (.code (s1 kp7) :: K) t [] g = R C r32 K t' [] g') ∧ Fr g1 g' (fun _ => False) ∧ g'.lo ≤ g'.bs.length ∧ (∀ j, j = 0 ∨ j = 1 ∨ j = 8 ∨ j = 9 ∨ j = 11 → tg t' j = tg t j) := by
  have rx := hd_rd (s := om) (fz := 36) H.xl
  have ry := hd_rd (s := hn) (fz := 36) H.yl
  have rx1 := hd_r1 (s := om) (fz := 36) H.xl
  obtain ⟨va, vcp, hv, dR⟩ := H.D.digR (old := C.old)
  have ub := H.D.1.und
  have ef := foll_spec T TD hk g om hn xr yr bad H.xl H.yl (by omega) hn64 va vcp dR
  rw [← hv] at ef
  have hlaw := turn_law (o' := xr) (r' := yr) (ps' := bad) h0 hle (by omega) hl hl' hg ol H.xl hp H.D.2 hd
  by_cases hf : follF om hn xr yr bad = 0
  · have hmet := hlaw hf
    rw [hf] at ef
    obtain ⟨_, l', g0⟩ := (foll_ok (by omega) h0).1 hf
    have k8 := H.F.get a8 (fun h => h)
    have k9 := H.F.get a9 (fun h => h)
    have r8 : rd1 (some (.cells (uv om :: bytesVals oroot) 36)) 0 0 = some (uv om) := rfl
    have r9 : rd1 (some (.cells (uv hn :: bytesVals hroot) 36)) 0 0 = some (uv hn) := rfl
    have hz : Value.int .u8 0 = bv 0 := rfl
    generalize hZ1 : ABlock.cells (List.replicate 32 (bv 0)) 31 = Z1
    have hZ10 := hZ1
    simp [List.replicate] at hZ1
    obtain ⟨g2, v21, e1, Q1, f1, uv1, len1⟩ := grown_spec T TD TW TG hk 64 om hn true xr bad h0 hle (by omega) (by omega) hn64 l' H.xl g va vcp dR H.wf
    rw [← hv, g0] at e1
    have l1 := f1.len
    have o1 := f1.lo
    have wf := H.wf
    have gl := H.F.len
    have go := H.F.lo
    obtain ⟨E1, g3, hE1, hg3, z22, z23, E22, E23, eL1, l3, eO1, o3, f3⟩ := arr_two (g := g2) (vs := bytesVals xr) (ws := bytesVals yr) hZ10 (by simp [H.xl])
    have xl := H.xl
    have yl := H.yl
    have wa := wr_arr (n := 32) hZ10 (vs := bytesVals xr) (by simp [xl]) bytes_ok
    have wb := wr_arr (n := 32) hZ10 (vs := bytesVals yr) (by simp [yl]) bytes_ok
    have F03 : Fr g g3 (fun _ => False) := f1.trans f3 (fun _ h => h) (fun _ h _ => h)
    have F13 : Fr g1 g3 (fun _ => False) := H.F.trans F03 (fun _ h => h) (fun _ h _ => h)
    have P3 := P.fr F13 (fun _ _ _ h => h)
    have Q3 := Q1.fr f3 (fun _ _ _ h => h)
    obtain ⟨L2, eL2, oL2, bL2, pL2⟩ := P
    have hLv : ∀ y, y ∈ L2 → ∀ j, Live y.1 j → q ≤ j ∧ j < g1.bs.length := fun y hy j hj => by
      obtain ⟨ay, cy, h1, h2, h3, h4⟩ := pL2 y hy
      exact ⟨(h4 j hj).1, h2.live_lt (by rw [← h1]; exact hj)⟩
    have oL3 := oL2.fr F13 (fun _ _ h => h)
    have pL3 : ∀ y, y ∈ L2 → POk C.old g3 q vw y := fun y hy => (pL2 y hy).fr F13 (fun _ _ h => h)
    obtain ⟨ax, cpx, hx⟩ := oL3.slice
    have sx := oL3.sl (old := C.old) (by omega)
    have vge : ∀ j, blkOf v21 = some j → g.bs.length ≤ j := by obtain ⟨L, _, _, b, _⟩ := Q1; exact b
    have hL2l : L2.length = (grownF 64 om hn true oroot ps).1.length := by rw [← eL2]; simp
    obtain ⟨v5, g4, e5, Q5, f5, b5⟩ := pairs_app2 (w := vw) (Q3.mono (q' := q) (by omega)) (by omega) (by omega) L2 eL2 (by rw [hx]; rfl) (fun hn => by rw [hx] at sx ⊢; exact sx.src hn) pL3 (fun y hy j hj hc => by have := hLv y hy j hj; have := vge j hc; omega) (by omega)
    have l5 := f5.len
    have o5 := f5.lo
    obtain ⟨bb, eb, hb⟩ := met_spec TW g4 v5 _ Q5.rd (by simp; omega) (fun i => by
      have h65 : ∀ y, y ∈ (grownF 64 om hn true xr bad).1 ++ (grownF 64 om hn true oroot ps).1 → y.1.length = 65 := fun y hy => by
        rcases List.mem_append.1 hy with hy | hy
        · exact grownF_of _ _ _ _ _ _ h0 hle (by omega) l' xl H.D.2 y hy
        · exact grownF_of _ _ _ _ _ _ h0 hle (by omega) hl ol hp y hy
      rw [List.getD_eq_getElem?_getD]
      cases hg : ((grownF 64 om hn true xr bad).1 ++ (grownF 64 om hn true oroot ps).1)[i]? with
      | none => simp
      | some y => have := h65 y (List.mem_of_getElem? hg); simp [this])
    have hbt : bb = true := hb.2 (met_of hmet)
    rw [hbt] at eb
    have uw : isUnd vw = false := by rw [hx]; rfl
    have uv5 : isUnd v5 = false := by obtain ⟨L, _, o, _, _⟩ := Q5; exact o.und
    have lo2 : g.lo ≤ g2.bs.length := by omega
    have lo2' : g.lo ≤ g2.bs.length + 1 := by omega
    refine ⟨g4, ?_⟩
    have F14 : Fr g1 g4 (fun _ => False) := F13.trans f5 (fun _ h => h) (fun j hj hl => by have := vge j hj; omega)
    obtain ⟨t', e, ht⟩ : ∃ t', (∀ K, R C r32 (.code (s1 kp7) :: K) t [] g = R C r32 K t' [] g4) ∧ (∀ j, j = 0 ∨ j = 1 ∨ j = 8 ∨ j = 9 ∨ j = 11 → tg t' j = tg t j) := by
      simp [-forall_eq_or_imp, -forall_eq, kp0, kp1, kp2, kp3, kp4, kp5, kp6, kp7, s1, s2, b32, H.t17, H.t18, H.t19, H.t8, H.t9, H.t14, H.a17, H.a18, rx, ry, stp_ok ub, ub, Dc_ok, ef, num_spec TW, k8, r8, k9, r9, rx1, xl, e1, stp_ok uv1, uv1, hz, hZ1, writeN_wr, o1, lo2, lo2', z22, wa, hE1, eO1, z23, yl, wb, hg3, stp_ok uw, uw, e5, stp_ok uv5, uv5, eb]
      refine ⟨_, fun _ => rfl, fun j hj => ?_⟩
      rcases hj with rfl | rfl | rfl | rfl | rfl <;> simp [H.t8, H.t9]
    exact ⟨t', e, F14, by omega, ht⟩
  · refine ⟨g, ?_⟩
    obtain ⟨t', e, ht⟩ : ∃ t', (∀ K, R C r32 (.code (s1 kp7) :: K) t [] g = R C r32 K t' [] g) ∧ (∀ j, j = 0 ∨ j = 1 ∨ j = 8 ∨ j = 9 ∨ j = 11 → tg t' j = tg t j) := by
      simp [-forall_eq_or_imp, -forall_eq, kp0, kp1, kp2, kp3, kp4, kp5, kp6, kp7, s1, s2, b32, H.t17, H.t18, H.t19, H.a17, H.a18, rx, ry, stp_ok ub, ub, Dc_ok, ef, num_spec TW, hf]
      refine ⟨_, fun _ => rfl, fun j hj => ?_⟩
      rcases hj with rfl | rfl | rfl | rfl | rfl <;> simp
    exact ⟨t', e, H.F, H.wf, ht⟩
set_option maxHeartbeats 4000000 in
/-- an entry under both heads -/
theorem kept_b4 (g : AHeap) (t : List Value) (q p d room wr : Nat) (O : Nat → Prop) (name ct : List UInt8) (rows : List (List UInt8)) (vo : Value) (L : LogAt g O p d name ct (rows.map lh) room wr) (RO : RowsO C.old g vo rows) (big : ∀ r, r ∈ rows → r.length ≤ 16384) (rl : rows.length ≤ 64) (wf : g.lo ≤ g.bs.length) (om hn : Nat) (h0 : 0 < om) (hle : om ≤ hn) (hnl : hn ≤ rows.length)
    (rv sz atv oth : Value) (bit : Int) (ats : List Nat) (HA : ArgN C.old atv ats)
    (a8 : g.at q = some (.cells (uv om :: bytesVals (rootL ((rows.map lh).take om))) 36)) (a9 : g.at (q + 1) = some (.cells (uv hn :: bytesVals (rootL ((rows.map lh).take hn))) 36)) (a11 : g.at (q + 2) = some (.cells [rv, sz, atv, oth, zv bit] 65))
    (t0 : tg t 0 = .pointer (some ⟨p, 0, some 0⟩)) (t1 : tg t 1 = vo) (t8 : tg t 8 = .pointer (some ⟨q, 0, some 0⟩)) (t9 : tg t 9 = .pointer (some ⟨q + 1, 0, some 0⟩)) (t11 : tg t 11 = .pointer (some ⟨q + 2, 0, some 0⟩)) :
    ∃ g', R C r32 [.code kp8] t [] g = some (.bool true, g') ∧ Fr g g' (fun _ => False) := by
  have r2 : rd1 (some (.cells [rv, sz, atv, oth, zv bit] 65)) 2 0 = some atv := rfl
  have ua := HA.und
  have la := HA.lenV
  by_cases hl : ats.length = 0
  · rw [hl] at la
    refine ⟨g, ?_, Fr.refl _ _⟩
    simp [kp0, kp1, kp2, kp3, kp4, kp5, kp6, kp7, kp8, s1, s2, b32, t11, a11, r2, stp_ok ua, la, r32]
  · obtain ⟨aa, acp, hav, ra, rb⟩ := HA.get (i := 0) (by omega)
    generalize ats.getD 0 0 = a0 at ra rb
    have hmod := Nat.mod_lt a0 h0
    have em := uv_rem (a := a0) (b := om) h0
    generalize a0 % om = n at hmod em
    have h32 : ∀ y, y ∈ rows.map lh → y.length = 32 := fun y hy => by
      obtain ⟨z, _, hz⟩ := List.mem_map.1 hy
      rw [← hz]; exact sha_length _
    have hml : (rows.map lh).length = rows.length := by simp
    have lo' : ((rows.map lh).take om).length = om := by simp; omega
    have lh' : ((rows.map lh).take hn).length = hn := by simp; omega
    have i1 := incl_path (l := (rows.map lh).take om) (i := n) (by omega) (by omega)
    have i2 := incl_path (l := (rows.map lh).take hn) (i := n) (by omega) (by omega)
    rw [lo'] at i1
    rw [lh'] at i2
    have g1 : ((rows.map lh).take om).getD n [] = lh (rows.getD n []) := by
      simp only [List.getD_eq_getElem?_getD, List.getElem?_take, List.getElem?_map]
      rw [if_pos hmod, List.getElem?_eq_getElem (by omega)]; rfl
    have g2 : ((rows.map lh).take hn).getD n [] = lh (rows.getD n []) := by
      simp only [List.getD_eq_getElem?_getD, List.getElem?_take, List.getElem?_map]
      rw [if_pos (by omega), List.getElem?_eq_getElem (by omega)]; rfl
    rw [g1] at i1
    rw [g2] at i2
    have ro := rootL_length _ (mem_take32 h32 om)
    have rh := rootL_length _ (mem_take32 h32 hn)
    -- the leaf
    obtain ⟨rra, a3, cp3, hv3, r3, sr⟩ := RO.get (i := n) (by omega)
    have rle : (rows.getD n []).length ≤ 16384 := by
      rw [List.getD_eq_getElem?_getD, List.getElem?_eq_getElem (by omega)]
      exact big _ (List.getElem_mem _)
    generalize rows.getD n [] = row at r3 sr rle i1 i2
    obtain ⟨a, vc, ec, oc, fa, bc⟩ := copy_spec TW g row a3 row.length cp3 (sr g) (by omega) wf
    obtain ⟨ac, cpc, hvc⟩ := oc.slice
    have sc := oc.sl (old := C.old) (by omega)
    rw [hvc] at sc ec
    have elf := leaf_spec TD hk a row ac row.length cpc sc (by omega)
    have lfl : (lh row).length = 32 := sha_length _
    have hlf : sha (0 :: row) = lh row := rfl
    rw [hlf] at elf
    generalize lh row = lf at elf lfl i1 i2
    have ale := fa.len
    have ao := fa.lo
    have hz : Value.int .u8 0 = bv 0 := rfl
    generalize hZ : ABlock.cells (List.replicate 32 (bv 0)) 31 = Z
    have hZ0 := hZ
    simp [List.replicate] at hZ
    obtain ⟨b, hb, z25, B25, bl, bo, fb⟩ := new_step (g := a) (vs := bytesVals lf) hZ0
    have w25 := wr_arr (n := 32) hZ0 (vs := bytesVals lf) (by simp [lfl]) bytes_ok
    have Fb : Fr g b (fun _ => False) := fa.trans fb (fun _ h => h) (fun _ h _ => h)
    have b8 := Fb.get a8 (fun h => h)
    -- the paths
    obtain ⟨c, v0, e0, D0, fc, bl0⟩ := prove_spec T TD hk b O p d room wr name ct (rows.map lh) (L.fr Fb (fun _ _ h => h)) n om hmod (by omega) (by omega) (by omega)
    have cl := fc.len
    have co := fc.lo
    have Fc : Fr g c (fun _ => False) := Fb.trans fc (fun _ h => h) (fun _ h _ => h)
    have c9 := Fc.get a9 (fun h => h)
    obtain ⟨e, v1, e1, D1, fe, bl1⟩ := prove_spec T TD hk c O p d room wr name ct (rows.map lh) (L.fr Fc (fun _ _ h => h)) n hn (by omega) (by omega) (by omega) (by omega)
    have el := fe.len
    have eo := fe.lo
    have Fe : Fr g e (fun _ => False) := Fc.trans fe (fun _ h => h) (fun _ h _ => h)
    have k8 := Fe.get a8 (fun h => h)
    have k9 := Fe.get a9 (fun h => h)
    have k25 := fe.get (fc.get B25 (fun h => h)) (fun h => h)
    have u0 := D0.1.und
    have u1 := D1.1.und
    have D0' := D0.fr fe (fun _ _ h => h)
    obtain ⟨x0, y0, hv0, d0⟩ := D0'.digR (old := C.old)
    obtain ⟨x1, y1, hv1, d1⟩ := D1.digR (old := C.old)
    have j0 := incl_spec T TD hk e om n (rootL ((rows.map lh).take om)) lf _ ro lfl (by omega) (by omega) x0 y0 d0
    have j1 := incl_spec T TD hk e hn n (rootL ((rows.map lh).take hn)) lf _ rh lfl (by omega) (by omega) x1 y1 d1
    rw [← hv0, i1] at j0
    rw [← hv1, i2] at j1
    generalize rootL ((rows.map lh).take om) = oroot at *
    generalize rootL ((rows.map lh).take hn) = hroot at *
    have ro0 : rd1 (some (.cells (uv om :: bytesVals oroot) 36)) 0 0 = some (uv om) := rfl
    have rh0 : rd1 (some (.cells (uv hn :: bytesVals hroot) 36)) 0 0 = some (uv hn) := rfl
    have rdo := hd_rd (s := om) (fz := 36) ro
    have rdh := hd_rd (s := hn) (fz := 36) rh
    have uvo : isUnd vo = false := by obtain ⟨_, o, _⟩ := RO; exact o.und
    have hl0 : 0 < ats.length := by omega
    have c1 : g.lo ≤ a.bs.length := by omega
    rw [hav] at ua la
    rw [hv3] at uvo
    refine ⟨e, ?_, Fe⟩
    simp [kp0, kp1, kp2, kp3, kp4, kp5, kp6, kp7, kp8, s1, s2, b32, t0, t1, t8, t9, t11, a11, r2, hav, stp_ok ua, la, hl, ixS_iv hl0, ra g, a8, ro0, em, hv3, stp_ok uvo, ixS_uv (show n < rows.length by omega), r3, Dc_ok, ec, elf, hz, hZ, writeN_wr, ao, c1, z25, lfl, w25, hb, b8, e0, stp_ok u0, u0, c9, rh0, e1, stp_ok u1, u1, num_spec TW, k8, k9, k25, rdo, rdh, rd32 lfl, j0, j1, r32]
end Go.Ab.Aud

namespace Go.Ab.Aud
open Go.Sha
variable {C : Ctx} (T : Tab_LLog C) (TD : Tab_LDig C) (TW : Tab_LLaw C) (TG : Tab_LGrow C) (TF : Tab_LFoll C) (hk : ∀ j, j < 64 → C.old 0 j = some (wv (kW j)))
/-- the digests of a proof -/
def prfF (leaves : List (List UInt8)) (om hn : Nat) : List (List UInt8) := if om = 0 then [] else proofF hn (leaves.take hn) om true
theorem prf_ok {l : List (List UInt8)} {om hn : Nat} (h0 : 0 < om) (hle : om ≤ hn) (hl : hn ≤ l.length) (h64 : hn < 2 ^ 64) :
    (prfF l om hn).length = dueF 64 om hn true ∧ (grownF 64 om hn true (rootL (l.take om)) (prfF l om hn)).2 = (rootL (l.take om), rootL (l.take hn)) := by
  have hlen : (l.take hn).length = hn := by simp; omega
  have h := proof_ok hn (l.take hn) om 64 true (by omega) h0 (by omega) (by omega)
  rw [hlen, List.take_take, Nat.min_eq_left hle] at h
  unfold prfF
  rw [if_neg (by omega)]
  exact h
theorem prf_due {l : List (List UInt8)} {om hn : Nat} (hle : om ≤ hn) (hl : hn ≤ l.length) (h64 : hn < 2 ^ 64) : (prfF l om hn).length = dueF 64 om hn true := by
  by_cases h0 : om = 0
  · subst h0; simp [prfF, dueF]
  · exact (prf_ok (by omega) hle hl h64).1
theorem prf_foll {l : List (List UInt8)} {om hn : Nat} (hle : om ≤ hn) (hl : hn ≤ l.length) (h64 : hn < 2 ^ 64) : follF om hn (rootL (l.take om)) (rootL (l.take hn)) (prfF l om hn) = 0 := by
  by_cases h0 : om = 0
  · subst h0
    unfold follF prfF
    have hm : mdown 64 0 hn = [] := by simp [mdown]
    rw [if_neg (by omega), hm, if_neg (by simp [one1]), if_pos rfl]
    have e1 : rootL (l.take 0) = sha [] := rfl
    rw [e1]
    rw [if_neg]
    rintro (h | ⟨rfl, h⟩)
    · exact h rfl
    · exact h e1
  · have h := prf_ok (l := l) (by omega) hle hl h64
    exact (foll_ok h64 (by omega)).2 ⟨hle, h.1, h.2⟩
theorem foll_len {m n : Nat} {o r : List UInt8} {ps : List (List UInt8)} (hle : m ≤ n) (h64 : n < 2 ^ 64) (hl : ps.length ≠ dueF 64 m n true) : follF m n o r ps = 235 := by
  unfold follF
  rw [if_neg (by omega), if_pos]
  by_cases h0 : m = 0
  · subst h0
    have hm : mdown 64 0 n = [] := by simp [mdown]
    rw [hm]
    simpa [dueF, one1] using hl
  · have := due_md 64 m n true (by omega) hle (by omega)
    have he : offW true (mdown 64 m n) = one1 (mdown 64 m n) := rfl
    rw [he] at this
    omega
include T TD TW TG TF hk
theorem kept_spec (h : AHeap) (wf : h.lo ≤ h.bs.length) (p d room wr : Nat) (O : Nat → Prop) (name ct : List UInt8) (rows : List (List UInt8)) (vo : Value) (L : LogAt h O p d name ct (rows.map lh) room wr) (RO : RowsO C.old h vo rows) (big : ∀ r, r ∈ rows → r.length ≤ 16384) (rl : rows.length ≤ 64) (om hn : Nat) (hle : om ≤ hn) (hnl : hn ≤ rows.length)
    (v : Value) (DP : DigV C.old h v (prfF (rows.map lh) om hn)) (rv sz atv oth : Value) (bit : Int) (ats : List Nat) (HA : ArgN C.old atv ats) (o1 : okCell rv = true) (o2 : okCell sz = true) (o4 : okCell oth = true) :
    ∃ h', D C 32 [.pointer (some ⟨p, 0, some 0⟩), vo, .agg ⟨uv om :: bytesVals (rootL ((rows.map lh).take om))⟩, .agg ⟨uv hn :: bytesVals (rootL ((rows.map lh).take hn))⟩, v, .agg ⟨[rv, sz, atv, oth, zv bit]⟩] h = some (.bool true, h') ∧ Fr h h' (fun _ => False) := by
  have h32 : ∀ y, y ∈ rows.map lh → y.length = 32 := fun y hy => by
    obtain ⟨z, _, hz⟩ := List.mem_map.1 hy
    rw [← hz]; exact sha_length _
  have hml : (rows.map lh).length = rows.length := by simp
  have ro := rootL_length _ (mem_take32 h32 om)
  have rh := rootL_length _ (mem_take32 h32 hn)
  by_cases h0 : om = 0
  · subst h0
    have e0 : prfF (rows.map lh) 0 hn = [] := rfl
    rw [e0] at DP
    exact kept_zero T TD TW TG TF hk h wf p hn _ rh (by omega) vo v rv sz atv oth bit DP o1 o2 HA.okc o4
  · obtain ⟨hd, hg⟩ := prf_ok (l := rows.map lh) (by omega) hle (by omega) (by omega)
    have uvo : isUnd vo = false := by obtain ⟨_, o, _⟩ := RO; exact o.und
    have P32 : ∀ y, y ∈ prfF (rows.map lh) om hn → y.length = 32 := by obtain ⟨_, _, _, d⟩ := DP; exact d.2
    have d130 : dueF 64 om hn true ≤ 65 := (due_spec TW TG 64 om hn true ⟨[], 0⟩ hle (by omega) (by omega) (by omega)).2
    rw [D_fn TF.h32]
    obtain ⟨g1, g, t, vw, vb, b17, b18, e1, F1, a8, a9, a11, P, Pl, K⟩ := kept_b1 T TD TW TG TF hk h wf p om hn _ _ ro rh (by omega) hle (by omega) vo v rv sz atv oth bit _ DP hd hg uvo o1 o2 HA.okc o4
    have l1 := get_lt a11
    have lo1 := F1.lo
    rw [e1, R_split (c := kp6) (a := s1 kp6) (b := s2 kp6) rfl]
    obtain ⟨g2, t2, xr, yr, bad, e2, K2, bl, hdj⟩ := kept_b2 T TD TW TG TF hk g1 g t h.bs.length p vo vw vb b17 b18 om hn _ _ _ K rv sz atv oth bit a11 (by omega) (by omega)
    rw [e2]
    show ∃ h', R C r32 [.code kp7] t2 [] g2 = some (.bool true, h') ∧ _
    rw [R_split (c := kp7) (a := s1 kp7) (b := s2 kp7) rfl]
    obtain ⟨g3, t3, e3, F3, wf3, ht⟩ := kept_b3 T TD TW TG TF hk g1 g2 t2 h.bs.length p vo vw vb b17 b18 om hn xr yr _ _ bad _ K2 (by omega) l1 a8 a9 P Pl (by omega) hle (by omega) ro hd bl hg P32 hdj
    rw [e3]
    have F13 : Fr h g3 (fun _ => False) := F1.trans F3 (fun _ h => h) (fun _ h _ => h)
    obtain ⟨g4, e4, F4⟩ := kept_b4 T TD TW TG TF hk g3 t3 h.bs.length p d room wr O name ct rows vo (L.fr F13 (fun _ _ h => h)) (RO.fr F13 (fun _ _ h => h)) big rl wf3 om hn (by omega) hle hnl rv sz atv oth bit ats HA (F3.get a8 (fun h => h)) (F3.get a9 (fun h => h)) (F3.get a11 (fun h => h))
      ((ht 0 (by omega)).trans K2.t0) ((ht 1 (by omega)).trans K2.t1) ((ht 8 (by omega)).trans K2.t8) ((ht 9 (by omega)).trans K2.t9) ((ht 11 (by omega)).trans K2.t11)
    exact ⟨g4, e4, F13.trans F4 (fun _ h => h) (fun _ h _ => h)⟩
end Go.Ab.Aud

namespace Go.Ab.Aud
open Go.Sha
def fb0 : ACode := blkIn (s1 (s2 lp5_0))
def fb1 : ACode := s2 fb0
def fb2 : ACode := s2 fb1
def fb3 : ACode := s2 fb2
def fb4 : ACode := s2 fb3
def fb5 : ACode := s2 fb4
def fb6 : ACode := s2 fb5
def fb7 : ACode := s2 fb6
def fb8 : ACode := s2 fb7
def fb9 : ACode := s2 fb8
def finc : ACode := s2 (s2 lp5_0)
theorem lp5_e : lp5_0 = .seq (s1 lp5_0) (.seq (.block 1 fb0) finc) := rfl
theorem fb_e7 : fb6 = .seq (s1 fb6) (.seq (s1 fb7) fb8) := rfl
theorem fb_e5 : fb0 = .seq (s1 fb0) (.seq (s1 fb1) (.seq (s1 fb2) (.seq (s1 fb3) (.seq (s1 fb4) fb5)))) := rfl
/-- where the loop stands -/
structure FS (C : Ctx) (g : AHeap) (t : List Value) (bE p d room wr : Nat) (O : Nat → Prop) (name ct : List UInt8) (rows : List (List UInt8)) (vo : Value) (E : List Value) (i : Nat) : Prop where
  aE : g.at bE = some (.cells E 65)
  L : LogAt g O p d name ct (rows.map lh) room wr
  RO : RowsO C.old g vo rows
  t1 : tg t 1 = .pointer (some ⟨bE, 0, some 0⟩)
  t3 : tg t 3 = .pointer (some ⟨p, 0, some 0⟩)
  t4 : tg t 4 = vo
  t5 : tg t 5 = iv i
  wf : g.lo ≤ g.bs.length
theorem FS.mv {C : Ctx} {g g' : AHeap} {t t' : List Value} {bE p d room wr : Nat} {O : Nat → Prop} {name ct : List UInt8} {rows : List (List UInt8)} {vo : Value} {E : List Value} {i i' : Nat} (H : FS C g t bE p d room wr O name ct rows vo E i) (f : Fr g g' (fun _ => False)) (t1 : tg t' 1 = tg t 1) (t3 : tg t' 3 = tg t 3) (t4 : tg t' 4 = tg t 4) (t5 : tg t' 5 = iv i') :
    FS C g' t' bE p d room wr O name ct rows vo E i' :=
  ⟨f.get H.aE (fun h => h), H.L.fr f (fun _ _ h => h), H.RO.fr f (fun _ _ h => h), t1.trans H.t1, t3.trans H.t3, t4.trans H.t4, t5, by rw [f.lo]; have := f.len; have := H.wf; omega⟩
/-- what one round of the loop has laid -/
structure FR (C : Ctx) (g : AHeap) (t : List Value) (b8 b10 sz om : Nat) (hroot oroot : List UInt8) (v : Value) (ps : List (List UInt8)) : Prop where
  t6 : tg t 6 = uv sz
  t7 : tg t 7 = uv om
  t8 : tg t 8 = .pointer (some ⟨b8, 0, some 0⟩)
  t9 : tg t 9 = iv 0
  t10 : tg t 10 = .pointer (some ⟨b10, 0, some 0⟩)
  t11 : tg t 11 = iv 0
  t12 : tg t 12 = v
  t13 : tg t 13 = iv 0
  a8 : g.at b8 = some (.cells (uv sz :: bytesVals hroot) 36)
  a10 : g.at b10 = some (.cells (uv om :: bytesVals oroot) 36)
  D : DigV C.old g v ps
theorem FR.mv {C : Ctx} {g g' : AHeap} {t t' : List Value} {b8 b10 sz om : Nat} {hroot oroot : List UInt8} {v : Value} {ps : List (List UInt8)} (H : FR C g t b8 b10 sz om hroot oroot v ps) (f : Fr g g' (fun _ => False)) (ht : ∀ j, 6 ≤ j → j ≤ 13 → tg t' j = tg t j) : FR C g' t' b8 b10 sz om hroot oroot v ps :=
  ⟨(ht 6 (by omega) (by omega)).trans H.t6, (ht 7 (by omega) (by omega)).trans H.t7, (ht 8 (by omega) (by omega)).trans H.t8, (ht 9 (by omega) (by omega)).trans H.t9, (ht 10 (by omega) (by omega)).trans H.t10, (ht 11 (by omega) (by omega)).trans H.t11, (ht 12 (by omega) (by omega)).trans H.t12, (ht 13 (by omega) (by omega)).trans H.t13, f.get H.a8 (fun h => h), f.get H.a10 (fun h => h), H.D.fr f⟩
variable {C : Ctx} (T : Tab_LLog C) (TD : Tab_LDig C) (TW : Tab_LLaw C) (TG : Tab_LGrow C) (TF : Tab_LFoll C) (hk : ∀ j, j < 64 → C.old 0 j = some (wv (kW j)))
include T TD TW TG TF hk
section
variable (g : AHeap) (t : List Value) (bE p d room wr : Nat) (O : Nat → Prop) (name ct : List UInt8) (rows : List (List UInt8)) (vo rv szv atv oth : Value) (bit : Int) (szs ats : List Nat) (i : Nat) (H : FS C g t bE p d room wr O name ct rows vo [rv, szv, atv, oth, zv bit] i) (HS : ArgN C.old szv szs) (HA : ArgN C.old atv ats) (rl : rows.length ≤ 64)
include H HS HA rl
theorem fol_a (h1 : i < szs.length) (h2 : i < ats.length) : ∃ g' t' b8 b10 sz om v, (∀ K, R C r5 (.code fb0 :: K) t [] g = R C r5 (.code fb5 :: K) t' [] g') ∧ Fr g g' (fun _ => False) ∧ sz ≤ rows.length ∧ om ≤ sz ∧
    FR C g' t' b8 b10 sz om (rootL ((rows.map lh).take sz)) (rootL ((rows.map lh).take om)) v (prfF (rows.map lh) om sz) ∧ tg t' 1 = tg t 1 ∧ tg t' 3 = tg t 3 ∧ tg t' 4 = tg t 4 ∧ tg t' 5 = tg t 5 := by
  have wf := H.wf
  obtain ⟨asz, scp, hsv, rs, bs⟩ := HS.get h1
  obtain ⟨aa, acp, hav, ra, ba⟩ := HA.get h2
  have us := HS.und
  have ua := HA.und
  have q1 : rd1 (some (.cells [rv, szv, atv, oth, zv bit] 65)) 1 0 = some szv := rfl
  have q2 : rd1 (some (.cells [rv, szv, atv, oth, zv bit] 65)) 2 0 = some atv := rfl
  have uvo : isUnd vo = false := by obtain ⟨_, o, _⟩ := H.RO; exact o.und
  have lvo : lenV vo = some (iv rows.length) := by obtain ⟨_, o, _⟩ := H.RO; exact o.lenV
  generalize szs.getD i 0 = s0 at rs bs
  generalize ats.getD i 0 = a0 at ra ba
  have m1 := Nat.mod_lt s0 (show 0 < rows.length + 1 by omega)
  have e1 := uv_rem (a := s0) (b := rows.length + 1) (by omega)
  generalize s0 % (rows.length + 1) = sz at m1 e1
  have m2 := Nat.mod_lt a0 (show 0 < sz + 1 by omega)
  have e2 := uv_rem (a := a0) (b := sz + 1) (by omega)
  generalize a0 % (sz + 1) = om at m2 e2
  have h32 : ∀ y, y ∈ rows.map lh → y.length = 32 := fun y hy => by
    obtain ⟨z, _, hz⟩ := List.mem_map.1 hy
    rw [← hz]; exact sha_length _
  have hml : (rows.map lh).length = rows.length := by simp
  have rh := rootL_length _ (mem_take32 h32 sz)
  have ro := rootL_length _ (mem_take32 h32 om)
  have hz : Value.int .u8 0 = bv 0 := rfl
  generalize hZ : ABlock.cells (uv 0 :: List.replicate 32 (bv 0)) 36 = Z
  have hZ0 := hZ
  simp [List.replicate] at hZ
  obtain ⟨a, ea, fa⟩ := head_spec T TD hk g O p d room wr name ct (rows.map lh) H.L sz (by omega) (by omega) wf
  obtain ⟨a1, ha1, z8, A8, l1, o1, f1⟩ := new_step (g := a) (vs := uv sz :: bytesVals (rootL ((rows.map lh).take sz))) hZ0
  have w8 := wr_all hZ0 (vs := uv sz :: bytesVals (rootL ((rows.map lh).take sz))) (by simp [rh]) (by rw [List.all_cons, bytes_ok]; rfl)
  have F1 : Fr g a1 (fun _ => False) := fa.trans f1 (fun _ h => h) (fun _ h _ => h)
  have al := fa.len
  have ao := fa.lo
  obtain ⟨b, eb, fb⟩ := head_spec T TD hk a1 O p d room wr name ct (rows.map lh) (H.L.fr F1 (fun _ _ h => h)) om (by omega) (by omega) (by omega)
  obtain ⟨b1, hb1, z10, B10, l2, o2, f2⟩ := new_step (g := b) (vs := uv om :: bytesVals (rootL ((rows.map lh).take om))) hZ0
  have w10 := wr_all hZ0 (vs := uv om :: bytesVals (rootL ((rows.map lh).take om))) (by simp [ro]) (by rw [List.all_cons, bytes_ok]; rfl)
  have F12 : Fr a1 b1 (fun _ => False) := fb.trans f2 (fun _ h => h) (fun _ h _ => h)
  have F2 : Fr g b1 (fun _ => False) := F1.trans F12 (fun _ h => h) (fun _ h _ => h)
  have bl := fb.len
  have bo := fb.lo
  obtain ⟨c, v, ec, Dc', fc⟩ := follow_spec T TD hk b1 O p d room wr name ct (rows.map lh) (H.L.fr F2 (fun _ _ h => h)) om sz (by omega) (by omega) (by omega) (by omega)
  obtain ⟨va, vcp, hv, dv, lv⟩ := Dc'
  have uv' : isUnd v = false := by rw [hv]; rfl
  have F3 : Fr g c (fun _ => False) := F2.trans fc (fun _ h => h) (fun _ h _ => h)
  have c1 : g.lo ≤ a.bs.length := by omega
  have c2 : a1.lo ≤ b.bs.length := by omega
  have sz63 : rows.length + 1 < 18446744073709551616 := by omega
  have hE := H.aE
  rw [hsv, hav] at hE
  rw [hsv] at us q1
  rw [hav] at ua q2
  have q1' : rd1 (some (.cells [rv, .slice (some asz) szs.length scp, .slice (some aa) ats.length acp, oth, zv bit] 65)) 1 0 = some (.slice (some asz) szs.length scp) := rfl
  have q2' : rd1 (some (.cells [rv, .slice (some asz) szs.length scp, .slice (some aa) ats.length acp, oth, zv bit] 65)) 2 0 = some (.slice (some aa) ats.length acp) := rfl
  obtain ⟨t', e, ht, u6, u7, u8, u9, u10, u11, u12, u13⟩ : ∃ t', (∀ K, R C r5 (.code fb0 :: K) t [] g = R C r5 (.code fb5 :: K) t' [] c) ∧ (tg t' 1 = tg t 1 ∧ tg t' 3 = tg t 3 ∧ tg t' 4 = tg t 4 ∧ tg t' 5 = tg t 5) ∧ tg t' 6 = uv sz ∧ tg t' 7 = uv om ∧ tg t' 8 = .pointer (some ⟨a.bs.length, 0, some 0⟩) ∧ tg t' 9 = iv 0 ∧ tg t' 10 = .pointer (some ⟨b.bs.length, 0, some 0⟩) ∧ tg t' 11 = iv 0 ∧ tg t' 12 = v ∧ tg t' 13 = iv 0 := by
    rw [fb_e5]
    simp [fb0, fb1, fb2, fb3, fb4, blkIn, s1, s2, lp5_0, H.t1, H.t3, H.t4, H.t5, hE, q1', q2', ixS_iv h1, ixS_iv h2, rs g, ra g, stp_ok uvo, lvo, iv_add (a := rows.length) (b := 1) (by omega), cvt_iu sz63, e1, uv_add (a := sz) (b := 1) (by omega), e2, Dc_ok, ea, hz, hZ, rh, writeN_wr, ao, c1, z8, w8, ha1, eb, ro, bo, c2, z10, w10, hb1, ec, stp_ok uv', uv']
    exact ⟨_, fun _ => rfl, ⟨by simp [H.t1], by simp [H.t3], by simp [H.t4], by simp [H.t5]⟩, by simp, by simp, by simp, by simp, by simp, by simp, by simp, by simp⟩
  exact ⟨c, t', a.bs.length, b.bs.length, sz, om, v, e, F3, by omega, by omega, ⟨u6, u7, u8, u9, u10, u11, u12, u13, fc.get (F12.get A8 (fun h => h)) (fun h => h), fc.get B10 (fun h => h), va, vcp, hv, dv⟩, ht⟩
end
section
variable (g : AHeap) (t : List Value) (b8 b10 sz om : Nat) (leaves : List (List UInt8)) (v : Value) (h32 : ∀ y, y ∈ leaves → y.length = 32) (hl : leaves.length ≤ 64) (h1 : om ≤ sz) (h2 : sz ≤ leaves.length) (W : FR C g t b8 b10 sz om (rootL (leaves.take sz)) (rootL (leaves.take om)) v (prfF leaves om sz)) (wf : g.lo ≤ g.bs.length)
include h32 hl h1 h2 W wf
/-- what is told fits -/
theorem fol_b : ∃ t', (∀ K, R C r5 (.code (s1 fb5) :: K) t [] g = R C r5 K t' [] g) ∧ (∀ j, j ≤ 13 → tg t' j = tg t j) := by
  have rh := rootL_length _ (mem_take32 h32 sz)
  have ro := rootL_length _ (mem_take32 h32 om)
  have uV := W.D.und
  have lV := W.D.lenV
  have ed := (due_spec TW TG 64 om sz true g h1 (by omega) (by omega) (by omega)).1
  have hd := prf_due (l := leaves) h1 h2 (by omega)
  have hf := prf_foll (l := leaves) h1 h2 (by omega)
  obtain ⟨va, vcp, hv, dR⟩ := W.D
  have ef := foll_spec T TD hk g om sz _ _ _ ro rh (by omega) (by omega) va vcp dR
  rw [← hv, hf] at ef
  have q8 := hd_0 (s := sz) (r := rootL (leaves.take sz)) (fz := 36)
  have q10 := hd_0 (s := om) (r := rootL (leaves.take om)) (fz := 36)
  have p8 := hd_rd (s := sz) (fz := 36) rh
  have p10 := hd_rd (s := om) (fz := 36) ro
  simp [fb0, fb1, fb2, fb3, fb4, fb5, blkIn, s1, s2, lp5_0, W.t6, W.t7, W.t8, W.t9, W.t10, W.t11, W.t12, W.t13, Dc_ok, num_spec TW, W.a8, W.a10, q8, q10, stp_ok uV, uV, lV, ed, hd, p8, p10, ef]
  refine ⟨_, fun _ => rfl, fun j hj => ?_⟩
  simp only [tg_ts]
  repeat rw [if_neg (by omega)]
/-- with one more, with one less -/
theorem fol_c : ∃ g' t', (∀ K, R C r5 (.code fb6 :: K) t [] g = R C r5 (.code fb8 :: K) t' [] g') ∧ Fr g g' (fun _ => False) ∧ (∀ j, j ≤ 13 → tg t' j = tg t j) := by
  have rh := rootL_length _ (mem_take32 h32 sz)
  have ro := rootL_length _ (mem_take32 h32 om)
  have hd := prf_due (l := leaves) h1 h2 (by omega)
  have d65 := (due_spec TW TG 64 om sz true g h1 (by omega) (by omega) (by omega)).2
  have hz : Value.int .u8 0 = bv 0 := rfl
  have hone : Value.int .u8 1 = bv 1 := rfl
  obtain ⟨v', g1, e1, D1, f1, b1⟩ := dig_copy W.D (by omega) wf
  have l1 := f1.len
  have o1 := f1.lo
  generalize hx : (1 :: List.replicate 31 0 : List UInt8) = x
  have hxl : x.length = 32 := by rw [← hx]; rfl
  have hxb : bytesVals x = bv 1 :: List.replicate 31 (bv 0) := by rw [← hx]; simp [bytesVals_eq]
  have hxb2 := hxb
  simp [List.replicate] at hxb2
  obtain ⟨v2, g2, e2, D2, f2, b2⟩ := dig_append (old := C.old) D1 hxl (by omega) (by omega)
  have F2 : Fr g g2 (fun _ => False) := f1.trans f2 (fun _ h => h) (fun j hj hl => by have := b1 j hj; omega)
  have k8 := F2.get W.a8 (fun h => h)
  have k10 := F2.get W.a10 (fun h => h)
  have p8 := hd_rd (s := sz) (fz := 36) rh
  have p10 := hd_rd (s := om) (fz := 36) ro
  have uV := W.D.und
  have lV := W.D.lenV
  have u1 := D1.1.und
  have u2 := D2.1.und
  obtain ⟨x2, y2, hv2, d2⟩ := D2.digR (old := C.old)
  have ef := foll_spec T TD hk g2 om sz _ _ _ ro rh (by omega) (by omega) x2 y2 d2
  rw [← hv2, foll_len h1 (by omega) (by rw [List.length_append]; simp; omega)] at ef
  have W2 := W.D.fr F2
  obtain ⟨va, vcp, hv, dR⟩ := W2
  generalize hps : prfF leaves om sz = ps at *
  have zs : splice (List.replicate 32 (bv 0)) 0 [bv 1] = bytesVals x := by rw [hxb]; rfl
  have zs2 : splice (List.replicate 32 (bv 0)) 0 (bytesVals x) = bytesVals x := by simp [splice, hxl]
  simp [List.replicate] at zs zs2
  refine ⟨g2, ?_⟩
  have hxok : ∀ y, y ∈ bytesVals x → okCell y = true := List.all_eq_true.1 bytes_ok
  by_cases h0 : ps.length = 0
  · rw [h0] at lV
    obtain ⟨t', e, ht⟩ : ∃ t', (∀ K, R C r5 (.code fb6 :: K) t [] g = R C r5 (.code fb8 :: K) t' [] g2) ∧ (∀ j, j ≤ 13 → tg t' j = tg t j) := by
      rw [fb_e7]
      simp [fb0, fb1, fb2, fb3, fb4, fb5, fb6, fb7, blkIn, s1, s2, lp5_0, W.t8, W.t10, W.t12, fillCells, stp_ok uV, uV, e1, stp_ok u1, hz, hone, zs, hxl, zs2, eq_true hxok, e2, stp_ok u2, k8, k10, p8, p10, u2, Dc_ok, ef, num_spec TW, lV]
      refine ⟨_, fun _ => rfl, fun j hj => ?_⟩
      simp only [tg_ts]
      repeat rw [if_neg (by omega)]
    exact ⟨t', e, F2, ht⟩
  · obtain ⟨a', c', sl, d', lv⟩ := dR.lower (ps.length - 1) (by omega)
    have el := foll_spec T TD hk g2 om sz _ _ _ ro rh (by omega) (by omega) a' c' d'
    have hl' : (ps.take (ps.length - 1)).length = ps.length - 1 := by simp
    rw [hl', foll_len h1 (by omega) (by rw [hl']; omega)] at el
    have hp : 0 < ps.length := by omega
    rw [hv] at uV lV
    obtain ⟨t', e, ht⟩ : ∃ t', (∀ K, R C r5 (.code fb6 :: K) t [] g = R C r5 (.code fb8 :: K) t' [] g2) ∧ (∀ j, j ≤ 13 → tg t' j = tg t j) := by
      rw [fb_e7]
      rw [hv] at e1
      simp [fb0, fb1, fb2, fb3, fb4, fb5, fb6, fb7, blkIn, s1, s2, lp5_0, W.t8, W.t10, W.t12, hv, fillCells, stp_ok uV, uV, e1, stp_ok u1, hz, hone, zs, hxl, zs2, eq_true hxok, e2, stp_ok u2, k8, k10, p8, p10, u2, Dc_ok, ef, num_spec TW, lV, hp, iv_sub (a := ps.length) (b := 1) (by omega) (by omega), sl, el]
      refine ⟨_, fun _ => rfl, fun j hj => ?_⟩
      simp only [tg_ts]
      repeat rw [if_neg (by omega)]
    exact ⟨t', e, F2, ht⟩
/-- the later one is not followed by the earlier one -/
theorem fol_d : ∃ t', (∀ K, R C r5 (.code (s1 fb8) :: K) t [] g = R C r5 K t' [] g) ∧ (∀ j, j ≤ 13 → tg t' j = tg t j) := by
  have rh := rootL_length _ (mem_take32 h32 sz)
  have ro := rootL_length _ (mem_take32 h32 om)
  have p8 := hd_rd (s := sz) (fz := 36) rh
  have p10 := hd_rd (s := om) (fz := 36) ro
  have uV := W.D.und
  by_cases hlt : om < sz
  · obtain ⟨va, vcp, hv, dR⟩ := W.D
    have ef := foll_spec T TD hk g sz om _ _ _ rh ro (by omega) (by omega) va vcp dR
    have hf : follF sz om (rootL (leaves.take sz)) (rootL (leaves.take om)) (prfF leaves om sz) = 230 := by unfold follF; rw [if_pos hlt]
    rw [← hv, hf] at ef
    simp [fb0, fb1, fb2, fb3, fb4, fb5, fb6, fb7, fb8, blkIn, s1, s2, lp5_0, W.t6, W.t7, W.t8, W.t10, W.t12, hlt, W.a8, W.a10, p8, p10, stp_ok uV, uV, Dc_ok, ef, num_spec TW]
    refine ⟨_, fun _ => rfl, fun j hj => ?_⟩
    simp only [tg_ts]
    repeat rw [if_neg (by omega)]
  · simp [fb0, fb1, fb2, fb3, fb4, fb5, fb6, fb7, fb8, blkIn, s1, s2, lp5_0, W.t6, W.t7, W.t8, W.t10, W.t12, hlt]
    refine ⟨_, fun _ => rfl, fun j hj => ?_⟩
    simp only [tg_ts]
    repeat rw [if_neg (by omega)]
end
end Go.Ab.Aud

namespace Go.Ab.Aud
open Go.Sha
variable {C : Ctx} (T : Tab_LLog C) (TD : Tab_LDig C) (TW : Tab_LLaw C) (TG : Tab_LGrow C) (TF : Tab_LFoll C) (hk : ∀ j, j < 64 → C.old 0 j = some (wv (kW j))) (hp : ∀ j, j < 16 → C.old 1 j = some (wv (crcW j)))
section
include T TD TW TG TF hk
/-- a round of the loop -/
theorem fol_round (g : AHeap) (t : List Value) (bE p d room wr : Nat) (O : Nat → Prop) (name ct : List UInt8) (rows : List (List UInt8)) (vo rv szv atv oth : Value) (bit : Int) (szs ats : List Nat) (i : Nat) (H : FS C g t bE p d room wr O name ct rows vo [rv, szv, atv, oth, zv bit] i) (HS : ArgN C.old szv szs) (HA : ArgN C.old atv ats) (rl : rows.length ≤ 64) (big : ∀ r, r ∈ rows → r.length ≤ 16384)
    (o1 : okCell rv = true) (o4 : okCell oth = true) (h1 : i < szs.length) (h2 : i < ats.length) (h3 : i < 20) :
    ∃ g' t', (∀ K, R C r5 (.inLoop lp5_0 :: .inBlock 0 :: K) t [] g = R C r5 (.inLoop lp5_0 :: .inBlock 0 :: K) t' [] g') ∧ Fr g g' (fun _ => False) ∧ FS C g' t' bE p d room wr O name ct rows vo [rv, szv, atv, oth, zv bit] (i + 1) := by
  have us := HS.und
  have ua := HA.und
  have ls := HS.lenV
  have la := HA.lenV
  have q1 : rd1 (some (.cells [rv, szv, atv, oth, zv bit] 65)) 1 0 = some szv := rfl
  have q2 : rd1 (some (.cells [rv, szv, atv, oth, zv bit] 65)) 2 0 = some atv := rfl
  obtain ⟨t1, e1, ht1⟩ : ∃ t', (∀ K, R C r5 (.inLoop lp5_0 :: K) t [] g = R C r5 (.code fb0 :: .inBlock 1 :: .code finc :: .inLoop lp5_0 :: K) t' [] g) ∧ (∀ j, j ≤ 13 → tg t' j = tg t j) := by
    refine ex_step (fun k => R_open lp5_e) ?_
    simp [s1, lp5_0, H.t1, H.t5, H.aE, q1, q2, stp_ok us, us, ls, h1, stp_ok ua, ua, la, h2, h3]
    refine ⟨_, fun _ => rfl, fun j hj => ?_⟩
    simp only [tg_ts]
    repeat rw [if_neg (by omega)]
  have H1 := H.mv (t' := t1) (Fr.refl _ _) (ht1 1 (by omega)) (ht1 3 (by omega)) (ht1 4 (by omega)) ((ht1 5 (by omega)).trans H.t5)
  obtain ⟨g2, t2, b8, b10, sz, om, v, e2, F2, hsz, hom, W2, x1, x3, x4, x5⟩ := fol_a T TD TW TG TF hk g t1 bE p d room wr O name ct rows vo rv szv atv oth bit szs ats i H1 HS HA rl h1 h2
  have H2 := H1.mv F2 x1 x3 x4 (x5.trans H1.t5)
  have h32 : ∀ y, y ∈ rows.map lh → y.length = 32 := fun y hy => by
    obtain ⟨z, _, hz⟩ := List.mem_map.1 hy
    rw [← hz]; exact sha_length _
  have hml : (rows.map lh).length = rows.length := by simp
  obtain ⟨t3, e3, ht3⟩ := fol_b T TD TW TG TF hk g2 t2 b8 b10 sz om (rows.map lh) v h32 (by omega) hom (by omega) W2 H2.wf
  have W3 := W2.mv (Fr.refl _ _) (fun j a b => ht3 j b)
  have H3 := H2.mv (t' := t3) (Fr.refl _ _) (ht3 1 (by omega)) (ht3 3 (by omega)) (ht3 4 (by omega)) ((ht3 5 (by omega)).trans H2.t5)
  obtain ⟨g4, t4, e4, F4, ht4⟩ := fol_c T TD TW TG TF hk g2 t3 b8 b10 sz om (rows.map lh) v h32 (by omega) hom (by omega) W3 H3.wf
  have W4 := W3.mv F4 (fun j a b => ht4 j b)
  have H4 := H3.mv F4 (ht4 1 (by omega)) (ht4 3 (by omega)) (ht4 4 (by omega)) ((ht4 5 (by omega)).trans H3.t5)
  obtain ⟨t5, e5, ht5⟩ := fol_d T TD TW TG TF hk g4 t4 b8 b10 sz om (rows.map lh) v h32 (by omega) hom (by omega) W4 H4.wf
  have W5 := W4.mv (Fr.refl _ _) (fun j a b => ht5 j b)
  have H5 := H4.mv (t' := t5) (Fr.refl _ _) (ht5 1 (by omega)) (ht5 3 (by omega)) (ht5 4 (by omega)) ((ht5 5 (by omega)).trans H4.t5)
  obtain ⟨g6, e6, F6⟩ := kept_spec T TD TW TG TF hk g4 H5.wf p d room wr O name ct rows vo H5.L H5.RO big rl om sz hom hsz v W5.D rv szv atv oth bit ats HA o1 HS.okc o4
  have rh := rootL_length _ (mem_take32 h32 sz)
  have ro := rootL_length _ (mem_take32 h32 om)
  have p8 := hd_rd (s := sz) (fz := 36) rh
  have p10 := hd_rd (s := om) (fz := 36) ro
  have uV := W5.D.und
  have uvo : isUnd vo = false := by obtain ⟨_, o, _⟩ := H.RO; exact o.und
  have rE : rdN (some (.cells [rv, szv, atv, oth, zv bit] 65)) 0 0 5 = some [rv, szv, atv, oth, zv bit] := rfl
  obtain ⟨t6, e7, ht6, y5⟩ : ∃ t', (∀ K, R C r5 (.code fb9 :: .inBlock 1 :: .code finc :: K) t5 [] g4 = R C r5 K t' [] g6) ∧ (∀ j, j ≤ 4 → tg t' j = tg t5 j) ∧ tg t' 5 = iv (i + 1) := by
    simp [fb0, fb1, fb2, fb3, fb4, fb5, fb6, fb7, fb8, fb9, finc, blkIn, s1, s2, lp5_0, H5.t1, H5.t3, H5.t4, H5.t5, W5.t8, W5.t10, W5.t12, stp_ok uvo, uvo, W5.a8, W5.a10, p8, p10, stp_ok uV, uV, H5.aE, rE, Dc_ok, e6, iv_add (a := i) (b := 1) (by omega)]
    refine ⟨_, fun _ => rfl, fun j hj => ?_, by simp⟩
    simp only [tg_ts]
    repeat rw [if_neg (by omega)]
  refine ⟨g6, t6, fun K => ?_, (F2.trans F4 (S'' := fun _ => False) (fun _ h => h) (fun _ h _ => h)).trans F6 (fun _ h => h) (fun _ h _ => h), H5.mv F6 (ht6 1 (by omega)) (ht6 3 (by omega)) (ht6 4 (by omega)) y5⟩
  rw [e1, e2, R_split (c := fb5) (a := s1 fb5) (b := s2 fb5) rfl, e3]
  show R C r5 (.code fb6 :: _) _ _ _ = _
  rw [e4, R_split (c := fb8) (a := s1 fb8) (b := s2 fb8) rfl, e5]
  exact e7 _
theorem fol_loop (p d room wr bE : Nat) (O : Nat → Prop) (name ct : List UInt8) (rows : List (List UInt8)) (vo rv szv atv oth : Value) (bit : Int) (szs ats : List Nat) (HS : ArgN C.old szv szs) (HA : ArgN C.old atv ats) (rl : rows.length ≤ 64) (big : ∀ r, r ∈ rows → r.length ≤ 16384)
    (o1 : okCell rv = true) (o4 : okCell oth = true) : ∀ (n i : Nat) (g : AHeap) (t : List Value), i + n = 20 → FS C g t bE p d room wr O name ct rows vo [rv, szv, atv, oth, zv bit] i →
    ∃ g' t', (∀ K, R C r5 (.inLoop lp5_0 :: .inBlock 0 :: K) t [] g = R C r5 K t' [] g') := by
  intro n
  have us := HS.und
  have ua := HA.und
  have ls := HS.lenV
  have la := HA.lenV
  have q1 : rd1 (some (.cells [rv, szv, atv, oth, zv bit] 65)) 1 0 = some szv := rfl
  have q2 : rd1 (some (.cells [rv, szv, atv, oth, zv bit] 65)) 2 0 = some atv := rfl
  have out : ∀ (i : Nat) (g : AHeap) (t : List Value), FS C g t bE p d room wr O name ct rows vo [rv, szv, atv, oth, zv bit] i → ¬ (i < szs.length ∧ i < ats.length ∧ i < 20) → ∃ g' t', (∀ K, R C r5 (.inLoop lp5_0 :: .inBlock 0 :: K) t [] g = R C r5 K t' [] g') := by
    intro i g t H hn
    refine ⟨g, ?_⟩
    refine ex_step0 (fun k => R_open lp5_e) ?_
    by_cases h1 : i < szs.length
    · by_cases h2 : i < ats.length
      · have h3 : ¬ i < 20 := fun h => hn ⟨h1, h2, h⟩
        simp [s1, lp5_0, H.t1, H.t5, H.aE, q1, q2, stp_ok us, us, ls, h1, stp_ok ua, ua, la, h2, h3]
        exact ⟨_, fun _ => rfl⟩
      · simp [s1, lp5_0, H.t1, H.t5, H.aE, q1, q2, stp_ok us, us, ls, h1, stp_ok ua, ua, la, h2]
        exact ⟨_, fun _ => rfl⟩
    · simp [s1, lp5_0, H.t1, H.t5, H.aE, q1, q2, stp_ok us, us, ls, h1]
      exact ⟨_, fun _ => rfl⟩
  induction n with
  | zero => intro i g t hi H; exact out i g t H (by omega)
  | succ n ih =>
    intro i g t hi H
    by_cases hc : i < szs.length ∧ i < ats.length ∧ i < 20
    · obtain ⟨g1, t1, e1, F1, H1⟩ := fol_round T TD TW TG TF hk g t bE p d room wr O name ct rows vo rv szv atv oth bit szs ats i H HS HA rl big o1 o4 hc.1 hc.2.1 hc.2.2
      obtain ⟨g2, t2, e2⟩ := ih (i + 1) g1 t1 (by omega) H1
      exact ⟨g2, t2, fun K => (e1 K).trans (e2 K)⟩
    · exact out i g t H hc
end
section
include T TD TW TG TF hk hp
theorem fol_all (hN : ∀ h, D C 147 [str nmA] h = some (.bool true, h)) (hNu : ∀ h, D C 147 [str nmAudit] h = some (.bool true, h)) (h : AHeap) (wf : h.lo ≤ h.bs.length) (rv szv atv oth : Value) (bit : Int) (rows0 : List (List UInt8)) (szs ats : List Nat) (HR : ArgR C.old rv rows0) (hrl : rows0.length < 2 ^ 63) (HS : ArgN C.old szv szs) (HA : ArgN C.old atv ats) (o4 : okCell oth = true) :
    ∃ g', D C 5 [.agg ⟨[rv, szv, atv, oth, zv bit]⟩] h = some (.bool true, g') := by
  have ew := wakes_spec T TD TW hk hp
  rw [D_fn TF.h5]
  have o1 : okCell rv = true := by obtain ⟨a, cp, vs, h, _⟩ := HR; rw [h]; rfl
  have o2 := HS.okc
  have o3 := HA.okc
  have ur : isUnd rv = false := by obtain ⟨a, cp, vs, h, _⟩ := HR; rw [h]; rfl
  generalize ha : h.push (.cells [rv, szv, atv, oth, zv bit] 65) = a
  have fa : Fr h a (fun _ => False) := by rw [← ha]; exact Fr.push
  have aat : a.at h.bs.length = some (.cells [rv, szv, atv, oth, zv bit] 65) := by rw [← ha]; exact push_self
  have al : a.bs.length = h.bs.length + 1 := by rw [← ha]; simp
  have ao := fa.lo
  have r0 : rd1 (some (.cells [rv, szv, atv, oth, zv bit] 65)) 0 0 = some rv := rfl
  obtain ⟨e, p, d, O, wr, ct, vo, e1, L, RO, fe, hO, hvo⟩ := laid_spec T TD TW hk hp a rv rows0 HR 40 (by omega) hrl (by omega) hNu
  have rl := laidF_len 40 200000 rows0
  have big := laidF_long 40 200000 rows0
  generalize laidF 40 200000 rows0 = rows at L RO rl big
  have el := fe.len
  have eo := fe.lo
  have uvo : isUnd vo = false := by obtain ⟨vs, o, _⟩ := RO; exact o.und
  obtain ⟨t, et, t1, t3, t4, t5⟩ : ∃ t, R C r5 [.code b5] [.agg ⟨[rv, szv, atv, oth, zv bit]⟩] [] h = R C r5 (.inLoop lp5_0 :: .inBlock 0 :: [.code k5_0]) t [] e ∧ tg t 1 = .pointer (some ⟨h.bs.length, 0, some 0⟩) ∧ tg t 3 = .pointer (some ⟨p, 0, some 0⟩) ∧ tg t 4 = vo ∧ tg t 5 = iv 0 := by
    simp [b5, o1, o2, o3, o4, okc_zv, ha, aat, r0, stp_ok ur, ur, Dc_ok, e1, stp_ok uvo, uvo, aeq_nilPs]
    exact ⟨_, rfl, by simp, by simp, by simp, by simp⟩
  obtain ⟨g', t', e2⟩ := fol_loop T TD TW TG TF hk p d 16777216 wr h.bs.length O nmAudit ct rows vo rv szv atv oth bit szs ats HS HA (by omega) big o1 o4 20 0 e t (by omega) ⟨fe.get aat (fun h => h), L, RO, t1, t3, t4, t5, by omega⟩
  rw [et, e2]
  refine ⟨g', ?_⟩
  simp [k5_0, Dc0, ew _ hN, r5]
end
end Go.Ab.Aud

namespace Go.Proofs.YtecbgdnoblhldaaGreatDoor.au
open Go Go.Ab Go.Ab.Aud Go.Sha
section
variable {H : Type} {enc : TypeId × Value → H} {P : Program} {W : World} {spare : Nat → Bool} {held : Bool}
theorem arg_u64s {t e : Nat} {fuel : Nat} {cs : List Value} {x : DataW H × List MemPlace} (ht : P.underlying t = some (.slice e)) (hk : P.cellsOf e = 1) (he : P.underlying e = some (.int .u64)) (hsp : ∀ b, spare b = true)
    (h : DataW.trod enc P W 0 spare held fuel t cs = some x) : ∃ v av l, cs = [v] ∧ oldV v = some av ∧ ArgN (oldOf W) av l := by
  obtain ⟨v, av, a, len, cp, els, h1, h2, h3, h4, h5, h6, h7, h8⟩ := arg_slice ht hk (by omega) hsp (fun c => ∃ m : Nat, m < 18446744073709551616 ∧ c = [uv m]) (fun n cs y _ htr => by
    obtain ⟨n, rfl, _, hw⟩ := DataW.trod_int he htr
    obtain ⟨m, hm, hb⟩ := wf_u64 hw
    refine ⟨[uv m], ⟨rfl, fun i x hx => ?_⟩, m, hm, rfl⟩
    cases i with
    | zero => simp at hx; subst hx; exact ⟨uv m, by rw [hb]; rfl, rfl⟩
    | succ i => simp at hx) h
  have : ∀ els : List (List Value), (∀ c, c ∈ els → (∃ m : Nat, m < 18446744073709551616 ∧ c = [uv m]) ∧ c.length = 1) → ∃ l : List Nat, l.length = els.length ∧ els.flatten = l.map uv ∧ ∀ x, x ∈ l → x < 18446744073709551616 := by
    intro els
    induction els with
    | nil => exact fun _ => ⟨[], rfl, rfl, fun x hx => by cases hx⟩
    | cons c els ih =>
      intro hc
      obtain ⟨l, l1, l2, l3⟩ := ih fun c' hc' => hc c' (by simp [hc'])
      obtain ⟨⟨m, hm, rfl⟩, _⟩ := hc c (by simp)
      exact ⟨m :: l, by simp [l1], by simp [l2], fun x hx => by rcases List.mem_cons.1 hx with rfl | hx; exact hm; exact l3 x hx⟩
  obtain ⟨l, l1, l2, l3⟩ := this els h6
  rw [l2] at h7
  refine ⟨v, av, l, h1, h2, a, cp, by rw [h3, l1, h4], fun g => by rw [l1, h4]; exact h7 g, fun j => by rw [l1, h4]; exact h8 j, l3⟩
end
theorem cells64 : Tryz.prog.cellsOf 64 = 5 := by kernel_rfl
theorem cells23 : Tryz.prog.cellsOf 23 = 1 := by kernel_rfl
section
variable {H : Type} {enc : TypeId × Value → H} {W : World} {spare : Nat → Bool} {held : Bool}
theorem entries_arg {fuel : Nat} {cs : List Value} {x : DataW H × List MemPlace} (hsp : ∀ b, spare b = true) (h : DataW.trod enc Tryz.prog W 0 spare held fuel 64 cs = some x) :
    ∃ rv szv atv oth bit rows szs ats other, OldCells cs [rv, szv, atv, oth, zv bit] ∧ ArgR (oldOf W) rv rows ∧ rows.length < 2 ^ 63 ∧ ArgN (oldOf W) szv szs ∧ ArgN (oldOf W) atv ats ∧ ArgB (oldOf W) oth other := by
  obtain ⟨xs, m, _, _, hl, hxl, hx⟩ := DataW.trod_struct Tryz.underlying64 h
  rw [cells64] at hl
  have hxl : xs.length = 5 := hxl
  have h0 := hx 0 _ rfl
  have h1 := hx 1 _ rfl
  have h2 := hx 2 _ rfl
  have h3 := hx 3 _ rfl
  have h4 := hx 4 _ rfl
  rw [List.getElem?_eq_getElem (by omega)] at h0 h1 h2 h3 h4
  replace h0 : DataW.trod enc Tryz.prog W 0 spare held m 26 ((cs.drop 0).take (Tryz.prog.cellsOf 26)) = _ := h0
  rw [cells26] at h0
  replace h1 : DataW.trod enc Tryz.prog W 0 spare held m 23 ((cs.drop 1).take (Tryz.prog.cellsOf 23)) = _ := h1
  rw [cells23] at h1
  replace h2 : DataW.trod enc Tryz.prog W 0 spare held m 23 ((cs.drop 2).take (Tryz.prog.cellsOf 23)) = _ := h2
  rw [cells23] at h2
  replace h3 : DataW.trod enc Tryz.prog W 0 spare held m 41 ((cs.drop 3).take (Tryz.prog.cellsOf 41)) = _ := h3
  rw [cells41] at h3
  replace h4 : DataW.trod enc Tryz.prog W 0 spare held m 3 ((cs.drop 4).take (Tryz.prog.cellsOf 3)) = _ := h4
  rw [cells3] at h4
  obtain ⟨v0, rv, rows, v01, v02, v03, v04⟩ := arg_rows Tryz.underlying26 Tryz.underlying41 cells5 cells41 Tryz.underlying5 hsp h0
  obtain ⟨v1, szv, szs, v11, v12, v13⟩ := arg_u64s Tryz.underlying23 cells29 Tryz.underlying29 hsp h1
  obtain ⟨v2, atv, ats, v21, v22, v23⟩ := arg_u64s Tryz.underlying23 cells29 Tryz.underlying29 hsp h2
  obtain ⟨v3, oth, other, v31, v32, v33⟩ := arg_bytes Tryz.underlying41 cells5 Tryz.underlying5 hsp h3
  obtain ⟨z, hz', _, _⟩ := DataW.trod_int Tryz.underlying3 h4
  have hmax : maxLen < 2 ^ 63 := by decide
  refine ⟨rv, szv, atv, oth, z, rows, szs, ats, other, ?_, v03, by omega, v13, v23, v33⟩
  have e4 : cs.drop 4 = (cs.drop 4).take 1 := (List.take_of_length_le (by simp; omega)).symm
  have e : cs = (cs.drop 0).take 1 ++ ((cs.drop 1).take 1 ++ ((cs.drop 2).take 1 ++ ((cs.drop 3).take 1 ++ (cs.drop 4).take 1))) := by
    rw [← e4, ← cut 3 1, ← cut 2 1, ← cut 1 1, ← cut 0 1]
    rfl
  rw [e, v01, v11, v21, v31, hz']
  exact OldCells.app (OldCells.one v02) (OldCells.app (OldCells.one v12) (OldCells.app (OldCells.one v22) (OldCells.app (OldCells.one v32) (OldCells.one rfl))))
end
end Go.Proofs.YtecbgdnoblhldaaGreatDoor.au
