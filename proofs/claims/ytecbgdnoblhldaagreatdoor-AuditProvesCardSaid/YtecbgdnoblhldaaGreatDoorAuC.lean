/-
  Steps of the proof of AuditProvesCardSaid: what functions of the program do in the abstract machine, and the laws between; no condition beside those that each theorem names.
-/
import Derived.Test.YtecbgdnoblhldaaGreatDoorAuB
import Derived.Test.YtecbgdnoblhldaaGreatDoorLit

set_option linter.unusedSimpArgs false
set_option linter.unusedVariables false
set_option linter.unusedSectionVars false

namespace Go.Ab.Aud
open Go.Sha
variable {C : Ctx} (T : Tab_LLog C) (TD : Tab_LDig C) (TW : Tab_LLaw C) (hk : ∀ j, j < 64 → C.old 0 j = some (wv (kW j)))
include T TD TW hk
set_option maxHeartbeats 4000000 in
theorem climb_spec : ∀ (f n size : Nat) (leaf : List UInt8) (path : List (List UInt8)), path.length ≤ f → f < 1024 → n < 18446744073709551616 → size < 18446744073709551616 → leaf.length = 32 → ∀ (h : AHeap) (a : Option Addr) (cp : Nat), DigR C.old h a cp path → h.lo ≤ h.bs.length →
    ∃ h' v, D C 28 [uv n, uv size, .agg ⟨bytesVals leaf⟩, .slice a path.length cp] h = some (.tuple #[v, .agg ⟨bytesVals (climbF f n size leaf path).2⟩], h') ∧ Pairs C.old h' h.bs.length v (climbF f n size leaf path).1 ∧ Fr h h' (fun _ => False) ∧ isUnd v = false := by
  intro f
  induction f with
  | zero => 
    intro n size leaf path hp hf hn hs hlf h a cp P hwf
    have hp0 : path.length = 0 := by omega
    rw [D_fn TW.h28, hp0]
    have hz : Value.int .u8 0 = bv 0 := rfl
    generalize hX : ABlock.cells (bytesVals leaf) 31 = X
    generalize hZ : ABlock.cells (List.replicate 32 (bv 0)) 31 = Z
    have hZ0 := hZ
    simp [List.replicate] at hZ
    have w1 := lay32 hlf ((h.push X).push Z) (h.push X).bs.length
    rw [hZ0] at w1
    have x0 : ((h.push X).push Z).at h.bs.length = some X := by rw [push_lt (by simp)]; exact push_self
    have z0 : ((h.push X).push Z).at (h.bs.length + 1) = some Z := push_self' (by simp)
    have rx : rdN (some X) 0 0 32 = some (bytesVals leaf) := by rw [← hX]; exact rd32 hlf
    simp at w1
    have hlo1 : h.lo ≤ h.bs.length + 1 := by omega
    refine ⟨((h.push X).push Z).put (h.bs.length + 1) (.cells (bytesVals leaf) 31), .slice none 0 0, ?_, Pairs.nil, (Fr.push.push').put' (.inr (by omega)), rfl⟩
    by_cases hs1 : size ≤ 1
    · simp [b28, bytes_ok, hX, hz, hZ, hs1, x0, z0, rx, w1, writeN_wr, hlo1, hlf, r28, resV, put_self, climbF, rd32 hlf]
    · simp [b28, bytes_ok, hX, hz, hZ, hs1, x0, z0, rx, w1, writeN_wr, hlo1, hlf, r28, resV, put_self, climbF, rd32 hlf]
  | succ f ih =>
    intro n size leaf path hp hf hn hs hlf h a cp P hwf
    rw [D_fn TW.h28]
    have hz : Value.int .u8 0 = bv 0 := rfl
    generalize hX : ABlock.cells (bytesVals leaf) 31 = X
    generalize hZ : ABlock.cells (List.replicate 32 (bv 0)) 31 = Z
    have hZ0 := hZ
    simp [List.replicate] at hZ
    generalize hA : (h.push X).push Z = A
    have fA : Fr h A (fun _ => False) := by rw [← hA]; exact Fr.push.push'
    have aL : A.bs.length = h.bs.length + 2 := by rw [← hA]; simp
    have aO := fA.lo
    have x0 : A.at h.bs.length = some X := by rw [← hA, push_lt (by simp)]; exact push_self
    have z0 : A.at (h.bs.length + 1) = some Z := by rw [← hA]; exact push_self' (by simp)
    have rx : rdN (some X) 0 0 32 = some (bytesVals leaf) := by rw [← hX]; exact rd32 hlf
    have hlo1 : h.lo ≤ h.bs.length + 1 := by omega
    have hlt1 : h.bs.length + 1 < A.bs.length := by omega
    unfold climbF
    by_cases hb : size ≤ 1 ∨ path.length = 0
    · rw [if_pos hb]
      have w1 := lay32 hlf A (h.bs.length + 1)
      rw [hZ0] at w1
      refine ⟨A.put (h.bs.length + 1) (.cells (bytesVals leaf) 31), .slice none 0 0, ?_, Pairs.nil, fA.put' (.inr (by omega)), rfl⟩
      by_cases hs1 : size ≤ 1
      · simp [b28, bytes_ok, hX, hz, hZ, hA, hs1, x0, z0, rx, w1, writeN_wr, aO, hlo1, hlf, hlt1, r28, resV, put_self, rd32 hlf]
      · have hp0 : path.length = 0 := by omega
        simp [b28, bytes_ok, hX, hz, hZ, hA, hs1, hp0, x0, z0, rx, w1, writeN_wr, aO, hlo1, hlf, hlt1, r28, resV, put_self, rd32 hlf]
    · rw [if_neg hb]
      have hs1 : ¬ size ≤ 1 := by omega
      have hp0 : ¬ path.length = 0 := by omega
      have k1 := lft_lt (n := size) (by omega)
      have k0 := lft_pos (n := size)
      have e1 := half_spec TW A size (by omega) hs
      have PA : DigR C.old A a cp path := P.fr fA (fun _ _ h => h)
      obtain ⟨a', rfl, rp⟩ := PA.get (i := path.length - 1) (by omega)
      have lp := get32 P.2 (i := path.length - 1) (by omega)
      generalize hla : path.getD (path.length - 1) [] = last at rp lp
      have fZ : Fr A (A.push Z) (fun _ => False) := Fr.push
      have w2 := lay32 lp (A.push Z) A.bs.length
      rw [hZ0] at w2
      have z1 : (A.push Z).at A.bs.length = some Z := push_self
      generalize hB : (A.push Z).put A.bs.length (.cells (bytesVals last) 31) = B at w2
      have fB : Fr A B (fun _ => False) := by rw [← hB]; exact fZ.put' (.inr (Nat.le_refl _))
      have bL : B.bs.length = A.bs.length + 1 := by rw [← hB]; simp
      have bO := fB.lo
      have b11 : B.at A.bs.length = some (.cells (bytesVals last) 31) := by rw [← hB]; exact put_self (by simp)
      have rl : rdN (some (.cells (bytesVals last) 31)) 0 0 32 = some (bytesVals last) := rd32 lp
      have hloA : h.lo ≤ A.bs.length := by omega
      have fBZ : Fr B (B.push Z) (fun _ => False) := Fr.push
      have PB : DigR C.old (B.push Z) (some a') cp path := (PA.fr fB (fun _ _ h => h)).fr fBZ (fun _ _ h => h)
      obtain ⟨a2, cp2, sl, P2, lv2⟩ := PB.lower (path.length - 1) (by omega)
      have hl2 : (path.take (path.length - 1)).length = path.length - 1 := by simp
      have x1 : (B.push Z).at h.bs.length = some X := fBZ.get (fB.get x0 (fun h => h)) (fun h => h)
      by_cases hlt : n < lft size
      · rw [if_pos hlt]
        obtain ⟨D1, v, e2, p2, f2, u2⟩ := ih n (lft size) leaf (path.take (path.length - 1)) (by omega) (by omega) (by omega) (by omega) hlf (B.push Z) a2 cp2 P2 (by simp; omega)
        rw [hl2] at e2
        have rlen := climbF_32 f n (lft size) leaf (path.take (path.length - 1)) hlf
        have clen := climbF_len f n (lft size) leaf (path.take (path.length - 1))
        generalize climbF f n (lft size) leaf (path.take (path.length - 1)) = r at e2 p2 rlen clen ⊢
        obtain ⟨rl1, rt⟩ := r
        simp only at e2 p2 rlen clen ⊢
        have dL := f2.len
        have dO := f2.lo
        simp at dL dO
        have z2 : D1.at B.bs.length = some Z := f2.get push_self (fun h => h)
        have w3 := lay32 rlen D1 B.bs.length
        rw [hZ0] at w3
        generalize hE : D1.put B.bs.length (.cells (bytesVals rt) 31) = E at w3
        have e13 : E.at B.bs.length = some (.cells (bytesVals rt) 31) := by rw [← hE]; exact put_self (by omega)
        have fE : Fr D1 E (fun j => j = B.bs.length) := by rw [← hE]; exact Fr.put rfl
        have eL : E.bs.length = D1.bs.length := by rw [← hE]; simp
        have eO := fE.lo
        have rr : rdN (some (.cells (bytesVals rt) 31)) 0 0 32 = some (bytesVals rt) := rd32 rlen
        have e11 : E.at A.bs.length = some (.cells (bytesVals last) 31) := fE.get (f2.get (fBZ.get b11 (fun h => h)) (fun h => h)) (by omega)
        obtain ⟨G, na, ncp, e3, s3, f3, lv3⟩ := lnode_spec T TD TW hk E rt last rlen lp (by omega)
        have dl32 := sha_length (1 :: (rt ++ last))
        have ofl : (1 :: (rt ++ last) : List UInt8).length = 65 := by simp [rlen, lp]
        generalize hof : (1 :: (rt ++ last) : List UInt8) = of at e3 s3 dl32 ofl ⊢
        generalize hdg : sha of = dg at e3 dl32 ⊢
        have gL := f3.len
        have gO := f3.lo
        generalize hZ2 : ABlock.cells (.slice none 0 0 :: List.replicate 32 (bv 0)) 159 = Z2
        have hZ20 := hZ2
        simp [List.replicate] at hZ2
        have z14 : (G.push Z2).at G.bs.length = some Z2 := push_self
        have w4 : wrN (G.push Z2) G.bs.length (some Z2) 0 0 (.slice na 65 ncp :: bytesVals dg) = some ((G.push Z2).put G.bs.length (.cells (.slice na 65 ncp :: bytesVals dg) 159)) := by
          rw [← hZ20, wrN_cells (by simp [dl32]) (by rw [List.all_cons, bytes_ok]; rfl)]
          congr 3
          simp [splice, dl32]
        generalize hH : (G.push Z2).put G.bs.length (.cells (.slice na 65 ncp :: bytesVals dg) 159) = H at w4
        have h14 : H.at G.bs.length = some (.cells (.slice na 65 ncp :: bytesVals dg) 159) := by rw [← hH]; exact put_self (by simp)
        have fH : Fr G H (fun _ => False) := by rw [← hH]; exact Fr.push.put' (.inr (Nat.le_refl _))
        have hL : H.bs.length = G.bs.length + 1 := by rw [← hH]; simp
        have hO := fH.lo
        have rp1 : rdN (some (.cells (.slice na 65 ncp :: bytesVals dg) 159)) 0 0 33 = some (.slice na 65 ncp :: bytesVals dg) := by
          rw [rdN_cells (by simp [dl32]), List.drop_zero, List.take_of_length_le (by simp [dl32])]
        have rp2 : rdN (some (.cells (.slice na 65 ncp :: bytesVals dg) 159)) 1 0 32 = some (bytesVals dg) := by
          rw [rdN_cells (by simp [dl32]), List.drop_succ_cons, List.drop_zero, List.take_of_length_le (by simp [dl32])]
        have fBE : Fr D1 H (fun j => j = B.bs.length) := (fE.trans f3 (S'' := fun j => j = B.bs.length) (fun _ h => h) (fun _ h _ => h.elim)).trans fH (fun _ h => h) (fun _ h _ => h.elim)
        have pH : Pairs C.old H (B.push Z).bs.length v rl1 := p2.fr fBE (fun j hj _ hc => by simp at hj; omega)
        have vb1 : ∀ j, blkOf v = some j → j < D1.bs.length := by
          obtain ⟨L, _, o, _, _⟩ := p2
          exact fun j hj => o.blk hj
        rw [← ofl] at s3 lv3
        obtain ⟨v', K, e5, p5, f5, b5, l5⟩ := pair_one (q := (B.push Z).bs.length) pH (by omega) (by simp; omega) (s3.fr fH (fun _ _ h => h)) dl32 E.bs.length (by simp; omega) (fun j hj => by have := vb1 j hj; omega) (fun j hj => lv3 j hj) (by omega)
        rw [ofl] at e5
        have vq : ∀ j, blkOf v = some j → (B.push Z).bs.length ≤ j := by
          obtain ⟨L, _, _, b, _⟩ := p2
          exact b
        have fhD : Fr h D1 (fun _ => False) := ((fA.trans fB (S'' := fun _ => False) (fun _ h => h) (fun _ h _ => h)).trans fBZ (S'' := fun _ => False) (fun _ h => h) (fun _ h _ => h)).trans f2 (fun _ h => h) (fun _ h _ => h)
        have fAK : Fr A K (fun j => B.bs.length ≤ j) := (((fB.trans fBZ (S'' := fun j => B.bs.length ≤ j) (fun _ h => h.elim) (fun _ h _ => h.elim)).trans f2 (S'' := fun j => B.bs.length ≤ j) (fun _ h => h) (fun _ h _ => h.elim)).trans fBE (S'' := fun j => B.bs.length ≤ j) (fun _ h => h) (fun _ h _ => by omega)).trans f5 (fun _ h => h) (fun j hj _ => by have := vq j hj; simp at this; omega)
        have k9 : K.at (h.bs.length + 1) = some Z := fAK.get z0 (by omega)
        have kO := fAK.lo
        have kL := fAK.len
        have w5 := lay32 dl32 K (h.bs.length + 1)
        rw [hZ0] at w5
        have k14 : K.at G.bs.length = some (.cells (.slice na 65 ncp :: bytesVals dg) 159) := f5.get h14 (fun hj => by have := vb1 _ hj; omega)
        have vU : isUnd v' = false := by obtain ⟨L, _, o, _, _⟩ := p5; exact o.und
        have hloB : h.lo ≤ B.bs.length := by omega
        have hloG : h.lo ≤ G.bs.length := by omega
        have klt : h.bs.length + 1 < K.bs.length := by omega
        have h14' : (H.push (.cells (.slice na 65 ncp :: bytesVals dg) 159)).at G.bs.length = some (.cells (.slice na 65 ncp :: bytesVals dg) 159) := push_old h14
        have zsp : splice (.slice none 0 0 :: List.replicate 32 (bv 0)) 0 (.slice na 65 ncp :: bytesVals dg) = .slice na 65 ncp :: bytesVals dg := by simp [splice, dl32]
        simp [List.replicate] at zsp
        refine ⟨K.put (h.bs.length + 1) (.cells (bytesVals dg) 31), v', ?_, ?_, ?_, vU⟩
        · simp [b28, bytes_ok, hX, hz, hZ, hA, hs1, hp0, Dc_ok, e1, iv_sub (a := path.length) (b := 1) (by omega) (by omega), ixS_iv (show path.length - 1 < path.length by omega), rp, writeN_wr, aO, hloA, z1, lp, w2, hlt, x1, rx, sl, e2, stp_ok u2, u2, z2, rlen, w3, dO, bO, hloB, e13, rr, e11, rl, e3, hZ2, z14, dl32, w4, gO, eO, hloG, h14, rp1, rp2, fillCells, zsp, e5, k9, w5, kO, hlo1, k14, h14', vU, r28, resV, put_self, klt, rd32 dl32]
        · exact (p5.fr (Fr.put (S := fun j => j = h.bs.length + 1) rfl) (fun j hj _ hc => by simp at hj; omega)).mono (by simp; omega)
        · exact (fA.trans fAK (S'' := fun _ => False) (fun _ h => h) (fun j hj hl => by omega)).put' (.inr (by omega))
      · rw [if_neg hlt]
        obtain ⟨D1, v, e2, p2, f2, u2⟩ := ih (n - lft size) (size - lft size) leaf (path.take (path.length - 1)) (by omega) (by omega) (by omega) (by omega) hlf (B.push Z) a2 cp2 P2 (by simp; omega)
        rw [hl2] at e2
        have rlen := climbF_32 f (n - lft size) (size - lft size) leaf (path.take (path.length - 1)) hlf
        have clen := climbF_len f (n - lft size) (size - lft size) leaf (path.take (path.length - 1))
        generalize climbF f (n - lft size) (size - lft size) leaf (path.take (path.length - 1)) = r at e2 p2 rlen clen ⊢
        obtain ⟨rl1, rt⟩ := r
        simp only at e2 p2 rlen clen ⊢
        have dL := f2.len
        have dO := f2.lo
        simp at dL dO
        have z2 : D1.at B.bs.length = some Z := f2.get push_self (fun h => h)
        have w3 := lay32 rlen D1 B.bs.length
        rw [hZ0] at w3
        generalize hE : D1.put B.bs.length (.cells (bytesVals rt) 31) = E at w3
        have e13 : E.at B.bs.length = some (.cells (bytesVals rt) 31) := by rw [← hE]; exact put_self (by omega)
        have fE : Fr D1 E (fun j => j = B.bs.length) := by rw [← hE]; exact Fr.put rfl
        have eL : E.bs.length = D1.bs.length := by rw [← hE]; simp
        have eO := fE.lo
        have rr : rdN (some (.cells (bytesVals rt) 31)) 0 0 32 = some (bytesVals rt) := rd32 rlen
        have e11 : E.at A.bs.length = some (.cells (bytesVals last) 31) := fE.get (f2.get (fBZ.get b11 (fun h => h)) (fun h => h)) (by omega)
        obtain ⟨G, na, ncp, e3, s3, f3, lv3⟩ := lnode_spec T TD TW hk E last rt lp rlen (by omega)
        have dl32 := sha_length (1 :: (last ++ rt))
        have ofl : (1 :: (last ++ rt) : List UInt8).length = 65 := by simp [lp, rlen]
        generalize hof : (1 :: (last ++ rt) : List UInt8) = of at e3 s3 dl32 ofl ⊢
        generalize hdg : sha of = dg at e3 dl32 ⊢
        have gL := f3.len
        have gO := f3.lo
        generalize hZ2 : ABlock.cells (.slice none 0 0 :: List.replicate 32 (bv 0)) 159 = Z2
        have hZ20 := hZ2
        simp [List.replicate] at hZ2
        have z14 : (G.push Z2).at G.bs.length = some Z2 := push_self
        have w4 : wrN (G.push Z2) G.bs.length (some Z2) 0 0 (.slice na 65 ncp :: bytesVals dg) = some ((G.push Z2).put G.bs.length (.cells (.slice na 65 ncp :: bytesVals dg) 159)) := by
          rw [← hZ20, wrN_cells (by simp [dl32]) (by rw [List.all_cons, bytes_ok]; rfl)]
          congr 3
          simp [splice, dl32]
        generalize hH : (G.push Z2).put G.bs.length (.cells (.slice na 65 ncp :: bytesVals dg) 159) = H at w4
        have h14 : H.at G.bs.length = some (.cells (.slice na 65 ncp :: bytesVals dg) 159) := by rw [← hH]; exact put_self (by simp)
        have fH : Fr G H (fun _ => False) := by rw [← hH]; exact Fr.push.put' (.inr (Nat.le_refl _))
        have hL : H.bs.length = G.bs.length + 1 := by rw [← hH]; simp
        have hO := fH.lo
        have rp1 : rdN (some (.cells (.slice na 65 ncp :: bytesVals dg) 159)) 0 0 33 = some (.slice na 65 ncp :: bytesVals dg) := by
          rw [rdN_cells (by simp [dl32]), List.drop_zero, List.take_of_length_le (by simp [dl32])]
        have rp2 : rdN (some (.cells (.slice na 65 ncp :: bytesVals dg) 159)) 1 0 32 = some (bytesVals dg) := by
          rw [rdN_cells (by simp [dl32]), List.drop_succ_cons, List.drop_zero, List.take_of_length_le (by simp [dl32])]
        have fBE : Fr D1 H (fun j => j = B.bs.length) := (fE.trans f3 (S'' := fun j => j = B.bs.length) (fun _ h => h) (fun _ h _ => h.elim)).trans fH (fun _ h => h) (fun _ h _ => h.elim)
        have pH : Pairs C.old H (B.push Z).bs.length v rl1 := p2.fr fBE (fun j hj _ hc => by simp at hj; omega)
        have vb1 : ∀ j, blkOf v = some j → j < D1.bs.length := by
          obtain ⟨L, _, o, _, _⟩ := p2
          exact fun j hj => o.blk hj
        rw [← ofl] at s3 lv3
        obtain ⟨v', K, e5, p5, f5, b5, l5⟩ := pair_one (q := (B.push Z).bs.length) pH (by omega) (by simp; omega) (s3.fr fH (fun _ _ h => h)) dl32 E.bs.length (by simp; omega) (fun j hj => by have := vb1 j hj; omega) (fun j hj => lv3 j hj) (by omega)
        rw [ofl] at e5
        have vq : ∀ j, blkOf v = some j → (B.push Z).bs.length ≤ j := by
          obtain ⟨L, _, _, b, _⟩ := p2
          exact b
        have fhD : Fr h D1 (fun _ => False) := ((fA.trans fB (S'' := fun _ => False) (fun _ h => h) (fun _ h _ => h)).trans fBZ (S'' := fun _ => False) (fun _ h => h) (fun _ h _ => h)).trans f2 (fun _ h => h) (fun _ h _ => h)
        have fAK : Fr A K (fun j => B.bs.length ≤ j) := (((fB.trans fBZ (S'' := fun j => B.bs.length ≤ j) (fun _ h => h.elim) (fun _ h _ => h.elim)).trans f2 (S'' := fun j => B.bs.length ≤ j) (fun _ h => h) (fun _ h _ => h.elim)).trans fBE (S'' := fun j => B.bs.length ≤ j) (fun _ h => h) (fun _ h _ => by omega)).trans f5 (fun _ h => h) (fun j hj _ => by have := vq j hj; simp at this; omega)
        have k9 : K.at (h.bs.length + 1) = some Z := fAK.get z0 (by omega)
        have kO := fAK.lo
        have kL := fAK.len
        have w5 := lay32 dl32 K (h.bs.length + 1)
        rw [hZ0] at w5
        have k14 : K.at G.bs.length = some (.cells (.slice na 65 ncp :: bytesVals dg) 159) := f5.get h14 (fun hj => by have := vb1 _ hj; omega)
        have vU : isUnd v' = false := by obtain ⟨L, _, o, _, _⟩ := p5; exact o.und
        have hloB : h.lo ≤ B.bs.length := by omega
        have hloG : h.lo ≤ G.bs.length := by omega
        have klt : h.bs.length + 1 < K.bs.length := by omega
        have h14' : (H.push (.cells (.slice na 65 ncp :: bytesVals dg) 159)).at G.bs.length = some (.cells (.slice na 65 ncp :: bytesVals dg) 159) := push_old h14
        have zsp : splice (.slice none 0 0 :: List.replicate 32 (bv 0)) 0 (.slice na 65 ncp :: bytesVals dg) = .slice na 65 ncp :: bytesVals dg := by simp [splice, dl32]
        simp [List.replicate] at zsp
        refine ⟨K.put (h.bs.length + 1) (.cells (bytesVals dg) 31), v', ?_, ?_, ?_, vU⟩
        · simp [b28, bytes_ok, hX, hz, hZ, hA, hs1, hp0, Dc_ok, e1, iv_sub (a := path.length) (b := 1) (by omega) (by omega), ixS_iv (show path.length - 1 < path.length by omega), rp, writeN_wr, aO, hloA, z1, lp, w2, hlt, x1, rx, sl, e2, stp_ok u2, u2, z2, rlen, w3, dO, bO, hloB, e13, rr, e11, rl, e3, hZ2, z14, dl32, w4, gO, eO, hloG, h14, rp1, rp2, fillCells, zsp, e5, k9, w5, kO, hlo1, k14, h14', vU, r28, resV, put_self, klt, rd32 dl32, uv_sub (a := n) (b := lft size) (by omega) (by omega), uv_sub (a := size) (b := lft size) (by omega) (by omega)]
        · exact (p5.fr (Fr.put (S := fun j => j = h.bs.length + 1) rfl) (fun j hj _ hc => by simp at hj; omega)).mono (by simp; omega)
        · exact (fA.trans fAK (S'' := fun _ => False) (fun _ h => h) (fun j hj hl => by omega)).put' (.inr (by omega))
end Go.Ab.Aud

namespace Go.Ab.Aud
open Go.Sha
theorem pcells_drop : ∀ {L : List PT}, (∀ x, x ∈ L → x.2.2.length = 32) → ∀ i, (pcells L).drop (i * 33) = pcells (L.drop i)
  | L, _, 0 => by simp
  | [], _, i + 1 => by simp [pcells]
  | x :: L, h, i + 1 => by
    have hx := h x (by simp)
    have ih := pcells_drop (L := L) (fun y hy => h y (by simp [hy])) i
    have e : pcells (x :: L) = (x.1 :: bytesVals x.2.2) ++ pcells L := rfl
    rw [e, List.drop_succ_cons, ← ih, List.drop_append, List.drop_of_length_le (by simp [hx]; omega), List.nil_append]
    congr 1
    simp [hx]; omega
theorem pcells_d {L : List PT} (h : ∀ x, x ∈ L → x.2.2.length = 32) {i : Nat} (hi : i < L.length) : ((pcells L).drop (i * 33 + 1)).take 32 = bytesVals L[i].2.2 := by
  have hx := h _ (List.getElem_mem hi)
  rw [← List.drop_drop, pcells_drop h, List.drop_eq_getElem_cons hi]
  have e : ∀ (x : PT) (M : List PT), pcells (x :: M) = x.1 :: (bytesVals x.2.2 ++ pcells M) := fun _ _ => rfl
  rw [e, List.drop_succ_cons, List.drop_zero, List.take_append_of_le_length (by simp [hx]), List.take_of_length_le (by simp [hx])]
theorem pcells_v {L : List PT} (h : ∀ x, x ∈ L → x.2.2.length = 32) {i : Nat} (hi : i < L.length) : (pcells L)[i * 33]? = some L[i].1 := by
  have : (pcells L)[i * 33]? = ((pcells L).drop (i * 33))[0]? := by simp
  have e : ∀ (x : PT) (M : List PT), pcells (x :: M) = x.1 :: (bytesVals x.2.2 ++ pcells M) := fun _ _ => rfl
  rw [this, pcells_drop h, List.drop_eq_getElem_cons hi, e]
  rfl
/-- two unlike rows of one digest -/
def hit (l : List (List UInt8 × List UInt8)) (i k : Nat) : Bool := decide ((l.getD i ([], [])).2 = (l.getD k ([], [])).2) && !decide ((l.getD i ([], [])).1 = (l.getD k ([], [])).1)
def Met (l : List (List UInt8 × List UInt8)) : Prop := ∃ i k, k < i ∧ i < l.length ∧ hit l i k = true
/-- what is read of a row of pairs -/
theorem Pairs.get {old : Old} {h : AHeap} {q : Nat} {v : Value} {l : List (List UInt8 × List UInt8)} (H : Pairs old h q v l) {i : Nat} (hi : i < l.length) :
    ∃ a' a cp, v = .slice (some a') l.length 0 ∧ readN old h (adda (adda a' (i * 33)) 1) 32 = some (bytesVals (l.getD i ([], [])).2) ∧ read1 old h (adda (adda a' (i * 33)) 0) = some (.slice a (l.getD i ([], [])).1.length cp) ∧
      SlR old h 1 (.slice a (l.getD i ([], [])).1.length cp) (bytesVals (l.getD i ([], [])).1) ∧ (l.getD i ([], [])).2.length = 32 := by
  obtain ⟨L, e, o, b, p⟩ := H
  have hL : L.length = l.length := by rw [← e]; simp
  have h32 : ∀ x, x ∈ L → x.2.2.length = 32 := fun x hx => by obtain ⟨_, _, _, _, h3, _⟩ := p x hx; exact h3
  have hv0 : ∃ va', v = .slice (some va') l.length 0 := by
    rw [hL] at o
    rcases o with ⟨_, h0, _⟩ | ⟨b, g', last, hv, _⟩
    · omega
    · exact ⟨_, hv⟩
  obtain ⟨a', rfl⟩ := hv0
  have hiL : i < L.length := by omega
  obtain ⟨a, cp, h1, h2, h3, h4⟩ := p _ (List.getElem_mem hiL)
  have eg : l.getD i ([], []) = L[i].2 := by
    subst e
    simp [List.getD_eq_getElem?_getD, hiL]
  have s := (o.sl (old := old) (by omega)).read (by omega)
  have r1 := readN_part s (i := i * 33 + 1) (m := 32) (by omega)
  have r2 := readN_read1 s (i := i * 33) (by omega)
  rw [pcells_d h32 hiL] at r1
  rw [pcells_v h32 hiL, h1] at r2
  rw [eg]
  exact ⟨a', a, cp, rfl, by rw [adda_adda]; exact r1, by rw [adda_zero]; exact r2, h2, h3⟩
/-- a row of pairs that is only read -/
def PairsR (old : Old) (h : AHeap) (v : Value) (l : List (List UInt8 × List UInt8)) : Prop :=
  lenV v = some (iv l.length) ∧ isUnd v = false ∧ ∀ i, i < l.length → ∃ a' a cp, v = .slice (some a') l.length 0 ∧ readN old h (adda (adda a' (i * 33)) 1) 32 = some (bytesVals (l.getD i ([], [])).2) ∧ read1 old h (adda (adda a' (i * 33)) 0) = some (.slice a (l.getD i ([], [])).1.length cp) ∧
      SlR old h 1 (.slice a (l.getD i ([], [])).1.length cp) (bytesVals (l.getD i ([], [])).1) ∧ (l.getD i ([], [])).2.length = 32
theorem Pairs.rd {old : Old} {h : AHeap} {q : Nat} {v : Value} {l : List (List UInt8 × List UInt8)} (H : Pairs old h q v l) : PairsR old h v l :=
  ⟨by obtain ⟨L, e, o, _⟩ := H; rw [o.lenV, ← e]; simp, by obtain ⟨L, e, o, _⟩ := H; exact o.und, fun i hi => H.get hi⟩
theorem readN_lo {old : Old} {h : AHeap} {a : Addr} {n x : Nat} : readN old { h with lo := x } a n = readN old h a n := readN_same (.inr rfl)
theorem read1_lo {old : Old} {h : AHeap} {a : Addr} {x : Nat} : read1 old { h with lo := x } a = read1 old h a := read1_same (.inr rfl)
theorem PairsR.lo {old : Old} {h : AHeap} {x : Nat} {v : Value} {l : List (List UInt8 × List UInt8)} (H : PairsR old h v l) : PairsR old { h with lo := x } v l := by
  refine ⟨H.1, H.2.1, fun i hi => ?_⟩
  obtain ⟨a', a, cp, h1, h2, h3, h4, h5⟩ := H.2.2 i hi
  exact ⟨a', a, cp, h1, by rw [readN_lo]; exact h2, by rw [read1_lo]; exact h3, h4.lo, h5⟩
variable {C : Ctx} (TW : Tab_LLaw C)
include TW
theorem met_inner (h : AHeap) (v : Value) (l : List (List UInt8 × List UInt8)) (H : PairsR C.old h v l) (hl : l.length < 2 ^ 20) (hb : ∀ i, (l.getD i ([], [])).1.length < 2 ^ 40) (i : Nat) (hi : i < l.length) : ∀ (d k : Nat) (t : List Value), k + d = i → tg t 0 = v → tg t 3 = iv i → tg t 4 = iv k →
    ((∃ k', k ≤ k' ∧ k' < i ∧ hit l i k' = true) ∧ ∀ K, R C r29 (.inLoop lp29_0 :: .inBlock 2 :: K) t [] h = some (.bool true, h)) ∨
    ((∀ k', k ≤ k' → k' < i → hit l i k' = false) ∧ ∃ t', (∀ K, R C r29 (.inLoop lp29_0 :: .inBlock 2 :: K) t [] h = R C r29 K t' [] h) ∧ tg t' 0 = v ∧ tg t' 3 = iv i) := by
  intro d
  induction d with
  | zero =>
    intro k t hd t0 t3 t4
    right
    obtain rfl : k = i := by omega
    refine ⟨fun k' h1 h2 => by omega, ?_⟩
    refine ex_step (fun k => R_open lp29_0.eq_1) ?_
    simp [t3, t4]
    exact ⟨_, fun _ => rfl, by simp [t0], by simp [t3]⟩
  | succ d ih =>
    intro k t hd t0 t3 t4
    obtain ⟨a', ai, ci, hv, r1, r2, s1, d1⟩ := H.2.2 i hi
    obtain ⟨a2, ak, ck, hv2, r3, r4, s2, d2⟩ := H.2.2 k (by omega)
    rw [hv] at hv2
    injection hv2 with hv2
    injection hv2 with hv2
    subst hv2
    have eq1 := aeq_dig d1 d2
    simp [-List.getD_eq_getElem?_getD, List.replicate] at eq1
    have eq2 := eq_spec TW h (l.getD i ([], [])).1 (l.getD k ([], [])).1 (hb i) ai ak ci ck s1 s2
    rw [hv] at t0
    have hki : k < i := by omega
    by_cases c1 : (l.getD i ([], [])).2 = (l.getD k ([], [])).2
    · by_cases c2 : (l.getD i ([], [])).1 = (l.getD k ([], [])).1
      · have e : ∃ t', (∀ K, R C r29 (.inLoop lp29_0 :: .inBlock 2 :: K) t [] h = R C r29 (.inLoop lp29_0 :: .inBlock 2 :: K) t' [] h) ∧ tg t' 0 = v ∧ tg t' 3 = iv i ∧ tg t' 4 = iv (k + 1) := by
          refine ex_step (fun k => R_open lp29_0.eq_1) ?_
          simp [-List.getD_eq_getElem?_getD, t0, t3, t4, hki, ixS_iv hi, ixS_iv (show k < l.length by omega), r1, r2, r3, r4, eq1, eq_true c1, Dc_ok, eq2, eq_true c2, iv_add (a := k) (b := 1) (by omega)]
          exact ⟨_, fun _ => rfl, by simp [t0, hv], by simp [t3], by simp⟩
        obtain ⟨t', e, u0, u3, u4⟩ := e
        have hk0 : hit l i k = false := by simp only [hit, decide_eq_true c1, decide_eq_true c2]; rfl
        rcases ih (k + 1) t' (by omega) u0 u3 u4 with ⟨⟨k', x1, x2, x3⟩, x4⟩ | ⟨x1, t2, x2, x3⟩
        · exact .inl ⟨⟨k', by omega, x2, x3⟩, fun K => (e K).trans (x4 K)⟩
        · exact .inr ⟨fun k' y1 y2 => by by_cases hk : k' = k; { rw [hk]; exact hk0 }; exact x1 k' (by omega) y2, t2, fun K => (e K).trans (x2 K), x3⟩
      · left
        refine ⟨⟨k, Nat.le_refl _, hki, by simp only [hit, decide_eq_true c1, decide_eq_false c2]; rfl⟩, fun K => ?_⟩
        rw [R_open lp29_0.eq_1]
        simp [-List.getD_eq_getElem?_getD, t0, t3, t4, hki, ixS_iv hi, ixS_iv (show k < l.length by omega), r1, r2, r3, r4, eq1, eq_true c1, Dc_ok, eq2, eq_false c2, r29]
    · have e : ∃ t', (∀ K, R C r29 (.inLoop lp29_0 :: .inBlock 2 :: K) t [] h = R C r29 (.inLoop lp29_0 :: .inBlock 2 :: K) t' [] h) ∧ tg t' 0 = v ∧ tg t' 3 = iv i ∧ tg t' 4 = iv (k + 1) := by
        refine ex_step (fun k => R_open lp29_0.eq_1) ?_
        simp [-List.getD_eq_getElem?_getD, t0, t3, t4, hki, ixS_iv hi, ixS_iv (show k < l.length by omega), r1, r2, r3, r4, eq1, eq_false c1, iv_add (a := k) (b := 1) (by omega)]
        exact ⟨_, fun _ => rfl, by simp [t0, hv], by simp [t3], by simp⟩
      obtain ⟨t', e, u0, u3, u4⟩ := e
      have hk0 : hit l i k = false := by simp only [hit, decide_eq_false c1]; rfl
      rcases ih (k + 1) t' (by omega) u0 u3 u4 with ⟨⟨k', x1, x2, x3⟩, x4⟩ | ⟨x1, t2, x2, x3⟩
      · exact .inl ⟨⟨k', by omega, x2, x3⟩, fun K => (e K).trans (x4 K)⟩
      · exact .inr ⟨fun k' y1 y2 => by by_cases hk : k' = k; { rw [hk]; exact hk0 }; exact x1 k' (by omega) y2, t2, fun K => (e K).trans (x2 K), x3⟩
theorem met_outer (h : AHeap) (v : Value) (l : List (List UInt8 × List UInt8)) (H : PairsR C.old h v l) (hl : l.length < 2 ^ 20) (hb : ∀ i, (l.getD i ([], [])).1.length < 2 ^ 40) : ∀ (d i : Nat) (t : List Value), i + d = l.length → (∀ i' k', k' < i' → i' < i → hit l i' k' = false) → tg t 0 = v → tg t 3 = iv i →
    ∃ b, R C r29 [.inLoop lp29_1, .inBlock 0, .code k29_1] t [] h = some (.bool b, h) ∧ (b = true ↔ Met l) := by
  intro d
  induction d with
  | zero =>
    intro i t hd hno t0 t3
    obtain rfl : i = l.length := by omega
    refine ⟨false, ?_, by simp; rintro ⟨i, k, h1, h2, h3⟩; rw [hno i k h1 h2] at h3; cases h3⟩
    have hv := H.1
    have hu := H.2.1
    rw [R_open lp29_1.eq_1]
    simp [t0, t3, hv, stp_ok hu, k29_1, r29]
  | succ d ih =>
    intro i t hd hno t0 t3
    have hi : i < l.length := by omega
    have hv := H.1
    have hu := H.2.1
    have e : ∃ t', (∀ K, R C r29 (.inLoop lp29_1 :: .inBlock 0 :: K) t [] h = R C r29 (.inLoop lp29_0 :: .inBlock 2 :: .inBlock 1 :: .code k29_0 :: .inLoop lp29_1 :: .inBlock 0 :: K) t' [] h) ∧ tg t' 0 = v ∧ tg t' 3 = iv i ∧ tg t' 4 = iv 0 := by
      refine ex_step (fun k => R_open lp29_1.eq_1) ?_
      simp [t0, t3, hv, stp_ok hu, hi]
      exact ⟨_, fun _ => rfl, by simp [t0], by simp [t3], by simp⟩
    obtain ⟨t', e, u0, u3, u4⟩ := e
    rcases met_inner TW h v l H hl hb i hi i 0 t' (by omega) u0 u3 u4 with ⟨⟨k', x1, x2, x3⟩, x4⟩ | ⟨x1, t2, x2, x3, x5⟩
    · exact ⟨true, (e _).trans (x4 _), by simp; exact ⟨i, k', x2, hi, x3⟩⟩
    · have e2 : ∃ t', (∀ K, R C r29 (.inBlock 1 :: .code k29_0 :: .inLoop lp29_1 :: .inBlock 0 :: K) t2 [] h = R C r29 (.inLoop lp29_1 :: .inBlock 0 :: K) t' [] h) ∧ tg t' 0 = v ∧ tg t' 3 = iv (i + 1) := by
        simp [k29_0, x5, iv_add (a := i) (b := 1) (by omega)]
        exact ⟨_, fun _ => rfl, by simp [x3], by simp⟩
      obtain ⟨t3', e2, w0, w3⟩ := e2
      obtain ⟨b, y1, y2⟩ := ih (i + 1) t3' (by omega) (fun i' k' h1 h2 => by by_cases hii : i' = i; { rw [hii]; exact x1 k' (by omega) (by omega) }; exact hno i' k' h1 (by omega)) w0 w3
      exact ⟨b, ((e _).trans ((x2 _).trans (e2 _))).trans y1, y2⟩
theorem met_spec (h : AHeap) (v : Value) (l : List (List UInt8 × List UInt8)) (H : PairsR C.old h v l) (hl : l.length < 2 ^ 20) (hb : ∀ i, (l.getD i ([], [])).1.length < 2 ^ 40) :
    ∃ b, D C 29 [v] h = some (.bool b, h) ∧ (b = true ↔ Met l) := by
  rw [D_fn2 TW.h29]
  obtain ⟨b, e, hb⟩ := met_outer TW { h with lo := h.bs.length } v l H.lo hl hb l.length 0 (ts (ts [v] 2 (.bool false)) 3 (iv 0)) (by omega) (fun i' k' _ h => by omega) (by simp) (by simp)
  refine ⟨b, ?_, hb⟩
  have : R C r29 [.code b29] [v] [] { h with lo := h.bs.length } = some (.bool b, { h with lo := h.bs.length }) := by
    rw [← e]
    simp [b29]
  rw [this]
  exact pur_some rfl
end Go.Ab.Aud

namespace Go.Ab.Aud
open Go.Sha
theorem foldW_snoc : ∀ (w : List Bool) (ps : List (List UInt8)) (b : Bool) (p x : List UInt8), w.length = ps.length → foldW (w ++ [b]) (ps ++ [p]) x = stepW b p (foldW w ps x)
  | [], [], _, _, _, _ => rfl
  | _ :: w, _ :: ps, b, p, x, h => by
    simp only [List.cons_append, foldW]
    exact foldW_snoc w ps b p _ (by simpa using h)
theorem snoc_last {l : List (List UInt8)} (h : l.length ≠ 0) : l = l.take (l.length - 1) ++ [l.getD (l.length - 1) []] := by
  have hi : l.length - 1 < l.length := by omega
  have := List.take_succ_eq_append_getElem hi
  rw [show l.length - 1 + 1 = l.length by omega, List.take_length] at this
  rw [List.getD_eq_getElem?_getD, List.getElem?_eq_getElem hi]
  exact this
/-- the way up, read one way or the other -/
theorem climb_fold : ∀ (f k n s : Nat) (leaf : List UInt8) (ps : List (List UInt8)), (downF f n s).length = ps.length → ps.length ≤ k → s ≤ 2 ^ f → n < s → (climbF k n s leaf ps).2 = foldW (downF f n s).reverse ps leaf
  | 0, k, n, s, leaf, ps, h, hk, hs, hn => by
    have : ps = [] := List.eq_nil_of_length_eq_zero (by simp [downF] at h; omega)
    subst this
    cases k <;> simp [climbF, downF, foldW]
  | f + 1, k, n, s, leaf, ps, h, hk, hs, hn => by
    unfold downF at h ⊢
    by_cases h1 : s ≤ 1
    · rw [if_pos h1] at h ⊢
      have : ps = [] := List.eq_nil_of_length_eq_zero (by simp at h; omega)
      subst this
      cases k <;> simp [climbF, foldW]
    · rw [if_neg h1] at h ⊢
      have k1 := lft_lt (n := s) (by omega)
      have k0 := lft_pos (n := s)
      have k2 := lft_ge (n := s) (by omega)
      have k3 := lft_pow (s := s) (f := f) (by omega) hs
      by_cases h2 : n < lft s
      · rw [if_pos h2] at h ⊢
        simp only [List.length_cons] at h
        obtain ⟨k, rfl⟩ : ∃ k', k = k' + 1 := ⟨k - 1, by omega⟩
        have hl := snoc_last (l := ps) (by omega)
        have ih := climb_fold f k n (lft s) leaf (ps.take (ps.length - 1)) (by simp; omega) (by simp; omega) k3 h2
        unfold climbF
        rw [if_neg (by omega), if_pos h2]
        conv => rhs; rw [hl]
        rw [List.reverse_cons, foldW_snoc _ _ _ _ _ (by simp; omega), ih]
        rfl
      · rw [if_neg h2] at h ⊢
        simp only [List.length_cons] at h
        obtain ⟨k, rfl⟩ : ∃ k', k = k' + 1 := ⟨k - 1, by omega⟩
        have hl := snoc_last (l := ps) (by omega)
        have ih := climb_fold f k (n - lft s) (s - lft s) leaf (ps.take (ps.length - 1)) (by simp; omega) (by simp; omega) (by omega) (by omega)
        unfold climbF
        rw [if_neg (by omega), if_neg h2]
        conv => rhs; rw [hl]
        rw [List.reverse_cons, foldW_snoc _ _ _ _ _ (by simp; omega), ih]
        rfl
end Go.Ab.Aud

namespace Go.Ab.Aud
open Go.Sha
/-- what Included takes -/
theorem incl_ok {s n : Nat} {root leaf : List UInt8} {ps : List (List UInt8)} (hs : s < 2 ^ 64) (h : inclF s n root leaf ps = 0) (k : Nat) (hk : ps.length ≤ k) : n < s ∧ (downF 64 n s).length = ps.length ∧ (climbF k n s leaf ps).2 = root := by
  unfold inclF at h
  by_cases h1 : s ≤ n
  · rw [if_pos h1] at h; omega
  · rw [if_neg h1] at h
    by_cases h2 : (downF 64 n s).length ≠ ps.length
    · rw [if_pos h2] at h; omega
    · rw [if_neg h2] at h
      by_cases h3 : foldW (downF 64 n s).reverse ps leaf ≠ root
      · rw [if_pos h3] at h; omega
      · refine ⟨by omega, by omega, ?_⟩
        rw [climb_fold 64 k n s leaf ps (by omega) hk (by omega) (by omega)]
        exact Decidable.not_not.1 h3
/-- two unlike rows of one digest, in a list -/
def Met' (l : List (List UInt8 × List UInt8)) : Prop := ∃ x y, x ∈ l ∧ y ∈ l ∧ x.2 = y.2 ∧ x.1 ≠ y.1
theorem met_of {l : List (List UInt8 × List UInt8)} (h : Met' l) : Met l := by
  obtain ⟨x, y, hx, hy, h1, h2⟩ := h
  obtain ⟨i, hi, ei⟩ := List.mem_iff_getElem.1 hx
  obtain ⟨k, hk, ek⟩ := List.mem_iff_getElem.1 hy
  have gi : l.getD i ([], []) = x := by rw [List.getD_eq_getElem?_getD, List.getElem?_eq_getElem hi, ← ei]; rfl
  have gk : l.getD k ([], []) = y := by rw [List.getD_eq_getElem?_getD, List.getElem?_eq_getElem hk, ← ek]; rfl
  rcases Nat.lt_trichotomy k i with h3 | h3 | h3
  · refine ⟨i, k, h3, hi, ?_⟩
    unfold hit
    rw [gi, gk, decide_eq_true h1, decide_eq_false h2]; rfl
  · subst h3
    rw [gi] at gk
    exact absurd (by rw [gk]) h2
  · refine ⟨k, i, h3, hk, ?_⟩
    unfold hit
    rw [gi, gk, decide_eq_true h1.symm, decide_eq_false (fun h => h2 h.symm)]; rfl
theorem Met'.mono {l l' : List (List UInt8 × List UInt8)} (h : Met' l) (hs : ∀ x, x ∈ l → x ∈ l') : Met' l' := by
  obtain ⟨x, y, hx, hy, h1⟩ := h
  exact ⟨x, y, hs x hx, hs y hy, h1⟩
/-- two leaves of one number that lead to one root are alike, or two nodes meet -/
theorem climb_one : ∀ (f k n s : Nat) (l0 l1 : List UInt8) (p0 p1 : List (List UInt8)), (downF f n s).length = p0.length → (downF f n s).length = p1.length → p0.length ≤ k → s ≤ 2 ^ f → n < s → l0.length = 32 → l1.length = 32 → (∀ x, x ∈ p0 → x.length = 32) → (∀ x, x ∈ p1 → x.length = 32) →
    (climbF k n s l0 p0).2 = (climbF k n s l1 p1).2 → l0 = l1 ∨ Met' ((climbF k n s l0 p0).1 ++ (climbF k n s l1 p1).1)
  | 0, k, n, s, l0, l1, p0, p1, h0, h1, hk, hs, hn, _, _, _, _, he => by
    have e0 : p0 = [] := List.eq_nil_of_length_eq_zero (by simp [downF] at h0; omega)
    have e1 : p1 = [] := List.eq_nil_of_length_eq_zero (by simp [downF] at h1; omega)
    subst e0; subst e1
    cases k <;> simp [climbF] at he <;> exact .inl he
  | f + 1, k, n, s, l0, l1, p0, p1, h0, h1, hk, hs, hn, hl0, hl1, hp0, hp1, he => by
    unfold downF at h0 h1
    by_cases hs1 : s ≤ 1
    · rw [if_pos hs1] at h0 h1
      have e0 : p0 = [] := List.eq_nil_of_length_eq_zero (by simp at h0; omega)
      have e1 : p1 = [] := List.eq_nil_of_length_eq_zero (by simp at h1; omega)
      subst e0; subst e1
      cases k <;> simp [climbF] at he <;> exact .inl he
    · rw [if_neg hs1] at h0 h1
      have k1 := lft_lt (n := s) (by omega)
      have k0 := lft_pos (n := s)
      have k2 := lft_ge (n := s) (by omega)
      have k3 := lft_pow (s := s) (f := f) (by omega) hs
      have hlen : p0.length = p1.length := by omega
      by_cases h2 : n < lft s
      · rw [if_pos h2] at h0 h1
        simp only [List.length_cons] at h0 h1
        obtain ⟨k, rfl⟩ : ∃ k', k = k' + 1 := ⟨k - 1, by omega⟩
        have ih := climb_one f k n (lft s) l0 l1 (p0.take (p0.length - 1)) (p1.take (p1.length - 1)) (by simp; omega) (by simp; omega) (by simp; omega) k3 h2 hl0 hl1 (mem_take32 hp0 _) (mem_take32 hp1 _)
        have r0 := climbF_32 k n (lft s) l0 (p0.take (p0.length - 1)) hl0
        have r1 := climbF_32 k n (lft s) l1 (p1.take (p1.length - 1)) hl1
        unfold climbF at he ⊢
        rw [if_neg (by omega), if_pos h2] at he ⊢
        rw [if_neg (by omega), if_pos h2] at he ⊢
        generalize climbF k n (lft s) l0 (p0.take (p0.length - 1)) = c0 at ih he r0 ⊢
        generalize climbF k n (lft s) l1 (p1.take (p1.length - 1)) = c1 at ih he r1 ⊢
        obtain ⟨c0, x0⟩ := c0
        obtain ⟨c1, x1⟩ := c1
        simp only at ih he r0 r1 ⊢
        by_cases hof : (1 :: (x0 ++ p0.getD (p0.length - 1) []) : List UInt8) = 1 :: (x1 ++ p1.getD (p1.length - 1) [])
        · injection hof with _ hof
          have hx := (List.append_inj hof (by omega)).1
          rcases ih hx with h | h
          · exact .inl h
          · exact .inr (h.mono fun x hx => by simp at hx ⊢; rcases hx with hx | hx <;> simp [hx])
        · exact .inr ⟨_, _, List.mem_append_left _ (List.mem_append_right _ (List.mem_singleton.2 rfl)), List.mem_append_right _ (List.mem_append_right _ (List.mem_singleton.2 rfl)), he, hof⟩
      · rw [if_neg h2] at h0 h1
        simp only [List.length_cons] at h0 h1
        obtain ⟨k, rfl⟩ : ∃ k', k = k' + 1 := ⟨k - 1, by omega⟩
        have g0 := get32 hp0 (i := p0.length - 1) (by omega)
        have g1 := get32 hp1 (i := p1.length - 1) (by omega)
        have ih := climb_one f k (n - lft s) (s - lft s) l0 l1 (p0.take (p0.length - 1)) (p1.take (p1.length - 1)) (by simp; omega) (by simp; omega) (by simp; omega) (by omega) (by omega) hl0 hl1 (mem_take32 hp0 _) (mem_take32 hp1 _)
        unfold climbF at he ⊢
        rw [if_neg (by omega), if_neg h2] at he ⊢
        rw [if_neg (by omega), if_neg h2] at he ⊢
        generalize climbF k (n - lft s) (s - lft s) l0 (p0.take (p0.length - 1)) = c0 at ih he ⊢
        generalize climbF k (n - lft s) (s - lft s) l1 (p1.take (p1.length - 1)) = c1 at ih he ⊢
        obtain ⟨c0, x0⟩ := c0
        obtain ⟨c1, x1⟩ := c1
        simp only at ih he ⊢
        by_cases hof : (1 :: (p0.getD (p0.length - 1) [] ++ x0) : List UInt8) = 1 :: (p1.getD (p1.length - 1) [] ++ x1)
        · injection hof with _ hof
          have hx := (List.append_inj hof (by omega)).2
          rcases ih hx with h | h
          · exact .inl h
          · exact .inr (h.mono fun x hx => by simp at hx ⊢; rcases hx with hx | hx <;> simp [hx])
        · exact .inr ⟨_, _, List.mem_append_left _ (List.mem_append_right _ (List.mem_singleton.2 rfl)), List.mem_append_right _ (List.mem_append_right _ (List.mem_singleton.2 rfl)), he, hof⟩
end Go.Ab.Aud

namespace Go.Ab.Aud
open Go.Sha
/-- a node: of what it was made, and its digest -/
def nd (x : List UInt8) : List UInt8 × List UInt8 := (x, sha x)
/-- how many digests a proof has -/
def dueF : Nat → Nat → Nat → Bool → Nat
  | 0, m, _, w => if m = 0 ∨ w = true then 0 else 1
  | f + 1, m, n, w => if m = 0 ∨ (n ≤ m ∧ w = true) then 0 else if n ≤ m then 1 else if m ≤ lft n then dueF f m (lft n) w + 1 else dueF f (m - lft n) (n - lft n) false + 1
def gL (r : List (List UInt8 × List UInt8) × List UInt8 × List UInt8) (p : List UInt8) : List (List UInt8 × List UInt8) × List UInt8 × List UInt8 := (r.1 ++ [nd (1 :: (r.2.2 ++ p))], r.2.1, sha (1 :: (r.2.2 ++ p)))
def gR (r : List (List UInt8 × List UInt8) × List UInt8 × List UInt8) (p : List UInt8) : List (List UInt8 × List UInt8) × List UInt8 × List UInt8 := (r.1 ++ [nd (1 :: (p ++ r.2.1)), nd (1 :: (p ++ r.2.2))], sha (1 :: (p ++ r.2.1)), sha (1 :: (p ++ r.2.2)))
/-- the nodes of a proof's two roots, and these -/
def grownF : Nat → Nat → Nat → Bool → List UInt8 → List (List UInt8) → List (List UInt8 × List UInt8) × List UInt8 × List UInt8
  | 0, _, _, w, old, ps => if w = true then ([], old, old) else ([], ps.getD 0 [], ps.getD 0 [])
  | f + 1, m, n, w, old, ps => if m = n then (if w = true then ([], old, old) else ([], ps.getD 0 [], ps.getD 0 [])) else
      if m ≤ lft n then gL (grownF f m (lft n) w old (ps.take (ps.length - 1))) (ps.getD (ps.length - 1) [])
      else gR (grownF f (m - lft n) (n - lft n) false old (ps.take (ps.length - 1))) (ps.getD (ps.length - 1) [])
theorem init_snoc {A : List (List UInt8)} {x : List UInt8} : (A ++ [x]).take ((A ++ [x]).length - 1) = A := by simp
theorem last_snoc {A : List (List UInt8)} {x : List UInt8} : (A ++ [x]).getD ((A ++ [x]).length - 1) [] = x := by simp [List.getD_eq_getElem?_getD]
def offW (w : Bool) (d : List Bool) : Nat := if w = true then one1 d else 1
end Go.Ab.Aud

namespace Go.Ab.Aud
open Go.Sha
def cL (r : List (List UInt8 × List UInt8) × List UInt8) (p : List UInt8) : List (List UInt8 × List UInt8) × List UInt8 := (r.1 ++ [nd (1 :: (r.2 ++ p))], sha (1 :: (r.2 ++ p)))
def cR (r : List (List UInt8 × List UInt8) × List UInt8) (p : List UInt8) : List (List UInt8 × List UInt8) × List UInt8 := (r.1 ++ [nd (1 :: (p ++ r.2))], sha (1 :: (p ++ r.2)))
theorem climbF_eq : ∀ (k k' n s : Nat) (leaf : List UInt8) (ps : List (List UInt8)), ps.length ≤ k → ps.length ≤ k' → climbF k n s leaf ps = climbF k' n s leaf ps
  | 0, k', n, s, leaf, ps, h, h' => by
    have : ps = [] := List.eq_nil_of_length_eq_zero (by omega)
    subst this
    cases k' <;> simp [climbF]
  | k + 1, 0, n, s, leaf, ps, h, h' => by
    have : ps = [] := List.eq_nil_of_length_eq_zero (by omega)
    subst this
    simp [climbF]
  | k + 1, k' + 1, n, s, leaf, ps, h, h' => by
    unfold climbF
    rw [climbF_eq k k' n (lft s) leaf _ (by simp; omega) (by simp; omega), climbF_eq k k' (n - lft s) (s - lft s) leaf _ (by simp; omega) (by simp; omega)]
theorem climb_lo {n s : Nat} {leaf : List UInt8} {ps : List (List UInt8)} (hs : 2 ≤ s) (hn : n < lft s) (hp : ps.length ≠ 0) : climbF ps.length n s leaf ps = cL (climbF (ps.take (ps.length - 1)).length n (lft s) leaf (ps.take (ps.length - 1))) (ps.getD (ps.length - 1) []) := by
  obtain ⟨k, hk⟩ : ∃ k, ps.length = k + 1 := ⟨ps.length - 1, by omega⟩
  have hl : (ps.take (ps.length - 1)).length = k := by simp; omega
  rw [hl]
  conv => lhs; rw [hk]; unfold climbF
  rw [if_neg (by omega), if_pos hn]
  rfl
theorem climb_hi {n s : Nat} {leaf : List UInt8} {ps : List (List UInt8)} (hs : 2 ≤ s) (hn : ¬ n < lft s) (hp : ps.length ≠ 0) : climbF ps.length n s leaf ps = cR (climbF (ps.take (ps.length - 1)).length (n - lft s) (s - lft s) leaf (ps.take (ps.length - 1))) (ps.getD (ps.length - 1) []) := by
  obtain ⟨k, hk⟩ : ∃ k, ps.length = k + 1 := ⟨ps.length - 1, by omega⟩
  have hl : (ps.take (ps.length - 1)).length = k := by simp; omega
  rw [hl]
  conv => lhs; rw [hk]; unfold climbF
  rw [if_neg (by omega), if_neg hn]
  rfl
theorem down_lo {f n s : Nat} (hs : 2 ≤ s) (hn : n < lft s) : downF (f + 1) n s = false :: downF f n (lft s) := by
  conv => lhs; unfold downF
  rw [if_neg (by omega), if_pos hn]
theorem down_hi {f n s : Nat} (hs : 2 ≤ s) (hn : ¬ n < lft s) : downF (f + 1) n s = true :: downF f (n - lft s) (s - lft s) := by
  conv => lhs; unfold downF
  rw [if_neg (by omega), if_neg hn]
end Go.Ab.Aud

namespace Go.Ab.Aud
open Go.Sha
end Go.Ab.Aud

namespace Go.Ab.Aud
open Go.Sha
/-- a leaf's path leads to the root -/
theorem path_ok : ∀ (g : Nat) (l : List (List UInt8)) (i f : Nat), l.length ≤ g → i < l.length → l.length ≤ 2 ^ f →
    (downF f i l.length).length = (pathF g l i).length ∧ (climbF (pathF g l i).length i l.length (l.getD i []) (pathF g l i)).2 = rootL l
  | 0, l, i, f, hg, hi, hf => by omega
  | g + 1, l, i, f, hg, hi, hf => by
    by_cases h1 : l.length ≤ 1
    · unfold pathF
      rw [if_pos h1]
      obtain ⟨x, rfl⟩ := List.length_eq_one_iff.1 (show l.length = 1 by omega)
      obtain rfl : i = 0 := by simpa using hi
      refine ⟨?_, rfl⟩
      cases f <;> simp [downF]
    · have k1 := lft_lt (n := l.length) (by omega)
      have k0 := lft_pos (n := l.length)
      have k2 := lft_ge (n := l.length) (by omega)
      cases f with
      | zero => simp at hf; omega
      | succ f =>
        have k3 := lft_pow (s := l.length) (f := f) (by omega) hf
        have tl : (l.take (lft l.length)).length = lft l.length := by simp; omega
        have dl : (l.drop (lft l.length)).length = l.length - lft l.length := by simp
        unfold pathF
        rw [if_neg h1]
        by_cases h2 : i < lft l.length
        · rw [if_pos h2]
          obtain ⟨a, b⟩ := path_ok g (l.take (lft l.length)) i f (by omega) (by omega) (by omega)
          rw [tl] at a b
          refine ⟨by rw [down_lo (by omega) h2]; simp [a], ?_⟩
          rw [climb_lo (by omega) h2 (by simp), init_snoc, last_snoc]
          have e : (l.take (lft l.length)).getD i [] = l.getD i [] := by
            simp only [List.getD_eq_getElem?_getD, List.getElem?_take]; rw [if_pos h2]
          rw [e] at b
          simp only [cL, b]
          rw [rootL_two (l := l) (by omega)]
          rfl
        · rw [if_neg h2]
          obtain ⟨a, b⟩ := path_ok g (l.drop (lft l.length)) (i - lft l.length) f (by omega) (by omega) (by omega)
          rw [dl] at a b
          refine ⟨by rw [down_hi (by omega) h2]; simp [a], ?_⟩
          rw [climb_hi (by omega) h2 (by simp), init_snoc, last_snoc]
          have e : (l.drop (lft l.length)).getD (i - lft l.length) [] = l.getD i [] := by
            simp only [List.getD_eq_getElem?_getD, List.getElem?_drop]
            rw [show lft l.length + (i - lft l.length) = i by omega]
          rw [e] at b
          simp only [cR, b]
          rw [rootL_two (l := l) (by omega)]
          rfl
theorem incl_path {l : List (List UInt8)} {i : Nat} (hi : i < l.length) (hl : l.length < 2 ^ 64) : inclF l.length i (rootL l) (l.getD i []) (pathF l.length l i) = 0 := by
  obtain ⟨a, b⟩ := path_ok l.length l i 64 (Nat.le_refl _) hi (by omega)
  unfold inclF
  rw [if_neg (by omega), if_neg (by omega), ← climb_fold 64 _ i l.length (l.getD i []) _ a (Nat.le_refl _) (by omega) hi, b, if_neg (by simp)]
end Go.Ab.Aud

namespace Go.Ab.Aud
open Go.Sha
/-- two ways up of one number to one root: they are alike, or two unlike rows have one digest -/
theorem climb_two : ∀ (f k n s : Nat) (l0 l1 : List UInt8) (p0 p1 : List (List UInt8)), (downF f n s).length = p0.length → (downF f n s).length = p1.length → p0.length ≤ k → s ≤ 2 ^ f → n < s → l0.length = 32 → l1.length = 32 → (∀ x, x ∈ p0 → x.length = 32) → (∀ x, x ∈ p1 → x.length = 32) →
    (climbF k n s l0 p0).2 = (climbF k n s l1 p1).2 → (l0 = l1 ∧ p0 = p1) ∨ Met' ((climbF k n s l0 p0).1 ++ (climbF k n s l1 p1).1)
  | 0, k, n, s, l0, l1, p0, p1, h0, h1, hk, hs, hn, _, _, _, _, he => by
    have e0 : p0 = [] := List.eq_nil_of_length_eq_zero (by simp [downF] at h0; omega)
    have e1 : p1 = [] := List.eq_nil_of_length_eq_zero (by simp [downF] at h1; omega)
    subst e0; subst e1
    cases k <;> simp [climbF] at he <;> exact .inl ⟨he, rfl⟩
  | f + 1, k, n, s, l0, l1, p0, p1, h0, h1, hk, hs, hn, hl0, hl1, hp0, hp1, he => by
    unfold downF at h0 h1
    by_cases hs1 : s ≤ 1
    · rw [if_pos hs1] at h0 h1
      have e0 : p0 = [] := List.eq_nil_of_length_eq_zero (by simp at h0; omega)
      have e1 : p1 = [] := List.eq_nil_of_length_eq_zero (by simp at h1; omega)
      subst e0; subst e1
      cases k <;> simp [climbF] at he <;> exact .inl ⟨he, rfl⟩
    · rw [if_neg hs1] at h0 h1
      have k1 := lft_lt (n := s) (by omega)
      have k0 := lft_pos (n := s)
      have k2 := lft_ge (n := s) (by omega)
      have k3 := lft_pow (s := s) (f := f) (by omega) hs
      have hlen : p0.length = p1.length := by omega
      have join : p0.take (p0.length - 1) = p1.take (p1.length - 1) → p0.getD (p0.length - 1) [] = p1.getD (p1.length - 1) [] → p0 = p1 := fun h1' h2' => by
        have hz : p0.length ≠ 0 := by
          by_cases h2 : n < lft s
          · rw [if_pos h2] at h0; simp only [List.length_cons] at h0; omega
          · rw [if_neg h2] at h0; simp only [List.length_cons] at h0; omega
        rw [snoc_last hz, snoc_last (l := p1) (by omega), h1', h2']
      by_cases h2 : n < lft s
      · rw [if_pos h2] at h0 h1
        simp only [List.length_cons] at h0 h1
        obtain ⟨k, rfl⟩ : ∃ k', k = k' + 1 := ⟨k - 1, by omega⟩
        have ih := climb_two f k n (lft s) l0 l1 (p0.take (p0.length - 1)) (p1.take (p1.length - 1)) (by simp; omega) (by simp; omega) (by simp; omega) k3 h2 hl0 hl1 (mem_take32 hp0 _) (mem_take32 hp1 _)
        have r0 := climbF_32 k n (lft s) l0 (p0.take (p0.length - 1)) hl0
        have r1 := climbF_32 k n (lft s) l1 (p1.take (p1.length - 1)) hl1
        unfold climbF at he ⊢
        rw [if_neg (by omega), if_pos h2] at he ⊢
        rw [if_neg (by omega), if_pos h2] at he ⊢
        generalize climbF k n (lft s) l0 (p0.take (p0.length - 1)) = c0 at ih he r0 ⊢
        generalize climbF k n (lft s) l1 (p1.take (p1.length - 1)) = c1 at ih he r1 ⊢
        obtain ⟨c0, x0⟩ := c0
        obtain ⟨c1, x1⟩ := c1
        simp only at ih he r0 r1 ⊢
        by_cases hof : (1 :: (x0 ++ p0.getD (p0.length - 1) []) : List UInt8) = 1 :: (x1 ++ p1.getD (p1.length - 1) [])
        · injection hof with _ hof
          have hx := List.append_inj hof (by omega)
          rcases ih hx.1 with h | h
          · exact .inl ⟨h.1, join h.2 hx.2⟩
          · exact .inr (h.mono fun x hx => by simp at hx ⊢; rcases hx with hx | hx <;> simp [hx])
        · exact .inr ⟨_, _, List.mem_append_left _ (List.mem_append_right _ (List.mem_singleton.2 rfl)), List.mem_append_right _ (List.mem_append_right _ (List.mem_singleton.2 rfl)), he, hof⟩
      · rw [if_neg h2] at h0 h1
        simp only [List.length_cons] at h0 h1
        obtain ⟨k, rfl⟩ : ∃ k', k = k' + 1 := ⟨k - 1, by omega⟩
        have g0 := get32 hp0 (i := p0.length - 1) (by omega)
        have g1 := get32 hp1 (i := p1.length - 1) (by omega)
        have ih := climb_two f k (n - lft s) (s - lft s) l0 l1 (p0.take (p0.length - 1)) (p1.take (p1.length - 1)) (by simp; omega) (by simp; omega) (by simp; omega) (by omega) (by omega) hl0 hl1 (mem_take32 hp0 _) (mem_take32 hp1 _)
        unfold climbF at he ⊢
        rw [if_neg (by omega), if_neg h2] at he ⊢
        rw [if_neg (by omega), if_neg h2] at he ⊢
        generalize climbF k (n - lft s) (s - lft s) l0 (p0.take (p0.length - 1)) = c0 at ih he ⊢
        generalize climbF k (n - lft s) (s - lft s) l1 (p1.take (p1.length - 1)) = c1 at ih he ⊢
        obtain ⟨c0, x0⟩ := c0
        obtain ⟨c1, x1⟩ := c1
        simp only at ih he ⊢
        by_cases hof : (1 :: (p0.getD (p0.length - 1) [] ++ x0) : List UInt8) = 1 :: (p1.getD (p1.length - 1) [] ++ x1)
        · injection hof with _ hof
          have hx := List.append_inj hof (by omega)
          rcases ih hx.2 with h | h
          · exact .inl ⟨h.1, join h.2 hx.1⟩
          · exact .inr (h.mono fun x hx => by simp at hx ⊢; rcases hx with hx | hx <;> simp [hx])
        · exact .inr ⟨_, _, List.mem_append_left _ (List.mem_append_right _ (List.mem_singleton.2 rfl)), List.mem_append_right _ (List.mem_append_right _ (List.mem_singleton.2 rfl)), he, hof⟩
/-- what is shown: a list of leaves, a number -/
structure Sh (l : List (List UInt8)) (s n : Nat) (root leaf : List UInt8) (ps : List (List UInt8)) : Prop where
  l32 : ∀ x, x ∈ l → x.length = 32
  hs : s ≤ l.length
  s64 : s < 2 ^ 64
  hn : n < s
  hr : root = rootL (l.take s)
  hl : leaf = l.getD n []
  hp : ps = pathF s (l.take s) n
theorem sh_len {l : List (List UInt8)} {s : Nat} (h : s ≤ l.length) : (l.take s).length = s := by simp; omega
theorem sh_get {l : List (List UInt8)} {s n : Nat} (hn : n < s) : (l.take s).getD n [] = l.getD n [] := by
  rw [List.getD_eq_getElem?_getD, List.getD_eq_getElem?_getD, List.getElem?_take, if_pos hn]
section
variable {l : List (List UInt8)} {s n : Nat} {root leaf : List UInt8} {ps : List (List UInt8)} (H : Sh l s n root leaf ps)
include H
theorem Sh.way : (downF 64 n s).length = ps.length := by
  have := (path_ok s (l.take s) n 64 (by rw [sh_len H.hs]; exact Nat.le_refl _) (by rw [sh_len H.hs]; exact H.hn) (by rw [sh_len H.hs]; have := H.s64; omega)).1
  rw [sh_len H.hs] at this
  rw [H.hp]; exact this
theorem Sh.top (k : Nat) (hk : ps.length ≤ k) : (climbF k n s leaf ps).2 = root := by
  have := (path_ok s (l.take s) n 64 (by rw [sh_len H.hs]; exact Nat.le_refl _) (by rw [sh_len H.hs]; exact H.hn) (by rw [sh_len H.hs]; have := H.s64; omega)).2
  rw [sh_len H.hs, sh_get H.hn, ← H.hl, ← H.hp, ← H.hr] at this
  rw [climbF_eq k ps.length n s leaf ps hk (Nat.le_refl _)]; exact this
theorem Sh.incl : inclF s n root leaf ps = 0 := by
  have := incl_path (l := l.take s) (i := n) (by rw [sh_len H.hs]; exact H.hn) (by rw [sh_len H.hs]; exact H.s64)
  rw [sh_len H.hs, sh_get H.hn, ← H.hl, ← H.hp, ← H.hr] at this
  exact this
theorem Sh.wrong {qs : List (List UInt8)} (hq : qs.length ≠ ps.length) : inclF s n root leaf qs = 235 := by
  unfold inclF
  rw [if_neg (by have := H.hn; omega), if_pos (by rw [H.way]; exact fun h => hq h.symm)]
theorem Sh.ps32 : ∀ x, x ∈ ps → x.length = 32 := by rw [H.hp]; exact pathF_32 s _ _ (mem_take32 H.l32 s)
theorem Sh.leaf32 : leaf.length = 32 := by rw [H.hl]; exact get32 H.l32 (by have := H.hn; have := H.hs; omega)
/-- another leaf, or another path -/
theorem Sh.turned {other : List UInt8} {bad : List (List UInt8)} (ho : other.length = 32) (hb : ∀ x, x ∈ bad → x.length = 32) (hl : bad.length = ps.length) (hne : ¬ (other = leaf ∧ bad = ps)) (k : Nat) (hk : ps.length ≤ k) :
    inclF s n root other bad = 236 ∨ (inclF s n root other bad ≠ 236 ∧ (climbF k n s other bad).2 = root ∧ Met' ((climbF k n s other bad).1 ++ (climbF k n s leaf ps).1)) := by
  by_cases h : inclF s n root other bad = 236
  · exact .inl h
  · right
    refine ⟨h, ?_⟩
    have h0 : inclF s n root other bad = 0 := by
      unfold inclF at h ⊢
      rw [if_neg (by have := H.hn; omega), if_neg (by rw [H.way, hl]; simp)] at h ⊢
      by_cases hf : foldW (downF 64 n s).reverse bad other ≠ root
      · rw [if_pos hf] at h; exact absurd rfl h
      · rw [if_neg hf]
    obtain ⟨_, h1, h2⟩ := incl_ok H.s64 h0 k (by omega)
    refine ⟨h2, ?_⟩
    rcases climb_two 64 k n s other leaf bad ps h1 H.way (by omega) (by have := H.s64; omega) H.hn ho H.leaf32 hb H.ps32 (by rw [h2, H.top k hk]) with h3 | h3
    · exact absurd h3 hne
    · exact h3
end
/-- at another number -/
theorem Sh.other {l : List (List UInt8)} {s n m : Nat} {root leaf leaf' : List UInt8} {ps own : List (List UInt8)} (H : Sh l s n root leaf ps) (H' : Sh l s m root leaf' own) (hi : inclF s m root leaf ps = 0) (k : Nat) (hk : ps.length ≤ k) (hk' : own.length ≤ k) :
    (climbF k m s leaf ps).2 = root ∧ (leaf = leaf' ∨ Met' ((climbF k m s leaf ps).1 ++ (climbF k m s leaf' own).1)) := by
  obtain ⟨_, h1, h2⟩ := incl_ok H.s64 hi k hk
  exact ⟨h2, climb_one 64 k m s leaf leaf' ps own h1 H'.way hk (by have := H.s64; omega) H'.hn H.leaf32 H'.leaf32 H.ps32 H'.ps32 (by rw [h2, H'.top k hk'])⟩
end Go.Ab.Aud

namespace Go.Ab.Aud
open Go.Sha
theorem wr_arr {Z : ABlock} {n fz : Nat} {vs : List Value} (hZ : ABlock.cells (List.replicate n (bv 0)) (fz + 1) = Z) (hl : vs.length = n) (ok : vs.all okCell = true) (G : AHeap) (b : Nat) : wrN G b (some Z) 0 0 vs = some (G.put b (.cells vs (fz + 1))) := by
  rw [← hZ, wrN_cells (by simp [hl]) ok]
  congr 3
  simp [splice, hl]
theorem new_step {g : AHeap} {Z : ABlock} {c : List Value} {fz : Nat} {vs : List Value} (hZ : ABlock.cells c (fz + 1) = Z) :
    ∃ g', (g.push Z).put g.bs.length (.cells vs (fz + 1)) = g' ∧ (g.push Z).at g.bs.length = some Z ∧ g'.at g.bs.length = some (.cells vs (fz + 1)) ∧ g'.bs.length = g.bs.length + 1 ∧ g'.lo = g.lo ∧ Fr g g' (fun _ => False) :=
  ⟨_, rfl, push_self, put_self (by simp), by simp, rfl, Fr.push.put' (.inr (Nat.le_refl _))⟩
theorem wr_all {Z : ABlock} {c : List Value} {fz : Nat} {vs : List Value} (hZ : ABlock.cells c (fz + 1) = Z) (hl : vs.length = c.length) (ok : vs.all okCell = true) (G : AHeap) (b : Nat) : wrN G b (some Z) 0 0 vs = some (G.put b (.cells vs (fz + 1))) := by
  rw [← hZ, wrN_cells (by simp [hl]) ok]
  congr 3
  simp [splice, hl]
def s1 : ACode → ACode
  | .seq a _ => a
  | _ => .skip
def s2 : ACode → ACode
  | .seq _ b => b
  | _ => .skip
def blkIn : ACode → ACode
  | .block _ b => b
  | _ => .skip
theorem R_split {C : Ctx} {rs : List ARes} {k : List AItem} {t : List Value} {ds : List ADefer} {h : AHeap} {c a b : ACode} (e : c = .seq a b) : R C rs (.code c :: k) t ds h = R C rs (.code (s1 c) :: .code (s2 c) :: k) t ds h := by
  subst e; exact R_seq
end Go.Ab.Aud

namespace Go.Ab.Aud
open Go.Sha
end Go.Ab.Aud

namespace Go.Ab.Aud
open Go.Sha
end Go.Ab.Aud

namespace Go.Ab.Aud
open Go.Sha
variable {C : Ctx} (T : Tab_LLog C) (TD : Tab_LDig C) (TW : Tab_LLaw C) (TG : Tab_LGrow C) (hk : ∀ j, j < 64 → C.old 0 j = some (wv (kW j)))
section
include T TD TW TG hk
end
end Go.Ab.Aud

namespace Go.Ab.Aud
open Go.Sha
/-- which rows are laid -/
def laidF : Nat → Nat → List (List UInt8) → List (List UInt8)
  | 0, _, _ => []
  | _ + 1, _, [] => []
  | m + 1, left, r :: rs => if 16384 < r.length then laidF m left rs else if left < r.length + 100 then [] else r :: laidF m (left - (r.length + 100)) rs
def zv (z : Int) : Value := .int .i64 z
theorem zv_und {z : Int} : isUnd (zv z) = false := nr rfl
theorem iv_zv {n : Nat} : iv n = zv n := nr rfl
theorem zv_sub {a : Int} {b : Nat} (ha : -2 ^ 62 < a) (ha2 : a < 2 ^ 62) (hb : b < 2 ^ 61) : abin .sub (zv a) (iv b) = some (zv (a - b)) := by
  unfold zv iv
  simp only [abin, abinI, if_true]
  congr 2
  exact wrapi64 _ (by omega) (by omega)
theorem zv_lss {a : Int} {b : Nat} : abin .lss (zv a) (iv b) = some (.bool (decide (a < b))) := by
  unfold zv iv
  simp only [abin, abinI, if_true]
/-- rows that were laid -/
def RowsO (old : Old) (h : AHeap) (v : Value) (l : List (List UInt8)) : Prop := ∃ vs, Own h 41 1 v l.length vs ∧ ∀ i, i < l.length → ∃ x, vs[i]? = some x ∧ ArgB old x (l.getD i [])
theorem RowsO.fr {old : Old} {h h' : AHeap} {v : Value} {l : List (List UInt8)} {S : Nat → Prop} (H : RowsO old h v l) (f : Fr h h' S) (hn : ∀ j, blkOf v = some j → ¬ S j) : RowsO old h' v l := by
  obtain ⟨vs, o, g⟩ := H
  exact ⟨vs, o.fr f hn, g⟩
variable {C : Ctx} (T : Tab_LLog C) (TD : Tab_LDig C) (TW : Tab_LLaw C) (hk : ∀ j, j < 64 → C.old 0 j = some (wv (kW j))) (hp : ∀ j, j < 16 → C.old 1 j = some (wv (crcW j)))
include T TD TW hk hp
set_option maxHeartbeats 4000000 in
theorem laid_loop (q : Nat) (v : Value) (rows : List (List UInt8)) (HR : ArgR C.old v rows) (most : Nat) (hmost : most ≤ 64) (hrl : rows.length < 2 ^ 63) (p dd room : Nat) (name : List UInt8) (hN : ∀ h, D C 147 [str name] h = some (.bool true, h)) (hroom : 300000 ≤ room) (hroom2 : room < 2 ^ 39) :
    ∀ (d i L : Nat) (out : List (List UInt8)) (O : Nat → Prop) (wr : Nat) (content : List UInt8) (vo : Value) (g : AHeap) (t : List Value), i + d = rows.length → out.length ≤ i → out.length ≤ most → wr ≤ out.length → content.length + L ≤ 200000 → LogAt g O p dd name content (out.map lh) room wr → RowsO C.old g vo out →
      (∀ j, blkOf vo = some j → q ≤ j ∧ ¬ O j) → (∀ j, O j → q ≤ j) → q ≤ g.bs.length → g.lo ≤ g.bs.length → tg t 0 = v → tg t 1 = iv most → tg t 8 = .pointer (some ⟨p, 0, some 0⟩) → tg t 10 = vo → tg t 11 = iv L → tg t 12 = iv i →
    ∃ g' t' O' wr' content' vo', (∀ k, R C r24 (.inLoop lp24_0 :: .inBlock 0 :: k) t [] g = R C r24 k t' [] g') ∧ tg t' 8 = .pointer (some ⟨p, 0, some 0⟩) ∧ tg t' 10 = vo' ∧ LogAt g' O' p dd name content' ((out ++ laidF (most - i) L (rows.drop i)).map lh) room wr' ∧ RowsO C.old g' vo' (out ++ laidF (most - i) L (rows.drop i)) ∧
      Fr g g' (fun j => q ≤ j) ∧ (∀ j, O' j → q ≤ j) ∧ isUnd vo' = false ∧ (∀ j, blkOf vo' = some j → q ≤ j) := by
  intro d
  induction d with
  | zero =>
    intro i L out O wr content vo g t hd hoi hom hwr hcl H HO hvo hO hq hwf t0 t1 t8 t10 t11 t12
    obtain rfl : i = rows.length := by omega
    obtain ⟨a, cp, vs, hv, _⟩ := HR
    have e : ∃ t', (∀ k, R C r24 (.inLoop lp24_0 :: .inBlock 0 :: k) t [] g = R C r24 k t' [] g) ∧ tg t' 8 = .pointer (some ⟨p, 0, some 0⟩) ∧ tg t' 10 = vo := by
      refine ex_step (fun k => R_open lp24_0.eq_1) ?_
      simp [t0, t1, t12, hv]
      exact ⟨_, fun _ => rfl, by simp [t8], by simp [t10]⟩
    obtain ⟨t', e, u8, u10⟩ := e
    have hl : laidF (most - rows.length) L (rows.drop rows.length) = [] := by
      rw [List.drop_length]; cases most - rows.length <;> rfl
    rw [hl, List.append_nil]
    exact ⟨g, t', O, wr, content, vo, e, u8, u10, H, HO, Fr.refl _ _, hO, by obtain ⟨_, o, _⟩ := HO; exact o.und, fun j hj => (hvo j hj).1⟩
  | succ d ih =>
    intro i L out O wr content vo g t hd hoi hom hwr hcl H HO hvo hO hq hwf t0 t1 t8 t10 t11 t12
    have hi : i < rows.length := by omega
    obtain ⟨a', cp', a, cp, hv, r1, s1, nl⟩ := HR.get hi
    have hoU : isUnd vo = false := by obtain ⟨_, o, _⟩ := HO; exact o.und
    have hoL : lenV vo = some (iv out.length) := by obtain ⟨_, o, _⟩ := HO; exact o.lenV
    by_cases him : i < most
    · have hdr : rows.drop i = rows.getD i [] :: rows.drop (i + 1) := by rw [List.drop_eq_getElem_cons hi]; simp [List.getD_eq_getElem?_getD, hi]
      have hms : most - i = (most - (i + 1)) + 1 := by omega
      rw [hdr, hms]
      generalize hr : rows.getD i [] = r at r1 s1 nl ⊢
      unfold laidF
      by_cases hlong : 16384 < r.length
      · rw [if_pos hlong]
        have e : ∃ t', (∀ k, R C r24 (.inLoop lp24_0 :: .inBlock 0 :: k) t [] g = R C r24 (.inLoop lp24_0 :: .inBlock 0 :: k) t' [] g) ∧ tg t' 0 = v ∧ tg t' 1 = iv most ∧ tg t' 8 = .pointer (some ⟨p, 0, some 0⟩) ∧ tg t' 10 = vo ∧ tg t' 11 = iv L ∧ tg t' 12 = iv (i + 1) := by
          refine ex_step (fun k => R_open lp24_0.eq_1) ?_
          simp [t0, t1, t12, hv, hi, him, ixS_iv hi, r1 g, hlong, iv_add (a := i) (b := 1) (by omega)]
          exact ⟨_, fun _ => rfl, by simp [t0, hv], by simp [t1], by simp [t8], by simp [t10], by simp [t11], by simp⟩
        obtain ⟨t', e, u0, u1, u8, u10, u11, u12⟩ := e
        obtain ⟨g', t2, O', wr', ct', vo', x1, x2⟩ := ih (i + 1) L out O wr content vo g t' (by omega) (by omega) hom hwr hcl H HO hvo hO hq hwf u0 u1 u8 u10 u11 u12
        exact ⟨g', t2, O', wr', ct', vo', fun k => (e k).trans (x1 k), x2⟩
      · rw [if_neg hlong]
        have es1 : abin .sub (iv L) (iv r.length) = some (zv ((L : Int) - r.length)) := zv_sub (by omega) (by omega) (by omega)
        have es2 : abin .sub (zv ((L : Int) - r.length)) (iv 100) = some (zv ((L : Int) - r.length - 100)) := zv_sub (by omega) (by omega) (by omega)
        by_cases hleft : L < r.length + 100
        · rw [if_pos hleft]
          have hneg : ((L : Int) - r.length - 100 < (0 : Nat)) = True := eq_true (by omega)
          have e : ∃ t', (∀ k, R C r24 (.inLoop lp24_0 :: .inBlock 0 :: k) t [] g = R C r24 k t' [] g) ∧ tg t' 8 = .pointer (some ⟨p, 0, some 0⟩) ∧ tg t' 10 = vo := by
            refine ex_step (fun k => R_open lp24_0.eq_1) ?_
            simp [t0, t1, t11, t12, hv, hi, him, ixS_iv hi, r1 g, hlong, es1, stp_ok zv_und, es2, zv_lss, show (L : Int) - r.length - 100 < 0 by omega]
            exact ⟨_, fun _ => rfl, by simp [t8], by simp [t10]⟩
          obtain ⟨t', e, u8, u10⟩ := e
          rw [List.append_nil]
          exact ⟨g, t', O, wr, content, vo, e, u8, u10, H, HO, Fr.refl _ _, hO, hoU, fun j hj => (hvo j hj).1⟩
        · rw [if_neg hleft]
          have hnn : ¬ ((L : Int) - r.length - 100 < (0 : Nat)) := by omega
          have hL' : ((L : Int) - r.length - 100) = ((L - (r.length + 100) : Nat) : Int) := by omega
          obtain ⟨h1, vc, e1, o1, f1, b1⟩ := copy_spec TW g r a r.length cp (s1 g) (by omega) hwf
          obtain ⟨ac, cpc, hvc⟩ := o1.slice
          have sc := o1.sl (old := C.old) (by omega)
          rw [hvc] at sc e1
          have l1 := f1.len
          have g1 := f1.lo
          have H1 := H.fr f1 (fun _ _ h => h)
          obtain ⟨h2, e2, H2, f2⟩ := audit_append T TD hp hk h1 O p dd room wr name content (out.map lh) r ac r.length cpc H1 sc (fun j hj hOj => by
            have := b1 j (by rw [hvc]; exact o1.live (by rw [hvc]; exact hj) |> (hvc ▸ ·)); have := H.olt j hOj; omega) (by omega) (by omega) (by omega) hroom2 (by omega) (by simp; omega) hN
          rw [List.length_map] at e2
          have l2 := f2.len
          have g2 := f2.lo
          obtain ⟨vs, ov, hvs⟩ := HO
          have ov2 : Own h2 41 1 vo out.length vs := (ov.fr f1 (fun _ _ h => h)).fr f2 (fun j hj => (hvo j hj).2)
          have f3 : Fr h2 (h2.push (.cells [.slice a r.length cp] 42)) (fun _ => False) := Fr.push
          obtain ⟨v', h4, e4, o4, f4, b4⟩ := append_own (old := C.old) (bytes := 24) (x := .slice (some ⟨h2.bs.length, 0, some 0⟩) 1 1) (m := 1) (new := [.slice a r.length cp]) (ov2.fr f3 fun _ _ h => h) (by omega) rfl
            (fun _ => by simp only [srcCells]; rw [readN_rd, push_self]; rfl) (fun h => by cases h) rfl rfl (by simp [sizeLim]; omega) (by simp; omega)
          have l4 := f4.len
          simp at l4
          have hvo2 : ∀ j, blkOf vo = some j → q ≤ j := fun j hj => (hvo j hj).1
          have f24 : Fr h2 h4 (fun j => blkOf vo = some j) := f3.trans f4 (fun _ h => h.elim) (fun _ h _ => h)
          have H4 := H2.fr f24 (fun j hj hb => by
            rcases hj with hj | hj
            · exact (hvo j hb).2 hj
            · have := ov.blk hb; omega)
          have fg4 : Fr g h4 (fun j => q ≤ j) := (f1.trans f2 (S'' := fun j => q ≤ j) (fun _ h => h.elim) (fun j hj _ => hO j hj)).trans f24 (fun _ h => h) (fun j hj _ => hvo2 j hj)
          have cu : abin .neq (uv out.length) (uv out.length) = some (.bool false) := by simp
          have e : ∃ t', (∀ k, R C r24 (.inLoop lp24_0 :: .inBlock 0 :: k) t [] g = R C r24 (.inLoop lp24_0 :: .inBlock 0 :: k) t' [] h4) ∧ tg t' 0 = v ∧ tg t' 1 = iv most ∧ tg t' 8 = .pointer (some ⟨p, 0, some 0⟩) ∧ tg t' 10 = v' ∧ tg t' 11 = iv (L - (r.length + 100)) ∧ tg t' 12 = iv (i + 1) := by
            refine ex_step (fun k => R_open lp24_0.eq_1) ?_
            simp [t0, t1, t8, t10, t11, t12, hv, hi, him, ixS_iv hi, r1 g, r1 h2, hlong, es1, stp_ok zv_und, es2, zv_lss, show ¬ (L : Int) - r.length - 100 < 0 by omega, Dc_ok, e1, e2, num_spec TW, hoL, stp_ok hoU, hoU, cvt_iu (show out.length < 18446744073709551616 by omega), fillCells, splice, e4, stp_ok o4.und, iv_add (a := i) (b := 1) (by omega)]
            exact ⟨_, fun _ => rfl, by simp [t0, hv], by simp [t1], by simp [t8], by simp, by simp [hL', iv_zv], by simp⟩
          obtain ⟨t', e, u0, u1, u8, u10, u11, u12⟩ := e
          have hml : (out ++ [r]).map lh = out.map lh ++ [sha (0 :: r)] := by simp [lh]
          have hfl := frame_length r
          have HO' : RowsO C.old h4 v' (out ++ [r]) := by
            refine ⟨vs ++ [.slice a r.length cp], by rw [List.length_append]; exact o4, fun i' hi' => ?_⟩
            have hvl := ov.len
            by_cases hlt : i' < out.length
            · obtain ⟨x, hx, hB⟩ := hvs i' hlt
              refine ⟨x, by rw [List.getElem?_append_left (by omega)]; exact hx, ?_⟩
              have : (out ++ [r]).getD i' [] = out.getD i' [] := by simp [List.getD_eq_getElem?_getD, List.getElem?_append_left hlt]
              rw [this]; exact hB
            · have : i' = out.length := by simp at hi'; omega
              subst this
              refine ⟨.slice a r.length cp, by rw [List.getElem?_append_right (by omega)]; simp [hvl], ?_⟩
              have : (out ++ [r]).getD out.length [] = r := by simp [List.getD_eq_getElem?_getD]
              rw [this]; exact ⟨a, cp, rfl, s1, nl⟩
          obtain ⟨g', t2, O', wr', ct', vo', x1, x2, x3, x4, x5, x6, x7⟩ := ih (i + 1) (L - (r.length + 100)) (out ++ [r]) (fun j => O j ∨ (h1.bs.length ≤ j ∧ j < h2.bs.length)) (wr + 1) (content ++ frame r) v' h4 t' (by omega) (by simp; omega) (by simp; omega) (by simp; omega) (by simp [hfl]; omega)
            (by rw [hml]; exact H4) HO' (fun j hj => by
              rcases b4 with b4 | b4
              · rw [b4] at hj
                refine ⟨(hvo j hj).1, ?_⟩
                rintro (hc | hc)
                · exact (hvo j hj).2 hc
                · have := ov.blk hj; omega
              · rw [b4] at hj; cases hj
                refine ⟨by simp; omega, ?_⟩
                rintro (hc | hc)
                · have := H.olt _ hc; simp at this; omega
                · simp at hc; omega) (fun j hj => by
              rcases hj with hj | hj
              · exact hO j hj
              · omega) (by omega) (by rw [fg4.lo]; omega) u0 u1 u8 u10 u11 u12
          refine ⟨g', t2, O', wr', ct', vo', fun k => (e k).trans (x1 k), x2, x3, ?_, ?_, fg4.trans x6 (fun _ h => h) (fun _ h _ => h), x7⟩
          · rw [List.append_assoc] at x4; exact x4
          · rw [List.append_assoc] at x5; exact x5
    · have e : ∃ t', (∀ k, R C r24 (.inLoop lp24_0 :: .inBlock 0 :: k) t [] g = R C r24 k t' [] g) ∧ tg t' 8 = .pointer (some ⟨p, 0, some 0⟩) ∧ tg t' 10 = vo := by
        refine ex_step (fun k => R_open lp24_0.eq_1) ?_
        simp [t0, t1, t12, hv, hi, him]
        exact ⟨_, fun _ => rfl, by simp [t8], by simp [t10]⟩
      obtain ⟨t', e, u8, u10⟩ := e
      rw [show most - i = 0 by omega]
      have : laidF 0 L (rows.drop i) = [] := rfl
      rw [this, List.append_nil]
      exact ⟨g, t', O, wr, content, vo, e, u8, u10, H, HO, Fr.refl _ _, hO, hoU, fun j hj => (hvo j hj).1⟩
end Go.Ab.Aud

namespace Go.Ab.Aud
open Go.Sha
variable {C : Ctx} (T : Tab_LLog C) (TD : Tab_LDig C) (TW : Tab_LLaw C) (hk : ∀ j, j < 64 → C.old 0 j = some (wv (kW j))) (hp : ∀ j, j < 16 → C.old 1 j = some (wv (crcW j)))
include T TD TW hk hp
theorem laid_spec (h : AHeap) (v : Value) (rows : List (List UInt8)) (HR : ArgR C.old v rows) (most : Nat) (hmost : most ≤ 64) (hrl : rows.length < 2 ^ 63) (hwf : h.lo ≤ h.bs.length) (hN : ∀ h, D C 147 [str nmAudit] h = some (.bool true, h)) :
    ∃ h' p d O wr content vo, D C 24 [v, iv most] h = some (.tuple #[.pointer (some ⟨p, 0, some 0⟩), vo], h') ∧ LogAt h' O p d nmAudit content ((laidF most 200000 rows).map lh) 16777216 wr ∧ RowsO C.old h' vo (laidF most 200000 rows) ∧ Fr h h' (fun _ => False) ∧ (∀ j, O j → h.bs.length ≤ j) ∧ (∀ j, blkOf vo = some j → h.bs.length ≤ j) := by
  obtain ⟨h1, h2, d, p, O, e1, e2, L, hO, f2⟩ := open_new T h 16777216 nmAudit (by omega) (by omega) hwf hN
  have l2 := f2.len
  have g2 := f2.lo
  have hv : isUnd v = false := by obtain ⟨a, cp, vs, hv, _⟩ := HR; rw [hv]; rfl
  obtain ⟨t, e, u0, u1, u8, u10, u11, u12⟩ : ∃ t, R C r24 [.code b24] [v, iv most] [] h = R C r24 (.inLoop lp24_0 :: .inBlock 0 :: [.code k24_0]) t [] h2 ∧ tg t 0 = v ∧ tg t 1 = iv most ∧ tg t 8 = .pointer (some ⟨p, 0, some 0⟩) ∧ tg t 10 = .slice none 0 0 ∧ tg t 11 = iv 200000 ∧ tg t 12 = iv 0 := by
    have hs : Value.string ⟨⟨[97, 117, 100, 105, 116]⟩⟩ = str nmAudit := rfl
    simp [b24, Dc_ok, e1, num_spec TW, hs, e2, aeq_nilPs]
    exact ⟨_, rfl, by simp, by simp, by simp, by simp, by simp, by simp⟩
  obtain ⟨g', t', O', wr', ct', vo', x1, x2, x3, x4, x5, x6, x7, x8, x9⟩ := laid_loop T TD TW hk hp h.bs.length v rows HR most hmost hrl p d 16777216 nmAudit hN (by omega) (by omega) rows.length 0 200000 [] O 0 [] (.slice none 0 0) h2
    t (by omega) (by simp) (by simp) (by simp) (by simp) L ⟨[], .nil, fun i hi => by cases hi⟩ (fun j hj => by cases hj) hO l2 (by omega) u0 u1 u8 u10 u11 u12
  rw [List.nil_append] at x4 x5
  refine ⟨g', p, d, O', wr', ct', vo', ?_, x4, x5, f2.trans x6 (fun _ h => h) (fun j hj hl => by omega), x7, x9⟩
  rw [D_fn TW.h24]
  rw [e, x1 [.code k24_0]]
  simp [k24_0, x2, x3, stp_ok x8, x8, r24]
end Go.Ab.Aud

namespace Go.Ab.Aud
open Go.Sha
/-- digests that were given -/
def ArgDig (old : Old) (v : Value) (l : List (List UInt8)) : Prop := ∃ a cp, v = .slice a l.length cp ∧ (∀ h, DigR old h a cp l) ∧ ∀ j, ¬ Live (.slice a l.length cp) j
/-- a path, at this time -/
def DigV (old : Old) (h : AHeap) (v : Value) (l : List (List UInt8)) : Prop := ∃ a cp, v = .slice a l.length cp ∧ DigR old h a cp l
theorem DigV.fr {old : Old} {h h' : AHeap} {v : Value} {l : List (List UInt8)} (H : DigV old h v l) (f : Fr h h' (fun _ => False)) : DigV old h' v l := by
  obtain ⟨a, cp, h1, h2⟩ := H
  exact ⟨a, cp, h1, h2.fr f (fun _ _ h => h)⟩
/-- append([][32]byte{}, path...) -/
theorem dig_copy {old : Old} {h : AHeap} {v : Value} {l : List (List UInt8)} (H : DigV old h v l) (hl : l.length < 2 ^ 20) (hwf : h.lo ≤ h.bs.length) :
    ∃ v' h', appendV old h 30 32 32 emptySl v = some (v', h') ∧ DigO h' v' l ∧ Fr h h' (fun _ => False) ∧ (∀ j, blkOf v' = some j → h.bs.length ≤ j) := by
  obtain ⟨a, cp, rfl, D⟩ := H
  obtain ⟨v', h', e, o, f, b⟩ := append_own (old := old) (bytes := 32) (x := .slice a l.length cp) (m := l.length) (new := leafCells l) (Own.empty (h := h) (e := 30) (k := 32)) (by omega) rfl
    (fun hn => D.1.src hn) (fun h0 => by rw [List.eq_nil_of_length_eq_zero h0]; rfl) (leafCells_len D.2) (by
      rw [List.all_eq_true]; intro x hx
      obtain ⟨y, _, hy⟩ := List.mem_flatMap.1 hx
      exact List.all_eq_true.1 bytes_ok x hy) (by simp [sizeLim]; omega) hwf
  rw [Nat.zero_add, List.nil_append] at o
  refine ⟨v', h', e, ⟨o, D.2⟩, f.mono (fun j hj _ => by cases hj), fun j hj => ?_⟩
  rcases b with b | b
  · rw [hj] at b; cases b
  · rw [hj] at b; cases b; omega
end Go.Ab.Aud

namespace Go.Ab.Aud
open Go.Sha
theorem climbF_of : ∀ (f n size : Nat) (leaf : List UInt8) (path : List (List UInt8)), leaf.length = 32 → (∀ x, x ∈ path → x.length = 32) → ∀ x, x ∈ (climbF f n size leaf path).1 → x.1.length = 65
  | 0, _, _, _, _, _, _, x, hx => by cases hx
  | f + 1, n, size, leaf, path, h, hp, x, hx => by
    unfold climbF at hx
    by_cases h1 : size ≤ 1 ∨ path.length = 0
    · rw [if_pos h1] at hx; cases hx
    · rw [if_neg h1] at hx
      have g := get32 hp (i := path.length - 1) (by omega)
      by_cases h2 : n < lft size
      · rw [if_pos h2] at hx
        have r := climbF_32 f n (lft size) leaf (path.take (path.length - 1)) h
        rcases List.mem_append.1 hx with hx | hx
        · exact climbF_of f _ _ _ _ h (mem_take32 hp _) x hx
        · rw [List.mem_singleton] at hx; subst hx
          rw [List.length_cons, List.length_append, r, g]
      · rw [if_neg h2] at hx
        have r := climbF_32 f (n - lft size) (size - lft size) leaf (path.take (path.length - 1)) h
        rcases List.mem_append.1 hx with hx | hx
        · exact climbF_of f _ _ _ _ h (mem_take32 hp _) x hx
        · rw [List.mem_singleton] at hx; subst hx
          rw [List.length_cons, List.length_append, r, g]
theorem zv_eql {a : Int} {b : Nat} : abin .eql (zv a) (iv b) = some (.bool (decide (a = (b : Int)))) := by
  unfold zv iv
  simp only [abin, abinI, if_true]
theorem laidF_len : ∀ (m left : Nat) (rows : List (List UInt8)), (laidF m left rows).length ≤ m
  | 0, _, _ => by simp [laidF]
  | m + 1, _, [] => by simp [laidF]
  | m + 1, left, r :: rs => by
    unfold laidF
    split
    · have := laidF_len m left rs; omega
    · split
      · simp
      · have := laidF_len m (left - (r.length + 100)) rs; simp; omega
theorem laidF_long : ∀ (m left : Nat) (rows : List (List UInt8)), ∀ x, x ∈ laidF m left rows → x.length ≤ 16384
  | 0, _, _, x, h => by simp [laidF] at h
  | m + 1, _, [], x, h => by simp [laidF] at h
  | m + 1, left, r :: rs, x, h => by
    unfold laidF at h
    split at h
    · exact laidF_long m left rs x h
    · split at h
      · cases h
      · rcases List.mem_cons.1 h with h | h
        · subst h; omega
        · exact laidF_long m _ rs x h
theorem RowsO.get {old : Old} {h : AHeap} {v : Value} {l : List (List UInt8)} (H : RowsO old h v l) {i : Nat} (hi : i < l.length) : ∃ a' a cp, v = .slice (some a') l.length 0 ∧ read1 old h (adda a' i) = some (.slice a (l.getD i []).length cp) ∧ (∀ h, SlR old h 1 (.slice a (l.getD i []).length cp) (bytesVals (l.getD i []))) := by
  obtain ⟨vs, o, g⟩ := H
  have hv0 : ∃ va', v = .slice (some va') l.length 0 := by
    rcases o with ⟨_, h0, _⟩ | ⟨b, g', last, hv, _⟩
    · omega
    · exact ⟨_, hv⟩
  obtain ⟨a', rfl⟩ := hv0
  obtain ⟨x, hx, a, cp, e, s, _⟩ := g i hi
  refine ⟨a', a, cp, rfl, ?_, s⟩
  rw [own_rd o hi, hx, e]
end Go.Ab.Aud

namespace Go.Ab.Aud
open Go.Sha
/-- two rows behind one another, whatever their order in memory -/
theorem pairs_app2 {old : Old} {h : AHeap} {q : Nat} {v w : Value} {l l' : List (List UInt8 × List UInt8)} (H : Pairs old h q v l) (hlo : h.lo ≤ h.bs.length) (hq : q ≤ h.bs.length)
    (L' : List PT) (hL' : L'.map (·.2) = l') (hw : srcLen w = some L'.length) (hs : L'.length ≠ 0 → srcCells old h 33 L'.length w = some (pcells L')) (hP : ∀ x, x ∈ L' → POk old h q w x) (hne : ∀ x, x ∈ L' → ∀ j, Live x.1 j → blkOf v ≠ some j) (hb : l.length + l'.length < 2 ^ 20) :
    ∃ v' h', appendV old h 158 33 56 v w = some (v', h') ∧ Pairs old h' q v' (l ++ l') ∧ Fr h h' (fun j => blkOf v = some j) ∧ (blkOf v' = blkOf v ∨ blkOf v' = some h.bs.length) := by
  obtain ⟨L, e, o, b, p⟩ := H
  have hL : L.length = l.length := by rw [← e]; simp
  have hLl : L'.length = l'.length := by rw [← hL']; simp
  obtain ⟨v', h', e1, o1, f1, b1⟩ := append_own (old := old) (bytes := 56) (x := w) (m := L'.length) (new := pcells L') o (by omega) hw hs
    (fun h0 => by rw [List.eq_nil_of_length_eq_zero h0]; rfl)
    (pcells_len fun x hx => by obtain ⟨_, _, _, _, h3, _⟩ := hP x hx; exact h3) (pcells_ok fun x hx => (hP x hx).ok) (by simp [sizeLim]; omega) hlo
  refine ⟨v', h', e1, ⟨L ++ L', by rw [List.map_append, e, hL'], ?_, fun j hj => ?_, fun x hx => ?_⟩, f1, b1⟩
  · have : pcells (L ++ L') = pcells L ++ pcells L' := by simp [pcells]
    rw [List.length_append, this]; exact o1
  · rcases b1 with b1 | b1
    · exact b j (by rw [← b1]; exact hj)
    · rw [b1] at hj; cases hj; exact hq
  · rcases List.mem_append.1 hx with hx | hx
    · obtain ⟨a, cp, h1, h2, h3, h4⟩ := p x hx
      refine ⟨a, cp, h1, h2.fr f1 (by rw [← h1]; exact fun j hj => (h4 j hj).2), h3, fun j hj => ⟨(h4 j hj).1, ?_⟩⟩
      rcases b1 with b1 | b1
      · rw [b1]; exact (h4 j hj).2
      · rw [b1]; intro hc; cases hc
        have := h2.live_lt (by rw [← h1]; exact hj); omega
    · obtain ⟨a, cp, h1, h2, h3, h4⟩ := hP x hx
      have hne := hne x hx
      refine ⟨a, cp, h1, h2.fr f1 (by rw [← h1]; exact hne), h3, fun j hj => ⟨(h4 j hj).1, ?_⟩⟩
      rcases b1 with b1 | b1
      · rw [b1]; exact hne j hj
      · rw [b1]; intro hc; cases hc
        have := h2.live_lt (by rw [← h1]; exact hj); omega
theorem DigV.und {old : Old} {h : AHeap} {v : Value} {l : List (List UInt8)} (H : DigV old h v l) : isUnd v = false := by obtain ⟨a, cp, rfl, _⟩ := H; rfl
theorem DigV.okc {old : Old} {h : AHeap} {v : Value} {l : List (List UInt8)} (H : DigV old h v l) : okCell v = true := by obtain ⟨a, cp, rfl, _⟩ := H; rfl
theorem DigV.lenV {old : Old} {h : AHeap} {v : Value} {l : List (List UInt8)} (H : DigV old h v l) : lenV v = some (iv l.length) := by obtain ⟨a, cp, rfl, _⟩ := H; rfl
theorem zv_rem {z : Int} {n : Nat} (hn : 0 < n) : abin .rem (zv z) (iv n) = some (zv (z.tmod n)) := by
  unfold zv iv
  simp only [abin, abinI, if_true]
  rw [if_neg (by omega)]
theorem zv_add {a : Int} {b : Nat} (ha : -2 ^ 62 < a) (ha2 : a < 2 ^ 62) (hb : b < 2 ^ 61) : abin .add (zv a) (iv b) = some (zv (a + b)) := by
  unfold zv iv
  simp only [abin, abinI, if_true]
  congr 2
  exact wrapi64 _ (by omega) (by omega)
/-- a number within n -/
def wi (z : Int) (n : Nat) : Nat := (z % n).toNat
theorem wi_lt {z : Int} {n : Nat} (hn : 0 < n) : wi z n < n := by
  unfold wi
  have := Int.emod_lt_of_pos z (show (0 : Int) < n by omega)
  have := Int.emod_nonneg z (show (n : Int) ≠ 0 by omega)
  omega
theorem wi_tmod {z : Int} {n : Nat} (hn : 0 < n) : (wi z n : Int) = if z.tmod n < 0 then z.tmod n + n else z.tmod n := by
  unfold wi
  have h1 := Int.emod_nonneg z (show (n : Int) ≠ 0 by omega)
  have h2 := Int.emod_lt_of_pos z (show (0 : Int) < n by omega)
  rw [Int.toNat_of_nonneg h1, Int.tmod_eq_emod]
  by_cases hc : 0 ≤ z ∨ (n : Int) ∣ z
  · simp only [if_pos hc]
    rw [if_neg (by omega)]; omega
  · simp only [if_neg hc, Int.natAbs_natCast]
    rw [if_pos (by omega)]; omega
theorem tmod_gt {z : Int} {n : Nat} (hn : 0 < n) : -(n : Int) < z.tmod n := by
  have h1 := Int.emod_nonneg z (show (n : Int) ≠ 0 by omega)
  rw [Int.tmod_eq_emod]
  by_cases hc : 0 ≤ z ∨ (n : Int) ∣ z
  · simp only [if_pos hc]; omega
  · simp only [if_neg hc, Int.natAbs_natCast]
    have : z % n ≠ 0 := fun h => hc (.inr (Int.dvd_of_emod_eq_zero h))
    omega
variable {C : Ctx} (T : Tab_LLog C) (TD : Tab_LDig C) (TW : Tab_LLaw C) (TG : Tab_LGrow C) (hk : ∀ j, j < 64 → C.old 0 j = some (wv (kW j))) (hp : ∀ j, j < 16 → C.old 1 j = some (wv (crcW j)))
include TG in
theorem within_spec (h : AHeap) (z : Int) (n : Nat) (hn : 0 < n) (hn2 : n < 2 ^ 40) : D C 33 [zv z, iv n] h = some (iv (wi z n), h) := by
  rw [D_fn3 TG.h33 _ rfl]
  suffices hs : R C r33 [.code b33] [zv z, iv n] [] ⟨[], 0⟩ = some (iv (wi z n), ⟨[], 0⟩) by
    rw [hs]; exact pur_some rfl
  have e := wi_tmod (z := z) hn
  have b1 : z.tmod n < n := Int.tmod_lt_of_pos z (by omega)
  have b2 := tmod_gt (z := z) hn
  by_cases hc : z.tmod n < 0
  · rw [if_pos hc] at e
    have r : iv (wi z n) = zv (z.tmod n + n) := by rw [← e]; rfl
    simp [b33, zv_rem hn, stp_ok zv_und, zv_lss, hc, zv_add (a := z.tmod n) (b := n) (by omega) (by omega) (by omega), r33, r]
  · rw [if_neg hc] at e
    have r : iv (wi z n) = zv (z.tmod n) := by rw [← e]; rfl
    simp [b33, zv_rem hn, stp_ok zv_und, zv_lss, hc, r33, r]
end Go.Ab.Aud

namespace Go.Ab.Aud
open Go.Sha
/-- numbers that were given -/
def ArgN (old : Old) (v : Value) (l : List Nat) : Prop := ∃ a cp, v = .slice a l.length cp ∧ (∀ h, SlR old h 1 (.slice a l.length cp) (l.map uv)) ∧ (∀ j, ¬ Live (.slice a l.length cp) j) ∧ ∀ x, x ∈ l → x < 18446744073709551616
theorem ArgN.get {old : Old} {v : Value} {l : List Nat} (H : ArgN old v l) {i : Nat} (hi : i < l.length) : ∃ a' cp, v = .slice (some a') l.length cp ∧ (∀ h, read1 old h (adda a' i) = some (uv (l.getD i 0))) ∧ l.getD i 0 < 18446744073709551616 := by
  obtain ⟨a, cp, h1, h2, _, h4⟩ := H
  obtain ⟨a', rfl⟩ := (h2 ⟨[], 0⟩).ex (by omega)
  refine ⟨a', cp, h1, fun h => ?_, ?_⟩
  · have := readN_read1 ((h2 h).read (by omega)) (i := i) (by omega)
    rw [this, List.getD_eq_getElem?_getD, List.getElem?_map, List.getElem?_eq_getElem hi]; rfl
  · rw [List.getD_eq_getElem?_getD, List.getElem?_eq_getElem hi]
    exact h4 _ (List.getElem_mem hi)
theorem ArgN.und {old : Old} {v : Value} {l : List Nat} (H : ArgN old v l) : isUnd v = false := by obtain ⟨a, cp, rfl, _⟩ := H; rfl
theorem ArgN.okc {old : Old} {v : Value} {l : List Nat} (H : ArgN old v l) : okCell v = true := by obtain ⟨a, cp, rfl, _⟩ := H; rfl
theorem ArgN.lenV {old : Old} {v : Value} {l : List Nat} (H : ArgN old v l) : lenV v = some (iv l.length) := by obtain ⟨a, cp, rfl, _⟩ := H; rfl
end Go.Ab.Aud
