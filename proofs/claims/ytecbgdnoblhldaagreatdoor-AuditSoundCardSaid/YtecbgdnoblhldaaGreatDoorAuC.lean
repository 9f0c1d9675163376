/-
  Steps of the proof of AuditSoundCardSaid: what functions of the program do in the abstract machine, and the laws between; no condition beside those that each theorem names.
-/
import Derived.Test.YtecbgdnoblhldaaGreatDoorAuB
import Derived.Test.YtecbgdnoblhldaaGreatDoorAbD
import Derived.Test.YtecbgdnoblhldaaGreatDoorChecked
import Derived.WalkKit
import Derived.ProofKit
import Derived.Test.YtecbgdnoblhldaaGreatDoorLit

set_option linter.unusedSimpArgs false
set_option linter.unusedVariables false
set_option linter.unusedSectionVars false

namespace Go.Ab.Aud
open Go.Sha
variable {C : Ctx} (T : Tab_LLog C) (TD : Tab_LDig C) (TW : Tab_LLaw C) (hk : ∀ j, j < 64 → C.old 0 j = some (wv (kW j)))
include T TD TW hk
set_option maxHeartbeats 4000000 in
theorem climb_spec : ∀ (f n size : Nat) (leaf : List UInt8) (path : List (List UInt8)), path.length ≤ f → f < 1024 → n < 18446744073709551616 → size < 18446744073709551616 → leaf.length = 32 → ∀ (h : AHeap) (a : Option Addr) (cp : Nat), DigR C.old h a cp path → h.lo ≤ h.bs.length →
    ∃ h' v, D C 28 [uv n, uv size, .agg ⟨bytesVals leaf⟩, .slice a path.length cp] h = some (.tuple #[v, .agg ⟨bytesVals (climbF f n size leaf path).2⟩], h') ∧ Pairs C.old h' h.bs.length v (climbF f n size leaf path).1 ∧ Fr h h' (fun _ => False) ∧ isUnd v = false := by
  intro f
  induction f with
  | zero => 
    intro n size leaf path hp hf hn hs hlf h a cp P hwf
    have hp0 : path.length = 0 := by omega
    rw [D_fn TW.h28, hp0]
    have hz : Value.int .u8 0 = bv 0 := rfl
    generalize hX : ABlock.cells (bytesVals leaf) 31 = X
    generalize hZ : ABlock.cells (List.replicate 32 (bv 0)) 31 = Z
    have hZ0 := hZ
    simp [List.replicate] at hZ
    have w1 := lay32 hlf ((h.push X).push Z) (h.push X).bs.length
    rw [hZ0] at w1
    have x0 : ((h.push X).push Z).at h.bs.length = some X := by rw [push_lt (by simp)]; exact push_self
    have z0 : ((h.push X).push Z).at (h.bs.length + 1) = some Z := push_self' (by simp)
    have rx : rdN (some X) 0 0 32 = some (bytesVals leaf) := by rw [← hX]; exact rd32 hlf
    simp at w1
    have hlo1 : h.lo ≤ h.bs.length + 1 := by omega
    refine ⟨((h.push X).push Z).put (h.bs.length + 1) (.cells (bytesVals leaf) 31), .slice none 0 0, ?_, Pairs.nil, (Fr.push.push').put' (.inr (by omega)), rfl⟩
    by_cases hs1 : size ≤ 1
    · simp [b28, bytes_ok, hX, hz, hZ, hs1, x0, z0, rx, w1, writeN_wr, hlo1, hlf, r28, resV, put_self, climbF, rd32 hlf]
    · simp [b28, bytes_ok, hX, hz, hZ, hs1, x0, z0, rx, w1, writeN_wr, hlo1, hlf, r28, resV, put_self, climbF, rd32 hlf]
  | succ f ih =>
    intro n size leaf path hp hf hn hs hlf h a cp P hwf
    rw [D_fn TW.h28]
    have hz : Value.int .u8 0 = bv 0 := rfl
    generalize hX : ABlock.cells (bytesVals leaf) 31 = X
    generalize hZ : ABlock.cells (List.replicate 32 (bv 0)) 31 = Z
    have hZ0 := hZ
    simp [List.replicate] at hZ
    generalize hA : (h.push X).push Z = A
    have fA : Fr h A (fun _ => False) := by rw [← hA]; exact Fr.push.push'
    have aL : A.bs.length = h.bs.length + 2 := by rw [← hA]; simp
    have aO := fA.lo
    have x0 : A.at h.bs.length = some X := by rw [← hA, push_lt (by simp)]; exact push_self
    have z0 : A.at (h.bs.length + 1) = some Z := by rw [← hA]; exact push_self' (by simp)
    have rx : rdN (some X) 0 0 32 = some (bytesVals leaf) := by rw [← hX]; exact rd32 hlf
    have hlo1 : h.lo ≤ h.bs.length + 1 := by omega
    have hlt1 : h.bs.length + 1 < A.bs.length := by omega
    unfold climbF
    by_cases hb : size ≤ 1 ∨ path.length = 0
    · rw [if_pos hb]
      have w1 := lay32 hlf A (h.bs.length + 1)
      rw [hZ0] at w1
      refine ⟨A.put (h.bs.length + 1) (.cells (bytesVals leaf) 31), .slice none 0 0, ?_, Pairs.nil, fA.put' (.inr (by omega)), rfl⟩
      by_cases hs1 : size ≤ 1
      · simp [b28, bytes_ok, hX, hz, hZ, hA, hs1, x0, z0, rx, w1, writeN_wr, aO, hlo1, hlf, hlt1, r28, resV, put_self, rd32 hlf]
      · have hp0 : path.length = 0 := by omega
        simp [b28, bytes_ok, hX, hz, hZ, hA, hs1, hp0, x0, z0, rx, w1, writeN_wr, aO, hlo1, hlf, hlt1, r28, resV, put_self, rd32 hlf]
    · rw [if_neg hb]
      have hs1 : ¬ size ≤ 1 := by omega
      have hp0 : ¬ path.length = 0 := by omega
      have k1 := lft_lt (n := size) (by omega)
      have k0 := lft_pos (n := size)
      have e1 := half_spec TW A size (by omega) hs
      have PA : DigR C.old A a cp path := P.fr fA (fun _ _ h => h)
      obtain ⟨a', rfl, rp⟩ := PA.get (i := path.length - 1) (by omega)
      have lp := get32 P.2 (i := path.length - 1) (by omega)
      generalize hla : path.getD (path.length - 1) [] = last at rp lp
      have fZ : Fr A (A.push Z) (fun _ => False) := Fr.push
      have w2 := lay32 lp (A.push Z) A.bs.length
      rw [hZ0] at w2
      have z1 : (A.push Z).at A.bs.length = some Z := push_self
      generalize hB : (A.push Z).put A.bs.length (.cells (bytesVals last) 31) = B at w2
      have fB : Fr A B (fun _ => False) := by rw [← hB]; exact fZ.put' (.inr (Nat.le_refl _))
      have bL : B.bs.length = A.bs.length + 1 := by rw [← hB]; simp
      have bO := fB.lo
      have b11 : B.at A.bs.length = some (.cells (bytesVals last) 31) := by rw [← hB]; exact put_self (by simp)
      have rl : rdN (some (.cells (bytesVals last) 31)) 0 0 32 = some (bytesVals last) := rd32 lp
      have hloA : h.lo ≤ A.bs.length := by omega
      have fBZ : Fr B (B.push Z) (fun _ => False) := Fr.push
      have PB : DigR C.old (B.push Z) (some a') cp path := (PA.fr fB (fun _ _ h => h)).fr fBZ (fun _ _ h => h)
      obtain ⟨a2, cp2, sl, P2, lv2⟩ := PB.lower (path.length - 1) (by omega)
      have hl2 : (path.take (path.length - 1)).length = path.length - 1 := by simp
      have x1 : (B.push Z).at h.bs.length = some X := fBZ.get (fB.get x0 (fun h => h)) (fun h => h)
      by_cases hlt : n < lft size
      · rw [if_pos hlt]
        obtain ⟨D1, v, e2, p2, f2, u2⟩ := ih n (lft size) leaf (path.take (path.length - 1)) (by omega) (by omega) (by omega) (by omega) hlf (B.push Z) a2 cp2 P2 (by simp; omega)
        rw [hl2] at e2
        have rlen := climbF_32 f n (lft size) leaf (path.take (path.length - 1)) hlf
        have clen := climbF_len f n (lft size) leaf (path.take (path.length - 1))
        generalize climbF f n (lft size) leaf (path.take (path.length - 1)) = r at e2 p2 rlen clen ⊢
        obtain ⟨rl1, rt⟩ := r
        simp only at e2 p2 rlen clen ⊢
        have dL := f2.len
        have dO := f2.lo
        simp at dL dO
        have z2 : D1.at B.bs.length = some Z := f2.get push_self (fun h => h)
        have w3 := lay32 rlen D1 B.bs.length
        rw [hZ0] at w3
        generalize hE : D1.put B.bs.length (.cells (bytesVals rt) 31) = E at w3
        have e13 : E.at B.bs.length = some (.cells (bytesVals rt) 31) := by rw [← hE]; exact put_self (by omega)
        have fE : Fr D1 E (fun j => j = B.bs.length) := by rw [← hE]; exact Fr.put rfl
        have eL : E.bs.length = D1.bs.length := by rw [← hE]; simp
        have eO := fE.lo
        have rr : rdN (some (.cells (bytesVals rt) 31)) 0 0 32 = some (bytesVals rt) := rd32 rlen
        have e11 : E.at A.bs.length = some (.cells (bytesVals last) 31) := fE.get (f2.get (fBZ.get b11 (fun h => h)) (fun h => h)) (by omega)
        obtain ⟨G, na, ncp, e3, s3, f3, lv3⟩ := lnode_spec T TD TW hk E rt last rlen lp (by omega)
        have dl32 := sha_length (1 :: (rt ++ last))
        have ofl : (1 :: (rt ++ last) : List UInt8).length = 65 := by simp [rlen, lp]
        generalize hof : (1 :: (rt ++ last) : List UInt8) = of at e3 s3 dl32 ofl ⊢
        generalize hdg : sha of = dg at e3 dl32 ⊢
        have gL := f3.len
        have gO := f3.lo
        generalize hZ2 : ABlock.cells (.slice none 0 0 :: List.replicate 32 (bv 0)) 159 = Z2
        have hZ20 := hZ2
        simp [List.replicate] at hZ2
        have z14 : (G.push Z2).at G.bs.length = some Z2 := push_self
        have w4 : wrN (G.push Z2) G.bs.length (some Z2) 0 0 (.slice na 65 ncp :: bytesVals dg) = some ((G.push Z2).put G.bs.length (.cells (.slice na 65 ncp :: bytesVals dg) 159)) := by
          rw [← hZ20, wrN_cells (by simp [dl32]) (by rw [List.all_cons, bytes_ok]; rfl)]
          congr 3
          simp [splice, dl32]
        generalize hH : (G.push Z2).put G.bs.length (.cells (.slice na 65 ncp :: bytesVals dg) 159) = H at w4
        have h14 : H.at G.bs.length = some (.cells (.slice na 65 ncp :: bytesVals dg) 159) := by rw [← hH]; exact put_self (by simp)
        have fH : Fr G H (fun _ => False) := by rw [← hH]; exact Fr.push.put' (.inr (Nat.le_refl _))
        have hL : H.bs.length = G.bs.length + 1 := by rw [← hH]; simp
        have hO := fH.lo
        have rp1 : rdN (some (.cells (.slice na 65 ncp :: bytesVals dg) 159)) 0 0 33 = some (.slice na 65 ncp :: bytesVals dg) := by
          rw [rdN_cells (by simp [dl32]), List.drop_zero, List.take_of_length_le (by simp [dl32])]
        have rp2 : rdN (some (.cells (.slice na 65 ncp :: bytesVals dg) 159)) 1 0 32 = some (bytesVals dg) := by
          rw [rdN_cells (by simp [dl32]), List.drop_succ_cons, List.drop_zero, List.take_of_length_le (by simp [dl32])]
        have fBE : Fr D1 H (fun j => j = B.bs.length) := (fE.trans f3 (S'' := fun j => j = B.bs.length) (fun _ h => h) (fun _ h _ => h.elim)).trans fH (fun _ h => h) (fun _ h _ => h.elim)
        have pH : Pairs C.old H (B.push Z).bs.length v rl1 := p2.fr fBE (fun j hj _ hc => by simp at hj; omega)
        have vb1 : ∀ j, blkOf v = some j → j < D1.bs.length := by
          obtain ⟨L, _, o, _, _⟩ := p2
          exact fun j hj => o.blk hj
        rw [← ofl] at s3 lv3
        obtain ⟨v', K, e5, p5, f5, b5, l5⟩ := pair_one (q := (B.push Z).bs.length) pH (by omega) (by simp; omega) (s3.fr fH (fun _ _ h => h)) dl32 E.bs.length (by simp; omega) (fun j hj => by have := vb1 j hj; omega) (fun j hj => lv3 j hj) (by omega)
        rw [ofl] at e5
        have vq : ∀ j, blkOf v = some j → (B.push Z).bs.length ≤ j := by
          obtain ⟨L, _, _, b, _⟩ := p2
          exact b
        have fhD : Fr h D1 (fun _ => False) := ((fA.trans fB (S'' := fun _ => False) (fun _ h => h) (fun _ h _ => h)).trans fBZ (S'' := fun _ => False) (fun _ h => h) (fun _ h _ => h)).trans f2 (fun _ h => h) (fun _ h _ => h)
        have fAK : Fr A K (fun j => B.bs.length ≤ j) := (((fB.trans fBZ (S'' := fun j => B.bs.length ≤ j) (fun _ h => h.elim) (fun _ h _ => h.elim)).trans f2 (S'' := fun j => B.bs.length ≤ j) (fun _ h => h) (fun _ h _ => h.elim)).trans fBE (S'' := fun j => B.bs.length ≤ j) (fun _ h => h) (fun _ h _ => by omega)).trans f5 (fun _ h => h) (fun j hj _ => by have := vq j hj; simp at this; omega)
        have k9 : K.at (h.bs.length + 1) = some Z := fAK.get z0 (by omega)
        have kO := fAK.lo
        have kL := fAK.len
        have w5 := lay32 dl32 K (h.bs.length + 1)
        rw [hZ0] at w5
        have k14 : K.at G.bs.length = some (.cells (.slice na 65 ncp :: bytesVals dg) 159) := f5.get h14 (fun hj => by have := vb1 _ hj; omega)
        have vU : isUnd v' = false := by obtain ⟨L, _, o, _, _⟩ := p5; exact o.und
        have hloB : h.lo ≤ B.bs.length := by omega
        have hloG : h.lo ≤ G.bs.length := by omega
        have klt : h.bs.length + 1 < K.bs.length := by omega
        have h14' : (H.push (.cells (.slice na 65 ncp :: bytesVals dg) 159)).at G.bs.length = some (.cells (.slice na 65 ncp :: bytesVals dg) 159) := push_old h14
        have zsp : splice (.slice none 0 0 :: List.replicate 32 (bv 0)) 0 (.slice na 65 ncp :: bytesVals dg) = .slice na 65 ncp :: bytesVals dg := by simp [splice, dl32]
        simp [List.replicate] at zsp
        refine ⟨K.put (h.bs.length + 1) (.cells (bytesVals dg) 31), v', ?_, ?_, ?_, vU⟩
        · simp [b28, bytes_ok, hX, hz, hZ, hA, hs1, hp0, Dc_ok, e1, iv_sub (a := path.length) (b := 1) (by omega) (by omega), ixS_iv (show path.length - 1 < path.length by omega), rp, writeN_wr, aO, hloA, z1, lp, w2, hlt, x1, rx, sl, e2, stp_ok u2, u2, z2, rlen, w3, dO, bO, hloB, e13, rr, e11, rl, e3, hZ2, z14, dl32, w4, gO, eO, hloG, h14, rp1, rp2, fillCells, zsp, e5, k9, w5, kO, hlo1, k14, h14', vU, r28, resV, put_self, klt, rd32 dl32]
        · exact (p5.fr (Fr.put (S := fun j => j = h.bs.length + 1) rfl) (fun j hj _ hc => by simp at hj; omega)).mono (by simp; omega)
        · exact (fA.trans fAK (S'' := fun _ => False) (fun _ h => h) (fun j hj hl => by omega)).put' (.inr (by omega))
      · rw [if_neg hlt]
        obtain ⟨D1, v, e2, p2, f2, u2⟩ := ih (n - lft size) (size - lft size) leaf (path.take (path.length - 1)) (by omega) (by omega) (by omega) (by omega) hlf (B.push Z) a2 cp2 P2 (by simp; omega)
        rw [hl2] at e2
        have rlen := climbF_32 f (n - lft size) (size - lft size) leaf (path.take (path.length - 1)) hlf
        have clen := climbF_len f (n - lft size) (size - lft size) leaf (path.take (path.length - 1))
        generalize climbF f (n - lft size) (size - lft size) leaf (path.take (path.length - 1)) = r at e2 p2 rlen clen ⊢
        obtain ⟨rl1, rt⟩ := r
        simp only at e2 p2 rlen clen ⊢
        have dL := f2.len
        have dO := f2.lo
        simp at dL dO
        have z2 : D1.at B.bs.length = some Z := f2.get push_self (fun h => h)
        have w3 := lay32 rlen D1 B.bs.length
        rw [hZ0] at w3
        generalize hE : D1.put B.bs.length (.cells (bytesVals rt) 31) = E at w3
        have e13 : E.at B.bs.length = some (.cells (bytesVals rt) 31) := by rw [← hE]; exact put_self (by omega)
        have fE : Fr D1 E (fun j => j = B.bs.length) := by rw [← hE]; exact Fr.put rfl
        have eL : E.bs.length = D1.bs.length := by rw [← hE]; simp
        have eO := fE.lo
        have rr : rdN (some (.cells (bytesVals rt) 31)) 0 0 32 = some (bytesVals rt) := rd32 rlen
        have e11 : E.at A.bs.length = some (.cells (bytesVals last) 31) := fE.get (f2.get (fBZ.get b11 (fun h => h)) (fun h => h)) (by omega)
        obtain ⟨G, na, ncp, e3, s3, f3, lv3⟩ := lnode_spec T TD TW hk E last rt lp rlen (by omega)
        have dl32 := sha_length (1 :: (last ++ rt))
        have ofl : (1 :: (last ++ rt) : List UInt8).length = 65 := by simp [lp, rlen]
        generalize hof : (1 :: (last ++ rt) : List UInt8) = of at e3 s3 dl32 ofl ⊢
        generalize hdg : sha of = dg at e3 dl32 ⊢
        have gL := f3.len
        have gO := f3.lo
        generalize hZ2 : ABlock.cells (.slice none 0 0 :: List.replicate 32 (bv 0)) 159 = Z2
        have hZ20 := hZ2
        simp [List.replicate] at hZ2
        have z14 : (G.push Z2).at G.bs.length = some Z2 := push_self
        have w4 : wrN (G.push Z2) G.bs.length (some Z2) 0 0 (.slice na 65 ncp :: bytesVals dg) = some ((G.push Z2).put G.bs.length (.cells (.slice na 65 ncp :: bytesVals dg) 159)) := by
          rw [← hZ20, wrN_cells (by simp [dl32]) (by rw [List.all_cons, bytes_ok]; rfl)]
          congr 3
          simp [splice, dl32]
        generalize hH : (G.push Z2).put G.bs.length (.cells (.slice na 65 ncp :: bytesVals dg) 159) = H at w4
        have h14 : H.at G.bs.length = some (.cells (.slice na 65 ncp :: bytesVals dg) 159) := by rw [← hH]; exact put_self (by simp)
        have fH : Fr G H (fun _ => False) := by rw [← hH]; exact Fr.push.put' (.inr (Nat.le_refl _))
        have hL : H.bs.length = G.bs.length + 1 := by rw [← hH]; simp
        have hO := fH.lo
        have rp1 : rdN (some (.cells (.slice na 65 ncp :: bytesVals dg) 159)) 0 0 33 = some (.slice na 65 ncp :: bytesVals dg) := by
          rw [rdN_cells (by simp [dl32]), List.drop_zero, List.take_of_length_le (by simp [dl32])]
        have rp2 : rdN (some (.cells (.slice na 65 ncp :: bytesVals dg) 159)) 1 0 32 = some (bytesVals dg) := by
          rw [rdN_cells (by simp [dl32]), List.drop_succ_cons, List.drop_zero, List.take_of_length_le (by simp [dl32])]
        have fBE : Fr D1 H (fun j => j = B.bs.length) := (fE.trans f3 (S'' := fun j => j = B.bs.length) (fun _ h => h) (fun _ h _ => h.elim)).trans fH (fun _ h => h) (fun _ h _ => h.elim)
        have pH : Pairs C.old H (B.push Z).bs.length v rl1 := p2.fr fBE (fun j hj _ hc => by simp at hj; omega)
        have vb1 : ∀ j, blkOf v = some j → j < D1.bs.length := by
          obtain ⟨L, _, o, _, _⟩ := p2
          exact fun j hj => o.blk hj
        rw [← ofl] at s3 lv3
        obtain ⟨v', K, e5, p5, f5, b5, l5⟩ := pair_one (q := (B.push Z).bs.length) pH (by omega) (by simp; omega) (s3.fr fH (fun _ _ h => h)) dl32 E.bs.length (by simp; omega) (fun j hj => by have := vb1 j hj; omega) (fun j hj => lv3 j hj) (by omega)
        rw [ofl] at e5
        have vq : ∀ j, blkOf v = some j → (B.push Z).bs.length ≤ j := by
          obtain ⟨L, _, _, b, _⟩ := p2
          exact b
        have fhD : Fr h D1 (fun _ => False) := ((fA.trans fB (S'' := fun _ => False) (fun _ h => h) (fun _ h _ => h)).trans fBZ (S'' := fun _ => False) (fun _ h => h) (fun _ h _ => h)).trans f2 (fun _ h => h) (fun _ h _ => h)
        have fAK : Fr A K (fun j => B.bs.length ≤ j) := (((fB.trans fBZ (S'' := fun j => B.bs.length ≤ j) (fun _ h => h.elim) (fun _ h _ => h.elim)).trans f2 (S'' := fun j => B.bs.length ≤ j) (fun _ h => h) (fun _ h _ => h.elim)).trans fBE (S'' := fun j => B.bs.length ≤ j) (fun _ h => h) (fun _ h _ => by omega)).trans f5 (fun _ h => h) (fun j hj _ => by have := vq j hj; simp at this; omega)
        have k9 : K.at (h.bs.length + 1) = some Z := fAK.get z0 (by omega)
        have kO := fAK.lo
        have kL := fAK.len
        have w5 := lay32 dl32 K (h.bs.length + 1)
        rw [hZ0] at w5
        have k14 : K.at G.bs.length = some (.cells (.slice na 65 ncp :: bytesVals dg) 159) := f5.get h14 (fun hj => by have := vb1 _ hj; omega)
        have vU : isUnd v' = false := by obtain ⟨L, _, o, _, _⟩ := p5; exact o.und
        have hloB : h.lo ≤ B.bs.length := by omega
        have hloG : h.lo ≤ G.bs.length := by omega
        have klt : h.bs.length + 1 < K.bs.length := by omega
        have h14' : (H.push (.cells (.slice na 65 ncp :: bytesVals dg) 159)).at G.bs.length = some (.cells (.slice na 65 ncp :: bytesVals dg) 159) := push_old h14
        have zsp : splice (.slice none 0 0 :: List.replicate 32 (bv 0)) 0 (.slice na 65 ncp :: bytesVals dg) = .slice na 65 ncp :: bytesVals dg := by simp [splice, dl32]
        simp [List.replicate] at zsp
        refine ⟨K.put (h.bs.length + 1) (.cells (bytesVals dg) 31), v', ?_, ?_, ?_, vU⟩
        · simp [b28, bytes_ok, hX, hz, hZ, hA, hs1, hp0, Dc_ok, e1, iv_sub (a := path.length) (b := 1) (by omega) (by omega), ixS_iv (show path.length - 1 < path.length by omega), rp, writeN_wr, aO, hloA, z1, lp, w2, hlt, x1, rx, sl, e2, stp_ok u2, u2, z2, rlen, w3, dO, bO, hloB, e13, rr, e11, rl, e3, hZ2, z14, dl32, w4, gO, eO, hloG, h14, rp1, rp2, fillCells, zsp, e5, k9, w5, kO, hlo1, k14, h14', vU, r28, resV, put_self, klt, rd32 dl32, uv_sub (a := n) (b := lft size) (by omega) (by omega), uv_sub (a := size) (b := lft size) (by omega) (by omega)]
        · exact (p5.fr (Fr.put (S := fun j => j = h.bs.length + 1) rfl) (fun j hj _ hc => by simp at hj; omega)).mono (by simp; omega)
        · exact (fA.trans fAK (S'' := fun _ => False) (fun _ h => h) (fun j hj hl => by omega)).put' (.inr (by omega))
end Go.Ab.Aud

namespace Go.Ab.Aud
open Go.Sha
theorem pcells_drop : ∀ {L : List PT}, (∀ x, x ∈ L → x.2.2.length = 32) → ∀ i, (pcells L).drop (i * 33) = pcells (L.drop i)
  | L, _, 0 => by simp
  | [], _, i + 1 => by simp [pcells]
  | x :: L, h, i + 1 => by
    have hx := h x (by simp)
    have ih := pcells_drop (L := L) (fun y hy => h y (by simp [hy])) i
    have e : pcells (x :: L) = (x.1 :: bytesVals x.2.2) ++ pcells L := rfl
    rw [e, List.drop_succ_cons, ← ih, List.drop_append, List.drop_of_length_le (by simp [hx]; omega), List.nil_append]
    congr 1
    simp [hx]; omega
theorem pcells_d {L : List PT} (h : ∀ x, x ∈ L → x.2.2.length = 32) {i : Nat} (hi : i < L.length) : ((pcells L).drop (i * 33 + 1)).take 32 = bytesVals L[i].2.2 := by
  have hx := h _ (List.getElem_mem hi)
  rw [← List.drop_drop, pcells_drop h, List.drop_eq_getElem_cons hi]
  have e : ∀ (x : PT) (M : List PT), pcells (x :: M) = x.1 :: (bytesVals x.2.2 ++ pcells M) := fun _ _ => rfl
  rw [e, List.drop_succ_cons, List.drop_zero, List.take_append_of_le_length (by simp [hx]), List.take_of_length_le (by simp [hx])]
theorem pcells_v {L : List PT} (h : ∀ x, x ∈ L → x.2.2.length = 32) {i : Nat} (hi : i < L.length) : (pcells L)[i * 33]? = some L[i].1 := by
  have : (pcells L)[i * 33]? = ((pcells L).drop (i * 33))[0]? := by simp
  have e : ∀ (x : PT) (M : List PT), pcells (x :: M) = x.1 :: (bytesVals x.2.2 ++ pcells M) := fun _ _ => rfl
  rw [this, pcells_drop h, List.drop_eq_getElem_cons hi, e]
  rfl
/-- two unlike rows of one digest -/
def hit (l : List (List UInt8 × List UInt8)) (i k : Nat) : Bool := decide ((l.getD i ([], [])).2 = (l.getD k ([], [])).2) && !decide ((l.getD i ([], [])).1 = (l.getD k ([], [])).1)
def Met (l : List (List UInt8 × List UInt8)) : Prop := ∃ i k, k < i ∧ i < l.length ∧ hit l i k = true
/-- what is read of a row of pairs -/
theorem Pairs.get {old : Old} {h : AHeap} {q : Nat} {v : Value} {l : List (List UInt8 × List UInt8)} (H : Pairs old h q v l) {i : Nat} (hi : i < l.length) :
    ∃ a' a cp, v = .slice (some a') l.length 0 ∧ readN old h (adda (adda a' (i * 33)) 1) 32 = some (bytesVals (l.getD i ([], [])).2) ∧ read1 old h (adda (adda a' (i * 33)) 0) = some (.slice a (l.getD i ([], [])).1.length cp) ∧
      SlR old h 1 (.slice a (l.getD i ([], [])).1.length cp) (bytesVals (l.getD i ([], [])).1) ∧ (l.getD i ([], [])).2.length = 32 := by
  obtain ⟨L, e, o, b, p⟩ := H
  have hL : L.length = l.length := by rw [← e]; simp
  have h32 : ∀ x, x ∈ L → x.2.2.length = 32 := fun x hx => by obtain ⟨_, _, _, _, h3, _⟩ := p x hx; exact h3
  have hv0 : ∃ va', v = .slice (some va') l.length 0 := by
    rw [hL] at o
    rcases o with ⟨_, h0, _⟩ | ⟨b, g', last, hv, _⟩
    · omega
    · exact ⟨_, hv⟩
  obtain ⟨a', rfl⟩ := hv0
  have hiL : i < L.length := by omega
  obtain ⟨a, cp, h1, h2, h3, h4⟩ := p _ (List.getElem_mem hiL)
  have eg : l.getD i ([], []) = L[i].2 := by
    subst e
    simp [List.getD_eq_getElem?_getD, hiL]
  have s := (o.sl (old := old) (by omega)).read (by omega)
  have r1 := readN_part s (i := i * 33 + 1) (m := 32) (by omega)
  have r2 := readN_read1 s (i := i * 33) (by omega)
  rw [pcells_d h32 hiL] at r1
  rw [pcells_v h32 hiL, h1] at r2
  rw [eg]
  exact ⟨a', a, cp, rfl, by rw [adda_adda]; exact r1, by rw [adda_zero]; exact r2, h2, h3⟩
/-- a row of pairs that is only read -/
def PairsR (old : Old) (h : AHeap) (v : Value) (l : List (List UInt8 × List UInt8)) : Prop :=
  lenV v = some (iv l.length) ∧ isUnd v = false ∧ ∀ i, i < l.length → ∃ a' a cp, v = .slice (some a') l.length 0 ∧ readN old h (adda (adda a' (i * 33)) 1) 32 = some (bytesVals (l.getD i ([], [])).2) ∧ read1 old h (adda (adda a' (i * 33)) 0) = some (.slice a (l.getD i ([], [])).1.length cp) ∧
      SlR old h 1 (.slice a (l.getD i ([], [])).1.length cp) (bytesVals (l.getD i ([], [])).1) ∧ (l.getD i ([], [])).2.length = 32
theorem Pairs.rd {old : Old} {h : AHeap} {q : Nat} {v : Value} {l : List (List UInt8 × List UInt8)} (H : Pairs old h q v l) : PairsR old h v l :=
  ⟨by obtain ⟨L, e, o, _⟩ := H; rw [o.lenV, ← e]; simp, by obtain ⟨L, e, o, _⟩ := H; exact o.und, fun i hi => H.get hi⟩
theorem readN_lo {old : Old} {h : AHeap} {a : Addr} {n x : Nat} : readN old { h with lo := x } a n = readN old h a n := readN_same (.inr rfl)
theorem read1_lo {old : Old} {h : AHeap} {a : Addr} {x : Nat} : read1 old { h with lo := x } a = read1 old h a := read1_same (.inr rfl)
theorem PairsR.lo {old : Old} {h : AHeap} {x : Nat} {v : Value} {l : List (List UInt8 × List UInt8)} (H : PairsR old h v l) : PairsR old { h with lo := x } v l := by
  refine ⟨H.1, H.2.1, fun i hi => ?_⟩
  obtain ⟨a', a, cp, h1, h2, h3, h4, h5⟩ := H.2.2 i hi
  exact ⟨a', a, cp, h1, by rw [readN_lo]; exact h2, by rw [read1_lo]; exact h3, h4.lo, h5⟩
variable {C : Ctx} (TW : Tab_LLaw C)
include TW
theorem met_inner (h : AHeap) (v : Value) (l : List (List UInt8 × List UInt8)) (H : PairsR C.old h v l) (hl : l.length < 2 ^ 20) (hb : ∀ i, (l.getD i ([], [])).1.length < 2 ^ 40) (i : Nat) (hi : i < l.length) : ∀ (d k : Nat) (t : List Value), k + d = i → tg t 0 = v → tg t 3 = iv i → tg t 4 = iv k →
    ((∃ k', k ≤ k' ∧ k' < i ∧ hit l i k' = true) ∧ ∀ K, R C r29 (.inLoop lp29_0 :: .inBlock 2 :: K) t [] h = some (.bool true, h)) ∨
    ((∀ k', k ≤ k' → k' < i → hit l i k' = false) ∧ ∃ t', (∀ K, R C r29 (.inLoop lp29_0 :: .inBlock 2 :: K) t [] h = R C r29 K t' [] h) ∧ tg t' 0 = v ∧ tg t' 3 = iv i) := by
  intro d
  induction d with
  | zero =>
    intro k t hd t0 t3 t4
    right
    obtain rfl : k = i := by omega
    refine ⟨fun k' h1 h2 => by omega, ?_⟩
    refine ex_step (fun k => R_open lp29_0.eq_1) ?_
    simp [t3, t4]
    exact ⟨_, fun _ => rfl, by simp [t0], by simp [t3]⟩
  | succ d ih =>
    intro k t hd t0 t3 t4
    obtain ⟨a', ai, ci, hv, r1, r2, s1, d1⟩ := H.2.2 i hi
    obtain ⟨a2, ak, ck, hv2, r3, r4, s2, d2⟩ := H.2.2 k (by omega)
    rw [hv] at hv2
    injection hv2 with hv2
    injection hv2 with hv2
    subst hv2
    have eq1 := aeq_dig d1 d2
    simp [-List.getD_eq_getElem?_getD, List.replicate] at eq1
    have eq2 := eq_spec TW h (l.getD i ([], [])).1 (l.getD k ([], [])).1 (hb i) ai ak ci ck s1 s2
    rw [hv] at t0
    have hki : k < i := by omega
    by_cases c1 : (l.getD i ([], [])).2 = (l.getD k ([], [])).2
    · by_cases c2 : (l.getD i ([], [])).1 = (l.getD k ([], [])).1
      · have e : ∃ t', (∀ K, R C r29 (.inLoop lp29_0 :: .inBlock 2 :: K) t [] h = R C r29 (.inLoop lp29_0 :: .inBlock 2 :: K) t' [] h) ∧ tg t' 0 = v ∧ tg t' 3 = iv i ∧ tg t' 4 = iv (k + 1) := by
          refine ex_step (fun k => R_open lp29_0.eq_1) ?_
          simp [-List.getD_eq_getElem?_getD, t0, t3, t4, hki, ixS_iv hi, ixS_iv (show k < l.length by omega), r1, r2, r3, r4, eq1, eq_true c1, Dc_ok, eq2, eq_true c2, iv_add (a := k) (b := 1) (by omega)]
          exact ⟨_, fun _ => rfl, by simp [t0, hv], by simp [t3], by simp⟩
        obtain ⟨t', e, u0, u3, u4⟩ := e
        have hk0 : hit l i k = false := by simp only [hit, decide_eq_true c1, decide_eq_true c2]; rfl
        rcases ih (k + 1) t' (by omega) u0 u3 u4 with ⟨⟨k', x1, x2, x3⟩, x4⟩ | ⟨x1, t2, x2, x3⟩
        · exact .inl ⟨⟨k', by omega, x2, x3⟩, fun K => (e K).trans (x4 K)⟩
        · exact .inr ⟨fun k' y1 y2 => by by_cases hk : k' = k; { rw [hk]; exact hk0 }; exact x1 k' (by omega) y2, t2, fun K => (e K).trans (x2 K), x3⟩
      · left
        refine ⟨⟨k, Nat.le_refl _, hki, by simp only [hit, decide_eq_true c1, decide_eq_false c2]; rfl⟩, fun K => ?_⟩
        rw [R_open lp29_0.eq_1]
        simp [-List.getD_eq_getElem?_getD, t0, t3, t4, hki, ixS_iv hi, ixS_iv (show k < l.length by omega), r1, r2, r3, r4, eq1, eq_true c1, Dc_ok, eq2, eq_false c2, r29]
    · have e : ∃ t', (∀ K, R C r29 (.inLoop lp29_0 :: .inBlock 2 :: K) t [] h = R C r29 (.inLoop lp29_0 :: .inBlock 2 :: K) t' [] h) ∧ tg t' 0 = v ∧ tg t' 3 = iv i ∧ tg t' 4 = iv (k + 1) := by
        refine ex_step (fun k => R_open lp29_0.eq_1) ?_
        simp [-List.getD_eq_getElem?_getD, t0, t3, t4, hki, ixS_iv hi, ixS_iv (show k < l.length by omega), r1, r2, r3, r4, eq1, eq_false c1, iv_add (a := k) (b := 1) (by omega)]
        exact ⟨_, fun _ => rfl, by simp [t0, hv], by simp [t3], by simp⟩
      obtain ⟨t', e, u0, u3, u4⟩ := e
      have hk0 : hit l i k = false := by simp only [hit, decide_eq_false c1]; rfl
      rcases ih (k + 1) t' (by omega) u0 u3 u4 with ⟨⟨k', x1, x2, x3⟩, x4⟩ | ⟨x1, t2, x2, x3⟩
      · exact .inl ⟨⟨k', by omega, x2, x3⟩, fun K => (e K).trans (x4 K)⟩
      · exact .inr ⟨fun k' y1 y2 => by by_cases hk : k' = k; { rw [hk]; exact hk0 }; exact x1 k' (by omega) y2, t2, fun K => (e K).trans (x2 K), x3⟩
theorem met_outer (h : AHeap) (v : Value) (l : List (List UInt8 × List UInt8)) (H : PairsR C.old h v l) (hl : l.length < 2 ^ 20) (hb : ∀ i, (l.getD i ([], [])).1.length < 2 ^ 40) : ∀ (d i : Nat) (t : List Value), i + d = l.length → (∀ i' k', k' < i' → i' < i → hit l i' k' = false) → tg t 0 = v → tg t 3 = iv i →
    ∃ b, R C r29 [.inLoop lp29_1, .inBlock 0, .code k29_1] t [] h = some (.bool b, h) ∧ (b = true ↔ Met l) := by
  intro d
  induction d with
  | zero =>
    intro i t hd hno t0 t3
    obtain rfl : i = l.length := by omega
    refine ⟨false, ?_, by simp; rintro ⟨i, k, h1, h2, h3⟩; rw [hno i k h1 h2] at h3; cases h3⟩
    have hv := H.1
    have hu := H.2.1
    rw [R_open lp29_1.eq_1]
    simp [t0, t3, hv, stp_ok hu, k29_1, r29]
  | succ d ih =>
    intro i t hd hno t0 t3
    have hi : i < l.length := by omega
    have hv := H.1
    have hu := H.2.1
    have e : ∃ t', (∀ K, R C r29 (.inLoop lp29_1 :: .inBlock 0 :: K) t [] h = R C r29 (.inLoop lp29_0 :: .inBlock 2 :: .inBlock 1 :: .code k29_0 :: .inLoop lp29_1 :: .inBlock 0 :: K) t' [] h) ∧ tg t' 0 = v ∧ tg t' 3 = iv i ∧ tg t' 4 = iv 0 := by
      refine ex_step (fun k => R_open lp29_1.eq_1) ?_
      simp [t0, t3, hv, stp_ok hu, hi]
      exact ⟨_, fun _ => rfl, by simp [t0], by simp [t3], by simp⟩
    obtain ⟨t', e, u0, u3, u4⟩ := e
    rcases met_inner TW h v l H hl hb i hi i 0 t' (by omega) u0 u3 u4 with ⟨⟨k', x1, x2, x3⟩, x4⟩ | ⟨x1, t2, x2, x3, x5⟩
    · exact ⟨true, (e _).trans (x4 _), by simp; exact ⟨i, k', x2, hi, x3⟩⟩
    · have e2 : ∃ t', (∀ K, R C r29 (.inBlock 1 :: .code k29_0 :: .inLoop lp29_1 :: .inBlock 0 :: K) t2 [] h = R C r29 (.inLoop lp29_1 :: .inBlock 0 :: K) t' [] h) ∧ tg t' 0 = v ∧ tg t' 3 = iv (i + 1) := by
        simp [k29_0, x5, iv_add (a := i) (b := 1) (by omega)]
        exact ⟨_, fun _ => rfl, by simp [x3], by simp⟩
      obtain ⟨t3', e2, w0, w3⟩ := e2
      obtain ⟨b, y1, y2⟩ := ih (i + 1) t3' (by omega) (fun i' k' h1 h2 => by by_cases hii : i' = i; { rw [hii]; exact x1 k' (by omega) (by omega) }; exact hno i' k' h1 (by omega)) w0 w3
      exact ⟨b, ((e _).trans ((x2 _).trans (e2 _))).trans y1, y2⟩
theorem met_spec (h : AHeap) (v : Value) (l : List (List UInt8 × List UInt8)) (H : PairsR C.old h v l) (hl : l.length < 2 ^ 20) (hb : ∀ i, (l.getD i ([], [])).1.length < 2 ^ 40) :
    ∃ b, D C 29 [v] h = some (.bool b, h) ∧ (b = true ↔ Met l) := by
  rw [D_fn2 TW.h29]
  obtain ⟨b, e, hb⟩ := met_outer TW { h with lo := h.bs.length } v l H.lo hl hb l.length 0 (ts (ts [v] 2 (.bool false)) 3 (iv 0)) (by omega) (fun i' k' _ h => by omega) (by simp) (by simp)
  refine ⟨b, ?_, hb⟩
  have : R C r29 [.code b29] [v] [] { h with lo := h.bs.length } = some (.bool b, { h with lo := h.bs.length }) := by
    rw [← e]
    simp [b29]
  rw [this]
  exact pur_some rfl
end Go.Ab.Aud

namespace Go.Ab.Aud
open Go.Sha
/-- bytes that were given, in memory that nothing writes -/
def ArgB (old : Old) (v : Value) (l : List UInt8) : Prop := ∃ a cp, v = .slice a l.length cp ∧ (∀ h, SlR old h 1 (.slice a l.length cp) (bytesVals l)) ∧ ∀ j, ¬ Live (.slice a l.length cp) j
/-- rows that were given -/
def ArgR (old : Old) (v : Value) (rows : List (List UInt8)) : Prop :=
  ∃ a cp vs, v = .slice a rows.length cp ∧ (∀ h, SlR old h 1 (.slice a rows.length cp) vs) ∧ (∀ j, ¬ Live (.slice a rows.length cp) j) ∧ ∀ i, i < rows.length → ∃ x, vs[i]? = some x ∧ ArgB old x (rows.getD i [])
theorem ArgR.get {old : Old} {v : Value} {rows : List (List UInt8)} (H : ArgR old v rows) {i : Nat} (hi : i < rows.length) : ∃ a' cp' a cp, v = .slice (some a') rows.length cp' ∧ (∀ h, read1 old h (adda a' i) = some (.slice a (rows.getD i []).length cp)) ∧ (∀ h, SlR old h 1 (.slice a (rows.getD i []).length cp) (bytesVals (rows.getD i []))) ∧ ∀ j, ¬ Live (.slice a (rows.getD i []).length cp) j := by
  obtain ⟨a, cp, vs, h1, h2, h3, h4⟩ := H
  obtain ⟨a', rfl⟩ := (h2 ⟨[], 0⟩).ex (by omega)
  obtain ⟨x, hx, b, cpb, h5, h6, h7⟩ := h4 i hi
  refine ⟨a', cp, b, cpb, h1, fun h => ?_, h6, h7⟩
  have := readN_read1 ((h2 h).read (by omega)) (i := i) (by omega)
  rw [this, hx, h5]
theorem ArgB.und {old : Old} {v : Value} {l : List UInt8} (H : ArgB old v l) : isUnd v = false := by obtain ⟨a, cp, rfl, _⟩ := H; rfl
/-- which rows are laid -/
def laidF : Nat → Nat → List (List UInt8) → List (List UInt8)
  | 0, _, _ => []
  | _ + 1, _, [] => []
  | m + 1, left, r :: rs => if 16384 < r.length then laidF m left rs else if left < r.length + 100 then [] else r :: laidF m (left - (r.length + 100)) rs
def zv (z : Int) : Value := .int .i64 z
theorem zv_und {z : Int} : isUnd (zv z) = false := nr rfl
theorem iv_zv {n : Nat} : iv n = zv n := nr rfl
theorem zv_sub {a : Int} {b : Nat} (ha : -2 ^ 62 < a) (ha2 : a < 2 ^ 62) (hb : b < 2 ^ 61) : abin .sub (zv a) (iv b) = some (zv (a - b)) := by
  unfold zv iv
  simp only [abin, abinI, if_true]
  congr 2
  exact wrapi64 _ (by omega) (by omega)
theorem zv_lss {a : Int} {b : Nat} : abin .lss (zv a) (iv b) = some (.bool (decide (a < b))) := by
  unfold zv iv
  simp only [abin, abinI, if_true]
/-- rows that were laid -/
def RowsO (old : Old) (h : AHeap) (v : Value) (l : List (List UInt8)) : Prop := ∃ vs, Own h 41 1 v l.length vs ∧ ∀ i, i < l.length → ∃ x, vs[i]? = some x ∧ ArgB old x (l.getD i [])
theorem RowsO.fr {old : Old} {h h' : AHeap} {v : Value} {l : List (List UInt8)} {S : Nat → Prop} (H : RowsO old h v l) (f : Fr h h' S) (hn : ∀ j, blkOf v = some j → ¬ S j) : RowsO old h' v l := by
  obtain ⟨vs, o, g⟩ := H
  exact ⟨vs, o.fr f hn, g⟩
theorem LogAt.olt {h : AHeap} {O : Nat → Prop} {p d room wr : Nat} {name content : List UInt8} {leaves : List (List UInt8)} (H : LogAt h O p d name content leaves room wr) : ∀ j, O j → j < h.bs.length := by
  obtain ⟨w, m, fp, fw, fz, keep, o, c, es, ls, H⟩ := H
  exact H.olt
def lh (r : List UInt8) : List UInt8 := sha (0 :: r)
variable {C : Ctx} (T : Tab_LLog C) (TD : Tab_LDig C) (TW : Tab_LLaw C) (hk : ∀ j, j < 64 → C.old 0 j = some (wv (kW j))) (hp : ∀ j, j < 16 → C.old 1 j = some (wv (crcW j)))
include T TD TW hk hp
set_option maxHeartbeats 4000000 in
theorem laid_loop (q : Nat) (v : Value) (rows : List (List UInt8)) (HR : ArgR C.old v rows) (most : Nat) (hmost : most ≤ 64) (hrl : rows.length < 2 ^ 63) (p dd room : Nat) (name : List UInt8) (hN : ∀ h, D C 147 [str name] h = some (.bool true, h)) (hroom : 300000 ≤ room) (hroom2 : room < 2 ^ 39) :
    ∀ (d i L : Nat) (out : List (List UInt8)) (O : Nat → Prop) (wr : Nat) (content : List UInt8) (vo : Value) (g : AHeap) (t : List Value), i + d = rows.length → out.length ≤ i → out.length ≤ most → wr ≤ out.length → content.length + L ≤ 200000 → LogAt g O p dd name content (out.map lh) room wr → RowsO C.old g vo out →
      (∀ j, blkOf vo = some j → q ≤ j ∧ ¬ O j) → (∀ j, O j → q ≤ j) → q ≤ g.bs.length → g.lo ≤ g.bs.length → tg t 0 = v → tg t 1 = iv most → tg t 8 = .pointer (some ⟨p, 0, some 0⟩) → tg t 10 = vo → tg t 11 = iv L → tg t 12 = iv i →
    ∃ g' t' O' wr' content' vo', (∀ k, R C r24 (.inLoop lp24_0 :: .inBlock 0 :: k) t [] g = R C r24 k t' [] g') ∧ tg t' 8 = .pointer (some ⟨p, 0, some 0⟩) ∧ tg t' 10 = vo' ∧ LogAt g' O' p dd name content' ((out ++ laidF (most - i) L (rows.drop i)).map lh) room wr' ∧ RowsO C.old g' vo' (out ++ laidF (most - i) L (rows.drop i)) ∧
      Fr g g' (fun j => q ≤ j) ∧ (∀ j, O' j → q ≤ j) ∧ isUnd vo' = false ∧ (∀ j, blkOf vo' = some j → q ≤ j) := by
  intro d
  induction d with
  | zero =>
    intro i L out O wr content vo g t hd hoi hom hwr hcl H HO hvo hO hq hwf t0 t1 t8 t10 t11 t12
    obtain rfl : i = rows.length := by omega
    obtain ⟨a, cp, vs, hv, _⟩ := HR
    have e : ∃ t', (∀ k, R C r24 (.inLoop lp24_0 :: .inBlock 0 :: k) t [] g = R C r24 k t' [] g) ∧ tg t' 8 = .pointer (some ⟨p, 0, some 0⟩) ∧ tg t' 10 = vo := by
      refine ex_step (fun k => R_open lp24_0.eq_1) ?_
      simp [t0, t1, t12, hv]
      exact ⟨_, fun _ => rfl, by simp [t8], by simp [t10]⟩
    obtain ⟨t', e, u8, u10⟩ := e
    have hl : laidF (most - rows.length) L (rows.drop rows.length) = [] := by
      rw [List.drop_length]; cases most - rows.length <;> rfl
    rw [hl, List.append_nil]
    exact ⟨g, t', O, wr, content, vo, e, u8, u10, H, HO, Fr.refl _ _, hO, by obtain ⟨_, o, _⟩ := HO; exact o.und, fun j hj => (hvo j hj).1⟩
  | succ d ih =>
    intro i L out O wr content vo g t hd hoi hom hwr hcl H HO hvo hO hq hwf t0 t1 t8 t10 t11 t12
    have hi : i < rows.length := by omega
    obtain ⟨a', cp', a, cp, hv, r1, s1, nl⟩ := HR.get hi
    have hoU : isUnd vo = false := by obtain ⟨_, o, _⟩ := HO; exact o.und
    have hoL : lenV vo = some (iv out.length) := by obtain ⟨_, o, _⟩ := HO; exact o.lenV
    by_cases him : i < most
    · have hdr : rows.drop i = rows.getD i [] :: rows.drop (i + 1) := by rw [List.drop_eq_getElem_cons hi]; simp [List.getD_eq_getElem?_getD, hi]
      have hms : most - i = (most - (i + 1)) + 1 := by omega
      rw [hdr, hms]
      generalize hr : rows.getD i [] = r at r1 s1 nl ⊢
      unfold laidF
      by_cases hlong : 16384 < r.length
      · rw [if_pos hlong]
        have e : ∃ t', (∀ k, R C r24 (.inLoop lp24_0 :: .inBlock 0 :: k) t [] g = R C r24 (.inLoop lp24_0 :: .inBlock 0 :: k) t' [] g) ∧ tg t' 0 = v ∧ tg t' 1 = iv most ∧ tg t' 8 = .pointer (some ⟨p, 0, some 0⟩) ∧ tg t' 10 = vo ∧ tg t' 11 = iv L ∧ tg t' 12 = iv (i + 1) := by
          refine ex_step (fun k => R_open lp24_0.eq_1) ?_
          simp [t0, t1, t12, hv, hi, him, ixS_iv hi, r1 g, hlong, iv_add (a := i) (b := 1) (by omega)]
          exact ⟨_, fun _ => rfl, by simp [t0, hv], by simp [t1], by simp [t8], by simp [t10], by simp [t11], by simp⟩
        obtain ⟨t', e, u0, u1, u8, u10, u11, u12⟩ := e
        obtain ⟨g', t2, O', wr', ct', vo', x1, x2⟩ := ih (i + 1) L out O wr content vo g t' (by omega) (by omega) hom hwr hcl H HO hvo hO hq hwf u0 u1 u8 u10 u11 u12
        exact ⟨g', t2, O', wr', ct', vo', fun k => (e k).trans (x1 k), x2⟩
      · rw [if_neg hlong]
        have es1 : abin .sub (iv L) (iv r.length) = some (zv ((L : Int) - r.length)) := zv_sub (by omega) (by omega) (by omega)
        have es2 : abin .sub (zv ((L : Int) - r.length)) (iv 100) = some (zv ((L : Int) - r.length - 100)) := zv_sub (by omega) (by omega) (by omega)
        by_cases hleft : L < r.length + 100
        · rw [if_pos hleft]
          have hneg : ((L : Int) - r.length - 100 < (0 : Nat)) = True := eq_true (by omega)
          have e : ∃ t', (∀ k, R C r24 (.inLoop lp24_0 :: .inBlock 0 :: k) t [] g = R C r24 k t' [] g) ∧ tg t' 8 = .pointer (some ⟨p, 0, some 0⟩) ∧ tg t' 10 = vo := by
            refine ex_step (fun k => R_open lp24_0.eq_1) ?_
            simp [t0, t1, t11, t12, hv, hi, him, ixS_iv hi, r1 g, hlong, es1, stp_ok zv_und, es2, zv_lss, show (L : Int) - r.length - 100 < 0 by omega]
            exact ⟨_, fun _ => rfl, by simp [t8], by simp [t10]⟩
          obtain ⟨t', e, u8, u10⟩ := e
          rw [List.append_nil]
          exact ⟨g, t', O, wr, content, vo, e, u8, u10, H, HO, Fr.refl _ _, hO, hoU, fun j hj => (hvo j hj).1⟩
        · rw [if_neg hleft]
          have hnn : ¬ ((L : Int) - r.length - 100 < (0 : Nat)) := by omega
          have hL' : ((L : Int) - r.length - 100) = ((L - (r.length + 100) : Nat) : Int) := by omega
          obtain ⟨h1, vc, e1, o1, f1, b1⟩ := copy_spec TW g r a r.length cp (s1 g) (by omega) hwf
          obtain ⟨ac, cpc, hvc⟩ := o1.slice
          have sc := o1.sl (old := C.old) (by omega)
          rw [hvc] at sc e1
          have l1 := f1.len
          have g1 := f1.lo
          have H1 := H.fr f1 (fun _ _ h => h)
          obtain ⟨h2, e2, H2, f2⟩ := audit_append T TD hp hk h1 O p dd room wr name content (out.map lh) r ac r.length cpc H1 sc (fun j hj hOj => by
            have := b1 j (by rw [hvc]; exact o1.live (by rw [hvc]; exact hj) |> (hvc ▸ ·)); have := H.olt j hOj; omega) (by omega) (by omega) (by omega) hroom2 (by omega) (by simp; omega) hN
          rw [List.length_map] at e2
          have l2 := f2.len
          have g2 := f2.lo
          obtain ⟨vs, ov, hvs⟩ := HO
          have ov2 : Own h2 41 1 vo out.length vs := (ov.fr f1 (fun _ _ h => h)).fr f2 (fun j hj => (hvo j hj).2)
          have f3 : Fr h2 (h2.push (.cells [.slice a r.length cp] 42)) (fun _ => False) := Fr.push
          obtain ⟨v', h4, e4, o4, f4, b4⟩ := append_own (old := C.old) (bytes := 24) (x := .slice (some ⟨h2.bs.length, 0, some 0⟩) 1 1) (m := 1) (new := [.slice a r.length cp]) (ov2.fr f3 fun _ _ h => h) (by omega) rfl
            (fun _ => by simp only [srcCells]; rw [readN_rd, push_self]; rfl) (fun h => by cases h) rfl rfl (by simp [sizeLim]; omega) (by simp; omega)
          have l4 := f4.len
          simp at l4
          have hvo2 : ∀ j, blkOf vo = some j → q ≤ j := fun j hj => (hvo j hj).1
          have f24 : Fr h2 h4 (fun j => blkOf vo = some j) := f3.trans f4 (fun _ h => h.elim) (fun _ h _ => h)
          have H4 := H2.fr f24 (fun j hj hb => by
            rcases hj with hj | hj
            · exact (hvo j hb).2 hj
            · have := ov.blk hb; omega)
          have fg4 : Fr g h4 (fun j => q ≤ j) := (f1.trans f2 (S'' := fun j => q ≤ j) (fun _ h => h.elim) (fun j hj _ => hO j hj)).trans f24 (fun _ h => h) (fun j hj _ => hvo2 j hj)
          have cu : abin .neq (uv out.length) (uv out.length) = some (.bool false) := by simp
          have e : ∃ t', (∀ k, R C r24 (.inLoop lp24_0 :: .inBlock 0 :: k) t [] g = R C r24 (.inLoop lp24_0 :: .inBlock 0 :: k) t' [] h4) ∧ tg t' 0 = v ∧ tg t' 1 = iv most ∧ tg t' 8 = .pointer (some ⟨p, 0, some 0⟩) ∧ tg t' 10 = v' ∧ tg t' 11 = iv (L - (r.length + 100)) ∧ tg t' 12 = iv (i + 1) := by
            refine ex_step (fun k => R_open lp24_0.eq_1) ?_
            simp [t0, t1, t8, t10, t11, t12, hv, hi, him, ixS_iv hi, r1 g, r1 h2, hlong, es1, stp_ok zv_und, es2, zv_lss, show ¬ (L : Int) - r.length - 100 < 0 by omega, Dc_ok, e1, e2, num_spec TW, hoL, stp_ok hoU, hoU, cvt_iu (show out.length < 18446744073709551616 by omega), fillCells, splice, e4, stp_ok o4.und, iv_add (a := i) (b := 1) (by omega)]
            exact ⟨_, fun _ => rfl, by simp [t0, hv], by simp [t1], by simp [t8], by simp, by simp [hL', iv_zv], by simp⟩
          obtain ⟨t', e, u0, u1, u8, u10, u11, u12⟩ := e
          have hml : (out ++ [r]).map lh = out.map lh ++ [sha (0 :: r)] := by simp [lh]
          have hfl := frame_length r
          have HO' : RowsO C.old h4 v' (out ++ [r]) := by
            refine ⟨vs ++ [.slice a r.length cp], by rw [List.length_append]; exact o4, fun i' hi' => ?_⟩
            have hvl := ov.len
            by_cases hlt : i' < out.length
            · obtain ⟨x, hx, hB⟩ := hvs i' hlt
              refine ⟨x, by rw [List.getElem?_append_left (by omega)]; exact hx, ?_⟩
              have : (out ++ [r]).getD i' [] = out.getD i' [] := by simp [List.getD_eq_getElem?_getD, List.getElem?_append_left hlt]
              rw [this]; exact hB
            · have : i' = out.length := by simp at hi'; omega
              subst this
              refine ⟨.slice a r.length cp, by rw [List.getElem?_append_right (by omega)]; simp [hvl], ?_⟩
              have : (out ++ [r]).getD out.length [] = r := by simp [List.getD_eq_getElem?_getD]
              rw [this]; exact ⟨a, cp, rfl, s1, nl⟩
          obtain ⟨g', t2, O', wr', ct', vo', x1, x2, x3, x4, x5, x6, x7⟩ := ih (i + 1) (L - (r.length + 100)) (out ++ [r]) (fun j => O j ∨ (h1.bs.length ≤ j ∧ j < h2.bs.length)) (wr + 1) (content ++ frame r) v' h4 t' (by omega) (by simp; omega) (by simp; omega) (by simp; omega) (by simp [hfl]; omega)
            (by rw [hml]; exact H4) HO' (fun j hj => by
              rcases b4 with b4 | b4
              · rw [b4] at hj
                refine ⟨(hvo j hj).1, ?_⟩
                rintro (hc | hc)
                · exact (hvo j hj).2 hc
                · have := ov.blk hj; omega
              · rw [b4] at hj; cases hj
                refine ⟨by simp; omega, ?_⟩
                rintro (hc | hc)
                · have := H.olt _ hc; simp at this; omega
                · simp at hc; omega) (fun j hj => by
              rcases hj with hj | hj
              · exact hO j hj
              · omega) (by omega) (by rw [fg4.lo]; omega) u0 u1 u8 u10 u11 u12
          refine ⟨g', t2, O', wr', ct', vo', fun k => (e k).trans (x1 k), x2, x3, ?_, ?_, fg4.trans x6 (fun _ h => h) (fun _ h _ => h), x7⟩
          · rw [List.append_assoc] at x4; exact x4
          · rw [List.append_assoc] at x5; exact x5
    · have e : ∃ t', (∀ k, R C r24 (.inLoop lp24_0 :: .inBlock 0 :: k) t [] g = R C r24 k t' [] g) ∧ tg t' 8 = .pointer (some ⟨p, 0, some 0⟩) ∧ tg t' 10 = vo := by
        refine ex_step (fun k => R_open lp24_0.eq_1) ?_
        simp [t0, t1, t12, hv, hi, him]
        exact ⟨_, fun _ => rfl, by simp [t8], by simp [t10]⟩
      obtain ⟨t', e, u8, u10⟩ := e
      rw [show most - i = 0 by omega]
      have : laidF 0 L (rows.drop i) = [] := rfl
      rw [this, List.append_nil]
      exact ⟨g, t', O, wr, content, vo, e, u8, u10, H, HO, Fr.refl _ _, hO, hoU, fun j hj => (hvo j hj).1⟩
end Go.Ab.Aud

namespace Go.Ab.Aud
open Go.Sha
variable {C : Ctx} (T : Tab_LLog C) (TD : Tab_LDig C) (TW : Tab_LLaw C) (hk : ∀ j, j < 64 → C.old 0 j = some (wv (kW j))) (hp : ∀ j, j < 16 → C.old 1 j = some (wv (crcW j)))
theorem aeq_nilPs {a : Addr} : aeq .nilP (.pointer (some a)) (.pointer none) = some false := nr rfl
/-- audit -/
def nmAudit : List UInt8 := [97, 117, 100, 105, 116]
def nmA : List UInt8 := [97]
include T in
/-- a disk and a log on it -/
theorem open_new (h : AHeap) (room : Nat) (name : List UInt8) (h1 : 1 ≤ room) (h2 : room ≤ 268435456) (hwf : h.lo ≤ h.bs.length) (hN : ∀ h, D C 147 [str name] h = some (.bool true, h)) :
    ∃ h1 h2 d p O, D C 42 [iv room] h = some (.tuple #[.pointer (some ⟨d, 0, some 0⟩), iv 0], h1) ∧ D C 43 [.pointer (some ⟨d, 0, some 0⟩), str name] h1 = some (.tuple #[.pointer (some ⟨p, 0, some 0⟩), iv 0], h2) ∧ LogAt h2 O p d name [] [] room 0 ∧ (∀ j, O j → h.bs.length ≤ j) ∧ Fr h h2 (fun _ => False) := by
  have e1 := disk_new T h room h1 h2
  have fa : Fr h ((h.push (.map [] 0)).push (.cells (dc 0 room 0 h.bs.length (iv 0) (iv 0) false 0) 189)) (fun _ => False) := Fr.push.push'
  obtain ⟨h', p, e2, L, hpl, f⟩ := audit_open_none T ((h.push (.map [] 0)).push (.cells (dc 0 room 0 h.bs.length (iv 0) (iv 0) false 0) 189)) (h.bs.length + 1) h.bs.length 188 room 0 0 (iv 0) name (push_self' (by simp)) (push_old push_self) (by simp; omega) (by simp; omega) (by omega) hN
  refine ⟨_, h', h.bs.length + 1, p, _, e1, e2, L, fun j hj => ?_, fa.trans f (fun _ h => h) (fun j hj hl => by omega)⟩
  rcases hj with hj | hj | hj
  · omega
  · omega
  · have := hj.1; simp at this; omega
include T TD TW hk hp
theorem laid_spec (h : AHeap) (v : Value) (rows : List (List UInt8)) (HR : ArgR C.old v rows) (most : Nat) (hmost : most ≤ 64) (hrl : rows.length < 2 ^ 63) (hwf : h.lo ≤ h.bs.length) (hN : ∀ h, D C 147 [str nmAudit] h = some (.bool true, h)) :
    ∃ h' p d O wr content vo, D C 24 [v, iv most] h = some (.tuple #[.pointer (some ⟨p, 0, some 0⟩), vo], h') ∧ LogAt h' O p d nmAudit content ((laidF most 200000 rows).map lh) 16777216 wr ∧ RowsO C.old h' vo (laidF most 200000 rows) ∧ Fr h h' (fun _ => False) ∧ (∀ j, O j → h.bs.length ≤ j) ∧ (∀ j, blkOf vo = some j → h.bs.length ≤ j) := by
  obtain ⟨h1, h2, d, p, O, e1, e2, L, hO, f2⟩ := open_new T h 16777216 nmAudit (by omega) (by omega) hwf hN
  have l2 := f2.len
  have g2 := f2.lo
  have hv : isUnd v = false := by obtain ⟨a, cp, vs, hv, _⟩ := HR; rw [hv]; rfl
  obtain ⟨t, e, u0, u1, u8, u10, u11, u12⟩ : ∃ t, R C r24 [.code b24] [v, iv most] [] h = R C r24 (.inLoop lp24_0 :: .inBlock 0 :: [.code k24_0]) t [] h2 ∧ tg t 0 = v ∧ tg t 1 = iv most ∧ tg t 8 = .pointer (some ⟨p, 0, some 0⟩) ∧ tg t 10 = .slice none 0 0 ∧ tg t 11 = iv 200000 ∧ tg t 12 = iv 0 := by
    have hs : Value.string ⟨⟨[97, 117, 100, 105, 116]⟩⟩ = str nmAudit := rfl
    simp [b24, Dc_ok, e1, num_spec TW, hs, e2, aeq_nilPs]
    exact ⟨_, rfl, by simp, by simp, by simp, by simp, by simp, by simp⟩
  obtain ⟨g', t', O', wr', ct', vo', x1, x2, x3, x4, x5, x6, x7, x8, x9⟩ := laid_loop T TD TW hk hp h.bs.length v rows HR most hmost hrl p d 16777216 nmAudit hN (by omega) (by omega) rows.length 0 200000 [] O 0 [] (.slice none 0 0) h2
    t (by omega) (by simp) (by simp) (by simp) (by simp) L ⟨[], .nil, fun i hi => by cases hi⟩ (fun j hj => by cases hj) hO l2 (by omega) u0 u1 u8 u10 u11 u12
  rw [List.nil_append] at x4 x5
  refine ⟨g', p, d, O', wr', ct', vo', ?_, x4, x5, f2.trans x6 (fun _ h => h) (fun j hj hl => by omega), x7, x9⟩
  rw [D_fn TW.h24]
  rw [e, x1 [.code k24_0]]
  simp [k24_0, x2, x3, stp_ok x8, x8, r24]
end Go.Ab.Aud

namespace Go.Ab.Aud
open Go.Sha
theorem wakes_sha : (sha (1 :: (sha (1 :: (lh [0] ++ lh [2])) ++ lh [2])) = sha (1 :: (sha (1 :: (lh [0] ++ lh [1])) ++ lh [2]))) = False := by
  have : decide (sha (1 :: (sha (1 :: (lh [0] ++ lh [2])) ++ lh [2])) = sha (1 :: (sha (1 :: (lh [0] ++ lh [1])) ++ lh [2]))) = false := by decide +kernel
  exact eq_false (of_decide_eq_false this)
def wl3 : List (List UInt8) := [lh [0], lh [1], lh [2]]
def wRoot : List UInt8 := sha (1 :: (sha (1 :: (lh [0] ++ lh [1])) ++ lh [2]))
def wTwo : List UInt8 := sha (1 :: (lh [0] ++ lh [1]))
theorem lft3 : lft 3 = 2 := by decide
theorem lft2 : lft 2 = 1 := by decide
theorem rootL1 {a : List UInt8} : rootL [a] = a := rfl
theorem rootL2 {a b : List UInt8} : rootL [a, b] = sha (1 :: (a ++ b)) := by
  rw [rootL_two (by simp)]
  simp only [List.length_cons, List.length_nil, Nat.zero_add, Nat.reduceAdd, lft2, List.take_succ_cons, List.take_zero, List.drop_succ_cons, List.drop_zero, rootL1, nodeL]
theorem rootL3 : rootL (wl3.take 3) = wRoot := by
  have e : wl3.take 3 = [lh [0], lh [1], lh [2]] := rfl
  rw [e, rootL_two (by simp)]
  simp only [List.length_cons, List.length_nil, Nat.zero_add, Nat.reduceAdd, lft3, List.take_succ_cons, List.take_zero, List.drop_succ_cons, List.drop_zero, rootL1, rootL2, nodeL]
  rfl
theorem rootL32 : rootL (wl3.take 2) = wTwo := by
  have e : wl3.take 2 = [lh [0], lh [1]] := rfl
  rw [e, rootL2]; rfl
theorem path3 : pathF 3 (wl3.take 3) 1 = [lh [0], lh [2]] := by
  have e : wl3.take 3 = [lh [0], lh [1], lh [2]] := rfl
  rw [e]
  simp [pathF, lft3, lft2, rootL1]
theorem proof3 : proofF 3 (wl3.take 3) 2 true = [lh [2]] := by
  have e : wl3.take 3 = [lh [0], lh [1], lh [2]] := rfl
  rw [e]
  simp [proofF, lft3, rootL1]
theorem incl3 {x : List UInt8} : inclF 3 1 wRoot x [lh [0], lh [2]] = if sha (1 :: (sha (1 :: (lh [0] ++ x)) ++ lh [2])) = wRoot then 0 else 236 := by
  have e : downF 64 1 3 = [false, true] := by simp [downF, lft3, lft2]
  unfold inclF
  rw [e, if_neg (by omega), if_neg (by simp)]
  simp [foldW, stepW]
theorem foll3 : follF 2 3 wTwo wRoot [lh [2]] = 0 := by
  have e : mdown 64 2 3 = [false] := by simp [mdown, lft3]
  unfold follF
  rw [e, if_neg (by omega)]
  have o : one1 [false] = 0 := by simp [one1]
  rw [o]
  simp [foldP]
  rfl
end Go.Ab.Aud

namespace Go.Ab.Aud
open Go.Sha
variable {C : Ctx} (T : Tab_LLog C) (TD : Tab_LDig C) (TW : Tab_LLaw C) (hk : ∀ j, j < 64 → C.old 0 j = some (wv (kW j))) (hp : ∀ j, j < 16 → C.old 1 j = some (wv (crcW j)))
include T TD TW hk hp
set_option maxHeartbeats 1000000 in
theorem wk_step (i wr p d : Nat) (O : Nat → Prop) (b : UInt8) (content : List UInt8) (leaves : List (List UInt8)) (g : AHeap) (t : List Value) (hi : i < 3) (hb : UInt8.ofNat i = b) (hl : leaves.length = i) (hc : content.length ≤ 100) (hwr : wr < 100) (H : LogAt g O p d nmA content leaves 1000 wr) (hwf : g.lo ≤ g.bs.length)
    (hN : ∀ h, D C 147 [str nmA] h = some (.bool true, h)) (t3 : tg t 3 = .pointer (some ⟨p, 0, some 0⟩)) (t5 : tg t 5 = iv i) :
    ∃ g' t' O', (∀ k, R C r23 (.inLoop lp23_0 :: .inBlock 0 :: k) t [] g = R C r23 (.inLoop lp23_0 :: .inBlock 0 :: k) t' [] g') ∧ tg t' 3 = .pointer (some ⟨p, 0, some 0⟩) ∧ tg t' 5 = iv (i + 1) ∧ LogAt g' O' p d nmA (content ++ frame [b]) (leaves ++ [lh [b]]) 1000 (wr + 1) ∧ g'.lo ≤ g'.bs.length ∧ (content ++ frame [b]).length = content.length + 14 := by
  have f1 : Fr g (g.push (.cells [bv b] 6)) (fun _ => False) := Fr.push
  have H1 := H.fr f1 (fun _ _ h => h)
  have ol := H.olt
  obtain ⟨g', e, H2, f2⟩ := audit_append T TD hp hk (g.push (.cells [bv b] 6)) O p d 1000 wr nmA content leaves [b] (some ⟨g.bs.length, 0, some 0⟩) 1 1 H1 one_sl (fun j hj hO => by have := slLive hj; have := ol j hO; omega) (by simp; omega) (by omega) (by omega) (by omega) (by omega) (by omega) hN
  have l2 := f2.len
  have g2 := f2.lo
  have hfl := frame_length [b]
  simp at l2 g2 hfl
  have e2 : ∃ t', (∀ k, R C r23 (.inLoop lp23_0 :: .inBlock 0 :: k) t [] g = R C r23 (.inLoop lp23_0 :: .inBlock 0 :: k) t' [] g') ∧ tg t' 3 = .pointer (some ⟨p, 0, some 0⟩) ∧ tg t' 5 = iv (i + 1) := by
    refine ex_step (fun k => R_open lp23_0.eq_1) ?_
    simp [t3, t5, hi, hb, fillCells, splice, Dc_ok, e, num_spec TW, hl, cvt_iu (show i < 18446744073709551616 by omega), iv_add (a := i) (b := 1) (by omega)]
    exact ⟨_, fun _ => rfl, by simp [t3], by simp⟩
  obtain ⟨t', e2, u3, u5⟩ := e2
  exact ⟨g', t', _, e2, u3, u5, H2, by omega, by simp [hfl]⟩
set_option maxHeartbeats 4000000 in
theorem wakes_spec (h : AHeap) (hN : ∀ h, D C 147 [str nmA] h = some (.bool true, h)) : D C 23 [] h = some (.bool true, h) := by
  rw [D_fn3 TW.h23 _ rfl]
  generalize hh0 : ({ bs := [], lo := 0 } : AHeap) = h0
  have h0lo : h0.lo = 0 := by rw [← hh0]
  obtain ⟨h1, h2, d, p, O, e1, e2, L, hO, f2⟩ := open_new T h0 1000 nmA (by omega) (by omega) (by omega) hN
  have l2 := f2.len
  have g2 := f2.lo
  obtain ⟨t, e, u3, u5⟩ : ∃ t, R C r23 [.code b23] [] [] h0 = R C r23 (.inLoop lp23_0 :: .inBlock 0 :: [.code k23_0]) t [] h2 ∧ tg t 3 = .pointer (some ⟨p, 0, some 0⟩) ∧ tg t 5 = iv 0 := by
    have hs : Value.string ⟨⟨[97]⟩⟩ = str nmA := rfl
    simp [b23, Dc_ok, e1, num_spec TW, hs, e2, aeq_nilPs]
    exact ⟨_, rfl, by simp, by simp⟩
  obtain ⟨g1, t1, O1, x1, y1, z1, L1, w1, c1⟩ := wk_step T TD TW hk hp 0 0 p d O 0 [] [] h2 t (by omega) rfl rfl (by simp) (by omega) L (by omega) hN u3 u5
  obtain ⟨g2', t2, O2, x2, y2, z2, L2, w2, c2⟩ := wk_step T TD TW hk hp 1 1 p d O1 1 _ _ g1 t1 (by omega) rfl (by simp) (by simp at c1 ⊢; omega) (by omega) L1 w1 hN y1 z1
  obtain ⟨g3, t3, O3, x3, y3, z3, L3, w3, c3⟩ := wk_step T TD TW hk hp 2 2 p d O2 2 _ _ g2' t2 (by omega) rfl (by simp) (by simp at c1 c2 ⊢; omega) (by omega) L2 w2 hN y2 z2
  have hl : [] ++ [lh [0]] ++ [lh [1]] ++ [lh [2]] = wl3 := rfl
  rw [hl] at L3
  generalize [] ++ frame [0] ++ frame [1] ++ frame [2] = content at L3
  obtain ⟨t4, e4, u4⟩ : ∃ t', (∀ k, R C r23 (.inLoop lp23_0 :: .inBlock 0 :: k) t3 [] g3 = R C r23 k t' [] g3) ∧ tg t' 3 = .pointer (some ⟨p, 0, some 0⟩) := by
    refine ex_step (fun k => R_open lp23_0.eq_1) ?_
    simp [z3]
    exact ⟨_, fun _ => rfl, by simp [y3]⟩
  rw [e, x1, x2, x3, e4]
  have hlw : wl3.length = 3 := rfl
  have hz : Value.int .u8 0 = bv 0 := rfl
  have hb1 : Value.int .u8 1 = bv 1 := rfl
  have hb2 : Value.int .u8 2 = bv 2 := rfl
  generalize hZ : ABlock.cells (uv 0 :: List.replicate 32 (bv 0)) 36 = Z
  have hZ0 := hZ
  simp [List.replicate] at hZ
  have wz : ∀ (g : AHeap) (b n : Nat) (r : List UInt8), r.length = 32 → wrN g b (some Z) 0 0 (uv n :: bytesVals r) = some (g.put b (.cells (uv n :: bytesVals r) 36)) := by
    intro g b n r hr
    rw [← hZ0, wrN_cells (by simp [hr]) (by rw [List.all_cons, bytes_ok]; rfl)]
    congr 3
    simp [splice, hr]
  have rz : ∀ (n : Nat) (r : List UInt8), r.length = 32 → rdN (some (.cells (uv n :: bytesVals r) 36)) 0 0 33 = some (uv n :: bytesVals r) := by
    intro n r hr
    rw [rdN_cells (by simp [hr]), List.drop_zero, List.take_of_length_le (by simp [hr])]
  have hwR : wRoot.length = 32 := sha_length _
  have hwT : wTwo.length = 32 := sha_length _
  -- the heads
  obtain ⟨g4, e5, f4⟩ := head_spec T TD hk g3 O3 p d 1000 _ nmA content wl3 L3 3 (by omega) (by omega) w3
  rw [rootL3] at e5
  have l4 := f4.len
  have o4 := f4.lo
  have s5 : (g4.push Z).at g4.bs.length = some Z := push_self
  generalize hg5 : (g4.push Z).put g4.bs.length (.cells (uv 3 :: bytesVals wRoot) 36) = g5
  have f5 : Fr g3 g5 (fun _ => False) := by rw [← hg5]; exact (f4.push').put' (.inr (by omega))
  have v8 : g5.at g4.bs.length = some (.cells (uv 3 :: bytesVals wRoot) 36) := by rw [← hg5]; exact put_self (by simp)
  have l5 : g5.bs.length = g4.bs.length + 1 := by rw [← hg5]; simp
  have o5 := f5.lo
  have w5 : g5.lo ≤ g5.bs.length := by omega
  have hlo4 : g4.lo ≤ g4.bs.length := by omega
  have L5 := L3.fr f5 (fun _ _ h => h)
  obtain ⟨g6, e6, f6⟩ := head_spec T TD hk g5 O3 p d 1000 _ nmA content wl3 L5 2 (by omega) (by omega) w5
  rw [rootL32] at e6
  have l6 := f6.len
  have o6 := f6.lo
  have s6 : (g6.push Z).at g6.bs.length = some Z := push_self
  generalize hg7 : (g6.push Z).put g6.bs.length (.cells (uv 2 :: bytesVals wTwo) 36) = g7
  have f7 : Fr g5 g7 (fun _ => False) := by rw [← hg7]; exact (f6.push').put' (.inr (by omega))
  have v9 : g7.at g6.bs.length = some (.cells (uv 2 :: bytesVals wTwo) 36) := by rw [← hg7]; exact put_self (by simp)
  have l7 : g7.bs.length = g6.bs.length + 1 := by rw [← hg7]; simp
  have o7 := f7.lo
  have w7 : g7.lo ≤ g7.bs.length := by omega
  have hlo6 : g6.lo ≤ g6.bs.length := by omega
  have L7 := L5.fr f7 (fun _ _ h => h)
  obtain ⟨g8, vp, e7, P8, f8, b8⟩ := prove_spec T TD hk g7 O3 p d 1000 _ nmA content wl3 L7 1 3 (by omega) (by omega) (by omega) w7
  rw [path3] at P8
  have l8 := f8.len
  have o8 := f8.lo
  have L8 := L7.fr f8 (fun _ _ h => h)
  obtain ⟨g9, vq, e8, P9, f9⟩ := follow_spec T TD hk g8 O3 p d 1000 _ nmA content wl3 L8 2 3 (by omega) (by omega) (by omega) (by omega)
  rw [if_neg (by omega), proof3] at P9
  have l9 := f9.len
  have o9 := f9.lo
  have P8' : DigO g9 vp [lh [0], lh [2]] := P8.fr f9 (fun _ _ h => h)
  obtain ⟨ap, cpp, hvp, R9⟩ := P8'.digR (old := C.old)
  obtain ⟨aq, cpq, hvq, Q9, _⟩ := P9
  have k8 : g9.at g4.bs.length = some (.cells (uv 3 :: bytesVals wRoot) 36) := f9.get (f8.get (f7.get v8 (fun h => h)) (fun h => h)) (fun h => h)
  have k9 : g9.at g6.bs.length = some (.cells (uv 2 :: bytesVals wTwo) 36) := f9.get (f8.get v9 (fun h => h)) (fun h => h)
  generalize hg10 : g9.push (.cells [bv 1] 6) = g10
  have f10 : Fr g9 g10 (fun _ => False) := by rw [← hg10]; exact Fr.push
  have sl1 : SlR C.old g10 1 (.slice (some ⟨g9.bs.length, 0, some 0⟩) 1 1) (bytesVals [1]) := by rw [← hg10]; exact one_sl
  have lf1 := leaf_spec TD hk g10 [1] (some ⟨g9.bs.length, 0, some 0⟩) 1 1 sl1 (by omega)
  have in1 := incl_spec T TD hk g10 3 1 wRoot (lh [1]) [lh [0], lh [2]] hwR (sha_length _) (by omega) (by omega) ap cpp (R9.fr f10 (fun _ _ h => h))
  have fo1 := foll_spec T TD hk g10 2 3 wTwo wRoot [lh [2]] hwT hwR (by omega) (by omega) aq cpq (Q9.fr f10 (fun _ _ h => h))
  rw [foll3] at fo1
  have in1v : inclF 3 1 wRoot (lh [1]) [lh [0], lh [2]] = 0 := by rw [incl3]; exact if_pos rfl
  rw [in1v] at in1
  generalize hg11 : g10.push (.cells [bv 2] 6) = g11
  have f11 : Fr g10 g11 (fun _ => False) := by rw [← hg11]; exact Fr.push
  have sl2 : SlR C.old g11 1 (.slice (some ⟨g10.bs.length, 0, some 0⟩) 1 1) (bytesVals [2]) := by rw [← hg11]; exact one_sl
  have lf2 := leaf_spec TD hk g11 [2] (some ⟨g10.bs.length, 0, some 0⟩) 1 1 sl2 (by omega)
  have in2 := incl_spec T TD hk g11 3 1 wRoot (lh [2]) [lh [0], lh [2]] hwR (sha_length _) (by omega) (by omega) ap cpp ((R9.fr f10 (fun _ _ h => h)).fr f11 (fun _ _ h => h))
  have in2v : inclF 3 1 wRoot (lh [2]) [lh [0], lh [2]] = 236 := by rw [incl3]; exact if_neg (fun h => wakes_sha.mp h)
  rw [in2v] at in2
  have m8 : g10.at g4.bs.length = some (.cells (uv 3 :: bytesVals wRoot) 36) := f10.get k8 (fun h => h)
  have m9 : g10.at g6.bs.length = some (.cells (uv 2 :: bytesVals wTwo) 36) := f10.get k9 (fun h => h)
  have n8 : g11.at g4.bs.length = some (.cells (uv 3 :: bytesVals wRoot) 36) := f11.get m8 (fun h => h)
  have lhd : ∀ b : UInt8, sha [0, b] = lh [b] := fun _ => rfl
  rw [lhd] at lf1 lf2
  subst hvp
  subst hvq
  simp at in1 in2 fo1 e7 e8
  have r : R C r23 [.code k23_0] t4 [] g3 = some (.bool true, g11) := by
    simp [k23_0, u4, Dc_ok, e5, hz, hZ, bytes_ok, hwR, hwT, writeN_wr, hlo4, s5, wz, hg5, e6, hlo6, s6, hg7, e7, e8, num_spec TW, v8, v9, k8, k9, rz, hb1, hb2, fillCells, splice, hg10, lf1, in1, m8, m9, fo1, hg11, lf2, in2, n8, r23]
  rw [r]
  exact pur_some rfl
end Go.Ab.Aud

namespace Go.Ab.Aud
open Go.Sha
theorem foldW_snoc : ∀ (w : List Bool) (ps : List (List UInt8)) (b : Bool) (p x : List UInt8), w.length = ps.length → foldW (w ++ [b]) (ps ++ [p]) x = stepW b p (foldW w ps x)
  | [], [], _, _, _, _ => rfl
  | _ :: w, _ :: ps, b, p, x, h => by
    simp only [List.cons_append, foldW]
    exact foldW_snoc w ps b p _ (by simpa using h)
theorem snoc_last {l : List (List UInt8)} (h : l.length ≠ 0) : l = l.take (l.length - 1) ++ [l.getD (l.length - 1) []] := by
  have hi : l.length - 1 < l.length := by omega
  have := List.take_succ_eq_append_getElem hi
  rw [show l.length - 1 + 1 = l.length by omega, List.take_length] at this
  rw [List.getD_eq_getElem?_getD, List.getElem?_eq_getElem hi]
  exact this
/-- the way up, read one way or the other -/
theorem climb_fold : ∀ (f k n s : Nat) (leaf : List UInt8) (ps : List (List UInt8)), (downF f n s).length = ps.length → ps.length ≤ k → s ≤ 2 ^ f → n < s → (climbF k n s leaf ps).2 = foldW (downF f n s).reverse ps leaf
  | 0, k, n, s, leaf, ps, h, hk, hs, hn => by
    have : ps = [] := List.eq_nil_of_length_eq_zero (by simp [downF] at h; omega)
    subst this
    cases k <;> simp [climbF, downF, foldW]
  | f + 1, k, n, s, leaf, ps, h, hk, hs, hn => by
    unfold downF at h ⊢
    by_cases h1 : s ≤ 1
    · rw [if_pos h1] at h ⊢
      have : ps = [] := List.eq_nil_of_length_eq_zero (by simp at h; omega)
      subst this
      cases k <;> simp [climbF, foldW]
    · rw [if_neg h1] at h ⊢
      have k1 := lft_lt (n := s) (by omega)
      have k0 := lft_pos (n := s)
      have k2 := lft_ge (n := s) (by omega)
      have k3 := lft_pow (s := s) (f := f) (by omega) hs
      by_cases h2 : n < lft s
      · rw [if_pos h2] at h ⊢
        simp only [List.length_cons] at h
        obtain ⟨k, rfl⟩ : ∃ k', k = k' + 1 := ⟨k - 1, by omega⟩
        have hl := snoc_last (l := ps) (by omega)
        have ih := climb_fold f k n (lft s) leaf (ps.take (ps.length - 1)) (by simp; omega) (by simp; omega) k3 h2
        unfold climbF
        rw [if_neg (by omega), if_pos h2]
        conv => rhs; rw [hl]
        rw [List.reverse_cons, foldW_snoc _ _ _ _ _ (by simp; omega), ih]
        rfl
      · rw [if_neg h2] at h ⊢
        simp only [List.length_cons] at h
        obtain ⟨k, rfl⟩ : ∃ k', k = k' + 1 := ⟨k - 1, by omega⟩
        have hl := snoc_last (l := ps) (by omega)
        have ih := climb_fold f k (n - lft s) (s - lft s) leaf (ps.take (ps.length - 1)) (by simp; omega) (by simp; omega) (by omega) (by omega)
        unfold climbF
        rw [if_neg (by omega), if_neg h2]
        conv => rhs; rw [hl]
        rw [List.reverse_cons, foldW_snoc _ _ _ _ _ (by simp; omega), ih]
        rfl
/-- what Included takes -/
theorem incl_ok {s n : Nat} {root leaf : List UInt8} {ps : List (List UInt8)} (hs : s < 2 ^ 64) (h : inclF s n root leaf ps = 0) (k : Nat) (hk : ps.length ≤ k) : n < s ∧ (downF 64 n s).length = ps.length ∧ (climbF k n s leaf ps).2 = root := by
  unfold inclF at h
  by_cases h1 : s ≤ n
  · rw [if_pos h1] at h; omega
  · rw [if_neg h1] at h
    by_cases h2 : (downF 64 n s).length ≠ ps.length
    · rw [if_pos h2] at h; omega
    · rw [if_neg h2] at h
      by_cases h3 : foldW (downF 64 n s).reverse ps leaf ≠ root
      · rw [if_pos h3] at h; omega
      · refine ⟨by omega, by omega, ?_⟩
        rw [climb_fold 64 k n s leaf ps (by omega) hk (by omega) (by omega)]
        exact Decidable.not_not.1 h3
/-- two unlike rows of one digest, in a list -/
def Met' (l : List (List UInt8 × List UInt8)) : Prop := ∃ x y, x ∈ l ∧ y ∈ l ∧ x.2 = y.2 ∧ x.1 ≠ y.1
theorem met_of {l : List (List UInt8 × List UInt8)} (h : Met' l) : Met l := by
  obtain ⟨x, y, hx, hy, h1, h2⟩ := h
  obtain ⟨i, hi, ei⟩ := List.mem_iff_getElem.1 hx
  obtain ⟨k, hk, ek⟩ := List.mem_iff_getElem.1 hy
  have gi : l.getD i ([], []) = x := by rw [List.getD_eq_getElem?_getD, List.getElem?_eq_getElem hi, ← ei]; rfl
  have gk : l.getD k ([], []) = y := by rw [List.getD_eq_getElem?_getD, List.getElem?_eq_getElem hk, ← ek]; rfl
  rcases Nat.lt_trichotomy k i with h3 | h3 | h3
  · refine ⟨i, k, h3, hi, ?_⟩
    unfold hit
    rw [gi, gk, decide_eq_true h1, decide_eq_false h2]; rfl
  · subst h3
    rw [gi] at gk
    exact absurd (by rw [gk]) h2
  · refine ⟨k, i, h3, hk, ?_⟩
    unfold hit
    rw [gi, gk, decide_eq_true h1.symm, decide_eq_false (fun h => h2 h.symm)]; rfl
theorem Met'.mono {l l' : List (List UInt8 × List UInt8)} (h : Met' l) (hs : ∀ x, x ∈ l → x ∈ l') : Met' l' := by
  obtain ⟨x, y, hx, hy, h1⟩ := h
  exact ⟨x, y, hs x hx, hs y hy, h1⟩
/-- two leaves of one number that lead to one root are alike, or two nodes meet -/
theorem climb_one : ∀ (f k n s : Nat) (l0 l1 : List UInt8) (p0 p1 : List (List UInt8)), (downF f n s).length = p0.length → (downF f n s).length = p1.length → p0.length ≤ k → s ≤ 2 ^ f → n < s → l0.length = 32 → l1.length = 32 → (∀ x, x ∈ p0 → x.length = 32) → (∀ x, x ∈ p1 → x.length = 32) →
    (climbF k n s l0 p0).2 = (climbF k n s l1 p1).2 → l0 = l1 ∨ Met' ((climbF k n s l0 p0).1 ++ (climbF k n s l1 p1).1)
  | 0, k, n, s, l0, l1, p0, p1, h0, h1, hk, hs, hn, _, _, _, _, he => by
    have e0 : p0 = [] := List.eq_nil_of_length_eq_zero (by simp [downF] at h0; omega)
    have e1 : p1 = [] := List.eq_nil_of_length_eq_zero (by simp [downF] at h1; omega)
    subst e0; subst e1
    cases k <;> simp [climbF] at he <;> exact .inl he
  | f + 1, k, n, s, l0, l1, p0, p1, h0, h1, hk, hs, hn, hl0, hl1, hp0, hp1, he => by
    unfold downF at h0 h1
    by_cases hs1 : s ≤ 1
    · rw [if_pos hs1] at h0 h1
      have e0 : p0 = [] := List.eq_nil_of_length_eq_zero (by simp at h0; omega)
      have e1 : p1 = [] := List.eq_nil_of_length_eq_zero (by simp at h1; omega)
      subst e0; subst e1
      cases k <;> simp [climbF] at he <;> exact .inl he
    · rw [if_neg hs1] at h0 h1
      have k1 := lft_lt (n := s) (by omega)
      have k0 := lft_pos (n := s)
      have k2 := lft_ge (n := s) (by omega)
      have k3 := lft_pow (s := s) (f := f) (by omega) hs
      have hlen : p0.length = p1.length := by omega
      by_cases h2 : n < lft s
      · rw [if_pos h2] at h0 h1
        simp only [List.length_cons] at h0 h1
        obtain ⟨k, rfl⟩ : ∃ k', k = k' + 1 := ⟨k - 1, by omega⟩
        have ih := climb_one f k n (lft s) l0 l1 (p0.take (p0.length - 1)) (p1.take (p1.length - 1)) (by simp; omega) (by simp; omega) (by simp; omega) k3 h2 hl0 hl1 (mem_take32 hp0 _) (mem_take32 hp1 _)
        have r0 := climbF_32 k n (lft s) l0 (p0.take (p0.length - 1)) hl0
        have r1 := climbF_32 k n (lft s) l1 (p1.take (p1.length - 1)) hl1
        unfold climbF at he ⊢
        rw [if_neg (by omega), if_pos h2] at he ⊢
        rw [if_neg (by omega), if_pos h2] at he ⊢
        generalize climbF k n (lft s) l0 (p0.take (p0.length - 1)) = c0 at ih he r0 ⊢
        generalize climbF k n (lft s) l1 (p1.take (p1.length - 1)) = c1 at ih he r1 ⊢
        obtain ⟨c0, x0⟩ := c0
        obtain ⟨c1, x1⟩ := c1
        simp only at ih he r0 r1 ⊢
        by_cases hof : (1 :: (x0 ++ p0.getD (p0.length - 1) []) : List UInt8) = 1 :: (x1 ++ p1.getD (p1.length - 1) [])
        · injection hof with _ hof
          have hx := (List.append_inj hof (by omega)).1
          rcases ih hx with h | h
          · exact .inl h
          · exact .inr (h.mono fun x hx => by simp at hx ⊢; rcases hx with hx | hx <;> simp [hx])
        · exact .inr ⟨_, _, List.mem_append_left _ (List.mem_append_right _ (List.mem_singleton.2 rfl)), List.mem_append_right _ (List.mem_append_right _ (List.mem_singleton.2 rfl)), he, hof⟩
      · rw [if_neg h2] at h0 h1
        simp only [List.length_cons] at h0 h1
        obtain ⟨k, rfl⟩ : ∃ k', k = k' + 1 := ⟨k - 1, by omega⟩
        have g0 := get32 hp0 (i := p0.length - 1) (by omega)
        have g1 := get32 hp1 (i := p1.length - 1) (by omega)
        have ih := climb_one f k (n - lft s) (s - lft s) l0 l1 (p0.take (p0.length - 1)) (p1.take (p1.length - 1)) (by simp; omega) (by simp; omega) (by simp; omega) (by omega) (by omega) hl0 hl1 (mem_take32 hp0 _) (mem_take32 hp1 _)
        unfold climbF at he ⊢
        rw [if_neg (by omega), if_neg h2] at he ⊢
        rw [if_neg (by omega), if_neg h2] at he ⊢
        generalize climbF k (n - lft s) (s - lft s) l0 (p0.take (p0.length - 1)) = c0 at ih he ⊢
        generalize climbF k (n - lft s) (s - lft s) l1 (p1.take (p1.length - 1)) = c1 at ih he ⊢
        obtain ⟨c0, x0⟩ := c0
        obtain ⟨c1, x1⟩ := c1
        simp only at ih he ⊢
        by_cases hof : (1 :: (p0.getD (p0.length - 1) [] ++ x0) : List UInt8) = 1 :: (p1.getD (p1.length - 1) [] ++ x1)
        · injection hof with _ hof
          have hx := (List.append_inj hof (by omega)).2
          rcases ih hx with h | h
          · exact .inl h
          · exact .inr (h.mono fun x hx => by simp at hx ⊢; rcases hx with hx | hx <;> simp [hx])
        · exact .inr ⟨_, _, List.mem_append_left _ (List.mem_append_right _ (List.mem_singleton.2 rfl)), List.mem_append_right _ (List.mem_append_right _ (List.mem_singleton.2 rfl)), he, hof⟩
end Go.Ab.Aud

namespace Go.Ab.Aud
open Go.Sha
/-- digests that were given -/
def ArgDig (old : Old) (v : Value) (l : List (List UInt8)) : Prop := ∃ a cp, v = .slice a l.length cp ∧ (∀ h, DigR old h a cp l) ∧ ∀ j, ¬ Live (.slice a l.length cp) j
/-- a path, at this time -/
def DigV (old : Old) (h : AHeap) (v : Value) (l : List (List UInt8)) : Prop := ∃ a cp, v = .slice a l.length cp ∧ DigR old h a cp l
theorem DigV.fr {old : Old} {h h' : AHeap} {v : Value} {l : List (List UInt8)} (H : DigV old h v l) (f : Fr h h' (fun _ => False)) : DigV old h' v l := by
  obtain ⟨a, cp, h1, h2⟩ := H
  exact ⟨a, cp, h1, h2.fr f (fun _ _ h => h)⟩
theorem climbF_of : ∀ (f n size : Nat) (leaf : List UInt8) (path : List (List UInt8)), leaf.length = 32 → (∀ x, x ∈ path → x.length = 32) → ∀ x, x ∈ (climbF f n size leaf path).1 → x.1.length = 65
  | 0, _, _, _, _, _, _, x, hx => by cases hx
  | f + 1, n, size, leaf, path, h, hp, x, hx => by
    unfold climbF at hx
    by_cases h1 : size ≤ 1 ∨ path.length = 0
    · rw [if_pos h1] at hx; cases hx
    · rw [if_neg h1] at hx
      have g := get32 hp (i := path.length - 1) (by omega)
      by_cases h2 : n < lft size
      · rw [if_pos h2] at hx
        have r := climbF_32 f n (lft size) leaf (path.take (path.length - 1)) h
        rcases List.mem_append.1 hx with hx | hx
        · exact climbF_of f _ _ _ _ h (mem_take32 hp _) x hx
        · rw [List.mem_singleton] at hx; subst hx
          rw [List.length_cons, List.length_append, r, g]
      · rw [if_neg h2] at hx
        have r := climbF_32 f (n - lft size) (size - lft size) leaf (path.take (path.length - 1)) h
        rcases List.mem_append.1 hx with hx | hx
        · exact climbF_of f _ _ _ _ h (mem_take32 hp _) x hx
        · rw [List.mem_singleton] at hx; subst hx
          rw [List.length_cons, List.length_append, r, g]
/-- append([][32]byte{}, path...) -/
theorem dig_copy {old : Old} {h : AHeap} {v : Value} {l : List (List UInt8)} (H : DigV old h v l) (hl : l.length < 2 ^ 20) (hwf : h.lo ≤ h.bs.length) :
    ∃ v' h', appendV old h 30 32 32 emptySl v = some (v', h') ∧ DigO h' v' l ∧ Fr h h' (fun _ => False) ∧ (∀ j, blkOf v' = some j → h.bs.length ≤ j) := by
  obtain ⟨a, cp, rfl, D⟩ := H
  obtain ⟨v', h', e, o, f, b⟩ := append_own (old := old) (bytes := 32) (x := .slice a l.length cp) (m := l.length) (new := leafCells l) (Own.empty (h := h) (e := 30) (k := 32)) (by omega) rfl
    (fun hn => D.1.src hn) (fun h0 => by rw [List.eq_nil_of_length_eq_zero h0]; rfl) (leafCells_len D.2) (by
      rw [List.all_eq_true]; intro x hx
      obtain ⟨y, _, hy⟩ := List.mem_flatMap.1 hx
      exact List.all_eq_true.1 bytes_ok x hy) (by simp [sizeLim]; omega) hwf
  rw [Nat.zero_add, List.nil_append] at o
  refine ⟨v', h', e, ⟨o, D.2⟩, f.mono (fun j hj _ => by cases hj), fun j hj => ?_⟩
  rcases b with b | b
  · rw [hj] at b; cases b
  · rw [hj] at b; cases b; omega
theorem zv_rem3 (z : Int) : ∃ r, abin .rem (zv z) (iv 3) = some (zv r) := by
  unfold zv iv
  simp only [abin, abinI, if_true]
  exact ⟨_, rfl⟩
theorem zv_eql {a : Int} {b : Nat} : abin .eql (zv a) (iv b) = some (.bool (decide (a = (b : Int)))) := by
  unfold zv iv
  simp only [abin, abinI, if_true]
theorem part_at {a b c : List Value} {k n : Nat} (hk : a.length = k) (hn : b.length = n) : ((a ++ (b ++ c)).drop k).take n = b := by
  subst hk; subst hn
  simp
theorem get_at {a c : List Value} {x : Value} {k : Nat} (hk : a.length = k) : (a ++ x :: c)[k]? = some x := by
  subst hk
  simp
theorem ArgDig.digV {old : Old} {v : Value} {l : List (List UInt8)} (H : ArgDig old v l) (h : AHeap) : DigV old h v l := by
  obtain ⟨a, cp, h1, h2, _⟩ := H
  exact ⟨a, cp, h1, h2 h⟩
theorem laidF_len : ∀ (m left : Nat) (rows : List (List UInt8)), (laidF m left rows).length ≤ m
  | 0, _, _ => by simp [laidF]
  | m + 1, _, [] => by simp [laidF]
  | m + 1, left, r :: rs => by
    unfold laidF
    split
    · have := laidF_len m left rs; omega
    · split
      · simp
      · have := laidF_len m (left - (r.length + 100)) rs; simp; omega
theorem laidF_long : ∀ (m left : Nat) (rows : List (List UInt8)), ∀ x, x ∈ laidF m left rows → x.length ≤ 16384
  | 0, _, _, x, h => by simp [laidF] at h
  | m + 1, _, [], x, h => by simp [laidF] at h
  | m + 1, left, r :: rs, x, h => by
    unfold laidF at h
    split at h
    · exact laidF_long m left rs x h
    · split at h
      · cases h
      · rcases List.mem_cons.1 h with h | h
        · subst h; omega
        · exact laidF_long m _ rs x h
theorem RowsO.get {old : Old} {h : AHeap} {v : Value} {l : List (List UInt8)} (H : RowsO old h v l) {i : Nat} (hi : i < l.length) : ∃ a' a cp, v = .slice (some a') l.length 0 ∧ read1 old h (adda a' i) = some (.slice a (l.getD i []).length cp) ∧ (∀ h, SlR old h 1 (.slice a (l.getD i []).length cp) (bytesVals (l.getD i []))) := by
  obtain ⟨vs, o, g⟩ := H
  have hv0 : ∃ va', v = .slice (some va') l.length 0 := by
    rcases o with ⟨_, h0, _⟩ | ⟨b, g', last, hv, _⟩
    · omega
    · exact ⟨_, hv⟩
  obtain ⟨a', rfl⟩ := hv0
  obtain ⟨x, hx, a, cp, e, s, _⟩ := g i hi
  refine ⟨a', a, cp, rfl, ?_, s⟩
  rw [own_rd o hi, hx, e]
end Go.Ab.Aud

namespace Go.Ab.Aud
open Go.Sha
section
variable {H : Type} {enc : TypeId × Value → H} {P : Program} {W : World} {spare : Nat → Bool} {held : Bool}
theorem wf_u8 {n : Int} (h : (Lit.int .u8 n).wf = true) : ∃ b : UInt8, Value.int .u8 n = bv b := by
  simp only [Lit.wf, Bool.and_eq_true, decide_eq_true_eq] at h
  have h1 : 0 ≤ n := h.1
  have h2 : n ≤ 255 := h.2
  refine ⟨UInt8.ofNat n.toNat, ?_⟩
  unfold bv
  congr 1
  rw [UInt8.toNat_ofNat']
  omega
theorem wf_u64 {n : Int} (h : (Lit.int .u64 n).wf = true) : ∃ m : Nat, m < 18446744073709551616 ∧ Value.int .u64 n = uv m := by
  simp only [Lit.wf, Bool.and_eq_true, decide_eq_true_eq] at h
  have h1 : 0 ≤ n := h.1
  have h2 : n ≤ 18446744073709551615 := h.2
  refine ⟨n.toNat, by omega, ?_⟩
  unfold uv
  congr 1
  omega
/-- bytes -/
theorem arg_bytes {t e : Nat} {fuel : Nat} {cs : List Value} {x : DataW H × List MemPlace} (ht : P.underlying t = some (.slice e)) (hk : P.cellsOf e = 1) (he : P.underlying e = some (.int .u8)) (hsp : ∀ b, spare b = true)
    (h : DataW.trod enc P W 0 spare held fuel t cs = some x) : ∃ v av l, cs = [v] ∧ oldV v = some av ∧ ArgB (oldOf W) av l := by
  obtain ⟨v, av, a, len, cp, els, h1, h2, h3, h4, h5, h6, h7, h8⟩ := arg_slice ht hk (by omega) hsp (fun c => ∃ b, c = [bv b]) (fun n cs y _ htr => by
    obtain ⟨n, rfl, _, hw⟩ := DataW.trod_int he htr
    obtain ⟨b, hb⟩ := wf_u8 hw
    refine ⟨[bv b], ⟨rfl, fun i x hx => ?_⟩, b, rfl⟩
    cases i with
    | zero => simp at hx; subst hx; exact ⟨bv b, by rw [hb]; rfl, rfl⟩
    | succ i => simp at hx) h
  have : ∀ els : List (List Value), (∀ c, c ∈ els → (∃ b, c = [bv b]) ∧ c.length = 1) → ∃ l : List UInt8, l.length = els.length ∧ els.flatten = bytesVals l := by
    intro els
    induction els with
    | nil => exact fun _ => ⟨[], rfl, rfl⟩
    | cons c els ih =>
      intro hc
      obtain ⟨l, l1, l2⟩ := ih fun c' hc' => hc c' (by simp [hc'])
      obtain ⟨⟨b, rfl⟩, _⟩ := hc c (by simp)
      exact ⟨b :: l, by simp [l1], by simp [l2, bytesVals_eq]⟩
  obtain ⟨l, l1, l2⟩ := this els h6
  rw [l2] at h7
  refine ⟨v, av, l, h1, h2, a, cp, by rw [h3, l1, h4], fun g => by rw [l1, h4]; exact h7 g, fun j => by rw [l1, h4]; exact h8 j⟩
/-- a digest's cells -/
theorem arg_dig {e b : Nat} {fuel : Nat} {cs : List Value} {x : DataW H × List MemPlace} (ht : P.underlying e = some (.array 32 b)) (hk : P.cellsOf b = 1) (hk2 : P.cellsOf e = 32) (hb : P.underlying b = some (.int .u8))
    (h : DataW.trod enc P W 0 spare held fuel e cs = some x) : ∃ l : List UInt8, l.length = 32 ∧ cs = bytesVals l := by
  obtain ⟨xs, m, _, _, hl, hxl, hx⟩ := DataW.trod_array ht h
  have each : ∀ i, i < 32 → ∃ b, cs[i]? = some (bv b) := by
    intro i hi
    have h1 := hx i hi
    rw [List.getElem?_eq_getElem (by omega)] at h1
    obtain ⟨n, hn, _, hw⟩ := DataW.trod_int hb h1
    obtain ⟨b, hb⟩ := wf_u8 hw
    rw [hk, Nat.mul_one] at hn
    refine ⟨b, ?_⟩
    rw [List.drop_eq_getElem_cons (by omega)] at hn
    simp only [List.take_succ_cons, List.take_zero] at hn
    injection hn with hn
    rw [List.getElem?_eq_getElem (by omega), hn, hb]
  have : ∀ cs : List Value, (∀ i, i < cs.length → ∃ b, cs[i]? = some (bv b)) → ∃ l : List UInt8, l.length = cs.length ∧ cs = bytesVals l := by
    intro cs
    induction cs with
    | nil => exact fun _ => ⟨[], rfl, rfl⟩
    | cons c cs ih =>
      intro hc
      obtain ⟨l, l1, l2⟩ := ih fun i hi => by have := hc (i + 1) (by simp; omega); simpa using this
      obtain ⟨b, hb⟩ := hc 0 (by simp)
      simp at hb
      exact ⟨b :: l, by simp [l1], by rw [hb, l2]; rfl⟩
  obtain ⟨l, l1, l2⟩ := this cs fun i hi => each i (by omega)
  exact ⟨l, by omega, l2⟩
theorem oldV_bytes {l : List UInt8} : OldCells (bytesVals l) (bytesVals l) := ⟨rfl, fun i x hx => by
  rw [bytes_get] at hx ⊢
  cases h : l[i]? with
  | none => rw [h] at hx; cases hx
  | some b => rw [h] at hx; cases hx; exact ⟨bv b, rfl, rfl⟩⟩
/-- digests -/
theorem arg_digs {t e b : Nat} {fuel : Nat} {cs : List Value} {x : DataW H × List MemPlace} (ht : P.underlying t = some (.slice e)) (he : P.underlying e = some (.array 32 b)) (hk : P.cellsOf b = 1) (hk2 : P.cellsOf e = 32) (hb : P.underlying b = some (.int .u8)) (hsp : ∀ b, spare b = true)
    (h : DataW.trod enc P W 0 spare held fuel t cs = some x) : ∃ v av l, cs = [v] ∧ oldV v = some av ∧ ArgDig (oldOf W) av l := by
  obtain ⟨v, av, a, len, cp, els, h1, h2, h3, h4, h5, h6, h7, h8⟩ := arg_slice ht hk2 (by omega) hsp (fun c => ∃ l : List UInt8, l.length = 32 ∧ c = bytesVals l) (fun n cs y _ htr => by
    obtain ⟨l, l1, rfl⟩ := arg_dig he hk hk2 hb htr
    exact ⟨_, oldV_bytes, l, l1, rfl⟩) h
  have : ∀ els : List (List Value), (∀ c, c ∈ els → (∃ l : List UInt8, l.length = 32 ∧ c = bytesVals l) ∧ c.length = 32) → ∃ l : List (List UInt8), l.length = els.length ∧ els.flatten = leafCells l ∧ ∀ x, x ∈ l → x.length = 32 := by
    intro els
    induction els with
    | nil => exact fun _ => ⟨[], rfl, rfl, fun x hx => by cases hx⟩
    | cons c els ih =>
      intro hc
      obtain ⟨l, l1, l2, l3⟩ := ih fun c' hc' => hc c' (by simp [hc'])
      obtain ⟨⟨b, hb, rfl⟩, _⟩ := hc c (by simp)
      exact ⟨b :: l, by simp [l1], by simp [l2, leafCells], fun x hx => by rcases List.mem_cons.1 hx with rfl | hx; { exact hb }; exact l3 x hx⟩
  obtain ⟨l, l1, l2, l3⟩ := this els h6
  rw [l2] at h7
  exact ⟨v, av, l, h1, h2, a, cp, by rw [h3, l1, h4], fun g => ⟨by rw [l1, h4]; exact h7 g, l3⟩, fun j => by rw [l1, h4]; exact h8 j⟩
/-- rows of bytes -/
theorem arg_rows {t e b : Nat} {fuel : Nat} {cs : List Value} {x : DataW H × List MemPlace} (ht : P.underlying t = some (.slice e)) (he : P.underlying e = some (.slice b)) (hk : P.cellsOf b = 1) (hk2 : P.cellsOf e = 1) (hb : P.underlying b = some (.int .u8)) (hsp : ∀ b, spare b = true)
    (h : DataW.trod enc P W 0 spare held fuel t cs = some x) : ∃ v av rows, cs = [v] ∧ oldV v = some av ∧ ArgR (oldOf W) av rows ∧ rows.length ≤ maxLen := by
  obtain ⟨v, av, a, len, cp, els, h1, h2, h3, h4, h5, h6, h7, h8⟩ := arg_slice ht hk2 (by omega) hsp (fun c => ∃ y l, c = [y] ∧ ArgB (oldOf W) y l) (fun n cs y _ htr => by
    obtain ⟨v, av, l, rfl, h2, h3⟩ := arg_bytes he hk hb hsp htr
    refine ⟨[av], ⟨rfl, fun i x hx => ?_⟩, av, l, rfl, h3⟩
    cases i with
    | zero => simp at hx; subst hx; exact ⟨av, h2, rfl⟩
    | succ i => simp at hx) h
  have : ∀ els : List (List Value), (∀ c, c ∈ els → (∃ y l, c = [y] ∧ ArgB (oldOf W) y l) ∧ c.length = 1) → ∃ rows : List (List UInt8), rows.length = els.length ∧ ∀ i, i < rows.length → ∃ x, els.flatten[i]? = some x ∧ ArgB (oldOf W) x (rows.getD i []) := by
    intro els
    induction els with
    | nil => exact fun _ => ⟨[], rfl, fun i hi => by cases hi⟩
    | cons c els ih =>
      intro hc
      obtain ⟨rows, l1, l2⟩ := ih fun c' hc' => hc c' (by simp [hc'])
      obtain ⟨⟨y, l, rfl, hy⟩, _⟩ := hc c (by simp)
      refine ⟨l :: rows, by simp [l1], fun i hi => ?_⟩
      cases i with
      | zero => exact ⟨y, by simp, by simpa using hy⟩
      | succ i =>
        obtain ⟨x, hx, hB⟩ := l2 i (by simpa using hi)
        exact ⟨x, by simpa using hx, by simpa [List.getD_eq_getElem?_getD] using hB⟩
  obtain ⟨rows, l1, l2⟩ := this els h6
  exact ⟨v, av, rows, h1, h2, ⟨a, cp, els.flatten, by rw [h3, l1, h4], fun g => by rw [l1, h4]; exact h7 g, fun j => by rw [l1, h4]; exact h8 j, l2⟩, by omega⟩
end
end Go.Ab.Aud

namespace Go.Proofs.YtecbgdnoblhldaaGreatDoor.au
open Go Go.Ab Go.Ab.Aud Go.Sha
theorem cells50 : Tryz.prog.cellsOf 50 = 104 := by kernel_rfl
theorem cells35 : Tryz.prog.cellsOf 35 = 33 := by kernel_rfl
theorem cells29 : Tryz.prog.cellsOf 29 = 1 := by kernel_rfl
theorem cells47 : Tryz.prog.cellsOf 47 = 64 := by kernel_rfl
theorem cells48 : Tryz.prog.cellsOf 48 = 2 := by kernel_rfl
theorem cells26 : Tryz.prog.cellsOf 26 = 1 := by kernel_rfl
theorem cells24 : Tryz.prog.cellsOf 24 = 1 := by kernel_rfl
theorem cells41 : Tryz.prog.cellsOf 41 = 1 := by kernel_rfl
theorem cells30 : Tryz.prog.cellsOf 30 = 32 := by kernel_rfl
theorem cells5 : Tryz.prog.cellsOf 5 = 1 := by kernel_rfl
theorem cells3 : Tryz.prog.cellsOf 3 = 1 := by kernel_rfl
theorem cells4 : Tryz.prog.cellsOf 4 = 1 := by kernel_rfl
theorem OldCells.app {a a' b b' : List Value} (h : OldCells a a') (g : OldCells b b') : OldCells (a ++ b) (a' ++ b') := by
  refine ⟨by rw [List.length_append, List.length_append, h.1, g.1], fun i x hx => ?_⟩
  have hl := h.1
  by_cases hi : i < a.length
  · rw [List.getElem?_append_left hi] at hx
    rw [List.getElem?_append_left (by omega)]
    exact h.2 i x hx
  · rw [List.getElem?_append_right (by omega)] at hx
    rw [List.getElem?_append_right (by omega), ← hl]
    exact g.2 _ x hx
theorem OldCells.one {x y : Value} (h : oldV x = some y) : OldCells [x] [y] := ⟨rfl, fun i z hz => by
  cases i with
  | zero => simp at hz; subst hz; exact ⟨y, h, rfl⟩
  | succ i => simp at hz⟩
theorem cut {l : List Value} (i k : Nat) : l.drop i = (l.drop i).take k ++ l.drop (i + k) := by
  rw [← List.drop_drop, List.take_append_drop]
theorem oldV_int {k : IntKind} {n : Int} : oldV (.int k n) = some (.int k n) := rfl
section
variable {H : Type} {enc : TypeId × Value → H} {W : World} {spare : Nat → Bool} {held : Bool}
theorem arg_head {fuel : Nat} {cs : List Value} {x : DataW H × List MemPlace} (h : DataW.trod enc Tryz.prog W 0 spare held fuel 35 cs = some x) : ∃ hs root, OldCells cs (uv hs :: bytesVals root) ∧ root.length = 32 ∧ hs < 18446744073709551616 := by
  obtain ⟨xs, n, _, _, hl, hxl, hx⟩ := DataW.trod_struct Tryz.underlying35 h
  rw [cells35] at hl
  have h0 := hx 0 _ rfl
  have h1 := hx 1 _ rfl
  have hxl : xs.length = 2 := hxl
  rw [List.getElem?_eq_getElem (by omega)] at h0 h1
  replace h0 : DataW.trod enc Tryz.prog W 0 spare held n 29 ((cs.drop 0).take (Tryz.prog.cellsOf 29)) = _ := h0
  replace h1 : DataW.trod enc Tryz.prog W 0 spare held n 30 ((cs.drop 1).take (Tryz.prog.cellsOf 30)) = _ := h1
  rw [cells29] at h0
  rw [cells30] at h1
  obtain ⟨m, hm, _, hw⟩ := DataW.trod_int Tryz.underlying29 h0
  obtain ⟨hs, hs1, hs2⟩ := wf_u64 hw
  obtain ⟨root, r1, r2⟩ := arg_dig Tryz.underlying30 cells5 cells30 Tryz.underlying5 h1
  have e : cs = (cs.drop 0).take 1 ++ (cs.drop 1).take 32 := by
    have h1 := cut (l := cs) 0 1
    have h2 : (cs.drop 1).take 32 = cs.drop 1 := List.take_of_length_le (by simp; omega)
    rw [h2]
    simpa using h1
  refine ⟨hs, root, ?_, r1, hs1⟩
  rw [e, hm, r2, hs2]
  exact OldCells.app (OldCells.one rfl) oldV_bytes
end
end Go.Proofs.YtecbgdnoblhldaaGreatDoor.au

namespace Go.Ab.Aud
open Go.Sha
variable {C : Ctx} (T : Tab_LLog C) (TD : Tab_LDig C) (TW : Tab_LLaw C) (TS : Tab_LSound C) (hk : ∀ j, j < 64 → C.old 0 j = some (wv (kW j))) (hp : ∀ j, j < 16 → C.old 1 j = some (wv (crcW j)))
/-- where the statement stands -/
structure St (C : Ctx) (g : AHeap) (t : List Value) (b1 b2 b3 hs n : Nat) (root l0 l1 : List UInt8) (p0 p1 : Value) (ps0 ps1 : List (List UInt8)) : Prop where
  a1 : g.at b1 = some (.cells (uv hs :: bytesVals root) 36)
  a2 : g.at b2 = some (.cells (bytesVals l0 ++ bytesVals l1) 48)
  a3 : g.at b3 = some (.cells [p0, p1] 49)
  d0 : DigV C.old g p0 ps0
  d1 : DigV C.old g p1 ps1
  t3 : tg t 3 = .pointer (some ⟨b1, 0, some 0⟩)
  t4 : tg t 4 = uv n
  t5 : tg t 5 = .pointer (some ⟨b2, 0, some 0⟩)
  t6 : tg t 6 = .pointer (some ⟨b3, 0, some 0⟩)
  wf : g.lo ≤ g.bs.length
include T TD TW hk hp

set_option maxHeartbeats 2000000 in
theorem sound_step0 (hN : ∀ h, D C 147 [str nmA] h = some (.bool true, h)) (g : AHeap) (t : List Value) (b1 b2 b3 hs n : Nat) (root l0 l1 : List UInt8) (p0 p1 : Value) (ps0 ps1 : List (List UInt8)) (H : St C g t b1 b2 b3 hs n root l0 l1 p0 p1 ps0 ps1) (t13 : tg t 13 = iv 0)
    (hr : root.length = 32) (h0 : l0.length = 32) (h1 : l1.length = 32) (hhs : hs < 18446744073709551616) (hn : n < 18446744073709551616) :
    (∀ K, ∃ g', R C r4 (.inLoop lp4_0 :: .inBlock 0 :: K) t [] g = some (.bool true, g')) ∨
    (ps0.length ≤ 64 ∧ inclF hs n root l0 ps0 = 0 ∧ ∃ g' t', (∀ K, R C r4 (.inLoop lp4_0 :: .inBlock 0 :: K) t [] g = R C r4 (.inLoop lp4_0 :: .inBlock 0 :: K) t' [] g') ∧ St C g' t' b1 b2 b3 hs n root l0 l1 p0 p1 ps0 ps1 ∧ tg t' 13 = iv 1) := by
  have ew := wakes_spec T TD TW hk hp
  obtain ⟨a, cp, hpv, dg⟩ := H.d0
  have ri : rd1 (some (.cells [p0, p1] 49)) 0 0 = some (.slice a ps0.length cp) := by rw [← hpv]; rfl
  by_cases hlen : 64 < ps0.length
  · left
    intro K
    refine ⟨g, ?_⟩
    rw [R_open lp4_0.eq_1]
    simp [H.t6, t13, H.a3, ri, ixA_iv, hlen, Dc0, Dc_ok, ew _ hN, r4]
  · obtain ⟨v', g1, e1, o1, f1, bl1⟩ := dig_copy H.d0 (by omega) H.wf
    rw [hpv] at e1
    obtain ⟨a2, cp2, hv2, dg2⟩ := o1.digR (old := C.old)
    have hu : isUnd v' = false := by rw [hv2]; rfl
    have ei := incl_spec T TD hk g1 hs n root l0 ps0 hr h0 hhs hn a2 cp2 dg2
    rw [← hv2] at ei
    have x1 : g1.at b1 = some (.cells (uv hs :: bytesVals root) 36) := f1.get H.a1 (fun h => h)
    have x2 : g1.at b2 = some (.cells (bytesVals l0 ++ bytesVals l1) 48) := f1.get H.a2 (fun h => h)
    have rh : rdN (some (.cells (uv hs :: bytesVals root) 36)) 0 0 33 = some (uv hs :: bytesVals root) := by
      rw [rdN_cells (by simp [hr]), List.drop_zero, List.take_of_length_le (by simp [hr])]
    have rl : rdN (some (.cells (bytesVals l0 ++ bytesVals l1) 48)) 0 0 32 = some (bytesVals l0) := by
      rw [rdN_cells (by simp [h0, h1])]
      first
        | (simp [h0, h1]; done)
        | (simp [h0]; rw [List.take_of_length_le (by simp [h1])])
    by_cases hok : inclF hs n root l0 ps0 = 0
    · right
      refine ⟨by omega, hok, g1, ?_⟩
      rw [hok] at ei
      have e : ∃ t', (∀ K, R C r4 (.inLoop lp4_0 :: .inBlock 0 :: K) t [] g = R C r4 (.inLoop lp4_0 :: .inBlock 0 :: K) t' [] g1) ∧ tg t' 3 = .pointer (some ⟨b1, 0, some 0⟩) ∧ tg t' 4 = uv n ∧ tg t' 5 = .pointer (some ⟨b2, 0, some 0⟩) ∧ tg t' 6 = .pointer (some ⟨b3, 0, some 0⟩) ∧ tg t' 13 = iv 1 := by
        refine ex_step (fun k => R_open lp4_0.eq_1) ?_
        simp [H.t3, H.t4, H.t5, H.t6, t13, ixA_iv, H.a1, H.a2, H.a3, ri, hlen, rh, rl, fillCells, e1, hu, Dc_ok, ei, num_spec TW, x1, x2, iv_add (a := 0) (b := 1) (by omega), stp_ok hu]
        exact ⟨_, fun _ => rfl, by simp [H.t3], by simp [H.t4], by simp [H.t5], by simp [H.t6], by simp⟩
      obtain ⟨t', e, u3, u4, u5, u6, u13⟩ := e
      exact ⟨t', e, ⟨x1, x2, f1.get H.a3 (fun h => h), H.d0.fr f1, H.d1.fr f1, u3, u4, u5, u6, by rw [f1.lo]; have := f1.len; have := H.wf; omega⟩, u13⟩
    · left
      intro K
      refine ⟨g1, ?_⟩
      rw [R_open lp4_0.eq_1]
      simp [H.t3, H.t4, H.t5, H.t6, t13, ixA_iv, H.a1, H.a2, H.a3, ri, hlen, rh, rl, fillCells, e1, hu, Dc0, Dc_ok, ei, num_spec TW, hok, x1, x2, ew _ hN, r4]

set_option maxHeartbeats 2000000 in
theorem sound_step1 (hN : ∀ h, D C 147 [str nmA] h = some (.bool true, h)) (g : AHeap) (t : List Value) (b1 b2 b3 hs n : Nat) (root l0 l1 : List UInt8) (p0 p1 : Value) (ps0 ps1 : List (List UInt8)) (H : St C g t b1 b2 b3 hs n root l0 l1 p0 p1 ps0 ps1) (t13 : tg t 13 = iv 1)
    (hr : root.length = 32) (h0 : l0.length = 32) (h1 : l1.length = 32) (hhs : hs < 18446744073709551616) (hn : n < 18446744073709551616) :
    (∀ K, ∃ g', R C r4 (.inLoop lp4_0 :: .inBlock 0 :: K) t [] g = some (.bool true, g')) ∨
    (ps1.length ≤ 64 ∧ inclF hs n root l1 ps1 = 0 ∧ ∃ g' t', (∀ K, R C r4 (.inLoop lp4_0 :: .inBlock 0 :: K) t [] g = R C r4 (.inLoop lp4_0 :: .inBlock 0 :: K) t' [] g') ∧ St C g' t' b1 b2 b3 hs n root l0 l1 p0 p1 ps0 ps1 ∧ tg t' 13 = iv 2) := by
  have ew := wakes_spec T TD TW hk hp
  obtain ⟨a, cp, hpv, dg⟩ := H.d1
  have ri : rd1 (some (.cells [p0, p1] 49)) 1 0 = some (.slice a ps1.length cp) := by rw [← hpv]; rfl
  by_cases hlen : 64 < ps1.length
  · left
    intro K
    refine ⟨g, ?_⟩
    rw [R_open lp4_0.eq_1]
    simp [H.t6, t13, H.a3, ri, ixA_iv, hlen, Dc0, Dc_ok, ew _ hN, r4]
  · obtain ⟨v', g1, e1, o1, f1, bl1⟩ := dig_copy H.d1 (by omega) H.wf
    rw [hpv] at e1
    obtain ⟨a2, cp2, hv2, dg2⟩ := o1.digR (old := C.old)
    have hu : isUnd v' = false := by rw [hv2]; rfl
    have ei := incl_spec T TD hk g1 hs n root l1 ps1 hr h1 hhs hn a2 cp2 dg2
    rw [← hv2] at ei
    have x1 : g1.at b1 = some (.cells (uv hs :: bytesVals root) 36) := f1.get H.a1 (fun h => h)
    have x2 : g1.at b2 = some (.cells (bytesVals l0 ++ bytesVals l1) 48) := f1.get H.a2 (fun h => h)
    have rh : rdN (some (.cells (uv hs :: bytesVals root) 36)) 0 0 33 = some (uv hs :: bytesVals root) := by
      rw [rdN_cells (by simp [hr]), List.drop_zero, List.take_of_length_le (by simp [hr])]
    have rl : rdN (some (.cells (bytesVals l0 ++ bytesVals l1) 48)) 32 0 32 = some (bytesVals l1) := by
      rw [rdN_cells (by simp [h0, h1])]
      first
        | (simp [h0, h1]; done)
        | (simp [h0]; rw [List.take_of_length_le (by simp [h1])])
    by_cases hok : inclF hs n root l1 ps1 = 0
    · right
      refine ⟨by omega, hok, g1, ?_⟩
      rw [hok] at ei
      have e : ∃ t', (∀ K, R C r4 (.inLoop lp4_0 :: .inBlock 0 :: K) t [] g = R C r4 (.inLoop lp4_0 :: .inBlock 0 :: K) t' [] g1) ∧ tg t' 3 = .pointer (some ⟨b1, 0, some 0⟩) ∧ tg t' 4 = uv n ∧ tg t' 5 = .pointer (some ⟨b2, 0, some 0⟩) ∧ tg t' 6 = .pointer (some ⟨b3, 0, some 0⟩) ∧ tg t' 13 = iv 2 := by
        refine ex_step (fun k => R_open lp4_0.eq_1) ?_
        simp [H.t3, H.t4, H.t5, H.t6, t13, ixA_iv, H.a1, H.a2, H.a3, ri, hlen, rh, rl, fillCells, e1, hu, Dc_ok, ei, num_spec TW, x1, x2, iv_add (a := 1) (b := 1) (by omega), stp_ok hu]
        exact ⟨_, fun _ => rfl, by simp [H.t3], by simp [H.t4], by simp [H.t5], by simp [H.t6], by simp⟩
      obtain ⟨t', e, u3, u4, u5, u6, u13⟩ := e
      exact ⟨t', e, ⟨x1, x2, f1.get H.a3 (fun h => h), H.d0.fr f1, H.d1.fr f1, u3, u4, u5, u6, by rw [f1.lo]; have := f1.len; have := H.wf; omega⟩, u13⟩
    · left
      intro K
      refine ⟨g1, ?_⟩
      rw [R_open lp4_0.eq_1]
      simp [H.t3, H.t4, H.t5, H.t6, t13, ixA_iv, H.a1, H.a2, H.a3, ri, hlen, rh, rl, fillCells, e1, hu, Dc0, Dc_ok, ei, num_spec TW, hok, x1, x2, ew _ hN, r4]

set_option maxHeartbeats 4000000 in
/-- what stands behind the loop -/
theorem sound_end (hN : ∀ h, D C 147 [str nmA] h = some (.bool true, h)) (g : AHeap) (t : List Value) (b1 b2 b3 hs n : Nat) (root l0 l1 : List UInt8) (p0 p1 : Value) (ps0 ps1 : List (List UInt8)) (H : St C g t b1 b2 b3 hs n root l0 l1 p0 p1 ps0 ps1)
    (hr : root.length = 32) (h0 : l0.length = 32) (h1 : l1.length = 32) (hhs : hs < 18446744073709551616) (hn : n < 18446744073709551616) (k0 : ps0.length ≤ 64) (k1 : ps1.length ≤ 64) (i0 : inclF hs n root l0 ps0 = 0) (i1 : inclF hs n root l1 ps1 = 0) :
    ∃ g', R C r4 [.code k4_0] t [] g = some (.bool true, g') := by
  have ew := wakes_spec T TD TW hk hp
  have rl0 : rdN (some (.cells (bytesVals l0 ++ bytesVals l1) 48)) 0 0 32 = some (bytesVals l0) := by
    rw [rdN_cells (by simp [h0, h1])]
    simp [h0]
  have rl1 : rdN (some (.cells (bytesVals l0 ++ bytesVals l1) 48)) 32 0 32 = some (bytesVals l1) := by
    rw [rdN_cells (by simp [h0, h1])]
    simp [h0]
    rw [List.take_of_length_le (by simp [h1])]
  have eq := aeq_dig h0 h1
  simp [List.replicate] at eq
  by_cases hll : l0 = l1
  · refine ⟨g, ?_⟩
    simp [k4_0, H.t5, ixA_iv, H.a2, rl0, rl1, eq, eq_true hll, Dc0, ew _ hN, r4]
  · obtain ⟨a0, cp0, hv0, dg0⟩ := H.d0
    obtain ⟨g1, v, e1, q1, f1, u1⟩ := climb_spec T TD TW hk ps0.length n hs l0 ps0 (Nat.le_refl _) (by omega) hn hhs h0 g a0 cp0 dg0 H.wf
    rw [← hv0] at e1
    obtain ⟨m1, m2, m3⟩ := incl_ok (by omega) i0 ps0.length (Nat.le_refl _)
    obtain ⟨m4, m5, m6⟩ := incl_ok (by omega) i1 ps1.length (Nat.le_refl _)
    have hps : ps0.length = ps1.length := by omega
    have cl0 := climbF_len ps0.length n hs l0 ps0
    have cl1 := climbF_len ps1.length n hs l1 ps1
    have hmet := (climb_one 64 ps0.length n hs l0 l1 ps0 ps1 m2 m5 (Nat.le_refl _) (by omega) m1 h0 h1 dg0.2 (by obtain ⟨_, _, _, d⟩ := H.d1; exact d.2) (by rw [m3, hps, m6])).resolve_left hll
    have hz : Value.int .u8 0 = bv 0 := rfl
    generalize hZ : ABlock.cells (List.replicate 32 (bv 0)) 31 = Z
    have hZ0 := hZ
    simp [List.replicate] at hZ
    have lw : ∀ (g : AHeap) (b : Nat), wrN g b (some Z) 0 0 (bytesVals root) = some (g.put b (.cells (bytesVals root) 31)) := by
      intro g b
      rw [← hZ0]; exact lay32 hr g b
    have rr : rdN (some (.cells (bytesVals root) 31)) 0 0 32 = some (bytesVals root) := rd32 hr
    have rH : rdN (some (.cells (uv hs :: bytesVals root) 36)) 1 0 32 = some (bytesVals root) := by
      rw [rdN_cells (by simp [hr]), List.drop_succ_cons, List.drop_zero, List.take_of_length_le (by simp [hr])]
    have rs : rd1 (some (.cells (uv hs :: bytesVals root) 36)) 0 0 = some (uv hs) := rfl
    have r30 : rd1 (some (.cells [p0, p1] 49)) 0 0 = some p0 := rfl
    have r31 : rd1 (some (.cells [p0, p1] 49)) 1 0 = some p1 := rfl
    have up0 : isUnd p0 = false := by rw [hv0]; rfl
    have up1 : isUnd p1 = false := by obtain ⟨_, _, h, _⟩ := H.d1; rw [h]; rfl
    rw [m3] at e1
    have l1' := f1.len
    have o1' := f1.lo
    have z1 : (g1.push Z).at g1.bs.length = some Z := push_self
    generalize hg2 : (g1.push Z).put g1.bs.length (.cells (bytesVals root) 31) = g2
    have f2 : Fr g1 g2 (fun _ => False) := by rw [← hg2]; exact Fr.push.put' (.inr (Nat.le_refl _))
    have n2 : g2.at g1.bs.length = some (.cells (bytesVals root) 31) := by rw [← hg2]; exact put_self (by simp)
    have l2 : g2.bs.length = g1.bs.length + 1 := by rw [← hg2]; simp
    have o2 := f2.lo
    have w1 := H.wf
    have f12 : Fr g g2 (fun _ => False) := f1.trans f2 (fun _ h => h) (fun _ h _ => h)
    have w2 : g2.lo ≤ g2.bs.length := by omega
    obtain ⟨a1, cp1, hv1, dg1⟩ := H.d1.fr f12
    obtain ⟨g3, w, e3, q3, f3, u3⟩ := climb_spec T TD TW hk ps1.length n hs l1 ps1 (Nat.le_refl _) (by omega) hn hhs h1 g2 a1 cp1 dg1 w2
    rw [← hv1, m6] at e3
    have l3 := f3.len
    have o3 := f3.lo
    have z3 : (g3.push Z).at g3.bs.length = some Z := push_self
    generalize hg4 : (g3.push Z).put g3.bs.length (.cells (bytesVals root) 31) = g4
    have f4 : Fr g3 g4 (fun _ => False) := by rw [← hg4]; exact Fr.push.put' (.inr (Nat.le_refl _))
    have n4 : g4.at g3.bs.length = some (.cells (bytesVals root) 31) := by rw [← hg4]; exact put_self (by simp)
    have l4 : g4.bs.length = g3.bs.length + 1 := by rw [← hg4]; simp
    have o4 := f4.lo
    have f24 : Fr g2 g4 (fun _ => False) := f3.trans f4 (fun _ h => h) (fun _ h _ => h)
    have f14 : Fr g1 g4 (fun _ => False) := f2.trans f24 (fun _ h => h) (fun _ h _ => h)
    have f04 : Fr g g4 (fun _ => False) := f12.trans f24 (fun _ h => h) (fun _ h _ => h)
    have q1' := q1.fr f14 (fun _ _ _ h => h)
    have q3' := q3.fr f4 (fun _ _ _ h => h)
    have hvlt : ∀ j, blkOf v = some j → j < g1.bs.length := by obtain ⟨L, _, o, _, _⟩ := q1; exact fun j hj => o.blk hj
    obtain ⟨L', eL, oL, bL, pL⟩ := q3'
    have hLl : L'.length = (climbF ps1.length n hs l1 ps1).1.length := by rw [← eL]; simp
    obtain ⟨aw, cpw, hw⟩ := oL.slice
    have sw := oL.sl (old := C.old) (by omega)
    obtain ⟨v', g5, e5, q5, f5, b5⟩ := pairs_append q1' (by omega) (by omega) (by omega : g.bs.length ≤ g2.bs.length) (fun j hj => by have := hvlt j hj; omega) L' eL (by rw [hw]; rfl) (fun hn => by rw [hw] at sw ⊢; exact sw.src hn) pL (by omega)
    obtain ⟨b, eb, hb⟩ := met_spec TW g5 v' _ q5.rd (by simp; omega) (fun i => by
      have h65 : ∀ x, x ∈ (climbF ps0.length n hs l0 ps0).1 ++ (climbF ps1.length n hs l1 ps1).1 → x.1.length = 65 := fun x hx => by
        rcases List.mem_append.1 hx with hx | hx
        · exact climbF_of _ _ _ _ _ h0 dg0.2 x hx
        · exact climbF_of _ _ _ _ _ h1 dg1.2 x hx
      rw [List.getD_eq_getElem?_getD]
      cases hg : ((climbF ps0.length n hs l0 ps0).1 ++ (climbF ps1.length n hs l1 ps1).1)[i]? with
      | none => simp
      | some x => have := h65 x (List.mem_of_getElem? hg); simp [this])
    have hbt : b = true := hb.2 (met_of (by rw [hps] at hmet ⊢; exact hmet))
    rw [hbt] at eb
    have uv' : isUnd v' = false := by obtain ⟨L, _, o, _, _⟩ := q5; exact o.und
    have c1 : g1.at b1 = some (.cells (uv hs :: bytesVals root) 36) := f1.get H.a1 (fun h => h)
    have c2 : g2.at b1 = some (.cells (uv hs :: bytesVals root) 36) := f12.get H.a1 (fun h => h)
    have c22 : g2.at b2 = some (.cells (bytesVals l0 ++ bytesVals l1) 48) := f12.get H.a2 (fun h => h)
    have c23 : g2.at b3 = some (.cells [p0, p1] 49) := f12.get H.a3 (fun h => h)
    have c4 : g4.at b1 = some (.cells (uv hs :: bytesVals root) 36) := f04.get H.a1 (fun h => h)
    have c5 : g4.at g1.bs.length = some (.cells (bytesVals root) 31) := f24.get n2 (fun h => h)
    have eqr := aeq_dig hr hr
    simp [List.replicate] at eqr
    have hlo1 : g.lo ≤ g1.bs.length := by omega
    have hlo3 : g.lo ≤ g3.bs.length := by omega
    refine ⟨g5, ?_⟩
    simp [k4_0, H.t3, H.t4, H.t5, H.t6, ixA_iv, H.a1, H.a2, H.a3, rl0, rl1, eq, eq_false hll, rs, r30, r31, stp_ok up0, up0, Dc0, Dc_ok, e1, stp_ok u1, u1, hz, hZ, bytes_ok, hr, writeN_wr, o1', hlo1, z1, lw, hg2, c2, c22, c23, stp_ok up1, up1, e3, stp_ok u3, u3, o3, o2, hlo3, z3, hg4, c4, c5, n4, rr, rH, eqr, e5, stp_ok uv', uv', eb, ew _ hN, r4]
theorem sound_rest (hN : ∀ h, D C 147 [str nmA] h = some (.bool true, h)) (g : AHeap) (t : List Value) (b1 b2 b3 hs n : Nat) (root l0 l1 : List UInt8) (p0 p1 : Value) (ps0 ps1 : List (List UInt8)) (H : St C g t b1 b2 b3 hs n root l0 l1 p0 p1 ps0 ps1) (t13 : tg t 13 = iv 0)
    (hr : root.length = 32) (h0 : l0.length = 32) (h1 : l1.length = 32) (hhs : hs < 18446744073709551616) (hn : n < 18446744073709551616) :
    ∃ g', R C r4 [.inLoop lp4_0, .inBlock 0, .code k4_0] t [] g = some (.bool true, g') := by
  rcases sound_step0 T TD TW hk hp hN g t b1 b2 b3 hs n root l0 l1 p0 p1 ps0 ps1 H t13 hr h0 h1 hhs hn with h | ⟨k0, i0, g1, t1, e1, H1, t131⟩
  · exact h _
  · rcases sound_step1 T TD TW hk hp hN g1 t1 b1 b2 b3 hs n root l0 l1 p0 p1 ps0 ps1 H1 t131 hr h0 h1 hhs hn with h | ⟨k1, i1, g2, t2, e2, H2, t132⟩
    · obtain ⟨g', h⟩ := h [.code k4_0]
      exact ⟨g', (e1 _).trans h⟩
    · obtain ⟨t3, e3, u3, u4, u5, u6⟩ : ∃ t', (∀ K, R C r4 (.inLoop lp4_0 :: .inBlock 0 :: K) t2 [] g2 = R C r4 K t' [] g2) ∧ tg t' 3 = .pointer (some ⟨b1, 0, some 0⟩) ∧ tg t' 4 = uv n ∧ tg t' 5 = .pointer (some ⟨b2, 0, some 0⟩) ∧ tg t' 6 = .pointer (some ⟨b3, 0, some 0⟩) := by
        refine ex_step (fun k => R_open lp4_0.eq_1) ?_
        simp [t132]
        exact ⟨_, fun _ => rfl, by simp [H2.t3], by simp [H2.t4], by simp [H2.t5], by simp [H2.t6]⟩
      obtain ⟨g', h⟩ := sound_end T TD TW hk hp hN g2 t3 b1 b2 b3 hs n root l0 l1 p0 p1 ps0 ps1 ⟨H2.a1, H2.a2, H2.a3, H2.d0, H2.d1, u3, u4, u5, u6, H2.wf⟩ hr h0 h1 hhs hn k0 k1 i0 i1
      exact ⟨g', (e1 _).trans ((e2 _).trans ((e3 _).trans h))⟩
end Go.Ab.Aud

namespace Go.Ab.Aud
open Go.Sha
/-- the cells of the statement's argument -/
def sArg (hs n size : Nat) (root l0 l1 : List UInt8) (p0 p1 rv : Value) (z : Int) (lucky : Bool) : List Value :=
  (uv hs :: bytesVals root) ++ ([uv n] ++ ((bytesVals l0 ++ bytesVals l1) ++ ([p0, p1] ++ [rv, uv size, zv z, .bool lucky])))
theorem sArg_len {hs n size : Nat} {root l0 l1 : List UInt8} {p0 p1 rv : Value} {z : Int} {lucky : Bool} (hr : root.length = 32) (h0 : l0.length = 32) (h1 : l1.length = 32) : (sArg hs n size root l0 l1 p0 p1 rv z lucky).length = 104 := by
  simp [sArg, hr, h0, h1]
section
variable {hs n size : Nat} {root l0 l1 : List UInt8} {p0 p1 rv : Value} {z : Int} {lucky : Bool} (hr : root.length = 32) (h0 : l0.length = 32) (h1 : l1.length = 32)
include hr h0 h1
theorem sArg_h : rdN (some (.cells (sArg hs n size root l0 l1 p0 p1 rv z lucky) 51)) 0 0 33 = some (uv hs :: bytesVals root) := by
  rw [rdN_cells (by rw [sArg_len hr h0 h1]; omega)]
  exact congrArg some (part_at (a := []) (b := uv hs :: bytesVals root) rfl (by simp [hr]))
theorem sArg_n : rd1 (some (.cells (sArg hs n size root l0 l1 p0 p1 rv z lucky) 51)) 33 0 = some (uv n) := by
  show (sArg hs n size root l0 l1 p0 p1 rv z lucky)[33]? = _
  exact get_at (a := uv hs :: bytesVals root) (by simp [hr])
theorem sArg_l : rdN (some (.cells (sArg hs n size root l0 l1 p0 p1 rv z lucky) 51)) 34 0 64 = some (bytesVals l0 ++ bytesVals l1) := by
  rw [rdN_cells (by rw [sArg_len hr h0 h1]; omega)]
  have : sArg hs n size root l0 l1 p0 p1 rv z lucky = ((uv hs :: bytesVals root) ++ [uv n]) ++ ((bytesVals l0 ++ bytesVals l1) ++ ([p0, p1] ++ [rv, uv size, zv z, .bool lucky])) := by simp [sArg]
  rw [this]
  exact congrArg some (part_at (by simp [hr]) (by simp [h0, h1]))
theorem sArg_e : sArg hs n size root l0 l1 p0 p1 rv z lucky = ((uv hs :: bytesVals root) ++ [uv n] ++ (bytesVals l0 ++ bytesVals l1)) ++ ([p0, p1] ++ [rv, uv size, zv z, .bool lucky]) := by
  have _ := hr; have _ := h0; have _ := h1
  simp [sArg]
theorem sArg_p : rdN (some (.cells (sArg hs n size root l0 l1 p0 p1 rv z lucky) 51)) 98 0 2 = some [p0, p1] := by
  rw [rdN_cells (by rw [sArg_len hr h0 h1]; omega), sArg_e hr h0 h1]
  exact congrArg some (part_at (by simp [hr, h0, h1]) rfl)
theorem sArg_r : rd1 (some (.cells (sArg hs n size root l0 l1 p0 p1 rv z lucky) 51)) 100 0 = some rv := by
  show (sArg hs n size root l0 l1 p0 p1 rv z lucky)[100]? = _
  have : sArg hs n size root l0 l1 p0 p1 rv z lucky = ((uv hs :: bytesVals root) ++ [uv n] ++ (bytesVals l0 ++ bytesVals l1) ++ [p0, p1]) ++ rv :: [uv size, zv z, .bool lucky] := by simp [sArg]
  rw [this]
  exact get_at (by simp [hr, h0, h1])
theorem sArg_s : rd1 (some (.cells (sArg hs n size root l0 l1 p0 p1 rv z lucky) 51)) 101 0 = some (uv size) := by
  show (sArg hs n size root l0 l1 p0 p1 rv z lucky)[101]? = _
  have : sArg hs n size root l0 l1 p0 p1 rv z lucky = ((uv hs :: bytesVals root) ++ [uv n] ++ (bytesVals l0 ++ bytesVals l1) ++ [p0, p1, rv]) ++ uv size :: [zv z, .bool lucky] := by simp [sArg]
  rw [this]
  exact get_at (by simp [hr, h0, h1])
theorem sArg_z : rd1 (some (.cells (sArg hs n size root l0 l1 p0 p1 rv z lucky) 51)) 102 0 = some (zv z) := by
  show (sArg hs n size root l0 l1 p0 p1 rv z lucky)[102]? = _
  have : sArg hs n size root l0 l1 p0 p1 rv z lucky = ((uv hs :: bytesVals root) ++ [uv n] ++ (bytesVals l0 ++ bytesVals l1) ++ [p0, p1, rv, uv size]) ++ zv z :: [.bool lucky] := by simp [sArg]
  rw [this]
  exact get_at (by simp [hr, h0, h1])
theorem sArg_y : rd1 (some (.cells (sArg hs n size root l0 l1 p0 p1 rv z lucky) 51)) 103 0 = some (.bool lucky) := by
  show (sArg hs n size root l0 l1 p0 p1 rv z lucky)[103]? = _
  have : sArg hs n size root l0 l1 p0 p1 rv z lucky = ((uv hs :: bytesVals root) ++ [uv n] ++ (bytesVals l0 ++ bytesVals l1) ++ [p0, p1, rv, uv size, zv z]) ++ .bool lucky :: [] := by simp [sArg]
  rw [this]
  exact get_at (by simp [hr, h0, h1])
theorem sArg_ok (o0 : okCell p0 = true) (o1 : okCell p1 = true) (o2 : okCell rv = true) : (sArg hs n size root l0 l1 p0 p1 rv z lucky).all okCell = true := by
  have _ := hr; have _ := h0; have _ := h1
  simp only [sArg, List.all_append, List.all_cons, List.all_nil, bytes_ok, o0, o1, o2]
  rfl
end
variable {C : Ctx} (T : Tab_LLog C) (TD : Tab_LDig C) (TW : Tab_LLaw C) (TS : Tab_LSound C) (hk : ∀ j, j < 64 → C.old 0 j = some (wv (kW j))) (hp : ∀ j, j < 16 → C.old 1 j = some (wv (crcW j)))
include T TD TW TS hk hp
set_option maxHeartbeats 4000000 in
theorem sound_plain (hN : ∀ h, D C 147 [str nmA] h = some (.bool true, h)) (h : AHeap) (hwf : h.lo ≤ h.bs.length) (hs n size : Nat) (root l0 l1 : List UInt8) (p0 p1 rv : Value) (z : Int) (ps0 ps1 : List (List UInt8)) (A0 : ArgDig C.old p0 ps0) (A1 : ArgDig C.old p1 ps1) (o2 : okCell rv = true)
    (hr : root.length = 32) (h0 : l0.length = 32) (h1 : l1.length = 32) (hhs : hs < 18446744073709551616) (hn : n < 18446744073709551616) :
    ∃ g', D C 4 [.agg ⟨sArg hs n size root l0 l1 p0 p1 rv z false⟩] h = some (.bool true, g') := by
  have o0 : okCell p0 = true := by obtain ⟨_, _, h, _⟩ := A0; rw [h]; rfl
  have o1 : okCell p1 = true := by obtain ⟨_, _, h, _⟩ := A1; rw [h]; rfl
  have hz : Value.int .u8 0 = bv 0 := rfl
  have q1 := sArg_h (hs := hs) (n := n) (size := size) (p0 := p0) (p1 := p1) (rv := rv) (z := z) (lucky := false) hr h0 h1
  have q2 := sArg_n (hs := hs) (n := n) (size := size) (p0 := p0) (p1 := p1) (rv := rv) (z := z) (lucky := false) hr h0 h1
  have q3 := sArg_l (hs := hs) (n := n) (size := size) (p0 := p0) (p1 := p1) (rv := rv) (z := z) (lucky := false) hr h0 h1
  have q4 := sArg_p (hs := hs) (n := n) (size := size) (p0 := p0) (p1 := p1) (rv := rv) (z := z) (lucky := false) hr h0 h1
  have q5 := sArg_y (hs := hs) (n := n) (size := size) (p0 := p0) (p1 := p1) (rv := rv) (z := z) (lucky := false) hr h0 h1
  have qok := sArg_ok (hs := hs) (n := n) (size := size) (z := z) (lucky := false) hr h0 h1 o0 o1 o2
  generalize sArg hs n size root l0 l1 p0 p1 rv z false = cells at q1 q2 q3 q4 q5 qok ⊢
  generalize hB : ABlock.cells cells 51 = B at q1 q2 q3 q4 q5
  generalize hZ1 : ABlock.cells (uv 0 :: List.replicate 32 (bv 0)) 36 = Z1
  generalize hZ2 : ABlock.cells (List.replicate 64 (bv 0)) 48 = Z2
  generalize hZ3 : ABlock.cells [.slice none 0 0, .slice none 0 0] 49 = Z3
  have hZ10 := hZ1
  have hZ20 := hZ2
  simp [List.replicate] at hZ1 hZ2
  have w1 : ∀ (g : AHeap) (b : Nat), wrN g b (some Z1) 0 0 (uv hs :: bytesVals root) = some (g.put b (.cells (uv hs :: bytesVals root) 36)) := by
    intro g b
    rw [← hZ10, wrN_cells (by simp [hr]) (by rw [List.all_cons, bytes_ok]; rfl)]
    congr 3
    simp [splice, hr]
  have w2 : ∀ (g : AHeap) (b : Nat), wrN g b (some Z2) 0 0 (bytesVals l0 ++ bytesVals l1) = some (g.put b (.cells (bytesVals l0 ++ bytesVals l1) 48)) := by
    intro g b
    rw [← hZ20, wrN_cells (by simp [h0, h1]) (by rw [List.all_append, bytes_ok, bytes_ok]; rfl)]
    congr 3
    simp [splice, h0, h1]
  have w3 : ∀ (g : AHeap) (b : Nat), wrN g b (some Z3) 0 0 [p0, p1] = some (g.put b (.cells [p0, p1] 49)) := by
    intro g b
    rw [← hZ3, wrN_cells (by simp) (by rw [List.all_cons, List.all_cons, o0, o1]; rfl)]
    rfl
  generalize ha : h.push B = a
  have fa : Fr h a (fun _ => False) := by rw [← ha]; exact Fr.push
  have aB : a.at h.bs.length = some B := by rw [← ha]; exact push_self
  have al : a.bs.length = h.bs.length + 1 := by rw [← ha]; simp
  have ao := fa.lo
  have s1 : (a.push Z1).at a.bs.length = some Z1 := push_self
  generalize hb : (a.push Z1).put a.bs.length (.cells (uv hs :: bytesVals root) 36) = b
  have fb : Fr a b (fun _ => False) := by rw [← hb]; exact Fr.push.put' (.inr (Nat.le_refl _))
  have bl : b.bs.length = a.bs.length + 1 := by rw [← hb]; simp
  have bo := fb.lo
  have b1 : b.at a.bs.length = some (.cells (uv hs :: bytesVals root) 36) := by rw [← hb]; exact put_self (by simp)
  have bB : b.at h.bs.length = some B := fb.get aB (fun h => h)
  have s2 : (b.push Z2).at b.bs.length = some Z2 := push_self
  generalize hc : (b.push Z2).put b.bs.length (.cells (bytesVals l0 ++ bytesVals l1) 48) = c
  have fc : Fr b c (fun _ => False) := by rw [← hc]; exact Fr.push.put' (.inr (Nat.le_refl _))
  have cl : c.bs.length = b.bs.length + 1 := by rw [← hc]; simp
  have co := fc.lo
  have c2 : c.at b.bs.length = some (.cells (bytesVals l0 ++ bytesVals l1) 48) := by rw [← hc]; exact put_self (by simp)
  have cB : c.at h.bs.length = some B := fc.get bB (fun h => h)
  have s3 : (c.push Z3).at c.bs.length = some Z3 := push_self
  generalize hd : (c.push Z3).put c.bs.length (.cells [p0, p1] 49) = d
  have fd : Fr c d (fun _ => False) := by rw [← hd]; exact Fr.push.put' (.inr (Nat.le_refl _))
  have dl : d.bs.length = c.bs.length + 1 := by rw [← hd]; simp
  have dd := fd.lo
  have d3 : d.at c.bs.length = some (.cells [p0, p1] 49) := by rw [← hd]; exact put_self (by simp)
  have dB : d.at h.bs.length = some B := fd.get cB (fun h => h)
  have k1 : h.lo ≤ a.bs.length := by omega
  have k2 : h.lo ≤ b.bs.length := by omega
  have k3 : h.lo ≤ c.bs.length := by omega
  have cs : cellsOf (.agg ⟨cells⟩) = cells := rfl
  obtain ⟨t, e, t3, t4, t5, t6, t13⟩ : ∃ t, R C r4 [.code b4] [.agg ⟨cells⟩] [] h = R C r4 [.inLoop lp4_0, .inBlock 0, .code k4_0] t [] d ∧ tg t 3 = .pointer (some ⟨a.bs.length, 0, some 0⟩) ∧ tg t 4 = uv n ∧ tg t 5 = .pointer (some ⟨b.bs.length, 0, some 0⟩) ∧ tg t 6 = .pointer (some ⟨c.bs.length, 0, some 0⟩) ∧ tg t 13 = iv 0 := by
    simp [-List.all_eq_true, b4, qok, hB, ha, aB, q1, q2, q3, q4, q5, hz, hZ1, hZ2, hZ3, bytes_ok, hr, h0, h1, writeN_wr, ao, k1, s1, w1, hb, bB, bo, k2, s2, w2, hc, cB, co, k3, s3, w3, hd, dB, o0, o1]
    exact ⟨_, rfl, by simp, by simp, by simp, by simp, by simp⟩
  rw [D_fn TS.h4, e]
  exact sound_rest T TD TW hk hp hN d t a.bs.length b.bs.length c.bs.length hs n root l0 l1 p0 p1 ps0 ps1 ⟨fd.get (fc.get b1 (fun h => h)) (fun h => h), fd.get c2 (fun h => h), d3, A0.digV d, A1.digV d, t3, t4, t5, t6, by omega⟩ t13 hr h0 h1 hhs hn
end Go.Ab.Aud

namespace Go.Ab.Aud
open Go.Sha
variable {C : Ctx} (T : Tab_LLog C) (TD : Tab_LDig C) (TW : Tab_LLaw C) (TS : Tab_LSound C) (hk : ∀ j, j < 64 → C.old 0 j = some (wv (kW j))) (hp : ∀ j, j < 16 → C.old 1 j = some (wv (crcW j)))
include T TD TW TS hk hp
set_option maxHeartbeats 8000000 in
theorem sound_lucky (hN : ∀ h, D C 147 [str nmA] h = some (.bool true, h)) (hNu : ∀ h, D C 147 [str nmAudit] h = some (.bool true, h)) (h : AHeap) (hwf : h.lo ≤ h.bs.length) (hs n size : Nat) (root l0 l1 : List UInt8) (p0 p1 rv : Value) (z : Int) (ps0 ps1 : List (List UInt8)) (rows : List (List UInt8)) (A0 : ArgDig C.old p0 ps0) (A1 : ArgDig C.old p1 ps1) (AR : ArgR C.old rv rows) (hrl : rows.length < 2 ^ 63)
    (hr : root.length = 32) (h0 : l0.length = 32) (h1 : l1.length = 32) (hhs : hs < 18446744073709551616) (hn : n < 18446744073709551616) :
    ∃ g', D C 4 [.agg ⟨sArg hs n size root l0 l1 p0 p1 rv z true⟩] h = some (.bool true, g') := by
  have o2 : okCell rv = true := by obtain ⟨_, _, _, h, _⟩ := AR; rw [h]; rfl
  have ur : isUnd rv = false := by obtain ⟨_, _, _, h, _⟩ := AR; rw [h]; rfl
  have ew := wakes_spec T TD TW hk hp
  have o0 : okCell p0 = true := by obtain ⟨_, _, h, _⟩ := A0; rw [h]; rfl
  have o1 : okCell p1 = true := by obtain ⟨_, _, h, _⟩ := A1; rw [h]; rfl
  have hz : Value.int .u8 0 = bv 0 := rfl
  have q1 := sArg_h (hs := hs) (n := n) (size := size) (p0 := p0) (p1 := p1) (rv := rv) (z := z) (lucky := true) hr h0 h1
  have q2 := sArg_n (hs := hs) (n := n) (size := size) (p0 := p0) (p1 := p1) (rv := rv) (z := z) (lucky := true) hr h0 h1
  have q3 := sArg_l (hs := hs) (n := n) (size := size) (p0 := p0) (p1 := p1) (rv := rv) (z := z) (lucky := true) hr h0 h1
  have q4 := sArg_p (hs := hs) (n := n) (size := size) (p0 := p0) (p1 := p1) (rv := rv) (z := z) (lucky := true) hr h0 h1
  have q5 := sArg_y (hs := hs) (n := n) (size := size) (p0 := p0) (p1 := p1) (rv := rv) (z := z) (lucky := true) hr h0 h1
  have q6 := sArg_r (hs := hs) (n := n) (size := size) (p0 := p0) (p1 := p1) (rv := rv) (z := z) (lucky := true) hr h0 h1
  have q7 := sArg_s (hs := hs) (n := n) (size := size) (p0 := p0) (p1 := p1) (rv := rv) (z := z) (lucky := true) hr h0 h1
  have q8 := sArg_z (hs := hs) (n := n) (size := size) (p0 := p0) (p1 := p1) (rv := rv) (z := z) (lucky := true) hr h0 h1
  have qok := sArg_ok (hs := hs) (n := n) (size := size) (z := z) (lucky := true) hr h0 h1 o0 o1 o2
  generalize sArg hs n size root l0 l1 p0 p1 rv z true = cells at q1 q2 q3 q4 q5 q6 q7 q8 qok ⊢
  generalize hB : ABlock.cells cells 51 = B at q1 q2 q3 q4 q5 q6 q7 q8
  generalize hZ1 : ABlock.cells (uv 0 :: List.replicate 32 (bv 0)) 36 = Z1
  generalize hZ2 : ABlock.cells (List.replicate 64 (bv 0)) 48 = Z2
  generalize hZ3 : ABlock.cells [.slice none 0 0, .slice none 0 0] 49 = Z3
  have hZ10 := hZ1
  have hZ20 := hZ2
  simp [List.replicate] at hZ1 hZ2
  have w1 : ∀ (g : AHeap) (b : Nat), wrN g b (some Z1) 0 0 (uv hs :: bytesVals root) = some (g.put b (.cells (uv hs :: bytesVals root) 36)) := by
    intro g b
    rw [← hZ10, wrN_cells (by simp [hr]) (by rw [List.all_cons, bytes_ok]; rfl)]
    congr 3
    simp [splice, hr]
  have w2 : ∀ (g : AHeap) (b : Nat), wrN g b (some Z2) 0 0 (bytesVals l0 ++ bytesVals l1) = some (g.put b (.cells (bytesVals l0 ++ bytesVals l1) 48)) := by
    intro g b
    rw [← hZ20, wrN_cells (by simp [h0, h1]) (by rw [List.all_append, bytes_ok, bytes_ok]; rfl)]
    congr 3
    simp [splice, h0, h1]
  have w3 : ∀ (g : AHeap) (b : Nat), wrN g b (some Z3) 0 0 [p0, p1] = some (g.put b (.cells [p0, p1] 49)) := by
    intro g b
    rw [← hZ3, wrN_cells (by simp) (by rw [List.all_cons, List.all_cons, o0, o1]; rfl)]
    rfl
  generalize ha : h.push B = a
  have fa : Fr h a (fun _ => False) := by rw [← ha]; exact Fr.push
  have aB : a.at h.bs.length = some B := by rw [← ha]; exact push_self
  have al : a.bs.length = h.bs.length + 1 := by rw [← ha]; simp
  have ao := fa.lo
  have s1 : (a.push Z1).at a.bs.length = some Z1 := push_self
  generalize hb : (a.push Z1).put a.bs.length (.cells (uv hs :: bytesVals root) 36) = b
  have fb : Fr a b (fun _ => False) := by rw [← hb]; exact Fr.push.put' (.inr (Nat.le_refl _))
  have bl : b.bs.length = a.bs.length + 1 := by rw [← hb]; simp
  have bo := fb.lo
  have b1 : b.at a.bs.length = some (.cells (uv hs :: bytesVals root) 36) := by rw [← hb]; exact put_self (by simp)
  have bB : b.at h.bs.length = some B := fb.get aB (fun h => h)
  have s2 : (b.push Z2).at b.bs.length = some Z2 := push_self
  generalize hc : (b.push Z2).put b.bs.length (.cells (bytesVals l0 ++ bytesVals l1) 48) = c
  have fc : Fr b c (fun _ => False) := by rw [← hc]; exact Fr.push.put' (.inr (Nat.le_refl _))
  have cl : c.bs.length = b.bs.length + 1 := by rw [← hc]; simp
  have co := fc.lo
  have c2 : c.at b.bs.length = some (.cells (bytesVals l0 ++ bytesVals l1) 48) := by rw [← hc]; exact put_self (by simp)
  have cB : c.at h.bs.length = some B := fc.get bB (fun h => h)
  have s3 : (c.push Z3).at c.bs.length = some Z3 := push_self
  generalize hd : (c.push Z3).put c.bs.length (.cells [p0, p1] 49) = d
  have fd : Fr c d (fun _ => False) := by rw [← hd]; exact Fr.push.put' (.inr (Nat.le_refl _))
  have dl : d.bs.length = c.bs.length + 1 := by rw [← hd]; simp
  have dd := fd.lo
  have d3 : d.at c.bs.length = some (.cells [p0, p1] 49) := by rw [← hd]; exact put_self (by simp)
  have dB : d.at h.bs.length = some B := fd.get cB (fun h => h)
  have k1 : h.lo ≤ a.bs.length := by omega
  have k2 : h.lo ≤ b.bs.length := by omega
  have k3 : h.lo ≤ c.bs.length := by omega
  have cs : cellsOf (.agg ⟨cells⟩) = cells := rfl

  obtain ⟨e, p, dd', O, wr, ct, vo, e1, L, RO, fe, hO, hvo⟩ := laid_spec T TD TW hk hp d rv rows AR 40 (by omega) hrl (by omega) hNu
  have rl := laidF_len 40 200000 rows
  have rlong := laidF_long 40 200000 rows
  generalize laidF 40 200000 rows = rw' at L RO rl rlong
  have el := fe.len
  have eo := fe.lo
  have uvo : isUnd vo = false := by obtain ⟨_, o, _⟩ := RO; exact o.und
  have lvo : lenV vo = some (iv rw'.length) := by obtain ⟨_, o, _⟩ := RO; exact o.lenV
  rw [D_fn TS.h4]
  by_cases hlen : rw'.length = 0
  · refine ⟨e, ?_⟩
    rw [hlen] at lvo
    simp [-List.all_eq_true, b4, qok, hB, ha, aB, q1, q2, q3, q4, q5, q6, hz, hZ1, hZ2, hZ3, bytes_ok, hr, h0, h1, writeN_wr, ao, k1, s1, w1, hb, bB, bo, k2, s2, w2, hc, cB, co, k3, s3, w3, hd, dB, o0, o1, stp_ok ur, ur, Dc_ok, e1, stp_ok uvo, uvo, aeq_nilPs, lvo, Dc0, ew _ hN, r4]
  · obtain ⟨S, hS⟩ : ∃ S, S = 1 + size % rw'.length := ⟨_, rfl⟩
    have hmod := Nat.mod_lt size (show 0 < rw'.length by omega)
    have S1 : 1 ≤ S := by omega
    have S2 : S ≤ rw'.length := by omega
    have lvl : (rw'.map lh).length = rw'.length := by simp
    obtain ⟨f, ef, ff⟩ := head_spec T TD hk e O p dd' 16777216 wr nmAudit ct (rw'.map lh) L S (by omega) (by omega) (by omega)
    have rtl : (rootL ((rw'.map lh).take S)).length = 32 := rootL_length _ (fun x hx => by
      obtain ⟨y, _, hy⟩ := List.mem_map.1 (List.mem_of_mem_take hx)
      rw [← hy]; exact sha_length _)
    generalize rootL ((rw'.map lh).take S) = rt at ef rtl
    have fl := ff.len
    have fo := ff.lo
    have w1r : ∀ (g : AHeap) (b : Nat), wrN g b (some Z1) 0 0 (uv S :: bytesVals rt) = some (g.put b (.cells (uv S :: bytesVals rt) 36)) := by
      intro g b
      rw [← hZ10, wrN_cells (by simp [rtl]) (by rw [List.all_cons, bytes_ok]; rfl)]
      congr 3
      simp [splice, rtl]
    have w1s : ∀ (g : AHeap) (b : Nat), wrN g b (some (.cells (uv hs :: bytesVals root) 36)) 0 0 (uv S :: bytesVals rt) = some (g.put b (.cells (uv S :: bytesVals rt) 36)) := by
      intro g b
      rw [wrN_cells (by simp [rtl, hr]) (by rw [List.all_cons, bytes_ok]; rfl)]
      congr 3
      simp [splice, rtl, hr]
    have rS : rdN (some (.cells (uv S :: bytesVals rt) 36)) 0 0 33 = some (uv S :: bytesVals rt) := by
      rw [rdN_cells (by simp [rtl]), List.drop_zero, List.take_of_length_le (by simp [rtl])]
    have rS1 : rd1 (some (.cells (uv S :: bytesVals rt) 36)) 0 0 = some (uv S) := rfl
    have s4 : (f.push Z1).at f.bs.length = some Z1 := push_self
    generalize hf2 : (f.push Z1).put f.bs.length (.cells (uv S :: bytesVals rt) 36) = f2
    have ff2 : Fr f f2 (fun _ => False) := by rw [← hf2]; exact Fr.push.put' (.inr (Nat.le_refl _))
    have f2l : f2.bs.length = f.bs.length + 1 := by rw [← hf2]; simp
    have f2o := ff2.lo
    have f29 : f2.at f.bs.length = some (.cells (uv S :: bytesVals rt) 36) := by rw [← hf2]; exact put_self (by simp)
    have Fd2 : Fr d f2 (fun _ => False) := (fe.trans ff (S'' := fun _ => False) (fun _ h => h) (fun _ h _ => h)).trans ff2 (fun _ h => h) (fun _ h _ => h)
    have d1 : d.at a.bs.length = some (.cells (uv hs :: bytesVals root) 36) := fd.get (fc.get b1 (fun h => h)) (fun h => h)
    have d2 : d.at b.bs.length = some (.cells (bytesVals l0 ++ bytesVals l1) 48) := fd.get c2 (fun h => h)
    have f21 : f2.at a.bs.length = some (.cells (uv hs :: bytesVals root) 36) := Fd2.get d1 (fun h => h)
    generalize hf3 : f2.put a.bs.length (.cells (uv S :: bytesVals rt) 36) = f3
    have ff3 : Fr f2 f3 (fun j => j = a.bs.length) := by rw [← hf3]; exact Fr.put rfl
    have f3l : f3.bs.length = f2.bs.length := by rw [← hf3]; simp
    have f3o := ff3.lo
    have f31 : f3.at a.bs.length = some (.cells (uv S :: bytesVals rt) 36) := by rw [← hf3]; exact put_self (by omega)
    have Fe3 : Fr e f3 (fun j => j = a.bs.length) := (ff.trans ff2 (S'' := fun j => j = a.bs.length) (fun _ h => h.elim) (fun _ h _ => h.elim)).trans ff3 (fun _ h => h) (fun _ h _ => h)
    have L3 := L.fr Fe3 (fun j hj hc => by have := hO j hj; omega)
    have hn' := Nat.mod_lt n (show 0 < S by omega)
    obtain ⟨g, vp, eg, PD, fg, bp⟩ := prove_spec T TD hk f3 O p dd' 16777216 wr nmAudit ct (rw'.map lh) L3 (n % S) S hn' (by omega) (by omega) (by omega)
    generalize hpth : pathF S ((rw'.map lh).take S) (n % S) = pth at PD
    have pl : pth.length ≤ S := by rw [← hpth]; exact pathF_len S _ _
    have gl := fg.len
    have go := fg.lo
    have uvp : isUnd vp = false := PD.1.und
    have RO3 := (RO.fr Fe3 (fun j hj hc => by have := hvo j hj; omega)).fr fg (fun _ _ h => h)
    obtain ⟨ra, a3, cp3, hv3, r3, sr⟩ := RO3.get (i := n % S) (by omega)
    have rle : (rw'.getD (n % S) []).length ≤ 16384 := by
      rw [List.getD_eq_getElem?_getD, List.getElem?_eq_getElem (by omega)]
      exact rlong _ (List.getElem_mem _)
    generalize rw'.getD (n % S) [] = row at r3 sr rle
    obtain ⟨g1, vc, ec, oc, fg1, bc⟩ := copy_spec TW g row a3 row.length cp3 (sr g) (by omega) (by omega)
    obtain ⟨ac, cpc, hvc⟩ := oc.slice
    have sc := oc.sl (old := C.old) (by omega)
    rw [hvc] at sc ec
    have elf := leaf_spec TD hk g1 row ac row.length cpc sc (by omega)
    have lfl := sha_length (0 :: row)
    generalize sha (0 :: row) = lf at elf lfl
    have g1l := fg1.len
    have g1o := fg1.lo
    have wl0 : ∀ (g : AHeap) (b : Nat), wrN g b (some (.cells (bytesVals l0 ++ bytesVals l1) 48)) 0 0 (bytesVals lf) = some (g.put b (.cells (bytesVals lf ++ bytesVals l1) 48)) := by
      intro g b
      rw [wrN_cells (by simp [h0, h1, lfl]) bytes_ok]
      congr 3
      simp [splice, h0, lfl]
    have wl1 : ∀ (g : AHeap) (b : Nat), wrN g b (some (.cells (bytesVals lf ++ bytesVals l1) 48)) 32 0 (bytesVals lf) = some (g.put b (.cells (bytesVals lf ++ bytesVals lf) 48)) := by
      intro g b
      rw [wrN_cells (by simp [h1, lfl]) bytes_ok]
      congr 3
      simp [splice, h1, lfl]
    have rlf : rdN (some (.cells (bytesVals lf ++ bytesVals l1) 48)) 0 0 32 = some (bytesVals lf) := by
      rw [rdN_cells (by simp [h1, lfl])]
      simp [lfl]
    have Fd1 : Fr d g1 (fun j => j = a.bs.length) := ((fe.trans Fe3 (S'' := fun j => j = a.bs.length) (fun _ h => h.elim) (fun _ h _ => h)).trans fg (S'' := fun j => j = a.bs.length) (fun _ h => h) (fun _ h _ => h.elim)).trans fg1 (fun _ h => h) (fun _ h _ => h.elim)
    have eB : e.at h.bs.length = some B := fe.get dB (fun h => h)
    have g12 : g1.at b.bs.length = some (.cells (bytesVals l0 ++ bytesVals l1) 48) := Fd1.get d2 (by omega)
    have g13 : g1.at c.bs.length = some (.cells [p0, p1] 49) := Fd1.get d3 (by omega)
    have g1B : g1.at h.bs.length = some B := Fd1.get dB (by omega)
    have g11 : g1.at a.bs.length = some (.cells (uv S :: bytesVals rt) 36) := fg1.get (fg.get f31 (fun h => h)) (fun h => h)
    generalize hg2 : g1.put b.bs.length (.cells (bytesVals lf ++ bytesVals l1) 48) = g2
    have fg2 : Fr g1 g2 (fun j => j = b.bs.length) := by rw [← hg2]; exact Fr.put rfl
    have g2l : g2.bs.length = g1.bs.length := by rw [← hg2]; simp
    have g2o := fg2.lo
    have g22 : g2.at b.bs.length = some (.cells (bytesVals lf ++ bytesVals l1) 48) := by rw [← hg2]; exact put_self (by omega)
    have g23 : g2.at c.bs.length = some (.cells [p0, p1] 49) := fg2.get g13 (by omega)
    have ovp : okCell vp = true := PD.1.okc
    have wp0 : ∀ (g : AHeap) (b : Nat), wr1 g b (some (.cells [p0, p1] 49)) 0 0 vp = some (g.put b (.cells [vp, p1] 49)) := by
      intro g b
      rw [wr1_cells (by simp) ovp]; rfl
    generalize hg3 : g2.put c.bs.length (.cells [vp, p1] 49) = g3
    have fg3 : Fr g2 g3 (fun j => j = c.bs.length) := by rw [← hg3]; exact Fr.put rfl
    have g3l : g3.bs.length = g2.bs.length := by rw [← hg3]; simp
    have g3o := fg3.lo
    have g33 : g3.at c.bs.length = some (.cells [vp, p1] 49) := by rw [← hg3]; exact put_self (by omega)
    have g32 : g3.at b.bs.length = some (.cells (bytesVals lf ++ bytesVals l1) 48) := fg3.get g22 (by omega)
    have g31 : g3.at a.bs.length = some (.cells (uv S :: bytesVals rt) 36) := fg3.get (fg2.get g11 (by omega)) (by omega)
    have g3B : g3.at h.bs.length = some B := fg3.get (fg2.get g1B (by omega)) (by omega)
    have PD3 : DigO g3 vp pth := ((PD.fr fg1 (fun _ _ h => h)).fr fg2 (fun j hj hc => by have := bp j hj; omega)).fr fg3 (fun j hj hc => by have := bp j hj; omega)
    have PV3 : DigV C.old g3 vp pth := by
      obtain ⟨x, y, h1, h2⟩ := PD3.digR (old := C.old)
      exact ⟨x, y, h1, h2⟩
    obtain ⟨r, hr3⟩ := zv_rem3 z
    have m1 : h.lo ≤ f.bs.length := by omega
    have m2 : h.lo ≤ a.bs.length := by omega
    have m3 : h.lo ≤ b.bs.length := by omega
    have m4 : h.lo ≤ c.bs.length := by omega
    have lo_f : f.lo = h.lo := by omega
    have lo_f2 : f2.lo = h.lo := by omega
    have lo_g1 : g1.lo = h.lo := by omega
    have lo_g2 : g2.lo = h.lo := by omega
    have lo_g3 : g3.lo = h.lo := by omega
    have hSs : S < 18446744073709551616 := by omega
    have sm : size < 18446744073709551616 → True := fun _ => trivial
    have eS : abin .add (uv 1) (uv (size % rw'.length)) = some (uv S) := by rw [uv_add (by omega), hS]
    rw [hv3] at uvo lvo e1
    by_cases c0 : r = 0
    · obtain ⟨vq, g4, eq4, o4, f4, b4'⟩ := dig_copy PV3 (by omega) (by omega)
      have og4 := f4.lo
      have lg4 := f4.len
      have ovq : okCell vq = true := o4.1.okc
      have uvq : isUnd vq = false := o4.1.und
      have h43 : g4.at c.bs.length = some (.cells [vp, p1] 49) := f4.get g33 (fun h => h)
      have wp1 : ∀ (g : AHeap) (b : Nat), wr1 g b (some (.cells [vp, p1] 49)) 1 0 vq = some (g.put b (.cells [vp, vq] 49)) := by
        intro g b
        rw [wr1_cells (by simp) ovq]; rfl
      generalize hg5 : g4.put c.bs.length (.cells [vp, vq] 49) = g5
      have f5 : Fr g4 g5 (fun j => j = c.bs.length) := by rw [← hg5]; exact Fr.put rfl
      have g5l : g5.bs.length = g4.bs.length := by rw [← hg5]; simp
      have g5o := f5.lo
      have g53 : g5.at c.bs.length = some (.cells [vp, vq] 49) := by rw [← hg5]; exact put_self (by omega)
      have g52 : g5.at b.bs.length = some (.cells (bytesVals lf ++ bytesVals l1) 48) := f5.get (f4.get g32 (fun h => h)) (by omega)
      have g51 : g5.at a.bs.length = some (.cells (uv S :: bytesVals rt) 36) := f5.get (f4.get g31 (fun h => h)) (by omega)
      have g5B : g5.at h.bs.length = some B := f5.get (f4.get g3B (fun h => h)) (by omega)
      have P5 : DigV C.old g5 vp pth := by
        obtain ⟨x, y, h1, h2⟩ := ((PD3.fr f4 (fun _ _ h => h)).fr f5 (fun j hj hc => by have := bp j hj; omega)).digR (old := C.old)
        exact ⟨x, y, h1, h2⟩
      have P5' : DigV C.old g5 vq pth := by
        obtain ⟨x, y, h1, h2⟩ := (o4.fr f5 (fun j hj hc => by have := b4' j hj; omega)).digR (old := C.old)
        exact ⟨x, y, h1, h2⟩
      have lo_g4 : g4.lo = h.lo := by omega
      obtain ⟨t, et, t3, t4, t5, t6, t13⟩ : ∃ t, R C r4 [.code b4] [.agg ⟨cells⟩] [] h = R C r4 [.inLoop lp4_0, .inBlock 0, .code k4_0] t [] g5 ∧ tg t 3 = .pointer (some ⟨a.bs.length, 0, some 0⟩) ∧ tg t 4 = uv (n % S) ∧ tg t 5 = .pointer (some ⟨b.bs.length, 0, some 0⟩) ∧ tg t 6 = .pointer (some ⟨c.bs.length, 0, some 0⟩) ∧ tg t 13 = iv 0 := by
        simp [-List.all_eq_true, b4, qok, hB, ha, aB, q1, q2, q3, q4, q5, q6, q7, q8, hz, hZ1, hZ2, hZ3, bytes_ok, hr, h0, h1, writeN_wr, ao, k1, s1, w1, hb, bB, bo, k2, s2, w2, hc, cB, co, k3, s3, w3, hd, dB, o0, o1, stp_ok ur, ur, Dc_ok, e1, stp_ok uvo, uvo, aeq_nilPs, lvo, eq_false hlen, num_spec TW,
            eB, cvt_iu (show rw'.length < 18446744073709551616 by omega), uv_rem (a := size) (b := rw'.length) (by omega), eS, ef, fo, eo, m1, s4, w1r, hf2, f29, rS, f21, m2, w1s, hf3, f31, rS1, uv_rem (a := n) (b := S) (by omega), eg, stp_ok uvp, uvp, ixS_uv (show n % S < rw'.length by omega), r3, ec, elf, ixA_iv, lo_f, lo_f2, lo_g1, m3, g12, wl0, lfl, hg2, lo_g2, m4, g23, wp0, hg3, g3B, dd, co, bo, rtl, f2o, f3o, go, g1o, g2o, write1_wr, zv_eql, hr3, stp_ok zv_und, eq_true c0, eq_false (show ¬ r = 1 by omega), fillCells, eq4, stp_ok uvq, uvq, lo_g4, og4, h43, wp1, hg5, g5B, lo_g3, g3o]
        exact ⟨_, rfl, by simp, by simp, by simp, by simp, by simp⟩
      rw [et]
      exact sound_rest T TD TW hk hp hN g5 t a.bs.length b.bs.length c.bs.length S (n % S) rt lf l1 vp vq pth pth ⟨g51, g52, g53, P5, P5', t3, t4, t5, t6, by omega⟩ t13 rtl lfl h1 hSs (by omega)
    · by_cases c1 : r = 1
      · generalize hg4 : g3.put b.bs.length (.cells (bytesVals lf ++ bytesVals lf) 48) = g4
        have f4 : Fr g3 g4 (fun j => j = b.bs.length) := by rw [← hg4]; exact Fr.put rfl
        have g4l : g4.bs.length = g3.bs.length := by rw [← hg4]; simp
        have g4o := f4.lo
        have g42 : g4.at b.bs.length = some (.cells (bytesVals lf ++ bytesVals lf) 48) := by rw [← hg4]; exact put_self (by omega)
        have g43 : g4.at c.bs.length = some (.cells [vp, p1] 49) := f4.get g33 (by omega)
        have g41 : g4.at a.bs.length = some (.cells (uv S :: bytesVals rt) 36) := f4.get g31 (by omega)
        have P4 : DigV C.old g4 vp pth := by
          obtain ⟨x, y, h1, h2⟩ := (PD3.fr f4 (fun j hj hc => by have := bp j hj; omega)).digR (old := C.old)
          exact ⟨x, y, h1, h2⟩
        obtain ⟨t, et, t3, t4, t5, t6, t13⟩ : ∃ t, R C r4 [.code b4] [.agg ⟨cells⟩] [] h = R C r4 [.inLoop lp4_0, .inBlock 0, .code k4_0] t [] g4 ∧ tg t 3 = .pointer (some ⟨a.bs.length, 0, some 0⟩) ∧ tg t 4 = uv (n % S) ∧ tg t 5 = .pointer (some ⟨b.bs.length, 0, some 0⟩) ∧ tg t 6 = .pointer (some ⟨c.bs.length, 0, some 0⟩) ∧ tg t 13 = iv 0 := by
          simp [-List.all_eq_true, b4, qok, hB, ha, aB, q1, q2, q3, q4, q5, q6, q7, q8, hz, hZ1, hZ2, hZ3, bytes_ok, hr, h0, h1, writeN_wr, ao, k1, s1, w1, hb, bB, bo, k2, s2, w2, hc, cB, co, k3, s3, w3, hd, dB, o0, o1, stp_ok ur, ur, Dc_ok, e1, stp_ok uvo, uvo, aeq_nilPs, lvo, eq_false hlen, num_spec TW,
            eB, cvt_iu (show rw'.length < 18446744073709551616 by omega), uv_rem (a := size) (b := rw'.length) (by omega), eS, ef, fo, eo, m1, s4, w1r, hf2, f29, rS, f21, m2, w1s, hf3, f31, rS1, uv_rem (a := n) (b := S) (by omega), eg, stp_ok uvp, uvp, ixS_uv (show n % S < rw'.length by omega), r3, ec, elf, ixA_iv, lo_f, lo_f2, lo_g1, m3, g12, wl0, lfl, hg2, lo_g2, m4, g23, wp0, hg3, g3B, dd, co, bo, rtl, f2o, f3o, go, g1o, g2o, write1_wr, zv_eql, hr3, stp_ok zv_und, eq_false c0, eq_true c1, g32, rlf, wl1, hg4, lo_g3, g3o]
          exact ⟨_, rfl, by simp, by simp, by simp, by simp, by simp⟩
        rw [et]
        exact sound_rest T TD TW hk hp hN g4 t a.bs.length b.bs.length c.bs.length S (n % S) rt lf lf vp p1 pth ps1 ⟨g41, g42, g43, P4, A1.digV g4, t3, t4, t5, t6, by omega⟩ t13 rtl lfl lfl hSs (by omega)
      · obtain ⟨t, et, t3, t4, t5, t6, t13⟩ : ∃ t, R C r4 [.code b4] [.agg ⟨cells⟩] [] h = R C r4 [.inLoop lp4_0, .inBlock 0, .code k4_0] t [] g3 ∧ tg t 3 = .pointer (some ⟨a.bs.length, 0, some 0⟩) ∧ tg t 4 = uv (n % S) ∧ tg t 5 = .pointer (some ⟨b.bs.length, 0, some 0⟩) ∧ tg t 6 = .pointer (some ⟨c.bs.length, 0, some 0⟩) ∧ tg t 13 = iv 0 := by
          simp [-List.all_eq_true, b4, qok, hB, ha, aB, q1, q2, q3, q4, q5, q6, q7, q8, hz, hZ1, hZ2, hZ3, bytes_ok, hr, h0, h1, writeN_wr, ao, k1, s1, w1, hb, bB, bo, k2, s2, w2, hc, cB, co, k3, s3, w3, hd, dB, o0, o1, stp_ok ur, ur, Dc_ok, e1, stp_ok uvo, uvo, aeq_nilPs, lvo, eq_false hlen, num_spec TW,
            eB, cvt_iu (show rw'.length < 18446744073709551616 by omega), uv_rem (a := size) (b := rw'.length) (by omega), eS, ef, fo, eo, m1, s4, w1r, hf2, f29, rS, f21, m2, w1s, hf3, f31, rS1, uv_rem (a := n) (b := S) (by omega), eg, stp_ok uvp, uvp, ixS_uv (show n % S < rw'.length by omega), r3, ec, elf, ixA_iv, lo_f, lo_f2, lo_g1, m3, g12, wl0, lfl, hg2, lo_g2, m4, g23, wp0, hg3, g3B, dd, co, bo, rtl, f2o, f3o, go, g1o, g2o, write1_wr, zv_eql, hr3, stp_ok zv_und, eq_false c0, eq_false c1]
          exact ⟨_, rfl, by simp, by simp, by simp, by simp, by simp⟩
        rw [et]
        exact sound_rest T TD TW hk hp hN g3 t a.bs.length b.bs.length c.bs.length S (n % S) rt lf l1 vp p1 pth ps1 ⟨g31, g32, g33, PV3, A1.digV g3, t3, t4, t5, t6, by omega⟩ t13 rtl lfl h1 hSs (by omega)
end Go.Ab.Aud

namespace Go.Proofs.YtecbgdnoblhldaaGreatDoor.au
open Go Go.Ab Go.Ab.Aud Go.Sha
section
variable {H : Type} {enc : TypeId × Value → H} {W : World} {spare : Nat → Bool} {held : Bool}
theorem sound_arg {fuel : Nat} {cs : List Value} {x : DataW H × List MemPlace} (hsp : ∀ b, spare b = true) (h : DataW.trod enc Tryz.prog W 0 spare held fuel 50 cs = some x) :
    ∃ hs n size root l0 l1 p0 p1 rv z lucky ps0 ps1 rows, OldCells cs (sArg hs n size root l0 l1 p0 p1 rv z lucky) ∧ root.length = 32 ∧ l0.length = 32 ∧ l1.length = 32 ∧ hs < 18446744073709551616 ∧ n < 18446744073709551616 ∧
      ArgDig (oldOf W) p0 ps0 ∧ ArgDig (oldOf W) p1 ps1 ∧ ArgR (oldOf W) rv rows ∧ rows.length < 2 ^ 63 := by
  obtain ⟨xs, m, _, _, hl, hxl, hx⟩ := DataW.trod_struct Tryz.underlying50 h
  rw [cells50] at hl
  have hxl : xs.length = 8 := hxl
  have h0 := hx 0 _ rfl
  have h1 := hx 1 _ rfl
  have h2 := hx 2 _ rfl
  have h3 := hx 3 _ rfl
  have h4 := hx 4 _ rfl
  have h5 := hx 5 _ rfl
  have h6 := hx 6 _ rfl
  have h7 := hx 7 _ rfl
  rw [List.getElem?_eq_getElem (by omega)] at h0 h1 h2 h3 h4 h5 h6 h7
  replace h0 : DataW.trod enc Tryz.prog W 0 spare held m 35 ((cs.drop 0).take (Tryz.prog.cellsOf 35)) = _ := h0
  rw [cells35] at h0
  replace h1 : DataW.trod enc Tryz.prog W 0 spare held m 29 ((cs.drop 33).take (Tryz.prog.cellsOf 29)) = _ := h1
  rw [cells29] at h1
  replace h2 : DataW.trod enc Tryz.prog W 0 spare held m 47 ((cs.drop 34).take (Tryz.prog.cellsOf 47)) = _ := h2
  rw [cells47] at h2
  replace h3 : DataW.trod enc Tryz.prog W 0 spare held m 48 ((cs.drop 98).take (Tryz.prog.cellsOf 48)) = _ := h3
  rw [cells48] at h3
  replace h4 : DataW.trod enc Tryz.prog W 0 spare held m 26 ((cs.drop 100).take (Tryz.prog.cellsOf 26)) = _ := h4
  rw [cells26] at h4
  replace h5 : DataW.trod enc Tryz.prog W 0 spare held m 29 ((cs.drop 101).take (Tryz.prog.cellsOf 29)) = _ := h5
  rw [cells29] at h5
  replace h6 : DataW.trod enc Tryz.prog W 0 spare held m 3 ((cs.drop 102).take (Tryz.prog.cellsOf 3)) = _ := h6
  rw [cells3] at h6
  replace h7 : DataW.trod enc Tryz.prog W 0 spare held m 4 ((cs.drop 103).take (Tryz.prog.cellsOf 4)) = _ := h7
  rw [cells4] at h7
  obtain ⟨hs, root, o0, hr, hhs⟩ := arg_head h0
  obtain ⟨n', hn', _, wn⟩ := DataW.trod_int Tryz.underlying29 h1
  obtain ⟨n, hn, en⟩ := wf_u64 wn
  obtain ⟨ys, m2, _, _, yl, yxl, yx⟩ := DataW.trod_array Tryz.underlying47 h2
  have y0 := yx 0 (by omega)
  have y1 := yx 1 (by omega)
  rw [List.getElem?_eq_getElem (by omega)] at y0 y1
  simp only [cells30] at y0 y1
  obtain ⟨l0, l01, l02⟩ := arg_dig Tryz.underlying30 cells5 cells30 Tryz.underlying5 y0
  obtain ⟨l1, l11, l12⟩ := arg_dig Tryz.underlying30 cells5 cells30 Tryz.underlying5 y1
  obtain ⟨zs, m3, _, _, zl, zxl, zx⟩ := DataW.trod_array Tryz.underlying48 h3
  have z0 := zx 0 (by omega)
  have z1 := zx 1 (by omega)
  rw [List.getElem?_eq_getElem (by omega)] at z0 z1
  simp only [cells24] at z0 z1
  obtain ⟨v0, p0, ps0, v01, v02, v03⟩ := arg_digs Tryz.underlying24 Tryz.underlying30 cells5 cells30 Tryz.underlying5 hsp z0
  obtain ⟨v1, p1, ps1, v11, v12, v13⟩ := arg_digs Tryz.underlying24 Tryz.underlying30 cells5 cells30 Tryz.underlying5 hsp z1
  obtain ⟨v2, rv, rows, v21, v22, v23, v24⟩ := arg_rows Tryz.underlying26 Tryz.underlying41 cells5 cells41 Tryz.underlying5 hsp h4
  obtain ⟨s', hs', _, ws⟩ := DataW.trod_int Tryz.underlying29 h5
  obtain ⟨size, hsz, es⟩ := wf_u64 ws
  obtain ⟨z, hz', _, _⟩ := DataW.trod_int Tryz.underlying3 h6
  obtain ⟨lucky, hly, _⟩ := DataW.trod_bool Tryz.underlying4 h7
  have hmax : maxLen < 2 ^ 63 := by decide
  refine ⟨hs, n, size, root, l0, l1, p0, p1, rv, z, lucky, ps0, ps1, rows, ?_, hr, l01, l11, hhs, hn, v03, v13, v23, by omega⟩
  have e2 : (cs.drop 34).take 64 = bytesVals l0 ++ bytesVals l1 := by
    rw [← l02, ← l12]
    generalize (cs.drop 34).take 64 = c at yl ⊢
    rw [cells47] at yl
    have := cut (l := c) 0 32
    have h2 : (c.drop 32).take 32 = c.drop 32 := List.take_of_length_le (by simp; omega)
    simp only [Nat.zero_mul, Nat.one_mul] at *
    rw [h2]
    simp
  have e3 : (cs.drop 98).take 2 = [v0] ++ [v1] := by
    rw [← v01, ← v11]
    generalize (cs.drop 98).take 2 = c at zl ⊢
    rw [cells48] at zl
    have := cut (l := c) 0 1
    have h2 : (c.drop 1).take 1 = c.drop 1 := List.take_of_length_le (by simp; omega)
    simp only [Nat.zero_mul, Nat.one_mul] at *
    rw [h2]
    simpa using this
  have e7 : cs.drop 103 = (cs.drop 103).take 1 := (List.take_of_length_le (by simp; omega)).symm
  have e : cs = (cs.drop 0).take 33 ++ ((cs.drop 33).take 1 ++ ((cs.drop 34).take 64 ++ ((cs.drop 98).take 2 ++ ((cs.drop 100).take 1 ++ ((cs.drop 101).take 1 ++ ((cs.drop 102).take 1 ++ (cs.drop 103).take 1)))))) := by
    rw [← e7, ← cut 102 1, ← cut 101 1, ← cut 100 1, ← cut 98 2, ← cut 34 64, ← cut 33 1, ← cut 0 33]
    rfl
  rw [e, hn', e2, e3, v21, hs', hz', hly, en, es]
  unfold sArg
  refine OldCells.app o0 (OldCells.app (OldCells.one rfl) (OldCells.app (OldCells.app oldV_bytes oldV_bytes) (OldCells.app (OldCells.app (OldCells.one v02) (OldCells.one v12)) ?_)))
  exact OldCells.app (OldCells.one v22) (OldCells.app (OldCells.one rfl) (OldCells.app (OldCells.one rfl) (OldCells.one rfl)))
end
end Go.Proofs.YtecbgdnoblhldaaGreatDoor.au
