/-
  Steps of the proof of AuditFollowsCardSaid: what functions of the program do in the abstract machine, and the laws between; no condition beside those that each theorem names.
-/
import Derived.Test.YtecbgdnoblhldaaGreatDoorAuB
import Derived.Test.YtecbgdnoblhldaaGreatDoorAbD
import Derived.Test.YtecbgdnoblhldaaGreatDoorChecked
import Derived.WalkKit
import Derived.ProofKit

set_option linter.unusedSimpArgs false
set_option linter.unusedVariables false
set_option linter.unusedSectionVars false

namespace Go.Ab.Aud
open Go.Sha
variable {C : Ctx} (T : Tab_LLog C) (TD : Tab_LDig C) (TW : Tab_LLaw C) (hk : ∀ j, j < 64 → C.old 0 j = some (wv (kW j)))
include T TD TW hk
end Go.Ab.Aud

namespace Go.Ab.Aud
open Go.Sha
theorem pcells_drop : ∀ {L : List PT}, (∀ x, x ∈ L → x.2.2.length = 32) → ∀ i, (pcells L).drop (i * 33) = pcells (L.drop i)
  | L, _, 0 => by simp
  | [], _, i + 1 => by simp [pcells]
  | x :: L, h, i + 1 => by
    have hx := h x (by simp)
    have ih := pcells_drop (L := L) (fun y hy => h y (by simp [hy])) i
    have e : pcells (x :: L) = (x.1 :: bytesVals x.2.2) ++ pcells L := rfl
    rw [e, List.drop_succ_cons, ← ih, List.drop_append, List.drop_of_length_le (by simp [hx]; omega), List.nil_append]
    congr 1
    simp [hx]; omega
theorem pcells_d {L : List PT} (h : ∀ x, x ∈ L → x.2.2.length = 32) {i : Nat} (hi : i < L.length) : ((pcells L).drop (i * 33 + 1)).take 32 = bytesVals L[i].2.2 := by
  have hx := h _ (List.getElem_mem hi)
  rw [← List.drop_drop, pcells_drop h, List.drop_eq_getElem_cons hi]
  have e : ∀ (x : PT) (M : List PT), pcells (x :: M) = x.1 :: (bytesVals x.2.2 ++ pcells M) := fun _ _ => rfl
  rw [e, List.drop_succ_cons, List.drop_zero, List.take_append_of_le_length (by simp [hx]), List.take_of_length_le (by simp [hx])]
theorem pcells_v {L : List PT} (h : ∀ x, x ∈ L → x.2.2.length = 32) {i : Nat} (hi : i < L.length) : (pcells L)[i * 33]? = some L[i].1 := by
  have : (pcells L)[i * 33]? = ((pcells L).drop (i * 33))[0]? := by simp
  have e : ∀ (x : PT) (M : List PT), pcells (x :: M) = x.1 :: (bytesVals x.2.2 ++ pcells M) := fun _ _ => rfl
  rw [this, pcells_drop h, List.drop_eq_getElem_cons hi, e]
  rfl
/-- two unlike rows of one digest -/
def hit (l : List (List UInt8 × List UInt8)) (i k : Nat) : Bool := decide ((l.getD i ([], [])).2 = (l.getD k ([], [])).2) && !decide ((l.getD i ([], [])).1 = (l.getD k ([], [])).1)
def Met (l : List (List UInt8 × List UInt8)) : Prop := ∃ i k, k < i ∧ i < l.length ∧ hit l i k = true
/-- what is read of a row of pairs -/
theorem Pairs.get {old : Old} {h : AHeap} {q : Nat} {v : Value} {l : List (List UInt8 × List UInt8)} (H : Pairs old h q v l) {i : Nat} (hi : i < l.length) :
    ∃ a' a cp, v = .slice (some a') l.length 0 ∧ readN old h (adda (adda a' (i * 33)) 1) 32 = some (bytesVals (l.getD i ([], [])).2) ∧ read1 old h (adda (adda a' (i * 33)) 0) = some (.slice a (l.getD i ([], [])).1.length cp) ∧
      SlR old h 1 (.slice a (l.getD i ([], [])).1.length cp) (bytesVals (l.getD i ([], [])).1) ∧ (l.getD i ([], [])).2.length = 32 := by
  obtain ⟨L, e, o, b, p⟩ := H
  have hL : L.length = l.length := by rw [← e]; simp
  have h32 : ∀ x, x ∈ L → x.2.2.length = 32 := fun x hx => by obtain ⟨_, _, _, _, h3, _⟩ := p x hx; exact h3
  have hv0 : ∃ va', v = .slice (some va') l.length 0 := by
    rw [hL] at o
    rcases o with ⟨_, h0, _⟩ | ⟨b, g', last, hv, _⟩
    · omega
    · exact ⟨_, hv⟩
  obtain ⟨a', rfl⟩ := hv0
  have hiL : i < L.length := by omega
  obtain ⟨a, cp, h1, h2, h3, h4⟩ := p _ (List.getElem_mem hiL)
  have eg : l.getD i ([], []) = L[i].2 := by
    subst e
    simp [List.getD_eq_getElem?_getD, hiL]
  have s := (o.sl (old := old) (by omega)).read (by omega)
  have r1 := readN_part s (i := i * 33 + 1) (m := 32) (by omega)
  have r2 := readN_read1 s (i := i * 33) (by omega)
  rw [pcells_d h32 hiL] at r1
  rw [pcells_v h32 hiL, h1] at r2
  rw [eg]
  exact ⟨a', a, cp, rfl, by rw [adda_adda]; exact r1, by rw [adda_zero]; exact r2, h2, h3⟩
/-- a row of pairs that is only read -/
def PairsR (old : Old) (h : AHeap) (v : Value) (l : List (List UInt8 × List UInt8)) : Prop :=
  lenV v = some (iv l.length) ∧ isUnd v = false ∧ ∀ i, i < l.length → ∃ a' a cp, v = .slice (some a') l.length 0 ∧ readN old h (adda (adda a' (i * 33)) 1) 32 = some (bytesVals (l.getD i ([], [])).2) ∧ read1 old h (adda (adda a' (i * 33)) 0) = some (.slice a (l.getD i ([], [])).1.length cp) ∧
      SlR old h 1 (.slice a (l.getD i ([], [])).1.length cp) (bytesVals (l.getD i ([], [])).1) ∧ (l.getD i ([], [])).2.length = 32
theorem Pairs.rd {old : Old} {h : AHeap} {q : Nat} {v : Value} {l : List (List UInt8 × List UInt8)} (H : Pairs old h q v l) : PairsR old h v l :=
  ⟨by obtain ⟨L, e, o, _⟩ := H; rw [o.lenV, ← e]; simp, by obtain ⟨L, e, o, _⟩ := H; exact o.und, fun i hi => H.get hi⟩
theorem readN_lo {old : Old} {h : AHeap} {a : Addr} {n x : Nat} : readN old { h with lo := x } a n = readN old h a n := readN_same (.inr rfl)
theorem read1_lo {old : Old} {h : AHeap} {a : Addr} {x : Nat} : read1 old { h with lo := x } a = read1 old h a := read1_same (.inr rfl)
theorem PairsR.lo {old : Old} {h : AHeap} {x : Nat} {v : Value} {l : List (List UInt8 × List UInt8)} (H : PairsR old h v l) : PairsR old { h with lo := x } v l := by
  refine ⟨H.1, H.2.1, fun i hi => ?_⟩
  obtain ⟨a', a, cp, h1, h2, h3, h4, h5⟩ := H.2.2 i hi
  exact ⟨a', a, cp, h1, by rw [readN_lo]; exact h2, by rw [read1_lo]; exact h3, h4.lo, h5⟩
variable {C : Ctx} (TW : Tab_LLaw C)
include TW
theorem met_inner (h : AHeap) (v : Value) (l : List (List UInt8 × List UInt8)) (H : PairsR C.old h v l) (hl : l.length < 2 ^ 20) (hb : ∀ i, (l.getD i ([], [])).1.length < 2 ^ 40) (i : Nat) (hi : i < l.length) : ∀ (d k : Nat) (t : List Value), k + d = i → tg t 0 = v → tg t 3 = iv i → tg t 4 = iv k →
    ((∃ k', k ≤ k' ∧ k' < i ∧ hit l i k' = true) ∧ ∀ K, R C r29 (.inLoop lp29_0 :: .inBlock 2 :: K) t [] h = some (.bool true, h)) ∨
    ((∀ k', k ≤ k' → k' < i → hit l i k' = false) ∧ ∃ t', (∀ K, R C r29 (.inLoop lp29_0 :: .inBlock 2 :: K) t [] h = R C r29 K t' [] h) ∧ tg t' 0 = v ∧ tg t' 3 = iv i) := by
  intro d
  induction d with
  | zero =>
    intro k t hd t0 t3 t4
    right
    obtain rfl : k = i := by omega
    refine ⟨fun k' h1 h2 => by omega, ?_⟩
    refine ex_step (fun k => R_open lp29_0.eq_1) ?_
    simp [t3, t4]
    exact ⟨_, fun _ => rfl, by simp [t0], by simp [t3]⟩
  | succ d ih =>
    intro k t hd t0 t3 t4
    obtain ⟨a', ai, ci, hv, r1, r2, s1, d1⟩ := H.2.2 i hi
    obtain ⟨a2, ak, ck, hv2, r3, r4, s2, d2⟩ := H.2.2 k (by omega)
    rw [hv] at hv2
    injection hv2 with hv2
    injection hv2 with hv2
    subst hv2
    have eq1 := aeq_dig d1 d2
    simp [-List.getD_eq_getElem?_getD, List.replicate] at eq1
    have eq2 := eq_spec TW h (l.getD i ([], [])).1 (l.getD k ([], [])).1 (hb i) ai ak ci ck s1 s2
    rw [hv] at t0
    have hki : k < i := by omega
    by_cases c1 : (l.getD i ([], [])).2 = (l.getD k ([], [])).2
    · by_cases c2 : (l.getD i ([], [])).1 = (l.getD k ([], [])).1
      · have e : ∃ t', (∀ K, R C r29 (.inLoop lp29_0 :: .inBlock 2 :: K) t [] h = R C r29 (.inLoop lp29_0 :: .inBlock 2 :: K) t' [] h) ∧ tg t' 0 = v ∧ tg t' 3 = iv i ∧ tg t' 4 = iv (k + 1) := by
          refine ex_step (fun k => R_open lp29_0.eq_1) ?_
          simp [-List.getD_eq_getElem?_getD, t0, t3, t4, hki, ixS_iv hi, ixS_iv (show k < l.length by omega), r1, r2, r3, r4, eq1, eq_true c1, Dc_ok, eq2, eq_true c2, iv_add (a := k) (b := 1) (by omega)]
          exact ⟨_, fun _ => rfl, by simp [t0, hv], by simp [t3], by simp⟩
        obtain ⟨t', e, u0, u3, u4⟩ := e
        have hk0 : hit l i k = false := by simp only [hit, decide_eq_true c1, decide_eq_true c2]; rfl
        rcases ih (k + 1) t' (by omega) u0 u3 u4 with ⟨⟨k', x1, x2, x3⟩, x4⟩ | ⟨x1, t2, x2, x3⟩
        · exact .inl ⟨⟨k', by omega, x2, x3⟩, fun K => (e K).trans (x4 K)⟩
        · exact .inr ⟨fun k' y1 y2 => by by_cases hk : k' = k; { rw [hk]; exact hk0 }; exact x1 k' (by omega) y2, t2, fun K => (e K).trans (x2 K), x3⟩
      · left
        refine ⟨⟨k, Nat.le_refl _, hki, by simp only [hit, decide_eq_true c1, decide_eq_false c2]; rfl⟩, fun K => ?_⟩
        rw [R_open lp29_0.eq_1]
        simp [-List.getD_eq_getElem?_getD, t0, t3, t4, hki, ixS_iv hi, ixS_iv (show k < l.length by omega), r1, r2, r3, r4, eq1, eq_true c1, Dc_ok, eq2, eq_false c2, r29]
    · have e : ∃ t', (∀ K, R C r29 (.inLoop lp29_0 :: .inBlock 2 :: K) t [] h = R C r29 (.inLoop lp29_0 :: .inBlock 2 :: K) t' [] h) ∧ tg t' 0 = v ∧ tg t' 3 = iv i ∧ tg t' 4 = iv (k + 1) := by
        refine ex_step (fun k => R_open lp29_0.eq_1) ?_
        simp [-List.getD_eq_getElem?_getD, t0, t3, t4, hki, ixS_iv hi, ixS_iv (show k < l.length by omega), r1, r2, r3, r4, eq1, eq_false c1, iv_add (a := k) (b := 1) (by omega)]
        exact ⟨_, fun _ => rfl, by simp [t0, hv], by simp [t3], by simp⟩
      obtain ⟨t', e, u0, u3, u4⟩ := e
      have hk0 : hit l i k = false := by simp only [hit, decide_eq_false c1]; rfl
      rcases ih (k + 1) t' (by omega) u0 u3 u4 with ⟨⟨k', x1, x2, x3⟩, x4⟩ | ⟨x1, t2, x2, x3⟩
      · exact .inl ⟨⟨k', by omega, x2, x3⟩, fun K => (e K).trans (x4 K)⟩
      · exact .inr ⟨fun k' y1 y2 => by by_cases hk : k' = k; { rw [hk]; exact hk0 }; exact x1 k' (by omega) y2, t2, fun K => (e K).trans (x2 K), x3⟩
theorem met_outer (h : AHeap) (v : Value) (l : List (List UInt8 × List UInt8)) (H : PairsR C.old h v l) (hl : l.length < 2 ^ 20) (hb : ∀ i, (l.getD i ([], [])).1.length < 2 ^ 40) : ∀ (d i : Nat) (t : List Value), i + d = l.length → (∀ i' k', k' < i' → i' < i → hit l i' k' = false) → tg t 0 = v → tg t 3 = iv i →
    ∃ b, R C r29 [.inLoop lp29_1, .inBlock 0, .code k29_1] t [] h = some (.bool b, h) ∧ (b = true ↔ Met l) := by
  intro d
  induction d with
  | zero =>
    intro i t hd hno t0 t3
    obtain rfl : i = l.length := by omega
    refine ⟨false, ?_, by simp; rintro ⟨i, k, h1, h2, h3⟩; rw [hno i k h1 h2] at h3; cases h3⟩
    have hv := H.1
    have hu := H.2.1
    rw [R_open lp29_1.eq_1]
    simp [t0, t3, hv, stp_ok hu, k29_1, r29]
  | succ d ih =>
    intro i t hd hno t0 t3
    have hi : i < l.length := by omega
    have hv := H.1
    have hu := H.2.1
    have e : ∃ t', (∀ K, R C r29 (.inLoop lp29_1 :: .inBlock 0 :: K) t [] h = R C r29 (.inLoop lp29_0 :: .inBlock 2 :: .inBlock 1 :: .code k29_0 :: .inLoop lp29_1 :: .inBlock 0 :: K) t' [] h) ∧ tg t' 0 = v ∧ tg t' 3 = iv i ∧ tg t' 4 = iv 0 := by
      refine ex_step (fun k => R_open lp29_1.eq_1) ?_
      simp [t0, t3, hv, stp_ok hu, hi]
      exact ⟨_, fun _ => rfl, by simp [t0], by simp [t3], by simp⟩
    obtain ⟨t', e, u0, u3, u4⟩ := e
    rcases met_inner TW h v l H hl hb i hi i 0 t' (by omega) u0 u3 u4 with ⟨⟨k', x1, x2, x3⟩, x4⟩ | ⟨x1, t2, x2, x3, x5⟩
    · exact ⟨true, (e _).trans (x4 _), by simp; exact ⟨i, k', x2, hi, x3⟩⟩
    · have e2 : ∃ t', (∀ K, R C r29 (.inBlock 1 :: .code k29_0 :: .inLoop lp29_1 :: .inBlock 0 :: K) t2 [] h = R C r29 (.inLoop lp29_1 :: .inBlock 0 :: K) t' [] h) ∧ tg t' 0 = v ∧ tg t' 3 = iv (i + 1) := by
        simp [k29_0, x5, iv_add (a := i) (b := 1) (by omega)]
        exact ⟨_, fun _ => rfl, by simp [x3], by simp⟩
      obtain ⟨t3', e2, w0, w3⟩ := e2
      obtain ⟨b, y1, y2⟩ := ih (i + 1) t3' (by omega) (fun i' k' h1 h2 => by by_cases hii : i' = i; { rw [hii]; exact x1 k' (by omega) (by omega) }; exact hno i' k' h1 (by omega)) w0 w3
      exact ⟨b, ((e _).trans ((x2 _).trans (e2 _))).trans y1, y2⟩
theorem met_spec (h : AHeap) (v : Value) (l : List (List UInt8 × List UInt8)) (H : PairsR C.old h v l) (hl : l.length < 2 ^ 20) (hb : ∀ i, (l.getD i ([], [])).1.length < 2 ^ 40) :
    ∃ b, D C 29 [v] h = some (.bool b, h) ∧ (b = true ↔ Met l) := by
  rw [D_fn2 TW.h29]
  obtain ⟨b, e, hb⟩ := met_outer TW { h with lo := h.bs.length } v l H.lo hl hb l.length 0 (ts (ts [v] 2 (.bool false)) 3 (iv 0)) (by omega) (fun i' k' _ h => by omega) (by simp) (by simp)
  refine ⟨b, ?_, hb⟩
  have : R C r29 [.code b29] [v] [] { h with lo := h.bs.length } = some (.bool b, { h with lo := h.bs.length }) := by
    rw [← e]
    simp [b29]
  rw [this]
  exact pur_some rfl
end Go.Ab.Aud

namespace Go.Ab.Aud
open Go.Sha
/-- bytes that were given, in memory that nothing writes -/
def ArgB (old : Old) (v : Value) (l : List UInt8) : Prop := ∃ a cp, v = .slice a l.length cp ∧ (∀ h, SlR old h 1 (.slice a l.length cp) (bytesVals l)) ∧ ∀ j, ¬ Live (.slice a l.length cp) j
/-- rows that were given -/
def ArgR (old : Old) (v : Value) (rows : List (List UInt8)) : Prop :=
  ∃ a cp vs, v = .slice a rows.length cp ∧ (∀ h, SlR old h 1 (.slice a rows.length cp) vs) ∧ (∀ j, ¬ Live (.slice a rows.length cp) j) ∧ ∀ i, i < rows.length → ∃ x, vs[i]? = some x ∧ ArgB old x (rows.getD i [])
theorem ArgR.get {old : Old} {v : Value} {rows : List (List UInt8)} (H : ArgR old v rows) {i : Nat} (hi : i < rows.length) : ∃ a' cp' a cp, v = .slice (some a') rows.length cp' ∧ (∀ h, read1 old h (adda a' i) = some (.slice a (rows.getD i []).length cp)) ∧ (∀ h, SlR old h 1 (.slice a (rows.getD i []).length cp) (bytesVals (rows.getD i []))) ∧ ∀ j, ¬ Live (.slice a (rows.getD i []).length cp) j := by
  obtain ⟨a, cp, vs, h1, h2, h3, h4⟩ := H
  obtain ⟨a', rfl⟩ := (h2 ⟨[], 0⟩).ex (by omega)
  obtain ⟨x, hx, b, cpb, h5, h6, h7⟩ := h4 i hi
  refine ⟨a', cp, b, cpb, h1, fun h => ?_, h6, h7⟩
  have := readN_read1 ((h2 h).read (by omega)) (i := i) (by omega)
  rw [this, hx, h5]
theorem ArgB.und {old : Old} {v : Value} {l : List UInt8} (H : ArgB old v l) : isUnd v = false := by obtain ⟨a, cp, rfl, _⟩ := H; rfl
/-- which rows are laid -/
def laidF : Nat → Nat → List (List UInt8) → List (List UInt8)
  | 0, _, _ => []
  | _ + 1, _, [] => []
  | m + 1, left, r :: rs => if 16384 < r.length then laidF m left rs else if left < r.length + 100 then [] else r :: laidF m (left - (r.length + 100)) rs
def zv (z : Int) : Value := .int .i64 z
theorem zv_und {z : Int} : isUnd (zv z) = false := nr rfl
theorem iv_zv {n : Nat} : iv n = zv n := nr rfl
theorem zv_sub {a : Int} {b : Nat} (ha : -2 ^ 62 < a) (ha2 : a < 2 ^ 62) (hb : b < 2 ^ 61) : abin .sub (zv a) (iv b) = some (zv (a - b)) := by
  unfold zv iv
  simp only [abin, abinI, if_true]
  congr 2
  exact wrapi64 _ (by omega) (by omega)
theorem zv_lss {a : Int} {b : Nat} : abin .lss (zv a) (iv b) = some (.bool (decide (a < b))) := by
  unfold zv iv
  simp only [abin, abinI, if_true]
/-- rows that were laid -/
def RowsO (old : Old) (h : AHeap) (v : Value) (l : List (List UInt8)) : Prop := ∃ vs, Own h 41 1 v l.length vs ∧ ∀ i, i < l.length → ∃ x, vs[i]? = some x ∧ ArgB old x (l.getD i [])
theorem RowsO.fr {old : Old} {h h' : AHeap} {v : Value} {l : List (List UInt8)} {S : Nat → Prop} (H : RowsO old h v l) (f : Fr h h' S) (hn : ∀ j, blkOf v = some j → ¬ S j) : RowsO old h' v l := by
  obtain ⟨vs, o, g⟩ := H
  exact ⟨vs, o.fr f hn, g⟩
theorem LogAt.olt {h : AHeap} {O : Nat → Prop} {p d room wr : Nat} {name content : List UInt8} {leaves : List (List UInt8)} (H : LogAt h O p d name content leaves room wr) : ∀ j, O j → j < h.bs.length := by
  obtain ⟨w, m, fp, fw, fz, keep, o, c, es, ls, H⟩ := H
  exact H.olt
def lh (r : List UInt8) : List UInt8 := sha (0 :: r)
variable {C : Ctx} (T : Tab_LLog C) (TD : Tab_LDig C) (TW : Tab_LLaw C) (hk : ∀ j, j < 64 → C.old 0 j = some (wv (kW j))) (hp : ∀ j, j < 16 → C.old 1 j = some (wv (crcW j)))
include T TD TW hk hp
set_option maxHeartbeats 4000000 in
theorem laid_loop (q : Nat) (v : Value) (rows : List (List UInt8)) (HR : ArgR C.old v rows) (most : Nat) (hmost : most ≤ 64) (hrl : rows.length < 2 ^ 63) (p dd room : Nat) (name : List UInt8) (hN : ∀ h, D C 147 [str name] h = some (.bool true, h)) (hroom : 300000 ≤ room) (hroom2 : room < 2 ^ 39) :
    ∀ (d i L : Nat) (out : List (List UInt8)) (O : Nat → Prop) (wr : Nat) (content : List UInt8) (vo : Value) (g : AHeap) (t : List Value), i + d = rows.length → out.length ≤ i → out.length ≤ most → wr ≤ out.length → content.length + L ≤ 200000 → LogAt g O p dd name content (out.map lh) room wr → RowsO C.old g vo out →
      (∀ j, blkOf vo = some j → q ≤ j ∧ ¬ O j) → (∀ j, O j → q ≤ j) → q ≤ g.bs.length → g.lo ≤ g.bs.length → tg t 0 = v → tg t 1 = iv most → tg t 8 = .pointer (some ⟨p, 0, some 0⟩) → tg t 10 = vo → tg t 11 = iv L → tg t 12 = iv i →
    ∃ g' t' O' wr' content' vo', (∀ k, R C r24 (.inLoop lp24_0 :: .inBlock 0 :: k) t [] g = R C r24 k t' [] g') ∧ tg t' 8 = .pointer (some ⟨p, 0, some 0⟩) ∧ tg t' 10 = vo' ∧ LogAt g' O' p dd name content' ((out ++ laidF (most - i) L (rows.drop i)).map lh) room wr' ∧ RowsO C.old g' vo' (out ++ laidF (most - i) L (rows.drop i)) ∧
      Fr g g' (fun j => q ≤ j) ∧ (∀ j, O' j → q ≤ j) ∧ isUnd vo' = false ∧ (∀ j, blkOf vo' = some j → q ≤ j) := by
  intro d
  induction d with
  | zero =>
    intro i L out O wr content vo g t hd hoi hom hwr hcl H HO hvo hO hq hwf t0 t1 t8 t10 t11 t12
    obtain rfl : i = rows.length := by omega
    obtain ⟨a, cp, vs, hv, _⟩ := HR
    have e : ∃ t', (∀ k, R C r24 (.inLoop lp24_0 :: .inBlock 0 :: k) t [] g = R C r24 k t' [] g) ∧ tg t' 8 = .pointer (some ⟨p, 0, some 0⟩) ∧ tg t' 10 = vo := by
      refine ex_step (fun k => R_open lp24_0.eq_1) ?_
      simp [t0, t1, t12, hv]
      exact ⟨_, fun _ => rfl, by simp [t8], by simp [t10]⟩
    obtain ⟨t', e, u8, u10⟩ := e
    have hl : laidF (most - rows.length) L (rows.drop rows.length) = [] := by
      rw [List.drop_length]; cases most - rows.length <;> rfl
    rw [hl, List.append_nil]
    exact ⟨g, t', O, wr, content, vo, e, u8, u10, H, HO, Fr.refl _ _, hO, by obtain ⟨_, o, _⟩ := HO; exact o.und, fun j hj => (hvo j hj).1⟩
  | succ d ih =>
    intro i L out O wr content vo g t hd hoi hom hwr hcl H HO hvo hO hq hwf t0 t1 t8 t10 t11 t12
    have hi : i < rows.length := by omega
    obtain ⟨a', cp', a, cp, hv, r1, s1, nl⟩ := HR.get hi
    have hoU : isUnd vo = false := by obtain ⟨_, o, _⟩ := HO; exact o.und
    have hoL : lenV vo = some (iv out.length) := by obtain ⟨_, o, _⟩ := HO; exact o.lenV
    by_cases him : i < most
    · have hdr : rows.drop i = rows.getD i [] :: rows.drop (i + 1) := by rw [List.drop_eq_getElem_cons hi]; simp [List.getD_eq_getElem?_getD, hi]
      have hms : most - i = (most - (i + 1)) + 1 := by omega
      rw [hdr, hms]
      generalize hr : rows.getD i [] = r at r1 s1 nl ⊢
      unfold laidF
      by_cases hlong : 16384 < r.length
      · rw [if_pos hlong]
        have e : ∃ t', (∀ k, R C r24 (.inLoop lp24_0 :: .inBlock 0 :: k) t [] g = R C r24 (.inLoop lp24_0 :: .inBlock 0 :: k) t' [] g) ∧ tg t' 0 = v ∧ tg t' 1 = iv most ∧ tg t' 8 = .pointer (some ⟨p, 0, some 0⟩) ∧ tg t' 10 = vo ∧ tg t' 11 = iv L ∧ tg t' 12 = iv (i + 1) := by
          refine ex_step (fun k => R_open lp24_0.eq_1) ?_
          simp [t0, t1, t12, hv, hi, him, ixS_iv hi, r1 g, hlong, iv_add (a := i) (b := 1) (by omega)]
          exact ⟨_, fun _ => rfl, by simp [t0, hv], by simp [t1], by simp [t8], by simp [t10], by simp [t11], by simp⟩
        obtain ⟨t', e, u0, u1, u8, u10, u11, u12⟩ := e
        obtain ⟨g', t2, O', wr', ct', vo', x1, x2⟩ := ih (i + 1) L out O wr content vo g t' (by omega) (by omega) hom hwr hcl H HO hvo hO hq hwf u0 u1 u8 u10 u11 u12
        exact ⟨g', t2, O', wr', ct', vo', fun k => (e k).trans (x1 k), x2⟩
      · rw [if_neg hlong]
        have es1 : abin .sub (iv L) (iv r.length) = some (zv ((L : Int) - r.length)) := zv_sub (by omega) (by omega) (by omega)
        have es2 : abin .sub (zv ((L : Int) - r.length)) (iv 100) = some (zv ((L : Int) - r.length - 100)) := zv_sub (by omega) (by omega) (by omega)
        by_cases hleft : L < r.length + 100
        · rw [if_pos hleft]
          have hneg : ((L : Int) - r.length - 100 < (0 : Nat)) = True := eq_true (by omega)
          have e : ∃ t', (∀ k, R C r24 (.inLoop lp24_0 :: .inBlock 0 :: k) t [] g = R C r24 k t' [] g) ∧ tg t' 8 = .pointer (some ⟨p, 0, some 0⟩) ∧ tg t' 10 = vo := by
            refine ex_step (fun k => R_open lp24_0.eq_1) ?_
            simp [t0, t1, t11, t12, hv, hi, him, ixS_iv hi, r1 g, hlong, es1, stp_ok zv_und, es2, zv_lss, show (L : Int) - r.length - 100 < 0 by omega]
            exact ⟨_, fun _ => rfl, by simp [t8], by simp [t10]⟩
          obtain ⟨t', e, u8, u10⟩ := e
          rw [List.append_nil]
          exact ⟨g, t', O, wr, content, vo, e, u8, u10, H, HO, Fr.refl _ _, hO, hoU, fun j hj => (hvo j hj).1⟩
        · rw [if_neg hleft]
          have hnn : ¬ ((L : Int) - r.length - 100 < (0 : Nat)) := by omega
          have hL' : ((L : Int) - r.length - 100) = ((L - (r.length + 100) : Nat) : Int) := by omega
          obtain ⟨h1, vc, e1, o1, f1, b1⟩ := copy_spec TW g r a r.length cp (s1 g) (by omega) hwf
          obtain ⟨ac, cpc, hvc⟩ := o1.slice
          have sc := o1.sl (old := C.old) (by omega)
          rw [hvc] at sc e1
          have l1 := f1.len
          have g1 := f1.lo
          have H1 := H.fr f1 (fun _ _ h => h)
          obtain ⟨h2, e2, H2, f2⟩ := audit_append T TD hp hk h1 O p dd room wr name content (out.map lh) r ac r.length cpc H1 sc (fun j hj hOj => by
            have := b1 j (by rw [hvc]; exact o1.live (by rw [hvc]; exact hj) |> (hvc ▸ ·)); have := H.olt j hOj; omega) (by omega) (by omega) (by omega) hroom2 (by omega) (by simp; omega) hN
          rw [List.length_map] at e2
          have l2 := f2.len
          have g2 := f2.lo
          obtain ⟨vs, ov, hvs⟩ := HO
          have ov2 : Own h2 41 1 vo out.length vs := (ov.fr f1 (fun _ _ h => h)).fr f2 (fun j hj => (hvo j hj).2)
          have f3 : Fr h2 (h2.push (.cells [.slice a r.length cp] 42)) (fun _ => False) := Fr.push
          obtain ⟨v', h4, e4, o4, f4, b4⟩ := append_own (old := C.old) (bytes := 24) (x := .slice (some ⟨h2.bs.length, 0, some 0⟩) 1 1) (m := 1) (new := [.slice a r.length cp]) (ov2.fr f3 fun _ _ h => h) (by omega) rfl
            (fun _ => by simp only [srcCells]; rw [readN_rd, push_self]; rfl) (fun h => by cases h) rfl rfl (by simp [sizeLim]; omega) (by simp; omega)
          have l4 := f4.len
          simp at l4
          have hvo2 : ∀ j, blkOf vo = some j → q ≤ j := fun j hj => (hvo j hj).1
          have f24 : Fr h2 h4 (fun j => blkOf vo = some j) := f3.trans f4 (fun _ h => h.elim) (fun _ h _ => h)
          have H4 := H2.fr f24 (fun j hj hb => by
            rcases hj with hj | hj
            · exact (hvo j hb).2 hj
            · have := ov.blk hb; omega)
          have fg4 : Fr g h4 (fun j => q ≤ j) := (f1.trans f2 (S'' := fun j => q ≤ j) (fun _ h => h.elim) (fun j hj _ => hO j hj)).trans f24 (fun _ h => h) (fun j hj _ => hvo2 j hj)
          have cu : abin .neq (uv out.length) (uv out.length) = some (.bool false) := by simp
          have e : ∃ t', (∀ k, R C r24 (.inLoop lp24_0 :: .inBlock 0 :: k) t [] g = R C r24 (.inLoop lp24_0 :: .inBlock 0 :: k) t' [] h4) ∧ tg t' 0 = v ∧ tg t' 1 = iv most ∧ tg t' 8 = .pointer (some ⟨p, 0, some 0⟩) ∧ tg t' 10 = v' ∧ tg t' 11 = iv (L - (r.length + 100)) ∧ tg t' 12 = iv (i + 1) := by
            refine ex_step (fun k => R_open lp24_0.eq_1) ?_
            simp [t0, t1, t8, t10, t11, t12, hv, hi, him, ixS_iv hi, r1 g, r1 h2, hlong, es1, stp_ok zv_und, es2, zv_lss, show ¬ (L : Int) - r.length - 100 < 0 by omega, Dc_ok, e1, e2, num_spec TW, hoL, stp_ok hoU, hoU, cvt_iu (show out.length < 18446744073709551616 by omega), fillCells, splice, e4, stp_ok o4.und, iv_add (a := i) (b := 1) (by omega)]
            exact ⟨_, fun _ => rfl, by simp [t0, hv], by simp [t1], by simp [t8], by simp, by simp [hL', iv_zv], by simp⟩
          obtain ⟨t', e, u0, u1, u8, u10, u11, u12⟩ := e
          have hml : (out ++ [r]).map lh = out.map lh ++ [sha (0 :: r)] := by simp [lh]
          have hfl := frame_length r
          have HO' : RowsO C.old h4 v' (out ++ [r]) := by
            refine ⟨vs ++ [.slice a r.length cp], by rw [List.length_append]; exact o4, fun i' hi' => ?_⟩
            have hvl := ov.len
            by_cases hlt : i' < out.length
            · obtain ⟨x, hx, hB⟩ := hvs i' hlt
              refine ⟨x, by rw [List.getElem?_append_left (by omega)]; exact hx, ?_⟩
              have : (out ++ [r]).getD i' [] = out.getD i' [] := by simp [List.getD_eq_getElem?_getD, List.getElem?_append_left hlt]
              rw [this]; exact hB
            · have : i' = out.length := by simp at hi'; omega
              subst this
              refine ⟨.slice a r.length cp, by rw [List.getElem?_append_right (by omega)]; simp [hvl], ?_⟩
              have : (out ++ [r]).getD out.length [] = r := by simp [List.getD_eq_getElem?_getD]
              rw [this]; exact ⟨a, cp, rfl, s1, nl⟩
          obtain ⟨g', t2, O', wr', ct', vo', x1, x2, x3, x4, x5, x6, x7⟩ := ih (i + 1) (L - (r.length + 100)) (out ++ [r]) (fun j => O j ∨ (h1.bs.length ≤ j ∧ j < h2.bs.length)) (wr + 1) (content ++ frame r) v' h4 t' (by omega) (by simp; omega) (by simp; omega) (by simp; omega) (by simp [hfl]; omega)
            (by rw [hml]; exact H4) HO' (fun j hj => by
              rcases b4 with b4 | b4
              · rw [b4] at hj
                refine ⟨(hvo j hj).1, ?_⟩
                rintro (hc | hc)
                · exact (hvo j hj).2 hc
                · have := ov.blk hj; omega
              · rw [b4] at hj; cases hj
                refine ⟨by simp; omega, ?_⟩
                rintro (hc | hc)
                · have := H.olt _ hc; simp at this; omega
                · simp at hc; omega) (fun j hj => by
              rcases hj with hj | hj
              · exact hO j hj
              · omega) (by omega) (by rw [fg4.lo]; omega) u0 u1 u8 u10 u11 u12
          refine ⟨g', t2, O', wr', ct', vo', fun k => (e k).trans (x1 k), x2, x3, ?_, ?_, fg4.trans x6 (fun _ h => h) (fun _ h _ => h), x7⟩
          · rw [List.append_assoc] at x4; exact x4
          · rw [List.append_assoc] at x5; exact x5
    · have e : ∃ t', (∀ k, R C r24 (.inLoop lp24_0 :: .inBlock 0 :: k) t [] g = R C r24 k t' [] g) ∧ tg t' 8 = .pointer (some ⟨p, 0, some 0⟩) ∧ tg t' 10 = vo := by
        refine ex_step (fun k => R_open lp24_0.eq_1) ?_
        simp [t0, t1, t12, hv, hi, him]
        exact ⟨_, fun _ => rfl, by simp [t8], by simp [t10]⟩
      obtain ⟨t', e, u8, u10⟩ := e
      rw [show most - i = 0 by omega]
      have : laidF 0 L (rows.drop i) = [] := rfl
      rw [this, List.append_nil]
      exact ⟨g, t', O, wr, content, vo, e, u8, u10, H, HO, Fr.refl _ _, hO, hoU, fun j hj => (hvo j hj).1⟩
end Go.Ab.Aud

namespace Go.Ab.Aud
open Go.Sha
variable {C : Ctx} (T : Tab_LLog C) (TD : Tab_LDig C) (TW : Tab_LLaw C) (hk : ∀ j, j < 64 → C.old 0 j = some (wv (kW j))) (hp : ∀ j, j < 16 → C.old 1 j = some (wv (crcW j)))
theorem aeq_nilPs {a : Addr} : aeq .nilP (.pointer (some a)) (.pointer none) = some false := nr rfl
/-- audit -/
def nmAudit : List UInt8 := [97, 117, 100, 105, 116]
def nmA : List UInt8 := [97]
include T in
/-- a disk and a log on it -/
theorem open_new (h : AHeap) (room : Nat) (name : List UInt8) (h1 : 1 ≤ room) (h2 : room ≤ 268435456) (hwf : h.lo ≤ h.bs.length) (hN : ∀ h, D C 147 [str name] h = some (.bool true, h)) :
    ∃ h1 h2 d p O, D C 42 [iv room] h = some (.tuple #[.pointer (some ⟨d, 0, some 0⟩), iv 0], h1) ∧ D C 43 [.pointer (some ⟨d, 0, some 0⟩), str name] h1 = some (.tuple #[.pointer (some ⟨p, 0, some 0⟩), iv 0], h2) ∧ LogAt h2 O p d name [] [] room 0 ∧ (∀ j, O j → h.bs.length ≤ j) ∧ Fr h h2 (fun _ => False) := by
  have e1 := disk_new T h room h1 h2
  have fa : Fr h ((h.push (.map [] 0)).push (.cells (dc 0 room 0 h.bs.length (iv 0) (iv 0) false 0) 189)) (fun _ => False) := Fr.push.push'
  obtain ⟨h', p, e2, L, hpl, f⟩ := audit_open_none T ((h.push (.map [] 0)).push (.cells (dc 0 room 0 h.bs.length (iv 0) (iv 0) false 0) 189)) (h.bs.length + 1) h.bs.length 188 room 0 0 (iv 0) name (push_self' (by simp)) (push_old push_self) (by simp; omega) (by simp; omega) (by omega) hN
  refine ⟨_, h', h.bs.length + 1, p, _, e1, e2, L, fun j hj => ?_, fa.trans f (fun _ h => h) (fun j hj hl => by omega)⟩
  rcases hj with hj | hj | hj
  · omega
  · omega
  · have := hj.1; simp at this; omega
include T TD TW hk hp
theorem laid_spec (h : AHeap) (v : Value) (rows : List (List UInt8)) (HR : ArgR C.old v rows) (most : Nat) (hmost : most ≤ 64) (hrl : rows.length < 2 ^ 63) (hwf : h.lo ≤ h.bs.length) (hN : ∀ h, D C 147 [str nmAudit] h = some (.bool true, h)) :
    ∃ h' p d O wr content vo, D C 24 [v, iv most] h = some (.tuple #[.pointer (some ⟨p, 0, some 0⟩), vo], h') ∧ LogAt h' O p d nmAudit content ((laidF most 200000 rows).map lh) 16777216 wr ∧ RowsO C.old h' vo (laidF most 200000 rows) ∧ Fr h h' (fun _ => False) ∧ (∀ j, O j → h.bs.length ≤ j) ∧ (∀ j, blkOf vo = some j → h.bs.length ≤ j) := by
  obtain ⟨h1, h2, d, p, O, e1, e2, L, hO, f2⟩ := open_new T h 16777216 nmAudit (by omega) (by omega) hwf hN
  have l2 := f2.len
  have g2 := f2.lo
  have hv : isUnd v = false := by obtain ⟨a, cp, vs, hv, _⟩ := HR; rw [hv]; rfl
  obtain ⟨t, e, u0, u1, u8, u10, u11, u12⟩ : ∃ t, R C r24 [.code b24] [v, iv most] [] h = R C r24 (.inLoop lp24_0 :: .inBlock 0 :: [.code k24_0]) t [] h2 ∧ tg t 0 = v ∧ tg t 1 = iv most ∧ tg t 8 = .pointer (some ⟨p, 0, some 0⟩) ∧ tg t 10 = .slice none 0 0 ∧ tg t 11 = iv 200000 ∧ tg t 12 = iv 0 := by
    have hs : Value.string ⟨⟨[97, 117, 100, 105, 116]⟩⟩ = str nmAudit := rfl
    simp [b24, Dc_ok, e1, num_spec TW, hs, e2, aeq_nilPs]
    exact ⟨_, rfl, by simp, by simp, by simp, by simp, by simp, by simp⟩
  obtain ⟨g', t', O', wr', ct', vo', x1, x2, x3, x4, x5, x6, x7, x8, x9⟩ := laid_loop T TD TW hk hp h.bs.length v rows HR most hmost hrl p d 16777216 nmAudit hN (by omega) (by omega) rows.length 0 200000 [] O 0 [] (.slice none 0 0) h2
    t (by omega) (by simp) (by simp) (by simp) (by simp) L ⟨[], .nil, fun i hi => by cases hi⟩ (fun j hj => by cases hj) hO l2 (by omega) u0 u1 u8 u10 u11 u12
  rw [List.nil_append] at x4 x5
  refine ⟨g', p, d, O', wr', ct', vo', ?_, x4, x5, f2.trans x6 (fun _ h => h) (fun j hj hl => by omega), x7, x9⟩
  rw [D_fn TW.h24]
  rw [e, x1 [.code k24_0]]
  simp [k24_0, x2, x3, stp_ok x8, x8, r24]
end Go.Ab.Aud

namespace Go.Ab.Aud
open Go.Sha
theorem wakes_sha : (sha (1 :: (sha (1 :: (lh [0] ++ lh [2])) ++ lh [2])) = sha (1 :: (sha (1 :: (lh [0] ++ lh [1])) ++ lh [2]))) = False := by
  have : decide (sha (1 :: (sha (1 :: (lh [0] ++ lh [2])) ++ lh [2])) = sha (1 :: (sha (1 :: (lh [0] ++ lh [1])) ++ lh [2]))) = false := by decide +kernel
  exact eq_false (of_decide_eq_false this)
def wl3 : List (List UInt8) := [lh [0], lh [1], lh [2]]
def wRoot : List UInt8 := sha (1 :: (sha (1 :: (lh [0] ++ lh [1])) ++ lh [2]))
def wTwo : List UInt8 := sha (1 :: (lh [0] ++ lh [1]))
theorem lft3 : lft 3 = 2 := by decide
theorem lft2 : lft 2 = 1 := by decide
theorem rootL1 {a : List UInt8} : rootL [a] = a := rfl
theorem rootL2 {a b : List UInt8} : rootL [a, b] = sha (1 :: (a ++ b)) := by
  rw [rootL_two (by simp)]
  simp only [List.length_cons, List.length_nil, Nat.zero_add, Nat.reduceAdd, lft2, List.take_succ_cons, List.take_zero, List.drop_succ_cons, List.drop_zero, rootL1, nodeL]
theorem rootL3 : rootL (wl3.take 3) = wRoot := by
  have e : wl3.take 3 = [lh [0], lh [1], lh [2]] := rfl
  rw [e, rootL_two (by simp)]
  simp only [List.length_cons, List.length_nil, Nat.zero_add, Nat.reduceAdd, lft3, List.take_succ_cons, List.take_zero, List.drop_succ_cons, List.drop_zero, rootL1, rootL2, nodeL]
  rfl
theorem rootL32 : rootL (wl3.take 2) = wTwo := by
  have e : wl3.take 2 = [lh [0], lh [1]] := rfl
  rw [e, rootL2]; rfl
theorem path3 : pathF 3 (wl3.take 3) 1 = [lh [0], lh [2]] := by
  have e : wl3.take 3 = [lh [0], lh [1], lh [2]] := rfl
  rw [e]
  simp [pathF, lft3, lft2, rootL1]
theorem proof3 : proofF 3 (wl3.take 3) 2 true = [lh [2]] := by
  have e : wl3.take 3 = [lh [0], lh [1], lh [2]] := rfl
  rw [e]
  simp [proofF, lft3, rootL1]
theorem incl3 {x : List UInt8} : inclF 3 1 wRoot x [lh [0], lh [2]] = if sha (1 :: (sha (1 :: (lh [0] ++ x)) ++ lh [2])) = wRoot then 0 else 236 := by
  have e : downF 64 1 3 = [false, true] := by simp [downF, lft3, lft2]
  unfold inclF
  rw [e, if_neg (by omega), if_neg (by simp)]
  simp [foldW, stepW]
theorem foll3 : follF 2 3 wTwo wRoot [lh [2]] = 0 := by
  have e : mdown 64 2 3 = [false] := by simp [mdown, lft3]
  unfold follF
  rw [e, if_neg (by omega)]
  have o : one1 [false] = 0 := by simp [one1]
  rw [o]
  simp [foldP]
  rfl
end Go.Ab.Aud

namespace Go.Ab.Aud
open Go.Sha
variable {C : Ctx} (T : Tab_LLog C) (TD : Tab_LDig C) (TW : Tab_LLaw C) (hk : ∀ j, j < 64 → C.old 0 j = some (wv (kW j))) (hp : ∀ j, j < 16 → C.old 1 j = some (wv (crcW j)))
include T TD TW hk hp
set_option maxHeartbeats 1000000 in
theorem wk_step (i wr p d : Nat) (O : Nat → Prop) (b : UInt8) (content : List UInt8) (leaves : List (List UInt8)) (g : AHeap) (t : List Value) (hi : i < 3) (hb : UInt8.ofNat i = b) (hl : leaves.length = i) (hc : content.length ≤ 100) (hwr : wr < 100) (H : LogAt g O p d nmA content leaves 1000 wr) (hwf : g.lo ≤ g.bs.length)
    (hN : ∀ h, D C 147 [str nmA] h = some (.bool true, h)) (t3 : tg t 3 = .pointer (some ⟨p, 0, some 0⟩)) (t5 : tg t 5 = iv i) :
    ∃ g' t' O', (∀ k, R C r23 (.inLoop lp23_0 :: .inBlock 0 :: k) t [] g = R C r23 (.inLoop lp23_0 :: .inBlock 0 :: k) t' [] g') ∧ tg t' 3 = .pointer (some ⟨p, 0, some 0⟩) ∧ tg t' 5 = iv (i + 1) ∧ LogAt g' O' p d nmA (content ++ frame [b]) (leaves ++ [lh [b]]) 1000 (wr + 1) ∧ g'.lo ≤ g'.bs.length ∧ (content ++ frame [b]).length = content.length + 14 := by
  have f1 : Fr g (g.push (.cells [bv b] 6)) (fun _ => False) := Fr.push
  have H1 := H.fr f1 (fun _ _ h => h)
  have ol := H.olt
  obtain ⟨g', e, H2, f2⟩ := audit_append T TD hp hk (g.push (.cells [bv b] 6)) O p d 1000 wr nmA content leaves [b] (some ⟨g.bs.length, 0, some 0⟩) 1 1 H1 one_sl (fun j hj hO => by have := slLive hj; have := ol j hO; omega) (by simp; omega) (by omega) (by omega) (by omega) (by omega) (by omega) hN
  have l2 := f2.len
  have g2 := f2.lo
  have hfl := frame_length [b]
  simp at l2 g2 hfl
  have e2 : ∃ t', (∀ k, R C r23 (.inLoop lp23_0 :: .inBlock 0 :: k) t [] g = R C r23 (.inLoop lp23_0 :: .inBlock 0 :: k) t' [] g') ∧ tg t' 3 = .pointer (some ⟨p, 0, some 0⟩) ∧ tg t' 5 = iv (i + 1) := by
    refine ex_step (fun k => R_open lp23_0.eq_1) ?_
    simp [t3, t5, hi, hb, fillCells, splice, Dc_ok, e, num_spec TW, hl, cvt_iu (show i < 18446744073709551616 by omega), iv_add (a := i) (b := 1) (by omega)]
    exact ⟨_, fun _ => rfl, by simp [t3], by simp⟩
  obtain ⟨t', e2, u3, u5⟩ := e2
  exact ⟨g', t', _, e2, u3, u5, H2, by omega, by simp [hfl]⟩
set_option maxHeartbeats 4000000 in
theorem wakes_spec (h : AHeap) (hN : ∀ h, D C 147 [str nmA] h = some (.bool true, h)) : D C 23 [] h = some (.bool true, h) := by
  rw [D_fn3 TW.h23 _ rfl]
  generalize hh0 : ({ bs := [], lo := 0 } : AHeap) = h0
  have h0lo : h0.lo = 0 := by rw [← hh0]
  obtain ⟨h1, h2, d, p, O, e1, e2, L, hO, f2⟩ := open_new T h0 1000 nmA (by omega) (by omega) (by omega) hN
  have l2 := f2.len
  have g2 := f2.lo
  obtain ⟨t, e, u3, u5⟩ : ∃ t, R C r23 [.code b23] [] [] h0 = R C r23 (.inLoop lp23_0 :: .inBlock 0 :: [.code k23_0]) t [] h2 ∧ tg t 3 = .pointer (some ⟨p, 0, some 0⟩) ∧ tg t 5 = iv 0 := by
    have hs : Value.string ⟨⟨[97]⟩⟩ = str nmA := rfl
    simp [b23, Dc_ok, e1, num_spec TW, hs, e2, aeq_nilPs]
    exact ⟨_, rfl, by simp, by simp⟩
  obtain ⟨g1, t1, O1, x1, y1, z1, L1, w1, c1⟩ := wk_step T TD TW hk hp 0 0 p d O 0 [] [] h2 t (by omega) rfl rfl (by simp) (by omega) L (by omega) hN u3 u5
  obtain ⟨g2', t2, O2, x2, y2, z2, L2, w2, c2⟩ := wk_step T TD TW hk hp 1 1 p d O1 1 _ _ g1 t1 (by omega) rfl (by simp) (by simp at c1 ⊢; omega) (by omega) L1 w1 hN y1 z1
  obtain ⟨g3, t3, O3, x3, y3, z3, L3, w3, c3⟩ := wk_step T TD TW hk hp 2 2 p d O2 2 _ _ g2' t2 (by omega) rfl (by simp) (by simp at c1 c2 ⊢; omega) (by omega) L2 w2 hN y2 z2
  have hl : [] ++ [lh [0]] ++ [lh [1]] ++ [lh [2]] = wl3 := rfl
  rw [hl] at L3
  generalize [] ++ frame [0] ++ frame [1] ++ frame [2] = content at L3
  obtain ⟨t4, e4, u4⟩ : ∃ t', (∀ k, R C r23 (.inLoop lp23_0 :: .inBlock 0 :: k) t3 [] g3 = R C r23 k t' [] g3) ∧ tg t' 3 = .pointer (some ⟨p, 0, some 0⟩) := by
    refine ex_step (fun k => R_open lp23_0.eq_1) ?_
    simp [z3]
    exact ⟨_, fun _ => rfl, by simp [y3]⟩
  rw [e, x1, x2, x3, e4]
  have hlw : wl3.length = 3 := rfl
  have hz : Value.int .u8 0 = bv 0 := rfl
  have hb1 : Value.int .u8 1 = bv 1 := rfl
  have hb2 : Value.int .u8 2 = bv 2 := rfl
  generalize hZ : ABlock.cells (uv 0 :: List.replicate 32 (bv 0)) 36 = Z
  have hZ0 := hZ
  simp [List.replicate] at hZ
  have wz : ∀ (g : AHeap) (b n : Nat) (r : List UInt8), r.length = 32 → wrN g b (some Z) 0 0 (uv n :: bytesVals r) = some (g.put b (.cells (uv n :: bytesVals r) 36)) := by
    intro g b n r hr
    rw [← hZ0, wrN_cells (by simp [hr]) (by rw [List.all_cons, bytes_ok]; rfl)]
    congr 3
    simp [splice, hr]
  have rz : ∀ (n : Nat) (r : List UInt8), r.length = 32 → rdN (some (.cells (uv n :: bytesVals r) 36)) 0 0 33 = some (uv n :: bytesVals r) := by
    intro n r hr
    rw [rdN_cells (by simp [hr]), List.drop_zero, List.take_of_length_le (by simp [hr])]
  have hwR : wRoot.length = 32 := sha_length _
  have hwT : wTwo.length = 32 := sha_length _
  -- the heads
  obtain ⟨g4, e5, f4⟩ := head_spec T TD hk g3 O3 p d 1000 _ nmA content wl3 L3 3 (by omega) (by omega) w3
  rw [rootL3] at e5
  have l4 := f4.len
  have o4 := f4.lo
  have s5 : (g4.push Z).at g4.bs.length = some Z := push_self
  generalize hg5 : (g4.push Z).put g4.bs.length (.cells (uv 3 :: bytesVals wRoot) 36) = g5
  have f5 : Fr g3 g5 (fun _ => False) := by rw [← hg5]; exact (f4.push').put' (.inr (by omega))
  have v8 : g5.at g4.bs.length = some (.cells (uv 3 :: bytesVals wRoot) 36) := by rw [← hg5]; exact put_self (by simp)
  have l5 : g5.bs.length = g4.bs.length + 1 := by rw [← hg5]; simp
  have o5 := f5.lo
  have w5 : g5.lo ≤ g5.bs.length := by omega
  have hlo4 : g4.lo ≤ g4.bs.length := by omega
  have L5 := L3.fr f5 (fun _ _ h => h)
  obtain ⟨g6, e6, f6⟩ := head_spec T TD hk g5 O3 p d 1000 _ nmA content wl3 L5 2 (by omega) (by omega) w5
  rw [rootL32] at e6
  have l6 := f6.len
  have o6 := f6.lo
  have s6 : (g6.push Z).at g6.bs.length = some Z := push_self
  generalize hg7 : (g6.push Z).put g6.bs.length (.cells (uv 2 :: bytesVals wTwo) 36) = g7
  have f7 : Fr g5 g7 (fun _ => False) := by rw [← hg7]; exact (f6.push').put' (.inr (by omega))
  have v9 : g7.at g6.bs.length = some (.cells (uv 2 :: bytesVals wTwo) 36) := by rw [← hg7]; exact put_self (by simp)
  have l7 : g7.bs.length = g6.bs.length + 1 := by rw [← hg7]; simp
  have o7 := f7.lo
  have w7 : g7.lo ≤ g7.bs.length := by omega
  have hlo6 : g6.lo ≤ g6.bs.length := by omega
  have L7 := L5.fr f7 (fun _ _ h => h)
  obtain ⟨g8, vp, e7, P8, f8, b8⟩ := prove_spec T TD hk g7 O3 p d 1000 _ nmA content wl3 L7 1 3 (by omega) (by omega) (by omega) w7
  rw [path3] at P8
  have l8 := f8.len
  have o8 := f8.lo
  have L8 := L7.fr f8 (fun _ _ h => h)
  obtain ⟨g9, vq, e8, P9, f9⟩ := follow_spec T TD hk g8 O3 p d 1000 _ nmA content wl3 L8 2 3 (by omega) (by omega) (by omega) (by omega)
  rw [if_neg (by omega), proof3] at P9
  have l9 := f9.len
  have o9 := f9.lo
  have P8' : DigO g9 vp [lh [0], lh [2]] := P8.fr f9 (fun _ _ h => h)
  obtain ⟨ap, cpp, hvp, R9⟩ := P8'.digR (old := C.old)
  obtain ⟨aq, cpq, hvq, Q9, _⟩ := P9
  have k8 : g9.at g4.bs.length = some (.cells (uv 3 :: bytesVals wRoot) 36) := f9.get (f8.get (f7.get v8 (fun h => h)) (fun h => h)) (fun h => h)
  have k9 : g9.at g6.bs.length = some (.cells (uv 2 :: bytesVals wTwo) 36) := f9.get (f8.get v9 (fun h => h)) (fun h => h)
  generalize hg10 : g9.push (.cells [bv 1] 6) = g10
  have f10 : Fr g9 g10 (fun _ => False) := by rw [← hg10]; exact Fr.push
  have sl1 : SlR C.old g10 1 (.slice (some ⟨g9.bs.length, 0, some 0⟩) 1 1) (bytesVals [1]) := by rw [← hg10]; exact one_sl
  have lf1 := leaf_spec TD hk g10 [1] (some ⟨g9.bs.length, 0, some 0⟩) 1 1 sl1 (by omega)
  have in1 := incl_spec T TD hk g10 3 1 wRoot (lh [1]) [lh [0], lh [2]] hwR (sha_length _) (by omega) (by omega) ap cpp (R9.fr f10 (fun _ _ h => h))
  have fo1 := foll_spec T TD hk g10 2 3 wTwo wRoot [lh [2]] hwT hwR (by omega) (by omega) aq cpq (Q9.fr f10 (fun _ _ h => h))
  rw [foll3] at fo1
  have in1v : inclF 3 1 wRoot (lh [1]) [lh [0], lh [2]] = 0 := by rw [incl3]; exact if_pos rfl
  rw [in1v] at in1
  generalize hg11 : g10.push (.cells [bv 2] 6) = g11
  have f11 : Fr g10 g11 (fun _ => False) := by rw [← hg11]; exact Fr.push
  have sl2 : SlR C.old g11 1 (.slice (some ⟨g10.bs.length, 0, some 0⟩) 1 1) (bytesVals [2]) := by rw [← hg11]; exact one_sl
  have lf2 := leaf_spec TD hk g11 [2] (some ⟨g10.bs.length, 0, some 0⟩) 1 1 sl2 (by omega)
  have in2 := incl_spec T TD hk g11 3 1 wRoot (lh [2]) [lh [0], lh [2]] hwR (sha_length _) (by omega) (by omega) ap cpp ((R9.fr f10 (fun _ _ h => h)).fr f11 (fun _ _ h => h))
  have in2v : inclF 3 1 wRoot (lh [2]) [lh [0], lh [2]] = 236 := by rw [incl3]; exact if_neg (fun h => wakes_sha.mp h)
  rw [in2v] at in2
  have m8 : g10.at g4.bs.length = some (.cells (uv 3 :: bytesVals wRoot) 36) := f10.get k8 (fun h => h)
  have m9 : g10.at g6.bs.length = some (.cells (uv 2 :: bytesVals wTwo) 36) := f10.get k9 (fun h => h)
  have n8 : g11.at g4.bs.length = some (.cells (uv 3 :: bytesVals wRoot) 36) := f11.get m8 (fun h => h)
  have lhd : ∀ b : UInt8, sha [0, b] = lh [b] := fun _ => rfl
  rw [lhd] at lf1 lf2
  subst hvp
  subst hvq
  simp at in1 in2 fo1 e7 e8
  have r : R C r23 [.code k23_0] t4 [] g3 = some (.bool true, g11) := by
    simp [k23_0, u4, Dc_ok, e5, hz, hZ, bytes_ok, hwR, hwT, writeN_wr, hlo4, s5, wz, hg5, e6, hlo6, s6, hg7, e7, e8, num_spec TW, v8, v9, k8, k9, rz, hb1, hb2, fillCells, splice, hg10, lf1, in1, m8, m9, fo1, hg11, lf2, in2, n8, r23]
  rw [r]
  exact pur_some rfl
end Go.Ab.Aud

namespace Go.Ab.Aud
open Go.Sha
theorem foldW_snoc : ∀ (w : List Bool) (ps : List (List UInt8)) (b : Bool) (p x : List UInt8), w.length = ps.length → foldW (w ++ [b]) (ps ++ [p]) x = stepW b p (foldW w ps x)
  | [], [], _, _, _, _ => rfl
  | _ :: w, _ :: ps, b, p, x, h => by
    simp only [List.cons_append, foldW]
    exact foldW_snoc w ps b p _ (by simpa using h)
theorem snoc_last {l : List (List UInt8)} (h : l.length ≠ 0) : l = l.take (l.length - 1) ++ [l.getD (l.length - 1) []] := by
  have hi : l.length - 1 < l.length := by omega
  have := List.take_succ_eq_append_getElem hi
  rw [show l.length - 1 + 1 = l.length by omega, List.take_length] at this
  rw [List.getD_eq_getElem?_getD, List.getElem?_eq_getElem hi]
  exact this
/-- the way up, read one way or the other -/
theorem climb_fold : ∀ (f k n s : Nat) (leaf : List UInt8) (ps : List (List UInt8)), (downF f n s).length = ps.length → ps.length ≤ k → s ≤ 2 ^ f → n < s → (climbF k n s leaf ps).2 = foldW (downF f n s).reverse ps leaf
  | 0, k, n, s, leaf, ps, h, hk, hs, hn => by
    have : ps = [] := List.eq_nil_of_length_eq_zero (by simp [downF] at h; omega)
    subst this
    cases k <;> simp [climbF, downF, foldW]
  | f + 1, k, n, s, leaf, ps, h, hk, hs, hn => by
    unfold downF at h ⊢
    by_cases h1 : s ≤ 1
    · rw [if_pos h1] at h ⊢
      have : ps = [] := List.eq_nil_of_length_eq_zero (by simp at h; omega)
      subst this
      cases k <;> simp [climbF, foldW]
    · rw [if_neg h1] at h ⊢
      have k1 := lft_lt (n := s) (by omega)
      have k0 := lft_pos (n := s)
      have k2 := lft_ge (n := s) (by omega)
      have k3 := lft_pow (s := s) (f := f) (by omega) hs
      by_cases h2 : n < lft s
      · rw [if_pos h2] at h ⊢
        simp only [List.length_cons] at h
        obtain ⟨k, rfl⟩ : ∃ k', k = k' + 1 := ⟨k - 1, by omega⟩
        have hl := snoc_last (l := ps) (by omega)
        have ih := climb_fold f k n (lft s) leaf (ps.take (ps.length - 1)) (by simp; omega) (by simp; omega) k3 h2
        unfold climbF
        rw [if_neg (by omega), if_pos h2]
        conv => rhs; rw [hl]
        rw [List.reverse_cons, foldW_snoc _ _ _ _ _ (by simp; omega), ih]
        rfl
      · rw [if_neg h2] at h ⊢
        simp only [List.length_cons] at h
        obtain ⟨k, rfl⟩ : ∃ k', k = k' + 1 := ⟨k - 1, by omega⟩
        have hl := snoc_last (l := ps) (by omega)
        have ih := climb_fold f k (n - lft s) (s - lft s) leaf (ps.take (ps.length - 1)) (by simp; omega) (by simp; omega) (by omega) (by omega)
        unfold climbF
        rw [if_neg (by omega), if_neg h2]
        conv => rhs; rw [hl]
        rw [List.reverse_cons, foldW_snoc _ _ _ _ _ (by simp; omega), ih]
        rfl
/-- two unlike rows of one digest, in a list -/
def Met' (l : List (List UInt8 × List UInt8)) : Prop := ∃ x y, x ∈ l ∧ y ∈ l ∧ x.2 = y.2 ∧ x.1 ≠ y.1
theorem met_of {l : List (List UInt8 × List UInt8)} (h : Met' l) : Met l := by
  obtain ⟨x, y, hx, hy, h1, h2⟩ := h
  obtain ⟨i, hi, ei⟩ := List.mem_iff_getElem.1 hx
  obtain ⟨k, hk, ek⟩ := List.mem_iff_getElem.1 hy
  have gi : l.getD i ([], []) = x := by rw [List.getD_eq_getElem?_getD, List.getElem?_eq_getElem hi, ← ei]; rfl
  have gk : l.getD k ([], []) = y := by rw [List.getD_eq_getElem?_getD, List.getElem?_eq_getElem hk, ← ek]; rfl
  rcases Nat.lt_trichotomy k i with h3 | h3 | h3
  · refine ⟨i, k, h3, hi, ?_⟩
    unfold hit
    rw [gi, gk, decide_eq_true h1, decide_eq_false h2]; rfl
  · subst h3
    rw [gi] at gk
    exact absurd (by rw [gk]) h2
  · refine ⟨k, i, h3, hk, ?_⟩
    unfold hit
    rw [gi, gk, decide_eq_true h1.symm, decide_eq_false (fun h => h2 h.symm)]; rfl
theorem Met'.mono {l l' : List (List UInt8 × List UInt8)} (h : Met' l) (hs : ∀ x, x ∈ l → x ∈ l') : Met' l' := by
  obtain ⟨x, y, hx, hy, h1⟩ := h
  exact ⟨x, y, hs x hx, hs y hy, h1⟩
end Go.Ab.Aud

namespace Go.Ab.Aud
open Go.Sha
/-- digests that were given -/
def ArgDig (old : Old) (v : Value) (l : List (List UInt8)) : Prop := ∃ a cp, v = .slice a l.length cp ∧ (∀ h, DigR old h a cp l) ∧ ∀ j, ¬ Live (.slice a l.length cp) j
/-- a path, at this time -/
def DigV (old : Old) (h : AHeap) (v : Value) (l : List (List UInt8)) : Prop := ∃ a cp, v = .slice a l.length cp ∧ DigR old h a cp l
theorem DigV.fr {old : Old} {h h' : AHeap} {v : Value} {l : List (List UInt8)} (H : DigV old h v l) (f : Fr h h' (fun _ => False)) : DigV old h' v l := by
  obtain ⟨a, cp, h1, h2⟩ := H
  exact ⟨a, cp, h1, h2.fr f (fun _ _ h => h)⟩
/-- append([][32]byte{}, path...) -/
theorem dig_copy {old : Old} {h : AHeap} {v : Value} {l : List (List UInt8)} (H : DigV old h v l) (hl : l.length < 2 ^ 20) (hwf : h.lo ≤ h.bs.length) :
    ∃ v' h', appendV old h 30 32 32 emptySl v = some (v', h') ∧ DigO h' v' l ∧ Fr h h' (fun _ => False) ∧ (∀ j, blkOf v' = some j → h.bs.length ≤ j) := by
  obtain ⟨a, cp, rfl, D⟩ := H
  obtain ⟨v', h', e, o, f, b⟩ := append_own (old := old) (bytes := 32) (x := .slice a l.length cp) (m := l.length) (new := leafCells l) (Own.empty (h := h) (e := 30) (k := 32)) (by omega) rfl
    (fun hn => D.1.src hn) (fun h0 => by rw [List.eq_nil_of_length_eq_zero h0]; rfl) (leafCells_len D.2) (by
      rw [List.all_eq_true]; intro x hx
      obtain ⟨y, _, hy⟩ := List.mem_flatMap.1 hx
      exact List.all_eq_true.1 bytes_ok x hy) (by simp [sizeLim]; omega) hwf
  rw [Nat.zero_add, List.nil_append] at o
  refine ⟨v', h', e, ⟨o, D.2⟩, f.mono (fun j hj _ => by cases hj), fun j hj => ?_⟩
  rcases b with b | b
  · rw [hj] at b; cases b
  · rw [hj] at b; cases b; omega
theorem laidF_len : ∀ (m left : Nat) (rows : List (List UInt8)), (laidF m left rows).length ≤ m
  | 0, _, _ => by simp [laidF]
  | m + 1, _, [] => by simp [laidF]
  | m + 1, left, r :: rs => by
    unfold laidF
    split
    · have := laidF_len m left rs; omega
    · split
      · simp
      · have := laidF_len m (left - (r.length + 100)) rs; simp; omega
theorem laidF_long : ∀ (m left : Nat) (rows : List (List UInt8)), ∀ x, x ∈ laidF m left rows → x.length ≤ 16384
  | 0, _, _, x, h => by simp [laidF] at h
  | m + 1, _, [], x, h => by simp [laidF] at h
  | m + 1, left, r :: rs, x, h => by
    unfold laidF at h
    split at h
    · exact laidF_long m left rs x h
    · split at h
      · cases h
      · rcases List.mem_cons.1 h with h | h
        · subst h; omega
        · exact laidF_long m _ rs x h
theorem RowsO.get {old : Old} {h : AHeap} {v : Value} {l : List (List UInt8)} (H : RowsO old h v l) {i : Nat} (hi : i < l.length) : ∃ a' a cp, v = .slice (some a') l.length 0 ∧ read1 old h (adda a' i) = some (.slice a (l.getD i []).length cp) ∧ (∀ h, SlR old h 1 (.slice a (l.getD i []).length cp) (bytesVals (l.getD i []))) := by
  obtain ⟨vs, o, g⟩ := H
  have hv0 : ∃ va', v = .slice (some va') l.length 0 := by
    rcases o with ⟨_, h0, _⟩ | ⟨b, g', last, hv, _⟩
    · omega
    · exact ⟨_, hv⟩
  obtain ⟨a', rfl⟩ := hv0
  obtain ⟨x, hx, a, cp, e, s, _⟩ := g i hi
  refine ⟨a', a, cp, rfl, ?_, s⟩
  rw [own_rd o hi, hx, e]
end Go.Ab.Aud

namespace Go.Ab.Aud
open Go.Sha
section
variable {H : Type} {enc : TypeId × Value → H} {P : Program} {W : World} {spare : Nat → Bool} {held : Bool}
theorem wf_u8 {n : Int} (h : (Lit.int .u8 n).wf = true) : ∃ b : UInt8, Value.int .u8 n = bv b := by
  simp only [Lit.wf, Bool.and_eq_true, decide_eq_true_eq] at h
  have h1 : 0 ≤ n := h.1
  have h2 : n ≤ 255 := h.2
  refine ⟨UInt8.ofNat n.toNat, ?_⟩
  unfold bv
  congr 1
  rw [UInt8.toNat_ofNat']
  omega
theorem wf_u64 {n : Int} (h : (Lit.int .u64 n).wf = true) : ∃ m : Nat, m < 18446744073709551616 ∧ Value.int .u64 n = uv m := by
  simp only [Lit.wf, Bool.and_eq_true, decide_eq_true_eq] at h
  have h1 : 0 ≤ n := h.1
  have h2 : n ≤ 18446744073709551615 := h.2
  refine ⟨n.toNat, by omega, ?_⟩
  unfold uv
  congr 1
  omega
/-- bytes -/
theorem arg_bytes {t e : Nat} {fuel : Nat} {cs : List Value} {x : DataW H × List MemPlace} (ht : P.underlying t = some (.slice e)) (hk : P.cellsOf e = 1) (he : P.underlying e = some (.int .u8)) (hsp : ∀ b, spare b = true)
    (h : DataW.trod enc P W 0 spare held fuel t cs = some x) : ∃ v av l, cs = [v] ∧ oldV v = some av ∧ ArgB (oldOf W) av l := by
  obtain ⟨v, av, a, len, cp, els, h1, h2, h3, h4, h5, h6, h7, h8⟩ := arg_slice ht hk (by omega) hsp (fun c => ∃ b, c = [bv b]) (fun n cs y _ htr => by
    obtain ⟨n, rfl, _, hw⟩ := DataW.trod_int he htr
    obtain ⟨b, hb⟩ := wf_u8 hw
    refine ⟨[bv b], ⟨rfl, fun i x hx => ?_⟩, b, rfl⟩
    cases i with
    | zero => simp at hx; subst hx; exact ⟨bv b, by rw [hb]; rfl, rfl⟩
    | succ i => simp at hx) h
  have : ∀ els : List (List Value), (∀ c, c ∈ els → (∃ b, c = [bv b]) ∧ c.length = 1) → ∃ l : List UInt8, l.length = els.length ∧ els.flatten = bytesVals l := by
    intro els
    induction els with
    | nil => exact fun _ => ⟨[], rfl, rfl⟩
    | cons c els ih =>
      intro hc
      obtain ⟨l, l1, l2⟩ := ih fun c' hc' => hc c' (by simp [hc'])
      obtain ⟨⟨b, rfl⟩, _⟩ := hc c (by simp)
      exact ⟨b :: l, by simp [l1], by simp [l2, bytesVals_eq]⟩
  obtain ⟨l, l1, l2⟩ := this els h6
  rw [l2] at h7
  refine ⟨v, av, l, h1, h2, a, cp, by rw [h3, l1, h4], fun g => by rw [l1, h4]; exact h7 g, fun j => by rw [l1, h4]; exact h8 j⟩
/-- rows of bytes -/
theorem arg_rows {t e b : Nat} {fuel : Nat} {cs : List Value} {x : DataW H × List MemPlace} (ht : P.underlying t = some (.slice e)) (he : P.underlying e = some (.slice b)) (hk : P.cellsOf b = 1) (hk2 : P.cellsOf e = 1) (hb : P.underlying b = some (.int .u8)) (hsp : ∀ b, spare b = true)
    (h : DataW.trod enc P W 0 spare held fuel t cs = some x) : ∃ v av rows, cs = [v] ∧ oldV v = some av ∧ ArgR (oldOf W) av rows ∧ rows.length ≤ maxLen := by
  obtain ⟨v, av, a, len, cp, els, h1, h2, h3, h4, h5, h6, h7, h8⟩ := arg_slice ht hk2 (by omega) hsp (fun c => ∃ y l, c = [y] ∧ ArgB (oldOf W) y l) (fun n cs y _ htr => by
    obtain ⟨v, av, l, rfl, h2, h3⟩ := arg_bytes he hk hb hsp htr
    refine ⟨[av], ⟨rfl, fun i x hx => ?_⟩, av, l, rfl, h3⟩
    cases i with
    | zero => simp at hx; subst hx; exact ⟨av, h2, rfl⟩
    | succ i => simp at hx) h
  have : ∀ els : List (List Value), (∀ c, c ∈ els → (∃ y l, c = [y] ∧ ArgB (oldOf W) y l) ∧ c.length = 1) → ∃ rows : List (List UInt8), rows.length = els.length ∧ ∀ i, i < rows.length → ∃ x, els.flatten[i]? = some x ∧ ArgB (oldOf W) x (rows.getD i []) := by
    intro els
    induction els with
    | nil => exact fun _ => ⟨[], rfl, fun i hi => by cases hi⟩
    | cons c els ih =>
      intro hc
      obtain ⟨rows, l1, l2⟩ := ih fun c' hc' => hc c' (by simp [hc'])
      obtain ⟨⟨y, l, rfl, hy⟩, _⟩ := hc c (by simp)
      refine ⟨l :: rows, by simp [l1], fun i hi => ?_⟩
      cases i with
      | zero => exact ⟨y, by simp, by simpa using hy⟩
      | succ i =>
        obtain ⟨x, hx, hB⟩ := l2 i (by simpa using hi)
        exact ⟨x, by simpa using hx, by simpa [List.getD_eq_getElem?_getD] using hB⟩
  obtain ⟨rows, l1, l2⟩ := this els h6
  exact ⟨v, av, rows, h1, h2, ⟨a, cp, els.flatten, by rw [h3, l1, h4], fun g => by rw [l1, h4]; exact h7 g, fun j => by rw [l1, h4]; exact h8 j, l2⟩, by omega⟩
end
end Go.Ab.Aud

namespace Go.Proofs.YtecbgdnoblhldaaGreatDoor.au
open Go Go.Ab Go.Ab.Aud Go.Sha
theorem cells29 : Tryz.prog.cellsOf 29 = 1 := by kernel_rfl
theorem cells26 : Tryz.prog.cellsOf 26 = 1 := by kernel_rfl
theorem cells41 : Tryz.prog.cellsOf 41 = 1 := by kernel_rfl
theorem cells5 : Tryz.prog.cellsOf 5 = 1 := by kernel_rfl
theorem cells3 : Tryz.prog.cellsOf 3 = 1 := by kernel_rfl
theorem OldCells.app {a a' b b' : List Value} (h : OldCells a a') (g : OldCells b b') : OldCells (a ++ b) (a' ++ b') := by
  refine ⟨by rw [List.length_append, List.length_append, h.1, g.1], fun i x hx => ?_⟩
  have hl := h.1
  by_cases hi : i < a.length
  · rw [List.getElem?_append_left hi] at hx
    rw [List.getElem?_append_left (by omega)]
    exact h.2 i x hx
  · rw [List.getElem?_append_right (by omega)] at hx
    rw [List.getElem?_append_right (by omega), ← hl]
    exact g.2 _ x hx
theorem OldCells.one {x y : Value} (h : oldV x = some y) : OldCells [x] [y] := ⟨rfl, fun i z hz => by
  cases i with
  | zero => simp at hz; subst hz; exact ⟨y, h, rfl⟩
  | succ i => simp at hz⟩
theorem cut {l : List Value} (i k : Nat) : l.drop i = (l.drop i).take k ++ l.drop (i + k) := by
  rw [← List.drop_drop, List.take_append_drop]
section
variable {H : Type} {enc : TypeId × Value → H} {W : World} {spare : Nat → Bool} {held : Bool}
end
end Go.Proofs.YtecbgdnoblhldaaGreatDoor.au

namespace Go.Ab.Aud
open Go.Sha
/-- a node: of what it was made, and its digest -/
def nd (x : List UInt8) : List UInt8 × List UInt8 := (x, sha x)
/-- how many digests a proof has -/
def dueF : Nat → Nat → Nat → Bool → Nat
  | 0, m, _, w => if m = 0 ∨ w = true then 0 else 1
  | f + 1, m, n, w => if m = 0 ∨ (n ≤ m ∧ w = true) then 0 else if n ≤ m then 1 else if m ≤ lft n then dueF f m (lft n) w + 1 else dueF f (m - lft n) (n - lft n) false + 1
def gL (r : List (List UInt8 × List UInt8) × List UInt8 × List UInt8) (p : List UInt8) : List (List UInt8 × List UInt8) × List UInt8 × List UInt8 := (r.1 ++ [nd (1 :: (r.2.2 ++ p))], r.2.1, sha (1 :: (r.2.2 ++ p)))
def gR (r : List (List UInt8 × List UInt8) × List UInt8 × List UInt8) (p : List UInt8) : List (List UInt8 × List UInt8) × List UInt8 × List UInt8 := (r.1 ++ [nd (1 :: (p ++ r.2.1)), nd (1 :: (p ++ r.2.2))], sha (1 :: (p ++ r.2.1)), sha (1 :: (p ++ r.2.2)))
/-- the nodes of a proof's two roots, and these -/
def grownF : Nat → Nat → Nat → Bool → List UInt8 → List (List UInt8) → List (List UInt8 × List UInt8) × List UInt8 × List UInt8
  | 0, _, _, w, old, ps => if w = true then ([], old, old) else ([], ps.getD 0 [], ps.getD 0 [])
  | f + 1, m, n, w, old, ps => if m = n then (if w = true then ([], old, old) else ([], ps.getD 0 [], ps.getD 0 [])) else
      if m ≤ lft n then gL (grownF f m (lft n) w old (ps.take (ps.length - 1))) (ps.getD (ps.length - 1) [])
      else gR (grownF f (m - lft n) (n - lft n) false old (ps.take (ps.length - 1))) (ps.getD (ps.length - 1) [])
theorem init_snoc {A : List (List UInt8)} {x : List UInt8} : (A ++ [x]).take ((A ++ [x]).length - 1) = A := by simp
theorem last_snoc {A : List (List UInt8)} {x : List UInt8} : (A ++ [x]).getD ((A ++ [x]).length - 1) [] = x := by simp [List.getD_eq_getElem?_getD]
def offW (w : Bool) (d : List Bool) : Nat := if w = true then one1 d else 1
theorem one1_le {d : List Bool} : one1 d ≤ 1 := by unfold one1; split <;> omega
theorem offW_le {w : Bool} {d : List Bool} : offW w d ≤ 1 := by unfold offW; split; exact one1_le; omega
theorem one1_f {d : List Bool} : one1 (false :: d) = one1 d := by simp [one1]
theorem one1_t {d : List Bool} : one1 (true :: d) = 1 := by simp [one1]
theorem due_md : ∀ (f m n : Nat) (w : Bool), 0 < m → m ≤ n → n ≤ 2 ^ f → dueF f m n w = offW w (mdown f m n) + (mdown f m n).length
  | 0, m, n, w, h0, h1, h2 => by
    simp only [dueF, mdown, offW]
    cases w <;> simp [one1, show ¬ m = 0 by omega]
  | f + 1, m, n, w, h0, h1, h2 => by
    unfold dueF mdown
    by_cases h : n ≤ m
    · rw [if_pos (Or.inr h : m = 0 ∨ n ≤ m)]
      cases w <;> simp [h, offW, one1, show ¬ m = 0 by omega]
    · have k1 := lft_lt (n := n) (by omega)
      have k3 := lft_pow (s := n) (f := f) (by omega) h2
      have k2 := lft_ge (n := n) (by omega)
      rw [if_neg (by omega), if_neg h, if_neg (show ¬ (m = 0 ∨ n ≤ m) by omega)]
      by_cases hk : m ≤ lft n
      · rw [if_pos hk, if_neg (by omega), due_md f m (lft n) w h0 hk k3]
        simp only [offW, one1_f, List.length_cons]
        omega
      · rw [if_neg hk, if_pos (by omega), due_md f (m - lft n) (n - lft n) false (by omega) (by omega) (by omega)]
        have hp : 2 ^ (f + 1) = 2 * 2 ^ f := by rw [Nat.pow_succ]; omega
        simp only [offW, one1_t, List.length_cons]
        cases w <;> simp <;> omega
theorem foldP_snoc : ∀ (w : List Bool) (ps : List (List UInt8)) (c : Bool) (p a b : List UInt8), w.length = ps.length →
    foldP (w ++ [c]) (ps ++ [p]) a b = if c = true then (sha (1 :: (p ++ (foldP w ps a b).1)), sha (1 :: (p ++ (foldP w ps a b).2))) else ((foldP w ps a b).1, sha (1 :: ((foldP w ps a b).2 ++ p)))
  | [], [], c, p, a, b, _ => by cases c <;> simp [foldP]
  | true :: ws, q :: ps, c, p, a, b, h => by
    simp only [List.cons_append, foldP]
    exact foldP_snoc ws ps c p _ _ (by simpa using h)
  | false :: ws, q :: ps, c, p, a, b, h => by
    simp only [List.cons_append, foldP]
    exact foldP_snoc ws ps c p _ _ (by simpa using h)
theorem getD_init {ps : List (List UInt8)} (h : 1 ≤ ps.length - 1) : (ps.take (ps.length - 1)).getD 0 [] = ps.getD 0 [] := by
  simp only [List.getD_eq_getElem?_getD, List.getElem?_take]
  rw [if_pos (by omega)]
theorem drop_last {ps : List (List UInt8)} {o : Nat} (h : o ≤ ps.length - 1) (h1 : ps.length ≠ 0) : ps.drop o = (ps.take (ps.length - 1)).drop o ++ [ps.getD (ps.length - 1) []] := by
  conv => lhs; rw [snoc_last h1]
  rw [List.drop_append_of_le_length (by simp; omega)]
theorem grown_fold : ∀ (f m n : Nat) (w : Bool) (old : List UInt8) (ps : List (List UInt8)), 0 < m → m ≤ n → n ≤ 2 ^ f → ps.length = dueF f m n w →
    (grownF f m n w old ps).2 = foldP (mdown f m n).reverse (ps.drop (offW w (mdown f m n))) (if offW w (mdown f m n) = 1 then ps.getD 0 [] else old) (if offW w (mdown f m n) = 1 then ps.getD 0 [] else old)
  | 0, m, n, w, old, ps, h0, h1, h2, hl => by
    simp only [grownF, mdown, offW]
    cases w <;> simp [foldP, one1]
  | f + 1, m, n, w, old, ps, h0, h1, h2, hl => by
    unfold grownF mdown
    unfold dueF at hl
    by_cases h : n ≤ m
    · obtain rfl : m = n := by omega
      rw [if_pos rfl, if_pos (Or.inr h : m = 0 ∨ m ≤ m)]
      cases w <;> simp [foldP, one1, offW]
    · have k1 := lft_lt (n := n) (by omega)
      have k3 := lft_pow (s := n) (f := f) (by omega) h2
      have k2 := lft_ge (n := n) (by omega)
      rw [if_neg (by omega), if_neg h] at hl
      rw [if_neg (by omega), if_neg (show ¬ (m = 0 ∨ n ≤ m) by omega)]
      by_cases hk : m ≤ lft n
      · rw [if_pos hk] at hl
        rw [if_pos hk, if_neg (by omega)]
        have hd := due_md f m (lft n) w h0 hk k3
        have ho := offW_le (w := w) (d := mdown f m (lft n))
        have hoe : offW w (false :: mdown f m (lft n)) = offW w (mdown f m (lft n)) := by simp [offW, one1_f]
        have ih := grown_fold f m (lft n) w old (ps.take (ps.length - 1)) h0 hk k3 (by simp; omega)
        rw [hoe, List.reverse_cons, drop_last (o := offW w (mdown f m (lft n))) (by omega) (by omega), foldP_snoc _ _ _ _ _ _ (by simp; omega), if_neg (by simp)]
        have hs : (if offW w (mdown f m (lft n)) = 1 then (ps.take (ps.length - 1)).getD 0 [] else old) = (if offW w (mdown f m (lft n)) = 1 then ps.getD 0 [] else old) := by
          by_cases h1 : offW w (mdown f m (lft n)) = 1
          · rw [if_pos h1, if_pos h1, getD_init (by omega)]
          · rw [if_neg h1, if_neg h1]
        rw [hs] at ih
        rw [← ih]
        rfl
      · rw [if_neg hk] at hl
        rw [if_neg hk, if_pos (by omega)]
        have hp : 2 ^ (f + 1) = 2 * 2 ^ f := by rw [Nat.pow_succ]; omega
        have hd := due_md f (m - lft n) (n - lft n) false (by omega) (by omega) (by omega)
        have hoe : offW w (true :: mdown f (m - lft n) (n - lft n)) = 1 := by simp [offW, one1_t]
        have hoe2 : offW false (mdown f (m - lft n) (n - lft n)) = 1 := rfl
        have ih := grown_fold f (m - lft n) (n - lft n) false old (ps.take (ps.length - 1)) (by omega) (by omega) (by omega) (by simp; omega)
        rw [hoe2] at ih hd
        rw [hoe, List.reverse_cons, drop_last (o := 1) (by omega) (by omega), foldP_snoc _ _ _ _ _ _ (by simp; omega), if_pos rfl, if_pos rfl]
        rw [if_pos rfl, getD_init (by omega)] at ih
        rw [← ih]
        rfl
/-- what Follows takes -/
theorem foll_ok {m n : Nat} {o r : List UInt8} {ps : List (List UInt8)} (hn : n < 2 ^ 64) (h0 : 0 < m) : follF m n o r ps = 0 ↔ m ≤ n ∧ ps.length = dueF 64 m n true ∧ (grownF 64 m n true o ps).2 = (o, r) := by
  unfold follF
  by_cases h1 : n < m
  · rw [if_pos h1]; constructor
    · intro h; omega
    · rintro ⟨h, _⟩; omega
  · have hd := due_md 64 m n true h0 (by omega) (by omega)
    have he : offW true (mdown 64 m n) = one1 (mdown 64 m n) := rfl
    rw [he] at hd
    rw [if_neg h1]
    by_cases h2 : ps.length ≠ one1 (mdown 64 m n) + (mdown 64 m n).length
    · rw [if_pos h2]; constructor
      · intro h; omega
      · rintro ⟨_, h, _⟩; omega
    · rw [if_neg h2, if_neg (by omega)]
      have g := grown_fold 64 m n true o ps h0 (by omega) (by omega) (by omega)
      rw [he] at g
      rw [g]
      by_cases hc : foldP (mdown 64 m n).reverse (ps.drop (one1 (mdown 64 m n))) (if one1 (mdown 64 m n) = 1 then ps.getD 0 [] else o) (if one1 (mdown 64 m n) = 1 then ps.getD 0 [] else o) = (o, r)
      · rw [if_pos hc]; exact ⟨fun _ => ⟨by omega, by omega, hc⟩, fun _ => rfl⟩
      · rw [if_neg hc]; exact ⟨fun h => by omega, fun ⟨_, _, h'⟩ => absurd h' hc⟩
theorem grown_32 : ∀ (f m n : Nat) (w : Bool) (old : List UInt8) (ps : List (List UInt8)), 0 < m → m ≤ n → n ≤ 2 ^ f → ps.length = dueF f m n w → old.length = 32 → (∀ x, x ∈ ps → x.length = 32) →
    (grownF f m n w old ps).2.1.length = 32 ∧ (grownF f m n w old ps).2.2.length = 32 := by
  intro f m n w old ps h0 h1 h2 hl ho hps
  rw [grown_fold f m n w old ps h0 h1 h2 hl]
  have hd := due_md f m n w h0 h1 h2
  apply foldP_length
  · split
    · exact get32 hps (by omega)
    · exact ho
  · split
    · exact get32 hps (by omega)
    · exact ho
theorem grown_old : ∀ (f m n : Nat) (o1 o2 : List UInt8) (ps : List (List UInt8)), grownF f m n false o1 ps = grownF f m n false o2 ps
  | 0, _, _, _, _, _ => rfl
  | f + 1, m, n, o1, o2, ps => by
    unfold grownF
    rw [grown_old f m (lft n) o1 o2, grown_old f (m - lft n) (n - lft n) o1 o2]
    rfl
/-- two nodes of one digest are alike, or they meet -/
theorem nd_eq {x y : List UInt8} {l : List (List UInt8 × List UInt8)} (h : sha x = sha y) (hx : nd x ∈ l) (hy : nd y ∈ l) : x = y ∨ Met' l := by
  by_cases e : x = y
  · exact .inl e
  · exact .inr ⟨_, _, hx, hy, h, e⟩
theorem cat_inj {a b c d : List UInt8} (h : (1 :: (a ++ b) : List UInt8) = 1 :: (c ++ d)) (hl : a.length = c.length) : a = c ∧ b = d := by
  injection h with _ h
  exact List.append_inj h hl
/-- two proofs that lead to one root are alike, or two nodes meet -/
theorem grow_two : ∀ (f m n : Nat) (w : Bool) (o1 o2 : List UInt8) (p1 p2 : List (List UInt8)), 0 < m → m ≤ n → n ≤ 2 ^ f → p1.length = dueF f m n w → p2.length = dueF f m n w → o1.length = 32 → o2.length = 32 → (∀ x, x ∈ p1 → x.length = 32) → (∀ x, x ∈ p2 → x.length = 32) →
    (grownF f m n w o1 p1).2.2 = (grownF f m n w o2 p2).2.2 → Met' ((grownF f m n w o1 p1).1 ++ (grownF f m n w o2 p2).1) ∨ (p1 = p2 ∧ (w = true → one1 (mdown f m n) = 0 → o1 = o2))
  | 0, m, n, w, o1, o2, p1, p2, h0, h1, h2, l1, l2, ho1, ho2, q1, q2, he => by
    right
    simp only [dueF, show ¬ m = 0 by omega, false_or] at l1 l2
    unfold grownF at he
    cases w
    · simp at l1 l2 he
      obtain ⟨x, rfl⟩ := List.length_eq_one_iff.1 l1
      obtain ⟨y, rfl⟩ := List.length_eq_one_iff.1 l2
      simp at he
      exact ⟨by rw [he], fun h => by cases h⟩
    · simp at l1 l2 he
      subst l1; subst l2
      exact ⟨rfl, fun _ _ => he⟩
  | f + 1, m, n, w, o1, o2, p1, p2, h0, h1, h2, l1, l2, ho1, ho2, q1, q2, he => by
    unfold dueF at l1 l2
    unfold grownF at he ⊢
    by_cases h : n ≤ m
    · right
      obtain rfl : m = n := by omega
      rw [if_pos rfl, if_pos rfl] at he
      cases w
      · simp [show ¬ m = 0 by omega] at l1 l2 he
        obtain ⟨x, rfl⟩ := List.length_eq_one_iff.1 l1
        obtain ⟨y, rfl⟩ := List.length_eq_one_iff.1 l2
        simp at he
        exact ⟨by rw [he], fun h => by cases h⟩
      · simp at l1 l2 he
        subst l1; subst l2
        exact ⟨rfl, fun _ _ => he⟩
    · have k1 := lft_lt (n := n) (by omega)
      have k3 := lft_pow (s := n) (f := f) (by omega) h2
      have k2 := lft_ge (n := n) (by omega)
      have hp : 2 ^ (f + 1) = 2 * 2 ^ f := by rw [Nat.pow_succ]; omega
      rw [if_neg (by omega), if_neg h] at l1 l2
      have hmn : ¬ m = n := by omega
      simp only [if_neg hmn] at he ⊢
      have z1 := snoc_last (l := p1) (by split at l1 <;> omega)
      have z2 := snoc_last (l := p2) (by split at l2 <;> omega)
      by_cases hk : m ≤ lft n
      · simp only [if_pos hk] at l1 l2 he ⊢
        have ih := grow_two f m (lft n) w o1 o2 (p1.take (p1.length - 1)) (p2.take (p2.length - 1)) h0 hk k3 (by simp; omega) (by simp; omega) ho1 ho2 (mem_take32 q1 _) (mem_take32 q2 _)
        have g1 := grown_32 f m (lft n) w o1 (p1.take (p1.length - 1)) h0 hk k3 (by simp; omega) ho1 (mem_take32 q1 _)
        have g2 := grown_32 f m (lft n) w o2 (p2.take (p2.length - 1)) h0 hk k3 (by simp; omega) ho2 (mem_take32 q2 _)
        have hmd : mdown (f + 1) m n = false :: mdown f m (lft n) := by conv => lhs; unfold mdown
                                                                        rw [if_neg (by omega), if_neg (by omega)]
        rw [hmd, one1_f]
        generalize grownF f m (lft n) w o1 (p1.take (p1.length - 1)) = r1 at ih he g1 ⊢
        generalize grownF f m (lft n) w o2 (p2.take (p2.length - 1)) = r2 at ih he g2 ⊢
        simp only [gL] at he ⊢
        rcases nd_eq (l := r1.1 ++ [nd (1 :: (r1.2.2 ++ p1.getD (p1.length - 1) []))] ++ (r2.1 ++ [nd (1 :: (r2.2.2 ++ p2.getD (p2.length - 1) []))])) he (by simp) (by simp) with e | e
        · obtain ⟨e1, e2⟩ := cat_inj e (by omega)
          rcases ih e1 with h | ⟨h, h'⟩
          · exact .inl (h.mono fun x hx => by simp at hx ⊢; rcases hx with hx | hx <;> simp [hx])
          · refine .inr ⟨?_, h'⟩
            rw [z1, z2, h, e2]
        · exact .inl e
      · simp only [if_neg hk] at l1 l2 he ⊢
        have ih := grow_two f (m - lft n) (n - lft n) false o1 o2 (p1.take (p1.length - 1)) (p2.take (p2.length - 1)) (by omega) (by omega) (by omega) (by simp; omega) (by simp; omega) ho1 ho2 (mem_take32 q1 _) (mem_take32 q2 _)
        have hmd : mdown (f + 1) m n = true :: mdown f (m - lft n) (n - lft n) := by conv => lhs; unfold mdown
                                                                                     rw [if_neg (by omega), if_pos (by omega)]
        rw [hmd, one1_t]
        generalize grownF f (m - lft n) (n - lft n) false o1 (p1.take (p1.length - 1)) = r1 at ih he ⊢
        generalize grownF f (m - lft n) (n - lft n) false o2 (p2.take (p2.length - 1)) = r2 at ih he ⊢
        have x1 := get32 q1 (i := p1.length - 1) (by omega)
        have x2 := get32 q2 (i := p2.length - 1) (by omega)
        simp only [gR] at he ⊢
        rcases nd_eq (l := r1.1 ++ [nd (1 :: (p1.getD (p1.length - 1) [] ++ r1.2.1)), nd (1 :: (p1.getD (p1.length - 1) [] ++ r1.2.2))] ++ (r2.1 ++ [nd (1 :: (p2.getD (p2.length - 1) [] ++ r2.2.1)), nd (1 :: (p2.getD (p2.length - 1) [] ++ r2.2.2))])) he (by simp) (by simp) with e | e
        · obtain ⟨e1, e2⟩ := cat_inj e (by omega)
          rcases ih e2 with h | ⟨h, _⟩
          · exact .inl (h.mono fun x hx => by simp at hx ⊢; rcases hx with hx | hx <;> simp [hx])
          · refine .inr ⟨?_, fun _ h => by omega⟩
            rw [z1, z2, h, e1]
        · exact .inl e
end Go.Ab.Aud

namespace Go.Ab.Aud
open Go.Sha
def cL (r : List (List UInt8 × List UInt8) × List UInt8) (p : List UInt8) : List (List UInt8 × List UInt8) × List UInt8 := (r.1 ++ [nd (1 :: (r.2 ++ p))], sha (1 :: (r.2 ++ p)))
def cR (r : List (List UInt8 × List UInt8) × List UInt8) (p : List UInt8) : List (List UInt8 × List UInt8) × List UInt8 := (r.1 ++ [nd (1 :: (p ++ r.2))], sha (1 :: (p ++ r.2)))
theorem climb_lo {n s : Nat} {leaf : List UInt8} {ps : List (List UInt8)} (hs : 2 ≤ s) (hn : n < lft s) (hp : ps.length ≠ 0) : climbF ps.length n s leaf ps = cL (climbF (ps.take (ps.length - 1)).length n (lft s) leaf (ps.take (ps.length - 1))) (ps.getD (ps.length - 1) []) := by
  obtain ⟨k, hk⟩ : ∃ k, ps.length = k + 1 := ⟨ps.length - 1, by omega⟩
  have hl : (ps.take (ps.length - 1)).length = k := by simp; omega
  rw [hl]
  conv => lhs; rw [hk]; unfold climbF
  rw [if_neg (by omega), if_pos hn]
  rfl
theorem climb_hi {n s : Nat} {leaf : List UInt8} {ps : List (List UInt8)} (hs : 2 ≤ s) (hn : ¬ n < lft s) (hp : ps.length ≠ 0) : climbF ps.length n s leaf ps = cR (climbF (ps.take (ps.length - 1)).length (n - lft s) (s - lft s) leaf (ps.take (ps.length - 1))) (ps.getD (ps.length - 1) []) := by
  obtain ⟨k, hk⟩ : ∃ k, ps.length = k + 1 := ⟨ps.length - 1, by omega⟩
  have hl : (ps.take (ps.length - 1)).length = k := by simp; omega
  rw [hl]
  conv => lhs; rw [hk]; unfold climbF
  rw [if_neg (by omega), if_neg hn]
  rfl
theorem down_lo {f n s : Nat} (hs : 2 ≤ s) (hn : n < lft s) : downF (f + 1) n s = false :: downF f n (lft s) := by
  conv => lhs; unfold downF
  rw [if_neg (by omega), if_pos hn]
theorem down_hi {f n s : Nat} (hs : 2 ≤ s) (hn : ¬ n < lft s) : downF (f + 1) n s = true :: downF f (n - lft s) (s - lft s) := by
  conv => lhs; unfold downF
  rw [if_neg (by omega), if_neg hn]
theorem lft_mid {m n : Nat} (h2 : 2 ≤ n) (h : lft n < m) (h' : m ≤ n) : lft m = lft n := by
  unfold lft at h ⊢
  have hp := Nat.two_pow_pos (Nat.log2 (n - 1))
  have hm0 : m - 1 ≠ 0 := by omega
  have a : Nat.log2 (n - 1) ≤ Nat.log2 (m - 1) := by
    rw [Nat.le_log2 hm0]; omega
  have b : Nat.log2 (m - 1) ≤ Nat.log2 (n - 1) := by
    have h3 : 2 ^ Nat.log2 (m - 1) ≤ m - 1 := Nat.log2_self_le hm0
    rw [Nat.le_log2 (by omega)]; omega
  rw [Nat.le_antisymm b a]
/-- a leaf's path leads to the root -/
theorem path_ok : ∀ (g : Nat) (l : List (List UInt8)) (i f : Nat), l.length ≤ g → i < l.length → l.length ≤ 2 ^ f →
    (downF f i l.length).length = (pathF g l i).length ∧ (climbF (pathF g l i).length i l.length (l.getD i []) (pathF g l i)).2 = rootL l
  | 0, l, i, f, hg, hi, hf => by omega
  | g + 1, l, i, f, hg, hi, hf => by
    by_cases h1 : l.length ≤ 1
    · unfold pathF
      rw [if_pos h1]
      obtain ⟨x, rfl⟩ := List.length_eq_one_iff.1 (show l.length = 1 by omega)
      obtain rfl : i = 0 := by simpa using hi
      refine ⟨?_, rfl⟩
      cases f <;> simp [downF]
    · have k1 := lft_lt (n := l.length) (by omega)
      have k0 := lft_pos (n := l.length)
      have k2 := lft_ge (n := l.length) (by omega)
      cases f with
      | zero => simp at hf; omega
      | succ f =>
        have k3 := lft_pow (s := l.length) (f := f) (by omega) hf
        have tl : (l.take (lft l.length)).length = lft l.length := by simp; omega
        have dl : (l.drop (lft l.length)).length = l.length - lft l.length := by simp
        unfold pathF
        rw [if_neg h1]
        by_cases h2 : i < lft l.length
        · rw [if_pos h2]
          obtain ⟨a, b⟩ := path_ok g (l.take (lft l.length)) i f (by omega) (by omega) (by omega)
          rw [tl] at a b
          refine ⟨by rw [down_lo (by omega) h2]; simp [a], ?_⟩
          rw [climb_lo (by omega) h2 (by simp), init_snoc, last_snoc]
          have e : (l.take (lft l.length)).getD i [] = l.getD i [] := by
            simp only [List.getD_eq_getElem?_getD, List.getElem?_take]; rw [if_pos h2]
          rw [e] at b
          simp only [cL, b]
          rw [rootL_two (l := l) (by omega)]
          rfl
        · rw [if_neg h2]
          obtain ⟨a, b⟩ := path_ok g (l.drop (lft l.length)) (i - lft l.length) f (by omega) (by omega) (by omega)
          rw [dl] at a b
          refine ⟨by rw [down_hi (by omega) h2]; simp [a], ?_⟩
          rw [climb_hi (by omega) h2 (by simp), init_snoc, last_snoc]
          have e : (l.drop (lft l.length)).getD (i - lft l.length) [] = l.getD i [] := by
            simp only [List.getD_eq_getElem?_getD, List.getElem?_drop]
            rw [show lft l.length + (i - lft l.length) = i by omega]
          rw [e] at b
          simp only [cR, b]
          rw [rootL_two (l := l) (by omega)]
          rfl
/-- what follows is shown by its proof -/
theorem proof_ok : ∀ (g : Nat) (l : List (List UInt8)) (m f : Nat) (w : Bool), l.length ≤ g → 0 < m → m ≤ l.length → l.length ≤ 2 ^ f →
    (proofF g l m w).length = dueF f m l.length w ∧ (grownF f m l.length w (rootL (l.take m)) (proofF g l m w)).2 = (rootL (l.take m), rootL l)
  | 0, l, m, f, w, hg, h0, hm, hf => by omega
  | g + 1, l, m, f, w, hg, h0, hm, hf => by
    unfold proofF
    by_cases h1 : m = l.length
    · rw [if_pos h1]
      have ht : l.take m = l := by rw [h1, List.take_length]
      rw [ht]
      cases f with
      | zero => cases w <;> simp [dueF, grownF, show ¬ m = 0 by omega]
      | succ f => cases w <;> simp [dueF, grownF, h1, show ¬ l.length = 0 by omega]
    · rw [if_neg h1]
      have k1 := lft_lt (n := l.length) (by omega)
      have k0 := lft_pos (n := l.length)
      have k2 := lft_ge (n := l.length) (by omega)
      cases f with
      | zero => simp at hf; omega
      | succ f =>
        have k3 := lft_pow (s := l.length) (f := f) (by omega) hf
        have tl : (l.take (lft l.length)).length = lft l.length := by simp; omega
        have dl : (l.drop (lft l.length)).length = l.length - lft l.length := by simp
        unfold dueF grownF
        rw [if_neg (show ¬ (m = 0 ∨ (l.length ≤ m ∧ w = true)) by omega), if_neg (show ¬ l.length ≤ m by omega), if_neg h1]
        by_cases h2 : m ≤ lft l.length
        · rw [if_pos h2, if_pos h2, if_pos h2]
          obtain ⟨a, b⟩ := proof_ok g (l.take (lft l.length)) m f w (by omega) h0 (by omega) (by omega)
          rw [tl] at a b
          refine ⟨by simp [a], ?_⟩
          rw [init_snoc, last_snoc]
          have e : (l.take (lft l.length)).take m = l.take m := by rw [List.take_take, Nat.min_eq_left h2]
          rw [e] at b
          simp only [gL, b]
          rw [rootL_two (l := l) (by omega)]
          rfl
        · rw [if_neg h2, if_neg h2, if_neg h2]
          obtain ⟨a, b⟩ := proof_ok g (l.drop (lft l.length)) (m - lft l.length) f false (by omega) (by omega) (by omega) (by omega)
          rw [dl] at a b
          refine ⟨by simp [a], ?_⟩
          rw [init_snoc, last_snoc, grown_old _ _ _ _ (rootL ((l.drop (lft l.length)).take (m - lft l.length)))]
          simp only [gR, b]
          have hm2 : (l.take m).length = m := by simp; omega
          have hl := lft_mid (by omega) (show lft l.length < m by omega) hm
          have e1 : rootL (l.take m) = nodeL (rootL (l.take (lft l.length))) (rootL ((l.drop (lft l.length)).take (m - lft l.length))) := by
            rw [rootL_two (l := l.take m) (by omega), hm2, hl, List.take_take, Nat.min_eq_left (by omega), List.drop_take]
          rw [e1, rootL_two (l := l) (by omega)]
          rfl
theorem incl_path {l : List (List UInt8)} {i : Nat} (hi : i < l.length) (hl : l.length < 2 ^ 64) : inclF l.length i (rootL l) (l.getD i []) (pathF l.length l i) = 0 := by
  obtain ⟨a, b⟩ := path_ok l.length l i 64 (Nat.le_refl _) hi (by omega)
  unfold inclF
  rw [if_neg (by omega), if_neg (by omega), ← climb_fold 64 _ i l.length (l.getD i []) _ a (Nat.le_refl _) (by omega) hi, b, if_neg (by simp)]
end Go.Ab.Aud
