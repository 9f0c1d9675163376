/-
  Steps of the proof of WireBackCardSaid: what functions of the program do in the abstract machine, and the laws between; no condition beside those that each theorem names.
-/
import Derived.Test.YtbcadgoemkjbeaaDoorAuA
import Derived.Test.YtbcadgoemkjbeaaDoorAbD

set_option linter.unusedSimpArgs false
set_option linter.unusedVariables false
set_option linter.unusedSectionVars false

namespace Go.Ab.Aud
set_option maxRecDepth 20000
open Go.Wire (amp spl split spl_app spl_one)
open Go.Lib (indexByte countByte)
variable {C : Ctx} (T : Tab_LStr C)
theorem fidx_eq (s : List UInt8) (c : UInt8) : fidx s c = indexByte s c := Go.Lib.firstIdx_eq ⟨⟨s⟩⟩ c
theorem fidx_no {s : List UInt8} {c : UInt8} (h : c ∉ s) : fidx s c = -1 := fidx_none fun b hb hc => h (by rw [← hc]; exact hb)
theorem fidx_at : ∀ (p q : List UInt8) (c : UInt8), c ∉ p → fidx (p ++ c :: q) c = (p.length : Int)
  | [], q, c, _ => by rw [fidx_eq]; simp [indexByte]
  | a :: p, q, c, h => by
    have ih := fidx_at p q c (fun hc => h (by simp [hc]))
    rw [fidx_eq] at ih ⊢
    have hac : (a == c) = false := by
      rw [beq_eq_false_iff_ne]; intro hc; exact h (by simp [hc])
    rw [List.cons_append]
    unfold indexByte
    rw [hac, ih]
    have : (((p.length : Nat) : Int) == -1) = false := by rw [beq_eq_false_iff_ne]; omega
    rw [this]; simp
theorem first_at : ∀ (s : List UInt8) (c : UInt8), c ∈ s → ∃ p q, s = p ++ c :: q ∧ c ∉ p
  | a :: s, c, h => by
    by_cases hac : a = c
    · exact ⟨[], s, by rw [hac]; rfl, by simp⟩
    · obtain ⟨p, q, hs, hp⟩ := first_at s c (by rcases List.mem_cons.1 h with h | h; exact absurd h.symm hac; exact h)
      exact ⟨a :: p, q, by rw [hs]; rfl, by simp [Ne.symm hac, hp]⟩
theorem spl_count : ∀ (s cur : List UInt8), (spl s cur).length = s.count amp + 1
  | [], cur => by simp [spl]
  | c :: s, cur => by
    simp only [spl]
    split
    · rename_i h; subst h; rw [List.length_cons, spl_count s []]; simp
    · rename_i h; rw [spl_count s]; rw [List.count_cons_of_ne (by simpa using h)]
theorem str_eql {a b : List UInt8} : abin .eql (str a) (str b) = some (.bool (decide (a = b))) := by
  simp [abin, str, abinS]
include T in
theorem index_spec (s : List UInt8) (c : UInt8) (h : AHeap) : D C 55 [str s, str [c]] h = some (.int .i64 (fidx s c), h) := by
  have e76 : ∀ h, D C 76 [str s, bv c] h = some (.int .i64 (fidx s c), h) := fun h => by
    rw [D_ext T.x76]
    show some (Value.int .i64 (firstIdx ⟨⟨s⟩⟩ (c.toNat : Int).toNat.toUInt8), h) = _
    have : (c.toNat : Int).toNat.toUInt8 = c := by simp
    rw [this]; rfl
  have e70 : ∀ h, D C 70 [str s, bv c] h = some (.int .i64 (fidx s c), h) := fun h => by
    rw [D_fn3 T.h70 _ rfl]
    simp [b70, Dc2, e76, r70]
  rw [D_fn3 T.h55 _ (by simp)]
  have i0 : ∀ h, idxSv (str [c]) (iv 0) h = some (bv c, h) := fun h => idxSv_str (s := [c]) (i := 0) (by simp)
  by_cases hs : [c] = s
  · subst hs
    have hf : fidx [c] c = 0 := fidx_at [] [] c (by simp)
    rw [hf]
    simp [b55, str_eql, r55]
  · simp [b55, str_eql, hs, i0, Dc_ok, e70, r55]
include T in
theorem index2_spec (s : List UInt8) (c : UInt8) (h : AHeap) : D C 48 [str s, str [c]] h = some (.int .i64 (fidx s c), h) := by
  rw [D_fn3 T.h48 _ (by simp)]
  simp [b48, Dc_ok, index_spec T, r48]
include T in
theorem count_spec (s : List UInt8) (c : UInt8) (h : AHeap) : D C 47 [str s, str [c]] h = some (iv (s.count c), h) := by
  have e65 : ∀ h, D C 65 [str s, bv c] h = some (iv (s.count c), h) := fun h => by
    rw [D_ext T.x65]
    show some (Value.int .i64 ((⟨⟨s⟩⟩ : ByteArray).foldl (fun n x => if x == (c.toNat : Int).toNat.toUInt8 then n + 1 else n) ((0 : Nat) : Int)), h) = _
    have : (c.toNat : Int).toNat.toUInt8 = c := by simp
    rw [this, Go.Lib.foldl_data, Go.Lib.count_foldl]
    have hz : ((0 : Nat) : Int) + (countByte s c : Nat) = ((s.count c : Nat) : Int) := by unfold countByte; omega
    show some (Value.int .i64 (((0 : Nat) : Int) + (countByte s c : Nat)), h) = _
    rw [hz]; rfl
  have i0 : ∀ h, idxSv (str [c]) (iv 0) h = some (bv c, h) := fun h => idxSv_str (s := [c]) (i := 0) (by simp)
  rw [D_fn3 T.h47 _ (by simp)]
  simp [b47, i0, Dc_ok, e65, r47]
/-- how the loop of genSplit stands: what is told, what is left -/
structure SplI (h0 : AHeap) (n : Nat) (l : List (List UInt8)) (s : List UInt8) (g : AHeap) (t : List Value) : Prop where
  g' : g = h0.push (.cells (l.map str ++ List.replicate (n - l.length) (str [])) 10)
  cnt : l.length + s.count amp + 1 = n
  t0 : tg t 0 = str s
  t1 : tg t 1 = str [amp]
  t2 : tg t 2 = iv 0
  t3 : tg t 3 = iv (n - 1)
  t9 : tg t 9 = .slice (some ⟨h0.bs.length, 0, some 0⟩) n n
  t10 : tg t 10 = iv l.length
def kS : List AItem := [.inLoop lp32_0, .inBlock 0, .code k32_0]
theorem spl_set {l : List (List UInt8)} {n : Nat} {p : List UInt8} (h : l.length < n) : (l.map str ++ List.replicate (n - l.length) (str [])).set l.length (str p) = (l ++ [p]).map str ++ List.replicate (n - (l ++ [p]).length) (str []) := by
  rw [List.set_append_right _ _ (by simp)]
  simp only [List.length_map, Nat.sub_self, List.map_append, List.map_cons, List.map_nil, List.append_assoc, List.length_append, List.length_cons, List.length_nil]
  obtain ⟨k, hk⟩ : ∃ k, n - l.length = k + 1 := ⟨n - l.length - 1, by omega⟩
  rw [hk, show n - (l.length + (0 + 1)) = k by omega, List.replicate_succ]
  rfl
include T in
theorem split_loop {h0 : AHeap} {n : Nat} (hlo : h0.lo ≤ h0.bs.length) (hn : n < 2 ^ 36) : ∀ (k : Nat) (l : List (List UInt8)) (s : List UInt8) (g : AHeap) (t : List Value), SplI h0 n l s g t → s.count amp = k → s.length < 2 ^ 36 →
    R C r32 kS t [] g = some (.slice (some ⟨h0.bs.length, 0, some 0⟩) n n, h0.push (.cells ((l ++ split s).map str) 10)) := by
  intro k
  induction k with
  | zero =>
    intro l s g t H hk hs
    have hc := H.cnt
    have hna : amp ∉ s := by rw [← List.count_eq_zero]; exact hk
    have hg := H.g'
    subst hg
    have e1 : split s = [s] := by unfold split; rw [spl_one s [] hna]; rfl
    rw [e1]
    have hll : l.length < n := by omega
    have hset := spl_set (p := s) hll
    have hfull : n - (l ++ [s]).length = 0 := by simp; omega
    rw [hfull, List.replicate_zero, List.append_nil] at hset
    have hw := wr1_cells (h := h0.push (.cells (l.map str ++ List.replicate (n - l.length) (str [])) 10)) (b := h0.bs.length) (o := l.length) (fz := 9) (c := l.map str ++ List.replicate (n - l.length) (str [])) (v := str s) (by simp; omega) rfl
    rw [hset, push_put] at hw
    have hl1 : abin .lss (iv l.length) (iv (n - 1)) = some (.bool false) := by rw [iv_lss, decide_eq_false (by omega)]
    have hsl : ∀ g, sliceV g 1 (.slice (some ⟨h0.bs.length, 0, some 0⟩) n n) none (some ((l.length : Int) + 1)) none = some (.slice (some ⟨h0.bs.length, 0, some 0⟩) n n) := fun g => by
      have hn1 : (l.length : Int) + 1 = n := by omega
      rw [hn1]
      have hn0 : ¬ (n : Int) = 0 := by omega
      simp [sliceV, isRest, hn0, adda]
      omega
    have hrd : (h0.push (.cells (l.map str ++ List.replicate (n - l.length) (str [])) 10)).at h0.bs.length = some (.cells (l.map str ++ List.replicate (n - l.length) (str [])) 10) := push_self
    have hlo' : (h0.push (.cells (l.map str ++ List.replicate (n - l.length) (str [])) 10)).lo ≤ h0.bs.length := by simpa using hlo
    generalize h0.push (.cells (l.map str ++ List.replicate (n - l.length) (str [])) 10) = g at *
    unfold kS
    rw [R_open lp32_0.eq_1]
    simp [H.t10, H.t3, hl1, k32_0, H.t9, H.t0, ixS_iv hll, adda, write1_wr hlo', hrd, hw, iv_add (a := l.length) (b := 1) (by omega), hsl, r32]
  | succ k ih =>
    intro l s g t H hk hs
    have hc := H.cnt
    have hm : amp ∈ s := by rw [← List.count_pos_iff]; omega
    obtain ⟨p, q, rfl, hp⟩ := first_at s amp hm
    have hg := H.g'
    subst hg
    have e1 : split (p ++ amp :: q) = p :: split q := by unfold split; rw [spl_app p q [] hp]; rfl
    rw [e1]
    have hq : q.count amp = k := by
      rw [List.count_append, List.count_eq_zero.2 hp, List.count_cons_self] at hk; omega
    have hll : l.length < n := by omega
    have hset := spl_set (p := p) hll
    have hw := wr1_cells (h := h0.push (.cells (l.map str ++ List.replicate (n - l.length) (str [])) 10)) (b := h0.bs.length) (o := l.length) (fz := 9) (c := l.map str ++ List.replicate (n - l.length) (str [])) (v := str p) (by simp; omega) rfl
    rw [hset, push_put] at hw
    have hl1 : abin .lss (iv l.length) (iv (n - 1)) = some (.bool true) := by rw [iv_lss, decide_eq_true (by omega)]
    have hrd : (h0.push (.cells (l.map str ++ List.replicate (n - l.length) (str [])) 10)).at h0.bs.length = some (.cells (l.map str ++ List.replicate (n - l.length) (str [])) 10) := push_self
    have hlo' : (h0.push (.cells (l.map str ++ List.replicate (n - l.length) (str [])) 10)).lo ≤ h0.bs.length := by simpa using hlo
    have hps : p.length + 1 ≤ (p ++ amp :: q).length := by simp
    have hql : q.length < 2 ^ 36 := by simp at hs; omega
    have ix := fun h => index2_spec T (p ++ amp :: q) amp h
    rw [fidx_at p q amp hp] at ix
    have i1 : Value.int .i64 (p.length : Int) = iv p.length := rfl
    rw [i1] at ix
    have s1 : ∀ g, slcSv (str (p ++ amp :: q)) (some none) (some (some (p.length : Int))) g = some (str p, g) := fun g => by
      have := slcSv_str (s := p ++ amp :: q) (h := g) (lo := none) (hi := some (p.length : Int)) (l := 0) (u := p.length) rfl rfl (by omega) (by simp)
      rw [this]; simp
    have s2 : ∀ g, slcSv (str (p ++ amp :: q)) (some (some ((p.length : Int) + 1))) (some none) g = some (str q, g) := fun g => by
      rw [slc_drop (by simp)]
      congr 3
      rw [← List.drop_drop, List.drop_left]; rfl
    generalize h0.push (.cells (l.map str ++ List.replicate (n - l.length) (str [])) 10) = g at *
    unfold kS
    rw [R_open lp32_0.eq_1]
    simp [H.t10, H.t3, hl1, H.t0, H.t1, Dc_ok, ix, H.t9, H.t2, iv_add (a := p.length) (b := 0) (by omega), s1, ixS_iv hll, adda, write1_wr hlo', hrd, hw, iv_add (a := p.length) (b := 1) (by simp at hs; omega), s2, iv_add (a := l.length) (b := 1) (by omega)]
    have hfin := ih (l ++ [p]) q (h0.push (.cells ((l ++ [p]).map str ++ List.replicate (n - (l ++ [p]).length) (str [])) 10))
    rw [List.append_assoc] at hfin
    simp only [List.map_append, List.map_cons, List.map_nil, List.append_assoc, List.length_append, List.length_cons, List.length_nil, Nat.zero_add, List.cons_append, List.nil_append] at hfin ⊢
    refine hfin _ ⟨by simp, by simp; omega, by simp [tg_ts], by simp [tg_ts, H.t1], by simp [tg_ts, H.t2], by simp [tg_ts, H.t3], by simp [tg_ts, H.t9], by simp [tg_ts]⟩ hq hql
include T in
theorem split_spec (s : List UInt8) (h : AHeap) (hs : s.length < 2 ^ 35) (hlo : h.lo ≤ h.bs.length) :
    D C 20 [str s, str [amp]] h = some (.slice (some ⟨h.bs.length, 0, some 0⟩) (split s).length (split s).length, h.push (.cells ((split s).map str) 10)) := by
  have hcl : s.count amp ≤ s.length := List.count_le_length
  have hsc : (split s).length = s.count amp + 1 := spl_count s []
  have hm : zeroFill [str []] (s.count amp + 1) = List.replicate (s.count amp + 1) (str []) := by
    unfold zeroFill
    induction s.count amp + 1 with
    | zero => rfl
    | succ n ih => rw [List.replicate_succ, List.flatten_cons, ih]; rfl
  have hI : ∀ t, tg t 0 = str s → tg t 1 = str [amp] → tg t 2 = iv 0 → tg t 3 = iv (s.count amp) → tg t 9 = .slice (some ⟨h.bs.length, 0, some 0⟩) (s.count amp + 1) (s.count amp + 1) → tg t 10 = iv 0 →
      R C r32 kS t [] (h.push (.cells (List.replicate (s.count amp + 1) (str [])) 10)) = some (.slice (some ⟨h.bs.length, 0, some 0⟩) (split s).length (split s).length, h.push (.cells ((split s).map str) 10)) := fun t t0 t1 t2 t3 t9 t10 => by
    rw [hsc]
    exact split_loop T hlo (by omega) (s.count amp) [] s _ t ⟨by simp, by simp, t0, t1, t2, t3, t9, t10⟩ rfl (by omega)
  have e32 : D C 32 [str s, str [amp], iv 0, .int .i64 (-1)] h = some (.slice (some ⟨h.bs.length, 0, some 0⟩) (split s).length (split s).length, h.push (.cells ((split s).map str) 10)) := by
    rw [D_fn T.h32]
    have q1 : abin .eql (.int .i64 (-1)) (iv 0) = some (.bool false) := rfl
    have hz : Value.string ⟨⟨[]⟩⟩ = str [] := rfl
    have ec := fun h => count_spec T s amp h
    generalize s.count amp = m at *
    have hmin : min m s.length = m := by omega
    have g1 : ((m : Int) + 1) * 16 ≤ sizeLim := by simp [sizeLim]; omega
    have g2 : (m : Int) + 1 ≤ sizeLim := by simp [sizeLim]; omega
    have n0 : ¬ (m : Int) + 1 = 0 := by omega
    have g0 : (0 : Int) ≤ (m : Int) + 1 := by omega
    simp [b32, q1, hz, str_eql, lss_m1, Dc_ok, ec, iv_add (a := m) (b := 1) (by omega), iv_add (a := s.length) (b := 1) (by omega), mm_iv, hmin, g0, g1, g2, n0, iv_sub (a := m + 1) (b := 1) (by omega) (by omega), S_loop, hm]
    refine hI _ (by simp [tg_ts]) (by simp [tg_ts]) (by simp [tg_ts]) (by simp [tg_ts]) (by simp [tg_ts]) (by simp [tg_ts])
  rw [D_fn T.h20]
  simp [b20, Dc_ok, e32, r20]
end Go.Ab.Aud

namespace Go.Ab.Aud
set_option maxRecDepth 20000
open Go.Wire (amp spl split spl_len Txt formGo formGo_cons formF decode eqs maxBody Dec dec_at dec0)
open Go.Lib (validD)
variable {C : Ctx} (T : Tab_LStr C) (TW : Tab_LWir C) (U : U8 C)
def ents : List (Txt × Txt) → Nat → List MapEntry
  | [], _ => []
  | p :: r, i => ⟨str p.1, .bool true, i⟩ :: ents r (i + 1)
theorem ents_snoc : ∀ (l : List (Txt × Txt)) (p : Txt × Txt) (i : Nat), ents (l ++ [p]) i = ents l i ++ [⟨str p.1, .bool true, i + l.length⟩]
  | [], p, i => rfl
  | a :: l, p, i => by
    rw [List.cons_append]
    simp only [ents]
    rw [ents_snoc l p (i + 1), List.length_cons, show i + 1 + l.length = i + (l.length + 1) by omega]; rfl
theorem findE_no {s : Txt} : ∀ (l : List (Txt × Txt)) (i k : Nat), s ∉ l.map (·.1) → findE (str s) (ents l i) k = some none
  | [], i, k, _ => rfl
  | a :: l, i, k, h => by
    have h1 : ¬ s = a.1 := fun hc => h (by simp [hc])
    simp only [ents, findE, veq1_str, decide_eq_false h1]
    exact findE_no l (i + 1) (k + 1) fun hc => h (by rw [List.map_cons]; exact List.mem_cons_of_mem _ hc)
theorem findE_yes {s : Txt} : ∀ (l : List (Txt × Txt)) (i k : Nat), s ∈ l.map (·.1) → ∃ j e, findE (str s) (ents l i) k = some (some (k + j)) ∧ (ents l i)[j]? = some e ∧ e.val = .bool true
  | [], i, k, h => by cases h
  | a :: l, i, k, h => by
    by_cases h1 : s = a.1
    · refine ⟨0, _, ?_, rfl, rfl⟩
      simp only [ents, findE, veq1_str, decide_eq_true h1]; rfl
    · obtain ⟨j, e, h2, h3, h4⟩ := findE_yes l (i + 1) (k + 1) (by rw [List.map_cons] at h; exact (List.mem_cons.1 h).resolve_left h1)
      refine ⟨j + 1, e, ?_, h3, h4⟩
      simp only [ents, findE, veq1_str, decide_eq_false h1]
      rw [h2]; congr 2; omega
def fcells (l : List (Txt × Txt)) : List Value := l.flatMap fun p => [str p.1, str p.2]
theorem fcells_snoc (l : List (Txt × Txt)) (p : Txt × Txt) : fcells (l ++ [p]) = fcells l ++ [str p.1, str p.2] := by simp [fcells]
theorem fcells_len (l : List (Txt × Txt)) : (fcells l).length = l.length * 2 := by
  induction l with
  | nil => rfl
  | cons a l ih =>
    have : fcells (a :: l) = [str a.1, str a.2] ++ fcells l := rfl
    rw [this, List.length_append, ih, List.length_cons]; simp; omega
/-- what Form tells -/
def FRes (h : AHeap) (x : Except (Bool × Nat) (List (Txt × Txt))) (R : Res) : Prop := ∃ g', Fr h g' (fun _ => False) ∧ match x with
  | .ok l => ∃ v, R = some (.tuple #[v, .agg ⟨[iv 0, iv 0]⟩], g') ∧ Own g' 53 2 v l.length (fcells l) ∧ (∀ j, blkOf v = some j → h.bs.length ≤ j)
  | .error (t, w) => R = some (.tuple #[.slice none 0 0, .agg ⟨[iv (if t then 191 else 190), iv w]⟩], g')
structure FI (h : AHeap) (b : Txt) (i start : Nat) (acc : List (Txt × Txt)) (g : AHeap) (t : List Value) : Prop where
  fr : Fr h g (fun _ => False)
  lo : h.lo ≤ h.bs.length
  a0 : g.at h.bs.length = some (.cells [iv 0, iv 0] 41)
  a1 : g.at (h.bs.length + 1) = some (.map (ents acc 0) acc.length)
  a2 : g.at (h.bs.length + 2) = some (.cells ((split b).map str) 10)
  own : ∃ v, tg t 4 = v ∧ Own g 53 2 v acc.length (fcells acc) ∧ (∀ j, blkOf v = some j → h.bs.length ≤ j)
  ne : b ≠ []
  t0 : tg t 0 = str b
  t3 : tg t 3 = .pointer (some ⟨h.bs.length, 0, some 0⟩)
  t5 : tg t 5 = .map (some (h.bs.length + 1))
  t6 : tg t 6 = iv start
  t20 : tg t 20 = .slice (some ⟨h.bs.length + 2, 0, some 0⟩) (split b).length (split b).length
  t21 : tg t 21 = iv (split b).length
  t22 : tg t 22 = iv i
def kF : List AItem := [.inLoop lp12_0, .inBlock 0, .code k12_0]
include T in
theorem form_end {h : AHeap} {b : Txt} {i start : Nat} {acc : List (Txt × Txt)} {g : AHeap} {t : List Value} (H : FI h b i start acc g t) (hi : (split b).length ≤ i) : FRes h (.ok acc) (R C r12 kF t [] g) := by
  obtain ⟨v, hv, ho, hb⟩ := H.own
  have hw := wrN_cells (h := g) (b := h.bs.length) (o := 0) (fz := 40) (c := [iv 0, iv 0]) (v := [iv 0, iv 0]) (by simp) (by simp)
  rw [splice2, put_eq H.a0] at hw
  have lo1 : g.lo ≤ h.bs.length := by rw [H.fr.lo]; exact H.lo
  obtain ⟨va, vcp, rfl⟩ := ho.slice
  refine ⟨g, H.fr, _, ?_, ho, hb⟩
  unfold kF
  rw [R_open lp12_0.eq_1]
  simp [H.t22, H.t21, show ¬ i < (split b).length by omega, k12_0, hv, fillCells, H.t3, writeN_wr lo1, H.a0, hw, readN_rd, rdN_cells, r12, resV, ptrOf]
end Go.Ab.Aud

namespace Go.Ab.Aud
set_option maxRecDepth 20000
open Go.Wire (amp spl split spl_len Txt formGo formGo_cons formF decode eqs maxBody Dec dec_at dec0)
open Go.Lib (validD)
variable {C : Ctx} (T : Tab_LStr C) (TW : Tab_LWir C) (U : U8 C)
theorem sl_two {old : Old} {h : AHeap} {x y : Value} {fz : Nat} : srcCells old (h.push (.cells [x, y] fz)) 2 1 (.slice (some ⟨h.bs.length, 0, some 0⟩) 1 1) = some [x, y] := by
  simp only [srcCells]; rw [readN_rd, push_self]; rfl
include T TW U in
theorem form_step (l0 : C.lies 81 4 0 70 = true) (l2 : C.lies 81 4 2 70 = true) {h : AHeap} {b s : Txt} {i start : Nat} {acc : List (Txt × Txt)} {g : AHeap} {t : List Value} (H : FI h b i start acc g t) (hi : i < (split b).length) (hs : (split b)[i]? = some s)
    (hz : start + s.length + 1 < 2 ^ 30) (hn : i < 2 ^ 30) (hb30 : (split b).length < 2 ^ 30) (hacc : acc.length ≤ i) {r : List Txt}
    (go : ∀ g' t' acc', FI h b (i + 1) (start + s.length + 1) acc' g' t' → acc'.length ≤ i + 1 → FRes h (formGo r (start + s.length + 1) acc') (R C r12 kF t' [] g')) :
    FRes h (formGo (s :: r) start acc) (R C r12 kF t [] g) := by
  obtain ⟨v, hv, ho, hb⟩ := H.own
  have lo1 : g.lo ≤ h.bs.length := by rw [H.fr.lo]; exact H.lo
  have gl := get_lt H.a2
  have hrd : rd1 (some (.cells ((split b).map str) 10)) i 0 = some (str s) := by
    rw [rd1_cells, List.getElem?_map, hs]; rfl
  have hdec := fun h => decode_spec T TW l0 l2 (s := s) (mk := eqs) (by omega) (.inl rfl) h
  have hm61 : eqs.toNat = 61 := rfl
  rw [hm61] at hdec
  have hdat := dec_at eqs (s.length + 1) s 0 dec0 (fun k hk => by cases hk)
  have hne := H.ne
  have hse : abin .eql (str b) (str []) = some (.bool false) := by rw [str_eql, decide_eq_false hne]
  have hzs : Value.string ⟨⟨[]⟩⟩ = str [] := rfl
  rw [formGo_cons]
  -- the box of the two parts
  generalize hg1 : g.push (.cells [str [], str []] 59) = g1
  have f1 : Fr g g1 (fun _ => False) := by rw [← hg1]; exact Fr.push
  have p1 : g1.at g.bs.length = some (.cells [str [], str []] 59) := by rw [← hg1]; exact push_self
  have lo2 : g1.lo ≤ g.bs.length := by rw [f1.lo]; omega
  have box2 : ∀ x y : Txt, wrN g1 g.bs.length (some (.cells [str [], str []] 59)) 0 0 [str x, str y] = some (g1.put g.bs.length (.cells [str x, str y] 59)) := fun x y => by
    have hw := wrN_cells (h := g1) (b := g.bs.length) (o := 0) (fz := 58) (c := [str [], str []]) (v := [str x, str y]) (by simp) (by simp)
    rw [splice2] at hw; exact hw
  have box3 : ∀ x y : Txt, Fr h (g1.put g.bs.length (.cells [str x, str y] 59)) (fun _ => False) ∧ (g1.put g.bs.length (.cells [str x, str y] 59)).at g.bs.length = some (.cells [str x, str y] 59) ∧ (g1.put g.bs.length (.cells [str x, str y] 59)).at h.bs.length = some (.cells [iv 0, iv 0] 41) ∧
      (g1.put g.bs.length (.cells [str x, str y] 59)).at (h.bs.length + 1) = some (.map (ents acc 0) acc.length) ∧ (g1.put g.bs.length (.cells [str x, str y] 59)).at (h.bs.length + 2) = some (.cells ((split b).map str) 10) ∧
      Fr g (g1.put g.bs.length (.cells [str x, str y] 59)) (fun _ => False) ∧ g.bs.length + 1 = (g1.put g.bs.length (.cells [str x, str y] 59)).bs.length := fun x y => by
    have f2 : Fr g (g1.put g.bs.length (.cells [str x, str y] 59)) (fun _ => False) := f1.put' (.inr (Nat.le_refl _))
    refine ⟨H.fr.trans f2 (fun _ h => h) (fun _ h _ => h), put_self (get_lt p1), f2.get H.a0 (fun h => h), f2.get H.a1 (fun h => h), f2.get H.a2 (fun h => h), f2, ?_⟩
    rw [← hg1]; simp
  -- a fault
  have fault : ∀ (x y : Txt) (w : Nat) (code : Nat), writeN (g1.put g.bs.length (.cells [str x, str y] 59)) ⟨h.bs.length, 0, some 0⟩ [iv code, iv w] = some ((g1.put g.bs.length (.cells [str x, str y] 59)).put h.bs.length (.cells [iv code, iv w] 41)) := fun x y w code => by
    obtain ⟨q1, q2, q3, q4, q5, q6, q7⟩ := box3 x y
    have hw := wrN_cells (h := g1.put g.bs.length (.cells [str x, str y] 59)) (b := h.bs.length) (o := 0) (fz := 40) (c := [iv 0, iv 0]) (v := [iv code, iv w]) (by simp) (by simp)
    rw [splice2] at hw
    rw [writeN_wr (by rw [q6.lo]; omega), q3]; exact hw
  have fault2 : ∀ (x y : Txt) (w : Nat) (code : Nat), ((g1.put g.bs.length (.cells [str x, str y] 59)).put h.bs.length (.cells [iv code, iv w] 41)).at h.bs.length = some (.cells [iv code, iv w] 41) ∧ Fr h ((g1.put g.bs.length (.cells [str x, str y] 59)).put h.bs.length (.cells [iv code, iv w] 41)) (fun _ => False) := fun x y w code => by
    obtain ⟨q1, q2, q3, q4, q5, q6, q7⟩ := box3 x y
    exact ⟨put_self (get_lt q3), q1.put' (.inr (Nat.le_refl _))⟩
  unfold kF
  rw [R_open lp12_0.eq_1]
  unfold decode at hdec ⊢
  generalize Go.Wire.decF eqs (s.length + 1) s 0 dec0 = dd at *
  obtain ⟨d, o⟩ := dd
  cases o with
  | some w =>
    have hwl := hdat.1 w rfl (by omega)
    have hwl' : w < s.length := by omega
    simp only [decV] at hdec
    obtain ⟨q1, q2, q3, q4, q5, q6, q7⟩ := box3 [] []
    have bx := box2 [] []
    have ft := fault [] [] (start + w) 190
    obtain ⟨ft2, ft3⟩ := fault2 [] [] (start + w) 190
    have lo3 : (g1.put g.bs.length (.cells [str [], str []] 59)).lo ≤ h.bs.length := by rw [q6.lo]; omega
    generalize hgf : (g1.put g.bs.length (.cells [str [], str []] 59)).put h.bs.length (.cells [iv 190, iv (start + w)] 41) = gf at *
    generalize hg2 : g1.put g.bs.length (.cells [str [], str []] 59) = g2 at *
    refine ⟨gf, ft3, ?_⟩
    simp [H.t22, H.t21, hi, H.t20, ixS_iv hi, adda, read1_rd, H.a2, hrd, H.t0, hzs, hse, Dc_ok, hdec, hg1, writeN_wr lo2, p1, bx, H.t6, iv_add (a := start) (b := w) (by omega), fillCells, spl20, spl21, H.t3, ft, readN_rd, ft2, rdN_cells, r12, resV, ptrOf]
  | none =>
    simp only [decV] at hdec
    obtain ⟨q1, q2, q3, q4, q5, q6, q7⟩ := box3 d.p0 d.p1
    have bx := box2 d.p0 d.p1
    have lo3 : (g1.put g.bs.length (.cells [str d.p0, str d.p1] 59)).lo ≤ h.bs.length := by rw [q6.lo]; omega
    have geqm := geq_m1
    dsimp only
    cases hat : d.at' with
    | none =>
      rw [hat] at hdec
      simp only [atV] at hdec
      have ft := fault d.p0 d.p1 (start + s.length) 190
      obtain ⟨ft2, ft3⟩ := fault2 d.p0 d.p1 (start + s.length) 190
      generalize hgf : (g1.put g.bs.length (.cells [str d.p0, str d.p1] 59)).put h.bs.length (.cells [iv 190, iv (start + s.length)] 41) = gf at *
      generalize hg2 : g1.put g.bs.length (.cells [str d.p0, str d.p1] 59) = g2 at *
      refine ⟨gf, ft3, ?_⟩
      simp [H.t22, H.t21, hi, H.t20, ixS_iv hi, adda, read1_rd, H.a2, hrd, H.t0, hzs, hse, Dc_ok, hdec, hg1, writeN_wr lo2, p1, bx, H.t6, geqm, lss_m1, iv_add (a := start) (b := s.length) (by omega), fillCells, spl20, spl21, H.t3, ft, readN_rd, ft2, rdN_cells, r12, resV, ptrOf]
    | some k =>
      have hkl := hdat.2 rfl k hat
      rw [hat] at hdec
      simp only [atV] at hdec
      have gd := fun l h => good_spec T U TW l h
      have ix0 : ∀ a : Addr, ixA 1 2 (.pointer (some a)) (iv 0) = some (.pointer (some a)) := fun a => by rw [ixA_iv (by omega)]; simp [adda]
      have ix1 : ∀ a : Addr, ixA 1 2 (.pointer (some a)) (iv 1) = some (.pointer (some (adda a 1))) := fun a => by rw [ixA_iv (by omega)]
      by_cases c1 : d.p0 = [] ∨ validD d.p0 = false
      · dsimp only
        rw [if_pos c1]
        have ft := fault d.p0 d.p1 (start) 190
        obtain ⟨ft2, ft3⟩ := fault2 d.p0 d.p1 (start) 190
        generalize hgf : (g1.put g.bs.length (.cells [str d.p0, str d.p1] 59)).put h.bs.length (.cells [iv 190, iv (start)] 41) = gf at *
        generalize hg2 : g1.put g.bs.length (.cells [str d.p0, str d.p1] 59) = g2 at *
        refine ⟨gf, ft3, ?_⟩
        by_cases c0 : d.p0 = []
        · have c0x : abin .eql (str d.p0) (str []) = some (.bool true) := by rw [str_eql, decide_eq_true c0]
          simp [H.t22, H.t21, hi, H.t20, ixS_iv hi, adda, read1_rd, H.a2, hrd, H.t0, hzs, hse, Dc_ok, hdec, hg1, writeN_wr lo2, p1, bx, H.t6, geqm, ix0, ix1, q2, c0x, gd, fillCells, spl20, spl21, H.t3, ft, readN_rd, ft2, rdN_cells, r12, resV, ptrOf]
        · have c1' := c1.resolve_left c0
          simp [H.t22, H.t21, hi, H.t20, ixS_iv hi, adda, read1_rd, H.a2, hrd, H.t0, hzs, hse, Dc_ok, hdec, hg1, writeN_wr lo2, p1, bx, H.t6, geqm, ix0, ix1, q2, str_eql, gd, c0, c1', fillCells, spl20, spl21, H.t3, ft, readN_rd, ft2, rdN_cells, r12, resV, ptrOf]
      · dsimp only
        rw [if_neg c1]
        have c0 : ¬ d.p0 = [] := fun h => c1 (.inl h)
        have v0 : validD d.p0 = true := by
          cases hv : validD d.p0 with
          | true => rfl
          | false => exact absurd (.inr hv) c1
        cases v1 : validD d.p1 with
        | false =>
          simp only [if_true]
          rw [Nat.add_assoc]
          have ft := fault d.p0 d.p1 (start + (k + 1)) 190
          obtain ⟨ft2, ft3⟩ := fault2 d.p0 d.p1 (start + (k + 1)) 190
          generalize hgf : (g1.put g.bs.length (.cells [str d.p0, str d.p1] 59)).put h.bs.length (.cells [iv 190, iv (start + (k + 1))] 41) = gf at *
          generalize hg2 : g1.put g.bs.length (.cells [str d.p0, str d.p1] 59) = g2 at *
          refine ⟨gf, ft3, ?_⟩
          simp [H.t22, H.t21, hi, H.t20, ixS_iv hi, adda, read1_rd, H.a2, hrd, H.t0, hzs, hse, Dc_ok, hdec, hg1, writeN_wr lo2, p1, bx, H.t6, geqm, ix0, ix1, q2, str_eql, gd, c0, v0, v1, iv_add (a := k) (b := 1) (by omega), iv_add (a := start) (b := k + 1) (by omega), fillCells, spl20, spl21, H.t3, ft, readN_rd, ft2, rdN_cells, r12, resV, ptrOf]
        | true =>
          simp only [Bool.true_eq_false, if_false]
          by_cases c3 : d.p0 ∈ acc.map (·.1)
          · rw [if_pos c3]
            obtain ⟨j, e, fe, he, hval⟩ := findE_yes acc 0 0 c3
            rw [Nat.zero_add] at fe
            have lk : ∀ g2 : AHeap, g2.at (h.bs.length + 1) = some (.map (ents acc 0) acc.length) → lkp g2 .s (.bool false) false (.map (some (h.bs.length + 1))) (str d.p0) = some (.bool true, g2) := fun g2 ha => by
              rw [lkp_yes rfl ha fe he, hval]; rfl
            have lk' := lk _ q4
            have ft := fault d.p0 d.p1 (start) 191
            obtain ⟨ft2, ft3⟩ := fault2 d.p0 d.p1 (start) 191
            generalize hgf : (g1.put g.bs.length (.cells [str d.p0, str d.p1] 59)).put h.bs.length (.cells [iv 191, iv (start)] 41) = gf at *
            generalize hg2 : g1.put g.bs.length (.cells [str d.p0, str d.p1] 59) = g2 at *
            refine ⟨gf, ft3, ?_⟩
            simp [H.t22, H.t21, hi, H.t20, ixS_iv hi, adda, read1_rd, H.a2, hrd, H.t0, hzs, hse, Dc_ok, hdec, hg1, writeN_wr lo2, p1, bx, H.t6, geqm, ix0, ix1, q2, str_eql, gd, c0, v0, v1, H.t5, lk', fillCells, spl20, spl21, H.t3, ft, readN_rd, ft2, rdN_cells, r12, resV, ptrOf]
          · rw [if_neg c3]
            have fe := findE_no acc 0 0 c3
            have lk : lkp (g1.put g.bs.length (.cells [str d.p0, str d.p1] 59)) .s (.bool false) false (.map (some (h.bs.length + 1))) (str d.p0) = some (.bool false, g1.put g.bs.length (.cells [str d.p0, str d.p1] 59)) := by
              rw [lkp_no rfl q4 fe]; rfl
            have mu := mup_no (kk := .s) (k := str d.p0) (v := .bool true) rfl q4 fe (by rw [q6.lo]; omega)
            have hsn := ents_snoc acc (d.p0, d.p1) 0
            rw [Nat.zero_add] at hsn
            rw [← hsn] at mu
            generalize hg2 : g1.put g.bs.length (.cells [str d.p0, str d.p1] 59) = g2 at *
            generalize hg3 : g2.put (h.bs.length + 1) (.map (ents (acc ++ [(d.p0, d.p1)]) 0) (acc.length + 1)) = g3 at mu
            have f23 : Fr g2 g3 (fun j => j = h.bs.length + 1) := by rw [← hg3]; exact Fr.put rfl
            have r1 : g3.at (h.bs.length + 1) = some (.map (ents (acc ++ [(d.p0, d.p1)]) 0) (acc.length + 1)) := by rw [← hg3]; exact put_self (get_lt q4)
            have r0 := f23.get q3 (by omega)
            have r2 := f23.get q5 (by omega)
            have rb := f23.get q2 (by omega)
            have nm : blkOf v ≠ some (h.bs.length + 1) := by
              intro hc
              rcases ho with ⟨h1 | h1, _⟩ | ⟨b', g', last, rfl, h1, _⟩
              · subst h1; cases hc
              · subst h1; cases hc
              · cases hc
                rw [H.a1] at h1; cases h1
            have ho3 : Own g3 53 2 v acc.length (fcells acc) := (ho.fr q6 fun _ _ h => h).fr f23 fun j hj hc => nm (by rw [hj, hc])
            generalize hg4 : g3.push (.cells [str d.p0, str d.p1] 54) = g4
            have f34 : Fr g3 g4 (fun _ => False) := by rw [← hg4]; exact Fr.push
            have wf4 : g4.lo ≤ g4.bs.length := by
              have := f34.lo; have := f34.len; have := f23.lo; have := f23.len; have := q6.lo; have := q6.len; omega
            obtain ⟨v', g5, e5, o5, f5, b5⟩ := append_own (old := C.old) (bytes := 32) (x := .slice (some ⟨g3.bs.length, 0, some 0⟩) 1 1) (m := 1) (new := [str d.p0, str d.p1]) (ho3.fr f34 fun _ _ h => h) (by omega) rfl
              (fun _ => by rw [← hg4]; exact sl_two) (fun h => by cases h) rfl (by simp) (by simp [sizeLim]; omega) wf4
            have hfc := fcells_snoc acc (d.p0, d.p1)
            rw [← hfc] at o5
            have nv : ∀ {j : Nat} {blk : ABlock}, g3.at j = some blk → (∀ c l f k, blk ≠ .grow c l f k) → blkOf v ≠ some j := fun {j blk} ha hng hc => by
              rcases ho3 with ⟨h1 | h1, _⟩ | ⟨b', g', last, rfl, h1, _⟩
              · subst h1; cases hc
              · subst h1; cases hc
              · cases hc
                rw [ha] at h1
                cases h1
                exact hng _ _ _ _ rfl
            have s0 := f5.get (f34.get r0 fun h => h) (nv r0 (by intro _ _ _ _ hc; cases hc))
            have s1 := f5.get (f34.get r1 fun h => h) (nv r1 (by intro _ _ _ _ hc; cases hc))
            have s2 := f5.get (f34.get r2 fun h => h) (nv r2 (by intro _ _ _ _ hc; cases hc))
            have l23 := f23.len
            have l34 := f34.len
            have l6 := q6.len
            have lfr := H.fr.len
            obtain ⟨va, vcp, hv'⟩ := ho.slice
            obtain ⟨wa, wcp, hw'⟩ := o5.slice
            have fr5 : Fr h g5 (fun _ => False) := by
              refine ⟨by rw [f5.lo, f34.lo, f23.lo]; exact q1.lo, by have := f5.len; omega, fun j hj _ => ?_⟩
              rw [f5.at (by omega) (fun hc => by have := hb j hc; omega), f34.at (by omega) (fun h => h), f23.at (by have := q1.len; omega) (by omega), q1.at hj (fun h => h)]
            have key : ∀ t', tg t' 0 = str b → tg t' 3 = .pointer (some ⟨h.bs.length, 0, some 0⟩) → tg t' 4 = v' → tg t' 5 = .map (some (h.bs.length + 1)) → tg t' 6 = iv (start + s.length + 1) → tg t' 20 = .slice (some ⟨h.bs.length + 2, 0, some 0⟩) (split b).length (split b).length → tg t' 21 = iv (split b).length → tg t' 22 = iv (i + 1) →
                FRes h (formGo r (start + s.length + 1) (acc ++ [(d.p0, d.p1)])) (R C r12 kF t' [] g5) := fun t' x0 x3 x4 x5 x6 x20 x21 x22 =>
              go g5 t' _ ⟨fr5, H.lo, s0, by rw [List.length_append]; exact s1, s2, ⟨v', x4, by rw [List.length_append]; exact o5, fun j hj => by
                rcases b5 with b5 | b5 <;> rw [b5] at hj
                · exact hb j hj
                · cases hj; omega⟩, H.ne, x0, x3, x5, x6, x20, x21, x22⟩ (by rw [List.length_append]; simp; omega)
            rw [hv'] at e5 hv
            rw [hw'] at e5 key
            have uw : isUnd (.slice wa (acc.length + 1) wcp) = false := rfl
            unfold kF at key
            have ia : start + (s.length + 1) = start + s.length + 1 := by omega
            simp [H.t22, H.t21, hi, H.t20, ixS_iv hi, adda, read1_rd, H.a2, hrd, H.t0, hzs, hse, Dc_ok, hdec, hg1, writeN_wr lo2, p1, bx, H.t6, geqm, ix0, ix1, q2, str_eql, gd, c0, v0, v1, H.t5, lk, mu, rb, hv, fillCells, spl20, spl21, splice2, hg4, e5, iv_add (a := s.length) (b := 1) (by omega), iv_add (a := start) (b := s.length + 1) (by omega), iv_add (a := i) (b := 1) (by omega)]
            exact key _ (by simp [tg_ts, H.t0]) (by simp [tg_ts, H.t3]) (by simp [tg_ts]) (by simp [tg_ts, H.t5]) (by simp [tg_ts, ia]) (by simp [tg_ts, H.t20]) (by simp [tg_ts, H.t21]) (by simp [tg_ts])
end Go.Ab.Aud

namespace Go.Ab.Aud
set_option maxRecDepth 20000
open Go.Wire (amp spl split spl_len Txt formGo formGo_cons formF decode eqs maxBody Dec dec_at dec0)
open Go.Lib (validD)
variable {C : Ctx} (T : Tab_LStr C) (TW : Tab_LWir C) (U : U8 C)
include T TW U in
theorem form_loop (l0 : C.lies 81 4 0 70 = true) (l2 : C.lies 81 4 2 70 = true) {h : AHeap} {b : Txt} (hb30 : (split b).length < 2 ^ 30) : ∀ (ps : List Txt) (i start : Nat) (acc : List (Txt × Txt)) (g : AHeap) (t : List Value), ps = (split b).drop i → FI h b i start acc g t →
    start + (ps.map fun x => x.length + 1).sum < 2 ^ 30 → acc.length ≤ i → FRes h (formGo ps start acc) (R C r12 kF t [] g) := by
  intro ps
  induction ps with
  | nil =>
    intro i start acc g t hp H hz ha
    have : (split b).length ≤ i := by
      have := congrArg List.length hp
      rw [List.length_drop] at this; simp at this; omega
    exact form_end T H this
  | cons s r ih =>
    intro i start acc g t hp H hz ha
    have hl : i < (split b).length := by
      have := congrArg List.length hp
      rw [List.length_drop] at this; simp at this; omega
    rw [List.drop_eq_getElem_cons hl] at hp
    injection hp with h1 h2
    rw [List.map_cons, List.sum_cons] at hz
    exact form_step T TW U l0 l2 H hl (by rw [List.getElem?_eq_getElem hl, h1]) (by omega) (by omega) hb30 ha fun g' t' acc' H' ha' => ih _ _ _ _ _ h2 H' (by omega) ha'
include T TW U in
theorem form_spec (l0 : C.lies 81 4 0 70 = true) (l2 : C.lies 81 4 2 70 = true) {h : AHeap} {b : Txt} (hlo : h.lo ≤ h.bs.length) (hb : b.length < 2 ^ 30) : FRes h (formF b) (D C 12 [str b] h) := by
  rw [D_fn TW.h12]
  unfold formF
  have hzs : Value.string ⟨⟨[]⟩⟩ = str [] := rfl
  by_cases hm : maxBody < b.length
  · rw [if_pos hm]
    have hm' : 16384 < b.length := hm
    generalize hg1 : h.push (.cells [iv 0, iv 0] 41) = g1
    have p1 : g1.at h.bs.length = some (.cells [iv 0, iv 0] 41) := by rw [← hg1]; exact push_self
    have f1 : Fr h g1 (fun _ => False) := by rw [← hg1]; exact Fr.push
    have lo1 : g1.lo ≤ h.bs.length := by rw [f1.lo]; exact hlo
    have hw := wrN_cells (h := g1) (b := h.bs.length) (o := 0) (fz := 40) (c := [iv 0, iv 0]) (v := [iv 190, iv 0]) (by simp) (by simp)
    rw [splice2] at hw
    have p2 : (g1.put h.bs.length (.cells [iv 190, iv 0] 41)).at h.bs.length = some (.cells [iv 190, iv 0] 41) := put_self (get_lt p1)
    have f2 : Fr h (g1.put h.bs.length (.cells [iv 190, iv 0] 41)) (fun _ => False) := f1.put' (.inr (Nat.le_refl _))
    generalize g1.put h.bs.length (.cells [iv 190, iv 0] 41) = g2 at *
    refine ⟨g2, f2, ?_⟩
    simp [b12, hg1, hm', fillCells, spl20, writeN_wr lo1, p1, hw, readN_rd, p2, rdN_cells, r12, resV, ptrOf]
  · rw [if_neg hm]
    have hm' : ¬ 16384 < b.length := hm
    generalize hg1 : h.push (.cells [iv 0, iv 0] 41) = g1
    have p1 : g1.at h.bs.length = some (.cells [iv 0, iv 0] 41) := by rw [← hg1]; exact push_self
    have f1 : Fr h g1 (fun _ => False) := by rw [← hg1]; exact Fr.push
    have n1 : g1.bs.length = h.bs.length + 1 := by rw [← hg1]; simp
    generalize hg2 : g1.push (.map [] 0) = g2
    have f2 : Fr g1 g2 (fun _ => False) := by rw [← hg2]; exact Fr.push
    have q2 : g2.at (h.bs.length + 1) = some (.map [] 0) := by rw [← hg2, ← n1]; exact push_self
    have p2 := f2.get p1 (fun h => h)
    have n2 : g2.bs.length = h.bs.length + 2 := by rw [← hg2]; simp [n1]
    have lo2 : g2.lo ≤ g2.bs.length := by rw [f2.lo, f1.lo, n2]; omega
    have es := split_spec T b g2 (by omega) lo2
    generalize hg3 : g2.push (.cells ((split b).map str) 10) = g3 at es
    have f3 : Fr g2 g3 (fun _ => False) := by rw [← hg3]; exact Fr.push
    have r3 : g3.at (h.bs.length + 2) = some (.cells ((split b).map str) 10) := by rw [← hg3, ← n2]; exact push_self
    have p3 := f3.get p2 (fun h => h)
    have q3 := f3.get q2 (fun h => h)
    have f13 : Fr h g3 (fun _ => False) := (f1.trans f2 (fun _ h => h) (fun _ h _ => h)).trans f3 (fun _ h => h) (fun _ h _ => h)
    have hamp : Value.string ⟨⟨[38]⟩⟩ = str [amp] := rfl
    rw [n2] at es
    have i1 : Value.int .i64 ((split b).length : Int) = iv (split b).length := rfl
    by_cases hne : b = []
    · subst hne
      rw [if_pos rfl]
      have hsp : split [] = [[]] := rfl
      rw [hsp] at es r3
      simp only [List.length_cons, List.length_nil, Nat.zero_add, List.map_cons, List.map_nil] at es r3
      have lo3 : g3.lo ≤ h.bs.length := by rw [f13.lo]; exact hlo
      have hw := wrN_cells (h := g3) (b := h.bs.length) (o := 0) (fz := 40) (c := [iv 0, iv 0]) (v := [iv 0, iv 0]) (by simp) (by simp)
      rw [splice2, put_eq p3] at hw
      refine ⟨g3, f13, .slice none 0 0, ?_, .nil, fun j hj => by cases hj⟩
      simp [b12, hg1, hg2, hamp, Dc_ok, es, S_loop]
      rw [R_open lp12_0.eq_1]
      simp [ixS_iv (show 0 < 1 by omega), adda, read1_rd, r3, hzs, str_eql, k12_0, fillCells, writeN_wr lo3, p3, hw, readN_rd, rdN_cells, r12, resV, ptrOf]
    · rw [if_neg hne]
      have hl := spl_len b []
      have hcnt : (split b).length < 2 ^ 30 := by
        have h1 : (split b).length = b.count amp + 1 := spl_count b []
        have h2 : b.count amp ≤ b.length := List.count_le_length
        have : b.length ≤ 16384 := by omega
        omega
      have key : ∀ t, tg t 0 = str b → tg t 3 = .pointer (some ⟨h.bs.length, 0, some 0⟩) → tg t 4 = .slice none 0 0 → tg t 5 = .map (some (h.bs.length + 1)) → tg t 6 = iv 0 → tg t 20 = .slice (some ⟨h.bs.length + 2, 0, some 0⟩) (split b).length (split b).length → tg t 21 = iv (split b).length → tg t 22 = iv 0 →
          FRes h (formGo (split b) 0 []) (R C r12 kF t [] g3) := fun t x0 x3 x4 x5 x6 x20 x21 x22 =>
        form_loop T TW U l0 l2 hcnt (split b) 0 0 [] g3 t (by rw [List.drop_zero]) ⟨f13, hlo, p3, q3, r3, ⟨_, x4, .nil, fun j hj => by cases hj⟩, hne, x0, x3, x5, x6, x20, x21, x22⟩ (by unfold split; rw [hl]; simp; omega) (by simp)
      unfold kF at key
      simp [b12, hg1, hg2, n1, hm', hamp, Dc_ok, es, S_loop]
      exact key _ (by simp [tg_ts]) (by simp [tg_ts]) (by simp [tg_ts]) (by simp [tg_ts]) (by simp [tg_ts]) (by simp [tg_ts]) (by simp [tg_ts]) (by simp [tg_ts])
end Go.Ab.Aud

namespace Go.Ab.Aud
set_option maxRecDepth 20000
open Go.Wire (amp Txt join)
variable {C : Ctx} (T : Tab_LStr C)
theorem sl_elt {old : Old} {h : AHeap} {a : Option Addr} {n cp i : Nat} {l : List Txt} {s : Txt} (w : SlR old h 1 (.slice a n cp) (l.map str)) (hi : l[i]? = some s) :
    i < n ∧ ∃ a', a = some a' ∧ read1 old h (adda a' i) = some (str s) := by
  have hl := w.len
  rw [List.length_map, Nat.mul_one] at hl
  have hi' : i < l.length := (List.getElem?_eq_some_iff.1 hi).1
  obtain ⟨a', rfl⟩ := w.ex (by omega)
  have hr := w.read (by omega)
  refine ⟨by omega, a', rfl, ?_⟩
  rw [readN_read1 hr (by omega), List.getElem?_map, hi]; rfl
theorem copyV_nil {old : Old} {h : AHeap} {k c : Nat} {a : Option Addr} {n : Nat} : copyV old h k (.slice a n c) (.slice none 0 0) = some (.int .i64 0, h) := by
  simp [copyV, srcLen]
include T in
theorem grow_spec {h : AHeap} {e b off : Nat} {c : List Value} (B : Bld C h e b off c (.slice none 0 0) []) {n : Nat} (hn : 0 < n) (hz : n < 2 ^ 38) :
    ∃ v' h', D C 30 [bp b off, iv n] h = some (.tuple #[], h') ∧ BStep C h h' e b off c (.slice none 0 0) v' [] := by
  have ec := copyCheck_spec T B
  obtain ⟨B1, f1⟩ := B.check
  generalize hh : h.put b (.cells (c.set off (bp b off)) (e + 1)) = h1 at ec B1 f1
  generalize hc1 : c.set off (bp b off) = c1 at *
  have hlt := B1.lt
  obtain ⟨_, hg⟩ := List.getElem?_eq_some_iff.1 B1.p1
  have e63 : ∀ h, D C 63 [iv n] h = some (.slice (some ⟨h.bs.length, 0, some (n + 1)⟩) n 0, h.push (.grow (List.replicate n (.tuple #[])) 0 6 1)) := fun h => by
    rw [D_ext T.x63]
    simp only [extExec, iv]
    rw [if_pos ⟨by omega, by simp [sizeLim]; omega⟩]; simp
  generalize hh2 : h1.push (.grow (List.replicate n (.tuple #[])) 0 6 1) = h2
  have f2 : Fr h1 h2 (fun _ => False) := by rw [← hh2]; exact Fr.push
  have a2 := f2.get B1.at' (fun h => h)
  have b2 : h2.at h1.bs.length = some (.grow (List.replicate n (.tuple #[])) 0 6 1) := by rw [← hh2]; exact push_self
  have hsl : sliceV h2 1 (.slice (some ⟨h1.bs.length, 0, some (n + 1)⟩) n 0) none (some 0) none = some (.slice (some ⟨h1.bs.length, 0, some (n + 1)⟩) 0 0) := by
    have b2' : h2.bs[h1.bs.length]? = some (.grow (List.replicate n (.tuple #[])) 0 6 1) := b2
    simp [sliceV, isRest, tagOf, kOf, b2']
  have own2 : Own h2 5 1 (.slice (some ⟨h1.bs.length, 0, some (n + 1)⟩) 0 0) ([] : List UInt8).length (bytesVals []) :=
    .inr ⟨h1.bs.length, List.replicate n (.tuple #[]), 0, by simp, b2, by omega, by simp, by simp, by rw [f2.lo]; have := B1.wf; omega⟩
  have B3 := B1.store f2 (fun h => h) (s' := []) own2
  have lo2 : h2.lo ≤ b := by rw [f2.lo]; exact B1.lo
  have hw := wr1_cells (h := h2) (b := b) (o := off + 1) (fz := e) (c := c1) (v := .slice (some ⟨h1.bs.length, 0, some (n + 1)⟩) 0 0) (by omega) rfl
  refine ⟨_, h2.put b (.cells (c1.set (off + 1) (.slice (some ⟨h1.bs.length, 0, some (n + 1)⟩) 0 0)) (e + 1)), ?_, ⟨by unfold bc; rw [hc1]; exact B3, ?_, fun j hj => ?_⟩⟩
  · have e45 : D C 45 [bp b off, iv n] h1 = some (.tuple #[], h2.put b (.cells (c1.set (off + 1) (.slice (some ⟨h1.bs.length, 0, some (n + 1)⟩) 0 0)) (e + 1))) := by
      rw [D_fn T.h45]
      have z1 : abin .mul (iv 2) (iv 0) = some (iv 0) := by rw [iv_mul (by omega)]
      have z2 : abin .add (iv 0) (iv n) = some (iv n) := by rw [iv_add (by omega), Nat.zero_add]
      have i0 : Value.int .i64 0 = iv 0 := rfl
      simp [b45, bp, nilOk, read1_rd, B1.at', hg, hlt, adda, z1, z2, Dc_ok, e63, hh2, a2, hsl, copyV_nil, write1_wr lo2, hw, r45]
    rw [D_fn T.h30]
    simp only [bp] at ec e45 ⊢
    simp [b30, Dc_ok, ec, nilOk, read1_rd, B1.at', hg, hlt, adda, iv_sub (a := 0) (b := 0) (by omega) (by omega), hn, e45, r30]
  · exact (f1.trans f2 (S'' := fun j => j = b ∨ blkOf (.slice none 0 0) = some j) (fun _ h => .inl h) (fun _ h _ => h.elim)).put' (.inl (.inl rfl))
  · right
    cases hj
    have := f1.len
    exact this
end Go.Ab.Aud

namespace Go.Ab.Aud
set_option maxRecDepth 20000
open Go.Wire (amp Txt join)
variable {C : Ctx} (T : Tab_LStr C)
theorem join_flat : ∀ (s : Txt) (r : List Txt), join (s :: r) = s ++ r.flatMap (fun x => amp :: x)
  | s, [] => by simp [join]
  | s, t :: r => by
    show s ++ amp :: join (t :: r) = _
    rw [join_flat t r]; simp
structure JI (C : Ctx) (H : AHeap) (b : Nat) (c : List Value) (v : Value) (w : Txt) (g : AHeap) : Prop where
  fr : Fr H g (fun _ => False)
  bld : Bld C g 70 b 0 c v w
  hb : H.bs.length ≤ b
  hv : ∀ j, blkOf v = some j → H.bs.length ≤ j
theorem JI.step {H g g' : AHeap} {b : Nat} {c : List Value} {v v' : Value} {w w' : Txt} (J : JI C H b c v w g) (S : BStep C g g' 70 b 0 c v v' w') : JI C H b (bc c b 0 v') v' w' g' :=
  ⟨J.fr.trans S.fr (fun _ h => h) (fun j hj hl => hj.elim (fun h => by have := J.hb; omega) (fun h => by have := J.hv j h; omega)), S.bld, J.hb, fun j hj => by
    rcases S.blk j hj with h1 | h1
    · exact J.hv j h1
    · have := J.fr.len; omega⟩
def kJ : List AItem := [.inLoop lp19_1, .inBlock 3, .code k19_0]
include T in
theorem join_tail {H : AHeap} {b m cp : Nat} {a : Option Addr} {l : List Txt} (hw : SlR C.old H 1 (.slice a m cp) (l.map str)) : ∀ (r : List Txt) (i : Nat) (c : List Value) (v : Value) (w : Txt) (g : AHeap) (t : List Value), r = l.drop i → JI C H b c v w g →
    w ≠ [] → w.length + (r.map fun x => x.length + 1).sum < 2 ^ 38 → m < 2 ^ 38 → tg t 1 = str [amp] → tg t 8 = bp b 0 → tg t 63 = .slice a m cp → tg t 64 = iv m → tg t 65 = iv i →
    ∃ g', R C r19 kJ t [] g = some (str (w ++ r.flatMap (fun x => amp :: x)), g') := by
  have hml := hw.len
  rw [List.length_map, Nat.mul_one] at hml
  intro r
  induction r with
  | nil =>
    intro i c v w g t hp J hne hz hm t1 t8 t63 t64 t65
    have hi : m ≤ i := by
      have := congrArg List.length hp
      rw [List.length_drop] at this; simp at this; omega
    obtain ⟨g1, e1, _⟩ := string_spec T J.bld (fun h => absurd h hne) (by simp at hz; omega)
    refine ⟨g1, ?_⟩
    unfold kJ
    rw [R_open lp19_1.eq_1]
    simp [t65, t64, show ¬ i < m by omega, k19_0, t8, Dc_ok, aun_bpn, e1, r19]
  | cons s r ih =>
    intro i c v w g t hp J hne hz hm t1 t8 t63 t64 t65
    have hl : i < l.length := by
      have := congrArg List.length hp
      rw [List.length_drop] at this; simp at this; omega
    rw [List.drop_eq_getElem_cons hl] at hp
    injection hp with h1 h2
    have hs : l[i]? = some s := by rw [List.getElem?_eq_getElem hl, h1]
    have hwg := hw.fr J.fr (fun _ _ h => h)
    obtain ⟨him, a', rfl, hrd⟩ := sl_elt hwg hs
    rw [List.map_cons, List.sum_cons] at hz
    obtain ⟨v1, g1, r1, e1, S1⟩ := writeString_spec T J.bld [amp] (by simp; omega)
    have J1 := J.step S1
    obtain ⟨v2, g2, r2, e2, S2⟩ := writeString_spec T J1.bld s (by simp; omega)
    have J2 := J1.step S2
    unfold kJ
    rw [R_open lp19_1.eq_1]
    simp only [bp] at e1 e2 t8
    obtain ⟨ab, ao, asp⟩ := a'
    rw [adda_mk] at hrd
    simp [t65, t64, him, t63, ixS_iv him, hrd, t1, t8, Dc_ok, e1, e2, iv_add (a := i) (b := 1) (by omega)]
    have J2' : JI C H b (bc (bc c b 0 v1) b 0 v2) v2 (w ++ amp :: s) g2 := by simpa using J2
    have hfin := fun t' x1 x8 x63 x64 x65 => ih (i + 1) _ v2 (w ++ amp :: s) g2 t' h2 J2' (by simp) (by simp; omega) hm x1 x8 x63 x64 x65
    unfold kJ at hfin
    simp only [List.append_assoc, List.cons_append] at hfin
    exact hfin _ (by simp [tg_ts, t1]) (by simp [tg_ts, t8, bp]) (by simp [tg_ts, t63]) (by simp [tg_ts, t64]) (by simp [tg_ts])
def kJ0 (K : List AItem) : List AItem := .inLoop lp19_0 :: .inBlock 1 :: K
theorem join_sum {h : AHeap} {K : List AItem} {m cp : Nat} {a : Option Addr} {l : List Txt} (hw : SlR C.old h 1 (.slice a m cp) (l.map str)) {V : Res → Prop} : ∀ (r : List Txt) (i n : Nat) (t : List Value), r = l.drop i →
    n + (r.map fun x => x.length + 1).sum < 2 ^ 38 → m < 2 ^ 38 → tg t 0 = .slice a m cp → tg t 1 = str [amp] → tg t 5 = iv n → tg t 39 = .slice a m cp → tg t 40 = iv m → tg t 41 = iv i →
    (∀ t', tg t' 0 = .slice a m cp → tg t' 1 = str [amp] → tg t' 5 = iv (n + (r.map fun x => x.length).sum) → V (R C r19 K t' [] h)) → V (R C r19 (kJ0 K) t [] h) := by
  have hml := hw.len
  rw [List.length_map, Nat.mul_one] at hml
  intro r
  induction r with
  | nil =>
    intro i n t hp hz hm t0 t1 t5 t39 t40 t41 go
    have hi : m ≤ i := by
      have := congrArg List.length hp
      rw [List.length_drop] at this; simp at this; omega
    unfold kJ0
    rw [R_open lp19_0.eq_1]
    simp [t41, t40, show ¬ i < m by omega]
    exact go _ (by simp [tg_ts, t0]) (by simp [tg_ts, t1]) (by simp [tg_ts, t5])
  | cons s r ih =>
    intro i n t hp hz hm t0 t1 t5 t39 t40 t41 go
    have hl : i < l.length := by
      have := congrArg List.length hp
      rw [List.length_drop] at this; simp at this; omega
    rw [List.drop_eq_getElem_cons hl] at hp
    injection hp with h1 h2
    have hs : l[i]? = some s := by rw [List.getElem?_eq_getElem hl, h1]
    obtain ⟨him, a', rfl, hrd⟩ := sl_elt hw hs
    rw [List.map_cons, List.sum_cons] at hz
    obtain ⟨ab, ao, asp⟩ := a'
    rw [adda_mk] at hrd
    have hbig : ¬ 9223372036854775807 - n < s.length := by omega
    unfold kJ0
    rw [R_open lp19_0.eq_1]
    simp [t41, t40, him, t39, ixS_iv him, hrd, t5, iv_sub (a := 9223372036854775807) (b := n) (by omega) (by omega), hbig, iv_add (a := n) (b := s.length) (by omega), iv_add (a := i) (b := 1) (by omega)]
    have hfin := fun t' x0 x1 x5 x39 x40 x41 => ih (i + 1) (n + s.length) t' h2 (by omega) hm x0 x1 x5 x39 x40 x41 (fun t'' y0 y1 y5 => go t'' y0 y1 (by rw [y5, List.map_cons, List.sum_cons]; congr 1; omega))
    unfold kJ0 at hfin
    exact hfin _ (by simp [tg_ts, t0]) (by simp [tg_ts, t1]) (by simp [tg_ts]) (by simp [tg_ts, t39]) (by simp [tg_ts, t40]) (by simp [tg_ts])
end Go.Ab.Aud

namespace Go.Ab.Aud
set_option maxRecDepth 20000
open Go.Wire (amp Txt join)
variable {C : Ctx} (T : Tab_LStr C)
include T in
theorem join_spec (lj : C.lies 70 2 0 70 = true) {h : AHeap} {m cp : Nat} {a : Option Addr} {l : List Txt} (hw : SlR C.old h 1 (.slice a m cp) (l.map str)) (hne : ∀ x ∈ l, x ≠ []) (hz : m + (l.map fun x => x.length + 1).sum < 2 ^ 37) :
    D C 19 [.slice a m cp, str [amp]] h = some (str (join l), h) := by
  rw [D_fn2 T.h19]
  have hml := hw.len
  rw [List.length_map, Nat.mul_one] at hml
  have hw0 := hw.lo (x := h.bs.length)
  generalize hH : ({ h with lo := h.bs.length } : AHeap) = H at *
  have hzs : Value.string ⟨⟨[]⟩⟩ = str [] := rfl
  have hHl : H.bs.length = h.bs.length := by rw [← hH]
  have hHlo : H.lo ≤ H.bs.length := by rw [← hH]; exact Nat.le_refl _
  have im : Value.int .i64 (m : Int) = iv m := rfl
  match l, hw, hw0, hne, hz, hml with
  | [], hw, hw0, hne, hz, hml =>
    simp only [List.length_nil] at hml
    subst hml
    have i0 : Value.int .i64 ((0 : Nat) : Int) = iv 0 := rfl
    simp [b19, hzs, i0, r19, join]
  | [s], hw, hw0, hne, hz, hml =>
    simp only [List.length_cons, List.length_nil, Nat.zero_add] at hml
    subst hml
    obtain ⟨_, a', rfl, hrd⟩ := sl_elt (i := 0) hw0 rfl
    obtain ⟨ab, ao, asp⟩ := a'
    rw [adda_mk, Nat.add_zero] at hrd
    have i1 : Value.int .i64 ((1 : Nat) : Int) = iv 1 := rfl
    simp [b19, hzs, i1, ixS_iv (show 0 < 1 by omega), hrd, r19, join]
  | s :: s2 :: r, hw, hw0, hne, hz, hml =>
    have hm2 : 2 ≤ m := by rw [← hml]; simp
    rw [join_flat]
    obtain ⟨_, a', rfl, hrd⟩ := sl_elt (i := 0) hw0 rfl
    obtain ⟨ab, ao, asp⟩ := a'
    rw [adda_mk, Nat.add_zero] at hrd
    rw [List.map_cons, List.sum_cons] at hz
    have hq : ¬ 9223372036854775807 / (m - 1) ≤ 1 := by
      have : 2 ≤ 9223372036854775807 / (m - 1) := by rw [Nat.le_div_iff_mul_le (by omega)]; omega
      omega
    have n0 : ¬ m = 0 := by omega
    have n1 : ¬ m = 1 := by omega
    obtain ⟨ta, tcp, hpart, htail, hlive⟩ := hw0.part (lo := some 1) (hi := none) (l := 1) (u := m) rfl rfl (by omega) (Nat.le_refl _)
    have hct : (((s :: s2 :: r).map str).drop (1 * 1)).take ((m - 1) * 1) = (s2 :: r).map str := by
      rw [List.map_cons, Nat.mul_one, List.drop_succ_cons, List.drop_zero, List.take_of_length_le]
      rw [List.length_map]; simp at hml ⊢; omega
    rw [hct] at htail
    have key : ∀ t, tg t 0 = .slice (some ⟨ab, ao, asp⟩) m cp → tg t 1 = str [amp] → tg t 5 = iv (m - 1 + ((s :: s2 :: r).map fun x => x.length).sum) →
        pur (R C r19 [.code k19_1] t [] H) h = some (str (s ++ (s2 :: r).flatMap (fun x => amp :: x)), h) := fun t t0 t1 t5 => by
      have hB0 : Bld C (H.push (.cells [.pointer none, .slice none 0 0] 71)) 70 H.bs.length 0 [.pointer none, .slice none 0 0] (.slice none 0 0) [] := ⟨push_self, .inl rfl, rfl, .nil, by simpa using hHlo, lj⟩
      have f0 : Fr H (H.push (.cells [.pointer none, .slice none 0 0] 71)) (fun _ => False) := Fr.push
      have J0 : JI C H H.bs.length [.pointer none, .slice none 0 0] (.slice none 0 0) [] (H.push (.cells [.pointer none, .slice none 0 0] 71)) := ⟨f0, hB0, Nat.le_refl _, fun j hj => by cases hj⟩
      have hsum : ((s :: s2 :: r).map fun x => x.length).sum ≤ s.length + 1 + ((s2 :: r).map fun x => x.length + 1).sum := by
        have : ∀ q : List Txt, (q.map fun x => x.length).sum ≤ (q.map fun x => x.length + 1).sum := fun q => by
          induction q with
          | nil => simp
          | cons a q ih => simp only [List.map_cons, List.sum_cons]; omega
        have := this (s2 :: r)
        rw [List.map_cons, List.sum_cons]; omega
      generalize hN : m - 1 + ((s :: s2 :: r).map fun x => x.length).sum = N at *
      obtain ⟨v1, g1, e1, S1⟩ := grow_spec T hB0 (n := N) (by omega) (by omega)
      have J1 := J0.step S1
      have sum2 : 0 ≤ ((s2 :: r).map fun x => x.length + 1).sum := Nat.zero_le _
      obtain ⟨v2, g2, r2, e2, S2⟩ := writeString_spec T J1.bld s (by simp; omega)
      have J2 := J1.step S2
      have hrd1 : read1 C.old g1 ⟨ab, ao, asp⟩ = some (str s) := by
        obtain ⟨_, a', ha', hr⟩ := sl_elt (i := 0) (hw0.fr J1.fr (fun _ _ h => h)) rfl
        cases ha'
        rw [adda_mk, Nat.add_zero] at hr; exact hr
      simp only [List.nil_append] at J2 e2
      have hps : sliceV g2 1 (.slice (some ⟨ab, ao, asp⟩) m cp) (some 1) none none = some (.slice ta (m - 1) tcp) := by
        rw [sliceV_same hw0 (hw0.fr J2.fr (fun _ _ h => h))]; exact hpart
      have hin : ∀ t', tg t' 1 = str [amp] → tg t' 8 = bp H.bs.length 0 → tg t' 63 = .slice ta (m - 1) tcp → tg t' 64 = iv (m - 1) → tg t' 65 = iv 0 →
          pur (R C r19 kJ t' [] g2) h = some (str (s ++ (s2 :: r).flatMap (fun x => amp :: x)), h) := fun t' y1 y8 y63 y64 y65 => by
        obtain ⟨g', e⟩ := join_tail T htail (s2 :: r) 0 _ v2 s g2 t' (by rw [List.drop_zero]) J2 (hne s (by simp)) (by omega) (by omega) y1 y8 y63 y64 y65
        rw [e, pur_ok (by simp)]
      unfold kJ at hin
      simp only [bp] at e1 e2 hin
      have im1 : Value.int .i64 ((m - 1 : Nat) : Int) = iv (m - 1) := rfl
      simp [k19_1, t5, Dc_ok, e1, t0, ixS_iv (show 0 < m by omega), hrd1, e2, hps, im1]
      exact hin _ (by simp [tg_ts, t1]) (by simp [tg_ts]) (by simp [tg_ts]) (by simp [tg_ts]) (by simp [tg_ts])
    have hfirst : ∀ t, tg t 0 = .slice (some ⟨ab, ao, asp⟩) m cp → tg t 1 = str [amp] → tg t 5 = iv (m - 1) → tg t 39 = .slice (some ⟨ab, ao, asp⟩) m cp → tg t 40 = iv m → tg t 41 = iv 0 →
        pur (R C r19 (kJ0 [.code k19_1]) t [] H) h = some (str (s ++ (s2 :: r).flatMap (fun x => amp :: x)), h) := fun t t0 t1 t5 t39 t40 t41 => by
      refine join_sum hw0 (V := fun R => pur R h = some (str (s ++ (s2 :: r).flatMap (fun x => amp :: x)), h)) (s :: s2 :: r) 0 (m - 1) t (by rw [List.drop_zero]) ?_ (by omega) t0 t1 t5 t39 t40 t41 key
      rw [List.map_cons, List.sum_cons]; omega
    unfold kJ0 at hfirst
    simp [b19, hzs, im, n0, n1, iv_sub (a := m) (b := 1) (by omega) (by omega), iv_quo (a := 9223372036854775807) (b := m - 1) (by omega) (by omega), hq, iv_mul (a := 1) (b := m - 1) (by omega), iv_add (a := 0) (b := m - 1) (by omega)]
    exact hfirst _ (by simp [tg_ts]) (by simp [tg_ts]) (by simp [tg_ts]) (by simp [tg_ts]) (by simp [tg_ts]) (by simp [tg_ts])
end Go.Ab.Aud

namespace Go.Ab.Aud
set_option maxRecDepth 20000
open Go.Wire (amp eqs Txt join encF enc1 printF)
variable {C : Ctx} (T : Tab_LStr C) (TW : Tab_LWir C)
theorem fcells_get : ∀ (l : List (Txt × Txt)) (i : Nat) (p : Txt × Txt), l[i]? = some p → ((fcells l).drop (i * 2)).take 2 = [str p.1, str p.2]
  | [], i, p, h => by simp at h
  | a :: l, 0, p, h => by
    simp at h; subst h
    rfl
  | a :: l, i + 1, p, h => by
    have ih := fcells_get l i p (by simpa using h)
    have : fcells (a :: l) = [str a.1, str a.2] ++ fcells l := rfl
    rw [this, show (i + 1) * 2 = 2 + i * 2 by omega, ← List.drop_drop]
    exact ih
theorem sl_fld {old : Old} {h : AHeap} {a : Option Addr} {n cp i : Nat} {l : List (Txt × Txt)} {p : Txt × Txt} (w : SlR old h 2 (.slice a n cp) (fcells l)) (hi : l[i]? = some p) :
    i < n ∧ ∃ a', a = some a' ∧ readN old h (adda a' (i * 2)) 2 = some [str p.1, str p.2] := by
  have hl := w.len
  rw [fcells_len] at hl
  have hi' : i < l.length := (List.getElem?_eq_some_iff.1 hi).1
  obtain ⟨a', rfl⟩ := w.ex (by omega)
  have hr := w.read (by omega)
  refine ⟨by omega, a', rfl, ?_⟩
  rw [readN_part hr (i := i * 2) (m := 2) (by omega), fcells_get l i p hi]
theorem str_add {a b : List UInt8} (h : a.length + b.length ≤ 2 ^ 40) : abin .add (str a) (str b) = some (str (a ++ b)) := by
  have : a.length + b.length ≤ sizeLim := h
  simp [abin, str, abinS, this]
def pf (p : Txt × Txt) : Txt := encF p.1 ++ eqs :: encF p.2
theorem encF_len (s : Txt) : (encF s).length ≤ 3 * s.length := by
  induction s with
  | nil => simp [encF]
  | cons a s ih =>
    have : encF (a :: s) = enc1 a ++ encF s := rfl
    have := (Go.Wire.enc1_len a).2
    simp only [*, List.length_append, List.length_cons]; omega
def kP : List AItem := [.inLoop lp10_0, .inBlock 0, .code k10_0]
include T TW in
theorem print_loop (le : C.lies 70 2 0 70 = true) {H : AHeap} {m cp : Nat} {a : Option Addr} {l : List (Txt × Txt)} (hwf : H.lo ≤ H.bs.length) (hw : SlR C.old H 2 (.slice a m cp) (fcells l)) (hm : m < 2 ^ 30) (hsz : ∀ p ∈ l, p.1.length < 2 ^ 34 ∧ p.2.length < 2 ^ 34)
    {V : Res → Prop} : ∀ (r : List (Txt × Txt)) (i : Nat) (done : List Txt) (v : Value) (g : AHeap) (t : List Value), r = l.drop i → i ≤ m → Fr H g (fun _ => False) → Own g 9 1 v i (done.map str) → (∀ j, blkOf v = some j → H.bs.length ≤ j) →
    tg t 3 = v → tg t 6 = .slice a m cp → tg t 7 = iv m → tg t 8 = iv i →
    (∀ v' g' t', Fr H g' (fun _ => False) → Own g' 9 1 v' m ((done ++ r.map pf).map str) → tg t' 3 = v' → V (R C r10 [.code k10_0] t' [] g')) → V (R C r10 kP t [] g) := by
  have hml := hw.len
  rw [fcells_len] at hml
  intro r
  induction r with
  | nil =>
    intro i done v g t hp hle f o hb t3 t6 t7 t8 go
    have hi : l.length ≤ i := by
      have := congrArg List.length hp
      rw [List.length_drop] at this; simp at this; omega
    have ho := o.len
    have hie : i = m := by omega
    subst hie
    unfold kP
    rw [R_open lp10_0.eq_1]
    simp [t8, t7]
    exact go v g _ f (by simpa using o) (by simp [tg_ts, t3])
  | cons p r ih =>
    intro i done v g t hp hle f o hb t3 t6 t7 t8 go
    have hl : i < l.length := by
      have := congrArg List.length hp
      rw [List.length_drop] at this; simp at this; omega
    rw [List.drop_eq_getElem_cons hl] at hp
    injection hp with h1 h2
    have hs : l[i]? = some p := by rw [List.getElem?_eq_getElem hl, h1]
    have hpm : p ∈ l := by rw [h1]; exact List.getElem_mem _
    obtain ⟨z1, z2⟩ := hsz p hpm
    obtain ⟨him, a', rfl, hrd⟩ := sl_fld (hw.fr f (fun _ _ h => h)) hs
    obtain ⟨ab, ao, asp⟩ := a'
    rw [adda_mk] at hrd
    have wf : g.lo ≤ g.bs.length := by have := f.lo; have := f.len; omega
    -- the copy
    generalize hg1 : g.push (.cells [str [], str []] 54) = g1
    have f1 : Fr g g1 (fun _ => False) := by rw [← hg1]; exact Fr.push
    have p1 : g1.at g.bs.length = some (.cells [str [], str []] 54) := by rw [← hg1]; exact push_self
    have lo1 : g1.lo ≤ g.bs.length := by rw [f1.lo]; exact wf
    have bx := wrN_cells (h := g1) (b := g.bs.length) (o := 0) (fz := 53) (c := [str [], str []]) (v := [str p.1, str p.2]) (by simp) (by simp)
    rw [splice2] at bx
    have f2 : Fr g (g1.put g.bs.length (.cells [str p.1, str p.2] 54)) (fun _ => False) := f1.put' (.inr (Nat.le_refl _))
    have p2 : (g1.put g.bs.length (.cells [str p.1, str p.2] 54)).at g.bs.length = some (.cells [str p.1, str p.2] 54) := put_self (get_lt p1)
    generalize g1.put g.bs.length (.cells [str p.1, str p.2] 54) = g2 at bx f2 p2
    generalize hg3 : g2.push (.cells [str (pf p)] 10) = g3
    have f3 : Fr g2 g3 (fun _ => False) := by rw [← hg3]; exact Fr.push
    have wf3 : g3.lo ≤ g3.bs.length := by have := f3.lo; have := f3.len; have := f2.lo; have := f2.len; omega
    obtain ⟨v', g4, e4, o4, f4, b4⟩ := append_own (old := C.old) (bytes := 16) (x := .slice (some ⟨g2.bs.length, 0, some 0⟩) 1 1) (m := 1) (new := [str (pf p)]) ((o.fr f2 fun _ _ h => h).fr f3 fun _ _ h => h) (by omega) rfl
      (fun _ => by rw [← hg3]; exact sl_one) (fun h => by cases h) rfl (by simp) (by simp [sizeLim]; omega) wf3
    have nv : blkOf v ≠ some g.bs.length := fun hc => by have := o.blk hc; omega
    have p4 := f4.get (f3.get p2 fun h => h) nv
    have l2 := f2.len
    have l3 := f3.len
    have fH : Fr H g4 (fun _ => False) := ((f.trans f2 (fun _ h => h) (fun _ h _ => h)).trans f3 (fun _ h => h) (fun _ h _ => h)).trans f4 (fun _ h => h) (fun j hj hl => by have := hb j hj; omega)
    have hb4 : ∀ j, blkOf v' = some j → H.bs.length ≤ j := fun j hj => by
      rcases b4 with b4 | b4 <;> rw [b4] at hj
      · exact hb j hj
      · cases hj; have := f.len; omega
    have e1 := fun h => encode_spec T TW le (s := p.1) (by omega) h
    have e2 := fun h => encode_spec T TW le (s := p.2) (by omega) h
    obtain ⟨va, vcp, hv⟩ := o.slice
    obtain ⟨wa, wcp, hv'⟩ := o4.slice
    have o4' : Own g4 9 1 v' (i + 1) ((done ++ [pf p]).map str) := by rw [List.map_append]; exact o4
    have hfin := fun t' x3 x6 x7 x8 => ih (i + 1) (done ++ [pf p]) v' g4 t' h2 (by omega) fH o4' hb4 x3 x6 x7 x8 (fun v'' g' t'' y1 y2 y3 => go v'' g' t'' y1 (by rw [List.append_assoc] at y2; exact y2) y3)
    rw [hv] at t3 e4
    rw [hv'] at e4
    rw [hv'] at hfin
    have h61 : Value.string ⟨⟨[61]⟩⟩ = str [eqs] := rfl
    have hzs : Value.string ⟨⟨[]⟩⟩ = str [] := rfl
    have a1 : abin .add (str (encF p.1)) (str [eqs]) = some (str (encF p.1 ++ [eqs])) := str_add (by have := encF_len p.1; simp; omega)
    have a2 : abin .add (str (encF p.1 ++ [eqs])) (str (encF p.2)) = some (str (pf p)) := by
      rw [str_add (by have := encF_len p.1; have := encF_len p.2; simp; omega)]; unfold pf; simp
    unfold kP at hfin ⊢
    rw [R_open lp10_0.eq_1]
    simp [t8, t7, him, t6, ixS_iv him, hrd, hzs, hg1, writeN_wr lo1, p1, bx, t3, read1_rd, p2, Dc_ok, e1, h61, a1, e2, a2, fillCells, spl1, hg3, e4, p4, iv_add (a := i) (b := 1) (by omega)]
    exact hfin _ (by simp [tg_ts]) (by simp [tg_ts, t6]) (by simp [tg_ts, t7]) (by simp [tg_ts])
theorem pf_ne (p : Txt × Txt) : pf p ≠ [] := by unfold pf; simp
theorem pf_len (p : Txt × Txt) : (pf p).length ≤ 3 * (p.1.length + p.2.length + 2) := by
  have := encF_len p.1; have := encF_len p.2
  unfold pf; simp; omega
def fsum (l : List (Txt × Txt)) : Nat := (l.map fun p => p.1.length + p.2.length + 2).sum
theorem fsum_mem : ∀ (l : List (Txt × Txt)) (p : Txt × Txt), p ∈ l → p.1.length + p.2.length + 2 ≤ fsum l
  | a :: l, p, h => by
    unfold fsum
    rw [List.map_cons, List.sum_cons]
    rcases List.mem_cons.1 h with h | h
    · subst h; omega
    · have := fsum_mem l p h; unfold fsum at this; omega
theorem pf_sum : ∀ (l : List (Txt × Txt)), ((l.map pf).map fun x => x.length + 1).sum ≤ 4 * fsum l ∧ 2 * l.length ≤ fsum l
  | [] => ⟨by simp [fsum], by simp [fsum]⟩
  | a :: l => by
    have ih := pf_sum l
    have := pf_len a
    unfold fsum at ih ⊢
    simp only [List.map_cons, List.sum_cons, List.length_cons] at ih ⊢
    omega
include T TW in
theorem printForm_spec (le : C.lies 70 2 0 70 = true) {h : AHeap} {m cp : Nat} {a : Option Addr} {l : List (Txt × Txt)} (hw : SlR C.old h 2 (.slice a m cp) (fcells l)) (hz : fsum l < 2 ^ 29) :
    D C 10 [.slice a m cp] h = some (str (printF l), h) := by
  rw [D_fn2 TW.h10]
  have hml := hw.len
  rw [fcells_len] at hml
  have hw0 := hw.lo (x := h.bs.length)
  obtain ⟨ps1, ps2⟩ := pf_sum l
  generalize hH : ({ h with lo := h.bs.length } : AHeap) = H at *
  have hwf : H.lo ≤ H.bs.length := by rw [← hH]; exact Nat.le_refl _
  have hzs : Value.string ⟨⟨[]⟩⟩ = str [] := rfl
  have hamp : Value.string ⟨⟨[38]⟩⟩ = str [amp] := rfl
  have im : Value.int .i64 (m : Int) = iv m := rfl
  have key : ∀ t, tg t 3 = .slice none 0 0 → tg t 6 = .slice a m cp → tg t 7 = iv m → tg t 8 = iv 0 → pur (R C r10 kP t [] H) h = some (str (printF l), h) := fun t t3 t6 t7 t8 => by
    refine print_loop T TW le hwf hw0 (by omega) (fun p hp => by have := fsum_mem l p hp; omega) (V := fun R => pur R h = some (str (printF l), h)) l 0 [] (.slice none 0 0) H t (by rw [List.drop_zero]) (by omega) (.refl _ _) .nil (fun j hj => by cases hj) t3 t6 t7 t8 fun v' g' t' f' o' x3 => ?_
    rw [List.nil_append] at o'
    obtain ⟨wa, wcp, rfl⟩ := o'.slice
    have ej := join_spec T le (o'.sl (old := C.old) (by omega)) (fun x hx => by obtain ⟨p, _, rfl⟩ := List.mem_map.1 hx; exact pf_ne p) (by omega)
    have ej' : D C 19 [.slice wa m wcp, str [amp]] g' = some (str (printF l), g') := ej
    simp [k10_0, x3, hamp, Dc_ok, ej', r10]
  unfold kP at key
  simp [b10, hzs, im]
  exact key _ (by simp [tg_ts]) (by simp [tg_ts]) (by simp [tg_ts]) (by simp [tg_ts])
end Go.Ab.Aud

namespace Go.Ab.Aud
set_option maxRecDepth 20000
open Go.Wire (b64 t64 Txt)
open Go.Sha
variable {C : Ctx} (T : Tab_LStr C) (TW : Tab_LWir C)
def x36 : ACode := (.seq (.ops [
 oo 6 (.move (.cst (.int .u32 0)))])
 (.seq (.seq (.ops [
 oo 8 (.move (.tmp 0)),
 oo 9 (.len (.tmp 8))])
 (.block 0 (.seq (.block 4 (.seq (.block 3 (.seq (.block 2 (.seq (.block 1 (.seq (.seq (.seq (.ops [
 oo 11 (.bin .eql (.tmp 9) (.cst (.int .i64 2))),
 oo 10 (.move (.tmp 11))])
 (.cond (.tmp 10)
 (.exit 2)
 .skip))
 (.seq (.seq (.ops [
 oo 13 (.bin .eql (.tmp 9) (.cst (.int .i64 1))),
 oo 12 (.move (.tmp 13))])
 (.cond (.tmp 12)
 (.exit 3)
 .skip))
 (.seq (.ops [
 oo 15 (.bin .eql (.tmp 9) (.cst (.int .i64 0))),
 oo 14 (.move (.tmp 15))])
 (.cond (.tmp 14)
 (.exit 4)
 .skip))))
 (.exit 1)))
 (.ops [
 oo 16 (.move (.tmp 6)),
 oo 17 (.move (.tmp 0)),
 oo 18 (.idxAddrSl 1 (.tmp 17) (.cst (.int .i64 2))),
 oo 19 (.load1 (.tmp 18)),
 oo 20 (.convInt .u32 (.tmp 19)),
 oo 21 (.bin .or (.tmp 16) (.tmp 20)),
 oo 6 (.move (.tmp 21))])))
 (.ops [
 oo 22 (.move (.tmp 6)),
 oo 23 (.move (.tmp 0)),
 oo 24 (.idxAddrSl 1 (.tmp 23) (.cst (.int .i64 1))),
 oo 25 (.load1 (.tmp 24)),
 oo 26 (.convInt .u32 (.tmp 25)),
 oo 27 (.bin .shl (.tmp 26) (.cst (.int .u64 8))),
 oo 28 (.bin .or (.tmp 22) (.tmp 27)),
 oo 6 (.move (.tmp 28))])))
 (.seq (.ops [
 oo 29 (.move (.tmp 6)),
 oo 30 (.move (.tmp 0)),
 oo 31 (.idxAddrSl 1 (.tmp 30) (.cst (.int .i64 0))),
 oo 32 (.load1 (.tmp 31)),
 oo 33 (.convInt .u32 (.tmp 32)),
 oo 34 (.bin .shl (.tmp 33) (.cst (.int .u64 16))),
 oo 35 (.bin .or (.tmp 29) (.tmp 34)),
 oo 6 (.move (.tmp 35))])
 (.exit 0))))
 (.seq (.seq (.ops [
 oo 36 (.call 29 [(.tmp 5)]),
 oo 4 (.move (.tmp 36))])
 .ret)
 (.exit 0)))))
 (.seq (.seq (.ops [
 oo 37 (.move (.tmp 0)),
 oo 38 (.len (.tmp 37)),
 oo 39 (.min2 (.tmp 38) (.cst (.int .i64 3))),
 oo 40 (.bin .add (.tmp 39) (.cst (.int .i64 1))),
 oo 41 (.move (.cst (.int .i64 0)))])
 (.block 5 (.loop lp36_0)))
 k36_0)))
def s36 : ACode := .seq (.ops [oo 5 (.box 70 (.cst (.agg ⟨[(.pointer none), (.slice none 0 0)]⟩)))]) (.seq (.label 0) x36)
theorem b36_eq : b36 = .seq (.ops [oo 4 (.move (.cst (.string ⟨⟨[]⟩⟩)))]) (.scope s36) := rfl
theorem goto36 : agotoIn 0 [.inScope s36] = some [.code (.seq .skip x36), .inScope s36] := rfl
def plain : List UInt8 := [65, 66, 67, 68, 69, 70, 71, 72, 73, 74, 75, 76, 77, 78, 79, 80, 81, 82, 83, 84, 85, 86, 87, 88, 89, 90, 97, 98, 99, 100, 101, 102, 103, 104, 105, 106, 107, 108, 109, 110, 111, 112, 113, 114, 115, 116, 117, 118, 119, 120, 121, 122, 48, 49, 50, 51, 52, 53, 54, 55, 56, 57, 43, 47]
theorem plain_b64 {n : Nat} (h : n < 64) : plain.getD n 0 = b64 n := by
  have : ∀ n : _root_.Fin 64, plain.getD n.val 0 = b64 n.val := by decide +kernel
  exact this ⟨n, h⟩
theorem or8 {x y : Nat} (h : x < 2 ^ 8) : x ||| y * 256 = y * 256 + x := by
  rw [Nat.or_comm, Nat.mul_comm y 256]
  exact (Nat.two_pow_add_eq_or_of_lt (i := 8) h y).symm
theorem or16 {x y : Nat} (h : x < 2 ^ 16) : x ||| y * 65536 = y * 65536 + x := by
  rw [Nat.or_comm, Nat.mul_comm y 65536]
  exact (Nat.two_pow_add_eq_or_of_lt (i := 16) h y).symm
/-- the letters' numbers -/
theorem w_six {x : BitVec 32} {s : Nat} : ((x >>> s) &&& 63#32).toNat = x.toNat / 2 ^ s % 64 := by
  rw [BitVec.toNat_and, BitVec.toNat_ushiftRight, Nat.shiftRight_eq_div_pow]
  exact Nat.and_two_pow_sub_one_eq_mod _ 6
theorem byteW_nat (b : UInt8) : (byteW b).toNat = b.toNat := by
  have := b.toNat_lt
  simp [byteW]
  try omega
theorem w_n1 (a : UInt8) : ((0#32) ||| (byteW a <<< 16)).toNat = a.toNat * 65536 := by
  have := a.toNat_lt
  rw [BitVec.toNat_or, BitVec.toNat_shiftLeft, byteW_nat, Nat.shiftLeft_eq]
  simp
  omega
theorem w_n2 (a b : UInt8) : (((0#32) ||| (byteW b <<< 8)) ||| (byteW a <<< 16)).toNat = a.toNat * 65536 + b.toNat * 256 := by
  have := a.toNat_lt
  have := b.toNat_lt
  have h1 : ((0#32) ||| (byteW b <<< 8)).toNat = b.toNat * 256 := by
    rw [BitVec.toNat_or, BitVec.toNat_shiftLeft, byteW_nat, Nat.shiftLeft_eq]
    simp
    omega
  rw [BitVec.toNat_or, h1, BitVec.toNat_shiftLeft, byteW_nat, Nat.shiftLeft_eq, Nat.mod_eq_of_lt (by omega)]
  exact or16 (by omega)
theorem w_n3 (a b c : UInt8) : ((((0#32) ||| byteW c) ||| (byteW b <<< 8)) ||| (byteW a <<< 16)).toNat = a.toNat * 65536 + (b.toNat * 256 + c.toNat) := by
  have := a.toNat_lt
  have := b.toNat_lt
  have := c.toNat_lt
  have h1 : (((0#32) ||| byteW c) ||| (byteW b <<< 8)).toNat = b.toNat * 256 + c.toNat := by
    rw [BitVec.toNat_or, BitVec.toNat_or, byteW_nat, BitVec.toNat_shiftLeft, byteW_nat, Nat.shiftLeft_eq, Nat.mod_eq_of_lt (by omega)]
    simp only [BitVec.toNat_ofNat, Nat.zero_mod, Nat.zero_or]
    exact or8 (by omega)
  rw [BitVec.toNat_or, h1, BitVec.toNat_shiftLeft, byteW_nat, Nat.shiftLeft_eq, Nat.mod_eq_of_lt (by omega)]
  exact or16 (by omega)
end Go.Ab.Aud

namespace Go.Ab.Aud
set_option maxRecDepth 20000
open Go.Wire (b64 t64 Txt)
open Go.Sha
variable {C : Ctx} (T : Tab_LStr C) (TW : Tab_LWir C)
structure TX (cur : Value) (b : Nat) (n : BitVec 32) (cnt i : Nat) (t : List Value) : Prop where
  t0 : tg t 0 = cur
  t1 : tg t 1 = str plain
  t5 : tg t 5 = bp b 0
  t6 : tg t 6 = wv n
  t40 : tg t 40 = iv cnt
  t41 : tg t 41 = iv i
def kX : List AItem := [.inLoop lp36_0, .inBlock 5, .code k36_0, .inScope s36]
include T in
theorem letter_step {H : AHeap} {b cnt i : Nat} {c : List Value} {v : Value} {w : Txt} {g : AHeap} {t : List Value} {cur : Value} {n : BitVec 32} (J : JI C H b c v w g) (X : TX cur b n cnt i t) (hi : i < cnt) (hi3 : i ≤ 3) (hz : w.length < 2 ^ 38) {V : Res → Prop}
    (go : ∀ c' v' g' t', JI C H b c' v' (w ++ [b64 (n.toNat / 2 ^ (18 - 6 * i) % 64)]) g' → TX cur b n cnt (i + 1) t' → V (R C r36 kX t' [] g')) : V (R C r36 kX t [] g) := by
  obtain ⟨v1, g1, e1, S1⟩ := writeByte_spec T J.bld (b64 (n.toNat / 2 ^ (18 - 6 * i) % 64)) (by omega)
  have J1 := J.step S1
  have hm : n.toNat / 2 ^ (18 - 6 * i) % 64 < 64 := Nat.mod_lt _ (by omega)
  have hsh : abin .shr (wv n) (iv (18 - 6 * i)) = some (wv (n >>> (18 - 6 * i))) := w_shr (by omega)
  have h63 : Value.int .u32 63 = wv 63#32 := rfl
  have hsix : ((n >>> (18 - 6 * i)) &&& 63#32).toNat = n.toNat / 2 ^ (18 - 6 * i) % 64 := w_six
  have hix : ∀ h, idxSv (str plain) (wv ((n >>> (18 - 6 * i)) &&& 63#32)) h = some (bv (b64 (n.toNat / 2 ^ (18 - 6 * i) % 64)), h) := fun h => by
    have h1 : idxSv (str plain) (iv ((n >>> (18 - 6 * i)) &&& 63#32).toNat) h = some (bv (b64 (n.toNat / 2 ^ (18 - 6 * i) % 64)), h) := by
      rw [hsix, idxSv_str (by exact hm), plain_b64 hm]
    exact h1
  have h1 := X.t5
  simp only [bp] at e1 h1
  generalize b64 (n.toNat / 2 ^ (18 - 6 * i) % 64) = x at *
  unfold kX
  rw [R_open lp36_0.eq_1]
  have hand : abin .and (wv (n >>> (18 - 6 * i))) (wv 63#32) = some (wv ((n >>> (18 - 6 * i)) &&& 63#32)) := w_and
  generalize (n >>> (18 - 6 * i)) &&& 63#32 = y at *
  generalize n >>> (18 - 6 * i) = z at *
  simp [X.t41, X.t40, hi, X.t1, X.t6, iv_mul (a := 6) (b := i) (by omega), iv_sub (a := 18) (b := 6 * i) (by omega) (by omega), hsh, h63, hand, hix, h1, Dc_ok, e1, iv_add (a := i) (b := 1) (by omega)]
  have hg := fun t' X' => go _ v1 g1 t' J1 X'
  unfold kX at hg
  exact hg _ ⟨by simp [tg_ts, X.t0], by simp [tg_ts, X.t1], by simp [tg_ts, h1, bp], by simp [tg_ts, X.t6], by simp [tg_ts, X.t40], by simp [tg_ts]⟩
theorem sl_byte {old : Old} {h : AHeap} {a : Option Addr} {n cp i : Nat} {l : List UInt8} (w : SlR old h 1 (.slice a n cp) (bytesVals l)) (hi : i < l.length) :
    i < n ∧ ∃ a', a = some a' ∧ read1 old h (adda a' i) = some (bv (l.getD i 0)) := by
  have hl := w.len
  rw [bytes_len, Nat.mul_one] at hl
  obtain ⟨a', rfl⟩ := w.ex (by omega)
  have hr := w.read (by omega)
  refine ⟨by omega, a', rfl, ?_⟩
  rw [readN_read1 hr (by omega), bytes_get, List.getD_eq_getElem?_getD, List.getElem?_eq_getElem hi]; rfl
/-- the letters of a piece are written; then the rest -/
theorem letters_end {H : AHeap} {b cnt m cp k : Nat} {a : Option Addr} {c : List Value} {v : Value} {w : Txt} {g : AHeap} {t : List Value} {n : BitVec 32} {r : List UInt8} (J : JI C H b c v w g) (hw : SlR C.old H 1 (.slice a m cp) (bytesVals r)) (X : TX (.slice a m cp) b n cnt cnt t) (hk : k = min r.length 3) {V : Res → Prop}
    (go : ∀ a' cp' t', SlR C.old H 1 (.slice a' (m - k) cp') (bytesVals (r.drop k)) → tg t' 0 = .slice a' (m - k) cp' → tg t' 1 = str plain → tg t' 5 = bp b 0 → V (R C r36 [.code x36, .inScope s36] t' [] g)) : V (R C r36 kX t [] g) := by
  have hml := hw.len
  rw [bytes_len, Nat.mul_one] at hml
  obtain ⟨a', cp', hp, hs, _⟩ := hw.part (lo := some (k : Int)) (hi := none) (l := k) (u := m) rfl rfl (by omega) (Nat.le_refl _)
  have hc : ((bytesVals r).drop (k * 1)).take ((m - k) * 1) = bytesVals (r.drop k) := by
    rw [Nat.mul_one, Nat.mul_one, List.take_of_length_le (by rw [List.length_drop, bytes_len]; omega)]
    simp [bytesVals]
  rw [hc] at hs
  have hp' : sliceV g 1 (.slice a m cp) (some (k : Int)) none none = some (.slice a' (m - k) cp') := by
    rw [sliceV_same hw (hw.fr J.fr (fun _ _ h => h))]; exact hp
  have im : Value.int .i64 (m : Int) = iv m := rfl
  have hmk : min m 3 = k := by omega
  unfold kX
  rw [R_open lp36_0.eq_1]
  simp [X.t41, X.t40, k36_0, X.t0, im, mm_iv, hmk, hp', goto36]
  exact go a' cp' _ hs (by simp [tg_ts]) (by simp [tg_ts, X.t1]) (by simp [tg_ts, X.t5])
include T in
theorem text_loop {H : AHeap} {b : Nat} : ∀ (f : Nat) (r : List UInt8) (a : Option Addr) (m cp : Nat) (c : List Value) (v : Value) (w : Txt) (g : AHeap) (t : List Value), r.length < f → JI C H b c v w g → (w = [] → v = .slice none 0 0) →
    SlR C.old H 1 (.slice a m cp) (bytesVals r) → w.length + 4 * r.length < 2 ^ 37 → tg t 0 = .slice a m cp → tg t 1 = str plain → tg t 5 = bp b 0 →
    ∃ g', R C r36 [.code x36, .inScope s36] t [] g = some (str (w ++ t64 r), g') := by
  intro f
  induction f with
  | zero =>
    intro r a m cp c v w g t hf J hv hw hz t0 t1 t5
    omega
  | succ f ih =>
    intro r a m cp c v w g t hf J hv hw hz t0 t1 t5
    have hml := hw.len
    rw [bytes_len, Nat.mul_one] at hml
    have im : Value.int .i64 (m : Int) = iv m := rfl
    have hwg := hw.fr J.fr (fun _ _ h => h)
    have z32 : Value.int .u32 0 = wv 0#32 := rfl
    match r, hf, hw, hwg, hz, hml with
    | [], hf, hw, hwg, hz, hml =>
      simp only [List.length_nil] at hml
      subst hml
      obtain ⟨g1, e1, _⟩ := string_spec T J.bld hv (by omega)
      have i0 : Value.int .i64 ((0 : Nat) : Int) = iv 0 := rfl
      refine ⟨g1, ?_⟩
      simp only [bp] at e1 t5
      unfold x36
      simp [t0, i0, t5, Dc_ok, e1, r36, t64]
    | [x], hf, hw, hwg, hz, hml =>
      have hx := x.toNat_lt
      have hN := w_n1 x
      have sx : abin .shl (wv (byteW x)) (uv 16) = some (wv (byteW x <<< 16)) := w_shl (by omega)
      have ox : ∀ n : BitVec 32, abin .or (wv n) (wv (byteW x <<< 16)) = some (wv (n ||| byteW x <<< 16)) := fun n => w_or
      obtain ⟨_, a', rfl, r0⟩ := sl_byte (i := 0) hwg (by simp)
      obtain ⟨ab, ao, asp⟩ := a'
      rw [adda_mk, Nat.add_zero] at r0
      simp only [List.getD_cons_zero, List.getD_cons_succ] at r0
      simp only [List.length_cons, List.length_nil, Nat.zero_add] at hml
      subst hml
      have ik : Value.int .i64 ((1 : Nat) : Int) = iv 1 := rfl
      have hwl : ((w ++ [b64 ((0#32 ||| byteW x <<< 16).toNat / 2 ^ (18 - 6 * 0) % 64)]) ++ [b64 ((0#32 ||| byteW x <<< 16).toNat / 2 ^ (18 - 6 * 1) % 64)]) = w ++ [b64 (x.toNat / 4), b64 (x.toNat % 4 * 16)] := by
        rw [hN]
        simp only [List.append_assoc, List.cons_append, List.nil_append]
        rw [show x.toNat * 65536 / 2 ^ (18 - 6 * 0) % 64 = x.toNat / 4 by simp only [Nat.reduceMul, Nat.reduceSub, Nat.reducePow]; omega]
        rw [show x.toNat * 65536 / 2 ^ (18 - 6 * 1) % 64 = x.toNat % 4 * 16 by simp only [Nat.reduceMul, Nat.reduceSub, Nat.reducePow]; omega]
      have hmain : ∀ t', TX (.slice (some ⟨ab, ao, asp⟩) 1 cp) b (0#32 ||| byteW x <<< 16) 2 0 t' → ∃ g', R C r36 kX t' [] g = some (str (w ++ t64 ([x])), g') := fun t' X => by
        refine letter_step T J X (by omega) (by omega) (by simp only [List.length_append, List.length_cons, List.length_nil] at hz ⊢; omega) (V := fun R => ∃ g', R = some (str (w ++ t64 ([x])), g')) fun c0 v0 g0 t0 J0 X0 => ?_
        refine letter_step T J0 X0 (by omega) (by omega) (by simp only [List.length_append, List.length_cons, List.length_nil] at hz ⊢; omega) (V := fun R => ∃ g', R = some (str (w ++ t64 ([x])), g')) fun c1 v1 g1 t1 J1 X1 => ?_
        refine letters_end (k := 1) J1 hw X1 (by simp) (V := fun R => ∃ g', R = some (str (w ++ t64 ([x])), g')) fun a9 cp9 t9 w9 x0 x1 x5 => ?_
        rw [hwl] at J1
        have := ih [] a9 (1 - 1) cp9 _ _ _ _ t9 (by simp at hf ⊢; omega) J1 (fun h => by simp at h) (by simpa using w9) (by simp at hz ⊢; omega) x0 x1 x5
        rw [List.append_assoc] at this
        simpa [t64] using this
      unfold kX at hmain
      unfold x36
      simp [z32, t0, ik, ixS_iv (show 0 < 1 by omega), r0, cvt_bw, sx, ox, mm_iv, iv_add (a := 1) (b := 1) (by omega), -BitVec.zero_or, -w_or]
      exact hmain _ ⟨by simp [tg_ts, t0], by simp [tg_ts, t1], by simp [tg_ts, t5], by simp [tg_ts], by simp [tg_ts], by simp [tg_ts]⟩
    | [x, y], hf, hw, hwg, hz, hml =>
      have hx := x.toNat_lt
      have hy := y.toNat_lt
      have hN := w_n2 x y
      have sx : abin .shl (wv (byteW x)) (uv 16) = some (wv (byteW x <<< 16)) := w_shl (by omega)
      have ox : ∀ n : BitVec 32, abin .or (wv n) (wv (byteW x <<< 16)) = some (wv (n ||| byteW x <<< 16)) := fun n => w_or
      have sy : abin .shl (wv (byteW y)) (uv 8) = some (wv (byteW y <<< 8)) := w_shl (by omega)
      have oy : ∀ n : BitVec 32, abin .or (wv n) (wv (byteW y <<< 8)) = some (wv (n ||| byteW y <<< 8)) := fun n => w_or
      obtain ⟨_, a', rfl, r0⟩ := sl_byte (i := 0) hwg (by simp)
      obtain ⟨_, a2, ha2, r1⟩ := sl_byte (i := 1) hwg (by simp)
      cases ha2
      obtain ⟨ab, ao, asp⟩ := a'
      rw [adda_mk, Nat.add_zero] at r0
      rw [adda_mk] at r1
      simp only [List.getD_cons_zero, List.getD_cons_succ] at r0 r1
      simp only [List.length_cons, List.length_nil, Nat.zero_add] at hml
      subst hml
      have ik : Value.int .i64 ((2 : Nat) : Int) = iv 2 := rfl
      have hwl : (((w ++ [b64 (((0#32 ||| byteW y <<< 8) ||| byteW x <<< 16).toNat / 2 ^ (18 - 6 * 0) % 64)]) ++ [b64 (((0#32 ||| byteW y <<< 8) ||| byteW x <<< 16).toNat / 2 ^ (18 - 6 * 1) % 64)]) ++ [b64 (((0#32 ||| byteW y <<< 8) ||| byteW x <<< 16).toNat / 2 ^ (18 - 6 * 2) % 64)]) = w ++ [b64 (x.toNat / 4), b64 (x.toNat % 4 * 16 + y.toNat / 16), b64 (y.toNat % 16 * 4)] := by
        rw [hN]
        simp only [List.append_assoc, List.cons_append, List.nil_append]
        rw [show (x.toNat * 65536 + y.toNat * 256) / 2 ^ (18 - 6 * 0) % 64 = x.toNat / 4 by simp only [Nat.reduceMul, Nat.reduceSub, Nat.reducePow]; omega]
        rw [show (x.toNat * 65536 + y.toNat * 256) / 2 ^ (18 - 6 * 1) % 64 = x.toNat % 4 * 16 + y.toNat / 16 by simp only [Nat.reduceMul, Nat.reduceSub, Nat.reducePow]; omega]
        rw [show (x.toNat * 65536 + y.toNat * 256) / 2 ^ (18 - 6 * 2) % 64 = y.toNat % 16 * 4 by simp only [Nat.reduceMul, Nat.reduceSub, Nat.reducePow]; omega]
      have hmain : ∀ t', TX (.slice (some ⟨ab, ao, asp⟩) 2 cp) b ((0#32 ||| byteW y <<< 8) ||| byteW x <<< 16) 3 0 t' → ∃ g', R C r36 kX t' [] g = some (str (w ++ t64 ([x, y])), g') := fun t' X => by
        refine letter_step T J X (by omega) (by omega) (by simp only [List.length_append, List.length_cons, List.length_nil] at hz ⊢; omega) (V := fun R => ∃ g', R = some (str (w ++ t64 ([x, y])), g')) fun c0 v0 g0 t0 J0 X0 => ?_
        refine letter_step T J0 X0 (by omega) (by omega) (by simp only [List.length_append, List.length_cons, List.length_nil] at hz ⊢; omega) (V := fun R => ∃ g', R = some (str (w ++ t64 ([x, y])), g')) fun c1 v1 g1 t1 J1 X1 => ?_
        refine letter_step T J1 X1 (by omega) (by omega) (by simp only [List.length_append, List.length_cons, List.length_nil] at hz ⊢; omega) (V := fun R => ∃ g', R = some (str (w ++ t64 ([x, y])), g')) fun c2 v2 g2 t2 J2 X2 => ?_
        refine letters_end (k := 2) J2 hw X2 (by simp) (V := fun R => ∃ g', R = some (str (w ++ t64 ([x, y])), g')) fun a9 cp9 t9 w9 x0 x1 x5 => ?_
        rw [hwl] at J2
        have := ih [] a9 (2 - 2) cp9 _ _ _ _ t9 (by simp at hf ⊢; omega) J2 (fun h => by simp at h) (by simpa using w9) (by simp at hz ⊢; omega) x0 x1 x5
        rw [List.append_assoc] at this
        simpa [t64] using this
      unfold kX at hmain
      unfold x36
      simp [z32, t0, ik, ixS_iv (show 0 < 2 by omega), ixS_iv (show 1 < 2 by omega), r0, r1, cvt_bw, sx, ox, sy, oy, mm_iv, iv_add (a := 2) (b := 1) (by omega), -BitVec.zero_or, -w_or]
      exact hmain _ ⟨by simp [tg_ts, t0], by simp [tg_ts, t1], by simp [tg_ts, t5], by simp [tg_ts], by simp [tg_ts], by simp [tg_ts]⟩
    | x :: y :: z :: q, hf, hw, hwg, hz, hml =>
      have hx := x.toNat_lt
      have hy := y.toNat_lt
      have hzz := z.toNat_lt
      have hN := w_n3 x y z
      have sx : abin .shl (wv (byteW x)) (uv 16) = some (wv (byteW x <<< 16)) := w_shl (by omega)
      have ox : ∀ n : BitVec 32, abin .or (wv n) (wv (byteW x <<< 16)) = some (wv (n ||| byteW x <<< 16)) := fun n => w_or
      have sy : abin .shl (wv (byteW y)) (uv 8) = some (wv (byteW y <<< 8)) := w_shl (by omega)
      have oy : ∀ n : BitVec 32, abin .or (wv n) (wv (byteW y <<< 8)) = some (wv (n ||| byteW y <<< 8)) := fun n => w_or
      have oz : ∀ n : BitVec 32, abin .or (wv n) (wv (byteW z)) = some (wv (n ||| byteW z)) := fun n => w_or
      obtain ⟨_, a', rfl, r0⟩ := sl_byte (i := 0) hwg (by simp)
      obtain ⟨_, a2, ha2, r1⟩ := sl_byte (i := 1) hwg (by simp)
      cases ha2
      obtain ⟨_, a3, ha3, r2⟩ := sl_byte (i := 2) hwg (by simp)
      cases ha3
      obtain ⟨ab, ao, asp⟩ := a'
      rw [adda_mk, Nat.add_zero] at r0
      rw [adda_mk] at r1
      rw [adda_mk] at r2
      simp only [List.getD_cons_zero, List.getD_cons_succ] at r0 r1 r2
      have hm3 : 3 ≤ m := by rw [← hml]; simp
      have ik : Value.int .i64 (m : Int) = iv m := rfl
      have n0 : ¬ m = 0 := by omega
      have n1 : ¬ m = 1 := by omega
      have n2 : ¬ m = 2 := by omega
      have hmin : min m 3 = 3 := by omega
      have hwl : ((((w ++ [b64 ((((0#32 ||| byteW z) ||| byteW y <<< 8) ||| byteW x <<< 16).toNat / 2 ^ (18 - 6 * 0) % 64)]) ++ [b64 ((((0#32 ||| byteW z) ||| byteW y <<< 8) ||| byteW x <<< 16).toNat / 2 ^ (18 - 6 * 1) % 64)]) ++ [b64 ((((0#32 ||| byteW z) ||| byteW y <<< 8) ||| byteW x <<< 16).toNat / 2 ^ (18 - 6 * 2) % 64)]) ++ [b64 ((((0#32 ||| byteW z) ||| byteW y <<< 8) ||| byteW x <<< 16).toNat / 2 ^ (18 - 6 * 3) % 64)]) = w ++ [b64 (x.toNat / 4), b64 (x.toNat % 4 * 16 + y.toNat / 16), b64 (y.toNat % 16 * 4 + z.toNat / 64), b64 (z.toNat % 64)] := by
        rw [hN]
        simp only [List.append_assoc, List.cons_append, List.nil_append]
        rw [show (x.toNat * 65536 + (y.toNat * 256 + z.toNat)) / 2 ^ (18 - 6 * 0) % 64 = x.toNat / 4 by simp only [Nat.reduceMul, Nat.reduceSub, Nat.reducePow]; omega]
        rw [show (x.toNat * 65536 + (y.toNat * 256 + z.toNat)) / 2 ^ (18 - 6 * 1) % 64 = x.toNat % 4 * 16 + y.toNat / 16 by simp only [Nat.reduceMul, Nat.reduceSub, Nat.reducePow]; omega]
        rw [show (x.toNat * 65536 + (y.toNat * 256 + z.toNat)) / 2 ^ (18 - 6 * 2) % 64 = y.toNat % 16 * 4 + z.toNat / 64 by simp only [Nat.reduceMul, Nat.reduceSub, Nat.reducePow]; omega]
        rw [show (x.toNat * 65536 + (y.toNat * 256 + z.toNat)) / 2 ^ (18 - 6 * 3) % 64 = z.toNat % 64 by simp only [Nat.reduceMul, Nat.reduceSub, Nat.reducePow]; omega]
      have hmain : ∀ t', TX (.slice (some ⟨ab, ao, asp⟩) m cp) b (((0#32 ||| byteW z) ||| byteW y <<< 8) ||| byteW x <<< 16) 4 0 t' → ∃ g', R C r36 kX t' [] g = some (str (w ++ t64 (x :: y :: z :: q)), g') := fun t' X => by
        refine letter_step T J X (by omega) (by omega) (by simp only [List.length_append, List.length_cons, List.length_nil] at hz ⊢; omega) (V := fun R => ∃ g', R = some (str (w ++ t64 (x :: y :: z :: q)), g')) fun c0 v0 g0 t0 J0 X0 => ?_
        refine letter_step T J0 X0 (by omega) (by omega) (by simp only [List.length_append, List.length_cons, List.length_nil] at hz ⊢; omega) (V := fun R => ∃ g', R = some (str (w ++ t64 (x :: y :: z :: q)), g')) fun c1 v1 g1 t1 J1 X1 => ?_
        refine letter_step T J1 X1 (by omega) (by omega) (by simp only [List.length_append, List.length_cons, List.length_nil] at hz ⊢; omega) (V := fun R => ∃ g', R = some (str (w ++ t64 (x :: y :: z :: q)), g')) fun c2 v2 g2 t2 J2 X2 => ?_
        refine letter_step T J2 X2 (by omega) (by omega) (by simp only [List.length_append, List.length_cons, List.length_nil] at hz ⊢; omega) (V := fun R => ∃ g', R = some (str (w ++ t64 (x :: y :: z :: q)), g')) fun c3 v3 g3 t3 J3 X3 => ?_
        refine letters_end (k := 3) J3 hw X3 (by simp) (V := fun R => ∃ g', R = some (str (w ++ t64 (x :: y :: z :: q)), g')) fun a9 cp9 t9 w9 x0 x1 x5 => ?_
        rw [hwl] at J3
        have := ih q a9 (m - 3) cp9 _ _ _ _ t9 (by simp at hf ⊢; omega) J3 (fun h => by simp at h) (by simpa using w9) (by simp at hz ⊢; omega) x0 x1 x5
        rw [List.append_assoc] at this
        exact this
      unfold kX at hmain
      unfold x36
      simp [z32, t0, ik, n0, n1, n2, hmin, ixS_iv (show 0 < m by omega), ixS_iv (show 1 < m by omega), ixS_iv (show 2 < m by omega), r0, r1, r2, cvt_bw, sx, ox, sy, oy, oz, mm_iv, iv_add (a := 3) (b := 1) (by omega), -BitVec.zero_or, -w_or]
      exact hmain _ ⟨by simp [tg_ts, t0], by simp [tg_ts, t1], by simp [tg_ts, t5], by simp [tg_ts], by simp [tg_ts], by simp [tg_ts]⟩
end Go.Ab.Aud

namespace Go.Ab.Aud
set_option maxRecDepth 20000
open Go.Wire (b64 t64 Txt textPad t64_pad pad)
variable {C : Ctx} (T : Tab_LStr C) (TW : Tab_LWir C)
include T TW in
theorem text_spec (le : C.lies 70 2 0 70 = true) {h : AHeap} {m cp : Nat} {a : Option Addr} {r : List UInt8} (hw : SlR C.old h 1 (.slice a m cp) (bytesVals r)) (hz : r.length < 2 ^ 34) :
    D C 36 [.slice a m cp, str plain] h = some (str (t64 r), h) := by
  rw [D_fn2 TW.h36, b36_eq]
  have hw0 := hw.lo (x := h.bs.length)
  generalize hH : ({ h with lo := h.bs.length } : AHeap) = H at *
  have hwf : H.lo ≤ H.bs.length := by rw [← hH]; exact Nat.le_refl _
  have hzs : Value.string ⟨⟨[]⟩⟩ = str [] := rfl
  have hB0 : Bld C (H.push (.cells [.pointer none, .slice none 0 0] 71)) 70 H.bs.length 0 [.pointer none, .slice none 0 0] (.slice none 0 0) [] := ⟨push_self, .inl rfl, rfl, .nil, by simpa using hwf, le⟩
  have f0 : Fr H (H.push (.cells [.pointer none, .slice none 0 0] 71)) (fun _ => False) := Fr.push
  have J0 : JI C H H.bs.length [.pointer none, .slice none 0 0] (.slice none 0 0) [] (H.push (.cells [.pointer none, .slice none 0 0] 71)) := ⟨f0, hB0, Nat.le_refl _, fun j hj => by cases hj⟩
  have key : ∀ t, tg t 0 = .slice a m cp → tg t 1 = str plain → tg t 5 = bp H.bs.length 0 → pur (R C r36 [.code x36, .inScope s36] t [] (H.push (.cells [.pointer none, .slice none 0 0] 71))) h = some (str (t64 r), h) := fun t t0 t1 t5 => by
    obtain ⟨g', e⟩ := text_loop T (r.length + 1) r a m cp _ _ [] _ t (by omega) J0 (fun _ => rfl) hw0 (by simp; omega) t0 t1 t5
    rw [e, pur_ok (by simp)]; simp
  have es : ∀ (t : List Value) (g : AHeap) (k : List AItem), R C r36 (.code s36 :: k) t [] g = R C r36 (.code (.ops [oo 5 (.box 70 (.cst (.agg ⟨[(.pointer none), (.slice none 0 0)]⟩)))]) :: .code (.seq (.label 0) x36) :: k) t [] g := fun t g k => by
    rw [s36, R_seq]
  simp [hzs, es]
  exact key _ (by simp [tg_ts]) (by simp [tg_ts]) (by simp [tg_ts, bp])
def mul32 (a b : Nat) : Nat := a * b
include T in
theorem mul64_12 (h : AHeap) : D C 68 [uv 1, uv 2] h = some (.tuple #[uv 0, uv 2], h) := by
  rw [D_fn3 T.h68 _ (by simp)]
  have q1 : abin .and (uv 1) (uv 4294967295) = some (uv 1) := rfl
  have q2 : abin .shr (uv 1) (uv 32) = some (uv 0) := rfl
  have q3 : abin .and (uv 2) (uv 4294967295) = some (uv 2) := rfl
  have q4 : abin .shr (uv 2) (uv 32) = some (uv 0) := rfl
  have q5 : abin .mul (uv 1) (uv 2) = some (uv 2) := rfl
  have q6 : abin .mul (uv 0) (uv 2) = some (uv 0) := rfl
  have q7 : abin .add (uv 0) (uv 0) = some (uv 0) := rfl
  have q8 : abin .and (uv 0) (uv 4294967295) = some (uv 0) := rfl
  have q9 : abin .shr (uv 0) (uv 32) = some (uv 0) := rfl
  have q10 : abin .mul (uv 1) (uv 0) = some (uv 0) := rfl
  have q11 : abin .mul (uv 0) (uv 0) = some (uv 0) := rfl
  have hf : flat (.tuple #[uv 0, uv 2]) = true := rfl
  simp [b68, q1, q2, q3, q4, q5, q6, q7, q8, q9, q10, q11, r68, hf]
include T in
theorem mul_12 (h : AHeap) : D C 52 [uv 1, uv 2] h = some (.tuple #[uv 0, uv 2], h) := by
  rw [D_fn3 T.h52 _ (by simp)]
  have hf : flat (.tuple #[uv 0, uv 2]) = true := rfl
  simp [b52, Dc_ok, mul64_12 T, r52, hf]
include T in
theorem prefix_spec (h : AHeap) (s p : Txt) : D C 53 [str s, str p] h = some (.bool (decide (p.length ≤ s.length) && decide (s.take p.length = p)), h) := by
  have e69 : ∀ h, D C 69 [str s, str p] h = some (.bool (decide (p.length ≤ s.length) && decide (s.take p.length = p)), h) := fun h => by
    rw [D_fn3 T.h69 _ (by simp)]
    by_cases hl : p.length ≤ s.length
    · have hs : ∀ h, slcSv (str s) (some none) (some (some (p.length : Int))) h = some (str (s.take p.length), h) := fun h => by
        have := slcSv_str (s := s) (h := h) (lo := none) (hi := some (p.length : Int)) (l := 0) (u := p.length) rfl rfl (by omega) hl
        rw [this]; simp
      simp [b69, hl, hs, str_eql, r69]
    · simp [b69, hl, r69]
  rw [D_fn3 T.h53 _ (by simp)]
  simp [b53, Dc_ok, e69, r53]
theorem lit_str {l : List UInt8} : Value.string ⟨⟨l⟩⟩ = str l := rfl
def eq128 : Txt := List.replicate 128 61
include T in
theorem repeat_spec (h : AHeap) {n : Nat} (hn : n ≤ 2) : D C 37 [str [61], iv n] h = some (str (List.replicate n 61), h) := by
  rw [D_fn3 T.h37 _ (by simp)]
  have hzs : Value.string ⟨⟨[]⟩⟩ = str [] := rfl
  have h3 : n = 0 ∨ n = 1 ∨ n = 2 := by omega
  rcases h3 with rfl | rfl | rfl
  · simp [b37, hzs, r37]
  · simp [b37, hzs, r37]
  · have i0 : ∀ h, idxSv (str [61]) (iv 0) h = some (bv 61, h) := fun h => idxSv_str (s := [61]) (i := 0) (by simp)
    have c1 : cvt .u64 (iv 1) = some (uv 1) := cvt_iu (by omega)
    have c2 : cvt .u64 (iv 2) = some (uv 2) := cvt_iu (by omega)
    have c3 : cvt .i64 (uv 2) = some (iv 2) := cvt_ui (by omega)
    have u32 : Value.int .u8 32 = bv 32 := rfl
    have u45 : Value.int .u8 45 = bv 45 := rfl
    have u48 : Value.int .u8 48 = bv 48 := rfl
    have u61 : Value.int .u8 61 = bv 61 := rfl
    have hz : abin .gtr (uv 0) (uv 0) = some (.bool false) := rfl
    have hz2 : abin .gtr (uv 2) (uv 9223372036854775807) = some (.bool false) := rfl
    have heq : str [61, 61, 61, 61, 61, 61, 61, 61, 61, 61, 61, 61, 61, 61, 61, 61, 61, 61, 61, 61, 61, 61, 61, 61, 61, 61, 61, 61, 61, 61, 61, 61, 61, 61, 61, 61, 61, 61, 61, 61, 61, 61, 61, 61, 61, 61, 61, 61, 61, 61, 61, 61, 61, 61, 61, 61, 61, 61, 61, 61, 61, 61, 61, 61, 61, 61, 61, 61, 61, 61, 61, 61, 61, 61, 61, 61, 61, 61, 61, 61, 61, 61, 61, 61, 61, 61, 61, 61, 61, 61, 61, 61, 61, 61, 61, 61, 61, 61, 61, 61, 61, 61, 61, 61, 61, 61, 61, 61, 61, 61, 61, 61, 61, 61, 61, 61, 61, 61, 61, 61, 61, 61, 61, 61, 61, 61, 61, 61] = str eq128 := rfl
    have hpe : ∀ h, D C 53 [str eq128, str [61]] h = some (.bool true, h) := fun h => by rw [prefix_spec T]; rfl
    have hs : ∀ h, slcSv (str eq128) (some none) (some (some 2)) h = some (str [61, 61], h) := fun h => by
      have := slcSv_str (s := eq128) (h := h) (lo := none) (hi := some ((2 : Nat) : Int)) (l := 0) (u := 2) rfl rfl (by omega) (by decide)
      exact this
    simp [b37, hzs, c1, c2, Dc_ok, mul_12 T, hz, hz2, c3, i0, u32, u45, u48, u61, bv_eql, lit_str, heq, hpe, prefix_spec T, hs, r37]
include T TW in
theorem textPad_spec (le : C.lies 70 2 0 70 = true) {h : AHeap} {m cp : Nat} {a : Option Addr} {r : List UInt8} (hw : SlR C.old h 1 (.slice a m cp) (bytesVals r)) (hz : r.length < 2 ^ 34) :
    D C 23 [.slice a m cp] h = some (str (textPad r), h) := by
  rw [D_fn2 TW.h23]
  have hw0 := hw.lo (x := h.bs.length)
  generalize hH : ({ h with lo := h.bs.length } : AHeap) = H at *
  have hzs : Value.string ⟨⟨[]⟩⟩ = str [] := rfl
  have h61 : Value.string ⟨⟨[61]⟩⟩ = str [61] := rfl
  have hpl : Value.string ⟨⟨[65, 66, 67, 68, 69, 70, 71, 72, 73, 74, 75, 76, 77, 78, 79, 80, 81, 82, 83, 84, 85, 86, 87, 88, 89, 90, 97, 98, 99, 100, 101, 102, 103, 104, 105, 106, 107, 108, 109, 110, 111, 112, 113, 114, 115, 116, 117, 118, 119, 120, 121, 122, 48, 49, 50, 51, 52, 53, 54, 55, 56, 57, 43, 47]⟩⟩ = str plain := rfl
  have et := text_spec T TW le hw0 hz
  have tl : (t64 r).length ≤ 4 * r.length + 4 := by
    have : ∀ (n : Nat) (r : List UInt8), r.length ≤ n → (t64 r).length ≤ 4 * r.length + 4 := fun n => by
      induction n with
      | zero => intro r h; have : r = [] := List.eq_nil_of_length_eq_zero (by omega); subst this; simp [t64]
      | succ n ih =>
        intro r h
        match r, h with
        | [], _ => simp [t64]
        | [_], _ => simp [t64]
        | [_, _], _ => simp [t64]
        | _ :: _ :: _ :: q, h =>
          have := ih q (by simp at h; omega)
          simp [t64]; omega
    exact this r.length r (Nat.le_refl _)
  have h1 := (t64_pad r.length r (Nat.le_refl _)).2
  unfold textPad
  generalize t64 r = x at *
  generalize hk : (4 - x.length % 4) % 4 = k at *
  have er := repeat_spec T H (n := k) (by omega)
  have ad : abin .add (str x) (str (List.replicate k 61)) = some (str (x ++ List.replicate k pad)) := str_add (by rw [List.length_replicate]; omega)
  simp [b23, hzs, Dc_ok, hpl, et, iv_rem (a := x.length) (b := 4) (by omega) (by omega), iv_sub (a := 4) (b := x.length % 4) (by omega) (by omega), iv_rem (a := 4 - x.length % 4) (b := 4) (by omega) (by omega), hk, h61, er, ad, r23]
end Go.Ab.Aud

namespace Go.Ab.Aud
set_option maxRecDepth 20000
open Go.Wire (b64 v64 t64 Txt rd64 trim1 pad bytesPad)
variable {C : Ctx} (T : Tab_LStr C) (TW : Tab_LWir C)
def cv (n : Nat) : Value := .int .u32 n
@[simp] theorem und_cv {n : Nat} : isUnd (cv n) = false := nr rfl
@[simp] theorem okc_cv {n : Nat} : okCell (cv n) = true := nr rfl
@[simp] theorem cell_cv {n : Nat} : cellsOf (cv n) = [cv n] := nr rfl
@[simp] theorem flat_cv {n : Nat} : flat (cv n) = true := nr rfl
@[simp] theorem stp_cv {C : Ctx} {rs : List ARes} {h : AHeap} {n d : Nat} {os : List AOper} {k : List AItem} {t : List Value} {ds : List ADefer} : stp C rs (some (cv n, h)) (some d) os k t ds = R C rs (.ops os :: k) (ts t d (cv n)) ds h := stp_ok rfl
theorem cv_shl {n b : Nat} (hb : b < 32) (h : n * 2 ^ b < 2 ^ 32) : ashift .shl .u32 (n : Int) (b : Int) = some (cv (n * 2 ^ b)) := by
  have h1 : min b 32 = b := by omega
  simp only [ashift, IntKind.bits, Int.toNat_natCast, h1]
  rw [if_neg (by omega)]
  have : ((n : Int) * 2 ^ b) = ((n * 2 ^ b : Nat) : Int) := by push_cast; rfl
  rw [this, wrap32]
  unfold cv
  congr 2; omega
theorem cv_shr {n b : Nat} (hb : b < 32) : ashift .shr .u32 (n : Int) (b : Int) = some (cv (n / 2 ^ b)) := by
  have h1 : min b 32 = b := by omega
  simp only [ashift, IntKind.bits, Int.toNat_natCast, h1]
  rw [if_neg (by omega)]
  have : ((2 : Int) ^ b) = ((2 ^ b : Nat) : Int) := by push_cast; rfl
  rw [this, Int.fdiv_eq_ediv_of_nonneg _ (Int.natCast_nonneg _)]
  rfl
theorem cv_or {a k : Nat} (ha : a * 64 + k < 2 ^ 32) (hk : k < 64) : abin .or (cv (a * 64)) (cv k) = some (cv (a * 64 + k)) := by
  show some (Value.int .u32 (IntKind.u32.wrap ((BitVec.ofInt 32 ((a * 64 : Nat) : Int) ||| BitVec.ofInt 32 (k : Int)).toNat : Int))) = _
  rw [ofInt_nat, ofInt_nat, BitVec.toNat_or, BitVec.toNat_ofNat, BitVec.toNat_ofNat, Nat.mod_eq_of_lt (by omega), Nat.mod_eq_of_lt (by omega), wrap32]
  have := Nat.two_pow_add_eq_or_of_lt (i := 6) hk a
  rw [show 2 ^ 6 * a = a * 64 by omega] at this
  rw [← this]
  unfold cv; congr 2; omega
theorem cv_and {n b : Nat} (hn : n < 2 ^ 32) (hb : b < 32) : abin .and (cv n) (cv (2 ^ b - 1)) = some (cv (n % 2 ^ b)) := by
  have hp : 2 ^ b < 2 ^ 32 := Nat.pow_lt_pow_right (by omega) hb
  have hlt : n % 2 ^ b < 2 ^ 32 := Nat.lt_of_le_of_lt (Nat.mod_le _ _) hn
  show some (Value.int .u32 (IntKind.u32.wrap ((BitVec.ofInt 32 (n : Int) &&& BitVec.ofInt 32 ((2 ^ b - 1 : Nat) : Int)).toNat : Int))) = _
  rw [ofInt_nat, ofInt_nat, BitVec.toNat_and, BitVec.toNat_ofNat, BitVec.toNat_ofNat, Nat.mod_eq_of_lt (show n < 2 ^ 32 from hn), Nat.mod_eq_of_lt (by omega), Nat.and_two_pow_sub_one_eq_mod, wrap32]
  unfold cv; congr 2; omega
theorem cv_sub1 {n : Nat} (h : 1 ≤ n) (h2 : n < 2 ^ 32) : abin .sub (cv n) (cv 1) = some (cv (n - 1)) := by
  unfold cv
  simp only [abin, abinI, if_true]
  rw [show ((n : Int) - ((1 : Nat) : Int)) = ((n - 1 : Nat) : Int) by omega, wrap32]
  congr 2; omega
theorem cv_neq0 {n : Nat} : abin .neq (cv n) (cv 0) = some (.bool (!decide (n = 0))) := by
  unfold cv; rw [k_neq]; congr 2; simp
theorem cvt_cb {n : Nat} : cvt .u8 (cv n) = some (bv (UInt8.ofNat n)) := by
  show some (Value.int .u8 (IntKind.u8.wrap (n : Int))) = _
  rw [wrap8u]; unfold bv; congr 2; try simp
theorem cvt_ic {n : Nat} (h : n < 2 ^ 32) : cvt .u32 (iv n) = some (cv n) := by
  show some (Value.int .u32 (IntKind.u32.wrap (n : Int))) = _
  rw [wrap32]; unfold cv; congr 2; omega
theorem plain_v64 (c : UInt8) : (v64 c < 64 → fidx plain c = (v64 c : Int)) ∧ (¬ v64 c < 64 → fidx plain c = -1) := by
  revert c; exact Go.Wire.byte_all (by decide +kernel)
theorem trim_take (s : Txt) (h : s.getLast? = some pad) : s.dropLast = s.take (s.length - 1) ∧ 1 ≤ s.length ∧ s.drop (s.length - 1) = [61] := by
  obtain ⟨x, rfl⟩ : ∃ x, s = x ++ [pad] := by
    have hne : s ≠ [] := by rintro rfl; cases h
    refine ⟨s.dropLast, ?_⟩
    rw [List.getLast?_eq_some_getLast hne] at h
    have := List.dropLast_concat_getLast hne
    injection h with h
    rw [← h]; exact this.symm
  refine ⟨by simp, by simp, by simp; rfl⟩
theorem trim_not (s : Txt) (h1 : 1 ≤ s.length) (h : s.getLast? ≠ some pad) : s.drop (s.length - 1) ≠ [61] := by
  intro hc
  apply h
  have : s = s.take (s.length - 1) ++ [61] := by rw [← hc, List.take_append_drop]
  rw [this]; simp; rfl
include T in
theorem trim_spec (h : AHeap) (s : Txt) (hz : s.length < 2 ^ 40) : D C 39 [str s, str [61]] h = some (str (trim1 s), h) := by
  have hs : 1 ≤ s.length → ∀ h, slcSv (str s) (some (some ((s.length - 1 : Nat) : Int))) (some none) h = some (str (s.drop (s.length - 1)), h) := fun h1 h => slc_from (by omega)
  have ht : 1 ≤ s.length → ∀ h, slcSv (str s) (some none) (some (some ((s.length - 1 : Nat) : Int))) h = some (str (s.take (s.length - 1)), h) := fun h1 h => by
    have := slcSv_str (s := s) (h := h) (lo := none) (hi := some ((s.length - 1 : Nat) : Int)) (l := 0) (u := s.length - 1) rfl rfl (by omega) (by omega)
    rw [this]; simp
  have e74 : ∀ h, D C 74 [str s, str [61]] h = some (.bool (decide (s.getLast? = some pad)), h) := fun h => by
    rw [D_fn3 T.h74 _ (by simp)]
    by_cases h1 : 1 ≤ s.length
    · have hs := hs h1
      by_cases hl : s.getLast? = some pad
      · have h3 := (trim_take s hl).2.2
        simp [b74, h1, iv_sub h1 (show s.length < 9223372036854775808 by omega), hs, str_eql, h3, hl, r74]
      · have h3 := trim_not s h1 hl
        simp [b74, h1, iv_sub h1 (show s.length < 9223372036854775808 by omega), hs, str_eql, h3, hl, r74]
    · have : s = [] := List.eq_nil_of_length_eq_zero (by omega)
      subst this
      simp [b74, r74]
  have e56 : ∀ h, D C 56 [str s, str [61]] h = some (str (trim1 s), h) := fun h => by
    rw [D_fn3 T.h56 _ (by simp)]
    unfold trim1
    by_cases hl : s.getLast? = some pad
    · obtain ⟨h3, h1, _⟩ := trim_take s hl
      have ht := ht h1
      rw [if_pos hl, h3]
      simp [b56, Dc_ok, e74, hl, iv_sub h1 (show s.length < 9223372036854775808 by omega), ht, r56]
    · rw [if_neg hl]
      simp [b56, Dc_ok, e74, hl, r56]
  rw [D_fn3 T.h39 _ (by simp)]
  simp [b39, Dc_ok, e56, r39]
end Go.Ab.Aud

namespace Go.Ab.Aud
set_option maxRecDepth 20000
open Go.Wire (b64 v64 t64 Txt rd64 trim1 pad bytesPad)
variable {C : Ctx} (T : Tab_LStr C) (TW : Tab_LWir C)
/-- the bytes that were read stand in a row of known room -/
def Out (h g : AHeap) (cap : Nat) (out : Txt) (v : Value) : Prop :=
  if cap = 0 then v = emptySl ∧ out = [] else v = .slice (some ⟨h.bs.length, 0, some 0⟩) out.length cap ∧ out.length ≤ cap ∧ g.at h.bs.length = some (.cells (bytesVals out ++ List.replicate (cap - out.length) (.int .u8 0)) 6)
structure RI (h : AHeap) (s : Txt) (rt : Bool) (i n bits : Nat) (out : Txt) (g : AHeap) (t : List Value) : Prop where
  fr : Fr h g (fun _ => False)
  lo : h.lo ≤ h.bs.length
  len : h.bs.length + (if s.length * 3 / 4 = 0 then 0 else 1) ≤ g.bs.length
  out' : ∃ v, tg t 8 = v ∧ Out h g (s.length * 3 / 4) out v
  nb : n < 2 ^ bits
  b8 : bits < 8
  cnt : 8 * out.length + bits = 6 * i
  hi : i ≤ s.length
  t0 : tg t 0 = str s
  t1 : tg t 1 = str plain
  t2 : tg t 2 = .bool rt
  t9 : tg t 9 = cv n
  t10 : tg t 10 = iv bits
  t19 : tg t 19 = iv s.length
  t20 : tg t 20 = iv i
/-- what read tells -/
def RRes (C : Ctx) (h : AHeap) (x : Option (Txt × Nat)) (rt : Bool) (R : Res) : Prop := ∃ g', Fr h g' (fun _ => False) ∧ match x with
  | some (b, n) => if rt = true ∧ n = 0 then ∃ v, R = some (.tuple #[v, iv 0], g') ∧ SlR C.old g' 1 v (bytesVals b) ∧ (∃ a m cp, v = .slice a m cp) else ∃ e, e ≠ 0 ∧ R = some (.tuple #[.slice none 0 0, iv e], g')
  | none => ∃ e, e ≠ 0 ∧ R = some (.tuple #[.slice none 0 0, iv e], g')
def kR : List AItem := [.inLoop lp40_0, .inBlock 0, .code k40_0]
theorem Out.sl {h g : AHeap} {cap : Nat} {out : Txt} {v : Value} {old : Old} (o : Out h g cap out v) : SlR old g 1 v (bytesVals out) ∧ ∃ a m cp, v = .slice a m cp := by
  unfold Out at o
  split at o
  · obtain ⟨rfl, rfl⟩ := o
    exact ⟨⟨rfl, by simp [isRest]⟩, _, _, _, rfl⟩
  · obtain ⟨rfl, hl, ha⟩ := o
    refine ⟨⟨by simp, ?_⟩, _, _, _, rfl⟩
    have : isRest ⟨h.bs.length, 0, some 0⟩ cap = false := rfl
    rw [if_neg (by simp [this])]
    refine ⟨hl, fun _ => ?_⟩
    rw [readN_rd, ha, rdN_cells (by simp)]
    simp
theorem read_end {h : AHeap} {s : Txt} {rt : Bool} {n bits : Nat} {out : Txt} {g : AHeap} {t : List Value} (H : RI h s rt s.length n bits out g t) : RRes C h (some (out, n)) rt (R C r40 kR t [] g) := by
  obtain ⟨v, hv, ho⟩ := H.out'
  obtain ⟨hs, a, m, cp, rfl⟩ := ho.sl (old := C.old)
  refine ⟨g, H.fr, ?_⟩
  unfold kR
  rw [R_open lp40_0.eq_1]
  have z0 : Value.int .u32 0 = cv 0 := rfl
  dsimp only
  cases rt with
  | false =>
    rw [if_neg (by simp)]
    refine ⟨11, by omega, ?_⟩
    simp [H.t20, H.t19, k40_0, H.t2, r40]
  | true =>
    by_cases hn : n = 0
    · rw [if_pos ⟨rfl, hn⟩]
      refine ⟨_, ?_, hs, _, _, _, rfl⟩
      simp [H.t20, H.t19, k40_0, H.t2, H.t9, z0, cv_neq0, hn, hv, r40]
    · rw [if_neg (by simp [hn])]
      refine ⟨12, by omega, ?_⟩
      simp [H.t20, H.t19, k40_0, H.t2, H.t9, z0, cv_neq0, hn, r40]
theorem splice_at {A R : List Value} {u x : Value} : splice (A ++ u :: R) A.length [x] = A ++ [x] ++ R := by
  unfold splice
  rw [List.take_left, ← List.drop_drop, List.drop_left]; rfl
theorem out_splice {out : Txt} {cap : Nat} {x : UInt8} (h : out.length < cap) : splice (bytesVals out ++ List.replicate (cap - out.length) (.int .u8 0)) out.length [bv x] = bytesVals (out ++ [x]) ++ List.replicate (cap - (out ++ [x]).length) (.int .u8 0) := by
  obtain ⟨k, hk⟩ : ∃ k, cap - out.length = k + 1 := ⟨cap - out.length - 1, by omega⟩
  have h2 : cap - (out ++ [x]).length = k := by simp; omega
  rw [hk, h2, List.replicate_succ, bytesVals_append]
  have hl : out.length = (bytesVals out).length := bytes_len.symm
  rw [hl, splice_at]; rfl
include T in
theorem read_step {h : AHeap} {s : Txt} {rt : Bool} {i n bits : Nat} {out : Txt} {g : AHeap} {t : List Value} (H : RI h s rt i n bits out g t) (hi : i < s.length) (hz : s.length < 2 ^ 34) {r : Txt}
    (go : ∀ n' bits' out' g' t', RI h s rt (i + 1) n' bits' out' g' t' → RRes C h (rd64 r n' bits' out') rt (R C r40 kR t' [] g')) :
    RRes C h (rd64 (s.getD i 0 :: r) n bits out) rt (R C r40 kR t [] g) := by
  obtain ⟨v, hv, ho⟩ := H.out'
  have nb := H.nb
  have b8 := H.b8
  have cnt := H.cnt
  have hix : ∀ h, idxSv (str s) (iv i) h = some (bv (s.getD i 0), h) := fun h => idxSv_str hi
  obtain ⟨pv1, pv2⟩ := plain_v64 (s.getD i 0)
  have e57 := fun h => ix_spec T h plain (s.getD i 0)
  generalize s.getD i 0 = c at *
  simp only [rd64]
  by_cases hc : v64 c < 64
  · rw [if_pos hc]
    rw [pv1 hc] at e57
    have ik : Value.int .i64 (v64 c : Int) = iv (v64 c) := rfl
    rw [ik] at e57
    generalize v64 c = k at *
    have p7 : 2 ^ bits ≤ 2 ^ 7 := Nat.pow_le_pow_right (by omega) (by omega)
    have n64 : n * 64 + k < 2 ^ 32 := by omega
    have sh : abin .shl (cv n) (uv 6) = some (cv (n * 64)) := cv_shl (b := 6) (by omega) (by omega)
    have orr := cv_or n64 hc
    by_cases h8 : 8 ≤ bits + 6
    · rw [if_pos h8]
      have hcap : out.length + 1 ≤ s.length * 3 / 4 := by omega
      have hcap0 : ¬ s.length * 3 / 4 = 0 := by omega
      unfold Out at ho
      rw [if_neg hcap0] at ho
      obtain ⟨rfl, hol, hat⟩ := ho
      have hlen := H.len
      rw [if_neg hcap0] at hlen
      have bs2 : bits + 6 - 8 = bits - 2 := by omega
      have shr : abin .shr (cv (n * 64 + k)) (iv (bits - 2)) = some (cv ((n * 64 + k) / 2 ^ (bits - 2))) := cv_shr (by omega)
      have sh1 : abin .shl (cv 1) (iv (bits - 2)) = some (cv (2 ^ (bits - 2))) := by
        have := cv_shl (n := 1) (b := bits - 2) (by omega) (by rw [Nat.one_mul]; exact Nat.pow_lt_pow_right (by omega) (by omega))
        rw [Nat.one_mul] at this; exact this
      have sb := cv_sub1 (n := 2 ^ (bits - 2)) (Nat.two_pow_pos _) (Nat.pow_lt_pow_right (by omega) (by omega))
      have an := cv_and (n := n * 64 + k) (b := bits - 2) n64 (by omega)
      have z1 : Value.int .u32 1 = cv 1 := rfl
      have hn2 : (n * 64 + k) % 2 ^ (bits - 2) < 2 ^ (bits - 2) := Nat.mod_lt _ (Nat.two_pow_pos _)
      generalize hx : UInt8.ofNat ((n * 64 + k) / 2 ^ (bits - 2)) = x at *
      have cx : cvt .u8 (cv ((n * 64 + k) / 2 ^ (bits - 2))) = some (bv x) := by rw [cvt_cb, hx]
      generalize (n * 64 + k) / 2 ^ (bits - 2) = q at *
      generalize (n * 64 + k) % 2 ^ (bits - 2) = n2 at *
      generalize 2 ^ (bits - 2) - 1 = mq at *
      generalize hg1 : g.push (.cells [bv x] 6) = g1
      have f1 : Fr g g1 (fun _ => False) := by rw [← hg1]; exact Fr.push
      have a1 := f1.get hat (fun h => h)
      have src : srcCells C.old g1 1 1 (.slice (some ⟨g.bs.length, 0, some 0⟩) 1 1) = some [bv x] := by rw [← hg1]; exact sl_one
      have lo1 : g1.lo ≤ h.bs.length := by rw [f1.lo, H.fr.lo]; exact H.lo
      have hw := wrN_cells (h := g1) (b := h.bs.length) (o := out.length) (fz := 5) (c := bytesVals out ++ List.replicate (s.length * 3 / 4 - out.length) (.int .u8 0)) (v := [bv x]) (by simp; omega) (by simp)
      rw [out_splice (by omega)] at hw
      have ap : appendV C.old g1 5 1 1 (.slice (some ⟨h.bs.length, 0, some 0⟩) out.length (s.length * 3 / 4)) (.slice (some ⟨g.bs.length, 0, some 0⟩) 1 1) = some (.slice (some ⟨h.bs.length, 0, some 0⟩) (out.length + 1) (s.length * 3 / 4), g1.put h.bs.length (.cells (bytesVals (out ++ [x]) ++ List.replicate (s.length * 3 / 4 - (out ++ [x]).length) (.int .u8 0)) 6)) := by
        unfold appendV
        simp only [srcLen]
        rw [if_neg (by omega), src]
        simp only
        have : isRest ⟨h.bs.length, 0, some 0⟩ (s.length * 3 / 4) = false := rfl
        rw [this, if_neg (by simp), if_pos hcap]
        simp only [adda, Nat.zero_add, Nat.mul_one]
        rw [writeN_wr lo1, a1, hw]; rfl
      have f2 : Fr h (g1.put h.bs.length (.cells (bytesVals (out ++ [x]) ++ List.replicate (s.length * 3 / 4 - (out ++ [x]).length) (.int .u8 0)) 6)) (fun _ => False) := (H.fr.trans f1 (fun _ h => h) (fun _ h _ => h)).put' (.inr (Nat.le_refl _))
      have a2 : (g1.put h.bs.length (.cells (bytesVals (out ++ [x]) ++ List.replicate (s.length * 3 / 4 - (out ++ [x]).length) (.int .u8 0)) 6)).at h.bs.length = some (.cells (bytesVals (out ++ [x]) ++ List.replicate (s.length * 3 / 4 - (out ++ [x]).length) (.int .u8 0)) 6) := put_self (get_lt a1)
      have l2 : h.bs.length + 1 ≤ (g1.put h.bs.length (.cells (bytesVals (out ++ [x]) ++ List.replicate (s.length * 3 / 4 - (out ++ [x]).length) (.int .u8 0)) 6)).bs.length := by
        have := f1.len; simp; omega
      generalize g1.put h.bs.length (.cells (bytesVals (out ++ [x]) ++ List.replicate (s.length * 3 / 4 - (out ++ [x]).length) (.int .u8 0)) 6) = g2 at *
      have hfin := fun t' X => go n2 (bits - 2) (out ++ [x]) g2 t' X
      unfold kR at hfin ⊢
      rw [R_open lp40_0.eq_1]
      simp [H.t20, H.t19, hi, H.t1, H.t0, hix, Dc_ok, e57, H.t9, sh, cvt_ic (show k < 2 ^ 32 by omega), orr, H.t10, iv_add (a := bits) (b := 6) (by omega), show 8 ≤ bits + 6 from h8, iv_sub (a := bits + 6) (b := 8) (by omega) (by omega), bs2, hv, shr, cx, fillCells, spl1, hg1, ap, z1, sh1, sb, an, iv_add (a := i) (b := 1) (by omega)]
      refine hfin _ ⟨f2, H.lo, by rw [if_neg hcap0]; exact l2, ⟨.slice (some ⟨h.bs.length, 0, some 0⟩) (out.length + 1) (s.length * 3 / 4), by simp [tg_ts], ?_⟩, hn2, by omega, by simp; omega, by omega, by simp [tg_ts, H.t0], by simp [tg_ts, H.t1], by simp [tg_ts, H.t2], by simp [tg_ts], by simp [tg_ts], by simp [tg_ts, H.t19], by simp [tg_ts]⟩
      unfold Out
      rw [if_neg hcap0]
      exact ⟨by simp, by simp; omega, a2⟩
    · rw [if_neg h8]
      have hp : 2 ^ (bits + 6) = 2 ^ bits * 64 := by rw [Nat.pow_add]
      have hfin := fun t' X => go (n * 64 + k) (bits + 6) out g t' X
      unfold kR at hfin ⊢
      rw [R_open lp40_0.eq_1]
      simp [H.t20, H.t19, hi, H.t1, H.t0, hix, Dc_ok, e57, H.t9, sh, cvt_ic (show k < 2 ^ 32 by omega), orr, H.t10, iv_add (a := bits) (b := 6) (by omega), h8, iv_add (a := i) (b := 1) (by omega)]
      exact hfin _ ⟨H.fr, H.lo, H.len, ⟨v, by simp [tg_ts, hv], ho⟩, by omega, by omega, by omega, by omega, by simp [tg_ts, H.t0], by simp [tg_ts, H.t1], by simp [tg_ts, H.t2], by simp [tg_ts], by simp [tg_ts], by simp [tg_ts, H.t19], by simp [tg_ts]⟩
  · rw [if_neg hc]
    rw [pv2 hc] at e57
    refine ⟨g, H.fr, 10, by omega, ?_⟩
    unfold kR
    rw [R_open lp40_0.eq_1]
    simp [H.t20, H.t19, hi, H.t1, H.t0, hix, Dc_ok, e57, lss_m1, r40]
include T TW in
theorem read_spec {h : AHeap} {s : Txt} {rt : Bool} (hlo : h.lo ≤ h.bs.length) (hz : s.length < 2 ^ 34) : RRes C h (rd64 s 0 0 []) rt (D C 40 [str s, str plain, .bool rt] h) := by
  have loop : ∀ (r : Txt) (i n bits : Nat) (out : Txt) (g : AHeap) (t : List Value), r = s.drop i → RI h s rt i n bits out g t → RRes C h (rd64 r n bits out) rt (R C r40 kR t [] g) := by
    intro r
    induction r with
    | nil =>
      intro i n bits out g t hp H
      have : i = s.length := by
        have := congrArg List.length hp
        rw [List.length_drop] at this; simp at this
        have := H.hi; omega
      subst this
      exact read_end H
    | cons c r ih =>
      intro i n bits out g t hp H
      have hl : i < s.length := by
        have := congrArg List.length hp
        rw [List.length_drop] at this; simp at this; omega
      rw [drop_cons hl] at hp
      injection hp with h1 h2
      rw [h1]
      exact read_step T H hl hz fun n' bits' out' g' t' H' => ih _ _ _ _ _ _ h2 H'
  rw [D_fn TW.h40]
  have z0 : Value.int .u32 0 = cv 0 := rfl
  have i1 : Value.int .i64 (s.length : Int) = iv s.length := rfl
  have zf : zeroFill [.int .u8 0] (s.length * 3 / 4) = List.replicate (s.length * 3 / 4) (.int .u8 0) := by
    unfold zeroFill
    generalize s.length * 3 / 4 = n
    induction n with
    | zero => rfl
    | succ n ih => rw [List.replicate_succ, List.flatten_cons, ih, List.replicate_succ]; rfl
  have g1 : ((s.length * 3 / 4 : Nat) : Int) ≤ sizeLim := by simp [sizeLim]; omega
  by_cases hc : s.length * 3 / 4 = 0
  · have key : ∀ t, tg t 0 = str s → tg t 1 = str plain → tg t 2 = .bool rt → tg t 8 = emptySl → tg t 9 = cv 0 → tg t 10 = iv 0 → tg t 19 = iv s.length → tg t 20 = iv 0 → RRes C h (rd64 s 0 0 []) rt (R C r40 kR t [] h) := fun t x0 x1 x2 x8 x9 x10 x19 x20 =>
      loop s 0 0 0 [] h t (by rw [List.drop_zero]) ⟨.refl _ _, hlo, by rw [if_pos hc]; omega, ⟨_, x8, by unfold Out; rw [if_pos hc]; exact ⟨rfl, rfl⟩⟩, by simp, by omega, by simp, by omega, x0, x1, x2, x9, x10, x19, x20⟩
    unfold kR at key
    have he : isUnd emptySl = false := rfl
    have hst : ∀ (rs : List ARes) (h : AHeap) (d : Nat) (os : List AOper) (k : List AItem) (t : List Value) (ds : List ADefer), stp C rs (some (emptySl, h)) (some d) os k t ds = R C rs (.ops os :: k) (ts t d emptySl) ds h := fun _ _ _ _ _ _ _ => stp_ok rfl
    simp [b40, z0, i1, iv_mul (a := s.length) (b := 3) (by omega), iv_quo (a := s.length * 3) (b := 4) (by omega) (by omega), hc, hst]
    refine key _ ?_ ?_ ?_ ?_ ?_ ?_ ?_ ?_ <;> simp [tg_ts]
  · generalize hg1 : h.push (.cells (List.replicate (s.length * 3 / 4) (.int .u8 0)) 6) = gg
    have f1 : Fr h gg (fun _ => False) := by rw [← hg1]; exact Fr.push
    have a1 : gg.at h.bs.length = some (.cells (List.replicate (s.length * 3 / 4) (.int .u8 0)) 6) := by rw [← hg1]; exact push_self
    have key : ∀ t, tg t 0 = str s → tg t 1 = str plain → tg t 2 = .bool rt → tg t 8 = .slice (some ⟨h.bs.length, 0, some 0⟩) 0 (s.length * 3 / 4) → tg t 9 = cv 0 → tg t 10 = iv 0 → tg t 19 = iv s.length → tg t 20 = iv 0 → RRes C h (rd64 s 0 0 []) rt (R C r40 kR t [] gg) := fun t x0 x1 x2 x8 x9 x10 x19 x20 =>
      loop s 0 0 0 [] gg t (by rw [List.drop_zero]) ⟨f1, hlo, by rw [if_neg hc, ← hg1]; simp, ⟨_, x8, by unfold Out; rw [if_neg hc]; exact ⟨rfl, by simp, by simpa using a1⟩⟩, by simp, by omega, by simp, by omega, x0, x1, x2, x9, x10, x19, x20⟩
    unfold kR at key
    have q1 := iv_mul (a := s.length) (b := 3) (by omega)
    have q2 := iv_quo (a := s.length * 3) (b := 4) (by omega) (by omega)
    generalize s.length * 3 / 4 = cap at *
    have g0 : ¬ (cap : Int) = 0 := by omega
    simp [b40, z0, i1, q1, q2, g0, hc, g1, zf, hg1]
    refine key _ ?_ ?_ ?_ ?_ ?_ ?_ ?_ ?_ <;> simp [tg_ts]
end Go.Ab.Aud

namespace Go.Ab.Aud
set_option maxRecDepth 20000
open Go.Wire (b64 v64 t64 Txt rd64 trim1 pad bytesPad amp spc col eqs encF decode decode_pair textPad bytes_text)
open Go.Lib (validD)
variable {C : Ctx} (T : Tab_LStr C) (TW : Tab_LWir C) (U : U8 C)
include T TW in
theorem bytesPad_spec {h : AHeap} {s : Txt} (hlo : h.lo ≤ h.bs.length) (hz : s.length < 2 ^ 34) : ∃ g' v e, Fr h g' (fun _ => False) ∧ D C 25 [str s] h = some (.tuple #[v, iv e], g') ∧ (∃ a m cp, v = .slice a m cp) ∧
    match bytesPad s with
    | some b => e = 0 ∧ SlR C.old g' 1 v (bytesVals b)
    | none => e ≠ 0 ∧ v = .slice none 0 0 := by
  have hpl : Value.string ⟨⟨[65, 66, 67, 68, 69, 70, 71, 72, 73, 74, 75, 76, 77, 78, 79, 80, 81, 82, 83, 84, 85, 86, 87, 88, 89, 90, 97, 98, 99, 100, 101, 102, 103, 104, 105, 106, 107, 108, 109, 110, 111, 112, 113, 114, 115, 116, 117, 118, 119, 120, 121, 122, 48, 49, 50, 51, 52, 53, 54, 55, 56, 57, 43, 47]⟩⟩ = str plain := rfl
  have h61 : Value.string ⟨⟨[61]⟩⟩ = str [61] := rfl
  have tl : ∀ s : Txt, (trim1 s).length ≤ s.length := fun s => by unfold trim1; split <;> simp
  have t1 := fun h => trim_spec T h s (by omega)
  have t2 := fun h => trim_spec T h (trim1 s) (by have := tl s; omega)
  have hr := read_spec T TW (h := h) (s := trim1 (trim1 s)) (rt := decide (s.length % 4 = 0)) hlo (by have := tl s; have := tl (trim1 s); omega)
  unfold bytesPad
  generalize trim1 (trim1 s) = y at *
  generalize trim1 s = x at *
  obtain ⟨g', f, hm⟩ := hr
  have go : ∀ (a : Option Addr) (m cp e : Nat), D C 40 [str y, str plain, .bool (decide (s.length % 4 = 0))] h = some (.tuple #[.slice a m cp, iv e], g') → D C 25 [str s] h = some (.tuple #[.slice a m cp, iv e], g') := fun a m cp e he => by
    rw [D_fn TW.h25]
    simp [b25, h61, Dc_ok, t1, t2, iv_rem (a := s.length) (b := 4) (by omega) (by omega), hpl, he, r25]
  revert hm
  cases rd64 y 0 0 [] with
  | none =>
    rintro ⟨e, he, hd⟩
    exact ⟨g', _, e, f, go _ _ _ _ hd, ⟨_, _, _, rfl⟩, he, rfl⟩
  | some p =>
    obtain ⟨b, n⟩ := p
    dsimp only
    by_cases hc : s.length % 4 = 0 ∧ n = 0
    · rw [if_pos ⟨by simp [hc.1], hc.2⟩, if_pos hc]
      rintro ⟨v, hd, hs, a, m, cp, rfl⟩
      exact ⟨g', _, 0, f, go _ _ _ _ hd, ⟨_, _, _, rfl⟩, rfl, hs⟩
    · rw [if_neg (by simpa using hc), if_neg hc]
      rintro ⟨e, he, hd⟩
      exact ⟨g', _, e, f, go _ _ _ _ hd, ⟨_, _, _, rfl⟩, he, rfl⟩
include T in
/-- what stands ahead of the first of a letter, and behind it -/
theorem cut_spec (h : AHeap) {p q : Txt} {c : UInt8} (hp : c ∉ p) (hz : (p ++ c :: q).length < 2 ^ 40) : D C 24 [str (p ++ c :: q), str [c]] h = some (.tuple #[str p, str q, .bool true], h) := by
  have hzs : Value.string ⟨⟨[]⟩⟩ = str [] := rfl
  have hf : ∀ x y : Txt, flat (.tuple #[str x, str y, .bool true]) = true := fun _ _ => rfl
  have ix := fun h => index_spec T (p ++ c :: q) c h
  rw [fidx_at p q c hp] at ix
  have i1 : Value.int .i64 (p.length : Int) = iv p.length := rfl
  rw [i1] at ix
  have hpl : p.length + 1 ≤ (p ++ c :: q).length := by simp
  have s1 : ∀ g, slcSv (str (p ++ c :: q)) (some none) (some (some (p.length : Int))) g = some (str p, g) := fun g => by
    have := slcSv_str (s := p ++ c :: q) (h := g) (lo := none) (hi := some (p.length : Int)) (l := 0) (u := p.length) rfl rfl (by omega) (by simp)
    rw [this]; simp
  have s2 : ∀ g, slcSv (str (p ++ c :: q)) (some (some ((p.length : Int) + 1))) (some none) g = some (str q, g) := fun g => by
    rw [slc_drop (by simp)]
    congr 3
    rw [← List.drop_drop, List.drop_left]; rfl
  generalize p ++ c :: q = s at *
  have e38 : ∀ h, D C 38 [str s, str [c]] h = some (.tuple #[str p, str q, .bool true], h) := fun h => by
    rw [D_fn3 T.h38 _ (by simp)]
    simp [b38, hzs, Dc_ok, ix, s1, iv_add (a := p.length) (b := 1) (by omega), s2, r38, hf]
  rw [D_fn3 T.h24 _ (by simp)]
  simp [b24, hzs, Dc_ok, e38, r24, hf]
def cBasic : Txt := [66, 97, 115, 105, 99]
def lBasic : Txt := [98, 97, 115, 105, 99]
end Go.Ab.Aud

namespace Go.Ab.Aud
set_option maxRecDepth 20000
open Go.Wire (b64 v64 t64 Txt rd64 trim1 pad bytesPad amp spc col eqs encF decode decode_pair textPad bytes_text)
open Go.Lib (validD)
variable {C : Ctx} (T : Tab_LStr C) (TW : Tab_LWir C) (U : U8 C)
def kQ : List AItem := [.inLoop lp26_0, .inBlock 0, .code k26_2]
theorem fold_same {a b : Txt} {i m : Nat} {x : UInt8} {K : List AItem} {t : List Value} {g : AHeap} (ha : ∀ h, idxSv (str a) (iv i) h = some (bv x, h)) (hb : ∀ h, idxSv (str b) (iv i) h = some (bv x, h)) (hx : abin .or (bv x) (bv x) = some (bv x)) (h128 : x.toNat < 128) (him : i < m) (hi : i < 2 ^ 40)
    (t0 : tg t 0 = str a) (t1 : tg t 1 = str b) (t5 : tg t 5 = iv i) (t6 : tg t 6 = iv m) {V : Res → Prop} (go : ∀ t', tg t' 0 = str a → tg t' 1 = str b → tg t' 5 = iv (i + 1) → tg t' 6 = iv m → V (R C r26 (.inLoop lp26_0 :: .inBlock 0 :: K) t' [] g)) : V (R C r26 (.inLoop lp26_0 :: .inBlock 0 :: K) t [] g) := by
  have u128 : Value.int .u8 128 = bv 128 := rfl
  have t128 : (128 : UInt8).toNat = 128 := rfl
  have hge : abin .geq (bv x) (bv 128) = some (.bool false) := by
    unfold bv; rw [k_geq, decide_eq_false]; rw [t128]; omega
  rw [R_open lp26_0.eq_1]
  simp [t5, t6, him, t0, t1, ha, hb, hx, u128, hge, bv_eql, iv_add (a := i) (b := 1) (by omega)]
  exact go _ (by simp [tg_ts, t0]) (by simp [tg_ts, t1]) (by simp [tg_ts]) (by simp [tg_ts, t6])
include T in
theorem fold_spec (h : AHeap) : D C 26 [str cBasic, str lBasic] h = some (.bool true, h) := by
  rw [D_fn3 T.h26 _ (by simp)]
  have ca : ∀ k, k < 5 → ∀ h, idxSv (str cBasic) (iv k) h = some (bv (cBasic.getD k 0), h) := fun k hk h => idxSv_str (by show k < 5; omega)
  have cb : ∀ k, k < 5 → ∀ h, idxSv (str lBasic) (iv k) h = some (bv (lBasic.getD k 0), h) := fun k hk h => idxSv_str (by show k < 5; omega)
  have l1 : cBasic.length = 5 := rfl
  have l2 : lBasic.length = 5 := rfl
  have key : ∀ t, tg t 0 = str cBasic → tg t 1 = str lBasic → tg t 5 = iv 0 → tg t 6 = iv 5 → pur (R C r26 (.inLoop lp26_0 :: .inBlock 0 :: [.code k26_2, .inScope (ACode.seq (.ops [oo 5 (.move (.cst (iv 0)))]) (ACode.seq (ACode.seq (.ops [oo 14 (.move (.tmp 0)), oo 15 (.lenS (.tmp 14)), oo 16 (.move (.tmp 1)), oo 17 (.lenS (.tmp 16)), oo 18 (.min2 (.tmp 15) (.tmp 17)), oo 6 (.move (.tmp 18))]) (.block 0 (.loop lp26_0))) k26_2))]) t [] ⟨[], 0⟩) h = some (.bool true, h) := fun t t0 t1 t5 t6 => by
    have a0 := ca 0 (by omega)
    have b0 := cb 0 (by omega)
    have o0 : abin .or (bv 66) (bv 98) = some (bv 98) := rfl
    have g0 : abin .geq (bv 98) (bv 128) = some (.bool false) := rfl
    have e0 : abin .eql (bv 98) (bv 66) = some (.bool false) := rfl
    have q0 : abin .lss (bv 98) (bv 66) = some (.bool false) := rfl
    have r0 : abin .leq (bv 65) (bv 66) = some (.bool true) := rfl
    have s0 : abin .leq (bv 66) (bv 90) = some (.bool true) := rfl
    have w0 : abin .add (bv 66) (bv 97) = some (bv 163) := rfl
    have x0 : abin .sub (bv 163) (bv 65) = some (bv 98) := rfl
    have y0 : abin .eql (bv 98) (bv 98) = some (.bool true) := rfl
    have u128 : Value.int .u8 128 = bv 128 := rfl
    have u65 : Value.int .u8 65 = bv 65 := rfl
    have u90 : Value.int .u8 90 = bv 90 := rfl
    have u97 : Value.int .u8 97 = bv 97 := rfl
    have a0' : ∀ h, idxSv (str cBasic) (iv 0) h = some (bv 66, h) := a0
    have b0' : ∀ h, idxSv (str lBasic) (iv 0) h = some (bv 98, h) := b0
    rw [R_open lp26_0.eq_1]
    simp [t5, t6, t0, t1, a0', b0', u128, o0, g0, e0, q0, u65, u90, u97, r0, s0, w0, x0, y0, iv_add (a := 0) (b := 1) (by omega)]
    refine fold_same (x := 97) (m := 5) (ca 1 (by omega)) (cb 1 (by omega)) rfl (by decide) (by omega) (by omega) (by simp [tg_ts, t0]) (by simp [tg_ts, t1]) (by simp [tg_ts]) (by simp [tg_ts, t6]) (V := fun R => pur R h = some (.bool true, h)) fun t1 p0 p1 p5 p6 => ?_
    refine fold_same (x := 115) (m := 5) (ca 2 (by omega)) (cb 2 (by omega)) rfl (by decide) (by omega) (by omega) p0 p1 p5 p6 (V := fun R => pur R h = some (.bool true, h)) fun t2 p0 p1 p5 p6 => ?_
    refine fold_same (x := 105) (m := 5) (ca 3 (by omega)) (cb 3 (by omega)) rfl (by decide) (by omega) (by omega) p0 p1 p5 p6 (V := fun R => pur R h = some (.bool true, h)) fun t3 p0 p1 p5 p6 => ?_
    refine fold_same (x := 99) (m := 5) (ca 4 (by omega)) (cb 4 (by omega)) rfl (by decide) (by omega) (by omega) p0 p1 p5 p6 (V := fun R => pur R h = some (.bool true, h)) fun t4 p0 p1 p5 p6 => ?_
    rw [R_open lp26_0.eq_1]
    simp [p5, p6, k26_2, p0, p1, l1, l2, r26]
  simp [b26, l1, l2, mm_iv]
  exact key _ (by simp [tg_ts]) (by simp [tg_ts]) (by simp [tg_ts]) (by simp [tg_ts])
include T TW in
theorem printBasic_spec (le : C.lies 70 2 0 70 = true) (h : AHeap) {a b : Txt} (ha : a.length < 2 ^ 30) (hb : b.length < 2 ^ 30) :
    D C 15 [str a, str b] h = some (str (cBasic ++ spc :: textPad (encF a ++ col :: encF b)), h) := by
  rw [D_fn3 TW.h15 _ (by simp)]
  have e1 := fun h => encode_spec T TW le (s := a) (by omega) h
  have e2 := fun h => encode_spec T TW le (s := b) (by omega) h
  have l1 := encF_len a
  have l2 := encF_len b
  have h58 : Value.string ⟨⟨[58]⟩⟩ = str [col] := rfl
  have hzs : Value.string ⟨⟨[]⟩⟩ = str [] := rfl
  have hB : Value.string ⟨⟨[66, 97, 115, 105, 99, 32]⟩⟩ = str (cBasic ++ [spc]) := rfl
  have a1 : abin .add (str (encF a)) (str [col]) = some (str (encF a ++ [col])) := str_add (by simp; omega)
  have a2 : abin .add (str (encF a ++ [col])) (str (encF b)) = some (str (encF a ++ col :: encF b)) := by
    rw [str_add (by simp; omega)]; simp
  have lx : (encF a ++ col :: encF b).length < 2 ^ 33 := by simp; omega
  generalize encF a ++ col :: encF b = x at *
  have hs2 : ∀ h, s2bV 5 (str x) h = some (.slice (some ⟨h.bs.length, 0, some (x.length + 1)⟩) x.length 0, h.push (.grow (bytesVals x) 0 6 1)) := fun h => s2bV_str (by simp [sizeLim]; omega)
  have ho := s2b_own (h := (⟨[], 0⟩ : AHeap)) (e := 5) (s := x) (Nat.le_refl _)
  have et := textPad_spec T TW le (ho.sl (old := C.old) (by omega)) (by omega)
  have tl : (textPad x).length < 2 ^ 38 := by
    have : ∀ (n : Nat) (r : List UInt8), r.length ≤ n → (t64 r).length ≤ 4 * r.length + 4 := fun n => by
      induction n with
      | zero => intro r h; have : r = [] := List.eq_nil_of_length_eq_zero (by omega); subst this; simp [t64]
      | succ n ih =>
        intro r h
        match r, h with
        | [], _ => simp [t64]
        | [_], _ => simp [t64]
        | [_, _], _ => simp [t64]
        | _ :: _ :: _ :: q, h =>
          have := ih q (by simp at h; omega)
          simp [t64]; omega
    have := this x.length x (Nat.le_refl _)
    unfold textPad; simp; omega
  have a3 : abin .add (str (cBasic ++ [spc])) (str (textPad x)) = some (str (cBasic ++ spc :: textPad x)) := by
    rw [str_add (by have : (cBasic ++ [spc]).length = 6 := rfl; omega)]; simp
  simp only [AHeap.push, List.nil_append, List.length_nil] at et
  simp [b15, hzs, Dc_ok, e1, h58, a1, e2, a2, hs2, AHeap.push, et, hB, a3, r15]
end Go.Ab.Aud

namespace Go.Ab.Aud
set_option maxRecDepth 20000
open Go.Wire (b64 v64 t64 Txt rd64 trim1 pad bytesPad amp spc col eqs encF decode decode_pair textPad bytes_text)
open Go.Lib (validD)
variable {C : Ctx} (T : Tab_LStr C) (TW : Tab_LWir C) (U : U8 C)
def b2sV (old : Old) (v : Value) (h : AHeap) : Option (Value × AHeap) := match v with
  | .slice none _ _ => some (str [], h)
  | .slice (some a) n _ => if n = 0 then some (str [], h) else match (readN old h a n).bind valsBytes with
    | some l => some (str l, h)
    | none => none
  | _ => none
@[simp high] theorem ax_b2s2 {t : List Value} {h : AHeap} {x : AArg} : aexec C t h (.bytes2str x) = b2sV C.old (x.ev t) h := nr rfl
theorem valsBytes_bytes (l : List UInt8) : valsBytes (bytesVals l) = some l := by
  induction l with
  | nil => rfl
  | cons a l ih =>
    show (valsBytes (bytesVals l)).map (UInt8.ofNat ((a.toNat : Int)).toNat :: ·) = _
    rw [ih]; simp
theorem b2sV_sl {old : Old} {h : AHeap} {a : Option Addr} {n cp : Nat} {l : List UInt8} (hs : SlR old h 1 (.slice a n cp) (bytesVals l)) : b2sV old (.slice a n cp) h = some (str l, h) := by
  have hl := hs.len
  rw [bytes_len, Nat.mul_one] at hl
  by_cases hn : n = 0
  · have : l = [] := List.eq_nil_of_length_eq_zero (by omega)
    subst this
    cases a with
    | none => rfl
    | some a => simp [b2sV, hn]
  · obtain ⟨a', rfl⟩ := hs.ex hn
    have hr := hs.read hn
    rw [Nat.mul_one] at hr
    simp [b2sV, hn, hr, valsBytes_bytes]
include T TW U in
/-- a header that was printed is read -/
theorem basic_spec (l0 : C.lies 81 4 0 70 = true) (l2 : C.lies 81 4 2 70 = true) (h : AHeap) {a b : Txt} (va : validD a = true) (vb : validD b = true) (hz : (cBasic ++ spc :: textPad (encF a ++ col :: encF b)).length < 2 ^ 34) (hx : (encF a ++ col :: encF b).length < 2 ^ 34) :
    D C 16 [str (cBasic ++ spc :: textPad (encF a ++ col :: encF b))] h = some (if (cBasic ++ spc :: textPad (encF a ++ col :: encF b)).length ≤ 4096 then .tuple #[str a, str b, iv 0] else .tuple #[str [], str [], iv 192], h) := by
  rw [D_fn3 TW.h16 _ (by simp)]
  have hzs : Value.string ⟨⟨[]⟩⟩ = str [] := rfl
  have h32 : Value.string ⟨⟨[32]⟩⟩ = str [spc] := rfl
  have hlb : Value.string ⟨⟨[98, 97, 115, 105, 99]⟩⟩ = str lBasic := rfl
  have ec := fun h => cut_spec T h (p := cBasic) (q := textPad (encF a ++ col :: encF b)) (c := spc) (by decide) (by omega)
  have dp := decode_pair col (.inr rfl) a b
  have hd := fun h => decode_spec T TW l0 l2 (s := encF a ++ col :: encF b) (mk := col) (by omega) (.inr rfl) h
  rw [dp] at hd
  simp only [decV, atV] at hd
  have hm58 : col.toNat = 58 := rfl
  rw [hm58] at hd
  have bt := bytes_text (encF a ++ col :: encF b)
  have hyl : (textPad (encF a ++ col :: encF b)).length < 2 ^ 34 := by simp at hz; omega
  obtain ⟨g', v, e, f, eb, ⟨sa, m, cp, rfl⟩, hm⟩ := bytesPad_spec T TW (h := ⟨[], 0⟩) (s := textPad (encF a ++ col :: encF b)) (Nat.le_refl _) hyl
  rw [bt] at hm
  obtain ⟨rfl, hsl⟩ := hm
  have b2 := b2sV_sl hsl
  have hfold := fun h => fold_spec T (h := h)
  have gda := fun h => good_spec T U TW a h
  rw [va] at gda
  have gdb := fun h => good_spec T U TW b h
  rw [vb] at gdb
  have hlc : cBasic.length = 5 := rfl
  generalize (encF a).length = k at *
  generalize encF a ++ col :: encF b = x at *
  generalize textPad x = y at *
  generalize cBasic ++ spc :: y = hd' at *
  have wf : g'.lo ≤ g'.bs.length := by have := f.lo; have := f.len; simp at *; omega
  generalize hg1 : g'.push (.cells [str [], str []] 59) = g1
  have p1 : g1.at g'.bs.length = some (.cells [str [], str []] 59) := by rw [← hg1]; exact push_self
  have lo1 : g1.lo ≤ g'.bs.length := by rw [← hg1]; simpa using wf
  have bx := wrN_cells (h := g1) (b := g'.bs.length) (o := 0) (fz := 58) (c := [str [], str []]) (v := [str a, str b]) (by simp) (by simp)
  rw [splice2] at bx
  have p2 : (g1.put g'.bs.length (.cells [str a, str b] 59)).at g'.bs.length = some (.cells [str a, str b] 59) := put_self (get_lt p1)
  generalize g1.put g'.bs.length (.cells [str a, str b] 59) = g2 at bx p2
  have ix0 : ∀ a : Addr, ixA 1 2 (.pointer (some a)) (iv 0) = some (.pointer (some a)) := fun a => by rw [ixA_iv (by omega)]; simp [adda]
  have ix1 : ∀ a : Addr, ixA 1 2 (.pointer (some a)) (iv 1) = some (.pointer (some (adda a 1))) := fun a => by rw [ixA_iv (by omega)]
  have hge : abin .geq (.int .i64 (-1)) (iv 0) = some (.bool false) := rfl
  have hf1 : flat (.tuple #[str a, str b, iv 0]) = true := rfl
  have hf2 : flat (.tuple #[str [], str [], iv 192]) = true := rfl
  by_cases hlen : hd'.length ≤ 4096
  · rw [if_pos hlen]
    simp [b16, hzs, h32, hlb, Dc_ok, ec, eb, b2, hd, hg1, writeN_wr lo1, p1, bx, show ¬ 4096 < hd'.length by omega, hlc, hfold, hge, ix0, ix1, read1_rd, p2, gda, gdb, r16, hf1]
  · rw [if_neg hlen]
    simp [b16, hzs, h32, hlb, Dc_ok, ec, eb, b2, hd, hg1, writeN_wr lo1, p1, bx, show 4096 < hd'.length by omega, r16, hf2]
end Go.Ab.Aud

namespace Go.Ab.Aud
set_option maxRecDepth 20000
open Go.Wire (amp eqs Txt join encF enc1 printF Fit)
open Go.Lib (validD)
variable {C : Ctx} (T : Tab_LStr C) (TW : Tab_LWir C) (U : U8 C)
/-- a field of a row of fields, its two texts -/
theorem sl_fld2 {old : Old} {h : AHeap} {a : Option Addr} {n cp i : Nat} {l : List (Txt × Txt)} {p : Txt × Txt} (w : SlR old h 2 (.slice a n cp) (fcells l)) (hi : l[i]? = some p) :
    i < n ∧ ∃ b o s, a = some ⟨b, o, s⟩ ∧ readN old h ⟨b, o + i * 2, s⟩ 2 = some [str p.1, str p.2] ∧ read1 old h ⟨b, o + i * 2, s⟩ = some (str p.1) ∧ read1 old h ⟨b, o + i * 2 + 1, s⟩ = some (str p.2) := by
  obtain ⟨h1, ⟨b, o, s⟩, rfl, h2⟩ := sl_fld w hi
  rw [adda_mk] at h2
  have r0 := readN_read1 h2 (i := 0) (by omega)
  have r1 := readN_read1 h2 (i := 1) (by omega)
  rw [adda_mk] at r0 r1
  exact ⟨h1, b, o, s, rfl, h2, r0, r1⟩
def longN : List (Txt × Txt) → Nat → Nat
  | [], n => n
  | p :: r, n => if n ≤ 131072 then longN r (n + p.1.length + p.2.length + 2) else n
def kL : List AItem := [.inLoop lp8_0, .inBlock 0, .code k8_0]
theorem long_loop {H : AHeap} {m cp : Nat} {a : Option Addr} {l : List (Txt × Txt)} (hw : SlR C.old H 2 (.slice a m cp) (fcells l)) (hm : m < 2 ^ 60) (hsz : ∀ p ∈ l, p.1.length < 2 ^ 50 ∧ p.2.length < 2 ^ 50) : ∀ (r : List (Txt × Txt)) (i n : Nat) (t : List Value), r = l.drop i → n < 2 ^ 52 → i ≤ m →
    tg t 0 = .slice a m cp → tg t 3 = iv n → tg t 4 = iv i → R C r8 kL t [] H = some (iv (longN r n), H) := by
  have hml := hw.len
  rw [fcells_len] at hml
  intro r
  induction r with
  | nil =>
    intro i n t hp hn him t0 t3 t4
    have hi : l.length ≤ i := by
      have := congrArg List.length hp
      rw [List.length_drop] at this; simp at this; omega
    unfold kL
    rw [R_open lp8_0.eq_1]
    simp [t0, t3, t4, show ¬ i < m by omega, k8_0, r8, longN]
  | cons p r ih =>
    intro i n t hp hn him t0 t3 t4
    have hl : i < l.length := by
      have := congrArg List.length hp
      rw [List.length_drop] at this; simp at this; omega
    rw [List.drop_eq_getElem_cons hl] at hp
    injection hp with h1 h2
    have hs : l[i]? = some p := by rw [List.getElem?_eq_getElem hl, h1]
    have hpm : p ∈ l := by rw [h1]; exact List.getElem_mem _
    obtain ⟨z1, z2⟩ := hsz p hpm
    obtain ⟨him, b, o, s, rfl, e0, e1, e2⟩ := sl_fld2 hw hs
    unfold longN
    by_cases hc : n ≤ 131072
    · rw [if_pos hc]
      have hfin := fun t' x0 x3 x4 => ih (i + 1) (n + p.1.length + p.2.length + 2) t' h2 (by omega) (by omega) x0 x3 x4
      unfold kL at hfin ⊢
      rw [R_open lp8_0.eq_1]
      simp [t0, t3, t4, him, hc, ixS_iv him, e1, e2, iv_add (a := n) (b := p.1.length) (by omega), iv_add (a := n + p.1.length) (b := p.2.length) (by omega), iv_add (a := n + p.1.length + p.2.length) (b := 2) (by omega), iv_add (a := i) (b := 1) (by omega)]
      exact hfin _ (by simp [tg_ts, t0]) (by simp [tg_ts]) (by simp [tg_ts])
    · rw [if_neg hc]
      unfold kL
      rw [R_open lp8_0.eq_1]
      simp [t0, t3, t4, him, hc, k8_0, r8]
include TW in
theorem long_spec (h : AHeap) {m cp : Nat} {a : Option Addr} {l : List (Txt × Txt)} (hw : SlR C.old h 2 (.slice a m cp) (fcells l)) (hm : m < 2 ^ 60) (hsz : ∀ p ∈ l, p.1.length < 2 ^ 50 ∧ p.2.length < 2 ^ 50) :
    D C 8 [.slice a m cp] h = some (iv (longN l 0), h) := by
  rw [D_fn2 TW.h8]
  have hw0 := hw.lo (x := h.bs.length)
  generalize hH : ({ h with lo := h.bs.length } : AHeap) = H at *
  have key : ∀ t, tg t 0 = .slice a m cp → tg t 3 = iv 0 → tg t 4 = iv 0 → pur (R C r8 kL t [] H) h = some (iv (longN l 0), h) := fun t t0 t3 t4 => by
    rw [long_loop hw0 hm hsz l 0 0 t (by rw [List.drop_zero]) (by omega) (by omega) t0 t3 t4]
    simp
  unfold kL at key
  simp [b8]
  exact key _ (by simp [tg_ts]) (by simp [tg_ts]) (by simp [tg_ts])
theorem longN_ge : ∀ (l : List (Txt × Txt)) (n : Nat), n ≤ longN l n
  | [], n => Nat.le_refl _
  | p :: r, n => by
    unfold longN; split
    · have := longN_ge r (n + p.1.length + p.2.length + 2); omega
    · exact Nat.le_refl _
theorem longN_sum : ∀ (l : List (Txt × Txt)) (n : Nat), longN l n ≤ 131072 → longN l n = n + fsum l
  | [], n, _ => by simp [longN, fsum]
  | p :: r, n, h => by
    unfold longN at h ⊢
    split at h
    · rename_i hn
      rw [if_pos hn, longN_sum r _ h]
      simp [fsum]; omega
    · omega
theorem longN_lt : ∀ (l : List (Txt × Txt)) (n : Nat), (∀ p ∈ l, p.1.length < 2 ^ 50 ∧ p.2.length < 2 ^ 50) → n < 2 ^ 52 → longN l n < 2 ^ 52
  | [], n, _, h => h
  | p :: r, n, hs, h => by
    have := hs p (by simp)
    unfold longN; split
    · exact longN_lt r _ (fun q hq => hs q (by simp [hq])) (by omega)
    · exact h
include TW in
theorem num_spec (h : AHeap) (k : Nat) : D C 17 [iv k] h = some (iv k, h) := by
  rw [D_fn3 TW.h17 _ (by simp)]
  simp [b17, r17]
include TW in
theorem copyFields_spec (h : AHeap) {m cp : Nat} {a : Option Addr} {l : List (Txt × Txt)} (hlo : h.lo ≤ h.bs.length) (hw : SlR C.old h 2 (.slice a m cp) (fcells l)) (hm : m < 2 ^ 34) :
    ∃ v h', D C 11 [.slice a m cp] h = some (v, h') ∧ Own h' 53 2 v m (fcells l) ∧ Fr h h' (fun _ => False) ∧ (∀ j, blkOf v = some j → h.bs.length ≤ j) := by
  have hml := hw.len
  obtain ⟨v', h', e, o, f, b⟩ := append_own (old := C.old) (bytes := 32) (x := .slice a m cp) (m := m) (new := fcells l) (Own.nil (h := h) (e := 53) (k := 2)) (by omega) rfl
      (fun hm => hw.src hm) (fun h0 => by subst h0; exact List.eq_nil_of_length_eq_zero (by omega)) hml
      (by simp [fcells, List.all_flatMap]) (by simp [sizeLim]; omega) hlo
  rw [Nat.zero_add, List.nil_append] at o
  obtain ⟨wa, wcp, hv'⟩ := o.slice
  refine ⟨v', h', ?_, o, f.mono (fun j hj _ => by cases hj), fun j hj => ?_⟩
  · rw [D_fn TW.h11]
    rw [hv'] at e ⊢
    simp [b11, e, r11]
  · rcases b with b | b <;> rw [b] at hj
    · cases hj
    · cases hj; exact Nat.le_refl _
end Go.Ab.Aud

namespace Go.Ab.Aud
set_option maxRecDepth 20000
open Go.Wire (amp eqs Txt join encF enc1 printF Fit)
open Go.Lib (validD)
variable {C : Ctx} (T : Tab_LStr C) (TW : Tab_LWir C) (U : U8 C)
theorem fit_in {H : AHeap} {m cp : Nat} {a : Option Addr} {l : List (Txt × Txt)} (hw : SlR C.old H 2 (.slice a m cp) (fcells l)) (hm : m < 2 ^ 60) {i : Nat} {p : Txt × Txt} (hp : l[i]? = some p) {K : List AItem} :
    ∀ (n k : Nat) (t : List Value), k + n = i → tg t 0 = .slice a m cp → tg t 3 = iv i → tg t 4 = iv k →
    (p.1 ∈ ((l.drop k).take n).map (·.1)) ∧ R C r9 (.inLoop lp9_0 :: .inBlock 2 :: K) t [] H = some (.bool false, H) ∨
    (¬ p.1 ∈ ((l.drop k).take n).map (·.1)) ∧ ∃ t', R C r9 (.inLoop lp9_0 :: .inBlock 2 :: K) t [] H = R C r9 K t' [] H ∧ tg t' 0 = .slice a m cp ∧ tg t' 3 = iv i := by
  have hml := hw.len
  rw [fcells_len] at hml
  have hil := (List.getElem?_eq_some_iff.1 hp).1
  intro n
  induction n with
  | zero =>
    intro k t hk t0 t3 t4
    refine .inr ⟨by simp, ?_⟩
    rw [R_open lp9_0.eq_1]
    simp [t4, t3, show ¬ k < i by omega]
    exact ⟨_, rfl, by simp [tg_ts, t0], by simp [tg_ts, t3]⟩
  | succ n ih =>
    intro k t hk t0 t3 t4
    have hkl : k < l.length := by omega
    obtain ⟨him, b, o, s, rfl, e0, e1, e2⟩ := sl_fld2 hw hp
    obtain ⟨hkm, b', o', s', hb, q0, q1, q2⟩ := sl_fld2 hw (i := k) (p := l[k]) (List.getElem?_eq_getElem hkl)
    injection hb with hb
    injection hb with hb1 hb2 hb3
    subst hb1 hb2 hb3
    rw [List.drop_eq_getElem_cons hkl, List.take_succ_cons, List.map_cons]
    by_cases hc : l[k].1 = p.1
    · refine .inl ⟨by simp [hc], ?_⟩
      rw [R_open lp9_0.eq_1]
      simp [t4, t3, show k < i by omega, t0, ixS_iv him, ixS_iv hkm, e1, q1, str_eql, hc, r9]
    · have hmem : p.1 ∈ (l[k].1 :: ((l.drop (k + 1)).take n).map (·.1)) ↔ p.1 ∈ ((l.drop (k + 1)).take n).map (·.1) := by
        rw [List.mem_cons]; exact ⟨fun h => h.resolve_left (fun hh => hc hh.symm), .inr⟩
      rw [hmem]
      have step : ∃ t', R C r9 (.inLoop lp9_0 :: .inBlock 2 :: K) t [] H = R C r9 (.inLoop lp9_0 :: .inBlock 2 :: K) t' [] H ∧ tg t' 0 = .slice (some ⟨b, o, s⟩) m cp ∧ tg t' 3 = iv i ∧ tg t' 4 = iv (k + 1) := by
        rw [R_open lp9_0.eq_1]
        simp [t4, t3, show k < i by omega, t0, ixS_iv him, ixS_iv hkm, e1, q1, str_eql, hc, iv_add (a := k) (b := 1) (by omega)]
        exact ⟨_, rfl, by simp [tg_ts, t0], by simp [tg_ts, t3], by simp [tg_ts]⟩
      obtain ⟨t', es, x0, x3, x4⟩ := step
      rw [es]
      exact ih (k + 1) t' (by omega) x0 x3 x4
def kO : List AItem := [.inLoop lp9_1, .inBlock 0, .code k9_1]
theorem fit_snoc {l : List (Txt × Txt)} {p : Txt × Txt} : Fit (l ++ [p]) ↔ Fit l ∧ (p.1 ≠ [] ∧ validD p.1 = true ∧ validD p.2 = true) ∧ p.1 ∉ l.map (·.1) := by
  unfold Fit
  constructor
  · rintro ⟨h1, h2⟩
    rw [List.map_append, List.nodup_append] at h2
    refine ⟨⟨fun q hq => h1 q (by simp [hq]), h2.1⟩, h1 p (by simp), fun hm => h2.2.2 _ hm _ (by simp) rfl⟩
  · rintro ⟨⟨h1, h2⟩, h3, h4⟩
    refine ⟨fun q hq => ?_, ?_⟩
    · rcases List.mem_append.1 hq with hq | hq
      · exact h1 q hq
      · rw [List.mem_singleton.1 hq]; exact h3
    · rw [List.map_append, List.nodup_append]
      refine ⟨h2, by simp, fun x hx y hy hxy => h4 ?_⟩
      simp at hy; rw [← hy, ← hxy]; exact hx
theorem fit_take {l : List (Txt × Txt)} (h : Fit l) (i : Nat) : Fit (l.take i) := by
  refine ⟨fun p hp => h.1 p (List.mem_of_mem_take hp), ?_⟩
  rw [List.map_take]
  exact h.2.sublist (List.take_sublist _ _)
include TW in
theorem fit_loop {H : AHeap} {m cp : Nat} {a : Option Addr} {l : List (Txt × Txt)} (hw : SlR C.old H 2 (.slice a m cp) (fcells l)) (hm : m < 2 ^ 60) (hsz : ∀ p ∈ l, p.1.length < 2 ^ 40 ∧ p.2.length < 2 ^ 40) : ∀ (r : List (Txt × Txt)) (i : Nat) (t : List Value), r = l.drop i → i ≤ m → Fit (l.take i) →
    tg t 0 = .slice a m cp → tg t 3 = iv i → ∃ b, R C r9 kO t [] H = some (.bool b, H) ∧ (b = true ↔ Fit l) := by
  have hml := hw.len
  rw [fcells_len] at hml
  intro r
  induction r with
  | nil =>
    intro i t hp him hf t0 t3
    have hi : l.length ≤ i := by
      have := congrArg List.length hp
      rw [List.length_drop] at this; simp at this; omega
    rw [List.take_of_length_le hi] at hf
    refine ⟨true, ?_, by simp [hf]⟩
    unfold kO
    rw [R_open lp9_1.eq_1]
    simp [t0, t3, show ¬ i < m by omega, k9_1, r9]
  | cons p r ih =>
    intro i t hp him hf t0 t3
    have hl : i < l.length := by
      have := congrArg List.length hp
      rw [List.length_drop] at this; simp at this; omega
    rw [List.drop_eq_getElem_cons hl] at hp
    injection hp with h1 h2
    have hs : l[i]? = some p := by rw [List.getElem?_eq_getElem hl, h1]
    have hpm : p ∈ l := by rw [h1]; exact List.getElem_mem _
    obtain ⟨z1, z2⟩ := hsz p hpm
    obtain ⟨him, b, o, s, rfl, e0, e1, e2⟩ := sl_fld2 hw hs
    have htk : l.take (i + 1) = l.take i ++ [p] := by rw [List.take_succ_eq_append_getElem hl, h1]
    have g1 := fun h => isgood_spec TW (s := p.1) (by omega) h
    have g2 := fun h => isgood_spec TW (s := p.2) (by omega) h
    have hzs : Value.string ⟨⟨[]⟩⟩ = str [] := rfl
    have nofit : ¬ Fit (l.take (i + 1)) → ((false = true) ↔ Fit l) := fun hn => ⟨fun h => (by cases h), fun h => absurd (fit_take h _) hn⟩
    unfold kO
    by_cases c1 : p.1 = []
    · refine ⟨false, ?_, nofit fun h => by rw [htk, fit_snoc] at h; exact h.2.1.1 c1⟩
      have c1' : str p.1 = str [] := by rw [c1]
      rw [R_open lp9_1.eq_1]
      simp [t0, t3, him, ixS_iv him, e1, e2, hzs, str_eql, c1, r9]
    cases c2 : validD p.1
    · refine ⟨false, ?_, nofit fun h => by rw [htk, fit_snoc] at h; rw [h.2.1.2.1] at c2; cases c2⟩
      rw [c2] at g1
      rw [R_open lp9_1.eq_1]
      simp [t0, t3, him, ixS_iv him, e1, e2, hzs, str_eql, c1, Dc_ok, g1, r9]
    cases c3 : validD p.2
    · refine ⟨false, ?_, nofit fun h => by rw [htk, fit_snoc] at h; rw [h.2.1.2.2] at c3; cases c3⟩
      rw [c2] at g1
      rw [c3] at g2
      rw [R_open lp9_1.eq_1]
      simp [t0, t3, him, ixS_iv him, e1, e2, hzs, str_eql, c1, Dc_ok, g1, g2, r9]
    rw [c2] at g1
    rw [c3] at g2
    have key := fun t' x0 x3 x4 => fit_in hw hm hs (K := [.inBlock 1, .code k9_0, .inLoop lp9_1, .inBlock 0, .code k9_1]) i 0 t' (by omega) x0 x3 x4
    rw [List.drop_zero] at key
    have step : ∃ t', R C r9 [.inLoop lp9_1, .inBlock 0, .code k9_1] t [] H = R C r9 [.inLoop lp9_0, .inBlock 2, .inBlock 1, .code k9_0, .inLoop lp9_1, .inBlock 0, .code k9_1] t' [] H ∧ tg t' 0 = .slice (some ⟨b, o, s⟩) m cp ∧ tg t' 3 = iv i ∧ tg t' 4 = iv 0 := by
      rw [R_open lp9_1.eq_1]
      simp [t0, t3, him, ixS_iv him, e1, e2, hzs, str_eql, c1, Dc_ok, g1, g2]
      exact ⟨_, rfl, by simp [tg_ts, t0], by simp [tg_ts, t3], by simp [tg_ts]⟩
    obtain ⟨t', es, x0, x3, x4⟩ := step
    rw [es]
    rcases key t' x0 x3 x4 with ⟨hm1, e⟩ | ⟨hm1, t'', e, y0, y3⟩
    · exact ⟨false, e, nofit fun h => by rw [htk, fit_snoc] at h; exact h.2.2 hm1⟩
    · rw [e]
      have step : ∃ t', R C r9 [.inBlock 1, .code k9_0, .inLoop lp9_1, .inBlock 0, .code k9_1] t'' [] H = R C r9 [.inLoop lp9_1, .inBlock 0, .code k9_1] t' [] H ∧ tg t' 0 = .slice (some ⟨b, o, s⟩) m cp ∧ tg t' 3 = iv (i + 1) := by
        simp [k9_0, y3, iv_add (a := i) (b := 1) (by omega)]
        exact ⟨_, rfl, by simp [tg_ts, y0], by simp [tg_ts]⟩
      obtain ⟨t3', es, z0, z3⟩ := step
      rw [es]
      exact ih (i + 1) t3' h2 (by omega) (by rw [htk, fit_snoc]; exact ⟨hf, ⟨c1, c2, c3⟩, hm1⟩) z0 z3
include TW in
theorem fit_spec (h : AHeap) {m cp : Nat} {a : Option Addr} {l : List (Txt × Txt)} (hw : SlR C.old h 2 (.slice a m cp) (fcells l)) (hm : m < 2 ^ 60) (hsz : ∀ p ∈ l, p.1.length < 2 ^ 40 ∧ p.2.length < 2 ^ 40) :
    ∃ b, D C 9 [.slice a m cp] h = some (.bool b, h) ∧ (b = true ↔ Fit l) := by
  rw [D_fn2 TW.h9]
  have hw0 := hw.lo (x := h.bs.length)
  generalize hH : ({ h with lo := h.bs.length } : AHeap) = H at *
  have key : ∀ t, tg t 0 = .slice a m cp → tg t 3 = iv 0 → ∃ b, pur (R C r9 kO t [] H) h = some (.bool b, h) ∧ (b = true ↔ Fit l) := fun t t0 t3 => by
    obtain ⟨b, e, hb⟩ := fit_loop TW hw0 hm hsz l 0 t (by rw [List.drop_zero]) (by omega) ⟨fun p hp => by simp at hp, by simp⟩ t0 t3
    exact ⟨b, by rw [e]; simp, hb⟩
  have step : ∃ t', R C r9 [.code b9] [.slice a m cp] [] H = R C r9 kO t' [] H ∧ tg t' 0 = .slice a m cp ∧ tg t' 3 = iv 0 := by
    unfold kO
    simp [b9]
    exact ⟨_, rfl, by simp [tg_ts], by simp [tg_ts]⟩
  obtain ⟨t', es, x0, x3⟩ := step
  rw [es]
  exact key t' x0 x3
def kEQ : List AItem := [.inLoop lp13_0, .inBlock 0, .code k13_0]
theorem aeq_ss {a b c d : Txt} : aeq (.flat [.s, .s]) (.agg ⟨[str a, str b]⟩) (.agg ⟨[str c, str d]⟩) = some (decide (a = c) && decide (b = d)) := by
  simp [aeq, veqL, veqK, str]
theorem eqf_loop {H : AHeap} {m cp cp' : Nat} {a a' : Option Addr} {l l' : List (Txt × Txt)} (hw : SlR C.old H 2 (.slice a m cp) (fcells l)) (hw' : SlR C.old H 2 (.slice a' m cp') (fcells l')) (hm : m < 2 ^ 60) : ∀ (n i : Nat) (t : List Value), i + n = m →
    l.take i = l'.take i → tg t 0 = .slice a m cp → tg t 1 = .slice a' m cp' → tg t 5 = iv i → R C r13 kEQ t [] H = some (.bool (decide (l = l')), H) := by
  have hml := hw.len
  rw [fcells_len] at hml
  have hml' := hw'.len
  rw [fcells_len] at hml'
  intro n
  induction n with
  | zero =>
    intro i t hi he t0 t1 t5
    rw [List.take_of_length_le (by omega), List.take_of_length_le (by omega)] at he
    unfold kEQ
    rw [R_open lp13_0.eq_1]
    simp [t0, t5, show ¬ i < m by omega, k13_0, r13, he]
  | succ n ih =>
    intro i t hi he t0 t1 t5
    have hl : i < l.length := by omega
    have hl' : i < l'.length := by omega
    obtain ⟨him, b, o, s, rfl, e0, e1, e2⟩ := sl_fld2 hw (List.getElem?_eq_getElem hl)
    obtain ⟨him, b', o', s', rfl, q0, q1, q2⟩ := sl_fld2 hw' (List.getElem?_eq_getElem hl')
    by_cases hc : l[i] = l'[i]
    · have hfin := fun t' x0 x1 x5 => ih (i + 1) t' (by omega) (by rw [List.take_succ_eq_append_getElem hl, List.take_succ_eq_append_getElem hl', he, hc]) x0 x1 x5
      unfold kEQ at hfin ⊢
      rw [R_open lp13_0.eq_1]
      simp [t0, t1, t5, him, ixS_iv him, e0, q0, aeq_ss, hc, iv_add (a := i) (b := 1) (by omega)]
      exact hfin _ (by simp [tg_ts, t0]) (by simp [tg_ts, t1]) (by simp [tg_ts])
    · have hne : ¬ l = l' := fun h => hc (by simp [h])
      have hc2 : (decide (l[i].1 = l'[i].1) && decide (l[i].2 = l'[i].2)) = false := by
        rw [← decide_eq_false hc, Bool.eq_iff_iff]; simp [Prod.ext_iff]
      unfold kEQ
      rw [R_open lp13_0.eq_1]
      simp [t0, t1, t5, him, ixS_iv him, e0, q0, aeq_ss, hc2, hne, r13]
include TW in
theorem eqFields_spec (h : AHeap) {m m' cp cp' : Nat} {a a' : Option Addr} {l l' : List (Txt × Txt)} (hw : SlR C.old h 2 (.slice a m cp) (fcells l)) (hw' : SlR C.old h 2 (.slice a' m' cp') (fcells l')) (hm : m < 2 ^ 60) :
    D C 13 [.slice a m cp, .slice a' m' cp'] h = some (.bool (decide (l = l')), h) := by
  rw [D_fn2 TW.h13]
  have hml := hw.len
  rw [fcells_len] at hml
  have hml' := hw'.len
  rw [fcells_len] at hml'
  have hw0 := hw.lo (x := h.bs.length)
  have hw0' := hw'.lo (x := h.bs.length)
  generalize hH : ({ h with lo := h.bs.length } : AHeap) = H at *
  by_cases hc : m = m'
  · subst hc
    have key : ∀ t, tg t 0 = .slice a m cp → tg t 1 = .slice a' m cp' → tg t 5 = iv 0 → pur (R C r13 kEQ t [] H) h = some (.bool (decide (l = l')), h) := fun t t0 t1 t5 => by
      rw [eqf_loop hw0 hw0' hm m 0 t (by omega) (by simp) t0 t1 t5]; simp
    unfold kEQ at key
    simp [b13]
    exact key _ (by simp [tg_ts]) (by simp [tg_ts]) (by simp [tg_ts])
  · have hne : ¬ l = l' := fun h => hc (by have := congrArg List.length h; omega)
    simp [b13, hc, hne, r13]
end Go.Ab.Aud
