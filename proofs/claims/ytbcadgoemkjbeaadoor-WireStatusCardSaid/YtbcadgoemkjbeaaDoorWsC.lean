/-
  Both loops of WireStatus go on to their ends, whatever numbers the row holds; no condition.
-/
import Derived.Test.YtbcadgoemkjbeaaDoorWsB

set_option linter.unusedSimpArgs false
set_option linter.unusedVariables false
set_option linter.unusedSectionVars false

namespace Go.Proofs.YtbcadgoemkjbeaaDoor.ws
open Go Go.Ab
set_option linter.unusedSimpArgs false
set_option linter.unusedVariables false

def lp3_0 : ACode := (.seq (.seq (.ops [
      ⟨(some 43), none, .move (.tmp 8), []⟩,
      ⟨(some 44), none, .bin .lss (.tmp 43) (.cst (.int .i64 300)), []⟩])
    (.cond (.tmp 44)
     .skip
     (.exit 2)))
    (.seq (.block 3 (.seq (.ops [
       ⟨(some 48), none, .move (.tmp 8), []⟩,
       ⟨(some 49), none, .call 5 [(.tmp 48)], []⟩,
       ⟨(some 47), none, .move (.tmp 49), []⟩,
       ⟨(some 50), none, .extract 0 (.tmp 47), []⟩,
       ⟨(some 51), none, .extract 1 (.tmp 47), []⟩,
       ⟨(some 9), none, .move (.tmp 50), []⟩,
       ⟨(some 10), none, .move (.tmp 51), []⟩])
     (.seq (.ops [
       ⟨(some 53), none, .move (.tmp 8), []⟩,
       ⟨(some 54), none, .call 6 [(.tmp 53)], []⟩,
       ⟨(some 52), none, .move (.tmp 54), []⟩,
       ⟨(some 55), none, .extract 0 (.tmp 52), []⟩,
       ⟨(some 56), none, .extract 1 (.tmp 52), []⟩,
       ⟨(some 11), none, .move (.tmp 55), []⟩,
       ⟨(some 12), none, .move (.tmp 56), []⟩])
     (.seq (.ops [
       ⟨(some 57), none, .move (.tmp 9), []⟩,
       ⟨(some 58), none, .move (.tmp 11), []⟩,
       ⟨(some 59), none, .bin .neq (.tmp 57) (.tmp 58), []⟩,
       ⟨(some 60), none, .move (.tmp 59), []⟩,
       ⟨(some 61), (some (60, false)), .move (.tmp 10), []⟩,
       ⟨(some 62), (some (60, false)), .move (.tmp 12), []⟩,
       ⟨(some 63), (some (60, false)), .bin .neq (.tmp 61) (.tmp 62), []⟩,
       ⟨(some 64), none, .pick (.tmp 60) (.cst (.bool true)) (.tmp 63), []⟩])
     (.cond (.tmp 64)
      (.seq (.ops [
        ⟨(some 2), none, .move (.cst (.bool false)), []⟩])
      .ret)
      .skip)))))
    (.ops [
      ⟨(some 45), none, .move (.tmp 8), []⟩,
      ⟨(some 46), none, .bin .add (.tmp 45) (.cst (.int .i64 1)), []⟩,
      ⟨(some 8), none, .move (.tmp 46), []⟩])))
def lp3_1 : ACode := (.seq (.seq (.ops [
      ⟨(some 13), none, .move (.tmp 3), []⟩,
      ⟨(some 14), none, .move (.tmp 0), []⟩,
      ⟨(some 15), none, .len (.tmp 14), []⟩,
      ⟨(some 16), none, .bin .lss (.tmp 13) (.tmp 15), []⟩])
    (.cond (.tmp 16)
     .skip
     (.exit 0)))
    (.seq (.block 1 (.seq (.ops [
       ⟨(some 20), none, .move (.tmp 0), []⟩,
       ⟨(some 21), none, .move (.tmp 3), []⟩,
       ⟨(some 22), none, .idxAddrSl 1 (.tmp 20) (.tmp 21), []⟩,
       ⟨(some 23), none, .load1 (.tmp 22), []⟩,
       ⟨(some 24), none, .call 5 [(.tmp 23)], []⟩,
       ⟨(some 19), none, .move (.tmp 24), []⟩,
       ⟨(some 25), none, .extract 0 (.tmp 19), []⟩,
       ⟨(some 26), none, .extract 1 (.tmp 19), []⟩,
       ⟨(some 4), none, .move (.tmp 25), []⟩,
       ⟨(some 5), none, .move (.tmp 26), []⟩])
     (.seq (.ops [
       ⟨(some 28), none, .move (.tmp 0), []⟩,
       ⟨(some 29), none, .move (.tmp 3), []⟩,
       ⟨(some 30), none, .idxAddrSl 1 (.tmp 28) (.tmp 29), []⟩,
       ⟨(some 31), none, .load1 (.tmp 30), []⟩,
       ⟨(some 32), none, .call 6 [(.tmp 31)], []⟩,
       ⟨(some 27), none, .move (.tmp 32), []⟩,
       ⟨(some 33), none, .extract 0 (.tmp 27), []⟩,
       ⟨(some 34), none, .extract 1 (.tmp 27), []⟩,
       ⟨(some 6), none, .move (.tmp 33), []⟩,
       ⟨(some 7), none, .move (.tmp 34), []⟩])
     (.seq (.ops [
       ⟨(some 35), none, .move (.tmp 4), []⟩,
       ⟨(some 36), none, .move (.tmp 6), []⟩,
       ⟨(some 37), none, .bin .neq (.tmp 35) (.tmp 36), []⟩,
       ⟨(some 38), none, .move (.tmp 37), []⟩,
       ⟨(some 39), (some (38, false)), .move (.tmp 5), []⟩,
       ⟨(some 40), (some (38, false)), .move (.tmp 7), []⟩,
       ⟨(some 41), (some (38, false)), .bin .neq (.tmp 39) (.tmp 40), []⟩,
       ⟨(some 42), none, .pick (.tmp 38) (.cst (.bool true)) (.tmp 41), []⟩])
     (.cond (.tmp 42)
      (.seq (.ops [
        ⟨(some 2), none, .move (.cst (.bool false)), []⟩])
      .ret)
      .skip)))))
    (.ops [
      ⟨(some 17), none, .move (.tmp 3), []⟩,
      ⟨(some 18), none, .bin .add (.tmp 17) (.cst (.int .i64 1)), []⟩,
      ⟨(some 3), none, .move (.tmp 18), []⟩])))
def tail1 : ACode := (.seq (.ops [
       ⟨(some 35), none, .move (.tmp 4), []⟩,
       ⟨(some 36), none, .move (.tmp 6), []⟩,
       ⟨(some 37), none, .bin .neq (.tmp 35) (.tmp 36), []⟩,
       ⟨(some 38), none, .move (.tmp 37), []⟩,
       ⟨(some 39), (some (38, false)), .move (.tmp 5), []⟩,
       ⟨(some 40), (some (38, false)), .move (.tmp 7), []⟩,
       ⟨(some 41), (some (38, false)), .bin .neq (.tmp 39) (.tmp 40), []⟩,
       ⟨(some 42), none, .pick (.tmp 38) (.cst (.bool true)) (.tmp 41), []⟩])
     (.cond (.tmp 42)
      (.seq (.ops [
        ⟨(some 2), none, .move (.cst (.bool false)), []⟩])
      .ret)
      .skip))
def inc1 : ACode := (.ops [
      ⟨(some 17), none, .move (.tmp 3), []⟩,
      ⟨(some 18), none, .bin .add (.tmp 17) (.cst (.int .i64 1)), []⟩,
      ⟨(some 3), none, .move (.tmp 18), []⟩])
def tail2 : ACode := (.seq (.ops [
       ⟨(some 57), none, .move (.tmp 9), []⟩,
       ⟨(some 58), none, .move (.tmp 11), []⟩,
       ⟨(some 59), none, .bin .neq (.tmp 57) (.tmp 58), []⟩,
       ⟨(some 60), none, .move (.tmp 59), []⟩,
       ⟨(some 61), (some (60, false)), .move (.tmp 10), []⟩,
       ⟨(some 62), (some (60, false)), .move (.tmp 12), []⟩,
       ⟨(some 63), (some (60, false)), .bin .neq (.tmp 61) (.tmp 62), []⟩,
       ⟨(some 64), none, .pick (.tmp 60) (.cst (.bool true)) (.tmp 63), []⟩])
     (.cond (.tmp 64)
      (.seq (.ops [
        ⟨(some 2), none, .move (.cst (.bool false)), []⟩])
      .ret)
      .skip))
def inc2 : ACode := (.ops [
      ⟨(some 45), none, .move (.tmp 8), []⟩,
      ⟨(some 46), none, .bin .add (.tmp 45) (.cst (.int .i64 1)), []⟩,
      ⟨(some 8), none, .move (.tmp 46), []⟩])
def rest2 : ACode := (.seq (.ops [
    ⟨(some 65), none, .call 7 [], []⟩,
    ⟨(some 2), none, .move (.tmp 65), []⟩])
  .ret)
def rest1 : ACode := (.seq (.seq (.ops [
    ⟨(some 8), none, .move (.cst (.int .i64 0)), []⟩])
  (.block 2 (.loop lp3_0))) rest2)
abbrev h0 : AHeap := ⟨[], 0⟩
theorem wrap_i64 {x : Int} (h1 : 0 ≤ x) (h2 : x < 2 ^ 63) : IntKind.i64.wrap x = x := wrap_small x h1 (by omega)
section
variable (old : Old) (Z : Res) (a : Addr) (n c : Nat)

theorem round1b (i : Nat) (hi : i + 1 < 2 ^ 63) (A : Int) (s : ByteArray) (K : List AItem) (t : List Value) (h1 : tg t 0 = .slice (some a) n c) (h2 : tg t 3 = .int .i64 i)
    (h4 : tg t 4 = .int .i64 A) (h5 : tg t 5 = .string s) (h6 : tg t 6 = .int .i64 A) (h7 : tg t 7 = .string s)
    (hZ : ∀ t', tg t' 0 = .slice (some a) n c → tg t' 3 = .int .i64 (i + 1 : Nat) → R (Cx old) r3 K t' [] h0 = Z) :
    R (Cx old) r3 (.code tail1 :: .inBlock 1 :: .code inc1 :: K) t [] h0 = Z := by
  refine R_seq.trans ?_
  refine R_ops.trans ?_
  refine (R_op (v := .int .i64 A) (h' := h0) rfl rfl (by simp [aexec, AArg.ev, tg_putD, h1, h2, h4]) rfl).trans ?_
  refine (R_op (v := .int .i64 A) (h' := h0) rfl rfl (by simp [aexec, AArg.ev, tg_putD, h1, h2, h6]) rfl).trans ?_
  refine (R_op (v := .bool false) (h' := h0) rfl rfl (by simp [aexec, AArg.ev, tg_putD, h1, h2, abin, abinI]) rfl).trans ?_
  refine (R_op (v := .bool false) (h' := h0) rfl rfl (by simp [aexec, AArg.ev, tg_putD, h1, h2, ]) rfl).trans ?_
  refine (R_op (v := .string s) (h' := h0) (by simp [wantedA, tg_putD]) rfl (by simp [aexec, AArg.ev, tg_putD, h1, h2, h5]) rfl).trans ?_
  refine (R_op (v := .string s) (h' := h0) (by simp [wantedA, tg_putD]) rfl (by simp [aexec, AArg.ev, tg_putD, h1, h2, h7]) rfl).trans ?_
  refine (R_op (v := .bool false) (h' := h0) (by simp [wantedA, tg_putD]) rfl (by simp [aexec, AArg.ev, tg_putD, h1, h2, abin, abinS]) rfl).trans ?_
  refine (R_op (v := .bool false) (h' := h0) rfl rfl (by simp [aexec, AArg.ev, tg_putD, h1, h2, ]) rfl).trans ?_
  refine R_nil.trans ?_
  refine (R_if (p := false) (by simp [AArg.ev, tg_putD])).trans ?_
  refine (if_neg (by simp)).trans ?_
  refine R_skip.trans ?_
  refine R_inBlock.trans ?_
  refine R_ops.trans ?_
  refine (R_op (v := .int .i64 i) (h' := h0) rfl rfl (by simp [aexec, AArg.ev, tg_putD, h1, h2, ]) rfl).trans ?_
  refine (R_op (v := .int .i64 (i + 1 : Nat)) (h' := h0) rfl rfl (by simp [aexec, AArg.ev, tg_putD, h1, h2, abin, abinI, wrap_i64 (x := (i : Int) + 1) (by omega) (by omega)]) rfl).trans ?_
  refine (R_op (v := .int .i64 (i + 1 : Nat)) (h' := h0) rfl rfl (by simp [aexec, AArg.ev, tg_putD, h1, h2, ]) rfl).trans ?_
  refine R_nil.trans ?_
  exact hZ _ (by simp [tg_putD, h1]) (by simp [tg_putD])

theorem round2b (i : Nat) (hi : i + 1 < 2 ^ 63) (A : Int) (s : ByteArray) (K : List AItem) (t : List Value) (h1 : True) (h2 : tg t 8 = .int .i64 i)
    (h4 : tg t 9 = .int .i64 A) (h5 : tg t 10 = .string s) (h6 : tg t 11 = .int .i64 A) (h7 : tg t 12 = .string s)
    (hZ : ∀ t', True → tg t' 8 = .int .i64 (i + 1 : Nat) → R (Cx old) r3 K t' [] h0 = Z) :
    R (Cx old) r3 (.code tail2 :: .inBlock 3 :: .code inc2 :: K) t [] h0 = Z := by
  refine R_seq.trans ?_
  refine R_ops.trans ?_
  refine (R_op (v := .int .i64 A) (h' := h0) rfl rfl (by simp [aexec, AArg.ev, tg_putD, h1, h2, h4]) rfl).trans ?_
  refine (R_op (v := .int .i64 A) (h' := h0) rfl rfl (by simp [aexec, AArg.ev, tg_putD, h1, h2, h6]) rfl).trans ?_
  refine (R_op (v := .bool false) (h' := h0) rfl rfl (by simp [aexec, AArg.ev, tg_putD, h1, h2, abin, abinI]) rfl).trans ?_
  refine (R_op (v := .bool false) (h' := h0) rfl rfl (by simp [aexec, AArg.ev, tg_putD, h1, h2, ]) rfl).trans ?_
  refine (R_op (v := .string s) (h' := h0) (by simp [wantedA, tg_putD]) rfl (by simp [aexec, AArg.ev, tg_putD, h1, h2, h5]) rfl).trans ?_
  refine (R_op (v := .string s) (h' := h0) (by simp [wantedA, tg_putD]) rfl (by simp [aexec, AArg.ev, tg_putD, h1, h2, h7]) rfl).trans ?_
  refine (R_op (v := .bool false) (h' := h0) (by simp [wantedA, tg_putD]) rfl (by simp [aexec, AArg.ev, tg_putD, h1, h2, abin, abinS]) rfl).trans ?_
  refine (R_op (v := .bool false) (h' := h0) rfl rfl (by simp [aexec, AArg.ev, tg_putD, h1, h2, ]) rfl).trans ?_
  refine R_nil.trans ?_
  refine (R_if (p := false) (by simp [AArg.ev, tg_putD])).trans ?_
  refine (if_neg (by simp)).trans ?_
  refine R_skip.trans ?_
  refine R_inBlock.trans ?_
  refine R_ops.trans ?_
  refine (R_op (v := .int .i64 i) (h' := h0) rfl rfl (by simp [aexec, AArg.ev, tg_putD, h1, h2, ]) rfl).trans ?_
  refine (R_op (v := .int .i64 (i + 1 : Nat)) (h' := h0) rfl rfl (by simp [aexec, AArg.ev, tg_putD, h1, h2, abin, abinI, wrap_i64 (x := (i : Int) + 1) (by omega) (by omega)]) rfl).trans ?_
  refine (R_op (v := .int .i64 (i + 1 : Nat)) (h' := h0) rfl rfl (by simp [aexec, AArg.ev, tg_putD, h1, h2, ]) rfl).trans ?_
  refine R_nil.trans ?_
  exact hZ _ (by simp [tg_putD, h1]) (by simp [tg_putD])

theorem round1a (ho : ∀ i, i < n → ∃ x, old a.block (a.off + i) = some (.int .i64 x)) (hs : a.spot = none) (i : Nat) (hlt : i < n) (hn : n < 2 ^ 63) (K : List AItem) (t : List Value) (h1 : tg t 0 = .slice (some a) n c) (h2 : tg t 3 = .int .i64 i)
    (hZ : ∀ t', tg t' 0 = .slice (some a) n c → tg t' 3 = .int .i64 (i + 1 : Nat) → R (Cx old) r3 K t' [] h0 = Z) :
    R (Cx old) r3 (.code lp3_1 :: K) t [] h0 = Z := by
  obtain ⟨x, hx⟩ := ho i hlt
  obtain ⟨A, s, hst⟩ := status old x
  have hst6 := (D6 old [.int .i64 x] h0).trans ((D5 old _ _).symm.trans hst)
  refine R_seq.trans ?_
  refine R_seq.trans ?_
  refine R_ops.trans ?_
  refine (R_op (v := .int .i64 i) (h' := h0) rfl rfl (by simp [aexec, AArg.ev, tg_putD, h1, h2, ]) rfl).trans ?_
  refine (R_op (v := .slice (some a) n c) (h' := h0) rfl rfl (by simp [aexec, AArg.ev, tg_putD, h1, h2, ]) rfl).trans ?_
  refine (R_op (v := .int .i64 n) (h' := h0) rfl rfl (by simp [aexec, AArg.ev, tg_putD, h1, h2, ]) rfl).trans ?_
  refine (R_op (v := .bool true) (h' := h0) rfl rfl (by simp [aexec, AArg.ev, tg_putD, h1, h2, abin, abinI, hlt]) rfl).trans ?_
  refine R_nil.trans ?_
  refine (R_if (p := true) (by simp [AArg.ev, tg_putD])).trans ?_
  refine (if_pos rfl).trans ?_
  refine R_skip.trans ?_
  refine R_seq.trans ?_
  refine R_block.trans ?_
  refine R_seq.trans ?_
  refine R_ops.trans ?_
  refine (R_op (v := .slice (some a) n c) (h' := h0) rfl rfl (by simp [aexec, AArg.ev, tg_putD, h1, h2, ]) rfl).trans ?_
  refine (R_op (v := .int .i64 i) (h' := h0) rfl rfl (by simp [aexec, AArg.ev, tg_putD, h1, h2, ]) rfl).trans ?_
  refine (R_op (v := .pointer (some (adda a i))) (h' := h0) rfl rfl (by simp [aexec, AArg.ev, tg_putD, h1, h2, asI, hlt]) rfl).trans ?_
  refine (R_op (v := .int .i64 x) (h' := h0) rfl rfl (by simp [aexec, AArg.ev, tg_putD, h1, h2, ptrOf, read1, adda, hs, hx, Cx]) rfl).trans ?_
  refine (R_call (v := .tuple ⟨[.int .i64 A, .string s]⟩) (h' := h0) rfl rfl (f := 5) (args := [.int .i64 x]) (by simp [target, okArgs, AArg.ev, tg_putD, isUnd]) hst).trans ?_
  refine (R_op (v := .tuple ⟨[.int .i64 A, .string s]⟩) (h' := h0) rfl rfl (by simp [aexec, AArg.ev, tg_putD, h1, h2, ]) rfl).trans ?_
  refine (R_op (v := .int .i64 A) (h' := h0) rfl rfl (by simp [aexec, AArg.ev, tg_putD, h1, h2, ]) rfl).trans ?_
  refine (R_op (v := .string s) (h' := h0) rfl rfl (by simp [aexec, AArg.ev, tg_putD, h1, h2, ]) rfl).trans ?_
  refine (R_op (v := .int .i64 A) (h' := h0) rfl rfl (by simp [aexec, AArg.ev, tg_putD, h1, h2, ]) rfl).trans ?_
  refine (R_op (v := .string s) (h' := h0) rfl rfl (by simp [aexec, AArg.ev, tg_putD, h1, h2, ]) rfl).trans ?_
  refine R_nil.trans ?_
  refine R_seq.trans ?_
  refine R_ops.trans ?_
  refine (R_op (v := .slice (some a) n c) (h' := h0) rfl rfl (by simp [aexec, AArg.ev, tg_putD, h1, h2, ]) rfl).trans ?_
  refine (R_op (v := .int .i64 i) (h' := h0) rfl rfl (by simp [aexec, AArg.ev, tg_putD, h1, h2, ]) rfl).trans ?_
  refine (R_op (v := .pointer (some (adda a i))) (h' := h0) rfl rfl (by simp [aexec, AArg.ev, tg_putD, h1, h2, asI, hlt]) rfl).trans ?_
  refine (R_op (v := .int .i64 x) (h' := h0) rfl rfl (by simp [aexec, AArg.ev, tg_putD, h1, h2, ptrOf, read1, adda, hs, hx, Cx]) rfl).trans ?_
  refine (R_call (v := .tuple ⟨[.int .i64 A, .string s]⟩) (h' := h0) rfl rfl (f := 6) (args := [.int .i64 x]) (by simp [target, okArgs, AArg.ev, tg_putD, isUnd]) hst6).trans ?_
  refine (R_op (v := .tuple ⟨[.int .i64 A, .string s]⟩) (h' := h0) rfl rfl (by simp [aexec, AArg.ev, tg_putD, h1, h2, ]) rfl).trans ?_
  refine (R_op (v := .int .i64 A) (h' := h0) rfl rfl (by simp [aexec, AArg.ev, tg_putD, h1, h2, ]) rfl).trans ?_
  refine (R_op (v := .string s) (h' := h0) rfl rfl (by simp [aexec, AArg.ev, tg_putD, h1, h2, ]) rfl).trans ?_
  refine (R_op (v := .int .i64 A) (h' := h0) rfl rfl (by simp [aexec, AArg.ev, tg_putD, h1, h2, ]) rfl).trans ?_
  refine (R_op (v := .string s) (h' := h0) rfl rfl (by simp [aexec, AArg.ev, tg_putD, h1, h2, ]) rfl).trans ?_
  refine R_nil.trans ?_
  exact round1b old Z a n c i (by omega) A s K _ (by simp [tg_putD, h1]) (by simp [tg_putD, h2]) (by simp [tg_putD]) (by simp [tg_putD]) (by simp [tg_putD]) (by simp [tg_putD]) hZ

theorem round2a (i : Nat) (hlt : i < 300) (K : List AItem) (t : List Value) (h1 : True) (h2 : tg t 8 = .int .i64 i)
    (hZ : ∀ t', True → tg t' 8 = .int .i64 (i + 1 : Nat) → R (Cx old) r3 K t' [] h0 = Z) :
    R (Cx old) r3 (.code lp3_0 :: K) t [] h0 = Z := by
  have hx : ∃ x : Int, x = i := ⟨_, rfl⟩
  obtain ⟨x, hx⟩ := hx
  obtain ⟨A, s, hst⟩ := status old x
  have hst6 := (D6 old [.int .i64 x] h0).trans ((D5 old _ _).symm.trans hst)
  have hlt' : (i : Int) < 300 := by omega
  rw [← hx] at h2
  have hlt2 : x < 300 := by omega
  refine R_seq.trans ?_
  refine R_seq.trans ?_
  refine R_ops.trans ?_
  refine (R_op (v := .int .i64 x) (h' := h0) rfl rfl (by simp [aexec, AArg.ev, tg_putD, h1, h2, ]) rfl).trans ?_
  refine (R_op (v := .bool true) (h' := h0) rfl rfl (by simp [aexec, AArg.ev, tg_putD, h1, h2, abin, abinI, hlt2]) rfl).trans ?_
  refine R_nil.trans ?_
  refine (R_if (p := true) (by simp [AArg.ev, tg_putD])).trans ?_
  refine (if_pos rfl).trans ?_
  refine R_skip.trans ?_
  refine R_seq.trans ?_
  refine R_block.trans ?_
  refine R_seq.trans ?_
  refine R_ops.trans ?_
  refine (R_op (v := .int .i64 x) (h' := h0) rfl rfl (by simp [aexec, AArg.ev, tg_putD, h1, h2, ]) rfl).trans ?_
  refine (R_call (v := .tuple ⟨[.int .i64 A, .string s]⟩) (h' := h0) rfl rfl (f := 5) (args := [.int .i64 x]) (by simp [target, okArgs, AArg.ev, tg_putD, isUnd]) hst).trans ?_
  refine (R_op (v := .tuple ⟨[.int .i64 A, .string s]⟩) (h' := h0) rfl rfl (by simp [aexec, AArg.ev, tg_putD, h1, h2, ]) rfl).trans ?_
  refine (R_op (v := .int .i64 A) (h' := h0) rfl rfl (by simp [aexec, AArg.ev, tg_putD, h1, h2, ]) rfl).trans ?_
  refine (R_op (v := .string s) (h' := h0) rfl rfl (by simp [aexec, AArg.ev, tg_putD, h1, h2, ]) rfl).trans ?_
  refine (R_op (v := .int .i64 A) (h' := h0) rfl rfl (by simp [aexec, AArg.ev, tg_putD, h1, h2, ]) rfl).trans ?_
  refine (R_op (v := .string s) (h' := h0) rfl rfl (by simp [aexec, AArg.ev, tg_putD, h1, h2, ]) rfl).trans ?_
  refine R_nil.trans ?_
  refine R_seq.trans ?_
  refine R_ops.trans ?_
  refine (R_op (v := .int .i64 x) (h' := h0) rfl rfl (by simp [aexec, AArg.ev, tg_putD, h1, h2, ]) rfl).trans ?_
  refine (R_call (v := .tuple ⟨[.int .i64 A, .string s]⟩) (h' := h0) rfl rfl (f := 6) (args := [.int .i64 x]) (by simp [target, okArgs, AArg.ev, tg_putD, isUnd]) hst6).trans ?_
  refine (R_op (v := .tuple ⟨[.int .i64 A, .string s]⟩) (h' := h0) rfl rfl (by simp [aexec, AArg.ev, tg_putD, h1, h2, ]) rfl).trans ?_
  refine (R_op (v := .int .i64 A) (h' := h0) rfl rfl (by simp [aexec, AArg.ev, tg_putD, h1, h2, ]) rfl).trans ?_
  refine (R_op (v := .string s) (h' := h0) rfl rfl (by simp [aexec, AArg.ev, tg_putD, h1, h2, ]) rfl).trans ?_
  refine (R_op (v := .int .i64 A) (h' := h0) rfl rfl (by simp [aexec, AArg.ev, tg_putD, h1, h2, ]) rfl).trans ?_
  refine (R_op (v := .string s) (h' := h0) rfl rfl (by simp [aexec, AArg.ev, tg_putD, h1, h2, ]) rfl).trans ?_
  refine R_nil.trans ?_
  exact round2b old Z i (by omega) A s K _ trivial (by simp [tg_putD, h2, hx]) (by simp [tg_putD]) (by simp [tg_putD]) (by simp [tg_putD]) (by simp [tg_putD]) hZ

theorem loop1 (ho : ∀ i, i < n → ∃ x, old a.block (a.off + i) = some (.int .i64 x)) (hs : n ≠ 0 → a.spot = none) (hn : n < 2 ^ 63)
    (hZ : ∀ t, R (Cx old) r3 [.code rest1] t [] h0 = Z) : ∀ (k i : Nat) (t : List Value), i + k = n → tg t 0 = .slice (some a) n c → tg t 3 = .int .i64 i →
    R (Cx old) r3 [.code lp3_1, .inLoop lp3_1, .inBlock 0, .code rest1] t [] h0 = Z := by
  intro k
  induction k with
  | zero =>
    intro i t hi h1 h2
    have hni : ¬ i < n := by omega
    refine R_seq.trans ?_
    refine R_seq.trans ?_
    refine R_ops.trans ?_
    refine (R_op (v := .int .i64 i) (h' := h0) rfl rfl (by simp [aexec, AArg.ev, tg_putD, h1, h2, ]) rfl).trans ?_
    refine (R_op (v := .slice (some a) n c) (h' := h0) rfl rfl (by simp [aexec, AArg.ev, tg_putD, h1, h2, ]) rfl).trans ?_
    refine (R_op (v := .int .i64 n) (h' := h0) rfl rfl (by simp [aexec, AArg.ev, tg_putD, h1, h2, ]) rfl).trans ?_
    refine (R_op (v := .bool false) (h' := h0) rfl rfl (by simp [aexec, AArg.ev, tg_putD, h1, h2, abin, abinI, hni]) rfl).trans ?_
    refine R_nil.trans ?_
    refine (R_if (p := false) (by simp [AArg.ev, tg_putD])).trans ?_
    refine (if_neg (by simp)).trans ?_
    exact R_exit.trans (hZ _)
  | succ k ih =>
    intro i t hi h1 h2
    exact round1a old Z a n c ho (hs (by omega)) i (by omega) hn _ t h1 h2 fun t' g1 g2 => R_inLoop.trans (ih (i + 1) t' (by omega) g1 g2)
theorem loopNil (hZ : ∀ t, R (Cx old) r3 [.code rest1] t [] h0 = Z) (t : List Value) (h1 : tg t 0 = .slice none 0 0) (h2 : tg t 3 = .int .i64 0) :
    R (Cx old) r3 [.code lp3_1, .inLoop lp3_1, .inBlock 0, .code rest1] t [] h0 = Z := by
  refine R_seq.trans ?_
  refine R_seq.trans ?_
  refine R_ops.trans ?_
  refine (R_op (v := .int .i64 0) (h' := h0) rfl rfl (by simp [aexec, AArg.ev, tg_putD, h1, h2, ]) rfl).trans ?_
  refine (R_op (v := .slice none 0 0) (h' := h0) rfl rfl (by simp [aexec, AArg.ev, tg_putD, h1, h2, ]) rfl).trans ?_
  refine (R_op (v := .int .i64 0) (h' := h0) rfl rfl (by simp [aexec, AArg.ev, tg_putD, h1, h2, ]) rfl).trans ?_
  refine (R_op (v := .bool false) (h' := h0) rfl rfl (by simp [aexec, AArg.ev, tg_putD, h1, h2, abin, abinI]) rfl).trans ?_
  refine R_nil.trans ?_
  refine (R_if (p := false) (by simp [AArg.ev, tg_putD])).trans ?_
  refine (if_neg (by simp)).trans ?_
  exact R_exit.trans (hZ _)
theorem loop2 (hZ : ∀ t, R (Cx old) r3 [.code rest2] t [] h0 = Z) : ∀ (k i : Nat) (t : List Value), i + k = 300 → tg t 8 = .int .i64 i →
    R (Cx old) r3 [.code lp3_0, .inLoop lp3_0, .inBlock 2, .code rest2] t [] h0 = Z := by
  intro k
  induction k with
  | zero =>
    intro i t hi h2
    have hi' : i = 300 := by omega
    subst hi'
    have h1 : True := trivial
    refine R_seq.trans ?_
    refine R_seq.trans ?_
    refine R_ops.trans ?_
    refine (R_op (v := .int .i64 300) (h' := h0) rfl rfl (by simp [aexec, AArg.ev, tg_putD, h1, h2, ]) rfl).trans ?_
    refine (R_op (v := .bool false) (h' := h0) rfl rfl (by simp [aexec, AArg.ev, tg_putD, h1, h2, abin, abinI]) rfl).trans ?_
    refine R_nil.trans ?_
    refine (R_if (p := false) (by simp [AArg.ev, tg_putD])).trans ?_
    refine (if_neg (by simp)).trans ?_
    exact R_exit.trans (hZ _)
  | succ k ih =>
    intro i t hi h2
    exact round2a old Z i (by omega) _ t trivial h2 fun t' _ g2 => R_inLoop.trans (ih (i + 1) t' (by omega) g2)
end
end Go.Proofs.YtbcadgoemkjbeaaDoor.ws
