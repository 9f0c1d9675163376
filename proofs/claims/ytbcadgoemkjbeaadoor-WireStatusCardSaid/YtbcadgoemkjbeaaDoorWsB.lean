/-
  wire.Status and the document's Status are the same code and answer at every number; no condition.
-/
import Derived.Test.YtbcadgoemkjbeaaDoorWsA
import Derived.Test.YtbcadgoemkjbeaaDoorAbC

set_option linter.unusedSimpArgs false
set_option linter.unusedVariables false
set_option linter.unusedSectionVars false

namespace Go.Proofs.YtbcadgoemkjbeaaDoor.ws
open Go Go.Ab
def b3 : ACode := (.seq (.ops [
    ⟨(some 2), none, .move (.cst (.bool false)), []⟩])
  (.seq (.seq (.ops [
    ⟨(some 3), none, .move (.cst (.int .i64 0)), []⟩])
  (.block 0 (.loop (.seq (.seq (.ops [
      ⟨(some 13), none, .move (.tmp 3), []⟩,
      ⟨(some 14), none, .move (.tmp 0), []⟩,
      ⟨(some 15), none, .len (.tmp 14), []⟩,
      ⟨(some 16), none, .bin .lss (.tmp 13) (.tmp 15), []⟩])
    (.cond (.tmp 16)
     .skip
     (.exit 0)))
    (.seq (.block 1 (.seq (.ops [
       ⟨(some 20), none, .move (.tmp 0), []⟩,
       ⟨(some 21), none, .move (.tmp 3), []⟩,
       ⟨(some 22), none, .idxAddrSl 1 (.tmp 20) (.tmp 21), []⟩,
       ⟨(some 23), none, .load1 (.tmp 22), []⟩,
       ⟨(some 24), none, .call 5 [(.tmp 23)], []⟩,
       ⟨(some 19), none, .move (.tmp 24), []⟩,
       ⟨(some 25), none, .extract 0 (.tmp 19), []⟩,
       ⟨(some 26), none, .extract 1 (.tmp 19), []⟩,
       ⟨(some 4), none, .move (.tmp 25), []⟩,
       ⟨(some 5), none, .move (.tmp 26), []⟩])
     (.seq (.ops [
       ⟨(some 28), none, .move (.tmp 0), []⟩,
       ⟨(some 29), none, .move (.tmp 3), []⟩,
       ⟨(some 30), none, .idxAddrSl 1 (.tmp 28) (.tmp 29), []⟩,
       ⟨(some 31), none, .load1 (.tmp 30), []⟩,
       ⟨(some 32), none, .call 6 [(.tmp 31)], []⟩,
       ⟨(some 27), none, .move (.tmp 32), []⟩,
       ⟨(some 33), none, .extract 0 (.tmp 27), []⟩,
       ⟨(some 34), none, .extract 1 (.tmp 27), []⟩,
       ⟨(some 6), none, .move (.tmp 33), []⟩,
       ⟨(some 7), none, .move (.tmp 34), []⟩])
     (.seq (.ops [
       ⟨(some 35), none, .move (.tmp 4), []⟩,
       ⟨(some 36), none, .move (.tmp 6), []⟩,
       ⟨(some 37), none, .bin .neq (.tmp 35) (.tmp 36), []⟩,
       ⟨(some 38), none, .move (.tmp 37), []⟩,
       ⟨(some 39), (some (38, false)), .move (.tmp 5), []⟩,
       ⟨(some 40), (some (38, false)), .move (.tmp 7), []⟩,
       ⟨(some 41), (some (38, false)), .bin .neq (.tmp 39) (.tmp 40), []⟩,
       ⟨(some 42), none, .pick (.tmp 38) (.cst (.bool true)) (.tmp 41), []⟩])
     (.cond (.tmp 42)
      (.seq (.ops [
        ⟨(some 2), none, .move (.cst (.bool false)), []⟩])
      .ret)
      .skip)))))
    (.ops [
      ⟨(some 17), none, .move (.tmp 3), []⟩,
      ⟨(some 18), none, .bin .add (.tmp 17) (.cst (.int .i64 1)), []⟩,
      ⟨(some 3), none, .move (.tmp 18), []⟩]))))))
  (.seq (.seq (.ops [
    ⟨(some 8), none, .move (.cst (.int .i64 0)), []⟩])
  (.block 2 (.loop (.seq (.seq (.ops [
      ⟨(some 43), none, .move (.tmp 8), []⟩,
      ⟨(some 44), none, .bin .lss (.tmp 43) (.cst (.int .i64 300)), []⟩])
    (.cond (.tmp 44)
     .skip
     (.exit 2)))
    (.seq (.block 3 (.seq (.ops [
       ⟨(some 48), none, .move (.tmp 8), []⟩,
       ⟨(some 49), none, .call 5 [(.tmp 48)], []⟩,
       ⟨(some 47), none, .move (.tmp 49), []⟩,
       ⟨(some 50), none, .extract 0 (.tmp 47), []⟩,
       ⟨(some 51), none, .extract 1 (.tmp 47), []⟩,
       ⟨(some 9), none, .move (.tmp 50), []⟩,
       ⟨(some 10), none, .move (.tmp 51), []⟩])
     (.seq (.ops [
       ⟨(some 53), none, .move (.tmp 8), []⟩,
       ⟨(some 54), none, .call 6 [(.tmp 53)], []⟩,
       ⟨(some 52), none, .move (.tmp 54), []⟩,
       ⟨(some 55), none, .extract 0 (.tmp 52), []⟩,
       ⟨(some 56), none, .extract 1 (.tmp 52), []⟩,
       ⟨(some 11), none, .move (.tmp 55), []⟩,
       ⟨(some 12), none, .move (.tmp 56), []⟩])
     (.seq (.ops [
       ⟨(some 57), none, .move (.tmp 9), []⟩,
       ⟨(some 58), none, .move (.tmp 11), []⟩,
       ⟨(some 59), none, .bin .neq (.tmp 57) (.tmp 58), []⟩,
       ⟨(some 60), none, .move (.tmp 59), []⟩,
       ⟨(some 61), (some (60, false)), .move (.tmp 10), []⟩,
       ⟨(some 62), (some (60, false)), .move (.tmp 12), []⟩,
       ⟨(some 63), (some (60, false)), .bin .neq (.tmp 61) (.tmp 62), []⟩,
       ⟨(some 64), none, .pick (.tmp 60) (.cst (.bool true)) (.tmp 63), []⟩])
     (.cond (.tmp 64)
      (.seq (.ops [
        ⟨(some 2), none, .move (.cst (.bool false)), []⟩])
      .ret)
      .skip)))))
    (.ops [
      ⟨(some 45), none, .move (.tmp 8), []⟩,
      ⟨(some 46), none, .bin .add (.tmp 45) (.cst (.int .i64 1)), []⟩,
      ⟨(some 8), none, .move (.tmp 46), []⟩]))))))
  (.seq (.ops [
    ⟨(some 65), none, .call 7 [], []⟩,
    ⟨(some 2), none, .move (.tmp 65), []⟩])
  .ret))))
def r3 : List ARes := [.tmp 2]
def b5 : ACode := (.seq (.ops [
    ⟨(some 2), none, .move (.cst (.int .i64 0)), []⟩,
    ⟨(some 3), none, .move (.cst (.string ⟨⟨[]⟩⟩)), []⟩])
  (.seq (.seq (.ops [
    ⟨(some 4), none, .move (.tmp 0), []⟩])
  (.block 0 (.seq (.ops [
     ⟨(some 6), none, .bin .eql (.tmp 4) (.cst (.int .i64 0)), []⟩,
     ⟨(some 5), none, .move (.tmp 6), []⟩])
   (.cond (.tmp 5)
    (.seq (.ops [
      ⟨(some 2), none, .move (.cst (.int .i64 200)), []⟩,
      ⟨(some 3), none, .move (.cst (.string ⟨⟨[]⟩⟩)), []⟩])
    .ret)
    (.seq (.seq (.ops [
      ⟨(some 8), none, .bin .eql (.tmp 4) (.cst (.int .i64 190)), []⟩,
      ⟨(some 7), none, .move (.tmp 8), []⟩])
    (.cond (.tmp 7)
     .skip
     (.seq (.ops [
       ⟨(some 9), none, .bin .eql (.tmp 4) (.cst (.int .i64 191)), []⟩,
       ⟨(some 7), none, .move (.tmp 9), []⟩])
     (.cond (.tmp 7)
      .skip
      (.seq (.ops [
        ⟨(some 10), none, .bin .eql (.tmp 4) (.cst (.int .i64 171)), []⟩,
        ⟨(some 7), none, .move (.tmp 10), []⟩])
      (.cond (.tmp 7)
       .skip
       (.seq (.ops [
         ⟨(some 11), none, .bin .eql (.tmp 4) (.cst (.int .i64 172)), []⟩,
         ⟨(some 7), none, .move (.tmp 11), []⟩])
       (.cond (.tmp 7)
        .skip
        (.seq (.ops [
          ⟨(some 12), none, .bin .eql (.tmp 4) (.cst (.int .i64 180)), []⟩,
          ⟨(some 7), none, .move (.tmp 12), []⟩])
        (.cond (.tmp 7)
         .skip
         (.ops [
           ⟨(some 13), none, .bin .eql (.tmp 4) (.cst (.int .i64 183)), []⟩,
           ⟨(some 7), none, .move (.tmp 13), []⟩])))))))))))
    (.cond (.tmp 7)
     (.seq (.ops [
       ⟨(some 2), none, .move (.cst (.int .i64 400)), []⟩,
       ⟨(some 3), none, .move (.cst (.string ⟨⟨[105, 110, 118, 97, 108, 105, 100, 95, 114, 101, 113, 117, 101, 115, 116]⟩⟩)), []⟩])
     .ret)
     (.seq (.seq (.ops [
       ⟨(some 15), none, .bin .eql (.tmp 4) (.cst (.int .i64 181)), []⟩,
       ⟨(some 14), none, .move (.tmp 15), []⟩])
     (.cond (.tmp 14)
      .skip
      (.ops [
        ⟨(some 16), none, .bin .eql (.tmp 4) (.cst (.int .i64 61)), []⟩,
        ⟨(some 14), none, .move (.tmp 16), []⟩])))
     (.cond (.tmp 14)
      (.seq (.ops [
        ⟨(some 2), none, .move (.cst (.int .i64 400)), []⟩,
        ⟨(some 3), none, .move (.cst (.string ⟨⟨[105, 110, 118, 97, 108, 105, 100, 95, 115, 99, 111, 112, 101]⟩⟩)), []⟩])
      .ret)
      (.seq (.ops [
        ⟨(some 18), none, .bin .eql (.tmp 4) (.cst (.int .i64 185)), []⟩,
        ⟨(some 17), none, .move (.tmp 18), []⟩])
      (.cond (.tmp 17)
       (.seq (.ops [
         ⟨(some 2), none, .move (.cst (.int .i64 400)), []⟩,
         ⟨(some 3), none, .move (.cst (.string ⟨⟨[105, 110, 118, 97, 108, 105, 100, 95, 103, 114, 97, 110, 116]⟩⟩)), []⟩])
       .ret)
       (.seq (.ops [
         ⟨(some 20), none, .bin .eql (.tmp 4) (.cst (.int .i64 179)), []⟩,
         ⟨(some 19), none, .move (.tmp 20), []⟩])
       (.cond (.tmp 19)
        (.seq (.ops [
          ⟨(some 2), none, .move (.cst (.int .i64 400)), []⟩,
          ⟨(some 3), none, .move (.cst (.string ⟨⟨[117, 110, 97, 117, 116, 104, 111, 114, 105, 122, 101, 100, 95, 99, 108, 105, 101, 110, 116]⟩⟩)), []⟩])
        .ret)
        (.seq (.seq (.ops [
          ⟨(some 22), none, .bin .eql (.tmp 4) (.cst (.int .i64 192)), []⟩,
          ⟨(some 21), none, .move (.tmp 22), []⟩])
        (.cond (.tmp 21)
         .skip
         (.ops [
           ⟨(some 23), none, .bin .eql (.tmp 4) (.cst (.int .i64 184)), []⟩,
           ⟨(some 21), none, .move (.tmp 23), []⟩])))
        (.cond (.tmp 21)
         (.seq (.ops [
           ⟨(some 2), none, .move (.cst (.int .i64 401)), []⟩,
           ⟨(some 3), none, .move (.cst (.string ⟨⟨[105, 110, 118, 97, 108, 105, 100, 95, 99, 108, 105, 101, 110, 116]⟩⟩)), []⟩])
         .ret)
         (.seq (.ops [
           ⟨(some 25), none, .bin .eql (.tmp 4) (.cst (.int .i64 176)), []⟩,
           ⟨(some 24), none, .move (.tmp 25), []⟩])
         (.cond (.tmp 24)
          (.seq (.ops [
            ⟨(some 2), none, .move (.cst (.int .i64 401)), []⟩,
            ⟨(some 3), none, .move (.cst (.string ⟨⟨[97, 99, 99, 101, 115, 115, 95, 100, 101, 110, 105, 101, 100]⟩⟩)), []⟩])
          .ret)
          (.seq (.ops [
            ⟨(some 27), none, .bin .eql (.tmp 4) (.cst (.int .i64 178)), []⟩,
            ⟨(some 26), none, .move (.tmp 27), []⟩])
          (.cond (.tmp 26)
           (.seq (.ops [
             ⟨(some 2), none, .move (.cst (.int .i64 401)), []⟩,
             ⟨(some 3), none, .move (.cst (.string ⟨⟨[108, 111, 103, 105, 110, 95, 114, 101, 113, 117, 105, 114, 101, 100]⟩⟩)), []⟩])
           .ret)
           (.seq (.ops [
             ⟨(some 29), none, .bin .eql (.tmp 4) (.cst (.int .i64 182)), []⟩,
             ⟨(some 28), none, .move (.tmp 29), []⟩])
           (.cond (.tmp 28)
            (.seq (.ops [
              ⟨(some 2), none, .move (.cst (.int .i64 403)), []⟩,
              ⟨(some 3), none, .move (.cst (.string ⟨⟨[99, 111, 110, 115, 101, 110, 116, 95, 114, 101, 113, 117, 105, 114, 101, 100]⟩⟩)), []⟩])
            .ret)
            (.seq (.ops [
              ⟨(some 31), none, .bin .eql (.tmp 4) (.cst (.int .i64 177)), []⟩,
              ⟨(some 30), none, .move (.tmp 31), []⟩])
            (.cond (.tmp 30)
             (.seq (.ops [
               ⟨(some 2), none, .move (.cst (.int .i64 429)), []⟩,
               ⟨(some 3), none, .move (.cst (.string ⟨⟨[116, 101, 109, 112, 111, 114, 97, 114, 105, 108, 121, 95, 117, 110, 97, 118, 97, 105, 108, 97, 98, 108, 101]⟩⟩)), []⟩])
             .ret)
             (.seq (.seq (.ops [
               ⟨(some 33), none, .bin .eql (.tmp 4) (.cst (.int .i64 173)), []⟩,
               ⟨(some 32), none, .move (.tmp 33), []⟩])
             (.cond (.tmp 32)
              .skip
              (.seq (.ops [
                ⟨(some 34), none, .bin .eql (.tmp 4) (.cst (.int .i64 174)), []⟩,
                ⟨(some 32), none, .move (.tmp 34), []⟩])
              (.cond (.tmp 32)
               .skip
               (.seq (.ops [
                 ⟨(some 35), none, .bin .eql (.tmp 4) (.cst (.int .i64 175)), []⟩,
                 ⟨(some 32), none, .move (.tmp 35), []⟩])
               (.cond (.tmp 32)
                .skip
                (.ops [
                  ⟨(some 36), none, .bin .eql (.tmp 4) (.cst (.int .i64 186)), []⟩,
                  ⟨(some 32), none, .move (.tmp 36), []⟩])))))))
             (.cond (.tmp 32)
              (.seq (.ops [
                ⟨(some 2), none, .move (.cst (.int .i64 503)), []⟩,
                ⟨(some 3), none, .move (.cst (.string ⟨⟨[116, 101, 109, 112, 111, 114, 97, 114, 105, 108, 121, 95, 117, 110, 97, 118, 97, 105, 108, 97, 98, 108, 101]⟩⟩)), []⟩])
              .ret)
              .skip))))))))))))))))))))))))
  (.seq (.ops [
    ⟨(some 2), none, .move (.cst (.int .i64 500)), []⟩,
    ⟨(some 3), none, .move (.cst (.string ⟨⟨[115, 101, 114, 118, 101, 114, 95, 101, 114, 114, 111, 114]⟩⟩)), []⟩])
  .ret)))
def r5 : List ARes := [.tmp 2, .tmp 3]
theorem a5_eq : a5 = { body := b5, res := r5, mode := 0 } := by kernel_rfl
theorem a6_eq : a6 = { body := b5, res := r5, mode := 0 } := by kernel_rfl
theorem a3_eq : a3 = { body := b3, res := r3, mode := 0 } := by kernel_rfl
theorem T5 (old : Old) : (Cx old).T 5 = some (.fn a5) := by kernel_rfl
theorem T6 (old : Old) : (Cx old).T 6 = some (.fn a6) := by kernel_rfl
theorem T3 (old : Old) : (Cx old).T 3 = some (.fn a3) := by kernel_rfl

theorem D5 (old : Old) (args : List Value) (h : AHeap) : D (Cx old) 5 args h = R (Cx old) r5 [.code b5] args [] h := D_fn (by rw [T5, a5_eq]) args
theorem D6 (old : Old) (args : List Value) (h : AHeap) : D (Cx old) 6 args h = R (Cx old) r5 [.code b5] args [] h := D_fn (by rw [T6, a6_eq]) args

def okS : Res → Bool
  | some (.tuple ⟨[.int .i64 _, .string _]⟩, ⟨[], 0⟩) => true
  | _ => false
theorem okS_spec {r : Res} (h : okS r = true) : ∃ a s, r = some (.tuple ⟨[.int .i64 a, .string s]⟩, ⟨[], 0⟩) := by
  unfold okS at h
  split at h
  · exact ⟨_, _, rfl⟩
  · cases h
theorem statusNeg (old : Old) (n : Nat) : okS (doCall (Cx old) (run (Cx old) 2) 5 [.int .i64 (.negSucc n)] ⟨[], 0⟩) = true := by kernel_rfl
theorem statusBig (old : Old) (n : Nat) : okS (doCall (Cx old) (run (Cx old) 2) 5 [.int .i64 (.ofNat (n + 193))] ⟨[], 0⟩) = true := by kernel_rfl
theorem statusSmall (old : Old) : ((List.range 193).all fun n => okS (doCall (Cx old) (run (Cx old) 2) 5 [.int .i64 (.ofNat n)] ⟨[], 0⟩)) = true := by kernel_rfl
theorem status (old : Old) (e : Int) : ∃ a s, D (Cx old) 5 [.int .i64 e] ⟨[], 0⟩ = some (.tuple ⟨[.int .i64 a, .string s]⟩, ⟨[], 0⟩) := by
  have key : okS (doCall (Cx old) (run (Cx old) 2) 5 [.int .i64 e] ⟨[], 0⟩) = true := by
    cases e with
    | negSucc n => exact statusNeg old n
    | ofNat n =>
      rcases Nat.lt_or_ge n 193 with h | h
      · exact (List.all_eq_true.1 (statusSmall old)) n (List.mem_range.2 h)
      · obtain ⟨k, rfl⟩ := Nat.exists_eq_add_of_le' h
        exact statusBig old k
  obtain ⟨a, s, hs⟩ := okS_spec key
  exact ⟨a, s, D_of_run hs⟩
end Go.Proofs.YtbcadgoemkjbeaaDoor.ws
