/-
  The program's functions that this statement reaches, as the abstract machine's code; no condition.
-/
import Derived.Test.YtecbgdnoblhldaaGreatDoorAbD

set_option linter.unusedSimpArgs false
set_option linter.unusedVariables false
set_option linter.unusedSectionVars false

namespace Go.Ab.Aud
def b74 : ACode := (.ops [
 ⟨(some 2), none, .move (.tmp 0), []⟩,
 ⟨(some 3), none, .nilCheck (.tmp 2), []⟩,
 ⟨(some 4), none, .fieldAddr 0 (.tmp 3), []⟩,
 ⟨(some 5), none, .call 112 [(.tmp 4)], []⟩])
def r74 : List ARes := []
def a74 : AFn := ⟨b74, r74, 0⟩
def b75 : ACode := (.ops [
 ⟨(some 2), none, .move (.tmp 0), []⟩,
 ⟨(some 3), none, .nilCheck (.tmp 2), []⟩,
 ⟨(some 4), none, .fieldAddr 0 (.tmp 3), []⟩,
 ⟨(some 5), none, .call 113 [(.tmp 4)], []⟩])
def r75 : List ARes := []
def a75 : AFn := ⟨b75, r75, 0⟩
def b112 : ACode := (.seq (.ops [
 ⟨(some 2), none, .call 184 [], []⟩])
 (.seq (.seq (.ops [
 ⟨(some 3), none, .move (.tmp 0), []⟩,
 ⟨(some 4), none, .nilCheck (.tmp 3), []⟩,
 ⟨(some 5), none, .fieldAddr 0 (.tmp 4), []⟩,
 ⟨(some 6), none, .call 185 [(.tmp 5), (.cst (.int .i32 0)), (.cst (.int .i32 1))], []⟩])
 (.cond (.tmp 6)
 (.seq (.cond (.cst (.bool true))
 (.seq (.ops [
 ⟨(some 7), none, .call 186 [], []⟩])
 (.ops [
 ⟨(some 8), none, .move (.tmp 0), []⟩,
 ⟨(some 9), none, .toUnsafe (.tmp 8), []⟩,
 ⟨(some 10), none, .call 187 [(.tmp 9)], []⟩]))
 .skip)
 .ret)
 .skip))
 (.ops [
 ⟨(some 11), none, .move (.tmp 0), []⟩,
 ⟨(some 12), none, .call 188 [(.tmp 11)], []⟩])))
def r112 : List ARes := []
def a112 : AFn := ⟨b112, r112, 0⟩
def b113 : ACode := (.seq (.cond (.cst (.bool true))
 (.seq (.ops [
 ⟨(some 3), none, .move (.tmp 0), []⟩,
 ⟨(some 4), none, .nilCheck (.tmp 3), []⟩,
 ⟨(some 5), none, .fieldAddr 0 (.tmp 4), []⟩,
 ⟨(some 6), none, .load1 (.tmp 5), []⟩])
 (.seq (.ops [
 ⟨(some 7), none, .move (.tmp 0), []⟩,
 ⟨(some 8), none, .toUnsafe (.tmp 7), []⟩,
 ⟨(some 9), none, .call 189 [(.tmp 8)], []⟩])
 (.ops [
 ⟨(some 10), none, .call 184 [], []⟩])))
 .skip)
 (.seq (.ops [
 ⟨(some 11), none, .move (.tmp 0), []⟩,
 ⟨(some 12), none, .nilCheck (.tmp 11), []⟩,
 ⟨(some 13), none, .fieldAddr 0 (.tmp 12), []⟩,
 ⟨(some 14), none, .call 190 [(.tmp 13), (.cst (.int .i32 (-1)))], []⟩,
 ⟨(some 2), none, .move (.tmp 14), []⟩])
 (.seq (.seq (.ops [
 ⟨(some 15), none, .move (.tmp 2), []⟩,
 ⟨(some 16), none, .bin .neq (.tmp 15) (.cst (.int .i32 0)), []⟩])
 (.cond (.tmp 16)
 (.ops [
 ⟨(some 17), none, .move (.tmp 0), []⟩,
 ⟨(some 18), none, .move (.tmp 2), []⟩,
 ⟨(some 19), none, .call 191 [(.tmp 17), (.tmp 18)], []⟩])
 .skip))
 (.ops [
 ⟨(some 20), none, .call 186 [], []⟩]))))
def r113 : List ARes := []
def a113 : AFn := ⟨b113, r113, 0⟩
def lp84_0 : ACode := (.seq (.ops [
 ⟨(some 27), none, .bin .lss (.tmp 26) (.tmp 25), []⟩])
 (.seq (.cond (.tmp 27)
 .skip
 (.exit 0))
 (.seq (.block 1 (.seq (.ops [
 ⟨(some 28), none, .idxAddrSl 2 (.tmp 24) (.tmp 26), []⟩,
 ⟨(some 29), none, .loadN 2 (.tmp 28), []⟩,
 ⟨(some 8), none, .box 224 (.cst (.agg ⟨[(.string ⟨⟨[]⟩⟩), (.slice none 0 0)]⟩)), []⟩,
 ⟨none, none, .storeN 2 (.tmp 8) (.tmp 29), []⟩])
 (.seq (.seq (.draw [
 ⟨(some 31), none, .move (.tmp 6), []⟩,
 ⟨(some 32), none, .nilCheck (.tmp 31), []⟩,
 ⟨(some 33), none, .fieldAddr 4 (.tmp 32), []⟩,
 ⟨(some 34), none, .load1 (.tmp 33), []⟩,
 ⟨(some 35), none, .fieldAddr 0 (.tmp 8), []⟩,
 ⟨(some 36), none, .load1 (.tmp 35), []⟩,
 ⟨(some 37), none, .lookup .s (.slice none 0 0) true (.tmp 34) (.tmp 36), []⟩,
 ⟨(some 30), none, .move (.tmp 37), []⟩,
 ⟨(some 38), none, .extract 0 (.tmp 30), []⟩,
 ⟨(some 39), none, .extract 1 (.tmp 30), []⟩,
 ⟨(some 9), none, .move (.tmp 38), []⟩,
 ⟨(some 10), none, .move (.tmp 39), []⟩])
 (.seq (.draw [
 ⟨(some 40), none, .move (.tmp 10), []⟩,
 ⟨(some 41), none, .move (.tmp 40), []⟩,
 ⟨(some 42), (some (41, false)), .fieldAddr 0 (.tmp 8), []⟩,
 ⟨(some 43), (some (41, false)), .load1 (.tmp 42), []⟩,
 ⟨(some 44), (some (41, false)), .call 147 [(.tmp 43)], []⟩,
 ⟨(some 45), (some (41, false)), .un .not (.tmp 44), []⟩,
 ⟨(some 46), none, .pick (.tmp 41) (.cst (.bool true)) (.tmp 45), []⟩,
 ⟨(some 47), none, .move (.tmp 46), []⟩,
 ⟨(some 48), (some (47, false)), .fieldAddr 1 (.tmp 8), []⟩,
 ⟨(some 49), (some (47, false)), .load1 (.tmp 48), []⟩,
 ⟨(some 50), (some (47, false)), .len (.tmp 49), []⟩,
 ⟨(some 51), (some (47, false)), .move (.tmp 6), []⟩,
 ⟨(some 52), (some (47, false)), .nilCheck (.tmp 51), []⟩,
 ⟨(some 53), (some (47, false)), .fieldAddr 2 (.tmp 52), []⟩,
 ⟨(some 54), (some (47, false)), .load1 (.tmp 53), []⟩,
 ⟨(some 55), (some (47, false)), .move (.tmp 6), []⟩,
 ⟨(some 56), (some (47, false)), .nilCheck (.tmp 55), []⟩,
 ⟨(some 57), (some (47, false)), .fieldAddr 3 (.tmp 56), []⟩,
 ⟨(some 58), (some (47, false)), .load1 (.tmp 57), []⟩,
 ⟨(some 59), (some (47, false)), .bin .sub (.tmp 54) (.tmp 58), []⟩,
 ⟨(some 60), (some (47, false)), .bin .gtr (.tmp 50) (.tmp 59), []⟩,
 ⟨(some 61), none, .pick (.tmp 47) (.cst (.bool true)) (.tmp 60), []⟩])
 (.cond (.tmp 61)
 (.seq (.ops [
 ⟨(some 4), none, .move (.cst (.pointer none)), []⟩,
 ⟨(some 5), none, .move (.cst (.int .i64 96)), []⟩])
 .ret)
 .skip)))
 (.seq (.draw [
 ⟨(some 62), none, .move (.tmp 6), []⟩,
 ⟨(some 63), none, .nilCheck (.tmp 62), []⟩,
 ⟨(some 64), none, .fieldAddr 4 (.tmp 63), []⟩,
 ⟨(some 65), none, .load1 (.tmp 64), [9]⟩,
 ⟨(some 66), none, .fieldAddr 0 (.tmp 8), []⟩,
 ⟨(some 67), none, .load1 (.tmp 66), [9]⟩,
 ⟨(some 68), none, .fieldAddr 1 (.tmp 8), []⟩,
 ⟨(some 69), none, .load1 (.tmp 68), []⟩,
 ⟨(some 70), none, .call 115 [(.tmp 69)], []⟩,
 ⟨none, none, .mapUpd .s (.tmp 65) (.tmp 67) (.tmp 70), []⟩])
 (.draw [
 ⟨(some 71), none, .move (.tmp 6), []⟩,
 ⟨(some 72), none, .nilCheck (.tmp 71), []⟩,
 ⟨(some 73), none, .fieldAddr 3 (.tmp 72), []⟩,
 ⟨(some 74), none, .load1 (.tmp 73), []⟩,
 ⟨(some 75), none, .fieldAddr 1 (.tmp 8), []⟩,
 ⟨(some 76), none, .load1 (.tmp 75), []⟩,
 ⟨(some 77), none, .len (.tmp 76), []⟩,
 ⟨(some 78), none, .bin .add (.tmp 74) (.tmp 77), []⟩,
 ⟨(some 79), none, .nilCheck (.tmp 71), []⟩,
 ⟨(some 80), none, .fieldAddr 3 (.tmp 79), []⟩,
 ⟨none, none, .store1 (.tmp 80) (.tmp 78), []⟩])))))
 (.ops [
 ⟨(some 81), none, .bin .add (.tmp 26) (.cst (.int .i64 1)), []⟩,
 ⟨(some 26), none, .move (.tmp 81), []⟩]))))
def k84_0 : ACode := (.seq (.ops [
 ⟨(some 82), none, .move (.tmp 6), []⟩,
 ⟨(some 4), none, .move (.tmp 82), []⟩,
 ⟨(some 5), none, .move (.cst (.int .i64 0)), []⟩])
 .ret)
def b84 : ACode := (.seq (.ops [
 ⟨(some 4), none, .move (.cst (.pointer none)), []⟩,
 ⟨(some 5), none, .move (.cst (.int .i64 0)), []⟩])
 (.seq (.seq (.ops [
 ⟨(some 11), none, .move (.tmp 1), []⟩,
 ⟨(some 12), none, .bin .lss (.tmp 11) (.cst (.int .i64 1)), []⟩,
 ⟨(some 13), none, .move (.tmp 12), []⟩,
 ⟨(some 14), (some (13, false)), .move (.tmp 1), []⟩,
 ⟨(some 15), (some (13, false)), .bin .gtr (.tmp 14) (.cst (.int .i64 268435456)), []⟩,
 ⟨(some 16), none, .pick (.tmp 13) (.cst (.bool true)) (.tmp 15), []⟩])
 (.cond (.tmp 16)
 (.seq (.ops [
 ⟨(some 4), none, .move (.cst (.pointer none)), []⟩,
 ⟨(some 5), none, .move (.cst (.int .i64 90)), []⟩])
 .ret)
 .skip))
 (.seq (.seq (.ops [
 ⟨(some 17), none, .move (.tmp 0), []⟩,
 ⟨(some 18), none, .len (.tmp 17), []⟩,
 ⟨(some 19), none, .bin .gtr (.tmp 18) (.cst (.int .i64 64)), []⟩])
 (.cond (.tmp 19)
 (.seq (.ops [
 ⟨(some 4), none, .move (.cst (.pointer none)), []⟩,
 ⟨(some 5), none, .move (.cst (.int .i64 96)), []⟩])
 .ret)
 .skip))
 (.seq (.ops [
 ⟨(some 20), none, .move (.tmp 1), []⟩,
 ⟨(some 21), none, .mkMap, []⟩,
 ⟨(some 22), none, .build [(.int .i32 0), (.int .u32 0), (.int .i64 0), (.int .i64 0), (.map none), (.int .i64 0), (.int .i64 0), (.bool false), (.int .i64 0)] [(2, 1, (.tmp 20)), (4, 1, (.tmp 21))], []⟩,
 ⟨(some 23), none, .box 188 (.tmp 22), []⟩,
 ⟨(some 6), none, .move (.tmp 23), []⟩])
 (.seq (.seq (.ops [
 ⟨(some 24), none, .move (.tmp 0), []⟩,
 ⟨(some 25), none, .len (.tmp 24), []⟩,
 ⟨(some 26), none, .move (.cst (.int .i64 0)), []⟩])
 (.block 0 (.loop lp84_0)))
 k84_0)))))
def r84 : List ARes := [.tmp 4, .tmp 5]
def a84 : AFn := ⟨b84, r84, 0⟩
def b42 : ACode := (.seq (.ops [
 ⟨(some 2), none, .move (.cst (.pointer none)), []⟩,
 ⟨(some 3), none, .move (.cst (.int .i64 0)), []⟩])
 (.seq (.ops [
 ⟨(some 4), none, .move (.tmp 0), []⟩,
 ⟨(some 5), none, .call 84 [(.cst (.slice none 0 0)), (.tmp 4)], []⟩,
 ⟨(some 6), none, .extract 0 (.tmp 5), []⟩,
 ⟨(some 7), none, .extract 1 (.tmp 5), []⟩,
 ⟨(some 2), none, .move (.tmp 6), []⟩,
 ⟨(some 3), none, .move (.tmp 7), []⟩])
 .ret))
def r42 : List ARes := [.tmp 2, .tmp 3]
def a42 : AFn := ⟨b42, r42, 0⟩
def b148 : ACode := (.seq (.ops [
 ⟨(some 4), none, .move (.cst (.slice none 0 0)), []⟩,
 ⟨(some 5), none, .move (.cst (.int .i64 0)), []⟩])
 (.seq (.ops [
 ⟨(some 7), none, .move (.tmp 0), []⟩,
 ⟨(some 8), none, .nilCheck (.tmp 7), []⟩,
 ⟨(some 9), none, .fieldAddr 0 (.tmp 8), []⟩,
 ⟨(some 10), none, .call 74 [(.tmp 9)], []⟩])
 (.seq (.ops [
 ⟨(some 11), none, .move (.tmp 0), []⟩,
 ⟨(some 12), none, .nilCheck (.tmp 11), []⟩,
 ⟨(some 13), none, .fieldAddr 0 (.tmp 12), []⟩,
 ⟨none, none, .defer (.cst (.func (.func 75) ⟨[]⟩ ⟨[]⟩)) [(.tmp 13)], []⟩])
 (.seq (.seq (.ops [
 ⟨(some 14), none, .move (.tmp 0), []⟩,
 ⟨(some 15), none, .move (.tmp 1), []⟩,
 ⟨(some 16), none, .buildSlice 9 [(.string ⟨⟨[]⟩⟩)] 1 [(0, 1, (.tmp 15))], []⟩,
 ⟨(some 17), none, .call 157 [(.tmp 14), (.cst (.bool true)), (.tmp 16)], []⟩,
 ⟨(some 6), none, .move (.tmp 17), []⟩])
 (.seq (.ops [
 ⟨(some 18), none, .move (.tmp 6), []⟩,
 ⟨(some 19), none, .bin .neq (.tmp 18) (.cst (.int .i64 0)), []⟩])
 (.cond (.tmp 19)
 (.seq (.ops [
 ⟨(some 20), none, .move (.tmp 6), []⟩,
 ⟨(some 4), none, .move (.cst (.slice none 0 0)), []⟩,
 ⟨(some 5), none, .move (.tmp 20), []⟩])
 .ret)
 .skip)))
 (.seq (.ops [
 ⟨(some 21), none, .move (.tmp 0), []⟩,
 ⟨(some 22), none, .nilCheck (.tmp 21), []⟩,
 ⟨(some 23), none, .fieldAddr 4 (.tmp 22), []⟩,
 ⟨(some 24), none, .load1 (.tmp 23), []⟩,
 ⟨(some 25), none, .move (.tmp 1), []⟩,
 ⟨(some 26), none, .lookup .s (.slice none 0 0) false (.tmp 24) (.tmp 25), []⟩,
 ⟨(some 27), none, .call 115 [(.tmp 26)], []⟩,
 ⟨(some 4), none, .move (.tmp 27), []⟩,
 ⟨(some 5), none, .move (.cst (.int .i64 0)), []⟩])
 .ret)))))
def r148 : List ARes := [.tmp 4, .tmp 5]
def a148 : AFn := ⟨b148, r148, 0⟩
def lp157_0 : ACode := (.seq (.ops [
 ⟨(some 18), none, .bin .lss (.tmp 17) (.tmp 16), []⟩])
 (.seq (.cond (.tmp 18)
 .skip
 (.exit 0))
 (.seq (.block 1 (.seq (.ops [
 ⟨(some 19), none, .idxAddrSl 1 (.tmp 15) (.tmp 17), []⟩,
 ⟨(some 20), none, .load1 (.tmp 19), []⟩,
 ⟨(some 8), none, .move (.tmp 20), []⟩])
 (.seq (.ops [
 ⟨(some 21), none, .move (.tmp 8), []⟩,
 ⟨(some 22), none, .call 147 [(.tmp 21)], []⟩,
 ⟨(some 23), none, .un .not (.tmp 22), []⟩])
 (.cond (.tmp 23)
 (.seq (.ops [
 ⟨(some 6), none, .move (.cst (.int .i64 91)), []⟩])
 .ret)
 .skip))))
 (.ops [
 ⟨(some 24), none, .bin .add (.tmp 17) (.cst (.int .i64 1)), []⟩,
 ⟨(some 17), none, .move (.tmp 24), []⟩]))))
def k157_0 : ACode := (.seq (.seq (.draw [
 ⟨(some 26), none, .move (.tmp 0), []⟩,
 ⟨(some 27), none, .nilCheck (.tmp 26), []⟩,
 ⟨(some 28), none, .fieldAddr 4 (.tmp 27), []⟩,
 ⟨(some 29), none, .load1 (.tmp 28), []⟩,
 ⟨(some 30), none, .move (.tmp 2), []⟩,
 ⟨(some 31), none, .idxAddrSl 1 (.tmp 30) (.cst (.int .i64 0)), []⟩,
 ⟨(some 32), none, .load1 (.tmp 31), []⟩,
 ⟨(some 33), none, .lookup .s (.slice none 0 0) true (.tmp 29) (.tmp 32), []⟩,
 ⟨(some 25), none, .move (.tmp 33), []⟩,
 ⟨(some 34), none, .extract 0 (.tmp 25), []⟩,
 ⟨(some 35), none, .extract 1 (.tmp 25), []⟩,
 ⟨(some 9), none, .move (.tmp 34), []⟩,
 ⟨(some 10), none, .move (.tmp 35), []⟩])
 (.seq (.ops [
 ⟨(some 36), none, .move (.tmp 1), []⟩,
 ⟨(some 37), none, .move (.tmp 36), []⟩,
 ⟨(some 38), (some (37, true)), .move (.tmp 10), []⟩,
 ⟨(some 39), (some (37, true)), .un .not (.tmp 38), []⟩,
 ⟨(some 40), none, .pick (.tmp 37) (.tmp 39) (.cst (.bool false)), []⟩])
 (.cond (.tmp 40)
 (.seq (.ops [
 ⟨(some 6), none, .move (.cst (.int .i64 92)), []⟩])
 .ret)
 .skip)))
 (.seq (.ops [
 ⟨(some 6), none, .move (.cst (.int .i64 0)), []⟩])
 .ret))
def b157 : ACode := (.seq (.ops [
 ⟨(some 6), none, .move (.cst (.int .i64 0)), []⟩])
 (.seq (.seq (.ops [
 ⟨(some 11), none, .move (.tmp 0), []⟩,
 ⟨(some 12), none, .nilCheck (.tmp 11), []⟩,
 ⟨(some 13), none, .fieldAddr 7 (.tmp 12), []⟩,
 ⟨(some 14), none, .load1 (.tmp 13), []⟩])
 (.cond (.tmp 14)
 (.seq (.ops [
 ⟨(some 6), none, .move (.cst (.int .i64 94)), []⟩])
 .ret)
 .skip))
 (.seq (.seq (.ops [
 ⟨(some 15), none, .move (.tmp 2), []⟩,
 ⟨(some 16), none, .len (.tmp 15), []⟩,
 ⟨(some 17), none, .move (.cst (.int .i64 0)), []⟩])
 (.block 0 (.loop lp157_0)))
 k157_0)))
def r157 : List ARes := [.tmp 6]
def a157 : AFn := ⟨b157, r157, 2⟩
def b93 : ACode := (.seq (.ops [
 ⟨(some 3), none, .box 113 (.tmp 0), []⟩,
 ⟨(some 4), none, .box 9 (.tmp 1), []⟩,
 ⟨(some 5), none, .box 41 (.tmp 2), []⟩,
 ⟨(some 6), none, .move (.cst (.int .i64 0)), []⟩])
 (.seq (.ops [
 ⟨(some 11), none, .load1 (.tmp 3), []⟩,
 ⟨(some 12), none, .nilCheck (.tmp 11), []⟩,
 ⟨(some 13), none, .fieldAddr 0 (.tmp 12), []⟩,
 ⟨(some 14), none, .call 74 [(.tmp 13)], []⟩])
 (.seq (.ops [
 ⟨(some 15), none, .load1 (.tmp 3), []⟩,
 ⟨(some 16), none, .nilCheck (.tmp 15), []⟩,
 ⟨(some 17), none, .fieldAddr 0 (.tmp 16), []⟩,
 ⟨none, none, .defer (.cst (.func (.func 75) ⟨[]⟩ ⟨[]⟩)) [(.tmp 17)], []⟩])
 (.seq (.seq (.ops [
 ⟨(some 18), none, .load1 (.tmp 3), []⟩,
 ⟨(some 19), none, .load1 (.tmp 4), []⟩,
 ⟨(some 20), none, .buildSlice 9 [(.string ⟨⟨[]⟩⟩)] 1 [(0, 1, (.tmp 19))], []⟩,
 ⟨(some 21), none, .call 157 [(.tmp 18), (.cst (.bool false)), (.tmp 20)], []⟩,
 ⟨(some 7), none, .move (.tmp 21), []⟩])
 (.seq (.ops [
 ⟨(some 22), none, .move (.tmp 7), []⟩,
 ⟨(some 23), none, .bin .neq (.tmp 22) (.cst (.int .i64 0)), []⟩])
 (.cond (.tmp 23)
 (.seq (.ops [
 ⟨(some 24), none, .move (.tmp 7), []⟩,
 ⟨(some 6), none, .move (.tmp 24), []⟩])
 .ret)
 .skip)))
 (.seq (.draw [
 ⟨(some 8), none, .box 41 (.cst (.slice none 0 0)), []⟩,
 ⟨(some 9), none, .box 4 (.cst (.bool false)), []⟩,
 ⟨(some 26), none, .load1 (.tmp 3), []⟩,
 ⟨(some 27), none, .nilCheck (.tmp 26), []⟩,
 ⟨(some 28), none, .fieldAddr 4 (.tmp 27), []⟩,
 ⟨(some 29), none, .load1 (.tmp 28), []⟩,
 ⟨(some 30), none, .load1 (.tmp 4), []⟩,
 ⟨(some 31), none, .lookup .s (.slice none 0 0) true (.tmp 29) (.tmp 30), []⟩,
 ⟨(some 25), none, .move (.tmp 31), []⟩,
 ⟨(some 32), none, .extract 0 (.tmp 25), []⟩,
 ⟨(some 33), none, .extract 1 (.tmp 25), []⟩,
 ⟨none, none, .store1 (.tmp 8) (.tmp 32), []⟩,
 ⟨none, none, .store1 (.tmp 9) (.tmp 33), []⟩])
 (.seq (.seq (.draw [
 ⟨(some 34), none, .load1 (.tmp 9), []⟩,
 ⟨(some 35), none, .un .not (.tmp 34), []⟩,
 ⟨(some 36), none, .move (.tmp 35), []⟩,
 ⟨(some 37), (some (36, true)), .load1 (.tmp 3), []⟩,
 ⟨(some 38), (some (36, true)), .nilCheck (.tmp 37), []⟩,
 ⟨(some 39), (some (36, true)), .fieldAddr 4 (.tmp 38), []⟩,
 ⟨(some 40), (some (36, true)), .load1 (.tmp 39), []⟩,
 ⟨(some 41), (some (36, true)), .lenMap (.tmp 40), []⟩,
 ⟨(some 42), (some (36, true)), .bin .geq (.tmp 41) (.cst (.int .i64 64)), []⟩,
 ⟨(some 43), none, .pick (.tmp 36) (.tmp 42) (.cst (.bool false)), []⟩,
 ⟨(some 44), none, .move (.tmp 43), []⟩,
 ⟨(some 45), (some (44, false)), .load1 (.tmp 5), []⟩,
 ⟨(some 46), (some (44, false)), .len (.tmp 45), []⟩,
 ⟨(some 47), (some (44, false)), .load1 (.tmp 3), []⟩,
 ⟨(some 48), (some (44, false)), .nilCheck (.tmp 47), []⟩,
 ⟨(some 49), (some (44, false)), .fieldAddr 2 (.tmp 48), []⟩,
 ⟨(some 50), (some (44, false)), .load1 (.tmp 49), []⟩,
 ⟨(some 51), (some (44, false)), .load1 (.tmp 3), []⟩,
 ⟨(some 52), (some (44, false)), .nilCheck (.tmp 51), []⟩,
 ⟨(some 53), (some (44, false)), .fieldAddr 3 (.tmp 52), []⟩,
 ⟨(some 54), (some (44, false)), .load1 (.tmp 53), []⟩,
 ⟨(some 55), (some (44, false)), .bin .sub (.tmp 50) (.tmp 54), []⟩,
 ⟨(some 56), (some (44, false)), .bin .gtr (.tmp 46) (.tmp 55), []⟩,
 ⟨(some 57), none, .pick (.tmp 44) (.cst (.bool true)) (.tmp 56), []⟩])
 (.cond (.tmp 57)
 (.seq (.ops [
 ⟨(some 6), none, .move (.cst (.int .i64 93)), []⟩])
 .ret)
 .skip))
 (.seq (.ops [
 ⟨(some 58), none, .mkFunc 158 [] [(.tmp 8), (.tmp 3), (.tmp 4)], []⟩,
 ⟨(some 10), none, .box 109 (.cst .nilFunc), []⟩,
 ⟨none, none, .store1 (.tmp 10) (.tmp 58), []⟩])
 (.seq (.ops [
 ⟨(some 59), none, .load1 (.tmp 3), []⟩,
 ⟨(some 60), none, .mkFunc 160 [] [(.tmp 10), (.tmp 5)], []⟩,
 ⟨(some 61), none, .mkFunc 161 [] [(.tmp 9), (.tmp 10), (.tmp 5)], []⟩,
 ⟨(some 62), none, .call 159 [(.tmp 59), (.tmp 60), (.tmp 61)], []⟩,
 ⟨(some 6), none, .move (.tmp 62), []⟩])
 .ret))))))))
def r93 : List ARes := [.tmp 6]
def a93 : AFn := ⟨b93, r93, 0⟩
def b158 : ACode := (.seq (.draw [
 ⟨(some 5), none, .load1 (.tmp 2), [8]⟩,
 ⟨(some 6), none, .nilCheck (.tmp 5), []⟩,
 ⟨(some 7), none, .fieldAddr 4 (.tmp 6), []⟩,
 ⟨(some 8), none, .load1 (.tmp 7), [8]⟩,
 ⟨(some 9), none, .load1 (.tmp 3), [8]⟩,
 ⟨(some 10), none, .load1 (.tmp 1), []⟩,
 ⟨(some 11), none, .move (.tmp 0), []⟩,
 ⟨(some 12), none, .append 5 1 1 (.tmp 10) (.tmp 11), []⟩,
 ⟨none, none, .mapUpd .s (.tmp 8) (.tmp 9) (.tmp 12), []⟩])
 (.ops [
 ⟨(some 13), none, .load1 (.tmp 2), []⟩,
 ⟨(some 14), none, .nilCheck (.tmp 13), []⟩,
 ⟨(some 15), none, .fieldAddr 3 (.tmp 14), []⟩,
 ⟨(some 16), none, .load1 (.tmp 15), []⟩,
 ⟨(some 17), none, .move (.tmp 0), []⟩,
 ⟨(some 18), none, .len (.tmp 17), []⟩,
 ⟨(some 19), none, .bin .add (.tmp 16) (.tmp 18), []⟩,
 ⟨(some 20), none, .nilCheck (.tmp 13), []⟩,
 ⟨(some 21), none, .fieldAddr 3 (.tmp 20), []⟩,
 ⟨none, none, .store1 (.tmp 21) (.tmp 19), []⟩]))
def r158 : List ARes := []
def a158 : AFn := ⟨b158, r158, 0⟩
def b159 : ACode := (.seq (.ops [
 ⟨(some 6), none, .move (.cst (.int .i64 0)), []⟩])
 (.seq (.ops [
 ⟨(some 7), none, .move (.tmp 0), []⟩,
 ⟨(some 8), none, .nilCheck (.tmp 7), []⟩,
 ⟨(some 9), none, .fieldAddr 8 (.tmp 8), []⟩,
 ⟨(some 10), none, .load1 (.tmp 9), []⟩,
 ⟨(some 11), none, .bin .add (.tmp 10) (.cst (.int .i64 1)), []⟩,
 ⟨(some 12), none, .nilCheck (.tmp 7), []⟩,
 ⟨(some 13), none, .fieldAddr 8 (.tmp 12), []⟩,
 ⟨none, none, .store1 (.tmp 13) (.tmp 11), []⟩])
 (.seq (.seq (.ops [
 ⟨(some 14), none, .move (.tmp 0), []⟩,
 ⟨(some 15), none, .nilCheck (.tmp 14), []⟩,
 ⟨(some 16), none, .fieldAddr 5 (.tmp 15), []⟩,
 ⟨(some 17), none, .load1 (.tmp 16), []⟩,
 ⟨(some 18), none, .bin .gtr (.tmp 17) (.cst (.int .i64 0)), []⟩])
 (.cond (.tmp 18)
 (.seq (.ops [
 ⟨(some 19), none, .move (.tmp 0), []⟩,
 ⟨(some 20), none, .nilCheck (.tmp 19), []⟩,
 ⟨(some 21), none, .fieldAddr 5 (.tmp 20), []⟩,
 ⟨(some 22), none, .load1 (.tmp 21), []⟩,
 ⟨(some 23), none, .bin .sub (.tmp 22) (.cst (.int .i64 1)), []⟩,
 ⟨(some 24), none, .nilCheck (.tmp 19), []⟩,
 ⟨(some 25), none, .fieldAddr 5 (.tmp 24), []⟩,
 ⟨none, none, .store1 (.tmp 25) (.tmp 23), []⟩])
 (.seq (.ops [
 ⟨(some 26), none, .move (.tmp 0), []⟩,
 ⟨(some 27), none, .nilCheck (.tmp 26), []⟩,
 ⟨(some 28), none, .fieldAddr 5 (.tmp 27), []⟩,
 ⟨(some 29), none, .load1 (.tmp 28), []⟩,
 ⟨(some 30), none, .bin .eql (.tmp 29) (.cst (.int .i64 0)), []⟩])
 (.cond (.tmp 30)
 (.seq (.ops [
 ⟨(some 31), none, .move (.tmp 0), []⟩,
 ⟨(some 32), none, .nilCheck (.tmp 31), []⟩,
 ⟨(some 33), none, .fieldAddr 7 (.tmp 32), []⟩,
 ⟨none, none, .store1 (.tmp 33) (.cst (.bool true)), []⟩])
 (.seq (.ops [
 ⟨(some 34), none, .move (.tmp 2), []⟩,
 ⟨(some 35), none, .move (.tmp 0), []⟩,
 ⟨(some 36), none, .nilCheck (.tmp 35), []⟩,
 ⟨(some 37), none, .fieldAddr 6 (.tmp 36), []⟩,
 ⟨(some 38), none, .load1 (.tmp 37), []⟩,
 ⟨(some 39), none, .callv (.tmp 34) [(.tmp 38)], []⟩])
 (.seq (.ops [
 ⟨(some 6), none, .move (.cst (.int .i64 94)), []⟩])
 .ret)))
 .skip)))
 .skip))
 (.seq (.ops [
 ⟨(some 40), none, .move (.tmp 1), []⟩,
 ⟨(some 41), none, .callv (.tmp 40) [], []⟩])
 (.seq (.ops [
 ⟨(some 6), none, .move (.cst (.int .i64 0)), []⟩])
 .ret)))))
def r159 : List ARes := [.tmp 6]
def a159 : AFn := ⟨b159, r159, 0⟩
def b160 : ACode := (.ops [
 ⟨(some 2), none, .load1 (.tmp 0), []⟩,
 ⟨(some 3), none, .load1 (.tmp 1), []⟩,
 ⟨(some 4), none, .callv (.tmp 2) [(.tmp 3)], []⟩])
def r160 : List ARes := []
def a160 : AFn := ⟨b160, r160, 0⟩
def b161 : ACode := (.seq (.ops [
 ⟨(some 5), none, .load1 (.tmp 1), []⟩,
 ⟨(some 6), none, .move (.tmp 5), []⟩,
 ⟨(some 7), (some (6, false)), .move (.tmp 0), []⟩,
 ⟨(some 8), (some (6, false)), .bin .gtr (.tmp 7) (.cst (.int .i64 0)), []⟩,
 ⟨(some 9), none, .pick (.tmp 6) (.cst (.bool true)) (.tmp 8), []⟩])
 (.cond (.tmp 9)
 (.draw [
 ⟨(some 10), none, .load1 (.tmp 2), []⟩,
 ⟨(some 11), none, .load1 (.tmp 3), []⟩,
 ⟨(some 12), none, .move (.tmp 0), []⟩,
 ⟨(some 13), none, .load1 (.tmp 3), []⟩,
 ⟨(some 14), none, .len (.tmp 13), []⟩,
 ⟨(some 15), none, .min2 (.tmp 12) (.tmp 14), []⟩,
 ⟨(some 16), none, .max2 (.cst (.int .i64 0)) (.tmp 15), []⟩,
 ⟨(some 17), none, .sliceSl 1 (.tmp 11) none (some (.tmp 16)) none, []⟩,
 ⟨(some 18), none, .callv (.tmp 10) [(.tmp 17)], []⟩])
 .skip))
def r161 : List ARes := []
def a161 : AFn := ⟨b161, r161, 0⟩
def b85 : ACode := (.seq (.ops [
 ⟨(some 4), none, .move (.cst (.pointer none)), []⟩,
 ⟨(some 5), none, .move (.cst (.slice none 0 0)), []⟩,
 ⟨(some 6), none, .move (.cst (.int .i64 0)), []⟩])
 (.scope (.seq (.ops [
 ⟨(some 16), none, .move (.tmp 0), []⟩,
 ⟨(some 17), none, .move (.tmp 1), []⟩,
 ⟨(some 18), none, .call 148 [(.tmp 16), (.tmp 17)], []⟩,
 ⟨(some 15), none, .move (.tmp 18), []⟩,
 ⟨(some 19), none, .extract 0 (.tmp 15), []⟩,
 ⟨(some 20), none, .extract 1 (.tmp 15), []⟩,
 ⟨(some 7), none, .move (.tmp 19), []⟩,
 ⟨(some 8), none, .move (.tmp 20), []⟩])
 (.seq (.seq (.ops [
 ⟨(some 21), none, .move (.tmp 8), []⟩,
 ⟨(some 22), none, .bin .neq (.tmp 21) (.cst (.int .i64 0)), []⟩,
 ⟨(some 23), none, .move (.tmp 22), []⟩,
 ⟨(some 24), (some (23, true)), .move (.tmp 8), []⟩,
 ⟨(some 25), (some (23, true)), .bin .neq (.tmp 24) (.cst (.int .i64 92)), []⟩,
 ⟨(some 26), none, .pick (.tmp 23) (.tmp 25) (.cst (.bool false)), []⟩])
 (.cond (.tmp 26)
 (.seq (.ops [
 ⟨(some 27), none, .move (.tmp 8), []⟩,
 ⟨(some 4), none, .move (.cst (.pointer none)), []⟩,
 ⟨(some 5), none, .move (.cst (.slice none 0 0)), []⟩,
 ⟨(some 6), none, .move (.tmp 27), []⟩])
 .ret)
 .skip))
 (.seq (.ops [
 ⟨(some 28), none, .move (.tmp 0), []⟩,
 ⟨(some 29), none, .move (.tmp 1), []⟩,
 ⟨(some 30), none, .build [(.pointer none), (.string ⟨⟨[]⟩⟩), (.int .i64 0), (.bool false)] [(0, 1, (.tmp 28)), (1, 1, (.tmp 29))], []⟩,
 ⟨(some 31), none, .box 228 (.tmp 30), []⟩,
 ⟨(some 9), none, .move (.tmp 31), []⟩])
 (.seq (.ops [
 ⟨(some 10), none, .move (.cst (.slice none 0 0)), []⟩])
 (.seq (.label 0)
 (.seq (.seq (.ops [
 ⟨(some 32), none, .move (.tmp 9), []⟩,
 ⟨(some 33), none, .nilCheck (.tmp 32), []⟩,
 ⟨(some 34), none, .fieldAddr 2 (.tmp 33), []⟩,
 ⟨(some 35), none, .load1 (.tmp 34), []⟩,
 ⟨(some 36), none, .move (.tmp 7), []⟩,
 ⟨(some 37), none, .len (.tmp 36), []⟩,
 ⟨(some 38), none, .bin .eql (.tmp 35) (.tmp 37), []⟩])
 (.cond (.tmp 38)
 (.seq (.ops [
 ⟨(some 39), none, .move (.tmp 9), []⟩,
 ⟨(some 40), none, .move (.tmp 10), []⟩,
 ⟨(some 4), none, .move (.tmp 39), []⟩,
 ⟨(some 5), none, .move (.tmp 40), []⟩,
 ⟨(some 6), none, .move (.cst (.int .i64 0)), []⟩])
 .ret)
 .skip))
 (.seq (.ops [
 ⟨(some 42), none, .move (.tmp 7), []⟩,
 ⟨(some 43), none, .move (.tmp 9), []⟩,
 ⟨(some 44), none, .nilCheck (.tmp 43), []⟩,
 ⟨(some 45), none, .fieldAddr 2 (.tmp 44), []⟩,
 ⟨(some 46), none, .load1 (.tmp 45), []⟩,
 ⟨(some 47), none, .sliceSl 1 (.tmp 42) (some (.tmp 46)) none none, []⟩,
 ⟨(some 48), none, .call 149 [(.tmp 47)], []⟩,
 ⟨(some 41), none, .move (.tmp 48), []⟩,
 ⟨(some 49), none, .extract 0 (.tmp 41), []⟩,
 ⟨(some 50), none, .extract 1 (.tmp 41), []⟩,
 ⟨(some 51), none, .extract 2 (.tmp 41), []⟩,
 ⟨(some 11), none, .move (.tmp 49), []⟩,
 ⟨(some 12), none, .move (.tmp 50), []⟩,
 ⟨(some 13), none, .move (.tmp 51), []⟩])
 (.seq (.seq (.ops [
 ⟨(some 52), none, .move (.tmp 13), []⟩])
 (.block 0 (.seq (.ops [
 ⟨(some 54), none, .bin .eql (.tmp 52) (.cst (.int .i64 0)), []⟩,
 ⟨(some 53), none, .move (.tmp 54), []⟩])
 (.cond (.tmp 53)
 (.seq (.ops [
 ⟨(some 55), none, .move (.tmp 10), []⟩,
 ⟨(some 56), none, .move (.tmp 11), []⟩,
 ⟨(some 57), none, .buildSlice 41 [(.slice none 0 0)] 1 [(0, 1, (.tmp 56))], []⟩,
 ⟨(some 58), none, .append 41 1 24 (.tmp 55) (.tmp 57), []⟩,
 ⟨(some 10), none, .move (.tmp 58), []⟩])
 (.seq (.ops [
 ⟨(some 59), none, .move (.tmp 9), []⟩,
 ⟨(some 60), none, .nilCheck (.tmp 59), []⟩,
 ⟨(some 61), none, .fieldAddr 2 (.tmp 60), []⟩,
 ⟨(some 62), none, .load1 (.tmp 61), []⟩,
 ⟨(some 63), none, .move (.tmp 12), []⟩,
 ⟨(some 64), none, .bin .add (.tmp 62) (.tmp 63), []⟩,
 ⟨(some 65), none, .nilCheck (.tmp 59), []⟩,
 ⟨(some 66), none, .fieldAddr 2 (.tmp 65), []⟩,
 ⟨none, none, .store1 (.tmp 66) (.tmp 64), []⟩])
 (.goto 0)))
 (.seq (.ops [
 ⟨(some 68), none, .bin .eql (.tmp 52) (.cst (.int .i64 30)), []⟩,
 ⟨(some 67), none, .move (.tmp 68), []⟩])
 (.cond (.tmp 67)
 (.goto 1)
 .skip))))))
 (.seq (.seq (.ops [
 ⟨(some 4), none, .move (.cst (.pointer none)), []⟩,
 ⟨(some 5), none, .move (.cst (.slice none 0 0)), []⟩,
 ⟨(some 6), none, .move (.cst (.int .i64 101)), []⟩])
 .ret)
 (.seq (.label 1)
 (.seq (.seq (.ops [
 ⟨(some 69), none, .move (.tmp 0), []⟩,
 ⟨(some 70), none, .move (.tmp 1), []⟩,
 ⟨(some 71), none, .move (.tmp 9), []⟩,
 ⟨(some 72), none, .nilCheck (.tmp 71), []⟩,
 ⟨(some 73), none, .fieldAddr 2 (.tmp 72), []⟩,
 ⟨(some 74), none, .load1 (.tmp 73), []⟩,
 ⟨(some 75), none, .call 150 [(.tmp 69), (.tmp 70), (.tmp 74)], []⟩,
 ⟨(some 14), none, .move (.tmp 75), []⟩])
 (.seq (.ops [
 ⟨(some 76), none, .move (.tmp 14), []⟩,
 ⟨(some 77), none, .bin .neq (.tmp 76) (.cst (.int .i64 0)), []⟩])
 (.cond (.tmp 77)
 (.seq (.ops [
 ⟨(some 78), none, .move (.tmp 14), []⟩,
 ⟨(some 4), none, .move (.cst (.pointer none)), []⟩,
 ⟨(some 5), none, .move (.cst (.slice none 0 0)), []⟩,
 ⟨(some 6), none, .move (.tmp 78), []⟩])
 .ret)
 .skip)))
 (.seq (.ops [
 ⟨(some 79), none, .move (.tmp 9), []⟩,
 ⟨(some 80), none, .move (.tmp 10), []⟩,
 ⟨(some 4), none, .move (.tmp 79), []⟩,
 ⟨(some 5), none, .move (.tmp 80), []⟩,
 ⟨(some 6), none, .move (.cst (.int .i64 0)), []⟩])
 .ret))))))))))))))
def r85 : List ARes := [.tmp 4, .tmp 5, .tmp 6]
def a85 : AFn := ⟨b85, r85, 0⟩
def b86 : ACode := (.seq (.ops [
 ⟨(some 4), none, .move (.cst (.int .i64 0)), []⟩])
 (.seq (.seq (.ops [
 ⟨(some 8), none, .move (.tmp 0), []⟩,
 ⟨(some 9), none, .nilCheck (.tmp 8), []⟩,
 ⟨(some 10), none, .fieldAddr 3 (.tmp 9), []⟩,
 ⟨(some 11), none, .load1 (.tmp 10), []⟩])
 (.cond (.tmp 11)
 (.seq (.ops [
 ⟨(some 4), none, .move (.cst (.int .i64 102)), []⟩])
 .ret)
 .skip))
 (.seq (.ops [
 ⟨(some 13), none, .move (.tmp 1), []⟩,
 ⟨(some 14), none, .call 151 [(.tmp 13)], []⟩,
 ⟨(some 12), none, .move (.tmp 14), []⟩,
 ⟨(some 15), none, .extract 0 (.tmp 12), []⟩,
 ⟨(some 16), none, .extract 1 (.tmp 12), []⟩,
 ⟨(some 5), none, .move (.tmp 15), []⟩,
 ⟨(some 6), none, .move (.tmp 16), []⟩])
 (.seq (.seq (.ops [
 ⟨(some 17), none, .move (.tmp 6), []⟩,
 ⟨(some 18), none, .bin .neq (.tmp 17) (.cst (.int .i64 0)), []⟩])
 (.cond (.tmp 18)
 (.seq (.ops [
 ⟨(some 4), none, .move (.cst (.int .i64 100)), []⟩])
 .ret)
 .skip))
 (.seq (.seq (.draw [
 ⟨(some 19), none, .move (.tmp 0), []⟩,
 ⟨(some 20), none, .nilCheck (.tmp 19), []⟩,
 ⟨(some 21), none, .fieldAddr 0 (.tmp 20), []⟩,
 ⟨(some 22), none, .load1 (.tmp 21), []⟩,
 ⟨(some 23), none, .move (.tmp 0), []⟩,
 ⟨(some 24), none, .nilCheck (.tmp 23), []⟩,
 ⟨(some 25), none, .fieldAddr 1 (.tmp 24), []⟩,
 ⟨(some 26), none, .load1 (.tmp 25), []⟩,
 ⟨(some 27), none, .move (.tmp 5), []⟩,
 ⟨(some 28), none, .call 93 [(.tmp 22), (.tmp 26), (.tmp 27)], []⟩,
 ⟨(some 7), none, .move (.tmp 28), []⟩])
 (.seq (.ops [
 ⟨(some 29), none, .move (.tmp 7), []⟩,
 ⟨(some 30), none, .bin .neq (.tmp 29) (.cst (.int .i64 0)), []⟩])
 (.cond (.tmp 30)
 (.seq (.ops [
 ⟨(some 31), none, .move (.tmp 0), []⟩,
 ⟨(some 32), none, .nilCheck (.tmp 31), []⟩,
 ⟨(some 33), none, .fieldAddr 3 (.tmp 32), []⟩,
 ⟨none, none, .store1 (.tmp 33) (.cst (.bool true)), []⟩])
 (.seq (.ops [
 ⟨(some 34), none, .move (.tmp 7), []⟩,
 ⟨(some 4), none, .move (.tmp 34), []⟩])
 .ret))
 .skip)))
 (.seq (.ops [
 ⟨(some 35), none, .move (.tmp 0), []⟩,
 ⟨(some 36), none, .nilCheck (.tmp 35), []⟩,
 ⟨(some 37), none, .fieldAddr 2 (.tmp 36), []⟩,
 ⟨(some 38), none, .load1 (.tmp 37), []⟩,
 ⟨(some 39), none, .move (.tmp 5), []⟩,
 ⟨(some 40), none, .len (.tmp 39), []⟩,
 ⟨(some 41), none, .bin .add (.tmp 38) (.tmp 40), []⟩,
 ⟨(some 42), none, .nilCheck (.tmp 35), []⟩,
 ⟨(some 43), none, .fieldAddr 2 (.tmp 42), []⟩,
 ⟨none, none, .store1 (.tmp 43) (.tmp 41), []⟩])
 (.seq (.ops [
 ⟨(some 4), none, .move (.cst (.int .i64 0)), []⟩])
 .ret)))))))
def r86 : List ARes := [.tmp 4]
def a86 : AFn := ⟨b86, r86, 0⟩
def b151 : ACode := (.seq (.ops [
 ⟨(some 2), none, .move (.cst (.slice none 0 0)), []⟩,
 ⟨(some 3), none, .move (.cst (.int .i64 0)), []⟩])
 (.seq (.seq (.ops [
 ⟨(some 5), none, .move (.tmp 0), []⟩,
 ⟨(some 6), none, .len (.tmp 5), []⟩,
 ⟨(some 7), none, .bin .gtr (.tmp 6) (.cst (.int .i64 16777216)), []⟩])
 (.cond (.tmp 7)
 (.seq (.ops [
 ⟨(some 2), none, .move (.cst (.slice none 0 0)), []⟩,
 ⟨(some 3), none, .move (.cst (.int .i64 31)), []⟩])
 .ret)
 .skip))
 (.seq (.ops [
 ⟨(some 4), none, .box 175 (.cst (.agg ⟨[(.slice none 0 0), (.int .i64 0)]⟩)), []⟩])
 (.seq (.ops [
 ⟨(some 8), none, .call 114 [(.tmp 4), (.cst (.int .u64 201)), (.cst (.int .i64 1))], []⟩])
 (.seq (.ops [
 ⟨(some 9), none, .move (.tmp 0), []⟩,
 ⟨(some 10), none, .len (.tmp 9), []⟩,
 ⟨(some 11), none, .convInt .u64 (.tmp 10), []⟩,
 ⟨(some 12), none, .call 114 [(.tmp 4), (.tmp 11), (.cst (.int .i64 4))], []⟩])
 (.seq (.ops [
 ⟨(some 13), none, .fieldAddr 0 (.tmp 4), []⟩,
 ⟨(some 14), none, .load1 (.tmp 13), []⟩,
 ⟨(some 15), none, .call 216 [(.tmp 14)], []⟩,
 ⟨(some 16), none, .convInt .u64 (.tmp 15), []⟩,
 ⟨(some 17), none, .call 114 [(.tmp 4), (.tmp 16), (.cst (.int .i64 4))], []⟩])
 (.seq (.ops [
 ⟨(some 18), none, .fieldAddr 0 (.tmp 4), []⟩,
 ⟨(some 19), none, .load1 (.tmp 18), []⟩,
 ⟨(some 20), none, .move (.tmp 0), []⟩,
 ⟨(some 21), none, .append 5 1 1 (.tmp 19) (.tmp 20), []⟩,
 ⟨(some 22), none, .fieldAddr 0 (.tmp 4), []⟩,
 ⟨none, none, .store1 (.tmp 22) (.tmp 21), []⟩])
 (.seq (.ops [
 ⟨(some 23), none, .move (.tmp 0), []⟩,
 ⟨(some 24), none, .call 216 [(.tmp 23)], []⟩,
 ⟨(some 25), none, .convInt .u64 (.tmp 24), []⟩,
 ⟨(some 26), none, .call 114 [(.tmp 4), (.tmp 25), (.cst (.int .i64 4))], []⟩])
 (.seq (.ops [
 ⟨(some 27), none, .fieldAddr 0 (.tmp 4), []⟩,
 ⟨(some 28), none, .load1 (.tmp 27), []⟩,
 ⟨(some 2), none, .move (.tmp 28), []⟩,
 ⟨(some 3), none, .move (.cst (.int .i64 0)), []⟩])
 .ret)))))))))
def r151 : List ARes := [.tmp 2, .tmp 3]
def a151 : AFn := ⟨b151, r151, 0⟩
def lp114_0 : ACode := (.seq (.seq (.ops [
 ⟨(some 35), none, .move (.tmp 6), []⟩,
 ⟨(some 36), none, .bin .geq (.tmp 35) (.cst (.int .i64 0)), []⟩])
 (.cond (.tmp 36)
 .skip
 (.exit 0)))
 (.seq (.block 1 (.draw [
 ⟨(some 39), none, .move (.tmp 0), []⟩,
 ⟨(some 40), none, .move (.tmp 0), []⟩,
 ⟨(some 41), none, .nilCheck (.tmp 40), []⟩,
 ⟨(some 42), none, .fieldAddr 0 (.tmp 41), []⟩,
 ⟨(some 43), none, .load1 (.tmp 42), [10]⟩,
 ⟨(some 44), none, .move (.tmp 1), []⟩,
 ⟨(some 45), none, .move (.tmp 6), []⟩,
 ⟨(some 46), none, .bin .shr (.tmp 44) (.tmp 45), []⟩,
 ⟨(some 47), none, .convInt .u8 (.tmp 46), []⟩,
 ⟨(some 48), none, .buildSlice 5 [(.int .u8 0)] 1 [(0, 1, (.tmp 47))], []⟩,
 ⟨(some 49), none, .append 5 1 1 (.tmp 43) (.tmp 48), []⟩,
 ⟨(some 50), none, .nilCheck (.tmp 39), []⟩,
 ⟨(some 51), none, .fieldAddr 0 (.tmp 50), []⟩,
 ⟨none, none, .store1 (.tmp 51) (.tmp 49), []⟩]))
 (.ops [
 ⟨(some 37), none, .move (.tmp 6), []⟩,
 ⟨(some 38), none, .bin .sub (.tmp 37) (.cst (.int .i64 8)), []⟩,
 ⟨(some 6), none, .move (.tmp 38), []⟩])))
def b114 : ACode := (.seq (.seq (.ops [
 ⟨(some 7), none, .move (.tmp 0), []⟩,
 ⟨(some 8), none, .nilCheck (.tmp 7), []⟩,
 ⟨(some 9), none, .fieldAddr 1 (.tmp 8), []⟩,
 ⟨(some 10), none, .load1 (.tmp 9), []⟩,
 ⟨(some 11), none, .bin .neq (.tmp 10) (.cst (.int .i64 0)), []⟩])
 (.cond (.tmp 11)
 .ret
 .skip))
 (.seq (.seq (.ops [
 ⟨(some 12), none, .move (.tmp 2), []⟩,
 ⟨(some 13), none, .bin .lss (.tmp 12) (.cst (.int .i64 1)), []⟩,
 ⟨(some 14), none, .move (.tmp 13), []⟩,
 ⟨(some 15), (some (14, false)), .move (.tmp 2), []⟩,
 ⟨(some 16), (some (14, false)), .bin .gtr (.tmp 15) (.cst (.int .i64 8)), []⟩,
 ⟨(some 17), none, .pick (.tmp 14) (.cst (.bool true)) (.tmp 16), []⟩,
 ⟨(some 18), none, .move (.tmp 17), []⟩,
 ⟨(some 19), (some (18, false)), .move (.tmp 2), []⟩,
 ⟨(some 20), (some (18, false)), .bin .lss (.tmp 19) (.cst (.int .i64 8)), []⟩,
 ⟨(some 21), (some (18, false)), .move (.tmp 20), []⟩,
 ⟨(some 22), (some (21, true)), .move (.tmp 1), []⟩,
 ⟨(some 23), (some (21, true)), .move (.tmp 2), []⟩,
 ⟨(some 24), (some (21, true)), .bin .mul (.cst (.int .i64 8)) (.tmp 23), []⟩,
 ⟨(some 25), (some (21, true)), .bin .shr (.tmp 22) (.tmp 24), []⟩,
 ⟨(some 26), (some (21, true)), .bin .neq (.tmp 25) (.cst (.int .u64 0)), []⟩,
 ⟨(some 27), (some (18, false)), .pick (.tmp 21) (.tmp 26) (.cst (.bool false)), []⟩,
 ⟨(some 28), none, .pick (.tmp 18) (.cst (.bool true)) (.tmp 27), []⟩])
 (.cond (.tmp 28)
 (.seq (.ops [
 ⟨(some 29), none, .move (.tmp 0), []⟩,
 ⟨(some 30), none, .nilCheck (.tmp 29), []⟩,
 ⟨(some 31), none, .fieldAddr 1 (.tmp 30), []⟩,
 ⟨none, none, .store1 (.tmp 31) (.cst (.int .i64 34)), []⟩])
 .ret)
 .skip))
 (.seq (.ops [
 ⟨(some 32), none, .move (.tmp 2), []⟩,
 ⟨(some 33), none, .bin .sub (.tmp 32) (.cst (.int .i64 1)), []⟩,
 ⟨(some 34), none, .bin .mul (.cst (.int .i64 8)) (.tmp 33), []⟩,
 ⟨(some 6), none, .move (.tmp 34), []⟩])
 (.block 0 (.loop lp114_0)))))
def r114 : List ARes := []
def a114 : AFn := ⟨b114, r114, 0⟩
def lp216_0 : ACode := (.seq (.ops [
 ⟨(some 9), none, .bin .lss (.tmp 8) (.tmp 7), []⟩])
 (.seq (.cond (.tmp 9)
 .skip
 (.exit 0))
 (.seq (.block 1 (.seq (.ops [
 ⟨(some 10), none, .idxAddrSl 1 (.tmp 6) (.tmp 8), []⟩,
 ⟨(some 11), none, .load1 (.tmp 10), []⟩,
 ⟨(some 5), none, .move (.tmp 11), []⟩])
 (.seq (.ops [
 ⟨(some 12), none, .move (.tmp 3), []⟩,
 ⟨(some 13), none, .move (.tmp 5), []⟩,
 ⟨(some 14), none, .convInt .u32 (.tmp 13), []⟩,
 ⟨(some 15), none, .bin .xor (.tmp 12) (.tmp 14), []⟩,
 ⟨(some 3), none, .move (.tmp 15), []⟩])
 (.seq (.ops [
 ⟨(some 16), none, .move (.tmp 3), []⟩,
 ⟨(some 17), none, .bin .shr (.tmp 16) (.cst (.int .u64 4)), []⟩,
 ⟨(some 18), none, .move (.tmp 3), []⟩,
 ⟨(some 19), none, .bin .and (.tmp 18) (.cst (.int .u32 15)), []⟩,
 ⟨(some 20), none, .idxAddrArr 1 16 (.cst (.pointer (some ⟨1, 0, none⟩))) (.tmp 19), []⟩,
 ⟨(some 21), none, .load1 (.tmp 20), []⟩,
 ⟨(some 22), none, .bin .xor (.tmp 17) (.tmp 21), []⟩,
 ⟨(some 3), none, .move (.tmp 22), []⟩])
 (.ops [
 ⟨(some 23), none, .move (.tmp 3), []⟩,
 ⟨(some 24), none, .bin .shr (.tmp 23) (.cst (.int .u64 4)), []⟩,
 ⟨(some 25), none, .move (.tmp 3), []⟩,
 ⟨(some 26), none, .bin .and (.tmp 25) (.cst (.int .u32 15)), []⟩,
 ⟨(some 27), none, .idxAddrArr 1 16 (.cst (.pointer (some ⟨1, 0, none⟩))) (.tmp 26), []⟩,
 ⟨(some 28), none, .load1 (.tmp 27), []⟩,
 ⟨(some 29), none, .bin .xor (.tmp 24) (.tmp 28), []⟩,
 ⟨(some 3), none, .move (.tmp 29), []⟩])))))
 (.ops [
 ⟨(some 30), none, .bin .add (.tmp 8) (.cst (.int .i64 1)), []⟩,
 ⟨(some 8), none, .move (.tmp 30), []⟩]))))
def k216_0 : ACode := (.seq (.ops [
 ⟨(some 31), none, .move (.tmp 3), []⟩,
 ⟨(some 32), none, .un .xor (.tmp 31), []⟩,
 ⟨(some 2), none, .move (.tmp 32), []⟩])
 .ret)
def b216 : ACode := (.seq (.ops [
 ⟨(some 2), none, .move (.cst (.int .u32 0)), []⟩])
 (.seq (.ops [
 ⟨(some 3), none, .move (.cst (.int .u32 4294967295)), []⟩])
 (.seq (.seq (.ops [
 ⟨(some 6), none, .move (.tmp 0), []⟩,
 ⟨(some 7), none, .len (.tmp 6), []⟩,
 ⟨(some 8), none, .move (.cst (.int .i64 0)), []⟩])
 (.block 0 (.loop lp216_0)))
 k216_0)))
def r216 : List ARes := [.tmp 2]
def a216 : AFn := ⟨b216, r216, 2⟩
def lp43_0 : ACode := (.seq (.ops [
 ⟨(some 40), none, .bin .lss (.tmp 39) (.tmp 38), []⟩])
 (.seq (.cond (.tmp 40)
 .skip
 (.exit 0))
 (.seq (.block 1 (.seq (.ops [
 ⟨(some 41), none, .idxAddrSl 1 (.tmp 37) (.tmp 39), []⟩,
 ⟨(some 42), none, .load1 (.tmp 41), []⟩,
 ⟨(some 11), none, .move (.tmp 42), []⟩])
 (.seq (.seq (.ops [
 ⟨(some 43), none, .move (.tmp 11), []⟩,
 ⟨(some 44), none, .len (.tmp 43), []⟩,
 ⟨(some 45), none, .bin .gtr (.tmp 44) (.cst (.int .i64 16384)), []⟩])
 (.cond (.tmp 45)
 (.seq (.ops [
 ⟨(some 4), none, .move (.cst (.pointer none)), []⟩,
 ⟨(some 5), none, .move (.cst (.int .i64 233)), []⟩])
 .ret)
 .skip))
 (.draw [
 ⟨(some 46), none, .move (.tmp 9), []⟩,
 ⟨(some 47), none, .move (.tmp 9), []⟩,
 ⟨(some 48), none, .nilCheck (.tmp 47), []⟩,
 ⟨(some 49), none, .fieldAddr 4 (.tmp 48), []⟩,
 ⟨(some 50), none, .load1 (.tmp 49), [8]⟩,
 ⟨(some 51), none, .move (.tmp 11), []⟩,
 ⟨(some 52), none, .call 20 [(.tmp 51)], []⟩,
 ⟨(some 53), none, .buildSlice 30 [(.int .u8 0), (.int .u8 0), (.int .u8 0), (.int .u8 0), (.int .u8 0), (.int .u8 0), (.int .u8 0), (.int .u8 0), (.int .u8 0), (.int .u8 0), (.int .u8 0), (.int .u8 0), (.int .u8 0), (.int .u8 0), (.int .u8 0), (.int .u8 0), (.int .u8 0), (.int .u8 0), (.int .u8 0), (.int .u8 0), (.int .u8 0), (.int .u8 0), (.int .u8 0), (.int .u8 0), (.int .u8 0), (.int .u8 0), (.int .u8 0), (.int .u8 0), (.int .u8 0), (.int .u8 0), (.int .u8 0), (.int .u8 0)] 1 [(0, 32, (.tmp 52))], []⟩,
 ⟨(some 54), none, .append 30 32 32 (.tmp 50) (.tmp 53), []⟩,
 ⟨(some 55), none, .nilCheck (.tmp 46), []⟩,
 ⟨(some 56), none, .fieldAddr 4 (.tmp 55), []⟩,
 ⟨none, none, .store1 (.tmp 56) (.tmp 54), []⟩]))))
 (.ops [
 ⟨(some 57), none, .bin .add (.tmp 39) (.cst (.int .i64 1)), []⟩,
 ⟨(some 39), none, .move (.tmp 57), []⟩]))))
def k43_0 : ACode := (.seq (.ops [
 ⟨(some 58), none, .move (.tmp 9), []⟩,
 ⟨(some 4), none, .move (.tmp 58), []⟩,
 ⟨(some 5), none, .move (.cst (.int .i64 0)), []⟩])
 .ret)
def b43 : ACode := (.seq (.ops [
 ⟨(some 4), none, .move (.cst (.pointer none)), []⟩,
 ⟨(some 5), none, .move (.cst (.int .i64 0)), []⟩])
 (.seq (.ops [
 ⟨(some 13), none, .move (.tmp 0), []⟩,
 ⟨(some 14), none, .move (.tmp 1), []⟩,
 ⟨(some 15), none, .call 85 [(.tmp 13), (.tmp 14)], []⟩,
 ⟨(some 12), none, .move (.tmp 15), []⟩,
 ⟨(some 16), none, .extract 0 (.tmp 12), []⟩,
 ⟨(some 17), none, .extract 1 (.tmp 12), []⟩,
 ⟨(some 18), none, .extract 2 (.tmp 12), []⟩,
 ⟨(some 6), none, .move (.tmp 16), []⟩,
 ⟨(some 7), none, .move (.tmp 17), []⟩,
 ⟨(some 8), none, .move (.tmp 18), []⟩])
 (.seq (.seq (.ops [
 ⟨(some 19), none, .move (.tmp 8), []⟩,
 ⟨(some 20), none, .bin .eql (.tmp 19) (.cst (.int .i64 101)), []⟩,
 ⟨(some 21), none, .move (.tmp 20), []⟩,
 ⟨(some 22), (some (21, false)), .move (.tmp 8), []⟩,
 ⟨(some 23), (some (21, false)), .bin .eql (.tmp 22) (.cst (.int .i64 0)), []⟩,
 ⟨(some 24), (some (21, false)), .move (.tmp 23), []⟩,
 ⟨(some 25), (some (24, true)), .move (.tmp 7), []⟩,
 ⟨(some 26), (some (24, true)), .len (.tmp 25), []⟩,
 ⟨(some 27), (some (24, true)), .bin .gtr (.tmp 26) (.cst (.int .i64 65536)), []⟩,
 ⟨(some 28), (some (21, false)), .pick (.tmp 24) (.tmp 27) (.cst (.bool false)), []⟩,
 ⟨(some 29), none, .pick (.tmp 21) (.cst (.bool true)) (.tmp 28), []⟩])
 (.cond (.tmp 29)
 (.seq (.ops [
 ⟨(some 4), none, .move (.cst (.pointer none)), []⟩,
 ⟨(some 5), none, .move (.cst (.int .i64 233)), []⟩])
 .ret)
 .skip))
 (.seq (.seq (.ops [
 ⟨(some 30), none, .move (.tmp 8), []⟩,
 ⟨(some 31), none, .bin .neq (.tmp 30) (.cst (.int .i64 0)), []⟩])
 (.cond (.tmp 31)
 (.seq (.ops [
 ⟨(some 32), none, .move (.tmp 8), []⟩,
 ⟨(some 4), none, .move (.cst (.pointer none)), []⟩,
 ⟨(some 5), none, .move (.tmp 32), []⟩])
 .ret)
 .skip))
 (.seq (.ops [
 ⟨(some 33), none, .move (.tmp 6), []⟩,
 ⟨(some 34), none, .move (.tmp 7), []⟩,
 ⟨(some 35), none, .build [(.int .i32 0), (.int .u32 0), (.pointer none), (.slice none 0 0), (.slice none 0 0), (.int .i64 0)] [(2, 1, (.tmp 33)), (3, 1, (.tmp 34))], []⟩,
 ⟨(some 36), none, .box 171 (.tmp 35), []⟩,
 ⟨(some 9), none, .move (.tmp 36), []⟩])
 (.seq (.seq (.ops [
 ⟨(some 37), none, .move (.tmp 7), []⟩,
 ⟨(some 38), none, .len (.tmp 37), []⟩,
 ⟨(some 39), none, .move (.cst (.int .i64 0)), []⟩])
 (.block 0 (.loop lp43_0)))
 k43_0))))))
def r43 : List ARes := [.tmp 4, .tmp 5]
def a43 : AFn := ⟨b43, r43, 0⟩
def b45 : ACode := (.seq (.ops [
 ⟨(some 4), none, .move (.cst (.int .u64 0)), []⟩,
 ⟨(some 5), none, .move (.cst (.int .i64 0)), []⟩])
 (.seq (.ops [
 ⟨(some 7), none, .move (.tmp 0), []⟩,
 ⟨(some 8), none, .nilCheck (.tmp 7), []⟩,
 ⟨(some 9), none, .fieldAddr 0 (.tmp 8), []⟩,
 ⟨(some 10), none, .call 74 [(.tmp 9)], []⟩])
 (.seq (.ops [
 ⟨(some 11), none, .move (.tmp 0), []⟩,
 ⟨(some 12), none, .nilCheck (.tmp 11), []⟩,
 ⟨(some 13), none, .fieldAddr 0 (.tmp 12), []⟩,
 ⟨none, none, .defer (.cst (.func (.func 75) ⟨[]⟩ ⟨[]⟩)) [(.tmp 13)], []⟩])
 (.seq (.block 0 (.seq (.ops [
 ⟨(some 15), none, .move (.tmp 0), []⟩,
 ⟨(some 16), none, .nilCheck (.tmp 15), []⟩,
 ⟨(some 17), none, .fieldAddr 5 (.tmp 16), []⟩,
 ⟨(some 18), none, .load1 (.tmp 17), []⟩,
 ⟨(some 19), none, .bin .neq (.tmp 18) (.cst (.int .i64 0)), []⟩,
 ⟨(some 14), none, .move (.tmp 19), []⟩])
 (.cond (.tmp 14)
 (.seq (.ops [
 ⟨(some 4), none, .move (.cst (.int .u64 0)), []⟩,
 ⟨(some 5), none, .move (.cst (.int .i64 234)), []⟩])
 .ret)
 (.seq (.ops [
 ⟨(some 21), none, .move (.tmp 1), []⟩,
 ⟨(some 22), none, .len (.tmp 21), []⟩,
 ⟨(some 23), none, .bin .gtr (.tmp 22) (.cst (.int .i64 16384)), []⟩,
 ⟨(some 20), none, .move (.tmp 23), []⟩])
 (.cond (.tmp 20)
 (.seq (.ops [
 ⟨(some 4), none, .move (.cst (.int .u64 0)), []⟩,
 ⟨(some 5), none, .move (.cst (.int .i64 231)), []⟩])
 .ret)
 (.seq (.ops [
 ⟨(some 25), none, .move (.tmp 0), []⟩,
 ⟨(some 26), none, .nilCheck (.tmp 25), []⟩,
 ⟨(some 27), none, .fieldAddr 3 (.tmp 26), []⟩,
 ⟨(some 28), none, .load1 (.tmp 27), []⟩,
 ⟨(some 29), none, .len (.tmp 28), []⟩,
 ⟨(some 30), none, .bin .geq (.tmp 29) (.cst (.int .i64 65536)), []⟩,
 ⟨(some 24), none, .move (.tmp 30), []⟩])
 (.cond (.tmp 24)
 (.seq (.ops [
 ⟨(some 4), none, .move (.cst (.int .u64 0)), []⟩,
 ⟨(some 5), none, .move (.cst (.int .i64 232)), []⟩])
 .ret)
 .skip)))))))
 (.seq (.seq (.ops [
 ⟨(some 31), none, .move (.tmp 0), []⟩,
 ⟨(some 32), none, .nilCheck (.tmp 31), []⟩,
 ⟨(some 33), none, .fieldAddr 2 (.tmp 32), []⟩,
 ⟨(some 34), none, .load1 (.tmp 33), []⟩,
 ⟨(some 35), none, .move (.tmp 1), []⟩,
 ⟨(some 36), none, .call 86 [(.tmp 34), (.tmp 35)], []⟩,
 ⟨(some 6), none, .move (.tmp 36), []⟩])
 (.seq (.ops [
 ⟨(some 37), none, .move (.tmp 6), []⟩,
 ⟨(some 38), none, .bin .neq (.tmp 37) (.cst (.int .i64 0)), []⟩])
 (.cond (.tmp 38)
 (.seq (.ops [
 ⟨(some 39), none, .move (.tmp 0), []⟩,
 ⟨(some 40), none, .move (.tmp 6), []⟩,
 ⟨(some 41), none, .nilCheck (.tmp 39), []⟩,
 ⟨(some 42), none, .fieldAddr 5 (.tmp 41), []⟩,
 ⟨none, none, .store1 (.tmp 42) (.tmp 40), []⟩])
 (.seq (.ops [
 ⟨(some 4), none, .move (.cst (.int .u64 0)), []⟩,
 ⟨(some 5), none, .move (.cst (.int .i64 234)), []⟩])
 .ret))
 .skip)))
 (.seq (.draw [
 ⟨(some 43), none, .move (.tmp 0), []⟩,
 ⟨(some 44), none, .move (.tmp 0), []⟩,
 ⟨(some 45), none, .nilCheck (.tmp 44), []⟩,
 ⟨(some 46), none, .fieldAddr 3 (.tmp 45), []⟩,
 ⟨(some 47), none, .load1 (.tmp 46), [7, 8]⟩,
 ⟨(some 48), none, .move (.tmp 1), []⟩,
 ⟨(some 49), none, .call 87 [(.tmp 48)], []⟩,
 ⟨(some 50), none, .buildSlice 41 [(.slice none 0 0)] 1 [(0, 1, (.tmp 49))], []⟩,
 ⟨(some 51), none, .append 41 1 24 (.tmp 47) (.tmp 50), []⟩,
 ⟨(some 52), none, .nilCheck (.tmp 43), []⟩,
 ⟨(some 53), none, .fieldAddr 3 (.tmp 52), []⟩,
 ⟨none, none, .store1 (.tmp 53) (.tmp 51), []⟩])
 (.seq (.draw [
 ⟨(some 54), none, .move (.tmp 0), []⟩,
 ⟨(some 55), none, .move (.tmp 0), []⟩,
 ⟨(some 56), none, .nilCheck (.tmp 55), []⟩,
 ⟨(some 57), none, .fieldAddr 4 (.tmp 56), []⟩,
 ⟨(some 58), none, .load1 (.tmp 57), [8]⟩,
 ⟨(some 59), none, .move (.tmp 1), []⟩,
 ⟨(some 60), none, .call 20 [(.tmp 59)], []⟩,
 ⟨(some 61), none, .buildSlice 30 [(.int .u8 0), (.int .u8 0), (.int .u8 0), (.int .u8 0), (.int .u8 0), (.int .u8 0), (.int .u8 0), (.int .u8 0), (.int .u8 0), (.int .u8 0), (.int .u8 0), (.int .u8 0), (.int .u8 0), (.int .u8 0), (.int .u8 0), (.int .u8 0), (.int .u8 0), (.int .u8 0), (.int .u8 0), (.int .u8 0), (.int .u8 0), (.int .u8 0), (.int .u8 0), (.int .u8 0), (.int .u8 0), (.int .u8 0), (.int .u8 0), (.int .u8 0), (.int .u8 0), (.int .u8 0), (.int .u8 0), (.int .u8 0)] 1 [(0, 32, (.tmp 60))], []⟩,
 ⟨(some 62), none, .append 30 32 32 (.tmp 58) (.tmp 61), []⟩,
 ⟨(some 63), none, .nilCheck (.tmp 54), []⟩,
 ⟨(some 64), none, .fieldAddr 4 (.tmp 63), []⟩,
 ⟨none, none, .store1 (.tmp 64) (.tmp 62), []⟩])
 (.seq (.ops [
 ⟨(some 65), none, .move (.tmp 0), []⟩,
 ⟨(some 66), none, .nilCheck (.tmp 65), []⟩,
 ⟨(some 67), none, .fieldAddr 3 (.tmp 66), []⟩,
 ⟨(some 68), none, .load1 (.tmp 67), []⟩,
 ⟨(some 69), none, .len (.tmp 68), []⟩,
 ⟨(some 70), none, .bin .sub (.tmp 69) (.cst (.int .i64 1)), []⟩,
 ⟨(some 71), none, .convInt .u64 (.tmp 70), []⟩,
 ⟨(some 4), none, .move (.tmp 71), []⟩,
 ⟨(some 5), none, .move (.cst (.int .i64 0)), []⟩])
 .ret))))))))
def r45 : List ARes := [.tmp 4, .tmp 5]
def a45 : AFn := ⟨b45, r45, 0⟩
def b87 : ACode := (.seq (.ops [
 ⟨(some 2), none, .move (.cst (.slice none 0 0)), []⟩])
 (.seq (.seq (.ops [
 ⟨(some 3), none, .move (.tmp 0), []⟩,
 ⟨(some 4), none, .eq false .nilS (.tmp 3) (.cst (.slice none 0 0)), []⟩])
 (.cond (.tmp 4)
 (.seq (.ops [
 ⟨(some 2), none, .move (.cst (.slice none 0 0)), []⟩])
 .ret)
 .skip))
 (.seq (.ops [
 ⟨(some 5), none, .buildSlice 5 [] 0 [], []⟩,
 ⟨(some 6), none, .move (.tmp 0), []⟩,
 ⟨(some 7), none, .append 5 1 1 (.tmp 5) (.tmp 6), []⟩,
 ⟨(some 2), none, .move (.tmp 7), []⟩])
 .ret)))
def r87 : List ARes := [.tmp 2]
def a87 : AFn := ⟨b87, r87, 0⟩
def b115 : ACode := (.seq (.ops [
 ⟨(some 2), none, .move (.cst (.slice none 0 0)), []⟩])
 (.seq (.seq (.ops [
 ⟨(some 3), none, .move (.tmp 0), []⟩,
 ⟨(some 4), none, .eq false .nilS (.tmp 3) (.cst (.slice none 0 0)), []⟩])
 (.cond (.tmp 4)
 (.seq (.ops [
 ⟨(some 2), none, .move (.cst (.slice none 0 0)), []⟩])
 .ret)
 .skip))
 (.seq (.ops [
 ⟨(some 5), none, .buildSlice 5 [] 0 [], []⟩,
 ⟨(some 6), none, .move (.tmp 0), []⟩,
 ⟨(some 7), none, .append 5 1 1 (.tmp 5) (.tmp 6), []⟩,
 ⟨(some 2), none, .move (.tmp 7), []⟩])
 .ret)))
def r115 : List ARes := [.tmp 2]
def a115 : AFn := ⟨b115, r115, 0⟩
def b25 : ACode := (.seq (.ops [
 ⟨(some 4), none, .box 35 (.cst (.agg ⟨[(.int .u64 0), (.int .u8 0), (.int .u8 0), (.int .u8 0), (.int .u8 0), (.int .u8 0), (.int .u8 0), (.int .u8 0), (.int .u8 0), (.int .u8 0), (.int .u8 0), (.int .u8 0), (.int .u8 0), (.int .u8 0), (.int .u8 0), (.int .u8 0), (.int .u8 0), (.int .u8 0), (.int .u8 0), (.int .u8 0), (.int .u8 0), (.int .u8 0), (.int .u8 0), (.int .u8 0), (.int .u8 0), (.int .u8 0), (.int .u8 0), (.int .u8 0), (.int .u8 0), (.int .u8 0), (.int .u8 0), (.int .u8 0), (.int .u8 0)]⟩)), []⟩,
 ⟨(some 5), none, .move (.cst (.int .i64 0)), []⟩])
 (.seq (.ops [
 ⟨(some 9), none, .move (.tmp 0), []⟩,
 ⟨(some 10), none, .move (.tmp 1), []⟩,
 ⟨(some 11), none, .call 67 [(.tmp 9), (.tmp 10)], []⟩,
 ⟨(some 8), none, .move (.tmp 11), []⟩,
 ⟨(some 12), none, .extract 0 (.tmp 8), []⟩,
 ⟨(some 13), none, .extract 1 (.tmp 8), []⟩,
 ⟨(some 6), none, .move (.tmp 12), []⟩,
 ⟨(some 7), none, .move (.tmp 13), []⟩])
 (.seq (.seq (.ops [
 ⟨(some 14), none, .move (.tmp 7), []⟩,
 ⟨(some 15), none, .un .not (.tmp 14), []⟩])
 (.cond (.tmp 15)
 (.seq (.ops [
 ⟨(some 16), none, .build [(.int .u64 0), (.int .u8 0), (.int .u8 0), (.int .u8 0), (.int .u8 0), (.int .u8 0), (.int .u8 0), (.int .u8 0), (.int .u8 0), (.int .u8 0), (.int .u8 0), (.int .u8 0), (.int .u8 0), (.int .u8 0), (.int .u8 0), (.int .u8 0), (.int .u8 0), (.int .u8 0), (.int .u8 0), (.int .u8 0), (.int .u8 0), (.int .u8 0), (.int .u8 0), (.int .u8 0), (.int .u8 0), (.int .u8 0), (.int .u8 0), (.int .u8 0), (.int .u8 0), (.int .u8 0), (.int .u8 0), (.int .u8 0), (.int .u8 0)] [], []⟩,
 ⟨none, none, .storeN 33 (.tmp 4) (.tmp 16), []⟩,
 ⟨(some 5), none, .move (.cst (.int .i64 230)), []⟩])
 .ret)
 .skip))
 (.seq (.ops [
 ⟨(some 17), none, .move (.tmp 1), []⟩,
 ⟨(some 18), none, .move (.tmp 6), []⟩,
 ⟨(some 19), none, .call 68 [(.tmp 18)], []⟩,
 ⟨(some 20), none, .build [(.int .u64 0), (.int .u8 0), (.int .u8 0), (.int .u8 0), (.int .u8 0), (.int .u8 0), (.int .u8 0), (.int .u8 0), (.int .u8 0), (.int .u8 0), (.int .u8 0), (.int .u8 0), (.int .u8 0), (.int .u8 0), (.int .u8 0), (.int .u8 0), (.int .u8 0), (.int .u8 0), (.int .u8 0), (.int .u8 0), (.int .u8 0), (.int .u8 0), (.int .u8 0), (.int .u8 0), (.int .u8 0), (.int .u8 0), (.int .u8 0), (.int .u8 0), (.int .u8 0), (.int .u8 0), (.int .u8 0), (.int .u8 0), (.int .u8 0)] [(0, 1, (.tmp 17)), (1, 32, (.tmp 19))], []⟩,
 ⟨none, none, .storeN 33 (.tmp 4) (.tmp 20), []⟩,
 ⟨(some 5), none, .move (.cst (.int .i64 0)), []⟩])
 .ret))))
def r25 : List ARes := [.cellN 4 33, .tmp 5]
def a25 : AFn := ⟨b25, r25, 0⟩
def b67 : ACode := (.seq (.ops [
 ⟨(some 4), none, .move (.cst (.slice none 0 0)), []⟩,
 ⟨(some 5), none, .move (.cst (.bool false)), []⟩])
 (.seq (.ops [
 ⟨(some 6), none, .move (.tmp 0), []⟩,
 ⟨(some 7), none, .nilCheck (.tmp 6), []⟩,
 ⟨(some 8), none, .fieldAddr 0 (.tmp 7), []⟩,
 ⟨(some 9), none, .call 74 [(.tmp 8)], []⟩])
 (.seq (.ops [
 ⟨(some 10), none, .move (.tmp 0), []⟩,
 ⟨(some 11), none, .nilCheck (.tmp 10), []⟩,
 ⟨(some 12), none, .fieldAddr 0 (.tmp 11), []⟩,
 ⟨none, none, .defer (.cst (.func (.func 75) ⟨[]⟩ ⟨[]⟩)) [(.tmp 12)], []⟩])
 (.seq (.seq (.ops [
 ⟨(some 13), none, .move (.tmp 1), []⟩,
 ⟨(some 14), none, .move (.tmp 0), []⟩,
 ⟨(some 15), none, .nilCheck (.tmp 14), []⟩,
 ⟨(some 16), none, .fieldAddr 4 (.tmp 15), []⟩,
 ⟨(some 17), none, .load1 (.tmp 16), []⟩,
 ⟨(some 18), none, .len (.tmp 17), []⟩,
 ⟨(some 19), none, .convInt .u64 (.tmp 18), []⟩,
 ⟨(some 20), none, .bin .gtr (.tmp 13) (.tmp 19), []⟩])
 (.cond (.tmp 20)
 (.seq (.ops [
 ⟨(some 4), none, .move (.cst (.slice none 0 0)), []⟩,
 ⟨(some 5), none, .move (.cst (.bool false)), []⟩])
 .ret)
 .skip))
 (.seq (.ops [
 ⟨(some 21), none, .move (.tmp 0), []⟩,
 ⟨(some 22), none, .nilCheck (.tmp 21), []⟩,
 ⟨(some 23), none, .fieldAddr 4 (.tmp 22), []⟩,
 ⟨(some 24), none, .load1 (.tmp 23), []⟩,
 ⟨(some 25), none, .move (.tmp 1), []⟩,
 ⟨(some 26), none, .move (.tmp 1), []⟩,
 ⟨(some 27), none, .sliceSl 32 (.tmp 24) none (some (.tmp 25)) (some (.tmp 26)), []⟩,
 ⟨(some 4), none, .move (.tmp 27), []⟩,
 ⟨(some 5), none, .move (.cst (.bool true)), []⟩])
 .ret)))))
def r67 : List ARes := [.tmp 4, .tmp 5]
def a67 : AFn := ⟨b67, r67, 0⟩
def b68 : ACode := (.seq (.ops [
 ⟨(some 2), none, .box 30 (.cst (.agg ⟨[(.int .u8 0), (.int .u8 0), (.int .u8 0), (.int .u8 0), (.int .u8 0), (.int .u8 0), (.int .u8 0), (.int .u8 0), (.int .u8 0), (.int .u8 0), (.int .u8 0), (.int .u8 0), (.int .u8 0), (.int .u8 0), (.int .u8 0), (.int .u8 0), (.int .u8 0), (.int .u8 0), (.int .u8 0), (.int .u8 0), (.int .u8 0), (.int .u8 0), (.int .u8 0), (.int .u8 0), (.int .u8 0), (.int .u8 0), (.int .u8 0), (.int .u8 0), (.int .u8 0), (.int .u8 0), (.int .u8 0), (.int .u8 0)]⟩)), []⟩])
 (.seq (.seq (.ops [
 ⟨(some 4), none, .move (.tmp 0), []⟩,
 ⟨(some 5), none, .len (.tmp 4), []⟩])
 (.block 0 (.seq (.ops [
 ⟨(some 7), none, .bin .eql (.tmp 5) (.cst (.int .i64 0)), []⟩,
 ⟨(some 6), none, .move (.tmp 7), []⟩])
 (.cond (.tmp 6)
 (.seq (.ops [
 ⟨(some 8), none, .call 57 [(.cst (.slice none 0 0))], []⟩,
 ⟨none, none, .storeN 32 (.tmp 2) (.tmp 8), []⟩])
 .ret)
 (.seq (.ops [
 ⟨(some 10), none, .bin .eql (.tmp 5) (.cst (.int .i64 1)), []⟩,
 ⟨(some 9), none, .move (.tmp 10), []⟩])
 (.cond (.tmp 9)
 (.seq (.ops [
 ⟨(some 11), none, .move (.tmp 0), []⟩,
 ⟨(some 12), none, .idxAddrSl 32 (.tmp 11) (.cst (.int .i64 0)), []⟩,
 ⟨(some 13), none, .loadN 32 (.tmp 12), []⟩,
 ⟨none, none, .storeN 32 (.tmp 2) (.tmp 13), []⟩])
 .ret)
 .skip))))))
 (.seq (.ops [
 ⟨(some 14), none, .move (.tmp 0), []⟩,
 ⟨(some 15), none, .len (.tmp 14), []⟩,
 ⟨(some 16), none, .convInt .u64 (.tmp 15), []⟩,
 ⟨(some 17), none, .call 56 [(.tmp 16)], []⟩,
 ⟨(some 3), none, .move (.tmp 17), []⟩])
 (.seq (.draw [
 ⟨(some 18), none, .move (.tmp 0), []⟩,
 ⟨(some 19), none, .move (.tmp 3), []⟩,
 ⟨(some 20), none, .sliceSl 32 (.tmp 18) none (some (.tmp 19)) none, []⟩,
 ⟨(some 21), none, .call 68 [(.tmp 20)], []⟩,
 ⟨(some 22), none, .move (.tmp 0), []⟩,
 ⟨(some 23), none, .move (.tmp 3), []⟩,
 ⟨(some 24), none, .sliceSl 32 (.tmp 22) (some (.tmp 23)) none none, []⟩,
 ⟨(some 25), none, .call 68 [(.tmp 24)], []⟩,
 ⟨(some 26), none, .call 17 [(.tmp 21), (.tmp 25)], []⟩,
 ⟨none, none, .storeN 32 (.tmp 2) (.tmp 26), []⟩])
 .ret))))
def r68 : List ARes := [.cellN 2 32]
def a68 : AFn := ⟨b68, r68, 2⟩
def b26 : ACode := (.seq (.ops [
 ⟨(some 6), none, .move (.cst (.slice none 0 0)), []⟩,
 ⟨(some 7), none, .move (.cst (.int .i64 0)), []⟩])
 (.seq (.ops [
 ⟨(some 11), none, .move (.tmp 0), []⟩,
 ⟨(some 12), none, .move (.tmp 2), []⟩,
 ⟨(some 13), none, .call 67 [(.tmp 11), (.tmp 12)], []⟩,
 ⟨(some 10), none, .move (.tmp 13), []⟩,
 ⟨(some 14), none, .extract 0 (.tmp 10), []⟩,
 ⟨(some 15), none, .extract 1 (.tmp 10), []⟩,
 ⟨(some 8), none, .move (.tmp 14), []⟩,
 ⟨(some 9), none, .move (.tmp 15), []⟩])
 (.seq (.seq (.ops [
 ⟨(some 16), none, .move (.tmp 9), []⟩,
 ⟨(some 17), none, .un .not (.tmp 16), []⟩,
 ⟨(some 18), none, .move (.tmp 17), []⟩,
 ⟨(some 19), (some (18, false)), .move (.tmp 1), []⟩,
 ⟨(some 20), (some (18, false)), .move (.tmp 2), []⟩,
 ⟨(some 21), (some (18, false)), .bin .geq (.tmp 19) (.tmp 20), []⟩,
 ⟨(some 22), none, .pick (.tmp 18) (.cst (.bool true)) (.tmp 21), []⟩])
 (.cond (.tmp 22)
 (.seq (.ops [
 ⟨(some 6), none, .move (.cst (.slice none 0 0)), []⟩,
 ⟨(some 7), none, .move (.cst (.int .i64 230)), []⟩])
 .ret)
 .skip))
 (.seq (.ops [
 ⟨(some 23), none, .move (.tmp 8), []⟩,
 ⟨(some 24), none, .move (.tmp 1), []⟩,
 ⟨(some 25), none, .call 69 [(.tmp 23), (.tmp 24)], []⟩,
 ⟨(some 6), none, .move (.tmp 25), []⟩,
 ⟨(some 7), none, .move (.cst (.int .i64 0)), []⟩])
 .ret))))
def r26 : List ARes := [.tmp 6, .tmp 7]
def a26 : AFn := ⟨b26, r26, 0⟩
def b69 : ACode := (.seq (.ops [
 ⟨(some 4), none, .move (.cst (.slice none 0 0)), []⟩])
 (.seq (.seq (.ops [
 ⟨(some 6), none, .move (.tmp 0), []⟩,
 ⟨(some 7), none, .len (.tmp 6), []⟩,
 ⟨(some 8), none, .bin .eql (.tmp 7) (.cst (.int .i64 1)), []⟩])
 (.cond (.tmp 8)
 (.seq (.ops [
 ⟨(some 4), none, .move (.cst (.slice none 0 0)), []⟩])
 .ret)
 .skip))
 (.seq (.ops [
 ⟨(some 9), none, .move (.tmp 0), []⟩,
 ⟨(some 10), none, .len (.tmp 9), []⟩,
 ⟨(some 11), none, .convInt .u64 (.tmp 10), []⟩,
 ⟨(some 12), none, .call 56 [(.tmp 11)], []⟩,
 ⟨(some 5), none, .move (.tmp 12), []⟩])
 (.seq (.seq (.ops [
 ⟨(some 13), none, .move (.tmp 1), []⟩,
 ⟨(some 14), none, .move (.tmp 5), []⟩,
 ⟨(some 15), none, .bin .lss (.tmp 13) (.tmp 14), []⟩])
 (.cond (.tmp 15)
 (.seq (.draw [
 ⟨(some 16), none, .move (.tmp 0), []⟩,
 ⟨(some 17), none, .move (.tmp 5), []⟩,
 ⟨(some 18), none, .sliceSl 32 (.tmp 16) none (some (.tmp 17)) none, []⟩,
 ⟨(some 19), none, .move (.tmp 1), []⟩,
 ⟨(some 21), none, .move (.tmp 0), []⟩,
 ⟨(some 22), none, .move (.tmp 5), []⟩,
 ⟨(some 23), none, .sliceSl 32 (.tmp 21) (some (.tmp 22)) none none, [9]⟩,
 ⟨(some 20), none, .call 69 [(.tmp 18), (.tmp 19)], []⟩,
 ⟨(some 24), none, .call 68 [(.tmp 23)], []⟩,
 ⟨(some 25), none, .buildSlice 30 [(.int .u8 0), (.int .u8 0), (.int .u8 0), (.int .u8 0), (.int .u8 0), (.int .u8 0), (.int .u8 0), (.int .u8 0), (.int .u8 0), (.int .u8 0), (.int .u8 0), (.int .u8 0), (.int .u8 0), (.int .u8 0), (.int .u8 0), (.int .u8 0), (.int .u8 0), (.int .u8 0), (.int .u8 0), (.int .u8 0), (.int .u8 0), (.int .u8 0), (.int .u8 0), (.int .u8 0), (.int .u8 0), (.int .u8 0), (.int .u8 0), (.int .u8 0), (.int .u8 0), (.int .u8 0), (.int .u8 0), (.int .u8 0)] 1 [(0, 32, (.tmp 24))], []⟩,
 ⟨(some 26), none, .append 30 32 32 (.tmp 20) (.tmp 25), []⟩,
 ⟨(some 4), none, .move (.tmp 26), []⟩])
 .ret)
 .skip))
 (.seq (.draw [
 ⟨(some 27), none, .move (.tmp 0), []⟩,
 ⟨(some 28), none, .move (.tmp 5), []⟩,
 ⟨(some 29), none, .sliceSl 32 (.tmp 27) (some (.tmp 28)) none none, []⟩,
 ⟨(some 30), none, .move (.tmp 1), []⟩,
 ⟨(some 31), none, .move (.tmp 5), []⟩,
 ⟨(some 32), none, .bin .sub (.tmp 30) (.tmp 31), []⟩,
 ⟨(some 34), none, .move (.tmp 0), []⟩,
 ⟨(some 35), none, .move (.tmp 5), []⟩,
 ⟨(some 36), none, .sliceSl 32 (.tmp 34) none (some (.tmp 35)) none, [11]⟩,
 ⟨(some 33), none, .call 69 [(.tmp 29), (.tmp 32)], []⟩,
 ⟨(some 37), none, .call 68 [(.tmp 36)], []⟩,
 ⟨(some 38), none, .buildSlice 30 [(.int .u8 0), (.int .u8 0), (.int .u8 0), (.int .u8 0), (.int .u8 0), (.int .u8 0), (.int .u8 0), (.int .u8 0), (.int .u8 0), (.int .u8 0), (.int .u8 0), (.int .u8 0), (.int .u8 0), (.int .u8 0), (.int .u8 0), (.int .u8 0), (.int .u8 0), (.int .u8 0), (.int .u8 0), (.int .u8 0), (.int .u8 0), (.int .u8 0), (.int .u8 0), (.int .u8 0), (.int .u8 0), (.int .u8 0), (.int .u8 0), (.int .u8 0), (.int .u8 0), (.int .u8 0), (.int .u8 0), (.int .u8 0)] 1 [(0, 32, (.tmp 37))], []⟩,
 ⟨(some 39), none, .append 30 32 32 (.tmp 33) (.tmp 38), []⟩,
 ⟨(some 4), none, .move (.tmp 39), []⟩])
 .ret)))))
def r69 : List ARes := [.tmp 4]
def a69 : AFn := ⟨b69, r69, 0⟩
def b30 : ACode := (.seq (.ops [
 ⟨(some 6), none, .move (.cst (.slice none 0 0)), []⟩,
 ⟨(some 7), none, .move (.cst (.int .i64 0)), []⟩])
 (.seq (.ops [
 ⟨(some 11), none, .move (.tmp 0), []⟩,
 ⟨(some 12), none, .move (.tmp 2), []⟩,
 ⟨(some 13), none, .call 67 [(.tmp 11), (.tmp 12)], []⟩,
 ⟨(some 10), none, .move (.tmp 13), []⟩,
 ⟨(some 14), none, .extract 0 (.tmp 10), []⟩,
 ⟨(some 15), none, .extract 1 (.tmp 10), []⟩,
 ⟨(some 8), none, .move (.tmp 14), []⟩,
 ⟨(some 9), none, .move (.tmp 15), []⟩])
 (.seq (.seq (.ops [
 ⟨(some 16), none, .move (.tmp 9), []⟩,
 ⟨(some 17), none, .un .not (.tmp 16), []⟩,
 ⟨(some 18), none, .move (.tmp 17), []⟩,
 ⟨(some 19), (some (18, false)), .move (.tmp 1), []⟩,
 ⟨(some 20), (some (18, false)), .move (.tmp 2), []⟩,
 ⟨(some 21), (some (18, false)), .bin .gtr (.tmp 19) (.tmp 20), []⟩,
 ⟨(some 22), none, .pick (.tmp 18) (.cst (.bool true)) (.tmp 21), []⟩])
 (.cond (.tmp 22)
 (.seq (.ops [
 ⟨(some 6), none, .move (.cst (.slice none 0 0)), []⟩,
 ⟨(some 7), none, .move (.cst (.int .i64 230)), []⟩])
 .ret)
 .skip))
 (.seq (.seq (.ops [
 ⟨(some 23), none, .move (.tmp 1), []⟩,
 ⟨(some 24), none, .bin .eql (.tmp 23) (.cst (.int .u64 0)), []⟩])
 (.cond (.tmp 24)
 (.seq (.ops [
 ⟨(some 6), none, .move (.cst (.slice none 0 0)), []⟩,
 ⟨(some 7), none, .move (.cst (.int .i64 0)), []⟩])
 .ret)
 .skip))
 (.seq (.ops [
 ⟨(some 25), none, .move (.tmp 8), []⟩,
 ⟨(some 26), none, .move (.tmp 1), []⟩,
 ⟨(some 27), none, .call 72 [(.tmp 25), (.tmp 26), (.cst (.bool true))], []⟩,
 ⟨(some 6), none, .move (.tmp 27), []⟩,
 ⟨(some 7), none, .move (.cst (.int .i64 0)), []⟩])
 .ret)))))
def r30 : List ARes := [.tmp 6, .tmp 7]
def a30 : AFn := ⟨b30, r30, 0⟩
def b72 : ACode := (.seq (.ops [
 ⟨(some 6), none, .move (.cst (.slice none 0 0)), []⟩])
 (.seq (.ops [
 ⟨(some 9), none, .move (.tmp 0), []⟩,
 ⟨(some 10), none, .len (.tmp 9), []⟩,
 ⟨(some 11), none, .convInt .u64 (.tmp 10), []⟩,
 ⟨(some 7), none, .move (.tmp 11), []⟩])
 (.seq (.block 0 (.seq (.ops [
 ⟨(some 13), none, .move (.tmp 1), []⟩,
 ⟨(some 14), none, .move (.tmp 7), []⟩,
 ⟨(some 15), none, .bin .eql (.tmp 13) (.tmp 14), []⟩,
 ⟨(some 16), none, .move (.tmp 15), []⟩,
 ⟨(some 17), (some (16, true)), .move (.tmp 2), []⟩,
 ⟨(some 18), none, .pick (.tmp 16) (.tmp 17) (.cst (.bool false)), []⟩,
 ⟨(some 12), none, .move (.tmp 18), []⟩])
 (.cond (.tmp 12)
 (.seq (.ops [
 ⟨(some 6), none, .move (.cst (.slice none 0 0)), []⟩])
 .ret)
 (.seq (.ops [
 ⟨(some 20), none, .move (.tmp 1), []⟩,
 ⟨(some 21), none, .move (.tmp 7), []⟩,
 ⟨(some 22), none, .bin .eql (.tmp 20) (.tmp 21), []⟩,
 ⟨(some 19), none, .move (.tmp 22), []⟩])
 (.cond (.tmp 19)
 (.seq (.ops [
 ⟨(some 23), none, .move (.tmp 0), []⟩,
 ⟨(some 24), none, .call 68 [(.tmp 23)], []⟩,
 ⟨(some 25), none, .buildSlice 30 [(.int .u8 0), (.int .u8 0), (.int .u8 0), (.int .u8 0), (.int .u8 0), (.int .u8 0), (.int .u8 0), (.int .u8 0), (.int .u8 0), (.int .u8 0), (.int .u8 0), (.int .u8 0), (.int .u8 0), (.int .u8 0), (.int .u8 0), (.int .u8 0), (.int .u8 0), (.int .u8 0), (.int .u8 0), (.int .u8 0), (.int .u8 0), (.int .u8 0), (.int .u8 0), (.int .u8 0), (.int .u8 0), (.int .u8 0), (.int .u8 0), (.int .u8 0), (.int .u8 0), (.int .u8 0), (.int .u8 0), (.int .u8 0)] 1 [(0, 32, (.tmp 24))], []⟩,
 ⟨(some 6), none, .move (.tmp 25), []⟩])
 .ret)
 .skip)))))
 (.seq (.ops [
 ⟨(some 26), none, .move (.tmp 7), []⟩,
 ⟨(some 27), none, .call 56 [(.tmp 26)], []⟩,
 ⟨(some 8), none, .move (.tmp 27), []⟩])
 (.seq (.seq (.ops [
 ⟨(some 28), none, .move (.tmp 1), []⟩,
 ⟨(some 29), none, .move (.tmp 8), []⟩,
 ⟨(some 30), none, .bin .leq (.tmp 28) (.tmp 29), []⟩])
 (.cond (.tmp 30)
 (.seq (.draw [
 ⟨(some 31), none, .move (.tmp 0), []⟩,
 ⟨(some 32), none, .move (.tmp 8), []⟩,
 ⟨(some 33), none, .sliceSl 32 (.tmp 31) none (some (.tmp 32)) none, []⟩,
 ⟨(some 34), none, .move (.tmp 1), []⟩,
 ⟨(some 35), none, .move (.tmp 2), []⟩,
 ⟨(some 37), none, .move (.tmp 0), []⟩,
 ⟨(some 38), none, .move (.tmp 8), []⟩,
 ⟨(some 39), none, .sliceSl 32 (.tmp 37) (some (.tmp 38)) none none, [10]⟩,
 ⟨(some 36), none, .call 72 [(.tmp 33), (.tmp 34), (.tmp 35)], []⟩,
 ⟨(some 40), none, .call 68 [(.tmp 39)], []⟩,
 ⟨(some 41), none, .buildSlice 30 [(.int .u8 0), (.int .u8 0), (.int .u8 0), (.int .u8 0), (.int .u8 0), (.int .u8 0), (.int .u8 0), (.int .u8 0), (.int .u8 0), (.int .u8 0), (.int .u8 0), (.int .u8 0), (.int .u8 0), (.int .u8 0), (.int .u8 0), (.int .u8 0), (.int .u8 0), (.int .u8 0), (.int .u8 0), (.int .u8 0), (.int .u8 0), (.int .u8 0), (.int .u8 0), (.int .u8 0), (.int .u8 0), (.int .u8 0), (.int .u8 0), (.int .u8 0), (.int .u8 0), (.int .u8 0), (.int .u8 0), (.int .u8 0)] 1 [(0, 32, (.tmp 40))], []⟩,
 ⟨(some 42), none, .append 30 32 32 (.tmp 36) (.tmp 41), []⟩,
 ⟨(some 6), none, .move (.tmp 42), []⟩])
 .ret)
 .skip))
 (.seq (.draw [
 ⟨(some 43), none, .move (.tmp 0), []⟩,
 ⟨(some 44), none, .move (.tmp 8), []⟩,
 ⟨(some 45), none, .sliceSl 32 (.tmp 43) (some (.tmp 44)) none none, []⟩,
 ⟨(some 46), none, .move (.tmp 1), []⟩,
 ⟨(some 47), none, .move (.tmp 8), []⟩,
 ⟨(some 48), none, .bin .sub (.tmp 46) (.tmp 47), []⟩,
 ⟨(some 50), none, .move (.tmp 0), []⟩,
 ⟨(some 51), none, .move (.tmp 8), []⟩,
 ⟨(some 52), none, .sliceSl 32 (.tmp 50) none (some (.tmp 51)) none, [11]⟩,
 ⟨(some 49), none, .call 72 [(.tmp 45), (.tmp 48), (.cst (.bool false))], []⟩,
 ⟨(some 53), none, .call 68 [(.tmp 52)], []⟩,
 ⟨(some 54), none, .buildSlice 30 [(.int .u8 0), (.int .u8 0), (.int .u8 0), (.int .u8 0), (.int .u8 0), (.int .u8 0), (.int .u8 0), (.int .u8 0), (.int .u8 0), (.int .u8 0), (.int .u8 0), (.int .u8 0), (.int .u8 0), (.int .u8 0), (.int .u8 0), (.int .u8 0), (.int .u8 0), (.int .u8 0), (.int .u8 0), (.int .u8 0), (.int .u8 0), (.int .u8 0), (.int .u8 0), (.int .u8 0), (.int .u8 0), (.int .u8 0), (.int .u8 0), (.int .u8 0), (.int .u8 0), (.int .u8 0), (.int .u8 0), (.int .u8 0)] 1 [(0, 32, (.tmp 53))], []⟩,
 ⟨(some 55), none, .append 30 32 32 (.tmp 49) (.tmp 54), []⟩,
 ⟨(some 6), none, .move (.tmp 55), []⟩])
 .ret))))))
def r72 : List ARes := [.tmp 6]
def a72 : AFn := ⟨b72, r72, 0⟩
def b56 : ACode := (.seq (.ops [
 ⟨(some 2), none, .move (.cst (.int .u64 0)), []⟩])
 (.seq (.ops [
 ⟨(some 3), none, .move (.tmp 0), []⟩,
 ⟨(some 4), none, .bin .sub (.tmp 3) (.cst (.int .u64 1)), []⟩,
 ⟨(some 5), none, .call 106 [(.tmp 4)], []⟩,
 ⟨(some 6), none, .bin .sub (.tmp 5) (.cst (.int .i64 1)), []⟩,
 ⟨(some 7), none, .bin .shl (.cst (.int .u64 1)) (.tmp 6), []⟩,
 ⟨(some 2), none, .move (.tmp 7), []⟩])
 .ret))
def r56 : List ARes := [.tmp 2]
def a56 : AFn := ⟨b56, r56, 3⟩
def b106 : ACode := (.seq (.ops [
 ⟨(some 2), none, .move (.cst (.int .i64 0)), []⟩])
 (.seq (.seq (.ops [
 ⟨(some 3), none, .move (.tmp 0), []⟩,
 ⟨(some 4), none, .bin .geq (.tmp 3) (.cst (.int .u64 4294967296)), []⟩])
 (.cond (.tmp 4)
 (.seq (.ops [
 ⟨(some 5), none, .move (.tmp 0), []⟩,
 ⟨(some 6), none, .bin .shr (.tmp 5) (.cst (.int .u64 32)), []⟩,
 ⟨(some 0), none, .move (.tmp 6), []⟩])
 (.ops [
 ⟨(some 2), none, .move (.cst (.int .i64 32)), []⟩]))
 .skip))
 (.seq (.seq (.ops [
 ⟨(some 7), none, .move (.tmp 0), []⟩,
 ⟨(some 8), none, .bin .geq (.tmp 7) (.cst (.int .u64 65536)), []⟩])
 (.cond (.tmp 8)
 (.seq (.ops [
 ⟨(some 9), none, .move (.tmp 0), []⟩,
 ⟨(some 10), none, .bin .shr (.tmp 9) (.cst (.int .u64 16)), []⟩,
 ⟨(some 0), none, .move (.tmp 10), []⟩])
 (.ops [
 ⟨(some 11), none, .move (.tmp 2), []⟩,
 ⟨(some 12), none, .bin .add (.tmp 11) (.cst (.int .i64 16)), []⟩,
 ⟨(some 2), none, .move (.tmp 12), []⟩]))
 .skip))
 (.seq (.seq (.ops [
 ⟨(some 13), none, .move (.tmp 0), []⟩,
 ⟨(some 14), none, .bin .geq (.tmp 13) (.cst (.int .u64 256)), []⟩])
 (.cond (.tmp 14)
 (.seq (.ops [
 ⟨(some 15), none, .move (.tmp 0), []⟩,
 ⟨(some 16), none, .bin .shr (.tmp 15) (.cst (.int .u64 8)), []⟩,
 ⟨(some 0), none, .move (.tmp 16), []⟩])
 (.ops [
 ⟨(some 17), none, .move (.tmp 2), []⟩,
 ⟨(some 18), none, .bin .add (.tmp 17) (.cst (.int .i64 8)), []⟩,
 ⟨(some 2), none, .move (.tmp 18), []⟩]))
 .skip))
 (.seq (.ops [
 ⟨(some 19), none, .move (.tmp 2), []⟩,
 ⟨(some 20), none, .move (.tmp 0), []⟩,
 ⟨(some 21), none, .convInt .u8 (.tmp 20), []⟩,
 ⟨(some 22), none, .idxStr (.cst (.string ⟨⟨[0, 1, 2, 2, 3, 3, 3, 3, 4, 4, 4, 4, 4, 4, 4, 4, 5, 5, 5, 5, 5, 5, 5, 5, 5, 5, 5, 5, 5, 5, 5, 5, 6, 6, 6, 6, 6, 6, 6, 6, 6, 6, 6, 6, 6, 6, 6, 6, 6, 6, 6, 6, 6, 6, 6, 6, 6, 6, 6, 6, 6, 6, 6, 6, 7, 7, 7, 7, 7, 7, 7, 7, 7, 7, 7, 7, 7, 7, 7, 7, 7, 7, 7, 7, 7, 7, 7, 7, 7, 7, 7, 7, 7, 7, 7, 7, 7, 7, 7, 7, 7, 7, 7, 7, 7, 7, 7, 7, 7, 7, 7, 7, 7, 7, 7, 7, 7, 7, 7, 7, 7, 7, 7, 7, 7, 7, 7, 7, 8, 8, 8, 8, 8, 8, 8, 8, 8, 8, 8, 8, 8, 8, 8, 8, 8, 8, 8, 8, 8, 8, 8, 8, 8, 8, 8, 8, 8, 8, 8, 8, 8, 8, 8, 8, 8, 8, 8, 8, 8, 8, 8, 8, 8, 8, 8, 8, 8, 8, 8, 8, 8, 8, 8, 8, 8, 8, 8, 8, 8, 8, 8, 8, 8, 8, 8, 8, 8, 8, 8, 8, 8, 8, 8, 8, 8, 8, 8, 8, 8, 8, 8, 8, 8, 8, 8, 8, 8, 8, 8, 8, 8, 8, 8, 8, 8, 8, 8, 8, 8, 8, 8, 8, 8, 8, 8, 8, 8, 8, 8, 8, 8, 8, 8, 8, 8, 8, 8, 8, 8, 8, 8, 8, 8, 8, 8, 8]⟩⟩)) (.tmp 21), []⟩,
 ⟨(some 23), none, .convInt .i64 (.tmp 22), []⟩,
 ⟨(some 24), none, .bin .add (.tmp 19) (.tmp 23), []⟩,
 ⟨(some 2), none, .move (.tmp 24), []⟩])
 .ret)))))
def r106 : List ARes := [.tmp 2]
def a106 : AFn := ⟨b106, r106, 3⟩
def lp12_0 : ACode := (.seq (.ops [
 ⟨(some 28), none, .bin .lss (.tmp 27) (.tmp 26), []⟩])
 (.seq (.cond (.tmp 28)
 .skip
 (.exit 0))
 (.seq (.block 1 (.seq (.ops [
 ⟨(some 29), none, .move (.tmp 27), []⟩,
 ⟨(some 30), none, .idxAddrSl 1 (.tmp 25) (.tmp 27), []⟩,
 ⟨(some 31), none, .load1 (.tmp 30), []⟩,
 ⟨(some 10), none, .move (.tmp 29), []⟩,
 ⟨(some 11), none, .move (.tmp 31), []⟩])
 (.seq (.ops [
 ⟨(some 32), none, .move (.tmp 11), []⟩])
 (.cond (.tmp 32)
 (.draw [
 ⟨(some 33), none, .move (.tmp 3), []⟩,
 ⟨(some 34), none, .move (.tmp 10), []⟩,
 ⟨(some 35), none, .idxAddrSl 32 (.tmp 33) (.tmp 34), []⟩,
 ⟨(some 36), none, .loadN 32 (.tmp 35), []⟩,
 ⟨(some 37), none, .loadN 32 (.tmp 6), []⟩,
 ⟨(some 38), none, .call 17 [(.tmp 36), (.tmp 37)], []⟩,
 ⟨none, none, .storeN 32 (.tmp 6) (.tmp 38), []⟩])
 (.draw [
 ⟨(some 39), none, .loadN 32 (.tmp 6), []⟩,
 ⟨(some 40), none, .move (.tmp 3), []⟩,
 ⟨(some 41), none, .move (.tmp 10), []⟩,
 ⟨(some 42), none, .idxAddrSl 32 (.tmp 40) (.tmp 41), []⟩,
 ⟨(some 43), none, .loadN 32 (.tmp 42), []⟩,
 ⟨(some 44), none, .call 17 [(.tmp 39), (.tmp 43)], []⟩,
 ⟨none, none, .storeN 32 (.tmp 6) (.tmp 44), []⟩])))))
 (.ops [
 ⟨(some 45), none, .bin .add (.tmp 27) (.cst (.int .i64 1)), []⟩,
 ⟨(some 27), none, .move (.tmp 45), []⟩]))))
def k12_0 : ACode := (.seq (.seq (.ops [
 ⟨(some 46), none, .loadN 32 (.tmp 6), []⟩,
 ⟨(some 47), none, .fieldAddr 1 (.tmp 4), []⟩,
 ⟨(some 48), none, .loadN 32 (.tmp 47), []⟩,
 ⟨(some 49), none, .eq true (.flat [.i, .i, .i, .i, .i, .i, .i, .i, .i, .i, .i, .i, .i, .i, .i, .i, .i, .i, .i, .i, .i, .i, .i, .i, .i, .i, .i, .i, .i, .i, .i, .i]) (.tmp 46) (.tmp 48), []⟩])
 (.cond (.tmp 49)
 (.seq (.ops [
 ⟨(some 8), none, .move (.cst (.int .i64 236)), []⟩])
 .ret)
 .skip))
 (.seq (.ops [
 ⟨(some 8), none, .move (.cst (.int .i64 0)), []⟩])
 .ret))
def b12 : ACode := (.seq (.ops [
 ⟨(some 4), none, .box 35 (.tmp 0), []⟩,
 ⟨(some 6), none, .box 30 (.tmp 2), []⟩,
 ⟨(some 8), none, .move (.cst (.int .i64 0)), []⟩])
 (.seq (.seq (.ops [
 ⟨(some 12), none, .move (.tmp 1), []⟩,
 ⟨(some 13), none, .fieldAddr 0 (.tmp 4), []⟩,
 ⟨(some 14), none, .load1 (.tmp 13), []⟩,
 ⟨(some 15), none, .bin .geq (.tmp 12) (.tmp 14), []⟩])
 (.cond (.tmp 15)
 (.seq (.ops [
 ⟨(some 8), none, .move (.cst (.int .i64 230)), []⟩])
 .ret)
 .skip))
 (.seq (.ops [
 ⟨(some 16), none, .move (.tmp 1), []⟩,
 ⟨(some 17), none, .fieldAddr 0 (.tmp 4), []⟩,
 ⟨(some 18), none, .load1 (.tmp 17), []⟩,
 ⟨(some 19), none, .call 53 [(.tmp 16), (.tmp 18)], []⟩,
 ⟨(some 9), none, .move (.tmp 19), []⟩])
 (.seq (.seq (.ops [
 ⟨(some 20), none, .move (.tmp 9), []⟩,
 ⟨(some 21), none, .len (.tmp 20), []⟩,
 ⟨(some 22), none, .move (.tmp 3), []⟩,
 ⟨(some 23), none, .len (.tmp 22), []⟩,
 ⟨(some 24), none, .bin .neq (.tmp 21) (.tmp 23), []⟩])
 (.cond (.tmp 24)
 (.seq (.ops [
 ⟨(some 8), none, .move (.cst (.int .i64 235)), []⟩])
 .ret)
 .skip))
 (.seq (.seq (.ops [
 ⟨(some 25), none, .move (.tmp 9), []⟩,
 ⟨(some 26), none, .len (.tmp 25), []⟩,
 ⟨(some 27), none, .move (.cst (.int .i64 0)), []⟩])
 (.block 0 (.loop lp12_0)))
 k12_0)))))
def r12 : List ARes := [.tmp 8]
def a12 : AFn := ⟨b12, r12, 2⟩
def lp53_0 : ACode := (.seq (.seq (.ops [
 ⟨(some 8), none, .move (.tmp 1), []⟩,
 ⟨(some 9), none, .bin .gtr (.tmp 8) (.cst (.int .u64 1)), []⟩])
 (.cond (.tmp 9)
 .skip
 (.exit 0)))
 (.block 1 (.seq (.ops [
 ⟨(some 10), none, .move (.tmp 1), []⟩,
 ⟨(some 11), none, .call 56 [(.tmp 10)], []⟩,
 ⟨(some 6), none, .move (.tmp 11), []⟩])
 (.seq (.ops [
 ⟨(some 12), none, .move (.tmp 0), []⟩,
 ⟨(some 13), none, .move (.tmp 6), []⟩,
 ⟨(some 14), none, .bin .lss (.tmp 12) (.tmp 13), []⟩])
 (.cond (.tmp 14)
 (.seq (.ops [
 ⟨(some 15), none, .move (.tmp 6), []⟩,
 ⟨(some 1), none, .move (.tmp 15), []⟩])
 (.ops [
 ⟨(some 16), none, .move (.tmp 5), []⟩,
 ⟨(some 17), none, .buildSlice 4 [(.bool false)] 1 [(0, 1, (.cst (.bool false)))], []⟩,
 ⟨(some 18), none, .append 4 1 1 (.tmp 16) (.tmp 17), []⟩,
 ⟨(some 5), none, .move (.tmp 18), []⟩]))
 (.seq (.ops [
 ⟨(some 19), none, .move (.tmp 0), []⟩,
 ⟨(some 20), none, .move (.tmp 6), []⟩,
 ⟨(some 21), none, .bin .sub (.tmp 19) (.tmp 20), []⟩,
 ⟨(some 22), none, .move (.tmp 1), []⟩,
 ⟨(some 23), none, .move (.tmp 6), []⟩,
 ⟨(some 24), none, .bin .sub (.tmp 22) (.tmp 23), []⟩,
 ⟨(some 0), none, .move (.tmp 21), []⟩,
 ⟨(some 1), none, .move (.tmp 24), []⟩])
 (.ops [
 ⟨(some 25), none, .move (.tmp 5), []⟩,
 ⟨(some 26), none, .buildSlice 4 [(.bool false)] 1 [(0, 1, (.cst (.bool true)))], []⟩,
 ⟨(some 27), none, .append 4 1 1 (.tmp 25) (.tmp 26), []⟩,
 ⟨(some 5), none, .move (.tmp 27), []⟩])))))))
def lp53_1 : ACode := (.seq (.ops [
 ⟨(some 32), none, .bin .lss (.tmp 31) (.tmp 30), []⟩])
 (.seq (.cond (.tmp 32)
 .skip
 (.exit 2))
 (.seq (.block 3 (.seq (.ops [
 ⟨(some 33), none, .move (.tmp 31), []⟩,
 ⟨(some 7), none, .move (.tmp 33), []⟩])
 (.draw [
 ⟨(some 34), none, .move (.tmp 5), []⟩,
 ⟨(some 35), none, .move (.tmp 7), []⟩,
 ⟨(some 36), none, .move (.tmp 5), []⟩,
 ⟨(some 37), none, .move (.tmp 5), []⟩,
 ⟨(some 38), none, .len (.tmp 37), []⟩,
 ⟨(some 39), none, .bin .sub (.tmp 38) (.cst (.int .i64 1)), []⟩,
 ⟨(some 40), none, .move (.tmp 7), []⟩,
 ⟨(some 41), none, .bin .sub (.tmp 39) (.tmp 40), []⟩,
 ⟨(some 42), none, .move (.tmp 5), []⟩,
 ⟨(some 43), none, .move (.tmp 5), []⟩,
 ⟨(some 44), none, .len (.tmp 43), []⟩,
 ⟨(some 45), none, .bin .sub (.tmp 44) (.cst (.int .i64 1)), []⟩,
 ⟨(some 46), none, .move (.tmp 7), []⟩,
 ⟨(some 47), none, .bin .sub (.tmp 45) (.tmp 46), []⟩,
 ⟨(some 48), none, .idxAddrSl 1 (.tmp 42) (.tmp 47), []⟩,
 ⟨(some 49), none, .load1 (.tmp 48), []⟩,
 ⟨(some 50), none, .move (.tmp 5), []⟩,
 ⟨(some 51), none, .move (.tmp 7), []⟩,
 ⟨(some 52), none, .idxAddrSl 1 (.tmp 50) (.tmp 51), []⟩,
 ⟨(some 53), none, .load1 (.tmp 52), []⟩,
 ⟨(some 54), none, .idxAddrSl 1 (.tmp 34) (.tmp 35), []⟩,
 ⟨none, none, .store1 (.tmp 54) (.tmp 49), []⟩,
 ⟨(some 55), none, .idxAddrSl 1 (.tmp 36) (.tmp 41), []⟩,
 ⟨none, none, .store1 (.tmp 55) (.tmp 53), []⟩])))
 (.ops [
 ⟨(some 56), none, .bin .add (.tmp 31) (.cst (.int .i64 1)), []⟩,
 ⟨(some 31), none, .move (.tmp 56), []⟩]))))
def k53_0 : ACode := (.seq (.ops [
 ⟨(some 57), none, .move (.tmp 5), []⟩,
 ⟨(some 4), none, .move (.tmp 57), []⟩])
 .ret)
def k53_1 : ACode := (.seq (.seq (.ops [
 ⟨(some 28), none, .move (.tmp 5), []⟩,
 ⟨(some 29), none, .len (.tmp 28), []⟩,
 ⟨(some 30), none, .bin .quo (.tmp 29) (.cst (.int .i64 2)), []⟩,
 ⟨(some 31), none, .move (.cst (.int .i64 0)), []⟩])
 (.block 2 (.loop lp53_1)))
 k53_0)
def b53 : ACode := (.seq (.ops [
 ⟨(some 4), none, .move (.cst (.slice none 0 0)), []⟩])
 (.seq (.ops [
 ⟨(some 5), none, .move (.cst (.slice none 0 0)), []⟩])
 (.seq (.block 0 (.loop lp53_0))
 k53_1)))
def r53 : List ARes := [.tmp 4]
def a53 : AFn := ⟨b53, r53, 0⟩
def lp14_0 : ACode := (.seq (.seq (.ops [
 ⟨(some 28), none, .move (.tmp 8), []⟩,
 ⟨(some 29), none, .bin .gtr (.tmp 28) (.cst (.int .u64 0)), []⟩,
 ⟨(some 30), none, .move (.tmp 29), []⟩,
 ⟨(some 31), (some (30, true)), .move (.tmp 8), []⟩,
 ⟨(some 32), (some (30, true)), .move (.tmp 9), []⟩,
 ⟨(some 33), (some (30, true)), .bin .lss (.tmp 31) (.tmp 32), []⟩,
 ⟨(some 34), none, .pick (.tmp 30) (.tmp 33) (.cst (.bool false)), []⟩])
 (.cond (.tmp 34)
 .skip
 (.exit 0)))
 (.block 1 (.seq (.ops [
 ⟨(some 35), none, .move (.tmp 9), []⟩,
 ⟨(some 36), none, .call 56 [(.tmp 35)], []⟩,
 ⟨(some 10), none, .move (.tmp 36), []⟩])
 (.seq (.ops [
 ⟨(some 37), none, .move (.tmp 7), []⟩,
 ⟨(some 38), none, .move (.tmp 8), []⟩,
 ⟨(some 39), none, .move (.tmp 10), []⟩,
 ⟨(some 40), none, .bin .gtr (.tmp 38) (.tmp 39), []⟩,
 ⟨(some 41), none, .buildSlice 4 [(.bool false)] 1 [(0, 1, (.tmp 40))], []⟩,
 ⟨(some 42), none, .append 4 1 1 (.tmp 37) (.tmp 41), []⟩,
 ⟨(some 7), none, .move (.tmp 42), []⟩])
 (.seq (.ops [
 ⟨(some 43), none, .move (.tmp 8), []⟩,
 ⟨(some 44), none, .move (.tmp 10), []⟩,
 ⟨(some 45), none, .bin .gtr (.tmp 43) (.tmp 44), []⟩])
 (.cond (.tmp 45)
 (.ops [
 ⟨(some 46), none, .move (.tmp 8), []⟩,
 ⟨(some 47), none, .move (.tmp 10), []⟩,
 ⟨(some 48), none, .bin .sub (.tmp 46) (.tmp 47), []⟩,
 ⟨(some 49), none, .move (.tmp 9), []⟩,
 ⟨(some 50), none, .move (.tmp 10), []⟩,
 ⟨(some 51), none, .bin .sub (.tmp 49) (.tmp 50), []⟩,
 ⟨(some 8), none, .move (.tmp 48), []⟩,
 ⟨(some 9), none, .move (.tmp 51), []⟩])
 (.ops [
 ⟨(some 52), none, .move (.tmp 10), []⟩,
 ⟨(some 9), none, .move (.tmp 52), []⟩])))))))
def lp14_1 : ACode := (.seq (.ops [
 ⟨(some 56), none, .bin .lss (.tmp 55) (.tmp 54), []⟩])
 (.seq (.cond (.tmp 56)
 .skip
 (.exit 2))
 (.seq (.block 3 (.seq (.ops [
 ⟨(some 57), none, .idxAddrSl 1 (.tmp 53) (.tmp 55), []⟩,
 ⟨(some 58), none, .load1 (.tmp 57), []⟩,
 ⟨(some 13), none, .move (.tmp 58), []⟩])
 (.seq (.ops [
 ⟨(some 59), none, .move (.tmp 13), []⟩])
 (.cond (.tmp 59)
 (.ops [
 ⟨(some 11), none, .move (.cst (.int .i64 1)), []⟩])
 .skip))))
 (.ops [
 ⟨(some 60), none, .bin .add (.tmp 55) (.cst (.int .i64 1)), []⟩,
 ⟨(some 55), none, .move (.tmp 60), []⟩]))))
def lp14_2 : ACode := (.seq (.seq (.ops [
 ⟨(some 98), none, .move (.tmp 17), []⟩,
 ⟨(some 99), none, .bin .geq (.tmp 98) (.cst (.int .i64 0)), []⟩])
 (.cond (.tmp 99)
 .skip
 (.exit 4)))
 (.seq (.block 5 (.seq (.ops [
 ⟨(some 102), none, .move (.tmp 2), []⟩,
 ⟨(some 103), none, .move (.tmp 11), []⟩,
 ⟨(some 104), none, .move (.tmp 7), []⟩,
 ⟨(some 105), none, .len (.tmp 104), []⟩,
 ⟨(some 106), none, .bin .add (.tmp 103) (.tmp 105), []⟩,
 ⟨(some 107), none, .bin .sub (.tmp 106) (.cst (.int .i64 1)), []⟩,
 ⟨(some 108), none, .move (.tmp 17), []⟩,
 ⟨(some 109), none, .bin .sub (.tmp 107) (.tmp 108), []⟩,
 ⟨(some 110), none, .idxAddrSl 32 (.tmp 102) (.tmp 109), []⟩,
 ⟨(some 111), none, .loadN 32 (.tmp 110), []⟩,
 ⟨(some 18), none, .box 30 (.cst (.agg ⟨[(.int .u8 0), (.int .u8 0), (.int .u8 0), (.int .u8 0), (.int .u8 0), (.int .u8 0), (.int .u8 0), (.int .u8 0), (.int .u8 0), (.int .u8 0), (.int .u8 0), (.int .u8 0), (.int .u8 0), (.int .u8 0), (.int .u8 0), (.int .u8 0), (.int .u8 0), (.int .u8 0), (.int .u8 0), (.int .u8 0), (.int .u8 0), (.int .u8 0), (.int .u8 0), (.int .u8 0), (.int .u8 0), (.int .u8 0), (.int .u8 0), (.int .u8 0), (.int .u8 0), (.int .u8 0), (.int .u8 0), (.int .u8 0)]⟩)), []⟩,
 ⟨none, none, .storeN 32 (.tmp 18) (.tmp 111), []⟩])
 (.seq (.ops [
 ⟨(some 112), none, .move (.tmp 7), []⟩,
 ⟨(some 113), none, .move (.tmp 17), []⟩,
 ⟨(some 114), none, .idxAddrSl 1 (.tmp 112) (.tmp 113), []⟩,
 ⟨(some 115), none, .load1 (.tmp 114), []⟩])
 (.cond (.tmp 115)
 (.draw [
 ⟨(some 116), none, .loadN 32 (.tmp 18), []⟩,
 ⟨(some 117), none, .loadN 32 (.tmp 15), []⟩,
 ⟨(some 118), none, .call 17 [(.tmp 116), (.tmp 117)], []⟩,
 ⟨(some 119), none, .loadN 32 (.tmp 18), []⟩,
 ⟨(some 120), none, .loadN 32 (.tmp 16), []⟩,
 ⟨(some 121), none, .call 17 [(.tmp 119), (.tmp 120)], []⟩,
 ⟨none, none, .storeN 32 (.tmp 15) (.tmp 118), []⟩,
 ⟨none, none, .storeN 32 (.tmp 16) (.tmp 121), []⟩])
 (.ops [
 ⟨(some 122), none, .loadN 32 (.tmp 16), []⟩,
 ⟨(some 123), none, .loadN 32 (.tmp 18), []⟩,
 ⟨(some 124), none, .call 17 [(.tmp 122), (.tmp 123)], []⟩,
 ⟨none, none, .storeN 32 (.tmp 16) (.tmp 124), []⟩])))))
 (.ops [
 ⟨(some 100), none, .move (.tmp 17), []⟩,
 ⟨(some 101), none, .bin .sub (.tmp 100) (.cst (.int .i64 1)), []⟩,
 ⟨(some 17), none, .move (.tmp 101), []⟩])))
def k14_0 : ACode := (.seq (.seq (.ops [
 ⟨(some 125), none, .loadN 32 (.tmp 15), []⟩,
 ⟨(some 126), none, .fieldAddr 1 (.tmp 3), []⟩,
 ⟨(some 127), none, .loadN 32 (.tmp 126), []⟩,
 ⟨(some 128), none, .eq true (.flat [.i, .i, .i, .i, .i, .i, .i, .i, .i, .i, .i, .i, .i, .i, .i, .i, .i, .i, .i, .i, .i, .i, .i, .i, .i, .i, .i, .i, .i, .i, .i, .i]) (.tmp 125) (.tmp 127), []⟩,
 ⟨(some 129), none, .move (.tmp 128), []⟩,
 ⟨(some 130), (some (129, false)), .loadN 32 (.tmp 16), []⟩,
 ⟨(some 131), (some (129, false)), .fieldAddr 1 (.tmp 4), []⟩,
 ⟨(some 132), (some (129, false)), .loadN 32 (.tmp 131), []⟩,
 ⟨(some 133), (some (129, false)), .eq true (.flat [.i, .i, .i, .i, .i, .i, .i, .i, .i, .i, .i, .i, .i, .i, .i, .i, .i, .i, .i, .i, .i, .i, .i, .i, .i, .i, .i, .i, .i, .i, .i, .i]) (.tmp 130) (.tmp 132), []⟩,
 ⟨(some 134), none, .pick (.tmp 129) (.cst (.bool true)) (.tmp 133), []⟩])
 (.cond (.tmp 134)
 (.seq (.ops [
 ⟨(some 6), none, .move (.cst (.int .i64 236)), []⟩])
 .ret)
 .skip))
 (.seq (.ops [
 ⟨(some 6), none, .move (.cst (.int .i64 0)), []⟩])
 .ret))
def k14_1 : ACode := (.seq (.seq (.ops [
 ⟨(some 61), none, .move (.tmp 2), []⟩,
 ⟨(some 62), none, .len (.tmp 61), []⟩,
 ⟨(some 63), none, .move (.tmp 11), []⟩,
 ⟨(some 64), none, .move (.tmp 7), []⟩,
 ⟨(some 65), none, .len (.tmp 64), []⟩,
 ⟨(some 66), none, .bin .add (.tmp 63) (.tmp 65), []⟩,
 ⟨(some 67), none, .bin .neq (.tmp 62) (.tmp 66), []⟩])
 (.cond (.tmp 67)
 (.seq (.ops [
 ⟨(some 6), none, .move (.cst (.int .i64 235)), []⟩])
 .ret)
 .skip))
 (.seq (.ops [
 ⟨(some 68), none, .call 57 [(.cst (.slice none 0 0))], []⟩,
 ⟨(some 14), none, .box 30 (.cst (.agg ⟨[(.int .u8 0), (.int .u8 0), (.int .u8 0), (.int .u8 0), (.int .u8 0), (.int .u8 0), (.int .u8 0), (.int .u8 0), (.int .u8 0), (.int .u8 0), (.int .u8 0), (.int .u8 0), (.int .u8 0), (.int .u8 0), (.int .u8 0), (.int .u8 0), (.int .u8 0), (.int .u8 0), (.int .u8 0), (.int .u8 0), (.int .u8 0), (.int .u8 0), (.int .u8 0), (.int .u8 0), (.int .u8 0), (.int .u8 0), (.int .u8 0), (.int .u8 0), (.int .u8 0), (.int .u8 0), (.int .u8 0), (.int .u8 0)]⟩)), []⟩,
 ⟨none, none, .storeN 32 (.tmp 14) (.tmp 68), []⟩])
 (.seq (.seq (.ops [
 ⟨(some 69), none, .fieldAddr 0 (.tmp 3), []⟩,
 ⟨(some 70), none, .load1 (.tmp 69), []⟩,
 ⟨(some 71), none, .bin .eql (.tmp 70) (.cst (.int .u64 0)), []⟩])
 (.cond (.tmp 71)
 (.seq (.seq (.ops [
 ⟨(some 72), none, .fieldAddr 1 (.tmp 3), []⟩,
 ⟨(some 73), none, .loadN 32 (.tmp 72), []⟩,
 ⟨(some 74), none, .loadN 32 (.tmp 14), []⟩,
 ⟨(some 75), none, .eq true (.flat [.i, .i, .i, .i, .i, .i, .i, .i, .i, .i, .i, .i, .i, .i, .i, .i, .i, .i, .i, .i, .i, .i, .i, .i, .i, .i, .i, .i, .i, .i, .i, .i]) (.tmp 73) (.tmp 74), []⟩,
 ⟨(some 76), none, .move (.tmp 75), []⟩,
 ⟨(some 77), (some (76, false)), .fieldAddr 0 (.tmp 4), []⟩,
 ⟨(some 78), (some (76, false)), .load1 (.tmp 77), []⟩,
 ⟨(some 79), (some (76, false)), .bin .eql (.tmp 78) (.cst (.int .u64 0)), []⟩,
 ⟨(some 80), (some (76, false)), .move (.tmp 79), []⟩,
 ⟨(some 81), (some (80, true)), .fieldAddr 1 (.tmp 4), []⟩,
 ⟨(some 82), (some (80, true)), .loadN 32 (.tmp 81), []⟩,
 ⟨(some 83), (some (80, true)), .loadN 32 (.tmp 14), []⟩,
 ⟨(some 84), (some (80, true)), .eq true (.flat [.i, .i, .i, .i, .i, .i, .i, .i, .i, .i, .i, .i, .i, .i, .i, .i, .i, .i, .i, .i, .i, .i, .i, .i, .i, .i, .i, .i, .i, .i, .i, .i]) (.tmp 82) (.tmp 83), []⟩,
 ⟨(some 85), (some (76, false)), .pick (.tmp 80) (.tmp 84) (.cst (.bool false)), []⟩,
 ⟨(some 86), none, .pick (.tmp 76) (.cst (.bool true)) (.tmp 85), []⟩])
 (.cond (.tmp 86)
 (.seq (.ops [
 ⟨(some 6), none, .move (.cst (.int .i64 236)), []⟩])
 .ret)
 .skip))
 (.seq (.ops [
 ⟨(some 6), none, .move (.cst (.int .i64 0)), []⟩])
 .ret))
 .skip))
 (.seq (.ops [
 ⟨(some 87), none, .fieldAddr 1 (.tmp 3), []⟩,
 ⟨(some 88), none, .loadN 32 (.tmp 87), []⟩,
 ⟨(some 15), none, .box 30 (.cst (.agg ⟨[(.int .u8 0), (.int .u8 0), (.int .u8 0), (.int .u8 0), (.int .u8 0), (.int .u8 0), (.int .u8 0), (.int .u8 0), (.int .u8 0), (.int .u8 0), (.int .u8 0), (.int .u8 0), (.int .u8 0), (.int .u8 0), (.int .u8 0), (.int .u8 0), (.int .u8 0), (.int .u8 0), (.int .u8 0), (.int .u8 0), (.int .u8 0), (.int .u8 0), (.int .u8 0), (.int .u8 0), (.int .u8 0), (.int .u8 0), (.int .u8 0), (.int .u8 0), (.int .u8 0), (.int .u8 0), (.int .u8 0), (.int .u8 0)]⟩)), []⟩,
 ⟨none, none, .storeN 32 (.tmp 15) (.tmp 88), []⟩])
 (.seq (.seq (.ops [
 ⟨(some 89), none, .move (.tmp 11), []⟩,
 ⟨(some 90), none, .bin .eql (.tmp 89) (.cst (.int .i64 1)), []⟩])
 (.cond (.tmp 90)
 (.ops [
 ⟨(some 91), none, .move (.tmp 2), []⟩,
 ⟨(some 92), none, .idxAddrSl 32 (.tmp 91) (.cst (.int .i64 0)), []⟩,
 ⟨(some 93), none, .loadN 32 (.tmp 92), []⟩,
 ⟨none, none, .storeN 32 (.tmp 15) (.tmp 93), []⟩])
 .skip))
 (.seq (.ops [
 ⟨(some 94), none, .loadN 32 (.tmp 15), []⟩,
 ⟨(some 16), none, .box 30 (.cst (.agg ⟨[(.int .u8 0), (.int .u8 0), (.int .u8 0), (.int .u8 0), (.int .u8 0), (.int .u8 0), (.int .u8 0), (.int .u8 0), (.int .u8 0), (.int .u8 0), (.int .u8 0), (.int .u8 0), (.int .u8 0), (.int .u8 0), (.int .u8 0), (.int .u8 0), (.int .u8 0), (.int .u8 0), (.int .u8 0), (.int .u8 0), (.int .u8 0), (.int .u8 0), (.int .u8 0), (.int .u8 0), (.int .u8 0), (.int .u8 0), (.int .u8 0), (.int .u8 0), (.int .u8 0), (.int .u8 0), (.int .u8 0), (.int .u8 0)]⟩)), []⟩,
 ⟨none, none, .storeN 32 (.tmp 16) (.tmp 94), []⟩])
 (.seq (.seq (.ops [
 ⟨(some 95), none, .move (.tmp 7), []⟩,
 ⟨(some 96), none, .len (.tmp 95), []⟩,
 ⟨(some 97), none, .bin .sub (.tmp 96) (.cst (.int .i64 1)), []⟩,
 ⟨(some 17), none, .move (.tmp 97), []⟩])
 (.block 4 (.loop lp14_2)))
 k14_0)))))))
def k14_2 : ACode := (.seq (.ops [
 ⟨(some 11), none, .move (.cst (.int .i64 0)), []⟩])
 (.seq (.seq (.ops [
 ⟨(some 53), none, .move (.tmp 7), []⟩,
 ⟨(some 54), none, .len (.tmp 53), []⟩,
 ⟨(some 55), none, .move (.cst (.int .i64 0)), []⟩])
 (.block 2 (.loop lp14_1)))
 k14_1))
def b14 : ACode := (.seq (.ops [
 ⟨(some 3), none, .box 35 (.tmp 0), []⟩,
 ⟨(some 4), none, .box 35 (.tmp 1), []⟩,
 ⟨(some 6), none, .move (.cst (.int .i64 0)), []⟩])
 (.seq (.seq (.ops [
 ⟨(some 19), none, .fieldAddr 0 (.tmp 3), []⟩,
 ⟨(some 20), none, .load1 (.tmp 19), []⟩,
 ⟨(some 21), none, .fieldAddr 0 (.tmp 4), []⟩,
 ⟨(some 22), none, .load1 (.tmp 21), []⟩,
 ⟨(some 23), none, .bin .gtr (.tmp 20) (.tmp 22), []⟩])
 (.cond (.tmp 23)
 (.seq (.ops [
 ⟨(some 6), none, .move (.cst (.int .i64 230)), []⟩])
 .ret)
 .skip))
 (.seq (.ops [
 ⟨(some 7), none, .move (.cst (.slice none 0 0)), []⟩])
 (.seq (.draw [
 ⟨(some 24), none, .fieldAddr 0 (.tmp 3), []⟩,
 ⟨(some 25), none, .load1 (.tmp 24), []⟩,
 ⟨(some 26), none, .fieldAddr 0 (.tmp 4), []⟩,
 ⟨(some 27), none, .load1 (.tmp 26), []⟩,
 ⟨(some 8), none, .move (.tmp 25), []⟩,
 ⟨(some 9), none, .move (.tmp 27), []⟩])
 (.seq (.block 0 (.loop lp14_0))
 k14_2)))))
def r14 : List ARes := [.tmp 6]
def a14 : AFn := ⟨b14, r14, 2⟩
def b35 : ACode := (.seq (.ops [
 ⟨(some 2), none, .move (.cst (.int .u64 0)), []⟩])
 (.seq (.ops [
 ⟨(some 3), none, .move (.tmp 0), []⟩,
 ⟨(some 4), none, .nilCheck (.tmp 3), []⟩,
 ⟨(some 5), none, .fieldAddr 0 (.tmp 4), []⟩,
 ⟨(some 6), none, .call 74 [(.tmp 5)], []⟩])
 (.seq (.ops [
 ⟨(some 7), none, .move (.tmp 0), []⟩,
 ⟨(some 8), none, .nilCheck (.tmp 7), []⟩,
 ⟨(some 9), none, .fieldAddr 0 (.tmp 8), []⟩,
 ⟨none, none, .defer (.cst (.func (.func 75) ⟨[]⟩ ⟨[]⟩)) [(.tmp 9)], []⟩])
 (.seq (.ops [
 ⟨(some 10), none, .move (.tmp 0), []⟩,
 ⟨(some 11), none, .nilCheck (.tmp 10), []⟩,
 ⟨(some 12), none, .fieldAddr 3 (.tmp 11), []⟩,
 ⟨(some 13), none, .load1 (.tmp 12), []⟩,
 ⟨(some 14), none, .len (.tmp 13), []⟩,
 ⟨(some 15), none, .convInt .u64 (.tmp 14), []⟩,
 ⟨(some 2), none, .move (.tmp 15), []⟩])
 .ret))))
def r35 : List ARes := [.tmp 2]
def a35 : AFn := ⟨b35, r35, 0⟩
def b46 : ACode := (.seq (.ops [
 ⟨(some 2), none, .move (.cst (.int .i64 0)), []⟩])
 (.seq (.ops [
 ⟨(some 3), none, .move (.tmp 0), []⟩,
 ⟨(some 4), none, .nilCheck (.tmp 3), []⟩,
 ⟨(some 5), none, .fieldAddr 0 (.tmp 4), []⟩,
 ⟨(some 6), none, .call 74 [(.tmp 5)], []⟩])
 (.seq (.ops [
 ⟨(some 7), none, .move (.tmp 0), []⟩,
 ⟨(some 8), none, .nilCheck (.tmp 7), []⟩,
 ⟨(some 9), none, .fieldAddr 0 (.tmp 8), []⟩,
 ⟨none, none, .defer (.cst (.func (.func 75) ⟨[]⟩ ⟨[]⟩)) [(.tmp 9)], []⟩])
 (.seq (.ops [
 ⟨(some 10), none, .move (.tmp 0), []⟩,
 ⟨(some 11), none, .nilCheck (.tmp 10), []⟩,
 ⟨(some 12), none, .fieldAddr 5 (.tmp 11), []⟩,
 ⟨(some 13), none, .load1 (.tmp 12), []⟩,
 ⟨(some 2), none, .move (.tmp 13), []⟩])
 .ret))))
def r46 : List ARes := [.tmp 2]
def a46 : AFn := ⟨b46, r46, 0⟩

structure Tab_LLog (C : Ctx) : Prop where
  h74 : C.T 74 = some (.fn a74)
  h75 : C.T 75 = some (.fn a75)
  h112 : C.T 112 = some (.fn a112)
  h113 : C.T 113 = some (.fn a113)
  h84 : C.T 84 = some (.fn a84)
  h42 : C.T 42 = some (.fn a42)
  h148 : C.T 148 = some (.fn a148)
  h157 : C.T 157 = some (.fn a157)
  h93 : C.T 93 = some (.fn a93)
  h158 : C.T 158 = some (.fn a158)
  h159 : C.T 159 = some (.fn a159)
  h160 : C.T 160 = some (.fn a160)
  h161 : C.T 161 = some (.fn a161)
  h85 : C.T 85 = some (.fn a85)
  h86 : C.T 86 = some (.fn a86)
  h151 : C.T 151 = some (.fn a151)
  h114 : C.T 114 = some (.fn a114)
  h216 : C.T 216 = some (.fn a216)
  h43 : C.T 43 = some (.fn a43)
  h45 : C.T 45 = some (.fn a45)
  h87 : C.T 87 = some (.fn a87)
  h115 : C.T 115 = some (.fn a115)
  h25 : C.T 25 = some (.fn a25)
  h67 : C.T 67 = some (.fn a67)
  h68 : C.T 68 = some (.fn a68)
  h26 : C.T 26 = some (.fn a26)
  h69 : C.T 69 = some (.fn a69)
  h30 : C.T 30 = some (.fn a30)
  h72 : C.T 72 = some (.fn a72)
  h56 : C.T 56 = some (.fn a56)
  h106 : C.T 106 = some (.fn a106)
  h12 : C.T 12 = some (.fn a12)
  h53 : C.T 53 = some (.fn a53)
  h14 : C.T 14 = some (.fn a14)
  h35 : C.T 35 = some (.fn a35)
  h46 : C.T 46 = some (.fn a46)
  x184 : C.T 184 = some (.ext (.nop 0))
  x185 : C.T 185 = some (.ext .cas32)
  x186 : C.T 186 = some (.ext (.nop 0))
  x187 : C.T 187 = some (.ext (.nop 1))
  x189 : C.T 189 = some (.ext (.nop 1))
  x190 : C.T 190 = some (.ext .add32)
end Go.Ab.Aud

namespace Go.Ab.Aud
def lp180_0 : ACode := (.seq (.ops [
 ⟨(some 17), none, .bin .lss (.tmp 16) (.cst (.int .i64 64)), []⟩])
 (.seq (.cond (.tmp 17)
 .skip
 (.exit 0))
 (.seq (.block 1 (.seq (.ops [
 ⟨(some 18), none, .move (.tmp 16), []⟩,
 ⟨(some 5), none, .move (.tmp 18), []⟩])
 (.seq (.seq (.ops [
 ⟨(some 19), none, .move (.tmp 5), []⟩,
 ⟨(some 20), none, .bin .lss (.tmp 19) (.cst (.int .i64 16)), []⟩])
 (.cond (.tmp 20)
 (.seq (.draw [
 ⟨(some 21), none, .move (.tmp 5), []⟩,
 ⟨(some 22), none, .move (.tmp 1), []⟩,
 ⟨(some 23), none, .move (.tmp 5), []⟩,
 ⟨(some 24), none, .bin .mul (.cst (.int .i64 4)) (.tmp 23), []⟩,
 ⟨(some 25), none, .idxAddrSl 1 (.tmp 22) (.tmp 24), []⟩,
 ⟨(some 26), none, .load1 (.tmp 25), []⟩,
 ⟨(some 27), none, .convInt .u32 (.tmp 26), []⟩,
 ⟨(some 28), none, .bin .shl (.tmp 27) (.cst (.int .u64 24)), []⟩,
 ⟨(some 29), none, .move (.tmp 1), []⟩,
 ⟨(some 30), none, .move (.tmp 5), []⟩,
 ⟨(some 31), none, .bin .mul (.cst (.int .i64 4)) (.tmp 30), []⟩,
 ⟨(some 32), none, .bin .add (.tmp 31) (.cst (.int .i64 1)), []⟩,
 ⟨(some 33), none, .idxAddrSl 1 (.tmp 29) (.tmp 32), []⟩,
 ⟨(some 34), none, .load1 (.tmp 33), []⟩,
 ⟨(some 35), none, .convInt .u32 (.tmp 34), []⟩,
 ⟨(some 36), none, .bin .shl (.tmp 35) (.cst (.int .u64 16)), []⟩,
 ⟨(some 37), none, .bin .or (.tmp 28) (.tmp 36), []⟩,
 ⟨(some 38), none, .move (.tmp 1), []⟩,
 ⟨(some 39), none, .move (.tmp 5), []⟩,
 ⟨(some 40), none, .bin .mul (.cst (.int .i64 4)) (.tmp 39), []⟩,
 ⟨(some 41), none, .bin .add (.tmp 40) (.cst (.int .i64 2)), []⟩,
 ⟨(some 42), none, .idxAddrSl 1 (.tmp 38) (.tmp 41), []⟩,
 ⟨(some 43), none, .load1 (.tmp 42), []⟩,
 ⟨(some 44), none, .convInt .u32 (.tmp 43), []⟩,
 ⟨(some 45), none, .bin .shl (.tmp 44) (.cst (.int .u64 8)), []⟩,
 ⟨(some 46), none, .bin .or (.tmp 37) (.tmp 45), []⟩,
 ⟨(some 47), none, .move (.tmp 1), []⟩,
 ⟨(some 48), none, .move (.tmp 5), []⟩,
 ⟨(some 49), none, .bin .mul (.cst (.int .i64 4)) (.tmp 48), []⟩,
 ⟨(some 50), none, .bin .add (.tmp 49) (.cst (.int .i64 3)), []⟩,
 ⟨(some 51), none, .idxAddrSl 1 (.tmp 47) (.tmp 50), []⟩,
 ⟨(some 52), none, .load1 (.tmp 51), []⟩,
 ⟨(some 53), none, .convInt .u32 (.tmp 52), []⟩,
 ⟨(some 54), none, .bin .or (.tmp 46) (.tmp 53), []⟩,
 ⟨(some 55), none, .idxAddrArr 1 64 (.tmp 4) (.tmp 21), []⟩,
 ⟨none, none, .store1 (.tmp 55) (.tmp 54), []⟩])
 (.exit 1))
 .skip))
 (.seq (.draw [
 ⟨(some 56), none, .move (.tmp 5), []⟩,
 ⟨(some 57), none, .bin .sub (.tmp 56) (.cst (.int .i64 15)), []⟩,
 ⟨(some 58), none, .idxAddrArr 1 64 (.tmp 4) (.tmp 57), []⟩,
 ⟨(some 59), none, .load1 (.tmp 58), []⟩,
 ⟨(some 60), none, .move (.tmp 5), []⟩,
 ⟨(some 61), none, .bin .sub (.tmp 60) (.cst (.int .i64 2)), []⟩,
 ⟨(some 62), none, .idxAddrArr 1 64 (.tmp 4) (.tmp 61), []⟩,
 ⟨(some 63), none, .load1 (.tmp 62), []⟩,
 ⟨(some 6), none, .move (.tmp 59), []⟩,
 ⟨(some 7), none, .move (.tmp 63), []⟩])
 (.draw [
 ⟨(some 64), none, .move (.tmp 5), []⟩,
 ⟨(some 65), none, .move (.tmp 5), []⟩,
 ⟨(some 66), none, .bin .sub (.tmp 65) (.cst (.int .i64 16)), []⟩,
 ⟨(some 67), none, .idxAddrArr 1 64 (.tmp 4) (.tmp 66), []⟩,
 ⟨(some 68), none, .load1 (.tmp 67), []⟩,
 ⟨(some 69), none, .move (.tmp 6), []⟩,
 ⟨(some 70), none, .call 230 [(.tmp 69), (.cst (.int .i64 7))], []⟩,
 ⟨(some 71), none, .move (.tmp 6), []⟩,
 ⟨(some 72), none, .call 230 [(.tmp 71), (.cst (.int .i64 18))], []⟩,
 ⟨(some 73), none, .bin .xor (.tmp 70) (.tmp 72), []⟩,
 ⟨(some 74), none, .move (.tmp 6), []⟩,
 ⟨(some 75), none, .bin .shr (.tmp 74) (.cst (.int .u64 3)), []⟩,
 ⟨(some 76), none, .bin .xor (.tmp 73) (.tmp 75), []⟩,
 ⟨(some 77), none, .bin .add (.tmp 68) (.tmp 76), []⟩,
 ⟨(some 78), none, .move (.tmp 5), []⟩,
 ⟨(some 79), none, .bin .sub (.tmp 78) (.cst (.int .i64 7)), []⟩,
 ⟨(some 80), none, .idxAddrArr 1 64 (.tmp 4) (.tmp 79), []⟩,
 ⟨(some 81), none, .load1 (.tmp 80), []⟩,
 ⟨(some 82), none, .bin .add (.tmp 77) (.tmp 81), []⟩,
 ⟨(some 83), none, .move (.tmp 7), []⟩,
 ⟨(some 84), none, .call 230 [(.tmp 83), (.cst (.int .i64 17))], []⟩,
 ⟨(some 85), none, .move (.tmp 7), []⟩,
 ⟨(some 86), none, .call 230 [(.tmp 85), (.cst (.int .i64 19))], []⟩,
 ⟨(some 87), none, .bin .xor (.tmp 84) (.tmp 86), []⟩,
 ⟨(some 88), none, .move (.tmp 7), []⟩,
 ⟨(some 89), none, .bin .shr (.tmp 88) (.cst (.int .u64 10)), []⟩,
 ⟨(some 90), none, .bin .xor (.tmp 87) (.tmp 89), []⟩,
 ⟨(some 91), none, .bin .add (.tmp 82) (.tmp 90), []⟩,
 ⟨(some 92), none, .idxAddrArr 1 64 (.tmp 4) (.tmp 64), []⟩,
 ⟨none, none, .store1 (.tmp 92) (.tmp 91), []⟩])))))
 (.ops [
 ⟨(some 93), none, .bin .add (.tmp 16) (.cst (.int .i64 1)), []⟩,
 ⟨(some 16), none, .move (.tmp 93), []⟩]))))
def lp180_1 : ACode := (.seq (.ops [
 ⟨(some 99), none, .bin .lss (.tmp 98) (.cst (.int .i64 64)), []⟩])
 (.seq (.cond (.tmp 99)
 .skip
 (.exit 2))
 (.seq (.block 3 (.seq (.ops [
 ⟨(some 100), none, .move (.tmp 98), []⟩,
 ⟨(some 9), none, .move (.tmp 100), []⟩])
 (.seq (.draw [
 ⟨(some 101), none, .idxAddrArr 1 8 (.tmp 8) (.cst (.int .i64 0)), []⟩,
 ⟨(some 102), none, .load1 (.tmp 101), []⟩,
 ⟨(some 103), none, .idxAddrArr 1 8 (.tmp 8) (.cst (.int .i64 4)), []⟩,
 ⟨(some 104), none, .load1 (.tmp 103), []⟩,
 ⟨(some 10), none, .move (.tmp 102), []⟩,
 ⟨(some 11), none, .move (.tmp 104), []⟩])
 (.seq (.draw [
 ⟨(some 105), none, .idxAddrArr 1 8 (.tmp 8) (.cst (.int .i64 7)), []⟩,
 ⟨(some 106), none, .load1 (.tmp 105), []⟩,
 ⟨(some 107), none, .move (.tmp 11), []⟩,
 ⟨(some 108), none, .call 230 [(.tmp 107), (.cst (.int .i64 6))], []⟩,
 ⟨(some 109), none, .move (.tmp 11), []⟩,
 ⟨(some 110), none, .call 230 [(.tmp 109), (.cst (.int .i64 11))], []⟩,
 ⟨(some 111), none, .bin .xor (.tmp 108) (.tmp 110), []⟩,
 ⟨(some 112), none, .move (.tmp 11), []⟩,
 ⟨(some 113), none, .call 230 [(.tmp 112), (.cst (.int .i64 25))], []⟩,
 ⟨(some 114), none, .bin .xor (.tmp 111) (.tmp 113), []⟩,
 ⟨(some 115), none, .bin .add (.tmp 106) (.tmp 114), []⟩,
 ⟨(some 116), none, .move (.tmp 11), []⟩,
 ⟨(some 117), none, .idxAddrArr 1 8 (.tmp 8) (.cst (.int .i64 5)), []⟩,
 ⟨(some 118), none, .load1 (.tmp 117), []⟩,
 ⟨(some 119), none, .bin .and (.tmp 116) (.tmp 118), []⟩,
 ⟨(some 120), none, .move (.tmp 11), []⟩,
 ⟨(some 121), none, .un .xor (.tmp 120), []⟩,
 ⟨(some 122), none, .idxAddrArr 1 8 (.tmp 8) (.cst (.int .i64 6)), []⟩,
 ⟨(some 123), none, .load1 (.tmp 122), []⟩,
 ⟨(some 124), none, .bin .and (.tmp 121) (.tmp 123), []⟩,
 ⟨(some 125), none, .bin .xor (.tmp 119) (.tmp 124), []⟩,
 ⟨(some 126), none, .bin .add (.tmp 115) (.tmp 125), []⟩,
 ⟨(some 127), none, .move (.tmp 9), []⟩,
 ⟨(some 128), none, .idxAddrArr 1 64 (.cst (.pointer (some ⟨0, 0, none⟩))) (.tmp 127), []⟩,
 ⟨(some 129), none, .load1 (.tmp 128), []⟩,
 ⟨(some 130), none, .bin .add (.tmp 126) (.tmp 129), []⟩,
 ⟨(some 131), none, .move (.tmp 9), []⟩,
 ⟨(some 132), none, .idxAddrArr 1 64 (.tmp 4) (.tmp 131), []⟩,
 ⟨(some 133), none, .load1 (.tmp 132), []⟩,
 ⟨(some 134), none, .bin .add (.tmp 130) (.tmp 133), []⟩,
 ⟨(some 12), none, .move (.tmp 134), []⟩])
 (.seq (.draw [
 ⟨(some 135), none, .move (.tmp 10), []⟩,
 ⟨(some 136), none, .call 230 [(.tmp 135), (.cst (.int .i64 2))], []⟩,
 ⟨(some 137), none, .move (.tmp 10), []⟩,
 ⟨(some 138), none, .call 230 [(.tmp 137), (.cst (.int .i64 13))], []⟩,
 ⟨(some 139), none, .bin .xor (.tmp 136) (.tmp 138), []⟩,
 ⟨(some 140), none, .move (.tmp 10), []⟩,
 ⟨(some 141), none, .call 230 [(.tmp 140), (.cst (.int .i64 22))], []⟩,
 ⟨(some 142), none, .bin .xor (.tmp 139) (.tmp 141), []⟩,
 ⟨(some 143), none, .move (.tmp 10), []⟩,
 ⟨(some 144), none, .idxAddrArr 1 8 (.tmp 8) (.cst (.int .i64 1)), []⟩,
 ⟨(some 145), none, .load1 (.tmp 144), []⟩,
 ⟨(some 146), none, .bin .and (.tmp 143) (.tmp 145), []⟩,
 ⟨(some 147), none, .move (.tmp 10), []⟩,
 ⟨(some 148), none, .idxAddrArr 1 8 (.tmp 8) (.cst (.int .i64 2)), []⟩,
 ⟨(some 149), none, .load1 (.tmp 148), []⟩,
 ⟨(some 150), none, .bin .and (.tmp 147) (.tmp 149), []⟩,
 ⟨(some 151), none, .bin .xor (.tmp 146) (.tmp 150), []⟩,
 ⟨(some 152), none, .idxAddrArr 1 8 (.tmp 8) (.cst (.int .i64 1)), []⟩,
 ⟨(some 153), none, .load1 (.tmp 152), []⟩,
 ⟨(some 154), none, .idxAddrArr 1 8 (.tmp 8) (.cst (.int .i64 2)), []⟩,
 ⟨(some 155), none, .load1 (.tmp 154), []⟩,
 ⟨(some 156), none, .bin .and (.tmp 153) (.tmp 155), []⟩,
 ⟨(some 157), none, .bin .xor (.tmp 151) (.tmp 156), []⟩,
 ⟨(some 158), none, .bin .add (.tmp 142) (.tmp 157), []⟩,
 ⟨(some 13), none, .move (.tmp 158), []⟩])
 (.ops [
 ⟨(some 159), none, .move (.tmp 12), []⟩,
 ⟨(some 160), none, .move (.tmp 13), []⟩,
 ⟨(some 161), none, .bin .add (.tmp 159) (.tmp 160), []⟩,
 ⟨(some 162), none, .move (.tmp 10), []⟩,
 ⟨(some 163), none, .idxAddrArr 1 8 (.tmp 8) (.cst (.int .i64 1)), []⟩,
 ⟨(some 164), none, .load1 (.tmp 163), []⟩,
 ⟨(some 165), none, .idxAddrArr 1 8 (.tmp 8) (.cst (.int .i64 2)), []⟩,
 ⟨(some 166), none, .load1 (.tmp 165), []⟩,
 ⟨(some 167), none, .idxAddrArr 1 8 (.tmp 8) (.cst (.int .i64 3)), []⟩,
 ⟨(some 168), none, .load1 (.tmp 167), []⟩,
 ⟨(some 169), none, .move (.tmp 12), []⟩,
 ⟨(some 170), none, .bin .add (.tmp 168) (.tmp 169), []⟩,
 ⟨(some 171), none, .move (.tmp 11), []⟩,
 ⟨(some 172), none, .idxAddrArr 1 8 (.tmp 8) (.cst (.int .i64 5)), []⟩,
 ⟨(some 173), none, .load1 (.tmp 172), []⟩,
 ⟨(some 174), none, .idxAddrArr 1 8 (.tmp 8) (.cst (.int .i64 6)), []⟩,
 ⟨(some 175), none, .load1 (.tmp 174), []⟩,
 ⟨(some 176), none, .build [(.int .u32 0), (.int .u32 0), (.int .u32 0), (.int .u32 0), (.int .u32 0), (.int .u32 0), (.int .u32 0), (.int .u32 0)] [(0, 1, (.tmp 161)), (1, 1, (.tmp 162)), (2, 1, (.tmp 164)), (3, 1, (.tmp 166)), (4, 1, (.tmp 170)), (5, 1, (.tmp 171)), (6, 1, (.tmp 173)), (7, 1, (.tmp 175))], []⟩,
 ⟨none, none, .storeN 8 (.tmp 8) (.tmp 176), []⟩]))))))
 (.ops [
 ⟨(some 177), none, .bin .add (.tmp 98) (.cst (.int .i64 1)), []⟩,
 ⟨(some 98), none, .move (.tmp 177), []⟩]))))
def lp180_2 : ACode := (.seq (.ops [
 ⟨(some 180), none, .bin .lss (.tmp 179) (.cst (.int .i64 8)), []⟩])
 (.seq (.cond (.tmp 180)
 .skip
 (.exit 4))
 (.seq (.block 5 (.seq (.ops [
 ⟨(some 181), none, .move (.tmp 179), []⟩,
 ⟨(some 182), none, .idxArr1 8 (.tmp 178) (.tmp 179), []⟩,
 ⟨(some 14), none, .move (.tmp 181), []⟩,
 ⟨(some 15), none, .move (.tmp 182), []⟩])
 (.draw [
 ⟨(some 183), none, .move (.tmp 0), []⟩,
 ⟨(some 184), none, .move (.tmp 14), []⟩,
 ⟨(some 185), none, .nilCheck (.tmp 183), []⟩,
 ⟨(some 186), none, .fieldAddr 0 (.tmp 185), []⟩,
 ⟨(some 187), none, .idxAddrArr 1 8 (.tmp 186) (.tmp 184), []⟩,
 ⟨(some 188), none, .load1 (.tmp 187), []⟩,
 ⟨(some 189), none, .move (.tmp 15), []⟩,
 ⟨(some 190), none, .bin .add (.tmp 188) (.tmp 189), []⟩,
 ⟨(some 191), none, .nilCheck (.tmp 183), []⟩,
 ⟨(some 192), none, .fieldAddr 0 (.tmp 191), []⟩,
 ⟨(some 193), none, .idxAddrArr 1 8 (.tmp 192) (.tmp 184), []⟩,
 ⟨none, none, .store1 (.tmp 193) (.tmp 190), []⟩])))
 (.ops [
 ⟨(some 194), none, .bin .add (.tmp 179) (.cst (.int .i64 1)), []⟩,
 ⟨(some 179), none, .move (.tmp 194), []⟩]))))
def k180_0 : ACode := (.seq (.ops [
 ⟨(some 178), none, .loadN 8 (.tmp 8), []⟩,
 ⟨(some 179), none, .move (.cst (.int .i64 0)), []⟩])
 (.block 4 (.loop lp180_2)))
def k180_1 : ACode := (.seq (.ops [
 ⟨(some 94), none, .move (.tmp 0), []⟩,
 ⟨(some 95), none, .nilCheck (.tmp 94), []⟩,
 ⟨(some 96), none, .fieldAddr 0 (.tmp 95), []⟩,
 ⟨(some 97), none, .loadN 8 (.tmp 96), []⟩,
 ⟨(some 8), none, .box 214 (.cst (.agg ⟨[(.int .u32 0), (.int .u32 0), (.int .u32 0), (.int .u32 0), (.int .u32 0), (.int .u32 0), (.int .u32 0), (.int .u32 0)]⟩)), []⟩,
 ⟨none, none, .storeN 8 (.tmp 8) (.tmp 97), []⟩])
 (.seq (.seq (.ops [
 ⟨(some 98), none, .move (.cst (.int .i64 0)), []⟩])
 (.block 2 (.loop lp180_1)))
 k180_0))
def b180 : ACode := (.seq (.ops [
 ⟨(some 4), none, .box 257 (.cst (.agg ⟨[(.int .u32 0), (.int .u32 0), (.int .u32 0), (.int .u32 0), (.int .u32 0), (.int .u32 0), (.int .u32 0), (.int .u32 0), (.int .u32 0), (.int .u32 0), (.int .u32 0), (.int .u32 0), (.int .u32 0), (.int .u32 0), (.int .u32 0), (.int .u32 0), (.int .u32 0), (.int .u32 0), (.int .u32 0), (.int .u32 0), (.int .u32 0), (.int .u32 0), (.int .u32 0), (.int .u32 0), (.int .u32 0), (.int .u32 0), (.int .u32 0), (.int .u32 0), (.int .u32 0), (.int .u32 0), (.int .u32 0), (.int .u32 0), (.int .u32 0), (.int .u32 0), (.int .u32 0), (.int .u32 0), (.int .u32 0), (.int .u32 0), (.int .u32 0), (.int .u32 0), (.int .u32 0), (.int .u32 0), (.int .u32 0), (.int .u32 0), (.int .u32 0), (.int .u32 0), (.int .u32 0), (.int .u32 0), (.int .u32 0), (.int .u32 0), (.int .u32 0), (.int .u32 0), (.int .u32 0), (.int .u32 0), (.int .u32 0), (.int .u32 0), (.int .u32 0), (.int .u32 0), (.int .u32 0), (.int .u32 0), (.int .u32 0), (.int .u32 0), (.int .u32 0), (.int .u32 0)]⟩)), []⟩])
 (.seq (.seq (.ops [
 ⟨(some 16), none, .move (.cst (.int .i64 0)), []⟩])
 (.block 0 (.loop lp180_0)))
 k180_1))
def r180 : List ARes := []
def a180 : AFn := ⟨b180, r180, 0⟩
def b230 : ACode := (.seq (.ops [
 ⟨(some 4), none, .move (.cst (.int .u32 0)), []⟩])
 (.seq (.ops [
 ⟨(some 5), none, .move (.tmp 0), []⟩,
 ⟨(some 6), none, .move (.tmp 1), []⟩,
 ⟨(some 7), none, .un .neg (.tmp 6), []⟩,
 ⟨(some 8), none, .call 253 [(.tmp 5), (.tmp 7)], []⟩,
 ⟨(some 4), none, .move (.tmp 8), []⟩])
 .ret))
def r230 : List ARes := [.tmp 4]
def a230 : AFn := ⟨b230, r230, 3⟩
def b253 : ACode := (.seq (.ops [
 ⟨(some 4), none, .move (.cst (.int .u32 0)), []⟩])
 (.seq (.ops [
 ⟨(some 6), none, .move (.tmp 1), []⟩,
 ⟨(some 7), none, .convInt .u64 (.tmp 6), []⟩,
 ⟨(some 8), none, .bin .and (.tmp 7) (.cst (.int .u64 31)), []⟩,
 ⟨(some 5), none, .move (.tmp 8), []⟩])
 (.seq (.ops [
 ⟨(some 9), none, .move (.tmp 0), []⟩,
 ⟨(some 10), none, .move (.tmp 5), []⟩,
 ⟨(some 11), none, .bin .shl (.tmp 9) (.tmp 10), []⟩,
 ⟨(some 12), none, .move (.tmp 0), []⟩,
 ⟨(some 13), none, .move (.tmp 5), []⟩,
 ⟨(some 14), none, .bin .sub (.cst (.int .u64 32)) (.tmp 13), []⟩,
 ⟨(some 15), none, .bin .shr (.tmp 12) (.tmp 14), []⟩,
 ⟨(some 16), none, .bin .or (.tmp 11) (.tmp 15), []⟩,
 ⟨(some 4), none, .move (.tmp 16), []⟩])
 .ret)))
def r253 : List ARes := [.tmp 4]
def a253 : AFn := ⟨b253, r253, 3⟩
def lp108_0 : ACode := (.seq (.seq (.ops [
 ⟨(some 64), none, .move (.tmp 1), []⟩,
 ⟨(some 65), none, .len (.tmp 64), []⟩,
 ⟨(some 66), none, .bin .geq (.tmp 65) (.cst (.int .i64 64)), []⟩])
 (.cond (.tmp 66)
 .skip
 (.exit 0)))
 (.block 1 (.seq (.ops [
 ⟨(some 67), none, .move (.tmp 0), []⟩,
 ⟨(some 68), none, .move (.tmp 1), []⟩,
 ⟨(some 69), none, .sliceSl 1 (.tmp 68) none (some (.cst (.int .i64 64))) none, []⟩,
 ⟨(some 70), none, .call 180 [(.tmp 67), (.tmp 69)], []⟩])
 (.ops [
 ⟨(some 71), none, .move (.tmp 1), []⟩,
 ⟨(some 72), none, .sliceSl 1 (.tmp 71) (some (.cst (.int .i64 64))) none none, []⟩,
 ⟨(some 1), none, .move (.tmp 72), []⟩]))))
def k108_0 : ACode := (.ops [
 ⟨(some 73), none, .move (.tmp 0), []⟩,
 ⟨(some 74), none, .move (.tmp 0), []⟩,
 ⟨(some 75), none, .nilCheck (.tmp 74), []⟩,
 ⟨(some 76), none, .fieldAddr 8 (.tmp 75), []⟩,
 ⟨(some 77), none, .load1 (.tmp 76), []⟩,
 ⟨(some 78), none, .move (.tmp 1), []⟩,
 ⟨(some 79), none, .append 5 1 1 (.tmp 77) (.tmp 78), []⟩,
 ⟨(some 80), none, .nilCheck (.tmp 73), []⟩,
 ⟨(some 81), none, .fieldAddr 8 (.tmp 80), []⟩,
 ⟨none, none, .store1 (.tmp 81) (.tmp 79), []⟩])
def b108 : ACode := (.seq (.ops [
 ⟨(some 5), none, .move (.tmp 0), []⟩,
 ⟨(some 6), none, .nilCheck (.tmp 5), []⟩,
 ⟨(some 7), none, .fieldAddr 9 (.tmp 6), []⟩,
 ⟨(some 8), none, .load1 (.tmp 7), []⟩,
 ⟨(some 9), none, .move (.tmp 1), []⟩,
 ⟨(some 10), none, .len (.tmp 9), []⟩,
 ⟨(some 11), none, .convInt .u64 (.tmp 10), []⟩,
 ⟨(some 12), none, .bin .add (.tmp 8) (.tmp 11), []⟩,
 ⟨(some 13), none, .nilCheck (.tmp 5), []⟩,
 ⟨(some 14), none, .fieldAddr 9 (.tmp 13), []⟩,
 ⟨none, none, .store1 (.tmp 14) (.tmp 12), []⟩])
 (.seq (.seq (.ops [
 ⟨(some 15), none, .move (.tmp 0), []⟩,
 ⟨(some 16), none, .nilCheck (.tmp 15), []⟩,
 ⟨(some 17), none, .fieldAddr 8 (.tmp 16), []⟩,
 ⟨(some 18), none, .load1 (.tmp 17), []⟩,
 ⟨(some 19), none, .len (.tmp 18), []⟩,
 ⟨(some 20), none, .bin .gtr (.tmp 19) (.cst (.int .i64 0)), []⟩])
 (.cond (.tmp 20)
 (.seq (.ops [
 ⟨(some 21), none, .move (.tmp 0), []⟩,
 ⟨(some 22), none, .nilCheck (.tmp 21), []⟩,
 ⟨(some 23), none, .fieldAddr 8 (.tmp 22), []⟩,
 ⟨(some 24), none, .load1 (.tmp 23), []⟩,
 ⟨(some 25), none, .len (.tmp 24), []⟩,
 ⟨(some 26), none, .bin .sub (.cst (.int .i64 64)) (.tmp 25), []⟩,
 ⟨(some 27), none, .move (.tmp 1), []⟩,
 ⟨(some 28), none, .len (.tmp 27), []⟩,
 ⟨(some 29), none, .min2 (.tmp 26) (.tmp 28), []⟩,
 ⟨(some 4), none, .move (.tmp 29), []⟩])
 (.seq (.draw [
 ⟨(some 30), none, .move (.tmp 0), []⟩,
 ⟨(some 31), none, .move (.tmp 0), []⟩,
 ⟨(some 32), none, .nilCheck (.tmp 31), []⟩,
 ⟨(some 33), none, .fieldAddr 8 (.tmp 32), []⟩,
 ⟨(some 34), none, .load1 (.tmp 33), []⟩,
 ⟨(some 35), none, .move (.tmp 1), []⟩,
 ⟨(some 36), none, .move (.tmp 4), []⟩,
 ⟨(some 37), none, .sliceSl 1 (.tmp 35) none (some (.tmp 36)) none, []⟩,
 ⟨(some 38), none, .append 5 1 1 (.tmp 34) (.tmp 37), []⟩,
 ⟨(some 39), none, .nilCheck (.tmp 30), []⟩,
 ⟨(some 40), none, .fieldAddr 8 (.tmp 39), []⟩,
 ⟨none, none, .store1 (.tmp 40) (.tmp 38), []⟩])
 (.seq (.ops [
 ⟨(some 41), none, .move (.tmp 1), []⟩,
 ⟨(some 42), none, .move (.tmp 4), []⟩,
 ⟨(some 43), none, .sliceSl 1 (.tmp 41) (some (.tmp 42)) none none, []⟩,
 ⟨(some 1), none, .move (.tmp 43), []⟩])
 (.seq (.seq (.ops [
 ⟨(some 44), none, .move (.tmp 0), []⟩,
 ⟨(some 45), none, .nilCheck (.tmp 44), []⟩,
 ⟨(some 46), none, .fieldAddr 8 (.tmp 45), []⟩,
 ⟨(some 47), none, .load1 (.tmp 46), []⟩,
 ⟨(some 48), none, .len (.tmp 47), []⟩,
 ⟨(some 49), none, .bin .lss (.tmp 48) (.cst (.int .i64 64)), []⟩])
 (.cond (.tmp 49)
 .ret
 .skip))
 (.seq (.ops [
 ⟨(some 50), none, .move (.tmp 0), []⟩,
 ⟨(some 51), none, .move (.tmp 0), []⟩,
 ⟨(some 52), none, .nilCheck (.tmp 51), []⟩,
 ⟨(some 53), none, .fieldAddr 8 (.tmp 52), []⟩,
 ⟨(some 54), none, .load1 (.tmp 53), []⟩,
 ⟨(some 55), none, .call 180 [(.tmp 50), (.tmp 54)], []⟩])
 (.ops [
 ⟨(some 56), none, .move (.tmp 0), []⟩,
 ⟨(some 57), none, .move (.tmp 0), []⟩,
 ⟨(some 58), none, .nilCheck (.tmp 57), []⟩,
 ⟨(some 59), none, .fieldAddr 8 (.tmp 58), []⟩,
 ⟨(some 60), none, .load1 (.tmp 59), []⟩,
 ⟨(some 61), none, .sliceSl 1 (.tmp 60) none (some (.cst (.int .i64 0))) none, []⟩,
 ⟨(some 62), none, .nilCheck (.tmp 56), []⟩,
 ⟨(some 63), none, .fieldAddr 8 (.tmp 62), []⟩,
 ⟨none, none, .store1 (.tmp 63) (.tmp 61), []⟩]))))))
 .skip))
 (.seq (.block 0 (.loop lp108_0))
 k108_0)))
def r108 : List ARes := []
def a108 : AFn := ⟨b108, r108, 0⟩
def lp63_0 : ACode := (.seq (.seq (.ops [
 ⟨(some 20), none, .fieldAddr 8 (.tmp 3), []⟩,
 ⟨(some 21), none, .load1 (.tmp 20), []⟩,
 ⟨(some 22), none, .len (.tmp 21), []⟩,
 ⟨(some 23), none, .bin .neq (.tmp 22) (.cst (.int .i64 56)), []⟩])
 (.cond (.tmp 23)
 .skip
 (.exit 0)))
 (.block 1 (.ops [
 ⟨(some 24), none, .buildSlice 5 [(.int .u8 0)] 1 [(0, 1, (.cst (.int .u8 0)))], []⟩,
 ⟨(some 25), none, .call 108 [(.tmp 3), (.tmp 24)], []⟩])))
def lp63_1 : ACode := (.seq (.ops [
 ⟨(some 36), none, .bin .lss (.tmp 35) (.cst (.int .i64 8)), []⟩])
 (.seq (.cond (.tmp 36)
 .skip
 (.exit 2))
 (.seq (.block 3 (.seq (.ops [
 ⟨(some 37), none, .move (.tmp 35), []⟩,
 ⟨(some 38), none, .idxArr1 8 (.tmp 34) (.tmp 35), []⟩,
 ⟨(some 5), none, .move (.tmp 37), []⟩,
 ⟨(some 6), none, .move (.tmp 38), []⟩])
 (.ops [
 ⟨(some 39), none, .move (.tmp 5), []⟩,
 ⟨(some 40), none, .bin .mul (.cst (.int .i64 4)) (.tmp 39), []⟩,
 ⟨(some 41), none, .move (.tmp 5), []⟩,
 ⟨(some 42), none, .bin .mul (.cst (.int .i64 4)) (.tmp 41), []⟩,
 ⟨(some 43), none, .bin .add (.tmp 42) (.cst (.int .i64 1)), []⟩,
 ⟨(some 44), none, .move (.tmp 5), []⟩,
 ⟨(some 45), none, .bin .mul (.cst (.int .i64 4)) (.tmp 44), []⟩,
 ⟨(some 46), none, .bin .add (.tmp 45) (.cst (.int .i64 2)), []⟩,
 ⟨(some 47), none, .move (.tmp 5), []⟩,
 ⟨(some 48), none, .bin .mul (.cst (.int .i64 4)) (.tmp 47), []⟩,
 ⟨(some 49), none, .bin .add (.tmp 48) (.cst (.int .i64 3)), []⟩,
 ⟨(some 50), none, .move (.tmp 6), []⟩,
 ⟨(some 51), none, .bin .shr (.tmp 50) (.cst (.int .u64 24)), []⟩,
 ⟨(some 52), none, .convInt .u8 (.tmp 51), []⟩,
 ⟨(some 53), none, .move (.tmp 6), []⟩,
 ⟨(some 54), none, .bin .shr (.tmp 53) (.cst (.int .u64 16)), []⟩,
 ⟨(some 55), none, .convInt .u8 (.tmp 54), []⟩,
 ⟨(some 56), none, .move (.tmp 6), []⟩,
 ⟨(some 57), none, .bin .shr (.tmp 56) (.cst (.int .u64 8)), []⟩,
 ⟨(some 58), none, .convInt .u8 (.tmp 57), []⟩,
 ⟨(some 59), none, .move (.tmp 6), []⟩,
 ⟨(some 60), none, .convInt .u8 (.tmp 59), []⟩,
 ⟨(some 61), none, .idxAddrArr 1 32 (.tmp 4) (.tmp 40), []⟩,
 ⟨none, none, .store1 (.tmp 61) (.tmp 52), []⟩,
 ⟨(some 62), none, .idxAddrArr 1 32 (.tmp 4) (.tmp 43), []⟩,
 ⟨none, none, .store1 (.tmp 62) (.tmp 55), []⟩,
 ⟨(some 63), none, .idxAddrArr 1 32 (.tmp 4) (.tmp 46), []⟩,
 ⟨none, none, .store1 (.tmp 63) (.tmp 58), []⟩,
 ⟨(some 64), none, .idxAddrArr 1 32 (.tmp 4) (.tmp 49), []⟩,
 ⟨none, none, .store1 (.tmp 64) (.tmp 60), []⟩])))
 (.ops [
 ⟨(some 65), none, .bin .add (.tmp 35) (.cst (.int .i64 1)), []⟩,
 ⟨(some 35), none, .move (.tmp 65), []⟩]))))
def k63_0 : ACode := (.seq (.ops [
 ⟨(some 66), none, .loadN 32 (.tmp 4), []⟩,
 ⟨none, none, .storeN 32 (.tmp 2) (.tmp 66), []⟩])
 .ret)
def k63_1 : ACode := (.seq (.ops [
 ⟨(some 26), none, .move (.tmp 0), []⟩,
 ⟨(some 27), none, .nilCheck (.tmp 26), []⟩,
 ⟨(some 28), none, .fieldAddr 9 (.tmp 27), []⟩,
 ⟨(some 29), none, .load1 (.tmp 28), []⟩,
 ⟨(some 30), none, .bin .mul (.cst (.int .u64 8)) (.tmp 29), []⟩,
 ⟨(some 31), none, .call 109 [(.tmp 30)], []⟩,
 ⟨(some 32), none, .call 108 [(.tmp 3), (.tmp 31)], []⟩])
 (.seq (.ops [
 ⟨(some 4), none, .box 30 (.cst (.agg ⟨[(.int .u8 0), (.int .u8 0), (.int .u8 0), (.int .u8 0), (.int .u8 0), (.int .u8 0), (.int .u8 0), (.int .u8 0), (.int .u8 0), (.int .u8 0), (.int .u8 0), (.int .u8 0), (.int .u8 0), (.int .u8 0), (.int .u8 0), (.int .u8 0), (.int .u8 0), (.int .u8 0), (.int .u8 0), (.int .u8 0), (.int .u8 0), (.int .u8 0), (.int .u8 0), (.int .u8 0), (.int .u8 0), (.int .u8 0), (.int .u8 0), (.int .u8 0), (.int .u8 0), (.int .u8 0), (.int .u8 0), (.int .u8 0)]⟩)), []⟩])
 (.seq (.seq (.ops [
 ⟨(some 33), none, .fieldAddr 0 (.tmp 3), []⟩,
 ⟨(some 34), none, .loadN 8 (.tmp 33), []⟩,
 ⟨(some 35), none, .move (.cst (.int .i64 0)), []⟩])
 (.block 2 (.loop lp63_1)))
 k63_0)))
def b63 : ACode := (.seq (.ops [
 ⟨(some 2), none, .box 30 (.cst (.agg ⟨[(.int .u8 0), (.int .u8 0), (.int .u8 0), (.int .u8 0), (.int .u8 0), (.int .u8 0), (.int .u8 0), (.int .u8 0), (.int .u8 0), (.int .u8 0), (.int .u8 0), (.int .u8 0), (.int .u8 0), (.int .u8 0), (.int .u8 0), (.int .u8 0), (.int .u8 0), (.int .u8 0), (.int .u8 0), (.int .u8 0), (.int .u8 0), (.int .u8 0), (.int .u8 0), (.int .u8 0), (.int .u8 0), (.int .u8 0), (.int .u8 0), (.int .u8 0), (.int .u8 0), (.int .u8 0), (.int .u8 0), (.int .u8 0)]⟩)), []⟩])
 (.seq (.draw [
 ⟨(some 3), none, .box 216 (.cst (.agg ⟨[(.int .u32 0), (.int .u32 0), (.int .u32 0), (.int .u32 0), (.int .u32 0), (.int .u32 0), (.int .u32 0), (.int .u32 0), (.slice none 0 0), (.int .u64 0)]⟩)), []⟩,
 ⟨(some 7), none, .move (.tmp 0), []⟩,
 ⟨(some 8), none, .nilCheck (.tmp 7), []⟩,
 ⟨(some 9), none, .fieldAddr 0 (.tmp 8), []⟩,
 ⟨(some 10), none, .loadN 8 (.tmp 9), [12]⟩,
 ⟨(some 11), none, .buildSlice 5 [] 0 [], []⟩,
 ⟨(some 12), none, .move (.tmp 0), []⟩,
 ⟨(some 13), none, .nilCheck (.tmp 12), []⟩,
 ⟨(some 14), none, .fieldAddr 8 (.tmp 13), []⟩,
 ⟨(some 15), none, .load1 (.tmp 14), []⟩,
 ⟨(some 16), none, .append 5 1 1 (.tmp 11) (.tmp 15), []⟩,
 ⟨(some 17), none, .build [(.int .u32 0), (.int .u32 0), (.int .u32 0), (.int .u32 0), (.int .u32 0), (.int .u32 0), (.int .u32 0), (.int .u32 0), (.slice none 0 0), (.int .u64 0)] [(0, 8, (.tmp 10)), (8, 1, (.tmp 16))], []⟩,
 ⟨none, none, .storeN 10 (.tmp 3) (.tmp 17), []⟩])
 (.seq (.ops [
 ⟨(some 18), none, .buildSlice 5 [(.int .u8 0)] 1 [(0, 1, (.cst (.int .u8 128)))], []⟩,
 ⟨(some 19), none, .call 108 [(.tmp 3), (.tmp 18)], []⟩])
 (.seq (.block 0 (.loop lp63_0))
 k63_1))))
def r63 : List ARes := [.cellN 2 32]
def a63 : AFn := ⟨b63, r63, 2⟩
def b61 : ACode := (.seq (.ops [
 ⟨(some 0), none, .move (.cst (.pointer none)), []⟩])
 (.seq (.ops [
 ⟨(some 1), none, .build [(.int .u32 0), (.int .u32 0), (.int .u32 0), (.int .u32 0), (.int .u32 0), (.int .u32 0), (.int .u32 0), (.int .u32 0)] [(0, 1, (.cst (.int .u32 1779033703))), (1, 1, (.cst (.int .u32 3144134277))), (2, 1, (.cst (.int .u32 1013904242))), (3, 1, (.cst (.int .u32 2773480762))), (4, 1, (.cst (.int .u32 1359893119))), (5, 1, (.cst (.int .u32 2600822924))), (6, 1, (.cst (.int .u32 528734635))), (7, 1, (.cst (.int .u32 1541459225)))], []⟩,
 ⟨(some 2), none, .build [(.int .u32 0), (.int .u32 0), (.int .u32 0), (.int .u32 0), (.int .u32 0), (.int .u32 0), (.int .u32 0), (.int .u32 0), (.slice none 0 0), (.int .u64 0)] [(0, 8, (.tmp 1))], []⟩,
 ⟨(some 3), none, .box 216 (.tmp 2), []⟩,
 ⟨(some 0), none, .move (.tmp 3), []⟩])
 .ret))
def r61 : List ARes := [.tmp 0]
def a61 : AFn := ⟨b61, r61, 0⟩
def b62 : ACode := (.ops [
 ⟨(some 4), none, .move (.tmp 0), []⟩,
 ⟨(some 5), none, .move (.tmp 1), []⟩,
 ⟨(some 6), none, .call 108 [(.tmp 4), (.tmp 5)], []⟩])
def r62 : List ARes := []
def a62 : AFn := ⟨b62, r62, 0⟩
def b57 : ACode := (.seq (.ops [
 ⟨(some 2), none, .box 30 (.cst (.agg ⟨[(.int .u8 0), (.int .u8 0), (.int .u8 0), (.int .u8 0), (.int .u8 0), (.int .u8 0), (.int .u8 0), (.int .u8 0), (.int .u8 0), (.int .u8 0), (.int .u8 0), (.int .u8 0), (.int .u8 0), (.int .u8 0), (.int .u8 0), (.int .u8 0), (.int .u8 0), (.int .u8 0), (.int .u8 0), (.int .u8 0), (.int .u8 0), (.int .u8 0), (.int .u8 0), (.int .u8 0), (.int .u8 0), (.int .u8 0), (.int .u8 0), (.int .u8 0), (.int .u8 0), (.int .u8 0), (.int .u8 0), (.int .u8 0)]⟩)), []⟩])
 (.seq (.ops [
 ⟨(some 3), none, .move (.tmp 0), []⟩,
 ⟨(some 4), none, .buildSlice 41 [(.slice none 0 0)] 1 [(0, 1, (.tmp 3))], []⟩,
 ⟨(some 5), none, .call 107 [(.tmp 4)], []⟩,
 ⟨none, none, .storeN 32 (.tmp 2) (.tmp 5), []⟩])
 .ret))
def r57 : List ARes := [.cellN 2 32]
def a57 : AFn := ⟨b57, r57, 2⟩
def lp107_0 : ACode := (.seq (.ops [
 ⟨(some 10), none, .bin .lss (.tmp 9) (.tmp 8), []⟩])
 (.seq (.cond (.tmp 10)
 .skip
 (.exit 0))
 (.seq (.block 1 (.seq (.ops [
 ⟨(some 11), none, .idxAddrSl 1 (.tmp 7) (.tmp 9), []⟩,
 ⟨(some 12), none, .load1 (.tmp 11), []⟩,
 ⟨(some 5), none, .move (.tmp 12), []⟩])
 (.ops [
 ⟨(some 13), none, .move (.tmp 3), []⟩,
 ⟨(some 14), none, .move (.tmp 5), []⟩,
 ⟨(some 15), none, .call 108 [(.tmp 13), (.tmp 14)], []⟩])))
 (.ops [
 ⟨(some 16), none, .bin .add (.tmp 9) (.cst (.int .i64 1)), []⟩,
 ⟨(some 9), none, .move (.tmp 16), []⟩]))))
def k107_0 : ACode := (.seq (.ops [
 ⟨(some 17), none, .move (.tmp 3), []⟩,
 ⟨(some 18), none, .call 63 [(.tmp 17)], []⟩,
 ⟨none, none, .storeN 32 (.tmp 2) (.tmp 18), []⟩])
 .ret)
def b107 : ACode := (.seq (.ops [
 ⟨(some 2), none, .box 30 (.cst (.agg ⟨[(.int .u8 0), (.int .u8 0), (.int .u8 0), (.int .u8 0), (.int .u8 0), (.int .u8 0), (.int .u8 0), (.int .u8 0), (.int .u8 0), (.int .u8 0), (.int .u8 0), (.int .u8 0), (.int .u8 0), (.int .u8 0), (.int .u8 0), (.int .u8 0), (.int .u8 0), (.int .u8 0), (.int .u8 0), (.int .u8 0), (.int .u8 0), (.int .u8 0), (.int .u8 0), (.int .u8 0), (.int .u8 0), (.int .u8 0), (.int .u8 0), (.int .u8 0), (.int .u8 0), (.int .u8 0), (.int .u8 0), (.int .u8 0)]⟩)), []⟩])
 (.seq (.ops [
 ⟨(some 6), none, .call 61 [], []⟩,
 ⟨(some 3), none, .move (.tmp 6), []⟩])
 (.seq (.seq (.ops [
 ⟨(some 7), none, .move (.tmp 0), []⟩,
 ⟨(some 8), none, .len (.tmp 7), []⟩,
 ⟨(some 9), none, .move (.cst (.int .i64 0)), []⟩])
 (.block 0 (.loop lp107_0)))
 k107_0)))
def r107 : List ARes := [.cellN 2 32]
def a107 : AFn := ⟨b107, r107, 2⟩
def lp109_0 : ACode := (.seq (.ops [
 ⟨(some 9), none, .bin .lss (.tmp 8) (.tmp 7), []⟩])
 (.seq (.cond (.tmp 9)
 .skip
 (.exit 0))
 (.seq (.block 1 (.seq (.ops [
 ⟨(some 10), none, .move (.tmp 8), []⟩,
 ⟨(some 4), none, .move (.tmp 10), []⟩])
 (.ops [
 ⟨(some 11), none, .move (.tmp 3), []⟩,
 ⟨(some 12), none, .move (.tmp 4), []⟩,
 ⟨(some 13), none, .move (.tmp 0), []⟩,
 ⟨(some 14), none, .move (.tmp 4), []⟩,
 ⟨(some 15), none, .bin .mul (.cst (.int .i64 8)) (.tmp 14), []⟩,
 ⟨(some 16), none, .bin .sub (.cst (.int .i64 56)) (.tmp 15), []⟩,
 ⟨(some 17), none, .bin .shr (.tmp 13) (.tmp 16), []⟩,
 ⟨(some 18), none, .convInt .u8 (.tmp 17), []⟩,
 ⟨(some 19), none, .idxAddrSl 1 (.tmp 11) (.tmp 12), []⟩,
 ⟨none, none, .store1 (.tmp 19) (.tmp 18), []⟩])))
 (.ops [
 ⟨(some 20), none, .bin .add (.tmp 8) (.cst (.int .i64 1)), []⟩,
 ⟨(some 8), none, .move (.tmp 20), []⟩]))))
def k109_0 : ACode := (.seq (.ops [
 ⟨(some 21), none, .move (.tmp 3), []⟩,
 ⟨(some 2), none, .move (.tmp 21), []⟩])
 .ret)
def b109 : ACode := (.seq (.ops [
 ⟨(some 2), none, .move (.cst (.slice none 0 0)), []⟩])
 (.seq (.ops [
 ⟨(some 5), none, .mkSlice 5 1 1 [(.int .u8 0)] (.cst (.int .i64 8)) (.cst (.int .i64 8)), []⟩,
 ⟨(some 3), none, .move (.tmp 5), []⟩])
 (.seq (.seq (.ops [
 ⟨(some 6), none, .move (.tmp 3), []⟩,
 ⟨(some 7), none, .len (.tmp 6), []⟩,
 ⟨(some 8), none, .move (.cst (.int .i64 0)), []⟩])
 (.block 0 (.loop lp109_0)))
 k109_0)))
def r109 : List ARes := [.tmp 2]
def a109 : AFn := ⟨b109, r109, 0⟩
def b17 : ACode := (.seq (.ops [
 ⟨(some 2), none, .box 30 (.tmp 0), []⟩,
 ⟨(some 3), none, .box 30 (.tmp 1), []⟩,
 ⟨(some 4), none, .box 30 (.cst (.agg ⟨[(.int .u8 0), (.int .u8 0), (.int .u8 0), (.int .u8 0), (.int .u8 0), (.int .u8 0), (.int .u8 0), (.int .u8 0), (.int .u8 0), (.int .u8 0), (.int .u8 0), (.int .u8 0), (.int .u8 0), (.int .u8 0), (.int .u8 0), (.int .u8 0), (.int .u8 0), (.int .u8 0), (.int .u8 0), (.int .u8 0), (.int .u8 0), (.int .u8 0), (.int .u8 0), (.int .u8 0), (.int .u8 0), (.int .u8 0), (.int .u8 0), (.int .u8 0), (.int .u8 0), (.int .u8 0), (.int .u8 0), (.int .u8 0)]⟩)), []⟩])
 (.seq (.ops [
 ⟨(some 6), none, .call 61 [], []⟩,
 ⟨(some 5), none, .move (.tmp 6), []⟩])
 (.seq (.ops [
 ⟨(some 7), none, .move (.tmp 5), []⟩,
 ⟨(some 8), none, .buildSlice 5 [(.int .u8 0)] 1 [(0, 1, (.cst (.int .u8 1)))], []⟩,
 ⟨(some 9), none, .call 62 [(.tmp 7), (.tmp 8)], []⟩])
 (.seq (.ops [
 ⟨(some 10), none, .move (.tmp 5), []⟩,
 ⟨(some 11), none, .sliceArr 1 32 (.tmp 2) none none none, []⟩,
 ⟨(some 12), none, .call 62 [(.tmp 10), (.tmp 11)], []⟩])
 (.seq (.ops [
 ⟨(some 13), none, .move (.tmp 5), []⟩,
 ⟨(some 14), none, .sliceArr 1 32 (.tmp 3) none none none, []⟩,
 ⟨(some 15), none, .call 62 [(.tmp 13), (.tmp 14)], []⟩])
 (.seq (.ops [
 ⟨(some 16), none, .move (.tmp 5), []⟩,
 ⟨(some 17), none, .call 63 [(.tmp 16)], []⟩,
 ⟨none, none, .storeN 32 (.tmp 4) (.tmp 17), []⟩])
 .ret))))))
def r17 : List ARes := [.cellN 4 32]
def a17 : AFn := ⟨b17, r17, 3⟩
def b20 : ACode := (.seq (.ops [
 ⟨(some 2), none, .box 30 (.cst (.agg ⟨[(.int .u8 0), (.int .u8 0), (.int .u8 0), (.int .u8 0), (.int .u8 0), (.int .u8 0), (.int .u8 0), (.int .u8 0), (.int .u8 0), (.int .u8 0), (.int .u8 0), (.int .u8 0), (.int .u8 0), (.int .u8 0), (.int .u8 0), (.int .u8 0), (.int .u8 0), (.int .u8 0), (.int .u8 0), (.int .u8 0), (.int .u8 0), (.int .u8 0), (.int .u8 0), (.int .u8 0), (.int .u8 0), (.int .u8 0), (.int .u8 0), (.int .u8 0), (.int .u8 0), (.int .u8 0), (.int .u8 0), (.int .u8 0)]⟩)), []⟩])
 (.seq (.ops [
 ⟨(some 4), none, .call 61 [], []⟩,
 ⟨(some 3), none, .move (.tmp 4), []⟩])
 (.seq (.ops [
 ⟨(some 5), none, .move (.tmp 3), []⟩,
 ⟨(some 6), none, .buildSlice 5 [(.int .u8 0)] 1 [(0, 1, (.cst (.int .u8 0)))], []⟩,
 ⟨(some 7), none, .call 62 [(.tmp 5), (.tmp 6)], []⟩])
 (.seq (.ops [
 ⟨(some 8), none, .move (.tmp 3), []⟩,
 ⟨(some 9), none, .move (.tmp 0), []⟩,
 ⟨(some 10), none, .call 62 [(.tmp 8), (.tmp 9)], []⟩])
 (.seq (.ops [
 ⟨(some 11), none, .move (.tmp 3), []⟩,
 ⟨(some 12), none, .call 63 [(.tmp 11)], []⟩,
 ⟨none, none, .storeN 32 (.tmp 2) (.tmp 12), []⟩])
 .ret)))))
def r20 : List ARes := [.cellN 2 32]
def a20 : AFn := ⟨b20, r20, 2⟩

structure Tab_LDig (C : Ctx) : Prop where
  h180 : C.T 180 = some (.fn a180)
  h230 : C.T 230 = some (.fn a230)
  h253 : C.T 253 = some (.fn a253)
  h108 : C.T 108 = some (.fn a108)
  h63 : C.T 63 = some (.fn a63)
  h61 : C.T 61 = some (.fn a61)
  h62 : C.T 62 = some (.fn a62)
  h57 : C.T 57 = some (.fn a57)
  h107 : C.T 107 = some (.fn a107)
  h109 : C.T 109 = some (.fn a109)
  h17 : C.T 17 = some (.fn a17)
  h20 : C.T 20 = some (.fn a20)
end Go.Ab.Aud

namespace Go.Ab.Aud
def b11 : ACode := (.seq (.ops [
 ⟨(some 2), none, .move (.cst (.int .i64 0)), []⟩])
 (.seq (.ops [
 ⟨(some 3), none, .move (.tmp 0), []⟩,
 ⟨(some 2), none, .move (.tmp 3), []⟩])
 .ret))
def r11 : List ARes := [.tmp 2]
def a11 : AFn := ⟨b11, r11, 0⟩
def b27 : ACode := (.seq (.ops [
 ⟨(some 2), none, .move (.cst (.slice none 0 0)), []⟩])
 (.seq (.ops [
 ⟨(some 3), none, .move (.cst (.slice none 0 0)), []⟩])
 (.seq (.ops [
 ⟨(some 4), none, .move (.tmp 3), []⟩,
 ⟨(some 5), none, .move (.tmp 0), []⟩,
 ⟨(some 6), none, .append 5 1 1 (.tmp 4) (.tmp 5), []⟩,
 ⟨(some 3), none, .move (.tmp 6), []⟩])
 (.seq (.ops [
 ⟨(some 7), none, .move (.tmp 3), []⟩,
 ⟨(some 2), none, .move (.tmp 7), []⟩])
 .ret))))
def r27 : List ARes := [.tmp 2]
def a27 : AFn := ⟨b27, r27, 0⟩
def lp70_0 : ACode := (.seq (.seq (.ops [
 ⟨(some 4), none, .move (.tmp 3), []⟩,
 ⟨(some 5), none, .move (.tmp 0), []⟩,
 ⟨(some 6), none, .move (.tmp 3), []⟩,
 ⟨(some 7), none, .bin .sub (.tmp 5) (.tmp 6), []⟩,
 ⟨(some 8), none, .bin .lss (.tmp 4) (.tmp 7), []⟩])
 (.cond (.tmp 8)
 .skip
 (.exit 0)))
 (.block 1 (.ops [
 ⟨(some 9), none, .move (.tmp 3), []⟩,
 ⟨(some 10), none, .bin .mul (.cst (.int .u64 2)) (.tmp 9), []⟩,
 ⟨(some 3), none, .move (.tmp 10), []⟩])))
def k70_0 : ACode := (.seq (.ops [
 ⟨(some 11), none, .move (.tmp 3), []⟩,
 ⟨(some 2), none, .move (.tmp 11), []⟩])
 .ret)
def b70 : ACode := (.seq (.ops [
 ⟨(some 2), none, .move (.cst (.int .u64 0)), []⟩])
 (.seq (.ops [
 ⟨(some 3), none, .move (.cst (.int .u64 1)), []⟩])
 (.seq (.block 0 (.loop lp70_0))
 k70_0)))
def r70 : List ARes := [.tmp 2]
def a70 : AFn := ⟨b70, r70, 0⟩
def lp39_0 : ACode := (.seq (.seq (.ops [
 ⟨(some 11), none, .move (.tmp 5), []⟩,
 ⟨(some 12), none, .move (.tmp 0), []⟩,
 ⟨(some 13), none, .len (.tmp 12), []⟩,
 ⟨(some 14), none, .bin .lss (.tmp 11) (.tmp 13), []⟩])
 (.cond (.tmp 14)
 .skip
 (.exit 0)))
 (.seq (.block 1 (.seq (.draw [
 ⟨(some 17), none, .move (.tmp 0), []⟩,
 ⟨(some 18), none, .move (.tmp 5), []⟩,
 ⟨(some 19), none, .idxAddrSl 1 (.tmp 17) (.tmp 18), []⟩,
 ⟨(some 20), none, .load1 (.tmp 19), []⟩,
 ⟨(some 21), none, .move (.tmp 1), []⟩,
 ⟨(some 22), none, .move (.tmp 5), []⟩,
 ⟨(some 23), none, .idxAddrSl 1 (.tmp 21) (.tmp 22), []⟩,
 ⟨(some 24), none, .load1 (.tmp 23), []⟩,
 ⟨(some 25), none, .bin .neq (.tmp 20) (.tmp 24), []⟩])
 (.cond (.tmp 25)
 (.seq (.ops [
 ⟨(some 4), none, .move (.cst (.bool false)), []⟩])
 .ret)
 .skip)))
 (.ops [
 ⟨(some 15), none, .move (.tmp 5), []⟩,
 ⟨(some 16), none, .bin .add (.tmp 15) (.cst (.int .i64 1)), []⟩,
 ⟨(some 5), none, .move (.tmp 16), []⟩])))
def k39_0 : ACode := (.seq (.ops [
 ⟨(some 4), none, .move (.cst (.bool true)), []⟩])
 .ret)
def b39 : ACode := (.seq (.ops [
 ⟨(some 4), none, .move (.cst (.bool false)), []⟩])
 (.seq (.seq (.ops [
 ⟨(some 6), none, .move (.tmp 0), []⟩,
 ⟨(some 7), none, .len (.tmp 6), []⟩,
 ⟨(some 8), none, .move (.tmp 1), []⟩,
 ⟨(some 9), none, .len (.tmp 8), []⟩,
 ⟨(some 10), none, .bin .neq (.tmp 7) (.tmp 9), []⟩])
 (.cond (.tmp 10)
 (.seq (.ops [
 ⟨(some 4), none, .move (.cst (.bool false)), []⟩])
 .ret)
 .skip))
 (.seq (.seq (.ops [
 ⟨(some 5), none, .move (.cst (.int .i64 0)), []⟩])
 (.block 0 (.loop lp39_0)))
 k39_0)))
def r39 : List ARes := [.tmp 4]
def a39 : AFn := ⟨b39, r39, 2⟩
def b71 : ACode := (.seq (.ops [
 ⟨(some 2), none, .box 30 (.tmp 0), []⟩,
 ⟨(some 3), none, .box 30 (.tmp 1), []⟩,
 ⟨(some 4), none, .box 158 (.cst (.agg ⟨[(.slice none 0 0), (.int .u8 0), (.int .u8 0), (.int .u8 0), (.int .u8 0), (.int .u8 0), (.int .u8 0), (.int .u8 0), (.int .u8 0), (.int .u8 0), (.int .u8 0), (.int .u8 0), (.int .u8 0), (.int .u8 0), (.int .u8 0), (.int .u8 0), (.int .u8 0), (.int .u8 0), (.int .u8 0), (.int .u8 0), (.int .u8 0), (.int .u8 0), (.int .u8 0), (.int .u8 0), (.int .u8 0), (.int .u8 0), (.int .u8 0), (.int .u8 0), (.int .u8 0), (.int .u8 0), (.int .u8 0), (.int .u8 0), (.int .u8 0)]⟩)), []⟩])
 (.seq (.ops [
 ⟨(some 6), none, .buildSlice 5 [(.int .u8 0)] 1 [(0, 1, (.cst (.int .u8 1)))], []⟩,
 ⟨(some 5), none, .move (.tmp 6), []⟩])
 (.seq (.ops [
 ⟨(some 7), none, .move (.tmp 5), []⟩,
 ⟨(some 8), none, .sliceArr 1 32 (.tmp 2) none none none, []⟩,
 ⟨(some 9), none, .append 5 1 1 (.tmp 7) (.tmp 8), []⟩,
 ⟨(some 5), none, .move (.tmp 9), []⟩])
 (.seq (.ops [
 ⟨(some 10), none, .move (.tmp 5), []⟩,
 ⟨(some 11), none, .sliceArr 1 32 (.tmp 3) none none none, []⟩,
 ⟨(some 12), none, .append 5 1 1 (.tmp 10) (.tmp 11), []⟩,
 ⟨(some 5), none, .move (.tmp 12), []⟩])
 (.seq (.ops [
 ⟨(some 13), none, .move (.tmp 5), []⟩,
 ⟨(some 14), none, .move (.tmp 5), []⟩,
 ⟨(some 15), none, .call 27 [(.tmp 14)], []⟩,
 ⟨(some 16), none, .call 57 [(.tmp 15)], []⟩,
 ⟨(some 17), none, .build [(.slice none 0 0), (.int .u8 0), (.int .u8 0), (.int .u8 0), (.int .u8 0), (.int .u8 0), (.int .u8 0), (.int .u8 0), (.int .u8 0), (.int .u8 0), (.int .u8 0), (.int .u8 0), (.int .u8 0), (.int .u8 0), (.int .u8 0), (.int .u8 0), (.int .u8 0), (.int .u8 0), (.int .u8 0), (.int .u8 0), (.int .u8 0), (.int .u8 0), (.int .u8 0), (.int .u8 0), (.int .u8 0), (.int .u8 0), (.int .u8 0), (.int .u8 0), (.int .u8 0), (.int .u8 0), (.int .u8 0), (.int .u8 0), (.int .u8 0)] [(0, 1, (.tmp 13)), (1, 32, (.tmp 16))], []⟩,
 ⟨none, none, .storeN 33 (.tmp 4) (.tmp 17), []⟩])
 .ret)))))
def r71 : List ARes := [.cellN 4 33]
def a71 : AFn := ⟨b71, r71, 0⟩
def b28 : ACode := (.seq (.ops [
 ⟨(some 6), none, .box 30 (.tmp 2), []⟩,
 ⟨(some 8), none, .move (.cst (.slice none 0 0)), []⟩,
 ⟨(some 9), none, .box 30 (.cst (.agg ⟨[(.int .u8 0), (.int .u8 0), (.int .u8 0), (.int .u8 0), (.int .u8 0), (.int .u8 0), (.int .u8 0), (.int .u8 0), (.int .u8 0), (.int .u8 0), (.int .u8 0), (.int .u8 0), (.int .u8 0), (.int .u8 0), (.int .u8 0), (.int .u8 0), (.int .u8 0), (.int .u8 0), (.int .u8 0), (.int .u8 0), (.int .u8 0), (.int .u8 0), (.int .u8 0), (.int .u8 0), (.int .u8 0), (.int .u8 0), (.int .u8 0), (.int .u8 0), (.int .u8 0), (.int .u8 0), (.int .u8 0), (.int .u8 0)]⟩)), []⟩])
 (.seq (.seq (.ops [
 ⟨(some 18), none, .move (.tmp 1), []⟩,
 ⟨(some 19), none, .bin .leq (.tmp 18) (.cst (.int .u64 1)), []⟩,
 ⟨(some 20), none, .move (.tmp 19), []⟩,
 ⟨(some 21), (some (20, false)), .move (.tmp 3), []⟩,
 ⟨(some 22), (some (20, false)), .len (.tmp 21), []⟩,
 ⟨(some 23), (some (20, false)), .bin .eql (.tmp 22) (.cst (.int .i64 0)), []⟩,
 ⟨(some 24), none, .pick (.tmp 20) (.cst (.bool true)) (.tmp 23), []⟩])
 (.cond (.tmp 24)
 (.seq (.draw [
 ⟨(some 25), none, .loadN 32 (.tmp 6), []⟩,
 ⟨(some 8), none, .move (.cst (.slice none 0 0)), []⟩,
 ⟨none, none, .storeN 32 (.tmp 9) (.tmp 25), []⟩])
 .ret)
 .skip))
 (.seq (.ops [
 ⟨(some 26), none, .move (.tmp 1), []⟩,
 ⟨(some 27), none, .call 70 [(.tmp 26)], []⟩,
 ⟨(some 10), none, .move (.tmp 27), []⟩])
 (.seq (.ops [
 ⟨(some 28), none, .move (.tmp 3), []⟩,
 ⟨(some 29), none, .move (.tmp 3), []⟩,
 ⟨(some 30), none, .len (.tmp 29), []⟩,
 ⟨(some 31), none, .bin .sub (.tmp 30) (.cst (.int .i64 1)), []⟩,
 ⟨(some 32), none, .idxAddrSl 32 (.tmp 28) (.tmp 31), []⟩,
 ⟨(some 33), none, .loadN 32 (.tmp 32), []⟩,
 ⟨(some 11), none, .box 30 (.cst (.agg ⟨[(.int .u8 0), (.int .u8 0), (.int .u8 0), (.int .u8 0), (.int .u8 0), (.int .u8 0), (.int .u8 0), (.int .u8 0), (.int .u8 0), (.int .u8 0), (.int .u8 0), (.int .u8 0), (.int .u8 0), (.int .u8 0), (.int .u8 0), (.int .u8 0), (.int .u8 0), (.int .u8 0), (.int .u8 0), (.int .u8 0), (.int .u8 0), (.int .u8 0), (.int .u8 0), (.int .u8 0), (.int .u8 0), (.int .u8 0), (.int .u8 0), (.int .u8 0), (.int .u8 0), (.int .u8 0), (.int .u8 0), (.int .u8 0)]⟩)), []⟩,
 ⟨none, none, .storeN 32 (.tmp 11) (.tmp 33), []⟩])
 (.seq (.seq (.ops [
 ⟨(some 34), none, .move (.tmp 0), []⟩,
 ⟨(some 35), none, .move (.tmp 10), []⟩,
 ⟨(some 36), none, .bin .lss (.tmp 34) (.tmp 35), []⟩])
 (.cond (.tmp 36)
 (.seq (.draw [
 ⟨(some 13), none, .box 30 (.cst (.agg ⟨[(.int .u8 0), (.int .u8 0), (.int .u8 0), (.int .u8 0), (.int .u8 0), (.int .u8 0), (.int .u8 0), (.int .u8 0), (.int .u8 0), (.int .u8 0), (.int .u8 0), (.int .u8 0), (.int .u8 0), (.int .u8 0), (.int .u8 0), (.int .u8 0), (.int .u8 0), (.int .u8 0), (.int .u8 0), (.int .u8 0), (.int .u8 0), (.int .u8 0), (.int .u8 0), (.int .u8 0), (.int .u8 0), (.int .u8 0), (.int .u8 0), (.int .u8 0), (.int .u8 0), (.int .u8 0), (.int .u8 0), (.int .u8 0)]⟩)), []⟩,
 ⟨(some 38), none, .move (.tmp 0), []⟩,
 ⟨(some 39), none, .move (.tmp 10), []⟩,
 ⟨(some 40), none, .loadN 32 (.tmp 6), []⟩,
 ⟨(some 41), none, .move (.tmp 3), []⟩,
 ⟨(some 42), none, .move (.tmp 3), []⟩,
 ⟨(some 43), none, .len (.tmp 42), []⟩,
 ⟨(some 44), none, .bin .sub (.tmp 43) (.cst (.int .i64 1)), []⟩,
 ⟨(some 45), none, .sliceSl 32 (.tmp 41) none (some (.tmp 44)) none, []⟩,
 ⟨(some 46), none, .call 28 [(.tmp 38), (.tmp 39), (.tmp 40), (.tmp 45)], []⟩,
 ⟨(some 37), none, .move (.tmp 46), []⟩,
 ⟨(some 47), none, .extract 0 (.tmp 37), []⟩,
 ⟨(some 48), none, .extract 1 (.tmp 37), []⟩,
 ⟨(some 12), none, .move (.tmp 47), []⟩,
 ⟨none, none, .storeN 32 (.tmp 13) (.tmp 48), []⟩])
 (.seq (.ops [
 ⟨(some 49), none, .loadN 32 (.tmp 13), []⟩,
 ⟨(some 50), none, .loadN 32 (.tmp 11), []⟩,
 ⟨(some 51), none, .call 71 [(.tmp 49), (.tmp 50)], []⟩,
 ⟨(some 14), none, .box 158 (.cst (.agg ⟨[(.slice none 0 0), (.int .u8 0), (.int .u8 0), (.int .u8 0), (.int .u8 0), (.int .u8 0), (.int .u8 0), (.int .u8 0), (.int .u8 0), (.int .u8 0), (.int .u8 0), (.int .u8 0), (.int .u8 0), (.int .u8 0), (.int .u8 0), (.int .u8 0), (.int .u8 0), (.int .u8 0), (.int .u8 0), (.int .u8 0), (.int .u8 0), (.int .u8 0), (.int .u8 0), (.int .u8 0), (.int .u8 0), (.int .u8 0), (.int .u8 0), (.int .u8 0), (.int .u8 0), (.int .u8 0), (.int .u8 0), (.int .u8 0), (.int .u8 0)]⟩)), []⟩,
 ⟨none, none, .storeN 33 (.tmp 14) (.tmp 51), []⟩])
 (.seq (.draw [
 ⟨(some 52), none, .move (.tmp 12), []⟩,
 ⟨(some 53), none, .loadN 33 (.tmp 14), []⟩,
 ⟨(some 56), none, .fieldAddr 1 (.tmp 14), []⟩,
 ⟨(some 57), none, .loadN 32 (.tmp 56), [5, 7]⟩,
 ⟨(some 54), none, .buildSlice 158 [(.slice none 0 0), (.int .u8 0), (.int .u8 0), (.int .u8 0), (.int .u8 0), (.int .u8 0), (.int .u8 0), (.int .u8 0), (.int .u8 0), (.int .u8 0), (.int .u8 0), (.int .u8 0), (.int .u8 0), (.int .u8 0), (.int .u8 0), (.int .u8 0), (.int .u8 0), (.int .u8 0), (.int .u8 0), (.int .u8 0), (.int .u8 0), (.int .u8 0), (.int .u8 0), (.int .u8 0), (.int .u8 0), (.int .u8 0), (.int .u8 0), (.int .u8 0), (.int .u8 0), (.int .u8 0), (.int .u8 0), (.int .u8 0), (.int .u8 0)] 1 [(0, 33, (.tmp 53))], []⟩,
 ⟨(some 55), none, .append 158 33 56 (.tmp 52) (.tmp 54), []⟩,
 ⟨(some 8), none, .move (.tmp 55), []⟩,
 ⟨none, none, .storeN 32 (.tmp 9) (.tmp 57), []⟩])
 .ret)))
 .skip))
 (.seq (.draw [
 ⟨(some 16), none, .box 30 (.cst (.agg ⟨[(.int .u8 0), (.int .u8 0), (.int .u8 0), (.int .u8 0), (.int .u8 0), (.int .u8 0), (.int .u8 0), (.int .u8 0), (.int .u8 0), (.int .u8 0), (.int .u8 0), (.int .u8 0), (.int .u8 0), (.int .u8 0), (.int .u8 0), (.int .u8 0), (.int .u8 0), (.int .u8 0), (.int .u8 0), (.int .u8 0), (.int .u8 0), (.int .u8 0), (.int .u8 0), (.int .u8 0), (.int .u8 0), (.int .u8 0), (.int .u8 0), (.int .u8 0), (.int .u8 0), (.int .u8 0), (.int .u8 0), (.int .u8 0)]⟩)), []⟩,
 ⟨(some 59), none, .move (.tmp 0), []⟩,
 ⟨(some 60), none, .move (.tmp 10), []⟩,
 ⟨(some 61), none, .bin .sub (.tmp 59) (.tmp 60), []⟩,
 ⟨(some 62), none, .move (.tmp 1), []⟩,
 ⟨(some 63), none, .move (.tmp 10), []⟩,
 ⟨(some 64), none, .bin .sub (.tmp 62) (.tmp 63), []⟩,
 ⟨(some 65), none, .loadN 32 (.tmp 6), []⟩,
 ⟨(some 66), none, .move (.tmp 3), []⟩,
 ⟨(some 67), none, .move (.tmp 3), []⟩,
 ⟨(some 68), none, .len (.tmp 67), []⟩,
 ⟨(some 69), none, .bin .sub (.tmp 68) (.cst (.int .i64 1)), []⟩,
 ⟨(some 70), none, .sliceSl 32 (.tmp 66) none (some (.tmp 69)) none, []⟩,
 ⟨(some 71), none, .call 28 [(.tmp 61), (.tmp 64), (.tmp 65), (.tmp 70)], []⟩,
 ⟨(some 58), none, .move (.tmp 71), []⟩,
 ⟨(some 72), none, .extract 0 (.tmp 58), []⟩,
 ⟨(some 73), none, .extract 1 (.tmp 58), []⟩,
 ⟨(some 15), none, .move (.tmp 72), []⟩,
 ⟨none, none, .storeN 32 (.tmp 16) (.tmp 73), []⟩])
 (.seq (.ops [
 ⟨(some 74), none, .loadN 32 (.tmp 11), []⟩,
 ⟨(some 75), none, .loadN 32 (.tmp 16), []⟩,
 ⟨(some 76), none, .call 71 [(.tmp 74), (.tmp 75)], []⟩,
 ⟨(some 17), none, .box 158 (.cst (.agg ⟨[(.slice none 0 0), (.int .u8 0), (.int .u8 0), (.int .u8 0), (.int .u8 0), (.int .u8 0), (.int .u8 0), (.int .u8 0), (.int .u8 0), (.int .u8 0), (.int .u8 0), (.int .u8 0), (.int .u8 0), (.int .u8 0), (.int .u8 0), (.int .u8 0), (.int .u8 0), (.int .u8 0), (.int .u8 0), (.int .u8 0), (.int .u8 0), (.int .u8 0), (.int .u8 0), (.int .u8 0), (.int .u8 0), (.int .u8 0), (.int .u8 0), (.int .u8 0), (.int .u8 0), (.int .u8 0), (.int .u8 0), (.int .u8 0), (.int .u8 0)]⟩)), []⟩,
 ⟨none, none, .storeN 33 (.tmp 17) (.tmp 76), []⟩])
 (.seq (.draw [
 ⟨(some 77), none, .move (.tmp 15), []⟩,
 ⟨(some 78), none, .loadN 33 (.tmp 17), []⟩,
 ⟨(some 81), none, .fieldAddr 1 (.tmp 17), []⟩,
 ⟨(some 82), none, .loadN 32 (.tmp 81), [5, 7]⟩,
 ⟨(some 79), none, .buildSlice 158 [(.slice none 0 0), (.int .u8 0), (.int .u8 0), (.int .u8 0), (.int .u8 0), (.int .u8 0), (.int .u8 0), (.int .u8 0), (.int .u8 0), (.int .u8 0), (.int .u8 0), (.int .u8 0), (.int .u8 0), (.int .u8 0), (.int .u8 0), (.int .u8 0), (.int .u8 0), (.int .u8 0), (.int .u8 0), (.int .u8 0), (.int .u8 0), (.int .u8 0), (.int .u8 0), (.int .u8 0), (.int .u8 0), (.int .u8 0), (.int .u8 0), (.int .u8 0), (.int .u8 0), (.int .u8 0), (.int .u8 0), (.int .u8 0), (.int .u8 0)] 1 [(0, 33, (.tmp 78))], []⟩,
 ⟨(some 80), none, .append 158 33 56 (.tmp 77) (.tmp 79), []⟩,
 ⟨(some 8), none, .move (.tmp 80), []⟩,
 ⟨none, none, .storeN 32 (.tmp 9) (.tmp 82), []⟩])
 .ret))))))))
def r28 : List ARes := [.tmp 8, .cellN 9 32]
def a28 : AFn := ⟨b28, r28, 0⟩
def lp29_0 : ACode := (.seq (.seq (.ops [
 ⟨(some 11), none, .move (.tmp 4), []⟩,
 ⟨(some 12), none, .move (.tmp 3), []⟩,
 ⟨(some 13), none, .bin .lss (.tmp 11) (.tmp 12), []⟩])
 (.cond (.tmp 13)
 .skip
 (.exit 2)))
 (.seq (.block 3 (.seq (.draw [
 ⟨(some 16), none, .move (.tmp 0), []⟩,
 ⟨(some 17), none, .move (.tmp 3), []⟩,
 ⟨(some 18), none, .idxAddrSl 33 (.tmp 16) (.tmp 17), []⟩,
 ⟨(some 19), none, .fieldAddr 1 (.tmp 18), []⟩,
 ⟨(some 20), none, .loadN 32 (.tmp 19), []⟩,
 ⟨(some 21), none, .move (.tmp 0), []⟩,
 ⟨(some 22), none, .move (.tmp 4), []⟩,
 ⟨(some 23), none, .idxAddrSl 33 (.tmp 21) (.tmp 22), []⟩,
 ⟨(some 24), none, .fieldAddr 1 (.tmp 23), []⟩,
 ⟨(some 25), none, .loadN 32 (.tmp 24), []⟩,
 ⟨(some 26), none, .eq false (.flat [.i, .i, .i, .i, .i, .i, .i, .i, .i, .i, .i, .i, .i, .i, .i, .i, .i, .i, .i, .i, .i, .i, .i, .i, .i, .i, .i, .i, .i, .i, .i, .i]) (.tmp 20) (.tmp 25), []⟩,
 ⟨(some 27), none, .move (.tmp 26), []⟩,
 ⟨(some 28), (some (27, true)), .move (.tmp 0), []⟩,
 ⟨(some 29), (some (27, true)), .move (.tmp 3), []⟩,
 ⟨(some 30), (some (27, true)), .idxAddrSl 33 (.tmp 28) (.tmp 29), []⟩,
 ⟨(some 31), (some (27, true)), .fieldAddr 0 (.tmp 30), []⟩,
 ⟨(some 32), (some (27, true)), .load1 (.tmp 31), []⟩,
 ⟨(some 33), (some (27, true)), .move (.tmp 0), []⟩,
 ⟨(some 34), (some (27, true)), .move (.tmp 4), []⟩,
 ⟨(some 35), (some (27, true)), .idxAddrSl 33 (.tmp 33) (.tmp 34), []⟩,
 ⟨(some 36), (some (27, true)), .fieldAddr 0 (.tmp 35), []⟩,
 ⟨(some 37), (some (27, true)), .load1 (.tmp 36), []⟩,
 ⟨(some 38), (some (27, true)), .call 39 [(.tmp 32), (.tmp 37)], []⟩,
 ⟨(some 39), (some (27, true)), .un .not (.tmp 38), []⟩,
 ⟨(some 40), none, .pick (.tmp 27) (.tmp 39) (.cst (.bool false)), []⟩])
 (.cond (.tmp 40)
 (.seq (.ops [
 ⟨(some 2), none, .move (.cst (.bool true)), []⟩])
 .ret)
 .skip)))
 (.ops [
 ⟨(some 14), none, .move (.tmp 4), []⟩,
 ⟨(some 15), none, .bin .add (.tmp 14) (.cst (.int .i64 1)), []⟩,
 ⟨(some 4), none, .move (.tmp 15), []⟩])))
def k29_0 : ACode := (.ops [
 ⟨(some 9), none, .move (.tmp 3), []⟩,
 ⟨(some 10), none, .bin .add (.tmp 9) (.cst (.int .i64 1)), []⟩,
 ⟨(some 3), none, .move (.tmp 10), []⟩])
def lp29_1 : ACode := (.seq (.seq (.ops [
 ⟨(some 5), none, .move (.tmp 3), []⟩,
 ⟨(some 6), none, .move (.tmp 0), []⟩,
 ⟨(some 7), none, .len (.tmp 6), []⟩,
 ⟨(some 8), none, .bin .lss (.tmp 5) (.tmp 7), []⟩])
 (.cond (.tmp 8)
 .skip
 (.exit 0)))
 (.seq (.block 1 (.seq (.ops [
 ⟨(some 4), none, .move (.cst (.int .i64 0)), []⟩])
 (.block 2 (.loop lp29_0))))
 k29_0))
def k29_1 : ACode := (.seq (.ops [
 ⟨(some 2), none, .move (.cst (.bool false)), []⟩])
 .ret)
def b29 : ACode := (.seq (.ops [
 ⟨(some 2), none, .move (.cst (.bool false)), []⟩])
 (.seq (.seq (.ops [
 ⟨(some 3), none, .move (.cst (.int .i64 0)), []⟩])
 (.block 0 (.loop lp29_1)))
 k29_1))
def r29 : List ARes := [.tmp 2]
def a29 : AFn := ⟨b29, r29, 2⟩
def lp24_0 : ACode := (.seq (.seq (.ops [
 ⟨(some 34), none, .move (.tmp 12), []⟩,
 ⟨(some 35), none, .move (.tmp 0), []⟩,
 ⟨(some 36), none, .len (.tmp 35), []⟩,
 ⟨(some 37), none, .bin .lss (.tmp 34) (.tmp 36), []⟩,
 ⟨(some 38), none, .move (.tmp 37), []⟩,
 ⟨(some 39), (some (38, true)), .move (.tmp 12), []⟩,
 ⟨(some 40), (some (38, true)), .move (.tmp 1), []⟩,
 ⟨(some 41), (some (38, true)), .bin .lss (.tmp 39) (.tmp 40), []⟩,
 ⟨(some 42), none, .pick (.tmp 38) (.tmp 41) (.cst (.bool false)), []⟩])
 (.cond (.tmp 42)
 .skip
 (.exit 0)))
 (.seq (.block 1 (.seq (.seq (.ops [
 ⟨(some 45), none, .move (.tmp 0), []⟩,
 ⟨(some 46), none, .move (.tmp 12), []⟩,
 ⟨(some 47), none, .idxAddrSl 1 (.tmp 45) (.tmp 46), []⟩,
 ⟨(some 48), none, .load1 (.tmp 47), []⟩,
 ⟨(some 49), none, .len (.tmp 48), []⟩,
 ⟨(some 50), none, .bin .gtr (.tmp 49) (.cst (.int .i64 16384)), []⟩])
 (.cond (.tmp 50)
 (.exit 1)
 .skip))
 (.seq (.ops [
 ⟨(some 51), none, .move (.tmp 11), []⟩,
 ⟨(some 52), none, .move (.tmp 0), []⟩,
 ⟨(some 53), none, .move (.tmp 12), []⟩,
 ⟨(some 54), none, .idxAddrSl 1 (.tmp 52) (.tmp 53), []⟩,
 ⟨(some 55), none, .load1 (.tmp 54), []⟩,
 ⟨(some 56), none, .len (.tmp 55), []⟩,
 ⟨(some 57), none, .bin .sub (.tmp 51) (.tmp 56), []⟩,
 ⟨(some 58), none, .bin .sub (.tmp 57) (.cst (.int .i64 100)), []⟩,
 ⟨(some 11), none, .move (.tmp 58), []⟩])
 (.seq (.seq (.ops [
 ⟨(some 59), none, .move (.tmp 11), []⟩,
 ⟨(some 60), none, .bin .lss (.tmp 59) (.cst (.int .i64 0)), []⟩])
 (.cond (.tmp 60)
 (.exit 0)
 .skip))
 (.seq (.ops [
 ⟨(some 62), none, .move (.tmp 8), []⟩,
 ⟨(some 63), none, .move (.tmp 0), []⟩,
 ⟨(some 64), none, .move (.tmp 12), []⟩,
 ⟨(some 65), none, .idxAddrSl 1 (.tmp 63) (.tmp 64), []⟩,
 ⟨(some 66), none, .load1 (.tmp 65), []⟩,
 ⟨(some 67), none, .call 27 [(.tmp 66)], []⟩,
 ⟨(some 68), none, .call 45 [(.tmp 62), (.tmp 67)], []⟩,
 ⟨(some 61), none, .move (.tmp 68), []⟩,
 ⟨(some 69), none, .extract 0 (.tmp 61), []⟩,
 ⟨(some 70), none, .extract 1 (.tmp 61), []⟩,
 ⟨(some 13), none, .move (.tmp 69), []⟩,
 ⟨(some 14), none, .move (.tmp 70), []⟩])
 (.seq (.seq (.ops [
 ⟨(some 71), none, .move (.tmp 14), []⟩,
 ⟨(some 72), none, .call 11 [(.tmp 71)], []⟩,
 ⟨(some 73), none, .bin .neq (.tmp 72) (.cst (.int .i64 0)), []⟩,
 ⟨(some 74), none, .move (.tmp 73), []⟩,
 ⟨(some 75), (some (74, false)), .move (.tmp 13), []⟩,
 ⟨(some 76), (some (74, false)), .move (.tmp 10), []⟩,
 ⟨(some 77), (some (74, false)), .len (.tmp 76), []⟩,
 ⟨(some 78), (some (74, false)), .convInt .u64 (.tmp 77), []⟩,
 ⟨(some 79), (some (74, false)), .bin .neq (.tmp 75) (.tmp 78), []⟩,
 ⟨(some 80), none, .pick (.tmp 74) (.cst (.bool true)) (.tmp 79), []⟩])
 (.cond (.tmp 80)
 (.seq (.ops [
 ⟨(some 4), none, .move (.cst (.pointer none)), []⟩,
 ⟨(some 5), none, .move (.cst (.slice none 0 0)), []⟩])
 .ret)
 .skip))
 (.ops [
 ⟨(some 81), none, .move (.tmp 10), []⟩,
 ⟨(some 82), none, .move (.tmp 0), []⟩,
 ⟨(some 83), none, .move (.tmp 12), []⟩,
 ⟨(some 84), none, .idxAddrSl 1 (.tmp 82) (.tmp 83), []⟩,
 ⟨(some 85), none, .load1 (.tmp 84), []⟩,
 ⟨(some 86), none, .buildSlice 41 [(.slice none 0 0)] 1 [(0, 1, (.tmp 85))], []⟩,
 ⟨(some 87), none, .append 41 1 24 (.tmp 81) (.tmp 86), []⟩,
 ⟨(some 10), none, .move (.tmp 87), []⟩])))))))
 (.ops [
 ⟨(some 43), none, .move (.tmp 12), []⟩,
 ⟨(some 44), none, .bin .add (.tmp 43) (.cst (.int .i64 1)), []⟩,
 ⟨(some 12), none, .move (.tmp 44), []⟩])))
def k24_0 : ACode := (.seq (.ops [
 ⟨(some 88), none, .move (.tmp 8), []⟩,
 ⟨(some 89), none, .move (.tmp 10), []⟩,
 ⟨(some 4), none, .move (.tmp 88), []⟩,
 ⟨(some 5), none, .move (.tmp 89), []⟩])
 .ret)
def b24 : ACode := (.seq (.ops [
 ⟨(some 4), none, .move (.cst (.pointer none)), []⟩,
 ⟨(some 5), none, .move (.cst (.slice none 0 0)), []⟩])
 (.seq (.ops [
 ⟨(some 16), none, .call 42 [(.cst (.int .i64 16777216))], []⟩,
 ⟨(some 15), none, .move (.tmp 16), []⟩,
 ⟨(some 17), none, .extract 0 (.tmp 15), []⟩,
 ⟨(some 18), none, .extract 1 (.tmp 15), []⟩,
 ⟨(some 6), none, .move (.tmp 17), []⟩,
 ⟨(some 7), none, .move (.tmp 18), []⟩])
 (.seq (.seq (.ops [
 ⟨(some 19), none, .move (.tmp 7), []⟩,
 ⟨(some 20), none, .call 11 [(.tmp 19)], []⟩,
 ⟨(some 21), none, .bin .neq (.tmp 20) (.cst (.int .i64 0)), []⟩])
 (.cond (.tmp 21)
 (.seq (.ops [
 ⟨(some 4), none, .move (.cst (.pointer none)), []⟩,
 ⟨(some 5), none, .move (.cst (.slice none 0 0)), []⟩])
 .ret)
 .skip))
 (.seq (.ops [
 ⟨(some 23), none, .move (.tmp 6), []⟩,
 ⟨(some 24), none, .call 43 [(.tmp 23), (.cst (.string ⟨⟨[97, 117, 100, 105, 116]⟩⟩))], []⟩,
 ⟨(some 22), none, .move (.tmp 24), []⟩,
 ⟨(some 25), none, .extract 0 (.tmp 22), []⟩,
 ⟨(some 26), none, .extract 1 (.tmp 22), []⟩,
 ⟨(some 8), none, .move (.tmp 25), []⟩,
 ⟨(some 9), none, .move (.tmp 26), []⟩])
 (.seq (.seq (.ops [
 ⟨(some 27), none, .move (.tmp 9), []⟩,
 ⟨(some 28), none, .call 11 [(.tmp 27)], []⟩,
 ⟨(some 29), none, .bin .neq (.tmp 28) (.cst (.int .i64 0)), []⟩,
 ⟨(some 30), none, .move (.tmp 29), []⟩,
 ⟨(some 31), (some (30, false)), .move (.tmp 8), []⟩,
 ⟨(some 32), (some (30, false)), .eq false .nilP (.tmp 31) (.cst (.pointer none)), []⟩,
 ⟨(some 33), none, .pick (.tmp 30) (.cst (.bool true)) (.tmp 32), []⟩])
 (.cond (.tmp 33)
 (.seq (.ops [
 ⟨(some 4), none, .move (.cst (.pointer none)), []⟩,
 ⟨(some 5), none, .move (.cst (.slice none 0 0)), []⟩])
 .ret)
 .skip))
 (.seq (.ops [
 ⟨(some 10), none, .move (.cst (.slice none 0 0)), []⟩])
 (.seq (.ops [
 ⟨(some 11), none, .move (.cst (.int .i64 200000)), []⟩])
 (.seq (.seq (.ops [
 ⟨(some 12), none, .move (.cst (.int .i64 0)), []⟩])
 (.block 0 (.loop lp24_0)))
 k24_0))))))))
def r24 : List ARes := [.tmp 4, .tmp 5]
def a24 : AFn := ⟨b24, r24, 0⟩
def lp23_0 : ACode := (.seq (.seq (.ops [
 ⟨(some 34), none, .move (.tmp 5), []⟩,
 ⟨(some 35), none, .bin .lss (.tmp 34) (.cst (.int .i64 3)), []⟩])
 (.cond (.tmp 35)
 .skip
 (.exit 0)))
 (.seq (.block 1 (.seq (.ops [
 ⟨(some 39), none, .move (.tmp 3), []⟩,
 ⟨(some 40), none, .move (.tmp 5), []⟩,
 ⟨(some 41), none, .convInt .u8 (.tmp 40), []⟩,
 ⟨(some 42), none, .buildSlice 5 [(.int .u8 0)] 1 [(0, 1, (.tmp 41))], []⟩,
 ⟨(some 43), none, .call 45 [(.tmp 39), (.tmp 42)], []⟩,
 ⟨(some 38), none, .move (.tmp 43), []⟩,
 ⟨(some 44), none, .extract 0 (.tmp 38), []⟩,
 ⟨(some 45), none, .extract 1 (.tmp 38), []⟩,
 ⟨(some 6), none, .move (.tmp 44), []⟩,
 ⟨(some 7), none, .move (.tmp 45), []⟩])
 (.seq (.ops [
 ⟨(some 46), none, .move (.tmp 7), []⟩,
 ⟨(some 47), none, .call 11 [(.tmp 46)], []⟩,
 ⟨(some 48), none, .bin .neq (.tmp 47) (.cst (.int .i64 0)), []⟩,
 ⟨(some 49), none, .move (.tmp 48), []⟩,
 ⟨(some 50), (some (49, false)), .move (.tmp 6), []⟩,
 ⟨(some 51), (some (49, false)), .move (.tmp 5), []⟩,
 ⟨(some 52), (some (49, false)), .convInt .u64 (.tmp 51), []⟩,
 ⟨(some 53), (some (49, false)), .bin .neq (.tmp 50) (.tmp 52), []⟩,
 ⟨(some 54), none, .pick (.tmp 49) (.cst (.bool true)) (.tmp 53), []⟩])
 (.cond (.tmp 54)
 (.seq (.ops [
 ⟨(some 0), none, .move (.cst (.bool false)), []⟩])
 .ret)
 .skip))))
 (.ops [
 ⟨(some 36), none, .move (.tmp 5), []⟩,
 ⟨(some 37), none, .bin .add (.tmp 36) (.cst (.int .i64 1)), []⟩,
 ⟨(some 5), none, .move (.tmp 37), []⟩])))
def k23_0 : ACode := (.seq (.ops [
 ⟨(some 56), none, .move (.tmp 3), []⟩,
 ⟨(some 57), none, .call 25 [(.tmp 56), (.cst (.int .u64 3))], []⟩,
 ⟨(some 55), none, .move (.tmp 57), []⟩,
 ⟨(some 58), none, .extract 0 (.tmp 55), []⟩,
 ⟨(some 59), none, .extract 1 (.tmp 55), []⟩,
 ⟨(some 8), none, .box 35 (.cst (.agg ⟨[(.int .u64 0), (.int .u8 0), (.int .u8 0), (.int .u8 0), (.int .u8 0), (.int .u8 0), (.int .u8 0), (.int .u8 0), (.int .u8 0), (.int .u8 0), (.int .u8 0), (.int .u8 0), (.int .u8 0), (.int .u8 0), (.int .u8 0), (.int .u8 0), (.int .u8 0), (.int .u8 0), (.int .u8 0), (.int .u8 0), (.int .u8 0), (.int .u8 0), (.int .u8 0), (.int .u8 0), (.int .u8 0), (.int .u8 0), (.int .u8 0), (.int .u8 0), (.int .u8 0), (.int .u8 0), (.int .u8 0), (.int .u8 0), (.int .u8 0)]⟩)), []⟩,
 ⟨none, none, .storeN 33 (.tmp 8) (.tmp 58), []⟩,
 ⟨(some 2), none, .move (.tmp 59), []⟩])
 (.seq (.ops [
 ⟨(some 61), none, .move (.tmp 3), []⟩,
 ⟨(some 62), none, .call 25 [(.tmp 61), (.cst (.int .u64 2))], []⟩,
 ⟨(some 60), none, .move (.tmp 62), []⟩,
 ⟨(some 63), none, .extract 0 (.tmp 60), []⟩,
 ⟨(some 64), none, .extract 1 (.tmp 60), []⟩,
 ⟨(some 9), none, .box 35 (.cst (.agg ⟨[(.int .u64 0), (.int .u8 0), (.int .u8 0), (.int .u8 0), (.int .u8 0), (.int .u8 0), (.int .u8 0), (.int .u8 0), (.int .u8 0), (.int .u8 0), (.int .u8 0), (.int .u8 0), (.int .u8 0), (.int .u8 0), (.int .u8 0), (.int .u8 0), (.int .u8 0), (.int .u8 0), (.int .u8 0), (.int .u8 0), (.int .u8 0), (.int .u8 0), (.int .u8 0), (.int .u8 0), (.int .u8 0), (.int .u8 0), (.int .u8 0), (.int .u8 0), (.int .u8 0), (.int .u8 0), (.int .u8 0), (.int .u8 0), (.int .u8 0)]⟩)), []⟩,
 ⟨none, none, .storeN 33 (.tmp 9) (.tmp 63), []⟩,
 ⟨(some 4), none, .move (.tmp 64), []⟩])
 (.seq (.ops [
 ⟨(some 66), none, .move (.tmp 3), []⟩,
 ⟨(some 67), none, .call 26 [(.tmp 66), (.cst (.int .u64 1)), (.cst (.int .u64 3))], []⟩,
 ⟨(some 65), none, .move (.tmp 67), []⟩,
 ⟨(some 68), none, .extract 0 (.tmp 65), []⟩,
 ⟨(some 69), none, .extract 1 (.tmp 65), []⟩,
 ⟨(some 10), none, .move (.tmp 68), []⟩,
 ⟨(some 11), none, .move (.tmp 69), []⟩])
 (.seq (.ops [
 ⟨(some 71), none, .move (.tmp 3), []⟩,
 ⟨(some 72), none, .call 30 [(.tmp 71), (.cst (.int .u64 2)), (.cst (.int .u64 3))], []⟩,
 ⟨(some 70), none, .move (.tmp 72), []⟩,
 ⟨(some 73), none, .extract 0 (.tmp 70), []⟩,
 ⟨(some 74), none, .extract 1 (.tmp 70), []⟩,
 ⟨(some 12), none, .move (.tmp 73), []⟩,
 ⟨(some 13), none, .move (.tmp 74), []⟩])
 (.seq (.ops [
 ⟨(some 75), none, .move (.tmp 2), []⟩,
 ⟨(some 76), none, .call 11 [(.tmp 75)], []⟩,
 ⟨(some 77), none, .bin .eql (.tmp 76) (.cst (.int .i64 0)), []⟩,
 ⟨(some 78), none, .move (.tmp 77), []⟩,
 ⟨(some 79), (some (78, true)), .move (.tmp 4), []⟩,
 ⟨(some 80), (some (78, true)), .call 11 [(.tmp 79)], []⟩,
 ⟨(some 81), (some (78, true)), .bin .eql (.tmp 80) (.cst (.int .i64 0)), []⟩,
 ⟨(some 82), none, .pick (.tmp 78) (.tmp 81) (.cst (.bool false)), []⟩,
 ⟨(some 83), none, .move (.tmp 82), []⟩,
 ⟨(some 84), (some (83, true)), .move (.tmp 11), []⟩,
 ⟨(some 85), (some (83, true)), .call 11 [(.tmp 84)], []⟩,
 ⟨(some 86), (some (83, true)), .bin .eql (.tmp 85) (.cst (.int .i64 0)), []⟩,
 ⟨(some 87), none, .pick (.tmp 83) (.tmp 86) (.cst (.bool false)), []⟩,
 ⟨(some 88), none, .move (.tmp 87), []⟩,
 ⟨(some 89), (some (88, true)), .move (.tmp 13), []⟩,
 ⟨(some 90), (some (88, true)), .call 11 [(.tmp 89)], []⟩,
 ⟨(some 91), (some (88, true)), .bin .eql (.tmp 90) (.cst (.int .i64 0)), []⟩,
 ⟨(some 92), none, .pick (.tmp 88) (.tmp 91) (.cst (.bool false)), []⟩,
 ⟨(some 93), none, .move (.tmp 92), []⟩,
 ⟨(some 94), (some (93, true)), .move (.tmp 10), []⟩,
 ⟨(some 95), (some (93, true)), .len (.tmp 94), []⟩,
 ⟨(some 96), (some (93, true)), .bin .eql (.tmp 95) (.cst (.int .i64 2)), []⟩,
 ⟨(some 97), none, .pick (.tmp 93) (.tmp 96) (.cst (.bool false)), []⟩,
 ⟨(some 98), none, .move (.tmp 97), []⟩,
 ⟨(some 99), (some (98, true)), .move (.tmp 12), []⟩,
 ⟨(some 100), (some (98, true)), .len (.tmp 99), []⟩,
 ⟨(some 101), (some (98, true)), .bin .eql (.tmp 100) (.cst (.int .i64 1)), []⟩,
 ⟨(some 102), none, .pick (.tmp 98) (.tmp 101) (.cst (.bool false)), []⟩,
 ⟨(some 14), none, .move (.tmp 102), []⟩])
 (.seq (.draw [
 ⟨(some 103), none, .move (.tmp 14), []⟩,
 ⟨(some 104), none, .move (.tmp 103), []⟩,
 ⟨(some 105), (some (104, true)), .loadN 33 (.tmp 8), [7]⟩,
 ⟨(some 108), (some (104, true)), .move (.tmp 10), []⟩,
 ⟨(some 106), (some (104, true)), .buildSlice 5 [(.int .u8 0)] 1 [(0, 1, (.cst (.int .u8 1)))], []⟩,
 ⟨(some 107), (some (104, true)), .call 20 [(.tmp 106)], []⟩,
 ⟨(some 109), (some (104, true)), .call 12 [(.tmp 105), (.cst (.int .u64 1)), (.tmp 107), (.tmp 108)], []⟩,
 ⟨(some 110), (some (104, true)), .call 11 [(.tmp 109)], []⟩,
 ⟨(some 111), (some (104, true)), .bin .eql (.tmp 110) (.cst (.int .i64 0)), []⟩,
 ⟨(some 112), none, .pick (.tmp 104) (.tmp 111) (.cst (.bool false)), []⟩,
 ⟨(some 113), none, .move (.tmp 112), []⟩,
 ⟨(some 114), (some (113, true)), .loadN 33 (.tmp 9), []⟩,
 ⟨(some 115), (some (113, true)), .loadN 33 (.tmp 8), []⟩,
 ⟨(some 116), (some (113, true)), .move (.tmp 12), []⟩,
 ⟨(some 117), (some (113, true)), .call 14 [(.tmp 114), (.tmp 115), (.tmp 116)], []⟩,
 ⟨(some 118), (some (113, true)), .call 11 [(.tmp 117)], []⟩,
 ⟨(some 119), (some (113, true)), .bin .eql (.tmp 118) (.cst (.int .i64 0)), []⟩,
 ⟨(some 120), none, .pick (.tmp 113) (.tmp 119) (.cst (.bool false)), []⟩,
 ⟨(some 121), none, .move (.tmp 120), []⟩,
 ⟨(some 122), (some (121, true)), .loadN 33 (.tmp 8), [24]⟩,
 ⟨(some 125), (some (121, true)), .move (.tmp 10), []⟩,
 ⟨(some 123), (some (121, true)), .buildSlice 5 [(.int .u8 0)] 1 [(0, 1, (.cst (.int .u8 2)))], []⟩,
 ⟨(some 124), (some (121, true)), .call 20 [(.tmp 123)], []⟩,
 ⟨(some 126), (some (121, true)), .call 12 [(.tmp 122), (.cst (.int .u64 1)), (.tmp 124), (.tmp 125)], []⟩,
 ⟨(some 127), (some (121, true)), .call 11 [(.tmp 126)], []⟩,
 ⟨(some 128), (some (121, true)), .bin .neq (.tmp 127) (.cst (.int .i64 0)), []⟩,
 ⟨(some 129), none, .pick (.tmp 121) (.tmp 128) (.cst (.bool false)), []⟩,
 ⟨(some 0), none, .move (.tmp 129), []⟩])
 .ret))))))
def b23 : ACode := (.seq (.ops [
 ⟨(some 0), none, .move (.cst (.bool false)), []⟩])
 (.seq (.ops [
 ⟨(some 16), none, .call 42 [(.cst (.int .i64 1000))], []⟩,
 ⟨(some 15), none, .move (.tmp 16), []⟩,
 ⟨(some 17), none, .extract 0 (.tmp 15), []⟩,
 ⟨(some 18), none, .extract 1 (.tmp 15), []⟩,
 ⟨(some 1), none, .move (.tmp 17), []⟩,
 ⟨(some 2), none, .move (.tmp 18), []⟩])
 (.seq (.seq (.ops [
 ⟨(some 19), none, .move (.tmp 2), []⟩,
 ⟨(some 20), none, .call 11 [(.tmp 19)], []⟩,
 ⟨(some 21), none, .bin .neq (.tmp 20) (.cst (.int .i64 0)), []⟩])
 (.cond (.tmp 21)
 (.seq (.ops [
 ⟨(some 0), none, .move (.cst (.bool false)), []⟩])
 .ret)
 .skip))
 (.seq (.ops [
 ⟨(some 23), none, .move (.tmp 1), []⟩,
 ⟨(some 24), none, .call 43 [(.tmp 23), (.cst (.string ⟨⟨[97]⟩⟩))], []⟩,
 ⟨(some 22), none, .move (.tmp 24), []⟩,
 ⟨(some 25), none, .extract 0 (.tmp 22), []⟩,
 ⟨(some 26), none, .extract 1 (.tmp 22), []⟩,
 ⟨(some 3), none, .move (.tmp 25), []⟩,
 ⟨(some 4), none, .move (.tmp 26), []⟩])
 (.seq (.seq (.ops [
 ⟨(some 27), none, .move (.tmp 4), []⟩,
 ⟨(some 28), none, .call 11 [(.tmp 27)], []⟩,
 ⟨(some 29), none, .bin .neq (.tmp 28) (.cst (.int .i64 0)), []⟩,
 ⟨(some 30), none, .move (.tmp 29), []⟩,
 ⟨(some 31), (some (30, false)), .move (.tmp 3), []⟩,
 ⟨(some 32), (some (30, false)), .eq false .nilP (.tmp 31) (.cst (.pointer none)), []⟩,
 ⟨(some 33), none, .pick (.tmp 30) (.cst (.bool true)) (.tmp 32), []⟩])
 (.cond (.tmp 33)
 (.seq (.ops [
 ⟨(some 0), none, .move (.cst (.bool false)), []⟩])
 .ret)
 .skip))
 (.seq (.seq (.ops [
 ⟨(some 5), none, .move (.cst (.int .i64 0)), []⟩])
 (.block 0 (.loop lp23_0)))
 k23_0))))))
def r23 : List ARes := [.tmp 0]
def a23 : AFn := ⟨b23, r23, 3⟩

structure Tab_LLaw (C : Ctx) : Prop where
  h11 : C.T 11 = some (.fn a11)
  h27 : C.T 27 = some (.fn a27)
  h70 : C.T 70 = some (.fn a70)
  h39 : C.T 39 = some (.fn a39)
  h71 : C.T 71 = some (.fn a71)
  h28 : C.T 28 = some (.fn a28)
  h29 : C.T 29 = some (.fn a29)
  h24 : C.T 24 = some (.fn a24)
  h23 : C.T 23 = some (.fn a23)
end Go.Ab.Aud

namespace Go.Ab.Aud
def lp4_0 : ACode := (.seq (.seq (.ops [
 ⟨(some 95), none, .move (.tmp 13), []⟩,
 ⟨(some 96), none, .bin .lss (.tmp 95) (.cst (.int .i64 2)), []⟩])
 (.cond (.tmp 96)
 .skip
 (.exit 0)))
 (.seq (.block 1 (.seq (.draw [
 ⟨(some 99), none, .move (.tmp 13), []⟩,
 ⟨(some 100), none, .idxAddrArr 1 2 (.tmp 6) (.tmp 99), []⟩,
 ⟨(some 101), none, .load1 (.tmp 100), []⟩,
 ⟨(some 102), none, .len (.tmp 101), []⟩,
 ⟨(some 103), none, .bin .gtr (.tmp 102) (.cst (.int .i64 64)), []⟩,
 ⟨(some 104), none, .move (.tmp 103), []⟩,
 ⟨(some 105), (some (104, false)), .loadN 33 (.tmp 3), [17]⟩,
 ⟨(some 106), (some (104, false)), .move (.tmp 4), []⟩,
 ⟨(some 107), (some (104, false)), .move (.tmp 13), []⟩,
 ⟨(some 108), (some (104, false)), .idxAddrArr 32 2 (.tmp 5) (.tmp 107), []⟩,
 ⟨(some 109), (some (104, false)), .loadN 32 (.tmp 108), [17]⟩,
 ⟨(some 110), (some (104, false)), .buildSlice 30 [] 0 [], []⟩,
 ⟨(some 111), (some (104, false)), .move (.tmp 13), []⟩,
 ⟨(some 112), (some (104, false)), .idxAddrArr 1 2 (.tmp 6) (.tmp 111), []⟩,
 ⟨(some 113), (some (104, false)), .load1 (.tmp 112), []⟩,
 ⟨(some 114), (some (104, false)), .append 30 32 32 (.tmp 110) (.tmp 113), []⟩,
 ⟨(some 115), (some (104, false)), .call 12 [(.tmp 105), (.tmp 106), (.tmp 109), (.tmp 114)], []⟩,
 ⟨(some 116), (some (104, false)), .call 11 [(.tmp 115)], []⟩,
 ⟨(some 117), (some (104, false)), .bin .neq (.tmp 116) (.cst (.int .i64 0)), []⟩,
 ⟨(some 118), none, .pick (.tmp 104) (.cst (.bool true)) (.tmp 117), []⟩])
 (.cond (.tmp 118)
 (.seq (.ops [
 ⟨(some 119), none, .call 23 [], []⟩,
 ⟨(some 2), none, .move (.tmp 119), []⟩])
 .ret)
 .skip)))
 (.ops [
 ⟨(some 97), none, .move (.tmp 13), []⟩,
 ⟨(some 98), none, .bin .add (.tmp 97) (.cst (.int .i64 1)), []⟩,
 ⟨(some 13), none, .move (.tmp 98), []⟩])))
def k4_0 : ACode := (.seq (.seq (.ops [
 ⟨(some 120), none, .idxAddrArr 32 2 (.tmp 5) (.cst (.int .i64 0)), []⟩,
 ⟨(some 121), none, .loadN 32 (.tmp 120), []⟩,
 ⟨(some 122), none, .idxAddrArr 32 2 (.tmp 5) (.cst (.int .i64 1)), []⟩,
 ⟨(some 123), none, .loadN 32 (.tmp 122), []⟩,
 ⟨(some 124), none, .eq false (.flat [.i, .i, .i, .i, .i, .i, .i, .i, .i, .i, .i, .i, .i, .i, .i, .i, .i, .i, .i, .i, .i, .i, .i, .i, .i, .i, .i, .i, .i, .i, .i, .i]) (.tmp 121) (.tmp 123), []⟩])
 (.cond (.tmp 124)
 (.seq (.ops [
 ⟨(some 125), none, .call 23 [], []⟩,
 ⟨(some 2), none, .move (.tmp 125), []⟩])
 .ret)
 .skip))
 (.seq (.ops [
 ⟨(some 127), none, .move (.tmp 4), []⟩,
 ⟨(some 128), none, .fieldAddr 0 (.tmp 3), []⟩,
 ⟨(some 129), none, .load1 (.tmp 128), []⟩,
 ⟨(some 130), none, .idxAddrArr 32 2 (.tmp 5) (.cst (.int .i64 0)), []⟩,
 ⟨(some 131), none, .loadN 32 (.tmp 130), []⟩,
 ⟨(some 132), none, .idxAddrArr 1 2 (.tmp 6) (.cst (.int .i64 0)), []⟩,
 ⟨(some 133), none, .load1 (.tmp 132), []⟩,
 ⟨(some 134), none, .call 28 [(.tmp 127), (.tmp 129), (.tmp 131), (.tmp 133)], []⟩,
 ⟨(some 126), none, .move (.tmp 134), []⟩,
 ⟨(some 135), none, .extract 0 (.tmp 126), []⟩,
 ⟨(some 136), none, .extract 1 (.tmp 126), []⟩,
 ⟨(some 15), none, .box 30 (.cst (.agg ⟨[(.int .u8 0), (.int .u8 0), (.int .u8 0), (.int .u8 0), (.int .u8 0), (.int .u8 0), (.int .u8 0), (.int .u8 0), (.int .u8 0), (.int .u8 0), (.int .u8 0), (.int .u8 0), (.int .u8 0), (.int .u8 0), (.int .u8 0), (.int .u8 0), (.int .u8 0), (.int .u8 0), (.int .u8 0), (.int .u8 0), (.int .u8 0), (.int .u8 0), (.int .u8 0), (.int .u8 0), (.int .u8 0), (.int .u8 0), (.int .u8 0), (.int .u8 0), (.int .u8 0), (.int .u8 0), (.int .u8 0), (.int .u8 0)]⟩)), []⟩,
 ⟨(some 14), none, .move (.tmp 135), []⟩,
 ⟨none, none, .storeN 32 (.tmp 15) (.tmp 136), []⟩])
 (.seq (.ops [
 ⟨(some 138), none, .move (.tmp 4), []⟩,
 ⟨(some 139), none, .fieldAddr 0 (.tmp 3), []⟩,
 ⟨(some 140), none, .load1 (.tmp 139), []⟩,
 ⟨(some 141), none, .idxAddrArr 32 2 (.tmp 5) (.cst (.int .i64 1)), []⟩,
 ⟨(some 142), none, .loadN 32 (.tmp 141), []⟩,
 ⟨(some 143), none, .idxAddrArr 1 2 (.tmp 6) (.cst (.int .i64 1)), []⟩,
 ⟨(some 144), none, .load1 (.tmp 143), []⟩,
 ⟨(some 145), none, .call 28 [(.tmp 138), (.tmp 140), (.tmp 142), (.tmp 144)], []⟩,
 ⟨(some 137), none, .move (.tmp 145), []⟩,
 ⟨(some 146), none, .extract 0 (.tmp 137), []⟩,
 ⟨(some 147), none, .extract 1 (.tmp 137), []⟩,
 ⟨(some 17), none, .box 30 (.cst (.agg ⟨[(.int .u8 0), (.int .u8 0), (.int .u8 0), (.int .u8 0), (.int .u8 0), (.int .u8 0), (.int .u8 0), (.int .u8 0), (.int .u8 0), (.int .u8 0), (.int .u8 0), (.int .u8 0), (.int .u8 0), (.int .u8 0), (.int .u8 0), (.int .u8 0), (.int .u8 0), (.int .u8 0), (.int .u8 0), (.int .u8 0), (.int .u8 0), (.int .u8 0), (.int .u8 0), (.int .u8 0), (.int .u8 0), (.int .u8 0), (.int .u8 0), (.int .u8 0), (.int .u8 0), (.int .u8 0), (.int .u8 0), (.int .u8 0)]⟩)), []⟩,
 ⟨(some 16), none, .move (.tmp 146), []⟩,
 ⟨none, none, .storeN 32 (.tmp 17) (.tmp 147), []⟩])
 (.seq (.ops [
 ⟨(some 148), none, .loadN 32 (.tmp 15), []⟩,
 ⟨(some 149), none, .fieldAddr 1 (.tmp 3), []⟩,
 ⟨(some 150), none, .loadN 32 (.tmp 149), []⟩,
 ⟨(some 151), none, .eq false (.flat [.i, .i, .i, .i, .i, .i, .i, .i, .i, .i, .i, .i, .i, .i, .i, .i, .i, .i, .i, .i, .i, .i, .i, .i, .i, .i, .i, .i, .i, .i, .i, .i]) (.tmp 148) (.tmp 150), []⟩,
 ⟨(some 152), none, .move (.tmp 151), []⟩,
 ⟨(some 153), (some (152, true)), .loadN 32 (.tmp 17), []⟩,
 ⟨(some 154), (some (152, true)), .fieldAddr 1 (.tmp 3), []⟩,
 ⟨(some 155), (some (152, true)), .loadN 32 (.tmp 154), []⟩,
 ⟨(some 156), (some (152, true)), .eq false (.flat [.i, .i, .i, .i, .i, .i, .i, .i, .i, .i, .i, .i, .i, .i, .i, .i, .i, .i, .i, .i, .i, .i, .i, .i, .i, .i, .i, .i, .i, .i, .i, .i]) (.tmp 153) (.tmp 155), []⟩,
 ⟨(some 157), none, .pick (.tmp 152) (.tmp 156) (.cst (.bool false)), []⟩,
 ⟨(some 158), none, .move (.tmp 157), []⟩,
 ⟨(some 159), (some (158, true)), .move (.tmp 14), []⟩,
 ⟨(some 160), (some (158, true)), .move (.tmp 16), []⟩,
 ⟨(some 161), (some (158, true)), .append 158 33 56 (.tmp 159) (.tmp 160), []⟩,
 ⟨(some 162), (some (158, true)), .call 29 [(.tmp 161)], []⟩,
 ⟨(some 163), none, .pick (.tmp 158) (.tmp 162) (.cst (.bool false)), []⟩,
 ⟨(some 164), none, .move (.tmp 163), []⟩,
 ⟨(some 165), (some (164, true)), .call 23 [], []⟩,
 ⟨(some 166), none, .pick (.tmp 164) (.tmp 165) (.cst (.bool false)), []⟩,
 ⟨(some 2), none, .move (.tmp 166), []⟩])
 .ret))))
def b4 : ACode := (.seq (.ops [
 ⟨(some 1), none, .box 50 (.tmp 0), []⟩,
 ⟨(some 2), none, .move (.cst (.bool false)), []⟩])
 (.seq (.ops [
 ⟨(some 18), none, .fieldAddr 0 (.tmp 1), []⟩,
 ⟨(some 19), none, .loadN 33 (.tmp 18), []⟩,
 ⟨(some 3), none, .box 35 (.cst (.agg ⟨[(.int .u64 0), (.int .u8 0), (.int .u8 0), (.int .u8 0), (.int .u8 0), (.int .u8 0), (.int .u8 0), (.int .u8 0), (.int .u8 0), (.int .u8 0), (.int .u8 0), (.int .u8 0), (.int .u8 0), (.int .u8 0), (.int .u8 0), (.int .u8 0), (.int .u8 0), (.int .u8 0), (.int .u8 0), (.int .u8 0), (.int .u8 0), (.int .u8 0), (.int .u8 0), (.int .u8 0), (.int .u8 0), (.int .u8 0), (.int .u8 0), (.int .u8 0), (.int .u8 0), (.int .u8 0), (.int .u8 0), (.int .u8 0), (.int .u8 0)]⟩)), []⟩,
 ⟨none, none, .storeN 33 (.tmp 3) (.tmp 19), []⟩])
 (.seq (.ops [
 ⟨(some 20), none, .fieldAddr 33 (.tmp 1), []⟩,
 ⟨(some 21), none, .load1 (.tmp 20), []⟩,
 ⟨(some 4), none, .move (.tmp 21), []⟩])
 (.seq (.ops [
 ⟨(some 22), none, .fieldAddr 34 (.tmp 1), []⟩,
 ⟨(some 23), none, .loadN 64 (.tmp 22), []⟩,
 ⟨(some 5), none, .box 47 (.cst (.agg ⟨[(.int .u8 0), (.int .u8 0), (.int .u8 0), (.int .u8 0), (.int .u8 0), (.int .u8 0), (.int .u8 0), (.int .u8 0), (.int .u8 0), (.int .u8 0), (.int .u8 0), (.int .u8 0), (.int .u8 0), (.int .u8 0), (.int .u8 0), (.int .u8 0), (.int .u8 0), (.int .u8 0), (.int .u8 0), (.int .u8 0), (.int .u8 0), (.int .u8 0), (.int .u8 0), (.int .u8 0), (.int .u8 0), (.int .u8 0), (.int .u8 0), (.int .u8 0), (.int .u8 0), (.int .u8 0), (.int .u8 0), (.int .u8 0), (.int .u8 0), (.int .u8 0), (.int .u8 0), (.int .u8 0), (.int .u8 0), (.int .u8 0), (.int .u8 0), (.int .u8 0), (.int .u8 0), (.int .u8 0), (.int .u8 0), (.int .u8 0), (.int .u8 0), (.int .u8 0), (.int .u8 0), (.int .u8 0), (.int .u8 0), (.int .u8 0), (.int .u8 0), (.int .u8 0), (.int .u8 0), (.int .u8 0), (.int .u8 0), (.int .u8 0), (.int .u8 0), (.int .u8 0), (.int .u8 0), (.int .u8 0), (.int .u8 0), (.int .u8 0), (.int .u8 0), (.int .u8 0)]⟩)), []⟩,
 ⟨none, none, .storeN 64 (.tmp 5) (.tmp 23), []⟩])
 (.seq (.ops [
 ⟨(some 24), none, .fieldAddr 98 (.tmp 1), []⟩,
 ⟨(some 25), none, .loadN 2 (.tmp 24), []⟩,
 ⟨(some 6), none, .box 48 (.cst (.agg ⟨[(.slice none 0 0), (.slice none 0 0)]⟩)), []⟩,
 ⟨none, none, .storeN 2 (.tmp 6) (.tmp 25), []⟩])
 (.seq (.seq (.ops [
 ⟨(some 26), none, .fieldAddr 103 (.tmp 1), []⟩,
 ⟨(some 27), none, .load1 (.tmp 26), []⟩])
 (.cond (.tmp 27)
 (.seq (.ops [
 ⟨(some 29), none, .fieldAddr 100 (.tmp 1), []⟩,
 ⟨(some 30), none, .load1 (.tmp 29), []⟩,
 ⟨(some 31), none, .call 24 [(.tmp 30), (.cst (.int .i64 40))], []⟩,
 ⟨(some 28), none, .move (.tmp 31), []⟩,
 ⟨(some 32), none, .extract 0 (.tmp 28), []⟩,
 ⟨(some 33), none, .extract 1 (.tmp 28), []⟩,
 ⟨(some 7), none, .move (.tmp 32), []⟩,
 ⟨(some 8), none, .move (.tmp 33), []⟩])
 (.seq (.seq (.ops [
 ⟨(some 34), none, .move (.tmp 7), []⟩,
 ⟨(some 35), none, .eq false .nilP (.tmp 34) (.cst (.pointer none)), []⟩])
 (.cond (.tmp 35)
 (.seq (.ops [
 ⟨(some 2), none, .move (.cst (.bool false)), []⟩])
 .ret)
 .skip))
 (.seq (.seq (.ops [
 ⟨(some 36), none, .move (.tmp 8), []⟩,
 ⟨(some 37), none, .len (.tmp 36), []⟩,
 ⟨(some 38), none, .bin .eql (.tmp 37) (.cst (.int .i64 0)), []⟩])
 (.cond (.tmp 38)
 (.seq (.ops [
 ⟨(some 39), none, .call 23 [], []⟩,
 ⟨(some 2), none, .move (.tmp 39), []⟩])
 .ret)
 .skip))
 (.seq (.ops [
 ⟨(some 41), none, .move (.tmp 7), []⟩,
 ⟨(some 42), none, .fieldAddr 101 (.tmp 1), []⟩,
 ⟨(some 43), none, .load1 (.tmp 42), []⟩,
 ⟨(some 44), none, .move (.tmp 8), []⟩,
 ⟨(some 45), none, .len (.tmp 44), []⟩,
 ⟨(some 46), none, .convInt .u64 (.tmp 45), []⟩,
 ⟨(some 47), none, .bin .rem (.tmp 43) (.tmp 46), []⟩,
 ⟨(some 48), none, .bin .add (.cst (.int .u64 1)) (.tmp 47), []⟩,
 ⟨(some 49), none, .call 25 [(.tmp 41), (.tmp 48)], []⟩,
 ⟨(some 40), none, .move (.tmp 49), []⟩,
 ⟨(some 50), none, .extract 0 (.tmp 40), []⟩,
 ⟨(some 51), none, .extract 1 (.tmp 40), []⟩,
 ⟨(some 9), none, .box 35 (.cst (.agg ⟨[(.int .u64 0), (.int .u8 0), (.int .u8 0), (.int .u8 0), (.int .u8 0), (.int .u8 0), (.int .u8 0), (.int .u8 0), (.int .u8 0), (.int .u8 0), (.int .u8 0), (.int .u8 0), (.int .u8 0), (.int .u8 0), (.int .u8 0), (.int .u8 0), (.int .u8 0), (.int .u8 0), (.int .u8 0), (.int .u8 0), (.int .u8 0), (.int .u8 0), (.int .u8 0), (.int .u8 0), (.int .u8 0), (.int .u8 0), (.int .u8 0), (.int .u8 0), (.int .u8 0), (.int .u8 0), (.int .u8 0), (.int .u8 0), (.int .u8 0)]⟩)), []⟩,
 ⟨none, none, .storeN 33 (.tmp 9) (.tmp 50), []⟩,
 ⟨(some 10), none, .move (.tmp 51), []⟩])
 (.seq (.seq (.ops [
 ⟨(some 52), none, .move (.tmp 10), []⟩,
 ⟨(some 53), none, .call 11 [(.tmp 52)], []⟩,
 ⟨(some 54), none, .bin .neq (.tmp 53) (.cst (.int .i64 0)), []⟩])
 (.cond (.tmp 54)
 (.seq (.ops [
 ⟨(some 2), none, .move (.cst (.bool false)), []⟩])
 .ret)
 .skip))
 (.seq (.ops [
 ⟨(some 55), none, .loadN 33 (.tmp 9), []⟩,
 ⟨none, none, .storeN 33 (.tmp 3) (.tmp 55), []⟩])
 (.seq (.ops [
 ⟨(some 56), none, .move (.tmp 4), []⟩,
 ⟨(some 57), none, .fieldAddr 0 (.tmp 3), []⟩,
 ⟨(some 58), none, .load1 (.tmp 57), []⟩,
 ⟨(some 59), none, .bin .rem (.tmp 56) (.tmp 58), []⟩,
 ⟨(some 4), none, .move (.tmp 59), []⟩])
 (.seq (.ops [
 ⟨(some 61), none, .move (.tmp 7), []⟩,
 ⟨(some 62), none, .move (.tmp 4), []⟩,
 ⟨(some 63), none, .fieldAddr 0 (.tmp 3), []⟩,
 ⟨(some 64), none, .load1 (.tmp 63), []⟩,
 ⟨(some 65), none, .call 26 [(.tmp 61), (.tmp 62), (.tmp 64)], []⟩,
 ⟨(some 60), none, .move (.tmp 65), []⟩,
 ⟨(some 66), none, .extract 0 (.tmp 60), []⟩,
 ⟨(some 67), none, .extract 1 (.tmp 60), []⟩,
 ⟨(some 11), none, .move (.tmp 66), []⟩,
 ⟨(some 12), none, .move (.tmp 67), []⟩])
 (.seq (.seq (.ops [
 ⟨(some 68), none, .move (.tmp 12), []⟩,
 ⟨(some 69), none, .call 11 [(.tmp 68)], []⟩,
 ⟨(some 70), none, .bin .neq (.tmp 69) (.cst (.int .i64 0)), []⟩])
 (.cond (.tmp 70)
 (.seq (.ops [
 ⟨(some 2), none, .move (.cst (.bool false)), []⟩])
 .ret)
 .skip))
 (.seq (.ops [
 ⟨(some 71), none, .move (.tmp 8), []⟩,
 ⟨(some 72), none, .move (.tmp 4), []⟩,
 ⟨(some 73), none, .idxAddrSl 1 (.tmp 71) (.tmp 72), []⟩,
 ⟨(some 74), none, .load1 (.tmp 73), []⟩,
 ⟨(some 75), none, .call 27 [(.tmp 74)], []⟩,
 ⟨(some 76), none, .call 20 [(.tmp 75)], []⟩,
 ⟨(some 77), none, .idxAddrArr 32 2 (.tmp 5) (.cst (.int .i64 0)), []⟩,
 ⟨none, none, .storeN 32 (.tmp 77) (.tmp 76), []⟩])
 (.seq (.ops [
 ⟨(some 78), none, .move (.tmp 11), []⟩,
 ⟨(some 79), none, .idxAddrArr 1 2 (.tmp 6) (.cst (.int .i64 0)), []⟩,
 ⟨none, none, .store1 (.tmp 79) (.tmp 78), []⟩])
 (.seq (.seq (.ops [
 ⟨(some 80), none, .fieldAddr 102 (.tmp 1), []⟩,
 ⟨(some 81), none, .load1 (.tmp 80), []⟩,
 ⟨(some 82), none, .bin .rem (.tmp 81) (.cst (.int .i64 3)), []⟩,
 ⟨(some 83), none, .bin .eql (.tmp 82) (.cst (.int .i64 0)), []⟩])
 (.cond (.tmp 83)
 (.ops [
 ⟨(some 84), none, .buildSlice 30 [] 0 [], []⟩,
 ⟨(some 85), none, .move (.tmp 11), []⟩,
 ⟨(some 86), none, .append 30 32 32 (.tmp 84) (.tmp 85), []⟩,
 ⟨(some 87), none, .idxAddrArr 1 2 (.tmp 6) (.cst (.int .i64 1)), []⟩,
 ⟨none, none, .store1 (.tmp 87) (.tmp 86), []⟩])
 .skip))
 (.seq (.ops [
 ⟨(some 88), none, .fieldAddr 102 (.tmp 1), []⟩,
 ⟨(some 89), none, .load1 (.tmp 88), []⟩,
 ⟨(some 90), none, .bin .rem (.tmp 89) (.cst (.int .i64 3)), []⟩,
 ⟨(some 91), none, .bin .eql (.tmp 90) (.cst (.int .i64 1)), []⟩])
 (.cond (.tmp 91)
 (.ops [
 ⟨(some 92), none, .idxAddrArr 32 2 (.tmp 5) (.cst (.int .i64 0)), []⟩,
 ⟨(some 93), none, .loadN 32 (.tmp 92), []⟩,
 ⟨(some 94), none, .idxAddrArr 32 2 (.tmp 5) (.cst (.int .i64 1)), []⟩,
 ⟨none, none, .storeN 32 (.tmp 94) (.tmp 93), []⟩])
 .skip))))))))))))))
 .skip))
 (.seq (.seq (.ops [
 ⟨(some 13), none, .move (.cst (.int .i64 0)), []⟩])
 (.block 0 (.loop lp4_0)))
 k4_0)))))))
def r4 : List ARes := [.tmp 2]
def a4 : AFn := ⟨b4, r4, 0⟩

structure Tab_LSound (C : Ctx) : Prop where
  h4 : C.T 4 = some (.fn a4)
end Go.Ab.Aud

namespace Go.Ab.Aud
def b147 : ACode := (.seq (.ops [
 ⟨(some 2), none, .move (.cst (.bool false)), []⟩])
 (.seq (.ops [
 ⟨(some 3), none, .move (.tmp 0), []⟩,
 ⟨(some 4), none, .bin .neq (.tmp 3) (.cst (.string ⟨⟨[]⟩⟩)), []⟩,
 ⟨(some 5), none, .move (.tmp 4), []⟩,
 ⟨(some 6), (some (5, true)), .move (.tmp 0), []⟩,
 ⟨(some 7), (some (5, true)), .lenS (.tmp 6), []⟩,
 ⟨(some 8), (some (5, true)), .bin .leq (.tmp 7) (.cst (.int .i64 64)), []⟩,
 ⟨(some 9), none, .pick (.tmp 5) (.tmp 8) (.cst (.bool false)), []⟩,
 ⟨(some 10), none, .move (.tmp 9), []⟩,
 ⟨(some 11), (some (10, true)), .move (.tmp 0), []⟩,
 ⟨(some 12), (some (10, true)), .call 215 [(.tmp 11), (.cst (.string ⟨⟨[97, 98, 99, 100, 101, 102, 103, 104, 105, 106, 107, 108, 109, 110, 111, 112, 113, 114, 115, 116, 117, 118, 119, 120, 121, 122, 48, 49, 50, 51, 52, 53, 54, 55, 56, 57, 46, 45, 95]⟩⟩))], []⟩,
 ⟨(some 13), (some (10, true)), .bin .eql (.tmp 12) (.cst (.string ⟨⟨[]⟩⟩)), []⟩,
 ⟨(some 14), none, .pick (.tmp 10) (.tmp 13) (.cst (.bool false)), []⟩,
 ⟨(some 2), none, .move (.tmp 14), []⟩])
 .ret))
def r147 : List ARes := [.tmp 2]
def a147 : AFn := ⟨b147, r147, 3⟩
def b215 : ACode := (.seq (.ops [
 ⟨(some 4), none, .move (.cst (.string ⟨⟨[]⟩⟩)), []⟩])
 (.seq (.seq (.ops [
 ⟨(some 7), none, .move (.tmp 0), []⟩,
 ⟨(some 8), none, .bin .eql (.tmp 7) (.cst (.string ⟨⟨[]⟩⟩)), []⟩,
 ⟨(some 9), none, .move (.tmp 8), []⟩,
 ⟨(some 10), (some (9, false)), .move (.tmp 1), []⟩,
 ⟨(some 11), (some (9, false)), .bin .eql (.tmp 10) (.cst (.string ⟨⟨[]⟩⟩)), []⟩,
 ⟨(some 12), none, .pick (.tmp 9) (.cst (.bool true)) (.tmp 11), []⟩])
 (.cond (.tmp 12)
 (.seq (.ops [
 ⟨(some 13), none, .move (.tmp 0), []⟩,
 ⟨(some 4), none, .move (.tmp 13), []⟩])
 .ret)
 .skip))
 (.seq (.seq (.ops [
 ⟨(some 14), none, .move (.tmp 1), []⟩,
 ⟨(some 15), none, .lenS (.tmp 14), []⟩,
 ⟨(some 16), none, .bin .eql (.tmp 15) (.cst (.int .i64 1)), []⟩,
 ⟨(some 17), none, .move (.tmp 16), []⟩,
 ⟨(some 18), (some (17, true)), .move (.tmp 1), []⟩,
 ⟨(some 19), (some (17, true)), .idxStr (.tmp 18) (.cst (.int .i64 0)), []⟩,
 ⟨(some 20), (some (17, true)), .bin .lss (.tmp 19) (.cst (.int .u8 128)), []⟩,
 ⟨(some 21), none, .pick (.tmp 17) (.tmp 20) (.cst (.bool false)), []⟩])
 (.cond (.tmp 21)
 (.seq (.draw [
 ⟨(some 22), none, .move (.tmp 0), []⟩,
 ⟨(some 23), none, .move (.tmp 1), []⟩,
 ⟨(some 24), none, .idxStr (.tmp 23) (.cst (.int .i64 0)), []⟩,
 ⟨(some 26), none, .move (.tmp 1), []⟩,
 ⟨(some 27), none, .idxStr (.tmp 26) (.cst (.int .i64 0)), []⟩,
 ⟨(some 25), none, .call 239 [(.tmp 22), (.tmp 24)], []⟩,
 ⟨(some 28), none, .call 238 [(.tmp 25), (.tmp 27)], []⟩,
 ⟨(some 4), none, .move (.tmp 28), []⟩])
 .ret)
 .skip))
 (.seq (.seq (.ops [
 ⟨(some 30), none, .move (.tmp 1), []⟩,
 ⟨(some 31), none, .call 240 [(.tmp 30)], []⟩,
 ⟨(some 29), none, .move (.tmp 31), []⟩,
 ⟨(some 32), none, .extract 0 (.tmp 29), []⟩,
 ⟨(some 33), none, .extract 1 (.tmp 29), []⟩,
 ⟨(some 5), none, .box 368 (.cst (.agg ⟨[(.bool false), (.bool false), (.bool false), (.bool false), (.bool false), (.bool false), (.bool false), (.bool false), (.bool false), (.bool false), (.bool false), (.bool false), (.bool false), (.bool false), (.bool false), (.bool false), (.bool false), (.bool false), (.bool false), (.bool false), (.bool false), (.bool false), (.bool false), (.bool false), (.bool false), (.bool false), (.bool false), (.bool false), (.bool false), (.bool false), (.bool false), (.bool false), (.bool false), (.bool false), (.bool false), (.bool false), (.bool false), (.bool false), (.bool false), (.bool false), (.bool false), (.bool false), (.bool false), (.bool false), (.bool false), (.bool false), (.bool false), (.bool false), (.bool false), (.bool false), (.bool false), (.bool false), (.bool false), (.bool false), (.bool false), (.bool false), (.bool false), (.bool false), (.bool false), (.bool false), (.bool false), (.bool false), (.bool false), (.bool false), (.bool false), (.bool false), (.bool false), (.bool false), (.bool false), (.bool false), (.bool false), (.bool false), (.bool false), (.bool false), (.bool false), (.bool false), (.bool false), (.bool false), (.bool false), (.bool false), (.bool false), (.bool false), (.bool false), (.bool false), (.bool false), (.bool false), (.bool false), (.bool false), (.bool false), (.bool false), (.bool false), (.bool false), (.bool false), (.bool false), (.bool false), (.bool false), (.bool false), (.bool false), (.bool false), (.bool false), (.bool false), (.bool false), (.bool false), (.bool false), (.bool false), (.bool false), (.bool false), (.bool false), (.bool false), (.bool false), (.bool false), (.bool false), (.bool false), (.bool false), (.bool false), (.bool false), (.bool false), (.bool false), (.bool false), (.bool false), (.bool false), (.bool false), (.bool false), (.bool false), (.bool false), (.bool false), (.bool false), (.bool false), (.bool false), (.bool false), (.bool false), (.bool false), (.bool false), (.bool false), (.bool false), (.bool false), (.bool false), (.bool false), (.bool false), (.bool false), (.bool false), (.bool false), (.bool false), (.bool false), (.bool false), (.bool false), (.bool false), (.bool false), (.bool false), (.bool false), (.bool false), (.bool false), (.bool false), (.bool false), (.bool false), (.bool false), (.bool false), (.bool false), (.bool false), (.bool false), (.bool false), (.bool false), (.bool false), (.bool false), (.bool false), (.bool false), (.bool false), (.bool false), (.bool false), (.bool false), (.bool false), (.bool false), (.bool false), (.bool false), (.bool false), (.bool false), (.bool false), (.bool false), (.bool false), (.bool false), (.bool false), (.bool false), (.bool false), (.bool false), (.bool false), (.bool false), (.bool false), (.bool false), (.bool false), (.bool false), (.bool false), (.bool false), (.bool false), (.bool false), (.bool false), (.bool false), (.bool false), (.bool false), (.bool false), (.bool false), (.bool false), (.bool false), (.bool false), (.bool false), (.bool false), (.bool false), (.bool false), (.bool false), (.bool false), (.bool false), (.bool false), (.bool false), (.bool false), (.bool false), (.bool false), (.bool false), (.bool false), (.bool false), (.bool false), (.bool false), (.bool false), (.bool false), (.bool false), (.bool false), (.bool false), (.bool false), (.bool false), (.bool false), (.bool false), (.bool false), (.bool false), (.bool false), (.bool false), (.bool false), (.bool false), (.bool false), (.bool false), (.bool false), (.bool false), (.bool false), (.bool false), (.bool false), (.bool false), (.bool false), (.bool false), (.bool false), (.bool false), (.bool false), (.bool false), (.bool false), (.bool false), (.bool false), (.bool false), (.bool false), (.bool false), (.bool false)]⟩)), []⟩,
 ⟨none, none, .storeN 256 (.tmp 5) (.tmp 32), []⟩,
 ⟨(some 6), none, .move (.tmp 33), []⟩])
 (.seq (.ops [
 ⟨(some 34), none, .move (.tmp 6), []⟩])
 (.cond (.tmp 34)
 (.seq (.ops [
 ⟨(some 35), none, .move (.tmp 0), []⟩,
 ⟨(some 36), none, .call 242 [(.tmp 35), (.tmp 5)], []⟩,
 ⟨(some 37), none, .call 241 [(.tmp 36), (.tmp 5)], []⟩,
 ⟨(some 4), none, .move (.tmp 37), []⟩])
 .ret)
 .skip)))
 (.seq (.ops [
 ⟨(some 38), none, .move (.tmp 0), []⟩,
 ⟨(some 39), none, .move (.tmp 1), []⟩,
 ⟨(some 40), none, .call 244 [(.tmp 38), (.tmp 39)], []⟩,
 ⟨(some 41), none, .move (.tmp 1), []⟩,
 ⟨(some 42), none, .call 243 [(.tmp 40), (.tmp 41)], []⟩,
 ⟨(some 4), none, .move (.tmp 42), []⟩])
 .ret)))))
def r215 : List ARes := [.tmp 4]
def a215 : AFn := ⟨b215, r215, 0⟩
def lp240_0 : ACode := (.seq (.seq (.ops [
 ⟨(some 6), none, .move (.tmp 4), []⟩,
 ⟨(some 7), none, .move (.tmp 0), []⟩,
 ⟨(some 8), none, .lenS (.tmp 7), []⟩,
 ⟨(some 9), none, .bin .lss (.tmp 6) (.tmp 8), []⟩])
 (.cond (.tmp 9)
 .skip
 (.exit 0)))
 (.seq (.block 1 (.seq (.ops [
 ⟨(some 12), none, .move (.tmp 0), []⟩,
 ⟨(some 13), none, .move (.tmp 4), []⟩,
 ⟨(some 14), none, .idxStr (.tmp 12) (.tmp 13), []⟩,
 ⟨(some 5), none, .move (.tmp 14), []⟩])
 (.seq (.seq (.ops [
 ⟨(some 15), none, .move (.tmp 5), []⟩,
 ⟨(some 16), none, .bin .geq (.tmp 15) (.cst (.int .u8 128)), []⟩])
 (.cond (.tmp 16)
 (.seq (.ops [
 ⟨(some 17), none, .loadN 256 (.tmp 2), []⟩,
 ⟨none, none, .storeN 256 (.tmp 2) (.tmp 17), []⟩,
 ⟨(some 3), none, .move (.cst (.bool false)), []⟩])
 .ret)
 .skip))
 (.ops [
 ⟨(some 18), none, .move (.tmp 5), []⟩,
 ⟨(some 19), none, .idxAddrArr 1 256 (.tmp 2) (.tmp 18), []⟩,
 ⟨none, none, .store1 (.tmp 19) (.cst (.bool true)), []⟩]))))
 (.ops [
 ⟨(some 10), none, .move (.tmp 4), []⟩,
 ⟨(some 11), none, .bin .add (.tmp 10) (.cst (.int .i64 1)), []⟩,
 ⟨(some 4), none, .move (.tmp 11), []⟩])))
def k240_0 : ACode := (.seq (.ops [
 ⟨(some 20), none, .loadN 256 (.tmp 2), []⟩,
 ⟨none, none, .storeN 256 (.tmp 2) (.tmp 20), []⟩,
 ⟨(some 3), none, .move (.cst (.bool true)), []⟩])
 .ret)
def b240 : ACode := (.seq (.ops [
 ⟨(some 2), none, .box 368 (.cst (.agg ⟨[(.bool false), (.bool false), (.bool false), (.bool false), (.bool false), (.bool false), (.bool false), (.bool false), (.bool false), (.bool false), (.bool false), (.bool false), (.bool false), (.bool false), (.bool false), (.bool false), (.bool false), (.bool false), (.bool false), (.bool false), (.bool false), (.bool false), (.bool false), (.bool false), (.bool false), (.bool false), (.bool false), (.bool false), (.bool false), (.bool false), (.bool false), (.bool false), (.bool false), (.bool false), (.bool false), (.bool false), (.bool false), (.bool false), (.bool false), (.bool false), (.bool false), (.bool false), (.bool false), (.bool false), (.bool false), (.bool false), (.bool false), (.bool false), (.bool false), (.bool false), (.bool false), (.bool false), (.bool false), (.bool false), (.bool false), (.bool false), (.bool false), (.bool false), (.bool false), (.bool false), (.bool false), (.bool false), (.bool false), (.bool false), (.bool false), (.bool false), (.bool false), (.bool false), (.bool false), (.bool false), (.bool false), (.bool false), (.bool false), (.bool false), (.bool false), (.bool false), (.bool false), (.bool false), (.bool false), (.bool false), (.bool false), (.bool false), (.bool false), (.bool false), (.bool false), (.bool false), (.bool false), (.bool false), (.bool false), (.bool false), (.bool false), (.bool false), (.bool false), (.bool false), (.bool false), (.bool false), (.bool false), (.bool false), (.bool false), (.bool false), (.bool false), (.bool false), (.bool false), (.bool false), (.bool false), (.bool false), (.bool false), (.bool false), (.bool false), (.bool false), (.bool false), (.bool false), (.bool false), (.bool false), (.bool false), (.bool false), (.bool false), (.bool false), (.bool false), (.bool false), (.bool false), (.bool false), (.bool false), (.bool false), (.bool false), (.bool false), (.bool false), (.bool false), (.bool false), (.bool false), (.bool false), (.bool false), (.bool false), (.bool false), (.bool false), (.bool false), (.bool false), (.bool false), (.bool false), (.bool false), (.bool false), (.bool false), (.bool false), (.bool false), (.bool false), (.bool false), (.bool false), (.bool false), (.bool false), (.bool false), (.bool false), (.bool false), (.bool false), (.bool false), (.bool false), (.bool false), (.bool false), (.bool false), (.bool false), (.bool false), (.bool false), (.bool false), (.bool false), (.bool false), (.bool false), (.bool false), (.bool false), (.bool false), (.bool false), (.bool false), (.bool false), (.bool false), (.bool false), (.bool false), (.bool false), (.bool false), (.bool false), (.bool false), (.bool false), (.bool false), (.bool false), (.bool false), (.bool false), (.bool false), (.bool false), (.bool false), (.bool false), (.bool false), (.bool false), (.bool false), (.bool false), (.bool false), (.bool false), (.bool false), (.bool false), (.bool false), (.bool false), (.bool false), (.bool false), (.bool false), (.bool false), (.bool false), (.bool false), (.bool false), (.bool false), (.bool false), (.bool false), (.bool false), (.bool false), (.bool false), (.bool false), (.bool false), (.bool false), (.bool false), (.bool false), (.bool false), (.bool false), (.bool false), (.bool false), (.bool false), (.bool false), (.bool false), (.bool false), (.bool false), (.bool false), (.bool false), (.bool false), (.bool false), (.bool false), (.bool false), (.bool false), (.bool false), (.bool false), (.bool false), (.bool false), (.bool false), (.bool false), (.bool false), (.bool false), (.bool false), (.bool false), (.bool false), (.bool false), (.bool false), (.bool false), (.bool false), (.bool false), (.bool false), (.bool false), (.bool false), (.bool false), (.bool false), (.bool false), (.bool false), (.bool false), (.bool false)]⟩)), []⟩,
 ⟨(some 3), none, .move (.cst (.bool false)), []⟩])
 (.seq (.seq (.ops [
 ⟨(some 4), none, .move (.cst (.int .i64 0)), []⟩])
 (.block 0 (.loop lp240_0)))
 k240_0))
def r240 : List ARes := [.cellN 2 256, .tmp 3]
def a240 : AFn := ⟨b240, r240, 0⟩
def lp241_0 : ACode := (.seq (.seq (.ops [
 ⟨(some 5), none, .move (.tmp 0), []⟩,
 ⟨(some 6), none, .lenS (.tmp 5), []⟩,
 ⟨(some 7), none, .bin .gtr (.tmp 6) (.cst (.int .i64 0)), []⟩])
 (.cond (.tmp 7)
 .skip
 (.exit 0)))
 (.block 1 (.seq (.seq (.ops [
 ⟨(some 8), none, .move (.tmp 1), []⟩,
 ⟨(some 9), none, .move (.tmp 0), []⟩,
 ⟨(some 10), none, .idxStr (.tmp 9) (.cst (.int .i64 0)), []⟩,
 ⟨(some 11), none, .call 254 [(.tmp 8), (.tmp 10)], []⟩,
 ⟨(some 12), none, .un .not (.tmp 11), []⟩])
 (.cond (.tmp 12)
 (.exit 0)
 .skip))
 (.ops [
 ⟨(some 13), none, .move (.tmp 0), []⟩,
 ⟨(some 14), none, .sliceStr (.tmp 13) (some (.cst (.int .i64 1))) none, []⟩,
 ⟨(some 0), none, .move (.tmp 14), []⟩]))))
def k241_0 : ACode := (.seq (.ops [
 ⟨(some 15), none, .move (.tmp 0), []⟩,
 ⟨(some 4), none, .move (.tmp 15), []⟩])
 .ret)
def b241 : ACode := (.seq (.ops [
 ⟨(some 4), none, .move (.cst (.string ⟨⟨[]⟩⟩)), []⟩])
 (.seq (.block 0 (.loop lp241_0))
 k241_0))
def r241 : List ARes := [.tmp 4]
def a241 : AFn := ⟨b241, r241, 0⟩
def lp242_0 : ACode := (.seq (.seq (.ops [
 ⟨(some 5), none, .move (.tmp 0), []⟩,
 ⟨(some 6), none, .lenS (.tmp 5), []⟩,
 ⟨(some 7), none, .bin .gtr (.tmp 6) (.cst (.int .i64 0)), []⟩])
 (.cond (.tmp 7)
 .skip
 (.exit 0)))
 (.block 1 (.seq (.seq (.ops [
 ⟨(some 8), none, .move (.tmp 1), []⟩,
 ⟨(some 9), none, .move (.tmp 0), []⟩,
 ⟨(some 10), none, .move (.tmp 0), []⟩,
 ⟨(some 11), none, .lenS (.tmp 10), []⟩,
 ⟨(some 12), none, .bin .sub (.tmp 11) (.cst (.int .i64 1)), []⟩,
 ⟨(some 13), none, .idxStr (.tmp 9) (.tmp 12), []⟩,
 ⟨(some 14), none, .call 254 [(.tmp 8), (.tmp 13)], []⟩,
 ⟨(some 15), none, .un .not (.tmp 14), []⟩])
 (.cond (.tmp 15)
 (.exit 0)
 .skip))
 (.ops [
 ⟨(some 16), none, .move (.tmp 0), []⟩,
 ⟨(some 17), none, .move (.tmp 0), []⟩,
 ⟨(some 18), none, .lenS (.tmp 17), []⟩,
 ⟨(some 19), none, .bin .sub (.tmp 18) (.cst (.int .i64 1)), []⟩,
 ⟨(some 20), none, .sliceStr (.tmp 16) none (some (.tmp 19)), []⟩,
 ⟨(some 0), none, .move (.tmp 20), []⟩]))))
def k242_0 : ACode := (.seq (.ops [
 ⟨(some 21), none, .move (.tmp 0), []⟩,
 ⟨(some 4), none, .move (.tmp 21), []⟩])
 .ret)
def b242 : ACode := (.seq (.ops [
 ⟨(some 4), none, .move (.cst (.string ⟨⟨[]⟩⟩)), []⟩])
 (.seq (.block 0 (.loop lp242_0))
 k242_0))
def r242 : List ARes := [.tmp 4]
def a242 : AFn := ⟨b242, r242, 0⟩
def b254 : ACode := (.seq (.ops [
 ⟨(some 4), none, .move (.cst (.bool false)), []⟩])
 (.seq (.ops [
 ⟨(some 5), none, .move (.tmp 0), []⟩,
 ⟨(some 6), none, .move (.tmp 1), []⟩,
 ⟨(some 7), none, .nilCheck (.tmp 5), []⟩,
 ⟨(some 8), none, .idxAddrArr 1 256 (.tmp 7) (.tmp 6), []⟩,
 ⟨(some 9), none, .load1 (.tmp 8), []⟩,
 ⟨(some 4), none, .move (.tmp 9), []⟩])
 .ret))
def r254 : List ARes := [.tmp 4]
def a254 : AFn := ⟨b254, r254, 0⟩

structure Tab_LName (C : Ctx) : Prop where
  h147 : C.T 147 = some (.fn a147)
  h215 : C.T 215 = some (.fn a215)
  h240 : C.T 240 = some (.fn a240)
  h241 : C.T 241 = some (.fn a241)
  h242 : C.T 242 = some (.fn a242)
  h254 : C.T 254 = some (.fn a254)
end Go.Ab.Aud
