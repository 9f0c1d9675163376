/-
  The program's functions that this statement reaches, as the abstract machine's code; no condition.
-/
import Derived.Test.YtecbgdnoblhldaaGreatDoorAbD

set_option linter.unusedSimpArgs false
set_option linter.unusedVariables false
set_option linter.unusedSectionVars false

namespace Go.Ab.Aud
def b74 : ACode := (.ops [
 oo 2 (.move (.tmp 0)),
 oo 3 (.nilCheck (.tmp 2)),
 oo 4 (.fieldAddr 0 (.tmp 3)),
 oo 5 (.call 112 [(.tmp 4)])])
def r74 : List ARes := []
def a74 : AFn := ⟨b74, r74, 0⟩
def b75 : ACode := (.ops [
 oo 2 (.move (.tmp 0)),
 oo 3 (.nilCheck (.tmp 2)),
 oo 4 (.fieldAddr 0 (.tmp 3)),
 oo 5 (.call 113 [(.tmp 4)])])
def r75 : List ARes := []
def a75 : AFn := ⟨b75, r75, 0⟩
def b112 : ACode := (.seq (.ops [
 oo 2 (.call 184 [])])
 (.seq (.seq (.ops [
 oo 3 (.move (.tmp 0)),
 oo 4 (.nilCheck (.tmp 3)),
 oo 5 (.fieldAddr 0 (.tmp 4)),
 oo 6 (.call 185 [(.tmp 5), (.cst (.int .i32 0)), (.cst (.int .i32 1))])])
 (.cond (.tmp 6)
 (.seq (.cond (.cst (.bool true))
 (.seq (.ops [
 oo 7 (.call 186 [])])
 (.ops [
 oo 8 (.move (.tmp 0)),
 oo 9 (.toUnsafe (.tmp 8)),
 oo 10 (.call 187 [(.tmp 9)])]))
 .skip)
 .ret)
 .skip))
 (.ops [
 oo 11 (.move (.tmp 0)),
 oo 12 (.call 188 [(.tmp 11)])])))
def r112 : List ARes := []
def a112 : AFn := ⟨b112, r112, 0⟩
def b113 : ACode := (.seq (.cond (.cst (.bool true))
 (.seq (.ops [
 oo 3 (.move (.tmp 0)),
 oo 4 (.nilCheck (.tmp 3)),
 oo 5 (.fieldAddr 0 (.tmp 4)),
 oo 6 (.load1 (.tmp 5))])
 (.seq (.ops [
 oo 7 (.move (.tmp 0)),
 oo 8 (.toUnsafe (.tmp 7)),
 oo 9 (.call 189 [(.tmp 8)])])
 (.ops [
 oo 10 (.call 184 [])])))
 .skip)
 (.seq (.ops [
 oo 11 (.move (.tmp 0)),
 oo 12 (.nilCheck (.tmp 11)),
 oo 13 (.fieldAddr 0 (.tmp 12)),
 oo 14 (.call 190 [(.tmp 13), (.cst (.int .i32 (-1)))]),
 oo 2 (.move (.tmp 14))])
 (.seq (.seq (.ops [
 oo 15 (.move (.tmp 2)),
 oo 16 (.bin .neq (.tmp 15) (.cst (.int .i32 0)))])
 (.cond (.tmp 16)
 (.ops [
 oo 17 (.move (.tmp 0)),
 oo 18 (.move (.tmp 2)),
 oo 19 (.call 191 [(.tmp 17), (.tmp 18)])])
 .skip))
 (.ops [
 oo 20 (.call 186 [])]))))
def r113 : List ARes := []
def a113 : AFn := ⟨b113, r113, 0⟩
def lp84_0 : ACode := (.seq (.ops [
 oo 27 (.bin .lss (.tmp 26) (.tmp 25))])
 (.seq (.cond (.tmp 27)
 .skip
 (.exit 0))
 (.seq (.block 1 (.seq (.ops [
 oo 28 (.idxAddrSl 2 (.tmp 24) (.tmp 26)),
 oo 29 (.loadN 2 (.tmp 28)),
 oo 8 (.box 224 (.cst (.agg ⟨[(.string ⟨⟨[]⟩⟩), (.slice none 0 0)]⟩))),
 ⟨none, none, .storeN 2 (.tmp 8) (.tmp 29), []⟩])
 (.seq (.seq (.draw [
 oo 31 (.move (.tmp 6)),
 oo 32 (.nilCheck (.tmp 31)),
 oo 33 (.fieldAddr 4 (.tmp 32)),
 oo 34 (.load1 (.tmp 33)),
 oo 35 (.fieldAddr 0 (.tmp 8)),
 oo 36 (.load1 (.tmp 35)),
 oo 37 (.lookup .s (.slice none 0 0) true (.tmp 34) (.tmp 36)),
 oo 30 (.move (.tmp 37)),
 oo 38 (.extract 0 (.tmp 30)),
 oo 39 (.extract 1 (.tmp 30)),
 oo 9 (.move (.tmp 38)),
 oo 10 (.move (.tmp 39))])
 (.seq (.draw [
 oo 40 (.move (.tmp 10)),
 oo 41 (.move (.tmp 40)),
 og 42 41 false (.fieldAddr 0 (.tmp 8)),
 og 43 41 false (.load1 (.tmp 42)),
 og 44 41 false (.call 147 [(.tmp 43)]),
 og 45 41 false (.un .not (.tmp 44)),
 oo 46 (.pick (.tmp 41) (.cst (.bool true)) (.tmp 45)),
 oo 47 (.move (.tmp 46)),
 og 48 47 false (.fieldAddr 1 (.tmp 8)),
 og 49 47 false (.load1 (.tmp 48)),
 og 50 47 false (.len (.tmp 49)),
 og 51 47 false (.move (.tmp 6)),
 og 52 47 false (.nilCheck (.tmp 51)),
 og 53 47 false (.fieldAddr 2 (.tmp 52)),
 og 54 47 false (.load1 (.tmp 53)),
 og 55 47 false (.move (.tmp 6)),
 og 56 47 false (.nilCheck (.tmp 55)),
 og 57 47 false (.fieldAddr 3 (.tmp 56)),
 og 58 47 false (.load1 (.tmp 57)),
 og 59 47 false (.bin .sub (.tmp 54) (.tmp 58)),
 og 60 47 false (.bin .gtr (.tmp 50) (.tmp 59)),
 oo 61 (.pick (.tmp 47) (.cst (.bool true)) (.tmp 60))])
 (.cond (.tmp 61)
 (.seq (.ops [
 oo 4 (.move (.cst (.pointer none))),
 oo 5 (.move (.cst (.int .i64 96)))])
 .ret)
 .skip)))
 (.seq (.draw [
 oo 62 (.move (.tmp 6)),
 oo 63 (.nilCheck (.tmp 62)),
 oo 64 (.fieldAddr 4 (.tmp 63)),
 ⟨(some 65), none, .load1 (.tmp 64), [9]⟩,
 oo 66 (.fieldAddr 0 (.tmp 8)),
 ⟨(some 67), none, .load1 (.tmp 66), [9]⟩,
 oo 68 (.fieldAddr 1 (.tmp 8)),
 oo 69 (.load1 (.tmp 68)),
 oo 70 (.call 115 [(.tmp 69)]),
 ⟨none, none, .mapUpd .s (.tmp 65) (.tmp 67) (.tmp 70), []⟩])
 (.draw [
 oo 71 (.move (.tmp 6)),
 oo 72 (.nilCheck (.tmp 71)),
 oo 73 (.fieldAddr 3 (.tmp 72)),
 oo 74 (.load1 (.tmp 73)),
 oo 75 (.fieldAddr 1 (.tmp 8)),
 oo 76 (.load1 (.tmp 75)),
 oo 77 (.len (.tmp 76)),
 oo 78 (.bin .add (.tmp 74) (.tmp 77)),
 oo 79 (.nilCheck (.tmp 71)),
 oo 80 (.fieldAddr 3 (.tmp 79)),
 ⟨none, none, .store1 (.tmp 80) (.tmp 78), []⟩])))))
 (.ops [
 oo 81 (.bin .add (.tmp 26) (.cst (.int .i64 1))),
 oo 26 (.move (.tmp 81))]))))
def k84_0 : ACode := (.seq (.ops [
 oo 82 (.move (.tmp 6)),
 oo 4 (.move (.tmp 82)),
 oo 5 (.move (.cst (.int .i64 0)))])
 .ret)
def b84 : ACode := (.seq (.ops [
 oo 4 (.move (.cst (.pointer none))),
 oo 5 (.move (.cst (.int .i64 0)))])
 (.seq (.seq (.ops [
 oo 11 (.move (.tmp 1)),
 oo 12 (.bin .lss (.tmp 11) (.cst (.int .i64 1))),
 oo 13 (.move (.tmp 12)),
 og 14 13 false (.move (.tmp 1)),
 og 15 13 false (.bin .gtr (.tmp 14) (.cst (.int .i64 268435456))),
 oo 16 (.pick (.tmp 13) (.cst (.bool true)) (.tmp 15))])
 (.cond (.tmp 16)
 (.seq (.ops [
 oo 4 (.move (.cst (.pointer none))),
 oo 5 (.move (.cst (.int .i64 90)))])
 .ret)
 .skip))
 (.seq (.seq (.ops [
 oo 17 (.move (.tmp 0)),
 oo 18 (.len (.tmp 17)),
 oo 19 (.bin .gtr (.tmp 18) (.cst (.int .i64 64)))])
 (.cond (.tmp 19)
 (.seq (.ops [
 oo 4 (.move (.cst (.pointer none))),
 oo 5 (.move (.cst (.int .i64 96)))])
 .ret)
 .skip))
 (.seq (.ops [
 oo 20 (.move (.tmp 1)),
 oo 21 (.mkMap),
 oo 22 (.build [(.int .i32 0), (.int .u32 0), (.int .i64 0), (.int .i64 0), (.map none), (.int .i64 0), (.int .i64 0), (.bool false), (.int .i64 0)] [(2, 1, (.tmp 20)), (4, 1, (.tmp 21))]),
 oo 23 (.box 188 (.tmp 22)),
 oo 6 (.move (.tmp 23))])
 (.seq (.seq (.ops [
 oo 24 (.move (.tmp 0)),
 oo 25 (.len (.tmp 24)),
 oo 26 (.move (.cst (.int .i64 0)))])
 (.block 0 (.loop lp84_0)))
 k84_0)))))
def r84 : List ARes := [.tmp 4, .tmp 5]
def a84 : AFn := ⟨b84, r84, 0⟩
def b42 : ACode := (.seq (.ops [
 oo 2 (.move (.cst (.pointer none))),
 oo 3 (.move (.cst (.int .i64 0)))])
 (.seq (.ops [
 oo 4 (.move (.tmp 0)),
 oo 5 (.call 84 [(.cst (.slice none 0 0)), (.tmp 4)]),
 oo 6 (.extract 0 (.tmp 5)),
 oo 7 (.extract 1 (.tmp 5)),
 oo 2 (.move (.tmp 6)),
 oo 3 (.move (.tmp 7))])
 .ret))
def r42 : List ARes := [.tmp 2, .tmp 3]
def a42 : AFn := ⟨b42, r42, 0⟩
def b148 : ACode := (.seq (.ops [
 oo 4 (.move (.cst (.slice none 0 0))),
 oo 5 (.move (.cst (.int .i64 0)))])
 (.seq (.ops [
 oo 7 (.move (.tmp 0)),
 oo 8 (.nilCheck (.tmp 7)),
 oo 9 (.fieldAddr 0 (.tmp 8)),
 oo 10 (.call 74 [(.tmp 9)])])
 (.seq (.ops [
 oo 11 (.move (.tmp 0)),
 oo 12 (.nilCheck (.tmp 11)),
 oo 13 (.fieldAddr 0 (.tmp 12)),
 ⟨none, none, .defer (.cst (.func (.func 75) ⟨[]⟩ ⟨[]⟩)) [(.tmp 13)], []⟩])
 (.seq (.seq (.ops [
 oo 14 (.move (.tmp 0)),
 oo 15 (.move (.tmp 1)),
 oo 16 (.buildSlice 9 [(.string ⟨⟨[]⟩⟩)] 1 [(0, 1, (.tmp 15))]),
 oo 17 (.call 157 [(.tmp 14), (.cst (.bool true)), (.tmp 16)]),
 oo 6 (.move (.tmp 17))])
 (.seq (.ops [
 oo 18 (.move (.tmp 6)),
 oo 19 (.bin .neq (.tmp 18) (.cst (.int .i64 0)))])
 (.cond (.tmp 19)
 (.seq (.ops [
 oo 20 (.move (.tmp 6)),
 oo 4 (.move (.cst (.slice none 0 0))),
 oo 5 (.move (.tmp 20))])
 .ret)
 .skip)))
 (.seq (.ops [
 oo 21 (.move (.tmp 0)),
 oo 22 (.nilCheck (.tmp 21)),
 oo 23 (.fieldAddr 4 (.tmp 22)),
 oo 24 (.load1 (.tmp 23)),
 oo 25 (.move (.tmp 1)),
 oo 26 (.lookup .s (.slice none 0 0) false (.tmp 24) (.tmp 25)),
 oo 27 (.call 115 [(.tmp 26)]),
 oo 4 (.move (.tmp 27)),
 oo 5 (.move (.cst (.int .i64 0)))])
 .ret)))))
def r148 : List ARes := [.tmp 4, .tmp 5]
def a148 : AFn := ⟨b148, r148, 0⟩
def lp157_0 : ACode := (.seq (.ops [
 oo 18 (.bin .lss (.tmp 17) (.tmp 16))])
 (.seq (.cond (.tmp 18)
 .skip
 (.exit 0))
 (.seq (.block 1 (.seq (.ops [
 oo 19 (.idxAddrSl 1 (.tmp 15) (.tmp 17)),
 oo 20 (.load1 (.tmp 19)),
 oo 8 (.move (.tmp 20))])
 (.seq (.ops [
 oo 21 (.move (.tmp 8)),
 oo 22 (.call 147 [(.tmp 21)]),
 oo 23 (.un .not (.tmp 22))])
 (.cond (.tmp 23)
 (.seq (.ops [
 oo 6 (.move (.cst (.int .i64 91)))])
 .ret)
 .skip))))
 (.ops [
 oo 24 (.bin .add (.tmp 17) (.cst (.int .i64 1))),
 oo 17 (.move (.tmp 24))]))))
def k157_0 : ACode := (.seq (.seq (.draw [
 oo 26 (.move (.tmp 0)),
 oo 27 (.nilCheck (.tmp 26)),
 oo 28 (.fieldAddr 4 (.tmp 27)),
 oo 29 (.load1 (.tmp 28)),
 oo 30 (.move (.tmp 2)),
 oo 31 (.idxAddrSl 1 (.tmp 30) (.cst (.int .i64 0))),
 oo 32 (.load1 (.tmp 31)),
 oo 33 (.lookup .s (.slice none 0 0) true (.tmp 29) (.tmp 32)),
 oo 25 (.move (.tmp 33)),
 oo 34 (.extract 0 (.tmp 25)),
 oo 35 (.extract 1 (.tmp 25)),
 oo 9 (.move (.tmp 34)),
 oo 10 (.move (.tmp 35))])
 (.seq (.ops [
 oo 36 (.move (.tmp 1)),
 oo 37 (.move (.tmp 36)),
 og 38 37 true (.move (.tmp 10)),
 og 39 37 true (.un .not (.tmp 38)),
 oo 40 (.pick (.tmp 37) (.tmp 39) (.cst (.bool false)))])
 (.cond (.tmp 40)
 (.seq (.ops [
 oo 6 (.move (.cst (.int .i64 92)))])
 .ret)
 .skip)))
 (.seq (.ops [
 oo 6 (.move (.cst (.int .i64 0)))])
 .ret))
def b157 : ACode := (.seq (.ops [
 oo 6 (.move (.cst (.int .i64 0)))])
 (.seq (.seq (.ops [
 oo 11 (.move (.tmp 0)),
 oo 12 (.nilCheck (.tmp 11)),
 oo 13 (.fieldAddr 7 (.tmp 12)),
 oo 14 (.load1 (.tmp 13))])
 (.cond (.tmp 14)
 (.seq (.ops [
 oo 6 (.move (.cst (.int .i64 94)))])
 .ret)
 .skip))
 (.seq (.seq (.ops [
 oo 15 (.move (.tmp 2)),
 oo 16 (.len (.tmp 15)),
 oo 17 (.move (.cst (.int .i64 0)))])
 (.block 0 (.loop lp157_0)))
 k157_0)))
def r157 : List ARes := [.tmp 6]
def a157 : AFn := ⟨b157, r157, 2⟩
def b93 : ACode := (.seq (.ops [
 oo 3 (.box 113 (.tmp 0)),
 oo 4 (.box 9 (.tmp 1)),
 oo 5 (.box 41 (.tmp 2)),
 oo 6 (.move (.cst (.int .i64 0)))])
 (.seq (.ops [
 oo 11 (.load1 (.tmp 3)),
 oo 12 (.nilCheck (.tmp 11)),
 oo 13 (.fieldAddr 0 (.tmp 12)),
 oo 14 (.call 74 [(.tmp 13)])])
 (.seq (.ops [
 oo 15 (.load1 (.tmp 3)),
 oo 16 (.nilCheck (.tmp 15)),
 oo 17 (.fieldAddr 0 (.tmp 16)),
 ⟨none, none, .defer (.cst (.func (.func 75) ⟨[]⟩ ⟨[]⟩)) [(.tmp 17)], []⟩])
 (.seq (.seq (.ops [
 oo 18 (.load1 (.tmp 3)),
 oo 19 (.load1 (.tmp 4)),
 oo 20 (.buildSlice 9 [(.string ⟨⟨[]⟩⟩)] 1 [(0, 1, (.tmp 19))]),
 oo 21 (.call 157 [(.tmp 18), (.cst (.bool false)), (.tmp 20)]),
 oo 7 (.move (.tmp 21))])
 (.seq (.ops [
 oo 22 (.move (.tmp 7)),
 oo 23 (.bin .neq (.tmp 22) (.cst (.int .i64 0)))])
 (.cond (.tmp 23)
 (.seq (.ops [
 oo 24 (.move (.tmp 7)),
 oo 6 (.move (.tmp 24))])
 .ret)
 .skip)))
 (.seq (.draw [
 oo 8 (.box 41 (.cst (.slice none 0 0))),
 oo 9 (.box 4 (.cst (.bool false))),
 oo 26 (.load1 (.tmp 3)),
 oo 27 (.nilCheck (.tmp 26)),
 oo 28 (.fieldAddr 4 (.tmp 27)),
 oo 29 (.load1 (.tmp 28)),
 oo 30 (.load1 (.tmp 4)),
 oo 31 (.lookup .s (.slice none 0 0) true (.tmp 29) (.tmp 30)),
 oo 25 (.move (.tmp 31)),
 oo 32 (.extract 0 (.tmp 25)),
 oo 33 (.extract 1 (.tmp 25)),
 ⟨none, none, .store1 (.tmp 8) (.tmp 32), []⟩,
 ⟨none, none, .store1 (.tmp 9) (.tmp 33), []⟩])
 (.seq (.seq (.draw [
 oo 34 (.load1 (.tmp 9)),
 oo 35 (.un .not (.tmp 34)),
 oo 36 (.move (.tmp 35)),
 og 37 36 true (.load1 (.tmp 3)),
 og 38 36 true (.nilCheck (.tmp 37)),
 og 39 36 true (.fieldAddr 4 (.tmp 38)),
 og 40 36 true (.load1 (.tmp 39)),
 og 41 36 true (.lenMap (.tmp 40)),
 og 42 36 true (.bin .geq (.tmp 41) (.cst (.int .i64 64))),
 oo 43 (.pick (.tmp 36) (.tmp 42) (.cst (.bool false))),
 oo 44 (.move (.tmp 43)),
 og 45 44 false (.load1 (.tmp 5)),
 og 46 44 false (.len (.tmp 45)),
 og 47 44 false (.load1 (.tmp 3)),
 og 48 44 false (.nilCheck (.tmp 47)),
 og 49 44 false (.fieldAddr 2 (.tmp 48)),
 og 50 44 false (.load1 (.tmp 49)),
 og 51 44 false (.load1 (.tmp 3)),
 og 52 44 false (.nilCheck (.tmp 51)),
 og 53 44 false (.fieldAddr 3 (.tmp 52)),
 og 54 44 false (.load1 (.tmp 53)),
 og 55 44 false (.bin .sub (.tmp 50) (.tmp 54)),
 og 56 44 false (.bin .gtr (.tmp 46) (.tmp 55)),
 oo 57 (.pick (.tmp 44) (.cst (.bool true)) (.tmp 56))])
 (.cond (.tmp 57)
 (.seq (.ops [
 oo 6 (.move (.cst (.int .i64 93)))])
 .ret)
 .skip))
 (.seq (.ops [
 oo 58 (.mkFunc 158 [] [(.tmp 8), (.tmp 3), (.tmp 4)]),
 oo 10 (.box 109 (.cst .nilFunc)),
 ⟨none, none, .store1 (.tmp 10) (.tmp 58), []⟩])
 (.seq (.ops [
 oo 59 (.load1 (.tmp 3)),
 oo 60 (.mkFunc 160 [] [(.tmp 10), (.tmp 5)]),
 oo 61 (.mkFunc 161 [] [(.tmp 9), (.tmp 10), (.tmp 5)]),
 oo 62 (.call 159 [(.tmp 59), (.tmp 60), (.tmp 61)]),
 oo 6 (.move (.tmp 62))])
 .ret))))))))
def r93 : List ARes := [.tmp 6]
def a93 : AFn := ⟨b93, r93, 0⟩
def b158 : ACode := (.seq (.draw [
 ⟨(some 5), none, .load1 (.tmp 2), [8]⟩,
 oo 6 (.nilCheck (.tmp 5)),
 oo 7 (.fieldAddr 4 (.tmp 6)),
 ⟨(some 8), none, .load1 (.tmp 7), [8]⟩,
 ⟨(some 9), none, .load1 (.tmp 3), [8]⟩,
 oo 10 (.load1 (.tmp 1)),
 oo 11 (.move (.tmp 0)),
 oo 12 (.append 5 1 1 (.tmp 10) (.tmp 11)),
 ⟨none, none, .mapUpd .s (.tmp 8) (.tmp 9) (.tmp 12), []⟩])
 (.ops [
 oo 13 (.load1 (.tmp 2)),
 oo 14 (.nilCheck (.tmp 13)),
 oo 15 (.fieldAddr 3 (.tmp 14)),
 oo 16 (.load1 (.tmp 15)),
 oo 17 (.move (.tmp 0)),
 oo 18 (.len (.tmp 17)),
 oo 19 (.bin .add (.tmp 16) (.tmp 18)),
 oo 20 (.nilCheck (.tmp 13)),
 oo 21 (.fieldAddr 3 (.tmp 20)),
 ⟨none, none, .store1 (.tmp 21) (.tmp 19), []⟩]))
def r158 : List ARes := []
def a158 : AFn := ⟨b158, r158, 0⟩
def b159 : ACode := (.seq (.ops [
 oo 6 (.move (.cst (.int .i64 0)))])
 (.seq (.ops [
 oo 7 (.move (.tmp 0)),
 oo 8 (.nilCheck (.tmp 7)),
 oo 9 (.fieldAddr 8 (.tmp 8)),
 oo 10 (.load1 (.tmp 9)),
 oo 11 (.bin .add (.tmp 10) (.cst (.int .i64 1))),
 oo 12 (.nilCheck (.tmp 7)),
 oo 13 (.fieldAddr 8 (.tmp 12)),
 ⟨none, none, .store1 (.tmp 13) (.tmp 11), []⟩])
 (.seq (.seq (.ops [
 oo 14 (.move (.tmp 0)),
 oo 15 (.nilCheck (.tmp 14)),
 oo 16 (.fieldAddr 5 (.tmp 15)),
 oo 17 (.load1 (.tmp 16)),
 oo 18 (.bin .gtr (.tmp 17) (.cst (.int .i64 0)))])
 (.cond (.tmp 18)
 (.seq (.ops [
 oo 19 (.move (.tmp 0)),
 oo 20 (.nilCheck (.tmp 19)),
 oo 21 (.fieldAddr 5 (.tmp 20)),
 oo 22 (.load1 (.tmp 21)),
 oo 23 (.bin .sub (.tmp 22) (.cst (.int .i64 1))),
 oo 24 (.nilCheck (.tmp 19)),
 oo 25 (.fieldAddr 5 (.tmp 24)),
 ⟨none, none, .store1 (.tmp 25) (.tmp 23), []⟩])
 (.seq (.ops [
 oo 26 (.move (.tmp 0)),
 oo 27 (.nilCheck (.tmp 26)),
 oo 28 (.fieldAddr 5 (.tmp 27)),
 oo 29 (.load1 (.tmp 28)),
 oo 30 (.bin .eql (.tmp 29) (.cst (.int .i64 0)))])
 (.cond (.tmp 30)
 (.seq (.ops [
 oo 31 (.move (.tmp 0)),
 oo 32 (.nilCheck (.tmp 31)),
 oo 33 (.fieldAddr 7 (.tmp 32)),
 ⟨none, none, .store1 (.tmp 33) (.cst (.bool true)), []⟩])
 (.seq (.ops [
 oo 34 (.move (.tmp 2)),
 oo 35 (.move (.tmp 0)),
 oo 36 (.nilCheck (.tmp 35)),
 oo 37 (.fieldAddr 6 (.tmp 36)),
 oo 38 (.load1 (.tmp 37)),
 oo 39 (.callv (.tmp 34) [(.tmp 38)])])
 (.seq (.ops [
 oo 6 (.move (.cst (.int .i64 94)))])
 .ret)))
 .skip)))
 .skip))
 (.seq (.ops [
 oo 40 (.move (.tmp 1)),
 oo 41 (.callv (.tmp 40) [])])
 (.seq (.ops [
 oo 6 (.move (.cst (.int .i64 0)))])
 .ret)))))
def r159 : List ARes := [.tmp 6]
def a159 : AFn := ⟨b159, r159, 0⟩
def b160 : ACode := (.ops [
 oo 2 (.load1 (.tmp 0)),
 oo 3 (.load1 (.tmp 1)),
 oo 4 (.callv (.tmp 2) [(.tmp 3)])])
def r160 : List ARes := []
def a160 : AFn := ⟨b160, r160, 0⟩
def b161 : ACode := (.seq (.ops [
 oo 5 (.load1 (.tmp 1)),
 oo 6 (.move (.tmp 5)),
 og 7 6 false (.move (.tmp 0)),
 og 8 6 false (.bin .gtr (.tmp 7) (.cst (.int .i64 0))),
 oo 9 (.pick (.tmp 6) (.cst (.bool true)) (.tmp 8))])
 (.cond (.tmp 9)
 (.draw [
 oo 10 (.load1 (.tmp 2)),
 oo 11 (.load1 (.tmp 3)),
 oo 12 (.move (.tmp 0)),
 oo 13 (.load1 (.tmp 3)),
 oo 14 (.len (.tmp 13)),
 oo 15 (.min2 (.tmp 12) (.tmp 14)),
 oo 16 (.max2 (.cst (.int .i64 0)) (.tmp 15)),
 oo 17 (.sliceSl 1 (.tmp 11) none (some (.tmp 16)) none),
 oo 18 (.callv (.tmp 10) [(.tmp 17)])])
 .skip))
def r161 : List ARes := []
def a161 : AFn := ⟨b161, r161, 0⟩
def b85 : ACode := (.seq (.ops [
 oo 4 (.move (.cst (.pointer none))),
 oo 5 (.move (.cst (.slice none 0 0))),
 oo 6 (.move (.cst (.int .i64 0)))])
 (.scope (.seq (.ops [
 oo 16 (.move (.tmp 0)),
 oo 17 (.move (.tmp 1)),
 oo 18 (.call 148 [(.tmp 16), (.tmp 17)]),
 oo 15 (.move (.tmp 18)),
 oo 19 (.extract 0 (.tmp 15)),
 oo 20 (.extract 1 (.tmp 15)),
 oo 7 (.move (.tmp 19)),
 oo 8 (.move (.tmp 20))])
 (.seq (.seq (.ops [
 oo 21 (.move (.tmp 8)),
 oo 22 (.bin .neq (.tmp 21) (.cst (.int .i64 0))),
 oo 23 (.move (.tmp 22)),
 og 24 23 true (.move (.tmp 8)),
 og 25 23 true (.bin .neq (.tmp 24) (.cst (.int .i64 92))),
 oo 26 (.pick (.tmp 23) (.tmp 25) (.cst (.bool false)))])
 (.cond (.tmp 26)
 (.seq (.ops [
 oo 27 (.move (.tmp 8)),
 oo 4 (.move (.cst (.pointer none))),
 oo 5 (.move (.cst (.slice none 0 0))),
 oo 6 (.move (.tmp 27))])
 .ret)
 .skip))
 (.seq (.ops [
 oo 28 (.move (.tmp 0)),
 oo 29 (.move (.tmp 1)),
 oo 30 (.build [(.pointer none), (.string ⟨⟨[]⟩⟩), (.int .i64 0), (.bool false)] [(0, 1, (.tmp 28)), (1, 1, (.tmp 29))]),
 oo 31 (.box 228 (.tmp 30)),
 oo 9 (.move (.tmp 31))])
 (.seq (.ops [
 oo 10 (.move (.cst (.slice none 0 0)))])
 (.seq (.label 0)
 (.seq (.seq (.ops [
 oo 32 (.move (.tmp 9)),
 oo 33 (.nilCheck (.tmp 32)),
 oo 34 (.fieldAddr 2 (.tmp 33)),
 oo 35 (.load1 (.tmp 34)),
 oo 36 (.move (.tmp 7)),
 oo 37 (.len (.tmp 36)),
 oo 38 (.bin .eql (.tmp 35) (.tmp 37))])
 (.cond (.tmp 38)
 (.seq (.ops [
 oo 39 (.move (.tmp 9)),
 oo 40 (.move (.tmp 10)),
 oo 4 (.move (.tmp 39)),
 oo 5 (.move (.tmp 40)),
 oo 6 (.move (.cst (.int .i64 0)))])
 .ret)
 .skip))
 (.seq (.ops [
 oo 42 (.move (.tmp 7)),
 oo 43 (.move (.tmp 9)),
 oo 44 (.nilCheck (.tmp 43)),
 oo 45 (.fieldAddr 2 (.tmp 44)),
 oo 46 (.load1 (.tmp 45)),
 oo 47 (.sliceSl 1 (.tmp 42) (some (.tmp 46)) none none),
 oo 48 (.call 149 [(.tmp 47)]),
 oo 41 (.move (.tmp 48)),
 oo 49 (.extract 0 (.tmp 41)),
 oo 50 (.extract 1 (.tmp 41)),
 oo 51 (.extract 2 (.tmp 41)),
 oo 11 (.move (.tmp 49)),
 oo 12 (.move (.tmp 50)),
 oo 13 (.move (.tmp 51))])
 (.seq (.seq (.ops [
 oo 52 (.move (.tmp 13))])
 (.block 0 (.seq (.ops [
 oo 54 (.bin .eql (.tmp 52) (.cst (.int .i64 0))),
 oo 53 (.move (.tmp 54))])
 (.cond (.tmp 53)
 (.seq (.ops [
 oo 55 (.move (.tmp 10)),
 oo 56 (.move (.tmp 11)),
 oo 57 (.buildSlice 41 [(.slice none 0 0)] 1 [(0, 1, (.tmp 56))]),
 oo 58 (.append 41 1 24 (.tmp 55) (.tmp 57)),
 oo 10 (.move (.tmp 58))])
 (.seq (.ops [
 oo 59 (.move (.tmp 9)),
 oo 60 (.nilCheck (.tmp 59)),
 oo 61 (.fieldAddr 2 (.tmp 60)),
 oo 62 (.load1 (.tmp 61)),
 oo 63 (.move (.tmp 12)),
 oo 64 (.bin .add (.tmp 62) (.tmp 63)),
 oo 65 (.nilCheck (.tmp 59)),
 oo 66 (.fieldAddr 2 (.tmp 65)),
 ⟨none, none, .store1 (.tmp 66) (.tmp 64), []⟩])
 (.goto 0)))
 (.seq (.ops [
 oo 68 (.bin .eql (.tmp 52) (.cst (.int .i64 30))),
 oo 67 (.move (.tmp 68))])
 (.cond (.tmp 67)
 (.goto 1)
 .skip))))))
 (.seq (.seq (.ops [
 oo 4 (.move (.cst (.pointer none))),
 oo 5 (.move (.cst (.slice none 0 0))),
 oo 6 (.move (.cst (.int .i64 101)))])
 .ret)
 (.seq (.label 1)
 (.seq (.seq (.ops [
 oo 69 (.move (.tmp 0)),
 oo 70 (.move (.tmp 1)),
 oo 71 (.move (.tmp 9)),
 oo 72 (.nilCheck (.tmp 71)),
 oo 73 (.fieldAddr 2 (.tmp 72)),
 oo 74 (.load1 (.tmp 73)),
 oo 75 (.call 150 [(.tmp 69), (.tmp 70), (.tmp 74)]),
 oo 14 (.move (.tmp 75))])
 (.seq (.ops [
 oo 76 (.move (.tmp 14)),
 oo 77 (.bin .neq (.tmp 76) (.cst (.int .i64 0)))])
 (.cond (.tmp 77)
 (.seq (.ops [
 oo 78 (.move (.tmp 14)),
 oo 4 (.move (.cst (.pointer none))),
 oo 5 (.move (.cst (.slice none 0 0))),
 oo 6 (.move (.tmp 78))])
 .ret)
 .skip)))
 (.seq (.ops [
 oo 79 (.move (.tmp 9)),
 oo 80 (.move (.tmp 10)),
 oo 4 (.move (.tmp 79)),
 oo 5 (.move (.tmp 80)),
 oo 6 (.move (.cst (.int .i64 0)))])
 .ret))))))))))))))
def r85 : List ARes := [.tmp 4, .tmp 5, .tmp 6]
def a85 : AFn := ⟨b85, r85, 0⟩
def b86 : ACode := (.seq (.ops [
 oo 4 (.move (.cst (.int .i64 0)))])
 (.seq (.seq (.ops [
 oo 8 (.move (.tmp 0)),
 oo 9 (.nilCheck (.tmp 8)),
 oo 10 (.fieldAddr 3 (.tmp 9)),
 oo 11 (.load1 (.tmp 10))])
 (.cond (.tmp 11)
 (.seq (.ops [
 oo 4 (.move (.cst (.int .i64 102)))])
 .ret)
 .skip))
 (.seq (.ops [
 oo 13 (.move (.tmp 1)),
 oo 14 (.call 151 [(.tmp 13)]),
 oo 12 (.move (.tmp 14)),
 oo 15 (.extract 0 (.tmp 12)),
 oo 16 (.extract 1 (.tmp 12)),
 oo 5 (.move (.tmp 15)),
 oo 6 (.move (.tmp 16))])
 (.seq (.seq (.ops [
 oo 17 (.move (.tmp 6)),
 oo 18 (.bin .neq (.tmp 17) (.cst (.int .i64 0)))])
 (.cond (.tmp 18)
 (.seq (.ops [
 oo 4 (.move (.cst (.int .i64 100)))])
 .ret)
 .skip))
 (.seq (.seq (.draw [
 oo 19 (.move (.tmp 0)),
 oo 20 (.nilCheck (.tmp 19)),
 oo 21 (.fieldAddr 0 (.tmp 20)),
 oo 22 (.load1 (.tmp 21)),
 oo 23 (.move (.tmp 0)),
 oo 24 (.nilCheck (.tmp 23)),
 oo 25 (.fieldAddr 1 (.tmp 24)),
 oo 26 (.load1 (.tmp 25)),
 oo 27 (.move (.tmp 5)),
 oo 28 (.call 93 [(.tmp 22), (.tmp 26), (.tmp 27)]),
 oo 7 (.move (.tmp 28))])
 (.seq (.ops [
 oo 29 (.move (.tmp 7)),
 oo 30 (.bin .neq (.tmp 29) (.cst (.int .i64 0)))])
 (.cond (.tmp 30)
 (.seq (.ops [
 oo 31 (.move (.tmp 0)),
 oo 32 (.nilCheck (.tmp 31)),
 oo 33 (.fieldAddr 3 (.tmp 32)),
 ⟨none, none, .store1 (.tmp 33) (.cst (.bool true)), []⟩])
 (.seq (.ops [
 oo 34 (.move (.tmp 7)),
 oo 4 (.move (.tmp 34))])
 .ret))
 .skip)))
 (.seq (.ops [
 oo 35 (.move (.tmp 0)),
 oo 36 (.nilCheck (.tmp 35)),
 oo 37 (.fieldAddr 2 (.tmp 36)),
 oo 38 (.load1 (.tmp 37)),
 oo 39 (.move (.tmp 5)),
 oo 40 (.len (.tmp 39)),
 oo 41 (.bin .add (.tmp 38) (.tmp 40)),
 oo 42 (.nilCheck (.tmp 35)),
 oo 43 (.fieldAddr 2 (.tmp 42)),
 ⟨none, none, .store1 (.tmp 43) (.tmp 41), []⟩])
 (.seq (.ops [
 oo 4 (.move (.cst (.int .i64 0)))])
 .ret)))))))
def r86 : List ARes := [.tmp 4]
def a86 : AFn := ⟨b86, r86, 0⟩
def b151 : ACode := (.seq (.ops [
 oo 2 (.move (.cst (.slice none 0 0))),
 oo 3 (.move (.cst (.int .i64 0)))])
 (.seq (.seq (.ops [
 oo 5 (.move (.tmp 0)),
 oo 6 (.len (.tmp 5)),
 oo 7 (.bin .gtr (.tmp 6) (.cst (.int .i64 16777216)))])
 (.cond (.tmp 7)
 (.seq (.ops [
 oo 2 (.move (.cst (.slice none 0 0))),
 oo 3 (.move (.cst (.int .i64 31)))])
 .ret)
 .skip))
 (.seq (.ops [
 oo 4 (.box 175 (.cst (.agg ⟨[(.slice none 0 0), (.int .i64 0)]⟩)))])
 (.seq (.ops [
 oo 8 (.call 114 [(.tmp 4), (.cst (.int .u64 201)), (.cst (.int .i64 1))])])
 (.seq (.ops [
 oo 9 (.move (.tmp 0)),
 oo 10 (.len (.tmp 9)),
 oo 11 (.convInt .u64 (.tmp 10)),
 oo 12 (.call 114 [(.tmp 4), (.tmp 11), (.cst (.int .i64 4))])])
 (.seq (.ops [
 oo 13 (.fieldAddr 0 (.tmp 4)),
 oo 14 (.load1 (.tmp 13)),
 oo 15 (.call 216 [(.tmp 14)]),
 oo 16 (.convInt .u64 (.tmp 15)),
 oo 17 (.call 114 [(.tmp 4), (.tmp 16), (.cst (.int .i64 4))])])
 (.seq (.ops [
 oo 18 (.fieldAddr 0 (.tmp 4)),
 oo 19 (.load1 (.tmp 18)),
 oo 20 (.move (.tmp 0)),
 oo 21 (.append 5 1 1 (.tmp 19) (.tmp 20)),
 oo 22 (.fieldAddr 0 (.tmp 4)),
 ⟨none, none, .store1 (.tmp 22) (.tmp 21), []⟩])
 (.seq (.ops [
 oo 23 (.move (.tmp 0)),
 oo 24 (.call 216 [(.tmp 23)]),
 oo 25 (.convInt .u64 (.tmp 24)),
 oo 26 (.call 114 [(.tmp 4), (.tmp 25), (.cst (.int .i64 4))])])
 (.seq (.ops [
 oo 27 (.fieldAddr 0 (.tmp 4)),
 oo 28 (.load1 (.tmp 27)),
 oo 2 (.move (.tmp 28)),
 oo 3 (.move (.cst (.int .i64 0)))])
 .ret)))))))))
def r151 : List ARes := [.tmp 2, .tmp 3]
def a151 : AFn := ⟨b151, r151, 0⟩
def lp114_0 : ACode := (.seq (.seq (.ops [
 oo 35 (.move (.tmp 6)),
 oo 36 (.bin .geq (.tmp 35) (.cst (.int .i64 0)))])
 (.cond (.tmp 36)
 .skip
 (.exit 0)))
 (.seq (.block 1 (.draw [
 oo 39 (.move (.tmp 0)),
 oo 40 (.move (.tmp 0)),
 oo 41 (.nilCheck (.tmp 40)),
 oo 42 (.fieldAddr 0 (.tmp 41)),
 ⟨(some 43), none, .load1 (.tmp 42), [10]⟩,
 oo 44 (.move (.tmp 1)),
 oo 45 (.move (.tmp 6)),
 oo 46 (.bin .shr (.tmp 44) (.tmp 45)),
 oo 47 (.convInt .u8 (.tmp 46)),
 oo 48 (.buildSlice 5 [(.int .u8 0)] 1 [(0, 1, (.tmp 47))]),
 oo 49 (.append 5 1 1 (.tmp 43) (.tmp 48)),
 oo 50 (.nilCheck (.tmp 39)),
 oo 51 (.fieldAddr 0 (.tmp 50)),
 ⟨none, none, .store1 (.tmp 51) (.tmp 49), []⟩]))
 (.ops [
 oo 37 (.move (.tmp 6)),
 oo 38 (.bin .sub (.tmp 37) (.cst (.int .i64 8))),
 oo 6 (.move (.tmp 38))])))
def b114 : ACode := (.seq (.seq (.ops [
 oo 7 (.move (.tmp 0)),
 oo 8 (.nilCheck (.tmp 7)),
 oo 9 (.fieldAddr 1 (.tmp 8)),
 oo 10 (.load1 (.tmp 9)),
 oo 11 (.bin .neq (.tmp 10) (.cst (.int .i64 0)))])
 (.cond (.tmp 11)
 .ret
 .skip))
 (.seq (.seq (.ops [
 oo 12 (.move (.tmp 2)),
 oo 13 (.bin .lss (.tmp 12) (.cst (.int .i64 1))),
 oo 14 (.move (.tmp 13)),
 og 15 14 false (.move (.tmp 2)),
 og 16 14 false (.bin .gtr (.tmp 15) (.cst (.int .i64 8))),
 oo 17 (.pick (.tmp 14) (.cst (.bool true)) (.tmp 16)),
 oo 18 (.move (.tmp 17)),
 og 19 18 false (.move (.tmp 2)),
 og 20 18 false (.bin .lss (.tmp 19) (.cst (.int .i64 8))),
 og 21 18 false (.move (.tmp 20)),
 og 22 21 true (.move (.tmp 1)),
 og 23 21 true (.move (.tmp 2)),
 og 24 21 true (.bin .mul (.cst (.int .i64 8)) (.tmp 23)),
 og 25 21 true (.bin .shr (.tmp 22) (.tmp 24)),
 og 26 21 true (.bin .neq (.tmp 25) (.cst (.int .u64 0))),
 og 27 18 false (.pick (.tmp 21) (.tmp 26) (.cst (.bool false))),
 oo 28 (.pick (.tmp 18) (.cst (.bool true)) (.tmp 27))])
 (.cond (.tmp 28)
 (.seq (.ops [
 oo 29 (.move (.tmp 0)),
 oo 30 (.nilCheck (.tmp 29)),
 oo 31 (.fieldAddr 1 (.tmp 30)),
 ⟨none, none, .store1 (.tmp 31) (.cst (.int .i64 34)), []⟩])
 .ret)
 .skip))
 (.seq (.ops [
 oo 32 (.move (.tmp 2)),
 oo 33 (.bin .sub (.tmp 32) (.cst (.int .i64 1))),
 oo 34 (.bin .mul (.cst (.int .i64 8)) (.tmp 33)),
 oo 6 (.move (.tmp 34))])
 (.block 0 (.loop lp114_0)))))
def r114 : List ARes := []
def a114 : AFn := ⟨b114, r114, 0⟩
def lp216_0 : ACode := (.seq (.ops [
 oo 9 (.bin .lss (.tmp 8) (.tmp 7))])
 (.seq (.cond (.tmp 9)
 .skip
 (.exit 0))
 (.seq (.block 1 (.seq (.ops [
 oo 10 (.idxAddrSl 1 (.tmp 6) (.tmp 8)),
 oo 11 (.load1 (.tmp 10)),
 oo 5 (.move (.tmp 11))])
 (.seq (.ops [
 oo 12 (.move (.tmp 3)),
 oo 13 (.move (.tmp 5)),
 oo 14 (.convInt .u32 (.tmp 13)),
 oo 15 (.bin .xor (.tmp 12) (.tmp 14)),
 oo 3 (.move (.tmp 15))])
 (.seq (.ops [
 oo 16 (.move (.tmp 3)),
 oo 17 (.bin .shr (.tmp 16) (.cst (.int .u64 4))),
 oo 18 (.move (.tmp 3)),
 oo 19 (.bin .and (.tmp 18) (.cst (.int .u32 15))),
 oo 20 (.idxAddrArr 1 16 (.cst (.pointer (some ⟨1, 0, none⟩))) (.tmp 19)),
 oo 21 (.load1 (.tmp 20)),
 oo 22 (.bin .xor (.tmp 17) (.tmp 21)),
 oo 3 (.move (.tmp 22))])
 (.ops [
 oo 23 (.move (.tmp 3)),
 oo 24 (.bin .shr (.tmp 23) (.cst (.int .u64 4))),
 oo 25 (.move (.tmp 3)),
 oo 26 (.bin .and (.tmp 25) (.cst (.int .u32 15))),
 oo 27 (.idxAddrArr 1 16 (.cst (.pointer (some ⟨1, 0, none⟩))) (.tmp 26)),
 oo 28 (.load1 (.tmp 27)),
 oo 29 (.bin .xor (.tmp 24) (.tmp 28)),
 oo 3 (.move (.tmp 29))])))))
 (.ops [
 oo 30 (.bin .add (.tmp 8) (.cst (.int .i64 1))),
 oo 8 (.move (.tmp 30))]))))
def k216_0 : ACode := (.seq (.ops [
 oo 31 (.move (.tmp 3)),
 oo 32 (.un .xor (.tmp 31)),
 oo 2 (.move (.tmp 32))])
 .ret)
def b216 : ACode := (.seq (.ops [
 oo 2 (.move (.cst (.int .u32 0)))])
 (.seq (.ops [
 oo 3 (.move (.cst (.int .u32 4294967295)))])
 (.seq (.seq (.ops [
 oo 6 (.move (.tmp 0)),
 oo 7 (.len (.tmp 6)),
 oo 8 (.move (.cst (.int .i64 0)))])
 (.block 0 (.loop lp216_0)))
 k216_0)))
def r216 : List ARes := [.tmp 2]
def a216 : AFn := ⟨b216, r216, 2⟩
def lp43_0 : ACode := (.seq (.ops [
 oo 40 (.bin .lss (.tmp 39) (.tmp 38))])
 (.seq (.cond (.tmp 40)
 .skip
 (.exit 0))
 (.seq (.block 1 (.seq (.ops [
 oo 41 (.idxAddrSl 1 (.tmp 37) (.tmp 39)),
 oo 42 (.load1 (.tmp 41)),
 oo 11 (.move (.tmp 42))])
 (.seq (.seq (.ops [
 oo 43 (.move (.tmp 11)),
 oo 44 (.len (.tmp 43)),
 oo 45 (.bin .gtr (.tmp 44) (.cst (.int .i64 16384)))])
 (.cond (.tmp 45)
 (.seq (.ops [
 oo 4 (.move (.cst (.pointer none))),
 oo 5 (.move (.cst (.int .i64 233)))])
 .ret)
 .skip))
 (.draw [
 oo 46 (.move (.tmp 9)),
 oo 47 (.move (.tmp 9)),
 oo 48 (.nilCheck (.tmp 47)),
 oo 49 (.fieldAddr 4 (.tmp 48)),
 ⟨(some 50), none, .load1 (.tmp 49), [8]⟩,
 oo 51 (.move (.tmp 11)),
 oo 52 (.call 20 [(.tmp 51)]),
 oo 53 (.buildSlice 30 [(.int .u8 0), (.int .u8 0), (.int .u8 0), (.int .u8 0), (.int .u8 0), (.int .u8 0), (.int .u8 0), (.int .u8 0), (.int .u8 0), (.int .u8 0), (.int .u8 0), (.int .u8 0), (.int .u8 0), (.int .u8 0), (.int .u8 0), (.int .u8 0), (.int .u8 0), (.int .u8 0), (.int .u8 0), (.int .u8 0), (.int .u8 0), (.int .u8 0), (.int .u8 0), (.int .u8 0), (.int .u8 0), (.int .u8 0), (.int .u8 0), (.int .u8 0), (.int .u8 0), (.int .u8 0), (.int .u8 0), (.int .u8 0)] 1 [(0, 32, (.tmp 52))]),
 oo 54 (.append 30 32 32 (.tmp 50) (.tmp 53)),
 oo 55 (.nilCheck (.tmp 46)),
 oo 56 (.fieldAddr 4 (.tmp 55)),
 ⟨none, none, .store1 (.tmp 56) (.tmp 54), []⟩]))))
 (.ops [
 oo 57 (.bin .add (.tmp 39) (.cst (.int .i64 1))),
 oo 39 (.move (.tmp 57))]))))
def k43_0 : ACode := (.seq (.ops [
 oo 58 (.move (.tmp 9)),
 oo 4 (.move (.tmp 58)),
 oo 5 (.move (.cst (.int .i64 0)))])
 .ret)
def b43 : ACode := (.seq (.ops [
 oo 4 (.move (.cst (.pointer none))),
 oo 5 (.move (.cst (.int .i64 0)))])
 (.seq (.ops [
 oo 13 (.move (.tmp 0)),
 oo 14 (.move (.tmp 1)),
 oo 15 (.call 85 [(.tmp 13), (.tmp 14)]),
 oo 12 (.move (.tmp 15)),
 oo 16 (.extract 0 (.tmp 12)),
 oo 17 (.extract 1 (.tmp 12)),
 oo 18 (.extract 2 (.tmp 12)),
 oo 6 (.move (.tmp 16)),
 oo 7 (.move (.tmp 17)),
 oo 8 (.move (.tmp 18))])
 (.seq (.seq (.ops [
 oo 19 (.move (.tmp 8)),
 oo 20 (.bin .eql (.tmp 19) (.cst (.int .i64 101))),
 oo 21 (.move (.tmp 20)),
 og 22 21 false (.move (.tmp 8)),
 og 23 21 false (.bin .eql (.tmp 22) (.cst (.int .i64 0))),
 og 24 21 false (.move (.tmp 23)),
 og 25 24 true (.move (.tmp 7)),
 og 26 24 true (.len (.tmp 25)),
 og 27 24 true (.bin .gtr (.tmp 26) (.cst (.int .i64 65536))),
 og 28 21 false (.pick (.tmp 24) (.tmp 27) (.cst (.bool false))),
 oo 29 (.pick (.tmp 21) (.cst (.bool true)) (.tmp 28))])
 (.cond (.tmp 29)
 (.seq (.ops [
 oo 4 (.move (.cst (.pointer none))),
 oo 5 (.move (.cst (.int .i64 233)))])
 .ret)
 .skip))
 (.seq (.seq (.ops [
 oo 30 (.move (.tmp 8)),
 oo 31 (.bin .neq (.tmp 30) (.cst (.int .i64 0)))])
 (.cond (.tmp 31)
 (.seq (.ops [
 oo 32 (.move (.tmp 8)),
 oo 4 (.move (.cst (.pointer none))),
 oo 5 (.move (.tmp 32))])
 .ret)
 .skip))
 (.seq (.ops [
 oo 33 (.move (.tmp 6)),
 oo 34 (.move (.tmp 7)),
 oo 35 (.build [(.int .i32 0), (.int .u32 0), (.pointer none), (.slice none 0 0), (.slice none 0 0), (.int .i64 0)] [(2, 1, (.tmp 33)), (3, 1, (.tmp 34))]),
 oo 36 (.box 171 (.tmp 35)),
 oo 9 (.move (.tmp 36))])
 (.seq (.seq (.ops [
 oo 37 (.move (.tmp 7)),
 oo 38 (.len (.tmp 37)),
 oo 39 (.move (.cst (.int .i64 0)))])
 (.block 0 (.loop lp43_0)))
 k43_0))))))
def r43 : List ARes := [.tmp 4, .tmp 5]
def a43 : AFn := ⟨b43, r43, 0⟩
def b45 : ACode := (.seq (.ops [
 oo 4 (.move (.cst (.int .u64 0))),
 oo 5 (.move (.cst (.int .i64 0)))])
 (.seq (.ops [
 oo 7 (.move (.tmp 0)),
 oo 8 (.nilCheck (.tmp 7)),
 oo 9 (.fieldAddr 0 (.tmp 8)),
 oo 10 (.call 74 [(.tmp 9)])])
 (.seq (.ops [
 oo 11 (.move (.tmp 0)),
 oo 12 (.nilCheck (.tmp 11)),
 oo 13 (.fieldAddr 0 (.tmp 12)),
 ⟨none, none, .defer (.cst (.func (.func 75) ⟨[]⟩ ⟨[]⟩)) [(.tmp 13)], []⟩])
 (.seq (.block 0 (.seq (.ops [
 oo 15 (.move (.tmp 0)),
 oo 16 (.nilCheck (.tmp 15)),
 oo 17 (.fieldAddr 5 (.tmp 16)),
 oo 18 (.load1 (.tmp 17)),
 oo 19 (.bin .neq (.tmp 18) (.cst (.int .i64 0))),
 oo 14 (.move (.tmp 19))])
 (.cond (.tmp 14)
 (.seq (.ops [
 oo 4 (.move (.cst (.int .u64 0))),
 oo 5 (.move (.cst (.int .i64 234)))])
 .ret)
 (.seq (.ops [
 oo 21 (.move (.tmp 1)),
 oo 22 (.len (.tmp 21)),
 oo 23 (.bin .gtr (.tmp 22) (.cst (.int .i64 16384))),
 oo 20 (.move (.tmp 23))])
 (.cond (.tmp 20)
 (.seq (.ops [
 oo 4 (.move (.cst (.int .u64 0))),
 oo 5 (.move (.cst (.int .i64 231)))])
 .ret)
 (.seq (.ops [
 oo 25 (.move (.tmp 0)),
 oo 26 (.nilCheck (.tmp 25)),
 oo 27 (.fieldAddr 3 (.tmp 26)),
 oo 28 (.load1 (.tmp 27)),
 oo 29 (.len (.tmp 28)),
 oo 30 (.bin .geq (.tmp 29) (.cst (.int .i64 65536))),
 oo 24 (.move (.tmp 30))])
 (.cond (.tmp 24)
 (.seq (.ops [
 oo 4 (.move (.cst (.int .u64 0))),
 oo 5 (.move (.cst (.int .i64 232)))])
 .ret)
 .skip)))))))
 (.seq (.seq (.ops [
 oo 31 (.move (.tmp 0)),
 oo 32 (.nilCheck (.tmp 31)),
 oo 33 (.fieldAddr 2 (.tmp 32)),
 oo 34 (.load1 (.tmp 33)),
 oo 35 (.move (.tmp 1)),
 oo 36 (.call 86 [(.tmp 34), (.tmp 35)]),
 oo 6 (.move (.tmp 36))])
 (.seq (.ops [
 oo 37 (.move (.tmp 6)),
 oo 38 (.bin .neq (.tmp 37) (.cst (.int .i64 0)))])
 (.cond (.tmp 38)
 (.seq (.ops [
 oo 39 (.move (.tmp 0)),
 oo 40 (.move (.tmp 6)),
 oo 41 (.nilCheck (.tmp 39)),
 oo 42 (.fieldAddr 5 (.tmp 41)),
 ⟨none, none, .store1 (.tmp 42) (.tmp 40), []⟩])
 (.seq (.ops [
 oo 4 (.move (.cst (.int .u64 0))),
 oo 5 (.move (.cst (.int .i64 234)))])
 .ret))
 .skip)))
 (.seq (.draw [
 oo 43 (.move (.tmp 0)),
 oo 44 (.move (.tmp 0)),
 oo 45 (.nilCheck (.tmp 44)),
 oo 46 (.fieldAddr 3 (.tmp 45)),
 ⟨(some 47), none, .load1 (.tmp 46), [7, 8]⟩,
 oo 48 (.move (.tmp 1)),
 oo 49 (.call 87 [(.tmp 48)]),
 oo 50 (.buildSlice 41 [(.slice none 0 0)] 1 [(0, 1, (.tmp 49))]),
 oo 51 (.append 41 1 24 (.tmp 47) (.tmp 50)),
 oo 52 (.nilCheck (.tmp 43)),
 oo 53 (.fieldAddr 3 (.tmp 52)),
 ⟨none, none, .store1 (.tmp 53) (.tmp 51), []⟩])
 (.seq (.draw [
 oo 54 (.move (.tmp 0)),
 oo 55 (.move (.tmp 0)),
 oo 56 (.nilCheck (.tmp 55)),
 oo 57 (.fieldAddr 4 (.tmp 56)),
 ⟨(some 58), none, .load1 (.tmp 57), [8]⟩,
 oo 59 (.move (.tmp 1)),
 oo 60 (.call 20 [(.tmp 59)]),
 oo 61 (.buildSlice 30 [(.int .u8 0), (.int .u8 0), (.int .u8 0), (.int .u8 0), (.int .u8 0), (.int .u8 0), (.int .u8 0), (.int .u8 0), (.int .u8 0), (.int .u8 0), (.int .u8 0), (.int .u8 0), (.int .u8 0), (.int .u8 0), (.int .u8 0), (.int .u8 0), (.int .u8 0), (.int .u8 0), (.int .u8 0), (.int .u8 0), (.int .u8 0), (.int .u8 0), (.int .u8 0), (.int .u8 0), (.int .u8 0), (.int .u8 0), (.int .u8 0), (.int .u8 0), (.int .u8 0), (.int .u8 0), (.int .u8 0), (.int .u8 0)] 1 [(0, 32, (.tmp 60))]),
 oo 62 (.append 30 32 32 (.tmp 58) (.tmp 61)),
 oo 63 (.nilCheck (.tmp 54)),
 oo 64 (.fieldAddr 4 (.tmp 63)),
 ⟨none, none, .store1 (.tmp 64) (.tmp 62), []⟩])
 (.seq (.ops [
 oo 65 (.move (.tmp 0)),
 oo 66 (.nilCheck (.tmp 65)),
 oo 67 (.fieldAddr 3 (.tmp 66)),
 oo 68 (.load1 (.tmp 67)),
 oo 69 (.len (.tmp 68)),
 oo 70 (.bin .sub (.tmp 69) (.cst (.int .i64 1))),
 oo 71 (.convInt .u64 (.tmp 70)),
 oo 4 (.move (.tmp 71)),
 oo 5 (.move (.cst (.int .i64 0)))])
 .ret))))))))
def r45 : List ARes := [.tmp 4, .tmp 5]
def a45 : AFn := ⟨b45, r45, 0⟩
def b87 : ACode := (.seq (.ops [
 oo 2 (.move (.cst (.slice none 0 0)))])
 (.seq (.seq (.ops [
 oo 3 (.move (.tmp 0)),
 oo 4 (.eq false .nilS (.tmp 3) (.cst (.slice none 0 0)))])
 (.cond (.tmp 4)
 (.seq (.ops [
 oo 2 (.move (.cst (.slice none 0 0)))])
 .ret)
 .skip))
 (.seq (.ops [
 oo 5 (.buildSlice 5 [] 0 []),
 oo 6 (.move (.tmp 0)),
 oo 7 (.append 5 1 1 (.tmp 5) (.tmp 6)),
 oo 2 (.move (.tmp 7))])
 .ret)))
def r87 : List ARes := [.tmp 2]
def a87 : AFn := ⟨b87, r87, 0⟩
def b115 : ACode := (.seq (.ops [
 oo 2 (.move (.cst (.slice none 0 0)))])
 (.seq (.seq (.ops [
 oo 3 (.move (.tmp 0)),
 oo 4 (.eq false .nilS (.tmp 3) (.cst (.slice none 0 0)))])
 (.cond (.tmp 4)
 (.seq (.ops [
 oo 2 (.move (.cst (.slice none 0 0)))])
 .ret)
 .skip))
 (.seq (.ops [
 oo 5 (.buildSlice 5 [] 0 []),
 oo 6 (.move (.tmp 0)),
 oo 7 (.append 5 1 1 (.tmp 5) (.tmp 6)),
 oo 2 (.move (.tmp 7))])
 .ret)))
def r115 : List ARes := [.tmp 2]
def a115 : AFn := ⟨b115, r115, 0⟩
def b25 : ACode := (.seq (.ops [
 oo 4 (.box 35 (.cst (.agg ⟨[(.int .u64 0), (.int .u8 0), (.int .u8 0), (.int .u8 0), (.int .u8 0), (.int .u8 0), (.int .u8 0), (.int .u8 0), (.int .u8 0), (.int .u8 0), (.int .u8 0), (.int .u8 0), (.int .u8 0), (.int .u8 0), (.int .u8 0), (.int .u8 0), (.int .u8 0), (.int .u8 0), (.int .u8 0), (.int .u8 0), (.int .u8 0), (.int .u8 0), (.int .u8 0), (.int .u8 0), (.int .u8 0), (.int .u8 0), (.int .u8 0), (.int .u8 0), (.int .u8 0), (.int .u8 0), (.int .u8 0), (.int .u8 0), (.int .u8 0)]⟩))),
 oo 5 (.move (.cst (.int .i64 0)))])
 (.seq (.ops [
 oo 9 (.move (.tmp 0)),
 oo 10 (.move (.tmp 1)),
 oo 11 (.call 67 [(.tmp 9), (.tmp 10)]),
 oo 8 (.move (.tmp 11)),
 oo 12 (.extract 0 (.tmp 8)),
 oo 13 (.extract 1 (.tmp 8)),
 oo 6 (.move (.tmp 12)),
 oo 7 (.move (.tmp 13))])
 (.seq (.seq (.ops [
 oo 14 (.move (.tmp 7)),
 oo 15 (.un .not (.tmp 14))])
 (.cond (.tmp 15)
 (.seq (.ops [
 oo 16 (.build [(.int .u64 0), (.int .u8 0), (.int .u8 0), (.int .u8 0), (.int .u8 0), (.int .u8 0), (.int .u8 0), (.int .u8 0), (.int .u8 0), (.int .u8 0), (.int .u8 0), (.int .u8 0), (.int .u8 0), (.int .u8 0), (.int .u8 0), (.int .u8 0), (.int .u8 0), (.int .u8 0), (.int .u8 0), (.int .u8 0), (.int .u8 0), (.int .u8 0), (.int .u8 0), (.int .u8 0), (.int .u8 0), (.int .u8 0), (.int .u8 0), (.int .u8 0), (.int .u8 0), (.int .u8 0), (.int .u8 0), (.int .u8 0), (.int .u8 0)] []),
 ⟨none, none, .storeN 33 (.tmp 4) (.tmp 16), []⟩,
 oo 5 (.move (.cst (.int .i64 230)))])
 .ret)
 .skip))
 (.seq (.ops [
 oo 17 (.move (.tmp 1)),
 oo 18 (.move (.tmp 6)),
 oo 19 (.call 68 [(.tmp 18)]),
 oo 20 (.build [(.int .u64 0), (.int .u8 0), (.int .u8 0), (.int .u8 0), (.int .u8 0), (.int .u8 0), (.int .u8 0), (.int .u8 0), (.int .u8 0), (.int .u8 0), (.int .u8 0), (.int .u8 0), (.int .u8 0), (.int .u8 0), (.int .u8 0), (.int .u8 0), (.int .u8 0), (.int .u8 0), (.int .u8 0), (.int .u8 0), (.int .u8 0), (.int .u8 0), (.int .u8 0), (.int .u8 0), (.int .u8 0), (.int .u8 0), (.int .u8 0), (.int .u8 0), (.int .u8 0), (.int .u8 0), (.int .u8 0), (.int .u8 0), (.int .u8 0)] [(0, 1, (.tmp 17)), (1, 32, (.tmp 19))]),
 ⟨none, none, .storeN 33 (.tmp 4) (.tmp 20), []⟩,
 oo 5 (.move (.cst (.int .i64 0)))])
 .ret))))
def r25 : List ARes := [.cellN 4 33, .tmp 5]
def a25 : AFn := ⟨b25, r25, 0⟩
def b67 : ACode := (.seq (.ops [
 oo 4 (.move (.cst (.slice none 0 0))),
 oo 5 (.move (.cst (.bool false)))])
 (.seq (.ops [
 oo 6 (.move (.tmp 0)),
 oo 7 (.nilCheck (.tmp 6)),
 oo 8 (.fieldAddr 0 (.tmp 7)),
 oo 9 (.call 74 [(.tmp 8)])])
 (.seq (.ops [
 oo 10 (.move (.tmp 0)),
 oo 11 (.nilCheck (.tmp 10)),
 oo 12 (.fieldAddr 0 (.tmp 11)),
 ⟨none, none, .defer (.cst (.func (.func 75) ⟨[]⟩ ⟨[]⟩)) [(.tmp 12)], []⟩])
 (.seq (.seq (.ops [
 oo 13 (.move (.tmp 1)),
 oo 14 (.move (.tmp 0)),
 oo 15 (.nilCheck (.tmp 14)),
 oo 16 (.fieldAddr 4 (.tmp 15)),
 oo 17 (.load1 (.tmp 16)),
 oo 18 (.len (.tmp 17)),
 oo 19 (.convInt .u64 (.tmp 18)),
 oo 20 (.bin .gtr (.tmp 13) (.tmp 19))])
 (.cond (.tmp 20)
 (.seq (.ops [
 oo 4 (.move (.cst (.slice none 0 0))),
 oo 5 (.move (.cst (.bool false)))])
 .ret)
 .skip))
 (.seq (.ops [
 oo 21 (.move (.tmp 0)),
 oo 22 (.nilCheck (.tmp 21)),
 oo 23 (.fieldAddr 4 (.tmp 22)),
 oo 24 (.load1 (.tmp 23)),
 oo 25 (.move (.tmp 1)),
 oo 26 (.move (.tmp 1)),
 oo 27 (.sliceSl 32 (.tmp 24) none (some (.tmp 25)) (some (.tmp 26))),
 oo 4 (.move (.tmp 27)),
 oo 5 (.move (.cst (.bool true)))])
 .ret)))))
def r67 : List ARes := [.tmp 4, .tmp 5]
def a67 : AFn := ⟨b67, r67, 0⟩
def b68 : ACode := (.seq (.ops [
 oo 2 (.box 30 (.cst (.agg ⟨[(.int .u8 0), (.int .u8 0), (.int .u8 0), (.int .u8 0), (.int .u8 0), (.int .u8 0), (.int .u8 0), (.int .u8 0), (.int .u8 0), (.int .u8 0), (.int .u8 0), (.int .u8 0), (.int .u8 0), (.int .u8 0), (.int .u8 0), (.int .u8 0), (.int .u8 0), (.int .u8 0), (.int .u8 0), (.int .u8 0), (.int .u8 0), (.int .u8 0), (.int .u8 0), (.int .u8 0), (.int .u8 0), (.int .u8 0), (.int .u8 0), (.int .u8 0), (.int .u8 0), (.int .u8 0), (.int .u8 0), (.int .u8 0)]⟩)))])
 (.seq (.seq (.ops [
 oo 4 (.move (.tmp 0)),
 oo 5 (.len (.tmp 4))])
 (.block 0 (.seq (.ops [
 oo 7 (.bin .eql (.tmp 5) (.cst (.int .i64 0))),
 oo 6 (.move (.tmp 7))])
 (.cond (.tmp 6)
 (.seq (.ops [
 oo 8 (.call 57 [(.cst (.slice none 0 0))]),
 ⟨none, none, .storeN 32 (.tmp 2) (.tmp 8), []⟩])
 .ret)
 (.seq (.ops [
 oo 10 (.bin .eql (.tmp 5) (.cst (.int .i64 1))),
 oo 9 (.move (.tmp 10))])
 (.cond (.tmp 9)
 (.seq (.ops [
 oo 11 (.move (.tmp 0)),
 oo 12 (.idxAddrSl 32 (.tmp 11) (.cst (.int .i64 0))),
 oo 13 (.loadN 32 (.tmp 12)),
 ⟨none, none, .storeN 32 (.tmp 2) (.tmp 13), []⟩])
 .ret)
 .skip))))))
 (.seq (.ops [
 oo 14 (.move (.tmp 0)),
 oo 15 (.len (.tmp 14)),
 oo 16 (.convInt .u64 (.tmp 15)),
 oo 17 (.call 56 [(.tmp 16)]),
 oo 3 (.move (.tmp 17))])
 (.seq (.draw [
 oo 18 (.move (.tmp 0)),
 oo 19 (.move (.tmp 3)),
 oo 20 (.sliceSl 32 (.tmp 18) none (some (.tmp 19)) none),
 oo 21 (.call 68 [(.tmp 20)]),
 oo 22 (.move (.tmp 0)),
 oo 23 (.move (.tmp 3)),
 oo 24 (.sliceSl 32 (.tmp 22) (some (.tmp 23)) none none),
 oo 25 (.call 68 [(.tmp 24)]),
 oo 26 (.call 17 [(.tmp 21), (.tmp 25)]),
 ⟨none, none, .storeN 32 (.tmp 2) (.tmp 26), []⟩])
 .ret))))
def r68 : List ARes := [.cellN 2 32]
def a68 : AFn := ⟨b68, r68, 2⟩
def b26 : ACode := (.seq (.ops [
 oo 6 (.move (.cst (.slice none 0 0))),
 oo 7 (.move (.cst (.int .i64 0)))])
 (.seq (.ops [
 oo 11 (.move (.tmp 0)),
 oo 12 (.move (.tmp 2)),
 oo 13 (.call 67 [(.tmp 11), (.tmp 12)]),
 oo 10 (.move (.tmp 13)),
 oo 14 (.extract 0 (.tmp 10)),
 oo 15 (.extract 1 (.tmp 10)),
 oo 8 (.move (.tmp 14)),
 oo 9 (.move (.tmp 15))])
 (.seq (.seq (.ops [
 oo 16 (.move (.tmp 9)),
 oo 17 (.un .not (.tmp 16)),
 oo 18 (.move (.tmp 17)),
 og 19 18 false (.move (.tmp 1)),
 og 20 18 false (.move (.tmp 2)),
 og 21 18 false (.bin .geq (.tmp 19) (.tmp 20)),
 oo 22 (.pick (.tmp 18) (.cst (.bool true)) (.tmp 21))])
 (.cond (.tmp 22)
 (.seq (.ops [
 oo 6 (.move (.cst (.slice none 0 0))),
 oo 7 (.move (.cst (.int .i64 230)))])
 .ret)
 .skip))
 (.seq (.ops [
 oo 23 (.move (.tmp 8)),
 oo 24 (.move (.tmp 1)),
 oo 25 (.call 69 [(.tmp 23), (.tmp 24)]),
 oo 6 (.move (.tmp 25)),
 oo 7 (.move (.cst (.int .i64 0)))])
 .ret))))
def r26 : List ARes := [.tmp 6, .tmp 7]
def a26 : AFn := ⟨b26, r26, 0⟩
def b69 : ACode := (.seq (.ops [
 oo 4 (.move (.cst (.slice none 0 0)))])
 (.seq (.seq (.ops [
 oo 6 (.move (.tmp 0)),
 oo 7 (.len (.tmp 6)),
 oo 8 (.bin .eql (.tmp 7) (.cst (.int .i64 1)))])
 (.cond (.tmp 8)
 (.seq (.ops [
 oo 4 (.move (.cst (.slice none 0 0)))])
 .ret)
 .skip))
 (.seq (.ops [
 oo 9 (.move (.tmp 0)),
 oo 10 (.len (.tmp 9)),
 oo 11 (.convInt .u64 (.tmp 10)),
 oo 12 (.call 56 [(.tmp 11)]),
 oo 5 (.move (.tmp 12))])
 (.seq (.seq (.ops [
 oo 13 (.move (.tmp 1)),
 oo 14 (.move (.tmp 5)),
 oo 15 (.bin .lss (.tmp 13) (.tmp 14))])
 (.cond (.tmp 15)
 (.seq (.draw [
 oo 16 (.move (.tmp 0)),
 oo 17 (.move (.tmp 5)),
 oo 18 (.sliceSl 32 (.tmp 16) none (some (.tmp 17)) none),
 oo 19 (.move (.tmp 1)),
 oo 21 (.move (.tmp 0)),
 oo 22 (.move (.tmp 5)),
 ⟨(some 23), none, .sliceSl 32 (.tmp 21) (some (.tmp 22)) none none, [9]⟩,
 oo 20 (.call 69 [(.tmp 18), (.tmp 19)]),
 oo 24 (.call 68 [(.tmp 23)]),
 oo 25 (.buildSlice 30 [(.int .u8 0), (.int .u8 0), (.int .u8 0), (.int .u8 0), (.int .u8 0), (.int .u8 0), (.int .u8 0), (.int .u8 0), (.int .u8 0), (.int .u8 0), (.int .u8 0), (.int .u8 0), (.int .u8 0), (.int .u8 0), (.int .u8 0), (.int .u8 0), (.int .u8 0), (.int .u8 0), (.int .u8 0), (.int .u8 0), (.int .u8 0), (.int .u8 0), (.int .u8 0), (.int .u8 0), (.int .u8 0), (.int .u8 0), (.int .u8 0), (.int .u8 0), (.int .u8 0), (.int .u8 0), (.int .u8 0), (.int .u8 0)] 1 [(0, 32, (.tmp 24))]),
 oo 26 (.append 30 32 32 (.tmp 20) (.tmp 25)),
 oo 4 (.move (.tmp 26))])
 .ret)
 .skip))
 (.seq (.draw [
 oo 27 (.move (.tmp 0)),
 oo 28 (.move (.tmp 5)),
 oo 29 (.sliceSl 32 (.tmp 27) (some (.tmp 28)) none none),
 oo 30 (.move (.tmp 1)),
 oo 31 (.move (.tmp 5)),
 oo 32 (.bin .sub (.tmp 30) (.tmp 31)),
 oo 34 (.move (.tmp 0)),
 oo 35 (.move (.tmp 5)),
 ⟨(some 36), none, .sliceSl 32 (.tmp 34) none (some (.tmp 35)) none, [11]⟩,
 oo 33 (.call 69 [(.tmp 29), (.tmp 32)]),
 oo 37 (.call 68 [(.tmp 36)]),
 oo 38 (.buildSlice 30 [(.int .u8 0), (.int .u8 0), (.int .u8 0), (.int .u8 0), (.int .u8 0), (.int .u8 0), (.int .u8 0), (.int .u8 0), (.int .u8 0), (.int .u8 0), (.int .u8 0), (.int .u8 0), (.int .u8 0), (.int .u8 0), (.int .u8 0), (.int .u8 0), (.int .u8 0), (.int .u8 0), (.int .u8 0), (.int .u8 0), (.int .u8 0), (.int .u8 0), (.int .u8 0), (.int .u8 0), (.int .u8 0), (.int .u8 0), (.int .u8 0), (.int .u8 0), (.int .u8 0), (.int .u8 0), (.int .u8 0), (.int .u8 0)] 1 [(0, 32, (.tmp 37))]),
 oo 39 (.append 30 32 32 (.tmp 33) (.tmp 38)),
 oo 4 (.move (.tmp 39))])
 .ret)))))
def r69 : List ARes := [.tmp 4]
def a69 : AFn := ⟨b69, r69, 0⟩
def b30 : ACode := (.seq (.ops [
 oo 6 (.move (.cst (.slice none 0 0))),
 oo 7 (.move (.cst (.int .i64 0)))])
 (.seq (.ops [
 oo 11 (.move (.tmp 0)),
 oo 12 (.move (.tmp 2)),
 oo 13 (.call 67 [(.tmp 11), (.tmp 12)]),
 oo 10 (.move (.tmp 13)),
 oo 14 (.extract 0 (.tmp 10)),
 oo 15 (.extract 1 (.tmp 10)),
 oo 8 (.move (.tmp 14)),
 oo 9 (.move (.tmp 15))])
 (.seq (.seq (.ops [
 oo 16 (.move (.tmp 9)),
 oo 17 (.un .not (.tmp 16)),
 oo 18 (.move (.tmp 17)),
 og 19 18 false (.move (.tmp 1)),
 og 20 18 false (.move (.tmp 2)),
 og 21 18 false (.bin .gtr (.tmp 19) (.tmp 20)),
 oo 22 (.pick (.tmp 18) (.cst (.bool true)) (.tmp 21))])
 (.cond (.tmp 22)
 (.seq (.ops [
 oo 6 (.move (.cst (.slice none 0 0))),
 oo 7 (.move (.cst (.int .i64 230)))])
 .ret)
 .skip))
 (.seq (.seq (.ops [
 oo 23 (.move (.tmp 1)),
 oo 24 (.bin .eql (.tmp 23) (.cst (.int .u64 0)))])
 (.cond (.tmp 24)
 (.seq (.ops [
 oo 6 (.move (.cst (.slice none 0 0))),
 oo 7 (.move (.cst (.int .i64 0)))])
 .ret)
 .skip))
 (.seq (.ops [
 oo 25 (.move (.tmp 8)),
 oo 26 (.move (.tmp 1)),
 oo 27 (.call 72 [(.tmp 25), (.tmp 26), (.cst (.bool true))]),
 oo 6 (.move (.tmp 27)),
 oo 7 (.move (.cst (.int .i64 0)))])
 .ret)))))
def r30 : List ARes := [.tmp 6, .tmp 7]
def a30 : AFn := ⟨b30, r30, 0⟩
def b72 : ACode := (.seq (.ops [
 oo 6 (.move (.cst (.slice none 0 0)))])
 (.seq (.ops [
 oo 9 (.move (.tmp 0)),
 oo 10 (.len (.tmp 9)),
 oo 11 (.convInt .u64 (.tmp 10)),
 oo 7 (.move (.tmp 11))])
 (.seq (.block 0 (.seq (.ops [
 oo 13 (.move (.tmp 1)),
 oo 14 (.move (.tmp 7)),
 oo 15 (.bin .eql (.tmp 13) (.tmp 14)),
 oo 16 (.move (.tmp 15)),
 og 17 16 true (.move (.tmp 2)),
 oo 18 (.pick (.tmp 16) (.tmp 17) (.cst (.bool false))),
 oo 12 (.move (.tmp 18))])
 (.cond (.tmp 12)
 (.seq (.ops [
 oo 6 (.move (.cst (.slice none 0 0)))])
 .ret)
 (.seq (.ops [
 oo 20 (.move (.tmp 1)),
 oo 21 (.move (.tmp 7)),
 oo 22 (.bin .eql (.tmp 20) (.tmp 21)),
 oo 19 (.move (.tmp 22))])
 (.cond (.tmp 19)
 (.seq (.ops [
 oo 23 (.move (.tmp 0)),
 oo 24 (.call 68 [(.tmp 23)]),
 oo 25 (.buildSlice 30 [(.int .u8 0), (.int .u8 0), (.int .u8 0), (.int .u8 0), (.int .u8 0), (.int .u8 0), (.int .u8 0), (.int .u8 0), (.int .u8 0), (.int .u8 0), (.int .u8 0), (.int .u8 0), (.int .u8 0), (.int .u8 0), (.int .u8 0), (.int .u8 0), (.int .u8 0), (.int .u8 0), (.int .u8 0), (.int .u8 0), (.int .u8 0), (.int .u8 0), (.int .u8 0), (.int .u8 0), (.int .u8 0), (.int .u8 0), (.int .u8 0), (.int .u8 0), (.int .u8 0), (.int .u8 0), (.int .u8 0), (.int .u8 0)] 1 [(0, 32, (.tmp 24))]),
 oo 6 (.move (.tmp 25))])
 .ret)
 .skip)))))
 (.seq (.ops [
 oo 26 (.move (.tmp 7)),
 oo 27 (.call 56 [(.tmp 26)]),
 oo 8 (.move (.tmp 27))])
 (.seq (.seq (.ops [
 oo 28 (.move (.tmp 1)),
 oo 29 (.move (.tmp 8)),
 oo 30 (.bin .leq (.tmp 28) (.tmp 29))])
 (.cond (.tmp 30)
 (.seq (.draw [
 oo 31 (.move (.tmp 0)),
 oo 32 (.move (.tmp 8)),
 oo 33 (.sliceSl 32 (.tmp 31) none (some (.tmp 32)) none),
 oo 34 (.move (.tmp 1)),
 oo 35 (.move (.tmp 2)),
 oo 37 (.move (.tmp 0)),
 oo 38 (.move (.tmp 8)),
 ⟨(some 39), none, .sliceSl 32 (.tmp 37) (some (.tmp 38)) none none, [10]⟩,
 oo 36 (.call 72 [(.tmp 33), (.tmp 34), (.tmp 35)]),
 oo 40 (.call 68 [(.tmp 39)]),
 oo 41 (.buildSlice 30 [(.int .u8 0), (.int .u8 0), (.int .u8 0), (.int .u8 0), (.int .u8 0), (.int .u8 0), (.int .u8 0), (.int .u8 0), (.int .u8 0), (.int .u8 0), (.int .u8 0), (.int .u8 0), (.int .u8 0), (.int .u8 0), (.int .u8 0), (.int .u8 0), (.int .u8 0), (.int .u8 0), (.int .u8 0), (.int .u8 0), (.int .u8 0), (.int .u8 0), (.int .u8 0), (.int .u8 0), (.int .u8 0), (.int .u8 0), (.int .u8 0), (.int .u8 0), (.int .u8 0), (.int .u8 0), (.int .u8 0), (.int .u8 0)] 1 [(0, 32, (.tmp 40))]),
 oo 42 (.append 30 32 32 (.tmp 36) (.tmp 41)),
 oo 6 (.move (.tmp 42))])
 .ret)
 .skip))
 (.seq (.draw [
 oo 43 (.move (.tmp 0)),
 oo 44 (.move (.tmp 8)),
 oo 45 (.sliceSl 32 (.tmp 43) (some (.tmp 44)) none none),
 oo 46 (.move (.tmp 1)),
 oo 47 (.move (.tmp 8)),
 oo 48 (.bin .sub (.tmp 46) (.tmp 47)),
 oo 50 (.move (.tmp 0)),
 oo 51 (.move (.tmp 8)),
 ⟨(some 52), none, .sliceSl 32 (.tmp 50) none (some (.tmp 51)) none, [11]⟩,
 oo 49 (.call 72 [(.tmp 45), (.tmp 48), (.cst (.bool false))]),
 oo 53 (.call 68 [(.tmp 52)]),
 oo 54 (.buildSlice 30 [(.int .u8 0), (.int .u8 0), (.int .u8 0), (.int .u8 0), (.int .u8 0), (.int .u8 0), (.int .u8 0), (.int .u8 0), (.int .u8 0), (.int .u8 0), (.int .u8 0), (.int .u8 0), (.int .u8 0), (.int .u8 0), (.int .u8 0), (.int .u8 0), (.int .u8 0), (.int .u8 0), (.int .u8 0), (.int .u8 0), (.int .u8 0), (.int .u8 0), (.int .u8 0), (.int .u8 0), (.int .u8 0), (.int .u8 0), (.int .u8 0), (.int .u8 0), (.int .u8 0), (.int .u8 0), (.int .u8 0), (.int .u8 0)] 1 [(0, 32, (.tmp 53))]),
 oo 55 (.append 30 32 32 (.tmp 49) (.tmp 54)),
 oo 6 (.move (.tmp 55))])
 .ret))))))
def r72 : List ARes := [.tmp 6]
def a72 : AFn := ⟨b72, r72, 0⟩
def b56 : ACode := (.seq (.ops [
 oo 2 (.move (.cst (.int .u64 0)))])
 (.seq (.ops [
 oo 3 (.move (.tmp 0)),
 oo 4 (.bin .sub (.tmp 3) (.cst (.int .u64 1))),
 oo 5 (.call 106 [(.tmp 4)]),
 oo 6 (.bin .sub (.tmp 5) (.cst (.int .i64 1))),
 oo 7 (.bin .shl (.cst (.int .u64 1)) (.tmp 6)),
 oo 2 (.move (.tmp 7))])
 .ret))
def r56 : List ARes := [.tmp 2]
def a56 : AFn := ⟨b56, r56, 3⟩
def b106 : ACode := (.seq (.ops [
 oo 2 (.move (.cst (.int .i64 0)))])
 (.seq (.seq (.ops [
 oo 3 (.move (.tmp 0)),
 oo 4 (.bin .geq (.tmp 3) (.cst (.int .u64 4294967296)))])
 (.cond (.tmp 4)
 (.seq (.ops [
 oo 5 (.move (.tmp 0)),
 oo 6 (.bin .shr (.tmp 5) (.cst (.int .u64 32))),
 oo 0 (.move (.tmp 6))])
 (.ops [
 oo 2 (.move (.cst (.int .i64 32)))]))
 .skip))
 (.seq (.seq (.ops [
 oo 7 (.move (.tmp 0)),
 oo 8 (.bin .geq (.tmp 7) (.cst (.int .u64 65536)))])
 (.cond (.tmp 8)
 (.seq (.ops [
 oo 9 (.move (.tmp 0)),
 oo 10 (.bin .shr (.tmp 9) (.cst (.int .u64 16))),
 oo 0 (.move (.tmp 10))])
 (.ops [
 oo 11 (.move (.tmp 2)),
 oo 12 (.bin .add (.tmp 11) (.cst (.int .i64 16))),
 oo 2 (.move (.tmp 12))]))
 .skip))
 (.seq (.seq (.ops [
 oo 13 (.move (.tmp 0)),
 oo 14 (.bin .geq (.tmp 13) (.cst (.int .u64 256)))])
 (.cond (.tmp 14)
 (.seq (.ops [
 oo 15 (.move (.tmp 0)),
 oo 16 (.bin .shr (.tmp 15) (.cst (.int .u64 8))),
 oo 0 (.move (.tmp 16))])
 (.ops [
 oo 17 (.move (.tmp 2)),
 oo 18 (.bin .add (.tmp 17) (.cst (.int .i64 8))),
 oo 2 (.move (.tmp 18))]))
 .skip))
 (.seq (.ops [
 oo 19 (.move (.tmp 2)),
 oo 20 (.move (.tmp 0)),
 oo 21 (.convInt .u8 (.tmp 20)),
 oo 22 (.idxStr (.cst (.string ⟨⟨[0, 1, 2, 2, 3, 3, 3, 3, 4, 4, 4, 4, 4, 4, 4, 4, 5, 5, 5, 5, 5, 5, 5, 5, 5, 5, 5, 5, 5, 5, 5, 5, 6, 6, 6, 6, 6, 6, 6, 6, 6, 6, 6, 6, 6, 6, 6, 6, 6, 6, 6, 6, 6, 6, 6, 6, 6, 6, 6, 6, 6, 6, 6, 6, 7, 7, 7, 7, 7, 7, 7, 7, 7, 7, 7, 7, 7, 7, 7, 7, 7, 7, 7, 7, 7, 7, 7, 7, 7, 7, 7, 7, 7, 7, 7, 7, 7, 7, 7, 7, 7, 7, 7, 7, 7, 7, 7, 7, 7, 7, 7, 7, 7, 7, 7, 7, 7, 7, 7, 7, 7, 7, 7, 7, 7, 7, 7, 7, 8, 8, 8, 8, 8, 8, 8, 8, 8, 8, 8, 8, 8, 8, 8, 8, 8, 8, 8, 8, 8, 8, 8, 8, 8, 8, 8, 8, 8, 8, 8, 8, 8, 8, 8, 8, 8, 8, 8, 8, 8, 8, 8, 8, 8, 8, 8, 8, 8, 8, 8, 8, 8, 8, 8, 8, 8, 8, 8, 8, 8, 8, 8, 8, 8, 8, 8, 8, 8, 8, 8, 8, 8, 8, 8, 8, 8, 8, 8, 8, 8, 8, 8, 8, 8, 8, 8, 8, 8, 8, 8, 8, 8, 8, 8, 8, 8, 8, 8, 8, 8, 8, 8, 8, 8, 8, 8, 8, 8, 8, 8, 8, 8, 8, 8, 8, 8, 8, 8, 8, 8, 8, 8, 8, 8, 8, 8, 8]⟩⟩)) (.tmp 21)),
 oo 23 (.convInt .i64 (.tmp 22)),
 oo 24 (.bin .add (.tmp 19) (.tmp 23)),
 oo 2 (.move (.tmp 24))])
 .ret)))))
def r106 : List ARes := [.tmp 2]
def a106 : AFn := ⟨b106, r106, 3⟩
def lp12_0 : ACode := (.seq (.ops [
 oo 28 (.bin .lss (.tmp 27) (.tmp 26))])
 (.seq (.cond (.tmp 28)
 .skip
 (.exit 0))
 (.seq (.block 1 (.seq (.ops [
 oo 29 (.move (.tmp 27)),
 oo 30 (.idxAddrSl 1 (.tmp 25) (.tmp 27)),
 oo 31 (.load1 (.tmp 30)),
 oo 10 (.move (.tmp 29)),
 oo 11 (.move (.tmp 31))])
 (.seq (.ops [
 oo 32 (.move (.tmp 11))])
 (.cond (.tmp 32)
 (.draw [
 oo 33 (.move (.tmp 3)),
 oo 34 (.move (.tmp 10)),
 oo 35 (.idxAddrSl 32 (.tmp 33) (.tmp 34)),
 oo 36 (.loadN 32 (.tmp 35)),
 oo 37 (.loadN 32 (.tmp 6)),
 oo 38 (.call 17 [(.tmp 36), (.tmp 37)]),
 ⟨none, none, .storeN 32 (.tmp 6) (.tmp 38), []⟩])
 (.draw [
 oo 39 (.loadN 32 (.tmp 6)),
 oo 40 (.move (.tmp 3)),
 oo 41 (.move (.tmp 10)),
 oo 42 (.idxAddrSl 32 (.tmp 40) (.tmp 41)),
 oo 43 (.loadN 32 (.tmp 42)),
 oo 44 (.call 17 [(.tmp 39), (.tmp 43)]),
 ⟨none, none, .storeN 32 (.tmp 6) (.tmp 44), []⟩])))))
 (.ops [
 oo 45 (.bin .add (.tmp 27) (.cst (.int .i64 1))),
 oo 27 (.move (.tmp 45))]))))
def k12_0 : ACode := (.seq (.seq (.ops [
 oo 46 (.loadN 32 (.tmp 6)),
 oo 47 (.fieldAddr 1 (.tmp 4)),
 oo 48 (.loadN 32 (.tmp 47)),
 oo 49 (.eq true (.flat [.i, .i, .i, .i, .i, .i, .i, .i, .i, .i, .i, .i, .i, .i, .i, .i, .i, .i, .i, .i, .i, .i, .i, .i, .i, .i, .i, .i, .i, .i, .i, .i]) (.tmp 46) (.tmp 48))])
 (.cond (.tmp 49)
 (.seq (.ops [
 oo 8 (.move (.cst (.int .i64 236)))])
 .ret)
 .skip))
 (.seq (.ops [
 oo 8 (.move (.cst (.int .i64 0)))])
 .ret))
def b12 : ACode := (.seq (.ops [
 oo 4 (.box 35 (.tmp 0)),
 oo 6 (.box 30 (.tmp 2)),
 oo 8 (.move (.cst (.int .i64 0)))])
 (.seq (.seq (.ops [
 oo 12 (.move (.tmp 1)),
 oo 13 (.fieldAddr 0 (.tmp 4)),
 oo 14 (.load1 (.tmp 13)),
 oo 15 (.bin .geq (.tmp 12) (.tmp 14))])
 (.cond (.tmp 15)
 (.seq (.ops [
 oo 8 (.move (.cst (.int .i64 230)))])
 .ret)
 .skip))
 (.seq (.ops [
 oo 16 (.move (.tmp 1)),
 oo 17 (.fieldAddr 0 (.tmp 4)),
 oo 18 (.load1 (.tmp 17)),
 oo 19 (.call 53 [(.tmp 16), (.tmp 18)]),
 oo 9 (.move (.tmp 19))])
 (.seq (.seq (.ops [
 oo 20 (.move (.tmp 9)),
 oo 21 (.len (.tmp 20)),
 oo 22 (.move (.tmp 3)),
 oo 23 (.len (.tmp 22)),
 oo 24 (.bin .neq (.tmp 21) (.tmp 23))])
 (.cond (.tmp 24)
 (.seq (.ops [
 oo 8 (.move (.cst (.int .i64 235)))])
 .ret)
 .skip))
 (.seq (.seq (.ops [
 oo 25 (.move (.tmp 9)),
 oo 26 (.len (.tmp 25)),
 oo 27 (.move (.cst (.int .i64 0)))])
 (.block 0 (.loop lp12_0)))
 k12_0)))))
def r12 : List ARes := [.tmp 8]
def a12 : AFn := ⟨b12, r12, 2⟩
def lp53_0 : ACode := (.seq (.seq (.ops [
 oo 8 (.move (.tmp 1)),
 oo 9 (.bin .gtr (.tmp 8) (.cst (.int .u64 1)))])
 (.cond (.tmp 9)
 .skip
 (.exit 0)))
 (.block 1 (.seq (.ops [
 oo 10 (.move (.tmp 1)),
 oo 11 (.call 56 [(.tmp 10)]),
 oo 6 (.move (.tmp 11))])
 (.seq (.ops [
 oo 12 (.move (.tmp 0)),
 oo 13 (.move (.tmp 6)),
 oo 14 (.bin .lss (.tmp 12) (.tmp 13))])
 (.cond (.tmp 14)
 (.seq (.ops [
 oo 15 (.move (.tmp 6)),
 oo 1 (.move (.tmp 15))])
 (.ops [
 oo 16 (.move (.tmp 5)),
 oo 17 (.buildSlice 4 [(.bool false)] 1 [(0, 1, (.cst (.bool false)))]),
 oo 18 (.append 4 1 1 (.tmp 16) (.tmp 17)),
 oo 5 (.move (.tmp 18))]))
 (.seq (.ops [
 oo 19 (.move (.tmp 0)),
 oo 20 (.move (.tmp 6)),
 oo 21 (.bin .sub (.tmp 19) (.tmp 20)),
 oo 22 (.move (.tmp 1)),
 oo 23 (.move (.tmp 6)),
 oo 24 (.bin .sub (.tmp 22) (.tmp 23)),
 oo 0 (.move (.tmp 21)),
 oo 1 (.move (.tmp 24))])
 (.ops [
 oo 25 (.move (.tmp 5)),
 oo 26 (.buildSlice 4 [(.bool false)] 1 [(0, 1, (.cst (.bool true)))]),
 oo 27 (.append 4 1 1 (.tmp 25) (.tmp 26)),
 oo 5 (.move (.tmp 27))])))))))
def lp53_1 : ACode := (.seq (.ops [
 oo 32 (.bin .lss (.tmp 31) (.tmp 30))])
 (.seq (.cond (.tmp 32)
 .skip
 (.exit 2))
 (.seq (.block 3 (.seq (.ops [
 oo 33 (.move (.tmp 31)),
 oo 7 (.move (.tmp 33))])
 (.draw [
 oo 34 (.move (.tmp 5)),
 oo 35 (.move (.tmp 7)),
 oo 36 (.move (.tmp 5)),
 oo 37 (.move (.tmp 5)),
 oo 38 (.len (.tmp 37)),
 oo 39 (.bin .sub (.tmp 38) (.cst (.int .i64 1))),
 oo 40 (.move (.tmp 7)),
 oo 41 (.bin .sub (.tmp 39) (.tmp 40)),
 oo 42 (.move (.tmp 5)),
 oo 43 (.move (.tmp 5)),
 oo 44 (.len (.tmp 43)),
 oo 45 (.bin .sub (.tmp 44) (.cst (.int .i64 1))),
 oo 46 (.move (.tmp 7)),
 oo 47 (.bin .sub (.tmp 45) (.tmp 46)),
 oo 48 (.idxAddrSl 1 (.tmp 42) (.tmp 47)),
 oo 49 (.load1 (.tmp 48)),
 oo 50 (.move (.tmp 5)),
 oo 51 (.move (.tmp 7)),
 oo 52 (.idxAddrSl 1 (.tmp 50) (.tmp 51)),
 oo 53 (.load1 (.tmp 52)),
 oo 54 (.idxAddrSl 1 (.tmp 34) (.tmp 35)),
 ⟨none, none, .store1 (.tmp 54) (.tmp 49), []⟩,
 oo 55 (.idxAddrSl 1 (.tmp 36) (.tmp 41)),
 ⟨none, none, .store1 (.tmp 55) (.tmp 53), []⟩])))
 (.ops [
 oo 56 (.bin .add (.tmp 31) (.cst (.int .i64 1))),
 oo 31 (.move (.tmp 56))]))))
def k53_0 : ACode := (.seq (.ops [
 oo 57 (.move (.tmp 5)),
 oo 4 (.move (.tmp 57))])
 .ret)
def k53_1 : ACode := (.seq (.seq (.ops [
 oo 28 (.move (.tmp 5)),
 oo 29 (.len (.tmp 28)),
 oo 30 (.bin .quo (.tmp 29) (.cst (.int .i64 2))),
 oo 31 (.move (.cst (.int .i64 0)))])
 (.block 2 (.loop lp53_1)))
 k53_0)
def b53 : ACode := (.seq (.ops [
 oo 4 (.move (.cst (.slice none 0 0)))])
 (.seq (.ops [
 oo 5 (.move (.cst (.slice none 0 0)))])
 (.seq (.block 0 (.loop lp53_0))
 k53_1)))
def r53 : List ARes := [.tmp 4]
def a53 : AFn := ⟨b53, r53, 0⟩
def lp14_0 : ACode := (.seq (.seq (.ops [
 oo 28 (.move (.tmp 8)),
 oo 29 (.bin .gtr (.tmp 28) (.cst (.int .u64 0))),
 oo 30 (.move (.tmp 29)),
 og 31 30 true (.move (.tmp 8)),
 og 32 30 true (.move (.tmp 9)),
 og 33 30 true (.bin .lss (.tmp 31) (.tmp 32)),
 oo 34 (.pick (.tmp 30) (.tmp 33) (.cst (.bool false)))])
 (.cond (.tmp 34)
 .skip
 (.exit 0)))
 (.block 1 (.seq (.ops [
 oo 35 (.move (.tmp 9)),
 oo 36 (.call 56 [(.tmp 35)]),
 oo 10 (.move (.tmp 36))])
 (.seq (.ops [
 oo 37 (.move (.tmp 7)),
 oo 38 (.move (.tmp 8)),
 oo 39 (.move (.tmp 10)),
 oo 40 (.bin .gtr (.tmp 38) (.tmp 39)),
 oo 41 (.buildSlice 4 [(.bool false)] 1 [(0, 1, (.tmp 40))]),
 oo 42 (.append 4 1 1 (.tmp 37) (.tmp 41)),
 oo 7 (.move (.tmp 42))])
 (.seq (.ops [
 oo 43 (.move (.tmp 8)),
 oo 44 (.move (.tmp 10)),
 oo 45 (.bin .gtr (.tmp 43) (.tmp 44))])
 (.cond (.tmp 45)
 (.ops [
 oo 46 (.move (.tmp 8)),
 oo 47 (.move (.tmp 10)),
 oo 48 (.bin .sub (.tmp 46) (.tmp 47)),
 oo 49 (.move (.tmp 9)),
 oo 50 (.move (.tmp 10)),
 oo 51 (.bin .sub (.tmp 49) (.tmp 50)),
 oo 8 (.move (.tmp 48)),
 oo 9 (.move (.tmp 51))])
 (.ops [
 oo 52 (.move (.tmp 10)),
 oo 9 (.move (.tmp 52))])))))))
def lp14_1 : ACode := (.seq (.ops [
 oo 56 (.bin .lss (.tmp 55) (.tmp 54))])
 (.seq (.cond (.tmp 56)
 .skip
 (.exit 2))
 (.seq (.block 3 (.seq (.ops [
 oo 57 (.idxAddrSl 1 (.tmp 53) (.tmp 55)),
 oo 58 (.load1 (.tmp 57)),
 oo 13 (.move (.tmp 58))])
 (.seq (.ops [
 oo 59 (.move (.tmp 13))])
 (.cond (.tmp 59)
 (.ops [
 oo 11 (.move (.cst (.int .i64 1)))])
 .skip))))
 (.ops [
 oo 60 (.bin .add (.tmp 55) (.cst (.int .i64 1))),
 oo 55 (.move (.tmp 60))]))))
def lp14_2 : ACode := (.seq (.seq (.ops [
 oo 98 (.move (.tmp 17)),
 oo 99 (.bin .geq (.tmp 98) (.cst (.int .i64 0)))])
 (.cond (.tmp 99)
 .skip
 (.exit 4)))
 (.seq (.block 5 (.seq (.ops [
 oo 102 (.move (.tmp 2)),
 oo 103 (.move (.tmp 11)),
 oo 104 (.move (.tmp 7)),
 oo 105 (.len (.tmp 104)),
 oo 106 (.bin .add (.tmp 103) (.tmp 105)),
 oo 107 (.bin .sub (.tmp 106) (.cst (.int .i64 1))),
 oo 108 (.move (.tmp 17)),
 oo 109 (.bin .sub (.tmp 107) (.tmp 108)),
 oo 110 (.idxAddrSl 32 (.tmp 102) (.tmp 109)),
 oo 111 (.loadN 32 (.tmp 110)),
 oo 18 (.box 30 (.cst (.agg ⟨[(.int .u8 0), (.int .u8 0), (.int .u8 0), (.int .u8 0), (.int .u8 0), (.int .u8 0), (.int .u8 0), (.int .u8 0), (.int .u8 0), (.int .u8 0), (.int .u8 0), (.int .u8 0), (.int .u8 0), (.int .u8 0), (.int .u8 0), (.int .u8 0), (.int .u8 0), (.int .u8 0), (.int .u8 0), (.int .u8 0), (.int .u8 0), (.int .u8 0), (.int .u8 0), (.int .u8 0), (.int .u8 0), (.int .u8 0), (.int .u8 0), (.int .u8 0), (.int .u8 0), (.int .u8 0), (.int .u8 0), (.int .u8 0)]⟩))),
 ⟨none, none, .storeN 32 (.tmp 18) (.tmp 111), []⟩])
 (.seq (.ops [
 oo 112 (.move (.tmp 7)),
 oo 113 (.move (.tmp 17)),
 oo 114 (.idxAddrSl 1 (.tmp 112) (.tmp 113)),
 oo 115 (.load1 (.tmp 114))])
 (.cond (.tmp 115)
 (.draw [
 oo 116 (.loadN 32 (.tmp 18)),
 oo 117 (.loadN 32 (.tmp 15)),
 oo 118 (.call 17 [(.tmp 116), (.tmp 117)]),
 oo 119 (.loadN 32 (.tmp 18)),
 oo 120 (.loadN 32 (.tmp 16)),
 oo 121 (.call 17 [(.tmp 119), (.tmp 120)]),
 ⟨none, none, .storeN 32 (.tmp 15) (.tmp 118), []⟩,
 ⟨none, none, .storeN 32 (.tmp 16) (.tmp 121), []⟩])
 (.ops [
 oo 122 (.loadN 32 (.tmp 16)),
 oo 123 (.loadN 32 (.tmp 18)),
 oo 124 (.call 17 [(.tmp 122), (.tmp 123)]),
 ⟨none, none, .storeN 32 (.tmp 16) (.tmp 124), []⟩])))))
 (.ops [
 oo 100 (.move (.tmp 17)),
 oo 101 (.bin .sub (.tmp 100) (.cst (.int .i64 1))),
 oo 17 (.move (.tmp 101))])))
def k14_0 : ACode := (.seq (.seq (.ops [
 oo 125 (.loadN 32 (.tmp 15)),
 oo 126 (.fieldAddr 1 (.tmp 3)),
 oo 127 (.loadN 32 (.tmp 126)),
 oo 128 (.eq true (.flat [.i, .i, .i, .i, .i, .i, .i, .i, .i, .i, .i, .i, .i, .i, .i, .i, .i, .i, .i, .i, .i, .i, .i, .i, .i, .i, .i, .i, .i, .i, .i, .i]) (.tmp 125) (.tmp 127)),
 oo 129 (.move (.tmp 128)),
 og 130 129 false (.loadN 32 (.tmp 16)),
 og 131 129 false (.fieldAddr 1 (.tmp 4)),
 og 132 129 false (.loadN 32 (.tmp 131)),
 og 133 129 false (.eq true (.flat [.i, .i, .i, .i, .i, .i, .i, .i, .i, .i, .i, .i, .i, .i, .i, .i, .i, .i, .i, .i, .i, .i, .i, .i, .i, .i, .i, .i, .i, .i, .i, .i]) (.tmp 130) (.tmp 132)),
 oo 134 (.pick (.tmp 129) (.cst (.bool true)) (.tmp 133))])
 (.cond (.tmp 134)
 (.seq (.ops [
 oo 6 (.move (.cst (.int .i64 236)))])
 .ret)
 .skip))
 (.seq (.ops [
 oo 6 (.move (.cst (.int .i64 0)))])
 .ret))
def k14_1 : ACode := (.seq (.seq (.ops [
 oo 61 (.move (.tmp 2)),
 oo 62 (.len (.tmp 61)),
 oo 63 (.move (.tmp 11)),
 oo 64 (.move (.tmp 7)),
 oo 65 (.len (.tmp 64)),
 oo 66 (.bin .add (.tmp 63) (.tmp 65)),
 oo 67 (.bin .neq (.tmp 62) (.tmp 66))])
 (.cond (.tmp 67)
 (.seq (.ops [
 oo 6 (.move (.cst (.int .i64 235)))])
 .ret)
 .skip))
 (.seq (.ops [
 oo 68 (.call 57 [(.cst (.slice none 0 0))]),
 oo 14 (.box 30 (.cst (.agg ⟨[(.int .u8 0), (.int .u8 0), (.int .u8 0), (.int .u8 0), (.int .u8 0), (.int .u8 0), (.int .u8 0), (.int .u8 0), (.int .u8 0), (.int .u8 0), (.int .u8 0), (.int .u8 0), (.int .u8 0), (.int .u8 0), (.int .u8 0), (.int .u8 0), (.int .u8 0), (.int .u8 0), (.int .u8 0), (.int .u8 0), (.int .u8 0), (.int .u8 0), (.int .u8 0), (.int .u8 0), (.int .u8 0), (.int .u8 0), (.int .u8 0), (.int .u8 0), (.int .u8 0), (.int .u8 0), (.int .u8 0), (.int .u8 0)]⟩))),
 ⟨none, none, .storeN 32 (.tmp 14) (.tmp 68), []⟩])
 (.seq (.seq (.ops [
 oo 69 (.fieldAddr 0 (.tmp 3)),
 oo 70 (.load1 (.tmp 69)),
 oo 71 (.bin .eql (.tmp 70) (.cst (.int .u64 0)))])
 (.cond (.tmp 71)
 (.seq (.seq (.ops [
 oo 72 (.fieldAddr 1 (.tmp 3)),
 oo 73 (.loadN 32 (.tmp 72)),
 oo 74 (.loadN 32 (.tmp 14)),
 oo 75 (.eq true (.flat [.i, .i, .i, .i, .i, .i, .i, .i, .i, .i, .i, .i, .i, .i, .i, .i, .i, .i, .i, .i, .i, .i, .i, .i, .i, .i, .i, .i, .i, .i, .i, .i]) (.tmp 73) (.tmp 74)),
 oo 76 (.move (.tmp 75)),
 og 77 76 false (.fieldAddr 0 (.tmp 4)),
 og 78 76 false (.load1 (.tmp 77)),
 og 79 76 false (.bin .eql (.tmp 78) (.cst (.int .u64 0))),
 og 80 76 false (.move (.tmp 79)),
 og 81 80 true (.fieldAddr 1 (.tmp 4)),
 og 82 80 true (.loadN 32 (.tmp 81)),
 og 83 80 true (.loadN 32 (.tmp 14)),
 og 84 80 true (.eq true (.flat [.i, .i, .i, .i, .i, .i, .i, .i, .i, .i, .i, .i, .i, .i, .i, .i, .i, .i, .i, .i, .i, .i, .i, .i, .i, .i, .i, .i, .i, .i, .i, .i]) (.tmp 82) (.tmp 83)),
 og 85 76 false (.pick (.tmp 80) (.tmp 84) (.cst (.bool false))),
 oo 86 (.pick (.tmp 76) (.cst (.bool true)) (.tmp 85))])
 (.cond (.tmp 86)
 (.seq (.ops [
 oo 6 (.move (.cst (.int .i64 236)))])
 .ret)
 .skip))
 (.seq (.ops [
 oo 6 (.move (.cst (.int .i64 0)))])
 .ret))
 .skip))
 (.seq (.ops [
 oo 87 (.fieldAddr 1 (.tmp 3)),
 oo 88 (.loadN 32 (.tmp 87)),
 oo 15 (.box 30 (.cst (.agg ⟨[(.int .u8 0), (.int .u8 0), (.int .u8 0), (.int .u8 0), (.int .u8 0), (.int .u8 0), (.int .u8 0), (.int .u8 0), (.int .u8 0), (.int .u8 0), (.int .u8 0), (.int .u8 0), (.int .u8 0), (.int .u8 0), (.int .u8 0), (.int .u8 0), (.int .u8 0), (.int .u8 0), (.int .u8 0), (.int .u8 0), (.int .u8 0), (.int .u8 0), (.int .u8 0), (.int .u8 0), (.int .u8 0), (.int .u8 0), (.int .u8 0), (.int .u8 0), (.int .u8 0), (.int .u8 0), (.int .u8 0), (.int .u8 0)]⟩))),
 ⟨none, none, .storeN 32 (.tmp 15) (.tmp 88), []⟩])
 (.seq (.seq (.ops [
 oo 89 (.move (.tmp 11)),
 oo 90 (.bin .eql (.tmp 89) (.cst (.int .i64 1)))])
 (.cond (.tmp 90)
 (.ops [
 oo 91 (.move (.tmp 2)),
 oo 92 (.idxAddrSl 32 (.tmp 91) (.cst (.int .i64 0))),
 oo 93 (.loadN 32 (.tmp 92)),
 ⟨none, none, .storeN 32 (.tmp 15) (.tmp 93), []⟩])
 .skip))
 (.seq (.ops [
 oo 94 (.loadN 32 (.tmp 15)),
 oo 16 (.box 30 (.cst (.agg ⟨[(.int .u8 0), (.int .u8 0), (.int .u8 0), (.int .u8 0), (.int .u8 0), (.int .u8 0), (.int .u8 0), (.int .u8 0), (.int .u8 0), (.int .u8 0), (.int .u8 0), (.int .u8 0), (.int .u8 0), (.int .u8 0), (.int .u8 0), (.int .u8 0), (.int .u8 0), (.int .u8 0), (.int .u8 0), (.int .u8 0), (.int .u8 0), (.int .u8 0), (.int .u8 0), (.int .u8 0), (.int .u8 0), (.int .u8 0), (.int .u8 0), (.int .u8 0), (.int .u8 0), (.int .u8 0), (.int .u8 0), (.int .u8 0)]⟩))),
 ⟨none, none, .storeN 32 (.tmp 16) (.tmp 94), []⟩])
 (.seq (.seq (.ops [
 oo 95 (.move (.tmp 7)),
 oo 96 (.len (.tmp 95)),
 oo 97 (.bin .sub (.tmp 96) (.cst (.int .i64 1))),
 oo 17 (.move (.tmp 97))])
 (.block 4 (.loop lp14_2)))
 k14_0)))))))
def k14_2 : ACode := (.seq (.ops [
 oo 11 (.move (.cst (.int .i64 0)))])
 (.seq (.seq (.ops [
 oo 53 (.move (.tmp 7)),
 oo 54 (.len (.tmp 53)),
 oo 55 (.move (.cst (.int .i64 0)))])
 (.block 2 (.loop lp14_1)))
 k14_1))
def b14 : ACode := (.seq (.ops [
 oo 3 (.box 35 (.tmp 0)),
 oo 4 (.box 35 (.tmp 1)),
 oo 6 (.move (.cst (.int .i64 0)))])
 (.seq (.seq (.ops [
 oo 19 (.fieldAddr 0 (.tmp 3)),
 oo 20 (.load1 (.tmp 19)),
 oo 21 (.fieldAddr 0 (.tmp 4)),
 oo 22 (.load1 (.tmp 21)),
 oo 23 (.bin .gtr (.tmp 20) (.tmp 22))])
 (.cond (.tmp 23)
 (.seq (.ops [
 oo 6 (.move (.cst (.int .i64 230)))])
 .ret)
 .skip))
 (.seq (.ops [
 oo 7 (.move (.cst (.slice none 0 0)))])
 (.seq (.draw [
 oo 24 (.fieldAddr 0 (.tmp 3)),
 oo 25 (.load1 (.tmp 24)),
 oo 26 (.fieldAddr 0 (.tmp 4)),
 oo 27 (.load1 (.tmp 26)),
 oo 8 (.move (.tmp 25)),
 oo 9 (.move (.tmp 27))])
 (.seq (.block 0 (.loop lp14_0))
 k14_2)))))
def r14 : List ARes := [.tmp 6]
def a14 : AFn := ⟨b14, r14, 2⟩
def b35 : ACode := (.seq (.ops [
 oo 2 (.move (.cst (.int .u64 0)))])
 (.seq (.ops [
 oo 3 (.move (.tmp 0)),
 oo 4 (.nilCheck (.tmp 3)),
 oo 5 (.fieldAddr 0 (.tmp 4)),
 oo 6 (.call 74 [(.tmp 5)])])
 (.seq (.ops [
 oo 7 (.move (.tmp 0)),
 oo 8 (.nilCheck (.tmp 7)),
 oo 9 (.fieldAddr 0 (.tmp 8)),
 ⟨none, none, .defer (.cst (.func (.func 75) ⟨[]⟩ ⟨[]⟩)) [(.tmp 9)], []⟩])
 (.seq (.ops [
 oo 10 (.move (.tmp 0)),
 oo 11 (.nilCheck (.tmp 10)),
 oo 12 (.fieldAddr 3 (.tmp 11)),
 oo 13 (.load1 (.tmp 12)),
 oo 14 (.len (.tmp 13)),
 oo 15 (.convInt .u64 (.tmp 14)),
 oo 2 (.move (.tmp 15))])
 .ret))))
def r35 : List ARes := [.tmp 2]
def a35 : AFn := ⟨b35, r35, 0⟩
def b46 : ACode := (.seq (.ops [
 oo 2 (.move (.cst (.int .i64 0)))])
 (.seq (.ops [
 oo 3 (.move (.tmp 0)),
 oo 4 (.nilCheck (.tmp 3)),
 oo 5 (.fieldAddr 0 (.tmp 4)),
 oo 6 (.call 74 [(.tmp 5)])])
 (.seq (.ops [
 oo 7 (.move (.tmp 0)),
 oo 8 (.nilCheck (.tmp 7)),
 oo 9 (.fieldAddr 0 (.tmp 8)),
 ⟨none, none, .defer (.cst (.func (.func 75) ⟨[]⟩ ⟨[]⟩)) [(.tmp 9)], []⟩])
 (.seq (.ops [
 oo 10 (.move (.tmp 0)),
 oo 11 (.nilCheck (.tmp 10)),
 oo 12 (.fieldAddr 5 (.tmp 11)),
 oo 13 (.load1 (.tmp 12)),
 oo 2 (.move (.tmp 13))])
 .ret))))
def r46 : List ARes := [.tmp 2]
def a46 : AFn := ⟨b46, r46, 0⟩

structure Tab_LLog (C : Ctx) : Prop where
  h74 : C.T 74 = some (.fn a74)
  h75 : C.T 75 = some (.fn a75)
  h112 : C.T 112 = some (.fn a112)
  h113 : C.T 113 = some (.fn a113)
  h84 : C.T 84 = some (.fn a84)
  h42 : C.T 42 = some (.fn a42)
  h148 : C.T 148 = some (.fn a148)
  h157 : C.T 157 = some (.fn a157)
  h93 : C.T 93 = some (.fn a93)
  h158 : C.T 158 = some (.fn a158)
  h159 : C.T 159 = some (.fn a159)
  h160 : C.T 160 = some (.fn a160)
  h161 : C.T 161 = some (.fn a161)
  h85 : C.T 85 = some (.fn a85)
  h86 : C.T 86 = some (.fn a86)
  h151 : C.T 151 = some (.fn a151)
  h114 : C.T 114 = some (.fn a114)
  h216 : C.T 216 = some (.fn a216)
  h43 : C.T 43 = some (.fn a43)
  h45 : C.T 45 = some (.fn a45)
  h87 : C.T 87 = some (.fn a87)
  h115 : C.T 115 = some (.fn a115)
  h25 : C.T 25 = some (.fn a25)
  h67 : C.T 67 = some (.fn a67)
  h68 : C.T 68 = some (.fn a68)
  h26 : C.T 26 = some (.fn a26)
  h69 : C.T 69 = some (.fn a69)
  h30 : C.T 30 = some (.fn a30)
  h72 : C.T 72 = some (.fn a72)
  h56 : C.T 56 = some (.fn a56)
  h106 : C.T 106 = some (.fn a106)
  h12 : C.T 12 = some (.fn a12)
  h53 : C.T 53 = some (.fn a53)
  h14 : C.T 14 = some (.fn a14)
  h35 : C.T 35 = some (.fn a35)
  h46 : C.T 46 = some (.fn a46)
  x184 : C.T 184 = some (.ext (.nop 0))
  x185 : C.T 185 = some (.ext .cas32)
  x186 : C.T 186 = some (.ext (.nop 0))
  x187 : C.T 187 = some (.ext (.nop 1))
  x189 : C.T 189 = some (.ext (.nop 1))
  x190 : C.T 190 = some (.ext .add32)
end Go.Ab.Aud

namespace Go.Ab.Aud
def lp180_0 : ACode := (.seq (.ops [
 oo 17 (.bin .lss (.tmp 16) (.cst (.int .i64 64)))])
 (.seq (.cond (.tmp 17)
 .skip
 (.exit 0))
 (.seq (.block 1 (.seq (.ops [
 oo 18 (.move (.tmp 16)),
 oo 5 (.move (.tmp 18))])
 (.seq (.seq (.ops [
 oo 19 (.move (.tmp 5)),
 oo 20 (.bin .lss (.tmp 19) (.cst (.int .i64 16)))])
 (.cond (.tmp 20)
 (.seq (.draw [
 oo 21 (.move (.tmp 5)),
 oo 22 (.move (.tmp 1)),
 oo 23 (.move (.tmp 5)),
 oo 24 (.bin .mul (.cst (.int .i64 4)) (.tmp 23)),
 oo 25 (.idxAddrSl 1 (.tmp 22) (.tmp 24)),
 oo 26 (.load1 (.tmp 25)),
 oo 27 (.convInt .u32 (.tmp 26)),
 oo 28 (.bin .shl (.tmp 27) (.cst (.int .u64 24))),
 oo 29 (.move (.tmp 1)),
 oo 30 (.move (.tmp 5)),
 oo 31 (.bin .mul (.cst (.int .i64 4)) (.tmp 30)),
 oo 32 (.bin .add (.tmp 31) (.cst (.int .i64 1))),
 oo 33 (.idxAddrSl 1 (.tmp 29) (.tmp 32)),
 oo 34 (.load1 (.tmp 33)),
 oo 35 (.convInt .u32 (.tmp 34)),
 oo 36 (.bin .shl (.tmp 35) (.cst (.int .u64 16))),
 oo 37 (.bin .or (.tmp 28) (.tmp 36)),
 oo 38 (.move (.tmp 1)),
 oo 39 (.move (.tmp 5)),
 oo 40 (.bin .mul (.cst (.int .i64 4)) (.tmp 39)),
 oo 41 (.bin .add (.tmp 40) (.cst (.int .i64 2))),
 oo 42 (.idxAddrSl 1 (.tmp 38) (.tmp 41)),
 oo 43 (.load1 (.tmp 42)),
 oo 44 (.convInt .u32 (.tmp 43)),
 oo 45 (.bin .shl (.tmp 44) (.cst (.int .u64 8))),
 oo 46 (.bin .or (.tmp 37) (.tmp 45)),
 oo 47 (.move (.tmp 1)),
 oo 48 (.move (.tmp 5)),
 oo 49 (.bin .mul (.cst (.int .i64 4)) (.tmp 48)),
 oo 50 (.bin .add (.tmp 49) (.cst (.int .i64 3))),
 oo 51 (.idxAddrSl 1 (.tmp 47) (.tmp 50)),
 oo 52 (.load1 (.tmp 51)),
 oo 53 (.convInt .u32 (.tmp 52)),
 oo 54 (.bin .or (.tmp 46) (.tmp 53)),
 oo 55 (.idxAddrArr 1 64 (.tmp 4) (.tmp 21)),
 ⟨none, none, .store1 (.tmp 55) (.tmp 54), []⟩])
 (.exit 1))
 .skip))
 (.seq (.draw [
 oo 56 (.move (.tmp 5)),
 oo 57 (.bin .sub (.tmp 56) (.cst (.int .i64 15))),
 oo 58 (.idxAddrArr 1 64 (.tmp 4) (.tmp 57)),
 oo 59 (.load1 (.tmp 58)),
 oo 60 (.move (.tmp 5)),
 oo 61 (.bin .sub (.tmp 60) (.cst (.int .i64 2))),
 oo 62 (.idxAddrArr 1 64 (.tmp 4) (.tmp 61)),
 oo 63 (.load1 (.tmp 62)),
 oo 6 (.move (.tmp 59)),
 oo 7 (.move (.tmp 63))])
 (.draw [
 oo 64 (.move (.tmp 5)),
 oo 65 (.move (.tmp 5)),
 oo 66 (.bin .sub (.tmp 65) (.cst (.int .i64 16))),
 oo 67 (.idxAddrArr 1 64 (.tmp 4) (.tmp 66)),
 oo 68 (.load1 (.tmp 67)),
 oo 69 (.move (.tmp 6)),
 oo 70 (.call 230 [(.tmp 69), (.cst (.int .i64 7))]),
 oo 71 (.move (.tmp 6)),
 oo 72 (.call 230 [(.tmp 71), (.cst (.int .i64 18))]),
 oo 73 (.bin .xor (.tmp 70) (.tmp 72)),
 oo 74 (.move (.tmp 6)),
 oo 75 (.bin .shr (.tmp 74) (.cst (.int .u64 3))),
 oo 76 (.bin .xor (.tmp 73) (.tmp 75)),
 oo 77 (.bin .add (.tmp 68) (.tmp 76)),
 oo 78 (.move (.tmp 5)),
 oo 79 (.bin .sub (.tmp 78) (.cst (.int .i64 7))),
 oo 80 (.idxAddrArr 1 64 (.tmp 4) (.tmp 79)),
 oo 81 (.load1 (.tmp 80)),
 oo 82 (.bin .add (.tmp 77) (.tmp 81)),
 oo 83 (.move (.tmp 7)),
 oo 84 (.call 230 [(.tmp 83), (.cst (.int .i64 17))]),
 oo 85 (.move (.tmp 7)),
 oo 86 (.call 230 [(.tmp 85), (.cst (.int .i64 19))]),
 oo 87 (.bin .xor (.tmp 84) (.tmp 86)),
 oo 88 (.move (.tmp 7)),
 oo 89 (.bin .shr (.tmp 88) (.cst (.int .u64 10))),
 oo 90 (.bin .xor (.tmp 87) (.tmp 89)),
 oo 91 (.bin .add (.tmp 82) (.tmp 90)),
 oo 92 (.idxAddrArr 1 64 (.tmp 4) (.tmp 64)),
 ⟨none, none, .store1 (.tmp 92) (.tmp 91), []⟩])))))
 (.ops [
 oo 93 (.bin .add (.tmp 16) (.cst (.int .i64 1))),
 oo 16 (.move (.tmp 93))]))))
def lp180_1 : ACode := (.seq (.ops [
 oo 99 (.bin .lss (.tmp 98) (.cst (.int .i64 64)))])
 (.seq (.cond (.tmp 99)
 .skip
 (.exit 2))
 (.seq (.block 3 (.seq (.ops [
 oo 100 (.move (.tmp 98)),
 oo 9 (.move (.tmp 100))])
 (.seq (.draw [
 oo 101 (.idxAddrArr 1 8 (.tmp 8) (.cst (.int .i64 0))),
 oo 102 (.load1 (.tmp 101)),
 oo 103 (.idxAddrArr 1 8 (.tmp 8) (.cst (.int .i64 4))),
 oo 104 (.load1 (.tmp 103)),
 oo 10 (.move (.tmp 102)),
 oo 11 (.move (.tmp 104))])
 (.seq (.draw [
 oo 105 (.idxAddrArr 1 8 (.tmp 8) (.cst (.int .i64 7))),
 oo 106 (.load1 (.tmp 105)),
 oo 107 (.move (.tmp 11)),
 oo 108 (.call 230 [(.tmp 107), (.cst (.int .i64 6))]),
 oo 109 (.move (.tmp 11)),
 oo 110 (.call 230 [(.tmp 109), (.cst (.int .i64 11))]),
 oo 111 (.bin .xor (.tmp 108) (.tmp 110)),
 oo 112 (.move (.tmp 11)),
 oo 113 (.call 230 [(.tmp 112), (.cst (.int .i64 25))]),
 oo 114 (.bin .xor (.tmp 111) (.tmp 113)),
 oo 115 (.bin .add (.tmp 106) (.tmp 114)),
 oo 116 (.move (.tmp 11)),
 oo 117 (.idxAddrArr 1 8 (.tmp 8) (.cst (.int .i64 5))),
 oo 118 (.load1 (.tmp 117)),
 oo 119 (.bin .and (.tmp 116) (.tmp 118)),
 oo 120 (.move (.tmp 11)),
 oo 121 (.un .xor (.tmp 120)),
 oo 122 (.idxAddrArr 1 8 (.tmp 8) (.cst (.int .i64 6))),
 oo 123 (.load1 (.tmp 122)),
 oo 124 (.bin .and (.tmp 121) (.tmp 123)),
 oo 125 (.bin .xor (.tmp 119) (.tmp 124)),
 oo 126 (.bin .add (.tmp 115) (.tmp 125)),
 oo 127 (.move (.tmp 9)),
 oo 128 (.idxAddrArr 1 64 (.cst (.pointer (some ⟨0, 0, none⟩))) (.tmp 127)),
 oo 129 (.load1 (.tmp 128)),
 oo 130 (.bin .add (.tmp 126) (.tmp 129)),
 oo 131 (.move (.tmp 9)),
 oo 132 (.idxAddrArr 1 64 (.tmp 4) (.tmp 131)),
 oo 133 (.load1 (.tmp 132)),
 oo 134 (.bin .add (.tmp 130) (.tmp 133)),
 oo 12 (.move (.tmp 134))])
 (.seq (.draw [
 oo 135 (.move (.tmp 10)),
 oo 136 (.call 230 [(.tmp 135), (.cst (.int .i64 2))]),
 oo 137 (.move (.tmp 10)),
 oo 138 (.call 230 [(.tmp 137), (.cst (.int .i64 13))]),
 oo 139 (.bin .xor (.tmp 136) (.tmp 138)),
 oo 140 (.move (.tmp 10)),
 oo 141 (.call 230 [(.tmp 140), (.cst (.int .i64 22))]),
 oo 142 (.bin .xor (.tmp 139) (.tmp 141)),
 oo 143 (.move (.tmp 10)),
 oo 144 (.idxAddrArr 1 8 (.tmp 8) (.cst (.int .i64 1))),
 oo 145 (.load1 (.tmp 144)),
 oo 146 (.bin .and (.tmp 143) (.tmp 145)),
 oo 147 (.move (.tmp 10)),
 oo 148 (.idxAddrArr 1 8 (.tmp 8) (.cst (.int .i64 2))),
 oo 149 (.load1 (.tmp 148)),
 oo 150 (.bin .and (.tmp 147) (.tmp 149)),
 oo 151 (.bin .xor (.tmp 146) (.tmp 150)),
 oo 152 (.idxAddrArr 1 8 (.tmp 8) (.cst (.int .i64 1))),
 oo 153 (.load1 (.tmp 152)),
 oo 154 (.idxAddrArr 1 8 (.tmp 8) (.cst (.int .i64 2))),
 oo 155 (.load1 (.tmp 154)),
 oo 156 (.bin .and (.tmp 153) (.tmp 155)),
 oo 157 (.bin .xor (.tmp 151) (.tmp 156)),
 oo 158 (.bin .add (.tmp 142) (.tmp 157)),
 oo 13 (.move (.tmp 158))])
 (.ops [
 oo 159 (.move (.tmp 12)),
 oo 160 (.move (.tmp 13)),
 oo 161 (.bin .add (.tmp 159) (.tmp 160)),
 oo 162 (.move (.tmp 10)),
 oo 163 (.idxAddrArr 1 8 (.tmp 8) (.cst (.int .i64 1))),
 oo 164 (.load1 (.tmp 163)),
 oo 165 (.idxAddrArr 1 8 (.tmp 8) (.cst (.int .i64 2))),
 oo 166 (.load1 (.tmp 165)),
 oo 167 (.idxAddrArr 1 8 (.tmp 8) (.cst (.int .i64 3))),
 oo 168 (.load1 (.tmp 167)),
 oo 169 (.move (.tmp 12)),
 oo 170 (.bin .add (.tmp 168) (.tmp 169)),
 oo 171 (.move (.tmp 11)),
 oo 172 (.idxAddrArr 1 8 (.tmp 8) (.cst (.int .i64 5))),
 oo 173 (.load1 (.tmp 172)),
 oo 174 (.idxAddrArr 1 8 (.tmp 8) (.cst (.int .i64 6))),
 oo 175 (.load1 (.tmp 174)),
 oo 176 (.build [(.int .u32 0), (.int .u32 0), (.int .u32 0), (.int .u32 0), (.int .u32 0), (.int .u32 0), (.int .u32 0), (.int .u32 0)] [(0, 1, (.tmp 161)), (1, 1, (.tmp 162)), (2, 1, (.tmp 164)), (3, 1, (.tmp 166)), (4, 1, (.tmp 170)), (5, 1, (.tmp 171)), (6, 1, (.tmp 173)), (7, 1, (.tmp 175))]),
 ⟨none, none, .storeN 8 (.tmp 8) (.tmp 176), []⟩]))))))
 (.ops [
 oo 177 (.bin .add (.tmp 98) (.cst (.int .i64 1))),
 oo 98 (.move (.tmp 177))]))))
def lp180_2 : ACode := (.seq (.ops [
 oo 180 (.bin .lss (.tmp 179) (.cst (.int .i64 8)))])
 (.seq (.cond (.tmp 180)
 .skip
 (.exit 4))
 (.seq (.block 5 (.seq (.ops [
 oo 181 (.move (.tmp 179)),
 oo 182 (.idxArr1 8 (.tmp 178) (.tmp 179)),
 oo 14 (.move (.tmp 181)),
 oo 15 (.move (.tmp 182))])
 (.draw [
 oo 183 (.move (.tmp 0)),
 oo 184 (.move (.tmp 14)),
 oo 185 (.nilCheck (.tmp 183)),
 oo 186 (.fieldAddr 0 (.tmp 185)),
 oo 187 (.idxAddrArr 1 8 (.tmp 186) (.tmp 184)),
 oo 188 (.load1 (.tmp 187)),
 oo 189 (.move (.tmp 15)),
 oo 190 (.bin .add (.tmp 188) (.tmp 189)),
 oo 191 (.nilCheck (.tmp 183)),
 oo 192 (.fieldAddr 0 (.tmp 191)),
 oo 193 (.idxAddrArr 1 8 (.tmp 192) (.tmp 184)),
 ⟨none, none, .store1 (.tmp 193) (.tmp 190), []⟩])))
 (.ops [
 oo 194 (.bin .add (.tmp 179) (.cst (.int .i64 1))),
 oo 179 (.move (.tmp 194))]))))
def k180_0 : ACode := (.seq (.ops [
 oo 178 (.loadN 8 (.tmp 8)),
 oo 179 (.move (.cst (.int .i64 0)))])
 (.block 4 (.loop lp180_2)))
def k180_1 : ACode := (.seq (.ops [
 oo 94 (.move (.tmp 0)),
 oo 95 (.nilCheck (.tmp 94)),
 oo 96 (.fieldAddr 0 (.tmp 95)),
 oo 97 (.loadN 8 (.tmp 96)),
 oo 8 (.box 214 (.cst (.agg ⟨[(.int .u32 0), (.int .u32 0), (.int .u32 0), (.int .u32 0), (.int .u32 0), (.int .u32 0), (.int .u32 0), (.int .u32 0)]⟩))),
 ⟨none, none, .storeN 8 (.tmp 8) (.tmp 97), []⟩])
 (.seq (.seq (.ops [
 oo 98 (.move (.cst (.int .i64 0)))])
 (.block 2 (.loop lp180_1)))
 k180_0))
def b180 : ACode := (.seq (.ops [
 oo 4 (.box 257 (.cst (.agg ⟨[(.int .u32 0), (.int .u32 0), (.int .u32 0), (.int .u32 0), (.int .u32 0), (.int .u32 0), (.int .u32 0), (.int .u32 0), (.int .u32 0), (.int .u32 0), (.int .u32 0), (.int .u32 0), (.int .u32 0), (.int .u32 0), (.int .u32 0), (.int .u32 0), (.int .u32 0), (.int .u32 0), (.int .u32 0), (.int .u32 0), (.int .u32 0), (.int .u32 0), (.int .u32 0), (.int .u32 0), (.int .u32 0), (.int .u32 0), (.int .u32 0), (.int .u32 0), (.int .u32 0), (.int .u32 0), (.int .u32 0), (.int .u32 0), (.int .u32 0), (.int .u32 0), (.int .u32 0), (.int .u32 0), (.int .u32 0), (.int .u32 0), (.int .u32 0), (.int .u32 0), (.int .u32 0), (.int .u32 0), (.int .u32 0), (.int .u32 0), (.int .u32 0), (.int .u32 0), (.int .u32 0), (.int .u32 0), (.int .u32 0), (.int .u32 0), (.int .u32 0), (.int .u32 0), (.int .u32 0), (.int .u32 0), (.int .u32 0), (.int .u32 0), (.int .u32 0), (.int .u32 0), (.int .u32 0), (.int .u32 0), (.int .u32 0), (.int .u32 0), (.int .u32 0), (.int .u32 0)]⟩)))])
 (.seq (.seq (.ops [
 oo 16 (.move (.cst (.int .i64 0)))])
 (.block 0 (.loop lp180_0)))
 k180_1))
def r180 : List ARes := []
def a180 : AFn := ⟨b180, r180, 0⟩
def b230 : ACode := (.seq (.ops [
 oo 4 (.move (.cst (.int .u32 0)))])
 (.seq (.ops [
 oo 5 (.move (.tmp 0)),
 oo 6 (.move (.tmp 1)),
 oo 7 (.un .neg (.tmp 6)),
 oo 8 (.call 253 [(.tmp 5), (.tmp 7)]),
 oo 4 (.move (.tmp 8))])
 .ret))
def r230 : List ARes := [.tmp 4]
def a230 : AFn := ⟨b230, r230, 3⟩
def b253 : ACode := (.seq (.ops [
 oo 4 (.move (.cst (.int .u32 0)))])
 (.seq (.ops [
 oo 6 (.move (.tmp 1)),
 oo 7 (.convInt .u64 (.tmp 6)),
 oo 8 (.bin .and (.tmp 7) (.cst (.int .u64 31))),
 oo 5 (.move (.tmp 8))])
 (.seq (.ops [
 oo 9 (.move (.tmp 0)),
 oo 10 (.move (.tmp 5)),
 oo 11 (.bin .shl (.tmp 9) (.tmp 10)),
 oo 12 (.move (.tmp 0)),
 oo 13 (.move (.tmp 5)),
 oo 14 (.bin .sub (.cst (.int .u64 32)) (.tmp 13)),
 oo 15 (.bin .shr (.tmp 12) (.tmp 14)),
 oo 16 (.bin .or (.tmp 11) (.tmp 15)),
 oo 4 (.move (.tmp 16))])
 .ret)))
def r253 : List ARes := [.tmp 4]
def a253 : AFn := ⟨b253, r253, 3⟩
def lp108_0 : ACode := (.seq (.seq (.ops [
 oo 64 (.move (.tmp 1)),
 oo 65 (.len (.tmp 64)),
 oo 66 (.bin .geq (.tmp 65) (.cst (.int .i64 64)))])
 (.cond (.tmp 66)
 .skip
 (.exit 0)))
 (.block 1 (.seq (.ops [
 oo 67 (.move (.tmp 0)),
 oo 68 (.move (.tmp 1)),
 oo 69 (.sliceSl 1 (.tmp 68) none (some (.cst (.int .i64 64))) none),
 oo 70 (.call 180 [(.tmp 67), (.tmp 69)])])
 (.ops [
 oo 71 (.move (.tmp 1)),
 oo 72 (.sliceSl 1 (.tmp 71) (some (.cst (.int .i64 64))) none none),
 oo 1 (.move (.tmp 72))]))))
def k108_0 : ACode := (.ops [
 oo 73 (.move (.tmp 0)),
 oo 74 (.move (.tmp 0)),
 oo 75 (.nilCheck (.tmp 74)),
 oo 76 (.fieldAddr 8 (.tmp 75)),
 oo 77 (.load1 (.tmp 76)),
 oo 78 (.move (.tmp 1)),
 oo 79 (.append 5 1 1 (.tmp 77) (.tmp 78)),
 oo 80 (.nilCheck (.tmp 73)),
 oo 81 (.fieldAddr 8 (.tmp 80)),
 ⟨none, none, .store1 (.tmp 81) (.tmp 79), []⟩])
def b108 : ACode := (.seq (.ops [
 oo 5 (.move (.tmp 0)),
 oo 6 (.nilCheck (.tmp 5)),
 oo 7 (.fieldAddr 9 (.tmp 6)),
 oo 8 (.load1 (.tmp 7)),
 oo 9 (.move (.tmp 1)),
 oo 10 (.len (.tmp 9)),
 oo 11 (.convInt .u64 (.tmp 10)),
 oo 12 (.bin .add (.tmp 8) (.tmp 11)),
 oo 13 (.nilCheck (.tmp 5)),
 oo 14 (.fieldAddr 9 (.tmp 13)),
 ⟨none, none, .store1 (.tmp 14) (.tmp 12), []⟩])
 (.seq (.seq (.ops [
 oo 15 (.move (.tmp 0)),
 oo 16 (.nilCheck (.tmp 15)),
 oo 17 (.fieldAddr 8 (.tmp 16)),
 oo 18 (.load1 (.tmp 17)),
 oo 19 (.len (.tmp 18)),
 oo 20 (.bin .gtr (.tmp 19) (.cst (.int .i64 0)))])
 (.cond (.tmp 20)
 (.seq (.ops [
 oo 21 (.move (.tmp 0)),
 oo 22 (.nilCheck (.tmp 21)),
 oo 23 (.fieldAddr 8 (.tmp 22)),
 oo 24 (.load1 (.tmp 23)),
 oo 25 (.len (.tmp 24)),
 oo 26 (.bin .sub (.cst (.int .i64 64)) (.tmp 25)),
 oo 27 (.move (.tmp 1)),
 oo 28 (.len (.tmp 27)),
 oo 29 (.min2 (.tmp 26) (.tmp 28)),
 oo 4 (.move (.tmp 29))])
 (.seq (.draw [
 oo 30 (.move (.tmp 0)),
 oo 31 (.move (.tmp 0)),
 oo 32 (.nilCheck (.tmp 31)),
 oo 33 (.fieldAddr 8 (.tmp 32)),
 oo 34 (.load1 (.tmp 33)),
 oo 35 (.move (.tmp 1)),
 oo 36 (.move (.tmp 4)),
 oo 37 (.sliceSl 1 (.tmp 35) none (some (.tmp 36)) none),
 oo 38 (.append 5 1 1 (.tmp 34) (.tmp 37)),
 oo 39 (.nilCheck (.tmp 30)),
 oo 40 (.fieldAddr 8 (.tmp 39)),
 ⟨none, none, .store1 (.tmp 40) (.tmp 38), []⟩])
 (.seq (.ops [
 oo 41 (.move (.tmp 1)),
 oo 42 (.move (.tmp 4)),
 oo 43 (.sliceSl 1 (.tmp 41) (some (.tmp 42)) none none),
 oo 1 (.move (.tmp 43))])
 (.seq (.seq (.ops [
 oo 44 (.move (.tmp 0)),
 oo 45 (.nilCheck (.tmp 44)),
 oo 46 (.fieldAddr 8 (.tmp 45)),
 oo 47 (.load1 (.tmp 46)),
 oo 48 (.len (.tmp 47)),
 oo 49 (.bin .lss (.tmp 48) (.cst (.int .i64 64)))])
 (.cond (.tmp 49)
 .ret
 .skip))
 (.seq (.ops [
 oo 50 (.move (.tmp 0)),
 oo 51 (.move (.tmp 0)),
 oo 52 (.nilCheck (.tmp 51)),
 oo 53 (.fieldAddr 8 (.tmp 52)),
 oo 54 (.load1 (.tmp 53)),
 oo 55 (.call 180 [(.tmp 50), (.tmp 54)])])
 (.ops [
 oo 56 (.move (.tmp 0)),
 oo 57 (.move (.tmp 0)),
 oo 58 (.nilCheck (.tmp 57)),
 oo 59 (.fieldAddr 8 (.tmp 58)),
 oo 60 (.load1 (.tmp 59)),
 oo 61 (.sliceSl 1 (.tmp 60) none (some (.cst (.int .i64 0))) none),
 oo 62 (.nilCheck (.tmp 56)),
 oo 63 (.fieldAddr 8 (.tmp 62)),
 ⟨none, none, .store1 (.tmp 63) (.tmp 61), []⟩]))))))
 .skip))
 (.seq (.block 0 (.loop lp108_0))
 k108_0)))
def r108 : List ARes := []
def a108 : AFn := ⟨b108, r108, 0⟩
def lp63_0 : ACode := (.seq (.seq (.ops [
 oo 20 (.fieldAddr 8 (.tmp 3)),
 oo 21 (.load1 (.tmp 20)),
 oo 22 (.len (.tmp 21)),
 oo 23 (.bin .neq (.tmp 22) (.cst (.int .i64 56)))])
 (.cond (.tmp 23)
 .skip
 (.exit 0)))
 (.block 1 (.ops [
 oo 24 (.buildSlice 5 [(.int .u8 0)] 1 [(0, 1, (.cst (.int .u8 0)))]),
 oo 25 (.call 108 [(.tmp 3), (.tmp 24)])])))
def lp63_1 : ACode := (.seq (.ops [
 oo 36 (.bin .lss (.tmp 35) (.cst (.int .i64 8)))])
 (.seq (.cond (.tmp 36)
 .skip
 (.exit 2))
 (.seq (.block 3 (.seq (.ops [
 oo 37 (.move (.tmp 35)),
 oo 38 (.idxArr1 8 (.tmp 34) (.tmp 35)),
 oo 5 (.move (.tmp 37)),
 oo 6 (.move (.tmp 38))])
 (.ops [
 oo 39 (.move (.tmp 5)),
 oo 40 (.bin .mul (.cst (.int .i64 4)) (.tmp 39)),
 oo 41 (.move (.tmp 5)),
 oo 42 (.bin .mul (.cst (.int .i64 4)) (.tmp 41)),
 oo 43 (.bin .add (.tmp 42) (.cst (.int .i64 1))),
 oo 44 (.move (.tmp 5)),
 oo 45 (.bin .mul (.cst (.int .i64 4)) (.tmp 44)),
 oo 46 (.bin .add (.tmp 45) (.cst (.int .i64 2))),
 oo 47 (.move (.tmp 5)),
 oo 48 (.bin .mul (.cst (.int .i64 4)) (.tmp 47)),
 oo 49 (.bin .add (.tmp 48) (.cst (.int .i64 3))),
 oo 50 (.move (.tmp 6)),
 oo 51 (.bin .shr (.tmp 50) (.cst (.int .u64 24))),
 oo 52 (.convInt .u8 (.tmp 51)),
 oo 53 (.move (.tmp 6)),
 oo 54 (.bin .shr (.tmp 53) (.cst (.int .u64 16))),
 oo 55 (.convInt .u8 (.tmp 54)),
 oo 56 (.move (.tmp 6)),
 oo 57 (.bin .shr (.tmp 56) (.cst (.int .u64 8))),
 oo 58 (.convInt .u8 (.tmp 57)),
 oo 59 (.move (.tmp 6)),
 oo 60 (.convInt .u8 (.tmp 59)),
 oo 61 (.idxAddrArr 1 32 (.tmp 4) (.tmp 40)),
 ⟨none, none, .store1 (.tmp 61) (.tmp 52), []⟩,
 oo 62 (.idxAddrArr 1 32 (.tmp 4) (.tmp 43)),
 ⟨none, none, .store1 (.tmp 62) (.tmp 55), []⟩,
 oo 63 (.idxAddrArr 1 32 (.tmp 4) (.tmp 46)),
 ⟨none, none, .store1 (.tmp 63) (.tmp 58), []⟩,
 oo 64 (.idxAddrArr 1 32 (.tmp 4) (.tmp 49)),
 ⟨none, none, .store1 (.tmp 64) (.tmp 60), []⟩])))
 (.ops [
 oo 65 (.bin .add (.tmp 35) (.cst (.int .i64 1))),
 oo 35 (.move (.tmp 65))]))))
def k63_0 : ACode := (.seq (.ops [
 oo 66 (.loadN 32 (.tmp 4)),
 ⟨none, none, .storeN 32 (.tmp 2) (.tmp 66), []⟩])
 .ret)
def k63_1 : ACode := (.seq (.ops [
 oo 26 (.move (.tmp 0)),
 oo 27 (.nilCheck (.tmp 26)),
 oo 28 (.fieldAddr 9 (.tmp 27)),
 oo 29 (.load1 (.tmp 28)),
 oo 30 (.bin .mul (.cst (.int .u64 8)) (.tmp 29)),
 oo 31 (.call 109 [(.tmp 30)]),
 oo 32 (.call 108 [(.tmp 3), (.tmp 31)])])
 (.seq (.ops [
 oo 4 (.box 30 (.cst (.agg ⟨[(.int .u8 0), (.int .u8 0), (.int .u8 0), (.int .u8 0), (.int .u8 0), (.int .u8 0), (.int .u8 0), (.int .u8 0), (.int .u8 0), (.int .u8 0), (.int .u8 0), (.int .u8 0), (.int .u8 0), (.int .u8 0), (.int .u8 0), (.int .u8 0), (.int .u8 0), (.int .u8 0), (.int .u8 0), (.int .u8 0), (.int .u8 0), (.int .u8 0), (.int .u8 0), (.int .u8 0), (.int .u8 0), (.int .u8 0), (.int .u8 0), (.int .u8 0), (.int .u8 0), (.int .u8 0), (.int .u8 0), (.int .u8 0)]⟩)))])
 (.seq (.seq (.ops [
 oo 33 (.fieldAddr 0 (.tmp 3)),
 oo 34 (.loadN 8 (.tmp 33)),
 oo 35 (.move (.cst (.int .i64 0)))])
 (.block 2 (.loop lp63_1)))
 k63_0)))
def b63 : ACode := (.seq (.ops [
 oo 2 (.box 30 (.cst (.agg ⟨[(.int .u8 0), (.int .u8 0), (.int .u8 0), (.int .u8 0), (.int .u8 0), (.int .u8 0), (.int .u8 0), (.int .u8 0), (.int .u8 0), (.int .u8 0), (.int .u8 0), (.int .u8 0), (.int .u8 0), (.int .u8 0), (.int .u8 0), (.int .u8 0), (.int .u8 0), (.int .u8 0), (.int .u8 0), (.int .u8 0), (.int .u8 0), (.int .u8 0), (.int .u8 0), (.int .u8 0), (.int .u8 0), (.int .u8 0), (.int .u8 0), (.int .u8 0), (.int .u8 0), (.int .u8 0), (.int .u8 0), (.int .u8 0)]⟩)))])
 (.seq (.draw [
 oo 3 (.box 216 (.cst (.agg ⟨[(.int .u32 0), (.int .u32 0), (.int .u32 0), (.int .u32 0), (.int .u32 0), (.int .u32 0), (.int .u32 0), (.int .u32 0), (.slice none 0 0), (.int .u64 0)]⟩))),
 oo 7 (.move (.tmp 0)),
 oo 8 (.nilCheck (.tmp 7)),
 oo 9 (.fieldAddr 0 (.tmp 8)),
 ⟨(some 10), none, .loadN 8 (.tmp 9), [12]⟩,
 oo 11 (.buildSlice 5 [] 0 []),
 oo 12 (.move (.tmp 0)),
 oo 13 (.nilCheck (.tmp 12)),
 oo 14 (.fieldAddr 8 (.tmp 13)),
 oo 15 (.load1 (.tmp 14)),
 oo 16 (.append 5 1 1 (.tmp 11) (.tmp 15)),
 oo 17 (.build [(.int .u32 0), (.int .u32 0), (.int .u32 0), (.int .u32 0), (.int .u32 0), (.int .u32 0), (.int .u32 0), (.int .u32 0), (.slice none 0 0), (.int .u64 0)] [(0, 8, (.tmp 10)), (8, 1, (.tmp 16))]),
 ⟨none, none, .storeN 10 (.tmp 3) (.tmp 17), []⟩])
 (.seq (.ops [
 oo 18 (.buildSlice 5 [(.int .u8 0)] 1 [(0, 1, (.cst (.int .u8 128)))]),
 oo 19 (.call 108 [(.tmp 3), (.tmp 18)])])
 (.seq (.block 0 (.loop lp63_0))
 k63_1))))
def r63 : List ARes := [.cellN 2 32]
def a63 : AFn := ⟨b63, r63, 2⟩
def b61 : ACode := (.seq (.ops [
 oo 0 (.move (.cst (.pointer none)))])
 (.seq (.ops [
 oo 1 (.build [(.int .u32 0), (.int .u32 0), (.int .u32 0), (.int .u32 0), (.int .u32 0), (.int .u32 0), (.int .u32 0), (.int .u32 0)] [(0, 1, (.cst (.int .u32 1779033703))), (1, 1, (.cst (.int .u32 3144134277))), (2, 1, (.cst (.int .u32 1013904242))), (3, 1, (.cst (.int .u32 2773480762))), (4, 1, (.cst (.int .u32 1359893119))), (5, 1, (.cst (.int .u32 2600822924))), (6, 1, (.cst (.int .u32 528734635))), (7, 1, (.cst (.int .u32 1541459225)))]),
 oo 2 (.build [(.int .u32 0), (.int .u32 0), (.int .u32 0), (.int .u32 0), (.int .u32 0), (.int .u32 0), (.int .u32 0), (.int .u32 0), (.slice none 0 0), (.int .u64 0)] [(0, 8, (.tmp 1))]),
 oo 3 (.box 216 (.tmp 2)),
 oo 0 (.move (.tmp 3))])
 .ret))
def r61 : List ARes := [.tmp 0]
def a61 : AFn := ⟨b61, r61, 0⟩
def b62 : ACode := (.ops [
 oo 4 (.move (.tmp 0)),
 oo 5 (.move (.tmp 1)),
 oo 6 (.call 108 [(.tmp 4), (.tmp 5)])])
def r62 : List ARes := []
def a62 : AFn := ⟨b62, r62, 0⟩
def b57 : ACode := (.seq (.ops [
 oo 2 (.box 30 (.cst (.agg ⟨[(.int .u8 0), (.int .u8 0), (.int .u8 0), (.int .u8 0), (.int .u8 0), (.int .u8 0), (.int .u8 0), (.int .u8 0), (.int .u8 0), (.int .u8 0), (.int .u8 0), (.int .u8 0), (.int .u8 0), (.int .u8 0), (.int .u8 0), (.int .u8 0), (.int .u8 0), (.int .u8 0), (.int .u8 0), (.int .u8 0), (.int .u8 0), (.int .u8 0), (.int .u8 0), (.int .u8 0), (.int .u8 0), (.int .u8 0), (.int .u8 0), (.int .u8 0), (.int .u8 0), (.int .u8 0), (.int .u8 0), (.int .u8 0)]⟩)))])
 (.seq (.ops [
 oo 3 (.move (.tmp 0)),
 oo 4 (.buildSlice 41 [(.slice none 0 0)] 1 [(0, 1, (.tmp 3))]),
 oo 5 (.call 107 [(.tmp 4)]),
 ⟨none, none, .storeN 32 (.tmp 2) (.tmp 5), []⟩])
 .ret))
def r57 : List ARes := [.cellN 2 32]
def a57 : AFn := ⟨b57, r57, 2⟩
def lp107_0 : ACode := (.seq (.ops [
 oo 10 (.bin .lss (.tmp 9) (.tmp 8))])
 (.seq (.cond (.tmp 10)
 .skip
 (.exit 0))
 (.seq (.block 1 (.seq (.ops [
 oo 11 (.idxAddrSl 1 (.tmp 7) (.tmp 9)),
 oo 12 (.load1 (.tmp 11)),
 oo 5 (.move (.tmp 12))])
 (.ops [
 oo 13 (.move (.tmp 3)),
 oo 14 (.move (.tmp 5)),
 oo 15 (.call 108 [(.tmp 13), (.tmp 14)])])))
 (.ops [
 oo 16 (.bin .add (.tmp 9) (.cst (.int .i64 1))),
 oo 9 (.move (.tmp 16))]))))
def k107_0 : ACode := (.seq (.ops [
 oo 17 (.move (.tmp 3)),
 oo 18 (.call 63 [(.tmp 17)]),
 ⟨none, none, .storeN 32 (.tmp 2) (.tmp 18), []⟩])
 .ret)
def b107 : ACode := (.seq (.ops [
 oo 2 (.box 30 (.cst (.agg ⟨[(.int .u8 0), (.int .u8 0), (.int .u8 0), (.int .u8 0), (.int .u8 0), (.int .u8 0), (.int .u8 0), (.int .u8 0), (.int .u8 0), (.int .u8 0), (.int .u8 0), (.int .u8 0), (.int .u8 0), (.int .u8 0), (.int .u8 0), (.int .u8 0), (.int .u8 0), (.int .u8 0), (.int .u8 0), (.int .u8 0), (.int .u8 0), (.int .u8 0), (.int .u8 0), (.int .u8 0), (.int .u8 0), (.int .u8 0), (.int .u8 0), (.int .u8 0), (.int .u8 0), (.int .u8 0), (.int .u8 0), (.int .u8 0)]⟩)))])
 (.seq (.ops [
 oo 6 (.call 61 []),
 oo 3 (.move (.tmp 6))])
 (.seq (.seq (.ops [
 oo 7 (.move (.tmp 0)),
 oo 8 (.len (.tmp 7)),
 oo 9 (.move (.cst (.int .i64 0)))])
 (.block 0 (.loop lp107_0)))
 k107_0)))
def r107 : List ARes := [.cellN 2 32]
def a107 : AFn := ⟨b107, r107, 2⟩
def lp109_0 : ACode := (.seq (.ops [
 oo 9 (.bin .lss (.tmp 8) (.tmp 7))])
 (.seq (.cond (.tmp 9)
 .skip
 (.exit 0))
 (.seq (.block 1 (.seq (.ops [
 oo 10 (.move (.tmp 8)),
 oo 4 (.move (.tmp 10))])
 (.ops [
 oo 11 (.move (.tmp 3)),
 oo 12 (.move (.tmp 4)),
 oo 13 (.move (.tmp 0)),
 oo 14 (.move (.tmp 4)),
 oo 15 (.bin .mul (.cst (.int .i64 8)) (.tmp 14)),
 oo 16 (.bin .sub (.cst (.int .i64 56)) (.tmp 15)),
 oo 17 (.bin .shr (.tmp 13) (.tmp 16)),
 oo 18 (.convInt .u8 (.tmp 17)),
 oo 19 (.idxAddrSl 1 (.tmp 11) (.tmp 12)),
 ⟨none, none, .store1 (.tmp 19) (.tmp 18), []⟩])))
 (.ops [
 oo 20 (.bin .add (.tmp 8) (.cst (.int .i64 1))),
 oo 8 (.move (.tmp 20))]))))
def k109_0 : ACode := (.seq (.ops [
 oo 21 (.move (.tmp 3)),
 oo 2 (.move (.tmp 21))])
 .ret)
def b109 : ACode := (.seq (.ops [
 oo 2 (.move (.cst (.slice none 0 0)))])
 (.seq (.ops [
 oo 5 (.mkSlice 5 1 1 [(.int .u8 0)] (.cst (.int .i64 8)) (.cst (.int .i64 8))),
 oo 3 (.move (.tmp 5))])
 (.seq (.seq (.ops [
 oo 6 (.move (.tmp 3)),
 oo 7 (.len (.tmp 6)),
 oo 8 (.move (.cst (.int .i64 0)))])
 (.block 0 (.loop lp109_0)))
 k109_0)))
def r109 : List ARes := [.tmp 2]
def a109 : AFn := ⟨b109, r109, 0⟩
def b17 : ACode := (.seq (.ops [
 oo 2 (.box 30 (.tmp 0)),
 oo 3 (.box 30 (.tmp 1)),
 oo 4 (.box 30 (.cst (.agg ⟨[(.int .u8 0), (.int .u8 0), (.int .u8 0), (.int .u8 0), (.int .u8 0), (.int .u8 0), (.int .u8 0), (.int .u8 0), (.int .u8 0), (.int .u8 0), (.int .u8 0), (.int .u8 0), (.int .u8 0), (.int .u8 0), (.int .u8 0), (.int .u8 0), (.int .u8 0), (.int .u8 0), (.int .u8 0), (.int .u8 0), (.int .u8 0), (.int .u8 0), (.int .u8 0), (.int .u8 0), (.int .u8 0), (.int .u8 0), (.int .u8 0), (.int .u8 0), (.int .u8 0), (.int .u8 0), (.int .u8 0), (.int .u8 0)]⟩)))])
 (.seq (.ops [
 oo 6 (.call 61 []),
 oo 5 (.move (.tmp 6))])
 (.seq (.ops [
 oo 7 (.move (.tmp 5)),
 oo 8 (.buildSlice 5 [(.int .u8 0)] 1 [(0, 1, (.cst (.int .u8 1)))]),
 oo 9 (.call 62 [(.tmp 7), (.tmp 8)])])
 (.seq (.ops [
 oo 10 (.move (.tmp 5)),
 oo 11 (.sliceArr 1 32 (.tmp 2) none none none),
 oo 12 (.call 62 [(.tmp 10), (.tmp 11)])])
 (.seq (.ops [
 oo 13 (.move (.tmp 5)),
 oo 14 (.sliceArr 1 32 (.tmp 3) none none none),
 oo 15 (.call 62 [(.tmp 13), (.tmp 14)])])
 (.seq (.ops [
 oo 16 (.move (.tmp 5)),
 oo 17 (.call 63 [(.tmp 16)]),
 ⟨none, none, .storeN 32 (.tmp 4) (.tmp 17), []⟩])
 .ret))))))
def r17 : List ARes := [.cellN 4 32]
def a17 : AFn := ⟨b17, r17, 3⟩
def b20 : ACode := (.seq (.ops [
 oo 2 (.box 30 (.cst (.agg ⟨[(.int .u8 0), (.int .u8 0), (.int .u8 0), (.int .u8 0), (.int .u8 0), (.int .u8 0), (.int .u8 0), (.int .u8 0), (.int .u8 0), (.int .u8 0), (.int .u8 0), (.int .u8 0), (.int .u8 0), (.int .u8 0), (.int .u8 0), (.int .u8 0), (.int .u8 0), (.int .u8 0), (.int .u8 0), (.int .u8 0), (.int .u8 0), (.int .u8 0), (.int .u8 0), (.int .u8 0), (.int .u8 0), (.int .u8 0), (.int .u8 0), (.int .u8 0), (.int .u8 0), (.int .u8 0), (.int .u8 0), (.int .u8 0)]⟩)))])
 (.seq (.ops [
 oo 4 (.call 61 []),
 oo 3 (.move (.tmp 4))])
 (.seq (.ops [
 oo 5 (.move (.tmp 3)),
 oo 6 (.buildSlice 5 [(.int .u8 0)] 1 [(0, 1, (.cst (.int .u8 0)))]),
 oo 7 (.call 62 [(.tmp 5), (.tmp 6)])])
 (.seq (.ops [
 oo 8 (.move (.tmp 3)),
 oo 9 (.move (.tmp 0)),
 oo 10 (.call 62 [(.tmp 8), (.tmp 9)])])
 (.seq (.ops [
 oo 11 (.move (.tmp 3)),
 oo 12 (.call 63 [(.tmp 11)]),
 ⟨none, none, .storeN 32 (.tmp 2) (.tmp 12), []⟩])
 .ret)))))
def r20 : List ARes := [.cellN 2 32]
def a20 : AFn := ⟨b20, r20, 2⟩

structure Tab_LDig (C : Ctx) : Prop where
  h180 : C.T 180 = some (.fn a180)
  h230 : C.T 230 = some (.fn a230)
  h253 : C.T 253 = some (.fn a253)
  h108 : C.T 108 = some (.fn a108)
  h63 : C.T 63 = some (.fn a63)
  h61 : C.T 61 = some (.fn a61)
  h62 : C.T 62 = some (.fn a62)
  h57 : C.T 57 = some (.fn a57)
  h107 : C.T 107 = some (.fn a107)
  h109 : C.T 109 = some (.fn a109)
  h17 : C.T 17 = some (.fn a17)
  h20 : C.T 20 = some (.fn a20)
end Go.Ab.Aud

namespace Go.Ab.Aud
def lp9_0 : ACode := (.seq (.seq (.ops [
 oo 47 (.move (.tmp 11)),
 oo 48 (.fieldAddr 0 (.tmp 1)),
 oo 49 (.load1 (.tmp 48)),
 oo 50 (.len (.tmp 49)),
 oo 51 (.bin .lss (.tmp 47) (.tmp 50)),
 oo 52 (.move (.tmp 51)),
 og 53 52 true (.move (.tmp 11)),
 og 54 52 true (.bin .lss (.tmp 53) (.cst (.int .i64 40))),
 oo 55 (.pick (.tmp 52) (.tmp 54) (.cst (.bool false))),
 oo 56 (.move (.tmp 55)),
 og 57 56 true (.move (.tmp 9)),
 og 58 56 true (.un .not (.tmp 57)),
 oo 59 (.pick (.tmp 56) (.tmp 58) (.cst (.bool false)))])
 (.cond (.tmp 59)
 .skip
 (.exit 0)))
 (.seq (.block 1 (.seq (.ops [
 oo 62 (.move (.tmp 10)),
 oo 63 (.fieldAddr 0 (.tmp 1)),
 oo 64 (.load1 (.tmp 63)),
 oo 65 (.move (.tmp 11)),
 oo 66 (.idxAddrSl 1 (.tmp 64) (.tmp 65)),
 oo 67 (.load1 (.tmp 66)),
 oo 68 (.len (.tmp 67)),
 oo 69 (.bin .sub (.tmp 62) (.tmp 68)),
 oo 70 (.bin .sub (.tmp 69) (.cst (.int .i64 100))),
 oo 10 (.move (.tmp 70))])
 (.seq (.seq (.ops [
 oo 71 (.fieldAddr 0 (.tmp 1)),
 oo 72 (.load1 (.tmp 71)),
 oo 73 (.move (.tmp 11)),
 oo 74 (.idxAddrSl 1 (.tmp 72) (.tmp 73)),
 oo 75 (.load1 (.tmp 74)),
 oo 76 (.len (.tmp 75)),
 oo 77 (.bin .gtr (.tmp 76) (.cst (.int .i64 16384))),
 oo 78 (.move (.tmp 77)),
 og 79 78 false (.move (.tmp 10)),
 og 80 78 false (.bin .lss (.tmp 79) (.cst (.int .i64 0))),
 oo 81 (.pick (.tmp 78) (.cst (.bool true)) (.tmp 80))])
 (.cond (.tmp 81)
 (.exit 1)
 .skip))
 (.seq (.ops [
 oo 83 (.move (.tmp 5)),
 oo 84 (.fieldAddr 0 (.tmp 1)),
 oo 85 (.load1 (.tmp 84)),
 oo 86 (.move (.tmp 11)),
 oo 87 (.idxAddrSl 1 (.tmp 85) (.tmp 86)),
 oo 88 (.load1 (.tmp 87)),
 oo 89 (.call 27 [(.tmp 88)]),
 oo 90 (.call 45 [(.tmp 83), (.tmp 89)]),
 oo 82 (.move (.tmp 90)),
 oo 91 (.extract 0 (.tmp 82)),
 oo 92 (.extract 1 (.tmp 82)),
 oo 12 (.move (.tmp 91)),
 oo 13 (.move (.tmp 92))])
 (.seq (.ops [
 oo 93 (.move (.tmp 13)),
 oo 94 (.call 11 [(.tmp 93)]),
 oo 95 (.bin .eql (.tmp 94) (.cst (.int .i64 0)))])
 (.cond (.tmp 95)
 (.ops [
 oo 96 (.move (.tmp 7)),
 oo 97 (.fieldAddr 0 (.tmp 1)),
 oo 98 (.load1 (.tmp 97)),
 oo 99 (.move (.tmp 11)),
 oo 100 (.idxAddrSl 1 (.tmp 98) (.tmp 99)),
 oo 101 (.load1 (.tmp 100)),
 oo 102 (.buildSlice 41 [(.slice none 0 0)] 1 [(0, 1, (.tmp 101))]),
 oo 103 (.append 41 1 24 (.tmp 96) (.tmp 102)),
 oo 7 (.move (.tmp 103))])
 (.seq (.ops [
 oo 9 (.move (.cst (.bool true)))])
 (.seq (.ops [
 oo 104 (.fieldAddr 0 (.tmp 1)),
 oo 105 (.load1 (.tmp 104)),
 oo 106 (.move (.tmp 11)),
 oo 107 (.idxAddrSl 1 (.tmp 105) (.tmp 106)),
 oo 108 (.load1 (.tmp 107)),
 oo 8 (.move (.tmp 108))])
 (.seq (.ops [
 oo 109 (.move (.tmp 13)),
 oo 110 (.call 11 [(.tmp 109)]),
 oo 111 (.bin .neq (.tmp 110) (.cst (.int .i64 234))),
 oo 112 (.move (.tmp 111)),
 og 113 112 false (.move (.tmp 5)),
 og 114 112 false (.call 46 [(.tmp 113)]),
 og 115 112 false (.call 11 [(.tmp 114)]),
 og 116 112 false (.bin .neq (.tmp 115) (.cst (.int .i64 94))),
 oo 117 (.pick (.tmp 112) (.cst (.bool true)) (.tmp 116)),
 oo 118 (.move (.tmp 117)),
 og 119 118 false (.move (.tmp 3)),
 og 120 118 false (.call 47 [(.tmp 119)]),
 og 121 118 false (.un .not (.tmp 120)),
 oo 122 (.pick (.tmp 118) (.cst (.bool true)) (.tmp 121))])
 (.cond (.tmp 122)
 (.seq (.ops [
 oo 2 (.move (.cst (.bool false)))])
 .ret)
 .skip))))))))))
 (.ops [
 oo 60 (.move (.tmp 11)),
 oo 61 (.bin .add (.tmp 60) (.cst (.int .i64 1))),
 oo 11 (.move (.tmp 61))])))
def lp9_1 : ACode := (.seq (.seq (.ops [
 oo 216 (.move (.tmp 17)),
 oo 217 (.fieldAddr 4 (.tmp 1)),
 oo 218 (.load1 (.tmp 217)),
 oo 219 (.len (.tmp 218)),
 oo 220 (.bin .lss (.tmp 216) (.tmp 219)),
 oo 221 (.move (.tmp 220)),
 og 222 221 true (.move (.tmp 17)),
 og 223 221 true (.bin .lss (.tmp 222) (.cst (.int .i64 10))),
 oo 224 (.pick (.tmp 221) (.tmp 223) (.cst (.bool false)))])
 (.cond (.tmp 224)
 .skip
 (.exit 2)))
 (.seq (.block 3 (.seq (.seq (.ops [
 oo 227 (.fieldAddr 4 (.tmp 1)),
 oo 228 (.load1 (.tmp 227)),
 oo 229 (.move (.tmp 17)),
 oo 230 (.idxAddrSl 1 (.tmp 228) (.tmp 229)),
 oo 231 (.load1 (.tmp 230)),
 oo 232 (.len (.tmp 231)),
 oo 233 (.bin .gtr (.tmp 232) (.cst (.int .i64 2000)))])
 (.cond (.tmp 233)
 (.exit 3)
 .skip))
 (.seq (.ops [
 oo 235 (.move (.tmp 5)),
 oo 236 (.fieldAddr 4 (.tmp 1)),
 oo 237 (.load1 (.tmp 236)),
 oo 238 (.move (.tmp 17)),
 oo 239 (.idxAddrSl 1 (.tmp 237) (.tmp 238)),
 oo 240 (.load1 (.tmp 239)),
 oo 241 (.call 27 [(.tmp 240)]),
 oo 242 (.call 45 [(.tmp 235), (.tmp 241)]),
 oo 234 (.move (.tmp 242)),
 oo 243 (.extract 0 (.tmp 234)),
 oo 244 (.extract 1 (.tmp 234)),
 oo 18 (.move (.tmp 243)),
 oo 19 (.move (.tmp 244))])
 (.seq (.seq (.ops [
 oo 245 (.move (.tmp 19)),
 oo 246 (.call 11 [(.tmp 245)]),
 oo 247 (.bin .neq (.tmp 246) (.cst (.int .i64 0))),
 oo 248 (.move (.tmp 247)),
 og 249 248 false (.move (.tmp 18)),
 og 250 248 false (.move (.tmp 7)),
 og 251 248 false (.len (.tmp 250)),
 og 252 248 false (.convInt .u64 (.tmp 251)),
 og 253 248 false (.bin .neq (.tmp 249) (.tmp 252)),
 oo 254 (.pick (.tmp 248) (.cst (.bool true)) (.tmp 253))])
 (.cond (.tmp 254)
 (.seq (.ops [
 oo 2 (.move (.cst (.bool false)))])
 .ret)
 .skip))
 (.ops [
 oo 255 (.move (.tmp 7)),
 oo 256 (.fieldAddr 4 (.tmp 1)),
 oo 257 (.load1 (.tmp 256)),
 oo 258 (.move (.tmp 17)),
 oo 259 (.idxAddrSl 1 (.tmp 257) (.tmp 258)),
 oo 260 (.load1 (.tmp 259)),
 oo 261 (.buildSlice 41 [(.slice none 0 0)] 1 [(0, 1, (.tmp 260))]),
 oo 262 (.append 41 1 24 (.tmp 255) (.tmp 261)),
 oo 7 (.move (.tmp 262))])))))
 (.ops [
 oo 225 (.move (.tmp 17)),
 oo 226 (.bin .add (.tmp 225) (.cst (.int .i64 1))),
 oo 17 (.move (.tmp 226))])))
def k9_0 : ACode := (.seq (.ops [
 oo 263 (.move (.tmp 5)),
 oo 264 (.move (.tmp 7)),
 oo 265 (.call 49 [(.tmp 263), (.tmp 264)]),
 oo 266 (.move (.tmp 265)),
 og 267 266 true (.call 23 []),
 oo 268 (.pick (.tmp 266) (.tmp 267) (.cst (.bool false))),
 oo 2 (.move (.tmp 268))])
 .ret)
def k9_1 : ACode := (.seq (.ops [
 oo 124 (.move (.tmp 5)),
 oo 125 (.move (.tmp 7)),
 oo 126 (.len (.tmp 125)),
 oo 127 (.convInt .u64 (.tmp 126)),
 oo 128 (.call 25 [(.tmp 124), (.tmp 127)]),
 oo 123 (.move (.tmp 128)),
 oo 129 (.extract 0 (.tmp 123)),
 oo 130 (.extract 1 (.tmp 123)),
 oo 14 (.box 35 (.cst (.agg ⟨[(.int .u64 0), (.int .u8 0), (.int .u8 0), (.int .u8 0), (.int .u8 0), (.int .u8 0), (.int .u8 0), (.int .u8 0), (.int .u8 0), (.int .u8 0), (.int .u8 0), (.int .u8 0), (.int .u8 0), (.int .u8 0), (.int .u8 0), (.int .u8 0), (.int .u8 0), (.int .u8 0), (.int .u8 0), (.int .u8 0), (.int .u8 0), (.int .u8 0), (.int .u8 0), (.int .u8 0), (.int .u8 0), (.int .u8 0), (.int .u8 0), (.int .u8 0), (.int .u8 0), (.int .u8 0), (.int .u8 0), (.int .u8 0), (.int .u8 0)]⟩))),
 ⟨none, none, .storeN 33 (.tmp 14) (.tmp 129), []⟩,
 oo 15 (.move (.tmp 130))])
 (.seq (.seq (.ops [
 oo 131 (.move (.tmp 15)),
 oo 132 (.call 11 [(.tmp 131)]),
 oo 133 (.bin .neq (.tmp 132) (.cst (.int .i64 0))),
 oo 134 (.move (.tmp 133)),
 og 135 134 false (.move (.tmp 5)),
 og 136 134 false (.call 35 [(.tmp 135)]),
 og 137 134 false (.move (.tmp 7)),
 og 138 134 false (.len (.tmp 137)),
 og 139 134 false (.convInt .u64 (.tmp 138)),
 og 140 134 false (.bin .neq (.tmp 136) (.tmp 139)),
 oo 141 (.pick (.tmp 134) (.cst (.bool true)) (.tmp 140))])
 (.cond (.tmp 141)
 (.seq (.ops [
 oo 2 (.move (.cst (.bool false)))])
 .ret)
 .skip))
 (.seq (.draw [
 oo 142 (.move (.tmp 3)),
 oo 143 (.fieldAddr 3 (.tmp 1)),
 oo 144 (.load1 (.tmp 143)),
 oo 145 (.call 33 [(.tmp 144), (.cst (.int .i64 3))]),
 oo 146 (.fieldAddr 2 (.tmp 1)),
 oo 147 (.load1 (.tmp 146)),
 oo 148 (.call 44 [(.tmp 142), (.tmp 145), (.tmp 147)])])
 (.seq (.ops [
 oo 149 (.move (.tmp 3)),
 oo 150 (.call 48 [(.tmp 149)])])
 (.seq (.ops [
 oo 152 (.move (.tmp 3)),
 oo 153 (.call 43 [(.tmp 152), (.cst (.string ⟨⟨[97, 117, 100, 105, 116]⟩⟩))]),
 oo 151 (.move (.tmp 153)),
 oo 154 (.extract 0 (.tmp 151)),
 oo 155 (.extract 1 (.tmp 151)),
 oo 5 (.move (.tmp 154)),
 oo 6 (.move (.tmp 155))])
 (.seq (.seq (.ops [
 oo 156 (.move (.tmp 5)),
 oo 157 (.eq false .nilP (.tmp 156) (.cst (.pointer none)))])
 (.cond (.tmp 157)
 (.seq (.seq (.ops [
 oo 158 (.move (.tmp 6)),
 oo 159 (.call 11 [(.tmp 158)]),
 oo 160 (.bin .neq (.tmp 159) (.cst (.int .i64 94))),
 oo 161 (.move (.tmp 160)),
 og 162 161 false (.move (.tmp 3)),
 og 163 161 false (.call 47 [(.tmp 162)]),
 og 164 161 false (.un .not (.tmp 163)),
 oo 165 (.pick (.tmp 161) (.cst (.bool true)) (.tmp 164))])
 (.cond (.tmp 165)
 (.seq (.ops [
 oo 2 (.move (.cst (.bool false)))])
 .ret)
 .skip))
 (.seq (.ops [
 oo 166 (.move (.tmp 3)),
 oo 167 (.call 48 [(.tmp 166)])])
 (.ops [
 oo 169 (.move (.tmp 3)),
 oo 170 (.call 43 [(.tmp 169), (.cst (.string ⟨⟨[97, 117, 100, 105, 116]⟩⟩))]),
 oo 168 (.move (.tmp 170)),
 oo 171 (.extract 0 (.tmp 168)),
 oo 172 (.extract 1 (.tmp 168)),
 oo 5 (.move (.tmp 171)),
 oo 6 (.move (.tmp 172))])))
 .skip))
 (.seq (.ops [
 oo 173 (.move (.tmp 3)),
 oo 174 (.call 44 [(.tmp 173), (.cst (.int .i64 0)), (.cst (.int .i64 0))])])
 (.seq (.seq (.ops [
 oo 175 (.move (.tmp 6)),
 oo 176 (.call 11 [(.tmp 175)]),
 oo 177 (.bin .neq (.tmp 176) (.cst (.int .i64 0))),
 oo 178 (.move (.tmp 177)),
 og 179 178 false (.move (.tmp 5)),
 og 180 178 false (.eq false .nilP (.tmp 179) (.cst (.pointer none))),
 oo 181 (.pick (.tmp 178) (.cst (.bool true)) (.tmp 180))])
 (.cond (.tmp 181)
 (.seq (.ops [
 oo 2 (.move (.cst (.bool false)))])
 .ret)
 .skip))
 (.seq (.seq (.ops [
 oo 182 (.move (.tmp 9)),
 oo 183 (.move (.tmp 182)),
 og 184 183 true (.fieldAddr 2 (.tmp 1)),
 og 185 183 true (.load1 (.tmp 184)),
 og 186 183 true (.move (.tmp 8)),
 og 187 183 true (.len (.tmp 186)),
 og 188 183 true (.bin .add (.tmp 187) (.cst (.int .i64 13))),
 og 189 183 true (.bin .geq (.tmp 185) (.tmp 188)),
 oo 190 (.pick (.tmp 183) (.tmp 189) (.cst (.bool false)))])
 (.cond (.tmp 190)
 (.ops [
 oo 191 (.move (.tmp 7)),
 oo 192 (.move (.tmp 8)),
 oo 193 (.buildSlice 41 [(.slice none 0 0)] 1 [(0, 1, (.tmp 192))]),
 oo 194 (.append 41 1 24 (.tmp 191) (.tmp 193)),
 oo 7 (.move (.tmp 194))])
 .skip))
 (.seq (.ops [
 oo 196 (.move (.tmp 5)),
 oo 197 (.fieldAddr 0 (.tmp 14)),
 oo 198 (.load1 (.tmp 197)),
 oo 199 (.call 25 [(.tmp 196), (.tmp 198)]),
 oo 195 (.move (.tmp 199)),
 oo 200 (.extract 0 (.tmp 195)),
 oo 201 (.extract 1 (.tmp 195)),
 oo 16 (.box 35 (.cst (.agg ⟨[(.int .u64 0), (.int .u8 0), (.int .u8 0), (.int .u8 0), (.int .u8 0), (.int .u8 0), (.int .u8 0), (.int .u8 0), (.int .u8 0), (.int .u8 0), (.int .u8 0), (.int .u8 0), (.int .u8 0), (.int .u8 0), (.int .u8 0), (.int .u8 0), (.int .u8 0), (.int .u8 0), (.int .u8 0), (.int .u8 0), (.int .u8 0), (.int .u8 0), (.int .u8 0), (.int .u8 0), (.int .u8 0), (.int .u8 0), (.int .u8 0), (.int .u8 0), (.int .u8 0), (.int .u8 0), (.int .u8 0), (.int .u8 0), (.int .u8 0)]⟩))),
 ⟨none, none, .storeN 33 (.tmp 16) (.tmp 200), []⟩,
 oo 15 (.move (.tmp 201))])
 (.seq (.seq (.ops [
 oo 202 (.move (.tmp 15)),
 oo 203 (.call 11 [(.tmp 202)]),
 oo 204 (.bin .neq (.tmp 203) (.cst (.int .i64 0))),
 oo 205 (.move (.tmp 204)),
 og 206 205 false (.loadN 33 (.tmp 16)),
 og 207 205 false (.loadN 33 (.tmp 14)),
 og 208 205 false (.eq true (.flat [.i, .i, .i, .i, .i, .i, .i, .i, .i, .i, .i, .i, .i, .i, .i, .i, .i, .i, .i, .i, .i, .i, .i, .i, .i, .i, .i, .i, .i, .i, .i, .i, .i]) (.tmp 206) (.tmp 207)),
 oo 209 (.pick (.tmp 205) (.cst (.bool true)) (.tmp 208)),
 oo 210 (.move (.tmp 209)),
 og 211 210 false (.move (.tmp 5)),
 og 212 210 false (.move (.tmp 7)),
 og 213 210 false (.call 49 [(.tmp 211), (.tmp 212)]),
 og 214 210 false (.un .not (.tmp 213)),
 oo 215 (.pick (.tmp 210) (.cst (.bool true)) (.tmp 214))])
 (.cond (.tmp 215)
 (.seq (.ops [
 oo 2 (.move (.cst (.bool false)))])
 .ret)
 .skip))
 (.seq (.seq (.ops [
 oo 17 (.move (.cst (.int .i64 0)))])
 (.block 2 (.loop lp9_1)))
 k9_0))))))))))))
def b9 : ACode := (.seq (.ops [
 oo 1 (.box 112 (.tmp 0)),
 oo 2 (.move (.cst (.bool false)))])
 (.seq (.ops [
 oo 21 (.call 42 [(.cst (.int .i64 4194304))]),
 oo 20 (.move (.tmp 21)),
 oo 22 (.extract 0 (.tmp 20)),
 oo 23 (.extract 1 (.tmp 20)),
 oo 3 (.move (.tmp 22)),
 oo 4 (.move (.tmp 23))])
 (.seq (.seq (.ops [
 oo 24 (.move (.tmp 4)),
 oo 25 (.call 11 [(.tmp 24)]),
 oo 26 (.bin .neq (.tmp 25) (.cst (.int .i64 0)))])
 (.cond (.tmp 26)
 (.seq (.ops [
 oo 2 (.move (.cst (.bool false)))])
 .ret)
 .skip))
 (.seq (.ops [
 oo 28 (.move (.tmp 3)),
 oo 29 (.call 43 [(.tmp 28), (.cst (.string ⟨⟨[97, 117, 100, 105, 116]⟩⟩))]),
 oo 27 (.move (.tmp 29)),
 oo 30 (.extract 0 (.tmp 27)),
 oo 31 (.extract 1 (.tmp 27)),
 oo 5 (.move (.tmp 30)),
 oo 6 (.move (.tmp 31))])
 (.seq (.seq (.ops [
 oo 32 (.move (.tmp 6)),
 oo 33 (.call 11 [(.tmp 32)]),
 oo 34 (.bin .neq (.tmp 33) (.cst (.int .i64 0))),
 oo 35 (.move (.tmp 34)),
 og 36 35 false (.move (.tmp 5)),
 og 37 35 false (.eq false .nilP (.tmp 36) (.cst (.pointer none))),
 oo 38 (.pick (.tmp 35) (.cst (.bool true)) (.tmp 37))])
 (.cond (.tmp 38)
 (.seq (.ops [
 oo 2 (.move (.cst (.bool false)))])
 .ret)
 .skip))
 (.seq (.draw [
 oo 39 (.move (.tmp 3)),
 oo 40 (.fieldAddr 1 (.tmp 1)),
 oo 41 (.load1 (.tmp 40)),
 oo 42 (.call 33 [(.tmp 41), (.cst (.int .i64 30))]),
 oo 43 (.bin .add (.cst (.int .i64 1)) (.tmp 42)),
 oo 44 (.fieldAddr 2 (.tmp 1)),
 oo 45 (.load1 (.tmp 44)),
 oo 46 (.call 44 [(.tmp 39), (.tmp 43), (.tmp 45)])])
 (.seq (.ops [
 oo 7 (.move (.cst (.slice none 0 0)))])
 (.seq (.ops [
 oo 8 (.move (.cst (.slice none 0 0)))])
 (.seq (.ops [
 oo 9 (.move (.cst (.bool false)))])
 (.seq (.ops [
 oo 10 (.move (.cst (.int .i64 200000)))])
 (.seq (.seq (.ops [
 oo 11 (.move (.cst (.int .i64 0)))])
 (.block 0 (.loop lp9_0)))
 k9_1)))))))))))
def r9 : List ARes := [.tmp 2]
def a9 : AFn := ⟨b9, r9, 0⟩
def b44 : ACode := (.seq (.ops [
 oo 6 (.move (.tmp 0)),
 oo 7 (.nilCheck (.tmp 6)),
 oo 8 (.fieldAddr 0 (.tmp 7)),
 oo 9 (.call 74 [(.tmp 8)])])
 (.seq (.ops [
 oo 10 (.move (.tmp 0)),
 oo 11 (.nilCheck (.tmp 10)),
 oo 12 (.fieldAddr 0 (.tmp 11)),
 ⟨none, none, .defer (.cst (.func (.func 75) ⟨[]⟩ ⟨[]⟩)) [(.tmp 12)], []⟩])
 (.ops [
 oo 13 (.move (.tmp 0)),
 oo 14 (.move (.tmp 0)),
 oo 15 (.move (.tmp 1)),
 oo 16 (.max2 (.cst (.int .i64 0)) (.tmp 15)),
 oo 17 (.move (.tmp 2)),
 oo 18 (.nilCheck (.tmp 13)),
 oo 19 (.fieldAddr 5 (.tmp 18)),
 ⟨none, none, .store1 (.tmp 19) (.tmp 16), []⟩,
 oo 20 (.nilCheck (.tmp 14)),
 oo 21 (.fieldAddr 6 (.tmp 20)),
 ⟨none, none, .store1 (.tmp 21) (.tmp 17), []⟩])))
def r44 : List ARes := []
def a44 : AFn := ⟨b44, r44, 0⟩
def b47 : ACode := (.seq (.ops [
 oo 2 (.move (.cst (.bool false)))])
 (.seq (.ops [
 oo 3 (.move (.tmp 0)),
 oo 4 (.nilCheck (.tmp 3)),
 oo 5 (.fieldAddr 0 (.tmp 4)),
 oo 6 (.call 74 [(.tmp 5)])])
 (.seq (.ops [
 oo 7 (.move (.tmp 0)),
 oo 8 (.nilCheck (.tmp 7)),
 oo 9 (.fieldAddr 0 (.tmp 8)),
 ⟨none, none, .defer (.cst (.func (.func 75) ⟨[]⟩ ⟨[]⟩)) [(.tmp 9)], []⟩])
 (.seq (.ops [
 oo 10 (.move (.tmp 0)),
 oo 11 (.nilCheck (.tmp 10)),
 oo 12 (.fieldAddr 7 (.tmp 11)),
 oo 13 (.load1 (.tmp 12)),
 oo 2 (.move (.tmp 13))])
 .ret))))
def r47 : List ARes := [.tmp 2]
def a47 : AFn := ⟨b47, r47, 0⟩
def b48 : ACode := (.seq (.ops [
 oo 2 (.move (.tmp 0)),
 oo 3 (.nilCheck (.tmp 2)),
 oo 4 (.fieldAddr 0 (.tmp 3)),
 oo 5 (.call 74 [(.tmp 4)])])
 (.seq (.ops [
 oo 6 (.move (.tmp 0)),
 oo 7 (.nilCheck (.tmp 6)),
 oo 8 (.fieldAddr 0 (.tmp 7)),
 ⟨none, none, .defer (.cst (.func (.func 75) ⟨[]⟩ ⟨[]⟩)) [(.tmp 8)], []⟩])
 (.ops [
 oo 9 (.move (.tmp 0)),
 oo 10 (.nilCheck (.tmp 9)),
 oo 11 (.fieldAddr 7 (.tmp 10)),
 ⟨none, none, .store1 (.tmp 11) (.cst (.bool false)), []⟩])))
def r48 : List ARes := []
def a48 : AFn := ⟨b48, r48, 0⟩
def ra49_0 : ACode := (.seq (.ops [
 oo 6 (.move (.tmp 10))])
 (.ops [
 oo 7 (.move (.tmp 11))]))
def rb49_0 : ACode := (.block 1 (.seq (.seq (.ops [
 oo 12 (.load1 (.tmp 5)),
 oo 13 (.load1 (.tmp 3)),
 oo 14 (.len (.tmp 13)),
 oo 15 (.bin .geq (.tmp 12) (.tmp 14)),
 oo 16 (.move (.tmp 15)),
 og 17 16 false (.move (.tmp 6)),
 og 18 16 false (.load1 (.tmp 5)),
 og 19 16 false (.convInt .u64 (.tmp 18)),
 og 20 16 false (.bin .neq (.tmp 17) (.tmp 19)),
 oo 21 (.pick (.tmp 16) (.cst (.bool true)) (.tmp 20)),
 oo 22 (.move (.tmp 21)),
 og 23 22 false (.move (.tmp 7)),
 og 24 22 false (.load1 (.tmp 3)),
 og 25 22 false (.load1 (.tmp 5)),
 og 26 22 false (.idxAddrSl 1 (.tmp 24) (.tmp 25)),
 og 27 22 false (.load1 (.tmp 26)),
 og 28 22 false (.call 39 [(.tmp 23), (.tmp 27)]),
 og 29 22 false (.un .not (.tmp 28)),
 oo 30 (.pick (.tmp 22) (.cst (.bool true)) (.tmp 29))])
 (.cond (.tmp 30)
 (.seq (.ops [
 ⟨none, none, .store1 (.tmp 4) (.cst (.bool false)), []⟩])
 .ret)
 .skip))
 (.ops [
 oo 31 (.load1 (.tmp 5)),
 oo 32 (.bin .add (.tmp 31) (.cst (.int .i64 1))),
 ⟨none, none, .store1 (.tmp 5) (.tmp 32), []⟩])))
def k49_0 (A0 B0 : Code) : ACode := (.seq (.draw [
 oo 33 (.load1 (.tmp 5)),
 oo 34 (.load1 (.tmp 3)),
 oo 35 (.len (.tmp 34)),
 oo 36 (.bin .eql (.tmp 33) (.tmp 35)),
 oo 37 (.move (.tmp 36)),
 og 38 37 true (.move (.tmp 0)),
 ⟨(some 40), (some (37, true)), .load1 (.tmp 5), [11]⟩,
 og 41 37 true (.convInt .u64 (.tmp 40)),
 og 39 37 true (.call 35 [(.tmp 38)]),
 og 42 37 true (.bin .eql (.tmp 39) (.tmp 41)),
 oo 43 (.pick (.tmp 37) (.tmp 42) (.cst (.bool false))),
 ⟨none, none, .store1 (.tmp 4) (.tmp 43), []⟩])
 .ret)
def b49 (A0 B0 : Code) : ACode := (.seq (.ops [
 oo 3 (.box 26 (.tmp 1)),
 oo 4 (.box 4 (.cst (.bool false)))])
 (.seq (.ops [
 oo 5 (.box 3 (.cst (.int .i64 0))),
 ⟨none, none, .store1 (.tmp 5) (.cst (.int .i64 0)), []⟩])
 (.seq (.seq (.ops [
 oo 8 (.move (.tmp 0)),
 oo 9 (.call 88 [(.tmp 8)])])
 (.block 0 (.rfunc (.tmp 9) [10, 11] A0 B0 44)))
 (k49_0 A0 B0))))
def r49 : List ARes := [.cell1 4]
def a49 (A0 B0 : Code) : AFn := ⟨b49 A0 B0, r49, 0⟩
def b88 : ACode := (.seq (.ops [
 oo 1 (.box 51 (.tmp 0)),
 oo 2 (.move (.cst .nilFunc))])
 (.seq (.ops [
 oo 3 (.mkFunc 152 [] [(.tmp 1)]),
 oo 2 (.move (.tmp 3))])
 .ret))
def r88 : List ARes := [.tmp 2]
def a88 : AFn := ⟨b88, r88, 0⟩
def b150 : ACode := (.seq (.ops [
 oo 3 (.box 113 (.tmp 0)),
 oo 4 (.box 9 (.tmp 1)),
 oo 5 (.box 3 (.tmp 2)),
 oo 6 (.move (.cst (.int .i64 0)))])
 (.seq (.ops [
 oo 9 (.load1 (.tmp 3)),
 oo 10 (.nilCheck (.tmp 9)),
 oo 11 (.fieldAddr 0 (.tmp 10)),
 oo 12 (.call 74 [(.tmp 11)])])
 (.seq (.ops [
 oo 13 (.load1 (.tmp 3)),
 oo 14 (.nilCheck (.tmp 13)),
 oo 15 (.fieldAddr 0 (.tmp 14)),
 ⟨none, none, .defer (.cst (.func (.func 75) ⟨[]⟩ ⟨[]⟩)) [(.tmp 15)], []⟩])
 (.seq (.seq (.ops [
 oo 16 (.load1 (.tmp 3)),
 oo 17 (.load1 (.tmp 4)),
 oo 18 (.buildSlice 9 [(.string ⟨⟨[]⟩⟩)] 1 [(0, 1, (.tmp 17))]),
 oo 19 (.call 157 [(.tmp 16), (.cst (.bool true)), (.tmp 18)]),
 oo 7 (.move (.tmp 19))])
 (.seq (.ops [
 oo 20 (.move (.tmp 7)),
 oo 21 (.bin .neq (.tmp 20) (.cst (.int .i64 0)))])
 (.cond (.tmp 21)
 (.seq (.ops [
 oo 22 (.move (.tmp 7)),
 oo 6 (.move (.tmp 22))])
 .ret)
 .skip)))
 (.seq (.draw [
 oo 8 (.box 41 (.cst (.slice none 0 0))),
 oo 23 (.load1 (.tmp 3)),
 oo 24 (.nilCheck (.tmp 23)),
 oo 25 (.fieldAddr 4 (.tmp 24)),
 oo 26 (.load1 (.tmp 25)),
 oo 27 (.load1 (.tmp 4)),
 oo 28 (.lookup .s (.slice none 0 0) false (.tmp 26) (.tmp 27)),
 ⟨none, none, .store1 (.tmp 8) (.tmp 28), []⟩])
 (.seq (.seq (.ops [
 oo 29 (.load1 (.tmp 5)),
 oo 30 (.bin .lss (.tmp 29) (.cst (.int .i64 0))),
 oo 31 (.move (.tmp 30)),
 og 32 31 false (.load1 (.tmp 5)),
 og 33 31 false (.load1 (.tmp 8)),
 og 34 31 false (.len (.tmp 33)),
 og 35 31 false (.bin .gtr (.tmp 32) (.tmp 34)),
 oo 36 (.pick (.tmp 31) (.cst (.bool true)) (.tmp 35))])
 (.cond (.tmp 36)
 (.seq (.ops [
 oo 6 (.move (.cst (.int .i64 95)))])
 .ret)
 .skip))
 (.seq (.ops [
 oo 37 (.load1 (.tmp 3)),
 oo 38 (.mkFunc 219 [] [(.tmp 3), (.tmp 8), (.tmp 5), (.tmp 4)]),
 oo 39 (.call 218 [(.tmp 37), (.tmp 38)]),
 oo 6 (.move (.tmp 39))])
 .ret)))))))
def r150 : List ARes := [.tmp 6]
def a150 : AFn := ⟨b150, r150, 0⟩
def lp152_0 : ACode := (.seq (.ops [
 oo 9 (.bin .lss (.tmp 8) (.tmp 7))])
 (.seq (.cond (.tmp 9)
 .skip
 (.exit 0))
 (.seq (.block 1 (.seq (.ops [
 oo 10 (.move (.tmp 8)),
 oo 3 (.move (.tmp 10))])
 (.seq (.ops [
 oo 12 (.load1 (.tmp 1)),
 oo 13 (.move (.tmp 3)),
 oo 14 (.call 153 [(.tmp 12), (.tmp 13)]),
 oo 11 (.move (.tmp 14)),
 oo 15 (.extract 0 (.tmp 11)),
 oo 16 (.extract 1 (.tmp 11)),
 oo 4 (.move (.tmp 15)),
 oo 5 (.move (.tmp 16))])
 (.seq (.ops [
 oo 17 (.move (.tmp 0)),
 oo 18 (.move (.tmp 3)),
 oo 19 (.move (.tmp 4)),
 oo 20 (.callv (.tmp 17) [(.tmp 18), (.tmp 19)]),
 oo 21 (.un .not (.tmp 20))])
 (.cond (.tmp 21)
 .ret
 .skip)))))
 (.ops [
 oo 22 (.bin .add (.tmp 8) (.cst (.int .u64 1))),
 oo 8 (.move (.tmp 22))]))))
def b152 : ACode := (.seq (.ops [
 oo 6 (.load1 (.tmp 1)),
 oo 7 (.call 35 [(.tmp 6)]),
 oo 8 (.move (.cst (.int .u64 0)))])
 (.block 0 (.loop lp152_0)))
def r152 : List ARes := []
def a152 : AFn := ⟨b152, r152, 0⟩
def b153 : ACode := (.seq (.ops [
 oo 4 (.move (.cst (.slice none 0 0))),
 oo 5 (.move (.cst (.int .i64 0)))])
 (.seq (.ops [
 oo 6 (.move (.tmp 0)),
 oo 7 (.nilCheck (.tmp 6)),
 oo 8 (.fieldAddr 0 (.tmp 7)),
 oo 9 (.call 74 [(.tmp 8)])])
 (.seq (.ops [
 oo 10 (.move (.tmp 0)),
 oo 11 (.nilCheck (.tmp 10)),
 oo 12 (.fieldAddr 0 (.tmp 11)),
 ⟨none, none, .defer (.cst (.func (.func 75) ⟨[]⟩ ⟨[]⟩)) [(.tmp 12)], []⟩])
 (.seq (.seq (.ops [
 oo 13 (.move (.tmp 1)),
 oo 14 (.move (.tmp 0)),
 oo 15 (.nilCheck (.tmp 14)),
 oo 16 (.fieldAddr 3 (.tmp 15)),
 oo 17 (.load1 (.tmp 16)),
 oo 18 (.len (.tmp 17)),
 oo 19 (.convInt .u64 (.tmp 18)),
 oo 20 (.bin .geq (.tmp 13) (.tmp 19))])
 (.cond (.tmp 20)
 (.seq (.ops [
 oo 4 (.move (.cst (.slice none 0 0))),
 oo 5 (.move (.cst (.int .i64 230)))])
 .ret)
 .skip))
 (.seq (.ops [
 oo 21 (.move (.tmp 0)),
 oo 22 (.nilCheck (.tmp 21)),
 oo 23 (.fieldAddr 3 (.tmp 22)),
 oo 24 (.load1 (.tmp 23)),
 oo 25 (.move (.tmp 1)),
 oo 26 (.idxAddrSl 1 (.tmp 24) (.tmp 25)),
 oo 27 (.load1 (.tmp 26)),
 oo 28 (.call 87 [(.tmp 27)]),
 oo 4 (.move (.tmp 28)),
 oo 5 (.move (.cst (.int .i64 0)))])
 .ret)))))
def r153 : List ARes := [.tmp 4, .tmp 5]
def a153 : AFn := ⟨b153, r153, 0⟩
def b218 : ACode := (.seq (.ops [
 oo 3 (.box 1 (.tmp 1)),
 oo 4 (.move (.cst (.int .i64 0)))])
 (.seq (.ops [
 oo 5 (.move (.tmp 0)),
 oo 6 (.load1 (.tmp 3)),
 oo 7 (.mkFunc 245 [] [(.tmp 3)]),
 oo 8 (.call 159 [(.tmp 5), (.tmp 6), (.tmp 7)]),
 oo 4 (.move (.tmp 8))])
 .ret))
def r218 : List ARes := [.tmp 4]
def a218 : AFn := ⟨b218, r218, 0⟩
def b219 : ACode := (.seq (.draw [
 oo 4 (.load1 (.tmp 0)),
 oo 5 (.nilCheck (.tmp 4)),
 oo 6 (.fieldAddr 3 (.tmp 5)),
 oo 7 (.load1 (.tmp 6)),
 oo 8 (.load1 (.tmp 1)),
 oo 9 (.len (.tmp 8)),
 oo 10 (.load1 (.tmp 2)),
 oo 11 (.bin .sub (.tmp 9) (.tmp 10)),
 oo 12 (.bin .sub (.tmp 7) (.tmp 11)),
 oo 13 (.nilCheck (.tmp 4)),
 oo 14 (.fieldAddr 3 (.tmp 13)),
 ⟨none, none, .store1 (.tmp 14) (.tmp 12), []⟩])
 (.draw [
 oo 15 (.load1 (.tmp 0)),
 oo 16 (.nilCheck (.tmp 15)),
 oo 17 (.fieldAddr 4 (.tmp 16)),
 oo 18 (.load1 (.tmp 17)),
 oo 19 (.load1 (.tmp 3)),
 oo 20 (.load1 (.tmp 1)),
 oo 21 (.load1 (.tmp 2)),
 oo 22 (.sliceSl 1 (.tmp 20) none (some (.tmp 21)) none),
 ⟨none, none, .mapUpd .s (.tmp 18) (.tmp 19) (.tmp 22), []⟩]))
def r219 : List ARes := []
def a219 : AFn := ⟨b219, r219, 0⟩
def b245 : ACode := (.seq (.ops [
 oo 3 (.move (.tmp 0)),
 oo 4 (.bin .gtr (.tmp 3) (.cst (.int .i64 0)))])
 (.cond (.tmp 4)
 (.ops [
 oo 5 (.load1 (.tmp 1)),
 oo 6 (.callv (.tmp 5) [])])
 .skip))
def r245 : List ARes := []
def a245 : AFn := ⟨b245, r245, 0⟩

structure Tab_LStan (C : Ctx) : Prop where
  h9 : C.T 9 = some (.fn a9)
  h44 : C.T 44 = some (.fn a44)
  h47 : C.T 47 = some (.fn a47)
  h48 : C.T 48 = some (.fn a48)
  h88 : C.T 88 = some (.fn a88)
  h150 : C.T 150 = some (.fn a150)
  h152 : C.T 152 = some (.fn a152)
  h153 : C.T 153 = some (.fn a153)
  h218 : C.T 218 = some (.fn a218)
  h219 : C.T 219 = some (.fn a219)
  h245 : C.T 245 = some (.fn a245)
  h49 : ∃ A0 B0, C.T 49 = some (.fn (a49 A0 B0)) ∧ C.cc 44 A0 = ra49_0 ∧ C.cc 44 B0 = rb49_0
end Go.Ab.Aud

namespace Go.Ab.Aud
def b11 : ACode := (.seq (.ops [
 oo 2 (.move (.cst (.int .i64 0)))])
 (.seq (.ops [
 oo 3 (.move (.tmp 0)),
 oo 2 (.move (.tmp 3))])
 .ret))
def r11 : List ARes := [.tmp 2]
def a11 : AFn := ⟨b11, r11, 0⟩
def b27 : ACode := (.seq (.ops [
 oo 2 (.move (.cst (.slice none 0 0)))])
 (.seq (.ops [
 oo 3 (.move (.cst (.slice none 0 0)))])
 (.seq (.ops [
 oo 4 (.move (.tmp 3)),
 oo 5 (.move (.tmp 0)),
 oo 6 (.append 5 1 1 (.tmp 4) (.tmp 5)),
 oo 3 (.move (.tmp 6))])
 (.seq (.ops [
 oo 7 (.move (.tmp 3)),
 oo 2 (.move (.tmp 7))])
 .ret))))
def r27 : List ARes := [.tmp 2]
def a27 : AFn := ⟨b27, r27, 0⟩
def lp70_0 : ACode := (.seq (.seq (.ops [
 oo 4 (.move (.tmp 3)),
 oo 5 (.move (.tmp 0)),
 oo 6 (.move (.tmp 3)),
 oo 7 (.bin .sub (.tmp 5) (.tmp 6)),
 oo 8 (.bin .lss (.tmp 4) (.tmp 7))])
 (.cond (.tmp 8)
 .skip
 (.exit 0)))
 (.block 1 (.ops [
 oo 9 (.move (.tmp 3)),
 oo 10 (.bin .mul (.cst (.int .u64 2)) (.tmp 9)),
 oo 3 (.move (.tmp 10))])))
def k70_0 : ACode := (.seq (.ops [
 oo 11 (.move (.tmp 3)),
 oo 2 (.move (.tmp 11))])
 .ret)
def b70 : ACode := (.seq (.ops [
 oo 2 (.move (.cst (.int .u64 0)))])
 (.seq (.ops [
 oo 3 (.move (.cst (.int .u64 1)))])
 (.seq (.block 0 (.loop lp70_0))
 k70_0)))
def r70 : List ARes := [.tmp 2]
def a70 : AFn := ⟨b70, r70, 0⟩
def lp39_0 : ACode := (.seq (.seq (.ops [
 oo 11 (.move (.tmp 5)),
 oo 12 (.move (.tmp 0)),
 oo 13 (.len (.tmp 12)),
 oo 14 (.bin .lss (.tmp 11) (.tmp 13))])
 (.cond (.tmp 14)
 .skip
 (.exit 0)))
 (.seq (.block 1 (.seq (.draw [
 oo 17 (.move (.tmp 0)),
 oo 18 (.move (.tmp 5)),
 oo 19 (.idxAddrSl 1 (.tmp 17) (.tmp 18)),
 oo 20 (.load1 (.tmp 19)),
 oo 21 (.move (.tmp 1)),
 oo 22 (.move (.tmp 5)),
 oo 23 (.idxAddrSl 1 (.tmp 21) (.tmp 22)),
 oo 24 (.load1 (.tmp 23)),
 oo 25 (.bin .neq (.tmp 20) (.tmp 24))])
 (.cond (.tmp 25)
 (.seq (.ops [
 oo 4 (.move (.cst (.bool false)))])
 .ret)
 .skip)))
 (.ops [
 oo 15 (.move (.tmp 5)),
 oo 16 (.bin .add (.tmp 15) (.cst (.int .i64 1))),
 oo 5 (.move (.tmp 16))])))
def k39_0 : ACode := (.seq (.ops [
 oo 4 (.move (.cst (.bool true)))])
 .ret)
def b39 : ACode := (.seq (.ops [
 oo 4 (.move (.cst (.bool false)))])
 (.seq (.seq (.ops [
 oo 6 (.move (.tmp 0)),
 oo 7 (.len (.tmp 6)),
 oo 8 (.move (.tmp 1)),
 oo 9 (.len (.tmp 8)),
 oo 10 (.bin .neq (.tmp 7) (.tmp 9))])
 (.cond (.tmp 10)
 (.seq (.ops [
 oo 4 (.move (.cst (.bool false)))])
 .ret)
 .skip))
 (.seq (.seq (.ops [
 oo 5 (.move (.cst (.int .i64 0)))])
 (.block 0 (.loop lp39_0)))
 k39_0)))
def r39 : List ARes := [.tmp 4]
def a39 : AFn := ⟨b39, r39, 2⟩
def b71 : ACode := (.seq (.ops [
 oo 2 (.box 30 (.tmp 0)),
 oo 3 (.box 30 (.tmp 1)),
 oo 4 (.box 158 (.cst (.agg ⟨[(.slice none 0 0), (.int .u8 0), (.int .u8 0), (.int .u8 0), (.int .u8 0), (.int .u8 0), (.int .u8 0), (.int .u8 0), (.int .u8 0), (.int .u8 0), (.int .u8 0), (.int .u8 0), (.int .u8 0), (.int .u8 0), (.int .u8 0), (.int .u8 0), (.int .u8 0), (.int .u8 0), (.int .u8 0), (.int .u8 0), (.int .u8 0), (.int .u8 0), (.int .u8 0), (.int .u8 0), (.int .u8 0), (.int .u8 0), (.int .u8 0), (.int .u8 0), (.int .u8 0), (.int .u8 0), (.int .u8 0), (.int .u8 0), (.int .u8 0)]⟩)))])
 (.seq (.ops [
 oo 6 (.buildSlice 5 [(.int .u8 0)] 1 [(0, 1, (.cst (.int .u8 1)))]),
 oo 5 (.move (.tmp 6))])
 (.seq (.ops [
 oo 7 (.move (.tmp 5)),
 oo 8 (.sliceArr 1 32 (.tmp 2) none none none),
 oo 9 (.append 5 1 1 (.tmp 7) (.tmp 8)),
 oo 5 (.move (.tmp 9))])
 (.seq (.ops [
 oo 10 (.move (.tmp 5)),
 oo 11 (.sliceArr 1 32 (.tmp 3) none none none),
 oo 12 (.append 5 1 1 (.tmp 10) (.tmp 11)),
 oo 5 (.move (.tmp 12))])
 (.seq (.ops [
 oo 13 (.move (.tmp 5)),
 oo 14 (.move (.tmp 5)),
 oo 15 (.call 27 [(.tmp 14)]),
 oo 16 (.call 57 [(.tmp 15)]),
 oo 17 (.build [(.slice none 0 0), (.int .u8 0), (.int .u8 0), (.int .u8 0), (.int .u8 0), (.int .u8 0), (.int .u8 0), (.int .u8 0), (.int .u8 0), (.int .u8 0), (.int .u8 0), (.int .u8 0), (.int .u8 0), (.int .u8 0), (.int .u8 0), (.int .u8 0), (.int .u8 0), (.int .u8 0), (.int .u8 0), (.int .u8 0), (.int .u8 0), (.int .u8 0), (.int .u8 0), (.int .u8 0), (.int .u8 0), (.int .u8 0), (.int .u8 0), (.int .u8 0), (.int .u8 0), (.int .u8 0), (.int .u8 0), (.int .u8 0), (.int .u8 0)] [(0, 1, (.tmp 13)), (1, 32, (.tmp 16))]),
 ⟨none, none, .storeN 33 (.tmp 4) (.tmp 17), []⟩])
 .ret)))))
def r71 : List ARes := [.cellN 4 33]
def a71 : AFn := ⟨b71, r71, 0⟩
def b28 : ACode := (.seq (.ops [
 oo 6 (.box 30 (.tmp 2)),
 oo 8 (.move (.cst (.slice none 0 0))),
 oo 9 (.box 30 (.cst (.agg ⟨[(.int .u8 0), (.int .u8 0), (.int .u8 0), (.int .u8 0), (.int .u8 0), (.int .u8 0), (.int .u8 0), (.int .u8 0), (.int .u8 0), (.int .u8 0), (.int .u8 0), (.int .u8 0), (.int .u8 0), (.int .u8 0), (.int .u8 0), (.int .u8 0), (.int .u8 0), (.int .u8 0), (.int .u8 0), (.int .u8 0), (.int .u8 0), (.int .u8 0), (.int .u8 0), (.int .u8 0), (.int .u8 0), (.int .u8 0), (.int .u8 0), (.int .u8 0), (.int .u8 0), (.int .u8 0), (.int .u8 0), (.int .u8 0)]⟩)))])
 (.seq (.seq (.ops [
 oo 18 (.move (.tmp 1)),
 oo 19 (.bin .leq (.tmp 18) (.cst (.int .u64 1))),
 oo 20 (.move (.tmp 19)),
 og 21 20 false (.move (.tmp 3)),
 og 22 20 false (.len (.tmp 21)),
 og 23 20 false (.bin .eql (.tmp 22) (.cst (.int .i64 0))),
 oo 24 (.pick (.tmp 20) (.cst (.bool true)) (.tmp 23))])
 (.cond (.tmp 24)
 (.seq (.draw [
 oo 25 (.loadN 32 (.tmp 6)),
 oo 8 (.move (.cst (.slice none 0 0))),
 ⟨none, none, .storeN 32 (.tmp 9) (.tmp 25), []⟩])
 .ret)
 .skip))
 (.seq (.ops [
 oo 26 (.move (.tmp 1)),
 oo 27 (.call 70 [(.tmp 26)]),
 oo 10 (.move (.tmp 27))])
 (.seq (.ops [
 oo 28 (.move (.tmp 3)),
 oo 29 (.move (.tmp 3)),
 oo 30 (.len (.tmp 29)),
 oo 31 (.bin .sub (.tmp 30) (.cst (.int .i64 1))),
 oo 32 (.idxAddrSl 32 (.tmp 28) (.tmp 31)),
 oo 33 (.loadN 32 (.tmp 32)),
 oo 11 (.box 30 (.cst (.agg ⟨[(.int .u8 0), (.int .u8 0), (.int .u8 0), (.int .u8 0), (.int .u8 0), (.int .u8 0), (.int .u8 0), (.int .u8 0), (.int .u8 0), (.int .u8 0), (.int .u8 0), (.int .u8 0), (.int .u8 0), (.int .u8 0), (.int .u8 0), (.int .u8 0), (.int .u8 0), (.int .u8 0), (.int .u8 0), (.int .u8 0), (.int .u8 0), (.int .u8 0), (.int .u8 0), (.int .u8 0), (.int .u8 0), (.int .u8 0), (.int .u8 0), (.int .u8 0), (.int .u8 0), (.int .u8 0), (.int .u8 0), (.int .u8 0)]⟩))),
 ⟨none, none, .storeN 32 (.tmp 11) (.tmp 33), []⟩])
 (.seq (.seq (.ops [
 oo 34 (.move (.tmp 0)),
 oo 35 (.move (.tmp 10)),
 oo 36 (.bin .lss (.tmp 34) (.tmp 35))])
 (.cond (.tmp 36)
 (.seq (.draw [
 oo 13 (.box 30 (.cst (.agg ⟨[(.int .u8 0), (.int .u8 0), (.int .u8 0), (.int .u8 0), (.int .u8 0), (.int .u8 0), (.int .u8 0), (.int .u8 0), (.int .u8 0), (.int .u8 0), (.int .u8 0), (.int .u8 0), (.int .u8 0), (.int .u8 0), (.int .u8 0), (.int .u8 0), (.int .u8 0), (.int .u8 0), (.int .u8 0), (.int .u8 0), (.int .u8 0), (.int .u8 0), (.int .u8 0), (.int .u8 0), (.int .u8 0), (.int .u8 0), (.int .u8 0), (.int .u8 0), (.int .u8 0), (.int .u8 0), (.int .u8 0), (.int .u8 0)]⟩))),
 oo 38 (.move (.tmp 0)),
 oo 39 (.move (.tmp 10)),
 oo 40 (.loadN 32 (.tmp 6)),
 oo 41 (.move (.tmp 3)),
 oo 42 (.move (.tmp 3)),
 oo 43 (.len (.tmp 42)),
 oo 44 (.bin .sub (.tmp 43) (.cst (.int .i64 1))),
 oo 45 (.sliceSl 32 (.tmp 41) none (some (.tmp 44)) none),
 oo 46 (.call 28 [(.tmp 38), (.tmp 39), (.tmp 40), (.tmp 45)]),
 oo 37 (.move (.tmp 46)),
 oo 47 (.extract 0 (.tmp 37)),
 oo 48 (.extract 1 (.tmp 37)),
 oo 12 (.move (.tmp 47)),
 ⟨none, none, .storeN 32 (.tmp 13) (.tmp 48), []⟩])
 (.seq (.ops [
 oo 49 (.loadN 32 (.tmp 13)),
 oo 50 (.loadN 32 (.tmp 11)),
 oo 51 (.call 71 [(.tmp 49), (.tmp 50)]),
 oo 14 (.box 158 (.cst (.agg ⟨[(.slice none 0 0), (.int .u8 0), (.int .u8 0), (.int .u8 0), (.int .u8 0), (.int .u8 0), (.int .u8 0), (.int .u8 0), (.int .u8 0), (.int .u8 0), (.int .u8 0), (.int .u8 0), (.int .u8 0), (.int .u8 0), (.int .u8 0), (.int .u8 0), (.int .u8 0), (.int .u8 0), (.int .u8 0), (.int .u8 0), (.int .u8 0), (.int .u8 0), (.int .u8 0), (.int .u8 0), (.int .u8 0), (.int .u8 0), (.int .u8 0), (.int .u8 0), (.int .u8 0), (.int .u8 0), (.int .u8 0), (.int .u8 0), (.int .u8 0)]⟩))),
 ⟨none, none, .storeN 33 (.tmp 14) (.tmp 51), []⟩])
 (.seq (.draw [
 oo 52 (.move (.tmp 12)),
 oo 53 (.loadN 33 (.tmp 14)),
 oo 56 (.fieldAddr 1 (.tmp 14)),
 ⟨(some 57), none, .loadN 32 (.tmp 56), [5, 7]⟩,
 oo 54 (.buildSlice 158 [(.slice none 0 0), (.int .u8 0), (.int .u8 0), (.int .u8 0), (.int .u8 0), (.int .u8 0), (.int .u8 0), (.int .u8 0), (.int .u8 0), (.int .u8 0), (.int .u8 0), (.int .u8 0), (.int .u8 0), (.int .u8 0), (.int .u8 0), (.int .u8 0), (.int .u8 0), (.int .u8 0), (.int .u8 0), (.int .u8 0), (.int .u8 0), (.int .u8 0), (.int .u8 0), (.int .u8 0), (.int .u8 0), (.int .u8 0), (.int .u8 0), (.int .u8 0), (.int .u8 0), (.int .u8 0), (.int .u8 0), (.int .u8 0), (.int .u8 0)] 1 [(0, 33, (.tmp 53))]),
 oo 55 (.append 158 33 56 (.tmp 52) (.tmp 54)),
 oo 8 (.move (.tmp 55)),
 ⟨none, none, .storeN 32 (.tmp 9) (.tmp 57), []⟩])
 .ret)))
 .skip))
 (.seq (.draw [
 oo 16 (.box 30 (.cst (.agg ⟨[(.int .u8 0), (.int .u8 0), (.int .u8 0), (.int .u8 0), (.int .u8 0), (.int .u8 0), (.int .u8 0), (.int .u8 0), (.int .u8 0), (.int .u8 0), (.int .u8 0), (.int .u8 0), (.int .u8 0), (.int .u8 0), (.int .u8 0), (.int .u8 0), (.int .u8 0), (.int .u8 0), (.int .u8 0), (.int .u8 0), (.int .u8 0), (.int .u8 0), (.int .u8 0), (.int .u8 0), (.int .u8 0), (.int .u8 0), (.int .u8 0), (.int .u8 0), (.int .u8 0), (.int .u8 0), (.int .u8 0), (.int .u8 0)]⟩))),
 oo 59 (.move (.tmp 0)),
 oo 60 (.move (.tmp 10)),
 oo 61 (.bin .sub (.tmp 59) (.tmp 60)),
 oo 62 (.move (.tmp 1)),
 oo 63 (.move (.tmp 10)),
 oo 64 (.bin .sub (.tmp 62) (.tmp 63)),
 oo 65 (.loadN 32 (.tmp 6)),
 oo 66 (.move (.tmp 3)),
 oo 67 (.move (.tmp 3)),
 oo 68 (.len (.tmp 67)),
 oo 69 (.bin .sub (.tmp 68) (.cst (.int .i64 1))),
 oo 70 (.sliceSl 32 (.tmp 66) none (some (.tmp 69)) none),
 oo 71 (.call 28 [(.tmp 61), (.tmp 64), (.tmp 65), (.tmp 70)]),
 oo 58 (.move (.tmp 71)),
 oo 72 (.extract 0 (.tmp 58)),
 oo 73 (.extract 1 (.tmp 58)),
 oo 15 (.move (.tmp 72)),
 ⟨none, none, .storeN 32 (.tmp 16) (.tmp 73), []⟩])
 (.seq (.ops [
 oo 74 (.loadN 32 (.tmp 11)),
 oo 75 (.loadN 32 (.tmp 16)),
 oo 76 (.call 71 [(.tmp 74), (.tmp 75)]),
 oo 17 (.box 158 (.cst (.agg ⟨[(.slice none 0 0), (.int .u8 0), (.int .u8 0), (.int .u8 0), (.int .u8 0), (.int .u8 0), (.int .u8 0), (.int .u8 0), (.int .u8 0), (.int .u8 0), (.int .u8 0), (.int .u8 0), (.int .u8 0), (.int .u8 0), (.int .u8 0), (.int .u8 0), (.int .u8 0), (.int .u8 0), (.int .u8 0), (.int .u8 0), (.int .u8 0), (.int .u8 0), (.int .u8 0), (.int .u8 0), (.int .u8 0), (.int .u8 0), (.int .u8 0), (.int .u8 0), (.int .u8 0), (.int .u8 0), (.int .u8 0), (.int .u8 0), (.int .u8 0)]⟩))),
 ⟨none, none, .storeN 33 (.tmp 17) (.tmp 76), []⟩])
 (.seq (.draw [
 oo 77 (.move (.tmp 15)),
 oo 78 (.loadN 33 (.tmp 17)),
 oo 81 (.fieldAddr 1 (.tmp 17)),
 ⟨(some 82), none, .loadN 32 (.tmp 81), [5, 7]⟩,
 oo 79 (.buildSlice 158 [(.slice none 0 0), (.int .u8 0), (.int .u8 0), (.int .u8 0), (.int .u8 0), (.int .u8 0), (.int .u8 0), (.int .u8 0), (.int .u8 0), (.int .u8 0), (.int .u8 0), (.int .u8 0), (.int .u8 0), (.int .u8 0), (.int .u8 0), (.int .u8 0), (.int .u8 0), (.int .u8 0), (.int .u8 0), (.int .u8 0), (.int .u8 0), (.int .u8 0), (.int .u8 0), (.int .u8 0), (.int .u8 0), (.int .u8 0), (.int .u8 0), (.int .u8 0), (.int .u8 0), (.int .u8 0), (.int .u8 0), (.int .u8 0), (.int .u8 0)] 1 [(0, 33, (.tmp 78))]),
 oo 80 (.append 158 33 56 (.tmp 77) (.tmp 79)),
 oo 8 (.move (.tmp 80)),
 ⟨none, none, .storeN 32 (.tmp 9) (.tmp 82), []⟩])
 .ret))))))))
def r28 : List ARes := [.tmp 8, .cellN 9 32]
def a28 : AFn := ⟨b28, r28, 0⟩
def lp29_0 : ACode := (.seq (.seq (.ops [
 oo 11 (.move (.tmp 4)),
 oo 12 (.move (.tmp 3)),
 oo 13 (.bin .lss (.tmp 11) (.tmp 12))])
 (.cond (.tmp 13)
 .skip
 (.exit 2)))
 (.seq (.block 3 (.seq (.draw [
 oo 16 (.move (.tmp 0)),
 oo 17 (.move (.tmp 3)),
 oo 18 (.idxAddrSl 33 (.tmp 16) (.tmp 17)),
 oo 19 (.fieldAddr 1 (.tmp 18)),
 oo 20 (.loadN 32 (.tmp 19)),
 oo 21 (.move (.tmp 0)),
 oo 22 (.move (.tmp 4)),
 oo 23 (.idxAddrSl 33 (.tmp 21) (.tmp 22)),
 oo 24 (.fieldAddr 1 (.tmp 23)),
 oo 25 (.loadN 32 (.tmp 24)),
 oo 26 (.eq false (.flat [.i, .i, .i, .i, .i, .i, .i, .i, .i, .i, .i, .i, .i, .i, .i, .i, .i, .i, .i, .i, .i, .i, .i, .i, .i, .i, .i, .i, .i, .i, .i, .i]) (.tmp 20) (.tmp 25)),
 oo 27 (.move (.tmp 26)),
 og 28 27 true (.move (.tmp 0)),
 og 29 27 true (.move (.tmp 3)),
 og 30 27 true (.idxAddrSl 33 (.tmp 28) (.tmp 29)),
 og 31 27 true (.fieldAddr 0 (.tmp 30)),
 og 32 27 true (.load1 (.tmp 31)),
 og 33 27 true (.move (.tmp 0)),
 og 34 27 true (.move (.tmp 4)),
 og 35 27 true (.idxAddrSl 33 (.tmp 33) (.tmp 34)),
 og 36 27 true (.fieldAddr 0 (.tmp 35)),
 og 37 27 true (.load1 (.tmp 36)),
 og 38 27 true (.call 39 [(.tmp 32), (.tmp 37)]),
 og 39 27 true (.un .not (.tmp 38)),
 oo 40 (.pick (.tmp 27) (.tmp 39) (.cst (.bool false)))])
 (.cond (.tmp 40)
 (.seq (.ops [
 oo 2 (.move (.cst (.bool true)))])
 .ret)
 .skip)))
 (.ops [
 oo 14 (.move (.tmp 4)),
 oo 15 (.bin .add (.tmp 14) (.cst (.int .i64 1))),
 oo 4 (.move (.tmp 15))])))
def k29_0 : ACode := (.ops [
 oo 9 (.move (.tmp 3)),
 oo 10 (.bin .add (.tmp 9) (.cst (.int .i64 1))),
 oo 3 (.move (.tmp 10))])
def lp29_1 : ACode := (.seq (.seq (.ops [
 oo 5 (.move (.tmp 3)),
 oo 6 (.move (.tmp 0)),
 oo 7 (.len (.tmp 6)),
 oo 8 (.bin .lss (.tmp 5) (.tmp 7))])
 (.cond (.tmp 8)
 .skip
 (.exit 0)))
 (.seq (.block 1 (.seq (.ops [
 oo 4 (.move (.cst (.int .i64 0)))])
 (.block 2 (.loop lp29_0))))
 k29_0))
def k29_1 : ACode := (.seq (.ops [
 oo 2 (.move (.cst (.bool false)))])
 .ret)
def b29 : ACode := (.seq (.ops [
 oo 2 (.move (.cst (.bool false)))])
 (.seq (.seq (.ops [
 oo 3 (.move (.cst (.int .i64 0)))])
 (.block 0 (.loop lp29_1)))
 k29_1))
def r29 : List ARes := [.tmp 2]
def a29 : AFn := ⟨b29, r29, 2⟩
def lp24_0 : ACode := (.seq (.seq (.ops [
 oo 34 (.move (.tmp 12)),
 oo 35 (.move (.tmp 0)),
 oo 36 (.len (.tmp 35)),
 oo 37 (.bin .lss (.tmp 34) (.tmp 36)),
 oo 38 (.move (.tmp 37)),
 og 39 38 true (.move (.tmp 12)),
 og 40 38 true (.move (.tmp 1)),
 og 41 38 true (.bin .lss (.tmp 39) (.tmp 40)),
 oo 42 (.pick (.tmp 38) (.tmp 41) (.cst (.bool false)))])
 (.cond (.tmp 42)
 .skip
 (.exit 0)))
 (.seq (.block 1 (.seq (.seq (.ops [
 oo 45 (.move (.tmp 0)),
 oo 46 (.move (.tmp 12)),
 oo 47 (.idxAddrSl 1 (.tmp 45) (.tmp 46)),
 oo 48 (.load1 (.tmp 47)),
 oo 49 (.len (.tmp 48)),
 oo 50 (.bin .gtr (.tmp 49) (.cst (.int .i64 16384)))])
 (.cond (.tmp 50)
 (.exit 1)
 .skip))
 (.seq (.ops [
 oo 51 (.move (.tmp 11)),
 oo 52 (.move (.tmp 0)),
 oo 53 (.move (.tmp 12)),
 oo 54 (.idxAddrSl 1 (.tmp 52) (.tmp 53)),
 oo 55 (.load1 (.tmp 54)),
 oo 56 (.len (.tmp 55)),
 oo 57 (.bin .sub (.tmp 51) (.tmp 56)),
 oo 58 (.bin .sub (.tmp 57) (.cst (.int .i64 100))),
 oo 11 (.move (.tmp 58))])
 (.seq (.seq (.ops [
 oo 59 (.move (.tmp 11)),
 oo 60 (.bin .lss (.tmp 59) (.cst (.int .i64 0)))])
 (.cond (.tmp 60)
 (.exit 0)
 .skip))
 (.seq (.ops [
 oo 62 (.move (.tmp 8)),
 oo 63 (.move (.tmp 0)),
 oo 64 (.move (.tmp 12)),
 oo 65 (.idxAddrSl 1 (.tmp 63) (.tmp 64)),
 oo 66 (.load1 (.tmp 65)),
 oo 67 (.call 27 [(.tmp 66)]),
 oo 68 (.call 45 [(.tmp 62), (.tmp 67)]),
 oo 61 (.move (.tmp 68)),
 oo 69 (.extract 0 (.tmp 61)),
 oo 70 (.extract 1 (.tmp 61)),
 oo 13 (.move (.tmp 69)),
 oo 14 (.move (.tmp 70))])
 (.seq (.seq (.ops [
 oo 71 (.move (.tmp 14)),
 oo 72 (.call 11 [(.tmp 71)]),
 oo 73 (.bin .neq (.tmp 72) (.cst (.int .i64 0))),
 oo 74 (.move (.tmp 73)),
 og 75 74 false (.move (.tmp 13)),
 og 76 74 false (.move (.tmp 10)),
 og 77 74 false (.len (.tmp 76)),
 og 78 74 false (.convInt .u64 (.tmp 77)),
 og 79 74 false (.bin .neq (.tmp 75) (.tmp 78)),
 oo 80 (.pick (.tmp 74) (.cst (.bool true)) (.tmp 79))])
 (.cond (.tmp 80)
 (.seq (.ops [
 oo 4 (.move (.cst (.pointer none))),
 oo 5 (.move (.cst (.slice none 0 0)))])
 .ret)
 .skip))
 (.ops [
 oo 81 (.move (.tmp 10)),
 oo 82 (.move (.tmp 0)),
 oo 83 (.move (.tmp 12)),
 oo 84 (.idxAddrSl 1 (.tmp 82) (.tmp 83)),
 oo 85 (.load1 (.tmp 84)),
 oo 86 (.buildSlice 41 [(.slice none 0 0)] 1 [(0, 1, (.tmp 85))]),
 oo 87 (.append 41 1 24 (.tmp 81) (.tmp 86)),
 oo 10 (.move (.tmp 87))])))))))
 (.ops [
 oo 43 (.move (.tmp 12)),
 oo 44 (.bin .add (.tmp 43) (.cst (.int .i64 1))),
 oo 12 (.move (.tmp 44))])))
def k24_0 : ACode := (.seq (.ops [
 oo 88 (.move (.tmp 8)),
 oo 89 (.move (.tmp 10)),
 oo 4 (.move (.tmp 88)),
 oo 5 (.move (.tmp 89))])
 .ret)
def b24 : ACode := (.seq (.ops [
 oo 4 (.move (.cst (.pointer none))),
 oo 5 (.move (.cst (.slice none 0 0)))])
 (.seq (.ops [
 oo 16 (.call 42 [(.cst (.int .i64 16777216))]),
 oo 15 (.move (.tmp 16)),
 oo 17 (.extract 0 (.tmp 15)),
 oo 18 (.extract 1 (.tmp 15)),
 oo 6 (.move (.tmp 17)),
 oo 7 (.move (.tmp 18))])
 (.seq (.seq (.ops [
 oo 19 (.move (.tmp 7)),
 oo 20 (.call 11 [(.tmp 19)]),
 oo 21 (.bin .neq (.tmp 20) (.cst (.int .i64 0)))])
 (.cond (.tmp 21)
 (.seq (.ops [
 oo 4 (.move (.cst (.pointer none))),
 oo 5 (.move (.cst (.slice none 0 0)))])
 .ret)
 .skip))
 (.seq (.ops [
 oo 23 (.move (.tmp 6)),
 oo 24 (.call 43 [(.tmp 23), (.cst (.string ⟨⟨[97, 117, 100, 105, 116]⟩⟩))]),
 oo 22 (.move (.tmp 24)),
 oo 25 (.extract 0 (.tmp 22)),
 oo 26 (.extract 1 (.tmp 22)),
 oo 8 (.move (.tmp 25)),
 oo 9 (.move (.tmp 26))])
 (.seq (.seq (.ops [
 oo 27 (.move (.tmp 9)),
 oo 28 (.call 11 [(.tmp 27)]),
 oo 29 (.bin .neq (.tmp 28) (.cst (.int .i64 0))),
 oo 30 (.move (.tmp 29)),
 og 31 30 false (.move (.tmp 8)),
 og 32 30 false (.eq false .nilP (.tmp 31) (.cst (.pointer none))),
 oo 33 (.pick (.tmp 30) (.cst (.bool true)) (.tmp 32))])
 (.cond (.tmp 33)
 (.seq (.ops [
 oo 4 (.move (.cst (.pointer none))),
 oo 5 (.move (.cst (.slice none 0 0)))])
 .ret)
 .skip))
 (.seq (.ops [
 oo 10 (.move (.cst (.slice none 0 0)))])
 (.seq (.ops [
 oo 11 (.move (.cst (.int .i64 200000)))])
 (.seq (.seq (.ops [
 oo 12 (.move (.cst (.int .i64 0)))])
 (.block 0 (.loop lp24_0)))
 k24_0))))))))
def r24 : List ARes := [.tmp 4, .tmp 5]
def a24 : AFn := ⟨b24, r24, 0⟩
def lp23_0 : ACode := (.seq (.seq (.ops [
 oo 34 (.move (.tmp 5)),
 oo 35 (.bin .lss (.tmp 34) (.cst (.int .i64 3)))])
 (.cond (.tmp 35)
 .skip
 (.exit 0)))
 (.seq (.block 1 (.seq (.ops [
 oo 39 (.move (.tmp 3)),
 oo 40 (.move (.tmp 5)),
 oo 41 (.convInt .u8 (.tmp 40)),
 oo 42 (.buildSlice 5 [(.int .u8 0)] 1 [(0, 1, (.tmp 41))]),
 oo 43 (.call 45 [(.tmp 39), (.tmp 42)]),
 oo 38 (.move (.tmp 43)),
 oo 44 (.extract 0 (.tmp 38)),
 oo 45 (.extract 1 (.tmp 38)),
 oo 6 (.move (.tmp 44)),
 oo 7 (.move (.tmp 45))])
 (.seq (.ops [
 oo 46 (.move (.tmp 7)),
 oo 47 (.call 11 [(.tmp 46)]),
 oo 48 (.bin .neq (.tmp 47) (.cst (.int .i64 0))),
 oo 49 (.move (.tmp 48)),
 og 50 49 false (.move (.tmp 6)),
 og 51 49 false (.move (.tmp 5)),
 og 52 49 false (.convInt .u64 (.tmp 51)),
 og 53 49 false (.bin .neq (.tmp 50) (.tmp 52)),
 oo 54 (.pick (.tmp 49) (.cst (.bool true)) (.tmp 53))])
 (.cond (.tmp 54)
 (.seq (.ops [
 oo 0 (.move (.cst (.bool false)))])
 .ret)
 .skip))))
 (.ops [
 oo 36 (.move (.tmp 5)),
 oo 37 (.bin .add (.tmp 36) (.cst (.int .i64 1))),
 oo 5 (.move (.tmp 37))])))
def k23_0 : ACode := (.seq (.ops [
 oo 56 (.move (.tmp 3)),
 oo 57 (.call 25 [(.tmp 56), (.cst (.int .u64 3))]),
 oo 55 (.move (.tmp 57)),
 oo 58 (.extract 0 (.tmp 55)),
 oo 59 (.extract 1 (.tmp 55)),
 oo 8 (.box 35 (.cst (.agg ⟨[(.int .u64 0), (.int .u8 0), (.int .u8 0), (.int .u8 0), (.int .u8 0), (.int .u8 0), (.int .u8 0), (.int .u8 0), (.int .u8 0), (.int .u8 0), (.int .u8 0), (.int .u8 0), (.int .u8 0), (.int .u8 0), (.int .u8 0), (.int .u8 0), (.int .u8 0), (.int .u8 0), (.int .u8 0), (.int .u8 0), (.int .u8 0), (.int .u8 0), (.int .u8 0), (.int .u8 0), (.int .u8 0), (.int .u8 0), (.int .u8 0), (.int .u8 0), (.int .u8 0), (.int .u8 0), (.int .u8 0), (.int .u8 0), (.int .u8 0)]⟩))),
 ⟨none, none, .storeN 33 (.tmp 8) (.tmp 58), []⟩,
 oo 2 (.move (.tmp 59))])
 (.seq (.ops [
 oo 61 (.move (.tmp 3)),
 oo 62 (.call 25 [(.tmp 61), (.cst (.int .u64 2))]),
 oo 60 (.move (.tmp 62)),
 oo 63 (.extract 0 (.tmp 60)),
 oo 64 (.extract 1 (.tmp 60)),
 oo 9 (.box 35 (.cst (.agg ⟨[(.int .u64 0), (.int .u8 0), (.int .u8 0), (.int .u8 0), (.int .u8 0), (.int .u8 0), (.int .u8 0), (.int .u8 0), (.int .u8 0), (.int .u8 0), (.int .u8 0), (.int .u8 0), (.int .u8 0), (.int .u8 0), (.int .u8 0), (.int .u8 0), (.int .u8 0), (.int .u8 0), (.int .u8 0), (.int .u8 0), (.int .u8 0), (.int .u8 0), (.int .u8 0), (.int .u8 0), (.int .u8 0), (.int .u8 0), (.int .u8 0), (.int .u8 0), (.int .u8 0), (.int .u8 0), (.int .u8 0), (.int .u8 0), (.int .u8 0)]⟩))),
 ⟨none, none, .storeN 33 (.tmp 9) (.tmp 63), []⟩,
 oo 4 (.move (.tmp 64))])
 (.seq (.ops [
 oo 66 (.move (.tmp 3)),
 oo 67 (.call 26 [(.tmp 66), (.cst (.int .u64 1)), (.cst (.int .u64 3))]),
 oo 65 (.move (.tmp 67)),
 oo 68 (.extract 0 (.tmp 65)),
 oo 69 (.extract 1 (.tmp 65)),
 oo 10 (.move (.tmp 68)),
 oo 11 (.move (.tmp 69))])
 (.seq (.ops [
 oo 71 (.move (.tmp 3)),
 oo 72 (.call 30 [(.tmp 71), (.cst (.int .u64 2)), (.cst (.int .u64 3))]),
 oo 70 (.move (.tmp 72)),
 oo 73 (.extract 0 (.tmp 70)),
 oo 74 (.extract 1 (.tmp 70)),
 oo 12 (.move (.tmp 73)),
 oo 13 (.move (.tmp 74))])
 (.seq (.ops [
 oo 75 (.move (.tmp 2)),
 oo 76 (.call 11 [(.tmp 75)]),
 oo 77 (.bin .eql (.tmp 76) (.cst (.int .i64 0))),
 oo 78 (.move (.tmp 77)),
 og 79 78 true (.move (.tmp 4)),
 og 80 78 true (.call 11 [(.tmp 79)]),
 og 81 78 true (.bin .eql (.tmp 80) (.cst (.int .i64 0))),
 oo 82 (.pick (.tmp 78) (.tmp 81) (.cst (.bool false))),
 oo 83 (.move (.tmp 82)),
 og 84 83 true (.move (.tmp 11)),
 og 85 83 true (.call 11 [(.tmp 84)]),
 og 86 83 true (.bin .eql (.tmp 85) (.cst (.int .i64 0))),
 oo 87 (.pick (.tmp 83) (.tmp 86) (.cst (.bool false))),
 oo 88 (.move (.tmp 87)),
 og 89 88 true (.move (.tmp 13)),
 og 90 88 true (.call 11 [(.tmp 89)]),
 og 91 88 true (.bin .eql (.tmp 90) (.cst (.int .i64 0))),
 oo 92 (.pick (.tmp 88) (.tmp 91) (.cst (.bool false))),
 oo 93 (.move (.tmp 92)),
 og 94 93 true (.move (.tmp 10)),
 og 95 93 true (.len (.tmp 94)),
 og 96 93 true (.bin .eql (.tmp 95) (.cst (.int .i64 2))),
 oo 97 (.pick (.tmp 93) (.tmp 96) (.cst (.bool false))),
 oo 98 (.move (.tmp 97)),
 og 99 98 true (.move (.tmp 12)),
 og 100 98 true (.len (.tmp 99)),
 og 101 98 true (.bin .eql (.tmp 100) (.cst (.int .i64 1))),
 oo 102 (.pick (.tmp 98) (.tmp 101) (.cst (.bool false))),
 oo 14 (.move (.tmp 102))])
 (.seq (.draw [
 oo 103 (.move (.tmp 14)),
 oo 104 (.move (.tmp 103)),
 ⟨(some 105), (some (104, true)), .loadN 33 (.tmp 8), [7]⟩,
 og 108 104 true (.move (.tmp 10)),
 og 106 104 true (.buildSlice 5 [(.int .u8 0)] 1 [(0, 1, (.cst (.int .u8 1)))]),
 og 107 104 true (.call 20 [(.tmp 106)]),
 og 109 104 true (.call 12 [(.tmp 105), (.cst (.int .u64 1)), (.tmp 107), (.tmp 108)]),
 og 110 104 true (.call 11 [(.tmp 109)]),
 og 111 104 true (.bin .eql (.tmp 110) (.cst (.int .i64 0))),
 oo 112 (.pick (.tmp 104) (.tmp 111) (.cst (.bool false))),
 oo 113 (.move (.tmp 112)),
 og 114 113 true (.loadN 33 (.tmp 9)),
 og 115 113 true (.loadN 33 (.tmp 8)),
 og 116 113 true (.move (.tmp 12)),
 og 117 113 true (.call 14 [(.tmp 114), (.tmp 115), (.tmp 116)]),
 og 118 113 true (.call 11 [(.tmp 117)]),
 og 119 113 true (.bin .eql (.tmp 118) (.cst (.int .i64 0))),
 oo 120 (.pick (.tmp 113) (.tmp 119) (.cst (.bool false))),
 oo 121 (.move (.tmp 120)),
 ⟨(some 122), (some (121, true)), .loadN 33 (.tmp 8), [24]⟩,
 og 125 121 true (.move (.tmp 10)),
 og 123 121 true (.buildSlice 5 [(.int .u8 0)] 1 [(0, 1, (.cst (.int .u8 2)))]),
 og 124 121 true (.call 20 [(.tmp 123)]),
 og 126 121 true (.call 12 [(.tmp 122), (.cst (.int .u64 1)), (.tmp 124), (.tmp 125)]),
 og 127 121 true (.call 11 [(.tmp 126)]),
 og 128 121 true (.bin .neq (.tmp 127) (.cst (.int .i64 0))),
 oo 129 (.pick (.tmp 121) (.tmp 128) (.cst (.bool false))),
 oo 0 (.move (.tmp 129))])
 .ret))))))
def b23 : ACode := (.seq (.ops [
 oo 0 (.move (.cst (.bool false)))])
 (.seq (.ops [
 oo 16 (.call 42 [(.cst (.int .i64 1000))]),
 oo 15 (.move (.tmp 16)),
 oo 17 (.extract 0 (.tmp 15)),
 oo 18 (.extract 1 (.tmp 15)),
 oo 1 (.move (.tmp 17)),
 oo 2 (.move (.tmp 18))])
 (.seq (.seq (.ops [
 oo 19 (.move (.tmp 2)),
 oo 20 (.call 11 [(.tmp 19)]),
 oo 21 (.bin .neq (.tmp 20) (.cst (.int .i64 0)))])
 (.cond (.tmp 21)
 (.seq (.ops [
 oo 0 (.move (.cst (.bool false)))])
 .ret)
 .skip))
 (.seq (.ops [
 oo 23 (.move (.tmp 1)),
 oo 24 (.call 43 [(.tmp 23), (.cst (.string ⟨⟨[97]⟩⟩))]),
 oo 22 (.move (.tmp 24)),
 oo 25 (.extract 0 (.tmp 22)),
 oo 26 (.extract 1 (.tmp 22)),
 oo 3 (.move (.tmp 25)),
 oo 4 (.move (.tmp 26))])
 (.seq (.seq (.ops [
 oo 27 (.move (.tmp 4)),
 oo 28 (.call 11 [(.tmp 27)]),
 oo 29 (.bin .neq (.tmp 28) (.cst (.int .i64 0))),
 oo 30 (.move (.tmp 29)),
 og 31 30 false (.move (.tmp 3)),
 og 32 30 false (.eq false .nilP (.tmp 31) (.cst (.pointer none))),
 oo 33 (.pick (.tmp 30) (.cst (.bool true)) (.tmp 32))])
 (.cond (.tmp 33)
 (.seq (.ops [
 oo 0 (.move (.cst (.bool false)))])
 .ret)
 .skip))
 (.seq (.seq (.ops [
 oo 5 (.move (.cst (.int .i64 0)))])
 (.block 0 (.loop lp23_0)))
 k23_0))))))
def r23 : List ARes := [.tmp 0]
def a23 : AFn := ⟨b23, r23, 3⟩

structure Tab_LLaw (C : Ctx) : Prop where
  h11 : C.T 11 = some (.fn a11)
  h27 : C.T 27 = some (.fn a27)
  h70 : C.T 70 = some (.fn a70)
  h39 : C.T 39 = some (.fn a39)
  h71 : C.T 71 = some (.fn a71)
  h28 : C.T 28 = some (.fn a28)
  h29 : C.T 29 = some (.fn a29)
  h24 : C.T 24 = some (.fn a24)
  h23 : C.T 23 = some (.fn a23)
end Go.Ab.Aud

namespace Go.Ab.Aud
def b149 : ACode := (.seq (.ops [
 oo 2 (.move (.cst (.slice none 0 0))),
 oo 3 (.move (.cst (.int .i64 0))),
 oo 4 (.move (.cst (.int .i64 0)))])
 (.seq (.block 0 (.seq (.ops [
 oo 8 (.move (.tmp 0)),
 oo 9 (.len (.tmp 8)),
 oo 10 (.bin .eql (.tmp 9) (.cst (.int .i64 0))),
 oo 7 (.move (.tmp 10))])
 (.cond (.tmp 7)
 (.seq (.ops [
 oo 2 (.move (.cst (.slice none 0 0))),
 oo 3 (.move (.cst (.int .i64 0))),
 oo 4 (.move (.cst (.int .i64 30)))])
 .ret)
 (.seq (.ops [
 oo 12 (.move (.tmp 0)),
 oo 13 (.idxAddrSl 1 (.tmp 12) (.cst (.int .i64 0))),
 oo 14 (.load1 (.tmp 13)),
 oo 15 (.bin .neq (.tmp 14) (.cst (.int .u8 201))),
 oo 11 (.move (.tmp 15))])
 (.cond (.tmp 11)
 (.seq (.ops [
 oo 2 (.move (.cst (.slice none 0 0))),
 oo 3 (.move (.cst (.int .i64 0))),
 oo 4 (.move (.cst (.int .i64 34)))])
 .ret)
 (.seq (.ops [
 oo 17 (.move (.tmp 0)),
 oo 18 (.len (.tmp 17)),
 oo 19 (.bin .lss (.tmp 18) (.cst (.int .i64 9))),
 oo 16 (.move (.tmp 19))])
 (.cond (.tmp 16)
 (.seq (.ops [
 oo 2 (.move (.cst (.slice none 0 0))),
 oo 3 (.move (.cst (.int .i64 0))),
 oo 4 (.move (.cst (.int .i64 30)))])
 .ret)
 (.seq (.draw [
 oo 21 (.move (.tmp 0)),
 oo 22 (.sliceSl 1 (.tmp 21) none (some (.cst (.int .i64 5))) none),
 oo 23 (.call 216 [(.tmp 22)]),
 oo 24 (.convInt .u64 (.tmp 23)),
 oo 25 (.move (.tmp 0)),
 oo 26 (.sliceSl 1 (.tmp 25) (some (.cst (.int .i64 5))) (some (.cst (.int .i64 9))) none),
 oo 27 (.call 217 [(.tmp 26)]),
 oo 28 (.bin .neq (.tmp 24) (.tmp 27)),
 oo 20 (.move (.tmp 28))])
 (.cond (.tmp 20)
 (.seq (.ops [
 oo 2 (.move (.cst (.slice none 0 0))),
 oo 3 (.move (.cst (.int .i64 0))),
 oo 4 (.move (.cst (.int .i64 32)))])
 .ret)
 .skip)))))))))
 (.seq (.ops [
 oo 29 (.move (.tmp 0)),
 oo 30 (.sliceSl 1 (.tmp 29) (some (.cst (.int .i64 1))) (some (.cst (.int .i64 5))) none),
 oo 31 (.call 217 [(.tmp 30)]),
 oo 32 (.convInt .i64 (.tmp 31)),
 oo 5 (.move (.tmp 32))])
 (.seq (.ops [
 oo 33 (.move (.tmp 5)),
 oo 34 (.bin .add (.cst (.int .i64 9)) (.tmp 33)),
 oo 6 (.move (.tmp 34))])
 (.block 1 (.seq (.ops [
 oo 43 (.move (.tmp 5)),
 oo 44 (.bin .gtr (.tmp 43) (.cst (.int .i64 16777216))),
 oo 42 (.move (.tmp 44))])
 (.cond (.tmp 42)
 (.seq (.ops [
 oo 2 (.move (.cst (.slice none 0 0))),
 oo 3 (.move (.cst (.int .i64 0))),
 oo 4 (.move (.cst (.int .i64 31)))])
 .ret)
 (.seq (.ops [
 oo 46 (.move (.tmp 0)),
 oo 47 (.len (.tmp 46)),
 oo 48 (.move (.tmp 6)),
 oo 49 (.bin .add (.tmp 48) (.cst (.int .i64 4))),
 oo 50 (.bin .lss (.tmp 47) (.tmp 49)),
 oo 45 (.move (.tmp 50))])
 (.cond (.tmp 45)
 (.seq (.ops [
 oo 2 (.move (.cst (.slice none 0 0))),
 oo 3 (.move (.cst (.int .i64 0))),
 oo 4 (.move (.cst (.int .i64 30)))])
 .ret)
 (.seq (.draw [
 oo 52 (.move (.tmp 0)),
 oo 53 (.move (.tmp 6)),
 oo 54 (.sliceSl 1 (.tmp 52) (some (.cst (.int .i64 9))) (some (.tmp 53)) none),
 oo 55 (.call 216 [(.tmp 54)]),
 oo 56 (.convInt .u64 (.tmp 55)),
 oo 57 (.move (.tmp 0)),
 oo 58 (.move (.tmp 6)),
 oo 59 (.move (.tmp 6)),
 oo 60 (.bin .add (.tmp 59) (.cst (.int .i64 4))),
 oo 61 (.sliceSl 1 (.tmp 57) (some (.tmp 58)) (some (.tmp 60)) none),
 oo 62 (.call 217 [(.tmp 61)]),
 oo 63 (.bin .neq (.tmp 56) (.tmp 62)),
 oo 51 (.move (.tmp 63))])
 (.cond (.tmp 51)
 (.seq (.ops [
 oo 2 (.move (.cst (.slice none 0 0))),
 oo 3 (.move (.cst (.int .i64 0))),
 oo 4 (.move (.cst (.int .i64 32)))])
 .ret)
 (.seq (.ops [
 oo 35 (.move (.tmp 0)),
 oo 36 (.move (.tmp 6)),
 oo 37 (.move (.tmp 6)),
 oo 38 (.sliceSl 1 (.tmp 35) (some (.cst (.int .i64 9))) (some (.tmp 36)) (some (.tmp 37))),
 oo 39 (.call 115 [(.tmp 38)]),
 oo 40 (.move (.tmp 6)),
 oo 41 (.bin .add (.tmp 40) (.cst (.int .i64 4))),
 oo 2 (.move (.tmp 39)),
 oo 3 (.move (.tmp 41)),
 oo 4 (.move (.cst (.int .i64 0)))])
 .ret))))))))))))
def r149 : List ARes := [.tmp 2, .tmp 3, .tmp 4]
def a149 : AFn := ⟨b149, r149, 0⟩
def lp217_0 : ACode := (.seq (.ops [
 oo 9 (.bin .lss (.tmp 8) (.tmp 7))])
 (.seq (.cond (.tmp 9)
 .skip
 (.exit 0))
 (.seq (.block 1 (.seq (.ops [
 oo 10 (.idxAddrSl 1 (.tmp 6) (.tmp 8)),
 oo 11 (.load1 (.tmp 10)),
 oo 5 (.move (.tmp 11))])
 (.ops [
 oo 12 (.move (.tmp 3)),
 oo 13 (.bin .shl (.tmp 12) (.cst (.int .u64 8))),
 oo 14 (.move (.tmp 5)),
 oo 15 (.convInt .u64 (.tmp 14)),
 oo 16 (.bin .or (.tmp 13) (.tmp 15)),
 oo 3 (.move (.tmp 16))])))
 (.ops [
 oo 17 (.bin .add (.tmp 8) (.cst (.int .i64 1))),
 oo 8 (.move (.tmp 17))]))))
def k217_0 : ACode := (.seq (.ops [
 oo 18 (.move (.tmp 3)),
 oo 2 (.move (.tmp 18))])
 .ret)
def b217 : ACode := (.seq (.ops [
 oo 2 (.move (.cst (.int .u64 0)))])
 (.seq (.ops [
 oo 3 (.move (.cst (.int .u64 0)))])
 (.seq (.seq (.ops [
 oo 6 (.move (.tmp 0)),
 oo 7 (.len (.tmp 6)),
 oo 8 (.move (.cst (.int .i64 0)))])
 (.block 0 (.loop lp217_0)))
 k217_0)))
def r217 : List ARes := [.tmp 2]
def a217 : AFn := ⟨b217, r217, 2⟩

structure Tab_LOpen (C : Ctx) : Prop where
  h149 : C.T 149 = some (.fn a149)
  h217 : C.T 217 = some (.fn a217)
end Go.Ab.Aud

namespace Go.Ab.Aud
def b31 : ACode := (.seq (.ops [
 oo 6 (.move (.cst (.int .i64 0)))])
 (.seq (.seq (.ops [
 oo 8 (.move (.tmp 0)),
 oo 9 (.bin .eql (.tmp 8) (.cst (.int .u64 0))),
 oo 10 (.move (.tmp 9)),
 og 11 10 false (.move (.tmp 0)),
 og 12 10 false (.move (.tmp 1)),
 og 13 10 false (.bin .geq (.tmp 11) (.tmp 12)),
 og 14 10 false (.move (.tmp 13)),
 og 15 14 true (.move (.tmp 2)),
 og 16 10 false (.pick (.tmp 14) (.tmp 15) (.cst (.bool false))),
 oo 17 (.pick (.tmp 10) (.cst (.bool true)) (.tmp 16))])
 (.cond (.tmp 17)
 (.seq (.ops [
 oo 6 (.move (.cst (.int .i64 0)))])
 .ret)
 .skip))
 (.seq (.seq (.ops [
 oo 18 (.move (.tmp 0)),
 oo 19 (.move (.tmp 1)),
 oo 20 (.bin .geq (.tmp 18) (.tmp 19))])
 (.cond (.tmp 20)
 (.seq (.ops [
 oo 6 (.move (.cst (.int .i64 1)))])
 .ret)
 .skip))
 (.seq (.ops [
 oo 21 (.move (.tmp 1)),
 oo 22 (.call 70 [(.tmp 21)]),
 oo 7 (.move (.tmp 22))])
 (.seq (.seq (.ops [
 oo 23 (.move (.tmp 0)),
 oo 24 (.move (.tmp 7)),
 oo 25 (.bin .leq (.tmp 23) (.tmp 24))])
 (.cond (.tmp 25)
 (.seq (.ops [
 oo 26 (.move (.tmp 0)),
 oo 27 (.move (.tmp 7)),
 oo 28 (.move (.tmp 2)),
 oo 29 (.call 31 [(.tmp 26), (.tmp 27), (.tmp 28)]),
 oo 30 (.bin .add (.cst (.int .i64 1)) (.tmp 29)),
 oo 6 (.move (.tmp 30))])
 .ret)
 .skip))
 (.seq (.ops [
 oo 31 (.move (.tmp 0)),
 oo 32 (.move (.tmp 7)),
 oo 33 (.bin .sub (.tmp 31) (.tmp 32)),
 oo 34 (.move (.tmp 1)),
 oo 35 (.move (.tmp 7)),
 oo 36 (.bin .sub (.tmp 34) (.tmp 35)),
 oo 37 (.call 31 [(.tmp 33), (.tmp 36), (.cst (.bool false))]),
 oo 38 (.bin .add (.cst (.int .i64 1)) (.tmp 37)),
 oo 6 (.move (.tmp 38))])
 .ret))))))
def r31 : List ARes := [.tmp 6]
def a31 : AFn := ⟨b31, r31, 3⟩
def b34 : ACode := (.seq (.ops [
 oo 8 (.box 30 (.tmp 3)),
 oo 10 (.move (.cst (.slice none 0 0))),
 oo 11 (.box 30 (.cst (.agg ⟨[(.int .u8 0), (.int .u8 0), (.int .u8 0), (.int .u8 0), (.int .u8 0), (.int .u8 0), (.int .u8 0), (.int .u8 0), (.int .u8 0), (.int .u8 0), (.int .u8 0), (.int .u8 0), (.int .u8 0), (.int .u8 0), (.int .u8 0), (.int .u8 0), (.int .u8 0), (.int .u8 0), (.int .u8 0), (.int .u8 0), (.int .u8 0), (.int .u8 0), (.int .u8 0), (.int .u8 0), (.int .u8 0), (.int .u8 0), (.int .u8 0), (.int .u8 0), (.int .u8 0), (.int .u8 0), (.int .u8 0), (.int .u8 0)]⟩))),
 oo 12 (.box 30 (.cst (.agg ⟨[(.int .u8 0), (.int .u8 0), (.int .u8 0), (.int .u8 0), (.int .u8 0), (.int .u8 0), (.int .u8 0), (.int .u8 0), (.int .u8 0), (.int .u8 0), (.int .u8 0), (.int .u8 0), (.int .u8 0), (.int .u8 0), (.int .u8 0), (.int .u8 0), (.int .u8 0), (.int .u8 0), (.int .u8 0), (.int .u8 0), (.int .u8 0), (.int .u8 0), (.int .u8 0), (.int .u8 0), (.int .u8 0), (.int .u8 0), (.int .u8 0), (.int .u8 0), (.int .u8 0), (.int .u8 0), (.int .u8 0), (.int .u8 0)]⟩)))])
 (.seq (.seq (.ops [
 oo 25 (.move (.tmp 0)),
 oo 26 (.move (.tmp 1)),
 oo 27 (.bin .eql (.tmp 25) (.tmp 26)),
 oo 28 (.move (.tmp 27)),
 og 29 28 true (.move (.tmp 2)),
 oo 30 (.pick (.tmp 28) (.tmp 29) (.cst (.bool false)))])
 (.cond (.tmp 30)
 (.seq (.draw [
 oo 31 (.loadN 32 (.tmp 8)),
 ⟨(some 32), none, .loadN 32 (.tmp 8), [4]⟩,
 oo 10 (.move (.cst (.slice none 0 0))),
 ⟨none, none, .storeN 32 (.tmp 11) (.tmp 31), []⟩,
 ⟨none, none, .storeN 32 (.tmp 12) (.tmp 32), []⟩])
 .ret)
 .skip))
 (.seq (.seq (.ops [
 oo 33 (.move (.tmp 0)),
 oo 34 (.move (.tmp 1)),
 oo 35 (.bin .eql (.tmp 33) (.tmp 34))])
 (.cond (.tmp 35)
 (.seq (.draw [
 oo 36 (.move (.tmp 4)),
 oo 37 (.idxAddrSl 32 (.tmp 36) (.cst (.int .i64 0))),
 oo 38 (.loadN 32 (.tmp 37)),
 oo 39 (.move (.tmp 4)),
 oo 40 (.idxAddrSl 32 (.tmp 39) (.cst (.int .i64 0))),
 ⟨(some 41), none, .loadN 32 (.tmp 40), [8]⟩,
 oo 10 (.move (.cst (.slice none 0 0))),
 ⟨none, none, .storeN 32 (.tmp 11) (.tmp 38), []⟩,
 ⟨none, none, .storeN 32 (.tmp 12) (.tmp 41), []⟩])
 .ret)
 .skip))
 (.seq (.ops [
 oo 42 (.move (.tmp 1)),
 oo 43 (.call 70 [(.tmp 42)]),
 oo 13 (.move (.tmp 43))])
 (.seq (.ops [
 oo 44 (.move (.tmp 4)),
 oo 45 (.move (.tmp 4)),
 oo 46 (.len (.tmp 45)),
 oo 47 (.bin .sub (.tmp 46) (.cst (.int .i64 1))),
 oo 48 (.idxAddrSl 32 (.tmp 44) (.tmp 47)),
 oo 49 (.loadN 32 (.tmp 48)),
 oo 14 (.box 30 (.cst (.agg ⟨[(.int .u8 0), (.int .u8 0), (.int .u8 0), (.int .u8 0), (.int .u8 0), (.int .u8 0), (.int .u8 0), (.int .u8 0), (.int .u8 0), (.int .u8 0), (.int .u8 0), (.int .u8 0), (.int .u8 0), (.int .u8 0), (.int .u8 0), (.int .u8 0), (.int .u8 0), (.int .u8 0), (.int .u8 0), (.int .u8 0), (.int .u8 0), (.int .u8 0), (.int .u8 0), (.int .u8 0), (.int .u8 0), (.int .u8 0), (.int .u8 0), (.int .u8 0), (.int .u8 0), (.int .u8 0), (.int .u8 0), (.int .u8 0)]⟩))),
 ⟨none, none, .storeN 32 (.tmp 14) (.tmp 49), []⟩])
 (.seq (.ops [
 oo 50 (.move (.tmp 4)),
 oo 51 (.move (.tmp 4)),
 oo 52 (.len (.tmp 51)),
 oo 53 (.bin .sub (.tmp 52) (.cst (.int .i64 1))),
 oo 54 (.sliceSl 32 (.tmp 50) none (some (.tmp 53)) none),
 oo 15 (.move (.tmp 54))])
 (.seq (.seq (.ops [
 oo 55 (.move (.tmp 0)),
 oo 56 (.move (.tmp 13)),
 oo 57 (.bin .leq (.tmp 55) (.tmp 56))])
 (.cond (.tmp 57)
 (.seq (.ops [
 oo 59 (.move (.tmp 0)),
 oo 60 (.move (.tmp 13)),
 oo 61 (.move (.tmp 2)),
 oo 62 (.loadN 32 (.tmp 8)),
 oo 63 (.move (.tmp 15)),
 oo 64 (.call 34 [(.tmp 59), (.tmp 60), (.tmp 61), (.tmp 62), (.tmp 63)]),
 oo 58 (.move (.tmp 64)),
 oo 65 (.extract 0 (.tmp 58)),
 oo 66 (.extract 1 (.tmp 58)),
 oo 67 (.extract 2 (.tmp 58)),
 oo 17 (.box 30 (.cst (.agg ⟨[(.int .u8 0), (.int .u8 0), (.int .u8 0), (.int .u8 0), (.int .u8 0), (.int .u8 0), (.int .u8 0), (.int .u8 0), (.int .u8 0), (.int .u8 0), (.int .u8 0), (.int .u8 0), (.int .u8 0), (.int .u8 0), (.int .u8 0), (.int .u8 0), (.int .u8 0), (.int .u8 0), (.int .u8 0), (.int .u8 0), (.int .u8 0), (.int .u8 0), (.int .u8 0), (.int .u8 0), (.int .u8 0), (.int .u8 0), (.int .u8 0), (.int .u8 0), (.int .u8 0), (.int .u8 0), (.int .u8 0), (.int .u8 0)]⟩))),
 oo 18 (.box 30 (.cst (.agg ⟨[(.int .u8 0), (.int .u8 0), (.int .u8 0), (.int .u8 0), (.int .u8 0), (.int .u8 0), (.int .u8 0), (.int .u8 0), (.int .u8 0), (.int .u8 0), (.int .u8 0), (.int .u8 0), (.int .u8 0), (.int .u8 0), (.int .u8 0), (.int .u8 0), (.int .u8 0), (.int .u8 0), (.int .u8 0), (.int .u8 0), (.int .u8 0), (.int .u8 0), (.int .u8 0), (.int .u8 0), (.int .u8 0), (.int .u8 0), (.int .u8 0), (.int .u8 0), (.int .u8 0), (.int .u8 0), (.int .u8 0), (.int .u8 0)]⟩))),
 oo 16 (.move (.tmp 65)),
 ⟨none, none, .storeN 32 (.tmp 17) (.tmp 66), []⟩,
 ⟨none, none, .storeN 32 (.tmp 18) (.tmp 67), []⟩])
 (.seq (.ops [
 oo 68 (.loadN 32 (.tmp 18)),
 oo 69 (.loadN 32 (.tmp 14)),
 oo 70 (.call 71 [(.tmp 68), (.tmp 69)]),
 oo 19 (.box 158 (.cst (.agg ⟨[(.slice none 0 0), (.int .u8 0), (.int .u8 0), (.int .u8 0), (.int .u8 0), (.int .u8 0), (.int .u8 0), (.int .u8 0), (.int .u8 0), (.int .u8 0), (.int .u8 0), (.int .u8 0), (.int .u8 0), (.int .u8 0), (.int .u8 0), (.int .u8 0), (.int .u8 0), (.int .u8 0), (.int .u8 0), (.int .u8 0), (.int .u8 0), (.int .u8 0), (.int .u8 0), (.int .u8 0), (.int .u8 0), (.int .u8 0), (.int .u8 0), (.int .u8 0), (.int .u8 0), (.int .u8 0), (.int .u8 0), (.int .u8 0), (.int .u8 0)]⟩))),
 ⟨none, none, .storeN 33 (.tmp 19) (.tmp 70), []⟩])
 (.seq (.draw [
 oo 71 (.move (.tmp 16)),
 oo 72 (.loadN 33 (.tmp 19)),
 ⟨(some 75), none, .loadN 32 (.tmp 17), [6, 8]⟩,
 oo 76 (.fieldAddr 1 (.tmp 19)),
 ⟨(some 77), none, .loadN 32 (.tmp 76), [6, 8, 9]⟩,
 oo 73 (.buildSlice 158 [(.slice none 0 0), (.int .u8 0), (.int .u8 0), (.int .u8 0), (.int .u8 0), (.int .u8 0), (.int .u8 0), (.int .u8 0), (.int .u8 0), (.int .u8 0), (.int .u8 0), (.int .u8 0), (.int .u8 0), (.int .u8 0), (.int .u8 0), (.int .u8 0), (.int .u8 0), (.int .u8 0), (.int .u8 0), (.int .u8 0), (.int .u8 0), (.int .u8 0), (.int .u8 0), (.int .u8 0), (.int .u8 0), (.int .u8 0), (.int .u8 0), (.int .u8 0), (.int .u8 0), (.int .u8 0), (.int .u8 0), (.int .u8 0), (.int .u8 0)] 1 [(0, 33, (.tmp 72))]),
 oo 74 (.append 158 33 56 (.tmp 71) (.tmp 73)),
 oo 10 (.move (.tmp 74)),
 ⟨none, none, .storeN 32 (.tmp 11) (.tmp 75), []⟩,
 ⟨none, none, .storeN 32 (.tmp 12) (.tmp 77), []⟩])
 .ret)))
 .skip))
 (.seq (.ops [
 oo 79 (.move (.tmp 0)),
 oo 80 (.move (.tmp 13)),
 oo 81 (.bin .sub (.tmp 79) (.tmp 80)),
 oo 82 (.move (.tmp 1)),
 oo 83 (.move (.tmp 13)),
 oo 84 (.bin .sub (.tmp 82) (.tmp 83)),
 oo 85 (.loadN 32 (.tmp 8)),
 oo 86 (.move (.tmp 15)),
 oo 87 (.call 34 [(.tmp 81), (.tmp 84), (.cst (.bool false)), (.tmp 85), (.tmp 86)]),
 oo 78 (.move (.tmp 87)),
 oo 88 (.extract 0 (.tmp 78)),
 oo 89 (.extract 1 (.tmp 78)),
 oo 90 (.extract 2 (.tmp 78)),
 oo 21 (.box 30 (.cst (.agg ⟨[(.int .u8 0), (.int .u8 0), (.int .u8 0), (.int .u8 0), (.int .u8 0), (.int .u8 0), (.int .u8 0), (.int .u8 0), (.int .u8 0), (.int .u8 0), (.int .u8 0), (.int .u8 0), (.int .u8 0), (.int .u8 0), (.int .u8 0), (.int .u8 0), (.int .u8 0), (.int .u8 0), (.int .u8 0), (.int .u8 0), (.int .u8 0), (.int .u8 0), (.int .u8 0), (.int .u8 0), (.int .u8 0), (.int .u8 0), (.int .u8 0), (.int .u8 0), (.int .u8 0), (.int .u8 0), (.int .u8 0), (.int .u8 0)]⟩))),
 oo 22 (.box 30 (.cst (.agg ⟨[(.int .u8 0), (.int .u8 0), (.int .u8 0), (.int .u8 0), (.int .u8 0), (.int .u8 0), (.int .u8 0), (.int .u8 0), (.int .u8 0), (.int .u8 0), (.int .u8 0), (.int .u8 0), (.int .u8 0), (.int .u8 0), (.int .u8 0), (.int .u8 0), (.int .u8 0), (.int .u8 0), (.int .u8 0), (.int .u8 0), (.int .u8 0), (.int .u8 0), (.int .u8 0), (.int .u8 0), (.int .u8 0), (.int .u8 0), (.int .u8 0), (.int .u8 0), (.int .u8 0), (.int .u8 0), (.int .u8 0), (.int .u8 0)]⟩))),
 oo 20 (.move (.tmp 88)),
 ⟨none, none, .storeN 32 (.tmp 21) (.tmp 89), []⟩,
 ⟨none, none, .storeN 32 (.tmp 22) (.tmp 90), []⟩])
 (.seq (.ops [
 oo 91 (.loadN 32 (.tmp 14)),
 oo 92 (.loadN 32 (.tmp 21)),
 oo 93 (.call 71 [(.tmp 91), (.tmp 92)]),
 oo 23 (.box 158 (.cst (.agg ⟨[(.slice none 0 0), (.int .u8 0), (.int .u8 0), (.int .u8 0), (.int .u8 0), (.int .u8 0), (.int .u8 0), (.int .u8 0), (.int .u8 0), (.int .u8 0), (.int .u8 0), (.int .u8 0), (.int .u8 0), (.int .u8 0), (.int .u8 0), (.int .u8 0), (.int .u8 0), (.int .u8 0), (.int .u8 0), (.int .u8 0), (.int .u8 0), (.int .u8 0), (.int .u8 0), (.int .u8 0), (.int .u8 0), (.int .u8 0), (.int .u8 0), (.int .u8 0), (.int .u8 0), (.int .u8 0), (.int .u8 0), (.int .u8 0), (.int .u8 0)]⟩))),
 ⟨none, none, .storeN 33 (.tmp 23) (.tmp 93), []⟩])
 (.seq (.ops [
 oo 94 (.loadN 32 (.tmp 14)),
 oo 95 (.loadN 32 (.tmp 22)),
 oo 96 (.call 71 [(.tmp 94), (.tmp 95)]),
 oo 24 (.box 158 (.cst (.agg ⟨[(.slice none 0 0), (.int .u8 0), (.int .u8 0), (.int .u8 0), (.int .u8 0), (.int .u8 0), (.int .u8 0), (.int .u8 0), (.int .u8 0), (.int .u8 0), (.int .u8 0), (.int .u8 0), (.int .u8 0), (.int .u8 0), (.int .u8 0), (.int .u8 0), (.int .u8 0), (.int .u8 0), (.int .u8 0), (.int .u8 0), (.int .u8 0), (.int .u8 0), (.int .u8 0), (.int .u8 0), (.int .u8 0), (.int .u8 0), (.int .u8 0), (.int .u8 0), (.int .u8 0), (.int .u8 0), (.int .u8 0), (.int .u8 0), (.int .u8 0)]⟩))),
 ⟨none, none, .storeN 33 (.tmp 24) (.tmp 96), []⟩])
 (.seq (.draw [
 oo 97 (.move (.tmp 20)),
 oo 98 (.loadN 33 (.tmp 23)),
 oo 99 (.loadN 33 (.tmp 24)),
 oo 102 (.fieldAddr 1 (.tmp 23)),
 ⟨(some 103), none, .loadN 32 (.tmp 102), [8, 10]⟩,
 oo 104 (.fieldAddr 1 (.tmp 24)),
 ⟨(some 105), none, .loadN 32 (.tmp 104), [8, 10, 11]⟩,
 oo 100 (.buildSlice 158 [(.slice none 0 0), (.int .u8 0), (.int .u8 0), (.int .u8 0), (.int .u8 0), (.int .u8 0), (.int .u8 0), (.int .u8 0), (.int .u8 0), (.int .u8 0), (.int .u8 0), (.int .u8 0), (.int .u8 0), (.int .u8 0), (.int .u8 0), (.int .u8 0), (.int .u8 0), (.int .u8 0), (.int .u8 0), (.int .u8 0), (.int .u8 0), (.int .u8 0), (.int .u8 0), (.int .u8 0), (.int .u8 0), (.int .u8 0), (.int .u8 0), (.int .u8 0), (.int .u8 0), (.int .u8 0), (.int .u8 0), (.int .u8 0), (.int .u8 0), (.slice none 0 0), (.int .u8 0), (.int .u8 0), (.int .u8 0), (.int .u8 0), (.int .u8 0), (.int .u8 0), (.int .u8 0), (.int .u8 0), (.int .u8 0), (.int .u8 0), (.int .u8 0), (.int .u8 0), (.int .u8 0), (.int .u8 0), (.int .u8 0), (.int .u8 0), (.int .u8 0), (.int .u8 0), (.int .u8 0), (.int .u8 0), (.int .u8 0), (.int .u8 0), (.int .u8 0), (.int .u8 0), (.int .u8 0), (.int .u8 0), (.int .u8 0), (.int .u8 0), (.int .u8 0), (.int .u8 0), (.int .u8 0), (.int .u8 0)] 2 [(0, 33, (.tmp 98)), (33, 33, (.tmp 99))]),
 oo 101 (.append 158 33 56 (.tmp 97) (.tmp 100)),
 oo 10 (.move (.tmp 101)),
 ⟨none, none, .storeN 32 (.tmp 11) (.tmp 103), []⟩,
 ⟨none, none, .storeN 32 (.tmp 12) (.tmp 105), []⟩])
 .ret)))))))))))
def r34 : List ARes := [.tmp 10, .cellN 11 32, .cellN 12 32]
def a34 : AFn := ⟨b34, r34, 0⟩
def b33 : ACode := (.seq (.ops [
 oo 4 (.move (.cst (.int .i64 0)))])
 (.seq (.ops [
 oo 5 (.move (.tmp 0)),
 oo 6 (.move (.tmp 1)),
 oo 7 (.bin .rem (.tmp 5) (.tmp 6)),
 oo 0 (.move (.tmp 7))])
 (.seq (.seq (.ops [
 oo 8 (.move (.tmp 0)),
 oo 9 (.bin .lss (.tmp 8) (.cst (.int .i64 0)))])
 (.cond (.tmp 9)
 (.ops [
 oo 10 (.move (.tmp 0)),
 oo 11 (.move (.tmp 1)),
 oo 12 (.bin .add (.tmp 10) (.tmp 11)),
 oo 0 (.move (.tmp 12))])
 .skip))
 (.seq (.ops [
 oo 13 (.move (.tmp 0)),
 oo 4 (.move (.tmp 13))])
 .ret))))
def r33 : List ARes := [.tmp 4]
def a33 : AFn := ⟨b33, r33, 3⟩

structure Tab_LGrow (C : Ctx) : Prop where
  h31 : C.T 31 = some (.fn a31)
  h34 : C.T 34 = some (.fn a34)
  h33 : C.T 33 = some (.fn a33)
end Go.Ab.Aud

namespace Go.Ab.Aud
def b147 : ACode := (.seq (.ops [
 oo 2 (.move (.cst (.bool false)))])
 (.seq (.ops [
 oo 3 (.move (.tmp 0)),
 oo 4 (.bin .neq (.tmp 3) (.cst (.string ⟨⟨[]⟩⟩))),
 oo 5 (.move (.tmp 4)),
 og 6 5 true (.move (.tmp 0)),
 og 7 5 true (.lenS (.tmp 6)),
 og 8 5 true (.bin .leq (.tmp 7) (.cst (.int .i64 64))),
 oo 9 (.pick (.tmp 5) (.tmp 8) (.cst (.bool false))),
 oo 10 (.move (.tmp 9)),
 og 11 10 true (.move (.tmp 0)),
 og 12 10 true (.call 215 [(.tmp 11), (.cst (.string ⟨⟨[97, 98, 99, 100, 101, 102, 103, 104, 105, 106, 107, 108, 109, 110, 111, 112, 113, 114, 115, 116, 117, 118, 119, 120, 121, 122, 48, 49, 50, 51, 52, 53, 54, 55, 56, 57, 46, 45, 95]⟩⟩))]),
 og 13 10 true (.bin .eql (.tmp 12) (.cst (.string ⟨⟨[]⟩⟩))),
 oo 14 (.pick (.tmp 10) (.tmp 13) (.cst (.bool false))),
 oo 2 (.move (.tmp 14))])
 .ret))
def r147 : List ARes := [.tmp 2]
def a147 : AFn := ⟨b147, r147, 3⟩
def b215 : ACode := (.seq (.ops [
 oo 4 (.move (.cst (.string ⟨⟨[]⟩⟩)))])
 (.seq (.seq (.ops [
 oo 7 (.move (.tmp 0)),
 oo 8 (.bin .eql (.tmp 7) (.cst (.string ⟨⟨[]⟩⟩))),
 oo 9 (.move (.tmp 8)),
 og 10 9 false (.move (.tmp 1)),
 og 11 9 false (.bin .eql (.tmp 10) (.cst (.string ⟨⟨[]⟩⟩))),
 oo 12 (.pick (.tmp 9) (.cst (.bool true)) (.tmp 11))])
 (.cond (.tmp 12)
 (.seq (.ops [
 oo 13 (.move (.tmp 0)),
 oo 4 (.move (.tmp 13))])
 .ret)
 .skip))
 (.seq (.seq (.ops [
 oo 14 (.move (.tmp 1)),
 oo 15 (.lenS (.tmp 14)),
 oo 16 (.bin .eql (.tmp 15) (.cst (.int .i64 1))),
 oo 17 (.move (.tmp 16)),
 og 18 17 true (.move (.tmp 1)),
 og 19 17 true (.idxStr (.tmp 18) (.cst (.int .i64 0))),
 og 20 17 true (.bin .lss (.tmp 19) (.cst (.int .u8 128))),
 oo 21 (.pick (.tmp 17) (.tmp 20) (.cst (.bool false)))])
 (.cond (.tmp 21)
 (.seq (.draw [
 oo 22 (.move (.tmp 0)),
 oo 23 (.move (.tmp 1)),
 oo 24 (.idxStr (.tmp 23) (.cst (.int .i64 0))),
 oo 26 (.move (.tmp 1)),
 oo 27 (.idxStr (.tmp 26) (.cst (.int .i64 0))),
 oo 25 (.call 239 [(.tmp 22), (.tmp 24)]),
 oo 28 (.call 238 [(.tmp 25), (.tmp 27)]),
 oo 4 (.move (.tmp 28))])
 .ret)
 .skip))
 (.seq (.seq (.ops [
 oo 30 (.move (.tmp 1)),
 oo 31 (.call 240 [(.tmp 30)]),
 oo 29 (.move (.tmp 31)),
 oo 32 (.extract 0 (.tmp 29)),
 oo 33 (.extract 1 (.tmp 29)),
 oo 5 (.box 368 (.cst (.agg ⟨[(.bool false), (.bool false), (.bool false), (.bool false), (.bool false), (.bool false), (.bool false), (.bool false), (.bool false), (.bool false), (.bool false), (.bool false), (.bool false), (.bool false), (.bool false), (.bool false), (.bool false), (.bool false), (.bool false), (.bool false), (.bool false), (.bool false), (.bool false), (.bool false), (.bool false), (.bool false), (.bool false), (.bool false), (.bool false), (.bool false), (.bool false), (.bool false), (.bool false), (.bool false), (.bool false), (.bool false), (.bool false), (.bool false), (.bool false), (.bool false), (.bool false), (.bool false), (.bool false), (.bool false), (.bool false), (.bool false), (.bool false), (.bool false), (.bool false), (.bool false), (.bool false), (.bool false), (.bool false), (.bool false), (.bool false), (.bool false), (.bool false), (.bool false), (.bool false), (.bool false), (.bool false), (.bool false), (.bool false), (.bool false), (.bool false), (.bool false), (.bool false), (.bool false), (.bool false), (.bool false), (.bool false), (.bool false), (.bool false), (.bool false), (.bool false), (.bool false), (.bool false), (.bool false), (.bool false), (.bool false), (.bool false), (.bool false), (.bool false), (.bool false), (.bool false), (.bool false), (.bool false), (.bool false), (.bool false), (.bool false), (.bool false), (.bool false), (.bool false), (.bool false), (.bool false), (.bool false), (.bool false), (.bool false), (.bool false), (.bool false), (.bool false), (.bool false), (.bool false), (.bool false), (.bool false), (.bool false), (.bool false), (.bool false), (.bool false), (.bool false), (.bool false), (.bool false), (.bool false), (.bool false), (.bool false), (.bool false), (.bool false), (.bool false), (.bool false), (.bool false), (.bool false), (.bool false), (.bool false), (.bool false), (.bool false), (.bool false), (.bool false), (.bool false), (.bool false), (.bool false), (.bool false), (.bool false), (.bool false), (.bool false), (.bool false), (.bool false), (.bool false), (.bool false), (.bool false), (.bool false), (.bool false), (.bool false), (.bool false), (.bool false), (.bool false), (.bool false), (.bool false), (.bool false), (.bool false), (.bool false), (.bool false), (.bool false), (.bool false), (.bool false), (.bool false), (.bool false), (.bool false), (.bool false), (.bool false), (.bool false), (.bool false), (.bool false), (.bool false), (.bool false), (.bool false), (.bool false), (.bool false), (.bool false), (.bool false), (.bool false), (.bool false), (.bool false), (.bool false), (.bool false), (.bool false), (.bool false), (.bool false), (.bool false), (.bool false), (.bool false), (.bool false), (.bool false), (.bool false), (.bool false), (.bool false), (.bool false), (.bool false), (.bool false), (.bool false), (.bool false), (.bool false), (.bool false), (.bool false), (.bool false), (.bool false), (.bool false), (.bool false), (.bool false), (.bool false), (.bool false), (.bool false), (.bool false), (.bool false), (.bool false), (.bool false), (.bool false), (.bool false), (.bool false), (.bool false), (.bool false), (.bool false), (.bool false), (.bool false), (.bool false), (.bool false), (.bool false), (.bool false), (.bool false), (.bool false), (.bool false), (.bool false), (.bool false), (.bool false), (.bool false), (.bool false), (.bool false), (.bool false), (.bool false), (.bool false), (.bool false), (.bool false), (.bool false), (.bool false), (.bool false), (.bool false), (.bool false), (.bool false), (.bool false), (.bool false), (.bool false), (.bool false), (.bool false), (.bool false), (.bool false), (.bool false), (.bool false), (.bool false), (.bool false), (.bool false), (.bool false), (.bool false), (.bool false), (.bool false), (.bool false), (.bool false), (.bool false)]⟩))),
 ⟨none, none, .storeN 256 (.tmp 5) (.tmp 32), []⟩,
 oo 6 (.move (.tmp 33))])
 (.seq (.ops [
 oo 34 (.move (.tmp 6))])
 (.cond (.tmp 34)
 (.seq (.ops [
 oo 35 (.move (.tmp 0)),
 oo 36 (.call 242 [(.tmp 35), (.tmp 5)]),
 oo 37 (.call 241 [(.tmp 36), (.tmp 5)]),
 oo 4 (.move (.tmp 37))])
 .ret)
 .skip)))
 (.seq (.ops [
 oo 38 (.move (.tmp 0)),
 oo 39 (.move (.tmp 1)),
 oo 40 (.call 244 [(.tmp 38), (.tmp 39)]),
 oo 41 (.move (.tmp 1)),
 oo 42 (.call 243 [(.tmp 40), (.tmp 41)]),
 oo 4 (.move (.tmp 42))])
 .ret)))))
def r215 : List ARes := [.tmp 4]
def a215 : AFn := ⟨b215, r215, 0⟩
def lp240_0 : ACode := (.seq (.seq (.ops [
 oo 6 (.move (.tmp 4)),
 oo 7 (.move (.tmp 0)),
 oo 8 (.lenS (.tmp 7)),
 oo 9 (.bin .lss (.tmp 6) (.tmp 8))])
 (.cond (.tmp 9)
 .skip
 (.exit 0)))
 (.seq (.block 1 (.seq (.ops [
 oo 12 (.move (.tmp 0)),
 oo 13 (.move (.tmp 4)),
 oo 14 (.idxStr (.tmp 12) (.tmp 13)),
 oo 5 (.move (.tmp 14))])
 (.seq (.seq (.ops [
 oo 15 (.move (.tmp 5)),
 oo 16 (.bin .geq (.tmp 15) (.cst (.int .u8 128)))])
 (.cond (.tmp 16)
 (.seq (.ops [
 oo 17 (.loadN 256 (.tmp 2)),
 ⟨none, none, .storeN 256 (.tmp 2) (.tmp 17), []⟩,
 oo 3 (.move (.cst (.bool false)))])
 .ret)
 .skip))
 (.ops [
 oo 18 (.move (.tmp 5)),
 oo 19 (.idxAddrArr 1 256 (.tmp 2) (.tmp 18)),
 ⟨none, none, .store1 (.tmp 19) (.cst (.bool true)), []⟩]))))
 (.ops [
 oo 10 (.move (.tmp 4)),
 oo 11 (.bin .add (.tmp 10) (.cst (.int .i64 1))),
 oo 4 (.move (.tmp 11))])))
def k240_0 : ACode := (.seq (.ops [
 oo 20 (.loadN 256 (.tmp 2)),
 ⟨none, none, .storeN 256 (.tmp 2) (.tmp 20), []⟩,
 oo 3 (.move (.cst (.bool true)))])
 .ret)
def b240 : ACode := (.seq (.ops [
 oo 2 (.box 368 (.cst (.agg ⟨[(.bool false), (.bool false), (.bool false), (.bool false), (.bool false), (.bool false), (.bool false), (.bool false), (.bool false), (.bool false), (.bool false), (.bool false), (.bool false), (.bool false), (.bool false), (.bool false), (.bool false), (.bool false), (.bool false), (.bool false), (.bool false), (.bool false), (.bool false), (.bool false), (.bool false), (.bool false), (.bool false), (.bool false), (.bool false), (.bool false), (.bool false), (.bool false), (.bool false), (.bool false), (.bool false), (.bool false), (.bool false), (.bool false), (.bool false), (.bool false), (.bool false), (.bool false), (.bool false), (.bool false), (.bool false), (.bool false), (.bool false), (.bool false), (.bool false), (.bool false), (.bool false), (.bool false), (.bool false), (.bool false), (.bool false), (.bool false), (.bool false), (.bool false), (.bool false), (.bool false), (.bool false), (.bool false), (.bool false), (.bool false), (.bool false), (.bool false), (.bool false), (.bool false), (.bool false), (.bool false), (.bool false), (.bool false), (.bool false), (.bool false), (.bool false), (.bool false), (.bool false), (.bool false), (.bool false), (.bool false), (.bool false), (.bool false), (.bool false), (.bool false), (.bool false), (.bool false), (.bool false), (.bool false), (.bool false), (.bool false), (.bool false), (.bool false), (.bool false), (.bool false), (.bool false), (.bool false), (.bool false), (.bool false), (.bool false), (.bool false), (.bool false), (.bool false), (.bool false), (.bool false), (.bool false), (.bool false), (.bool false), (.bool false), (.bool false), (.bool false), (.bool false), (.bool false), (.bool false), (.bool false), (.bool false), (.bool false), (.bool false), (.bool false), (.bool false), (.bool false), (.bool false), (.bool false), (.bool false), (.bool false), (.bool false), (.bool false), (.bool false), (.bool false), (.bool false), (.bool false), (.bool false), (.bool false), (.bool false), (.bool false), (.bool false), (.bool false), (.bool false), (.bool false), (.bool false), (.bool false), (.bool false), (.bool false), (.bool false), (.bool false), (.bool false), (.bool false), (.bool false), (.bool false), (.bool false), (.bool false), (.bool false), (.bool false), (.bool false), (.bool false), (.bool false), (.bool false), (.bool false), (.bool false), (.bool false), (.bool false), (.bool false), (.bool false), (.bool false), (.bool false), (.bool false), (.bool false), (.bool false), (.bool false), (.bool false), (.bool false), (.bool false), (.bool false), (.bool false), (.bool false), (.bool false), (.bool false), (.bool false), (.bool false), (.bool false), (.bool false), (.bool false), (.bool false), (.bool false), (.bool false), (.bool false), (.bool false), (.bool false), (.bool false), (.bool false), (.bool false), (.bool false), (.bool false), (.bool false), (.bool false), (.bool false), (.bool false), (.bool false), (.bool false), (.bool false), (.bool false), (.bool false), (.bool false), (.bool false), (.bool false), (.bool false), (.bool false), (.bool false), (.bool false), (.bool false), (.bool false), (.bool false), (.bool false), (.bool false), (.bool false), (.bool false), (.bool false), (.bool false), (.bool false), (.bool false), (.bool false), (.bool false), (.bool false), (.bool false), (.bool false), (.bool false), (.bool false), (.bool false), (.bool false), (.bool false), (.bool false), (.bool false), (.bool false), (.bool false), (.bool false), (.bool false), (.bool false), (.bool false), (.bool false), (.bool false), (.bool false), (.bool false), (.bool false), (.bool false), (.bool false), (.bool false), (.bool false), (.bool false), (.bool false), (.bool false), (.bool false), (.bool false), (.bool false), (.bool false), (.bool false), (.bool false), (.bool false)]⟩))),
 oo 3 (.move (.cst (.bool false)))])
 (.seq (.seq (.ops [
 oo 4 (.move (.cst (.int .i64 0)))])
 (.block 0 (.loop lp240_0)))
 k240_0))
def r240 : List ARes := [.cellN 2 256, .tmp 3]
def a240 : AFn := ⟨b240, r240, 0⟩
def lp241_0 : ACode := (.seq (.seq (.ops [
 oo 5 (.move (.tmp 0)),
 oo 6 (.lenS (.tmp 5)),
 oo 7 (.bin .gtr (.tmp 6) (.cst (.int .i64 0)))])
 (.cond (.tmp 7)
 .skip
 (.exit 0)))
 (.block 1 (.seq (.seq (.ops [
 oo 8 (.move (.tmp 1)),
 oo 9 (.move (.tmp 0)),
 oo 10 (.idxStr (.tmp 9) (.cst (.int .i64 0))),
 oo 11 (.call 254 [(.tmp 8), (.tmp 10)]),
 oo 12 (.un .not (.tmp 11))])
 (.cond (.tmp 12)
 (.exit 0)
 .skip))
 (.ops [
 oo 13 (.move (.tmp 0)),
 oo 14 (.sliceStr (.tmp 13) (some (.cst (.int .i64 1))) none),
 oo 0 (.move (.tmp 14))]))))
def k241_0 : ACode := (.seq (.ops [
 oo 15 (.move (.tmp 0)),
 oo 4 (.move (.tmp 15))])
 .ret)
def b241 : ACode := (.seq (.ops [
 oo 4 (.move (.cst (.string ⟨⟨[]⟩⟩)))])
 (.seq (.block 0 (.loop lp241_0))
 k241_0))
def r241 : List ARes := [.tmp 4]
def a241 : AFn := ⟨b241, r241, 0⟩
def lp242_0 : ACode := (.seq (.seq (.ops [
 oo 5 (.move (.tmp 0)),
 oo 6 (.lenS (.tmp 5)),
 oo 7 (.bin .gtr (.tmp 6) (.cst (.int .i64 0)))])
 (.cond (.tmp 7)
 .skip
 (.exit 0)))
 (.block 1 (.seq (.seq (.ops [
 oo 8 (.move (.tmp 1)),
 oo 9 (.move (.tmp 0)),
 oo 10 (.move (.tmp 0)),
 oo 11 (.lenS (.tmp 10)),
 oo 12 (.bin .sub (.tmp 11) (.cst (.int .i64 1))),
 oo 13 (.idxStr (.tmp 9) (.tmp 12)),
 oo 14 (.call 254 [(.tmp 8), (.tmp 13)]),
 oo 15 (.un .not (.tmp 14))])
 (.cond (.tmp 15)
 (.exit 0)
 .skip))
 (.ops [
 oo 16 (.move (.tmp 0)),
 oo 17 (.move (.tmp 0)),
 oo 18 (.lenS (.tmp 17)),
 oo 19 (.bin .sub (.tmp 18) (.cst (.int .i64 1))),
 oo 20 (.sliceStr (.tmp 16) none (some (.tmp 19))),
 oo 0 (.move (.tmp 20))]))))
def k242_0 : ACode := (.seq (.ops [
 oo 21 (.move (.tmp 0)),
 oo 4 (.move (.tmp 21))])
 .ret)
def b242 : ACode := (.seq (.ops [
 oo 4 (.move (.cst (.string ⟨⟨[]⟩⟩)))])
 (.seq (.block 0 (.loop lp242_0))
 k242_0))
def r242 : List ARes := [.tmp 4]
def a242 : AFn := ⟨b242, r242, 0⟩
def b254 : ACode := (.seq (.ops [
 oo 4 (.move (.cst (.bool false)))])
 (.seq (.ops [
 oo 5 (.move (.tmp 0)),
 oo 6 (.move (.tmp 1)),
 oo 7 (.nilCheck (.tmp 5)),
 oo 8 (.idxAddrArr 1 256 (.tmp 7) (.tmp 6)),
 oo 9 (.load1 (.tmp 8)),
 oo 4 (.move (.tmp 9))])
 .ret))
def r254 : List ARes := [.tmp 4]
def a254 : AFn := ⟨b254, r254, 0⟩

structure Tab_LName (C : Ctx) : Prop where
  h147 : C.T 147 = some (.fn a147)
  h215 : C.T 215 = some (.fn a215)
  h240 : C.T 240 = some (.fn a240)
  h241 : C.T 241 = some (.fn a241)
  h242 : C.T 242 = some (.fn a242)
  h254 : C.T 254 = some (.fn a254)
end Go.Ab.Aud
