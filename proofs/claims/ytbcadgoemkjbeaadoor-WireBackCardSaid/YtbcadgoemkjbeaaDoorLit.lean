/-
  The program's functions that this statement reaches, as the abstract machine's code; no condition.
-/
import Derived.Test.YtbcadgoemkjbeaaDoorAbD

set_option linter.unusedSimpArgs false
set_option linter.unusedVariables false
set_option linter.unusedSectionVars false

namespace Go.Ab.Aud
def b28 : ACode := (.seq (.ops [
 oo 4 (.move (.cst .nilIface))])
 (.seq (.ops [
 oo 5 (.move (.tmp 0)),
 oo 6 (.call 44 [(.tmp 5)])])
 (.seq (.ops [
 oo 7 (.move (.tmp 0)),
 oo 8 (.move (.tmp 0)),
 oo 9 (.nilCheck (.tmp 8)),
 oo 10 (.fieldAddr 1 (.tmp 9)),
 oo 11 (.load1 (.tmp 10)),
 oo 12 (.move (.tmp 1)),
 oo 13 (.buildSlice 5 [(.int .u8 0)] 1 [(0, 1, (.tmp 12))]),
 oo 14 (.append 5 1 1 (.tmp 11) (.tmp 13)),
 oo 15 (.nilCheck (.tmp 7)),
 oo 16 (.fieldAddr 1 (.tmp 15)),
 ⟨none, none, .store1 (.tmp 16) (.tmp 14), []⟩])
 (.seq (.ops [
 oo 4 (.move (.cst .nilIface))])
 .ret))))
def r28 : List ARes := [.tmp 4]
def a28 : AFn := ⟨b28, r28, 0⟩
def b29 : ACode := (.seq (.ops [
 oo 2 (.move (.cst (.string ⟨⟨[]⟩⟩)))])
 (.seq (.draw [
 oo 3 (.move (.tmp 0)),
 oo 4 (.nilCheck (.tmp 3)),
 oo 5 (.fieldAddr 1 (.tmp 4)),
 oo 6 (.load1 (.tmp 5)),
 oo 7 (.unsafeSliceData (.tmp 6)),
 oo 8 (.move (.tmp 0)),
 oo 9 (.nilCheck (.tmp 8)),
 oo 10 (.fieldAddr 1 (.tmp 9)),
 oo 11 (.load1 (.tmp 10)),
 oo 12 (.len (.tmp 11)),
 oo 13 (.unsafeStr 5 (.tmp 7) (.tmp 12)),
 oo 2 (.move (.tmp 13))])
 .ret))
def r29 : List ARes := [.tmp 2]
def a29 : AFn := ⟨b29, r29, 0⟩
def b30 : ACode := (.seq (.ops [
 oo 4 (.move (.tmp 0)),
 oo 5 (.call 44 [(.tmp 4)])])
 (.seq (.seq (.ops [
 oo 6 (.move (.tmp 1)),
 oo 7 (.bin .lss (.tmp 6) (.cst (.int .i64 0)))])
 (.cond (.tmp 7)
 (.ops [
 oo 8 (.mkIface 9 (.cst (.string ⟨⟨[115, 116, 114, 105, 110, 103, 115, 46, 66, 117, 105, 108, 100, 101, 114, 46, 71, 114, 111, 119, 58, 32, 110, 101, 103, 97, 116, 105, 118, 101, 32, 99, 111, 117, 110, 116]⟩⟩))),
 ⟨none, none, .bad, []⟩])
 .skip))
 (.seq (.draw [
 oo 9 (.move (.tmp 0)),
 oo 10 (.nilCheck (.tmp 9)),
 oo 11 (.fieldAddr 1 (.tmp 10)),
 oo 12 (.load1 (.tmp 11)),
 oo 13 (.cap (.tmp 12)),
 oo 14 (.move (.tmp 0)),
 oo 15 (.nilCheck (.tmp 14)),
 oo 16 (.fieldAddr 1 (.tmp 15)),
 oo 17 (.load1 (.tmp 16)),
 oo 18 (.len (.tmp 17)),
 oo 19 (.bin .sub (.tmp 13) (.tmp 18)),
 oo 20 (.move (.tmp 1)),
 oo 21 (.bin .lss (.tmp 19) (.tmp 20))])
 (.cond (.tmp 21)
 (.ops [
 oo 22 (.move (.tmp 0)),
 oo 23 (.move (.tmp 1)),
 oo 24 (.call 45 [(.tmp 22), (.tmp 23)])])
 .skip))))
def r30 : List ARes := []
def a30 : AFn := ⟨b30, r30, 0⟩
def b31 : ACode := (.seq (.ops [
 oo 4 (.move (.cst (.int .i64 0))),
 oo 5 (.move (.cst .nilIface))])
 (.seq (.ops [
 oo 6 (.move (.tmp 0)),
 oo 7 (.call 44 [(.tmp 6)])])
 (.seq (.ops [
 oo 8 (.move (.tmp 0)),
 oo 9 (.move (.tmp 0)),
 oo 10 (.nilCheck (.tmp 9)),
 oo 11 (.fieldAddr 1 (.tmp 10)),
 oo 12 (.load1 (.tmp 11)),
 oo 13 (.move (.tmp 1)),
 oo 14 (.append 5 1 1 (.tmp 12) (.tmp 13)),
 oo 15 (.nilCheck (.tmp 8)),
 oo 16 (.fieldAddr 1 (.tmp 15)),
 ⟨none, none, .store1 (.tmp 16) (.tmp 14), []⟩])
 (.seq (.ops [
 oo 17 (.move (.tmp 1)),
 oo 18 (.lenS (.tmp 17)),
 oo 4 (.move (.tmp 18)),
 oo 5 (.move (.cst .nilIface))])
 .ret))))
def r31 : List ARes := [.tmp 4, .tmp 5]
def a31 : AFn := ⟨b31, r31, 0⟩
def b33 : ACode := (.seq (.ops [
 oo 4 (.move (.cst (.int .i64 0))),
 oo 5 (.move (.cst .nilIface))])
 (.seq (.ops [
 oo 7 (.move (.tmp 0)),
 oo 8 (.call 44 [(.tmp 7)])])
 (.seq (.ops [
 oo 9 (.move (.tmp 0)),
 oo 10 (.nilCheck (.tmp 9)),
 oo 11 (.fieldAddr 1 (.tmp 10)),
 oo 12 (.load1 (.tmp 11)),
 oo 13 (.len (.tmp 12)),
 oo 6 (.move (.tmp 13))])
 (.seq (.ops [
 oo 14 (.move (.tmp 0)),
 oo 15 (.move (.tmp 0)),
 oo 16 (.nilCheck (.tmp 15)),
 oo 17 (.fieldAddr 1 (.tmp 16)),
 oo 18 (.load1 (.tmp 17)),
 oo 19 (.move (.tmp 1)),
 oo 20 (.call 49 [(.tmp 18), (.tmp 19)]),
 oo 21 (.nilCheck (.tmp 14)),
 oo 22 (.fieldAddr 1 (.tmp 21)),
 ⟨none, none, .store1 (.tmp 22) (.tmp 20), []⟩])
 (.seq (.ops [
 oo 23 (.move (.tmp 0)),
 oo 24 (.nilCheck (.tmp 23)),
 oo 25 (.fieldAddr 1 (.tmp 24)),
 oo 26 (.load1 (.tmp 25)),
 oo 27 (.len (.tmp 26)),
 oo 28 (.move (.tmp 6)),
 oo 29 (.bin .sub (.tmp 27) (.tmp 28)),
 oo 4 (.move (.tmp 29)),
 oo 5 (.move (.cst .nilIface))])
 .ret)))))
def r33 : List ARes := [.tmp 4, .tmp 5]
def a33 : AFn := ⟨b33, r33, 0⟩
def b44 : ACode := (.seq (.ops [
 oo 2 (.move (.tmp 0)),
 oo 3 (.nilCheck (.tmp 2)),
 oo 4 (.fieldAddr 0 (.tmp 3)),
 oo 5 (.load1 (.tmp 4)),
 oo 6 (.eq false .nilP (.tmp 5) (.cst (.pointer none)))])
 (.cond (.tmp 6)
 (.ops [
 oo 7 (.move (.tmp 0)),
 oo 8 (.move (.tmp 0)),
 oo 9 (.toUnsafe (.tmp 8)),
 oo 10 (.call 62 [(.tmp 9)]),
 oo 11 (.fromUnsafe 70 (.tmp 10)),
 oo 12 (.nilCheck (.tmp 7)),
 oo 13 (.fieldAddr 0 (.tmp 12)),
 ⟨none, none, .store1 (.tmp 13) (.tmp 11), []⟩])
 (.seq (.ops [
 oo 14 (.move (.tmp 0)),
 oo 15 (.nilCheck (.tmp 14)),
 oo 16 (.fieldAddr 0 (.tmp 15)),
 oo 17 (.load1 (.tmp 16)),
 oo 18 (.move (.tmp 0)),
 oo 19 (.eq true .ptr (.tmp 17) (.tmp 18))])
 (.cond (.tmp 19)
 .bad
 .skip))))
def r44 : List ARes := []
def a44 : AFn := ⟨b44, r44, 0⟩
def b45 : ACode := (.seq (.draw [
 oo 5 (.move (.tmp 0)),
 oo 6 (.nilCheck (.tmp 5)),
 oo 7 (.fieldAddr 1 (.tmp 6)),
 oo 8 (.load1 (.tmp 7)),
 oo 9 (.cap (.tmp 8)),
 oo 10 (.bin .mul (.cst (.int .i64 2)) (.tmp 9)),
 oo 11 (.move (.tmp 1)),
 oo 12 (.bin .add (.tmp 10) (.tmp 11)),
 oo 14 (.move (.tmp 0)),
 oo 15 (.nilCheck (.tmp 14)),
 oo 16 (.fieldAddr 1 (.tmp 15)),
 ⟨(some 17), none, .load1 (.tmp 16), [16]⟩,
 oo 18 (.len (.tmp 17)),
 oo 13 (.call 63 [(.tmp 12)]),
 oo 19 (.sliceSl 1 (.tmp 13) none (some (.tmp 18)) none),
 oo 4 (.move (.tmp 19))])
 (.seq (.ops [
 oo 20 (.move (.tmp 4)),
 oo 21 (.move (.tmp 0)),
 oo 22 (.nilCheck (.tmp 21)),
 oo 23 (.fieldAddr 1 (.tmp 22)),
 oo 24 (.load1 (.tmp 23)),
 oo 25 (.copy 1 (.tmp 20) (.tmp 24))])
 (.ops [
 oo 26 (.move (.tmp 0)),
 oo 27 (.move (.tmp 4)),
 oo 28 (.nilCheck (.tmp 26)),
 oo 29 (.fieldAddr 1 (.tmp 28)),
 ⟨none, none, .store1 (.tmp 29) (.tmp 27), []⟩])))
def r45 : List ARes := []
def a45 : AFn := ⟨b45, r45, 0⟩
def b49 : ACode := (.seq (.ops [
 oo 4 (.move (.cst (.slice none 0 0)))])
 (.seq (.seq (.ops [
 oo 5 (.move (.tmp 1)),
 oo 6 (.convInt .u32 (.tmp 5)),
 oo 7 (.bin .leq (.tmp 6) (.cst (.int .u32 127)))])
 (.cond (.tmp 7)
 (.seq (.ops [
 oo 8 (.move (.tmp 0)),
 oo 9 (.move (.tmp 1)),
 oo 10 (.convInt .u8 (.tmp 9)),
 oo 11 (.buildSlice 5 [(.int .u8 0)] 1 [(0, 1, (.tmp 10))]),
 oo 12 (.append 5 1 1 (.tmp 8) (.tmp 11)),
 oo 4 (.move (.tmp 12))])
 .ret)
 .skip))
 (.seq (.ops [
 oo 13 (.move (.tmp 0)),
 oo 14 (.move (.tmp 1)),
 oo 15 (.call 66 [(.tmp 13), (.tmp 14)]),
 oo 4 (.move (.tmp 15))])
 .ret)))
def r49 : List ARes := [.tmp 4]
def a49 : AFn := ⟨b49, r49, 0⟩
def b54 : ACode := (.seq (.ops [
 oo 2 (.move (.cst (.int .i64 0)))])
 (.seq (.ops [
 oo 3 (.move (.tmp 0)),
 oo 4 (.nilCheck (.tmp 3)),
 oo 5 (.fieldAddr 1 (.tmp 4)),
 oo 6 (.load1 (.tmp 5)),
 oo 7 (.len (.tmp 6)),
 oo 2 (.move (.tmp 7))])
 .ret))
def r54 : List ARes := [.tmp 2]
def a54 : AFn := ⟨b54, r54, 0⟩
def b66 : ACode := (.seq (.ops [
 oo 4 (.move (.cst (.slice none 0 0)))])
 (.seq (.ops [
 oo 6 (.move (.tmp 1)),
 oo 7 (.convInt .u32 (.tmp 6)),
 oo 5 (.move (.tmp 7))])
 (.block 0 (.seq (.ops [
 oo 12 (.move (.tmp 5)),
 oo 13 (.bin .leq (.tmp 12) (.cst (.int .u32 2047))),
 oo 11 (.move (.tmp 13))])
 (.cond (.tmp 11)
 (.seq (.ops [
 oo 14 (.move (.tmp 0)),
 oo 15 (.move (.tmp 1)),
 oo 16 (.bin .shr (.tmp 15) (.cst (.int .u64 6))),
 oo 17 (.convInt .u8 (.tmp 16)),
 oo 18 (.bin .or (.cst (.int .u8 192)) (.tmp 17)),
 oo 19 (.move (.tmp 1)),
 oo 20 (.convInt .u8 (.tmp 19)),
 oo 21 (.bin .and (.tmp 20) (.cst (.int .u8 63))),
 oo 22 (.bin .or (.cst (.int .u8 128)) (.tmp 21)),
 oo 23 (.buildSlice 5 [(.int .u8 0), (.int .u8 0)] 2 [(0, 1, (.tmp 18)), (1, 1, (.tmp 22))]),
 oo 24 (.append 5 1 1 (.tmp 14) (.tmp 23)),
 oo 4 (.move (.tmp 24))])
 .ret)
 (.seq (.seq (.ops [
 oo 26 (.move (.tmp 5)),
 oo 27 (.bin .lss (.tmp 26) (.cst (.int .u32 55296))),
 oo 25 (.move (.tmp 27))])
 (.cond (.tmp 25)
 .skip
 (.ops [
 oo 28 (.move (.tmp 5)),
 oo 29 (.bin .lss (.cst (.int .u32 57343)) (.tmp 28)),
 oo 30 (.move (.tmp 29)),
 og 31 30 true (.move (.tmp 5)),
 og 32 30 true (.bin .leq (.tmp 31) (.cst (.int .u32 65535))),
 oo 33 (.pick (.tmp 30) (.tmp 32) (.cst (.bool false))),
 oo 25 (.move (.tmp 33))])))
 (.cond (.tmp 25)
 (.seq (.ops [
 oo 34 (.move (.tmp 0)),
 oo 35 (.move (.tmp 1)),
 oo 36 (.bin .shr (.tmp 35) (.cst (.int .u64 12))),
 oo 37 (.convInt .u8 (.tmp 36)),
 oo 38 (.bin .or (.cst (.int .u8 224)) (.tmp 37)),
 oo 39 (.move (.tmp 1)),
 oo 40 (.bin .shr (.tmp 39) (.cst (.int .u64 6))),
 oo 41 (.convInt .u8 (.tmp 40)),
 oo 42 (.bin .and (.tmp 41) (.cst (.int .u8 63))),
 oo 43 (.bin .or (.cst (.int .u8 128)) (.tmp 42)),
 oo 44 (.move (.tmp 1)),
 oo 45 (.convInt .u8 (.tmp 44)),
 oo 46 (.bin .and (.tmp 45) (.cst (.int .u8 63))),
 oo 47 (.bin .or (.cst (.int .u8 128)) (.tmp 46)),
 oo 48 (.buildSlice 5 [(.int .u8 0), (.int .u8 0), (.int .u8 0)] 3 [(0, 1, (.tmp 38)), (1, 1, (.tmp 43)), (2, 1, (.tmp 47))]),
 oo 49 (.append 5 1 1 (.tmp 34) (.tmp 48)),
 oo 4 (.move (.tmp 49))])
 .ret)
 (.seq (.ops [
 oo 51 (.move (.tmp 5)),
 oo 52 (.bin .gtr (.tmp 51) (.cst (.int .u32 65535))),
 oo 53 (.move (.tmp 52)),
 og 54 53 true (.move (.tmp 5)),
 og 55 53 true (.bin .leq (.tmp 54) (.cst (.int .u32 1114111))),
 oo 56 (.pick (.tmp 53) (.tmp 55) (.cst (.bool false))),
 oo 50 (.move (.tmp 56))])
 (.cond (.tmp 50)
 (.seq (.ops [
 oo 57 (.move (.tmp 0)),
 oo 58 (.move (.tmp 1)),
 oo 59 (.bin .shr (.tmp 58) (.cst (.int .u64 18))),
 oo 60 (.convInt .u8 (.tmp 59)),
 oo 61 (.bin .or (.cst (.int .u8 240)) (.tmp 60)),
 oo 62 (.move (.tmp 1)),
 oo 63 (.bin .shr (.tmp 62) (.cst (.int .u64 12))),
 oo 64 (.convInt .u8 (.tmp 63)),
 oo 65 (.bin .and (.tmp 64) (.cst (.int .u8 63))),
 oo 66 (.bin .or (.cst (.int .u8 128)) (.tmp 65)),
 oo 67 (.move (.tmp 1)),
 oo 68 (.bin .shr (.tmp 67) (.cst (.int .u64 6))),
 oo 69 (.convInt .u8 (.tmp 68)),
 oo 70 (.bin .and (.tmp 69) (.cst (.int .u8 63))),
 oo 71 (.bin .or (.cst (.int .u8 128)) (.tmp 70)),
 oo 72 (.move (.tmp 1)),
 oo 73 (.convInt .u8 (.tmp 72)),
 oo 74 (.bin .and (.tmp 73) (.cst (.int .u8 63))),
 oo 75 (.bin .or (.cst (.int .u8 128)) (.tmp 74)),
 oo 76 (.buildSlice 5 [(.int .u8 0), (.int .u8 0), (.int .u8 0), (.int .u8 0)] 4 [(0, 1, (.tmp 61)), (1, 1, (.tmp 66)), (2, 1, (.tmp 71)), (3, 1, (.tmp 75))]),
 oo 77 (.append 5 1 1 (.tmp 57) (.tmp 76)),
 oo 4 (.move (.tmp 77))])
 .ret)
 (.seq (.ops [
 oo 8 (.move (.tmp 0)),
 oo 9 (.buildSlice 5 [(.int .u8 0), (.int .u8 0), (.int .u8 0)] 3 [(0, 1, (.cst (.int .u8 239))), (1, 1, (.cst (.int .u8 191))), (2, 1, (.cst (.int .u8 189)))]),
 oo 10 (.append 5 1 1 (.tmp 8) (.tmp 9)),
 oo 4 (.move (.tmp 10))])
 .ret))))))))))
def r66 : List ARes := [.tmp 4]
def a66 : AFn := ⟨b66, r66, 0⟩
def b75 : ACode := (.seq (.ops [
 oo 2 (.move (.cst (.bool false)))])
 (.seq (.block 0 (.seq (.ops [
 oo 4 (.move (.tmp 0)),
 oo 5 (.bin .leq (.cst (.int .i32 0)) (.tmp 4)),
 oo 6 (.move (.tmp 5)),
 og 7 6 true (.move (.tmp 0)),
 og 8 6 true (.bin .lss (.tmp 7) (.cst (.int .i32 55296))),
 oo 9 (.pick (.tmp 6) (.tmp 8) (.cst (.bool false))),
 oo 3 (.move (.tmp 9))])
 (.cond (.tmp 3)
 (.seq (.ops [
 oo 2 (.move (.cst (.bool true)))])
 .ret)
 (.seq (.ops [
 oo 11 (.move (.tmp 0)),
 oo 12 (.bin .lss (.cst (.int .i32 57343)) (.tmp 11)),
 oo 13 (.move (.tmp 12)),
 og 14 13 true (.move (.tmp 0)),
 og 15 13 true (.bin .leq (.tmp 14) (.cst (.int .i32 1114111))),
 oo 16 (.pick (.tmp 13) (.tmp 15) (.cst (.bool false))),
 oo 10 (.move (.tmp 16))])
 (.cond (.tmp 10)
 (.seq (.ops [
 oo 2 (.move (.cst (.bool true)))])
 .ret)
 .skip)))))
 (.seq (.ops [
 oo 2 (.move (.cst (.bool false)))])
 .ret)))
def r75 : List ARes := [.tmp 2]
def a75 : AFn := ⟨b75, r75, 3⟩
def b57 : ACode := (.seq (.ops [
 oo 4 (.move (.cst (.int .i64 0)))])
 (.seq (.ops [
 oo 5 (.move (.tmp 0)),
 oo 6 (.move (.tmp 1)),
 oo 7 (.call 70 [(.tmp 5), (.tmp 6)]),
 oo 4 (.move (.tmp 7))])
 .ret))
def r57 : List ARes := [.tmp 4]
def a57 : AFn := ⟨b57, r57, 3⟩
def b70 : ACode := (.seq (.ops [
 oo 4 (.move (.cst (.int .i64 0)))])
 (.seq (.ops [
 oo 5 (.move (.tmp 0)),
 oo 6 (.move (.tmp 1)),
 oo 7 (.call 76 [(.tmp 5), (.tmp 6)]),
 oo 4 (.move (.tmp 7))])
 .ret))
def r70 : List ARes := [.tmp 4]
def a70 : AFn := ⟨b70, r70, 3⟩
def lp61_0 : ACode := (.seq (.ops [
 oo 176 (.nextStr (.tmp 175)),
 oo 177 (.extract 0 (.tmp 176))])
 (.seq (.cond (.tmp 177)
 .skip
 (.exit 9))
 (.block 10 (.seq (.ops [
 oo 178 (.extract 1 (.tmp 176)),
 oo 179 (.extract 2 (.tmp 176)),
 oo 5 (.move (.tmp 178)),
 oo 6 (.move (.tmp 179))])
 (.seq (.ops [
 oo 180 (.move (.tmp 6)),
 oo 181 (.bin .eql (.tmp 180) (.cst (.int .i32 65533)))])
 (.cond (.tmp 181)
 (.seq (.ops [
 oo 182 (.move (.tmp 5)),
 oo 4 (.move (.tmp 182))])
 .ret)
 .skip))))))
def k61_0 : ACode := (.seq (.ops [
 oo 4 (.move (.cst (.int .i64 (-1))))])
 .ret)
def lp61_1 : ACode := (.seq (.seq (.ops [
 oo 48 (.move (.tmp 12)),
 oo 49 (.move (.tmp 7)),
 oo 50 (.lenS (.tmp 49)),
 oo 51 (.bin .lss (.tmp 48) (.tmp 50))])
 (.cond (.tmp 51)
 .skip
 (.exit 3)))
 (.seq (.block 4 (.seq (.draw [
 oo 54 (.move (.tmp 0)),
 oo 55 (.move (.tmp 9)),
 oo 56 (.move (.tmp 12)),
 oo 57 (.bin .sub (.tmp 55) (.tmp 56)),
 oo 58 (.idxStr (.tmp 54) (.tmp 57)),
 oo 59 (.move (.tmp 7)),
 oo 60 (.move (.tmp 8)),
 oo 61 (.move (.tmp 12)),
 oo 62 (.bin .sub (.tmp 60) (.tmp 61)),
 oo 63 (.idxStr (.tmp 59) (.tmp 62)),
 oo 64 (.bin .neq (.tmp 58) (.tmp 63))])
 (.cond (.tmp 64)
 (.goto 0)
 .skip)))
 (.ops [
 oo 52 (.move (.tmp 12)),
 oo 53 (.bin .add (.tmp 52) (.cst (.int .i64 1))),
 oo 12 (.move (.tmp 53))])))
def k61_1 : ACode := (.seq (.seq (.ops [
 oo 65 (.move (.tmp 9)),
 oo 66 (.move (.tmp 8)),
 oo 67 (.bin .sub (.tmp 65) (.tmp 66)),
 oo 4 (.move (.tmp 67))])
 .ret)
 (.seq (.label 0)
 (.seq (.ops [
 oo 68 (.move (.tmp 10)),
 oo 69 (.bin .add (.tmp 68) (.cst (.int .i64 1))),
 oo 10 (.move (.tmp 69))])
 (.seq (.ops [
 oo 70 (.move (.tmp 9)),
 oo 71 (.bin .add (.tmp 70) (.cst (.int .i64 1))),
 oo 9 (.move (.tmp 71))])
 (.seq (.ops [
 oo 72 (.move (.cst (.bool true))),
 og 73 72 true (.move (.tmp 10)),
 og 74 72 true (.move (.tmp 9)),
 og 75 72 true (.call 72 [(.tmp 74)]),
 og 76 72 true (.bin .gtr (.tmp 73) (.tmp 75)),
 oo 77 (.pick (.tmp 72) (.tmp 76) (.cst (.bool false))),
 oo 78 (.move (.tmp 77)),
 og 79 78 true (.move (.tmp 9)),
 og 80 78 true (.move (.tmp 0)),
 og 81 78 true (.lenS (.tmp 80)),
 og 82 78 true (.bin .lss (.tmp 79) (.tmp 81)),
 oo 83 (.pick (.tmp 78) (.tmp 82) (.cst (.bool false))),
 oo 84 (.move (.tmp 83)),
 og 85 84 false (.move (.cst (.bool false))),
 og 86 85 true (.move (.tmp 10)),
 og 87 85 true (.move (.tmp 9)),
 og 88 85 true (.bin .shr (.tmp 87) (.cst (.int .u64 4))),
 og 89 85 true (.bin .add (.cst (.int .i64 4)) (.tmp 88)),
 og 90 85 true (.bin .geq (.tmp 86) (.tmp 89)),
 og 91 84 false (.pick (.tmp 85) (.tmp 90) (.cst (.bool false))),
 og 92 84 false (.move (.tmp 91)),
 og 93 92 true (.move (.tmp 9)),
 og 94 92 true (.move (.tmp 0)),
 og 95 92 true (.lenS (.tmp 94)),
 og 96 92 true (.bin .lss (.tmp 93) (.tmp 95)),
 og 97 84 false (.pick (.tmp 92) (.tmp 96) (.cst (.bool false))),
 oo 98 (.pick (.tmp 84) (.cst (.bool true)) (.tmp 97))])
 (.cond (.tmp 98)
 (.goto 1)
 .skip))))))
def lp61_2 : ACode := (.seq (.seq (.ops [
 oo 23 (.move (.tmp 9)),
 oo 24 (.move (.tmp 0)),
 oo 25 (.lenS (.tmp 24)),
 oo 26 (.bin .lss (.tmp 23) (.tmp 25))])
 (.cond (.tmp 26)
 .skip
 (.exit 1)))
 (.block 2 (.scope (.seq (.seq (.draw [
 oo 27 (.move (.tmp 0)),
 oo 28 (.move (.tmp 9)),
 oo 29 (.idxStr (.tmp 27) (.tmp 28)),
 oo 30 (.move (.tmp 7)),
 oo 31 (.move (.tmp 8)),
 oo 32 (.idxStr (.tmp 30) (.tmp 31)),
 oo 33 (.bin .neq (.tmp 29) (.tmp 32))])
 (.cond (.tmp 33)
 (.seq (.draw [
 oo 34 (.move (.tmp 0)),
 oo 35 (.move (.tmp 9)),
 oo 36 (.bin .add (.tmp 35) (.cst (.int .i64 1))),
 oo 37 (.sliceStr (.tmp 34) (some (.tmp 36)) none),
 oo 38 (.move (.tmp 7)),
 oo 39 (.move (.tmp 8)),
 oo 40 (.idxStr (.tmp 38) (.tmp 39)),
 oo 41 (.call 57 [(.tmp 37), (.tmp 40)]),
 oo 11 (.move (.tmp 41))])
 (.seq (.seq (.ops [
 oo 42 (.move (.tmp 11)),
 oo 43 (.bin .lss (.tmp 42) (.cst (.int .i64 0)))])
 (.cond (.tmp 43)
 (.seq (.ops [
 oo 4 (.move (.cst (.int .i64 (-1))))])
 .ret)
 .skip))
 (.ops [
 oo 44 (.move (.tmp 9)),
 oo 45 (.move (.tmp 11)),
 oo 46 (.bin .add (.tmp 45) (.cst (.int .i64 1))),
 oo 47 (.bin .add (.tmp 44) (.tmp 46)),
 oo 9 (.move (.tmp 47))])))
 .skip))
 (.seq (.seq (.ops [
 oo 12 (.move (.cst (.int .i64 1)))])
 (.block 3 (.loop lp61_1)))
 k61_1)))))
def lp61_3 : ACode := (.seq (.seq (.ops [
 oo 140 (.move (.tmp 16)),
 oo 141 (.move (.tmp 7)),
 oo 142 (.lenS (.tmp 141)),
 oo 143 (.bin .lss (.tmp 140) (.tmp 142))])
 (.cond (.tmp 143)
 .skip
 (.exit 7)))
 (.seq (.block 8 (.seq (.draw [
 oo 146 (.move (.tmp 0)),
 oo 147 (.move (.tmp 9)),
 oo 148 (.move (.tmp 16)),
 oo 149 (.bin .sub (.tmp 147) (.tmp 148)),
 oo 150 (.idxStr (.tmp 146) (.tmp 149)),
 oo 151 (.move (.tmp 7)),
 oo 152 (.move (.tmp 8)),
 oo 153 (.move (.tmp 16)),
 oo 154 (.bin .sub (.tmp 152) (.tmp 153)),
 oo 155 (.idxStr (.tmp 151) (.tmp 154)),
 oo 156 (.bin .neq (.tmp 150) (.tmp 155))])
 (.cond (.tmp 156)
 (.exit 6)
 .skip)))
 (.ops [
 oo 144 (.move (.tmp 16)),
 oo 145 (.bin .add (.tmp 144) (.cst (.int .i64 1))),
 oo 16 (.move (.tmp 145))])))
def k61_2 : ACode := (.seq (.ops [
 oo 157 (.move (.tmp 9)),
 oo 158 (.move (.tmp 8)),
 oo 159 (.bin .sub (.tmp 157) (.tmp 158)),
 oo 4 (.move (.tmp 159))])
 .ret)
def k61_3 : ACode := (.ops [
 oo 125 (.move (.tmp 9)),
 oo 126 (.bin .add (.tmp 125) (.cst (.int .i64 1))),
 oo 9 (.move (.tmp 126))])
def lp61_4 : ACode := (.seq (.seq (.ops [
 oo 121 (.move (.tmp 9)),
 oo 122 (.move (.tmp 0)),
 oo 123 (.lenS (.tmp 122)),
 oo 124 (.bin .lss (.tmp 121) (.tmp 123))])
 (.cond (.tmp 124)
 .skip
 (.exit 5)))
 (.seq (.block 6 (.seq (.ops [
 oo 127 (.move (.tmp 0)),
 oo 128 (.move (.tmp 9)),
 oo 129 (.idxStr (.tmp 127) (.tmp 128)),
 oo 130 (.move (.tmp 14)),
 oo 131 (.bin .eql (.tmp 129) (.tmp 130)),
 oo 132 (.move (.tmp 131)),
 og 133 132 true (.move (.tmp 0)),
 og 134 132 true (.move (.tmp 9)),
 og 135 132 true (.bin .sub (.tmp 134) (.cst (.int .i64 1))),
 og 136 132 true (.idxStr (.tmp 133) (.tmp 135)),
 og 137 132 true (.move (.tmp 15)),
 og 138 132 true (.bin .eql (.tmp 136) (.tmp 137)),
 oo 139 (.pick (.tmp 132) (.tmp 138) (.cst (.bool false)))])
 (.cond (.tmp 139)
 (.seq (.seq (.ops [
 oo 16 (.move (.cst (.int .i64 2)))])
 (.block 7 (.loop lp61_3)))
 k61_2)
 .skip)))
 k61_3))
def k61_4 : ACode := (.seq (.ops [
 oo 4 (.move (.cst (.int .i64 (-1))))])
 .ret)
def k61_5 : ACode := (.seq (.seq (.ops [
 oo 4 (.move (.cst (.int .i64 (-1))))])
 .ret)
 (.seq (.label 1)
 (.seq (.cond (.cst (.bool true))
 (.seq (.ops [
 oo 99 (.move (.tmp 0)),
 oo 100 (.move (.tmp 9)),
 oo 101 (.move (.tmp 8)),
 oo 102 (.bin .sub (.tmp 100) (.tmp 101)),
 oo 103 (.sliceStr (.tmp 99) (some (.tmp 102)) none),
 oo 104 (.move (.tmp 1)),
 oo 105 (.rune2str (.tmp 104)),
 oo 106 (.call 71 [(.tmp 103), (.tmp 105)]),
 oo 13 (.move (.tmp 106))])
 (.seq (.ops [
 oo 107 (.move (.tmp 13)),
 oo 108 (.bin .geq (.tmp 107) (.cst (.int .i64 0)))])
 (.cond (.tmp 108)
 (.seq (.ops [
 oo 109 (.move (.tmp 9)),
 oo 110 (.move (.tmp 13)),
 oo 111 (.bin .add (.tmp 109) (.tmp 110)),
 oo 112 (.move (.tmp 8)),
 oo 113 (.bin .sub (.tmp 111) (.tmp 112)),
 oo 4 (.move (.tmp 113))])
 .ret)
 .skip)))
 (.scope (.seq (.ops [
 oo 114 (.move (.tmp 7)),
 oo 115 (.move (.tmp 8)),
 oo 116 (.idxStr (.tmp 114) (.tmp 115)),
 oo 14 (.move (.tmp 116))])
 (.seq (.ops [
 oo 117 (.move (.tmp 7)),
 oo 118 (.move (.tmp 8)),
 oo 119 (.bin .sub (.tmp 118) (.cst (.int .i64 1))),
 oo 120 (.idxStr (.tmp 117) (.tmp 119)),
 oo 15 (.move (.tmp 120))])
 (.seq (.label 2)
 (.block 5 (.loop lp61_4)))))))
 k61_4)))
def b61 : ACode := (.seq (.ops [
 oo 4 (.move (.cst (.int .i64 0)))])
 (.block 0 (.seq (.ops [
 oo 161 (.move (.tmp 1)),
 oo 162 (.bin .leq (.cst (.int .i32 0)) (.tmp 161)),
 oo 163 (.move (.tmp 162)),
 og 164 163 true (.move (.tmp 1)),
 og 165 163 true (.bin .lss (.tmp 164) (.cst (.int .i32 128))),
 oo 166 (.pick (.tmp 163) (.tmp 165) (.cst (.bool false))),
 oo 160 (.move (.tmp 166))])
 (.cond (.tmp 160)
 (.seq (.ops [
 oo 167 (.move (.tmp 0)),
 oo 168 (.move (.tmp 1)),
 oo 169 (.convInt .u8 (.tmp 168)),
 oo 170 (.call 57 [(.tmp 167), (.tmp 169)]),
 oo 4 (.move (.tmp 170))])
 .ret)
 (.seq (.ops [
 oo 172 (.move (.tmp 1)),
 oo 173 (.bin .eql (.tmp 172) (.cst (.int .i32 65533))),
 oo 171 (.move (.tmp 173))])
 (.cond (.tmp 171)
 (.seq (.seq (.ops [
 oo 174 (.move (.tmp 0)),
 oo 175 (.rangeStr (.tmp 174))])
 (.block 9 (.loop lp61_0)))
 k61_0)
 (.seq (.ops [
 oo 184 (.move (.tmp 1)),
 oo 185 (.call 75 [(.tmp 184)]),
 oo 186 (.un .not (.tmp 185)),
 oo 183 (.move (.tmp 186))])
 (.cond (.tmp 183)
 (.seq (.ops [
 oo 4 (.move (.cst (.int .i64 (-1))))])
 .ret)
 (.scope (.seq (.ops [
 oo 17 (.move (.tmp 1)),
 oo 18 (.rune2str (.tmp 17)),
 oo 7 (.move (.tmp 18))])
 (.seq (.ops [
 oo 19 (.move (.tmp 7)),
 oo 20 (.lenS (.tmp 19)),
 oo 21 (.bin .sub (.tmp 20) (.cst (.int .i64 1))),
 oo 8 (.move (.tmp 21))])
 (.seq (.ops [
 oo 22 (.move (.tmp 8)),
 oo 9 (.move (.tmp 22))])
 (.seq (.ops [
 oo 10 (.move (.cst (.int .i64 0)))])
 (.seq (.block 1 (.loop lp61_2))
 k61_5))))))))))))))
def r61 : List ARes := [.tmp 4]
def a61 : AFn := ⟨b61, r61, 3⟩
def b43 : ACode := (.seq (.ops [
 oo 4 (.move (.cst (.bool false)))])
 (.seq (.ops [
 oo 5 (.move (.tmp 0)),
 oo 6 (.move (.tmp 1)),
 oo 7 (.call 61 [(.tmp 5), (.tmp 6)]),
 oo 8 (.bin .geq (.tmp 7) (.cst (.int .i64 0))),
 oo 4 (.move (.tmp 8))])
 .ret))
def r43 : List ARes := [.tmp 4]
def a43 : AFn := ⟨b43, r43, 3⟩
def b53 : ACode := (.seq (.ops [
 oo 4 (.move (.cst (.bool false)))])
 (.seq (.ops [
 oo 5 (.move (.tmp 0)),
 oo 6 (.move (.tmp 1)),
 oo 7 (.call 69 [(.tmp 5), (.tmp 6)]),
 oo 4 (.move (.tmp 7))])
 .ret))
def r53 : List ARes := [.tmp 4]
def a53 : AFn := ⟨b53, r53, 3⟩
def b69 : ACode := (.seq (.ops [
 oo 4 (.move (.cst (.bool false)))])
 (.seq (.ops [
 oo 5 (.move (.tmp 0)),
 oo 6 (.lenS (.tmp 5)),
 oo 7 (.move (.tmp 1)),
 oo 8 (.lenS (.tmp 7)),
 oo 9 (.bin .geq (.tmp 6) (.tmp 8)),
 oo 10 (.move (.tmp 9)),
 og 11 10 true (.move (.tmp 0)),
 og 12 10 true (.move (.tmp 1)),
 og 13 10 true (.lenS (.tmp 12)),
 og 14 10 true (.sliceStr (.tmp 11) none (some (.tmp 13))),
 og 15 10 true (.move (.tmp 1)),
 og 16 10 true (.bin .eql (.tmp 14) (.tmp 15)),
 oo 17 (.pick (.tmp 10) (.tmp 16) (.cst (.bool false))),
 oo 4 (.move (.tmp 17))])
 .ret))
def r69 : List ARes := [.tmp 4]
def a69 : AFn := ⟨b69, r69, 3⟩
def lp55_0 : ACode := (.seq (.seq (.ops [
 oo 57 (.move (.tmp 8)),
 oo 58 (.move (.tmp 9)),
 oo 59 (.bin .lss (.tmp 57) (.tmp 58))])
 (.cond (.tmp 59)
 .skip
 (.exit 1)))
 (.block 2 (.seq (.seq (.ops [
 oo 60 (.move (.tmp 0)),
 oo 61 (.move (.tmp 8)),
 oo 62 (.idxStr (.tmp 60) (.tmp 61)),
 oo 63 (.move (.tmp 6)),
 oo 64 (.bin .neq (.tmp 62) (.tmp 63))])
 (.cond (.tmp 64)
 (.seq (.ops [
 oo 65 (.move (.tmp 0)),
 oo 66 (.move (.tmp 8)),
 oo 67 (.bin .add (.tmp 66) (.cst (.int .i64 1))),
 oo 68 (.move (.tmp 9)),
 oo 69 (.sliceStr (.tmp 65) (some (.tmp 67)) (some (.tmp 68))),
 oo 70 (.move (.tmp 6)),
 oo 71 (.call 70 [(.tmp 69), (.tmp 70)]),
 oo 11 (.move (.tmp 71))])
 (.seq (.seq (.ops [
 oo 72 (.move (.tmp 11)),
 oo 73 (.bin .lss (.tmp 72) (.cst (.int .i64 0)))])
 (.cond (.tmp 73)
 (.seq (.ops [
 oo 4 (.move (.cst (.int .i64 (-1))))])
 .ret)
 .skip))
 (.ops [
 oo 74 (.move (.tmp 8)),
 oo 75 (.move (.tmp 11)),
 oo 76 (.bin .add (.tmp 75) (.cst (.int .i64 1))),
 oo 77 (.bin .add (.tmp 74) (.tmp 76)),
 oo 8 (.move (.tmp 77))])))
 .skip))
 (.seq (.seq (.ops [
 oo 78 (.move (.tmp 0)),
 oo 79 (.move (.tmp 8)),
 oo 80 (.bin .add (.tmp 79) (.cst (.int .i64 1))),
 oo 81 (.idxStr (.tmp 78) (.tmp 80)),
 oo 82 (.move (.tmp 7)),
 oo 83 (.bin .eql (.tmp 81) (.tmp 82)),
 oo 84 (.move (.tmp 83)),
 og 85 84 true (.move (.tmp 0)),
 og 86 84 true (.move (.tmp 8)),
 og 87 84 true (.move (.tmp 8)),
 og 88 84 true (.move (.tmp 5)),
 og 89 84 true (.bin .add (.tmp 87) (.tmp 88)),
 og 90 84 true (.sliceStr (.tmp 85) (some (.tmp 86)) (some (.tmp 89))),
 og 91 84 true (.move (.tmp 1)),
 og 92 84 true (.bin .eql (.tmp 90) (.tmp 91)),
 oo 93 (.pick (.tmp 84) (.tmp 92) (.cst (.bool false)))])
 (.cond (.tmp 93)
 (.seq (.ops [
 oo 94 (.move (.tmp 8)),
 oo 4 (.move (.tmp 94))])
 .ret)
 .skip))
 (.seq (.ops [
 oo 95 (.move (.tmp 8)),
 oo 96 (.bin .add (.tmp 95) (.cst (.int .i64 1))),
 oo 8 (.move (.tmp 96))])
 (.seq (.ops [
 oo 97 (.move (.tmp 10)),
 oo 98 (.bin .add (.tmp 97) (.cst (.int .i64 1))),
 oo 10 (.move (.tmp 98))])
 (.seq (.ops [
 oo 99 (.move (.tmp 5)),
 oo 100 (.load1 (.cst (.pointer (some ⟨5, 0, none⟩)))),
 oo 101 (.bin .leq (.tmp 99) (.tmp 100)),
 oo 102 (.move (.tmp 101)),
 og 103 102 true (.move (.tmp 10)),
 og 104 102 true (.move (.tmp 8)),
 og 105 102 true (.call 72 [(.tmp 104)]),
 og 106 102 true (.bin .gtr (.tmp 103) (.tmp 105)),
 oo 107 (.pick (.tmp 102) (.tmp 106) (.cst (.bool false)))])
 (.cond (.tmp 107)
 (.seq (.ops [
 oo 108 (.move (.tmp 0)),
 oo 109 (.move (.tmp 8)),
 oo 110 (.sliceStr (.tmp 108) (some (.tmp 109)) none),
 oo 111 (.move (.tmp 1)),
 oo 112 (.call 71 [(.tmp 110), (.tmp 111)]),
 oo 12 (.move (.tmp 112))])
 (.seq (.seq (.ops [
 oo 113 (.move (.tmp 12)),
 oo 114 (.bin .geq (.tmp 113) (.cst (.int .i64 0)))])
 (.cond (.tmp 114)
 (.seq (.ops [
 oo 115 (.move (.tmp 12)),
 oo 116 (.move (.tmp 8)),
 oo 117 (.bin .add (.tmp 115) (.tmp 116)),
 oo 4 (.move (.tmp 117))])
 .ret)
 .skip))
 (.seq (.ops [
 oo 4 (.move (.cst (.int .i64 (-1))))])
 .ret)))
 (.seq (.ops [
 oo 118 (.move (.tmp 5)),
 oo 119 (.load1 (.cst (.pointer (some ⟨5, 0, none⟩)))),
 oo 120 (.bin .gtr (.tmp 118) (.tmp 119)),
 oo 121 (.move (.tmp 120)),
 og 122 121 true (.move (.tmp 10)),
 og 123 121 true (.move (.tmp 8)),
 og 124 121 true (.bin .shr (.tmp 123) (.cst (.int .u64 4))),
 og 125 121 true (.bin .add (.cst (.int .i64 4)) (.tmp 124)),
 og 126 121 true (.bin .geq (.tmp 122) (.tmp 125)),
 oo 127 (.pick (.tmp 121) (.tmp 126) (.cst (.bool false))),
 oo 128 (.move (.tmp 127)),
 og 129 128 true (.move (.tmp 8)),
 og 130 128 true (.move (.tmp 9)),
 og 131 128 true (.bin .lss (.tmp 129) (.tmp 130)),
 oo 132 (.pick (.tmp 128) (.tmp 131) (.cst (.bool false)))])
 (.cond (.tmp 132)
 (.seq (.ops [
 oo 133 (.move (.tmp 0)),
 oo 134 (.move (.tmp 8)),
 oo 135 (.sliceStr (.tmp 133) (some (.tmp 134)) none),
 oo 136 (.move (.tmp 1)),
 oo 137 (.call 73 [(.tmp 135), (.tmp 136)]),
 oo 13 (.move (.tmp 137))])
 (.seq (.seq (.ops [
 oo 138 (.move (.tmp 13)),
 oo 139 (.bin .lss (.tmp 138) (.cst (.int .i64 0)))])
 (.cond (.tmp 139)
 (.seq (.ops [
 oo 4 (.move (.cst (.int .i64 (-1))))])
 .ret)
 .skip))
 (.seq (.ops [
 oo 140 (.move (.tmp 8)),
 oo 141 (.move (.tmp 13)),
 oo 142 (.bin .add (.tmp 140) (.tmp 141)),
 oo 4 (.move (.tmp 142))])
 .ret)))
 .skip))))))))))
def k55_0 : ACode := (.seq (.ops [
 oo 4 (.move (.cst (.int .i64 (-1))))])
 .ret)
def b55 : ACode := (.seq (.ops [
 oo 4 (.move (.cst (.int .i64 0)))])
 (.seq (.ops [
 oo 14 (.move (.tmp 1)),
 oo 15 (.lenS (.tmp 14)),
 oo 5 (.move (.tmp 15))])
 (.seq (.block 0 (.seq (.ops [
 oo 17 (.move (.tmp 5)),
 oo 18 (.bin .eql (.tmp 17) (.cst (.int .i64 0))),
 oo 19 (.move (.tmp 18)),
 og 20 19 false (.move (.tmp 1)),
 og 21 19 false (.move (.tmp 0)),
 og 22 19 false (.bin .eql (.tmp 20) (.tmp 21)),
 oo 23 (.pick (.tmp 19) (.cst (.bool true)) (.tmp 22)),
 oo 16 (.move (.tmp 23))])
 (.cond (.tmp 16)
 (.seq (.ops [
 oo 4 (.move (.cst (.int .i64 0)))])
 .ret)
 (.seq (.ops [
 oo 25 (.move (.tmp 5)),
 oo 26 (.bin .eql (.tmp 25) (.cst (.int .i64 1))),
 oo 24 (.move (.tmp 26))])
 (.cond (.tmp 24)
 (.seq (.ops [
 oo 27 (.move (.tmp 0)),
 oo 28 (.move (.tmp 1)),
 oo 29 (.idxStr (.tmp 28) (.cst (.int .i64 0))),
 oo 30 (.call 70 [(.tmp 27), (.tmp 29)]),
 oo 4 (.move (.tmp 30))])
 .ret)
 (.seq (.ops [
 oo 32 (.move (.tmp 5)),
 oo 33 (.move (.tmp 0)),
 oo 34 (.lenS (.tmp 33)),
 oo 35 (.bin .geq (.tmp 32) (.tmp 34)),
 oo 31 (.move (.tmp 35))])
 (.cond (.tmp 31)
 (.seq (.ops [
 oo 4 (.move (.cst (.int .i64 (-1))))])
 .ret)
 (.seq (.ops [
 oo 37 (.move (.tmp 5)),
 oo 38 (.load1 (.cst (.pointer (some ⟨5, 0, none⟩)))),
 oo 39 (.bin .leq (.tmp 37) (.tmp 38)),
 oo 40 (.move (.tmp 39)),
 og 41 40 true (.move (.tmp 0)),
 og 42 40 true (.lenS (.tmp 41)),
 og 43 40 true (.bin .leq (.tmp 42) (.cst (.int .i64 64))),
 oo 44 (.pick (.tmp 40) (.tmp 43) (.cst (.bool false))),
 oo 36 (.move (.tmp 44))])
 (.cond (.tmp 36)
 (.seq (.ops [
 oo 45 (.move (.tmp 0)),
 oo 46 (.move (.tmp 1)),
 oo 47 (.call 71 [(.tmp 45), (.tmp 46)]),
 oo 4 (.move (.tmp 47))])
 .ret)
 .skip)))))))))
 (.seq (.ops [
 oo 48 (.move (.tmp 1)),
 oo 49 (.idxStr (.tmp 48) (.cst (.int .i64 0))),
 oo 6 (.move (.tmp 49))])
 (.seq (.ops [
 oo 50 (.move (.tmp 1)),
 oo 51 (.idxStr (.tmp 50) (.cst (.int .i64 1))),
 oo 7 (.move (.tmp 51))])
 (.seq (.ops [
 oo 8 (.move (.cst (.int .i64 0)))])
 (.seq (.ops [
 oo 52 (.move (.tmp 0)),
 oo 53 (.lenS (.tmp 52)),
 oo 54 (.move (.tmp 5)),
 oo 55 (.bin .sub (.tmp 53) (.tmp 54)),
 oo 56 (.bin .add (.tmp 55) (.cst (.int .i64 1))),
 oo 9 (.move (.tmp 56))])
 (.seq (.ops [
 oo 10 (.move (.cst (.int .i64 0)))])
 (.seq (.block 1 (.loop lp55_0))
 k55_0)))))))))
def r55 : List ARes := [.tmp 4]
def a55 : AFn := ⟨b55, r55, 3⟩
def b48 : ACode := (.seq (.ops [
 oo 4 (.move (.cst (.int .i64 0)))])
 (.seq (.ops [
 oo 5 (.move (.tmp 0)),
 oo 6 (.move (.tmp 1)),
 oo 7 (.call 55 [(.tmp 5), (.tmp 6)]),
 oo 4 (.move (.tmp 7))])
 .ret))
def r48 : List ARes := [.tmp 4]
def a48 : AFn := ⟨b48, r48, 3⟩
def lp47_0 : ACode := (.block 1 (.seq (.ops [
 oo 20 (.move (.tmp 0)),
 oo 21 (.move (.tmp 1)),
 oo 22 (.call 48 [(.tmp 20), (.tmp 21)]),
 oo 6 (.move (.tmp 22))])
 (.seq (.seq (.ops [
 oo 23 (.move (.tmp 6)),
 oo 24 (.bin .eql (.tmp 23) (.cst (.int .i64 (-1))))])
 (.cond (.tmp 24)
 (.seq (.ops [
 oo 25 (.move (.tmp 5)),
 oo 4 (.move (.tmp 25))])
 .ret)
 .skip))
 (.seq (.ops [
 oo 26 (.move (.tmp 5)),
 oo 27 (.bin .add (.tmp 26) (.cst (.int .i64 1))),
 oo 5 (.move (.tmp 27))])
 (.ops [
 oo 28 (.move (.tmp 0)),
 oo 29 (.move (.tmp 6)),
 oo 30 (.move (.tmp 1)),
 oo 31 (.lenS (.tmp 30)),
 oo 32 (.bin .add (.tmp 29) (.tmp 31)),
 oo 33 (.sliceStr (.tmp 28) (some (.tmp 32)) none),
 oo 0 (.move (.tmp 33))])))))
def b47 : ACode := (.seq (.ops [
 oo 4 (.move (.cst (.int .i64 0)))])
 (.seq (.seq (.ops [
 oo 7 (.move (.tmp 1)),
 oo 8 (.lenS (.tmp 7)),
 oo 9 (.bin .eql (.tmp 8) (.cst (.int .i64 0)))])
 (.cond (.tmp 9)
 (.seq (.ops [
 oo 10 (.move (.tmp 0)),
 oo 11 (.call 64 [(.tmp 10)]),
 oo 12 (.bin .add (.tmp 11) (.cst (.int .i64 1))),
 oo 4 (.move (.tmp 12))])
 .ret)
 .skip))
 (.seq (.seq (.ops [
 oo 13 (.move (.tmp 1)),
 oo 14 (.lenS (.tmp 13)),
 oo 15 (.bin .eql (.tmp 14) (.cst (.int .i64 1)))])
 (.cond (.tmp 15)
 (.seq (.ops [
 oo 16 (.move (.tmp 0)),
 oo 17 (.move (.tmp 1)),
 oo 18 (.idxStr (.tmp 17) (.cst (.int .i64 0))),
 oo 19 (.call 65 [(.tmp 16), (.tmp 18)]),
 oo 4 (.move (.tmp 19))])
 .ret)
 .skip))
 (.seq (.ops [
 oo 5 (.move (.cst (.int .i64 0)))])
 (.block 0 (.loop lp47_0))))))
def r47 : List ARes := [.tmp 4]
def a47 : AFn := ⟨b47, r47, 3⟩
def b38 : ACode := (.seq (.ops [
 oo 4 (.move (.cst (.string ⟨⟨[]⟩⟩))),
 oo 5 (.move (.cst (.string ⟨⟨[]⟩⟩))),
 oo 6 (.move (.cst (.bool false)))])
 (.seq (.seq (.ops [
 oo 8 (.move (.tmp 0)),
 oo 9 (.move (.tmp 1)),
 oo 10 (.call 55 [(.tmp 8), (.tmp 9)]),
 oo 7 (.move (.tmp 10))])
 (.seq (.ops [
 oo 11 (.move (.tmp 7)),
 oo 12 (.bin .geq (.tmp 11) (.cst (.int .i64 0)))])
 (.cond (.tmp 12)
 (.seq (.draw [
 oo 13 (.move (.tmp 0)),
 oo 14 (.move (.tmp 7)),
 oo 15 (.sliceStr (.tmp 13) none (some (.tmp 14))),
 oo 16 (.move (.tmp 0)),
 oo 17 (.move (.tmp 7)),
 oo 18 (.move (.tmp 1)),
 oo 19 (.lenS (.tmp 18)),
 oo 20 (.bin .add (.tmp 17) (.tmp 19)),
 oo 21 (.sliceStr (.tmp 16) (some (.tmp 20)) none),
 oo 4 (.move (.tmp 15)),
 oo 5 (.move (.tmp 21)),
 oo 6 (.move (.cst (.bool true)))])
 .ret)
 .skip)))
 (.seq (.ops [
 oo 22 (.move (.tmp 0)),
 oo 4 (.move (.tmp 22)),
 oo 5 (.move (.cst (.string ⟨⟨[]⟩⟩))),
 oo 6 (.move (.cst (.bool false)))])
 .ret)))
def r38 : List ARes := [.tmp 4, .tmp 5, .tmp 6]
def a38 : AFn := ⟨b38, r38, 3⟩
def b24 : ACode := (.seq (.ops [
 oo 4 (.move (.cst (.string ⟨⟨[]⟩⟩))),
 oo 5 (.move (.cst (.string ⟨⟨[]⟩⟩))),
 oo 6 (.move (.cst (.bool false)))])
 (.seq (.ops [
 oo 7 (.move (.tmp 0)),
 oo 8 (.move (.tmp 1)),
 oo 9 (.call 38 [(.tmp 7), (.tmp 8)]),
 oo 10 (.extract 0 (.tmp 9)),
 oo 11 (.extract 1 (.tmp 9)),
 oo 12 (.extract 2 (.tmp 9)),
 oo 4 (.move (.tmp 10)),
 oo 5 (.move (.tmp 11)),
 oo 6 (.move (.tmp 12))])
 .ret))
def r24 : List ARes := [.tmp 4, .tmp 5, .tmp 6]
def a24 : AFn := ⟨b24, r24, 3⟩
def b39 : ACode := (.seq (.ops [
 oo 4 (.move (.cst (.string ⟨⟨[]⟩⟩)))])
 (.seq (.ops [
 oo 5 (.move (.tmp 0)),
 oo 6 (.move (.tmp 1)),
 oo 7 (.call 56 [(.tmp 5), (.tmp 6)]),
 oo 4 (.move (.tmp 7))])
 .ret))
def r39 : List ARes := [.tmp 4]
def a39 : AFn := ⟨b39, r39, 3⟩
def b56 : ACode := (.seq (.ops [
 oo 4 (.move (.cst (.string ⟨⟨[]⟩⟩)))])
 (.seq (.seq (.ops [
 oo 5 (.move (.tmp 0)),
 oo 6 (.move (.tmp 1)),
 oo 7 (.call 74 [(.tmp 5), (.tmp 6)])])
 (.cond (.tmp 7)
 (.seq (.ops [
 oo 8 (.move (.tmp 0)),
 oo 9 (.move (.tmp 0)),
 oo 10 (.lenS (.tmp 9)),
 oo 11 (.move (.tmp 1)),
 oo 12 (.lenS (.tmp 11)),
 oo 13 (.bin .sub (.tmp 10) (.tmp 12)),
 oo 14 (.sliceStr (.tmp 8) none (some (.tmp 13))),
 oo 4 (.move (.tmp 14))])
 .ret)
 .skip))
 (.seq (.ops [
 oo 15 (.move (.tmp 0)),
 oo 4 (.move (.tmp 15))])
 .ret)))
def r56 : List ARes := [.tmp 4]
def a56 : AFn := ⟨b56, r56, 3⟩
def b74 : ACode := (.seq (.ops [
 oo 4 (.move (.cst (.bool false)))])
 (.seq (.ops [
 oo 5 (.move (.tmp 0)),
 oo 6 (.lenS (.tmp 5)),
 oo 7 (.move (.tmp 1)),
 oo 8 (.lenS (.tmp 7)),
 oo 9 (.bin .geq (.tmp 6) (.tmp 8)),
 oo 10 (.move (.tmp 9)),
 og 11 10 true (.move (.tmp 0)),
 og 12 10 true (.move (.tmp 0)),
 og 13 10 true (.lenS (.tmp 12)),
 og 14 10 true (.move (.tmp 1)),
 og 15 10 true (.lenS (.tmp 14)),
 og 16 10 true (.bin .sub (.tmp 13) (.tmp 15)),
 og 17 10 true (.sliceStr (.tmp 11) (some (.tmp 16)) none),
 og 18 10 true (.move (.tmp 1)),
 og 19 10 true (.bin .eql (.tmp 17) (.tmp 18)),
 oo 20 (.pick (.tmp 10) (.tmp 19) (.cst (.bool false))),
 oo 4 (.move (.tmp 20))])
 .ret))
def r74 : List ARes := [.tmp 4]
def a74 : AFn := ⟨b74, r74, 3⟩
def b20 : ACode := (.seq (.ops [
 oo 4 (.move (.cst (.slice none 0 0)))])
 (.seq (.ops [
 oo 5 (.move (.tmp 0)),
 oo 6 (.move (.tmp 1)),
 oo 7 (.call 32 [(.tmp 5), (.tmp 6), (.cst (.int .i64 0)), (.cst (.int .i64 (-1)))]),
 oo 4 (.move (.tmp 7))])
 .ret))
def r20 : List ARes := [.tmp 4]
def a20 : AFn := ⟨b20, r20, 0⟩
def lp32_0 : ACode := (.seq (.seq (.ops [
 oo 34 (.move (.tmp 10)),
 oo 35 (.move (.tmp 3)),
 oo 36 (.bin .lss (.tmp 34) (.tmp 35))])
 (.cond (.tmp 36)
 .skip
 (.exit 0)))
 (.block 1 (.seq (.ops [
 oo 37 (.move (.tmp 0)),
 oo 38 (.move (.tmp 1)),
 oo 39 (.call 48 [(.tmp 37), (.tmp 38)]),
 oo 11 (.move (.tmp 39))])
 (.seq (.seq (.ops [
 oo 40 (.move (.tmp 11)),
 oo 41 (.bin .lss (.tmp 40) (.cst (.int .i64 0)))])
 (.cond (.tmp 41)
 (.exit 0)
 .skip))
 (.seq (.ops [
 oo 42 (.move (.tmp 9)),
 oo 43 (.move (.tmp 10)),
 oo 44 (.move (.tmp 0)),
 oo 45 (.move (.tmp 11)),
 oo 46 (.move (.tmp 2)),
 oo 47 (.bin .add (.tmp 45) (.tmp 46)),
 oo 48 (.sliceStr (.tmp 44) none (some (.tmp 47))),
 oo 49 (.idxAddrSl 1 (.tmp 42) (.tmp 43)),
 ⟨none, none, .store1 (.tmp 49) (.tmp 48), []⟩])
 (.seq (.ops [
 oo 50 (.move (.tmp 0)),
 oo 51 (.move (.tmp 11)),
 oo 52 (.move (.tmp 1)),
 oo 53 (.lenS (.tmp 52)),
 oo 54 (.bin .add (.tmp 51) (.tmp 53)),
 oo 55 (.sliceStr (.tmp 50) (some (.tmp 54)) none),
 oo 0 (.move (.tmp 55))])
 (.ops [
 oo 56 (.move (.tmp 10)),
 oo 57 (.bin .add (.tmp 56) (.cst (.int .i64 1))),
 oo 10 (.move (.tmp 57))])))))))
def k32_0 : ACode := (.seq (.ops [
 oo 58 (.move (.tmp 9)),
 oo 59 (.move (.tmp 10)),
 oo 60 (.move (.tmp 0)),
 oo 61 (.idxAddrSl 1 (.tmp 58) (.tmp 59)),
 ⟨none, none, .store1 (.tmp 61) (.tmp 60), []⟩])
 (.seq (.ops [
 oo 62 (.move (.tmp 9)),
 oo 63 (.move (.tmp 10)),
 oo 64 (.bin .add (.tmp 63) (.cst (.int .i64 1))),
 oo 65 (.sliceSl 1 (.tmp 62) none (some (.tmp 64)) none),
 oo 8 (.move (.tmp 65))])
 .ret))
def b32 : ACode := (.seq (.ops [
 oo 8 (.move (.cst (.slice none 0 0)))])
 (.seq (.seq (.ops [
 oo 12 (.move (.tmp 3)),
 oo 13 (.bin .eql (.tmp 12) (.cst (.int .i64 0)))])
 (.cond (.tmp 13)
 (.seq (.ops [
 oo 8 (.move (.cst (.slice none 0 0)))])
 .ret)
 .skip))
 (.seq (.seq (.ops [
 oo 14 (.move (.tmp 1)),
 oo 15 (.bin .eql (.tmp 14) (.cst (.string ⟨⟨[]⟩⟩)))])
 (.cond (.tmp 15)
 (.seq (.ops [
 oo 16 (.move (.tmp 0)),
 oo 17 (.move (.tmp 3)),
 oo 18 (.call 46 [(.tmp 16), (.tmp 17)]),
 oo 8 (.move (.tmp 18))])
 .ret)
 .skip))
 (.seq (.seq (.ops [
 oo 19 (.move (.tmp 3)),
 oo 20 (.bin .lss (.tmp 19) (.cst (.int .i64 0)))])
 (.cond (.tmp 20)
 (.ops [
 oo 21 (.move (.tmp 0)),
 oo 22 (.move (.tmp 1)),
 oo 23 (.call 47 [(.tmp 21), (.tmp 22)]),
 oo 24 (.bin .add (.tmp 23) (.cst (.int .i64 1))),
 oo 3 (.move (.tmp 24))])
 .skip))
 (.seq (.ops [
 oo 25 (.move (.tmp 3)),
 oo 26 (.move (.tmp 0)),
 oo 27 (.lenS (.tmp 26)),
 oo 28 (.bin .add (.tmp 27) (.cst (.int .i64 1))),
 oo 29 (.min2 (.tmp 25) (.tmp 28)),
 oo 3 (.move (.tmp 29))])
 (.seq (.ops [
 oo 30 (.move (.tmp 3)),
 oo 31 (.mkSlice 9 1 16 [(.string ⟨⟨[]⟩⟩)] (.tmp 30) (.tmp 30)),
 oo 9 (.move (.tmp 31))])
 (.seq (.ops [
 oo 32 (.move (.tmp 3)),
 oo 33 (.bin .sub (.tmp 32) (.cst (.int .i64 1))),
 oo 3 (.move (.tmp 33))])
 (.seq (.ops [
 oo 10 (.move (.cst (.int .i64 0)))])
 (.seq (.block 0 (.loop lp32_0))
 k32_0)))))))))
def r32 : List ARes := [.tmp 8]
def a32 : AFn := ⟨b32, r32, 0⟩
def lp19_0 : ACode := (.seq (.ops [
 oo 42 (.bin .lss (.tmp 41) (.tmp 40))])
 (.seq (.cond (.tmp 42)
 .skip
 (.exit 1))
 (.seq (.block 2 (.seq (.ops [
 oo 43 (.idxAddrSl 1 (.tmp 39) (.tmp 41)),
 oo 44 (.load1 (.tmp 43)),
 oo 7 (.move (.tmp 44))])
 (.seq (.seq (.ops [
 oo 45 (.move (.tmp 7)),
 oo 46 (.lenS (.tmp 45)),
 oo 47 (.move (.tmp 5)),
 oo 48 (.bin .sub (.cst (.int .i64 9223372036854775807)) (.tmp 47)),
 oo 49 (.bin .gtr (.tmp 46) (.tmp 48))])
 (.cond (.tmp 49)
 (.ops [
 oo 50 (.mkIface 9 (.cst (.string ⟨⟨[115, 116, 114, 105, 110, 103, 115, 58, 32, 74, 111, 105, 110, 32, 111, 117, 116, 112, 117, 116, 32, 108, 101, 110, 103, 116, 104, 32, 111, 118, 101, 114, 102, 108, 111, 119]⟩⟩))),
 ⟨none, none, .bad, []⟩])
 .skip))
 (.ops [
 oo 51 (.move (.tmp 5)),
 oo 52 (.move (.tmp 7)),
 oo 53 (.lenS (.tmp 52)),
 oo 54 (.bin .add (.tmp 51) (.tmp 53)),
 oo 5 (.move (.tmp 54))]))))
 (.ops [
 oo 55 (.bin .add (.tmp 41) (.cst (.int .i64 1))),
 oo 41 (.move (.tmp 55))]))))
def lp19_1 : ACode := (.seq (.ops [
 oo 66 (.bin .lss (.tmp 65) (.tmp 64))])
 (.seq (.cond (.tmp 66)
 .skip
 (.exit 3))
 (.seq (.block 4 (.seq (.ops [
 oo 67 (.idxAddrSl 1 (.tmp 63) (.tmp 65)),
 oo 68 (.load1 (.tmp 67)),
 oo 10 (.move (.tmp 68))])
 (.seq (.ops [
 oo 69 (.move (.tmp 1)),
 oo 70 (.call 31 [(.tmp 8), (.tmp 69)])])
 (.ops [
 oo 71 (.move (.tmp 10)),
 oo 72 (.call 31 [(.tmp 8), (.tmp 71)])]))))
 (.ops [
 oo 73 (.bin .add (.tmp 65) (.cst (.int .i64 1))),
 oo 65 (.move (.tmp 73))]))))
def k19_0 : ACode := (.seq (.ops [
 oo 74 (.call 29 [(.tmp 8)]),
 oo 4 (.move (.tmp 74))])
 .ret)
def k19_1 : ACode := (.seq (.ops [
 oo 8 (.box 70 (.cst (.agg ⟨[(.pointer none), (.slice none 0 0)]⟩)))])
 (.seq (.ops [
 oo 56 (.move (.tmp 5)),
 oo 57 (.call 30 [(.tmp 8), (.tmp 56)])])
 (.seq (.ops [
 oo 58 (.move (.tmp 0)),
 oo 59 (.idxAddrSl 1 (.tmp 58) (.cst (.int .i64 0))),
 oo 60 (.load1 (.tmp 59)),
 oo 61 (.call 31 [(.tmp 8), (.tmp 60)])])
 (.seq (.seq (.ops [
 oo 62 (.move (.tmp 0)),
 oo 63 (.sliceSl 1 (.tmp 62) (some (.cst (.int .i64 1))) none none),
 oo 64 (.len (.tmp 63)),
 oo 65 (.move (.cst (.int .i64 0)))])
 (.block 3 (.loop lp19_1)))
 k19_0))))
def b19 : ACode := (.seq (.ops [
 oo 4 (.move (.cst (.string ⟨⟨[]⟩⟩)))])
 (.seq (.seq (.ops [
 oo 11 (.move (.tmp 0)),
 oo 12 (.len (.tmp 11))])
 (.block 0 (.seq (.ops [
 oo 14 (.bin .eql (.tmp 12) (.cst (.int .i64 0))),
 oo 13 (.move (.tmp 14))])
 (.cond (.tmp 13)
 (.seq (.ops [
 oo 4 (.move (.cst (.string ⟨⟨[]⟩⟩)))])
 .ret)
 (.seq (.ops [
 oo 16 (.bin .eql (.tmp 12) (.cst (.int .i64 1))),
 oo 15 (.move (.tmp 16))])
 (.cond (.tmp 15)
 (.seq (.ops [
 oo 17 (.move (.tmp 0)),
 oo 18 (.idxAddrSl 1 (.tmp 17) (.cst (.int .i64 0))),
 oo 19 (.load1 (.tmp 18)),
 oo 4 (.move (.tmp 19))])
 .ret)
 .skip))))))
 (.seq (.ops [
 oo 5 (.move (.cst (.int .i64 0)))])
 (.seq (.seq (.ops [
 oo 20 (.move (.tmp 1)),
 oo 21 (.lenS (.tmp 20)),
 oo 22 (.bin .gtr (.tmp 21) (.cst (.int .i64 0)))])
 (.cond (.tmp 22)
 (.seq (.seq (.ops [
 oo 23 (.move (.tmp 1)),
 oo 24 (.lenS (.tmp 23)),
 oo 25 (.move (.tmp 0)),
 oo 26 (.len (.tmp 25)),
 oo 27 (.bin .sub (.tmp 26) (.cst (.int .i64 1))),
 oo 28 (.bin .quo (.cst (.int .i64 9223372036854775807)) (.tmp 27)),
 oo 29 (.bin .geq (.tmp 24) (.tmp 28))])
 (.cond (.tmp 29)
 (.ops [
 oo 30 (.mkIface 9 (.cst (.string ⟨⟨[115, 116, 114, 105, 110, 103, 115, 58, 32, 74, 111, 105, 110, 32, 111, 117, 116, 112, 117, 116, 32, 108, 101, 110, 103, 116, 104, 32, 111, 118, 101, 114, 102, 108, 111, 119]⟩⟩))),
 ⟨none, none, .bad, []⟩])
 .skip))
 (.ops [
 oo 31 (.move (.tmp 5)),
 oo 32 (.move (.tmp 1)),
 oo 33 (.lenS (.tmp 32)),
 oo 34 (.move (.tmp 0)),
 oo 35 (.len (.tmp 34)),
 oo 36 (.bin .sub (.tmp 35) (.cst (.int .i64 1))),
 oo 37 (.bin .mul (.tmp 33) (.tmp 36)),
 oo 38 (.bin .add (.tmp 31) (.tmp 37)),
 oo 5 (.move (.tmp 38))]))
 .skip))
 (.seq (.seq (.ops [
 oo 39 (.move (.tmp 0)),
 oo 40 (.len (.tmp 39)),
 oo 41 (.move (.cst (.int .i64 0)))])
 (.block 1 (.loop lp19_0)))
 k19_1)))))
def r19 : List ARes := [.tmp 4]
def a19 : AFn := ⟨b19, r19, 2⟩
def lp37_0 : ACode := (.seq (.seq (.ops [
 oo 111 (.call 54 [(.tmp 9)]),
 oo 112 (.move (.tmp 7)),
 oo 113 (.bin .lss (.tmp 111) (.tmp 112))])
 (.cond (.tmp 113)
 .skip
 (.exit 3)))
 (.block 4 (.seq (.ops [
 oo 114 (.move (.tmp 7)),
 oo 115 (.call 54 [(.tmp 9)]),
 oo 116 (.bin .sub (.tmp 114) (.tmp 115)),
 oo 117 (.call 54 [(.tmp 9)]),
 oo 118 (.move (.tmp 8)),
 oo 119 (.min3 (.tmp 116) (.tmp 117) (.tmp 118)),
 oo 10 (.move (.tmp 119))])
 (.ops [
 oo 120 (.call 29 [(.tmp 9)]),
 oo 121 (.move (.tmp 10)),
 oo 122 (.sliceStr (.tmp 120) none (some (.tmp 121))),
 oo 123 (.call 31 [(.tmp 9), (.tmp 122)])]))))
def k37_0 : ACode := (.seq (.ops [
 oo 124 (.call 29 [(.tmp 9)]),
 oo 4 (.move (.tmp 124))])
 .ret)
def b37 : ACode := (.seq (.ops [
 oo 4 (.move (.cst (.string ⟨⟨[]⟩⟩)))])
 (.seq (.seq (.ops [
 oo 11 (.move (.tmp 1))])
 (.block 0 (.seq (.ops [
 oo 13 (.bin .eql (.tmp 11) (.cst (.int .i64 0))),
 oo 12 (.move (.tmp 13))])
 (.cond (.tmp 12)
 (.seq (.ops [
 oo 4 (.move (.cst (.string ⟨⟨[]⟩⟩)))])
 .ret)
 (.seq (.ops [
 oo 15 (.bin .eql (.tmp 11) (.cst (.int .i64 1))),
 oo 14 (.move (.tmp 15))])
 (.cond (.tmp 14)
 (.seq (.ops [
 oo 16 (.move (.tmp 0)),
 oo 4 (.move (.tmp 16))])
 .ret)
 .skip))))))
 (.seq (.seq (.ops [
 oo 17 (.move (.tmp 1)),
 oo 18 (.bin .lss (.tmp 17) (.cst (.int .i64 0)))])
 (.cond (.tmp 18)
 (.ops [
 oo 19 (.mkIface 9 (.cst (.string ⟨⟨[115, 116, 114, 105, 110, 103, 115, 58, 32, 110, 101, 103, 97, 116, 105, 118, 101, 32, 82, 101, 112, 101, 97, 116, 32, 99, 111, 117, 110, 116]⟩⟩))),
 ⟨none, none, .bad, []⟩])
 .skip))
 (.seq (.ops [
 oo 21 (.move (.tmp 0)),
 oo 22 (.lenS (.tmp 21)),
 oo 23 (.convInt .u64 (.tmp 22)),
 oo 24 (.move (.tmp 1)),
 oo 25 (.convInt .u64 (.tmp 24)),
 oo 26 (.call 52 [(.tmp 23), (.tmp 25)]),
 oo 20 (.move (.tmp 26)),
 oo 27 (.extract 0 (.tmp 20)),
 oo 28 (.extract 1 (.tmp 20)),
 oo 5 (.move (.tmp 27)),
 oo 6 (.move (.tmp 28))])
 (.seq (.seq (.ops [
 oo 29 (.move (.tmp 5)),
 oo 30 (.bin .gtr (.tmp 29) (.cst (.int .u64 0))),
 oo 31 (.move (.tmp 30)),
 og 32 31 false (.move (.tmp 6)),
 og 33 31 false (.bin .gtr (.tmp 32) (.cst (.int .u64 9223372036854775807))),
 oo 34 (.pick (.tmp 31) (.cst (.bool true)) (.tmp 33))])
 (.cond (.tmp 34)
 (.ops [
 oo 35 (.mkIface 9 (.cst (.string ⟨⟨[115, 116, 114, 105, 110, 103, 115, 58, 32, 82, 101, 112, 101, 97, 116, 32, 111, 117, 116, 112, 117, 116, 32, 108, 101, 110, 103, 116, 104, 32, 111, 118, 101, 114, 102, 108, 111, 119]⟩⟩))),
 ⟨none, none, .bad, []⟩])
 .skip))
 (.seq (.ops [
 oo 36 (.move (.tmp 6)),
 oo 37 (.convInt .i64 (.tmp 36)),
 oo 7 (.move (.tmp 37))])
 (.seq (.seq (.ops [
 oo 38 (.move (.tmp 0)),
 oo 39 (.lenS (.tmp 38)),
 oo 40 (.bin .eql (.tmp 39) (.cst (.int .i64 0)))])
 (.cond (.tmp 40)
 (.seq (.ops [
 oo 4 (.move (.cst (.string ⟨⟨[]⟩⟩)))])
 .ret)
 .skip))
 (.seq (.seq (.ops [
 oo 41 (.move (.tmp 0)),
 oo 42 (.idxStr (.tmp 41) (.cst (.int .i64 0)))])
 (.block 1 (.seq (.seq (.ops [
 oo 44 (.bin .eql (.tmp 42) (.cst (.int .u8 32))),
 oo 43 (.move (.tmp 44))])
 (.cond (.tmp 43)
 .skip
 (.seq (.ops [
 oo 45 (.bin .eql (.tmp 42) (.cst (.int .u8 45))),
 oo 43 (.move (.tmp 45))])
 (.cond (.tmp 43)
 .skip
 (.seq (.ops [
 oo 46 (.bin .eql (.tmp 42) (.cst (.int .u8 48))),
 oo 43 (.move (.tmp 46))])
 (.cond (.tmp 43)
 .skip
 (.seq (.ops [
 oo 47 (.bin .eql (.tmp 42) (.cst (.int .u8 61))),
 oo 43 (.move (.tmp 47))])
 (.cond (.tmp 43)
 .skip
 (.ops [
 oo 48 (.bin .eql (.tmp 42) (.cst (.int .u8 9))),
 oo 43 (.move (.tmp 48))])))))))))
 (.cond (.tmp 43)
 (.block 2 (.seq (.ops [
 oo 50 (.move (.tmp 7)),
 oo 51 (.bin .leq (.tmp 50) (.cst (.int .i64 128))),
 oo 52 (.move (.tmp 51)),
 og 53 52 true (.move (.tmp 0)),
 og 54 52 true (.call 53 [(.cst (.string ⟨⟨[32, 32, 32, 32, 32, 32, 32, 32, 32, 32, 32, 32, 32, 32, 32, 32, 32, 32, 32, 32, 32, 32, 32, 32, 32, 32, 32, 32, 32, 32, 32, 32, 32, 32, 32, 32, 32, 32, 32, 32, 32, 32, 32, 32, 32, 32, 32, 32, 32, 32, 32, 32, 32, 32, 32, 32, 32, 32, 32, 32, 32, 32, 32, 32, 32, 32, 32, 32, 32, 32, 32, 32, 32, 32, 32, 32, 32, 32, 32, 32, 32, 32, 32, 32, 32, 32, 32, 32, 32, 32, 32, 32, 32, 32, 32, 32, 32, 32, 32, 32, 32, 32, 32, 32, 32, 32, 32, 32, 32, 32, 32, 32, 32, 32, 32, 32, 32, 32, 32, 32, 32, 32, 32, 32, 32, 32, 32, 32]⟩⟩)), (.tmp 53)]),
 oo 55 (.pick (.tmp 52) (.tmp 54) (.cst (.bool false))),
 oo 49 (.move (.tmp 55))])
 (.cond (.tmp 49)
 (.seq (.ops [
 oo 56 (.move (.tmp 7)),
 oo 57 (.sliceStr (.cst (.string ⟨⟨[32, 32, 32, 32, 32, 32, 32, 32, 32, 32, 32, 32, 32, 32, 32, 32, 32, 32, 32, 32, 32, 32, 32, 32, 32, 32, 32, 32, 32, 32, 32, 32, 32, 32, 32, 32, 32, 32, 32, 32, 32, 32, 32, 32, 32, 32, 32, 32, 32, 32, 32, 32, 32, 32, 32, 32, 32, 32, 32, 32, 32, 32, 32, 32, 32, 32, 32, 32, 32, 32, 32, 32, 32, 32, 32, 32, 32, 32, 32, 32, 32, 32, 32, 32, 32, 32, 32, 32, 32, 32, 32, 32, 32, 32, 32, 32, 32, 32, 32, 32, 32, 32, 32, 32, 32, 32, 32, 32, 32, 32, 32, 32, 32, 32, 32, 32, 32, 32, 32, 32, 32, 32, 32, 32, 32, 32, 32, 32]⟩⟩)) none (some (.tmp 56))),
 oo 4 (.move (.tmp 57))])
 .ret)
 (.seq (.ops [
 oo 59 (.move (.tmp 7)),
 oo 60 (.bin .leq (.tmp 59) (.cst (.int .i64 128))),
 oo 61 (.move (.tmp 60)),
 og 62 61 true (.move (.tmp 0)),
 og 63 61 true (.call 53 [(.cst (.string ⟨⟨[45, 45, 45, 45, 45, 45, 45, 45, 45, 45, 45, 45, 45, 45, 45, 45, 45, 45, 45, 45, 45, 45, 45, 45, 45, 45, 45, 45, 45, 45, 45, 45, 45, 45, 45, 45, 45, 45, 45, 45, 45, 45, 45, 45, 45, 45, 45, 45, 45, 45, 45, 45, 45, 45, 45, 45, 45, 45, 45, 45, 45, 45, 45, 45, 45, 45, 45, 45, 45, 45, 45, 45, 45, 45, 45, 45, 45, 45, 45, 45, 45, 45, 45, 45, 45, 45, 45, 45, 45, 45, 45, 45, 45, 45, 45, 45, 45, 45, 45, 45, 45, 45, 45, 45, 45, 45, 45, 45, 45, 45, 45, 45, 45, 45, 45, 45, 45, 45, 45, 45, 45, 45, 45, 45, 45, 45, 45, 45]⟩⟩)), (.tmp 62)]),
 oo 64 (.pick (.tmp 61) (.tmp 63) (.cst (.bool false))),
 oo 58 (.move (.tmp 64))])
 (.cond (.tmp 58)
 (.seq (.ops [
 oo 65 (.move (.tmp 7)),
 oo 66 (.sliceStr (.cst (.string ⟨⟨[45, 45, 45, 45, 45, 45, 45, 45, 45, 45, 45, 45, 45, 45, 45, 45, 45, 45, 45, 45, 45, 45, 45, 45, 45, 45, 45, 45, 45, 45, 45, 45, 45, 45, 45, 45, 45, 45, 45, 45, 45, 45, 45, 45, 45, 45, 45, 45, 45, 45, 45, 45, 45, 45, 45, 45, 45, 45, 45, 45, 45, 45, 45, 45, 45, 45, 45, 45, 45, 45, 45, 45, 45, 45, 45, 45, 45, 45, 45, 45, 45, 45, 45, 45, 45, 45, 45, 45, 45, 45, 45, 45, 45, 45, 45, 45, 45, 45, 45, 45, 45, 45, 45, 45, 45, 45, 45, 45, 45, 45, 45, 45, 45, 45, 45, 45, 45, 45, 45, 45, 45, 45, 45, 45, 45, 45, 45, 45]⟩⟩)) none (some (.tmp 65))),
 oo 4 (.move (.tmp 66))])
 .ret)
 (.seq (.ops [
 oo 68 (.move (.tmp 7)),
 oo 69 (.bin .leq (.tmp 68) (.cst (.int .i64 64))),
 oo 70 (.move (.tmp 69)),
 og 71 70 true (.move (.tmp 0)),
 og 72 70 true (.call 53 [(.cst (.string ⟨⟨[48, 48, 48, 48, 48, 48, 48, 48, 48, 48, 48, 48, 48, 48, 48, 48, 48, 48, 48, 48, 48, 48, 48, 48, 48, 48, 48, 48, 48, 48, 48, 48, 48, 48, 48, 48, 48, 48, 48, 48, 48, 48, 48, 48, 48, 48, 48, 48, 48, 48, 48, 48, 48, 48, 48, 48, 48, 48, 48, 48, 48, 48, 48, 48]⟩⟩)), (.tmp 71)]),
 oo 73 (.pick (.tmp 70) (.tmp 72) (.cst (.bool false))),
 oo 67 (.move (.tmp 73))])
 (.cond (.tmp 67)
 (.seq (.ops [
 oo 74 (.move (.tmp 7)),
 oo 75 (.sliceStr (.cst (.string ⟨⟨[48, 48, 48, 48, 48, 48, 48, 48, 48, 48, 48, 48, 48, 48, 48, 48, 48, 48, 48, 48, 48, 48, 48, 48, 48, 48, 48, 48, 48, 48, 48, 48, 48, 48, 48, 48, 48, 48, 48, 48, 48, 48, 48, 48, 48, 48, 48, 48, 48, 48, 48, 48, 48, 48, 48, 48, 48, 48, 48, 48, 48, 48, 48, 48]⟩⟩)) none (some (.tmp 74))),
 oo 4 (.move (.tmp 75))])
 .ret)
 (.seq (.ops [
 oo 77 (.move (.tmp 7)),
 oo 78 (.bin .leq (.tmp 77) (.cst (.int .i64 128))),
 oo 79 (.move (.tmp 78)),
 og 80 79 true (.move (.tmp 0)),
 og 81 79 true (.call 53 [(.cst (.string ⟨⟨[61, 61, 61, 61, 61, 61, 61, 61, 61, 61, 61, 61, 61, 61, 61, 61, 61, 61, 61, 61, 61, 61, 61, 61, 61, 61, 61, 61, 61, 61, 61, 61, 61, 61, 61, 61, 61, 61, 61, 61, 61, 61, 61, 61, 61, 61, 61, 61, 61, 61, 61, 61, 61, 61, 61, 61, 61, 61, 61, 61, 61, 61, 61, 61, 61, 61, 61, 61, 61, 61, 61, 61, 61, 61, 61, 61, 61, 61, 61, 61, 61, 61, 61, 61, 61, 61, 61, 61, 61, 61, 61, 61, 61, 61, 61, 61, 61, 61, 61, 61, 61, 61, 61, 61, 61, 61, 61, 61, 61, 61, 61, 61, 61, 61, 61, 61, 61, 61, 61, 61, 61, 61, 61, 61, 61, 61, 61, 61]⟩⟩)), (.tmp 80)]),
 oo 82 (.pick (.tmp 79) (.tmp 81) (.cst (.bool false))),
 oo 76 (.move (.tmp 82))])
 (.cond (.tmp 76)
 (.seq (.ops [
 oo 83 (.move (.tmp 7)),
 oo 84 (.sliceStr (.cst (.string ⟨⟨[61, 61, 61, 61, 61, 61, 61, 61, 61, 61, 61, 61, 61, 61, 61, 61, 61, 61, 61, 61, 61, 61, 61, 61, 61, 61, 61, 61, 61, 61, 61, 61, 61, 61, 61, 61, 61, 61, 61, 61, 61, 61, 61, 61, 61, 61, 61, 61, 61, 61, 61, 61, 61, 61, 61, 61, 61, 61, 61, 61, 61, 61, 61, 61, 61, 61, 61, 61, 61, 61, 61, 61, 61, 61, 61, 61, 61, 61, 61, 61, 61, 61, 61, 61, 61, 61, 61, 61, 61, 61, 61, 61, 61, 61, 61, 61, 61, 61, 61, 61, 61, 61, 61, 61, 61, 61, 61, 61, 61, 61, 61, 61, 61, 61, 61, 61, 61, 61, 61, 61, 61, 61, 61, 61, 61, 61, 61, 61]⟩⟩)) none (some (.tmp 83))),
 oo 4 (.move (.tmp 84))])
 .ret)
 (.seq (.ops [
 oo 86 (.move (.tmp 7)),
 oo 87 (.bin .leq (.tmp 86) (.cst (.int .i64 64))),
 oo 88 (.move (.tmp 87)),
 og 89 88 true (.move (.tmp 0)),
 og 90 88 true (.call 53 [(.cst (.string ⟨⟨[9, 9, 9, 9, 9, 9, 9, 9, 9, 9, 9, 9, 9, 9, 9, 9, 9, 9, 9, 9, 9, 9, 9, 9, 9, 9, 9, 9, 9, 9, 9, 9, 9, 9, 9, 9, 9, 9, 9, 9, 9, 9, 9, 9, 9, 9, 9, 9, 9, 9, 9, 9, 9, 9, 9, 9, 9, 9, 9, 9, 9, 9, 9, 9]⟩⟩)), (.tmp 89)]),
 oo 91 (.pick (.tmp 88) (.tmp 90) (.cst (.bool false))),
 oo 85 (.move (.tmp 91))])
 (.cond (.tmp 85)
 (.seq (.ops [
 oo 92 (.move (.tmp 7)),
 oo 93 (.sliceStr (.cst (.string ⟨⟨[9, 9, 9, 9, 9, 9, 9, 9, 9, 9, 9, 9, 9, 9, 9, 9, 9, 9, 9, 9, 9, 9, 9, 9, 9, 9, 9, 9, 9, 9, 9, 9, 9, 9, 9, 9, 9, 9, 9, 9, 9, 9, 9, 9, 9, 9, 9, 9, 9, 9, 9, 9, 9, 9, 9, 9, 9, 9, 9, 9, 9, 9, 9, 9]⟩⟩)) none (some (.tmp 92))),
 oo 4 (.move (.tmp 93))])
 .ret)
 .skip)))))))))))
 .skip))))
 (.seq (.ops [
 oo 94 (.move (.tmp 7)),
 oo 8 (.move (.tmp 94))])
 (.seq (.seq (.ops [
 oo 95 (.move (.tmp 7)),
 oo 96 (.bin .gtr (.tmp 95) (.cst (.int .i64 8192)))])
 (.cond (.tmp 96)
 (.seq (.ops [
 oo 97 (.move (.tmp 0)),
 oo 98 (.lenS (.tmp 97)),
 oo 99 (.bin .quo (.cst (.int .i64 8192)) (.tmp 98)),
 oo 100 (.move (.tmp 0)),
 oo 101 (.lenS (.tmp 100)),
 oo 102 (.bin .mul (.tmp 99) (.tmp 101)),
 oo 8 (.move (.tmp 102))])
 (.seq (.ops [
 oo 103 (.move (.tmp 8)),
 oo 104 (.bin .eql (.tmp 103) (.cst (.int .i64 0)))])
 (.cond (.tmp 104)
 (.ops [
 oo 105 (.move (.tmp 0)),
 oo 106 (.lenS (.tmp 105)),
 oo 8 (.move (.tmp 106))])
 .skip)))
 .skip))
 (.seq (.ops [
 oo 9 (.box 70 (.cst (.agg ⟨[(.pointer none), (.slice none 0 0)]⟩)))])
 (.seq (.ops [
 oo 107 (.move (.tmp 7)),
 oo 108 (.call 30 [(.tmp 9), (.tmp 107)])])
 (.seq (.ops [
 oo 109 (.move (.tmp 0)),
 oo 110 (.call 31 [(.tmp 9), (.tmp 109)])])
 (.seq (.block 3 (.loop lp37_0))
 k37_0))))))))))))))
def r37 : List ARes := [.tmp 4]
def a37 : AFn := ⟨b37, r37, 3⟩
def b52 : ACode := (.seq (.ops [
 oo 4 (.move (.cst (.int .u64 0))),
 oo 5 (.move (.cst (.int .u64 0)))])
 (.seq (.cond (.cst (.bool false))
 (.seq (.ops [
 oo 11 (.move (.tmp 0)),
 oo 12 (.convInt .u32 (.tmp 11)),
 oo 13 (.move (.tmp 1)),
 oo 14 (.convInt .u32 (.tmp 13)),
 oo 15 (.call 67 [(.tmp 12), (.tmp 14)]),
 oo 10 (.move (.tmp 15)),
 oo 16 (.extract 0 (.tmp 10)),
 oo 17 (.extract 1 (.tmp 10)),
 oo 6 (.move (.tmp 16)),
 oo 7 (.move (.tmp 17))])
 (.seq (.ops [
 oo 18 (.move (.tmp 6)),
 oo 19 (.convInt .u64 (.tmp 18)),
 oo 20 (.move (.tmp 7)),
 oo 21 (.convInt .u64 (.tmp 20)),
 oo 4 (.move (.tmp 19)),
 oo 5 (.move (.tmp 21))])
 .ret))
 .skip)
 (.seq (.ops [
 oo 23 (.move (.tmp 0)),
 oo 24 (.move (.tmp 1)),
 oo 25 (.call 68 [(.tmp 23), (.tmp 24)]),
 oo 22 (.move (.tmp 25)),
 oo 26 (.extract 0 (.tmp 22)),
 oo 27 (.extract 1 (.tmp 22)),
 oo 8 (.move (.tmp 26)),
 oo 9 (.move (.tmp 27))])
 (.seq (.ops [
 oo 28 (.move (.tmp 8)),
 oo 29 (.move (.tmp 9)),
 oo 4 (.move (.tmp 28)),
 oo 5 (.move (.tmp 29))])
 .ret))))
def r52 : List ARes := [.tmp 4, .tmp 5]
def a52 : AFn := ⟨b52, r52, 3⟩
def b68 : ACode := (.seq (.ops [
 oo 4 (.move (.cst (.int .u64 0))),
 oo 5 (.move (.cst (.int .u64 0)))])
 (.seq (.ops [
 oo 14 (.move (.tmp 0)),
 oo 15 (.bin .and (.tmp 14) (.cst (.int .u64 4294967295))),
 oo 6 (.move (.tmp 15))])
 (.seq (.ops [
 oo 16 (.move (.tmp 0)),
 oo 17 (.bin .shr (.tmp 16) (.cst (.int .u64 32))),
 oo 7 (.move (.tmp 17))])
 (.seq (.ops [
 oo 18 (.move (.tmp 1)),
 oo 19 (.bin .and (.tmp 18) (.cst (.int .u64 4294967295))),
 oo 8 (.move (.tmp 19))])
 (.seq (.ops [
 oo 20 (.move (.tmp 1)),
 oo 21 (.bin .shr (.tmp 20) (.cst (.int .u64 32))),
 oo 9 (.move (.tmp 21))])
 (.seq (.ops [
 oo 22 (.move (.tmp 6)),
 oo 23 (.move (.tmp 8)),
 oo 24 (.bin .mul (.tmp 22) (.tmp 23)),
 oo 10 (.move (.tmp 24))])
 (.seq (.ops [
 oo 25 (.move (.tmp 7)),
 oo 26 (.move (.tmp 8)),
 oo 27 (.bin .mul (.tmp 25) (.tmp 26)),
 oo 28 (.move (.tmp 10)),
 oo 29 (.bin .shr (.tmp 28) (.cst (.int .u64 32))),
 oo 30 (.bin .add (.tmp 27) (.tmp 29)),
 oo 11 (.move (.tmp 30))])
 (.seq (.ops [
 oo 31 (.move (.tmp 11)),
 oo 32 (.bin .and (.tmp 31) (.cst (.int .u64 4294967295))),
 oo 12 (.move (.tmp 32))])
 (.seq (.ops [
 oo 33 (.move (.tmp 11)),
 oo 34 (.bin .shr (.tmp 33) (.cst (.int .u64 32))),
 oo 13 (.move (.tmp 34))])
 (.seq (.ops [
 oo 35 (.move (.tmp 12)),
 oo 36 (.move (.tmp 6)),
 oo 37 (.move (.tmp 9)),
 oo 38 (.bin .mul (.tmp 36) (.tmp 37)),
 oo 39 (.bin .add (.tmp 35) (.tmp 38)),
 oo 12 (.move (.tmp 39))])
 (.seq (.ops [
 oo 40 (.move (.tmp 7)),
 oo 41 (.move (.tmp 9)),
 oo 42 (.bin .mul (.tmp 40) (.tmp 41)),
 oo 43 (.move (.tmp 13)),
 oo 44 (.bin .add (.tmp 42) (.tmp 43)),
 oo 45 (.move (.tmp 12)),
 oo 46 (.bin .shr (.tmp 45) (.cst (.int .u64 32))),
 oo 47 (.bin .add (.tmp 44) (.tmp 46)),
 oo 4 (.move (.tmp 47))])
 (.seq (.ops [
 oo 48 (.move (.tmp 0)),
 oo 49 (.move (.tmp 1)),
 oo 50 (.bin .mul (.tmp 48) (.tmp 49)),
 oo 5 (.move (.tmp 50))])
 .ret))))))))))))
def r68 : List ARes := [.tmp 4, .tmp 5]
def a68 : AFn := ⟨b68, r68, 3⟩
def lp35_0 : ACode := (.seq (.seq (.draw [
 oo 42 (.move (.tmp 0)),
 oo 43 (.lenS (.tmp 42)),
 oo 44 (.bin .gtr (.tmp 43) (.cst (.int .i64 32))),
 oo 45 (.move (.tmp 44)),
 og 46 45 true (.move (.tmp 0)),
 og 47 45 true (.call 51 [(.tmp 46)]),
 og 48 45 true (.move (.tmp 0)),
 og 49 45 true (.sliceStr (.tmp 48) (some (.cst (.int .i64 8))) none),
 og 50 45 true (.call 51 [(.tmp 49)]),
 og 51 45 true (.bin .or (.tmp 47) (.tmp 50)),
 og 52 45 true (.move (.tmp 0)),
 og 53 45 true (.sliceStr (.tmp 52) (some (.cst (.int .i64 16))) none),
 og 54 45 true (.call 51 [(.tmp 53)]),
 og 55 45 true (.move (.tmp 0)),
 og 56 45 true (.sliceStr (.tmp 55) (some (.cst (.int .i64 24))) none),
 og 57 45 true (.call 51 [(.tmp 56)]),
 og 58 45 true (.bin .or (.tmp 54) (.tmp 57)),
 og 59 45 true (.bin .or (.tmp 51) (.tmp 58)),
 og 60 45 true (.bin .and (.tmp 59) (.cst (.int .u64 9259542123273814144))),
 og 61 45 true (.bin .eql (.tmp 60) (.cst (.int .u64 0))),
 oo 62 (.pick (.tmp 45) (.tmp 61) (.cst (.bool false)))])
 (.cond (.tmp 62)
 .skip
 (.exit 2)))
 (.block 3 (.ops [
 oo 63 (.move (.tmp 0)),
 oo 64 (.sliceStr (.tmp 63) (some (.cst (.int .i64 32))) none),
 oo 0 (.move (.tmp 64))])))
def k35_0 : ACode := (.seq (.ops [
 oo 65 (.move (.tmp 3)),
 oo 66 (.idxAddrArr 1 256 (.cst (.pointer (some ⟨0, 0, none⟩))) (.tmp 65)),
 oo 67 (.load1 (.tmp 66)),
 oo 4 (.move (.tmp 67))])
 (.seq (.ops [
 oo 68 (.move (.tmp 4)),
 oo 69 (.bin .and (.tmp 68) (.cst (.int .u8 7))),
 oo 70 (.convInt .i64 (.tmp 69)),
 oo 5 (.move (.tmp 70))])
 (.seq (.ops [
 oo 71 (.move (.tmp 4)),
 oo 72 (.bin .shr (.tmp 71) (.cst (.int .u64 4))),
 oo 73 (.idxAddrArr 2 16 (.cst (.pointer (some ⟨1, 0, none⟩))) (.tmp 72)),
 oo 74 (.loadN 2 (.tmp 73)),
 oo 6 (.box 100 (.cst (.agg ⟨[(.int .u8 0), (.int .u8 0)]⟩))),
 ⟨none, none, .storeN 2 (.tmp 6) (.tmp 74), []⟩])
 (.seq (.ops [
 oo 75 (.move (.tmp 5))])
 (.block 4 (.seq (.ops [
 oo 77 (.bin .eql (.tmp 75) (.cst (.int .i64 2))),
 oo 76 (.move (.tmp 77))])
 (.cond (.tmp 76)
 (.seq (.seq (.draw [
 oo 78 (.move (.tmp 0)),
 oo 79 (.lenS (.tmp 78)),
 oo 80 (.bin .lss (.tmp 79) (.cst (.int .i64 2))),
 oo 81 (.move (.tmp 80)),
 og 82 81 false (.move (.tmp 0)),
 og 83 81 false (.idxStr (.tmp 82) (.cst (.int .i64 1))),
 og 84 81 false (.fieldAddr 0 (.tmp 6)),
 og 85 81 false (.load1 (.tmp 84)),
 og 86 81 false (.bin .lss (.tmp 83) (.tmp 85)),
 oo 87 (.pick (.tmp 81) (.cst (.bool true)) (.tmp 86)),
 oo 88 (.move (.tmp 87)),
 og 89 88 false (.fieldAddr 1 (.tmp 6)),
 og 90 88 false (.load1 (.tmp 89)),
 og 91 88 false (.move (.tmp 0)),
 og 92 88 false (.idxStr (.tmp 91) (.cst (.int .i64 1))),
 og 93 88 false (.bin .lss (.tmp 90) (.tmp 92)),
 oo 94 (.pick (.tmp 88) (.cst (.bool true)) (.tmp 93))])
 (.cond (.tmp 94)
 (.seq (.ops [
 oo 2 (.move (.cst (.bool false)))])
 .ret)
 .skip))
 (.ops [
 oo 95 (.move (.tmp 0)),
 oo 96 (.sliceStr (.tmp 95) (some (.cst (.int .i64 2))) none),
 oo 0 (.move (.tmp 96))]))
 (.seq (.ops [
 oo 98 (.bin .eql (.tmp 75) (.cst (.int .i64 3))),
 oo 97 (.move (.tmp 98))])
 (.cond (.tmp 97)
 (.seq (.seq (.draw [
 oo 99 (.move (.tmp 0)),
 oo 100 (.lenS (.tmp 99)),
 oo 101 (.bin .lss (.tmp 100) (.cst (.int .i64 3))),
 oo 102 (.move (.tmp 101)),
 og 103 102 false (.move (.tmp 0)),
 og 104 102 false (.idxStr (.tmp 103) (.cst (.int .i64 1))),
 og 105 102 false (.fieldAddr 0 (.tmp 6)),
 og 106 102 false (.load1 (.tmp 105)),
 og 107 102 false (.bin .lss (.tmp 104) (.tmp 106)),
 oo 108 (.pick (.tmp 102) (.cst (.bool true)) (.tmp 107)),
 oo 109 (.move (.tmp 108)),
 og 110 109 false (.fieldAddr 1 (.tmp 6)),
 og 111 109 false (.load1 (.tmp 110)),
 og 112 109 false (.move (.tmp 0)),
 og 113 109 false (.idxStr (.tmp 112) (.cst (.int .i64 1))),
 og 114 109 false (.bin .lss (.tmp 111) (.tmp 113)),
 oo 115 (.pick (.tmp 109) (.cst (.bool true)) (.tmp 114)),
 oo 116 (.move (.tmp 115)),
 og 117 116 false (.move (.tmp 0)),
 og 118 116 false (.idxStr (.tmp 117) (.cst (.int .i64 2))),
 og 119 116 false (.bin .lss (.tmp 118) (.cst (.int .u8 128))),
 oo 120 (.pick (.tmp 116) (.cst (.bool true)) (.tmp 119)),
 oo 121 (.move (.tmp 120)),
 og 122 121 false (.move (.tmp 0)),
 og 123 121 false (.idxStr (.tmp 122) (.cst (.int .i64 2))),
 og 124 121 false (.bin .lss (.cst (.int .u8 191)) (.tmp 123)),
 oo 125 (.pick (.tmp 121) (.cst (.bool true)) (.tmp 124))])
 (.cond (.tmp 125)
 (.seq (.ops [
 oo 2 (.move (.cst (.bool false)))])
 .ret)
 .skip))
 (.ops [
 oo 126 (.move (.tmp 0)),
 oo 127 (.sliceStr (.tmp 126) (some (.cst (.int .i64 3))) none),
 oo 0 (.move (.tmp 127))]))
 (.seq (.ops [
 oo 129 (.bin .eql (.tmp 75) (.cst (.int .i64 4))),
 oo 128 (.move (.tmp 129))])
 (.cond (.tmp 128)
 (.seq (.seq (.draw [
 oo 130 (.move (.tmp 0)),
 oo 131 (.lenS (.tmp 130)),
 oo 132 (.bin .lss (.tmp 131) (.cst (.int .i64 4))),
 oo 133 (.move (.tmp 132)),
 og 134 133 false (.move (.tmp 0)),
 og 135 133 false (.idxStr (.tmp 134) (.cst (.int .i64 1))),
 og 136 133 false (.fieldAddr 0 (.tmp 6)),
 og 137 133 false (.load1 (.tmp 136)),
 og 138 133 false (.bin .lss (.tmp 135) (.tmp 137)),
 oo 139 (.pick (.tmp 133) (.cst (.bool true)) (.tmp 138)),
 oo 140 (.move (.tmp 139)),
 og 141 140 false (.fieldAddr 1 (.tmp 6)),
 og 142 140 false (.load1 (.tmp 141)),
 og 143 140 false (.move (.tmp 0)),
 og 144 140 false (.idxStr (.tmp 143) (.cst (.int .i64 1))),
 og 145 140 false (.bin .lss (.tmp 142) (.tmp 144)),
 oo 146 (.pick (.tmp 140) (.cst (.bool true)) (.tmp 145)),
 oo 147 (.move (.tmp 146)),
 og 148 147 false (.move (.tmp 0)),
 og 149 147 false (.idxStr (.tmp 148) (.cst (.int .i64 2))),
 og 150 147 false (.bin .lss (.tmp 149) (.cst (.int .u8 128))),
 oo 151 (.pick (.tmp 147) (.cst (.bool true)) (.tmp 150)),
 oo 152 (.move (.tmp 151)),
 og 153 152 false (.move (.tmp 0)),
 og 154 152 false (.idxStr (.tmp 153) (.cst (.int .i64 2))),
 og 155 152 false (.bin .lss (.cst (.int .u8 191)) (.tmp 154)),
 oo 156 (.pick (.tmp 152) (.cst (.bool true)) (.tmp 155)),
 oo 157 (.move (.tmp 156)),
 og 158 157 false (.move (.tmp 0)),
 og 159 157 false (.idxStr (.tmp 158) (.cst (.int .i64 3))),
 og 160 157 false (.bin .lss (.tmp 159) (.cst (.int .u8 128))),
 oo 161 (.pick (.tmp 157) (.cst (.bool true)) (.tmp 160)),
 oo 162 (.move (.tmp 161)),
 og 163 162 false (.move (.tmp 0)),
 og 164 162 false (.idxStr (.tmp 163) (.cst (.int .i64 3))),
 og 165 162 false (.bin .lss (.cst (.int .u8 191)) (.tmp 164)),
 oo 166 (.pick (.tmp 162) (.cst (.bool true)) (.tmp 165))])
 (.cond (.tmp 166)
 (.seq (.ops [
 oo 2 (.move (.cst (.bool false)))])
 .ret)
 .skip))
 (.ops [
 oo 167 (.move (.tmp 0)),
 oo 168 (.sliceStr (.tmp 167) (some (.cst (.int .i64 4))) none),
 oo 0 (.move (.tmp 168))]))
 (.seq (.ops [
 oo 2 (.move (.cst (.bool false)))])
 .ret))))))))))))
def lp35_1 : ACode := (.seq (.seq (.ops [
 oo 7 (.move (.tmp 0)),
 oo 8 (.lenS (.tmp 7)),
 oo 9 (.bin .gtr (.tmp 8) (.cst (.int .i64 0)))])
 (.cond (.tmp 9)
 .skip
 (.exit 0)))
 (.block 1 (.seq (.ops [
 oo 10 (.move (.tmp 0)),
 oo 11 (.idxStr (.tmp 10) (.cst (.int .i64 0))),
 oo 3 (.move (.tmp 11))])
 (.seq (.seq (.ops [
 oo 12 (.move (.tmp 3)),
 oo 13 (.bin .lss (.tmp 12) (.cst (.int .u8 128)))])
 (.cond (.tmp 13)
 (.seq (.ops [
 oo 14 (.move (.tmp 0)),
 oo 15 (.sliceStr (.tmp 14) (some (.cst (.int .i64 1))) none),
 oo 0 (.move (.tmp 15))])
 (.seq (.seq (.ops [
 oo 16 (.move (.tmp 0)),
 oo 17 (.lenS (.tmp 16)),
 oo 18 (.bin .gtr (.tmp 17) (.cst (.int .i64 8))),
 oo 19 (.move (.tmp 18)),
 og 20 19 true (.move (.tmp 0)),
 og 21 19 true (.call 51 [(.tmp 20)]),
 og 22 19 true (.bin .and (.tmp 21) (.cst (.int .u64 9259542123273814144))),
 og 23 19 true (.bin .eql (.tmp 22) (.cst (.int .u64 0))),
 oo 24 (.pick (.tmp 19) (.tmp 23) (.cst (.bool false)))])
 (.cond (.tmp 24)
 (.seq (.ops [
 oo 25 (.move (.tmp 0)),
 oo 26 (.sliceStr (.tmp 25) (some (.cst (.int .i64 8))) none),
 oo 0 (.move (.tmp 26))])
 (.seq (.draw [
 oo 27 (.move (.tmp 0)),
 oo 28 (.lenS (.tmp 27)),
 oo 29 (.bin .gtr (.tmp 28) (.cst (.int .i64 16))),
 oo 30 (.move (.tmp 29)),
 og 31 30 true (.move (.tmp 0)),
 og 32 30 true (.call 51 [(.tmp 31)]),
 og 33 30 true (.move (.tmp 0)),
 og 34 30 true (.sliceStr (.tmp 33) (some (.cst (.int .i64 8))) none),
 og 35 30 true (.call 51 [(.tmp 34)]),
 og 36 30 true (.bin .or (.tmp 32) (.tmp 35)),
 og 37 30 true (.bin .and (.tmp 36) (.cst (.int .u64 9259542123273814144))),
 og 38 30 true (.bin .eql (.tmp 37) (.cst (.int .u64 0))),
 oo 39 (.pick (.tmp 30) (.tmp 38) (.cst (.bool false)))])
 (.cond (.tmp 39)
 (.seq (.ops [
 oo 40 (.move (.tmp 0)),
 oo 41 (.sliceStr (.tmp 40) (some (.cst (.int .i64 16))) none),
 oo 0 (.move (.tmp 41))])
 (.block 2 (.loop lp35_0)))
 .skip)))
 .skip))
 (.exit 1)))
 .skip))
 k35_0))))
def k35_1 : ACode := (.seq (.ops [
 oo 2 (.move (.cst (.bool true)))])
 .ret)
def b35 : ACode := (.seq (.ops [
 oo 2 (.move (.cst (.bool false)))])
 (.seq (.block 0 (.loop lp35_1))
 k35_1))
def r35 : List ARes := [.tmp 2]
def a35 : AFn := ⟨b35, r35, 3⟩
def b51 : ACode := (.seq (.ops [
 oo 2 (.move (.cst (.int .u64 0)))])
 (.seq (.cond (.cst (.bool false))
 (.seq (.draw [
 oo 3 (.move (.tmp 0)),
 oo 4 (.idxStr (.tmp 3) (.cst (.int .i64 0))),
 oo 5 (.convInt .u64 (.tmp 4)),
 oo 6 (.move (.tmp 0)),
 oo 7 (.idxStr (.tmp 6) (.cst (.int .i64 1))),
 oo 8 (.convInt .u64 (.tmp 7)),
 oo 9 (.bin .shl (.tmp 8) (.cst (.int .u64 8))),
 oo 10 (.bin .or (.tmp 5) (.tmp 9)),
 oo 11 (.move (.tmp 0)),
 oo 12 (.idxStr (.tmp 11) (.cst (.int .i64 2))),
 oo 13 (.convInt .u64 (.tmp 12)),
 oo 14 (.bin .shl (.tmp 13) (.cst (.int .u64 16))),
 oo 15 (.bin .or (.tmp 10) (.tmp 14)),
 oo 16 (.move (.tmp 0)),
 oo 17 (.idxStr (.tmp 16) (.cst (.int .i64 3))),
 oo 18 (.convInt .u64 (.tmp 17)),
 oo 19 (.bin .shl (.tmp 18) (.cst (.int .u64 24))),
 oo 20 (.bin .or (.tmp 15) (.tmp 19)),
 oo 2 (.move (.tmp 20))])
 .ret)
 .skip)
 (.seq (.draw [
 oo 21 (.move (.tmp 0)),
 oo 22 (.idxStr (.tmp 21) (.cst (.int .i64 0))),
 oo 23 (.convInt .u64 (.tmp 22)),
 oo 24 (.move (.tmp 0)),
 oo 25 (.idxStr (.tmp 24) (.cst (.int .i64 1))),
 oo 26 (.convInt .u64 (.tmp 25)),
 oo 27 (.bin .shl (.tmp 26) (.cst (.int .u64 8))),
 oo 28 (.bin .or (.tmp 23) (.tmp 27)),
 oo 29 (.move (.tmp 0)),
 oo 30 (.idxStr (.tmp 29) (.cst (.int .i64 2))),
 oo 31 (.convInt .u64 (.tmp 30)),
 oo 32 (.bin .shl (.tmp 31) (.cst (.int .u64 16))),
 oo 33 (.bin .or (.tmp 28) (.tmp 32)),
 oo 34 (.move (.tmp 0)),
 oo 35 (.idxStr (.tmp 34) (.cst (.int .i64 3))),
 oo 36 (.convInt .u64 (.tmp 35)),
 oo 37 (.bin .shl (.tmp 36) (.cst (.int .u64 24))),
 oo 38 (.bin .or (.tmp 33) (.tmp 37)),
 oo 39 (.move (.tmp 0)),
 oo 40 (.idxStr (.tmp 39) (.cst (.int .i64 4))),
 oo 41 (.convInt .u64 (.tmp 40)),
 oo 42 (.bin .shl (.tmp 41) (.cst (.int .u64 32))),
 oo 43 (.bin .or (.tmp 38) (.tmp 42)),
 oo 44 (.move (.tmp 0)),
 oo 45 (.idxStr (.tmp 44) (.cst (.int .i64 5))),
 oo 46 (.convInt .u64 (.tmp 45)),
 oo 47 (.bin .shl (.tmp 46) (.cst (.int .u64 40))),
 oo 48 (.bin .or (.tmp 43) (.tmp 47)),
 oo 49 (.move (.tmp 0)),
 oo 50 (.idxStr (.tmp 49) (.cst (.int .i64 6))),
 oo 51 (.convInt .u64 (.tmp 50)),
 oo 52 (.bin .shl (.tmp 51) (.cst (.int .u64 48))),
 oo 53 (.bin .or (.tmp 48) (.tmp 52)),
 oo 54 (.move (.tmp 0)),
 oo 55 (.idxStr (.tmp 54) (.cst (.int .i64 7))),
 oo 56 (.convInt .u64 (.tmp 55)),
 oo 57 (.bin .shl (.tmp 56) (.cst (.int .u64 56))),
 oo 58 (.bin .or (.tmp 53) (.tmp 57)),
 oo 2 (.move (.tmp 58))])
 .ret)))
def r51 : List ARes := [.tmp 2]
def a51 : AFn := ⟨b51, r51, 3⟩
def lp26_0 : ACode := (.seq (.seq (.ops [
 oo 19 (.move (.tmp 5)),
 oo 20 (.move (.tmp 6)),
 oo 21 (.bin .lss (.tmp 19) (.tmp 20))])
 (.cond (.tmp 21)
 .skip
 (.exit 0)))
 (.seq (.block 1 (.seq (.ops [
 oo 24 (.move (.tmp 0)),
 oo 25 (.move (.tmp 5)),
 oo 26 (.idxStr (.tmp 24) (.tmp 25)),
 oo 7 (.move (.tmp 26))])
 (.seq (.ops [
 oo 27 (.move (.tmp 1)),
 oo 28 (.move (.tmp 5)),
 oo 29 (.idxStr (.tmp 27) (.tmp 28)),
 oo 8 (.move (.tmp 29))])
 (.seq (.seq (.ops [
 oo 30 (.move (.tmp 7)),
 oo 31 (.move (.tmp 8)),
 oo 32 (.bin .or (.tmp 30) (.tmp 31)),
 oo 33 (.bin .geq (.tmp 32) (.cst (.int .u8 128)))])
 (.cond (.tmp 33)
 (.goto 0)
 .skip))
 (.seq (.seq (.ops [
 oo 34 (.move (.tmp 8)),
 oo 35 (.move (.tmp 7)),
 oo 36 (.bin .eql (.tmp 34) (.tmp 35))])
 (.cond (.tmp 36)
 (.exit 1)
 .skip))
 (.seq (.seq (.ops [
 oo 37 (.move (.tmp 8)),
 oo 38 (.move (.tmp 7)),
 oo 39 (.bin .lss (.tmp 37) (.tmp 38))])
 (.cond (.tmp 39)
 (.ops [
 oo 40 (.move (.tmp 7)),
 oo 41 (.move (.tmp 8)),
 oo 8 (.move (.tmp 40)),
 oo 7 (.move (.tmp 41))])
 .skip))
 (.seq (.seq (.ops [
 oo 42 (.move (.tmp 7)),
 oo 43 (.bin .leq (.cst (.int .u8 65)) (.tmp 42)),
 oo 44 (.move (.tmp 43)),
 og 45 44 true (.move (.tmp 7)),
 og 46 44 true (.bin .leq (.tmp 45) (.cst (.int .u8 90))),
 oo 47 (.pick (.tmp 44) (.tmp 46) (.cst (.bool false))),
 oo 48 (.move (.tmp 47)),
 og 49 48 true (.move (.tmp 8)),
 og 50 48 true (.move (.tmp 7)),
 og 51 48 true (.bin .add (.tmp 50) (.cst (.int .u8 97))),
 og 52 48 true (.bin .sub (.tmp 51) (.cst (.int .u8 65))),
 og 53 48 true (.bin .eql (.tmp 49) (.tmp 52)),
 oo 54 (.pick (.tmp 48) (.tmp 53) (.cst (.bool false)))])
 (.cond (.tmp 54)
 (.exit 1)
 .skip))
 (.seq (.ops [
 oo 4 (.move (.cst (.bool false)))])
 .ret))))))))
 (.ops [
 oo 22 (.move (.tmp 5)),
 oo 23 (.bin .add (.tmp 22) (.cst (.int .i64 1))),
 oo 5 (.move (.tmp 23))])))
def lp26_1 : ACode := (.seq (.seq (.ops [
 oo 107 (.move (.tmp 13)),
 oo 108 (.move (.tmp 10)),
 oo 109 (.bin .neq (.tmp 107) (.tmp 108)),
 oo 110 (.move (.tmp 109)),
 og 111 110 true (.move (.tmp 13)),
 og 112 110 true (.move (.tmp 11)),
 og 113 110 true (.bin .lss (.tmp 111) (.tmp 112)),
 oo 114 (.pick (.tmp 110) (.tmp 113) (.cst (.bool false)))])
 (.cond (.tmp 114)
 .skip
 (.exit 4)))
 (.block 5 (.ops [
 oo 115 (.move (.tmp 13)),
 oo 116 (.call 42 [(.tmp 115)]),
 oo 13 (.move (.tmp 116))])))
def k26_0 : ACode := (.seq (.seq (.ops [
 oo 117 (.move (.tmp 13)),
 oo 118 (.move (.tmp 11)),
 oo 119 (.bin .eql (.tmp 117) (.tmp 118))])
 (.cond (.tmp 119)
 (.exit 3)
 .skip))
 (.seq (.ops [
 oo 4 (.move (.cst (.bool false)))])
 .ret))
def lp26_2 : ACode := (.seq (.ops [
 oo 68 (.nextStr (.tmp 67)),
 oo 69 (.extract 0 (.tmp 68))])
 (.seq (.cond (.tmp 69)
 .skip
 (.exit 2))
 (.block 3 (.seq (.ops [
 oo 70 (.extract 2 (.tmp 68)),
 oo 10 (.move (.tmp 70))])
 (.seq (.seq (.ops [
 oo 71 (.move (.tmp 1)),
 oo 72 (.lenS (.tmp 71)),
 oo 73 (.bin .eql (.tmp 72) (.cst (.int .i64 0)))])
 (.cond (.tmp 73)
 (.seq (.ops [
 oo 4 (.move (.cst (.bool false)))])
 .ret)
 .skip))
 (.seq (.ops [
 oo 75 (.move (.tmp 1)),
 oo 76 (.call 41 [(.tmp 75)]),
 oo 74 (.move (.tmp 76)),
 oo 77 (.extract 0 (.tmp 74)),
 oo 78 (.extract 1 (.tmp 74)),
 oo 11 (.move (.tmp 77)),
 oo 12 (.move (.tmp 78))])
 (.seq (.ops [
 oo 79 (.move (.tmp 1)),
 oo 80 (.move (.tmp 12)),
 oo 81 (.sliceStr (.tmp 79) (some (.tmp 80)) none),
 oo 1 (.move (.tmp 81))])
 (.seq (.seq (.ops [
 oo 82 (.move (.tmp 11)),
 oo 83 (.move (.tmp 10)),
 oo 84 (.bin .eql (.tmp 82) (.tmp 83))])
 (.cond (.tmp 84)
 (.exit 3)
 .skip))
 (.seq (.seq (.ops [
 oo 85 (.move (.tmp 11)),
 oo 86 (.move (.tmp 10)),
 oo 87 (.bin .lss (.tmp 85) (.tmp 86))])
 (.cond (.tmp 87)
 (.ops [
 oo 88 (.move (.tmp 10)),
 oo 89 (.move (.tmp 11)),
 oo 11 (.move (.tmp 88)),
 oo 10 (.move (.tmp 89))])
 .skip))
 (.seq (.seq (.ops [
 oo 90 (.move (.tmp 11)),
 oo 91 (.bin .lss (.tmp 90) (.cst (.int .i32 128)))])
 (.cond (.tmp 91)
 (.seq (.seq (.ops [
 oo 92 (.move (.tmp 10)),
 oo 93 (.bin .leq (.cst (.int .i32 65)) (.tmp 92)),
 oo 94 (.move (.tmp 93)),
 og 95 94 true (.move (.tmp 10)),
 og 96 94 true (.bin .leq (.tmp 95) (.cst (.int .i32 90))),
 oo 97 (.pick (.tmp 94) (.tmp 96) (.cst (.bool false))),
 oo 98 (.move (.tmp 97)),
 og 99 98 true (.move (.tmp 11)),
 og 100 98 true (.move (.tmp 10)),
 og 101 98 true (.bin .add (.tmp 100) (.cst (.int .i32 97))),
 og 102 98 true (.bin .sub (.tmp 101) (.cst (.int .i32 65))),
 og 103 98 true (.bin .eql (.tmp 99) (.tmp 102)),
 oo 104 (.pick (.tmp 98) (.tmp 103) (.cst (.bool false)))])
 (.cond (.tmp 104)
 (.exit 3)
 .skip))
 (.seq (.ops [
 oo 4 (.move (.cst (.bool false)))])
 .ret))
 .skip))
 (.seq (.ops [
 oo 105 (.move (.tmp 10)),
 oo 106 (.call 42 [(.tmp 105)]),
 oo 13 (.move (.tmp 106))])
 (.seq (.block 4 (.loop lp26_1))
 k26_0))))))))))))
def k26_1 : ACode := (.seq (.ops [
 oo 120 (.move (.tmp 1)),
 oo 121 (.lenS (.tmp 120)),
 oo 122 (.bin .eql (.tmp 121) (.cst (.int .i64 0))),
 oo 4 (.move (.tmp 122))])
 .ret)
def k26_2 : ACode := (.seq (.seq (.ops [
 oo 55 (.move (.tmp 0)),
 oo 56 (.lenS (.tmp 55)),
 oo 57 (.move (.tmp 1)),
 oo 58 (.lenS (.tmp 57)),
 oo 59 (.bin .eql (.tmp 56) (.tmp 58)),
 oo 4 (.move (.tmp 59))])
 .ret)
 (.seq (.label 0)
 (.seq (.ops [
 oo 60 (.move (.tmp 0)),
 oo 61 (.move (.tmp 5)),
 oo 62 (.sliceStr (.tmp 60) (some (.tmp 61)) none),
 oo 0 (.move (.tmp 62))])
 (.seq (.ops [
 oo 63 (.move (.tmp 1)),
 oo 64 (.move (.tmp 5)),
 oo 65 (.sliceStr (.tmp 63) (some (.tmp 64)) none),
 oo 1 (.move (.tmp 65))])
 (.seq (.seq (.ops [
 oo 66 (.move (.tmp 0)),
 oo 67 (.rangeStr (.tmp 66))])
 (.block 2 (.loop lp26_2)))
 k26_1)))))
def b26 : ACode := (.seq (.ops [
 oo 4 (.move (.cst (.bool false)))])
 (.scope (.seq (.ops [
 oo 5 (.move (.cst (.int .i64 0)))])
 (.seq (.seq (.ops [
 oo 14 (.move (.tmp 0)),
 oo 15 (.lenS (.tmp 14)),
 oo 16 (.move (.tmp 1)),
 oo 17 (.lenS (.tmp 16)),
 oo 18 (.min2 (.tmp 15) (.tmp 17)),
 oo 6 (.move (.tmp 18))])
 (.block 0 (.loop lp26_0)))
 k26_2))))
def r26 : List ARes := [.tmp 4]
def a26 : AFn := ⟨b26, r26, 3⟩

structure Tab_LStr (C : Ctx) : Prop where
  h28 : C.T 28 = some (.fn a28)
  h29 : C.T 29 = some (.fn a29)
  h30 : C.T 30 = some (.fn a30)
  h31 : C.T 31 = some (.fn a31)
  h33 : C.T 33 = some (.fn a33)
  h44 : C.T 44 = some (.fn a44)
  h45 : C.T 45 = some (.fn a45)
  h49 : C.T 49 = some (.fn a49)
  h54 : C.T 54 = some (.fn a54)
  h66 : C.T 66 = some (.fn a66)
  h75 : C.T 75 = some (.fn a75)
  h57 : C.T 57 = some (.fn a57)
  h70 : C.T 70 = some (.fn a70)
  h61 : C.T 61 = some (.fn a61)
  h43 : C.T 43 = some (.fn a43)
  h53 : C.T 53 = some (.fn a53)
  h69 : C.T 69 = some (.fn a69)
  h55 : C.T 55 = some (.fn a55)
  h48 : C.T 48 = some (.fn a48)
  h47 : C.T 47 = some (.fn a47)
  h38 : C.T 38 = some (.fn a38)
  h24 : C.T 24 = some (.fn a24)
  h39 : C.T 39 = some (.fn a39)
  h56 : C.T 56 = some (.fn a56)
  h74 : C.T 74 = some (.fn a74)
  h20 : C.T 20 = some (.fn a20)
  h32 : C.T 32 = some (.fn a32)
  h19 : C.T 19 = some (.fn a19)
  h37 : C.T 37 = some (.fn a37)
  h52 : C.T 52 = some (.fn a52)
  h68 : C.T 68 = some (.fn a68)
  h35 : C.T 35 = some (.fn a35)
  h51 : C.T 51 = some (.fn a51)
  h26 : C.T 26 = some (.fn a26)
  x62 : C.T 62 = some (.ext .noEscape)
  x63 : C.T 63 = some (.ext (.makeNoZero 5))
  x65 : C.T 65 = some (.ext .countStr)
  x76 : C.T 76 = some (.ext .indexByteStr)
end Go.Ab.Aud

namespace Go.Ab.Aud
def b27 : ACode := (.seq (.ops [
 oo 2 (.move (.cst (.bool false)))])
 (.seq (.ops [
 oo 3 (.move (.tmp 0)),
 oo 4 (.bin .leq (.cst (.int .i32 65)) (.tmp 3)),
 oo 5 (.move (.tmp 4)),
 og 6 5 true (.move (.tmp 0)),
 og 7 5 true (.bin .leq (.tmp 6) (.cst (.int .i32 90))),
 oo 8 (.pick (.tmp 5) (.tmp 7) (.cst (.bool false))),
 oo 9 (.move (.tmp 8)),
 og 10 9 false (.move (.tmp 0)),
 og 11 9 false (.bin .leq (.cst (.int .i32 97)) (.tmp 10)),
 og 12 9 false (.move (.tmp 11)),
 og 13 12 true (.move (.tmp 0)),
 og 14 12 true (.bin .leq (.tmp 13) (.cst (.int .i32 122))),
 og 15 9 false (.pick (.tmp 12) (.tmp 14) (.cst (.bool false))),
 oo 16 (.pick (.tmp 9) (.cst (.bool true)) (.tmp 15)),
 oo 17 (.move (.tmp 16)),
 og 18 17 false (.move (.tmp 0)),
 og 19 17 false (.bin .leq (.cst (.int .i32 48)) (.tmp 18)),
 og 20 17 false (.move (.tmp 19)),
 og 21 20 true (.move (.tmp 0)),
 og 22 20 true (.bin .leq (.tmp 21) (.cst (.int .i32 57))),
 og 23 17 false (.pick (.tmp 20) (.tmp 22) (.cst (.bool false))),
 oo 24 (.pick (.tmp 17) (.cst (.bool true)) (.tmp 23)),
 oo 25 (.move (.tmp 24)),
 og 26 25 false (.move (.tmp 0)),
 og 27 25 false (.call 43 [(.cst (.string ⟨⟨[45, 46, 95, 126]⟩⟩)), (.tmp 26)]),
 oo 28 (.pick (.tmp 25) (.cst (.bool true)) (.tmp 27)),
 oo 2 (.move (.tmp 28))])
 .ret))
def r27 : List ARes := [.tmp 2]
def a27 : AFn := ⟨b27, r27, 3⟩
def b50 : ACode := (.seq (.ops [
 oo 2 (.move (.cst (.int .i64 0)))])
 (.seq (.seq (.ops [
 oo 4 (.move (.tmp 0)),
 oo 5 (.call 57 [(.cst (.string ⟨⟨[48, 49, 50, 51, 52, 53, 54, 55, 56, 57, 65, 66, 67, 68, 69, 70]⟩⟩)), (.tmp 4)]),
 oo 3 (.move (.tmp 5))])
 (.seq (.ops [
 oo 6 (.move (.tmp 3)),
 oo 7 (.bin .geq (.tmp 6) (.cst (.int .i64 0)))])
 (.cond (.tmp 7)
 (.seq (.ops [
 oo 8 (.move (.tmp 3)),
 oo 2 (.move (.tmp 8))])
 .ret)
 .skip)))
 (.seq (.seq (.ops [
 oo 9 (.move (.tmp 0)),
 oo 10 (.bin .leq (.cst (.int .u8 97)) (.tmp 9)),
 oo 11 (.move (.tmp 10)),
 og 12 11 true (.move (.tmp 0)),
 og 13 11 true (.bin .leq (.tmp 12) (.cst (.int .u8 102))),
 oo 14 (.pick (.tmp 11) (.tmp 13) (.cst (.bool false)))])
 (.cond (.tmp 14)
 (.seq (.ops [
 oo 15 (.move (.tmp 0)),
 oo 16 (.bin .sub (.tmp 15) (.cst (.int .u8 97))),
 oo 17 (.convInt .i64 (.tmp 16)),
 oo 18 (.bin .add (.tmp 17) (.cst (.int .i64 10))),
 oo 2 (.move (.tmp 18))])
 .ret)
 .skip))
 (.seq (.ops [
 oo 2 (.move (.cst (.int .i64 16)))])
 .ret))))
def r50 : List ARes := [.tmp 2]
def a50 : AFn := ⟨b50, r50, 3⟩
def b34 : ACode := (.seq (.ops [
 oo 2 (.move (.cst (.int .u8 0))),
 oo 3 (.move (.cst (.bool false)))])
 (.seq (.seq (.ops [
 oo 6 (.move (.tmp 0)),
 oo 7 (.lenS (.tmp 6)),
 oo 8 (.bin .lss (.tmp 7) (.cst (.int .i64 2)))])
 (.cond (.tmp 8)
 (.seq (.ops [
 oo 2 (.move (.cst (.int .u8 0))),
 oo 3 (.move (.cst (.bool false)))])
 .ret)
 .skip))
 (.seq (.draw [
 oo 9 (.move (.tmp 0)),
 oo 10 (.idxStr (.tmp 9) (.cst (.int .i64 0))),
 oo 11 (.call 50 [(.tmp 10)]),
 oo 12 (.move (.tmp 0)),
 oo 13 (.idxStr (.tmp 12) (.cst (.int .i64 1))),
 oo 14 (.call 50 [(.tmp 13)]),
 oo 4 (.move (.tmp 11)),
 oo 5 (.move (.tmp 14))])
 (.seq (.ops [
 oo 15 (.move (.tmp 4)),
 oo 16 (.bin .shl (.tmp 15) (.cst (.int .u64 4))),
 oo 17 (.move (.tmp 5)),
 oo 18 (.bin .or (.tmp 16) (.tmp 17)),
 oo 19 (.convInt .u8 (.tmp 18)),
 oo 20 (.move (.tmp 4)),
 oo 21 (.bin .lss (.tmp 20) (.cst (.int .i64 16))),
 oo 22 (.move (.tmp 21)),
 og 23 22 true (.move (.tmp 5)),
 og 24 22 true (.bin .lss (.tmp 23) (.cst (.int .i64 16))),
 oo 25 (.pick (.tmp 22) (.tmp 24) (.cst (.bool false))),
 oo 2 (.move (.tmp 19)),
 oo 3 (.move (.tmp 25))])
 .ret))))
def r34 : List ARes := [.tmp 2, .tmp 3]
def a34 : AFn := ⟨b34, r34, 3⟩
def lp21_0 : ACode := (.seq (.ops [
 oo 16 (.nextStr (.tmp 15)),
 oo 17 (.extract 0 (.tmp 16))])
 (.seq (.cond (.tmp 17)
 .skip
 (.exit 0))
 (.block 1 (.seq (.ops [
 oo 18 (.extract 1 (.tmp 16)),
 oo 19 (.extract 2 (.tmp 16)),
 oo 10 (.move (.tmp 18)),
 oo 11 (.move (.tmp 19))])
 (.seq (.seq (.ops [
 oo 20 (.move (.tmp 9)),
 oo 21 (.bin .gtr (.tmp 20) (.cst (.int .i64 0)))])
 (.cond (.tmp 21)
 (.seq (.ops [
 oo 22 (.move (.tmp 9)),
 oo 23 (.bin .sub (.tmp 22) (.cst (.int .i64 1))),
 oo 9 (.move (.tmp 23))])
 (.exit 1))
 .skip))
 (.block 2 (.seq (.seq (.ops [
 oo 28 (.move (.tmp 11)),
 oo 29 (.call 27 [(.tmp 28)]),
 oo 27 (.move (.tmp 29))])
 (.cond (.tmp 27)
 .skip
 (.ops [
 oo 30 (.move (.tmp 11)),
 oo 31 (.bin .eql (.tmp 30) (.cst (.int .i32 42))),
 oo 27 (.move (.tmp 31))])))
 (.cond (.tmp 27)
 (.ops [
 oo 32 (.move (.tmp 8)),
 oo 33 (.idxAddrArr 2 2 (.tmp 7) (.tmp 32)),
 oo 34 (.move (.tmp 11)),
 oo 35 (.call 33 [(.tmp 33), (.tmp 34)])])
 (.seq (.ops [
 oo 37 (.move (.tmp 11)),
 oo 38 (.bin .eql (.tmp 37) (.cst (.int .i32 43))),
 oo 36 (.move (.tmp 38))])
 (.cond (.tmp 36)
 (.ops [
 oo 39 (.move (.tmp 8)),
 oo 40 (.idxAddrArr 2 2 (.tmp 7) (.tmp 39)),
 oo 41 (.call 28 [(.tmp 40), (.cst (.int .u8 32))])])
 (.seq (.ops [
 oo 43 (.move (.tmp 11)),
 oo 44 (.move (.tmp 1)),
 oo 45 (.bin .eql (.tmp 43) (.tmp 44)),
 oo 46 (.move (.tmp 45)),
 og 47 46 true (.move (.tmp 8)),
 og 48 46 true (.bin .eql (.tmp 47) (.cst (.int .i64 0))),
 oo 49 (.pick (.tmp 46) (.tmp 48) (.cst (.bool false))),
 oo 42 (.move (.tmp 49))])
 (.cond (.tmp 42)
 (.ops [
 oo 50 (.move (.tmp 10)),
 oo 8 (.move (.cst (.int .i64 1))),
 oo 5 (.move (.tmp 50))])
 (.seq (.ops [
 oo 52 (.move (.tmp 11)),
 oo 53 (.bin .eql (.tmp 52) (.cst (.int .i32 37))),
 oo 51 (.move (.tmp 53))])
 (.cond (.tmp 51)
 (.seq (.ops [
 oo 55 (.move (.tmp 0)),
 oo 56 (.move (.tmp 10)),
 oo 57 (.bin .add (.tmp 56) (.cst (.int .i64 1))),
 oo 58 (.sliceStr (.tmp 55) (some (.tmp 57)) none),
 oo 59 (.call 34 [(.tmp 58)]),
 oo 54 (.move (.tmp 59)),
 oo 60 (.extract 0 (.tmp 54)),
 oo 61 (.extract 1 (.tmp 54)),
 oo 12 (.move (.tmp 60)),
 oo 13 (.move (.tmp 61))])
 (.seq (.seq (.ops [
 oo 62 (.move (.tmp 13)),
 oo 63 (.un .not (.tmp 62))])
 (.cond (.tmp 63)
 (.seq (.ops [
 oo 64 (.loadN 2 (.tmp 4)),
 oo 65 (.move (.tmp 5)),
 oo 66 (.move (.tmp 10)),
 ⟨none, none, .storeN 2 (.tmp 4) (.tmp 64), []⟩,
 oo 5 (.move (.tmp 65)),
 oo 6 (.move (.tmp 66))])
 .ret)
 .skip))
 (.seq (.ops [
 oo 67 (.move (.tmp 8)),
 oo 68 (.idxAddrArr 2 2 (.tmp 7) (.tmp 67)),
 oo 69 (.move (.tmp 12)),
 oo 70 (.call 28 [(.tmp 68), (.tmp 69)])])
 (.ops [
 oo 9 (.move (.cst (.int .i64 2)))]))))
 (.seq (.ops [
 oo 24 (.loadN 2 (.tmp 4)),
 oo 25 (.move (.tmp 5)),
 oo 26 (.move (.tmp 10)),
 ⟨none, none, .storeN 2 (.tmp 4) (.tmp 24), []⟩,
 oo 5 (.move (.tmp 25)),
 oo 6 (.move (.tmp 26))])
 .ret)))))))))))))))
def k21_0 : ACode := (.seq (.ops [
 oo 71 (.idxAddrArr 2 2 (.tmp 7) (.cst (.int .i64 0))),
 oo 72 (.call 29 [(.tmp 71)]),
 oo 73 (.idxAddrArr 2 2 (.tmp 7) (.cst (.int .i64 1))),
 oo 74 (.call 29 [(.tmp 73)]),
 oo 75 (.build [(.string ⟨⟨[]⟩⟩), (.string ⟨⟨[]⟩⟩)] [(0, 1, (.tmp 72)), (1, 1, (.tmp 74))]),
 oo 76 (.move (.tmp 5)),
 ⟨none, none, .storeN 2 (.tmp 4) (.tmp 75), []⟩,
 oo 5 (.move (.tmp 76)),
 oo 6 (.move (.cst (.int .i64 (-1))))])
 .ret)
def b21 : ACode := (.seq (.ops [
 oo 4 (.box 58 (.cst (.agg ⟨[(.string ⟨⟨[]⟩⟩), (.string ⟨⟨[]⟩⟩)]⟩))),
 oo 5 (.move (.cst (.int .i64 0))),
 oo 6 (.move (.cst (.int .i64 0)))])
 (.seq (.ops [
 oo 7 (.box 81 (.cst (.agg ⟨[(.pointer none), (.slice none 0 0), (.pointer none), (.slice none 0 0)]⟩)))])
 (.seq (.ops [
 oo 8 (.move (.cst (.int .i64 0))),
 oo 9 (.move (.cst (.int .i64 0)))])
 (.seq (.ops [
 oo 5 (.move (.cst (.int .i64 (-1))))])
 (.seq (.seq (.ops [
 oo 14 (.move (.tmp 0)),
 oo 15 (.rangeStr (.tmp 14))])
 (.block 0 (.loop lp21_0)))
 k21_0)))))
def r21 : List ARes := [.cellN 4 2, .tmp 5, .tmp 6]
def a21 : AFn := ⟨b21, r21, 3⟩
def lp18_0 : ACode := (.seq (.ops [
 oo 10 (.bin .lss (.tmp 9) (.tmp 8))])
 (.seq (.cond (.tmp 10)
 .skip
 (.exit 0))
 (.seq (.block 1 (.seq (.ops [
 oo 11 (.idxAddrSl 1 (.tmp 7) (.tmp 9)),
 oo 12 (.load1 (.tmp 11)),
 oo 5 (.move (.tmp 12))])
 (.block 2 (.seq (.ops [
 oo 23 (.move (.tmp 5)),
 oo 24 (.bin .lss (.tmp 23) (.cst (.int .u8 128))),
 oo 25 (.move (.tmp 24)),
 og 26 25 true (.move (.tmp 5)),
 og 27 25 true (.convInt .i32 (.tmp 26)),
 og 28 25 true (.call 27 [(.tmp 27)]),
 oo 29 (.pick (.tmp 25) (.tmp 28) (.cst (.bool false))),
 oo 22 (.move (.tmp 29))])
 (.cond (.tmp 22)
 (.ops [
 oo 30 (.move (.tmp 5)),
 oo 31 (.call 28 [(.tmp 3), (.tmp 30)])])
 (.seq (.ops [
 oo 33 (.move (.tmp 5)),
 oo 34 (.bin .eql (.tmp 33) (.cst (.int .u8 32))),
 oo 32 (.move (.tmp 34))])
 (.cond (.tmp 32)
 (.ops [
 oo 35 (.call 28 [(.tmp 3), (.cst (.int .u8 43))])])
 (.seq (.ops [
 oo 13 (.call 28 [(.tmp 3), (.cst (.int .u8 37))])])
 (.seq (.ops [
 oo 14 (.move (.tmp 5)),
 oo 15 (.bin .shr (.tmp 14) (.cst (.int .u64 4))),
 oo 16 (.idxStr (.cst (.string ⟨⟨[48, 49, 50, 51, 52, 53, 54, 55, 56, 57, 65, 66, 67, 68, 69, 70]⟩⟩)) (.tmp 15)),
 oo 17 (.call 28 [(.tmp 3), (.tmp 16)])])
 (.ops [
 oo 18 (.move (.tmp 5)),
 oo 19 (.bin .and (.tmp 18) (.cst (.int .u8 15))),
 oo 20 (.idxStr (.cst (.string ⟨⟨[48, 49, 50, 51, 52, 53, 54, 55, 56, 57, 65, 66, 67, 68, 69, 70]⟩⟩)) (.tmp 19)),
 oo 21 (.call 28 [(.tmp 3), (.tmp 20)])]))))))))))
 (.ops [
 oo 36 (.bin .add (.tmp 9) (.cst (.int .i64 1))),
 oo 9 (.move (.tmp 36))]))))
def k18_0 : ACode := (.seq (.ops [
 oo 37 (.call 29 [(.tmp 3)]),
 oo 2 (.move (.tmp 37))])
 .ret)
def b18 : ACode := (.seq (.ops [
 oo 2 (.move (.cst (.string ⟨⟨[]⟩⟩)))])
 (.seq (.ops [
 oo 3 (.box 70 (.cst (.agg ⟨[(.pointer none), (.slice none 0 0)]⟩)))])
 (.seq (.seq (.ops [
 oo 6 (.move (.tmp 0)),
 oo 7 (.str2bytes 5 (.tmp 6)),
 oo 8 (.len (.tmp 7)),
 oo 9 (.move (.cst (.int .i64 0)))])
 (.block 0 (.loop lp18_0)))
 k18_0)))
def r18 : List ARes := [.tmp 2]
def a18 : AFn := ⟨b18, r18, 3⟩
def b22 : ACode := (.seq (.ops [
 oo 2 (.move (.cst (.bool false)))])
 (.seq (.ops [
 oo 3 (.move (.tmp 0)),
 oo 4 (.call 35 [(.tmp 3)]),
 oo 2 (.move (.tmp 4))])
 .ret))
def r22 : List ARes := [.tmp 2]
def a22 : AFn := ⟨b22, r22, 3⟩
def lp36_0 : ACode := (.seq (.ops [
 oo 42 (.bin .lss (.tmp 41) (.tmp 40))])
 (.seq (.cond (.tmp 42)
 .skip
 (.exit 5))
 (.seq (.block 6 (.seq (.ops [
 oo 43 (.move (.tmp 41)),
 oo 7 (.move (.tmp 43))])
 (.ops [
 oo 44 (.move (.tmp 1)),
 oo 45 (.move (.tmp 6)),
 oo 46 (.move (.tmp 7)),
 oo 47 (.bin .mul (.cst (.int .i64 6)) (.tmp 46)),
 oo 48 (.bin .sub (.cst (.int .i64 18)) (.tmp 47)),
 oo 49 (.bin .shr (.tmp 45) (.tmp 48)),
 oo 50 (.bin .and (.tmp 49) (.cst (.int .u32 63))),
 oo 51 (.idxStr (.tmp 44) (.tmp 50)),
 oo 52 (.call 28 [(.tmp 5), (.tmp 51)])])))
 (.ops [
 oo 53 (.bin .add (.tmp 41) (.cst (.int .i64 1))),
 oo 41 (.move (.tmp 53))]))))
def k36_0 : ACode := (.seq (.ops [
 oo 54 (.move (.tmp 0)),
 oo 55 (.move (.tmp 0)),
 oo 56 (.len (.tmp 55)),
 oo 57 (.min2 (.tmp 56) (.cst (.int .i64 3))),
 oo 58 (.sliceSl 1 (.tmp 54) (some (.tmp 57)) none none),
 oo 0 (.move (.tmp 58))])
 (.goto 0))
def b36 : ACode := (.seq (.ops [
 oo 4 (.move (.cst (.string ⟨⟨[]⟩⟩)))])
 (.scope (.seq (.ops [
 oo 5 (.box 70 (.cst (.agg ⟨[(.pointer none), (.slice none 0 0)]⟩)))])
 (.seq (.label 0)
 (.seq (.ops [
 oo 6 (.move (.cst (.int .u32 0)))])
 (.seq (.seq (.ops [
 oo 8 (.move (.tmp 0)),
 oo 9 (.len (.tmp 8))])
 (.block 0 (.seq (.block 4 (.seq (.block 3 (.seq (.block 2 (.seq (.block 1 (.seq (.seq (.seq (.ops [
 oo 11 (.bin .eql (.tmp 9) (.cst (.int .i64 2))),
 oo 10 (.move (.tmp 11))])
 (.cond (.tmp 10)
 (.exit 2)
 .skip))
 (.seq (.seq (.ops [
 oo 13 (.bin .eql (.tmp 9) (.cst (.int .i64 1))),
 oo 12 (.move (.tmp 13))])
 (.cond (.tmp 12)
 (.exit 3)
 .skip))
 (.seq (.ops [
 oo 15 (.bin .eql (.tmp 9) (.cst (.int .i64 0))),
 oo 14 (.move (.tmp 15))])
 (.cond (.tmp 14)
 (.exit 4)
 .skip))))
 (.exit 1)))
 (.ops [
 oo 16 (.move (.tmp 6)),
 oo 17 (.move (.tmp 0)),
 oo 18 (.idxAddrSl 1 (.tmp 17) (.cst (.int .i64 2))),
 oo 19 (.load1 (.tmp 18)),
 oo 20 (.convInt .u32 (.tmp 19)),
 oo 21 (.bin .or (.tmp 16) (.tmp 20)),
 oo 6 (.move (.tmp 21))])))
 (.ops [
 oo 22 (.move (.tmp 6)),
 oo 23 (.move (.tmp 0)),
 oo 24 (.idxAddrSl 1 (.tmp 23) (.cst (.int .i64 1))),
 oo 25 (.load1 (.tmp 24)),
 oo 26 (.convInt .u32 (.tmp 25)),
 oo 27 (.bin .shl (.tmp 26) (.cst (.int .u64 8))),
 oo 28 (.bin .or (.tmp 22) (.tmp 27)),
 oo 6 (.move (.tmp 28))])))
 (.seq (.ops [
 oo 29 (.move (.tmp 6)),
 oo 30 (.move (.tmp 0)),
 oo 31 (.idxAddrSl 1 (.tmp 30) (.cst (.int .i64 0))),
 oo 32 (.load1 (.tmp 31)),
 oo 33 (.convInt .u32 (.tmp 32)),
 oo 34 (.bin .shl (.tmp 33) (.cst (.int .u64 16))),
 oo 35 (.bin .or (.tmp 29) (.tmp 34)),
 oo 6 (.move (.tmp 35))])
 (.exit 0))))
 (.seq (.seq (.ops [
 oo 36 (.call 29 [(.tmp 5)]),
 oo 4 (.move (.tmp 36))])
 .ret)
 (.exit 0)))))
 (.seq (.seq (.ops [
 oo 37 (.move (.tmp 0)),
 oo 38 (.len (.tmp 37)),
 oo 39 (.min2 (.tmp 38) (.cst (.int .i64 3))),
 oo 40 (.bin .add (.tmp 39) (.cst (.int .i64 1))),
 oo 41 (.move (.cst (.int .i64 0)))])
 (.block 5 (.loop lp36_0)))
 k36_0)))))))
def r36 : List ARes := [.tmp 4]
def a36 : AFn := ⟨b36, r36, 2⟩
def b23 : ACode := (.seq (.ops [
 oo 2 (.move (.cst (.string ⟨⟨[]⟩⟩)))])
 (.seq (.ops [
 oo 4 (.move (.tmp 0)),
 oo 5 (.call 36 [(.tmp 4), (.cst (.string ⟨⟨[65, 66, 67, 68, 69, 70, 71, 72, 73, 74, 75, 76, 77, 78, 79, 80, 81, 82, 83, 84, 85, 86, 87, 88, 89, 90, 97, 98, 99, 100, 101, 102, 103, 104, 105, 106, 107, 108, 109, 110, 111, 112, 113, 114, 115, 116, 117, 118, 119, 120, 121, 122, 48, 49, 50, 51, 52, 53, 54, 55, 56, 57, 43, 47]⟩⟩))]),
 oo 3 (.move (.tmp 5))])
 (.seq (.ops [
 oo 6 (.move (.tmp 3)),
 oo 7 (.move (.tmp 3)),
 oo 8 (.lenS (.tmp 7)),
 oo 9 (.bin .rem (.tmp 8) (.cst (.int .i64 4))),
 oo 10 (.bin .sub (.cst (.int .i64 4)) (.tmp 9)),
 oo 11 (.bin .rem (.tmp 10) (.cst (.int .i64 4))),
 oo 12 (.call 37 [(.cst (.string ⟨⟨[61]⟩⟩)), (.tmp 11)]),
 oo 13 (.bin .add (.tmp 6) (.tmp 12)),
 oo 2 (.move (.tmp 13))])
 .ret)))
def r23 : List ARes := [.tmp 2]
def a23 : AFn := ⟨b23, r23, 2⟩
def lp40_0 : ACode := (.seq (.ops [
 oo 21 (.bin .lss (.tmp 20) (.tmp 19))])
 (.seq (.cond (.tmp 21)
 .skip
 (.exit 0))
 (.seq (.block 1 (.seq (.ops [
 oo 22 (.move (.tmp 20)),
 oo 11 (.move (.tmp 22))])
 (.seq (.ops [
 oo 23 (.move (.tmp 1)),
 oo 24 (.move (.tmp 0)),
 oo 25 (.move (.tmp 11)),
 oo 26 (.idxStr (.tmp 24) (.tmp 25)),
 oo 27 (.call 57 [(.tmp 23), (.tmp 26)]),
 oo 12 (.move (.tmp 27))])
 (.seq (.seq (.ops [
 oo 28 (.move (.tmp 12)),
 oo 29 (.bin .lss (.tmp 28) (.cst (.int .i64 0)))])
 (.cond (.tmp 29)
 (.seq (.ops [
 oo 6 (.move (.cst (.slice none 0 0))),
 oo 7 (.move (.cst (.int .i64 10)))])
 .ret)
 .skip))
 (.seq (.ops [
 oo 30 (.move (.tmp 9)),
 oo 31 (.bin .shl (.tmp 30) (.cst (.int .u64 6))),
 oo 32 (.move (.tmp 12)),
 oo 33 (.convInt .u32 (.tmp 32)),
 oo 34 (.bin .or (.tmp 31) (.tmp 33)),
 oo 35 (.move (.tmp 10)),
 oo 36 (.bin .add (.tmp 35) (.cst (.int .i64 6))),
 oo 9 (.move (.tmp 34)),
 oo 10 (.move (.tmp 36))])
 (.seq (.ops [
 oo 37 (.move (.tmp 10)),
 oo 38 (.bin .geq (.tmp 37) (.cst (.int .i64 8)))])
 (.cond (.tmp 38)
 (.seq (.ops [
 oo 39 (.move (.tmp 10)),
 oo 40 (.bin .sub (.tmp 39) (.cst (.int .i64 8))),
 oo 10 (.move (.tmp 40))])
 (.seq (.ops [
 oo 41 (.move (.tmp 8)),
 oo 42 (.move (.tmp 9)),
 oo 43 (.move (.tmp 10)),
 oo 44 (.bin .shr (.tmp 42) (.tmp 43)),
 oo 45 (.convInt .u8 (.tmp 44)),
 oo 46 (.buildSlice 5 [(.int .u8 0)] 1 [(0, 1, (.tmp 45))]),
 oo 47 (.append 5 1 1 (.tmp 41) (.tmp 46)),
 oo 8 (.move (.tmp 47))])
 (.ops [
 oo 48 (.move (.tmp 9)),
 oo 49 (.move (.tmp 10)),
 oo 50 (.bin .shl (.cst (.int .u32 1)) (.tmp 49)),
 oo 51 (.bin .sub (.tmp 50) (.cst (.int .u32 1))),
 oo 52 (.bin .and (.tmp 48) (.tmp 51)),
 oo 9 (.move (.tmp 52))])))
 .skip)))))))
 (.ops [
 oo 53 (.bin .add (.tmp 20) (.cst (.int .i64 1))),
 oo 20 (.move (.tmp 53))]))))
def k40_0 : ACode := (.seq (.block 2 (.seq (.ops [
 oo 55 (.move (.tmp 2)),
 oo 56 (.un .not (.tmp 55)),
 oo 54 (.move (.tmp 56))])
 (.cond (.tmp 54)
 (.seq (.ops [
 oo 6 (.move (.cst (.slice none 0 0))),
 oo 7 (.move (.cst (.int .i64 11)))])
 .ret)
 (.seq (.ops [
 oo 58 (.move (.tmp 9)),
 oo 59 (.bin .neq (.tmp 58) (.cst (.int .u32 0))),
 oo 57 (.move (.tmp 59))])
 (.cond (.tmp 57)
 (.seq (.ops [
 oo 6 (.move (.cst (.slice none 0 0))),
 oo 7 (.move (.cst (.int .i64 12)))])
 .ret)
 .skip)))))
 (.seq (.ops [
 oo 60 (.move (.tmp 8)),
 oo 6 (.move (.tmp 60)),
 oo 7 (.move (.cst (.int .i64 0)))])
 .ret))
def b40 : ACode := (.seq (.ops [
 oo 6 (.move (.cst (.slice none 0 0))),
 oo 7 (.move (.cst (.int .i64 0)))])
 (.seq (.ops [
 oo 13 (.move (.tmp 0)),
 oo 14 (.lenS (.tmp 13)),
 oo 15 (.bin .mul (.tmp 14) (.cst (.int .i64 3))),
 oo 16 (.bin .quo (.tmp 15) (.cst (.int .i64 4))),
 oo 17 (.mkSlice 5 1 1 [(.int .u8 0)] (.cst (.int .i64 0)) (.tmp 16)),
 oo 8 (.move (.tmp 17))])
 (.seq (.ops [
 oo 9 (.move (.cst (.int .u32 0)))])
 (.seq (.ops [
 oo 10 (.move (.cst (.int .i64 0)))])
 (.seq (.seq (.ops [
 oo 18 (.move (.tmp 0)),
 oo 19 (.lenS (.tmp 18)),
 oo 20 (.move (.cst (.int .i64 0)))])
 (.block 0 (.loop lp40_0)))
 k40_0)))))
def r40 : List ARes := [.tmp 6, .tmp 7]
def a40 : AFn := ⟨b40, r40, 0⟩
def b25 : ACode := (.seq (.ops [
 oo 2 (.move (.cst (.slice none 0 0))),
 oo 3 (.move (.cst (.int .i64 0)))])
 (.seq (.ops [
 oo 5 (.move (.tmp 0)),
 oo 6 (.call 39 [(.tmp 5), (.cst (.string ⟨⟨[61]⟩⟩))]),
 oo 7 (.call 39 [(.tmp 6), (.cst (.string ⟨⟨[61]⟩⟩))]),
 oo 4 (.move (.tmp 7))])
 (.seq (.ops [
 oo 8 (.move (.tmp 4)),
 oo 9 (.move (.tmp 0)),
 oo 10 (.lenS (.tmp 9)),
 oo 11 (.bin .rem (.tmp 10) (.cst (.int .i64 4))),
 oo 12 (.bin .eql (.tmp 11) (.cst (.int .i64 0))),
 oo 13 (.call 40 [(.tmp 8), (.cst (.string ⟨⟨[65, 66, 67, 68, 69, 70, 71, 72, 73, 74, 75, 76, 77, 78, 79, 80, 81, 82, 83, 84, 85, 86, 87, 88, 89, 90, 97, 98, 99, 100, 101, 102, 103, 104, 105, 106, 107, 108, 109, 110, 111, 112, 113, 114, 115, 116, 117, 118, 119, 120, 121, 122, 48, 49, 50, 51, 52, 53, 54, 55, 56, 57, 43, 47]⟩⟩)), (.tmp 12)]),
 oo 14 (.extract 0 (.tmp 13)),
 oo 15 (.extract 1 (.tmp 13)),
 oo 2 (.move (.tmp 14)),
 oo 3 (.move (.tmp 15))])
 .ret)))
def r25 : List ARes := [.tmp 2, .tmp 3]
def a25 : AFn := ⟨b25, r25, 0⟩
def lp12_0 : ACode := (.seq (.ops [
 oo 23 (.bin .lss (.tmp 22) (.tmp 21))])
 (.seq (.cond (.tmp 23)
 .skip
 (.exit 0))
 (.seq (.block 1 (.seq (.ops [
 oo 24 (.idxAddrSl 1 (.tmp 20) (.tmp 22)),
 oo 25 (.load1 (.tmp 24)),
 oo 8 (.move (.tmp 25))])
 (.seq (.seq (.ops [
 oo 26 (.move (.tmp 0)),
 oo 27 (.bin .eql (.tmp 26) (.cst (.string ⟨⟨[]⟩⟩)))])
 (.cond (.tmp 27)
 (.exit 0)
 .skip))
 (.seq (.ops [
 oo 29 (.move (.tmp 8)),
 oo 30 (.call 21 [(.tmp 29), (.cst (.int .i32 61))]),
 oo 28 (.move (.tmp 30)),
 oo 31 (.extract 0 (.tmp 28)),
 oo 32 (.extract 1 (.tmp 28)),
 oo 33 (.extract 2 (.tmp 28)),
 oo 9 (.box 58 (.cst (.agg ⟨[(.string ⟨⟨[]⟩⟩), (.string ⟨⟨[]⟩⟩)]⟩))),
 ⟨none, none, .storeN 2 (.tmp 9) (.tmp 31), []⟩,
 oo 10 (.move (.tmp 32)),
 oo 11 (.move (.tmp 33))])
 (.seq (.ops [
 oo 34 (.move (.tmp 6)),
 oo 12 (.move (.cst (.int .i64 190))),
 oo 13 (.move (.tmp 34))])
 (.seq (.block 2 (.seq (.ops [
 oo 36 (.move (.tmp 11)),
 oo 37 (.bin .geq (.tmp 36) (.cst (.int .i64 0))),
 oo 35 (.move (.tmp 37))])
 (.cond (.tmp 35)
 (.ops [
 oo 38 (.move (.tmp 13)),
 oo 39 (.move (.tmp 11)),
 oo 40 (.bin .add (.tmp 38) (.tmp 39)),
 oo 13 (.move (.tmp 40))])
 (.seq (.ops [
 oo 42 (.move (.tmp 10)),
 oo 43 (.bin .lss (.tmp 42) (.cst (.int .i64 0))),
 oo 41 (.move (.tmp 43))])
 (.cond (.tmp 41)
 (.ops [
 oo 44 (.move (.tmp 13)),
 oo 45 (.move (.tmp 8)),
 oo 46 (.lenS (.tmp 45)),
 oo 47 (.bin .add (.tmp 44) (.tmp 46)),
 oo 13 (.move (.tmp 47))])
 (.seq (.ops [
 oo 49 (.idxAddrArr 1 2 (.tmp 9) (.cst (.int .i64 0))),
 oo 50 (.load1 (.tmp 49)),
 oo 51 (.bin .eql (.tmp 50) (.cst (.string ⟨⟨[]⟩⟩))),
 oo 52 (.move (.tmp 51)),
 og 53 52 false (.idxAddrArr 1 2 (.tmp 9) (.cst (.int .i64 0))),
 og 54 52 false (.load1 (.tmp 53)),
 og 55 52 false (.call 22 [(.tmp 54)]),
 og 56 52 false (.un .not (.tmp 55)),
 oo 57 (.pick (.tmp 52) (.cst (.bool true)) (.tmp 56)),
 oo 48 (.move (.tmp 57))])
 (.cond (.tmp 48)
 .skip
 (.seq (.ops [
 oo 59 (.idxAddrArr 1 2 (.tmp 9) (.cst (.int .i64 1))),
 oo 60 (.load1 (.tmp 59)),
 oo 61 (.call 22 [(.tmp 60)]),
 oo 62 (.un .not (.tmp 61)),
 oo 58 (.move (.tmp 62))])
 (.cond (.tmp 58)
 (.ops [
 oo 63 (.move (.tmp 13)),
 oo 64 (.move (.tmp 10)),
 oo 65 (.bin .add (.tmp 64) (.cst (.int .i64 1))),
 oo 66 (.bin .add (.tmp 63) (.tmp 65)),
 oo 13 (.move (.tmp 66))])
 (.seq (.ops [
 oo 68 (.move (.tmp 5)),
 oo 69 (.idxAddrArr 1 2 (.tmp 9) (.cst (.int .i64 0))),
 oo 70 (.load1 (.tmp 69)),
 oo 71 (.lookup .s (.bool false) false (.tmp 68) (.tmp 70)),
 oo 67 (.move (.tmp 71))])
 (.cond (.tmp 67)
 (.ops [
 oo 12 (.move (.cst (.int .i64 191)))])
 (.ops [
 oo 12 (.move (.cst (.int .i64 0)))]))))))))))))
 (.seq (.seq (.ops [
 oo 72 (.move (.tmp 12)),
 oo 73 (.bin .neq (.tmp 72) (.cst (.int .i64 0)))])
 (.cond (.tmp 73)
 (.seq (.ops [
 oo 74 (.move (.tmp 12)),
 oo 75 (.move (.tmp 13)),
 oo 76 (.build [(.int .i64 0), (.int .i64 0)] [(0, 1, (.tmp 74)), (1, 1, (.tmp 75))]),
 oo 2 (.move (.cst (.slice none 0 0))),
 ⟨none, none, .storeN 2 (.tmp 3) (.tmp 76), []⟩])
 .ret)
 .skip))
 (.seq (.ops [
 oo 77 (.move (.tmp 5)),
 oo 78 (.idxAddrArr 1 2 (.tmp 9) (.cst (.int .i64 0))),
 oo 79 (.load1 (.tmp 78)),
 ⟨none, none, .mapUpd .s (.tmp 77) (.tmp 79) (.cst (.bool true)), []⟩])
 (.seq (.ops [
 oo 80 (.move (.tmp 4)),
 oo 81 (.idxAddrArr 1 2 (.tmp 9) (.cst (.int .i64 0))),
 oo 82 (.load1 (.tmp 81)),
 oo 83 (.idxAddrArr 1 2 (.tmp 9) (.cst (.int .i64 1))),
 oo 84 (.load1 (.tmp 83)),
 oo 85 (.build [(.string ⟨⟨[]⟩⟩), (.string ⟨⟨[]⟩⟩)] [(0, 1, (.tmp 82)), (1, 1, (.tmp 84))]),
 oo 86 (.buildSlice 53 [(.string ⟨⟨[]⟩⟩), (.string ⟨⟨[]⟩⟩)] 1 [(0, 2, (.tmp 85))]),
 oo 87 (.append 53 2 32 (.tmp 80) (.tmp 86)),
 oo 4 (.move (.tmp 87))])
 (.ops [
 oo 88 (.move (.tmp 6)),
 oo 89 (.move (.tmp 8)),
 oo 90 (.lenS (.tmp 89)),
 oo 91 (.bin .add (.tmp 90) (.cst (.int .i64 1))),
 oo 92 (.bin .add (.tmp 88) (.tmp 91)),
 oo 6 (.move (.tmp 92))]))))))))))
 (.ops [
 oo 93 (.bin .add (.tmp 22) (.cst (.int .i64 1))),
 oo 22 (.move (.tmp 93))]))))
def k12_0 : ACode := (.seq (.ops [
 oo 94 (.move (.tmp 4)),
 oo 95 (.build [(.int .i64 0), (.int .i64 0)] []),
 oo 2 (.move (.tmp 94)),
 ⟨none, none, .storeN 2 (.tmp 3) (.tmp 95), []⟩])
 .ret)
def b12 : ACode := (.seq (.ops [
 oo 2 (.move (.cst (.slice none 0 0))),
 oo 3 (.box 40 (.cst (.agg ⟨[(.int .i64 0), (.int .i64 0)]⟩)))])
 (.seq (.seq (.ops [
 oo 14 (.move (.tmp 0)),
 oo 15 (.lenS (.tmp 14)),
 oo 16 (.bin .gtr (.tmp 15) (.cst (.int .i64 16384)))])
 (.cond (.tmp 16)
 (.seq (.ops [
 oo 17 (.build [(.int .i64 0), (.int .i64 0)] [(0, 1, (.cst (.int .i64 190)))]),
 oo 2 (.move (.cst (.slice none 0 0))),
 ⟨none, none, .storeN 2 (.tmp 3) (.tmp 17), []⟩])
 .ret)
 .skip))
 (.seq (.ops [
 oo 4 (.move (.cst (.slice none 0 0)))])
 (.seq (.ops [
 oo 18 (.mkMap),
 oo 5 (.move (.tmp 18))])
 (.seq (.ops [
 oo 6 (.move (.cst (.int .i64 0)))])
 (.seq (.seq (.ops [
 oo 19 (.move (.tmp 0)),
 oo 20 (.call 20 [(.tmp 19), (.cst (.string ⟨⟨[38]⟩⟩))]),
 oo 21 (.len (.tmp 20)),
 oo 22 (.move (.cst (.int .i64 0)))])
 (.block 0 (.loop lp12_0)))
 k12_0))))))
def r12 : List ARes := [.tmp 2, .cellN 3 2]
def a12 : AFn := ⟨b12, r12, 0⟩
def lp10_0 : ACode := (.seq (.ops [
 oo 9 (.bin .lss (.tmp 8) (.tmp 7))])
 (.seq (.cond (.tmp 9)
 .skip
 (.exit 0))
 (.seq (.block 1 (.seq (.ops [
 oo 10 (.idxAddrSl 2 (.tmp 6) (.tmp 8)),
 oo 11 (.loadN 2 (.tmp 10)),
 oo 5 (.box 53 (.cst (.agg ⟨[(.string ⟨⟨[]⟩⟩), (.string ⟨⟨[]⟩⟩)]⟩))),
 ⟨none, none, .storeN 2 (.tmp 5) (.tmp 11), []⟩])
 (.draw [
 oo 12 (.move (.tmp 3)),
 oo 13 (.fieldAddr 0 (.tmp 5)),
 oo 14 (.load1 (.tmp 13)),
 oo 15 (.call 18 [(.tmp 14)]),
 oo 16 (.bin .add (.tmp 15) (.cst (.string ⟨⟨[61]⟩⟩))),
 oo 17 (.fieldAddr 1 (.tmp 5)),
 oo 18 (.load1 (.tmp 17)),
 oo 19 (.call 18 [(.tmp 18)]),
 oo 20 (.bin .add (.tmp 16) (.tmp 19)),
 oo 21 (.buildSlice 9 [(.string ⟨⟨[]⟩⟩)] 1 [(0, 1, (.tmp 20))]),
 oo 22 (.append 9 1 16 (.tmp 12) (.tmp 21)),
 oo 3 (.move (.tmp 22))])))
 (.ops [
 oo 23 (.bin .add (.tmp 8) (.cst (.int .i64 1))),
 oo 8 (.move (.tmp 23))]))))
def k10_0 : ACode := (.seq (.ops [
 oo 24 (.move (.tmp 3)),
 oo 25 (.call 19 [(.tmp 24), (.cst (.string ⟨⟨[38]⟩⟩))]),
 oo 2 (.move (.tmp 25))])
 .ret)
def b10 : ACode := (.seq (.ops [
 oo 2 (.move (.cst (.string ⟨⟨[]⟩⟩)))])
 (.seq (.ops [
 oo 3 (.move (.cst (.slice none 0 0)))])
 (.seq (.seq (.ops [
 oo 6 (.move (.tmp 0)),
 oo 7 (.len (.tmp 6)),
 oo 8 (.move (.cst (.int .i64 0)))])
 (.block 0 (.loop lp10_0)))
 k10_0)))
def r10 : List ARes := [.tmp 2]
def a10 : AFn := ⟨b10, r10, 2⟩
def b16 : ACode := (.seq (.ops [
 oo 2 (.move (.cst (.string ⟨⟨[]⟩⟩))),
 oo 3 (.move (.cst (.string ⟨⟨[]⟩⟩))),
 oo 4 (.move (.cst (.int .i64 0)))])
 (.seq (.ops [
 oo 13 (.move (.tmp 0)),
 oo 14 (.call 24 [(.tmp 13), (.cst (.string ⟨⟨[32]⟩⟩))]),
 oo 12 (.move (.tmp 14)),
 oo 15 (.extract 0 (.tmp 12)),
 oo 16 (.extract 1 (.tmp 12)),
 oo 17 (.extract 2 (.tmp 12)),
 oo 5 (.move (.tmp 15)),
 oo 6 (.move (.tmp 16)),
 oo 7 (.move (.tmp 17))])
 (.seq (.ops [
 oo 19 (.move (.tmp 6)),
 oo 20 (.call 25 [(.tmp 19)]),
 oo 18 (.move (.tmp 20)),
 oo 21 (.extract 0 (.tmp 18)),
 oo 22 (.extract 1 (.tmp 18)),
 oo 8 (.move (.tmp 21)),
 oo 4 (.move (.tmp 22))])
 (.seq (.ops [
 oo 24 (.move (.tmp 8)),
 oo 25 (.bytes2str (.tmp 24)),
 oo 26 (.call 21 [(.tmp 25), (.cst (.int .i32 58))]),
 oo 23 (.move (.tmp 26)),
 oo 27 (.extract 0 (.tmp 23)),
 oo 28 (.extract 1 (.tmp 23)),
 oo 29 (.extract 2 (.tmp 23)),
 oo 9 (.box 58 (.cst (.agg ⟨[(.string ⟨⟨[]⟩⟩), (.string ⟨⟨[]⟩⟩)]⟩))),
 ⟨none, none, .storeN 2 (.tmp 9) (.tmp 27), []⟩,
 oo 10 (.move (.tmp 28)),
 oo 11 (.move (.tmp 29))])
 (.seq (.seq (.ops [
 oo 30 (.move (.tmp 0)),
 oo 31 (.lenS (.tmp 30)),
 oo 32 (.bin .gtr (.tmp 31) (.cst (.int .i64 4096))),
 oo 33 (.move (.tmp 32)),
 og 34 33 false (.move (.tmp 5)),
 og 35 33 false (.lenS (.tmp 34)),
 og 36 33 false (.bin .neq (.tmp 35) (.cst (.int .i64 5))),
 oo 37 (.pick (.tmp 33) (.cst (.bool true)) (.tmp 36)),
 oo 38 (.move (.tmp 37)),
 og 39 38 false (.move (.tmp 5)),
 og 40 38 false (.call 26 [(.tmp 39), (.cst (.string ⟨⟨[98, 97, 115, 105, 99]⟩⟩))]),
 og 41 38 false (.un .not (.tmp 40)),
 oo 42 (.pick (.tmp 38) (.cst (.bool true)) (.tmp 41)),
 oo 43 (.move (.tmp 42)),
 og 44 43 false (.move (.tmp 4)),
 og 45 43 false (.bin .neq (.tmp 44) (.cst (.int .i64 0))),
 oo 46 (.pick (.tmp 43) (.cst (.bool true)) (.tmp 45)),
 oo 47 (.move (.tmp 46)),
 og 48 47 false (.move (.tmp 10)),
 og 49 47 false (.bin .lss (.tmp 48) (.cst (.int .i64 0))),
 oo 50 (.pick (.tmp 47) (.cst (.bool true)) (.tmp 49)),
 oo 51 (.move (.tmp 50)),
 og 52 51 false (.move (.tmp 11)),
 og 53 51 false (.bin .geq (.tmp 52) (.cst (.int .i64 0))),
 oo 54 (.pick (.tmp 51) (.cst (.bool true)) (.tmp 53)),
 oo 55 (.move (.tmp 54)),
 og 56 55 false (.idxAddrArr 1 2 (.tmp 9) (.cst (.int .i64 0))),
 og 57 55 false (.load1 (.tmp 56)),
 og 58 55 false (.call 22 [(.tmp 57)]),
 og 59 55 false (.un .not (.tmp 58)),
 oo 60 (.pick (.tmp 55) (.cst (.bool true)) (.tmp 59)),
 oo 61 (.move (.tmp 60)),
 og 62 61 false (.idxAddrArr 1 2 (.tmp 9) (.cst (.int .i64 1))),
 og 63 61 false (.load1 (.tmp 62)),
 og 64 61 false (.call 22 [(.tmp 63)]),
 og 65 61 false (.un .not (.tmp 64)),
 oo 66 (.pick (.tmp 61) (.cst (.bool true)) (.tmp 65))])
 (.cond (.tmp 66)
 (.seq (.ops [
 oo 2 (.move (.cst (.string ⟨⟨[]⟩⟩))),
 oo 3 (.move (.cst (.string ⟨⟨[]⟩⟩))),
 oo 4 (.move (.cst (.int .i64 192)))])
 .ret)
 .skip))
 (.seq (.draw [
 oo 67 (.idxAddrArr 1 2 (.tmp 9) (.cst (.int .i64 0))),
 oo 68 (.load1 (.tmp 67)),
 oo 69 (.idxAddrArr 1 2 (.tmp 9) (.cst (.int .i64 1))),
 oo 70 (.load1 (.tmp 69)),
 oo 2 (.move (.tmp 68)),
 oo 3 (.move (.tmp 70)),
 oo 4 (.move (.cst (.int .i64 0)))])
 .ret))))))
def r16 : List ARes := [.tmp 2, .tmp 3, .tmp 4]
def a16 : AFn := ⟨b16, r16, 3⟩
def b15 : ACode := (.seq (.ops [
 oo 4 (.move (.cst (.string ⟨⟨[]⟩⟩)))])
 (.seq (.ops [
 oo 5 (.move (.tmp 0)),
 oo 6 (.call 18 [(.tmp 5)]),
 oo 7 (.bin .add (.tmp 6) (.cst (.string ⟨⟨[58]⟩⟩))),
 oo 8 (.move (.tmp 1)),
 oo 9 (.call 18 [(.tmp 8)]),
 oo 10 (.bin .add (.tmp 7) (.tmp 9)),
 oo 11 (.str2bytes 5 (.tmp 10)),
 oo 12 (.call 23 [(.tmp 11)]),
 oo 13 (.bin .add (.cst (.string ⟨⟨[66, 97, 115, 105, 99, 32]⟩⟩)) (.tmp 12)),
 oo 4 (.move (.tmp 13))])
 .ret))
def r15 : List ARes := [.tmp 4]
def a15 : AFn := ⟨b15, r15, 3⟩
def b17 : ACode := (.seq (.ops [
 oo 2 (.move (.cst (.int .i64 0)))])
 (.seq (.ops [
 oo 3 (.move (.tmp 0)),
 oo 2 (.move (.tmp 3))])
 .ret))
def r17 : List ARes := [.tmp 2]
def a17 : AFn := ⟨b17, r17, 3⟩
def lp8_0 : ACode := (.seq (.seq (.ops [
 oo 5 (.move (.tmp 4)),
 oo 6 (.move (.tmp 0)),
 oo 7 (.len (.tmp 6)),
 oo 8 (.bin .lss (.tmp 5) (.tmp 7)),
 oo 9 (.move (.tmp 8)),
 og 10 9 true (.move (.tmp 3)),
 og 11 9 true (.bin .leq (.tmp 10) (.cst (.int .i64 131072))),
 oo 12 (.pick (.tmp 9) (.tmp 11) (.cst (.bool false)))])
 (.cond (.tmp 12)
 .skip
 (.exit 0)))
 (.seq (.block 1 (.draw [
 oo 15 (.move (.tmp 3)),
 oo 16 (.move (.tmp 0)),
 oo 17 (.move (.tmp 4)),
 oo 18 (.idxAddrSl 2 (.tmp 16) (.tmp 17)),
 oo 19 (.fieldAddr 0 (.tmp 18)),
 oo 20 (.load1 (.tmp 19)),
 oo 21 (.lenS (.tmp 20)),
 oo 22 (.bin .add (.tmp 15) (.tmp 21)),
 oo 23 (.move (.tmp 0)),
 oo 24 (.move (.tmp 4)),
 oo 25 (.idxAddrSl 2 (.tmp 23) (.tmp 24)),
 oo 26 (.fieldAddr 1 (.tmp 25)),
 oo 27 (.load1 (.tmp 26)),
 oo 28 (.lenS (.tmp 27)),
 oo 29 (.bin .add (.tmp 22) (.tmp 28)),
 oo 30 (.bin .add (.tmp 29) (.cst (.int .i64 2))),
 oo 3 (.move (.tmp 30))]))
 (.ops [
 oo 13 (.move (.tmp 4)),
 oo 14 (.bin .add (.tmp 13) (.cst (.int .i64 1))),
 oo 4 (.move (.tmp 14))])))
def k8_0 : ACode := (.seq (.ops [
 oo 31 (.move (.tmp 3)),
 oo 2 (.move (.tmp 31))])
 .ret)
def b8 : ACode := (.seq (.ops [
 oo 2 (.move (.cst (.int .i64 0)))])
 (.seq (.ops [
 oo 3 (.move (.cst (.int .i64 0)))])
 (.seq (.seq (.ops [
 oo 4 (.move (.cst (.int .i64 0)))])
 (.block 0 (.loop lp8_0)))
 k8_0)))
def r8 : List ARes := [.tmp 2]
def a8 : AFn := ⟨b8, r8, 2⟩
def lp9_0 : ACode := (.seq (.seq (.ops [
 oo 35 (.move (.tmp 4)),
 oo 36 (.move (.tmp 3)),
 oo 37 (.bin .lss (.tmp 35) (.tmp 36))])
 (.cond (.tmp 37)
 .skip
 (.exit 2)))
 (.seq (.block 3 (.seq (.draw [
 oo 40 (.move (.tmp 0)),
 oo 41 (.move (.tmp 4)),
 oo 42 (.idxAddrSl 2 (.tmp 40) (.tmp 41)),
 oo 43 (.fieldAddr 0 (.tmp 42)),
 oo 44 (.load1 (.tmp 43)),
 oo 45 (.move (.tmp 0)),
 oo 46 (.move (.tmp 3)),
 oo 47 (.idxAddrSl 2 (.tmp 45) (.tmp 46)),
 oo 48 (.fieldAddr 0 (.tmp 47)),
 oo 49 (.load1 (.tmp 48)),
 oo 50 (.bin .eql (.tmp 44) (.tmp 49))])
 (.cond (.tmp 50)
 (.seq (.ops [
 oo 2 (.move (.cst (.bool false)))])
 .ret)
 .skip)))
 (.ops [
 oo 38 (.move (.tmp 4)),
 oo 39 (.bin .add (.tmp 38) (.cst (.int .i64 1))),
 oo 4 (.move (.tmp 39))])))
def k9_0 : ACode := (.ops [
 oo 9 (.move (.tmp 3)),
 oo 10 (.bin .add (.tmp 9) (.cst (.int .i64 1))),
 oo 3 (.move (.tmp 10))])
def lp9_1 : ACode := (.seq (.seq (.ops [
 oo 5 (.move (.tmp 3)),
 oo 6 (.move (.tmp 0)),
 oo 7 (.len (.tmp 6)),
 oo 8 (.bin .lss (.tmp 5) (.tmp 7))])
 (.cond (.tmp 8)
 .skip
 (.exit 0)))
 (.seq (.block 1 (.seq (.seq (.ops [
 oo 11 (.move (.tmp 0)),
 oo 12 (.move (.tmp 3)),
 oo 13 (.idxAddrSl 2 (.tmp 11) (.tmp 12)),
 oo 14 (.fieldAddr 0 (.tmp 13)),
 oo 15 (.load1 (.tmp 14)),
 oo 16 (.bin .eql (.tmp 15) (.cst (.string ⟨⟨[]⟩⟩))),
 oo 17 (.move (.tmp 16)),
 og 18 17 false (.move (.tmp 0)),
 og 19 17 false (.move (.tmp 3)),
 og 20 17 false (.idxAddrSl 2 (.tmp 18) (.tmp 19)),
 og 21 17 false (.fieldAddr 0 (.tmp 20)),
 og 22 17 false (.load1 (.tmp 21)),
 og 23 17 false (.call 14 [(.tmp 22)]),
 og 24 17 false (.un .not (.tmp 23)),
 oo 25 (.pick (.tmp 17) (.cst (.bool true)) (.tmp 24)),
 oo 26 (.move (.tmp 25)),
 og 27 26 false (.move (.tmp 0)),
 og 28 26 false (.move (.tmp 3)),
 og 29 26 false (.idxAddrSl 2 (.tmp 27) (.tmp 28)),
 og 30 26 false (.fieldAddr 1 (.tmp 29)),
 og 31 26 false (.load1 (.tmp 30)),
 og 32 26 false (.call 14 [(.tmp 31)]),
 og 33 26 false (.un .not (.tmp 32)),
 oo 34 (.pick (.tmp 26) (.cst (.bool true)) (.tmp 33))])
 (.cond (.tmp 34)
 (.seq (.ops [
 oo 2 (.move (.cst (.bool false)))])
 .ret)
 .skip))
 (.seq (.ops [
 oo 4 (.move (.cst (.int .i64 0)))])
 (.block 2 (.loop lp9_0)))))
 k9_0))
def k9_1 : ACode := (.seq (.ops [
 oo 2 (.move (.cst (.bool true)))])
 .ret)
def b9 : ACode := (.seq (.ops [
 oo 2 (.move (.cst (.bool false)))])
 (.seq (.seq (.ops [
 oo 3 (.move (.cst (.int .i64 0)))])
 (.block 0 (.loop lp9_1)))
 k9_1))
def r9 : List ARes := [.tmp 2]
def a9 : AFn := ⟨b9, r9, 2⟩
def b11 : ACode := (.seq (.ops [
 oo 2 (.move (.cst (.slice none 0 0)))])
 (.seq (.ops [
 oo 3 (.move (.cst (.slice none 0 0)))])
 (.seq (.ops [
 oo 4 (.move (.tmp 3)),
 oo 5 (.move (.tmp 0)),
 oo 6 (.append 53 2 32 (.tmp 4) (.tmp 5)),
 oo 3 (.move (.tmp 6))])
 (.seq (.ops [
 oo 7 (.move (.tmp 3)),
 oo 2 (.move (.tmp 7))])
 .ret))))
def r11 : List ARes := [.tmp 2]
def a11 : AFn := ⟨b11, r11, 0⟩
def lp13_0 : ACode := (.seq (.seq (.ops [
 oo 11 (.move (.tmp 5)),
 oo 12 (.move (.tmp 0)),
 oo 13 (.len (.tmp 12)),
 oo 14 (.bin .lss (.tmp 11) (.tmp 13))])
 (.cond (.tmp 14)
 .skip
 (.exit 0)))
 (.seq (.block 1 (.seq (.draw [
 oo 17 (.move (.tmp 0)),
 oo 18 (.move (.tmp 5)),
 oo 19 (.idxAddrSl 2 (.tmp 17) (.tmp 18)),
 oo 20 (.loadN 2 (.tmp 19)),
 oo 21 (.move (.tmp 1)),
 oo 22 (.move (.tmp 5)),
 oo 23 (.idxAddrSl 2 (.tmp 21) (.tmp 22)),
 oo 24 (.loadN 2 (.tmp 23)),
 oo 25 (.eq true (.flat [.s, .s]) (.tmp 20) (.tmp 24))])
 (.cond (.tmp 25)
 (.seq (.ops [
 oo 4 (.move (.cst (.bool false)))])
 .ret)
 .skip)))
 (.ops [
 oo 15 (.move (.tmp 5)),
 oo 16 (.bin .add (.tmp 15) (.cst (.int .i64 1))),
 oo 5 (.move (.tmp 16))])))
def k13_0 : ACode := (.seq (.ops [
 oo 4 (.move (.cst (.bool true)))])
 .ret)
def b13 : ACode := (.seq (.ops [
 oo 4 (.move (.cst (.bool false)))])
 (.seq (.seq (.ops [
 oo 6 (.move (.tmp 0)),
 oo 7 (.len (.tmp 6)),
 oo 8 (.move (.tmp 1)),
 oo 9 (.len (.tmp 8)),
 oo 10 (.bin .neq (.tmp 7) (.tmp 9))])
 (.cond (.tmp 10)
 (.seq (.ops [
 oo 4 (.move (.cst (.bool false)))])
 .ret)
 .skip))
 (.seq (.seq (.ops [
 oo 5 (.move (.cst (.int .i64 0)))])
 (.block 0 (.loop lp13_0)))
 k13_0)))
def r13 : List ARes := [.tmp 4]
def a13 : AFn := ⟨b13, r13, 2⟩
def lp14_0 : ACode := (.seq (.ops [
 oo 8 (.nextStr (.tmp 7)),
 oo 9 (.extract 0 (.tmp 8))])
 (.seq (.cond (.tmp 9)
 .skip
 (.exit 0))
 (.block 1 (.seq (.ops [
 oo 10 (.extract 1 (.tmp 8)),
 oo 11 (.extract 2 (.tmp 8)),
 oo 4 (.move (.tmp 10)),
 oo 5 (.move (.tmp 11))])
 (.seq (.seq (.ops [
 oo 12 (.move (.tmp 4)),
 oo 13 (.move (.tmp 3)),
 oo 14 (.bin .neq (.tmp 12) (.tmp 13))])
 (.cond (.tmp 14)
 (.seq (.ops [
 oo 2 (.move (.cst (.bool false)))])
 .ret)
 .skip))
 (.seq (.ops [
 oo 15 (.move (.tmp 3)),
 oo 16 (.move (.tmp 5)),
 oo 17 (.rune2str (.tmp 16)),
 oo 18 (.lenS (.tmp 17)),
 oo 19 (.bin .add (.tmp 15) (.tmp 18)),
 oo 3 (.move (.tmp 19))])
 (.seq (.ops [
 oo 20 (.move (.tmp 5)),
 oo 21 (.bin .eql (.tmp 20) (.cst (.int .i32 65533))),
 oo 22 (.move (.tmp 21)),
 og 23 22 true (.move (.tmp 3)),
 og 24 22 true (.move (.tmp 0)),
 og 25 22 true (.lenS (.tmp 24)),
 og 26 22 true (.bin .gtr (.tmp 23) (.tmp 25)),
 og 27 22 true (.move (.tmp 26)),
 og 28 27 false (.move (.tmp 0)),
 og 29 27 false (.move (.tmp 4)),
 og 30 27 false (.move (.tmp 3)),
 og 31 27 false (.sliceStr (.tmp 28) (some (.tmp 29)) (some (.tmp 30))),
 og 32 27 false (.move (.tmp 5)),
 og 33 27 false (.rune2str (.tmp 32)),
 og 34 27 false (.bin .neq (.tmp 31) (.tmp 33)),
 og 35 22 true (.pick (.tmp 27) (.cst (.bool true)) (.tmp 34)),
 oo 36 (.pick (.tmp 22) (.tmp 35) (.cst (.bool false)))])
 (.cond (.tmp 36)
 (.seq (.ops [
 oo 2 (.move (.cst (.bool false)))])
 .ret)
 .skip))))))))
def k14_0 : ACode := (.seq (.ops [
 oo 37 (.move (.tmp 3)),
 oo 38 (.move (.tmp 0)),
 oo 39 (.lenS (.tmp 38)),
 oo 40 (.bin .eql (.tmp 37) (.tmp 39)),
 oo 2 (.move (.tmp 40))])
 .ret)
def b14 : ACode := (.seq (.ops [
 oo 2 (.move (.cst (.bool false)))])
 (.seq (.ops [
 oo 3 (.move (.cst (.int .i64 0)))])
 (.seq (.seq (.ops [
 oo 6 (.move (.tmp 0)),
 oo 7 (.rangeStr (.tmp 6))])
 (.block 0 (.loop lp14_0)))
 k14_0)))
def r14 : List ARes := [.tmp 2]
def a14 : AFn := ⟨b14, r14, 3⟩

structure Tab_LWir (C : Ctx) : Prop where
  h27 : C.T 27 = some (.fn a27)
  h50 : C.T 50 = some (.fn a50)
  h34 : C.T 34 = some (.fn a34)
  h21 : C.T 21 = some (.fn a21)
  h18 : C.T 18 = some (.fn a18)
  h22 : C.T 22 = some (.fn a22)
  h36 : C.T 36 = some (.fn a36)
  h23 : C.T 23 = some (.fn a23)
  h40 : C.T 40 = some (.fn a40)
  h25 : C.T 25 = some (.fn a25)
  h12 : C.T 12 = some (.fn a12)
  h10 : C.T 10 = some (.fn a10)
  h16 : C.T 16 = some (.fn a16)
  h15 : C.T 15 = some (.fn a15)
  h17 : C.T 17 = some (.fn a17)
  h8 : C.T 8 = some (.fn a8)
  h9 : C.T 9 = some (.fn a9)
  h11 : C.T 11 = some (.fn a11)
  h13 : C.T 13 = some (.fn a13)
  h14 : C.T 14 = some (.fn a14)
end Go.Ab.Aud

namespace Go.Ab.Aud
def lp4_0 : ACode := (.seq (.seq (.ops [
 oo 23 (.move (.tmp 4)),
 oo 24 (.fieldAddr 1 (.tmp 1)),
 oo 25 (.load1 (.tmp 24)),
 oo 26 (.len (.tmp 25)),
 oo 27 (.bin .lss (.tmp 23) (.tmp 26))])
 (.cond (.tmp 27)
 .skip
 (.exit 0)))
 (.seq (.block 1 (.seq (.ops [
 oo 30 (.fieldAddr 1 (.tmp 1)),
 oo 31 (.load1 (.tmp 30)),
 oo 32 (.move (.tmp 4)),
 oo 33 (.idxAddrSl 1 (.tmp 31) (.tmp 32)),
 oo 34 (.load1 (.tmp 33)),
 oo 5 (.move (.tmp 34))])
 (.seq (.ops [
 oo 35 (.move (.tmp 3)),
 oo 36 (.move (.tmp 5)),
 oo 37 (.call 8 [(.tmp 36)]),
 oo 38 (.bin .add (.tmp 35) (.tmp 37)),
 oo 39 (.bin .add (.tmp 38) (.cst (.int .i64 1))),
 oo 3 (.move (.tmp 39))])
 (.seq (.seq (.ops [
 oo 40 (.move (.tmp 3)),
 oo 41 (.bin .gtr (.tmp 40) (.cst (.int .i64 131072))),
 oo 42 (.move (.tmp 41)),
 og 43 42 false (.move (.tmp 5)),
 og 44 42 false (.len (.tmp 43)),
 og 45 42 false (.bin .gtr (.tmp 44) (.cst (.int .i64 300))),
 oo 46 (.pick (.tmp 42) (.cst (.bool true)) (.tmp 45))])
 (.cond (.tmp 46)
 (.exit 0)
 .skip))
 (.seq (.seq (.ops [
 oo 47 (.move (.tmp 5)),
 oo 48 (.call 9 [(.tmp 47)]),
 oo 49 (.un .not (.tmp 48))])
 (.cond (.tmp 49)
 (.exit 1)
 .skip))
 (.seq (.ops [
 oo 50 (.move (.tmp 5)),
 oo 51 (.call 11 [(.tmp 50)]),
 oo 52 (.call 10 [(.tmp 51)]),
 oo 6 (.move (.tmp 52))])
 (.seq (.ops [
 oo 54 (.move (.tmp 6)),
 oo 55 (.call 12 [(.tmp 54)]),
 oo 53 (.move (.tmp 55)),
 oo 56 (.extract 0 (.tmp 53)),
 oo 57 (.extract 1 (.tmp 53)),
 oo 8 (.box 40 (.cst (.agg ⟨[(.int .i64 0), (.int .i64 0)]⟩))),
 oo 7 (.move (.tmp 56)),
 ⟨none, none, .storeN 2 (.tmp 8) (.tmp 57), []⟩])
 (.seq (.seq (.ops [
 oo 58 (.move (.tmp 6)),
 oo 59 (.lenS (.tmp 58)),
 oo 60 (.bin .gtr (.tmp 59) (.cst (.int .i64 16384)))])
 (.cond (.tmp 60)
 (.seq (.seq (.ops [
 oo 61 (.loadN 2 (.tmp 8)),
 oo 62 (.build [(.int .i64 0), (.int .i64 0)] [(0, 1, (.cst (.int .i64 190)))]),
 oo 63 (.eq true (.flat [.i, .i]) (.tmp 61) (.tmp 62)),
 oo 64 (.move (.tmp 63)),
 og 65 64 false (.move (.tmp 7)),
 og 66 64 false (.len (.tmp 65)),
 og 67 64 false (.bin .neq (.tmp 66) (.cst (.int .i64 0))),
 oo 68 (.pick (.tmp 64) (.cst (.bool true)) (.tmp 67))])
 (.cond (.tmp 68)
 (.seq (.ops [
 oo 2 (.move (.cst (.bool false)))])
 .ret)
 .skip))
 (.exit 1))
 .skip))
 (.seq (.seq (.ops [
 oo 69 (.loadN 2 (.tmp 8)),
 oo 70 (.build [(.int .i64 0), (.int .i64 0)] []),
 oo 71 (.eq true (.flat [.i, .i]) (.tmp 69) (.tmp 70)),
 oo 72 (.move (.tmp 71)),
 og 73 72 false (.move (.tmp 7)),
 og 74 72 false (.move (.tmp 5)),
 og 75 72 false (.call 13 [(.tmp 73), (.tmp 74)]),
 og 76 72 false (.un .not (.tmp 75)),
 oo 77 (.pick (.tmp 72) (.cst (.bool true)) (.tmp 76))])
 (.cond (.tmp 77)
 (.seq (.ops [
 oo 2 (.move (.cst (.bool false)))])
 .ret)
 .skip))
 (.seq (.ops [
 oo 78 (.move (.tmp 5)),
 oo 79 (.len (.tmp 78)),
 oo 80 (.bin .gtr (.tmp 79) (.cst (.int .i64 0))),
 oo 81 (.move (.tmp 80)),
 og 82 81 true (.move (.tmp 6)),
 og 83 81 true (.lenS (.tmp 82)),
 og 84 81 true (.bin .lss (.tmp 83) (.cst (.int .i64 16384))),
 oo 85 (.pick (.tmp 81) (.tmp 84) (.cst (.bool false)))])
 (.cond (.tmp 85)
 (.seq (.ops [
 oo 87 (.move (.tmp 6)),
 oo 88 (.bin .add (.tmp 87) (.cst (.string ⟨⟨[38]⟩⟩))),
 oo 89 (.call 12 [(.tmp 88)]),
 oo 86 (.move (.tmp 89)),
 oo 90 (.extract 0 (.tmp 86)),
 oo 91 (.extract 1 (.tmp 86)),
 oo 10 (.box 40 (.cst (.agg ⟨[(.int .i64 0), (.int .i64 0)]⟩))),
 oo 9 (.move (.tmp 90)),
 ⟨none, none, .storeN 2 (.tmp 10) (.tmp 91), []⟩])
 (.seq (.ops [
 oo 92 (.loadN 2 (.tmp 10)),
 oo 93 (.move (.tmp 6)),
 oo 94 (.lenS (.tmp 93)),
 oo 95 (.bin .add (.tmp 94) (.cst (.int .i64 1))),
 oo 96 (.build [(.int .i64 0), (.int .i64 0)] [(0, 1, (.cst (.int .i64 190))), (1, 1, (.tmp 95))]),
 oo 97 (.eq true (.flat [.i, .i]) (.tmp 92) (.tmp 96))])
 (.cond (.tmp 97)
 (.seq (.ops [
 oo 2 (.move (.cst (.bool false)))])
 .ret)
 .skip)))
 .skip)))))))))))
 (.ops [
 oo 28 (.move (.tmp 4)),
 oo 29 (.bin .add (.tmp 28) (.cst (.int .i64 1))),
 oo 4 (.move (.tmp 29))])))
def lp4_1 : ACode := (.seq (.seq (.ops [
 oo 98 (.move (.tmp 11)),
 oo 99 (.fieldAddr 3 (.tmp 1)),
 oo 100 (.load1 (.tmp 99)),
 oo 101 (.len (.tmp 100)),
 oo 102 (.bin .lss (.tmp 98) (.tmp 101))])
 (.cond (.tmp 102)
 .skip
 (.exit 2)))
 (.seq (.block 3 (.seq (.ops [
 oo 105 (.fieldAddr 3 (.tmp 1)),
 oo 106 (.load1 (.tmp 105)),
 oo 107 (.move (.tmp 11)),
 oo 108 (.idxAddrSl 2 (.tmp 106) (.tmp 107)),
 oo 109 (.loadN 2 (.tmp 108)),
 oo 12 (.box 45 (.cst (.agg ⟨[(.string ⟨⟨[]⟩⟩), (.string ⟨⟨[]⟩⟩)]⟩))),
 ⟨none, none, .storeN 2 (.tmp 12) (.tmp 109), []⟩])
 (.seq (.ops [
 oo 110 (.move (.tmp 3)),
 oo 111 (.fieldAddr 0 (.tmp 12)),
 oo 112 (.load1 (.tmp 111)),
 oo 113 (.lenS (.tmp 112)),
 oo 114 (.bin .add (.tmp 110) (.tmp 113)),
 oo 115 (.fieldAddr 1 (.tmp 12)),
 oo 116 (.load1 (.tmp 115)),
 oo 117 (.lenS (.tmp 116)),
 oo 118 (.bin .add (.tmp 114) (.tmp 117)),
 oo 119 (.bin .add (.tmp 118) (.cst (.int .i64 1))),
 oo 3 (.move (.tmp 119))])
 (.seq (.seq (.ops [
 oo 120 (.move (.tmp 3)),
 oo 121 (.bin .gtr (.tmp 120) (.cst (.int .i64 262144)))])
 (.cond (.tmp 121)
 (.exit 2)
 .skip))
 (.seq (.seq (.ops [
 oo 122 (.fieldAddr 0 (.tmp 12)),
 oo 123 (.load1 (.tmp 122)),
 oo 124 (.call 14 [(.tmp 123)]),
 oo 125 (.un .not (.tmp 124)),
 oo 126 (.move (.tmp 125)),
 og 127 126 false (.fieldAddr 1 (.tmp 12)),
 og 128 126 false (.load1 (.tmp 127)),
 og 129 126 false (.call 14 [(.tmp 128)]),
 og 130 126 false (.un .not (.tmp 129)),
 oo 131 (.pick (.tmp 126) (.cst (.bool true)) (.tmp 130))])
 (.cond (.tmp 131)
 (.exit 3)
 .skip))
 (.seq (.ops [
 oo 132 (.fieldAddr 0 (.tmp 12)),
 oo 133 (.load1 (.tmp 132)),
 oo 134 (.fieldAddr 1 (.tmp 12)),
 oo 135 (.load1 (.tmp 134)),
 oo 136 (.call 15 [(.tmp 133), (.tmp 135)]),
 oo 13 (.move (.tmp 136))])
 (.seq (.ops [
 oo 138 (.move (.tmp 13)),
 oo 139 (.call 16 [(.tmp 138)]),
 oo 137 (.move (.tmp 139)),
 oo 140 (.extract 0 (.tmp 137)),
 oo 141 (.extract 1 (.tmp 137)),
 oo 142 (.extract 2 (.tmp 137)),
 oo 14 (.move (.tmp 140)),
 oo 15 (.move (.tmp 141)),
 oo 16 (.move (.tmp 142))])
 (.seq (.ops [
 oo 143 (.move (.tmp 13)),
 oo 144 (.lenS (.tmp 143)),
 oo 145 (.bin .leq (.tmp 144) (.cst (.int .i64 4096))),
 oo 146 (.move (.tmp 145)),
 og 147 146 true (.move (.tmp 16)),
 og 148 146 true (.call 17 [(.tmp 147)]),
 og 149 146 true (.bin .neq (.tmp 148) (.cst (.int .i64 0))),
 og 150 146 true (.move (.tmp 149)),
 og 151 150 false (.move (.tmp 14)),
 og 152 150 false (.fieldAddr 0 (.tmp 12)),
 og 153 150 false (.load1 (.tmp 152)),
 og 154 150 false (.bin .neq (.tmp 151) (.tmp 153)),
 og 155 146 true (.pick (.tmp 150) (.cst (.bool true)) (.tmp 154)),
 og 156 146 true (.move (.tmp 155)),
 og 157 156 false (.move (.tmp 15)),
 og 158 156 false (.fieldAddr 1 (.tmp 12)),
 og 159 156 false (.load1 (.tmp 158)),
 og 160 156 false (.bin .neq (.tmp 157) (.tmp 159)),
 og 161 146 true (.pick (.tmp 156) (.cst (.bool true)) (.tmp 160)),
 oo 162 (.pick (.tmp 146) (.tmp 161) (.cst (.bool false))),
 oo 163 (.move (.tmp 162)),
 og 164 163 false (.move (.tmp 13)),
 og 165 163 false (.lenS (.tmp 164)),
 og 166 163 false (.bin .gtr (.tmp 165) (.cst (.int .i64 4096))),
 og 167 163 false (.move (.tmp 166)),
 og 168 167 true (.move (.tmp 16)),
 og 169 167 true (.call 17 [(.tmp 168)]),
 og 170 167 true (.bin .neq (.tmp 169) (.cst (.int .i64 192))),
 og 171 163 false (.pick (.tmp 167) (.tmp 170) (.cst (.bool false))),
 oo 172 (.pick (.tmp 163) (.cst (.bool true)) (.tmp 171))])
 (.cond (.tmp 172)
 (.seq (.ops [
 oo 2 (.move (.cst (.bool false)))])
 .ret)
 .skip)))))))))
 (.ops [
 oo 103 (.move (.tmp 11)),
 oo 104 (.bin .add (.tmp 103) (.cst (.int .i64 1))),
 oo 11 (.move (.tmp 104))])))
def lp4_2 : ACode := (.seq (.seq (.ops [
 oo 173 (.move (.tmp 17)),
 oo 174 (.fieldAddr 0 (.tmp 1)),
 oo 175 (.load1 (.tmp 174)),
 oo 176 (.len (.tmp 175)),
 oo 177 (.bin .lss (.tmp 173) (.tmp 176))])
 (.cond (.tmp 177)
 .skip
 (.exit 4)))
 (.seq (.block 5 (.seq (.ops [
 oo 180 (.move (.tmp 3)),
 oo 181 (.fieldAddr 0 (.tmp 1)),
 oo 182 (.load1 (.tmp 181)),
 oo 183 (.move (.tmp 17)),
 oo 184 (.idxAddrSl 1 (.tmp 182) (.tmp 183)),
 oo 185 (.load1 (.tmp 184)),
 oo 186 (.lenS (.tmp 185)),
 oo 187 (.bin .add (.tmp 180) (.tmp 186)),
 oo 188 (.bin .add (.tmp 187) (.cst (.int .i64 1))),
 oo 3 (.move (.tmp 188))])
 (.seq (.seq (.ops [
 oo 189 (.move (.tmp 3)),
 oo 190 (.bin .gtr (.tmp 189) (.cst (.int .i64 393216)))])
 (.cond (.tmp 190)
 (.exit 4)
 .skip))
 (.seq (.ops [
 oo 192 (.fieldAddr 0 (.tmp 1)),
 oo 193 (.load1 (.tmp 192)),
 oo 194 (.move (.tmp 17)),
 oo 195 (.idxAddrSl 1 (.tmp 193) (.tmp 194)),
 oo 196 (.load1 (.tmp 195)),
 oo 197 (.call 12 [(.tmp 196)]),
 oo 191 (.move (.tmp 197)),
 oo 198 (.extract 0 (.tmp 191)),
 oo 199 (.extract 1 (.tmp 191)),
 oo 19 (.box 40 (.cst (.agg ⟨[(.int .i64 0), (.int .i64 0)]⟩))),
 oo 18 (.move (.tmp 198)),
 ⟨none, none, .storeN 2 (.tmp 19) (.tmp 199), []⟩])
 (.seq (.seq (.ops [
 oo 200 (.loadN 2 (.tmp 19)),
 oo 201 (.build [(.int .i64 0), (.int .i64 0)] []),
 oo 202 (.eq true (.flat [.i, .i]) (.tmp 200) (.tmp 201))])
 (.cond (.tmp 202)
 (.seq (.seq (.draw [
 oo 203 (.move (.tmp 18)),
 oo 204 (.len (.tmp 203)),
 oo 205 (.bin .neq (.tmp 204) (.cst (.int .i64 0))),
 oo 206 (.move (.tmp 205)),
 og 207 206 false (.fieldAddr 1 (.tmp 19)),
 og 208 206 false (.load1 (.tmp 207)),
 og 209 206 false (.bin .lss (.tmp 208) (.cst (.int .i64 0))),
 oo 210 (.pick (.tmp 206) (.cst (.bool true)) (.tmp 209)),
 oo 211 (.move (.tmp 210)),
 og 212 211 false (.fieldAddr 1 (.tmp 19)),
 og 213 211 false (.load1 (.tmp 212)),
 og 214 211 false (.fieldAddr 0 (.tmp 1)),
 og 215 211 false (.load1 (.tmp 214)),
 og 216 211 false (.move (.tmp 17)),
 og 217 211 false (.idxAddrSl 1 (.tmp 215) (.tmp 216)),
 og 218 211 false (.load1 (.tmp 217)),
 og 219 211 false (.lenS (.tmp 218)),
 og 220 211 false (.bin .gtr (.tmp 213) (.tmp 219)),
 oo 221 (.pick (.tmp 211) (.cst (.bool true)) (.tmp 220)),
 oo 222 (.move (.tmp 221)),
 og 223 222 false (.fieldAddr 0 (.tmp 19)),
 og 224 222 false (.load1 (.tmp 223)),
 og 225 222 false (.call 17 [(.tmp 224)]),
 og 226 222 false (.bin .neq (.tmp 225) (.cst (.int .i64 190))),
 og 227 222 false (.move (.tmp 226)),
 og 228 227 true (.fieldAddr 0 (.tmp 19)),
 og 229 227 true (.load1 (.tmp 228)),
 og 230 227 true (.call 17 [(.tmp 229)]),
 og 231 227 true (.bin .neq (.tmp 230) (.cst (.int .i64 191))),
 og 232 222 false (.pick (.tmp 227) (.tmp 231) (.cst (.bool false))),
 oo 233 (.pick (.tmp 222) (.cst (.bool true)) (.tmp 232))])
 (.cond (.tmp 233)
 (.seq (.ops [
 oo 2 (.move (.cst (.bool false)))])
 .ret)
 .skip))
 (.exit 5))
 .skip))
 (.seq (.ops [
 oo 234 (.move (.tmp 18)),
 oo 235 (.call 11 [(.tmp 234)]),
 oo 236 (.call 10 [(.tmp 235)]),
 oo 20 (.move (.tmp 236))])
 (.seq (.ops [
 oo 238 (.move (.tmp 20)),
 oo 239 (.call 12 [(.tmp 238)]),
 oo 237 (.move (.tmp 239)),
 oo 240 (.extract 0 (.tmp 237)),
 oo 241 (.extract 1 (.tmp 237)),
 oo 22 (.box 40 (.cst (.agg ⟨[(.int .i64 0), (.int .i64 0)]⟩))),
 oo 21 (.move (.tmp 240)),
 ⟨none, none, .storeN 2 (.tmp 22) (.tmp 241), []⟩])
 (.seq (.ops [
 oo 242 (.move (.tmp 18)),
 oo 243 (.call 9 [(.tmp 242)]),
 oo 244 (.un .not (.tmp 243)),
 oo 245 (.move (.tmp 244)),
 og 246 245 false (.move (.tmp 20)),
 og 247 245 false (.lenS (.tmp 246)),
 og 248 245 false (.bin .leq (.tmp 247) (.cst (.int .i64 16384))),
 og 249 245 false (.move (.tmp 248)),
 og 250 249 true (.loadN 2 (.tmp 22)),
 og 251 249 true (.build [(.int .i64 0), (.int .i64 0)] []),
 og 252 249 true (.eq true (.flat [.i, .i]) (.tmp 250) (.tmp 251)),
 og 253 249 true (.move (.tmp 252)),
 og 254 253 false (.move (.tmp 18)),
 og 255 253 false (.move (.tmp 21)),
 og 256 253 false (.call 13 [(.tmp 254), (.tmp 255)]),
 og 257 253 false (.un .not (.tmp 256)),
 og 258 249 true (.pick (.tmp 253) (.cst (.bool true)) (.tmp 257)),
 og 259 245 false (.pick (.tmp 249) (.tmp 258) (.cst (.bool false))),
 oo 260 (.pick (.tmp 245) (.cst (.bool true)) (.tmp 259))])
 (.cond (.tmp 260)
 (.seq (.ops [
 oo 2 (.move (.cst (.bool false)))])
 .ret)
 .skip)))))))))
 (.ops [
 oo 178 (.move (.tmp 17)),
 oo 179 (.bin .add (.tmp 178) (.cst (.int .i64 1))),
 oo 17 (.move (.tmp 179))])))
def k4_0 : ACode := (.seq (.ops [
 oo 261 (.call 7 []),
 oo 2 (.move (.tmp 261))])
 .ret)
def k4_1 : ACode := (.seq (.seq (.ops [
 oo 17 (.move (.cst (.int .i64 0)))])
 (.block 4 (.loop lp4_2)))
 k4_0)
def k4_2 : ACode := (.seq (.seq (.ops [
 oo 11 (.move (.cst (.int .i64 0)))])
 (.block 2 (.loop lp4_1)))
 k4_1)
def b4 : ACode := (.seq (.ops [
 oo 1 (.box 33 (.tmp 0)),
 oo 2 (.move (.cst (.bool false)))])
 (.seq (.ops [
 oo 3 (.move (.cst (.int .i64 0)))])
 (.seq (.seq (.ops [
 oo 4 (.move (.cst (.int .i64 0)))])
 (.block 0 (.loop lp4_0)))
 k4_2)))
def r4 : List ARes := [.tmp 2]
def a4 : AFn := ⟨b4, r4, 0⟩
def b5 : ACode := (.seq (.ops [
 oo 2 (.move (.cst (.int .i64 0))),
 oo 3 (.move (.cst (.string ⟨⟨[]⟩⟩)))])
 (.seq (.seq (.ops [
 oo 4 (.move (.tmp 0))])
 (.block 0 (.seq (.ops [
 oo 6 (.bin .eql (.tmp 4) (.cst (.int .i64 0))),
 oo 5 (.move (.tmp 6))])
 (.cond (.tmp 5)
 (.seq (.ops [
 oo 2 (.move (.cst (.int .i64 200))),
 oo 3 (.move (.cst (.string ⟨⟨[]⟩⟩)))])
 .ret)
 (.seq (.seq (.ops [
 oo 8 (.bin .eql (.tmp 4) (.cst (.int .i64 190))),
 oo 7 (.move (.tmp 8))])
 (.cond (.tmp 7)
 .skip
 (.seq (.ops [
 oo 9 (.bin .eql (.tmp 4) (.cst (.int .i64 191))),
 oo 7 (.move (.tmp 9))])
 (.cond (.tmp 7)
 .skip
 (.seq (.ops [
 oo 10 (.bin .eql (.tmp 4) (.cst (.int .i64 171))),
 oo 7 (.move (.tmp 10))])
 (.cond (.tmp 7)
 .skip
 (.seq (.ops [
 oo 11 (.bin .eql (.tmp 4) (.cst (.int .i64 172))),
 oo 7 (.move (.tmp 11))])
 (.cond (.tmp 7)
 .skip
 (.seq (.ops [
 oo 12 (.bin .eql (.tmp 4) (.cst (.int .i64 180))),
 oo 7 (.move (.tmp 12))])
 (.cond (.tmp 7)
 .skip
 (.ops [
 oo 13 (.bin .eql (.tmp 4) (.cst (.int .i64 183))),
 oo 7 (.move (.tmp 13))])))))))))))
 (.cond (.tmp 7)
 (.seq (.ops [
 oo 2 (.move (.cst (.int .i64 400))),
 oo 3 (.move (.cst (.string ⟨⟨[105, 110, 118, 97, 108, 105, 100, 95, 114, 101, 113, 117, 101, 115, 116]⟩⟩)))])
 .ret)
 (.seq (.seq (.ops [
 oo 15 (.bin .eql (.tmp 4) (.cst (.int .i64 181))),
 oo 14 (.move (.tmp 15))])
 (.cond (.tmp 14)
 .skip
 (.ops [
 oo 16 (.bin .eql (.tmp 4) (.cst (.int .i64 61))),
 oo 14 (.move (.tmp 16))])))
 (.cond (.tmp 14)
 (.seq (.ops [
 oo 2 (.move (.cst (.int .i64 400))),
 oo 3 (.move (.cst (.string ⟨⟨[105, 110, 118, 97, 108, 105, 100, 95, 115, 99, 111, 112, 101]⟩⟩)))])
 .ret)
 (.seq (.ops [
 oo 18 (.bin .eql (.tmp 4) (.cst (.int .i64 185))),
 oo 17 (.move (.tmp 18))])
 (.cond (.tmp 17)
 (.seq (.ops [
 oo 2 (.move (.cst (.int .i64 400))),
 oo 3 (.move (.cst (.string ⟨⟨[105, 110, 118, 97, 108, 105, 100, 95, 103, 114, 97, 110, 116]⟩⟩)))])
 .ret)
 (.seq (.ops [
 oo 20 (.bin .eql (.tmp 4) (.cst (.int .i64 179))),
 oo 19 (.move (.tmp 20))])
 (.cond (.tmp 19)
 (.seq (.ops [
 oo 2 (.move (.cst (.int .i64 400))),
 oo 3 (.move (.cst (.string ⟨⟨[117, 110, 97, 117, 116, 104, 111, 114, 105, 122, 101, 100, 95, 99, 108, 105, 101, 110, 116]⟩⟩)))])
 .ret)
 (.seq (.seq (.ops [
 oo 22 (.bin .eql (.tmp 4) (.cst (.int .i64 192))),
 oo 21 (.move (.tmp 22))])
 (.cond (.tmp 21)
 .skip
 (.ops [
 oo 23 (.bin .eql (.tmp 4) (.cst (.int .i64 184))),
 oo 21 (.move (.tmp 23))])))
 (.cond (.tmp 21)
 (.seq (.ops [
 oo 2 (.move (.cst (.int .i64 401))),
 oo 3 (.move (.cst (.string ⟨⟨[105, 110, 118, 97, 108, 105, 100, 95, 99, 108, 105, 101, 110, 116]⟩⟩)))])
 .ret)
 (.seq (.ops [
 oo 25 (.bin .eql (.tmp 4) (.cst (.int .i64 176))),
 oo 24 (.move (.tmp 25))])
 (.cond (.tmp 24)
 (.seq (.ops [
 oo 2 (.move (.cst (.int .i64 401))),
 oo 3 (.move (.cst (.string ⟨⟨[97, 99, 99, 101, 115, 115, 95, 100, 101, 110, 105, 101, 100]⟩⟩)))])
 .ret)
 (.seq (.ops [
 oo 27 (.bin .eql (.tmp 4) (.cst (.int .i64 178))),
 oo 26 (.move (.tmp 27))])
 (.cond (.tmp 26)
 (.seq (.ops [
 oo 2 (.move (.cst (.int .i64 401))),
 oo 3 (.move (.cst (.string ⟨⟨[108, 111, 103, 105, 110, 95, 114, 101, 113, 117, 105, 114, 101, 100]⟩⟩)))])
 .ret)
 (.seq (.ops [
 oo 29 (.bin .eql (.tmp 4) (.cst (.int .i64 182))),
 oo 28 (.move (.tmp 29))])
 (.cond (.tmp 28)
 (.seq (.ops [
 oo 2 (.move (.cst (.int .i64 403))),
 oo 3 (.move (.cst (.string ⟨⟨[99, 111, 110, 115, 101, 110, 116, 95, 114, 101, 113, 117, 105, 114, 101, 100]⟩⟩)))])
 .ret)
 (.seq (.ops [
 oo 31 (.bin .eql (.tmp 4) (.cst (.int .i64 177))),
 oo 30 (.move (.tmp 31))])
 (.cond (.tmp 30)
 (.seq (.ops [
 oo 2 (.move (.cst (.int .i64 429))),
 oo 3 (.move (.cst (.string ⟨⟨[116, 101, 109, 112, 111, 114, 97, 114, 105, 108, 121, 95, 117, 110, 97, 118, 97, 105, 108, 97, 98, 108, 101]⟩⟩)))])
 .ret)
 (.seq (.seq (.ops [
 oo 33 (.bin .eql (.tmp 4) (.cst (.int .i64 173))),
 oo 32 (.move (.tmp 33))])
 (.cond (.tmp 32)
 .skip
 (.seq (.ops [
 oo 34 (.bin .eql (.tmp 4) (.cst (.int .i64 174))),
 oo 32 (.move (.tmp 34))])
 (.cond (.tmp 32)
 .skip
 (.seq (.ops [
 oo 35 (.bin .eql (.tmp 4) (.cst (.int .i64 175))),
 oo 32 (.move (.tmp 35))])
 (.cond (.tmp 32)
 .skip
 (.ops [
 oo 36 (.bin .eql (.tmp 4) (.cst (.int .i64 186))),
 oo 32 (.move (.tmp 36))])))))))
 (.cond (.tmp 32)
 (.seq (.ops [
 oo 2 (.move (.cst (.int .i64 503))),
 oo 3 (.move (.cst (.string ⟨⟨[116, 101, 109, 112, 111, 114, 97, 114, 105, 108, 121, 95, 117, 110, 97, 118, 97, 105, 108, 97, 98, 108, 101]⟩⟩)))])
 .ret)
 .skip))))))))))))))))))))))))
 (.seq (.ops [
 oo 2 (.move (.cst (.int .i64 500))),
 oo 3 (.move (.cst (.string ⟨⟨[115, 101, 114, 118, 101, 114, 95, 101, 114, 114, 111, 114]⟩⟩)))])
 .ret)))
def r5 : List ARes := [.tmp 2, .tmp 3]
def a5 : AFn := ⟨b5, r5, 3⟩
def b7 : ACode := (.seq (.ops [
 oo 0 (.move (.cst (.bool false)))])
 (.seq (.ops [
 oo 9 (.call 12 [(.cst (.string ⟨⟨[97, 61, 120, 43, 121, 37, 50, 54]⟩⟩))]),
 oo 8 (.move (.tmp 9)),
 oo 10 (.extract 0 (.tmp 8)),
 oo 11 (.extract 1 (.tmp 8)),
 oo 2 (.box 40 (.cst (.agg ⟨[(.int .i64 0), (.int .i64 0)]⟩))),
 oo 1 (.move (.tmp 10)),
 ⟨none, none, .storeN 2 (.tmp 2) (.tmp 11), []⟩])
 (.seq (.ops [
 oo 13 (.call 16 [(.cst (.string ⟨⟨[66, 97, 115, 105, 99, 32, 99, 50, 104, 118, 99, 68, 112, 104, 74, 84, 78, 66, 89, 103, 61, 61]⟩⟩))]),
 oo 12 (.move (.tmp 13)),
 oo 14 (.extract 0 (.tmp 12)),
 oo 15 (.extract 1 (.tmp 12)),
 oo 16 (.extract 2 (.tmp 12)),
 oo 3 (.move (.tmp 14)),
 oo 4 (.move (.tmp 15)),
 oo 5 (.move (.tmp 16))])
 (.seq (.ops [
 oo 18 (.call 5 [(.cst (.int .i64 185))]),
 oo 17 (.move (.tmp 18)),
 oo 19 (.extract 0 (.tmp 17)),
 oo 20 (.extract 1 (.tmp 17)),
 oo 6 (.move (.tmp 19)),
 oo 7 (.move (.tmp 20))])
 (.seq (.ops [
 oo 21 (.loadN 2 (.tmp 2)),
 oo 22 (.build [(.int .i64 0), (.int .i64 0)] []),
 oo 23 (.eq false (.flat [.i, .i]) (.tmp 21) (.tmp 22)),
 oo 24 (.move (.tmp 23)),
 og 25 24 true (.move (.tmp 1)),
 og 26 24 true (.build [(.string ⟨⟨[]⟩⟩), (.string ⟨⟨[]⟩⟩)] [(0, 1, (.cst (.string ⟨⟨[97]⟩⟩))), (1, 1, (.cst (.string ⟨⟨[120, 32, 121, 38]⟩⟩)))]),
 og 27 24 true (.buildSlice 53 [(.string ⟨⟨[]⟩⟩), (.string ⟨⟨[]⟩⟩)] 1 [(0, 2, (.tmp 26))]),
 og 28 24 true (.call 13 [(.tmp 25), (.tmp 27)]),
 oo 29 (.pick (.tmp 24) (.tmp 28) (.cst (.bool false))),
 oo 30 (.move (.tmp 29)),
 og 31 30 true (.move (.tmp 1)),
 og 32 30 true (.call 10 [(.tmp 31)]),
 og 33 30 true (.bin .eql (.tmp 32) (.cst (.string ⟨⟨[97, 61, 120, 43, 121, 37, 50, 54]⟩⟩))),
 oo 34 (.pick (.tmp 30) (.tmp 33) (.cst (.bool false))),
 oo 35 (.move (.tmp 34)),
 og 36 35 true (.move (.tmp 5)),
 og 37 35 true (.call 17 [(.tmp 36)]),
 og 38 35 true (.bin .eql (.tmp 37) (.cst (.int .i64 0))),
 oo 39 (.pick (.tmp 35) (.tmp 38) (.cst (.bool false))),
 oo 40 (.move (.tmp 39)),
 og 41 40 true (.move (.tmp 3)),
 og 42 40 true (.bin .eql (.tmp 41) (.cst (.string ⟨⟨[115, 104, 111, 112]⟩⟩))),
 oo 43 (.pick (.tmp 40) (.tmp 42) (.cst (.bool false))),
 oo 44 (.move (.tmp 43)),
 og 45 44 true (.move (.tmp 4)),
 og 46 44 true (.bin .eql (.tmp 45) (.cst (.string ⟨⟨[97, 58, 98]⟩⟩))),
 oo 47 (.pick (.tmp 44) (.tmp 46) (.cst (.bool false))),
 oo 48 (.move (.tmp 47)),
 og 49 48 true (.move (.tmp 6)),
 og 50 48 true (.bin .eql (.tmp 49) (.cst (.int .i64 400))),
 oo 51 (.pick (.tmp 48) (.tmp 50) (.cst (.bool false))),
 oo 52 (.move (.tmp 51)),
 og 53 52 true (.move (.tmp 7)),
 og 54 52 true (.bin .eql (.tmp 53) (.cst (.string ⟨⟨[105, 110, 118, 97, 108, 105, 100, 95, 103, 114, 97, 110, 116]⟩⟩))),
 oo 55 (.pick (.tmp 52) (.tmp 54) (.cst (.bool false))),
 oo 0 (.move (.tmp 55))])
 .ret)))))
def r7 : List ARes := [.tmp 0]
def a7 : AFn := ⟨b7, r7, 3⟩

structure Tab_LBack (C : Ctx) : Prop where
  h4 : C.T 4 = some (.fn a4)
  h5 : C.T 5 = some (.fn a5)
  h7 : C.T 7 = some (.fn a7)
end Go.Ab.Aud
