/- Functions of the seat as the logical machine runs them, and the look at each of them (2). Printed by a program. -/
import Derived.Test.YtppeldaebnfmdabGreatEVm3
import Derived.Test.YtppeldaebnfmdabGreatECX1
import Derived.Test.YtppeldaebnfmdabGreatProg
set_option maxRecDepth 100000
namespace Go.Proofs.YtppeldaebnfmdabGreat
open Go.Vm
/-- peloton/clock.Alter -/
def x90 : XFunc := ⟨2,
(.seq
(.region none [
bx 2 0, bx 3 1,
⟨some 4, .alloc z1, none⟩,
ic 5 0] [2, 3, 4])
(.seq
(.seq
(.region none [
ld 19 11 2, p1 20 50 19, mv 6 20] [2, 3, 4, 6])
(.seq
(.region none [
mv 21 6, bc 22 .neq 21 0] [2, 3, 4, 6, 22])
(.cond (.t 22)
(.seq
(.region none [
⟨some 23, .build z1 [], none⟩,
mv 24 6, st 11 4 23, mv 5 24] [4, 5])
.ret)
.skip)))
(.seq
(.seq
(.region none [
ld 25 1 3, p1 26 33 25, mv 7 26] [2, 3, 4, 7])
(.seq
(.region none [
mv 27 7, bc 28 .neq 27 0] [2, 3, 4, 7, 28])
(.cond (.t 28)
(.seq
(.region none [
⟨some 29, .build z1 [], none⟩,
mv 30 7, st 11 4 29, mv 5 30] [4, 5])
.ret)
.skip)))
(.seq
(.seq
(.region none [
fa 31 3 2, fa 32 1 31, ln 33 32, le 34 33, ic 35 0] [2, 3, 4, 33, 34, 35])
(.block 0
(.loop [(2, none), (3, none), (4, none), (33, none), (34, none), (35, none)]
(.seq
(.region none [
bt 36 .lss 35 34] [2, 3, 4, 33, 34, 35, 36])
(.seq
(.cond (.t 36)
.skip
(.exit 0))
(.seq
(.block 1
(.seq
(.region none [
ia 37 3 33 35, ld 38 3 37, ⟨some 9, .alloc z5, none⟩, st 3 9 38] [2, 3, 4, 9, 33, 34, 35])
(.seq
(.region none [
ld 39 1 3, fa 40 1 9, fa 41 0 40, ln 42 41, p2 43 115 39 42, ⟨some 44, .fld none 0 (.t 43), none⟩, bc 45 .lss 44 0, mv 46 45,
⟨some 47, .load (some 1) (.t 3), (some (46, false))⟩, ⟨some 48, .fadr 1 (.t 9), (some (46, false))⟩, ⟨some 49, .fadr 1 (.t 48), (some (46, false))⟩,
⟨some 50, .load none (.t 49), (some (46, false))⟩, ⟨some 51, .call .pur 115 [(.t 47), (.t 50)], (some (46, false))⟩,
⟨some 52, .fld none 0 (.t 51), (some (46, false))⟩, ⟨some 53, .bin .lss (.t 52) (.c (.int .i64 0)), (some (46, false))⟩,
por 54 46 53] [2, 3, 4, 33, 34, 35, 54])
(.cond (.t 54)
(.seq
(.region none [
⟨some 55, .build z1 [], none⟩,
st 11 4 55, ic 5 6] [4, 5])
.ret)
.skip))))
(.region none [
bc 56 .add 35 1, mv 35 56] [2, 3, 4, 33, 34, 35])))))))
(.seq
(.region none [
ld 57 11 2, p1 58 122 57,
⟨some 10, .alloc z1, none⟩,
st 11 10 58] [2, 3, 4, 10])
(.seq
(.region none [
fa 59 0 3, ln 60 59, p1 61 37 60, ⟨some 62, .build [.sl 3 true []] [(0, 1, (.t 61))], none⟩, fa 63 2 10, st 1 63 62, fa 64 10 10,
⟨none, .store 1 (.t 64) (.c (.sl 3 true [])), none⟩] [2, 3, 4, 10])
(.seq
(.seq
(.region none [
fa 65 3 2, fa 66 1 65, ln 67 66, le 68 67, ic 69 0] [2, 3, 4, 10, 67, 68, 69])
(.block 2
(.loop [(2, none), (3, none), (4, none), (10, none), (67, none), (68, none), (69, none), (10, some 11003)]
(.seq
(.region none [
bt 70 .lss 69 68] [2, 3, 4, 10, 67, 68, 69, 70])
(.seq
(.cond (.t 70)
.skip
(.exit 2))
(.seq
(.block 3
(.seq
(.region none [
ia 71 3 67 69, ld 72 3 71, ⟨some 12, .alloc z5, none⟩, st 3 12 72] [2, 3, 4, 10, 12, 67, 68, 69])
(.seq
(.region none [
ld 74 1 3, fa 75 1 12, ld 76 2 75, fa 77 0 2, ld 78 2 77, p3 79 80 74 76 78, mv 73 79, ex 80 0 73, ex 81 1 73, ex 82 2 73,
⟨some 13, .alloc z8, none⟩, st 2 13 80, mv 14 81, mv 15 82] [2, 3, 4, 10, 12, 13, 14, 15, 67, 68, 69])
(.seq
(.region none [
fa 84 10 2, ln 85 84, fa 86 0 12, ln 87 86, p2 88 123 85 87, mv 83 88, ex 89 0 83, ex 90 1 83, mv 16 89,
mv 17 90] [2, 3, 4, 10, 12, 13, 14, 15, 16, 17, 67, 68, 69])
(.seq
(.block 4
(.seq
(.region none [
mv 92 14, mv 93 92, ⟨some 94, .mov (.t 17), (some (93, true))⟩, pan 95 93 94, mv 91 95] [2, 3, 4, 10, 12, 13, 14, 15, 16, 17, 67, 68, 69, 91])
(.cond (.t 91)
(.seq
(.region (some [0, 1, 0, 4, 0, 28, 60, 124, 0, 511, 1023, 2047, 2047, 4095, 12287, 32767]) [
fa 97 5 10, ld 98 5 97, fa 99 10 2, ln 100 99, mv 101 16, ia 102 3 100 101, fa 103 1 102, ld 104 2 103, ld 105 2 13, p3 106 124 98 104 105, mv 96 106,
ex 107 0 96, ex 108 1 96, fa 109 5 10, st 5 109 107, mv 15 108] [2, 3, 4, 10, 15, 16, 67, 68, 69])
(.region (some [0, 1, 0, 4, 0, 28, 60, 124, 255, 511, 1023]) [
fa 110 10 10, ln 111 110, fa 112 10 2, ln 113 112, mv 114 16, ia 115 3 113 114, ld 116 3 115,
⟨some 117, .mkrow 3 1 z5 [(0, (.t 116))], none⟩, ap 118 3 111 117, fa 119 10 10,
st 1 119 118] [2, 3, 4, 10, 15, 67, 68, 69]))
(.seq
(.region none [
mv 121 14, mv 120 121] [2, 3, 4, 10, 12, 13, 15, 16, 17, 67, 68, 69, 120])
(.cond (.t 120)
(.seq
(.region none [
⟨some 18, .alloc z5, none⟩] [2, 3, 4, 10, 12, 13, 18, 67, 68, 69])
(.seq
(.region none [
fa 122 0 12, ln 123 122, fa 124 0 18, st 1 124 123] [2, 3, 4, 10, 12, 13, 18, 67, 68, 69])
(.seq
(.region none [
fa 126 5 10, ld 127 5 126, ld 128 2 13, fa 129 0 12, ln 130 129, p3 131 125 127 128 130, mv 125 131, ex 132 0 125, ex 133 1 125, ex 134 2 125, fa 135 5 10,
st 5 135 132, fa 136 1 18, st 2 136 133, mv 15 134] [2, 3, 4, 10, 15, 18, 67, 68, 69])
(.region none [
fa 137 10 10, ln 138 137, ld 139 3 18, ⟨some 140, .mkrow 3 1 z5 [(0, (.t 139))], none⟩, ap 141 3 138 140, fa 142 10 10,
st 1 142 141] [2, 3, 4, 10, 15, 67, 68, 69]))))
(.seq
(.region none [
mv 144 17, mv 143 144] [2, 3, 4, 10, 15, 16, 67, 68, 69, 143])
(.cond (.t 143)
(.region (some [0, 1, 0, 4, 0, 28, 60, 124, 255, 511, 1023, 1023, 1023, 2047, 10239, 32767]) [
fa 146 5 10, ld 147 5 146, fa 148 10 2, ln 149 148, mv 150 16, ia 151 3 149 150, fa 152 1 151, ld 153 2 152, p2 154 126 147 153, mv 145 154, ex 155 0 145,
ex 156 1 145, ex 157 2 145, fa 158 5 10, st 5 158 155, mv 15 157] [2, 3, 4, 10, 15, 67, 68, 69])
.skip)))))))
(.seq
(.region none [
mv 159 15, bc 160 .neq 159 0] [2, 3, 4, 10, 15, 67, 68, 69, 160])
(.cond (.t 160)
(.seq
(.region none [
⟨some 161, .build z1 [], none⟩,
mv 162 15, st 11 4 161, mv 5 162] [4, 5])
.ret)
.skip)))))))
(.region none [
bc 163 .add 69 1, mv 69 163] [2, 3, 4, 10, 67, 68, 69])))))))
(.seq
(.region none [
ld 164 11 10, st 11 4 164, ic 5 0] [4, 5])
.ret)))))))),
[.cell 4 (some 11), .tmp 5]⟩
theorem x90_ok : ck x90 90 := by decide +kernel
/-- peloton/kheap.renew$1 -/
def x91 : XFunc := ⟨2,
(.seq
(.region none [
bx 2 0, ⟨some 3, .mov (.c (.bool false)), none⟩] [1, 2])
(.seq
(.region none [
fa 4 1 2, ld 5 2 4, ld 6 2 1, ⟨some 7, .eqc 2 false (.t 5) (.t 6), none⟩, mv 3 7] [3])
.ret)),
[.tmp 3]⟩
theorem x91_ok : ck x91 91 := by decide +kernel
/-- peloton/clock.Certify -/
def x92 : XFunc := ⟨2,
(.seq
(.region none [
bx 2 0, bx 3 1,
⟨some 4, .alloc z1, none⟩,
ic 5 0, ic 6 0] [2, 3, 4])
(.seq
(.region none [
⟨some 7, .mov (.c (.clo 127 [] [])), none⟩] [2, 3, 4, 7])
(.seq
(.seq
(.region none [
ld 18 11 2, p1 19 50 18, mv 8 19] [2, 3, 4, 7, 8])
(.seq
(.region none [
mv 20 8, bc 21 .neq 20 0] [2, 3, 4, 7, 8, 21])
(.cond (.t 21)
(.seq
(.region none [
mv 22 7, mv 23 8, ⟨some 24, .callv (.t 22) [(.t 23)], none⟩, ex 25 0 24, ex 26 1 24, ex 27 2 24, st 11 4 25, mv 5 26, mv 6 27] [4, 5, 6])
.ret)
.skip)))
(.seq
(.region none [
fa 29 3 2, ld 30 2 29, ld 31 2 3, p2 32 128 30 31, mv 28 32, ex 33 0 28, ex 34 1 28, ex 35 2 28, ⟨some 9, .alloc z7, none⟩, st 2 9 33,
mv 10 34, mv 11 35] [2, 3, 4, 7, 9, 10, 11])
(.seq
(.seq
(.region none [
mv 36 11, bc 37 .eql 36 8] [2, 3, 4, 7, 9, 10, 11, 37])
(.cond (.t 37)
(.seq
(.region none [
mv 38 7, mv 39 11, ⟨some 40, .callv (.t 38) [(.t 39)], none⟩, ex 41 0 40, ex 42 1 40, ex 43 2 40, st 11 4 41, mv 5 42, mv 6 43] [4, 5, 6])
.ret)
.skip))
(.seq
(.seq
(.region none [
fa 44 2 2, ld 45 1 44, fa 46 0 3, ln 47 46, p2 48 115 45 47, ⟨some 49, .fld none 0 (.t 48), none⟩, bc 50 .lss 49 0, mv 51 50,
⟨some 52, .fadr 2 (.t 2), (some (51, false))⟩, ⟨some 53, .load (some 1) (.t 52), (some (51, false))⟩, ⟨some 54, .fadr 1 (.t 3), (some (51, false))⟩,
⟨some 55, .load none (.t 54), (some (51, false))⟩, ⟨some 56, .call .pur 115 [(.t 53), (.t 55)], (some (51, false))⟩,
⟨some 57, .fld none 0 (.t 56), (some (51, false))⟩, ⟨some 58, .bin .lss (.t 57) (.c (.int .i64 0)), (some (51, false))⟩,
por 59 51 58] [2, 3, 4, 7, 9, 10, 11, 59])
(.cond (.t 59)
(.seq
(.region none [
mv 60 7, ⟨some 61, .callv (.t 60) [(.c (.int .i64 6))], none⟩, ex 62 0 61, ex 63 1 61, ex 64 2 61, st 11 4 62, mv 5 63, mv 6 64] [4, 5, 6])
.ret)
.skip))
(.seq
(.seq
(.region none [
mv 65 11, bc 66 .neq 65 0] [2, 3, 4, 7, 9, 10, 11, 66])
(.cond (.t 66)
(.seq
(.region none [
mv 67 7, mv 68 11, ⟨some 69, .callv (.t 67) [(.t 68)], none⟩, ex 70 0 69, ex 71 1 69, ex 72 2 69, st 11 4 70, mv 5 71, mv 6 72] [4, 5, 6])
.ret)
.skip))
(.seq
(.region none [
ld 73 11 2, ⟨some 74, .call .own 122 [(.t 73)], none⟩,
⟨some 12, .alloc z1, none⟩,
st 11 12 74] [2, 3, 4, 7, 9, 10, 12])
(.seq
(.region none [
ld 75 2 9, fa 76 3 12, st 2 76 75] [2, 3, 4, 7, 10, 12])
(.seq
(.region none [
fa 78 2 2, ld 79 1 78, ld 80 2 3, fa 81 0 2, ld 82 2 81, p3 83 80 79 80 82, mv 77 83, ex 84 0 77, ex 85 1 77, ex 86 2 77,
⟨some 13, .alloc z8, none⟩, st 2 13 84, mv 14 85, mv 11 86] [2, 4, 7, 10, 11, 12, 13, 14])
(.seq
(.seq
(.region none [
mv 87 11, bc 88 .neq 87 0] [2, 4, 7, 10, 11, 12, 13, 14, 88])
(.cond (.t 88)
(.seq
(.region none [
mv 89 7, mv 90 11, ⟨some 91, .callv (.t 89) [(.t 90)], none⟩, ex 92 0 91, ex 93 1 91, ex 94 2 91, st 11 4 92, mv 5 93, mv 6 94] [4, 5, 6])
.ret)
.skip))
(.seq
(.seq
(.region none [
mv 95 14] [2, 4, 7, 10, 12, 13, 95])
(.cond (.t 95)
(.seq
(.region none [
fa 97 5 2, ld 98 5 97, ld 99 2 13, mv 100 10, p3 101 125 98 99 100, mv 96 101, ex 102 0 96, ex 103 1 96, ex 104 2 96,
⟨some 15, .alloc z2, none⟩, ⟨some 16, .alloc z8, none⟩,
st 5 15 102, st 2 16 103, mv 17 104] [4, 7, 10, 12, 15, 16, 17])
(.seq
(.seq
(.region none [
mv 105 17, bc 106 .neq 105 0] [4, 7, 10, 12, 15, 16, 17, 106])
(.cond (.t 106)
(.seq
(.region none [
mv 107 7, mv 108 17, ⟨some 109, .callv (.t 107) [(.t 108)], none⟩, ex 110 0 109, ex 111 1 109, ex 112 2 109, st 11 4 110, mv 5 111, mv 6 112] [4, 5, 6])
.ret)
.skip))
(.region (some [0, 0, 2, 0, 0, 24, 56, 126, 7, 511, 1023, 2047]) [
ld 113 5 15, fa 114 10 12, ln 115 114, mv 116 10, ld 117 2 16,
⟨some 118, .build z5 [(0, 1, (.t 116)), (1, 2, (.t 117))], none⟩,
⟨some 119, .mkrow 3 1 z5 [(0, (.t 118))], none⟩, ap 120 3 115 119, fa 121 5 12, st 5 121 113, fa 122 10 12,
st 1 122 120] [4, 10, 12])))
.skip))
(.seq
(.region none [
ld 123 11 12, mv 124 10, st 11 4 123, mv 5 124, ic 6 0] [4, 5, 6])
.ret))))))))))))),
[.cell 4 (some 11), .tmp 5, .tmp 6]⟩
theorem x92_ok : ck x92 92 := by decide +kernel
/-- cmp.isNaN[int] -/
def x98 : XFunc := ⟨1,
(.seq
(.region none [
⟨some 2, .mov (.c (.bool false)), none⟩] [0])
(.seq
(.region none [
mv 3 0, mv 4 0, bt 5 .neq 3 4, mv 2 5] [2])
.ret)),
[.tmp 2]⟩
theorem x98_ok : ck x98 98 := by decide +kernel
/-- slices.rotateLeft[peloton/api.Point] -/
def x99 : XFunc := ⟨2,
(.seq
(.region none [
mv 4 0, mv 5 1, ⟨some 6, .slc 3 (.t 4) none (some (.t 5)) none, none⟩, ⟨some 7, .call .fp 129 [(.t 6)], none⟩] [0, 1])
(.seq
(.region none [
mv 8 0, mv 9 1, ⟨some 10, .slc 3 (.t 8) (some (.t 9)) none none, none⟩, ⟨some 11, .call .fp 129 [(.t 10)], none⟩] [0])
(.region none [
mv 12 0, ⟨some 13, .call .fp 129 [(.t 12)], none⟩] []))),
[]⟩
theorem x99_ok : ck x99 99 := by decide +kernel
/-- peloton/pelotonref11.grow -/
def x100 : XFunc := ⟨5,
(.seq
(.region none [
bx 5 0, bx 6 1, bx 7 2, ic 10 0] [3, 4, 5, 6, 7])
(.seq
(.region none [
ld 12 1 5, ld 13 2 6, mv 14 3, mv 15 4, p4 16 130 12 13 14 15, mv 11 16] [3, 4, 5, 6, 7, 11])
(.seq
(.seq
(.region none [
mv 17 11, bc 18 .geq 17 0] [3, 4, 5, 6, 7, 11, 18])
(.cond (.t 18)
(.seq
(.region (some [0, 1, 0, 0, 0, 0, 0, 0, 248, 511, 1023, 2047]) [
fa 19 1 7, ln 20 19, mv 21 11, ld 22 1 5, ld 23 2 6, ld 24 2 7, mv 25 3, mv 26 11, ⟨some 27, .call .fp 100 [(.t 22), (.t 23), (.t 24), (.t 25), (.t 26)], none⟩,
ia 28 3 20 21, fa 29 1 28, st 1 29 27] [4, 5, 6, 7, 11])
(.region (some [0, 1, 0, 0, 0, 0, 0, 64, 0, 504, 1023, 2047, 4095]) [
fa 30 1 7, ln 31 30, mv 32 11, ld 33 1 5, ld 34 2 6, ld 35 2 7, mv 36 11, bc 37 .add 36 1, mv 38 4,
⟨some 39, .call .fp 100 [(.t 33), (.t 34), (.t 35), (.t 37), (.t 38)], none⟩, ia 40 3 31 32, fa 41 2 40, st 1 41 39] [11]))
.skip))
(.seq
(.region none [
mv 42 11, mv 10 42] [10])
.ret)))),
[.tmp 10]⟩
theorem x100_ok : ck x100 100 := by decide +kernel
/-- peloton/pelotonref08.Without -/
def x101 : XFunc := ⟨2,
(.seq
(.region none [
bx 2 0, ⟨some 4, .alloc z7, none⟩] [1, 2, 4])
(.seq
(.region none [
fa 7 0 2, ln 8 7, ⟨some 9, .build z7 [(0, 1, (.t 8))], none⟩, ⟨some 5, .alloc z7, none⟩,
st 2 5 9] [1, 2, 4, 5])
(.seq
(.seq
(.region none [
ic 6 0] [1, 2, 4, 5, 6])
(.block 0
(.loop [(1, none), (2, none), (4, none), (5, none), (6, none), (5, some 2003)]
(.seq
(.seq
(.region none [
mv 10 6, fa 11 1 2, ln 12 11, le 13 12, bt 14 .lss 10 13] [1, 2, 4, 5, 6, 14])
(.cond (.t 14)
.skip
(.exit 0)))
(.seq
(.block 1
(.seq
(.region none [
fa 17 1 2, ln 18 17, mv 19 6, ia 20 3 18 19, fa 21 0 20, ln 22 21, mv 23 1, bt 24 .neq 22 23] [1, 2, 4, 5, 6, 24])
(.cond (.t 24)
(.region (some [0, 1, 0, 4, 0, 28, 60, 124, 255, 511, 1023]) [
fa 25 1 5, ln 26 25, fa 27 1 2, ln 28 27, mv 29 6, ia 30 3 28 29, ld 31 3 30,
⟨some 32, .mkrow 3 1 z5 [(0, (.t 31))], none⟩, ap 33 3 26 32, fa 34 1 5, st 1 34 33] [1, 2, 4, 5, 6])
.skip)))
(.region none [
mv 15 6, bc 16 .add 15 1, mv 6 16] [1, 2, 4, 5, 6]))))))
(.seq
(.region none [
ld 35 2 5, st 2 4 35] [4])
.ret)))),
[.cell 4 (some 2)]⟩
theorem x101_ok : ck x101 101 := by decide +kernel
/-- peloton/pelotonref09.DueAt -/
def x102 : XFunc := ⟨2,
(.seq
(.region none [
bx 2 0, ic 4 0] [1, 2])
(.seq
(.seq
(.region none [
ic 5 0] [1, 2, 5])
(.block 0
(.loop [(1, none), (2, none), (5, none)]
(.seq
(.seq
(.region none [
mv 6 5, fa 7 10 2, ln 8 7, le 9 8, bt 10 .lss 6 9] [1, 2, 5, 10])
(.cond (.t 10)
.skip
(.exit 0)))
(.seq
(.block 1
(.seq
(.region none [
fa 13 10 2, ln 14 13, mv 15 5, ia 16 3 14 15, fa 17 0 16, ln 18 17, mv 19 1, bt 20 .eql 18 19] [1, 2, 5, 20])
(.cond (.t 20)
(.seq
(.region none [
mv 21 5, mv 4 21] [4])
.ret)
.skip)))
(.region none [
mv 11 5, bc 12 .add 11 1, mv 5 12] [1, 2, 5]))))))
(.seq
(.region none [
ic 4 (-1)] [4])
.ret))),
[.tmp 4]⟩
theorem x102_ok : ck x102 102 := by decide +kernel
/-- peloton/pelotonref07.Removed -/
def x103 : XFunc := ⟨2,
(.seq
(.region none [
bx 2 0, bx 3 1, ⟨some 4, .alloc z2, none⟩] [2, 3, 4])
(.seq
(.region none [
ld 8 5 2, ⟨some 9, .call .own 49 [(.t 8)], none⟩, ⟨some 5, .alloc z2, none⟩,
st 5 5 9] [3, 4, 5])
(.seq
(.region (some [0, 1, 0, 4, 15, 31, 0, 64, 192, 448, 63, 2047]) [
fa 10 4 5, ln 11 10, fa 12 0 3, ln 13 12, ia 14 1 11 13, ln 15 14, fa 16 3 5, ln 17 16, le 18 17, bc 19 .sub 18 1, mv 6 15, mv 7 19] [3, 4, 5, 6, 7])
(.seq
(.seq
(.region none [
mv 20 6, mv 21 7, bt 22 .neq 20 21] [3, 4, 5, 6, 7, 22])
(.cond (.t 22)
(.region none [
ld 23 5 5, mv 24 6, mv 25 7, ⟨some 26, .call .fp 131 [(.t 23), (.t 24), (.t 25)], none⟩] [3, 4, 5, 6, 7])
.skip))
(.seq
(.region none [
fa 27 3 5, ln 28 27, mv 29 7, ⟨some 30, .slc 5 (.t 28) none (some (.t 29)) none, none⟩, fa 31 3 5, st 1 31 30] [3, 4, 5, 6, 7])
(.seq
(.region none [
fa 32 4 5, ln 33 32, fa 34 0 3, ln 35 34, ia 36 1 33 35, ⟨none, .store 1 (.t 36) (.c (.int .i64 (-1))), none⟩] [3, 4, 5, 6, 7])
(.seq
(.region none [
fa 37 0 5, ld 38 3 37, ld 39 2 3, p2 40 132 38 39, fa 41 0 5, st 3 41 40] [4, 5, 6, 7])
(.seq
(.seq
(.region none [
mv 42 6, mv 43 7, bt 44 .neq 42 43] [4, 5, 6, 44])
(.cond (.t 44)
(.region (some [0, 0, 0, 6, 15]) [
ld 45 5 5, ld 46 5 5, mv 47 6, ⟨some 48, .call .fp 134 [(.t 46), (.t 47)], none⟩, ⟨some 49, .call .fp 133 [(.t 45), (.t 48)], none⟩] [4, 5])
.skip))
(.seq
(.region none [
ld 50 5 5, st 5 4 50] [4])
.ret))))))))),
[.cell 4 (some 5)]⟩
theorem x103_ok : ck x103 103 := by decide +kernel
/-- peloton/pelotonref09.When -/
def x104 : XFunc := ⟨3,
(.seq
(.region none [
bx 3 0, bx 4 1, bx 5 2, ⟨some 6, .alloc z8, none⟩, ⟨some 7, .mov (.c (.bool false)), none⟩] [3, 4, 5, 6])
(.seq
(.region (some [0, 1, 0, 0, 8, 28, 63, 127, 0, 256, 0, 0, 2048, 7228, 16188, 32572, 0, 131071, 262143, 262143, 1048575, 2097151]) [
fa 8 0 3, ln 9 8, ld 10 1 3, fa 11 1 4, ln 12 11, p2 13 136 10 12, ia 14 3 9 13, ld 15 3 14, fa 16 0 3, ln 17 16, ld 18 1 3, fa 19 0 4, ln 20 19,
p2 21 136 18 20, ia 22 3 17 21, ld 23 3 22, ld 24 2 5, p3 25 135 15 23 24, ex 26 0 25, ex 27 1 25, st 2 6 26, mv 7 27] [6, 7])
.ret)),
[.cell 6 (some 2), .tmp 7]⟩
theorem x104_ok : ck x104 104 := by decide +kernel
/-- peloton/pelotonref07.Rekeyed -/
def x105 : XFunc := ⟨3,
(.seq
(.region none [
bx 3 0, bx 4 1, bx 5 2, ⟨some 6, .alloc z2, none⟩] [3, 4, 5, 6])
(.seq
(.region none [
ld 9 5 3, ⟨some 10, .call .own 49 [(.t 9)], none⟩, ⟨some 7, .alloc z2, none⟩,
st 5 7 10] [4, 5, 6, 7])
(.seq
(.region none [
fa 11 4 7, ln 12 11, fa 13 0 4, ln 14 13, ia 15 1 12 14, ln 16 15, mv 8 16] [5, 6, 7, 8])
(.seq
(.region none [
fa 17 3 7, ln 18 17, mv 19 8, ld 20 2 5, ia 21 5 18 19, fa 22 0 21, st 2 22 20] [6, 7, 8])
(.seq
(.region (some [0, 0, 0, 6, 15]) [
ld 23 5 7, ld 24 5 7, mv 25 8, ⟨some 26, .call .fp 134 [(.t 24), (.t 25)], none⟩, ⟨some 27, .call .fp 133 [(.t 23), (.t 26)], none⟩] [6, 7])
(.seq
(.region none [
ld 28 5 7, st 5 6 28] [6])
.ret)))))),
[.cell 6 (some 5)]⟩
theorem x105_ok : ck x105 105 := by decide +kernel
/-- peloton/pelotonref06.Open -/
def x106 : XFunc := ⟨1,
(.seq
(.region none [
bx 1 0, ⟨some 2, .mov (.c (.bool false)), none⟩] [1])
(.seq
(.region none [
fa 4 2 1, ln 5 4, le 6 5, mv 3 6] [1, 3])
(.seq
(.region (some [0, 1, 3, 7, 15, 7, 39, 7, 135, 487, 999, 2047, 4095, 8191, 16383, 32767]) [
mv 7 3, bc 8 .gtr 7 0, mv 9 8, ⟨some 10, .fadr 0 (.t 1), (some (9, true))⟩, ⟨some 11, .load none (.t 10), (some (9, true))⟩,
⟨some 12, .fadr 2 (.t 1), (some (9, true))⟩, ⟨some 13, .load none (.t 12), (some (9, true))⟩, ⟨some 14, .mov (.t 3), (some (9, true))⟩,
⟨some 15, .bin .sub (.t 14) (.c (.int .i64 1)), (some (9, true))⟩, ⟨some 16, .iadr 1 (.t 13) (.t 15), (some (9, true))⟩,
⟨some 17, .load none (.t 16), (some (9, true))⟩, ⟨some 18, .iadr 1 (.t 11) (.t 17), (some (9, true))⟩, ⟨some 19, .load none (.t 18), (some (9, true))⟩,
⟨some 20, .bin .lss (.t 19) (.c (.int .i64 1000000)), (some (9, true))⟩, pan 21 9 20, mv 2 21] [2])
.ret))),
[.tmp 2]⟩
theorem x106_ok : ck x106 106 := by decide +kernel
/-- peloton/pelotonref07.Pushed -/
def x107 : XFunc := ⟨3,
(.seq
(.region none [
bx 3 0, bx 4 1, ⟨some 6, .alloc z2, none⟩,
⟨some 7, .alloc z8, none⟩] [2, 3, 4, 6, 7])
(.seq
(.region none [
ld 11 5 3, ⟨some 12, .call .own 49 [(.t 11)], none⟩, ⟨some 8, .alloc z2, none⟩,
st 5 8 12] [2, 4, 6, 7, 8])
(.seq
(.region none [
fa 14 0 8, ld 15 3 14, p1 16 137 15, mv 13 16, ex 17 0 13, ex 18 1 13, ⟨some 9, .alloc z4, none⟩,
⟨some 10, .alloc z8, none⟩, st 3 9 17, st 2 10 18] [2, 4, 6, 7, 8, 9, 10])
(.seq
(.region none [
ld 19 3 9, fa 20 0 8, st 3 20 19] [2, 4, 6, 7, 8, 10])
(.seq
(.region none [
fa 21 3 8, ln 22 21, ld 23 2 4, mv 24 2, ld 25 2 10,
⟨some 26, .build z3 [(0, 2, (.t 23)), (2, 1, (.t 24)), (3, 2, (.t 25))], none⟩,
⟨some 27, .mkrow 5 1 z3 [(0, (.t 26))], none⟩, ap 28 5 22 27, fa 29 3 8,
st 1 29 28] [6, 7, 8, 10])
(.seq
(.region none [
fa 30 4 8, ln 31 30, fa 32 0 10, ln 33 32, fa 34 3 8, ln 35 34, le 36 35, bc 37 .sub 36 1, ia 38 1 31 33, st 1 38 37] [6, 7, 8, 10])
(.seq
(.region none [
ld 39 5 8, fa 40 3 8, ln 41 40, le 42 41, bc 43 .sub 42 1, ⟨some 44, .call .fp 134 [(.t 39), (.t 43)], none⟩] [6, 7, 8, 10])
(.seq
(.region (some [0, 0, 1, 7]) [
ld 45 5 8, ld 46 2 10, st 5 6 45, st 2 7 46] [6, 7])
.ret)))))))),
[.cell 6 (some 5), .cell 7 (some 2)]⟩
theorem x107_ok : ck x107 107 := by decide +kernel
/-- peloton/pelotonref08.Add -/
def x108 : XFunc := ⟨2,
(.seq
(.region none [
bx 2 0, bx 3 1, ⟨some 4, .alloc z7, none⟩, ic 5 0, ic 6 0] [2, 3, 4])
(.seq
(.seq
(.region none [
ld 8 2 2, p1 9 138 8, bc 10 .neq 9 0, mv 11 10, ⟨some 12, .load (some 2) (.t 3), (some (11, false))⟩, ⟨some 13, .call .pur 139 [(.t 12)], (some (11, false))⟩,
⟨some 14, .un .not (.t 13), (some (11, false))⟩, por 15 11 14] [2, 3, 4, 15])
(.cond (.t 15)
(.seq
(.region none [
⟨some 16, .build z7 [], none⟩, st 2 4 16, ic 5 0, ic 6 8] [4, 5, 6])
.ret)
.skip))
(.seq
(.seq
(.region none [
ld 17 2 2, ld 18 2 3, p2 19 73 17 18] [2, 3, 4, 19])
(.cond (.t 19)
(.seq
(.region none [
⟨some 20, .build z7 [], none⟩, st 2 4 20, ic 5 0, ic 6 14] [4, 5, 6])
.ret)
.skip))
(.seq
(.seq
(.region none [
fa 21 1 2, ln 22 21, le 23 22, bc 24 .eql 23 200, mv 25 24, ⟨some 26, .fadr 0 (.t 2), (some (25, false))⟩, ⟨some 27, .load none (.t 26), (some (25, false))⟩,
⟨some 28, .bin .eql (.t 27) (.c (.int .i64 1000000)), (some (25, false))⟩, por 29 25 28] [2, 3, 4, 29])
(.cond (.t 29)
(.seq
(.region none [
⟨some 30, .build z7 [], none⟩, st 2 4 30, ic 5 0, ic 6 18] [4, 5, 6])
.ret)
.skip))
(.seq
(.region none [
ld 31 2 2, ⟨some 32, .call .own 48 [(.t 31)], none⟩, ⟨some 7, .alloc z7, none⟩, st 2 7 32] [2, 3, 4, 7])
(.seq
(.region none [
fa 33 1 7, ln 34 33, fa 35 0 2, ln 36 35, ld 37 2 3, ⟨some 38, .build z5 [(0, 1, (.t 36)), (1, 2, (.t 37))], none⟩,
⟨some 39, .mkrow 3 1 z5 [(0, (.t 38))], none⟩, ap 40 3 34 39, fa 41 1 7, st 1 41 40] [2, 4, 7])
(.seq
(.region none [
fa 42 0 7, ln 43 42, bc 44 .add 43 1, fa 45 0 7, st 1 45 44] [2, 4, 7])
(.seq
(.region (some [0, 0, 2, 1, 15, 31]) [
ld 46 2 7, fa 47 0 2, ln 48 47, st 2 4 46, mv 5 48, ic 6 0] [4, 5, 6])
.ret)))))))),
[.cell 4 (some 2), .tmp 5, .tmp 6]⟩
theorem x108_ok : ck x108 108 := by decide +kernel
/-- peloton/ratio.gcd -/
def x109 : XFunc := ⟨2,
(.seq
(.region none [
⟨some 4, .mov (.c (.int .u64 0)), none⟩] [0, 1])
(.seq
(.block 0
(.loop [(0, none), (1, none)]
(.seq
(.seq
(.region none [
mv 5 1, ⟨some 6, .bin .gtr (.t 5) (.c (.int .u64 0)), none⟩] [0, 1, 6])
(.cond (.t 6)
.skip
(.exit 0)))
(.block 1
(.region (some [0, 0, 0, 6, 3, 31]) [
mv 7 1, mv 8 0, mv 9 1, bt 10 .rem 8 9, mv 0 7, mv 1 10] [0, 1])))))
(.seq
(.region none [
mv 11 0, mv 4 11] [4])
.ret))),
[.tmp 4]⟩
theorem x109_ok : ck x109 109 := by decide +kernel
/-- peloton/ratio.abs -/
def x110 : XFunc := ⟨1,
(.seq
(.region none [
⟨some 2, .mov (.c (.int .u64 0)), none⟩] [0])
(.seq
(.seq
(.region none [
mv 3 0, bc 4 .lss 3 0] [0, 4])
(.cond (.t 4)
(.seq
(.region none [
mv 5 0, ⟨some 6, .conv .u64 (.t 5), none⟩, ⟨some 7, .un .neg (.t 6), none⟩, mv 2 7] [2])
.ret)
.skip))
(.seq
(.region none [
mv 8 0, ⟨some 9, .conv .u64 (.t 8), none⟩, mv 2 9] [2])
.ret))),
[.tmp 2]⟩
theorem x110_ok : ck x110 110 := by decide +kernel
/-- peloton/cert.valid -/
def x111 : XFunc := ⟨1,
(.seq
(.region none [
bx 1 0, ⟨some 2, .mov (.c (.bool false)), none⟩] [1])
(.seq
(.region none [
fa 3 0 1, ln 4 3, fa 5 1 1, ln 6 5, ⟨some 7, .mm false (.t 4) [(.t 6)], none⟩, bc 8 .geq 7 0, mv 9 8, ⟨some 10, .fadr 0 (.t 1), (some (9, true))⟩,
⟨some 11, .load none (.t 10), (some (9, true))⟩, ⟨some 12, .fadr 1 (.t 1), (some (9, true))⟩, ⟨some 13, .load none (.t 12), (some (9, true))⟩,
⟨some 14, .mm true (.t 11) [(.t 13)], (some (9, true))⟩, ⟨some 15, .bin .leq (.t 14) (.c (.int .i64 65535)), (some (9, true))⟩, pan 16 9 15, mv 17 16,
⟨some 18, .fadr 0 (.t 1), (some (17, true))⟩, ⟨some 19, .load none (.t 18), (some (17, true))⟩, ⟨some 20, .fadr 1 (.t 1), (some (17, true))⟩,
⟨some 21, .load none (.t 20), (some (17, true))⟩, ⟨some 22, .bin .neq (.t 19) (.t 21), (some (17, true))⟩, pan 23 17 22, mv 2 23] [2])
.ret)),
[.tmp 2]⟩
theorem x111_ok : ck x111 111 := by decide +kernel
/-- peloton/slot.Check -/
def x112 : XFunc := ⟨1,
(.seq
(.region none [
bx 1 0, ic 2 0] [1])
(.seq
(.region none [
fa 8 0 1, ln 9 8, le 10 9, ⟨some 3, .alloc [.int .i64 0], none⟩, st 1 3 10] [1, 3])
(.seq
(.seq
(.region none [
ln 11 3, bc 12 .lss 11 1, mv 13 12, ⟨some 14, .load none (.t 3), (some (13, false))⟩, ⟨some 15, .bin .gtr (.t 14) (.c (.int .i64 200)), (some (13, false))⟩,
por 16 13 15, mv 17 16, ⟨some 18, .fadr 1 (.t 1), (some (17, false))⟩, ⟨some 19, .load none (.t 18), (some (17, false))⟩,
⟨some 20, .len (.t 19), (some (17, false))⟩, ⟨some 21, .load none (.t 3), (some (17, false))⟩, ⟨some 22, .bin .neq (.t 20) (.t 21), (some (17, false))⟩,
por 23 17 22] [1, 3, 23])
(.cond (.t 23)
(.seq
(.region none [
ic 2 8] [2])
.ret)
.skip))
(.seq
(.region none [
fa 24 1 1, ln 25 24, p1 26 97 25, ⟨some 4, .alloc [.sl 1 true []], none⟩, st 1 4 26] [1, 3, 4])
(.seq
(.region none [
fa 27 2 1, ln 28 27, ⟨some 29, .mkf 141 [] [(.t 3), (.t 4)], none⟩, ⟨some 30, .call .shr 140 [(.t 28), (.t 29)], none⟩, mv 5 30] [1, 4, 5])
(.seq
(.seq
(.region none [
mv 31 5, mv 32 31, ⟨some 33, .load none (.t 4), (some (32, false))⟩, ⟨some 34, .call .pur 142 [(.t 33), (.c (.bool false))], (some (32, false))⟩,
por 35 32 34] [1, 35])
(.cond (.t 35)
(.seq
(.region none [
ic 2 8] [2])
.ret)
.skip))
(.seq
(.seq
(.region none [
fa 36 0 1, ln 37 36, le 38 37, ic 39 0] [1, 37, 38, 39])
(.block 0
(.loop [(1, none), (37, none), (38, none), (39, none)]
(.seq
(.region none [
bt 40 .lss 39 38] [1, 37, 38, 39, 40])
(.seq
(.cond (.t 40)
.skip
(.exit 0))
(.seq
(.block 1
(.seq
(.region none [
mv 41 39, ia 42 1 37 39, ln 43 42, mv 6 41, mv 7 43] [1, 6, 7, 37, 38, 39])
(.seq
(.region none [
mv 44 7, bc 45 .lss 44 0, mv 46 45, ⟨some 47, .mov (.t 7), (some (46, false))⟩, ⟨some 48, .bin .gtr (.t 47) (.c (.int .i64 1000000)), (some (46, false))⟩,
por 49 46 48, mv 50 49, ⟨some 51, .mov (.t 7), (some (50, false))⟩, ⟨some 52, .bin .eql (.t 51) (.c (.int .i64 0)), (some (50, false))⟩,
⟨some 53, .mov (.t 52), (some (50, false))⟩, ⟨some 54, .fadr 1 (.t 1), (some (53, true))⟩, ⟨some 55, .load none (.t 54), (some (53, true))⟩,
⟨some 56, .mov (.t 6), (some (53, true))⟩, ⟨some 57, .iadr 1 (.t 55) (.t 56), (some (53, true))⟩, ⟨some 58, .load none (.t 57), (some (53, true))⟩,
⟨some 59, .pick (.t 53) (.t 58) (.c (.bool false)), (some (50, false))⟩, por 60 50 59] [1, 37, 38, 39, 60])
(.cond (.t 60)
(.seq
(.region none [
ic 2 8] [2])
.ret)
.skip))))
(.region none [
bc 61 .add 39 1, mv 39 61] [1, 37, 38, 39])))))))
(.seq
(.region none [
ic 2 0] [2])
.ret)))))))),
[.tmp 2]⟩
theorem x112_ok : ck x112 112 := by decide +kernel
/-- peloton/agenda.compare -/
def x113 : XFunc := ⟨2,
(.seq
(.region none [
bx 2 0, bx 3 1, ic 4 0] [2, 3])
(.seq
(.region none [
fa 8 0 2, ld 9 2 8, fa 10 0 3, ld 11 2 10, p2 12 143 9 11, mv 7 12, ex 13 0 7, ex 14 1 7, mv 5 13, mv 6 14] [2, 3, 5])
(.seq
(.region none [
mv 15 5, fa 16 2 2, ln 17 16, fa 18 2 3, ln 19 18, p2 20 66 17 19, ⟨some 21, .mkrow 1 2 [.int .i64 0] [(0, (.t 15)), (1, (.t 20))], none⟩, p1 22 119 21,
mv 4 22] [4])
.ret))),
[.tmp 4]⟩
theorem x113_ok : ck x113 113 := by decide +kernel
/-- peloton/course.Fails -/
def x114 : XFunc := ⟨3,
(.seq
(.region none [
bx 3 0, bx 4 1, bx 5 2, ⟨some 6, .alloc z8, none⟩, ⟨some 7, .mov (.c (.bool false)), none⟩, ic 8 0] [3, 4, 5, 6])
(.seq
(.seq
(.region none [
ld 12 3 3, ld 13 3 4, ld 14 2 5, p3 15 85 12 13 14, mv 9 15] [3, 4, 5, 6, 9])
(.seq
(.region none [
mv 16 9, bc 17 .neq 16 0] [3, 4, 5, 6, 9, 17])
(.cond (.t 17)
(.seq
(.region none [
⟨some 18, .build z8 [], none⟩, mv 19 9, st 2 6 18, ⟨some 7, .mov (.c (.bool false)), none⟩, mv 8 19] [6, 7, 8])
.ret)
.skip)))
(.seq
(.seq
(.region none [
ld 20 3 4, ld 21 3 3, ld 22 2 5, p3 23 86 20 21 22, bc 24 .gtr 23 0] [3, 4, 5, 6, 24])
(.cond (.t 24)
(.seq
(.region none [
ld 25 2 5, st 2 6 25, ⟨some 7, .mov (.c (.bool true)), none⟩, ic 8 0] [6, 7, 8])
.ret)
.skip))
(.seq
(.seq
(.region none [
fa 26 2 4, ln 27 26, fa 28 2 3, ln 29 28, bt 30 .leq 27 29] [3, 4, 6, 30])
(.cond (.t 30)
(.seq
(.region none [
⟨some 31, .build z8 [], none⟩, st 2 6 31, ⟨some 7, .mov (.c (.bool false)), none⟩, ic 8 0] [6, 7, 8])
.ret)
.skip))
(.seq
(.region none [
ld 33 3 3, ld 34 3 4, p2 35 144 33 34, mv 32 35, ex 36 0 32, ex 37 1 32, ⟨some 10, .alloc z8, none⟩, st 2 10 36, mv 11 37] [6, 10, 11])
(.seq
(.region none [
ld 38 2 10, mv 39 11, bc 40 .eql 39 0, mv 41 11, st 2 6 38, mv 7 40, mv 8 41] [6, 7, 8])
.ret)))))),
[.cell 6 (some 2), .tmp 7, .tmp 8]⟩
theorem x114_ok : ck x114 114 := by decide +kernel
/-- peloton/clock.point -/
def x115 : XFunc := ⟨2,
(.seq
(.region none [
bx 2 0, ⟨some 4, .alloc z5, none⟩] [1, 2, 4])
(.seq
(.region none [
fa 8 0 2, ln 9 8, mv 10 1, ⟨some 11, .call .pur 64 [(.t 9), (.t 10), (.c (.clo 145 [] []))], none⟩, mv 7 11, ex 12 0 7, ex 13 1 7, mv 5 12,
mv 6 13] [2, 4, 5, 6])
(.seq
(.seq
(.region none [
mv 14 6, ⟨some 15, .un .not (.t 14), none⟩] [2, 4, 5, 15])
(.cond (.t 15)
(.seq
(.region none [
⟨some 16, .build z5 [(0, 1, (.c (.int .i64 (-1))))], none⟩, st 3 4 16] [4])
.ret)
.skip))
(.seq
(.region none [
fa 17 0 2, ln 18 17, mv 19 5, ia 20 3 18 19, ld 21 3 20, st 3 4 21] [4])
.ret)))),
[.cell 4 (some 3)]⟩
theorem x115_ok : ck x115 115 := by decide +kernel
/-- slices.IndexFunc[[]peloton/api.Held,peloton/api.Held] -/
def x116 : XFunc := ⟨2,
(.seq
(.region none [
ic 4 0] [0, 1])
(.seq
(.seq
(.region none [
mv 6 0, le 7 6, ic 8 0] [0, 1, 7, 8])
(.block 0
(.loop [(0, none), (1, none), (7, none), (8, none)]
(.seq
(.region none [
bt 9 .lss 8 7] [0, 1, 7, 8, 9])
(.seq
(.cond (.t 9)
.skip
(.exit 0))
(.seq
(.block 1
(.seq
(.region none [
mv 10 8, mv 5 10] [0, 1, 5, 7, 8])
(.seq
(.region none [
mv 11 1, mv 12 0, mv 13 5, ia 14 3 12 13, ld 15 3 14, ⟨some 16, .callv (.t 11) [(.t 15)], none⟩] [0, 1, 5, 7, 8, 16])
(.cond (.t 16)
(.seq
(.region none [
mv 17 5, mv 4 17] [4])
.ret)
.skip))))
(.region none [
bc 18 .add 8 1, mv 8 18] [0, 1, 7, 8])))))))
(.seq
(.region none [
ic 4 (-1)] [4])
.ret))),
[.tmp 4]⟩
theorem x116_ok : ck x116 116 := by decide +kernel
/-- peloton/pelotonref06.SameBools -/
def x117 : XFunc := ⟨2,
(.seq
(.region none [
⟨some 4, .mov (.c (.bool false)), none⟩] [0, 1])
(.seq
(.seq
(.region none [
mv 6 0, le 7 6, mv 8 1, le 9 8, bt 10 .neq 7 9] [0, 1, 10])
(.cond (.t 10)
(.seq
(.region none [
⟨some 4, .mov (.c (.bool false)), none⟩] [4])
.ret)
.skip))
(.seq
(.seq
(.region none [
ic 5 0] [0, 1, 5])
(.block 0
(.loop [(0, none), (1, none), (5, none)]
(.seq
(.seq
(.region none [
mv 11 5, mv 12 0, le 13 12, bt 14 .lss 11 13] [0, 1, 5, 14])
(.cond (.t 14)
.skip
(.exit 0)))
(.seq
(.block 1
(.seq
(.region (some [0, 0, 3, 7, 0, 0, 48, 112, 255]) [
mv 17 0, mv 18 5, ia 19 1 17 18, ln 20 19, mv 21 1, mv 22 5, ia 23 1 21 22, ln 24 23, ⟨some 25, .binb true (.t 20) (.t 24), none⟩] [0, 1, 5, 25])
(.cond (.t 25)
(.seq
(.region none [
⟨some 4, .mov (.c (.bool false)), none⟩] [4])
.ret)
.skip)))
(.region none [
mv 15 5, bc 16 .add 15 1, mv 5 16] [0, 1, 5]))))))
(.seq
(.region none [
⟨some 4, .mov (.c (.bool true)), none⟩] [4])
.ret)))),
[.tmp 4]⟩
theorem x117_ok : ck x117 117 := by decide +kernel
/-- peloton/course.sum -/
def x118 : XFunc := ⟨1,
(.seq
(.region none [
bx 1 0, ⟨some 2, .alloc z9, none⟩] [1, 2])
(.seq
(.region none [
⟨some 3, .alloc z9, none⟩] [1, 2, 3])
(.seq
(.seq
(.region none [
ld 11 4 1, ic 12 0] [2, 3, 11, 12])
(.block 0
(.loop [(2, none), (3, none), (11, none), (12, none)]
(.seq
(.region none [
bc 13 .lss 12 2] [2, 3, 11, 12, 13])
(.seq
(.cond (.t 13)
.skip
(.exit 0))
(.seq
(.block 1
(.seq
(.region none [
⟨some 14, .idx 2 2 (some 2) (.t 11) (.t 12), none⟩, ⟨some 5, .alloc z8, none⟩, st 2 5 14] [2, 3, 5, 11, 12])
(.seq
(.region none [
⟨some 16, .iadra 2 1 (.t 5) (.c (.int .i64 0)), none⟩, ln 17 16, ⟨some 18, .conv .u64 (.t 17), none⟩, ⟨some 19, .iadra 2 1 (.t 5) (.c (.int .i64 1)), none⟩,
ln 20 19, ⟨some 21, .conv .u64 (.t 20), none⟩, p2 22 146 18 21, mv 15 22, ex 23 0 15, ex 24 1 15, mv 6 23, mv 7 24] [2, 3, 5, 6, 7, 11, 12])
(.seq
(.region none [
mv 25 6, ⟨some 26, .conv .i64 (.t 25), none⟩, mv 8 26] [2, 3, 5, 7, 8, 11, 12])
(.seq
(.seq
(.region none [
⟨some 27, .iadra 2 1 (.t 5) (.c (.int .i64 0)), none⟩, ln 28 27, bc 29 .lss 28 0] [2, 3, 5, 7, 8, 11, 12, 29])
(.cond (.t 29)
(.region none [
mv 30 8, ⟨some 31, .iadra 2 1 (.t 5) (.c (.int .i64 1)), none⟩, ln 32 31, bt 33 .sub 30 32, mv 8 33] [2, 3, 5, 7, 8, 11, 12])
.skip))
(.seq
(.seq
(.region none [
⟨some 34, .iadra 2 1 (.t 5) (.c (.int .i64 1)), none⟩, ln 35 34, bc 36 .lss 35 0] [2, 3, 5, 7, 8, 11, 12, 36])
(.cond (.t 36)
(.region none [
mv 37 8, ⟨some 38, .iadra 2 1 (.t 5) (.c (.int .i64 0)), none⟩, ln 39 38, bt 40 .sub 37 39, mv 8 40] [2, 3, 7, 8, 11, 12])
.skip))
(.seq
(.region none [
fa 42 1 3, ln 43 42, mv 44 7, ⟨some 45, .call .pur 147 [(.t 43), (.t 44), (.c (.int .u64 0))], none⟩, mv 41 45, ex 46 0 41, ex 47 1 41, mv 9 46,
mv 10 47] [2, 3, 8, 9, 10, 11, 12])
(.region none [
fa 48 0 3, ln 49 48, mv 50 8, bt 51 .add 49 50, mv 52 10, ⟨some 53, .conv .i64 (.t 52), none⟩, bt 54 .add 51 53, mv 55 9,
⟨some 56, .build z9 [(0, 1, (.t 54)), (1, 1, (.t 55))], none⟩, st 2 3 56] [2, 3, 11, 12]))))))))
(.region none [
bc 57 .add 12 1, mv 12 57] [2, 3, 11, 12])))))))
(.seq
(.region none [
ld 58 2 3, st 2 2 58] [2])
.ret)))),
[.cell 2 (some 2)]⟩
theorem x118_ok : ck x118 118 := by decide +kernel
/-- cmp.Or[int] -/
def x119 : XFunc := ⟨1,
(.seq
(.region none [
ic 2 0] [0])
(.seq
(.region none [
ic 3 0] [0, 3])
(.seq
(.seq
(.region none [
mv 6 0, le 7 6, ic 8 0] [3, 6, 7, 8])
(.block 0
(.loop [(3, none), (6, none), (7, none), (8, none)]
(.seq
(.region none [
bt 9 .lss 8 7] [3, 6, 7, 8, 9])
(.seq
(.cond (.t 9)
.skip
(.exit 0))
(.seq
(.block 1
(.seq
(.region none [
ia 10 1 6 8, ln 11 10, mv 5 11] [3, 5, 6, 7, 8])
(.seq
(.region none [
mv 12 5, mv 13 3, bt 14 .neq 12 13] [3, 5, 6, 7, 8, 14])
(.cond (.t 14)
(.seq
(.region none [
mv 15 5, mv 2 15] [2])
.ret)
.skip))))
(.region none [
bc 16 .add 8 1, mv 8 16] [3, 6, 7, 8])))))))
(.seq
(.region none [
mv 17 3, mv 2 17] [2])
.ret)))),
[.tmp 2]⟩
theorem x119_ok : ck x119 119 := by decide +kernel
/-- cmp.Compare[int64] -/
def x120 : XFunc := ⟨2,
(.seq
(.region none [
ic 4 0] [0, 1])
(.seq
(.region none [
mv 7 0, p1 8 148 7, mv 5 8] [0, 1, 5])
(.seq
(.region none [
mv 9 1, p1 10 148 9, mv 6 10] [0, 1, 5, 6])
(.seq
(.seq
(.region none [
mv 11 5] [0, 1, 6, 11])
(.cond (.t 11)
(.seq
(.seq
(.region none [
mv 12 6] [12])
(.cond (.t 12)
(.seq
(.region none [
ic 4 0] [4])
.ret)
.skip))
(.seq
(.region none [
ic 4 (-1)] [4])
.ret))
.skip))
(.seq
(.seq
(.region none [
mv 13 6] [0, 1, 13])
(.cond (.t 13)
(.seq
(.region none [
ic 4 1] [4])
.ret)
.skip))
(.seq
(.seq
(.region none [
mv 14 0, mv 15 1, bt 16 .lss 14 15] [0, 1, 16])
(.cond (.t 16)
(.seq
(.region none [
ic 4 (-1)] [4])
.ret)
.skip))
(.seq
(.seq
(.region none [
mv 17 0, mv 18 1, bt 19 .gtr 17 18] [19])
(.cond (.t 19)
(.seq
(.region none [
ic 4 1] [4])
.ret)
.skip))
(.seq
(.region none [
ic 4 0] [4])
.ret)))))))),
[.tmp 4]⟩
theorem x120_ok : ck x120 120 := by decide +kernel
/-- peloton/clock.drop -/
def x121 : XFunc := ⟨2,
(.seq
(.region none [
bx 2 0,
⟨some 4, .alloc z1, none⟩,
⟨some 5, .alloc z8, none⟩, ic 6 0] [1, 2, 4, 5])
(.seq
(.region none [
fa 17 3 2, ld 18 2 17, mv 19 1, p2 20 149 18 19, mv 16 20, ex 21 0 16, ex 22 1 16, ex 23 2 16, ⟨some 7, .alloc z7, none⟩,
⟨some 8, .alloc z8, none⟩, st 2 7 21, st 2 8 22, mv 9 23] [1, 2, 4, 5, 7, 8, 9])
(.seq
(.seq
(.region none [
mv 24 9, bc 25 .neq 24 0] [1, 2, 4, 5, 7, 8, 9, 25])
(.cond (.t 25)
(.seq
(.region (some [0, 0, 0, 1, 11, 31]) [
⟨some 26, .build z1 [], none⟩,
ld 27 2 8, mv 28 9, st 11 4 26, st 2 5 27, mv 6 28] [4, 5, 6])
.ret)
.skip))
(.seq
(.region none [
ld 29 11 2, ⟨some 30, .call .own 122 [(.t 29)], none⟩,
⟨some 10, .alloc z1, none⟩,
st 11 10 30] [1, 2, 4, 5, 7, 8, 10])
(.seq
(.region none [
ld 31 2 7, fa 32 3 10, st 2 32 31] [1, 2, 4, 5, 8, 10])
(.seq
(.seq
(.region none [
fa 34 10 2, ln 35 34, mv 36 1, p2 37 123 35 36, mv 33 37, ex 38 0 33, ex 39 1 33, mv 11 38, mv 12 39] [2, 4, 5, 8, 10, 11, 12])
(.seq
(.region none [
mv 40 12] [2, 4, 5, 8, 10, 11, 40])
(.cond (.t 40)
(.seq
(.region (some [0, 1, 0, 4, 0, 28, 60, 124, 255, 511, 1023, 1023, 1023, 0, 0, 26623, 61439, 131071]) [
fa 42 5 2, ld 43 5 42, fa 44 10 2, ln 45 44, mv 46 11, ia 47 3 45 46, fa 48 1 47, ld 49 2 48, p2 50 126 43 49, mv 41 50, ex 51 0 41, ex 52 1 41, ex 53 2 41,
⟨some 13, .alloc z2, none⟩,
⟨some 14, .alloc z3, none⟩, st 5 13 51, st 5 14 52, mv 15 53] [4, 5, 8, 10, 11, 13, 15])
(.seq
(.seq
(.region none [
mv 54 15, bc 55 .neq 54 0] [4, 5, 8, 10, 11, 13, 15, 55])
(.cond (.t 55)
(.seq
(.region (some [0, 0, 0, 1, 11, 31]) [
⟨some 56, .build z1 [], none⟩,
ld 57 2 8, mv 58 15, st 11 4 56, st 2 5 57, mv 6 58] [4, 5, 6])
.ret)
.skip))
(.region (some [0, 0, 2, 0, 0, 16, 62, 7, 255, 511, 1023]) [
ld 59 5 13, fa 60 10 10, ln 61 60, mv 62 11, mv 63 11, bc 64 .add 63 1, ⟨some 65, .call .fp 150 [(.t 61), (.t 62), (.t 64)], none⟩, fa 66 5 10, st 5 66 59,
fa 67 10 10, st 1 67 65] [4, 5, 8, 10])))
.skip)))
(.seq
(.region (some [0, 0, 1, 7, 15]) [
ld 68 11 10, ld 69 2 8, st 11 4 68, st 2 5 69, ic 6 0] [4, 5, 6])
.ret))))))),
[.cell 4 (some 11), .cell 5 (some 2), .tmp 6]⟩
theorem x121_ok : ck x121 121 := by decide +kernel
/-- peloton/clock.twin -/
def x122 : XFunc := ⟨1,
(.seq
(.region none [
bx 1 0,
⟨some 2, .alloc z1, none⟩] [1, 2])
(.seq
(.region (some [0, 1, 3, 7, 0, 16, 48, 127, 0, 256, 1023, 2047, 4095, 8191, 16383, 32767, 65535, 131071, 262143]) [
fa 4 2 1, fa 5 0 4, ln 6 5, p1 7 37 6, fa 8 3 1, fa 9 1 8, ln 10 9, p1 11 93 10, fa 12 10 1, ln 13 12, p1 14 94 13, fa 15 2 1, fa 16 0 15, st 1 16 7, fa 17 3 1,
fa 18 1 17, st 1 18 11, fa 19 10 1, st 1 19 14] [1, 2])
(.seq
(.region (some [0, 1, 3, 7, 0, 16, 48, 127, 255, 511, 1023, 2047, 4095, 8191]) [
fa 20 5 1, fa 21 3 20, ln 22 21, p1 23 95 22, fa 24 5 1, fa 25 4 24, ln 26 25, p1 27 96 26, fa 28 5 1, fa 29 3 28, st 1 29 23, fa 30 5 1, fa 31 4 30,
st 1 31 27] [1, 2])
(.seq
(.region none [
fa 32 5 1, fa 33 0 32, mv 3 33] [1, 2, 3])
(.seq
(.region (some [0, 0, 0, 0, 8, 24, 56, 120, 0, 256, 768, 1792, 4088, 0, 8192, 24576, 57344, 131064, 262137, 524281, 1048569, 2097147, 4194299, 8388603, 16777215, 33554431, 67108863]) [
mv 34 3, mv 35 3, mv 36 3, mv 37 3, ⟨some 38, .nilc (.t 37), none⟩, fa 39 0 38, ln 40 39, p1 41 96 40, mv 42 3, ⟨some 43, .nilc (.t 42), none⟩, fa 44 1 43,
ln 45 44, p1 46 97 45, mv 47 3, ⟨some 48, .nilc (.t 47), none⟩, fa 49 2 48, ln 50 49, p1 51 96 50, ⟨some 52, .nilc (.t 34), none⟩, fa 53 0 52, st 1 53 41,
⟨some 54, .nilc (.t 35), none⟩, fa 55 1 54, st 1 55 46, ⟨some 56, .nilc (.t 36), none⟩, fa 57 2 56, st 1 57 51] [1, 2])
(.seq
(.region none [
ld 58 11 1, st 11 2 58] [2])
.ret)))))),
[.cell 2 (some 11)]⟩
theorem x122_ok : ck x122 122 := by decide +kernel
/-- peloton/clock.place -/
def x123 : XFunc := ⟨2,
(.seq
(.region none [
ic 4 0, ⟨some 5, .mov (.c (.bool false)), none⟩] [0, 1])
(.seq
(.region none [
mv 6 0, mv 7 1, ⟨some 8, .call .pur 151 [(.t 6), (.t 7), (.c (.clo 152 [] []))], none⟩, ex 9 0 8, ex 10 1 8, mv 4 9, mv 5 10] [4, 5])
.ret)),
[.tmp 4, .tmp 5]⟩
theorem x123_ok : ck x123 123 := by decide +kernel
/-- peloton/agenda.Rekey -/
def x124 : XFunc := ⟨3,
(.seq
(.region none [
bx 3 0, bx 4 1, bx 5 2, ⟨some 6, .alloc z2, none⟩, ic 7 0] [3, 4, 5, 6])
(.seq
(.seq
(.region (some [0, 1, 0, 7, 15, 31]) [
ld 13 5 3, p1 14 79 13, ld 15 2 5, p1 16 77 15, ⟨some 17, .mm true (.t 14) [(.t 16)], none⟩, mv 8 17] [3, 4, 5, 6, 8])
(.seq
(.region none [
mv 18 8, bc 19 .neq 18 0] [3, 4, 5, 6, 8, 19])
(.cond (.t 19)
(.seq
(.region none [
⟨some 20, .build z2 [], none⟩, mv 21 8, st 5 6 20, mv 7 21] [6, 7])
.ret)
.skip)))
(.seq
(.region none [
ld 23 5 3, ld 24 2 4, p2 25 153 23 24, mv 22 25, ex 26 0 22, ex 27 1 22, mv 9 26, mv 10 27] [3, 5, 6, 9, 10])
(.seq
(.seq
(.region none [
mv 28 10, bc 29 .neq 28 0] [3, 5, 6, 9, 10, 29])
(.cond (.t 29)
(.seq
(.region none [
⟨some 30, .build z2 [], none⟩, mv 31 10, st 5 6 30, mv 7 31] [6, 7])
.ret)
.skip))
(.seq
(.region none [
ld 32 5 3, ⟨some 33, .call .shr 154 [(.t 32)], none⟩, ⟨some 11, .alloc z2, none⟩,
st 5 11 33] [5, 6, 9, 11])
(.seq
(.region none [
fa 34 3 11, ln 35 34, mv 36 9, ia 37 5 35 36, ld 38 5 37, ⟨some 12, .alloc z3, none⟩,
st 5 12 38] [5, 6, 9, 11, 12])
(.seq
(.region none [
ld 39 2 5, fa 40 0 12, st 2 40 39] [6, 9, 11, 12])
(.seq
(.region none [
ld 41 5 11, mv 42 9, ld 43 5 12, ⟨some 44, .call .fp 155 [(.t 41), (.t 42), (.t 43)], none⟩] [6, 11])
(.seq
(.region none [
ld 45 5 11, st 5 6 45, ic 7 0] [6, 7])
.ret))))))))),
[.cell 6 (some 5), .tmp 7]⟩
theorem x124_ok : ck x124 124 := by decide +kernel
/-- peloton/agenda.Push -/
def x125 : XFunc := ⟨3,
(.seq
(.region none [
bx 3 0, bx 4 1, bx 5 2, ⟨some 6, .alloc z2, none⟩,
⟨some 7, .alloc z8, none⟩, ic 8 0] [3, 4, 5, 6, 7])
(.seq
(.seq
(.region (some [0, 1, 0, 7, 15, 31]) [
ld 15 5 3, p1 16 79 15, ld 17 2 4, p1 18 77 17, ⟨some 19, .mm true (.t 16) [(.t 18)], none⟩, mv 9 19] [3, 4, 5, 6, 7, 9])
(.seq
(.region none [
mv 20 9, bc 21 .neq 20 0] [3, 4, 5, 6, 7, 9, 21])
(.cond (.t 21)
(.seq
(.region none [
⟨some 22, .build z2 [], none⟩, ⟨some 23, .build z8 [], none⟩,
mv 24 9, st 5 6 22, st 2 7 23, mv 8 24] [6, 7, 8])
.ret)
.skip)))
(.seq
(.seq
(.region none [
ln 25 5, bc 26 .lss 25 0, mv 27 26, ⟨some 28, .load none (.t 5), (some (27, false))⟩, ⟨some 29, .bin .gtr (.t 28) (.c (.int .i64 1000000)), (some (27, false))⟩,
por 30 27 29] [3, 4, 5, 6, 7, 30])
(.cond (.t 30)
(.seq
(.region none [
⟨some 31, .build z2 [], none⟩, ⟨some 32, .build z8 [], none⟩,
st 5 6 31, st 2 7 32, ic 8 2] [6, 7, 8])
.ret)
.skip))
(.seq
(.seq
(.region none [
fa 33 3 3, ln 34 33, ⟨some 35, .mkf 157 [] [(.t 5)], none⟩, p2 36 156 34 35] [3, 4, 5, 6, 7, 36])
(.cond (.t 36)
(.seq
(.region none [
⟨some 37, .build z2 [], none⟩, ⟨some 38, .build z8 [], none⟩,
st 5 6 37, st 2 7 38, ic 8 14] [6, 7, 8])
.ret)
.skip))
(.seq
(.region none [
fa 40 0 3, ld 41 3 40, p1 42 158 41, mv 39 42, ex 43 0 39, ex 44 1 39, ex 45 2 39, ⟨some 10, .alloc z4, none⟩,
⟨some 11, .alloc z8, none⟩, st 3 10 43, st 2 11 44, mv 12 45] [3, 4, 5, 6, 7, 10, 11, 12])
(.seq
(.seq
(.region none [
mv 46 12, bc 47 .neq 46 0] [3, 4, 5, 6, 7, 10, 11, 12, 47])
(.cond (.t 47)
(.seq
(.region none [
⟨some 48, .build z2 [], none⟩, ⟨some 49, .build z8 [], none⟩,
mv 50 12, st 5 6 48, st 2 7 49, mv 8 50] [6, 7, 8])
.ret)
.skip))
(.seq
(.region none [
ld 51 5 3, ⟨some 52, .call .shr 154 [(.t 51)], none⟩, ⟨some 13, .alloc z2, none⟩,
st 5 13 52] [4, 5, 6, 7, 10, 11, 13])
(.seq
(.region none [
ld 53 2 4, ln 54 5, ld 55 2 11,
⟨some 56, .build z3 [(0, 2, (.t 53)), (2, 1, (.t 54)), (3, 2, (.t 55))], none⟩,
⟨some 14, .alloc z3, none⟩, st 5 14 56] [6, 7, 10, 11, 13, 14])
(.seq
(.region (some [0, 0, 2, 0, 8, 30, 7, 127, 255, 511]) [
ld 57 3 10, fa 58 3 13, ln 59 58, ld 60 5 14, ⟨some 61, .mkrow 5 1 z3 [(0, (.t 60))], none⟩,
ap 62 5 59 61, fa 63 0 13, st 3 63 57, fa 64 3 13, st 1 64 62] [6, 7, 11, 13, 14])
(.seq
(.region none [
ld 65 5 13, fa 66 3 13, ln 67 66, le 68 67, bc 69 .sub 68 1, ld 70 5 14, ⟨some 71, .call .fp 155 [(.t 65), (.t 69), (.t 70)], none⟩] [6, 7, 11, 13])
(.seq
(.region (some [0, 0, 1, 7, 15]) [
ld 72 5 13, ld 73 2 11, st 5 6 72, st 2 7 73, ic 8 0] [6, 7, 8])
.ret))))))))))),
[.cell 6 (some 5), .cell 7 (some 2), .tmp 8]⟩
theorem x125_ok : ck x125 125 := by decide +kernel
/-- peloton/agenda.Remove -/
def x126 : XFunc := ⟨2,
(.seq
(.region none [
bx 2 0, bx 3 1, ⟨some 4, .alloc z2, none⟩,
⟨some 5, .alloc z3, none⟩, ic 6 0] [2, 3, 4, 5])
(.seq
(.region none [
ld 10 5 2, ld 11 2 3, p2 12 153 10 11, mv 9 12, ex 13 0 9, ex 14 1 9, mv 7 13, mv 8 14] [2, 4, 5, 7, 8])
(.seq
(.seq
(.region none [
mv 15 8, bc 16 .neq 15 0] [2, 4, 5, 7, 8, 16])
(.cond (.t 16)
(.seq
(.region none [
⟨some 17, .build z2 [], none⟩,
⟨some 18, .build z3 [], none⟩, mv 19 8, st 5 4 17, st 5 5 18, mv 6 19] [4, 5, 6])
.ret)
.skip))
(.seq
(.region none [
ld 20 5 2, mv 21 7, p2 22 159 20 21, ex 23 0 22, ex 24 1 22, ex 25 2 22, st 5 4 23, st 5 5 24, mv 6 25] [4, 5, 6])
.ret)))),
[.cell 4 (some 5), .cell 5 (some 5), .tmp 6]⟩
theorem x126_ok : ck x126 126 := by decide +kernel
/-- peloton/clock.Certify$1 -/
def x127 : XFunc := ⟨1,
(.seq
(.region none [
⟨some 2, .alloc z1, none⟩,
ic 3 0, ic 4 0] [0, 2])
(.seq
(.region none [
⟨some 5, .build z1 [], none⟩,
mv 6 0, st 11 2 5, ic 3 0, mv 4 6] [2, 3, 4])
.ret)),
[.cell 2 (some 11), .tmp 3, .tmp 4]⟩
theorem x127_ok : ck x127 127 := by decide +kernel
/-- peloton/cert.Add -/
def x128 : XFunc := ⟨2,
(.seq
(.region none [
bx 2 0, bx 3 1, ⟨some 4, .alloc z7, none⟩, ic 5 0, ic 6 0] [2, 3, 4])
(.seq
(.seq
(.region none [
ld 9 2 2, p1 10 78 9, mv 7 10] [2, 3, 4, 7])
(.seq
(.region none [
mv 11 7, bc 12 .neq 11 0] [2, 3, 4, 7, 12])
(.cond (.t 12)
(.seq
(.region none [
⟨some 13, .build z7 [], none⟩, mv 14 7, st 2 4 13, ic 5 0, mv 6 14] [4, 5, 6])
.ret)
.skip)))
(.seq
(.seq
(.region none [
ld 15 2 3, p1 16 111 15, ⟨some 17, .un .not (.t 16), none⟩] [2, 3, 4, 17])
(.cond (.t 17)
(.seq
(.region none [
⟨some 18, .build z7 [], none⟩, st 2 4 18, ic 5 0, ic 6 8] [4, 5, 6])
.ret)
.skip))
(.seq
(.seq
(.region none [
fa 19 1 2, ln 20 19, ⟨some 21, .mkf 160 [] [(.t 3)], none⟩, p2 22 82 20 21] [2, 3, 4, 22])
(.cond (.t 22)
(.seq
(.region none [
⟨some 23, .build z7 [], none⟩, st 2 4 23, ic 5 0, ic 6 14] [4, 5, 6])
.ret)
.skip))
(.seq
(.seq
(.region none [
fa 24 1 2, ln 25 24, le 26 25, bc 27 .eql 26 200, mv 28 27, ⟨some 29, .fadr 0 (.t 2), (some (28, false))⟩, ⟨some 30, .load none (.t 29), (some (28, false))⟩,
⟨some 31, .bin .eql (.t 30) (.c (.int .i64 1000000)), (some (28, false))⟩, por 32 28 31] [2, 3, 4, 32])
(.cond (.t 32)
(.seq
(.region none [
⟨some 33, .build z7 [], none⟩, st 2 4 33, ic 5 0, ic 6 18] [4, 5, 6])
.ret)
.skip))
(.seq
(.region (some [0, 1, 3, 0, 8, 0, 56, 120, 255, 511]) [
fa 34 1 2, ln 35 34, p1 36 93 35, fa 37 0 2, ln 38 37, ld 39 2 3,
⟨some 40, .build z5 [(0, 1, (.t 38)), (1, 2, (.t 39))], none⟩,
⟨some 41, .mkrow 3 1 z5 [(0, (.t 40))], none⟩, ap 42 3 36 41, mv 8 42] [2, 4, 8])
(.seq
(.region (some [0, 1, 3, 0, 15, 0, 32, 31, 255, 511]) [
fa 43 0 2, ln 44 43, bc 45 .add 44 1, mv 46 8, ⟨some 47, .build z7 [(0, 1, (.t 45)), (1, 1, (.t 46))], none⟩, fa 48 0 2, ln 49 48,
st 2 4 47, mv 5 49, ic 6 0] [4, 5, 6])
.ret))))))),
[.cell 4 (some 2), .tmp 5, .tmp 6]⟩
theorem x128_ok : ck x128 128 := by decide +kernel
/-- slices.Reverse[[]peloton/api.Point,peloton/api.Point] -/
def x129 : XFunc := ⟨1,
(.seq
(.region none [
mv 4 0, le 5 4, bc 6 .sub 5 1, ic 2 0, mv 3 6] [0, 2, 3])
(.block 0
(.loop [(0, none), (2, none), (3, none)]
(.seq
(.seq
(.region none [
mv 7 2, mv 8 3, bt 9 .lss 7 8] [0, 2, 3, 9])
(.cond (.t 9)
.skip
(.exit 0)))
(.seq
(.block 1
(.region (some [0, 0, 0, 0, 0, 0, 48, 112, 0, 0, 768, 1792, 4083, 8179, 16383, 32767]) [
mv 14 0, mv 15 2, mv 16 0, mv 17 3, mv 18 0, mv 19 3, ia 20 3 18 19, ld 21 3 20, mv 22 0, mv 23 2, ia 24 3 22 23, ld 25 3 24, ia 26 3 14 15, st 3 26 21,
ia 27 3 16 17, st 3 27 25] [0, 2, 3]))
(.region none [
mv 10 2, bc 11 .add 10 1, mv 12 3, bc 13 .sub 12 1, mv 2 11, mv 3 13] [0, 2, 3])))))),
[]⟩
theorem x129_ok : ck x129 129 := by decide +kernel
/-- peloton/pelotonref11.top -/
def x130 : XFunc := ⟨4,
(.seq
(.region none [
bx 4 0, bx 5 1, ic 8 0] [2, 3, 4, 5])
(.seq
(.region none [
ic 9 (-1)] [2, 3, 4, 5, 9])
(.seq
(.seq
(.region none [
mv 11 2, mv 10 11] [3, 4, 5, 9, 10])
(.block 0
(.loop [(3, none), (4, none), (5, none), (9, none), (10, none)]
(.seq
(.seq
(.region none [
mv 12 10, mv 13 3, bt 14 .lss 12 13] [3, 4, 5, 9, 10, 14])
(.cond (.t 14)
.skip
(.exit 0)))
(.seq
(.block 1
(.seq
(.region (some [0, 1, 3, 7, 15, 7, 63, 127, 7, 263, 7, 1799, 3847, 7, 16383, 32767]) [
mv 17 9, bc 18 .lss 17 0, mv 19 18, ⟨some 20, .fadr 0 (.t 4), (some (19, false))⟩, ⟨some 21, .load none (.t 20), (some (19, false))⟩,
⟨some 22, .mov (.t 10), (some (19, false))⟩, ⟨some 23, .iadr 3 (.t 21) (.t 22), (some (19, false))⟩, ⟨some 24, .load (some 3) (.t 23), (some (19, false))⟩,
⟨some 25, .fadr 0 (.t 4), (some (19, false))⟩, ⟨some 26, .load none (.t 25), (some (19, false))⟩, ⟨some 27, .mov (.t 9), (some (19, false))⟩,
⟨some 28, .iadr 3 (.t 26) (.t 27), (some (19, false))⟩, ⟨some 29, .load (some 3) (.t 28), (some (19, false))⟩,
⟨some 30, .load (some 2) (.t 5), (some (19, false))⟩, ⟨some 31, .call .pur 161 [(.t 24), (.t 29), (.t 30)], (some (19, false))⟩,
por 32 19 31] [3, 4, 5, 9, 10, 32])
(.cond (.t 32)
(.region none [
mv 33 10, mv 9 33] [3, 4, 5, 9, 10])
.skip)))
(.region none [
mv 15 10, bc 16 .add 15 1, mv 10 16] [3, 4, 5, 9, 10]))))))
(.seq
(.region none [
mv 34 9, mv 8 34] [8])
.ret)))),
[.tmp 8]⟩
theorem x130_ok : ck x130 130 := by decide +kernel
/-- peloton/pelotonref07.swap -/
def x131 : XFunc := ⟨3,
(.seq
(.region none [
bx 3 0] [1, 2, 3])
(.seq
(.region (some [0, 1, 0, 0, 8, 0, 0, 64, 0, 448, 960, 0, 2048, 0, 14336, 30720, 65479, 131015, 262143, 524287]) [
fa 6 3 3, ln 7 6, mv 8 1, fa 9 3 3, ln 10 9, mv 11 2, fa 12 3 3, ln 13 12, mv 14 2, ia 15 5 13 14, ld 16 5 15, fa 17 3 3, ln 18 17, mv 19 1, ia 20 5 18 19,
ld 21 5 20, ia 22 5 7 8, st 5 22 16, ia 23 5 10 11, st 5 23 21] [1, 2, 3])
(.region (some [0, 1, 0, 4, 0, 28, 60, 124, 252, 0, 512, 0, 2048, 0, 14336, 30720, 63488, 129024, 0, 0, 522751, 1571327, 4194303, 8388607]) [
fa 24 4 3, ln 25 24, fa 26 3 3, ln 27 26, mv 28 1, ia 29 5 27 28, fa 30 3 29, fa 31 0 30, ln 32 31, fa 33 4 3, ln 34 33, fa 35 3 3, ln 36 35, mv 37 2,
ia 38 5 36 37, fa 39 3 38, fa 40 0 39, ln 41 40, mv 42 1, mv 43 2, ia 44 1 25 32, st 1 44 42, ia 45 1 34 41, st 1 45 43] []))),
[]⟩
theorem x131_ok : ck x131 131 := by decide +kernel
/-- peloton/pelotonref06.Given -/
def x132 : XFunc := ⟨2,
(.seq
(.region none [
bx 2 0, bx 3 1, ⟨some 4, .alloc z4, none⟩] [2, 3, 4])
(.seq
(.region none [
ld 6 3 2, ⟨some 7, .call .own 76 [(.t 6)], none⟩, ⟨some 5, .alloc z4, none⟩, st 3 5 7] [3, 4, 5])
(.seq
(.region none [
fa 8 1 5, ln 9 8, fa 10 0 3, ln 11 10, ia 12 1 9 11, ⟨none, .store 1 (.t 12) (.c (.bool false)), none⟩] [3, 4, 5])
(.seq
(.region none [
fa 13 2 5, ln 14 13, fa 15 0 3, ln 16 15, ⟨some 17, .mkrow 1 1 [.int .i64 0] [(0, (.t 16))], none⟩, ap 18 1 14 17, fa 19 2 5, st 1 19 18] [4, 5])
(.seq
(.region none [
ld 20 3 5, st 3 4 20] [4])
.ret))))),
[.cell 4 (some 3)]⟩
theorem x132_ok : ck x132 132 := by decide +kernel
/-- peloton/pelotonref07.down -/
def x133 : XFunc := ⟨2,
(.seq
(.region none [
bx 2 0] [1, 2])
(.block 0
(.loop [(1, none), (2, none)]
(.block 1
(.seq
(.region none [
mv 5 1, ⟨some 6, .bin .mul (.c (.int .i64 2)) (.t 5), none⟩, bc 7 .add 6 1, mv 4 7] [1, 2, 4])
(.seq
(.seq
(.region none [
mv 8 4, fa 9 3 2, ln 10 9, le 11 10, bt 12 .geq 8 11] [1, 2, 4, 12])
(.cond (.t 12)
.ret
.skip))
(.seq
(.seq
(.region (some [0, 1, 0, 4, 12, 31, 63, 127, 255, 127, 639, 2047, 4095, 127, 8319, 127, 57471, 123007, 262143, 524287]) [
mv 13 4, bc 14 .add 13 1, fa 15 3 2, ln 16 15, le 17 16, bt 18 .lss 14 17, mv 19 18, ⟨some 20, .fadr 3 (.t 2), (some (19, true))⟩,
⟨some 21, .load none (.t 20), (some (19, true))⟩, ⟨some 22, .mov (.t 4), (some (19, true))⟩, ⟨some 23, .bin .add (.t 22) (.c (.int .i64 1)), (some (19, true))⟩,
⟨some 24, .iadr 5 (.t 21) (.t 23), (some (19, true))⟩, ⟨some 25, .load (some 5) (.t 24), (some (19, true))⟩, ⟨some 26, .fadr 3 (.t 2), (some (19, true))⟩,
⟨some 27, .load none (.t 26), (some (19, true))⟩, ⟨some 28, .mov (.t 4), (some (19, true))⟩, ⟨some 29, .iadr 5 (.t 27) (.t 28), (some (19, true))⟩,
⟨some 30, .load (some 5) (.t 29), (some (19, true))⟩, ⟨some 31, .call .pur 162 [(.t 25), (.t 30)], (some (19, true))⟩, pan 32 19 31] [1, 2, 4, 32])
(.cond (.t 32)
(.region none [
mv 33 4, bc 34 .add 33 1, mv 4 34] [1, 2, 4])
.skip))
(.seq
(.seq
(.region (some [0, 1, 0, 7, 15, 0, 32, 0, 224, 480, 1023, 2047]) [
fa 35 3 2, ln 36 35, mv 37 4, ia 38 5 36 37, ld 39 5 38, fa 40 3 2, ln 41 40, mv 42 1, ia 43 5 41 42, ld 44 5 43, p2 45 162 39 44,
⟨some 46, .un .not (.t 45), none⟩] [1, 2, 4, 46])
(.cond (.t 46)
.ret
.skip))
(.seq
(.region none [
ld 47 5 2, mv 48 1, mv 49 4, ⟨some 50, .call .fp 131 [(.t 47), (.t 48), (.t 49)], none⟩] [2, 4])
(.region none [
mv 51 4, mv 1 51] [1, 2])))))))))),
[]⟩
theorem x133_ok : ck x133 133 := by decide +kernel
/-- peloton/pelotonref07.up -/
def x134 : XFunc := ⟨2,
(.seq
(.region none [
bx 2 0, ic 4 0] [1, 2])
(.seq
(.block 0
(.loop [(1, none), (2, none)]
(.seq
(.seq
(.region (some [0, 1, 3, 7, 15, 7, 63, 127, 7, 263, 7, 1031, 3079, 7943, 16135, 32767, 65535]) [
mv 5 1, bc 6 .gtr 5 0, mv 7 6, ⟨some 8, .fadr 3 (.t 2), (some (7, true))⟩, ⟨some 9, .load none (.t 8), (some (7, true))⟩,
⟨some 10, .mov (.t 1), (some (7, true))⟩, ⟨some 11, .iadr 5 (.t 9) (.t 10), (some (7, true))⟩, ⟨some 12, .load (some 5) (.t 11), (some (7, true))⟩,
⟨some 13, .fadr 3 (.t 2), (some (7, true))⟩, ⟨some 14, .load none (.t 13), (some (7, true))⟩, ⟨some 15, .mov (.t 1), (some (7, true))⟩,
⟨some 16, .bin .sub (.t 15) (.c (.int .i64 1)), (some (7, true))⟩, ⟨some 17, .bin .quo (.t 16) (.c (.int .i64 2)), (some (7, true))⟩,
⟨some 18, .iadr 5 (.t 14) (.t 17), (some (7, true))⟩, ⟨some 19, .load (some 5) (.t 18), (some (7, true))⟩,
⟨some 20, .call .pur 162 [(.t 12), (.t 19)], (some (7, true))⟩, pan 21 7 20] [1, 2, 21])
(.cond (.t 21)
.skip
(.exit 0)))
(.block 1
(.seq
(.region none [
ld 22 5 2, mv 23 1, mv 24 1, bc 25 .sub 24 1, bc 26 .quo 25 2, ⟨some 27, .call .fp 131 [(.t 22), (.t 23), (.t 26)], none⟩] [1, 2])
(.region none [
mv 28 1, bc 29 .sub 28 1, bc 30 .quo 29 2, mv 1 30] [1, 2]))))))
(.seq
(.region none [
mv 31 1, mv 4 31] [4])
.ret))),
[.tmp 4]⟩
theorem x134_ok : ck x134 134 := by decide +kernel
/-- peloton/pelotonref02.Failure -/
def x135 : XFunc := ⟨3,
(.seq
(.region none [
bx 3 0, bx 4 1, bx 5 2, ⟨some 6, .alloc z8, none⟩, ⟨some 7, .mov (.c (.bool false)), none⟩] [3, 4, 5, 6])
(.seq
(.seq
(.region none [
ld 8 3 4, ld 9 3 3, ld 10 2 5, p3 11 161 8 9 10] [3, 4, 5, 6, 11])
(.cond (.t 11)
(.seq
(.region none [
ld 12 2 5, st 2 6 12, ⟨some 7, .mov (.c (.bool true)), none⟩] [6, 7])
.ret)
.skip))
(.seq
(.seq
(.region none [
fa 13 2 4, ln 14 13, fa 15 2 3, ln 16 15, bt 17 .gtr 14 16] [3, 4, 6, 17])
(.cond (.t 17)
(.seq
(.region none [
ld 18 3 3, ld 19 3 4, p2 20 163 18 19, st 2 6 20, ⟨some 7, .mov (.c (.bool true)), none⟩] [6, 7])
.ret)
.skip))
(.seq
(.region none [
⟨some 21, .build z8 [], none⟩, st 2 6 21, ⟨some 7, .mov (.c (.bool false)), none⟩] [6, 7])
.ret)))),
[.cell 6 (some 2), .tmp 7]⟩
theorem x135_ok : ck x135 135 := by decide +kernel
/-- peloton/pelotonref03.At -/
def x136 : XFunc := ⟨2,
(.seq
(.region none [
bx 2 0, ic 4 0] [1, 2])
(.seq
(.seq
(.region none [
ic 5 0] [1, 2, 5])
(.block 0
(.loop [(1, none), (2, none), (5, none)]
(.seq
(.seq
(.region none [
mv 6 5, fa 7 0 2, ln 8 7, le 9 8, bt 10 .lss 6 9] [1, 2, 5, 10])
(.cond (.t 10)
.skip
(.exit 0)))
(.seq
(.block 1
(.seq
(.region none [
fa 13 0 2, ln 14 13, mv 15 5, ia 16 3 14 15, fa 17 0 16, ln 18 17, mv 19 1, bt 20 .eql 18 19] [1, 2, 5, 20])
(.cond (.t 20)
(.seq
(.region none [
mv 21 5, mv 4 21] [4])
.ret)
.skip)))
(.region none [
mv 11 5, bc 12 .add 11 1, mv 5 12] [1, 2, 5]))))))
(.seq
(.region none [
ic 4 (-1)] [4])
.ret))),
[.tmp 4]⟩
theorem x136_ok : ck x136 136 := by decide +kernel
/-- peloton/pelotonref06.Taken -/
def x137 : XFunc := ⟨1,
(.seq
(.region none [
bx 1 0, ⟨some 2, .alloc z4, none⟩, ⟨some 3, .alloc z8, none⟩] [1, 2, 3])
(.seq
(.region none [
ld 6 3 1, ⟨some 7, .call .own 76 [(.t 6)], none⟩, ⟨some 4, .alloc z4, none⟩, st 3 4 7] [2, 3, 4])
(.seq
(.region none [
fa 8 2 4, ln 9 8, fa 10 2 4, ln 11 10, le 12 11, bc 13 .sub 12 1, ia 14 1 9 13, ln 15 14, mv 5 15] [2, 3, 4, 5])
(.seq
(.region none [
fa 16 2 4, ln 17 16, fa 18 2 4, ln 19 18, le 20 19, bc 21 .sub 20 1, ⟨some 22, .slc 1 (.t 17) none (some (.t 21)) none, none⟩, fa 23 2 4,
st 1 23 22] [2, 3, 4, 5])
(.seq
(.region none [
fa 24 0 4, ln 25 24, mv 26 5, ia 27 1 25 26, ln 28 27, bc 29 .add 28 1, ia 30 1 25 26, st 1 30 29] [2, 3, 4, 5])
(.seq
(.region none [
fa 31 1 4, ln 32 31, mv 33 5, ia 34 1 32 33, ⟨none, .store 1 (.t 34) (.c (.bool true)), none⟩] [2, 3, 4, 5])
(.seq
(.region (some [0, 0, 0, 4, 0, 28, 60, 126, 1, 511]) [
ld 35 3 4, mv 36 5, fa 37 0 4, ln 38 37, mv 39 5, ia 40 1 38 39, ln 41 40,
⟨some 42, .build z8 [(0, 1, (.t 36)), (1, 1, (.t 41))], none⟩, st 3 2 35, st 2 3 42] [2, 3])
.ret))))))),
[.cell 2 (some 3), .cell 3 (some 2)]⟩
theorem x137_ok : ck x137 137 := by decide +kernel
/-- peloton/pelotonref08.Check -/
def x138 : XFunc := ⟨1,
(.seq
(.region none [
bx 1 0, ic 2 0] [1])
(.seq
(.seq
(.region none [
fa 6 1 1, ln 7 6, le 8 7, bc 9 .gtr 8 200, mv 10 9, ⟨some 11, .fadr 0 (.t 1), (some (10, false))⟩, ⟨some 12, .load none (.t 11), (some (10, false))⟩,
⟨some 13, .bin .lss (.t 12) (.c (.int .i64 0)), (some (10, false))⟩, por 14 10 13, mv 15 14, ⟨some 16, .fadr 0 (.t 1), (some (15, false))⟩,
⟨some 17, .load none (.t 16), (some (15, false))⟩, ⟨some 18, .bin .gtr (.t 17) (.c (.int .i64 1000000)), (some (15, false))⟩, por 19 15 18] [1, 19])
(.cond (.t 19)
(.seq
(.region none [
ic 2 8] [2])
.ret)
.skip))
(.seq
(.seq
(.region none [
ic 3 0] [1, 3])
(.block 0
(.loop [(1, none), (3, none)]
(.seq
(.seq
(.region none [
mv 20 3, fa 21 1 1, ln 22 21, le 23 22, bt 24 .lss 20 23] [1, 3, 24])
(.cond (.t 24)
.skip
(.exit 0)))
(.seq
(.block 1
(.seq
(.region none [
fa 27 1 1, ln 28 27, mv 29 3, ia 30 3 28 29, ld 31 3 30, ⟨some 4, .alloc z5, none⟩, st 3 4 31] [1, 3, 4])
(.seq
(.seq
(.region (some [0, 1, 3, 7, 15, 31, 63, 127, 255, 511, 1023, 2047, 1023, 5119, 16383, 32767, 65535, 131071, 262143, 524287, 1048575, 2097151, 1048575, 5242879, 16777215, 33554431, 67108863, 1048575, 135266303, 536870911, 1073741823, 2147483647]) [
fa 32 1 4, ld 33 2 32, p1 34 139 33, ⟨some 35, .un .not (.t 34), none⟩, mv 36 35, ⟨some 37, .fadr 0 (.t 4), (some (36, false))⟩,
⟨some 38, .load none (.t 37), (some (36, false))⟩, ⟨some 39, .bin .lss (.t 38) (.c (.int .i64 0)), (some (36, false))⟩, por 40 36 39, mv 41 40,
⟨some 42, .fadr 0 (.t 4), (some (41, false))⟩, ⟨some 43, .load none (.t 42), (some (41, false))⟩, ⟨some 44, .fadr 0 (.t 1), (some (41, false))⟩,
⟨some 45, .load none (.t 44), (some (41, false))⟩, ⟨some 46, .bin .geq (.t 43) (.t 45), (some (41, false))⟩, por 47 41 46, mv 48 47,
⟨some 49, .mov (.t 3), (some (48, false))⟩, ⟨some 50, .bin .gtr (.t 49) (.c (.int .i64 0)), (some (48, false))⟩, ⟨some 51, .mov (.t 50), (some (48, false))⟩,
⟨some 52, .fadr 1 (.t 1), (some (51, true))⟩, ⟨some 53, .load none (.t 52), (some (51, true))⟩, ⟨some 54, .mov (.t 3), (some (51, true))⟩,
⟨some 55, .bin .sub (.t 54) (.c (.int .i64 1)), (some (51, true))⟩, ⟨some 56, .iadr 3 (.t 53) (.t 55), (some (51, true))⟩,
⟨some 57, .fadr 0 (.t 56), (some (51, true))⟩, ⟨some 58, .load none (.t 57), (some (51, true))⟩, ⟨some 59, .fadr 0 (.t 4), (some (51, true))⟩,
⟨some 60, .load none (.t 59), (some (51, true))⟩, ⟨some 61, .bin .geq (.t 58) (.t 60), (some (51, true))⟩,
⟨some 62, .pick (.t 51) (.t 61) (.c (.bool false)), (some (48, false))⟩, por 63 48 62] [1, 3, 4, 63])
(.cond (.t 63)
(.seq
(.region none [
ic 2 8] [2])
.ret)
.skip))
(.seq
(.region none [
ic 5 0] [1, 3, 4, 5])
(.block 2
(.loop [(1, none), (3, none), (4, none), (5, none)]
(.seq
(.seq
(.region none [
mv 64 5, mv 65 3, bt 66 .lss 64 65] [1, 3, 4, 5, 66])
(.cond (.t 66)
.skip
(.exit 2)))
(.seq
(.block 3
(.seq
(.region (some [0, 1, 0, 7, 15, 31, 0, 64, 255]) [
fa 69 1 1, ln 70 69, mv 71 5, ia 72 3 70 71, fa 73 1 72, ld 74 2 73, fa 75 1 4, ld 76 2 75, ⟨some 77, .eqc 2 false (.t 74) (.t 76), none⟩] [1, 3, 4, 5, 77])
(.cond (.t 77)
(.seq
(.region none [
ic 2 8] [2])
.ret)
.skip)))
(.region none [
mv 67 5, bc 68 .add 67 1, mv 5 68] [1, 3, 4, 5])))))))))
(.region none [
mv 25 3, bc 26 .add 25 1, mv 3 26] [1, 3]))))))
(.seq
(.region none [
ic 2 0] [2])
.ret)))),
[.tmp 2]⟩
theorem x138_ok : ck x138 138 := by decide +kernel
/-- peloton/pelotonref08.Cert -/
def x139 : XFunc := ⟨1,
(.seq
(.region none [
bx 1 0, ⟨some 2, .mov (.c (.bool false)), none⟩] [1])
(.seq
(.region none [
fa 3 0 1, ln 4 3, bc 5 .geq 4 0, mv 6 5, ⟨some 7, .fadr 0 (.t 1), (some (6, true))⟩, ⟨some 8, .load none (.t 7), (some (6, true))⟩,
⟨some 9, .bin .leq (.t 8) (.c (.int .i64 65535)), (some (6, true))⟩, pan 10 6 9, mv 11 10, ⟨some 12, .fadr 1 (.t 1), (some (11, true))⟩,
⟨some 13, .load none (.t 12), (some (11, true))⟩, ⟨some 14, .bin .geq (.t 13) (.c (.int .i64 0)), (some (11, true))⟩, pan 15 11 14, mv 16 15,
⟨some 17, .fadr 1 (.t 1), (some (16, true))⟩, ⟨some 18, .load none (.t 17), (some (16, true))⟩,
⟨some 19, .bin .leq (.t 18) (.c (.int .i64 65535)), (some (16, true))⟩, pan 20 16 19, mv 21 20, ⟨some 22, .fadr 0 (.t 1), (some (21, true))⟩,
⟨some 23, .load none (.t 22), (some (21, true))⟩, ⟨some 24, .fadr 1 (.t 1), (some (21, true))⟩, ⟨some 25, .load none (.t 24), (some (21, true))⟩,
⟨some 26, .bin .neq (.t 23) (.t 25), (some (21, true))⟩, pan 27 21 26, mv 2 27] [2])
.ret)),
[.tmp 2]⟩
theorem x139_ok : ck x139 139 := by decide +kernel
/-- slices.ContainsFunc[[]int,int] -/
def x140 : XFunc := ⟨2,
(.seq
(.region none [
⟨some 4, .mov (.c (.bool false)), none⟩] [0, 1])
(.seq
(.region none [
mv 5 0, mv 6 1, ⟨some 7, .call .shr 164 [(.t 5), (.t 6)], none⟩, bc 8 .geq 7 0, mv 4 8] [4])
.ret)),
[.tmp 4]⟩
theorem x140_ok : ck x140 140 := by decide +kernel
/-- peloton/slot.Check$1 -/
def x141 : XFunc := ⟨3,
(.seq
(.region none [
⟨some 4, .mov (.c (.bool false)), none⟩] [0, 1, 2])
(.seq
(.seq
(.region none [
mv 5 0, bc 6 .lss 5 0, mv 7 6, ⟨some 8, .mov (.t 0), (some (7, false))⟩, ⟨some 9, .load none (.t 1), (some (7, false))⟩,
⟨some 10, .bin .geq (.t 8) (.t 9), (some (7, false))⟩, por 11 7 10, mv 12 11, ⟨some 13, .load none (.t 2), (some (12, false))⟩,
⟨some 14, .mov (.t 0), (some (12, false))⟩, ⟨some 15, .iadr 1 (.t 13) (.t 14), (some (12, false))⟩, ⟨some 16, .load none (.t 15), (some (12, false))⟩,
por 17 12 16] [0, 2, 17])
(.cond (.t 17)
(.seq
(.region none [
⟨some 4, .mov (.c (.bool true)), none⟩] [4])
.ret)
.skip))
(.seq
(.region none [
ln 18 2, mv 19 0, ia 20 1 18 19, ⟨none, .store 1 (.t 20) (.c (.bool true)), none⟩] [])
(.seq
(.region none [
⟨some 4, .mov (.c (.bool false)), none⟩] [4])
.ret)))),
[.tmp 4]⟩
theorem x141_ok : ck x141 141 := by decide +kernel
/-- slices.Contains[[]bool,bool] -/
def x142 : XFunc := ⟨2,
(.seq
(.region none [
⟨some 4, .mov (.c (.bool false)), none⟩] [0, 1])
(.seq
(.region none [
mv 5 0, mv 6 1, p2 7 165 5 6, bc 8 .geq 7 0, mv 4 8] [4])
.ret)),
[.tmp 4]⟩
theorem x142_ok : ck x142 142 := by decide +kernel
/-- peloton/ratio.Cmp -/
def x143 : XFunc := ⟨2,
(.seq
(.region none [
bx 2 0, bx 3 1, ic 4 0, ic 5 0] [2, 3])
(.seq
(.seq
(.region none [
ld 8 2 2, ld 9 2 3, p2 10 166 8 9, mv 6 10] [2, 3, 6])
(.seq
(.region none [
mv 11 6, bc 12 .neq 11 0] [2, 3, 6, 12])
(.cond (.t 12)
(.seq
(.region none [
mv 13 6, ic 4 0, mv 5 13] [4, 5])
.ret)
.skip)))
(.seq
(.seq
(.region none [
fa 14 0 2, ln 15 14, bc 16 .lss 15 0, fa 17 0 3, ln 18 17, bc 19 .lss 18 0, ⟨some 20, .binb true (.t 16) (.t 19), none⟩] [2, 3, 20])
(.cond (.t 20)
(.seq
(.region none [
fa 21 0 2, ln 22 21, fa 23 0 3, ln 24 23, p2 25 120 22 24, mv 4 25, ic 5 0] [4, 5])
.ret)
.skip))
(.seq
(.region (some [0, 1, 0, 4, 15, 0, 32, 0, 128, 511, 1023, 2047]) [
fa 26 0 2, ln 27 26, fa 28 1 3, ln 29 28, p2 30 168 27 29, fa 31 0 3, ln 32 31, fa 33 1 2, ln 34 33, p2 35 168 32 34, p2 36 167 30 35, mv 7 36] [2, 7])
(.seq
(.seq
(.region none [
fa 37 0 2, ln 38 37, bc 39 .lss 38 0] [7, 39])
(.cond (.t 39)
(.region none [
mv 40 7, ⟨some 41, .un .neg (.t 40), none⟩, mv 7 41] [7])
.skip))
(.seq
(.region none [
mv 42 7, mv 4 42, ic 5 0] [4, 5])
.ret)))))),
[.tmp 4, .tmp 5]⟩
theorem x143_ok : ck x143 143 := by decide +kernel
/-- peloton/course.Meet -/
def x144 : XFunc := ⟨2,
(.seq
(.region none [
bx 2 0, bx 3 1, ⟨some 4, .alloc z8, none⟩, ic 5 0] [2, 3, 4])
(.seq
(.seq
(.region none [
ld 7 3 2, ld 8 3 3, ⟨some 9, .build z8 [(1, 1, (.c (.int .i64 1)))], none⟩, p3 10 85 7 8 9, mv 6 10] [2, 3, 4, 6])
(.seq
(.region none [
mv 11 6, bc 12 .neq 11 0] [2, 3, 4, 6, 12])
(.cond (.t 12)
(.seq
(.region none [
⟨some 13, .build z8 [], none⟩, mv 14 6, st 2 4 13, mv 5 14] [4, 5])
.ret)
.skip)))
(.seq
(.seq
(.region none [
fa 15 2 2, ln 16 15, fa 17 2 3, ln 18 17, bt 19 .eql 16 18] [2, 3, 4, 19])
(.cond (.t 19)
(.seq
(.region none [
⟨some 20, .build z8 [], none⟩, st 2 4 20, ic 5 6] [4, 5])
.ret)
.skip))
(.seq
(.region none [
fa 21 1 2, ln 22 21, fa 23 1 3, ln 24 23, bt 25 .sub 22 24, fa 26 2 3, ln 27 26, fa 28 2 2, ln 29 28, bt 30 .sub 27 29, p2 31 169 25 30, ex 32 0 31, ex 33 1 31,
st 2 4 32, mv 5 33] [4, 5])
.ret)))),
[.cell 4 (some 2), .tmp 5]⟩
theorem x144_ok : ck x144 144 := by decide +kernel
/-- peloton/clock.point$1 -/
def x145 : XFunc := ⟨2,
(.seq
(.region none [
bx 2 0, ic 4 0] [1, 2])
(.seq
(.region none [
fa 5 0 2, ln 6 5, mv 7 1, p2 8 66 6 7, mv 4 8] [4])
.ret)),
[.tmp 4]⟩
theorem x145_ok : ck x145 145 := by decide +kernel
/-- math/bits.Mul64 -/
def x146 : XFunc := ⟨2,
(.seq
(.region none [
⟨some 4, .mov (.c (.int .u64 0)), none⟩, ⟨some 5, .mov (.c (.int .u64 0)), none⟩] [0, 1])
(.seq
(.region none [
mv 14 0, ⟨some 15, .bin .and (.t 14) (.c (.int .u64 4294967295)), none⟩, mv 6 15] [0, 1, 6])
(.seq
(.region none [
mv 16 0, ⟨some 17, .bin .shr (.t 16) (.c (.int .u64 32)), none⟩, mv 7 17] [0, 1, 6, 7])
(.seq
(.region none [
mv 18 1, ⟨some 19, .bin .and (.t 18) (.c (.int .u64 4294967295)), none⟩, mv 8 19] [0, 1, 6, 7, 8])
(.seq
(.region none [
mv 20 1, ⟨some 21, .bin .shr (.t 20) (.c (.int .u64 32)), none⟩, mv 9 21] [0, 1, 6, 7, 8, 9])
(.seq
(.region none [
mv 22 6, mv 23 8, bt 24 .mul 22 23, mv 10 24] [0, 1, 6, 7, 8, 9, 10])
(.seq
(.region none [
mv 25 7, mv 26 8, bt 27 .mul 25 26, mv 28 10, ⟨some 29, .bin .shr (.t 28) (.c (.int .u64 32)), none⟩, bt 30 .add 27 29, mv 11 30] [0, 1, 6, 7, 9, 11])
(.seq
(.region none [
mv 31 11, ⟨some 32, .bin .and (.t 31) (.c (.int .u64 4294967295)), none⟩, mv 12 32] [0, 1, 6, 7, 9, 11, 12])
(.seq
(.region none [
mv 33 11, ⟨some 34, .bin .shr (.t 33) (.c (.int .u64 32)), none⟩, mv 13 34] [0, 1, 6, 7, 9, 12, 13])
(.seq
(.region none [
mv 35 12, mv 36 6, mv 37 9, bt 38 .mul 36 37, bt 39 .add 35 38, mv 12 39] [0, 1, 7, 9, 12, 13])
(.seq
(.region none [
mv 40 7, mv 41 9, bt 42 .mul 40 41, mv 43 13, bt 44 .add 42 43, mv 45 12, ⟨some 46, .bin .shr (.t 45) (.c (.int .u64 32)), none⟩, bt 47 .add 44 46,
mv 4 47] [0, 1, 4])
(.seq
(.region none [
mv 48 0, mv 49 1, bt 50 .mul 48 49, mv 5 50] [4, 5])
.ret)))))))))))),
[.tmp 4, .tmp 5]⟩
theorem x146_ok : ck x146 146 := by decide +kernel
/-- cmp.isNaN[int64] -/
def x148 : XFunc := ⟨1,
(.seq
(.region none [
⟨some 2, .mov (.c (.bool false)), none⟩] [0])
(.seq
(.region none [
mv 3 0, mv 4 0, bt 5 .neq 3 4, mv 2 5] [2])
.ret)),
[.tmp 2]⟩
theorem x148_ok : ck x148 148 := by decide +kernel
/-- peloton/cert.Remove -/
def x149 : XFunc := ⟨2,
(.seq
(.region none [
bx 2 0, ⟨some 4, .alloc z7, none⟩, ⟨some 5, .alloc z8, none⟩, ic 6 0] [1, 2, 4, 5])
(.seq
(.region none [
ld 10 2 2, mv 11 1, p2 12 170 10 11, mv 9 12, ex 13 0 9, ex 14 1 9, mv 7 13, mv 8 14] [2, 4, 5, 7, 8])
(.seq
(.seq
(.region none [
mv 15 8, bc 16 .neq 15 0] [2, 4, 5, 7, 8, 16])
(.cond (.t 16)
(.seq
(.region none [
⟨some 17, .build z7 [], none⟩, ⟨some 18, .build z8 [], none⟩, mv 19 8, st 2 4 17, st 2 5 18,
mv 6 19] [4, 5, 6])
.ret)
.skip))
(.seq
(.region (some [0, 1, 0, 4, 12, 0, 0, 64, 252, 511, 0, 1024, 0, 7168, 15360, 31744, 1023, 131071, 262143]) [
fa 20 0 2, ln 21 20, fa 22 1 2, ln 23 22, p1 24 93 23, mv 25 7, mv 26 7, bc 27 .add 26 1, ⟨some 28, .call .fp 171 [(.t 24), (.t 25), (.t 27)], none⟩,
⟨some 29, .build z7 [(0, 1, (.t 21)), (1, 1, (.t 28))], none⟩, fa 30 1 2, ln 31 30, mv 32 7, ia 33 3 31 32, fa 34 1 33, ld 35 2 34,
st 2 4 29, st 2 5 35, ic 6 0] [4, 5, 6])
.ret)))),
[.cell 4 (some 2), .cell 5 (some 2), .tmp 6]⟩
theorem x149_ok : ck x149 149 := by decide +kernel
/-- slices.Delete[[]peloton/api.Due,peloton/api.Due] -/
def x150 : XFunc := ⟨3,
(.seq
(.region none [
⟨some 6, .mov (.c (.sl 3 true [])), none⟩] [0, 1, 2])
(.seq
(.region none [
mv 8 0, mv 9 1, mv 10 2, mv 11 0, le 12 11, ⟨some 13, .slc 3 (.t 8) (some (.t 9)) (some (.t 10)) (some (.t 12)), none⟩] [0, 1, 2])
(.seq
(.seq
(.region none [
mv 14 1, mv 15 2, bt 16 .eql 14 15] [0, 1, 2, 16])
(.cond (.t 16)
(.seq
(.region none [
mv 17 0, mv 6 17] [6])
.ret)
.skip))
(.seq
(.region none [
mv 18 0, le 19 18, mv 7 19] [0, 1, 2, 7])
(.seq
(.region (some [0, 0, 3, 0, 0, 24, 63, 127]) [
mv 20 0, mv 21 1, ⟨some 22, .slc 3 (.t 20) none (some (.t 21)) none, none⟩, mv 23 0, mv 24 2, ⟨some 25, .slc 3 (.t 23) (some (.t 24)) none none, none⟩,
ap 26 3 22 25, mv 0 26] [0, 7])
(.seq
(.region none [
mv 27 0, mv 28 0, le 29 28, mv 30 7, ⟨some 31, .slc 3 (.t 27) (some (.t 29)) (some (.t 30)) none, none⟩,
⟨none, .clear 3 z5 (.t 31), none⟩] [0])
(.seq
(.region none [
mv 32 0, mv 6 32] [6])
.ret))))))),
[.tmp 6]⟩
theorem x150_ok : ck x150 150 := by decide +kernel
/-- slices.BinarySearchFunc[[]peloton/api.Due,peloton/api.Due,int] -/
def x151 : XFunc := ⟨3,
(.seq
(.region none [
ic 6 0, ⟨some 7, .mov (.c (.bool false)), none⟩] [0, 1, 2])
(.seq
(.region none [
mv 12 0, le 13 12, mv 8 13] [0, 1, 2, 8])
(.seq
(.region none [
mv 14 8, ic 9 0, mv 10 14] [0, 1, 2, 8, 9, 10])
(.seq
(.block 0
(.loop [(0, none), (1, none), (2, none), (8, none), (9, none), (10, none)]
(.seq
(.seq
(.region none [
mv 15 9, mv 16 10, bt 17 .lss 15 16] [0, 1, 2, 8, 9, 10, 17])
(.cond (.t 17)
.skip
(.exit 0)))
(.block 1
(.seq
(.region none [
mv 18 9, mv 19 10, bt 20 .add 18 19, ⟨some 21, .conv .u64 (.t 20), none⟩, ⟨some 22, .bin .shr (.t 21) (.c (.int .u64 1)), none⟩,
⟨some 23, .conv .i64 (.t 22), none⟩, mv 11 23] [0, 1, 2, 8, 9, 10, 11])
(.seq
(.region none [
mv 24 2, mv 25 0, mv 26 11, ia 27 3 25 26, ld 28 3 27, mv 29 1, ⟨some 30, .callv (.t 24) [(.t 28), (.t 29)], none⟩,
bc 31 .lss 30 0] [0, 1, 2, 8, 9, 10, 11, 31])
(.cond (.t 31)
(.region none [
mv 32 11, bc 33 .add 32 1, mv 9 33] [0, 1, 2, 8, 9, 10])
(.region none [
mv 34 11, mv 10 34] [0, 1, 2, 8, 9, 10]))))))))
(.seq
(.region none [
mv 35 9, mv 36 9, mv 37 8, bt 38 .lss 36 37, mv 39 38, ⟨some 40, .mov (.t 2), (some (39, true))⟩, ⟨some 41, .mov (.t 0), (some (39, true))⟩,
⟨some 42, .mov (.t 9), (some (39, true))⟩, ⟨some 43, .iadr 3 (.t 41) (.t 42), (some (39, true))⟩, ⟨some 44, .load (some 3) (.t 43), (some (39, true))⟩,
⟨some 45, .mov (.t 1), (some (39, true))⟩, ⟨some 46, .callv (.t 40) [(.t 44), (.t 45)], (some (39, true))⟩,
⟨some 47, .bin .eql (.t 46) (.c (.int .i64 0)), (some (39, true))⟩, pan 48 39 47, mv 6 35, mv 7 48] [6, 7])
.ret))))),
[.tmp 6, .tmp 7]⟩
theorem x151_ok : ck x151 151 := by decide +kernel
/-- peloton/clock.place$1 -/
def x152 : XFunc := ⟨2,
(.seq
(.region none [
bx 2 0, ic 4 0] [1, 2])
(.seq
(.region none [
fa 5 0 2, ln 6 5, mv 7 1, p2 8 66 6 7, mv 4 8] [4])
.ret)),
[.tmp 4]⟩
theorem x152_ok : ck x152 152 := by decide +kernel
/-- peloton/agenda.place -/
def x153 : XFunc := ⟨2,
(.seq
(.region none [
bx 2 0, bx 3 1, ic 4 0, ic 5 0] [2, 3])
(.seq
(.seq
(.region none [
ld 9 5 2, p1 10 79 9, mv 6 10] [2, 3, 6])
(.seq
(.region none [
mv 11 6, bc 12 .neq 11 0] [2, 3, 6, 12])
(.cond (.t 12)
(.seq
(.region none [
mv 13 6, ic 4 0, mv 5 13] [4, 5])
.ret)
.skip)))
(.seq
(.seq
(.region none [
fa 15 0 2, ld 16 3 15, ld 17 2 3, p2 18 172 16 17, mv 14 18, ex 19 0 14, ex 20 1 14, mv 7 19, mv 8 20] [2, 3, 7, 8])
(.seq
(.region none [
mv 21 8, bc 22 .neq 21 0, mv 23 22, ⟨some 24, .mov (.t 7), (some (23, false))⟩, ⟨some 25, .un .not (.t 24), (some (23, false))⟩, por 26 23 25] [2, 3, 26])
(.cond (.t 26)
(.seq
(.region none [
ic 4 0, ic 5 6] [4, 5])
.ret)
.skip)))
(.seq
(.region none [
fa 27 4 2, ln 28 27, fa 29 0 3, ln 30 29, ia 31 1 28 30, ln 32 31, mv 4 32, ic 5 0] [4, 5])
.ret)))),
[.tmp 4, .tmp 5]⟩
theorem x153_ok : ck x153 153 := by decide +kernel
/-- peloton/agenda.twin -/
def x154 : XFunc := ⟨1,
(.seq
(.region none [
bx 1 0, ⟨some 2, .alloc z2, none⟩] [1, 2])
(.seq
(.region (some [0, 1, 3, 0, 8, 31, 31, 127, 255, 511]) [
fa 3 3 1, ln 4 3, p1 5 95 4, fa 6 4 1, ln 7 6, p1 8 96 7, fa 9 3 1, st 1 9 5, fa 10 4 1, st 1 10 8] [1, 2])
(.seq
(.region none [
ld 11 5 1, st 5 2 11] [2])
.ret))),
[.cell 2 (some 5)]⟩
theorem x154_ok : ck x154 154 := by decide +kernel
/-- peloton/agenda.settle -/
def x155 : XFunc := ⟨3,
(.seq
(.region none [
bx 3 0, bx 5 2] [1, 3, 5])
(.seq
(.block 0
(.loop [(1, none), (3, none), (5, none)]
(.seq
(.seq
(.region (some [0, 1, 3, 7, 7, 23, 7, 71, 199, 503, 1015, 2047, 4095, 8191]) [
mv 7 1, bc 8 .gtr 7 0, mv 9 8, ⟨some 10, .load (some 5) (.t 5), (some (9, true))⟩, ⟨some 11, .fadr 3 (.t 3), (some (9, true))⟩,
⟨some 12, .load none (.t 11), (some (9, true))⟩, ⟨some 13, .mov (.t 1), (some (9, true))⟩, ⟨some 14, .bin .sub (.t 13) (.c (.int .i64 1)), (some (9, true))⟩,
⟨some 15, .bin .quo (.t 14) (.c (.int .i64 2)), (some (9, true))⟩, ⟨some 16, .iadr 5 (.t 12) (.t 15), (some (9, true))⟩,
⟨some 17, .load (some 5) (.t 16), (some (9, true))⟩, ⟨some 18, .call .pur 113 [(.t 10), (.t 17)], (some (9, true))⟩,
⟨some 19, .bin .lss (.t 18) (.c (.int .i64 0)), (some (9, true))⟩, pan 20 9 19] [1, 3, 5, 20])
(.cond (.t 20)
.skip
(.exit 0)))
(.block 1
(.seq
(.region (some [0, 0, 0, 4, 0, 16, 48, 124, 252, 511]) [
ld 21 5 3, mv 22 1, fa 23 3 3, ln 24 23, mv 25 1, bc 26 .sub 25 1, bc 27 .quo 26 2, ia 28 5 24 27, ld 29 5 28,
⟨some 30, .call .fp 173 [(.t 21), (.t 22), (.t 29)], none⟩] [1, 3, 5])
(.region none [
mv 31 1, bc 32 .sub 31 1, bc 33 .quo 32 2, mv 1 33] [1, 3, 5]))))))
(.seq
(.seq
(.region none [
mv 34 1, ⟨some 35, .bin .mul (.c (.int .i64 2)) (.t 34), none⟩, bc 36 .add 35 1, mv 6 36] [1, 3, 5, 6])
(.block 2
(.loop [(1, none), (3, none), (5, none), (6, none)]
(.seq
(.seq
(.region none [
mv 37 6, fa 38 3 3, ln 39 38, le 40 39, bt 41 .lss 37 40] [1, 3, 5, 6, 41])
(.cond (.t 41)
.skip
(.exit 2)))
(.seq
(.block 3
(.seq
(.seq
(.region (some [0, 1, 0, 4, 12, 31, 63, 127, 255, 127, 639, 2047, 4095, 127, 8319, 127, 57471, 123007, 262143, 524287, 1048575]) [
mv 45 6, bc 46 .add 45 1, fa 47 3 3, ln 48 47, le 49 48, bt 50 .lss 46 49, mv 51 50, ⟨some 52, .fadr 3 (.t 3), (some (51, true))⟩,
⟨some 53, .load none (.t 52), (some (51, true))⟩, ⟨some 54, .mov (.t 6), (some (51, true))⟩, ⟨some 55, .bin .add (.t 54) (.c (.int .i64 1)), (some (51, true))⟩,
⟨some 56, .iadr 5 (.t 53) (.t 55), (some (51, true))⟩, ⟨some 57, .load (some 5) (.t 56), (some (51, true))⟩, ⟨some 58, .fadr 3 (.t 3), (some (51, true))⟩,
⟨some 59, .load none (.t 58), (some (51, true))⟩, ⟨some 60, .mov (.t 6), (some (51, true))⟩, ⟨some 61, .iadr 5 (.t 59) (.t 60), (some (51, true))⟩,
⟨some 62, .load (some 5) (.t 61), (some (51, true))⟩, ⟨some 63, .call .pur 113 [(.t 57), (.t 62)], (some (51, true))⟩,
⟨some 64, .bin .lss (.t 63) (.c (.int .i64 0)), (some (51, true))⟩, pan 65 51 64] [1, 3, 5, 6, 65])
(.cond (.t 65)
(.region none [
mv 66 6, bc 67 .add 66 1, mv 6 67] [1, 3, 5, 6])
.skip))
(.seq
(.seq
(.region (some [0, 1, 0, 7, 15, 0, 63, 127]) [
fa 68 3 3, ln 69 68, mv 70 6, ia 71 5 69 70, ld 72 5 71, ld 73 5 5, p2 74 113 72 73, bc 75 .geq 74 0] [1, 3, 5, 6, 75])
(.cond (.t 75)
(.exit 2)
.skip))
(.seq
(.region (some [0, 0, 0, 4, 0, 28, 60, 127]) [
ld 76 5 3, mv 77 1, fa 78 3 3, ln 79 78, mv 80 6, ia 81 5 79 80, ld 82 5 81, ⟨some 83, .call .fp 173 [(.t 76), (.t 77), (.t 82)], none⟩] [3, 5, 6])
(.region none [
mv 84 6, mv 1 84] [1, 3, 5])))))
(.region none [
mv 42 1, ⟨some 43, .bin .mul (.c (.int .i64 2)) (.t 42), none⟩, bc 44 .add 43 1, mv 6 44] [1, 3, 5, 6]))))))
(.region none [
ld 85 5 3, mv 86 1, ld 87 5 5, ⟨some 88, .call .fp 173 [(.t 85), (.t 86), (.t 87)], none⟩] [])))),
[]⟩
theorem x155_ok : ck x155 155 := by decide +kernel
/-- slices.ContainsFunc[[]peloton/api.Event,peloton/api.Event] -/
def x156 : XFunc := ⟨2,
(.seq
(.region none [
⟨some 4, .mov (.c (.bool false)), none⟩] [0, 1])
(.seq
(.region none [
mv 5 0, mv 6 1, p2 7 174 5 6, bc 8 .geq 7 0, mv 4 8] [4])
.ret)),
[.tmp 4]⟩
theorem x156_ok : ck x156 156 := by decide +kernel
/-- peloton/agenda.Push$1 -/
def x157 : XFunc := ⟨2,
(.seq
(.region none [
bx 2 0, ⟨some 3, .mov (.c (.bool false)), none⟩] [1, 2])
(.seq
(.region none [
fa 4 2 2, ln 5 4, ln 6 1, bt 7 .eql 5 6, mv 3 7] [3])
.ret)),
[.tmp 3]⟩
theorem x157_ok : ck x157 157 := by decide +kernel
/-- peloton/slot.Take -/
def x158 : XFunc := ⟨1,
(.seq
(.region none [
bx 1 0, ⟨some 2, .alloc z4, none⟩, ⟨some 3, .alloc z8, none⟩, ic 4 0] [1, 2, 3])
(.seq
(.seq
(.region none [
ld 9 3 1, p1 10 112 9, mv 5 10] [1, 2, 3, 5])
(.seq
(.region none [
mv 11 5, bc 12 .neq 11 0] [1, 2, 3, 5, 12])
(.cond (.t 12)
(.seq
(.region none [
⟨some 13, .build z4 [], none⟩, ⟨some 14, .build z8 [], none⟩, mv 15 5, st 3 2 13, st 2 3 14,
mv 4 15] [2, 3, 4])
.ret)
.skip)))
(.seq
(.seq
(.region none [
fa 16 2 1, ln 17 16, le 18 17, bc 19 .eql 18 0] [1, 2, 3, 19])
(.cond (.t 19)
(.seq
(.region none [
⟨some 20, .build z4 [], none⟩, ⟨some 21, .build z8 [], none⟩, st 3 2 20, st 2 3 21,
ic 4 18] [2, 3, 4])
.ret)
.skip))
(.seq
(.region none [
fa 23 2 1, ln 24 23, p1 25 175 24, mv 22 25, ex 26 0 22, ex 27 1 22, mv 6 26, mv 7 27] [1, 2, 3, 6, 7])
(.seq
(.seq
(.region none [
fa 28 0 1, ln 29 28, mv 30 7, ia 31 1 29 30, ln 32 31, bc 33 .eql 32 1000000] [1, 2, 3, 6, 7, 33])
(.cond (.t 33)
(.seq
(.region none [
⟨some 34, .build z4 [], none⟩, ⟨some 35, .build z8 [], none⟩, st 3 2 34, st 2 3 35,
ic 4 18] [2, 3, 4])
.ret)
.skip))
(.seq
(.region none [
ld 36 3 1, ⟨some 37, .call .shr 176 [(.t 36)], none⟩, ⟨some 8, .alloc z4, none⟩, st 3 8 37] [2, 3, 6, 7, 8])
(.seq
(.region none [
fa 38 1 8, ln 39 38, mv 40 7, mv 41 6, fa 42 2 8, st 1 42 41, ia 43 1 39 40, ⟨none, .store 1 (.t 43) (.c (.bool true)), none⟩] [2, 3, 7, 8])
(.seq
(.region none [
fa 44 0 8, ln 45 44, mv 46 7, ia 47 1 45 46, ln 48 47, bc 49 .add 48 1, ia 50 1 45 46, st 1 50 49] [2, 3, 7, 8])
(.seq
(.region (some [0, 0, 0, 4, 0, 28, 60, 126, 1, 511, 1023]) [
ld 51 3 8, mv 52 7, fa 53 0 8, ln 54 53, mv 55 7, ia 56 1 54 55, ln 57 56,
⟨some 58, .build z8 [(0, 1, (.t 52)), (1, 1, (.t 57))], none⟩, st 3 2 51, st 2 3 58, ic 4 0] [2, 3, 4])
.ret))))))))),
[.cell 2 (some 3), .cell 3 (some 2), .tmp 4]⟩
theorem x158_ok : ck x158 158 := by decide +kernel
/-- peloton/agenda.remove -/
def x159 : XFunc := ⟨2,
(.seq
(.region none [
bx 2 0, ⟨some 4, .alloc z2, none⟩,
⟨some 5, .alloc z3, none⟩, ic 6 0] [1, 2, 4, 5])
(.seq
(.region none [
fa 13 3 2, ln 14 13, mv 15 1, ia 16 5 14 15, ld 17 5 16, ⟨some 7, .alloc z3, none⟩,
st 5 7 17] [1, 2, 4, 5, 7])
(.seq
(.region none [
fa 19 0 2, ld 20 3 19, fa 21 3 7, ld 22 2 21, p2 23 177 20 22, mv 18 23, ex 24 0 18, ex 25 1 18,
⟨some 8, .alloc z4, none⟩, st 3 8 24, mv 9 25] [1, 2, 4, 5, 7, 8, 9])
(.seq
(.seq
(.region none [
mv 26 9, bc 27 .neq 26 0] [1, 2, 4, 5, 7, 8, 9, 27])
(.cond (.t 27)
(.seq
(.region none [
⟨some 28, .build z2 [], none⟩,
⟨some 29, .build z3 [], none⟩, mv 30 9, st 5 4 28, st 5 5 29, mv 6 30] [4, 5, 6])
.ret)
.skip))
(.seq
(.region none [
ld 31 5 2, ⟨some 32, .call .shr 154 [(.t 31)], none⟩, ⟨some 10, .alloc z2, none⟩,
st 5 10 32] [1, 4, 5, 7, 8, 10])
(.seq
(.region none [
fa 33 3 10, ln 34 33, le 35 34, bc 36 .sub 35 1, mv 11 36] [1, 4, 5, 7, 8, 10, 11])
(.seq
(.region none [
fa 37 3 10, ln 38 37, mv 39 11, ia 40 5 38 39, ld 41 5 40, ⟨some 12, .alloc z3, none⟩,
st 5 12 41] [1, 4, 5, 7, 8, 10, 11, 12])
(.seq
(.region (some [0, 1, 0, 4, 12, 0, 0, 64, 0, 448, 227, 1251, 4067, 8163, 16383, 32767]) [
fa 42 4 10, ln 43 42, fa 44 3 7, fa 45 0 44, ln 46 45, ld 47 3 8, fa 48 3 10, ln 49 48, mv 50 11, ⟨some 51, .slc 5 (.t 49) none (some (.t 50)) none, none⟩,
fa 52 0 10, st 3 52 47, fa 53 3 10, st 1 53 51, ia 54 1 43 46, ⟨none, .store 1 (.t 54) (.c (.int .i64 (-1))), none⟩] [1, 4, 5, 7, 10, 11, 12])
(.seq
(.seq
(.region none [
mv 55 1, mv 56 11, bt 57 .lss 55 56] [1, 4, 5, 7, 10, 12, 57])
(.cond (.t 57)
(.region none [
ld 58 5 10, mv 59 1, ld 60 5 12, ⟨some 61, .call .fp 155 [(.t 58), (.t 59), (.t 60)], none⟩] [4, 5, 7, 10])
.skip))
(.seq
(.region (some [0, 0, 1, 7, 15]) [
ld 62 5 10, ld 63 5 7, st 5 4 62, st 5 5 63, ic 6 0] [4, 5, 6])
.ret)))))))))),
[.cell 4 (some 5), .cell 5 (some 5), .tmp 6]⟩
theorem x159_ok : ck x159 159 := by decide +kernel
/-- peloton/cert.Add$1 -/
def x160 : XFunc := ⟨2,
(.seq
(.region none [
bx 2 0, ⟨some 3, .mov (.c (.bool false)), none⟩] [1, 2])
(.seq
(.region none [
fa 4 1 2, ld 5 2 4, ld 6 2 1, ⟨some 7, .eqc 2 false (.t 5) (.t 6), none⟩, mv 3 7] [3])
.ret)),
[.tmp 3]⟩
theorem x160_ok : ck x160 160 := by decide +kernel
/-- peloton/pelotonref02.Leads -/
def x161 : XFunc := ⟨3,
(.seq
(.region none [
bx 3 0, bx 4 1, bx 5 2, ⟨some 6, .mov (.c (.bool false)), none⟩] [3, 4, 5])
(.seq
(.region none [
ld 8 3 3, ld 9 3 4, ld 10 2 5, p3 11 178 8 9 10, mv 7 11] [3, 4, 7])
(.seq
(.seq
(.region none [
mv 12 7, bc 13 .neq 12 0] [3, 4, 7, 13])
(.cond (.t 13)
(.seq
(.region none [
mv 14 7, bc 15 .gtr 14 0, mv 6 15] [6])
.ret)
.skip))
(.seq
(.seq
(.region none [
fa 16 2 3, ln 17 16, fa 18 2 4, ln 19 18, bt 20 .neq 17 19] [3, 4, 20])
(.cond (.t 20)
(.seq
(.region none [
fa 21 2 3, ln 22 21, fa 23 2 4, ln 24 23, bt 25 .gtr 22 24, mv 6 25] [6])
.ret)
.skip))
(.seq
(.region none [
fa 26 0 3, ln 27 26, fa 28 0 4, ln 29 28, bt 30 .lss 27 29, mv 6 30] [6])
.ret))))),
[.tmp 6]⟩
theorem x161_ok : ck x161 161 := by decide +kernel
/-- peloton/pelotonref07.Less -/
def x162 : XFunc := ⟨2,
(.seq
(.region none [
bx 2 0, bx 3 1, ⟨some 4, .mov (.c (.bool false)), none⟩] [2, 3])
(.seq
(.region none [
fa 6 0 2, ld 7 2 6, fa 8 0 3, ld 9 2 8, p2 10 179 7 9, mv 5 10] [2, 3, 5])
(.seq
(.region none [
mv 11 5, bc 12 .lss 11 0, mv 13 12, ⟨some 14, .mov (.t 5), (some (13, false))⟩, ⟨some 15, .bin .eql (.t 14) (.c (.int .i64 0)), (some (13, false))⟩,
⟨some 16, .mov (.t 15), (some (13, false))⟩, ⟨some 17, .fadr 2 (.t 2), (some (16, true))⟩, ⟨some 18, .load none (.t 17), (some (16, true))⟩,
⟨some 19, .fadr 2 (.t 3), (some (16, true))⟩, ⟨some 20, .load none (.t 19), (some (16, true))⟩, ⟨some 21, .bin .lss (.t 18) (.t 20), (some (16, true))⟩,
⟨some 22, .pick (.t 16) (.t 21) (.c (.bool false)), (some (13, false))⟩, por 23 13 22, mv 4 23] [4])
.ret))),
[.tmp 4]⟩
theorem x162_ok : ck x162 162 := by decide +kernel
/-- peloton/pelotonref02.Met -/
def x163 : XFunc := ⟨2,
(.seq
(.region none [
bx 2 0, bx 3 1, ⟨some 4, .alloc z8, none⟩] [2, 3, 4])
(.seq
(.region none [
fa 8 1 2, ln 9 8, fa 10 1 3, ln 11 10, bt 12 .sub 9 11, fa 13 2 3, ln 14 13, fa 15 2 2, ln 16 15, bt 17 .sub 14 16, p2 18 180 12 17, mv 7 18, ex 19 0 7,
ex 20 1 7, ⟨some 5, .alloc z8, none⟩, st 2 5 19, mv 6 20] [4, 5])
(.seq
(.region none [
ld 21 2 5, st 2 4 21] [4])
.ret))),
[.cell 4 (some 2)]⟩
theorem x163_ok : ck x163 163 := by decide +kernel
/-- slices.IndexFunc[[]int,int] -/
def x164 : XFunc := ⟨2,
(.seq
(.region none [
ic 4 0] [0, 1])
(.seq
(.seq
(.region none [
mv 6 0, le 7 6, ic 8 0] [0, 1, 7, 8])
(.block 0
(.loop [(0, none), (1, none), (7, none), (8, none)]
(.seq
(.region none [
bt 9 .lss 8 7] [0, 1, 7, 8, 9])
(.seq
(.cond (.t 9)
.skip
(.exit 0))
(.seq
(.block 1
(.seq
(.region none [
mv 10 8, mv 5 10] [0, 1, 5, 7, 8])
(.seq
(.region none [
mv 11 1, mv 12 0, mv 13 5, ia 14 1 12 13, ln 15 14, ⟨some 16, .callv (.t 11) [(.t 15)], none⟩] [0, 1, 5, 7, 8, 16])
(.cond (.t 16)
(.seq
(.region none [
mv 17 5, mv 4 17] [4])
.ret)
.skip))))
(.region none [
bc 18 .add 8 1, mv 8 18] [0, 1, 7, 8])))))))
(.seq
(.region none [
ic 4 (-1)] [4])
.ret))),
[.tmp 4]⟩
theorem x164_ok : ck x164 164 := by decide +kernel
/-- slices.Index[[]bool,bool] -/
def x165 : XFunc := ⟨2,
(.seq
(.region none [
ic 4 0] [0, 1])
(.seq
(.seq
(.region none [
mv 6 0, le 7 6, ic 8 0] [0, 1, 7, 8])
(.block 0
(.loop [(0, none), (1, none), (7, none), (8, none)]
(.seq
(.region none [
bt 9 .lss 8 7] [0, 1, 7, 8, 9])
(.seq
(.cond (.t 9)
.skip
(.exit 0))
(.seq
(.block 1
(.seq
(.region none [
mv 10 8, mv 5 10] [0, 1, 5, 7, 8])
(.seq
(.region none [
mv 11 1, mv 12 0, mv 13 5, ia 14 1 12 13, ln 15 14, ⟨some 16, .binb false (.t 11) (.t 15), none⟩] [0, 1, 5, 7, 8, 16])
(.cond (.t 16)
(.seq
(.region none [
mv 17 5, mv 4 17] [4])
.ret)
.skip))))
(.region none [
bc 18 .add 8 1, mv 8 18] [0, 1, 7, 8])))))))
(.seq
(.region none [
ic 4 (-1)] [4])
.ret))),
[.tmp 4]⟩
theorem x165_ok : ck x165 165 := by decide +kernel
/-- peloton/ratio.both -/
def x166 : XFunc := ⟨2,
(.seq
(.region none [
bx 2 0, bx 3 1, ic 4 0] [2, 3])
(.seq
(.region (some [0, 1, 0, 7, 15, 31]) [
ld 5 2 2, p1 6 77 5, ld 7 2 3, p1 8 77 7, ⟨some 9, .mm true (.t 6) [(.t 8)], none⟩, mv 4 9] [4])
.ret)),
[.tmp 4]⟩
theorem x166_ok : ck x166 166 := by decide +kernel
/-- peloton/ratio.compare -/
def x167 : XFunc := ⟨2,
(.seq
(.region none [
bx 2 0, bx 3 1, ic 4 0] [2, 3])
(.seq
(.seq
(.region none [
fa 6 1 2, ln 7 6, fa 8 1 3, ln 9 8, p2 10 181 7 9, mv 5 10] [2, 3, 5])
(.seq
(.region none [
mv 11 5, bc 12 .neq 11 0] [2, 3, 5, 12])
(.cond (.t 12)
(.seq
(.region none [
mv 13 5, mv 4 13] [4])
.ret)
.skip)))
(.seq
(.region none [
fa 14 2 2, ln 15 14, fa 16 2 3, ln 17 16, p2 18 181 15 17, mv 4 18] [4])
.ret))),
[.tmp 4]⟩
theorem x167_ok : ck x167 167 := by decide +kernel
/-- peloton/ratio.times -/
def x168 : XFunc := ⟨2,
(.seq
(.region none [
⟨some 4, .alloc z6, none⟩] [0, 1, 4])
(.seq
(.region none [
mv 8 0, p1 9 110 8, mv 10 1, p1 11 110 10, p2 12 146 9 11, mv 7 12, ex 13 0 7, ex 14 1 7, mv 5 13, mv 6 14] [0, 1, 4, 5, 6])
(.seq
(.region none [
mv 15 0, bc 16 .lss 15 0, mv 17 1, bc 18 .lss 17 0, ⟨some 19, .binb true (.t 16) (.t 18), none⟩, mv 20 5, mv 21 6,
⟨some 22, .build z6 [(0, 1, (.t 19)), (1, 1, (.t 20)), (2, 1, (.t 21))], none⟩, st 3 4 22] [4])
.ret))),
[.cell 4 (some 3)]⟩
theorem x168_ok : ck x168 168 := by decide +kernel
/-- peloton/ratio.Make -/
def x169 : XFunc := ⟨2,
(.seq
(.region none [
⟨some 4, .alloc z8, none⟩, ic 5 0] [0, 1, 4])
(.seq
(.seq
(.region none [
mv 7 1, bc 8 .eql 7 0] [0, 1, 4, 8])
(.cond (.t 8)
(.seq
(.region none [
⟨some 9, .build z8 [], none⟩, st 2 4 9, ic 5 26] [4, 5])
.ret)
.skip))
(.seq
(.region none [
mv 10 0, p1 11 110 10, mv 12 1, p1 13 110 12, p2 14 109 11 13, mv 6 14] [0, 1, 4, 6])
(.seq
(.region (some [0, 1, 0, 4, 15, 0, 32, 0, 224, 511, 0, 1120, 0, 7264, 16383, 32767, 32767, 131071, 262143]) [
mv 15 0, bc 16 .lss 15 0, mv 17 1, bc 18 .lss 17 0, ⟨some 19, .binb true (.t 16) (.t 18), none⟩, mv 20 0, p1 21 110 20, mv 22 6, bt 23 .quo 21 22,
⟨some 24, .build z6 [(0, 1, (.t 19)), (1, 1, (.c (.int .u64 0))), (2, 1, (.t 23))], none⟩, mv 25 1, p1 26 110 25, mv 27 6,
bt 28 .quo 26 27, ⟨some 29, .call .pur 182 [(.t 24), (.c (.int .u64 0)), (.t 28)], none⟩, ex 30 0 29, ex 31 1 29, st 2 4 30, mv 5 31] [4, 5])
.ret)))),
[.cell 4 (some 2), .tmp 5]⟩
theorem x169_ok : ck x169 169 := by decide +kernel
/-- peloton/cert.find -/
def x170 : XFunc := ⟨2,
(.seq
(.region none [
bx 2 0, ic 4 0, ic 5 0] [1, 2])
(.seq
(.seq
(.region none [
ld 9 2 2, p1 10 78 9, mv 6 10] [1, 2, 6])
(.seq
(.region none [
mv 11 6, bc 12 .neq 11 0] [1, 2, 6, 12])
(.cond (.t 12)
(.seq
(.region none [
mv 13 6, ic 4 0, mv 5 13] [4, 5])
.ret)
.skip)))
(.seq
(.region none [
fa 15 1 2, ln 16 15, mv 17 1, ⟨some 18, .call .pur 183 [(.t 16), (.t 17), (.c (.clo 184 [] []))], none⟩, mv 14 18, ex 19 0 14, ex 20 1 14, mv 7 19,
mv 8 20] [7, 8])
(.seq
(.seq
(.region none [
mv 21 8, ⟨some 22, .un .not (.t 21), none⟩] [7, 22])
(.cond (.t 22)
(.seq
(.region none [
ic 4 0, ic 5 6] [4, 5])
.ret)
.skip))
(.seq
(.region none [
mv 23 7, mv 4 23, ic 5 0] [4, 5])
.ret))))),
[.tmp 4, .tmp 5]⟩
theorem x170_ok : ck x170 170 := by decide +kernel
/-- slices.Delete[[]peloton/api.Held,peloton/api.Held] -/
def x171 : XFunc := ⟨3,
(.seq
(.region none [
⟨some 6, .mov (.c (.sl 3 true [])), none⟩] [0, 1, 2])
(.seq
(.region none [
mv 8 0, mv 9 1, mv 10 2, mv 11 0, le 12 11, ⟨some 13, .slc 3 (.t 8) (some (.t 9)) (some (.t 10)) (some (.t 12)), none⟩] [0, 1, 2])
(.seq
(.seq
(.region none [
mv 14 1, mv 15 2, bt 16 .eql 14 15] [0, 1, 2, 16])
(.cond (.t 16)
(.seq
(.region none [
mv 17 0, mv 6 17] [6])
.ret)
.skip))
(.seq
(.region none [
mv 18 0, le 19 18, mv 7 19] [0, 1, 2, 7])
(.seq
(.region (some [0, 0, 3, 0, 0, 24, 63, 127]) [
mv 20 0, mv 21 1, ⟨some 22, .slc 3 (.t 20) none (some (.t 21)) none, none⟩, mv 23 0, mv 24 2, ⟨some 25, .slc 3 (.t 23) (some (.t 24)) none none, none⟩,
ap 26 3 22 25, mv 0 26] [0, 7])
(.seq
(.region none [
mv 27 0, mv 28 0, le 29 28, mv 30 7, ⟨some 31, .slc 3 (.t 27) (some (.t 29)) (some (.t 30)) none, none⟩,
⟨none, .clear 3 z5 (.t 31), none⟩] [0])
(.seq
(.region none [
mv 32 0, mv 6 32] [6])
.ret))))))),
[.tmp 6]⟩
theorem x171_ok : ck x171 171 := by decide +kernel
/-- peloton/slot.Has -/
def x172 : XFunc := ⟨2,
(.seq
(.region none [
bx 2 0, bx 3 1, ⟨some 4, .mov (.c (.bool false)), none⟩, ic 5 0] [2, 3])
(.seq
(.seq
(.region none [
ld 7 3 2, p1 8 112 7, mv 6 8] [2, 3, 6])
(.seq
(.region none [
mv 9 6, bc 10 .neq 9 0] [2, 3, 6, 10])
(.cond (.t 10)
(.seq
(.region none [
mv 11 6, ⟨some 4, .mov (.c (.bool false)), none⟩, mv 5 11] [4, 5])
.ret)
.skip)))
(.seq
(.region (some [0, 1, 3, 7, 15, 31, 15, 79, 207, 511, 1023, 2047, 4095, 8191, 4095, 20479, 65535, 131071, 262143, 524287, 1048575, 2097151, 1048575, 5242879, 16777215, 33554431, 1048575, 68157439, 268435455, 536870911, 1073741823, 2147483647]) [
fa 12 0 3, ln 13 12, bc 14 .geq 13 0, mv 15 14, ⟨some 16, .fadr 0 (.t 3), (some (15, true))⟩, ⟨some 17, .load none (.t 16), (some (15, true))⟩,
⟨some 18, .fadr 1 (.t 2), (some (15, true))⟩, ⟨some 19, .load none (.t 18), (some (15, true))⟩, ⟨some 20, .len (.t 19), (some (15, true))⟩,
⟨some 21, .bin .lss (.t 17) (.t 20), (some (15, true))⟩, pan 22 15 21, mv 23 22, ⟨some 24, .fadr 1 (.t 2), (some (23, true))⟩,
⟨some 25, .load none (.t 24), (some (23, true))⟩, ⟨some 26, .fadr 0 (.t 3), (some (23, true))⟩, ⟨some 27, .load none (.t 26), (some (23, true))⟩,
⟨some 28, .iadr 1 (.t 25) (.t 27), (some (23, true))⟩, ⟨some 29, .load none (.t 28), (some (23, true))⟩, pan 30 23 29, mv 31 30,
⟨some 32, .fadr 0 (.t 2), (some (31, true))⟩, ⟨some 33, .load none (.t 32), (some (31, true))⟩, ⟨some 34, .fadr 0 (.t 3), (some (31, true))⟩,
⟨some 35, .load none (.t 34), (some (31, true))⟩, ⟨some 36, .iadr 1 (.t 33) (.t 35), (some (31, true))⟩, ⟨some 37, .load none (.t 36), (some (31, true))⟩,
⟨some 38, .fadr 1 (.t 3), (some (31, true))⟩, ⟨some 39, .load none (.t 38), (some (31, true))⟩, ⟨some 40, .bin .eql (.t 37) (.t 39), (some (31, true))⟩,
pan 41 31 40, mv 4 41, ic 5 0] [4, 5])
.ret))),
[.tmp 4, .tmp 5]⟩
theorem x172_ok : ck x172 172 := by decide +kernel
/-- peloton/agenda.set -/
def x173 : XFunc := ⟨3,
(.seq
(.region none [
bx 3 0, bx 5 2] [1, 3, 5])
(.region (some [0, 1, 0, 0, 8, 0, 32, 96, 0, 0, 263, 1287, 4095, 8191]) [
fa 6 3 3, ln 7 6, mv 8 1, fa 9 4 3, ln 10 9, fa 11 3 5, fa 12 0 11, ln 13 12, ld 14 5 5, mv 15 1, ia 16 5 7 8, st 5 16 14, ia 17 1 10 13, st 1 17 15] [])),
[]⟩
theorem x173_ok : ck x173 173 := by decide +kernel
/-- slices.IndexFunc[[]peloton/api.Event,peloton/api.Event] -/
def x174 : XFunc := ⟨2,
(.seq
(.region none [
ic 4 0] [0, 1])
(.seq
(.seq
(.region none [
mv 6 0, le 7 6, ic 8 0] [0, 1, 7, 8])
(.block 0
(.loop [(0, none), (1, none), (7, none), (8, none)]
(.seq
(.region none [
bt 9 .lss 8 7] [0, 1, 7, 8, 9])
(.seq
(.cond (.t 9)
.skip
(.exit 0))
(.seq
(.block 1
(.seq
(.region none [
mv 10 8, mv 5 10] [0, 1, 5, 7, 8])
(.seq
(.region none [
mv 11 1, mv 12 0, mv 13 5, ia 14 5 12 13, ld 15 5 14, ⟨some 16, .callv (.t 11) [(.t 15)], none⟩] [0, 1, 5, 7, 8, 16])
(.cond (.t 16)
(.seq
(.region none [
mv 17 5, mv 4 17] [4])
.ret)
.skip))))
(.region none [
bc 18 .add 8 1, mv 8 18] [0, 1, 7, 8])))))))
(.seq
(.region none [
ic 4 (-1)] [4])
.ret))),
[.tmp 4]⟩
theorem x174_ok : ck x174 174 := by decide +kernel
/-- (peloton/slot.stack[int]).pop -/
def x175 : XFunc := ⟨1,
(.seq
(.region none [
⟨some 2, .mov (.c (.sl 1 true [])), none⟩, ic 3 0] [0])
(.seq
(.region none [
mv 5 0, le 6 5, bc 7 .sub 6 1, mv 4 7] [0, 4])
(.seq
(.region (some [0, 0, 3, 7, 0, 0, 48, 112, 15, 511]) [
mv 8 0, mv 9 4, ⟨some 10, .slc 1 (.t 8) none (some (.t 9)) none, none⟩, p1 11 185 10, mv 12 0, mv 13 4, ia 14 1 12 13, ln 15 14, mv 2 11, mv 3 15] [2, 3])
.ret))),
[.tmp 2, .tmp 3]⟩
theorem x175_ok : ck x175 175 := by decide +kernel
/-- peloton/slot.twin -/
def x176 : XFunc := ⟨1,
(.seq
(.region none [
bx 1 0, ⟨some 2, .alloc z4, none⟩] [1, 2])
(.seq
(.region (some [0, 1, 3, 0, 8, 31, 0, 64, 255, 511]) [
fa 3 0 1, ln 4 3, p1 5 96 4, fa 6 1 1, ln 7 6, p1 8 97 7, fa 9 2 1, ln 10 9,
⟨some 11, .build z4 [(0, 1, (.t 5)), (1, 1, (.t 8)), (2, 1, (.t 10))], none⟩, st 3 2 11] [2])
.ret)),
[.cell 2 (some 3)]⟩
theorem x176_ok : ck x176 176 := by decide +kernel
/-- peloton/slot.Give -/
def x177 : XFunc := ⟨2,
(.seq
(.region none [
bx 2 0, bx 3 1, ⟨some 4, .alloc z4, none⟩, ic 5 0] [2, 3, 4])
(.seq
(.region none [
ld 10 3 2, ld 11 2 3, p2 12 172 10 11, mv 9 12, ex 13 0 9, ex 14 1 9, mv 6 13, mv 7 14] [2, 3, 4, 6, 7])
(.seq
(.seq
(.region none [
mv 15 7, bc 16 .neq 15 0] [2, 3, 4, 6, 7, 16])
(.cond (.t 16)
(.seq
(.region none [
⟨some 17, .build z4 [], none⟩, mv 18 7, st 3 4 17, mv 5 18] [4, 5])
.ret)
.skip))
(.seq
(.seq
(.region none [
mv 19 6, ⟨some 20, .un .not (.t 19), none⟩] [2, 3, 4, 20])
(.cond (.t 20)
(.seq
(.region none [
⟨some 21, .build z4 [], none⟩, st 3 4 21, ic 5 6] [4, 5])
.ret)
.skip))
(.seq
(.region none [
ld 22 3 2, ⟨some 23, .call .shr 176 [(.t 22)], none⟩, ⟨some 8, .alloc z4, none⟩, st 3 8 23] [2, 3, 4, 8])
(.seq
(.region (some [0, 1, 0, 4, 0, 16, 0, 64, 240, 499, 1011, 2047, 4095]) [
fa 24 1 8, ln 25 24, fa 26 0 3, ln 27 26, fa 28 2 2, ln 29 28, fa 30 0 3, ln 31 30, p2 32 186 29 31, fa 33 2 8, st 1 33 32, ia 34 1 25 27,
⟨none, .store 1 (.t 34) (.c (.bool false)), none⟩] [4, 8])
(.seq
(.region none [
ld 35 3 8, st 3 4 35, ic 5 0] [4, 5])
.ret))))))),
[.cell 4 (some 3), .tmp 5]⟩
theorem x177_ok : ck x177 177 := by decide +kernel
/-- peloton/pelotonref02.Far -/
def x178 : XFunc := ⟨3,
(.seq
(.region none [
bx 3 0, bx 4 1, bx 5 2, ic 6 0] [3, 4, 5])
(.seq
(.region (some [0, 1, 0, 4, 15, 0, 32, 127, 0, 256, 0, 1024, 3840, 0, 8192, 32767, 65535, 131071, 262143]) [
fa 7 1 3, ln 8 7, fa 9 1 4, ln 10 9, bt 11 .sub 8 10, fa 12 1 5, ln 13 12, p2 14 189 11 13, fa 15 2 3, ln 16 15, fa 17 2 4, ln 18 17, bt 19 .sub 16 18,
fa 20 0 5, ln 21 20, p2 22 189 19 21, p2 23 188 14 22, p1 24 187 23, mv 6 24] [6])
.ret)),
[.tmp 6]⟩
theorem x178_ok : ck x178 178 := by decide +kernel
/-- peloton/pelotonref01.Compare -/
def x179 : XFunc := ⟨2,
(.seq
(.region none [
bx 2 0, bx 3 1, ic 4 0] [2, 3])
(.seq
(.region (some [0, 1, 0, 4, 15, 0, 32, 0, 128, 511, 0, 0, 4095, 8191]) [
fa 7 0 2, ln 8 7, fa 9 1 3, ln 10 9, p2 11 189 8 10, fa 12 0 3, ln 13 12, fa 14 1 2, ln 15 14, p2 16 189 13 15,
⟨some 5, .alloc z6, none⟩, ⟨some 6, .alloc z6, none⟩, st 3 5 11, st 3 6 16] [5, 6])
(.seq
(.seq
(.region (some [0, 1, 0, 7, 15]) [
ld 17 3 5, p1 18 187 17, ld 19 3 6, p1 20 187 19, bt 21 .neq 18 20] [5, 6, 21])
(.cond (.t 21)
(.seq
(.seq
(.region (some [0, 1, 0, 7, 15]) [
ld 22 3 5, p1 23 187 22, ld 24 3 6, p1 25 187 24, bt 26 .lss 23 25] [26])
(.cond (.t 26)
(.seq
(.region none [
ic 4 (-1)] [4])
.ret)
.skip))
(.seq
(.region none [
ic 4 1] [4])
.ret))
.skip))
(.seq
(.seq
(.region none [
ld 27 3 5, p1 28 187 27, bc 29 .lss 28 0] [5, 6, 29])
(.cond (.t 29)
(.seq
(.region none [
ld 30 3 6, ld 31 3 5, p2 32 190 30 31, mv 4 32] [4])
.ret)
.skip))
(.seq
(.region none [
ld 33 3 5, ld 34 3 6, p2 35 190 33 34, mv 4 35] [4])
.ret))))),
[.tmp 4]⟩
theorem x179_ok : ck x179 179 := by decide +kernel
/-- peloton/pelotonref01.Make -/
def x180 : XFunc := ⟨2,
(.seq
(.region none [
⟨some 4, .alloc z8, none⟩, ic 5 0] [0, 1, 4])
(.seq
(.seq
(.region none [
mv 7 1, bc 8 .eql 7 0] [0, 1, 4, 8])
(.cond (.t 8)
(.seq
(.region none [
⟨some 9, .build z8 [], none⟩, st 2 4 9, ic 5 26] [4, 5])
.ret)
.skip))
(.seq
(.region none [
mv 10 0, p1 11 42 10, mv 12 1, p1 13 42 12, p2 14 41 11 13, mv 6 14] [0, 1, 4, 6])
(.seq
(.region (some [0, 1, 0, 4, 15, 31, 63, 127, 255, 0, 575, 0, 3647, 7743, 0, 17983, 0, 116287, 247359, 524287, 1048575, 1048575, 4194303, 8388607]) [
mv 15 0, bc 16 .lss 15 0, mv 17 1, bc 18 .lss 17 0, ⟨some 19, .binb true (.t 16) (.t 18), none⟩, mv 20 19, ⟨some 21, .mov (.t 0), (some (20, true))⟩,
⟨some 22, .bin .neq (.t 21) (.c (.int .i64 0)), (some (20, true))⟩, pan 23 20 22, mv 24 0, p1 25 42 24, mv 26 6, bt 27 .quo 25 26,
⟨some 28, .build z6 [(2, 1, (.t 27))], none⟩, mv 29 1, p1 30 42 29, mv 31 6, bt 32 .quo 30 31,
⟨some 33, .build z6 [(2, 1, (.t 32))], none⟩, p3 34 191 23 28 33, ex 35 0 34, ex 36 1 34, st 2 4 35, mv 5 36] [4, 5])
.ret)))),
[.cell 4 (some 2), .tmp 5]⟩
theorem x180_ok : ck x180 180 := by decide +kernel
/-- cmp.Compare[uint64] -/
def x181 : XFunc := ⟨2,
(.seq
(.region none [
ic 4 0] [0, 1])
(.seq
(.region none [
mv 7 0, p1 8 192 7, mv 5 8] [0, 1, 5])
(.seq
(.region none [
mv 9 1, p1 10 192 9, mv 6 10] [0, 1, 5, 6])
(.seq
(.seq
(.region none [
mv 11 5] [0, 1, 6, 11])
(.cond (.t 11)
(.seq
(.seq
(.region none [
mv 12 6] [12])
(.cond (.t 12)
(.seq
(.region none [
ic 4 0] [4])
.ret)
.skip))
(.seq
(.region none [
ic 4 (-1)] [4])
.ret))
.skip))
(.seq
(.seq
(.region none [
mv 13 6] [0, 1, 13])
(.cond (.t 13)
(.seq
(.region none [
ic 4 1] [4])
.ret)
.skip))
(.seq
(.seq
(.region none [
mv 14 0, mv 15 1, bt 16 .lss 14 15] [0, 1, 16])
(.cond (.t 16)
(.seq
(.region none [
ic 4 (-1)] [4])
.ret)
.skip))
(.seq
(.seq
(.region none [
mv 17 0, mv 18 1, bt 19 .gtr 17 18] [19])
(.cond (.t 19)
(.seq
(.region none [
ic 4 1] [4])
.ret)
.skip))
(.seq
(.region none [
ic 4 0] [4])
.ret)))))))),
[.tmp 4]⟩
theorem x181_ok : ck x181 181 := by decide +kernel
/-- peloton/ratio.build -/
def x182 : XFunc := ⟨3,
(.seq
(.region none [
bx 3 0, ⟨some 6, .alloc z8, none⟩, ic 7 0] [1, 2, 3, 6])
(.seq
(.seq
(.region none [
fa 9 1 3, ln 10 9, ⟨some 11, .bin .gtr (.t 10) (.c (.int .u64 0)), none⟩, mv 12 11, ⟨some 13, .fadr 2 (.t 3), (some (12, false))⟩,
⟨some 14, .load none (.t 13), (some (12, false))⟩, ⟨some 15, .bin .gtr (.t 14) (.c (.int .u64 9223372036854775807)), (some (12, false))⟩, por 16 12 15,
mv 17 16, ⟨some 18, .mov (.t 1), (some (17, false))⟩, ⟨some 19, .bin .gtr (.t 18) (.c (.int .u64 0)), (some (17, false))⟩, por 20 17 19, mv 21 20,
⟨some 22, .mov (.t 2), (some (21, false))⟩, ⟨some 23, .bin .gtr (.t 22) (.c (.int .u64 9223372036854775807)), (some (21, false))⟩, por 24 21 23] [2, 3, 6, 24])
(.cond (.t 24)
(.seq
(.region none [
⟨some 25, .build z8 [], none⟩, st 2 6 25, ic 7 16] [6, 7])
.ret)
.skip))
(.seq
(.region none [
fa 26 2 3, ln 27 26, ⟨some 28, .conv .i64 (.t 27), none⟩, mv 29 2, ⟨some 30, .conv .i64 (.t 29), none⟩,
⟨some 31, .build z8 [(0, 1, (.t 28)), (1, 1, (.t 30))], none⟩, ⟨some 8, .alloc z8, none⟩, st 2 8 31] [3, 6, 8])
(.seq
(.seq
(.region none [
fa 32 0 3, ln 33 32] [6, 8, 33])
(.cond (.t 33)
(.region none [
fa 34 0 8, ln 35 34, ⟨some 36, .un .neg (.t 35), none⟩, fa 37 0 8, st 1 37 36] [6, 8])
.skip))
(.seq
(.region none [
ld 38 2 8, st 2 6 38, ic 7 0] [6, 7])
.ret))))),
[.cell 6 (some 2), .tmp 7]⟩
theorem x182_ok : ck x182 182 := by decide +kernel
/-- slices.BinarySearchFunc[[]peloton/api.Held,peloton/api.Held,int] -/
def x183 : XFunc := ⟨3,
(.seq
(.region none [
ic 6 0, ⟨some 7, .mov (.c (.bool false)), none⟩] [0, 1, 2])
(.seq
(.region none [
mv 12 0, le 13 12, mv 8 13] [0, 1, 2, 8])
(.seq
(.region none [
mv 14 8, ic 9 0, mv 10 14] [0, 1, 2, 8, 9, 10])
(.seq
(.block 0
(.loop [(0, none), (1, none), (2, none), (8, none), (9, none), (10, none)]
(.seq
(.seq
(.region none [
mv 15 9, mv 16 10, bt 17 .lss 15 16] [0, 1, 2, 8, 9, 10, 17])
(.cond (.t 17)
.skip
(.exit 0)))
(.block 1
(.seq
(.region none [
mv 18 9, mv 19 10, bt 20 .add 18 19, ⟨some 21, .conv .u64 (.t 20), none⟩, ⟨some 22, .bin .shr (.t 21) (.c (.int .u64 1)), none⟩,
⟨some 23, .conv .i64 (.t 22), none⟩, mv 11 23] [0, 1, 2, 8, 9, 10, 11])
(.seq
(.region none [
mv 24 2, mv 25 0, mv 26 11, ia 27 3 25 26, ld 28 3 27, mv 29 1, ⟨some 30, .callv (.t 24) [(.t 28), (.t 29)], none⟩,
bc 31 .lss 30 0] [0, 1, 2, 8, 9, 10, 11, 31])
(.cond (.t 31)
(.region none [
mv 32 11, bc 33 .add 32 1, mv 9 33] [0, 1, 2, 8, 9, 10])
(.region none [
mv 34 11, mv 10 34] [0, 1, 2, 8, 9, 10]))))))))
(.seq
(.region none [
mv 35 9, mv 36 9, mv 37 8, bt 38 .lss 36 37, mv 39 38, ⟨some 40, .mov (.t 2), (some (39, true))⟩, ⟨some 41, .mov (.t 0), (some (39, true))⟩,
⟨some 42, .mov (.t 9), (some (39, true))⟩, ⟨some 43, .iadr 3 (.t 41) (.t 42), (some (39, true))⟩, ⟨some 44, .load (some 3) (.t 43), (some (39, true))⟩,
⟨some 45, .mov (.t 1), (some (39, true))⟩, ⟨some 46, .callv (.t 40) [(.t 44), (.t 45)], (some (39, true))⟩,
⟨some 47, .bin .eql (.t 46) (.c (.int .i64 0)), (some (39, true))⟩, pan 48 39 47, mv 6 35, mv 7 48] [6, 7])
.ret))))),
[.tmp 6, .tmp 7]⟩
theorem x183_ok : ck x183 183 := by decide +kernel
/-- peloton/cert.find$1 -/
def x184 : XFunc := ⟨2,
(.seq
(.region none [
bx 2 0, ic 4 0] [1, 2])
(.seq
(.region none [
fa 5 0 2, ln 6 5, mv 7 1, p2 8 66 6 7, mv 4 8] [4])
.ret)),
[.tmp 4]⟩
theorem x184_ok : ck x184 184 := by decide +kernel
/-- (peloton/slot.stack[int]).push -/
def x186 : XFunc := ⟨2,
(.seq
(.region none [
⟨some 4, .mov (.c (.sl 1 true [])), none⟩] [0, 1])
(.seq
(.region none [
mv 5 0, p1 6 185 5, mv 7 1, ⟨some 8, .mkrow 1 1 [.int .i64 0] [(0, (.t 7))], none⟩, ap 9 1 6 8, mv 4 9] [4])
.ret)),
[.tmp 4]⟩
theorem x186_ok : ck x186 186 := by decide +kernel
/-- peloton/pelotonref01.Sign -/
def x187 : XFunc := ⟨1,
(.seq
(.region none [
bx 1 0, ic 2 0] [1])
(.seq
(.seq
(.region none [
fa 3 1 1, ln 4 3, ⟨some 5, .bin .eql (.t 4) (.c (.int .u64 0)), none⟩, mv 6 5, ⟨some 7, .fadr 2 (.t 1), (some (6, true))⟩,
⟨some 8, .load none (.t 7), (some (6, true))⟩, ⟨some 9, .bin .eql (.t 8) (.c (.int .u64 0)), (some (6, true))⟩, pan 10 6 9] [1, 10])
(.cond (.t 10)
(.seq
(.region none [
ic 2 0] [2])
.ret)
.skip))
(.seq
(.seq
(.region none [
fa 11 0 1, ln 12 11] [12])
(.cond (.t 12)
(.seq
(.region none [
ic 2 (-1)] [2])
.ret)
.skip))
(.seq
(.region none [
ic 2 1] [2])
.ret)))),
[.tmp 2]⟩
theorem x187_ok : ck x187 187 := by decide +kernel
/-- peloton/pelotonref01.Plus -/
def x188 : XFunc := ⟨2,
(.seq
(.region none [
bx 2 0, bx 3 1, ⟨some 4, .alloc z6, none⟩] [2, 3, 4])
(.seq
(.seq
(.region none [
fa 8 0 2, ln 9 8, fa 10 0 3, ln 11 10, ⟨some 12, .binb false (.t 9) (.t 11), none⟩] [2, 3, 4, 12])
(.cond (.t 12)
(.seq
(.region none [
fa 13 0 2, ln 14 13, fa 15 1 2, ln 16 15, fa 17 1 3, ln 18 17, bt 19 .add 16 18, fa 20 2 2, ln 21 20, fa 22 2 3, ln 23 22, bt 24 .add 21 23,
⟨some 25, .build z6 [(0, 1, (.t 14)), (1, 1, (.t 19)), (2, 1, (.t 24))], none⟩,
⟨some 5, .alloc z6, none⟩, st 3 5 25] [2, 4, 5])
(.seq
(.seq
(.region none [
fa 26 2 5, ln 27 26, fa 28 2 2, ln 29 28, bt 30 .lss 27 29] [4, 5, 30])
(.cond (.t 30)
(.region none [
fa 31 1 5, ln 32 31, ⟨some 33, .bin .add (.t 32) (.c (.int .u64 1)), none⟩, fa 34 1 5, st 1 34 33] [4, 5])
.skip))
(.seq
(.region none [
ld 35 3 5, st 3 4 35] [4])
.ret)))
.skip))
(.seq
(.seq
(.region none [
ld 36 3 2, ld 37 3 3, p2 38 190 36 37, bc 39 .geq 38 0] [2, 3, 4, 39])
(.cond (.t 39)
(.seq
(.region none [
ld 40 3 2, ld 41 3 3, p2 42 193 40 41, ⟨some 6, .alloc z6, none⟩, st 3 6 42] [2, 4, 6])
(.seq
(.region none [
fa 43 0 2, ln 44 43, mv 45 44, ⟨some 46, .fadr 1 (.t 6), (some (45, true))⟩, ⟨some 47, .load none (.t 46), (some (45, true))⟩,
⟨some 48, .bin .gtr (.t 47) (.c (.int .u64 0)), (some (45, true))⟩, ⟨some 49, .mov (.t 48), (some (45, true))⟩, ⟨some 50, .fadr 2 (.t 6), (some (49, false))⟩,
⟨some 51, .load none (.t 50), (some (49, false))⟩, ⟨some 52, .bin .gtr (.t 51) (.c (.int .u64 0)), (some (49, false))⟩,
⟨some 53, .pick (.t 49) (.c (.bool true)) (.t 52), (some (45, true))⟩, pan 54 45 53, fa 55 0 6, st 1 55 54] [4, 6])
(.seq
(.region none [
ld 56 3 6, st 3 4 56] [4])
.ret)))
.skip))
(.seq
(.region none [
ld 57 3 3, ld 58 3 2, p2 59 193 57 58, ⟨some 7, .alloc z6, none⟩, st 3 7 59] [3, 4, 7])
(.seq
(.region none [
fa 60 0 3, ln 61 60, fa 62 0 7, st 1 62 61] [4, 7])
(.seq
(.region none [
ld 63 3 7, st 3 4 63] [4])
.ret)))))),
[.cell 4 (some 3)]⟩
theorem x188_ok : ck x188 188 := by decide +kernel
/-- peloton/pelotonref01.Product -/
def x189 : XFunc := ⟨2,
(.seq
(.region none [
⟨some 4, .alloc z6, none⟩] [0, 1, 4])
(.seq
(.region none [
mv 6 0, p1 7 42 6, mv 8 1, p1 9 42 8, p2 10 194 7 9, ⟨some 5, .alloc z6, none⟩, st 3 5 10] [0, 1, 4, 5])
(.seq
(.region none [
mv 11 0, bc 12 .lss 11 0, mv 13 1, bc 14 .lss 13 0, ⟨some 15, .binb true (.t 12) (.t 14), none⟩, mv 16 15, ⟨some 17, .mov (.t 0), (some (16, true))⟩,
⟨some 18, .bin .neq (.t 17) (.c (.int .i64 0)), (some (16, true))⟩, ⟨some 19, .mov (.t 18), (some (16, true))⟩, ⟨some 20, .mov (.t 1), (some (19, true))⟩,
⟨some 21, .bin .neq (.t 20) (.c (.int .i64 0)), (some (19, true))⟩, ⟨some 22, .pick (.t 19) (.t 21) (.c (.bool false)), (some (16, true))⟩, pan 23 16 22,
fa 24 0 5, st 1 24 23] [4, 5])
(.seq
(.region none [
ld 25 3 5, st 3 4 25] [4])
.ret)))),
[.cell 4 (some 3)]⟩
theorem x189_ok : ck x189 189 := by decide +kernel
/-- peloton/pelotonref01.less -/
def x190 : XFunc := ⟨2,
(.seq
(.region none [
bx 2 0, bx 3 1, ic 4 0] [2, 3])
(.seq
(.seq
(.region none [
fa 5 1 2, ln 6 5, fa 7 1 3, ln 8 7, bt 9 .neq 6 8] [2, 3, 9])
(.cond (.t 9)
(.seq
(.seq
(.region none [
fa 10 1 2, ln 11 10, fa 12 1 3, ln 13 12, bt 14 .lss 11 13] [14])
(.cond (.t 14)
(.seq
(.region none [
ic 4 (-1)] [4])
.ret)
.skip))
(.seq
(.region none [
ic 4 1] [4])
.ret))
.skip))
(.seq
(.seq
(.region none [
fa 15 2 2, ln 16 15, fa 17 2 3, ln 18 17, bt 19 .neq 16 18] [2, 3, 19])
(.cond (.t 19)
(.seq
(.seq
(.region none [
fa 20 2 2, ln 21 20, fa 22 2 3, ln 23 22, bt 24 .lss 21 23] [24])
(.cond (.t 24)
(.seq
(.region none [
ic 4 (-1)] [4])
.ret)
.skip))
(.seq
(.region none [
ic 4 1] [4])
.ret))
.skip))
(.seq
(.region none [
ic 4 0] [4])
.ret)))),
[.tmp 4]⟩
theorem x190_ok : ck x190 190 := by decide +kernel
/-- peloton/pelotonref01.made -/
def x191 : XFunc := ⟨3,
(.seq
(.region none [
bx 4 1, bx 5 2, ⟨some 6, .alloc z8, none⟩, ic 7 0] [0, 4, 5, 6])
(.seq
(.seq
(.region none [
fa 8 1 4, ln 9 8, ⟨some 10, .bin .gtr (.t 9) (.c (.int .u64 0)), none⟩, mv 11 10, ⟨some 12, .fadr 2 (.t 4), (some (11, false))⟩,
⟨some 13, .load none (.t 12), (some (11, false))⟩, ⟨some 14, .bin .gtr (.t 13) (.c (.int .u64 9223372036854775807)), (some (11, false))⟩, por 15 11 14,
mv 16 15, ⟨some 17, .fadr 1 (.t 5), (some (16, false))⟩, ⟨some 18, .load none (.t 17), (some (16, false))⟩,
⟨some 19, .bin .gtr (.t 18) (.c (.int .u64 0)), (some (16, false))⟩, por 20 16 19, mv 21 20, ⟨some 22, .fadr 2 (.t 5), (some (21, false))⟩,
⟨some 23, .load none (.t 22), (some (21, false))⟩, ⟨some 24, .bin .gtr (.t 23) (.c (.int .u64 9223372036854775807)), (some (21, false))⟩,
por 25 21 24] [0, 4, 5, 6, 25])
(.cond (.t 25)
(.seq
(.region none [
⟨some 26, .build z8 [], none⟩, st 2 6 26, ic 7 16] [6, 7])
.ret)
.skip))
(.seq
(.seq
(.region none [
mv 27 0] [4, 5, 6, 27])
(.cond (.t 27)
(.seq
(.region none [
fa 28 2 4, ln 29 28, ⟨some 30, .conv .i64 (.t 29), none⟩, ⟨some 31, .un .neg (.t 30), none⟩, fa 32 2 5, ln 33 32, ⟨some 34, .conv .i64 (.t 33), none⟩,
⟨some 35, .build z8 [(0, 1, (.t 31)), (1, 1, (.t 34))], none⟩, st 2 6 35, ic 7 0] [6, 7])
.ret)
.skip))
(.seq
(.region none [
fa 36 2 4, ln 37 36, ⟨some 38, .conv .i64 (.t 37), none⟩, fa 39 2 5, ln 40 39, ⟨some 41, .conv .i64 (.t 40), none⟩,
⟨some 42, .build z8 [(0, 1, (.t 38)), (1, 1, (.t 41))], none⟩, st 2 6 42, ic 7 0] [6, 7])
.ret)))),
[.cell 6 (some 2), .tmp 7]⟩
theorem x191_ok : ck x191 191 := by decide +kernel
/-- cmp.isNaN[uint64] -/
def x192 : XFunc := ⟨1,
(.seq
(.region none [
⟨some 2, .mov (.c (.bool false)), none⟩] [0])
(.seq
(.region none [
mv 3 0, mv 4 0, bt 5 .neq 3 4, mv 2 5] [2])
.ret)),
[.tmp 2]⟩
theorem x192_ok : ck x192 192 := by decide +kernel
/-- peloton/pelotonref01.minus -/
def x193 : XFunc := ⟨2,
(.seq
(.region none [
bx 2 0, bx 3 1, ⟨some 4, .alloc z6, none⟩] [2, 3, 4])
(.seq
(.region none [
fa 6 1 2, ln 7 6, fa 8 1 3, ln 9 8, bt 10 .sub 7 9, fa 11 2 2, ln 12 11, fa 13 2 3, ln 14 13, bt 15 .sub 12 14,
⟨some 16, .build z6 [(1, 1, (.t 10)), (2, 1, (.t 15))], none⟩,
⟨some 5, .alloc z6, none⟩, st 3 5 16] [2, 3, 4, 5])
(.seq
(.seq
(.region none [
fa 17 2 2, ln 18 17, fa 19 2 3, ln 20 19, bt 21 .lss 18 20] [4, 5, 21])
(.cond (.t 21)
(.region none [
fa 22 1 5, ln 23 22, ⟨some 24, .bin .sub (.t 23) (.c (.int .u64 1)), none⟩, fa 25 1 5, st 1 25 24] [4, 5])
.skip))
(.seq
(.region none [
ld 26 3 5, st 3 4 26] [4])
.ret)))),
[.cell 4 (some 3)]⟩
theorem x193_ok : ck x193 193 := by decide +kernel
/-- peloton/pelotonref01.product -/
def x194 : XFunc := ⟨2,
(.seq
(.region none [
⟨some 4, .alloc z6, none⟩] [0, 1, 4])
(.seq
(.region none [
mv 12 0, ⟨some 13, .bin .quo (.t 12) (.c (.int .u64 4294967296)), none⟩, mv 14 0, ⟨some 15, .bin .rem (.t 14) (.c (.int .u64 4294967296)), none⟩, mv 16 1,
⟨some 17, .bin .quo (.t 16) (.c (.int .u64 4294967296)), none⟩, mv 18 1, ⟨some 19, .bin .rem (.t 18) (.c (.int .u64 4294967296)), none⟩, mv 5 13, mv 6 15,
mv 7 17, mv 8 19] [4, 5, 6, 7, 8])
(.seq
(.region none [
mv 20 6, mv 21 8, bt 22 .mul 20 21, mv 9 22] [4, 5, 6, 7, 8, 9])
(.seq
(.region none [
mv 23 5, mv 24 8, bt 25 .mul 23 24, mv 26 9, ⟨some 27, .bin .quo (.t 26) (.c (.int .u64 4294967296)), none⟩, bt 28 .add 25 27, mv 10 28] [4, 5, 6, 7, 9, 10])
(.seq
(.region none [
mv 29 6, mv 30 7, bt 31 .mul 29 30, mv 32 10, ⟨some 33, .bin .rem (.t 32) (.c (.int .u64 4294967296)), none⟩, bt 34 .add 31 33, mv 11 34] [4, 5, 7, 9, 10, 11])
(.seq
(.region none [
mv 35 5, mv 36 7, bt 37 .mul 35 36, mv 38 10, ⟨some 39, .bin .quo (.t 38) (.c (.int .u64 4294967296)), none⟩, bt 40 .add 37 39, mv 41 11,
⟨some 42, .bin .quo (.t 41) (.c (.int .u64 4294967296)), none⟩, bt 43 .add 40 42, mv 44 11, ⟨some 45, .bin .rem (.t 44) (.c (.int .u64 4294967296)), none⟩,
⟨some 46, .bin .mul (.t 45) (.c (.int .u64 4294967296)), none⟩, mv 47 9, ⟨some 48, .bin .rem (.t 47) (.c (.int .u64 4294967296)), none⟩, bt 49 .add 46 48,
⟨some 50, .build z6 [(1, 1, (.t 43)), (2, 1, (.t 49))], none⟩, st 3 4 50] [4])
.ret)))))),
[.cell 4 (some 3)]⟩
theorem x194_ok : ck x194 194 := by decide +kernel
end Go.Proofs.YtppeldaebnfmdabGreat
