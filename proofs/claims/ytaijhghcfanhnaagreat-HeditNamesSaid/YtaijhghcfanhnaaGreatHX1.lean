/- Functions of the seat as the logical machine runs them, and the look at each of them (1). Printed by a program. -/
import Derived.Test.YtaijhghcfanhnaaGreatVm3
import Derived.Test.YtaijhghcfanhnaaGreatProg
set_option maxRecDepth 100000
namespace Go.Proofs.YtaijhghcfanhnaaGreat
open Go.Vm
abbrev mv (d s : Nat) : XOper := ⟨some d, .mov (.t s), none⟩
abbrev ic (d : Nat) (n : Int) : XOper := ⟨some d, .mov (.c (.int .i64 n)), none⟩
abbrev ld (d a s : Nat) : XOper := ⟨some d, .load (some a) (.t s), none⟩
abbrev ln (d s : Nat) : XOper := ⟨some d, .load none (.t s), none⟩
abbrev fa (d o s : Nat) : XOper := ⟨some d, .fadr o (.t s), none⟩
abbrev st (z p s : Nat) : XOper := ⟨none, .store z (.t p) (.t s), none⟩
abbrev ex (d i s : Nat) : XOper := ⟨some d, .ext i (.t s), none⟩
abbrev bx (d s : Nat) : XOper := ⟨some d, .box (.t s), none⟩
abbrev le (d s : Nat) : XOper := ⟨some d, .len (.t s), none⟩
abbrev ia (d z s i : Nat) : XOper := ⟨some d, .iadr z (.t s) (.t i), none⟩
abbrev bt (d : Nat) (o : BinOp) (a b : Nat) : XOper := ⟨some d, .bin o (.t a) (.t b), none⟩
abbrev bc (d : Nat) (o : BinOp) (a : Nat) (n : Int) : XOper := ⟨some d, .bin o (.t a) (.c (.int .i64 n)), none⟩
abbrev ap (d z a b : Nat) : XOper := ⟨some d, .append z (.t a) (.t b), none⟩
abbrev por (d a b : Nat) : XOper := ⟨some d, .pick (.t a) (.c (.bool true)) (.t b), none⟩
abbrev pan (d a b : Nat) : XOper := ⟨some d, .pick (.t a) (.t b) (.c (.bool false)), none⟩
abbrev p1 (d f a : Nat) : XOper := ⟨some d, .call .pur f [(.t a)], none⟩
abbrev p2 (d f a b : Nat) : XOper := ⟨some d, .call .pur f [(.t a), (.t b)], none⟩
abbrev p3 (d f a b c : Nat) : XOper := ⟨some d, .call .pur f [(.t a), (.t b), (.t c)], none⟩
abbrev p4 (d f a b c e : Nat) : XOper := ⟨some d, .call .pur f [(.t a), (.t b), (.t c), (.t e)], none⟩
abbrev z0 : List PV := [.int .i64 0, .int .i64 0, .sl 3 true [], .int .i64 0, .sl 3 true [], .sl 1 true [], .sl 1 true [], .sl 1 true [], .sl 5 true [], .sl 1 true [], .sl 3 true [], .sl 1 true []]
abbrev z1 : List PV := [.int .i64 0, .int .i64 0, .sl 3 true [], .int .i64 0, .sl 3 true [], .sl 1 true [], .sl 1 true [], .sl 1 true [], .sl 5 true [], .sl 1 true [], .sl 3 true []]
abbrev z2 : List PV := [.sl 1 true [], .sl 1 true [], .sl 1 true [], .sl 5 true [], .sl 1 true []]
abbrev z3 : List PV := [.int .i64 0, .int .i64 0, .int .i64 0, .int .i64 0, .int .i64 0]
abbrev z4 : List PV := [.sl 1 true [], .sl 1 true [], .sl 1 true []]
abbrev z5 : List PV := [.int .i64 0, .int .i64 0, .int .i64 0]
abbrev z6 : List PV := [.bool false, .int .u64 0, .int .u64 0]
abbrev z7 : List PV := [.int .i64 0, .sl 3 true []]
abbrev z8 : List PV := [.int .i64 0, .int .i64 0]
abbrev z9 : List PV := [.int .i64 0, .int .u64 0]
abbrev ck (x : XFunc) (n : Nat) : Prop := chkFunc Go.Proofs.Tryz.prog (fun _ => true) x n = true
/-- peloton/pelotonlaw14.HeditNames -/
def x3 : XFunc := ⟨0,
(.seq
(.region none [
⟨some 0, .mov (.c (.bool false)), none⟩] [])
(.seq
(.region none [
⟨some 31, .call .pur 4 [], none⟩,
⟨some 1, .alloc z0, none⟩,
st 12 1 31] [1])
(.seq
(.region none [
⟨some 33, .build z0 [], none⟩,
⟨some 34, .build z5 [(0, 1, (.c (.int .i64 (-1))))], none⟩, p2 35 5 33 34, mv 32 35, ex 36 0 32, ex 37 1 32,
⟨some 2, .alloc z0, none⟩,
st 12 2 36, mv 3 37] [1, 3])
(.seq
(.region none [
ld 39 12 1, ⟨some 40, .build z5 [(0, 1, (.c (.int .i64 (-1))))], none⟩, p2 41 5 39 40, mv 38 41, ex 42 0 38, ex 43 1 38,
⟨some 4, .alloc z0, none⟩,
st 12 4 42, mv 5 43] [1, 3, 5])
(.seq
(.region none [
ld 45 12 1, ⟨some 46, .build z5 [(0, 1, (.c (.int .i64 5)))], none⟩, p2 47 5 45 46, mv 44 47, ex 48 0 44, ex 49 1 44,
⟨some 6, .alloc z0, none⟩,
st 12 6 48, mv 7 49] [1, 3, 5, 7])
(.seq
(.region none [
ld 51 12 1, ⟨some 52, .call .pur 6 [(.t 51), (.c (.int .i64 6))], none⟩, mv 50 52, ex 53 0 50, ex 54 1 50,
⟨some 8, .alloc z0, none⟩,
st 12 8 53, mv 9 54] [1, 3, 5, 7, 9])
(.seq
(.region none [
ld 56 12 1, ⟨some 57, .call .pur 6 [(.t 56), (.c (.int .i64 (-1)))], none⟩, mv 55 57, ex 58 0 55, ex 59 1 55,
⟨some 10, .alloc z0, none⟩,
st 12 10 58, mv 11 59] [1, 3, 5, 7, 9, 11])
(.seq
(.region none [
ld 61 12 1, ⟨some 62, .build z5 [(0, 1, (.c (.int .i64 6)))], none⟩, p2 63 7 61 62, mv 60 63, ex 64 0 60, ex 65 1 60,
⟨some 12, .alloc z0, none⟩,
st 12 12 64, mv 13 65] [1, 3, 5, 7, 9, 11, 13])
(.seq
(.region none [
ld 67 12 1, ⟨some 68, .build z5 [(0, 1, (.c (.int .i64 5))), (2, 1, (.c (.int .i64 1048577)))], none⟩, p2 69 7 67 68,
mv 66 69, ex 70 0 66, ex 71 1 66,
⟨some 14, .alloc z0, none⟩,
st 12 14 70, mv 15 71] [1, 3, 5, 7, 9, 11, 13, 15])
(.seq
(.region none [
⟨some 72, .build [.sl 3 true []] [], none⟩, ⟨some 73, .call .pur 9 [(.c (.int .i64 3))], none⟩, p2 74 8 72 73,
⟨some 16, .alloc z0, none⟩,
st 12 16 74] [1, 3, 5, 7, 9, 11, 13, 15, 16])
(.seq
(.region none [
ld 76 12 16, ⟨some 77, .build z5 [(0, 1, (.c (.int .i64 9)))], none⟩, p2 78 5 76 77, mv 75 78, ex 79 0 75, ex 80 1 75,
st 12 16 79, mv 17 80] [1, 3, 5, 7, 9, 11, 13, 15, 16, 17])
(.seq
(.region none [
ld 82 12 16, ⟨some 83, .call .pur 6 [(.t 82), (.c (.int .i64 9))], none⟩, mv 81 83, ex 84 0 81, ex 85 1 81,
⟨some 18, .alloc z0, none⟩,
st 12 18 84, mv 19 85] [1, 3, 5, 7, 9, 11, 13, 15, 16, 17, 18, 19])
(.seq
(.region none [
ld 87 12 18, ⟨some 88, .call .pur 6 [(.t 87), (.c (.int .i64 9))], none⟩, mv 86 88, ex 89 0 86, ex 90 1 86,
⟨some 20, .alloc z0, none⟩,
st 12 20 89, mv 21 90] [1, 3, 5, 7, 9, 11, 13, 15, 16, 17, 18, 19, 21])
(.seq
(.region none [
ld 91 12 1, ⟨some 92, .call .own 10 [(.t 91)], none⟩,
⟨some 22, .alloc z0, none⟩,
st 12 22 92] [1, 3, 5, 7, 9, 11, 13, 15, 16, 17, 18, 19, 21, 22])
(.seq
(.region none [
fa 93 0 22, fa 94 3 93, fa 95 0 94, ⟨none, .store 1 (.t 95) (.c (.int .i64 1000000)), none⟩] [1, 3, 5, 7, 9, 11, 13, 15, 16, 17, 18, 19, 21, 22])
(.seq
(.region none [
ld 97 12 22, ⟨some 98, .build z5 [(0, 1, (.c (.int .i64 7)))], none⟩, p2 99 5 97 98, mv 96 99, ex 100 0 96, ex 101 1 96,
⟨some 23, .alloc z0, none⟩,
st 12 23 100, mv 24 101] [1, 3, 5, 7, 9, 11, 13, 15, 16, 17, 18, 19, 21, 22, 24])
(.seq
(.region (some [0, 0, 2, 6, 14, 31, 63, 127, 127, 0, 767, 2047]) [
ld 103 12 22, fa 104 11 1, ln 105 104, ⟨some 106, .iadr 1 (.t 105) (.c (.int .i64 2)), none⟩, ln 107 106, p2 108 6 103 107, mv 102 108, ex 109 0 102,
ex 110 1 102,
⟨some 25, .alloc z0, none⟩,
st 12 25 109, mv 26 110] [3, 5, 7, 9, 11, 13, 15, 16, 17, 18, 19, 21, 24, 25, 26])
(.seq
(.region none [
⟨some 27, .alloc [.sl 3 true []], none⟩] [3, 5, 7, 9, 11, 13, 15, 16, 17, 18, 19, 21, 24, 25, 26, 27])
(.seq
(.seq
(.region none [
ic 28 0] [3, 5, 7, 9, 11, 13, 15, 16, 17, 18, 19, 21, 24, 25, 26, 27, 28])
(.block 0
(.loop [(3, none), (5, none), (7, none), (9, none), (11, none), (13, none), (15, none), (16, none), (17, none), (18, none), (19, none), (21, none), (24, none), (25, none), (26, none), (27, none), (28, none), (27, some 1003)]
(.seq
(.seq
(.region none [
mv 111 28, bc 112 .lss 111 64] [3, 5, 7, 9, 11, 13, 15, 16, 17, 18, 19, 21, 24, 25, 26, 27, 28, 112])
(.cond (.t 112)
.skip
(.exit 0)))
(.seq
(.block 1
(.region none [
fa 115 0 27, ln 116 115, mv 117 28, mv 118 28, ⟨some 119, .build z5 [(0, 1, (.t 117)), (1, 1, (.t 118))], none⟩,
⟨some 120, .mkrow 3 1 z5 [(0, (.t 119))], none⟩, ap 121 3 116 120, fa 122 0 27,
st 1 122 121] [3, 5, 7, 9, 11, 13, 15, 16, 17, 18, 19, 21, 24, 25, 26, 27, 28]))
(.region none [
mv 113 28, bc 114 .add 113 1, mv 28 114] [3, 5, 7, 9, 11, 13, 15, 16, 17, 18, 19, 21, 24, 25, 26, 27, 28]))))))
(.seq
(.region (some [0, 0, 3, 0, 15, 31, 63, 63, 0, 383, 1023]) [
ld 124 1 27, ⟨some 125, .call .pur 9 [(.c (.int .i64 0))], none⟩, p2 126 8 124 125,
⟨some 127, .build z5 [(0, 1, (.c (.int .i64 64)))], none⟩, p2 128 5 126 127, mv 123 128, ex 129 0 123, ex 130 1 123,
⟨some 29, .alloc z0, none⟩,
st 12 29 129, mv 30 130] [3, 5, 7, 9, 11, 13, 15, 16, 17, 18, 19, 21, 24, 25, 26, 30])
(.seq
(.region none [
⟨some 131, .call .pur 11 [], none⟩, mv 132 131, ⟨some 133, .mov (.t 3), (some (132, true))⟩,
⟨some 134, .bin .eql (.t 133) (.c (.int .i64 8)), (some (132, true))⟩, pan 135 132 134, mv 136 135, ⟨some 137, .mov (.t 5), (some (136, true))⟩,
⟨some 138, .bin .eql (.t 137) (.c (.int .i64 8)), (some (136, true))⟩, pan 139 136 138, mv 140 139, ⟨some 141, .mov (.t 7), (some (140, true))⟩,
⟨some 142, .bin .eql (.t 141) (.c (.int .i64 14)), (some (140, true))⟩, pan 143 140 142, mv 144 143, ⟨some 145, .mov (.t 9), (some (144, true))⟩,
⟨some 146, .bin .eql (.t 145) (.c (.int .i64 6)), (some (144, true))⟩, pan 147 144 146, mv 148 147, ⟨some 149, .mov (.t 11), (some (148, true))⟩,
⟨some 150, .bin .eql (.t 149) (.c (.int .i64 6)), (some (148, true))⟩, pan 151 148 150, mv 152 151, ⟨some 153, .mov (.t 13), (some (152, true))⟩,
⟨some 154, .bin .eql (.t 153) (.c (.int .i64 6)), (some (152, true))⟩, pan 155 152 154, mv 156 155, ⟨some 157, .mov (.t 15), (some (156, true))⟩,
⟨some 158, .bin .eql (.t 157) (.c (.int .i64 8)), (some (156, true))⟩, pan 159 156 158, mv 160 159, ⟨some 161, .mov (.t 17), (some (160, true))⟩,
⟨some 162, .bin .eql (.t 161) (.c (.int .i64 0)), (some (160, true))⟩, pan 163 160 162, mv 164 163, ⟨some 165, .fadr 11 (.t 16), (some (164, true))⟩,
⟨some 166, .load none (.t 165), (some (164, true))⟩, ⟨some 167, .mkrow 1 1 [.int .i64 0] [(0, (.c (.int .i64 9)))], (some (164, true))⟩,
⟨some 168, .call .pur 12 [(.t 166), (.t 167)], (some (164, true))⟩, pan 169 164 168, mv 170 169, ⟨some 171, .mov (.t 19), (some (170, true))⟩,
⟨some 172, .bin .eql (.t 171) (.c (.int .i64 0)), (some (170, true))⟩, pan 173 170 172, mv 174 173, ⟨some 175, .fadr 11 (.t 18), (some (174, true))⟩,
⟨some 176, .load none (.t 175), (some (174, true))⟩, ⟨some 177, .len (.t 176), (some (174, true))⟩,
⟨some 178, .bin .eql (.t 177) (.c (.int .i64 0)), (some (174, true))⟩, pan 179 174 178, mv 180 179, ⟨some 181, .fadr 0 (.t 18), (some (180, true))⟩,
⟨some 182, .fadr 3 (.t 181), (some (180, true))⟩, ⟨some 183, .fadr 1 (.t 182), (some (180, true))⟩, ⟨some 184, .load none (.t 183), (some (180, true))⟩,
⟨some 185, .len (.t 184), (some (180, true))⟩, ⟨some 186, .bin .eql (.t 185) (.c (.int .i64 0)), (some (180, true))⟩, pan 187 180 186, mv 188 187,
⟨some 189, .mov (.t 21), (some (188, true))⟩, ⟨some 190, .bin .eql (.t 189) (.c (.int .i64 6)), (some (188, true))⟩, pan 191 188 190, mv 192 191,
⟨some 193, .mov (.t 24), (some (192, true))⟩, ⟨some 194, .bin .eql (.t 193) (.c (.int .i64 18)), (some (192, true))⟩, pan 195 192 194, mv 196 195,
⟨some 197, .mov (.t 26), (some (196, true))⟩, ⟨some 198, .bin .eql (.t 197) (.c (.int .i64 0)), (some (196, true))⟩, pan 199 196 198, mv 200 199,
⟨some 201, .fadr 11 (.t 25), (some (200, true))⟩, ⟨some 202, .load none (.t 201), (some (200, true))⟩, ⟨some 203, .len (.t 202), (some (200, true))⟩,
⟨some 204, .bin .eql (.t 203) (.c (.int .i64 2)), (some (200, true))⟩, pan 205 200 204, mv 206 205, ⟨some 207, .mov (.t 30), (some (206, true))⟩,
⟨some 208, .bin .eql (.t 207) (.c (.int .i64 18)), (some (206, true))⟩, pan 209 206 208, mv 0 209] [0])
.ret))))))))))))))))))))),
[.tmp 0]⟩
theorem x3_ok : ck x3 3 := by decide +kernel
/-- peloton/pelotonlaw14.given -/
def x4 : XFunc := ⟨0,
(.seq
(.region none [
⟨some 0, .alloc z0, none⟩] [0])
(.seq
(.region none [
⟨some 5, .build z5 [(0, 1, (.c (.int .i64 1))), (1, 1, (.c (.int .i64 0))), (2, 1, (.c (.int .i64 2)))], none⟩,
⟨some 6, .build z5 [(0, 1, (.c (.int .i64 2))), (1, 1, (.c (.int .i64 6))), (2, 1, (.c (.int .i64 (-1))))], none⟩,
⟨some 7, .build z5 [(0, 1, (.c (.int .i64 5))), (1, 1, (.c (.int .i64 0))), (2, 1, (.c (.int .i64 0)))], none⟩,
⟨some 8, .mkrow 3 3 z5 [(0, (.t 5)), (1, (.t 6)), (2, (.t 7))], none⟩,
⟨some 9, .build [.sl 3 true []] [(0, 1, (.t 8))], none⟩, ⟨some 1, .alloc [.sl 3 true []], none⟩, st 1 1 9] [0, 1])
(.seq
(.region (some [0, 0, 3, 7, 15, 31, 63, 63, 63, 0, 639, 1791, 4095]) [
ld 11 1 1, ⟨some 12, .call .pur 9 [(.c (.int .i64 0))], none⟩, p2 13 8 11 12, ⟨some 14, .call .pur 9 [(.c (.int .i64 2))], none⟩, p2 15 13 13 14, mv 10 15,
ex 16 0 10, ex 17 1 10, ex 18 2 10,
⟨some 2, .alloc z0, none⟩,
st 12 2 16, mv 3 17, mv 4 18] [0, 2])
(.seq
(.region none [
ld 19 12 2, st 12 0 19] [0])
.ret)))),
[.cell 0 (some 12)]⟩
theorem x4_ok : ck x4 4 := by decide +kernel
/-- peloton/hedit.Put -/
def x5 : XFunc := ⟨2,
(.seq
(.region none [
bx 2 0, bx 3 1,
⟨some 4, .alloc z0, none⟩,
ic 5 0] [2, 3, 4])
(.seq
(.seq
(.region none [
ld 12 12 2, p1 13 14 12, mv 6 13] [2, 3, 4, 6])
(.seq
(.region none [
mv 14 6, bc 15 .neq 14 0] [2, 3, 4, 6, 15])
(.cond (.t 15)
(.seq
(.region none [
⟨some 16, .build z0 [], none⟩,
mv 17 6, st 12 4 16, mv 5 17] [4, 5])
.ret)
.skip)))
(.seq
(.region none [
fa 19 0 2, fa 20 2 19, ld 21 1 20, ld 22 3 3, p2 23 15 21 22, mv 18 23, ex 24 0 18, ex 25 1 18, ⟨some 7, .alloc [.sl 3 true []], none⟩, st 1 7 24,
mv 8 25] [2, 3, 4, 7, 8])
(.seq
(.seq
(.region none [
mv 26 8, bc 27 .neq 26 0] [2, 3, 4, 7, 8, 27])
(.cond (.t 27)
(.seq
(.region none [
⟨some 28, .build z0 [], none⟩,
mv 29 8, st 12 4 28, mv 5 29] [4, 5])
.ret)
.skip))
(.seq
(.region (some [0, 1, 3, 0, 8, 24, 63, 127]) [
fa 30 11 2, ln 31 30, p1 32 16 31, fa 33 0 3, ln 34 33, ⟨some 35, .mkrow 1 1 [.int .i64 0] [(0, (.t 34))], none⟩, ap 36 1 32 35, mv 9 36] [2, 4, 7, 9])
(.seq
(.region none [
ld 38 1 7, fa 39 0 2, fa 40 0 39, ld 41 2 40, mv 42 9, ⟨some 43, .call .shr 17 [(.t 38), (.t 41), (.t 42)], none⟩, mv 37 43, ex 44 0 37, ex 45 1 37, mv 10 44,
mv 11 45] [2, 4, 7, 9, 10])
(.seq
(.region none [
mv 46 10, mv 47 9, le 48 47, bc 49 .sub 48 1, ⟨some 50, .callv (.t 46) [(.t 49)], none⟩] [2, 4, 7, 9])
(.seq
(.region none [
fa 51 0 2, ld 52 11 51, ld 53 1 7, mv 54 9, p3 55 18 52 53 54, ex 56 0 55, ex 57 1 55, st 12 4 56, mv 5 57] [4, 5])
.ret)))))))),
[.cell 4 (some 12), .tmp 5]⟩
theorem x5_ok : ck x5 5 := by decide +kernel
/-- peloton/hedit.Take -/
def x6 : XFunc := ⟨2,
(.seq
(.region none [
bx 2 0,
⟨some 4, .alloc z0, none⟩,
ic 5 0] [1, 2, 4])
(.seq
(.seq
(.region none [
ld 14 12 2, p1 15 14 14, mv 6 15] [1, 2, 4, 6])
(.seq
(.region none [
mv 16 6, bc 17 .neq 16 0] [1, 2, 4, 6, 17])
(.cond (.t 17)
(.seq
(.region none [
⟨some 18, .build z0 [], none⟩,
mv 19 6, st 12 4 18, mv 5 19] [4, 5])
.ret)
.skip)))
(.seq
(.region none [
fa 21 0 2, fa 22 2 21, ld 23 1 22, mv 24 1, p2 25 19 23 24, mv 20 25, ex 26 0 20, ex 27 1 20, ⟨some 7, .alloc [.sl 3 true []], none⟩, st 1 7 26,
mv 8 27] [1, 2, 4, 7, 8])
(.seq
(.seq
(.region none [
mv 28 8, bc 29 .neq 28 0] [1, 2, 4, 7, 8, 29])
(.cond (.t 29)
(.seq
(.region none [
⟨some 30, .build z0 [], none⟩,
mv 31 8, st 12 4 30, mv 5 31] [4, 5])
.ret)
.skip))
(.seq
(.region none [
fa 32 11 2, ln 33 32, p1 34 16 33, mv 9 34] [1, 2, 4, 7, 9])
(.seq
(.region none [
mv 35 9, mv 36 1, p2 37 20 35 36, mv 38 9, le 39 38, bc 40 .sub 39 1, mv 10 37, mv 11 40] [2, 4, 7, 9, 10, 11])
(.seq
(.region none [
mv 41 9, mv 42 10, mv 43 9, mv 44 11, ia 45 1 43 44, ln 46 45, ia 47 1 41 42, st 1 47 46] [2, 4, 7, 9, 10, 11])
(.seq
(.region none [
mv 48 9, mv 49 11, ⟨some 50, .slc 1 (.t 48) none (some (.t 49)) none, none⟩, mv 9 50] [2, 4, 7, 9, 10, 11])
(.seq
(.seq
(.region none [
mv 51 10, mv 52 11, bt 53 .lss 51 52] [2, 4, 7, 9, 10, 53])
(.cond (.t 53)
(.seq
(.region none [
ld 55 1 7, fa 56 0 2, fa 57 0 56, ld 58 2 57, mv 59 9, ⟨some 60, .call .shr 17 [(.t 55), (.t 58), (.t 59)], none⟩, mv 54 60, ex 61 0 54, ex 62 1 54, mv 12 61,
mv 13 62] [2, 4, 7, 9, 10, 12, 13])
(.region none [
mv 63 13, mv 64 12, mv 65 10, ⟨some 66, .callv (.t 64) [(.t 65)], none⟩, ⟨some 67, .callv (.t 63) [(.t 66)], none⟩] [2, 4, 7, 9]))
.skip))
(.seq
(.region none [
fa 68 0 2, ld 69 11 68, ld 70 1 7, mv 71 9, p3 72 18 69 70 71, ex 73 0 72, ex 74 1 72, st 12 4 73, mv 5 74] [4, 5])
.ret)))))))))),
[.cell 4 (some 12), .tmp 5]⟩
theorem x6_ok : ck x6 6 := by decide +kernel
/-- peloton/hedit.Change -/
def x7 : XFunc := ⟨2,
(.seq
(.region none [
bx 2 0, bx 3 1,
⟨some 4, .alloc z0, none⟩,
ic 5 0] [2, 3, 4])
(.seq
(.seq
(.region none [
ld 12 12 2, p1 13 14 12, mv 6 13] [2, 3, 4, 6])
(.seq
(.region none [
mv 14 6, bc 15 .neq 14 0] [2, 3, 4, 6, 15])
(.cond (.t 15)
(.seq
(.region none [
⟨some 16, .build z0 [], none⟩,
mv 17 6, st 12 4 16, mv 5 17] [4, 5])
.ret)
.skip)))
(.seq
(.region none [
fa 19 0 2, fa 20 2 19, ld 21 1 20, ld 22 3 3, p2 23 21 21 22, mv 18 23, ex 24 0 18, ex 25 1 18, ⟨some 7, .alloc [.sl 3 true []], none⟩, st 1 7 24,
mv 8 25] [2, 3, 4, 7, 8])
(.seq
(.seq
(.region none [
mv 26 8, bc 27 .neq 26 0] [2, 3, 4, 7, 8, 27])
(.cond (.t 27)
(.seq
(.region none [
⟨some 28, .build z0 [], none⟩,
mv 29 8, st 12 4 28, mv 5 29] [4, 5])
.ret)
.skip))
(.seq
(.region none [
fa 30 11 2, ln 31 30, p1 32 16 31, mv 9 32] [2, 3, 4, 7, 9])
(.seq
(.region none [
ld 34 1 7, fa 35 0 2, fa 36 0 35, ld 37 2 36, mv 38 9, ⟨some 39, .call .shr 17 [(.t 34), (.t 37), (.t 38)], none⟩, mv 33 39, ex 40 0 33, ex 41 1 33, mv 10 40,
mv 11 41] [2, 3, 4, 7, 9, 10, 11])
(.seq
(.region none [
mv 42 11, mv 43 10, mv 44 9, fa 45 0 3, ln 46 45, p2 47 20 44 46, ⟨some 48, .callv (.t 43) [(.t 47)], none⟩,
⟨some 49, .callv (.t 42) [(.t 48)], none⟩] [2, 4, 7, 9])
(.seq
(.region none [
fa 50 0 2, ld 51 11 50, ld 52 1 7, mv 53 9, p3 54 18 51 52 53, ex 55 0 54, ex 56 1 54, st 12 4 55, mv 5 56] [4, 5])
.ret)))))))),
[.cell 4 (some 12), .tmp 5]⟩
theorem x7_ok : ck x7 7 := by decide +kernel
/-- peloton/pelotonref13.Heaped -/
def x8 : XFunc := ⟨2,
(.seq
(.region none [
bx 2 0, bx 3 1,
⟨some 4, .alloc z0, none⟩] [2, 3, 4])
(.seq
(.region none [
⟨some 5, .mov (.c (.sl 1 true [])), none⟩] [2, 3, 4, 5])
(.seq
(.seq
(.region none [
ic 6 0] [2, 3, 4, 5, 6])
(.block 0
(.loop [(2, none), (3, none), (4, none), (5, some 1), (6, none)]
(.seq
(.seq
(.region none [
mv 9 6, fa 10 0 2, ln 11 10, le 12 11, bt 13 .lss 9 12] [2, 3, 4, 5, 6, 13])
(.cond (.t 13)
.skip
(.exit 0)))
(.seq
(.block 1
(.region (some [0, 0, 0, 0, 12, 0, 32, 0, 224, 480, 992, 2016, 4092, 0, 16383, 32767]) [
ld 16 1 2, ld 17 2 3, ⟨some 18, .mkrow 1 0 [.int .i64 0] [], none⟩, mv 19 5, ap 20 1 18 19, fa 21 0 2, ln 22 21, mv 23 6, ia 24 3 22 23, fa 25 0 24, ln 26 25,
⟨some 27, .mkrow 1 1 [.int .i64 0] [(0, (.t 26))], none⟩, ap 28 1 20 27, mv 29 6, ⟨some 30, .call .own 22 [(.t 16), (.t 17), (.t 28), (.t 29)], none⟩,
mv 5 30] [2, 3, 4, 5, 6]))
(.region none [
mv 14 6, bc 15 .add 14 1, mv 6 15] [2, 3, 4, 5, 6]))))))
(.seq
(.region (some [0, 0, 3, 0, 0, 23, 63, 127, 255, 255, 0, 1535, 4095]) [
ld 32 1 2, ld 33 2 3, p2 34 24 32 33, ld 35 1 2, mv 36 5, ⟨some 37, .call .own 25 [(.t 36)], none⟩, p3 38 23 34 35 37, mv 31 38, ex 39 0 31, ex 40 1 31,
⟨some 7, .alloc z1, none⟩,
st 11 7 39, mv 8 40] [4, 5, 7])
(.seq
(.region none [
ld 41 11 7, mv 42 5,
⟨some 43, .build z0 [(0, 11, (.t 41)), (11, 1, (.t 42))], none⟩,
st 12 4 43] [4])
.ret))))),
[.cell 4 (some 12)]⟩
theorem x8_ok : ck x8 8 := by decide +kernel
/-- peloton/pelotonlaw14.at -/
def x9 : XFunc := ⟨1,
(.seq
(.region none [
⟨some 2, .alloc z8, none⟩] [0, 2])
(.seq
(.region none [
mv 3 0, ⟨some 4, .build z8 [(0, 1, (.t 3)), (1, 1, (.c (.int .i64 1)))], none⟩, st 2 2 4] [2])
.ret)),
[.cell 2 (some 2)]⟩
theorem x9_ok : ck x9 9 := by decide +kernel
/-- peloton/pelotonref13.Twin -/
def x10 : XFunc := ⟨1,
(.seq
(.region none [
bx 1 0,
⟨some 2, .alloc z0, none⟩] [1, 2])
(.seq
(.region (some [0, 1, 3, 0, 0, 16, 63, 127, 255]) [
fa 3 0 1, ld 4 11 3, ⟨some 5, .call .own 26 [(.t 4)], none⟩, ⟨some 6, .mkrow 1 0 [.int .i64 0] [], none⟩, fa 7 11 1, ln 8 7, ap 9 1 6 8,
⟨some 10, .build z0 [(0, 11, (.t 5)), (11, 1, (.t 9))], none⟩,
st 12 2 10] [2])
.ret)),
[.cell 2 (some 12)]⟩
theorem x10_ok : ck x10 10 := by decide +kernel
/-- peloton/pelotonlaw14.alive -/
def x11 : XFunc := ⟨0,
(.seq
(.region none [
⟨some 0, .mov (.c (.bool false)), none⟩] [])
(.seq
(.region none [
⟨some 6, .call .pur 4 [], none⟩,
⟨some 7, .build z5 [(0, 1, (.c (.int .i64 7))), (1, 1, (.c (.int .i64 9))), (2, 1, (.c (.int .i64 (-1))))], none⟩,
p2 8 5 6 7, mv 5 8, ex 9 0 5, ex 10 1 5,
⟨some 1, .alloc z0, none⟩,
st 12 1 9, mv 2 10] [1, 2])
(.seq
(.region none [
ld 12 12 1, ⟨some 13, .call .pur 6 [(.t 12), (.c (.int .i64 7))], none⟩, mv 11 13, ex 14 0 11, ex 15 1 11,
⟨some 3, .alloc z0, none⟩,
st 12 3 14, mv 4 15] [1, 2, 3, 4])
(.seq
(.region none [
mv 16 2, bc 17 .eql 16 0, mv 18 17, ⟨some 19, .mov (.t 4), (some (18, true))⟩, ⟨some 20, .bin .eql (.t 19) (.c (.int .i64 0)), (some (18, true))⟩, pan 21 18 20,
mv 22 21, ⟨some 23, .fadr 11 (.t 1), (some (22, true))⟩, ⟨some 24, .load none (.t 23), (some (22, true))⟩,
⟨some 25, .mkrow 1 4 [.int .i64 0] [(0, (.c (.int .i64 7))), (1, (.c (.int .i64 1))), (2, (.c (.int .i64 5))), (3, (.c (.int .i64 2)))], (some (22, true))⟩,
⟨some 26, .call .pur 12 [(.t 24), (.t 25)], (some (22, true))⟩, pan 27 22 26, mv 28 27, ⟨some 29, .fadr 11 (.t 3), (some (28, true))⟩,
⟨some 30, .load none (.t 29), (some (28, true))⟩,
⟨some 31, .mkrow 1 3 [.int .i64 0] [(0, (.c (.int .i64 1))), (1, (.c (.int .i64 2))), (2, (.c (.int .i64 5)))], (some (28, true))⟩,
⟨some 32, .call .pur 12 [(.t 30), (.t 31)], (some (28, true))⟩, pan 33 28 32, mv 0 33] [0])
.ret)))),
[.tmp 0]⟩
theorem x11_ok : ck x11 11 := by decide +kernel
/-- peloton/pelotonref03.SameIDs -/
def x12 : XFunc := ⟨2,
(.seq
(.region none [
⟨some 4, .mov (.c (.bool false)), none⟩] [0, 1])
(.seq
(.seq
(.region none [
mv 6 0, le 7 6, mv 8 1, le 9 8, bt 10 .neq 7 9] [0, 1, 10])
(.cond (.t 10)
(.seq
(.region none [
⟨some 4, .mov (.c (.bool false)), none⟩] [4])
.ret)
.skip))
(.seq
(.seq
(.region none [
ic 5 0] [0, 1, 5])
(.block 0
(.loop [(0, none), (1, none), (5, none)]
(.seq
(.seq
(.region none [
mv 11 5, mv 12 0, le 13 12, bt 14 .lss 11 13] [0, 1, 5, 14])
(.cond (.t 14)
.skip
(.exit 0)))
(.seq
(.block 1
(.seq
(.region (some [0, 0, 3, 7, 0, 0, 48, 112, 255]) [
mv 17 0, mv 18 5, ia 19 1 17 18, ln 20 19, mv 21 1, mv 22 5, ia 23 1 21 22, ln 24 23, bt 25 .neq 20 24] [0, 1, 5, 25])
(.cond (.t 25)
(.seq
(.region none [
⟨some 4, .mov (.c (.bool false)), none⟩] [4])
.ret)
.skip)))
(.region none [
mv 15 5, bc 16 .add 15 1, mv 5 16] [0, 1, 5]))))))
(.seq
(.region none [
⟨some 4, .mov (.c (.bool true)), none⟩] [4])
.ret)))),
[.tmp 4]⟩
theorem x12_ok : ck x12 12 := by decide +kernel
/-- peloton/pelotonref13.Went -/
def x13 : XFunc := ⟨2,
(.seq
(.region none [
bx 2 0, bx 3 1,
⟨some 4, .alloc z0, none⟩,
⟨some 5, .mov (.c (.sl 2 true [])), none⟩, ic 6 0] [2, 3, 4])
(.seq
(.region (some [0, 1, 0, 0, 8, 28, 0, 127, 255]) [
fa 17 0 2, ld 18 11 17, ⟨some 19, .mkrow 1 0 [.int .i64 0] [], none⟩, fa 20 11 2, ln 21 20, ap 22 1 19 21,
⟨some 7, .alloc z1, none⟩,
st 11 7 18, mv 8 22] [3, 4, 7, 8])
(.seq
(.region none [
⟨some 9, .mov (.c (.sl 2 true [])), none⟩] [3, 4, 7, 8, 9])
(.seq
(.block 0
(.loop [(3, none), (4, none), (7, none), (8, none), (9, some 2)]
(.seq
(.seq
(.region none [
ld 23 11 7, ld 24 2 3, p2 25 27 23 24] [3, 4, 7, 8, 9, 25])
(.cond (.t 25)
.skip
(.exit 0)))
(.block 1
(.seq
(.region none [
ld 27 11 7, p1 28 28 27, mv 26 28, ex 29 0 26, ex 30 1 26, ex 31 2 26,
⟨some 10, .alloc z1, none⟩,
⟨some 11, .alloc z3, none⟩, ⟨some 12, .alloc z8, none⟩, st 11 10 29,
st 5 11 30, st 2 12 31] [3, 4, 7, 8, 9, 10, 12])
(.seq
(.region (some [0, 0, 2, 7, 0, 0, 32, 127, 255, 511]) [
mv 32 8, fa 33 0 12, ln 34 33, p2 35 29 32 34, mv 36 8, fa 37 1 12, ln 38 37, p2 39 29 36 38, mv 13 35, mv 14 39] [3, 4, 7, 8, 9, 10, 12, 13, 14])
(.seq
(.region (some [0, 0, 0, 0, 0, 0, 48, 112, 0, 0, 768, 1792, 4083, 8179, 16383, 32767]) [
mv 40 8, mv 41 13, mv 42 8, mv 43 14, mv 44 8, mv 45 14, ia 46 1 44 45, ln 47 46, mv 48 8, mv 49 13, ia 50 1 48 49, ln 51 50, ia 52 1 40 41, st 1 52 47,
ia 53 1 42 43, st 1 53 51] [3, 4, 7, 8, 9, 10, 12])
(.seq
(.region (some [0, 0, 2, 0, 8, 31, 63, 127, 127, 0, 767, 2047]) [
ld 55 11 10, fa 56 2 10, ld 57 1 56, mv 58 8, ⟨some 59, .call .own 25 [(.t 58)], none⟩, p3 60 23 55 57 59, mv 54 60, ex 61 0 54, ex 62 1 54,
⟨some 15, .alloc z1, none⟩,
st 11 15 61, mv 16 62] [3, 4, 7, 8, 9, 12, 15, 16])
(.seq
(.seq
(.region none [
mv 63 16, bc 64 .neq 63 0] [3, 4, 7, 8, 9, 12, 15, 16, 64])
(.cond (.t 64)
(.seq
(.region none [
⟨some 65, .build z0 [], none⟩,
mv 66 16, st 12 4 65, ⟨some 5, .mov (.c (.sl 2 true [])), none⟩, mv 6 66] [4, 5, 6])
.ret)
.skip))
(.region (some [0, 0, 0, 4, 14, 31, 63]) [
ld 67 11 15, mv 68 9, ld 69 2 12, ⟨some 70, .mkrow 2 1 z8 [(0, (.t 69))], none⟩, ap 71 2 68 70, st 11 7 67,
mv 9 71] [3, 4, 7, 8, 9]))))))))))
(.seq
(.region none [
ld 72 11 7, ld 73 2 3, p2 74 30 72 73, mv 75 8,
⟨some 76, .build z0 [(0, 11, (.t 74)), (11, 1, (.t 75))], none⟩,
mv 77 9, st 12 4 76, mv 5 77, ic 6 0] [4, 5, 6])
.ret))))),
[.cell 4 (some 12), .tmp 5, .tmp 6]⟩
theorem x13_ok : ck x13 13 := by decide +kernel
/-- peloton/kheap.Check -/
def x14 : XFunc := ⟨1,
(.seq
(.region none [
bx 1 0, ic 2 0] [1])
(.seq
(.seq
(.region none [
fa 8 0 1, ld 9 11 8, p1 10 31 9, bc 11 .neq 10 0, mv 12 11, ⟨some 13, .fadr 11 (.t 1), (some (12, false))⟩, ⟨some 14, .load none (.t 13), (some (12, false))⟩,
⟨some 15, .len (.t 14), (some (12, false))⟩, ⟨some 16, .fadr 0 (.t 1), (some (12, false))⟩, ⟨some 17, .fadr 2 (.t 16), (some (12, false))⟩,
⟨some 18, .fadr 0 (.t 17), (some (12, false))⟩, ⟨some 19, .load none (.t 18), (some (12, false))⟩, ⟨some 20, .len (.t 19), (some (12, false))⟩,
⟨some 21, .bin .neq (.t 15) (.t 20), (some (12, false))⟩, por 22 12 21] [1, 22])
(.cond (.t 22)
(.seq
(.region none [
ic 2 8] [2])
.ret)
.skip))
(.seq
(.seq
(.region none [
fa 23 0 1, fa 24 2 23, fa 25 0 24, ln 26 25, le 27 26, ic 28 0] [1, 26, 27, 28])
(.block 0
(.loop [(1, none), (26, none), (27, none), (28, none)]
(.seq
(.region none [
bt 29 .lss 28 27] [1, 26, 27, 28, 29])
(.seq
(.cond (.t 29)
.skip
(.exit 0))
(.seq
(.block 1
(.seq
(.region none [
ia 30 3 26 28, ld 31 3 30, ⟨some 4, .alloc z5, none⟩, st 3 4 31] [1, 4, 26, 27, 28])
(.seq
(.region none [
fa 32 11 1, ln 33 32, fa 34 0 4, ln 35 34, p2 36 32 33 35, ⟨some 37, .un .not (.t 36), none⟩] [1, 26, 27, 28, 37])
(.cond (.t 37)
(.seq
(.region none [
ic 2 8] [2])
.ret)
.skip))))
(.region none [
bc 38 .add 28 1, mv 28 38] [1, 26, 27, 28])))))))
(.seq
(.region none [
fa 39 11 1, ln 40 39, p1 41 33 40, mv 5 41] [1, 5])
(.seq
(.seq
(.region none [
mv 42 5, le 43 42, fa 44 0 1, fa 45 3 44, fa 46 1 45, ln 47 46, le 48 47, bt 49 .neq 43 48] [1, 5, 49])
(.cond (.t 49)
(.seq
(.region none [
ic 2 8] [2])
.ret)
.skip))
(.seq
(.seq
(.region none [
fa 50 0 1, fa 51 3 50, fa 52 1 51, ln 53 52, le 54 53, ic 55 0] [1, 5, 53, 54, 55])
(.block 2
(.loop [(1, none), (5, none), (53, none), (54, none), (55, none)]
(.seq
(.region none [
bt 56 .lss 55 54] [1, 5, 53, 54, 55, 56])
(.seq
(.cond (.t 56)
.skip
(.exit 2))
(.seq
(.block 3
(.seq
(.region none [
ia 57 3 53 55, ld 58 3 57, ⟨some 7, .alloc z5, none⟩, st 3 7 58] [1, 5, 7, 53, 54, 55])
(.seq
(.region none [
mv 59 5, fa 60 1 7, ld 61 2 60, p2 62 34 59 61, ⟨some 63, .un .not (.t 62), none⟩, mv 64 63, ⟨some 65, .fadr 0 (.t 1), (some (64, false))⟩,
⟨some 66, .fadr 2 (.t 65), (some (64, false))⟩, ⟨some 67, .load (some 1) (.t 66), (some (64, false))⟩, ⟨some 68, .fadr 0 (.t 1), (some (64, false))⟩,
⟨some 69, .fadr 0 (.t 68), (some (64, false))⟩, ⟨some 70, .load (some 2) (.t 69), (some (64, false))⟩, ⟨some 71, .fadr 1 (.t 7), (some (64, false))⟩,
⟨some 72, .fadr 1 (.t 71), (some (64, false))⟩, ⟨some 73, .load none (.t 72), (some (64, false))⟩, ⟨some 74, .fadr 1 (.t 7), (some (64, false))⟩,
⟨some 75, .fadr 0 (.t 74), (some (64, false))⟩, ⟨some 76, .load none (.t 75), (some (64, false))⟩,
⟨some 77, .call .pur 35 [(.t 67), (.t 70), (.t 73), (.t 76)], (some (64, false))⟩, ⟨some 78, .un .not (.t 77), (some (64, false))⟩,
por 79 64 78] [1, 5, 53, 54, 55, 79])
(.cond (.t 79)
(.seq
(.region none [
ic 2 8] [2])
.ret)
.skip))))
(.region none [
bc 80 .add 55 1, mv 55 80] [1, 5, 53, 54, 55])))))))
(.seq
(.region none [
ic 2 0] [2])
.ret))))))),
[.tmp 2]⟩
theorem x14_ok : ck x14 14 := by decide +kernel
/-- peloton/field.Put -/
def x15 : XFunc := ⟨2,
(.seq
(.region none [
bx 2 0, bx 3 1, ⟨some 4, .alloc [.sl 3 true []], none⟩, ic 5 0] [2, 3, 4])
(.seq
(.seq
(.region none [
ld 10 1 2, p1 11 36 10, mv 6 11] [2, 3, 4, 6])
(.seq
(.region none [
mv 12 6, bc 13 .neq 12 0] [2, 3, 4, 6, 13])
(.cond (.t 13)
(.seq
(.region none [
⟨some 14, .build [.sl 3 true []] [], none⟩, mv 15 6, st 1 4 14, mv 5 15] [4, 5])
.ret)
.skip)))
(.seq
(.seq
(.region none [
ld 16 3 3, p1 17 37 16, mv 7 17] [2, 3, 4, 7])
(.seq
(.region none [
mv 18 7, bc 19 .neq 18 0] [2, 3, 4, 7, 19])
(.cond (.t 19)
(.seq
(.region none [
⟨some 20, .build [.sl 3 true []] [], none⟩, mv 21 7, st 1 4 20, mv 5 21] [4, 5])
.ret)
.skip)))
(.seq
(.region none [
ld 23 1 2, fa 24 0 3, ln 25 24, p2 26 38 23 25, mv 22 26, ex 27 0 22, ex 28 1 22, mv 8 27, mv 9 28] [2, 3, 4, 8, 9])
(.seq
(.seq
(.region none [
mv 29 9] [2, 3, 4, 8, 29])
(.cond (.t 29)
(.seq
(.region none [
⟨some 30, .build [.sl 3 true []] [], none⟩, st 1 4 30, ic 5 14] [4, 5])
.ret)
.skip))
(.seq
(.seq
(.region none [
fa 31 0 2, ln 32 31, le 33 32, bc 34 .eql 33 64] [2, 3, 4, 8, 34])
(.cond (.t 34)
(.seq
(.region none [
⟨some 35, .build [.sl 3 true []] [], none⟩, st 1 4 35, ic 5 18] [4, 5])
.ret)
.skip))
(.seq
(.region (some [0, 1, 3, 0, 0, 16, 63, 127, 255, 511]) [
fa 36 0 2, ln 37 36, p1 38 40 37, mv 39 8, ld 40 3 3, ⟨some 41, .mkrow 3 1 z5 [(0, (.t 40))], none⟩,
⟨some 42, .call .shr 39 [(.t 38), (.t 39), (.t 41)], none⟩, ⟨some 43, .build [.sl 3 true []] [(0, 1, (.t 42))], none⟩, st 1 4 43, ic 5 0] [4, 5])
.ret))))))),
[.cell 4 (some 1), .tmp 5]⟩
theorem x15_ok : ck x15 15 := by decide +kernel
/-- peloton/hedit.mover -/
def x17 : XFunc := ⟨3,
(.seq
(.region none [
bx 3 0, bx 4 1, bx 5 2, ⟨some 6, .mov (.c (.nilf)), none⟩, ⟨some 7, .mov (.c (.nilf)), none⟩] [3, 4, 5])
(.seq
(.region none [
⟨some 9, .mkf 41 [] [(.t 3), (.t 5), (.t 4)], none⟩, ⟨some 8, .alloc [.nilf], none⟩, st 1 8 9] [5, 8])
(.seq
(.region none [
⟨some 10, .mkf 44 [] [(.t 8), (.t 5)], none⟩, mv 6 10] [5, 6, 8])
(.seq
(.region none [
⟨some 11, .mkf 45 [] [(.t 5), (.t 8)], none⟩, mv 7 11] [6, 7])
(.seq
(.region none [
mv 12 6, mv 13 7, mv 6 12, mv 7 13] [6, 7])
.ret))))),
[.tmp 6, .tmp 7]⟩
theorem x17_ok : ck x17 17 := by decide +kernel
/-- peloton/hedit.settled -/
def x18 : XFunc := ⟨3,
(.seq
(.region none [
bx 3 0, bx 4 1,
⟨some 6, .alloc z0, none⟩,
ic 7 0] [2, 3, 4, 6])
(.seq
(.region (some [0, 0, 0, 4, 15, 31, 63, 63, 0, 383, 1023]) [
ld 11 11 3, ld 12 1 4, mv 13 2, p1 14 47 13, p3 15 46 11 12 14, mv 10 15, ex 16 0 10, ex 17 1 10,
⟨some 8, .alloc z1, none⟩,
st 11 8 16, mv 9 17] [2, 6, 8, 9])
(.seq
(.seq
(.region none [
mv 18 9, bc 19 .neq 18 0] [2, 6, 8, 9, 19])
(.cond (.t 19)
(.seq
(.region none [
⟨some 20, .build z0 [], none⟩,
mv 21 9, st 12 6 20, mv 7 21] [6, 7])
.ret)
.skip))
(.seq
(.region none [
ld 22 11 8, mv 23 2,
⟨some 24, .build z0 [(0, 11, (.t 22)), (11, 1, (.t 23))], none⟩,
st 12 6 24, ic 7 0] [6, 7])
.ret)))),
[.cell 6 (some 12), .tmp 7]⟩
theorem x18_ok : ck x18 18 := by decide +kernel
/-- peloton/field.Take -/
def x19 : XFunc := ⟨2,
(.seq
(.region none [
bx 2 0, ⟨some 4, .alloc [.sl 3 true []], none⟩, ic 5 0] [1, 2, 4])
(.seq
(.region none [
ld 9 1 2, mv 10 1, p2 11 48 9 10, mv 8 11, ex 12 0 8, ex 13 1 8, mv 6 12, mv 7 13] [2, 4, 6, 7])
(.seq
(.seq
(.region none [
mv 14 7, bc 15 .neq 14 0] [2, 4, 6, 7, 15])
(.cond (.t 15)
(.seq
(.region none [
⟨some 16, .build [.sl 3 true []] [], none⟩, mv 17 7, st 1 4 16, mv 5 17] [4, 5])
.ret)
.skip))
(.seq
(.region none [
fa 18 0 2, ln 19 18, p1 20 40 19, mv 21 6, mv 22 6, bc 23 .add 22 1, ⟨some 24, .call .fp 49 [(.t 20), (.t 21), (.t 23)], none⟩,
⟨some 25, .build [.sl 3 true []] [(0, 1, (.t 24))], none⟩, st 1 4 25, ic 5 0] [4, 5])
.ret)))),
[.cell 4 (some 1), .tmp 5]⟩
theorem x19_ok : ck x19 19 := by decide +kernel
/-- slices.Index[[]int,int] -/
def x20 : XFunc := ⟨2,
(.seq
(.region none [
ic 4 0] [0, 1])
(.seq
(.seq
(.region none [
mv 6 0, le 7 6, ic 8 0] [0, 1, 7, 8])
(.block 0
(.loop [(0, none), (1, none), (7, none), (8, none)]
(.seq
(.region none [
bt 9 .lss 8 7] [0, 1, 7, 8, 9])
(.seq
(.cond (.t 9)
.skip
(.exit 0))
(.seq
(.block 1
(.seq
(.region none [
mv 10 8, mv 5 10] [0, 1, 5, 7, 8])
(.seq
(.region none [
mv 11 1, mv 12 0, mv 13 5, ia 14 1 12 13, ln 15 14, bt 16 .eql 11 15] [0, 1, 5, 7, 8, 16])
(.cond (.t 16)
(.seq
(.region none [
mv 17 5, mv 4 17] [4])
.ret)
.skip))))
(.region none [
bc 18 .add 8 1, mv 8 18] [0, 1, 7, 8])))))))
(.seq
(.region none [
ic 4 (-1)] [4])
.ret))),
[.tmp 4]⟩
theorem x20_ok : ck x20 20 := by decide +kernel
/-- peloton/field.Change -/
def x21 : XFunc := ⟨2,
(.seq
(.region none [
bx 2 0, bx 3 1, ⟨some 4, .alloc [.sl 3 true []], none⟩, ic 5 0] [2, 3, 4])
(.seq
(.seq
(.region none [
ld 11 1 2, p1 12 36 11, mv 6 12] [2, 3, 4, 6])
(.seq
(.region none [
mv 13 6, bc 14 .neq 13 0] [2, 3, 4, 6, 14])
(.cond (.t 14)
(.seq
(.region none [
⟨some 15, .build [.sl 3 true []] [], none⟩, mv 16 6, st 1 4 15, mv 5 16] [4, 5])
.ret)
.skip)))
(.seq
(.seq
(.region none [
ld 17 3 3, p1 18 37 17, mv 7 18] [2, 3, 4, 7])
(.seq
(.region none [
mv 19 7, bc 20 .neq 19 0] [2, 3, 4, 7, 20])
(.cond (.t 20)
(.seq
(.region none [
⟨some 21, .build [.sl 3 true []] [], none⟩, mv 22 7, st 1 4 21, mv 5 22] [4, 5])
.ret)
.skip)))
(.seq
(.region none [
ld 24 1 2, fa 25 0 3, ln 26 25, p2 27 48 24 26, mv 23 27, ex 28 0 23, ex 29 1 23, mv 8 28, mv 9 29] [2, 3, 4, 8, 9])
(.seq
(.seq
(.region none [
mv 30 9, bc 31 .neq 30 0] [2, 3, 4, 8, 9, 31])
(.cond (.t 31)
(.seq
(.region none [
⟨some 32, .build [.sl 3 true []] [], none⟩, mv 33 9, st 1 4 32, mv 5 33] [4, 5])
.ret)
.skip))
(.seq
(.region none [
fa 34 0 2, ln 35 34, p1 36 40 35, mv 10 36] [3, 4, 8, 10])
(.seq
(.region none [
mv 37 10, mv 38 8, ld 39 3 3, ia 40 3 37 38, st 3 40 39] [4, 10])
(.seq
(.region none [
mv 41 10, ⟨some 42, .build [.sl 3 true []] [(0, 1, (.t 41))], none⟩, st 1 4 42, ic 5 0] [4, 5])
.ret)))))))),
[.cell 4 (some 1), .tmp 5]⟩
theorem x21_ok : ck x21 21 := by decide +kernel
/-- peloton/pelotonref13.Risen -/
def x22 : XFunc := ⟨4,
(.seq
(.region none [
bx 4 0, bx 5 1, ⟨some 8, .mov (.c (.sl 1 true [])), none⟩] [2, 3, 4, 5])
(.seq
(.region none [
⟨some 10, .mkrow 1 0 [.int .i64 0] [], none⟩, mv 11 2, ap 12 1 10 11, mv 9 12] [3, 4, 5, 9])
(.seq
(.block 0
(.loop [(3, none), (4, none), (5, none), (9, none)]
(.seq
(.seq
(.region (some [0, 1, 3, 7, 7, 7, 7, 103, 231, 7, 7, 1031, 3079, 7687, 15879, 32767, 65535]) [
mv 13 3, bc 14 .gtr 13 0, mv 15 14, ⟨some 16, .load (some 1) (.t 4), (some (15, true))⟩, ⟨some 17, .load (some 2) (.t 5), (some (15, true))⟩,
⟨some 18, .mov (.t 9), (some (15, true))⟩, ⟨some 19, .mov (.t 3), (some (15, true))⟩, ⟨some 20, .iadr 1 (.t 18) (.t 19), (some (15, true))⟩,
⟨some 21, .load none (.t 20), (some (15, true))⟩, ⟨some 22, .mov (.t 9), (some (15, true))⟩, ⟨some 23, .mov (.t 3), (some (15, true))⟩,
⟨some 24, .bin .sub (.t 23) (.c (.int .i64 1)), (some (15, true))⟩, ⟨some 25, .bin .quo (.t 24) (.c (.int .i64 2)), (some (15, true))⟩,
⟨some 26, .iadr 1 (.t 22) (.t 25), (some (15, true))⟩, ⟨some 27, .load none (.t 26), (some (15, true))⟩,
⟨some 28, .call .pur 50 [(.t 16), (.t 17), (.t 21), (.t 27)], (some (15, true))⟩, pan 29 15 28] [3, 4, 5, 9, 29])
(.cond (.t 29)
.skip
(.exit 0)))
(.block 1
(.seq
(.region (some [0, 0, 0, 0, 8, 24, 0, 0, 128, 384, 960, 1984, 0, 0, 12288, 28672, 65475, 131011, 262143, 524287]) [
mv 30 9, mv 31 3, mv 32 9, mv 33 3, bc 34 .sub 33 1, bc 35 .quo 34 2, mv 36 9, mv 37 3, bc 38 .sub 37 1, bc 39 .quo 38 2, ia 40 1 36 39, ln 41 40, mv 42 9,
mv 43 3, ia 44 1 42 43, ln 45 44, ia 46 1 30 31, st 1 46 41, ia 47 1 32 35, st 1 47 45] [3, 4, 5, 9])
(.region none [
mv 48 3, bc 49 .sub 48 1, bc 50 .quo 49 2, mv 3 50] [3, 4, 5, 9]))))))
(.seq
(.region none [
mv 51 9, mv 8 51] [8])
.ret)))),
[.tmp 8]⟩
theorem x22_ok : ck x22 22 := by decide +kernel
/-- peloton/pelotonref13.Renewed -/
def x23 : XFunc := ⟨3,
(.seq
(.region none [
bx 3 0, bx 4 1,
⟨some 6, .alloc z1, none⟩,
ic 7 0] [2, 3, 4, 6])
(.seq
(.region none [
ld 16 11 3, p1 17 26 16,
⟨some 8, .alloc z1, none⟩,
st 11 8 17] [2, 3, 4, 6, 8])
(.seq
(.seq
(.region none [
ic 9 0] [2, 3, 4, 6, 8, 9])
(.block 0
(.loop [(2, none), (3, none), (4, none), (6, none), (8, none), (9, none)]
(.seq
(.seq
(.region none [
mv 18 9, fa 19 3 3, fa 20 1 19, ln 21 20, le 22 21, bt 23 .lss 18 22] [2, 3, 4, 6, 8, 9, 23])
(.cond (.t 23)
.skip
(.exit 0)))
(.seq
(.block 1
(.seq
(.region none [
mv 26 2, fa 27 3 3, fa 28 1 27, ln 29 28, mv 30 9, ia 31 3 29 30, fa 32 1 31, ld 33 2 32, p2 34 51 26 33,
⟨some 35, .un .not (.t 34), none⟩] [2, 3, 4, 6, 8, 9, 35])
(.cond (.t 35)
(.region (some [0, 0, 2, 6, 0, 30, 62, 126, 255, 511]) [
ld 36 11 8, fa 37 3 3, fa 38 1 37, ln 39 38, mv 40 9, ia 41 3 39 40, fa 42 0 41, ln 43 42, p2 44 52 36 43, st 11 8 44] [2, 3, 4, 6, 8, 9])
.skip)))
(.region none [
mv 24 9, bc 25 .add 24 1, mv 9 25] [2, 3, 4, 6, 8, 9]))))))
(.seq
(.seq
(.region none [
fa 45 2 8, ld 46 1 45, ld 47 1 4, p2 48 53 46 47, ⟨some 49, .un .not (.t 48), none⟩] [2, 4, 6, 8, 49])
(.cond (.t 49)
(.seq
(.region none [
ld 51 11 8, ld 52 1 4, p2 53 54 51 52, mv 50 53, ex 54 0 50, ex 55 1 50,
⟨some 10, .alloc z1, none⟩,
st 11 10 54, mv 11 55] [2, 6, 8, 10, 11])
(.seq
(.seq
(.region none [
mv 56 11, bc 57 .neq 56 0] [2, 6, 8, 10, 11, 57])
(.cond (.t 57)
(.seq
(.region none [
⟨some 58, .build z1 [], none⟩,
mv 59 11, st 11 6 58, mv 7 59] [6, 7])
.ret)
.skip))
(.region none [
ld 60 11 10, st 11 8 60] [2, 6, 8])))
.skip))
(.seq
(.seq
(.region none [
ic 12 0] [2, 6, 8, 12])
(.block 2
(.loop [(2, none), (6, none), (8, none), (12, none)]
(.seq
(.seq
(.region none [
mv 61 12, mv 62 2, le 63 62, bt 64 .lss 61 63] [2, 6, 8, 12, 64])
(.cond (.t 64)
.skip
(.exit 2)))
(.seq
(.block 3
(.seq
(.seq
(.region (some [0, 1, 0, 0, 12, 28, 63]) [
fa 67 3 8, ld 68 2 67, mv 69 2, mv 70 12, ia 71 2 69 70, ld 72 2 71, p2 73 55 68 72] [2, 6, 8, 12, 73])
(.cond (.t 73)
(.exit 3)
.skip))
(.seq
(.region (some [0, 0, 0, 6, 14, 31, 63, 127, 127, 127, 0, 1279, 3583, 8191]) [
ld 75 11 8, mv 76 2, mv 77 12, ia 78 2 76 77, ld 79 2 78, p2 80 56 75 79, mv 74 80, ex 81 0 74, ex 82 1 74, ex 83 2 74,
⟨some 13, .alloc z1, none⟩,
st 11 13 81, mv 14 82, mv 15 83] [2, 6, 8, 12, 13, 15])
(.seq
(.seq
(.region none [
mv 84 15, bc 85 .neq 84 0] [2, 6, 8, 12, 13, 15, 85])
(.cond (.t 85)
(.seq
(.region none [
⟨some 86, .build z1 [], none⟩,
mv 87 15, st 11 6 86, mv 7 87] [6, 7])
.ret)
.skip))
(.region none [
ld 88 11 13, st 11 8 88] [2, 6, 8, 12])))))
(.region none [
mv 65 12, bc 66 .add 65 1, mv 12 66] [2, 6, 8, 12]))))))
(.seq
(.region none [
ld 89 11 8, st 11 6 89, ic 7 0] [6, 7])
.ret)))))),
[.cell 6 (some 11), .tmp 7]⟩
theorem x23_ok : ck x23 23 := by decide +kernel
/-- peloton/pelotonref09.Begin -/
def x24 : XFunc := ⟨2,
(.seq
(.region none [
bx 2 0, bx 3 1,
⟨some 4, .alloc z1, none⟩] [2, 3, 4])
(.seq
(.region (some [0, 0, 2, 6, 15, 31]) [
ld 5 2 3, ld 6 1 2, ⟨some 7, .call .own 57 [(.t 6)], none⟩, ⟨some 8, .call .pur 58 [(.c (.int .i64 200))], none⟩,
⟨some 9, .build z1 [(0, 2, (.t 5)), (2, 1, (.t 7)), (5, 5, (.t 8))], none⟩,
st 11 4 9] [4])
.ret)),
[.cell 4 (some 11)]⟩
theorem x24_ok : ck x24 24 := by decide +kernel
/-- peloton/pelotonref13.Of -/
def x25 : XFunc := ⟨1,
(.seq
(.region none [
⟨some 2, .mov (.c (.sl 2 true [])), none⟩] [0])
(.seq
(.region none [
⟨some 3, .mov (.c (.sl 2 true [])), none⟩] [0, 3])
(.seq
(.seq
(.region none [
ic 4 1] [0, 3, 4])
(.block 0
(.loop [(0, none), (3, some 2), (4, none)]
(.seq
(.seq
(.region none [
mv 5 4, mv 6 0, le 7 6, bt 8 .lss 5 7] [0, 3, 4, 8])
(.cond (.t 8)
.skip
(.exit 0)))
(.seq
(.block 1
(.region (some [0, 0, 0, 6, 14, 0, 0, 64, 192, 480, 992, 2046, 4094, 8191, 16383]) [
mv 11 3, mv 12 0, mv 13 4, ia 14 1 12 13, ln 15 14, mv 16 0, mv 17 4, bc 18 .sub 17 1, bc 19 .quo 18 2, ia 20 1 16 19, ln 21 20,
⟨some 22, .build z8 [(0, 1, (.t 15)), (1, 1, (.t 21))], none⟩, ⟨some 23, .mkrow 2 1 z8 [(0, (.t 22))], none⟩,
ap 24 2 11 23, mv 3 24] [0, 3, 4]))
(.region none [
mv 9 4, bc 10 .add 9 1, mv 4 10] [0, 3, 4]))))))
(.seq
(.region none [
mv 25 3, mv 2 25] [2])
.ret)))),
[.tmp 2]⟩
theorem x25_ok : ck x25 25 := by decide +kernel
/-- peloton/pelotonref09.Twin -/
def x26 : XFunc := ⟨1,
(.seq
(.region none [
bx 1 0,
⟨some 2, .alloc z1, none⟩] [1, 2])
(.seq
(.region (some [0, 1, 0, 4, 12, 0, 32, 124, 0, 256, 1020, 0, 0, 4096, 16380, 32767, 65535]) [
fa 3 0 1, ld 4 2 3, fa 5 2 1, ld 6 1 5, ⟨some 7, .call .own 57 [(.t 6)], none⟩, fa 8 3 1, ld 9 2 8, ⟨some 10, .call .own 59 [(.t 9)], none⟩, fa 11 5 1,
ld 12 5 11, ⟨some 13, .call .own 60 [(.t 12)], none⟩, ⟨some 14, .mkrow 3 0 z5 [], none⟩, fa 15 10 1, ln 16 15,
ap 17 3 14 16,
⟨some 18, .build z1 [(0, 2, (.t 4)), (2, 1, (.t 7)), (3, 2, (.t 10)), (5, 5, (.t 13)), (10, 1, (.t 17))], none⟩,
st 11 2 18] [2])
.ret)),
[.cell 2 (some 11)]⟩
theorem x26_ok : ck x26 26 := by decide +kernel
/-- peloton/pelotonref09.Waits -/
def x27 : XFunc := ⟨2,
(.seq
(.region none [
bx 2 0, bx 3 1, ⟨some 4, .mov (.c (.bool false)), none⟩] [2, 3])
(.seq
(.region (some [0, 1, 3, 7, 15, 31, 63, 127, 255, 511, 1023, 2047, 63, 8191, 16383, 32767, 65535]) [
fa 5 5 2, fa 6 3 5, ln 7 6, le 8 7, bc 9 .gtr 8 0, mv 10 9, ⟨some 11, .fadr 5 (.t 2), (some (10, true))⟩, ⟨some 12, .fadr 3 (.t 11), (some (10, true))⟩,
⟨some 13, .load none (.t 12), (some (10, true))⟩, ⟨some 14, .iadr 5 (.t 13) (.c (.int .i64 0)), (some (10, true))⟩,
⟨some 15, .fadr 0 (.t 14), (some (10, true))⟩, ⟨some 16, .load (some 2) (.t 15), (some (10, true))⟩, ⟨some 17, .load (some 2) (.t 3), (some (10, true))⟩,
⟨some 18, .call .pur 61 [(.t 16), (.t 17)], (some (10, true))⟩, ⟨some 19, .bin .leq (.t 18) (.c (.int .i64 0)), (some (10, true))⟩, pan 20 10 19, mv 4 20] [4])
.ret)),
[.tmp 4]⟩
theorem x27_ok : ck x27 27 := by decide +kernel
/-- peloton/pelotonref09.Failed -/
def x28 : XFunc := ⟨1,
(.seq
(.region none [
bx 1 0,
⟨some 2, .alloc z1, none⟩,
⟨some 3, .alloc z3, none⟩, ⟨some 4, .alloc z8, none⟩] [1, 2, 3, 4])
(.seq
(.region none [
fa 8 5 1, fa 9 3 8, ln 10 9, ⟨some 11, .iadr 5 (.t 10) (.c (.int .i64 0)), none⟩, ld 12 5 11,
⟨some 5, .alloc z3, none⟩, st 5 5 12] [1, 2, 3, 4, 5])
(.seq
(.region (some [0, 1, 3, 0, 8, 0, 32, 120, 255, 511, 1023, 0, 4095]) [
fa 13 3 1, fa 14 1 13, ln 15 14, fa 16 3 1, ld 17 2 16, fa 18 2 5, ln 19 18, p2 20 62 17 19, ia 21 3 15 20, fa 22 1 21, ld 23 2 22,
⟨some 6, .alloc z8, none⟩, st 2 6 23] [1, 2, 3, 4, 5, 6])
(.seq
(.region none [
ld 24 11 1, fa 25 2 5, ln 26 25, p2 27 52 24 26,
⟨some 7, .alloc z1, none⟩,
st 11 7 27] [2, 3, 4, 5, 6, 7])
(.seq
(.region none [
fa 28 0 5, ld 29 2 28, fa 30 0 7, st 2 30 29] [2, 3, 4, 5, 6, 7])
(.seq
(.region (some [0, 0, 0, 1, 11, 31]) [
ld 31 11 7, ld 32 5 5, ld 33 2 6, st 11 2 31, st 5 3 32, st 2 4 33] [2, 3, 4])
.ret)))))),
[.cell 2 (some 11), .cell 3 (some 5), .cell 4 (some 2)]⟩
theorem x28_ok : ck x28 28 := by decide +kernel
/-- peloton/pelotonref13.Place -/
def x29 : XFunc := ⟨2,
(.seq
(.region none [
ic 4 0] [0, 1])
(.seq
(.seq
(.region none [
ic 5 0] [0, 1, 5])
(.block 0
(.loop [(0, none), (1, none), (5, none)]
(.seq
(.seq
(.region none [
mv 6 5, mv 7 0, le 8 7, bt 9 .lss 6 8] [0, 1, 5, 9])
(.cond (.t 9)
.skip
(.exit 0)))
(.seq
(.block 1
(.seq
(.region none [
mv 12 0, mv 13 5, ia 14 1 12 13, ln 15 14, mv 16 1, bt 17 .eql 15 16] [0, 1, 5, 17])
(.cond (.t 17)
(.seq
(.region none [
mv 18 5, mv 4 18] [4])
.ret)
.skip)))
(.region none [
mv 10 5, bc 11 .add 10 1, mv 5 11] [0, 1, 5]))))))
(.seq
(.region none [
ic 4 (-1)] [4])
.ret))),
[.tmp 4]⟩
theorem x29_ok : ck x29 29 := by decide +kernel
/-- peloton/pelotonref09.Moved -/
def x30 : XFunc := ⟨2,
(.seq
(.region none [
bx 2 0, bx 3 1,
⟨some 4, .alloc z1, none⟩] [2, 3, 4])
(.seq
(.region none [
ld 6 11 2, ⟨some 7, .call .own 26 [(.t 6)], none⟩,
⟨some 5, .alloc z1, none⟩,
st 11 5 7] [3, 4, 5])
(.seq
(.region none [
ld 8 2 3, fa 9 0 5, st 2 9 8] [4, 5])
(.seq
(.region none [
ld 10 11 5, st 11 4 10] [4])
.ret)))),
[.cell 4 (some 11)]⟩
theorem x30_ok : ck x30 30 := by decide +kernel
/-- peloton/clock.Check -/
def x31 : XFunc := ⟨1,
(.seq
(.region none [
bx 1 0, ic 2 0] [1])
(.seq
(.seq
(.region (some [0, 1, 3, 0, 8, 31, 0, 64, 255, 0, 512, 2047, 4095, 8191, 0]) [
fa 12 0 1, ld 13 2 12, p1 14 63 13, fa 15 2 1, ld 16 1 15, p1 17 36 16, fa 18 3 1, ld 19 2 18, p1 20 64 19, fa 21 5 1, ld 22 5 21, p1 23 65 22,
⟨some 24, .mkrow 1 4 [.int .i64 0] [(0, (.t 14)), (1, (.t 17)), (2, (.t 20)), (3, (.t 23))], none⟩, le 25 24, ic 26 0] [1, 24, 25, 26])
(.block 0
(.loop [(1, none), (24, none), (25, none), (26, none)]
(.seq
(.region none [
bt 27 .lss 26 25] [1, 24, 25, 26, 27])
(.seq
(.cond (.t 27)
.skip
(.exit 0))
(.seq
(.block 1
(.seq
(.region none [
ia 28 1 24 26, ln 29 28, mv 4 29] [1, 4, 24, 25, 26])
(.seq
(.region none [
mv 30 4, bc 31 .neq 30 0] [1, 24, 25, 26, 31])
(.cond (.t 31)
(.seq
(.region none [
ic 2 8] [2])
.ret)
.skip))))
(.region none [
bc 32 .add 26 1, mv 26 32] [1, 24, 25, 26])))))))
(.seq
(.seq
(.region none [
fa 33 5 1, fa 34 4 33, ln 35 34, le 36 35, bc 37 .neq 36 200, mv 38 37, ⟨some 39, .fadr 5 (.t 1), (some (38, false))⟩,
⟨some 40, .fadr 3 (.t 39), (some (38, false))⟩, ⟨some 41, .load none (.t 40), (some (38, false))⟩, ⟨some 42, .len (.t 41), (some (38, false))⟩,
⟨some 43, .fadr 10 (.t 1), (some (38, false))⟩, ⟨some 44, .load none (.t 43), (some (38, false))⟩, ⟨some 45, .len (.t 44), (some (38, false))⟩,
⟨some 46, .bin .neq (.t 42) (.t 45), (some (38, false))⟩, por 47 38 46] [1, 47])
(.cond (.t 47)
(.seq
(.region none [
ic 2 8] [2])
.ret)
.skip))
(.seq
(.region none [
fa 48 10 1, ln 49 48, mv 5 49] [1, 5])
(.seq
(.seq
(.region none [
fa 50 3 1, fa 51 1 50, ln 52 51, le 53 52, ic 54 0] [1, 5, 52, 53, 54])
(.block 2
(.loop [(1, none), (5, none), (52, none), (53, none), (54, none)]
(.seq
(.region none [
bt 55 .lss 54 53] [1, 5, 52, 53, 54, 55])
(.seq
(.cond (.t 55)
.skip
(.exit 2))
(.seq
(.block 3
(.seq
(.region none [
ia 56 3 52 54, ld 57 3 56, ⟨some 7, .alloc z5, none⟩, st 3 7 57] [1, 5, 7, 52, 53, 54])
(.seq
(.region none [
fa 59 2 1, ld 60 1 59, fa 61 1 7, ld 62 2 61, fa 63 0 1, ld 64 2 63, p3 65 66 60 62 64, mv 58 65, ex 66 0 58, ex 67 1 58, ex 68 2 58,
⟨some 8, .alloc z8, none⟩, st 2 8 66, mv 9 67, mv 10 68] [1, 5, 7, 8, 9, 10, 52, 53, 54])
(.seq
(.seq
(.region none [
mv 69 10, bc 70 .neq 69 0] [1, 5, 7, 8, 9, 52, 53, 54, 70])
(.cond (.t 70)
(.seq
(.region none [
ic 2 8] [2])
.ret)
.skip))
(.seq
(.seq
(.region none [
mv 71 9, ⟨some 72, .un .not (.t 71), none⟩] [1, 5, 7, 8, 52, 53, 54, 72])
(.cond (.t 72)
(.exit 3)
.skip))
(.seq
(.seq
(.region (some [0, 1, 3, 7, 15, 31, 63, 127, 15, 271, 1023, 2047]) [
mv 73 5, le 74 73, bc 75 .eql 74 0, mv 76 75, ⟨some 77, .mov (.t 5), (some (76, false))⟩, ⟨some 78, .iadr 3 (.t 77) (.c (.int .i64 0)), (some (76, false))⟩,
⟨some 79, .fadr 0 (.t 78), (some (76, false))⟩, ⟨some 80, .load none (.t 79), (some (76, false))⟩, ⟨some 81, .fadr 0 (.t 7), (some (76, false))⟩,
⟨some 82, .load none (.t 81), (some (76, false))⟩, ⟨some 83, .bin .neq (.t 80) (.t 82), (some (76, false))⟩, por 84 76 83] [1, 5, 7, 8, 52, 53, 54, 84])
(.cond (.t 84)
(.seq
(.region none [
ic 2 8] [2])
.ret)
.skip))
(.seq
(.region none [
mv 85 5, ⟨some 86, .iadr 3 (.t 85) (.c (.int .i64 0)), none⟩, fa 87 1 86, ld 88 2 87, ⟨some 11, .alloc z8, none⟩,
st 2 11 88] [1, 5, 7, 8, 11, 52, 53, 54])
(.seq
(.seq
(.region (some [0, 1, 3, 7, 15, 31, 63, 127, 255, 511, 1023, 2047, 511, 4607, 16383, 32767, 65535, 131071, 262143, 524287, 1048575, 2097151, 524287, 4718591, 13107199, 524287, 34078719, 130547711, 264765439, 536870911, 1073741823, 524287, 524287, 4295491583, 524287, 32212779007, 68719476735, 137438953471]) [
fa 89 0 11, ln 90 89, bc 91 .lss 90 0, mv 92 91, ⟨some 93, .fadr 0 (.t 11), (some (92, false))⟩, ⟨some 94, .load none (.t 93), (some (92, false))⟩,
⟨some 95, .bin .geq (.t 94) (.c (.int .i64 200)), (some (92, false))⟩, por 96 92 95, mv 97 96, ⟨some 98, .fadr 5 (.t 1), (some (97, false))⟩,
⟨some 99, .fadr 4 (.t 98), (some (97, false))⟩, ⟨some 100, .load none (.t 99), (some (97, false))⟩, ⟨some 101, .fadr 0 (.t 11), (some (97, false))⟩,
⟨some 102, .load none (.t 101), (some (97, false))⟩, ⟨some 103, .iadr 1 (.t 100) (.t 102), (some (97, false))⟩,
⟨some 104, .load none (.t 103), (some (97, false))⟩, ⟨some 105, .bin .lss (.t 104) (.c (.int .i64 0)), (some (97, false))⟩, por 106 97 105, mv 107 106,
⟨some 108, .fadr 5 (.t 1), (some (107, false))⟩, ⟨some 109, .fadr 3 (.t 108), (some (107, false))⟩, ⟨some 110, .load none (.t 109), (some (107, false))⟩,
⟨some 111, .fadr 5 (.t 1), (some (107, false))⟩, ⟨some 112, .fadr 4 (.t 111), (some (107, false))⟩, ⟨some 113, .load none (.t 112), (some (107, false))⟩,
⟨some 114, .fadr 0 (.t 11), (some (107, false))⟩, ⟨some 115, .load none (.t 114), (some (107, false))⟩,
⟨some 116, .iadr 1 (.t 113) (.t 115), (some (107, false))⟩, ⟨some 117, .load none (.t 116), (some (107, false))⟩,
⟨some 118, .iadr 5 (.t 110) (.t 117), (some (107, false))⟩, ⟨some 119, .load (some 5) (.t 118), (some (107, false))⟩,
⟨some 120, .load (some 2) (.t 8), (some (107, false))⟩, ⟨some 121, .fadr 0 (.t 7), (some (107, false))⟩, ⟨some 122, .load none (.t 121), (some (107, false))⟩,
⟨some 123, .load (some 2) (.t 11), (some (107, false))⟩,
⟨some 124, .build z3 [(0, 2, (.t 120)), (2, 1, (.t 122)), (3, 2, (.t 123))], (some (107, false))⟩,
⟨some 125, .eqc 5 true (.t 119) (.t 124), (some (107, false))⟩, por 126 107 125] [1, 5, 52, 53, 54, 126])
(.cond (.t 126)
(.seq
(.region none [
ic 2 8] [2])
.ret)
.skip))
(.region none [
mv 127 5, ⟨some 128, .slc 3 (.t 127) (some (.c (.int .i64 1))) none none, none⟩, mv 5 128] [1, 5, 52, 53, 54])))))))))
(.region none [
bc 129 .add 54 1, mv 54 129] [1, 5, 52, 53, 54])))))))
(.seq
(.seq
(.region none [
mv 130 5, le 131 130, bc 132 .gtr 131 0] [132])
(.cond (.t 132)
(.seq
(.region none [
ic 2 8] [2])
.ret)
.skip))
(.seq
(.region none [
ic 2 0] [2])
.ret))))))),
[.tmp 2]⟩
theorem x31_ok : ck x31 31 := by decide +kernel
/-- slices.Contains[[]int,int] -/
def x32 : XFunc := ⟨2,
(.seq
(.region none [
⟨some 4, .mov (.c (.bool false)), none⟩] [0, 1])
(.seq
(.region none [
mv 5 0, mv 6 1, p2 7 20 5 6, bc 8 .geq 7 0, mv 4 8] [4])
.ret)),
[.tmp 4]⟩
theorem x32_ok : ck x32 32 := by decide +kernel
/-- peloton/kheap.edges -/
def x33 : XFunc := ⟨1,
(.seq
(.region none [
⟨some 2, .mov (.c (.sl 2 true [])), none⟩] [0])
(.seq
(.region none [
⟨some 3, .mov (.c (.sl 2 true [])), none⟩] [0, 3])
(.seq
(.seq
(.region none [
ic 4 1] [0, 3, 4])
(.block 0
(.loop [(0, none), (3, some 2), (4, none)]
(.seq
(.seq
(.region none [
mv 5 4, mv 6 0, le 7 6, bt 8 .lss 5 7] [0, 3, 4, 8])
(.cond (.t 8)
.skip
(.exit 0)))
(.seq
(.block 1
(.region (some [0, 0, 0, 6, 14, 0, 0, 64, 192, 480, 992, 2046, 4094, 8191, 16383]) [
mv 11 3, mv 12 0, mv 13 4, ia 14 1 12 13, ln 15 14, mv 16 0, mv 17 4, bc 18 .sub 17 1, bc 19 .quo 18 2, ia 20 1 16 19, ln 21 20,
⟨some 22, .build z8 [(0, 1, (.t 15)), (1, 1, (.t 21))], none⟩, ⟨some 23, .mkrow 2 1 z8 [(0, (.t 22))], none⟩,
ap 24 2 11 23, mv 3 24] [0, 3, 4]))
(.region none [
mv 9 4, bc 10 .add 9 1, mv 4 10] [0, 3, 4]))))))
(.seq
(.region none [
mv 25 3, mv 2 25] [2])
.ret)))),
[.tmp 2]⟩
theorem x33_ok : ck x33 33 := by decide +kernel
/-- slices.Contains[[]peloton/api.Cert,peloton/api.Cert] -/
def x34 : XFunc := ⟨2,
(.seq
(.region none [
bx 3 1, ⟨some 4, .mov (.c (.bool false)), none⟩] [0, 3])
(.seq
(.region none [
mv 5 0, ld 6 2 3, p2 7 67 5 6, bc 8 .geq 7 0, mv 4 8] [4])
.ret)),
[.tmp 4]⟩
theorem x34_ok : ck x34 34 := by decide +kernel
/-- peloton/kheap.ahead -/
def x35 : XFunc := ⟨4,
(.seq
(.region none [
bx 4 0, bx 5 1, ⟨some 8, .mov (.c (.bool false)), none⟩] [2, 3, 4, 5])
(.seq
(.region none [
ld 16 1 4, mv 17 2, p2 18 42 16 17, mv 15 18, ex 19 0 15, ex 20 1 15, ⟨some 9, .alloc z5, none⟩, st 3 9 19,
mv 10 20] [3, 4, 5, 9])
(.seq
(.region none [
ld 22 1 4, mv 23 3, p2 24 42 22 23, mv 21 24, ex 25 0 21, ex 26 1 21, ⟨some 11, .alloc z5, none⟩, st 3 11 25,
mv 12 26] [5, 9, 11])
(.seq
(.region none [
ld 28 3 9, ld 29 3 11, ld 30 2 5, p3 31 43 28 29 30, mv 27 31, ex 32 0 27, ex 33 1 27, mv 13 32, mv 14 33] [13])
(.seq
(.region none [
mv 34 13, mv 8 34] [8])
.ret))))),
[.tmp 8]⟩
theorem x35_ok : ck x35 35 := by decide +kernel
/-- peloton/field.Check -/
def x36 : XFunc := ⟨1,
(.seq
(.region none [
bx 1 0, ic 2 0] [1])
(.seq
(.seq
(.region none [
fa 8 0 1, ln 9 8, le 10 9, bc 11 .gtr 10 64] [1, 11])
(.cond (.t 11)
(.seq
(.region none [
ic 2 4] [2])
.ret)
.skip))
(.seq
(.seq
(.region none [
fa 12 0 1, ln 13 12, le 14 13, ic 15 0] [1, 13, 14, 15])
(.block 0
(.loop [(1, none), (13, none), (14, none), (15, none)]
(.seq
(.region none [
bt 16 .lss 15 14] [1, 13, 14, 15, 16])
(.seq
(.cond (.t 16)
.skip
(.exit 0))
(.seq
(.block 1
(.seq
(.region none [
ia 17 3 13 15, ld 18 3 17, ⟨some 4, .alloc z5, none⟩, st 3 4 18] [1, 4, 13, 14, 15])
(.seq
(.region none [
ld 19 3 4, p1 20 37 19, mv 5 20] [1, 5, 13, 14, 15])
(.seq
(.region none [
mv 21 5, bc 22 .neq 21 0] [1, 5, 13, 14, 15, 22])
(.cond (.t 22)
(.seq
(.region none [
mv 23 5, mv 2 23] [2])
.ret)
.skip)))))
(.region none [
bc 24 .add 15 1, mv 15 24] [1, 13, 14, 15])))))))
(.seq
(.seq
(.region none [
fa 25 0 1, ln 26 25, le 27 26, ic 28 0] [1, 26, 27, 28])
(.block 2
(.loop [(1, none), (26, none), (27, none), (28, none)]
(.seq
(.region none [
bt 29 .lss 28 27] [1, 26, 27, 28, 29])
(.seq
(.cond (.t 29)
.skip
(.exit 2))
(.seq
(.block 3
(.seq
(.region none [
mv 30 28, ia 31 3 26 28, ld 32 3 31, ⟨some 7, .alloc z5, none⟩, mv 6 30, st 3 7 32] [1, 6, 7, 26, 27, 28])
(.seq
(.region (some [0, 1, 3, 7, 15, 7, 39, 127, 255, 511, 7, 1031, 4095, 8191]) [
mv 33 6, bc 34 .gtr 33 0, mv 35 34, ⟨some 36, .fadr 0 (.t 1), (some (35, true))⟩, ⟨some 37, .load none (.t 36), (some (35, true))⟩,
⟨some 38, .mov (.t 6), (some (35, true))⟩, ⟨some 39, .bin .sub (.t 38) (.c (.int .i64 1)), (some (35, true))⟩,
⟨some 40, .iadr 3 (.t 37) (.t 39), (some (35, true))⟩, ⟨some 41, .fadr 0 (.t 40), (some (35, true))⟩, ⟨some 42, .load none (.t 41), (some (35, true))⟩,
⟨some 43, .fadr 0 (.t 7), (some (35, true))⟩, ⟨some 44, .load none (.t 43), (some (35, true))⟩, ⟨some 45, .bin .geq (.t 42) (.t 44), (some (35, true))⟩,
pan 46 35 45] [1, 26, 27, 28, 46])
(.cond (.t 46)
(.seq
(.region none [
ic 2 32] [2])
.ret)
.skip))))
(.region none [
bc 47 .add 28 1, mv 28 47] [1, 26, 27, 28])))))))
(.seq
(.region none [
ic 2 0] [2])
.ret))))),
[.tmp 2]⟩
theorem x36_ok : ck x36 36 := by decide +kernel
/-- peloton/course.Check -/
def x37 : XFunc := ⟨1,
(.seq
(.region none [
bx 1 0, ic 2 0] [1])
(.seq
(.region none [
⟨some 3, .mov (.c (.clo 68 [] [])), none⟩] [1, 3])
(.seq
(.seq
(.region none [
fa 4 0 1, ln 5 4, bc 6 .lss 5 0, mv 7 6, ⟨some 8, .fadr 0 (.t 1), (some (7, false))⟩, ⟨some 9, .load none (.t 8), (some (7, false))⟩,
⟨some 10, .bin .gtr (.t 9) (.c (.int .i64 65535)), (some (7, false))⟩, por 11 7 10, mv 12 11, ⟨some 13, .mov (.t 3), (some (12, false))⟩,
⟨some 14, .fadr 1 (.t 1), (some (12, false))⟩, ⟨some 15, .load none (.t 14), (some (12, false))⟩, ⟨some 16, .callv (.t 13) [(.t 15)], (some (12, false))⟩,
por 17 12 16, mv 18 17, ⟨some 19, .mov (.t 3), (some (18, false))⟩, ⟨some 20, .fadr 2 (.t 1), (some (18, false))⟩,
⟨some 21, .load none (.t 20), (some (18, false))⟩, ⟨some 22, .callv (.t 19) [(.t 21)], (some (18, false))⟩, por 23 18 22] [23])
(.cond (.t 23)
(.seq
(.region none [
ic 2 8] [2])
.ret)
.skip))
(.seq
(.region none [
ic 2 0] [2])
.ret)))),
[.tmp 2]⟩
theorem x37_ok : ck x37 37 := by decide +kernel
/-- peloton/field.find -/
def x38 : XFunc := ⟨2,
(.seq
(.region none [
bx 2 0, ic 4 0, ⟨some 5, .mov (.c (.bool false)), none⟩] [1, 2])
(.seq
(.region none [
fa 6 0 2, ln 7 6, mv 8 1, ⟨some 9, .call .pur 69 [(.t 7), (.t 8), (.c (.clo 70 [] []))], none⟩, ex 10 0 9, ex 11 1 9, mv 4 10, mv 5 11] [4, 5])
.ret)),
[.tmp 4, .tmp 5]⟩
theorem x38_ok : ck x38 38 := by decide +kernel
/-- slices.Insert[[]peloton/api.Point,peloton/api.Point] -/
def x39 : XFunc := ⟨3,
(.seq
(.region none [
⟨some 6, .mov (.c (.sl 3 true [])), none⟩] [0, 1, 2])
(.seq
(.region none [
mv 10 0, mv 11 1, ⟨some 12, .slc 3 (.t 10) (some (.t 11)) none none, none⟩] [0, 1, 2])
(.seq
(.region none [
mv 13 2, le 14 13, mv 7 14] [0, 1, 2, 7])
(.seq
(.seq
(.region none [
mv 15 7, bc 16 .eql 15 0] [0, 1, 2, 7, 16])
(.cond (.t 16)
(.seq
(.region none [
mv 17 0, mv 6 17] [6])
.ret)
.skip))
(.seq
(.region none [
mv 18 0, le 19 18, mv 8 19] [0, 1, 2, 7, 8])
(.seq
(.seq
(.region none [
mv 20 1, mv 21 8, bt 22 .eql 20 21] [0, 1, 2, 7, 8, 22])
(.cond (.t 22)
(.seq
(.region none [
mv 23 0, mv 24 2, ap 25 3 23 24, mv 6 25] [6])
.ret)
.skip))
(.seq
(.seq
(.region none [
mv 26 8, mv 27 7, bt 28 .add 26 27, mv 29 0, ⟨some 30, .bad, none⟩, bt 31 .gtr 28 30] [0, 1, 2, 7, 8, 31])
(.cond (.t 31)
(.seq
(.region none [
mv 32 0, mv 33 1, ⟨some 34, .slc 3 (.t 32) none (some (.t 33)) none, none⟩, mv 35 8, mv 36 7, bt 37 .add 35 36, mv 38 1, bt 39 .sub 37 38,
⟨some 40, .bad, none⟩, mv 9 40] [0, 1, 2, 7, 9])
(.seq
(.region none [
mv 41 9, mv 42 1, ⟨some 43, .slc 3 (.t 41) (some (.t 42)) none none, none⟩, mv 44 2, ⟨some 45, .copy 3 (.t 43) (.t 44), none⟩] [0, 1, 7, 9])
(.seq
(.region (some [0, 0, 0, 6, 15, 0, 0, 96, 255]) [
mv 46 9, mv 47 1, mv 48 7, bt 49 .add 47 48, ⟨some 50, .slc 3 (.t 46) (some (.t 49)) none none, none⟩, mv 51 0, mv 52 1,
⟨some 53, .slc 3 (.t 51) (some (.t 52)) none none, none⟩, ⟨some 54, .copy 3 (.t 50) (.t 53), none⟩] [9])
(.seq
(.region none [
mv 55 9, mv 6 55] [6])
.ret))))
.skip))
(.seq
(.region none [
mv 56 0, mv 57 8, mv 58 7, bt 59 .add 57 58, ⟨some 60, .slc 3 (.t 56) none (some (.t 59)) none, none⟩, mv 0 60] [0, 1, 2, 7, 8])
(.seq
(.seq
(.region none [
mv 61 2, mv 62 0, mv 63 1, mv 64 7, bt 65 .add 63 64, ⟨some 66, .slc 3 (.t 62) (some (.t 65)) none none, none⟩, p2 67 72 61 66,
⟨some 68, .un .not (.t 67), none⟩] [0, 1, 2, 7, 8, 68])
(.cond (.t 68)
(.seq
(.region (some [0, 0, 0, 6, 15, 0, 0, 96, 255]) [
mv 69 0, mv 70 1, mv 71 7, bt 72 .add 70 71, ⟨some 73, .slc 3 (.t 69) (some (.t 72)) none none, none⟩, mv 74 0, mv 75 1,
⟨some 76, .slc 3 (.t 74) (some (.t 75)) none none, none⟩, ⟨some 77, .copy 3 (.t 73) (.t 76), none⟩] [0, 1, 2])
(.seq
(.region none [
mv 78 0, mv 79 1, ⟨some 80, .slc 3 (.t 78) (some (.t 79)) none none, none⟩, mv 81 2, ⟨some 82, .copy 3 (.t 80) (.t 81), none⟩] [0])
(.seq
(.region none [
mv 83 0, mv 6 83] [6])
.ret)))
.skip))
(.seq
(.region none [
mv 84 0, mv 85 8, ⟨some 86, .slc 3 (.t 84) (some (.t 85)) none none, none⟩, mv 87 2, ⟨some 88, .copy 3 (.t 86) (.t 87), none⟩] [0, 1, 7])
(.seq
(.region none [
mv 89 0, mv 90 1, ⟨some 91, .slc 3 (.t 89) (some (.t 90)) none none, none⟩, mv 92 7, p2 93 73 91 92] [0])
(.seq
(.region none [
mv 94 0, mv 6 94] [6])
.ret)))))))))))),
[.tmp 6]⟩
theorem x39_ok : ck x39 39 := by decide +kernel
/-- peloton/hedit.mover$1 -/
def x41 : XFunc := ⟨5,
(.seq
(.region none [
⟨some 7, .mov (.c (.bool false)), none⟩] [0, 1, 2, 3, 4])
(.seq
(.region (some [0, 0, 0, 6, 14, 31, 63, 127, 127, 0, 767, 2047]) [
ld 15 1 2, ln 16 3, mv 17 0, ia 18 1 16 17, ln 19 18, p2 20 42 15 19, mv 14 20, ex 21 0 14, ex 22 1 14,
⟨some 8, .alloc z5, none⟩, st 3 8 21, mv 9 22] [1, 2, 3, 4, 8])
(.seq
(.region (some [0, 0, 0, 6, 14, 31, 63, 127, 127, 0, 767, 2047]) [
ld 24 1 2, ln 25 3, mv 26 1, ia 27 1 25 26, ln 28 27, p2 29 42 24 28, mv 23 29, ex 30 0 23, ex 31 1 23,
⟨some 10, .alloc z5, none⟩, st 3 10 30, mv 11 31] [4, 8, 10])
(.seq
(.region none [
ld 33 3 8, ld 34 3 10, ld 35 2 4, p3 36 43 33 34 35, mv 32 36, ex 37 0 32, ex 38 1 32, mv 12 37, mv 13 38] [12])
(.seq
(.region none [
mv 39 12, mv 7 39] [7])
.ret))))),
[.tmp 7]⟩
theorem x41_ok : ck x41 41 := by decide +kernel
/-- peloton/field.Find -/
def x42 : XFunc := ⟨2,
(.seq
(.region none [
bx 2 0, ⟨some 4, .alloc z5, none⟩, ic 5 0] [1, 2, 4])
(.seq
(.region none [
ld 9 1 2, mv 10 1, p2 11 48 9 10, mv 8 11, ex 12 0 8, ex 13 1 8, mv 6 12, mv 7 13] [2, 4, 6, 7])
(.seq
(.seq
(.region none [
mv 14 7, bc 15 .neq 14 0] [2, 4, 6, 7, 15])
(.cond (.t 15)
(.seq
(.region none [
⟨some 16, .build z5 [], none⟩, mv 17 7, st 3 4 16, mv 5 17] [4, 5])
.ret)
.skip))
(.seq
(.region none [
fa 18 0 2, ln 19 18, mv 20 6, ia 21 3 19 20, ld 22 3 21, st 3 4 22, ic 5 0] [4, 5])
.ret)))),
[.cell 4 (some 3), .tmp 5]⟩
theorem x42_ok : ck x42 42 := by decide +kernel
/-- peloton/course.Ahead -/
def x43 : XFunc := ⟨3,
(.seq
(.region none [
bx 3 0, bx 4 1, bx 5 2, ⟨some 6, .mov (.c (.bool false)), none⟩, ic 7 0] [3, 4, 5])
(.seq
(.seq
(.region none [
ld 9 3 3, ld 10 3 4, ld 11 2 5, p3 12 74 9 10 11, mv 8 12] [3, 4, 5, 8])
(.seq
(.region none [
mv 13 8, bc 14 .neq 13 0] [3, 4, 5, 8, 14])
(.cond (.t 14)
(.seq
(.region none [
mv 15 8, ⟨some 6, .mov (.c (.bool false)), none⟩, mv 7 15] [6, 7])
.ret)
.skip)))
(.seq
(.region none [
ld 16 3 3, ld 17 3 4, ld 18 2 5, p3 19 75 16 17 18, bc 20 .gtr 19 0, mv 6 20, ic 7 0] [6, 7])
.ret))),
[.tmp 6, .tmp 7]⟩
theorem x43_ok : ck x43 43 := by decide +kernel
/-- peloton/hedit.mover$2 -/
def x44 : XFunc := ⟨3,
(.seq
(.region none [
ic 4 0] [0, 1, 2])
(.seq
(.block 0
(.loop [(0, none), (1, none), (2, none)]
(.seq
(.seq
(.region none [
mv 5 0, bc 6 .gtr 5 0, mv 7 6, ⟨some 8, .load none (.t 1), (some (7, true))⟩, ⟨some 9, .mov (.t 0), (some (7, true))⟩, ⟨some 10, .mov (.t 0), (some (7, true))⟩,
⟨some 11, .bin .sub (.t 10) (.c (.int .i64 1)), (some (7, true))⟩, ⟨some 12, .bin .quo (.t 11) (.c (.int .i64 2)), (some (7, true))⟩,
⟨some 13, .callv (.t 8) [(.t 9), (.t 12)], (some (7, true))⟩, pan 14 7 13] [0, 1, 2, 14])
(.cond (.t 14)
.skip
(.exit 0)))
(.block 1
(.seq
(.region (some [0, 0, 0, 0, 8, 24, 0, 0, 128, 384, 960, 1984, 0, 0, 12288, 28672, 65475, 131011, 262143, 524287]) [
ln 15 2, mv 16 0, ln 17 2, mv 18 0, bc 19 .sub 18 1, bc 20 .quo 19 2, ln 21 2, mv 22 0, bc 23 .sub 22 1, bc 24 .quo 23 2, ia 25 1 21 24, ln 26 25, ln 27 2,
mv 28 0, ia 29 1 27 28, ln 30 29, ia 31 1 15 16, st 1 31 26, ia 32 1 17 20, st 1 32 30] [0, 1, 2])
(.region none [
mv 33 0, bc 34 .sub 33 1, bc 35 .quo 34 2, mv 0 35] [0, 1, 2]))))))
(.seq
(.region none [
mv 36 0, mv 4 36] [4])
.ret))),
[.tmp 4]⟩
theorem x44_ok : ck x44 44 := by decide +kernel
/-- peloton/hedit.mover$3 -/
def x45 : XFunc := ⟨3,
(.seq
(.region none [
ic 4 0] [0, 1, 2])
(.block 0
(.loop [(0, none), (1, none), (2, none)]
(.block 1
(.seq
(.region none [
mv 7 0, mv 5 7] [0, 1, 2, 5])
(.seq
(.seq
(.region none [
mv 8 0, ⟨some 9, .bin .mul (.c (.int .i64 2)) (.t 8), none⟩, bc 10 .add 9 1, mv 6 10] [0, 1, 2, 5, 6])
(.block 2
(.loop [(0, none), (1, none), (2, none), (5, none), (6, none)]
(.seq
(.seq
(.region none [
mv 11 6, mv 12 0, ⟨some 13, .bin .mul (.c (.int .i64 2)) (.t 12), none⟩, bc 14 .add 13 2, bt 15 .leq 11 14, mv 16 15, ⟨some 17, .mov (.t 6), (some (16, true))⟩,
⟨some 18, .load none (.t 1), (some (16, true))⟩, ⟨some 19, .len (.t 18), (some (16, true))⟩, ⟨some 20, .bin .lss (.t 17) (.t 19), (some (16, true))⟩,
pan 21 16 20] [0, 1, 2, 5, 6, 21])
(.cond (.t 21)
.skip
(.exit 2)))
(.seq
(.block 3
(.seq
(.region none [
ln 24 2, mv 25 6, mv 26 5, ⟨some 27, .callv (.t 24) [(.t 25), (.t 26)], none⟩] [0, 1, 2, 5, 6, 27])
(.cond (.t 27)
(.region none [
mv 28 6, mv 5 28] [0, 1, 2, 5, 6])
.skip)))
(.region none [
mv 22 6, bc 23 .add 22 1, mv 6 23] [0, 1, 2, 5, 6]))))))
(.seq
(.seq
(.region none [
mv 29 5, mv 30 0, bt 31 .eql 29 30] [0, 1, 2, 5, 31])
(.cond (.t 31)
(.seq
(.region none [
mv 32 0, mv 4 32] [4])
.ret)
.skip))
(.seq
(.region (some [0, 0, 0, 0, 0, 0, 48, 112, 0, 0, 768, 1792, 4083, 8179, 16383, 32767]) [
ln 33 1, mv 34 0, ln 35 1, mv 36 5, ln 37 1, mv 38 5, ia 39 1 37 38, ln 40 39, ln 41 1, mv 42 0, ia 43 1 41 42, ln 44 43, ia 45 1 33 34, st 1 45 40,
ia 46 1 35 36, st 1 46 44] [1, 2, 5])
(.region none [
mv 47 5, mv 0 47] [0, 1, 2]))))))))),
[.tmp 4]⟩
theorem x45_ok : ck x45 45 := by decide +kernel
/-- peloton/kheap.Renew -/
def x46 : XFunc := ⟨3,
(.seq
(.region none [
bx 3 0, bx 4 1,
⟨some 6, .alloc z1, none⟩,
ic 7 0] [2, 3, 4, 6])
(.seq
(.seq
(.region none [
ld 20 11 3, p1 21 31 20, mv 8 21] [2, 3, 4, 6, 8])
(.seq
(.region none [
mv 22 8, bc 23 .neq 22 0] [2, 3, 4, 6, 8, 23])
(.cond (.t 23)
(.seq
(.region none [
⟨some 24, .build z1 [], none⟩,
mv 25 8, st 11 6 24, mv 7 25] [6, 7])
.ret)
.skip)))
(.seq
(.seq
(.region none [
ld 26 1 4, p1 27 36 26, mv 9 27] [2, 3, 4, 6, 9])
(.seq
(.region none [
mv 28 9, bc 29 .neq 28 0] [2, 3, 4, 6, 9, 29])
(.cond (.t 29)
(.seq
(.region none [
⟨some 30, .build z1 [], none⟩,
mv 31 9, st 11 6 30, mv 7 31] [6, 7])
.ret)
.skip)))
(.seq
(.seq
(.region none [
mv 32 2, le 33 32, ic 34 0] [2, 3, 4, 6, 32, 33, 34])
(.block 0
(.loop [(2, none), (3, none), (4, none), (6, none), (32, none), (33, none), (34, none)]
(.seq
(.region none [
bt 35 .lss 34 33] [2, 3, 4, 6, 32, 33, 34, 35])
(.seq
(.cond (.t 35)
.skip
(.exit 0))
(.seq
(.block 1
(.seq
(.region none [
ia 36 2 32 34, ld 37 2 36, ⟨some 11, .alloc z8, none⟩, st 2 11 37] [2, 3, 4, 6, 11, 32, 33, 34])
(.seq
(.region none [
fa 38 0 11, ln 39 38, bc 40 .lss 39 0, mv 41 40, ⟨some 42, .fadr 1 (.t 11), (some (41, false))⟩, ⟨some 43, .load none (.t 42), (some (41, false))⟩,
⟨some 44, .bin .lss (.t 43) (.c (.int .i64 0)), (some (41, false))⟩, por 45 41 44, mv 46 45, ⟨some 47, .fadr 0 (.t 11), (some (46, false))⟩,
⟨some 48, .load none (.t 47), (some (46, false))⟩, ⟨some 49, .bin .gtr (.t 48) (.c (.int .i64 65535)), (some (46, false))⟩, por 50 46 49, mv 51 50,
⟨some 52, .fadr 1 (.t 11), (some (51, false))⟩, ⟨some 53, .load none (.t 52), (some (51, false))⟩,
⟨some 54, .bin .gtr (.t 53) (.c (.int .i64 65535)), (some (51, false))⟩, por 55 51 54, mv 56 55, ⟨some 57, .fadr 0 (.t 11), (some (56, false))⟩,
⟨some 58, .load none (.t 57), (some (56, false))⟩, ⟨some 59, .fadr 1 (.t 11), (some (56, false))⟩, ⟨some 60, .load none (.t 59), (some (56, false))⟩,
⟨some 61, .bin .eql (.t 58) (.t 60), (some (56, false))⟩, por 62 56 61] [2, 3, 4, 6, 32, 33, 34, 62])
(.cond (.t 62)
(.seq
(.region none [
⟨some 63, .build z1 [], none⟩,
st 11 6 63, ic 7 8] [6, 7])
.ret)
.skip))))
(.region none [
bc 64 .add 34 1, mv 34 64] [2, 3, 4, 6, 32, 33, 34])))))))
(.seq
(.seq
(.region none [
mv 65 2, le 66 65, ic 67 0] [2, 3, 4, 6, 65, 66, 67])
(.block 2
(.loop [(2, none), (3, none), (4, none), (6, none), (65, none), (66, none), (67, none)]
(.seq
(.region none [
bt 68 .lss 67 66] [2, 3, 4, 6, 65, 66, 67, 68])
(.seq
(.cond (.t 68)
.skip
(.exit 2))
(.seq
(.block 3
(.seq
(.region none [
mv 69 67, ia 70 2 65 67, ld 71 2 70, ⟨some 13, .alloc z8, none⟩, mv 12 69, st 2 13 71] [2, 3, 4, 6, 12, 13, 65, 66, 67])
(.seq
(.region (some [0, 0, 3, 0, 15]) [
mv 72 2, mv 73 12, ⟨some 74, .slc 2 (.t 72) none (some (.t 73)) none, none⟩, ld 75 2 13, p2 76 34 74 75] [2, 3, 4, 6, 65, 66, 67, 76])
(.cond (.t 76)
(.seq
(.region none [
⟨some 77, .build z1 [], none⟩,
st 11 6 77, ic 7 14] [6, 7])
.ret)
.skip))))
(.region none [
bc 78 .add 67 1, mv 67 78] [2, 3, 4, 6, 65, 66, 67])))))))
(.seq
(.seq
(.region none [
mv 79 2, le 80 79, ic 81 0] [2, 3, 4, 6, 79, 80, 81])
(.block 4
(.loop [(2, none), (3, none), (4, none), (6, none), (79, none), (80, none), (81, none)]
(.seq
(.region none [
bt 82 .lss 81 80] [2, 3, 4, 6, 79, 80, 81, 82])
(.seq
(.cond (.t 82)
.skip
(.exit 4))
(.seq
(.block 5
(.seq
(.region none [
ia 83 2 79 81, ld 84 2 83, ⟨some 15, .alloc z8, none⟩, st 2 15 84] [2, 3, 4, 6, 15, 79, 80, 81])
(.seq
(.region none [
ld 86 1 4, fa 87 0 15, ln 88 87, p2 89 42 86 88, mv 85 89, ex 90 0 85, ex 91 1 85, ⟨some 16, .alloc z5, none⟩, st 3 16 90,
mv 17 91] [2, 3, 4, 6, 15, 17, 79, 80, 81])
(.seq
(.region none [
ld 93 1 4, fa 94 1 15, ln 95 94, p2 96 42 93 95, mv 92 96, ex 97 0 92, ex 98 1 92, ⟨some 18, .alloc z5, none⟩, st 3 18 97,
mv 19 98] [2, 3, 4, 6, 17, 19, 79, 80, 81])
(.seq
(.region none [
mv 99 17, bc 100 .neq 99 0, mv 101 100, ⟨some 102, .mov (.t 19), (some (101, false))⟩, ⟨some 103, .bin .neq (.t 102) (.c (.int .i64 0)), (some (101, false))⟩,
por 104 101 103] [2, 3, 4, 6, 79, 80, 81, 104])
(.cond (.t 104)
(.seq
(.region none [
⟨some 105, .build z1 [], none⟩,
st 11 6 105, ic 7 6] [6, 7])
.ret)
.skip))))))
(.region none [
bc 106 .add 81 1, mv 81 106] [2, 3, 4, 6, 79, 80, 81])))))))
(.seq
(.region (some [0, 1, 0, 0, 15, 31, 31, 127, 255]) [
ld 107 11 3, ⟨some 108, .call .own 77 [(.t 107)], none⟩, ld 109 1 4, mv 110 2, p3 111 76 108 109 110, ex 112 0 111, ex 113 1 111, st 11 6 112, mv 7 113] [6, 7])
.ret))))))),
[.cell 6 (some 11), .tmp 7]⟩
theorem x46_ok : ck x46 46 := by decide +kernel
/-- peloton/hedit.edges -/
def x47 : XFunc := ⟨1,
(.seq
(.region none [
⟨some 2, .mov (.c (.sl 2 true [])), none⟩] [0])
(.seq
(.region none [
⟨some 3, .mov (.c (.sl 2 true [])), none⟩] [0, 3])
(.seq
(.seq
(.region none [
mv 5 0, le 6 5, mv 7 0, le 8 7, ⟨some 9, .mm false (.c (.int .i64 1)) [(.t 8)], none⟩, bt 10 .sub 6 9, ic 11 0] [0, 3, 10, 11])
(.block 0
(.loop [(0, none), (3, some 2), (10, none), (11, none)]
(.seq
(.region none [
bt 12 .lss 11 10] [0, 3, 10, 11, 12])
(.seq
(.cond (.t 12)
.skip
(.exit 0))
(.seq
(.block 1
(.seq
(.region none [
mv 13 11, mv 4 13] [0, 3, 4, 10, 11])
(.region (some [0, 0, 0, 4, 14, 30, 0, 0, 128, 448, 960, 2046, 4094, 8191, 16383]) [
mv 14 3, mv 15 0, mv 16 4, bc 17 .add 16 1, ia 18 1 15 17, ln 19 18, mv 20 0, mv 21 4, bc 22 .quo 21 2, ia 23 1 20 22, ln 24 23,
⟨some 25, .build z8 [(0, 1, (.t 19)), (1, 1, (.t 24))], none⟩, ⟨some 26, .mkrow 2 1 z8 [(0, (.t 25))], none⟩,
ap 27 2 14 26, mv 3 27] [0, 3, 10, 11])))
(.region none [
bc 28 .add 11 1, mv 11 28] [0, 3, 10, 11])))))))
(.seq
(.region none [
mv 29 3, mv 2 29] [2])
.ret)))),
[.tmp 2]⟩
theorem x47_ok : ck x47 47 := by decide +kernel
/-- peloton/field.place -/
def x48 : XFunc := ⟨2,
(.seq
(.region none [
bx 2 0, ic 4 0, ic 5 0] [1, 2])
(.seq
(.seq
(.region none [
ld 9 1 2, p1 10 36 9, mv 6 10] [1, 2, 6])
(.seq
(.region none [
mv 11 6, bc 12 .neq 11 0] [1, 2, 6, 12])
(.cond (.t 12)
(.seq
(.region none [
mv 13 6, ic 4 0, mv 5 13] [4, 5])
.ret)
.skip)))
(.seq
(.region none [
ld 15 1 2, mv 16 1, p2 17 38 15 16, mv 14 17, ex 18 0 14, ex 19 1 14, mv 7 18, mv 8 19] [7, 8])
(.seq
(.seq
(.region none [
mv 20 8, ⟨some 21, .un .not (.t 20), none⟩] [7, 21])
(.cond (.t 21)
(.seq
(.region none [
ic 4 0, ic 5 6] [4, 5])
.ret)
.skip))
(.seq
(.region none [
mv 22 7, mv 4 22, ic 5 0] [4, 5])
.ret))))),
[.tmp 4, .tmp 5]⟩
theorem x48_ok : ck x48 48 := by decide +kernel
/-- slices.Delete[[]peloton/api.Point,peloton/api.Point] -/
def x49 : XFunc := ⟨3,
(.seq
(.region none [
⟨some 6, .mov (.c (.sl 3 true [])), none⟩] [0, 1, 2])
(.seq
(.region none [
mv 8 0, mv 9 1, mv 10 2, mv 11 0, le 12 11, ⟨some 13, .slc 3 (.t 8) (some (.t 9)) (some (.t 10)) (some (.t 12)), none⟩] [0, 1, 2])
(.seq
(.seq
(.region none [
mv 14 1, mv 15 2, bt 16 .eql 14 15] [0, 1, 2, 16])
(.cond (.t 16)
(.seq
(.region none [
mv 17 0, mv 6 17] [6])
.ret)
.skip))
(.seq
(.region none [
mv 18 0, le 19 18, mv 7 19] [0, 1, 2, 7])
(.seq
(.region (some [0, 0, 3, 0, 0, 24, 63, 127]) [
mv 20 0, mv 21 1, ⟨some 22, .slc 3 (.t 20) none (some (.t 21)) none, none⟩, mv 23 0, mv 24 2, ⟨some 25, .slc 3 (.t 23) (some (.t 24)) none none, none⟩,
ap 26 3 22 25, mv 0 26] [0, 7])
(.seq
(.region none [
mv 27 0, mv 28 0, le 29 28, mv 30 7, ⟨some 31, .slc 3 (.t 27) (some (.t 29)) (some (.t 30)) none, none⟩,
⟨none, .clear 3 z5 (.t 31), none⟩] [0])
(.seq
(.region none [
mv 32 0, mv 6 32] [6])
.ret))))))),
[.tmp 6]⟩
theorem x49_ok : ck x49 49 := by decide +kernel
/-- peloton/pelotonref13.Ahead -/
def x50 : XFunc := ⟨4,
(.seq
(.region none [
bx 4 0, bx 5 1, ⟨some 8, .mov (.c (.bool false)), none⟩] [2, 3, 4, 5])
(.seq
(.region (some [0, 1, 0, 0, 12, 31, 63, 0, 128, 0, 0, 1564, 3996, 8092, 0, 32767, 65535]) [
fa 9 0 4, ln 10 9, ld 11 1 4, mv 12 2, p2 13 79 11 12, ia 14 3 10 13, ld 15 3 14, fa 16 0 4, ln 17 16, ld 18 1 4, mv 19 3, p2 20 79 18 19, ia 21 3 17 20,
ld 22 3 21, ld 23 2 5, p3 24 78 15 22 23, mv 8 24] [8])
.ret)),
[.tmp 8]⟩
theorem x50_ok : ck x50 50 := by decide +kernel
/-- peloton/pelotonref13.In -/
def x51 : XFunc := ⟨2,
(.seq
(.region none [
bx 3 1, ⟨some 4, .mov (.c (.bool false)), none⟩] [0, 3])
(.seq
(.seq
(.region none [
ic 5 0] [0, 3, 5])
(.block 0
(.loop [(0, none), (3, none), (5, none)]
(.seq
(.seq
(.region none [
mv 6 5, mv 7 0, le 8 7, bt 9 .lss 6 8] [0, 3, 5, 9])
(.cond (.t 9)
.skip
(.exit 0)))
(.seq
(.block 1
(.seq
(.region (some [0, 0, 3, 7, 0, 31]) [
mv 12 0, mv 13 5, ia 14 2 12 13, ld 15 2 14, ld 16 2 3, ⟨some 17, .eqc 2 false (.t 15) (.t 16), none⟩] [0, 3, 5, 17])
(.cond (.t 17)
(.seq
(.region none [
⟨some 4, .mov (.c (.bool true)), none⟩] [4])
.ret)
.skip)))
(.region none [
mv 10 5, bc 11 .add 10 1, mv 5 11] [0, 3, 5]))))))
(.seq
(.region none [
⟨some 4, .mov (.c (.bool false)), none⟩] [4])
.ret))),
[.tmp 4]⟩
theorem x51_ok : ck x51 51 := by decide +kernel
/-- peloton/pelotonref09.Gone -/
def x52 : XFunc := ⟨2,
(.seq
(.region none [
bx 2 0,
⟨some 4, .alloc z1, none⟩] [1, 2, 4])
(.seq
(.region none [
ld 7 11 2, ⟨some 8, .call .own 26 [(.t 7)], none⟩,
⟨some 5, .alloc z1, none⟩,
st 11 5 8] [1, 2, 4, 5])
(.seq
(.region none [
fa 9 3 2, ld 10 2 9, mv 11 1, p2 12 80 10 11, fa 13 3 5, st 2 13 12] [1, 2, 4, 5])
(.seq
(.seq
(.region none [
ld 14 11 2, mv 15 1, p2 16 81 14 15, mv 6 16] [2, 4, 5, 6])
(.seq
(.region none [
mv 17 6, bc 18 .geq 17 0] [2, 4, 5, 6, 18])
(.cond (.t 18)
(.seq
(.region (some [0, 1, 0, 4, 0, 28, 60, 124, 255, 511, 1023]) [
fa 19 5 2, ld 20 5 19, fa 21 10 2, ln 22 21, mv 23 6, ia 24 3 22 23, fa 25 1 24, ld 26 2 25, p2 27 82 20 26, fa 28 5 5, st 5 28 27] [2, 4, 5, 6])
(.region (some [0, 0, 2, 0, 14, 31, 0, 64, 0, 256, 960, 2047, 4095, 8191]) [
⟨some 29, .mkrow 3 0 z5 [], none⟩, fa 30 10 2, ln 31 30, mv 32 6, ⟨some 33, .slc 3 (.t 31) none (some (.t 32)) none, none⟩,
ap 34 3 29 33, fa 35 10 2, ln 36 35, mv 37 6, bc 38 .add 37 1, ⟨some 39, .slc 3 (.t 36) (some (.t 38)) none none, none⟩, ap 40 3 34 39, fa 41 10 5,
st 1 41 40] [4, 5]))
.skip)))
(.seq
(.region none [
ld 42 11 5, st 11 4 42] [4])
.ret))))),
[.cell 4 (some 11)]⟩
theorem x52_ok : ck x52 52 := by decide +kernel
/-- peloton/pelotonref03.Same -/
def x53 : XFunc := ⟨2,
(.seq
(.region none [
bx 2 0, bx 3 1, ⟨some 4, .mov (.c (.bool false)), none⟩] [2, 3])
(.seq
(.seq
(.region none [
fa 6 0 2, ln 7 6, le 8 7, fa 9 0 3, ln 10 9, le 11 10, bt 12 .neq 8 11] [2, 3, 12])
(.cond (.t 12)
(.seq
(.region none [
⟨some 4, .mov (.c (.bool false)), none⟩] [4])
.ret)
.skip))
(.seq
(.seq
(.region none [
ic 5 0] [2, 3, 5])
(.block 0
(.loop [(2, none), (3, none), (5, none)]
(.seq
(.seq
(.region none [
mv 13 5, fa 14 0 2, ln 15 14, le 16 15, bt 17 .lss 13 16] [2, 3, 5, 17])
(.cond (.t 17)
.skip
(.exit 0)))
(.seq
(.block 1
(.seq
(.region (some [0, 1, 0, 7, 15, 0, 32, 0, 224, 480, 1023]) [
fa 20 0 2, ln 21 20, mv 22 5, ia 23 3 21 22, ld 24 3 23, fa 25 0 3, ln 26 25, mv 27 5, ia 28 3 26 27, ld 29 3 28,
⟨some 30, .eqc 3 true (.t 24) (.t 29), none⟩] [2, 3, 5, 30])
(.cond (.t 30)
(.seq
(.region none [
⟨some 4, .mov (.c (.bool false)), none⟩] [4])
.ret)
.skip)))
(.region none [
mv 18 5, bc 19 .add 18 1, mv 5 19] [2, 3, 5]))))))
(.seq
(.region none [
⟨some 4, .mov (.c (.bool true)), none⟩] [4])
.ret)))),
[.tmp 4]⟩
theorem x53_ok : ck x53 53 := by decide +kernel
/-- peloton/pelotonref09.Altered -/
def x54 : XFunc := ⟨2,
(.seq
(.region none [
bx 2 0, bx 3 1,
⟨some 4, .alloc z1, none⟩,
ic 5 0] [2, 3, 4])
(.seq
(.region none [
ld 14 11 2, p1 15 26 14,
⟨some 6, .alloc z1, none⟩,
st 11 6 15] [2, 3, 4, 6])
(.seq
(.region none [
ld 16 1 3, p1 17 57 16, fa 18 2 6, st 1 18 17] [2, 3, 4, 6])
(.seq
(.region none [
fa 19 10 6, ⟨none, .store 1 (.t 19) (.c (.sl 3 true [])), none⟩] [2, 3, 4, 6])
(.seq
(.seq
(.region none [
ic 7 0] [2, 3, 4, 6, 7])
(.block 0
(.loop [(2, none), (3, none), (4, none), (6, none), (7, none), (6, some 11003)]
(.seq
(.seq
(.region none [
mv 20 7, fa 21 3 2, fa 22 1 21, ln 23 22, le 24 23, bt 25 .lss 20 24] [2, 3, 4, 6, 7, 25])
(.cond (.t 25)
.skip
(.exit 0)))
(.seq
(.block 1
(.seq
(.region none [
fa 28 3 2, fa 29 1 28, ln 30 29, mv 31 7, ia 32 3 30 31, ld 33 3 32, ⟨some 8, .alloc z5, none⟩,
st 3 8 33] [2, 3, 4, 6, 7, 8])
(.seq
(.region none [
ld 34 11 2, fa 35 0 8, ln 36 35, p2 37 81 34 36, mv 9 37] [2, 3, 4, 6, 7, 8, 9])
(.seq
(.region none [
ld 39 1 3, fa 40 1 8, ld 41 2 40, fa 42 0 2, ld 43 2 42, p3 44 83 39 41 43, mv 38 44, ex 45 0 38, ex 46 1 38,
⟨some 10, .alloc z8, none⟩, st 2 10 45, mv 11 46] [2, 3, 4, 6, 7, 8, 9, 10, 11])
(.seq
(.seq
(.region none [
mv 47 11, mv 48 47, ⟨some 49, .mov (.t 9), (some (48, true))⟩, ⟨some 50, .bin .geq (.t 49) (.c (.int .i64 0)), (some (48, true))⟩,
pan 51 48 50] [2, 3, 4, 6, 7, 8, 9, 10, 11, 51])
(.cond (.t 51)
(.seq
(.region (some [0, 1, 0, 4, 0, 28, 60, 124, 0, 511, 1023, 2047]) [
fa 52 5 6, ld 53 5 52, fa 54 10 2, ln 55 54, mv 56 9, ia 57 3 55 56, fa 58 1 57, ld 59 2 58, ld 60 2 10, p3 61 84 53 59 60, fa 62 5 6,
st 5 62 61] [2, 3, 4, 6, 7, 8, 9, 10, 11])
(.region (some [0, 1, 0, 4, 0, 28, 60, 124, 255, 511, 1023]) [
fa 63 10 6, ln 64 63, fa 65 10 2, ln 66 65, mv 67 9, ia 68 3 66 67, ld 69 3 68,
⟨some 70, .mkrow 3 1 z5 [(0, (.t 69))], none⟩, ap 71 3 64 70, fa 72 10 6, st 1 72 71] [2, 3, 4, 6, 7, 8, 9, 10, 11]))
.skip))
(.seq
(.seq
(.region none [
mv 73 11, ⟨some 74, .un .not (.t 73), none⟩, mv 75 74, ⟨some 76, .mov (.t 9), (some (75, true))⟩,
⟨some 77, .bin .geq (.t 76) (.c (.int .i64 0)), (some (75, true))⟩, pan 78 75 77] [2, 3, 4, 6, 7, 8, 9, 10, 11, 78])
(.cond (.t 78)
(.region (some [0, 1, 0, 4, 0, 28, 60, 124, 255, 511, 1023]) [
fa 79 5 6, ld 80 5 79, fa 81 10 2, ln 82 81, mv 83 9, ia 84 3 82 83, fa 85 1 84, ld 86 2 85, p2 87 82 80 86, fa 88 5 6,
st 5 88 87] [2, 3, 4, 6, 7, 8, 9, 10, 11])
.skip))
(.seq
(.seq
(.region none [
mv 89 11, ⟨some 90, .un .not (.t 89), none⟩, mv 91 90, ⟨some 92, .mov (.t 9), (some (91, false))⟩,
⟨some 93, .bin .geq (.t 92) (.c (.int .i64 0)), (some (91, false))⟩, por 94 91 93] [2, 3, 4, 6, 7, 8, 10, 94])
(.cond (.t 94)
(.exit 1)
.skip))
(.seq
(.seq
(.region none [
fa 95 5 6, fa 96 0 95, ld 97 3 96, p1 98 85 97, ⟨some 99, .un .not (.t 98), none⟩] [2, 3, 4, 6, 7, 8, 10, 99])
(.cond (.t 99)
(.seq
(.region none [
⟨some 100, .build z1 [], none⟩,
st 11 4 100, ic 5 18] [4, 5])
.ret)
.skip))
(.seq
(.region none [
fa 102 5 6, ld 103 5 102, ld 104 2 10, fa 105 0 8, ln 106 105, p3 107 86 103 104 106, mv 101 107, ex 108 0 101, ex 109 1 101,
⟨some 12, .alloc z2, none⟩, ⟨some 13, .alloc z8, none⟩,
st 5 12 108, st 2 13 109] [2, 3, 4, 6, 7, 8, 12, 13])
(.seq
(.region none [
ld 110 5 12, fa 111 5 6, st 5 111 110] [2, 3, 4, 6, 7, 8, 13])
(.region none [
fa 112 10 6, ln 113 112, fa 114 0 8, ln 115 114, ld 116 2 13,
⟨some 117, .build z5 [(0, 1, (.t 115)), (1, 2, (.t 116))], none⟩,
⟨some 118, .mkrow 3 1 z5 [(0, (.t 117))], none⟩, ap 119 3 113 118, fa 120 10 6, st 1 120 119] [2, 3, 4, 6, 7])))))))))))
(.region none [
mv 26 7, bc 27 .add 26 1, mv 7 27] [2, 3, 4, 6, 7]))))))
(.seq
(.region none [
ld 121 11 6, st 11 4 121, ic 5 0] [4, 5])
.ret)))))),
[.cell 4 (some 11), .tmp 5]⟩
theorem x54_ok : ck x54 54 := by decide +kernel
/-- peloton/pelotonref08.Has -/
def x55 : XFunc := ⟨2,
(.seq
(.region none [
bx 2 0, bx 3 1, ⟨some 4, .mov (.c (.bool false)), none⟩] [2, 3])
(.seq
(.seq
(.region none [
ic 5 0] [2, 3, 5])
(.block 0
(.loop [(2, none), (3, none), (5, none)]
(.seq
(.seq
(.region none [
mv 6 5, fa 7 1 2, ln 8 7, le 9 8, bt 10 .lss 6 9] [2, 3, 5, 10])
(.cond (.t 10)
.skip
(.exit 0)))
(.seq
(.block 1
(.seq
(.region (some [0, 1, 0, 7, 15, 31, 0, 127]) [
fa 13 1 2, ln 14 13, mv 15 5, ia 16 3 14 15, fa 17 1 16, ld 18 2 17, ld 19 2 3, ⟨some 20, .eqc 2 false (.t 18) (.t 19), none⟩] [2, 3, 5, 20])
(.cond (.t 20)
(.seq
(.region none [
⟨some 4, .mov (.c (.bool true)), none⟩] [4])
.ret)
.skip)))
(.region none [
mv 11 5, bc 12 .add 11 1, mv 5 12] [2, 3, 5]))))))
(.seq
(.region none [
⟨some 4, .mov (.c (.bool false)), none⟩] [4])
.ret))),
[.tmp 4]⟩
theorem x55_ok : ck x55 55 := by decide +kernel
/-- peloton/pelotonref09.Added -/
def x56 : XFunc := ⟨2,
(.seq
(.region none [
bx 2 0, bx 3 1,
⟨some 4, .alloc z1, none⟩,
ic 5 0, ic 6 0] [2, 3, 4])
(.seq
(.region none [
fa 16 3 2, ld 17 2 16, ld 18 2 3, p2 19 87 17 18, mv 15 19, ex 20 0 15, ex 21 1 15, ex 22 2 15, ⟨some 7, .alloc z7, none⟩, st 2 7 20,
mv 8 21, mv 9 22] [2, 3, 4, 7, 8, 9])
(.seq
(.seq
(.region none [
mv 23 9, bc 24 .neq 23 0] [2, 3, 4, 7, 8, 9, 24])
(.cond (.t 24)
(.seq
(.region none [
⟨some 25, .build z1 [], none⟩,
mv 26 9, st 11 4 25, ic 5 0, mv 6 26] [4, 5, 6])
.ret)
.skip))
(.seq
(.region none [
ld 27 11 2, ⟨some 28, .call .own 26 [(.t 27)], none⟩,
⟨some 10, .alloc z1, none⟩,
st 11 10 28] [2, 3, 4, 7, 8, 10])
(.seq
(.region none [
ld 29 2 7, fa 30 3 10, st 2 30 29] [2, 3, 4, 8, 10])
(.seq
(.region none [
fa 32 2 2, ld 33 1 32, ld 34 2 3, fa 35 0 2, ld 36 2 35, p3 37 83 33 34 36, mv 31 37, ex 38 0 31, ex 39 1 31,
⟨some 11, .alloc z8, none⟩, st 2 11 38, mv 12 39] [2, 4, 8, 10, 11, 12])
(.seq
(.seq
(.region none [
mv 40 12, ⟨some 41, .un .not (.t 40), none⟩] [2, 4, 8, 10, 11, 41])
(.cond (.t 41)
(.seq
(.region none [
ld 42 11 10, mv 43 8, st 11 4 42, mv 5 43, ic 6 0] [4, 5, 6])
.ret)
.skip))
(.seq
(.seq
(.region none [
fa 44 5 2, fa 45 0 44, ld 46 3 45, p1 47 85 46, ⟨some 48, .un .not (.t 47), none⟩] [2, 4, 8, 10, 11, 48])
(.cond (.t 48)
(.seq
(.region none [
⟨some 49, .build z1 [], none⟩,
st 11 4 49, ic 5 0, ic 6 18] [4, 5, 6])
.ret)
.skip))
(.seq
(.region none [
fa 51 5 2, ld 52 5 51, ld 53 2 11, mv 54 8, p3 55 86 52 53 54, mv 50 55, ex 56 0 50, ex 57 1 50,
⟨some 13, .alloc z2, none⟩, ⟨some 14, .alloc z8, none⟩,
st 5 13 56, st 2 14 57] [4, 8, 10, 13, 14])
(.seq
(.region none [
ld 58 5 13, fa 59 5 10, st 5 59 58] [4, 8, 10, 14])
(.seq
(.region none [
fa 60 10 10, ln 61 60, mv 62 8, ld 63 2 14, ⟨some 64, .build z5 [(0, 1, (.t 62)), (1, 2, (.t 63))], none⟩,
⟨some 65, .mkrow 3 1 z5 [(0, (.t 64))], none⟩, ap 66 3 61 65, fa 67 10 10, st 1 67 66] [4, 8, 10])
(.seq
(.region none [
ld 68 11 10, mv 69 8, st 11 4 68, mv 5 69, ic 6 0] [4, 5, 6])
.ret)))))))))))),
[.cell 4 (some 11), .tmp 5, .tmp 6]⟩
theorem x56_ok : ck x56 56 := by decide +kernel
/-- peloton/pelotonref03.Twin -/
def x57 : XFunc := ⟨1,
(.seq
(.region none [
bx 1 0, ⟨some 2, .alloc [.sl 3 true []], none⟩] [1, 2])
(.seq
(.region none [
⟨some 3, .mkrow 3 0 z5 [], none⟩, fa 4 0 1, ln 5 4, ap 6 3 3 5, ⟨some 7, .build [.sl 3 true []] [(0, 1, (.t 6))], none⟩,
st 1 2 7] [2])
.ret)),
[.cell 2 (some 1)]⟩
theorem x57_ok : ck x57 57 := by decide +kernel
/-- peloton/pelotonref07.Begin -/
def x58 : XFunc := ⟨1,
(.seq
(.region none [
⟨some 2, .alloc z2, none⟩] [0, 2])
(.seq
(.region none [
mv 5 0, p1 6 88 5, ⟨some 7, .build z2 [(0, 3, (.t 6))], none⟩,
⟨some 3, .alloc z2, none⟩, st 5 3 7] [0, 2, 3])
(.seq
(.seq
(.region none [
ic 4 0] [0, 2, 3, 4])
(.block 0
(.loop [(0, none), (2, none), (3, none), (4, none), (3, some 5001)]
(.seq
(.seq
(.region none [
mv 8 4, mv 9 0, bt 10 .lss 8 9] [0, 2, 3, 4, 10])
(.cond (.t 10)
.skip
(.exit 0)))
(.seq
(.block 1
(.region none [
fa 13 4 3, ln 14 13, ⟨some 15, .mkrow 1 1 [.int .i64 0] [(0, (.c (.int .i64 (-1))))], none⟩, ap 16 1 14 15, fa 17 4 3, st 1 17 16] [0, 2, 3, 4]))
(.region none [
mv 11 4, bc 12 .add 11 1, mv 4 12] [0, 2, 3, 4]))))))
(.seq
(.region none [
ld 18 5 3, st 5 2 18] [2])
.ret)))),
[.cell 2 (some 5)]⟩
theorem x58_ok : ck x58 58 := by decide +kernel
/-- peloton/pelotonref08.Twin -/
def x59 : XFunc := ⟨1,
(.seq
(.region none [
bx 1 0, ⟨some 2, .alloc z7, none⟩] [1, 2])
(.seq
(.region (some [0, 1, 0, 0, 8, 28, 63, 127]) [
fa 3 0 1, ln 4 3, ⟨some 5, .mkrow 3 0 z5 [], none⟩, fa 6 1 1, ln 7 6, ap 8 3 5 7,
⟨some 9, .build z7 [(0, 1, (.t 4)), (1, 1, (.t 8))], none⟩, st 2 2 9] [2])
.ret)),
[.cell 2 (some 2)]⟩
theorem x59_ok : ck x59 59 := by decide +kernel
/-- peloton/pelotonref07.Twin -/
def x60 : XFunc := ⟨1,
(.seq
(.region none [
bx 1 0, ⟨some 2, .alloc z2, none⟩] [1, 2])
(.seq
(.region (some [0, 1, 3, 0, 0, 16, 63, 0, 0, 256, 1023, 2047, 4095]) [
fa 3 0 1, ld 4 3 3, ⟨some 5, .call .own 89 [(.t 4)], none⟩, ⟨some 6, .mkrow 5 0 z3 [], none⟩,
fa 7 3 1, ln 8 7, ap 9 5 6 8, ⟨some 10, .mkrow 1 0 [.int .i64 0] [], none⟩, fa 11 4 1, ln 12 11, ap 13 1 10 12,
⟨some 14, .build z2 [(0, 3, (.t 5)), (3, 1, (.t 9)), (4, 1, (.t 13))], none⟩,
st 5 2 14] [2])
.ret)),
[.cell 2 (some 5)]⟩
theorem x60_ok : ck x60 60 := by decide +kernel
/-- peloton/pelotonref01.Compare -/
def x61 : XFunc := ⟨2,
(.seq
(.region none [
bx 2 0, bx 3 1, ic 4 0] [2, 3])
(.seq
(.region (some [0, 1, 0, 4, 15, 0, 32, 0, 128, 511, 0, 0, 4095, 8191]) [
fa 7 0 2, ln 8 7, fa 9 1 3, ln 10 9, p2 11 90 8 10, fa 12 0 3, ln 13 12, fa 14 1 2, ln 15 14, p2 16 90 13 15,
⟨some 5, .alloc z6, none⟩, ⟨some 6, .alloc z6, none⟩, st 3 5 11, st 3 6 16] [5, 6])
(.seq
(.seq
(.region (some [0, 1, 0, 7, 15]) [
ld 17 3 5, p1 18 91 17, ld 19 3 6, p1 20 91 19, bt 21 .neq 18 20] [5, 6, 21])
(.cond (.t 21)
(.seq
(.seq
(.region (some [0, 1, 0, 7, 15]) [
ld 22 3 5, p1 23 91 22, ld 24 3 6, p1 25 91 24, bt 26 .lss 23 25] [26])
(.cond (.t 26)
(.seq
(.region none [
ic 4 (-1)] [4])
.ret)
.skip))
(.seq
(.region none [
ic 4 1] [4])
.ret))
.skip))
(.seq
(.seq
(.region none [
ld 27 3 5, p1 28 91 27, bc 29 .lss 28 0] [5, 6, 29])
(.cond (.t 29)
(.seq
(.region none [
ld 30 3 6, ld 31 3 5, p2 32 92 30 31, mv 4 32] [4])
.ret)
.skip))
(.seq
(.region none [
ld 33 3 5, ld 34 3 6, p2 35 92 33 34, mv 4 35] [4])
.ret))))),
[.tmp 4]⟩
theorem x61_ok : ck x61 61 := by decide +kernel
/-- peloton/pelotonref08.At -/
def x62 : XFunc := ⟨2,
(.seq
(.region none [
bx 2 0, ic 4 0] [1, 2])
(.seq
(.seq
(.region none [
ic 5 0] [1, 2, 5])
(.block 0
(.loop [(1, none), (2, none), (5, none)]
(.seq
(.seq
(.region none [
mv 6 5, fa 7 1 2, ln 8 7, le 9 8, bt 10 .lss 6 9] [1, 2, 5, 10])
(.cond (.t 10)
.skip
(.exit 0)))
(.seq
(.block 1
(.seq
(.region none [
fa 13 1 2, ln 14 13, mv 15 5, ia 16 3 14 15, fa 17 0 16, ln 18 17, mv 19 1, bt 20 .eql 18 19] [1, 2, 5, 20])
(.cond (.t 20)
(.seq
(.region none [
mv 21 5, mv 4 21] [4])
.ret)
.skip)))
(.region none [
mv 11 5, bc 12 .add 11 1, mv 5 12] [1, 2, 5]))))))
(.seq
(.region none [
ic 4 (-1)] [4])
.ret))),
[.tmp 4]⟩
theorem x62_ok : ck x62 62 := by decide +kernel
/-- peloton/ratio.Check -/
def x63 : XFunc := ⟨1,
(.seq
(.region none [
bx 1 0, ic 2 0] [1])
(.seq
(.seq
(.region (some [0, 1, 3, 7, 15, 31, 63, 127, 255, 511, 1023, 2047, 511, 4607, 12799, 32767, 65535, 131071]) [
fa 3 1 1, ln 4 3, bc 5 .lss 4 1, mv 6 5, ⟨some 7, .fadr 0 (.t 1), (some (6, false))⟩, ⟨some 8, .load none (.t 7), (some (6, false))⟩,
⟨some 9, .bin .eql (.t 8) (.c (.int .i64 (-9223372036854775808))), (some (6, false))⟩, por 10 6 9, mv 11 10, ⟨some 12, .fadr 1 (.t 1), (some (11, false))⟩,
⟨some 13, .load none (.t 12), (some (11, false))⟩, ⟨some 14, .conv .u64 (.t 13), (some (11, false))⟩, ⟨some 15, .fadr 0 (.t 1), (some (11, false))⟩,
⟨some 16, .load none (.t 15), (some (11, false))⟩, ⟨some 17, .call .pur 94 [(.t 16)], (some (11, false))⟩,
⟨some 18, .call .pur 93 [(.t 14), (.t 17)], (some (11, false))⟩, ⟨some 19, .bin .gtr (.t 18) (.c (.int .u64 1)), (some (11, false))⟩, por 20 11 19] [20])
(.cond (.t 20)
(.seq
(.region none [
ic 2 8] [2])
.ret)
.skip))
(.seq
(.region none [
ic 2 0] [2])
.ret))),
[.tmp 2]⟩
theorem x63_ok : ck x63 63 := by decide +kernel
/-- peloton/cert.Check -/
def x64 : XFunc := ⟨1,
(.seq
(.region none [
bx 1 0, ic 2 0] [1])
(.seq
(.seq
(.region none [
fa 7 1 1, ln 8 7, le 9 8, bc 10 .gtr 9 200, mv 11 10, ⟨some 12, .fadr 0 (.t 1), (some (11, false))⟩, ⟨some 13, .load none (.t 12), (some (11, false))⟩,
⟨some 14, .bin .lss (.t 13) (.c (.int .i64 0)), (some (11, false))⟩, por 15 11 14, mv 16 15, ⟨some 17, .fadr 0 (.t 1), (some (16, false))⟩,
⟨some 18, .load none (.t 17), (some (16, false))⟩, ⟨some 19, .bin .gtr (.t 18) (.c (.int .i64 1000000)), (some (16, false))⟩, por 20 16 19] [1, 20])
(.cond (.t 20)
(.seq
(.region none [
ic 2 8] [2])
.ret)
.skip))
(.seq
(.region none [
⟨some 21, .mkm, none⟩, mv 3 21, ic 4 (-1)] [1, 3, 4])
(.seq
(.seq
(.region none [
fa 22 1 1, ln 23 22, le 24 23, ic 25 0] [1, 3, 4, 23, 24, 25])
(.block 0
(.loop [(1, none), (3, none), (4, none), (23, none), (24, none), (25, none)]
(.seq
(.region none [
bt 26 .lss 25 24] [1, 3, 4, 23, 24, 25, 26])
(.seq
(.cond (.t 26)
.skip
(.exit 0))
(.seq
(.block 1
(.seq
(.region none [
ia 27 3 23 25, ld 28 3 27, ⟨some 6, .alloc z5, none⟩, st 3 6 28] [1, 3, 4, 6, 23, 24, 25])
(.seq
(.seq
(.region none [
fa 29 1 6, ld 30 2 29, p1 31 95 30, ⟨some 32, .un .not (.t 31), none⟩, mv 33 32, ⟨some 34, .mov (.t 3), (some (33, false))⟩,
⟨some 35, .fadr 1 (.t 6), (some (33, false))⟩, ⟨some 36, .load (some 2) (.t 35), (some (33, false))⟩,
⟨some 37, .lookup (some 2) (.bool false) false (.t 34) (.t 36), (some (33, false))⟩, por 38 33 37, mv 39 38, ⟨some 40, .fadr 0 (.t 6), (some (39, false))⟩,
⟨some 41, .load none (.t 40), (some (39, false))⟩, ⟨some 42, .mov (.t 4), (some (39, false))⟩, ⟨some 43, .bin .leq (.t 41) (.t 42), (some (39, false))⟩,
por 44 39 43, mv 45 44, ⟨some 46, .fadr 0 (.t 6), (some (45, false))⟩, ⟨some 47, .load none (.t 46), (some (45, false))⟩,
⟨some 48, .fadr 0 (.t 1), (some (45, false))⟩, ⟨some 49, .load none (.t 48), (some (45, false))⟩, ⟨some 50, .bin .geq (.t 47) (.t 49), (some (45, false))⟩,
por 51 45 50] [1, 3, 6, 23, 24, 25, 51])
(.cond (.t 51)
(.seq
(.region none [
ic 2 8] [2])
.ret)
.skip))
(.region (some [0, 0, 2, 0, 8, 7, 63]) [
mv 52 3, fa 53 1 6, ld 54 2 53, fa 55 0 6, ln 56 55, ⟨none, .mapu (some 2) (.t 52) (.t 54) (.c (.bool true)), none⟩, mv 4 56] [1, 3, 4, 23, 24, 25]))))
(.region none [
bc 57 .add 25 1, mv 25 57] [1, 3, 4, 23, 24, 25])))))))
(.seq
(.region none [
ic 2 0] [2])
.ret))))),
[.tmp 2]⟩
theorem x64_ok : ck x64 64 := by decide +kernel
/-- peloton/agenda.Check -/
def x65 : XFunc := ⟨1,
(.seq
(.region none [
bx 1 0, ic 2 0] [1])
(.seq
(.seq
(.region none [
fa 8 0 1, ld 9 3 8, p1 10 96 9, bc 11 .neq 10 0, mv 12 11, ⟨some 13, .fadr 4 (.t 1), (some (12, false))⟩, ⟨some 14, .load none (.t 13), (some (12, false))⟩,
⟨some 15, .len (.t 14), (some (12, false))⟩, ⟨some 16, .fadr 0 (.t 1), (some (12, false))⟩, ⟨some 17, .fadr 1 (.t 16), (some (12, false))⟩,
⟨some 18, .load none (.t 17), (some (12, false))⟩, ⟨some 19, .len (.t 18), (some (12, false))⟩, ⟨some 20, .bin .neq (.t 15) (.t 19), (some (12, false))⟩,
por 21 12 20, mv 22 21, ⟨some 23, .fadr 3 (.t 1), (some (22, false))⟩, ⟨some 24, .load none (.t 23), (some (22, false))⟩,
⟨some 25, .len (.t 24), (some (22, false))⟩, ⟨some 26, .fadr 0 (.t 1), (some (22, false))⟩, ⟨some 27, .fadr 1 (.t 26), (some (22, false))⟩,
⟨some 28, .load none (.t 27), (some (22, false))⟩, ⟨some 29, .len (.t 28), (some (22, false))⟩, ⟨some 30, .fadr 0 (.t 1), (some (22, false))⟩,
⟨some 31, .fadr 2 (.t 30), (some (22, false))⟩, ⟨some 32, .load none (.t 31), (some (22, false))⟩, ⟨some 33, .len (.t 32), (some (22, false))⟩,
⟨some 34, .bin .sub (.t 29) (.t 33), (some (22, false))⟩, ⟨some 35, .bin .neq (.t 25) (.t 34), (some (22, false))⟩, por 36 22 35] [1, 36])
(.cond (.t 36)
(.seq
(.region none [
ic 2 8] [2])
.ret)
.skip))
(.seq
(.seq
(.region none [
fa 37 4 1, ln 38 37, le 39 38, ic 40 0] [1, 38, 39, 40])
(.block 0
(.loop [(1, none), (38, none), (39, none), (40, none)]
(.seq
(.region none [
bt 41 .lss 40 39] [1, 38, 39, 40, 41])
(.seq
(.cond (.t 41)
.skip
(.exit 0))
(.seq
(.block 1
(.seq
(.region none [
mv 42 40, ia 43 1 38 40, ln 44 43, mv 3 42, mv 4 44] [1, 3, 4, 38, 39, 40])
(.seq
(.seq
(.region none [
fa 45 0 1, fa 46 1 45, ln 47 46, mv 48 3, ia 49 1 47 48, ln 50 49, ⟨some 51, .un .not (.t 50), none⟩] [1, 3, 4, 38, 39, 40, 51])
(.cond (.t 51)
(.seq
(.seq
(.region none [
mv 52 4, bc 53 .neq 52 (-1)] [1, 38, 39, 40, 53])
(.cond (.t 53)
(.seq
(.region none [
ic 2 8] [2])
.ret)
.skip))
(.exit 1))
.skip))
(.seq
(.region (some [0, 1, 3, 7, 7, 23, 55, 127, 255, 511, 1023, 2047, 1023, 8191, 16383, 32767, 1023, 1023, 132095, 394239, 1023, 1967103, 4064255, 8324095, 16777215, 33554431]) [
mv 54 4, bc 55 .lss 54 0, mv 56 55, ⟨some 57, .mov (.t 4), (some (56, false))⟩, ⟨some 58, .fadr 3 (.t 1), (some (56, false))⟩,
⟨some 59, .load none (.t 58), (some (56, false))⟩, ⟨some 60, .len (.t 59), (some (56, false))⟩, ⟨some 61, .bin .geq (.t 57) (.t 60), (some (56, false))⟩,
por 62 56 61, mv 63 62, ⟨some 64, .fadr 3 (.t 1), (some (63, false))⟩, ⟨some 65, .load none (.t 64), (some (63, false))⟩,
⟨some 66, .mov (.t 4), (some (63, false))⟩, ⟨some 67, .iadr 5 (.t 65) (.t 66), (some (63, false))⟩, ⟨some 68, .fadr 3 (.t 67), (some (63, false))⟩,
⟨some 69, .load (some 2) (.t 68), (some (63, false))⟩, ⟨some 70, .mov (.t 3), (some (63, false))⟩, ⟨some 71, .fadr 0 (.t 1), (some (63, false))⟩,
⟨some 72, .fadr 0 (.t 71), (some (63, false))⟩, ⟨some 73, .load none (.t 72), (some (63, false))⟩, ⟨some 74, .mov (.t 3), (some (63, false))⟩,
⟨some 75, .iadr 1 (.t 73) (.t 74), (some (63, false))⟩, ⟨some 76, .load none (.t 75), (some (63, false))⟩,
⟨some 77, .build z8 [(0, 1, (.t 70)), (1, 1, (.t 76))], (some (63, false))⟩, ⟨some 78, .eqc 2 true (.t 69) (.t 77), (some (63, false))⟩,
por 79 63 78] [1, 38, 39, 40, 79])
(.cond (.t 79)
(.seq
(.region none [
ic 2 8] [2])
.ret)
.skip)))))
(.region none [
bc 80 .add 40 1, mv 40 80] [1, 38, 39, 40])))))))
(.seq
(.region none [
⟨some 81, .mkm, none⟩, mv 5 81] [1, 5])
(.seq
(.seq
(.region none [
fa 82 3 1, ln 83 82, le 84 83, ic 85 0] [1, 5, 83, 84, 85])
(.block 2
(.loop [(1, none), (5, none), (83, none), (84, none), (85, none)]
(.seq
(.region none [
bt 86 .lss 85 84] [1, 5, 83, 84, 85, 86])
(.seq
(.cond (.t 86)
.skip
(.exit 2))
(.seq
(.block 3
(.seq
(.region none [
mv 87 85, ia 88 5 83 85, ld 89 5 88, ⟨some 7, .alloc z3, none⟩, mv 6 87,
st 5 7 89] [1, 5, 6, 7, 83, 84, 85])
(.seq
(.seq
(.region none [
fa 90 0 7, ld 91 2 90, p1 92 63 91, bc 93 .neq 92 0, mv 94 93, ⟨some 95, .fadr 2 (.t 7), (some (94, false))⟩, ⟨some 96, .load none (.t 95), (some (94, false))⟩,
⟨some 97, .bin .lss (.t 96) (.c (.int .i64 0)), (some (94, false))⟩, por 98 94 97, mv 99 98, ⟨some 100, .fadr 2 (.t 7), (some (99, false))⟩,
⟨some 101, .load none (.t 100), (some (99, false))⟩, ⟨some 102, .bin .gtr (.t 101) (.c (.int .i64 1000000)), (some (99, false))⟩, por 103 99 102, mv 104 103,
⟨some 105, .mov (.t 5), (some (104, false))⟩, ⟨some 106, .fadr 2 (.t 7), (some (104, false))⟩, ⟨some 107, .load none (.t 106), (some (104, false))⟩,
⟨some 108, .lookup none (.bool false) false (.t 105) (.t 107), (some (104, false))⟩, por 109 104 108] [1, 5, 6, 7, 83, 84, 85, 109])
(.cond (.t 109)
(.seq
(.region none [
ic 2 8] [2])
.ret)
.skip))
(.seq
(.region none [
mv 110 5, fa 111 2 7, ln 112 111, ⟨none, .mapu none (.t 110) (.t 112) (.c (.bool true)), none⟩] [1, 5, 6, 7, 83, 84, 85])
(.seq
(.region (some [0, 1, 3, 7, 7, 23, 7, 71, 199, 503, 1015, 2047, 4095, 8191]) [
mv 113 6, bc 114 .gtr 113 0, mv 115 114, ⟨some 116, .load (some 5) (.t 7), (some (115, true))⟩, ⟨some 117, .fadr 3 (.t 1), (some (115, true))⟩,
⟨some 118, .load none (.t 117), (some (115, true))⟩, ⟨some 119, .mov (.t 6), (some (115, true))⟩,
⟨some 120, .bin .sub (.t 119) (.c (.int .i64 1)), (some (115, true))⟩, ⟨some 121, .bin .quo (.t 120) (.c (.int .i64 2)), (some (115, true))⟩,
⟨some 122, .iadr 5 (.t 118) (.t 121), (some (115, true))⟩, ⟨some 123, .load (some 5) (.t 122), (some (115, true))⟩,
⟨some 124, .call .pur 97 [(.t 116), (.t 123)], (some (115, true))⟩, ⟨some 125, .bin .lss (.t 124) (.c (.int .i64 0)), (some (115, true))⟩,
pan 126 115 125] [1, 5, 83, 84, 85, 126])
(.cond (.t 126)
(.seq
(.region none [
ic 2 8] [2])
.ret)
.skip))))))
(.region none [
bc 127 .add 85 1, mv 85 127] [1, 5, 83, 84, 85])))))))
(.seq
(.region none [
ic 2 0] [2])
.ret)))))),
[.tmp 2]⟩
theorem x65_ok : ck x65 65 := by decide +kernel
/-- peloton/clock.when -/
def x66 : XFunc := ⟨3,
(.seq
(.region none [
bx 3 0, bx 4 1, bx 5 2, ⟨some 6, .alloc z8, none⟩, ⟨some 7, .mov (.c (.bool false)), none⟩, ic 8 0] [3, 4, 5, 6])
(.seq
(.region (some [0, 0, 2, 7, 0, 0, 32, 127, 0, 511, 1023, 1023, 1023, 8191, 16383, 32767]) [
ld 9 1 3, fa 10 1 4, ln 11 10, p2 12 99 9 11, ld 13 1 3, fa 14 0 4, ln 15 14, p2 16 99 13 15, ld 17 2 5, p3 18 98 12 16 17, ex 19 0 18, ex 20 1 18, ex 21 2 18,
st 2 6 19, mv 7 20, mv 8 21] [6, 7, 8])
.ret)),
[.cell 6 (some 2), .tmp 7, .tmp 8]⟩
theorem x66_ok : ck x66 66 := by decide +kernel
/-- slices.Index[[]peloton/api.Cert,peloton/api.Cert] -/
def x67 : XFunc := ⟨2,
(.seq
(.region none [
bx 3 1, ic 4 0] [0, 3])
(.seq
(.seq
(.region none [
mv 6 0, le 7 6, ic 8 0] [0, 3, 7, 8])
(.block 0
(.loop [(0, none), (3, none), (7, none), (8, none)]
(.seq
(.region none [
bt 9 .lss 8 7] [0, 3, 7, 8, 9])
(.seq
(.cond (.t 9)
.skip
(.exit 0))
(.seq
(.block 1
(.seq
(.region none [
mv 10 8, mv 5 10] [0, 3, 5, 7, 8])
(.seq
(.region (some [0, 0, 0, 6, 14, 31]) [
ld 11 2 3, mv 12 0, mv 13 5, ia 14 2 12 13, ld 15 2 14, ⟨some 16, .eqc 2 false (.t 11) (.t 15), none⟩] [0, 3, 5, 7, 8, 16])
(.cond (.t 16)
(.seq
(.region none [
mv 17 5, mv 4 17] [4])
.ret)
.skip))))
(.region none [
bc 18 .add 8 1, mv 8 18] [0, 3, 7, 8])))))))
(.seq
(.region none [
ic 4 (-1)] [4])
.ret))),
[.tmp 4]⟩
theorem x67_ok : ck x67 67 := by decide +kernel
/-- peloton/course.Check$1 -/
def x68 : XFunc := ⟨1,
(.seq
(.region none [
⟨some 2, .mov (.c (.bool false)), none⟩] [0])
(.seq
(.region none [
mv 3 0, bc 4 .lss 3 (-1048576), mv 5 4, ⟨some 6, .mov (.t 0), (some (5, false))⟩, ⟨some 7, .bin .gtr (.t 6) (.c (.int .i64 1048576)), (some (5, false))⟩,
por 8 5 7, mv 2 8] [2])
.ret)),
[.tmp 2]⟩
theorem x68_ok : ck x68 68 := by decide +kernel
/-- slices.BinarySearchFunc[[]peloton/api.Point,peloton/api.Point,int] -/
def x69 : XFunc := ⟨3,
(.seq
(.region none [
ic 6 0, ⟨some 7, .mov (.c (.bool false)), none⟩] [0, 1, 2])
(.seq
(.region none [
mv 12 0, le 13 12, mv 8 13] [0, 1, 2, 8])
(.seq
(.region none [
mv 14 8, ic 9 0, mv 10 14] [0, 1, 2, 8, 9, 10])
(.seq
(.block 0
(.loop [(0, none), (1, none), (2, none), (8, none), (9, none), (10, none)]
(.seq
(.seq
(.region none [
mv 15 9, mv 16 10, bt 17 .lss 15 16] [0, 1, 2, 8, 9, 10, 17])
(.cond (.t 17)
.skip
(.exit 0)))
(.block 1
(.seq
(.region none [
mv 18 9, mv 19 10, bt 20 .add 18 19, ⟨some 21, .conv .u64 (.t 20), none⟩, ⟨some 22, .bin .shr (.t 21) (.c (.int .u64 1)), none⟩,
⟨some 23, .conv .i64 (.t 22), none⟩, mv 11 23] [0, 1, 2, 8, 9, 10, 11])
(.seq
(.region none [
mv 24 2, mv 25 0, mv 26 11, ia 27 3 25 26, ld 28 3 27, mv 29 1, ⟨some 30, .callv (.t 24) [(.t 28), (.t 29)], none⟩,
bc 31 .lss 30 0] [0, 1, 2, 8, 9, 10, 11, 31])
(.cond (.t 31)
(.region none [
mv 32 11, bc 33 .add 32 1, mv 9 33] [0, 1, 2, 8, 9, 10])
(.region none [
mv 34 11, mv 10 34] [0, 1, 2, 8, 9, 10]))))))))
(.seq
(.region none [
mv 35 9, mv 36 9, mv 37 8, bt 38 .lss 36 37, mv 39 38, ⟨some 40, .mov (.t 2), (some (39, true))⟩, ⟨some 41, .mov (.t 0), (some (39, true))⟩,
⟨some 42, .mov (.t 9), (some (39, true))⟩, ⟨some 43, .iadr 3 (.t 41) (.t 42), (some (39, true))⟩, ⟨some 44, .load (some 3) (.t 43), (some (39, true))⟩,
⟨some 45, .mov (.t 1), (some (39, true))⟩, ⟨some 46, .callv (.t 40) [(.t 44), (.t 45)], (some (39, true))⟩,
⟨some 47, .bin .eql (.t 46) (.c (.int .i64 0)), (some (39, true))⟩, pan 48 39 47, mv 6 35, mv 7 48] [6, 7])
.ret))))),
[.tmp 6, .tmp 7]⟩
theorem x69_ok : ck x69 69 := by decide +kernel
/-- peloton/field.find$1 -/
def x70 : XFunc := ⟨2,
(.seq
(.region none [
bx 2 0, ic 4 0] [1, 2])
(.seq
(.region none [
fa 5 0 2, ln 6 5, mv 7 1, p2 8 71 6 7, mv 4 8] [4])
.ret)),
[.tmp 4]⟩
theorem x70_ok : ck x70 70 := by decide +kernel
/-- cmp.Compare[int] -/
def x71 : XFunc := ⟨2,
(.seq
(.region none [
ic 4 0] [0, 1])
(.seq
(.region none [
mv 7 0, p1 8 100 7, mv 5 8] [0, 1, 5])
(.seq
(.region none [
mv 9 1, p1 10 100 9, mv 6 10] [0, 1, 5, 6])
(.seq
(.seq
(.region none [
mv 11 5] [0, 1, 6, 11])
(.cond (.t 11)
(.seq
(.seq
(.region none [
mv 12 6] [12])
(.cond (.t 12)
(.seq
(.region none [
ic 4 0] [4])
.ret)
.skip))
(.seq
(.region none [
ic 4 (-1)] [4])
.ret))
.skip))
(.seq
(.seq
(.region none [
mv 13 6] [0, 1, 13])
(.cond (.t 13)
(.seq
(.region none [
ic 4 1] [4])
.ret)
.skip))
(.seq
(.seq
(.region none [
mv 14 0, mv 15 1, bt 16 .lss 14 15] [0, 1, 16])
(.cond (.t 16)
(.seq
(.region none [
ic 4 (-1)] [4])
.ret)
.skip))
(.seq
(.seq
(.region none [
mv 17 0, mv 18 1, bt 19 .gtr 17 18] [19])
(.cond (.t 19)
(.seq
(.region none [
ic 4 1] [4])
.ret)
.skip))
(.seq
(.region none [
ic 4 0] [4])
.ret)))))))),
[.tmp 4]⟩
theorem x71_ok : ck x71 71 := by decide +kernel
/-- slices.rotateRight[peloton/api.Point] -/
def x73 : XFunc := ⟨2,
(.region none [
mv 4 0, mv 5 0, le 6 5, mv 7 1, bt 8 .sub 6 7, p2 9 101 4 8] []),
[]⟩
theorem x73_ok : ck x73 73 := by decide +kernel
/-- peloton/course.two -/
def x74 : XFunc := ⟨3,
(.seq
(.region none [
bx 3 0, bx 4 1, bx 5 2, ic 6 0] [3, 4, 5])
(.seq
(.seq
(.region (some [0, 1, 0, 7, 0, 31, 63, 127]) [
ld 8 3 3, p1 9 37 8, ld 10 3 4, p1 11 37 10, ld 12 2 5, p1 13 63 12, ⟨some 14, .mm true (.t 9) [(.t 11), (.t 13)], none⟩, mv 7 14] [3, 4, 7])
(.seq
(.region none [
mv 15 7, bc 16 .neq 15 0] [3, 4, 7, 16])
(.cond (.t 16)
(.seq
(.region none [
mv 17 7, mv 6 17] [6])
.ret)
.skip)))
(.seq
(.seq
(.region none [
fa 18 0 3, ln 19 18, fa 20 0 4, ln 21 20, bt 22 .eql 19 21] [22])
(.cond (.t 22)
(.seq
(.region none [
ic 6 2] [6])
.ret)
.skip))
(.seq
(.region none [
ic 6 0] [6])
.ret)))),
[.tmp 6]⟩
theorem x74_ok : ck x74 74 := by decide +kernel
/-- peloton/course.compare -/
def x75 : XFunc := ⟨3,
(.seq
(.region none [
bx 3 0, bx 4 1, bx 5 2, ic 6 0] [3, 4, 5])
(.seq
(.region none [
fa 8 1 3, ln 9 8, fa 10 1 4, ln 11 10, bt 12 .sub 9 11, fa 13 1 5, ln 14 13,
⟨some 15, .build z8 [(0, 1, (.t 12)), (1, 1, (.t 14))], none⟩, fa 16 2 3, ln 17 16, fa 18 2 4, ln 19 18, bt 20 .sub 17 19, fa 21 0 5,
ln 22 21, ⟨some 23, .build z8 [(0, 1, (.t 20)), (1, 1, (.t 22))], none⟩,
⟨some 24, .build [.int .i64 0, .int .i64 0, .int .i64 0, .int .i64 0] [(0, 2, (.t 15)), (2, 2, (.t 23))], none⟩, p1 25 102 24,
⟨some 7, .alloc z9, none⟩, st 2 7 25] [3, 4, 7])
(.seq
(.seq
(.region none [
ld 26 2 7, ⟨some 27, .build z9 [], none⟩, ⟨some 28, .eqc 2 true (.t 26) (.t 27), none⟩] [3, 4, 7, 28])
(.cond (.t 28)
(.seq
(.seq
(.region none [
fa 29 0 7, ln 30 29, bc 31 .lss 30 0] [31])
(.cond (.t 31)
(.seq
(.region none [
ic 6 (-1)] [6])
.ret)
.skip))
(.seq
(.region none [
ic 6 1] [6])
.ret))
.skip))
(.seq
(.region (some [0, 1, 0, 4, 15, 0, 32, 0, 128, 511, 1023, 2047, 4095]) [
fa 32 2 3, ln 33 32, fa 34 2 4, ln 35 34, p2 36 104 33 35, fa 37 0 4, ln 38 37, fa 39 0 3, ln 40 39, p2 41 71 38 40,
⟨some 42, .mkrow 1 2 [.int .i64 0] [(0, (.t 36)), (1, (.t 41))], none⟩, p1 43 103 42, mv 6 43] [6])
.ret)))),
[.tmp 6]⟩
theorem x75_ok : ck x75 75 := by decide +kernel
/-- peloton/kheap.renew -/
def x76 : XFunc := ⟨3,
(.seq
(.region none [
bx 3 0, bx 4 1,
⟨some 6, .alloc z1, none⟩,
ic 7 0] [2, 3, 4, 6])
(.seq
(.seq
(.region none [
fa 13 3 3, fa 14 1 13, ln 15 14, le 16 15, ic 17 0] [2, 3, 4, 6, 15, 16, 17])
(.block 0
(.loop [(2, none), (3, none), (4, none), (6, none), (15, none), (16, none), (17, none)]
(.seq
(.region none [
bt 18 .lss 17 16] [2, 3, 4, 6, 15, 16, 17, 18])
(.seq
(.cond (.t 18)
.skip
(.exit 0))
(.seq
(.block 1
(.seq
(.region none [
ia 19 3 15 17, ld 20 3 19, ⟨some 9, .alloc z5, none⟩, st 3 9 20] [2, 3, 4, 6, 9, 15, 16, 17])
(.seq
(.region none [
mv 21 2, fa 22 1 9, ld 23 2 22, p2 24 34 21 23, ⟨some 25, .un .not (.t 24), none⟩] [2, 3, 4, 6, 9, 15, 16, 17, 25])
(.cond (.t 25)
(.region none [
ld 27 11 3, fa 28 0 9, ln 29 28, p2 30 105 27 29, mv 26 30, ex 31 0 26, ex 32 1 26, st 11 3 31] [2, 3, 4, 6, 15, 16, 17])
.skip))))
(.region none [
bc 33 .add 17 1, mv 17 33] [2, 3, 4, 6, 15, 16, 17])))))))
(.seq
(.region none [
ic 10 0] [2, 3, 4, 6])
(.seq
(.seq
(.region none [
fa 34 2 3, fa 35 0 34, ln 36 35, fa 37 0 4, ln 38 37, p2 39 106 36 38, ⟨some 40, .un .not (.t 39), none⟩] [2, 3, 4, 6, 40])
(.cond (.t 40)
(.seq
(.region none [
ld 42 11 3, ld 43 1 4, p2 44 107 42 43, mv 41 44, ex 45 0 41, ex 46 1 41, st 11 3 45, mv 10 46] [2, 3, 6, 10])
(.seq
(.region none [
mv 47 10, bc 48 .neq 47 0] [2, 3, 6, 10, 48])
(.cond (.t 48)
(.seq
(.region none [
⟨some 49, .build z1 [], none⟩,
mv 50 10, st 11 6 49, mv 7 50] [6, 7])
.ret)
.skip)))
.skip))
(.seq
(.seq
(.region none [
mv 51 2, le 52 51, ic 53 0] [3, 6, 51, 52, 53])
(.block 2
(.loop [(3, none), (6, none), (51, none), (52, none), (53, none)]
(.seq
(.region none [
bt 54 .lss 53 52] [3, 6, 51, 52, 53, 54])
(.seq
(.cond (.t 54)
.skip
(.exit 2))
(.seq
(.block 3
(.seq
(.region none [
ia 55 2 51 53, ld 56 2 55, ⟨some 12, .alloc z8, none⟩, st 2 12 56] [3, 6, 12, 51, 52, 53])
(.seq
(.seq
(.region none [
fa 57 3 3, fa 58 1 57, ln 59 58, ⟨some 60, .mkf 109 [] [(.t 12)], none⟩, p2 61 108 59 60] [3, 6, 12, 51, 52, 53, 61])
(.cond (.t 61)
(.exit 3)
.skip))
(.seq
(.region none [
ld 63 11 3, ld 64 2 12, p2 65 110 63 64, mv 62 65, ex 66 0 62, ex 67 1 62, ex 68 2 62, st 11 3 66, mv 10 68] [3, 6, 10, 51, 52, 53])
(.seq
(.region none [
mv 69 10, bc 70 .neq 69 0] [3, 6, 10, 51, 52, 53, 70])
(.cond (.t 70)
(.seq
(.region none [
⟨some 71, .build z1 [], none⟩,
mv 72 10, st 11 6 71, mv 7 72] [6, 7])
.ret)
.skip))))))
(.region none [
bc 73 .add 53 1, mv 53 73] [3, 6, 51, 52, 53])))))))
(.seq
(.region none [
ld 74 11 3, st 11 6 74, ic 7 0] [6, 7])
.ret)))))),
[.cell 6 (some 11), .tmp 7]⟩
theorem x76_ok : ck x76 76 := by decide +kernel
/-- peloton/kheap.twin -/
def x77 : XFunc := ⟨1,
(.seq
(.region none [
bx 1 0,
⟨some 2, .alloc z1, none⟩] [1, 2])
(.seq
(.region none [
fa 4 2 1, fa 5 0 4, ln 6 5, p1 7 40 6, fa 8 2 1, fa 9 0 8, st 1 9 7] [1, 2])
(.seq
(.region none [
fa 10 3 1, fa 11 1 10, ln 12 11, p1 13 111 12, fa 14 3 1, fa 15 1 14, st 1 15 13] [1, 2])
(.seq
(.region none [
fa 16 10 1, ln 17 16, p1 18 112 17, fa 19 10 1, st 1 19 18] [1, 2])
(.seq
(.region none [
fa 20 5 1, mv 3 20] [1, 2, 3])
(.seq
(.region (some [0, 0, 0, 4, 12, 28, 60, 0, 128, 384, 896, 2044, 4093, 8189, 16381, 32767, 65535, 131071]) [
mv 21 3, mv 22 3, mv 23 3, ⟨some 24, .nilc (.t 23), none⟩, fa 25 3 24, ln 26 25, p1 27 113 26, mv 28 3, ⟨some 29, .nilc (.t 28), none⟩, fa 30 4 29, ln 31 30,
p1 32 16 31, ⟨some 33, .nilc (.t 21), none⟩, fa 34 3 33, st 1 34 27, ⟨some 35, .nilc (.t 22), none⟩, fa 36 4 35, st 1 36 32] [1, 2, 3])
(.seq
(.region (some [0, 0, 0, 0, 8, 24, 56, 120, 248, 0, 512, 1536, 3584, 7680, 16376, 0, 32768, 98304, 229376, 491520, 1048568, 2097145, 4194297, 8388601, 16777209, 33554427, 67108859, 134217723, 268435451, 536870911, 1073741823, 2147483647, 4294967295]) [
mv 37 3, mv 38 3, mv 39 3, mv 40 3, ⟨some 41, .nilc (.t 40), none⟩, fa 42 0 41, fa 43 0 42, ln 44 43, p1 45 16 44, mv 46 3, ⟨some 47, .nilc (.t 46), none⟩,
fa 48 0 47, fa 49 1 48, ln 50 49, p1 51 114 50, mv 52 3, ⟨some 53, .nilc (.t 52), none⟩, fa 54 0 53, fa 55 2 54, ln 56 55, p1 57 16 56,
⟨some 58, .nilc (.t 37), none⟩, fa 59 0 58, fa 60 0 59, st 1 60 45, ⟨some 61, .nilc (.t 38), none⟩, fa 62 0 61, fa 63 1 62, st 1 63 51,
⟨some 64, .nilc (.t 39), none⟩, fa 65 0 64, fa 66 2 65, st 1 66 57] [1, 2])
(.seq
(.region none [
ld 67 11 1, st 11 2 67] [2])
.ret)))))))),
[.cell 2 (some 11)]⟩
theorem x77_ok : ck x77 77 := by decide +kernel
/-- peloton/pelotonref02.Leads -/
def x78 : XFunc := ⟨3,
(.seq
(.region none [
bx 3 0, bx 4 1, bx 5 2, ⟨some 6, .mov (.c (.bool false)), none⟩] [3, 4, 5])
(.seq
(.region none [
ld 8 3 3, ld 9 3 4, ld 10 2 5, p3 11 115 8 9 10, mv 7 11] [3, 4, 7])
(.seq
(.seq
(.region none [
mv 12 7, bc 13 .neq 12 0] [3, 4, 7, 13])
(.cond (.t 13)
(.seq
(.region none [
mv 14 7, bc 15 .gtr 14 0, mv 6 15] [6])
.ret)
.skip))
(.seq
(.seq
(.region none [
fa 16 2 3, ln 17 16, fa 18 2 4, ln 19 18, bt 20 .neq 17 19] [3, 4, 20])
(.cond (.t 20)
(.seq
(.region none [
fa 21 2 3, ln 22 21, fa 23 2 4, ln 24 23, bt 25 .gtr 22 24, mv 6 25] [6])
.ret)
.skip))
(.seq
(.region none [
fa 26 0 3, ln 27 26, fa 28 0 4, ln 29 28, bt 30 .lss 27 29, mv 6 30] [6])
.ret))))),
[.tmp 6]⟩
theorem x78_ok : ck x78 78 := by decide +kernel
/-- peloton/pelotonref03.At -/
def x79 : XFunc := ⟨2,
(.seq
(.region none [
bx 2 0, ic 4 0] [1, 2])
(.seq
(.seq
(.region none [
ic 5 0] [1, 2, 5])
(.block 0
(.loop [(1, none), (2, none), (5, none)]
(.seq
(.seq
(.region none [
mv 6 5, fa 7 0 2, ln 8 7, le 9 8, bt 10 .lss 6 9] [1, 2, 5, 10])
(.cond (.t 10)
.skip
(.exit 0)))
(.seq
(.block 1
(.seq
(.region none [
fa 13 0 2, ln 14 13, mv 15 5, ia 16 3 14 15, fa 17 0 16, ln 18 17, mv 19 1, bt 20 .eql 18 19] [1, 2, 5, 20])
(.cond (.t 20)
(.seq
(.region none [
mv 21 5, mv 4 21] [4])
.ret)
.skip)))
(.region none [
mv 11 5, bc 12 .add 11 1, mv 5 12] [1, 2, 5]))))))
(.seq
(.region none [
ic 4 (-1)] [4])
.ret))),
[.tmp 4]⟩
theorem x79_ok : ck x79 79 := by decide +kernel
/-- peloton/pelotonref08.Without -/
def x80 : XFunc := ⟨2,
(.seq
(.region none [
bx 2 0, ⟨some 4, .alloc z7, none⟩] [1, 2, 4])
(.seq
(.region none [
fa 7 0 2, ln 8 7, ⟨some 9, .build z7 [(0, 1, (.t 8))], none⟩, ⟨some 5, .alloc z7, none⟩,
st 2 5 9] [1, 2, 4, 5])
(.seq
(.seq
(.region none [
ic 6 0] [1, 2, 4, 5, 6])
(.block 0
(.loop [(1, none), (2, none), (4, none), (5, none), (6, none), (5, some 2003)]
(.seq
(.seq
(.region none [
mv 10 6, fa 11 1 2, ln 12 11, le 13 12, bt 14 .lss 10 13] [1, 2, 4, 5, 6, 14])
(.cond (.t 14)
.skip
(.exit 0)))
(.seq
(.block 1
(.seq
(.region none [
fa 17 1 2, ln 18 17, mv 19 6, ia 20 3 18 19, fa 21 0 20, ln 22 21, mv 23 1, bt 24 .neq 22 23] [1, 2, 4, 5, 6, 24])
(.cond (.t 24)
(.region (some [0, 1, 0, 4, 0, 28, 60, 124, 255, 511, 1023]) [
fa 25 1 5, ln 26 25, fa 27 1 2, ln 28 27, mv 29 6, ia 30 3 28 29, ld 31 3 30,
⟨some 32, .mkrow 3 1 z5 [(0, (.t 31))], none⟩, ap 33 3 26 32, fa 34 1 5, st 1 34 33] [1, 2, 4, 5, 6])
.skip)))
(.region none [
mv 15 6, bc 16 .add 15 1, mv 6 16] [1, 2, 4, 5, 6]))))))
(.seq
(.region none [
ld 35 2 5, st 2 4 35] [4])
.ret)))),
[.cell 4 (some 2)]⟩
theorem x80_ok : ck x80 80 := by decide +kernel
/-- peloton/pelotonref09.DueAt -/
def x81 : XFunc := ⟨2,
(.seq
(.region none [
bx 2 0, ic 4 0] [1, 2])
(.seq
(.seq
(.region none [
ic 5 0] [1, 2, 5])
(.block 0
(.loop [(1, none), (2, none), (5, none)]
(.seq
(.seq
(.region none [
mv 6 5, fa 7 10 2, ln 8 7, le 9 8, bt 10 .lss 6 9] [1, 2, 5, 10])
(.cond (.t 10)
.skip
(.exit 0)))
(.seq
(.block 1
(.seq
(.region none [
fa 13 10 2, ln 14 13, mv 15 5, ia 16 3 14 15, fa 17 0 16, ln 18 17, mv 19 1, bt 20 .eql 18 19] [1, 2, 5, 20])
(.cond (.t 20)
(.seq
(.region none [
mv 21 5, mv 4 21] [4])
.ret)
.skip)))
(.region none [
mv 11 5, bc 12 .add 11 1, mv 5 12] [1, 2, 5]))))))
(.seq
(.region none [
ic 4 (-1)] [4])
.ret))),
[.tmp 4]⟩
theorem x81_ok : ck x81 81 := by decide +kernel
/-- peloton/pelotonref07.Removed -/
def x82 : XFunc := ⟨2,
(.seq
(.region none [
bx 2 0, bx 3 1, ⟨some 4, .alloc z2, none⟩] [2, 3, 4])
(.seq
(.region none [
ld 8 5 2, ⟨some 9, .call .own 60 [(.t 8)], none⟩, ⟨some 5, .alloc z2, none⟩,
st 5 5 9] [3, 4, 5])
(.seq
(.region (some [0, 1, 0, 4, 15, 31, 0, 64, 192, 448, 63, 2047]) [
fa 10 4 5, ln 11 10, fa 12 0 3, ln 13 12, ia 14 1 11 13, ln 15 14, fa 16 3 5, ln 17 16, le 18 17, bc 19 .sub 18 1, mv 6 15, mv 7 19] [3, 4, 5, 6, 7])
(.seq
(.seq
(.region none [
mv 20 6, mv 21 7, bt 22 .neq 20 21] [3, 4, 5, 6, 7, 22])
(.cond (.t 22)
(.region none [
ld 23 5 5, mv 24 6, mv 25 7, ⟨some 26, .call .fp 116 [(.t 23), (.t 24), (.t 25)], none⟩] [3, 4, 5, 6, 7])
.skip))
(.seq
(.region none [
fa 27 3 5, ln 28 27, mv 29 7, ⟨some 30, .slc 5 (.t 28) none (some (.t 29)) none, none⟩, fa 31 3 5, st 1 31 30] [3, 4, 5, 6, 7])
(.seq
(.region none [
fa 32 4 5, ln 33 32, fa 34 0 3, ln 35 34, ia 36 1 33 35, ⟨none, .store 1 (.t 36) (.c (.int .i64 (-1))), none⟩] [3, 4, 5, 6, 7])
(.seq
(.region none [
fa 37 0 5, ld 38 3 37, ld 39 2 3, p2 40 117 38 39, fa 41 0 5, st 3 41 40] [4, 5, 6, 7])
(.seq
(.seq
(.region none [
mv 42 6, mv 43 7, bt 44 .neq 42 43] [4, 5, 6, 44])
(.cond (.t 44)
(.region (some [0, 0, 0, 6, 15]) [
ld 45 5 5, ld 46 5 5, mv 47 6, ⟨some 48, .call .fp 119 [(.t 46), (.t 47)], none⟩, ⟨some 49, .call .fp 118 [(.t 45), (.t 48)], none⟩] [4, 5])
.skip))
(.seq
(.region none [
ld 50 5 5, st 5 4 50] [4])
.ret))))))))),
[.cell 4 (some 5)]⟩
theorem x82_ok : ck x82 82 := by decide +kernel
/-- peloton/pelotonref09.When -/
def x83 : XFunc := ⟨3,
(.seq
(.region none [
bx 3 0, bx 4 1, bx 5 2, ⟨some 6, .alloc z8, none⟩, ⟨some 7, .mov (.c (.bool false)), none⟩] [3, 4, 5, 6])
(.seq
(.region (some [0, 1, 0, 0, 8, 28, 63, 127, 0, 256, 0, 0, 2048, 7228, 16188, 32572, 0, 131071, 262143, 262143, 1048575, 2097151]) [
fa 8 0 3, ln 9 8, ld 10 1 3, fa 11 1 4, ln 12 11, p2 13 79 10 12, ia 14 3 9 13, ld 15 3 14, fa 16 0 3, ln 17 16, ld 18 1 3, fa 19 0 4, ln 20 19, p2 21 79 18 20,
ia 22 3 17 21, ld 23 3 22, ld 24 2 5, p3 25 120 15 23 24, ex 26 0 25, ex 27 1 25, st 2 6 26, mv 7 27] [6, 7])
.ret)),
[.cell 6 (some 2), .tmp 7]⟩
theorem x83_ok : ck x83 83 := by decide +kernel
/-- peloton/pelotonref07.Rekeyed -/
def x84 : XFunc := ⟨3,
(.seq
(.region none [
bx 3 0, bx 4 1, bx 5 2, ⟨some 6, .alloc z2, none⟩] [3, 4, 5, 6])
(.seq
(.region none [
ld 9 5 3, ⟨some 10, .call .own 60 [(.t 9)], none⟩, ⟨some 7, .alloc z2, none⟩,
st 5 7 10] [4, 5, 6, 7])
(.seq
(.region none [
fa 11 4 7, ln 12 11, fa 13 0 4, ln 14 13, ia 15 1 12 14, ln 16 15, mv 8 16] [5, 6, 7, 8])
(.seq
(.region none [
fa 17 3 7, ln 18 17, mv 19 8, ld 20 2 5, ia 21 5 18 19, fa 22 0 21, st 2 22 20] [6, 7, 8])
(.seq
(.region (some [0, 0, 0, 6, 15]) [
ld 23 5 7, ld 24 5 7, mv 25 8, ⟨some 26, .call .fp 119 [(.t 24), (.t 25)], none⟩, ⟨some 27, .call .fp 118 [(.t 23), (.t 26)], none⟩] [6, 7])
(.seq
(.region none [
ld 28 5 7, st 5 6 28] [6])
.ret)))))),
[.cell 6 (some 5)]⟩
theorem x84_ok : ck x84 84 := by decide +kernel
/-- peloton/pelotonref06.Open -/
def x85 : XFunc := ⟨1,
(.seq
(.region none [
bx 1 0, ⟨some 2, .mov (.c (.bool false)), none⟩] [1])
(.seq
(.region none [
fa 4 2 1, ln 5 4, le 6 5, mv 3 6] [1, 3])
(.seq
(.region (some [0, 1, 3, 7, 15, 7, 39, 7, 135, 487, 999, 2047, 4095, 8191, 16383, 32767]) [
mv 7 3, bc 8 .gtr 7 0, mv 9 8, ⟨some 10, .fadr 0 (.t 1), (some (9, true))⟩, ⟨some 11, .load none (.t 10), (some (9, true))⟩,
⟨some 12, .fadr 2 (.t 1), (some (9, true))⟩, ⟨some 13, .load none (.t 12), (some (9, true))⟩, ⟨some 14, .mov (.t 3), (some (9, true))⟩,
⟨some 15, .bin .sub (.t 14) (.c (.int .i64 1)), (some (9, true))⟩, ⟨some 16, .iadr 1 (.t 13) (.t 15), (some (9, true))⟩,
⟨some 17, .load none (.t 16), (some (9, true))⟩, ⟨some 18, .iadr 1 (.t 11) (.t 17), (some (9, true))⟩, ⟨some 19, .load none (.t 18), (some (9, true))⟩,
⟨some 20, .bin .lss (.t 19) (.c (.int .i64 1000000)), (some (9, true))⟩, pan 21 9 20, mv 2 21] [2])
.ret))),
[.tmp 2]⟩
theorem x85_ok : ck x85 85 := by decide +kernel
/-- peloton/pelotonref07.Pushed -/
def x86 : XFunc := ⟨3,
(.seq
(.region none [
bx 3 0, bx 4 1, ⟨some 6, .alloc z2, none⟩,
⟨some 7, .alloc z8, none⟩] [2, 3, 4, 6, 7])
(.seq
(.region none [
ld 11 5 3, ⟨some 12, .call .own 60 [(.t 11)], none⟩, ⟨some 8, .alloc z2, none⟩,
st 5 8 12] [2, 4, 6, 7, 8])
(.seq
(.region none [
fa 14 0 8, ld 15 3 14, p1 16 121 15, mv 13 16, ex 17 0 13, ex 18 1 13, ⟨some 9, .alloc z4, none⟩,
⟨some 10, .alloc z8, none⟩, st 3 9 17, st 2 10 18] [2, 4, 6, 7, 8, 9, 10])
(.seq
(.region none [
ld 19 3 9, fa 20 0 8, st 3 20 19] [2, 4, 6, 7, 8, 10])
(.seq
(.region none [
fa 21 3 8, ln 22 21, ld 23 2 4, mv 24 2, ld 25 2 10,
⟨some 26, .build z3 [(0, 2, (.t 23)), (2, 1, (.t 24)), (3, 2, (.t 25))], none⟩,
⟨some 27, .mkrow 5 1 z3 [(0, (.t 26))], none⟩, ap 28 5 22 27, fa 29 3 8,
st 1 29 28] [6, 7, 8, 10])
(.seq
(.region none [
fa 30 4 8, ln 31 30, fa 32 0 10, ln 33 32, fa 34 3 8, ln 35 34, le 36 35, bc 37 .sub 36 1, ia 38 1 31 33, st 1 38 37] [6, 7, 8, 10])
(.seq
(.region none [
ld 39 5 8, fa 40 3 8, ln 41 40, le 42 41, bc 43 .sub 42 1, ⟨some 44, .call .fp 119 [(.t 39), (.t 43)], none⟩] [6, 7, 8, 10])
(.seq
(.region (some [0, 0, 1, 7]) [
ld 45 5 8, ld 46 2 10, st 5 6 45, st 2 7 46] [6, 7])
.ret)))))))),
[.cell 6 (some 5), .cell 7 (some 2)]⟩
theorem x86_ok : ck x86 86 := by decide +kernel
/-- peloton/pelotonref08.Add -/
def x87 : XFunc := ⟨2,
(.seq
(.region none [
bx 2 0, bx 3 1, ⟨some 4, .alloc z7, none⟩, ic 5 0, ic 6 0] [2, 3, 4])
(.seq
(.seq
(.region none [
ld 8 2 2, p1 9 122 8, bc 10 .neq 9 0, mv 11 10, ⟨some 12, .load (some 2) (.t 3), (some (11, false))⟩, ⟨some 13, .call .pur 123 [(.t 12)], (some (11, false))⟩,
⟨some 14, .un .not (.t 13), (some (11, false))⟩, por 15 11 14] [2, 3, 4, 15])
(.cond (.t 15)
(.seq
(.region none [
⟨some 16, .build z7 [], none⟩, st 2 4 16, ic 5 0, ic 6 8] [4, 5, 6])
.ret)
.skip))
(.seq
(.seq
(.region none [
ld 17 2 2, ld 18 2 3, p2 19 55 17 18] [2, 3, 4, 19])
(.cond (.t 19)
(.seq
(.region none [
⟨some 20, .build z7 [], none⟩, st 2 4 20, ic 5 0, ic 6 14] [4, 5, 6])
.ret)
.skip))
(.seq
(.seq
(.region none [
fa 21 1 2, ln 22 21, le 23 22, bc 24 .eql 23 200, mv 25 24, ⟨some 26, .fadr 0 (.t 2), (some (25, false))⟩, ⟨some 27, .load none (.t 26), (some (25, false))⟩,
⟨some 28, .bin .eql (.t 27) (.c (.int .i64 1000000)), (some (25, false))⟩, por 29 25 28] [2, 3, 4, 29])
(.cond (.t 29)
(.seq
(.region none [
⟨some 30, .build z7 [], none⟩, st 2 4 30, ic 5 0, ic 6 18] [4, 5, 6])
.ret)
.skip))
(.seq
(.region none [
ld 31 2 2, ⟨some 32, .call .own 59 [(.t 31)], none⟩, ⟨some 7, .alloc z7, none⟩, st 2 7 32] [2, 3, 4, 7])
(.seq
(.region none [
fa 33 1 7, ln 34 33, fa 35 0 2, ln 36 35, ld 37 2 3, ⟨some 38, .build z5 [(0, 1, (.t 36)), (1, 2, (.t 37))], none⟩,
⟨some 39, .mkrow 3 1 z5 [(0, (.t 38))], none⟩, ap 40 3 34 39, fa 41 1 7, st 1 41 40] [2, 4, 7])
(.seq
(.region none [
fa 42 0 7, ln 43 42, bc 44 .add 43 1, fa 45 0 7, st 1 45 44] [2, 4, 7])
(.seq
(.region (some [0, 0, 2, 1, 15, 31]) [
ld 46 2 7, fa 47 0 2, ln 48 47, st 2 4 46, mv 5 48, ic 6 0] [4, 5, 6])
.ret)))))))),
[.cell 4 (some 2), .tmp 5, .tmp 6]⟩
theorem x87_ok : ck x87 87 := by decide +kernel
/-- peloton/pelotonref06.Begin -/
def x88 : XFunc := ⟨1,
(.seq
(.region none [
⟨some 2, .alloc z4, none⟩] [0, 2])
(.seq
(.region (some [0, 1, 0, 4, 15, 0, 63]) [
mv 5 0, ⟨some 6, .mks 1 [.int .i64 0] (.t 5) (.t 5), none⟩, mv 7 0, ⟨some 8, .mks 1 [.bool false] (.t 7) (.t 7), none⟩,
⟨some 9, .build z4 [(0, 1, (.t 6)), (1, 1, (.t 8))], none⟩,
⟨some 3, .alloc z4, none⟩, st 3 3 9] [0, 2, 3])
(.seq
(.seq
(.region none [
mv 10 0, bc 11 .sub 10 1, mv 4 11] [2, 3, 4])
(.block 0
(.loop [(2, none), (3, none), (4, none), (3, some 3001)]
(.seq
(.seq
(.region none [
mv 12 4, bc 13 .geq 12 0] [2, 3, 4, 13])
(.cond (.t 13)
.skip
(.exit 0)))
(.seq
(.block 1
(.region none [
fa 16 2 3, ln 17 16, mv 18 4, ⟨some 19, .mkrow 1 1 [.int .i64 0] [(0, (.t 18))], none⟩, ap 20 1 17 19, fa 21 2 3, st 1 21 20] [2, 3, 4]))
(.region none [
mv 14 4, bc 15 .sub 14 1, mv 4 15] [2, 3, 4]))))))
(.seq
(.region none [
ld 22 3 3, st 3 2 22] [2])
.ret)))),
[.cell 2 (some 3)]⟩
theorem x88_ok : ck x88 88 := by decide +kernel
/-- peloton/pelotonref06.Twin -/
def x89 : XFunc := ⟨1,
(.seq
(.region none [
bx 1 0, ⟨some 2, .alloc z4, none⟩] [1, 2])
(.seq
(.region (some [0, 0, 2, 7, 0, 0, 32, 127, 0, 0, 512, 2047, 4095, 8191]) [
⟨some 3, .mkrow 1 0 [.int .i64 0] [], none⟩, fa 4 0 1, ln 5 4, ap 6 1 3 5, ⟨some 7, .mkrow 1 0 [.bool false] [], none⟩, fa 8 1 1, ln 9 8, ap 10 1 7 9,
⟨some 11, .mkrow 1 0 [.int .i64 0] [], none⟩, fa 12 2 1, ln 13 12, ap 14 1 11 13,
⟨some 15, .build z4 [(0, 1, (.t 6)), (1, 1, (.t 10)), (2, 1, (.t 14))], none⟩, st 3 2 15] [2])
.ret)),
[.cell 2 (some 3)]⟩
theorem x89_ok : ck x89 89 := by decide +kernel
/-- peloton/pelotonref01.Product -/
def x90 : XFunc := ⟨2,
(.seq
(.region none [
⟨some 4, .alloc z6, none⟩] [0, 1, 4])
(.seq
(.region none [
mv 6 0, p1 7 125 6, mv 8 1, p1 9 125 8, p2 10 124 7 9, ⟨some 5, .alloc z6, none⟩, st 3 5 10] [0, 1, 4, 5])
(.seq
(.region none [
mv 11 0, bc 12 .lss 11 0, mv 13 1, bc 14 .lss 13 0, ⟨some 15, .binb true (.t 12) (.t 14), none⟩, mv 16 15, ⟨some 17, .mov (.t 0), (some (16, true))⟩,
⟨some 18, .bin .neq (.t 17) (.c (.int .i64 0)), (some (16, true))⟩, ⟨some 19, .mov (.t 18), (some (16, true))⟩, ⟨some 20, .mov (.t 1), (some (19, true))⟩,
⟨some 21, .bin .neq (.t 20) (.c (.int .i64 0)), (some (19, true))⟩, ⟨some 22, .pick (.t 19) (.t 21) (.c (.bool false)), (some (16, true))⟩, pan 23 16 22,
fa 24 0 5, st 1 24 23] [4, 5])
(.seq
(.region none [
ld 25 3 5, st 3 4 25] [4])
.ret)))),
[.cell 4 (some 3)]⟩
theorem x90_ok : ck x90 90 := by decide +kernel
/-- peloton/pelotonref01.Sign -/
def x91 : XFunc := ⟨1,
(.seq
(.region none [
bx 1 0, ic 2 0] [1])
(.seq
(.seq
(.region none [
fa 3 1 1, ln 4 3, ⟨some 5, .bin .eql (.t 4) (.c (.int .u64 0)), none⟩, mv 6 5, ⟨some 7, .fadr 2 (.t 1), (some (6, true))⟩,
⟨some 8, .load none (.t 7), (some (6, true))⟩, ⟨some 9, .bin .eql (.t 8) (.c (.int .u64 0)), (some (6, true))⟩, pan 10 6 9] [1, 10])
(.cond (.t 10)
(.seq
(.region none [
ic 2 0] [2])
.ret)
.skip))
(.seq
(.seq
(.region none [
fa 11 0 1, ln 12 11] [12])
(.cond (.t 12)
(.seq
(.region none [
ic 2 (-1)] [2])
.ret)
.skip))
(.seq
(.region none [
ic 2 1] [2])
.ret)))),
[.tmp 2]⟩
theorem x91_ok : ck x91 91 := by decide +kernel
/-- peloton/pelotonref01.less -/
def x92 : XFunc := ⟨2,
(.seq
(.region none [
bx 2 0, bx 3 1, ic 4 0] [2, 3])
(.seq
(.seq
(.region none [
fa 5 1 2, ln 6 5, fa 7 1 3, ln 8 7, bt 9 .neq 6 8] [2, 3, 9])
(.cond (.t 9)
(.seq
(.seq
(.region none [
fa 10 1 2, ln 11 10, fa 12 1 3, ln 13 12, bt 14 .lss 11 13] [14])
(.cond (.t 14)
(.seq
(.region none [
ic 4 (-1)] [4])
.ret)
.skip))
(.seq
(.region none [
ic 4 1] [4])
.ret))
.skip))
(.seq
(.seq
(.region none [
fa 15 2 2, ln 16 15, fa 17 2 3, ln 18 17, bt 19 .neq 16 18] [2, 3, 19])
(.cond (.t 19)
(.seq
(.seq
(.region none [
fa 20 2 2, ln 21 20, fa 22 2 3, ln 23 22, bt 24 .lss 21 23] [24])
(.cond (.t 24)
(.seq
(.region none [
ic 4 (-1)] [4])
.ret)
.skip))
(.seq
(.region none [
ic 4 1] [4])
.ret))
.skip))
(.seq
(.region none [
ic 4 0] [4])
.ret)))),
[.tmp 4]⟩
theorem x92_ok : ck x92 92 := by decide +kernel
/-- peloton/ratio.gcd -/
def x93 : XFunc := ⟨2,
(.seq
(.region none [
⟨some 4, .mov (.c (.int .u64 0)), none⟩] [0, 1])
(.seq
(.block 0
(.loop [(0, none), (1, none)]
(.seq
(.seq
(.region none [
mv 5 1, ⟨some 6, .bin .gtr (.t 5) (.c (.int .u64 0)), none⟩] [0, 1, 6])
(.cond (.t 6)
.skip
(.exit 0)))
(.block 1
(.region (some [0, 0, 0, 6, 3, 31]) [
mv 7 1, mv 8 0, mv 9 1, bt 10 .rem 8 9, mv 0 7, mv 1 10] [0, 1])))))
(.seq
(.region none [
mv 11 0, mv 4 11] [4])
.ret))),
[.tmp 4]⟩
theorem x93_ok : ck x93 93 := by decide +kernel
/-- peloton/ratio.abs -/
def x94 : XFunc := ⟨1,
(.seq
(.region none [
⟨some 2, .mov (.c (.int .u64 0)), none⟩] [0])
(.seq
(.seq
(.region none [
mv 3 0, bc 4 .lss 3 0] [0, 4])
(.cond (.t 4)
(.seq
(.region none [
mv 5 0, ⟨some 6, .conv .u64 (.t 5), none⟩, ⟨some 7, .un .neg (.t 6), none⟩, mv 2 7] [2])
.ret)
.skip))
(.seq
(.region none [
mv 8 0, ⟨some 9, .conv .u64 (.t 8), none⟩, mv 2 9] [2])
.ret))),
[.tmp 2]⟩
theorem x94_ok : ck x94 94 := by decide +kernel
/-- peloton/cert.valid -/
def x95 : XFunc := ⟨1,
(.seq
(.region none [
bx 1 0, ⟨some 2, .mov (.c (.bool false)), none⟩] [1])
(.seq
(.region none [
fa 3 0 1, ln 4 3, fa 5 1 1, ln 6 5, ⟨some 7, .mm false (.t 4) [(.t 6)], none⟩, bc 8 .geq 7 0, mv 9 8, ⟨some 10, .fadr 0 (.t 1), (some (9, true))⟩,
⟨some 11, .load none (.t 10), (some (9, true))⟩, ⟨some 12, .fadr 1 (.t 1), (some (9, true))⟩, ⟨some 13, .load none (.t 12), (some (9, true))⟩,
⟨some 14, .mm true (.t 11) [(.t 13)], (some (9, true))⟩, ⟨some 15, .bin .leq (.t 14) (.c (.int .i64 65535)), (some (9, true))⟩, pan 16 9 15, mv 17 16,
⟨some 18, .fadr 0 (.t 1), (some (17, true))⟩, ⟨some 19, .load none (.t 18), (some (17, true))⟩, ⟨some 20, .fadr 1 (.t 1), (some (17, true))⟩,
⟨some 21, .load none (.t 20), (some (17, true))⟩, ⟨some 22, .bin .neq (.t 19) (.t 21), (some (17, true))⟩, pan 23 17 22, mv 2 23] [2])
.ret)),
[.tmp 2]⟩
theorem x95_ok : ck x95 95 := by decide +kernel
end Go.Proofs.YtaijhghcfanhnaaGreat
